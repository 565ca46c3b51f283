/- Printed by a program of this claim: each call returns what the plain function of its name gives. -/
import Derived.Test.YtidbgejnkpoeeaaW1
import Derived.Test.YtidbgejnkpoeeaaW3
set_option linter.unusedVariables false
namespace Go.Proofs.Ytidbgejnkpoeeaa
open Go Go.Ox Go.RowKit
set_option maxRecDepth 100000 in
set_option maxHeartbeats 40000000 in
theorem c_flow_Total_Plus (w : World) (t1 : T_flow_Total) (u2 : T_flow_Total) (r : T_flow_Total) (hF : F_flow_Total_Plus t1 u2 = some r) :
  CallsR Try.prog 12 [.agg #[v64 t1.f_Packets, v64 t1.f_Bytes], .agg #[v64 u2.f_Packets, v64 u2.f_Bytes]] w (fun v w' => v = .agg #[v64 r.f_Packets, v64 r.f_Bytes] ∧ Mem w [] w' []) := by
 refine calls_KC Try.func12 rfl Try.ntmps12 rfl ?_
 have hM := Mem.init w
 unfold F_flow_Total_Plus at hF
 refine sr fun Q3 hQ3 => ?_
 refine RL.eff (E.box (vs := [v64 t1.f_Packets, v64 t1.f_Bytes]) hM rfl rfl) rfl fun v w5 hv => ?_
 clear hM
 obtain ⟨g4, rfl, hM, hf⟩ := hv
 refine RL.eff (E.box (vs := [v64 u2.f_Packets, v64 u2.f_Bytes]) hM rfl rfl) rfl fun v w8 hv => ?_
 clear hM
 obtain ⟨g7, rfl, hM, hf⟩ := hv
 refine RL.eff (E.alloc hM ze37) rfl fun v w11 hv => ?_
 clear hM
 obtain ⟨g10, rfl, hM, hf⟩ := hv
 refine nt hQ3 ?_
 clear hQ3 Q3
 refine KC.seqH fun Q13 hQ13 => ?_
 replace hM := hM.drewN 1
 refine KC.draw [] [11] [4, 9, 11] [0, 2, 5, 7] (.ofList [0, 1, 2, 3, 5, 6, 7, 8, 4, 9, 10, 11]) moP (by kernel_rfl) ?_
 refine RD.p rfl rfl rfl rfl (fun w' => O.fldA fl37_0 (by decide) rfl) ?_
 refine RD.q rfl rfl rfl rfl (fun w' hf => O.load sc35 rfl (Cs.adds [0] ((hM.bx (i := 0) rfl).fut hf) rfl)) ?_
 refine RD.p rfl rfl rfl rfl (fun w' => O.fldA fl37_0 (by decide) rfl) ?_
 refine RD.q rfl rfl rfl rfl (fun w' hf => O.load sc35 rfl (Cs.adds [0] ((hM.bx (i := 1) rfl).fut hf) rfl)) ?_
 refine RD.p rfl rfl rfl rfl (fun w' => O.fldA fl37_1 (by decide) rfl) ?_
 refine RD.q rfl rfl rfl rfl (fun w' hf => O.load sc35 rfl (Cs.adds [1] ((hM.bx (i := 0) rfl).fut hf) rfl)) ?_
 refine RD.p rfl rfl rfl rfl (fun w' => O.fldA fl37_1 (by decide) rfl) ?_
 refine RD.q rfl rfl rfl rfl (fun w' hf => O.load sc35 rfl (Cs.adds [1] ((hM.bx (i := 1) rfl).fut hf) rfl)) ?_
 refine obindE hF fun y14 hx15 hF => ?_
 refine RD.mcall rfl rfl trivial Try.func31 bd31 rfl rfl (c_flow_plus _ t1.f_Packets u2.f_Packets _ hx15) fun v w16 hv => ?_
 obtain ⟨rfl, hN17⟩ := hv
 refine ⟨fun _ => hN17.fut, ?_⟩
 replace hM := hM.call0 hN17
 refine obindE hF fun y18 hx19 hF => ?_
 refine RD.mcall rfl rfl trivial Try.func31 bd31 rfl rfl (c_flow_plus _ t1.f_Bytes u2.f_Bytes _ hx19) fun v w20 hv => ?_
 obtain ⟨rfl, hN21⟩ := hv
 refine ⟨fun _ => hN21.fut, ?_⟩
 replace hM := hM.call0 hN21
 refine RD.q rfl rfl rfl rfl (fun w' hf => O.bld (cs := [v64 y14, v64 y18]) bt37 rfl (by kernel_rfl)) ?_
 refine RD.meffs rfl rfl rfl (E.stB (j := 2) (off := 0) (vs := [v64 y14, v64 y18]) (cs' := [v64 y14, v64 y18]) hM rfl sz37 rfl (adds_eq [] rfl) rfl rfl (One.all rfl) rfl rfl) fun w22 hM1 => ?_
 clear hM
 have hM := hM1
 clear hM1
 refine RD.nil ?_
 refine KQ.thn hQ13 ?_
 clear hQ13 Q13
 refine KC.ret ?_
 have hE := Option.some.inj hF
 clear hF
 subst hE
 have hb23 := hM.bx (i := 2) rfl
 replace hM := hM.pick [] rfl (by decide)
 refine KQ.rets Try.results12 (RVs.cons (RV.cN (cs := [v64 y14, v64 y18]) rfl ag37 hb23) RVs.nil) ?_
 exact ⟨_, rfl, rfl, hM⟩
set_option maxRecDepth 100000 in
set_option maxHeartbeats 40000000 in
theorem c_model_totals_add (w : World) (g2 : Nat) (t1 : FM62) (hL7 : Lent w [.res [g2] (MR62 g2 t1)]) (kv5 : T_packet_Key) (xv6 : T_flow_Total) (r : FM62) (hF : F_model_totals_add t1 kv5 xv6 = some r) :
  CallsR Try.prog 37 [.map (some g2), .agg #[vB kv5.f_Src.f_Six, o8 kv5.f_Src.f_B 0, o8 kv5.f_Src.f_B 1, o8 kv5.f_Src.f_B 2, o8 kv5.f_Src.f_B 3, o8 kv5.f_Src.f_B 4, o8 kv5.f_Src.f_B 5, o8 kv5.f_Src.f_B 6, o8 kv5.f_Src.f_B 7, o8 kv5.f_Src.f_B 8, o8 kv5.f_Src.f_B 9, o8 kv5.f_Src.f_B 10, o8 kv5.f_Src.f_B 11, o8 kv5.f_Src.f_B 12, o8 kv5.f_Src.f_B 13, o8 kv5.f_Src.f_B 14, o8 kv5.f_Src.f_B 15, vB kv5.f_Dst.f_Six, o8 kv5.f_Dst.f_B 0, o8 kv5.f_Dst.f_B 1, o8 kv5.f_Dst.f_B 2, o8 kv5.f_Dst.f_B 3, o8 kv5.f_Dst.f_B 4, o8 kv5.f_Dst.f_B 5, o8 kv5.f_Dst.f_B 6, o8 kv5.f_Dst.f_B 7, o8 kv5.f_Dst.f_B 8, o8 kv5.f_Dst.f_B 9, o8 kv5.f_Dst.f_B 10, o8 kv5.f_Dst.f_B 11, o8 kv5.f_Dst.f_B 12, o8 kv5.f_Dst.f_B 13, o8 kv5.f_Dst.f_B 14, o8 kv5.f_Dst.f_B 15, v8 kv5.f_Proto, v16 kv5.f_SrcPort, v16 kv5.f_DstPort], .agg #[v64 xv6.f_Packets, v64 xv6.f_Bytes]] w (fun v w' => v = .tuple #[] ∧ Mem w [some g2] w' [.res [g2] (MR62 g2 r)]) := by
 refine calls_KC Try.func37 rfl Try.ntmps37 rfl ?_
 have hM : Mem w [some g2] w [.res [g2] (MR62 g2 t1)] := Mem.lendN hL7
 unfold F_model_totals_add at hF
 refine sr fun Q8 hQ8 => ?_
 refine RL.eff (E.box (vs := [vB kv5.f_Src.f_Six, o8 kv5.f_Src.f_B 0, o8 kv5.f_Src.f_B 1, o8 kv5.f_Src.f_B 2, o8 kv5.f_Src.f_B 3, o8 kv5.f_Src.f_B 4, o8 kv5.f_Src.f_B 5, o8 kv5.f_Src.f_B 6, o8 kv5.f_Src.f_B 7, o8 kv5.f_Src.f_B 8, o8 kv5.f_Src.f_B 9, o8 kv5.f_Src.f_B 10, o8 kv5.f_Src.f_B 11, o8 kv5.f_Src.f_B 12, o8 kv5.f_Src.f_B 13, o8 kv5.f_Src.f_B 14, o8 kv5.f_Src.f_B 15, vB kv5.f_Dst.f_Six, o8 kv5.f_Dst.f_B 0, o8 kv5.f_Dst.f_B 1, o8 kv5.f_Dst.f_B 2, o8 kv5.f_Dst.f_B 3, o8 kv5.f_Dst.f_B 4, o8 kv5.f_Dst.f_B 5, o8 kv5.f_Dst.f_B 6, o8 kv5.f_Dst.f_B 7, o8 kv5.f_Dst.f_B 8, o8 kv5.f_Dst.f_B 9, o8 kv5.f_Dst.f_B 10, o8 kv5.f_Dst.f_B 11, o8 kv5.f_Dst.f_B 12, o8 kv5.f_Dst.f_B 13, o8 kv5.f_Dst.f_B 14, o8 kv5.f_Dst.f_B 15, v8 kv5.f_Proto, v16 kv5.f_SrcPort, v16 kv5.f_DstPort]) hM rfl rfl) rfl fun v w10 hv => ?_
 clear hM
 obtain ⟨g9, rfl, hM, hf⟩ := hv
 refine RL.eff (E.box (vs := [v64 xv6.f_Packets, v64 xv6.f_Bytes]) hM rfl rfl) rfl fun v w13 hv => ?_
 clear hM
 obtain ⟨g12, rfl, hM, hf⟩ := hv
 refine nt hQ8 ?_
 clear hQ8 Q8
 replace hM := hM.drewN 1
 refine KC.draw [] [7] [6, 7] [0, 2] (.ofList [0, 1, 2, 3, 4, 5, 6, 7]) moP (by kernel_rfl) ?_
 refine RD.p rfl rfl rfl rfl (fun w' => O.move rfl) ?_
 refine RD.q rfl rfl rfl rfl (fun w' hf => O.loadN (cs := [vB kv5.f_Src.f_Six, o8 kv5.f_Src.f_B 0, o8 kv5.f_Src.f_B 1, o8 kv5.f_Src.f_B 2, o8 kv5.f_Src.f_B 3, o8 kv5.f_Src.f_B 4, o8 kv5.f_Src.f_B 5, o8 kv5.f_Src.f_B 6, o8 kv5.f_Src.f_B 7, o8 kv5.f_Src.f_B 8, o8 kv5.f_Src.f_B 9, o8 kv5.f_Src.f_B 10, o8 kv5.f_Src.f_B 11, o8 kv5.f_Src.f_B 12, o8 kv5.f_Src.f_B 13, o8 kv5.f_Src.f_B 14, o8 kv5.f_Src.f_B 15, vB kv5.f_Dst.f_Six, o8 kv5.f_Dst.f_B 0, o8 kv5.f_Dst.f_B 1, o8 kv5.f_Dst.f_B 2, o8 kv5.f_Dst.f_B 3, o8 kv5.f_Dst.f_B 4, o8 kv5.f_Dst.f_B 5, o8 kv5.f_Dst.f_B 6, o8 kv5.f_Dst.f_B 7, o8 kv5.f_Dst.f_B 8, o8 kv5.f_Dst.f_B 9, o8 kv5.f_Dst.f_B 10, o8 kv5.f_Dst.f_B 11, o8 kv5.f_Dst.f_B 12, o8 kv5.f_Dst.f_B 13, o8 kv5.f_Dst.f_B 14, o8 kv5.f_Dst.f_B 15, v8 kv5.f_Proto, v16 kv5.f_SrcPort, v16 kv5.f_DstPort]) ag34 rfl (Cs.addsN [] ((hM.bx (i := 1) rfl).fut hf) rfl)) ?_
 refine RD.p rfl rfl rfl rfl (fun w' => O.move rfl) ?_
 refine RD.q rfl rfl rfl rfl (fun w' hf => O.loadN (cs := [vB kv5.f_Src.f_Six, o8 kv5.f_Src.f_B 0, o8 kv5.f_Src.f_B 1, o8 kv5.f_Src.f_B 2, o8 kv5.f_Src.f_B 3, o8 kv5.f_Src.f_B 4, o8 kv5.f_Src.f_B 5, o8 kv5.f_Src.f_B 6, o8 kv5.f_Src.f_B 7, o8 kv5.f_Src.f_B 8, o8 kv5.f_Src.f_B 9, o8 kv5.f_Src.f_B 10, o8 kv5.f_Src.f_B 11, o8 kv5.f_Src.f_B 12, o8 kv5.f_Src.f_B 13, o8 kv5.f_Src.f_B 14, o8 kv5.f_Src.f_B 15, vB kv5.f_Dst.f_Six, o8 kv5.f_Dst.f_B 0, o8 kv5.f_Dst.f_B 1, o8 kv5.f_Dst.f_B 2, o8 kv5.f_Dst.f_B 3, o8 kv5.f_Dst.f_B 4, o8 kv5.f_Dst.f_B 5, o8 kv5.f_Dst.f_B 6, o8 kv5.f_Dst.f_B 7, o8 kv5.f_Dst.f_B 8, o8 kv5.f_Dst.f_B 9, o8 kv5.f_Dst.f_B 10, o8 kv5.f_Dst.f_B 11, o8 kv5.f_Dst.f_B 12, o8 kv5.f_Dst.f_B 13, o8 kv5.f_Dst.f_B 14, o8 kv5.f_Dst.f_B 15, v8 kv5.f_Proto, v16 kv5.f_SrcPort, v16 kv5.f_DstPort]) ag34 rfl (Cs.addsN [] ((hM.bx (i := 1) rfl).fut hf) rfl)) ?_
 refine RD.q rfl rfl rfl rfl (fun w' hf => O.lkR (k := kv5) (ks := [vB kv5.f_Src.f_Six, o8 kv5.f_Src.f_B 0, o8 kv5.f_Src.f_B 1, o8 kv5.f_Src.f_B 2, o8 kv5.f_Src.f_B 3, o8 kv5.f_Src.f_B 4, o8 kv5.f_Src.f_B 5, o8 kv5.f_Src.f_B 6, o8 kv5.f_Src.f_B 7, o8 kv5.f_Src.f_B 8, o8 kv5.f_Src.f_B 9, o8 kv5.f_Src.f_B 10, o8 kv5.f_Src.f_B 11, o8 kv5.f_Src.f_B 12, o8 kv5.f_Src.f_B 13, o8 kv5.f_Src.f_B 14, o8 kv5.f_Src.f_B 15, vB kv5.f_Dst.f_Six, o8 kv5.f_Dst.f_B 0, o8 kv5.f_Dst.f_B 1, o8 kv5.f_Dst.f_B 2, o8 kv5.f_Dst.f_B 3, o8 kv5.f_Dst.f_B 4, o8 kv5.f_Dst.f_B 5, o8 kv5.f_Dst.f_B 6, o8 kv5.f_Dst.f_B 7, o8 kv5.f_Dst.f_B 8, o8 kv5.f_Dst.f_B 9, o8 kv5.f_Dst.f_B 10, o8 kv5.f_Dst.f_B 11, o8 kv5.f_Dst.f_B 12, o8 kv5.f_Dst.f_B 13, o8 kv5.f_Dst.f_B 14, o8 kv5.f_Dst.f_B 15, v8 kv5.f_Proto, v16 kv5.f_SrcPort, v16 kv5.f_DstPort]) (zv := (T_flow_Total.mk 0 0)) (vs := [v64 (((t1 kv5).getD (T_flow_Total.mk 0 0)).f_Packets), v64 (((t1 kv5).getD (T_flow_Total.mk 0 0)).f_Bytes)]) mt62 ((hM.mapR (i := 0) rfl).fut hf) (by kernel_rfl) rfl rfl rfl rfl) ?_
 refine RD.q rfl rfl rfl rfl (fun w' hf => O.loadN (cs := [v64 xv6.f_Packets, v64 xv6.f_Bytes]) ag37 rfl (Cs.addsN [] ((hM.bx (i := 2) rfl).fut hf) rfl)) ?_
 refine obindE hF fun y15 hx16 hF => ?_
 refine RD.mcall rfl rfl trivial Try.func12 bd12 rfl rfl (c_flow_Total_Plus _ (T_flow_Total.mk (((t1 kv5).getD (T_flow_Total.mk 0 0)).f_Packets) (((t1 kv5).getD (T_flow_Total.mk 0 0)).f_Bytes)) xv6 _ hx16) fun v w17 hv => ?_
 obtain ⟨rfl, hN18⟩ := hv
 refine ⟨fun _ => hN18.fut, ?_⟩
 replace hM := hM.call0 hN18
 refine RD.meffs rfl rfl rfl (E.mup (k := kv5) (u := y15) (ks := [vB kv5.f_Src.f_Six, o8 kv5.f_Src.f_B 0, o8 kv5.f_Src.f_B 1, o8 kv5.f_Src.f_B 2, o8 kv5.f_Src.f_B 3, o8 kv5.f_Src.f_B 4, o8 kv5.f_Src.f_B 5, o8 kv5.f_Src.f_B 6, o8 kv5.f_Src.f_B 7, o8 kv5.f_Src.f_B 8, o8 kv5.f_Src.f_B 9, o8 kv5.f_Src.f_B 10, o8 kv5.f_Src.f_B 11, o8 kv5.f_Src.f_B 12, o8 kv5.f_Src.f_B 13, o8 kv5.f_Src.f_B 14, o8 kv5.f_Src.f_B 15, vB kv5.f_Dst.f_Six, o8 kv5.f_Dst.f_B 0, o8 kv5.f_Dst.f_B 1, o8 kv5.f_Dst.f_B 2, o8 kv5.f_Dst.f_B 3, o8 kv5.f_Dst.f_B 4, o8 kv5.f_Dst.f_B 5, o8 kv5.f_Dst.f_B 6, o8 kv5.f_Dst.f_B 7, o8 kv5.f_Dst.f_B 8, o8 kv5.f_Dst.f_B 9, o8 kv5.f_Dst.f_B 10, o8 kv5.f_Dst.f_B 11, o8 kv5.f_Dst.f_B 12, o8 kv5.f_Dst.f_B 13, o8 kv5.f_Dst.f_B 14, o8 kv5.f_Dst.f_B 15, v8 kv5.f_Proto, v16 kv5.f_SrcPort, v16 kv5.f_DstPort]) (us := [v64 y15.f_Packets, v64 y15.f_Bytes]) mt62 hM (j := 0) rfl rfl rfl rfl rfl rfl) fun w19 hM1 => ?_
 clear hM
 have hM := hM1
 clear hM1
 refine RD.nil ?_
 have hE := Option.some.inj hF
 clear hF
 subst hE
 replace hM := hM.pick [0] rfl (by decide)
 refine KQ.endr Try.results37 RVs.nil ?_
 exact ⟨_, rfl, rfl, hM⟩
set_option maxRecDepth 100000 in
set_option maxHeartbeats 40000000 in
theorem c_model_Model_forward (w : World) (g2 : Nat) (tg19 : TypeId) (m1 : T_model_Model) (g4 : Nat) (g6 : Nat) (g8 : Nat) (A10 : Option Addr) (c11 : Nat) (css13 : List (List Value)) (Z14 : List Nat) (A16 : Option Addr) (c17 : Nat) (hL25 : Lent w [.box g2 tg19 [.map (some g4), .map (some g6), .map (some g8), .slice A10 (m1.f_entries).length c11, .slice A16 (m1.f_line).length c17, v64 m1.f_first, v32 m1.f_boot], .res [g4] (MR62 g4 m1.f_forwarded), .res [g6] (MR62 g6 m1.f_cached), .res [g8] (MR62 g8 m1.f_lost), .row A10 c11 47 6 (m1.f_entries).length (css13).flatten, .res Z14 (Els RO_model_Entry 6 m1.f_entries css13 Z14), .row A16 c17 3 1 (m1.f_line).length ((m1.f_line).flatMap (eI .i64))]) (nv20 : T_model_Note) (A21 : Option Addr) (c22 : Nat) (hr23 : Rd w A21 c22 44 nv20.f_Records.length (nv20.f_Records.flatMap e_flow_Record)) (ho24 : Off ([some g2] ++ ([some g4] ++ ([some g6] ++ ([some g8] ++ ([rblk A10 c11] ++ (Z14.map some ++ ([rblk A16 c17] ++ ([])))))))) nv20.f_Records.length A21) (r : Bool × T_model_Model) (hF : F_model_Model_forward m1 nv20 = some r) :
  CallsR Try.prog 20 [.pointer (some ⟨g2, 0, none⟩), .agg #[vI nv20.f_Kind, vB nv20.f_Key.f_Src.f_Six, o8 nv20.f_Key.f_Src.f_B 0, o8 nv20.f_Key.f_Src.f_B 1, o8 nv20.f_Key.f_Src.f_B 2, o8 nv20.f_Key.f_Src.f_B 3, o8 nv20.f_Key.f_Src.f_B 4, o8 nv20.f_Key.f_Src.f_B 5, o8 nv20.f_Key.f_Src.f_B 6, o8 nv20.f_Key.f_Src.f_B 7, o8 nv20.f_Key.f_Src.f_B 8, o8 nv20.f_Key.f_Src.f_B 9, o8 nv20.f_Key.f_Src.f_B 10, o8 nv20.f_Key.f_Src.f_B 11, o8 nv20.f_Key.f_Src.f_B 12, o8 nv20.f_Key.f_Src.f_B 13, o8 nv20.f_Key.f_Src.f_B 14, o8 nv20.f_Key.f_Src.f_B 15, vB nv20.f_Key.f_Dst.f_Six, o8 nv20.f_Key.f_Dst.f_B 0, o8 nv20.f_Key.f_Dst.f_B 1, o8 nv20.f_Key.f_Dst.f_B 2, o8 nv20.f_Key.f_Dst.f_B 3, o8 nv20.f_Key.f_Dst.f_B 4, o8 nv20.f_Key.f_Dst.f_B 5, o8 nv20.f_Key.f_Dst.f_B 6, o8 nv20.f_Key.f_Dst.f_B 7, o8 nv20.f_Key.f_Dst.f_B 8, o8 nv20.f_Key.f_Dst.f_B 9, o8 nv20.f_Key.f_Dst.f_B 10, o8 nv20.f_Key.f_Dst.f_B 11, o8 nv20.f_Key.f_Dst.f_B 12, o8 nv20.f_Key.f_Dst.f_B 13, o8 nv20.f_Key.f_Dst.f_B 14, o8 nv20.f_Key.f_Dst.f_B 15, v8 nv20.f_Key.f_Proto, v16 nv20.f_Key.f_SrcPort, v16 nv20.f_Key.f_DstPort, v64 nv20.f_Total.f_Packets, v64 nv20.f_Total.f_Bytes, .slice A21 (nv20.f_Records).length c22, v32 nv20.f_Epoch, v64 nv20.f_N, v64 nv20.f_First, v64 nv20.f_Next]] w (fun v w' => ∃ (gr0 : Nat) (gr1 : Nat) (gr2 : Nat) (Ar3 : Option Addr) (cr3 : Nat) (cssr4 : List (List Value)) (Zr4 : List Nat) (Ar4 : Option Addr) (cr4 : Nat), v = vB r.1 ∧ Mem w ([some g2] ++ ([some g4] ++ ([some g6] ++ ([some g8] ++ ([rblk A10 c11] ++ (Z14.map some ++ ([rblk A16 c17] ++ ([])))))))) w' [.box g2 tg19 [.map (some gr0), .map (some gr1), .map (some gr2), .slice Ar3 (r.2.f_entries).length cr3, .slice Ar4 (r.2.f_line).length cr4, v64 r.2.f_first, v32 r.2.f_boot], .res [gr0] (MR62 gr0 r.2.f_forwarded), .res [gr1] (MR62 gr1 r.2.f_cached), .res [gr2] (MR62 gr2 r.2.f_lost), .row Ar3 cr3 47 6 r.2.f_entries.length cssr4.flatten, .res Zr4 (Els RO_model_Entry 6 r.2.f_entries cssr4 Zr4), .row Ar4 cr4 3 1 r.2.f_line.length (r.2.f_line.flatMap (eI .i64))]) := by
 refine calls_KC Try.func20 rfl Try.ntmps20 rfl ?_
 have hM : Mem w ([some g2] ++ ([some g4] ++ ([some g6] ++ ([some g8] ++ ([rblk A10 c11] ++ (Z14.map some ++ ([rblk A16 c17] ++ ([])))))))) w [.box g2 tg19 [.map (some g4), .map (some g6), .map (some g8), .slice A10 (m1.f_entries).length c11, .slice A16 (m1.f_line).length c17, v64 m1.f_first, v32 m1.f_boot], .res [g4] (MR62 g4 m1.f_forwarded), .res [g6] (MR62 g6 m1.f_cached), .res [g8] (MR62 g8 m1.f_lost), .row A10 c11 47 6 (m1.f_entries).length (css13).flatten, .res Z14 (Els RO_model_Entry 6 m1.f_entries css13 Z14), .row A16 c17 3 1 (m1.f_line).length ((m1.f_line).flatMap (eI .i64))] := Mem.lendN hL25
 unfold F_model_Model_forward at hF
 refine sr fun Q26 hQ26 => ?_
 refine RL.eff (E.box (vs := [vI nv20.f_Kind, vB nv20.f_Key.f_Src.f_Six, o8 nv20.f_Key.f_Src.f_B 0, o8 nv20.f_Key.f_Src.f_B 1, o8 nv20.f_Key.f_Src.f_B 2, o8 nv20.f_Key.f_Src.f_B 3, o8 nv20.f_Key.f_Src.f_B 4, o8 nv20.f_Key.f_Src.f_B 5, o8 nv20.f_Key.f_Src.f_B 6, o8 nv20.f_Key.f_Src.f_B 7, o8 nv20.f_Key.f_Src.f_B 8, o8 nv20.f_Key.f_Src.f_B 9, o8 nv20.f_Key.f_Src.f_B 10, o8 nv20.f_Key.f_Src.f_B 11, o8 nv20.f_Key.f_Src.f_B 12, o8 nv20.f_Key.f_Src.f_B 13, o8 nv20.f_Key.f_Src.f_B 14, o8 nv20.f_Key.f_Src.f_B 15, vB nv20.f_Key.f_Dst.f_Six, o8 nv20.f_Key.f_Dst.f_B 0, o8 nv20.f_Key.f_Dst.f_B 1, o8 nv20.f_Key.f_Dst.f_B 2, o8 nv20.f_Key.f_Dst.f_B 3, o8 nv20.f_Key.f_Dst.f_B 4, o8 nv20.f_Key.f_Dst.f_B 5, o8 nv20.f_Key.f_Dst.f_B 6, o8 nv20.f_Key.f_Dst.f_B 7, o8 nv20.f_Key.f_Dst.f_B 8, o8 nv20.f_Key.f_Dst.f_B 9, o8 nv20.f_Key.f_Dst.f_B 10, o8 nv20.f_Key.f_Dst.f_B 11, o8 nv20.f_Key.f_Dst.f_B 12, o8 nv20.f_Key.f_Dst.f_B 13, o8 nv20.f_Key.f_Dst.f_B 14, o8 nv20.f_Key.f_Dst.f_B 15, v8 nv20.f_Key.f_Proto, v16 nv20.f_Key.f_SrcPort, v16 nv20.f_Key.f_DstPort, v64 nv20.f_Total.f_Packets, v64 nv20.f_Total.f_Bytes, .slice A21 (nv20.f_Records).length c22, v32 nv20.f_Epoch, v64 nv20.f_N, v64 nv20.f_First, v64 nv20.f_Next]) hM rfl rfl) rfl fun v w28 hv => ?_
 clear hM
 obtain ⟨g27, rfl, hM, hf⟩ := hv
 refine va rfl rfl ?_
 refine nt hQ26 ?_
 clear hQ26 Q26
 refine KC.seqH fun Q30 hQ30 => ?_
 refine sr fun Q31 hQ31 => ?_
 refine RL.val (O.fldA fl41_1 (by decide) rfl) rfl ?_
 refine RL.val (O.loadN (cs := [vB nv20.f_Key.f_Src.f_Six, o8 nv20.f_Key.f_Src.f_B 0, o8 nv20.f_Key.f_Src.f_B 1, o8 nv20.f_Key.f_Src.f_B 2, o8 nv20.f_Key.f_Src.f_B 3, o8 nv20.f_Key.f_Src.f_B 4, o8 nv20.f_Key.f_Src.f_B 5, o8 nv20.f_Key.f_Src.f_B 6, o8 nv20.f_Key.f_Src.f_B 7, o8 nv20.f_Key.f_Src.f_B 8, o8 nv20.f_Key.f_Src.f_B 9, o8 nv20.f_Key.f_Src.f_B 10, o8 nv20.f_Key.f_Src.f_B 11, o8 nv20.f_Key.f_Src.f_B 12, o8 nv20.f_Key.f_Src.f_B 13, o8 nv20.f_Key.f_Src.f_B 14, o8 nv20.f_Key.f_Src.f_B 15, vB nv20.f_Key.f_Dst.f_Six, o8 nv20.f_Key.f_Dst.f_B 0, o8 nv20.f_Key.f_Dst.f_B 1, o8 nv20.f_Key.f_Dst.f_B 2, o8 nv20.f_Key.f_Dst.f_B 3, o8 nv20.f_Key.f_Dst.f_B 4, o8 nv20.f_Key.f_Dst.f_B 5, o8 nv20.f_Key.f_Dst.f_B 6, o8 nv20.f_Key.f_Dst.f_B 7, o8 nv20.f_Key.f_Dst.f_B 8, o8 nv20.f_Key.f_Dst.f_B 9, o8 nv20.f_Key.f_Dst.f_B 10, o8 nv20.f_Key.f_Dst.f_B 11, o8 nv20.f_Key.f_Dst.f_B 12, o8 nv20.f_Key.f_Dst.f_B 13, o8 nv20.f_Key.f_Dst.f_B 14, o8 nv20.f_Key.f_Dst.f_B 15, v8 nv20.f_Key.f_Proto, v16 nv20.f_Key.f_SrcPort, v16 nv20.f_Key.f_DstPort]) ag34 rfl (Cs.addsN [1] ((hM.bx (i := 7) rfl)) rfl)) rfl ?_
 refine obindE hF fun y32 hx33 hF => ?_
 refine RL.call Try.func36 bd36 rfl rfl (c_packet_Key_Right _ nv20.f_Key _ hx33) fun v w34 hv => ?_
 obtain ⟨rfl, hN35⟩ := hv
 replace hM := hM.call0 hN35
 refine RL.val (O.not rfl) rfl ?_
 refine nt hQ31 ?_
 clear hQ31 Q31
 refine KC.cond rfl (fun hc => ?_) (fun hc => ?_)
 ·rw [if_pos hc] at hF
  refine sr fun Q36 hQ36 => ?_
  refine va rfl rfl ?_
  refine nt hQ36 ?_
  clear hQ36 Q36
  refine KC.ret ?_
  refine KQ.thr hQ30 ?_
  clear hQ30 Q30
  have hE := Option.some.inj hF
  clear hF
  subst hE
  replace hM := hM.pick [0, 1, 2, 3, 4, 5, 6] rfl (by decide)
  refine KQ.rets Try.results20 (RVs.cons (RV.tm rfl) RVs.nil) ?_
  exact ⟨_, rfl, g4, g6, g8, A10, c11, css13, Z14, A16, c17, rfl, hM⟩
 rw [if_neg (ne_true hc)] at hF
 refine KC.skip ?_
 refine KQ.thn hQ30 ?_
 clear hQ30 Q30
 refine KC.seqH fun Q37 hQ37 => ?_
 replace hM := hM.drewN 1
 refine KC.draw [] [8] [8] [0, 1, 2, 4, 6] (.ofList [0, 1, 2, 3, 4, 5, 6, 7, 8]) moP (by kernel_rfl) ?_
 refine RD.p rfl rfl rfl rfl (fun w' => O.move rfl) ?_
 refine RD.p rfl rfl rfl rfl (fun w' => O.nilp rfl) ?_
 refine RD.p rfl rfl rfl rfl (fun w' => O.fldA fl65_0 (by decide) rfl) ?_
 refine RD.q rfl rfl rfl rfl (fun w' hf => O.load sc62 rfl (Cs.adds [0] ((hM.bx (i := 0) rfl).fut hf) rfl)) ?_
 refine RD.p rfl rfl rfl rfl (fun w' => O.fldA fl41_1 (by decide) rfl) ?_
 refine RD.q rfl rfl rfl rfl (fun w' hf => O.loadN (cs := [vB nv20.f_Key.f_Src.f_Six, o8 nv20.f_Key.f_Src.f_B 0, o8 nv20.f_Key.f_Src.f_B 1, o8 nv20.f_Key.f_Src.f_B 2, o8 nv20.f_Key.f_Src.f_B 3, o8 nv20.f_Key.f_Src.f_B 4, o8 nv20.f_Key.f_Src.f_B 5, o8 nv20.f_Key.f_Src.f_B 6, o8 nv20.f_Key.f_Src.f_B 7, o8 nv20.f_Key.f_Src.f_B 8, o8 nv20.f_Key.f_Src.f_B 9, o8 nv20.f_Key.f_Src.f_B 10, o8 nv20.f_Key.f_Src.f_B 11, o8 nv20.f_Key.f_Src.f_B 12, o8 nv20.f_Key.f_Src.f_B 13, o8 nv20.f_Key.f_Src.f_B 14, o8 nv20.f_Key.f_Src.f_B 15, vB nv20.f_Key.f_Dst.f_Six, o8 nv20.f_Key.f_Dst.f_B 0, o8 nv20.f_Key.f_Dst.f_B 1, o8 nv20.f_Key.f_Dst.f_B 2, o8 nv20.f_Key.f_Dst.f_B 3, o8 nv20.f_Key.f_Dst.f_B 4, o8 nv20.f_Key.f_Dst.f_B 5, o8 nv20.f_Key.f_Dst.f_B 6, o8 nv20.f_Key.f_Dst.f_B 7, o8 nv20.f_Key.f_Dst.f_B 8, o8 nv20.f_Key.f_Dst.f_B 9, o8 nv20.f_Key.f_Dst.f_B 10, o8 nv20.f_Key.f_Dst.f_B 11, o8 nv20.f_Key.f_Dst.f_B 12, o8 nv20.f_Key.f_Dst.f_B 13, o8 nv20.f_Key.f_Dst.f_B 14, o8 nv20.f_Key.f_Dst.f_B 15, v8 nv20.f_Key.f_Proto, v16 nv20.f_Key.f_SrcPort, v16 nv20.f_Key.f_DstPort]) ag34 rfl (Cs.addsN [1] ((hM.bx (i := 7) rfl).fut hf) rfl)) ?_
 refine RD.p rfl rfl rfl rfl (fun w' => O.fldA fl41_2 (by decide) rfl) ?_
 refine RD.q rfl rfl rfl rfl (fun w' hf => O.loadN (cs := [v64 nv20.f_Total.f_Packets, v64 nv20.f_Total.f_Bytes]) ag37 rfl (Cs.addsN [38] ((hM.bx (i := 7) rfl).fut hf) rfl)) ?_
 refine obindE hF fun y38 hx39 hF => ?_
 refine RD.mcall rfl rfl trivial Try.func37 bd37 rfl rfl (c_model_totals_add _ _ m1.f_forwarded (hM.lent [1] rfl (by decide)) nv20.f_Key nv20.f_Total _ hx39) fun v w40 hv => ?_
 obtain ⟨rfl, hN41⟩ := hv
 refine ⟨fun h => (by cases h), ?_⟩
 replace hM := hM.callL [1] [0, 2, 3, 4, 5, 6, 7] rfl rfl (by decide) rfl hN41
 refine RD.nil ?_
 refine KQ.thn hQ37 ?_
 clear hQ37 Q37
 refine KC.seqH fun Q42 hQ42 => ?_
 replace hM := hM.drewN 1
 refine KC.draw [] [8] [8] [0, 1, 2, 4, 6] (.ofList [0, 1, 2, 3, 4, 5, 6, 7, 8]) moP (by kernel_rfl) ?_
 refine RD.p rfl rfl rfl rfl (fun w' => O.move rfl) ?_
 refine RD.p rfl rfl rfl rfl (fun w' => O.nilp rfl) ?_
 refine RD.p rfl rfl rfl rfl (fun w' => O.fldA fl65_1 (by decide) rfl) ?_
 refine RD.q rfl rfl rfl rfl (fun w' hf => O.load sc62 rfl (Cs.adds [1] ((hM.bx (i := 0) rfl).fut hf) rfl)) ?_
 refine RD.p rfl rfl rfl rfl (fun w' => O.fldA fl41_1 (by decide) rfl) ?_
 refine RD.q rfl rfl rfl rfl (fun w' hf => O.loadN (cs := [vB nv20.f_Key.f_Src.f_Six, o8 nv20.f_Key.f_Src.f_B 0, o8 nv20.f_Key.f_Src.f_B 1, o8 nv20.f_Key.f_Src.f_B 2, o8 nv20.f_Key.f_Src.f_B 3, o8 nv20.f_Key.f_Src.f_B 4, o8 nv20.f_Key.f_Src.f_B 5, o8 nv20.f_Key.f_Src.f_B 6, o8 nv20.f_Key.f_Src.f_B 7, o8 nv20.f_Key.f_Src.f_B 8, o8 nv20.f_Key.f_Src.f_B 9, o8 nv20.f_Key.f_Src.f_B 10, o8 nv20.f_Key.f_Src.f_B 11, o8 nv20.f_Key.f_Src.f_B 12, o8 nv20.f_Key.f_Src.f_B 13, o8 nv20.f_Key.f_Src.f_B 14, o8 nv20.f_Key.f_Src.f_B 15, vB nv20.f_Key.f_Dst.f_Six, o8 nv20.f_Key.f_Dst.f_B 0, o8 nv20.f_Key.f_Dst.f_B 1, o8 nv20.f_Key.f_Dst.f_B 2, o8 nv20.f_Key.f_Dst.f_B 3, o8 nv20.f_Key.f_Dst.f_B 4, o8 nv20.f_Key.f_Dst.f_B 5, o8 nv20.f_Key.f_Dst.f_B 6, o8 nv20.f_Key.f_Dst.f_B 7, o8 nv20.f_Key.f_Dst.f_B 8, o8 nv20.f_Key.f_Dst.f_B 9, o8 nv20.f_Key.f_Dst.f_B 10, o8 nv20.f_Key.f_Dst.f_B 11, o8 nv20.f_Key.f_Dst.f_B 12, o8 nv20.f_Key.f_Dst.f_B 13, o8 nv20.f_Key.f_Dst.f_B 14, o8 nv20.f_Key.f_Dst.f_B 15, v8 nv20.f_Key.f_Proto, v16 nv20.f_Key.f_SrcPort, v16 nv20.f_Key.f_DstPort]) ag34 rfl (Cs.addsN [1] ((hM.bx (i := 6) rfl).fut hf) rfl)) ?_
 refine RD.p rfl rfl rfl rfl (fun w' => O.fldA fl41_2 (by decide) rfl) ?_
 refine RD.q rfl rfl rfl rfl (fun w' hf => O.loadN (cs := [v64 nv20.f_Total.f_Packets, v64 nv20.f_Total.f_Bytes]) ag37 rfl (Cs.addsN [38] ((hM.bx (i := 6) rfl).fut hf) rfl)) ?_
 refine obindE hF fun y43 hx44 hF => ?_
 refine RD.mcall rfl rfl trivial Try.func37 bd37 rfl rfl (c_model_totals_add _ _ m1.f_cached (hM.lent [1] rfl (by decide)) nv20.f_Key nv20.f_Total _ hx44) fun v w45 hv => ?_
 obtain ⟨rfl, hN46⟩ := hv
 refine ⟨fun h => (by cases h), ?_⟩
 replace hM := hM.callL [1] [0, 2, 3, 4, 5, 6, 7] rfl rfl (by decide) rfl hN46
 refine RD.nil ?_
 refine KQ.thn hQ42 ?_
 clear hQ42 Q42
 replace hM := hM.pick [0, 1, 2, 3, 4, 6, 7] rfl (by decide)
 refine sr fun Q47 hQ47 => ?_
 refine va rfl rfl ?_
 refine nt hQ47 ?_
 clear hQ47 Q47
 refine KC.ret ?_
 have hE := Option.some.inj hF
 clear hF
 subst hE
 replace hM := hM.pick [0, 5, 6, 1, 2, 3, 4] rfl (by decide)
 refine KQ.rets Try.results20 (RVs.cons (RV.tm rfl) RVs.nil) ?_
 exact ⟨_, rfl, g4, g6, g8, A10, c11, css13, Z14, A16, c17, rfl, hM⟩
set_option maxRecDepth 100000 in
set_option maxHeartbeats 40000000 in
theorem c_maps_Clone_model_totals_packet_Key_flow_Total (w : World) (m1 : FM62) (g2 : Nat) (hm3 : MR62 g2 m1 w) (r : FM62) (hF : F_maps_Clone_model_totals_packet_Key_flow_Total m1 = some r) :
  CallsR Try.prog 34 [.map (some g2)] w (fun v w' => ∃ (gr0 : Nat), v = .map (some gr0) ∧ Mem w [] w' [.res [gr0] (MR62 gr0 r)]) := by
 refine calls_KC Try.func34 rfl Try.ntmps34 rfl ?_
 have hM := Mem.init w
 unfold F_maps_Clone_model_totals_packet_Key_flow_Total at hF
 refine sr fun Q4 hQ4 => ?_
 refine va rfl rfl ?_
 refine nt hQ4 ?_
 clear hQ4 Q4
 refine KC.seqH fun Q5 hQ5 => ?_
 refine sr fun Q6 hQ6 => ?_
 refine vm rfl rfl ?_
 refine RL.val (O.mapnn Try.underlying62 (by kernel_rfl) rfl rfl) rfl ?_
 refine nt hQ6 ?_
 clear hQ6 Q6
 refine KC.condF rfl ?_
 refine KC.skip ?_
 refine KQ.thn hQ5 ?_
 clear hQ5 Q5
 refine sr fun Q7 hQ7 => ?_
 refine vm rfl rfl ?_
 refine RL.val (O.mkif Try.underlying62 rfl) rfl ?_
 refine RL.eff (E.cloneR Try.func53 (by kernel_rfl) (by kernel_rfl) (by kernel_rfl) (by kernel_rfl) hM (hm3.fut hM.chg) rfl) rfl fun v w9 hv => ?_
 clear hM
 obtain ⟨g8, rfl, hM, hf⟩ := hv
 refine RL.val (O.tas Try.underlying62 rfl) rfl ?_
 refine va rfl rfl ?_
 refine nt hQ7 ?_
 clear hQ7 Q7
 refine KC.ret ?_
 have hE := Option.some.inj hF
 clear hF
 subst hE
 refine KQ.rets Try.results34 (RVs.cons (RV.tm rfl) RVs.nil) ?_
 exact ⟨_, rfl, g8, rfl, hM⟩
set_option maxRecDepth 100000 in
set_option maxHeartbeats 40000000 in
theorem c_flow_Record_Total (w : World) (rv1 : T_flow_Record) (r : T_flow_Total) (hF : F_flow_Record_Total rv1 = some r) :
  CallsR Try.prog 13 [.agg #[vB rv1.f_Key.f_Src.f_Six, o8 rv1.f_Key.f_Src.f_B 0, o8 rv1.f_Key.f_Src.f_B 1, o8 rv1.f_Key.f_Src.f_B 2, o8 rv1.f_Key.f_Src.f_B 3, o8 rv1.f_Key.f_Src.f_B 4, o8 rv1.f_Key.f_Src.f_B 5, o8 rv1.f_Key.f_Src.f_B 6, o8 rv1.f_Key.f_Src.f_B 7, o8 rv1.f_Key.f_Src.f_B 8, o8 rv1.f_Key.f_Src.f_B 9, o8 rv1.f_Key.f_Src.f_B 10, o8 rv1.f_Key.f_Src.f_B 11, o8 rv1.f_Key.f_Src.f_B 12, o8 rv1.f_Key.f_Src.f_B 13, o8 rv1.f_Key.f_Src.f_B 14, o8 rv1.f_Key.f_Src.f_B 15, vB rv1.f_Key.f_Dst.f_Six, o8 rv1.f_Key.f_Dst.f_B 0, o8 rv1.f_Key.f_Dst.f_B 1, o8 rv1.f_Key.f_Dst.f_B 2, o8 rv1.f_Key.f_Dst.f_B 3, o8 rv1.f_Key.f_Dst.f_B 4, o8 rv1.f_Key.f_Dst.f_B 5, o8 rv1.f_Key.f_Dst.f_B 6, o8 rv1.f_Key.f_Dst.f_B 7, o8 rv1.f_Key.f_Dst.f_B 8, o8 rv1.f_Key.f_Dst.f_B 9, o8 rv1.f_Key.f_Dst.f_B 10, o8 rv1.f_Key.f_Dst.f_B 11, o8 rv1.f_Key.f_Dst.f_B 12, o8 rv1.f_Key.f_Dst.f_B 13, o8 rv1.f_Key.f_Dst.f_B 14, o8 rv1.f_Key.f_Dst.f_B 15, v8 rv1.f_Key.f_Proto, v16 rv1.f_Key.f_SrcPort, v16 rv1.f_Key.f_DstPort, v64 rv1.f_Packets, v64 rv1.f_Bytes, v64 rv1.f_First, v64 rv1.f_Last, v8 rv1.f_Flags, v8 rv1.f_Reason, v8 rv1.f_Class]] w (fun v w' => v = .agg #[v64 r.f_Packets, v64 r.f_Bytes] ∧ Mem w [] w' []) := by
 refine calls_KC Try.func13 rfl Try.ntmps13 rfl ?_
 have hM := Mem.init w
 unfold F_flow_Record_Total at hF
 refine sr fun Q2 hQ2 => ?_
 refine RL.eff (E.box (vs := [vB rv1.f_Key.f_Src.f_Six, o8 rv1.f_Key.f_Src.f_B 0, o8 rv1.f_Key.f_Src.f_B 1, o8 rv1.f_Key.f_Src.f_B 2, o8 rv1.f_Key.f_Src.f_B 3, o8 rv1.f_Key.f_Src.f_B 4, o8 rv1.f_Key.f_Src.f_B 5, o8 rv1.f_Key.f_Src.f_B 6, o8 rv1.f_Key.f_Src.f_B 7, o8 rv1.f_Key.f_Src.f_B 8, o8 rv1.f_Key.f_Src.f_B 9, o8 rv1.f_Key.f_Src.f_B 10, o8 rv1.f_Key.f_Src.f_B 11, o8 rv1.f_Key.f_Src.f_B 12, o8 rv1.f_Key.f_Src.f_B 13, o8 rv1.f_Key.f_Src.f_B 14, o8 rv1.f_Key.f_Src.f_B 15, vB rv1.f_Key.f_Dst.f_Six, o8 rv1.f_Key.f_Dst.f_B 0, o8 rv1.f_Key.f_Dst.f_B 1, o8 rv1.f_Key.f_Dst.f_B 2, o8 rv1.f_Key.f_Dst.f_B 3, o8 rv1.f_Key.f_Dst.f_B 4, o8 rv1.f_Key.f_Dst.f_B 5, o8 rv1.f_Key.f_Dst.f_B 6, o8 rv1.f_Key.f_Dst.f_B 7, o8 rv1.f_Key.f_Dst.f_B 8, o8 rv1.f_Key.f_Dst.f_B 9, o8 rv1.f_Key.f_Dst.f_B 10, o8 rv1.f_Key.f_Dst.f_B 11, o8 rv1.f_Key.f_Dst.f_B 12, o8 rv1.f_Key.f_Dst.f_B 13, o8 rv1.f_Key.f_Dst.f_B 14, o8 rv1.f_Key.f_Dst.f_B 15, v8 rv1.f_Key.f_Proto, v16 rv1.f_Key.f_SrcPort, v16 rv1.f_Key.f_DstPort, v64 rv1.f_Packets, v64 rv1.f_Bytes, v64 rv1.f_First, v64 rv1.f_Last, v8 rv1.f_Flags, v8 rv1.f_Reason, v8 rv1.f_Class]) hM rfl rfl) rfl fun v w4 hv => ?_
 clear hM
 obtain ⟨g3, rfl, hM, hf⟩ := hv
 refine RL.eff (E.alloc hM ze37) rfl fun v w7 hv => ?_
 clear hM
 obtain ⟨g6, rfl, hM, hf⟩ := hv
 refine nt hQ2 ?_
 clear hQ2 Q2
 refine sr fun Q9 hQ9 => ?_
 refine RL.val (O.fldA fl50_1 (by decide) rfl) rfl ?_
 refine RL.val (O.load sc35 rfl (Cs.adds [37] ((hM.bx (i := 0) rfl)) rfl)) rfl ?_
 refine RL.val (O.fldA fl50_2 (by decide) rfl) rfl ?_
 refine RL.val (O.load sc35 rfl (Cs.adds [38] ((hM.bx (i := 0) rfl)) rfl)) rfl ?_
 refine RL.val (O.bld (cs := [v64 rv1.f_Packets, v64 rv1.f_Bytes]) bt37 rfl (by kernel_rfl)) rfl ?_
 refine RL.effs (E.stB (j := 1) (off := 0) (vs := [v64 rv1.f_Packets, v64 rv1.f_Bytes]) (cs' := [v64 rv1.f_Packets, v64 rv1.f_Bytes]) hM rfl sz37 rfl (adds_eq [] rfl) rfl rfl (One.all rfl) rfl rfl) fun w10 hM1 => ?_
 clear hM
 have hM := hM1
 clear hM1
 refine nt hQ9 ?_
 clear hQ9 Q9
 refine KC.ret ?_
 have hE := Option.some.inj hF
 clear hF
 subst hE
 have hb11 := hM.bx (i := 1) rfl
 replace hM := hM.pick [] rfl (by decide)
 refine KQ.rets Try.results13 (RVs.cons (RV.cN (cs := [v64 rv1.f_Packets, v64 rv1.f_Bytes]) rfl ag37 hb11) RVs.nil) ?_
 exact ⟨_, rfl, rfl, hM⟩
end Go.Proofs.Ytidbgejnkpoeeaa
