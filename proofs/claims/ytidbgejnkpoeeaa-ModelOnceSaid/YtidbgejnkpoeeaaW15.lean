/- Printed by a program of this claim: each call returns what the plain function of its name gives. -/
import Derived.Test.YtidbgejnkpoeeaaW1
import Derived.Test.YtidbgejnkpoeeaaW4
set_option linter.unusedVariables false
namespace Go.Proofs.Ytidbgejnkpoeeaa
open Go Go.Ox Go.RowKit
set_option maxRecDepth 100000 in
set_option maxHeartbeats 40000000 in
theorem c_model_Model_Of (w : World) (m4 : T_model_Model) (g5 : Nat) (hm6 : MR62 g5 m4.f_forwarded w) (g7 : Nat) (hm8 : MR62 g7 m4.f_cached w) (g9 : Nat) (hm10 : MR62 g9 m4.f_lost w) (A11 : Option Addr) (c12 : Nat) (hr13 : RdD R_model_Entry [] w A11 c12 6 m4.f_entries) (A14 : Option Addr) (c15 : Nat) (hr16 : Rd w A14 c15 1 m4.f_line.length (m4.f_line.flatMap (eI .i64))) (g1 : Nat) (hC2 : Cs w ⟨g1, 0, none⟩ [.map (some g5), .map (some g7), .map (some g9), .slice A11 (m4.f_entries).length c12, .slice A14 (m4.f_line).length c15, v64 m4.f_first, v32 m4.f_boot]) (kv17 : T_packet_Key) (r : T_model_Parts) (hF : F_model_Model_Of m4 kv17 = some r) :
  CallsR Try.prog 14 [.pointer (some ⟨g1, 0, none⟩), .agg #[vB kv17.f_Src.f_Six, o8 kv17.f_Src.f_B 0, o8 kv17.f_Src.f_B 1, o8 kv17.f_Src.f_B 2, o8 kv17.f_Src.f_B 3, o8 kv17.f_Src.f_B 4, o8 kv17.f_Src.f_B 5, o8 kv17.f_Src.f_B 6, o8 kv17.f_Src.f_B 7, o8 kv17.f_Src.f_B 8, o8 kv17.f_Src.f_B 9, o8 kv17.f_Src.f_B 10, o8 kv17.f_Src.f_B 11, o8 kv17.f_Src.f_B 12, o8 kv17.f_Src.f_B 13, o8 kv17.f_Src.f_B 14, o8 kv17.f_Src.f_B 15, vB kv17.f_Dst.f_Six, o8 kv17.f_Dst.f_B 0, o8 kv17.f_Dst.f_B 1, o8 kv17.f_Dst.f_B 2, o8 kv17.f_Dst.f_B 3, o8 kv17.f_Dst.f_B 4, o8 kv17.f_Dst.f_B 5, o8 kv17.f_Dst.f_B 6, o8 kv17.f_Dst.f_B 7, o8 kv17.f_Dst.f_B 8, o8 kv17.f_Dst.f_B 9, o8 kv17.f_Dst.f_B 10, o8 kv17.f_Dst.f_B 11, o8 kv17.f_Dst.f_B 12, o8 kv17.f_Dst.f_B 13, o8 kv17.f_Dst.f_B 14, o8 kv17.f_Dst.f_B 15, v8 kv17.f_Proto, v16 kv17.f_SrcPort, v16 kv17.f_DstPort]] w (fun v w' => v = .agg #[v64 r.f_Forwarded.f_Packets, v64 r.f_Forwarded.f_Bytes, v64 r.f_Cached.f_Packets, v64 r.f_Cached.f_Bytes, v64 r.f_Volatile.f_Packets, v64 r.f_Volatile.f_Bytes, v64 r.f_Durable.f_Packets, v64 r.f_Durable.f_Bytes, v64 r.f_Lost.f_Packets, v64 r.f_Lost.f_Bytes, v64 r.f_Credited.f_Packets, v64 r.f_Credited.f_Bytes] ∧ Mem w [] w' []) := by
 refine calls_KC Try.func14 rfl Try.ntmps14 rfl ?_
 have hM := Mem.init w
 unfold F_model_Model_Of at hF
 refine sr fun Q18 hQ18 => ?_
 refine RL.eff (E.box (vs := [vB kv17.f_Src.f_Six, o8 kv17.f_Src.f_B 0, o8 kv17.f_Src.f_B 1, o8 kv17.f_Src.f_B 2, o8 kv17.f_Src.f_B 3, o8 kv17.f_Src.f_B 4, o8 kv17.f_Src.f_B 5, o8 kv17.f_Src.f_B 6, o8 kv17.f_Src.f_B 7, o8 kv17.f_Src.f_B 8, o8 kv17.f_Src.f_B 9, o8 kv17.f_Src.f_B 10, o8 kv17.f_Src.f_B 11, o8 kv17.f_Src.f_B 12, o8 kv17.f_Src.f_B 13, o8 kv17.f_Src.f_B 14, o8 kv17.f_Src.f_B 15, vB kv17.f_Dst.f_Six, o8 kv17.f_Dst.f_B 0, o8 kv17.f_Dst.f_B 1, o8 kv17.f_Dst.f_B 2, o8 kv17.f_Dst.f_B 3, o8 kv17.f_Dst.f_B 4, o8 kv17.f_Dst.f_B 5, o8 kv17.f_Dst.f_B 6, o8 kv17.f_Dst.f_B 7, o8 kv17.f_Dst.f_B 8, o8 kv17.f_Dst.f_B 9, o8 kv17.f_Dst.f_B 10, o8 kv17.f_Dst.f_B 11, o8 kv17.f_Dst.f_B 12, o8 kv17.f_Dst.f_B 13, o8 kv17.f_Dst.f_B 14, o8 kv17.f_Dst.f_B 15, v8 kv17.f_Proto, v16 kv17.f_SrcPort, v16 kv17.f_DstPort]) hM rfl rfl) rfl fun v w20 hv => ?_
 clear hM
 obtain ⟨g19, rfl, hM, hf⟩ := hv
 refine RL.eff (E.alloc hM ze54) rfl fun v w23 hv => ?_
 clear hM
 obtain ⟨g22, rfl, hM, hf⟩ := hv
 refine nt hQ18 ?_
 clear hQ18 Q18
 refine KC.seqH fun Q25 hQ25 => ?_
 refine sr fun Q26 hQ26 => ?_
 refine vm rfl rfl ?_
 refine RL.val (O.peqn Try.underlying25 rfl rfl) rfl ?_
 refine nt hQ26 ?_
 clear hQ26 Q26
 refine KC.condF rfl ?_
 refine KC.skip ?_
 refine KQ.thn hQ25 ?_
 clear hQ25 Q25
 refine KC.seqH fun Q27 hQ27 => ?_
 replace hM := hM.drewN 1
 refine KC.draw [] [19] [19] [0, 1, 2, 6, 7, 8, 12, 13, 14] (.ofList [0, 1, 2, 3, 4, 5, 6, 7, 8, 9, 10, 11, 12, 13, 14, 15, 16, 17, 18, 19]) moP (by kernel_rfl) ?_
 refine RD.p rfl rfl rfl rfl (fun w' => O.move rfl) ?_
 refine RD.p rfl rfl rfl rfl (fun w' => O.nilp rfl) ?_
 refine RD.p rfl rfl rfl rfl (fun w' => O.fldA fl65_0 (by decide) rfl) ?_
 refine RD.q rfl rfl rfl rfl (fun w' hf => O.load sc62 rfl (Cs.adds [0] ((hC2.fut hM.chg).fut hf) rfl)) ?_
 refine RD.q rfl rfl rfl rfl (fun w' hf => O.loadN (cs := [vB kv17.f_Src.f_Six, o8 kv17.f_Src.f_B 0, o8 kv17.f_Src.f_B 1, o8 kv17.f_Src.f_B 2, o8 kv17.f_Src.f_B 3, o8 kv17.f_Src.f_B 4, o8 kv17.f_Src.f_B 5, o8 kv17.f_Src.f_B 6, o8 kv17.f_Src.f_B 7, o8 kv17.f_Src.f_B 8, o8 kv17.f_Src.f_B 9, o8 kv17.f_Src.f_B 10, o8 kv17.f_Src.f_B 11, o8 kv17.f_Src.f_B 12, o8 kv17.f_Src.f_B 13, o8 kv17.f_Src.f_B 14, o8 kv17.f_Src.f_B 15, vB kv17.f_Dst.f_Six, o8 kv17.f_Dst.f_B 0, o8 kv17.f_Dst.f_B 1, o8 kv17.f_Dst.f_B 2, o8 kv17.f_Dst.f_B 3, o8 kv17.f_Dst.f_B 4, o8 kv17.f_Dst.f_B 5, o8 kv17.f_Dst.f_B 6, o8 kv17.f_Dst.f_B 7, o8 kv17.f_Dst.f_B 8, o8 kv17.f_Dst.f_B 9, o8 kv17.f_Dst.f_B 10, o8 kv17.f_Dst.f_B 11, o8 kv17.f_Dst.f_B 12, o8 kv17.f_Dst.f_B 13, o8 kv17.f_Dst.f_B 14, o8 kv17.f_Dst.f_B 15, v8 kv17.f_Proto, v16 kv17.f_SrcPort, v16 kv17.f_DstPort]) ag34 rfl (Cs.addsN [] ((hM.bx (i := 0) rfl).fut hf) rfl)) ?_
 refine RD.q rfl rfl rfl rfl (fun w' hf => O.lkR (k := kv17) (ks := [vB kv17.f_Src.f_Six, o8 kv17.f_Src.f_B 0, o8 kv17.f_Src.f_B 1, o8 kv17.f_Src.f_B 2, o8 kv17.f_Src.f_B 3, o8 kv17.f_Src.f_B 4, o8 kv17.f_Src.f_B 5, o8 kv17.f_Src.f_B 6, o8 kv17.f_Src.f_B 7, o8 kv17.f_Src.f_B 8, o8 kv17.f_Src.f_B 9, o8 kv17.f_Src.f_B 10, o8 kv17.f_Src.f_B 11, o8 kv17.f_Src.f_B 12, o8 kv17.f_Src.f_B 13, o8 kv17.f_Src.f_B 14, o8 kv17.f_Src.f_B 15, vB kv17.f_Dst.f_Six, o8 kv17.f_Dst.f_B 0, o8 kv17.f_Dst.f_B 1, o8 kv17.f_Dst.f_B 2, o8 kv17.f_Dst.f_B 3, o8 kv17.f_Dst.f_B 4, o8 kv17.f_Dst.f_B 5, o8 kv17.f_Dst.f_B 6, o8 kv17.f_Dst.f_B 7, o8 kv17.f_Dst.f_B 8, o8 kv17.f_Dst.f_B 9, o8 kv17.f_Dst.f_B 10, o8 kv17.f_Dst.f_B 11, o8 kv17.f_Dst.f_B 12, o8 kv17.f_Dst.f_B 13, o8 kv17.f_Dst.f_B 14, o8 kv17.f_Dst.f_B 15, v8 kv17.f_Proto, v16 kv17.f_SrcPort, v16 kv17.f_DstPort]) (zv := (T_flow_Total.mk 0 0)) (vs := [v64 (((m4.f_forwarded kv17).getD (T_flow_Total.mk 0 0)).f_Packets), v64 (((m4.f_forwarded kv17).getD (T_flow_Total.mk 0 0)).f_Bytes)]) mt62 ((hm6.fut hM.chg).fut hf) (by kernel_rfl) rfl rfl rfl rfl) ?_
 refine RD.p rfl rfl rfl rfl (fun w' => O.move rfl) ?_
 refine RD.p rfl rfl rfl rfl (fun w' => O.nilp rfl) ?_
 refine RD.p rfl rfl rfl rfl (fun w' => O.fldA fl65_1 (by decide) rfl) ?_
 refine RD.q rfl rfl rfl rfl (fun w' hf => O.load sc62 rfl (Cs.adds [1] ((hC2.fut hM.chg).fut hf) rfl)) ?_
 refine RD.q rfl rfl rfl rfl (fun w' hf => O.loadN (cs := [vB kv17.f_Src.f_Six, o8 kv17.f_Src.f_B 0, o8 kv17.f_Src.f_B 1, o8 kv17.f_Src.f_B 2, o8 kv17.f_Src.f_B 3, o8 kv17.f_Src.f_B 4, o8 kv17.f_Src.f_B 5, o8 kv17.f_Src.f_B 6, o8 kv17.f_Src.f_B 7, o8 kv17.f_Src.f_B 8, o8 kv17.f_Src.f_B 9, o8 kv17.f_Src.f_B 10, o8 kv17.f_Src.f_B 11, o8 kv17.f_Src.f_B 12, o8 kv17.f_Src.f_B 13, o8 kv17.f_Src.f_B 14, o8 kv17.f_Src.f_B 15, vB kv17.f_Dst.f_Six, o8 kv17.f_Dst.f_B 0, o8 kv17.f_Dst.f_B 1, o8 kv17.f_Dst.f_B 2, o8 kv17.f_Dst.f_B 3, o8 kv17.f_Dst.f_B 4, o8 kv17.f_Dst.f_B 5, o8 kv17.f_Dst.f_B 6, o8 kv17.f_Dst.f_B 7, o8 kv17.f_Dst.f_B 8, o8 kv17.f_Dst.f_B 9, o8 kv17.f_Dst.f_B 10, o8 kv17.f_Dst.f_B 11, o8 kv17.f_Dst.f_B 12, o8 kv17.f_Dst.f_B 13, o8 kv17.f_Dst.f_B 14, o8 kv17.f_Dst.f_B 15, v8 kv17.f_Proto, v16 kv17.f_SrcPort, v16 kv17.f_DstPort]) ag34 rfl (Cs.addsN [] ((hM.bx (i := 0) rfl).fut hf) rfl)) ?_
 refine RD.q rfl rfl rfl rfl (fun w' hf => O.lkR (k := kv17) (ks := [vB kv17.f_Src.f_Six, o8 kv17.f_Src.f_B 0, o8 kv17.f_Src.f_B 1, o8 kv17.f_Src.f_B 2, o8 kv17.f_Src.f_B 3, o8 kv17.f_Src.f_B 4, o8 kv17.f_Src.f_B 5, o8 kv17.f_Src.f_B 6, o8 kv17.f_Src.f_B 7, o8 kv17.f_Src.f_B 8, o8 kv17.f_Src.f_B 9, o8 kv17.f_Src.f_B 10, o8 kv17.f_Src.f_B 11, o8 kv17.f_Src.f_B 12, o8 kv17.f_Src.f_B 13, o8 kv17.f_Src.f_B 14, o8 kv17.f_Src.f_B 15, vB kv17.f_Dst.f_Six, o8 kv17.f_Dst.f_B 0, o8 kv17.f_Dst.f_B 1, o8 kv17.f_Dst.f_B 2, o8 kv17.f_Dst.f_B 3, o8 kv17.f_Dst.f_B 4, o8 kv17.f_Dst.f_B 5, o8 kv17.f_Dst.f_B 6, o8 kv17.f_Dst.f_B 7, o8 kv17.f_Dst.f_B 8, o8 kv17.f_Dst.f_B 9, o8 kv17.f_Dst.f_B 10, o8 kv17.f_Dst.f_B 11, o8 kv17.f_Dst.f_B 12, o8 kv17.f_Dst.f_B 13, o8 kv17.f_Dst.f_B 14, o8 kv17.f_Dst.f_B 15, v8 kv17.f_Proto, v16 kv17.f_SrcPort, v16 kv17.f_DstPort]) (zv := (T_flow_Total.mk 0 0)) (vs := [v64 (((m4.f_cached kv17).getD (T_flow_Total.mk 0 0)).f_Packets), v64 (((m4.f_cached kv17).getD (T_flow_Total.mk 0 0)).f_Bytes)]) mt62 ((hm8.fut hM.chg).fut hf) (by kernel_rfl) rfl rfl rfl rfl) ?_
 refine RD.p rfl rfl rfl rfl (fun w' => O.move rfl) ?_
 refine RD.p rfl rfl rfl rfl (fun w' => O.nilp rfl) ?_
 refine RD.p rfl rfl rfl rfl (fun w' => O.fldA fl65_2 (by decide) rfl) ?_
 refine RD.q rfl rfl rfl rfl (fun w' hf => O.load sc62 rfl (Cs.adds [2] ((hC2.fut hM.chg).fut hf) rfl)) ?_
 refine RD.q rfl rfl rfl rfl (fun w' hf => O.loadN (cs := [vB kv17.f_Src.f_Six, o8 kv17.f_Src.f_B 0, o8 kv17.f_Src.f_B 1, o8 kv17.f_Src.f_B 2, o8 kv17.f_Src.f_B 3, o8 kv17.f_Src.f_B 4, o8 kv17.f_Src.f_B 5, o8 kv17.f_Src.f_B 6, o8 kv17.f_Src.f_B 7, o8 kv17.f_Src.f_B 8, o8 kv17.f_Src.f_B 9, o8 kv17.f_Src.f_B 10, o8 kv17.f_Src.f_B 11, o8 kv17.f_Src.f_B 12, o8 kv17.f_Src.f_B 13, o8 kv17.f_Src.f_B 14, o8 kv17.f_Src.f_B 15, vB kv17.f_Dst.f_Six, o8 kv17.f_Dst.f_B 0, o8 kv17.f_Dst.f_B 1, o8 kv17.f_Dst.f_B 2, o8 kv17.f_Dst.f_B 3, o8 kv17.f_Dst.f_B 4, o8 kv17.f_Dst.f_B 5, o8 kv17.f_Dst.f_B 6, o8 kv17.f_Dst.f_B 7, o8 kv17.f_Dst.f_B 8, o8 kv17.f_Dst.f_B 9, o8 kv17.f_Dst.f_B 10, o8 kv17.f_Dst.f_B 11, o8 kv17.f_Dst.f_B 12, o8 kv17.f_Dst.f_B 13, o8 kv17.f_Dst.f_B 14, o8 kv17.f_Dst.f_B 15, v8 kv17.f_Proto, v16 kv17.f_SrcPort, v16 kv17.f_DstPort]) ag34 rfl (Cs.addsN [] ((hM.bx (i := 0) rfl).fut hf) rfl)) ?_
 refine RD.q rfl rfl rfl rfl (fun w' hf => O.lkR (k := kv17) (ks := [vB kv17.f_Src.f_Six, o8 kv17.f_Src.f_B 0, o8 kv17.f_Src.f_B 1, o8 kv17.f_Src.f_B 2, o8 kv17.f_Src.f_B 3, o8 kv17.f_Src.f_B 4, o8 kv17.f_Src.f_B 5, o8 kv17.f_Src.f_B 6, o8 kv17.f_Src.f_B 7, o8 kv17.f_Src.f_B 8, o8 kv17.f_Src.f_B 9, o8 kv17.f_Src.f_B 10, o8 kv17.f_Src.f_B 11, o8 kv17.f_Src.f_B 12, o8 kv17.f_Src.f_B 13, o8 kv17.f_Src.f_B 14, o8 kv17.f_Src.f_B 15, vB kv17.f_Dst.f_Six, o8 kv17.f_Dst.f_B 0, o8 kv17.f_Dst.f_B 1, o8 kv17.f_Dst.f_B 2, o8 kv17.f_Dst.f_B 3, o8 kv17.f_Dst.f_B 4, o8 kv17.f_Dst.f_B 5, o8 kv17.f_Dst.f_B 6, o8 kv17.f_Dst.f_B 7, o8 kv17.f_Dst.f_B 8, o8 kv17.f_Dst.f_B 9, o8 kv17.f_Dst.f_B 10, o8 kv17.f_Dst.f_B 11, o8 kv17.f_Dst.f_B 12, o8 kv17.f_Dst.f_B 13, o8 kv17.f_Dst.f_B 14, o8 kv17.f_Dst.f_B 15, v8 kv17.f_Proto, v16 kv17.f_SrcPort, v16 kv17.f_DstPort]) (zv := (T_flow_Total.mk 0 0)) (vs := [v64 (((m4.f_lost kv17).getD (T_flow_Total.mk 0 0)).f_Packets), v64 (((m4.f_lost kv17).getD (T_flow_Total.mk 0 0)).f_Bytes)]) mt62 ((hm10.fut hM.chg).fut hf) (by kernel_rfl) rfl rfl rfl rfl) ?_
 refine RD.q rfl rfl rfl rfl (fun w' hf => O.bld (cs := [v64 (((m4.f_forwarded kv17).getD (T_flow_Total.mk 0 0)).f_Packets), v64 (((m4.f_forwarded kv17).getD (T_flow_Total.mk 0 0)).f_Bytes), v64 (((m4.f_cached kv17).getD (T_flow_Total.mk 0 0)).f_Packets), v64 (((m4.f_cached kv17).getD (T_flow_Total.mk 0 0)).f_Bytes), v64 0, v64 0, v64 0, v64 0, v64 (((m4.f_lost kv17).getD (T_flow_Total.mk 0 0)).f_Packets), v64 (((m4.f_lost kv17).getD (T_flow_Total.mk 0 0)).f_Bytes), v64 0, v64 0]) bt54 rfl (by kernel_rfl)) ?_
 refine RD.meffs rfl rfl rfl (E.stB (j := 1) (off := 0) (vs := [v64 (((m4.f_forwarded kv17).getD (T_flow_Total.mk 0 0)).f_Packets), v64 (((m4.f_forwarded kv17).getD (T_flow_Total.mk 0 0)).f_Bytes), v64 (((m4.f_cached kv17).getD (T_flow_Total.mk 0 0)).f_Packets), v64 (((m4.f_cached kv17).getD (T_flow_Total.mk 0 0)).f_Bytes), v64 0, v64 0, v64 0, v64 0, v64 (((m4.f_lost kv17).getD (T_flow_Total.mk 0 0)).f_Packets), v64 (((m4.f_lost kv17).getD (T_flow_Total.mk 0 0)).f_Bytes), v64 0, v64 0]) (cs' := [v64 (((m4.f_forwarded kv17).getD (T_flow_Total.mk 0 0)).f_Packets), v64 (((m4.f_forwarded kv17).getD (T_flow_Total.mk 0 0)).f_Bytes), v64 (((m4.f_cached kv17).getD (T_flow_Total.mk 0 0)).f_Packets), v64 (((m4.f_cached kv17).getD (T_flow_Total.mk 0 0)).f_Bytes), v64 0, v64 0, v64 0, v64 0, v64 (((m4.f_lost kv17).getD (T_flow_Total.mk 0 0)).f_Packets), v64 (((m4.f_lost kv17).getD (T_flow_Total.mk 0 0)).f_Bytes), v64 0, v64 0]) hM rfl sz54 rfl (adds_eq [] rfl) rfl rfl (One.all rfl) rfl rfl) fun w28 hM1 => ?_
 clear hM
 have hM := hM1
 clear hM1
 refine RD.nil ?_
 refine KQ.thn hQ27 ?_
 clear hQ27 Q27
 refine sr fun Q29 hQ29 => ?_
 refine RL.val (O.mkf rfl rfl) rfl ?_
 refine va rfl rfl ?_
 refine nt hQ29 ?_
 clear hQ29 Q29
 refine KC.seqH fun Q30 hQ30 => ?_
 refine sr fun Q31 hQ31 => ?_
 refine vm rfl rfl ?_
 refine RL.val (O.nilp rfl) rfl ?_
 refine RL.val (O.fldA fl65_3 (by decide) rfl) rfl ?_
 refine RL.val (O.load sc42 rfl (Cs.adds [3] ((hC2.fut hM.chg)) rfl)) rfl ?_
 refine RL.val (O.len sl42 rfl) rfl ?_
 refine vm rfl rfl ?_
 refine nt hQ31 ?_
 clear hQ31 Q31
 refine KC.block ?_
 refine KC.loop (fun k580 a w578 => ∃ (p569 : Int) (p570 : Int) (p571 : Int) (p572 : Int) (p573 : Int) (p574 : Int) (p575 : Int) (p576 : Int) (t577 : Int), Kn 68 [(3, .pointer (some ⟨g19, 0, none⟩)), (4, .pointer (some ⟨g22, 0, none⟩)), (5, .func (.func 32) #[] #[.pointer (some ⟨g22, 0, none⟩)]), (37, .slice A11 (m4.f_entries).length c12), (38, vI (m4.f_entries.length : Int)), (39, vI t577)] a ∧ Mem w [] w578 [.box g19 34 [vB kv17.f_Src.f_Six, o8 kv17.f_Src.f_B 0, o8 kv17.f_Src.f_B 1, o8 kv17.f_Src.f_B 2, o8 kv17.f_Src.f_B 3, o8 kv17.f_Src.f_B 4, o8 kv17.f_Src.f_B 5, o8 kv17.f_Src.f_B 6, o8 kv17.f_Src.f_B 7, o8 kv17.f_Src.f_B 8, o8 kv17.f_Src.f_B 9, o8 kv17.f_Src.f_B 10, o8 kv17.f_Src.f_B 11, o8 kv17.f_Src.f_B 12, o8 kv17.f_Src.f_B 13, o8 kv17.f_Src.f_B 14, o8 kv17.f_Src.f_B 15, vB kv17.f_Dst.f_Six, o8 kv17.f_Dst.f_B 0, o8 kv17.f_Dst.f_B 1, o8 kv17.f_Dst.f_B 2, o8 kv17.f_Dst.f_B 3, o8 kv17.f_Dst.f_B 4, o8 kv17.f_Dst.f_B 5, o8 kv17.f_Dst.f_B 6, o8 kv17.f_Dst.f_B 7, o8 kv17.f_Dst.f_B 8, o8 kv17.f_Dst.f_B 9, o8 kv17.f_Dst.f_B 10, o8 kv17.f_Dst.f_B 11, o8 kv17.f_Dst.f_B 12, o8 kv17.f_Dst.f_B 13, o8 kv17.f_Dst.f_B 14, o8 kv17.f_Dst.f_B 15, v8 kv17.f_Proto, v16 kv17.f_SrcPort, v16 kv17.f_DstPort], .box g22 54 [v64 (((m4.f_forwarded kv17).getD (T_flow_Total.mk 0 0)).f_Packets), v64 (((m4.f_forwarded kv17).getD (T_flow_Total.mk 0 0)).f_Bytes), v64 (((m4.f_cached kv17).getD (T_flow_Total.mk 0 0)).f_Packets), v64 (((m4.f_cached kv17).getD (T_flow_Total.mk 0 0)).f_Bytes), v64 p569, v64 p570, v64 p571, v64 p572, v64 p573, v64 p574, v64 p575, v64 p576]] ∧ F_model_Model_Of_L1 m4 kv17 k580 p569 p570 p571 p572 p573 p574 p575 p576 t577 = some r) ?_ ?_
 ·exact fun a ha => ⟨fuel0, 0, 0, 0, 0, (((m4.f_lost kv17).getD (T_flow_Total.mk 0 0)).f_Packets), (((m4.f_lost kv17).getD (T_flow_Total.mk 0 0)).f_Bytes), 0, 0, 0, ha.less (less_cons rfl (less_cons rfl (less_cons rfl (less_cons rfl (less_cons rfl (less_cons rfl less_nil)))))), hM, hF⟩
 rintro k580 a w578 ⟨p569, p570, p571, p572, p573, p574, p575, p576, t577, ha, hM, hF⟩
 refine KC.app ha ?_
 clear ha
 cases k580 with
 | zero => exact (none_some hF).elim
 | succ k580 =>
 have hF : F_model_Model_Of_l1 (F_model_Model_Of_L1 m4 kv17 k580) m4 kv17 p569 p570 p571 p572 p573 p574 p575 p576 t577 = some r := hF
 unfold F_model_Model_Of_l1 at hF
 refine sr fun Q581 hQ581 => ?_
 refine RL.val (O.lss rfl rfl) rfl ?_
 refine nt hQ581 ?_
 clear hQ581 Q581
 refine KC.seqH fun Q582 hQ582 => ?_
 refine KC.cond rfl (fun hc => ?_) (fun hc => ?_)
 ·rw [if_pos hc] at hF
  refine KC.skip ?_
  refine KQ.thn hQ582 ?_
  clear hQ582 Q582
  refine KC.seqH fun Q583 hQ583 => ?_
  refine KC.block ?_
  refine sr fun Q584 hQ584 => ?_
  refine obindE hF fun xv587 hx586 hF => ?_
  obtain ⟨cs590, hA585, hR588, hO589⟩ := RdD.at hr13 hx586
  obtain ⟨A591, c592, rfl, hr593, ho594⟩ := hR588
  have hA585 := hA585.chg hM.chg hO589
  refine RL.val (O.idxA sl42 (hA585) rfl rfl) rfl ?_
  refine RL.val (O.loadN (cs := [v32 xv587.f_Epoch, v64 xv587.f_N, .slice A591 (xv587.f_Records).length c592, vB xv587.f_There, vB xv587.f_Synced, vB xv587.f_Credited]) ag47 rfl (hA585).cells) rfl ?_
  refine RL.eff (E.alloc hM ze47) rfl fun v w596 hv => ?_
  clear hM
  obtain ⟨g595, rfl, hM, hf⟩ := hv
  refine RL.effs (E.stB (j := 2) (off := 0) (vs := [v32 xv587.f_Epoch, v64 xv587.f_N, .slice A591 (xv587.f_Records).length c592, vB xv587.f_There, vB xv587.f_Synced, vB xv587.f_Credited]) (cs' := [v32 xv587.f_Epoch, v64 xv587.f_N, .slice A591 (xv587.f_Records).length c592, vB xv587.f_There, vB xv587.f_Synced, vB xv587.f_Credited]) hM rfl sz47 rfl (adds_eq [] rfl) rfl rfl (One.all rfl) rfl rfl) fun w598 hM1 => ?_
  clear hM
  have hM := hM1
  clear hM1
  refine nt hQ584 ?_
  clear hQ584 Q584
  refine sr fun Q599 hQ599 => ?_
  refine RL.val (O.fldA fl47_2 (by decide) rfl) rfl ?_
  refine RL.val (O.load sc38 rfl (Cs.adds [2] ((hM.bx (i := 2) rfl)) rfl)) rfl ?_
  refine RL.val (O.len sl38 rfl) rfl ?_
  refine vm rfl rfl ?_
  refine nt hQ599 ?_
  clear hQ599 Q599
  refine KC.block ?_
  refine KC.loop (fun k770 a w768 => ∃ (p758 : Int) (p759 : Int) (p760 : Int) (p761 : Int) (p762 : Int) (p763 : Int) (p764 : Int) (p765 : Int) (t767 : Int), Kn 68 [(3, .pointer (some ⟨g19, 0, none⟩)), (4, .pointer (some ⟨g22, 0, none⟩)), (5, .func (.func 32) #[] #[.pointer (some ⟨g22, 0, none⟩)]), (7, .pointer (some ⟨g595, 0, none⟩)), (37, .slice A11 (m4.f_entries).length c12), (38, vI (m4.f_entries.length : Int)), (39, vI t577), (44, .slice A591 (xv587.f_Records).length c592), (45, vI (xv587.f_Records.length : Int)), (46, vI t767)] a ∧ Mem w [] w768 [.box g19 34 [vB kv17.f_Src.f_Six, o8 kv17.f_Src.f_B 0, o8 kv17.f_Src.f_B 1, o8 kv17.f_Src.f_B 2, o8 kv17.f_Src.f_B 3, o8 kv17.f_Src.f_B 4, o8 kv17.f_Src.f_B 5, o8 kv17.f_Src.f_B 6, o8 kv17.f_Src.f_B 7, o8 kv17.f_Src.f_B 8, o8 kv17.f_Src.f_B 9, o8 kv17.f_Src.f_B 10, o8 kv17.f_Src.f_B 11, o8 kv17.f_Src.f_B 12, o8 kv17.f_Src.f_B 13, o8 kv17.f_Src.f_B 14, o8 kv17.f_Src.f_B 15, vB kv17.f_Dst.f_Six, o8 kv17.f_Dst.f_B 0, o8 kv17.f_Dst.f_B 1, o8 kv17.f_Dst.f_B 2, o8 kv17.f_Dst.f_B 3, o8 kv17.f_Dst.f_B 4, o8 kv17.f_Dst.f_B 5, o8 kv17.f_Dst.f_B 6, o8 kv17.f_Dst.f_B 7, o8 kv17.f_Dst.f_B 8, o8 kv17.f_Dst.f_B 9, o8 kv17.f_Dst.f_B 10, o8 kv17.f_Dst.f_B 11, o8 kv17.f_Dst.f_B 12, o8 kv17.f_Dst.f_B 13, o8 kv17.f_Dst.f_B 14, o8 kv17.f_Dst.f_B 15, v8 kv17.f_Proto, v16 kv17.f_SrcPort, v16 kv17.f_DstPort], .box g22 54 [v64 (((m4.f_forwarded kv17).getD (T_flow_Total.mk 0 0)).f_Packets), v64 (((m4.f_forwarded kv17).getD (T_flow_Total.mk 0 0)).f_Bytes), v64 (((m4.f_cached kv17).getD (T_flow_Total.mk 0 0)).f_Packets), v64 (((m4.f_cached kv17).getD (T_flow_Total.mk 0 0)).f_Bytes), v64 p758, v64 p759, v64 p760, v64 p761, v64 p762, v64 p763, v64 p764, v64 p765], .box g595 47 [v32 xv587.f_Epoch, v64 xv587.f_N, .slice A591 (xv587.f_Records).length c592, vB xv587.f_There, vB xv587.f_Synced, vB xv587.f_Credited]] ∧ F_model_Model_Of_L2 kv17 t577 (F_model_Model_Of_L1 m4 kv17 k580) xv587 k770 p758 p759 p760 p761 p762 p763 p764 p765 t767 = some r) ?_ ?_
  ·exact fun a ha => ⟨fuel0, p569, p570, p571, p572, p573, p574, p575, p576, 0, ha.less (less_cons rfl (less_cons rfl (less_cons rfl (less_cons rfl (less_cons rfl (less_cons rfl (less_cons rfl (less_cons rfl (less_cons rfl (less_cons rfl less_nil)))))))))), hM, hF⟩
  rintro k770 a w768 ⟨p758, p759, p760, p761, p762, p763, p764, p765, t767, ha, hM, hF⟩
  refine KC.app ha ?_
  clear ha
  cases k770 with
  | zero => exact (none_some hF).elim
  | succ k770 =>
  have hF : F_model_Model_Of_l2 (F_model_Model_Of_L2 kv17 t577 (F_model_Model_Of_L1 m4 kv17 k580) xv587 k770) kv17 t577 (F_model_Model_Of_L1 m4 kv17 k580) xv587 p758 p759 p760 p761 p762 p763 p764 p765 t767 = some r := hF
  unfold F_model_Model_Of_l2 at hF
  refine sr fun Q771 hQ771 => ?_
  refine RL.val (O.lss rfl rfl) rfl ?_
  refine nt hQ771 ?_
  clear hQ771 Q771
  refine KC.seqH fun Q772 hQ772 => ?_
  refine KC.cond rfl (fun hc => ?_) (fun hc => ?_)
  ·rw [if_pos hc] at hF
   refine KC.skip ?_
   refine KQ.thn hQ772 ?_
   clear hQ772 Q772
   refine KC.cut (fun a w842 => ∃ (p833 : Int) (p834 : Int) (p835 : Int) (p836 : Int) (p837 : Int) (p838 : Int) (p839 : Int) (p840 : Int), Kn 68 [(3, .pointer (some ⟨g19, 0, none⟩)), (4, .pointer (some ⟨g22, 0, none⟩)), (5, .func (.func 32) #[] #[.pointer (some ⟨g22, 0, none⟩)]), (7, .pointer (some ⟨g595, 0, none⟩)), (37, .slice A11 (m4.f_entries).length c12), (38, vI (m4.f_entries.length : Int)), (39, vI t577), (44, .slice A591 (xv587.f_Records).length c592), (45, vI (xv587.f_Records.length : Int)), (46, vI t767)] a ∧ Mem w [] w842 [.box g19 34 [vB kv17.f_Src.f_Six, o8 kv17.f_Src.f_B 0, o8 kv17.f_Src.f_B 1, o8 kv17.f_Src.f_B 2, o8 kv17.f_Src.f_B 3, o8 kv17.f_Src.f_B 4, o8 kv17.f_Src.f_B 5, o8 kv17.f_Src.f_B 6, o8 kv17.f_Src.f_B 7, o8 kv17.f_Src.f_B 8, o8 kv17.f_Src.f_B 9, o8 kv17.f_Src.f_B 10, o8 kv17.f_Src.f_B 11, o8 kv17.f_Src.f_B 12, o8 kv17.f_Src.f_B 13, o8 kv17.f_Src.f_B 14, o8 kv17.f_Src.f_B 15, vB kv17.f_Dst.f_Six, o8 kv17.f_Dst.f_B 0, o8 kv17.f_Dst.f_B 1, o8 kv17.f_Dst.f_B 2, o8 kv17.f_Dst.f_B 3, o8 kv17.f_Dst.f_B 4, o8 kv17.f_Dst.f_B 5, o8 kv17.f_Dst.f_B 6, o8 kv17.f_Dst.f_B 7, o8 kv17.f_Dst.f_B 8, o8 kv17.f_Dst.f_B 9, o8 kv17.f_Dst.f_B 10, o8 kv17.f_Dst.f_B 11, o8 kv17.f_Dst.f_B 12, o8 kv17.f_Dst.f_B 13, o8 kv17.f_Dst.f_B 14, o8 kv17.f_Dst.f_B 15, v8 kv17.f_Proto, v16 kv17.f_SrcPort, v16 kv17.f_DstPort], .box g22 54 [v64 (((m4.f_forwarded kv17).getD (T_flow_Total.mk 0 0)).f_Packets), v64 (((m4.f_forwarded kv17).getD (T_flow_Total.mk 0 0)).f_Bytes), v64 (((m4.f_cached kv17).getD (T_flow_Total.mk 0 0)).f_Packets), v64 (((m4.f_cached kv17).getD (T_flow_Total.mk 0 0)).f_Bytes), v64 p833, v64 p834, v64 p835, v64 p836, v64 p837, v64 p838, v64 p839, v64 p840], .box g595 47 [v32 xv587.f_Epoch, v64 xv587.f_N, .slice A591 (xv587.f_Records).length c592, vB xv587.f_There, vB xv587.f_Synced, vB xv587.f_Credited]] ∧ F_model_Model_Of_j1 t767 (F_model_Model_Of_L2 kv17 t577 (F_model_Model_Of_L1 m4 kv17 k580) xv587 k770) p833 p834 p835 p836 p837 p838 p839 p840 = some r) ?_ ?_
   ·refine KC.block ?_
    refine sr fun Q773 hQ773 => ?_
    refine obindE hF fun xv776 hx775 hF => ?_
    have hA774 := Rd.atN (f := e_flow_Record) (s := 44) (fun _ => rfl) (by decide) (hM.inp hr593 Off.nil) hx775
    refine RL.val (O.idxA sl38 (hA774) rfl rfl) rfl ?_
    refine RL.val (O.loadN (cs := [vB xv776.f_Key.f_Src.f_Six, o8 xv776.f_Key.f_Src.f_B 0, o8 xv776.f_Key.f_Src.f_B 1, o8 xv776.f_Key.f_Src.f_B 2, o8 xv776.f_Key.f_Src.f_B 3, o8 xv776.f_Key.f_Src.f_B 4, o8 xv776.f_Key.f_Src.f_B 5, o8 xv776.f_Key.f_Src.f_B 6, o8 xv776.f_Key.f_Src.f_B 7, o8 xv776.f_Key.f_Src.f_B 8, o8 xv776.f_Key.f_Src.f_B 9, o8 xv776.f_Key.f_Src.f_B 10, o8 xv776.f_Key.f_Src.f_B 11, o8 xv776.f_Key.f_Src.f_B 12, o8 xv776.f_Key.f_Src.f_B 13, o8 xv776.f_Key.f_Src.f_B 14, o8 xv776.f_Key.f_Src.f_B 15, vB xv776.f_Key.f_Dst.f_Six, o8 xv776.f_Key.f_Dst.f_B 0, o8 xv776.f_Key.f_Dst.f_B 1, o8 xv776.f_Key.f_Dst.f_B 2, o8 xv776.f_Key.f_Dst.f_B 3, o8 xv776.f_Key.f_Dst.f_B 4, o8 xv776.f_Key.f_Dst.f_B 5, o8 xv776.f_Key.f_Dst.f_B 6, o8 xv776.f_Key.f_Dst.f_B 7, o8 xv776.f_Key.f_Dst.f_B 8, o8 xv776.f_Key.f_Dst.f_B 9, o8 xv776.f_Key.f_Dst.f_B 10, o8 xv776.f_Key.f_Dst.f_B 11, o8 xv776.f_Key.f_Dst.f_B 12, o8 xv776.f_Key.f_Dst.f_B 13, o8 xv776.f_Key.f_Dst.f_B 14, o8 xv776.f_Key.f_Dst.f_B 15, v8 xv776.f_Key.f_Proto, v16 xv776.f_Key.f_SrcPort, v16 xv776.f_Key.f_DstPort, v64 xv776.f_Packets, v64 xv776.f_Bytes, v64 xv776.f_First, v64 xv776.f_Last, v8 xv776.f_Flags, v8 xv776.f_Reason, v8 xv776.f_Class]) ag50 rfl (hA774).cells) rfl ?_
    refine RL.eff (E.alloc hM ze50) rfl fun v w778 hv => ?_
    clear hM
    obtain ⟨g777, rfl, hM, hf⟩ := hv
    refine RL.effs (E.stB (j := 3) (off := 0) (vs := [vB xv776.f_Key.f_Src.f_Six, o8 xv776.f_Key.f_Src.f_B 0, o8 xv776.f_Key.f_Src.f_B 1, o8 xv776.f_Key.f_Src.f_B 2, o8 xv776.f_Key.f_Src.f_B 3, o8 xv776.f_Key.f_Src.f_B 4, o8 xv776.f_Key.f_Src.f_B 5, o8 xv776.f_Key.f_Src.f_B 6, o8 xv776.f_Key.f_Src.f_B 7, o8 xv776.f_Key.f_Src.f_B 8, o8 xv776.f_Key.f_Src.f_B 9, o8 xv776.f_Key.f_Src.f_B 10, o8 xv776.f_Key.f_Src.f_B 11, o8 xv776.f_Key.f_Src.f_B 12, o8 xv776.f_Key.f_Src.f_B 13, o8 xv776.f_Key.f_Src.f_B 14, o8 xv776.f_Key.f_Src.f_B 15, vB xv776.f_Key.f_Dst.f_Six, o8 xv776.f_Key.f_Dst.f_B 0, o8 xv776.f_Key.f_Dst.f_B 1, o8 xv776.f_Key.f_Dst.f_B 2, o8 xv776.f_Key.f_Dst.f_B 3, o8 xv776.f_Key.f_Dst.f_B 4, o8 xv776.f_Key.f_Dst.f_B 5, o8 xv776.f_Key.f_Dst.f_B 6, o8 xv776.f_Key.f_Dst.f_B 7, o8 xv776.f_Key.f_Dst.f_B 8, o8 xv776.f_Key.f_Dst.f_B 9, o8 xv776.f_Key.f_Dst.f_B 10, o8 xv776.f_Key.f_Dst.f_B 11, o8 xv776.f_Key.f_Dst.f_B 12, o8 xv776.f_Key.f_Dst.f_B 13, o8 xv776.f_Key.f_Dst.f_B 14, o8 xv776.f_Key.f_Dst.f_B 15, v8 xv776.f_Key.f_Proto, v16 xv776.f_Key.f_SrcPort, v16 xv776.f_Key.f_DstPort, v64 xv776.f_Packets, v64 xv776.f_Bytes, v64 xv776.f_First, v64 xv776.f_Last, v8 xv776.f_Flags, v8 xv776.f_Reason, v8 xv776.f_Class]) (cs' := [vB xv776.f_Key.f_Src.f_Six, o8 xv776.f_Key.f_Src.f_B 0, o8 xv776.f_Key.f_Src.f_B 1, o8 xv776.f_Key.f_Src.f_B 2, o8 xv776.f_Key.f_Src.f_B 3, o8 xv776.f_Key.f_Src.f_B 4, o8 xv776.f_Key.f_Src.f_B 5, o8 xv776.f_Key.f_Src.f_B 6, o8 xv776.f_Key.f_Src.f_B 7, o8 xv776.f_Key.f_Src.f_B 8, o8 xv776.f_Key.f_Src.f_B 9, o8 xv776.f_Key.f_Src.f_B 10, o8 xv776.f_Key.f_Src.f_B 11, o8 xv776.f_Key.f_Src.f_B 12, o8 xv776.f_Key.f_Src.f_B 13, o8 xv776.f_Key.f_Src.f_B 14, o8 xv776.f_Key.f_Src.f_B 15, vB xv776.f_Key.f_Dst.f_Six, o8 xv776.f_Key.f_Dst.f_B 0, o8 xv776.f_Key.f_Dst.f_B 1, o8 xv776.f_Key.f_Dst.f_B 2, o8 xv776.f_Key.f_Dst.f_B 3, o8 xv776.f_Key.f_Dst.f_B 4, o8 xv776.f_Key.f_Dst.f_B 5, o8 xv776.f_Key.f_Dst.f_B 6, o8 xv776.f_Key.f_Dst.f_B 7, o8 xv776.f_Key.f_Dst.f_B 8, o8 xv776.f_Key.f_Dst.f_B 9, o8 xv776.f_Key.f_Dst.f_B 10, o8 xv776.f_Key.f_Dst.f_B 11, o8 xv776.f_Key.f_Dst.f_B 12, o8 xv776.f_Key.f_Dst.f_B 13, o8 xv776.f_Key.f_Dst.f_B 14, o8 xv776.f_Key.f_Dst.f_B 15, v8 xv776.f_Key.f_Proto, v16 xv776.f_Key.f_SrcPort, v16 xv776.f_Key.f_DstPort, v64 xv776.f_Packets, v64 xv776.f_Bytes, v64 xv776.f_First, v64 xv776.f_Last, v8 xv776.f_Flags, v8 xv776.f_Reason, v8 xv776.f_Class]) hM rfl sz50 rfl (adds_eq [] rfl) rfl rfl (One.all rfl) rfl rfl) fun w780 hM1 => ?_
    clear hM
    have hM := hM1
    clear hM1
    refine nt hQ773 ?_
    clear hQ773 Q773
    refine sr fun Q781 hQ781 => ?_
    refine RL.val (O.fldA fl50_0 (by decide) rfl) rfl ?_
    refine RL.val (O.loadN (cs := [vB xv776.f_Key.f_Src.f_Six, o8 xv776.f_Key.f_Src.f_B 0, o8 xv776.f_Key.f_Src.f_B 1, o8 xv776.f_Key.f_Src.f_B 2, o8 xv776.f_Key.f_Src.f_B 3, o8 xv776.f_Key.f_Src.f_B 4, o8 xv776.f_Key.f_Src.f_B 5, o8 xv776.f_Key.f_Src.f_B 6, o8 xv776.f_Key.f_Src.f_B 7, o8 xv776.f_Key.f_Src.f_B 8, o8 xv776.f_Key.f_Src.f_B 9, o8 xv776.f_Key.f_Src.f_B 10, o8 xv776.f_Key.f_Src.f_B 11, o8 xv776.f_Key.f_Src.f_B 12, o8 xv776.f_Key.f_Src.f_B 13, o8 xv776.f_Key.f_Src.f_B 14, o8 xv776.f_Key.f_Src.f_B 15, vB xv776.f_Key.f_Dst.f_Six, o8 xv776.f_Key.f_Dst.f_B 0, o8 xv776.f_Key.f_Dst.f_B 1, o8 xv776.f_Key.f_Dst.f_B 2, o8 xv776.f_Key.f_Dst.f_B 3, o8 xv776.f_Key.f_Dst.f_B 4, o8 xv776.f_Key.f_Dst.f_B 5, o8 xv776.f_Key.f_Dst.f_B 6, o8 xv776.f_Key.f_Dst.f_B 7, o8 xv776.f_Key.f_Dst.f_B 8, o8 xv776.f_Key.f_Dst.f_B 9, o8 xv776.f_Key.f_Dst.f_B 10, o8 xv776.f_Key.f_Dst.f_B 11, o8 xv776.f_Key.f_Dst.f_B 12, o8 xv776.f_Key.f_Dst.f_B 13, o8 xv776.f_Key.f_Dst.f_B 14, o8 xv776.f_Key.f_Dst.f_B 15, v8 xv776.f_Key.f_Proto, v16 xv776.f_Key.f_SrcPort, v16 xv776.f_Key.f_DstPort]) ag34 rfl (Cs.addsN [0] ((hM.bx (i := 3) rfl)) rfl)) rfl ?_
    refine RL.val (O.loadN (cs := [vB kv17.f_Src.f_Six, o8 kv17.f_Src.f_B 0, o8 kv17.f_Src.f_B 1, o8 kv17.f_Src.f_B 2, o8 kv17.f_Src.f_B 3, o8 kv17.f_Src.f_B 4, o8 kv17.f_Src.f_B 5, o8 kv17.f_Src.f_B 6, o8 kv17.f_Src.f_B 7, o8 kv17.f_Src.f_B 8, o8 kv17.f_Src.f_B 9, o8 kv17.f_Src.f_B 10, o8 kv17.f_Src.f_B 11, o8 kv17.f_Src.f_B 12, o8 kv17.f_Src.f_B 13, o8 kv17.f_Src.f_B 14, o8 kv17.f_Src.f_B 15, vB kv17.f_Dst.f_Six, o8 kv17.f_Dst.f_B 0, o8 kv17.f_Dst.f_B 1, o8 kv17.f_Dst.f_B 2, o8 kv17.f_Dst.f_B 3, o8 kv17.f_Dst.f_B 4, o8 kv17.f_Dst.f_B 5, o8 kv17.f_Dst.f_B 6, o8 kv17.f_Dst.f_B 7, o8 kv17.f_Dst.f_B 8, o8 kv17.f_Dst.f_B 9, o8 kv17.f_Dst.f_B 10, o8 kv17.f_Dst.f_B 11, o8 kv17.f_Dst.f_B 12, o8 kv17.f_Dst.f_B 13, o8 kv17.f_Dst.f_B 14, o8 kv17.f_Dst.f_B 15, v8 kv17.f_Proto, v16 kv17.f_SrcPort, v16 kv17.f_DstPort]) ag34 rfl (Cs.addsN [] ((hM.bx (i := 0) rfl)) rfl)) rfl ?_
    refine RL.val (O.steq (cs := [vB xv776.f_Key.f_Src.f_Six, o8 xv776.f_Key.f_Src.f_B 0, o8 xv776.f_Key.f_Src.f_B 1, o8 xv776.f_Key.f_Src.f_B 2, o8 xv776.f_Key.f_Src.f_B 3, o8 xv776.f_Key.f_Src.f_B 4, o8 xv776.f_Key.f_Src.f_B 5, o8 xv776.f_Key.f_Src.f_B 6, o8 xv776.f_Key.f_Src.f_B 7, o8 xv776.f_Key.f_Src.f_B 8, o8 xv776.f_Key.f_Src.f_B 9, o8 xv776.f_Key.f_Src.f_B 10, o8 xv776.f_Key.f_Src.f_B 11, o8 xv776.f_Key.f_Src.f_B 12, o8 xv776.f_Key.f_Src.f_B 13, o8 xv776.f_Key.f_Src.f_B 14, o8 xv776.f_Key.f_Src.f_B 15, vB xv776.f_Key.f_Dst.f_Six, o8 xv776.f_Key.f_Dst.f_B 0, o8 xv776.f_Key.f_Dst.f_B 1, o8 xv776.f_Key.f_Dst.f_B 2, o8 xv776.f_Key.f_Dst.f_B 3, o8 xv776.f_Key.f_Dst.f_B 4, o8 xv776.f_Key.f_Dst.f_B 5, o8 xv776.f_Key.f_Dst.f_B 6, o8 xv776.f_Key.f_Dst.f_B 7, o8 xv776.f_Key.f_Dst.f_B 8, o8 xv776.f_Key.f_Dst.f_B 9, o8 xv776.f_Key.f_Dst.f_B 10, o8 xv776.f_Key.f_Dst.f_B 11, o8 xv776.f_Key.f_Dst.f_B 12, o8 xv776.f_Key.f_Dst.f_B 13, o8 xv776.f_Key.f_Dst.f_B 14, o8 xv776.f_Key.f_Dst.f_B 15, v8 xv776.f_Key.f_Proto, v16 xv776.f_Key.f_SrcPort, v16 xv776.f_Key.f_DstPort]) (cs' := [vB kv17.f_Src.f_Six, o8 kv17.f_Src.f_B 0, o8 kv17.f_Src.f_B 1, o8 kv17.f_Src.f_B 2, o8 kv17.f_Src.f_B 3, o8 kv17.f_Src.f_B 4, o8 kv17.f_Src.f_B 5, o8 kv17.f_Src.f_B 6, o8 kv17.f_Src.f_B 7, o8 kv17.f_Src.f_B 8, o8 kv17.f_Src.f_B 9, o8 kv17.f_Src.f_B 10, o8 kv17.f_Src.f_B 11, o8 kv17.f_Src.f_B 12, o8 kv17.f_Src.f_B 13, o8 kv17.f_Src.f_B 14, o8 kv17.f_Src.f_B 15, vB kv17.f_Dst.f_Six, o8 kv17.f_Dst.f_B 0, o8 kv17.f_Dst.f_B 1, o8 kv17.f_Dst.f_B 2, o8 kv17.f_Dst.f_B 3, o8 kv17.f_Dst.f_B 4, o8 kv17.f_Dst.f_B 5, o8 kv17.f_Dst.f_B 6, o8 kv17.f_Dst.f_B 7, o8 kv17.f_Dst.f_B 8, o8 kv17.f_Dst.f_B 9, o8 kv17.f_Dst.f_B 10, o8 kv17.f_Dst.f_B 11, o8 kv17.f_Dst.f_B 12, o8 kv17.f_Dst.f_B 13, o8 kv17.f_Dst.f_B 14, o8 kv17.f_Dst.f_B 15, v8 kv17.f_Proto, v16 kv17.f_SrcPort, v16 kv17.f_DstPort]) (by kernel_rfl) rfl rfl (Q34t xv776.f_Key kv17 _ rfl rfl)) rfl ?_
    refine nt hQ781 ?_
    clear hQ781 Q781
    refine KC.cond rfl (fun hc => ?_) (fun hc => ?_)
    ·rw [if_pos hc] at hF
     refine sr fun Q782 hQ782 => ?_
     refine vm rfl rfl ?_
     refine RL.val (O.loadN (cs := [v32 xv587.f_Epoch, v64 xv587.f_N, .slice A591 (xv587.f_Records).length c592, vB xv587.f_There, vB xv587.f_Synced, vB xv587.f_Credited]) ag47 rfl (Cs.addsN [] ((hM.bx (i := 2) rfl)) rfl)) rfl ?_
     refine RL.icallv (first := []) (captured := [.pointer (some ⟨g22, 0, none⟩)]) rfl Try.func32 bd32 rfl rfl rfl Try.ntmps32 rfl ?_
     refine sr fun Q783 hQ783 => ?_
     refine RL.eff (E.box (vs := [v32 xv587.f_Epoch, v64 xv587.f_N, .slice A591 (xv587.f_Records).length c592, vB xv587.f_There, vB xv587.f_Synced, vB xv587.f_Credited]) hM rfl rfl) rfl fun v w785 hv => ?_
     clear hM
     obtain ⟨g784, rfl, hM, hf⟩ := hv
     refine va rfl rfl ?_
     refine nt hQ783 ?_
     clear hQ783 Q783
     refine KC.seqH fun Q787 hQ787 => ?_
     refine KC.block ?_
     refine sr fun Q788 hQ788 => ?_
     refine RL.val (O.fldA fl47_5 (by decide) rfl) rfl ?_
     refine RL.val (O.load sc4 rfl (Cs.adds [5] ((hM.bx (i := 4) rfl)) rfl)) rfl ?_
     refine va rfl rfl ?_
     refine nt hQ788 ?_
     clear hQ788 Q788
     refine KC.cond rfl (fun hc => ?_) (fun hc => ?_)
     ·rw [if_pos hc] at hF
      refine sr fun Q789 hQ789 => ?_
      refine RL.val (O.fldA fl54_5 (by decide) rfl) rfl ?_
      refine va rfl rfl ?_
      refine nt hQ789 ?_
      clear hQ789 Q789
      refine KC.ret ?_
      refine KQ.blk_r ?_
      refine KQ.thr hQ787 ?_
      clear hQ787 Q787
      refine KQ.rets Try.results32 (RVs.cons (RV.tm rfl) RVs.nil) ?_
      refine ⟨.pointer (some (Addr.add ⟨g22, 0, none⟩ 10)), rfl, ?_⟩
      refine va rfl rfl ?_
      refine nt hQ782 ?_
      clear hQ782 Q782
      replace hM := hM.pick [0, 1, 2, 3] rfl (by decide)
      replace hM := hM.drewN 1
      refine KC.draw [] [8] [5, 6, 8] [0, 1, 2, 7] (.ofList [0, 1, 2, 3, 4, 5, 6, 7, 8]) moP (by kernel_rfl) ?_
      refine RD.p rfl rfl rfl rfl (fun w' => O.move rfl) ?_
      refine RD.p rfl rfl rfl rfl (fun w' => O.move rfl) ?_
      refine RD.p rfl rfl rfl rfl (fun w' => O.nilp rfl) ?_
      refine RD.q rfl rfl rfl rfl (fun w' hf => O.loadN (cs := [v64 p764, v64 p765]) ag37 rfl (Cs.addsN [10] ((hM.bx (i := 1) rfl).fut hf) rfl)) ?_
      refine RD.q rfl rfl rfl rfl (fun w' hf => O.loadN (cs := [vB xv776.f_Key.f_Src.f_Six, o8 xv776.f_Key.f_Src.f_B 0, o8 xv776.f_Key.f_Src.f_B 1, o8 xv776.f_Key.f_Src.f_B 2, o8 xv776.f_Key.f_Src.f_B 3, o8 xv776.f_Key.f_Src.f_B 4, o8 xv776.f_Key.f_Src.f_B 5, o8 xv776.f_Key.f_Src.f_B 6, o8 xv776.f_Key.f_Src.f_B 7, o8 xv776.f_Key.f_Src.f_B 8, o8 xv776.f_Key.f_Src.f_B 9, o8 xv776.f_Key.f_Src.f_B 10, o8 xv776.f_Key.f_Src.f_B 11, o8 xv776.f_Key.f_Src.f_B 12, o8 xv776.f_Key.f_Src.f_B 13, o8 xv776.f_Key.f_Src.f_B 14, o8 xv776.f_Key.f_Src.f_B 15, vB xv776.f_Key.f_Dst.f_Six, o8 xv776.f_Key.f_Dst.f_B 0, o8 xv776.f_Key.f_Dst.f_B 1, o8 xv776.f_Key.f_Dst.f_B 2, o8 xv776.f_Key.f_Dst.f_B 3, o8 xv776.f_Key.f_Dst.f_B 4, o8 xv776.f_Key.f_Dst.f_B 5, o8 xv776.f_Key.f_Dst.f_B 6, o8 xv776.f_Key.f_Dst.f_B 7, o8 xv776.f_Key.f_Dst.f_B 8, o8 xv776.f_Key.f_Dst.f_B 9, o8 xv776.f_Key.f_Dst.f_B 10, o8 xv776.f_Key.f_Dst.f_B 11, o8 xv776.f_Key.f_Dst.f_B 12, o8 xv776.f_Key.f_Dst.f_B 13, o8 xv776.f_Key.f_Dst.f_B 14, o8 xv776.f_Key.f_Dst.f_B 15, v8 xv776.f_Key.f_Proto, v16 xv776.f_Key.f_SrcPort, v16 xv776.f_Key.f_DstPort, v64 xv776.f_Packets, v64 xv776.f_Bytes, v64 xv776.f_First, v64 xv776.f_Last, v8 xv776.f_Flags, v8 xv776.f_Reason, v8 xv776.f_Class]) ag50 rfl (Cs.addsN [] ((hM.bx (i := 3) rfl).fut hf) rfl)) ?_
      refine obindE hF fun y790 hx791 hF => ?_
      refine RD.mcall rfl rfl trivial Try.func13 bd13 rfl rfl (c_flow_Record_Total _ xv776 _ hx791) fun v w792 hv => ?_
      obtain ⟨rfl, hN793⟩ := hv
      refine ⟨fun _ => hN793.fut, ?_⟩
      replace hM := hM.call0 hN793
      refine obindE hF fun y794 hx795 hF => ?_
      refine RD.mcall rfl rfl trivial Try.func12 bd12 rfl rfl (c_flow_Total_Plus _ (T_flow_Total.mk p764 p765) y790 _ hx795) fun v w796 hv => ?_
      obtain ⟨rfl, hN797⟩ := hv
      refine ⟨fun _ => hN797.fut, ?_⟩
      replace hM := hM.call0 hN797
      refine RD.p rfl rfl rfl rfl (fun w' => O.nilp rfl) ?_
      refine RD.meffs rfl rfl rfl (E.stB (j := 1) (off := 10) (vs := [v64 y794.f_Packets, v64 y794.f_Bytes]) (cs' := [v64 (((m4.f_forwarded kv17).getD (T_flow_Total.mk 0 0)).f_Packets), v64 (((m4.f_forwarded kv17).getD (T_flow_Total.mk 0 0)).f_Bytes), v64 (((m4.f_cached kv17).getD (T_flow_Total.mk 0 0)).f_Packets), v64 (((m4.f_cached kv17).getD (T_flow_Total.mk 0 0)).f_Bytes), v64 p758, v64 p759, v64 p760, v64 p761, v64 p762, v64 p763, v64 y794.f_Packets, v64 y794.f_Bytes]) hM rfl sz37 rfl (adds_eq [10] rfl) rfl rfl (One.all rfl) rfl rfl) fun w798 hM1 => ?_
      clear hM
      have hM := hM1
      clear hM1
      refine RD.nil ?_
      refine KQ.blk_n ?_
      refine KQ.then_k ?_
      replace hM := hM.pick [0, 1, 2] rfl (by decide)
      exact fun a ha => ⟨p758, p759, p760, p761, p762, p763, y794.f_Packets, y794.f_Bytes, ha.less (less_cons rfl (less_cons rfl (less_cons rfl (less_cons rfl (less_cons rfl (less_cons rfl (less_cons rfl (less_cons rfl (less_cons rfl (less_cons rfl less_nil)))))))))), hM, hF⟩
     rw [if_neg (ne_true hc)] at hF
     refine sr fun Q799 hQ799 => ?_
     refine RL.val (O.fldA fl47_3 (by decide) rfl) rfl ?_
     refine RL.val (O.load sc4 rfl (Cs.adds [3] ((hM.bx (i := 4) rfl)) rfl)) rfl ?_
     refine RL.val (O.not rfl) rfl ?_
     refine va rfl rfl ?_
     refine nt hQ799 ?_
     clear hQ799 Q799
     refine KC.cond rfl (fun hc => ?_) (fun hc => ?_)
     ·rw [if_pos hc] at hF
      refine sr fun Q800 hQ800 => ?_
      refine RL.val (O.fldA fl54_4 (by decide) rfl) rfl ?_
      refine va rfl rfl ?_
      refine nt hQ800 ?_
      clear hQ800 Q800
      refine KC.ret ?_
      refine KQ.blk_r ?_
      refine KQ.thr hQ787 ?_
      clear hQ787 Q787
      refine KQ.rets Try.results32 (RVs.cons (RV.tm rfl) RVs.nil) ?_
      refine ⟨.pointer (some (Addr.add ⟨g22, 0, none⟩ 8)), rfl, ?_⟩
      refine va rfl rfl ?_
      refine nt hQ782 ?_
      clear hQ782 Q782
      replace hM := hM.pick [0, 1, 2, 3] rfl (by decide)
      replace hM := hM.drewN 1
      refine KC.draw [] [8] [5, 6, 8] [0, 1, 2, 7] (.ofList [0, 1, 2, 3, 4, 5, 6, 7, 8]) moP (by kernel_rfl) ?_
      refine RD.p rfl rfl rfl rfl (fun w' => O.move rfl) ?_
      refine RD.p rfl rfl rfl rfl (fun w' => O.move rfl) ?_
      refine RD.p rfl rfl rfl rfl (fun w' => O.nilp rfl) ?_
      refine RD.q rfl rfl rfl rfl (fun w' hf => O.loadN (cs := [v64 p762, v64 p763]) ag37 rfl (Cs.addsN [8] ((hM.bx (i := 1) rfl).fut hf) rfl)) ?_
      refine RD.q rfl rfl rfl rfl (fun w' hf => O.loadN (cs := [vB xv776.f_Key.f_Src.f_Six, o8 xv776.f_Key.f_Src.f_B 0, o8 xv776.f_Key.f_Src.f_B 1, o8 xv776.f_Key.f_Src.f_B 2, o8 xv776.f_Key.f_Src.f_B 3, o8 xv776.f_Key.f_Src.f_B 4, o8 xv776.f_Key.f_Src.f_B 5, o8 xv776.f_Key.f_Src.f_B 6, o8 xv776.f_Key.f_Src.f_B 7, o8 xv776.f_Key.f_Src.f_B 8, o8 xv776.f_Key.f_Src.f_B 9, o8 xv776.f_Key.f_Src.f_B 10, o8 xv776.f_Key.f_Src.f_B 11, o8 xv776.f_Key.f_Src.f_B 12, o8 xv776.f_Key.f_Src.f_B 13, o8 xv776.f_Key.f_Src.f_B 14, o8 xv776.f_Key.f_Src.f_B 15, vB xv776.f_Key.f_Dst.f_Six, o8 xv776.f_Key.f_Dst.f_B 0, o8 xv776.f_Key.f_Dst.f_B 1, o8 xv776.f_Key.f_Dst.f_B 2, o8 xv776.f_Key.f_Dst.f_B 3, o8 xv776.f_Key.f_Dst.f_B 4, o8 xv776.f_Key.f_Dst.f_B 5, o8 xv776.f_Key.f_Dst.f_B 6, o8 xv776.f_Key.f_Dst.f_B 7, o8 xv776.f_Key.f_Dst.f_B 8, o8 xv776.f_Key.f_Dst.f_B 9, o8 xv776.f_Key.f_Dst.f_B 10, o8 xv776.f_Key.f_Dst.f_B 11, o8 xv776.f_Key.f_Dst.f_B 12, o8 xv776.f_Key.f_Dst.f_B 13, o8 xv776.f_Key.f_Dst.f_B 14, o8 xv776.f_Key.f_Dst.f_B 15, v8 xv776.f_Key.f_Proto, v16 xv776.f_Key.f_SrcPort, v16 xv776.f_Key.f_DstPort, v64 xv776.f_Packets, v64 xv776.f_Bytes, v64 xv776.f_First, v64 xv776.f_Last, v8 xv776.f_Flags, v8 xv776.f_Reason, v8 xv776.f_Class]) ag50 rfl (Cs.addsN [] ((hM.bx (i := 3) rfl).fut hf) rfl)) ?_
      refine obindE hF fun y801 hx802 hF => ?_
      refine RD.mcall rfl rfl trivial Try.func13 bd13 rfl rfl (c_flow_Record_Total _ xv776 _ hx802) fun v w803 hv => ?_
      obtain ⟨rfl, hN804⟩ := hv
      refine ⟨fun _ => hN804.fut, ?_⟩
      replace hM := hM.call0 hN804
      refine obindE hF fun y805 hx806 hF => ?_
      refine RD.mcall rfl rfl trivial Try.func12 bd12 rfl rfl (c_flow_Total_Plus _ (T_flow_Total.mk p762 p763) y801 _ hx806) fun v w807 hv => ?_
      obtain ⟨rfl, hN808⟩ := hv
      refine ⟨fun _ => hN808.fut, ?_⟩
      replace hM := hM.call0 hN808
      refine RD.p rfl rfl rfl rfl (fun w' => O.nilp rfl) ?_
      refine RD.meffs rfl rfl rfl (E.stB (j := 1) (off := 8) (vs := [v64 y805.f_Packets, v64 y805.f_Bytes]) (cs' := [v64 (((m4.f_forwarded kv17).getD (T_flow_Total.mk 0 0)).f_Packets), v64 (((m4.f_forwarded kv17).getD (T_flow_Total.mk 0 0)).f_Bytes), v64 (((m4.f_cached kv17).getD (T_flow_Total.mk 0 0)).f_Packets), v64 (((m4.f_cached kv17).getD (T_flow_Total.mk 0 0)).f_Bytes), v64 p758, v64 p759, v64 p760, v64 p761, v64 y805.f_Packets, v64 y805.f_Bytes, v64 p764, v64 p765]) hM rfl sz37 rfl (adds_eq [8] rfl) rfl rfl (One.all rfl) rfl rfl) fun w809 hM1 => ?_
      clear hM
      have hM := hM1
      clear hM1
      refine RD.nil ?_
      refine KQ.blk_n ?_
      refine KQ.then_k ?_
      replace hM := hM.pick [0, 1, 2] rfl (by decide)
      exact fun a ha => ⟨p758, p759, p760, p761, y805.f_Packets, y805.f_Bytes, p764, p765, ha.less (less_cons rfl (less_cons rfl (less_cons rfl (less_cons rfl (less_cons rfl (less_cons rfl (less_cons rfl (less_cons rfl (less_cons rfl (less_cons rfl less_nil)))))))))), hM, hF⟩
     rw [if_neg (ne_true hc)] at hF
     refine sr fun Q810 hQ810 => ?_
     refine RL.val (O.fldA fl47_4 (by decide) rfl) rfl ?_
     refine RL.val (O.load sc4 rfl (Cs.adds [4] ((hM.bx (i := 4) rfl)) rfl)) rfl ?_
     refine va rfl rfl ?_
     refine nt hQ810 ?_
     clear hQ810 Q810
     replace hM := hM.pick [0, 1, 2, 3] rfl (by decide)
     refine KC.cond rfl (fun hc => ?_) (fun hc => ?_)
     ·rw [if_pos hc] at hF
      refine sr fun Q811 hQ811 => ?_
      refine RL.val (O.fldA fl54_3 (by decide) rfl) rfl ?_
      refine va rfl rfl ?_
      refine nt hQ811 ?_
      clear hQ811 Q811
      refine KC.ret ?_
      refine KQ.blk_r ?_
      refine KQ.thr hQ787 ?_
      clear hQ787 Q787
      refine KQ.rets Try.results32 (RVs.cons (RV.tm rfl) RVs.nil) ?_
      refine ⟨.pointer (some (Addr.add ⟨g22, 0, none⟩ 6)), rfl, ?_⟩
      refine va rfl rfl ?_
      refine nt hQ782 ?_
      clear hQ782 Q782
      replace hM := hM.drewN 1
      refine KC.draw [] [8] [5, 6, 8] [0, 1, 2, 7] (.ofList [0, 1, 2, 3, 4, 5, 6, 7, 8]) moP (by kernel_rfl) ?_
      refine RD.p rfl rfl rfl rfl (fun w' => O.move rfl) ?_
      refine RD.p rfl rfl rfl rfl (fun w' => O.move rfl) ?_
      refine RD.p rfl rfl rfl rfl (fun w' => O.nilp rfl) ?_
      refine RD.q rfl rfl rfl rfl (fun w' hf => O.loadN (cs := [v64 p760, v64 p761]) ag37 rfl (Cs.addsN [6] ((hM.bx (i := 1) rfl).fut hf) rfl)) ?_
      refine RD.q rfl rfl rfl rfl (fun w' hf => O.loadN (cs := [vB xv776.f_Key.f_Src.f_Six, o8 xv776.f_Key.f_Src.f_B 0, o8 xv776.f_Key.f_Src.f_B 1, o8 xv776.f_Key.f_Src.f_B 2, o8 xv776.f_Key.f_Src.f_B 3, o8 xv776.f_Key.f_Src.f_B 4, o8 xv776.f_Key.f_Src.f_B 5, o8 xv776.f_Key.f_Src.f_B 6, o8 xv776.f_Key.f_Src.f_B 7, o8 xv776.f_Key.f_Src.f_B 8, o8 xv776.f_Key.f_Src.f_B 9, o8 xv776.f_Key.f_Src.f_B 10, o8 xv776.f_Key.f_Src.f_B 11, o8 xv776.f_Key.f_Src.f_B 12, o8 xv776.f_Key.f_Src.f_B 13, o8 xv776.f_Key.f_Src.f_B 14, o8 xv776.f_Key.f_Src.f_B 15, vB xv776.f_Key.f_Dst.f_Six, o8 xv776.f_Key.f_Dst.f_B 0, o8 xv776.f_Key.f_Dst.f_B 1, o8 xv776.f_Key.f_Dst.f_B 2, o8 xv776.f_Key.f_Dst.f_B 3, o8 xv776.f_Key.f_Dst.f_B 4, o8 xv776.f_Key.f_Dst.f_B 5, o8 xv776.f_Key.f_Dst.f_B 6, o8 xv776.f_Key.f_Dst.f_B 7, o8 xv776.f_Key.f_Dst.f_B 8, o8 xv776.f_Key.f_Dst.f_B 9, o8 xv776.f_Key.f_Dst.f_B 10, o8 xv776.f_Key.f_Dst.f_B 11, o8 xv776.f_Key.f_Dst.f_B 12, o8 xv776.f_Key.f_Dst.f_B 13, o8 xv776.f_Key.f_Dst.f_B 14, o8 xv776.f_Key.f_Dst.f_B 15, v8 xv776.f_Key.f_Proto, v16 xv776.f_Key.f_SrcPort, v16 xv776.f_Key.f_DstPort, v64 xv776.f_Packets, v64 xv776.f_Bytes, v64 xv776.f_First, v64 xv776.f_Last, v8 xv776.f_Flags, v8 xv776.f_Reason, v8 xv776.f_Class]) ag50 rfl (Cs.addsN [] ((hM.bx (i := 3) rfl).fut hf) rfl)) ?_
      refine obindE hF fun y812 hx813 hF => ?_
      refine RD.mcall rfl rfl trivial Try.func13 bd13 rfl rfl (c_flow_Record_Total _ xv776 _ hx813) fun v w814 hv => ?_
      obtain ⟨rfl, hN815⟩ := hv
      refine ⟨fun _ => hN815.fut, ?_⟩
      replace hM := hM.call0 hN815
      refine obindE hF fun y816 hx817 hF => ?_
      refine RD.mcall rfl rfl trivial Try.func12 bd12 rfl rfl (c_flow_Total_Plus _ (T_flow_Total.mk p760 p761) y812 _ hx817) fun v w818 hv => ?_
      obtain ⟨rfl, hN819⟩ := hv
      refine ⟨fun _ => hN819.fut, ?_⟩
      replace hM := hM.call0 hN819
      refine RD.p rfl rfl rfl rfl (fun w' => O.nilp rfl) ?_
      refine RD.meffs rfl rfl rfl (E.stB (j := 1) (off := 6) (vs := [v64 y816.f_Packets, v64 y816.f_Bytes]) (cs' := [v64 (((m4.f_forwarded kv17).getD (T_flow_Total.mk 0 0)).f_Packets), v64 (((m4.f_forwarded kv17).getD (T_flow_Total.mk 0 0)).f_Bytes), v64 (((m4.f_cached kv17).getD (T_flow_Total.mk 0 0)).f_Packets), v64 (((m4.f_cached kv17).getD (T_flow_Total.mk 0 0)).f_Bytes), v64 p758, v64 p759, v64 y816.f_Packets, v64 y816.f_Bytes, v64 p762, v64 p763, v64 p764, v64 p765]) hM rfl sz37 rfl (adds_eq [6] rfl) rfl rfl (One.all rfl) rfl rfl) fun w820 hM1 => ?_
      clear hM
      have hM := hM1
      clear hM1
      refine RD.nil ?_
      refine KQ.blk_n ?_
      refine KQ.then_k ?_
      replace hM := hM.pick [0, 1, 2] rfl (by decide)
      exact fun a ha => ⟨p758, p759, y816.f_Packets, y816.f_Bytes, p762, p763, p764, p765, ha.less (less_cons rfl (less_cons rfl (less_cons rfl (less_cons rfl (less_cons rfl (less_cons rfl (less_cons rfl (less_cons rfl (less_cons rfl (less_cons rfl less_nil)))))))))), hM, hF⟩
     rw [if_neg (ne_true hc)] at hF
     refine KC.skip ?_
     refine KQ.blk_n ?_
     refine KQ.thn hQ787 ?_
     clear hQ787 Q787
     refine sr fun Q821 hQ821 => ?_
     refine RL.val (O.fldA fl54_2 (by decide) rfl) rfl ?_
     refine va rfl rfl ?_
     refine nt hQ821 ?_
     clear hQ821 Q821
     refine KC.ret ?_
     refine KQ.rets Try.results32 (RVs.cons (RV.tm rfl) RVs.nil) ?_
     refine ⟨.pointer (some (Addr.add ⟨g22, 0, none⟩ 4)), rfl, ?_⟩
     refine va rfl rfl ?_
     refine nt hQ782 ?_
     clear hQ782 Q782
     replace hM := hM.drewN 1
     refine KC.draw [] [8] [5, 6, 8] [0, 1, 2, 7] (.ofList [0, 1, 2, 3, 4, 5, 6, 7, 8]) moP (by kernel_rfl) ?_
     refine RD.p rfl rfl rfl rfl (fun w' => O.move rfl) ?_
     refine RD.p rfl rfl rfl rfl (fun w' => O.move rfl) ?_
     refine RD.p rfl rfl rfl rfl (fun w' => O.nilp rfl) ?_
     refine RD.q rfl rfl rfl rfl (fun w' hf => O.loadN (cs := [v64 p758, v64 p759]) ag37 rfl (Cs.addsN [4] ((hM.bx (i := 1) rfl).fut hf) rfl)) ?_
     refine RD.q rfl rfl rfl rfl (fun w' hf => O.loadN (cs := [vB xv776.f_Key.f_Src.f_Six, o8 xv776.f_Key.f_Src.f_B 0, o8 xv776.f_Key.f_Src.f_B 1, o8 xv776.f_Key.f_Src.f_B 2, o8 xv776.f_Key.f_Src.f_B 3, o8 xv776.f_Key.f_Src.f_B 4, o8 xv776.f_Key.f_Src.f_B 5, o8 xv776.f_Key.f_Src.f_B 6, o8 xv776.f_Key.f_Src.f_B 7, o8 xv776.f_Key.f_Src.f_B 8, o8 xv776.f_Key.f_Src.f_B 9, o8 xv776.f_Key.f_Src.f_B 10, o8 xv776.f_Key.f_Src.f_B 11, o8 xv776.f_Key.f_Src.f_B 12, o8 xv776.f_Key.f_Src.f_B 13, o8 xv776.f_Key.f_Src.f_B 14, o8 xv776.f_Key.f_Src.f_B 15, vB xv776.f_Key.f_Dst.f_Six, o8 xv776.f_Key.f_Dst.f_B 0, o8 xv776.f_Key.f_Dst.f_B 1, o8 xv776.f_Key.f_Dst.f_B 2, o8 xv776.f_Key.f_Dst.f_B 3, o8 xv776.f_Key.f_Dst.f_B 4, o8 xv776.f_Key.f_Dst.f_B 5, o8 xv776.f_Key.f_Dst.f_B 6, o8 xv776.f_Key.f_Dst.f_B 7, o8 xv776.f_Key.f_Dst.f_B 8, o8 xv776.f_Key.f_Dst.f_B 9, o8 xv776.f_Key.f_Dst.f_B 10, o8 xv776.f_Key.f_Dst.f_B 11, o8 xv776.f_Key.f_Dst.f_B 12, o8 xv776.f_Key.f_Dst.f_B 13, o8 xv776.f_Key.f_Dst.f_B 14, o8 xv776.f_Key.f_Dst.f_B 15, v8 xv776.f_Key.f_Proto, v16 xv776.f_Key.f_SrcPort, v16 xv776.f_Key.f_DstPort, v64 xv776.f_Packets, v64 xv776.f_Bytes, v64 xv776.f_First, v64 xv776.f_Last, v8 xv776.f_Flags, v8 xv776.f_Reason, v8 xv776.f_Class]) ag50 rfl (Cs.addsN [] ((hM.bx (i := 3) rfl).fut hf) rfl)) ?_
     refine obindE hF fun y822 hx823 hF => ?_
     refine RD.mcall rfl rfl trivial Try.func13 bd13 rfl rfl (c_flow_Record_Total _ xv776 _ hx823) fun v w824 hv => ?_
     obtain ⟨rfl, hN825⟩ := hv
     refine ⟨fun _ => hN825.fut, ?_⟩
     replace hM := hM.call0 hN825
     refine obindE hF fun y826 hx827 hF => ?_
     refine RD.mcall rfl rfl trivial Try.func12 bd12 rfl rfl (c_flow_Total_Plus _ (T_flow_Total.mk p758 p759) y822 _ hx827) fun v w828 hv => ?_
     obtain ⟨rfl, hN829⟩ := hv
     refine ⟨fun _ => hN829.fut, ?_⟩
     replace hM := hM.call0 hN829
     refine RD.p rfl rfl rfl rfl (fun w' => O.nilp rfl) ?_
     refine RD.meffs rfl rfl rfl (E.stB (j := 1) (off := 4) (vs := [v64 y826.f_Packets, v64 y826.f_Bytes]) (cs' := [v64 (((m4.f_forwarded kv17).getD (T_flow_Total.mk 0 0)).f_Packets), v64 (((m4.f_forwarded kv17).getD (T_flow_Total.mk 0 0)).f_Bytes), v64 (((m4.f_cached kv17).getD (T_flow_Total.mk 0 0)).f_Packets), v64 (((m4.f_cached kv17).getD (T_flow_Total.mk 0 0)).f_Bytes), v64 y826.f_Packets, v64 y826.f_Bytes, v64 p760, v64 p761, v64 p762, v64 p763, v64 p764, v64 p765]) hM rfl sz37 rfl (adds_eq [4] rfl) rfl rfl (One.all rfl) rfl rfl) fun w830 hM1 => ?_
     clear hM
     have hM := hM1
     clear hM1
     refine RD.nil ?_
     refine KQ.blk_n ?_
     refine KQ.then_k ?_
     replace hM := hM.pick [0, 1, 2] rfl (by decide)
     exact fun a ha => ⟨y826.f_Packets, y826.f_Bytes, p760, p761, p762, p763, p764, p765, ha.less (less_cons rfl (less_cons rfl (less_cons rfl (less_cons rfl (less_cons rfl (less_cons rfl (less_cons rfl (less_cons rfl (less_cons rfl (less_cons rfl less_nil)))))))))), hM, hF⟩
    rw [if_neg (ne_true hc)] at hF
    refine KC.skip ?_
    refine KQ.blk_n ?_
    refine KQ.then_k ?_
    replace hM := hM.pick [0, 1, 2] rfl (by decide)
    exact fun a ha => ⟨p758, p759, p760, p761, p762, p763, p764, p765, ha.less (less_cons rfl (less_cons rfl (less_cons rfl (less_cons rfl (less_cons rfl (less_cons rfl (less_cons rfl (less_cons rfl (less_cons rfl (less_cons rfl less_nil)))))))))), hM, hF⟩
   rintro a w842 ⟨p833, p834, p835, p836, p837, p838, p839, p840, ha, hM, hF⟩
   refine KC.app ha ?_
   clear ha
   unfold F_model_Model_Of_j1 at hF
   refine KC.region ?_
   refine RL.val (O.add rfl rfl) rfl ?_
   refine vm rfl rfl ?_
   refine RL.nil ?_
   refine KQ.then_k ?_
   exact fun a ha => ⟨k770, Nat.lt_succ_self k770, p833, p834, p835, p836, p837, p838, p839, p840, (IntKind.i64.wrap (t767 + 1)), ha.less (less_cons rfl (less_cons rfl (less_cons rfl (less_cons rfl (less_cons rfl (less_cons rfl (less_cons rfl (less_cons rfl (less_cons rfl (less_cons rfl less_nil)))))))))), hM, hF⟩
  rw [if_neg (ne_true hc)] at hF
  refine KC.exit ?_
  refine KQ.thx hQ772 ?_
  clear hQ772 Q772
  refine KQ.then_x ?_
  refine KQ.blk_x ?_
  refine KQ.blk_n ?_
  refine KQ.thn hQ583 ?_
  clear hQ583 Q583
  refine KC.region ?_
  refine RL.val (O.add rfl rfl) rfl ?_
  refine vm rfl rfl ?_
  refine RL.nil ?_
  refine KQ.then_k ?_
  replace hM := hM.pick [0, 1] rfl (by decide)
  exact fun a ha => ⟨k580, Nat.lt_succ_self k580, p758, p759, p760, p761, p762, p763, p764, p765, (IntKind.i64.wrap (t577 + 1)), ha.less (less_cons rfl (less_cons rfl (less_cons rfl (less_cons rfl (less_cons rfl (less_cons rfl less_nil)))))), hM, hF⟩
 rw [if_neg (ne_true hc)] at hF
 refine KC.exit ?_
 refine KQ.thx hQ582 ?_
 clear hQ582 Q582
 refine KQ.then_x ?_
 refine KQ.blk_x ?_
 refine KQ.thn hQ30 ?_
 clear hQ30 Q30
 refine sr fun Q843 hQ843 => ?_
 refine RL.val (O.loadN (cs := [v64 (((m4.f_forwarded kv17).getD (T_flow_Total.mk 0 0)).f_Packets), v64 (((m4.f_forwarded kv17).getD (T_flow_Total.mk 0 0)).f_Bytes), v64 (((m4.f_cached kv17).getD (T_flow_Total.mk 0 0)).f_Packets), v64 (((m4.f_cached kv17).getD (T_flow_Total.mk 0 0)).f_Bytes), v64 p569, v64 p570, v64 p571, v64 p572, v64 p573, v64 p574, v64 p575, v64 p576]) ag54 rfl (Cs.addsN [] ((hM.bx (i := 1) rfl)) rfl)) rfl ?_
 refine RL.effs (E.stB (j := 1) (off := 0) (vs := [v64 (((m4.f_forwarded kv17).getD (T_flow_Total.mk 0 0)).f_Packets), v64 (((m4.f_forwarded kv17).getD (T_flow_Total.mk 0 0)).f_Bytes), v64 (((m4.f_cached kv17).getD (T_flow_Total.mk 0 0)).f_Packets), v64 (((m4.f_cached kv17).getD (T_flow_Total.mk 0 0)).f_Bytes), v64 p569, v64 p570, v64 p571, v64 p572, v64 p573, v64 p574, v64 p575, v64 p576]) (cs' := [v64 (((m4.f_forwarded kv17).getD (T_flow_Total.mk 0 0)).f_Packets), v64 (((m4.f_forwarded kv17).getD (T_flow_Total.mk 0 0)).f_Bytes), v64 (((m4.f_cached kv17).getD (T_flow_Total.mk 0 0)).f_Packets), v64 (((m4.f_cached kv17).getD (T_flow_Total.mk 0 0)).f_Bytes), v64 p569, v64 p570, v64 p571, v64 p572, v64 p573, v64 p574, v64 p575, v64 p576]) hM rfl sz54 rfl (adds_eq [] rfl) rfl rfl (One.all rfl) rfl rfl) fun w844 hM1 => ?_
 clear hM
 have hM := hM1
 clear hM1
 refine nt hQ843 ?_
 clear hQ843 Q843
 refine KC.ret ?_
 have hE := Option.some.inj hF
 clear hF
 subst hE
 have hb845 := hM.bx (i := 1) rfl
 replace hM := hM.pick [] rfl (by decide)
 refine KQ.rets Try.results14 (RVs.cons (RV.cN (cs := [v64 (((m4.f_forwarded kv17).getD (T_flow_Total.mk 0 0)).f_Packets), v64 (((m4.f_forwarded kv17).getD (T_flow_Total.mk 0 0)).f_Bytes), v64 (((m4.f_cached kv17).getD (T_flow_Total.mk 0 0)).f_Packets), v64 (((m4.f_cached kv17).getD (T_flow_Total.mk 0 0)).f_Bytes), v64 p569, v64 p570, v64 p571, v64 p572, v64 p573, v64 p574, v64 p575, v64 p576]) rfl ag54 hb845) RVs.nil) ?_
 exact ⟨_, rfl, rfl, hM⟩
end Go.Proofs.Ytidbgejnkpoeeaa
