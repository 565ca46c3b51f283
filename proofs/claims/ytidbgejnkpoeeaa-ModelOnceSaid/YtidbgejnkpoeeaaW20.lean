/- Printed by a program of this claim: each call returns what the plain function of its name gives. -/
import Derived.Test.YtidbgejnkpoeeaaW1
import Derived.Test.YtidbgejnkpoeeaaW18
import Derived.Test.YtidbgejnkpoeeaaW19
import Derived.Test.YtidbgejnkpoeeaaSrt
set_option linter.unusedVariables false
namespace Go.Proofs.Ytidbgejnkpoeeaa
open Go Go.Ox Go.RowKit
set_option maxRecDepth 100000 in
set_option maxHeartbeats 40000000 in
theorem c_packet_Cmp (w : World) (av1 : T_packet_Key) (b2 : T_packet_Key) (r : Int) (hF : F_packet_Cmp av1 b2 = some r) :
  CallsR Try.prog 30 [.agg #[vB av1.f_Src.f_Six, o8 av1.f_Src.f_B 0, o8 av1.f_Src.f_B 1, o8 av1.f_Src.f_B 2, o8 av1.f_Src.f_B 3, o8 av1.f_Src.f_B 4, o8 av1.f_Src.f_B 5, o8 av1.f_Src.f_B 6, o8 av1.f_Src.f_B 7, o8 av1.f_Src.f_B 8, o8 av1.f_Src.f_B 9, o8 av1.f_Src.f_B 10, o8 av1.f_Src.f_B 11, o8 av1.f_Src.f_B 12, o8 av1.f_Src.f_B 13, o8 av1.f_Src.f_B 14, o8 av1.f_Src.f_B 15, vB av1.f_Dst.f_Six, o8 av1.f_Dst.f_B 0, o8 av1.f_Dst.f_B 1, o8 av1.f_Dst.f_B 2, o8 av1.f_Dst.f_B 3, o8 av1.f_Dst.f_B 4, o8 av1.f_Dst.f_B 5, o8 av1.f_Dst.f_B 6, o8 av1.f_Dst.f_B 7, o8 av1.f_Dst.f_B 8, o8 av1.f_Dst.f_B 9, o8 av1.f_Dst.f_B 10, o8 av1.f_Dst.f_B 11, o8 av1.f_Dst.f_B 12, o8 av1.f_Dst.f_B 13, o8 av1.f_Dst.f_B 14, o8 av1.f_Dst.f_B 15, v8 av1.f_Proto, v16 av1.f_SrcPort, v16 av1.f_DstPort], .agg #[vB b2.f_Src.f_Six, o8 b2.f_Src.f_B 0, o8 b2.f_Src.f_B 1, o8 b2.f_Src.f_B 2, o8 b2.f_Src.f_B 3, o8 b2.f_Src.f_B 4, o8 b2.f_Src.f_B 5, o8 b2.f_Src.f_B 6, o8 b2.f_Src.f_B 7, o8 b2.f_Src.f_B 8, o8 b2.f_Src.f_B 9, o8 b2.f_Src.f_B 10, o8 b2.f_Src.f_B 11, o8 b2.f_Src.f_B 12, o8 b2.f_Src.f_B 13, o8 b2.f_Src.f_B 14, o8 b2.f_Src.f_B 15, vB b2.f_Dst.f_Six, o8 b2.f_Dst.f_B 0, o8 b2.f_Dst.f_B 1, o8 b2.f_Dst.f_B 2, o8 b2.f_Dst.f_B 3, o8 b2.f_Dst.f_B 4, o8 b2.f_Dst.f_B 5, o8 b2.f_Dst.f_B 6, o8 b2.f_Dst.f_B 7, o8 b2.f_Dst.f_B 8, o8 b2.f_Dst.f_B 9, o8 b2.f_Dst.f_B 10, o8 b2.f_Dst.f_B 11, o8 b2.f_Dst.f_B 12, o8 b2.f_Dst.f_B 13, o8 b2.f_Dst.f_B 14, o8 b2.f_Dst.f_B 15, v8 b2.f_Proto, v16 b2.f_SrcPort, v16 b2.f_DstPort]] w (fun v w' => v = vI r ∧ Mem w [] w' []) := by
 refine calls_KC Try.func30 rfl Try.ntmps30 rfl ?_
 have hM := Mem.init w
 unfold F_packet_Cmp at hF
 refine sr fun Q3 hQ3 => ?_
 refine RL.eff (E.box (vs := [vB av1.f_Src.f_Six, o8 av1.f_Src.f_B 0, o8 av1.f_Src.f_B 1, o8 av1.f_Src.f_B 2, o8 av1.f_Src.f_B 3, o8 av1.f_Src.f_B 4, o8 av1.f_Src.f_B 5, o8 av1.f_Src.f_B 6, o8 av1.f_Src.f_B 7, o8 av1.f_Src.f_B 8, o8 av1.f_Src.f_B 9, o8 av1.f_Src.f_B 10, o8 av1.f_Src.f_B 11, o8 av1.f_Src.f_B 12, o8 av1.f_Src.f_B 13, o8 av1.f_Src.f_B 14, o8 av1.f_Src.f_B 15, vB av1.f_Dst.f_Six, o8 av1.f_Dst.f_B 0, o8 av1.f_Dst.f_B 1, o8 av1.f_Dst.f_B 2, o8 av1.f_Dst.f_B 3, o8 av1.f_Dst.f_B 4, o8 av1.f_Dst.f_B 5, o8 av1.f_Dst.f_B 6, o8 av1.f_Dst.f_B 7, o8 av1.f_Dst.f_B 8, o8 av1.f_Dst.f_B 9, o8 av1.f_Dst.f_B 10, o8 av1.f_Dst.f_B 11, o8 av1.f_Dst.f_B 12, o8 av1.f_Dst.f_B 13, o8 av1.f_Dst.f_B 14, o8 av1.f_Dst.f_B 15, v8 av1.f_Proto, v16 av1.f_SrcPort, v16 av1.f_DstPort]) hM rfl rfl) rfl fun v w5 hv => ?_
 clear hM
 obtain ⟨g4, rfl, hM, hf⟩ := hv
 refine RL.eff (E.box (vs := [vB b2.f_Src.f_Six, o8 b2.f_Src.f_B 0, o8 b2.f_Src.f_B 1, o8 b2.f_Src.f_B 2, o8 b2.f_Src.f_B 3, o8 b2.f_Src.f_B 4, o8 b2.f_Src.f_B 5, o8 b2.f_Src.f_B 6, o8 b2.f_Src.f_B 7, o8 b2.f_Src.f_B 8, o8 b2.f_Src.f_B 9, o8 b2.f_Src.f_B 10, o8 b2.f_Src.f_B 11, o8 b2.f_Src.f_B 12, o8 b2.f_Src.f_B 13, o8 b2.f_Src.f_B 14, o8 b2.f_Src.f_B 15, vB b2.f_Dst.f_Six, o8 b2.f_Dst.f_B 0, o8 b2.f_Dst.f_B 1, o8 b2.f_Dst.f_B 2, o8 b2.f_Dst.f_B 3, o8 b2.f_Dst.f_B 4, o8 b2.f_Dst.f_B 5, o8 b2.f_Dst.f_B 6, o8 b2.f_Dst.f_B 7, o8 b2.f_Dst.f_B 8, o8 b2.f_Dst.f_B 9, o8 b2.f_Dst.f_B 10, o8 b2.f_Dst.f_B 11, o8 b2.f_Dst.f_B 12, o8 b2.f_Dst.f_B 13, o8 b2.f_Dst.f_B 14, o8 b2.f_Dst.f_B 15, v8 b2.f_Proto, v16 b2.f_SrcPort, v16 b2.f_DstPort]) hM rfl rfl) rfl fun v w8 hv => ?_
 clear hM
 obtain ⟨g7, rfl, hM, hf⟩ := hv
 refine va rfl rfl ?_
 refine nt hQ3 ?_
 clear hQ3 Q3
 refine KC.seqH fun Q10 hQ10 => ?_
 replace hM := hM.drewN 1
 refine KC.draw [] [] [1, 3, 4] [5] (.ofList [0, 2, 1, 3, 4, 5]) moP (by kernel_rfl) ?_
 refine RD.q rfl rfl rfl rfl (fun w' hf => O.loadN (cs := [vB av1.f_Src.f_Six, o8 av1.f_Src.f_B 0, o8 av1.f_Src.f_B 1, o8 av1.f_Src.f_B 2, o8 av1.f_Src.f_B 3, o8 av1.f_Src.f_B 4, o8 av1.f_Src.f_B 5, o8 av1.f_Src.f_B 6, o8 av1.f_Src.f_B 7, o8 av1.f_Src.f_B 8, o8 av1.f_Src.f_B 9, o8 av1.f_Src.f_B 10, o8 av1.f_Src.f_B 11, o8 av1.f_Src.f_B 12, o8 av1.f_Src.f_B 13, o8 av1.f_Src.f_B 14, o8 av1.f_Src.f_B 15, vB av1.f_Dst.f_Six, o8 av1.f_Dst.f_B 0, o8 av1.f_Dst.f_B 1, o8 av1.f_Dst.f_B 2, o8 av1.f_Dst.f_B 3, o8 av1.f_Dst.f_B 4, o8 av1.f_Dst.f_B 5, o8 av1.f_Dst.f_B 6, o8 av1.f_Dst.f_B 7, o8 av1.f_Dst.f_B 8, o8 av1.f_Dst.f_B 9, o8 av1.f_Dst.f_B 10, o8 av1.f_Dst.f_B 11, o8 av1.f_Dst.f_B 12, o8 av1.f_Dst.f_B 13, o8 av1.f_Dst.f_B 14, o8 av1.f_Dst.f_B 15, v8 av1.f_Proto, v16 av1.f_SrcPort, v16 av1.f_DstPort]) ag34 rfl (Cs.addsN [] ((hM.bx (i := 0) rfl).fut hf) rfl)) ?_
 refine RD.q rfl rfl rfl rfl (fun w' hf => O.loadN (cs := [vB b2.f_Src.f_Six, o8 b2.f_Src.f_B 0, o8 b2.f_Src.f_B 1, o8 b2.f_Src.f_B 2, o8 b2.f_Src.f_B 3, o8 b2.f_Src.f_B 4, o8 b2.f_Src.f_B 5, o8 b2.f_Src.f_B 6, o8 b2.f_Src.f_B 7, o8 b2.f_Src.f_B 8, o8 b2.f_Src.f_B 9, o8 b2.f_Src.f_B 10, o8 b2.f_Src.f_B 11, o8 b2.f_Src.f_B 12, o8 b2.f_Src.f_B 13, o8 b2.f_Src.f_B 14, o8 b2.f_Src.f_B 15, vB b2.f_Dst.f_Six, o8 b2.f_Dst.f_B 0, o8 b2.f_Dst.f_B 1, o8 b2.f_Dst.f_B 2, o8 b2.f_Dst.f_B 3, o8 b2.f_Dst.f_B 4, o8 b2.f_Dst.f_B 5, o8 b2.f_Dst.f_B 6, o8 b2.f_Dst.f_B 7, o8 b2.f_Dst.f_B 8, o8 b2.f_Dst.f_B 9, o8 b2.f_Dst.f_B 10, o8 b2.f_Dst.f_B 11, o8 b2.f_Dst.f_B 12, o8 b2.f_Dst.f_B 13, o8 b2.f_Dst.f_B 14, o8 b2.f_Dst.f_B 15, v8 b2.f_Proto, v16 b2.f_SrcPort, v16 b2.f_DstPort]) ag34 rfl (Cs.addsN [] ((hM.bx (i := 1) rfl).fut hf) rfl)) ?_
 refine obindE hF fun y11 hx12 hF => ?_
 refine RD.mcall rfl rfl trivial Try.func51 bd51 rfl rfl (c_packet_Key_Bytes _ av1 _ hx12) fun v w13 hv => ?_
 obtain ⟨A15, c16, rfl, hN14⟩ := hv
 refine ⟨fun _ => hN14.fut, ?_⟩
 replace hM := hM.call hN14
 refine obindE hF fun y18 hx19 hF => ?_
 refine RD.mcall rfl rfl trivial Try.func51 bd51 rfl rfl (c_packet_Key_Bytes _ b2 _ hx19) fun v w20 hv => ?_
 obtain ⟨A22, c23, rfl, hN21⟩ := hv
 refine ⟨fun _ => hN21.fut, ?_⟩
 replace hM := hM.call hN21
 refine obindE hF fun y25 hx26 hF => ?_
 refine RD.mcall rfl rfl trivial Try.func50 bd50 rfl rfl (c_bytes_Compare _ _ _ y11 (hM.rd (i := 2) rfl) _ _ y18 (hM.rd (i := 3) rfl) _ hx26) fun v w27 hv => ?_
 obtain ⟨rfl, hN28⟩ := hv
 refine ⟨fun _ => hN28.fut, ?_⟩
 replace hM := hM.call0 hN28
 refine RD.p rfl rfl rfl rfl (fun w' => O.assign rfl) ?_
 refine RD.nil ?_
 refine KQ.thn hQ10 ?_
 clear hQ10 Q10
 refine KC.ret ?_
 have hE := Option.some.inj hF
 clear hF
 subst hE
 replace hM := hM.pick [] rfl (by decide)
 refine KQ.rets Try.results30 (RVs.cons (RV.tm rfl) RVs.nil) ?_
 exact ⟨_, rfl, rfl, hM⟩
set_option maxRecDepth 100000 in
set_option maxHeartbeats 40000000 in
theorem c_slices_SortFunc_packet_Key_packet_Key_packet_Cmp (w : World) (A : Option Addr) (c : Nat) (xs : List T_packet_Key) (hL : Lent w [.row A c 34 37 xs.length (xs.flatMap e_packet_Key)]) (r : List T_packet_Key) (hF : F_slices_SortFunc_packet_Key_packet_Key_packet_Cmp xs = some r) :
  CallsR Try.prog 48 [.slice A xs.length c, .func (.func 30) #[] #[]] w (fun v w' => v = .tuple #[] ∧ (xs.length = r.length) ∧ Mem w [rblk A c] w' [.row A c 34 37 r.length (r.flatMap e_packet_Key)]) := by
 unfold F_slices_SortFunc_packet_Key_packet_Key_packet_Cmp at hF
 refine cut_someE hF fun hn hF => ?_
 have hE := Option.some.inj hF
 subst hE
 exact c_srt (e := 34) lsort48 ag34 (fun _ => rfl) (fun _ => One.all rfl) rfl swo_packet_Cmp Try.func30 bd30 (cb := []) hL (of_decide_eq_true hn) (fun w1 _ _ x y => c_packet_Cmp w1 x y _ (tot_packet_Cmp x y))
set_option maxRecDepth 100000 in
set_option maxHeartbeats 40000000 in
theorem c_slices_SortedFunc_packet_Key_fmaps_Keys_model_totals_packet_Key_flow_Total_1fpacket_Cmp_K (w : World) (seq4 : FM62) (g5 : Nat) (hm6 : MR62 g5 seq4 w) (g1 : Nat) (hC2 : Cs w ⟨g1, 0, none⟩ [.map (some g5)]) (kf : ((List T_packet_Key)) → Option Bool) (r : Bool) (hF : F_slices_SortedFunc_packet_Key_fmaps_Keys_model_totals_packet_Key_flow_Total_1fpacket_Cmp_K seq4 kf = some r) :
  CallsR Try.prog 28 [.func (.func 49) #[] #[.pointer (some ⟨g1, 0, none⟩)], .func (.func 30) #[] #[]] w (fun v w' => ∃ (y : (List T_packet_Key)) (Ar0 : Option Addr) (cr0 : Nat), kf y = some r ∧ v = .slice Ar0 (y).length cr0 ∧ Mem w [] w' [.row Ar0 cr0 34 37 y.length (y.flatMap e_packet_Key)]) := by
 refine calls_KC Try.func28 rfl Try.ntmps28 rfl ?_
 have hM := Mem.init w
 unfold F_slices_SortedFunc_packet_Key_fmaps_Keys_model_totals_packet_Key_flow_Total_1fpacket_Cmp_K at hF
 refine sr fun Q7 hQ7 => ?_
 refine va rfl rfl ?_
 refine nt hQ7 ?_
 clear hQ7 Q7
 refine sr fun Q8 hQ8 => ?_
 refine vm rfl rfl ?_
 refine RL.call Try.func47 bd47 rfl rfl (c_slices_Collect_packet_Key_fmaps_Keys_model_totals_packet_Key_flow_Total_1_K _ seq4 _ (hm6.fut hM.chg) _ (hC2.fut hM.chg) _ _ hF) fun v w11 hv => ?_
 clear hF
 obtain ⟨y9, A13, c14, hF, rfl, hN12⟩ := hv
 try dsimp only at hF
 replace hM := hM.call hN12
 refine va rfl rfl ?_
 refine nt hQ8 ?_
 clear hQ8 Q8
 refine sr fun Q16 hQ16 => ?_
 refine vm rfl rfl ?_
 refine vm rfl rfl ?_
 refine obindE hF fun y17 hx18 hF => ?_
 refine RL.call Try.func48 bd48 rfl rfl (c_slices_SortFunc_packet_Key_packet_Key_packet_Cmp _ _ _ y9 (hM.lent [0] rfl (by decide)) _ hx18) fun v w19 hv => ?_
 obtain ⟨rfl, hw21, hN20⟩ := hv
 replace hM := hM.callL [0] [] rfl rfl (by decide) rfl hN20
 refine RL.reslot (t := 5) rfl hw21 ?_
 refine RL.reslot (t := 8) rfl hw21 ?_
 refine nt hQ16 ?_
 clear hQ16 Q16
 refine sr fun Q22 hQ22 => ?_
 refine vm rfl rfl ?_
 refine va rfl rfl ?_
 refine nt hQ22 ?_
 clear hQ22 Q22
 refine KC.ret ?_
 refine KQ.rets Try.results28 (RVs.cons (RV.tm rfl) RVs.nil) ?_
 exact ⟨_, rfl, y17, A13, c14, hF, rfl, hM⟩
set_option maxRecDepth 100000 in
set_option maxHeartbeats 40000000 in
theorem c_model_Model_Keys_K (w : World) (m4 : T_model_Model) (g5 : Nat) (hm6 : MR62 g5 m4.f_forwarded w) (g7 : Nat) (hm8 : MR62 g7 m4.f_cached w) (g9 : Nat) (hm10 : MR62 g9 m4.f_lost w) (A11 : Option Addr) (c12 : Nat) (hr13 : RdD R_model_Entry [] w A11 c12 6 m4.f_entries) (A14 : Option Addr) (c15 : Nat) (hr16 : Rd w A14 c15 1 m4.f_line.length (m4.f_line.flatMap (eI .i64))) (g1 : Nat) (hC2 : Cs w ⟨g1, 0, none⟩ [.map (some g5), .map (some g7), .map (some g9), .slice A11 (m4.f_entries).length c12, .slice A14 (m4.f_line).length c15, v64 m4.f_first, v32 m4.f_boot]) (kf : ((List T_packet_Key)) → Option Bool) (r : Bool) (hF : F_model_Model_Keys_K m4 kf = some r) :
  CallsR Try.prog 10 [.pointer (some ⟨g1, 0, none⟩)] w (fun v w' => ∃ (y : (List T_packet_Key)) (Ar0 : Option Addr) (cr0 : Nat), kf y = some r ∧ v = .slice Ar0 (y).length cr0 ∧ Mem w [] w' [.row Ar0 cr0 34 37 y.length (y.flatMap e_packet_Key)]) := by
 refine calls_KC Try.func10 rfl Try.ntmps10 rfl ?_
 have hM := Mem.init w
 unfold F_model_Model_Keys_K at hF
 refine sr fun Q17 hQ17 => ?_
 refine va rfl rfl ?_
 refine nt hQ17 ?_
 clear hQ17 Q17
 refine KC.seqH fun Q18 hQ18 => ?_
 refine sr fun Q19 hQ19 => ?_
 refine vm rfl rfl ?_
 refine RL.val (O.peqn Try.underlying25 rfl rfl) rfl ?_
 refine nt hQ19 ?_
 clear hQ19 Q19
 refine KC.condF rfl ?_
 refine KC.skip ?_
 refine KQ.thn hQ18 ?_
 clear hQ18 Q18
 refine sr fun Q20 hQ20 => ?_
 refine vm rfl rfl ?_
 refine RL.val (O.nilp rfl) rfl ?_
 refine RL.val (O.fldA fl65_0 (by decide) rfl) rfl ?_
 refine RL.val (O.load sc62 rfl (Cs.adds [0] ((hC2.fut hM.chg)) rfl)) rfl ?_
 refine RL.icall Try.func29 bd29 rfl rfl rfl Try.ntmps29 rfl ?_
 refine sr fun Q21 hQ21 => ?_
 refine RL.eff (E.box (vs := [.map (some g5)]) hM rfl rfl) rfl fun v w23 hv => ?_
 clear hM
 obtain ⟨g22, rfl, hM, hf⟩ := hv
 refine va rfl rfl ?_
 refine nt hQ21 ?_
 clear hQ21 Q21
 refine sr fun Q25 hQ25 => ?_
 refine RL.val (O.mkf rfl rfl) rfl ?_
 refine va rfl rfl ?_
 refine nt hQ25 ?_
 clear hQ25 Q25
 refine KC.ret ?_
 refine KQ.rets Try.results29 (RVs.cons (RV.tm rfl) RVs.nil) ?_
 refine ⟨.func (.func 49) #[] #[.pointer (some ⟨g22, 0, none⟩)], rfl, ?_⟩
 refine RL.call Try.func28 bd28 rfl rfl (c_slices_SortedFunc_packet_Key_fmaps_Keys_model_totals_packet_Key_flow_Total_1fpacket_Cmp_K _ m4.f_forwarded _ (hm6.fut hM.chg) _ (hM.bx (i := 0) rfl) _ _ hF) fun v w28 hv => ?_
 clear hF
 obtain ⟨y26, A30, c31, hF, rfl, hN29⟩ := hv
 try dsimp only at hF
 replace hM := hM.call hN29
 refine va rfl rfl ?_
 refine nt hQ20 ?_
 clear hQ20 Q20
 refine KC.ret ?_
 replace hM := hM.pick [1] rfl (by decide)
 refine KQ.rets Try.results10 (RVs.cons (RV.tm rfl) RVs.nil) ?_
 exact ⟨_, rfl, y26, A30, c31, hF, rfl, hM⟩
set_option maxRecDepth 100000 in
set_option maxHeartbeats 40000000 in
theorem c_model_Model_Boot (w : World) (m4 : T_model_Model) (g5 : Nat) (hm6 : MR62 g5 m4.f_forwarded w) (g7 : Nat) (hm8 : MR62 g7 m4.f_cached w) (g9 : Nat) (hm10 : MR62 g9 m4.f_lost w) (A11 : Option Addr) (c12 : Nat) (hr13 : RdD R_model_Entry [] w A11 c12 6 m4.f_entries) (A14 : Option Addr) (c15 : Nat) (hr16 : Rd w A14 c15 1 m4.f_line.length (m4.f_line.flatMap (eI .i64))) (g1 : Nat) (hC2 : Cs w ⟨g1, 0, none⟩ [.map (some g5), .map (some g7), .map (some g9), .slice A11 (m4.f_entries).length c12, .slice A14 (m4.f_line).length c15, v64 m4.f_first, v32 m4.f_boot]) (r : Int) (hF : F_model_Model_Boot m4 = some r) :
  CallsR Try.prog 11 [.pointer (some ⟨g1, 0, none⟩)] w (fun v w' => v = v32 r ∧ Mem w [] w' []) := by
 refine calls_KC Try.func11 rfl Try.ntmps11 rfl ?_
 have hM := Mem.init w
 unfold F_model_Model_Boot at hF
 refine sr fun Q17 hQ17 => ?_
 refine va rfl rfl ?_
 refine nt hQ17 ?_
 clear hQ17 Q17
 refine KC.seqH fun Q18 hQ18 => ?_
 refine sr fun Q19 hQ19 => ?_
 refine vm rfl rfl ?_
 refine RL.val (O.peqn Try.underlying25 rfl rfl) rfl ?_
 refine nt hQ19 ?_
 clear hQ19 Q19
 refine KC.condF rfl ?_
 refine KC.skip ?_
 refine KQ.thn hQ18 ?_
 clear hQ18 Q18
 refine sr fun Q20 hQ20 => ?_
 refine vm rfl rfl ?_
 refine RL.val (O.nilp rfl) rfl ?_
 refine RL.val (O.fldA fl65_6 (by decide) rfl) rfl ?_
 refine RL.val (O.load sc39 rfl (Cs.adds [6] ((hC2.fut hM.chg)) rfl)) rfl ?_
 refine va rfl rfl ?_
 refine nt hQ20 ?_
 clear hQ20 Q20
 refine KC.ret ?_
 have hE := Option.some.inj hF
 clear hF
 subst hE
 refine KQ.rets Try.results11 (RVs.cons (RV.tm rfl) RVs.nil) ?_
 exact ⟨_, rfl, rfl, hM⟩
end Go.Proofs.Ytidbgejnkpoeeaa
