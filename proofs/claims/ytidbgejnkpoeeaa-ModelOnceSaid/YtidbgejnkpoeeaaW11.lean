/- Printed by a program of this claim: each call returns what the plain function of its name gives. -/
import Derived.Test.YtidbgejnkpoeeaaW1
import Derived.Test.YtidbgejnkpoeeaaW10
set_option linter.unusedVariables false
namespace Go.Proofs.Ytidbgejnkpoeeaa
open Go Go.Ox Go.RowKit
set_option maxRecDepth 100000 in
set_option maxHeartbeats 40000000 in
theorem c_slices_ContainsFunc_model_Entry_model_Entry_fmodel_Model_crash_1 (w : World) (A2 : Option Addr) (c3 : Nat) (s1 : List T_model_Entry) (hr4 : RdD R_model_Entry [] w A2 c3 6 s1) (f8 : T_model_Note) (A9 : Option Addr) (c10 : Nat) (hr11 : Rd w A9 c10 44 f8.f_Records.length (f8.f_Records.flatMap e_flow_Record)) (g5 : Nat) (hC6 : Cs w ⟨g5, 0, none⟩ [vI f8.f_Kind, vB f8.f_Key.f_Src.f_Six, o8 f8.f_Key.f_Src.f_B 0, o8 f8.f_Key.f_Src.f_B 1, o8 f8.f_Key.f_Src.f_B 2, o8 f8.f_Key.f_Src.f_B 3, o8 f8.f_Key.f_Src.f_B 4, o8 f8.f_Key.f_Src.f_B 5, o8 f8.f_Key.f_Src.f_B 6, o8 f8.f_Key.f_Src.f_B 7, o8 f8.f_Key.f_Src.f_B 8, o8 f8.f_Key.f_Src.f_B 9, o8 f8.f_Key.f_Src.f_B 10, o8 f8.f_Key.f_Src.f_B 11, o8 f8.f_Key.f_Src.f_B 12, o8 f8.f_Key.f_Src.f_B 13, o8 f8.f_Key.f_Src.f_B 14, o8 f8.f_Key.f_Src.f_B 15, vB f8.f_Key.f_Dst.f_Six, o8 f8.f_Key.f_Dst.f_B 0, o8 f8.f_Key.f_Dst.f_B 1, o8 f8.f_Key.f_Dst.f_B 2, o8 f8.f_Key.f_Dst.f_B 3, o8 f8.f_Key.f_Dst.f_B 4, o8 f8.f_Key.f_Dst.f_B 5, o8 f8.f_Key.f_Dst.f_B 6, o8 f8.f_Key.f_Dst.f_B 7, o8 f8.f_Key.f_Dst.f_B 8, o8 f8.f_Key.f_Dst.f_B 9, o8 f8.f_Key.f_Dst.f_B 10, o8 f8.f_Key.f_Dst.f_B 11, o8 f8.f_Key.f_Dst.f_B 12, o8 f8.f_Key.f_Dst.f_B 13, o8 f8.f_Key.f_Dst.f_B 14, o8 f8.f_Key.f_Dst.f_B 15, v8 f8.f_Key.f_Proto, v16 f8.f_Key.f_SrcPort, v16 f8.f_Key.f_DstPort, v64 f8.f_Total.f_Packets, v64 f8.f_Total.f_Bytes, .slice A9 (f8.f_Records).length c10, v32 f8.f_Epoch, v64 f8.f_N, v64 f8.f_First, v64 f8.f_Next]) (r : Bool) (hF : F_slices_ContainsFunc_model_Entry_model_Entry_fmodel_Model_crash_1 s1 f8 = some r) :
  CallsR Try.prog 42 [.slice A2 (s1).length c3, .func (.func 43) #[] #[.pointer (some ⟨g5, 0, none⟩)]] w (fun v w' => v = vB r ∧ Mem w [] w' []) := by
 refine calls_KC Try.func42 rfl Try.ntmps42 rfl ?_
 have hM := Mem.init w
 unfold F_slices_ContainsFunc_model_Entry_model_Entry_fmodel_Model_crash_1 at hF
 refine sr fun Q12 hQ12 => ?_
 refine va rfl rfl ?_
 refine nt hQ12 ?_
 clear hQ12 Q12
 refine sr fun Q13 hQ13 => ?_
 refine vm rfl rfl ?_
 refine vm rfl rfl ?_
 refine obindE hF fun y14 hx15 hF => ?_
 refine RL.call Try.func61 bd61 rfl rfl (c_slices_IndexFunc_model_Entry_model_Entry_fmodel_Model_crash_1 _ _ _ s1 (hr4.chg mv_model_Entry hM.chg) f8 _ _ (hM.inp hr11 Off.nil) _ (hC6.fut hM.chg) _ hx15) fun v w16 hv => ?_
 obtain ⟨rfl, hN17⟩ := hv
 replace hM := hM.call0 hN17
 refine RL.val (O.geq rfl rfl) rfl ?_
 refine va rfl rfl ?_
 refine nt hQ13 ?_
 clear hQ13 Q13
 refine KC.ret ?_
 have hE := Option.some.inj hF
 clear hF
 subst hE
 refine KQ.rets Try.results42 (RVs.cons (RV.tm rfl) RVs.nil) ?_
 exact ⟨_, rfl, rfl, hM⟩
set_option maxRecDepth 100000 in
set_option maxHeartbeats 40000000 in
theorem c_model_Model_crash_2 (w : World) (ev1 : T_model_Entry) (A2 : Option Addr) (c3 : Nat) (hr4 : Rd w A2 c3 44 ev1.f_Records.length (ev1.f_Records.flatMap e_flow_Record)) (r : Bool) (hF : F_model_Model_crash_2 ev1 = some r) :
  CallsR Try.prog 44 [.agg #[v32 ev1.f_Epoch, v64 ev1.f_N, .slice A2 (ev1.f_Records).length c3, vB ev1.f_There, vB ev1.f_Synced, vB ev1.f_Credited]] w (fun v w' => v = vB r ∧ Mem w [] w' []) := by
 refine calls_KC Try.func44 rfl Try.ntmps44 rfl ?_
 have hM := Mem.init w
 unfold F_model_Model_crash_2 at hF
 refine sr fun Q5 hQ5 => ?_
 refine RL.eff (E.box (vs := [v32 ev1.f_Epoch, v64 ev1.f_N, .slice A2 (ev1.f_Records).length c3, vB ev1.f_There, vB ev1.f_Synced, vB ev1.f_Credited]) hM rfl rfl) rfl fun v w7 hv => ?_
 clear hM
 obtain ⟨g6, rfl, hM, hf⟩ := hv
 refine va rfl rfl ?_
 refine nt hQ5 ?_
 clear hQ5 Q5
 refine sr fun Q9 hQ9 => ?_
 refine RL.val (O.fldA fl47_5 (by decide) rfl) rfl ?_
 refine RL.val (O.load sc4 rfl (Cs.adds [5] ((hM.bx (i := 0) rfl)) rfl)) rfl ?_
 refine va rfl rfl ?_
 refine nt hQ9 ?_
 clear hQ9 Q9
 refine KC.ret ?_
 have hE := Option.some.inj hF
 clear hF
 subst hE
 replace hM := hM.pick [] rfl (by decide)
 refine KQ.rets Try.results44 (RVs.cons (RV.tm rfl) RVs.nil) ?_
 exact ⟨_, rfl, rfl, hM⟩
set_option maxRecDepth 100000 in
set_option maxHeartbeats 40000000 in
theorem c_model_Model_all_1_hmodel_Model_crash_2 (w : World) (i1 : Int) (g2 : Nat) (hC3 : Cs w ⟨g2, 0, none⟩ [.func (.func 44) #[] #[]]) (cv11 : T_model_Model) (g12 : Nat) (hm13 : MR62 g12 cv11.f_forwarded w) (g14 : Nat) (hm15 : MR62 g14 cv11.f_cached w) (g16 : Nat) (hm17 : MR62 g16 cv11.f_lost w) (A18 : Option Addr) (c19 : Nat) (hr20 : RdD R_model_Entry [] w A18 c19 6 cv11.f_entries) (A21 : Option Addr) (c22 : Nat) (hr23 : Rd w A21 c22 1 cv11.f_line.length (cv11.f_line.flatMap (eI .i64))) (g8 : Nat) (hC9 : Cs w ⟨g8, 0, none⟩ [.map (some g12), .map (some g14), .map (some g16), .slice A18 (cv11.f_entries).length c19, .slice A21 (cv11.f_line).length c22, v64 cv11.f_first, v32 cv11.f_boot]) (g5 : Nat) (hC6 : Cs w ⟨g5, 0, none⟩ [.pointer (some ⟨g8, 0, none⟩)]) (r : Bool) (hF : F_model_Model_all_1_hmodel_Model_crash_2 i1 cv11 = some r) :
  CallsR Try.prog 59 [vI i1, .pointer (some ⟨g2, 0, none⟩), .pointer (some ⟨g5, 0, none⟩)] w (fun v w' => v = vB r ∧ Mem w [] w' []) := by
 refine calls_KC Try.func59 rfl Try.ntmps59 rfl ?_
 have hM := Mem.init w
 unfold F_model_Model_all_1_hmodel_Model_crash_2 at hF
 refine sr fun Q24 hQ24 => ?_
 refine va rfl rfl ?_
 refine nt hQ24 ?_
 clear hQ24 Q24
 refine KC.seqH fun Q25 hQ25 => ?_
 replace hM := hM.drewN 1
 refine KC.draw [] [8] [8] [2, 3, 5, 9, 10] (.ofList [0, 1, 2, 3, 4, 5, 6, 7, 8, 9, 10]) moP (by kernel_rfl) ?_
 refine RD.q rfl rfl rfl rfl (fun w' hf => O.load sc84 rfl (Cs.adds [] ((hC3.fut hM.chg).fut hf) rfl)) ?_
 refine RD.q rfl rfl rfl rfl (fun w' hf => O.load sc25 rfl (Cs.adds [] ((hC6.fut hM.chg).fut hf) rfl)) ?_
 refine RD.p rfl rfl rfl rfl (fun w' => O.nilp rfl) ?_
 refine RD.p rfl rfl rfl rfl (fun w' => O.fldA fl65_3 (by decide) rfl) ?_
 refine RD.q rfl rfl rfl rfl (fun w' hf => O.load sc42 rfl (Cs.adds [3] ((hC9.fut hM.chg).fut hf) rfl)) ?_
 refine RD.p rfl rfl rfl rfl (fun w' => O.move rfl) ?_
 refine obindE hF fun xv28 hx27 hF => ?_
 obtain ⟨cs31, hA26, hR29, hO30⟩ := RdD.at hr20 hx27
 obtain ⟨A32, c33, rfl, hr34, ho35⟩ := hR29
 have hA26 := hA26.chg hM.chg hO30
 refine RD.q rfl rfl rfl rfl (fun w' hf => O.idxA sl42 (hA26.fut hf) rfl rfl) ?_
 refine RD.q rfl rfl rfl rfl (fun w' hf => O.loadN (cs := [v32 xv28.f_Epoch, v64 xv28.f_N, .slice A32 (xv28.f_Records).length c33, vB xv28.f_There, vB xv28.f_Synced, vB xv28.f_Credited]) ag47 rfl (hA26.fut hf).cells) ?_
 refine obindE hF fun y36 hx37 hF => ?_
 refine RD.mcallv rfl rfl trivial (first := []) (captured := []) rfl Try.func44 bd44 rfl rfl (c_model_Model_crash_2 _ xv28 _ _ (hM.inp hr34 Off.nil) _ hx37) fun v w38 hv => ?_
 obtain ⟨rfl, hN39⟩ := hv
 refine ⟨fun _ => hN39.fut, ?_⟩
 replace hM := hM.call0 hN39
 refine RD.p rfl rfl rfl rfl (fun w' => O.not rfl) ?_
 refine RD.p rfl rfl rfl rfl (fun w' => O.assign rfl) ?_
 refine RD.nil ?_
 refine KQ.thn hQ25 ?_
 clear hQ25 Q25
 refine KC.ret ?_
 have hE := Option.some.inj hF
 clear hF
 subst hE
 refine KQ.rets Try.results59 (RVs.cons (RV.tm rfl) RVs.nil) ?_
 exact ⟨_, rfl, rfl, hM⟩
set_option maxRecDepth 100000 in
set_option maxHeartbeats 40000000 in
theorem c_slices_IndexFunc_int_int_fmodel_Model_all_1hmodel_Model_crash_2 (w : World) (A2 : Option Addr) (c3 : Nat) (s1 : List Int) (hr4 : Rd w A2 c3 1 s1.length (s1.flatMap (eI .i64))) (g5 : Nat) (hC6 : Cs w ⟨g5, 0, none⟩ [.func (.func 44) #[] #[]]) (f14 : T_model_Model) (g15 : Nat) (hm16 : MR62 g15 f14.f_forwarded w) (g17 : Nat) (hm18 : MR62 g17 f14.f_cached w) (g19 : Nat) (hm20 : MR62 g19 f14.f_lost w) (A21 : Option Addr) (c22 : Nat) (hr23 : RdD R_model_Entry [] w A21 c22 6 f14.f_entries) (A24 : Option Addr) (c25 : Nat) (hr26 : Rd w A24 c25 1 f14.f_line.length (f14.f_line.flatMap (eI .i64))) (g11 : Nat) (hC12 : Cs w ⟨g11, 0, none⟩ [.map (some g15), .map (some g17), .map (some g19), .slice A21 (f14.f_entries).length c22, .slice A24 (f14.f_line).length c25, v64 f14.f_first, v32 f14.f_boot]) (g8 : Nat) (hC9 : Cs w ⟨g8, 0, none⟩ [.pointer (some ⟨g11, 0, none⟩)]) (r : Int) (hF : F_slices_IndexFunc_int_int_fmodel_Model_all_1hmodel_Model_crash_2 s1 f14 = some r) :
  CallsR Try.prog 71 [.slice A2 (s1).length c3, .func (.func 59) #[] #[.pointer (some ⟨g5, 0, none⟩), .pointer (some ⟨g8, 0, none⟩)]] w (fun v w' => v = vI r ∧ Mem w [] w' []) := by
 refine calls_KC Try.func71 rfl Try.ntmps71 rfl ?_
 have hM := Mem.init w
 unfold F_slices_IndexFunc_int_int_fmodel_Model_all_1hmodel_Model_crash_2 at hF
 refine sr fun Q27 hQ27 => ?_
 refine va rfl rfl ?_
 refine nt hQ27 ?_
 clear hQ27 Q27
 refine KC.seqH fun Q28 hQ28 => ?_
 refine sr fun Q29 hQ29 => ?_
 refine vm rfl rfl ?_
 refine RL.val (O.len sl63 rfl) rfl ?_
 refine vm rfl rfl ?_
 refine nt hQ29 ?_
 clear hQ29 Q29
 refine KC.block ?_
 refine KC.loop (fun k60 a w58 => ∃ (t57 : Int), Kn 19 [(0, .slice A2 (s1).length c3), (1, .func (.func 59) #[] #[.pointer (some ⟨g5, 0, none⟩), .pointer (some ⟨g8, 0, none⟩)]), (7, vI (s1.length : Int)), (8, vI t57)] a ∧ Mem w [] w58 [] ∧ F_slices_IndexFunc_int_int_fmodel_Model_all_1hmodel_Model_crash_2_L1 s1 f14 k60 t57 = some r) ?_ ?_
 ·exact fun a ha => ⟨fuel0, 0, ha.less (less_cons rfl (less_cons rfl (less_cons rfl (less_cons rfl less_nil)))), hM, hF⟩
 rintro k60 a w58 ⟨t57, ha, hM, hF⟩
 refine KC.app ha ?_
 clear ha
 cases k60 with
 | zero => exact (none_some hF).elim
 | succ k60 =>
 have hF : F_slices_IndexFunc_int_int_fmodel_Model_all_1hmodel_Model_crash_2_l1 (F_slices_IndexFunc_int_int_fmodel_Model_all_1hmodel_Model_crash_2_L1 s1 f14 k60) s1 f14 t57 = some r := hF
 unfold F_slices_IndexFunc_int_int_fmodel_Model_all_1hmodel_Model_crash_2_l1 at hF
 refine sr fun Q61 hQ61 => ?_
 refine RL.val (O.lss rfl rfl) rfl ?_
 refine nt hQ61 ?_
 clear hQ61 Q61
 refine KC.seqH fun Q62 hQ62 => ?_
 refine KC.cond rfl (fun hc => ?_) (fun hc => ?_)
 ·rw [if_pos hc] at hF
  refine KC.skip ?_
  refine KQ.thn hQ62 ?_
  clear hQ62 Q62
  refine KC.seqH fun Q63 hQ63 => ?_
  refine KC.block ?_
  refine sr fun Q64 hQ64 => ?_
  refine vm rfl rfl ?_
  refine va rfl rfl ?_
  refine nt hQ64 ?_
  clear hQ64 Q64
  refine sr fun Q65 hQ65 => ?_
  refine vm rfl rfl ?_
  refine vm rfl rfl ?_
  refine vm rfl rfl ?_
  refine obindE hF fun xv68 hx67 hF => ?_
  have hA66 := Rd.atN (f := (eI .i64)) (s := 1) (fun _ => rfl) (by decide) (hM.inp hr4 Off.nil) hx67
  refine RL.val (O.idxA sl63 (hA66) rfl rfl) rfl ?_
  refine RL.val (O.load sc3 rfl (hA66).cells.at0) rfl ?_
  refine obindE hF fun y69 hx70 hF => ?_
  refine RL.callv (first := []) (captured := [.pointer (some ⟨g5, 0, none⟩), .pointer (some ⟨g8, 0, none⟩)]) rfl Try.func59 bd59 rfl rfl (c_model_Model_all_1_hmodel_Model_crash_2 _ xv68 _ (hC6.fut hM.chg) f14 _ (hm16.fut hM.chg) _ (hm18.fut hM.chg) _ (hm20.fut hM.chg) _ _ (hr23.chg mv_model_Entry hM.chg) _ _ (hM.inp hr26 Off.nil) _ (hC12.fut hM.chg) _ (hC9.fut hM.chg) _ hx70) fun v w71 hv => ?_
  obtain ⟨rfl, hN72⟩ := hv
  replace hM := hM.call0 hN72
  refine nt hQ65 ?_
  clear hQ65 Q65
  refine KC.cond rfl (fun hc => ?_) (fun hc => ?_)
  ·rw [if_pos hc] at hF
   refine sr fun Q73 hQ73 => ?_
   refine vm rfl rfl ?_
   refine va rfl rfl ?_
   refine nt hQ73 ?_
   clear hQ73 Q73
   refine KC.ret ?_
   refine KQ.blk_r ?_
   refine KQ.thr hQ63 ?_
   clear hQ63 Q63
   refine KQ.then_r ?_
   refine KQ.blk_r ?_
   refine KQ.thr hQ28 ?_
   clear hQ28 Q28
   have hE := Option.some.inj hF
   clear hF
   subst hE
   refine KQ.rets Try.results71 (RVs.cons (RV.tm rfl) RVs.nil) ?_
   exact ⟨_, rfl, rfl, hM⟩
  rw [if_neg (ne_true hc)] at hF
  refine KC.skip ?_
  refine KQ.blk_n ?_
  refine KQ.thn hQ63 ?_
  clear hQ63 Q63
  refine KC.region ?_
  refine RL.val (O.add rfl rfl) rfl ?_
  refine vm rfl rfl ?_
  refine RL.nil ?_
  refine KQ.then_k ?_
  exact fun a ha => ⟨k60, Nat.lt_succ_self k60, (IntKind.i64.wrap (t57 + 1)), ha.less (less_cons rfl (less_cons rfl (less_cons rfl (less_cons rfl less_nil)))), hM, hF⟩
 rw [if_neg (ne_true hc)] at hF
 refine KC.exit ?_
 refine KQ.thx hQ62 ?_
 clear hQ62 Q62
 refine KQ.then_x ?_
 refine KQ.blk_x ?_
 refine KQ.thn hQ28 ?_
 clear hQ28 Q28
 refine sr fun Q74 hQ74 => ?_
 refine va rfl rfl ?_
 refine nt hQ74 ?_
 clear hQ74 Q74
 refine KC.ret ?_
 have hE := Option.some.inj hF
 clear hF
 subst hE
 refine KQ.rets Try.results71 (RVs.cons (RV.tm rfl) RVs.nil) ?_
 exact ⟨_, rfl, rfl, hM⟩
set_option maxRecDepth 100000 in
set_option maxHeartbeats 40000000 in
theorem c_slices_ContainsFunc_int_int_fmodel_Model_all_1hmodel_Model_crash_2 (w : World) (A2 : Option Addr) (c3 : Nat) (s1 : List Int) (hr4 : Rd w A2 c3 1 s1.length (s1.flatMap (eI .i64))) (g5 : Nat) (hC6 : Cs w ⟨g5, 0, none⟩ [.func (.func 44) #[] #[]]) (f14 : T_model_Model) (g15 : Nat) (hm16 : MR62 g15 f14.f_forwarded w) (g17 : Nat) (hm18 : MR62 g17 f14.f_cached w) (g19 : Nat) (hm20 : MR62 g19 f14.f_lost w) (A21 : Option Addr) (c22 : Nat) (hr23 : RdD R_model_Entry [] w A21 c22 6 f14.f_entries) (A24 : Option Addr) (c25 : Nat) (hr26 : Rd w A24 c25 1 f14.f_line.length (f14.f_line.flatMap (eI .i64))) (g11 : Nat) (hC12 : Cs w ⟨g11, 0, none⟩ [.map (some g15), .map (some g17), .map (some g19), .slice A21 (f14.f_entries).length c22, .slice A24 (f14.f_line).length c25, v64 f14.f_first, v32 f14.f_boot]) (g8 : Nat) (hC9 : Cs w ⟨g8, 0, none⟩ [.pointer (some ⟨g11, 0, none⟩)]) (r : Bool) (hF : F_slices_ContainsFunc_int_int_fmodel_Model_all_1hmodel_Model_crash_2 s1 f14 = some r) :
  CallsR Try.prog 58 [.slice A2 (s1).length c3, .func (.func 59) #[] #[.pointer (some ⟨g5, 0, none⟩), .pointer (some ⟨g8, 0, none⟩)]] w (fun v w' => v = vB r ∧ Mem w [] w' []) := by
 refine calls_KC Try.func58 rfl Try.ntmps58 rfl ?_
 have hM := Mem.init w
 unfold F_slices_ContainsFunc_int_int_fmodel_Model_all_1hmodel_Model_crash_2 at hF
 refine sr fun Q27 hQ27 => ?_
 refine va rfl rfl ?_
 refine nt hQ27 ?_
 clear hQ27 Q27
 refine sr fun Q28 hQ28 => ?_
 refine vm rfl rfl ?_
 refine vm rfl rfl ?_
 refine obindE hF fun y29 hx30 hF => ?_
 refine RL.call Try.func71 bd71 rfl rfl (c_slices_IndexFunc_int_int_fmodel_Model_all_1hmodel_Model_crash_2 _ _ _ s1 (hM.inp hr4 Off.nil) _ (hC6.fut hM.chg) f14 _ (hm16.fut hM.chg) _ (hm18.fut hM.chg) _ (hm20.fut hM.chg) _ _ (hr23.chg mv_model_Entry hM.chg) _ _ (hM.inp hr26 Off.nil) _ (hC12.fut hM.chg) _ (hC9.fut hM.chg) _ hx30) fun v w31 hv => ?_
 obtain ⟨rfl, hN32⟩ := hv
 replace hM := hM.call0 hN32
 refine RL.val (O.geq rfl rfl) rfl ?_
 refine va rfl rfl ?_
 refine nt hQ28 ?_
 clear hQ28 Q28
 refine KC.ret ?_
 have hE := Option.some.inj hF
 clear hF
 subst hE
 refine KQ.rets Try.results58 (RVs.cons (RV.tm rfl) RVs.nil) ?_
 exact ⟨_, rfl, rfl, hM⟩
set_option maxRecDepth 100000 in
set_option maxHeartbeats 40000000 in
theorem c_model_Model_all_fmodel_Model_crash_2 (w : World) (m4 : T_model_Model) (g5 : Nat) (hm6 : MR62 g5 m4.f_forwarded w) (g7 : Nat) (hm8 : MR62 g7 m4.f_cached w) (g9 : Nat) (hm10 : MR62 g9 m4.f_lost w) (A11 : Option Addr) (c12 : Nat) (hr13 : RdD R_model_Entry [] w A11 c12 6 m4.f_entries) (A14 : Option Addr) (c15 : Nat) (hr16 : Rd w A14 c15 1 m4.f_line.length (m4.f_line.flatMap (eI .i64))) (g1 : Nat) (hC2 : Cs w ⟨g1, 0, none⟩ [.map (some g5), .map (some g7), .map (some g9), .slice A11 (m4.f_entries).length c12, .slice A14 (m4.f_line).length c15, v64 m4.f_first, v32 m4.f_boot]) (fromv17 : Int) (tov18 : Int) (r : Bool) (hF : F_model_Model_all_fmodel_Model_crash_2 m4 fromv17 tov18 = some r) :
  CallsR Try.prog 39 [.pointer (some ⟨g1, 0, none⟩), v64 fromv17, v64 tov18, .func (.func 44) #[] #[]] w (fun v w' => v = vB r ∧ Mem w [] w' []) := by
 refine calls_KC Try.func39 rfl Try.ntmps39 rfl ?_
 have hM := Mem.init w
 unfold F_model_Model_all_fmodel_Model_crash_2 at hF
 refine sr fun Q19 hQ19 => ?_
 refine RL.eff (E.box (vs := [.pointer (some ⟨g1, 0, none⟩)]) hM rfl rfl) rfl fun v w21 hv => ?_
 clear hM
 obtain ⟨g20, rfl, hM, hf⟩ := hv
 refine RL.eff (E.box (vs := [.func (.func 44) #[] #[]]) hM rfl rfl) rfl fun v w24 hv => ?_
 clear hM
 obtain ⟨g23, rfl, hM, hf⟩ := hv
 refine va rfl rfl ?_
 refine nt hQ19 ?_
 clear hQ19 Q19
 refine sr fun Q26 hQ26 => ?_
 refine RL.val (O.load sc25 rfl (Cs.adds [] ((hM.bx (i := 0) rfl)) rfl)) rfl ?_
 refine RL.val (O.nilp rfl) rfl ?_
 refine RL.val (O.fldA fl65_4 (by decide) rfl) rfl ?_
 refine RL.val (O.load sc63 rfl (Cs.adds [4] ((hC2.fut hM.chg)) rfl)) rfl ?_
 refine vm rfl rfl ?_
 refine vm rfl rfl ?_
 refine obindE hF fun cut27 hy28 hF => ?_
 refine cutNE A14 c15 (Int.toNat fromv17) 1 fun A29 c30 eA32 ec33 => ?_
 have hr31 := Rd.cutT (enc := (eI .i64)) (s := 1) (fun _ => rfl) hr16 hy28 (m := c15) (by have := hr16.cap; have := (gcut_some hy28).2.2.1; omega) (Nat.le_refl _)
 rw [← eA32, ← ec33] at hr31
 refine RL.val (v := .slice A29 (cut27).length c30) (by rw [eA32, ec33]; exact O.cutT sl63 (hM.inp hr16 Off.nil) hy28 rfl rfl rfl) rfl ?_
 refine RL.val (O.mkf rfl rfl) rfl ?_
 refine obindE hF fun y34 hx35 hF => ?_
 refine RL.call Try.func58 bd58 rfl rfl (c_slices_ContainsFunc_int_int_fmodel_Model_all_1hmodel_Model_crash_2 _ _ _ cut27 (hM.inp hr31 Off.nil) _ (hM.bx (i := 1) rfl) m4 _ (hm6.fut hM.chg) _ (hm8.fut hM.chg) _ (hm10.fut hM.chg) _ _ (hr13.chg mv_model_Entry hM.chg) _ _ (hM.inp hr16 Off.nil) _ (hC2.fut hM.chg) _ (hM.bx (i := 0) rfl) _ hx35) fun v w36 hv => ?_
 obtain ⟨rfl, hN37⟩ := hv
 replace hM := hM.call0 hN37
 refine RL.val (O.not rfl) rfl ?_
 refine va rfl rfl ?_
 refine nt hQ26 ?_
 clear hQ26 Q26
 refine KC.ret ?_
 have hE := Option.some.inj hF
 clear hF
 subst hE
 replace hM := hM.pick [] rfl (by decide)
 refine KQ.rets Try.results39 (RVs.cons (RV.tm rfl) RVs.nil) ?_
 exact ⟨_, rfl, rfl, hM⟩
set_option maxRecDepth 100000 in
set_option maxHeartbeats 40000000 in
theorem c_model_Model_crash_3 (w : World) (ev1 : T_model_Entry) (A2 : Option Addr) (c3 : Nat) (hr4 : Rd w A2 c3 44 ev1.f_Records.length (ev1.f_Records.flatMap e_flow_Record)) (r : Bool) (hF : F_model_Model_crash_3 ev1 = some r) :
  CallsR Try.prog 45 [.agg #[v32 ev1.f_Epoch, v64 ev1.f_N, .slice A2 (ev1.f_Records).length c3, vB ev1.f_There, vB ev1.f_Synced, vB ev1.f_Credited]] w (fun v w' => v = vB r ∧ Mem w [] w' []) := by
 refine calls_KC Try.func45 rfl Try.ntmps45 rfl ?_
 have hM := Mem.init w
 unfold F_model_Model_crash_3 at hF
 refine sr fun Q5 hQ5 => ?_
 refine RL.eff (E.box (vs := [v32 ev1.f_Epoch, v64 ev1.f_N, .slice A2 (ev1.f_Records).length c3, vB ev1.f_There, vB ev1.f_Synced, vB ev1.f_Credited]) hM rfl rfl) rfl fun v w7 hv => ?_
 clear hM
 obtain ⟨g6, rfl, hM, hf⟩ := hv
 refine va rfl rfl ?_
 refine nt hQ5 ?_
 clear hQ5 Q5
 refine KC.cut (fun a w10 => ∃ (t9 : Bool), Kn 10 [(2, vB t9)] a ∧ Mem w [] w10 [] ∧ F_model_Model_crash_3_j1 t9 = some r) ?_ ?_
 ·refine KC.region ?_
  refine RL.val (O.fldA fl47_5 (by decide) rfl) rfl ?_
  refine RL.val (O.load sc4 rfl (Cs.adds [5] ((hM.bx (i := 0) rfl)) rfl)) rfl ?_
  refine vm rfl rfl ?_
  refine RL.bcase (t := 5) rfl (fun hc => ?_) (fun hc => ?_)
  ·rw [if_pos hc] at hF
   refine RL.brun1 4 9 true (by kernel_rfl) ?_
   refine va rfl rfl ?_
   refine RL.nil ?_
   refine KQ.then_k ?_
   replace hM := hM.pick [] rfl (by decide)
   exact fun a ha => ⟨true, ha.less (less_cons rfl less_nil), hM, hF⟩
  rw [if_neg (ne_true hc)] at hF
  refine RL.gval rfl rfl (O.fldA fl47_4 (by decide) rfl) rfl ?_
  refine RL.gval rfl rfl (O.load sc4 rfl (Cs.adds [4] ((hM.bx (i := 0) rfl)) rfl)) rfl ?_
  refine RL.gval rfl rfl (O.not rfl) rfl ?_
  refine RL.val (O.pickf rfl rfl) rfl ?_
  refine va rfl rfl ?_
  refine RL.nil ?_
  refine KQ.then_k ?_
  replace hM := hM.pick [] rfl (by decide)
  exact fun a ha => ⟨(!ev1.f_Synced), ha.less (less_cons rfl less_nil), hM, hF⟩
 rintro a w10 ⟨t9, ha, hM, hF⟩
 refine KC.app ha ?_
 clear ha
 unfold F_model_Model_crash_3_j1 at hF
 refine KC.ret ?_
 have hE := Option.some.inj hF
 clear hF
 subst hE
 refine KQ.rets Try.results45 (RVs.cons (RV.tm rfl) RVs.nil) ?_
 exact ⟨_, rfl, rfl, hM⟩
set_option maxRecDepth 100000 in
set_option maxHeartbeats 40000000 in
theorem c_model_Model_all_1_hmodel_Model_crash_3 (w : World) (i1 : Int) (g2 : Nat) (hC3 : Cs w ⟨g2, 0, none⟩ [.func (.func 45) #[] #[]]) (cv11 : T_model_Model) (g12 : Nat) (hm13 : MR62 g12 cv11.f_forwarded w) (g14 : Nat) (hm15 : MR62 g14 cv11.f_cached w) (g16 : Nat) (hm17 : MR62 g16 cv11.f_lost w) (A18 : Option Addr) (c19 : Nat) (hr20 : RdD R_model_Entry [] w A18 c19 6 cv11.f_entries) (A21 : Option Addr) (c22 : Nat) (hr23 : Rd w A21 c22 1 cv11.f_line.length (cv11.f_line.flatMap (eI .i64))) (g8 : Nat) (hC9 : Cs w ⟨g8, 0, none⟩ [.map (some g12), .map (some g14), .map (some g16), .slice A18 (cv11.f_entries).length c19, .slice A21 (cv11.f_line).length c22, v64 cv11.f_first, v32 cv11.f_boot]) (g5 : Nat) (hC6 : Cs w ⟨g5, 0, none⟩ [.pointer (some ⟨g8, 0, none⟩)]) (r : Bool) (hF : F_model_Model_all_1_hmodel_Model_crash_3 i1 cv11 = some r) :
  CallsR Try.prog 59 [vI i1, .pointer (some ⟨g2, 0, none⟩), .pointer (some ⟨g5, 0, none⟩)] w (fun v w' => v = vB r ∧ Mem w [] w' []) := by
 refine calls_KC Try.func59 rfl Try.ntmps59 rfl ?_
 have hM := Mem.init w
 unfold F_model_Model_all_1_hmodel_Model_crash_3 at hF
 refine sr fun Q24 hQ24 => ?_
 refine va rfl rfl ?_
 refine nt hQ24 ?_
 clear hQ24 Q24
 refine KC.seqH fun Q25 hQ25 => ?_
 replace hM := hM.drewN 1
 refine KC.draw [] [8] [8] [2, 3, 5, 9, 10] (.ofList [0, 1, 2, 3, 4, 5, 6, 7, 8, 9, 10]) moP (by kernel_rfl) ?_
 refine RD.q rfl rfl rfl rfl (fun w' hf => O.load sc84 rfl (Cs.adds [] ((hC3.fut hM.chg).fut hf) rfl)) ?_
 refine RD.q rfl rfl rfl rfl (fun w' hf => O.load sc25 rfl (Cs.adds [] ((hC6.fut hM.chg).fut hf) rfl)) ?_
 refine RD.p rfl rfl rfl rfl (fun w' => O.nilp rfl) ?_
 refine RD.p rfl rfl rfl rfl (fun w' => O.fldA fl65_3 (by decide) rfl) ?_
 refine RD.q rfl rfl rfl rfl (fun w' hf => O.load sc42 rfl (Cs.adds [3] ((hC9.fut hM.chg).fut hf) rfl)) ?_
 refine RD.p rfl rfl rfl rfl (fun w' => O.move rfl) ?_
 refine obindE hF fun xv28 hx27 hF => ?_
 obtain ⟨cs31, hA26, hR29, hO30⟩ := RdD.at hr20 hx27
 obtain ⟨A32, c33, rfl, hr34, ho35⟩ := hR29
 have hA26 := hA26.chg hM.chg hO30
 refine RD.q rfl rfl rfl rfl (fun w' hf => O.idxA sl42 (hA26.fut hf) rfl rfl) ?_
 refine RD.q rfl rfl rfl rfl (fun w' hf => O.loadN (cs := [v32 xv28.f_Epoch, v64 xv28.f_N, .slice A32 (xv28.f_Records).length c33, vB xv28.f_There, vB xv28.f_Synced, vB xv28.f_Credited]) ag47 rfl (hA26.fut hf).cells) ?_
 refine obindE hF fun y36 hx37 hF => ?_
 refine RD.mcallv rfl rfl trivial (first := []) (captured := []) rfl Try.func45 bd45 rfl rfl (c_model_Model_crash_3 _ xv28 _ _ (hM.inp hr34 Off.nil) _ hx37) fun v w38 hv => ?_
 obtain ⟨rfl, hN39⟩ := hv
 refine ⟨fun _ => hN39.fut, ?_⟩
 replace hM := hM.call0 hN39
 refine RD.p rfl rfl rfl rfl (fun w' => O.not rfl) ?_
 refine RD.p rfl rfl rfl rfl (fun w' => O.assign rfl) ?_
 refine RD.nil ?_
 refine KQ.thn hQ25 ?_
 clear hQ25 Q25
 refine KC.ret ?_
 have hE := Option.some.inj hF
 clear hF
 subst hE
 refine KQ.rets Try.results59 (RVs.cons (RV.tm rfl) RVs.nil) ?_
 exact ⟨_, rfl, rfl, hM⟩
set_option maxRecDepth 100000 in
set_option maxHeartbeats 40000000 in
theorem c_slices_IndexFunc_int_int_fmodel_Model_all_1hmodel_Model_crash_3 (w : World) (A2 : Option Addr) (c3 : Nat) (s1 : List Int) (hr4 : Rd w A2 c3 1 s1.length (s1.flatMap (eI .i64))) (g5 : Nat) (hC6 : Cs w ⟨g5, 0, none⟩ [.func (.func 45) #[] #[]]) (f14 : T_model_Model) (g15 : Nat) (hm16 : MR62 g15 f14.f_forwarded w) (g17 : Nat) (hm18 : MR62 g17 f14.f_cached w) (g19 : Nat) (hm20 : MR62 g19 f14.f_lost w) (A21 : Option Addr) (c22 : Nat) (hr23 : RdD R_model_Entry [] w A21 c22 6 f14.f_entries) (A24 : Option Addr) (c25 : Nat) (hr26 : Rd w A24 c25 1 f14.f_line.length (f14.f_line.flatMap (eI .i64))) (g11 : Nat) (hC12 : Cs w ⟨g11, 0, none⟩ [.map (some g15), .map (some g17), .map (some g19), .slice A21 (f14.f_entries).length c22, .slice A24 (f14.f_line).length c25, v64 f14.f_first, v32 f14.f_boot]) (g8 : Nat) (hC9 : Cs w ⟨g8, 0, none⟩ [.pointer (some ⟨g11, 0, none⟩)]) (r : Int) (hF : F_slices_IndexFunc_int_int_fmodel_Model_all_1hmodel_Model_crash_3 s1 f14 = some r) :
  CallsR Try.prog 71 [.slice A2 (s1).length c3, .func (.func 59) #[] #[.pointer (some ⟨g5, 0, none⟩), .pointer (some ⟨g8, 0, none⟩)]] w (fun v w' => v = vI r ∧ Mem w [] w' []) := by
 refine calls_KC Try.func71 rfl Try.ntmps71 rfl ?_
 have hM := Mem.init w
 unfold F_slices_IndexFunc_int_int_fmodel_Model_all_1hmodel_Model_crash_3 at hF
 refine sr fun Q27 hQ27 => ?_
 refine va rfl rfl ?_
 refine nt hQ27 ?_
 clear hQ27 Q27
 refine KC.seqH fun Q28 hQ28 => ?_
 refine sr fun Q29 hQ29 => ?_
 refine vm rfl rfl ?_
 refine RL.val (O.len sl63 rfl) rfl ?_
 refine vm rfl rfl ?_
 refine nt hQ29 ?_
 clear hQ29 Q29
 refine KC.block ?_
 refine KC.loop (fun k60 a w58 => ∃ (t57 : Int), Kn 19 [(0, .slice A2 (s1).length c3), (1, .func (.func 59) #[] #[.pointer (some ⟨g5, 0, none⟩), .pointer (some ⟨g8, 0, none⟩)]), (7, vI (s1.length : Int)), (8, vI t57)] a ∧ Mem w [] w58 [] ∧ F_slices_IndexFunc_int_int_fmodel_Model_all_1hmodel_Model_crash_3_L1 s1 f14 k60 t57 = some r) ?_ ?_
 ·exact fun a ha => ⟨fuel0, 0, ha.less (less_cons rfl (less_cons rfl (less_cons rfl (less_cons rfl less_nil)))), hM, hF⟩
 rintro k60 a w58 ⟨t57, ha, hM, hF⟩
 refine KC.app ha ?_
 clear ha
 cases k60 with
 | zero => exact (none_some hF).elim
 | succ k60 =>
 have hF : F_slices_IndexFunc_int_int_fmodel_Model_all_1hmodel_Model_crash_3_l1 (F_slices_IndexFunc_int_int_fmodel_Model_all_1hmodel_Model_crash_3_L1 s1 f14 k60) s1 f14 t57 = some r := hF
 unfold F_slices_IndexFunc_int_int_fmodel_Model_all_1hmodel_Model_crash_3_l1 at hF
 refine sr fun Q61 hQ61 => ?_
 refine RL.val (O.lss rfl rfl) rfl ?_
 refine nt hQ61 ?_
 clear hQ61 Q61
 refine KC.seqH fun Q62 hQ62 => ?_
 refine KC.cond rfl (fun hc => ?_) (fun hc => ?_)
 ·rw [if_pos hc] at hF
  refine KC.skip ?_
  refine KQ.thn hQ62 ?_
  clear hQ62 Q62
  refine KC.seqH fun Q63 hQ63 => ?_
  refine KC.block ?_
  refine sr fun Q64 hQ64 => ?_
  refine vm rfl rfl ?_
  refine va rfl rfl ?_
  refine nt hQ64 ?_
  clear hQ64 Q64
  refine sr fun Q65 hQ65 => ?_
  refine vm rfl rfl ?_
  refine vm rfl rfl ?_
  refine vm rfl rfl ?_
  refine obindE hF fun xv68 hx67 hF => ?_
  have hA66 := Rd.atN (f := (eI .i64)) (s := 1) (fun _ => rfl) (by decide) (hM.inp hr4 Off.nil) hx67
  refine RL.val (O.idxA sl63 (hA66) rfl rfl) rfl ?_
  refine RL.val (O.load sc3 rfl (hA66).cells.at0) rfl ?_
  refine obindE hF fun y69 hx70 hF => ?_
  refine RL.callv (first := []) (captured := [.pointer (some ⟨g5, 0, none⟩), .pointer (some ⟨g8, 0, none⟩)]) rfl Try.func59 bd59 rfl rfl (c_model_Model_all_1_hmodel_Model_crash_3 _ xv68 _ (hC6.fut hM.chg) f14 _ (hm16.fut hM.chg) _ (hm18.fut hM.chg) _ (hm20.fut hM.chg) _ _ (hr23.chg mv_model_Entry hM.chg) _ _ (hM.inp hr26 Off.nil) _ (hC12.fut hM.chg) _ (hC9.fut hM.chg) _ hx70) fun v w71 hv => ?_
  obtain ⟨rfl, hN72⟩ := hv
  replace hM := hM.call0 hN72
  refine nt hQ65 ?_
  clear hQ65 Q65
  refine KC.cond rfl (fun hc => ?_) (fun hc => ?_)
  ·rw [if_pos hc] at hF
   refine sr fun Q73 hQ73 => ?_
   refine vm rfl rfl ?_
   refine va rfl rfl ?_
   refine nt hQ73 ?_
   clear hQ73 Q73
   refine KC.ret ?_
   refine KQ.blk_r ?_
   refine KQ.thr hQ63 ?_
   clear hQ63 Q63
   refine KQ.then_r ?_
   refine KQ.blk_r ?_
   refine KQ.thr hQ28 ?_
   clear hQ28 Q28
   have hE := Option.some.inj hF
   clear hF
   subst hE
   refine KQ.rets Try.results71 (RVs.cons (RV.tm rfl) RVs.nil) ?_
   exact ⟨_, rfl, rfl, hM⟩
  rw [if_neg (ne_true hc)] at hF
  refine KC.skip ?_
  refine KQ.blk_n ?_
  refine KQ.thn hQ63 ?_
  clear hQ63 Q63
  refine KC.region ?_
  refine RL.val (O.add rfl rfl) rfl ?_
  refine vm rfl rfl ?_
  refine RL.nil ?_
  refine KQ.then_k ?_
  exact fun a ha => ⟨k60, Nat.lt_succ_self k60, (IntKind.i64.wrap (t57 + 1)), ha.less (less_cons rfl (less_cons rfl (less_cons rfl (less_cons rfl less_nil)))), hM, hF⟩
 rw [if_neg (ne_true hc)] at hF
 refine KC.exit ?_
 refine KQ.thx hQ62 ?_
 clear hQ62 Q62
 refine KQ.then_x ?_
 refine KQ.blk_x ?_
 refine KQ.thn hQ28 ?_
 clear hQ28 Q28
 refine sr fun Q74 hQ74 => ?_
 refine va rfl rfl ?_
 refine nt hQ74 ?_
 clear hQ74 Q74
 refine KC.ret ?_
 have hE := Option.some.inj hF
 clear hF
 subst hE
 refine KQ.rets Try.results71 (RVs.cons (RV.tm rfl) RVs.nil) ?_
 exact ⟨_, rfl, rfl, hM⟩
set_option maxRecDepth 100000 in
set_option maxHeartbeats 40000000 in
theorem c_slices_ContainsFunc_int_int_fmodel_Model_all_1hmodel_Model_crash_3 (w : World) (A2 : Option Addr) (c3 : Nat) (s1 : List Int) (hr4 : Rd w A2 c3 1 s1.length (s1.flatMap (eI .i64))) (g5 : Nat) (hC6 : Cs w ⟨g5, 0, none⟩ [.func (.func 45) #[] #[]]) (f14 : T_model_Model) (g15 : Nat) (hm16 : MR62 g15 f14.f_forwarded w) (g17 : Nat) (hm18 : MR62 g17 f14.f_cached w) (g19 : Nat) (hm20 : MR62 g19 f14.f_lost w) (A21 : Option Addr) (c22 : Nat) (hr23 : RdD R_model_Entry [] w A21 c22 6 f14.f_entries) (A24 : Option Addr) (c25 : Nat) (hr26 : Rd w A24 c25 1 f14.f_line.length (f14.f_line.flatMap (eI .i64))) (g11 : Nat) (hC12 : Cs w ⟨g11, 0, none⟩ [.map (some g15), .map (some g17), .map (some g19), .slice A21 (f14.f_entries).length c22, .slice A24 (f14.f_line).length c25, v64 f14.f_first, v32 f14.f_boot]) (g8 : Nat) (hC9 : Cs w ⟨g8, 0, none⟩ [.pointer (some ⟨g11, 0, none⟩)]) (r : Bool) (hF : F_slices_ContainsFunc_int_int_fmodel_Model_all_1hmodel_Model_crash_3 s1 f14 = some r) :
  CallsR Try.prog 58 [.slice A2 (s1).length c3, .func (.func 59) #[] #[.pointer (some ⟨g5, 0, none⟩), .pointer (some ⟨g8, 0, none⟩)]] w (fun v w' => v = vB r ∧ Mem w [] w' []) := by
 refine calls_KC Try.func58 rfl Try.ntmps58 rfl ?_
 have hM := Mem.init w
 unfold F_slices_ContainsFunc_int_int_fmodel_Model_all_1hmodel_Model_crash_3 at hF
 refine sr fun Q27 hQ27 => ?_
 refine va rfl rfl ?_
 refine nt hQ27 ?_
 clear hQ27 Q27
 refine sr fun Q28 hQ28 => ?_
 refine vm rfl rfl ?_
 refine vm rfl rfl ?_
 refine obindE hF fun y29 hx30 hF => ?_
 refine RL.call Try.func71 bd71 rfl rfl (c_slices_IndexFunc_int_int_fmodel_Model_all_1hmodel_Model_crash_3 _ _ _ s1 (hM.inp hr4 Off.nil) _ (hC6.fut hM.chg) f14 _ (hm16.fut hM.chg) _ (hm18.fut hM.chg) _ (hm20.fut hM.chg) _ _ (hr23.chg mv_model_Entry hM.chg) _ _ (hM.inp hr26 Off.nil) _ (hC12.fut hM.chg) _ (hC9.fut hM.chg) _ hx30) fun v w31 hv => ?_
 obtain ⟨rfl, hN32⟩ := hv
 replace hM := hM.call0 hN32
 refine RL.val (O.geq rfl rfl) rfl ?_
 refine va rfl rfl ?_
 refine nt hQ28 ?_
 clear hQ28 Q28
 refine KC.ret ?_
 have hE := Option.some.inj hF
 clear hF
 subst hE
 refine KQ.rets Try.results58 (RVs.cons (RV.tm rfl) RVs.nil) ?_
 exact ⟨_, rfl, rfl, hM⟩
set_option maxRecDepth 100000 in
set_option maxHeartbeats 40000000 in
theorem c_model_Model_all_fmodel_Model_crash_3 (w : World) (m4 : T_model_Model) (g5 : Nat) (hm6 : MR62 g5 m4.f_forwarded w) (g7 : Nat) (hm8 : MR62 g7 m4.f_cached w) (g9 : Nat) (hm10 : MR62 g9 m4.f_lost w) (A11 : Option Addr) (c12 : Nat) (hr13 : RdD R_model_Entry [] w A11 c12 6 m4.f_entries) (A14 : Option Addr) (c15 : Nat) (hr16 : Rd w A14 c15 1 m4.f_line.length (m4.f_line.flatMap (eI .i64))) (g1 : Nat) (hC2 : Cs w ⟨g1, 0, none⟩ [.map (some g5), .map (some g7), .map (some g9), .slice A11 (m4.f_entries).length c12, .slice A14 (m4.f_line).length c15, v64 m4.f_first, v32 m4.f_boot]) (fromv17 : Int) (tov18 : Int) (r : Bool) (hF : F_model_Model_all_fmodel_Model_crash_3 m4 fromv17 tov18 = some r) :
  CallsR Try.prog 39 [.pointer (some ⟨g1, 0, none⟩), v64 fromv17, v64 tov18, .func (.func 45) #[] #[]] w (fun v w' => v = vB r ∧ Mem w [] w' []) := by
 refine calls_KC Try.func39 rfl Try.ntmps39 rfl ?_
 have hM := Mem.init w
 unfold F_model_Model_all_fmodel_Model_crash_3 at hF
 refine sr fun Q19 hQ19 => ?_
 refine RL.eff (E.box (vs := [.pointer (some ⟨g1, 0, none⟩)]) hM rfl rfl) rfl fun v w21 hv => ?_
 clear hM
 obtain ⟨g20, rfl, hM, hf⟩ := hv
 refine RL.eff (E.box (vs := [.func (.func 45) #[] #[]]) hM rfl rfl) rfl fun v w24 hv => ?_
 clear hM
 obtain ⟨g23, rfl, hM, hf⟩ := hv
 refine va rfl rfl ?_
 refine nt hQ19 ?_
 clear hQ19 Q19
 refine sr fun Q26 hQ26 => ?_
 refine RL.val (O.load sc25 rfl (Cs.adds [] ((hM.bx (i := 0) rfl)) rfl)) rfl ?_
 refine RL.val (O.nilp rfl) rfl ?_
 refine RL.val (O.fldA fl65_4 (by decide) rfl) rfl ?_
 refine RL.val (O.load sc63 rfl (Cs.adds [4] ((hC2.fut hM.chg)) rfl)) rfl ?_
 refine vm rfl rfl ?_
 refine vm rfl rfl ?_
 refine obindE hF fun cut27 hy28 hF => ?_
 refine cutNE A14 c15 (Int.toNat fromv17) 1 fun A29 c30 eA32 ec33 => ?_
 have hr31 := Rd.cutT (enc := (eI .i64)) (s := 1) (fun _ => rfl) hr16 hy28 (m := c15) (by have := hr16.cap; have := (gcut_some hy28).2.2.1; omega) (Nat.le_refl _)
 rw [← eA32, ← ec33] at hr31
 refine RL.val (v := .slice A29 (cut27).length c30) (by rw [eA32, ec33]; exact O.cutT sl63 (hM.inp hr16 Off.nil) hy28 rfl rfl rfl) rfl ?_
 refine RL.val (O.mkf rfl rfl) rfl ?_
 refine obindE hF fun y34 hx35 hF => ?_
 refine RL.call Try.func58 bd58 rfl rfl (c_slices_ContainsFunc_int_int_fmodel_Model_all_1hmodel_Model_crash_3 _ _ _ cut27 (hM.inp hr31 Off.nil) _ (hM.bx (i := 1) rfl) m4 _ (hm6.fut hM.chg) _ (hm8.fut hM.chg) _ (hm10.fut hM.chg) _ _ (hr13.chg mv_model_Entry hM.chg) _ _ (hM.inp hr16 Off.nil) _ (hC2.fut hM.chg) _ (hM.bx (i := 0) rfl) _ hx35) fun v w36 hv => ?_
 obtain ⟨rfl, hN37⟩ := hv
 replace hM := hM.call0 hN37
 refine RL.val (O.not rfl) rfl ?_
 refine va rfl rfl ?_
 refine nt hQ26 ?_
 clear hQ26 Q26
 refine KC.ret ?_
 have hE := Option.some.inj hF
 clear hF
 subst hE
 replace hM := hM.pick [] rfl (by decide)
 refine KQ.rets Try.results39 (RVs.cons (RV.tm rfl) RVs.nil) ?_
 exact ⟨_, rfl, rfl, hM⟩
end Go.Proofs.Ytidbgejnkpoeeaa
