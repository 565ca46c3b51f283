/- Printed by a program of this claim: each call returns what the plain function of its name gives. -/
import Derived.Test.YtikjomacnbemhaaW9
set_option linter.unusedVariables false
namespace Go.Proofs.Ytikjomacnbemhaa
open Go Go.Ox Go.RowKit
set_option maxRecDepth 100000 in
set_option maxHeartbeats 40000000 in
theorem c_ipsix_Same (w : World) (av1 : T_ipsix_Chain) (A2 : Option Addr) (c3 : Nat) (hr4 : RdD R_ipsix_Ext [] w A2 c3 2 av1.f_Exts) (b5 : T_ipsix_Chain) (A6 : Option Addr) (c7 : Nat) (hr8 : RdD R_ipsix_Ext [] w A6 c7 2 b5.f_Exts) (r : Bool) (hF : F_ipsix_Same av1 b5 = some r) :
    CallsR Try.prog 18 [.agg #[.slice A2 (av1.f_Exts).length c3, .int .u8 av1.f_Proto], .agg #[.slice A6 (b5.f_Exts).length c7, .int .u8 b5.f_Proto]] w (fun v w' => v = .bool r ∧ Mem w [] w' []) := by
  refine calls_KC Try.func18 rfl Try.ntmps18 rfl ?_
  have hM := Mem.init w
  unfold F_ipsix_Same at hF
  refine KC.seq ?_
  refine KC.region ?_
  refine RL.eff (E.box (vs := [.slice A2 (av1.f_Exts).length c3, .int .u8 av1.f_Proto]) hM rfl rfl) rfl fun v w10 hv => ?_
  clear hM
  obtain ⟨g9, rfl, hM, hf⟩ := hv
  refine RL.eff (E.box (vs := [.slice A6 (b5.f_Exts).length c7, .int .u8 b5.f_Proto]) hM rfl rfl) rfl fun v w13 hv => ?_
  clear hM
  obtain ⟨g12, rfl, hM, hf⟩ := hv
  refine RL.val (O.assign rfl) rfl ?_
  refine RL.nil ?_
  refine KQ.then_n ?_
  refine KC.seq ?_
  refine KC.region ?_
  refine RL.val (O.assign rfl) rfl ?_
  refine RL.nil ?_
  refine KQ.then_n ?_
  refine KC.cut (fun a w20 => ∃ (t19 : Bool), Kn 19 [(4, .bool t19)] a ∧ Mem w [] w20 [] ∧ F_ipsix_Same_j1 t19 = some r) ?_ ?_
  · refine KC.region ?_
    refine RL.val (O.fldA fl24_1 (by decide) rfl) rfl ?_
    refine RL.val (O.load sc5 rfl (Cs.adds [1] ((hM.bx (i := 0) rfl)) rfl)) rfl ?_
    refine RL.val (O.fldA fl24_1 (by decide) rfl) rfl ?_
    refine RL.val (O.load sc5 rfl (Cs.adds [1] ((hM.bx (i := 1) rfl)) rfl)) rfl ?_
    refine RL.val (O.eql rfl rfl) rfl ?_
    refine RL.val (O.move rfl) rfl ?_
    refine RL.bcase (t := 11) rfl (fun hc => ?_) (fun hc => ?_)
    · rw [if_pos hc] at hF
      refine RL.gval rfl rfl (O.fldA fl24_0 (by decide) rfl) rfl ?_
      refine RL.gval rfl rfl (O.load sc22 rfl (Cs.adds [0] ((hM.bx (i := 0) rfl)) rfl)) rfl ?_
      refine RL.gval rfl rfl (O.fldA fl24_0 (by decide) rfl) rfl ?_
      refine RL.gval rfl rfl (O.load sc22 rfl (Cs.adds [0] ((hM.bx (i := 1) rfl)) rfl)) rfl ?_
      refine RL.gval rfl rfl (O.move rfl) rfl ?_
      obtain ⟨y15, hx16, hF⟩ := obind hF
      refine RL.gcall rfl rfl Try.func47 bd47 rfl rfl (c_slices_EqualFunc_ipsix_Ext_ipsix_Ext_ipsix_Ext_ipsix_Ext_fipsix_Same_1 _ _ _ av1.f_Exts (hr4.chg mv_ipsix_Ext hM.chg) _ _ b5.f_Exts (hr8.chg mv_ipsix_Ext hM.chg) _ hx16) fun v w17 hv => ?_
      obtain ⟨rfl, hN18⟩ := hv
      replace hM := hM.call0 hN18
      refine RL.val (O.pickt rfl rfl) rfl ?_
      refine RL.val (O.assign rfl) rfl ?_
      refine RL.nil ?_
      refine KQ.then_k ?_
      replace hM := hM.pick [] rfl (by decide)
      exact fun a ha => ⟨y15, ha.less (less_cons rfl less_nil), hM, hF⟩
    · rw [if_neg (ne_true hc)] at hF
      refine RL.brun1 7 18 false (by kernel_rfl) ?_
      refine RL.val (O.assign rfl) rfl ?_
      refine RL.nil ?_
      refine KQ.then_k ?_
      replace hM := hM.pick [] rfl (by decide)
      exact fun a ha => ⟨false, ha.less (less_cons rfl less_nil), hM, hF⟩
  · rintro a w20 ⟨t19, ha, hM, hF⟩
    refine KC.app ha ?_
    clear ha
    unfold F_ipsix_Same_j1 at hF
    refine KC.ret ?_
    obtain rfl := Option.some.inj hF
    refine KQ.rets Try.results18 (RVs.cons (RV.tm rfl) RVs.nil) ?_
    exact ⟨_, rfl, rfl, hM⟩
end Go.Proofs.Ytikjomacnbemhaa
