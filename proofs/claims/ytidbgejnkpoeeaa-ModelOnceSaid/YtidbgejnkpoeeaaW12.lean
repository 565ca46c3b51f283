/- Printed by a program of this claim: each call returns what the plain function of its name gives. -/
import Derived.Test.YtidbgejnkpoeeaaW1
set_option linter.unusedVariables false
namespace Go.Proofs.Ytidbgejnkpoeeaa
open Go Go.Ox Go.RowKit
set_option maxRecDepth 100000 in
set_option maxHeartbeats 40000000 in
theorem c_slices_Clone_int_int (w : World) (A2 : Option Addr) (c3 : Nat) (s1 : List Int) (hr4 : Rd w A2 c3 1 s1.length (s1.flatMap (eI .i64))) (r : (List Int)) (hF : F_slices_Clone_int_int s1 = some r) :
  CallsR Try.prog 35 [.slice A2 (s1).length c3] w (fun v w' => ∃ (Ar0 : Option Addr) (cr0 : Nat), v = .slice Ar0 (r).length cr0 ∧ Mem w [] w' [.row Ar0 cr0 3 1 r.length (r.flatMap (eI .i64))]) := by
 refine calls_KC Try.func35 rfl Try.ntmps35 rfl ?_
 have hM := Mem.init w
 unfold F_slices_Clone_int_int at hF
 refine sr fun Q5 hQ5 => ?_
 refine va rfl rfl ?_
 refine nt hQ5 ?_
 clear hQ5 Q5
 refine KC.seqH fun Q6 hQ6 => ?_
 refine sr fun Q7 hQ7 => ?_
 refine vm rfl rfl ?_
 refine RL.val (O.sleqn sl63 rfl rfl) rfl ?_
 refine nt hQ7 ?_
 clear hQ7 Q7
 refine KC.cond rfl (fun hc => ?_) (fun hc => ?_)
 ·have hz8 := Rd.none_nil (hM.inp hr4 Off.nil) (hc)
  have hF : (some ([])) = some r := by (rw [hz8] at hF; simpa [lim] using hF)
  refine sr fun Q9 hQ9 => ?_
  refine va rfl rfl ?_
  refine nt hQ9 ?_
  clear hQ9 Q9
  refine KC.ret ?_
  refine KQ.thr hQ6 ?_
  clear hQ6 Q6
  have hE := Option.some.inj hF
  clear hF
  subst hE
  replace hM := hM.nilrow 3 1
  refine KQ.rets Try.results35 (RVs.cons (RV.tm rfl) RVs.nil) ?_
  exact ⟨_, rfl, none, 0, rfl, hM⟩
 refine KC.skip ?_
 refine KQ.thn hQ6 ?_
 clear hQ6 Q6
 refine sr fun Q10 hQ10 => ?_
 refine RL.eff (E.bsl0 hM sl63) rfl fun v w11 hv => ?_
 clear hM
 obtain ⟨A12, rfl, hM, hf⟩ := hv
 refine vm rfl rfl ?_
 refine cut_someE hF fun hq17 hF => ?_
 refine RL.eff (E.app (enc := (eI .i64)) (xs := ([] : List Int)) (ys := s1) (j := 0) hM rfl sl63 ze3 rfl rfl rfl rfl rfl (hM.inp hr4 Off.nil) (fun _ => One.all rfl) (of_decide_eq_true hq17)) rfl fun v w16 hv => ?_
 clear hM
 obtain ⟨A14, c15, rfl, hM, hf⟩ := hv
 refine va rfl rfl ?_
 refine nt hQ10 ?_
 clear hQ10 Q10
 refine KC.ret ?_
 have hE := Option.some.inj hF
 clear hF
 subst hE
 refine KQ.rets Try.results35 (RVs.cons (RV.tm rfl) RVs.nil) ?_
 exact ⟨_, rfl, A14, c15, rfl, hM⟩
end Go.Proofs.Ytidbgejnkpoeeaa
