/- Printed by a program of this claim: each call returns what the plain function of its name gives. -/
import Derived.Test.YtkpnocgfhipidaaW1
set_option linter.unusedVariables false
namespace Go.Proofs.Ytkpnocgfhipidaa
open Go Go.Ox Go.RowKit
set_option maxRecDepth 100000 in
set_option maxHeartbeats 40000000 in
theorem c_cache_seen (w : World) (p1 : T_packet_Packet) (r : Bool) (hF : F_cache_seen p1 = some r) :
  CallsR Try.prog 29 [.agg #[vB p1.f_Key.f_Src.f_Six, o8 p1.f_Key.f_Src.f_B 0, o8 p1.f_Key.f_Src.f_B 1, o8 p1.f_Key.f_Src.f_B 2, o8 p1.f_Key.f_Src.f_B 3, o8 p1.f_Key.f_Src.f_B 4, o8 p1.f_Key.f_Src.f_B 5, o8 p1.f_Key.f_Src.f_B 6, o8 p1.f_Key.f_Src.f_B 7, o8 p1.f_Key.f_Src.f_B 8, o8 p1.f_Key.f_Src.f_B 9, o8 p1.f_Key.f_Src.f_B 10, o8 p1.f_Key.f_Src.f_B 11, o8 p1.f_Key.f_Src.f_B 12, o8 p1.f_Key.f_Src.f_B 13, o8 p1.f_Key.f_Src.f_B 14, o8 p1.f_Key.f_Src.f_B 15, vB p1.f_Key.f_Dst.f_Six, o8 p1.f_Key.f_Dst.f_B 0, o8 p1.f_Key.f_Dst.f_B 1, o8 p1.f_Key.f_Dst.f_B 2, o8 p1.f_Key.f_Dst.f_B 3, o8 p1.f_Key.f_Dst.f_B 4, o8 p1.f_Key.f_Dst.f_B 5, o8 p1.f_Key.f_Dst.f_B 6, o8 p1.f_Key.f_Dst.f_B 7, o8 p1.f_Key.f_Dst.f_B 8, o8 p1.f_Key.f_Dst.f_B 9, o8 p1.f_Key.f_Dst.f_B 10, o8 p1.f_Key.f_Dst.f_B 11, o8 p1.f_Key.f_Dst.f_B 12, o8 p1.f_Key.f_Dst.f_B 13, o8 p1.f_Key.f_Dst.f_B 14, o8 p1.f_Key.f_Dst.f_B 15, v8 p1.f_Key.f_Proto, v16 p1.f_Key.f_SrcPort, v16 p1.f_Key.f_DstPort, vI p1.f_Length, v8 p1.f_Flags, vB p1.f_Fragment]] w (fun v w' => v = vB r ∧ Mem w [] w' []) := by
 refine calls_KC Try.func29 rfl Try.ntmps29 rfl ?_
 have hM := Mem.init w
 unfold F_cache_seen at hF
 refine sr fun Q2 hQ2 => ?_
 refine RL.eff (E.box (vs := [vB p1.f_Key.f_Src.f_Six, o8 p1.f_Key.f_Src.f_B 0, o8 p1.f_Key.f_Src.f_B 1, o8 p1.f_Key.f_Src.f_B 2, o8 p1.f_Key.f_Src.f_B 3, o8 p1.f_Key.f_Src.f_B 4, o8 p1.f_Key.f_Src.f_B 5, o8 p1.f_Key.f_Src.f_B 6, o8 p1.f_Key.f_Src.f_B 7, o8 p1.f_Key.f_Src.f_B 8, o8 p1.f_Key.f_Src.f_B 9, o8 p1.f_Key.f_Src.f_B 10, o8 p1.f_Key.f_Src.f_B 11, o8 p1.f_Key.f_Src.f_B 12, o8 p1.f_Key.f_Src.f_B 13, o8 p1.f_Key.f_Src.f_B 14, o8 p1.f_Key.f_Src.f_B 15, vB p1.f_Key.f_Dst.f_Six, o8 p1.f_Key.f_Dst.f_B 0, o8 p1.f_Key.f_Dst.f_B 1, o8 p1.f_Key.f_Dst.f_B 2, o8 p1.f_Key.f_Dst.f_B 3, o8 p1.f_Key.f_Dst.f_B 4, o8 p1.f_Key.f_Dst.f_B 5, o8 p1.f_Key.f_Dst.f_B 6, o8 p1.f_Key.f_Dst.f_B 7, o8 p1.f_Key.f_Dst.f_B 8, o8 p1.f_Key.f_Dst.f_B 9, o8 p1.f_Key.f_Dst.f_B 10, o8 p1.f_Key.f_Dst.f_B 11, o8 p1.f_Key.f_Dst.f_B 12, o8 p1.f_Key.f_Dst.f_B 13, o8 p1.f_Key.f_Dst.f_B 14, o8 p1.f_Key.f_Dst.f_B 15, v8 p1.f_Key.f_Proto, v16 p1.f_Key.f_SrcPort, v16 p1.f_Key.f_DstPort, vI p1.f_Length, v8 p1.f_Flags, vB p1.f_Fragment]) hM rfl rfl) rfl fun v w4 hv => ?_
 clear hM
 obtain ⟨g3, rfl, hM, hf⟩ := hv
 refine va rfl rfl ?_
 refine nt hQ2 ?_
 clear hQ2 Q2
 refine KC.cut (fun a w7 => ∃ (t6 : Bool), Kn 18 [(2, vB t6)] a ∧ Mem w [] w7 [] ∧ F_cache_seen_j1 t6 = some r) ?_ ?_
 ·refine KC.region ?_
  refine RL.val (O.fldA fl38_0 (by decide) rfl) rfl ?_
  refine RL.val (O.fldA fl36_2 (by decide) rfl) rfl ?_
  refine RL.val (O.load sc5 rfl (Cs.adds [0, 34] ((hM.bx (i := 0) rfl)) rfl)) rfl ?_
  refine RL.val (O.eql rfl rfl) rfl ?_
  refine vm rfl rfl ?_
  refine RL.bcase (t := 7) rfl (fun hc => ?_) (fun hc => ?_)
  ·rw [if_pos hc] at hF
   refine RL.gval rfl rfl (O.fldA fl38_3 (by decide) rfl) rfl ?_
   refine RL.gval rfl rfl (O.load sc4 rfl (Cs.adds [39] ((hM.bx (i := 0) rfl)) rfl)) rfl ?_
   refine RL.gval rfl rfl (O.not rfl) rfl ?_
   refine RL.val (O.pickt rfl rfl) rfl ?_
   refine vm rfl rfl ?_
   refine RL.bcase (t := 12) rfl (fun hc => ?_) (fun hc => ?_)
   ·rw [if_pos hc] at hF
    refine RL.gval rfl rfl (O.fldA fl38_2 (by decide) rfl) rfl ?_
    refine RL.gval rfl rfl (O.load sc5 rfl (Cs.adds [38] ((hM.bx (i := 0) rfl)) rfl)) rfl ?_
    refine RL.gval rfl rfl (O.and rfl rfl) rfl ?_
    refine RL.gval rfl rfl (O.gtr rfl rfl) rfl ?_
    refine RL.val (O.pickt rfl rfl) rfl ?_
    refine va rfl rfl ?_
    refine RL.nil ?_
    refine KQ.then_k ?_
    replace hM := hM.pick [] rfl (by decide)
    exact fun a ha => ⟨(decide (0 < (bits .and .u8 p1.f_Flags 5))), ha.less (less_cons rfl less_nil), hM, hF⟩
   rw [if_neg (ne_true hc)] at hF
   refine RL.brun1 5 17 false (by kernel_rfl) ?_
   refine va rfl rfl ?_
   refine RL.nil ?_
   refine KQ.then_k ?_
   replace hM := hM.pick [] rfl (by decide)
   exact fun a ha => ⟨false, ha.less (less_cons rfl less_nil), hM, hF⟩
  rw [if_neg (ne_true hc)] at hF
  refine RL.brun1 10 17 false (by kernel_rfl) ?_
  refine va rfl rfl ?_
  refine RL.nil ?_
  refine KQ.then_k ?_
  replace hM := hM.pick [] rfl (by decide)
  exact fun a ha => ⟨false, ha.less (less_cons rfl less_nil), hM, hF⟩
 rintro a w7 ⟨t6, ha, hM, hF⟩
 refine KC.app ha ?_
 clear ha
 unfold F_cache_seen_j1 at hF
 refine KC.ret ?_
 have hE := Option.some.inj hF
 clear hF
 subst hE
 refine KQ.rets Try.results29 (RVs.cons (RV.tm rfl) RVs.nil) ?_
 exact ⟨_, rfl, rfl, hM⟩
end Go.Proofs.Ytkpnocgfhipidaa
