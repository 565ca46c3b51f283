/- Printed by a program of this claim: each call returns what the plain function of its name gives. -/
import Derived.Test.YtcinagdkkclapaaW1
set_option linter.unusedVariables false
namespace Go.Proofs.Ytcinagdkkclapaa
open Go Go.Ox Go.RowKit
set_option maxRecDepth 100000 in
set_option maxHeartbeats 40000000 in
theorem c_ref01_Get (w : World) (A2 : Option Addr) (c3 : Nat) (b1 : List Int) (hr4 : Rd w A2 c3 1 b1.length (b1.flatMap (eI .u8))) (atv5 : Int) (size6 : Int) (r : Int × Int) (hF : F_ref01_Get b1 atv5 size6 = some r) :
  CallsR Try.prog 64 [.slice A2 (b1).length c3, vI atv5, vI size6] w (fun v w' => v = .tuple #[v64 r.1, vI r.2] ∧ Mem w [] w' []) := by
 refine calls_KC Try.func64 rfl Try.ntmps64 rfl ?_
 have hM := Mem.init w
 unfold F_ref01_Get at hF
 refine sr fun Q7 hQ7 => ?_
 refine va rfl rfl ?_
 refine va rfl rfl ?_
 refine nt hQ7 ?_
 clear hQ7 Q7
 refine KC.seqH fun Q8 hQ8 => ?_
 refine KC.cut (fun a w10 => ∃ (t9 : Bool), Kn 48 [(0, .slice A2 (b1).length c3), (1, vI atv5), (2, vI size6), (19, vB t9)] a ∧ Mem w [] w10 [] ∧ F_ref01_Get_j1 b1 atv5 size6 t9 = some r) ?_ ?_
 ·refine KC.region ?_
  refine vm rfl rfl ?_
  refine RL.val (O.lss rfl rfl) rfl ?_
  refine vm rfl rfl ?_
  refine RL.bcase (t := 12) rfl (fun hc => ?_) (fun hc => ?_)
  ·rw [if_pos hc] at hF
   refine RL.brun1 7 19 true (by kernel_rfl) ?_
   refine RL.nil ?_
   refine KQ.then_k ?_
   exact fun a ha => ⟨true, ha.less (less_cons rfl (less_cons rfl (less_cons rfl (less_cons rfl less_nil)))), hM, hF⟩
  rw [if_neg (ne_true hc)] at hF
  refine RL.gval rfl rfl (O.move rfl) rfl ?_
  refine RL.gval rfl rfl (O.gtr rfl rfl) rfl ?_
  refine RL.val (O.pickf rfl rfl) rfl ?_
  refine vm rfl rfl ?_
  refine RL.bcase (t := 16) rfl (fun hc => ?_) (fun hc => ?_)
  ·rw [if_pos hc] at hF
   refine RL.gskip rfl rfl rfl rfl ?_
   refine RL.gskip rfl rfl rfl rfl ?_
   refine RL.val (O.pickt rfl rfl) rfl ?_
   refine RL.nil ?_
   refine KQ.then_k ?_
   exact fun a ha => ⟨true, ha.less (less_cons rfl (less_cons rfl (less_cons rfl (less_cons rfl less_nil)))), hM, hF⟩
  rw [if_neg (ne_true hc)] at hF
  refine RL.gval rfl rfl (O.move rfl) rfl ?_
  refine RL.gval rfl rfl (O.lss rfl rfl) rfl ?_
  refine RL.val (O.pickf rfl rfl) rfl ?_
  refine RL.nil ?_
  refine KQ.then_k ?_
  exact fun a ha => ⟨(decide (atv5 < 0)), ha.less (less_cons rfl (less_cons rfl (less_cons rfl (less_cons rfl less_nil)))), hM, hF⟩
 rintro a w10 ⟨t9, ha, hM, hF⟩
 refine KC.app ha ?_
 clear ha
 unfold F_ref01_Get_j1 at hF
 refine KC.cond rfl (fun hc => ?_) (fun hc => ?_)
 ·rw [if_pos hc] at hF
  refine sr fun Q11 hQ11 => ?_
  refine va rfl rfl ?_
  refine va rfl rfl ?_
  refine nt hQ11 ?_
  clear hQ11 Q11
  refine KC.ret ?_
  refine KQ.thr hQ8 ?_
  clear hQ8 Q8
  have hE := Option.some.inj hF
  clear hF
  subst hE
  refine KQ.rets Try.results64 (RVs.cons (RV.tm rfl) (RVs.cons (RV.tm rfl) RVs.nil)) ?_
  exact ⟨_, rfl, rfl, hM⟩
 rw [if_neg (ne_true hc)] at hF
 refine KC.skip ?_
 refine KQ.thn hQ8 ?_
 clear hQ8 Q8
 refine sr fun Q12 hQ12 => ?_
 refine va rfl rfl ?_
 refine nt hQ12 ?_
 clear hQ12 Q12
 refine KC.seqH fun Q13 hQ13 => ?_
 refine sr fun Q14 hQ14 => ?_
 refine va rfl rfl ?_
 refine nt hQ14 ?_
 clear hQ14 Q14
 refine KC.block ?_
 refine KC.loop (fun k41 a w39 => ∃ (v37 : Int) (i38 : Int), Kn 48 [(0, .slice A2 (b1).length c3), (1, vI atv5), (2, vI size6), (8, v64 v37), (9, vI i38)] a ∧ Mem w [] w39 [] ∧ F_ref01_Get_L1 b1 atv5 size6 k41 v37 i38 = some r) ?_ ?_
 ·exact fun a ha => ⟨fuel0, 0, 0, ha.less (less_cons rfl (less_cons rfl (less_cons rfl (less_cons rfl (less_cons rfl less_nil))))), hM, hF⟩
 rintro k41 a w39 ⟨v37, i38, ha, hM, hF⟩
 refine KC.app ha ?_
 clear ha
 cases k41 with
 | zero => exact (none_some hF).elim
 | succ k41 =>
 have hF : F_ref01_Get_l1 (F_ref01_Get_L1 b1 atv5 size6 k41) b1 atv5 size6 v37 i38 = some r := hF
 unfold F_ref01_Get_l1 at hF
 refine KC.seqH fun Q42 hQ42 => ?_
 refine sr fun Q43 hQ43 => ?_
 refine vm rfl rfl ?_
 refine vm rfl rfl ?_
 refine RL.val (O.lss rfl rfl) rfl ?_
 refine nt hQ43 ?_
 clear hQ43 Q43
 refine KC.cond rfl (fun hc => ?_) (fun hc => ?_)
 ·rw [if_pos hc] at hF
  refine KC.skip ?_
  refine KQ.thn hQ42 ?_
  clear hQ42 Q42
  refine KC.seqH fun Q44 hQ44 => ?_
  refine KC.block ?_
  refine KC.seqH fun Q45 hQ45 => ?_
  refine KC.cut (fun a w47 => ∃ (t46 : Bool), Kn 48 [(0, .slice A2 (b1).length c3), (1, vI atv5), (2, vI size6), (8, v64 v37), (9, vI i38), (36, vB t46)] a ∧ Mem w [] w47 [] ∧ F_ref01_Get_j2 b1 atv5 v37 i38 (F_ref01_Get_L1 b1 atv5 size6 k41) t46 = some r) ?_ ?_
  ·refine KC.region ?_
   refine vm rfl rfl ?_
   refine vm rfl rfl ?_
   refine RL.val (O.len sl24 rfl) rfl ?_
   refine RL.val (O.gtr rfl rfl) rfl ?_
   refine vm rfl rfl ?_
   refine RL.bcase (t := 29) rfl (fun hc => ?_) (fun hc => ?_)
   ·rw [if_pos hc] at hF
    refine RL.gskip rfl rfl rfl rfl ?_
    refine RL.gskip rfl rfl rfl rfl ?_
    refine RL.gskip rfl rfl rfl rfl ?_
    refine RL.gskip rfl rfl rfl rfl ?_
    refine RL.gskip rfl rfl rfl rfl ?_
    refine RL.gskip rfl rfl rfl rfl ?_
    refine RL.val (O.pickt rfl rfl) rfl ?_
    refine RL.nil ?_
    refine KQ.then_k ?_
    exact fun a ha => ⟨true, ha.less (less_cons rfl (less_cons rfl (less_cons rfl (less_cons rfl (less_cons rfl (less_cons rfl less_nil)))))), hM, hF⟩
   rw [if_neg (ne_true hc)] at hF
   refine RL.gval rfl rfl (O.move rfl) rfl ?_
   refine RL.gval rfl rfl (O.move rfl) rfl ?_
   refine RL.gval rfl rfl (O.add rfl rfl) rfl ?_
   refine RL.gval rfl rfl (O.move rfl) rfl ?_
   refine RL.gval rfl rfl (O.len sl24 rfl) rfl ?_
   refine RL.gval rfl rfl (O.geq rfl rfl) rfl ?_
   refine RL.val (O.pickf rfl rfl) rfl ?_
   refine RL.nil ?_
   refine KQ.then_k ?_
   exact fun a ha => ⟨(decide ((b1.length : Int) ≤ (IntKind.i64.wrap (atv5 + i38)))), ha.less (less_cons rfl (less_cons rfl (less_cons rfl (less_cons rfl (less_cons rfl (less_cons rfl less_nil)))))), hM, hF⟩
  rintro a w47 ⟨t46, ha, hM, hF⟩
  refine KC.app ha ?_
  clear ha
  unfold F_ref01_Get_j2 at hF
  refine KC.cond rfl (fun hc => ?_) (fun hc => ?_)
  ·rw [if_pos hc] at hF
   refine sr fun Q48 hQ48 => ?_
   refine va rfl rfl ?_
   refine va rfl rfl ?_
   refine nt hQ48 ?_
   clear hQ48 Q48
   refine KC.ret ?_
   refine KQ.thr hQ45 ?_
   clear hQ45 Q45
   refine KQ.blk_r ?_
   refine KQ.thr hQ44 ?_
   clear hQ44 Q44
   refine KQ.then_r ?_
   refine KQ.blk_r ?_
   refine KQ.thr hQ13 ?_
   clear hQ13 Q13
   have hE := Option.some.inj hF
   clear hF
   subst hE
   refine KQ.rets Try.results64 (RVs.cons (RV.tm rfl) (RVs.cons (RV.tm rfl) RVs.nil)) ?_
   exact ⟨_, rfl, rfl, hM⟩
  rw [if_neg (ne_true hc)] at hF
  refine KC.skip ?_
  refine KQ.thn hQ45 ?_
  clear hQ45 Q45
  refine KC.region ?_
  refine vm rfl rfl ?_
  refine RL.val (O.mul rfl rfl) rfl ?_
  refine vm rfl rfl ?_
  refine vm rfl rfl ?_
  refine vm rfl rfl ?_
  refine RL.val (O.add rfl rfl) rfl ?_
  refine obindE hF fun xv51 hx50 hF => ?_
  have hA49 := Rd.atN (f := (eI .u8)) (s := 1) (fun _ => rfl) (by decide) (hM.inp hr4 Off.nil) hx50
  refine RL.val (O.idxA sl24 (hA49) rfl rfl) rfl ?_
  refine RL.val (O.load sc5 rfl (hA49).cells.at0) rfl ?_
  refine RL.val (O.conv un5 Try.underlying76 rfl) rfl ?_
  refine RL.val (O.add rfl rfl) rfl ?_
  refine va rfl rfl ?_
  refine RL.nil ?_
  refine KQ.blk_n ?_
  refine KQ.thn hQ44 ?_
  clear hQ44 Q44
  refine KC.region ?_
  refine vm rfl rfl ?_
  refine RL.val (O.add rfl rfl) rfl ?_
  refine va rfl rfl ?_
  refine RL.nil ?_
  refine KQ.then_k ?_
  exact fun a ha => ⟨k41, Nat.lt_succ_self k41, (IntKind.u64.wrap ((IntKind.u64.wrap (v37 * 256)) + (IntKind.u64.wrap xv51))), (IntKind.i64.wrap (i38 + 1)), ha.less (less_cons rfl (less_cons rfl (less_cons rfl (less_cons rfl (less_cons rfl less_nil))))), hM, hF⟩
 rw [if_neg (ne_true hc)] at hF
 refine KC.exit ?_
 refine KQ.thx hQ42 ?_
 clear hQ42 Q42
 refine KQ.then_x ?_
 refine KQ.blk_x ?_
 refine KQ.thn hQ13 ?_
 clear hQ13 Q13
 refine sr fun Q52 hQ52 => ?_
 refine vm rfl rfl ?_
 refine va rfl rfl ?_
 refine va rfl rfl ?_
 refine nt hQ52 ?_
 clear hQ52 Q52
 refine KC.ret ?_
 have hE := Option.some.inj hF
 clear hF
 subst hE
 refine KQ.rets Try.results64 (RVs.cons (RV.tm rfl) (RVs.cons (RV.tm rfl) RVs.nil)) ?_
 exact ⟨_, rfl, rfl, hM⟩
set_option maxRecDepth 100000 in
set_option maxHeartbeats 40000000 in
theorem c_ref07_number (w : World) (b1 : ByteArray) (atv2 : Int) (size3 : Int) (r : Int) (hF : F_ref07_number b1 atv2 size3 = some r) :
  CallsR Try.prog 38 [Value.string b1, vI atv2, vI size3] w (fun v w' => v = v64 r ∧ Mem w [] w' []) := by
 refine calls_KC Try.func38 rfl Try.ntmps38 rfl ?_
 have hM := Mem.init w
 unfold F_ref07_number at hF
 refine sr fun Q4 hQ4 => ?_
 refine va rfl rfl ?_
 refine nt hQ4 ?_
 clear hQ4 Q4
 refine sr fun Q5 hQ5 => ?_
 refine vm rfl rfl ?_
 refine cut_someE hF fun hq9 hF => ?_
 refine RL.eff (E.s2b hM Try.underlying9 sl24 Try.underlying5 rfl (of_decide_eq_true hq9)) rfl fun v w8 hv => ?_
 clear hM
 obtain ⟨A6, c7, Z10, rfl, hM, hf⟩ := hv
 refine vm rfl rfl ?_
 refine vm rfl rfl ?_
 refine obindE hF fun y12 hx13 hF => ?_
 refine RL.call Try.func64 bd64 rfl rfl (c_ref01_Get _ _ _ (numsOfStr b1) (hM.rdP (i := 0) rfl) atv2 size3 _ hx13) fun v w14 hv => ?_
 obtain ⟨rfl, hN15⟩ := hv
 replace hM := hM.call0 hN15
 refine vm rfl rfl ?_
 refine RL.val (O.ext rfl rfl) rfl ?_
 refine RL.val (O.ext rfl rfl) rfl ?_
 refine va rfl rfl ?_
 refine va rfl rfl ?_
 refine nt hQ5 ?_
 clear hQ5 Q5
 refine sr fun Q16 hQ16 => ?_
 refine vm rfl rfl ?_
 refine va rfl rfl ?_
 refine nt hQ16 ?_
 clear hQ16 Q16
 refine KC.ret ?_
 have hE := Option.some.inj hF
 clear hF
 subst hE
 replace hM := hM.pick [] rfl (by decide)
 refine KQ.rets Try.results38 (RVs.cons (RV.tm rfl) RVs.nil) ?_
 exact ⟨_, rfl, rfl, hM⟩
end Go.Proofs.Ytcinagdkkclapaa
