/- Printed by a program of this claim: each call returns what the plain function of its name gives. -/
import Derived.Test.YtkpnocgfhipidaaW1
import Derived.Test.YtkpnocgfhipidaaW2
import Derived.Test.YtkpnocgfhipidaaW13
import Derived.Test.YtkpnocgfhipidaaW20
import Derived.Test.YtkpnocgfhipidaaW22
set_option linter.unusedVariables false
namespace Go.Proofs.Ytkpnocgfhipidaa
open Go Go.Ox Go.RowKit
set_option maxRecDepth 100000 in
set_option maxHeartbeats 40000000 in
theorem c_law24_CacheTicks (w : World) (b1 : T_cache_Bounds) (A3 : Option Addr) (c4 : Nat) (lv2 : List T_law24_Act) (hr5 : Rd w A3 c4 43 lv2.length (lv2.flatMap e_law24_Act)) (ticks6 : Int) (r : Bool) (hF : F_law24_CacheTicks b1 lv2 ticks6 = some r) :
  CallsR Try.prog 3 [.agg #[vI b1.f_Flows, v64 b1.f_Idle, v64 b1.f_Active, v64 b1.f_Packets, v64 b1.f_Bytes], .slice A3 (lv2).length c4, v8 ticks6] w (fun v w' => v = vB r ∧ Mem w [] w' []) := by
 refine calls_KC Try.func3 rfl Try.ntmps3 rfl ?_
 have hM := Mem.init w
 unfold F_law24_CacheTicks at hF
 refine sr fun Q7 hQ7 => ?_
 refine RL.eff (E.box (vs := [vI b1.f_Flows, v64 b1.f_Idle, v64 b1.f_Active, v64 b1.f_Packets, v64 b1.f_Bytes]) hM rfl rfl) rfl fun v w9 hv => ?_
 clear hM
 obtain ⟨g8, rfl, hM, hf⟩ := hv
 refine va rfl rfl ?_
 refine nt hQ7 ?_
 clear hQ7 Q7
 refine KC.seqH fun Q11 hQ11 => ?_
 refine sr fun Q12 hQ12 => ?_
 refine vm rfl rfl ?_
 refine RL.val (O.len sl25 rfl) rfl ?_
 refine RL.val (O.gtr rfl rfl) rfl ?_
 refine nt hQ12 ?_
 clear hQ12 Q12
 refine KC.cond rfl (fun hc => ?_) (fun hc => ?_)
 ·rw [if_pos hc] at hF
  refine sr fun Q13 hQ13 => ?_
  refine obindE hF fun y14 hx15 hF => ?_
  refine RL.call Try.func6 bd6 rfl rfl (c_law24_works _ _ hx15) fun v w16 hv => ?_
  obtain ⟨rfl, hN17⟩ := hv
  replace hM := hM.call0 hN17
  refine va rfl rfl ?_
  refine nt hQ13 ?_
  clear hQ13 Q13
  refine KC.ret ?_
  refine KQ.thr hQ11 ?_
  clear hQ11 Q11
  have hE := Option.some.inj hF
  clear hF
  subst hE
  replace hM := hM.pick [] rfl (by decide)
  refine KQ.rets Try.results3 (RVs.cons (RV.tm rfl) RVs.nil) ?_
  exact ⟨_, rfl, rfl, hM⟩
 rw [if_neg (ne_true hc)] at hF
 refine KC.skip ?_
 refine KQ.thn hQ11 ?_
 clear hQ11 Q11
 refine sr fun Q18 hQ18 => ?_
 refine RL.val (O.loadN (cs := [vI b1.f_Flows, v64 b1.f_Idle, v64 b1.f_Active, v64 b1.f_Packets, v64 b1.f_Bytes]) ag24 rfl (Cs.addsN [] ((hM.bx (i := 0) rfl)) rfl)) rfl ?_
 refine RL.icall Try.func7 bd7 rfl rfl rfl Try.ntmps7 rfl ?_
 refine sr fun Q19 hQ19 => ?_
 refine RL.eff (E.box (vs := [vI b1.f_Flows, v64 b1.f_Idle, v64 b1.f_Active, v64 b1.f_Packets, v64 b1.f_Bytes]) hM rfl rfl) rfl fun v w21 hv => ?_
 clear hM
 obtain ⟨g20, rfl, hM, hf⟩ := hv
 refine va rfl rfl ?_
 refine va rfl rfl ?_
 refine nt hQ19 ?_
 clear hQ19 Q19
 refine KC.seqH fun Q23 hQ23 => ?_
 refine KC.cut (fun a w27 => ∃ (t25 : Bool), Kn 53 [(0, v64 0), (3, .pointer (some ⟨g20, 0, none⟩)), (35, vB t25)] a ∧ Mem w [] w27 [.box g20 24 [vI b1.f_Flows, v64 b1.f_Idle, v64 b1.f_Active, v64 b1.f_Packets, v64 b1.f_Bytes], .box g8 24 [vI b1.f_Flows, v64 b1.f_Idle, v64 b1.f_Active, v64 b1.f_Packets, v64 b1.f_Bytes]] ∧ F_law24_CacheTicks_j1 b1 lv2 ticks6 t25 = some r) ?_ ?_
 ·refine KC.region ?_
  refine RL.val (O.fldA fl24_0 (by decide) rfl) rfl ?_
  refine RL.val (O.load sc3 rfl (Cs.adds [0] ((hM.bx (i := 1) rfl)) rfl)) rfl ?_
  refine RL.val (O.lss rfl rfl) rfl ?_
  refine vm rfl rfl ?_
  refine RL.bcase (t := 11) rfl (fun hc => ?_) (fun hc => ?_)
  ·rw [if_pos hc] at hF
   refine RL.brun1 24 35 true (by kernel_rfl) ?_
   refine RL.nil ?_
   refine KQ.then_k ?_
   replace hM := hM.pick [1, 0] rfl (by decide)
   exact fun a ha => ⟨true, ha.less (less_cons rfl (less_cons rfl (less_cons rfl less_nil))), hM, hF⟩
  rw [if_neg (ne_true hc)] at hF
  refine RL.gval rfl rfl (O.fldA fl24_0 (by decide) rfl) rfl ?_
  refine RL.gval rfl rfl (O.load sc3 rfl (Cs.adds [0] ((hM.bx (i := 1) rfl)) rfl)) rfl ?_
  refine RL.gval rfl rfl (O.gtr rfl rfl) rfl ?_
  refine RL.val (O.pickf rfl rfl) rfl ?_
  refine vm rfl rfl ?_
  refine RL.bcase (t := 16) rfl (fun hc => ?_) (fun hc => ?_)
  ·rw [if_pos hc] at hF
   refine RL.brun1 19 35 true (by kernel_rfl) ?_
   refine RL.nil ?_
   refine KQ.then_k ?_
   replace hM := hM.pick [1, 0] rfl (by decide)
   exact fun a ha => ⟨true, ha.less (less_cons rfl (less_cons rfl (less_cons rfl less_nil))), hM, hF⟩
  rw [if_neg (ne_true hc)] at hF
  refine RL.gval rfl rfl (O.fldA fl24_1 (by decide) rfl) rfl ?_
  refine RL.gval rfl rfl (O.load sc22 rfl (Cs.adds [1] ((hM.bx (i := 1) rfl)) rfl)) rfl ?_
  refine RL.gval rfl rfl (O.eql rfl rfl) rfl ?_
  refine RL.val (O.pickf rfl rfl) rfl ?_
  refine vm rfl rfl ?_
  refine RL.bcase (t := 21) rfl (fun hc => ?_) (fun hc => ?_)
  ·rw [if_pos hc] at hF
   refine RL.brun1 14 35 true (by kernel_rfl) ?_
   refine RL.nil ?_
   refine KQ.then_k ?_
   replace hM := hM.pick [1, 0] rfl (by decide)
   exact fun a ha => ⟨true, ha.less (less_cons rfl (less_cons rfl (less_cons rfl less_nil))), hM, hF⟩
  rw [if_neg (ne_true hc)] at hF
  refine RL.gval rfl rfl (O.fldA fl24_2 (by decide) rfl) rfl ?_
  refine RL.gval rfl rfl (O.load sc22 rfl (Cs.adds [2] ((hM.bx (i := 1) rfl)) rfl)) rfl ?_
  refine RL.gval rfl rfl (O.eql rfl rfl) rfl ?_
  refine RL.val (O.pickf rfl rfl) rfl ?_
  refine vm rfl rfl ?_
  refine RL.bcase (t := 26) rfl (fun hc => ?_) (fun hc => ?_)
  ·rw [if_pos hc] at hF
   refine RL.brun1 9 35 true (by kernel_rfl) ?_
   refine RL.nil ?_
   refine KQ.then_k ?_
   replace hM := hM.pick [1, 0] rfl (by decide)
   exact fun a ha => ⟨true, ha.less (less_cons rfl (less_cons rfl (less_cons rfl less_nil))), hM, hF⟩
  rw [if_neg (ne_true hc)] at hF
  refine RL.gval rfl rfl (O.fldA fl24_3 (by decide) rfl) rfl ?_
  refine RL.gval rfl rfl (O.load sc22 rfl (Cs.adds [3] ((hM.bx (i := 1) rfl)) rfl)) rfl ?_
  refine RL.gval rfl rfl (O.eql rfl rfl) rfl ?_
  refine RL.val (O.pickf rfl rfl) rfl ?_
  refine vm rfl rfl ?_
  refine RL.bcase (t := 31) rfl (fun hc => ?_) (fun hc => ?_)
  ·rw [if_pos hc] at hF
   refine RL.brun1 4 35 true (by kernel_rfl) ?_
   refine RL.nil ?_
   refine KQ.then_k ?_
   replace hM := hM.pick [1, 0] rfl (by decide)
   exact fun a ha => ⟨true, ha.less (less_cons rfl (less_cons rfl (less_cons rfl less_nil))), hM, hF⟩
  rw [if_neg (ne_true hc)] at hF
  refine RL.gval rfl rfl (O.fldA fl24_4 (by decide) rfl) rfl ?_
  refine RL.gval rfl rfl (O.load sc22 rfl (Cs.adds [4] ((hM.bx (i := 1) rfl)) rfl)) rfl ?_
  refine RL.gval rfl rfl (O.eql rfl rfl) rfl ?_
  refine RL.val (O.pickf rfl rfl) rfl ?_
  refine RL.nil ?_
  refine KQ.then_k ?_
  replace hM := hM.pick [1, 0] rfl (by decide)
  exact fun a ha => ⟨(b1.f_Bytes == 0), ha.less (less_cons rfl (less_cons rfl (less_cons rfl less_nil))), hM, hF⟩
 rintro a w27 ⟨t25, ha, hM, hF⟩
 refine KC.app ha ?_
 clear ha
 unfold F_law24_CacheTicks_j1 at hF
 refine KC.cond rfl (fun hc => ?_) (fun hc => ?_)
 ·rw [if_pos hc] at hF
  refine sr fun Q28 hQ28 => ?_
  refine va rfl rfl ?_
  refine va rfl rfl ?_
  refine nt hQ28 ?_
  clear hQ28 Q28
  refine KC.ret ?_
  refine KQ.thr hQ23 ?_
  clear hQ23 Q23
  refine KQ.rets Try.results7 (RVs.cons (RV.tm rfl) (RVs.cons (RV.tm rfl) RVs.nil)) ?_
  refine ⟨.tuple #[.pointer none, vI 2], rfl, ?_⟩
  refine vm rfl rfl ?_
  refine RL.val (O.ext rfl rfl) rfl ?_
  refine RL.val (O.ext rfl rfl) rfl ?_
  refine va rfl rfl ?_
  refine va rfl rfl ?_
  refine nt hQ18 ?_
  clear hQ18 Q18
  refine sr fun Q29 hQ29 => ?_
  refine RL.val (O.loadN (cs := [vI b1.f_Flows, v64 b1.f_Idle, v64 b1.f_Active, v64 b1.f_Packets, v64 b1.f_Bytes]) ag24 rfl (Cs.addsN [] ((hM.bx (i := 1) rfl)) rfl)) rfl ?_
  refine RL.icall Try.func7 bd7 rfl rfl rfl Try.ntmps7 rfl ?_
  refine sr fun Q30 hQ30 => ?_
  refine RL.eff (E.box (vs := [vI b1.f_Flows, v64 b1.f_Idle, v64 b1.f_Active, v64 b1.f_Packets, v64 b1.f_Bytes]) hM rfl rfl) rfl fun v w32 hv => ?_
  clear hM
  obtain ⟨g31, rfl, hM, hf⟩ := hv
  refine va rfl rfl ?_
  refine va rfl rfl ?_
  refine nt hQ30 ?_
  clear hQ30 Q30
  refine KC.seqH fun Q34 hQ34 => ?_
  refine KC.cut (fun a w38 => ∃ (t36 : Bool), Kn 53 [(0, v64 0), (3, .pointer (some ⟨g31, 0, none⟩)), (35, vB t36)] a ∧ Mem w [] w38 [.box g31 24 [vI b1.f_Flows, v64 b1.f_Idle, v64 b1.f_Active, v64 b1.f_Packets, v64 b1.f_Bytes], .box g8 24 [vI b1.f_Flows, v64 b1.f_Idle, v64 b1.f_Active, v64 b1.f_Packets, v64 b1.f_Bytes]] ∧ F_law24_CacheTicks_j2 b1 t36 = some r) ?_ ?_
  ·refine KC.region ?_
   refine RL.val (O.fldA fl24_0 (by decide) rfl) rfl ?_
   refine RL.val (O.load sc3 rfl (Cs.adds [0] ((hM.bx (i := 2) rfl)) rfl)) rfl ?_
   refine RL.val (O.lss rfl rfl) rfl ?_
   refine vm rfl rfl ?_
   refine RL.bcase (t := 11) rfl (fun hc => ?_) (fun hc => ?_)
   ·rw [if_pos hc] at hF
    refine RL.brun1 24 35 true (by kernel_rfl) ?_
    refine RL.nil ?_
    refine KQ.then_k ?_
    replace hM := hM.pick [2, 1] rfl (by decide)
    exact fun a ha => ⟨true, ha.less (less_cons rfl (less_cons rfl (less_cons rfl less_nil))), hM, hF⟩
   rw [if_neg (ne_true hc)] at hF
   refine RL.gval rfl rfl (O.fldA fl24_0 (by decide) rfl) rfl ?_
   refine RL.gval rfl rfl (O.load sc3 rfl (Cs.adds [0] ((hM.bx (i := 2) rfl)) rfl)) rfl ?_
   refine RL.gval rfl rfl (O.gtr rfl rfl) rfl ?_
   refine RL.val (O.pickf rfl rfl) rfl ?_
   refine vm rfl rfl ?_
   refine RL.bcase (t := 16) rfl (fun hc => ?_) (fun hc => ?_)
   ·rw [if_pos hc] at hF
    refine RL.brun1 19 35 true (by kernel_rfl) ?_
    refine RL.nil ?_
    refine KQ.then_k ?_
    replace hM := hM.pick [2, 1] rfl (by decide)
    exact fun a ha => ⟨true, ha.less (less_cons rfl (less_cons rfl (less_cons rfl less_nil))), hM, hF⟩
   rw [if_neg (ne_true hc)] at hF
   refine RL.gval rfl rfl (O.fldA fl24_1 (by decide) rfl) rfl ?_
   refine RL.gval rfl rfl (O.load sc22 rfl (Cs.adds [1] ((hM.bx (i := 2) rfl)) rfl)) rfl ?_
   refine RL.gval rfl rfl (O.eql rfl rfl) rfl ?_
   refine RL.val (O.pickf rfl rfl) rfl ?_
   refine vm rfl rfl ?_
   refine RL.bcase (t := 21) rfl (fun hc => ?_) (fun hc => ?_)
   ·rw [if_pos hc] at hF
    refine RL.brun1 14 35 true (by kernel_rfl) ?_
    refine RL.nil ?_
    refine KQ.then_k ?_
    replace hM := hM.pick [2, 1] rfl (by decide)
    exact fun a ha => ⟨true, ha.less (less_cons rfl (less_cons rfl (less_cons rfl less_nil))), hM, hF⟩
   rw [if_neg (ne_true hc)] at hF
   refine RL.gval rfl rfl (O.fldA fl24_2 (by decide) rfl) rfl ?_
   refine RL.gval rfl rfl (O.load sc22 rfl (Cs.adds [2] ((hM.bx (i := 2) rfl)) rfl)) rfl ?_
   refine RL.gval rfl rfl (O.eql rfl rfl) rfl ?_
   refine RL.val (O.pickf rfl rfl) rfl ?_
   refine vm rfl rfl ?_
   refine RL.bcase (t := 26) rfl (fun hc => ?_) (fun hc => ?_)
   ·rw [if_pos hc] at hF
    refine RL.brun1 9 35 true (by kernel_rfl) ?_
    refine RL.nil ?_
    refine KQ.then_k ?_
    replace hM := hM.pick [2, 1] rfl (by decide)
    exact fun a ha => ⟨true, ha.less (less_cons rfl (less_cons rfl (less_cons rfl less_nil))), hM, hF⟩
   rw [if_neg (ne_true hc)] at hF
   refine RL.gval rfl rfl (O.fldA fl24_3 (by decide) rfl) rfl ?_
   refine RL.gval rfl rfl (O.load sc22 rfl (Cs.adds [3] ((hM.bx (i := 2) rfl)) rfl)) rfl ?_
   refine RL.gval rfl rfl (O.eql rfl rfl) rfl ?_
   refine RL.val (O.pickf rfl rfl) rfl ?_
   refine vm rfl rfl ?_
   refine RL.bcase (t := 31) rfl (fun hc => ?_) (fun hc => ?_)
   ·rw [if_pos hc] at hF
    refine RL.brun1 4 35 true (by kernel_rfl) ?_
    refine RL.nil ?_
    refine KQ.then_k ?_
    replace hM := hM.pick [2, 1] rfl (by decide)
    exact fun a ha => ⟨true, ha.less (less_cons rfl (less_cons rfl (less_cons rfl less_nil))), hM, hF⟩
   rw [if_neg (ne_true hc)] at hF
   refine RL.gval rfl rfl (O.fldA fl24_4 (by decide) rfl) rfl ?_
   refine RL.gval rfl rfl (O.load sc22 rfl (Cs.adds [4] ((hM.bx (i := 2) rfl)) rfl)) rfl ?_
   refine RL.gval rfl rfl (O.eql rfl rfl) rfl ?_
   refine RL.val (O.pickf rfl rfl) rfl ?_
   refine RL.nil ?_
   refine KQ.then_k ?_
   replace hM := hM.pick [2, 1] rfl (by decide)
   exact fun a ha => ⟨(b1.f_Bytes == 0), ha.less (less_cons rfl (less_cons rfl (less_cons rfl less_nil))), hM, hF⟩
  rintro a w38 ⟨t36, ha, hM, hF⟩
  refine KC.app ha ?_
  clear ha
  unfold F_law24_CacheTicks_j2 at hF
  refine KC.cond rfl (fun hc => ?_) (fun hc => ?_)
  ·rw [if_pos hc] at hF
   refine sr fun Q39 hQ39 => ?_
   refine va rfl rfl ?_
   refine va rfl rfl ?_
   refine nt hQ39 ?_
   clear hQ39 Q39
   refine KC.ret ?_
   refine KQ.thr hQ34 ?_
   clear hQ34 Q34
   refine KQ.rets Try.results7 (RVs.cons (RV.tm rfl) (RVs.cons (RV.tm rfl) RVs.nil)) ?_
   refine ⟨.tuple #[.pointer none, vI 2], rfl, ?_⟩
   refine vm rfl rfl ?_
   refine RL.val (O.ext rfl rfl) rfl ?_
   refine RL.val (O.ext rfl rfl) rfl ?_
   refine va rfl rfl ?_
   refine va rfl rfl ?_
   refine nt hQ29 ?_
   clear hQ29 Q29
   replace hM := hM.pick [] rfl (by decide)
   refine KC.seqH fun Q40 hQ40 => ?_
   refine KC.cut (fun a w41 => Kn 145 [(1, .slice A3 (lv2).length c4), (2, v8 ticks6), (7, .pointer none), (8, vI 2), (9, .pointer none), (10, vI 2), (41, vB true)] a ∧ Mem w [] w41 [] ∧ F_law24_CacheTicks_j3 = some r) ?_ ?_
   ·refine KC.region ?_
    refine vm rfl rfl ?_
    refine RL.val (O.neq rfl rfl) rfl ?_
    refine RL.brun1 4 41 true (by kernel_rfl) ?_
    refine RL.nil ?_
    refine KQ.then_k ?_
    exact fun a ha => ⟨ha.less (less_cons rfl (less_cons rfl (less_cons rfl (less_cons rfl (less_cons rfl (less_cons rfl (less_cons rfl less_nil))))))), hM, hF⟩
   rintro a w41 ⟨ha, hM, hF⟩
   refine KC.app ha ?_
   clear ha
   unfold F_law24_CacheTicks_j3 at hF
   refine KC.condT rfl ?_
   refine KC.cut (fun a w47 => ∃ (t46 : Bool), Kn 145 [(6, vB t46)] a ∧ Mem w [] w47 [] ∧ F_law24_CacheTicks_j4 t46 = some r) ?_ ?_
   ·refine KC.region ?_
    refine vm rfl rfl ?_
    refine vm rfl rfl ?_
    refine RL.val (O.eql rfl rfl) rfl ?_
    refine vm rfl rfl ?_
    refine obindE hF fun y42 hx43 hF => ?_
    refine RL.gcall rfl rfl Try.func6 bd6 rfl rfl (c_law24_works _ _ hx43) fun v w44 hv => ?_
    obtain ⟨rfl, hN45⟩ := hv
    replace hM := hM.call0 hN45
    refine RL.val (O.pickt rfl rfl) rfl ?_
    refine va rfl rfl ?_
    refine RL.nil ?_
    refine KQ.then_k ?_
    exact fun a ha => ⟨y42, ha.less (less_cons rfl less_nil), hM, hF⟩
   rintro a w47 ⟨t46, ha, hM, hF⟩
   refine KC.app ha ?_
   clear ha
   unfold F_law24_CacheTicks_j4 at hF
   refine KC.ret ?_
   refine KQ.thr hQ40 ?_
   clear hQ40 Q40
   have hE := Option.some.inj hF
   clear hF
   subst hE
   refine KQ.rets Try.results3 (RVs.cons (RV.tm rfl) RVs.nil) ?_
   exact ⟨_, rfl, rfl, hM⟩
  rw [if_neg (ne_true hc)] at hF
  refine KC.skip ?_
  refine KQ.thn hQ34 ?_
  clear hQ34 Q34
  refine sr fun Q48 hQ48 => ?_
  refine RL.val (O.fldA fl24_0 (by decide) rfl) rfl ?_
  refine RL.val (O.load sc3 rfl (Cs.adds [0] ((hM.bx (i := 0) rfl)) rfl)) rfl ?_
  refine RL.val (O.conv un3 Try.underlying72 rfl) rfl ?_
  refine obindE hF fun y49 hx50 hF => ?_
  refine RL.call Try.func25 bd25 rfl rfl (c_math_bits_Len _ (IntKind.u64.wrap b1.f_Flows) _ hx50) fun v w51 hv => ?_
  obtain ⟨rfl, hN52⟩ := hv
  replace hM := hM.call0 hN52
  refine cut_someE hF fun hq53 hF => ?_
  refine RL.val (O.shl rfl rfl (of_decide_eq_true hq53)) rfl ?_
  refine RL.icall Try.func24 bd24 rfl rfl rfl Try.ntmps24 rfl ?_
  refine sr fun Q54 hQ54 => ?_
  refine va rfl rfl ?_
  refine va rfl rfl ?_
  refine nt hQ54 ?_
  clear hQ54 Q54
  refine KC.seqH fun Q55 hQ55 => ?_
  refine KC.cut (fun a w59 => ∃ (h56 : Bool), Kn 21 [(0, vI (Ox.shl .i64 1 y49)), (16, vB h56)] a ∧ Mem w [] w59 [.box g8 24 [vI b1.f_Flows, v64 b1.f_Idle, v64 b1.f_Active, v64 b1.f_Packets, v64 b1.f_Bytes], .box g31 24 [vI b1.f_Flows, v64 b1.f_Idle, v64 b1.f_Active, v64 b1.f_Packets, v64 b1.f_Bytes]] ∧ F_law24_CacheTicks_j5 y49 h56 = some r) ?_ ?_
  ·refine KC.region ?_
   refine vm rfl rfl ?_
   refine RL.val (O.lss rfl rfl) rfl ?_
   refine vm rfl rfl ?_
   refine RL.bcase (t := 6) rfl (fun hc => ?_) (fun hc => ?_)
   ·rw [if_pos hc] at hF
    refine RL.brun1 10 16 true (by kernel_rfl) ?_
    refine RL.nil ?_
    refine KQ.then_k ?_
    replace hM := hM.pick [1, 0] rfl (by decide)
    exact fun a ha => ⟨true, ha.less (less_cons rfl (less_cons rfl less_nil)), hM, hF⟩
   rw [if_neg (ne_true hc)] at hF
   refine RL.gval rfl rfl (O.move rfl) rfl ?_
   refine RL.gval rfl rfl (O.gtr rfl rfl) rfl ?_
   refine RL.val (O.pickf rfl rfl) rfl ?_
   refine vm rfl rfl ?_
   refine RL.bcase (t := 10) rfl (fun hc => ?_) (fun hc => ?_)
   ·rw [if_pos hc] at hF
    refine RL.brun1 6 16 true (by kernel_rfl) ?_
    refine RL.nil ?_
    refine KQ.then_k ?_
    replace hM := hM.pick [1, 0] rfl (by decide)
    exact fun a ha => ⟨true, ha.less (less_cons rfl (less_cons rfl less_nil)), hM, hF⟩
   rw [if_neg (ne_true hc)] at hF
   refine RL.gval rfl rfl (O.move rfl) rfl ?_
   refine RL.gval rfl rfl (O.move rfl) rfl ?_
   refine RL.gval rfl rfl (O.sub rfl rfl) rfl ?_
   refine RL.gval rfl rfl (O.and rfl rfl) rfl ?_
   refine RL.gval rfl rfl (O.neq rfl rfl) rfl ?_
   refine RL.val (O.pickf rfl rfl) rfl ?_
   refine RL.nil ?_
   refine KQ.then_k ?_
   replace hM := hM.pick [1, 0] rfl (by decide)
   exact fun a ha => ⟨((bits .and .i64 (Ox.shl .i64 1 y49) (IntKind.i64.wrap ((Ox.shl .i64 1 y49) - 1))) != 0), ha.less (less_cons rfl (less_cons rfl less_nil)), hM, hF⟩
  rintro a w59 ⟨h56, ha, hM, hF⟩
  refine KC.app ha ?_
  clear ha
  unfold F_law24_CacheTicks_j5 at hF
  refine KC.cond rfl (fun hc => ?_) (fun hc => ?_)
  ·rw [if_pos hc] at hF
   refine sr fun Q60 hQ60 => ?_
   refine va rfl rfl ?_
   refine va rfl rfl ?_
   refine nt hQ60 ?_
   clear hQ60 Q60
   refine KC.ret ?_
   refine KQ.thr hQ55 ?_
   clear hQ55 Q55
   refine KQ.rets Try.results24 (RVs.cons (RV.tm rfl) (RVs.cons (RV.tm rfl) RVs.nil)) ?_
   refine ⟨.tuple #[.pointer none, vI 2], rfl, ?_⟩
   refine vm rfl rfl ?_
   refine RL.val (O.ext rfl rfl) rfl ?_
   refine RL.val (O.ext rfl rfl) rfl ?_
   refine va rfl rfl ?_
   refine va rfl rfl ?_
   refine nt hQ48 ?_
   clear hQ48 Q48
   refine KC.seqH fun Q61 hQ61 => ?_
   refine sr fun Q62 hQ62 => ?_
   refine vm rfl rfl ?_
   refine RL.val (O.neq rfl rfl) rfl ?_
   refine nt hQ62 ?_
   clear hQ62 Q62
   refine KC.condT rfl ?_
   refine sr fun Q63 hQ63 => ?_
   refine vm rfl rfl ?_
   refine va rfl rfl ?_
   refine va rfl rfl ?_
   refine nt hQ63 ?_
   clear hQ63 Q63
   refine KC.ret ?_
   refine KQ.thr hQ61 ?_
   clear hQ61 Q61
   refine KQ.rets Try.results7 (RVs.cons (RV.tm rfl) (RVs.cons (RV.tm rfl) RVs.nil)) ?_
   refine ⟨.tuple #[.pointer none, vI 2], rfl, ?_⟩
   refine vm rfl rfl ?_
   refine RL.val (O.ext rfl rfl) rfl ?_
   refine RL.val (O.ext rfl rfl) rfl ?_
   refine va rfl rfl ?_
   refine va rfl rfl ?_
   refine nt hQ29 ?_
   clear hQ29 Q29
   replace hM := hM.pick [] rfl (by decide)
   refine KC.seqH fun Q64 hQ64 => ?_
   refine KC.cut (fun a w65 => Kn 145 [(1, .slice A3 (lv2).length c4), (2, v8 ticks6), (7, .pointer none), (8, vI 2), (9, .pointer none), (10, vI 2), (41, vB true)] a ∧ Mem w [] w65 [] ∧ F_law24_CacheTicks_j6 = some r) ?_ ?_
   ·refine KC.region ?_
    refine vm rfl rfl ?_
    refine RL.val (O.neq rfl rfl) rfl ?_
    refine RL.brun1 4 41 true (by kernel_rfl) ?_
    refine RL.nil ?_
    refine KQ.then_k ?_
    exact fun a ha => ⟨ha.less (less_cons rfl (less_cons rfl (less_cons rfl (less_cons rfl (less_cons rfl (less_cons rfl (less_cons rfl less_nil))))))), hM, hF⟩
   rintro a w65 ⟨ha, hM, hF⟩
   refine KC.app ha ?_
   clear ha
   unfold F_law24_CacheTicks_j6 at hF
   refine KC.condT rfl ?_
   refine KC.cut (fun a w71 => ∃ (t70 : Bool), Kn 145 [(6, vB t70)] a ∧ Mem w [] w71 [] ∧ F_law24_CacheTicks_j7 t70 = some r) ?_ ?_
   ·refine KC.region ?_
    refine vm rfl rfl ?_
    refine vm rfl rfl ?_
    refine RL.val (O.eql rfl rfl) rfl ?_
    refine vm rfl rfl ?_
    refine obindE hF fun y66 hx67 hF => ?_
    refine RL.gcall rfl rfl Try.func6 bd6 rfl rfl (c_law24_works _ _ hx67) fun v w68 hv => ?_
    obtain ⟨rfl, hN69⟩ := hv
    replace hM := hM.call0 hN69
    refine RL.val (O.pickt rfl rfl) rfl ?_
    refine va rfl rfl ?_
    refine RL.nil ?_
    refine KQ.then_k ?_
    exact fun a ha => ⟨y66, ha.less (less_cons rfl less_nil), hM, hF⟩
   rintro a w71 ⟨t70, ha, hM, hF⟩
   refine KC.app ha ?_
   clear ha
   unfold F_law24_CacheTicks_j7 at hF
   refine KC.ret ?_
   refine KQ.thr hQ64 ?_
   clear hQ64 Q64
   have hE := Option.some.inj hF
   clear hF
   subst hE
   refine KQ.rets Try.results3 (RVs.cons (RV.tm rfl) RVs.nil) ?_
   exact ⟨_, rfl, rfl, hM⟩
  rw [if_neg (ne_true hc)] at hF
  refine KC.skip ?_
  refine KQ.thn hQ55 ?_
  clear hQ55 Q55
  refine sr fun Q72 hQ72 => ?_
  refine vm rfl rfl ?_
  refine cut_someE hF fun hq75 hF => ?_
  refine RL.eff (E.mks (enc := e_table_Slot) (zr := (T_table_Slot.mk false (T_packet_Key.mk (T_addr_Addr.mk false (List.replicate 16 0)) (T_addr_Addr.mk false (List.replicate 16 0)) 0 0 0) 0)) hM sl94 ze102 rfl rfl (fun _ => rfl) rfl rfl rfl (of_decide_eq_true hq75)) rfl fun v w74 hv => ?_
  clear hM
  obtain ⟨A73, rfl, hM, hf⟩ := hv
  refine RL.val (O.bld (cs := [.slice A73 ((List.replicate (Int.toNat (Ox.shl .i64 1 y49)) ((T_table_Slot.mk false (T_packet_Key.mk (T_addr_Addr.mk false (List.replicate 16 0)) (T_addr_Addr.mk false (List.replicate 16 0)) 0 0 0) 0) : T_table_Slot))).length (Int.toNat (Ox.shl .i64 1 y49)), vI 0]) bt96 rfl (by kernel_rfl)) rfl ?_
  refine RL.eff (E.box (vs := [.slice A73 ((List.replicate (Int.toNat (Ox.shl .i64 1 y49)) ((T_table_Slot.mk false (T_packet_Key.mk (T_addr_Addr.mk false (List.replicate 16 0)) (T_addr_Addr.mk false (List.replicate 16 0)) 0 0 0) 0) : T_table_Slot))).length (Int.toNat (Ox.shl .i64 1 y49)), vI 0]) hM rfl rfl) rfl fun v w78 hv => ?_
  clear hM
  obtain ⟨g77, rfl, hM, hf⟩ := hv
  refine va rfl rfl ?_
  refine va rfl rfl ?_
  refine nt hQ72 ?_
  clear hQ72 Q72
  refine KC.ret ?_
  refine KQ.rets Try.results24 (RVs.cons (RV.tm rfl) (RVs.cons (RV.tm rfl) RVs.nil)) ?_
  refine ⟨.tuple #[.pointer (some ⟨g77, 0, none⟩), vI 0], rfl, ?_⟩
  refine vm rfl rfl ?_
  refine RL.val (O.ext rfl rfl) rfl ?_
  refine RL.val (O.ext rfl rfl) rfl ?_
  refine va rfl rfl ?_
  refine va rfl rfl ?_
  refine nt hQ48 ?_
  clear hQ48 Q48
  refine KC.seqH fun Q80 hQ80 => ?_
  refine sr fun Q81 hQ81 => ?_
  refine vm rfl rfl ?_
  refine RL.val (O.neq rfl rfl) rfl ?_
  refine nt hQ81 ?_
  clear hQ81 Q81
  refine KC.condF rfl ?_
  refine KC.skip ?_
  refine KQ.thn hQ80 ?_
  clear hQ80 Q80
  refine sr fun Q82 hQ82 => ?_
  refine vm rfl rfl ?_
  refine RL.val (O.loadN (cs := [vI b1.f_Flows, v64 b1.f_Idle, v64 b1.f_Active, v64 b1.f_Packets, v64 b1.f_Bytes]) ag24 rfl (Cs.addsN [] ((hM.bx (i := 1) rfl)) rfl)) rfl ?_
  refine vm rfl rfl ?_
  refine RL.val (O.bld (cs := [v64 0, vI b1.f_Flows, v64 b1.f_Idle, v64 b1.f_Active, v64 b1.f_Packets, v64 b1.f_Bytes, .pointer (some ⟨g77, 0, none⟩), .slice none 0 0]) bt74 rfl (by kernel_rfl)) rfl ?_
  refine RL.eff (E.box (vs := [v64 0, vI b1.f_Flows, v64 b1.f_Idle, v64 b1.f_Active, v64 b1.f_Packets, v64 b1.f_Bytes, .pointer (some ⟨g77, 0, none⟩), .slice none 0 0]) hM rfl rfl) rfl fun v w84 hv => ?_
  clear hM
  obtain ⟨g83, rfl, hM, hf⟩ := hv
  refine va rfl rfl ?_
  refine va rfl rfl ?_
  refine nt hQ82 ?_
  clear hQ82 Q82
  refine KC.ret ?_
  refine KQ.rets Try.results7 (RVs.cons (RV.tm rfl) (RVs.cons (RV.tm rfl) RVs.nil)) ?_
  refine ⟨.tuple #[.pointer (some ⟨g83, 0, none⟩), vI 0], rfl, ?_⟩
  refine vm rfl rfl ?_
  refine RL.val (O.ext rfl rfl) rfl ?_
  refine RL.val (O.ext rfl rfl) rfl ?_
  refine va rfl rfl ?_
  refine va rfl rfl ?_
  refine nt hQ29 ?_
  clear hQ29 Q29
  replace hM := hM.pick [2, 3, 4] rfl (by decide)
  refine KC.seqH fun Q86 hQ86 => ?_
  refine KC.cut (fun a w90 => Kn 145 [(1, .slice A3 (lv2).length c4), (2, v8 ticks6), (7, .pointer none), (8, vI 2), (9, .pointer (some ⟨g83, 0, none⟩)), (10, vI 0), (41, vB true)] a ∧ Mem w [] w90 [.row A73 (Int.toNat (Ox.shl .i64 1 y49)) 102 39 ((List.replicate (Int.toNat (Ox.shl .i64 1 y49)) ((T_table_Slot.mk false (T_packet_Key.mk (T_addr_Addr.mk false (List.replicate 16 0)) (T_addr_Addr.mk false (List.replicate 16 0)) 0 0 0) 0) : T_table_Slot))).length (((List.replicate (Int.toNat (Ox.shl .i64 1 y49)) ((T_table_Slot.mk false (T_packet_Key.mk (T_addr_Addr.mk false (List.replicate 16 0)) (T_addr_Addr.mk false (List.replicate 16 0)) 0 0 0) 0) : T_table_Slot))).flatMap e_table_Slot), .box g77 96 [.slice A73 ((List.replicate (Int.toNat (Ox.shl .i64 1 y49)) ((T_table_Slot.mk false (T_packet_Key.mk (T_addr_Addr.mk false (List.replicate 16 0)) (T_addr_Addr.mk false (List.replicate 16 0)) 0 0 0) 0) : T_table_Slot))).length (Int.toNat (Ox.shl .i64 1 y49)), vI 0], .box g83 74 [v64 0, vI b1.f_Flows, v64 b1.f_Idle, v64 b1.f_Active, v64 b1.f_Packets, v64 b1.f_Bytes, .pointer (some ⟨g77, 0, none⟩), .slice none 0 0]] ∧ F_law24_CacheTicks_j8 = some r) ?_ ?_
  ·refine KC.region ?_
   refine vm rfl rfl ?_
   refine RL.val (O.neq rfl rfl) rfl ?_
   refine RL.brun1 4 41 true (by kernel_rfl) ?_
   refine RL.nil ?_
   refine KQ.then_k ?_
   exact fun a ha => ⟨ha.less (less_cons rfl (less_cons rfl (less_cons rfl (less_cons rfl (less_cons rfl (less_cons rfl (less_cons rfl less_nil))))))), hM, hF⟩
  rintro a w90 ⟨ha, hM, hF⟩
  refine KC.app ha ?_
  clear ha
  unfold F_law24_CacheTicks_j8 at hF
  refine KC.condT rfl ?_
  refine KC.cut (fun a w91 => Kn 145 [(6, vB false)] a ∧ Mem w [] w91 [] ∧ F_law24_CacheTicks_j9 = some r) ?_ ?_
  ·refine KC.region ?_
   refine vm rfl rfl ?_
   refine vm rfl rfl ?_
   refine RL.val (O.eql rfl rfl) rfl ?_
   refine vm rfl rfl ?_
   refine RL.gskip rfl rfl rfl rfl ?_
   refine RL.val (O.pickf rfl rfl) rfl ?_
   refine va rfl rfl ?_
   refine RL.nil ?_
   refine KQ.then_k ?_
   replace hM := hM.pick [] rfl (by decide)
   exact fun a ha => ⟨ha.less (less_cons rfl less_nil), hM, hF⟩
  rintro a w91 ⟨ha, hM, hF⟩
  refine KC.app ha ?_
  clear ha
  unfold F_law24_CacheTicks_j9 at hF
  refine KC.ret ?_
  refine KQ.thr hQ86 ?_
  clear hQ86 Q86
  have hE := Option.some.inj hF
  clear hF
  subst hE
  refine KQ.rets Try.results3 (RVs.cons (RV.tm rfl) RVs.nil) ?_
  exact ⟨_, rfl, rfl, hM⟩
 rw [if_neg (ne_true hc)] at hF
 refine KC.skip ?_
 refine KQ.thn hQ23 ?_
 clear hQ23 Q23
 refine sr fun Q92 hQ92 => ?_
 refine RL.val (O.fldA fl24_0 (by decide) rfl) rfl ?_
 refine RL.val (O.load sc3 rfl (Cs.adds [0] ((hM.bx (i := 0) rfl)) rfl)) rfl ?_
 refine RL.val (O.conv un3 Try.underlying72 rfl) rfl ?_
 refine obindE hF fun y93 hx94 hF => ?_
 refine RL.call Try.func25 bd25 rfl rfl (c_math_bits_Len _ (IntKind.u64.wrap b1.f_Flows) _ hx94) fun v w95 hv => ?_
 obtain ⟨rfl, hN96⟩ := hv
 replace hM := hM.call0 hN96
 refine cut_someE hF fun hq97 hF => ?_
 refine RL.val (O.shl rfl rfl (of_decide_eq_true hq97)) rfl ?_
 refine RL.icall Try.func24 bd24 rfl rfl rfl Try.ntmps24 rfl ?_
 refine sr fun Q98 hQ98 => ?_
 refine va rfl rfl ?_
 refine va rfl rfl ?_
 refine nt hQ98 ?_
 clear hQ98 Q98
 refine KC.seqH fun Q99 hQ99 => ?_
 refine KC.cut (fun a w103 => ∃ (h100 : Bool), Kn 21 [(0, vI (Ox.shl .i64 1 y93)), (16, vB h100)] a ∧ Mem w [] w103 [.box g8 24 [vI b1.f_Flows, v64 b1.f_Idle, v64 b1.f_Active, v64 b1.f_Packets, v64 b1.f_Bytes], .box g20 24 [vI b1.f_Flows, v64 b1.f_Idle, v64 b1.f_Active, v64 b1.f_Packets, v64 b1.f_Bytes]] ∧ F_law24_CacheTicks_j10 b1 lv2 ticks6 y93 h100 = some r) ?_ ?_
 ·refine KC.region ?_
  refine vm rfl rfl ?_
  refine RL.val (O.lss rfl rfl) rfl ?_
  refine vm rfl rfl ?_
  refine RL.bcase (t := 6) rfl (fun hc => ?_) (fun hc => ?_)
  ·rw [if_pos hc] at hF
   refine RL.brun1 10 16 true (by kernel_rfl) ?_
   refine RL.nil ?_
   refine KQ.then_k ?_
   replace hM := hM.pick [1, 0] rfl (by decide)
   exact fun a ha => ⟨true, ha.less (less_cons rfl (less_cons rfl less_nil)), hM, hF⟩
  rw [if_neg (ne_true hc)] at hF
  refine RL.gval rfl rfl (O.move rfl) rfl ?_
  refine RL.gval rfl rfl (O.gtr rfl rfl) rfl ?_
  refine RL.val (O.pickf rfl rfl) rfl ?_
  refine vm rfl rfl ?_
  refine RL.bcase (t := 10) rfl (fun hc => ?_) (fun hc => ?_)
  ·rw [if_pos hc] at hF
   refine RL.brun1 6 16 true (by kernel_rfl) ?_
   refine RL.nil ?_
   refine KQ.then_k ?_
   replace hM := hM.pick [1, 0] rfl (by decide)
   exact fun a ha => ⟨true, ha.less (less_cons rfl (less_cons rfl less_nil)), hM, hF⟩
  rw [if_neg (ne_true hc)] at hF
  refine RL.gval rfl rfl (O.move rfl) rfl ?_
  refine RL.gval rfl rfl (O.move rfl) rfl ?_
  refine RL.gval rfl rfl (O.sub rfl rfl) rfl ?_
  refine RL.gval rfl rfl (O.and rfl rfl) rfl ?_
  refine RL.gval rfl rfl (O.neq rfl rfl) rfl ?_
  refine RL.val (O.pickf rfl rfl) rfl ?_
  refine RL.nil ?_
  refine KQ.then_k ?_
  replace hM := hM.pick [1, 0] rfl (by decide)
  exact fun a ha => ⟨((bits .and .i64 (Ox.shl .i64 1 y93) (IntKind.i64.wrap ((Ox.shl .i64 1 y93) - 1))) != 0), ha.less (less_cons rfl (less_cons rfl less_nil)), hM, hF⟩
 rintro a w103 ⟨h100, ha, hM, hF⟩
 refine KC.app ha ?_
 clear ha
 unfold F_law24_CacheTicks_j10 at hF
 refine KC.cond rfl (fun hc => ?_) (fun hc => ?_)
 ·rw [if_pos hc] at hF
  refine sr fun Q104 hQ104 => ?_
  refine va rfl rfl ?_
  refine va rfl rfl ?_
  refine nt hQ104 ?_
  clear hQ104 Q104
  refine KC.ret ?_
  refine KQ.thr hQ99 ?_
  clear hQ99 Q99
  refine KQ.rets Try.results24 (RVs.cons (RV.tm rfl) (RVs.cons (RV.tm rfl) RVs.nil)) ?_
  refine ⟨.tuple #[.pointer none, vI 2], rfl, ?_⟩
  refine vm rfl rfl ?_
  refine RL.val (O.ext rfl rfl) rfl ?_
  refine RL.val (O.ext rfl rfl) rfl ?_
  refine va rfl rfl ?_
  refine va rfl rfl ?_
  refine nt hQ92 ?_
  clear hQ92 Q92
  refine KC.seqH fun Q105 hQ105 => ?_
  refine sr fun Q106 hQ106 => ?_
  refine vm rfl rfl ?_
  refine RL.val (O.neq rfl rfl) rfl ?_
  refine nt hQ106 ?_
  clear hQ106 Q106
  refine KC.condT rfl ?_
  refine sr fun Q107 hQ107 => ?_
  refine vm rfl rfl ?_
  refine va rfl rfl ?_
  refine va rfl rfl ?_
  refine nt hQ107 ?_
  clear hQ107 Q107
  refine KC.ret ?_
  refine KQ.thr hQ105 ?_
  clear hQ105 Q105
  refine KQ.rets Try.results7 (RVs.cons (RV.tm rfl) (RVs.cons (RV.tm rfl) RVs.nil)) ?_
  refine ⟨.tuple #[.pointer none, vI 2], rfl, ?_⟩
  refine vm rfl rfl ?_
  refine RL.val (O.ext rfl rfl) rfl ?_
  refine RL.val (O.ext rfl rfl) rfl ?_
  refine va rfl rfl ?_
  refine va rfl rfl ?_
  refine nt hQ18 ?_
  clear hQ18 Q18
  refine sr fun Q108 hQ108 => ?_
  refine RL.val (O.loadN (cs := [vI b1.f_Flows, v64 b1.f_Idle, v64 b1.f_Active, v64 b1.f_Packets, v64 b1.f_Bytes]) ag24 rfl (Cs.addsN [] ((hM.bx (i := 0) rfl)) rfl)) rfl ?_
  refine RL.icall Try.func7 bd7 rfl rfl rfl Try.ntmps7 rfl ?_
  refine sr fun Q109 hQ109 => ?_
  refine RL.eff (E.box (vs := [vI b1.f_Flows, v64 b1.f_Idle, v64 b1.f_Active, v64 b1.f_Packets, v64 b1.f_Bytes]) hM rfl rfl) rfl fun v w111 hv => ?_
  clear hM
  obtain ⟨g110, rfl, hM, hf⟩ := hv
  refine va rfl rfl ?_
  refine va rfl rfl ?_
  refine nt hQ109 ?_
  clear hQ109 Q109
  refine KC.seqH fun Q113 hQ113 => ?_
  refine KC.cut (fun a w117 => ∃ (t115 : Bool), Kn 53 [(0, v64 0), (3, .pointer (some ⟨g110, 0, none⟩)), (35, vB t115)] a ∧ Mem w [] w117 [.box g110 24 [vI b1.f_Flows, v64 b1.f_Idle, v64 b1.f_Active, v64 b1.f_Packets, v64 b1.f_Bytes], .box g8 24 [vI b1.f_Flows, v64 b1.f_Idle, v64 b1.f_Active, v64 b1.f_Packets, v64 b1.f_Bytes]] ∧ F_law24_CacheTicks_j11 b1 t115 = some r) ?_ ?_
  ·refine KC.region ?_
   refine RL.val (O.fldA fl24_0 (by decide) rfl) rfl ?_
   refine RL.val (O.load sc3 rfl (Cs.adds [0] ((hM.bx (i := 2) rfl)) rfl)) rfl ?_
   refine RL.val (O.lss rfl rfl) rfl ?_
   refine vm rfl rfl ?_
   refine RL.bcase (t := 11) rfl (fun hc => ?_) (fun hc => ?_)
   ·rw [if_pos hc] at hF
    refine RL.brun1 24 35 true (by kernel_rfl) ?_
    refine RL.nil ?_
    refine KQ.then_k ?_
    replace hM := hM.pick [2, 0] rfl (by decide)
    exact fun a ha => ⟨true, ha.less (less_cons rfl (less_cons rfl (less_cons rfl less_nil))), hM, hF⟩
   rw [if_neg (ne_true hc)] at hF
   refine RL.gval rfl rfl (O.fldA fl24_0 (by decide) rfl) rfl ?_
   refine RL.gval rfl rfl (O.load sc3 rfl (Cs.adds [0] ((hM.bx (i := 2) rfl)) rfl)) rfl ?_
   refine RL.gval rfl rfl (O.gtr rfl rfl) rfl ?_
   refine RL.val (O.pickf rfl rfl) rfl ?_
   refine vm rfl rfl ?_
   refine RL.bcase (t := 16) rfl (fun hc => ?_) (fun hc => ?_)
   ·rw [if_pos hc] at hF
    refine RL.brun1 19 35 true (by kernel_rfl) ?_
    refine RL.nil ?_
    refine KQ.then_k ?_
    replace hM := hM.pick [2, 0] rfl (by decide)
    exact fun a ha => ⟨true, ha.less (less_cons rfl (less_cons rfl (less_cons rfl less_nil))), hM, hF⟩
   rw [if_neg (ne_true hc)] at hF
   refine RL.gval rfl rfl (O.fldA fl24_1 (by decide) rfl) rfl ?_
   refine RL.gval rfl rfl (O.load sc22 rfl (Cs.adds [1] ((hM.bx (i := 2) rfl)) rfl)) rfl ?_
   refine RL.gval rfl rfl (O.eql rfl rfl) rfl ?_
   refine RL.val (O.pickf rfl rfl) rfl ?_
   refine vm rfl rfl ?_
   refine RL.bcase (t := 21) rfl (fun hc => ?_) (fun hc => ?_)
   ·rw [if_pos hc] at hF
    refine RL.brun1 14 35 true (by kernel_rfl) ?_
    refine RL.nil ?_
    refine KQ.then_k ?_
    replace hM := hM.pick [2, 0] rfl (by decide)
    exact fun a ha => ⟨true, ha.less (less_cons rfl (less_cons rfl (less_cons rfl less_nil))), hM, hF⟩
   rw [if_neg (ne_true hc)] at hF
   refine RL.gval rfl rfl (O.fldA fl24_2 (by decide) rfl) rfl ?_
   refine RL.gval rfl rfl (O.load sc22 rfl (Cs.adds [2] ((hM.bx (i := 2) rfl)) rfl)) rfl ?_
   refine RL.gval rfl rfl (O.eql rfl rfl) rfl ?_
   refine RL.val (O.pickf rfl rfl) rfl ?_
   refine vm rfl rfl ?_
   refine RL.bcase (t := 26) rfl (fun hc => ?_) (fun hc => ?_)
   ·rw [if_pos hc] at hF
    refine RL.brun1 9 35 true (by kernel_rfl) ?_
    refine RL.nil ?_
    refine KQ.then_k ?_
    replace hM := hM.pick [2, 0] rfl (by decide)
    exact fun a ha => ⟨true, ha.less (less_cons rfl (less_cons rfl (less_cons rfl less_nil))), hM, hF⟩
   rw [if_neg (ne_true hc)] at hF
   refine RL.gval rfl rfl (O.fldA fl24_3 (by decide) rfl) rfl ?_
   refine RL.gval rfl rfl (O.load sc22 rfl (Cs.adds [3] ((hM.bx (i := 2) rfl)) rfl)) rfl ?_
   refine RL.gval rfl rfl (O.eql rfl rfl) rfl ?_
   refine RL.val (O.pickf rfl rfl) rfl ?_
   refine vm rfl rfl ?_
   refine RL.bcase (t := 31) rfl (fun hc => ?_) (fun hc => ?_)
   ·rw [if_pos hc] at hF
    refine RL.brun1 4 35 true (by kernel_rfl) ?_
    refine RL.nil ?_
    refine KQ.then_k ?_
    replace hM := hM.pick [2, 0] rfl (by decide)
    exact fun a ha => ⟨true, ha.less (less_cons rfl (less_cons rfl (less_cons rfl less_nil))), hM, hF⟩
   rw [if_neg (ne_true hc)] at hF
   refine RL.gval rfl rfl (O.fldA fl24_4 (by decide) rfl) rfl ?_
   refine RL.gval rfl rfl (O.load sc22 rfl (Cs.adds [4] ((hM.bx (i := 2) rfl)) rfl)) rfl ?_
   refine RL.gval rfl rfl (O.eql rfl rfl) rfl ?_
   refine RL.val (O.pickf rfl rfl) rfl ?_
   refine RL.nil ?_
   refine KQ.then_k ?_
   replace hM := hM.pick [2, 0] rfl (by decide)
   exact fun a ha => ⟨(b1.f_Bytes == 0), ha.less (less_cons rfl (less_cons rfl (less_cons rfl less_nil))), hM, hF⟩
  rintro a w117 ⟨t115, ha, hM, hF⟩
  refine KC.app ha ?_
  clear ha
  unfold F_law24_CacheTicks_j11 at hF
  refine KC.cond rfl (fun hc => ?_) (fun hc => ?_)
  ·rw [if_pos hc] at hF
   refine sr fun Q118 hQ118 => ?_
   refine va rfl rfl ?_
   refine va rfl rfl ?_
   refine nt hQ118 ?_
   clear hQ118 Q118
   refine KC.ret ?_
   refine KQ.thr hQ113 ?_
   clear hQ113 Q113
   refine KQ.rets Try.results7 (RVs.cons (RV.tm rfl) (RVs.cons (RV.tm rfl) RVs.nil)) ?_
   refine ⟨.tuple #[.pointer none, vI 2], rfl, ?_⟩
   refine vm rfl rfl ?_
   refine RL.val (O.ext rfl rfl) rfl ?_
   refine RL.val (O.ext rfl rfl) rfl ?_
   refine va rfl rfl ?_
   refine va rfl rfl ?_
   refine nt hQ108 ?_
   clear hQ108 Q108
   replace hM := hM.pick [] rfl (by decide)
   refine KC.seqH fun Q119 hQ119 => ?_
   refine KC.cut (fun a w120 => Kn 145 [(1, .slice A3 (lv2).length c4), (2, v8 ticks6), (7, .pointer none), (8, vI 2), (9, .pointer none), (10, vI 2), (41, vB true)] a ∧ Mem w [] w120 [] ∧ F_law24_CacheTicks_j12 = some r) ?_ ?_
   ·refine KC.region ?_
    refine vm rfl rfl ?_
    refine RL.val (O.neq rfl rfl) rfl ?_
    refine RL.brun1 4 41 true (by kernel_rfl) ?_
    refine RL.nil ?_
    refine KQ.then_k ?_
    exact fun a ha => ⟨ha.less (less_cons rfl (less_cons rfl (less_cons rfl (less_cons rfl (less_cons rfl (less_cons rfl (less_cons rfl less_nil))))))), hM, hF⟩
   rintro a w120 ⟨ha, hM, hF⟩
   refine KC.app ha ?_
   clear ha
   unfold F_law24_CacheTicks_j12 at hF
   refine KC.condT rfl ?_
   refine KC.cut (fun a w126 => ∃ (t125 : Bool), Kn 145 [(6, vB t125)] a ∧ Mem w [] w126 [] ∧ F_law24_CacheTicks_j13 t125 = some r) ?_ ?_
   ·refine KC.region ?_
    refine vm rfl rfl ?_
    refine vm rfl rfl ?_
    refine RL.val (O.eql rfl rfl) rfl ?_
    refine vm rfl rfl ?_
    refine obindE hF fun y121 hx122 hF => ?_
    refine RL.gcall rfl rfl Try.func6 bd6 rfl rfl (c_law24_works _ _ hx122) fun v w123 hv => ?_
    obtain ⟨rfl, hN124⟩ := hv
    replace hM := hM.call0 hN124
    refine RL.val (O.pickt rfl rfl) rfl ?_
    refine va rfl rfl ?_
    refine RL.nil ?_
    refine KQ.then_k ?_
    exact fun a ha => ⟨y121, ha.less (less_cons rfl less_nil), hM, hF⟩
   rintro a w126 ⟨t125, ha, hM, hF⟩
   refine KC.app ha ?_
   clear ha
   unfold F_law24_CacheTicks_j13 at hF
   refine KC.ret ?_
   refine KQ.thr hQ119 ?_
   clear hQ119 Q119
   have hE := Option.some.inj hF
   clear hF
   subst hE
   refine KQ.rets Try.results3 (RVs.cons (RV.tm rfl) RVs.nil) ?_
   exact ⟨_, rfl, rfl, hM⟩
  rw [if_neg (ne_true hc)] at hF
  refine KC.skip ?_
  refine KQ.thn hQ113 ?_
  clear hQ113 Q113
  refine sr fun Q127 hQ127 => ?_
  refine RL.val (O.fldA fl24_0 (by decide) rfl) rfl ?_
  refine RL.val (O.load sc3 rfl (Cs.adds [0] ((hM.bx (i := 0) rfl)) rfl)) rfl ?_
  refine RL.val (O.conv un3 Try.underlying72 rfl) rfl ?_
  refine obindE hF fun y128 hx129 hF => ?_
  refine RL.call Try.func25 bd25 rfl rfl (c_math_bits_Len _ (IntKind.u64.wrap b1.f_Flows) _ hx129) fun v w130 hv => ?_
  obtain ⟨rfl, hN131⟩ := hv
  replace hM := hM.call0 hN131
  refine cut_someE hF fun hq132 hF => ?_
  refine RL.val (O.shl rfl rfl (of_decide_eq_true hq132)) rfl ?_
  refine RL.icall Try.func24 bd24 rfl rfl rfl Try.ntmps24 rfl ?_
  refine sr fun Q133 hQ133 => ?_
  refine va rfl rfl ?_
  refine va rfl rfl ?_
  refine nt hQ133 ?_
  clear hQ133 Q133
  refine KC.seqH fun Q134 hQ134 => ?_
  refine KC.cut (fun a w138 => ∃ (h135 : Bool), Kn 21 [(0, vI (Ox.shl .i64 1 y128)), (16, vB h135)] a ∧ Mem w [] w138 [.box g8 24 [vI b1.f_Flows, v64 b1.f_Idle, v64 b1.f_Active, v64 b1.f_Packets, v64 b1.f_Bytes], .box g110 24 [vI b1.f_Flows, v64 b1.f_Idle, v64 b1.f_Active, v64 b1.f_Packets, v64 b1.f_Bytes]] ∧ F_law24_CacheTicks_j14 y128 h135 = some r) ?_ ?_
  ·refine KC.region ?_
   refine vm rfl rfl ?_
   refine RL.val (O.lss rfl rfl) rfl ?_
   refine vm rfl rfl ?_
   refine RL.bcase (t := 6) rfl (fun hc => ?_) (fun hc => ?_)
   ·rw [if_pos hc] at hF
    refine RL.brun1 10 16 true (by kernel_rfl) ?_
    refine RL.nil ?_
    refine KQ.then_k ?_
    replace hM := hM.pick [1, 0] rfl (by decide)
    exact fun a ha => ⟨true, ha.less (less_cons rfl (less_cons rfl less_nil)), hM, hF⟩
   rw [if_neg (ne_true hc)] at hF
   refine RL.gval rfl rfl (O.move rfl) rfl ?_
   refine RL.gval rfl rfl (O.gtr rfl rfl) rfl ?_
   refine RL.val (O.pickf rfl rfl) rfl ?_
   refine vm rfl rfl ?_
   refine RL.bcase (t := 10) rfl (fun hc => ?_) (fun hc => ?_)
   ·rw [if_pos hc] at hF
    refine RL.brun1 6 16 true (by kernel_rfl) ?_
    refine RL.nil ?_
    refine KQ.then_k ?_
    replace hM := hM.pick [1, 0] rfl (by decide)
    exact fun a ha => ⟨true, ha.less (less_cons rfl (less_cons rfl less_nil)), hM, hF⟩
   rw [if_neg (ne_true hc)] at hF
   refine RL.gval rfl rfl (O.move rfl) rfl ?_
   refine RL.gval rfl rfl (O.move rfl) rfl ?_
   refine RL.gval rfl rfl (O.sub rfl rfl) rfl ?_
   refine RL.gval rfl rfl (O.and rfl rfl) rfl ?_
   refine RL.gval rfl rfl (O.neq rfl rfl) rfl ?_
   refine RL.val (O.pickf rfl rfl) rfl ?_
   refine RL.nil ?_
   refine KQ.then_k ?_
   replace hM := hM.pick [1, 0] rfl (by decide)
   exact fun a ha => ⟨((bits .and .i64 (Ox.shl .i64 1 y128) (IntKind.i64.wrap ((Ox.shl .i64 1 y128) - 1))) != 0), ha.less (less_cons rfl (less_cons rfl less_nil)), hM, hF⟩
  rintro a w138 ⟨h135, ha, hM, hF⟩
  refine KC.app ha ?_
  clear ha
  unfold F_law24_CacheTicks_j14 at hF
  refine KC.cond rfl (fun hc => ?_) (fun hc => ?_)
  ·rw [if_pos hc] at hF
   refine sr fun Q139 hQ139 => ?_
   refine va rfl rfl ?_
   refine va rfl rfl ?_
   refine nt hQ139 ?_
   clear hQ139 Q139
   refine KC.ret ?_
   refine KQ.thr hQ134 ?_
   clear hQ134 Q134
   refine KQ.rets Try.results24 (RVs.cons (RV.tm rfl) (RVs.cons (RV.tm rfl) RVs.nil)) ?_
   refine ⟨.tuple #[.pointer none, vI 2], rfl, ?_⟩
   refine vm rfl rfl ?_
   refine RL.val (O.ext rfl rfl) rfl ?_
   refine RL.val (O.ext rfl rfl) rfl ?_
   refine va rfl rfl ?_
   refine va rfl rfl ?_
   refine nt hQ127 ?_
   clear hQ127 Q127
   refine KC.seqH fun Q140 hQ140 => ?_
   refine sr fun Q141 hQ141 => ?_
   refine vm rfl rfl ?_
   refine RL.val (O.neq rfl rfl) rfl ?_
   refine nt hQ141 ?_
   clear hQ141 Q141
   refine KC.condT rfl ?_
   refine sr fun Q142 hQ142 => ?_
   refine vm rfl rfl ?_
   refine va rfl rfl ?_
   refine va rfl rfl ?_
   refine nt hQ142 ?_
   clear hQ142 Q142
   refine KC.ret ?_
   refine KQ.thr hQ140 ?_
   clear hQ140 Q140
   refine KQ.rets Try.results7 (RVs.cons (RV.tm rfl) (RVs.cons (RV.tm rfl) RVs.nil)) ?_
   refine ⟨.tuple #[.pointer none, vI 2], rfl, ?_⟩
   refine vm rfl rfl ?_
   refine RL.val (O.ext rfl rfl) rfl ?_
   refine RL.val (O.ext rfl rfl) rfl ?_
   refine va rfl rfl ?_
   refine va rfl rfl ?_
   refine nt hQ108 ?_
   clear hQ108 Q108
   replace hM := hM.pick [] rfl (by decide)
   refine KC.seqH fun Q143 hQ143 => ?_
   refine KC.cut (fun a w144 => Kn 145 [(1, .slice A3 (lv2).length c4), (2, v8 ticks6), (7, .pointer none), (8, vI 2), (9, .pointer none), (10, vI 2), (41, vB true)] a ∧ Mem w [] w144 [] ∧ F_law24_CacheTicks_j15 = some r) ?_ ?_
   ·refine KC.region ?_
    refine vm rfl rfl ?_
    refine RL.val (O.neq rfl rfl) rfl ?_
    refine RL.brun1 4 41 true (by kernel_rfl) ?_
    refine RL.nil ?_
    refine KQ.then_k ?_
    exact fun a ha => ⟨ha.less (less_cons rfl (less_cons rfl (less_cons rfl (less_cons rfl (less_cons rfl (less_cons rfl (less_cons rfl less_nil))))))), hM, hF⟩
   rintro a w144 ⟨ha, hM, hF⟩
   refine KC.app ha ?_
   clear ha
   unfold F_law24_CacheTicks_j15 at hF
   refine KC.condT rfl ?_
   refine KC.cut (fun a w150 => ∃ (t149 : Bool), Kn 145 [(6, vB t149)] a ∧ Mem w [] w150 [] ∧ F_law24_CacheTicks_j16 t149 = some r) ?_ ?_
   ·refine KC.region ?_
    refine vm rfl rfl ?_
    refine vm rfl rfl ?_
    refine RL.val (O.eql rfl rfl) rfl ?_
    refine vm rfl rfl ?_
    refine obindE hF fun y145 hx146 hF => ?_
    refine RL.gcall rfl rfl Try.func6 bd6 rfl rfl (c_law24_works _ _ hx146) fun v w147 hv => ?_
    obtain ⟨rfl, hN148⟩ := hv
    replace hM := hM.call0 hN148
    refine RL.val (O.pickt rfl rfl) rfl ?_
    refine va rfl rfl ?_
    refine RL.nil ?_
    refine KQ.then_k ?_
    exact fun a ha => ⟨y145, ha.less (less_cons rfl less_nil), hM, hF⟩
   rintro a w150 ⟨t149, ha, hM, hF⟩
   refine KC.app ha ?_
   clear ha
   unfold F_law24_CacheTicks_j16 at hF
   refine KC.ret ?_
   refine KQ.thr hQ143 ?_
   clear hQ143 Q143
   have hE := Option.some.inj hF
   clear hF
   subst hE
   refine KQ.rets Try.results3 (RVs.cons (RV.tm rfl) RVs.nil) ?_
   exact ⟨_, rfl, rfl, hM⟩
  rw [if_neg (ne_true hc)] at hF
  refine KC.skip ?_
  refine KQ.thn hQ134 ?_
  clear hQ134 Q134
  refine sr fun Q151 hQ151 => ?_
  refine vm rfl rfl ?_
  refine cut_someE hF fun hq154 hF => ?_
  refine RL.eff (E.mks (enc := e_table_Slot) (zr := (T_table_Slot.mk false (T_packet_Key.mk (T_addr_Addr.mk false (List.replicate 16 0)) (T_addr_Addr.mk false (List.replicate 16 0)) 0 0 0) 0)) hM sl94 ze102 rfl rfl (fun _ => rfl) rfl rfl rfl (of_decide_eq_true hq154)) rfl fun v w153 hv => ?_
  clear hM
  obtain ⟨A152, rfl, hM, hf⟩ := hv
  refine RL.val (O.bld (cs := [.slice A152 ((List.replicate (Int.toNat (Ox.shl .i64 1 y128)) ((T_table_Slot.mk false (T_packet_Key.mk (T_addr_Addr.mk false (List.replicate 16 0)) (T_addr_Addr.mk false (List.replicate 16 0)) 0 0 0) 0) : T_table_Slot))).length (Int.toNat (Ox.shl .i64 1 y128)), vI 0]) bt96 rfl (by kernel_rfl)) rfl ?_
  refine RL.eff (E.box (vs := [.slice A152 ((List.replicate (Int.toNat (Ox.shl .i64 1 y128)) ((T_table_Slot.mk false (T_packet_Key.mk (T_addr_Addr.mk false (List.replicate 16 0)) (T_addr_Addr.mk false (List.replicate 16 0)) 0 0 0) 0) : T_table_Slot))).length (Int.toNat (Ox.shl .i64 1 y128)), vI 0]) hM rfl rfl) rfl fun v w157 hv => ?_
  clear hM
  obtain ⟨g156, rfl, hM, hf⟩ := hv
  refine va rfl rfl ?_
  refine va rfl rfl ?_
  refine nt hQ151 ?_
  clear hQ151 Q151
  refine KC.ret ?_
  refine KQ.rets Try.results24 (RVs.cons (RV.tm rfl) (RVs.cons (RV.tm rfl) RVs.nil)) ?_
  refine ⟨.tuple #[.pointer (some ⟨g156, 0, none⟩), vI 0], rfl, ?_⟩
  refine vm rfl rfl ?_
  refine RL.val (O.ext rfl rfl) rfl ?_
  refine RL.val (O.ext rfl rfl) rfl ?_
  refine va rfl rfl ?_
  refine va rfl rfl ?_
  refine nt hQ127 ?_
  clear hQ127 Q127
  refine KC.seqH fun Q159 hQ159 => ?_
  refine sr fun Q160 hQ160 => ?_
  refine vm rfl rfl ?_
  refine RL.val (O.neq rfl rfl) rfl ?_
  refine nt hQ160 ?_
  clear hQ160 Q160
  refine KC.condF rfl ?_
  refine KC.skip ?_
  refine KQ.thn hQ159 ?_
  clear hQ159 Q159
  refine sr fun Q161 hQ161 => ?_
  refine vm rfl rfl ?_
  refine RL.val (O.loadN (cs := [vI b1.f_Flows, v64 b1.f_Idle, v64 b1.f_Active, v64 b1.f_Packets, v64 b1.f_Bytes]) ag24 rfl (Cs.addsN [] ((hM.bx (i := 1) rfl)) rfl)) rfl ?_
  refine vm rfl rfl ?_
  refine RL.val (O.bld (cs := [v64 0, vI b1.f_Flows, v64 b1.f_Idle, v64 b1.f_Active, v64 b1.f_Packets, v64 b1.f_Bytes, .pointer (some ⟨g156, 0, none⟩), .slice none 0 0]) bt74 rfl (by kernel_rfl)) rfl ?_
  refine RL.eff (E.box (vs := [v64 0, vI b1.f_Flows, v64 b1.f_Idle, v64 b1.f_Active, v64 b1.f_Packets, v64 b1.f_Bytes, .pointer (some ⟨g156, 0, none⟩), .slice none 0 0]) hM rfl rfl) rfl fun v w163 hv => ?_
  clear hM
  obtain ⟨g162, rfl, hM, hf⟩ := hv
  refine va rfl rfl ?_
  refine va rfl rfl ?_
  refine nt hQ161 ?_
  clear hQ161 Q161
  refine KC.ret ?_
  refine KQ.rets Try.results7 (RVs.cons (RV.tm rfl) (RVs.cons (RV.tm rfl) RVs.nil)) ?_
  refine ⟨.tuple #[.pointer (some ⟨g162, 0, none⟩), vI 0], rfl, ?_⟩
  refine vm rfl rfl ?_
  refine RL.val (O.ext rfl rfl) rfl ?_
  refine RL.val (O.ext rfl rfl) rfl ?_
  refine va rfl rfl ?_
  refine va rfl rfl ?_
  refine nt hQ108 ?_
  clear hQ108 Q108
  replace hM := hM.pick [2, 3, 4] rfl (by decide)
  refine KC.seqH fun Q165 hQ165 => ?_
  refine KC.cut (fun a w169 => Kn 145 [(1, .slice A3 (lv2).length c4), (2, v8 ticks6), (7, .pointer none), (8, vI 2), (9, .pointer (some ⟨g162, 0, none⟩)), (10, vI 0), (41, vB true)] a ∧ Mem w [] w169 [.row A152 (Int.toNat (Ox.shl .i64 1 y128)) 102 39 ((List.replicate (Int.toNat (Ox.shl .i64 1 y128)) ((T_table_Slot.mk false (T_packet_Key.mk (T_addr_Addr.mk false (List.replicate 16 0)) (T_addr_Addr.mk false (List.replicate 16 0)) 0 0 0) 0) : T_table_Slot))).length (((List.replicate (Int.toNat (Ox.shl .i64 1 y128)) ((T_table_Slot.mk false (T_packet_Key.mk (T_addr_Addr.mk false (List.replicate 16 0)) (T_addr_Addr.mk false (List.replicate 16 0)) 0 0 0) 0) : T_table_Slot))).flatMap e_table_Slot), .box g156 96 [.slice A152 ((List.replicate (Int.toNat (Ox.shl .i64 1 y128)) ((T_table_Slot.mk false (T_packet_Key.mk (T_addr_Addr.mk false (List.replicate 16 0)) (T_addr_Addr.mk false (List.replicate 16 0)) 0 0 0) 0) : T_table_Slot))).length (Int.toNat (Ox.shl .i64 1 y128)), vI 0], .box g162 74 [v64 0, vI b1.f_Flows, v64 b1.f_Idle, v64 b1.f_Active, v64 b1.f_Packets, v64 b1.f_Bytes, .pointer (some ⟨g156, 0, none⟩), .slice none 0 0]] ∧ F_law24_CacheTicks_j17 = some r) ?_ ?_
  ·refine KC.region ?_
   refine vm rfl rfl ?_
   refine RL.val (O.neq rfl rfl) rfl ?_
   refine RL.brun1 4 41 true (by kernel_rfl) ?_
   refine RL.nil ?_
   refine KQ.then_k ?_
   exact fun a ha => ⟨ha.less (less_cons rfl (less_cons rfl (less_cons rfl (less_cons rfl (less_cons rfl (less_cons rfl (less_cons rfl less_nil))))))), hM, hF⟩
  rintro a w169 ⟨ha, hM, hF⟩
  refine KC.app ha ?_
  clear ha
  unfold F_law24_CacheTicks_j17 at hF
  refine KC.condT rfl ?_
  refine KC.cut (fun a w170 => Kn 145 [(6, vB false)] a ∧ Mem w [] w170 [] ∧ F_law24_CacheTicks_j18 = some r) ?_ ?_
  ·refine KC.region ?_
   refine vm rfl rfl ?_
   refine vm rfl rfl ?_
   refine RL.val (O.eql rfl rfl) rfl ?_
   refine vm rfl rfl ?_
   refine RL.gskip rfl rfl rfl rfl ?_
   refine RL.val (O.pickf rfl rfl) rfl ?_
   refine va rfl rfl ?_
   refine RL.nil ?_
   refine KQ.then_k ?_
   replace hM := hM.pick [] rfl (by decide)
   exact fun a ha => ⟨ha.less (less_cons rfl less_nil), hM, hF⟩
  rintro a w170 ⟨ha, hM, hF⟩
  refine KC.app ha ?_
  clear ha
  unfold F_law24_CacheTicks_j18 at hF
  refine KC.ret ?_
  refine KQ.thr hQ165 ?_
  clear hQ165 Q165
  have hE := Option.some.inj hF
  clear hF
  subst hE
  refine KQ.rets Try.results3 (RVs.cons (RV.tm rfl) RVs.nil) ?_
  exact ⟨_, rfl, rfl, hM⟩
 rw [if_neg (ne_true hc)] at hF
 refine KC.skip ?_
 refine KQ.thn hQ99 ?_
 clear hQ99 Q99
 refine sr fun Q171 hQ171 => ?_
 refine vm rfl rfl ?_
 refine cut_someE hF fun hq174 hF => ?_
 refine RL.eff (E.mks (enc := e_table_Slot) (zr := (T_table_Slot.mk false (T_packet_Key.mk (T_addr_Addr.mk false (List.replicate 16 0)) (T_addr_Addr.mk false (List.replicate 16 0)) 0 0 0) 0)) hM sl94 ze102 rfl rfl (fun _ => rfl) rfl rfl rfl (of_decide_eq_true hq174)) rfl fun v w173 hv => ?_
 clear hM
 obtain ⟨A172, rfl, hM, hf⟩ := hv
 refine RL.val (O.bld (cs := [.slice A172 ((List.replicate (Int.toNat (Ox.shl .i64 1 y93)) ((T_table_Slot.mk false (T_packet_Key.mk (T_addr_Addr.mk false (List.replicate 16 0)) (T_addr_Addr.mk false (List.replicate 16 0)) 0 0 0) 0) : T_table_Slot))).length (Int.toNat (Ox.shl .i64 1 y93)), vI 0]) bt96 rfl (by kernel_rfl)) rfl ?_
 refine RL.eff (E.box (vs := [.slice A172 ((List.replicate (Int.toNat (Ox.shl .i64 1 y93)) ((T_table_Slot.mk false (T_packet_Key.mk (T_addr_Addr.mk false (List.replicate 16 0)) (T_addr_Addr.mk false (List.replicate 16 0)) 0 0 0) 0) : T_table_Slot))).length (Int.toNat (Ox.shl .i64 1 y93)), vI 0]) hM rfl rfl) rfl fun v w177 hv => ?_
 clear hM
 obtain ⟨g176, rfl, hM, hf⟩ := hv
 refine va rfl rfl ?_
 refine va rfl rfl ?_
 refine nt hQ171 ?_
 clear hQ171 Q171
 refine KC.ret ?_
 refine KQ.rets Try.results24 (RVs.cons (RV.tm rfl) (RVs.cons (RV.tm rfl) RVs.nil)) ?_
 refine ⟨.tuple #[.pointer (some ⟨g176, 0, none⟩), vI 0], rfl, ?_⟩
 refine vm rfl rfl ?_
 refine RL.val (O.ext rfl rfl) rfl ?_
 refine RL.val (O.ext rfl rfl) rfl ?_
 refine va rfl rfl ?_
 refine va rfl rfl ?_
 refine nt hQ92 ?_
 clear hQ92 Q92
 refine KC.seqH fun Q179 hQ179 => ?_
 refine sr fun Q180 hQ180 => ?_
 refine vm rfl rfl ?_
 refine RL.val (O.neq rfl rfl) rfl ?_
 refine nt hQ180 ?_
 clear hQ180 Q180
 refine KC.condF rfl ?_
 refine KC.skip ?_
 refine KQ.thn hQ179 ?_
 clear hQ179 Q179
 refine sr fun Q181 hQ181 => ?_
 refine vm rfl rfl ?_
 refine RL.val (O.loadN (cs := [vI b1.f_Flows, v64 b1.f_Idle, v64 b1.f_Active, v64 b1.f_Packets, v64 b1.f_Bytes]) ag24 rfl (Cs.addsN [] ((hM.bx (i := 1) rfl)) rfl)) rfl ?_
 refine vm rfl rfl ?_
 refine RL.val (O.bld (cs := [v64 0, vI b1.f_Flows, v64 b1.f_Idle, v64 b1.f_Active, v64 b1.f_Packets, v64 b1.f_Bytes, .pointer (some ⟨g176, 0, none⟩), .slice none 0 0]) bt74 rfl (by kernel_rfl)) rfl ?_
 refine RL.eff (E.box (vs := [v64 0, vI b1.f_Flows, v64 b1.f_Idle, v64 b1.f_Active, v64 b1.f_Packets, v64 b1.f_Bytes, .pointer (some ⟨g176, 0, none⟩), .slice none 0 0]) hM rfl rfl) rfl fun v w183 hv => ?_
 clear hM
 obtain ⟨g182, rfl, hM, hf⟩ := hv
 refine va rfl rfl ?_
 refine va rfl rfl ?_
 refine nt hQ181 ?_
 clear hQ181 Q181
 refine KC.ret ?_
 refine KQ.rets Try.results7 (RVs.cons (RV.tm rfl) (RVs.cons (RV.tm rfl) RVs.nil)) ?_
 refine ⟨.tuple #[.pointer (some ⟨g182, 0, none⟩), vI 0], rfl, ?_⟩
 refine vm rfl rfl ?_
 refine RL.val (O.ext rfl rfl) rfl ?_
 refine RL.val (O.ext rfl rfl) rfl ?_
 refine va rfl rfl ?_
 refine va rfl rfl ?_
 refine nt hQ18 ?_
 clear hQ18 Q18
 replace hM := hM.pick [0, 2, 3, 4] rfl (by decide)
 refine sr fun Q185 hQ185 => ?_
 refine RL.val (O.loadN (cs := [vI b1.f_Flows, v64 b1.f_Idle, v64 b1.f_Active, v64 b1.f_Packets, v64 b1.f_Bytes]) ag24 rfl (Cs.addsN [] ((hM.bx (i := 0) rfl)) rfl)) rfl ?_
 refine RL.icall Try.func7 bd7 rfl rfl rfl Try.ntmps7 rfl ?_
 refine sr fun Q186 hQ186 => ?_
 refine RL.eff (E.box (vs := [vI b1.f_Flows, v64 b1.f_Idle, v64 b1.f_Active, v64 b1.f_Packets, v64 b1.f_Bytes]) hM rfl rfl) rfl fun v w188 hv => ?_
 clear hM
 obtain ⟨g187, rfl, hM, hf⟩ := hv
 refine va rfl rfl ?_
 refine va rfl rfl ?_
 refine nt hQ186 ?_
 clear hQ186 Q186
 refine KC.seqH fun Q190 hQ190 => ?_
 refine KC.cut (fun a w197 => ∃ (t192 : Bool), Kn 53 [(0, v64 0), (3, .pointer (some ⟨g187, 0, none⟩)), (35, vB t192)] a ∧ Mem w [] w197 [.box g187 24 [vI b1.f_Flows, v64 b1.f_Idle, v64 b1.f_Active, v64 b1.f_Packets, v64 b1.f_Bytes], .box g8 24 [vI b1.f_Flows, v64 b1.f_Idle, v64 b1.f_Active, v64 b1.f_Packets, v64 b1.f_Bytes], .row A172 (Int.toNat (Ox.shl .i64 1 y93)) 102 39 ((List.replicate (Int.toNat (Ox.shl .i64 1 y93)) ((T_table_Slot.mk false (T_packet_Key.mk (T_addr_Addr.mk false (List.replicate 16 0)) (T_addr_Addr.mk false (List.replicate 16 0)) 0 0 0) 0) : T_table_Slot))).length (((List.replicate (Int.toNat (Ox.shl .i64 1 y93)) ((T_table_Slot.mk false (T_packet_Key.mk (T_addr_Addr.mk false (List.replicate 16 0)) (T_addr_Addr.mk false (List.replicate 16 0)) 0 0 0) 0) : T_table_Slot))).flatMap e_table_Slot), .box g176 96 [.slice A172 ((List.replicate (Int.toNat (Ox.shl .i64 1 y93)) ((T_table_Slot.mk false (T_packet_Key.mk (T_addr_Addr.mk false (List.replicate 16 0)) (T_addr_Addr.mk false (List.replicate 16 0)) 0 0 0) 0) : T_table_Slot))).length (Int.toNat (Ox.shl .i64 1 y93)), vI 0], .box g182 74 [v64 0, vI b1.f_Flows, v64 b1.f_Idle, v64 b1.f_Active, v64 b1.f_Packets, v64 b1.f_Bytes, .pointer (some ⟨g176, 0, none⟩), .slice none 0 0]] ∧ F_law24_CacheTicks_j19 b1 lv2 ticks6 y93 t192 = some r) ?_ ?_
 ·refine KC.region ?_
  refine RL.val (O.fldA fl24_0 (by decide) rfl) rfl ?_
  refine RL.val (O.load sc3 rfl (Cs.adds [0] ((hM.bx (i := 4) rfl)) rfl)) rfl ?_
  refine RL.val (O.lss rfl rfl) rfl ?_
  refine vm rfl rfl ?_
  refine RL.bcase (t := 11) rfl (fun hc => ?_) (fun hc => ?_)
  ·rw [if_pos hc] at hF
   refine RL.brun1 24 35 true (by kernel_rfl) ?_
   refine RL.nil ?_
   refine KQ.then_k ?_
   replace hM := hM.pick [4, 0, 1, 2, 3] rfl (by decide)
   exact fun a ha => ⟨true, ha.less (less_cons rfl (less_cons rfl (less_cons rfl less_nil))), hM, hF⟩
  rw [if_neg (ne_true hc)] at hF
  refine RL.gval rfl rfl (O.fldA fl24_0 (by decide) rfl) rfl ?_
  refine RL.gval rfl rfl (O.load sc3 rfl (Cs.adds [0] ((hM.bx (i := 4) rfl)) rfl)) rfl ?_
  refine RL.gval rfl rfl (O.gtr rfl rfl) rfl ?_
  refine RL.val (O.pickf rfl rfl) rfl ?_
  refine vm rfl rfl ?_
  refine RL.bcase (t := 16) rfl (fun hc => ?_) (fun hc => ?_)
  ·rw [if_pos hc] at hF
   refine RL.brun1 19 35 true (by kernel_rfl) ?_
   refine RL.nil ?_
   refine KQ.then_k ?_
   replace hM := hM.pick [4, 0, 1, 2, 3] rfl (by decide)
   exact fun a ha => ⟨true, ha.less (less_cons rfl (less_cons rfl (less_cons rfl less_nil))), hM, hF⟩
  rw [if_neg (ne_true hc)] at hF
  refine RL.gval rfl rfl (O.fldA fl24_1 (by decide) rfl) rfl ?_
  refine RL.gval rfl rfl (O.load sc22 rfl (Cs.adds [1] ((hM.bx (i := 4) rfl)) rfl)) rfl ?_
  refine RL.gval rfl rfl (O.eql rfl rfl) rfl ?_
  refine RL.val (O.pickf rfl rfl) rfl ?_
  refine vm rfl rfl ?_
  refine RL.bcase (t := 21) rfl (fun hc => ?_) (fun hc => ?_)
  ·rw [if_pos hc] at hF
   refine RL.brun1 14 35 true (by kernel_rfl) ?_
   refine RL.nil ?_
   refine KQ.then_k ?_
   replace hM := hM.pick [4, 0, 1, 2, 3] rfl (by decide)
   exact fun a ha => ⟨true, ha.less (less_cons rfl (less_cons rfl (less_cons rfl less_nil))), hM, hF⟩
  rw [if_neg (ne_true hc)] at hF
  refine RL.gval rfl rfl (O.fldA fl24_2 (by decide) rfl) rfl ?_
  refine RL.gval rfl rfl (O.load sc22 rfl (Cs.adds [2] ((hM.bx (i := 4) rfl)) rfl)) rfl ?_
  refine RL.gval rfl rfl (O.eql rfl rfl) rfl ?_
  refine RL.val (O.pickf rfl rfl) rfl ?_
  refine vm rfl rfl ?_
  refine RL.bcase (t := 26) rfl (fun hc => ?_) (fun hc => ?_)
  ·rw [if_pos hc] at hF
   refine RL.brun1 9 35 true (by kernel_rfl) ?_
   refine RL.nil ?_
   refine KQ.then_k ?_
   replace hM := hM.pick [4, 0, 1, 2, 3] rfl (by decide)
   exact fun a ha => ⟨true, ha.less (less_cons rfl (less_cons rfl (less_cons rfl less_nil))), hM, hF⟩
  rw [if_neg (ne_true hc)] at hF
  refine RL.gval rfl rfl (O.fldA fl24_3 (by decide) rfl) rfl ?_
  refine RL.gval rfl rfl (O.load sc22 rfl (Cs.adds [3] ((hM.bx (i := 4) rfl)) rfl)) rfl ?_
  refine RL.gval rfl rfl (O.eql rfl rfl) rfl ?_
  refine RL.val (O.pickf rfl rfl) rfl ?_
  refine vm rfl rfl ?_
  refine RL.bcase (t := 31) rfl (fun hc => ?_) (fun hc => ?_)
  ·rw [if_pos hc] at hF
   refine RL.brun1 4 35 true (by kernel_rfl) ?_
   refine RL.nil ?_
   refine KQ.then_k ?_
   replace hM := hM.pick [4, 0, 1, 2, 3] rfl (by decide)
   exact fun a ha => ⟨true, ha.less (less_cons rfl (less_cons rfl (less_cons rfl less_nil))), hM, hF⟩
  rw [if_neg (ne_true hc)] at hF
  refine RL.gval rfl rfl (O.fldA fl24_4 (by decide) rfl) rfl ?_
  refine RL.gval rfl rfl (O.load sc22 rfl (Cs.adds [4] ((hM.bx (i := 4) rfl)) rfl)) rfl ?_
  refine RL.gval rfl rfl (O.eql rfl rfl) rfl ?_
  refine RL.val (O.pickf rfl rfl) rfl ?_
  refine RL.nil ?_
  refine KQ.then_k ?_
  replace hM := hM.pick [4, 0, 1, 2, 3] rfl (by decide)
  exact fun a ha => ⟨(b1.f_Bytes == 0), ha.less (less_cons rfl (less_cons rfl (less_cons rfl less_nil))), hM, hF⟩
 rintro a w197 ⟨t192, ha, hM, hF⟩
 refine KC.app ha ?_
 clear ha
 unfold F_law24_CacheTicks_j19 at hF
 refine KC.cond rfl (fun hc => ?_) (fun hc => ?_)
 ·rw [if_pos hc] at hF
  refine sr fun Q198 hQ198 => ?_
  refine va rfl rfl ?_
  refine va rfl rfl ?_
  refine nt hQ198 ?_
  clear hQ198 Q198
  refine KC.ret ?_
  refine KQ.thr hQ190 ?_
  clear hQ190 Q190
  refine KQ.rets Try.results7 (RVs.cons (RV.tm rfl) (RVs.cons (RV.tm rfl) RVs.nil)) ?_
  refine ⟨.tuple #[.pointer none, vI 2], rfl, ?_⟩
  refine vm rfl rfl ?_
  refine RL.val (O.ext rfl rfl) rfl ?_
  refine RL.val (O.ext rfl rfl) rfl ?_
  refine va rfl rfl ?_
  refine va rfl rfl ?_
  refine nt hQ185 ?_
  clear hQ185 Q185
  replace hM := hM.pick [2, 3, 4] rfl (by decide)
  refine KC.seqH fun Q199 hQ199 => ?_
  refine KC.cut (fun a w203 => Kn 145 [(1, .slice A3 (lv2).length c4), (2, v8 ticks6), (7, .pointer (some ⟨g182, 0, none⟩)), (8, vI 0), (9, .pointer none), (10, vI 2), (41, vB true)] a ∧ Mem w [] w203 [.row A172 (Int.toNat (Ox.shl .i64 1 y93)) 102 39 ((List.replicate (Int.toNat (Ox.shl .i64 1 y93)) ((T_table_Slot.mk false (T_packet_Key.mk (T_addr_Addr.mk false (List.replicate 16 0)) (T_addr_Addr.mk false (List.replicate 16 0)) 0 0 0) 0) : T_table_Slot))).length (((List.replicate (Int.toNat (Ox.shl .i64 1 y93)) ((T_table_Slot.mk false (T_packet_Key.mk (T_addr_Addr.mk false (List.replicate 16 0)) (T_addr_Addr.mk false (List.replicate 16 0)) 0 0 0) 0) : T_table_Slot))).flatMap e_table_Slot), .box g176 96 [.slice A172 ((List.replicate (Int.toNat (Ox.shl .i64 1 y93)) ((T_table_Slot.mk false (T_packet_Key.mk (T_addr_Addr.mk false (List.replicate 16 0)) (T_addr_Addr.mk false (List.replicate 16 0)) 0 0 0) 0) : T_table_Slot))).length (Int.toNat (Ox.shl .i64 1 y93)), vI 0], .box g182 74 [v64 0, vI b1.f_Flows, v64 b1.f_Idle, v64 b1.f_Active, v64 b1.f_Packets, v64 b1.f_Bytes, .pointer (some ⟨g176, 0, none⟩), .slice none 0 0]] ∧ F_law24_CacheTicks_j20 = some r) ?_ ?_
  ·refine KC.region ?_
   refine vm rfl rfl ?_
   refine RL.val (O.neq rfl rfl) rfl ?_
   refine vm rfl rfl ?_
   refine RL.gval rfl rfl (O.move rfl) rfl ?_
   refine RL.gval rfl rfl (O.neq rfl rfl) rfl ?_
   refine RL.val (O.pickf rfl rfl) rfl ?_
   refine RL.nil ?_
   refine KQ.then_k ?_
   exact fun a ha => ⟨ha.less (less_cons rfl (less_cons rfl (less_cons rfl (less_cons rfl (less_cons rfl (less_cons rfl (less_cons rfl less_nil))))))), hM, hF⟩
  rintro a w203 ⟨ha, hM, hF⟩
  refine KC.app ha ?_
  clear ha
  unfold F_law24_CacheTicks_j20 at hF
  refine KC.condT rfl ?_
  refine KC.cut (fun a w204 => Kn 145 [(6, vB false)] a ∧ Mem w [] w204 [] ∧ F_law24_CacheTicks_j21 = some r) ?_ ?_
  ·refine KC.region ?_
   refine vm rfl rfl ?_
   refine vm rfl rfl ?_
   refine RL.val (O.eql rfl rfl) rfl ?_
   refine vm rfl rfl ?_
   refine RL.gskip rfl rfl rfl rfl ?_
   refine RL.val (O.pickf rfl rfl) rfl ?_
   refine va rfl rfl ?_
   refine RL.nil ?_
   refine KQ.then_k ?_
   replace hM := hM.pick [] rfl (by decide)
   exact fun a ha => ⟨ha.less (less_cons rfl less_nil), hM, hF⟩
  rintro a w204 ⟨ha, hM, hF⟩
  refine KC.app ha ?_
  clear ha
  unfold F_law24_CacheTicks_j21 at hF
  refine KC.ret ?_
  refine KQ.thr hQ199 ?_
  clear hQ199 Q199
  have hE := Option.some.inj hF
  clear hF
  subst hE
  refine KQ.rets Try.results3 (RVs.cons (RV.tm rfl) RVs.nil) ?_
  exact ⟨_, rfl, rfl, hM⟩
 rw [if_neg (ne_true hc)] at hF
 refine KC.skip ?_
 refine KQ.thn hQ190 ?_
 clear hQ190 Q190
 refine sr fun Q205 hQ205 => ?_
 refine RL.val (O.fldA fl24_0 (by decide) rfl) rfl ?_
 refine RL.val (O.load sc3 rfl (Cs.adds [0] ((hM.bx (i := 0) rfl)) rfl)) rfl ?_
 refine RL.val (O.conv un3 Try.underlying72 rfl) rfl ?_
 refine obindE hF fun y206 hx207 hF => ?_
 refine RL.call Try.func25 bd25 rfl rfl (c_math_bits_Len _ (IntKind.u64.wrap b1.f_Flows) _ hx207) fun v w208 hv => ?_
 obtain ⟨rfl, hN209⟩ := hv
 replace hM := hM.call0 hN209
 refine cut_someE hF fun hq210 hF => ?_
 refine RL.val (O.shl rfl rfl (of_decide_eq_true hq210)) rfl ?_
 refine RL.icall Try.func24 bd24 rfl rfl rfl Try.ntmps24 rfl ?_
 refine sr fun Q211 hQ211 => ?_
 refine va rfl rfl ?_
 refine va rfl rfl ?_
 refine nt hQ211 ?_
 clear hQ211 Q211
 refine KC.seqH fun Q212 hQ212 => ?_
 refine KC.cut (fun a w219 => ∃ (h213 : Bool), Kn 21 [(0, vI (Ox.shl .i64 1 y206)), (16, vB h213)] a ∧ Mem w [] w219 [.box g8 24 [vI b1.f_Flows, v64 b1.f_Idle, v64 b1.f_Active, v64 b1.f_Packets, v64 b1.f_Bytes], .row A172 (Int.toNat (Ox.shl .i64 1 y93)) 102 39 ((List.replicate (Int.toNat (Ox.shl .i64 1 y93)) ((T_table_Slot.mk false (T_packet_Key.mk (T_addr_Addr.mk false (List.replicate 16 0)) (T_addr_Addr.mk false (List.replicate 16 0)) 0 0 0) 0) : T_table_Slot))).length (((List.replicate (Int.toNat (Ox.shl .i64 1 y93)) ((T_table_Slot.mk false (T_packet_Key.mk (T_addr_Addr.mk false (List.replicate 16 0)) (T_addr_Addr.mk false (List.replicate 16 0)) 0 0 0) 0) : T_table_Slot))).flatMap e_table_Slot), .box g176 96 [.slice A172 ((List.replicate (Int.toNat (Ox.shl .i64 1 y93)) ((T_table_Slot.mk false (T_packet_Key.mk (T_addr_Addr.mk false (List.replicate 16 0)) (T_addr_Addr.mk false (List.replicate 16 0)) 0 0 0) 0) : T_table_Slot))).length (Int.toNat (Ox.shl .i64 1 y93)), vI 0], .box g182 74 [v64 0, vI b1.f_Flows, v64 b1.f_Idle, v64 b1.f_Active, v64 b1.f_Packets, v64 b1.f_Bytes, .pointer (some ⟨g176, 0, none⟩), .slice none 0 0], .box g187 24 [vI b1.f_Flows, v64 b1.f_Idle, v64 b1.f_Active, v64 b1.f_Packets, v64 b1.f_Bytes]] ∧ F_law24_CacheTicks_j22 b1 lv2 ticks6 y93 y206 h213 = some r) ?_ ?_
 ·refine KC.region ?_
  refine vm rfl rfl ?_
  refine RL.val (O.lss rfl rfl) rfl ?_
  refine vm rfl rfl ?_
  refine RL.bcase (t := 6) rfl (fun hc => ?_) (fun hc => ?_)
  ·rw [if_pos hc] at hF
   refine RL.brun1 10 16 true (by kernel_rfl) ?_
   refine RL.nil ?_
   refine KQ.then_k ?_
   replace hM := hM.pick [1, 2, 3, 4, 0] rfl (by decide)
   exact fun a ha => ⟨true, ha.less (less_cons rfl (less_cons rfl less_nil)), hM, hF⟩
  rw [if_neg (ne_true hc)] at hF
  refine RL.gval rfl rfl (O.move rfl) rfl ?_
  refine RL.gval rfl rfl (O.gtr rfl rfl) rfl ?_
  refine RL.val (O.pickf rfl rfl) rfl ?_
  refine vm rfl rfl ?_
  refine RL.bcase (t := 10) rfl (fun hc => ?_) (fun hc => ?_)
  ·rw [if_pos hc] at hF
   refine RL.brun1 6 16 true (by kernel_rfl) ?_
   refine RL.nil ?_
   refine KQ.then_k ?_
   replace hM := hM.pick [1, 2, 3, 4, 0] rfl (by decide)
   exact fun a ha => ⟨true, ha.less (less_cons rfl (less_cons rfl less_nil)), hM, hF⟩
  rw [if_neg (ne_true hc)] at hF
  refine RL.gval rfl rfl (O.move rfl) rfl ?_
  refine RL.gval rfl rfl (O.move rfl) rfl ?_
  refine RL.gval rfl rfl (O.sub rfl rfl) rfl ?_
  refine RL.gval rfl rfl (O.and rfl rfl) rfl ?_
  refine RL.gval rfl rfl (O.neq rfl rfl) rfl ?_
  refine RL.val (O.pickf rfl rfl) rfl ?_
  refine RL.nil ?_
  refine KQ.then_k ?_
  replace hM := hM.pick [1, 2, 3, 4, 0] rfl (by decide)
  exact fun a ha => ⟨((bits .and .i64 (Ox.shl .i64 1 y206) (IntKind.i64.wrap ((Ox.shl .i64 1 y206) - 1))) != 0), ha.less (less_cons rfl (less_cons rfl less_nil)), hM, hF⟩
 rintro a w219 ⟨h213, ha, hM, hF⟩
 refine KC.app ha ?_
 clear ha
 unfold F_law24_CacheTicks_j22 at hF
 refine KC.cond rfl (fun hc => ?_) (fun hc => ?_)
 ·rw [if_pos hc] at hF
  refine sr fun Q220 hQ220 => ?_
  refine va rfl rfl ?_
  refine va rfl rfl ?_
  refine nt hQ220 ?_
  clear hQ220 Q220
  refine KC.ret ?_
  refine KQ.thr hQ212 ?_
  clear hQ212 Q212
  refine KQ.rets Try.results24 (RVs.cons (RV.tm rfl) (RVs.cons (RV.tm rfl) RVs.nil)) ?_
  refine ⟨.tuple #[.pointer none, vI 2], rfl, ?_⟩
  refine vm rfl rfl ?_
  refine RL.val (O.ext rfl rfl) rfl ?_
  refine RL.val (O.ext rfl rfl) rfl ?_
  refine va rfl rfl ?_
  refine va rfl rfl ?_
  refine nt hQ205 ?_
  clear hQ205 Q205
  refine KC.seqH fun Q221 hQ221 => ?_
  refine sr fun Q222 hQ222 => ?_
  refine vm rfl rfl ?_
  refine RL.val (O.neq rfl rfl) rfl ?_
  refine nt hQ222 ?_
  clear hQ222 Q222
  refine KC.condT rfl ?_
  refine sr fun Q223 hQ223 => ?_
  refine vm rfl rfl ?_
  refine va rfl rfl ?_
  refine va rfl rfl ?_
  refine nt hQ223 ?_
  clear hQ223 Q223
  refine KC.ret ?_
  refine KQ.thr hQ221 ?_
  clear hQ221 Q221
  refine KQ.rets Try.results7 (RVs.cons (RV.tm rfl) (RVs.cons (RV.tm rfl) RVs.nil)) ?_
  refine ⟨.tuple #[.pointer none, vI 2], rfl, ?_⟩
  refine vm rfl rfl ?_
  refine RL.val (O.ext rfl rfl) rfl ?_
  refine RL.val (O.ext rfl rfl) rfl ?_
  refine va rfl rfl ?_
  refine va rfl rfl ?_
  refine nt hQ185 ?_
  clear hQ185 Q185
  replace hM := hM.pick [1, 2, 3] rfl (by decide)
  refine KC.seqH fun Q224 hQ224 => ?_
  refine KC.cut (fun a w228 => Kn 145 [(1, .slice A3 (lv2).length c4), (2, v8 ticks6), (7, .pointer (some ⟨g182, 0, none⟩)), (8, vI 0), (9, .pointer none), (10, vI 2), (41, vB true)] a ∧ Mem w [] w228 [.row A172 (Int.toNat (Ox.shl .i64 1 y93)) 102 39 ((List.replicate (Int.toNat (Ox.shl .i64 1 y93)) ((T_table_Slot.mk false (T_packet_Key.mk (T_addr_Addr.mk false (List.replicate 16 0)) (T_addr_Addr.mk false (List.replicate 16 0)) 0 0 0) 0) : T_table_Slot))).length (((List.replicate (Int.toNat (Ox.shl .i64 1 y93)) ((T_table_Slot.mk false (T_packet_Key.mk (T_addr_Addr.mk false (List.replicate 16 0)) (T_addr_Addr.mk false (List.replicate 16 0)) 0 0 0) 0) : T_table_Slot))).flatMap e_table_Slot), .box g176 96 [.slice A172 ((List.replicate (Int.toNat (Ox.shl .i64 1 y93)) ((T_table_Slot.mk false (T_packet_Key.mk (T_addr_Addr.mk false (List.replicate 16 0)) (T_addr_Addr.mk false (List.replicate 16 0)) 0 0 0) 0) : T_table_Slot))).length (Int.toNat (Ox.shl .i64 1 y93)), vI 0], .box g182 74 [v64 0, vI b1.f_Flows, v64 b1.f_Idle, v64 b1.f_Active, v64 b1.f_Packets, v64 b1.f_Bytes, .pointer (some ⟨g176, 0, none⟩), .slice none 0 0]] ∧ F_law24_CacheTicks_j23 = some r) ?_ ?_
  ·refine KC.region ?_
   refine vm rfl rfl ?_
   refine RL.val (O.neq rfl rfl) rfl ?_
   refine vm rfl rfl ?_
   refine RL.gval rfl rfl (O.move rfl) rfl ?_
   refine RL.gval rfl rfl (O.neq rfl rfl) rfl ?_
   refine RL.val (O.pickf rfl rfl) rfl ?_
   refine RL.nil ?_
   refine KQ.then_k ?_
   exact fun a ha => ⟨ha.less (less_cons rfl (less_cons rfl (less_cons rfl (less_cons rfl (less_cons rfl (less_cons rfl (less_cons rfl less_nil))))))), hM, hF⟩
  rintro a w228 ⟨ha, hM, hF⟩
  refine KC.app ha ?_
  clear ha
  unfold F_law24_CacheTicks_j23 at hF
  refine KC.condT rfl ?_
  refine KC.cut (fun a w229 => Kn 145 [(6, vB false)] a ∧ Mem w [] w229 [] ∧ F_law24_CacheTicks_j24 = some r) ?_ ?_
  ·refine KC.region ?_
   refine vm rfl rfl ?_
   refine vm rfl rfl ?_
   refine RL.val (O.eql rfl rfl) rfl ?_
   refine vm rfl rfl ?_
   refine RL.gskip rfl rfl rfl rfl ?_
   refine RL.val (O.pickf rfl rfl) rfl ?_
   refine va rfl rfl ?_
   refine RL.nil ?_
   refine KQ.then_k ?_
   replace hM := hM.pick [] rfl (by decide)
   exact fun a ha => ⟨ha.less (less_cons rfl less_nil), hM, hF⟩
  rintro a w229 ⟨ha, hM, hF⟩
  refine KC.app ha ?_
  clear ha
  unfold F_law24_CacheTicks_j24 at hF
  refine KC.ret ?_
  refine KQ.thr hQ224 ?_
  clear hQ224 Q224
  have hE := Option.some.inj hF
  clear hF
  subst hE
  refine KQ.rets Try.results3 (RVs.cons (RV.tm rfl) RVs.nil) ?_
  exact ⟨_, rfl, rfl, hM⟩
 rw [if_neg (ne_true hc)] at hF
 refine KC.skip ?_
 refine KQ.thn hQ212 ?_
 clear hQ212 Q212
 refine sr fun Q230 hQ230 => ?_
 refine vm rfl rfl ?_
 refine cut_someE hF fun hq233 hF => ?_
 refine RL.eff (E.mks (enc := e_table_Slot) (zr := (T_table_Slot.mk false (T_packet_Key.mk (T_addr_Addr.mk false (List.replicate 16 0)) (T_addr_Addr.mk false (List.replicate 16 0)) 0 0 0) 0)) hM sl94 ze102 rfl rfl (fun _ => rfl) rfl rfl rfl (of_decide_eq_true hq233)) rfl fun v w232 hv => ?_
 clear hM
 obtain ⟨A231, rfl, hM, hf⟩ := hv
 refine RL.val (O.bld (cs := [.slice A231 ((List.replicate (Int.toNat (Ox.shl .i64 1 y206)) ((T_table_Slot.mk false (T_packet_Key.mk (T_addr_Addr.mk false (List.replicate 16 0)) (T_addr_Addr.mk false (List.replicate 16 0)) 0 0 0) 0) : T_table_Slot))).length (Int.toNat (Ox.shl .i64 1 y206)), vI 0]) bt96 rfl (by kernel_rfl)) rfl ?_
 refine RL.eff (E.box (vs := [.slice A231 ((List.replicate (Int.toNat (Ox.shl .i64 1 y206)) ((T_table_Slot.mk false (T_packet_Key.mk (T_addr_Addr.mk false (List.replicate 16 0)) (T_addr_Addr.mk false (List.replicate 16 0)) 0 0 0) 0) : T_table_Slot))).length (Int.toNat (Ox.shl .i64 1 y206)), vI 0]) hM rfl rfl) rfl fun v w236 hv => ?_
 clear hM
 obtain ⟨g235, rfl, hM, hf⟩ := hv
 refine va rfl rfl ?_
 refine va rfl rfl ?_
 refine nt hQ230 ?_
 clear hQ230 Q230
 refine KC.ret ?_
 refine KQ.rets Try.results24 (RVs.cons (RV.tm rfl) (RVs.cons (RV.tm rfl) RVs.nil)) ?_
 refine ⟨.tuple #[.pointer (some ⟨g235, 0, none⟩), vI 0], rfl, ?_⟩
 refine vm rfl rfl ?_
 refine RL.val (O.ext rfl rfl) rfl ?_
 refine RL.val (O.ext rfl rfl) rfl ?_
 refine va rfl rfl ?_
 refine va rfl rfl ?_
 refine nt hQ205 ?_
 clear hQ205 Q205
 refine KC.seqH fun Q238 hQ238 => ?_
 refine sr fun Q239 hQ239 => ?_
 refine vm rfl rfl ?_
 refine RL.val (O.neq rfl rfl) rfl ?_
 refine nt hQ239 ?_
 clear hQ239 Q239
 refine KC.condF rfl ?_
 refine KC.skip ?_
 refine KQ.thn hQ238 ?_
 clear hQ238 Q238
 refine sr fun Q240 hQ240 => ?_
 refine vm rfl rfl ?_
 refine RL.val (O.loadN (cs := [vI b1.f_Flows, v64 b1.f_Idle, v64 b1.f_Active, v64 b1.f_Packets, v64 b1.f_Bytes]) ag24 rfl (Cs.addsN [] ((hM.bx (i := 4) rfl)) rfl)) rfl ?_
 refine vm rfl rfl ?_
 refine RL.val (O.bld (cs := [v64 0, vI b1.f_Flows, v64 b1.f_Idle, v64 b1.f_Active, v64 b1.f_Packets, v64 b1.f_Bytes, .pointer (some ⟨g235, 0, none⟩), .slice none 0 0]) bt74 rfl (by kernel_rfl)) rfl ?_
 refine RL.eff (E.box (vs := [v64 0, vI b1.f_Flows, v64 b1.f_Idle, v64 b1.f_Active, v64 b1.f_Packets, v64 b1.f_Bytes, .pointer (some ⟨g235, 0, none⟩), .slice none 0 0]) hM rfl rfl) rfl fun v w242 hv => ?_
 clear hM
 obtain ⟨g241, rfl, hM, hf⟩ := hv
 refine va rfl rfl ?_
 refine va rfl rfl ?_
 refine nt hQ240 ?_
 clear hQ240 Q240
 refine KC.ret ?_
 refine KQ.rets Try.results7 (RVs.cons (RV.tm rfl) (RVs.cons (RV.tm rfl) RVs.nil)) ?_
 refine ⟨.tuple #[.pointer (some ⟨g241, 0, none⟩), vI 0], rfl, ?_⟩
 refine vm rfl rfl ?_
 refine RL.val (O.ext rfl rfl) rfl ?_
 refine RL.val (O.ext rfl rfl) rfl ?_
 refine va rfl rfl ?_
 refine va rfl rfl ?_
 refine nt hQ185 ?_
 clear hQ185 Q185
 replace hM := hM.pick [1, 2, 3, 5, 6, 7] rfl (by decide)
 refine KC.seqH fun Q244 hQ244 => ?_
 refine KC.cut (fun a w251 => Kn 145 [(1, .slice A3 (lv2).length c4), (2, v8 ticks6), (7, .pointer (some ⟨g182, 0, none⟩)), (8, vI 0), (9, .pointer (some ⟨g241, 0, none⟩)), (10, vI 0), (41, vB false)] a ∧ Mem w [] w251 [.row A172 (Int.toNat (Ox.shl .i64 1 y93)) 102 39 ((List.replicate (Int.toNat (Ox.shl .i64 1 y93)) ((T_table_Slot.mk false (T_packet_Key.mk (T_addr_Addr.mk false (List.replicate 16 0)) (T_addr_Addr.mk false (List.replicate 16 0)) 0 0 0) 0) : T_table_Slot))).length (((List.replicate (Int.toNat (Ox.shl .i64 1 y93)) ((T_table_Slot.mk false (T_packet_Key.mk (T_addr_Addr.mk false (List.replicate 16 0)) (T_addr_Addr.mk false (List.replicate 16 0)) 0 0 0) 0) : T_table_Slot))).flatMap e_table_Slot), .box g176 96 [.slice A172 ((List.replicate (Int.toNat (Ox.shl .i64 1 y93)) ((T_table_Slot.mk false (T_packet_Key.mk (T_addr_Addr.mk false (List.replicate 16 0)) (T_addr_Addr.mk false (List.replicate 16 0)) 0 0 0) 0) : T_table_Slot))).length (Int.toNat (Ox.shl .i64 1 y93)), vI 0], .box g182 74 [v64 0, vI b1.f_Flows, v64 b1.f_Idle, v64 b1.f_Active, v64 b1.f_Packets, v64 b1.f_Bytes, .pointer (some ⟨g176, 0, none⟩), .slice none 0 0], .row A231 (Int.toNat (Ox.shl .i64 1 y206)) 102 39 ((List.replicate (Int.toNat (Ox.shl .i64 1 y206)) ((T_table_Slot.mk false (T_packet_Key.mk (T_addr_Addr.mk false (List.replicate 16 0)) (T_addr_Addr.mk false (List.replicate 16 0)) 0 0 0) 0) : T_table_Slot))).length (((List.replicate (Int.toNat (Ox.shl .i64 1 y206)) ((T_table_Slot.mk false (T_packet_Key.mk (T_addr_Addr.mk false (List.replicate 16 0)) (T_addr_Addr.mk false (List.replicate 16 0)) 0 0 0) 0) : T_table_Slot))).flatMap e_table_Slot), .box g235 96 [.slice A231 ((List.replicate (Int.toNat (Ox.shl .i64 1 y206)) ((T_table_Slot.mk false (T_packet_Key.mk (T_addr_Addr.mk false (List.replicate 16 0)) (T_addr_Addr.mk false (List.replicate 16 0)) 0 0 0) 0) : T_table_Slot))).length (Int.toNat (Ox.shl .i64 1 y206)), vI 0], .box g241 74 [v64 0, vI b1.f_Flows, v64 b1.f_Idle, v64 b1.f_Active, v64 b1.f_Packets, v64 b1.f_Bytes, .pointer (some ⟨g235, 0, none⟩), .slice none 0 0]] ∧ F_law24_CacheTicks_j25 b1 lv2 ticks6 y93 y206 = some r) ?_ ?_
 ·refine KC.region ?_
  refine vm rfl rfl ?_
  refine RL.val (O.neq rfl rfl) rfl ?_
  refine vm rfl rfl ?_
  refine RL.gval rfl rfl (O.move rfl) rfl ?_
  refine RL.gval rfl rfl (O.neq rfl rfl) rfl ?_
  refine RL.val (O.pickf rfl rfl) rfl ?_
  refine RL.nil ?_
  refine KQ.then_k ?_
  exact fun a ha => ⟨ha.less (less_cons rfl (less_cons rfl (less_cons rfl (less_cons rfl (less_cons rfl (less_cons rfl (less_cons rfl less_nil))))))), hM, hF⟩
 rintro a w251 ⟨ha, hM, hF⟩
 refine KC.app ha ?_
 clear ha
 unfold F_law24_CacheTicks_j25 at hF
 refine KC.condF rfl ?_
 refine KC.skip ?_
 refine KQ.thn hQ244 ?_
 clear hQ244 Q244
 refine sr fun Q252 hQ252 => ?_
 refine va rfl rfl ?_
 refine nt hQ252 ?_
 clear hQ252 Q252
 refine KC.seqH fun Q253 hQ253 => ?_
 refine sr fun Q254 hQ254 => ?_
 refine va rfl rfl ?_
 refine nt hQ254 ?_
 clear hQ254 Q254
 refine KC.block ?_
 refine KC.loop (fun k459 a w457 => ∃ (g427 : Nat) (A429 : Option Addr) (c430 : Nat) (A434 : Option Addr) (c435 : Nat) (g445 : Nat) (A447 : Option Addr) (c448 : Nat) (A452 : Option Addr) (c453 : Nat) (cv420 : Int) (cv421 : Int) (cv422 : Int) (cv423 : Int) (cv424 : Int) (cv425 : Int) (cv431 : List T_table_Slot) (cv432 : Int) (cv436 : List T_flow_Record) (d438 : Int) (d439 : Int) (d440 : Int) (d441 : Int) (d442 : Int) (d443 : Int) (d449 : List T_table_Slot) (d450 : Int) (d454 : List T_flow_Record) (tick455 : Int) (i456 : Int), Kn 145 [(1, .slice A3 (lv2).length c4), (2, v8 ticks6), (7, .pointer (some ⟨g182, 0, none⟩)), (9, .pointer (some ⟨g241, 0, none⟩)), (11, v64 tick455), (12, vI i456)] a ∧ Mem w [] w457 [.row A429 c430 102 39 (cv431).length ((cv431).flatMap e_table_Slot), .box g427 96 [.slice A429 (cv431).length c430, vI cv432], .row A434 c435 46 44 (cv436).length ((cv436).flatMap e_flow_Record), .box g182 74 [v64 cv420, vI cv421, v64 cv422, v64 cv423, v64 cv424, v64 cv425, .pointer (some ⟨g427, 0, none⟩), .slice A434 (cv436).length c435], .row A447 c448 102 39 (d449).length ((d449).flatMap e_table_Slot), .box g445 96 [.slice A447 (d449).length c448, vI d450], .row A452 c453 46 44 (d454).length ((d454).flatMap e_flow_Record), .box g241 74 [v64 d438, vI d439, v64 d440, v64 d441, v64 d442, v64 d443, .pointer (some ⟨g445, 0, none⟩), .slice A452 (d454).length c453]] ∧ F_law24_CacheTicks_L1 lv2 ticks6 k459 cv420 cv421 cv422 cv423 cv424 cv425 cv431 cv432 cv436 d438 d439 d440 d441 d442 d443 d449 d450 d454 tick455 i456 = some r) ?_ ?_
 ·replace hM := hM.nilrow 46 44
  replace hM := hM.nilrow 46 44
  replace hM := hM.pick [0, 1, 6, 2, 3, 4, 7, 5] rfl (by decide)
  exact fun a ha => ⟨fuel0, g176, A172, (Int.toNat (Ox.shl .i64 1 y93)), none, 0, g235, A231, (Int.toNat (Ox.shl .i64 1 y206)), none, 0, 0, b1.f_Flows, b1.f_Idle, b1.f_Active, b1.f_Packets, b1.f_Bytes, (List.replicate (Int.toNat (Ox.shl .i64 1 y93)) ((T_table_Slot.mk false (T_packet_Key.mk (T_addr_Addr.mk false (List.replicate 16 0)) (T_addr_Addr.mk false (List.replicate 16 0)) 0 0 0) 0) : T_table_Slot)), 0, ([]), 0, b1.f_Flows, b1.f_Idle, b1.f_Active, b1.f_Packets, b1.f_Bytes, (List.replicate (Int.toNat (Ox.shl .i64 1 y206)) ((T_table_Slot.mk false (T_packet_Key.mk (T_addr_Addr.mk false (List.replicate 16 0)) (T_addr_Addr.mk false (List.replicate 16 0)) 0 0 0) 0) : T_table_Slot)), 0, ([]), 0, 0, ha.less (less_cons rfl (less_cons rfl (less_cons rfl (less_cons rfl (less_cons rfl (less_cons rfl less_nil)))))), hM, hF⟩
 rintro k459 a w457 ⟨g427, A429, c430, A434, c435, g445, A447, c448, A452, c453, cv420, cv421, cv422, cv423, cv424, cv425, cv431, cv432, cv436, d438, d439, d440, d441, d442, d443, d449, d450, d454, tick455, i456, ha, hM, hF⟩
 refine KC.app ha ?_
 clear ha
 cases k459 with
 | zero => exact (none_some hF).elim
 | succ k459 =>
 have hF : F_law24_CacheTicks_l1 (F_law24_CacheTicks_L1 lv2 ticks6 k459) lv2 ticks6 cv420 cv421 cv422 cv423 cv424 cv425 cv431 cv432 cv436 d438 d439 d440 d441 d442 d443 d449 d450 d454 tick455 i456 = some r := hF
 unfold F_law24_CacheTicks_l1 at hF
 refine KC.seqH fun Q460 hQ460 => ?_
 refine sr fun Q461 hQ461 => ?_
 refine vm rfl rfl ?_
 refine vm rfl rfl ?_
 refine RL.val (O.len sl25 rfl) rfl ?_
 refine RL.val (O.lss rfl rfl) rfl ?_
 refine nt hQ461 ?_
 clear hQ461 Q461
 refine KC.cond rfl (fun hc => ?_) (fun hc => ?_)
 ·rw [if_pos hc] at hF
  refine KC.skip ?_
  refine KQ.thn hQ460 ?_
  clear hQ460 Q460
  refine KC.seqH fun Q462 hQ462 => ?_
  refine KC.block ?_
  refine sr fun Q463 hQ463 => ?_
  refine vm rfl rfl ?_
  refine vm rfl rfl ?_
  refine vm rfl rfl ?_
  refine obindE hF fun xv466 hx465 hF => ?_
  have hA464 := Rd.atN (f := e_law24_Act) (s := 43) (fun _ => rfl) (by decide) (hM.inp hr5 Off.nil) hx465
  refine RL.val (O.idxA sl25 (hA464) rfl rfl) rfl ?_
  refine RL.val (O.fldA fl40_3 (by decide) rfl) rfl ?_
  refine RL.val (O.load sc22 rfl (Cs.adds [42] (hA464).cells rfl)) rfl ?_
  refine RL.val (O.rem rfl rfl (by decide)) rfl ?_
  refine RL.val (O.add rfl rfl) rfl ?_
  refine va rfl rfl ?_
  refine nt hQ463 ?_
  clear hQ463 Q463
  refine KC.seqH fun Q467 hQ467 => ?_
  replace hM := hM.drewN 1
  refine KC.draw [] [12] [12] [0, 1, 2, 4, 6, 7, 9, 11, 13, 14, 15, 16, 17] (.ofList [0, 1, 2, 3, 4, 5, 6, 7, 8, 9, 10, 11, 12, 13, 14, 15, 16, 17]) moP (by kernel_rfl) ?_
  refine RD.p rfl rfl rfl rfl (fun w' => O.move rfl) ?_
  refine RD.p rfl rfl rfl rfl (fun w' => O.move rfl) ?_
  refine RD.p rfl rfl rfl rfl (fun w' => O.move rfl) ?_
  refine obindE hF fun xv470 hx469 hF => ?_
  have hA468 := Rd.atN (f := e_law24_Act) (s := 43) (fun _ => rfl) (by decide) (hM.inp hr5 Off.nil) hx469
  refine RD.q rfl rfl rfl rfl (fun w' hf => O.idxA sl25 (hA468.fut hf) rfl rfl) ?_
  refine RD.p rfl rfl rfl rfl (fun w' => O.fldA fl40_1 (by decide) rfl) ?_
  refine RD.q rfl rfl rfl rfl (fun w' hf => O.loadN (cs := [vB xv470.f_Packet.f_Key.f_Src.f_Six, o8 xv470.f_Packet.f_Key.f_Src.f_B 0, o8 xv470.f_Packet.f_Key.f_Src.f_B 1, o8 xv470.f_Packet.f_Key.f_Src.f_B 2, o8 xv470.f_Packet.f_Key.f_Src.f_B 3, o8 xv470.f_Packet.f_Key.f_Src.f_B 4, o8 xv470.f_Packet.f_Key.f_Src.f_B 5, o8 xv470.f_Packet.f_Key.f_Src.f_B 6, o8 xv470.f_Packet.f_Key.f_Src.f_B 7, o8 xv470.f_Packet.f_Key.f_Src.f_B 8, o8 xv470.f_Packet.f_Key.f_Src.f_B 9, o8 xv470.f_Packet.f_Key.f_Src.f_B 10, o8 xv470.f_Packet.f_Key.f_Src.f_B 11, o8 xv470.f_Packet.f_Key.f_Src.f_B 12, o8 xv470.f_Packet.f_Key.f_Src.f_B 13, o8 xv470.f_Packet.f_Key.f_Src.f_B 14, o8 xv470.f_Packet.f_Key.f_Src.f_B 15, vB xv470.f_Packet.f_Key.f_Dst.f_Six, o8 xv470.f_Packet.f_Key.f_Dst.f_B 0, o8 xv470.f_Packet.f_Key.f_Dst.f_B 1, o8 xv470.f_Packet.f_Key.f_Dst.f_B 2, o8 xv470.f_Packet.f_Key.f_Dst.f_B 3, o8 xv470.f_Packet.f_Key.f_Dst.f_B 4, o8 xv470.f_Packet.f_Key.f_Dst.f_B 5, o8 xv470.f_Packet.f_Key.f_Dst.f_B 6, o8 xv470.f_Packet.f_Key.f_Dst.f_B 7, o8 xv470.f_Packet.f_Key.f_Dst.f_B 8, o8 xv470.f_Packet.f_Key.f_Dst.f_B 9, o8 xv470.f_Packet.f_Key.f_Dst.f_B 10, o8 xv470.f_Packet.f_Key.f_Dst.f_B 11, o8 xv470.f_Packet.f_Key.f_Dst.f_B 12, o8 xv470.f_Packet.f_Key.f_Dst.f_B 13, o8 xv470.f_Packet.f_Key.f_Dst.f_B 14, o8 xv470.f_Packet.f_Key.f_Dst.f_B 15, v8 xv470.f_Packet.f_Key.f_Proto, v16 xv470.f_Packet.f_Key.f_SrcPort, v16 xv470.f_Packet.f_Key.f_DstPort, vI xv470.f_Packet.f_Length, v8 xv470.f_Packet.f_Flags, vB xv470.f_Packet.f_Fragment]) ag38 rfl (Cs.addsN [1] (hA468.fut hf).cells rfl)) ?_
  refine RD.p rfl rfl rfl rfl (fun w' => O.move rfl) ?_
  refine RD.p rfl rfl rfl rfl (fun w' => O.move rfl) ?_
  refine obindE hF fun xv473 hx472 hF => ?_
  have hA471 := Rd.atN (f := e_law24_Act) (s := 43) (fun _ => rfl) (by decide) (hM.inp hr5 Off.nil) hx472
  refine RD.q rfl rfl rfl rfl (fun w' hf => O.idxA sl25 (hA471.fut hf) rfl rfl) ?_
  refine RD.p rfl rfl rfl rfl (fun w' => O.fldA fl40_2 (by decide) rfl) ?_
  refine RD.q rfl rfl rfl rfl (fun w' hf => O.load sc5 rfl (Cs.adds [41] (hA471.fut hf).cells rfl)) ?_
  refine RD.p rfl rfl rfl rfl (fun w' => O.move rfl) ?_
  refine obindE hF fun y474 hx475 hF => ?_
  refine RD.mcall rfl rfl trivial Try.func8 bd8 rfl rfl (c_cache_Cache_Account _ _ _ (T_cache_Cache.mk cv420 (T_cache_Bounds.mk cv421 cv422 cv423 cv424 cv425) (T_table_Table.mk cv431 cv432) cv436) _ _ _ _ _ (hM.lent [3, 1, 0, 2] rfl (by decide)) xv470.f_Packet xv473.f_Class (IntKind.u64.wrap (tick455 + (Int.tmod xv466.f_Tick 8))) _ hx475) fun v w476 hv => ?_
  obtain ⟨g478, A480, c481, A483, c484, A486, c487, rfl, hN477⟩ := hv
  refine ⟨fun h => (by cases h), ?_⟩
  replace hM := hM.callL [3, 1, 0, 2] [4, 5, 6, 7] rfl rfl (by decide) rfl hN477
  refine RD.p rfl rfl rfl rfl (fun w' => O.move rfl) ?_
  refine RD.p rfl rfl rfl rfl (fun w' => O.ext rfl rfl) ?_
  refine RD.p rfl rfl rfl rfl (fun w' => O.ext rfl rfl) ?_
  refine RD.p rfl rfl rfl rfl (fun w' => O.assign rfl) ?_
  refine RD.p rfl rfl rfl rfl (fun w' => O.assign rfl) ?_
  refine RD.nil ?_
  refine KQ.thn hQ467 ?_
  clear hQ467 Q467
  refine KC.seqH fun Q489 hQ489 => ?_
  replace hM := hM.drewN 1
  refine KC.draw [] [12] [12] [0, 1, 2, 4, 6, 7, 9, 11, 13, 14, 15, 16, 17] (.ofList [0, 1, 2, 3, 4, 5, 6, 7, 8, 9, 10, 11, 12, 13, 14, 15, 16, 17]) moP (by kernel_rfl) ?_
  refine RD.p rfl rfl rfl rfl (fun w' => O.move rfl) ?_
  refine RD.p rfl rfl rfl rfl (fun w' => O.move rfl) ?_
  refine RD.p rfl rfl rfl rfl (fun w' => O.move rfl) ?_
  refine obindE hF fun xv492 hx491 hF => ?_
  have hA490 := Rd.atN (f := e_law24_Act) (s := 43) (fun _ => rfl) (by decide) (hM.inp hr5 Off.nil) hx491
  refine RD.q rfl rfl rfl rfl (fun w' hf => O.idxA sl25 (hA490.fut hf) rfl rfl) ?_
  refine RD.p rfl rfl rfl rfl (fun w' => O.fldA fl40_1 (by decide) rfl) ?_
  refine RD.q rfl rfl rfl rfl (fun w' hf => O.loadN (cs := [vB xv492.f_Packet.f_Key.f_Src.f_Six, o8 xv492.f_Packet.f_Key.f_Src.f_B 0, o8 xv492.f_Packet.f_Key.f_Src.f_B 1, o8 xv492.f_Packet.f_Key.f_Src.f_B 2, o8 xv492.f_Packet.f_Key.f_Src.f_B 3, o8 xv492.f_Packet.f_Key.f_Src.f_B 4, o8 xv492.f_Packet.f_Key.f_Src.f_B 5, o8 xv492.f_Packet.f_Key.f_Src.f_B 6, o8 xv492.f_Packet.f_Key.f_Src.f_B 7, o8 xv492.f_Packet.f_Key.f_Src.f_B 8, o8 xv492.f_Packet.f_Key.f_Src.f_B 9, o8 xv492.f_Packet.f_Key.f_Src.f_B 10, o8 xv492.f_Packet.f_Key.f_Src.f_B 11, o8 xv492.f_Packet.f_Key.f_Src.f_B 12, o8 xv492.f_Packet.f_Key.f_Src.f_B 13, o8 xv492.f_Packet.f_Key.f_Src.f_B 14, o8 xv492.f_Packet.f_Key.f_Src.f_B 15, vB xv492.f_Packet.f_Key.f_Dst.f_Six, o8 xv492.f_Packet.f_Key.f_Dst.f_B 0, o8 xv492.f_Packet.f_Key.f_Dst.f_B 1, o8 xv492.f_Packet.f_Key.f_Dst.f_B 2, o8 xv492.f_Packet.f_Key.f_Dst.f_B 3, o8 xv492.f_Packet.f_Key.f_Dst.f_B 4, o8 xv492.f_Packet.f_Key.f_Dst.f_B 5, o8 xv492.f_Packet.f_Key.f_Dst.f_B 6, o8 xv492.f_Packet.f_Key.f_Dst.f_B 7, o8 xv492.f_Packet.f_Key.f_Dst.f_B 8, o8 xv492.f_Packet.f_Key.f_Dst.f_B 9, o8 xv492.f_Packet.f_Key.f_Dst.f_B 10, o8 xv492.f_Packet.f_Key.f_Dst.f_B 11, o8 xv492.f_Packet.f_Key.f_Dst.f_B 12, o8 xv492.f_Packet.f_Key.f_Dst.f_B 13, o8 xv492.f_Packet.f_Key.f_Dst.f_B 14, o8 xv492.f_Packet.f_Key.f_Dst.f_B 15, v8 xv492.f_Packet.f_Key.f_Proto, v16 xv492.f_Packet.f_Key.f_SrcPort, v16 xv492.f_Packet.f_Key.f_DstPort, vI xv492.f_Packet.f_Length, v8 xv492.f_Packet.f_Flags, vB xv492.f_Packet.f_Fragment]) ag38 rfl (Cs.addsN [1] (hA490.fut hf).cells rfl)) ?_
  refine RD.p rfl rfl rfl rfl (fun w' => O.move rfl) ?_
  refine RD.p rfl rfl rfl rfl (fun w' => O.move rfl) ?_
  refine obindE hF fun xv495 hx494 hF => ?_
  have hA493 := Rd.atN (f := e_law24_Act) (s := 43) (fun _ => rfl) (by decide) (hM.inp hr5 Off.nil) hx494
  refine RD.q rfl rfl rfl rfl (fun w' hf => O.idxA sl25 (hA493.fut hf) rfl rfl) ?_
  refine RD.p rfl rfl rfl rfl (fun w' => O.fldA fl40_2 (by decide) rfl) ?_
  refine RD.q rfl rfl rfl rfl (fun w' hf => O.load sc5 rfl (Cs.adds [41] (hA493.fut hf).cells rfl)) ?_
  refine RD.p rfl rfl rfl rfl (fun w' => O.move rfl) ?_
  refine obindE hF fun y496 hx497 hF => ?_
  refine RD.mcall rfl rfl trivial Try.func8 bd8 rfl rfl (c_cache_Cache_Account _ _ _ (T_cache_Cache.mk d438 (T_cache_Bounds.mk d439 d440 d441 d442 d443) (T_table_Table.mk d449 d450) d454) _ _ _ _ _ (hM.lent [3, 1, 0, 2] rfl (by decide)) xv492.f_Packet xv495.f_Class (IntKind.u64.wrap (tick455 + (Int.tmod xv466.f_Tick 8))) _ hx497) fun v w498 hv => ?_
  obtain ⟨g500, A502, c503, A505, c506, A508, c509, rfl, hN499⟩ := hv
  refine ⟨fun h => (by cases h), ?_⟩
  replace hM := hM.callL [3, 1, 0, 2] [4, 5, 6, 7, 8] rfl rfl (by decide) rfl hN499
  refine RD.p rfl rfl rfl rfl (fun w' => O.move rfl) ?_
  refine RD.p rfl rfl rfl rfl (fun w' => O.ext rfl rfl) ?_
  refine RD.p rfl rfl rfl rfl (fun w' => O.ext rfl rfl) ?_
  refine RD.p rfl rfl rfl rfl (fun w' => O.assign rfl) ?_
  refine RD.p rfl rfl rfl rfl (fun w' => O.assign rfl) ?_
  refine RD.nil ?_
  refine KQ.thn hQ489 ?_
  clear hQ489 Q489
  refine KC.cut (fun a w520 => ∃ (t519 : Bool), Kn 145 [(1, .slice A3 (lv2).length c4), (2, v8 ticks6), (7, .pointer (some ⟨g182, 0, none⟩)), (9, .pointer (some ⟨g241, 0, none⟩)), (11, v64 (IntKind.u64.wrap (tick455 + (Int.tmod xv466.f_Tick 8)))), (12, vI i456), (103, vB t519)] a ∧ Mem w [] w520 [.row A480 c481 102 39 (y474.2.2.f_places.f_slots).length ((y474.2.2.f_places.f_slots).flatMap e_table_Slot), .box g478 96 [.slice A480 (y474.2.2.f_places.f_slots).length c481, vI y474.2.2.f_places.f_many], .row A483 c484 46 44 (y474.2.2.f_flows).length ((y474.2.2.f_flows).flatMap e_flow_Record), .box g182 74 [v64 y474.2.2.f_tick, vI y474.2.2.f_bounds.f_Flows, v64 y474.2.2.f_bounds.f_Idle, v64 y474.2.2.f_bounds.f_Active, v64 y474.2.2.f_bounds.f_Packets, v64 y474.2.2.f_bounds.f_Bytes, .pointer (some ⟨g478, 0, none⟩), .slice A483 (y474.2.2.f_flows).length c484], .row A502 c503 102 39 (y496.2.2.f_places.f_slots).length ((y496.2.2.f_places.f_slots).flatMap e_table_Slot), .box g500 96 [.slice A502 (y496.2.2.f_places.f_slots).length c503, vI y496.2.2.f_places.f_many], .row A505 c506 46 44 (y496.2.2.f_flows).length ((y496.2.2.f_flows).flatMap e_flow_Record), .box g241 74 [v64 y496.2.2.f_tick, vI y496.2.2.f_bounds.f_Flows, v64 y496.2.2.f_bounds.f_Idle, v64 y496.2.2.f_bounds.f_Active, v64 y496.2.2.f_bounds.f_Packets, v64 y496.2.2.f_bounds.f_Bytes, .pointer (some ⟨g500, 0, none⟩), .slice A505 (y496.2.2.f_flows).length c506]] ∧ F_law24_CacheTicks_j26 tick455 i456 (F_law24_CacheTicks_L1 lv2 ticks6 k459) xv466 y474 y496 t519 = some r) ?_ ?_
  ·refine KC.region ?_
   refine vm rfl rfl ?_
   refine vm rfl rfl ?_
   refine RL.val (O.neq rfl rfl) rfl ?_
   refine vm rfl rfl ?_
   refine RL.bcase (t := 97) rfl (fun hc => ?_) (fun hc => ?_)
   ·rw [if_pos hc] at hF
    refine RL.gskip rfl rfl rfl rfl ?_
    refine RL.gskip rfl rfl rfl rfl ?_
    refine RL.gskip rfl rfl rfl rfl ?_
    refine RL.gskip rfl rfl rfl rfl ?_
    refine RL.gskip rfl rfl rfl rfl ?_
    refine RL.val (O.pickt rfl rfl) rfl ?_
    refine RL.nil ?_
    refine KQ.then_k ?_
    replace hM := hM.pick [2, 1, 3, 0, 7, 6, 8, 5] rfl (by decide)
    exact fun a ha => ⟨true, ha.less (less_cons rfl (less_cons rfl (less_cons rfl (less_cons rfl (less_cons rfl (less_cons rfl (less_cons rfl less_nil))))))), hM, hF⟩
   rw [if_neg (ne_true hc)] at hF
   refine RL.gval rfl rfl (O.move rfl) rfl ?_
   refine RL.gval rfl rfl (O.len sl41 rfl) rfl ?_
   refine RL.gval rfl rfl (O.move rfl) rfl ?_
   refine RL.gval rfl rfl (O.len sl41 rfl) rfl ?_
   refine RL.gval rfl rfl (O.neq rfl rfl) rfl ?_
   refine RL.val (O.pickf rfl rfl) rfl ?_
   refine RL.nil ?_
   refine KQ.then_k ?_
   replace hM := hM.pick [2, 1, 3, 0, 7, 6, 8, 5] rfl (by decide)
   exact fun a ha => ⟨((y474.1.length : Int) != (y496.1.length : Int)), ha.less (less_cons rfl (less_cons rfl (less_cons rfl (less_cons rfl (less_cons rfl (less_cons rfl (less_cons rfl less_nil))))))), hM, hF⟩
  rintro a w520 ⟨t519, ha, hM, hF⟩
  refine KC.app ha ?_
  clear ha
  unfold F_law24_CacheTicks_j26 at hF
  refine KC.cond rfl (fun hc => ?_) (fun hc => ?_)
  ·rw [if_pos hc] at hF
   refine sr fun Q521 hQ521 => ?_
   refine va rfl rfl ?_
   refine nt hQ521 ?_
   clear hQ521 Q521
   refine KC.ret ?_
   refine KQ.blk_r ?_
   refine KQ.thr hQ462 ?_
   clear hQ462 Q462
   refine KQ.then_r ?_
   refine KQ.blk_r ?_
   refine KQ.thr hQ253 ?_
   clear hQ253 Q253
   have hE := Option.some.inj hF
   clear hF
   subst hE
   replace hM := hM.pick [] rfl (by decide)
   refine KQ.rets Try.results3 (RVs.cons (RV.tm rfl) RVs.nil) ?_
   exact ⟨_, rfl, rfl, hM⟩
  rw [if_neg (ne_true hc)] at hF
  refine KC.skip ?_
  refine KQ.blk_n ?_
  refine KQ.thn hQ462 ?_
  clear hQ462 Q462
  refine KC.region ?_
  refine vm rfl rfl ?_
  refine RL.val (O.add rfl rfl) rfl ?_
  refine va rfl rfl ?_
  refine RL.nil ?_
  refine KQ.then_k ?_
  exact fun a ha => ⟨k459, Nat.lt_succ_self k459, g478, A480, c481, A483, c484, g500, A502, c503, A505, c506, y474.2.2.f_tick, y474.2.2.f_bounds.f_Flows, y474.2.2.f_bounds.f_Idle, y474.2.2.f_bounds.f_Active, y474.2.2.f_bounds.f_Packets, y474.2.2.f_bounds.f_Bytes, y474.2.2.f_places.f_slots, y474.2.2.f_places.f_many, y474.2.2.f_flows, y496.2.2.f_tick, y496.2.2.f_bounds.f_Flows, y496.2.2.f_bounds.f_Idle, y496.2.2.f_bounds.f_Active, y496.2.2.f_bounds.f_Packets, y496.2.2.f_bounds.f_Bytes, y496.2.2.f_places.f_slots, y496.2.2.f_places.f_many, y496.2.2.f_flows, (IntKind.u64.wrap (tick455 + (Int.tmod xv466.f_Tick 8))), (IntKind.i64.wrap (i456 + 1)), ha.less (less_cons rfl (less_cons rfl (less_cons rfl (less_cons rfl (less_cons rfl (less_cons rfl less_nil)))))), hM, hF⟩
 rw [if_neg (ne_true hc)] at hF
 refine KC.exit ?_
 refine KQ.thx hQ460 ?_
 clear hQ460 Q460
 refine KQ.then_x ?_
 refine KQ.blk_x ?_
 refine KQ.thn hQ253 ?_
 clear hQ253 Q253
 refine sr fun Q522 hQ522 => ?_
 refine vm rfl rfl ?_
 refine RL.val (O.rem rfl rfl (by decide)) rfl ?_
 refine RL.val (O.conv un5 Try.underlying22 rfl) rfl ?_
 refine va rfl rfl ?_
 refine nt hQ522 ?_
 clear hQ522 Q522
 refine sr fun Q523 hQ523 => ?_
 refine vm rfl rfl ?_
 refine vm rfl rfl ?_
 refine vm rfl rfl ?_
 refine RL.val (O.add rfl rfl) rfl ?_
 refine obindE hF fun y524 hx525 hF => ?_
 refine RL.call Try.func9 bd9 rfl rfl (c_cache_Cache_Advance _ _ _ (T_cache_Cache.mk cv420 (T_cache_Bounds.mk cv421 cv422 cv423 cv424 cv425) (T_table_Table.mk cv431 cv432) cv436) _ _ _ _ _ (hM.lent [3, 1, 0, 2] rfl (by decide)) (IntKind.u64.wrap (tick455 + (IntKind.u64.wrap (Int.tmod ticks6 151)))) _ hx525) fun v w526 hv => ?_
 obtain ⟨g528, A530, c531, A533, c534, A536, c537, rfl, hN527⟩ := hv
 replace hM := hM.callL [3, 1, 0, 2] [4, 5, 6, 7] rfl rfl (by decide) rfl hN527
 refine va rfl rfl ?_
 refine nt hQ523 ?_
 clear hQ523 Q523
 replace hM := hM.pick [0, 1, 2, 3, 8] rfl (by decide)
 refine sr fun Q539 hQ539 => ?_
 refine va rfl rfl ?_
 refine nt hQ539 ?_
 clear hQ539 Q539
 refine KC.seqH fun Q540 hQ540 => ?_
 refine sr fun Q541 hQ541 => ?_
 refine va rfl rfl ?_
 refine nt hQ541 ?_
 clear hQ541 Q541
 refine KC.block ?_
 refine KC.loop (fun k638 a w636 => ∃ (g620 : Nat) (A622 : Option Addr) (c623 : Nat) (A627 : Option Addr) (c628 : Nat) (A632 : Option Addr) (c633 : Nat) (d613 : Int) (d614 : Int) (d615 : Int) (d616 : Int) (d617 : Int) (d618 : Int) (d624 : List T_table_Slot) (d625 : Int) (d629 : List T_flow_Record) (got634 : List T_flow_Record) (t635 : Int), Kn 145 [(9, .pointer (some ⟨g241, 0, none⟩)), (11, v64 tick455), (17, v64 (IntKind.u64.wrap (Int.tmod ticks6 151))), (18, .slice A536 (y524.1).length c537), (19, .slice A632 (got634).length c633), (20, v64 t635)] a ∧ Mem w [] w636 [.row A622 c623 102 39 (d624).length ((d624).flatMap e_table_Slot), .box g620 96 [.slice A622 (d624).length c623, vI d625], .row A627 c628 46 44 (d629).length ((d629).flatMap e_flow_Record), .box g241 74 [v64 d613, vI d614, v64 d615, v64 d616, v64 d617, v64 d618, .pointer (some ⟨g620, 0, none⟩), .slice A627 (d629).length c628], .row A536 c537 46 44 (y524.1).length ((y524.1).flatMap e_flow_Record), .row A632 c633 46 44 (got634).length ((got634).flatMap e_flow_Record)] ∧ F_law24_CacheTicks_L2 ticks6 tick455 y524 k638 d613 d614 d615 d616 d617 d618 d624 d625 d629 got634 t635 = some r) ?_ ?_
 ·replace hM := hM.nilrow 46 44
  exact fun a ha => ⟨fuel0, g445, A447, c448, A452, c453, none, 0, d438, d439, d440, d441, d442, d443, d449, d450, d454, ([]), 0, ha.less (less_cons rfl (less_cons rfl (less_cons rfl (less_cons rfl (less_cons rfl (less_cons rfl less_nil)))))), hM, hF⟩
 rintro k638 a w636 ⟨g620, A622, c623, A627, c628, A632, c633, d613, d614, d615, d616, d617, d618, d624, d625, d629, got634, t635, ha, hM, hF⟩
 refine KC.app ha ?_
 clear ha
 cases k638 with
 | zero => exact (none_some hF).elim
 | succ k638 =>
 have hF : F_law24_CacheTicks_l2 (F_law24_CacheTicks_L2 ticks6 tick455 y524 k638) ticks6 tick455 y524 d613 d614 d615 d616 d617 d618 d624 d625 d629 got634 t635 = some r := hF
 unfold F_law24_CacheTicks_l2 at hF
 refine KC.seqH fun Q639 hQ639 => ?_
 refine sr fun Q640 hQ640 => ?_
 refine vm rfl rfl ?_
 refine vm rfl rfl ?_
 refine RL.val (O.leq rfl rfl) rfl ?_
 refine nt hQ640 ?_
 clear hQ640 Q640
 refine KC.cond rfl (fun hc => ?_) (fun hc => ?_)
 ·rw [if_pos hc] at hF
  refine KC.skip ?_
  refine KQ.thn hQ639 ?_
  clear hQ639 Q639
  refine KC.seqH fun Q641 hQ641 => ?_
  refine KC.block ?_
  refine KC.region ?_
  refine vm rfl rfl ?_
  refine vm rfl rfl ?_
  refine vm rfl rfl ?_
  refine vm rfl rfl ?_
  refine RL.val (O.add rfl rfl) rfl ?_
  refine obindE hF fun y642 hx643 hF => ?_
  refine RL.call Try.func9 bd9 rfl rfl (c_cache_Cache_Advance _ _ _ (T_cache_Cache.mk d613 (T_cache_Bounds.mk d614 d615 d616 d617 d618) (T_table_Table.mk d624 d625) d629) _ _ _ _ _ (hM.lent [3, 1, 0, 2] rfl (by decide)) (IntKind.u64.wrap (tick455 + t635)) _ hx643) fun v w644 hv => ?_
  obtain ⟨g646, A648, c649, A651, c652, A654, c655, rfl, hN645⟩ := hv
  replace hM := hM.callL [3, 1, 0, 2] [4, 5] rfl rfl (by decide) rfl hN645
  refine cut_someE hF fun hq660 hF => ?_
  refine RL.eff (E.app (enc := e_flow_Record) (xs := got634) (ys := y642.1) (j := 1) hM rfl sl41 ze46 rfl rfl rfl rfl rfl (hM.rd (i := 6) rfl) (fun _ => One.all rfl) (of_decide_eq_true hq660)) rfl fun v w659 hv => ?_
  clear hM
  obtain ⟨A657, c658, rfl, hM, hf⟩ := hv
  refine va rfl rfl ?_
  refine RL.nil ?_
  refine KQ.blk_n ?_
  refine KQ.thn hQ641 ?_
  clear hQ641 Q641
  replace hM := hM.pick [0, 1, 2, 3, 4, 5] rfl (by decide)
  refine KC.region ?_
  refine vm rfl rfl ?_
  refine RL.val (O.add rfl rfl) rfl ?_
  refine va rfl rfl ?_
  refine RL.nil ?_
  refine KQ.then_k ?_
  replace hM := hM.pick [4, 3, 5, 2, 0, 1] rfl (by decide)
  exact fun a ha => ⟨k638, Nat.lt_succ_self k638, g646, A648, c649, A651, c652, A657, c658, y642.2.f_tick, y642.2.f_bounds.f_Flows, y642.2.f_bounds.f_Idle, y642.2.f_bounds.f_Active, y642.2.f_bounds.f_Packets, y642.2.f_bounds.f_Bytes, y642.2.f_places.f_slots, y642.2.f_places.f_many, y642.2.f_flows, (got634 ++ y642.1), (IntKind.u64.wrap (t635 + 1)), ha.less (less_cons rfl (less_cons rfl (less_cons rfl (less_cons rfl (less_cons rfl (less_cons rfl less_nil)))))), hM, hF⟩
 rw [if_neg (ne_true hc)] at hF
 refine KC.exit ?_
 refine KQ.thx hQ639 ?_
 clear hQ639 Q639
 refine KQ.then_x ?_
 refine KQ.blk_x ?_
 refine KQ.thn hQ540 ?_
 clear hQ540 Q540
 replace hM := hM.pick [4, 5] rfl (by decide)
 refine KC.seqH fun Q662 hQ662 => ?_
 refine sr fun Q663 hQ663 => ?_
 refine vm rfl rfl ?_
 refine RL.val (O.len sl41 rfl) rfl ?_
 refine vm rfl rfl ?_
 refine RL.val (O.len sl41 rfl) rfl ?_
 refine RL.val (O.neq rfl rfl) rfl ?_
 refine nt hQ663 ?_
 clear hQ663 Q663
 refine KC.cond rfl (fun hc => ?_) (fun hc => ?_)
 ·rw [if_pos hc] at hF
  refine sr fun Q664 hQ664 => ?_
  refine va rfl rfl ?_
  refine nt hQ664 ?_
  clear hQ664 Q664
  refine KC.ret ?_
  refine KQ.thr hQ662 ?_
  clear hQ662 Q662
  have hE := Option.some.inj hF
  clear hF
  subst hE
  replace hM := hM.pick [] rfl (by decide)
  refine KQ.rets Try.results3 (RVs.cons (RV.tm rfl) RVs.nil) ?_
  exact ⟨_, rfl, rfl, hM⟩
 rw [if_neg (ne_true hc)] at hF
 refine KC.skip ?_
 refine KQ.thn hQ662 ?_
 clear hQ662 Q662
 refine KC.seqH fun Q665 hQ665 => ?_
 refine sr fun Q666 hQ666 => ?_
 refine va rfl rfl ?_
 refine nt hQ666 ?_
 clear hQ666 Q666
 refine KC.block ?_
 refine KC.loop (fun k697 a w695 => ∃ (i694 : Int), Kn 145 [(18, .slice A536 (y524.1).length c537), (19, .slice A632 (got634).length c633), (21, vI i694)] a ∧ Mem w [] w695 [.row A536 c537 46 44 (y524.1).length ((y524.1).flatMap e_flow_Record), .row A632 c633 46 44 (got634).length ((got634).flatMap e_flow_Record)] ∧ F_law24_CacheTicks_L3 y524 got634 k697 i694 = some r) ?_ ?_
 ·exact fun a ha => ⟨fuel0, 0, ha.less (less_cons rfl (less_cons rfl (less_cons rfl less_nil))), hM, hF⟩
 rintro k697 a w695 ⟨i694, ha, hM, hF⟩
 refine KC.app ha ?_
 clear ha
 cases k697 with
 | zero => exact (none_some hF).elim
 | succ k697 =>
 have hF : F_law24_CacheTicks_l3 (F_law24_CacheTicks_L3 y524 got634 k697) y524 got634 i694 = some r := hF
 unfold F_law24_CacheTicks_l3 at hF
 refine KC.seqH fun Q698 hQ698 => ?_
 refine sr fun Q699 hQ699 => ?_
 refine vm rfl rfl ?_
 refine vm rfl rfl ?_
 refine RL.val (O.len sl41 rfl) rfl ?_
 refine RL.val (O.lss rfl rfl) rfl ?_
 refine nt hQ699 ?_
 clear hQ699 Q699
 refine KC.cond rfl (fun hc => ?_) (fun hc => ?_)
 ·rw [if_pos hc] at hF
  refine KC.skip ?_
  refine KQ.thn hQ698 ?_
  clear hQ698 Q698
  refine KC.seqH fun Q700 hQ700 => ?_
  refine KC.block ?_
  refine KC.seqH fun Q701 hQ701 => ?_
  replace hM := hM.drewN 1
  refine KC.draw [] [] [] [0, 1, 4, 5, 8] (.ofList [0, 1, 2, 3, 4, 5, 6, 7, 8]) moP (by kernel_rfl) ?_
  refine RD.p rfl rfl rfl rfl (fun w' => O.move rfl) ?_
  refine RD.p rfl rfl rfl rfl (fun w' => O.move rfl) ?_
  refine obindE hF fun xv704 hx703 hF => ?_
  have hA702 := Rd.atN (f := e_flow_Record) (s := 44) (fun _ => rfl) (by decide) (hM.rd (i := 1) rfl) hx703
  refine RD.q rfl rfl rfl rfl (fun w' hf => O.idxA sl41 (hA702.fut hf) rfl rfl) ?_
  refine RD.q rfl rfl rfl rfl (fun w' hf => O.loadN (cs := [vB xv704.f_Key.f_Src.f_Six, o8 xv704.f_Key.f_Src.f_B 0, o8 xv704.f_Key.f_Src.f_B 1, o8 xv704.f_Key.f_Src.f_B 2, o8 xv704.f_Key.f_Src.f_B 3, o8 xv704.f_Key.f_Src.f_B 4, o8 xv704.f_Key.f_Src.f_B 5, o8 xv704.f_Key.f_Src.f_B 6, o8 xv704.f_Key.f_Src.f_B 7, o8 xv704.f_Key.f_Src.f_B 8, o8 xv704.f_Key.f_Src.f_B 9, o8 xv704.f_Key.f_Src.f_B 10, o8 xv704.f_Key.f_Src.f_B 11, o8 xv704.f_Key.f_Src.f_B 12, o8 xv704.f_Key.f_Src.f_B 13, o8 xv704.f_Key.f_Src.f_B 14, o8 xv704.f_Key.f_Src.f_B 15, vB xv704.f_Key.f_Dst.f_Six, o8 xv704.f_Key.f_Dst.f_B 0, o8 xv704.f_Key.f_Dst.f_B 1, o8 xv704.f_Key.f_Dst.f_B 2, o8 xv704.f_Key.f_Dst.f_B 3, o8 xv704.f_Key.f_Dst.f_B 4, o8 xv704.f_Key.f_Dst.f_B 5, o8 xv704.f_Key.f_Dst.f_B 6, o8 xv704.f_Key.f_Dst.f_B 7, o8 xv704.f_Key.f_Dst.f_B 8, o8 xv704.f_Key.f_Dst.f_B 9, o8 xv704.f_Key.f_Dst.f_B 10, o8 xv704.f_Key.f_Dst.f_B 11, o8 xv704.f_Key.f_Dst.f_B 12, o8 xv704.f_Key.f_Dst.f_B 13, o8 xv704.f_Key.f_Dst.f_B 14, o8 xv704.f_Key.f_Dst.f_B 15, v8 xv704.f_Key.f_Proto, v16 xv704.f_Key.f_SrcPort, v16 xv704.f_Key.f_DstPort, v64 xv704.f_Packets, v64 xv704.f_Bytes, v64 xv704.f_First, v64 xv704.f_Last, v8 xv704.f_Flags, v8 xv704.f_Reason, v8 xv704.f_Class]) ag46 rfl (hA702.fut hf).cells) ?_
  refine RD.p rfl rfl rfl rfl (fun w' => O.move rfl) ?_
  refine RD.p rfl rfl rfl rfl (fun w' => O.move rfl) ?_
  refine obindE hF fun xv707 hx706 hF => ?_
  have hA705 := Rd.atN (f := e_flow_Record) (s := 44) (fun _ => rfl) (by decide) (hM.rd (i := 0) rfl) hx706
  refine RD.q rfl rfl rfl rfl (fun w' hf => O.idxA sl41 (hA705.fut hf) rfl rfl) ?_
  refine RD.q rfl rfl rfl rfl (fun w' hf => O.loadN (cs := [vB xv707.f_Key.f_Src.f_Six, o8 xv707.f_Key.f_Src.f_B 0, o8 xv707.f_Key.f_Src.f_B 1, o8 xv707.f_Key.f_Src.f_B 2, o8 xv707.f_Key.f_Src.f_B 3, o8 xv707.f_Key.f_Src.f_B 4, o8 xv707.f_Key.f_Src.f_B 5, o8 xv707.f_Key.f_Src.f_B 6, o8 xv707.f_Key.f_Src.f_B 7, o8 xv707.f_Key.f_Src.f_B 8, o8 xv707.f_Key.f_Src.f_B 9, o8 xv707.f_Key.f_Src.f_B 10, o8 xv707.f_Key.f_Src.f_B 11, o8 xv707.f_Key.f_Src.f_B 12, o8 xv707.f_Key.f_Src.f_B 13, o8 xv707.f_Key.f_Src.f_B 14, o8 xv707.f_Key.f_Src.f_B 15, vB xv707.f_Key.f_Dst.f_Six, o8 xv707.f_Key.f_Dst.f_B 0, o8 xv707.f_Key.f_Dst.f_B 1, o8 xv707.f_Key.f_Dst.f_B 2, o8 xv707.f_Key.f_Dst.f_B 3, o8 xv707.f_Key.f_Dst.f_B 4, o8 xv707.f_Key.f_Dst.f_B 5, o8 xv707.f_Key.f_Dst.f_B 6, o8 xv707.f_Key.f_Dst.f_B 7, o8 xv707.f_Key.f_Dst.f_B 8, o8 xv707.f_Key.f_Dst.f_B 9, o8 xv707.f_Key.f_Dst.f_B 10, o8 xv707.f_Key.f_Dst.f_B 11, o8 xv707.f_Key.f_Dst.f_B 12, o8 xv707.f_Key.f_Dst.f_B 13, o8 xv707.f_Key.f_Dst.f_B 14, o8 xv707.f_Key.f_Dst.f_B 15, v8 xv707.f_Key.f_Proto, v16 xv707.f_Key.f_SrcPort, v16 xv707.f_Key.f_DstPort, v64 xv707.f_Packets, v64 xv707.f_Bytes, v64 xv707.f_First, v64 xv707.f_Last, v8 xv707.f_Flags, v8 xv707.f_Reason, v8 xv707.f_Class]) ag46 rfl (hA705.fut hf).cells) ?_
  refine RD.p rfl rfl rfl rfl (fun w' => O.stne (cs := [vB xv704.f_Key.f_Src.f_Six, o8 xv704.f_Key.f_Src.f_B 0, o8 xv704.f_Key.f_Src.f_B 1, o8 xv704.f_Key.f_Src.f_B 2, o8 xv704.f_Key.f_Src.f_B 3, o8 xv704.f_Key.f_Src.f_B 4, o8 xv704.f_Key.f_Src.f_B 5, o8 xv704.f_Key.f_Src.f_B 6, o8 xv704.f_Key.f_Src.f_B 7, o8 xv704.f_Key.f_Src.f_B 8, o8 xv704.f_Key.f_Src.f_B 9, o8 xv704.f_Key.f_Src.f_B 10, o8 xv704.f_Key.f_Src.f_B 11, o8 xv704.f_Key.f_Src.f_B 12, o8 xv704.f_Key.f_Src.f_B 13, o8 xv704.f_Key.f_Src.f_B 14, o8 xv704.f_Key.f_Src.f_B 15, vB xv704.f_Key.f_Dst.f_Six, o8 xv704.f_Key.f_Dst.f_B 0, o8 xv704.f_Key.f_Dst.f_B 1, o8 xv704.f_Key.f_Dst.f_B 2, o8 xv704.f_Key.f_Dst.f_B 3, o8 xv704.f_Key.f_Dst.f_B 4, o8 xv704.f_Key.f_Dst.f_B 5, o8 xv704.f_Key.f_Dst.f_B 6, o8 xv704.f_Key.f_Dst.f_B 7, o8 xv704.f_Key.f_Dst.f_B 8, o8 xv704.f_Key.f_Dst.f_B 9, o8 xv704.f_Key.f_Dst.f_B 10, o8 xv704.f_Key.f_Dst.f_B 11, o8 xv704.f_Key.f_Dst.f_B 12, o8 xv704.f_Key.f_Dst.f_B 13, o8 xv704.f_Key.f_Dst.f_B 14, o8 xv704.f_Key.f_Dst.f_B 15, v8 xv704.f_Key.f_Proto, v16 xv704.f_Key.f_SrcPort, v16 xv704.f_Key.f_DstPort, v64 xv704.f_Packets, v64 xv704.f_Bytes, v64 xv704.f_First, v64 xv704.f_Last, v8 xv704.f_Flags, v8 xv704.f_Reason, v8 xv704.f_Class]) (cs' := [vB xv707.f_Key.f_Src.f_Six, o8 xv707.f_Key.f_Src.f_B 0, o8 xv707.f_Key.f_Src.f_B 1, o8 xv707.f_Key.f_Src.f_B 2, o8 xv707.f_Key.f_Src.f_B 3, o8 xv707.f_Key.f_Src.f_B 4, o8 xv707.f_Key.f_Src.f_B 5, o8 xv707.f_Key.f_Src.f_B 6, o8 xv707.f_Key.f_Src.f_B 7, o8 xv707.f_Key.f_Src.f_B 8, o8 xv707.f_Key.f_Src.f_B 9, o8 xv707.f_Key.f_Src.f_B 10, o8 xv707.f_Key.f_Src.f_B 11, o8 xv707.f_Key.f_Src.f_B 12, o8 xv707.f_Key.f_Src.f_B 13, o8 xv707.f_Key.f_Src.f_B 14, o8 xv707.f_Key.f_Src.f_B 15, vB xv707.f_Key.f_Dst.f_Six, o8 xv707.f_Key.f_Dst.f_B 0, o8 xv707.f_Key.f_Dst.f_B 1, o8 xv707.f_Key.f_Dst.f_B 2, o8 xv707.f_Key.f_Dst.f_B 3, o8 xv707.f_Key.f_Dst.f_B 4, o8 xv707.f_Key.f_Dst.f_B 5, o8 xv707.f_Key.f_Dst.f_B 6, o8 xv707.f_Key.f_Dst.f_B 7, o8 xv707.f_Key.f_Dst.f_B 8, o8 xv707.f_Key.f_Dst.f_B 9, o8 xv707.f_Key.f_Dst.f_B 10, o8 xv707.f_Key.f_Dst.f_B 11, o8 xv707.f_Key.f_Dst.f_B 12, o8 xv707.f_Key.f_Dst.f_B 13, o8 xv707.f_Key.f_Dst.f_B 14, o8 xv707.f_Key.f_Dst.f_B 15, v8 xv707.f_Key.f_Proto, v16 xv707.f_Key.f_SrcPort, v16 xv707.f_Key.f_DstPort, v64 xv707.f_Packets, v64 xv707.f_Bytes, v64 xv707.f_First, v64 xv707.f_Last, v8 xv707.f_Flags, v8 xv707.f_Reason, v8 xv707.f_Class]) (by kernel_rfl) rfl rfl (Q46t xv704 xv707 _ rfl rfl)) ?_
  refine RD.nil ?_
  refine KQ.thn hQ701 ?_
  clear hQ701 Q701
  refine KC.cond rfl (fun hc => ?_) (fun hc => ?_)
  ·rw [if_pos hc] at hF
   refine sr fun Q708 hQ708 => ?_
   refine va rfl rfl ?_
   refine nt hQ708 ?_
   clear hQ708 Q708
   refine KC.ret ?_
   refine KQ.blk_r ?_
   refine KQ.thr hQ700 ?_
   clear hQ700 Q700
   refine KQ.then_r ?_
   refine KQ.blk_r ?_
   refine KQ.thr hQ665 ?_
   clear hQ665 Q665
   have hE := Option.some.inj hF
   clear hF
   subst hE
   replace hM := hM.pick [] rfl (by decide)
   refine KQ.rets Try.results3 (RVs.cons (RV.tm rfl) RVs.nil) ?_
   exact ⟨_, rfl, rfl, hM⟩
  rw [if_neg (ne_true hc)] at hF
  refine KC.skip ?_
  refine KQ.blk_n ?_
  refine KQ.thn hQ700 ?_
  clear hQ700 Q700
  refine KC.region ?_
  refine vm rfl rfl ?_
  refine RL.val (O.add rfl rfl) rfl ?_
  refine va rfl rfl ?_
  refine RL.nil ?_
  refine KQ.then_k ?_
  exact fun a ha => ⟨k697, Nat.lt_succ_self k697, (IntKind.i64.wrap (i694 + 1)), ha.less (less_cons rfl (less_cons rfl (less_cons rfl less_nil))), hM, hF⟩
 rw [if_neg (ne_true hc)] at hF
 refine KC.exit ?_
 refine KQ.thx hQ698 ?_
 clear hQ698 Q698
 refine KQ.then_x ?_
 refine KQ.blk_x ?_
 refine KQ.thn hQ665 ?_
 clear hQ665 Q665
 replace hM := hM.pick [] rfl (by decide)
 refine sr fun Q709 hQ709 => ?_
 refine obindE hF fun y710 hx711 hF => ?_
 refine RL.call Try.func6 bd6 rfl rfl (c_law24_works _ _ hx711) fun v w712 hv => ?_
 obtain ⟨rfl, hN713⟩ := hv
 replace hM := hM.call0 hN713
 refine va rfl rfl ?_
 refine nt hQ709 ?_
 clear hQ709 Q709
 refine KC.ret ?_
 have hE := Option.some.inj hF
 clear hF
 subst hE
 refine KQ.rets Try.results3 (RVs.cons (RV.tm rfl) RVs.nil) ?_
 exact ⟨_, rfl, rfl, hM⟩
end Go.Proofs.Ytkpnocgfhipidaa
