/- Printed by a program of this claim: each call returns what the plain function of its name gives. -/
import Derived.Test.YtcinagdkkclapaaW1
import Derived.Test.YtcinagdkkclapaaW4
set_option linter.unusedVariables false
namespace Go.Proofs.Ytcinagdkkclapaa
open Go Go.Ox Go.RowKit
set_option maxRecDepth 100000 in
set_option maxHeartbeats 40000000 in
theorem c_bits_Read (w : World) (A2 : Option Addr) (c3 : Nat) (b1 : List Int) (hr4 : Rd w A2 c3 1 b1.length (b1.flatMap (eI .u8))) (r : T_bits_Reader) (hF : F_bits_Read b1 = some r) :
  CallsR Try.prog 39 [.slice A2 (b1).length c3] w (fun v w' => ∃ (g0 : Nat) (A1 : Option Addr) (c1 : Nat), v = .pointer (some ⟨g0, 0, none⟩) ∧ Mem w [] w' [.box g0 100 [.slice A1 (r.f_b).length c1, vI r.f_at], .row A1 c1 5 1 r.f_b.length (r.f_b.flatMap (eI .u8))]) := by
 refine calls_KC Try.func39 rfl Try.ntmps39 rfl ?_
 have hM := Mem.init w
 unfold F_bits_Read at hF
 refine sr fun Q5 hQ5 => ?_
 refine va rfl rfl ?_
 refine nt hQ5 ?_
 clear hQ5 Q5
 refine sr fun Q6 hQ6 => ?_
 refine vm rfl rfl ?_
 refine obindE hF fun y7 hx8 hF => ?_
 refine RL.call Try.func61 bd61 rfl rfl (c_slices_Clone_byte_byte _ _ _ b1 (hM.inp hr4 Off.nil) _ hx8) fun v w9 hv => ?_
 obtain ⟨A11, c12, rfl, hN10⟩ := hv
 replace hM := hM.call hN10
 refine RL.val (O.bld (cs := [.slice A11 (y7).length c12, vI 0]) bt100 rfl (by kernel_rfl)) rfl ?_
 refine RL.eff (E.box (vs := [.slice A11 (y7).length c12, vI 0]) hM rfl rfl) rfl fun v w15 hv => ?_
 clear hM
 obtain ⟨g14, rfl, hM, hf⟩ := hv
 refine va rfl rfl ?_
 refine nt hQ6 ?_
 clear hQ6 Q6
 refine KC.ret ?_
 have hE := Option.some.inj hF
 clear hF
 subst hE
 replace hM := hM.pick [1, 0] rfl (by decide)
 refine KQ.rets Try.results39 (RVs.cons (RV.tm rfl) RVs.nil) ?_
 exact ⟨_, rfl, g14, A11, c12, rfl, hM⟩
set_option maxRecDepth 100000 in
set_option maxHeartbeats 40000000 in
theorem c_bits_value (w : World) (A2 : Option Addr) (c3 : Nat) (b1 : List Int) (hr4 : Rd w A2 c3 1 b1.length (b1.flatMap (eI .u8))) (r : Int) (hF : F_bits_value b1 = some r) :
  CallsR Try.prog 78 [.slice A2 (b1).length c3] w (fun v w' => v = v64 r ∧ Mem w [] w' []) := by
 refine calls_KC Try.func78 rfl Try.ntmps78 rfl ?_
 have hM := Mem.init w
 unfold F_bits_value at hF
 refine sr fun Q5 hQ5 => ?_
 refine va rfl rfl ?_
 refine nt hQ5 ?_
 clear hQ5 Q5
 refine KC.seqH fun Q6 hQ6 => ?_
 refine sr fun Q7 hQ7 => ?_
 refine vm rfl rfl ?_
 refine RL.val (O.len sl24 rfl) rfl ?_
 refine vm rfl rfl ?_
 refine nt hQ7 ?_
 clear hQ7 Q7
 refine KC.block ?_
 refine KC.loop (fun k28 a w26 => ∃ (v24 : Int) (t25 : Int), Kn 18 [(2, v64 v24), (5, .slice A2 (b1).length c3), (6, vI (b1.length : Int)), (7, vI t25)] a ∧ Mem w [] w26 [] ∧ F_bits_value_L1 b1 k28 v24 t25 = some r) ?_ ?_
 ·exact fun a ha => ⟨fuel0, 0, 0, ha.less (less_cons rfl (less_cons rfl (less_cons rfl (less_cons rfl less_nil)))), hM, hF⟩
 rintro k28 a w26 ⟨v24, t25, ha, hM, hF⟩
 refine KC.app ha ?_
 clear ha
 cases k28 with
 | zero => exact (none_some hF).elim
 | succ k28 =>
 have hF : F_bits_value_l1 (F_bits_value_L1 b1 k28) b1 v24 t25 = some r := hF
 unfold F_bits_value_l1 at hF
 refine sr fun Q29 hQ29 => ?_
 refine RL.val (O.lss rfl rfl) rfl ?_
 refine nt hQ29 ?_
 clear hQ29 Q29
 refine KC.seqH fun Q30 hQ30 => ?_
 refine KC.cond rfl (fun hc => ?_) (fun hc => ?_)
 ·rw [if_pos hc] at hF
  refine KC.skip ?_
  refine KQ.thn hQ30 ?_
  clear hQ30 Q30
  refine KC.seqH fun Q31 hQ31 => ?_
  refine KC.block ?_
  refine sr fun Q32 hQ32 => ?_
  refine obindE hF fun xv35 hx34 hF => ?_
  have hA33 := Rd.atN (f := (eI .u8)) (s := 1) (fun _ => rfl) (by decide) (hM.inp hr4 Off.nil) hx34
  refine RL.val (O.idxA sl24 (hA33) rfl rfl) rfl ?_
  refine RL.val (O.load sc5 rfl (hA33).cells.at0) rfl ?_
  refine va rfl rfl ?_
  refine nt hQ32 ?_
  clear hQ32 Q32
  refine KC.region ?_
  refine vm rfl rfl ?_
  refine RL.val (O.shl rfl rfl (by decide)) rfl ?_
  refine vm rfl rfl ?_
  refine RL.val (O.conv un5 Try.underlying76 rfl) rfl ?_
  refine RL.val (O.or rfl rfl) rfl ?_
  refine va rfl rfl ?_
  refine RL.nil ?_
  refine KQ.blk_n ?_
  refine KQ.thn hQ31 ?_
  clear hQ31 Q31
  refine KC.region ?_
  refine RL.val (O.add rfl rfl) rfl ?_
  refine vm rfl rfl ?_
  refine RL.nil ?_
  refine KQ.then_k ?_
  exact fun a ha => ⟨k28, Nat.lt_succ_self k28, (bits .or .u64 (Ox.shl .u64 v24 8) (IntKind.u64.wrap xv35)), (IntKind.i64.wrap (t25 + 1)), ha.less (less_cons rfl (less_cons rfl (less_cons rfl (less_cons rfl less_nil)))), hM, hF⟩
 rw [if_neg (ne_true hc)] at hF
 refine KC.exit ?_
 refine KQ.thx hQ30 ?_
 clear hQ30 Q30
 refine KQ.then_x ?_
 refine KQ.blk_x ?_
 refine KQ.thn hQ6 ?_
 clear hQ6 Q6
 refine sr fun Q36 hQ36 => ?_
 refine vm rfl rfl ?_
 refine va rfl rfl ?_
 refine nt hQ36 ?_
 clear hQ36 Q36
 refine KC.ret ?_
 have hE := Option.some.inj hF
 clear hF
 subst hE
 refine KQ.rets Try.results78 (RVs.cons (RV.tm rfl) RVs.nil) ?_
 exact ⟨_, rfl, rfl, hM⟩
set_option maxRecDepth 100000 in
set_option maxHeartbeats 40000000 in
theorem c_bits_Get (w : World) (A2 : Option Addr) (c3 : Nat) (b1 : List Int) (hr4 : Rd w A2 c3 1 b1.length (b1.flatMap (eI .u8))) (atv5 : Int) (size6 : Int) (r : Int × Int) (hF : F_bits_Get b1 atv5 size6 = some r) :
  CallsR Try.prog 77 [.slice A2 (b1).length c3, vI atv5, vI size6] w (fun v w' => v = .tuple #[v64 r.1, vI r.2] ∧ Mem w [] w' []) := by
 refine calls_KC Try.func77 rfl Try.ntmps77 rfl ?_
 have hM := Mem.init w
 unfold F_bits_Get at hF
 refine sr fun Q7 hQ7 => ?_
 refine va rfl rfl ?_
 refine va rfl rfl ?_
 refine nt hQ7 ?_
 clear hQ7 Q7
 refine KC.seqH fun Q8 hQ8 => ?_
 refine KC.block ?_
 refine KC.cut (fun a w14 => ∃ (t13 : Bool), Kn 36 [(0, .slice A2 (b1).length c3), (1, vI atv5), (2, vI size6), (8, vB t13)] a ∧ Mem w [] w14 [] ∧ F_bits_Get_j1 b1 atv5 size6 t13 = some r) ?_ ?_
 ·refine KC.region ?_
  refine vm rfl rfl ?_
  refine obindE hF fun y9 hx10 hF => ?_
  refine RL.call Try.func73 bd73 rfl rfl (c_bits_right _ size6 _ hx10) fun v w11 hv => ?_
  obtain ⟨rfl, hN12⟩ := hv
  replace hM := hM.call0 hN12
  refine RL.val (O.not rfl) rfl ?_
  refine vm rfl rfl ?_
  refine RL.bcase (t := 12) rfl (fun hc => ?_) (fun hc => ?_)
  ·rw [if_pos hc] at hF
   refine RL.gskip rfl rfl rfl rfl ?_
   refine RL.gskip rfl rfl rfl rfl ?_
   refine RL.val (O.pickt rfl rfl) rfl ?_
   refine va rfl rfl ?_
   refine RL.nil ?_
   refine KQ.then_k ?_
   exact fun a ha => ⟨true, ha.less (less_cons rfl (less_cons rfl (less_cons rfl (less_cons rfl less_nil)))), hM, hF⟩
  rw [if_neg (ne_true hc)] at hF
  refine RL.gval rfl rfl (O.move rfl) rfl ?_
  refine RL.gval rfl rfl (O.lss rfl rfl) rfl ?_
  refine RL.val (O.pickf rfl rfl) rfl ?_
  refine va rfl rfl ?_
  refine RL.nil ?_
  refine KQ.then_k ?_
  exact fun a ha => ⟨(decide (atv5 < 0)), ha.less (less_cons rfl (less_cons rfl (less_cons rfl (less_cons rfl less_nil)))), hM, hF⟩
 rintro a w14 ⟨t13, ha, hM, hF⟩
 refine KC.app ha ?_
 clear ha
 unfold F_bits_Get_j1 at hF
 refine KC.cond rfl (fun hc => ?_) (fun hc => ?_)
 ·rw [if_pos hc] at hF
  refine sr fun Q15 hQ15 => ?_
  refine va rfl rfl ?_
  refine va rfl rfl ?_
  refine nt hQ15 ?_
  clear hQ15 Q15
  refine KC.ret ?_
  refine KQ.blk_r ?_
  refine KQ.thr hQ8 ?_
  clear hQ8 Q8
  have hE := Option.some.inj hF
  clear hF
  subst hE
  refine KQ.rets Try.results77 (RVs.cons (RV.tm rfl) (RVs.cons (RV.tm rfl) RVs.nil)) ?_
  exact ⟨_, rfl, rfl, hM⟩
 rw [if_neg (ne_true hc)] at hF
 refine KC.cut (fun a w17 => ∃ (t16 : Bool), Kn 36 [(0, .slice A2 (b1).length c3), (1, vI atv5), (2, vI size6), (16, vB t16)] a ∧ Mem w [] w17 [] ∧ F_bits_Get_j2 b1 atv5 size6 t16 = some r) ?_ ?_
 ·refine KC.region ?_
  refine vm rfl rfl ?_
  refine vm rfl rfl ?_
  refine RL.val (O.len sl24 rfl) rfl ?_
  refine RL.val (O.gtr rfl rfl) rfl ?_
  refine vm rfl rfl ?_
  refine RL.bcase (t := 21) rfl (fun hc => ?_) (fun hc => ?_)
  ·rw [if_pos hc] at hF
   refine RL.brun1 7 28 true (by kernel_rfl) ?_
   refine va rfl rfl ?_
   refine RL.nil ?_
   refine KQ.then_k ?_
   exact fun a ha => ⟨true, ha.less (less_cons rfl (less_cons rfl (less_cons rfl (less_cons rfl less_nil)))), hM, hF⟩
  rw [if_neg (ne_true hc)] at hF
  refine RL.gval rfl rfl (O.move rfl) rfl ?_
  refine RL.gval rfl rfl (O.len sl24 rfl) rfl ?_
  refine RL.gval rfl rfl (O.move rfl) rfl ?_
  refine RL.gval rfl rfl (O.sub rfl rfl) rfl ?_
  refine RL.gval rfl rfl (O.move rfl) rfl ?_
  refine RL.gval rfl rfl (O.lss rfl rfl) rfl ?_
  refine RL.val (O.pickf rfl rfl) rfl ?_
  refine va rfl rfl ?_
  refine RL.nil ?_
  refine KQ.then_k ?_
  exact fun a ha => ⟨(decide ((IntKind.i64.wrap ((b1.length : Int) - atv5)) < size6)), ha.less (less_cons rfl (less_cons rfl (less_cons rfl (less_cons rfl less_nil)))), hM, hF⟩
 rintro a w17 ⟨t16, ha, hM, hF⟩
 refine KC.app ha ?_
 clear ha
 unfold F_bits_Get_j2 at hF
 refine KC.cond rfl (fun hc => ?_) (fun hc => ?_)
 ·rw [if_pos hc] at hF
  refine sr fun Q18 hQ18 => ?_
  refine va rfl rfl ?_
  refine va rfl rfl ?_
  refine nt hQ18 ?_
  clear hQ18 Q18
  refine KC.ret ?_
  refine KQ.blk_r ?_
  refine KQ.thr hQ8 ?_
  clear hQ8 Q8
  have hE := Option.some.inj hF
  clear hF
  subst hE
  refine KQ.rets Try.results77 (RVs.cons (RV.tm rfl) (RVs.cons (RV.tm rfl) RVs.nil)) ?_
  exact ⟨_, rfl, rfl, hM⟩
 rw [if_neg (ne_true hc)] at hF
 refine KC.skip ?_
 refine KQ.blk_n ?_
 refine KQ.thn hQ8 ?_
 clear hQ8 Q8
 refine sr fun Q19 hQ19 => ?_
 refine vm rfl rfl ?_
 refine vm rfl rfl ?_
 refine vm rfl rfl ?_
 refine vm rfl rfl ?_
 refine RL.val (O.add rfl rfl) rfl ?_
 refine obindE hF fun cut20 hy21 hF => ?_
 refine cutNE A2 c3 (Int.toNat atv5) 1 fun A22 c23 eA25 ec26 => ?_
 have hr24 := Rd.cutT (enc := (eI .u8)) (s := 1) (fun _ => rfl) hr4 hy21 (m := c3) (by have := hr4.cap; have := (gcut_some hy21).2.2.1; omega) (Nat.le_refl _)
 rw [← eA25, ← ec26] at hr24
 refine RL.val (v := .slice A22 (cut20).length c23) (by rw [eA25, ec26]; exact O.cutT sl24 (hM.inp hr4 Off.nil) hy21 rfl rfl rfl) rfl ?_
 refine obindE hF fun y27 hx28 hF => ?_
 refine RL.call Try.func78 bd78 rfl rfl (c_bits_value _ _ _ cut20 (hM.inp hr24 Off.nil) _ hx28) fun v w29 hv => ?_
 obtain ⟨rfl, hN30⟩ := hv
 replace hM := hM.call0 hN30
 refine va rfl rfl ?_
 refine va rfl rfl ?_
 refine nt hQ19 ?_
 clear hQ19 Q19
 refine KC.ret ?_
 have hE := Option.some.inj hF
 clear hF
 subst hE
 refine KQ.rets Try.results77 (RVs.cons (RV.tm rfl) (RVs.cons (RV.tm rfl) RVs.nil)) ?_
 exact ⟨_, rfl, rfl, hM⟩
set_option maxRecDepth 100000 in
set_option maxHeartbeats 40000000 in
theorem c_bits_Reader_Get (w : World) (g2 : Nat) (tg7 : TypeId) (rv1 : T_bits_Reader) (A4 : Option Addr) (c5 : Nat) (hL9 : Lent w [.box g2 tg7 [.slice A4 (rv1.f_b).length c5, vI rv1.f_at], .row A4 c5 5 1 (rv1.f_b).length ((rv1.f_b).flatMap (eI .u8))]) (size8 : Int) (r : Int × Int × T_bits_Reader) (hF : F_bits_Reader_Get rv1 size8 = some r) :
  CallsR Try.prog 75 [.pointer (some ⟨g2, 0, none⟩), vI size8] w (fun v w' => ∃ (A0 : Option Addr) (c0 : Nat), v = .tuple #[v64 r.1, vI r.2.1] ∧ Mem w [some g2, rblk A4 c5] w' [.box g2 tg7 [.slice A0 (r.2.2.f_b).length c0, vI r.2.2.f_at], .row A0 c0 5 1 r.2.2.f_b.length (r.2.2.f_b.flatMap (eI .u8))]) := by
 refine calls_KC Try.func75 rfl Try.ntmps75 rfl ?_
 have hM : Mem w [some g2, rblk A4 c5] w [.box g2 tg7 [.slice A4 (rv1.f_b).length c5, vI rv1.f_at], .row A4 c5 5 1 (rv1.f_b).length ((rv1.f_b).flatMap (eI .u8))] := Mem.lendN hL9
 unfold F_bits_Reader_Get at hF
 refine sr fun Q10 hQ10 => ?_
 refine va rfl rfl ?_
 refine va rfl rfl ?_
 refine nt hQ10 ?_
 clear hQ10 Q10
 refine KC.seqH fun Q11 hQ11 => ?_
 refine sr fun Q12 hQ12 => ?_
 refine vm rfl rfl ?_
 refine RL.val (O.peqn Try.underlying78 rfl rfl) rfl ?_
 refine nt hQ12 ?_
 clear hQ12 Q12
 refine KC.condF rfl ?_
 refine KC.skip ?_
 refine KQ.thn hQ11 ?_
 clear hQ11 Q11
 refine KC.seqH fun Q13 hQ13 => ?_
 replace hM := hM.drewN 1
 refine KC.draw [] [] [9] [0, 1, 2, 4, 5, 6, 8, 10, 11, 12, 13, 14] (.ofList [0, 1, 2, 3, 4, 5, 6, 7, 8, 9, 10, 11, 12, 13, 14]) moP (by kernel_rfl) ?_
 refine RD.p rfl rfl rfl rfl (fun w' => O.move rfl) ?_
 refine RD.p rfl rfl rfl rfl (fun w' => O.nilp rfl) ?_
 refine RD.p rfl rfl rfl rfl (fun w' => O.fldA fl100_0 (by decide) rfl) ?_
 refine RD.q rfl rfl rfl rfl (fun w' hf => O.load sc24 rfl (Cs.adds [0] ((hM.bx (i := 0) rfl).fut hf) rfl)) ?_
 refine RD.p rfl rfl rfl rfl (fun w' => O.move rfl) ?_
 refine RD.p rfl rfl rfl rfl (fun w' => O.nilp rfl) ?_
 refine RD.p rfl rfl rfl rfl (fun w' => O.fldA fl100_1 (by decide) rfl) ?_
 refine RD.q rfl rfl rfl rfl (fun w' hf => O.load sc3 rfl (Cs.adds [1] ((hM.bx (i := 0) rfl).fut hf) rfl)) ?_
 refine RD.p rfl rfl rfl rfl (fun w' => O.move rfl) ?_
 refine obindE hF fun y14 hx15 hF => ?_
 refine RD.mcall rfl rfl trivial Try.func77 bd77 rfl rfl (c_bits_Get _ _ _ rv1.f_b (hM.rd (i := 1) rfl) rv1.f_at size8 _ hx15) fun v w16 hv => ?_
 obtain ⟨rfl, hN17⟩ := hv
 refine ⟨fun _ => hN17.fut, ?_⟩
 replace hM := hM.call0 hN17
 refine RD.p rfl rfl rfl rfl (fun w' => O.move rfl) ?_
 refine RD.p rfl rfl rfl rfl (fun w' => O.ext rfl rfl) ?_
 refine RD.p rfl rfl rfl rfl (fun w' => O.ext rfl rfl) ?_
 refine RD.p rfl rfl rfl rfl (fun w' => O.assign rfl) ?_
 refine RD.p rfl rfl rfl rfl (fun w' => O.assign rfl) ?_
 refine RD.nil ?_
 refine KQ.thn hQ13 ?_
 clear hQ13 Q13
 refine KC.cut (fun a w23 => ∃ (p22 : Int), Kn 35 [(6, v64 y14.1), (7, vI y14.2)] a ∧ Mem w [some g2, rblk A4 c5] w23 [.row A4 c5 5 1 (rv1.f_b).length ((rv1.f_b).flatMap (eI .u8)), .box g2 tg7 [.slice A4 (rv1.f_b).length c5, vI p22]] ∧ F_bits_Reader_Get_j1 rv1 y14 p22 = some r) ?_ ?_
 ·refine sr fun Q18 hQ18 => ?_
  refine vm rfl rfl ?_
  refine RL.val (O.eql rfl rfl) rfl ?_
  refine nt hQ18 ?_
  clear hQ18 Q18
  refine KC.cond rfl (fun hc => ?_) (fun hc => ?_)
  ·rw [if_pos hc] at hF
   refine KC.region ?_
   refine vm rfl rfl ?_
   refine RL.val (O.nilp rfl) rfl ?_
   refine RL.val (O.fldA fl100_1 (by decide) rfl) rfl ?_
   refine RL.val (O.load sc3 rfl (Cs.adds [1] ((hM.bx (i := 0) rfl)) rfl)) rfl ?_
   refine vm rfl rfl ?_
   refine RL.val (O.add rfl rfl) rfl ?_
   refine RL.val (O.nilp rfl) rfl ?_
   refine RL.val (O.fldA fl100_1 (by decide) rfl) rfl ?_
   refine RL.effs (E.stB (j := 0) (off := 1) (vs := [vI (IntKind.i64.wrap (rv1.f_at + size8))]) (cs' := [.slice A4 (rv1.f_b).length c5, vI (IntKind.i64.wrap (rv1.f_at + size8))]) hM rfl sz3 rfl (adds_eq [1] rfl) rfl rfl (One.all rfl) rfl rfl) fun w19 hM1 => ?_
   clear hM
   have hM := hM1
   clear hM1
   refine RL.nil ?_
   refine KQ.then_k ?_
   replace hM := hM.pick [1, 0] rfl (by decide)
   exact fun a ha => ⟨(IntKind.i64.wrap (rv1.f_at + size8)), ha.less (less_cons rfl (less_cons rfl less_nil)), hM, hF⟩
  rw [if_neg (ne_true hc)] at hF
  refine KC.skip ?_
  refine KQ.then_k ?_
  replace hM := hM.pick [1, 0] rfl (by decide)
  exact fun a ha => ⟨rv1.f_at, ha.less (less_cons rfl (less_cons rfl less_nil)), hM, hF⟩
 rintro a w23 ⟨p22, ha, hM, hF⟩
 refine KC.app ha ?_
 clear ha
 unfold F_bits_Reader_Get_j1 at hF
 refine sr fun Q24 hQ24 => ?_
 refine vm rfl rfl ?_
 refine vm rfl rfl ?_
 refine va rfl rfl ?_
 refine va rfl rfl ?_
 refine nt hQ24 ?_
 clear hQ24 Q24
 refine KC.ret ?_
 have hE := Option.some.inj hF
 clear hF
 subst hE
 replace hM := hM.pick [1, 0] rfl (by decide)
 refine KQ.rets Try.results75 (RVs.cons (RV.tm rfl) (RVs.cons (RV.tm rfl) RVs.nil)) ?_
 exact ⟨_, rfl, A4, c5, rfl, hM⟩
set_option maxRecDepth 100000 in
set_option maxHeartbeats 40000000 in
theorem c_trans_number (w : World) (g2 : Nat) (tg7 : TypeId) (rv1 : T_bits_Reader) (A4 : Option Addr) (c5 : Nat) (hL9 : Lent w [.box g2 tg7 [.slice A4 (rv1.f_b).length c5, vI rv1.f_at], .row A4 c5 5 1 (rv1.f_b).length ((rv1.f_b).flatMap (eI .u8))]) (size8 : Int) (r : Int × T_bits_Reader) (hF : F_trans_number rv1 size8 = some r) :
  CallsR Try.prog 68 [.pointer (some ⟨g2, 0, none⟩), vI size8] w (fun v w' => ∃ (A0 : Option Addr) (c0 : Nat), v = v64 r.1 ∧ Mem w [some g2, rblk A4 c5] w' [.box g2 tg7 [.slice A0 (r.2.f_b).length c0, vI r.2.f_at], .row A0 c0 5 1 r.2.f_b.length (r.2.f_b.flatMap (eI .u8))]) := by
 refine calls_KC Try.func68 rfl Try.ntmps68 rfl ?_
 have hM : Mem w [some g2, rblk A4 c5] w [.box g2 tg7 [.slice A4 (rv1.f_b).length c5, vI rv1.f_at], .row A4 c5 5 1 (rv1.f_b).length ((rv1.f_b).flatMap (eI .u8))] := Mem.lendN hL9
 unfold F_trans_number at hF
 refine sr fun Q10 hQ10 => ?_
 refine va rfl rfl ?_
 refine nt hQ10 ?_
 clear hQ10 Q10
 refine sr fun Q11 hQ11 => ?_
 refine vm rfl rfl ?_
 refine vm rfl rfl ?_
 refine obindE hF fun y12 hx13 hF => ?_
 refine RL.call Try.func75 bd75 rfl rfl (c_bits_Reader_Get _ _ _ rv1 _ _ (hM.lent [0, 1] rfl (by decide)) size8 _ hx13) fun v w14 hv => ?_
 obtain ⟨A16, c17, rfl, hN15⟩ := hv
 replace hM := hM.callL [0, 1] [] rfl rfl (by decide) rfl hN15
 refine vm rfl rfl ?_
 refine RL.val (O.ext rfl rfl) rfl ?_
 refine RL.val (O.ext rfl rfl) rfl ?_
 refine va rfl rfl ?_
 refine va rfl rfl ?_
 refine nt hQ11 ?_
 clear hQ11 Q11
 refine sr fun Q19 hQ19 => ?_
 refine vm rfl rfl ?_
 refine va rfl rfl ?_
 refine nt hQ19 ?_
 clear hQ19 Q19
 refine KC.ret ?_
 have hE := Option.some.inj hF
 clear hF
 subst hE
 refine KQ.rets Try.results68 (RVs.cons (RV.tm rfl) RVs.nil) ?_
 exact ⟨_, rfl, A16, c17, rfl, hM⟩
set_option maxRecDepth 100000 in
set_option maxHeartbeats 40000000 in
theorem c_bits_Reader_Left (w : World) (g2 : Nat) (tg7 : TypeId) (rv1 : T_bits_Reader) (A4 : Option Addr) (c5 : Nat) (hL8 : Lent w [.box g2 tg7 [.slice A4 (rv1.f_b).length c5, vI rv1.f_at], .row A4 c5 5 1 (rv1.f_b).length ((rv1.f_b).flatMap (eI .u8))]) (r : Int × T_bits_Reader) (hF : F_bits_Reader_Left rv1 = some r) :
  CallsR Try.prog 76 [.pointer (some ⟨g2, 0, none⟩)] w (fun v w' => ∃ (A0 : Option Addr) (c0 : Nat), v = vI r.1 ∧ Mem w [some g2, rblk A4 c5] w' [.box g2 tg7 [.slice A0 (r.2.f_b).length c0, vI r.2.f_at], .row A0 c0 5 1 r.2.f_b.length (r.2.f_b.flatMap (eI .u8))]) := by
 refine calls_KC Try.func76 rfl Try.ntmps76 rfl ?_
 have hM : Mem w [some g2, rblk A4 c5] w [.box g2 tg7 [.slice A4 (rv1.f_b).length c5, vI rv1.f_at], .row A4 c5 5 1 (rv1.f_b).length ((rv1.f_b).flatMap (eI .u8))] := Mem.lendN hL8
 unfold F_bits_Reader_Left at hF
 refine sr fun Q9 hQ9 => ?_
 refine va rfl rfl ?_
 refine nt hQ9 ?_
 clear hQ9 Q9
 refine KC.seqH fun Q10 hQ10 => ?_
 refine sr fun Q11 hQ11 => ?_
 refine vm rfl rfl ?_
 refine RL.val (O.peqn Try.underlying78 rfl rfl) rfl ?_
 refine nt hQ11 ?_
 clear hQ11 Q11
 refine KC.condF rfl ?_
 refine KC.skip ?_
 refine KQ.thn hQ10 ?_
 clear hQ10 Q10
 refine KC.seqH fun Q12 hQ12 => ?_
 replace hM := hM.drewN 1
 refine KC.draw [] [] [] [0, 1, 2, 4, 5, 6, 7, 9, 10] (.ofList [0, 1, 2, 3, 4, 5, 6, 7, 8, 9, 10]) moP (by kernel_rfl) ?_
 refine RD.p rfl rfl rfl rfl (fun w' => O.move rfl) ?_
 refine RD.p rfl rfl rfl rfl (fun w' => O.nilp rfl) ?_
 refine RD.p rfl rfl rfl rfl (fun w' => O.fldA fl100_0 (by decide) rfl) ?_
 refine RD.q rfl rfl rfl rfl (fun w' hf => O.load sc24 rfl (Cs.adds [0] ((hM.bx (i := 0) rfl).fut hf) rfl)) ?_
 refine RD.p rfl rfl rfl rfl (fun w' => O.len sl24 rfl) ?_
 refine RD.p rfl rfl rfl rfl (fun w' => O.move rfl) ?_
 refine RD.p rfl rfl rfl rfl (fun w' => O.nilp rfl) ?_
 refine RD.p rfl rfl rfl rfl (fun w' => O.fldA fl100_1 (by decide) rfl) ?_
 refine RD.q rfl rfl rfl rfl (fun w' hf => O.load sc3 rfl (Cs.adds [1] ((hM.bx (i := 0) rfl).fut hf) rfl)) ?_
 refine RD.p rfl rfl rfl rfl (fun w' => O.sub rfl rfl) ?_
 refine RD.p rfl rfl rfl rfl (fun w' => O.assign rfl) ?_
 refine RD.nil ?_
 refine KQ.thn hQ12 ?_
 clear hQ12 Q12
 refine KC.ret ?_
 have hE := Option.some.inj hF
 clear hF
 subst hE
 refine KQ.rets Try.results76 (RVs.cons (RV.tm rfl) RVs.nil) ?_
 exact ⟨_, rfl, A4, c5, rfl, hM⟩
set_option maxRecDepth 100000 in
set_option maxHeartbeats 40000000 in
theorem c_bits_Reader_Take (w : World) (g2 : Nat) (tg7 : TypeId) (rv1 : T_bits_Reader) (A4 : Option Addr) (c5 : Nat) (hL9 : Lent w [.box g2 tg7 [.slice A4 (rv1.f_b).length c5, vI rv1.f_at], .row A4 c5 5 1 (rv1.f_b).length ((rv1.f_b).flatMap (eI .u8))]) (nv8 : Int) (r : (List Int) × Int × T_bits_Reader) (hF : F_bits_Reader_Take rv1 nv8 = some r) :
  CallsR Try.prog 70 [.pointer (some ⟨g2, 0, none⟩), vI nv8] w (fun v w' => ∃ (A0 : Option Addr) (c0 : Nat) (A1 : Option Addr) (c1 : Nat), v = .tuple #[.slice A1 (r.1).length c1, vI r.2.1] ∧ Mem w [some g2, rblk A4 c5] w' [.box g2 tg7 [.slice A0 (r.2.2.f_b).length c0, vI r.2.2.f_at], .row A0 c0 5 1 r.2.2.f_b.length (r.2.2.f_b.flatMap (eI .u8)), .row A1 c1 5 1 r.1.length (r.1.flatMap (eI .u8))]) := by
 refine calls_KC Try.func70 rfl Try.ntmps70 rfl ?_
 have hM : Mem w [some g2, rblk A4 c5] w [.box g2 tg7 [.slice A4 (rv1.f_b).length c5, vI rv1.f_at], .row A4 c5 5 1 (rv1.f_b).length ((rv1.f_b).flatMap (eI .u8))] := Mem.lendN hL9
 unfold F_bits_Reader_Take at hF
 refine sr fun Q10 hQ10 => ?_
 refine va rfl rfl ?_
 refine va rfl rfl ?_
 refine nt hQ10 ?_
 clear hQ10 Q10
 refine KC.seqH fun Q11 hQ11 => ?_
 refine KC.block ?_
 refine sr fun Q12 hQ12 => ?_
 refine vm rfl rfl ?_
 refine RL.val (O.peqn Try.underlying78 rfl rfl) rfl ?_
 refine va rfl rfl ?_
 refine nt hQ12 ?_
 clear hQ12 Q12
 refine KC.condF rfl ?_
 refine sr fun Q13 hQ13 => ?_
 refine vm rfl rfl ?_
 refine RL.val (O.lss rfl rfl) rfl ?_
 refine va rfl rfl ?_
 refine nt hQ13 ?_
 clear hQ13 Q13
 refine KC.cond rfl (fun hc => ?_) (fun hc => ?_)
 ·rw [if_pos hc] at hF
  refine sr fun Q14 hQ14 => ?_
  refine va rfl rfl ?_
  refine va rfl rfl ?_
  refine nt hQ14 ?_
  clear hQ14 Q14
  refine KC.ret ?_
  refine KQ.blk_r ?_
  refine KQ.thr hQ11 ?_
  clear hQ11 Q11
  have hE := Option.some.inj hF
  clear hF
  subst hE
  replace hM := hM.nilrow 5 1
  refine KQ.rets Try.results70 (RVs.cons (RV.tm rfl) (RVs.cons (RV.tm rfl) RVs.nil)) ?_
  exact ⟨_, rfl, A4, c5, none, 0, rfl, hM⟩
 rw [if_neg (ne_true hc)] at hF
 refine sr fun Q15 hQ15 => ?_
 refine vm rfl rfl ?_
 refine vm rfl rfl ?_
 refine obindE hF fun y16 hx17 hF => ?_
 refine RL.call Try.func76 bd76 rfl rfl (c_bits_Reader_Left _ _ _ rv1 _ _ (hM.lent [0, 1] rfl (by decide)) _ hx17) fun v w18 hv => ?_
 obtain ⟨A20, c21, rfl, hN19⟩ := hv
 replace hM := hM.callL [0, 1] [] rfl rfl (by decide) rfl hN19
 refine RL.val (O.gtr rfl rfl) rfl ?_
 refine va rfl rfl ?_
 refine nt hQ15 ?_
 clear hQ15 Q15
 refine KC.cond rfl (fun hc => ?_) (fun hc => ?_)
 ·rw [if_pos hc] at hF
  refine sr fun Q23 hQ23 => ?_
  refine va rfl rfl ?_
  refine va rfl rfl ?_
  refine nt hQ23 ?_
  clear hQ23 Q23
  refine KC.ret ?_
  refine KQ.blk_r ?_
  refine KQ.thr hQ11 ?_
  clear hQ11 Q11
  have hE := Option.some.inj hF
  clear hF
  subst hE
  replace hM := hM.nilrow 5 1
  refine KQ.rets Try.results70 (RVs.cons (RV.tm rfl) (RVs.cons (RV.tm rfl) RVs.nil)) ?_
  exact ⟨_, rfl, A20, c21, none, 0, rfl, hM⟩
 rw [if_neg (ne_true hc)] at hF
 refine KC.skip ?_
 refine KQ.blk_n ?_
 refine KQ.thn hQ11 ?_
 clear hQ11 Q11
 refine KC.seqH fun Q24 hQ24 => ?_
 replace hM := hM.drewN 1
 refine KC.draw [] [] [] [0, 1, 2, 4, 5, 6, 8, 9, 10, 12, 13, 14, 15, 16, 18, 19, 20, 21] (.ofList [0, 1, 2, 3, 4, 5, 6, 7, 8, 9, 10, 11, 12, 13, 14, 15, 16, 17, 18, 19, 20, 21]) moP (by kernel_rfl) ?_
 refine RD.p rfl rfl rfl rfl (fun w' => O.move rfl) ?_
 refine RD.p rfl rfl rfl rfl (fun w' => O.nilp rfl) ?_
 refine RD.p rfl rfl rfl rfl (fun w' => O.fldA fl100_0 (by decide) rfl) ?_
 refine RD.q rfl rfl rfl rfl (fun w' hf => O.load sc24 rfl (Cs.adds [0] ((hM.bx (i := 0) rfl).fut hf) rfl)) ?_
 refine RD.p rfl rfl rfl rfl (fun w' => O.move rfl) ?_
 refine RD.p rfl rfl rfl rfl (fun w' => O.nilp rfl) ?_
 refine RD.p rfl rfl rfl rfl (fun w' => O.fldA fl100_1 (by decide) rfl) ?_
 refine RD.q rfl rfl rfl rfl (fun w' hf => O.load sc3 rfl (Cs.adds [1] ((hM.bx (i := 0) rfl).fut hf) rfl)) ?_
 refine RD.p rfl rfl rfl rfl (fun w' => O.move rfl) ?_
 refine RD.p rfl rfl rfl rfl (fun w' => O.nilp rfl) ?_
 refine RD.p rfl rfl rfl rfl (fun w' => O.fldA fl100_1 (by decide) rfl) ?_
 refine RD.q rfl rfl rfl rfl (fun w' hf => O.load sc3 rfl (Cs.adds [1] ((hM.bx (i := 0) rfl).fut hf) rfl)) ?_
 refine RD.p rfl rfl rfl rfl (fun w' => O.move rfl) ?_
 refine RD.p rfl rfl rfl rfl (fun w' => O.add rfl rfl) ?_
 refine RD.p rfl rfl rfl rfl (fun w' => O.move rfl) ?_
 refine RD.p rfl rfl rfl rfl (fun w' => O.nilp rfl) ?_
 refine RD.p rfl rfl rfl rfl (fun w' => O.fldA fl100_1 (by decide) rfl) ?_
 refine RD.q rfl rfl rfl rfl (fun w' hf => O.load sc3 rfl (Cs.adds [1] ((hM.bx (i := 0) rfl).fut hf) rfl)) ?_
 refine RD.p rfl rfl rfl rfl (fun w' => O.move rfl) ?_
 refine RD.p rfl rfl rfl rfl (fun w' => O.add rfl rfl) ?_
 refine obindE hF fun cut25 hy26 hF => ?_
 refine cutNE A20 (Int.toNat (IntKind.i64.wrap (y16.2.f_at + nv8))) (Int.toNat y16.2.f_at) 1 fun A27 c28 eA30 ec31 => ?_
 have hr29 := Rd.cutT (enc := (eI .u8)) (s := 1) (fun _ => rfl) (hM.rd (i := 1) rfl) hy26 (m := (Int.toNat (IntKind.i64.wrap (y16.2.f_at + nv8)))) (Nat.le_refl _) (by have := (hM.rd (i := 1) rfl).cap; have := (gcut_some hy26).2.2.1; omega)
 rw [← eA30, ← ec31] at hr29
 refine RD.p (v := .slice A27 (cut25).length c28) rfl rfl rfl rfl (fun w' => (by rw [eA30, ec31]; exact O.cut3T sl24 (hM.rd (i := 1) rfl) hy26 rfl rfl rfl rfl)) ?_
 refine RD.p rfl rfl rfl rfl (fun w' => O.assign rfl) ?_
 refine RD.nil ?_
 refine KQ.thn hQ24 ?_
 clear hQ24 Q24
 refine sr fun Q32 hQ32 => ?_
 refine vm rfl rfl ?_
 refine RL.val (O.nilp rfl) rfl ?_
 refine RL.val (O.fldA fl100_1 (by decide) rfl) rfl ?_
 refine RL.val (O.load sc3 rfl (Cs.adds [1] ((hM.bx (i := 0) rfl)) rfl)) rfl ?_
 refine vm rfl rfl ?_
 refine RL.val (O.add rfl rfl) rfl ?_
 refine RL.val (O.nilp rfl) rfl ?_
 refine RL.val (O.fldA fl100_1 (by decide) rfl) rfl ?_
 refine RL.effs (E.stB (j := 0) (off := 1) (vs := [vI (IntKind.i64.wrap (y16.2.f_at + nv8))]) (cs' := [.slice A20 (y16.2.f_b).length c21, vI (IntKind.i64.wrap (y16.2.f_at + nv8))]) hM rfl sz3 rfl (adds_eq [1] rfl) rfl rfl (One.all rfl) rfl rfl) fun w33 hM1 => ?_
 clear hM
 have hM := hM1
 clear hM1
 have hr29 := Rd.cutT (enc := (eI .u8)) (s := 1) (fun _ => rfl) (hM.rd (i := 1) rfl) hy26 (m := (Int.toNat (IntKind.i64.wrap (y16.2.f_at + nv8)))) (Nat.le_refl _) (by have := (hM.rd (i := 1) rfl).cap; have := (gcut_some hy26).2.2.1; omega)
 rw [← eA30, ← ec31] at hr29
 refine nt hQ32 ?_
 clear hQ32 Q32
 refine sr fun Q34 hQ34 => ?_
 refine vm rfl rfl ?_
 refine obindE hF fun y35 hx36 hF => ?_
 refine RL.call Try.func61 bd61 rfl rfl (c_slices_Clone_byte_byte _ _ _ cut25 hr29 _ hx36) fun v w37 hv => ?_
 obtain ⟨A39, c40, rfl, hN38⟩ := hv
 have hr29 := hr29.fut hN38.fut
 replace hM := hM.call hN38
 refine va rfl rfl ?_
 refine va rfl rfl ?_
 refine nt hQ34 ?_
 clear hQ34 Q34
 refine KC.ret ?_
 have hE := Option.some.inj hF
 clear hF
 subst hE
 refine KQ.rets Try.results70 (RVs.cons (RV.tm rfl) (RVs.cons (RV.tm rfl) RVs.nil)) ?_
 exact ⟨_, rfl, A20, c21, A39, c40, rfl, hM⟩
set_option maxRecDepth 100000 in
set_option maxHeartbeats 40000000 in
theorem c_trans_rest (w : World) (g2 : Nat) (tg7 : TypeId) (rv1 : T_bits_Reader) (A4 : Option Addr) (c5 : Nat) (hL8 : Lent w [.box g2 tg7 [.slice A4 (rv1.f_b).length c5, vI rv1.f_at], .row A4 c5 5 1 (rv1.f_b).length ((rv1.f_b).flatMap (eI .u8))]) (r : (List Int) × T_bits_Reader) (hF : F_trans_rest rv1 = some r) :
  CallsR Try.prog 69 [.pointer (some ⟨g2, 0, none⟩)] w (fun v w' => ∃ (A0 : Option Addr) (c0 : Nat) (A1 : Option Addr) (c1 : Nat), v = .slice A1 (r.1).length c1 ∧ Mem w [some g2, rblk A4 c5] w' [.box g2 tg7 [.slice A0 (r.2.f_b).length c0, vI r.2.f_at], .row A0 c0 5 1 r.2.f_b.length (r.2.f_b.flatMap (eI .u8)), .row A1 c1 5 1 r.1.length (r.1.flatMap (eI .u8))]) := by
 refine calls_KC Try.func69 rfl Try.ntmps69 rfl ?_
 have hM : Mem w [some g2, rblk A4 c5] w [.box g2 tg7 [.slice A4 (rv1.f_b).length c5, vI rv1.f_at], .row A4 c5 5 1 (rv1.f_b).length ((rv1.f_b).flatMap (eI .u8))] := Mem.lendN hL8
 unfold F_trans_rest at hF
 refine sr fun Q9 hQ9 => ?_
 refine va rfl rfl ?_
 refine nt hQ9 ?_
 clear hQ9 Q9
 refine sr fun Q10 hQ10 => ?_
 refine vm rfl rfl ?_
 refine vm rfl rfl ?_
 refine obindE hF fun y11 hx12 hF => ?_
 refine RL.call Try.func76 bd76 rfl rfl (c_bits_Reader_Left _ _ _ rv1 _ _ (hM.lent [0, 1] rfl (by decide)) _ hx12) fun v w13 hv => ?_
 obtain ⟨A15, c16, rfl, hN14⟩ := hv
 replace hM := hM.callL [0, 1] [] rfl rfl (by decide) rfl hN14
 refine obindE hF fun y18 hx19 hF => ?_
 refine RL.call Try.func70 bd70 rfl rfl (c_bits_Reader_Take _ _ _ y11.2 _ _ (hM.lent [0, 1] rfl (by decide)) y11.1 _ hx19) fun v w20 hv => ?_
 obtain ⟨A22, c23, A25, c26, rfl, hN21⟩ := hv
 replace hM := hM.callL [0, 1] [] rfl rfl (by decide) rfl hN21
 refine vm rfl rfl ?_
 refine RL.val (O.ext rfl rfl) rfl ?_
 refine RL.val (O.ext rfl rfl) rfl ?_
 refine va rfl rfl ?_
 refine va rfl rfl ?_
 refine nt hQ10 ?_
 clear hQ10 Q10
 refine sr fun Q28 hQ28 => ?_
 refine vm rfl rfl ?_
 refine va rfl rfl ?_
 refine nt hQ28 ?_
 clear hQ28 Q28
 refine KC.ret ?_
 have hE := Option.some.inj hF
 clear hF
 subst hE
 refine KQ.rets Try.results69 (RVs.cons (RV.tm rfl) RVs.nil) ?_
 exact ⟨_, rfl, A22, c23, A25, c26, rfl, hM⟩
end Go.Proofs.Ytcinagdkkclapaa
