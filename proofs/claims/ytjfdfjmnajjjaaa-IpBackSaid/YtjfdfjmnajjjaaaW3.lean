/- Printed by a program of this claim: each call returns what the plain function of its name gives. -/
import Derived.Test.YtjfdfjmnajjjaaaW1
import Derived.Test.YtjfdfjmnajjjaaaW2
set_option linter.unusedVariables false
namespace Go.Proofs.Ytjfdfjmnajjjaaa
open Go Go.Ox Go.RowKit
set_option maxRecDepth 100000 in
set_option maxHeartbeats 40000000 in
theorem c_sum_each_fsum_Sum_Add (w : World) (g6 : Nat) (tg8 : TypeId) (does5 : T_sum_Sum) (hL9 : Lent w [.box g6 tg8 [.int .u64 does5.f_n, .int .i64 does5.f_many]]) (A2 : Option Addr) (c3 : Nat) (lv1 : List (List Int)) (hr4 : Rds [some g6] w A2 c3 (eI .u8) 1 lv1) (r : T_sum_Sum) (hF : F_sum_each_fsum_Sum_Add lv1 does5 = some r) :
    CallsR Try.prog 54 [.slice A2 (lv1).length c3, .func (.func 55) #[.pointer (some ⟨g6, 0, none⟩)] #[]] w (fun v w' => v = .tuple #[] ∧ Mem w [some g6] w' [.box g6 tg8 [.int .u64 r.f_n, .int .i64 r.f_many]]) := by
  refine calls_KC Try.func54 rfl Try.ntmps54 rfl ?_
  have hM : Mem w [some g6] w [.box g6 tg8 [.int .u64 does5.f_n, .int .i64 does5.f_many]] := Mem.lendN hL9
  unfold F_sum_each_fsum_Sum_Add at hF
  refine KC.seq ?_
  refine KC.region ?_
  refine RL.val (O.move rfl) rfl ?_
  refine RL.val (O.len sl91 rfl) rfl ?_
  refine RL.val (O.move rfl) rfl ?_
  refine RL.nil ?_
  refine KQ.then_n ?_
  refine KC.block ?_
  refine KC.loop (fun k44 a w42 => ∃ (p39 : Int) (p40 : Int) (t41 : Int), Kn 16 [(1, .func (.func 55) #[.pointer (some ⟨g6, 0, none⟩)] #[]), (6, .slice A2 (lv1).length c3), (7, .int .i64 (lv1.length : Int)), (8, .int .i64 t41)] a ∧ Mem w [some g6] w42 [.box g6 tg8 [.int .u64 p39, .int .i64 p40]] ∧ F_sum_each_fsum_Sum_Add_L1 lv1 k44 p39 p40 t41 = some r) ?_ ?_
  · exact fun a ha => ⟨fuel0, does5.f_n, does5.f_many, 0, ha.less (less_cons rfl (less_cons rfl (less_cons rfl (less_cons rfl less_nil)))), hM, hF⟩
  · rintro k44 a w42 ⟨p39, p40, t41, ha, hM, hF⟩
    refine KC.app ha ?_
    clear ha
    cases k44 with
    | zero => exact (none_some hF).elim
    | succ k44 =>
    have hF : F_sum_each_fsum_Sum_Add_l1 (F_sum_each_fsum_Sum_Add_L1 lv1 k44) lv1 p39 p40 t41 = some r := hF
    unfold F_sum_each_fsum_Sum_Add_l1 at hF
    refine KC.seq ?_
    refine KC.region ?_
    refine RL.val (O.lss rfl rfl) rfl ?_
    refine RL.nil ?_
    refine KQ.then_n ?_
    refine KC.seq ?_
    refine KC.cond rfl (fun hc => ?_) (fun hc => ?_)
    · rw [if_pos hc] at hF
      refine KC.skip ?_
      refine KQ.then_n ?_
      refine KC.seq ?_
      refine KC.block ?_
      refine KC.seq ?_
      refine KC.region ?_
      refine obindE hF fun xv47 hx46 hF => ?_
      obtain ⟨A48, c49, hA45, hr50, ho51, hO52⟩ := Rds.at hr4 hx46
      have hA45 := hA45.chg hM.chg hO52
      refine RL.val (O.idxA sl91 (hA45) rfl rfl) rfl ?_
      refine RL.val (O.load sc22 rfl (hA45).cells.at0) rfl ?_
      refine RL.val (O.assign rfl) rfl ?_
      refine RL.nil ?_
      refine KQ.then_n ?_
      refine KC.region ?_
      refine RL.val (O.move rfl) rfl ?_
      refine RL.val (O.move rfl) rfl ?_
      refine obindE hF fun y53 hx54 hF => ?_
      refine RL.callv (first := [.pointer (some ⟨g6, 0, none⟩)]) (captured := []) rfl Try.func55 bd55 rfl rfl (c_sum_Sum_Add _ _ _ (T_sum_Sum.mk p39 p40) (hM.lent [0] rfl (by decide)) _ _ xv47 (hM.inp hr50 ho51) (hM.offI [0] rfl hr50 (ho51)) _ hx54) fun v w55 hv => ?_
      obtain ⟨rfl, hN56⟩ := hv
      replace hM := hM.callL [0] [] rfl rfl (by decide) rfl hN56
      refine RL.nil ?_
      refine KQ.blk_n ?_
      refine KQ.then_n ?_
      refine KC.region ?_
      refine RL.val (O.add rfl rfl) rfl ?_
      refine RL.val (O.move rfl) rfl ?_
      refine RL.nil ?_
      refine KQ.then_k ?_
      exact fun a ha => ⟨k44, Nat.lt_succ_self k44, y53.f_n, y53.f_many, (IntKind.i64.wrap (t41 + 1)), ha.less (less_cons rfl (less_cons rfl (less_cons rfl (less_cons rfl less_nil)))), hM, hF⟩
    · rw [if_neg (ne_true hc)] at hF
      refine KC.exit ?_
      refine KQ.then_x ?_
      refine KQ.then_x ?_
      refine KQ.blk_x ?_
      have hE := Option.some.inj hF
      clear hF
      subst hE
      refine KQ.endr Try.results54 RVs.nil ?_
      exact ⟨_, rfl, rfl, hM⟩
set_option maxRecDepth 100000 in
set_option maxHeartbeats 40000000 in
theorem c_sum_Sum_Value (w : World) (g2 : Nat) (tg4 : TypeId) (s1 : T_sum_Sum) (hL5 : Lent w [.box g2 tg4 [.int .u64 s1.f_n, .int .i64 s1.f_many]]) (r : Int × T_sum_Sum) (hF : F_sum_Sum_Value s1 = some r) :
    CallsR Try.prog 56 [.pointer (some ⟨g2, 0, none⟩)] w (fun v w' => v = .int .u16 r.1 ∧ Mem w [some g2] w' [.box g2 tg4 [.int .u64 r.2.f_n, .int .i64 r.2.f_many]]) := by
  refine calls_KC Try.func56 rfl Try.ntmps56 rfl ?_
  have hM : Mem w [some g2] w [.box g2 tg4 [.int .u64 s1.f_n, .int .i64 s1.f_many]] := Mem.lendN hL5
  unfold F_sum_Sum_Value at hF
  refine KC.seq ?_
  refine KC.region ?_
  refine RL.val (O.assign rfl) rfl ?_
  refine RL.nil ?_
  refine KQ.then_n ?_
  refine KC.seq ?_
  refine KC.seq ?_
  refine KC.region ?_
  refine RL.val (O.move rfl) rfl ?_
  refine RL.val (O.peqn Try.underlying104 rfl rfl) rfl ?_
  refine RL.nil ?_
  refine KQ.then_n ?_
  refine KC.condF rfl ?_
  refine KC.skip ?_
  refine KQ.then_n ?_
  refine KC.seq ?_
  refine KC.region ?_
  refine RL.val (O.move rfl) rfl ?_
  refine RL.val (O.nilp rfl) rfl ?_
  refine RL.val (O.fldA fl95_0 (by decide) rfl) rfl ?_
  refine RL.val (O.load sc70 rfl (Cs.adds [0] ((hM.bx (i := 0) rfl)) rfl)) rfl ?_
  refine obindE hF fun y6 hx7 hF => ?_
  refine RL.call Try.func58 bd58 rfl rfl (c_sum_fold _ s1.f_n _ hx7) fun v w8 hv => ?_
  obtain ⟨rfl, hN9⟩ := hv
  replace hM := hM.call0 hN9
  refine RL.val (O.sub rfl rfl) rfl ?_
  refine RL.val (O.assign rfl) rfl ?_
  refine RL.nil ?_
  refine KQ.then_n ?_
  refine KC.ret ?_
  have hE := Option.some.inj hF
  clear hF
  subst hE
  refine KQ.rets Try.results56 (RVs.cons (RV.tm rfl) RVs.nil) ?_
  exact ⟨_, rfl, rfl, hM⟩
set_option maxRecDepth 100000 in
set_option maxHeartbeats 40000000 in
theorem c_sum_Of (w : World) (A2 : Option Addr) (c3 : Nat) (lv1 : List (List Int)) (hr4 : Rds [] w A2 c3 (eI .u8) 1 lv1) (r : Int) (hF : F_sum_Of lv1 = some r) :
    CallsR Try.prog 36 [.slice A2 (lv1).length c3] w (fun v w' => v = .int .u16 r ∧ Mem w [] w' []) := by
  refine calls_KC Try.func36 rfl Try.ntmps36 rfl ?_
  have hM := Mem.init w
  unfold F_sum_Of at hF
  refine KC.seq ?_
  refine KC.region ?_
  refine RL.val (O.assign rfl) rfl ?_
  refine RL.nil ?_
  refine KQ.then_n ?_
  refine KC.seq ?_
  refine KC.region ?_
  refine RL.eff (E.alloc hM ze95) rfl fun v w6 hv => ?_
  clear hM
  obtain ⟨g5, rfl, hM, hf⟩ := hv
  refine RL.nil ?_
  refine KQ.then_n ?_
  refine KC.seq ?_
  refine KC.region ?_
  refine RL.val (O.move rfl) rfl ?_
  refine RL.val (O.mkf rfl rfl) rfl ?_
  refine obindE hF fun y8 hx9 hF => ?_
  refine RL.call Try.func54 bd54 rfl rfl (c_sum_each_fsum_Sum_Add _ _ _ (T_sum_Sum.mk 0 0) (hM.lent [0] rfl (by decide)) _ _ lv1 (hM.offs [0] rfl hr4) _ hx9) fun v w10 hv => ?_
  obtain ⟨rfl, hN11⟩ := hv
  replace hM := hM.callL [0] [] rfl rfl (by decide) rfl hN11
  refine RL.nil ?_
  refine KQ.then_n ?_
  refine KC.seq ?_
  refine KC.region ?_
  refine obindE hF fun y12 hx13 hF => ?_
  refine RL.call Try.func56 bd56 rfl rfl (c_sum_Sum_Value _ _ _ y8 (hM.lent [0] rfl (by decide)) _ hx13) fun v w14 hv => ?_
  obtain ⟨rfl, hN15⟩ := hv
  replace hM := hM.callL [0] [] rfl rfl (by decide) rfl hN15
  refine RL.val (O.assign rfl) rfl ?_
  refine RL.nil ?_
  refine KQ.then_n ?_
  refine KC.ret ?_
  have hE := Option.some.inj hF
  clear hF
  subst hE
  replace hM := hM.pick [] rfl (by decide)
  refine KQ.rets Try.results36 (RVs.cons (RV.tm rfl) RVs.nil) ?_
  exact ⟨_, rfl, rfl, hM⟩
set_option maxRecDepth 100000 in
set_option maxHeartbeats 40000000 in
theorem c_bits_Writer_Set (w : World) (g2 : Nat) (tg7 : TypeId) (wv1 : T_bits_Writer) (A4 : Option Addr) (c5 : Nat) (hL11 : Lent w [.box g2 tg7 [.slice A4 (wv1.f_b).length c5], .row A4 c5 5 1 (wv1.f_b).length ((wv1.f_b).flatMap (eI .u8))]) (atv8 : Int) (v9 : Int) (size10 : Int) (r : Int × T_bits_Writer) (hF : F_bits_Writer_Set wv1 atv8 v9 size10 = some r) :
    CallsR Try.prog 35 [.pointer (some ⟨g2, 0, none⟩), .int .i64 atv8, .int .u64 v9, .int .i64 size10] w (fun v w' => ∃ (A0 : Option Addr) (c0 : Nat), v = .int .i64 r.1 ∧ Mem w [some g2, rblk A4 c5] w' [.box g2 tg7 [.slice A0 (r.2.f_b).length c0], .row A0 c0 5 1 r.2.f_b.length (r.2.f_b.flatMap (eI .u8))]) := by
  refine calls_KC Try.func35 rfl Try.ntmps35 rfl ?_
  have hM : Mem w [some g2, rblk A4 c5] w [.box g2 tg7 [.slice A4 (wv1.f_b).length c5], .row A4 c5 5 1 (wv1.f_b).length ((wv1.f_b).flatMap (eI .u8))] := Mem.lendN hL11
  unfold F_bits_Writer_Set at hF
  refine KC.seq ?_
  refine KC.region ?_
  refine RL.val (O.assign rfl) rfl ?_
  refine RL.nil ?_
  refine KQ.then_n ?_
  refine KC.seq ?_
  refine KC.seq ?_
  refine KC.region ?_
  refine RL.val (O.move rfl) rfl ?_
  refine RL.val (O.peqn Try.underlying90 rfl rfl) rfl ?_
  refine RL.nil ?_
  refine KQ.then_n ?_
  refine KC.condF rfl ?_
  refine KC.skip ?_
  refine KQ.then_n ?_
  refine KC.seq ?_
  refine KC.cut (fun a w19 => ∃ (t18 : Bool), Kn 49 [(0, .pointer (some ⟨g2, 0, none⟩)), (1, .int .i64 atv8), (2, .int .u64 v9), (3, .int .i64 size10), (38, .bool t18)] a ∧ Mem w [some g2, rblk A4 c5] w19 [.row A4 c5 5 1 (wv1.f_b).length ((wv1.f_b).flatMap (eI .u8)), .box g2 tg7 [.slice A4 (wv1.f_b).length c5]] ∧ F_bits_Writer_Set_j1 wv1 atv8 v9 size10 t18 = some r) ?_ ?_
  · refine KC.region ?_
    refine RL.val (O.move rfl) rfl ?_
    refine RL.val (O.move rfl) rfl ?_
    refine obindE hF fun y12 hx13 hF => ?_
    refine RL.call Try.func52 bd52 rfl rfl (c_bits_fits _ v9 size10 _ hx13) fun v w14 hv => ?_
    obtain ⟨rfl, hN15⟩ := hv
    replace hM := hM.call0 hN15
    refine RL.val (O.not rfl) rfl ?_
    refine RL.val (O.move rfl) rfl ?_
    refine RL.bcase (t := 15) rfl (fun hc => ?_) (fun hc => ?_)
    · rw [if_pos hc] at hF
      refine RL.brun1 23 38 true (by kernel_rfl) ?_
      refine RL.nil ?_
      refine KQ.then_k ?_
      replace hM := hM.pick [1, 0] rfl (by decide)
      exact fun a ha => ⟨true, ha.less (less_cons rfl (less_cons rfl (less_cons rfl (less_cons rfl (less_cons rfl less_nil))))), hM, hF⟩
    · rw [if_neg (ne_true hc)] at hF
      refine RL.gval rfl rfl (O.move rfl) rfl ?_
      refine RL.gval rfl rfl (O.lss rfl rfl) rfl ?_
      refine RL.val (O.pickf rfl rfl) rfl ?_
      refine RL.val (O.move rfl) rfl ?_
      refine RL.bcase (t := 19) rfl (fun hc => ?_) (fun hc => ?_)
      · rw [if_pos hc] at hF
        refine RL.brun1 19 38 true (by kernel_rfl) ?_
        refine RL.nil ?_
        refine KQ.then_k ?_
        replace hM := hM.pick [1, 0] rfl (by decide)
        exact fun a ha => ⟨true, ha.less (less_cons rfl (less_cons rfl (less_cons rfl (less_cons rfl (less_cons rfl less_nil))))), hM, hF⟩
      · rw [if_neg (ne_true hc)] at hF
        refine RL.gval rfl rfl (O.move rfl) rfl ?_
        refine RL.gval rfl rfl (O.move rfl) rfl ?_
        refine RL.gval rfl rfl (O.nilp rfl) rfl ?_
        refine RL.gval rfl rfl (O.fldA fl66_0 (by decide) rfl) rfl ?_
        refine RL.gval rfl rfl (O.load sc22 rfl (Cs.adds [0] ((hM.bx (i := 0) rfl)) rfl)) rfl ?_
        refine RL.gval rfl rfl (O.len sl22 rfl) rfl ?_
        refine RL.gval rfl rfl (O.gtr rfl rfl) rfl ?_
        refine RL.val (O.pickf rfl rfl) rfl ?_
        refine RL.val (O.move rfl) rfl ?_
        refine RL.bcase (t := 28) rfl (fun hc => ?_) (fun hc => ?_)
        · rw [if_pos hc] at hF
          refine RL.brun1 10 38 true (by kernel_rfl) ?_
          refine RL.nil ?_
          refine KQ.then_k ?_
          replace hM := hM.pick [1, 0] rfl (by decide)
          exact fun a ha => ⟨true, ha.less (less_cons rfl (less_cons rfl (less_cons rfl (less_cons rfl (less_cons rfl less_nil))))), hM, hF⟩
        · rw [if_neg (ne_true hc)] at hF
          refine RL.gval rfl rfl (O.move rfl) rfl ?_
          refine RL.gval rfl rfl (O.nilp rfl) rfl ?_
          refine RL.gval rfl rfl (O.fldA fl66_0 (by decide) rfl) rfl ?_
          refine RL.gval rfl rfl (O.load sc22 rfl (Cs.adds [0] ((hM.bx (i := 0) rfl)) rfl)) rfl ?_
          refine RL.gval rfl rfl (O.len sl22 rfl) rfl ?_
          refine RL.gval rfl rfl (O.move rfl) rfl ?_
          refine RL.gval rfl rfl (O.sub rfl rfl) rfl ?_
          refine RL.gval rfl rfl (O.move rfl) rfl ?_
          refine RL.gval rfl rfl (O.lss rfl rfl) rfl ?_
          refine RL.val (O.pickf rfl rfl) rfl ?_
          refine RL.nil ?_
          refine KQ.then_k ?_
          replace hM := hM.pick [1, 0] rfl (by decide)
          exact fun a ha => ⟨(decide ((IntKind.i64.wrap ((wv1.f_b.length : Int) - atv8)) < size10)), ha.less (less_cons rfl (less_cons rfl (less_cons rfl (less_cons rfl (less_cons rfl less_nil))))), hM, hF⟩
  · rintro a w19 ⟨t18, ha, hM, hF⟩
    refine KC.app ha ?_
    clear ha
    unfold F_bits_Writer_Set_j1 at hF
    refine KC.cond rfl (fun hc => ?_) (fun hc => ?_)
    · rw [if_pos hc] at hF
      refine KC.seq ?_
      refine KC.region ?_
      refine RL.val (O.assign rfl) rfl ?_
      refine RL.nil ?_
      refine KQ.then_n ?_
      refine KC.ret ?_
      refine KQ.then_r ?_
      have hE := Option.some.inj hF
      clear hF
      subst hE
      replace hM := hM.pick [1, 0] rfl (by decide)
      refine KQ.rets Try.results35 (RVs.cons (RV.tm rfl) RVs.nil) ?_
      exact ⟨_, rfl, A4, c5, rfl, hM⟩
    · rw [if_neg (ne_true hc)] at hF
      refine KC.skip ?_
      refine KQ.then_n ?_
      refine KC.seq ?_
      replace hM := hM.drewN 1
      refine KC.draw [] [9] [8, 9] [0, 1, 2, 4, 5, 6, 7] (.ofList [0, 1, 2, 3, 4, 5, 6, 7, 8, 9]) moP (by kernel_rfl) ?_
      refine RD.p rfl rfl rfl rfl (fun w' => O.move rfl) ?_
      refine RD.p rfl rfl rfl rfl (fun w' => O.nilp rfl) ?_
      refine RD.p rfl rfl rfl rfl (fun w' => O.fldA fl66_0 (by decide) rfl) ?_
      refine RD.q rfl rfl rfl rfl (fun w' hf => O.load sc22 rfl (Cs.adds [0] ((hM.bx (i := 1) rfl).fut hf) rfl)) ?_
      refine RD.p rfl rfl rfl rfl (fun w' => O.move rfl) ?_
      refine obindE hF fun cut20 hy21 hF => ?_
      obtain ⟨A22, c23, eA25, ec26⟩ := cutN A4 c5 (Int.toNat atv8) 1
      have hr24 := Rd.cutT (enc := (eI .u8)) (s := 1) (fun _ => rfl) (hM.rd (i := 0) rfl) hy21 (m := c5) (by have := (hM.rd (i := 0) rfl).cap; have := (gcut_some hy21).2.2.1; omega) (Nat.le_refl _)
      rw [← eA25, ← ec26] at hr24
      refine RD.p (v := .slice A22 (cut20).length c23) rfl rfl rfl rfl (fun w' => (by rw [eA25, ec26]; exact O.cutlT sl22 (hM.rd (i := 0) rfl) hy21 rfl rfl)) ?_
      refine RD.p rfl rfl rfl rfl (fun w' => O.move rfl) ?_
      refine RD.p rfl rfl rfl rfl (fun w' => O.move rfl) ?_
      refine obindE hF fun y27 hx28 hF => ?_
      refine RD.mcall rfl rfl trivial Try.func53 bd53 rfl rfl (c_bits_of _ v9 size10 _ hx28) fun v w29 hv => ?_
      obtain ⟨A31, c32, rfl, hN30⟩ := hv
      refine ⟨fun _ => hN30.fut, ?_⟩
      have hr24 := hr24.fut hN30.fut
      replace hM := hM.call hN30
      refine RD.meff rfl rfl (E.copyR (k := .u8) (j := 0) (xs := wv1.f_b) (ys := y27) hM rfl sl22 hy21 eA25 (cut_room ((hM.rd (i := 0) rfl)) hy21) rfl rfl (hM.rd (i := 2) rfl)) rfl fun v w34 hv => ?_
      clear hM
      obtain ⟨rfl, hM, hn35⟩ := hv
      refine ⟨fun h => (by cases h), ?_⟩
      refine RD.reslot (t := 42) rfl hn35 ?_
      replace hM := hM.rebox (i := 1) (cs' := [.slice A4 ((cpR (Int.toNat atv8) (Nat.min y27.length cut20.length) wv1.f_b y27)).length c5]) rfl (by rw [← hn35])
      refine RD.nil ?_
      refine KQ.then_n ?_
      refine KC.seq ?_
      refine KC.region ?_
      refine RL.val (O.assign rfl) rfl ?_
      refine RL.nil ?_
      refine KQ.then_n ?_
      refine KC.ret ?_
      have hE := Option.some.inj hF
      clear hF
      subst hE
      replace hM := hM.pick [1, 0] rfl (by decide)
      refine KQ.rets Try.results35 (RVs.cons (RV.tm rfl) RVs.nil) ?_
      exact ⟨_, rfl, A4, c5, rfl, hM⟩
set_option maxRecDepth 100000 in
set_option maxHeartbeats 40000000 in
theorem c_ip_Put (w : World) (h1 : T_ip_Header) (A2 : Option Addr) (c3 : Nat) (hr4 : Rd w A2 c3 1 h1.f_Options.length (h1.f_Options.flatMap (eI .u8))) (r : (List Int) × Int) (hF : F_ip_Put h1 = some r) :
    CallsR Try.prog 13 [.agg #[.int .u8 h1.f_TOS, .int .u16 h1.f_Total, .int .u16 h1.f_ID, .bool h1.f_DF, .bool h1.f_MF, .int .u16 h1.f_Frag, .int .u8 h1.f_TTL, .int .u8 h1.f_Proto, .int .u8 (List.getD h1.f_Src 0 0), .int .u8 (List.getD h1.f_Src 1 0), .int .u8 (List.getD h1.f_Src 2 0), .int .u8 (List.getD h1.f_Src 3 0), .int .u8 (List.getD h1.f_Dst 0 0), .int .u8 (List.getD h1.f_Dst 1 0), .int .u8 (List.getD h1.f_Dst 2 0), .int .u8 (List.getD h1.f_Dst 3 0), .slice A2 (h1.f_Options).length c3]] w (fun v w' => ∃ (A0 : Option Addr) (c0 : Nat), v = .tuple #[.slice A0 (r.1).length c0, .int .i64 r.2] ∧ Mem w [] w' [.row A0 c0 5 1 r.1.length (r.1.flatMap (eI .u8))]) := by
  refine calls_KC Try.func13 rfl Try.ntmps13 rfl ?_
  have hM := Mem.init w
  unfold F_ip_Put at hF
  refine KC.seq ?_
  refine KC.region ?_
  refine RL.eff (E.box (vs := [.int .u8 h1.f_TOS, .int .u16 h1.f_Total, .int .u16 h1.f_ID, .bool h1.f_DF, .bool h1.f_MF, .int .u16 h1.f_Frag, .int .u8 h1.f_TTL, .int .u8 h1.f_Proto, .int .u8 (List.getD h1.f_Src 0 0), .int .u8 (List.getD h1.f_Src 1 0), .int .u8 (List.getD h1.f_Src 2 0), .int .u8 (List.getD h1.f_Src 3 0), .int .u8 (List.getD h1.f_Dst 0 0), .int .u8 (List.getD h1.f_Dst 1 0), .int .u8 (List.getD h1.f_Dst 2 0), .int .u8 (List.getD h1.f_Dst 3 0), .slice A2 (h1.f_Options).length c3]) hM rfl rfl) rfl fun v w6 hv => ?_
  clear hM
  obtain ⟨g5, rfl, hM, hf⟩ := hv
  refine RL.val (O.assign rfl) rfl ?_
  refine RL.val (O.assign rfl) rfl ?_
  refine RL.nil ?_
  refine KQ.then_n ?_
  refine KC.seq ?_
  refine KC.seq ?_
  refine KC.region ?_
  refine RL.val (O.loadN (cs := [.int .u8 h1.f_TOS, .int .u16 h1.f_Total, .int .u16 h1.f_ID, .bool h1.f_DF, .bool h1.f_MF, .int .u16 h1.f_Frag, .int .u8 h1.f_TTL, .int .u8 h1.f_Proto, .int .u8 (List.getD h1.f_Src 0 0), .int .u8 (List.getD h1.f_Src 1 0), .int .u8 (List.getD h1.f_Src 2 0), .int .u8 (List.getD h1.f_Src 3 0), .int .u8 (List.getD h1.f_Dst 0 0), .int .u8 (List.getD h1.f_Dst 1 0), .int .u8 (List.getD h1.f_Dst 2 0), .int .u8 (List.getD h1.f_Dst 3 0), .slice A2 (h1.f_Options).length c3]) ag39 rfl (Cs.addsN [] ((hM.bx (i := 0) rfl)) rfl)) rfl ?_
  refine obindE hF fun y8 hx9 hF => ?_
  refine RL.call Try.func15 bd15 rfl rfl (c_ip_Right _ h1 _ _ (hM.inp hr4 Off.nil) _ hx9) fun v w10 hv => ?_
  obtain ⟨rfl, hN11⟩ := hv
  replace hM := hM.call0 hN11
  refine RL.val (O.not rfl) rfl ?_
  refine RL.nil ?_
  refine KQ.then_n ?_
  refine KC.cond rfl (fun hc => ?_) (fun hc => ?_)
  · rw [if_pos hc] at hF
    refine KC.seq ?_
    refine KC.region ?_
    refine RL.val (O.assign rfl) rfl ?_
    refine RL.val (O.assign rfl) rfl ?_
    refine RL.nil ?_
    refine KQ.then_n ?_
    refine KC.ret ?_
    refine KQ.then_r ?_
    have hE := Option.some.inj hF
    clear hF
    subst hE
    replace hM := hM.nilrow 5 1
    replace hM := hM.pick [1] rfl (by decide)
    refine KQ.rets Try.results13 (RVs.cons (RV.tm rfl) (RVs.cons (RV.tm rfl) RVs.nil)) ?_
    exact ⟨_, rfl, none, 0, rfl, hM⟩
  · rw [if_neg (ne_true hc)] at hF
    refine KC.skip ?_
    refine KQ.then_n ?_
    refine KC.seq ?_
    refine KC.region ?_
    refine RL.val (O.bld (cs := [.slice none 0 0]) bt68 rfl (by kernel_rfl)) rfl ?_
    refine RL.eff (E.box (vs := [.slice none 0 0]) hM rfl rfl) rfl fun v w13 hv => ?_
    clear hM
    obtain ⟨g12, rfl, hM, hf⟩ := hv
    refine RL.val (O.assign rfl) rfl ?_
    refine RL.nil ?_
    refine KQ.then_n ?_
    refine KC.seq ?_
    replace hM := hM.drewN 1
    refine KC.draw [] [10] [2, 9, 10] [0, 3, 4, 5, 6, 8] (.ofList [0, 1, 6, 7, 8, 2, 3, 4, 5, 9, 10]) moP (by kernel_rfl) ?_
    refine RD.p rfl rfl rfl rfl (fun w' => O.move rfl) ?_
    refine RD.q rfl rfl rfl rfl (fun w' hf => O.loadN (cs := [.int .u8 h1.f_TOS, .int .u16 h1.f_Total, .int .u16 h1.f_ID, .bool h1.f_DF, .bool h1.f_MF, .int .u16 h1.f_Frag, .int .u8 h1.f_TTL, .int .u8 h1.f_Proto, .int .u8 (List.getD h1.f_Src 0 0), .int .u8 (List.getD h1.f_Src 1 0), .int .u8 (List.getD h1.f_Src 2 0), .int .u8 (List.getD h1.f_Src 3 0), .int .u8 (List.getD h1.f_Dst 0 0), .int .u8 (List.getD h1.f_Dst 1 0), .int .u8 (List.getD h1.f_Dst 2 0), .int .u8 (List.getD h1.f_Dst 3 0), .slice A2 (h1.f_Options).length c3]) ag39 rfl (Cs.addsN [] ((hM.bx (i := 0) rfl).fut hf) rfl)) ?_
    refine RD.p rfl rfl rfl rfl (fun w' => O.fldA fl39_0 (by decide) rfl) ?_
    refine RD.q rfl rfl rfl rfl (fun w' hf => O.load sc5 rfl (Cs.adds [0] ((hM.bx (i := 0) rfl).fut hf) rfl)) ?_
    refine RD.p rfl rfl rfl rfl (fun w' => O.conv un5 Try.underlying70 rfl) ?_
    refine obindE hF fun y15 hx16 hF => ?_
    refine RD.mcall rfl rfl trivial Try.func31 bd31 rfl rfl (c_ip_Header_length _ h1 _ _ (hM.inp hr4 Off.nil) _ hx16) fun v w17 hv => ?_
    obtain ⟨rfl, hN18⟩ := hv
    refine ⟨fun _ => hN18.fut, ?_⟩
    replace hM := hM.call0 hN18
    refine RD.p rfl rfl rfl rfl (fun w' => O.quo rfl rfl (by decide)) ?_
    refine RD.p rfl rfl rfl rfl (fun w' => O.conv un3 Try.underlying70 rfl) ?_
    refine RD.p rfl rfl rfl rfl (fun w' => O.or rfl rfl) ?_
    refine RD.meff rfl rfl (E.bsl (enc := (eI .u64)) (xs := ([(bits .or .u64 64 (IntKind.u64.wrap (IntKind.i64.wrap (Int.tdiv y15 4)))), (IntKind.u64.wrap h1.f_TOS)] : List Int)) hM sl88 ze70 rfl rfl rfl (fun _ => rfl) rfl (by kernel_rfl) rfl) rfl fun v w19 hv => ?_
    clear hM
    obtain ⟨A20, rfl, hM, hf⟩ := hv
    refine ⟨fun _ => hf, ?_⟩
    replace hM := hM.nilrow 5 1
    refine obindE hF fun y23 hx24 hF => ?_
    refine RD.mcall rfl rfl trivial Try.func30 bd30 rfl rfl (c_ip_writer_put _ _ _ (T_ip_writer.mk (T_bits_Writer.mk ([] : List Int))) _ _ (hM.lent [1, 3] rfl (by decide)) 1 _ _ ([(bits .or .u64 64 (IntKind.u64.wrap (IntKind.i64.wrap (Int.tdiv y15 4)))), (IntKind.u64.wrap h1.f_TOS)] : List Int) (hM.rd (i := 2) rfl) (hM.offR [1, 3] rfl (i := 2) rfl rfl) _ hx24) fun v w25 hv => ?_
    obtain ⟨A27, c28, rfl, hN26⟩ := hv
    refine ⟨fun h => (by cases h), ?_⟩
    replace hM := hM.callL [1, 3] [0, 2] rfl rfl (by decide) rfl hN26
    refine RD.nil ?_
    refine KQ.then_n ?_
    replace hM := hM.pick [0, 2, 3] rfl (by decide)
    refine KC.seq ?_
    replace hM := hM.drewN 1
    refine KC.draw [] [19] [9, 12, 18, 19] [0, 1, 3, 4, 6, 7, 10, 13, 14, 16, 17] (.ofList [0, 1, 2, 3, 4, 5, 6, 7, 8, 10, 11, 14, 15, 16, 9, 12, 13, 17, 18, 19]) moP (by kernel_rfl) ?_
    refine RD.p rfl rfl rfl rfl (fun w' => O.move rfl) ?_
    refine RD.p rfl rfl rfl rfl (fun w' => O.fldA fl39_1 (by decide) rfl) ?_
    refine RD.q rfl rfl rfl rfl (fun w' hf => O.load sc36 rfl (Cs.adds [1] ((hM.bx (i := 0) rfl).fut hf) rfl)) ?_
    refine RD.p rfl rfl rfl rfl (fun w' => O.conv un36 Try.underlying70 rfl) ?_
    refine RD.p rfl rfl rfl rfl (fun w' => O.fldA fl39_2 (by decide) rfl) ?_
    refine RD.q rfl rfl rfl rfl (fun w' hf => O.load sc36 rfl (Cs.adds [2] ((hM.bx (i := 0) rfl).fut hf) rfl)) ?_
    refine RD.p rfl rfl rfl rfl (fun w' => O.conv un36 Try.underlying70 rfl) ?_
    refine RD.p rfl rfl rfl rfl (fun w' => O.fldA fl39_3 (by decide) rfl) ?_
    refine RD.q rfl rfl rfl rfl (fun w' hf => O.load sc4 rfl (Cs.adds [3] ((hM.bx (i := 0) rfl).fut hf) rfl)) ?_
    refine RD.p rfl rfl rfl rfl (fun w' => O.fldA fl39_4 (by decide) rfl) ?_
    refine RD.q rfl rfl rfl rfl (fun w' hf => O.load sc4 rfl (Cs.adds [4] ((hM.bx (i := 0) rfl).fut hf) rfl)) ?_
    refine RD.p rfl rfl rfl rfl (fun w' => O.fldA fl39_5 (by decide) rfl) ?_
    refine RD.q rfl rfl rfl rfl (fun w' hf => O.load sc36 rfl (Cs.adds [5] ((hM.bx (i := 0) rfl).fut hf) rfl)) ?_
    refine RD.p rfl rfl rfl rfl (fun w' => O.conv un36 Try.underlying70 rfl) ?_
    refine obindE hF fun y30 hx31 hF => ?_
    refine RD.mcall rfl rfl trivial Try.func32 bd32 rfl rfl (c_ip_flag _ h1.f_DF 16384 _ hx31) fun v w32 hv => ?_
    obtain ⟨rfl, hN33⟩ := hv
    refine ⟨fun _ => hN33.fut, ?_⟩
    replace hM := hM.call0 hN33
    refine obindE hF fun y34 hx35 hF => ?_
    refine RD.mcall rfl rfl trivial Try.func32 bd32 rfl rfl (c_ip_flag _ h1.f_MF 8192 _ hx35) fun v w36 hv => ?_
    obtain ⟨rfl, hN37⟩ := hv
    refine ⟨fun _ => hN37.fut, ?_⟩
    replace hM := hM.call0 hN37
    refine RD.p rfl rfl rfl rfl (fun w' => O.or rfl rfl) ?_
    refine RD.p rfl rfl rfl rfl (fun w' => O.or rfl rfl) ?_
    refine RD.meff rfl rfl (E.bsl (enc := (eI .u64)) (xs := ([(IntKind.u64.wrap h1.f_Total), (IntKind.u64.wrap h1.f_ID), (bits .or .u64 (bits .or .u64 y30 y34) (IntKind.u64.wrap h1.f_Frag))] : List Int)) hM sl88 ze70 rfl rfl rfl (fun _ => rfl) rfl (by kernel_rfl) rfl) rfl fun v w38 hv => ?_
    clear hM
    obtain ⟨A39, rfl, hM, hf⟩ := hv
    refine ⟨fun _ => hf, ?_⟩
    refine obindE hF fun y41 hx42 hF => ?_
    refine RD.mcall rfl rfl trivial Try.func30 bd30 rfl rfl (c_ip_writer_put _ _ _ y23 _ _ (hM.lent [1, 2] rfl (by decide)) 2 _ _ ([(IntKind.u64.wrap h1.f_Total), (IntKind.u64.wrap h1.f_ID), (bits .or .u64 (bits .or .u64 y30 y34) (IntKind.u64.wrap h1.f_Frag))] : List Int) (hM.rd (i := 3) rfl) (hM.offR [1, 2] rfl (i := 3) rfl rfl) _ hx42) fun v w43 hv => ?_
    obtain ⟨A45, c46, rfl, hN44⟩ := hv
    refine ⟨fun h => (by cases h), ?_⟩
    replace hM := hM.callL [1, 2] [0, 3] rfl rfl (by decide) rfl hN44
    refine RD.nil ?_
    refine KQ.then_n ?_
    replace hM := hM.pick [0, 2, 3] rfl (by decide)
    refine KC.seq ?_
    refine KC.region ?_
    refine RL.val (O.move rfl) rfl ?_
    refine RL.val (O.fldA fl39_6 (by decide) rfl) rfl ?_
    refine RL.val (O.load sc5 rfl (Cs.adds [6] ((hM.bx (i := 0) rfl)) rfl)) rfl ?_
    refine RL.val (O.conv un5 Try.underlying70 rfl) rfl ?_
    refine RL.val (O.fldA fl39_7 (by decide) rfl) rfl ?_
    refine RL.val (O.load sc5 rfl (Cs.adds [7] ((hM.bx (i := 0) rfl)) rfl)) rfl ?_
    refine RL.val (O.conv un5 Try.underlying70 rfl) rfl ?_
    refine RL.eff (E.bsl (enc := (eI .u64)) (xs := ([(IntKind.u64.wrap h1.f_TTL), (IntKind.u64.wrap h1.f_Proto)] : List Int)) hM sl88 ze70 rfl rfl rfl (fun _ => rfl) rfl (by kernel_rfl) rfl) rfl fun v w48 hv => ?_
    clear hM
    obtain ⟨A49, rfl, hM, hf⟩ := hv
    refine obindE hF fun y51 hx52 hF => ?_
    refine RL.call Try.func30 bd30 rfl rfl (c_ip_writer_put _ _ _ y41 _ _ (hM.lent [1, 2] rfl (by decide)) 1 _ _ ([(IntKind.u64.wrap h1.f_TTL), (IntKind.u64.wrap h1.f_Proto)] : List Int) (hM.rd (i := 3) rfl) (hM.offR [1, 2] rfl (i := 3) rfl rfl) _ hx52) fun v w53 hv => ?_
    obtain ⟨A55, c56, rfl, hN54⟩ := hv
    replace hM := hM.callL [1, 2] [0, 3] rfl rfl (by decide) rfl hN54
    refine RL.nil ?_
    refine KQ.then_n ?_
    replace hM := hM.pick [0, 2, 3] rfl (by decide)
    refine KC.seq ?_
    refine KC.region ?_
    refine RL.val (O.move rfl) rfl ?_
    refine RL.eff (E.bsl (enc := (eI .u64)) (xs := ([0] : List Int)) hM sl88 ze70 rfl rfl rfl (fun _ => rfl) rfl (by kernel_rfl) rfl) rfl fun v w58 hv => ?_
    clear hM
    obtain ⟨A59, rfl, hM, hf⟩ := hv
    refine obindE hF fun y61 hx62 hF => ?_
    refine RL.call Try.func30 bd30 rfl rfl (c_ip_writer_put _ _ _ y51 _ _ (hM.lent [1, 2] rfl (by decide)) 2 _ _ ([0] : List Int) (hM.rd (i := 3) rfl) (hM.offR [1, 2] rfl (i := 3) rfl rfl) _ hx62) fun v w63 hv => ?_
    obtain ⟨A65, c66, rfl, hN64⟩ := hv
    replace hM := hM.callL [1, 2] [0, 3] rfl rfl (by decide) rfl hN64
    refine RL.nil ?_
    refine KQ.then_n ?_
    replace hM := hM.pick [0, 2, 3] rfl (by decide)
    refine KC.seq ?_
    replace hM := hM.drewN 1
    refine KC.draw [] [11] [9, 10, 11] [0, 1, 2, 3, 4, 5, 6, 7] (.ofList [0, 1, 2, 3, 4, 5, 6, 7, 8, 9, 10, 11]) moP (by kernel_rfl) ?_
    refine RD.p rfl rfl rfl rfl (fun w' => O.move rfl) ?_
    refine RD.p rfl rfl rfl rfl (fun w' => O.nilp rfl) ?_
    refine RD.p rfl rfl rfl rfl (fun w' => O.fldA fl68_0 (by decide) rfl) ?_
    refine RD.p rfl rfl rfl rfl (fun w' => O.fldA fl39_8 (by decide) rfl) ?_
    have hr68 := Rd.arr (n := 4) (k := .u8) (xs := h1.f_Src) (Cs.addsN [8] (hM.bx (i := 0) rfl) rfl) rfl rfl
    refine RD.p rfl rfl rfl rfl (fun w' => O.slArr (xs := h1.f_Src) Try.underlying37 sz5 rfl rfl) ?_
    refine RD.p rfl rfl rfl rfl (fun w' => O.fldA fl39_9 (by decide) rfl) ?_
    have hr69 := Rd.arr (n := 4) (k := .u8) (xs := h1.f_Dst) (Cs.addsN [12] (hM.bx (i := 0) rfl) rfl) rfl rfl
    refine RD.p rfl rfl rfl rfl (fun w' => O.slArr (xs := h1.f_Dst) Try.underlying37 sz5 rfl rfl) ?_
    refine RD.p rfl rfl rfl rfl (fun w' => O.fldA fl39_10 (by decide) rfl) ?_
    refine RD.q rfl rfl rfl rfl (fun w' hf => O.load sc22 rfl (Cs.adds [16] ((hM.bx (i := 0) rfl).fut hf) rfl)) ?_
    refine RD.meff rfl rfl (E.bslR (enc := (eI .u8)) (us := [.slice (some (Addr.add (Addr.add ⟨g5, 0, none⟩ 8) (0 * 1))) ((arrL 4 h1.f_Src)).length 4, .slice (some (Addr.add (Addr.add ⟨g5, 0, none⟩ 12) (0 * 1))) ((arrL 4 h1.f_Dst)).length 4, .slice A2 (h1.f_Options).length c3]) (xss := [(arrL 4 h1.f_Src), (arrL 4 h1.f_Dst), h1.f_Options]) (Rdl.cons (hr68) (Rdl.cons (hr69) (Rdl.cons ((hM.inp hr4 Off.nil)) Rdl.nil))) hM sl91 ze22 rfl rfl rfl rfl rfl) rfl fun v w70 hv => ?_
    clear hM
    obtain ⟨A71, rfl, hM, hf, hr72⟩ := hv
    refine ⟨fun _ => hf, ?_⟩
    have hr68 := hr68.fut hf
    have hr69 := hr69.fut hf
    refine obindE hF fun y73 hx74 hF => ?_
    refine RD.mcall rfl rfl trivial Try.func34 bd34 rfl rfl (c_slices_Concat_byte_byte _ _ _ ([(arrL 4 h1.f_Src), (arrL 4 h1.f_Dst), h1.f_Options]) (hr72) _ hx74) fun v w75 hv => ?_
    obtain ⟨A77, c78, rfl, hN76⟩ := hv
    refine ⟨fun _ => hN76.fut, ?_⟩
    have hr68 := hr68.fut hN76.fut
    have hr69 := hr69.fut hN76.fut
    have hr72 := hr72.fut hN76.fut
    replace hM := hM.call hN76
    refine obindE hF fun y80 hx81 hF => ?_
    refine RD.mcall rfl rfl trivial Try.func33 bd33 rfl rfl (c_bits_Writer_Raw _ _ _ y61.f_Writer _ _ (hM.lent [1, 2] rfl (by decide)) _ _ y73 (hM.rd (i := 3) rfl) (hM.offR [1, 2] rfl (i := 3) rfl rfl) _ hx81) fun v w82 hv => ?_
    obtain ⟨A84, c85, rfl, hN83⟩ := hv
    refine ⟨fun h => (by cases h), ?_⟩
    replace hM := hM.callL [1, 2] [0, 3] rfl rfl (by decide) rfl hN83
    have hr68 := Rd.arr (n := 4) (k := .u8) (xs := h1.f_Src) (Cs.addsN [8] (hM.bx (i := 0) rfl) rfl) rfl rfl
    have hr69 := Rd.arr (n := 4) (k := .u8) (xs := h1.f_Dst) (Cs.addsN [12] (hM.bx (i := 0) rfl) rfl) rfl rfl
    refine RD.nil ?_
    refine KQ.then_n ?_
    replace hM := hM.pick [2, 3] rfl (by decide)
    refine KC.seq ?_
    replace hM := hM.drewN 1
    refine KC.draw [] [6, 10] [6, 7, 8, 10] [0, 1, 2, 3, 4, 5, 9] (.ofList [0, 1, 2, 3, 4, 5, 6, 7, 8, 9, 10]) moP (by kernel_rfl) ?_
    refine RD.p rfl rfl rfl rfl (fun w' => O.move rfl) ?_
    refine RD.p rfl rfl rfl rfl (fun w' => O.nilp rfl) ?_
    refine RD.p rfl rfl rfl rfl (fun w' => O.fldA fl68_0 (by decide) rfl) ?_
    refine RD.p rfl rfl rfl rfl (fun w' => O.move rfl) ?_
    refine RD.p rfl rfl rfl rfl (fun w' => O.nilp rfl) ?_
    refine RD.p rfl rfl rfl rfl (fun w' => O.fldA fl68_0 (by decide) rfl) ?_
    refine obindE hF fun y87 hx88 hF => ?_
    refine RD.mcall rfl rfl trivial Try.func37 bd37 rfl rfl (c_bits_Writer_Bytes _ _ _ y80.2 _ _ (hM.lent [0, 1] rfl (by decide)) _ hx88) fun v w89 hv => ?_
    obtain ⟨A91, c92, A94, c95, rfl, hN90⟩ := hv
    refine ⟨fun h => (by cases h), ?_⟩
    replace hM := hM.callL [0, 1] [] rfl rfl (by decide) rfl hN90
    refine RD.meff rfl rfl (E.bslR (enc := (eI .u8)) (us := [.slice A94 (y87.1).length c95]) (xss := [y87.1]) (Rdl.cons ((hM.rd (i := 2) rfl)) Rdl.nil) hM sl91 ze22 rfl rfl rfl rfl rfl) rfl fun v w97 hv => ?_
    clear hM
    obtain ⟨A98, rfl, hM, hf, hr99⟩ := hv
    refine ⟨fun _ => hf, ?_⟩
    refine obindE hF fun y100 hx101 hF => ?_
    refine RD.mcall rfl rfl trivial Try.func36 bd36 rfl rfl (c_sum_Of _ _ _ ([y87.1]) (hr99) _ hx101) fun v w102 hv => ?_
    obtain ⟨rfl, hN103⟩ := hv
    refine ⟨fun _ => hN103.fut, ?_⟩
    have hr99 := hr99.fut hN103.fut
    replace hM := hM.call0 hN103
    refine RD.p rfl rfl rfl rfl (fun w' => O.conv un36 Try.underlying70 rfl) ?_
    refine obindE hF fun y104 hx105 hF => ?_
    refine RD.mcall rfl rfl trivial Try.func35 bd35 rfl rfl (c_bits_Writer_Set _ _ _ y87.2 _ _ (hM.lent [0, 1] rfl (by decide)) 10 (IntKind.u64.wrap y100) 2 _ hx105) fun v w106 hv => ?_
    obtain ⟨A108, c109, rfl, hN107⟩ := hv
    refine ⟨fun h => (by cases h), ?_⟩
    replace hM := hM.callL [0, 1] [2] rfl rfl (by decide) rfl hN107
    refine RD.nil ?_
    refine KQ.then_n ?_
    refine KC.seq ?_
    refine KC.region ?_
    refine RL.val (O.move rfl) rfl ?_
    refine RL.val (O.nilp rfl) rfl ?_
    refine RL.val (O.fldA fl68_0 (by decide) rfl) rfl ?_
    refine obindE hF fun y111 hx112 hF => ?_
    refine RL.call Try.func37 bd37 rfl rfl (c_bits_Writer_Bytes _ _ _ y104.2 _ _ (hM.lent [1, 2] rfl (by decide)) _ hx112) fun v w113 hv => ?_
    obtain ⟨A115, c116, A118, c119, rfl, hN114⟩ := hv
    replace hM := hM.callL [1, 2] [0] rfl rfl (by decide) rfl hN114
    refine RL.val (O.assign rfl) rfl ?_
    refine RL.val (O.assign rfl) rfl ?_
    refine RL.nil ?_
    refine KQ.then_n ?_
    refine KC.ret ?_
    have hE := Option.some.inj hF
    clear hF
    subst hE
    replace hM := hM.pick [3] rfl (by decide)
    refine KQ.rets Try.results13 (RVs.cons (RV.tm rfl) (RVs.cons (RV.tm rfl) RVs.nil)) ?_
    exact ⟨_, rfl, A118, c119, rfl, hM⟩
set_option maxRecDepth 100000 in
set_option maxHeartbeats 40000000 in
theorem c_bits_value (w : World) (A2 : Option Addr) (c3 : Nat) (b1 : List Int) (hr4 : Rd w A2 c3 1 b1.length (b1.flatMap (eI .u8))) (r : Int) (hF : F_bits_value b1 = some r) :
    CallsR Try.prog 63 [.slice A2 (b1).length c3] w (fun v w' => v = .int .u64 r ∧ Mem w [] w' []) := by
  refine calls_KC Try.func63 rfl Try.ntmps63 rfl ?_
  have hM := Mem.init w
  unfold F_bits_value at hF
  refine KC.seq ?_
  refine KC.region ?_
  refine RL.val (O.assign rfl) rfl ?_
  refine RL.nil ?_
  refine KQ.then_n ?_
  refine KC.seq ?_
  refine KC.seq ?_
  refine KC.region ?_
  refine RL.val (O.move rfl) rfl ?_
  refine RL.val (O.len sl22 rfl) rfl ?_
  refine RL.val (O.move rfl) rfl ?_
  refine RL.nil ?_
  refine KQ.then_n ?_
  refine KC.block ?_
  refine KC.loop (fun k17 a w15 => ∃ (v13 : Int) (t14 : Int), Kn 18 [(2, .int .u64 v13), (5, .slice A2 (b1).length c3), (6, .int .i64 (b1.length : Int)), (7, .int .i64 t14)] a ∧ Mem w [] w15 [] ∧ F_bits_value_L1 b1 k17 v13 t14 = some r) ?_ ?_
  · exact fun a ha => ⟨fuel0, 0, 0, ha.less (less_cons rfl (less_cons rfl (less_cons rfl (less_cons rfl less_nil)))), hM, hF⟩
  · rintro k17 a w15 ⟨v13, t14, ha, hM, hF⟩
    refine KC.app ha ?_
    clear ha
    cases k17 with
    | zero => exact (none_some hF).elim
    | succ k17 =>
    have hF : F_bits_value_l1 (F_bits_value_L1 b1 k17) b1 v13 t14 = some r := hF
    unfold F_bits_value_l1 at hF
    refine KC.seq ?_
    refine KC.region ?_
    refine RL.val (O.lss rfl rfl) rfl ?_
    refine RL.nil ?_
    refine KQ.then_n ?_
    refine KC.seq ?_
    refine KC.cond rfl (fun hc => ?_) (fun hc => ?_)
    · rw [if_pos hc] at hF
      refine KC.skip ?_
      refine KQ.then_n ?_
      refine KC.seq ?_
      refine KC.block ?_
      refine KC.seq ?_
      refine KC.region ?_
      refine obindE hF fun xv20 hx19 hF => ?_
      have hA18 := Rd.atN (f := (eI .u8)) (s := 1) (fun _ => rfl) (by decide) (hM.inp hr4 Off.nil) hx19
      refine RL.val (O.idxA sl22 (hA18) rfl rfl) rfl ?_
      refine RL.val (O.load sc5 rfl (hA18).cells.at0) rfl ?_
      refine RL.val (O.assign rfl) rfl ?_
      refine RL.nil ?_
      refine KQ.then_n ?_
      refine KC.region ?_
      refine RL.val (O.move rfl) rfl ?_
      refine RL.val (O.shl rfl rfl (by decide)) rfl ?_
      refine RL.val (O.move rfl) rfl ?_
      refine RL.val (O.conv un5 Try.underlying70 rfl) rfl ?_
      refine RL.val (O.or rfl rfl) rfl ?_
      refine RL.val (O.assign rfl) rfl ?_
      refine RL.nil ?_
      refine KQ.blk_n ?_
      refine KQ.then_n ?_
      refine KC.region ?_
      refine RL.val (O.add rfl rfl) rfl ?_
      refine RL.val (O.move rfl) rfl ?_
      refine RL.nil ?_
      refine KQ.then_k ?_
      exact fun a ha => ⟨k17, Nat.lt_succ_self k17, (bits .or .u64 (Ox.shl .u64 v13 8) (IntKind.u64.wrap xv20)), (IntKind.i64.wrap (t14 + 1)), ha.less (less_cons rfl (less_cons rfl (less_cons rfl (less_cons rfl less_nil)))), hM, hF⟩
    · rw [if_neg (ne_true hc)] at hF
      refine KC.exit ?_
      refine KQ.then_x ?_
      refine KQ.then_x ?_
      refine KQ.blk_x ?_
      refine KQ.then_n ?_
      refine KC.seq ?_
      refine KC.region ?_
      refine RL.val (O.move rfl) rfl ?_
      refine RL.val (O.assign rfl) rfl ?_
      refine RL.nil ?_
      refine KQ.then_n ?_
      refine KC.ret ?_
      have hE := Option.some.inj hF
      clear hF
      subst hE
      refine KQ.rets Try.results63 (RVs.cons (RV.tm rfl) RVs.nil) ?_
      exact ⟨_, rfl, rfl, hM⟩
end Go.Proofs.Ytjfdfjmnajjjaaa
