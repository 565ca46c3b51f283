/- Printed by a program of this claim: each call returns what the plain function of its name gives. -/
import Derived.Test.YtjfdfjmnajjjaaaW1
import Derived.Test.YtjfdfjmnajjjaaaW2
set_option linter.unusedVariables false
namespace Go.Proofs.Ytjfdfjmnajjjaaa
open Go Go.Ox Go.RowKit
set_option maxRecDepth 100000 in
set_option maxHeartbeats 40000000 in
theorem c_sum_Sum_Add (w : World) (g2 : Nat) (tg4 : TypeId) (s1 : T_sum_Sum) (hL10 : Lent w [.box g2 tg4 [.int .u64 s1.f_n, .int .i64 s1.f_many]]) (A6 : Option Addr) (c7 : Nat) (b5 : List Int) (hr8 : Rd w A6 c7 1 b5.length (b5.flatMap (eI .u8))) (ho9 : Off [some g2] b5.length A6) (r : T_sum_Sum) (hF : F_sum_Sum_Add s1 b5 = some r) :
    CallsR Try.prog 55 [.pointer (some ⟨g2, 0, none⟩), .slice A6 (b5).length c7] w (fun v w' => v = .tuple #[] ∧ Mem w [some g2] w' [.box g2 tg4 [.int .u64 r.f_n, .int .i64 r.f_many]]) := by
  refine calls_KC Try.func55 rfl Try.ntmps55 rfl ?_
  have hM : Mem w [some g2] w [.box g2 tg4 [.int .u64 s1.f_n, .int .i64 s1.f_many]] := Mem.lendN hL10
  unfold F_sum_Sum_Add at hF
  refine KC.seqH fun Q11 hQ11 => ?_
  refine KC.seqH fun Q12 hQ12 => ?_
  refine KC.region ?_
  refine RL.val (O.move rfl) rfl ?_
  refine RL.val (O.peqn Try.underlying104 rfl rfl) rfl ?_
  refine RL.nil ?_
  refine KQ.thn hQ12 ?_
  clear hQ12 Q12
  refine KC.condF rfl ?_
  refine KC.skip ?_
  refine KQ.thn hQ11 ?_
  clear hQ11 Q11
  refine KC.seqH fun Q13 hQ13 => ?_
  refine KC.region ?_
  refine RL.val (O.move rfl) rfl ?_
  refine RL.val (O.len sl22 rfl) rfl ?_
  refine RL.val (O.move rfl) rfl ?_
  refine RL.nil ?_
  refine KQ.thn hQ13 ?_
  clear hQ13 Q13
  refine KC.block ?_
  refine KC.loop (fun k62 a w60 => ∃ (p57 : Int) (p58 : Int) (t59 : Int), Kn 44 [(0, .pointer (some ⟨g2, 0, none⟩)), (9, .slice A6 (b5).length c7), (10, .int .i64 (b5.length : Int)), (11, .int .i64 t59)] a ∧ Mem w [some g2] w60 [.box g2 tg4 [.int .u64 p57, .int .i64 p58]] ∧ F_sum_Sum_Add_L1 b5 k62 p57 p58 t59 = some r) ?_ ?_
  · exact fun a ha => ⟨fuel0, s1.f_n, s1.f_many, 0, ha.less (less_cons rfl (less_cons rfl (less_cons rfl (less_cons rfl less_nil)))), hM, hF⟩
  · rintro k62 a w60 ⟨p57, p58, t59, ha, hM, hF⟩
    refine KC.app ha ?_
    clear ha
    cases k62 with
    | zero => exact (none_some hF).elim
    | succ k62 =>
    have hF : F_sum_Sum_Add_l1 (F_sum_Sum_Add_L1 b5 k62) b5 p57 p58 t59 = some r := hF
    unfold F_sum_Sum_Add_l1 at hF
    refine KC.seqH fun Q63 hQ63 => ?_
    refine KC.region ?_
    refine RL.val (O.lss rfl rfl) rfl ?_
    refine RL.nil ?_
    refine KQ.thn hQ63 ?_
    clear hQ63 Q63
    refine KC.seqH fun Q64 hQ64 => ?_
    refine KC.cond rfl (fun hc => ?_) (fun hc => ?_)
    · rw [if_pos hc] at hF
      refine KC.skip ?_
      refine KQ.thn hQ64 ?_
      clear hQ64 Q64
      refine KC.seqH fun Q65 hQ65 => ?_
      refine KC.block ?_
      refine KC.seqH fun Q66 hQ66 => ?_
      refine KC.region ?_
      refine obindE hF fun xv69 hx68 hF => ?_
      have hA67 := Rd.atN (f := (eI .u8)) (s := 1) (fun _ => rfl) (by decide) (hM.inp hr8 ho9) hx68
      refine RL.val (O.idxA sl22 (hA67) rfl rfl) rfl ?_
      refine RL.val (O.load sc5 rfl (hA67).cells.at0) rfl ?_
      refine RL.val (O.assign rfl) rfl ?_
      refine RL.nil ?_
      refine KQ.thn hQ66 ?_
      clear hQ66 Q66
      refine KC.seqH fun Q70 hQ70 => ?_
      refine KC.region ?_
      refine RL.val (O.move rfl) rfl ?_
      refine RL.val (O.conv un5 Try.underlying70 rfl) rfl ?_
      refine RL.val (O.assign rfl) rfl ?_
      refine RL.nil ?_
      refine KQ.thn hQ70 ?_
      clear hQ70 Q70
      refine KC.cut (fun a w74 => ∃ (v73 : Int), Kn 44 [(0, .pointer (some ⟨g2, 0, none⟩)), (6, .int .u64 v73), (9, .slice A6 (b5).length c7), (10, .int .i64 (b5.length : Int)), (11, .int .i64 t59)] a ∧ Mem w [some g2] w74 [.box g2 tg4 [.int .u64 p57, .int .i64 p58]] ∧ F_sum_Sum_Add_j1 p57 p58 t59 (F_sum_Sum_Add_L1 b5 k62) v73 = some r) ?_ ?_
      · refine KC.seqH fun Q71 hQ71 => ?_
        refine KC.region ?_
        refine RL.val (O.move rfl) rfl ?_
        refine RL.val (O.nilp rfl) rfl ?_
        refine RL.val (O.fldA fl95_1 (by decide) rfl) rfl ?_
        refine RL.val (O.load sc3 rfl (Cs.adds [1] ((hM.bx (i := 0) rfl)) rfl)) rfl ?_
        refine RL.val (O.rem rfl rfl (by decide)) rfl ?_
        refine RL.val (O.eql rfl rfl) rfl ?_
        refine RL.nil ?_
        refine KQ.thn hQ71 ?_
        clear hQ71 Q71
        refine KC.cond rfl (fun hc => ?_) (fun hc => ?_)
        · rw [if_pos hc] at hF
          refine KC.region ?_
          refine RL.val (O.move rfl) rfl ?_
          refine RL.val (O.shl rfl rfl (by decide)) rfl ?_
          refine RL.val (O.assign rfl) rfl ?_
          refine RL.nil ?_
          refine KQ.then_k ?_
          exact fun a ha => ⟨(Ox.shl .u64 (IntKind.u64.wrap xv69) 8), ha.less (less_cons rfl (less_cons rfl (less_cons rfl (less_cons rfl (less_cons rfl less_nil))))), hM, hF⟩
        · rw [if_neg (ne_true hc)] at hF
          refine KC.skip ?_
          refine KQ.then_k ?_
          exact fun a ha => ⟨(IntKind.u64.wrap xv69), ha.less (less_cons rfl (less_cons rfl (less_cons rfl (less_cons rfl (less_cons rfl less_nil))))), hM, hF⟩
      · rintro a w74 ⟨v73, ha, hM, hF⟩
        refine KC.app ha ?_
        clear ha
        unfold F_sum_Sum_Add_j1 at hF
        refine KC.seqH fun Q75 hQ75 => ?_
        refine KC.region ?_
        refine RL.val (O.move rfl) rfl ?_
        refine RL.val (O.move rfl) rfl ?_
        refine RL.val (O.nilp rfl) rfl ?_
        refine RL.val (O.fldA fl95_0 (by decide) rfl) rfl ?_
        refine RL.val (O.load sc70 rfl (Cs.adds [0] ((hM.bx (i := 0) rfl)) rfl)) rfl ?_
        refine obindE hF fun y76 hx77 hF => ?_
        refine RL.call Try.func58 bd58 rfl rfl (c_sum_fold _ p57 _ hx77) fun v w78 hv => ?_
        obtain ⟨rfl, hN79⟩ := hv
        replace hM := hM.call0 hN79
        refine RL.val (O.conv un36 Try.underlying70 rfl) rfl ?_
        refine RL.val (O.move rfl) rfl ?_
        refine RL.val (O.add rfl rfl) rfl ?_
        refine RL.val (O.nilp rfl) rfl ?_
        refine RL.val (O.fldA fl95_0 (by decide) rfl) rfl ?_
        refine RL.effs (E.stB (j := 0) (off := 0) (vs := [.int .u64 (IntKind.u64.wrap ((IntKind.u64.wrap y76) + v73))]) (cs' := [.int .u64 (IntKind.u64.wrap ((IntKind.u64.wrap y76) + v73)), .int .i64 p58]) hM rfl sz70 rfl (adds_eq [0] rfl) rfl rfl (One.all rfl) rfl rfl) fun w80 hM1 => ?_
        clear hM
        have hM := hM1
        clear hM1
        refine RL.nil ?_
        refine KQ.thn hQ75 ?_
        clear hQ75 Q75
        refine KC.region ?_
        refine RL.val (O.move rfl) rfl ?_
        refine RL.val (O.nilp rfl) rfl ?_
        refine RL.val (O.fldA fl95_1 (by decide) rfl) rfl ?_
        refine RL.val (O.load sc3 rfl (Cs.adds [1] ((hM.bx (i := 0) rfl)) rfl)) rfl ?_
        refine RL.val (O.add rfl rfl) rfl ?_
        refine RL.val (O.nilp rfl) rfl ?_
        refine RL.val (O.fldA fl95_1 (by decide) rfl) rfl ?_
        refine RL.effs (E.stB (j := 0) (off := 1) (vs := [.int .i64 (IntKind.i64.wrap (p58 + 1))]) (cs' := [.int .u64 (IntKind.u64.wrap ((IntKind.u64.wrap y76) + v73)), .int .i64 (IntKind.i64.wrap (p58 + 1))]) hM rfl sz3 rfl (adds_eq [1] rfl) rfl rfl (One.all rfl) rfl rfl) fun w81 hM1 => ?_
        clear hM
        have hM := hM1
        clear hM1
        refine RL.nil ?_
        refine KQ.blk_n ?_
        refine KQ.thn hQ65 ?_
        clear hQ65 Q65
        refine KC.region ?_
        refine RL.val (O.add rfl rfl) rfl ?_
        refine RL.val (O.move rfl) rfl ?_
        refine RL.nil ?_
        refine KQ.then_k ?_
        exact fun a ha => ⟨k62, Nat.lt_succ_self k62, (IntKind.u64.wrap ((IntKind.u64.wrap y76) + v73)), (IntKind.i64.wrap (p58 + 1)), (IntKind.i64.wrap (t59 + 1)), ha.less (less_cons rfl (less_cons rfl (less_cons rfl (less_cons rfl less_nil)))), hM, hF⟩
    · rw [if_neg (ne_true hc)] at hF
      refine KC.exit ?_
      refine KQ.thx hQ64 ?_
      clear hQ64 Q64
      refine KQ.then_x ?_
      refine KQ.blk_x ?_
      have hE := Option.some.inj hF
      clear hF
      subst hE
      refine KQ.endr Try.results55 RVs.nil ?_
      exact ⟨_, rfl, rfl, hM⟩
set_option maxRecDepth 100000 in
set_option maxHeartbeats 40000000 in
theorem c_sum_each_fsum_Sum_Add (w : World) (g6 : Nat) (tg8 : TypeId) (does5 : T_sum_Sum) (hL9 : Lent w [.box g6 tg8 [.int .u64 does5.f_n, .int .i64 does5.f_many]]) (A2 : Option Addr) (c3 : Nat) (lv1 : List (List Int)) (hr4 : Rds [some g6] w A2 c3 (eI .u8) 1 lv1) (r : T_sum_Sum) (hF : F_sum_each_fsum_Sum_Add lv1 does5 = some r) :
    CallsR Try.prog 54 [.slice A2 (lv1).length c3, .func (.func 55) #[.pointer (some ⟨g6, 0, none⟩)] #[]] w (fun v w' => v = .tuple #[] ∧ Mem w [some g6] w' [.box g6 tg8 [.int .u64 r.f_n, .int .i64 r.f_many]]) := by
  refine calls_KC Try.func54 rfl Try.ntmps54 rfl ?_
  have hM : Mem w [some g6] w [.box g6 tg8 [.int .u64 does5.f_n, .int .i64 does5.f_many]] := Mem.lendN hL9
  unfold F_sum_each_fsum_Sum_Add at hF
  refine KC.seqH fun Q10 hQ10 => ?_
  refine KC.region ?_
  refine RL.val (O.move rfl) rfl ?_
  refine RL.val (O.len sl91 rfl) rfl ?_
  refine RL.val (O.move rfl) rfl ?_
  refine RL.nil ?_
  refine KQ.thn hQ10 ?_
  clear hQ10 Q10
  refine KC.block ?_
  refine KC.loop (fun k53 a w51 => ∃ (p48 : Int) (p49 : Int) (t50 : Int), Kn 16 [(1, .func (.func 55) #[.pointer (some ⟨g6, 0, none⟩)] #[]), (6, .slice A2 (lv1).length c3), (7, .int .i64 (lv1.length : Int)), (8, .int .i64 t50)] a ∧ Mem w [some g6] w51 [.box g6 tg8 [.int .u64 p48, .int .i64 p49]] ∧ F_sum_each_fsum_Sum_Add_L1 lv1 k53 p48 p49 t50 = some r) ?_ ?_
  · exact fun a ha => ⟨fuel0, does5.f_n, does5.f_many, 0, ha.less (less_cons rfl (less_cons rfl (less_cons rfl (less_cons rfl less_nil)))), hM, hF⟩
  · rintro k53 a w51 ⟨p48, p49, t50, ha, hM, hF⟩
    refine KC.app ha ?_
    clear ha
    cases k53 with
    | zero => exact (none_some hF).elim
    | succ k53 =>
    have hF : F_sum_each_fsum_Sum_Add_l1 (F_sum_each_fsum_Sum_Add_L1 lv1 k53) lv1 p48 p49 t50 = some r := hF
    unfold F_sum_each_fsum_Sum_Add_l1 at hF
    refine KC.seqH fun Q54 hQ54 => ?_
    refine KC.region ?_
    refine RL.val (O.lss rfl rfl) rfl ?_
    refine RL.nil ?_
    refine KQ.thn hQ54 ?_
    clear hQ54 Q54
    refine KC.seqH fun Q55 hQ55 => ?_
    refine KC.cond rfl (fun hc => ?_) (fun hc => ?_)
    · rw [if_pos hc] at hF
      refine KC.skip ?_
      refine KQ.thn hQ55 ?_
      clear hQ55 Q55
      refine KC.seqH fun Q56 hQ56 => ?_
      refine KC.block ?_
      refine KC.seqH fun Q57 hQ57 => ?_
      refine KC.region ?_
      refine obindE hF fun xv60 hx59 hF => ?_
      obtain ⟨A61, c62, hA58, hr63, ho64, hO65⟩ := Rds.at hr4 hx59
      have hA58 := hA58.chg hM.chg hO65
      refine RL.val (O.idxA sl91 (hA58) rfl rfl) rfl ?_
      refine RL.val (O.load sc22 rfl (hA58).cells.at0) rfl ?_
      refine RL.val (O.assign rfl) rfl ?_
      refine RL.nil ?_
      refine KQ.thn hQ57 ?_
      clear hQ57 Q57
      refine KC.region ?_
      refine RL.val (O.move rfl) rfl ?_
      refine RL.val (O.move rfl) rfl ?_
      refine obindE hF fun y66 hx67 hF => ?_
      refine RL.callv (first := [.pointer (some ⟨g6, 0, none⟩)]) (captured := []) rfl Try.func55 bd55 rfl rfl (c_sum_Sum_Add _ _ _ (T_sum_Sum.mk p48 p49) (hM.lent [0] rfl (by decide)) _ _ xv60 (hM.inp hr63 ho64) (hM.offI [0] rfl hr63 (ho64)) _ hx67) fun v w68 hv => ?_
      obtain ⟨rfl, hN69⟩ := hv
      replace hM := hM.callL [0] [] rfl rfl (by decide) rfl hN69
      refine RL.nil ?_
      refine KQ.blk_n ?_
      refine KQ.thn hQ56 ?_
      clear hQ56 Q56
      refine KC.region ?_
      refine RL.val (O.add rfl rfl) rfl ?_
      refine RL.val (O.move rfl) rfl ?_
      refine RL.nil ?_
      refine KQ.then_k ?_
      exact fun a ha => ⟨k53, Nat.lt_succ_self k53, y66.f_n, y66.f_many, (IntKind.i64.wrap (t50 + 1)), ha.less (less_cons rfl (less_cons rfl (less_cons rfl (less_cons rfl less_nil)))), hM, hF⟩
    · rw [if_neg (ne_true hc)] at hF
      refine KC.exit ?_
      refine KQ.thx hQ55 ?_
      clear hQ55 Q55
      refine KQ.then_x ?_
      refine KQ.blk_x ?_
      have hE := Option.some.inj hF
      clear hF
      subst hE
      refine KQ.endr Try.results54 RVs.nil ?_
      exact ⟨_, rfl, rfl, hM⟩
set_option maxRecDepth 100000 in
set_option maxHeartbeats 40000000 in
theorem c_sum_Sum_Value (w : World) (g2 : Nat) (tg4 : TypeId) (s1 : T_sum_Sum) (hL5 : Lent w [.box g2 tg4 [.int .u64 s1.f_n, .int .i64 s1.f_many]]) (r : Int × T_sum_Sum) (hF : F_sum_Sum_Value s1 = some r) :
    CallsR Try.prog 56 [.pointer (some ⟨g2, 0, none⟩)] w (fun v w' => v = .int .u16 r.1 ∧ Mem w [some g2] w' [.box g2 tg4 [.int .u64 r.2.f_n, .int .i64 r.2.f_many]]) := by
  refine calls_KC Try.func56 rfl Try.ntmps56 rfl ?_
  have hM : Mem w [some g2] w [.box g2 tg4 [.int .u64 s1.f_n, .int .i64 s1.f_many]] := Mem.lendN hL5
  unfold F_sum_Sum_Value at hF
  refine KC.seqH fun Q6 hQ6 => ?_
  refine KC.region ?_
  refine RL.val (O.assign rfl) rfl ?_
  refine RL.nil ?_
  refine KQ.thn hQ6 ?_
  clear hQ6 Q6
  refine KC.seqH fun Q7 hQ7 => ?_
  refine KC.seqH fun Q8 hQ8 => ?_
  refine KC.region ?_
  refine RL.val (O.move rfl) rfl ?_
  refine RL.val (O.peqn Try.underlying104 rfl rfl) rfl ?_
  refine RL.nil ?_
  refine KQ.thn hQ8 ?_
  clear hQ8 Q8
  refine KC.condF rfl ?_
  refine KC.skip ?_
  refine KQ.thn hQ7 ?_
  clear hQ7 Q7
  refine KC.seqH fun Q9 hQ9 => ?_
  refine KC.region ?_
  refine RL.val (O.move rfl) rfl ?_
  refine RL.val (O.nilp rfl) rfl ?_
  refine RL.val (O.fldA fl95_0 (by decide) rfl) rfl ?_
  refine RL.val (O.load sc70 rfl (Cs.adds [0] ((hM.bx (i := 0) rfl)) rfl)) rfl ?_
  refine obindE hF fun y10 hx11 hF => ?_
  refine RL.call Try.func58 bd58 rfl rfl (c_sum_fold _ s1.f_n _ hx11) fun v w12 hv => ?_
  obtain ⟨rfl, hN13⟩ := hv
  replace hM := hM.call0 hN13
  refine RL.val (O.sub rfl rfl) rfl ?_
  refine RL.val (O.assign rfl) rfl ?_
  refine RL.nil ?_
  refine KQ.thn hQ9 ?_
  clear hQ9 Q9
  refine KC.ret ?_
  have hE := Option.some.inj hF
  clear hF
  subst hE
  refine KQ.rets Try.results56 (RVs.cons (RV.tm rfl) RVs.nil) ?_
  exact ⟨_, rfl, rfl, hM⟩
set_option maxRecDepth 100000 in
set_option maxHeartbeats 40000000 in
theorem c_sum_Of (w : World) (A2 : Option Addr) (c3 : Nat) (lv1 : List (List Int)) (hr4 : Rds [] w A2 c3 (eI .u8) 1 lv1) (r : Int) (hF : F_sum_Of lv1 = some r) :
    CallsR Try.prog 36 [.slice A2 (lv1).length c3] w (fun v w' => v = .int .u16 r ∧ Mem w [] w' []) := by
  refine calls_KC Try.func36 rfl Try.ntmps36 rfl ?_
  have hM := Mem.init w
  unfold F_sum_Of at hF
  refine KC.seqH fun Q5 hQ5 => ?_
  refine KC.region ?_
  refine RL.val (O.assign rfl) rfl ?_
  refine RL.nil ?_
  refine KQ.thn hQ5 ?_
  clear hQ5 Q5
  refine KC.seqH fun Q6 hQ6 => ?_
  refine KC.region ?_
  refine RL.eff (E.alloc hM ze95) rfl fun v w8 hv => ?_
  clear hM
  obtain ⟨g7, rfl, hM, hf⟩ := hv
  refine RL.nil ?_
  refine KQ.thn hQ6 ?_
  clear hQ6 Q6
  refine KC.seqH fun Q10 hQ10 => ?_
  refine KC.region ?_
  refine RL.val (O.move rfl) rfl ?_
  refine RL.val (O.mkf rfl rfl) rfl ?_
  refine obindE hF fun y11 hx12 hF => ?_
  refine RL.call Try.func54 bd54 rfl rfl (c_sum_each_fsum_Sum_Add _ _ _ (T_sum_Sum.mk 0 0) (hM.lent [0] rfl (by decide)) _ _ lv1 (hM.offs [0] rfl hr4) _ hx12) fun v w13 hv => ?_
  obtain ⟨rfl, hN14⟩ := hv
  replace hM := hM.callL [0] [] rfl rfl (by decide) rfl hN14
  refine RL.nil ?_
  refine KQ.thn hQ10 ?_
  clear hQ10 Q10
  refine KC.seqH fun Q15 hQ15 => ?_
  refine KC.region ?_
  refine obindE hF fun y16 hx17 hF => ?_
  refine RL.call Try.func56 bd56 rfl rfl (c_sum_Sum_Value _ _ _ y11 (hM.lent [0] rfl (by decide)) _ hx17) fun v w18 hv => ?_
  obtain ⟨rfl, hN19⟩ := hv
  replace hM := hM.callL [0] [] rfl rfl (by decide) rfl hN19
  refine RL.val (O.assign rfl) rfl ?_
  refine RL.nil ?_
  refine KQ.thn hQ15 ?_
  clear hQ15 Q15
  refine KC.ret ?_
  have hE := Option.some.inj hF
  clear hF
  subst hE
  replace hM := hM.pick [] rfl (by decide)
  refine KQ.rets Try.results36 (RVs.cons (RV.tm rfl) RVs.nil) ?_
  exact ⟨_, rfl, rfl, hM⟩
set_option maxRecDepth 100000 in
set_option maxHeartbeats 40000000 in
theorem c_bits_Writer_Set (w : World) (g2 : Nat) (tg7 : TypeId) (wv1 : T_bits_Writer) (A4 : Option Addr) (c5 : Nat) (hL11 : Lent w [.box g2 tg7 [.slice A4 (wv1.f_b).length c5], .row A4 c5 5 1 (wv1.f_b).length ((wv1.f_b).flatMap (eI .u8))]) (atv8 : Int) (v9 : Int) (size10 : Int) (r : Int × T_bits_Writer) (hF : F_bits_Writer_Set wv1 atv8 v9 size10 = some r) :
    CallsR Try.prog 35 [.pointer (some ⟨g2, 0, none⟩), .int .i64 atv8, .int .u64 v9, .int .i64 size10] w (fun v w' => ∃ (A0 : Option Addr) (c0 : Nat), v = .int .i64 r.1 ∧ Mem w [some g2, rblk A4 c5] w' [.box g2 tg7 [.slice A0 (r.2.f_b).length c0], .row A0 c0 5 1 r.2.f_b.length (r.2.f_b.flatMap (eI .u8))]) := by
  refine calls_KC Try.func35 rfl Try.ntmps35 rfl ?_
  have hM : Mem w [some g2, rblk A4 c5] w [.box g2 tg7 [.slice A4 (wv1.f_b).length c5], .row A4 c5 5 1 (wv1.f_b).length ((wv1.f_b).flatMap (eI .u8))] := Mem.lendN hL11
  unfold F_bits_Writer_Set at hF
  refine KC.seqH fun Q12 hQ12 => ?_
  refine KC.region ?_
  refine RL.val (O.assign rfl) rfl ?_
  refine RL.nil ?_
  refine KQ.thn hQ12 ?_
  clear hQ12 Q12
  refine KC.seqH fun Q13 hQ13 => ?_
  refine KC.seqH fun Q14 hQ14 => ?_
  refine KC.region ?_
  refine RL.val (O.move rfl) rfl ?_
  refine RL.val (O.peqn Try.underlying90 rfl rfl) rfl ?_
  refine RL.nil ?_
  refine KQ.thn hQ14 ?_
  clear hQ14 Q14
  refine KC.condF rfl ?_
  refine KC.skip ?_
  refine KQ.thn hQ13 ?_
  clear hQ13 Q13
  refine KC.seqH fun Q15 hQ15 => ?_
  refine KC.cut (fun a w23 => ∃ (t22 : Bool), Kn 49 [(0, .pointer (some ⟨g2, 0, none⟩)), (1, .int .i64 atv8), (2, .int .u64 v9), (3, .int .i64 size10), (38, .bool t22)] a ∧ Mem w [some g2, rblk A4 c5] w23 [.row A4 c5 5 1 (wv1.f_b).length ((wv1.f_b).flatMap (eI .u8)), .box g2 tg7 [.slice A4 (wv1.f_b).length c5]] ∧ F_bits_Writer_Set_j1 wv1 atv8 v9 size10 t22 = some r) ?_ ?_
  · refine KC.region ?_
    refine RL.val (O.move rfl) rfl ?_
    refine RL.val (O.move rfl) rfl ?_
    refine obindE hF fun y16 hx17 hF => ?_
    refine RL.call Try.func52 bd52 rfl rfl (c_bits_fits _ v9 size10 _ hx17) fun v w18 hv => ?_
    obtain ⟨rfl, hN19⟩ := hv
    replace hM := hM.call0 hN19
    refine RL.val (O.not rfl) rfl ?_
    refine RL.val (O.move rfl) rfl ?_
    refine RL.bcase (t := 15) rfl (fun hc => ?_) (fun hc => ?_)
    · rw [if_pos hc] at hF
      refine RL.brun1 23 38 true (by kernel_rfl) ?_
      refine RL.nil ?_
      refine KQ.then_k ?_
      replace hM := hM.pick [1, 0] rfl (by decide)
      exact fun a ha => ⟨true, ha.less (less_cons rfl (less_cons rfl (less_cons rfl (less_cons rfl (less_cons rfl less_nil))))), hM, hF⟩
    · rw [if_neg (ne_true hc)] at hF
      refine RL.gval rfl rfl (O.move rfl) rfl ?_
      refine RL.gval rfl rfl (O.lss rfl rfl) rfl ?_
      refine RL.val (O.pickf rfl rfl) rfl ?_
      refine RL.val (O.move rfl) rfl ?_
      refine RL.bcase (t := 19) rfl (fun hc => ?_) (fun hc => ?_)
      · rw [if_pos hc] at hF
        refine RL.brun1 19 38 true (by kernel_rfl) ?_
        refine RL.nil ?_
        refine KQ.then_k ?_
        replace hM := hM.pick [1, 0] rfl (by decide)
        exact fun a ha => ⟨true, ha.less (less_cons rfl (less_cons rfl (less_cons rfl (less_cons rfl (less_cons rfl less_nil))))), hM, hF⟩
      · rw [if_neg (ne_true hc)] at hF
        refine RL.gval rfl rfl (O.move rfl) rfl ?_
        refine RL.gval rfl rfl (O.move rfl) rfl ?_
        refine RL.gval rfl rfl (O.nilp rfl) rfl ?_
        refine RL.gval rfl rfl (O.fldA fl66_0 (by decide) rfl) rfl ?_
        refine RL.gval rfl rfl (O.load sc22 rfl (Cs.adds [0] ((hM.bx (i := 0) rfl)) rfl)) rfl ?_
        refine RL.gval rfl rfl (O.len sl22 rfl) rfl ?_
        refine RL.gval rfl rfl (O.gtr rfl rfl) rfl ?_
        refine RL.val (O.pickf rfl rfl) rfl ?_
        refine RL.val (O.move rfl) rfl ?_
        refine RL.bcase (t := 28) rfl (fun hc => ?_) (fun hc => ?_)
        · rw [if_pos hc] at hF
          refine RL.brun1 10 38 true (by kernel_rfl) ?_
          refine RL.nil ?_
          refine KQ.then_k ?_
          replace hM := hM.pick [1, 0] rfl (by decide)
          exact fun a ha => ⟨true, ha.less (less_cons rfl (less_cons rfl (less_cons rfl (less_cons rfl (less_cons rfl less_nil))))), hM, hF⟩
        · rw [if_neg (ne_true hc)] at hF
          refine RL.gval rfl rfl (O.move rfl) rfl ?_
          refine RL.gval rfl rfl (O.nilp rfl) rfl ?_
          refine RL.gval rfl rfl (O.fldA fl66_0 (by decide) rfl) rfl ?_
          refine RL.gval rfl rfl (O.load sc22 rfl (Cs.adds [0] ((hM.bx (i := 0) rfl)) rfl)) rfl ?_
          refine RL.gval rfl rfl (O.len sl22 rfl) rfl ?_
          refine RL.gval rfl rfl (O.move rfl) rfl ?_
          refine RL.gval rfl rfl (O.sub rfl rfl) rfl ?_
          refine RL.gval rfl rfl (O.move rfl) rfl ?_
          refine RL.gval rfl rfl (O.lss rfl rfl) rfl ?_
          refine RL.val (O.pickf rfl rfl) rfl ?_
          refine RL.nil ?_
          refine KQ.then_k ?_
          replace hM := hM.pick [1, 0] rfl (by decide)
          exact fun a ha => ⟨(decide ((IntKind.i64.wrap ((wv1.f_b.length : Int) - atv8)) < size10)), ha.less (less_cons rfl (less_cons rfl (less_cons rfl (less_cons rfl (less_cons rfl less_nil))))), hM, hF⟩
  · rintro a w23 ⟨t22, ha, hM, hF⟩
    refine KC.app ha ?_
    clear ha
    unfold F_bits_Writer_Set_j1 at hF
    refine KC.cond rfl (fun hc => ?_) (fun hc => ?_)
    · rw [if_pos hc] at hF
      refine KC.seqH fun Q24 hQ24 => ?_
      refine KC.region ?_
      refine RL.val (O.assign rfl) rfl ?_
      refine RL.nil ?_
      refine KQ.thn hQ24 ?_
      clear hQ24 Q24
      refine KC.ret ?_
      refine KQ.thr hQ15 ?_
      clear hQ15 Q15
      have hE := Option.some.inj hF
      clear hF
      subst hE
      replace hM := hM.pick [1, 0] rfl (by decide)
      refine KQ.rets Try.results35 (RVs.cons (RV.tm rfl) RVs.nil) ?_
      exact ⟨_, rfl, A4, c5, rfl, hM⟩
    · rw [if_neg (ne_true hc)] at hF
      refine KC.skip ?_
      refine KQ.thn hQ15 ?_
      clear hQ15 Q15
      refine KC.seqH fun Q25 hQ25 => ?_
      replace hM := hM.drewN 1
      refine KC.draw [] [9] [8, 9] [0, 1, 2, 4, 5, 6, 7] (.ofList [0, 1, 2, 3, 4, 5, 6, 7, 8, 9]) moP (by kernel_rfl) ?_
      refine RD.p rfl rfl rfl rfl (fun w' => O.move rfl) ?_
      refine RD.p rfl rfl rfl rfl (fun w' => O.nilp rfl) ?_
      refine RD.p rfl rfl rfl rfl (fun w' => O.fldA fl66_0 (by decide) rfl) ?_
      refine RD.q rfl rfl rfl rfl (fun w' hf => O.load sc22 rfl (Cs.adds [0] ((hM.bx (i := 1) rfl).fut hf) rfl)) ?_
      refine RD.p rfl rfl rfl rfl (fun w' => O.move rfl) ?_
      refine obindE hF fun cut26 hy27 hF => ?_
      refine cutNE A4 c5 (Int.toNat atv8) 1 fun A28 c29 eA31 ec32 => ?_
      have hr30 := Rd.cutT (enc := (eI .u8)) (s := 1) (fun _ => rfl) (hM.rd (i := 0) rfl) hy27 (m := c5) (by have := (hM.rd (i := 0) rfl).cap; have := (gcut_some hy27).2.2.1; omega) (Nat.le_refl _)
      rw [← eA31, ← ec32] at hr30
      refine RD.p (v := .slice A28 (cut26).length c29) rfl rfl rfl rfl (fun w' => (by rw [eA31, ec32]; exact O.cutlT sl22 (hM.rd (i := 0) rfl) hy27 rfl rfl)) ?_
      refine RD.p rfl rfl rfl rfl (fun w' => O.move rfl) ?_
      refine RD.p rfl rfl rfl rfl (fun w' => O.move rfl) ?_
      refine obindE hF fun y33 hx34 hF => ?_
      refine RD.mcall rfl rfl trivial Try.func53 bd53 rfl rfl (c_bits_of _ v9 size10 _ hx34) fun v w35 hv => ?_
      obtain ⟨A37, c38, rfl, hN36⟩ := hv
      refine ⟨fun _ => hN36.fut, ?_⟩
      have hr30 := hr30.fut hN36.fut
      replace hM := hM.call hN36
      refine RD.meff rfl rfl (E.copyR (k := .u8) (j := 0) (xs := wv1.f_b) (ys := y33) hM rfl sl22 hy27 eA31 (cut_room ((hM.rd (i := 0) rfl)) hy27) rfl rfl (hM.rd (i := 2) rfl)) rfl fun v w40 hv => ?_
      clear hM
      obtain ⟨rfl, hM, hn41⟩ := hv
      refine ⟨fun h => (by cases h), ?_⟩
      refine RD.reslot (t := 42) rfl hn41 ?_
      replace hM := hM.rebox (i := 1) (cs' := [.slice A4 ((cpR (Int.toNat atv8) (Nat.min y33.length cut26.length) wv1.f_b y33)).length c5]) rfl (by rw [← hn41])
      refine RD.nil ?_
      refine KQ.thn hQ25 ?_
      clear hQ25 Q25
      refine KC.seqH fun Q42 hQ42 => ?_
      refine KC.region ?_
      refine RL.val (O.assign rfl) rfl ?_
      refine RL.nil ?_
      refine KQ.thn hQ42 ?_
      clear hQ42 Q42
      refine KC.ret ?_
      have hE := Option.some.inj hF
      clear hF
      subst hE
      replace hM := hM.pick [1, 0] rfl (by decide)
      refine KQ.rets Try.results35 (RVs.cons (RV.tm rfl) RVs.nil) ?_
      exact ⟨_, rfl, A4, c5, rfl, hM⟩
end Go.Proofs.Ytjfdfjmnajjjaaa
