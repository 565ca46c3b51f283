/- Printed by a program of this claim: each call returns what the plain function of its name gives. -/
import Derived.Test.YtjfdfjmnajjjaaaW1
set_option linter.unusedVariables false
namespace Go.Proofs.Ytjfdfjmnajjjaaa
open Go Go.Ox Go.RowKit
set_option maxRecDepth 100000 in
set_option maxHeartbeats 40000000 in
theorem c_bits_Writer_Raw (w : World) (g2 : Nat) (tg7 : TypeId) (wv1 : T_bits_Writer) (A4 : Option Addr) (c5 : Nat) (hL13 : Lent w [.box g2 tg7 [.slice A4 (wv1.f_b).length c5], .row A4 c5 5 1 (wv1.f_b).length ((wv1.f_b).flatMap (eI .u8))]) (A9 : Option Addr) (c10 : Nat) (b8 : List Int) (hr11 : Rd w A9 c10 1 b8.length (b8.flatMap (eI .u8))) (ho12 : Off [some g2, rblk A4 c5] b8.length A9) (r : Int × T_bits_Writer) (hF : F_bits_Writer_Raw wv1 b8 = some r) :
    CallsR Try.prog 33 [.pointer (some ⟨g2, 0, none⟩), .slice A9 (b8).length c10] w (fun v w' => ∃ (A0 : Option Addr) (c0 : Nat), v = .int .i64 r.1 ∧ Mem w [some g2, rblk A4 c5] w' [.box g2 tg7 [.slice A0 (r.2.f_b).length c0], .row A0 c0 5 1 r.2.f_b.length (r.2.f_b.flatMap (eI .u8))]) := by
  refine calls_KC Try.func33 rfl Try.ntmps33 rfl ?_
  have hM : Mem w [some g2, rblk A4 c5] w [.box g2 tg7 [.slice A4 (wv1.f_b).length c5], .row A4 c5 5 1 (wv1.f_b).length ((wv1.f_b).flatMap (eI .u8))] := Mem.lendN hL13
  unfold F_bits_Writer_Raw at hF
  refine KC.seq ?_
  refine KC.region ?_
  refine RL.val (O.assign rfl) rfl ?_
  refine RL.nil ?_
  refine KQ.then_n ?_
  refine KC.seq ?_
  refine KC.seq ?_
  refine KC.region ?_
  refine RL.val (O.move rfl) rfl ?_
  refine RL.val (O.peqn Try.underlying90 rfl rfl) rfl ?_
  refine RL.nil ?_
  refine KQ.then_n ?_
  refine KC.condF rfl ?_
  refine KC.skip ?_
  refine KQ.then_n ?_
  refine KC.seq ?_
  refine KC.region ?_
  refine RL.val (O.move rfl) rfl ?_
  refine RL.val (O.move rfl) rfl ?_
  refine RL.val (O.nilp rfl) rfl ?_
  refine RL.val (O.fldA fl66_0 (by decide) rfl) rfl ?_
  refine RL.val (O.load sc22 rfl (Cs.adds [0] ((hM.bx (i := 0) rfl)) rfl)) rfl ?_
  refine RL.val (O.move rfl) rfl ?_
  refine cut_someE hF fun hq17 hF => ?_
  refine RL.eff (E.app (enc := (eI .u8)) (xs := wv1.f_b) (ys := b8) (j := 1) hM rfl sl22 ze5 rfl rfl rfl rfl rfl (hM.inp hr11 ho12) (fun _ => One.all rfl) (of_decide_eq_true hq17)) rfl fun v w16 hv => ?_
  clear hM
  obtain ⟨A14, c15, rfl, hM, hf⟩ := hv
  refine RL.val (O.nilp rfl) rfl ?_
  refine RL.val (O.fldA fl66_0 (by decide) rfl) rfl ?_
  refine RL.effs (E.stB (j := 0) (off := 0) (vs := [.slice A14 ((wv1.f_b ++ b8)).length c15]) (cs' := [.slice A14 ((wv1.f_b ++ b8)).length c15]) hM rfl sz22 rfl (adds_eq [0] rfl) rfl rfl (One.all rfl) rfl rfl) fun w19 hM1 => ?_
  clear hM
  have hM := hM1
  clear hM1
  refine RL.nil ?_
  refine KQ.then_n ?_
  refine KC.seq ?_
  refine KC.region ?_
  refine RL.val (O.assign rfl) rfl ?_
  refine RL.nil ?_
  refine KQ.then_n ?_
  refine KC.ret ?_
  have hE := Option.some.inj hF
  clear hF
  subst hE
  refine KQ.rets Try.results33 (RVs.cons (RV.tm rfl) RVs.nil) ?_
  exact ⟨_, rfl, A14, c15, rfl, hM⟩
set_option maxRecDepth 100000 in
set_option maxHeartbeats 40000000 in
theorem c_bits_Writer_Put (w : World) (g2 : Nat) (tg7 : TypeId) (wv1 : T_bits_Writer) (A4 : Option Addr) (c5 : Nat) (hL10 : Lent w [.box g2 tg7 [.slice A4 (wv1.f_b).length c5], .row A4 c5 5 1 (wv1.f_b).length ((wv1.f_b).flatMap (eI .u8))]) (v8 : Int) (size9 : Int) (r : Int × T_bits_Writer) (hF : F_bits_Writer_Put wv1 v8 size9 = some r) :
    CallsR Try.prog 50 [.pointer (some ⟨g2, 0, none⟩), .int .u64 v8, .int .i64 size9] w (fun v w' => ∃ (A0 : Option Addr) (c0 : Nat), v = .int .i64 r.1 ∧ Mem w [some g2, rblk A4 c5] w' [.box g2 tg7 [.slice A0 (r.2.f_b).length c0], .row A0 c0 5 1 r.2.f_b.length (r.2.f_b.flatMap (eI .u8))]) := by
  refine calls_KC Try.func50 rfl Try.ntmps50 rfl ?_
  have hM : Mem w [some g2, rblk A4 c5] w [.box g2 tg7 [.slice A4 (wv1.f_b).length c5], .row A4 c5 5 1 (wv1.f_b).length ((wv1.f_b).flatMap (eI .u8))] := Mem.lendN hL10
  unfold F_bits_Writer_Put at hF
  refine KC.seq ?_
  refine KC.region ?_
  refine RL.val (O.assign rfl) rfl ?_
  refine RL.nil ?_
  refine KQ.then_n ?_
  refine KC.seq ?_
  refine KC.seq ?_
  refine KC.region ?_
  refine RL.val (O.move rfl) rfl ?_
  refine RL.val (O.peqn Try.underlying90 rfl rfl) rfl ?_
  refine RL.nil ?_
  refine KQ.then_n ?_
  refine KC.condF rfl ?_
  refine KC.skip ?_
  refine KQ.then_n ?_
  refine KC.seq ?_
  refine KC.seq ?_
  refine KC.region ?_
  refine RL.val (O.move rfl) rfl ?_
  refine RL.val (O.move rfl) rfl ?_
  refine obindE hF fun y11 hx12 hF => ?_
  refine RL.call Try.func52 bd52 rfl rfl (c_bits_fits _ v8 size9 _ hx12) fun v w13 hv => ?_
  obtain ⟨rfl, hN14⟩ := hv
  replace hM := hM.call0 hN14
  refine RL.val (O.not rfl) rfl ?_
  refine RL.nil ?_
  refine KQ.then_n ?_
  refine KC.cond rfl (fun hc => ?_) (fun hc => ?_)
  · rw [if_pos hc] at hF
    refine KC.seq ?_
    refine KC.region ?_
    refine RL.val (O.assign rfl) rfl ?_
    refine RL.nil ?_
    refine KQ.then_n ?_
    refine KC.ret ?_
    refine KQ.then_r ?_
    have hE := Option.some.inj hF
    clear hF
    subst hE
    refine KQ.rets Try.results50 (RVs.cons (RV.tm rfl) RVs.nil) ?_
    exact ⟨_, rfl, A4, c5, rfl, hM⟩
  · rw [if_neg (ne_true hc)] at hF
    refine KC.skip ?_
    refine KQ.then_n ?_
    refine KC.seq ?_
    refine KC.region ?_
    refine RL.val (O.move rfl) rfl ?_
    refine RL.val (O.move rfl) rfl ?_
    refine RL.val (O.move rfl) rfl ?_
    refine obindE hF fun y15 hx16 hF => ?_
    refine RL.call Try.func53 bd53 rfl rfl (c_bits_of _ v8 size9 _ hx16) fun v w17 hv => ?_
    obtain ⟨A19, c20, rfl, hN18⟩ := hv
    replace hM := hM.call hN18
    refine obindE hF fun y22 hx23 hF => ?_
    refine RL.call Try.func33 bd33 rfl rfl (c_bits_Writer_Raw _ _ _ wv1 _ _ (hM.lent [0, 1] rfl (by decide)) _ _ y15 (hM.rd (i := 2) rfl) (hM.offR [0, 1] rfl (i := 2) rfl rfl) _ hx23) fun v w24 hv => ?_
    obtain ⟨A26, c27, rfl, hN25⟩ := hv
    replace hM := hM.callL [0, 1] [2] rfl rfl (by decide) rfl hN25
    refine RL.val (O.assign rfl) rfl ?_
    refine RL.nil ?_
    refine KQ.then_n ?_
    refine KC.ret ?_
    have hE := Option.some.inj hF
    clear hF
    subst hE
    replace hM := hM.pick [1, 2] rfl (by decide)
    refine KQ.rets Try.results50 (RVs.cons (RV.tm rfl) RVs.nil) ?_
    exact ⟨_, rfl, A26, c27, rfl, hM⟩
set_option maxRecDepth 100000 in
set_option maxHeartbeats 40000000 in
theorem c_ip_writer_put (w : World) (g2 : Nat) (tg7 : TypeId) (wv1 : T_ip_writer) (A4 : Option Addr) (c5 : Nat) (hL14 : Lent w [.box g2 tg7 [.slice A4 (wv1.f_Writer.f_b).length c5], .row A4 c5 5 1 (wv1.f_Writer.f_b).length ((wv1.f_Writer.f_b).flatMap (eI .u8))]) (size8 : Int) (A10 : Option Addr) (c11 : Nat) (lv9 : List Int) (hr12 : Rd w A10 c11 1 lv9.length (lv9.flatMap (eI .u64))) (ho13 : Off [some g2, rblk A4 c5] lv9.length A10) (r : T_ip_writer) (hF : F_ip_writer_put wv1 size8 lv9 = some r) :
    CallsR Try.prog 30 [.pointer (some ⟨g2, 0, none⟩), .int .i64 size8, .slice A10 (lv9).length c11] w (fun v w' => ∃ (A0 : Option Addr) (c0 : Nat), v = .tuple #[] ∧ Mem w [some g2, rblk A4 c5] w' [.box g2 tg7 [.slice A0 (r.f_Writer.f_b).length c0], .row A0 c0 5 1 r.f_Writer.f_b.length (r.f_Writer.f_b.flatMap (eI .u8))]) := by
  refine calls_KC Try.func30 rfl Try.ntmps30 rfl ?_
  have hM : Mem w [some g2, rblk A4 c5] w [.box g2 tg7 [.slice A4 (wv1.f_Writer.f_b).length c5], .row A4 c5 5 1 (wv1.f_Writer.f_b).length ((wv1.f_Writer.f_b).flatMap (eI .u8))] := Mem.lendN hL14
  unfold F_ip_writer_put at hF
  refine KC.seq ?_
  refine KC.region ?_
  refine RL.val (O.move rfl) rfl ?_
  refine RL.val (O.len sl88 rfl) rfl ?_
  refine RL.val (O.move rfl) rfl ?_
  refine RL.nil ?_
  refine KQ.then_n ?_
  refine KC.block ?_
  refine KC.loop (fun k49 a w47 => ∃ (A43 : Option Addr) (c44 : Nat) (p45 : List Int) (t46 : Int), Kn 21 [(0, .pointer (some ⟨g2, 0, none⟩)), (1, .int .i64 size8), (8, .slice A10 (lv9).length c11), (9, .int .i64 (lv9.length : Int)), (10, .int .i64 t46)] a ∧ Mem w [some g2, rblk A4 c5] w47 [.row A43 c44 5 1 (p45).length ((p45).flatMap (eI .u8)), .box g2 tg7 [.slice A43 (p45).length c44]] ∧ F_ip_writer_put_L1 size8 lv9 k49 p45 t46 = some r) ?_ ?_
  · replace hM := hM.pick [1, 0] rfl (by decide)
    exact fun a ha => ⟨fuel0, A4, c5, wv1.f_Writer.f_b, 0, ha.less (less_cons rfl (less_cons rfl (less_cons rfl (less_cons rfl (less_cons rfl less_nil))))), hM, hF⟩
  · rintro k49 a w47 ⟨A43, c44, p45, t46, ha, hM, hF⟩
    refine KC.app ha ?_
    clear ha
    cases k49 with
    | zero => exact (none_some hF).elim
    | succ k49 =>
    have hF : F_ip_writer_put_l1 (F_ip_writer_put_L1 size8 lv9 k49) size8 lv9 p45 t46 = some r := hF
    unfold F_ip_writer_put_l1 at hF
    refine KC.seq ?_
    refine KC.region ?_
    refine RL.val (O.lss rfl rfl) rfl ?_
    refine RL.nil ?_
    refine KQ.then_n ?_
    refine KC.seq ?_
    refine KC.cond rfl (fun hc => ?_) (fun hc => ?_)
    · rw [if_pos hc] at hF
      refine KC.skip ?_
      refine KQ.then_n ?_
      refine KC.seq ?_
      refine KC.block ?_
      refine KC.seq ?_
      refine KC.region ?_
      refine obindE hF fun xv52 hx51 hF => ?_
      have hA50 := Rd.atN (f := (eI .u64)) (s := 1) (fun _ => rfl) (by decide) (hM.inp hr12 ho13) hx51
      refine RL.val (O.idxA sl88 (hA50) rfl rfl) rfl ?_
      refine RL.val (O.load sc70 rfl (hA50).cells.at0) rfl ?_
      refine RL.val (O.assign rfl) rfl ?_
      refine RL.nil ?_
      refine KQ.then_n ?_
      refine KC.region ?_
      refine RL.val (O.move rfl) rfl ?_
      refine RL.val (O.nilp rfl) rfl ?_
      refine RL.val (O.fldA fl68_0 (by decide) rfl) rfl ?_
      refine RL.val (O.move rfl) rfl ?_
      refine RL.val (O.move rfl) rfl ?_
      refine obindE hF fun y53 hx54 hF => ?_
      refine RL.call Try.func50 bd50 rfl rfl (c_bits_Writer_Put _ _ _ (T_bits_Writer.mk p45) _ _ (hM.lent [1, 0] rfl (by decide)) xv52 size8 _ hx54) fun v w55 hv => ?_
      obtain ⟨A57, c58, rfl, hN56⟩ := hv
      replace hM := hM.callL [1, 0] [] rfl rfl (by decide) rfl hN56
      refine RL.nil ?_
      refine KQ.blk_n ?_
      refine KQ.then_n ?_
      refine KC.region ?_
      refine RL.val (O.add rfl rfl) rfl ?_
      refine RL.val (O.move rfl) rfl ?_
      refine RL.nil ?_
      refine KQ.then_k ?_
      replace hM := hM.pick [1, 0] rfl (by decide)
      exact fun a ha => ⟨k49, Nat.lt_succ_self k49, A57, c58, y53.2.f_b, (IntKind.i64.wrap (t46 + 1)), ha.less (less_cons rfl (less_cons rfl (less_cons rfl (less_cons rfl (less_cons rfl less_nil))))), hM, hF⟩
    · rw [if_neg (ne_true hc)] at hF
      refine KC.exit ?_
      refine KQ.then_x ?_
      refine KQ.then_x ?_
      refine KQ.blk_x ?_
      have hE := Option.some.inj hF
      clear hF
      subst hE
      replace hM := hM.pick [1, 0] rfl (by decide)
      refine KQ.endr Try.results30 RVs.nil ?_
      exact ⟨_, rfl, A43, c44, rfl, hM⟩
set_option maxRecDepth 100000 in
set_option maxHeartbeats 40000000 in
theorem c_ip_flag (w : World) (isv1 : Bool) (f2 : Int) (r : Int) (hF : F_ip_flag isv1 f2 = some r) :
    CallsR Try.prog 32 [.bool isv1, .int .u64 f2] w (fun v w' => v = .int .u64 r ∧ Mem w [] w' []) := by
  refine calls_KC Try.func32 rfl Try.ntmps32 rfl ?_
  have hM := Mem.init w
  unfold F_ip_flag at hF
  refine KC.seq ?_
  refine KC.region ?_
  refine RL.val (O.assign rfl) rfl ?_
  refine RL.nil ?_
  refine KQ.then_n ?_
  refine KC.seq ?_
  refine KC.seq ?_
  refine KC.region ?_
  refine RL.val (O.move rfl) rfl ?_
  refine RL.nil ?_
  refine KQ.then_n ?_
  refine KC.cond rfl (fun hc => ?_) (fun hc => ?_)
  · rw [if_pos hc] at hF
    refine KC.seq ?_
    refine KC.region ?_
    refine RL.val (O.move rfl) rfl ?_
    refine RL.val (O.assign rfl) rfl ?_
    refine RL.nil ?_
    refine KQ.then_n ?_
    refine KC.ret ?_
    refine KQ.then_r ?_
    have hE := Option.some.inj hF
    clear hF
    subst hE
    refine KQ.rets Try.results32 (RVs.cons (RV.tm rfl) RVs.nil) ?_
    exact ⟨_, rfl, rfl, hM⟩
  · rw [if_neg (ne_true hc)] at hF
    refine KC.skip ?_
    refine KQ.then_n ?_
    refine KC.seq ?_
    refine KC.region ?_
    refine RL.val (O.assign rfl) rfl ?_
    refine RL.nil ?_
    refine KQ.then_n ?_
    refine KC.ret ?_
    have hE := Option.some.inj hF
    clear hF
    subst hE
    refine KQ.rets Try.results32 (RVs.cons (RV.tm rfl) RVs.nil) ?_
    exact ⟨_, rfl, rfl, hM⟩
set_option maxRecDepth 100000 in
set_option maxHeartbeats 40000000 in
theorem c_slices_Concat_byte_byte (w : World) (A2 : Option Addr) (c3 : Nat) (slices1 : List (List Int)) (hr4 : Rds [] w A2 c3 (eI .u8) 1 slices1) (r : (List Int)) (hF : F_slices_Concat_byte_byte slices1 = some r) :
    CallsR Try.prog 34 [.slice A2 (slices1).length c3] w (fun v w' => ∃ (A0 : Option Addr) (c0 : Nat), v = .slice A0 (r).length c0 ∧ Mem w [] w' [.row A0 c0 5 1 r.length (r.flatMap (eI .u8))]) := by
  refine calls_KC Try.func34 rfl Try.ntmps34 rfl ?_
  have hM := Mem.init w
  unfold F_slices_Concat_byte_byte at hF
  refine KC.seq ?_
  refine KC.region ?_
  refine RL.val (O.assign rfl) rfl ?_
  refine RL.nil ?_
  refine KQ.then_n ?_
  refine KC.seq ?_
  refine KC.region ?_
  refine RL.val (O.assign rfl) rfl ?_
  refine RL.nil ?_
  refine KQ.then_n ?_
  refine KC.seq ?_
  refine KC.seq ?_
  refine KC.region ?_
  refine RL.val (O.move rfl) rfl ?_
  refine RL.val (O.len sl91 rfl) rfl ?_
  refine RL.val (O.move rfl) rfl ?_
  refine RL.nil ?_
  refine KQ.then_n ?_
  refine KC.block ?_
  refine KC.loop (fun k31 a w29 => ∃ (size27 : Int) (t28 : Int), Kn 36 [(0, .slice A2 (slices1).length c3), (3, .int .i64 size27), (9, .slice A2 (slices1).length c3), (10, .int .i64 (slices1.length : Int)), (11, .int .i64 t28)] a ∧ Mem w [] w29 [] ∧ F_slices_Concat_byte_byte_L1 slices1 k31 size27 t28 = some r) ?_ ?_
  · exact fun a ha => ⟨fuel0, 0, 0, ha.less (less_cons rfl (less_cons rfl (less_cons rfl (less_cons rfl (less_cons rfl less_nil))))), hM, hF⟩
  · rintro k31 a w29 ⟨size27, t28, ha, hM, hF⟩
    refine KC.app ha ?_
    clear ha
    cases k31 with
    | zero => exact (none_some hF).elim
    | succ k31 =>
    have hF : F_slices_Concat_byte_byte_l1 (F_slices_Concat_byte_byte_L1 slices1 k31) slices1 size27 t28 = some r := hF
    unfold F_slices_Concat_byte_byte_l1 at hF
    refine KC.seq ?_
    refine KC.region ?_
    refine RL.val (O.lss rfl rfl) rfl ?_
    refine RL.nil ?_
    refine KQ.then_n ?_
    refine KC.seq ?_
    refine KC.cond rfl (fun hc => ?_) (fun hc => ?_)
    · rw [if_pos hc] at hF
      refine KC.skip ?_
      refine KQ.then_n ?_
      refine KC.cut (fun a w41 => ∃ (size40 : Int), Kn 36 [(0, .slice A2 (slices1).length c3), (3, .int .i64 size40), (9, .slice A2 (slices1).length c3), (10, .int .i64 (slices1.length : Int)), (11, .int .i64 t28)] a ∧ Mem w [] w41 [] ∧ F_slices_Concat_byte_byte_j1 t28 (F_slices_Concat_byte_byte_L1 slices1 k31) size40 = some r) ?_ ?_
      · refine KC.block ?_
        refine KC.seq ?_
        refine KC.region ?_
        refine obindE hF fun xv34 hx33 hF => ?_
        obtain ⟨A35, c36, hA32, hr37, ho38, hO39⟩ := Rds.at hr4 hx33
        have hA32 := hA32.chg hM.chg hO39
        refine RL.val (O.idxA sl91 (hA32) rfl rfl) rfl ?_
        refine RL.val (O.load sc22 rfl (hA32).cells.at0) rfl ?_
        refine RL.val (O.assign rfl) rfl ?_
        refine RL.nil ?_
        refine KQ.then_n ?_
        refine KC.seq ?_
        refine KC.region ?_
        refine RL.val (O.move rfl) rfl ?_
        refine RL.val (O.move rfl) rfl ?_
        refine RL.val (O.len sl22 rfl) rfl ?_
        refine RL.val (O.add rfl rfl) rfl ?_
        refine RL.val (O.assign rfl) rfl ?_
        refine RL.nil ?_
        refine KQ.then_n ?_
        refine KC.seq ?_
        refine KC.region ?_
        refine RL.val (O.move rfl) rfl ?_
        refine RL.val (O.lss rfl rfl) rfl ?_
        refine RL.nil ?_
        refine KQ.then_n ?_
        refine KC.cond rfl (fun hc => ?_) (fun hc => ?_)
        · rw [if_pos hc] at hF
          refine KC.region ?_
          exact (none_some hF).elim
        · rw [if_neg (ne_true hc)] at hF
          refine KC.skip ?_
          refine KQ.blk_n ?_
          refine KQ.then_k ?_
          exact fun a ha => ⟨(IntKind.i64.wrap (size27 + (xv34.length : Int))), ha.less (less_cons rfl (less_cons rfl (less_cons rfl (less_cons rfl (less_cons rfl less_nil))))), hM, hF⟩
      · rintro a w41 ⟨size40, ha, hM, hF⟩
        refine KC.app ha ?_
        clear ha
        unfold F_slices_Concat_byte_byte_j1 at hF
        refine KC.region ?_
        refine RL.val (O.add rfl rfl) rfl ?_
        refine RL.val (O.move rfl) rfl ?_
        refine RL.nil ?_
        refine KQ.then_k ?_
        exact fun a ha => ⟨k31, Nat.lt_succ_self k31, size40, (IntKind.i64.wrap (t28 + 1)), ha.less (less_cons rfl (less_cons rfl (less_cons rfl (less_cons rfl (less_cons rfl less_nil))))), hM, hF⟩
    · rw [if_neg (ne_true hc)] at hF
      refine KC.exit ?_
      refine KQ.then_x ?_
      refine KQ.then_x ?_
      refine KQ.blk_x ?_
      refine KQ.then_n ?_
      refine KC.seq ?_
      refine KC.region ?_
      refine RL.val (O.move rfl) rfl ?_
      refine RL.icall Try.func51 bd51 rfl rfl rfl Try.ntmps51 rfl ?_
      refine KC.seq ?_
      refine KC.region ?_
      refine RL.val (O.assign rfl) rfl ?_
      refine RL.nil ?_
      refine KQ.then_n ?_
      refine KC.cut (fun a w42 => Kn 27 [(0, .slice none 0 0), (1, .int .i64 size27)] a ∧ Mem w [] w42 [] ∧ F_slices_Concat_byte_byte_j2 slices1 size27 = some r) ?_ ?_
      · refine KC.seq ?_
        refine KC.region ?_
        refine RL.val (O.move rfl) rfl ?_
        refine RL.val (O.lss rfl rfl) rfl ?_
        refine RL.nil ?_
        refine KQ.then_n ?_
        refine KC.cond rfl (fun hc => ?_) (fun hc => ?_)
        · rw [if_pos hc] at hF
          refine KC.region ?_
          exact (none_some hF).elim
        · rw [if_neg (ne_true hc)] at hF
          refine KC.skip ?_
          refine KQ.then_k ?_
          exact fun a ha => ⟨ha.less (less_cons rfl (less_cons rfl less_nil)), hM, hF⟩
      · rintro a w42 ⟨ha, hM, hF⟩
        refine KC.app ha ?_
        clear ha
        unfold F_slices_Concat_byte_byte_j2 at hF
        refine KC.cut (fun a w55 => ∃ (A52 : Option Addr) (c53 : Nat) (slices54 : List Int), Kn 27 [(0, .slice A52 (slices54).length c53)] a ∧ Mem w [] w55 [.row A52 c53 5 1 (slices54).length ((slices54).flatMap (eI .u8))] ∧ F_slices_Concat_byte_byte_j3 slices1 slices54 = some r) ?_ ?_
        · refine KC.seq ?_
          refine KC.region ?_
          refine RL.val (O.move rfl) rfl ?_
          refine RL.val (O.move rfl) rfl ?_
          refine RL.val (O.capn sl22 rfl) rfl ?_
          refine RL.val (O.move rfl) rfl ?_
          refine RL.val (O.lenn sl22 rfl) rfl ?_
          refine RL.val (O.sub rfl rfl) rfl ?_
          refine RL.val (O.sub rfl rfl) rfl ?_
          refine RL.val (O.assign rfl) rfl ?_
          refine RL.nil ?_
          refine KQ.then_n ?_
          refine KC.seq ?_
          refine KC.region ?_
          refine RL.val (O.move rfl) rfl ?_
          refine RL.val (O.gtr rfl rfl) rfl ?_
          refine RL.nil ?_
          refine KQ.then_n ?_
          refine KC.cond rfl (fun hc => ?_) (fun hc => ?_)
          · rw [if_pos hc] at hF
            refine KC.region ?_
            refine RL.val (O.move rfl) rfl ?_
            refine RL.val (O.move rfl) rfl ?_
            refine RL.val (O.capn sl22 rfl) rfl ?_
            refine RL.val (O.cutn sl22 rfl rfl) rfl ?_
            refine RL.val (O.move rfl) rfl ?_
            refine cut_someE hF fun hq46 hF => ?_
            refine RL.eff (E.appz0 (enc := (eI .u8)) (zr := 0) hM sl22 ze5 rfl rfl (fun _ => rfl) rfl Try.underlying3 rfl rfl (of_decide_eq_true hq46)) rfl fun v w45 hv => ?_
            clear hM
            obtain ⟨A43, c44, rfl, hM, hf⟩ := hv
            refine RL.val (O.move rfl) rfl ?_
            refine RL.val (O.lenn sl22 rfl) rfl ?_
            refine obindE hF fun cut48 hy49 hF => ?_
            have hrd := (hM.rd (i := 0) rfl)
            replace hM := hM.short (enc := (eI .u8)) (fun _ => rfl) (i := 0) rfl hy49
            refine RL.val (O.short (A := A43) (c := c44) (xs := (List.replicate (Int.toNat (IntKind.i64.wrap (size27 - (IntKind.i64.wrap (0 - 0))))) (0 : Int))) (ys := cut48) sl22 hrd.cap hy49 rfl rfl) rfl ?_
            refine RL.val (O.assign rfl) rfl ?_
            refine RL.nil ?_
            refine KQ.then_k ?_
            exact fun a ha => ⟨A43, c44, cut48, ha.less (less_cons rfl less_nil), hM, hF⟩
          · rw [if_neg (ne_true hc)] at hF
            refine KC.skip ?_
            refine KQ.then_k ?_
            replace hM := hM.nilrow 5 1
            exact fun a ha => ⟨none, 0, ([]), ha.less (less_cons rfl less_nil), hM, hF⟩
        · rintro a w55 ⟨A52, c53, slices54, ha, hM, hF⟩
          refine KC.app ha ?_
          clear ha
          unfold F_slices_Concat_byte_byte_j3 at hF
          refine KC.seq ?_
          refine KC.region ?_
          refine RL.val (O.move rfl) rfl ?_
          refine RL.val (O.assign rfl) rfl ?_
          refine RL.nil ?_
          refine KQ.then_n ?_
          refine KC.ret ?_
          refine KQ.rets Try.results51 (RVs.cons (RV.tm rfl) RVs.nil) ?_
          refine ⟨.slice A52 (slices54).length c53, rfl, ?_⟩
          refine RL.val (O.assign rfl) rfl ?_
          refine RL.nil ?_
          refine KQ.then_n ?_
          refine KC.seq ?_
          refine KC.seq ?_
          refine KC.region ?_
          refine RL.val (O.move rfl) rfl ?_
          refine RL.val (O.len sl91 rfl) rfl ?_
          refine RL.val (O.move rfl) rfl ?_
          refine RL.nil ?_
          refine KQ.then_n ?_
          refine KC.block ?_
          refine KC.loop (fun k94 a w92 => ∃ (A88 : Option Addr) (c89 : Nat) (newslice90 : List Int) (t91 : Int), Kn 36 [(6, .slice A88 (newslice90).length c89), (25, .slice A2 (slices1).length c3), (26, .int .i64 (slices1.length : Int)), (27, .int .i64 t91)] a ∧ Mem w [] w92 [.row A88 c89 5 1 (newslice90).length ((newslice90).flatMap (eI .u8))] ∧ F_slices_Concat_byte_byte_L2 slices1 k94 newslice90 t91 = some r) ?_ ?_
          · exact fun a ha => ⟨fuel0, A52, c53, slices54, 0, ha.less (less_cons rfl (less_cons rfl (less_cons rfl (less_cons rfl less_nil)))), hM, hF⟩
          · rintro k94 a w92 ⟨A88, c89, newslice90, t91, ha, hM, hF⟩
            refine KC.app ha ?_
            clear ha
            cases k94 with
            | zero => exact (none_some hF).elim
            | succ k94 =>
            have hF : F_slices_Concat_byte_byte_l2 (F_slices_Concat_byte_byte_L2 slices1 k94) slices1 newslice90 t91 = some r := hF
            unfold F_slices_Concat_byte_byte_l2 at hF
            refine KC.seq ?_
            refine KC.region ?_
            refine RL.val (O.lss rfl rfl) rfl ?_
            refine RL.nil ?_
            refine KQ.then_n ?_
            refine KC.seq ?_
            refine KC.cond rfl (fun hc => ?_) (fun hc => ?_)
            · rw [if_pos hc] at hF
              refine KC.skip ?_
              refine KQ.then_n ?_
              refine KC.seq ?_
              refine KC.block ?_
              refine KC.seq ?_
              refine KC.region ?_
              refine obindE hF fun xv97 hx96 hF => ?_
              obtain ⟨A98, c99, hA95, hr100, ho101, hO102⟩ := Rds.at hr4 hx96
              have hA95 := hA95.chg hM.chg hO102
              refine RL.val (O.idxA sl91 (hA95) rfl rfl) rfl ?_
              refine RL.val (O.load sc22 rfl (hA95).cells.at0) rfl ?_
              refine RL.val (O.assign rfl) rfl ?_
              refine RL.nil ?_
              refine KQ.then_n ?_
              refine KC.region ?_
              refine RL.val (O.move rfl) rfl ?_
              refine RL.val (O.move rfl) rfl ?_
              refine cut_someE hF fun hq106 hF => ?_
              refine RL.eff (E.app (enc := (eI .u8)) (xs := newslice90) (ys := xv97) (j := 0) hM rfl sl22 ze5 rfl rfl rfl rfl rfl (hM.inp hr100 Off.nil) (fun _ => One.all rfl) (of_decide_eq_true hq106)) rfl fun v w105 hv => ?_
              clear hM
              obtain ⟨A103, c104, rfl, hM, hf⟩ := hv
              refine RL.val (O.assign rfl) rfl ?_
              refine RL.nil ?_
              refine KQ.blk_n ?_
              refine KQ.then_n ?_
              refine KC.region ?_
              refine RL.val (O.add rfl rfl) rfl ?_
              refine RL.val (O.move rfl) rfl ?_
              refine RL.nil ?_
              refine KQ.then_k ?_
              exact fun a ha => ⟨k94, Nat.lt_succ_self k94, A103, c104, (newslice90 ++ xv97), (IntKind.i64.wrap (t91 + 1)), ha.less (less_cons rfl (less_cons rfl (less_cons rfl (less_cons rfl less_nil)))), hM, hF⟩
            · rw [if_neg (ne_true hc)] at hF
              refine KC.exit ?_
              refine KQ.then_x ?_
              refine KQ.then_x ?_
              refine KQ.blk_x ?_
              refine KQ.then_n ?_
              refine KC.seq ?_
              refine KC.region ?_
              refine RL.val (O.move rfl) rfl ?_
              refine RL.val (O.assign rfl) rfl ?_
              refine RL.nil ?_
              refine KQ.then_n ?_
              refine KC.ret ?_
              have hE := Option.some.inj hF
              clear hF
              subst hE
              refine KQ.rets Try.results34 (RVs.cons (RV.tm rfl) RVs.nil) ?_
              exact ⟨_, rfl, A88, c89, rfl, hM⟩
set_option maxRecDepth 100000 in
set_option maxHeartbeats 40000000 in
theorem c_slices_Clone_byte_byte (w : World) (A2 : Option Addr) (c3 : Nat) (s1 : List Int) (hr4 : Rd w A2 c3 1 s1.length (s1.flatMap (eI .u8))) (r : (List Int)) (hF : F_slices_Clone_byte_byte s1 = some r) :
    CallsR Try.prog 40 [.slice A2 (s1).length c3] w (fun v w' => ∃ (A0 : Option Addr) (c0 : Nat), v = .slice A0 (r).length c0 ∧ Mem w [] w' [.row A0 c0 5 1 r.length (r.flatMap (eI .u8))]) := by
  refine calls_KC Try.func40 rfl Try.ntmps40 rfl ?_
  have hM := Mem.init w
  unfold F_slices_Clone_byte_byte at hF
  refine KC.seq ?_
  refine KC.region ?_
  refine RL.val (O.assign rfl) rfl ?_
  refine RL.nil ?_
  refine KQ.then_n ?_
  refine KC.seq ?_
  refine KC.seq ?_
  refine KC.region ?_
  refine RL.val (O.move rfl) rfl ?_
  refine RL.val (O.sleqn sl22 rfl rfl) rfl ?_
  refine RL.nil ?_
  refine KQ.then_n ?_
  refine KC.cond rfl (fun hc => ?_) (fun hc => ?_)
  · have hz5 := Rd.none_nil (hM.inp hr4 Off.nil) (hc)
    have hF : (some ([])) = some r := by (rw [hz5] at hF; simpa [lim] using hF)
    refine KC.seq ?_
    refine KC.region ?_
    refine RL.val (O.assign rfl) rfl ?_
    refine RL.nil ?_
    refine KQ.then_n ?_
    refine KC.ret ?_
    refine KQ.then_r ?_
    have hE := Option.some.inj hF
    clear hF
    subst hE
    replace hM := hM.nilrow 5 1
    refine KQ.rets Try.results40 (RVs.cons (RV.tm rfl) RVs.nil) ?_
    exact ⟨_, rfl, none, 0, rfl, hM⟩
  · refine KC.skip ?_
    refine KQ.then_n ?_
    refine KC.seq ?_
    refine KC.region ?_
    refine RL.eff (E.bsl0 hM sl22) rfl fun v w6 hv => ?_
    clear hM
    obtain ⟨A7, rfl, hM, hf⟩ := hv
    refine RL.val (O.move rfl) rfl ?_
    refine cut_someE hF fun hq12 hF => ?_
    refine RL.eff (E.app (enc := (eI .u8)) (xs := ([] : List Int)) (ys := s1) (j := 0) hM rfl sl22 ze5 rfl rfl rfl rfl rfl (hM.inp hr4 Off.nil) (fun _ => One.all rfl) (of_decide_eq_true hq12)) rfl fun v w11 hv => ?_
    clear hM
    obtain ⟨A9, c10, rfl, hM, hf⟩ := hv
    refine RL.val (O.assign rfl) rfl ?_
    refine RL.nil ?_
    refine KQ.then_n ?_
    refine KC.ret ?_
    have hE := Option.some.inj hF
    clear hF
    subst hE
    refine KQ.rets Try.results40 (RVs.cons (RV.tm rfl) RVs.nil) ?_
    exact ⟨_, rfl, A9, c10, rfl, hM⟩
set_option maxRecDepth 100000 in
set_option maxHeartbeats 40000000 in
theorem c_bits_Writer_Bytes (w : World) (g2 : Nat) (tg7 : TypeId) (wv1 : T_bits_Writer) (A4 : Option Addr) (c5 : Nat) (hL8 : Lent w [.box g2 tg7 [.slice A4 (wv1.f_b).length c5], .row A4 c5 5 1 (wv1.f_b).length ((wv1.f_b).flatMap (eI .u8))]) (r : (List Int) × T_bits_Writer) (hF : F_bits_Writer_Bytes wv1 = some r) :
    CallsR Try.prog 37 [.pointer (some ⟨g2, 0, none⟩)] w (fun v w' => ∃ (A0 : Option Addr) (c0 : Nat) (A1 : Option Addr) (c1 : Nat), v = .slice A1 (r.1).length c1 ∧ Mem w [some g2, rblk A4 c5] w' [.box g2 tg7 [.slice A0 (r.2.f_b).length c0], .row A0 c0 5 1 r.2.f_b.length (r.2.f_b.flatMap (eI .u8)), .row A1 c1 5 1 r.1.length (r.1.flatMap (eI .u8))]) := by
  refine calls_KC Try.func37 rfl Try.ntmps37 rfl ?_
  have hM : Mem w [some g2, rblk A4 c5] w [.box g2 tg7 [.slice A4 (wv1.f_b).length c5], .row A4 c5 5 1 (wv1.f_b).length ((wv1.f_b).flatMap (eI .u8))] := Mem.lendN hL8
  unfold F_bits_Writer_Bytes at hF
  refine KC.seq ?_
  refine KC.region ?_
  refine RL.val (O.assign rfl) rfl ?_
  refine RL.nil ?_
  refine KQ.then_n ?_
  refine KC.seq ?_
  refine KC.seq ?_
  refine KC.region ?_
  refine RL.val (O.move rfl) rfl ?_
  refine RL.val (O.peqn Try.underlying90 rfl rfl) rfl ?_
  refine RL.nil ?_
  refine KQ.then_n ?_
  refine KC.condF rfl ?_
  refine KC.skip ?_
  refine KQ.then_n ?_
  refine KC.seq ?_
  refine KC.region ?_
  refine RL.val (O.move rfl) rfl ?_
  refine RL.val (O.nilp rfl) rfl ?_
  refine RL.val (O.fldA fl66_0 (by decide) rfl) rfl ?_
  refine RL.val (O.load sc22 rfl (Cs.adds [0] ((hM.bx (i := 0) rfl)) rfl)) rfl ?_
  refine obindE hF fun y9 hx10 hF => ?_
  refine RL.call Try.func40 bd40 rfl rfl (c_slices_Clone_byte_byte _ _ _ wv1.f_b (hM.rd (i := 1) rfl) _ hx10) fun v w11 hv => ?_
  obtain ⟨A13, c14, rfl, hN12⟩ := hv
  replace hM := hM.call hN12
  refine RL.val (O.assign rfl) rfl ?_
  refine RL.nil ?_
  refine KQ.then_n ?_
  refine KC.ret ?_
  have hE := Option.some.inj hF
  clear hF
  subst hE
  refine KQ.rets Try.results37 (RVs.cons (RV.tm rfl) RVs.nil) ?_
  exact ⟨_, rfl, A4, c5, A13, c14, rfl, hM⟩
set_option maxRecDepth 100000 in
set_option maxHeartbeats 40000000 in
theorem c_sum_fold (w : World) (nv1 : Int) (r : Int) (hF : F_sum_fold nv1 = some r) :
    CallsR Try.prog 58 [.int .u64 nv1] w (fun v w' => v = .int .u16 r ∧ Mem w [] w' []) := by
  refine calls_KC Try.func58 rfl Try.ntmps58 rfl ?_
  have hM := Mem.init w
  unfold F_sum_fold at hF
  refine KC.seq ?_
  refine KC.region ?_
  refine RL.val (O.assign rfl) rfl ?_
  refine RL.nil ?_
  refine KQ.then_n ?_
  refine KC.scope ?_
  refine KC.seq ?_
  refine KC.label ?_
  refine KQ.then_n ?_
  refine KC.seq ?_
  refine KC.block ?_
  refine KC.loop (fun k6 a w4 => ∃ (nv3 : Int), Kn 12 [(0, .int .u64 nv3)] a ∧ Mem w [] w4 [] ∧ F_sum_fold_L1 k6 nv3 = some r) ?_ ?_
  · exact fun a ha => ⟨fuel0, nv1, ha.less (less_cons rfl less_nil), hM, hF⟩
  · rintro k6 a w4 ⟨nv3, ha, hM, hF⟩
    refine KC.app ha ?_
    clear ha
    cases k6 with
    | zero => exact (none_some hF).elim
    | succ k6 =>
    have hF : F_sum_fold_l1 (F_sum_fold_L1 k6) nv3 = some r := hF
    unfold F_sum_fold_l1 at hF
    refine KC.block ?_
    refine KC.seq ?_
    refine KC.seq ?_
    refine KC.region ?_
    refine RL.val (O.move rfl) rfl ?_
    refine RL.val (O.leq rfl rfl) rfl ?_
    refine RL.nil ?_
    refine KQ.then_n ?_
    refine KC.cond rfl (fun hc => ?_) (fun hc => ?_)
    · rw [if_pos hc] at hF
      refine KC.exit ?_
      refine KQ.then_x ?_
      refine KQ.blk_y rfl ?_
      refine KQ.then_x ?_
      refine KQ.blk_x ?_
      refine KQ.then_n ?_
      refine KC.seq ?_
      refine KC.region ?_
      refine RL.val (O.move rfl) rfl ?_
      refine RL.val (O.conv un70 Try.underlying36 rfl) rfl ?_
      refine RL.val (O.assign rfl) rfl ?_
      refine RL.nil ?_
      refine KQ.then_n ?_
      refine KC.ret ?_
      refine KQ.sc_r ?_
      have hE := Option.some.inj hF
      clear hF
      subst hE
      refine KQ.rets Try.results58 (RVs.cons (RV.tm rfl) RVs.nil) ?_
      exact ⟨_, rfl, rfl, hM⟩
    · rw [if_neg (ne_true hc)] at hF
      refine KC.skip ?_
      refine KQ.then_n ?_
      refine KC.region ?_
      refine RL.val (O.move rfl) rfl ?_
      refine RL.val (O.and rfl rfl) rfl ?_
      refine RL.val (O.move rfl) rfl ?_
      refine RL.val (O.shr rfl rfl (by decide)) rfl ?_
      refine RL.val (O.add rfl rfl) rfl ?_
      refine RL.val (O.assign rfl) rfl ?_
      refine RL.nil ?_
      refine KQ.blk_n ?_
      refine KQ.then_k ?_
      exact fun a ha => ⟨k6, Nat.lt_succ_self k6, (IntKind.u64.wrap ((bits .and .u64 nv3 65535) + (Ox.shr .u64 nv3 16))), ha.less (less_cons rfl less_nil), hM, hF⟩
set_option maxRecDepth 100000 in
set_option maxHeartbeats 40000000 in
theorem c_sum_Sum_Add (w : World) (g2 : Nat) (tg4 : TypeId) (s1 : T_sum_Sum) (hL10 : Lent w [.box g2 tg4 [.int .u64 s1.f_n, .int .i64 s1.f_many]]) (A6 : Option Addr) (c7 : Nat) (b5 : List Int) (hr8 : Rd w A6 c7 1 b5.length (b5.flatMap (eI .u8))) (ho9 : Off [some g2] b5.length A6) (r : T_sum_Sum) (hF : F_sum_Sum_Add s1 b5 = some r) :
    CallsR Try.prog 55 [.pointer (some ⟨g2, 0, none⟩), .slice A6 (b5).length c7] w (fun v w' => v = .tuple #[] ∧ Mem w [some g2] w' [.box g2 tg4 [.int .u64 r.f_n, .int .i64 r.f_many]]) := by
  refine calls_KC Try.func55 rfl Try.ntmps55 rfl ?_
  have hM : Mem w [some g2] w [.box g2 tg4 [.int .u64 s1.f_n, .int .i64 s1.f_many]] := Mem.lendN hL10
  unfold F_sum_Sum_Add at hF
  refine KC.seq ?_
  refine KC.seq ?_
  refine KC.region ?_
  refine RL.val (O.move rfl) rfl ?_
  refine RL.val (O.peqn Try.underlying104 rfl rfl) rfl ?_
  refine RL.nil ?_
  refine KQ.then_n ?_
  refine KC.condF rfl ?_
  refine KC.skip ?_
  refine KQ.then_n ?_
  refine KC.seq ?_
  refine KC.region ?_
  refine RL.val (O.move rfl) rfl ?_
  refine RL.val (O.len sl22 rfl) rfl ?_
  refine RL.val (O.move rfl) rfl ?_
  refine RL.nil ?_
  refine KQ.then_n ?_
  refine KC.block ?_
  refine KC.loop (fun k45 a w43 => ∃ (p40 : Int) (p41 : Int) (t42 : Int), Kn 44 [(0, .pointer (some ⟨g2, 0, none⟩)), (9, .slice A6 (b5).length c7), (10, .int .i64 (b5.length : Int)), (11, .int .i64 t42)] a ∧ Mem w [some g2] w43 [.box g2 tg4 [.int .u64 p40, .int .i64 p41]] ∧ F_sum_Sum_Add_L1 b5 k45 p40 p41 t42 = some r) ?_ ?_
  · exact fun a ha => ⟨fuel0, s1.f_n, s1.f_many, 0, ha.less (less_cons rfl (less_cons rfl (less_cons rfl (less_cons rfl less_nil)))), hM, hF⟩
  · rintro k45 a w43 ⟨p40, p41, t42, ha, hM, hF⟩
    refine KC.app ha ?_
    clear ha
    cases k45 with
    | zero => exact (none_some hF).elim
    | succ k45 =>
    have hF : F_sum_Sum_Add_l1 (F_sum_Sum_Add_L1 b5 k45) b5 p40 p41 t42 = some r := hF
    unfold F_sum_Sum_Add_l1 at hF
    refine KC.seq ?_
    refine KC.region ?_
    refine RL.val (O.lss rfl rfl) rfl ?_
    refine RL.nil ?_
    refine KQ.then_n ?_
    refine KC.seq ?_
    refine KC.cond rfl (fun hc => ?_) (fun hc => ?_)
    · rw [if_pos hc] at hF
      refine KC.skip ?_
      refine KQ.then_n ?_
      refine KC.seq ?_
      refine KC.block ?_
      refine KC.seq ?_
      refine KC.region ?_
      refine obindE hF fun xv48 hx47 hF => ?_
      have hA46 := Rd.atN (f := (eI .u8)) (s := 1) (fun _ => rfl) (by decide) (hM.inp hr8 ho9) hx47
      refine RL.val (O.idxA sl22 (hA46) rfl rfl) rfl ?_
      refine RL.val (O.load sc5 rfl (hA46).cells.at0) rfl ?_
      refine RL.val (O.assign rfl) rfl ?_
      refine RL.nil ?_
      refine KQ.then_n ?_
      refine KC.seq ?_
      refine KC.region ?_
      refine RL.val (O.move rfl) rfl ?_
      refine RL.val (O.conv un5 Try.underlying70 rfl) rfl ?_
      refine RL.val (O.assign rfl) rfl ?_
      refine RL.nil ?_
      refine KQ.then_n ?_
      refine KC.cut (fun a w51 => ∃ (v50 : Int), Kn 44 [(0, .pointer (some ⟨g2, 0, none⟩)), (6, .int .u64 v50), (9, .slice A6 (b5).length c7), (10, .int .i64 (b5.length : Int)), (11, .int .i64 t42)] a ∧ Mem w [some g2] w51 [.box g2 tg4 [.int .u64 p40, .int .i64 p41]] ∧ F_sum_Sum_Add_j1 p40 p41 t42 (F_sum_Sum_Add_L1 b5 k45) v50 = some r) ?_ ?_
      · refine KC.seq ?_
        refine KC.region ?_
        refine RL.val (O.move rfl) rfl ?_
        refine RL.val (O.nilp rfl) rfl ?_
        refine RL.val (O.fldA fl95_1 (by decide) rfl) rfl ?_
        refine RL.val (O.load sc3 rfl (Cs.adds [1] ((hM.bx (i := 0) rfl)) rfl)) rfl ?_
        refine RL.val (O.rem rfl rfl (by decide)) rfl ?_
        refine RL.val (O.eql rfl rfl) rfl ?_
        refine RL.nil ?_
        refine KQ.then_n ?_
        refine KC.cond rfl (fun hc => ?_) (fun hc => ?_)
        · rw [if_pos hc] at hF
          refine KC.region ?_
          refine RL.val (O.move rfl) rfl ?_
          refine RL.val (O.shl rfl rfl (by decide)) rfl ?_
          refine RL.val (O.assign rfl) rfl ?_
          refine RL.nil ?_
          refine KQ.then_k ?_
          exact fun a ha => ⟨(Ox.shl .u64 (IntKind.u64.wrap xv48) 8), ha.less (less_cons rfl (less_cons rfl (less_cons rfl (less_cons rfl (less_cons rfl less_nil))))), hM, hF⟩
        · rw [if_neg (ne_true hc)] at hF
          refine KC.skip ?_
          refine KQ.then_k ?_
          exact fun a ha => ⟨(IntKind.u64.wrap xv48), ha.less (less_cons rfl (less_cons rfl (less_cons rfl (less_cons rfl (less_cons rfl less_nil))))), hM, hF⟩
      · rintro a w51 ⟨v50, ha, hM, hF⟩
        refine KC.app ha ?_
        clear ha
        unfold F_sum_Sum_Add_j1 at hF
        refine KC.seq ?_
        refine KC.region ?_
        refine RL.val (O.move rfl) rfl ?_
        refine RL.val (O.move rfl) rfl ?_
        refine RL.val (O.nilp rfl) rfl ?_
        refine RL.val (O.fldA fl95_0 (by decide) rfl) rfl ?_
        refine RL.val (O.load sc70 rfl (Cs.adds [0] ((hM.bx (i := 0) rfl)) rfl)) rfl ?_
        refine obindE hF fun y52 hx53 hF => ?_
        refine RL.call Try.func58 bd58 rfl rfl (c_sum_fold _ p40 _ hx53) fun v w54 hv => ?_
        obtain ⟨rfl, hN55⟩ := hv
        replace hM := hM.call0 hN55
        refine RL.val (O.conv un36 Try.underlying70 rfl) rfl ?_
        refine RL.val (O.move rfl) rfl ?_
        refine RL.val (O.add rfl rfl) rfl ?_
        refine RL.val (O.nilp rfl) rfl ?_
        refine RL.val (O.fldA fl95_0 (by decide) rfl) rfl ?_
        refine RL.effs (E.stB (j := 0) (off := 0) (vs := [.int .u64 (IntKind.u64.wrap ((IntKind.u64.wrap y52) + v50))]) (cs' := [.int .u64 (IntKind.u64.wrap ((IntKind.u64.wrap y52) + v50)), .int .i64 p41]) hM rfl sz70 rfl (adds_eq [0] rfl) rfl rfl (One.all rfl) rfl rfl) fun w56 hM1 => ?_
        clear hM
        have hM := hM1
        clear hM1
        refine RL.nil ?_
        refine KQ.then_n ?_
        refine KC.region ?_
        refine RL.val (O.move rfl) rfl ?_
        refine RL.val (O.nilp rfl) rfl ?_
        refine RL.val (O.fldA fl95_1 (by decide) rfl) rfl ?_
        refine RL.val (O.load sc3 rfl (Cs.adds [1] ((hM.bx (i := 0) rfl)) rfl)) rfl ?_
        refine RL.val (O.add rfl rfl) rfl ?_
        refine RL.val (O.nilp rfl) rfl ?_
        refine RL.val (O.fldA fl95_1 (by decide) rfl) rfl ?_
        refine RL.effs (E.stB (j := 0) (off := 1) (vs := [.int .i64 (IntKind.i64.wrap (p41 + 1))]) (cs' := [.int .u64 (IntKind.u64.wrap ((IntKind.u64.wrap y52) + v50)), .int .i64 (IntKind.i64.wrap (p41 + 1))]) hM rfl sz3 rfl (adds_eq [1] rfl) rfl rfl (One.all rfl) rfl rfl) fun w57 hM1 => ?_
        clear hM
        have hM := hM1
        clear hM1
        refine RL.nil ?_
        refine KQ.blk_n ?_
        refine KQ.then_n ?_
        refine KC.region ?_
        refine RL.val (O.add rfl rfl) rfl ?_
        refine RL.val (O.move rfl) rfl ?_
        refine RL.nil ?_
        refine KQ.then_k ?_
        exact fun a ha => ⟨k45, Nat.lt_succ_self k45, (IntKind.u64.wrap ((IntKind.u64.wrap y52) + v50)), (IntKind.i64.wrap (p41 + 1)), (IntKind.i64.wrap (t42 + 1)), ha.less (less_cons rfl (less_cons rfl (less_cons rfl (less_cons rfl less_nil)))), hM, hF⟩
    · rw [if_neg (ne_true hc)] at hF
      refine KC.exit ?_
      refine KQ.then_x ?_
      refine KQ.then_x ?_
      refine KQ.blk_x ?_
      have hE := Option.some.inj hF
      clear hF
      subst hE
      refine KQ.endr Try.results55 RVs.nil ?_
      exact ⟨_, rfl, rfl, hM⟩
end Go.Proofs.Ytjfdfjmnajjjaaa
