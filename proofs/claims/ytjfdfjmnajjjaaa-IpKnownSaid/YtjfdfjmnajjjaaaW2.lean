/- Printed by a program of this claim: each call returns what the plain function of its name gives. -/
import Derived.Test.YtjfdfjmnajjjaaaW1
set_option linter.unusedVariables false
namespace Go.Proofs.Ytjfdfjmnajjjaaa
open Go Go.Ox Go.RowKit
set_option maxRecDepth 100000 in
set_option maxHeartbeats 40000000 in
theorem c_bits_Writer_Raw (w : World) (g2 : Nat) (tg7 : TypeId) (wv1 : T_bits_Writer) (A4 : Option Addr) (c5 : Nat) (hL13 : Lent w [.box g2 tg7 [.slice A4 (wv1.f_b).length c5], .row A4 c5 5 1 (wv1.f_b).length ((wv1.f_b).flatMap (eI .u8))]) (A9 : Option Addr) (c10 : Nat) (b8 : List Int) (hr11 : Rd w A9 c10 1 b8.length (b8.flatMap (eI .u8))) (ho12 : Off [some g2, rblk A4 c5] b8.length A9) (r : Int × T_bits_Writer) (hF : F_bits_Writer_Raw wv1 b8 = some r) :
    CallsR Try.prog 33 [.pointer (some ⟨g2, 0, none⟩), .slice A9 (b8).length c10] w (fun v w' => ∃ (A0 : Option Addr) (c0 : Nat), v = .int .i64 r.1 ∧ Mem w [some g2, rblk A4 c5] w' [.box g2 tg7 [.slice A0 (r.2.f_b).length c0], .row A0 c0 5 1 r.2.f_b.length (r.2.f_b.flatMap (eI .u8))]) := by
  refine calls_KC Try.func33 rfl Try.ntmps33 rfl ?_
  have hM : Mem w [some g2, rblk A4 c5] w [.box g2 tg7 [.slice A4 (wv1.f_b).length c5], .row A4 c5 5 1 (wv1.f_b).length ((wv1.f_b).flatMap (eI .u8))] := Mem.lendN hL13
  unfold F_bits_Writer_Raw at hF
  refine KC.seqH fun Q14 hQ14 => ?_
  refine KC.region ?_
  refine RL.val (O.assign rfl) rfl ?_
  refine RL.nil ?_
  refine KQ.thn hQ14 ?_
  clear hQ14 Q14
  refine KC.seqH fun Q15 hQ15 => ?_
  refine KC.seqH fun Q16 hQ16 => ?_
  refine KC.region ?_
  refine RL.val (O.move rfl) rfl ?_
  refine RL.val (O.peqn Try.underlying90 rfl rfl) rfl ?_
  refine RL.nil ?_
  refine KQ.thn hQ16 ?_
  clear hQ16 Q16
  refine KC.condF rfl ?_
  refine KC.skip ?_
  refine KQ.thn hQ15 ?_
  clear hQ15 Q15
  refine KC.seqH fun Q17 hQ17 => ?_
  refine KC.region ?_
  refine RL.val (O.move rfl) rfl ?_
  refine RL.val (O.move rfl) rfl ?_
  refine RL.val (O.nilp rfl) rfl ?_
  refine RL.val (O.fldA fl66_0 (by decide) rfl) rfl ?_
  refine RL.val (O.load sc22 rfl (Cs.adds [0] ((hM.bx (i := 0) rfl)) rfl)) rfl ?_
  refine RL.val (O.move rfl) rfl ?_
  refine cut_someE hF fun hq21 hF => ?_
  refine RL.eff (E.app (enc := (eI .u8)) (xs := wv1.f_b) (ys := b8) (j := 1) hM rfl sl22 ze5 rfl rfl rfl rfl rfl (hM.inp hr11 ho12) (fun _ => One.all rfl) (of_decide_eq_true hq21)) rfl fun v w20 hv => ?_
  clear hM
  obtain ⟨A18, c19, rfl, hM, hf⟩ := hv
  refine RL.val (O.nilp rfl) rfl ?_
  refine RL.val (O.fldA fl66_0 (by decide) rfl) rfl ?_
  refine RL.effs (E.stB (j := 0) (off := 0) (vs := [.slice A18 ((wv1.f_b ++ b8)).length c19]) (cs' := [.slice A18 ((wv1.f_b ++ b8)).length c19]) hM rfl sz22 rfl (adds_eq [0] rfl) rfl rfl (One.all rfl) rfl rfl) fun w23 hM1 => ?_
  clear hM
  have hM := hM1
  clear hM1
  refine RL.nil ?_
  refine KQ.thn hQ17 ?_
  clear hQ17 Q17
  refine KC.seqH fun Q24 hQ24 => ?_
  refine KC.region ?_
  refine RL.val (O.assign rfl) rfl ?_
  refine RL.nil ?_
  refine KQ.thn hQ24 ?_
  clear hQ24 Q24
  refine KC.ret ?_
  have hE := Option.some.inj hF
  clear hF
  subst hE
  refine KQ.rets Try.results33 (RVs.cons (RV.tm rfl) RVs.nil) ?_
  exact ⟨_, rfl, A18, c19, rfl, hM⟩
set_option maxRecDepth 100000 in
set_option maxHeartbeats 40000000 in
theorem c_bits_Writer_Put (w : World) (g2 : Nat) (tg7 : TypeId) (wv1 : T_bits_Writer) (A4 : Option Addr) (c5 : Nat) (hL10 : Lent w [.box g2 tg7 [.slice A4 (wv1.f_b).length c5], .row A4 c5 5 1 (wv1.f_b).length ((wv1.f_b).flatMap (eI .u8))]) (v8 : Int) (size9 : Int) (r : Int × T_bits_Writer) (hF : F_bits_Writer_Put wv1 v8 size9 = some r) :
    CallsR Try.prog 50 [.pointer (some ⟨g2, 0, none⟩), .int .u64 v8, .int .i64 size9] w (fun v w' => ∃ (A0 : Option Addr) (c0 : Nat), v = .int .i64 r.1 ∧ Mem w [some g2, rblk A4 c5] w' [.box g2 tg7 [.slice A0 (r.2.f_b).length c0], .row A0 c0 5 1 r.2.f_b.length (r.2.f_b.flatMap (eI .u8))]) := by
  refine calls_KC Try.func50 rfl Try.ntmps50 rfl ?_
  have hM : Mem w [some g2, rblk A4 c5] w [.box g2 tg7 [.slice A4 (wv1.f_b).length c5], .row A4 c5 5 1 (wv1.f_b).length ((wv1.f_b).flatMap (eI .u8))] := Mem.lendN hL10
  unfold F_bits_Writer_Put at hF
  refine KC.seqH fun Q11 hQ11 => ?_
  refine KC.region ?_
  refine RL.val (O.assign rfl) rfl ?_
  refine RL.nil ?_
  refine KQ.thn hQ11 ?_
  clear hQ11 Q11
  refine KC.seqH fun Q12 hQ12 => ?_
  refine KC.seqH fun Q13 hQ13 => ?_
  refine KC.region ?_
  refine RL.val (O.move rfl) rfl ?_
  refine RL.val (O.peqn Try.underlying90 rfl rfl) rfl ?_
  refine RL.nil ?_
  refine KQ.thn hQ13 ?_
  clear hQ13 Q13
  refine KC.condF rfl ?_
  refine KC.skip ?_
  refine KQ.thn hQ12 ?_
  clear hQ12 Q12
  refine KC.seqH fun Q14 hQ14 => ?_
  refine KC.seqH fun Q15 hQ15 => ?_
  refine KC.region ?_
  refine RL.val (O.move rfl) rfl ?_
  refine RL.val (O.move rfl) rfl ?_
  refine obindE hF fun y16 hx17 hF => ?_
  refine RL.call Try.func52 bd52 rfl rfl (c_bits_fits _ v8 size9 _ hx17) fun v w18 hv => ?_
  obtain ⟨rfl, hN19⟩ := hv
  replace hM := hM.call0 hN19
  refine RL.val (O.not rfl) rfl ?_
  refine RL.nil ?_
  refine KQ.thn hQ15 ?_
  clear hQ15 Q15
  refine KC.cond rfl (fun hc => ?_) (fun hc => ?_)
  · rw [if_pos hc] at hF
    refine KC.seqH fun Q20 hQ20 => ?_
    refine KC.region ?_
    refine RL.val (O.assign rfl) rfl ?_
    refine RL.nil ?_
    refine KQ.thn hQ20 ?_
    clear hQ20 Q20
    refine KC.ret ?_
    refine KQ.thr hQ14 ?_
    clear hQ14 Q14
    have hE := Option.some.inj hF
    clear hF
    subst hE
    refine KQ.rets Try.results50 (RVs.cons (RV.tm rfl) RVs.nil) ?_
    exact ⟨_, rfl, A4, c5, rfl, hM⟩
  · rw [if_neg (ne_true hc)] at hF
    refine KC.skip ?_
    refine KQ.thn hQ14 ?_
    clear hQ14 Q14
    refine KC.seqH fun Q21 hQ21 => ?_
    refine KC.region ?_
    refine RL.val (O.move rfl) rfl ?_
    refine RL.val (O.move rfl) rfl ?_
    refine RL.val (O.move rfl) rfl ?_
    refine obindE hF fun y22 hx23 hF => ?_
    refine RL.call Try.func53 bd53 rfl rfl (c_bits_of _ v8 size9 _ hx23) fun v w24 hv => ?_
    obtain ⟨A26, c27, rfl, hN25⟩ := hv
    replace hM := hM.call hN25
    refine obindE hF fun y29 hx30 hF => ?_
    refine RL.call Try.func33 bd33 rfl rfl (c_bits_Writer_Raw _ _ _ wv1 _ _ (hM.lent [0, 1] rfl (by decide)) _ _ y22 (hM.rd (i := 2) rfl) (hM.offR [0, 1] rfl (i := 2) rfl rfl) _ hx30) fun v w31 hv => ?_
    obtain ⟨A33, c34, rfl, hN32⟩ := hv
    replace hM := hM.callL [0, 1] [2] rfl rfl (by decide) rfl hN32
    refine RL.val (O.assign rfl) rfl ?_
    refine RL.nil ?_
    refine KQ.thn hQ21 ?_
    clear hQ21 Q21
    refine KC.ret ?_
    have hE := Option.some.inj hF
    clear hF
    subst hE
    replace hM := hM.pick [1, 2] rfl (by decide)
    refine KQ.rets Try.results50 (RVs.cons (RV.tm rfl) RVs.nil) ?_
    exact ⟨_, rfl, A33, c34, rfl, hM⟩
set_option maxRecDepth 100000 in
set_option maxHeartbeats 40000000 in
theorem c_ip_writer_put (w : World) (g2 : Nat) (tg7 : TypeId) (wv1 : T_ip_writer) (A4 : Option Addr) (c5 : Nat) (hL14 : Lent w [.box g2 tg7 [.slice A4 (wv1.f_Writer.f_b).length c5], .row A4 c5 5 1 (wv1.f_Writer.f_b).length ((wv1.f_Writer.f_b).flatMap (eI .u8))]) (size8 : Int) (A10 : Option Addr) (c11 : Nat) (lv9 : List Int) (hr12 : Rd w A10 c11 1 lv9.length (lv9.flatMap (eI .u64))) (ho13 : Off [some g2, rblk A4 c5] lv9.length A10) (r : T_ip_writer) (hF : F_ip_writer_put wv1 size8 lv9 = some r) :
    CallsR Try.prog 30 [.pointer (some ⟨g2, 0, none⟩), .int .i64 size8, .slice A10 (lv9).length c11] w (fun v w' => ∃ (A0 : Option Addr) (c0 : Nat), v = .tuple #[] ∧ Mem w [some g2, rblk A4 c5] w' [.box g2 tg7 [.slice A0 (r.f_Writer.f_b).length c0], .row A0 c0 5 1 r.f_Writer.f_b.length (r.f_Writer.f_b.flatMap (eI .u8))]) := by
  refine calls_KC Try.func30 rfl Try.ntmps30 rfl ?_
  have hM : Mem w [some g2, rblk A4 c5] w [.box g2 tg7 [.slice A4 (wv1.f_Writer.f_b).length c5], .row A4 c5 5 1 (wv1.f_Writer.f_b).length ((wv1.f_Writer.f_b).flatMap (eI .u8))] := Mem.lendN hL14
  unfold F_ip_writer_put at hF
  refine KC.seqH fun Q15 hQ15 => ?_
  refine KC.region ?_
  refine RL.val (O.move rfl) rfl ?_
  refine RL.val (O.len sl88 rfl) rfl ?_
  refine RL.val (O.move rfl) rfl ?_
  refine RL.nil ?_
  refine KQ.thn hQ15 ?_
  clear hQ15 Q15
  refine KC.block ?_
  refine KC.loop (fun k58 a w56 => ∃ (A52 : Option Addr) (c53 : Nat) (p54 : List Int) (t55 : Int), Kn 21 [(0, .pointer (some ⟨g2, 0, none⟩)), (1, .int .i64 size8), (8, .slice A10 (lv9).length c11), (9, .int .i64 (lv9.length : Int)), (10, .int .i64 t55)] a ∧ Mem w [some g2, rblk A4 c5] w56 [.row A52 c53 5 1 (p54).length ((p54).flatMap (eI .u8)), .box g2 tg7 [.slice A52 (p54).length c53]] ∧ F_ip_writer_put_L1 size8 lv9 k58 p54 t55 = some r) ?_ ?_
  · replace hM := hM.pick [1, 0] rfl (by decide)
    exact fun a ha => ⟨fuel0, A4, c5, wv1.f_Writer.f_b, 0, ha.less (less_cons rfl (less_cons rfl (less_cons rfl (less_cons rfl (less_cons rfl less_nil))))), hM, hF⟩
  · rintro k58 a w56 ⟨A52, c53, p54, t55, ha, hM, hF⟩
    refine KC.app ha ?_
    clear ha
    cases k58 with
    | zero => exact (none_some hF).elim
    | succ k58 =>
    have hF : F_ip_writer_put_l1 (F_ip_writer_put_L1 size8 lv9 k58) size8 lv9 p54 t55 = some r := hF
    unfold F_ip_writer_put_l1 at hF
    refine KC.seqH fun Q59 hQ59 => ?_
    refine KC.region ?_
    refine RL.val (O.lss rfl rfl) rfl ?_
    refine RL.nil ?_
    refine KQ.thn hQ59 ?_
    clear hQ59 Q59
    refine KC.seqH fun Q60 hQ60 => ?_
    refine KC.cond rfl (fun hc => ?_) (fun hc => ?_)
    · rw [if_pos hc] at hF
      refine KC.skip ?_
      refine KQ.thn hQ60 ?_
      clear hQ60 Q60
      refine KC.seqH fun Q61 hQ61 => ?_
      refine KC.block ?_
      refine KC.seqH fun Q62 hQ62 => ?_
      refine KC.region ?_
      refine obindE hF fun xv65 hx64 hF => ?_
      have hA63 := Rd.atN (f := (eI .u64)) (s := 1) (fun _ => rfl) (by decide) (hM.inp hr12 ho13) hx64
      refine RL.val (O.idxA sl88 (hA63) rfl rfl) rfl ?_
      refine RL.val (O.load sc70 rfl (hA63).cells.at0) rfl ?_
      refine RL.val (O.assign rfl) rfl ?_
      refine RL.nil ?_
      refine KQ.thn hQ62 ?_
      clear hQ62 Q62
      refine KC.region ?_
      refine RL.val (O.move rfl) rfl ?_
      refine RL.val (O.nilp rfl) rfl ?_
      refine RL.val (O.fldA fl68_0 (by decide) rfl) rfl ?_
      refine RL.val (O.move rfl) rfl ?_
      refine RL.val (O.move rfl) rfl ?_
      refine obindE hF fun y66 hx67 hF => ?_
      refine RL.call Try.func50 bd50 rfl rfl (c_bits_Writer_Put _ _ _ (T_bits_Writer.mk p54) _ _ (hM.lent [1, 0] rfl (by decide)) xv65 size8 _ hx67) fun v w68 hv => ?_
      obtain ⟨A70, c71, rfl, hN69⟩ := hv
      replace hM := hM.callL [1, 0] [] rfl rfl (by decide) rfl hN69
      refine RL.nil ?_
      refine KQ.blk_n ?_
      refine KQ.thn hQ61 ?_
      clear hQ61 Q61
      refine KC.region ?_
      refine RL.val (O.add rfl rfl) rfl ?_
      refine RL.val (O.move rfl) rfl ?_
      refine RL.nil ?_
      refine KQ.then_k ?_
      replace hM := hM.pick [1, 0] rfl (by decide)
      exact fun a ha => ⟨k58, Nat.lt_succ_self k58, A70, c71, y66.2.f_b, (IntKind.i64.wrap (t55 + 1)), ha.less (less_cons rfl (less_cons rfl (less_cons rfl (less_cons rfl (less_cons rfl less_nil))))), hM, hF⟩
    · rw [if_neg (ne_true hc)] at hF
      refine KC.exit ?_
      refine KQ.thx hQ60 ?_
      clear hQ60 Q60
      refine KQ.then_x ?_
      refine KQ.blk_x ?_
      have hE := Option.some.inj hF
      clear hF
      subst hE
      replace hM := hM.pick [1, 0] rfl (by decide)
      refine KQ.endr Try.results30 RVs.nil ?_
      exact ⟨_, rfl, A52, c53, rfl, hM⟩
set_option maxRecDepth 100000 in
set_option maxHeartbeats 40000000 in
theorem c_ip_flag (w : World) (isv1 : Bool) (f2 : Int) (r : Int) (hF : F_ip_flag isv1 f2 = some r) :
    CallsR Try.prog 32 [.bool isv1, .int .u64 f2] w (fun v w' => v = .int .u64 r ∧ Mem w [] w' []) := by
  refine calls_KC Try.func32 rfl Try.ntmps32 rfl ?_
  have hM := Mem.init w
  unfold F_ip_flag at hF
  refine KC.seqH fun Q3 hQ3 => ?_
  refine KC.region ?_
  refine RL.val (O.assign rfl) rfl ?_
  refine RL.nil ?_
  refine KQ.thn hQ3 ?_
  clear hQ3 Q3
  refine KC.seqH fun Q4 hQ4 => ?_
  refine KC.seqH fun Q5 hQ5 => ?_
  refine KC.region ?_
  refine RL.val (O.move rfl) rfl ?_
  refine RL.nil ?_
  refine KQ.thn hQ5 ?_
  clear hQ5 Q5
  refine KC.cond rfl (fun hc => ?_) (fun hc => ?_)
  · rw [if_pos hc] at hF
    refine KC.seqH fun Q6 hQ6 => ?_
    refine KC.region ?_
    refine RL.val (O.move rfl) rfl ?_
    refine RL.val (O.assign rfl) rfl ?_
    refine RL.nil ?_
    refine KQ.thn hQ6 ?_
    clear hQ6 Q6
    refine KC.ret ?_
    refine KQ.thr hQ4 ?_
    clear hQ4 Q4
    have hE := Option.some.inj hF
    clear hF
    subst hE
    refine KQ.rets Try.results32 (RVs.cons (RV.tm rfl) RVs.nil) ?_
    exact ⟨_, rfl, rfl, hM⟩
  · rw [if_neg (ne_true hc)] at hF
    refine KC.skip ?_
    refine KQ.thn hQ4 ?_
    clear hQ4 Q4
    refine KC.seqH fun Q7 hQ7 => ?_
    refine KC.region ?_
    refine RL.val (O.assign rfl) rfl ?_
    refine RL.nil ?_
    refine KQ.thn hQ7 ?_
    clear hQ7 Q7
    refine KC.ret ?_
    have hE := Option.some.inj hF
    clear hF
    subst hE
    refine KQ.rets Try.results32 (RVs.cons (RV.tm rfl) RVs.nil) ?_
    exact ⟨_, rfl, rfl, hM⟩
set_option maxRecDepth 100000 in
set_option maxHeartbeats 40000000 in
theorem c_slices_Concat_byte_byte (w : World) (A2 : Option Addr) (c3 : Nat) (slices1 : List (List Int)) (hr4 : Rds [] w A2 c3 (eI .u8) 1 slices1) (r : (List Int)) (hF : F_slices_Concat_byte_byte slices1 = some r) :
    CallsR Try.prog 34 [.slice A2 (slices1).length c3] w (fun v w' => ∃ (A0 : Option Addr) (c0 : Nat), v = .slice A0 (r).length c0 ∧ Mem w [] w' [.row A0 c0 5 1 r.length (r.flatMap (eI .u8))]) := by
  refine calls_KC Try.func34 rfl Try.ntmps34 rfl ?_
  have hM := Mem.init w
  unfold F_slices_Concat_byte_byte at hF
  refine KC.seqH fun Q5 hQ5 => ?_
  refine KC.region ?_
  refine RL.val (O.assign rfl) rfl ?_
  refine RL.nil ?_
  refine KQ.thn hQ5 ?_
  clear hQ5 Q5
  refine KC.seqH fun Q6 hQ6 => ?_
  refine KC.region ?_
  refine RL.val (O.assign rfl) rfl ?_
  refine RL.nil ?_
  refine KQ.thn hQ6 ?_
  clear hQ6 Q6
  refine KC.seqH fun Q7 hQ7 => ?_
  refine KC.seqH fun Q8 hQ8 => ?_
  refine KC.region ?_
  refine RL.val (O.move rfl) rfl ?_
  refine RL.val (O.len sl91 rfl) rfl ?_
  refine RL.val (O.move rfl) rfl ?_
  refine RL.nil ?_
  refine KQ.thn hQ8 ?_
  clear hQ8 Q8
  refine KC.block ?_
  refine KC.loop (fun k45 a w43 => ∃ (size41 : Int) (t42 : Int), Kn 36 [(0, .slice A2 (slices1).length c3), (3, .int .i64 size41), (9, .slice A2 (slices1).length c3), (10, .int .i64 (slices1.length : Int)), (11, .int .i64 t42)] a ∧ Mem w [] w43 [] ∧ F_slices_Concat_byte_byte_L1 slices1 k45 size41 t42 = some r) ?_ ?_
  · exact fun a ha => ⟨fuel0, 0, 0, ha.less (less_cons rfl (less_cons rfl (less_cons rfl (less_cons rfl (less_cons rfl less_nil))))), hM, hF⟩
  · rintro k45 a w43 ⟨size41, t42, ha, hM, hF⟩
    refine KC.app ha ?_
    clear ha
    cases k45 with
    | zero => exact (none_some hF).elim
    | succ k45 =>
    have hF : F_slices_Concat_byte_byte_l1 (F_slices_Concat_byte_byte_L1 slices1 k45) slices1 size41 t42 = some r := hF
    unfold F_slices_Concat_byte_byte_l1 at hF
    refine KC.seqH fun Q46 hQ46 => ?_
    refine KC.region ?_
    refine RL.val (O.lss rfl rfl) rfl ?_
    refine RL.nil ?_
    refine KQ.thn hQ46 ?_
    clear hQ46 Q46
    refine KC.seqH fun Q47 hQ47 => ?_
    refine KC.cond rfl (fun hc => ?_) (fun hc => ?_)
    · rw [if_pos hc] at hF
      refine KC.skip ?_
      refine KQ.thn hQ47 ?_
      clear hQ47 Q47
      refine KC.cut (fun a w60 => ∃ (size59 : Int), Kn 36 [(0, .slice A2 (slices1).length c3), (3, .int .i64 size59), (9, .slice A2 (slices1).length c3), (10, .int .i64 (slices1.length : Int)), (11, .int .i64 t42)] a ∧ Mem w [] w60 [] ∧ F_slices_Concat_byte_byte_j1 t42 (F_slices_Concat_byte_byte_L1 slices1 k45) size59 = some r) ?_ ?_
      · refine KC.block ?_
        refine KC.seqH fun Q48 hQ48 => ?_
        refine KC.region ?_
        refine obindE hF fun xv51 hx50 hF => ?_
        obtain ⟨A52, c53, hA49, hr54, ho55, hO56⟩ := Rds.at hr4 hx50
        have hA49 := hA49.chg hM.chg hO56
        refine RL.val (O.idxA sl91 (hA49) rfl rfl) rfl ?_
        refine RL.val (O.load sc22 rfl (hA49).cells.at0) rfl ?_
        refine RL.val (O.assign rfl) rfl ?_
        refine RL.nil ?_
        refine KQ.thn hQ48 ?_
        clear hQ48 Q48
        refine KC.seqH fun Q57 hQ57 => ?_
        refine KC.region ?_
        refine RL.val (O.move rfl) rfl ?_
        refine RL.val (O.move rfl) rfl ?_
        refine RL.val (O.len sl22 rfl) rfl ?_
        refine RL.val (O.add rfl rfl) rfl ?_
        refine RL.val (O.assign rfl) rfl ?_
        refine RL.nil ?_
        refine KQ.thn hQ57 ?_
        clear hQ57 Q57
        refine KC.seqH fun Q58 hQ58 => ?_
        refine KC.region ?_
        refine RL.val (O.move rfl) rfl ?_
        refine RL.val (O.lss rfl rfl) rfl ?_
        refine RL.nil ?_
        refine KQ.thn hQ58 ?_
        clear hQ58 Q58
        refine KC.cond rfl (fun hc => ?_) (fun hc => ?_)
        · rw [if_pos hc] at hF
          refine KC.region ?_
          exact (none_some hF).elim
        · rw [if_neg (ne_true hc)] at hF
          refine KC.skip ?_
          refine KQ.blk_n ?_
          refine KQ.then_k ?_
          exact fun a ha => ⟨(IntKind.i64.wrap (size41 + (xv51.length : Int))), ha.less (less_cons rfl (less_cons rfl (less_cons rfl (less_cons rfl (less_cons rfl less_nil))))), hM, hF⟩
      · rintro a w60 ⟨size59, ha, hM, hF⟩
        refine KC.app ha ?_
        clear ha
        unfold F_slices_Concat_byte_byte_j1 at hF
        refine KC.region ?_
        refine RL.val (O.add rfl rfl) rfl ?_
        refine RL.val (O.move rfl) rfl ?_
        refine RL.nil ?_
        refine KQ.then_k ?_
        exact fun a ha => ⟨k45, Nat.lt_succ_self k45, size59, (IntKind.i64.wrap (t42 + 1)), ha.less (less_cons rfl (less_cons rfl (less_cons rfl (less_cons rfl (less_cons rfl less_nil))))), hM, hF⟩
    · rw [if_neg (ne_true hc)] at hF
      refine KC.exit ?_
      refine KQ.thx hQ47 ?_
      clear hQ47 Q47
      refine KQ.then_x ?_
      refine KQ.blk_x ?_
      refine KQ.thn hQ7 ?_
      clear hQ7 Q7
      refine KC.seqH fun Q61 hQ61 => ?_
      refine KC.region ?_
      refine RL.val (O.move rfl) rfl ?_
      refine RL.icall Try.func51 bd51 rfl rfl rfl Try.ntmps51 rfl ?_
      refine KC.seqH fun Q62 hQ62 => ?_
      refine KC.region ?_
      refine RL.val (O.assign rfl) rfl ?_
      refine RL.nil ?_
      refine KQ.thn hQ62 ?_
      clear hQ62 Q62
      refine KC.cut (fun a w64 => Kn 27 [(0, .slice none 0 0), (1, .int .i64 size41)] a ∧ Mem w [] w64 [] ∧ F_slices_Concat_byte_byte_j2 slices1 size41 = some r) ?_ ?_
      · refine KC.seqH fun Q63 hQ63 => ?_
        refine KC.region ?_
        refine RL.val (O.move rfl) rfl ?_
        refine RL.val (O.lss rfl rfl) rfl ?_
        refine RL.nil ?_
        refine KQ.thn hQ63 ?_
        clear hQ63 Q63
        refine KC.cond rfl (fun hc => ?_) (fun hc => ?_)
        · rw [if_pos hc] at hF
          refine KC.region ?_
          exact (none_some hF).elim
        · rw [if_neg (ne_true hc)] at hF
          refine KC.skip ?_
          refine KQ.then_k ?_
          exact fun a ha => ⟨ha.less (less_cons rfl (less_cons rfl less_nil)), hM, hF⟩
      · rintro a w64 ⟨ha, hM, hF⟩
        refine KC.app ha ?_
        clear ha
        unfold F_slices_Concat_byte_byte_j2 at hF
        refine KC.cut (fun a w79 => ∃ (A76 : Option Addr) (c77 : Nat) (slices78 : List Int), Kn 27 [(0, .slice A76 (slices78).length c77)] a ∧ Mem w [] w79 [.row A76 c77 5 1 (slices78).length ((slices78).flatMap (eI .u8))] ∧ F_slices_Concat_byte_byte_j3 slices1 slices78 = some r) ?_ ?_
        · refine KC.seqH fun Q65 hQ65 => ?_
          refine KC.region ?_
          refine RL.val (O.move rfl) rfl ?_
          refine RL.val (O.move rfl) rfl ?_
          refine RL.val (O.capn sl22 rfl) rfl ?_
          refine RL.val (O.move rfl) rfl ?_
          refine RL.val (O.lenn sl22 rfl) rfl ?_
          refine RL.val (O.sub rfl rfl) rfl ?_
          refine RL.val (O.sub rfl rfl) rfl ?_
          refine RL.val (O.assign rfl) rfl ?_
          refine RL.nil ?_
          refine KQ.thn hQ65 ?_
          clear hQ65 Q65
          refine KC.seqH fun Q66 hQ66 => ?_
          refine KC.region ?_
          refine RL.val (O.move rfl) rfl ?_
          refine RL.val (O.gtr rfl rfl) rfl ?_
          refine RL.nil ?_
          refine KQ.thn hQ66 ?_
          clear hQ66 Q66
          refine KC.cond rfl (fun hc => ?_) (fun hc => ?_)
          · rw [if_pos hc] at hF
            refine KC.region ?_
            refine RL.val (O.move rfl) rfl ?_
            refine RL.val (O.move rfl) rfl ?_
            refine RL.val (O.capn sl22 rfl) rfl ?_
            refine RL.val (O.cutn sl22 rfl rfl) rfl ?_
            refine RL.val (O.move rfl) rfl ?_
            refine cut_someE hF fun hq70 hF => ?_
            refine RL.eff (E.appz0 (enc := (eI .u8)) (zr := 0) hM sl22 ze5 rfl rfl (fun _ => rfl) rfl Try.underlying3 rfl rfl (of_decide_eq_true hq70)) rfl fun v w69 hv => ?_
            clear hM
            obtain ⟨A67, c68, rfl, hM, hf⟩ := hv
            refine RL.val (O.move rfl) rfl ?_
            refine RL.val (O.lenn sl22 rfl) rfl ?_
            refine obindE hF fun cut72 hy73 hF => ?_
            have hrd := (hM.rd (i := 0) rfl)
            replace hM := hM.short (enc := (eI .u8)) (fun _ => rfl) (i := 0) rfl hy73
            refine RL.val (O.short (A := A67) (c := c68) (xs := (List.replicate (Int.toNat (IntKind.i64.wrap (size41 - (IntKind.i64.wrap (0 - 0))))) (0 : Int))) (ys := cut72) sl22 hrd.cap hy73 rfl rfl) rfl ?_
            refine RL.val (O.assign rfl) rfl ?_
            refine RL.nil ?_
            refine KQ.then_k ?_
            exact fun a ha => ⟨A67, c68, cut72, ha.less (less_cons rfl less_nil), hM, hF⟩
          · rw [if_neg (ne_true hc)] at hF
            refine KC.skip ?_
            refine KQ.then_k ?_
            replace hM := hM.nilrow 5 1
            exact fun a ha => ⟨none, 0, ([]), ha.less (less_cons rfl less_nil), hM, hF⟩
        · rintro a w79 ⟨A76, c77, slices78, ha, hM, hF⟩
          refine KC.app ha ?_
          clear ha
          unfold F_slices_Concat_byte_byte_j3 at hF
          refine KC.seqH fun Q80 hQ80 => ?_
          refine KC.region ?_
          refine RL.val (O.move rfl) rfl ?_
          refine RL.val (O.assign rfl) rfl ?_
          refine RL.nil ?_
          refine KQ.thn hQ80 ?_
          clear hQ80 Q80
          refine KC.ret ?_
          refine KQ.rets Try.results51 (RVs.cons (RV.tm rfl) RVs.nil) ?_
          refine ⟨.slice A76 (slices78).length c77, rfl, ?_⟩
          refine RL.val (O.assign rfl) rfl ?_
          refine RL.nil ?_
          refine KQ.thn hQ61 ?_
          clear hQ61 Q61
          refine KC.seqH fun Q81 hQ81 => ?_
          refine KC.seqH fun Q82 hQ82 => ?_
          refine KC.region ?_
          refine RL.val (O.move rfl) rfl ?_
          refine RL.val (O.len sl91 rfl) rfl ?_
          refine RL.val (O.move rfl) rfl ?_
          refine RL.nil ?_
          refine KQ.thn hQ82 ?_
          clear hQ82 Q82
          refine KC.block ?_
          refine KC.loop (fun k129 a w127 => ∃ (A123 : Option Addr) (c124 : Nat) (newslice125 : List Int) (t126 : Int), Kn 36 [(6, .slice A123 (newslice125).length c124), (25, .slice A2 (slices1).length c3), (26, .int .i64 (slices1.length : Int)), (27, .int .i64 t126)] a ∧ Mem w [] w127 [.row A123 c124 5 1 (newslice125).length ((newslice125).flatMap (eI .u8))] ∧ F_slices_Concat_byte_byte_L2 slices1 k129 newslice125 t126 = some r) ?_ ?_
          · exact fun a ha => ⟨fuel0, A76, c77, slices78, 0, ha.less (less_cons rfl (less_cons rfl (less_cons rfl (less_cons rfl less_nil)))), hM, hF⟩
          · rintro k129 a w127 ⟨A123, c124, newslice125, t126, ha, hM, hF⟩
            refine KC.app ha ?_
            clear ha
            cases k129 with
            | zero => exact (none_some hF).elim
            | succ k129 =>
            have hF : F_slices_Concat_byte_byte_l2 (F_slices_Concat_byte_byte_L2 slices1 k129) slices1 newslice125 t126 = some r := hF
            unfold F_slices_Concat_byte_byte_l2 at hF
            refine KC.seqH fun Q130 hQ130 => ?_
            refine KC.region ?_
            refine RL.val (O.lss rfl rfl) rfl ?_
            refine RL.nil ?_
            refine KQ.thn hQ130 ?_
            clear hQ130 Q130
            refine KC.seqH fun Q131 hQ131 => ?_
            refine KC.cond rfl (fun hc => ?_) (fun hc => ?_)
            · rw [if_pos hc] at hF
              refine KC.skip ?_
              refine KQ.thn hQ131 ?_
              clear hQ131 Q131
              refine KC.seqH fun Q132 hQ132 => ?_
              refine KC.block ?_
              refine KC.seqH fun Q133 hQ133 => ?_
              refine KC.region ?_
              refine obindE hF fun xv136 hx135 hF => ?_
              obtain ⟨A137, c138, hA134, hr139, ho140, hO141⟩ := Rds.at hr4 hx135
              have hA134 := hA134.chg hM.chg hO141
              refine RL.val (O.idxA sl91 (hA134) rfl rfl) rfl ?_
              refine RL.val (O.load sc22 rfl (hA134).cells.at0) rfl ?_
              refine RL.val (O.assign rfl) rfl ?_
              refine RL.nil ?_
              refine KQ.thn hQ133 ?_
              clear hQ133 Q133
              refine KC.region ?_
              refine RL.val (O.move rfl) rfl ?_
              refine RL.val (O.move rfl) rfl ?_
              refine cut_someE hF fun hq145 hF => ?_
              refine RL.eff (E.app (enc := (eI .u8)) (xs := newslice125) (ys := xv136) (j := 0) hM rfl sl22 ze5 rfl rfl rfl rfl rfl (hM.inp hr139 Off.nil) (fun _ => One.all rfl) (of_decide_eq_true hq145)) rfl fun v w144 hv => ?_
              clear hM
              obtain ⟨A142, c143, rfl, hM, hf⟩ := hv
              refine RL.val (O.assign rfl) rfl ?_
              refine RL.nil ?_
              refine KQ.blk_n ?_
              refine KQ.thn hQ132 ?_
              clear hQ132 Q132
              refine KC.region ?_
              refine RL.val (O.add rfl rfl) rfl ?_
              refine RL.val (O.move rfl) rfl ?_
              refine RL.nil ?_
              refine KQ.then_k ?_
              exact fun a ha => ⟨k129, Nat.lt_succ_self k129, A142, c143, (newslice125 ++ xv136), (IntKind.i64.wrap (t126 + 1)), ha.less (less_cons rfl (less_cons rfl (less_cons rfl (less_cons rfl less_nil)))), hM, hF⟩
            · rw [if_neg (ne_true hc)] at hF
              refine KC.exit ?_
              refine KQ.thx hQ131 ?_
              clear hQ131 Q131
              refine KQ.then_x ?_
              refine KQ.blk_x ?_
              refine KQ.thn hQ81 ?_
              clear hQ81 Q81
              refine KC.seqH fun Q147 hQ147 => ?_
              refine KC.region ?_
              refine RL.val (O.move rfl) rfl ?_
              refine RL.val (O.assign rfl) rfl ?_
              refine RL.nil ?_
              refine KQ.thn hQ147 ?_
              clear hQ147 Q147
              refine KC.ret ?_
              have hE := Option.some.inj hF
              clear hF
              subst hE
              refine KQ.rets Try.results34 (RVs.cons (RV.tm rfl) RVs.nil) ?_
              exact ⟨_, rfl, A123, c124, rfl, hM⟩
set_option maxRecDepth 100000 in
set_option maxHeartbeats 40000000 in
theorem c_slices_Clone_byte_byte (w : World) (A2 : Option Addr) (c3 : Nat) (s1 : List Int) (hr4 : Rd w A2 c3 1 s1.length (s1.flatMap (eI .u8))) (r : (List Int)) (hF : F_slices_Clone_byte_byte s1 = some r) :
    CallsR Try.prog 40 [.slice A2 (s1).length c3] w (fun v w' => ∃ (A0 : Option Addr) (c0 : Nat), v = .slice A0 (r).length c0 ∧ Mem w [] w' [.row A0 c0 5 1 r.length (r.flatMap (eI .u8))]) := by
  refine calls_KC Try.func40 rfl Try.ntmps40 rfl ?_
  have hM := Mem.init w
  unfold F_slices_Clone_byte_byte at hF
  refine KC.seqH fun Q5 hQ5 => ?_
  refine KC.region ?_
  refine RL.val (O.assign rfl) rfl ?_
  refine RL.nil ?_
  refine KQ.thn hQ5 ?_
  clear hQ5 Q5
  refine KC.seqH fun Q6 hQ6 => ?_
  refine KC.seqH fun Q7 hQ7 => ?_
  refine KC.region ?_
  refine RL.val (O.move rfl) rfl ?_
  refine RL.val (O.sleqn sl22 rfl rfl) rfl ?_
  refine RL.nil ?_
  refine KQ.thn hQ7 ?_
  clear hQ7 Q7
  refine KC.cond rfl (fun hc => ?_) (fun hc => ?_)
  · have hz8 := Rd.none_nil (hM.inp hr4 Off.nil) (hc)
    have hF : (some ([])) = some r := by (rw [hz8] at hF; simpa [lim] using hF)
    refine KC.seqH fun Q9 hQ9 => ?_
    refine KC.region ?_
    refine RL.val (O.assign rfl) rfl ?_
    refine RL.nil ?_
    refine KQ.thn hQ9 ?_
    clear hQ9 Q9
    refine KC.ret ?_
    refine KQ.thr hQ6 ?_
    clear hQ6 Q6
    have hE := Option.some.inj hF
    clear hF
    subst hE
    replace hM := hM.nilrow 5 1
    refine KQ.rets Try.results40 (RVs.cons (RV.tm rfl) RVs.nil) ?_
    exact ⟨_, rfl, none, 0, rfl, hM⟩
  · refine KC.skip ?_
    refine KQ.thn hQ6 ?_
    clear hQ6 Q6
    refine KC.seqH fun Q10 hQ10 => ?_
    refine KC.region ?_
    refine RL.eff (E.bsl0 hM sl22) rfl fun v w11 hv => ?_
    clear hM
    obtain ⟨A12, rfl, hM, hf⟩ := hv
    refine RL.val (O.move rfl) rfl ?_
    refine cut_someE hF fun hq17 hF => ?_
    refine RL.eff (E.app (enc := (eI .u8)) (xs := ([] : List Int)) (ys := s1) (j := 0) hM rfl sl22 ze5 rfl rfl rfl rfl rfl (hM.inp hr4 Off.nil) (fun _ => One.all rfl) (of_decide_eq_true hq17)) rfl fun v w16 hv => ?_
    clear hM
    obtain ⟨A14, c15, rfl, hM, hf⟩ := hv
    refine RL.val (O.assign rfl) rfl ?_
    refine RL.nil ?_
    refine KQ.thn hQ10 ?_
    clear hQ10 Q10
    refine KC.ret ?_
    have hE := Option.some.inj hF
    clear hF
    subst hE
    refine KQ.rets Try.results40 (RVs.cons (RV.tm rfl) RVs.nil) ?_
    exact ⟨_, rfl, A14, c15, rfl, hM⟩
set_option maxRecDepth 100000 in
set_option maxHeartbeats 40000000 in
theorem c_bits_Writer_Bytes (w : World) (g2 : Nat) (tg7 : TypeId) (wv1 : T_bits_Writer) (A4 : Option Addr) (c5 : Nat) (hL8 : Lent w [.box g2 tg7 [.slice A4 (wv1.f_b).length c5], .row A4 c5 5 1 (wv1.f_b).length ((wv1.f_b).flatMap (eI .u8))]) (r : (List Int) × T_bits_Writer) (hF : F_bits_Writer_Bytes wv1 = some r) :
    CallsR Try.prog 37 [.pointer (some ⟨g2, 0, none⟩)] w (fun v w' => ∃ (A0 : Option Addr) (c0 : Nat) (A1 : Option Addr) (c1 : Nat), v = .slice A1 (r.1).length c1 ∧ Mem w [some g2, rblk A4 c5] w' [.box g2 tg7 [.slice A0 (r.2.f_b).length c0], .row A0 c0 5 1 r.2.f_b.length (r.2.f_b.flatMap (eI .u8)), .row A1 c1 5 1 r.1.length (r.1.flatMap (eI .u8))]) := by
  refine calls_KC Try.func37 rfl Try.ntmps37 rfl ?_
  have hM : Mem w [some g2, rblk A4 c5] w [.box g2 tg7 [.slice A4 (wv1.f_b).length c5], .row A4 c5 5 1 (wv1.f_b).length ((wv1.f_b).flatMap (eI .u8))] := Mem.lendN hL8
  unfold F_bits_Writer_Bytes at hF
  refine KC.seqH fun Q9 hQ9 => ?_
  refine KC.region ?_
  refine RL.val (O.assign rfl) rfl ?_
  refine RL.nil ?_
  refine KQ.thn hQ9 ?_
  clear hQ9 Q9
  refine KC.seqH fun Q10 hQ10 => ?_
  refine KC.seqH fun Q11 hQ11 => ?_
  refine KC.region ?_
  refine RL.val (O.move rfl) rfl ?_
  refine RL.val (O.peqn Try.underlying90 rfl rfl) rfl ?_
  refine RL.nil ?_
  refine KQ.thn hQ11 ?_
  clear hQ11 Q11
  refine KC.condF rfl ?_
  refine KC.skip ?_
  refine KQ.thn hQ10 ?_
  clear hQ10 Q10
  refine KC.seqH fun Q12 hQ12 => ?_
  refine KC.region ?_
  refine RL.val (O.move rfl) rfl ?_
  refine RL.val (O.nilp rfl) rfl ?_
  refine RL.val (O.fldA fl66_0 (by decide) rfl) rfl ?_
  refine RL.val (O.load sc22 rfl (Cs.adds [0] ((hM.bx (i := 0) rfl)) rfl)) rfl ?_
  refine obindE hF fun y13 hx14 hF => ?_
  refine RL.call Try.func40 bd40 rfl rfl (c_slices_Clone_byte_byte _ _ _ wv1.f_b (hM.rd (i := 1) rfl) _ hx14) fun v w15 hv => ?_
  obtain ⟨A17, c18, rfl, hN16⟩ := hv
  replace hM := hM.call hN16
  refine RL.val (O.assign rfl) rfl ?_
  refine RL.nil ?_
  refine KQ.thn hQ12 ?_
  clear hQ12 Q12
  refine KC.ret ?_
  have hE := Option.some.inj hF
  clear hF
  subst hE
  refine KQ.rets Try.results37 (RVs.cons (RV.tm rfl) RVs.nil) ?_
  exact ⟨_, rfl, A4, c5, A17, c18, rfl, hM⟩
set_option maxRecDepth 100000 in
set_option maxHeartbeats 40000000 in
theorem c_sum_fold (w : World) (nv1 : Int) (r : Int) (hF : F_sum_fold nv1 = some r) :
    CallsR Try.prog 58 [.int .u64 nv1] w (fun v w' => v = .int .u16 r ∧ Mem w [] w' []) := by
  refine calls_KC Try.func58 rfl Try.ntmps58 rfl ?_
  have hM := Mem.init w
  unfold F_sum_fold at hF
  refine KC.seqH fun Q2 hQ2 => ?_
  refine KC.region ?_
  refine RL.val (O.assign rfl) rfl ?_
  refine RL.nil ?_
  refine KQ.thn hQ2 ?_
  clear hQ2 Q2
  refine KC.scope ?_
  refine KC.seqH fun Q3 hQ3 => ?_
  refine KC.label ?_
  refine KQ.thn hQ3 ?_
  clear hQ3 Q3
  refine KC.seqH fun Q4 hQ4 => ?_
  refine KC.block ?_
  refine KC.loop (fun k13 a w11 => ∃ (nv10 : Int), Kn 12 [(0, .int .u64 nv10)] a ∧ Mem w [] w11 [] ∧ F_sum_fold_L1 k13 nv10 = some r) ?_ ?_
  · exact fun a ha => ⟨fuel0, nv1, ha.less (less_cons rfl less_nil), hM, hF⟩
  · rintro k13 a w11 ⟨nv10, ha, hM, hF⟩
    refine KC.app ha ?_
    clear ha
    cases k13 with
    | zero => exact (none_some hF).elim
    | succ k13 =>
    have hF : F_sum_fold_l1 (F_sum_fold_L1 k13) nv10 = some r := hF
    unfold F_sum_fold_l1 at hF
    refine KC.block ?_
    refine KC.seqH fun Q14 hQ14 => ?_
    refine KC.seqH fun Q15 hQ15 => ?_
    refine KC.region ?_
    refine RL.val (O.move rfl) rfl ?_
    refine RL.val (O.leq rfl rfl) rfl ?_
    refine RL.nil ?_
    refine KQ.thn hQ15 ?_
    clear hQ15 Q15
    refine KC.cond rfl (fun hc => ?_) (fun hc => ?_)
    · rw [if_pos hc] at hF
      refine KC.exit ?_
      refine KQ.thx hQ14 ?_
      clear hQ14 Q14
      refine KQ.blk_y rfl ?_
      refine KQ.then_x ?_
      refine KQ.blk_x ?_
      refine KQ.thn hQ4 ?_
      clear hQ4 Q4
      refine KC.seqH fun Q16 hQ16 => ?_
      refine KC.region ?_
      refine RL.val (O.move rfl) rfl ?_
      refine RL.val (O.conv un70 Try.underlying36 rfl) rfl ?_
      refine RL.val (O.assign rfl) rfl ?_
      refine RL.nil ?_
      refine KQ.thn hQ16 ?_
      clear hQ16 Q16
      refine KC.ret ?_
      refine KQ.sc_r ?_
      have hE := Option.some.inj hF
      clear hF
      subst hE
      refine KQ.rets Try.results58 (RVs.cons (RV.tm rfl) RVs.nil) ?_
      exact ⟨_, rfl, rfl, hM⟩
    · rw [if_neg (ne_true hc)] at hF
      refine KC.skip ?_
      refine KQ.thn hQ14 ?_
      clear hQ14 Q14
      refine KC.region ?_
      refine RL.val (O.move rfl) rfl ?_
      refine RL.val (O.and rfl rfl) rfl ?_
      refine RL.val (O.move rfl) rfl ?_
      refine RL.val (O.shr rfl rfl (by decide)) rfl ?_
      refine RL.val (O.add rfl rfl) rfl ?_
      refine RL.val (O.assign rfl) rfl ?_
      refine RL.nil ?_
      refine KQ.blk_n ?_
      refine KQ.then_k ?_
      exact fun a ha => ⟨k13, Nat.lt_succ_self k13, (IntKind.u64.wrap ((bits .and .u64 nv10 65535) + (Ox.shr .u64 nv10 16))), ha.less (less_cons rfl less_nil), hM, hF⟩
end Go.Proofs.Ytjfdfjmnajjjaaa
