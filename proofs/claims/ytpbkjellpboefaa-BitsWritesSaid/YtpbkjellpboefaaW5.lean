/- Printed by a program of this claim: each call returns what the plain function of its name gives. -/
import Derived.Test.YtpbkjellpboefaaW4
set_option linter.unusedVariables false
namespace Go.Proofs.Ytpbkjellpboefaa
open Go Go.Ox Go.RowKit
set_option maxRecDepth 100000 in
set_option maxHeartbeats 40000000 in
theorem c_bits_Reader_Take (w : World) (g2 : Nat) (rv1 : T_bits_Reader) (A4 : Option Addr) (c5 : Nat) (hL8 : Lent w [.box g2 64 [.slice A4 (rv1.f_b).length c5, .int .i64 rv1.f_at], .row A4 c5 5 1 (rv1.f_b).length ((rv1.f_b).flatMap (eI .u8))]) (nv7 : Int) (r : (List Int) × Int × T_bits_Reader) (hF : F_bits_Reader_Take rv1 nv7 = some r) :
    CallsR Try.prog 28 [.pointer (some ⟨g2, 0, none⟩), .int .i64 nv7] w (fun v w' => ∃ (A0 : Option Addr) (c0 : Nat) (A1 : Option Addr) (c1 : Nat), v = .tuple #[.slice A1 (r.1).length c1, .int .i64 r.2.1] ∧ Mem w [some g2, rblk A4 c5] w' [.box g2 64 [.slice A0 (r.2.2.f_b).length c0, .int .i64 r.2.2.f_at], .row A0 c0 5 1 r.2.2.f_b.length (r.2.2.f_b.flatMap (eI .u8)), .row A1 c1 5 1 r.1.length (r.1.flatMap (eI .u8))]) := by
  refine calls_KC Try.func28 rfl Try.ntmps28 rfl ?_
  have hM : Mem w [some g2, rblk A4 c5] w [.box g2 64 [.slice A4 (rv1.f_b).length c5, .int .i64 rv1.f_at], .row A4 c5 5 1 (rv1.f_b).length ((rv1.f_b).flatMap (eI .u8))] := Mem.lendN hL8
  unfold F_bits_Reader_Take at hF
  refine KC.seq ?_
  refine KC.region ?_
  refine RL.val (O.assign rfl) rfl ?_
  refine RL.val (O.assign rfl) rfl ?_
  refine RL.nil ?_
  refine KQ.then_n ?_
  refine KC.seq ?_
  refine KC.block ?_
  refine KC.seq ?_
  refine KC.region ?_
  refine RL.val (O.move rfl) rfl ?_
  refine RL.val (O.peqn Try.underlying49 rfl rfl) rfl ?_
  refine RL.val (O.assign rfl) rfl ?_
  refine RL.nil ?_
  refine KQ.then_n ?_
  refine KC.condF rfl ?_
  refine KC.seq ?_
  refine KC.region ?_
  refine RL.val (O.move rfl) rfl ?_
  refine RL.val (O.lss rfl rfl) rfl ?_
  refine RL.val (O.assign rfl) rfl ?_
  refine RL.nil ?_
  refine KQ.then_n ?_
  refine KC.cond rfl (fun hc => ?_) (fun hc => ?_)
  · rw [if_pos hc] at hF
    refine KC.seq ?_
    refine KC.region ?_
    refine RL.val (O.assign rfl) rfl ?_
    refine RL.val (O.assign rfl) rfl ?_
    refine RL.nil ?_
    refine KQ.then_n ?_
    refine KC.ret ?_
    refine KQ.blk_r ?_
    refine KQ.then_r ?_
    obtain rfl := Option.some.inj hF
    have hM := hM.nilrow 5 1
    refine KQ.rets Try.results28 (RVs.cons (RV.tm rfl) (RVs.cons (RV.tm rfl) RVs.nil)) ?_
    exact ⟨_, rfl, A4, c5, none, 0, rfl, hM⟩
  · rw [if_neg (ne_true hc)] at hF
    refine KC.seq ?_
    refine KC.region ?_
    refine RL.val (O.move rfl) rfl ?_
    refine RL.val (O.move rfl) rfl ?_
    obtain ⟨y9, hx10, hF⟩ := obind hF
    refine RL.call Try.func27 bd27 rfl rfl (c_bits_Reader_Left _ _ rv1 _ _ (hM.lent [0, 1] rfl (by decide)) _ hx10) fun v w11 hv => ?_
    obtain ⟨A13, c14, rfl, hN12⟩ := hv
    have hM := hM.callL [0, 1] [] rfl rfl (by decide) rfl hN12
    refine RL.val (O.gtr rfl rfl) rfl ?_
    refine RL.val (O.assign rfl) rfl ?_
    refine RL.nil ?_
    refine KQ.then_n ?_
    refine KC.cond rfl (fun hc => ?_) (fun hc => ?_)
    · rw [if_pos hc] at hF
      refine KC.seq ?_
      refine KC.region ?_
      refine RL.val (O.assign rfl) rfl ?_
      refine RL.val (O.assign rfl) rfl ?_
      refine RL.nil ?_
      refine KQ.then_n ?_
      refine KC.ret ?_
      refine KQ.blk_r ?_
      refine KQ.then_r ?_
      obtain rfl := Option.some.inj hF
      have hM := hM.nilrow 5 1
      refine KQ.rets Try.results28 (RVs.cons (RV.tm rfl) (RVs.cons (RV.tm rfl) RVs.nil)) ?_
      exact ⟨_, rfl, A13, c14, none, 0, rfl, hM⟩
    · rw [if_neg (ne_true hc)] at hF
      refine KC.skip ?_
      refine KQ.blk_n ?_
      refine KQ.then_n ?_
      refine KC.seq ?_
      have hM := hM.drewN 1
      refine KC.draw [] [] (.ofList [0, 1, 2, 3, 4, 5, 6, 7, 8, 9, 10, 11, 12, 13, 14, 15, 16, 17, 18, 19, 20, 21]) moP (by kernel_rfl) ?_
      refine RD.q rfl rfl rfl (fun w' hf => O.move rfl) ?_
      refine RD.q rfl rfl rfl (fun w' hf => O.nilp rfl) ?_
      refine RD.q rfl rfl rfl (fun w' hf => O.fldA fl64_0 (by decide) rfl) ?_
      refine RD.q rfl rfl rfl (fun w' hf => O.load sc22 rfl (Cs.adds [0] ((hM.bx (i := 0) rfl).fut hf) rfl)) ?_
      refine RD.q rfl rfl rfl (fun w' hf => O.move rfl) ?_
      refine RD.q rfl rfl rfl (fun w' hf => O.nilp rfl) ?_
      refine RD.q rfl rfl rfl (fun w' hf => O.fldA fl64_1 (by decide) rfl) ?_
      refine RD.q rfl rfl rfl (fun w' hf => O.load sc3 rfl (Cs.adds [1] ((hM.bx (i := 0) rfl).fut hf) rfl)) ?_
      refine RD.q rfl rfl rfl (fun w' hf => O.move rfl) ?_
      refine RD.q rfl rfl rfl (fun w' hf => O.nilp rfl) ?_
      refine RD.q rfl rfl rfl (fun w' hf => O.fldA fl64_1 (by decide) rfl) ?_
      refine RD.q rfl rfl rfl (fun w' hf => O.load sc3 rfl (Cs.adds [1] ((hM.bx (i := 0) rfl).fut hf) rfl)) ?_
      refine RD.q rfl rfl rfl (fun w' hf => O.move rfl) ?_
      refine RD.q rfl rfl rfl (fun w' hf => O.add rfl rfl) ?_
      refine RD.q rfl rfl rfl (fun w' hf => O.move rfl) ?_
      refine RD.q rfl rfl rfl (fun w' hf => O.nilp rfl) ?_
      refine RD.q rfl rfl rfl (fun w' hf => O.fldA fl64_1 (by decide) rfl) ?_
      refine RD.q rfl rfl rfl (fun w' hf => O.load sc3 rfl (Cs.adds [1] ((hM.bx (i := 0) rfl).fut hf) rfl)) ?_
      refine RD.q rfl rfl rfl (fun w' hf => O.move rfl) ?_
      refine RD.q rfl rfl rfl (fun w' hf => O.add rfl rfl) ?_
      obtain ⟨cut16, hy17, hF⟩ := obind hF
      obtain ⟨A18, c19, eA21, ec22⟩ := cutN A13 (Int.toNat (IntKind.i64.wrap (y9.2.f_at + nv7))) (Int.toNat y9.2.f_at) 1
      have hr20 := Rd.cutT (enc := (eI .u8)) (s := 1) (fun _ => rfl) (hM.rd (i := 1) rfl) hy17 (m := (Int.toNat (IntKind.i64.wrap (y9.2.f_at + nv7)))) (Nat.le_refl _) (by have := (hM.rd (i := 1) rfl).cap; have := (gcut_some hy17).2.2.1; omega)
      rw [← eA21, ← ec22] at hr20
      refine RD.q (v := .slice A18 (cut16).length c19) rfl rfl rfl (fun w' hf => (by rw [eA21, ec22]; exact O.cut3T sl22 ((hM.rd (i := 1) rfl).fut hf) hy17 rfl rfl rfl rfl)) ?_
      refine RD.q rfl rfl rfl (fun w' hf => O.assign rfl) ?_
      refine RD.nil ?_
      refine KQ.then_n ?_
      refine KC.seq ?_
      refine KC.region ?_
      refine RL.val (O.move rfl) rfl ?_
      refine RL.val (O.nilp rfl) rfl ?_
      refine RL.val (O.fldA fl64_1 (by decide) rfl) rfl ?_
      refine RL.val (O.load sc3 rfl (Cs.adds [1] ((hM.bx (i := 0) rfl)) rfl)) rfl ?_
      refine RL.val (O.move rfl) rfl ?_
      refine RL.val (O.add rfl rfl) rfl ?_
      refine RL.val (O.nilp rfl) rfl ?_
      refine RL.val (O.fldA fl64_1 (by decide) rfl) rfl ?_
      refine RL.effs (E.stB (j := 0) (off := 1) (vs := [.int .i64 (IntKind.i64.wrap (y9.2.f_at + nv7))]) (cs' := [.slice A13 (y9.2.f_b).length c14, .int .i64 (IntKind.i64.wrap (y9.2.f_at + nv7))]) hM rfl sz3 rfl (adds_eq [1] rfl) rfl rfl (One.all rfl) rfl rfl) fun w23 hM => ?_
      have hr20 := Rd.cutT (enc := (eI .u8)) (s := 1) (fun _ => rfl) (hM.rd (i := 1) rfl) hy17 (m := (Int.toNat (IntKind.i64.wrap (y9.2.f_at + nv7)))) (Nat.le_refl _) (by have := (hM.rd (i := 1) rfl).cap; have := (gcut_some hy17).2.2.1; omega)
      rw [← eA21, ← ec22] at hr20
      refine RL.nil ?_
      refine KQ.then_n ?_
      refine KC.seq ?_
      refine KC.region ?_
      refine RL.val (O.move rfl) rfl ?_
      obtain ⟨y24, hx25, hF⟩ := obind hF
      refine RL.call Try.func35 bd35 rfl rfl (c_slices_Clone_byte_byte _ _ _ cut16 hr20 _ hx25) fun v w26 hv => ?_
      obtain ⟨A28, c29, rfl, hN27⟩ := hv
      have hr20 := hr20.fut hN27.fut
      have hM := hM.call hN27
      refine RL.val (O.assign rfl) rfl ?_
      refine RL.val (O.assign rfl) rfl ?_
      refine RL.nil ?_
      refine KQ.then_n ?_
      refine KC.ret ?_
      obtain rfl := Option.some.inj hF
      refine KQ.rets Try.results28 (RVs.cons (RV.tm rfl) (RVs.cons (RV.tm rfl) RVs.nil)) ?_
      exact ⟨_, rfl, A13, c14, A28, c29, rfl, hM⟩
set_option maxRecDepth 100000 in
set_option maxHeartbeats 40000000 in
theorem c_bits_Reader_At (w : World) (g2 : Nat) (rv1 : T_bits_Reader) (A4 : Option Addr) (c5 : Nat) (hL7 : Lent w [.box g2 64 [.slice A4 (rv1.f_b).length c5, .int .i64 rv1.f_at], .row A4 c5 5 1 (rv1.f_b).length ((rv1.f_b).flatMap (eI .u8))]) (r : Int × T_bits_Reader) (hF : F_bits_Reader_At rv1 = some r) :
    CallsR Try.prog 29 [.pointer (some ⟨g2, 0, none⟩)] w (fun v w' => ∃ (A0 : Option Addr) (c0 : Nat), v = .int .i64 r.1 ∧ Mem w [some g2, rblk A4 c5] w' [.box g2 64 [.slice A0 (r.2.f_b).length c0, .int .i64 r.2.f_at], .row A0 c0 5 1 r.2.f_b.length (r.2.f_b.flatMap (eI .u8))]) := by
  refine calls_KC Try.func29 rfl Try.ntmps29 rfl ?_
  have hM : Mem w [some g2, rblk A4 c5] w [.box g2 64 [.slice A4 (rv1.f_b).length c5, .int .i64 rv1.f_at], .row A4 c5 5 1 (rv1.f_b).length ((rv1.f_b).flatMap (eI .u8))] := Mem.lendN hL7
  unfold F_bits_Reader_At at hF
  refine KC.seq ?_
  refine KC.region ?_
  refine RL.val (O.assign rfl) rfl ?_
  refine RL.nil ?_
  refine KQ.then_n ?_
  refine KC.seq ?_
  refine KC.seq ?_
  refine KC.region ?_
  refine RL.val (O.move rfl) rfl ?_
  refine RL.val (O.peqn Try.underlying49 rfl rfl) rfl ?_
  refine RL.nil ?_
  refine KQ.then_n ?_
  refine KC.condF rfl ?_
  refine KC.skip ?_
  refine KQ.then_n ?_
  refine KC.seq ?_
  refine KC.region ?_
  refine RL.val (O.move rfl) rfl ?_
  refine RL.val (O.nilp rfl) rfl ?_
  refine RL.val (O.fldA fl64_1 (by decide) rfl) rfl ?_
  refine RL.val (O.load sc3 rfl (Cs.adds [1] ((hM.bx (i := 0) rfl)) rfl)) rfl ?_
  refine RL.val (O.assign rfl) rfl ?_
  refine RL.nil ?_
  refine KQ.then_n ?_
  refine KC.ret ?_
  obtain rfl := Option.some.inj hF
  refine KQ.rets Try.results29 (RVs.cons (RV.tm rfl) RVs.nil) ?_
  exact ⟨_, rfl, A4, c5, rfl, hM⟩
set_option maxRecDepth 100000 in
set_option maxHeartbeats 40000000 in
theorem c_law01_BitsReads (w : World) (A2 : Option Addr) (c3 : Nat) (b1 : List Int) (hr4 : Rd w A2 c3 1 b1.length (b1.flatMap (eI .u8))) (A6 : Option Addr) (c7 : Nat) (sizes5 : List Int) (hr8 : Rd w A6 c7 1 sizes5.length (sizes5.flatMap (eI .i64))) (r : Bool) (hF : F_law01_BitsReads b1 sizes5 = some r) :
    CallsR Try.prog 6 [.slice A2 (b1).length c3, .slice A6 (sizes5).length c7] w (fun v w' => v = .bool r ∧ Mem w [] w' []) := by
  refine calls_KC Try.func6 rfl Try.ntmps6 rfl ?_
  have hM := Mem.init w
  unfold F_law01_BitsReads at hF
  refine KC.seq ?_
  refine KC.region ?_
  refine RL.val (O.assign rfl) rfl ?_
  refine RL.nil ?_
  refine KQ.then_n ?_
  refine KC.seq ?_
  refine KC.cut (fun a w10 => ∃ (t9 : Bool), Kn 156 [(0, .slice A2 (b1).length c3), (1, .slice A6 (sizes5).length c7), (27, .bool t9)] a ∧ Mem w [] w10 [] ∧ F_law01_BitsReads_j1 b1 sizes5 t9 = some r) ?_ ?_
  · refine KC.region ?_
    refine RL.val (O.move rfl) rfl ?_
    refine RL.val (O.len sl22 rfl) rfl ?_
    refine RL.val (O.gtr rfl rfl) rfl ?_
    refine RL.val (O.move rfl) rfl ?_
    refine RL.bcase (t := 23) rfl (fun hc => ?_) (fun hc => ?_)
    · rw [if_pos hc] at hF
      refine RL.gskip rfl rfl rfl rfl ?_
      refine RL.gskip rfl rfl rfl rfl ?_
      refine RL.gskip rfl rfl rfl rfl ?_
      refine RL.val (O.pickt rfl rfl) rfl ?_
      refine RL.nil ?_
      refine KQ.then_k ?_
      exact fun a ha => ⟨true, ha.less (less_cons rfl (less_cons rfl (less_cons rfl less_nil))), hM, hF⟩
    · rw [if_neg (ne_true hc)] at hF
      refine RL.gval rfl rfl (O.move rfl) rfl ?_
      refine RL.gval rfl rfl (O.len sl48 rfl) rfl ?_
      refine RL.gval rfl rfl (O.gtr rfl rfl) rfl ?_
      refine RL.val (O.pickf rfl rfl) rfl ?_
      refine RL.nil ?_
      refine KQ.then_k ?_
      exact fun a ha => ⟨(decide (40 < (sizes5.length : Int))), ha.less (less_cons rfl (less_cons rfl (less_cons rfl less_nil))), hM, hF⟩
  · rintro a w10 ⟨t9, ha, hM, hF⟩
    refine KC.app ha ?_
    clear ha
    unfold F_law01_BitsReads_j1 at hF
    refine KC.cond rfl (fun hc => ?_) (fun hc => ?_)
    · rw [if_pos hc] at hF
      refine KC.seq ?_
      refine KC.region ?_
      obtain ⟨y11, hx12, hF⟩ := obind hF
      refine RL.call Try.func9 bd9 rfl rfl (c_law01_works _ _ hx12) fun v w13 hv => ?_
      obtain ⟨rfl, hN14⟩ := hv
      have hM := hM.call0 hN14
      refine RL.val (O.assign rfl) rfl ?_
      refine RL.nil ?_
      refine KQ.then_n ?_
      refine KC.ret ?_
      refine KQ.then_r ?_
      obtain rfl := Option.some.inj hF
      refine KQ.rets Try.results6 (RVs.cons (RV.tm rfl) RVs.nil) ?_
      exact ⟨_, rfl, rfl, hM⟩
    · rw [if_neg (ne_true hc)] at hF
      refine KC.skip ?_
      refine KQ.then_n ?_
      refine KC.seq ?_
      refine KC.region ?_
      refine RL.val (O.move rfl) rfl ?_
      obtain ⟨y15, hx16, hF⟩ := obind hF
      refine RL.call Try.func18 bd18 rfl rfl (c_ref01_Join _ none 0 [] Rd.nilr _ _ b1 (hM.inp hr4 Off.nil) _ hx16) fun v w17 hv => ?_
      obtain ⟨A19, c20, rfl, hN18⟩ := hv
      have hM := hM.call hN18
      refine RL.val (O.assign rfl) rfl ?_
      refine RL.nil ?_
      refine KQ.then_n ?_
      refine KC.seq ?_
      refine KC.region ?_
      refine RL.val (O.move rfl) rfl ?_
      obtain ⟨y22, hx23, hF⟩ := obind hF
      refine RL.call Try.func25 bd25 rfl rfl (c_bits_Read _ _ _ y15 (hM.rd (i := 0) rfl) _ hx23) fun v w24 hv => ?_
      obtain ⟨g26, A28, c29, rfl, hN25⟩ := hv
      have hM := hM.call hN25
      refine RL.val (O.assign rfl) rfl ?_
      refine RL.nil ?_
      refine KQ.then_n ?_
      refine KC.seq ?_
      refine KC.seq ?_
      refine KC.region ?_
      refine RL.val (O.assign rfl) rfl ?_
      refine RL.nil ?_
      refine KQ.then_n ?_
      refine KC.block ?_
      refine KC.loop (fun k63 a w61 => ∃ (A55 : Option Addr) (c56 : Nat) (own57 : List Int) (kv60 : Int), Kn 156 [(0, .slice A2 (b1).length c3), (1, .slice A6 (sizes5).length c7), (5, .slice A55 (own57).length c56), (6, .pointer (some ⟨g26, 0, none⟩)), (7, .int .i64 kv60)] a ∧ Mem w [] w61 [.row A55 c56 5 1 (own57).length ((own57).flatMap (eI .u8)), .row A28 c29 5 1 (y22.f_b).length ((y22.f_b).flatMap (eI .u8)), .box g26 64 [.slice A28 (y22.f_b).length c29, .int .i64 y22.f_at]] ∧ F_law01_BitsReads_L1 b1 sizes5 y22 k63 own57 kv60 = some r) ?_ ?_
      · have hM := hM.pick [0, 2, 1] rfl (by decide)
        exact fun a ha => ⟨fuel0, A19, c20, y15, 0, ha.less (less_cons rfl (less_cons rfl (less_cons rfl (less_cons rfl (less_cons rfl less_nil))))), hM, hF⟩
      · rintro k63 a w61 ⟨A55, c56, own57, kv60, ha, hM, hF⟩
        refine KC.app ha ?_
        clear ha
        cases k63 with
        | zero => exact (none_some hF).elim
        | succ k63 =>
        have hF : F_law01_BitsReads_l1 (F_law01_BitsReads_L1 b1 sizes5 y22 k63) b1 sizes5 y22 own57 kv60 = some r := hF
        unfold F_law01_BitsReads_l1 at hF
        refine KC.seq ?_
        refine KC.seq ?_
        refine KC.region ?_
        refine RL.val (O.move rfl) rfl ?_
        refine RL.val (O.move rfl) rfl ?_
        refine RL.val (O.len sl22 rfl) rfl ?_
        refine RL.val (O.lss rfl rfl) rfl ?_
        refine RL.nil ?_
        refine KQ.then_n ?_
        refine KC.cond rfl (fun hc => ?_) (fun hc => ?_)
        · rw [if_pos hc] at hF
          refine KC.skip ?_
          refine KQ.then_n ?_
          refine KC.seq ?_
          refine KC.block ?_
          refine KC.region ?_
          refine RL.val (O.move rfl) rfl ?_
          refine RL.val (O.move rfl) rfl ?_
          obtain ⟨xv66, hx65, hF⟩ := obind hF
          have hA64 := Rd.atN (f := (eI .u8)) (s := 1) (fun _ => rfl) (by decide) (hM.rd (i := 0) rfl) hx65
          refine RL.val (O.idxA sl22 (hA64) rfl rfl) rfl ?_
          refine RL.val (O.load sc5 rfl (hA64).cells.at0) rfl ?_
          refine RL.val (O.add rfl rfl) rfl ?_
          obtain ⟨xv69, hx68, hF⟩ := obind hF
          have hA67 := Rd.atN (f := (eI .u8)) (s := 1) (fun _ => rfl) (by decide) (hM.rd (i := 0) rfl) hx68
          refine RL.val (O.idxA sl22 (hA67) rfl rfl) rfl ?_
          refine RL.effs (E.stR (enc := (eI .u8)) (j := 0) (off := 0) (vs := [.int .u8 (IntKind.u8.wrap (xv66 + 1))]) (x' := (IntKind.u8.wrap (xv66 + 1))) hM rfl (fun _ => rfl) hx68 sz5 rfl (addsR_eq [] rfl) rfl rfl (One.all rfl) rfl rfl) fun w70 hM => ?_
          obtain ⟨hM, hn71⟩ := hM
          refine RL.reslot (t := 5) rfl hn71 ?_
          refine RL.reslot (t := 34) rfl hn71 ?_
          refine RL.reslot (t := 39) rfl hn71 ?_
          refine RL.nil ?_
          refine KQ.blk_n ?_
          refine KQ.then_n ?_
          refine KC.region ?_
          refine RL.val (O.move rfl) rfl ?_
          refine RL.val (O.add rfl rfl) rfl ?_
          refine RL.val (O.assign rfl) rfl ?_
          refine RL.nil ?_
          refine KQ.then_k ?_
          exact fun a ha => ⟨k63, Nat.lt_succ_self k63, A55, c56, (own57.set (kv60).toNat (IntKind.u8.wrap (xv66 + 1))), (IntKind.i64.wrap (kv60 + 1)), ha.less (less_cons rfl (less_cons rfl (less_cons rfl (less_cons rfl (less_cons rfl less_nil))))), hM, hF⟩
        · rw [if_neg (ne_true hc)] at hF
          refine KC.exit ?_
          refine KQ.then_x ?_
          refine KQ.then_x ?_
          refine KQ.blk_x ?_
          refine KQ.then_n ?_
          refine KC.seq ?_
          refine KC.region ?_
          refine RL.val (O.assign rfl) rfl ?_
          refine RL.nil ?_
          refine KQ.then_n ?_
          refine KC.seq ?_
          refine KC.seq ?_
          refine KC.region ?_
          refine RL.val (O.assign rfl) rfl ?_
          refine RL.nil ?_
          refine KQ.then_n ?_
          refine KC.block ?_
          refine KC.loop (fun k340 a w338 => ∃ (A332 : Option Addr) (c333 : Nat) (rv334 : List Int) (rv335 : Int) (atv336 : Int) (i337 : Int), Kn 156 [(0, .slice A2 (b1).length c3), (1, .slice A6 (sizes5).length c7), (6, .pointer (some ⟨g26, 0, none⟩)), (8, .int .i64 atv336), (9, .int .i64 i337)] a ∧ Mem w [] w338 [.row A332 c333 5 1 (rv334).length ((rv334).flatMap (eI .u8)), .box g26 64 [.slice A332 (rv334).length c333, .int .i64 rv335]] ∧ F_law01_BitsReads_L2 b1 sizes5 k340 rv334 rv335 atv336 i337 = some r) ?_ ?_
          · have hM := hM.pick [1, 2] rfl (by decide)
            exact fun a ha => ⟨fuel0, A28, c29, y22.f_b, y22.f_at, 0, 0, ha.less (less_cons rfl (less_cons rfl (less_cons rfl (less_cons rfl (less_cons rfl less_nil))))), hM, hF⟩
          · rintro k340 a w338 ⟨A332, c333, rv334, rv335, atv336, i337, ha, hM, hF⟩
            refine KC.app ha ?_
            clear ha
            cases k340 with
            | zero => exact (none_some hF).elim
            | succ k340 =>
            have hF : F_law01_BitsReads_l2 (F_law01_BitsReads_L2 b1 sizes5 k340) b1 sizes5 rv334 rv335 atv336 i337 = some r := hF
            unfold F_law01_BitsReads_l2 at hF
            refine KC.seq ?_
            refine KC.seq ?_
            refine KC.region ?_
            refine RL.val (O.move rfl) rfl ?_
            refine RL.val (O.move rfl) rfl ?_
            refine RL.val (O.len sl48 rfl) rfl ?_
            refine RL.val (O.lss rfl rfl) rfl ?_
            refine RL.nil ?_
            refine KQ.then_n ?_
            refine KC.cond rfl (fun hc => ?_) (fun hc => ?_)
            · rw [if_pos hc] at hF
              refine KC.skip ?_
              refine KQ.then_n ?_
              refine KC.seq ?_
              refine KC.block ?_
              refine KC.seq ?_
              refine KC.region ?_
              refine RL.val (O.move rfl) rfl ?_
              refine RL.val (O.move rfl) rfl ?_
              obtain ⟨xv343, hx342, hF⟩ := obind hF
              have hA341 := Rd.atN (f := (eI .i64)) (s := 1) (fun _ => rfl) (by decide) (hM.inp hr8 Off.nil) hx342
              refine RL.val (O.idxA sl48 (hA341) rfl rfl) rfl ?_
              refine RL.val (O.load sc3 rfl (hA341).cells.at0) rfl ?_
              refine RL.val (O.assign rfl) rfl ?_
              refine RL.nil ?_
              refine KQ.then_n ?_
              refine KC.cut (fun a w443 => ∃ (A438 : Option Addr) (c439 : Nat) (rv440 : List Int) (rv441 : Int) (atv442 : Int), Kn 156 [(0, .slice A2 (b1).length c3), (1, .slice A6 (sizes5).length c7), (6, .pointer (some ⟨g26, 0, none⟩)), (8, .int .i64 atv442), (9, .int .i64 i337)] a ∧ Mem w [] w443 [.row A438 c439 5 1 (rv440).length ((rv440).flatMap (eI .u8)), .box g26 64 [.slice A438 (rv440).length c439, .int .i64 rv441]] ∧ F_law01_BitsReads_j2 b1 i337 (F_law01_BitsReads_L2 b1 sizes5 k340) rv440 rv441 atv442 = some r) ?_ ?_
              · refine KC.seq ?_
                refine KC.region ?_
                refine RL.val (O.move rfl) rfl ?_
                refine RL.val (O.lss rfl rfl) rfl ?_
                refine RL.nil ?_
                refine KQ.then_n ?_
                refine KC.cond rfl (fun hc => ?_) (fun hc => ?_)
                · rw [if_pos hc] at hF
                  refine KC.seq ?_
                  refine KC.region ?_
                  refine RL.val (O.move rfl) rfl ?_
                  refine RL.val (O.sub rfl rfl) rfl ?_
                  refine RL.val (O.assign rfl) rfl ?_
                  refine RL.nil ?_
                  refine KQ.then_n ?_
                  refine KC.seq ?_
                  refine KC.region ?_
                  refine RL.val (O.move rfl) rfl ?_
                  refine RL.val (O.move rfl) rfl ?_
                  obtain ⟨y344, hx345, hF⟩ := obind hF
                  refine RL.call Try.func28 bd28 rfl rfl (c_bits_Reader_Take _ _ (T_bits_Reader.mk rv334 rv335) _ _ (hM.lent [1, 0] rfl (by decide)) (IntKind.i64.wrap ((-10) - xv343)) _ hx345) fun v w346 hv => ?_
                  obtain ⟨A348, c349, A351, c352, rfl, hN347⟩ := hv
                  have hM := hM.callL [1, 0] [] rfl rfl (by decide) rfl hN347
                  refine RL.val (O.move rfl) rfl ?_
                  refine RL.val (O.ext rfl rfl) rfl ?_
                  refine RL.val (O.ext rfl rfl) rfl ?_
                  refine RL.val (O.assign rfl) rfl ?_
                  refine RL.val (O.assign rfl) rfl ?_
                  refine RL.nil ?_
                  refine KQ.then_n ?_
                  refine KC.cut (fun a w379 => ∃ (atv377 : Int), Kn 156 [(0, .slice A2 (b1).length c3), (1, .slice A6 (sizes5).length c7), (6, .pointer (some ⟨g26, 0, none⟩)), (8, .int .i64 atv377), (9, .int .i64 i337), (11, .slice A351 (y344.1).length c352)] a ∧ Mem w [] w379 [.row A348 c349 5 1 (y344.2.2.f_b).length ((y344.2.2.f_b).flatMap (eI .u8)), .box g26 64 [.slice A348 (y344.2.2.f_b).length c349, .int .i64 y344.2.2.f_at], .row A351 c352 5 1 (y344.1).length ((y344.1).flatMap (eI .u8))] ∧ F_law01_BitsReads_j4 b1 i337 (F_law01_BitsReads_L2 b1 sizes5 k340) y344 atv377 = some r) ?_ ?_
                  · refine KC.block ?_
                    refine KC.seq ?_
                    refine KC.region ?_
                    refine RL.val (O.move rfl) rfl ?_
                    refine RL.val (O.move rfl) rfl ?_
                    refine RL.val (O.len sl22 rfl) rfl ?_
                    refine RL.val (O.move rfl) rfl ?_
                    refine RL.val (O.sub rfl rfl) rfl ?_
                    refine RL.val (O.gtr rfl rfl) rfl ?_
                    refine RL.val (O.assign rfl) rfl ?_
                    refine RL.nil ?_
                    refine KQ.then_n ?_
                    refine KC.cond rfl (fun hc => ?_) (fun hc => ?_)
                    · rw [if_pos hc] at hF
                      refine KC.cut (fun a w358 => ∃ (t357 : Bool), Kn 156 [(0, .slice A2 (b1).length c3), (1, .slice A6 (sizes5).length c7), (6, .pointer (some ⟨g26, 0, none⟩)), (8, .int .i64 atv336), (9, .int .i64 i337), (11, .slice A351 (y344.1).length c352), (94, .bool t357)] a ∧ Mem w [] w358 [.row A348 c349 5 1 (y344.2.2.f_b).length ((y344.2.2.f_b).flatMap (eI .u8)), .box g26 64 [.slice A348 (y344.2.2.f_b).length c349, .int .i64 y344.2.2.f_at], .row A351 c352 5 1 (y344.1).length ((y344.1).flatMap (eI .u8))] ∧ F_law01_BitsReads_j5 b1 atv336 i337 (F_law01_BitsReads_L2 b1 sizes5 k340) y344 t357 = some r) ?_ ?_
                      · refine KC.region ?_
                        refine RL.val (O.move rfl) rfl ?_
                        refine RL.val (O.neq rfl rfl) rfl ?_
                        refine RL.val (O.move rfl) rfl ?_
                        refine RL.bcase (t := 90) rfl (fun hc => ?_) (fun hc => ?_)
                        · rw [if_pos hc] at hF
                          refine RL.gskip rfl rfl rfl rfl ?_
                          refine RL.gskip rfl rfl rfl rfl ?_
                          refine RL.gskip rfl rfl rfl rfl ?_
                          refine RL.val (O.pickt rfl rfl) rfl ?_
                          refine RL.nil ?_
                          refine KQ.then_k ?_
                          have hM := hM.pick [1, 0, 2] rfl (by decide)
                          exact fun a ha => ⟨true, ha.less (less_cons rfl (less_cons rfl (less_cons rfl (less_cons rfl (less_cons rfl (less_cons rfl (less_cons rfl less_nil))))))), hM, hF⟩
                        · rw [if_neg (ne_true hc)] at hF
                          refine RL.gval rfl rfl (O.move rfl) rfl ?_
                          refine RL.gval rfl rfl (O.len sl22 rfl) rfl ?_
                          refine RL.gval rfl rfl (O.gtr rfl rfl) rfl ?_
                          refine RL.val (O.pickf rfl rfl) rfl ?_
                          refine RL.nil ?_
                          refine KQ.then_k ?_
                          have hM := hM.pick [1, 0, 2] rfl (by decide)
                          exact fun a ha => ⟨(decide (0 < (y344.1.length : Int))), ha.less (less_cons rfl (less_cons rfl (less_cons rfl (less_cons rfl (less_cons rfl (less_cons rfl (less_cons rfl less_nil))))))), hM, hF⟩
                      · rintro a w358 ⟨t357, ha, hM, hF⟩
                        refine KC.app ha ?_
                        clear ha
                        unfold F_law01_BitsReads_j5 at hF
                        refine KC.cond rfl (fun hc => ?_) (fun hc => ?_)
                        · rw [if_pos hc] at hF
                          refine KC.seq ?_
                          refine KC.region ?_
                          refine RL.val (O.assign rfl) rfl ?_
                          refine RL.nil ?_
                          refine KQ.then_n ?_
                          refine KC.ret ?_
                          refine KQ.blk_r ?_
                          refine KQ.then_r ?_
                          refine KQ.then_r ?_
                          refine KQ.blk_r ?_
                          refine KQ.then_r ?_
                          refine KQ.then_r ?_
                          refine KQ.blk_r ?_
                          refine KQ.then_r ?_
                          obtain rfl := Option.some.inj hF
                          have hM := hM.pick [] rfl (by decide)
                          refine KQ.rets Try.results6 (RVs.cons (RV.tm rfl) RVs.nil) ?_
                          exact ⟨_, rfl, rfl, hM⟩
                        · rw [if_neg (ne_true hc)] at hF
                          refine KC.skip ?_
                          refine KQ.blk_n ?_
                          refine KQ.then_k ?_
                          exact fun a ha => ⟨atv336, ha.less (less_cons rfl (less_cons rfl (less_cons rfl (less_cons rfl (less_cons rfl (less_cons rfl less_nil)))))), hM, hF⟩
                    · rw [if_neg (ne_true hc)] at hF
                      refine KC.seq ?_
                      refine KC.cut (fun a w374 => ∃ (t373 : Bool), Kn 156 [(0, .slice A2 (b1).length c3), (1, .slice A6 (sizes5).length c7), (6, .pointer (some ⟨g26, 0, none⟩)), (8, .int .i64 atv336), (9, .int .i64 i337), (10, .int .i64 (IntKind.i64.wrap ((-10) - xv343))), (11, .slice A351 (y344.1).length c352), (77, .bool t373)] a ∧ Mem w [] w374 [.row A348 c349 5 1 (y344.2.2.f_b).length ((y344.2.2.f_b).flatMap (eI .u8)), .box g26 64 [.slice A348 (y344.2.2.f_b).length c349, .int .i64 y344.2.2.f_at], .row A351 c352 5 1 (y344.1).length ((y344.1).flatMap (eI .u8))] ∧ F_law01_BitsReads_j6 b1 atv336 i337 (F_law01_BitsReads_L2 b1 sizes5 k340) xv343 y344 t373 = some r) ?_ ?_
                      · refine KC.region ?_
                        refine RL.val (O.move rfl) rfl ?_
                        refine RL.val (O.neq rfl rfl) rfl ?_
                        refine RL.val (O.move rfl) rfl ?_
                        refine RL.bcase (t := 67) rfl (fun hc => ?_) (fun hc => ?_)
                        · rw [if_pos hc] at hF
                          refine RL.gskip rfl rfl rfl rfl ?_
                          refine RL.gskip rfl rfl rfl rfl ?_
                          refine RL.gskip rfl rfl rfl rfl ?_
                          refine RL.gskip rfl rfl rfl rfl ?_
                          refine RL.gskip rfl rfl rfl rfl ?_
                          refine RL.gskip rfl rfl rfl rfl ?_
                          refine RL.gskip rfl rfl rfl rfl ?_
                          refine RL.gskip rfl rfl rfl rfl ?_
                          refine RL.gskip rfl rfl rfl rfl ?_
                          refine RL.val (O.pickt rfl rfl) rfl ?_
                          refine RL.nil ?_
                          refine KQ.then_k ?_
                          have hM := hM.pick [1, 0, 2] rfl (by decide)
                          exact fun a ha => ⟨true, ha.less (less_cons rfl (less_cons rfl (less_cons rfl (less_cons rfl (less_cons rfl (less_cons rfl (less_cons rfl (less_cons rfl less_nil)))))))), hM, hF⟩
                        · rw [if_neg (ne_true hc)] at hF
                          refine RL.gval rfl rfl (O.move rfl) rfl ?_
                          refine RL.gval rfl rfl (O.move rfl) rfl ?_
                          refine RL.gval rfl rfl (O.move rfl) rfl ?_
                          refine RL.gval rfl rfl (O.move rfl) rfl ?_
                          refine RL.gval rfl rfl (O.move rfl) rfl ?_
                          refine RL.gval rfl rfl (O.add rfl rfl) rfl ?_
                          obtain ⟨cut359, hy360, hF⟩ := obind hF
                          obtain ⟨A361, c362, eA364, ec365⟩ := cutN A2 c3 (Int.toNat atv336) 1
                          have hr363 := Rd.cutT (enc := (eI .u8)) (s := 1) (fun _ => rfl) hr4 hy360 (m := c3) (by have := hr4.cap; have := (gcut_some hy360).2.2.1; omega) (Nat.le_refl _)
                          rw [← eA364, ← ec365] at hr363
                          refine RL.gval (v := .slice A361 (cut359).length c362) rfl rfl (by rw [eA364, ec365]; exact O.cutT sl22 (hM.inp hr4 Off.nil) hy360 rfl rfl rfl) rfl ?_
                          obtain ⟨y366, hx367, hF⟩ := obind hF
                          refine RL.gcall rfl rfl Try.func23 bd23 rfl rfl (c_ref01_Same _ _ _ y344.1 (hM.rd (i := 2) rfl) _ _ cut359 (hM.inp hr363 Off.nil) _ hx367) fun v w368 hv => ?_
                          obtain ⟨rfl, hN369⟩ := hv
                          have hM := hM.call0 hN369
                          refine RL.gval rfl rfl (O.not rfl) rfl ?_
                          refine RL.val (O.pickf rfl rfl) rfl ?_
                          refine RL.nil ?_
                          refine KQ.then_k ?_
                          have hM := hM.pick [1, 0, 2] rfl (by decide)
                          exact fun a ha => ⟨(!y366), ha.less (less_cons rfl (less_cons rfl (less_cons rfl (less_cons rfl (less_cons rfl (less_cons rfl (less_cons rfl (less_cons rfl less_nil)))))))), hM, hF⟩
                      · rintro a w374 ⟨t373, ha, hM, hF⟩
                        refine KC.app ha ?_
                        clear ha
                        unfold F_law01_BitsReads_j6 at hF
                        refine KC.cond rfl (fun hc => ?_) (fun hc => ?_)
                        · rw [if_pos hc] at hF
                          refine KC.seq ?_
                          refine KC.region ?_
                          refine RL.val (O.assign rfl) rfl ?_
                          refine RL.nil ?_
                          refine KQ.then_n ?_
                          refine KC.ret ?_
                          refine KQ.then_r ?_
                          refine KQ.blk_r ?_
                          refine KQ.then_r ?_
                          refine KQ.then_r ?_
                          refine KQ.blk_r ?_
                          refine KQ.then_r ?_
                          refine KQ.then_r ?_
                          refine KQ.blk_r ?_
                          refine KQ.then_r ?_
                          obtain rfl := Option.some.inj hF
                          have hM := hM.pick [] rfl (by decide)
                          refine KQ.rets Try.results6 (RVs.cons (RV.tm rfl) RVs.nil) ?_
                          exact ⟨_, rfl, rfl, hM⟩
                        · rw [if_neg (ne_true hc)] at hF
                          refine KC.skip ?_
                          refine KQ.then_n ?_
                          refine KC.region ?_
                          refine RL.val (O.move rfl) rfl ?_
                          refine RL.val (O.move rfl) rfl ?_
                          refine RL.val (O.add rfl rfl) rfl ?_
                          refine RL.val (O.assign rfl) rfl ?_
                          refine RL.nil ?_
                          refine KQ.blk_n ?_
                          refine KQ.then_k ?_
                          exact fun a ha => ⟨(IntKind.i64.wrap (atv336 + (IntKind.i64.wrap ((-10) - xv343)))), ha.less (less_cons rfl (less_cons rfl (less_cons rfl (less_cons rfl (less_cons rfl (less_cons rfl less_nil)))))), hM, hF⟩
                  · rintro a w379 ⟨atv377, ha, hM, hF⟩
                    refine KC.app ha ?_
                    clear ha
                    unfold F_law01_BitsReads_j4 at hF
                    refine KC.seq ?_
                    refine KC.region ?_
                    refine RL.val (O.assign rfl) rfl ?_
                    refine RL.nil ?_
                    refine KQ.then_n ?_
                    refine KC.block ?_
                    refine KC.loop (fun k412 a w410 => ∃ (A406 : Option Addr) (c407 : Nat) (lv408 : List Int) (kv409 : Int), Kn 156 [(0, .slice A2 (b1).length c3), (1, .slice A6 (sizes5).length c7), (6, .pointer (some ⟨g26, 0, none⟩)), (8, .int .i64 atv377), (9, .int .i64 i337), (11, .slice A406 (lv408).length c407), (13, .int .i64 kv409)] a ∧ Mem w [] w410 [.row A348 c349 5 1 (y344.2.2.f_b).length ((y344.2.2.f_b).flatMap (eI .u8)), .box g26 64 [.slice A348 (y344.2.2.f_b).length c349, .int .i64 y344.2.2.f_at], .row A406 c407 5 1 (lv408).length ((lv408).flatMap (eI .u8))] ∧ F_law01_BitsReads_L3 b1 i337 (F_law01_BitsReads_L2 b1 sizes5 k340) y344 atv377 k412 lv408 kv409 = some r) ?_ ?_
                    · exact fun a ha => ⟨fuel0, A351, c352, y344.1, 0, ha.less (less_cons rfl (less_cons rfl (less_cons rfl (less_cons rfl (less_cons rfl (less_cons rfl (less_cons rfl less_nil))))))), hM, hF⟩
                    · rintro k412 a w410 ⟨A406, c407, lv408, kv409, ha, hM, hF⟩
                      refine KC.app ha ?_
                      clear ha
                      cases k412 with
                      | zero => exact (none_some hF).elim
                      | succ k412 =>
                      have hF : F_law01_BitsReads_l3 (F_law01_BitsReads_L3 b1 i337 (F_law01_BitsReads_L2 b1 sizes5 k340) y344 atv377 k412) b1 i337 (F_law01_BitsReads_L2 b1 sizes5 k340) y344 atv377 lv408 kv409 = some r := hF
                      unfold F_law01_BitsReads_l3 at hF
                      refine KC.seq ?_
                      refine KC.seq ?_
                      refine KC.region ?_
                      refine RL.val (O.move rfl) rfl ?_
                      refine RL.val (O.move rfl) rfl ?_
                      refine RL.val (O.len sl22 rfl) rfl ?_
                      refine RL.val (O.lss rfl rfl) rfl ?_
                      refine RL.nil ?_
                      refine KQ.then_n ?_
                      refine KC.cond rfl (fun hc => ?_) (fun hc => ?_)
                      · rw [if_pos hc] at hF
                        refine KC.skip ?_
                        refine KQ.then_n ?_
                        refine KC.seq ?_
                        refine KC.block ?_
                        refine KC.region ?_
                        refine RL.val (O.move rfl) rfl ?_
                        refine RL.val (O.move rfl) rfl ?_
                        obtain ⟨xv415, hx414, hF⟩ := obind hF
                        have hA413 := Rd.atN (f := (eI .u8)) (s := 1) (fun _ => rfl) (by decide) (hM.rd (i := 2) rfl) hx414
                        refine RL.val (O.idxA sl22 (hA413) rfl rfl) rfl ?_
                        refine RL.val (O.load sc5 rfl (hA413).cells.at0) rfl ?_
                        refine RL.val (O.add rfl rfl) rfl ?_
                        obtain ⟨xv418, hx417, hF⟩ := obind hF
                        have hA416 := Rd.atN (f := (eI .u8)) (s := 1) (fun _ => rfl) (by decide) (hM.rd (i := 2) rfl) hx417
                        refine RL.val (O.idxA sl22 (hA416) rfl rfl) rfl ?_
                        refine RL.effs (E.stR (enc := (eI .u8)) (j := 2) (off := 0) (vs := [.int .u8 (IntKind.u8.wrap (xv415 + 1))]) (x' := (IntKind.u8.wrap (xv415 + 1))) hM rfl (fun _ => rfl) hx417 sz5 rfl (addsR_eq [] rfl) rfl rfl (One.all rfl) rfl rfl) fun w419 hM => ?_
                        obtain ⟨hM, hn420⟩ := hM
                        refine RL.reslot (t := 11) rfl hn420 ?_
                        refine RL.reslot (t := 96) rfl hn420 ?_
                        refine RL.reslot (t := 101) rfl hn420 ?_
                        refine RL.nil ?_
                        refine KQ.blk_n ?_
                        refine KQ.then_n ?_
                        refine KC.region ?_
                        refine RL.val (O.move rfl) rfl ?_
                        refine RL.val (O.add rfl rfl) rfl ?_
                        refine RL.val (O.assign rfl) rfl ?_
                        refine RL.nil ?_
                        refine KQ.then_k ?_
                        exact fun a ha => ⟨k412, Nat.lt_succ_self k412, A406, c407, (lv408.set (kv409).toNat (IntKind.u8.wrap (xv415 + 1))), (IntKind.i64.wrap (kv409 + 1)), ha.less (less_cons rfl (less_cons rfl (less_cons rfl (less_cons rfl (less_cons rfl (less_cons rfl (less_cons rfl less_nil))))))), hM, hF⟩
                      · rw [if_neg (ne_true hc)] at hF
                        refine KC.exit ?_
                        refine KQ.then_x ?_
                        refine KQ.then_x ?_
                        refine KQ.blk_x ?_
                        refine KQ.then_k ?_
                        have hM := hM.pick [0, 1] rfl (by decide)
                        exact fun a ha => ⟨A348, c349, y344.2.2.f_b, y344.2.2.f_at, atv377, ha.less (less_cons rfl (less_cons rfl (less_cons rfl (less_cons rfl (less_cons rfl less_nil))))), hM, hF⟩
                · rw [if_neg (ne_true hc)] at hF
                  refine KC.seq ?_
                  refine KC.region ?_
                  refine RL.val (O.move rfl) rfl ?_
                  refine RL.val (O.move rfl) rfl ?_
                  obtain ⟨y421, hx422, hF⟩ := obind hF
                  refine RL.call Try.func26 bd26 rfl rfl (c_bits_Reader_Get _ _ (T_bits_Reader.mk rv334 rv335) _ _ (hM.lent [1, 0] rfl (by decide)) xv343 _ hx422) fun v w423 hv => ?_
                  obtain ⟨A425, c426, rfl, hN424⟩ := hv
                  have hM := hM.callL [1, 0] [] rfl rfl (by decide) rfl hN424
                  refine RL.val (O.move rfl) rfl ?_
                  refine RL.val (O.ext rfl rfl) rfl ?_
                  refine RL.val (O.ext rfl rfl) rfl ?_
                  refine RL.val (O.assign rfl) rfl ?_
                  refine RL.val (O.assign rfl) rfl ?_
                  refine RL.nil ?_
                  refine KQ.then_n ?_
                  refine KC.seq ?_
                  refine KC.region ?_
                  refine RL.val (O.move rfl) rfl ?_
                  refine RL.val (O.move rfl) rfl ?_
                  refine RL.val (O.move rfl) rfl ?_
                  obtain ⟨y428, hx429, hF⟩ := obind hF
                  refine RL.call Try.func11 bd11 rfl rfl (c_ref01_Get _ _ _ b1 (hM.inp hr4 Off.nil) atv336 xv343 _ hx429) fun v w430 hv => ?_
                  obtain ⟨rfl, hN431⟩ := hv
                  have hM := hM.call0 hN431
                  refine RL.val (O.move rfl) rfl ?_
                  refine RL.val (O.ext rfl rfl) rfl ?_
                  refine RL.val (O.ext rfl rfl) rfl ?_
                  refine RL.val (O.assign rfl) rfl ?_
                  refine RL.val (O.assign rfl) rfl ?_
                  refine RL.nil ?_
                  refine KQ.then_n ?_
                  refine KC.seq ?_
                  refine KC.cut (fun a w435 => ∃ (t434 : Bool), Kn 156 [(0, .slice A2 (b1).length c3), (1, .slice A6 (sizes5).length c7), (6, .pointer (some ⟨g26, 0, none⟩)), (8, .int .i64 atv336), (9, .int .i64 i337), (10, .int .i64 xv343), (15, .int .i64 y421.2.1), (127, .bool t434)] a ∧ Mem w [] w435 [.row A425 c426 5 1 (y421.2.2.f_b).length ((y421.2.2.f_b).flatMap (eI .u8)), .box g26 64 [.slice A425 (y421.2.2.f_b).length c426, .int .i64 y421.2.2.f_at]] ∧ F_law01_BitsReads_j7 b1 atv336 i337 (F_law01_BitsReads_L2 b1 sizes5 k340) xv343 y421 t434 = some r) ?_ ?_
                  · refine KC.region ?_
                    refine RL.val (O.move rfl) rfl ?_
                    refine RL.val (O.move rfl) rfl ?_
                    refine RL.val (O.neq rfl rfl) rfl ?_
                    refine RL.val (O.move rfl) rfl ?_
                    refine RL.bcase (t := 123) rfl (fun hc => ?_) (fun hc => ?_)
                    · rw [if_pos hc] at hF
                      refine RL.gskip rfl rfl rfl rfl ?_
                      refine RL.gskip rfl rfl rfl rfl ?_
                      refine RL.gskip rfl rfl rfl rfl ?_
                      refine RL.val (O.pickt rfl rfl) rfl ?_
                      refine RL.nil ?_
                      refine KQ.then_k ?_
                      have hM := hM.pick [1, 0] rfl (by decide)
                      exact fun a ha => ⟨true, ha.less (less_cons rfl (less_cons rfl (less_cons rfl (less_cons rfl (less_cons rfl (less_cons rfl (less_cons rfl (less_cons rfl less_nil)))))))), hM, hF⟩
                    · rw [if_neg (ne_true hc)] at hF
                      refine RL.gval rfl rfl (O.move rfl) rfl ?_
                      refine RL.gval rfl rfl (O.move rfl) rfl ?_
                      refine RL.gval rfl rfl (O.neq rfl rfl) rfl ?_
                      refine RL.val (O.pickf rfl rfl) rfl ?_
                      refine RL.nil ?_
                      refine KQ.then_k ?_
                      have hM := hM.pick [1, 0] rfl (by decide)
                      exact fun a ha => ⟨(y421.2.1 != y428.2), ha.less (less_cons rfl (less_cons rfl (less_cons rfl (less_cons rfl (less_cons rfl (less_cons rfl (less_cons rfl (less_cons rfl less_nil)))))))), hM, hF⟩
                  · rintro a w435 ⟨t434, ha, hM, hF⟩
                    refine KC.app ha ?_
                    clear ha
                    unfold F_law01_BitsReads_j7 at hF
                    refine KC.cond rfl (fun hc => ?_) (fun hc => ?_)
                    · rw [if_pos hc] at hF
                      refine KC.seq ?_
                      refine KC.region ?_
                      refine RL.val (O.assign rfl) rfl ?_
                      refine RL.nil ?_
                      refine KQ.then_n ?_
                      refine KC.ret ?_
                      refine KQ.then_r ?_
                      refine KQ.then_r ?_
                      refine KQ.blk_r ?_
                      refine KQ.then_r ?_
                      refine KQ.then_r ?_
                      refine KQ.blk_r ?_
                      refine KQ.then_r ?_
                      obtain rfl := Option.some.inj hF
                      have hM := hM.pick [] rfl (by decide)
                      refine KQ.rets Try.results6 (RVs.cons (RV.tm rfl) RVs.nil) ?_
                      exact ⟨_, rfl, rfl, hM⟩
                    · rw [if_neg (ne_true hc)] at hF
                      refine KC.skip ?_
                      refine KQ.then_n ?_
                      refine KC.seq ?_
                      refine KC.region ?_
                      refine RL.val (O.move rfl) rfl ?_
                      refine RL.val (O.eql rfl rfl) rfl ?_
                      refine RL.nil ?_
                      refine KQ.then_n ?_
                      refine KC.cond rfl (fun hc => ?_) (fun hc => ?_)
                      · rw [if_pos hc] at hF
                        refine KC.region ?_
                        refine RL.val (O.move rfl) rfl ?_
                        refine RL.val (O.move rfl) rfl ?_
                        refine RL.val (O.add rfl rfl) rfl ?_
                        refine RL.val (O.assign rfl) rfl ?_
                        refine RL.nil ?_
                        refine KQ.then_k ?_
                        exact fun a ha => ⟨A425, c426, y421.2.2.f_b, y421.2.2.f_at, (IntKind.i64.wrap (atv336 + xv343)), ha.less (less_cons rfl (less_cons rfl (less_cons rfl (less_cons rfl (less_cons rfl less_nil))))), hM, hF⟩
                      · rw [if_neg (ne_true hc)] at hF
                        refine KC.skip ?_
                        refine KQ.then_k ?_
                        exact fun a ha => ⟨A425, c426, y421.2.2.f_b, y421.2.2.f_at, atv336, ha.less (less_cons rfl (less_cons rfl (less_cons rfl (less_cons rfl (less_cons rfl less_nil))))), hM, hF⟩
              · rintro a w443 ⟨A438, c439, rv440, rv441, atv442, ha, hM, hF⟩
                refine KC.app ha ?_
                clear ha
                unfold F_law01_BitsReads_j2 at hF
                refine KC.cut (fun a w465 => ∃ (A460 : Option Addr) (c461 : Nat) (rv462 : List Int) (rv463 : Int) (t464 : Bool), Kn 156 [(0, .slice A2 (b1).length c3), (1, .slice A6 (sizes5).length c7), (6, .pointer (some ⟨g26, 0, none⟩)), (8, .int .i64 atv442), (9, .int .i64 i337), (145, .bool t464)] a ∧ Mem w [] w465 [.row A460 c461 5 1 (rv462).length ((rv462).flatMap (eI .u8)), .box g26 64 [.slice A460 (rv462).length c461, .int .i64 rv463]] ∧ F_law01_BitsReads_j3 i337 (F_law01_BitsReads_L2 b1 sizes5 k340) atv442 rv462 rv463 t464 = some r) ?_ ?_
                · refine KC.region ?_
                  refine RL.val (O.move rfl) rfl ?_
                  obtain ⟨y444, hx445, hF⟩ := obind hF
                  refine RL.call Try.func29 bd29 rfl rfl (c_bits_Reader_At _ _ (T_bits_Reader.mk rv440 rv441) _ _ (hM.lent [1, 0] rfl (by decide)) _ hx445) fun v w446 hv => ?_
                  obtain ⟨A448, c449, rfl, hN447⟩ := hv
                  have hM := hM.callL [1, 0] [] rfl rfl (by decide) rfl hN447
                  refine RL.val (O.move rfl) rfl ?_
                  refine RL.val (O.neq rfl rfl) rfl ?_
                  refine RL.val (O.move rfl) rfl ?_
                  refine RL.bcase (t := 137) rfl (fun hc => ?_) (fun hc => ?_)
                  · rw [if_pos hc] at hF
                    refine RL.gskip rfl rfl rfl rfl ?_
                    refine RL.gskip rfl rfl rfl rfl ?_
                    refine RL.gskip rfl rfl rfl rfl ?_
                    refine RL.gskip rfl rfl rfl rfl ?_
                    refine RL.gskip rfl rfl rfl rfl ?_
                    refine RL.gskip rfl rfl rfl rfl ?_
                    refine RL.gskip rfl rfl rfl rfl ?_
                    refine RL.val (O.pickt rfl rfl) rfl ?_
                    refine RL.nil ?_
                    refine KQ.then_k ?_
                    have hM := hM.pick [1, 0] rfl (by decide)
                    exact fun a ha => ⟨A448, c449, y444.2.f_b, y444.2.f_at, true, ha.less (less_cons rfl (less_cons rfl (less_cons rfl (less_cons rfl (less_cons rfl (less_cons rfl less_nil)))))), hM, hF⟩
                  · rw [if_neg (ne_true hc)] at hF
                    refine RL.gval rfl rfl (O.move rfl) rfl ?_
                    obtain ⟨y451, hx452, hF⟩ := obind hF
                    refine RL.gcall rfl rfl Try.func27 bd27 rfl rfl (c_bits_Reader_Left _ _ y444.2 _ _ (hM.lent [0, 1] rfl (by decide)) _ hx452) fun v w453 hv => ?_
                    obtain ⟨A455, c456, rfl, hN454⟩ := hv
                    have hM := hM.callL [0, 1] [] rfl rfl (by decide) rfl hN454
                    refine RL.gval rfl rfl (O.move rfl) rfl ?_
                    refine RL.gval rfl rfl (O.len sl22 rfl) rfl ?_
                    refine RL.gval rfl rfl (O.move rfl) rfl ?_
                    refine RL.gval rfl rfl (O.sub rfl rfl) rfl ?_
                    refine RL.gval rfl rfl (O.neq rfl rfl) rfl ?_
                    refine RL.val (O.pickf rfl rfl) rfl ?_
                    refine RL.nil ?_
                    refine KQ.then_k ?_
                    have hM := hM.pick [1, 0] rfl (by decide)
                    exact fun a ha => ⟨A455, c456, y451.2.f_b, y451.2.f_at, (y451.1 != (IntKind.i64.wrap ((b1.length : Int) - atv442))), ha.less (less_cons rfl (less_cons rfl (less_cons rfl (less_cons rfl (less_cons rfl (less_cons rfl less_nil)))))), hM, hF⟩
                · rintro a w465 ⟨A460, c461, rv462, rv463, t464, ha, hM, hF⟩
                  refine KC.app ha ?_
                  clear ha
                  unfold F_law01_BitsReads_j3 at hF
                  refine KC.cond rfl (fun hc => ?_) (fun hc => ?_)
                  · rw [if_pos hc] at hF
                    refine KC.seq ?_
                    refine KC.region ?_
                    refine RL.val (O.assign rfl) rfl ?_
                    refine RL.nil ?_
                    refine KQ.then_n ?_
                    refine KC.ret ?_
                    refine KQ.blk_r ?_
                    refine KQ.then_r ?_
                    refine KQ.then_r ?_
                    refine KQ.blk_r ?_
                    refine KQ.then_r ?_
                    obtain rfl := Option.some.inj hF
                    have hM := hM.pick [] rfl (by decide)
                    refine KQ.rets Try.results6 (RVs.cons (RV.tm rfl) RVs.nil) ?_
                    exact ⟨_, rfl, rfl, hM⟩
                  · rw [if_neg (ne_true hc)] at hF
                    refine KC.skip ?_
                    refine KQ.blk_n ?_
                    refine KQ.then_n ?_
                    refine KC.region ?_
                    refine RL.val (O.move rfl) rfl ?_
                    refine RL.val (O.add rfl rfl) rfl ?_
                    refine RL.val (O.assign rfl) rfl ?_
                    refine RL.nil ?_
                    refine KQ.then_k ?_
                    exact fun a ha => ⟨k340, Nat.lt_succ_self k340, A460, c461, rv462, rv463, atv442, (IntKind.i64.wrap (i337 + 1)), ha.less (less_cons rfl (less_cons rfl (less_cons rfl (less_cons rfl (less_cons rfl less_nil))))), hM, hF⟩
            · rw [if_neg (ne_true hc)] at hF
              refine KC.exit ?_
              refine KQ.then_x ?_
              refine KQ.then_x ?_
              refine KQ.blk_x ?_
              refine KQ.then_n ?_
              refine KC.seq ?_
              refine KC.region ?_
              refine RL.val (O.move rfl) rfl ?_
              obtain ⟨y466, hx467, hF⟩ := obind hF
              refine RL.call Try.func28 bd28 rfl rfl (c_bits_Reader_Take _ _ (T_bits_Reader.mk rv334 rv335) _ _ (hM.lent [1, 0] rfl (by decide)) (-1) _ hx467) fun v w468 hv => ?_
              obtain ⟨A470, c471, A473, c474, rfl, hN469⟩ := hv
              have hM := hM.callL [1, 0] [] rfl rfl (by decide) rfl hN469
              refine RL.val (O.move rfl) rfl ?_
              refine RL.val (O.ext rfl rfl) rfl ?_
              refine RL.val (O.ext rfl rfl) rfl ?_
              refine RL.val (O.assign rfl) rfl ?_
              refine RL.val (O.assign rfl) rfl ?_
              refine RL.nil ?_
              refine KQ.then_n ?_
              refine KC.cut (fun a w481 => ∃ (t480 : Bool), Kn 156 [(4, .bool t480)] a ∧ Mem w [] w481 [] ∧ F_law01_BitsReads_j8 t480 = some r) ?_ ?_
              · refine KC.region ?_
                refine RL.val (O.move rfl) rfl ?_
                refine RL.val (O.eql rfl rfl) rfl ?_
                refine RL.val (O.move rfl) rfl ?_
                refine RL.bcase (t := 153) rfl (fun hc => ?_) (fun hc => ?_)
                · rw [if_pos hc] at hF
                  obtain ⟨y476, hx477, hF⟩ := obind hF
                  refine RL.gcall rfl rfl Try.func9 bd9 rfl rfl (c_law01_works _ _ hx477) fun v w478 hv => ?_
                  obtain ⟨rfl, hN479⟩ := hv
                  have hM := hM.call0 hN479
                  refine RL.val (O.pickt rfl rfl) rfl ?_
                  refine RL.val (O.assign rfl) rfl ?_
                  refine RL.nil ?_
                  refine KQ.then_k ?_
                  have hM := hM.pick [] rfl (by decide)
                  exact fun a ha => ⟨y476, ha.less (less_cons rfl less_nil), hM, hF⟩
                · rw [if_neg (ne_true hc)] at hF
                  refine RL.gskip rfl rfl rfl rfl ?_
                  refine RL.val (O.pickf rfl rfl) rfl ?_
                  refine RL.val (O.assign rfl) rfl ?_
                  refine RL.nil ?_
                  refine KQ.then_k ?_
                  have hM := hM.pick [] rfl (by decide)
                  exact fun a ha => ⟨false, ha.less (less_cons rfl less_nil), hM, hF⟩
              · rintro a w481 ⟨t480, ha, hM, hF⟩
                refine KC.app ha ?_
                clear ha
                unfold F_law01_BitsReads_j8 at hF
                refine KC.ret ?_
                obtain rfl := Option.some.inj hF
                refine KQ.rets Try.results6 (RVs.cons (RV.tm rfl) RVs.nil) ?_
                exact ⟨_, rfl, rfl, hM⟩
set_option maxRecDepth 100000 in
set_option maxHeartbeats 40000000 in
theorem c_bits_Reader_Get_N (w : World) (size1 : Int) (r : Int × Int) (hF : F_bits_Reader_Get_N size1 = some r) :
    CallsR Try.prog 26 [.pointer none, .int .i64 size1] w (fun v w' => v = .tuple #[.int .u64 r.1, .int .i64 r.2] ∧ Mem w [] w' []) := by
  refine calls_KC Try.func26 rfl Try.ntmps26 rfl ?_
  have hM := Mem.init w
  unfold F_bits_Reader_Get_N at hF
  refine KC.seq ?_
  refine KC.region ?_
  refine RL.val (O.assign rfl) rfl ?_
  refine RL.val (O.assign rfl) rfl ?_
  refine RL.nil ?_
  refine KQ.then_n ?_
  refine KC.seq ?_
  refine KC.seq ?_
  refine KC.region ?_
  refine RL.val (O.move rfl) rfl ?_
  refine RL.val (O.peqn Try.underlying49 rfl rfl) rfl ?_
  refine RL.nil ?_
  refine KQ.then_n ?_
  refine KC.condT rfl ?_
  refine KC.seq ?_
  refine KC.region ?_
  refine RL.val (O.assign rfl) rfl ?_
  refine RL.val (O.assign rfl) rfl ?_
  refine RL.nil ?_
  refine KQ.then_n ?_
  refine KC.ret ?_
  refine KQ.then_r ?_
  obtain rfl := Option.some.inj hF
  refine KQ.rets Try.results26 (RVs.cons (RV.tm rfl) (RVs.cons (RV.tm rfl) RVs.nil)) ?_
  exact ⟨_, rfl, rfl, hM⟩
set_option maxRecDepth 100000 in
set_option maxHeartbeats 40000000 in
theorem c_bits_Reader_Take_N (w : World) (nv1 : Int) (r : (List Int) × Int) (hF : F_bits_Reader_Take_N nv1 = some r) :
    CallsR Try.prog 28 [.pointer none, .int .i64 nv1] w (fun v w' => ∃ (A0 : Option Addr) (c0 : Nat), v = .tuple #[.slice A0 (r.1).length c0, .int .i64 r.2] ∧ Mem w [] w' [.row A0 c0 5 1 r.1.length (r.1.flatMap (eI .u8))]) := by
  refine calls_KC Try.func28 rfl Try.ntmps28 rfl ?_
  have hM := Mem.init w
  unfold F_bits_Reader_Take_N at hF
  refine KC.seq ?_
  refine KC.region ?_
  refine RL.val (O.assign rfl) rfl ?_
  refine RL.val (O.assign rfl) rfl ?_
  refine RL.nil ?_
  refine KQ.then_n ?_
  refine KC.seq ?_
  refine KC.block ?_
  refine KC.seq ?_
  refine KC.region ?_
  refine RL.val (O.move rfl) rfl ?_
  refine RL.val (O.peqn Try.underlying49 rfl rfl) rfl ?_
  refine RL.val (O.assign rfl) rfl ?_
  refine RL.nil ?_
  refine KQ.then_n ?_
  refine KC.condT rfl ?_
  refine KC.seq ?_
  refine KC.region ?_
  refine RL.val (O.assign rfl) rfl ?_
  refine RL.val (O.assign rfl) rfl ?_
  refine RL.nil ?_
  refine KQ.then_n ?_
  refine KC.ret ?_
  refine KQ.blk_r ?_
  refine KQ.then_r ?_
  obtain rfl := Option.some.inj hF
  have hM := hM.nilrow 5 1
  refine KQ.rets Try.results28 (RVs.cons (RV.tm rfl) (RVs.cons (RV.tm rfl) RVs.nil)) ?_
  exact ⟨_, rfl, none, 0, rfl, hM⟩
set_option maxRecDepth 100000 in
set_option maxHeartbeats 40000000 in
theorem c_bits_Writer_Put_N (w : World) (v1 : Int) (size2 : Int) (r : Int) (hF : F_bits_Writer_Put_N v1 size2 = some r) :
    CallsR Try.prog 17 [.pointer none, .int .u64 v1, .int .i64 size2] w (fun v w' => v = .int .i64 r ∧ Mem w [] w' []) := by
  refine calls_KC Try.func17 rfl Try.ntmps17 rfl ?_
  have hM := Mem.init w
  unfold F_bits_Writer_Put_N at hF
  refine KC.seq ?_
  refine KC.region ?_
  refine RL.val (O.assign rfl) rfl ?_
  refine RL.nil ?_
  refine KQ.then_n ?_
  refine KC.seq ?_
  refine KC.seq ?_
  refine KC.region ?_
  refine RL.val (O.move rfl) rfl ?_
  refine RL.val (O.peqn Try.underlying56 rfl rfl) rfl ?_
  refine RL.nil ?_
  refine KQ.then_n ?_
  refine KC.condT rfl ?_
  refine KC.seq ?_
  refine KC.region ?_
  refine RL.val (O.assign rfl) rfl ?_
  refine RL.nil ?_
  refine KQ.then_n ?_
  refine KC.ret ?_
  refine KQ.then_r ?_
  obtain rfl := Option.some.inj hF
  refine KQ.rets Try.results17 (RVs.cons (RV.tm rfl) RVs.nil) ?_
  exact ⟨_, rfl, rfl, hM⟩
set_option maxRecDepth 100000 in
set_option maxHeartbeats 40000000 in
theorem c_bits_Writer_Raw_N (w : World) (A2 : Option Addr) (c3 : Nat) (b1 : List Int) (hr4 : Rd w A2 c3 1 b1.length (b1.flatMap (eI .u8))) (r : Int) (hF : F_bits_Writer_Raw_N b1 = some r) :
    CallsR Try.prog 20 [.pointer none, .slice A2 (b1).length c3] w (fun v w' => v = .int .i64 r ∧ Mem w [] w' []) := by
  refine calls_KC Try.func20 rfl Try.ntmps20 rfl ?_
  have hM := Mem.init w
  unfold F_bits_Writer_Raw_N at hF
  refine KC.seq ?_
  refine KC.region ?_
  refine RL.val (O.assign rfl) rfl ?_
  refine RL.nil ?_
  refine KQ.then_n ?_
  refine KC.seq ?_
  refine KC.seq ?_
  refine KC.region ?_
  refine RL.val (O.move rfl) rfl ?_
  refine RL.val (O.peqn Try.underlying56 rfl rfl) rfl ?_
  refine RL.nil ?_
  refine KQ.then_n ?_
  refine KC.condT rfl ?_
  refine KC.seq ?_
  refine KC.region ?_
  refine RL.val (O.assign rfl) rfl ?_
  refine RL.nil ?_
  refine KQ.then_n ?_
  refine KC.ret ?_
  refine KQ.then_r ?_
  obtain rfl := Option.some.inj hF
  refine KQ.rets Try.results20 (RVs.cons (RV.tm rfl) RVs.nil) ?_
  exact ⟨_, rfl, rfl, hM⟩
set_option maxRecDepth 100000 in
set_option maxHeartbeats 40000000 in
theorem c_bits_Writer_Set_N (w : World) (atv1 : Int) (v2 : Int) (size3 : Int) (r : Int) (hF : F_bits_Writer_Set_N atv1 v2 size3 = some r) :
    CallsR Try.prog 21 [.pointer none, .int .i64 atv1, .int .u64 v2, .int .i64 size3] w (fun v w' => v = .int .i64 r ∧ Mem w [] w' []) := by
  refine calls_KC Try.func21 rfl Try.ntmps21 rfl ?_
  have hM := Mem.init w
  unfold F_bits_Writer_Set_N at hF
  refine KC.seq ?_
  refine KC.region ?_
  refine RL.val (O.assign rfl) rfl ?_
  refine RL.nil ?_
  refine KQ.then_n ?_
  refine KC.seq ?_
  refine KC.seq ?_
  refine KC.region ?_
  refine RL.val (O.move rfl) rfl ?_
  refine RL.val (O.peqn Try.underlying56 rfl rfl) rfl ?_
  refine RL.nil ?_
  refine KQ.then_n ?_
  refine KC.condT rfl ?_
  refine KC.seq ?_
  refine KC.region ?_
  refine RL.val (O.assign rfl) rfl ?_
  refine RL.nil ?_
  refine KQ.then_n ?_
  refine KC.ret ?_
  refine KQ.then_r ?_
  obtain rfl := Option.some.inj hF
  refine KQ.rets Try.results21 (RVs.cons (RV.tm rfl) RVs.nil) ?_
  exact ⟨_, rfl, rfl, hM⟩
set_option maxRecDepth 100000 in
set_option maxHeartbeats 40000000 in
theorem c_bits_Writer_Bytes_N (w : World) (r : (List Int)) (hF : F_bits_Writer_Bytes_N = some r) :
    CallsR Try.prog 22 [.pointer none] w (fun v w' => ∃ (A0 : Option Addr) (c0 : Nat), v = .slice A0 (r).length c0 ∧ Mem w [] w' [.row A0 c0 5 1 r.length (r.flatMap (eI .u8))]) := by
  refine calls_KC Try.func22 rfl Try.ntmps22 rfl ?_
  have hM := Mem.init w
  unfold F_bits_Writer_Bytes_N at hF
  refine KC.seq ?_
  refine KC.region ?_
  refine RL.val (O.assign rfl) rfl ?_
  refine RL.nil ?_
  refine KQ.then_n ?_
  refine KC.seq ?_
  refine KC.seq ?_
  refine KC.region ?_
  refine RL.val (O.move rfl) rfl ?_
  refine RL.val (O.peqn Try.underlying56 rfl rfl) rfl ?_
  refine RL.nil ?_
  refine KQ.then_n ?_
  refine KC.condT rfl ?_
  refine KC.seq ?_
  refine KC.region ?_
  refine RL.val (O.assign rfl) rfl ?_
  refine RL.nil ?_
  refine KQ.then_n ?_
  refine KC.ret ?_
  refine KQ.then_r ?_
  obtain rfl := Option.some.inj hF
  have hM := hM.nilrow 5 1
  refine KQ.rets Try.results22 (RVs.cons (RV.tm rfl) RVs.nil) ?_
  exact ⟨_, rfl, none, 0, rfl, hM⟩
end Go.Proofs.Ytpbkjellpboefaa
