/- Printed by a program of this claim: each call returns what the plain function of its name gives. -/
import Derived.Test.YtpbkjellpboefaaRows
import Derived.Test.YtpbkjellpboefaaF
set_option linter.unusedVariables false
namespace Go.Proofs.Ytpbkjellpboefaa
open Go Go.Ox Go.RowKit
theorem sl22 : SliceT Try.prog 22 5 1 1 := ⟨Try.underlying22, by kernel_rfl⟩
theorem ze33 : ZeroT Try.prog 33 [.slice none 0 0] := by unfold ZeroT; kernel_rfl
theorem bd31 : (!(Try.f31.name == "runtime.NumGoroutine") && !Try.f31.body.isNone) = true := by kernel_rfl
theorem bd12 : (!(Try.f12.name == "runtime.NumGoroutine") && !Try.f12.body.isNone) = true := by kernel_rfl
theorem bd33 : (!(Try.f33.name == "runtime.NumGoroutine") && !Try.f33.body.isNone) = true := by kernel_rfl
theorem ze5 : ZeroT Try.prog 5 [.int .u8 0] := by unfold ZeroT; kernel_rfl
theorem un23 : (Try.prog.underlying 23).isSome = true := by kernel_rfl
theorem sz5 : sizeT Try.prog 5 1 = true := by kernel_rfl
theorem bd34 : (!(Try.f34.name == "runtime.NumGoroutine") && !Try.f34.body.isNone) = true := by kernel_rfl
theorem fl33_0 : FieldT Try.prog 33 0 0 22 1 := ⟨by kernel_rfl, by kernel_rfl⟩
theorem sc22 : isScalar Try.prog 22 = true := by kernel_rfl
theorem sz22 : sizeT Try.prog 22 1 = true := by kernel_rfl
theorem bd20 : (!(Try.f20.name == "runtime.NumGoroutine") && !Try.f20.body.isNone) = true := by kernel_rfl
theorem bd17 : (!(Try.f17.name == "runtime.NumGoroutine") && !Try.f17.body.isNone) = true := by kernel_rfl
theorem sc5 : isScalar Try.prog 5 = true := by kernel_rfl
theorem un5 : (Try.prog.underlying 5).isSome = true := by kernel_rfl
theorem bd32 : (!(Try.f32.name == "runtime.NumGoroutine") && !Try.f32.body.isNone) = true := by kernel_rfl
theorem bd10 : (!(Try.f10.name == "runtime.NumGoroutine") && !Try.f10.body.isNone) = true := by kernel_rfl
theorem bd35 : (!(Try.f35.name == "runtime.NumGoroutine") && !Try.f35.body.isNone) = true := by kernel_rfl
theorem bd22 : (!(Try.f22.name == "runtime.NumGoroutine") && !Try.f22.body.isNone) = true := by kernel_rfl
theorem bd23 : (!(Try.f23.name == "runtime.NumGoroutine") && !Try.f23.body.isNone) = true := by kernel_rfl
theorem bd9 : (!(Try.f9.name == "runtime.NumGoroutine") && !Try.f9.body.isNone) = true := by kernel_rfl
theorem bd11 : (!(Try.f11.name == "runtime.NumGoroutine") && !Try.f11.body.isNone) = true := by kernel_rfl
theorem bd30 : (!(Try.f30.name == "runtime.NumGoroutine") && !Try.f30.body.isNone) = true := by kernel_rfl
theorem bd15 : (!(Try.f15.name == "runtime.NumGoroutine") && !Try.f15.body.isNone) = true := by kernel_rfl
theorem bd13 : (!(Try.f13.name == "runtime.NumGoroutine") && !Try.f13.body.isNone) = true := by kernel_rfl
theorem sl30 : SliceT Try.prog 30 35 5 56 := ⟨Try.underlying30, by kernel_rfl⟩
theorem fl35_4 : FieldT Try.prog 35 4 4 22 1 := ⟨by kernel_rfl, by kernel_rfl⟩
theorem bd14 : (!(Try.f14.name == "runtime.NumGoroutine") && !Try.f14.body.isNone) = true := by kernel_rfl
theorem ag35 : isAggT Try.prog 35 5 = true := by kernel_rfl
theorem ze35 : ZeroT Try.prog 35 [.int .i64 0, .int .i64 0, .int .u64 0, .int .i64 0, .slice none 0 0] := by unfold ZeroT; kernel_rfl
theorem fl35_2 : FieldT Try.prog 35 2 2 23 1 := ⟨by kernel_rfl, by kernel_rfl⟩
theorem sc23 : isScalar Try.prog 23 = true := by kernel_rfl
theorem fl35_3 : FieldT Try.prog 35 3 3 3 1 := ⟨by kernel_rfl, by kernel_rfl⟩
theorem sc3 : isScalar Try.prog 3 = true := by kernel_rfl
theorem fl35_0 : FieldT Try.prog 35 0 0 3 1 := ⟨by kernel_rfl, by kernel_rfl⟩
theorem bd16 : (!(Try.f16.name == "runtime.NumGoroutine") && !Try.f16.body.isNone) = true := by kernel_rfl
theorem bd19 : (!(Try.f19.name == "runtime.NumGoroutine") && !Try.f19.body.isNone) = true := by kernel_rfl
theorem bd18 : (!(Try.f18.name == "runtime.NumGoroutine") && !Try.f18.body.isNone) = true := by kernel_rfl
theorem fl35_1 : FieldT Try.prog 35 1 1 3 1 := ⟨by kernel_rfl, by kernel_rfl⟩
theorem moP : Try.prog.follows .mixedOrders = true := by kernel_rfl
theorem bd21 : (!(Try.f21.name == "runtime.NumGoroutine") && !Try.f21.body.isNone) = true := by kernel_rfl
theorem bd24 : (!(Try.f24.name == "runtime.NumGoroutine") && !Try.f24.body.isNone) = true := by kernel_rfl
theorem sz35 : sizeT Try.prog 35 5 = true := by kernel_rfl
theorem sl47 : SliceT Try.prog 47 23 1 8 := ⟨Try.underlying47, by kernel_rfl⟩
theorem sl48 : SliceT Try.prog 48 3 1 8 := ⟨Try.underlying48, by kernel_rfl⟩
theorem bt64 : BuildT Try.prog 64 [(0, 1), (1, 1)] [.slice none 0 0, .int .i64 0] := ⟨by kernel_rfl, by unfold ZeroT; kernel_rfl⟩
theorem bd25 : (!(Try.f25.name == "runtime.NumGoroutine") && !Try.f25.body.isNone) = true := by kernel_rfl
theorem fl64_0 : FieldT Try.prog 64 0 0 22 1 := ⟨by kernel_rfl, by kernel_rfl⟩
theorem fl64_1 : FieldT Try.prog 64 1 1 3 1 := ⟨by kernel_rfl, by kernel_rfl⟩
theorem sz3 : sizeT Try.prog 3 1 = true := by kernel_rfl
theorem bd26 : (!(Try.f26.name == "runtime.NumGoroutine") && !Try.f26.body.isNone) = true := by kernel_rfl
theorem bd27 : (!(Try.f27.name == "runtime.NumGoroutine") && !Try.f27.body.isNone) = true := by kernel_rfl
theorem bd28 : (!(Try.f28.name == "runtime.NumGoroutine") && !Try.f28.body.isNone) = true := by kernel_rfl
theorem bd29 : (!(Try.f29.name == "runtime.NumGoroutine") && !Try.f29.body.isNone) = true := by kernel_rfl
theorem un3 : (Try.prog.underlying 3).isSome = true := by kernel_rfl
theorem ze23 : ZeroT Try.prog 23 [.int .u64 0] := by unfold ZeroT; kernel_rfl
theorem ze3 : ZeroT Try.prog 3 [.int .i64 0] := by unfold ZeroT; kernel_rfl
theorem bt35 : BuildT Try.prog 35 [(0, 1), (1, 1), (2, 1), (3, 1), (4, 1)] [.int .i64 0, .int .i64 0, .int .u64 0, .int .i64 0, .slice none 0 0] := ⟨by kernel_rfl, by unfold ZeroT; kernel_rfl⟩

def R_law01_Act (S : List (Option Nat)) (w : World) (x : T_law01_Act) (cs : List Value) : Prop := ∃ (A0 : Option Addr) (c0 : Nat), cs = [.int .i64 x.f_Do, .int .i64 x.f_At, .int .u64 x.f_V, .int .i64 x.f_Size, .slice A0 (x.f_B).length c0] ∧ Rd w A0 c0 1 x.f_B.length (x.f_B.flatMap (eI .u8)) ∧ Off S x.f_B.length A0
theorem len_law01_Act {S : List (Option Nat)} {w : World} : ∀ x cs, R_law01_Act S w x cs → cs.length = 5 := fun x cs h => by
  obtain ⟨A0, c0, rfl, _⟩ := h
  rfl
theorem mv_law01_Act : Mv R_law01_Act := fun S S' w w' x cs h hf ho => by
  obtain ⟨A0, c0, rfl, h0, o0⟩ := h
  exact ⟨A0, c0, rfl, h0.chg hf o0, ho _ _ _ _ _ h0 o0⟩
set_option maxRecDepth 100000 in
set_option maxHeartbeats 40000000 in
theorem c_bits_right (w : World) (size1 : Int) (r : Bool) (hF : F_bits_right size1 = some r) :
    CallsR Try.prog 31 [.int .i64 size1] w (fun v w' => v = .bool r ∧ Mem w [] w' []) := by
  refine calls_KC Try.func31 rfl Try.ntmps31 rfl ?_
  have hM := Mem.init w
  unfold F_bits_right at hF
  refine KC.seq ?_
  refine KC.region ?_
  refine RL.val (O.assign rfl) rfl ?_
  refine RL.nil ?_
  refine KQ.then_n ?_
  refine KC.cut (fun a w3 => ∃ (t2 : Bool), Kn 9 [(2, .bool t2)] a ∧ Mem w [] w3 [] ∧ F_bits_right_j1 t2 = some r) ?_ ?_
  · refine KC.region ?_
    refine RL.val (O.move rfl) rfl ?_
    refine RL.val (O.geq rfl rfl) rfl ?_
    refine RL.val (O.move rfl) rfl ?_
    refine RL.bcase (t := 5) rfl (fun hc => ?_) (fun hc => ?_)
    · rw [if_pos hc] at hF
      refine RL.gval rfl rfl (O.move rfl) rfl ?_
      refine RL.gval rfl rfl (O.leq rfl rfl) rfl ?_
      refine RL.val (O.pickt rfl rfl) rfl ?_
      refine RL.val (O.assign rfl) rfl ?_
      refine RL.nil ?_
      refine KQ.then_k ?_
      exact fun a ha => ⟨(decide (size1 ≤ 8)), ha.less (less_cons rfl less_nil), hM, hF⟩
    · rw [if_neg (ne_true hc)] at hF
      refine RL.gskip rfl rfl rfl rfl ?_
      refine RL.gskip rfl rfl rfl rfl ?_
      refine RL.val (O.pickf rfl rfl) rfl ?_
      refine RL.val (O.assign rfl) rfl ?_
      refine RL.nil ?_
      refine KQ.then_k ?_
      exact fun a ha => ⟨false, ha.less (less_cons rfl less_nil), hM, hF⟩
  · rintro a w3 ⟨t2, ha, hM, hF⟩
    refine KC.app ha ?_
    clear ha
    unfold F_bits_right_j1 at hF
    refine KC.ret ?_
    obtain rfl := Option.some.inj hF
    refine KQ.rets Try.results31 (RVs.cons (RV.tm rfl) RVs.nil) ?_
    exact ⟨_, rfl, rfl, hM⟩
set_option maxRecDepth 100000 in
set_option maxHeartbeats 40000000 in
theorem c_bits_Least (w : World) (v1 : Int) (r : Int) (hF : F_bits_Least v1 = some r) :
    CallsR Try.prog 12 [.int .u64 v1] w (fun v w' => v = .int .i64 r ∧ Mem w [] w' []) := by
  refine calls_KC Try.func12 rfl Try.ntmps12 rfl ?_
  have hM := Mem.init w
  unfold F_bits_Least at hF
  refine KC.seq ?_
  refine KC.region ?_
  refine RL.val (O.assign rfl) rfl ?_
  refine RL.nil ?_
  refine KQ.then_n ?_
  refine KC.seq ?_
  refine KC.region ?_
  refine RL.val (O.assign rfl) rfl ?_
  refine RL.nil ?_
  refine KQ.then_n ?_
  refine KC.seq ?_
  refine KC.seq ?_
  refine KC.region ?_
  refine RL.val (O.move rfl) rfl ?_
  refine RL.val (O.shr rfl rfl (by decide)) rfl ?_
  refine RL.val (O.assign rfl) rfl ?_
  refine RL.nil ?_
  refine KQ.then_n ?_
  refine KC.block ?_
  refine KC.loop (fun k8 a w6 => ∃ (v4 : Int) (nv5 : Int), Kn 13 [(0, .int .u64 v4), (3, .int .i64 nv5)] a ∧ Mem w [] w6 [] ∧ F_bits_Least_L1 k8 v4 nv5 = some r) ?_ ?_
  · exact fun a ha => ⟨fuel0, (Ox.shr .u64 v1 8), 1, ha.less (less_cons rfl (less_cons rfl less_nil)), hM, hF⟩
  · rintro k8 a w6 ⟨v4, nv5, ha, hM, hF⟩
    refine KC.app ha ?_
    clear ha
    cases k8 with
    | zero => exact (none_some hF).elim
    | succ k8 =>
    have hF : F_bits_Least_l1 (F_bits_Least_L1 k8) v4 nv5 = some r := hF
    unfold F_bits_Least_l1 at hF
    refine KC.seq ?_
    refine KC.seq ?_
    refine KC.region ?_
    refine RL.val (O.move rfl) rfl ?_
    refine RL.val (O.gtr rfl rfl) rfl ?_
    refine RL.nil ?_
    refine KQ.then_n ?_
    refine KC.cond rfl (fun hc => ?_) (fun hc => ?_)
    · rw [if_pos hc] at hF
      refine KC.skip ?_
      refine KQ.then_n ?_
      refine KC.seq ?_
      refine KC.block ?_
      refine KC.region ?_
      refine RL.val (O.move rfl) rfl ?_
      refine RL.val (O.add rfl rfl) rfl ?_
      refine RL.val (O.assign rfl) rfl ?_
      refine RL.nil ?_
      refine KQ.blk_n ?_
      refine KQ.then_n ?_
      refine KC.region ?_
      refine RL.val (O.move rfl) rfl ?_
      refine RL.val (O.shr rfl rfl (by decide)) rfl ?_
      refine RL.val (O.assign rfl) rfl ?_
      refine RL.nil ?_
      refine KQ.then_k ?_
      exact fun a ha => ⟨k8, Nat.lt_succ_self k8, (Ox.shr .u64 v4 8), (IntKind.i64.wrap (nv5 + 1)), ha.less (less_cons rfl (less_cons rfl less_nil)), hM, hF⟩
    · rw [if_neg (ne_true hc)] at hF
      refine KC.exit ?_
      refine KQ.then_x ?_
      refine KQ.then_x ?_
      refine KQ.blk_x ?_
      refine KQ.then_n ?_
      refine KC.seq ?_
      refine KC.region ?_
      refine RL.val (O.move rfl) rfl ?_
      refine RL.val (O.assign rfl) rfl ?_
      refine RL.nil ?_
      refine KQ.then_n ?_
      refine KC.ret ?_
      obtain rfl := Option.some.inj hF
      refine KQ.rets Try.results12 (RVs.cons (RV.tm rfl) RVs.nil) ?_
      exact ⟨_, rfl, rfl, hM⟩
set_option maxRecDepth 100000 in
set_option maxHeartbeats 40000000 in
theorem c_bits_fits (w : World) (v1 : Int) (size2 : Int) (r : Bool) (hF : F_bits_fits v1 size2 = some r) :
    CallsR Try.prog 33 [.int .u64 v1, .int .i64 size2] w (fun v w' => v = .bool r ∧ Mem w [] w' []) := by
  refine calls_KC Try.func33 rfl Try.ntmps33 rfl ?_
  have hM := Mem.init w
  unfold F_bits_fits at hF
  refine KC.seq ?_
  refine KC.region ?_
  refine RL.val (O.assign rfl) rfl ?_
  refine RL.nil ?_
  refine KQ.then_n ?_
  refine KC.cut (fun a w12 => ∃ (t11 : Bool), Kn 13 [(4, .bool t11)] a ∧ Mem w [] w12 [] ∧ F_bits_fits_j1 t11 = some r) ?_ ?_
  · refine KC.region ?_
    refine RL.val (O.move rfl) rfl ?_
    obtain ⟨y3, hx4, hF⟩ := obind hF
    refine RL.call Try.func31 bd31 rfl rfl (c_bits_right _ size2 _ hx4) fun v w5 hv => ?_
    obtain ⟨rfl, hN6⟩ := hv
    have hM := hM.call0 hN6
    refine RL.val (O.move rfl) rfl ?_
    refine RL.bcase (t := 7) rfl (fun hc => ?_) (fun hc => ?_)
    · rw [if_pos hc] at hF
      refine RL.gval rfl rfl (O.move rfl) rfl ?_
      obtain ⟨y7, hx8, hF⟩ := obind hF
      refine RL.gcall rfl rfl Try.func12 bd12 rfl rfl (c_bits_Least _ v1 _ hx8) fun v w9 hv => ?_
      obtain ⟨rfl, hN10⟩ := hv
      have hM := hM.call0 hN10
      refine RL.gval rfl rfl (O.move rfl) rfl ?_
      refine RL.gval rfl rfl (O.leq rfl rfl) rfl ?_
      refine RL.val (O.pickt rfl rfl) rfl ?_
      refine RL.val (O.assign rfl) rfl ?_
      refine RL.nil ?_
      refine KQ.then_k ?_
      exact fun a ha => ⟨(decide (y7 ≤ size2)), ha.less (less_cons rfl less_nil), hM, hF⟩
    · rw [if_neg (ne_true hc)] at hF
      refine RL.gskip rfl rfl rfl rfl ?_
      refine RL.gskip rfl rfl rfl rfl ?_
      refine RL.gskip rfl rfl rfl rfl ?_
      refine RL.gskip rfl rfl rfl rfl ?_
      refine RL.val (O.pickf rfl rfl) rfl ?_
      refine RL.val (O.assign rfl) rfl ?_
      refine RL.nil ?_
      refine KQ.then_k ?_
      exact fun a ha => ⟨false, ha.less (less_cons rfl less_nil), hM, hF⟩
  · rintro a w12 ⟨t11, ha, hM, hF⟩
    refine KC.app ha ?_
    clear ha
    unfold F_bits_fits_j1 at hF
    refine KC.ret ?_
    obtain rfl := Option.some.inj hF
    refine KQ.rets Try.results33 (RVs.cons (RV.tm rfl) RVs.nil) ?_
    exact ⟨_, rfl, rfl, hM⟩
set_option maxRecDepth 100000 in
set_option maxHeartbeats 40000000 in
theorem c_bits_of (w : World) (v1 : Int) (size2 : Int) (r : (List Int)) (hF : F_bits_of v1 size2 = some r) :
    CallsR Try.prog 34 [.int .u64 v1, .int .i64 size2] w (fun v w' => ∃ (A0 : Option Addr) (c0 : Nat), v = .slice A0 (r).length c0 ∧ Mem w [] w' [.row A0 c0 5 1 r.length (r.flatMap (eI .u8))]) := by
  refine calls_KC Try.func34 rfl Try.ntmps34 rfl ?_
  have hM := Mem.init w
  unfold F_bits_of at hF
  refine KC.seq ?_
  refine KC.region ?_
  refine RL.val (O.assign rfl) rfl ?_
  refine RL.nil ?_
  refine KQ.then_n ?_
  refine KC.seq ?_
  refine KC.region ?_
  refine RL.val (O.move rfl) rfl ?_
  obtain ⟨hq5, hF⟩ := cut_some hF
  refine RL.eff (E.mks (enc := (eI .u8)) (zr := 0) hM sl22 ze5 rfl rfl (fun _ => rfl) rfl rfl rfl (of_decide_eq_true hq5)) rfl fun v w4 hv => ?_
  obtain ⟨A3, rfl, hM, hf⟩ := hv
  refine RL.val (O.assign rfl) rfl ?_
  refine RL.nil ?_
  refine KQ.then_n ?_
  refine KC.seq ?_
  refine KC.seq ?_
  refine KC.region ?_
  refine RL.val (O.move rfl) rfl ?_
  refine RL.val (O.move rfl) rfl ?_
  refine RL.nil ?_
  refine KQ.then_n ?_
  refine KC.block ?_
  refine KC.loop (fun k31 a w29 => ∃ (A25 : Option Addr) (c26 : Nat) (b27 : List Int) (t28 : Int), Kn 26 [(0, .int .u64 v1), (1, .int .i64 size2), (5, .slice A25 (b27).length c26), (9, .int .i64 size2), (10, .int .i64 t28)] a ∧ Mem w [] w29 [.row A25 c26 5 1 (b27).length ((b27).flatMap (eI .u8))] ∧ F_bits_of_L1 v1 size2 k31 b27 t28 = some r) ?_ ?_
  · exact fun a ha => ⟨fuel0, A3, (Int.toNat size2), (List.replicate (Int.toNat size2) 0), 0, ha.less (less_cons rfl (less_cons rfl (less_cons rfl (less_cons rfl (less_cons rfl less_nil))))), hM, hF⟩
  · rintro k31 a w29 ⟨A25, c26, b27, t28, ha, hM, hF⟩
    refine KC.app ha ?_
    clear ha
    cases k31 with
    | zero => exact (none_some hF).elim
    | succ k31 =>
    have hF : F_bits_of_l1 (F_bits_of_L1 v1 size2 k31) v1 size2 b27 t28 = some r := hF
    unfold F_bits_of_l1 at hF
    refine KC.seq ?_
    refine KC.region ?_
    refine RL.val (O.lss rfl rfl) rfl ?_
    refine RL.nil ?_
    refine KQ.then_n ?_
    refine KC.seq ?_
    refine KC.cond rfl (fun hc => ?_) (fun hc => ?_)
    · rw [if_pos hc] at hF
      refine KC.skip ?_
      refine KQ.then_n ?_
      refine KC.seq ?_
      refine KC.block ?_
      refine KC.seq ?_
      refine KC.region ?_
      refine RL.val (O.move rfl) rfl ?_
      refine RL.val (O.assign rfl) rfl ?_
      refine RL.nil ?_
      refine KQ.then_n ?_
      refine KC.region ?_
      refine RL.val (O.move rfl) rfl ?_
      refine RL.val (O.move rfl) rfl ?_
      refine RL.val (O.sub rfl rfl) rfl ?_
      refine RL.val (O.move rfl) rfl ?_
      refine RL.val (O.sub rfl rfl) rfl ?_
      refine RL.val (O.move rfl) rfl ?_
      refine RL.val (O.move rfl) rfl ?_
      refine RL.val (O.mul rfl rfl) rfl ?_
      obtain ⟨hq32, hF⟩ := cut_some hF
      refine RL.val (O.shr rfl rfl (of_decide_eq_true hq32)) rfl ?_
      refine RL.val (O.conv un23 Try.underlying5 rfl) rfl ?_
      obtain ⟨xv35, hx34, hF⟩ := obind hF
      have hA33 := Rd.atN (f := (eI .u8)) (s := 1) (fun _ => rfl) (by decide) (hM.rd (i := 0) rfl) hx34
      refine RL.val (O.idxA sl22 (hA33) rfl rfl) rfl ?_
      refine RL.effs (E.stR (enc := (eI .u8)) (j := 0) (off := 0) (vs := [.int .u8 (IntKind.u8.wrap (Ox.shr .u64 v1 (IntKind.i64.wrap (8 * t28))))]) (x' := (IntKind.u8.wrap (Ox.shr .u64 v1 (IntKind.i64.wrap (8 * t28))))) hM rfl (fun _ => rfl) hx34 sz5 rfl (addsR_eq [] rfl) rfl rfl (One.all rfl) rfl rfl) fun w36 hM => ?_
      obtain ⟨hM, hn37⟩ := hM
      refine RL.reslot (t := 5) rfl hn37 ?_
      refine RL.reslot (t := 13) rfl hn37 ?_
      refine RL.nil ?_
      refine KQ.blk_n ?_
      refine KQ.then_n ?_
      refine KC.region ?_
      refine RL.val (O.add rfl rfl) rfl ?_
      refine RL.val (O.move rfl) rfl ?_
      refine RL.nil ?_
      refine KQ.then_k ?_
      exact fun a ha => ⟨k31, Nat.lt_succ_self k31, A25, c26, (b27.set ((IntKind.i64.wrap ((IntKind.i64.wrap (size2 - 1)) - t28))).toNat (IntKind.u8.wrap (Ox.shr .u64 v1 (IntKind.i64.wrap (8 * t28))))), (IntKind.i64.wrap (t28 + 1)), ha.less (less_cons rfl (less_cons rfl (less_cons rfl (less_cons rfl (less_cons rfl less_nil))))), hM, hF⟩
    · rw [if_neg (ne_true hc)] at hF
      refine KC.exit ?_
      refine KQ.then_x ?_
      refine KQ.then_x ?_
      refine KQ.blk_x ?_
      refine KQ.then_n ?_
      refine KC.seq ?_
      refine KC.region ?_
      refine RL.val (O.move rfl) rfl ?_
      refine RL.val (O.assign rfl) rfl ?_
      refine RL.nil ?_
      refine KQ.then_n ?_
      refine KC.ret ?_
      obtain rfl := Option.some.inj hF
      refine KQ.rets Try.results34 (RVs.cons (RV.tm rfl) RVs.nil) ?_
      exact ⟨_, rfl, A25, c26, rfl, hM⟩
set_option maxRecDepth 100000 in
set_option maxHeartbeats 40000000 in
theorem c_bits_Writer_Raw (w : World) (g2 : Nat) (wv1 : T_bits_Writer) (A4 : Option Addr) (c5 : Nat) (hL12 : Lent w [.box g2 33 [.slice A4 (wv1.f_b).length c5], .row A4 c5 5 1 (wv1.f_b).length ((wv1.f_b).flatMap (eI .u8))]) (A8 : Option Addr) (c9 : Nat) (b7 : List Int) (hr10 : Rd w A8 c9 1 b7.length (b7.flatMap (eI .u8))) (ho11 : Off [some g2, rblk A4 c5] b7.length A8) (r : Int × T_bits_Writer) (hF : F_bits_Writer_Raw wv1 b7 = some r) :
    CallsR Try.prog 20 [.pointer (some ⟨g2, 0, none⟩), .slice A8 (b7).length c9] w (fun v w' => ∃ (A0 : Option Addr) (c0 : Nat), v = .int .i64 r.1 ∧ Mem w [some g2, rblk A4 c5] w' [.box g2 33 [.slice A0 (r.2.f_b).length c0], .row A0 c0 5 1 r.2.f_b.length (r.2.f_b.flatMap (eI .u8))]) := by
  refine calls_KC Try.func20 rfl Try.ntmps20 rfl ?_
  have hM : Mem w [some g2, rblk A4 c5] w [.box g2 33 [.slice A4 (wv1.f_b).length c5], .row A4 c5 5 1 (wv1.f_b).length ((wv1.f_b).flatMap (eI .u8))] := Mem.lendN hL12
  unfold F_bits_Writer_Raw at hF
  refine KC.seq ?_
  refine KC.region ?_
  refine RL.val (O.assign rfl) rfl ?_
  refine RL.nil ?_
  refine KQ.then_n ?_
  refine KC.seq ?_
  refine KC.seq ?_
  refine KC.region ?_
  refine RL.val (O.move rfl) rfl ?_
  refine RL.val (O.peqn Try.underlying56 rfl rfl) rfl ?_
  refine RL.nil ?_
  refine KQ.then_n ?_
  refine KC.condF rfl ?_
  refine KC.skip ?_
  refine KQ.then_n ?_
  refine KC.seq ?_
  refine KC.region ?_
  refine RL.val (O.move rfl) rfl ?_
  refine RL.val (O.move rfl) rfl ?_
  refine RL.val (O.nilp rfl) rfl ?_
  refine RL.val (O.fldA fl33_0 (by decide) rfl) rfl ?_
  refine RL.val (O.load sc22 rfl (Cs.adds [0] ((hM.bx (i := 0) rfl)) rfl)) rfl ?_
  refine RL.val (O.move rfl) rfl ?_
  obtain ⟨hq16, hF⟩ := cut_some hF
  refine RL.eff (E.app (enc := (eI .u8)) (xs := wv1.f_b) (ys := b7) (j := 1) hM rfl sl22 ze5 rfl rfl rfl rfl rfl (hM.inp hr10 ho11) (fun _ => One.all rfl) (of_decide_eq_true hq16)) rfl fun v w15 hv => ?_
  obtain ⟨A13, c14, rfl, hM⟩ := hv
  refine RL.val (O.nilp rfl) rfl ?_
  refine RL.val (O.fldA fl33_0 (by decide) rfl) rfl ?_
  refine RL.effs (E.stB (j := 0) (off := 0) (vs := [.slice A13 ((wv1.f_b ++ b7)).length c14]) (cs' := [.slice A13 ((wv1.f_b ++ b7)).length c14]) hM rfl sz22 rfl (adds_eq [0] rfl) rfl rfl (One.all rfl) rfl rfl) fun w18 hM => ?_
  refine RL.nil ?_
  refine KQ.then_n ?_
  refine KC.seq ?_
  refine KC.region ?_
  refine RL.val (O.assign rfl) rfl ?_
  refine RL.nil ?_
  refine KQ.then_n ?_
  refine KC.ret ?_
  obtain rfl := Option.some.inj hF
  refine KQ.rets Try.results20 (RVs.cons (RV.tm rfl) RVs.nil) ?_
  exact ⟨_, rfl, A13, c14, rfl, hM⟩
set_option maxRecDepth 100000 in
set_option maxHeartbeats 40000000 in
theorem c_bits_Writer_Put (w : World) (g2 : Nat) (wv1 : T_bits_Writer) (A4 : Option Addr) (c5 : Nat) (hL9 : Lent w [.box g2 33 [.slice A4 (wv1.f_b).length c5], .row A4 c5 5 1 (wv1.f_b).length ((wv1.f_b).flatMap (eI .u8))]) (v7 : Int) (size8 : Int) (r : Int × T_bits_Writer) (hF : F_bits_Writer_Put wv1 v7 size8 = some r) :
    CallsR Try.prog 17 [.pointer (some ⟨g2, 0, none⟩), .int .u64 v7, .int .i64 size8] w (fun v w' => ∃ (A0 : Option Addr) (c0 : Nat), v = .int .i64 r.1 ∧ Mem w [some g2, rblk A4 c5] w' [.box g2 33 [.slice A0 (r.2.f_b).length c0], .row A0 c0 5 1 r.2.f_b.length (r.2.f_b.flatMap (eI .u8))]) := by
  refine calls_KC Try.func17 rfl Try.ntmps17 rfl ?_
  have hM : Mem w [some g2, rblk A4 c5] w [.box g2 33 [.slice A4 (wv1.f_b).length c5], .row A4 c5 5 1 (wv1.f_b).length ((wv1.f_b).flatMap (eI .u8))] := Mem.lendN hL9
  unfold F_bits_Writer_Put at hF
  refine KC.seq ?_
  refine KC.region ?_
  refine RL.val (O.assign rfl) rfl ?_
  refine RL.nil ?_
  refine KQ.then_n ?_
  refine KC.seq ?_
  refine KC.seq ?_
  refine KC.region ?_
  refine RL.val (O.move rfl) rfl ?_
  refine RL.val (O.peqn Try.underlying56 rfl rfl) rfl ?_
  refine RL.nil ?_
  refine KQ.then_n ?_
  refine KC.condF rfl ?_
  refine KC.skip ?_
  refine KQ.then_n ?_
  refine KC.seq ?_
  refine KC.seq ?_
  refine KC.region ?_
  refine RL.val (O.move rfl) rfl ?_
  refine RL.val (O.move rfl) rfl ?_
  obtain ⟨y10, hx11, hF⟩ := obind hF
  refine RL.call Try.func33 bd33 rfl rfl (c_bits_fits _ v7 size8 _ hx11) fun v w12 hv => ?_
  obtain ⟨rfl, hN13⟩ := hv
  have hM := hM.call0 hN13
  refine RL.val (O.not rfl) rfl ?_
  refine RL.nil ?_
  refine KQ.then_n ?_
  refine KC.cond rfl (fun hc => ?_) (fun hc => ?_)
  · rw [if_pos hc] at hF
    refine KC.seq ?_
    refine KC.region ?_
    refine RL.val (O.assign rfl) rfl ?_
    refine RL.nil ?_
    refine KQ.then_n ?_
    refine KC.ret ?_
    refine KQ.then_r ?_
    obtain rfl := Option.some.inj hF
    refine KQ.rets Try.results17 (RVs.cons (RV.tm rfl) RVs.nil) ?_
    exact ⟨_, rfl, A4, c5, rfl, hM⟩
  · rw [if_neg (ne_true hc)] at hF
    refine KC.skip ?_
    refine KQ.then_n ?_
    refine KC.seq ?_
    refine KC.region ?_
    refine RL.val (O.move rfl) rfl ?_
    refine RL.val (O.move rfl) rfl ?_
    refine RL.val (O.move rfl) rfl ?_
    obtain ⟨y14, hx15, hF⟩ := obind hF
    refine RL.call Try.func34 bd34 rfl rfl (c_bits_of _ v7 size8 _ hx15) fun v w16 hv => ?_
    obtain ⟨A18, c19, rfl, hN17⟩ := hv
    have hM := hM.call hN17
    obtain ⟨y21, hx22, hF⟩ := obind hF
    refine RL.call Try.func20 bd20 rfl rfl (c_bits_Writer_Raw _ _ wv1 _ _ (hM.lent [0, 1] rfl (by decide)) _ _ y14 (hM.rd (i := 2) rfl) (hM.offR [0, 1] rfl (i := 2) rfl rfl) _ hx22) fun v w23 hv => ?_
    obtain ⟨A25, c26, rfl, hN24⟩ := hv
    have hM := hM.callL [0, 1] [2] rfl rfl (by decide) rfl hN24
    refine RL.val (O.assign rfl) rfl ?_
    refine RL.nil ?_
    refine KQ.then_n ?_
    refine KC.ret ?_
    obtain rfl := Option.some.inj hF
    have hM := hM.pick [1, 2] rfl (by decide)
    refine KQ.rets Try.results17 (RVs.cons (RV.tm rfl) RVs.nil) ?_
    exact ⟨_, rfl, A25, c26, rfl, hM⟩
set_option maxRecDepth 100000 in
set_option maxHeartbeats 40000000 in
theorem c_bits_value (w : World) (A2 : Option Addr) (c3 : Nat) (b1 : List Int) (hr4 : Rd w A2 c3 1 b1.length (b1.flatMap (eI .u8))) (r : Int) (hF : F_bits_value b1 = some r) :
    CallsR Try.prog 32 [.slice A2 (b1).length c3] w (fun v w' => v = .int .u64 r ∧ Mem w [] w' []) := by
  refine calls_KC Try.func32 rfl Try.ntmps32 rfl ?_
  have hM := Mem.init w
  unfold F_bits_value at hF
  refine KC.seq ?_
  refine KC.region ?_
  refine RL.val (O.assign rfl) rfl ?_
  refine RL.nil ?_
  refine KQ.then_n ?_
  refine KC.seq ?_
  refine KC.seq ?_
  refine KC.region ?_
  refine RL.val (O.move rfl) rfl ?_
  refine RL.val (O.len sl22 rfl) rfl ?_
  refine RL.val (O.move rfl) rfl ?_
  refine RL.nil ?_
  refine KQ.then_n ?_
  refine KC.block ?_
  refine KC.loop (fun k17 a w15 => ∃ (v13 : Int) (t14 : Int), Kn 18 [(2, .int .u64 v13), (5, .slice A2 (b1).length c3), (6, .int .i64 (b1.length : Int)), (7, .int .i64 t14)] a ∧ Mem w [] w15 [] ∧ F_bits_value_L1 b1 k17 v13 t14 = some r) ?_ ?_
  · exact fun a ha => ⟨fuel0, 0, 0, ha.less (less_cons rfl (less_cons rfl (less_cons rfl (less_cons rfl less_nil)))), hM, hF⟩
  · rintro k17 a w15 ⟨v13, t14, ha, hM, hF⟩
    refine KC.app ha ?_
    clear ha
    cases k17 with
    | zero => exact (none_some hF).elim
    | succ k17 =>
    have hF : F_bits_value_l1 (F_bits_value_L1 b1 k17) b1 v13 t14 = some r := hF
    unfold F_bits_value_l1 at hF
    refine KC.seq ?_
    refine KC.region ?_
    refine RL.val (O.lss rfl rfl) rfl ?_
    refine RL.nil ?_
    refine KQ.then_n ?_
    refine KC.seq ?_
    refine KC.cond rfl (fun hc => ?_) (fun hc => ?_)
    · rw [if_pos hc] at hF
      refine KC.skip ?_
      refine KQ.then_n ?_
      refine KC.seq ?_
      refine KC.block ?_
      refine KC.seq ?_
      refine KC.region ?_
      obtain ⟨xv20, hx19, hF⟩ := obind hF
      have hA18 := Rd.atN (f := (eI .u8)) (s := 1) (fun _ => rfl) (by decide) (hM.inp hr4 Off.nil) hx19
      refine RL.val (O.idxA sl22 (hA18) rfl rfl) rfl ?_
      refine RL.val (O.load sc5 rfl (hA18).cells.at0) rfl ?_
      refine RL.val (O.assign rfl) rfl ?_
      refine RL.nil ?_
      refine KQ.then_n ?_
      refine KC.region ?_
      refine RL.val (O.move rfl) rfl ?_
      refine RL.val (O.shl rfl rfl (by decide)) rfl ?_
      refine RL.val (O.move rfl) rfl ?_
      refine RL.val (O.conv un5 Try.underlying23 rfl) rfl ?_
      refine RL.val (O.or rfl rfl) rfl ?_
      refine RL.val (O.assign rfl) rfl ?_
      refine RL.nil ?_
      refine KQ.blk_n ?_
      refine KQ.then_n ?_
      refine KC.region ?_
      refine RL.val (O.add rfl rfl) rfl ?_
      refine RL.val (O.move rfl) rfl ?_
      refine RL.nil ?_
      refine KQ.then_k ?_
      exact fun a ha => ⟨k17, Nat.lt_succ_self k17, (bits .or .u64 (Ox.shl .u64 v13 8) (IntKind.u64.wrap xv20)), (IntKind.i64.wrap (t14 + 1)), ha.less (less_cons rfl (less_cons rfl (less_cons rfl (less_cons rfl less_nil)))), hM, hF⟩
    · rw [if_neg (ne_true hc)] at hF
      refine KC.exit ?_
      refine KQ.then_x ?_
      refine KQ.then_x ?_
      refine KQ.blk_x ?_
      refine KQ.then_n ?_
      refine KC.seq ?_
      refine KC.region ?_
      refine RL.val (O.move rfl) rfl ?_
      refine RL.val (O.assign rfl) rfl ?_
      refine RL.nil ?_
      refine KQ.then_n ?_
      refine KC.ret ?_
      obtain rfl := Option.some.inj hF
      refine KQ.rets Try.results32 (RVs.cons (RV.tm rfl) RVs.nil) ?_
      exact ⟨_, rfl, rfl, hM⟩
set_option maxRecDepth 100000 in
set_option maxHeartbeats 40000000 in
theorem c_bits_Get (w : World) (A2 : Option Addr) (c3 : Nat) (b1 : List Int) (hr4 : Rd w A2 c3 1 b1.length (b1.flatMap (eI .u8))) (atv5 : Int) (size6 : Int) (r : Int × Int) (hF : F_bits_Get b1 atv5 size6 = some r) :
    CallsR Try.prog 10 [.slice A2 (b1).length c3, .int .i64 atv5, .int .i64 size6] w (fun v w' => v = .tuple #[.int .u64 r.1, .int .i64 r.2] ∧ Mem w [] w' []) := by
  refine calls_KC Try.func10 rfl Try.ntmps10 rfl ?_
  have hM := Mem.init w
  unfold F_bits_Get at hF
  refine KC.seq ?_
  refine KC.region ?_
  refine RL.val (O.assign rfl) rfl ?_
  refine RL.val (O.assign rfl) rfl ?_
  refine RL.nil ?_
  refine KQ.then_n ?_
  refine KC.seq ?_
  refine KC.block ?_
  refine KC.cut (fun a w12 => ∃ (t11 : Bool), Kn 36 [(0, .slice A2 (b1).length c3), (1, .int .i64 atv5), (2, .int .i64 size6), (8, .bool t11)] a ∧ Mem w [] w12 [] ∧ F_bits_Get_j1 b1 atv5 size6 t11 = some r) ?_ ?_
  · refine KC.region ?_
    refine RL.val (O.move rfl) rfl ?_
    obtain ⟨y7, hx8, hF⟩ := obind hF
    refine RL.call Try.func31 bd31 rfl rfl (c_bits_right _ size6 _ hx8) fun v w9 hv => ?_
    obtain ⟨rfl, hN10⟩ := hv
    have hM := hM.call0 hN10
    refine RL.val (O.not rfl) rfl ?_
    refine RL.val (O.move rfl) rfl ?_
    refine RL.bcase (t := 12) rfl (fun hc => ?_) (fun hc => ?_)
    · rw [if_pos hc] at hF
      refine RL.gskip rfl rfl rfl rfl ?_
      refine RL.gskip rfl rfl rfl rfl ?_
      refine RL.val (O.pickt rfl rfl) rfl ?_
      refine RL.val (O.assign rfl) rfl ?_
      refine RL.nil ?_
      refine KQ.then_k ?_
      exact fun a ha => ⟨true, ha.less (less_cons rfl (less_cons rfl (less_cons rfl (less_cons rfl less_nil)))), hM, hF⟩
    · rw [if_neg (ne_true hc)] at hF
      refine RL.gval rfl rfl (O.move rfl) rfl ?_
      refine RL.gval rfl rfl (O.lss rfl rfl) rfl ?_
      refine RL.val (O.pickf rfl rfl) rfl ?_
      refine RL.val (O.assign rfl) rfl ?_
      refine RL.nil ?_
      refine KQ.then_k ?_
      exact fun a ha => ⟨(decide (atv5 < 0)), ha.less (less_cons rfl (less_cons rfl (less_cons rfl (less_cons rfl less_nil)))), hM, hF⟩
  · rintro a w12 ⟨t11, ha, hM, hF⟩
    refine KC.app ha ?_
    clear ha
    unfold F_bits_Get_j1 at hF
    refine KC.cond rfl (fun hc => ?_) (fun hc => ?_)
    · rw [if_pos hc] at hF
      refine KC.seq ?_
      refine KC.region ?_
      refine RL.val (O.assign rfl) rfl ?_
      refine RL.val (O.assign rfl) rfl ?_
      refine RL.nil ?_
      refine KQ.then_n ?_
      refine KC.ret ?_
      refine KQ.blk_r ?_
      refine KQ.then_r ?_
      obtain rfl := Option.some.inj hF
      refine KQ.rets Try.results10 (RVs.cons (RV.tm rfl) (RVs.cons (RV.tm rfl) RVs.nil)) ?_
      exact ⟨_, rfl, rfl, hM⟩
    · rw [if_neg (ne_true hc)] at hF
      refine KC.cut (fun a w14 => ∃ (t13 : Bool), Kn 36 [(0, .slice A2 (b1).length c3), (1, .int .i64 atv5), (2, .int .i64 size6), (16, .bool t13)] a ∧ Mem w [] w14 [] ∧ F_bits_Get_j2 b1 atv5 size6 t13 = some r) ?_ ?_
      · refine KC.region ?_
        refine RL.val (O.move rfl) rfl ?_
        refine RL.val (O.move rfl) rfl ?_
        refine RL.val (O.len sl22 rfl) rfl ?_
        refine RL.val (O.gtr rfl rfl) rfl ?_
        refine RL.val (O.move rfl) rfl ?_
        refine RL.bcase (t := 21) rfl (fun hc => ?_) (fun hc => ?_)
        · rw [if_pos hc] at hF
          refine RL.gskip rfl rfl rfl rfl ?_
          refine RL.gskip rfl rfl rfl rfl ?_
          refine RL.gskip rfl rfl rfl rfl ?_
          refine RL.gskip rfl rfl rfl rfl ?_
          refine RL.gskip rfl rfl rfl rfl ?_
          refine RL.gskip rfl rfl rfl rfl ?_
          refine RL.val (O.pickt rfl rfl) rfl ?_
          refine RL.val (O.assign rfl) rfl ?_
          refine RL.nil ?_
          refine KQ.then_k ?_
          exact fun a ha => ⟨true, ha.less (less_cons rfl (less_cons rfl (less_cons rfl (less_cons rfl less_nil)))), hM, hF⟩
        · rw [if_neg (ne_true hc)] at hF
          refine RL.gval rfl rfl (O.move rfl) rfl ?_
          refine RL.gval rfl rfl (O.len sl22 rfl) rfl ?_
          refine RL.gval rfl rfl (O.move rfl) rfl ?_
          refine RL.gval rfl rfl (O.sub rfl rfl) rfl ?_
          refine RL.gval rfl rfl (O.move rfl) rfl ?_
          refine RL.gval rfl rfl (O.lss rfl rfl) rfl ?_
          refine RL.val (O.pickf rfl rfl) rfl ?_
          refine RL.val (O.assign rfl) rfl ?_
          refine RL.nil ?_
          refine KQ.then_k ?_
          exact fun a ha => ⟨(decide ((IntKind.i64.wrap ((b1.length : Int) - atv5)) < size6)), ha.less (less_cons rfl (less_cons rfl (less_cons rfl (less_cons rfl less_nil)))), hM, hF⟩
      · rintro a w14 ⟨t13, ha, hM, hF⟩
        refine KC.app ha ?_
        clear ha
        unfold F_bits_Get_j2 at hF
        refine KC.cond rfl (fun hc => ?_) (fun hc => ?_)
        · rw [if_pos hc] at hF
          refine KC.seq ?_
          refine KC.region ?_
          refine RL.val (O.assign rfl) rfl ?_
          refine RL.val (O.assign rfl) rfl ?_
          refine RL.nil ?_
          refine KQ.then_n ?_
          refine KC.ret ?_
          refine KQ.blk_r ?_
          refine KQ.then_r ?_
          obtain rfl := Option.some.inj hF
          refine KQ.rets Try.results10 (RVs.cons (RV.tm rfl) (RVs.cons (RV.tm rfl) RVs.nil)) ?_
          exact ⟨_, rfl, rfl, hM⟩
        · rw [if_neg (ne_true hc)] at hF
          refine KC.skip ?_
          refine KQ.blk_n ?_
          refine KQ.then_n ?_
          refine KC.seq ?_
          refine KC.region ?_
          refine RL.val (O.move rfl) rfl ?_
          refine RL.val (O.move rfl) rfl ?_
          refine RL.val (O.move rfl) rfl ?_
          refine RL.val (O.move rfl) rfl ?_
          refine RL.val (O.add rfl rfl) rfl ?_
          obtain ⟨cut15, hy16, hF⟩ := obind hF
          obtain ⟨A17, c18, eA20, ec21⟩ := cutN A2 c3 (Int.toNat atv5) 1
          have hr19 := Rd.cutT (enc := (eI .u8)) (s := 1) (fun _ => rfl) hr4 hy16 (m := c3) (by have := hr4.cap; have := (gcut_some hy16).2.2.1; omega) (Nat.le_refl _)
          rw [← eA20, ← ec21] at hr19
          refine RL.val (v := .slice A17 (cut15).length c18) (by rw [eA20, ec21]; exact O.cutT sl22 (hM.inp hr4 Off.nil) hy16 rfl rfl rfl) rfl ?_
          obtain ⟨y22, hx23, hF⟩ := obind hF
          refine RL.call Try.func32 bd32 rfl rfl (c_bits_value _ _ _ cut15 (hM.inp hr19 Off.nil) _ hx23) fun v w24 hv => ?_
          obtain ⟨rfl, hN25⟩ := hv
          have hM := hM.call0 hN25
          refine RL.val (O.assign rfl) rfl ?_
          refine RL.val (O.assign rfl) rfl ?_
          refine RL.nil ?_
          refine KQ.then_n ?_
          refine KC.ret ?_
          obtain rfl := Option.some.inj hF
          refine KQ.rets Try.results10 (RVs.cons (RV.tm rfl) (RVs.cons (RV.tm rfl) RVs.nil)) ?_
          exact ⟨_, rfl, rfl, hM⟩
set_option maxRecDepth 100000 in
set_option maxHeartbeats 40000000 in
theorem c_slices_Clone_byte_byte (w : World) (A2 : Option Addr) (c3 : Nat) (s1 : List Int) (hr4 : Rd w A2 c3 1 s1.length (s1.flatMap (eI .u8))) (r : (List Int)) (hF : F_slices_Clone_byte_byte s1 = some r) :
    CallsR Try.prog 35 [.slice A2 (s1).length c3] w (fun v w' => ∃ (A0 : Option Addr) (c0 : Nat), v = .slice A0 (r).length c0 ∧ Mem w [] w' [.row A0 c0 5 1 r.length (r.flatMap (eI .u8))]) := by
  refine calls_KC Try.func35 rfl Try.ntmps35 rfl ?_
  have hM := Mem.init w
  unfold F_slices_Clone_byte_byte at hF
  refine KC.seq ?_
  refine KC.region ?_
  refine RL.val (O.assign rfl) rfl ?_
  refine RL.nil ?_
  refine KQ.then_n ?_
  refine KC.seq ?_
  refine KC.seq ?_
  refine KC.region ?_
  refine RL.val (O.move rfl) rfl ?_
  refine RL.val (O.sleqn sl22 rfl rfl) rfl ?_
  refine RL.nil ?_
  refine KQ.then_n ?_
  refine KC.cond rfl (fun hc => ?_) (fun hc => ?_)
  · have hz5 := Rd.none_nil (hM.inp hr4 Off.nil) (hc)
    have hF : (some ([])) = some r := by (rw [hz5] at hF; simpa [lim] using hF)
    refine KC.seq ?_
    refine KC.region ?_
    refine RL.val (O.assign rfl) rfl ?_
    refine RL.nil ?_
    refine KQ.then_n ?_
    refine KC.ret ?_
    refine KQ.then_r ?_
    obtain rfl := Option.some.inj hF
    have hM := hM.nilrow 5 1
    refine KQ.rets Try.results35 (RVs.cons (RV.tm rfl) RVs.nil) ?_
    exact ⟨_, rfl, none, 0, rfl, hM⟩
  · refine KC.skip ?_
    refine KQ.then_n ?_
    refine KC.seq ?_
    refine KC.region ?_
    refine RL.eff (E.bsl0 hM sl22) rfl fun v w6 hv => ?_
    obtain ⟨A7, rfl, hM, hf⟩ := hv
    refine RL.val (O.move rfl) rfl ?_
    obtain ⟨hq12, hF⟩ := cut_some hF
    refine RL.eff (E.app (enc := (eI .u8)) (xs := ([] : List Int)) (ys := s1) (j := 0) hM rfl sl22 ze5 rfl rfl rfl rfl rfl (hM.inp hr4 Off.nil) (fun _ => One.all rfl) (of_decide_eq_true hq12)) rfl fun v w11 hv => ?_
    obtain ⟨A9, c10, rfl, hM⟩ := hv
    refine RL.val (O.assign rfl) rfl ?_
    refine RL.nil ?_
    refine KQ.then_n ?_
    refine KC.ret ?_
    obtain rfl := Option.some.inj hF
    refine KQ.rets Try.results35 (RVs.cons (RV.tm rfl) RVs.nil) ?_
    exact ⟨_, rfl, A9, c10, rfl, hM⟩
set_option maxRecDepth 100000 in
set_option maxHeartbeats 40000000 in
theorem c_bits_Writer_Bytes (w : World) (g2 : Nat) (wv1 : T_bits_Writer) (A4 : Option Addr) (c5 : Nat) (hL7 : Lent w [.box g2 33 [.slice A4 (wv1.f_b).length c5], .row A4 c5 5 1 (wv1.f_b).length ((wv1.f_b).flatMap (eI .u8))]) (r : (List Int) × T_bits_Writer) (hF : F_bits_Writer_Bytes wv1 = some r) :
    CallsR Try.prog 22 [.pointer (some ⟨g2, 0, none⟩)] w (fun v w' => ∃ (A0 : Option Addr) (c0 : Nat) (A1 : Option Addr) (c1 : Nat), v = .slice A1 (r.1).length c1 ∧ Mem w [some g2, rblk A4 c5] w' [.box g2 33 [.slice A0 (r.2.f_b).length c0], .row A0 c0 5 1 r.2.f_b.length (r.2.f_b.flatMap (eI .u8)), .row A1 c1 5 1 r.1.length (r.1.flatMap (eI .u8))]) := by
  refine calls_KC Try.func22 rfl Try.ntmps22 rfl ?_
  have hM : Mem w [some g2, rblk A4 c5] w [.box g2 33 [.slice A4 (wv1.f_b).length c5], .row A4 c5 5 1 (wv1.f_b).length ((wv1.f_b).flatMap (eI .u8))] := Mem.lendN hL7
  unfold F_bits_Writer_Bytes at hF
  refine KC.seq ?_
  refine KC.region ?_
  refine RL.val (O.assign rfl) rfl ?_
  refine RL.nil ?_
  refine KQ.then_n ?_
  refine KC.seq ?_
  refine KC.seq ?_
  refine KC.region ?_
  refine RL.val (O.move rfl) rfl ?_
  refine RL.val (O.peqn Try.underlying56 rfl rfl) rfl ?_
  refine RL.nil ?_
  refine KQ.then_n ?_
  refine KC.condF rfl ?_
  refine KC.skip ?_
  refine KQ.then_n ?_
  refine KC.seq ?_
  refine KC.region ?_
  refine RL.val (O.move rfl) rfl ?_
  refine RL.val (O.nilp rfl) rfl ?_
  refine RL.val (O.fldA fl33_0 (by decide) rfl) rfl ?_
  refine RL.val (O.load sc22 rfl (Cs.adds [0] ((hM.bx (i := 0) rfl)) rfl)) rfl ?_
  obtain ⟨y8, hx9, hF⟩ := obind hF
  refine RL.call Try.func35 bd35 rfl rfl (c_slices_Clone_byte_byte _ _ _ wv1.f_b (hM.rd (i := 1) rfl) _ hx9) fun v w10 hv => ?_
  obtain ⟨A12, c13, rfl, hN11⟩ := hv
  have hM := hM.call hN11
  refine RL.val (O.assign rfl) rfl ?_
  refine RL.nil ?_
  refine KQ.then_n ?_
  refine KC.ret ?_
  obtain rfl := Option.some.inj hF
  refine KQ.rets Try.results22 (RVs.cons (RV.tm rfl) RVs.nil) ?_
  exact ⟨_, rfl, A4, c5, A12, c13, rfl, hM⟩
set_option maxRecDepth 100000 in
set_option maxHeartbeats 40000000 in
theorem c_ref01_Same (w : World) (A2 : Option Addr) (c3 : Nat) (av1 : List Int) (hr4 : Rd w A2 c3 1 av1.length (av1.flatMap (eI .u8))) (A6 : Option Addr) (c7 : Nat) (b5 : List Int) (hr8 : Rd w A6 c7 1 b5.length (b5.flatMap (eI .u8))) (r : Bool) (hF : F_ref01_Same av1 b5 = some r) :
    CallsR Try.prog 23 [.slice A2 (av1).length c3, .slice A6 (b5).length c7] w (fun v w' => v = .bool r ∧ Mem w [] w' []) := by
  refine calls_KC Try.func23 rfl Try.ntmps23 rfl ?_
  have hM := Mem.init w
  unfold F_ref01_Same at hF
  refine KC.seq ?_
  refine KC.region ?_
  refine RL.val (O.assign rfl) rfl ?_
  refine RL.nil ?_
  refine KQ.then_n ?_
  refine KC.seq ?_
  refine KC.region ?_
  refine RL.val (O.move rfl) rfl ?_
  refine RL.val (O.b2s sl22 Try.underlying5 Try.underlying9 rfl ((hM.inp hr4 Off.nil))) rfl ?_
  refine RL.val (O.move rfl) rfl ?_
  refine RL.val (O.b2s sl22 Try.underlying5 Try.underlying9 rfl ((hM.inp hr8 Off.nil))) rfl ?_
  refine RL.val (O.streq rfl rfl) rfl ?_
  refine RL.val (O.assign rfl) rfl ?_
  refine RL.nil ?_
  refine KQ.then_n ?_
  refine KC.ret ?_
  obtain rfl := Option.some.inj hF
  refine KQ.rets Try.results23 (RVs.cons (RV.tm rfl) RVs.nil) ?_
  exact ⟨_, rfl, rfl, hM⟩
set_option maxRecDepth 100000 in
set_option maxHeartbeats 40000000 in
theorem c_law01_works (w : World) (r : Bool) (hF : F_law01_works = some r) :
    CallsR Try.prog 9 [] w (fun v w' => v = .bool r ∧ Mem w [] w' []) := by
  refine calls_KC Try.func9 rfl Try.ntmps9 rfl ?_
  have hM := Mem.init w
  unfold F_law01_works at hF
  refine KC.seq ?_
  refine KC.region ?_
  refine RL.val (O.assign rfl) rfl ?_
  refine RL.nil ?_
  refine KQ.then_n ?_
  refine KC.seq ?_
  refine KC.region ?_
  refine RL.eff (E.alloc hM ze33) rfl fun v w2 hv => ?_
  obtain ⟨g1, rfl, hM, hf⟩ := hv
  refine RL.nil ?_
  refine KQ.then_n ?_
  refine KC.seq ?_
  refine KC.region ?_
  have hM := hM.nilrow 5 1
  obtain ⟨y5, hx6, hF⟩ := obind hF
  refine RL.call Try.func17 bd17 rfl rfl (c_bits_Writer_Put _ _ (T_bits_Writer.mk ([] : List Int)) _ _ (hM.lent [0, 1] rfl (by decide)) 258 3 _ hx6) fun v w7 hv => ?_
  obtain ⟨A9, c10, rfl, hN8⟩ := hv
  have hM := hM.callL [0, 1] [] rfl rfl (by decide) rfl hN8
  obtain ⟨y12, hx13, hF⟩ := obind hF
  refine RL.call Try.func17 bd17 rfl rfl (c_bits_Writer_Put _ _ y5.2 _ _ (hM.lent [0, 1] rfl (by decide)) 256 1 _ hx13) fun v w14 hv => ?_
  obtain ⟨A16, c17, rfl, hN15⟩ := hv
  have hM := hM.callL [0, 1] [] rfl rfl (by decide) rfl hN15
  refine RL.val (O.assign rfl) rfl ?_
  refine RL.val (O.assign rfl) rfl ?_
  refine RL.nil ?_
  refine KQ.then_n ?_
  refine KC.seq ?_
  refine KC.region ?_
  refine RL.eff (E.bsl (enc := (eI .u8)) (xs := [1, 2, 3]) hM sl22 ze5 rfl rfl rfl (fun _ => rfl) rfl rfl rfl) rfl fun v w19 hv => ?_
  obtain ⟨A20, rfl, hM, hf⟩ := hv
  obtain ⟨y22, hx23, hF⟩ := obind hF
  refine RL.call Try.func10 bd10 rfl rfl (c_bits_Get _ _ _ ([1, 2, 3]) (hM.rd (i := 2) rfl) 1 2 _ hx23) fun v w24 hv => ?_
  obtain ⟨rfl, hN25⟩ := hv
  have hM := hM.call0 hN25
  refine RL.val (O.move rfl) rfl ?_
  refine RL.val (O.ext rfl rfl) rfl ?_
  refine RL.val (O.ext rfl rfl) rfl ?_
  refine RL.val (O.assign rfl) rfl ?_
  refine RL.val (O.assign rfl) rfl ?_
  refine RL.nil ?_
  refine KQ.then_n ?_
  refine KC.cut (fun a w56 => ∃ (t55 : Bool), Kn 44 [(0, .bool t55)] a ∧ Mem w [] w56 [] ∧ F_law01_works_j1 t55 = some r) ?_ ?_
  · refine KC.region ?_
    refine RL.val (O.move rfl) rfl ?_
    refine RL.val (O.eql rfl rfl) rfl ?_
    refine RL.val (O.move rfl) rfl ?_
    refine RL.bcase (t := 15) rfl (fun hc => ?_) (fun hc => ?_)
    · rw [if_pos hc] at hF
      refine RL.gval rfl rfl (O.move rfl) rfl ?_
      refine RL.gval rfl rfl (O.eql rfl rfl) rfl ?_
      refine RL.val (O.pickt rfl rfl) rfl ?_
      refine RL.val (O.move rfl) rfl ?_
      refine RL.bcase (t := 19) rfl (fun hc => ?_) (fun hc => ?_)
      · rw [if_pos hc] at hF
        obtain ⟨y26, hx27, hF⟩ := obind hF
        refine RL.gcall rfl rfl Try.func22 bd22 rfl rfl (c_bits_Writer_Bytes _ _ y12.2 _ _ (hM.lent [0, 1] rfl (by decide)) _ hx27) fun v w28 hv => ?_
        obtain ⟨A30, c31, A33, c34, rfl, hN29⟩ := hv
        have hM := hM.callL [0, 1] [2] rfl rfl (by decide) rfl hN29
        refine RL.geff rfl rfl (E.bsl (enc := (eI .u8)) (xs := [0, 1, 2]) hM sl22 ze5 rfl rfl rfl (fun _ => rfl) rfl rfl rfl) rfl fun v w36 hv => ?_
        obtain ⟨A37, rfl, hM, hf⟩ := hv
        obtain ⟨y39, hx40, hF⟩ := obind hF
        refine RL.gcall rfl rfl Try.func23 bd23 rfl rfl (c_ref01_Same _ _ _ y26.1 (hM.rd (i := 3) rfl) _ _ ([0, 1, 2]) (hM.rd (i := 4) rfl) _ hx40) fun v w41 hv => ?_
        obtain ⟨rfl, hN42⟩ := hv
        have hM := hM.call0 hN42
        refine RL.val (O.pickt rfl rfl) rfl ?_
        refine RL.val (O.move rfl) rfl ?_
        refine RL.bcase (t := 24) rfl (fun hc => ?_) (fun hc => ?_)
        · rw [if_pos hc] at hF
          refine RL.gval rfl rfl (O.move rfl) rfl ?_
          refine RL.gval rfl rfl (O.eql rfl rfl) rfl ?_
          refine RL.val (O.pickt rfl rfl) rfl ?_
          refine RL.val (O.move rfl) rfl ?_
          refine RL.bcase (t := 28) rfl (fun hc => ?_) (fun hc => ?_)
          · rw [if_pos hc] at hF
            refine RL.gval rfl rfl (O.move rfl) rfl ?_
            refine RL.gval rfl rfl (O.eql rfl rfl) rfl ?_
            refine RL.val (O.pickt rfl rfl) rfl ?_
            refine RL.val (O.move rfl) rfl ?_
            refine RL.bcase (t := 32) rfl (fun hc => ?_) (fun hc => ?_)
            · rw [if_pos hc] at hF
              obtain ⟨y43, hx44, hF⟩ := obind hF
              refine RL.gcall rfl rfl Try.func12 bd12 rfl rfl (c_bits_Least _ 0 _ hx44) fun v w45 hv => ?_
              obtain ⟨rfl, hN46⟩ := hv
              have hM := hM.call0 hN46
              refine RL.gval rfl rfl (O.eql rfl rfl) rfl ?_
              refine RL.val (O.pickt rfl rfl) rfl ?_
              refine RL.val (O.move rfl) rfl ?_
              refine RL.bcase (t := 36) rfl (fun hc => ?_) (fun hc => ?_)
              · rw [if_pos hc] at hF
                obtain ⟨y47, hx48, hF⟩ := obind hF
                refine RL.gcall rfl rfl Try.func12 bd12 rfl rfl (c_bits_Least _ 255 _ hx48) fun v w49 hv => ?_
                obtain ⟨rfl, hN50⟩ := hv
                have hM := hM.call0 hN50
                refine RL.gval rfl rfl (O.eql rfl rfl) rfl ?_
                refine RL.val (O.pickt rfl rfl) rfl ?_
                refine RL.val (O.move rfl) rfl ?_
                refine RL.bcase (t := 40) rfl (fun hc => ?_) (fun hc => ?_)
                · rw [if_pos hc] at hF
                  obtain ⟨y51, hx52, hF⟩ := obind hF
                  refine RL.gcall rfl rfl Try.func12 bd12 rfl rfl (c_bits_Least _ 256 _ hx52) fun v w53 hv => ?_
                  obtain ⟨rfl, hN54⟩ := hv
                  have hM := hM.call0 hN54
                  refine RL.gval rfl rfl (O.eql rfl rfl) rfl ?_
                  refine RL.val (O.pickt rfl rfl) rfl ?_
                  refine RL.val (O.assign rfl) rfl ?_
                  refine RL.nil ?_
                  refine KQ.then_k ?_
                  have hM := hM.pick [] rfl (by decide)
                  exact fun a ha => ⟨(y51 == 2), ha.less (less_cons rfl less_nil), hM, hF⟩
                · rw [if_neg (ne_true hc)] at hF
                  refine RL.gskip rfl rfl rfl rfl ?_
                  refine RL.gskip rfl rfl rfl rfl ?_
                  refine RL.val (O.pickf rfl rfl) rfl ?_
                  refine RL.val (O.assign rfl) rfl ?_
                  refine RL.nil ?_
                  refine KQ.then_k ?_
                  have hM := hM.pick [] rfl (by decide)
                  exact fun a ha => ⟨false, ha.less (less_cons rfl less_nil), hM, hF⟩
              · rw [if_neg (ne_true hc)] at hF
                refine RL.gskip rfl rfl rfl rfl ?_
                refine RL.gskip rfl rfl rfl rfl ?_
                refine RL.val (O.pickf rfl rfl) rfl ?_
                refine RL.val (O.move rfl) rfl ?_
                refine RL.gskip rfl rfl rfl rfl ?_
                refine RL.gskip rfl rfl rfl rfl ?_
                refine RL.val (O.pickf rfl rfl) rfl ?_
                refine RL.val (O.assign rfl) rfl ?_
                refine RL.nil ?_
                refine KQ.then_k ?_
                have hM := hM.pick [] rfl (by decide)
                exact fun a ha => ⟨false, ha.less (less_cons rfl less_nil), hM, hF⟩
            · rw [if_neg (ne_true hc)] at hF
              refine RL.gskip rfl rfl rfl rfl ?_
              refine RL.gskip rfl rfl rfl rfl ?_
              refine RL.val (O.pickf rfl rfl) rfl ?_
              refine RL.val (O.move rfl) rfl ?_
              refine RL.gskip rfl rfl rfl rfl ?_
              refine RL.gskip rfl rfl rfl rfl ?_
              refine RL.val (O.pickf rfl rfl) rfl ?_
              refine RL.val (O.move rfl) rfl ?_
              refine RL.gskip rfl rfl rfl rfl ?_
              refine RL.gskip rfl rfl rfl rfl ?_
              refine RL.val (O.pickf rfl rfl) rfl ?_
              refine RL.val (O.assign rfl) rfl ?_
              refine RL.nil ?_
              refine KQ.then_k ?_
              have hM := hM.pick [] rfl (by decide)
              exact fun a ha => ⟨false, ha.less (less_cons rfl less_nil), hM, hF⟩
          · rw [if_neg (ne_true hc)] at hF
            refine RL.gskip rfl rfl rfl rfl ?_
            refine RL.gskip rfl rfl rfl rfl ?_
            refine RL.val (O.pickf rfl rfl) rfl ?_
            refine RL.val (O.move rfl) rfl ?_
            refine RL.gskip rfl rfl rfl rfl ?_
            refine RL.gskip rfl rfl rfl rfl ?_
            refine RL.val (O.pickf rfl rfl) rfl ?_
            refine RL.val (O.move rfl) rfl ?_
            refine RL.gskip rfl rfl rfl rfl ?_
            refine RL.gskip rfl rfl rfl rfl ?_
            refine RL.val (O.pickf rfl rfl) rfl ?_
            refine RL.val (O.move rfl) rfl ?_
            refine RL.gskip rfl rfl rfl rfl ?_
            refine RL.gskip rfl rfl rfl rfl ?_
            refine RL.val (O.pickf rfl rfl) rfl ?_
            refine RL.val (O.assign rfl) rfl ?_
            refine RL.nil ?_
            refine KQ.then_k ?_
            have hM := hM.pick [] rfl (by decide)
            exact fun a ha => ⟨false, ha.less (less_cons rfl less_nil), hM, hF⟩
        · rw [if_neg (ne_true hc)] at hF
          refine RL.gskip rfl rfl rfl rfl ?_
          refine RL.gskip rfl rfl rfl rfl ?_
          refine RL.val (O.pickf rfl rfl) rfl ?_
          refine RL.val (O.move rfl) rfl ?_
          refine RL.gskip rfl rfl rfl rfl ?_
          refine RL.gskip rfl rfl rfl rfl ?_
          refine RL.val (O.pickf rfl rfl) rfl ?_
          refine RL.val (O.move rfl) rfl ?_
          refine RL.gskip rfl rfl rfl rfl ?_
          refine RL.gskip rfl rfl rfl rfl ?_
          refine RL.val (O.pickf rfl rfl) rfl ?_
          refine RL.val (O.move rfl) rfl ?_
          refine RL.gskip rfl rfl rfl rfl ?_
          refine RL.gskip rfl rfl rfl rfl ?_
          refine RL.val (O.pickf rfl rfl) rfl ?_
          refine RL.val (O.move rfl) rfl ?_
          refine RL.gskip rfl rfl rfl rfl ?_
          refine RL.gskip rfl rfl rfl rfl ?_
          refine RL.val (O.pickf rfl rfl) rfl ?_
          refine RL.val (O.assign rfl) rfl ?_
          refine RL.nil ?_
          refine KQ.then_k ?_
          have hM := hM.pick [] rfl (by decide)
          exact fun a ha => ⟨false, ha.less (less_cons rfl less_nil), hM, hF⟩
      · rw [if_neg (ne_true hc)] at hF
        refine RL.gskip rfl rfl rfl rfl ?_
        refine RL.gskip rfl rfl rfl rfl ?_
        refine RL.gskip rfl rfl rfl rfl ?_
        refine RL.val (O.pickf rfl rfl) rfl ?_
        refine RL.val (O.move rfl) rfl ?_
        refine RL.gskip rfl rfl rfl rfl ?_
        refine RL.gskip rfl rfl rfl rfl ?_
        refine RL.val (O.pickf rfl rfl) rfl ?_
        refine RL.val (O.move rfl) rfl ?_
        refine RL.gskip rfl rfl rfl rfl ?_
        refine RL.gskip rfl rfl rfl rfl ?_
        refine RL.val (O.pickf rfl rfl) rfl ?_
        refine RL.val (O.move rfl) rfl ?_
        refine RL.gskip rfl rfl rfl rfl ?_
        refine RL.gskip rfl rfl rfl rfl ?_
        refine RL.val (O.pickf rfl rfl) rfl ?_
        refine RL.val (O.move rfl) rfl ?_
        refine RL.gskip rfl rfl rfl rfl ?_
        refine RL.gskip rfl rfl rfl rfl ?_
        refine RL.val (O.pickf rfl rfl) rfl ?_
        refine RL.val (O.move rfl) rfl ?_
        refine RL.gskip rfl rfl rfl rfl ?_
        refine RL.gskip rfl rfl rfl rfl ?_
        refine RL.val (O.pickf rfl rfl) rfl ?_
        refine RL.val (O.assign rfl) rfl ?_
        refine RL.nil ?_
        refine KQ.then_k ?_
        have hM := hM.pick [] rfl (by decide)
        exact fun a ha => ⟨false, ha.less (less_cons rfl less_nil), hM, hF⟩
    · rw [if_neg (ne_true hc)] at hF
      refine RL.gskip rfl rfl rfl rfl ?_
      refine RL.gskip rfl rfl rfl rfl ?_
      refine RL.val (O.pickf rfl rfl) rfl ?_
      refine RL.val (O.move rfl) rfl ?_
      refine RL.gskip rfl rfl rfl rfl ?_
      refine RL.gskip rfl rfl rfl rfl ?_
      refine RL.gskip rfl rfl rfl rfl ?_
      refine RL.val (O.pickf rfl rfl) rfl ?_
      refine RL.val (O.move rfl) rfl ?_
      refine RL.gskip rfl rfl rfl rfl ?_
      refine RL.gskip rfl rfl rfl rfl ?_
      refine RL.val (O.pickf rfl rfl) rfl ?_
      refine RL.val (O.move rfl) rfl ?_
      refine RL.gskip rfl rfl rfl rfl ?_
      refine RL.gskip rfl rfl rfl rfl ?_
      refine RL.val (O.pickf rfl rfl) rfl ?_
      refine RL.val (O.move rfl) rfl ?_
      refine RL.gskip rfl rfl rfl rfl ?_
      refine RL.gskip rfl rfl rfl rfl ?_
      refine RL.val (O.pickf rfl rfl) rfl ?_
      refine RL.val (O.move rfl) rfl ?_
      refine RL.gskip rfl rfl rfl rfl ?_
      refine RL.gskip rfl rfl rfl rfl ?_
      refine RL.val (O.pickf rfl rfl) rfl ?_
      refine RL.val (O.move rfl) rfl ?_
      refine RL.gskip rfl rfl rfl rfl ?_
      refine RL.gskip rfl rfl rfl rfl ?_
      refine RL.val (O.pickf rfl rfl) rfl ?_
      refine RL.val (O.assign rfl) rfl ?_
      refine RL.nil ?_
      refine KQ.then_k ?_
      have hM := hM.pick [] rfl (by decide)
      exact fun a ha => ⟨false, ha.less (less_cons rfl less_nil), hM, hF⟩
  · rintro a w56 ⟨t55, ha, hM, hF⟩
    refine KC.app ha ?_
    clear ha
    unfold F_law01_works_j1 at hF
    refine KC.ret ?_
    obtain rfl := Option.some.inj hF
    refine KQ.rets Try.results9 (RVs.cons (RV.tm rfl) RVs.nil) ?_
    exact ⟨_, rfl, rfl, hM⟩
end Go.Proofs.Ytpbkjellpboefaa
