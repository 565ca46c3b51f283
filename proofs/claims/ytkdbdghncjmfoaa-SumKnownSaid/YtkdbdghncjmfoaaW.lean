/- Printed by a program of this claim: each call returns what the plain function of its name gives. -/
import Derived.Test.YtkdbdghncjmfoaaRows
import Derived.Test.YtkdbdghncjmfoaaF
set_option linter.unusedVariables false
namespace Go.Proofs.Ytkdbdghncjmfoaa
open Go Go.Ox Go.RowKit
theorem sl22 : SliceT Try.prog 22 5 1 1 := ⟨Try.underlying22, by kernel_rfl⟩
theorem ze5 : ZeroT Try.prog 5 [.int .u8 0] := by unfold ZeroT; kernel_rfl
theorem sl35 : SliceT Try.prog 35 22 1 24 := ⟨Try.underlying35, by kernel_rfl⟩
theorem ze22 : ZeroT Try.prog 22 [.slice none 0 0] := by unfold ZeroT; kernel_rfl
theorem ze39 : ZeroT Try.prog 39 [.int .u64 0, .int .i64 0] := by unfold ZeroT; kernel_rfl
theorem sc22 : isScalar Try.prog 22 = true := by kernel_rfl
theorem sc5 : isScalar Try.prog 5 = true := by kernel_rfl
theorem un5 : (Try.prog.underlying 5).isSome = true := by kernel_rfl
theorem fl39_1 : FieldT Try.prog 39 1 1 3 1 := ⟨by kernel_rfl, by kernel_rfl⟩
theorem sc3 : isScalar Try.prog 3 = true := by kernel_rfl
theorem fl39_0 : FieldT Try.prog 39 0 0 31 1 := ⟨by kernel_rfl, by kernel_rfl⟩
theorem sc31 : isScalar Try.prog 31 = true := by kernel_rfl
theorem un31 : (Try.prog.underlying 31).isSome = true := by kernel_rfl
theorem bd22 : (!(Try.f22.name == "runtime.NumGoroutine") && !Try.f22.body.isNone) = true := by kernel_rfl
theorem un23 : (Try.prog.underlying 23).isSome = true := by kernel_rfl
theorem sz3 : sizeT Try.prog 3 1 = true := by kernel_rfl
theorem sz31 : sizeT Try.prog 31 1 = true := by kernel_rfl
theorem bd15 : (!(Try.f15.name == "runtime.NumGoroutine") && !Try.f15.body.isNone) = true := by kernel_rfl
theorem bd21 : (!(Try.f21.name == "runtime.NumGoroutine") && !Try.f21.body.isNone) = true := by kernel_rfl
theorem bd17 : (!(Try.f17.name == "runtime.NumGoroutine") && !Try.f17.body.isNone) = true := by kernel_rfl
theorem bd8 : (!(Try.f8.name == "runtime.NumGoroutine") && !Try.f8.body.isNone) = true := by kernel_rfl
theorem bd9 : (!(Try.f9.name == "runtime.NumGoroutine") && !Try.f9.body.isNone) = true := by kernel_rfl
theorem bd11 : (!(Try.f11.name == "runtime.NumGoroutine") && !Try.f11.body.isNone) = true := by kernel_rfl
theorem bd7 : (!(Try.f7.name == "runtime.NumGoroutine") && !Try.f7.body.isNone) = true := by kernel_rfl
theorem bd10 : (!(Try.f10.name == "runtime.NumGoroutine") && !Try.f10.body.isNone) = true := by kernel_rfl
theorem sz5 : sizeT Try.prog 5 1 = true := by kernel_rfl
theorem moP : Try.prog.follows .mixedOrders = true := by kernel_rfl
theorem sl32 : SliceT Try.prog 32 31 1 8 := ⟨Try.underlying32, by kernel_rfl⟩
theorem ze31 : ZeroT Try.prog 31 [.int .u64 0] := by unfold ZeroT; kernel_rfl
theorem bd13 : (!(Try.f13.name == "runtime.NumGoroutine") && !Try.f13.body.isNone) = true := by kernel_rfl
theorem bd24 : (!(Try.f24.name == "runtime.NumGoroutine") && !Try.f24.body.isNone) = true := by kernel_rfl
theorem bd23 : (!(Try.f23.name == "runtime.NumGoroutine") && !Try.f23.body.isNone) = true := by kernel_rfl
theorem bd12 : (!(Try.f12.name == "runtime.NumGoroutine") && !Try.f12.body.isNone) = true := by kernel_rfl
theorem bd14 : (!(Try.f14.name == "runtime.NumGoroutine") && !Try.f14.body.isNone) = true := by kernel_rfl
theorem bd16 : (!(Try.f16.name == "runtime.NumGoroutine") && !Try.f16.body.isNone) = true := by kernel_rfl
theorem bd18 : (!(Try.f18.name == "runtime.NumGoroutine") && !Try.f18.body.isNone) = true := by kernel_rfl
theorem bd19 : (!(Try.f19.name == "runtime.NumGoroutine") && !Try.f19.body.isNone) = true := by kernel_rfl
theorem bd20 : (!(Try.f20.name == "runtime.NumGoroutine") && !Try.f20.body.isNone) = true := by kernel_rfl
theorem un3 : (Try.prog.underlying 3).isSome = true := by kernel_rfl
theorem bd5 : (!(Try.f5.name == "runtime.NumGoroutine") && !Try.f5.body.isNone) = true := by kernel_rfl
theorem bd3 : (!(Try.f3.name == "runtime.NumGoroutine") && !Try.f3.body.isNone) = true := by kernel_rfl
theorem bd4 : (!(Try.f4.name == "runtime.NumGoroutine") && !Try.f4.body.isNone) = true := by kernel_rfl
theorem sl47 : SliceT Try.prog 47 23 1 2 := ⟨Try.underlying47, by kernel_rfl⟩
theorem ze23 : ZeroT Try.prog 23 [.int .u16 0] := by unfold ZeroT; kernel_rfl
theorem sc23 : isScalar Try.prog 23 = true := by kernel_rfl
set_option maxRecDepth 100000 in
set_option maxHeartbeats 4000000 in
theorem c_sum_fold (w : World) (nv1 : Int) (r : Int) (hF : F_sum_fold nv1 = some r) :
    CallsR Try.prog 22 [.int .u64 nv1] w (fun v w' => v = .int .u16 r ∧ Mem w [] w' []) := by
  refine calls_KC Try.func22 rfl Try.ntmps22 rfl ?_
  have hM := Mem.init w
  unfold F_sum_fold at hF
  refine KC.seq ?_
  refine KC.region ?_
  refine RL.val (O.assign rfl) rfl ?_
  refine RL.nil ?_
  refine KQ.then_n ?_
  refine KC.scope ?_
  refine KC.seq ?_
  refine KC.label ?_
  refine KQ.then_n ?_
  refine KC.seq ?_
  refine KC.block ?_
  refine KC.loop (fun k6 a w4 => ∃ (nv3 : Int), Kn 12 [(0, .int .u64 nv3)] a ∧ Mem w [] w4 [] ∧ F_sum_fold_L1 k6 nv3 = some r) ?_ ?_
  · exact fun a ha => ⟨fuel0, nv1, ha.less (less_cons rfl less_nil), hM, hF⟩
  · rintro k6 a w4 ⟨nv3, ha, hM, hF⟩
    refine KC.app ha ?_
    clear ha
    cases k6 with
    | zero => exact (none_some hF).elim
    | succ k6 =>
    have hF : F_sum_fold_l1 (F_sum_fold_L1 k6) nv3 = some r := hF
    unfold F_sum_fold_l1 at hF
    refine KC.block ?_
    refine KC.seq ?_
    refine KC.seq ?_
    refine KC.region ?_
    refine RL.val (O.move rfl) rfl ?_
    refine RL.val (O.leq rfl rfl) rfl ?_
    refine RL.nil ?_
    refine KQ.then_n ?_
    refine KC.cond rfl (fun hc => ?_) (fun hc => ?_)
    · rw [if_pos hc] at hF
      refine KC.exit ?_
      refine KQ.then_x ?_
      refine KQ.blk_y rfl ?_
      refine KQ.then_x ?_
      refine KQ.blk_x ?_
      refine KQ.then_n ?_
      refine KC.seq ?_
      refine KC.region ?_
      refine RL.val (O.move rfl) rfl ?_
      refine RL.val (O.conv un31 Try.underlying23 rfl) rfl ?_
      refine RL.val (O.assign rfl) rfl ?_
      refine RL.nil ?_
      refine KQ.then_n ?_
      refine KC.ret ?_
      refine KQ.sc_r ?_
      obtain rfl := Option.some.inj hF
      refine KQ.rets Try.results22 (RVs.cons (RV.tm rfl) RVs.nil) ?_
      exact ⟨_, rfl, rfl, hM⟩
    · rw [if_neg (ne_true hc)] at hF
      refine KC.skip ?_
      refine KQ.then_n ?_
      refine KC.region ?_
      refine RL.val (O.move rfl) rfl ?_
      refine RL.val (O.and rfl rfl) rfl ?_
      refine RL.val (O.move rfl) rfl ?_
      refine RL.val (O.shr rfl rfl (by decide)) rfl ?_
      refine RL.val (O.add rfl rfl) rfl ?_
      refine RL.val (O.assign rfl) rfl ?_
      refine RL.nil ?_
      refine KQ.blk_n ?_
      refine KQ.then_k ?_
      exact fun a ha => ⟨k6, Nat.lt_succ_self k6, (IntKind.u64.wrap ((bits .and .u64 nv3 65535) + (Ox.shr .u64 nv3 16))), ha.less (less_cons rfl less_nil), hM, hF⟩
set_option maxRecDepth 100000 in
set_option maxHeartbeats 4000000 in
theorem c_sum_Sum_Add (w : World) (g2 : Nat) (s1 : T_sum_Sum) (hg3 : w.heap[g2]? = some (.cells [.int .u64 s1.f_n, .int .i64 s1.f_many].toArray 39 (0, 0))) (A6 : Option Addr) (c7 : Nat) (b5 : List Int) (hr8 : Rd w A6 c7 1 b5.length (b5.flatMap (eI .u8))) (ho9 : Off [some g2] b5.length A6) (r : T_sum_Sum) (hF : F_sum_Sum_Add s1 b5 = some r) :
    CallsR Try.prog 15 [.pointer (some ⟨g2, 0, none⟩), .slice A6 (b5).length c7] w (fun v w' => v = .tuple #[] ∧ Mem w [some g2] w' [.box g2 39 [.int .u64 r.f_n, .int .i64 r.f_many]]) := by
  refine calls_KC Try.func15 rfl Try.ntmps15 rfl ?_
  have hM := Mem.lend hg3
  unfold F_sum_Sum_Add at hF
  refine KC.seq ?_
  refine KC.seq ?_
  refine KC.region ?_
  refine RL.val (O.move rfl) rfl ?_
  refine RL.val (O.peqn Try.underlying40 rfl rfl) rfl ?_
  refine RL.nil ?_
  refine KQ.then_n ?_
  refine KC.condF rfl ?_
  refine KC.skip ?_
  refine KQ.then_n ?_
  refine KC.seq ?_
  refine KC.region ?_
  refine RL.val (O.move rfl) rfl ?_
  refine RL.val (O.len sl22 rfl) rfl ?_
  refine RL.val (O.move rfl) rfl ?_
  refine RL.nil ?_
  refine KQ.then_n ?_
  refine KC.block ?_
  refine KC.loop (fun k44 a w42 => ∃ (p39 : Int) (p40 : Int) (t41 : Int), Kn 44 [(0, .pointer (some ⟨g2, 0, none⟩)), (9, .slice A6 (b5).length c7), (10, .int .i64 (b5.length : Int)), (11, .int .i64 t41)] a ∧ Mem w [some g2] w42 [.box g2 39 [.int .u64 p39, .int .i64 p40]] ∧ F_sum_Sum_Add_L1 b5 k44 p39 p40 t41 = some r) ?_ ?_
  · exact fun a ha => ⟨fuel0, s1.f_n, s1.f_many, 0, ha.less (less_cons rfl (less_cons rfl (less_cons rfl (less_cons rfl less_nil)))), hM, hF⟩
  · rintro k44 a w42 ⟨p39, p40, t41, ha, hM, hF⟩
    refine KC.app ha ?_
    clear ha
    cases k44 with
    | zero => exact (none_some hF).elim
    | succ k44 =>
    have hF : F_sum_Sum_Add_l1 (F_sum_Sum_Add_L1 b5 k44) b5 p39 p40 t41 = some r := hF
    unfold F_sum_Sum_Add_l1 at hF
    refine KC.seq ?_
    refine KC.region ?_
    refine RL.val (O.lss rfl rfl) rfl ?_
    refine RL.nil ?_
    refine KQ.then_n ?_
    refine KC.seq ?_
    refine KC.cond rfl (fun hc => ?_) (fun hc => ?_)
    · rw [if_pos hc] at hF
      refine KC.skip ?_
      refine KQ.then_n ?_
      refine KC.seq ?_
      refine KC.block ?_
      refine KC.seq ?_
      refine KC.region ?_
      obtain ⟨xv47, hx46, hF⟩ := obind hF
      have hA45 := Rd.atN (f := (eI .u8)) (s := 1) (fun _ => rfl) (by decide) (hM.inp hr8 ho9) hx46
      refine RL.val (O.idxA sl22 (hA45) rfl rfl) rfl ?_
      refine RL.val (O.load sc5 rfl (hA45).cells.at0) rfl ?_
      refine RL.val (O.assign rfl) rfl ?_
      refine RL.nil ?_
      refine KQ.then_n ?_
      refine KC.seq ?_
      refine KC.region ?_
      refine RL.val (O.move rfl) rfl ?_
      refine RL.val (O.conv un5 Try.underlying31 rfl) rfl ?_
      refine RL.val (O.assign rfl) rfl ?_
      refine RL.nil ?_
      refine KQ.then_n ?_
      refine KC.cut (fun a w50 => ∃ (v49 : Int), Kn 44 [(0, .pointer (some ⟨g2, 0, none⟩)), (6, .int .u64 v49), (9, .slice A6 (b5).length c7), (10, .int .i64 (b5.length : Int)), (11, .int .i64 t41)] a ∧ Mem w [some g2] w50 [.box g2 39 [.int .u64 p39, .int .i64 p40]] ∧ F_sum_Sum_Add_j1 p39 p40 t41 (F_sum_Sum_Add_L1 b5 k44) v49 = some r) ?_ ?_
      · refine KC.seq ?_
        refine KC.region ?_
        refine RL.val (O.move rfl) rfl ?_
        refine RL.val (O.nilp rfl) rfl ?_
        refine RL.val (O.fldA fl39_1 (by decide) rfl) rfl ?_
        refine RL.val (O.load sc3 rfl (Cs.adds [1] ((hM.bx (i := 0) rfl)) rfl)) rfl ?_
        refine RL.val (O.rem rfl rfl (by decide)) rfl ?_
        refine RL.val (O.eql rfl rfl) rfl ?_
        refine RL.nil ?_
        refine KQ.then_n ?_
        refine KC.cond rfl (fun hc => ?_) (fun hc => ?_)
        · rw [if_pos hc] at hF
          refine KC.region ?_
          refine RL.val (O.move rfl) rfl ?_
          refine RL.val (O.shl rfl rfl (by decide)) rfl ?_
          refine RL.val (O.assign rfl) rfl ?_
          refine RL.nil ?_
          refine KQ.then_k ?_
          exact fun a ha => ⟨(Ox.shl .u64 (IntKind.u64.wrap xv47) 8), ha.less (less_cons rfl (less_cons rfl (less_cons rfl (less_cons rfl (less_cons rfl less_nil))))), hM, hF⟩
        · rw [if_neg (ne_true hc)] at hF
          refine KC.skip ?_
          refine KQ.then_k ?_
          exact fun a ha => ⟨(IntKind.u64.wrap xv47), ha.less (less_cons rfl (less_cons rfl (less_cons rfl (less_cons rfl (less_cons rfl less_nil))))), hM, hF⟩
      · rintro a w50 ⟨v49, ha, hM, hF⟩
        refine KC.app ha ?_
        clear ha
        unfold F_sum_Sum_Add_j1 at hF
        refine KC.seq ?_
        refine KC.region ?_
        refine RL.val (O.move rfl) rfl ?_
        refine RL.val (O.move rfl) rfl ?_
        refine RL.val (O.nilp rfl) rfl ?_
        refine RL.val (O.fldA fl39_0 (by decide) rfl) rfl ?_
        refine RL.val (O.load sc31 rfl (Cs.adds [0] ((hM.bx (i := 0) rfl)) rfl)) rfl ?_
        obtain ⟨y51, hx52, hF⟩ := obind hF
        refine RL.call Try.func22 bd22 rfl rfl (c_sum_fold _ p39 _ hx52) fun v w53 hv => ?_
        obtain ⟨rfl, hN54⟩ := hv
        have hM := hM.call0 hN54
        refine RL.val (O.conv un23 Try.underlying31 rfl) rfl ?_
        refine RL.val (O.move rfl) rfl ?_
        refine RL.val (O.add rfl rfl) rfl ?_
        refine RL.val (O.nilp rfl) rfl ?_
        refine RL.val (O.fldA fl39_0 (by decide) rfl) rfl ?_
        refine RL.effs (E.stB (j := 0) (off := 0) (vs := [.int .u64 (IntKind.u64.wrap ((IntKind.u64.wrap y51) + v49))]) (cs' := [.int .u64 (IntKind.u64.wrap ((IntKind.u64.wrap y51) + v49)), .int .i64 p40]) hM rfl sz31 rfl (adds_eq [0] rfl) rfl rfl (One.all rfl) rfl rfl) fun w55 hM => ?_
        refine RL.nil ?_
        refine KQ.then_n ?_
        refine KC.region ?_
        refine RL.val (O.move rfl) rfl ?_
        refine RL.val (O.nilp rfl) rfl ?_
        refine RL.val (O.fldA fl39_1 (by decide) rfl) rfl ?_
        refine RL.val (O.load sc3 rfl (Cs.adds [1] ((hM.bx (i := 0) rfl)) rfl)) rfl ?_
        refine RL.val (O.add rfl rfl) rfl ?_
        refine RL.val (O.nilp rfl) rfl ?_
        refine RL.val (O.fldA fl39_1 (by decide) rfl) rfl ?_
        refine RL.effs (E.stB (j := 0) (off := 1) (vs := [.int .i64 (IntKind.i64.wrap (p40 + 1))]) (cs' := [.int .u64 (IntKind.u64.wrap ((IntKind.u64.wrap y51) + v49)), .int .i64 (IntKind.i64.wrap (p40 + 1))]) hM rfl sz3 rfl (adds_eq [1] rfl) rfl rfl (One.all rfl) rfl rfl) fun w56 hM => ?_
        refine RL.nil ?_
        refine KQ.blk_n ?_
        refine KQ.then_n ?_
        refine KC.region ?_
        refine RL.val (O.add rfl rfl) rfl ?_
        refine RL.val (O.move rfl) rfl ?_
        refine RL.nil ?_
        refine KQ.then_k ?_
        exact fun a ha => ⟨k44, Nat.lt_succ_self k44, (IntKind.u64.wrap ((IntKind.u64.wrap y51) + v49)), (IntKind.i64.wrap (p40 + 1)), (IntKind.i64.wrap (t41 + 1)), ha.less (less_cons rfl (less_cons rfl (less_cons rfl (less_cons rfl less_nil)))), hM, hF⟩
    · rw [if_neg (ne_true hc)] at hF
      refine KC.exit ?_
      refine KQ.then_x ?_
      refine KQ.then_x ?_
      refine KQ.blk_x ?_
      obtain rfl := Option.some.inj hF
      refine KQ.endr Try.results15 RVs.nil ?_
      exact ⟨_, rfl, rfl, hM⟩
set_option maxRecDepth 100000 in
set_option maxHeartbeats 4000000 in
theorem c_sum_each_fsum_Sum_Add (w : World) (g6 : Nat) (does5 : T_sum_Sum) (hg7 : w.heap[g6]? = some (.cells [.int .u64 does5.f_n, .int .i64 does5.f_many].toArray 39 (0, 0))) (A2 : Option Addr) (c3 : Nat) (lv1 : List (List Int)) (hr4 : Rds [some g6] w A2 c3 (eI .u8) 1 lv1) (r : T_sum_Sum) (hF : F_sum_each_fsum_Sum_Add lv1 does5 = some r) :
    CallsR Try.prog 21 [.slice A2 (lv1).length c3, .func (.func 15) #[.pointer (some ⟨g6, 0, none⟩)] #[]] w (fun v w' => v = .tuple #[] ∧ Mem w [some g6] w' [.box g6 39 [.int .u64 r.f_n, .int .i64 r.f_many]]) := by
  refine calls_KC Try.func21 rfl Try.ntmps21 rfl ?_
  have hM := Mem.lend hg7
  unfold F_sum_each_fsum_Sum_Add at hF
  refine KC.seq ?_
  refine KC.region ?_
  refine RL.val (O.move rfl) rfl ?_
  refine RL.val (O.len sl35 rfl) rfl ?_
  refine RL.val (O.move rfl) rfl ?_
  refine RL.nil ?_
  refine KQ.then_n ?_
  refine KC.block ?_
  refine KC.loop (fun k43 a w41 => ∃ (p38 : Int) (p39 : Int) (t40 : Int), Kn 16 [(1, .func (.func 15) #[.pointer (some ⟨g6, 0, none⟩)] #[]), (6, .slice A2 (lv1).length c3), (7, .int .i64 (lv1.length : Int)), (8, .int .i64 t40)] a ∧ Mem w [some g6] w41 [.box g6 39 [.int .u64 p38, .int .i64 p39]] ∧ F_sum_each_fsum_Sum_Add_L1 lv1 k43 p38 p39 t40 = some r) ?_ ?_
  · exact fun a ha => ⟨fuel0, does5.f_n, does5.f_many, 0, ha.less (less_cons rfl (less_cons rfl (less_cons rfl (less_cons rfl less_nil)))), hM, hF⟩
  · rintro k43 a w41 ⟨p38, p39, t40, ha, hM, hF⟩
    refine KC.app ha ?_
    clear ha
    cases k43 with
    | zero => exact (none_some hF).elim
    | succ k43 =>
    have hF : F_sum_each_fsum_Sum_Add_l1 (F_sum_each_fsum_Sum_Add_L1 lv1 k43) lv1 p38 p39 t40 = some r := hF
    unfold F_sum_each_fsum_Sum_Add_l1 at hF
    refine KC.seq ?_
    refine KC.region ?_
    refine RL.val (O.lss rfl rfl) rfl ?_
    refine RL.nil ?_
    refine KQ.then_n ?_
    refine KC.seq ?_
    refine KC.cond rfl (fun hc => ?_) (fun hc => ?_)
    · rw [if_pos hc] at hF
      refine KC.skip ?_
      refine KQ.then_n ?_
      refine KC.seq ?_
      refine KC.block ?_
      refine KC.seq ?_
      refine KC.region ?_
      obtain ⟨xv46, hx45, hF⟩ := obind hF
      obtain ⟨A47, c48, hA44, hr49, ho50, hO51⟩ := Rds.at hr4 hx45
      have hA44 := hA44.chg hM.chg hO51
      refine RL.val (O.idxA sl35 (hA44) rfl rfl) rfl ?_
      refine RL.val (O.load sc22 rfl (hA44).cells.at0) rfl ?_
      refine RL.val (O.assign rfl) rfl ?_
      refine RL.nil ?_
      refine KQ.then_n ?_
      refine KC.region ?_
      refine RL.val (O.move rfl) rfl ?_
      refine RL.val (O.move rfl) rfl ?_
      obtain ⟨y52, hx53, hF⟩ := obind hF
      refine RL.callv (first := [.pointer (some ⟨g6, 0, none⟩)]) (captured := []) rfl Try.func15 bd15 rfl rfl (c_sum_Sum_Add _ _ (T_sum_Sum.mk p38 p39) (hM.ok 0 _ rfl) _ _ xv46 (hM.inp hr49 ho50) (ho50) _ hx53) fun v w54 hv => ?_
      obtain ⟨rfl, hN55⟩ := hv
      have hM := hM.callB (j := 0) rfl hN55
      refine RL.nil ?_
      refine KQ.blk_n ?_
      refine KQ.then_n ?_
      refine KC.region ?_
      refine RL.val (O.add rfl rfl) rfl ?_
      refine RL.val (O.move rfl) rfl ?_
      refine RL.nil ?_
      refine KQ.then_k ?_
      exact fun a ha => ⟨k43, Nat.lt_succ_self k43, y52.f_n, y52.f_many, (IntKind.i64.wrap (t40 + 1)), ha.less (less_cons rfl (less_cons rfl (less_cons rfl (less_cons rfl less_nil)))), hM, hF⟩
    · rw [if_neg (ne_true hc)] at hF
      refine KC.exit ?_
      refine KQ.then_x ?_
      refine KQ.then_x ?_
      refine KQ.blk_x ?_
      obtain rfl := Option.some.inj hF
      refine KQ.endr Try.results21 RVs.nil ?_
      exact ⟨_, rfl, rfl, hM⟩
set_option maxRecDepth 100000 in
set_option maxHeartbeats 4000000 in
theorem c_sum_Sum_Value (w : World) (g2 : Nat) (s1 : T_sum_Sum) (hg3 : w.heap[g2]? = some (.cells [.int .u64 s1.f_n, .int .i64 s1.f_many].toArray 39 (0, 0))) (r : Int × T_sum_Sum) (hF : F_sum_Sum_Value s1 = some r) :
    CallsR Try.prog 17 [.pointer (some ⟨g2, 0, none⟩)] w (fun v w' => v = .int .u16 r.1 ∧ Mem w [some g2] w' [.box g2 39 [.int .u64 r.2.f_n, .int .i64 r.2.f_many]]) := by
  refine calls_KC Try.func17 rfl Try.ntmps17 rfl ?_
  have hM := Mem.lend hg3
  unfold F_sum_Sum_Value at hF
  refine KC.seq ?_
  refine KC.region ?_
  refine RL.val (O.assign rfl) rfl ?_
  refine RL.nil ?_
  refine KQ.then_n ?_
  refine KC.seq ?_
  refine KC.seq ?_
  refine KC.region ?_
  refine RL.val (O.move rfl) rfl ?_
  refine RL.val (O.peqn Try.underlying40 rfl rfl) rfl ?_
  refine RL.nil ?_
  refine KQ.then_n ?_
  refine KC.condF rfl ?_
  refine KC.skip ?_
  refine KQ.then_n ?_
  refine KC.seq ?_
  refine KC.region ?_
  refine RL.val (O.move rfl) rfl ?_
  refine RL.val (O.nilp rfl) rfl ?_
  refine RL.val (O.fldA fl39_0 (by decide) rfl) rfl ?_
  refine RL.val (O.load sc31 rfl (Cs.adds [0] ((hM.bx (i := 0) rfl)) rfl)) rfl ?_
  obtain ⟨y5, hx6, hF⟩ := obind hF
  refine RL.call Try.func22 bd22 rfl rfl (c_sum_fold _ s1.f_n _ hx6) fun v w7 hv => ?_
  obtain ⟨rfl, hN8⟩ := hv
  have hM := hM.call0 hN8
  refine RL.val (O.sub rfl rfl) rfl ?_
  refine RL.val (O.assign rfl) rfl ?_
  refine RL.nil ?_
  refine KQ.then_n ?_
  refine KC.ret ?_
  obtain rfl := Option.some.inj hF
  refine KQ.rets Try.results17 (RVs.cons (RV.tm rfl) RVs.nil) ?_
  exact ⟨_, rfl, rfl, hM⟩
set_option maxRecDepth 100000 in
set_option maxHeartbeats 4000000 in
theorem c_sum_Of (w : World) (A2 : Option Addr) (c3 : Nat) (lv1 : List (List Int)) (hr4 : Rds [] w A2 c3 (eI .u8) 1 lv1) (r : Int) (hF : F_sum_Of lv1 = some r) :
    CallsR Try.prog 8 [.slice A2 (lv1).length c3] w (fun v w' => v = .int .u16 r ∧ Mem w [] w' []) := by
  refine calls_KC Try.func8 rfl Try.ntmps8 rfl ?_
  have hM := Mem.init w
  unfold F_sum_Of at hF
  refine KC.seq ?_
  refine KC.region ?_
  refine RL.val (O.assign rfl) rfl ?_
  refine RL.nil ?_
  refine KQ.then_n ?_
  refine KC.seq ?_
  refine KC.region ?_
  refine RL.eff (E.alloc hM ze39) rfl fun v w6 hv => ?_
  obtain ⟨g5, rfl, hM, hf⟩ := hv
  refine RL.nil ?_
  refine KQ.then_n ?_
  refine KC.seq ?_
  refine KC.region ?_
  refine RL.val (O.move rfl) rfl ?_
  refine RL.val (O.mkf rfl rfl) rfl ?_
  obtain ⟨y8, hx9, hF⟩ := obind hF
  refine RL.call Try.func21 bd21 rfl rfl (c_sum_each_fsum_Sum_Add _ _ (T_sum_Sum.mk 0 0) (hM.ok 0 _ rfl) _ _ lv1 (hM.offs (j := 0) rfl hr4) _ hx9) fun v w10 hv => ?_
  obtain ⟨rfl, hN11⟩ := hv
  have hM := hM.callB (j := 0) rfl hN11
  refine RL.nil ?_
  refine KQ.then_n ?_
  refine KC.seq ?_
  refine KC.region ?_
  obtain ⟨y12, hx13, hF⟩ := obind hF
  refine RL.call Try.func17 bd17 rfl rfl (c_sum_Sum_Value _ _ y8 (hM.ok 0 _ rfl) _ hx13) fun v w14 hv => ?_
  obtain ⟨rfl, hN15⟩ := hv
  have hM := hM.callB (j := 0) rfl hN15
  refine RL.val (O.assign rfl) rfl ?_
  refine RL.nil ?_
  refine KQ.then_n ?_
  refine KC.ret ?_
  obtain rfl := Option.some.inj hF
  have hM := hM.pick [] rfl (by decide)
  refine KQ.rets Try.results8 (RVs.cons (RV.tm rfl) RVs.nil) ?_
  exact ⟨_, rfl, rfl, hM⟩
set_option maxRecDepth 100000 in
set_option maxHeartbeats 4000000 in
theorem c_sum_Whole (w : World) (A2 : Option Addr) (c3 : Nat) (lv1 : List (List Int)) (hr4 : Rds [] w A2 c3 (eI .u8) 1 lv1) (r : Bool) (hF : F_sum_Whole lv1 = some r) :
    CallsR Try.prog 9 [.slice A2 (lv1).length c3] w (fun v w' => v = .bool r ∧ Mem w [] w' []) := by
  refine calls_KC Try.func9 rfl Try.ntmps9 rfl ?_
  have hM := Mem.init w
  unfold F_sum_Whole at hF
  refine KC.seq ?_
  refine KC.region ?_
  refine RL.val (O.assign rfl) rfl ?_
  refine RL.nil ?_
  refine KQ.then_n ?_
  refine KC.seq ?_
  refine KC.region ?_
  refine RL.val (O.move rfl) rfl ?_
  obtain ⟨y5, hx6, hF⟩ := obind hF
  refine RL.call Try.func8 bd8 rfl rfl (c_sum_Of _ _ _ lv1 (hr4.fut hM.chg) _ hx6) fun v w7 hv => ?_
  obtain ⟨rfl, hN8⟩ := hv
  have hM := hM.call0 hN8
  refine RL.val (O.assign rfl) rfl ?_
  refine RL.nil ?_
  refine KQ.then_n ?_
  refine KC.cut (fun a w10 => ∃ (t9 : Bool), Kn 12 [(2, .bool t9)] a ∧ Mem w [] w10 [] ∧ F_sum_Whole_j1 t9 = some r) ?_ ?_
  · refine KC.region ?_
    refine RL.val (O.move rfl) rfl ?_
    refine RL.val (O.eql rfl rfl) rfl ?_
    refine RL.val (O.move rfl) rfl ?_
    refine RL.bcase (t := 8) rfl (fun hc => ?_) (fun hc => ?_)
    · rw [if_pos hc] at hF
      refine RL.gskip rfl rfl rfl rfl ?_
      refine RL.gskip rfl rfl rfl rfl ?_
      refine RL.val (O.pickt rfl rfl) rfl ?_
      refine RL.val (O.assign rfl) rfl ?_
      refine RL.nil ?_
      refine KQ.then_k ?_
      exact fun a ha => ⟨true, ha.less (less_cons rfl less_nil), hM, hF⟩
    · rw [if_neg (ne_true hc)] at hF
      refine RL.gval rfl rfl (O.move rfl) rfl ?_
      refine RL.gval rfl rfl (O.eql rfl rfl) rfl ?_
      refine RL.val (O.pickf rfl rfl) rfl ?_
      refine RL.val (O.assign rfl) rfl ?_
      refine RL.nil ?_
      refine KQ.then_k ?_
      exact fun a ha => ⟨(y5 == 65535), ha.less (less_cons rfl less_nil), hM, hF⟩
  · rintro a w10 ⟨t9, ha, hM, hF⟩
    refine KC.app ha ?_
    clear ha
    unfold F_sum_Whole_j1 at hF
    refine KC.ret ?_
    obtain rfl := Option.some.inj hF
    refine KQ.rets Try.results9 (RVs.cons (RV.tm rfl) RVs.nil) ?_
    exact ⟨_, rfl, rfl, hM⟩
set_option maxRecDepth 100000 in
set_option maxHeartbeats 4000000 in
theorem c_sum_Change (w : World) (sum1 : Int) (fromv2 : Int) (tov3 : Int) (r : Int) (hF : F_sum_Change sum1 fromv2 tov3 = some r) :
    CallsR Try.prog 11 [.int .u16 sum1, .int .u16 fromv2, .int .u16 tov3] w (fun v w' => v = .int .u16 r ∧ Mem w [] w' []) := by
  refine calls_KC Try.func11 rfl Try.ntmps11 rfl ?_
  have hM := Mem.init w
  unfold F_sum_Change at hF
  refine KC.seq ?_
  refine KC.region ?_
  refine RL.val (O.assign rfl) rfl ?_
  refine RL.nil ?_
  refine KQ.then_n ?_
  refine KC.seq ?_
  refine KC.region ?_
  refine RL.val (O.move rfl) rfl ?_
  refine RL.val (O.sub rfl rfl) rfl ?_
  refine RL.val (O.conv un23 Try.underlying31 rfl) rfl ?_
  refine RL.val (O.move rfl) rfl ?_
  refine RL.val (O.sub rfl rfl) rfl ?_
  refine RL.val (O.conv un23 Try.underlying31 rfl) rfl ?_
  refine RL.val (O.add rfl rfl) rfl ?_
  refine RL.val (O.move rfl) rfl ?_
  refine RL.val (O.conv un23 Try.underlying31 rfl) rfl ?_
  refine RL.val (O.add rfl rfl) rfl ?_
  obtain ⟨y4, hx5, hF⟩ := obind hF
  refine RL.call Try.func22 bd22 rfl rfl (c_sum_fold _ (IntKind.u64.wrap ((IntKind.u64.wrap ((IntKind.u64.wrap (IntKind.u16.wrap (65535 - sum1))) + (IntKind.u64.wrap (IntKind.u16.wrap (65535 - fromv2))))) + (IntKind.u64.wrap tov3))) _ hx5) fun v w6 hv => ?_
  obtain ⟨rfl, hN7⟩ := hv
  have hM := hM.call0 hN7
  refine RL.val (O.sub rfl rfl) rfl ?_
  refine RL.val (O.assign rfl) rfl ?_
  refine RL.nil ?_
  refine KQ.then_n ?_
  refine KC.ret ?_
  obtain rfl := Option.some.inj hF
  refine KQ.rets Try.results11 (RVs.cons (RV.tm rfl) RVs.nil) ?_
  exact ⟨_, rfl, rfl, hM⟩
set_option maxRecDepth 100000 in
set_option maxHeartbeats 4000000 in
theorem c_law03_works (w : World) (r : Bool) (hF : F_law03_works = some r) :
    CallsR Try.prog 7 [] w (fun v w' => v = .bool r ∧ Mem w [] w' []) := by
  refine calls_KC Try.func7 rfl Try.ntmps7 rfl ?_
  have hM := Mem.init w
  unfold F_law03_works at hF
  refine KC.seq ?_
  refine KC.region ?_
  refine RL.val (O.assign rfl) rfl ?_
  refine RL.nil ?_
  refine KQ.then_n ?_
  refine KC.cut (fun a w43 => ∃ (t42 : Bool), Kn 24 [(0, .bool t42)] a ∧ Mem w [] w43 [] ∧ F_law03_works_j1 t42 = some r) ?_ ?_
  · refine KC.region ?_
    refine RL.eff (E.bsl (enc := (eI .u8)) (xs := [1, 2]) hM sl22 ze5 rfl rfl rfl (fun _ => rfl) rfl rfl rfl) rfl fun v w44 hv => ?_
    obtain ⟨A45, rfl, hM, hf⟩ := hv
    refine RL.eff (E.bsl (enc := (eI .u8)) (xs := [3]) hM sl22 ze5 rfl rfl rfl (fun _ => rfl) rfl rfl rfl) rfl fun v w47 hv => ?_
    obtain ⟨A48, rfl, hM, hf⟩ := hv
    refine RL.eff (E.bslR (enc := (eI .u8)) (us := [.slice A45 ([1, 2]).length 2, .slice A48 ([3]).length 1]) (xss := [[1, 2], [3]]) (Rdl.cons ((hM.rd (i := 0) rfl)) (Rdl.cons ((hM.rd (i := 1) rfl)) Rdl.nil)) hM sl35 ze22 rfl rfl rfl rfl rfl) rfl fun v w50 hv => ?_
    obtain ⟨A51, rfl, hM, hf, hr52⟩ := hv
    obtain ⟨y53, hx54, hF⟩ := obind hF
    refine RL.call Try.func8 bd8 rfl rfl (c_sum_Of _ _ _ ([[1, 2], [3]]) (hr52) _ hx54) fun v w55 hv => ?_
    obtain ⟨rfl, hN56⟩ := hv
    have hr52 := hr52.fut hN56.fut
    have hM := hM.call0 hN56
    refine RL.val (O.eql rfl rfl) rfl ?_
    refine RL.val (O.move rfl) rfl ?_
    refine RL.bcase (t := 6) rfl (fun hc => ?_) (fun hc => ?_)
    · rw [if_pos hc] at hF
      obtain ⟨y57, hx58, hF⟩ := obind hF
      refine RL.gcall rfl rfl Try.func8 bd8 rfl rfl (c_sum_Of _ none 0 [] Rds.nilr _ hx58) fun v w59 hv => ?_
      obtain ⟨rfl, hN60⟩ := hv
      have hr52 := hr52.fut hN60.fut
      have hM := hM.call0 hN60
      refine RL.gval rfl rfl (O.eql rfl rfl) rfl ?_
      refine RL.val (O.pickt rfl rfl) rfl ?_
      refine RL.val (O.move rfl) rfl ?_
      refine RL.bcase (t := 10) rfl (fun hc => ?_) (fun hc => ?_)
      · rw [if_pos hc] at hF
        refine RL.geff rfl rfl (E.bsl (enc := (eI .u8)) (xs := [0, 0]) hM sl22 ze5 rfl rfl rfl (fun _ => rfl) rfl rfl rfl) rfl fun v w61 hv => ?_
        obtain ⟨A62, rfl, hM, hf⟩ := hv
        have hr52 := hr52.fut hf
        refine RL.geff rfl rfl (E.bslR (enc := (eI .u8)) (us := [.slice A62 ([0, 0]).length 2]) (xss := [[0, 0]]) (Rdl.cons ((hM.rd (i := 2) rfl)) Rdl.nil) hM sl35 ze22 rfl rfl rfl rfl rfl) rfl fun v w64 hv => ?_
        obtain ⟨A65, rfl, hM, hf, hr66⟩ := hv
        have hr52 := hr52.fut hf
        obtain ⟨y67, hx68, hF⟩ := obind hF
        refine RL.gcall rfl rfl Try.func9 bd9 rfl rfl (c_sum_Whole _ _ _ ([[0, 0]]) (hr66) _ hx68) fun v w69 hv => ?_
        obtain ⟨rfl, hN70⟩ := hv
        have hr52 := hr52.fut hN70.fut
        have hr66 := hr66.fut hN70.fut
        have hM := hM.call0 hN70
        refine RL.val (O.pickt rfl rfl) rfl ?_
        refine RL.val (O.move rfl) rfl ?_
        refine RL.bcase (t := 15) rfl (fun hc => ?_) (fun hc => ?_)
        · rw [if_pos hc] at hF
          refine RL.geff rfl rfl (E.bsl (enc := (eI .u8)) (xs := [1, 2, 254, 253]) hM sl22 ze5 rfl rfl rfl (fun _ => rfl) rfl rfl rfl) rfl fun v w71 hv => ?_
          obtain ⟨A72, rfl, hM, hf⟩ := hv
          have hr52 := hr52.fut hf
          have hr66 := hr66.fut hf
          refine RL.geff rfl rfl (E.bslR (enc := (eI .u8)) (us := [.slice A72 ([1, 2, 254, 253]).length 4]) (xss := [[1, 2, 254, 253]]) (Rdl.cons ((hM.rd (i := 3) rfl)) Rdl.nil) hM sl35 ze22 rfl rfl rfl rfl rfl) rfl fun v w74 hv => ?_
          obtain ⟨A75, rfl, hM, hf, hr76⟩ := hv
          have hr52 := hr52.fut hf
          have hr66 := hr66.fut hf
          obtain ⟨y77, hx78, hF⟩ := obind hF
          refine RL.gcall rfl rfl Try.func9 bd9 rfl rfl (c_sum_Whole _ _ _ ([[1, 2, 254, 253]]) (hr76) _ hx78) fun v w79 hv => ?_
          obtain ⟨rfl, hN80⟩ := hv
          have hr52 := hr52.fut hN80.fut
          have hr66 := hr66.fut hN80.fut
          have hr76 := hr76.fut hN80.fut
          have hM := hM.call0 hN80
          refine RL.val (O.pickt rfl rfl) rfl ?_
          refine RL.val (O.move rfl) rfl ?_
          refine RL.bcase (t := 20) rfl (fun hc => ?_) (fun hc => ?_)
          · rw [if_pos hc] at hF
            obtain ⟨y81, hx82, hF⟩ := obind hF
            refine RL.gcall rfl rfl Try.func11 bd11 rfl rfl (c_sum_Change _ 64509 768 769 _ hx82) fun v w83 hv => ?_
            obtain ⟨rfl, hN84⟩ := hv
            have hr52 := hr52.fut hN84.fut
            have hr66 := hr66.fut hN84.fut
            have hr76 := hr76.fut hN84.fut
            have hM := hM.call0 hN84
            refine RL.gval rfl rfl (O.eql rfl rfl) rfl ?_
            refine RL.val (O.pickt rfl rfl) rfl ?_
            refine RL.val (O.assign rfl) rfl ?_
            refine RL.nil ?_
            refine KQ.then_k ?_
            have hM := hM.pick [] rfl (by decide)
            exact fun a ha => ⟨(y81 == 64508), ha.less (less_cons rfl less_nil), hM, hF⟩
          · rw [if_neg (ne_true hc)] at hF
            refine RL.gskip rfl rfl rfl rfl ?_
            refine RL.gskip rfl rfl rfl rfl ?_
            refine RL.val (O.pickf rfl rfl) rfl ?_
            refine RL.val (O.assign rfl) rfl ?_
            refine RL.nil ?_
            refine KQ.then_k ?_
            have hM := hM.pick [] rfl (by decide)
            exact fun a ha => ⟨false, ha.less (less_cons rfl less_nil), hM, hF⟩
        · rw [if_neg (ne_true hc)] at hF
          refine RL.gskip rfl rfl rfl rfl ?_
          refine RL.gskip rfl rfl rfl rfl ?_
          refine RL.gskip rfl rfl rfl rfl ?_
          refine RL.val (O.pickf rfl rfl) rfl ?_
          refine RL.val (O.move rfl) rfl ?_
          refine RL.gskip rfl rfl rfl rfl ?_
          refine RL.gskip rfl rfl rfl rfl ?_
          refine RL.val (O.pickf rfl rfl) rfl ?_
          refine RL.val (O.assign rfl) rfl ?_
          refine RL.nil ?_
          refine KQ.then_k ?_
          have hM := hM.pick [] rfl (by decide)
          exact fun a ha => ⟨false, ha.less (less_cons rfl less_nil), hM, hF⟩
      · rw [if_neg (ne_true hc)] at hF
        refine RL.gskip rfl rfl rfl rfl ?_
        refine RL.gskip rfl rfl rfl rfl ?_
        refine RL.gskip rfl rfl rfl rfl ?_
        refine RL.val (O.pickf rfl rfl) rfl ?_
        refine RL.val (O.move rfl) rfl ?_
        refine RL.gskip rfl rfl rfl rfl ?_
        refine RL.gskip rfl rfl rfl rfl ?_
        refine RL.gskip rfl rfl rfl rfl ?_
        refine RL.val (O.pickf rfl rfl) rfl ?_
        refine RL.val (O.move rfl) rfl ?_
        refine RL.gskip rfl rfl rfl rfl ?_
        refine RL.gskip rfl rfl rfl rfl ?_
        refine RL.val (O.pickf rfl rfl) rfl ?_
        refine RL.val (O.assign rfl) rfl ?_
        refine RL.nil ?_
        refine KQ.then_k ?_
        have hM := hM.pick [] rfl (by decide)
        exact fun a ha => ⟨false, ha.less (less_cons rfl less_nil), hM, hF⟩
    · rw [if_neg (ne_true hc)] at hF
      refine RL.gskip rfl rfl rfl rfl ?_
      refine RL.gskip rfl rfl rfl rfl ?_
      refine RL.val (O.pickf rfl rfl) rfl ?_
      refine RL.val (O.move rfl) rfl ?_
      refine RL.gskip rfl rfl rfl rfl ?_
      refine RL.gskip rfl rfl rfl rfl ?_
      refine RL.gskip rfl rfl rfl rfl ?_
      refine RL.val (O.pickf rfl rfl) rfl ?_
      refine RL.val (O.move rfl) rfl ?_
      refine RL.gskip rfl rfl rfl rfl ?_
      refine RL.gskip rfl rfl rfl rfl ?_
      refine RL.gskip rfl rfl rfl rfl ?_
      refine RL.val (O.pickf rfl rfl) rfl ?_
      refine RL.val (O.move rfl) rfl ?_
      refine RL.gskip rfl rfl rfl rfl ?_
      refine RL.gskip rfl rfl rfl rfl ?_
      refine RL.val (O.pickf rfl rfl) rfl ?_
      refine RL.val (O.assign rfl) rfl ?_
      refine RL.nil ?_
      refine KQ.then_k ?_
      have hM := hM.pick [] rfl (by decide)
      exact fun a ha => ⟨false, ha.less (less_cons rfl less_nil), hM, hF⟩
  · rintro a w43 ⟨t42, ha, hM, hF⟩
    refine KC.app ha ?_
    clear ha
    unfold F_law03_works_j1 at hF
    refine KC.ret ?_
    obtain rfl := Option.some.inj hF
    refine KQ.rets Try.results7 (RVs.cons (RV.tm rfl) RVs.nil) ?_
    exact ⟨_, rfl, rfl, hM⟩
set_option maxRecDepth 100000 in
set_option maxHeartbeats 4000000 in
theorem c_kit_Pick (w : World) (i1 : Int) (nv2 : Int) (r : Int) (hF : F_kit_Pick i1 nv2 = some r) :
    CallsR Try.prog 10 [.int .i64 i1, .int .i64 nv2] w (fun v w' => v = .int .i64 r ∧ Mem w [] w' []) := by
  refine calls_KC Try.func10 rfl Try.ntmps10 rfl ?_
  have hM := Mem.init w
  unfold F_kit_Pick at hF
  refine KC.seq ?_
  refine KC.region ?_
  refine RL.val (O.assign rfl) rfl ?_
  refine RL.nil ?_
  refine KQ.then_n ?_
  refine KC.seq ?_
  refine KC.seq ?_
  refine KC.region ?_
  refine RL.val (O.move rfl) rfl ?_
  refine RL.val (O.leq rfl rfl) rfl ?_
  refine RL.nil ?_
  refine KQ.then_n ?_
  refine KC.cond rfl (fun hc => ?_) (fun hc => ?_)
  · rw [if_pos hc] at hF
    refine KC.seq ?_
    refine KC.region ?_
    refine RL.val (O.assign rfl) rfl ?_
    refine RL.nil ?_
    refine KQ.then_n ?_
    refine KC.ret ?_
    refine KQ.then_r ?_
    obtain rfl := Option.some.inj hF
    refine KQ.rets Try.results10 (RVs.cons (RV.tm rfl) RVs.nil) ?_
    exact ⟨_, rfl, rfl, hM⟩
  · rw [if_neg (ne_true hc)] at hF
    refine KC.skip ?_
    refine KQ.then_n ?_
    refine KC.seq ?_
    refine KC.region ?_
    refine RL.val (O.move rfl) rfl ?_
    refine RL.val (O.move rfl) rfl ?_
    obtain ⟨hq3, hF⟩ := cut_some hF
    refine RL.val (O.rem rfl rfl (of_decide_eq_true hq3)) rfl ?_
    refine RL.val (O.move rfl) rfl ?_
    refine RL.val (O.add rfl rfl) rfl ?_
    refine RL.val (O.move rfl) rfl ?_
    obtain ⟨hq4, hF⟩ := cut_some hF
    refine RL.val (O.rem rfl rfl (of_decide_eq_true hq4)) rfl ?_
    refine RL.val (O.assign rfl) rfl ?_
    refine RL.nil ?_
    refine KQ.then_n ?_
    refine KC.ret ?_
    obtain rfl := Option.some.inj hF
    refine KQ.rets Try.results10 (RVs.cons (RV.tm rfl) RVs.nil) ?_
    exact ⟨_, rfl, rfl, hM⟩
set_option maxRecDepth 100000 in
set_option maxHeartbeats 4000000 in
theorem c_law03_SumKeeps (w : World) (A2 : Option Addr) (c3 : Nat) (b1 : List Int) (hr4 : Rd w A2 c3 1 b1.length (b1.flatMap (eI .u8))) (i5 : Int) (kv6 : Int) (tov7 : Int) (r : Bool) (hF : F_law03_SumKeeps b1 i5 kv6 tov7 = some r) :
    CallsR Try.prog 3 [.slice A2 (b1).length c3, .int .i64 i5, .int .i64 kv6, .int .u16 tov7] w (fun v w' => v = .bool r ∧ Mem w [] w' []) := by
  refine calls_KC Try.func3 rfl Try.ntmps3 rfl ?_
  have hM := Mem.init w
  unfold F_law03_SumKeeps at hF
  refine KC.seq ?_
  refine KC.region ?_
  refine RL.val (O.assign rfl) rfl ?_
  refine RL.nil ?_
  refine KQ.then_n ?_
  refine KC.seq ?_
  refine KC.seq ?_
  refine KC.region ?_
  refine RL.val (O.move rfl) rfl ?_
  refine RL.val (O.len sl22 rfl) rfl ?_
  refine RL.val (O.gtr rfl rfl) rfl ?_
  refine RL.nil ?_
  refine KQ.then_n ?_
  refine KC.cond rfl (fun hc => ?_) (fun hc => ?_)
  · rw [if_pos hc] at hF
    refine KC.seq ?_
    refine KC.region ?_
    obtain ⟨y8, hx9, hF⟩ := obind hF
    refine RL.call Try.func7 bd7 rfl rfl (c_law03_works _ _ hx9) fun v w10 hv => ?_
    obtain ⟨rfl, hN11⟩ := hv
    have hM := hM.call0 hN11
    refine RL.val (O.assign rfl) rfl ?_
    refine RL.nil ?_
    refine KQ.then_n ?_
    refine KC.ret ?_
    refine KQ.then_r ?_
    obtain rfl := Option.some.inj hF
    refine KQ.rets Try.results3 (RVs.cons (RV.tm rfl) RVs.nil) ?_
    exact ⟨_, rfl, rfl, hM⟩
  · rw [if_neg (ne_true hc)] at hF
    refine KC.skip ?_
    refine KQ.then_n ?_
    refine KC.cut (fun a w23 => ∃ (A19 : Option Addr) (c20 : Nat) (b22 : List Int), Kn 144 [(0, .slice A19 (b22).length c20), (1, .int .i64 i5), (2, .int .i64 kv6), (3, .int .u16 tov7)] a ∧ Mem w [] w23 [] ∧ Rd w A19 c20 1 (b22).length ((b22).flatMap (eI .u8)) ∧ F_law03_SumKeeps_j1 i5 kv6 tov7 b22 = some r) ?_ ?_
    · refine KC.seq ?_
      refine KC.region ?_
      refine RL.val (O.move rfl) rfl ?_
      refine RL.val (O.len sl22 rfl) rfl ?_
      refine RL.val (O.rem rfl rfl (by decide)) rfl ?_
      refine RL.val (O.eql rfl rfl) rfl ?_
      refine RL.nil ?_
      refine KQ.then_n ?_
      refine KC.cond rfl (fun hc => ?_) (fun hc => ?_)
      · rw [if_pos hc] at hF
        refine KC.region ?_
        refine RL.val (O.move rfl) rfl ?_
        obtain ⟨cut158, hy159, hF⟩ := obind hF
        obtain ⟨A160, c161, eA163, ec164⟩ := cutN A2 c3 (Int.toNat 1) 1
        have hr162 := Rd.cutT (enc := (eI .u8)) (s := 1) (fun _ => rfl) hr4 hy159 (m := c3) (by have := hr4.cap; have := (gcut_some hy159).2.2.1; omega) (Nat.le_refl _)
        rw [← eA163, ← ec164] at hr162
        refine RL.val (v := .slice A160 (cut158).length c161) (by rw [eA163, ec164]; exact O.cutlT sl22 (hM.inp hr4 Off.nil) hy159 rfl rfl) rfl ?_
        refine RL.val (O.assign rfl) rfl ?_
        refine RL.nil ?_
        refine KQ.then_k ?_
        exact fun a ha => ⟨A160, c161, cut158, ha.less (less_cons rfl (less_cons rfl (less_cons rfl (less_cons rfl less_nil)))), hM, hr162, hF⟩
      · rw [if_neg (ne_true hc)] at hF
        refine KC.skip ?_
        refine KQ.then_k ?_
        exact fun a ha => ⟨A2, c3, b1, ha.less (less_cons rfl (less_cons rfl (less_cons rfl (less_cons rfl less_nil)))), hM, hr4, hF⟩
    · rintro a w23 ⟨A19, c20, b22, ha, hM, hr21, hF⟩
      refine KC.app ha ?_
      clear ha
      unfold F_law03_SumKeeps_j1 at hF
      refine KC.seq ?_
      refine KC.region ?_
      refine RL.val (O.move rfl) rfl ?_
      refine RL.eff (E.bslR (enc := (eI .u8)) (us := [.slice A19 (b22).length c20]) (xss := [b22]) (Rdl.cons ((hM.inp hr21 Off.nil)) Rdl.nil) hM sl35 ze22 rfl rfl rfl rfl rfl) rfl fun v w24 hv => ?_
      obtain ⟨A25, rfl, hM, hf, hr26⟩ := hv
      obtain ⟨y27, hx28, hF⟩ := obind hF
      refine RL.call Try.func8 bd8 rfl rfl (c_sum_Of _ _ _ ([b22]) (hr26) _ hx28) fun v w29 hv => ?_
      obtain ⟨rfl, hN30⟩ := hv
      have hr26 := hr26.fut hN30.fut
      have hM := hM.call0 hN30
      refine RL.val (O.assign rfl) rfl ?_
      refine RL.nil ?_
      refine KQ.then_n ?_
      refine KC.seq ?_
      refine KC.seq ?_
      refine KC.region ?_
      refine RL.val (O.move rfl) rfl ?_
      refine RL.val (O.move rfl) rfl ?_
      refine RL.val (O.quo rfl rfl (by decide)) rfl ?_
      refine RL.val (O.conv un23 Try.underlying5 rfl) rfl ?_
      refine RL.val (O.move rfl) rfl ?_
      refine RL.val (O.rem rfl rfl (by decide)) rfl ?_
      refine RL.val (O.conv un23 Try.underlying5 rfl) rfl ?_
      refine RL.eff (E.bsl (enc := (eI .u8)) (xs := [(IntKind.u8.wrap (IntKind.u16.wrap (Int.tdiv y27 256))), (IntKind.u8.wrap (Int.tmod y27 256))]) hM sl22 ze5 rfl rfl rfl (fun _ => rfl) rfl rfl rfl) rfl fun v w31 hv => ?_
      obtain ⟨A32, rfl, hM, hf⟩ := hv
      have hr26 := hr26.fut hf
      refine RL.eff (E.bslR (enc := (eI .u8)) (us := [.slice A19 (b22).length c20, .slice A32 ([(IntKind.u8.wrap (IntKind.u16.wrap (Int.tdiv y27 256))), (IntKind.u8.wrap (Int.tmod y27 256))]).length 2]) (xss := [b22, [(IntKind.u8.wrap (IntKind.u16.wrap (Int.tdiv y27 256))), (IntKind.u8.wrap (Int.tmod y27 256))]]) (Rdl.cons ((hM.inp hr21 Off.nil)) (Rdl.cons ((hM.rd (i := 0) rfl)) Rdl.nil)) hM sl35 ze22 rfl rfl rfl rfl rfl) rfl fun v w34 hv => ?_
      obtain ⟨A35, rfl, hM, hf, hr36⟩ := hv
      have hr26 := hr26.fut hf
      obtain ⟨y37, hx38, hF⟩ := obind hF
      refine RL.call Try.func9 bd9 rfl rfl (c_sum_Whole _ _ _ ([b22, [(IntKind.u8.wrap (IntKind.u16.wrap (Int.tdiv y27 256))), (IntKind.u8.wrap (Int.tmod y27 256))]]) (hr36) _ hx38) fun v w39 hv => ?_
      obtain ⟨rfl, hN40⟩ := hv
      have hr26 := hr26.fut hN40.fut
      have hr36 := hr36.fut hN40.fut
      have hM := hM.call0 hN40
      refine RL.val (O.not rfl) rfl ?_
      refine RL.nil ?_
      refine KQ.then_n ?_
      refine KC.cond rfl (fun hc => ?_) (fun hc => ?_)
      · rw [if_pos hc] at hF
        refine KC.seq ?_
        refine KC.region ?_
        refine RL.val (O.assign rfl) rfl ?_
        refine RL.nil ?_
        refine KQ.then_n ?_
        refine KC.ret ?_
        refine KQ.then_r ?_
        obtain rfl := Option.some.inj hF
        have hM := hM.pick [] rfl (by decide)
        refine KQ.rets Try.results3 (RVs.cons (RV.tm rfl) RVs.nil) ?_
        exact ⟨_, rfl, rfl, hM⟩
      · rw [if_neg (ne_true hc)] at hF
        refine KC.skip ?_
        refine KQ.then_n ?_
        refine KC.seq ?_
        refine KC.seq ?_
        refine KC.region ?_
        refine RL.val (O.move rfl) rfl ?_
        refine RL.val (O.len sl22 rfl) rfl ?_
        refine RL.val (O.eql rfl rfl) rfl ?_
        refine RL.nil ?_
        refine KQ.then_n ?_
        refine KC.cond rfl (fun hc => ?_) (fun hc => ?_)
        · rw [if_pos hc] at hF
          refine KC.cut (fun a w46 => ∃ (t45 : Bool), Kn 144 [(8, .bool t45)] a ∧ Mem w [] w46 [] ∧ F_law03_SumKeeps_j2 t45 = some r) ?_ ?_
          · refine KC.region ?_
            refine RL.val (O.move rfl) rfl ?_
            refine RL.val (O.eql rfl rfl) rfl ?_
            refine RL.val (O.move rfl) rfl ?_
            refine RL.bcase (t := 43) rfl (fun hc => ?_) (fun hc => ?_)
            · rw [if_pos hc] at hF
              obtain ⟨y47, hx48, hF⟩ := obind hF
              refine RL.gcall rfl rfl Try.func7 bd7 rfl rfl (c_law03_works _ _ hx48) fun v w49 hv => ?_
              obtain ⟨rfl, hN50⟩ := hv
              have hr26 := hr26.fut hN50.fut
              have hr36 := hr36.fut hN50.fut
              have hM := hM.call0 hN50
              refine RL.val (O.pickt rfl rfl) rfl ?_
              refine RL.val (O.assign rfl) rfl ?_
              refine RL.nil ?_
              refine KQ.then_k ?_
              have hM := hM.pick [] rfl (by decide)
              exact fun a ha => ⟨y47, ha.less (less_cons rfl less_nil), hM, hF⟩
            · rw [if_neg (ne_true hc)] at hF
              refine RL.gskip rfl rfl rfl rfl ?_
              refine RL.val (O.pickf rfl rfl) rfl ?_
              refine RL.val (O.assign rfl) rfl ?_
              refine RL.nil ?_
              refine KQ.then_k ?_
              have hM := hM.pick [] rfl (by decide)
              exact fun a ha => ⟨false, ha.less (less_cons rfl less_nil), hM, hF⟩
          · rintro a w46 ⟨t45, ha, hM, hF⟩
            refine KC.app ha ?_
            clear ha
            unfold F_law03_SumKeeps_j2 at hF
            refine KC.ret ?_
            refine KQ.then_r ?_
            obtain rfl := Option.some.inj hF
            refine KQ.rets Try.results3 (RVs.cons (RV.tm rfl) RVs.nil) ?_
            exact ⟨_, rfl, rfl, hM⟩
        · rw [if_neg (ne_true hc)] at hF
          refine KC.skip ?_
          refine KQ.then_n ?_
          refine KC.seq ?_
          refine KC.region ?_
          refine RL.val (O.move rfl) rfl ?_
          refine RL.val (O.move rfl) rfl ?_
          refine RL.val (O.len sl22 rfl) rfl ?_
          refine RL.val (O.quo rfl rfl (by decide)) rfl ?_
          obtain ⟨y51, hx52, hF⟩ := obind hF
          refine RL.call Try.func10 bd10 rfl rfl (c_kit_Pick _ i5 (IntKind.i64.wrap (Int.tdiv (b22.length : Int) 2)) _ hx52) fun v w53 hv => ?_
          obtain ⟨rfl, hN54⟩ := hv
          have hr26 := hr26.fut hN54.fut
          have hr36 := hr36.fut hN54.fut
          have hM := hM.call0 hN54
          refine RL.val (O.mul rfl rfl) rfl ?_
          refine RL.val (O.assign rfl) rfl ?_
          refine RL.nil ?_
          refine KQ.then_n ?_
          refine KC.seq ?_
          refine KC.region ?_
          refine RL.val (O.move rfl) rfl ?_
          refine RL.val (O.move rfl) rfl ?_
          refine RL.val (O.len sl22 rfl) rfl ?_
          refine RL.val (O.quo rfl rfl (by decide)) rfl ?_
          obtain ⟨y55, hx56, hF⟩ := obind hF
          refine RL.call Try.func10 bd10 rfl rfl (c_kit_Pick _ kv6 (IntKind.i64.wrap (Int.tdiv (b22.length : Int) 2)) _ hx56) fun v w57 hv => ?_
          obtain ⟨rfl, hN58⟩ := hv
          have hr26 := hr26.fut hN58.fut
          have hr36 := hr36.fut hN58.fut
          have hM := hM.call0 hN58
          refine RL.val (O.mul rfl rfl) rfl ?_
          refine RL.val (O.assign rfl) rfl ?_
          refine RL.nil ?_
          refine KQ.then_n ?_
          refine KC.seq ?_
          refine KC.region ?_
          refine RL.val (O.assign rfl) rfl ?_
          refine RL.nil ?_
          refine KQ.then_n ?_
          refine KC.seq ?_
          refine KC.region ?_
          refine RL.val (O.move rfl) rfl ?_
          refine RL.val (O.move rfl) rfl ?_
          obtain ⟨hq62, hF⟩ := cut_some hF
          refine RL.eff (E.app0 (enc := (eI .u8)) (ys := b22) hM sl22 ze5 rfl rfl rfl rfl rfl (hM.inp hr21 Off.nil) (fun _ => One.all rfl) (of_decide_eq_true hq62)) rfl fun v w61 hv => ?_
          obtain ⟨A59, c60, rfl, hM⟩ := hv
          refine RL.val (O.assign rfl) rfl ?_
          refine RL.nil ?_
          refine KQ.then_n ?_
          refine KC.seq ?_
          refine KC.region ?_
          refine RL.val (O.move rfl) rfl ?_
          refine RL.val (O.move rfl) rfl ?_
          refine RL.val (O.move rfl) rfl ?_
          refine RL.val (O.move rfl) rfl ?_
          obtain ⟨xv66, hx65, hF⟩ := obind hF
          have hA64 := Rd.atN (f := (eI .u8)) (s := 1) (fun _ => rfl) (by decide) (hM.inp hr21 Off.nil) hx65
          refine RL.val (O.idxA sl22 (hA64) rfl rfl) rfl ?_
          refine RL.val (O.load sc5 rfl (hA64).cells.at0) rfl ?_
          obtain ⟨xv69, hx68, hF⟩ := obind hF
          have hA67 := Rd.atN (f := (eI .u8)) (s := 1) (fun _ => rfl) (by decide) (hM.rd (i := 1) rfl) hx68
          refine RL.val (O.idxA sl22 (hA67) rfl rfl) rfl ?_
          refine RL.effs (E.stR (enc := (eI .u8)) (j := 1) (off := 0) (vs := [.int .u8 xv66]) (x' := xv66) hM rfl (fun _ => rfl) hx68 sz5 rfl (addsR_eq [] rfl) rfl rfl (One.all rfl) rfl rfl) fun w70 hM => ?_
          obtain ⟨hM, hn71⟩ := hM
          refine RL.reslot (t := 10) rfl hn71 ?_
          refine RL.reslot (t := 60) rfl hn71 ?_
          refine RL.reslot (t := 61) rfl hn71 ?_
          refine RL.nil ?_
          refine KQ.then_n ?_
          refine KC.seq ?_
          refine KC.region ?_
          refine RL.val (O.move rfl) rfl ?_
          refine RL.val (O.move rfl) rfl ?_
          refine RL.val (O.add rfl rfl) rfl ?_
          refine RL.val (O.move rfl) rfl ?_
          refine RL.val (O.move rfl) rfl ?_
          refine RL.val (O.add rfl rfl) rfl ?_
          obtain ⟨xv74, hx73, hF⟩ := obind hF
          have hA72 := Rd.atN (f := (eI .u8)) (s := 1) (fun _ => rfl) (by decide) (hM.inp hr21 Off.nil) hx73
          refine RL.val (O.idxA sl22 (hA72) rfl rfl) rfl ?_
          refine RL.val (O.load sc5 rfl (hA72).cells.at0) rfl ?_
          obtain ⟨xv77, hx76, hF⟩ := obind hF
          have hA75 := Rd.atN (f := (eI .u8)) (s := 1) (fun _ => rfl) (by decide) (hM.rd (i := 1) rfl) hx76
          refine RL.val (O.idxA sl22 (hA75) rfl rfl) rfl ?_
          refine RL.effs (E.stR (enc := (eI .u8)) (j := 1) (off := 0) (vs := [.int .u8 xv74]) (x' := xv74) hM rfl (fun _ => rfl) hx76 sz5 rfl (addsR_eq [] rfl) rfl rfl (One.all rfl) rfl rfl) fun w78 hM => ?_
          obtain ⟨hM, hn79⟩ := hM
          refine RL.reslot (t := 10) rfl hn79 ?_
          refine RL.reslot (t := 60) rfl hn79 ?_
          refine RL.reslot (t := 61) rfl hn79 ?_
          refine RL.reslot (t := 68) rfl hn79 ?_
          refine RL.nil ?_
          refine KQ.then_n ?_
          refine KC.seq ?_
          refine KC.region ?_
          refine RL.val (O.move rfl) rfl ?_
          refine RL.val (O.move rfl) rfl ?_
          refine RL.val (O.move rfl) rfl ?_
          refine RL.val (O.move rfl) rfl ?_
          obtain ⟨xv82, hx81, hF⟩ := obind hF
          have hA80 := Rd.atN (f := (eI .u8)) (s := 1) (fun _ => rfl) (by decide) (hM.inp hr21 Off.nil) hx81
          refine RL.val (O.idxA sl22 (hA80) rfl rfl) rfl ?_
          refine RL.val (O.load sc5 rfl (hA80).cells.at0) rfl ?_
          obtain ⟨xv85, hx84, hF⟩ := obind hF
          have hA83 := Rd.atN (f := (eI .u8)) (s := 1) (fun _ => rfl) (by decide) (hM.rd (i := 1) rfl) hx84
          refine RL.val (O.idxA sl22 (hA83) rfl rfl) rfl ?_
          refine RL.effs (E.stR (enc := (eI .u8)) (j := 1) (off := 0) (vs := [.int .u8 xv82]) (x' := xv82) hM rfl (fun _ => rfl) hx84 sz5 rfl (addsR_eq [] rfl) rfl rfl (One.all rfl) rfl rfl) fun w86 hM => ?_
          obtain ⟨hM, hn87⟩ := hM
          refine RL.reslot (t := 10) rfl hn87 ?_
          refine RL.reslot (t := 60) rfl hn87 ?_
          refine RL.reslot (t := 61) rfl hn87 ?_
          refine RL.reslot (t := 68) rfl hn87 ?_
          refine RL.reslot (t := 77) rfl hn87 ?_
          refine RL.nil ?_
          refine KQ.then_n ?_
          refine KC.seq ?_
          refine KC.region ?_
          refine RL.val (O.move rfl) rfl ?_
          refine RL.val (O.move rfl) rfl ?_
          refine RL.val (O.add rfl rfl) rfl ?_
          refine RL.val (O.move rfl) rfl ?_
          refine RL.val (O.move rfl) rfl ?_
          refine RL.val (O.add rfl rfl) rfl ?_
          obtain ⟨xv90, hx89, hF⟩ := obind hF
          have hA88 := Rd.atN (f := (eI .u8)) (s := 1) (fun _ => rfl) (by decide) (hM.inp hr21 Off.nil) hx89
          refine RL.val (O.idxA sl22 (hA88) rfl rfl) rfl ?_
          refine RL.val (O.load sc5 rfl (hA88).cells.at0) rfl ?_
          obtain ⟨xv93, hx92, hF⟩ := obind hF
          have hA91 := Rd.atN (f := (eI .u8)) (s := 1) (fun _ => rfl) (by decide) (hM.rd (i := 1) rfl) hx92
          refine RL.val (O.idxA sl22 (hA91) rfl rfl) rfl ?_
          refine RL.effs (E.stR (enc := (eI .u8)) (j := 1) (off := 0) (vs := [.int .u8 xv90]) (x' := xv90) hM rfl (fun _ => rfl) hx92 sz5 rfl (addsR_eq [] rfl) rfl rfl (One.all rfl) rfl rfl) fun w94 hM => ?_
          obtain ⟨hM, hn95⟩ := hM
          refine RL.reslot (t := 10) rfl hn95 ?_
          refine RL.reslot (t := 60) rfl hn95 ?_
          refine RL.reslot (t := 61) rfl hn95 ?_
          refine RL.reslot (t := 68) rfl hn95 ?_
          refine RL.reslot (t := 77) rfl hn95 ?_
          refine RL.reslot (t := 84) rfl hn95 ?_
          refine RL.nil ?_
          refine KQ.then_n ?_
          refine KC.seq ?_
          refine KC.seq ?_
          refine KC.region ?_
          refine RL.val (O.move rfl) rfl ?_
          refine RL.eff (E.bslR (enc := (eI .u8)) (us := [.slice A59 (((((b22.set ((IntKind.i64.wrap (2 * y51))).toNat xv66).set ((IntKind.i64.wrap ((IntKind.i64.wrap (2 * y51)) + 1))).toNat xv74).set ((IntKind.i64.wrap (2 * y55))).toNat xv82).set ((IntKind.i64.wrap ((IntKind.i64.wrap (2 * y55)) + 1))).toNat xv90)).length c60]) (xss := [((((b22.set ((IntKind.i64.wrap (2 * y51))).toNat xv66).set ((IntKind.i64.wrap ((IntKind.i64.wrap (2 * y51)) + 1))).toNat xv74).set ((IntKind.i64.wrap (2 * y55))).toNat xv82).set ((IntKind.i64.wrap ((IntKind.i64.wrap (2 * y55)) + 1))).toNat xv90)]) (Rdl.cons ((hM.rd (i := 1) rfl)) Rdl.nil) hM sl35 ze22 rfl rfl rfl rfl rfl) rfl fun v w96 hv => ?_
          obtain ⟨A97, rfl, hM, hf, hr98⟩ := hv
          obtain ⟨y99, hx100, hF⟩ := obind hF
          refine RL.call Try.func8 bd8 rfl rfl (c_sum_Of _ _ _ ([((((b22.set ((IntKind.i64.wrap (2 * y51))).toNat xv66).set ((IntKind.i64.wrap ((IntKind.i64.wrap (2 * y51)) + 1))).toNat xv74).set ((IntKind.i64.wrap (2 * y55))).toNat xv82).set ((IntKind.i64.wrap ((IntKind.i64.wrap (2 * y55)) + 1))).toNat xv90)]) (hr98) _ hx100) fun v w101 hv => ?_
          obtain ⟨rfl, hN102⟩ := hv
          have hr98 := hr98.fut hN102.fut
          have hM := hM.call0 hN102
          refine RL.val (O.move rfl) rfl ?_
          refine RL.val (O.neq rfl rfl) rfl ?_
          refine RL.nil ?_
          refine KQ.then_n ?_
          refine KC.cond rfl (fun hc => ?_) (fun hc => ?_)
          · rw [if_pos hc] at hF
            refine KC.seq ?_
            refine KC.region ?_
            refine RL.val (O.assign rfl) rfl ?_
            refine RL.nil ?_
            refine KQ.then_n ?_
            refine KC.ret ?_
            refine KQ.then_r ?_
            obtain rfl := Option.some.inj hF
            have hM := hM.pick [] rfl (by decide)
            refine KQ.rets Try.results3 (RVs.cons (RV.tm rfl) RVs.nil) ?_
            exact ⟨_, rfl, rfl, hM⟩
          · rw [if_neg (ne_true hc)] at hF
            refine KC.skip ?_
            refine KQ.then_n ?_
            refine KC.seq ?_
            have hM := hM.drewN 1
            have hr98 := hr98.fut (fut_drewN _ 1)
            refine KC.draw [] [] [0, 1, 2, 3, 4, 5, 6, 7, 8, 9, 10, 11, 12, 13] moP (by kernel_rfl) ?_
            refine RD.q rfl rfl rfl (fun w' hf => O.move rfl) ?_
            refine RD.q rfl rfl rfl (fun w' hf => O.move rfl) ?_
            obtain ⟨xv105, hx104, hF⟩ := obind hF
            have hA103 := Rd.atN (f := (eI .u8)) (s := 1) (fun _ => rfl) (by decide) (hM.inp hr21 Off.nil) hx104
            refine RD.q rfl rfl rfl (fun w' hf => O.idxA sl22 (hA103.fut hf) rfl rfl) ?_
            refine RD.q rfl rfl rfl (fun w' hf => O.load sc5 rfl (hA103.fut hf).cells.at0) ?_
            refine RD.q rfl rfl rfl (fun w' hf => O.conv un5 Try.underlying23 rfl) ?_
            refine RD.q rfl rfl rfl (fun w' hf => O.mul rfl rfl) ?_
            refine RD.q rfl rfl rfl (fun w' hf => O.move rfl) ?_
            refine RD.q rfl rfl rfl (fun w' hf => O.move rfl) ?_
            refine RD.q rfl rfl rfl (fun w' hf => O.add rfl rfl) ?_
            obtain ⟨xv108, hx107, hF⟩ := obind hF
            have hA106 := Rd.atN (f := (eI .u8)) (s := 1) (fun _ => rfl) (by decide) (hM.inp hr21 Off.nil) hx107
            refine RD.q rfl rfl rfl (fun w' hf => O.idxA sl22 (hA106.fut hf) rfl rfl) ?_
            refine RD.q rfl rfl rfl (fun w' hf => O.load sc5 rfl (hA106.fut hf).cells.at0) ?_
            refine RD.q rfl rfl rfl (fun w' hf => O.conv un5 Try.underlying23 rfl) ?_
            refine RD.q rfl rfl rfl (fun w' hf => O.add rfl rfl) ?_
            refine RD.q rfl rfl rfl (fun w' hf => O.assign rfl) ?_
            refine RD.nil ?_
            refine KQ.then_n ?_
            refine KC.seq ?_
            refine KC.region ?_
            refine RL.val (O.move rfl) rfl ?_
            refine RL.val (O.move rfl) rfl ?_
            refine RL.val (O.move rfl) rfl ?_
            obtain ⟨y109, hx110, hF⟩ := obind hF
            refine RL.call Try.func11 bd11 rfl rfl (c_sum_Change _ y27 (IntKind.u16.wrap ((IntKind.u16.wrap ((IntKind.u16.wrap xv105) * 256)) + (IntKind.u16.wrap xv108))) tov7 _ hx110) fun v w111 hv => ?_
            obtain ⟨rfl, hN112⟩ := hv
            have hr98 := hr98.fut hN112.fut
            have hM := hM.call0 hN112
            refine RL.val (O.assign rfl) rfl ?_
            refine RL.nil ?_
            refine KQ.then_n ?_
            refine KC.seq ?_
            refine KC.region ?_
            refine RL.val (O.assign rfl) rfl ?_
            refine RL.nil ?_
            refine KQ.then_n ?_
            refine KC.seq ?_
            refine KC.region ?_
            refine RL.val (O.move rfl) rfl ?_
            refine RL.val (O.move rfl) rfl ?_
            obtain ⟨hq116, hF⟩ := cut_some hF
            refine RL.eff (E.app0 (enc := (eI .u8)) (ys := b22) hM sl22 ze5 rfl rfl rfl rfl rfl (hM.inp hr21 Off.nil) (fun _ => One.all rfl) (of_decide_eq_true hq116)) rfl fun v w115 hv => ?_
            obtain ⟨A113, c114, rfl, hM⟩ := hv
            refine RL.val (O.assign rfl) rfl ?_
            refine RL.nil ?_
            refine KQ.then_n ?_
            refine KC.seq ?_
            refine KC.region ?_
            refine RL.val (O.move rfl) rfl ?_
            refine RL.val (O.move rfl) rfl ?_
            refine RL.val (O.move rfl) rfl ?_
            refine RL.val (O.quo rfl rfl (by decide)) rfl ?_
            refine RL.val (O.conv un23 Try.underlying5 rfl) rfl ?_
            obtain ⟨xv120, hx119, hF⟩ := obind hF
            have hA118 := Rd.atN (f := (eI .u8)) (s := 1) (fun _ => rfl) (by decide) (hM.rd (i := 2) rfl) hx119
            refine RL.val (O.idxA sl22 (hA118) rfl rfl) rfl ?_
            refine RL.effs (E.stR (enc := (eI .u8)) (j := 2) (off := 0) (vs := [.int .u8 (IntKind.u8.wrap (IntKind.u16.wrap (Int.tdiv tov7 256)))]) (x' := (IntKind.u8.wrap (IntKind.u16.wrap (Int.tdiv tov7 256)))) hM rfl (fun _ => rfl) hx119 sz5 rfl (addsR_eq [] rfl) rfl rfl (One.all rfl) rfl rfl) fun w121 hM => ?_
            obtain ⟨hM, hn122⟩ := hM
            refine RL.reslot (t := 13) rfl hn122 ?_
            refine RL.reslot (t := 117) rfl hn122 ?_
            refine RL.reslot (t := 118) rfl hn122 ?_
            refine RL.nil ?_
            refine KQ.then_n ?_
            refine KC.seq ?_
            refine KC.region ?_
            refine RL.val (O.move rfl) rfl ?_
            refine RL.val (O.move rfl) rfl ?_
            refine RL.val (O.add rfl rfl) rfl ?_
            refine RL.val (O.move rfl) rfl ?_
            refine RL.val (O.rem rfl rfl (by decide)) rfl ?_
            refine RL.val (O.conv un23 Try.underlying5 rfl) rfl ?_
            obtain ⟨xv125, hx124, hF⟩ := obind hF
            have hA123 := Rd.atN (f := (eI .u8)) (s := 1) (fun _ => rfl) (by decide) (hM.rd (i := 2) rfl) hx124
            refine RL.val (O.idxA sl22 (hA123) rfl rfl) rfl ?_
            refine RL.effs (E.stR (enc := (eI .u8)) (j := 2) (off := 0) (vs := [.int .u8 (IntKind.u8.wrap (Int.tmod tov7 256))]) (x' := (IntKind.u8.wrap (Int.tmod tov7 256))) hM rfl (fun _ => rfl) hx124 sz5 rfl (addsR_eq [] rfl) rfl rfl (One.all rfl) rfl rfl) fun w126 hM => ?_
            obtain ⟨hM, hn127⟩ := hM
            refine RL.reslot (t := 13) rfl hn127 ?_
            refine RL.reslot (t := 117) rfl hn127 ?_
            refine RL.reslot (t := 118) rfl hn127 ?_
            refine RL.reslot (t := 124) rfl hn127 ?_
            refine RL.nil ?_
            refine KQ.then_n ?_
            refine KC.cut (fun a w143 => ∃ (t142 : Bool), Kn 144 [(8, .bool t142)] a ∧ Mem w [] w143 [] ∧ F_law03_SumKeeps_j3 t142 = some r) ?_ ?_
            · refine KC.region ?_
              refine RL.val (O.move rfl) rfl ?_
              refine RL.val (O.move rfl) rfl ?_
              refine RL.val (O.quo rfl rfl (by decide)) rfl ?_
              refine RL.val (O.conv un23 Try.underlying5 rfl) rfl ?_
              refine RL.val (O.move rfl) rfl ?_
              refine RL.val (O.rem rfl rfl (by decide)) rfl ?_
              refine RL.val (O.conv un23 Try.underlying5 rfl) rfl ?_
              refine RL.eff (E.bsl (enc := (eI .u8)) (xs := [(IntKind.u8.wrap (IntKind.u16.wrap (Int.tdiv y109 256))), (IntKind.u8.wrap (Int.tmod y109 256))]) hM sl22 ze5 rfl rfl rfl (fun _ => rfl) rfl rfl rfl) rfl fun v w144 hv => ?_
              obtain ⟨A145, rfl, hM, hf⟩ := hv
              refine RL.eff (E.bslR (enc := (eI .u8)) (us := [.slice A113 (((b22.set ((IntKind.i64.wrap (2 * y51))).toNat (IntKind.u8.wrap (IntKind.u16.wrap (Int.tdiv tov7 256)))).set ((IntKind.i64.wrap ((IntKind.i64.wrap (2 * y51)) + 1))).toNat (IntKind.u8.wrap (Int.tmod tov7 256)))).length c114, .slice A145 ([(IntKind.u8.wrap (IntKind.u16.wrap (Int.tdiv y109 256))), (IntKind.u8.wrap (Int.tmod y109 256))]).length 2]) (xss := [((b22.set ((IntKind.i64.wrap (2 * y51))).toNat (IntKind.u8.wrap (IntKind.u16.wrap (Int.tdiv tov7 256)))).set ((IntKind.i64.wrap ((IntKind.i64.wrap (2 * y51)) + 1))).toNat (IntKind.u8.wrap (Int.tmod tov7 256))), [(IntKind.u8.wrap (IntKind.u16.wrap (Int.tdiv y109 256))), (IntKind.u8.wrap (Int.tmod y109 256))]]) (Rdl.cons ((hM.rd (i := 2) rfl)) (Rdl.cons ((hM.rd (i := 3) rfl)) Rdl.nil)) hM sl35 ze22 rfl rfl rfl rfl rfl) rfl fun v w147 hv => ?_
              obtain ⟨A148, rfl, hM, hf, hr149⟩ := hv
              obtain ⟨y150, hx151, hF⟩ := obind hF
              refine RL.call Try.func9 bd9 rfl rfl (c_sum_Whole _ _ _ ([((b22.set ((IntKind.i64.wrap (2 * y51))).toNat (IntKind.u8.wrap (IntKind.u16.wrap (Int.tdiv tov7 256)))).set ((IntKind.i64.wrap ((IntKind.i64.wrap (2 * y51)) + 1))).toNat (IntKind.u8.wrap (Int.tmod tov7 256))), [(IntKind.u8.wrap (IntKind.u16.wrap (Int.tdiv y109 256))), (IntKind.u8.wrap (Int.tmod y109 256))]]) (hr149) _ hx151) fun v w152 hv => ?_
              obtain ⟨rfl, hN153⟩ := hv
              have hr149 := hr149.fut hN153.fut
              have hM := hM.call0 hN153
              refine RL.val (O.move rfl) rfl ?_
              refine RL.bcase (t := 141) rfl (fun hc => ?_) (fun hc => ?_)
              · rw [if_pos hc] at hF
                obtain ⟨y154, hx155, hF⟩ := obind hF
                refine RL.gcall rfl rfl Try.func7 bd7 rfl rfl (c_law03_works _ _ hx155) fun v w156 hv => ?_
                obtain ⟨rfl, hN157⟩ := hv
                have hr149 := hr149.fut hN157.fut
                have hM := hM.call0 hN157
                refine RL.val (O.pickt rfl rfl) rfl ?_
                refine RL.val (O.assign rfl) rfl ?_
                refine RL.nil ?_
                refine KQ.then_k ?_
                have hM := hM.pick [] rfl (by decide)
                exact fun a ha => ⟨y154, ha.less (less_cons rfl less_nil), hM, hF⟩
              · rw [if_neg (ne_true hc)] at hF
                refine RL.gskip rfl rfl rfl rfl ?_
                refine RL.val (O.pickf rfl rfl) rfl ?_
                refine RL.val (O.assign rfl) rfl ?_
                refine RL.nil ?_
                refine KQ.then_k ?_
                have hM := hM.pick [] rfl (by decide)
                exact fun a ha => ⟨false, ha.less (less_cons rfl less_nil), hM, hF⟩
            · rintro a w143 ⟨t142, ha, hM, hF⟩
              refine KC.app ha ?_
              clear ha
              unfold F_law03_SumKeeps_j3 at hF
              refine KC.ret ?_
              obtain rfl := Option.some.inj hF
              refine KQ.rets Try.results3 (RVs.cons (RV.tm rfl) RVs.nil) ?_
              exact ⟨_, rfl, rfl, hM⟩
set_option maxRecDepth 100000 in
set_option maxHeartbeats 4000000 in
theorem c_ref03_Words (w : World) (A2 : Option Addr) (c3 : Nat) (b1 : List Int) (hr4 : Rd w A2 c3 1 b1.length (b1.flatMap (eI .u8))) (r : (List Int)) (hF : F_ref03_Words b1 = some r) :
    CallsR Try.prog 13 [.slice A2 (b1).length c3] w (fun v w' => ∃ (A0 : Option Addr) (c0 : Nat), v = .slice A0 r.length c0 ∧ Mem w [] w' [.row A0 c0 31 1 r.length (r.flatMap (eI .u64))]) := by
  refine calls_KC Try.func13 rfl Try.ntmps13 rfl ?_
  have hM := Mem.init w
  unfold F_ref03_Words at hF
  refine KC.seq ?_
  refine KC.region ?_
  refine RL.val (O.assign rfl) rfl ?_
  refine RL.nil ?_
  refine KQ.then_n ?_
  refine KC.seq ?_
  refine KC.region ?_
  refine RL.val (O.assign rfl) rfl ?_
  refine RL.nil ?_
  refine KQ.then_n ?_
  refine KC.seq ?_
  refine KC.seq ?_
  refine KC.region ?_
  refine RL.val (O.assign rfl) rfl ?_
  refine RL.nil ?_
  refine KQ.then_n ?_
  refine KC.block ?_
  refine KC.loop (fun k56 a w54 => ∃ (A50 : Option Addr) (c51 : Nat) (out52 : List Int) (i53 : Int), Kn 36 [(0, .slice A2 (b1).length c3), (3, .slice A50 (out52).length c51), (4, .int .i64 i53)] a ∧ Mem w [] w54 [.row A50 c51 31 1 (out52).length ((out52).flatMap (eI .u64))] ∧ F_ref03_Words_L1 b1 k56 out52 i53 = some r) ?_ ?_
  · have hM := hM.nilrow 31 1
    exact fun a ha => ⟨fuel0, none, 0, ([]), 0, ha.less (less_cons rfl (less_cons rfl (less_cons rfl less_nil))), hM, hF⟩
  · rintro k56 a w54 ⟨A50, c51, out52, i53, ha, hM, hF⟩
    refine KC.app ha ?_
    clear ha
    cases k56 with
    | zero => exact (none_some hF).elim
    | succ k56 =>
    have hF : F_ref03_Words_l1 (F_ref03_Words_L1 b1 k56) b1 out52 i53 = some r := hF
    unfold F_ref03_Words_l1 at hF
    refine KC.seq ?_
    refine KC.seq ?_
    refine KC.region ?_
    refine RL.val (O.move rfl) rfl ?_
    refine RL.val (O.move rfl) rfl ?_
    refine RL.val (O.len sl22 rfl) rfl ?_
    refine RL.val (O.lss rfl rfl) rfl ?_
    refine RL.nil ?_
    refine KQ.then_n ?_
    refine KC.cond rfl (fun hc => ?_) (fun hc => ?_)
    · rw [if_pos hc] at hF
      refine KC.skip ?_
      refine KQ.then_n ?_
      refine KC.seq ?_
      refine KC.block ?_
      refine KC.seq ?_
      refine KC.region ?_
      refine RL.val (O.move rfl) rfl ?_
      refine RL.val (O.move rfl) rfl ?_
      obtain ⟨xv59, hx58, hF⟩ := obind hF
      have hA57 := Rd.atN (f := (eI .u8)) (s := 1) (fun _ => rfl) (by decide) (hM.inp hr4 Off.nil) hx58
      refine RL.val (O.idxA sl22 (hA57) rfl rfl) rfl ?_
      refine RL.val (O.load sc5 rfl (hA57).cells.at0) rfl ?_
      refine RL.val (O.conv un5 Try.underlying31 rfl) rfl ?_
      refine RL.val (O.mul rfl rfl) rfl ?_
      refine RL.val (O.assign rfl) rfl ?_
      refine RL.nil ?_
      refine KQ.then_n ?_
      refine KC.cut (fun a w65 => ∃ (nv64 : Int), Kn 36 [(0, .slice A2 (b1).length c3), (3, .slice A50 (out52).length c51), (4, .int .i64 i53), (5, .int .u64 nv64)] a ∧ Mem w [] w65 [.row A50 c51 31 1 (out52).length ((out52).flatMap (eI .u64))] ∧ F_ref03_Words_j1 out52 i53 (F_ref03_Words_L1 b1 k56) nv64 = some r) ?_ ?_
      · refine KC.seq ?_
        refine KC.region ?_
        refine RL.val (O.move rfl) rfl ?_
        refine RL.val (O.add rfl rfl) rfl ?_
        refine RL.val (O.move rfl) rfl ?_
        refine RL.val (O.len sl22 rfl) rfl ?_
        refine RL.val (O.lss rfl rfl) rfl ?_
        refine RL.nil ?_
        refine KQ.then_n ?_
        refine KC.cond rfl (fun hc => ?_) (fun hc => ?_)
        · rw [if_pos hc] at hF
          refine KC.region ?_
          refine RL.val (O.move rfl) rfl ?_
          refine RL.val (O.move rfl) rfl ?_
          refine RL.val (O.move rfl) rfl ?_
          refine RL.val (O.add rfl rfl) rfl ?_
          obtain ⟨xv76, hx75, hF⟩ := obind hF
          have hA74 := Rd.atN (f := (eI .u8)) (s := 1) (fun _ => rfl) (by decide) (hM.inp hr4 Off.nil) hx75
          refine RL.val (O.idxA sl22 (hA74) rfl rfl) rfl ?_
          refine RL.val (O.load sc5 rfl (hA74).cells.at0) rfl ?_
          refine RL.val (O.conv un5 Try.underlying31 rfl) rfl ?_
          refine RL.val (O.add rfl rfl) rfl ?_
          refine RL.val (O.assign rfl) rfl ?_
          refine RL.nil ?_
          refine KQ.then_k ?_
          exact fun a ha => ⟨(IntKind.u64.wrap ((IntKind.u64.wrap ((IntKind.u64.wrap xv59) * 256)) + (IntKind.u64.wrap xv76))), ha.less (less_cons rfl (less_cons rfl (less_cons rfl (less_cons rfl less_nil)))), hM, hF⟩
        · rw [if_neg (ne_true hc)] at hF
          refine KC.skip ?_
          refine KQ.then_k ?_
          exact fun a ha => ⟨(IntKind.u64.wrap ((IntKind.u64.wrap xv59) * 256)), ha.less (less_cons rfl (less_cons rfl (less_cons rfl (less_cons rfl less_nil)))), hM, hF⟩
      · rintro a w65 ⟨nv64, ha, hM, hF⟩
        refine KC.app ha ?_
        clear ha
        unfold F_ref03_Words_j1 at hF
        refine KC.region ?_
        refine RL.val (O.move rfl) rfl ?_
        refine RL.val (O.move rfl) rfl ?_
        refine RL.eff (E.bsl (enc := (eI .u64)) (xs := [nv64]) hM sl32 ze31 rfl rfl rfl (fun _ => rfl) rfl rfl rfl) rfl fun v w66 hv => ?_
        obtain ⟨A67, rfl, hM, hf⟩ := hv
        obtain ⟨hq72, hF⟩ := cut_some hF
        refine RL.eff (E.app (enc := (eI .u64)) (xs := out52) (ys := [nv64]) (j := 0) hM rfl sl32 ze31 rfl rfl rfl rfl rfl (hM.rd (i := 1) rfl) (fun _ => One.all rfl) (of_decide_eq_true hq72)) rfl fun v w71 hv => ?_
        obtain ⟨A69, c70, rfl, hM⟩ := hv
        refine RL.val (O.assign rfl) rfl ?_
        refine RL.nil ?_
        refine KQ.blk_n ?_
        refine KQ.then_n ?_
        refine KC.region ?_
        refine RL.val (O.move rfl) rfl ?_
        refine RL.val (O.add rfl rfl) rfl ?_
        refine RL.val (O.assign rfl) rfl ?_
        refine RL.nil ?_
        refine KQ.then_k ?_
        have hM := hM.pick [0] rfl (by decide)
        exact fun a ha => ⟨k56, Nat.lt_succ_self k56, A69, c70, (out52 ++ [nv64]), (IntKind.i64.wrap (i53 + 2)), ha.less (less_cons rfl (less_cons rfl (less_cons rfl less_nil))), hM, hF⟩
    · rw [if_neg (ne_true hc)] at hF
      refine KC.exit ?_
      refine KQ.then_x ?_
      refine KQ.then_x ?_
      refine KQ.blk_x ?_
      refine KQ.then_n ?_
      refine KC.seq ?_
      refine KC.region ?_
      refine RL.val (O.move rfl) rfl ?_
      refine RL.val (O.assign rfl) rfl ?_
      refine RL.nil ?_
      refine KQ.then_n ?_
      refine KC.ret ?_
      obtain rfl := Option.some.inj hF
      refine KQ.rets Try.results13 (RVs.cons (RV.tm rfl) RVs.nil) ?_
      exact ⟨_, rfl, A50, c51, rfl, hM⟩
set_option maxRecDepth 100000 in
set_option maxHeartbeats 4000000 in
theorem c_ref03_Fold (w : World) (nv1 : Int) (r : Int) (hF : F_ref03_Fold nv1 = some r) :
    CallsR Try.prog 24 [.int .u64 nv1] w (fun v w' => v = .int .u64 r ∧ Mem w [] w' []) := by
  refine calls_KC Try.func24 rfl Try.ntmps24 rfl ?_
  have hM := Mem.init w
  unfold F_ref03_Fold at hF
  refine KC.seq ?_
  refine KC.region ?_
  refine RL.val (O.assign rfl) rfl ?_
  refine RL.nil ?_
  refine KQ.then_n ?_
  refine KC.seq ?_
  refine KC.block ?_
  refine KC.loop (fun k6 a w4 => ∃ (nv3 : Int), Kn 11 [(0, .int .u64 nv3)] a ∧ Mem w [] w4 [] ∧ F_ref03_Fold_L1 k6 nv3 = some r) ?_ ?_
  · exact fun a ha => ⟨fuel0, nv1, ha.less (less_cons rfl less_nil), hM, hF⟩
  · rintro k6 a w4 ⟨nv3, ha, hM, hF⟩
    refine KC.app ha ?_
    clear ha
    cases k6 with
    | zero => exact (none_some hF).elim
    | succ k6 =>
    have hF : F_ref03_Fold_l1 (F_ref03_Fold_L1 k6) nv3 = some r := hF
    unfold F_ref03_Fold_l1 at hF
    refine KC.seq ?_
    refine KC.seq ?_
    refine KC.region ?_
    refine RL.val (O.move rfl) rfl ?_
    refine RL.val (O.gtr rfl rfl) rfl ?_
    refine RL.nil ?_
    refine KQ.then_n ?_
    refine KC.cond rfl (fun hc => ?_) (fun hc => ?_)
    · rw [if_pos hc] at hF
      refine KC.skip ?_
      refine KQ.then_n ?_
      refine KC.block ?_
      refine KC.region ?_
      refine RL.val (O.move rfl) rfl ?_
      refine RL.val (O.quo rfl rfl (by decide)) rfl ?_
      refine RL.val (O.move rfl) rfl ?_
      refine RL.val (O.rem rfl rfl (by decide)) rfl ?_
      refine RL.val (O.add rfl rfl) rfl ?_
      refine RL.val (O.assign rfl) rfl ?_
      refine RL.nil ?_
      refine KQ.blk_n ?_
      refine KQ.then_k ?_
      exact fun a ha => ⟨k6, Nat.lt_succ_self k6, (IntKind.u64.wrap ((IntKind.u64.wrap (Int.tdiv nv3 65536)) + (Int.tmod nv3 65536))), ha.less (less_cons rfl less_nil), hM, hF⟩
    · rw [if_neg (ne_true hc)] at hF
      refine KC.exit ?_
      refine KQ.then_x ?_
      refine KQ.then_x ?_
      refine KQ.blk_x ?_
      refine KQ.then_n ?_
      refine KC.seq ?_
      refine KC.region ?_
      refine RL.val (O.move rfl) rfl ?_
      refine RL.val (O.assign rfl) rfl ?_
      refine RL.nil ?_
      refine KQ.then_n ?_
      refine KC.ret ?_
      obtain rfl := Option.some.inj hF
      refine KQ.rets Try.results24 (RVs.cons (RV.tm rfl) RVs.nil) ?_
      exact ⟨_, rfl, rfl, hM⟩
set_option maxRecDepth 100000 in
set_option maxHeartbeats 4000000 in
theorem c_ref03_Sum (w : World) (A2 : Option Addr) (c3 : Nat) (b1 : List Int) (hr4 : Rd w A2 c3 1 b1.length (b1.flatMap (eI .u8))) (r : Int) (hF : F_ref03_Sum b1 = some r) :
    CallsR Try.prog 23 [.slice A2 (b1).length c3] w (fun v w' => v = .int .u64 r ∧ Mem w [] w' []) := by
  refine calls_KC Try.func23 rfl Try.ntmps23 rfl ?_
  have hM := Mem.init w
  unfold F_ref03_Sum at hF
  refine KC.seq ?_
  refine KC.region ?_
  refine RL.val (O.assign rfl) rfl ?_
  refine RL.nil ?_
  refine KQ.then_n ?_
  refine KC.seq ?_
  refine KC.region ?_
  refine RL.val (O.assign rfl) rfl ?_
  refine RL.nil ?_
  refine KQ.then_n ?_
  refine KC.seq ?_
  refine KC.region ?_
  refine RL.val (O.move rfl) rfl ?_
  obtain ⟨y5, hx6, hF⟩ := obind hF
  refine RL.call Try.func13 bd13 rfl rfl (c_ref03_Words _ _ _ b1 (hM.inp hr4 Off.nil) _ hx6) fun v w7 hv => ?_
  obtain ⟨A9, c10, rfl, hN8⟩ := hv
  have hM := hM.call hN8
  refine RL.val (O.assign rfl) rfl ?_
  refine RL.nil ?_
  refine KQ.then_n ?_
  refine KC.seq ?_
  refine KC.seq ?_
  refine KC.region ?_
  refine RL.val (O.assign rfl) rfl ?_
  refine RL.nil ?_
  refine KQ.then_n ?_
  refine KC.block ?_
  refine KC.loop (fun k26 a w24 => ∃ (nv21 : Int) (i23 : Int), Kn 22 [(3, .int .u64 nv21), (4, .slice A9 (y5).length c10), (5, .int .i64 i23)] a ∧ Mem w [] w24 [.row A9 c10 31 1 (y5).length ((y5).flatMap (eI .u64))] ∧ F_ref03_Sum_L1 y5 k26 nv21 i23 = some r) ?_ ?_
  · exact fun a ha => ⟨fuel0, 0, 0, ha.less (less_cons rfl (less_cons rfl (less_cons rfl less_nil))), hM, hF⟩
  · rintro k26 a w24 ⟨nv21, i23, ha, hM, hF⟩
    refine KC.app ha ?_
    clear ha
    cases k26 with
    | zero => exact (none_some hF).elim
    | succ k26 =>
    have hF : F_ref03_Sum_l1 (F_ref03_Sum_L1 y5 k26) y5 nv21 i23 = some r := hF
    unfold F_ref03_Sum_l1 at hF
    refine KC.seq ?_
    refine KC.seq ?_
    refine KC.region ?_
    refine RL.val (O.move rfl) rfl ?_
    refine RL.val (O.move rfl) rfl ?_
    refine RL.val (O.len sl32 rfl) rfl ?_
    refine RL.val (O.lss rfl rfl) rfl ?_
    refine RL.nil ?_
    refine KQ.then_n ?_
    refine KC.cond rfl (fun hc => ?_) (fun hc => ?_)
    · rw [if_pos hc] at hF
      refine KC.skip ?_
      refine KQ.then_n ?_
      refine KC.seq ?_
      refine KC.block ?_
      refine KC.region ?_
      refine RL.val (O.move rfl) rfl ?_
      refine RL.val (O.move rfl) rfl ?_
      refine RL.val (O.move rfl) rfl ?_
      obtain ⟨xv29, hx28, hF⟩ := obind hF
      have hA27 := Rd.atN (f := (eI .u64)) (s := 1) (fun _ => rfl) (by decide) (hM.rd (i := 0) rfl) hx28
      refine RL.val (O.idxA sl32 (hA27) rfl rfl) rfl ?_
      refine RL.val (O.load sc31 rfl (hA27).cells.at0) rfl ?_
      refine RL.val (O.add rfl rfl) rfl ?_
      refine RL.val (O.assign rfl) rfl ?_
      refine RL.nil ?_
      refine KQ.blk_n ?_
      refine KQ.then_n ?_
      refine KC.region ?_
      refine RL.val (O.move rfl) rfl ?_
      refine RL.val (O.add rfl rfl) rfl ?_
      refine RL.val (O.assign rfl) rfl ?_
      refine RL.nil ?_
      refine KQ.then_k ?_
      exact fun a ha => ⟨k26, Nat.lt_succ_self k26, (IntKind.u64.wrap (nv21 + xv29)), (IntKind.i64.wrap (i23 + 1)), ha.less (less_cons rfl (less_cons rfl (less_cons rfl less_nil))), hM, hF⟩
    · rw [if_neg (ne_true hc)] at hF
      refine KC.exit ?_
      refine KQ.then_x ?_
      refine KQ.then_x ?_
      refine KQ.blk_x ?_
      refine KQ.then_n ?_
      refine KC.seq ?_
      refine KC.region ?_
      refine RL.val (O.move rfl) rfl ?_
      obtain ⟨y30, hx31, hF⟩ := obind hF
      refine RL.call Try.func24 bd24 rfl rfl (c_ref03_Fold _ nv21 _ hx31) fun v w32 hv => ?_
      obtain ⟨rfl, hN33⟩ := hv
      have hM := hM.call0 hN33
      refine RL.val (O.assign rfl) rfl ?_
      refine RL.nil ?_
      refine KQ.then_n ?_
      refine KC.ret ?_
      obtain rfl := Option.some.inj hF
      have hM := hM.pick [] rfl (by decide)
      refine KQ.rets Try.results23 (RVs.cons (RV.tm rfl) RVs.nil) ?_
      exact ⟨_, rfl, rfl, hM⟩
set_option maxRecDepth 100000 in
set_option maxHeartbeats 4000000 in
theorem c_ref03_Whole (w : World) (A2 : Option Addr) (c3 : Nat) (b1 : List Int) (hr4 : Rd w A2 c3 1 b1.length (b1.flatMap (eI .u8))) (r : Bool) (hF : F_ref03_Whole b1 = some r) :
    CallsR Try.prog 12 [.slice A2 (b1).length c3] w (fun v w' => v = .bool r ∧ Mem w [] w' []) := by
  refine calls_KC Try.func12 rfl Try.ntmps12 rfl ?_
  have hM := Mem.init w
  unfold F_ref03_Whole at hF
  refine KC.seq ?_
  refine KC.region ?_
  refine RL.val (O.assign rfl) rfl ?_
  refine RL.nil ?_
  refine KQ.then_n ?_
  refine KC.cut (fun a w14 => ∃ (t13 : Bool), Kn 11 [(2, .bool t13)] a ∧ Mem w [] w14 [] ∧ F_ref03_Whole_j1 t13 = some r) ?_ ?_
  · refine KC.region ?_
    refine RL.val (O.move rfl) rfl ?_
    obtain ⟨y15, hx16, hF⟩ := obind hF
    refine RL.call Try.func23 bd23 rfl rfl (c_ref03_Sum _ _ _ b1 (hM.inp hr4 Off.nil) _ hx16) fun v w17 hv => ?_
    obtain ⟨rfl, hN18⟩ := hv
    have hM := hM.call0 hN18
    refine RL.val (O.eql rfl rfl) rfl ?_
    refine RL.val (O.move rfl) rfl ?_
    refine RL.bcase (t := 6) rfl (fun hc => ?_) (fun hc => ?_)
    · rw [if_pos hc] at hF
      refine RL.gskip rfl rfl rfl rfl ?_
      refine RL.gskip rfl rfl rfl rfl ?_
      refine RL.gskip rfl rfl rfl rfl ?_
      refine RL.val (O.pickt rfl rfl) rfl ?_
      refine RL.val (O.assign rfl) rfl ?_
      refine RL.nil ?_
      refine KQ.then_k ?_
      exact fun a ha => ⟨true, ha.less (less_cons rfl less_nil), hM, hF⟩
    · rw [if_neg (ne_true hc)] at hF
      refine RL.gval rfl rfl (O.move rfl) rfl ?_
      obtain ⟨y19, hx20, hF⟩ := obind hF
      refine RL.gcall rfl rfl Try.func23 bd23 rfl rfl (c_ref03_Sum _ _ _ b1 (hM.inp hr4 Off.nil) _ hx20) fun v w21 hv => ?_
      obtain ⟨rfl, hN22⟩ := hv
      have hM := hM.call0 hN22
      refine RL.gval rfl rfl (O.eql rfl rfl) rfl ?_
      refine RL.val (O.pickf rfl rfl) rfl ?_
      refine RL.val (O.assign rfl) rfl ?_
      refine RL.nil ?_
      refine KQ.then_k ?_
      exact fun a ha => ⟨(y19 == 0), ha.less (less_cons rfl less_nil), hM, hF⟩
  · rintro a w14 ⟨t13, ha, hM, hF⟩
    refine KC.app ha ?_
    clear ha
    unfold F_ref03_Whole_j1 at hF
    refine KC.ret ?_
    obtain rfl := Option.some.inj hF
    refine KQ.rets Try.results12 (RVs.cons (RV.tm rfl) RVs.nil) ?_
    exact ⟨_, rfl, rfl, hM⟩
set_option maxRecDepth 100000 in
set_option maxHeartbeats 4000000 in
theorem c_law03_SumFinds (w : World) (A2 : Option Addr) (c3 : Nat) (b1 : List Int) (hr4 : Rd w A2 c3 1 b1.length (b1.flatMap (eI .u8))) (i5 : Int) (byv6 : Int) (r : Bool) (hF : F_law03_SumFinds b1 i5 byv6 = some r) :
    CallsR Try.prog 4 [.slice A2 (b1).length c3, .int .i64 i5, .int .u8 byv6] w (fun v w' => v = .bool r ∧ Mem w [] w' []) := by
  refine calls_KC Try.func4 rfl Try.ntmps4 rfl ?_
  have hM := Mem.init w
  unfold F_law03_SumFinds at hF
  refine KC.seq ?_
  refine KC.region ?_
  refine RL.val (O.assign rfl) rfl ?_
  refine RL.nil ?_
  refine KQ.then_n ?_
  refine KC.seq ?_
  refine KC.cut (fun a w12 => ∃ (t11 : Bool), Kn 69 [(0, .slice A2 (b1).length c3), (1, .int .i64 i5), (2, .int .u8 byv6), (22, .bool t11)] a ∧ Mem w [] w12 [] ∧ F_law03_SumFinds_j1 b1 i5 byv6 t11 = some r) ?_ ?_
  · refine KC.region ?_
    refine RL.val (O.move rfl) rfl ?_
    refine RL.val (O.len sl22 rfl) rfl ?_
    refine RL.val (O.gtr rfl rfl) rfl ?_
    refine RL.val (O.move rfl) rfl ?_
    refine RL.bcase (t := 13) rfl (fun hc => ?_) (fun hc => ?_)
    · rw [if_pos hc] at hF
      refine RL.gskip rfl rfl rfl rfl ?_
      refine RL.gskip rfl rfl rfl rfl ?_
      refine RL.gskip rfl rfl rfl rfl ?_
      refine RL.val (O.pickt rfl rfl) rfl ?_
      refine RL.val (O.move rfl) rfl ?_
      refine RL.gskip rfl rfl rfl rfl ?_
      refine RL.gskip rfl rfl rfl rfl ?_
      refine RL.gskip rfl rfl rfl rfl ?_
      refine RL.val (O.pickt rfl rfl) rfl ?_
      refine RL.nil ?_
      refine KQ.then_k ?_
      exact fun a ha => ⟨true, ha.less (less_cons rfl (less_cons rfl (less_cons rfl (less_cons rfl less_nil)))), hM, hF⟩
    · rw [if_neg (ne_true hc)] at hF
      refine RL.gval rfl rfl (O.move rfl) rfl ?_
      refine RL.gval rfl rfl (O.len sl22 rfl) rfl ?_
      refine RL.gval rfl rfl (O.lss rfl rfl) rfl ?_
      refine RL.val (O.pickf rfl rfl) rfl ?_
      refine RL.val (O.move rfl) rfl ?_
      refine RL.bcase (t := 18) rfl (fun hc => ?_) (fun hc => ?_)
      · rw [if_pos hc] at hF
        refine RL.gskip rfl rfl rfl rfl ?_
        refine RL.gskip rfl rfl rfl rfl ?_
        refine RL.gskip rfl rfl rfl rfl ?_
        refine RL.val (O.pickt rfl rfl) rfl ?_
        refine RL.nil ?_
        refine KQ.then_k ?_
        exact fun a ha => ⟨true, ha.less (less_cons rfl (less_cons rfl (less_cons rfl (less_cons rfl less_nil)))), hM, hF⟩
      · rw [if_neg (ne_true hc)] at hF
        refine RL.gval rfl rfl (O.move rfl) rfl ?_
        obtain ⟨y92, hx93, hF⟩ := obind hF
        refine RL.gcall rfl rfl Try.func12 bd12 rfl rfl (c_ref03_Whole _ _ _ b1 (hM.inp hr4 Off.nil) _ hx93) fun v w94 hv => ?_
        obtain ⟨rfl, hN95⟩ := hv
        have hM := hM.call0 hN95
        refine RL.gval rfl rfl (O.not rfl) rfl ?_
        refine RL.val (O.pickf rfl rfl) rfl ?_
        refine RL.nil ?_
        refine KQ.then_k ?_
        exact fun a ha => ⟨(!y92), ha.less (less_cons rfl (less_cons rfl (less_cons rfl (less_cons rfl less_nil)))), hM, hF⟩
  · rintro a w12 ⟨t11, ha, hM, hF⟩
    refine KC.app ha ?_
    clear ha
    unfold F_law03_SumFinds_j1 at hF
    refine KC.cond rfl (fun hc => ?_) (fun hc => ?_)
    · rw [if_pos hc] at hF
      refine KC.seq ?_
      refine KC.region ?_
      obtain ⟨y13, hx14, hF⟩ := obind hF
      refine RL.call Try.func7 bd7 rfl rfl (c_law03_works _ _ hx14) fun v w15 hv => ?_
      obtain ⟨rfl, hN16⟩ := hv
      have hM := hM.call0 hN16
      refine RL.val (O.assign rfl) rfl ?_
      refine RL.nil ?_
      refine KQ.then_n ?_
      refine KC.ret ?_
      refine KQ.then_r ?_
      obtain rfl := Option.some.inj hF
      refine KQ.rets Try.results4 (RVs.cons (RV.tm rfl) RVs.nil) ?_
      exact ⟨_, rfl, rfl, hM⟩
    · rw [if_neg (ne_true hc)] at hF
      refine KC.skip ?_
      refine KQ.then_n ?_
      refine KC.seq ?_
      refine KC.region ?_
      refine RL.val (O.move rfl) rfl ?_
      refine RL.val (O.move rfl) rfl ?_
      refine RL.val (O.len sl22 rfl) rfl ?_
      obtain ⟨y17, hx18, hF⟩ := obind hF
      refine RL.call Try.func10 bd10 rfl rfl (c_kit_Pick _ i5 (b1.length : Int) _ hx18) fun v w19 hv => ?_
      obtain ⟨rfl, hN20⟩ := hv
      have hM := hM.call0 hN20
      refine RL.val (O.assign rfl) rfl ?_
      refine RL.nil ?_
      refine KQ.then_n ?_
      refine KC.seq ?_
      refine KC.region ?_
      refine RL.val (O.assign rfl) rfl ?_
      refine RL.nil ?_
      refine KQ.then_n ?_
      refine KC.seq ?_
      refine KC.region ?_
      refine RL.val (O.move rfl) rfl ?_
      refine RL.val (O.move rfl) rfl ?_
      obtain ⟨hq24, hF⟩ := cut_some hF
      refine RL.eff (E.app0 (enc := (eI .u8)) (ys := b1) hM sl22 ze5 rfl rfl rfl rfl rfl (hM.inp hr4 Off.nil) (fun _ => One.all rfl) (of_decide_eq_true hq24)) rfl fun v w23 hv => ?_
      obtain ⟨A21, c22, rfl, hM⟩ := hv
      refine RL.val (O.assign rfl) rfl ?_
      refine RL.nil ?_
      refine KQ.then_n ?_
      refine KC.seq ?_
      refine KC.region ?_
      refine RL.val (O.move rfl) rfl ?_
      refine RL.val (O.move rfl) rfl ?_
      refine RL.val (O.move rfl) rfl ?_
      refine RL.val (O.move rfl) rfl ?_
      obtain ⟨xv28, hx27, hF⟩ := obind hF
      have hA26 := Rd.atN (f := (eI .u8)) (s := 1) (fun _ => rfl) (by decide) (hM.rd (i := 0) rfl) hx27
      refine RL.val (O.idxA sl22 (hA26) rfl rfl) rfl ?_
      refine RL.val (O.load sc5 rfl (hA26).cells.at0) rfl ?_
      refine RL.val (O.move rfl) rfl ?_
      refine RL.val (O.add rfl rfl) rfl ?_
      obtain ⟨xv31, hx30, hF⟩ := obind hF
      have hA29 := Rd.atN (f := (eI .u8)) (s := 1) (fun _ => rfl) (by decide) (hM.rd (i := 0) rfl) hx30
      refine RL.val (O.idxA sl22 (hA29) rfl rfl) rfl ?_
      refine RL.effs (E.stR (enc := (eI .u8)) (j := 0) (off := 0) (vs := [.int .u8 (IntKind.u8.wrap (xv28 + byv6))]) (x' := (IntKind.u8.wrap (xv28 + byv6))) hM rfl (fun _ => rfl) hx30 sz5 rfl (addsR_eq [] rfl) rfl rfl (One.all rfl) rfl rfl) fun w32 hM => ?_
      obtain ⟨hM, hn33⟩ := hM
      refine RL.reslot (t := 7) rfl hn33 ?_
      refine RL.reslot (t := 30) rfl hn33 ?_
      refine RL.reslot (t := 31) rfl hn33 ?_
      refine RL.reslot (t := 33) rfl hn33 ?_
      refine RL.nil ?_
      refine KQ.then_n ?_
      refine KC.seq ?_
      have hM := hM.drewN 1
      refine KC.draw [] [1, 7] [0, 2, 3, 6, 8, 9, 1, 4, 5, 7, 10, 11, 12, 13] moP (by kernel_rfl) ?_
      refine RD.q rfl rfl rfl (fun w' hf => O.move rfl) ?_
      refine RD.q rfl rfl rfl (fun w' hf => O.move rfl) ?_
      refine RD.q rfl rfl rfl (fun w' hf => O.quo rfl rfl (by decide)) ?_
      refine RD.q rfl rfl rfl (fun w' hf => O.move rfl) ?_
      refine RD.q rfl rfl rfl (fun w' hf => O.move rfl) ?_
      refine RD.q rfl rfl rfl (fun w' hf => O.quo rfl rfl (by decide)) ?_
      obtain ⟨y34, hx35, hF⟩ := obind hF
      refine RD.mcall rfl rfl trivial Try.func13 bd13 rfl rfl (c_ref03_Words _ _ _ b1 (hM.inp hr4 Off.nil) _ hx35) fun v w36 hv => ?_
      obtain ⟨A38, c39, rfl, hN37⟩ := hv
      refine ⟨fun _ => hN37.fut, ?_⟩
      have hM := hM.call hN37
      obtain ⟨xv43, hx42, hF⟩ := obind hF
      have hA41 := Rd.atN (f := (eI .u64)) (s := 1) (fun _ => rfl) (by decide) (hM.rd (i := 1) rfl) hx42
      refine RD.q rfl rfl rfl (fun w' hf => O.idxA sl32 (hA41.fut hf) rfl rfl) ?_
      refine RD.q rfl rfl rfl (fun w' hf => O.load sc31 rfl (hA41.fut hf).cells.at0) ?_
      obtain ⟨y44, hx45, hF⟩ := obind hF
      refine RD.mcall rfl rfl trivial Try.func13 bd13 rfl rfl (c_ref03_Words _ _ _ (b1.set (y17).toNat (IntKind.u8.wrap (xv28 + byv6))) (hM.rd (i := 0) rfl) _ hx45) fun v w46 hv => ?_
      obtain ⟨A48, c49, rfl, hN47⟩ := hv
      refine ⟨fun _ => hN47.fut, ?_⟩
      have hM := hM.call hN47
      obtain ⟨xv53, hx52, hF⟩ := obind hF
      have hA51 := Rd.atN (f := (eI .u64)) (s := 1) (fun _ => rfl) (by decide) (hM.rd (i := 2) rfl) hx52
      refine RD.q rfl rfl rfl (fun w' hf => O.idxA sl32 (hA51.fut hf) rfl rfl) ?_
      refine RD.q rfl rfl rfl (fun w' hf => O.load sc31 rfl (hA51.fut hf).cells.at0) ?_
      refine RD.q rfl rfl rfl (fun w' hf => O.assign rfl) ?_
      refine RD.q rfl rfl rfl (fun w' hf => O.assign rfl) ?_
      refine RD.nil ?_
      refine KQ.then_n ?_
      refine KC.cut (fun a w73 => ∃ (t72 : Bool), Kn 69 [(6, .bool t72)] a ∧ Mem w [] w73 [] ∧ F_law03_SumFinds_j2 t72 = some r) ?_ ?_
      · refine KC.region ?_
        refine RL.val (O.move rfl) rfl ?_
        refine RL.eff (E.bslR (enc := (eI .u8)) (us := [.slice A2 (b1).length c3]) (xss := [b1]) (Rdl.cons ((hM.inp hr4 Off.nil)) Rdl.nil) hM sl35 ze22 rfl rfl rfl rfl rfl) rfl fun v w74 hv => ?_
        obtain ⟨A75, rfl, hM, hf, hr76⟩ := hv
        obtain ⟨y77, hx78, hF⟩ := obind hF
        refine RL.call Try.func9 bd9 rfl rfl (c_sum_Whole _ _ _ ([b1]) (hr76) _ hx78) fun v w79 hv => ?_
        obtain ⟨rfl, hN80⟩ := hv
        have hr76 := hr76.fut hN80.fut
        have hM := hM.call0 hN80
        refine RL.val (O.move rfl) rfl ?_
        refine RL.bcase (t := 55) rfl (fun hc => ?_) (fun hc => ?_)
        · rw [if_pos hc] at hF
          refine RL.gval rfl rfl (O.move rfl) rfl ?_
          refine RL.geff rfl rfl (E.bslR (enc := (eI .u8)) (us := [.slice A21 ((b1.set (y17).toNat (IntKind.u8.wrap (xv28 + byv6)))).length c22]) (xss := [(b1.set (y17).toNat (IntKind.u8.wrap (xv28 + byv6)))]) (Rdl.cons ((hM.rd (i := 0) rfl)) Rdl.nil) hM sl35 ze22 rfl rfl rfl rfl rfl) rfl fun v w81 hv => ?_
          obtain ⟨A82, rfl, hM, hf, hr83⟩ := hv
          have hr76 := hr76.fut hf
          obtain ⟨y84, hx85, hF⟩ := obind hF
          refine RL.gcall rfl rfl Try.func9 bd9 rfl rfl (c_sum_Whole _ _ _ ([(b1.set (y17).toNat (IntKind.u8.wrap (xv28 + byv6)))]) (hr83) _ hx85) fun v w86 hv => ?_
          obtain ⟨rfl, hN87⟩ := hv
          have hr76 := hr76.fut hN87.fut
          have hr83 := hr83.fut hN87.fut
          have hM := hM.call0 hN87
          refine RL.gval rfl rfl (O.move rfl) rfl ?_
          refine RL.gval rfl rfl (O.rem rfl rfl (by decide)) rfl ?_
          refine RL.gval rfl rfl (O.move rfl) rfl ?_
          refine RL.gval rfl rfl (O.rem rfl rfl (by decide)) rfl ?_
          refine RL.gval rfl rfl (O.eql rfl rfl) rfl ?_
          refine RL.gval rfl rfl (O.eqlb Try.underlying4 rfl rfl) rfl ?_
          refine RL.val (O.pickt rfl rfl) rfl ?_
          refine RL.val (O.move rfl) rfl ?_
          refine RL.bcase (t := 66) rfl (fun hc => ?_) (fun hc => ?_)
          · rw [if_pos hc] at hF
            obtain ⟨y88, hx89, hF⟩ := obind hF
            refine RL.gcall rfl rfl Try.func7 bd7 rfl rfl (c_law03_works _ _ hx89) fun v w90 hv => ?_
            obtain ⟨rfl, hN91⟩ := hv
            have hr76 := hr76.fut hN91.fut
            have hr83 := hr83.fut hN91.fut
            have hM := hM.call0 hN91
            refine RL.val (O.pickt rfl rfl) rfl ?_
            refine RL.val (O.assign rfl) rfl ?_
            refine RL.nil ?_
            refine KQ.then_k ?_
            have hM := hM.pick [] rfl (by decide)
            exact fun a ha => ⟨y88, ha.less (less_cons rfl less_nil), hM, hF⟩
          · rw [if_neg (ne_true hc)] at hF
            refine RL.gskip rfl rfl rfl rfl ?_
            refine RL.val (O.pickf rfl rfl) rfl ?_
            refine RL.val (O.assign rfl) rfl ?_
            refine RL.nil ?_
            refine KQ.then_k ?_
            have hM := hM.pick [] rfl (by decide)
            exact fun a ha => ⟨false, ha.less (less_cons rfl less_nil), hM, hF⟩
        · rw [if_neg (ne_true hc)] at hF
          refine RL.gskip rfl rfl rfl rfl ?_
          refine RL.gskip rfl rfl rfl rfl ?_
          refine RL.gskip rfl rfl rfl rfl ?_
          refine RL.gskip rfl rfl rfl rfl ?_
          refine RL.gskip rfl rfl rfl rfl ?_
          refine RL.gskip rfl rfl rfl rfl ?_
          refine RL.gskip rfl rfl rfl rfl ?_
          refine RL.gskip rfl rfl rfl rfl ?_
          refine RL.gskip rfl rfl rfl rfl ?_
          refine RL.val (O.pickf rfl rfl) rfl ?_
          refine RL.val (O.move rfl) rfl ?_
          refine RL.gskip rfl rfl rfl rfl ?_
          refine RL.val (O.pickf rfl rfl) rfl ?_
          refine RL.val (O.assign rfl) rfl ?_
          refine RL.nil ?_
          refine KQ.then_k ?_
          have hM := hM.pick [] rfl (by decide)
          exact fun a ha => ⟨false, ha.less (less_cons rfl less_nil), hM, hF⟩
      · rintro a w73 ⟨t72, ha, hM, hF⟩
        refine KC.app ha ?_
        clear ha
        unfold F_law03_SumFinds_j2 at hF
        refine KC.ret ?_
        obtain rfl := Option.some.inj hF
        refine KQ.rets Try.results4 (RVs.cons (RV.tm rfl) RVs.nil) ?_
        exact ⟨_, rfl, rfl, hM⟩
set_option maxRecDepth 100000 in
set_option maxHeartbeats 4000000 in
theorem c_law03_joined (w : World) (A2 : Option Addr) (c3 : Nat) (lv1 : List (List Int)) (hr4 : Rds [] w A2 c3 (eI .u8) 1 lv1) (r : (List Int) × Bool) (hF : F_law03_joined lv1 = some r) :
    CallsR Try.prog 14 [.slice A2 (lv1).length c3] w (fun v w' => ∃ (A0 : Option Addr) (c0 : Nat), v = .tuple #[.slice A0 r.1.length c0, .bool r.2] ∧ Mem w [] w' [.row A0 c0 5 1 r.1.length (r.1.flatMap (eI .u8))]) := by
  refine calls_KC Try.func14 rfl Try.ntmps14 rfl ?_
  have hM := Mem.init w
  unfold F_law03_joined at hF
  refine KC.seq ?_
  refine KC.region ?_
  refine RL.val (O.assign rfl) rfl ?_
  refine RL.val (O.assign rfl) rfl ?_
  refine RL.nil ?_
  refine KQ.then_n ?_
  refine KC.seq ?_
  refine KC.region ?_
  refine RL.val (O.assign rfl) rfl ?_
  refine RL.nil ?_
  refine KQ.then_n ?_
  refine KC.seq ?_
  refine KC.seq ?_
  refine KC.region ?_
  refine RL.val (O.assign rfl) rfl ?_
  refine RL.nil ?_
  refine KQ.then_n ?_
  refine KC.block ?_
  refine KC.loop (fun k80 a w78 => ∃ (A74 : Option Addr) (c75 : Nat) (out76 : List Int) (i77 : Int), Kn 29 [(0, .slice A2 (lv1).length c3), (4, .slice A74 (out76).length c75), (5, .int .i64 i77)] a ∧ Mem w [] w78 [.row A74 c75 5 1 (out76).length ((out76).flatMap (eI .u8))] ∧ F_law03_joined_L1 lv1 k80 out76 i77 = some r) ?_ ?_
  · have hM := hM.nilrow 5 1
    exact fun a ha => ⟨fuel0, none, 0, ([]), 0, ha.less (less_cons rfl (less_cons rfl (less_cons rfl less_nil))), hM, hF⟩
  · rintro k80 a w78 ⟨A74, c75, out76, i77, ha, hM, hF⟩
    refine KC.app ha ?_
    clear ha
    cases k80 with
    | zero => exact (none_some hF).elim
    | succ k80 =>
    have hF : F_law03_joined_l1 (F_law03_joined_L1 lv1 k80) lv1 out76 i77 = some r := hF
    unfold F_law03_joined_l1 at hF
    refine KC.seq ?_
    refine KC.seq ?_
    refine KC.region ?_
    refine RL.val (O.move rfl) rfl ?_
    refine RL.val (O.move rfl) rfl ?_
    refine RL.val (O.len sl35 rfl) rfl ?_
    refine RL.val (O.lss rfl rfl) rfl ?_
    refine RL.nil ?_
    refine KQ.then_n ?_
    refine KC.cond rfl (fun hc => ?_) (fun hc => ?_)
    · rw [if_pos hc] at hF
      refine KC.skip ?_
      refine KQ.then_n ?_
      refine KC.seq ?_
      refine KC.block ?_
      refine KC.seq ?_
      refine KC.cut (fun a w91 => ∃ (t90 : Bool), Kn 29 [(0, .slice A2 (lv1).length c3), (4, .slice A74 (out76).length c75), (5, .int .i64 i77), (21, .bool t90)] a ∧ Mem w [] w91 [.row A74 c75 5 1 (out76).length ((out76).flatMap (eI .u8))] ∧ F_law03_joined_j1 lv1 out76 i77 (F_law03_joined_L1 lv1 k80) t90 = some r) ?_ ?_
      · refine KC.region ?_
        refine RL.val (O.move rfl) rfl ?_
        refine RL.val (O.eql rfl rfl) rfl ?_
        refine RL.val (O.move rfl) rfl ?_
        refine RL.bcase (t := 14) rfl (fun hc => ?_) (fun hc => ?_)
        · rw [if_pos hc] at hF
          refine RL.gskip rfl rfl rfl rfl ?_
          refine RL.gskip rfl rfl rfl rfl ?_
          refine RL.gskip rfl rfl rfl rfl ?_
          refine RL.gskip rfl rfl rfl rfl ?_
          refine RL.gskip rfl rfl rfl rfl ?_
          refine RL.gskip rfl rfl rfl rfl ?_
          refine RL.val (O.pickt rfl rfl) rfl ?_
          refine RL.nil ?_
          refine KQ.then_k ?_
          exact fun a ha => ⟨true, ha.less (less_cons rfl (less_cons rfl (less_cons rfl (less_cons rfl less_nil)))), hM, hF⟩
        · rw [if_neg (ne_true hc)] at hF
          refine RL.gval rfl rfl (O.move rfl) rfl ?_
          refine RL.gval rfl rfl (O.move rfl) rfl ?_
          obtain ⟨xv107, hx106, hF⟩ := obind hF
          obtain ⟨A108, c109, hA105, hr110, ho111, hO112⟩ := Rds.at hr4 hx106
          have hA105 := hA105.chg hM.chg hO112
          refine RL.gval rfl rfl (O.idxA sl35 (hA105) rfl rfl) rfl ?_
          refine RL.gval rfl rfl (O.load sc22 rfl (hA105).cells.at0) rfl ?_
          refine RL.gval rfl rfl (O.len sl22 rfl) rfl ?_
          refine RL.gval rfl rfl (O.gtr rfl rfl) rfl ?_
          refine RL.val (O.pickf rfl rfl) rfl ?_
          refine RL.nil ?_
          refine KQ.then_k ?_
          exact fun a ha => ⟨(decide (300 < (xv107.length : Int))), ha.less (less_cons rfl (less_cons rfl (less_cons rfl (less_cons rfl less_nil)))), hM, hF⟩
      · rintro a w91 ⟨t90, ha, hM, hF⟩
        refine KC.app ha ?_
        clear ha
        unfold F_law03_joined_j1 at hF
        refine KC.cond rfl (fun hc => ?_) (fun hc => ?_)
        · rw [if_pos hc] at hF
          refine KC.seq ?_
          refine KC.region ?_
          refine RL.val (O.assign rfl) rfl ?_
          refine RL.val (O.assign rfl) rfl ?_
          refine RL.nil ?_
          refine KQ.then_n ?_
          refine KC.ret ?_
          refine KQ.then_r ?_
          refine KQ.blk_r ?_
          refine KQ.then_r ?_
          refine KQ.then_r ?_
          refine KQ.blk_r ?_
          refine KQ.then_r ?_
          obtain rfl := Option.some.inj hF
          have hM := hM.nilrow 5 1
          have hM := hM.pick [1] rfl (by decide)
          refine KQ.rets Try.results14 (RVs.cons (RV.tm rfl) (RVs.cons (RV.tm rfl) RVs.nil)) ?_
          exact ⟨_, rfl, none, 0, rfl, hM⟩
        · rw [if_neg (ne_true hc)] at hF
          refine KC.skip ?_
          refine KQ.then_n ?_
          refine KC.region ?_
          refine RL.val (O.move rfl) rfl ?_
          refine RL.val (O.move rfl) rfl ?_
          refine RL.val (O.move rfl) rfl ?_
          obtain ⟨xv94, hx93, hF⟩ := obind hF
          obtain ⟨A95, c96, hA92, hr97, ho98, hO99⟩ := Rds.at hr4 hx93
          have hA92 := hA92.chg hM.chg hO99
          refine RL.val (O.idxA sl35 (hA92) rfl rfl) rfl ?_
          refine RL.val (O.load sc22 rfl (hA92).cells.at0) rfl ?_
          obtain ⟨hq103, hF⟩ := cut_some hF
          refine RL.eff (E.app (enc := (eI .u8)) (xs := out76) (ys := xv94) (j := 0) hM rfl sl22 ze5 rfl rfl rfl rfl rfl (hM.inp hr97 Off.nil) (fun _ => One.all rfl) (of_decide_eq_true hq103)) rfl fun v w102 hv => ?_
          obtain ⟨A100, c101, rfl, hM⟩ := hv
          refine RL.val (O.assign rfl) rfl ?_
          refine RL.nil ?_
          refine KQ.blk_n ?_
          refine KQ.then_n ?_
          refine KC.region ?_
          refine RL.val (O.move rfl) rfl ?_
          refine RL.val (O.add rfl rfl) rfl ?_
          refine RL.val (O.assign rfl) rfl ?_
          refine RL.nil ?_
          refine KQ.then_k ?_
          exact fun a ha => ⟨k80, Nat.lt_succ_self k80, A100, c101, (out76 ++ xv94), (IntKind.i64.wrap (i77 + 1)), ha.less (less_cons rfl (less_cons rfl (less_cons rfl less_nil))), hM, hF⟩
    · rw [if_neg (ne_true hc)] at hF
      refine KC.exit ?_
      refine KQ.then_x ?_
      refine KQ.then_x ?_
      refine KQ.blk_x ?_
      refine KQ.then_n ?_
      refine KC.seq ?_
      refine KC.region ?_
      refine RL.val (O.move rfl) rfl ?_
      refine RL.val (O.assign rfl) rfl ?_
      refine RL.val (O.assign rfl) rfl ?_
      refine RL.nil ?_
      refine KQ.then_n ?_
      refine KC.ret ?_
      obtain rfl := Option.some.inj hF
      refine KQ.rets Try.results14 (RVs.cons (RV.tm rfl) (RVs.cons (RV.tm rfl) RVs.nil)) ?_
      exact ⟨_, rfl, A74, c75, rfl, hM⟩
set_option maxRecDepth 100000 in
set_option maxHeartbeats 4000000 in
theorem c_sum_Sum_Add_N (w : World) (A2 : Option Addr) (c3 : Nat) (b1 : List Int) (hr4 : Rd w A2 c3 1 b1.length (b1.flatMap (eI .u8))) (r : Unit) (hF : F_sum_Sum_Add_N b1 = some r) :
    CallsR Try.prog 15 [.pointer none, .slice A2 (b1).length c3] w (fun v w' => v = .tuple #[] ∧ Mem w [] w' []) := by
  refine calls_KC Try.func15 rfl Try.ntmps15 rfl ?_
  have hM := Mem.init w
  unfold F_sum_Sum_Add_N at hF
  refine KC.seq ?_
  refine KC.seq ?_
  refine KC.region ?_
  refine RL.val (O.move rfl) rfl ?_
  refine RL.val (O.peqn Try.underlying40 rfl rfl) rfl ?_
  refine RL.nil ?_
  refine KQ.then_n ?_
  refine KC.condT rfl ?_
  refine KC.ret ?_
  refine KQ.then_r ?_
  obtain rfl := Option.some.inj hF
  refine KQ.rets Try.results15 RVs.nil ?_
  exact ⟨_, rfl, rfl, hM⟩
set_option maxRecDepth 100000 in
set_option maxHeartbeats 4000000 in
theorem c_ref03_Of (w : World) (A2 : Option Addr) (c3 : Nat) (b1 : List Int) (hr4 : Rd w A2 c3 1 b1.length (b1.flatMap (eI .u8))) (r : Int) (hF : F_ref03_Of b1 = some r) :
    CallsR Try.prog 16 [.slice A2 (b1).length c3] w (fun v w' => v = .int .u16 r ∧ Mem w [] w' []) := by
  refine calls_KC Try.func16 rfl Try.ntmps16 rfl ?_
  have hM := Mem.init w
  unfold F_ref03_Of at hF
  refine KC.seq ?_
  refine KC.region ?_
  refine RL.val (O.assign rfl) rfl ?_
  refine RL.nil ?_
  refine KQ.then_n ?_
  refine KC.seq ?_
  refine KC.region ?_
  refine RL.val (O.move rfl) rfl ?_
  obtain ⟨y5, hx6, hF⟩ := obind hF
  refine RL.call Try.func23 bd23 rfl rfl (c_ref03_Sum _ _ _ b1 (hM.inp hr4 Off.nil) _ hx6) fun v w7 hv => ?_
  obtain ⟨rfl, hN8⟩ := hv
  have hM := hM.call0 hN8
  refine RL.val (O.sub rfl rfl) rfl ?_
  refine RL.val (O.conv un31 Try.underlying23 rfl) rfl ?_
  refine RL.val (O.assign rfl) rfl ?_
  refine RL.nil ?_
  refine KQ.then_n ?_
  refine KC.ret ?_
  obtain rfl := Option.some.inj hF
  refine KQ.rets Try.results16 (RVs.cons (RV.tm rfl) RVs.nil) ?_
  exact ⟨_, rfl, rfl, hM⟩
set_option maxRecDepth 100000 in
set_option maxHeartbeats 4000000 in
theorem c_sum_Sum_Len (w : World) (g2 : Nat) (s1 : T_sum_Sum) (hg3 : w.heap[g2]? = some (.cells [.int .u64 s1.f_n, .int .i64 s1.f_many].toArray 39 (0, 0))) (r : Int × T_sum_Sum) (hF : F_sum_Sum_Len s1 = some r) :
    CallsR Try.prog 18 [.pointer (some ⟨g2, 0, none⟩)] w (fun v w' => v = .int .i64 r.1 ∧ Mem w [some g2] w' [.box g2 39 [.int .u64 r.2.f_n, .int .i64 r.2.f_many]]) := by
  refine calls_KC Try.func18 rfl Try.ntmps18 rfl ?_
  have hM := Mem.lend hg3
  unfold F_sum_Sum_Len at hF
  refine KC.seq ?_
  refine KC.region ?_
  refine RL.val (O.assign rfl) rfl ?_
  refine RL.nil ?_
  refine KQ.then_n ?_
  refine KC.seq ?_
  refine KC.seq ?_
  refine KC.region ?_
  refine RL.val (O.move rfl) rfl ?_
  refine RL.val (O.peqn Try.underlying40 rfl rfl) rfl ?_
  refine RL.nil ?_
  refine KQ.then_n ?_
  refine KC.condF rfl ?_
  refine KC.skip ?_
  refine KQ.then_n ?_
  refine KC.seq ?_
  refine KC.region ?_
  refine RL.val (O.move rfl) rfl ?_
  refine RL.val (O.nilp rfl) rfl ?_
  refine RL.val (O.fldA fl39_1 (by decide) rfl) rfl ?_
  refine RL.val (O.load sc3 rfl (Cs.adds [1] ((hM.bx (i := 0) rfl)) rfl)) rfl ?_
  refine RL.val (O.assign rfl) rfl ?_
  refine RL.nil ?_
  refine KQ.then_n ?_
  refine KC.ret ?_
  obtain rfl := Option.some.inj hF
  refine KQ.rets Try.results18 (RVs.cons (RV.tm rfl) RVs.nil) ?_
  exact ⟨_, rfl, rfl, hM⟩
set_option maxRecDepth 100000 in
set_option maxHeartbeats 4000000 in
theorem c_ref03_Change (w : World) (sum1 : Int) (fromv2 : Int) (tov3 : Int) (r : Int) (hF : F_ref03_Change sum1 fromv2 tov3 = some r) :
    CallsR Try.prog 19 [.int .u16 sum1, .int .u16 fromv2, .int .u16 tov3] w (fun v w' => v = .int .u16 r ∧ Mem w [] w' []) := by
  refine calls_KC Try.func19 rfl Try.ntmps19 rfl ?_
  have hM := Mem.init w
  unfold F_ref03_Change at hF
  refine KC.seq ?_
  refine KC.region ?_
  refine RL.val (O.assign rfl) rfl ?_
  refine RL.nil ?_
  refine KQ.then_n ?_
  refine KC.seq ?_
  refine KC.region ?_
  refine RL.val (O.move rfl) rfl ?_
  refine RL.val (O.conv un23 Try.underlying31 rfl) rfl ?_
  refine RL.val (O.sub rfl rfl) rfl ?_
  refine RL.val (O.add rfl rfl) rfl ?_
  refine RL.val (O.move rfl) rfl ?_
  refine RL.val (O.conv un23 Try.underlying31 rfl) rfl ?_
  refine RL.val (O.sub rfl rfl) rfl ?_
  refine RL.val (O.move rfl) rfl ?_
  refine RL.val (O.conv un23 Try.underlying31 rfl) rfl ?_
  refine RL.val (O.add rfl rfl) rfl ?_
  obtain ⟨y4, hx5, hF⟩ := obind hF
  refine RL.call Try.func24 bd24 rfl rfl (c_ref03_Fold _ (IntKind.u64.wrap ((IntKind.u64.wrap ((IntKind.u64.wrap ((IntKind.u64.wrap (65535 - (IntKind.u64.wrap sum1))) + 65535)) - (IntKind.u64.wrap fromv2))) + (IntKind.u64.wrap tov3))) _ hx5) fun v w6 hv => ?_
  obtain ⟨rfl, hN7⟩ := hv
  have hM := hM.call0 hN7
  refine RL.val (O.sub rfl rfl) rfl ?_
  refine RL.val (O.conv un31 Try.underlying23 rfl) rfl ?_
  refine RL.val (O.assign rfl) rfl ?_
  refine RL.nil ?_
  refine KQ.then_n ?_
  refine KC.ret ?_
  obtain rfl := Option.some.inj hF
  refine KQ.rets Try.results19 (RVs.cons (RV.tm rfl) RVs.nil) ?_
  exact ⟨_, rfl, rfl, hM⟩
set_option maxRecDepth 100000 in
set_option maxHeartbeats 4000000 in
theorem c_sum_Sum_Value_N (w : World) (r : Int) (hF : F_sum_Sum_Value_N = some r) :
    CallsR Try.prog 17 [.pointer none] w (fun v w' => v = .int .u16 r ∧ Mem w [] w' []) := by
  refine calls_KC Try.func17 rfl Try.ntmps17 rfl ?_
  have hM := Mem.init w
  unfold F_sum_Sum_Value_N at hF
  refine KC.seq ?_
  refine KC.region ?_
  refine RL.val (O.assign rfl) rfl ?_
  refine RL.nil ?_
  refine KQ.then_n ?_
  refine KC.seq ?_
  refine KC.seq ?_
  refine KC.region ?_
  refine RL.val (O.move rfl) rfl ?_
  refine RL.val (O.peqn Try.underlying40 rfl rfl) rfl ?_
  refine RL.nil ?_
  refine KQ.then_n ?_
  refine KC.condT rfl ?_
  refine KC.seq ?_
  refine KC.region ?_
  refine RL.val (O.assign rfl) rfl ?_
  refine RL.nil ?_
  refine KQ.then_n ?_
  refine KC.ret ?_
  refine KQ.then_r ?_
  obtain rfl := Option.some.inj hF
  refine KQ.rets Try.results17 (RVs.cons (RV.tm rfl) RVs.nil) ?_
  exact ⟨_, rfl, rfl, hM⟩
set_option maxRecDepth 100000 in
set_option maxHeartbeats 4000000 in
theorem c_sum_Sum_Len_N (w : World) (r : Int) (hF : F_sum_Sum_Len_N = some r) :
    CallsR Try.prog 18 [.pointer none] w (fun v w' => v = .int .i64 r ∧ Mem w [] w' []) := by
  refine calls_KC Try.func18 rfl Try.ntmps18 rfl ?_
  have hM := Mem.init w
  unfold F_sum_Sum_Len_N at hF
  refine KC.seq ?_
  refine KC.region ?_
  refine RL.val (O.assign rfl) rfl ?_
  refine RL.nil ?_
  refine KQ.then_n ?_
  refine KC.seq ?_
  refine KC.seq ?_
  refine KC.region ?_
  refine RL.val (O.move rfl) rfl ?_
  refine RL.val (O.peqn Try.underlying40 rfl rfl) rfl ?_
  refine RL.nil ?_
  refine KQ.then_n ?_
  refine KC.condT rfl ?_
  refine KC.seq ?_
  refine KC.region ?_
  refine RL.val (O.assign rfl) rfl ?_
  refine RL.nil ?_
  refine KQ.then_n ?_
  refine KC.ret ?_
  refine KQ.then_r ?_
  obtain rfl := Option.some.inj hF
  refine KQ.rets Try.results18 (RVs.cons (RV.tm rfl) RVs.nil) ?_
  exact ⟨_, rfl, rfl, hM⟩
set_option maxRecDepth 100000 in
set_option maxHeartbeats 4000000 in
theorem c_ref01_Same (w : World) (A2 : Option Addr) (c3 : Nat) (av1 : List Int) (hr4 : Rd w A2 c3 1 av1.length (av1.flatMap (eI .u8))) (A6 : Option Addr) (c7 : Nat) (b5 : List Int) (hr8 : Rd w A6 c7 1 b5.length (b5.flatMap (eI .u8))) (r : Bool) (hF : F_ref01_Same av1 b5 = some r) :
    CallsR Try.prog 20 [.slice A2 (av1).length c3, .slice A6 (b5).length c7] w (fun v w' => v = .bool r ∧ Mem w [] w' []) := by
  refine calls_KC Try.func20 rfl Try.ntmps20 rfl ?_
  have hM := Mem.init w
  unfold F_ref01_Same at hF
  refine KC.seq ?_
  refine KC.region ?_
  refine RL.val (O.assign rfl) rfl ?_
  refine RL.nil ?_
  refine KQ.then_n ?_
  refine KC.seq ?_
  refine KC.region ?_
  refine RL.val (O.move rfl) rfl ?_
  refine RL.val (O.b2s sl22 Try.underlying5 Try.underlying9 rfl ((hM.inp hr4 Off.nil))) rfl ?_
  refine RL.val (O.move rfl) rfl ?_
  refine RL.val (O.b2s sl22 Try.underlying5 Try.underlying9 rfl ((hM.inp hr8 Off.nil))) rfl ?_
  refine RL.val (O.streq rfl rfl) rfl ?_
  refine RL.val (O.assign rfl) rfl ?_
  refine RL.nil ?_
  refine KQ.then_n ?_
  refine KC.ret ?_
  obtain rfl := Option.some.inj hF
  refine KQ.rets Try.results20 (RVs.cons (RV.tm rfl) RVs.nil) ?_
  exact ⟨_, rfl, rfl, hM⟩
set_option maxRecDepth 100000 in
set_option maxHeartbeats 4000000 in
theorem c_law03_SumTells (w : World) (A2 : Option Addr) (c3 : Nat) (lv1 : List (List Int)) (hr4 : Rds [] w A2 c3 (eI .u8) 1 lv1) (av5 : Int) (b6 : Int) (cv7 : Int) (r : Bool) (hF : F_law03_SumTells lv1 av5 b6 cv7 = some r) :
    CallsR Try.prog 5 [.slice A2 (lv1).length c3, .int .u16 av5, .int .u16 b6, .int .u16 cv7] w (fun v w' => v = .bool r ∧ Mem w [] w' []) := by
  refine calls_KC Try.func5 rfl Try.ntmps5 rfl ?_
  have hM := Mem.init w
  unfold F_law03_SumTells at hF
  refine KC.seq ?_
  refine KC.region ?_
  refine RL.val (O.assign rfl) rfl ?_
  refine RL.nil ?_
  refine KQ.then_n ?_
  refine KC.seq ?_
  refine KC.region ?_
  refine RL.val (O.move rfl) rfl ?_
  obtain ⟨y8, hx9, hF⟩ := obind hF
  refine RL.call Try.func14 bd14 rfl rfl (c_law03_joined _ _ _ lv1 (hr4.fut hM.chg) _ hx9) fun v w10 hv => ?_
  obtain ⟨A12, c13, rfl, hN11⟩ := hv
  have hM := hM.call hN11
  refine RL.val (O.move rfl) rfl ?_
  refine RL.val (O.ext rfl rfl) rfl ?_
  refine RL.val (O.ext rfl rfl) rfl ?_
  refine RL.val (O.assign rfl) rfl ?_
  refine RL.val (O.assign rfl) rfl ?_
  refine RL.nil ?_
  refine KQ.then_n ?_
  refine KC.seq ?_
  refine KC.seq ?_
  refine KC.region ?_
  refine RL.val (O.move rfl) rfl ?_
  refine RL.val (O.not rfl) rfl ?_
  refine RL.nil ?_
  refine KQ.then_n ?_
  refine KC.cond rfl (fun hc => ?_) (fun hc => ?_)
  · rw [if_pos hc] at hF
    refine KC.seq ?_
    refine KC.region ?_
    obtain ⟨y15, hx16, hF⟩ := obind hF
    refine RL.call Try.func7 bd7 rfl rfl (c_law03_works _ _ hx16) fun v w17 hv => ?_
    obtain ⟨rfl, hN18⟩ := hv
    have hM := hM.call0 hN18
    refine RL.val (O.assign rfl) rfl ?_
    refine RL.nil ?_
    refine KQ.then_n ?_
    refine KC.ret ?_
    refine KQ.then_r ?_
    obtain rfl := Option.some.inj hF
    have hM := hM.pick [] rfl (by decide)
    refine KQ.rets Try.results5 (RVs.cons (RV.tm rfl) RVs.nil) ?_
    exact ⟨_, rfl, rfl, hM⟩
  · rw [if_neg (ne_true hc)] at hF
    refine KC.skip ?_
    refine KQ.then_n ?_
    refine KC.seq ?_
    refine KC.region ?_
    refine RL.eff (E.alloc hM ze39) rfl fun v w20 hv => ?_
    obtain ⟨g19, rfl, hM, hf⟩ := hv
    refine RL.nil ?_
    refine KQ.then_n ?_
    refine KC.seq ?_
    refine KC.region ?_
    refine RL.val (O.assign rfl) rfl ?_
    refine RL.nil ?_
    refine KQ.then_n ?_
    refine KC.seq ?_
    refine KC.seq ?_
    refine KC.region ?_
    refine RL.val (O.assign rfl) rfl ?_
    refine RL.nil ?_
    refine KQ.then_n ?_
    refine KC.block ?_
    refine KC.loop (fun k82 a w80 => ∃ (s77 : Int) (s78 : Int) (i79 : Int), Kn 104 [(0, .slice A2 (lv1).length c3), (1, .int .u16 av5), (2, .int .u16 b6), (3, .int .u16 cv7), (9, .slice A12 (y8.1).length c13), (11, .pointer (some ⟨g19, 0, none⟩)), (12, .pointer none), (13, .int .i64 i79)] a ∧ Mem w [] w80 [.row A12 c13 5 1 (y8.1).length ((y8.1).flatMap (eI .u8)), .box g19 39 [.int .u64 s77, .int .i64 s78]] ∧ F_law03_SumTells_L1 lv1 av5 b6 cv7 y8 k82 s77 s78 i79 = some r) ?_ ?_
    · exact fun a ha => ⟨fuel0, 0, 0, 0, ha.less (less_cons rfl (less_cons rfl (less_cons rfl (less_cons rfl (less_cons rfl (less_cons rfl (less_cons rfl (less_cons rfl less_nil)))))))), hM, hF⟩
    · rintro k82 a w80 ⟨s77, s78, i79, ha, hM, hF⟩
      refine KC.app ha ?_
      clear ha
      cases k82 with
      | zero => exact (none_some hF).elim
      | succ k82 =>
      have hF : F_law03_SumTells_l1 (F_law03_SumTells_L1 lv1 av5 b6 cv7 y8 k82) lv1 av5 b6 cv7 y8 s77 s78 i79 = some r := hF
      unfold F_law03_SumTells_l1 at hF
      refine KC.seq ?_
      refine KC.seq ?_
      refine KC.region ?_
      refine RL.val (O.move rfl) rfl ?_
      refine RL.val (O.move rfl) rfl ?_
      refine RL.val (O.len sl35 rfl) rfl ?_
      refine RL.val (O.lss rfl rfl) rfl ?_
      refine RL.nil ?_
      refine KQ.then_n ?_
      refine KC.cond rfl (fun hc => ?_) (fun hc => ?_)
      · rw [if_pos hc] at hF
        refine KC.skip ?_
        refine KQ.then_n ?_
        refine KC.seq ?_
        refine KC.block ?_
        refine KC.seq ?_
        refine KC.region ?_
        refine RL.val (O.move rfl) rfl ?_
        refine RL.val (O.move rfl) rfl ?_
        obtain ⟨xv85, hx84, hF⟩ := obind hF
        obtain ⟨A86, c87, hA83, hr88, ho89, hO90⟩ := Rds.at hr4 hx84
        have hA83 := hA83.chg hM.chg hO90
        refine RL.val (O.idxA sl35 (hA83) rfl rfl) rfl ?_
        refine RL.val (O.load sc22 rfl (hA83).cells.at0) rfl ?_
        obtain ⟨y91, hx92, hF⟩ := obind hF
        refine RL.call Try.func15 bd15 rfl rfl (c_sum_Sum_Add _ _ (T_sum_Sum.mk s77 s78) (hM.ok 1 _ rfl) _ _ xv85 (hM.inp hr88 Off.nil) (hM.offi (j := 1) rfl hr88) _ hx92) fun v w93 hv => ?_
        obtain ⟨rfl, hN94⟩ := hv
        have hM := hM.callB (j := 1) rfl hN94
        refine RL.nil ?_
        refine KQ.then_n ?_
        refine KC.region ?_
        refine RL.val (O.move rfl) rfl ?_
        refine RL.val (O.move rfl) rfl ?_
        refine RL.val (O.move rfl) rfl ?_
        obtain ⟨xv97, hx96, hF⟩ := obind hF
        obtain ⟨A98, c99, hA95, hr100, ho101, hO102⟩ := Rds.at hr4 hx96
        have hA95 := hA95.chg hM.chg hO102
        refine RL.val (O.idxA sl35 (hA95) rfl rfl) rfl ?_
        refine RL.val (O.load sc22 rfl (hA95).cells.at0) rfl ?_
        obtain ⟨y103, hx104, hF⟩ := obind hF
        refine RL.call Try.func15 bd15 rfl rfl (c_sum_Sum_Add_N _ _ _ xv97 (hM.inp hr100 Off.nil) _ hx104) fun v w105 hv => ?_
        obtain ⟨rfl, hN106⟩ := hv
        have hM := hM.call0 hN106
        refine RL.nil ?_
        refine KQ.blk_n ?_
        refine KQ.then_n ?_
        refine KC.region ?_
        refine RL.val (O.move rfl) rfl ?_
        refine RL.val (O.add rfl rfl) rfl ?_
        refine RL.val (O.assign rfl) rfl ?_
        refine RL.nil ?_
        refine KQ.then_k ?_
        exact fun a ha => ⟨k82, Nat.lt_succ_self k82, y91.f_n, y91.f_many, (IntKind.i64.wrap (i79 + 1)), ha.less (less_cons rfl (less_cons rfl (less_cons rfl (less_cons rfl (less_cons rfl (less_cons rfl (less_cons rfl (less_cons rfl less_nil)))))))), hM, hF⟩
      · rw [if_neg (ne_true hc)] at hF
        refine KC.exit ?_
        refine KQ.then_x ?_
        refine KQ.then_x ?_
        refine KQ.blk_x ?_
        refine KQ.then_n ?_
        refine KC.seq ?_
        refine KC.region ?_
        refine RL.val (O.move rfl) rfl ?_
        obtain ⟨y107, hx108, hF⟩ := obind hF
        refine RL.call Try.func14 bd14 rfl rfl (c_law03_joined _ _ _ lv1 (hr4.fut hM.chg) _ hx108) fun v w109 hv => ?_
        obtain ⟨A111, c112, rfl, hN110⟩ := hv
        have hM := hM.call hN110
        refine RL.val (O.move rfl) rfl ?_
        refine RL.val (O.ext rfl rfl) rfl ?_
        refine RL.val (O.ext rfl rfl) rfl ?_
        refine RL.val (O.assign rfl) rfl ?_
        refine RL.val (O.assign rfl) rfl ?_
        refine RL.nil ?_
        refine KQ.then_n ?_
        refine KC.cut (fun a w175 => ∃ (t174 : Bool), Kn 104 [(8, .bool t174)] a ∧ Mem w [] w175 [] ∧ F_law03_SumTells_j1 t174 = some r) ?_ ?_
        · refine KC.region ?_
          refine RL.val (O.move rfl) rfl ?_
          obtain ⟨y176, hx177, hF⟩ := obind hF
          refine RL.call Try.func8 bd8 rfl rfl (c_sum_Of _ _ _ lv1 (hr4.fut hM.chg) _ hx177) fun v w178 hv => ?_
          obtain ⟨rfl, hN179⟩ := hv
          have hM := hM.call0 hN179
          refine RL.val (O.move rfl) rfl ?_
          obtain ⟨y180, hx181, hF⟩ := obind hF
          refine RL.call Try.func16 bd16 rfl rfl (c_ref03_Of _ _ _ y8.1 (hM.rd (i := 0) rfl) _ hx181) fun v w182 hv => ?_
          obtain ⟨rfl, hN183⟩ := hv
          have hM := hM.call0 hN183
          refine RL.val (O.eql rfl rfl) rfl ?_
          refine RL.val (O.move rfl) rfl ?_
          refine RL.bcase (t := 51) rfl (fun hc => ?_) (fun hc => ?_)
          · rw [if_pos hc] at hF
            refine RL.gval rfl rfl (O.move rfl) rfl ?_
            obtain ⟨y184, hx185, hF⟩ := obind hF
            refine RL.gcall rfl rfl Try.func9 bd9 rfl rfl (c_sum_Whole _ _ _ lv1 (hr4.fut hM.chg) _ hx185) fun v w186 hv => ?_
            obtain ⟨rfl, hN187⟩ := hv
            have hM := hM.call0 hN187
            refine RL.gval rfl rfl (O.move rfl) rfl ?_
            obtain ⟨y188, hx189, hF⟩ := obind hF
            refine RL.gcall rfl rfl Try.func12 bd12 rfl rfl (c_ref03_Whole _ _ _ y8.1 (hM.rd (i := 0) rfl) _ hx189) fun v w190 hv => ?_
            obtain ⟨rfl, hN191⟩ := hv
            have hM := hM.call0 hN191
            refine RL.gval rfl rfl (O.eqlb Try.underlying4 rfl rfl) rfl ?_
            refine RL.val (O.pickt rfl rfl) rfl ?_
            refine RL.val (O.move rfl) rfl ?_
            refine RL.bcase (t := 58) rfl (fun hc => ?_) (fun hc => ?_)
            · rw [if_pos hc] at hF
              obtain ⟨y192, hx193, hF⟩ := obind hF
              refine RL.gcall rfl rfl Try.func17 bd17 rfl rfl (c_sum_Sum_Value _ _ (T_sum_Sum.mk s77 s78) (hM.ok 1 _ rfl) _ hx193) fun v w194 hv => ?_
              obtain ⟨rfl, hN195⟩ := hv
              have hM := hM.callB (j := 1) rfl hN195
              refine RL.gval rfl rfl (O.move rfl) rfl ?_
              obtain ⟨y196, hx197, hF⟩ := obind hF
              refine RL.gcall rfl rfl Try.func16 bd16 rfl rfl (c_ref03_Of _ _ _ y8.1 (hM.rd (i := 0) rfl) _ hx197) fun v w198 hv => ?_
              obtain ⟨rfl, hN199⟩ := hv
              have hM := hM.call0 hN199
              refine RL.gval rfl rfl (O.eql rfl rfl) rfl ?_
              refine RL.val (O.pickt rfl rfl) rfl ?_
              refine RL.val (O.move rfl) rfl ?_
              refine RL.bcase (t := 64) rfl (fun hc => ?_) (fun hc => ?_)
              · rw [if_pos hc] at hF
                obtain ⟨y200, hx201, hF⟩ := obind hF
                refine RL.gcall rfl rfl Try.func17 bd17 rfl rfl (c_sum_Sum_Value _ _ y192.2 (hM.ok 1 _ rfl) _ hx201) fun v w202 hv => ?_
                obtain ⟨rfl, hN203⟩ := hv
                have hM := hM.callB (j := 1) rfl hN203
                obtain ⟨y204, hx205, hF⟩ := obind hF
                refine RL.gcall rfl rfl Try.func17 bd17 rfl rfl (c_sum_Sum_Value _ _ y200.2 (hM.ok 1 _ rfl) _ hx205) fun v w206 hv => ?_
                obtain ⟨rfl, hN207⟩ := hv
                have hM := hM.callB (j := 1) rfl hN207
                refine RL.gval rfl rfl (O.eql rfl rfl) rfl ?_
                refine RL.val (O.pickt rfl rfl) rfl ?_
                refine RL.val (O.move rfl) rfl ?_
                refine RL.bcase (t := 69) rfl (fun hc => ?_) (fun hc => ?_)
                · rw [if_pos hc] at hF
                  obtain ⟨y208, hx209, hF⟩ := obind hF
                  refine RL.gcall rfl rfl Try.func18 bd18 rfl rfl (c_sum_Sum_Len _ _ y204.2 (hM.ok 1 _ rfl) _ hx209) fun v w210 hv => ?_
                  obtain ⟨rfl, hN211⟩ := hv
                  have hM := hM.callB (j := 1) rfl hN211
                  refine RL.gval rfl rfl (O.move rfl) rfl ?_
                  refine RL.gval rfl rfl (O.len sl22 rfl) rfl ?_
                  refine RL.gval rfl rfl (O.eql rfl rfl) rfl ?_
                  refine RL.val (O.pickt rfl rfl) rfl ?_
                  refine RL.val (O.move rfl) rfl ?_
                  refine RL.bcase (t := 75) rfl (fun hc => ?_) (fun hc => ?_)
                  · rw [if_pos hc] at hF
                    refine RL.gval rfl rfl (O.move rfl) rfl ?_
                    refine RL.gval rfl rfl (O.move rfl) rfl ?_
                    refine RL.gval rfl rfl (O.move rfl) rfl ?_
                    obtain ⟨y212, hx213, hF⟩ := obind hF
                    refine RL.gcall rfl rfl Try.func11 bd11 rfl rfl (c_sum_Change _ av5 b6 cv7 _ hx213) fun v w214 hv => ?_
                    obtain ⟨rfl, hN215⟩ := hv
                    have hM := hM.call0 hN215
                    refine RL.gval rfl rfl (O.move rfl) rfl ?_
                    refine RL.gval rfl rfl (O.move rfl) rfl ?_
                    refine RL.gval rfl rfl (O.move rfl) rfl ?_
                    obtain ⟨y216, hx217, hF⟩ := obind hF
                    refine RL.gcall rfl rfl Try.func19 bd19 rfl rfl (c_ref03_Change _ av5 b6 cv7 _ hx217) fun v w218 hv => ?_
                    obtain ⟨rfl, hN219⟩ := hv
                    have hM := hM.call0 hN219
                    refine RL.gval rfl rfl (O.eql rfl rfl) rfl ?_
                    refine RL.val (O.pickt rfl rfl) rfl ?_
                    refine RL.val (O.move rfl) rfl ?_
                    refine RL.bcase (t := 86) rfl (fun hc => ?_) (fun hc => ?_)
                    · rw [if_pos hc] at hF
                      refine RL.gval rfl rfl (O.move rfl) rfl ?_
                      obtain ⟨y220, hx221, hF⟩ := obind hF
                      refine RL.gcall rfl rfl Try.func17 bd17 rfl rfl (c_sum_Sum_Value_N _ _ hx221) fun v w222 hv => ?_
                      obtain ⟨rfl, hN223⟩ := hv
                      have hM := hM.call0 hN223
                      refine RL.gval rfl rfl (O.eql rfl rfl) rfl ?_
                      refine RL.val (O.pickt rfl rfl) rfl ?_
                      refine RL.val (O.move rfl) rfl ?_
                      refine RL.bcase (t := 91) rfl (fun hc => ?_) (fun hc => ?_)
                      · rw [if_pos hc] at hF
                        refine RL.gval rfl rfl (O.move rfl) rfl ?_
                        obtain ⟨y224, hx225, hF⟩ := obind hF
                        refine RL.gcall rfl rfl Try.func18 bd18 rfl rfl (c_sum_Sum_Len_N _ _ hx225) fun v w226 hv => ?_
                        obtain ⟨rfl, hN227⟩ := hv
                        have hM := hM.call0 hN227
                        refine RL.gval rfl rfl (O.eql rfl rfl) rfl ?_
                        refine RL.val (O.pickt rfl rfl) rfl ?_
                        refine RL.val (O.move rfl) rfl ?_
                        refine RL.bcase (t := 96) rfl (fun hc => ?_) (fun hc => ?_)
                        · rw [if_pos hc] at hF
                          refine RL.gval rfl rfl (O.move rfl) rfl ?_
                          refine RL.gval rfl rfl (O.move rfl) rfl ?_
                          obtain ⟨y228, hx229, hF⟩ := obind hF
                          refine RL.gcall rfl rfl Try.func20 bd20 rfl rfl (c_ref01_Same _ _ _ y107.1 (hM.rd (i := 2) rfl) _ _ y8.1 (hM.rd (i := 0) rfl) _ hx229) fun v w230 hv => ?_
                          obtain ⟨rfl, hN231⟩ := hv
                          have hM := hM.call0 hN231
                          refine RL.val (O.pickt rfl rfl) rfl ?_
                          refine RL.val (O.move rfl) rfl ?_
                          refine RL.bcase (t := 101) rfl (fun hc => ?_) (fun hc => ?_)
                          · rw [if_pos hc] at hF
                            obtain ⟨y232, hx233, hF⟩ := obind hF
                            refine RL.gcall rfl rfl Try.func7 bd7 rfl rfl (c_law03_works _ _ hx233) fun v w234 hv => ?_
                            obtain ⟨rfl, hN235⟩ := hv
                            have hM := hM.call0 hN235
                            refine RL.val (O.pickt rfl rfl) rfl ?_
                            refine RL.val (O.assign rfl) rfl ?_
                            refine RL.nil ?_
                            refine KQ.then_k ?_
                            have hM := hM.pick [] rfl (by decide)
                            exact fun a ha => ⟨y232, ha.less (less_cons rfl less_nil), hM, hF⟩
                          · rw [if_neg (ne_true hc)] at hF
                            refine RL.gskip rfl rfl rfl rfl ?_
                            refine RL.val (O.pickf rfl rfl) rfl ?_
                            refine RL.val (O.assign rfl) rfl ?_
                            refine RL.nil ?_
                            refine KQ.then_k ?_
                            have hM := hM.pick [] rfl (by decide)
                            exact fun a ha => ⟨false, ha.less (less_cons rfl less_nil), hM, hF⟩
                        · rw [if_neg (ne_true hc)] at hF
                          refine RL.gskip rfl rfl rfl rfl ?_
                          refine RL.gskip rfl rfl rfl rfl ?_
                          refine RL.gskip rfl rfl rfl rfl ?_
                          refine RL.val (O.pickf rfl rfl) rfl ?_
                          refine RL.val (O.move rfl) rfl ?_
                          refine RL.gskip rfl rfl rfl rfl ?_
                          refine RL.val (O.pickf rfl rfl) rfl ?_
                          refine RL.val (O.assign rfl) rfl ?_
                          refine RL.nil ?_
                          refine KQ.then_k ?_
                          have hM := hM.pick [] rfl (by decide)
                          exact fun a ha => ⟨false, ha.less (less_cons rfl less_nil), hM, hF⟩
                      · rw [if_neg (ne_true hc)] at hF
                        refine RL.gskip rfl rfl rfl rfl ?_
                        refine RL.gskip rfl rfl rfl rfl ?_
                        refine RL.gskip rfl rfl rfl rfl ?_
                        refine RL.val (O.pickf rfl rfl) rfl ?_
                        refine RL.val (O.move rfl) rfl ?_
                        refine RL.gskip rfl rfl rfl rfl ?_
                        refine RL.gskip rfl rfl rfl rfl ?_
                        refine RL.gskip rfl rfl rfl rfl ?_
                        refine RL.val (O.pickf rfl rfl) rfl ?_
                        refine RL.val (O.move rfl) rfl ?_
                        refine RL.gskip rfl rfl rfl rfl ?_
                        refine RL.val (O.pickf rfl rfl) rfl ?_
                        refine RL.val (O.assign rfl) rfl ?_
                        refine RL.nil ?_
                        refine KQ.then_k ?_
                        have hM := hM.pick [] rfl (by decide)
                        exact fun a ha => ⟨false, ha.less (less_cons rfl less_nil), hM, hF⟩
                    · rw [if_neg (ne_true hc)] at hF
                      refine RL.gskip rfl rfl rfl rfl ?_
                      refine RL.gskip rfl rfl rfl rfl ?_
                      refine RL.gskip rfl rfl rfl rfl ?_
                      refine RL.val (O.pickf rfl rfl) rfl ?_
                      refine RL.val (O.move rfl) rfl ?_
                      refine RL.gskip rfl rfl rfl rfl ?_
                      refine RL.gskip rfl rfl rfl rfl ?_
                      refine RL.gskip rfl rfl rfl rfl ?_
                      refine RL.val (O.pickf rfl rfl) rfl ?_
                      refine RL.val (O.move rfl) rfl ?_
                      refine RL.gskip rfl rfl rfl rfl ?_
                      refine RL.gskip rfl rfl rfl rfl ?_
                      refine RL.gskip rfl rfl rfl rfl ?_
                      refine RL.val (O.pickf rfl rfl) rfl ?_
                      refine RL.val (O.move rfl) rfl ?_
                      refine RL.gskip rfl rfl rfl rfl ?_
                      refine RL.val (O.pickf rfl rfl) rfl ?_
                      refine RL.val (O.assign rfl) rfl ?_
                      refine RL.nil ?_
                      refine KQ.then_k ?_
                      have hM := hM.pick [] rfl (by decide)
                      exact fun a ha => ⟨false, ha.less (less_cons rfl less_nil), hM, hF⟩
                  · rw [if_neg (ne_true hc)] at hF
                    refine RL.gskip rfl rfl rfl rfl ?_
                    refine RL.gskip rfl rfl rfl rfl ?_
                    refine RL.gskip rfl rfl rfl rfl ?_
                    refine RL.gskip rfl rfl rfl rfl ?_
                    refine RL.gskip rfl rfl rfl rfl ?_
                    refine RL.gskip rfl rfl rfl rfl ?_
                    refine RL.gskip rfl rfl rfl rfl ?_
                    refine RL.gskip rfl rfl rfl rfl ?_
                    refine RL.gskip rfl rfl rfl rfl ?_
                    refine RL.val (O.pickf rfl rfl) rfl ?_
                    refine RL.val (O.move rfl) rfl ?_
                    refine RL.gskip rfl rfl rfl rfl ?_
                    refine RL.gskip rfl rfl rfl rfl ?_
                    refine RL.gskip rfl rfl rfl rfl ?_
                    refine RL.val (O.pickf rfl rfl) rfl ?_
                    refine RL.val (O.move rfl) rfl ?_
                    refine RL.gskip rfl rfl rfl rfl ?_
                    refine RL.gskip rfl rfl rfl rfl ?_
                    refine RL.gskip rfl rfl rfl rfl ?_
                    refine RL.val (O.pickf rfl rfl) rfl ?_
                    refine RL.val (O.move rfl) rfl ?_
                    refine RL.gskip rfl rfl rfl rfl ?_
                    refine RL.gskip rfl rfl rfl rfl ?_
                    refine RL.gskip rfl rfl rfl rfl ?_
                    refine RL.val (O.pickf rfl rfl) rfl ?_
                    refine RL.val (O.move rfl) rfl ?_
                    refine RL.gskip rfl rfl rfl rfl ?_
                    refine RL.val (O.pickf rfl rfl) rfl ?_
                    refine RL.val (O.assign rfl) rfl ?_
                    refine RL.nil ?_
                    refine KQ.then_k ?_
                    have hM := hM.pick [] rfl (by decide)
                    exact fun a ha => ⟨false, ha.less (less_cons rfl less_nil), hM, hF⟩
                · rw [if_neg (ne_true hc)] at hF
                  refine RL.gskip rfl rfl rfl rfl ?_
                  refine RL.gskip rfl rfl rfl rfl ?_
                  refine RL.gskip rfl rfl rfl rfl ?_
                  refine RL.gskip rfl rfl rfl rfl ?_
                  refine RL.val (O.pickf rfl rfl) rfl ?_
                  refine RL.val (O.move rfl) rfl ?_
                  refine RL.gskip rfl rfl rfl rfl ?_
                  refine RL.gskip rfl rfl rfl rfl ?_
                  refine RL.gskip rfl rfl rfl rfl ?_
                  refine RL.gskip rfl rfl rfl rfl ?_
                  refine RL.gskip rfl rfl rfl rfl ?_
                  refine RL.gskip rfl rfl rfl rfl ?_
                  refine RL.gskip rfl rfl rfl rfl ?_
                  refine RL.gskip rfl rfl rfl rfl ?_
                  refine RL.gskip rfl rfl rfl rfl ?_
                  refine RL.val (O.pickf rfl rfl) rfl ?_
                  refine RL.val (O.move rfl) rfl ?_
                  refine RL.gskip rfl rfl rfl rfl ?_
                  refine RL.gskip rfl rfl rfl rfl ?_
                  refine RL.gskip rfl rfl rfl rfl ?_
                  refine RL.val (O.pickf rfl rfl) rfl ?_
                  refine RL.val (O.move rfl) rfl ?_
                  refine RL.gskip rfl rfl rfl rfl ?_
                  refine RL.gskip rfl rfl rfl rfl ?_
                  refine RL.gskip rfl rfl rfl rfl ?_
                  refine RL.val (O.pickf rfl rfl) rfl ?_
                  refine RL.val (O.move rfl) rfl ?_
                  refine RL.gskip rfl rfl rfl rfl ?_
                  refine RL.gskip rfl rfl rfl rfl ?_
                  refine RL.gskip rfl rfl rfl rfl ?_
                  refine RL.val (O.pickf rfl rfl) rfl ?_
                  refine RL.val (O.move rfl) rfl ?_
                  refine RL.gskip rfl rfl rfl rfl ?_
                  refine RL.val (O.pickf rfl rfl) rfl ?_
                  refine RL.val (O.assign rfl) rfl ?_
                  refine RL.nil ?_
                  refine KQ.then_k ?_
                  have hM := hM.pick [] rfl (by decide)
                  exact fun a ha => ⟨false, ha.less (less_cons rfl less_nil), hM, hF⟩
              · rw [if_neg (ne_true hc)] at hF
                refine RL.gskip rfl rfl rfl rfl ?_
                refine RL.gskip rfl rfl rfl rfl ?_
                refine RL.gskip rfl rfl rfl rfl ?_
                refine RL.val (O.pickf rfl rfl) rfl ?_
                refine RL.val (O.move rfl) rfl ?_
                refine RL.gskip rfl rfl rfl rfl ?_
                refine RL.gskip rfl rfl rfl rfl ?_
                refine RL.gskip rfl rfl rfl rfl ?_
                refine RL.gskip rfl rfl rfl rfl ?_
                refine RL.val (O.pickf rfl rfl) rfl ?_
                refine RL.val (O.move rfl) rfl ?_
                refine RL.gskip rfl rfl rfl rfl ?_
                refine RL.gskip rfl rfl rfl rfl ?_
                refine RL.gskip rfl rfl rfl rfl ?_
                refine RL.gskip rfl rfl rfl rfl ?_
                refine RL.gskip rfl rfl rfl rfl ?_
                refine RL.gskip rfl rfl rfl rfl ?_
                refine RL.gskip rfl rfl rfl rfl ?_
                refine RL.gskip rfl rfl rfl rfl ?_
                refine RL.gskip rfl rfl rfl rfl ?_
                refine RL.val (O.pickf rfl rfl) rfl ?_
                refine RL.val (O.move rfl) rfl ?_
                refine RL.gskip rfl rfl rfl rfl ?_
                refine RL.gskip rfl rfl rfl rfl ?_
                refine RL.gskip rfl rfl rfl rfl ?_
                refine RL.val (O.pickf rfl rfl) rfl ?_
                refine RL.val (O.move rfl) rfl ?_
                refine RL.gskip rfl rfl rfl rfl ?_
                refine RL.gskip rfl rfl rfl rfl ?_
                refine RL.gskip rfl rfl rfl rfl ?_
                refine RL.val (O.pickf rfl rfl) rfl ?_
                refine RL.val (O.move rfl) rfl ?_
                refine RL.gskip rfl rfl rfl rfl ?_
                refine RL.gskip rfl rfl rfl rfl ?_
                refine RL.gskip rfl rfl rfl rfl ?_
                refine RL.val (O.pickf rfl rfl) rfl ?_
                refine RL.val (O.move rfl) rfl ?_
                refine RL.gskip rfl rfl rfl rfl ?_
                refine RL.val (O.pickf rfl rfl) rfl ?_
                refine RL.val (O.assign rfl) rfl ?_
                refine RL.nil ?_
                refine KQ.then_k ?_
                have hM := hM.pick [] rfl (by decide)
                exact fun a ha => ⟨false, ha.less (less_cons rfl less_nil), hM, hF⟩
            · rw [if_neg (ne_true hc)] at hF
              refine RL.gskip rfl rfl rfl rfl ?_
              refine RL.gskip rfl rfl rfl rfl ?_
              refine RL.gskip rfl rfl rfl rfl ?_
              refine RL.gskip rfl rfl rfl rfl ?_
              refine RL.val (O.pickf rfl rfl) rfl ?_
              refine RL.val (O.move rfl) rfl ?_
              refine RL.gskip rfl rfl rfl rfl ?_
              refine RL.gskip rfl rfl rfl rfl ?_
              refine RL.gskip rfl rfl rfl rfl ?_
              refine RL.val (O.pickf rfl rfl) rfl ?_
              refine RL.val (O.move rfl) rfl ?_
              refine RL.gskip rfl rfl rfl rfl ?_
              refine RL.gskip rfl rfl rfl rfl ?_
              refine RL.gskip rfl rfl rfl rfl ?_
              refine RL.gskip rfl rfl rfl rfl ?_
              refine RL.val (O.pickf rfl rfl) rfl ?_
              refine RL.val (O.move rfl) rfl ?_
              refine RL.gskip rfl rfl rfl rfl ?_
              refine RL.gskip rfl rfl rfl rfl ?_
              refine RL.gskip rfl rfl rfl rfl ?_
              refine RL.gskip rfl rfl rfl rfl ?_
              refine RL.gskip rfl rfl rfl rfl ?_
              refine RL.gskip rfl rfl rfl rfl ?_
              refine RL.gskip rfl rfl rfl rfl ?_
              refine RL.gskip rfl rfl rfl rfl ?_
              refine RL.gskip rfl rfl rfl rfl ?_
              refine RL.val (O.pickf rfl rfl) rfl ?_
              refine RL.val (O.move rfl) rfl ?_
              refine RL.gskip rfl rfl rfl rfl ?_
              refine RL.gskip rfl rfl rfl rfl ?_
              refine RL.gskip rfl rfl rfl rfl ?_
              refine RL.val (O.pickf rfl rfl) rfl ?_
              refine RL.val (O.move rfl) rfl ?_
              refine RL.gskip rfl rfl rfl rfl ?_
              refine RL.gskip rfl rfl rfl rfl ?_
              refine RL.gskip rfl rfl rfl rfl ?_
              refine RL.val (O.pickf rfl rfl) rfl ?_
              refine RL.val (O.move rfl) rfl ?_
              refine RL.gskip rfl rfl rfl rfl ?_
              refine RL.gskip rfl rfl rfl rfl ?_
              refine RL.gskip rfl rfl rfl rfl ?_
              refine RL.val (O.pickf rfl rfl) rfl ?_
              refine RL.val (O.move rfl) rfl ?_
              refine RL.gskip rfl rfl rfl rfl ?_
              refine RL.val (O.pickf rfl rfl) rfl ?_
              refine RL.val (O.assign rfl) rfl ?_
              refine RL.nil ?_
              refine KQ.then_k ?_
              have hM := hM.pick [] rfl (by decide)
              exact fun a ha => ⟨false, ha.less (less_cons rfl less_nil), hM, hF⟩
          · rw [if_neg (ne_true hc)] at hF
            refine RL.gskip rfl rfl rfl rfl ?_
            refine RL.gskip rfl rfl rfl rfl ?_
            refine RL.gskip rfl rfl rfl rfl ?_
            refine RL.gskip rfl rfl rfl rfl ?_
            refine RL.gskip rfl rfl rfl rfl ?_
            refine RL.val (O.pickf rfl rfl) rfl ?_
            refine RL.val (O.move rfl) rfl ?_
            refine RL.gskip rfl rfl rfl rfl ?_
            refine RL.gskip rfl rfl rfl rfl ?_
            refine RL.gskip rfl rfl rfl rfl ?_
            refine RL.gskip rfl rfl rfl rfl ?_
            refine RL.val (O.pickf rfl rfl) rfl ?_
            refine RL.val (O.move rfl) rfl ?_
            refine RL.gskip rfl rfl rfl rfl ?_
            refine RL.gskip rfl rfl rfl rfl ?_
            refine RL.gskip rfl rfl rfl rfl ?_
            refine RL.val (O.pickf rfl rfl) rfl ?_
            refine RL.val (O.move rfl) rfl ?_
            refine RL.gskip rfl rfl rfl rfl ?_
            refine RL.gskip rfl rfl rfl rfl ?_
            refine RL.gskip rfl rfl rfl rfl ?_
            refine RL.gskip rfl rfl rfl rfl ?_
            refine RL.val (O.pickf rfl rfl) rfl ?_
            refine RL.val (O.move rfl) rfl ?_
            refine RL.gskip rfl rfl rfl rfl ?_
            refine RL.gskip rfl rfl rfl rfl ?_
            refine RL.gskip rfl rfl rfl rfl ?_
            refine RL.gskip rfl rfl rfl rfl ?_
            refine RL.gskip rfl rfl rfl rfl ?_
            refine RL.gskip rfl rfl rfl rfl ?_
            refine RL.gskip rfl rfl rfl rfl ?_
            refine RL.gskip rfl rfl rfl rfl ?_
            refine RL.gskip rfl rfl rfl rfl ?_
            refine RL.val (O.pickf rfl rfl) rfl ?_
            refine RL.val (O.move rfl) rfl ?_
            refine RL.gskip rfl rfl rfl rfl ?_
            refine RL.gskip rfl rfl rfl rfl ?_
            refine RL.gskip rfl rfl rfl rfl ?_
            refine RL.val (O.pickf rfl rfl) rfl ?_
            refine RL.val (O.move rfl) rfl ?_
            refine RL.gskip rfl rfl rfl rfl ?_
            refine RL.gskip rfl rfl rfl rfl ?_
            refine RL.gskip rfl rfl rfl rfl ?_
            refine RL.val (O.pickf rfl rfl) rfl ?_
            refine RL.val (O.move rfl) rfl ?_
            refine RL.gskip rfl rfl rfl rfl ?_
            refine RL.gskip rfl rfl rfl rfl ?_
            refine RL.gskip rfl rfl rfl rfl ?_
            refine RL.val (O.pickf rfl rfl) rfl ?_
            refine RL.val (O.move rfl) rfl ?_
            refine RL.gskip rfl rfl rfl rfl ?_
            refine RL.val (O.pickf rfl rfl) rfl ?_
            refine RL.val (O.assign rfl) rfl ?_
            refine RL.nil ?_
            refine KQ.then_k ?_
            have hM := hM.pick [] rfl (by decide)
            exact fun a ha => ⟨false, ha.less (less_cons rfl less_nil), hM, hF⟩
        · rintro a w175 ⟨t174, ha, hM, hF⟩
          refine KC.app ha ?_
          clear ha
          unfold F_law03_SumTells_j1 at hF
          refine KC.ret ?_
          obtain rfl := Option.some.inj hF
          refine KQ.rets Try.results5 (RVs.cons (RV.tm rfl) RVs.nil) ?_
          exact ⟨_, rfl, rfl, hM⟩
set_option maxRecDepth 100000 in
set_option maxHeartbeats 4000000 in
theorem c_law03_SumKnown (w : World) (r : Bool) (hF : F_law03_SumKnown = some r) :
    CallsR Try.prog 6 [] w (fun v w' => v = .bool r ∧ Mem w [] w' []) := by
  refine calls_KC Try.func6 rfl Try.ntmps6 rfl ?_
  have hM := Mem.init w
  unfold F_law03_SumKnown at hF
  refine KC.seq ?_
  refine KC.region ?_
  refine RL.val (O.assign rfl) rfl ?_
  refine RL.nil ?_
  refine KQ.then_n ?_
  refine KC.seq ?_
  refine KC.region ?_
  refine RL.val (O.assign rfl) rfl ?_
  refine RL.nil ?_
  refine KQ.then_n ?_
  refine KC.seq ?_
  refine KC.seq ?_
  refine KC.region ?_
  refine RL.val (O.assign rfl) rfl ?_
  refine RL.nil ?_
  refine KQ.then_n ?_
  refine KC.block ?_
  refine KC.loop (fun k283 a w281 => ∃ (A277 : Option Addr) (c278 : Nat) (b279 : List Int) (i280 : Int), Kn 147 [(1, .slice A277 (b279).length c278), (2, .int .i64 i280)] a ∧ Mem w [] w281 [.row A277 c278 5 1 (b279).length ((b279).flatMap (eI .u8))] ∧ F_law03_SumKnown_L1 k283 b279 i280 = some r) ?_ ?_
  · have hM := hM.nilrow 5 1
    exact fun a ha => ⟨fuel0, none, 0, ([]), 0, ha.less (less_cons rfl (less_cons rfl less_nil)), hM, hF⟩
  · rintro k283 a w281 ⟨A277, c278, b279, i280, ha, hM, hF⟩
    refine KC.app ha ?_
    clear ha
    cases k283 with
    | zero => exact (none_some hF).elim
    | succ k283 =>
    have hF : F_law03_SumKnown_l1 (F_law03_SumKnown_L1 k283) b279 i280 = some r := hF
    unfold F_law03_SumKnown_l1 at hF
    refine KC.seq ?_
    refine KC.seq ?_
    refine KC.region ?_
    refine RL.val (O.move rfl) rfl ?_
    refine RL.val (O.lss rfl rfl) rfl ?_
    refine RL.nil ?_
    refine KQ.then_n ?_
    refine KC.cond rfl (fun hc => ?_) (fun hc => ?_)
    · rw [if_pos hc] at hF
      refine KC.skip ?_
      refine KQ.then_n ?_
      refine KC.seq ?_
      refine KC.block ?_
      refine KC.seq ?_
      refine KC.region ?_
      refine RL.val (O.move rfl) rfl ?_
      refine RL.val (O.move rfl) rfl ?_
      refine RL.val (O.mul rfl rfl) rfl ?_
      refine RL.val (O.conv un3 Try.underlying5 rfl) rfl ?_
      refine RL.eff (E.bsl (enc := (eI .u8)) (xs := [255, 255, 0, (IntKind.u8.wrap (IntKind.i64.wrap (i280 * 37))), 1, 254]) hM sl22 ze5 rfl rfl rfl (fun _ => rfl) rfl rfl rfl) rfl fun v w284 hv => ?_
      obtain ⟨A285, rfl, hM, hf⟩ := hv
      refine RL.val (O.move rfl) rfl ?_
      refine RL.val (O.rem rfl rfl (by decide)) rfl ?_
      obtain ⟨xv289, hx288, hF⟩ := obind hF
      have hA287 := Rd.atN (f := (eI .u8)) (s := 1) (fun _ => rfl) (by decide) (hM.rd (i := 1) rfl) hx288
      refine RL.val (O.idxA sl22 (hA287) rfl rfl) rfl ?_
      refine RL.val (O.load sc5 rfl (hA287).cells.at0) rfl ?_
      refine RL.eff (E.bsl (enc := (eI .u8)) (xs := [xv289]) hM sl22 ze5 rfl rfl rfl (fun _ => rfl) rfl rfl rfl) rfl fun v w290 hv => ?_
      obtain ⟨A291, rfl, hM, hf⟩ := hv
      obtain ⟨hq296, hF⟩ := cut_some hF
      refine RL.eff (E.app (enc := (eI .u8)) (xs := b279) (ys := [xv289]) (j := 0) hM rfl sl22 ze5 rfl rfl rfl rfl rfl (hM.rd (i := 2) rfl) (fun _ => One.all rfl) (of_decide_eq_true hq296)) rfl fun v w295 hv => ?_
      obtain ⟨A293, c294, rfl, hM⟩ := hv
      refine RL.val (O.assign rfl) rfl ?_
      refine RL.nil ?_
      refine KQ.then_n ?_
      refine KC.seq ?_
      refine KC.cut (fun a w329 => ∃ (t328 : Bool), Kn 147 [(1, .slice A293 ((b279 ++ [xv289])).length c294), (2, .int .i64 i280), (65, .bool t328)] a ∧ Mem w [] w329 [.row A293 c294 5 1 ((b279 ++ [xv289])).length (((b279 ++ [xv289])).flatMap (eI .u8))] ∧ F_law03_SumKnown_j1 b279 i280 (F_law03_SumKnown_L1 k283) xv289 t328 = some r) ?_ ?_
      · have hM := hM.drewN 1
        refine KC.draw [] [9, 21, 32, 40] [0, 1, 2, 3, 4, 5, 6, 7, 8, 10, 11, 12, 13, 14, 15, 16, 17, 18, 19, 20, 9, 21, 22, 23, 24, 25, 26, 27, 28, 29, 30, 31, 32, 33, 34, 35, 36, 37, 38, 39, 40, 41, 42] moP (by kernel_rfl) ?_
        refine RD.q rfl rfl rfl (fun w' hf => O.move rfl) ?_
        refine RD.q rfl rfl rfl (fun w' hf => O.move rfl) ?_
        refine RD.q rfl rfl rfl (fun w' hf => O.move rfl) ?_
        refine RD.q rfl rfl rfl (fun w' hf => O.quo rfl rfl (by decide)) ?_
        obtain ⟨cut390, hy391, hF⟩ := obind hF
        obtain ⟨A392, c393, eA395, ec396⟩ := cutN A293 c294 (Int.toNat 0) 1
        have hr394 := Rd.cutT (enc := (eI .u8)) (s := 1) (fun _ => rfl) (hM.rd (i := 0) rfl) hy391 (m := c294) (by have := (hM.rd (i := 0) rfl).cap; have := (gcut_some hy391).2.2.1; omega) (Nat.le_refl _)
        rw [← eA395, ← ec396] at hr394
        refine RD.q (v := .slice A392 (cut390).length c393) rfl rfl rfl (fun w' hf => (by rw [eA395, ec396]; exact O.cuthT sl22 ((hM.rd (i := 0) rfl).fut hf) hy391 rfl rfl)) ?_
        refine RD.q rfl rfl rfl (fun w' hf => O.move rfl) ?_
        refine RD.q rfl rfl rfl (fun w' hf => O.move rfl) ?_
        refine RD.q rfl rfl rfl (fun w' hf => O.quo rfl rfl (by decide)) ?_
        obtain ⟨cut397, hy398, hF⟩ := obind hF
        obtain ⟨A399, c400, eA402, ec403⟩ := cutN A293 c294 (Int.toNat (IntKind.i64.wrap (Int.tdiv i280 3))) 1
        have hr401 := Rd.cutT (enc := (eI .u8)) (s := 1) (fun _ => rfl) (hM.rd (i := 0) rfl) hy398 (m := c294) (by have := (hM.rd (i := 0) rfl).cap; have := (gcut_some hy398).2.2.1; omega) (Nat.le_refl _)
        rw [← eA402, ← ec403] at hr401
        refine RD.q (v := .slice A399 (cut397).length c400) rfl rfl rfl (fun w' hf => (by rw [eA402, ec403]; exact O.cutlT sl22 ((hM.rd (i := 0) rfl).fut hf) hy398 rfl rfl)) ?_
        refine RD.q rfl rfl rfl (fun w' hf => O.move rfl) ?_
        refine RD.q rfl rfl rfl (fun w' hf => O.mul rfl rfl) ?_
        refine RD.q rfl rfl rfl (fun w' hf => O.conv un3 Try.underlying23 rfl) ?_
        refine RD.q rfl rfl rfl (fun w' hf => O.move rfl) ?_
        refine RD.q rfl rfl rfl (fun w' hf => O.mul rfl rfl) ?_
        refine RD.q rfl rfl rfl (fun w' hf => O.conv un3 Try.underlying23 rfl) ?_
        refine RD.q rfl rfl rfl (fun w' hf => O.move rfl) ?_
        refine RD.q rfl rfl rfl (fun w' hf => O.move rfl) ?_
        refine RD.q rfl rfl rfl (fun w' hf => O.mul rfl rfl) ?_
        refine RD.q rfl rfl rfl (fun w' hf => O.mul rfl rfl) ?_
        refine RD.q rfl rfl rfl (fun w' hf => O.conv un3 Try.underlying23 rfl) ?_
        refine RD.meff rfl rfl (E.bslR (enc := (eI .u8)) (us := [.slice A293 ((b279 ++ [xv289])).length c294, .slice A392 (cut390).length c393, .slice none ([]).length 0, .slice A399 (cut397).length c400]) (xss := [(b279 ++ [xv289]), cut390, [], cut397]) (Rdl.cons ((hM.rd (i := 0) rfl)) (Rdl.cons (hr394) (Rdl.cons (Rd.nilr) (Rdl.cons (hr401) Rdl.nil)))) hM sl35 ze22 rfl rfl rfl rfl rfl) rfl fun v w404 hv => ?_
        obtain ⟨A405, rfl, hM, hf, hr406⟩ := hv
        refine ⟨fun _ => hf, ?_⟩
        have hr394 := hr394.fut hf
        have hr401 := hr401.fut hf
        obtain ⟨y407, hx408, hF⟩ := obind hF
        refine RD.mcall rfl rfl trivial Try.func5 bd5 rfl rfl (c_law03_SumTells _ _ _ ([(b279 ++ [xv289]), cut390, [], cut397]) (hr406) (IntKind.u16.wrap (IntKind.i64.wrap (i280 * 1111))) (IntKind.u16.wrap (IntKind.i64.wrap (i280 * 777))) (IntKind.u16.wrap (IntKind.i64.wrap ((IntKind.i64.wrap (i280 * i280)) * 31))) _ hx408) fun v w409 hv => ?_
        obtain ⟨rfl, hN410⟩ := hv
        refine ⟨fun _ => hN410.fut, ?_⟩
        have hr394 := hr394.fut hN410.fut
        have hr401 := hr401.fut hN410.fut
        have hr406 := hr406.fut hN410.fut
        have hM := hM.call0 hN410
        refine RD.q rfl rfl rfl (fun w' hf => O.not rfl) ?_
        refine RD.q rfl rfl rfl (fun w' hf => O.move rfl) ?_
        refine RD.bcase (t := 46) rfl (fun hc => ?_) (fun hc => ?_)
        · rw [if_pos hc] at hF
          refine RD.gskip rfl rfl rfl rfl rfl ?_
          refine RD.gskip rfl rfl rfl rfl rfl ?_
          refine RD.gskip rfl rfl rfl rfl rfl ?_
          refine RD.gskip rfl rfl rfl rfl rfl ?_
          refine RD.gskip rfl rfl rfl rfl rfl ?_
          refine RD.gskip rfl rfl rfl rfl rfl ?_
          refine RD.gskip rfl rfl rfl rfl rfl ?_
          refine RD.gskip rfl rfl rfl rfl rfl ?_
          refine RD.gskip rfl rfl rfl rfl rfl ?_
          refine RD.gskip rfl rfl rfl rfl rfl ?_
          refine RD.q rfl rfl rfl (fun w' hf => O.pickt rfl rfl) ?_
          refine RD.q rfl rfl rfl (fun w' hf => O.move rfl) ?_
          refine RD.gskip rfl rfl rfl rfl rfl ?_
          refine RD.gskip rfl rfl rfl rfl rfl ?_
          refine RD.gskip rfl rfl rfl rfl rfl ?_
          refine RD.gskip rfl rfl rfl rfl rfl ?_
          refine RD.gskip rfl rfl rfl rfl rfl ?_
          refine RD.gskip rfl rfl rfl rfl rfl ?_
          refine RD.q rfl rfl rfl (fun w' hf => O.pickt rfl rfl) ?_
          refine RD.nil ?_
          refine KQ.then_k ?_
          have hM := hM.pick [0] rfl (by decide)
          exact fun a ha => ⟨true, ha.less (less_cons rfl (less_cons rfl (less_cons rfl less_nil))), hM, hF⟩
        · rw [if_neg (ne_true hc)] at hF
          refine RD.gq rfl rfl rfl rfl rfl (fun w' hf => O.move rfl) ?_
          refine RD.gq rfl rfl rfl rfl rfl (fun w' hf => O.move rfl) ?_
          refine RD.gq rfl rfl rfl rfl rfl (fun w' hf => O.mul rfl rfl) ?_
          refine RD.gq rfl rfl rfl rfl rfl (fun w' hf => O.move rfl) ?_
          refine RD.gq rfl rfl rfl rfl rfl (fun w' hf => O.mul rfl rfl) ?_
          refine RD.gq rfl rfl rfl rfl rfl (fun w' hf => O.move rfl) ?_
          refine RD.gq rfl rfl rfl rfl rfl (fun w' hf => O.mul rfl rfl) ?_
          refine RD.gq rfl rfl rfl rfl rfl (fun w' hf => O.conv un3 Try.underlying23 rfl) ?_
          obtain ⟨y411, hx412, hF⟩ := obind hF
          refine RD.mcall rfl rfl ⟨rfl, rfl⟩ Try.func3 bd3 rfl rfl (c_law03_SumKeeps _ _ _ (b279 ++ [xv289]) (hM.rd (i := 0) rfl) (IntKind.i64.wrap (i280 * 5)) (IntKind.i64.wrap (i280 * 7)) (IntKind.u16.wrap (IntKind.i64.wrap (i280 * 4321))) _ hx412) fun v w413 hv => ?_
          obtain ⟨rfl, hN414⟩ := hv
          refine ⟨fun _ => hN414.fut, ?_⟩
          have hr394 := hr394.fut hN414.fut
          have hr401 := hr401.fut hN414.fut
          have hr406 := hr406.fut hN414.fut
          have hM := hM.call0 hN414
          refine RD.gq rfl rfl rfl rfl rfl (fun w' hf => O.not rfl) ?_
          refine RD.q rfl rfl rfl (fun w' hf => O.pickf rfl rfl) ?_
          refine RD.q rfl rfl rfl (fun w' hf => O.move rfl) ?_
          refine RD.bcase (t := 58) rfl (fun hc => ?_) (fun hc => ?_)
          · rw [if_pos hc] at hF
            refine RD.gskip rfl rfl rfl rfl rfl ?_
            refine RD.gskip rfl rfl rfl rfl rfl ?_
            refine RD.gskip rfl rfl rfl rfl rfl ?_
            refine RD.gskip rfl rfl rfl rfl rfl ?_
            refine RD.gskip rfl rfl rfl rfl rfl ?_
            refine RD.gskip rfl rfl rfl rfl rfl ?_
            refine RD.q rfl rfl rfl (fun w' hf => O.pickt rfl rfl) ?_
            refine RD.nil ?_
            refine KQ.then_k ?_
            have hM := hM.pick [0] rfl (by decide)
            exact fun a ha => ⟨true, ha.less (less_cons rfl (less_cons rfl (less_cons rfl less_nil))), hM, hF⟩
          · rw [if_neg (ne_true hc)] at hF
            refine RD.gq rfl rfl rfl rfl rfl (fun w' hf => O.move rfl) ?_
            refine RD.gq rfl rfl rfl rfl rfl (fun w' hf => O.move rfl) ?_
            refine RD.gq rfl rfl rfl rfl rfl (fun w' hf => O.move rfl) ?_
            refine RD.gq rfl rfl rfl rfl rfl (fun w' hf => O.conv un3 Try.underlying5 rfl) ?_
            obtain ⟨y415, hx416, hF⟩ := obind hF
            refine RD.mcall rfl rfl ⟨rfl, rfl⟩ Try.func4 bd4 rfl rfl (c_law03_SumFinds _ _ _ (b279 ++ [xv289]) (hM.rd (i := 0) rfl) i280 (IntKind.u8.wrap i280) _ hx416) fun v w417 hv => ?_
            obtain ⟨rfl, hN418⟩ := hv
            refine ⟨fun _ => hN418.fut, ?_⟩
            have hr394 := hr394.fut hN418.fut
            have hr401 := hr401.fut hN418.fut
            have hr406 := hr406.fut hN418.fut
            have hM := hM.call0 hN418
            refine RD.gq rfl rfl rfl rfl rfl (fun w' hf => O.not rfl) ?_
            refine RD.q rfl rfl rfl (fun w' hf => O.pickf rfl rfl) ?_
            refine RD.nil ?_
            refine KQ.then_k ?_
            have hM := hM.pick [0] rfl (by decide)
            exact fun a ha => ⟨(!y415), ha.less (less_cons rfl (less_cons rfl (less_cons rfl less_nil))), hM, hF⟩
      · rintro a w329 ⟨t328, ha, hM, hF⟩
        refine KC.app ha ?_
        clear ha
        unfold F_law03_SumKnown_j1 at hF
        refine KC.cond rfl (fun hc => ?_) (fun hc => ?_)
        · rw [if_pos hc] at hF
          refine KC.seq ?_
          refine KC.region ?_
          refine RL.val (O.assign rfl) rfl ?_
          refine RL.nil ?_
          refine KQ.then_n ?_
          refine KC.ret ?_
          refine KQ.then_r ?_
          refine KQ.blk_r ?_
          refine KQ.then_r ?_
          refine KQ.then_r ?_
          refine KQ.blk_r ?_
          refine KQ.then_r ?_
          obtain rfl := Option.some.inj hF
          have hM := hM.pick [] rfl (by decide)
          refine KQ.rets Try.results6 (RVs.cons (RV.tm rfl) RVs.nil) ?_
          exact ⟨_, rfl, rfl, hM⟩
        · rw [if_neg (ne_true hc)] at hF
          refine KC.skip ?_
          refine KQ.then_n ?_
          refine KC.seq ?_
          refine KC.region ?_
          refine RL.val (O.move rfl) rfl ?_
          obtain ⟨y330, hx331, hF⟩ := obind hF
          refine RL.call Try.func16 bd16 rfl rfl (c_ref03_Of _ _ _ (b279 ++ [xv289]) (hM.rd (i := 0) rfl) _ hx331) fun v w332 hv => ?_
          obtain ⟨rfl, hN333⟩ := hv
          have hM := hM.call0 hN333
          refine RL.val (O.assign rfl) rfl ?_
          refine RL.nil ?_
          refine KQ.then_n ?_
          refine KC.seq ?_
          refine KC.region ?_
          refine RL.val (O.assign rfl) rfl ?_
          refine RL.nil ?_
          refine KQ.then_n ?_
          refine KC.seq ?_
          refine KC.region ?_
          refine RL.val (O.move rfl) rfl ?_
          refine RL.val (O.move rfl) rfl ?_
          obtain ⟨hq337, hF⟩ := cut_some hF
          refine RL.eff (E.app0 (enc := (eI .u8)) (ys := (b279 ++ [xv289])) hM sl22 ze5 rfl rfl rfl rfl rfl (hM.rd (i := 0) rfl) (fun _ => One.all rfl) (of_decide_eq_true hq337)) rfl fun v w336 hv => ?_
          obtain ⟨A334, c335, rfl, hM⟩ := hv
          refine RL.val (O.assign rfl) rfl ?_
          refine RL.nil ?_
          refine KQ.then_n ?_
          refine KC.cut (fun a w352 => ∃ (A349 : Option Addr) (c350 : Nat) (whole351 : List Int), Kn 147 [(1, .slice A293 ((b279 ++ [xv289])).length c294), (2, .int .i64 i280), (3, .int .u16 y330), (4, .slice A349 (whole351).length c350)] a ∧ Mem w [] w352 [.row A293 c294 5 1 ((b279 ++ [xv289])).length (((b279 ++ [xv289])).flatMap (eI .u8)), .row A349 c350 5 1 (whole351).length ((whole351).flatMap (eI .u8))] ∧ F_law03_SumKnown_j2 b279 i280 (F_law03_SumKnown_L1 k283) xv289 y330 whole351 = some r) ?_ ?_
          · refine KC.seq ?_
            refine KC.region ?_
            refine RL.val (O.move rfl) rfl ?_
            refine RL.val (O.len sl22 rfl) rfl ?_
            refine RL.val (O.rem rfl rfl (by decide)) rfl ?_
            refine RL.val (O.eql rfl rfl) rfl ?_
            refine RL.nil ?_
            refine KQ.then_n ?_
            refine KC.cond rfl (fun hc => ?_) (fun hc => ?_)
            · rw [if_pos hc] at hF
              refine KC.region ?_
              refine RL.val (O.move rfl) rfl ?_
              refine RL.eff (E.bsl (enc := (eI .u8)) (xs := [0]) hM sl22 ze5 rfl rfl rfl (fun _ => rfl) rfl rfl rfl) rfl fun v w382 hv => ?_
              obtain ⟨A383, rfl, hM, hf⟩ := hv
              obtain ⟨hq388, hF⟩ := cut_some hF
              refine RL.eff (E.app (enc := (eI .u8)) (xs := (b279 ++ [xv289])) (ys := [0]) (j := 1) hM rfl sl22 ze5 rfl rfl rfl rfl rfl (hM.rd (i := 2) rfl) (fun _ => One.all rfl) (of_decide_eq_true hq388)) rfl fun v w387 hv => ?_
              obtain ⟨A385, c386, rfl, hM⟩ := hv
              refine RL.val (O.assign rfl) rfl ?_
              refine RL.nil ?_
              refine KQ.then_k ?_
              have hM := hM.pick [0, 1] rfl (by decide)
              exact fun a ha => ⟨A385, c386, ((b279 ++ [xv289]) ++ [0]), ha.less (less_cons rfl (less_cons rfl (less_cons rfl (less_cons rfl less_nil)))), hM, hF⟩
            · rw [if_neg (ne_true hc)] at hF
              refine KC.skip ?_
              refine KQ.then_k ?_
              exact fun a ha => ⟨A334, c335, (b279 ++ [xv289]), ha.less (less_cons rfl (less_cons rfl (less_cons rfl (less_cons rfl less_nil)))), hM, hF⟩
          · rintro a w352 ⟨A349, c350, whole351, ha, hM, hF⟩
            refine KC.app ha ?_
            clear ha
            unfold F_law03_SumKnown_j2 at hF
            refine KC.seq ?_
            refine KC.region ?_
            refine RL.val (O.move rfl) rfl ?_
            refine RL.val (O.move rfl) rfl ?_
            refine RL.val (O.quo rfl rfl (by decide)) rfl ?_
            refine RL.val (O.conv un23 Try.underlying5 rfl) rfl ?_
            refine RL.val (O.move rfl) rfl ?_
            refine RL.val (O.rem rfl rfl (by decide)) rfl ?_
            refine RL.val (O.conv un23 Try.underlying5 rfl) rfl ?_
            refine RL.eff (E.bsl (enc := (eI .u8)) (xs := [(IntKind.u8.wrap (IntKind.u16.wrap (Int.tdiv y330 256))), (IntKind.u8.wrap (Int.tmod y330 256))]) hM sl22 ze5 rfl rfl rfl (fun _ => rfl) rfl rfl rfl) rfl fun v w353 hv => ?_
            obtain ⟨A354, rfl, hM, hf⟩ := hv
            obtain ⟨hq359, hF⟩ := cut_some hF
            refine RL.eff (E.app (enc := (eI .u8)) (xs := whole351) (ys := [(IntKind.u8.wrap (IntKind.u16.wrap (Int.tdiv y330 256))), (IntKind.u8.wrap (Int.tmod y330 256))]) (j := 1) hM rfl sl22 ze5 rfl rfl rfl rfl rfl (hM.rd (i := 2) rfl) (fun _ => One.all rfl) (of_decide_eq_true hq359)) rfl fun v w358 hv => ?_
            obtain ⟨A356, c357, rfl, hM⟩ := hv
            refine RL.val (O.assign rfl) rfl ?_
            refine RL.nil ?_
            refine KQ.then_n ?_
            refine KC.seq ?_
            refine KC.region ?_
            refine RL.val (O.assign rfl) rfl ?_
            refine RL.nil ?_
            refine KQ.then_n ?_
            refine KC.block ?_
            refine KC.loop (fun k377 a w375 => ∃ (kv374 : Int), Kn 147 [(1, .slice A293 ((b279 ++ [xv289])).length c294), (2, .int .i64 i280), (4, .slice A356 ((whole351 ++ [(IntKind.u8.wrap (IntKind.u16.wrap (Int.tdiv y330 256))), (IntKind.u8.wrap (Int.tmod y330 256))])).length c357), (5, .int .i64 kv374)] a ∧ Mem w [] w375 [.row A293 c294 5 1 ((b279 ++ [xv289])).length (((b279 ++ [xv289])).flatMap (eI .u8)), .row A356 c357 5 1 ((whole351 ++ [(IntKind.u8.wrap (IntKind.u16.wrap (Int.tdiv y330 256))), (IntKind.u8.wrap (Int.tmod y330 256))])).length (((whole351 ++ [(IntKind.u8.wrap (IntKind.u16.wrap (Int.tdiv y330 256))), (IntKind.u8.wrap (Int.tmod y330 256))])).flatMap (eI .u8))] ∧ F_law03_SumKnown_L2 b279 i280 (F_law03_SumKnown_L1 k283) xv289 y330 whole351 k377 kv374 = some r) ?_ ?_
            · have hM := hM.pick [0, 1] rfl (by decide)
              exact fun a ha => ⟨fuel0, 0, ha.less (less_cons rfl (less_cons rfl (less_cons rfl (less_cons rfl less_nil)))), hM, hF⟩
            · rintro k377 a w375 ⟨kv374, ha, hM, hF⟩
              refine KC.app ha ?_
              clear ha
              cases k377 with
              | zero => exact (none_some hF).elim
              | succ k377 =>
              have hF : F_law03_SumKnown_l2 (F_law03_SumKnown_L2 b279 i280 (F_law03_SumKnown_L1 k283) xv289 y330 whole351 k377) b279 i280 (F_law03_SumKnown_L1 k283) xv289 y330 whole351 kv374 = some r := hF
              unfold F_law03_SumKnown_l2 at hF
              refine KC.seq ?_
              refine KC.seq ?_
              refine KC.region ?_
              refine RL.val (O.move rfl) rfl ?_
              refine RL.val (O.lss rfl rfl) rfl ?_
              refine RL.nil ?_
              refine KQ.then_n ?_
              refine KC.cond rfl (fun hc => ?_) (fun hc => ?_)
              · rw [if_pos hc] at hF
                refine KC.skip ?_
                refine KQ.then_n ?_
                refine KC.seq ?_
                refine KC.block ?_
                refine KC.seq ?_
                refine KC.region ?_
                refine RL.val (O.move rfl) rfl ?_
                refine RL.val (O.move rfl) rfl ?_
                refine RL.val (O.move rfl) rfl ?_
                refine RL.val (O.mul rfl rfl) rfl ?_
                refine RL.val (O.move rfl) rfl ?_
                refine RL.val (O.mul rfl rfl) rfl ?_
                refine RL.val (O.add rfl rfl) rfl ?_
                refine RL.val (O.conv un3 Try.underlying5 rfl) rfl ?_
                obtain ⟨y378, hx379, hF⟩ := obind hF
                refine RL.call Try.func4 bd4 rfl rfl (c_law03_SumFinds _ _ _ (whole351 ++ [(IntKind.u8.wrap (IntKind.u16.wrap (Int.tdiv y330 256))), (IntKind.u8.wrap (Int.tmod y330 256))]) (hM.rd (i := 1) rfl) (IntKind.i64.wrap (i280 * kv374)) (IntKind.u8.wrap (IntKind.i64.wrap (1 + (IntKind.i64.wrap (kv374 * 85))))) _ hx379) fun v w380 hv => ?_
                obtain ⟨rfl, hN381⟩ := hv
                have hM := hM.call0 hN381
                refine RL.val (O.not rfl) rfl ?_
                refine RL.nil ?_
                refine KQ.then_n ?_
                refine KC.cond rfl (fun hc => ?_) (fun hc => ?_)
                · rw [if_pos hc] at hF
                  refine KC.seq ?_
                  refine KC.region ?_
                  refine RL.val (O.assign rfl) rfl ?_
                  refine RL.nil ?_
                  refine KQ.then_n ?_
                  refine KC.ret ?_
                  refine KQ.blk_r ?_
                  refine KQ.then_r ?_
                  refine KQ.then_r ?_
                  refine KQ.blk_r ?_
                  refine KQ.blk_r ?_
                  refine KQ.then_r ?_
                  refine KQ.then_r ?_
                  refine KQ.blk_r ?_
                  refine KQ.then_r ?_
                  obtain rfl := Option.some.inj hF
                  have hM := hM.pick [] rfl (by decide)
                  refine KQ.rets Try.results6 (RVs.cons (RV.tm rfl) RVs.nil) ?_
                  exact ⟨_, rfl, rfl, hM⟩
                · rw [if_neg (ne_true hc)] at hF
                  refine KC.skip ?_
                  refine KQ.blk_n ?_
                  refine KQ.then_n ?_
                  refine KC.region ?_
                  refine RL.val (O.move rfl) rfl ?_
                  refine RL.val (O.add rfl rfl) rfl ?_
                  refine RL.val (O.assign rfl) rfl ?_
                  refine RL.nil ?_
                  refine KQ.then_k ?_
                  exact fun a ha => ⟨k377, Nat.lt_succ_self k377, (IntKind.i64.wrap (kv374 + 1)), ha.less (less_cons rfl (less_cons rfl (less_cons rfl (less_cons rfl less_nil)))), hM, hF⟩
              · rw [if_neg (ne_true hc)] at hF
                refine KC.exit ?_
                refine KQ.then_x ?_
                refine KQ.then_x ?_
                refine KQ.blk_x ?_
                refine KQ.blk_n ?_
                refine KQ.then_n ?_
                refine KC.region ?_
                refine RL.val (O.move rfl) rfl ?_
                refine RL.val (O.add rfl rfl) rfl ?_
                refine RL.val (O.assign rfl) rfl ?_
                refine RL.nil ?_
                refine KQ.then_k ?_
                have hM := hM.pick [0] rfl (by decide)
                exact fun a ha => ⟨k283, Nat.lt_succ_self k283, A293, c294, (b279 ++ [xv289]), (IntKind.i64.wrap (i280 + 1)), ha.less (less_cons rfl (less_cons rfl less_nil)), hM, hF⟩
    · rw [if_neg (ne_true hc)] at hF
      refine KC.exit ?_
      refine KQ.then_x ?_
      refine KQ.then_x ?_
      refine KQ.blk_x ?_
      refine KQ.then_n ?_
      refine KC.seq ?_
      refine KC.seq ?_
      refine KC.region ?_
      refine RL.val (O.assign rfl) rfl ?_
      refine RL.nil ?_
      refine KQ.then_n ?_
      refine KC.block ?_
      refine KC.loop (fun k565 a w563 => ∃ (i562 : Int), Kn 147 [(6, .int .i64 i562)] a ∧ Mem w [] w563 [] ∧ F_law03_SumKnown_L3 k565 i562 = some r) ?_ ?_
      · have hM := hM.pick [] rfl (by decide)
        exact fun a ha => ⟨fuel0, 0, ha.less (less_cons rfl less_nil), hM, hF⟩
      · rintro k565 a w563 ⟨i562, ha, hM, hF⟩
        refine KC.app ha ?_
        clear ha
        cases k565 with
        | zero => exact (none_some hF).elim
        | succ k565 =>
        have hF : F_law03_SumKnown_l3 (F_law03_SumKnown_L3 k565) i562 = some r := hF
        unfold F_law03_SumKnown_l3 at hF
        refine KC.seq ?_
        refine KC.seq ?_
        refine KC.region ?_
        refine RL.val (O.move rfl) rfl ?_
        refine RL.val (O.lss rfl rfl) rfl ?_
        refine RL.nil ?_
        refine KQ.then_n ?_
        refine KC.cond rfl (fun hc => ?_) (fun hc => ?_)
        · rw [if_pos hc] at hF
          refine KC.skip ?_
          refine KQ.then_n ?_
          refine KC.seq ?_
          refine KC.block ?_
          refine KC.seq ?_
          refine KC.region ?_
          refine RL.eff (E.bsl (enc := (eI .u16)) (xs := [0, 1, 65535, 65534]) hM sl47 ze23 rfl rfl rfl (fun _ => rfl) rfl rfl rfl) rfl fun v w566 hv => ?_
          obtain ⟨A567, rfl, hM, hf⟩ := hv
          refine RL.val (O.assign rfl) rfl ?_
          refine RL.nil ?_
          refine KQ.then_n ?_
          refine KC.cut (fun a w603 => ∃ (t602 : Bool), Kn 147 [(6, .int .i64 i562), (145, .bool t602)] a ∧ Mem w [] w603 [] ∧ F_law03_SumKnown_j3 i562 (F_law03_SumKnown_L3 k565) t602 = some r) ?_ ?_
          · have hM := hM.drewN 1
            refine KC.draw [] [18, 21, 27, 31, 37] [0, 1, 2, 3, 4, 5, 6, 7, 8, 9, 10, 11, 12, 13, 14, 15, 16, 17, 18, 19, 20, 22, 23, 24, 25, 26, 21, 27, 28, 29, 30, 32, 33, 34, 35, 36, 31, 37, 38, 39] moP (by kernel_rfl) ?_
            refine RD.q rfl rfl rfl (fun w' hf => O.move rfl) ?_
            refine RD.q rfl rfl rfl (fun w' hf => O.move rfl) ?_
            refine RD.q rfl rfl rfl (fun w' hf => O.rem rfl rfl (by decide)) ?_
            obtain ⟨xv606, hx605, hF⟩ := obind hF
            have hA604 := Rd.atN (f := (eI .u16)) (s := 1) (fun _ => rfl) (by decide) (hM.rd (i := 0) rfl) hx605
            refine RD.q rfl rfl rfl (fun w' hf => O.idxA sl47 (hA604.fut hf) rfl rfl) ?_
            refine RD.q rfl rfl rfl (fun w' hf => O.load sc23 rfl (hA604.fut hf).cells.at0) ?_
            refine RD.q rfl rfl rfl (fun w' hf => O.move rfl) ?_
            refine RD.q rfl rfl rfl (fun w' hf => O.move rfl) ?_
            refine RD.q rfl rfl rfl (fun w' hf => O.quo rfl rfl (by decide)) ?_
            obtain ⟨xv609, hx608, hF⟩ := obind hF
            have hA607 := Rd.atN (f := (eI .u16)) (s := 1) (fun _ => rfl) (by decide) (hM.rd (i := 0) rfl) hx608
            refine RD.q rfl rfl rfl (fun w' hf => O.idxA sl47 (hA607.fut hf) rfl rfl) ?_
            refine RD.q rfl rfl rfl (fun w' hf => O.load sc23 rfl (hA607.fut hf).cells.at0) ?_
            refine RD.q rfl rfl rfl (fun w' hf => O.move rfl) ?_
            refine RD.q rfl rfl rfl (fun w' hf => O.move rfl) ?_
            refine RD.q rfl rfl rfl (fun w' hf => O.move rfl) ?_
            refine RD.q rfl rfl rfl (fun w' hf => O.quo rfl rfl (by decide)) ?_
            refine RD.q rfl rfl rfl (fun w' hf => O.add rfl rfl) ?_
            refine RD.q rfl rfl rfl (fun w' hf => O.rem rfl rfl (by decide)) ?_
            obtain ⟨xv612, hx611, hF⟩ := obind hF
            have hA610 := Rd.atN (f := (eI .u16)) (s := 1) (fun _ => rfl) (by decide) (hM.rd (i := 0) rfl) hx611
            refine RD.q rfl rfl rfl (fun w' hf => O.idxA sl47 (hA610.fut hf) rfl rfl) ?_
            refine RD.q rfl rfl rfl (fun w' hf => O.load sc23 rfl (hA610.fut hf).cells.at0) ?_
            obtain ⟨y613, hx614, hF⟩ := obind hF
            refine RD.mcall rfl rfl trivial Try.func5 bd5 rfl rfl (c_law03_SumTells _ none 0 [] Rds.nilr xv606 xv609 xv612 _ hx614) fun v w615 hv => ?_
            obtain ⟨rfl, hN616⟩ := hv
            refine ⟨fun _ => hN616.fut, ?_⟩
            have hM := hM.call0 hN616
            refine RD.q rfl rfl rfl (fun w' hf => O.not rfl) ?_
            refine RD.q rfl rfl rfl (fun w' hf => O.move rfl) ?_
            refine RD.bcase (t := 126) rfl (fun hc => ?_) (fun hc => ?_)
            · rw [if_pos hc] at hF
              refine RD.gskip rfl rfl rfl rfl rfl ?_
              refine RD.gskip rfl rfl rfl rfl rfl ?_
              refine RD.gskip rfl rfl rfl rfl rfl ?_
              refine RD.gskip rfl rfl rfl rfl rfl ?_
              refine RD.gskip rfl rfl rfl rfl rfl ?_
              refine RD.gskip rfl rfl rfl rfl rfl ?_
              refine RD.gskip rfl rfl rfl rfl rfl ?_
              refine RD.gskip rfl rfl rfl rfl rfl ?_
              refine RD.q rfl rfl rfl (fun w' hf => O.pickt rfl rfl) ?_
              refine RD.q rfl rfl rfl (fun w' hf => O.move rfl) ?_
              refine RD.gskip rfl rfl rfl rfl rfl ?_
              refine RD.gskip rfl rfl rfl rfl rfl ?_
              refine RD.gskip rfl rfl rfl rfl rfl ?_
              refine RD.gskip rfl rfl rfl rfl rfl ?_
              refine RD.gskip rfl rfl rfl rfl rfl ?_
              refine RD.gskip rfl rfl rfl rfl rfl ?_
              refine RD.gskip rfl rfl rfl rfl rfl ?_
              refine RD.gskip rfl rfl rfl rfl rfl ?_
              refine RD.q rfl rfl rfl (fun w' hf => O.pickt rfl rfl) ?_
              refine RD.nil ?_
              refine KQ.then_k ?_
              have hM := hM.pick [] rfl (by decide)
              exact fun a ha => ⟨true, ha.less (less_cons rfl (less_cons rfl less_nil)), hM, hF⟩
            · rw [if_neg (ne_true hc)] at hF
              refine RD.gq rfl rfl rfl rfl rfl (fun w' hf => O.move rfl) ?_
              refine RD.gq rfl rfl rfl rfl rfl (fun w' hf => O.move rfl) ?_
              refine RD.gq rfl rfl rfl rfl rfl (fun w' hf => O.rem rfl rfl (by decide)) ?_
              obtain ⟨xv619, hx618, hF⟩ := obind hF
              have hA617 := Rd.atN (f := (eI .u16)) (s := 1) (fun _ => rfl) (by decide) (hM.rd (i := 0) rfl) hx618
              refine RD.gq rfl rfl rfl rfl rfl (fun w' hf => O.idxA sl47 (hA617.fut hf) rfl rfl) ?_
              refine RD.gq rfl rfl rfl rfl rfl (fun w' hf => O.load sc23 rfl (hA617.fut hf).cells.at0) ?_
              refine RD.gmeff rfl rfl rfl rfl (E.bsl (enc := (eI .u8)) (xs := [0, 0, 0, 0]) hM sl22 ze5 rfl rfl rfl (fun _ => rfl) rfl rfl rfl) rfl fun v w620 hv => ?_
              obtain ⟨A621, rfl, hM, hf⟩ := hv
              refine ⟨fun _ => hf, ?_⟩
              obtain ⟨y623, hx624, hF⟩ := obind hF
              refine RD.mcall rfl rfl ⟨rfl, rfl⟩ Try.func3 bd3 rfl rfl (c_law03_SumKeeps _ _ _ ([0, 0, 0, 0]) (hM.rd (i := 1) rfl) 0 1 xv619 _ hx624) fun v w625 hv => ?_
              obtain ⟨rfl, hN626⟩ := hv
              refine ⟨fun _ => hN626.fut, ?_⟩
              have hM := hM.call0 hN626
              refine RD.gq rfl rfl rfl rfl rfl (fun w' hf => O.not rfl) ?_
              refine RD.q rfl rfl rfl (fun w' hf => O.pickf rfl rfl) ?_
              refine RD.q rfl rfl rfl (fun w' hf => O.move rfl) ?_
              refine RD.bcase (t := 136) rfl (fun hc => ?_) (fun hc => ?_)
              · rw [if_pos hc] at hF
                refine RD.gskip rfl rfl rfl rfl rfl ?_
                refine RD.gskip rfl rfl rfl rfl rfl ?_
                refine RD.gskip rfl rfl rfl rfl rfl ?_
                refine RD.gskip rfl rfl rfl rfl rfl ?_
                refine RD.gskip rfl rfl rfl rfl rfl ?_
                refine RD.gskip rfl rfl rfl rfl rfl ?_
                refine RD.gskip rfl rfl rfl rfl rfl ?_
                refine RD.gskip rfl rfl rfl rfl rfl ?_
                refine RD.q rfl rfl rfl (fun w' hf => O.pickt rfl rfl) ?_
                refine RD.nil ?_
                refine KQ.then_k ?_
                have hM := hM.pick [] rfl (by decide)
                exact fun a ha => ⟨true, ha.less (less_cons rfl (less_cons rfl less_nil)), hM, hF⟩
              · rw [if_neg (ne_true hc)] at hF
                refine RD.gq rfl rfl rfl rfl rfl (fun w' hf => O.move rfl) ?_
                refine RD.gq rfl rfl rfl rfl rfl (fun w' hf => O.move rfl) ?_
                refine RD.gq rfl rfl rfl rfl rfl (fun w' hf => O.rem rfl rfl (by decide)) ?_
                obtain ⟨xv629, hx628, hF⟩ := obind hF
                have hA627 := Rd.atN (f := (eI .u16)) (s := 1) (fun _ => rfl) (by decide) (hM.rd (i := 0) rfl) hx628
                refine RD.gq rfl rfl rfl rfl rfl (fun w' hf => O.idxA sl47 (hA627.fut hf) rfl rfl) ?_
                refine RD.gq rfl rfl rfl rfl rfl (fun w' hf => O.load sc23 rfl (hA627.fut hf).cells.at0) ?_
                refine RD.gmeff rfl rfl rfl rfl (E.bsl (enc := (eI .u8)) (xs := [255, 255]) hM sl22 ze5 rfl rfl rfl (fun _ => rfl) rfl rfl rfl) rfl fun v w630 hv => ?_
                obtain ⟨A631, rfl, hM, hf⟩ := hv
                refine ⟨fun _ => hf, ?_⟩
                obtain ⟨y633, hx634, hF⟩ := obind hF
                refine RD.mcall rfl rfl ⟨rfl, rfl⟩ Try.func3 bd3 rfl rfl (c_law03_SumKeeps _ _ _ ([255, 255]) (hM.rd (i := 2) rfl) 0 0 xv629 _ hx634) fun v w635 hv => ?_
                obtain ⟨rfl, hN636⟩ := hv
                refine ⟨fun _ => hN636.fut, ?_⟩
                have hM := hM.call0 hN636
                refine RD.gq rfl rfl rfl rfl rfl (fun w' hf => O.not rfl) ?_
                refine RD.q rfl rfl rfl (fun w' hf => O.pickf rfl rfl) ?_
                refine RD.nil ?_
                refine KQ.then_k ?_
                have hM := hM.pick [] rfl (by decide)
                exact fun a ha => ⟨(!y633), ha.less (less_cons rfl (less_cons rfl less_nil)), hM, hF⟩
          · rintro a w603 ⟨t602, ha, hM, hF⟩
            refine KC.app ha ?_
            clear ha
            unfold F_law03_SumKnown_j3 at hF
            refine KC.cond rfl (fun hc => ?_) (fun hc => ?_)
            · rw [if_pos hc] at hF
              refine KC.seq ?_
              refine KC.region ?_
              refine RL.val (O.assign rfl) rfl ?_
              refine RL.nil ?_
              refine KQ.then_n ?_
              refine KC.ret ?_
              refine KQ.blk_r ?_
              refine KQ.then_r ?_
              refine KQ.then_r ?_
              refine KQ.blk_r ?_
              refine KQ.then_r ?_
              obtain rfl := Option.some.inj hF
              refine KQ.rets Try.results6 (RVs.cons (RV.tm rfl) RVs.nil) ?_
              exact ⟨_, rfl, rfl, hM⟩
            · rw [if_neg (ne_true hc)] at hF
              refine KC.skip ?_
              refine KQ.blk_n ?_
              refine KQ.then_n ?_
              refine KC.region ?_
              refine RL.val (O.move rfl) rfl ?_
              refine RL.val (O.add rfl rfl) rfl ?_
              refine RL.val (O.assign rfl) rfl ?_
              refine RL.nil ?_
              refine KQ.then_k ?_
              exact fun a ha => ⟨k565, Nat.lt_succ_self k565, (IntKind.i64.wrap (i562 + 1)), ha.less (less_cons rfl less_nil), hM, hF⟩
        · rw [if_neg (ne_true hc)] at hF
          refine KC.exit ?_
          refine KQ.then_x ?_
          refine KQ.then_x ?_
          refine KQ.blk_x ?_
          refine KQ.then_n ?_
          refine KC.seq ?_
          refine KC.region ?_
          obtain ⟨y637, hx638, hF⟩ := obind hF
          refine RL.call Try.func7 bd7 rfl rfl (c_law03_works _ _ hx638) fun v w639 hv => ?_
          obtain ⟨rfl, hN640⟩ := hv
          have hM := hM.call0 hN640
          refine RL.val (O.assign rfl) rfl ?_
          refine RL.nil ?_
          refine KQ.then_n ?_
          refine KC.ret ?_
          obtain rfl := Option.some.inj hF
          refine KQ.rets Try.results6 (RVs.cons (RV.tm rfl) RVs.nil) ?_
          exact ⟨_, rfl, rfl, hM⟩
end Go.Proofs.Ytkdbdghncjmfoaa
