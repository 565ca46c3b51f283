/- Printed by a program of this claim: each call returns what the plain function of its name gives. -/
import Derived.Test.YtidbgejnkpoeeaaRows
import Derived.Test.YtidbgejnkpoeeaaF
set_option linter.unusedVariables false
namespace Go.Proofs.Ytidbgejnkpoeeaa
open Go Go.Ox Go.RowKit
theorem sl22 : SliceT Try.prog 22 41 45 120 := ⟨Try.underlying22, by kernel_rfl⟩
theorem fl41_3 : FieldT Try.prog 41 3 40 38 1 := ⟨by kernel_rfl, by kernel_rfl⟩
theorem sc38 : isScalar Try.prog 38 = true := by kernel_rfl
theorem sl38 : SliceT Try.prog 38 50 44 80 := ⟨Try.underlying38, by kernel_rfl⟩
theorem bd5 : BD Try.f5 = true := by kernel_rfl
theorem bt65 : BuildT Try.prog 65 [(0, 1), (1, 1), (2, 1), (3, 1), (4, 1), (5, 1), (6, 1)] [.map none, .map none, .map none, .slice none 0 0, .slice none 0 0, v64 0, v32 0] := ⟨by kernel_rfl, by unfold ZeroT; kernel_rfl⟩
theorem bd7 : BD Try.f7 = true := by kernel_rfl
theorem ze34 : ZeroT Try.prog 34 [vB false, v8 0, v8 0, v8 0, v8 0, v8 0, v8 0, v8 0, v8 0, v8 0, v8 0, v8 0, v8 0, v8 0, v8 0, v8 0, v8 0, vB false, v8 0, v8 0, v8 0, v8 0, v8 0, v8 0, v8 0, v8 0, v8 0, v8 0, v8 0, v8 0, v8 0, v8 0, v8 0, v8 0, v8 0, v16 0, v16 0] := by unfold ZeroT; kernel_rfl
theorem un3 : (Try.prog.underlying 3).isSome = true := by kernel_rfl
theorem bt34 : BuildT Try.prog 34 [(0, 17), (17, 17), (34, 1), (35, 1), (36, 1)] [vB false, v8 0, v8 0, v8 0, v8 0, v8 0, v8 0, v8 0, v8 0, v8 0, v8 0, v8 0, v8 0, v8 0, v8 0, v8 0, v8 0, vB false, v8 0, v8 0, v8 0, v8 0, v8 0, v8 0, v8 0, v8 0, v8 0, v8 0, v8 0, v8 0, v8 0, v8 0, v8 0, v8 0, v8 0, v16 0, v16 0] := ⟨by kernel_rfl, by unfold ZeroT; kernel_rfl⟩
theorem fl34_0 : FieldT Try.prog 34 0 0 31 17 := ⟨by kernel_rfl, by kernel_rfl⟩
theorem fl31_1 : FieldT Try.prog 31 1 1 29 16 := ⟨by kernel_rfl, by kernel_rfl⟩
theorem sz5 : sizeT Try.prog 5 1 = true := by kernel_rfl
theorem ag34 : isAggT Try.prog 34 37 = true := by kernel_rfl
theorem sz34 : sizeT Try.prog 34 37 = true := by kernel_rfl
theorem bd17 : BD Try.f17 = true := by kernel_rfl
theorem bt41 : BuildT Try.prog 41 [(0, 1), (1, 37), (38, 2), (40, 1), (41, 1), (42, 1), (43, 1), (44, 1)] [vI 0, vB false, v8 0, v8 0, v8 0, v8 0, v8 0, v8 0, v8 0, v8 0, v8 0, v8 0, v8 0, v8 0, v8 0, v8 0, v8 0, v8 0, vB false, v8 0, v8 0, v8 0, v8 0, v8 0, v8 0, v8 0, v8 0, v8 0, v8 0, v8 0, v8 0, v8 0, v8 0, v8 0, v8 0, v8 0, v16 0, v16 0, v64 0, v64 0, .slice none 0 0, v32 0, v64 0, v64 0, v64 0] := ⟨by kernel_rfl, by unfold ZeroT; kernel_rfl⟩
theorem sz66 : sizeT Try.prog 66 1 = true := by kernel_rfl
theorem ze67 : ZeroT Try.prog 67 [Value.nilFunc, Value.nilFunc, Value.nilFunc, Value.nilFunc, Value.nilFunc, Value.nilFunc, Value.nilFunc, Value.nilFunc] := by unfold ZeroT; kernel_rfl
theorem fl41_0 : FieldT Try.prog 41 0 0 3 1 := ⟨by kernel_rfl, by kernel_rfl⟩
theorem sc3 : isScalar Try.prog 3 = true := by kernel_rfl
theorem sc66 : isScalar Try.prog 66 = true := by kernel_rfl
theorem ag41 : isAggT Try.prog 41 45 = true := by kernel_rfl
theorem fl41_1 : FieldT Try.prog 41 1 1 34 37 := ⟨by kernel_rfl, by kernel_rfl⟩
theorem fl34_2 : FieldT Try.prog 34 2 34 5 1 := ⟨by kernel_rfl, by kernel_rfl⟩
theorem sc5 : isScalar Try.prog 5 = true := by kernel_rfl
theorem bd54 : BD Try.f54 = true := by kernel_rfl
theorem fl34_3 : FieldT Try.prog 34 3 35 32 1 := ⟨by kernel_rfl, by kernel_rfl⟩
theorem bd55 : BD Try.f55 = true := by kernel_rfl
theorem fl34_4 : FieldT Try.prog 34 4 36 32 1 := ⟨by kernel_rfl, by kernel_rfl⟩
theorem sz32 : sizeT Try.prog 32 1 = true := by kernel_rfl
theorem ag31 : isAggT Try.prog 31 17 = true := by kernel_rfl
theorem ze29 : ZeroT Try.prog 29 [v8 0, v8 0, v8 0, v8 0, v8 0, v8 0, v8 0, v8 0, v8 0, v8 0, v8 0, v8 0, v8 0, v8 0, v8 0, v8 0] := by unfold ZeroT; kernel_rfl
theorem fl31_0 : FieldT Try.prog 31 0 0 4 1 := ⟨by kernel_rfl, by kernel_rfl⟩
theorem sc4 : isScalar Try.prog 4 = true := by kernel_rfl
theorem bd70 : BD Try.f70 = true := by kernel_rfl
theorem sl94 : SliceT Try.prog 94 5 1 1 := ⟨Try.underlying94, by kernel_rfl⟩
theorem ag29 : isAggT Try.prog 29 16 = true := by kernel_rfl
theorem moP : Try.prog.follows .mixedOrders = true := by kernel_rfl
theorem bd56 : BD Try.f56 = true := by kernel_rfl
theorem fl34_1 : FieldT Try.prog 34 1 17 31 17 := ⟨by kernel_rfl, by kernel_rfl⟩
theorem bd36 : BD Try.f36 = true := by kernel_rfl
theorem ag37 : isAggT Try.prog 37 2 = true := by kernel_rfl
theorem ze37 : ZeroT Try.prog 37 [v64 0, v64 0] := by unfold ZeroT; kernel_rfl
theorem fl37_0 : FieldT Try.prog 37 0 0 35 1 := ⟨by kernel_rfl, by kernel_rfl⟩
theorem sc35 : isScalar Try.prog 35 = true := by kernel_rfl
theorem fl37_1 : FieldT Try.prog 37 1 1 35 1 := ⟨by kernel_rfl, by kernel_rfl⟩
theorem bd31 : BD Try.f31 = true := by kernel_rfl
theorem bt37 : BuildT Try.prog 37 [(0, 1), (1, 1)] [v64 0, v64 0] := ⟨by kernel_rfl, by unfold ZeroT; kernel_rfl⟩
theorem sz37 : sizeT Try.prog 37 2 = true := by kernel_rfl
theorem bd12 : BD Try.f12 = true := by kernel_rfl
theorem fl65_0 : FieldT Try.prog 65 0 0 62 1 := ⟨by kernel_rfl, by kernel_rfl⟩
theorem sc62 : isScalar Try.prog 62 = true := by kernel_rfl
theorem fl41_2 : FieldT Try.prog 41 2 38 37 2 := ⟨by kernel_rfl, by kernel_rfl⟩
theorem bd37 : BD Try.f37 = true := by kernel_rfl
theorem fl65_1 : FieldT Try.prog 65 1 1 62 1 := ⟨by kernel_rfl, by kernel_rfl⟩
theorem bd20 : BD Try.f20 = true := by kernel_rfl
theorem bd34 : BD Try.f34 = true := by kernel_rfl
theorem ag50 : isAggT Try.prog 50 44 = true := by kernel_rfl
theorem ze50 : ZeroT Try.prog 50 [vB false, v8 0, v8 0, v8 0, v8 0, v8 0, v8 0, v8 0, v8 0, v8 0, v8 0, v8 0, v8 0, v8 0, v8 0, v8 0, v8 0, vB false, v8 0, v8 0, v8 0, v8 0, v8 0, v8 0, v8 0, v8 0, v8 0, v8 0, v8 0, v8 0, v8 0, v8 0, v8 0, v8 0, v8 0, v16 0, v16 0, v64 0, v64 0, v64 0, v64 0, v8 0, v8 0, v8 0] := by unfold ZeroT; kernel_rfl
theorem fl50_0 : FieldT Try.prog 50 0 0 34 37 := ⟨by kernel_rfl, by kernel_rfl⟩
theorem fl50_1 : FieldT Try.prog 50 1 37 35 1 := ⟨by kernel_rfl, by kernel_rfl⟩
theorem fl50_2 : FieldT Try.prog 50 2 38 35 1 := ⟨by kernel_rfl, by kernel_rfl⟩
theorem bd13 : BD Try.f13 = true := by kernel_rfl
theorem fl50_3 : FieldT Try.prog 50 3 39 35 1 := ⟨by kernel_rfl, by kernel_rfl⟩
theorem fl50_4 : FieldT Try.prog 50 4 40 35 1 := ⟨by kernel_rfl, by kernel_rfl⟩
theorem fl50_6 : FieldT Try.prog 50 6 42 5 1 := ⟨by kernel_rfl, by kernel_rfl⟩
theorem bd57 : BD Try.f57 = true := by kernel_rfl
theorem sz50 : sizeT Try.prog 50 44 = true := by kernel_rfl
theorem bd38 : BD Try.f38 = true := by kernel_rfl
theorem fl65_4 : FieldT Try.prog 65 4 4 63 1 := ⟨by kernel_rfl, by kernel_rfl⟩
theorem sc63 : isScalar Try.prog 63 = true := by kernel_rfl
theorem sl63 : SliceT Try.prog 63 3 1 8 := ⟨Try.underlying63, by kernel_rfl⟩
theorem fl65_6 : FieldT Try.prog 65 6 6 39 1 := ⟨by kernel_rfl, by kernel_rfl⟩
theorem sc39 : isScalar Try.prog 39 = true := by kernel_rfl
theorem fl41_4 : FieldT Try.prog 41 4 41 39 1 := ⟨by kernel_rfl, by kernel_rfl⟩
theorem fl41_5 : FieldT Try.prog 41 5 42 35 1 := ⟨by kernel_rfl, by kernel_rfl⟩
theorem bd33 : BD Try.f33 = true := by kernel_rfl
theorem fl65_3 : FieldT Try.prog 65 3 3 42 1 := ⟨by kernel_rfl, by kernel_rfl⟩
theorem sc42 : isScalar Try.prog 42 = true := by kernel_rfl
theorem sl42 : SliceT Try.prog 42 47 6 48 := ⟨Try.underlying42, by kernel_rfl⟩
theorem ze3 : ZeroT Try.prog 3 [vI 0] := by unfold ZeroT; kernel_rfl
theorem bt47 : BuildT Try.prog 47 [(0, 1), (1, 1), (2, 1), (3, 1), (4, 1), (5, 1)] [v32 0, v64 0, .slice none 0 0, vB false, vB false, vB false] := ⟨by kernel_rfl, by unfold ZeroT; kernel_rfl⟩
theorem ze47 : ZeroT Try.prog 47 [v32 0, v64 0, .slice none 0 0, vB false, vB false, vB false] := by unfold ZeroT; kernel_rfl
theorem fl47_2 : FieldT Try.prog 47 2 2 38 1 := ⟨by kernel_rfl, by kernel_rfl⟩
theorem bd46 : BD Try.f46 = true := by kernel_rfl
theorem ag47 : isAggT Try.prog 47 6 = true := by kernel_rfl
theorem sz47 : sizeT Try.prog 47 6 = true := by kernel_rfl
theorem sz38 : sizeT Try.prog 38 1 = true := by kernel_rfl
theorem bd27 : BD Try.f27 = true := by kernel_rfl
theorem sz42 : sizeT Try.prog 42 1 = true := by kernel_rfl
theorem sz63 : sizeT Try.prog 63 1 = true := by kernel_rfl
theorem sz62 : sizeT Try.prog 62 1 = true := by kernel_rfl
theorem bd21 : BD Try.f21 = true := by kernel_rfl
theorem fl65_2 : FieldT Try.prog 65 2 2 62 1 := ⟨by kernel_rfl, by kernel_rfl⟩
theorem bd22 : BD Try.f22 = true := by kernel_rfl
theorem fl47_4 : FieldT Try.prog 47 4 4 4 1 := ⟨by kernel_rfl, by kernel_rfl⟩
theorem sz4 : sizeT Try.prog 4 1 = true := by kernel_rfl
theorem fl47_3 : FieldT Try.prog 47 3 3 4 1 := ⟨by kernel_rfl, by kernel_rfl⟩
theorem bd23 : BD Try.f23 = true := by kernel_rfl
theorem sc25 : isScalar Try.prog 25 = true := by kernel_rfl
theorem sc84 : isScalar Try.prog 84 = true := by kernel_rfl
theorem fl47_5 : FieldT Try.prog 47 5 5 4 1 := ⟨by kernel_rfl, by kernel_rfl⟩
theorem bd40 : BD Try.f40 = true := by kernel_rfl
theorem bd59 : BD Try.f59 = true := by kernel_rfl
theorem bd71 : BD Try.f71 = true := by kernel_rfl
theorem bd58 : BD Try.f58 = true := by kernel_rfl
theorem fl41_6 : FieldT Try.prog 41 6 43 35 1 := ⟨by kernel_rfl, by kernel_rfl⟩
theorem fl65_5 : FieldT Try.prog 65 5 5 35 1 := ⟨by kernel_rfl, by kernel_rfl⟩
theorem bd39 : BD Try.f39 = true := by kernel_rfl
theorem sz35 : sizeT Try.prog 35 1 = true := by kernel_rfl
theorem bd24 : BD Try.f24 = true := by kernel_rfl
theorem ze4 : ZeroT Try.prog 4 [vB false] := by unfold ZeroT; kernel_rfl
theorem bd41 : BD Try.f41 = true := by kernel_rfl
theorem bd60 : BD Try.f60 = true := by kernel_rfl
theorem fl47_0 : FieldT Try.prog 47 0 0 39 1 := ⟨by kernel_rfl, by kernel_rfl⟩
theorem fl47_1 : FieldT Try.prog 47 1 1 35 1 := ⟨by kernel_rfl, by kernel_rfl⟩
theorem bd25 : BD Try.f25 = true := by kernel_rfl
theorem bd43 : BD Try.f43 = true := by kernel_rfl
theorem bd61 : BD Try.f61 = true := by kernel_rfl
theorem bd42 : BD Try.f42 = true := by kernel_rfl
theorem fl41_7 : FieldT Try.prog 41 7 44 35 1 := ⟨by kernel_rfl, by kernel_rfl⟩
theorem bd44 : BD Try.f44 = true := by kernel_rfl
theorem bd45 : BD Try.f45 = true := by kernel_rfl
theorem bd35 : BD Try.f35 = true := by kernel_rfl
theorem sz39 : sizeT Try.prog 39 1 = true := by kernel_rfl
theorem bd26 : BD Try.f26 = true := by kernel_rfl
theorem sz67 : sizeT Try.prog 67 8 = true := by kernel_rfl
theorem bd8 : BD Try.f8 = true := by kernel_rfl
theorem ze54 : ZeroT Try.prog 54 [v64 0, v64 0, v64 0, v64 0, v64 0, v64 0, v64 0, v64 0, v64 0, v64 0, v64 0, v64 0] := by unfold ZeroT; kernel_rfl
theorem bt54 : BuildT Try.prog 54 [(0, 2), (2, 2), (4, 2), (6, 2), (8, 2), (10, 2)] [v64 0, v64 0, v64 0, v64 0, v64 0, v64 0, v64 0, v64 0, v64 0, v64 0, v64 0, v64 0] := ⟨by kernel_rfl, by unfold ZeroT; kernel_rfl⟩
theorem bd32 : BD Try.f32 = true := by kernel_rfl
theorem fl54_5 : FieldT Try.prog 54 5 10 37 2 := ⟨by kernel_rfl, by kernel_rfl⟩
theorem fl54_4 : FieldT Try.prog 54 4 8 37 2 := ⟨by kernel_rfl, by kernel_rfl⟩
theorem fl54_3 : FieldT Try.prog 54 3 6 37 2 := ⟨by kernel_rfl, by kernel_rfl⟩
theorem fl54_2 : FieldT Try.prog 54 2 4 37 2 := ⟨by kernel_rfl, by kernel_rfl⟩
theorem ag54 : isAggT Try.prog 54 12 = true := by kernel_rfl
theorem sz54 : sizeT Try.prog 54 12 = true := by kernel_rfl
theorem bd14 : BD Try.f14 = true := by kernel_rfl
theorem bt50 : BuildT Try.prog 50 [(0, 37), (37, 1), (38, 1), (39, 1), (40, 1), (41, 1), (42, 1), (43, 1)] [vB false, v8 0, v8 0, v8 0, v8 0, v8 0, v8 0, v8 0, v8 0, v8 0, v8 0, v8 0, v8 0, v8 0, v8 0, v8 0, v8 0, vB false, v8 0, v8 0, v8 0, v8 0, v8 0, v8 0, v8 0, v8 0, v8 0, v8 0, v8 0, v8 0, v8 0, v8 0, v8 0, v8 0, v8 0, v16 0, v16 0, v64 0, v64 0, v64 0, v64 0, v8 0, v8 0, v8 0] := ⟨by kernel_rfl, by unfold ZeroT; kernel_rfl⟩
theorem bd18 : BD Try.f18 = true := by kernel_rfl
theorem bd9 : BD Try.f9 = true := by kernel_rfl
theorem bd16 : BD Try.f16 = true := by kernel_rfl
theorem fl54_0 : FieldT Try.prog 54 0 0 37 2 := ⟨by kernel_rfl, by kernel_rfl⟩
theorem fl54_1 : FieldT Try.prog 54 1 2 37 2 := ⟨by kernel_rfl, by kernel_rfl⟩
theorem bd19 : BD Try.f19 = true := by kernel_rfl
theorem bd6 : BD Try.f6 = true := by kernel_rfl
theorem bd29 : BD Try.f29 = true := by kernel_rfl
theorem bd49 : BD Try.f49 = true := by kernel_rfl
theorem sc44 : isScalar Try.prog 44 = true := by kernel_rfl
theorem sl44 : SliceT Try.prog 44 34 37 40 := ⟨Try.underlying44, by kernel_rfl⟩
theorem sz44 : sizeT Try.prog 44 1 = true := by kernel_rfl
theorem bd62 : BD Try.f62 = true := by kernel_rfl
theorem bd47 : BD Try.f47 = true := by kernel_rfl
theorem ze108 : ZeroT Try.prog 108 [.slice none 0 0] := by unfold ZeroT; kernel_rfl
theorem ze5 : ZeroT Try.prog 5 [v8 0] := by unfold ZeroT; kernel_rfl
theorem fl108_0 : FieldT Try.prog 108 0 0 94 1 := ⟨by kernel_rfl, by kernel_rfl⟩
theorem sc94 : isScalar Try.prog 94 = true := by kernel_rfl
theorem sz94 : sizeT Try.prog 94 1 = true := by kernel_rfl
theorem bd66 : BD Try.f66 = true := by kernel_rfl
theorem bd82 : BD Try.f82 = true := by kernel_rfl
theorem bd67 : BD Try.f67 = true := by kernel_rfl
theorem sc32 : isScalar Try.prog 32 = true := by kernel_rfl
theorem un32 : (Try.prog.underlying 32).isSome = true := by kernel_rfl
theorem bd91 : BD Try.f91 = true := by kernel_rfl
theorem bd92 : BD Try.f92 = true := by kernel_rfl
theorem bd83 : BD Try.f83 = true := by kernel_rfl
theorem un35 : (Try.prog.underlying 35).isSome = true := by kernel_rfl
theorem bd84 : BD Try.f84 = true := by kernel_rfl
theorem bd68 : BD Try.f68 = true := by kernel_rfl
theorem bd85 : BD Try.f85 = true := by kernel_rfl
theorem bd69 : BD Try.f69 = true := by kernel_rfl
theorem bd51 : BD Try.f51 = true := by kernel_rfl
theorem bd50 : BD Try.f50 = true := by kernel_rfl
theorem bd30 : BD Try.f30 = true := by kernel_rfl
theorem bd48 : BD Try.f48 = true := by kernel_rfl
theorem bd28 : BD Try.f28 = true := by kernel_rfl
theorem bd10 : BD Try.f10 = true := by kernel_rfl
theorem bd11 : BD Try.f11 = true := by kernel_rfl
theorem bd15 : BD Try.f15 = true := by kernel_rfl
theorem un5 : (Try.prog.underlying 5).isSome = true := by kernel_rfl
theorem bd81 : BD Try.f81 = true := by kernel_rfl
theorem un39 : (Try.prog.underlying 39).isSome = true := by kernel_rfl
theorem bd64 : BD Try.f64 = true := by kernel_rfl
theorem sc127 : isScalar Try.prog 127 = true := by kernel_rfl
theorem sz127 : sizeT Try.prog 127 1 = true := by kernel_rfl
theorem Q31 (d : Nat) (x y : T_addr_Addr) (w : World) : (Op.equalIn (d + 3) 31 (.agg #[vB x.f_Six, o8 x.f_B 0, o8 x.f_B 1, o8 x.f_B 2, o8 x.f_B 3, o8 x.f_B 4, o8 x.f_B 5, o8 x.f_B 6, o8 x.f_B 7, o8 x.f_B 8, o8 x.f_B 9, o8 x.f_B 10, o8 x.f_B 11, o8 x.f_B 12, o8 x.f_B 13, o8 x.f_B 14, o8 x.f_B 15]) (.agg #[vB y.f_Six, o8 y.f_B 0, o8 y.f_B 1, o8 y.f_B 2, o8 y.f_B 3, o8 y.f_B 4, o8 y.f_B 5, o8 y.f_B 6, o8 y.f_B 7, o8 y.f_B 8, o8 y.f_B 9, o8 y.f_B 10, o8 y.f_B 11, o8 y.f_B 12, o8 y.f_B 13, o8 y.f_B 14, o8 y.f_B 15])).run Try.prog w = .ok (q_addr_Addr x y) w :=
 (run_equalIn_agg w (d + 2) 31 _ _ (by kernel_rfl) (by kernel_rfl)).trans (EqT.run (tr := [(false, 4, 0), (false, 29, 1)]) (by kernel_rfl) ⟨_, _, _, _, rfl, part_s sc4 rfl, part_s sc4 rfl, run_equalIn_bool' w (d + 1) 4 _ _ Try.underlying4, ⟨_, _, _, _, rfl, part_a (us := arrC 16 .u8 x.f_B) ag29 rfl, part_a (us := arrC 16 .u8 y.f_B) ag29 rfl, eq_arr' Try.underlying29 Try.underlying5 sz5 (d + 0) x.f_B y.f_B w, rfl, rfl⟩, rfl⟩)
theorem Q31t (x y : T_addr_Addr) {xs ys : List Value} (w : World) (hx : xs = [vB x.f_Six, o8 x.f_B 0, o8 x.f_B 1, o8 x.f_B 2, o8 x.f_B 3, o8 x.f_B 4, o8 x.f_B 5, o8 x.f_B 6, o8 x.f_B 7, o8 x.f_B 8, o8 x.f_B 9, o8 x.f_B 10, o8 x.f_B 11, o8 x.f_B 12, o8 x.f_B 13, o8 x.f_B 14, o8 x.f_B 15]) (hy : ys = [vB y.f_Six, o8 y.f_B 0, o8 y.f_B 1, o8 y.f_B 2, o8 y.f_B 3, o8 y.f_B 4, o8 y.f_B 5, o8 y.f_B 6, o8 y.f_B 7, o8 y.f_B 8, o8 y.f_B 9, o8 y.f_B 10, o8 y.f_B 11, o8 y.f_B 12, o8 y.f_B 13, o8 y.f_B 14, o8 y.f_B 15]) : (Op.equalIn 10000 31 (.agg xs.toArray) (.agg ys.toArray)).run Try.prog w = .ok (q_addr_Addr x y) w := by
 subst hx; subst hy; exact Q31 9997 x y w
theorem Q34 (d : Nat) (x y : T_packet_Key) (w : World) : (Op.equalIn (d + 4) 34 (.agg #[vB x.f_Src.f_Six, o8 x.f_Src.f_B 0, o8 x.f_Src.f_B 1, o8 x.f_Src.f_B 2, o8 x.f_Src.f_B 3, o8 x.f_Src.f_B 4, o8 x.f_Src.f_B 5, o8 x.f_Src.f_B 6, o8 x.f_Src.f_B 7, o8 x.f_Src.f_B 8, o8 x.f_Src.f_B 9, o8 x.f_Src.f_B 10, o8 x.f_Src.f_B 11, o8 x.f_Src.f_B 12, o8 x.f_Src.f_B 13, o8 x.f_Src.f_B 14, o8 x.f_Src.f_B 15, vB x.f_Dst.f_Six, o8 x.f_Dst.f_B 0, o8 x.f_Dst.f_B 1, o8 x.f_Dst.f_B 2, o8 x.f_Dst.f_B 3, o8 x.f_Dst.f_B 4, o8 x.f_Dst.f_B 5, o8 x.f_Dst.f_B 6, o8 x.f_Dst.f_B 7, o8 x.f_Dst.f_B 8, o8 x.f_Dst.f_B 9, o8 x.f_Dst.f_B 10, o8 x.f_Dst.f_B 11, o8 x.f_Dst.f_B 12, o8 x.f_Dst.f_B 13, o8 x.f_Dst.f_B 14, o8 x.f_Dst.f_B 15, v8 x.f_Proto, v16 x.f_SrcPort, v16 x.f_DstPort]) (.agg #[vB y.f_Src.f_Six, o8 y.f_Src.f_B 0, o8 y.f_Src.f_B 1, o8 y.f_Src.f_B 2, o8 y.f_Src.f_B 3, o8 y.f_Src.f_B 4, o8 y.f_Src.f_B 5, o8 y.f_Src.f_B 6, o8 y.f_Src.f_B 7, o8 y.f_Src.f_B 8, o8 y.f_Src.f_B 9, o8 y.f_Src.f_B 10, o8 y.f_Src.f_B 11, o8 y.f_Src.f_B 12, o8 y.f_Src.f_B 13, o8 y.f_Src.f_B 14, o8 y.f_Src.f_B 15, vB y.f_Dst.f_Six, o8 y.f_Dst.f_B 0, o8 y.f_Dst.f_B 1, o8 y.f_Dst.f_B 2, o8 y.f_Dst.f_B 3, o8 y.f_Dst.f_B 4, o8 y.f_Dst.f_B 5, o8 y.f_Dst.f_B 6, o8 y.f_Dst.f_B 7, o8 y.f_Dst.f_B 8, o8 y.f_Dst.f_B 9, o8 y.f_Dst.f_B 10, o8 y.f_Dst.f_B 11, o8 y.f_Dst.f_B 12, o8 y.f_Dst.f_B 13, o8 y.f_Dst.f_B 14, o8 y.f_Dst.f_B 15, v8 y.f_Proto, v16 y.f_SrcPort, v16 y.f_DstPort])).run Try.prog w = .ok (q_packet_Key x y) w :=
 (run_equalIn_agg w (d + 3) 34 _ _ (by kernel_rfl) (by kernel_rfl)).trans (EqT.run (tr := [(false, 31, 0), (false, 31, 17), (false, 5, 34), (false, 32, 35), (false, 32, 36)]) (by kernel_rfl) ⟨_, _, _, _, rfl, part_a (us := [vB x.f_Src.f_Six, o8 x.f_Src.f_B 0, o8 x.f_Src.f_B 1, o8 x.f_Src.f_B 2, o8 x.f_Src.f_B 3, o8 x.f_Src.f_B 4, o8 x.f_Src.f_B 5, o8 x.f_Src.f_B 6, o8 x.f_Src.f_B 7, o8 x.f_Src.f_B 8, o8 x.f_Src.f_B 9, o8 x.f_Src.f_B 10, o8 x.f_Src.f_B 11, o8 x.f_Src.f_B 12, o8 x.f_Src.f_B 13, o8 x.f_Src.f_B 14, o8 x.f_Src.f_B 15]) ag31 rfl, part_a (us := [vB y.f_Src.f_Six, o8 y.f_Src.f_B 0, o8 y.f_Src.f_B 1, o8 y.f_Src.f_B 2, o8 y.f_Src.f_B 3, o8 y.f_Src.f_B 4, o8 y.f_Src.f_B 5, o8 y.f_Src.f_B 6, o8 y.f_Src.f_B 7, o8 y.f_Src.f_B 8, o8 y.f_Src.f_B 9, o8 y.f_Src.f_B 10, o8 y.f_Src.f_B 11, o8 y.f_Src.f_B 12, o8 y.f_Src.f_B 13, o8 y.f_Src.f_B 14, o8 y.f_Src.f_B 15]) ag31 rfl, Q31 (d + 0) x.f_Src y.f_Src w, ⟨_, _, _, _, rfl, part_a (us := [vB x.f_Dst.f_Six, o8 x.f_Dst.f_B 0, o8 x.f_Dst.f_B 1, o8 x.f_Dst.f_B 2, o8 x.f_Dst.f_B 3, o8 x.f_Dst.f_B 4, o8 x.f_Dst.f_B 5, o8 x.f_Dst.f_B 6, o8 x.f_Dst.f_B 7, o8 x.f_Dst.f_B 8, o8 x.f_Dst.f_B 9, o8 x.f_Dst.f_B 10, o8 x.f_Dst.f_B 11, o8 x.f_Dst.f_B 12, o8 x.f_Dst.f_B 13, o8 x.f_Dst.f_B 14, o8 x.f_Dst.f_B 15]) ag31 rfl, part_a (us := [vB y.f_Dst.f_Six, o8 y.f_Dst.f_B 0, o8 y.f_Dst.f_B 1, o8 y.f_Dst.f_B 2, o8 y.f_Dst.f_B 3, o8 y.f_Dst.f_B 4, o8 y.f_Dst.f_B 5, o8 y.f_Dst.f_B 6, o8 y.f_Dst.f_B 7, o8 y.f_Dst.f_B 8, o8 y.f_Dst.f_B 9, o8 y.f_Dst.f_B 10, o8 y.f_Dst.f_B 11, o8 y.f_Dst.f_B 12, o8 y.f_Dst.f_B 13, o8 y.f_Dst.f_B 14, o8 y.f_Dst.f_B 15]) ag31 rfl, Q31 (d + 0) x.f_Dst y.f_Dst w, ⟨_, _, _, _, rfl, part_s sc5 rfl, part_s sc5 rfl, run_equalIn_int w (d + 2) 5 _ _ _ _ Try.underlying5, ⟨_, _, _, _, rfl, part_s sc32 rfl, part_s sc32 rfl, run_equalIn_int w (d + 2) 32 _ _ _ _ Try.underlying32, ⟨_, _, _, _, rfl, part_s sc32 rfl, part_s sc32 rfl, run_equalIn_int w (d + 2) 32 _ _ _ _ Try.underlying32, rfl, rfl⟩, rfl⟩, rfl⟩, rfl⟩, rfl⟩)
theorem Q34t (x y : T_packet_Key) {xs ys : List Value} (w : World) (hx : xs = [vB x.f_Src.f_Six, o8 x.f_Src.f_B 0, o8 x.f_Src.f_B 1, o8 x.f_Src.f_B 2, o8 x.f_Src.f_B 3, o8 x.f_Src.f_B 4, o8 x.f_Src.f_B 5, o8 x.f_Src.f_B 6, o8 x.f_Src.f_B 7, o8 x.f_Src.f_B 8, o8 x.f_Src.f_B 9, o8 x.f_Src.f_B 10, o8 x.f_Src.f_B 11, o8 x.f_Src.f_B 12, o8 x.f_Src.f_B 13, o8 x.f_Src.f_B 14, o8 x.f_Src.f_B 15, vB x.f_Dst.f_Six, o8 x.f_Dst.f_B 0, o8 x.f_Dst.f_B 1, o8 x.f_Dst.f_B 2, o8 x.f_Dst.f_B 3, o8 x.f_Dst.f_B 4, o8 x.f_Dst.f_B 5, o8 x.f_Dst.f_B 6, o8 x.f_Dst.f_B 7, o8 x.f_Dst.f_B 8, o8 x.f_Dst.f_B 9, o8 x.f_Dst.f_B 10, o8 x.f_Dst.f_B 11, o8 x.f_Dst.f_B 12, o8 x.f_Dst.f_B 13, o8 x.f_Dst.f_B 14, o8 x.f_Dst.f_B 15, v8 x.f_Proto, v16 x.f_SrcPort, v16 x.f_DstPort]) (hy : ys = [vB y.f_Src.f_Six, o8 y.f_Src.f_B 0, o8 y.f_Src.f_B 1, o8 y.f_Src.f_B 2, o8 y.f_Src.f_B 3, o8 y.f_Src.f_B 4, o8 y.f_Src.f_B 5, o8 y.f_Src.f_B 6, o8 y.f_Src.f_B 7, o8 y.f_Src.f_B 8, o8 y.f_Src.f_B 9, o8 y.f_Src.f_B 10, o8 y.f_Src.f_B 11, o8 y.f_Src.f_B 12, o8 y.f_Src.f_B 13, o8 y.f_Src.f_B 14, o8 y.f_Src.f_B 15, vB y.f_Dst.f_Six, o8 y.f_Dst.f_B 0, o8 y.f_Dst.f_B 1, o8 y.f_Dst.f_B 2, o8 y.f_Dst.f_B 3, o8 y.f_Dst.f_B 4, o8 y.f_Dst.f_B 5, o8 y.f_Dst.f_B 6, o8 y.f_Dst.f_B 7, o8 y.f_Dst.f_B 8, o8 y.f_Dst.f_B 9, o8 y.f_Dst.f_B 10, o8 y.f_Dst.f_B 11, o8 y.f_Dst.f_B 12, o8 y.f_Dst.f_B 13, o8 y.f_Dst.f_B 14, o8 y.f_Dst.f_B 15, v8 y.f_Proto, v16 y.f_SrcPort, v16 y.f_DstPort]) : (Op.equalIn 10000 34 (.agg xs.toArray) (.agg ys.toArray)).run Try.prog w = .ok (q_packet_Key x y) w := by
 subst hx; subst hy; exact Q34 9996 x y w
theorem Q37 (d : Nat) (x y : T_flow_Total) (w : World) : (Op.equalIn (d + 2) 37 (.agg #[v64 x.f_Packets, v64 x.f_Bytes]) (.agg #[v64 y.f_Packets, v64 y.f_Bytes])).run Try.prog w = .ok (q_flow_Total x y) w :=
 (run_equalIn_agg w (d + 1) 37 _ _ (by kernel_rfl) (by kernel_rfl)).trans (EqT.run (tr := [(false, 35, 0), (false, 35, 1)]) (by kernel_rfl) ⟨_, _, _, _, rfl, part_s sc35 rfl, part_s sc35 rfl, run_equalIn_int w (d + 0) 35 _ _ _ _ Try.underlying35, ⟨_, _, _, _, rfl, part_s sc35 rfl, part_s sc35 rfl, run_equalIn_int w (d + 0) 35 _ _ _ _ Try.underlying35, rfl, rfl⟩, rfl⟩)
theorem Q37t (x y : T_flow_Total) {xs ys : List Value} (w : World) (hx : xs = [v64 x.f_Packets, v64 x.f_Bytes]) (hy : ys = [v64 y.f_Packets, v64 y.f_Bytes]) : (Op.equalIn 10000 37 (.agg xs.toArray) (.agg ys.toArray)).run Try.prog w = .ok (q_flow_Total x y) w := by
 subst hx; subst hy; exact Q37 9998 x y w
theorem Q54 (d : Nat) (x y : T_model_Parts) (w : World) : (Op.equalIn (d + 3) 54 (.agg #[v64 x.f_Forwarded.f_Packets, v64 x.f_Forwarded.f_Bytes, v64 x.f_Cached.f_Packets, v64 x.f_Cached.f_Bytes, v64 x.f_Volatile.f_Packets, v64 x.f_Volatile.f_Bytes, v64 x.f_Durable.f_Packets, v64 x.f_Durable.f_Bytes, v64 x.f_Lost.f_Packets, v64 x.f_Lost.f_Bytes, v64 x.f_Credited.f_Packets, v64 x.f_Credited.f_Bytes]) (.agg #[v64 y.f_Forwarded.f_Packets, v64 y.f_Forwarded.f_Bytes, v64 y.f_Cached.f_Packets, v64 y.f_Cached.f_Bytes, v64 y.f_Volatile.f_Packets, v64 y.f_Volatile.f_Bytes, v64 y.f_Durable.f_Packets, v64 y.f_Durable.f_Bytes, v64 y.f_Lost.f_Packets, v64 y.f_Lost.f_Bytes, v64 y.f_Credited.f_Packets, v64 y.f_Credited.f_Bytes])).run Try.prog w = .ok (q_model_Parts x y) w :=
 (run_equalIn_agg w (d + 2) 54 _ _ (by kernel_rfl) (by kernel_rfl)).trans (EqT.run (tr := [(false, 37, 0), (false, 37, 2), (false, 37, 4), (false, 37, 6), (false, 37, 8), (false, 37, 10)]) (by kernel_rfl) ⟨_, _, _, _, rfl, part_a (us := [v64 x.f_Forwarded.f_Packets, v64 x.f_Forwarded.f_Bytes]) ag37 rfl, part_a (us := [v64 y.f_Forwarded.f_Packets, v64 y.f_Forwarded.f_Bytes]) ag37 rfl, Q37 (d + 0) x.f_Forwarded y.f_Forwarded w, ⟨_, _, _, _, rfl, part_a (us := [v64 x.f_Cached.f_Packets, v64 x.f_Cached.f_Bytes]) ag37 rfl, part_a (us := [v64 y.f_Cached.f_Packets, v64 y.f_Cached.f_Bytes]) ag37 rfl, Q37 (d + 0) x.f_Cached y.f_Cached w, ⟨_, _, _, _, rfl, part_a (us := [v64 x.f_Volatile.f_Packets, v64 x.f_Volatile.f_Bytes]) ag37 rfl, part_a (us := [v64 y.f_Volatile.f_Packets, v64 y.f_Volatile.f_Bytes]) ag37 rfl, Q37 (d + 0) x.f_Volatile y.f_Volatile w, ⟨_, _, _, _, rfl, part_a (us := [v64 x.f_Durable.f_Packets, v64 x.f_Durable.f_Bytes]) ag37 rfl, part_a (us := [v64 y.f_Durable.f_Packets, v64 y.f_Durable.f_Bytes]) ag37 rfl, Q37 (d + 0) x.f_Durable y.f_Durable w, ⟨_, _, _, _, rfl, part_a (us := [v64 x.f_Lost.f_Packets, v64 x.f_Lost.f_Bytes]) ag37 rfl, part_a (us := [v64 y.f_Lost.f_Packets, v64 y.f_Lost.f_Bytes]) ag37 rfl, Q37 (d + 0) x.f_Lost y.f_Lost w, ⟨_, _, _, _, rfl, part_a (us := [v64 x.f_Credited.f_Packets, v64 x.f_Credited.f_Bytes]) ag37 rfl, part_a (us := [v64 y.f_Credited.f_Packets, v64 y.f_Credited.f_Bytes]) ag37 rfl, Q37 (d + 0) x.f_Credited y.f_Credited w, rfl, rfl⟩, rfl⟩, rfl⟩, rfl⟩, rfl⟩, rfl⟩)
theorem Q54t (x y : T_model_Parts) {xs ys : List Value} (w : World) (hx : xs = [v64 x.f_Forwarded.f_Packets, v64 x.f_Forwarded.f_Bytes, v64 x.f_Cached.f_Packets, v64 x.f_Cached.f_Bytes, v64 x.f_Volatile.f_Packets, v64 x.f_Volatile.f_Bytes, v64 x.f_Durable.f_Packets, v64 x.f_Durable.f_Bytes, v64 x.f_Lost.f_Packets, v64 x.f_Lost.f_Bytes, v64 x.f_Credited.f_Packets, v64 x.f_Credited.f_Bytes]) (hy : ys = [v64 y.f_Forwarded.f_Packets, v64 y.f_Forwarded.f_Bytes, v64 y.f_Cached.f_Packets, v64 y.f_Cached.f_Bytes, v64 y.f_Volatile.f_Packets, v64 y.f_Volatile.f_Bytes, v64 y.f_Durable.f_Packets, v64 y.f_Durable.f_Bytes, v64 y.f_Lost.f_Packets, v64 y.f_Lost.f_Bytes, v64 y.f_Credited.f_Packets, v64 y.f_Credited.f_Bytes]) : (Op.equalIn 10000 54 (.agg xs.toArray) (.agg ys.toArray)).run Try.prog w = .ok (q_model_Parts x y) w := by
 subst hx; subst hy; exact Q54 9997 x y w
def R_model_Note (S : List (Option Nat)) (w : World) (x : T_model_Note) (cs : List Value) : Prop := ∃ (A0 : Option Addr) (c0 : Nat), cs = [vI x.f_Kind, vB x.f_Key.f_Src.f_Six, o8 x.f_Key.f_Src.f_B 0, o8 x.f_Key.f_Src.f_B 1, o8 x.f_Key.f_Src.f_B 2, o8 x.f_Key.f_Src.f_B 3, o8 x.f_Key.f_Src.f_B 4, o8 x.f_Key.f_Src.f_B 5, o8 x.f_Key.f_Src.f_B 6, o8 x.f_Key.f_Src.f_B 7, o8 x.f_Key.f_Src.f_B 8, o8 x.f_Key.f_Src.f_B 9, o8 x.f_Key.f_Src.f_B 10, o8 x.f_Key.f_Src.f_B 11, o8 x.f_Key.f_Src.f_B 12, o8 x.f_Key.f_Src.f_B 13, o8 x.f_Key.f_Src.f_B 14, o8 x.f_Key.f_Src.f_B 15, vB x.f_Key.f_Dst.f_Six, o8 x.f_Key.f_Dst.f_B 0, o8 x.f_Key.f_Dst.f_B 1, o8 x.f_Key.f_Dst.f_B 2, o8 x.f_Key.f_Dst.f_B 3, o8 x.f_Key.f_Dst.f_B 4, o8 x.f_Key.f_Dst.f_B 5, o8 x.f_Key.f_Dst.f_B 6, o8 x.f_Key.f_Dst.f_B 7, o8 x.f_Key.f_Dst.f_B 8, o8 x.f_Key.f_Dst.f_B 9, o8 x.f_Key.f_Dst.f_B 10, o8 x.f_Key.f_Dst.f_B 11, o8 x.f_Key.f_Dst.f_B 12, o8 x.f_Key.f_Dst.f_B 13, o8 x.f_Key.f_Dst.f_B 14, o8 x.f_Key.f_Dst.f_B 15, v8 x.f_Key.f_Proto, v16 x.f_Key.f_SrcPort, v16 x.f_Key.f_DstPort, v64 x.f_Total.f_Packets, v64 x.f_Total.f_Bytes, .slice A0 (x.f_Records).length c0, v32 x.f_Epoch, v64 x.f_N, v64 x.f_First, v64 x.f_Next] ∧ Rd w A0 c0 44 x.f_Records.length (x.f_Records.flatMap e_flow_Record) ∧ Off S x.f_Records.length A0
theorem len_model_Note {S : List (Option Nat)} {w : World} : ∀ x cs, R_model_Note S w x cs → cs.length = 45 := fun x cs h => by
 obtain ⟨A0, c0, rfl, _⟩ := h
 rfl
theorem un_model_Note {S : List (Option Nat)} {w : World} {x : T_model_Note} {A0 : Option Addr} {c0 : Nat} (h : R_model_Note S w x [vI x.f_Kind, vB x.f_Key.f_Src.f_Six, o8 x.f_Key.f_Src.f_B 0, o8 x.f_Key.f_Src.f_B 1, o8 x.f_Key.f_Src.f_B 2, o8 x.f_Key.f_Src.f_B 3, o8 x.f_Key.f_Src.f_B 4, o8 x.f_Key.f_Src.f_B 5, o8 x.f_Key.f_Src.f_B 6, o8 x.f_Key.f_Src.f_B 7, o8 x.f_Key.f_Src.f_B 8, o8 x.f_Key.f_Src.f_B 9, o8 x.f_Key.f_Src.f_B 10, o8 x.f_Key.f_Src.f_B 11, o8 x.f_Key.f_Src.f_B 12, o8 x.f_Key.f_Src.f_B 13, o8 x.f_Key.f_Src.f_B 14, o8 x.f_Key.f_Src.f_B 15, vB x.f_Key.f_Dst.f_Six, o8 x.f_Key.f_Dst.f_B 0, o8 x.f_Key.f_Dst.f_B 1, o8 x.f_Key.f_Dst.f_B 2, o8 x.f_Key.f_Dst.f_B 3, o8 x.f_Key.f_Dst.f_B 4, o8 x.f_Key.f_Dst.f_B 5, o8 x.f_Key.f_Dst.f_B 6, o8 x.f_Key.f_Dst.f_B 7, o8 x.f_Key.f_Dst.f_B 8, o8 x.f_Key.f_Dst.f_B 9, o8 x.f_Key.f_Dst.f_B 10, o8 x.f_Key.f_Dst.f_B 11, o8 x.f_Key.f_Dst.f_B 12, o8 x.f_Key.f_Dst.f_B 13, o8 x.f_Key.f_Dst.f_B 14, o8 x.f_Key.f_Dst.f_B 15, v8 x.f_Key.f_Proto, v16 x.f_Key.f_SrcPort, v16 x.f_Key.f_DstPort, v64 x.f_Total.f_Packets, v64 x.f_Total.f_Bytes, .slice A0 (x.f_Records).length c0, v32 x.f_Epoch, v64 x.f_N, v64 x.f_First, v64 x.f_Next]) : Rd w A0 c0 44 x.f_Records.length (x.f_Records.flatMap e_flow_Record) ∧ Off S x.f_Records.length A0 := by
 obtain ⟨A0', c0', h, h0, o0⟩ := h
 cases h
 exact ⟨h0, o0⟩
def RO_model_Note (x : T_model_Note) (cs : List Value) (os : List Ob) : Prop := ∃ (A0 : Option Addr) (c0 : Nat), cs = [vI x.f_Kind, vB x.f_Key.f_Src.f_Six, o8 x.f_Key.f_Src.f_B 0, o8 x.f_Key.f_Src.f_B 1, o8 x.f_Key.f_Src.f_B 2, o8 x.f_Key.f_Src.f_B 3, o8 x.f_Key.f_Src.f_B 4, o8 x.f_Key.f_Src.f_B 5, o8 x.f_Key.f_Src.f_B 6, o8 x.f_Key.f_Src.f_B 7, o8 x.f_Key.f_Src.f_B 8, o8 x.f_Key.f_Src.f_B 9, o8 x.f_Key.f_Src.f_B 10, o8 x.f_Key.f_Src.f_B 11, o8 x.f_Key.f_Src.f_B 12, o8 x.f_Key.f_Src.f_B 13, o8 x.f_Key.f_Src.f_B 14, o8 x.f_Key.f_Src.f_B 15, vB x.f_Key.f_Dst.f_Six, o8 x.f_Key.f_Dst.f_B 0, o8 x.f_Key.f_Dst.f_B 1, o8 x.f_Key.f_Dst.f_B 2, o8 x.f_Key.f_Dst.f_B 3, o8 x.f_Key.f_Dst.f_B 4, o8 x.f_Key.f_Dst.f_B 5, o8 x.f_Key.f_Dst.f_B 6, o8 x.f_Key.f_Dst.f_B 7, o8 x.f_Key.f_Dst.f_B 8, o8 x.f_Key.f_Dst.f_B 9, o8 x.f_Key.f_Dst.f_B 10, o8 x.f_Key.f_Dst.f_B 11, o8 x.f_Key.f_Dst.f_B 12, o8 x.f_Key.f_Dst.f_B 13, o8 x.f_Key.f_Dst.f_B 14, o8 x.f_Key.f_Dst.f_B 15, v8 x.f_Key.f_Proto, v16 x.f_Key.f_SrcPort, v16 x.f_Key.f_DstPort, v64 x.f_Total.f_Packets, v64 x.f_Total.f_Bytes, .slice A0 (x.f_Records).length c0, v32 x.f_Epoch, v64 x.f_N, v64 x.f_First, v64 x.f_Next] ∧ os = [.row A0 c0 50 44 x.f_Records.length (x.f_Records.flatMap e_flow_Record)]
theorem uo_model_Note : Un R_model_Note RO_model_Note := fun S w x cs os h hk => by
 obtain ⟨A0, c0, rfl, rfl⟩ := h
 exact ⟨A0, c0, rfl, Ob.rd (hk 0 _ rfl).1, Off.ofOb (hk 0 _ rfl)⟩
theorem io_model_Note {x : T_model_Note} {A0 : Option Addr} {c0 : Nat} {o : List Ob} (h : RO_model_Note x [vI x.f_Kind, vB x.f_Key.f_Src.f_Six, o8 x.f_Key.f_Src.f_B 0, o8 x.f_Key.f_Src.f_B 1, o8 x.f_Key.f_Src.f_B 2, o8 x.f_Key.f_Src.f_B 3, o8 x.f_Key.f_Src.f_B 4, o8 x.f_Key.f_Src.f_B 5, o8 x.f_Key.f_Src.f_B 6, o8 x.f_Key.f_Src.f_B 7, o8 x.f_Key.f_Src.f_B 8, o8 x.f_Key.f_Src.f_B 9, o8 x.f_Key.f_Src.f_B 10, o8 x.f_Key.f_Src.f_B 11, o8 x.f_Key.f_Src.f_B 12, o8 x.f_Key.f_Src.f_B 13, o8 x.f_Key.f_Src.f_B 14, o8 x.f_Key.f_Src.f_B 15, vB x.f_Key.f_Dst.f_Six, o8 x.f_Key.f_Dst.f_B 0, o8 x.f_Key.f_Dst.f_B 1, o8 x.f_Key.f_Dst.f_B 2, o8 x.f_Key.f_Dst.f_B 3, o8 x.f_Key.f_Dst.f_B 4, o8 x.f_Key.f_Dst.f_B 5, o8 x.f_Key.f_Dst.f_B 6, o8 x.f_Key.f_Dst.f_B 7, o8 x.f_Key.f_Dst.f_B 8, o8 x.f_Key.f_Dst.f_B 9, o8 x.f_Key.f_Dst.f_B 10, o8 x.f_Key.f_Dst.f_B 11, o8 x.f_Key.f_Dst.f_B 12, o8 x.f_Key.f_Dst.f_B 13, o8 x.f_Key.f_Dst.f_B 14, o8 x.f_Key.f_Dst.f_B 15, v8 x.f_Key.f_Proto, v16 x.f_Key.f_SrcPort, v16 x.f_Key.f_DstPort, v64 x.f_Total.f_Packets, v64 x.f_Total.f_Bytes, .slice A0 (x.f_Records).length c0, v32 x.f_Epoch, v64 x.f_N, v64 x.f_First, v64 x.f_Next] o) : o = [.row A0 c0 50 44 x.f_Records.length (x.f_Records.flatMap e_flow_Record)] := by
 obtain ⟨A0', c0', h, h2⟩ := h
 cases h
 exact h2
theorem mv_model_Note : Mv R_model_Note := fun S S' w w' x cs h hf ho => by
 obtain ⟨A0, c0, rfl, h0, o0⟩ := h
 exact ⟨A0, c0, rfl, h0.chg hf o0, ho _ _ _ _ _ h0 o0⟩
def R_model_Entry (S : List (Option Nat)) (w : World) (x : T_model_Entry) (cs : List Value) : Prop := ∃ (A0 : Option Addr) (c0 : Nat), cs = [v32 x.f_Epoch, v64 x.f_N, .slice A0 (x.f_Records).length c0, vB x.f_There, vB x.f_Synced, vB x.f_Credited] ∧ Rd w A0 c0 44 x.f_Records.length (x.f_Records.flatMap e_flow_Record) ∧ Off S x.f_Records.length A0
theorem len_model_Entry {S : List (Option Nat)} {w : World} : ∀ x cs, R_model_Entry S w x cs → cs.length = 6 := fun x cs h => by
 obtain ⟨A0, c0, rfl, _⟩ := h
 rfl
theorem un_model_Entry {S : List (Option Nat)} {w : World} {x : T_model_Entry} {A0 : Option Addr} {c0 : Nat} (h : R_model_Entry S w x [v32 x.f_Epoch, v64 x.f_N, .slice A0 (x.f_Records).length c0, vB x.f_There, vB x.f_Synced, vB x.f_Credited]) : Rd w A0 c0 44 x.f_Records.length (x.f_Records.flatMap e_flow_Record) ∧ Off S x.f_Records.length A0 := by
 obtain ⟨A0', c0', h, h0, o0⟩ := h
 cases h
 exact ⟨h0, o0⟩
def RO_model_Entry (x : T_model_Entry) (cs : List Value) (os : List Ob) : Prop := ∃ (A0 : Option Addr) (c0 : Nat), cs = [v32 x.f_Epoch, v64 x.f_N, .slice A0 (x.f_Records).length c0, vB x.f_There, vB x.f_Synced, vB x.f_Credited] ∧ os = [.row A0 c0 50 44 x.f_Records.length (x.f_Records.flatMap e_flow_Record)]
theorem uo_model_Entry : Un R_model_Entry RO_model_Entry := fun S w x cs os h hk => by
 obtain ⟨A0, c0, rfl, rfl⟩ := h
 exact ⟨A0, c0, rfl, Ob.rd (hk 0 _ rfl).1, Off.ofOb (hk 0 _ rfl)⟩
theorem io_model_Entry {x : T_model_Entry} {A0 : Option Addr} {c0 : Nat} {o : List Ob} (h : RO_model_Entry x [v32 x.f_Epoch, v64 x.f_N, .slice A0 (x.f_Records).length c0, vB x.f_There, vB x.f_Synced, vB x.f_Credited] o) : o = [.row A0 c0 50 44 x.f_Records.length (x.f_Records.flatMap e_flow_Record)] := by
 obtain ⟨A0', c0', h, h2⟩ := h
 cases h
 exact h2
theorem mv_model_Entry : Mv R_model_Entry := fun S S' w w' x cs h hf ho => by
 obtain ⟨A0, c0, rfl, h0, o0⟩ := h
 exact ⟨A0, c0, rfl, h0.chg hf o0, ho _ _ _ _ _ h0 o0⟩
theorem mt62 : MapT Try.prog 62 34 37 e_packet_Key e_flow_Total q_packet_Key := ⟨Try.underlying62, ⟨_, Try.underlying34⟩, fun e k w => by kernel_rfl, fun x y w => Q34t x y w rfl rfl, fun x y h => by
 simp [q_packet_Key, q_addr_Addr, q_addr_Addr, arrEq, List.range, List.range.loop] at h
 simp [e_packet_Key, h], fun x => by simp [q_packet_Key, q_addr_Addr, q_addr_Addr, arrEq], fun x => by
 show Instr.sameBits (9998 + 1 + 1) _ _ = true
 simp [Instr.sameBits, e_packet_Key]⟩
abbrev MR62 (g : Nat) (m : FM62) : World → Prop := MapR e_packet_Key e_flow_Total q_packet_Key g m
abbrev ME62 (g : Nat) (E : List (T_packet_Key × T_flow_Total × Nat)) (ck : Nat) (m : FM62) : World → Prop := MapE e_packet_Key e_flow_Total q_packet_Key g E ck m
theorem add_inv {m : FM62} {k : T_packet_Key} {x : T_flow_Total} {y : FM62} (h : F_model_totals_add m k x = some y) : y = mput q_packet_Key m k (plusT ((m k).getD (T_flow_Total.mk 0 0)) x) := by
 unfold F_model_totals_add at h
 obtain ⟨z, hz, h⟩ := obind h
 have hz : F_flow_Total_Plus ((m k).getD (T_flow_Total.mk 0 0)) x = some z := hz
 unfold plusT
 rw [hz]
 exact (Option.some.inj h).symm
end Go.Proofs.Ytidbgejnkpoeeaa
