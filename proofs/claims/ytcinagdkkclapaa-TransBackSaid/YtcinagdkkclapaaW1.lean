/- Printed by a program of this claim: each call returns what the plain function of its name gives. -/
import Derived.Test.YtcinagdkkclapaaRows
import Derived.Test.YtcinagdkkclapaaF
set_option linter.unusedVariables false
namespace Go.Proofs.Ytcinagdkkclapaa
open Go Go.Ox Go.RowKit
theorem ag26 : isAggT Try.prog 26 12 = true := by kernel_rfl
theorem fl26_8 : FieldT Try.prog 26 8 8 24 1 := ⟨by kernel_rfl, by kernel_rfl⟩
theorem sc24 : isScalar Try.prog 24 = true := by kernel_rfl
theorem sl24 : SliceT Try.prog 24 5 1 1 := ⟨Try.underlying24, by kernel_rfl⟩
theorem fl26_11 : FieldT Try.prog 26 11 11 24 1 := ⟨by kernel_rfl, by kernel_rfl⟩
theorem bd7 : (!(Try.f7.name == "runtime.NumGoroutine") && !Try.f7.body.isNone) = true := by kernel_rfl
theorem ze5 : ZeroT Try.prog 5 [v8 0] := by unfold ZeroT; kernel_rfl
theorem bt26 : BuildT Try.prog 26 [(0, 1), (1, 1), (2, 1), (3, 1), (4, 1), (5, 1), (6, 1), (7, 1), (8, 1), (9, 1), (10, 1), (11, 1)] [v8 0, v16 0, v16 0, v32 0, v32 0, v8 0, v16 0, v16 0, .slice none 0 0, v8 0, v8 0, .slice none 0 0] := ⟨by kernel_rfl, by unfold ZeroT; kernel_rfl⟩
theorem fl26_0 : FieldT Try.prog 26 0 0 5 1 := ⟨by kernel_rfl, by kernel_rfl⟩
theorem sc5 : isScalar Try.prog 5 = true := by kernel_rfl
theorem bt62 : BuildT Try.prog 62 [(0, 1), (1, 1), (2, 1), (3, 1), (4, 1)] [vI 0, vI 0, Value.nilFunc, Value.nilFunc, Value.nilFunc] := ⟨by kernel_rfl, by unfold ZeroT; kernel_rfl⟩
theorem ze62 : ZeroT Try.prog 62 [vI 0, vI 0, Value.nilFunc, Value.nilFunc, Value.nilFunc] := by unfold ZeroT; kernel_rfl
theorem ag62 : isAggT Try.prog 62 5 = true := by kernel_rfl
theorem sz62 : sizeT Try.prog 62 5 = true := by kernel_rfl
theorem bd30 : (!(Try.f30.name == "runtime.NumGoroutine") && !Try.f30.body.isNone) = true := by kernel_rfl
theorem fl62_2 : FieldT Try.prog 62 2 2 58 1 := ⟨by kernel_rfl, by kernel_rfl⟩
theorem sc58 : isScalar Try.prog 58 = true := by kernel_rfl
theorem bd49 : (!(Try.f49.name == "runtime.NumGoroutine") && !Try.f49.body.isNone) = true := by kernel_rfl
theorem ze26 : ZeroT Try.prog 26 [v8 0, v16 0, v16 0, v32 0, v32 0, v8 0, v16 0, v16 0, .slice none 0 0, v8 0, v8 0, .slice none 0 0] := by unfold ZeroT; kernel_rfl
theorem fl26_9 : FieldT Try.prog 26 9 9 5 1 := ⟨by kernel_rfl, by kernel_rfl⟩
theorem fl26_10 : FieldT Try.prog 26 10 10 5 1 := ⟨by kernel_rfl, by kernel_rfl⟩
theorem sz24 : sizeT Try.prog 24 1 = true := by kernel_rfl
theorem sz5 : sizeT Try.prog 5 1 = true := by kernel_rfl
theorem moP : Try.prog.follows .mixedOrders = true := by kernel_rfl
theorem fl26_1 : FieldT Try.prog 26 1 1 22 1 := ⟨by kernel_rfl, by kernel_rfl⟩
theorem sc22 : isScalar Try.prog 22 = true := by kernel_rfl
theorem fl26_2 : FieldT Try.prog 26 2 2 22 1 := ⟨by kernel_rfl, by kernel_rfl⟩
theorem fl26_3 : FieldT Try.prog 26 3 3 23 1 := ⟨by kernel_rfl, by kernel_rfl⟩
theorem sc23 : isScalar Try.prog 23 = true := by kernel_rfl
theorem fl26_4 : FieldT Try.prog 26 4 4 23 1 := ⟨by kernel_rfl, by kernel_rfl⟩
theorem fl26_5 : FieldT Try.prog 26 5 5 5 1 := ⟨by kernel_rfl, by kernel_rfl⟩
theorem fl26_6 : FieldT Try.prog 26 6 6 22 1 := ⟨by kernel_rfl, by kernel_rfl⟩
theorem fl26_7 : FieldT Try.prog 26 7 7 22 1 := ⟨by kernel_rfl, by kernel_rfl⟩
theorem bd37 : (!(Try.f37.name == "runtime.NumGoroutine") && !Try.f37.body.isNone) = true := by kernel_rfl
theorem bd15 : (!(Try.f15.name == "runtime.NumGoroutine") && !Try.f15.body.isNone) = true := by kernel_rfl
theorem bd32 : (!(Try.f32.name == "runtime.NumGoroutine") && !Try.f32.body.isNone) = true := by kernel_rfl
theorem fl62_0 : FieldT Try.prog 62 0 0 3 1 := ⟨by kernel_rfl, by kernel_rfl⟩
theorem sc3 : isScalar Try.prog 3 = true := by kernel_rfl
theorem sz26 : sizeT Try.prog 26 12 = true := by kernel_rfl
theorem bd52 : (!(Try.f52.name == "runtime.NumGoroutine") && !Try.f52.body.isNone) = true := by kernel_rfl
theorem bd46 : (!(Try.f46.name == "runtime.NumGoroutine") && !Try.f46.body.isNone) = true := by kernel_rfl
theorem bd13 : (!(Try.f13.name == "runtime.NumGoroutine") && !Try.f13.body.isNone) = true := by kernel_rfl
theorem ze70 : ZeroT Try.prog 70 [.slice none 0 0] := by unfold ZeroT; kernel_rfl
theorem sl88 : SliceT Try.prog 88 24 1 24 := ⟨Try.underlying88, by kernel_rfl⟩
theorem ze24 : ZeroT Try.prog 24 [.slice none 0 0] := by unfold ZeroT; kernel_rfl
theorem bd71 : (!(Try.f71.name == "runtime.NumGoroutine") && !Try.f71.body.isNone) = true := by kernel_rfl
theorem bd55 : (!(Try.f55.name == "runtime.NumGoroutine") && !Try.f55.body.isNone) = true := by kernel_rfl
theorem fl70_0 : FieldT Try.prog 70 0 0 24 1 := ⟨by kernel_rfl, by kernel_rfl⟩
theorem bd33 : (!(Try.f33.name == "runtime.NumGoroutine") && !Try.f33.body.isNone) = true := by kernel_rfl
theorem un5 : (Try.prog.underlying 5).isSome = true := by kernel_rfl
theorem sl101 : SliceT Try.prog 101 76 1 8 := ⟨Try.underlying101, by kernel_rfl⟩
theorem ze76 : ZeroT Try.prog 76 [v64 0] := by unfold ZeroT; kernel_rfl
theorem sc76 : isScalar Try.prog 76 = true := by kernel_rfl
theorem bd73 : (!(Try.f73.name == "runtime.NumGoroutine") && !Try.f73.body.isNone) = true := by kernel_rfl
theorem bd74 : (!(Try.f74.name == "runtime.NumGoroutine") && !Try.f74.body.isNone) = true := by kernel_rfl
theorem bd62 : (!(Try.f62.name == "runtime.NumGoroutine") && !Try.f62.body.isNone) = true := by kernel_rfl
theorem un76 : (Try.prog.underlying 76).isSome = true := by kernel_rfl
theorem bd63 : (!(Try.f63.name == "runtime.NumGoroutine") && !Try.f63.body.isNone) = true := by kernel_rfl
theorem bd57 : (!(Try.f57.name == "runtime.NumGoroutine") && !Try.f57.body.isNone) = true := by kernel_rfl
theorem bd56 : (!(Try.f56.name == "runtime.NumGoroutine") && !Try.f56.body.isNone) = true := by kernel_rfl
theorem un3 : (Try.prog.underlying 3).isSome = true := by kernel_rfl
theorem bd61 : (!(Try.f61.name == "runtime.NumGoroutine") && !Try.f61.body.isNone) = true := by kernel_rfl
theorem bd35 : (!(Try.f35.name == "runtime.NumGoroutine") && !Try.f35.body.isNone) = true := by kernel_rfl
theorem bd31 : (!(Try.f31.name == "runtime.NumGoroutine") && !Try.f31.body.isNone) = true := by kernel_rfl
theorem fl62_3 : FieldT Try.prog 62 3 3 59 1 := ⟨by kernel_rfl, by kernel_rfl⟩
theorem sc59 : isScalar Try.prog 59 = true := by kernel_rfl
theorem un22 : (Try.prog.underlying 22).isSome = true := by kernel_rfl
theorem un23 : (Try.prog.underlying 23).isSome = true := by kernel_rfl
theorem bd50 : (!(Try.f50.name == "runtime.NumGoroutine") && !Try.f50.body.isNone) = true := by kernel_rfl
theorem ze90 : ZeroT Try.prog 90 [v64 0, vI 0] := by unfold ZeroT; kernel_rfl
theorem fl90_1 : FieldT Try.prog 90 1 1 3 1 := ⟨by kernel_rfl, by kernel_rfl⟩
theorem fl90_0 : FieldT Try.prog 90 0 0 76 1 := ⟨by kernel_rfl, by kernel_rfl⟩
theorem bd72 : (!(Try.f72.name == "runtime.NumGoroutine") && !Try.f72.body.isNone) = true := by kernel_rfl
theorem sz3 : sizeT Try.prog 3 1 = true := by kernel_rfl
theorem sz76 : sizeT Try.prog 76 1 = true := by kernel_rfl
theorem bd59 : (!(Try.f59.name == "runtime.NumGoroutine") && !Try.f59.body.isNone) = true := by kernel_rfl
theorem bd58 : (!(Try.f58.name == "runtime.NumGoroutine") && !Try.f58.body.isNone) = true := by kernel_rfl
theorem bd60 : (!(Try.f60.name == "runtime.NumGoroutine") && !Try.f60.body.isNone) = true := by kernel_rfl
theorem bd34 : (!(Try.f34.name == "runtime.NumGoroutine") && !Try.f34.body.isNone) = true := by kernel_rfl
theorem fl62_1 : FieldT Try.prog 62 1 1 3 1 := ⟨by kernel_rfl, by kernel_rfl⟩
theorem bd36 : (!(Try.f36.name == "runtime.NumGoroutine") && !Try.f36.body.isNone) = true := by kernel_rfl
theorem bd53 : (!(Try.f53.name == "runtime.NumGoroutine") && !Try.f53.body.isNone) = true := by kernel_rfl
theorem bd47 : (!(Try.f47.name == "runtime.NumGoroutine") && !Try.f47.body.isNone) = true := by kernel_rfl
theorem bd11 : (!(Try.f11.name == "runtime.NumGoroutine") && !Try.f11.body.isNone) = true := by kernel_rfl
theorem fl62_4 : FieldT Try.prog 62 4 4 60 1 := ⟨by kernel_rfl, by kernel_rfl⟩
theorem sc60 : isScalar Try.prog 60 = true := by kernel_rfl
theorem bt100 : BuildT Try.prog 100 [(0, 1), (1, 1)] [.slice none 0 0, vI 0] := ⟨by kernel_rfl, by unfold ZeroT; kernel_rfl⟩
theorem bd39 : (!(Try.f39.name == "runtime.NumGoroutine") && !Try.f39.body.isNone) = true := by kernel_rfl
theorem fl100_0 : FieldT Try.prog 100 0 0 24 1 := ⟨by kernel_rfl, by kernel_rfl⟩
theorem fl100_1 : FieldT Try.prog 100 1 1 3 1 := ⟨by kernel_rfl, by kernel_rfl⟩
theorem bd78 : (!(Try.f78.name == "runtime.NumGoroutine") && !Try.f78.body.isNone) = true := by kernel_rfl
theorem bd77 : (!(Try.f77.name == "runtime.NumGoroutine") && !Try.f77.body.isNone) = true := by kernel_rfl
theorem bd75 : (!(Try.f75.name == "runtime.NumGoroutine") && !Try.f75.body.isNone) = true := by kernel_rfl
theorem bd68 : (!(Try.f68.name == "runtime.NumGoroutine") && !Try.f68.body.isNone) = true := by kernel_rfl
theorem bd76 : (!(Try.f76.name == "runtime.NumGoroutine") && !Try.f76.body.isNone) = true := by kernel_rfl
theorem bd70 : (!(Try.f70.name == "runtime.NumGoroutine") && !Try.f70.body.isNone) = true := by kernel_rfl
theorem bd69 : (!(Try.f69.name == "runtime.NumGoroutine") && !Try.f69.body.isNone) = true := by kernel_rfl
theorem sz22 : sizeT Try.prog 22 1 = true := by kernel_rfl
theorem sz23 : sizeT Try.prog 23 1 = true := by kernel_rfl
theorem bd51 : (!(Try.f51.name == "runtime.NumGoroutine") && !Try.f51.body.isNone) = true := by kernel_rfl
theorem bd54 : (!(Try.f54.name == "runtime.NumGoroutine") && !Try.f54.body.isNone) = true := by kernel_rfl
theorem bd48 : (!(Try.f48.name == "runtime.NumGoroutine") && !Try.f48.body.isNone) = true := by kernel_rfl
theorem bd19 : (!(Try.f19.name == "runtime.NumGoroutine") && !Try.f19.body.isNone) = true := by kernel_rfl
theorem bd12 : (!(Try.f12.name == "runtime.NumGoroutine") && !Try.f12.body.isNone) = true := by kernel_rfl
theorem un21 : (Try.prog.underlying 21).isSome = true := by kernel_rfl
theorem bd16 : (!(Try.f16.name == "runtime.NumGoroutine") && !Try.f16.body.isNone) = true := by kernel_rfl
theorem bd8 : (!(Try.f8.name == "runtime.NumGoroutine") && !Try.f8.body.isNone) = true := by kernel_rfl
theorem ze30 : ZeroT Try.prog 30 [v8 0, v16 0, v16 0, v32 0, v32 0, v8 0, v16 0, v16 0, Value.string ByteArray.empty, v8 0, v8 0, Value.string ByteArray.empty] := by unfold ZeroT; kernel_rfl
theorem bt30 : BuildT Try.prog 30 [(0, 1), (1, 1), (2, 1), (3, 1), (4, 1), (5, 1), (6, 1), (7, 1), (8, 1), (9, 1), (10, 1), (11, 1)] [v8 0, v16 0, v16 0, v32 0, v32 0, v8 0, v16 0, v16 0, Value.string ByteArray.empty, v8 0, v8 0, Value.string ByteArray.empty] := ⟨by kernel_rfl, by unfold ZeroT; kernel_rfl⟩
theorem ag30 : isAggT Try.prog 30 12 = true := by kernel_rfl
theorem sz30 : sizeT Try.prog 30 12 = true := by kernel_rfl
theorem bd9 : (!(Try.f9.name == "runtime.NumGoroutine") && !Try.f9.body.isNone) = true := by kernel_rfl
theorem fl30_0 : FieldT Try.prog 30 0 0 5 1 := ⟨by kernel_rfl, by kernel_rfl⟩
theorem bd25 : (!(Try.f25.name == "runtime.NumGoroutine") && !Try.f25.body.isNone) = true := by kernel_rfl
theorem fl30_8 : FieldT Try.prog 30 8 8 9 1 := ⟨by kernel_rfl, by kernel_rfl⟩
theorem sc9 : isScalar Try.prog 9 = true := by kernel_rfl
theorem fl30_11 : FieldT Try.prog 30 11 11 9 1 := ⟨by kernel_rfl, by kernel_rfl⟩
theorem bd27 : (!(Try.f27.name == "runtime.NumGoroutine") && !Try.f27.body.isNone) = true := by kernel_rfl
theorem fl30_3 : FieldT Try.prog 30 3 3 23 1 := ⟨by kernel_rfl, by kernel_rfl⟩
theorem fl30_4 : FieldT Try.prog 30 4 4 23 1 := ⟨by kernel_rfl, by kernel_rfl⟩
theorem fl30_5 : FieldT Try.prog 30 5 5 5 1 := ⟨by kernel_rfl, by kernel_rfl⟩
theorem fl30_6 : FieldT Try.prog 30 6 6 22 1 := ⟨by kernel_rfl, by kernel_rfl⟩
theorem fl30_7 : FieldT Try.prog 30 7 7 22 1 := ⟨by kernel_rfl, by kernel_rfl⟩
theorem fl30_9 : FieldT Try.prog 30 9 9 5 1 := ⟨by kernel_rfl, by kernel_rfl⟩
theorem fl30_10 : FieldT Try.prog 30 10 10 5 1 := ⟨by kernel_rfl, by kernel_rfl⟩
theorem fl30_1 : FieldT Try.prog 30 1 1 22 1 := ⟨by kernel_rfl, by kernel_rfl⟩
theorem fl30_2 : FieldT Try.prog 30 2 2 22 1 := ⟨by kernel_rfl, by kernel_rfl⟩
theorem bd14 : (!(Try.f14.name == "runtime.NumGoroutine") && !Try.f14.body.isNone) = true := by kernel_rfl
theorem bd42 : (!(Try.f42.name == "runtime.NumGoroutine") && !Try.f42.body.isNone) = true := by kernel_rfl
theorem bd65 : (!(Try.f65.name == "runtime.NumGoroutine") && !Try.f65.body.isNone) = true := by kernel_rfl
theorem bd43 : (!(Try.f43.name == "runtime.NumGoroutine") && !Try.f43.body.isNone) = true := by kernel_rfl
theorem bd44 : (!(Try.f44.name == "runtime.NumGoroutine") && !Try.f44.body.isNone) = true := by kernel_rfl
theorem bd26 : (!(Try.f26.name == "runtime.NumGoroutine") && !Try.f26.body.isNone) = true := by kernel_rfl
theorem bd29 : (!(Try.f29.name == "runtime.NumGoroutine") && !Try.f29.body.isNone) = true := by kernel_rfl
theorem bd66 : (!(Try.f66.name == "runtime.NumGoroutine") && !Try.f66.body.isNone) = true := by kernel_rfl
theorem bd67 : (!(Try.f67.name == "runtime.NumGoroutine") && !Try.f67.body.isNone) = true := by kernel_rfl
theorem bd45 : (!(Try.f45.name == "runtime.NumGoroutine") && !Try.f45.body.isNone) = true := by kernel_rfl
theorem bd28 : (!(Try.f28.name == "runtime.NumGoroutine") && !Try.f28.body.isNone) = true := by kernel_rfl
theorem bd10 : (!(Try.f10.name == "runtime.NumGoroutine") && !Try.f10.body.isNone) = true := by kernel_rfl
theorem bd17 : (!(Try.f17.name == "runtime.NumGoroutine") && !Try.f17.body.isNone) = true := by kernel_rfl
theorem bd64 : (!(Try.f64.name == "runtime.NumGoroutine") && !Try.f64.body.isNone) = true := by kernel_rfl
theorem bd38 : (!(Try.f38.name == "runtime.NumGoroutine") && !Try.f38.body.isNone) = true := by kernel_rfl
theorem sz9 : sizeT Try.prog 9 1 = true := by kernel_rfl
theorem bd18 : (!(Try.f18.name == "runtime.NumGoroutine") && !Try.f18.body.isNone) = true := by kernel_rfl
theorem bd40 : (!(Try.f40.name == "runtime.NumGoroutine") && !Try.f40.body.isNone) = true := by kernel_rfl
theorem bd20 : (!(Try.f20.name == "runtime.NumGoroutine") && !Try.f20.body.isNone) = true := by kernel_rfl
theorem bd41 : (!(Try.f41.name == "runtime.NumGoroutine") && !Try.f41.body.isNone) = true := by kernel_rfl
theorem bd21 : (!(Try.f21.name == "runtime.NumGoroutine") && !Try.f21.body.isNone) = true := by kernel_rfl
theorem bd22 : (!(Try.f22.name == "runtime.NumGoroutine") && !Try.f22.body.isNone) = true := by kernel_rfl
theorem bd23 : (!(Try.f23.name == "runtime.NumGoroutine") && !Try.f23.body.isNone) = true := by kernel_rfl
theorem bd24 : (!(Try.f24.name == "runtime.NumGoroutine") && !Try.f24.body.isNone) = true := by kernel_rfl
theorem bd3 : (!(Try.f3.name == "runtime.NumGoroutine") && !Try.f3.body.isNone) = true := by kernel_rfl
theorem bd5 : (!(Try.f5.name == "runtime.NumGoroutine") && !Try.f5.body.isNone) = true := by kernel_rfl
theorem bd4 : (!(Try.f4.name == "runtime.NumGoroutine") && !Try.f4.body.isNone) = true := by kernel_rfl
theorem Q30 (d : Nat) (x y : T_ref07_Segment) (w : World) : (Op.equalIn (d + 2) 30 (.agg #[v8 x.f_Proto, v16 x.f_Src, v16 x.f_Dst, v32 x.f_Seq, v32 x.f_Ack, v8 x.f_Flags, v16 x.f_Window, v16 x.f_Urgent, Value.string x.f_Options, v8 x.f_Type, v8 x.f_Code, Value.string x.f_Data]) (.agg #[v8 y.f_Proto, v16 y.f_Src, v16 y.f_Dst, v32 y.f_Seq, v32 y.f_Ack, v8 y.f_Flags, v16 y.f_Window, v16 y.f_Urgent, Value.string y.f_Options, v8 y.f_Type, v8 y.f_Code, Value.string y.f_Data])).run Try.prog w = .ok (q_ref07_Segment x y) w :=
 (run_equalIn_agg w (d + 1) 30 _ _ (by kernel_rfl) (by kernel_rfl)).trans (EqT.run (tr := [(false, 5, 0), (false, 22, 1), (false, 22, 2), (false, 23, 3), (false, 23, 4), (false, 5, 5), (false, 22, 6), (false, 22, 7), (false, 9, 8), (false, 5, 9), (false, 5, 10), (false, 9, 11)]) (by kernel_rfl) ⟨_, _, _, _, rfl, part_s sc5 rfl, part_s sc5 rfl, run_equalIn_int w (d + 0) 5 _ _ _ _ Try.underlying5, ⟨_, _, _, _, rfl, part_s sc22 rfl, part_s sc22 rfl, run_equalIn_int w (d + 0) 22 _ _ _ _ Try.underlying22, ⟨_, _, _, _, rfl, part_s sc22 rfl, part_s sc22 rfl, run_equalIn_int w (d + 0) 22 _ _ _ _ Try.underlying22, ⟨_, _, _, _, rfl, part_s sc23 rfl, part_s sc23 rfl, run_equalIn_int w (d + 0) 23 _ _ _ _ Try.underlying23, ⟨_, _, _, _, rfl, part_s sc23 rfl, part_s sc23 rfl, run_equalIn_int w (d + 0) 23 _ _ _ _ Try.underlying23, ⟨_, _, _, _, rfl, part_s sc5 rfl, part_s sc5 rfl, run_equalIn_int w (d + 0) 5 _ _ _ _ Try.underlying5, ⟨_, _, _, _, rfl, part_s sc22 rfl, part_s sc22 rfl, run_equalIn_int w (d + 0) 22 _ _ _ _ Try.underlying22, ⟨_, _, _, _, rfl, part_s sc22 rfl, part_s sc22 rfl, run_equalIn_int w (d + 0) 22 _ _ _ _ Try.underlying22, ⟨_, _, _, _, rfl, part_s sc9 rfl, part_s sc9 rfl, run_equalIn_string w (d + 0) 9 _ _ Try.underlying9, ⟨_, _, _, _, rfl, part_s sc5 rfl, part_s sc5 rfl, run_equalIn_int w (d + 0) 5 _ _ _ _ Try.underlying5, ⟨_, _, _, _, rfl, part_s sc5 rfl, part_s sc5 rfl, run_equalIn_int w (d + 0) 5 _ _ _ _ Try.underlying5, ⟨_, _, _, _, rfl, part_s sc9 rfl, part_s sc9 rfl, run_equalIn_string w (d + 0) 9 _ _ Try.underlying9, rfl, rfl⟩, rfl⟩, rfl⟩, rfl⟩, rfl⟩, rfl⟩, rfl⟩, rfl⟩, rfl⟩, rfl⟩, rfl⟩, rfl⟩)
theorem Q30t (x y : T_ref07_Segment) {xs ys : List Value} (w : World) (hx : xs = [v8 x.f_Proto, v16 x.f_Src, v16 x.f_Dst, v32 x.f_Seq, v32 x.f_Ack, v8 x.f_Flags, v16 x.f_Window, v16 x.f_Urgent, Value.string x.f_Options, v8 x.f_Type, v8 x.f_Code, Value.string x.f_Data]) (hy : ys = [v8 y.f_Proto, v16 y.f_Src, v16 y.f_Dst, v32 y.f_Seq, v32 y.f_Ack, v8 y.f_Flags, v16 y.f_Window, v16 y.f_Urgent, Value.string y.f_Options, v8 y.f_Type, v8 y.f_Code, Value.string y.f_Data]) : (Op.equalIn 10000 30 (.agg xs.toArray) (.agg ys.toArray)).run Try.prog w = .ok (q_ref07_Segment x y) w := by
 subst hx; subst hy; exact Q30 9998 x y w

set_option maxRecDepth 100000 in
set_option maxHeartbeats 40000000 in
theorem c_law07_few (w : World) (s1 : T_trans_Segment) (A2 : Option Addr) (c3 : Nat) (hr4 : Rd w A2 c3 1 s1.f_Options.length (s1.f_Options.flatMap (eI .u8))) (A5 : Option Addr) (c6 : Nat) (hr7 : Rd w A5 c6 1 s1.f_Data.length (s1.f_Data.flatMap (eI .u8))) (r : Bool) (hF : F_law07_few s1 = some r) :
  CallsR Try.prog 7 [.agg #[v8 s1.f_Proto, v16 s1.f_Src, v16 s1.f_Dst, v32 s1.f_Seq, v32 s1.f_Ack, v8 s1.f_Flags, v16 s1.f_Window, v16 s1.f_Urgent, .slice A2 (s1.f_Options).length c3, v8 s1.f_Type, v8 s1.f_Code, .slice A5 (s1.f_Data).length c6]] w (fun v w' => v = vB r ∧ Mem w [] w' []) := by
 refine calls_KC Try.func7 rfl Try.ntmps7 rfl ?_
 have hM := Mem.init w
 unfold F_law07_few at hF
 refine KC.seqH fun Q8 hQ8 => ?_
 refine KC.region ?_
 refine RL.eff (E.box (vs := [v8 s1.f_Proto, v16 s1.f_Src, v16 s1.f_Dst, v32 s1.f_Seq, v32 s1.f_Ack, v8 s1.f_Flags, v16 s1.f_Window, v16 s1.f_Urgent, .slice A2 (s1.f_Options).length c3, v8 s1.f_Type, v8 s1.f_Code, .slice A5 (s1.f_Data).length c6]) hM rfl rfl) rfl fun v w10 hv => ?_
 clear hM
 obtain ⟨g9, rfl, hM, hf⟩ := hv
 refine RL.val (O.assign rfl) rfl ?_
 refine RL.nil ?_
 refine KQ.thn hQ8 ?_
 clear hQ8 Q8
 refine KC.cut (fun a w13 => ∃ (t12 : Bool), Kn 19 [(2, vB t12)] a ∧ Mem w [] w13 [] ∧ F_law07_few_j1 t12 = some r) ?_ ?_
 ·refine KC.region ?_
  refine RL.val (O.fldA fl26_8 (by decide) rfl) rfl ?_
  refine RL.val (O.load sc24 rfl (Cs.adds [8] ((hM.bx (i := 0) rfl)) rfl)) rfl ?_
  refine RL.val (O.len sl24 rfl) rfl ?_
  refine RL.val (O.leq rfl rfl) rfl ?_
  refine RL.val (O.move rfl) rfl ?_
  refine RL.bcase (t := 7) rfl (fun hc => ?_) (fun hc => ?_)
  ·rw [if_pos hc] at hF
   refine RL.gval rfl rfl (O.fldA fl26_11 (by decide) rfl) rfl ?_
   refine RL.gval rfl rfl (O.load sc24 rfl (Cs.adds [11] ((hM.bx (i := 0) rfl)) rfl)) rfl ?_
   refine RL.gval rfl rfl (O.len sl24 rfl) rfl ?_
   refine RL.gval rfl rfl (O.leq rfl rfl) rfl ?_
   refine RL.gval rfl rfl (O.move rfl) rfl ?_
   refine RL.bcase (t := 12) rfl (fun hc => ?_) (fun hc => ?_)
   ·rw [if_pos hc] at hF
    refine RL.gskip rfl rfl rfl rfl ?_
    refine RL.gskip rfl rfl rfl rfl ?_
    refine RL.gskip rfl rfl rfl rfl ?_
    refine RL.gskip rfl rfl rfl rfl ?_
    refine RL.gval rfl rfl (O.pickt rfl rfl) rfl ?_
    refine RL.val (O.pickt rfl rfl) rfl ?_
    refine RL.val (O.assign rfl) rfl ?_
    refine RL.nil ?_
    refine KQ.then_k ?_
    replace hM := hM.pick [] rfl (by decide)
    exact fun a ha => ⟨true, ha.less (less_cons rfl less_nil), hM, hF⟩
   ·rw [if_neg (ne_true hc)] at hF
    refine RL.gval rfl rfl (O.fldA fl26_11 (by decide) rfl) rfl ?_
    refine RL.gval rfl rfl (O.load sc24 rfl (Cs.adds [11] ((hM.bx (i := 0) rfl)) rfl)) rfl ?_
    refine RL.gval rfl rfl (O.len sl24 rfl) rfl ?_
    refine RL.gval rfl rfl (O.gtr rfl rfl) rfl ?_
    refine RL.gval rfl rfl (O.pickf rfl rfl) rfl ?_
    refine RL.val (O.pickt rfl rfl) rfl ?_
    refine RL.val (O.assign rfl) rfl ?_
    refine RL.nil ?_
    refine KQ.then_k ?_
    replace hM := hM.pick [] rfl (by decide)
    exact fun a ha => ⟨(decide (65535 < (s1.f_Data.length : Int))), ha.less (less_cons rfl less_nil), hM, hF⟩
  ·rw [if_neg (ne_true hc)] at hF
   refine RL.brun1 11 18 false (by kernel_rfl) ?_
   refine RL.val (O.assign rfl) rfl ?_
   refine RL.nil ?_
   refine KQ.then_k ?_
   replace hM := hM.pick [] rfl (by decide)
   exact fun a ha => ⟨false, ha.less (less_cons rfl less_nil), hM, hF⟩
 ·rintro a w13 ⟨t12, ha, hM, hF⟩
  refine KC.app ha ?_
  clear ha
  unfold F_law07_few_j1 at hF
  refine KC.ret ?_
  have hE := Option.some.inj hF
  clear hF
  subst hE
  refine KQ.rets Try.results7 (RVs.cons (RV.tm rfl) RVs.nil) ?_
  exact ⟨_, rfl, rfl, hM⟩
set_option maxRecDepth 100000 in
set_option maxHeartbeats 40000000 in
theorem c_trans_protocols (w : World) (r : Unit) (hF : F_trans_protocols = some r) :
  CallsR Try.prog 30 [] w (fun v w' => ∃ (g0 : Nat), v = .map (some g0) ∧ Mem w [] w' [.res [g0] (MapAt g0 [⟨.int .u8 6, .agg #[vI 20, vI 16, .func (.func 49) #[] #[], .func (.func 50) #[] #[], .func (.func 51) #[] #[]], 0⟩, ⟨.int .u8 17, .agg #[vI 8, vI 6, .func (.func 52) #[] #[], .func (.func 53) #[] #[], .func (.func 54) #[] #[]], 1⟩, ⟨.int .u8 1, .agg #[vI 4, vI 2, .func (.func 46) #[] #[], .func (.func 47) #[] #[], .func (.func 48) #[] #[]], 2⟩, ⟨.int .u8 58, .agg #[vI 4, vI 2, .func (.func 46) #[] #[], .func (.func 47) #[] #[], .func (.func 48) #[] #[]], 3⟩] 4)]) := by
 refine calls_KC Try.func30 rfl Try.ntmps30 rfl ?_
 have hM := Mem.init w
 unfold F_trans_protocols at hF
 refine KC.seqH fun Q1 hQ1 => ?_
 refine KC.region ?_
 refine RL.val (O.assign rfl) rfl ?_
 refine RL.nil ?_
 refine KQ.thn hQ1 ?_
 clear hQ1 Q1
 refine KC.seqH fun Q2 hQ2 => ?_
 refine KC.region ?_
 refine RL.val (O.bld (cs := [vI 4, vI 2, .func (.func 46) #[] #[], .func (.func 47) #[] #[], .func (.func 48) #[] #[]]) bt62 rfl (by kernel_rfl)) rfl ?_
 refine RL.eff (E.alloc hM ze62) rfl fun v w4 hv => ?_
 clear hM
 obtain ⟨g3, rfl, hM, hf⟩ := hv
 refine RL.effs (E.stB (j := 0) (off := 0) (vs := [vI 4, vI 2, .func (.func 46) #[] #[], .func (.func 47) #[] #[], .func (.func 48) #[] #[]]) (cs' := [vI 4, vI 2, .func (.func 46) #[] #[], .func (.func 47) #[] #[], .func (.func 48) #[] #[]]) hM rfl sz62 rfl (adds_eq [] rfl) rfl rfl (One.all rfl) rfl rfl) fun w6 hM1 => ?_
 clear hM
 have hM := hM1
 clear hM1
 refine RL.nil ?_
 refine KQ.thn hQ2 ?_
 clear hQ2 Q2
 refine KC.seqH fun Q7 hQ7 => ?_
 refine KC.region ?_
 refine RL.eff (E.mkmap hM) rfl fun v w9 hv => ?_
 clear hM
 obtain ⟨g8, rfl, hM, hf⟩ := hv
 refine RL.val (O.bld (cs := [vI 20, vI 16, .func (.func 49) #[] #[], .func (.func 50) #[] #[], .func (.func 51) #[] #[]]) bt62 rfl (by kernel_rfl)) rfl ?_
 refine RL.effs (E.mins (es' := [⟨.int .u8 6, .agg #[vI 20, vI 16, .func (.func 49) #[] #[], .func (.func 50) #[] #[], .func (.func 51) #[] #[]], 0⟩]) (ck' := 1) hM (j := 1) rfl Try.underlying64 Try.underlying5 rfl rfl rfl (by kernel_rfl) rfl rfl) fun w11 hM1 => ?_
 clear hM
 have hM := hM1
 clear hM1
 refine RL.val (O.bld (cs := [vI 8, vI 6, .func (.func 52) #[] #[], .func (.func 53) #[] #[], .func (.func 54) #[] #[]]) bt62 rfl (by kernel_rfl)) rfl ?_
 refine RL.effs (E.mins (es' := [⟨.int .u8 6, .agg #[vI 20, vI 16, .func (.func 49) #[] #[], .func (.func 50) #[] #[], .func (.func 51) #[] #[]], 0⟩, ⟨.int .u8 17, .agg #[vI 8, vI 6, .func (.func 52) #[] #[], .func (.func 53) #[] #[], .func (.func 54) #[] #[]], 1⟩]) (ck' := 2) hM (j := 1) rfl Try.underlying64 Try.underlying5 rfl rfl rfl (by kernel_rfl) rfl rfl) fun w12 hM1 => ?_
 clear hM
 have hM := hM1
 clear hM1
 refine RL.val (O.loadN (cs := [vI 4, vI 2, .func (.func 46) #[] #[], .func (.func 47) #[] #[], .func (.func 48) #[] #[]]) ag62 rfl (Cs.addsN [] ((hM.bx (i := 0) rfl)) rfl)) rfl ?_
 refine RL.effs (E.mins (es' := [⟨.int .u8 6, .agg #[vI 20, vI 16, .func (.func 49) #[] #[], .func (.func 50) #[] #[], .func (.func 51) #[] #[]], 0⟩, ⟨.int .u8 17, .agg #[vI 8, vI 6, .func (.func 52) #[] #[], .func (.func 53) #[] #[], .func (.func 54) #[] #[]], 1⟩, ⟨.int .u8 1, .agg #[vI 4, vI 2, .func (.func 46) #[] #[], .func (.func 47) #[] #[], .func (.func 48) #[] #[]], 2⟩]) (ck' := 3) hM (j := 1) rfl Try.underlying64 Try.underlying5 rfl rfl rfl (by kernel_rfl) rfl rfl) fun w13 hM1 => ?_
 clear hM
 have hM := hM1
 clear hM1
 refine RL.val (O.loadN (cs := [vI 4, vI 2, .func (.func 46) #[] #[], .func (.func 47) #[] #[], .func (.func 48) #[] #[]]) ag62 rfl (Cs.addsN [] ((hM.bx (i := 0) rfl)) rfl)) rfl ?_
 refine RL.effs (E.mins (es' := [⟨.int .u8 6, .agg #[vI 20, vI 16, .func (.func 49) #[] #[], .func (.func 50) #[] #[], .func (.func 51) #[] #[]], 0⟩, ⟨.int .u8 17, .agg #[vI 8, vI 6, .func (.func 52) #[] #[], .func (.func 53) #[] #[], .func (.func 54) #[] #[]], 1⟩, ⟨.int .u8 1, .agg #[vI 4, vI 2, .func (.func 46) #[] #[], .func (.func 47) #[] #[], .func (.func 48) #[] #[]], 2⟩, ⟨.int .u8 58, .agg #[vI 4, vI 2, .func (.func 46) #[] #[], .func (.func 47) #[] #[], .func (.func 48) #[] #[]], 3⟩]) (ck' := 4) hM (j := 1) rfl Try.underlying64 Try.underlying5 rfl rfl rfl (by kernel_rfl) rfl rfl) fun w14 hM1 => ?_
 clear hM
 have hM := hM1
 clear hM1
 refine RL.val (O.move rfl) rfl ?_
 refine RL.val (O.assign rfl) rfl ?_
 refine RL.nil ?_
 refine KQ.thn hQ7 ?_
 clear hQ7 Q7
 refine KC.ret ?_
 have hE := Option.some.inj hF
 clear hF
 subst hE
 replace hM := hM.pick [1] rfl (by decide)
 refine KQ.rets Try.results30 (RVs.cons (RV.tm rfl) RVs.nil) ?_
 exact ⟨_, rfl, g8, rfl, hM⟩
set_option maxRecDepth 100000 in
set_option maxHeartbeats 40000000 in
theorem c_bytes_Equal (w : World) (A2 : Option Addr) (c3 : Nat) (av1 : List Int) (hr4 : Rd w A2 c3 1 av1.length (av1.flatMap (eI .u8))) (A6 : Option Addr) (c7 : Nat) (b5 : List Int) (hr8 : Rd w A6 c7 1 b5.length (b5.flatMap (eI .u8))) (r : Bool) (hF : F_bytes_Equal av1 b5 = some r) :
  CallsR Try.prog 37 [.slice A2 (av1).length c3, .slice A6 (b5).length c7] w (fun v w' => v = vB r ∧ Mem w [] w' []) := by
 refine calls_KC Try.func37 rfl Try.ntmps37 rfl ?_
 have hM := Mem.init w
 unfold F_bytes_Equal at hF
 refine KC.seqH fun Q9 hQ9 => ?_
 refine KC.region ?_
 refine RL.val (O.assign rfl) rfl ?_
 refine RL.nil ?_
 refine KQ.thn hQ9 ?_
 clear hQ9 Q9
 refine KC.seqH fun Q10 hQ10 => ?_
 refine KC.region ?_
 refine RL.val (O.move rfl) rfl ?_
 refine RL.val (O.b2s sl24 Try.underlying5 Try.underlying9 rfl ((hM.inp hr4 Off.nil))) rfl ?_
 refine RL.val (O.move rfl) rfl ?_
 refine RL.val (O.b2s sl24 Try.underlying5 Try.underlying9 rfl ((hM.inp hr8 Off.nil))) rfl ?_
 refine RL.val (O.streq rfl rfl) rfl ?_
 refine RL.val (O.assign rfl) rfl ?_
 refine RL.nil ?_
 refine KQ.thn hQ10 ?_
 clear hQ10 Q10
 refine KC.ret ?_
 have hE := Option.some.inj hF
 clear hF
 subst hE
 refine KQ.rets Try.results37 (RVs.cons (RV.tm rfl) RVs.nil) ?_
 exact ⟨_, rfl, rfl, hM⟩
end Go.Proofs.Ytcinagdkkclapaa
