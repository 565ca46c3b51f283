/- Printed by a program of this claim: each call returns what the plain function of its name gives. -/
import Derived.Test.YtnbakndfnjflhaaRows
import Derived.Test.YtnbakndfnjflhaaF
set_option linter.unusedVariables false
namespace Go.Proofs.Ytnbakndfnjflhaa
open Go Go.Ox Go.RowKit
theorem sl22 : SliceT Try.prog 22 38 39 56 := ⟨Try.underlying22, by kernel_rfl⟩
theorem bd8 : (!(Try.f8.name == "runtime.NumGoroutine") && !Try.f8.body.isNone) = true := by kernel_rfl
theorem ze35 : ZeroT Try.prog 35 [Value.bool false, Value.int .u8 0, Value.int .u8 0, Value.int .u8 0, Value.int .u8 0, Value.int .u8 0, Value.int .u8 0, Value.int .u8 0, Value.int .u8 0, Value.int .u8 0, Value.int .u8 0, Value.int .u8 0, Value.int .u8 0, Value.int .u8 0, Value.int .u8 0, Value.int .u8 0, Value.int .u8 0, Value.bool false, Value.int .u8 0, Value.int .u8 0, Value.int .u8 0, Value.int .u8 0, Value.int .u8 0, Value.int .u8 0, Value.int .u8 0, Value.int .u8 0, Value.int .u8 0, Value.int .u8 0, Value.int .u8 0, Value.int .u8 0, Value.int .u8 0, Value.int .u8 0, Value.int .u8 0, Value.int .u8 0, Value.int .u8 0, Value.int .u16 0, Value.int .u16 0] := by unfold ZeroT; kernel_rfl
theorem un3 : (Try.prog.underlying 3).isSome = true := by kernel_rfl
theorem bt35 : BuildT Try.prog 35 [(0, 17), (17, 17), (34, 1), (35, 1), (36, 1)] [Value.bool false, Value.int .u8 0, Value.int .u8 0, Value.int .u8 0, Value.int .u8 0, Value.int .u8 0, Value.int .u8 0, Value.int .u8 0, Value.int .u8 0, Value.int .u8 0, Value.int .u8 0, Value.int .u8 0, Value.int .u8 0, Value.int .u8 0, Value.int .u8 0, Value.int .u8 0, Value.int .u8 0, Value.bool false, Value.int .u8 0, Value.int .u8 0, Value.int .u8 0, Value.int .u8 0, Value.int .u8 0, Value.int .u8 0, Value.int .u8 0, Value.int .u8 0, Value.int .u8 0, Value.int .u8 0, Value.int .u8 0, Value.int .u8 0, Value.int .u8 0, Value.int .u8 0, Value.int .u8 0, Value.int .u8 0, Value.int .u8 0, Value.int .u16 0, Value.int .u16 0] := ⟨by kernel_rfl, by unfold ZeroT; kernel_rfl⟩
theorem fl35_0 : FieldT Try.prog 35 0 0 32 17 := ⟨by kernel_rfl, by kernel_rfl⟩
theorem fl32_1 : FieldT Try.prog 32 1 1 30 16 := ⟨by kernel_rfl, by kernel_rfl⟩
theorem sz5 : sizeT Try.prog 5 1 = true := by kernel_rfl
theorem ag35 : isAggT Try.prog 35 37 = true := by kernel_rfl
theorem sz35 : sizeT Try.prog 35 37 = true := by kernel_rfl
theorem bd30 : (!(Try.f30.name == "runtime.NumGoroutine") && !Try.f30.body.isNone) = true := by kernel_rfl
theorem ze3 : ZeroT Try.prog 3 [Value.int .i64 0] := by unfold ZeroT; kernel_rfl
theorem sc24 : isScalar Try.prog 24 = true := by kernel_rfl
theorem sc3 : isScalar Try.prog 3 = true := by kernel_rfl
theorem sz3 : sizeT Try.prog 3 1 = true := by kernel_rfl
theorem bd31 : (!(Try.f31.name == "runtime.NumGoroutine") && !Try.f31.body.isNone) = true := by kernel_rfl
theorem bd11 : (!(Try.f11.name == "runtime.NumGoroutine") && !Try.f11.body.isNone) = true := by kernel_rfl
theorem bd35 : (!(Try.f35.name == "runtime.NumGoroutine") && !Try.f35.body.isNone) = true := by kernel_rfl
theorem bd15 : (!(Try.f15.name == "runtime.NumGoroutine") && !Try.f15.body.isNone) = true := by kernel_rfl
theorem sl65 : SliceT Try.prog 65 74 39 56 := ⟨Try.underlying65, by kernel_rfl⟩
theorem ze74 : ZeroT Try.prog 74 [Value.bool false, Value.bool false, Value.int .u8 0, Value.int .u8 0, Value.int .u8 0, Value.int .u8 0, Value.int .u8 0, Value.int .u8 0, Value.int .u8 0, Value.int .u8 0, Value.int .u8 0, Value.int .u8 0, Value.int .u8 0, Value.int .u8 0, Value.int .u8 0, Value.int .u8 0, Value.int .u8 0, Value.int .u8 0, Value.bool false, Value.int .u8 0, Value.int .u8 0, Value.int .u8 0, Value.int .u8 0, Value.int .u8 0, Value.int .u8 0, Value.int .u8 0, Value.int .u8 0, Value.int .u8 0, Value.int .u8 0, Value.int .u8 0, Value.int .u8 0, Value.int .u8 0, Value.int .u8 0, Value.int .u8 0, Value.int .u8 0, Value.int .u8 0, Value.int .u16 0, Value.int .u16 0, Value.int .u64 0] := by unfold ZeroT; kernel_rfl
theorem bt71 : BuildT Try.prog 71 [(0, 1), (1, 1)] [.slice none 0 0, Value.int .i64 0] := ⟨by kernel_rfl, by unfold ZeroT; kernel_rfl⟩
theorem bd46 : (!(Try.f46.name == "runtime.NumGoroutine") && !Try.f46.body.isNone) = true := by kernel_rfl
theorem bd60 : (!(Try.f60.name == "runtime.NumGoroutine") && !Try.f60.body.isNone) = true := by kernel_rfl
theorem fl71_0 : FieldT Try.prog 71 0 0 65 1 := ⟨by kernel_rfl, by kernel_rfl⟩
theorem sc65 : isScalar Try.prog 65 = true := by kernel_rfl
theorem bd27 : (!(Try.f27.name == "runtime.NumGoroutine") && !Try.f27.body.isNone) = true := by kernel_rfl
theorem fl35_2 : FieldT Try.prog 35 2 34 5 1 := ⟨by kernel_rfl, by kernel_rfl⟩
theorem sc5 : isScalar Try.prog 5 = true := by kernel_rfl
theorem bd32 : (!(Try.f32.name == "runtime.NumGoroutine") && !Try.f32.body.isNone) = true := by kernel_rfl
theorem fl35_3 : FieldT Try.prog 35 3 35 33 1 := ⟨by kernel_rfl, by kernel_rfl⟩
theorem bd33 : (!(Try.f33.name == "runtime.NumGoroutine") && !Try.f33.body.isNone) = true := by kernel_rfl
theorem fl35_4 : FieldT Try.prog 35 4 36 33 1 := ⟨by kernel_rfl, by kernel_rfl⟩
theorem sz33 : sizeT Try.prog 33 1 = true := by kernel_rfl
theorem ag32 : isAggT Try.prog 32 17 = true := by kernel_rfl
theorem ze30 : ZeroT Try.prog 30 [Value.int .u8 0, Value.int .u8 0, Value.int .u8 0, Value.int .u8 0, Value.int .u8 0, Value.int .u8 0, Value.int .u8 0, Value.int .u8 0, Value.int .u8 0, Value.int .u8 0, Value.int .u8 0, Value.int .u8 0, Value.int .u8 0, Value.int .u8 0, Value.int .u8 0, Value.int .u8 0] := by unfold ZeroT; kernel_rfl
theorem fl32_0 : FieldT Try.prog 32 0 0 4 1 := ⟨by kernel_rfl, by kernel_rfl⟩
theorem sc4 : isScalar Try.prog 4 = true := by kernel_rfl
theorem bd47 : (!(Try.f47.name == "runtime.NumGoroutine") && !Try.f47.body.isNone) = true := by kernel_rfl
theorem sl81 : SliceT Try.prog 81 5 1 1 := ⟨Try.underlying81, by kernel_rfl⟩
theorem ag30 : isAggT Try.prog 30 16 = true := by kernel_rfl
theorem moP : Try.prog.follows .mixedOrders = true := by kernel_rfl
theorem bd34 : (!(Try.f34.name == "runtime.NumGoroutine") && !Try.f34.body.isNone) = true := by kernel_rfl
theorem fl35_1 : FieldT Try.prog 35 1 17 32 17 := ⟨by kernel_rfl, by kernel_rfl⟩
theorem bd12 : (!(Try.f12.name == "runtime.NumGoroutine") && !Try.f12.body.isNone) = true := by kernel_rfl
theorem ze94 : ZeroT Try.prog 94 [.slice none 0 0] := by unfold ZeroT; kernel_rfl
theorem ze5 : ZeroT Try.prog 5 [Value.int .u8 0] := by unfold ZeroT; kernel_rfl
theorem fl94_0 : FieldT Try.prog 94 0 0 81 1 := ⟨by kernel_rfl, by kernel_rfl⟩
theorem sc81 : isScalar Try.prog 81 = true := by kernel_rfl
theorem sz81 : sizeT Try.prog 81 1 = true := by kernel_rfl
theorem bd51 : (!(Try.f51.name == "runtime.NumGoroutine") && !Try.f51.body.isNone) = true := by kernel_rfl
theorem bd61 : (!(Try.f61.name == "runtime.NumGoroutine") && !Try.f61.body.isNone) = true := by kernel_rfl
theorem bd52 : (!(Try.f52.name == "runtime.NumGoroutine") && !Try.f52.body.isNone) = true := by kernel_rfl
theorem sc33 : isScalar Try.prog 33 = true := by kernel_rfl
theorem un33 : (Try.prog.underlying 33).isSome = true := by kernel_rfl
theorem bd77 : (!(Try.f77.name == "runtime.NumGoroutine") && !Try.f77.body.isNone) = true := by kernel_rfl
theorem bd78 : (!(Try.f78.name == "runtime.NumGoroutine") && !Try.f78.body.isNone) = true := by kernel_rfl
theorem bd62 : (!(Try.f62.name == "runtime.NumGoroutine") && !Try.f62.body.isNone) = true := by kernel_rfl
theorem un36 : (Try.prog.underlying 36).isSome = true := by kernel_rfl
theorem bd63 : (!(Try.f63.name == "runtime.NumGoroutine") && !Try.f63.body.isNone) = true := by kernel_rfl
theorem bd53 : (!(Try.f53.name == "runtime.NumGoroutine") && !Try.f53.body.isNone) = true := by kernel_rfl
theorem bd64 : (!(Try.f64.name == "runtime.NumGoroutine") && !Try.f64.body.isNone) = true := by kernel_rfl
theorem bd54 : (!(Try.f54.name == "runtime.NumGoroutine") && !Try.f54.body.isNone) = true := by kernel_rfl
theorem bd39 : (!(Try.f39.name == "runtime.NumGoroutine") && !Try.f39.body.isNone) = true := by kernel_rfl
theorem un5 : (Try.prog.underlying 5).isSome = true := by kernel_rfl
theorem bd24 : (!(Try.f24.name == "runtime.NumGoroutine") && !Try.f24.body.isNone) = true := by kernel_rfl
theorem fl74_0 : FieldT Try.prog 74 0 0 4 1 := ⟨by kernel_rfl, by kernel_rfl⟩
theorem fl74_1 : FieldT Try.prog 74 1 1 35 37 := ⟨by kernel_rfl, by kernel_rfl⟩
theorem fl71_1 : FieldT Try.prog 71 1 1 3 1 := ⟨by kernel_rfl, by kernel_rfl⟩
theorem bt74 : BuildT Try.prog 74 [(0, 1), (1, 37), (38, 1)] [Value.bool false, Value.bool false, Value.int .u8 0, Value.int .u8 0, Value.int .u8 0, Value.int .u8 0, Value.int .u8 0, Value.int .u8 0, Value.int .u8 0, Value.int .u8 0, Value.int .u8 0, Value.int .u8 0, Value.int .u8 0, Value.int .u8 0, Value.int .u8 0, Value.int .u8 0, Value.int .u8 0, Value.int .u8 0, Value.bool false, Value.int .u8 0, Value.int .u8 0, Value.int .u8 0, Value.int .u8 0, Value.int .u8 0, Value.int .u8 0, Value.int .u8 0, Value.int .u8 0, Value.int .u8 0, Value.int .u8 0, Value.int .u8 0, Value.int .u8 0, Value.int .u8 0, Value.int .u8 0, Value.int .u8 0, Value.int .u8 0, Value.int .u8 0, Value.int .u16 0, Value.int .u16 0, Value.int .u64 0] := ⟨by kernel_rfl, by unfold ZeroT; kernel_rfl⟩
theorem sz74 : sizeT Try.prog 74 39 = true := by kernel_rfl
theorem fl74_2 : FieldT Try.prog 74 2 38 36 1 := ⟨by kernel_rfl, by kernel_rfl⟩
theorem sc36 : isScalar Try.prog 36 = true := by kernel_rfl
theorem ag74 : isAggT Try.prog 74 39 = true := by kernel_rfl
theorem bd13 : (!(Try.f13.name == "runtime.NumGoroutine") && !Try.f13.body.isNone) = true := by kernel_rfl
theorem bd14 : (!(Try.f14.name == "runtime.NumGoroutine") && !Try.f14.body.isNone) = true := by kernel_rfl
theorem bd7 : (!(Try.f7.name == "runtime.NumGoroutine") && !Try.f7.body.isNone) = true := by kernel_rfl
theorem ag38 : isAggT Try.prog 38 39 = true := by kernel_rfl
theorem ze38 : ZeroT Try.prog 38 [Value.int .i64 0, Value.bool false, Value.int .u8 0, Value.int .u8 0, Value.int .u8 0, Value.int .u8 0, Value.int .u8 0, Value.int .u8 0, Value.int .u8 0, Value.int .u8 0, Value.int .u8 0, Value.int .u8 0, Value.int .u8 0, Value.int .u8 0, Value.int .u8 0, Value.int .u8 0, Value.int .u8 0, Value.int .u8 0, Value.bool false, Value.int .u8 0, Value.int .u8 0, Value.int .u8 0, Value.int .u8 0, Value.int .u8 0, Value.int .u8 0, Value.int .u8 0, Value.int .u8 0, Value.int .u8 0, Value.int .u8 0, Value.int .u8 0, Value.int .u8 0, Value.int .u8 0, Value.int .u8 0, Value.int .u8 0, Value.int .u8 0, Value.int .u8 0, Value.int .u16 0, Value.int .u16 0, Value.int .u64 0] := by unfold ZeroT; kernel_rfl
theorem sl28 : SliceT Try.prog 28 35 37 40 := ⟨Try.underlying28, by kernel_rfl⟩
theorem fl38_0 : FieldT Try.prog 38 0 0 3 1 := ⟨by kernel_rfl, by kernel_rfl⟩
theorem bd10 : (!(Try.f10.name == "runtime.NumGoroutine") && !Try.f10.body.isNone) = true := by kernel_rfl
theorem fl38_1 : FieldT Try.prog 38 1 1 35 37 := ⟨by kernel_rfl, by kernel_rfl⟩
theorem fl38_2 : FieldT Try.prog 38 2 38 36 1 := ⟨by kernel_rfl, by kernel_rfl⟩
theorem sl29 : SliceT Try.prog 29 36 1 8 := ⟨Try.underlying29, by kernel_rfl⟩
theorem ze36 : ZeroT Try.prog 36 [Value.int .u64 0] := by unfold ZeroT; kernel_rfl
theorem bd43 : (!(Try.f43.name == "runtime.NumGoroutine") && !Try.f43.body.isNone) = true := by kernel_rfl
theorem bd28 : (!(Try.f28.name == "runtime.NumGoroutine") && !Try.f28.body.isNone) = true := by kernel_rfl
theorem bd9 : (!(Try.f9.name == "runtime.NumGoroutine") && !Try.f9.body.isNone) = true := by kernel_rfl
theorem bd16 : (!(Try.f16.name == "runtime.NumGoroutine") && !Try.f16.body.isNone) = true := by kernel_rfl
theorem sz38 : sizeT Try.prog 38 39 = true := by kernel_rfl
theorem sl39 : SliceT Try.prog 39 3 1 8 := ⟨Try.underlying39, by kernel_rfl⟩
theorem sz36 : sizeT Try.prog 36 1 = true := by kernel_rfl
theorem sl49 : SliceT Try.prog 49 78 39 56 := ⟨Try.underlying49, by kernel_rfl⟩
theorem ze78 : ZeroT Try.prog 78 [Value.bool false, Value.bool false, Value.int .u8 0, Value.int .u8 0, Value.int .u8 0, Value.int .u8 0, Value.int .u8 0, Value.int .u8 0, Value.int .u8 0, Value.int .u8 0, Value.int .u8 0, Value.int .u8 0, Value.int .u8 0, Value.int .u8 0, Value.int .u8 0, Value.int .u8 0, Value.int .u8 0, Value.int .u8 0, Value.bool false, Value.int .u8 0, Value.int .u8 0, Value.int .u8 0, Value.int .u8 0, Value.int .u8 0, Value.int .u8 0, Value.int .u8 0, Value.int .u8 0, Value.int .u8 0, Value.int .u8 0, Value.int .u8 0, Value.int .u8 0, Value.int .u8 0, Value.int .u8 0, Value.int .u8 0, Value.int .u8 0, Value.int .u8 0, Value.int .u16 0, Value.int .u16 0, Value.int .u64 0] := by unfold ZeroT; kernel_rfl
theorem bd17 : (!(Try.f17.name == "runtime.NumGoroutine") && !Try.f17.body.isNone) = true := by kernel_rfl
theorem ze54 : ZeroT Try.prog 54 [Value.bool false, Value.int .u8 0, Value.int .u8 0, Value.int .u8 0, Value.int .u8 0, Value.int .u8 0, Value.int .u8 0, Value.int .u8 0, Value.int .u8 0, Value.int .u8 0, Value.int .u8 0, Value.int .u8 0, Value.int .u8 0, Value.int .u8 0, Value.int .u8 0, Value.int .u8 0, Value.int .u8 0, Value.bool false, Value.int .u8 0, Value.int .u8 0, Value.int .u8 0, Value.int .u8 0, Value.int .u8 0, Value.int .u8 0, Value.int .u8 0, Value.int .u8 0, Value.int .u8 0, Value.int .u8 0, Value.int .u8 0, Value.int .u8 0, Value.int .u8 0, Value.int .u8 0, Value.int .u8 0, Value.int .u8 0, Value.int .u8 0, Value.int .u16 0, Value.int .u16 0] := by unfold ZeroT; kernel_rfl
theorem ze52 : ZeroT Try.prog 52 [Value.bool false, Value.int .u8 0, Value.int .u8 0, Value.int .u8 0, Value.int .u8 0, Value.int .u8 0, Value.int .u8 0, Value.int .u8 0, Value.int .u8 0, Value.int .u8 0, Value.int .u8 0, Value.int .u8 0, Value.int .u8 0, Value.int .u8 0, Value.int .u8 0, Value.int .u8 0, Value.int .u8 0] := by unfold ZeroT; kernel_rfl
theorem bt52 : BuildT Try.prog 52 [(0, 1), (1, 16)] [Value.bool false, Value.int .u8 0, Value.int .u8 0, Value.int .u8 0, Value.int .u8 0, Value.int .u8 0, Value.int .u8 0, Value.int .u8 0, Value.int .u8 0, Value.int .u8 0, Value.int .u8 0, Value.int .u8 0, Value.int .u8 0, Value.int .u8 0, Value.int .u8 0, Value.int .u8 0, Value.int .u8 0] := ⟨by kernel_rfl, by unfold ZeroT; kernel_rfl⟩
theorem ag52 : isAggT Try.prog 52 17 = true := by kernel_rfl
theorem sz52 : sizeT Try.prog 52 17 = true := by kernel_rfl
theorem bd36 : (!(Try.f36.name == "runtime.NumGoroutine") && !Try.f36.body.isNone) = true := by kernel_rfl
theorem bt54 : BuildT Try.prog 54 [(0, 17), (17, 17), (34, 1), (35, 1), (36, 1)] [Value.bool false, Value.int .u8 0, Value.int .u8 0, Value.int .u8 0, Value.int .u8 0, Value.int .u8 0, Value.int .u8 0, Value.int .u8 0, Value.int .u8 0, Value.int .u8 0, Value.int .u8 0, Value.int .u8 0, Value.int .u8 0, Value.int .u8 0, Value.int .u8 0, Value.int .u8 0, Value.int .u8 0, Value.bool false, Value.int .u8 0, Value.int .u8 0, Value.int .u8 0, Value.int .u8 0, Value.int .u8 0, Value.int .u8 0, Value.int .u8 0, Value.int .u8 0, Value.int .u8 0, Value.int .u8 0, Value.int .u8 0, Value.int .u8 0, Value.int .u8 0, Value.int .u8 0, Value.int .u8 0, Value.int .u8 0, Value.int .u8 0, Value.int .u16 0, Value.int .u16 0] := ⟨by kernel_rfl, by unfold ZeroT; kernel_rfl⟩
theorem ag54 : isAggT Try.prog 54 37 = true := by kernel_rfl
theorem sz54 : sizeT Try.prog 54 37 = true := by kernel_rfl
theorem bd18 : (!(Try.f18.name == "runtime.NumGoroutine") && !Try.f18.body.isNone) = true := by kernel_rfl
theorem fl54_0 : FieldT Try.prog 54 0 0 52 17 := ⟨by kernel_rfl, by kernel_rfl⟩
theorem fl52_0 : FieldT Try.prog 52 0 0 4 1 := ⟨by kernel_rfl, by kernel_rfl⟩
theorem fl52_1 : FieldT Try.prog 52 1 1 30 16 := ⟨by kernel_rfl, by kernel_rfl⟩
theorem bd48 : (!(Try.f48.name == "runtime.NumGoroutine") && !Try.f48.body.isNone) = true := by kernel_rfl
theorem fl54_1 : FieldT Try.prog 54 1 17 52 17 := ⟨by kernel_rfl, by kernel_rfl⟩
theorem fl54_2 : FieldT Try.prog 54 2 34 5 1 := ⟨by kernel_rfl, by kernel_rfl⟩
theorem bd49 : (!(Try.f49.name == "runtime.NumGoroutine") && !Try.f49.body.isNone) = true := by kernel_rfl
theorem fl54_3 : FieldT Try.prog 54 3 35 33 1 := ⟨by kernel_rfl, by kernel_rfl⟩
theorem bd50 : (!(Try.f50.name == "runtime.NumGoroutine") && !Try.f50.body.isNone) = true := by kernel_rfl
theorem fl54_4 : FieldT Try.prog 54 4 36 33 1 := ⟨by kernel_rfl, by kernel_rfl⟩
theorem bd38 : (!(Try.f38.name == "runtime.NumGoroutine") && !Try.f38.body.isNone) = true := by kernel_rfl
theorem bd65 : (!(Try.f65.name == "runtime.NumGoroutine") && !Try.f65.body.isNone) = true := by kernel_rfl
theorem bd55 : (!(Try.f55.name == "runtime.NumGoroutine") && !Try.f55.body.isNone) = true := by kernel_rfl
theorem bd56 : (!(Try.f56.name == "runtime.NumGoroutine") && !Try.f56.body.isNone) = true := by kernel_rfl
theorem bd40 : (!(Try.f40.name == "runtime.NumGoroutine") && !Try.f40.body.isNone) = true := by kernel_rfl
theorem bd25 : (!(Try.f25.name == "runtime.NumGoroutine") && !Try.f25.body.isNone) = true := by kernel_rfl
theorem fl78_0 : FieldT Try.prog 78 0 0 4 1 := ⟨by kernel_rfl, by kernel_rfl⟩
theorem fl78_1 : FieldT Try.prog 78 1 1 54 37 := ⟨by kernel_rfl, by kernel_rfl⟩
theorem bd23 : (!(Try.f23.name == "runtime.NumGoroutine") && !Try.f23.body.isNone) = true := by kernel_rfl
theorem bt78 : BuildT Try.prog 78 [(0, 1), (1, 37), (38, 1)] [Value.bool false, Value.bool false, Value.int .u8 0, Value.int .u8 0, Value.int .u8 0, Value.int .u8 0, Value.int .u8 0, Value.int .u8 0, Value.int .u8 0, Value.int .u8 0, Value.int .u8 0, Value.int .u8 0, Value.int .u8 0, Value.int .u8 0, Value.int .u8 0, Value.int .u8 0, Value.int .u8 0, Value.int .u8 0, Value.bool false, Value.int .u8 0, Value.int .u8 0, Value.int .u8 0, Value.int .u8 0, Value.int .u8 0, Value.int .u8 0, Value.int .u8 0, Value.int .u8 0, Value.int .u8 0, Value.int .u8 0, Value.int .u8 0, Value.int .u8 0, Value.int .u8 0, Value.int .u8 0, Value.int .u8 0, Value.int .u8 0, Value.int .u8 0, Value.int .u16 0, Value.int .u16 0, Value.int .u64 0] := ⟨by kernel_rfl, by unfold ZeroT; kernel_rfl⟩
theorem ag78 : isAggT Try.prog 78 39 = true := by kernel_rfl
theorem sz78 : sizeT Try.prog 78 39 = true := by kernel_rfl
theorem bd37 : (!(Try.f37.name == "runtime.NumGoroutine") && !Try.f37.body.isNone) = true := by kernel_rfl
theorem bd19 : (!(Try.f19.name == "runtime.NumGoroutine") && !Try.f19.body.isNone) = true := by kernel_rfl
theorem bd20 : (!(Try.f20.name == "runtime.NumGoroutine") && !Try.f20.body.isNone) = true := by kernel_rfl
theorem bd21 : (!(Try.f21.name == "runtime.NumGoroutine") && !Try.f21.body.isNone) = true := by kernel_rfl
theorem fl78_2 : FieldT Try.prog 78 2 38 36 1 := ⟨by kernel_rfl, by kernel_rfl⟩
theorem bd22 : (!(Try.f22.name == "runtime.NumGoroutine") && !Try.f22.body.isNone) = true := by kernel_rfl
theorem bd41 : (!(Try.f41.name == "runtime.NumGoroutine") && !Try.f41.body.isNone) = true := by kernel_rfl
theorem sz4 : sizeT Try.prog 4 1 = true := by kernel_rfl
theorem bd59 : (!(Try.f59.name == "runtime.NumGoroutine") && !Try.f59.body.isNone) = true := by kernel_rfl
theorem bd45 : (!(Try.f45.name == "runtime.NumGoroutine") && !Try.f45.body.isNone) = true := by kernel_rfl
theorem bd44 : (!(Try.f44.name == "runtime.NumGoroutine") && !Try.f44.body.isNone) = true := by kernel_rfl
theorem bd29 : (!(Try.f29.name == "runtime.NumGoroutine") && !Try.f29.body.isNone) = true := by kernel_rfl
theorem bd42 : (!(Try.f42.name == "runtime.NumGoroutine") && !Try.f42.body.isNone) = true := by kernel_rfl
theorem bd26 : (!(Try.f26.name == "runtime.NumGoroutine") && !Try.f26.body.isNone) = true := by kernel_rfl
theorem bt38 : BuildT Try.prog 38 [(0, 1), (1, 37), (38, 1)] [Value.int .i64 0, Value.bool false, Value.int .u8 0, Value.int .u8 0, Value.int .u8 0, Value.int .u8 0, Value.int .u8 0, Value.int .u8 0, Value.int .u8 0, Value.int .u8 0, Value.int .u8 0, Value.int .u8 0, Value.int .u8 0, Value.int .u8 0, Value.int .u8 0, Value.int .u8 0, Value.int .u8 0, Value.int .u8 0, Value.bool false, Value.int .u8 0, Value.int .u8 0, Value.int .u8 0, Value.int .u8 0, Value.int .u8 0, Value.int .u8 0, Value.int .u8 0, Value.int .u8 0, Value.int .u8 0, Value.int .u8 0, Value.int .u8 0, Value.int .u8 0, Value.int .u8 0, Value.int .u8 0, Value.int .u8 0, Value.int .u8 0, Value.int .u8 0, Value.int .u16 0, Value.int .u16 0, Value.int .u64 0] := ⟨by kernel_rfl, by unfold ZeroT; kernel_rfl⟩
theorem bd4 : (!(Try.f4.name == "runtime.NumGoroutine") && !Try.f4.body.isNone) = true := by kernel_rfl
theorem bd3 : (!(Try.f3.name == "runtime.NumGoroutine") && !Try.f3.body.isNone) = true := by kernel_rfl
theorem bd5 : (!(Try.f5.name == "runtime.NumGoroutine") && !Try.f5.body.isNone) = true := by kernel_rfl
theorem bd75 : (!(Try.f75.name == "runtime.NumGoroutine") && !Try.f75.body.isNone) = true := by kernel_rfl
theorem un117 : (Try.prog.underlying 117).isSome = true := by kernel_rfl
theorem bd58 : (!(Try.f58.name == "runtime.NumGoroutine") && !Try.f58.body.isNone) = true := by kernel_rfl
theorem sc119 : isScalar Try.prog 119 = true := by kernel_rfl
theorem sz119 : sizeT Try.prog 119 1 = true := by kernel_rfl
theorem Q32 (d : Nat) (x y : T_addr_Addr) (w : World) : (Op.equalIn (d + 3) 32 (.agg #[Value.bool x.f_Six, o8 x.f_B 0, o8 x.f_B 1, o8 x.f_B 2, o8 x.f_B 3, o8 x.f_B 4, o8 x.f_B 5, o8 x.f_B 6, o8 x.f_B 7, o8 x.f_B 8, o8 x.f_B 9, o8 x.f_B 10, o8 x.f_B 11, o8 x.f_B 12, o8 x.f_B 13, o8 x.f_B 14, o8 x.f_B 15]) (.agg #[Value.bool y.f_Six, o8 y.f_B 0, o8 y.f_B 1, o8 y.f_B 2, o8 y.f_B 3, o8 y.f_B 4, o8 y.f_B 5, o8 y.f_B 6, o8 y.f_B 7, o8 y.f_B 8, o8 y.f_B 9, o8 y.f_B 10, o8 y.f_B 11, o8 y.f_B 12, o8 y.f_B 13, o8 y.f_B 14, o8 y.f_B 15])).run Try.prog w = .ok (q_addr_Addr x y) w :=
 (run_equalIn_agg w (d + 2) 32 _ _ (by kernel_rfl) (by kernel_rfl)).trans (EqT.run (tr := [(false, 4, 0), (false, 30, 1)]) (by kernel_rfl) ⟨_, _, _, _, rfl, part_s sc4 rfl, part_s sc4 rfl, run_equalIn_bool' w (d + 1) 4 _ _ Try.underlying4, ⟨_, _, _, _, rfl, part_a (us := arrC 16 .u8 x.f_B) ag30 rfl, part_a (us := arrC 16 .u8 y.f_B) ag30 rfl, eq_arr' Try.underlying30 Try.underlying5 sz5 (d + 0) x.f_B y.f_B w, rfl, rfl⟩, rfl⟩)
theorem Q32t (x y : T_addr_Addr) {xs ys : List Value} (w : World) (hx : xs = [Value.bool x.f_Six, o8 x.f_B 0, o8 x.f_B 1, o8 x.f_B 2, o8 x.f_B 3, o8 x.f_B 4, o8 x.f_B 5, o8 x.f_B 6, o8 x.f_B 7, o8 x.f_B 8, o8 x.f_B 9, o8 x.f_B 10, o8 x.f_B 11, o8 x.f_B 12, o8 x.f_B 13, o8 x.f_B 14, o8 x.f_B 15]) (hy : ys = [Value.bool y.f_Six, o8 y.f_B 0, o8 y.f_B 1, o8 y.f_B 2, o8 y.f_B 3, o8 y.f_B 4, o8 y.f_B 5, o8 y.f_B 6, o8 y.f_B 7, o8 y.f_B 8, o8 y.f_B 9, o8 y.f_B 10, o8 y.f_B 11, o8 y.f_B 12, o8 y.f_B 13, o8 y.f_B 14, o8 y.f_B 15]) : (Op.equalIn 10000 32 (.agg xs.toArray) (.agg ys.toArray)).run Try.prog w = .ok (q_addr_Addr x y) w := by
 subst hx; subst hy; exact Q32 9997 x y w
theorem Q35 (d : Nat) (x y : T_packet_Key) (w : World) : (Op.equalIn (d + 4) 35 (.agg #[Value.bool x.f_Src.f_Six, o8 x.f_Src.f_B 0, o8 x.f_Src.f_B 1, o8 x.f_Src.f_B 2, o8 x.f_Src.f_B 3, o8 x.f_Src.f_B 4, o8 x.f_Src.f_B 5, o8 x.f_Src.f_B 6, o8 x.f_Src.f_B 7, o8 x.f_Src.f_B 8, o8 x.f_Src.f_B 9, o8 x.f_Src.f_B 10, o8 x.f_Src.f_B 11, o8 x.f_Src.f_B 12, o8 x.f_Src.f_B 13, o8 x.f_Src.f_B 14, o8 x.f_Src.f_B 15, Value.bool x.f_Dst.f_Six, o8 x.f_Dst.f_B 0, o8 x.f_Dst.f_B 1, o8 x.f_Dst.f_B 2, o8 x.f_Dst.f_B 3, o8 x.f_Dst.f_B 4, o8 x.f_Dst.f_B 5, o8 x.f_Dst.f_B 6, o8 x.f_Dst.f_B 7, o8 x.f_Dst.f_B 8, o8 x.f_Dst.f_B 9, o8 x.f_Dst.f_B 10, o8 x.f_Dst.f_B 11, o8 x.f_Dst.f_B 12, o8 x.f_Dst.f_B 13, o8 x.f_Dst.f_B 14, o8 x.f_Dst.f_B 15, Value.int .u8 x.f_Proto, Value.int .u16 x.f_SrcPort, Value.int .u16 x.f_DstPort]) (.agg #[Value.bool y.f_Src.f_Six, o8 y.f_Src.f_B 0, o8 y.f_Src.f_B 1, o8 y.f_Src.f_B 2, o8 y.f_Src.f_B 3, o8 y.f_Src.f_B 4, o8 y.f_Src.f_B 5, o8 y.f_Src.f_B 6, o8 y.f_Src.f_B 7, o8 y.f_Src.f_B 8, o8 y.f_Src.f_B 9, o8 y.f_Src.f_B 10, o8 y.f_Src.f_B 11, o8 y.f_Src.f_B 12, o8 y.f_Src.f_B 13, o8 y.f_Src.f_B 14, o8 y.f_Src.f_B 15, Value.bool y.f_Dst.f_Six, o8 y.f_Dst.f_B 0, o8 y.f_Dst.f_B 1, o8 y.f_Dst.f_B 2, o8 y.f_Dst.f_B 3, o8 y.f_Dst.f_B 4, o8 y.f_Dst.f_B 5, o8 y.f_Dst.f_B 6, o8 y.f_Dst.f_B 7, o8 y.f_Dst.f_B 8, o8 y.f_Dst.f_B 9, o8 y.f_Dst.f_B 10, o8 y.f_Dst.f_B 11, o8 y.f_Dst.f_B 12, o8 y.f_Dst.f_B 13, o8 y.f_Dst.f_B 14, o8 y.f_Dst.f_B 15, Value.int .u8 y.f_Proto, Value.int .u16 y.f_SrcPort, Value.int .u16 y.f_DstPort])).run Try.prog w = .ok (q_packet_Key x y) w :=
 (run_equalIn_agg w (d + 3) 35 _ _ (by kernel_rfl) (by kernel_rfl)).trans (EqT.run (tr := [(false, 32, 0), (false, 32, 17), (false, 5, 34), (false, 33, 35), (false, 33, 36)]) (by kernel_rfl) ⟨_, _, _, _, rfl, part_a (us := [Value.bool x.f_Src.f_Six, o8 x.f_Src.f_B 0, o8 x.f_Src.f_B 1, o8 x.f_Src.f_B 2, o8 x.f_Src.f_B 3, o8 x.f_Src.f_B 4, o8 x.f_Src.f_B 5, o8 x.f_Src.f_B 6, o8 x.f_Src.f_B 7, o8 x.f_Src.f_B 8, o8 x.f_Src.f_B 9, o8 x.f_Src.f_B 10, o8 x.f_Src.f_B 11, o8 x.f_Src.f_B 12, o8 x.f_Src.f_B 13, o8 x.f_Src.f_B 14, o8 x.f_Src.f_B 15]) ag32 rfl, part_a (us := [Value.bool y.f_Src.f_Six, o8 y.f_Src.f_B 0, o8 y.f_Src.f_B 1, o8 y.f_Src.f_B 2, o8 y.f_Src.f_B 3, o8 y.f_Src.f_B 4, o8 y.f_Src.f_B 5, o8 y.f_Src.f_B 6, o8 y.f_Src.f_B 7, o8 y.f_Src.f_B 8, o8 y.f_Src.f_B 9, o8 y.f_Src.f_B 10, o8 y.f_Src.f_B 11, o8 y.f_Src.f_B 12, o8 y.f_Src.f_B 13, o8 y.f_Src.f_B 14, o8 y.f_Src.f_B 15]) ag32 rfl, Q32 (d + 0) x.f_Src y.f_Src w, ⟨_, _, _, _, rfl, part_a (us := [Value.bool x.f_Dst.f_Six, o8 x.f_Dst.f_B 0, o8 x.f_Dst.f_B 1, o8 x.f_Dst.f_B 2, o8 x.f_Dst.f_B 3, o8 x.f_Dst.f_B 4, o8 x.f_Dst.f_B 5, o8 x.f_Dst.f_B 6, o8 x.f_Dst.f_B 7, o8 x.f_Dst.f_B 8, o8 x.f_Dst.f_B 9, o8 x.f_Dst.f_B 10, o8 x.f_Dst.f_B 11, o8 x.f_Dst.f_B 12, o8 x.f_Dst.f_B 13, o8 x.f_Dst.f_B 14, o8 x.f_Dst.f_B 15]) ag32 rfl, part_a (us := [Value.bool y.f_Dst.f_Six, o8 y.f_Dst.f_B 0, o8 y.f_Dst.f_B 1, o8 y.f_Dst.f_B 2, o8 y.f_Dst.f_B 3, o8 y.f_Dst.f_B 4, o8 y.f_Dst.f_B 5, o8 y.f_Dst.f_B 6, o8 y.f_Dst.f_B 7, o8 y.f_Dst.f_B 8, o8 y.f_Dst.f_B 9, o8 y.f_Dst.f_B 10, o8 y.f_Dst.f_B 11, o8 y.f_Dst.f_B 12, o8 y.f_Dst.f_B 13, o8 y.f_Dst.f_B 14, o8 y.f_Dst.f_B 15]) ag32 rfl, Q32 (d + 0) x.f_Dst y.f_Dst w, ⟨_, _, _, _, rfl, part_s sc5 rfl, part_s sc5 rfl, run_equalIn_int w (d + 2) 5 _ _ _ _ Try.underlying5, ⟨_, _, _, _, rfl, part_s sc33 rfl, part_s sc33 rfl, run_equalIn_int w (d + 2) 33 _ _ _ _ Try.underlying33, ⟨_, _, _, _, rfl, part_s sc33 rfl, part_s sc33 rfl, run_equalIn_int w (d + 2) 33 _ _ _ _ Try.underlying33, rfl, rfl⟩, rfl⟩, rfl⟩, rfl⟩, rfl⟩)
theorem Q35t (x y : T_packet_Key) {xs ys : List Value} (w : World) (hx : xs = [Value.bool x.f_Src.f_Six, o8 x.f_Src.f_B 0, o8 x.f_Src.f_B 1, o8 x.f_Src.f_B 2, o8 x.f_Src.f_B 3, o8 x.f_Src.f_B 4, o8 x.f_Src.f_B 5, o8 x.f_Src.f_B 6, o8 x.f_Src.f_B 7, o8 x.f_Src.f_B 8, o8 x.f_Src.f_B 9, o8 x.f_Src.f_B 10, o8 x.f_Src.f_B 11, o8 x.f_Src.f_B 12, o8 x.f_Src.f_B 13, o8 x.f_Src.f_B 14, o8 x.f_Src.f_B 15, Value.bool x.f_Dst.f_Six, o8 x.f_Dst.f_B 0, o8 x.f_Dst.f_B 1, o8 x.f_Dst.f_B 2, o8 x.f_Dst.f_B 3, o8 x.f_Dst.f_B 4, o8 x.f_Dst.f_B 5, o8 x.f_Dst.f_B 6, o8 x.f_Dst.f_B 7, o8 x.f_Dst.f_B 8, o8 x.f_Dst.f_B 9, o8 x.f_Dst.f_B 10, o8 x.f_Dst.f_B 11, o8 x.f_Dst.f_B 12, o8 x.f_Dst.f_B 13, o8 x.f_Dst.f_B 14, o8 x.f_Dst.f_B 15, Value.int .u8 x.f_Proto, Value.int .u16 x.f_SrcPort, Value.int .u16 x.f_DstPort]) (hy : ys = [Value.bool y.f_Src.f_Six, o8 y.f_Src.f_B 0, o8 y.f_Src.f_B 1, o8 y.f_Src.f_B 2, o8 y.f_Src.f_B 3, o8 y.f_Src.f_B 4, o8 y.f_Src.f_B 5, o8 y.f_Src.f_B 6, o8 y.f_Src.f_B 7, o8 y.f_Src.f_B 8, o8 y.f_Src.f_B 9, o8 y.f_Src.f_B 10, o8 y.f_Src.f_B 11, o8 y.f_Src.f_B 12, o8 y.f_Src.f_B 13, o8 y.f_Src.f_B 14, o8 y.f_Src.f_B 15, Value.bool y.f_Dst.f_Six, o8 y.f_Dst.f_B 0, o8 y.f_Dst.f_B 1, o8 y.f_Dst.f_B 2, o8 y.f_Dst.f_B 3, o8 y.f_Dst.f_B 4, o8 y.f_Dst.f_B 5, o8 y.f_Dst.f_B 6, o8 y.f_Dst.f_B 7, o8 y.f_Dst.f_B 8, o8 y.f_Dst.f_B 9, o8 y.f_Dst.f_B 10, o8 y.f_Dst.f_B 11, o8 y.f_Dst.f_B 12, o8 y.f_Dst.f_B 13, o8 y.f_Dst.f_B 14, o8 y.f_Dst.f_B 15, Value.int .u8 y.f_Proto, Value.int .u16 y.f_SrcPort, Value.int .u16 y.f_DstPort]) : (Op.equalIn 10000 35 (.agg xs.toArray) (.agg ys.toArray)).run Try.prog w = .ok (q_packet_Key x y) w := by
 subst hx; subst hy; exact Q35 9996 x y w
theorem Q52 (d : Nat) (x y : T_addr_Addr) (w : World) : (Op.equalIn (d + 3) 52 (.agg #[Value.bool x.f_Six, o8 x.f_B 0, o8 x.f_B 1, o8 x.f_B 2, o8 x.f_B 3, o8 x.f_B 4, o8 x.f_B 5, o8 x.f_B 6, o8 x.f_B 7, o8 x.f_B 8, o8 x.f_B 9, o8 x.f_B 10, o8 x.f_B 11, o8 x.f_B 12, o8 x.f_B 13, o8 x.f_B 14, o8 x.f_B 15]) (.agg #[Value.bool y.f_Six, o8 y.f_B 0, o8 y.f_B 1, o8 y.f_B 2, o8 y.f_B 3, o8 y.f_B 4, o8 y.f_B 5, o8 y.f_B 6, o8 y.f_B 7, o8 y.f_B 8, o8 y.f_B 9, o8 y.f_B 10, o8 y.f_B 11, o8 y.f_B 12, o8 y.f_B 13, o8 y.f_B 14, o8 y.f_B 15])).run Try.prog w = .ok (q_addr_Addr x y) w :=
 (run_equalIn_agg w (d + 2) 52 _ _ (by kernel_rfl) (by kernel_rfl)).trans (EqT.run (tr := [(false, 4, 0), (false, 30, 1)]) (by kernel_rfl) ⟨_, _, _, _, rfl, part_s sc4 rfl, part_s sc4 rfl, run_equalIn_bool' w (d + 1) 4 _ _ Try.underlying4, ⟨_, _, _, _, rfl, part_a (us := arrC 16 .u8 x.f_B) ag30 rfl, part_a (us := arrC 16 .u8 y.f_B) ag30 rfl, eq_arr' Try.underlying30 Try.underlying5 sz5 (d + 0) x.f_B y.f_B w, rfl, rfl⟩, rfl⟩)
theorem Q52t (x y : T_addr_Addr) {xs ys : List Value} (w : World) (hx : xs = [Value.bool x.f_Six, o8 x.f_B 0, o8 x.f_B 1, o8 x.f_B 2, o8 x.f_B 3, o8 x.f_B 4, o8 x.f_B 5, o8 x.f_B 6, o8 x.f_B 7, o8 x.f_B 8, o8 x.f_B 9, o8 x.f_B 10, o8 x.f_B 11, o8 x.f_B 12, o8 x.f_B 13, o8 x.f_B 14, o8 x.f_B 15]) (hy : ys = [Value.bool y.f_Six, o8 y.f_B 0, o8 y.f_B 1, o8 y.f_B 2, o8 y.f_B 3, o8 y.f_B 4, o8 y.f_B 5, o8 y.f_B 6, o8 y.f_B 7, o8 y.f_B 8, o8 y.f_B 9, o8 y.f_B 10, o8 y.f_B 11, o8 y.f_B 12, o8 y.f_B 13, o8 y.f_B 14, o8 y.f_B 15]) : (Op.equalIn 10000 52 (.agg xs.toArray) (.agg ys.toArray)).run Try.prog w = .ok (q_addr_Addr x y) w := by
 subst hx; subst hy; exact Q52 9997 x y w
theorem Q54 (d : Nat) (x y : T_ref08_Key) (w : World) : (Op.equalIn (d + 4) 54 (.agg #[Value.bool x.f_Src.f_Six, o8 x.f_Src.f_B 0, o8 x.f_Src.f_B 1, o8 x.f_Src.f_B 2, o8 x.f_Src.f_B 3, o8 x.f_Src.f_B 4, o8 x.f_Src.f_B 5, o8 x.f_Src.f_B 6, o8 x.f_Src.f_B 7, o8 x.f_Src.f_B 8, o8 x.f_Src.f_B 9, o8 x.f_Src.f_B 10, o8 x.f_Src.f_B 11, o8 x.f_Src.f_B 12, o8 x.f_Src.f_B 13, o8 x.f_Src.f_B 14, o8 x.f_Src.f_B 15, Value.bool x.f_Dst.f_Six, o8 x.f_Dst.f_B 0, o8 x.f_Dst.f_B 1, o8 x.f_Dst.f_B 2, o8 x.f_Dst.f_B 3, o8 x.f_Dst.f_B 4, o8 x.f_Dst.f_B 5, o8 x.f_Dst.f_B 6, o8 x.f_Dst.f_B 7, o8 x.f_Dst.f_B 8, o8 x.f_Dst.f_B 9, o8 x.f_Dst.f_B 10, o8 x.f_Dst.f_B 11, o8 x.f_Dst.f_B 12, o8 x.f_Dst.f_B 13, o8 x.f_Dst.f_B 14, o8 x.f_Dst.f_B 15, Value.int .u8 x.f_Proto, Value.int .u16 x.f_SrcPort, Value.int .u16 x.f_DstPort]) (.agg #[Value.bool y.f_Src.f_Six, o8 y.f_Src.f_B 0, o8 y.f_Src.f_B 1, o8 y.f_Src.f_B 2, o8 y.f_Src.f_B 3, o8 y.f_Src.f_B 4, o8 y.f_Src.f_B 5, o8 y.f_Src.f_B 6, o8 y.f_Src.f_B 7, o8 y.f_Src.f_B 8, o8 y.f_Src.f_B 9, o8 y.f_Src.f_B 10, o8 y.f_Src.f_B 11, o8 y.f_Src.f_B 12, o8 y.f_Src.f_B 13, o8 y.f_Src.f_B 14, o8 y.f_Src.f_B 15, Value.bool y.f_Dst.f_Six, o8 y.f_Dst.f_B 0, o8 y.f_Dst.f_B 1, o8 y.f_Dst.f_B 2, o8 y.f_Dst.f_B 3, o8 y.f_Dst.f_B 4, o8 y.f_Dst.f_B 5, o8 y.f_Dst.f_B 6, o8 y.f_Dst.f_B 7, o8 y.f_Dst.f_B 8, o8 y.f_Dst.f_B 9, o8 y.f_Dst.f_B 10, o8 y.f_Dst.f_B 11, o8 y.f_Dst.f_B 12, o8 y.f_Dst.f_B 13, o8 y.f_Dst.f_B 14, o8 y.f_Dst.f_B 15, Value.int .u8 y.f_Proto, Value.int .u16 y.f_SrcPort, Value.int .u16 y.f_DstPort])).run Try.prog w = .ok (q_ref08_Key x y) w :=
 (run_equalIn_agg w (d + 3) 54 _ _ (by kernel_rfl) (by kernel_rfl)).trans (EqT.run (tr := [(false, 52, 0), (false, 52, 17), (false, 5, 34), (false, 33, 35), (false, 33, 36)]) (by kernel_rfl) ⟨_, _, _, _, rfl, part_a (us := [Value.bool x.f_Src.f_Six, o8 x.f_Src.f_B 0, o8 x.f_Src.f_B 1, o8 x.f_Src.f_B 2, o8 x.f_Src.f_B 3, o8 x.f_Src.f_B 4, o8 x.f_Src.f_B 5, o8 x.f_Src.f_B 6, o8 x.f_Src.f_B 7, o8 x.f_Src.f_B 8, o8 x.f_Src.f_B 9, o8 x.f_Src.f_B 10, o8 x.f_Src.f_B 11, o8 x.f_Src.f_B 12, o8 x.f_Src.f_B 13, o8 x.f_Src.f_B 14, o8 x.f_Src.f_B 15]) ag52 rfl, part_a (us := [Value.bool y.f_Src.f_Six, o8 y.f_Src.f_B 0, o8 y.f_Src.f_B 1, o8 y.f_Src.f_B 2, o8 y.f_Src.f_B 3, o8 y.f_Src.f_B 4, o8 y.f_Src.f_B 5, o8 y.f_Src.f_B 6, o8 y.f_Src.f_B 7, o8 y.f_Src.f_B 8, o8 y.f_Src.f_B 9, o8 y.f_Src.f_B 10, o8 y.f_Src.f_B 11, o8 y.f_Src.f_B 12, o8 y.f_Src.f_B 13, o8 y.f_Src.f_B 14, o8 y.f_Src.f_B 15]) ag52 rfl, Q52 (d + 0) x.f_Src y.f_Src w, ⟨_, _, _, _, rfl, part_a (us := [Value.bool x.f_Dst.f_Six, o8 x.f_Dst.f_B 0, o8 x.f_Dst.f_B 1, o8 x.f_Dst.f_B 2, o8 x.f_Dst.f_B 3, o8 x.f_Dst.f_B 4, o8 x.f_Dst.f_B 5, o8 x.f_Dst.f_B 6, o8 x.f_Dst.f_B 7, o8 x.f_Dst.f_B 8, o8 x.f_Dst.f_B 9, o8 x.f_Dst.f_B 10, o8 x.f_Dst.f_B 11, o8 x.f_Dst.f_B 12, o8 x.f_Dst.f_B 13, o8 x.f_Dst.f_B 14, o8 x.f_Dst.f_B 15]) ag52 rfl, part_a (us := [Value.bool y.f_Dst.f_Six, o8 y.f_Dst.f_B 0, o8 y.f_Dst.f_B 1, o8 y.f_Dst.f_B 2, o8 y.f_Dst.f_B 3, o8 y.f_Dst.f_B 4, o8 y.f_Dst.f_B 5, o8 y.f_Dst.f_B 6, o8 y.f_Dst.f_B 7, o8 y.f_Dst.f_B 8, o8 y.f_Dst.f_B 9, o8 y.f_Dst.f_B 10, o8 y.f_Dst.f_B 11, o8 y.f_Dst.f_B 12, o8 y.f_Dst.f_B 13, o8 y.f_Dst.f_B 14, o8 y.f_Dst.f_B 15]) ag52 rfl, Q52 (d + 0) x.f_Dst y.f_Dst w, ⟨_, _, _, _, rfl, part_s sc5 rfl, part_s sc5 rfl, run_equalIn_int w (d + 2) 5 _ _ _ _ Try.underlying5, ⟨_, _, _, _, rfl, part_s sc33 rfl, part_s sc33 rfl, run_equalIn_int w (d + 2) 33 _ _ _ _ Try.underlying33, ⟨_, _, _, _, rfl, part_s sc33 rfl, part_s sc33 rfl, run_equalIn_int w (d + 2) 33 _ _ _ _ Try.underlying33, rfl, rfl⟩, rfl⟩, rfl⟩, rfl⟩, rfl⟩)
theorem Q54t (x y : T_ref08_Key) {xs ys : List Value} (w : World) (hx : xs = [Value.bool x.f_Src.f_Six, o8 x.f_Src.f_B 0, o8 x.f_Src.f_B 1, o8 x.f_Src.f_B 2, o8 x.f_Src.f_B 3, o8 x.f_Src.f_B 4, o8 x.f_Src.f_B 5, o8 x.f_Src.f_B 6, o8 x.f_Src.f_B 7, o8 x.f_Src.f_B 8, o8 x.f_Src.f_B 9, o8 x.f_Src.f_B 10, o8 x.f_Src.f_B 11, o8 x.f_Src.f_B 12, o8 x.f_Src.f_B 13, o8 x.f_Src.f_B 14, o8 x.f_Src.f_B 15, Value.bool x.f_Dst.f_Six, o8 x.f_Dst.f_B 0, o8 x.f_Dst.f_B 1, o8 x.f_Dst.f_B 2, o8 x.f_Dst.f_B 3, o8 x.f_Dst.f_B 4, o8 x.f_Dst.f_B 5, o8 x.f_Dst.f_B 6, o8 x.f_Dst.f_B 7, o8 x.f_Dst.f_B 8, o8 x.f_Dst.f_B 9, o8 x.f_Dst.f_B 10, o8 x.f_Dst.f_B 11, o8 x.f_Dst.f_B 12, o8 x.f_Dst.f_B 13, o8 x.f_Dst.f_B 14, o8 x.f_Dst.f_B 15, Value.int .u8 x.f_Proto, Value.int .u16 x.f_SrcPort, Value.int .u16 x.f_DstPort]) (hy : ys = [Value.bool y.f_Src.f_Six, o8 y.f_Src.f_B 0, o8 y.f_Src.f_B 1, o8 y.f_Src.f_B 2, o8 y.f_Src.f_B 3, o8 y.f_Src.f_B 4, o8 y.f_Src.f_B 5, o8 y.f_Src.f_B 6, o8 y.f_Src.f_B 7, o8 y.f_Src.f_B 8, o8 y.f_Src.f_B 9, o8 y.f_Src.f_B 10, o8 y.f_Src.f_B 11, o8 y.f_Src.f_B 12, o8 y.f_Src.f_B 13, o8 y.f_Src.f_B 14, o8 y.f_Src.f_B 15, Value.bool y.f_Dst.f_Six, o8 y.f_Dst.f_B 0, o8 y.f_Dst.f_B 1, o8 y.f_Dst.f_B 2, o8 y.f_Dst.f_B 3, o8 y.f_Dst.f_B 4, o8 y.f_Dst.f_B 5, o8 y.f_Dst.f_B 6, o8 y.f_Dst.f_B 7, o8 y.f_Dst.f_B 8, o8 y.f_Dst.f_B 9, o8 y.f_Dst.f_B 10, o8 y.f_Dst.f_B 11, o8 y.f_Dst.f_B 12, o8 y.f_Dst.f_B 13, o8 y.f_Dst.f_B 14, o8 y.f_Dst.f_B 15, Value.int .u8 y.f_Proto, Value.int .u16 y.f_SrcPort, Value.int .u16 y.f_DstPort]) : (Op.equalIn 10000 54 (.agg xs.toArray) (.agg ys.toArray)).run Try.prog w = .ok (q_ref08_Key x y) w := by
 subst hx; subst hy; exact Q54 9996 x y w

end Go.Proofs.Ytnbakndfnjflhaa
