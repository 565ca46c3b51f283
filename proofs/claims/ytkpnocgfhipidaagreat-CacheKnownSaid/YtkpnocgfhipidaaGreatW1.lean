/- Printed by a program of this claim: each call returns what the plain function of its name gives. -/
import Derived.Test.YtkpnocgfhipidaaGreatRows
import Derived.Test.YtkpnocgfhipidaaGreatF
set_option linter.unusedVariables false
set_option maxRecDepth 100000
set_option maxHeartbeats 40000000
namespace Go.Proofs.YtkpnocgfhipidaaGreat
open Go Go.Ox Go.RowKit
theorem sl25 : SliceT Tryz.prog 25 46 43 80 := ⟨Tryz.underlying25, by kernel_rfl⟩
theorem bt24 : BuildT Tryz.prog 24 [(0, 1), (1, 1), (2, 1), (3, 1), (4, 1)] [vI 0, v64 0, v64 0, v64 0, v64 0] := ⟨by kernel_rfl, by unfold ZeroT; kernel_rfl⟩
theorem fl24_0 : FieldT Tryz.prog 24 0 0 3 1 := ⟨by kernel_rfl, by kernel_rfl⟩
theorem sc3 : isScalar Tryz.prog 3 = true := by kernel_rfl
theorem fl24_1 : FieldT Tryz.prog 24 1 1 22 1 := ⟨by kernel_rfl, by kernel_rfl⟩
theorem sc22 : isScalar Tryz.prog 22 = true := by kernel_rfl
theorem fl24_2 : FieldT Tryz.prog 24 2 2 22 1 := ⟨by kernel_rfl, by kernel_rfl⟩
theorem fl24_3 : FieldT Tryz.prog 24 3 3 22 1 := ⟨by kernel_rfl, by kernel_rfl⟩
theorem fl24_4 : FieldT Tryz.prog 24 4 4 22 1 := ⟨by kernel_rfl, by kernel_rfl⟩
theorem bd6 : BD Tryz.f6 = true := by kernel_rfl
theorem un3 : (Tryz.prog.underlying 3).isSome = true := by kernel_rfl
theorem un22 : (Tryz.prog.underlying 22).isSome = true := by kernel_rfl
theorem un5 : (Tryz.prog.underlying 5).isSome = true := by kernel_rfl
theorem bd57 : BD Tryz.f57 = true := by kernel_rfl
theorem bd20 : BD Tryz.f20 = true := by kernel_rfl
theorem bd19 : BD Tryz.f19 = true := by kernel_rfl
theorem sl117 : SliceT Tryz.prog 117 140 39 56 := ⟨Tryz.underlying117, by kernel_rfl⟩
theorem ze140 : ZeroT Tryz.prog 140 [vB false, vB false, v8 0, v8 0, v8 0, v8 0, v8 0, v8 0, v8 0, v8 0, v8 0, v8 0, v8 0, v8 0, v8 0, v8 0, v8 0, v8 0, vB false, v8 0, v8 0, v8 0, v8 0, v8 0, v8 0, v8 0, v8 0, v8 0, v8 0, v8 0, v8 0, v8 0, v8 0, v8 0, v8 0, v8 0, v16 0, v16 0, v64 0] := by unfold ZeroT; kernel_rfl
theorem bt119 : BuildT Tryz.prog 119 [(0, 1), (1, 1)] [.slice none 0 0, vI 0] := ⟨by kernel_rfl, by unfold ZeroT; kernel_rfl⟩
theorem ag24 : isAggT Tryz.prog 24 5 = true := by kernel_rfl
theorem bt69 : BuildT Tryz.prog 69 [(0, 1), (1, 5), (6, 1), (7, 1)] [v64 0, vI 0, v64 0, v64 0, v64 0, v64 0, .pointer none, .slice none 0 0] := ⟨by kernel_rfl, by unfold ZeroT; kernel_rfl⟩
theorem ze44 : ZeroT Tryz.prog 44 [vB false, v8 0, v8 0, v8 0, v8 0, v8 0, v8 0, v8 0, v8 0, v8 0, v8 0, v8 0, v8 0, v8 0, v8 0, v8 0, v8 0, vB false, v8 0, v8 0, v8 0, v8 0, v8 0, v8 0, v8 0, v8 0, v8 0, v8 0, v8 0, v8 0, v8 0, v8 0, v8 0, v8 0, v8 0, v16 0, v16 0, vI 0, v8 0, vB false] := by unfold ZeroT; kernel_rfl
theorem bt42 : BuildT Tryz.prog 42 [(0, 17), (17, 17), (34, 1), (35, 1), (36, 1)] [vB false, v8 0, v8 0, v8 0, v8 0, v8 0, v8 0, v8 0, v8 0, v8 0, v8 0, v8 0, v8 0, v8 0, v8 0, v8 0, v8 0, vB false, v8 0, v8 0, v8 0, v8 0, v8 0, v8 0, v8 0, v8 0, v8 0, v8 0, v8 0, v8 0, v8 0, v8 0, v8 0, v8 0, v8 0, v16 0, v16 0] := ⟨by kernel_rfl, by unfold ZeroT; kernel_rfl⟩
theorem bt44 : BuildT Tryz.prog 44 [(0, 37), (37, 1), (38, 1), (39, 1)] [vB false, v8 0, v8 0, v8 0, v8 0, v8 0, v8 0, v8 0, v8 0, v8 0, v8 0, v8 0, v8 0, v8 0, v8 0, v8 0, v8 0, vB false, v8 0, v8 0, v8 0, v8 0, v8 0, v8 0, v8 0, v8 0, v8 0, v8 0, v8 0, v8 0, v8 0, v8 0, v8 0, v8 0, v8 0, v16 0, v16 0, vI 0, v8 0, vB false] := ⟨by kernel_rfl, by unfold ZeroT; kernel_rfl⟩
theorem ag44 : isAggT Tryz.prog 44 40 = true := by kernel_rfl
theorem sz44 : sizeT Tryz.prog 44 40 = true := by kernel_rfl
theorem bd15 : BD Tryz.f15 = true := by kernel_rfl
theorem fl44_0 : FieldT Tryz.prog 44 0 0 42 37 := ⟨by kernel_rfl, by kernel_rfl⟩
theorem ag42 : isAggT Tryz.prog 42 37 = true := by kernel_rfl
theorem ze42 : ZeroT Tryz.prog 42 [vB false, v8 0, v8 0, v8 0, v8 0, v8 0, v8 0, v8 0, v8 0, v8 0, v8 0, v8 0, v8 0, v8 0, v8 0, v8 0, v8 0, vB false, v8 0, v8 0, v8 0, v8 0, v8 0, v8 0, v8 0, v8 0, v8 0, v8 0, v8 0, v8 0, v8 0, v8 0, v8 0, v8 0, v8 0, v16 0, v16 0] := by unfold ZeroT; kernel_rfl
theorem fl42_2 : FieldT Tryz.prog 42 2 34 5 1 := ⟨by kernel_rfl, by kernel_rfl⟩
theorem sc5 : isScalar Tryz.prog 5 = true := by kernel_rfl
theorem bd70 : BD Tryz.f70 = true := by kernel_rfl
theorem fl42_3 : FieldT Tryz.prog 42 3 35 40 1 := ⟨by kernel_rfl, by kernel_rfl⟩
theorem bd71 : BD Tryz.f71 = true := by kernel_rfl
theorem fl42_4 : FieldT Tryz.prog 42 4 36 40 1 := ⟨by kernel_rfl, by kernel_rfl⟩
theorem sz40 : sizeT Tryz.prog 40 1 = true := by kernel_rfl
theorem fl42_0 : FieldT Tryz.prog 42 0 0 39 17 := ⟨by kernel_rfl, by kernel_rfl⟩
theorem ag39 : isAggT Tryz.prog 39 17 = true := by kernel_rfl
theorem ze37 : ZeroT Tryz.prog 37 [v8 0, v8 0, v8 0, v8 0, v8 0, v8 0, v8 0, v8 0, v8 0, v8 0, v8 0, v8 0, v8 0, v8 0, v8 0, v8 0] := by unfold ZeroT; kernel_rfl
theorem fl39_1 : FieldT Tryz.prog 39 1 1 37 16 := ⟨by kernel_rfl, by kernel_rfl⟩
theorem sz5 : sizeT Tryz.prog 5 1 = true := by kernel_rfl
theorem fl39_0 : FieldT Tryz.prog 39 0 0 4 1 := ⟨by kernel_rfl, by kernel_rfl⟩
theorem sc4 : isScalar Tryz.prog 4 = true := by kernel_rfl
theorem bd93 : BD Tryz.f93 = true := by kernel_rfl
theorem sl156 : SliceT Tryz.prog 156 5 1 1 := ⟨Tryz.underlying156, by kernel_rfl⟩
theorem ag37 : isAggT Tryz.prog 37 16 = true := by kernel_rfl
theorem moP : Tryz.prog.follows .mixedOrders = true := by kernel_rfl
theorem bd72 : BD Tryz.f72 = true := by kernel_rfl
theorem fl42_1 : FieldT Tryz.prog 42 1 17 39 17 := ⟨by kernel_rfl, by kernel_rfl⟩
theorem sz42 : sizeT Tryz.prog 42 37 = true := by kernel_rfl
theorem bd37 : BD Tryz.f37 = true := by kernel_rfl
theorem sc27 : isScalar Tryz.prog 27 = true := by kernel_rfl
theorem fl69_0 : FieldT Tryz.prog 69 0 0 22 1 := ⟨by kernel_rfl, by kernel_rfl⟩
theorem fl69_3 : FieldT Tryz.prog 69 3 7 55 1 := ⟨by kernel_rfl, by kernel_rfl⟩
theorem sc55 : isScalar Tryz.prog 55 = true := by kernel_rfl
theorem sl55 : SliceT Tryz.prog 55 62 44 80 := ⟨Tryz.underlying55, by kernel_rfl⟩
theorem ag62 : isAggT Tryz.prog 62 44 = true := by kernel_rfl
theorem ze62 : ZeroT Tryz.prog 62 [vB false, v8 0, v8 0, v8 0, v8 0, v8 0, v8 0, v8 0, v8 0, v8 0, v8 0, v8 0, v8 0, v8 0, v8 0, v8 0, v8 0, vB false, v8 0, v8 0, v8 0, v8 0, v8 0, v8 0, v8 0, v8 0, v8 0, v8 0, v8 0, v8 0, v8 0, v8 0, v8 0, v8 0, v8 0, v16 0, v16 0, v64 0, v64 0, v64 0, v64 0, v8 0, v8 0, v8 0] := by unfold ZeroT; kernel_rfl
theorem fl62_4 : FieldT Tryz.prog 62 4 40 22 1 := ⟨by kernel_rfl, by kernel_rfl⟩
theorem fl69_1 : FieldT Tryz.prog 69 1 1 24 5 := ⟨by kernel_rfl, by kernel_rfl⟩
theorem bd81 : BD Tryz.f81 = true := by kernel_rfl
theorem fl62_3 : FieldT Tryz.prog 62 3 39 22 1 := ⟨by kernel_rfl, by kernel_rfl⟩
theorem bd55 : BD Tryz.f55 = true := by kernel_rfl
theorem bd47 : BD Tryz.f47 = true := by kernel_rfl
theorem sz62 : sizeT Tryz.prog 62 44 = true := by kernel_rfl
theorem bd83 : BD Tryz.f83 = true := by kernel_rfl
theorem bd51 : BD Tryz.f51 = true := by kernel_rfl
theorem fl62_0 : FieldT Tryz.prog 62 0 0 42 37 := ⟨by kernel_rfl, by kernel_rfl⟩
theorem ze181 : ZeroT Tryz.prog 181 [.slice none 0 0] := by unfold ZeroT; kernel_rfl
theorem ze5 : ZeroT Tryz.prog 5 [v8 0] := by unfold ZeroT; kernel_rfl
theorem fl181_0 : FieldT Tryz.prog 181 0 0 156 1 := ⟨by kernel_rfl, by kernel_rfl⟩
theorem sc156 : isScalar Tryz.prog 156 = true := by kernel_rfl
theorem sz156 : sizeT Tryz.prog 156 1 = true := by kernel_rfl
theorem bd117 : BD Tryz.f117 = true := by kernel_rfl
theorem bd127 : BD Tryz.f127 = true := by kernel_rfl
theorem bd118 : BD Tryz.f118 = true := by kernel_rfl
theorem sc40 : isScalar Tryz.prog 40 = true := by kernel_rfl
theorem un40 : (Tryz.prog.underlying 40).isSome = true := by kernel_rfl
theorem bd132 : BD Tryz.f132 = true := by kernel_rfl
theorem bd133 : BD Tryz.f133 = true := by kernel_rfl
theorem bd128 : BD Tryz.f128 = true := by kernel_rfl
theorem bd129 : BD Tryz.f129 = true := by kernel_rfl
theorem bd119 : BD Tryz.f119 = true := by kernel_rfl
theorem bd130 : BD Tryz.f130 = true := by kernel_rfl
theorem bd120 : BD Tryz.f120 = true := by kernel_rfl
theorem bd106 : BD Tryz.f106 = true := by kernel_rfl
theorem bd105 : BD Tryz.f105 = true := by kernel_rfl
theorem bd84 : BD Tryz.f84 = true := by kernel_rfl
theorem bd52 : BD Tryz.f52 = true := by kernel_rfl
theorem sl148 : SliceT Tryz.prog 148 3 1 8 := ⟨Tryz.underlying148, by kernel_rfl⟩
theorem ze3 : ZeroT Tryz.prog 3 [vI 0] := by unfold ZeroT; kernel_rfl
theorem bd50 : BD Tryz.f50 = true := by kernel_rfl
theorem bd49 : BD Tryz.f49 = true := by kernel_rfl
theorem bd48 : BD Tryz.f48 = true := by kernel_rfl
theorem bd53 : BD Tryz.f53 = true := by kernel_rfl
theorem sc63 : isScalar Tryz.prog 63 = true := by kernel_rfl
theorem bd110 : BD Tryz.f110 = true := by kernel_rfl
theorem bd123 : BD Tryz.f123 = true := by kernel_rfl
theorem fl119_0 : FieldT Tryz.prog 119 0 0 117 1 := ⟨by kernel_rfl, by kernel_rfl⟩
theorem sc117 : isScalar Tryz.prog 117 = true := by kernel_rfl
theorem bd124 : BD Tryz.f124 = true := by kernel_rfl
theorem bd125 : BD Tryz.f125 = true := by kernel_rfl
theorem fl140_0 : FieldT Tryz.prog 140 0 0 4 1 := ⟨by kernel_rfl, by kernel_rfl⟩
theorem fl140_1 : FieldT Tryz.prog 140 1 1 42 37 := ⟨by kernel_rfl, by kernel_rfl⟩
theorem sz3 : sizeT Tryz.prog 3 1 = true := by kernel_rfl
theorem bd94 : BD Tryz.f94 = true := by kernel_rfl
theorem bd74 : BD Tryz.f74 = true := by kernel_rfl
theorem fl140_2 : FieldT Tryz.prog 140 2 38 22 1 := ⟨by kernel_rfl, by kernel_rfl⟩
theorem fl69_2 : FieldT Tryz.prog 69 2 6 63 1 := ⟨by kernel_rfl, by kernel_rfl⟩
theorem bd42 : BD Tryz.f42 = true := by kernel_rfl
theorem bt140 : BuildT Tryz.prog 140 [(0, 1), (1, 37), (38, 1)] [vB false, vB false, v8 0, v8 0, v8 0, v8 0, v8 0, v8 0, v8 0, v8 0, v8 0, v8 0, v8 0, v8 0, v8 0, v8 0, v8 0, v8 0, vB false, v8 0, v8 0, v8 0, v8 0, v8 0, v8 0, v8 0, v8 0, v8 0, v8 0, v8 0, v8 0, v8 0, v8 0, v8 0, v8 0, v8 0, v16 0, v16 0, v64 0] := ⟨by kernel_rfl, by unfold ZeroT; kernel_rfl⟩
theorem fl119_1 : FieldT Tryz.prog 119 1 1 3 1 := ⟨by kernel_rfl, by kernel_rfl⟩
theorem ag140 : isAggT Tryz.prog 140 39 = true := by kernel_rfl
theorem sz140 : sizeT Tryz.prog 140 39 = true := by kernel_rfl
theorem bd80 : BD Tryz.f80 = true := by kernel_rfl
theorem bd77 : BD Tryz.f77 = true := by kernel_rfl
theorem fl62_6 : FieldT Tryz.prog 62 6 42 5 1 := ⟨by kernel_rfl, by kernel_rfl⟩
theorem sz55 : sizeT Tryz.prog 55 1 = true := by kernel_rfl
theorem bd54 : BD Tryz.f54 = true := by kernel_rfl
theorem bd46 : BD Tryz.f46 = true := by kernel_rfl
theorem sz22 : sizeT Tryz.prog 22 1 = true := by kernel_rfl
theorem bd18 : BD Tryz.f18 = true := by kernel_rfl
theorem bd76 : BD Tryz.f76 = true := by kernel_rfl
theorem bd75 : BD Tryz.f75 = true := by kernel_rfl
theorem bt62 : BuildT Tryz.prog 62 [(0, 37), (37, 1), (38, 1), (39, 1), (40, 1), (41, 1), (42, 1), (43, 1)] [vB false, v8 0, v8 0, v8 0, v8 0, v8 0, v8 0, v8 0, v8 0, v8 0, v8 0, v8 0, v8 0, v8 0, v8 0, v8 0, v8 0, vB false, v8 0, v8 0, v8 0, v8 0, v8 0, v8 0, v8 0, v8 0, v8 0, v8 0, v8 0, v8 0, v8 0, v8 0, v8 0, v8 0, v8 0, v16 0, v16 0, v64 0, v64 0, v64 0, v64 0, v8 0, v8 0, v8 0] := ⟨by kernel_rfl, by unfold ZeroT; kernel_rfl⟩
theorem bd78 : BD Tryz.f78 = true := by kernel_rfl
theorem bd43 : BD Tryz.f43 = true := by kernel_rfl
theorem fl44_1 : FieldT Tryz.prog 44 1 37 3 1 := ⟨by kernel_rfl, by kernel_rfl⟩
theorem bt100 : BuildT Tryz.prog 100 [(0, 1), (1, 1)] [v64 0, v64 0] := ⟨by kernel_rfl, by unfold ZeroT; kernel_rfl⟩
theorem ze100 : ZeroT Tryz.prog 100 [v64 0, v64 0] := by unfold ZeroT; kernel_rfl
theorem fl62_1 : FieldT Tryz.prog 62 1 37 22 1 := ⟨by kernel_rfl, by kernel_rfl⟩
theorem fl62_2 : FieldT Tryz.prog 62 2 38 22 1 := ⟨by kernel_rfl, by kernel_rfl⟩
theorem ag100 : isAggT Tryz.prog 100 2 = true := by kernel_rfl
theorem sz100 : sizeT Tryz.prog 100 2 = true := by kernel_rfl
theorem bd40 : BD Tryz.f40 = true := by kernel_rfl
theorem fl100_0 : FieldT Tryz.prog 100 0 0 22 1 := ⟨by kernel_rfl, by kernel_rfl⟩
theorem fl100_1 : FieldT Tryz.prog 100 1 1 22 1 := ⟨by kernel_rfl, by kernel_rfl⟩
theorem bd95 : BD Tryz.f95 = true := by kernel_rfl
theorem bd79 : BD Tryz.f79 = true := by kernel_rfl
theorem fl62_5 : FieldT Tryz.prog 62 5 41 5 1 := ⟨by kernel_rfl, by kernel_rfl⟩
theorem fl44_2 : FieldT Tryz.prog 44 2 38 5 1 := ⟨by kernel_rfl, by kernel_rfl⟩
theorem bd44 : BD Tryz.f44 = true := by kernel_rfl
theorem fl44_3 : FieldT Tryz.prog 44 3 39 4 1 := ⟨by kernel_rfl, by kernel_rfl⟩
theorem bd45 : BD Tryz.f45 = true := by kernel_rfl
theorem bd16 : BD Tryz.f16 = true := by kernel_rfl
theorem bd17 : BD Tryz.f17 = true := by kernel_rfl
theorem bd5 : BD Tryz.f5 = true := by kernel_rfl
theorem ze34 : ZeroT Tryz.prog 34 [vI 0, v64 0, v64 0, v64 0, v64 0] := by unfold ZeroT; kernel_rfl
theorem bt34 : BuildT Tryz.prog 34 [(0, 1), (1, 1), (2, 1), (3, 1), (4, 1)] [vI 0, v64 0, v64 0, v64 0, v64 0] := ⟨by kernel_rfl, by unfold ZeroT; kernel_rfl⟩
theorem ag34 : isAggT Tryz.prog 34 5 = true := by kernel_rfl
theorem sz34 : sizeT Tryz.prog 34 5 = true := by kernel_rfl
theorem bd8 : BD Tryz.f8 = true := by kernel_rfl
theorem fl34_0 : FieldT Tryz.prog 34 0 0 3 1 := ⟨by kernel_rfl, by kernel_rfl⟩
theorem fl34_1 : FieldT Tryz.prog 34 1 1 22 1 := ⟨by kernel_rfl, by kernel_rfl⟩
theorem fl34_2 : FieldT Tryz.prog 34 2 2 22 1 := ⟨by kernel_rfl, by kernel_rfl⟩
theorem fl34_3 : FieldT Tryz.prog 34 3 3 22 1 := ⟨by kernel_rfl, by kernel_rfl⟩
theorem fl34_4 : FieldT Tryz.prog 34 4 4 22 1 := ⟨by kernel_rfl, by kernel_rfl⟩
theorem bd7 : BD Tryz.f7 = true := by kernel_rfl
theorem bt72 : BuildT Tryz.prog 72 [(0, 1), (1, 5), (6, 1)] [v64 0, vI 0, v64 0, v64 0, v64 0, v64 0, .slice none 0 0] := ⟨by kernel_rfl, by unfold ZeroT; kernel_rfl⟩
theorem ag46 : isAggT Tryz.prog 46 43 = true := by kernel_rfl
theorem fl46_0 : FieldT Tryz.prog 46 0 0 3 1 := ⟨by kernel_rfl, by kernel_rfl⟩
theorem fl46_1 : FieldT Tryz.prog 46 1 1 44 40 := ⟨by kernel_rfl, by kernel_rfl⟩
theorem fl46_2 : FieldT Tryz.prog 46 2 41 5 1 := ⟨by kernel_rfl, by kernel_rfl⟩
theorem fl46_3 : FieldT Tryz.prog 46 3 42 22 1 := ⟨by kernel_rfl, by kernel_rfl⟩
theorem fl79_0 : FieldT Tryz.prog 79 0 0 77 37 := ⟨by kernel_rfl, by kernel_rfl⟩
theorem ag77 : isAggT Tryz.prog 77 37 = true := by kernel_rfl
theorem fl77_0 : FieldT Tryz.prog 77 0 0 75 17 := ⟨by kernel_rfl, by kernel_rfl⟩
theorem ag75 : isAggT Tryz.prog 75 17 = true := by kernel_rfl
theorem fl75_0 : FieldT Tryz.prog 75 0 0 4 1 := ⟨by kernel_rfl, by kernel_rfl⟩
theorem fl75_1 : FieldT Tryz.prog 75 1 1 37 16 := ⟨by kernel_rfl, by kernel_rfl⟩
theorem bd85 : BD Tryz.f85 = true := by kernel_rfl
theorem fl77_1 : FieldT Tryz.prog 77 1 17 75 17 := ⟨by kernel_rfl, by kernel_rfl⟩
theorem fl77_2 : FieldT Tryz.prog 77 2 34 5 1 := ⟨by kernel_rfl, by kernel_rfl⟩
theorem bd86 : BD Tryz.f86 = true := by kernel_rfl
theorem fl77_3 : FieldT Tryz.prog 77 3 35 40 1 := ⟨by kernel_rfl, by kernel_rfl⟩
theorem bd87 : BD Tryz.f87 = true := by kernel_rfl
theorem fl77_4 : FieldT Tryz.prog 77 4 36 40 1 := ⟨by kernel_rfl, by kernel_rfl⟩
theorem bd58 : BD Tryz.f58 = true := by kernel_rfl
theorem fl72_0 : FieldT Tryz.prog 72 0 0 22 1 := ⟨by kernel_rfl, by kernel_rfl⟩
theorem fl72_2 : FieldT Tryz.prog 72 2 6 70 1 := ⟨by kernel_rfl, by kernel_rfl⟩
theorem sc70 : isScalar Tryz.prog 70 = true := by kernel_rfl
theorem sl70 : SliceT Tryz.prog 70 89 44 80 := ⟨Tryz.underlying70, by kernel_rfl⟩
theorem ag89 : isAggT Tryz.prog 89 44 = true := by kernel_rfl
theorem fl89_4 : FieldT Tryz.prog 89 4 40 22 1 := ⟨by kernel_rfl, by kernel_rfl⟩
theorem fl72_1 : FieldT Tryz.prog 72 1 1 34 5 := ⟨by kernel_rfl, by kernel_rfl⟩
theorem bd108 : BD Tryz.f108 = true := by kernel_rfl
theorem bd90 : BD Tryz.f90 = true := by kernel_rfl
theorem fl89_3 : FieldT Tryz.prog 89 3 39 22 1 := ⟨by kernel_rfl, by kernel_rfl⟩
theorem bd64 : BD Tryz.f64 = true := by kernel_rfl
theorem bd63 : BD Tryz.f63 = true := by kernel_rfl
theorem bd28 : BD Tryz.f28 = true := by kernel_rfl
theorem ze89 : ZeroT Tryz.prog 89 [vB false, v8 0, v8 0, v8 0, v8 0, v8 0, v8 0, v8 0, v8 0, v8 0, v8 0, v8 0, v8 0, v8 0, v8 0, v8 0, v8 0, vB false, v8 0, v8 0, v8 0, v8 0, v8 0, v8 0, v8 0, v8 0, v8 0, v8 0, v8 0, v8 0, v8 0, v8 0, v8 0, v8 0, v8 0, v16 0, v16 0, v64 0, v64 0, v64 0, v64 0, v8 0, v8 0, v8 0] := by unfold ZeroT; kernel_rfl
theorem fl89_6 : FieldT Tryz.prog 89 6 42 5 1 := ⟨by kernel_rfl, by kernel_rfl⟩
theorem sz89 : sizeT Tryz.prog 89 44 = true := by kernel_rfl
theorem sz70 : sizeT Tryz.prog 70 1 = true := by kernel_rfl
theorem bd62 : BD Tryz.f62 = true := by kernel_rfl
theorem bd24 : BD Tryz.f24 = true := by kernel_rfl
theorem fl89_0 : FieldT Tryz.prog 89 0 0 77 37 := ⟨by kernel_rfl, by kernel_rfl⟩
theorem bd131 : BD Tryz.f131 = true := by kernel_rfl
theorem bd121 : BD Tryz.f121 = true := by kernel_rfl
theorem bd122 : BD Tryz.f122 = true := by kernel_rfl
theorem bd107 : BD Tryz.f107 = true := by kernel_rfl
theorem bd88 : BD Tryz.f88 = true := by kernel_rfl
theorem bd59 : BD Tryz.f59 = true := by kernel_rfl
theorem bt89 : BuildT Tryz.prog 89 [(0, 37), (37, 1), (38, 1), (39, 1), (40, 1), (41, 1), (42, 1), (43, 1)] [vB false, v8 0, v8 0, v8 0, v8 0, v8 0, v8 0, v8 0, v8 0, v8 0, v8 0, v8 0, v8 0, v8 0, v8 0, v8 0, v8 0, vB false, v8 0, v8 0, v8 0, v8 0, v8 0, v8 0, v8 0, v8 0, v8 0, v8 0, v8 0, v8 0, v8 0, v8 0, v8 0, v8 0, v8 0, v16 0, v16 0, v64 0, v64 0, v64 0, v64 0, v8 0, v8 0, v8 0] := ⟨by kernel_rfl, by unfold ZeroT; kernel_rfl⟩
theorem bd89 : BD Tryz.f89 = true := by kernel_rfl
theorem bd60 : BD Tryz.f60 = true := by kernel_rfl
theorem ag79 : isAggT Tryz.prog 79 40 = true := by kernel_rfl
theorem fl89_1 : FieldT Tryz.prog 89 1 37 22 1 := ⟨by kernel_rfl, by kernel_rfl⟩
theorem fl89_2 : FieldT Tryz.prog 89 2 38 22 1 := ⟨by kernel_rfl, by kernel_rfl⟩
theorem fl79_1 : FieldT Tryz.prog 79 1 37 3 1 := ⟨by kernel_rfl, by kernel_rfl⟩
theorem fl89_5 : FieldT Tryz.prog 89 5 41 5 1 := ⟨by kernel_rfl, by kernel_rfl⟩
theorem fl79_2 : FieldT Tryz.prog 79 2 38 5 1 := ⟨by kernel_rfl, by kernel_rfl⟩
theorem bd61 : BD Tryz.f61 = true := by kernel_rfl
theorem fl79_3 : FieldT Tryz.prog 79 3 39 4 1 := ⟨by kernel_rfl, by kernel_rfl⟩
theorem ze79 : ZeroT Tryz.prog 79 [vB false, v8 0, v8 0, v8 0, v8 0, v8 0, v8 0, v8 0, v8 0, v8 0, v8 0, v8 0, v8 0, v8 0, v8 0, v8 0, v8 0, vB false, v8 0, v8 0, v8 0, v8 0, v8 0, v8 0, v8 0, v8 0, v8 0, v8 0, v8 0, v8 0, v8 0, v8 0, v8 0, v8 0, v8 0, v16 0, v16 0, vI 0, v8 0, vB false] := by unfold ZeroT; kernel_rfl
theorem ze77 : ZeroT Tryz.prog 77 [vB false, v8 0, v8 0, v8 0, v8 0, v8 0, v8 0, v8 0, v8 0, v8 0, v8 0, v8 0, v8 0, v8 0, v8 0, v8 0, v8 0, vB false, v8 0, v8 0, v8 0, v8 0, v8 0, v8 0, v8 0, v8 0, v8 0, v8 0, v8 0, v8 0, v8 0, v8 0, v8 0, v8 0, v8 0, v16 0, v16 0] := by unfold ZeroT; kernel_rfl
theorem ze75 : ZeroT Tryz.prog 75 [vB false, v8 0, v8 0, v8 0, v8 0, v8 0, v8 0, v8 0, v8 0, v8 0, v8 0, v8 0, v8 0, v8 0, v8 0, v8 0, v8 0] := by unfold ZeroT; kernel_rfl
theorem bt75 : BuildT Tryz.prog 75 [(0, 1), (1, 16)] [vB false, v8 0, v8 0, v8 0, v8 0, v8 0, v8 0, v8 0, v8 0, v8 0, v8 0, v8 0, v8 0, v8 0, v8 0, v8 0, v8 0] := ⟨by kernel_rfl, by unfold ZeroT; kernel_rfl⟩
theorem sz75 : sizeT Tryz.prog 75 17 = true := by kernel_rfl
theorem bd67 : BD Tryz.f67 = true := by kernel_rfl
theorem bt77 : BuildT Tryz.prog 77 [(0, 17), (17, 17), (34, 1), (35, 1), (36, 1)] [vB false, v8 0, v8 0, v8 0, v8 0, v8 0, v8 0, v8 0, v8 0, v8 0, v8 0, v8 0, v8 0, v8 0, v8 0, v8 0, v8 0, vB false, v8 0, v8 0, v8 0, v8 0, v8 0, v8 0, v8 0, v8 0, v8 0, v8 0, v8 0, v8 0, v8 0, v8 0, v8 0, v8 0, v8 0, v16 0, v16 0] := ⟨by kernel_rfl, by unfold ZeroT; kernel_rfl⟩
theorem sz77 : sizeT Tryz.prog 77 37 = true := by kernel_rfl
theorem bd31 : BD Tryz.f31 = true := by kernel_rfl
theorem bt79 : BuildT Tryz.prog 79 [(0, 37), (37, 1), (38, 1), (39, 1)] [vB false, v8 0, v8 0, v8 0, v8 0, v8 0, v8 0, v8 0, v8 0, v8 0, v8 0, v8 0, v8 0, v8 0, v8 0, v8 0, v8 0, vB false, v8 0, v8 0, v8 0, v8 0, v8 0, v8 0, v8 0, v8 0, v8 0, v8 0, v8 0, v8 0, v8 0, v8 0, v8 0, v8 0, v8 0, v16 0, v16 0, vI 0, v8 0, vB false] := ⟨by kernel_rfl, by unfold ZeroT; kernel_rfl⟩
theorem sz79 : sizeT Tryz.prog 79 40 = true := by kernel_rfl
theorem bd22 : BD Tryz.f22 = true := by kernel_rfl
theorem bd21 : BD Tryz.f21 = true := by kernel_rfl
theorem fl62_7 : FieldT Tryz.prog 62 7 43 5 1 := ⟨by kernel_rfl, by kernel_rfl⟩
theorem bd32 : BD Tryz.f32 = true := by kernel_rfl
theorem bd23 : BD Tryz.f23 = true := by kernel_rfl
theorem bd69 : BD Tryz.f69 = true := by kernel_rfl
theorem bd92 : BD Tryz.f92 = true := by kernel_rfl
theorem bd109 : BD Tryz.f109 = true := by kernel_rfl
theorem bd91 : BD Tryz.f91 = true := by kernel_rfl
theorem bd68 : BD Tryz.f68 = true := by kernel_rfl
theorem bd33 : BD Tryz.f33 = true := by kernel_rfl
theorem bd65 : BD Tryz.f65 = true := by kernel_rfl
theorem bd25 : BD Tryz.f25 = true := by kernel_rfl
theorem bd26 : BD Tryz.f26 = true := by kernel_rfl
theorem bd66 : BD Tryz.f66 = true := by kernel_rfl
theorem bd27 : BD Tryz.f27 = true := by kernel_rfl
theorem bd9 : BD Tryz.f9 = true := by kernel_rfl
theorem bd29 : BD Tryz.f29 = true := by kernel_rfl
theorem bd30 : BD Tryz.f30 = true := by kernel_rfl
theorem bd34 : BD Tryz.f34 = true := by kernel_rfl
theorem bd10 : BD Tryz.f10 = true := by kernel_rfl
theorem ze46 : ZeroT Tryz.prog 46 [vI 0, vB false, v8 0, v8 0, v8 0, v8 0, v8 0, v8 0, v8 0, v8 0, v8 0, v8 0, v8 0, v8 0, v8 0, v8 0, v8 0, v8 0, vB false, v8 0, v8 0, v8 0, v8 0, v8 0, v8 0, v8 0, v8 0, v8 0, v8 0, v8 0, v8 0, v8 0, v8 0, v8 0, v8 0, v8 0, v16 0, v16 0, vI 0, v8 0, vB false, v8 0, v64 0] := by unfold ZeroT; kernel_rfl
theorem bt46 : BuildT Tryz.prog 46 [(0, 1), (1, 40), (41, 1), (42, 1)] [vI 0, vB false, v8 0, v8 0, v8 0, v8 0, v8 0, v8 0, v8 0, v8 0, v8 0, v8 0, v8 0, v8 0, v8 0, v8 0, v8 0, v8 0, vB false, v8 0, v8 0, v8 0, v8 0, v8 0, v8 0, v8 0, v8 0, v8 0, v8 0, v8 0, v8 0, v8 0, v8 0, v8 0, v8 0, v8 0, v16 0, v16 0, vI 0, v8 0, vB false, v8 0, v64 0] := ⟨by kernel_rfl, by unfold ZeroT; kernel_rfl⟩
theorem sz46 : sizeT Tryz.prog 46 43 = true := by kernel_rfl
theorem bd11 : BD Tryz.f11 = true := by kernel_rfl
theorem ze24 : ZeroT Tryz.prog 24 [vI 0, v64 0, v64 0, v64 0, v64 0] := by unfold ZeroT; kernel_rfl
theorem bd3 : BD Tryz.f3 = true := by kernel_rfl
theorem bd35 : BD Tryz.f35 = true := by kernel_rfl
theorem bd36 : BD Tryz.f36 = true := by kernel_rfl
theorem sl95 : SliceT Tryz.prog 95 137 39 56 := ⟨Tryz.underlying95, by kernel_rfl⟩
theorem fl137_0 : FieldT Tryz.prog 137 0 0 42 37 := ⟨by kernel_rfl, by kernel_rfl⟩
theorem fl137_1 : FieldT Tryz.prog 137 1 37 100 2 := ⟨by kernel_rfl, by kernel_rfl⟩
theorem bt137 : BuildT Tryz.prog 137 [(0, 37), (37, 2)] [vB false, v8 0, v8 0, v8 0, v8 0, v8 0, v8 0, v8 0, v8 0, v8 0, v8 0, v8 0, v8 0, v8 0, v8 0, v8 0, v8 0, vB false, v8 0, v8 0, v8 0, v8 0, v8 0, v8 0, v8 0, v8 0, v8 0, v8 0, v8 0, v8 0, v8 0, v8 0, v8 0, v8 0, v8 0, v16 0, v16 0, v64 0, v64 0] := ⟨by kernel_rfl, by unfold ZeroT; kernel_rfl⟩
theorem ze137 : ZeroT Tryz.prog 137 [vB false, v8 0, v8 0, v8 0, v8 0, v8 0, v8 0, v8 0, v8 0, v8 0, v8 0, v8 0, v8 0, v8 0, v8 0, v8 0, v8 0, vB false, v8 0, v8 0, v8 0, v8 0, v8 0, v8 0, v8 0, v8 0, v8 0, v8 0, v8 0, v8 0, v8 0, v8 0, v8 0, v8 0, v8 0, v16 0, v16 0, v64 0, v64 0] := by unfold ZeroT; kernel_rfl
theorem bd38 : BD Tryz.f38 = true := by kernel_rfl
theorem bd73 : BD Tryz.f73 = true := by kernel_rfl
theorem bd39 : BD Tryz.f39 = true := by kernel_rfl
theorem ag137 : isAggT Tryz.prog 137 39 = true := by kernel_rfl
theorem bd41 : BD Tryz.f41 = true := by kernel_rfl
theorem bd12 : BD Tryz.f12 = true := by kernel_rfl
theorem bd13 : BD Tryz.f13 = true := by kernel_rfl
theorem sz24 : sizeT Tryz.prog 24 5 = true := by kernel_rfl
theorem sl52 : SliceT Tryz.prog 52 24 5 40 := ⟨Tryz.underlying52, by kernel_rfl⟩
theorem bd14 : BD Tryz.f14 = true := by kernel_rfl
theorem Q39 (d : Nat) (x y : Xd) (w : World) : (Op.equalIn (d + 3) 39 (.agg (x.cs).toArray) (.agg (y.cs).toArray)).run Tryz.prog w = .ok (KO x y) w :=
 (run_equalIn_agg w (d + 2) 39 _ _ (by kernel_rfl) (by kernel_rfl)).trans (EqT.run (tr := [(false, 4, 0), (false, 37, 1)]) (by kernel_rfl) ⟨_, _, _, _, rfl, part_s sc4 rfl, part_s sc4 rfl, run_equalIn_bool' w (d + 1) 4 _ _ Tryz.underlying4, ⟨_, _, _, _, rfl, part_a (us := arrC 16 .u8 x.f_B) ag37 rfl, part_a (us := arrC 16 .u8 y.f_B) ag37 rfl, eq_arr' Tryz.underlying37 Tryz.underlying5 sz5 (d + 0) x.f_B y.f_B w, rfl, rfl⟩, rfl⟩)
theorem Q42 (d : Nat) (x y : Xe) (w : World) : (Op.equalIn (d + 4) 42 (.agg (x.cs).toArray) (.agg (y.cs).toArray)).run Tryz.prog w = .ok (Yg x y) w :=
 (run_equalIn_agg w (d + 3) 42 _ _ (by kernel_rfl) (by kernel_rfl)).trans (EqT.run (tr := [(false, 39, 0), (false, 39, 17), (false, 5, 34), (false, 40, 35), (false, 40, 36)]) (by kernel_rfl) ⟨_, _, _, _, rfl, part_a (us := (x.XL.cs)) ag39 rfl, part_a (us := (y.XL.cs)) ag39 rfl, Q39 (d + 0) x.XL y.XL w, ⟨_, _, _, _, rfl, part_a (us := (x.XN.cs)) ag39 rfl, part_a (us := (y.XN.cs)) ag39 rfl, Q39 (d + 0) x.XN y.XN w, ⟨_, _, _, _, rfl, part_s sc5 rfl, part_s sc5 rfl, run_equalIn_int w (d + 2) 5 _ _ _ _ Tryz.underlying5, ⟨_, _, _, _, rfl, part_s sc40 rfl, part_s sc40 rfl, run_equalIn_int w (d + 2) 40 _ _ _ _ Tryz.underlying40, ⟨_, _, _, _, rfl, part_s sc40 rfl, part_s sc40 rfl, run_equalIn_int w (d + 2) 40 _ _ _ _ Tryz.underlying40, rfl, rfl⟩, rfl⟩, rfl⟩, rfl⟩, rfl⟩)
theorem Q42t (x y : Xe) {xs ys : List Value} (w : World) (hx : xs = (x.cs)) (hy : ys = (y.cs)) : (Op.equalIn 10000 42 (.agg xs.toArray) (.agg ys.toArray)).run Tryz.prog w = .ok (Yg x y) w := by
 subst hx; subst hy; exact Q42 9996 x y w
theorem Q75 (d : Nat) (x y : Xd) (w : World) : (Op.equalIn (d + 3) 75 (.agg (x.cs).toArray) (.agg (y.cs).toArray)).run Tryz.prog w = .ok (KO x y) w :=
 (run_equalIn_agg w (d + 2) 75 _ _ (by kernel_rfl) (by kernel_rfl)).trans (EqT.run (tr := [(false, 4, 0), (false, 37, 1)]) (by kernel_rfl) ⟨_, _, _, _, rfl, part_s sc4 rfl, part_s sc4 rfl, run_equalIn_bool' w (d + 1) 4 _ _ Tryz.underlying4, ⟨_, _, _, _, rfl, part_a (us := arrC 16 .u8 x.f_B) ag37 rfl, part_a (us := arrC 16 .u8 y.f_B) ag37 rfl, eq_arr' Tryz.underlying37 Tryz.underlying5 sz5 (d + 0) x.f_B y.f_B w, rfl, rfl⟩, rfl⟩)
theorem Q77 (d : Nat) (x y : XR) (w : World) : (Op.equalIn (d + 4) 77 (.agg (x.cs).toArray) (.agg (y.cs).toArray)).run Tryz.prog w = .ok (Vm x y) w :=
 (run_equalIn_agg w (d + 3) 77 _ _ (by kernel_rfl) (by kernel_rfl)).trans (EqT.run (tr := [(false, 75, 0), (false, 75, 17), (false, 5, 34), (false, 40, 35), (false, 40, 36)]) (by kernel_rfl) ⟨_, _, _, _, rfl, part_a (us := (x.XL.cs)) ag75 rfl, part_a (us := (y.XL.cs)) ag75 rfl, Q75 (d + 0) x.XL y.XL w, ⟨_, _, _, _, rfl, part_a (us := (x.XN.cs)) ag75 rfl, part_a (us := (y.XN.cs)) ag75 rfl, Q75 (d + 0) x.XN y.XN w, ⟨_, _, _, _, rfl, part_s sc5 rfl, part_s sc5 rfl, run_equalIn_int w (d + 2) 5 _ _ _ _ Tryz.underlying5, ⟨_, _, _, _, rfl, part_s sc40 rfl, part_s sc40 rfl, run_equalIn_int w (d + 2) 40 _ _ _ _ Tryz.underlying40, ⟨_, _, _, _, rfl, part_s sc40 rfl, part_s sc40 rfl, run_equalIn_int w (d + 2) 40 _ _ _ _ Tryz.underlying40, rfl, rfl⟩, rfl⟩, rfl⟩, rfl⟩, rfl⟩)
theorem Q77t (x y : XR) {xs ys : List Value} (w : World) (hx : xs = (x.cs)) (hy : ys = (y.cs)) : (Op.equalIn 10000 77 (.agg xs.toArray) (.agg ys.toArray)).run Tryz.prog w = .ok (Vm x y) w := by
 subst hx; subst hy; exact Q77 9996 x y w
theorem Q89 (d : Nat) (x y : Xi) (w : World) : (Op.equalIn (d + 5) 89 (.agg (x.cs).toArray) (.agg (y.cs).toArray)).run Tryz.prog w = .ok (Kd x y) w :=
 (run_equalIn_agg w (d + 4) 89 _ _ (by kernel_rfl) (by kernel_rfl)).trans (EqT.run (tr := [(false, 77, 0), (false, 22, 37), (false, 22, 38), (false, 22, 39), (false, 22, 40), (false, 5, 41), (false, 5, 42), (false, 5, 43)]) (by kernel_rfl) ⟨_, _, _, _, rfl, part_a (us := (x.Xo.cs)) ag77 rfl, part_a (us := (y.Xo.cs)) ag77 rfl, Q77 (d + 0) x.Xo y.Xo w, ⟨_, _, _, _, rfl, part_s sc22 rfl, part_s sc22 rfl, run_equalIn_int w (d + 3) 22 _ _ _ _ Tryz.underlying22, ⟨_, _, _, _, rfl, part_s sc22 rfl, part_s sc22 rfl, run_equalIn_int w (d + 3) 22 _ _ _ _ Tryz.underlying22, ⟨_, _, _, _, rfl, part_s sc22 rfl, part_s sc22 rfl, run_equalIn_int w (d + 3) 22 _ _ _ _ Tryz.underlying22, ⟨_, _, _, _, rfl, part_s sc22 rfl, part_s sc22 rfl, run_equalIn_int w (d + 3) 22 _ _ _ _ Tryz.underlying22, ⟨_, _, _, _, rfl, part_s sc5 rfl, part_s sc5 rfl, run_equalIn_int w (d + 3) 5 _ _ _ _ Tryz.underlying5, ⟨_, _, _, _, rfl, part_s sc5 rfl, part_s sc5 rfl, run_equalIn_int w (d + 3) 5 _ _ _ _ Tryz.underlying5, ⟨_, _, _, _, rfl, part_s sc5 rfl, part_s sc5 rfl, run_equalIn_int w (d + 3) 5 _ _ _ _ Tryz.underlying5, rfl, rfl⟩, rfl⟩, rfl⟩, rfl⟩, rfl⟩, rfl⟩, rfl⟩, rfl⟩)
theorem Q89t (x y : Xi) {xs ys : List Value} (w : World) (hx : xs = (x.cs)) (hy : ys = (y.cs)) : (Op.equalIn 10000 89 (.agg xs.toArray) (.agg ys.toArray)).run Tryz.prog w = .ok (Kd x y) w := by
 subst hx; subst hy; exact Q89 9995 x y w
theorem Q100 (d : Nat) (x y : Yc) (w : World) : (Op.equalIn (d + 2) 100 (.agg #[v64 x.Xk, v64 x.Xr]) (.agg #[v64 y.Xk, v64 y.Xr])).run Tryz.prog w = .ok (U8 x y) w :=
 (run_equalIn_agg w (d + 1) 100 _ _ (by kernel_rfl) (by kernel_rfl)).trans (EqT.run (tr := [(false, 22, 0), (false, 22, 1)]) (by kernel_rfl) ⟨_, _, _, _, rfl, part_s sc22 rfl, part_s sc22 rfl, run_equalIn_int w (d + 0) 22 _ _ _ _ Tryz.underlying22, ⟨_, _, _, _, rfl, part_s sc22 rfl, part_s sc22 rfl, run_equalIn_int w (d + 0) 22 _ _ _ _ Tryz.underlying22, rfl, rfl⟩, rfl⟩)
theorem Q100t (x y : Yc) {xs ys : List Value} (w : World) (hx : xs = [v64 x.Xk, v64 x.Xr]) (hy : ys = [v64 y.Xk, v64 y.Xr]) : (Op.equalIn 10000 100 (.agg xs.toArray) (.agg ys.toArray)).run Tryz.prog w = .ok (U8 x y) w := by
 subst hx; subst hy; exact Q100 9998 x y w
theorem Q137 (d : Nat) (x y : XD) (w : World) : (Op.equalIn (d + 5) 137 (.agg (x.cs).toArray) (.agg (y.cs).toArray)).run Tryz.prog w = .ok (UJ x y) w :=
 (run_equalIn_agg w (d + 4) 137 _ _ (by kernel_rfl) (by kernel_rfl)).trans (EqT.run (tr := [(false, 42, 0), (false, 100, 37)]) (by kernel_rfl) ⟨_, _, _, _, rfl, part_a (us := (x.Xo.cs)) ag42 rfl, part_a (us := (y.Xo.cs)) ag42 rfl, Q42 (d + 0) x.Xo y.Xo w, ⟨_, _, _, _, rfl, part_a (us := [v64 x.Zj.Xk, v64 x.Zj.Xr]) ag100 rfl, part_a (us := [v64 y.Zj.Xk, v64 y.Zj.Xr]) ag100 rfl, Q100 (d + 2) x.Zj y.Zj w, rfl, rfl⟩, rfl⟩)
theorem Q137t (x y : XD) {xs ys : List Value} (w : World) (hx : xs = (x.cs)) (hy : ys = (y.cs)) : (Op.equalIn 10000 137 (.agg xs.toArray) (.agg ys.toArray)).run Tryz.prog w = .ok (UJ x y) w := by
 subst hx; subst hy; exact Q137 9995 x y w
theorem Q62 (d : Nat) (x y : Xc) (w : World) : (Op.equalIn (d + 5) 62 (.agg (x.cs).toArray) (.agg (y.cs).toArray)).run Tryz.prog w = .ok (UV x y) w :=
 (run_equalIn_agg w (d + 4) 62 _ _ (by kernel_rfl) (by kernel_rfl)).trans (EqT.run (tr := [(false, 42, 0), (false, 22, 37), (false, 22, 38), (false, 22, 39), (false, 22, 40), (false, 5, 41), (false, 5, 42), (false, 5, 43)]) (by kernel_rfl) ⟨_, _, _, _, rfl, part_a (us := (x.Xo.cs)) ag42 rfl, part_a (us := (y.Xo.cs)) ag42 rfl, Q42 (d + 0) x.Xo y.Xo w, ⟨_, _, _, _, rfl, part_s sc22 rfl, part_s sc22 rfl, run_equalIn_int w (d + 3) 22 _ _ _ _ Tryz.underlying22, ⟨_, _, _, _, rfl, part_s sc22 rfl, part_s sc22 rfl, run_equalIn_int w (d + 3) 22 _ _ _ _ Tryz.underlying22, ⟨_, _, _, _, rfl, part_s sc22 rfl, part_s sc22 rfl, run_equalIn_int w (d + 3) 22 _ _ _ _ Tryz.underlying22, ⟨_, _, _, _, rfl, part_s sc22 rfl, part_s sc22 rfl, run_equalIn_int w (d + 3) 22 _ _ _ _ Tryz.underlying22, ⟨_, _, _, _, rfl, part_s sc5 rfl, part_s sc5 rfl, run_equalIn_int w (d + 3) 5 _ _ _ _ Tryz.underlying5, ⟨_, _, _, _, rfl, part_s sc5 rfl, part_s sc5 rfl, run_equalIn_int w (d + 3) 5 _ _ _ _ Tryz.underlying5, ⟨_, _, _, _, rfl, part_s sc5 rfl, part_s sc5 rfl, run_equalIn_int w (d + 3) 5 _ _ _ _ Tryz.underlying5, rfl, rfl⟩, rfl⟩, rfl⟩, rfl⟩, rfl⟩, rfl⟩, rfl⟩, rfl⟩)
theorem Q62t (x y : Xc) {xs ys : List Value} (w : World) (hx : xs = (x.cs)) (hy : ys = (y.cs)) : (Op.equalIn 10000 62 (.agg xs.toArray) (.agg ys.toArray)).run Tryz.prog w = .ok (UV x y) w := by
 subst hx; subst hy; exact Q62 9995 x y w
theorem XaL (w : World) (xv1 r : Int) (hF : US xv1 = some r) :
  CallsR Tryz.prog 57 [v64 xv1] w (fun v w' => v = vI r ∧ Mem w [] w' []) := by
 refine XJ Tryz.func57 rfl Tryz.ntmps57 rfl ?_
 have hM := Mem.init w
 unfold US at hF
 refine sr fun Q2 hQ2 => ?_
 refine va rfl rfl (nt hQ2 ?_)
 refine KC.cut (fun a w7 => ∃ (xv5 nv6 : Int), Kn 25 [(0, v64 xv5), (2, vI nv6)] a ∧ Mem w [] w7 [] ∧ Kb xv5 nv6 = some r) ?_ ?_
 ·refine sr fun Q3 hQ3 => ?_
  refine vm rfl rfl (RL.val (O.geq rfl rfl) rfl (nt hQ3 ?_))
  refine KC.cond rfl (fun hc => ?_) (fun hc => ?_)
  ·rw [if_pos hc] at hF
   refine sr fun Q4 hQ4 => ?_
   refine vm rfl rfl (RL.val (O.shr rfl rfl (by decide)) rfl ?_)
   refine va rfl rfl (nt hQ4 (KC.region (va rfl rfl (RL.nil (KQ.Xy ?_)))))
   exact fun a ha => ⟨(Ox.shr .u64 xv1 32), 32, ha.less (Xa rfl (Xa rfl Xj)), hM, hF⟩
  rw [if_neg (Xv hc)] at hF
  refine KC.skip (KQ.Xy ?_)
  exact fun a ha => ⟨xv1, 0, ha.less (Xa rfl (Xa rfl Xj)), hM, hF⟩
 rintro a w7 ⟨xv5, nv6, ha, hM, hF⟩
 refine KC.app ha ?_
 clear ha
 unfold Kb at hF
 refine KC.cut (fun a w12 => ∃ (xv10 nv11 : Int), Kn 25 [(0, v64 xv10), (2, vI nv11)] a ∧ Mem w [] w12 [] ∧ Ka xv10 nv11 = some r) ?_ ?_
 ·refine sr fun Q8 hQ8 => ?_
  refine vm rfl rfl (RL.val (O.geq rfl rfl) rfl (nt hQ8 ?_))
  refine KC.cond rfl (fun hc => ?_) (fun hc => ?_)
  ·rw [if_pos hc] at hF
   refine sr fun Q9 hQ9 => ?_
   refine vm rfl rfl (RL.val (O.shr rfl rfl (by decide)) rfl ?_)
   refine va rfl rfl (nt hQ9 (KC.region (vm rfl rfl (RL.val (O.add rfl rfl) rfl (va rfl rfl (RL.nil ?_))))))
   refine KQ.Xy ?_
   exact fun a ha => ⟨(Ox.shr .u64 xv5 16), (IntKind.i64.wrap (nv6 + 16)), ha.less (Xa rfl (Xa rfl Xj)), hM, hF⟩
  rw [if_neg (Xv hc)] at hF
  refine KC.skip (KQ.Xy ?_)
  exact fun a ha => ⟨xv5, nv6, ha.less (Xa rfl (Xa rfl Xj)), hM, hF⟩
 rintro a w12 ⟨xv10, nv11, ha, hM, hF⟩
 refine KC.app ha ?_
 clear ha
 unfold Ka at hF
 refine KC.cut (fun a w17 => ∃ (xv15 nv16 : Int), Kn 25 [(0, v64 xv15), (2, vI nv16)] a ∧ Mem w [] w17 [] ∧ Jm xv15 nv16 = some r) ?_ ?_
 ·refine sr fun Q13 hQ13 => ?_
  refine vm rfl rfl (RL.val (O.geq rfl rfl) rfl (nt hQ13 ?_))
  refine KC.cond rfl (fun hc => ?_) (fun hc => ?_)
  ·rw [if_pos hc] at hF
   refine sr fun Q14 hQ14 => ?_
   refine vm rfl rfl (RL.val (O.shr rfl rfl (by decide)) rfl ?_)
   refine va rfl rfl (nt hQ14 (KC.region (vm rfl rfl (RL.val (O.add rfl rfl) rfl (va rfl rfl (RL.nil ?_))))))
   refine KQ.Xy ?_
   exact fun a ha => ⟨(Ox.shr .u64 xv10 8), (IntKind.i64.wrap (nv11 + 8)), ha.less (Xa rfl (Xa rfl Xj)), hM, hF⟩
  rw [if_neg (Xv hc)] at hF
  refine KC.skip (KQ.Xy ?_)
  exact fun a ha => ⟨xv10, nv11, ha.less (Xa rfl (Xa rfl Xj)), hM, hF⟩
 rintro a w17 ⟨xv15, nv16, ha, hM, hF⟩
 refine KC.app ha ?_
 clear ha
 unfold Jm at hF
 refine sr fun Q18 hQ18 => ?_
 refine vm rfl rfl (vm rfl rfl (RL.val (O.conv un22 Tryz.underlying5 rfl) rfl ?_))
 refine Xx hF fun xv19 hx20 hF => ?_
 refine RL.val (O.idxS Tryz.underlying9 hx20 rfl rfl) rfl (RL.val (O.conv un5 Tryz.underlying3 rfl) rfl (RL.val (O.add rfl rfl) rfl (va rfl rfl (nt hQ18 (KC.ret ?_)))))
 have hE := Option.some.inj hF
 clear hF
 subst hE
 refine KQ.rets Tryz.results57 (RVs.cons (RV.tm rfl) RVs.nil) ?_
 exact ⟨_, rfl, rfl, hM⟩
theorem Kk (w : World) (xv1 r : Int) (hF : Zb xv1 = some r) :
  CallsR Tryz.prog 20 [v64 xv1] w (fun v w' => v = vI r ∧ Mem w [] w' []) := by
 refine XJ Tryz.func20 rfl Tryz.ntmps20 rfl ?_
 have hM := Mem.init w
 unfold Zb at hF
 refine sr fun Q2 hQ2 => ?_
 refine va rfl rfl (nt hQ2 ?_)
 refine KC.seqH fun Q3 hQ3 => ?_
 refine KC.condF rfl (KC.skip (KQ.thn hQ3 ?_))
 refine sr fun Q4 hQ4 => ?_
 refine vm rfl rfl ?_
 refine Xx hF fun y5 hx6 hF => ?_
 refine RL.call Tryz.func57 bd57 rfl rfl (XaL _ xv1 _ hx6) fun v w7 hv => ?_
 obtain ⟨rfl, hN8⟩ := hv
 replace hM := hM.call0 hN8
 refine va rfl rfl (nt hQ4 (KC.ret ?_))
 have hE := Option.some.inj hF
 clear hF
 subst hE
 refine KQ.rets Tryz.results20 (RVs.cons (RV.tm rfl) RVs.nil) ?_
 exact ⟨_, rfl, rfl, hM⟩
theorem Vu (w : World) (port1 : Int) (r : XC) (hF : UI port1 = some r) :
  CallsR Tryz.prog 15 [v16 port1] w (fun v w' => v = .agg (r.cs).toArray ∧ Mem w [] w' []) := by
 refine XJ Tryz.func15 rfl Tryz.ntmps15 rfl ?_
 have hM := Mem.init w
 unfold UI at hF
 refine sr fun Q2 hQ2 => ?_
 refine RL.eff (E.alloc hM ze44) rfl fun v w4 hv => ?_
 clear hM
 obtain ⟨g3, rfl, hM, hf⟩ := hv
 refine nt hQ2 ?_
 refine sr fun Q6 hQ6 => ?_
 refine vm rfl rfl (RL.val (O.bld (cs := (vB false :: (a16 (List.replicate 16 0) ++ (vB false :: (a16 (List.replicate 16 0) ++ [v8 17, v16 port1, v16 53]))))) bt42 rfl (by kernel_rfl)) rfl ?_)
 refine RL.val (O.bld (cs := (vB false :: (a16 (List.replicate 16 0) ++ (vB false :: (a16 (List.replicate 16 0) ++ [v8 17, v16 port1, v16 53, vI 40, v8 0, vB false]))))) bt44 rfl (by kernel_rfl)) rfl ?_
 refine RL.effs (E.stB (j := 0) (off := 0) (vs := (vB false :: (a16 (List.replicate 16 0) ++ (vB false :: (a16 (List.replicate 16 0) ++ [v8 17, v16 port1, v16 53, vI 40, v8 0, vB false]))))) (cs' := (vB false :: (a16 (List.replicate 16 0) ++ (vB false :: (a16 (List.replicate 16 0) ++ [v8 17, v16 port1, v16 53, vI 40, v8 0, vB false]))))) hM rfl sz44 rfl (XX [] rfl) rfl rfl (One.all rfl) rfl rfl) fun w7 hM1 => ?_
 clear hM
 have hM := hM1
 clear hM1
 refine nt hQ6 (KC.ret ?_)
 have hE := Option.some.inj hF
 clear hF
 subst hE
 have hb8 := hM.bx (i := 0) rfl
 replace hM := hM.pick [] rfl (by decide)
 refine KQ.rets Tryz.results15 (RVs.cons (RV.cN (cs := (vB false :: (a16 (List.replicate 16 0) ++ (vB false :: (a16 (List.replicate 16 0) ++ [v8 17, v16 port1, v16 53, vI 40, v8 0, vB false]))))) rfl ag44 hb8) RVs.nil) ?_
 exact ⟨_, rfl, rfl, hM⟩
theorem Xa2 (w : World) (proto1 : Int) (r : Bool) (hF : Ud proto1 = some r) :
  CallsR Tryz.prog 70 [v8 proto1] w (fun v w' => v = vB r ∧ Mem w [] w' []) := by
 refine XJ Tryz.func70 rfl Tryz.ntmps70 rfl ?_
 have hM := Mem.init w
 unfold Ud at hF
 refine sr fun Q2 hQ2 => ?_
 refine va rfl rfl (nt hQ2 ?_)
 refine KC.cut (fun a w4 => ∃ (t3 : Bool), Kn 9 [(2, vB t3)] a ∧ Mem w [] w4 [] ∧ Kg t3 = some r) ?_ ?_
 ·refine KC.region (vm rfl rfl (RL.val (O.eql rfl rfl) rfl (vm rfl rfl ?_)))
  refine RL.bcase (t := 5) rfl (fun hc => ?_) (fun hc => ?_)
  ·rw [if_pos hc] at hF
   refine RL.gskip rfl rfl rfl rfl (RL.gskip rfl rfl rfl rfl (RL.val (O.pickt rfl rfl) rfl (va rfl rfl (RL.nil (KQ.Xy ?_)))))
   exact fun a ha => ⟨true, ha.less (Xa rfl Xj), hM, hF⟩
  rw [if_neg (Xv hc)] at hF
  refine RL.gval rfl rfl (O.move rfl) rfl (RL.gval rfl rfl (O.eql rfl rfl) rfl (RL.val (O.pickf rfl rfl) rfl (va rfl rfl (RL.nil (KQ.Xy ?_)))))
  exact fun a ha => ⟨(proto1 == 17), ha.less (Xa rfl Xj), hM, hF⟩
 rintro a w4 ⟨t3, ha, hM, hF⟩
 refine KC.app ha ?_
 clear ha
 unfold Kg at hF
 refine KC.ret ?_
 have hE := Option.some.inj hF
 clear hF
 subst hE
 refine KQ.rets Tryz.results70 (RVs.cons (RV.tm rfl) RVs.nil) ?_
 exact ⟨_, rfl, rfl, hM⟩
theorem Xa5 (w : World) (proto1 : Int) (r : Bool) (hF : UU proto1 = some r) :
  CallsR Tryz.prog 71 [v8 proto1] w (fun v w' => v = vB r ∧ Mem w [] w' []) := by
 refine XJ Tryz.func71 rfl Tryz.ntmps71 rfl ?_
 have hM := Mem.init w
 unfold UU at hF
 refine sr fun Q2 hQ2 => ?_
 refine va rfl rfl (nt hQ2 ?_)
 refine KC.cut (fun a w4 => ∃ (t3 : Bool), Kn 9 [(2, vB t3)] a ∧ Mem w [] w4 [] ∧ Ky t3 = some r) ?_ ?_
 ·refine KC.region (vm rfl rfl (RL.val (O.eql rfl rfl) rfl (vm rfl rfl ?_)))
  refine RL.bcase (t := 5) rfl (fun hc => ?_) (fun hc => ?_)
  ·rw [if_pos hc] at hF
   refine RL.gskip rfl rfl rfl rfl (RL.gskip rfl rfl rfl rfl (RL.val (O.pickt rfl rfl) rfl (va rfl rfl (RL.nil (KQ.Xy ?_)))))
   exact fun a ha => ⟨true, ha.less (Xa rfl Xj), hM, hF⟩
  rw [if_neg (Xv hc)] at hF
  refine RL.gval rfl rfl (O.move rfl) rfl (RL.gval rfl rfl (O.eql rfl rfl) rfl (RL.val (O.pickf rfl rfl) rfl (va rfl rfl (RL.nil (KQ.Xy ?_)))))
  exact fun a ha => ⟨(proto1 == 58), ha.less (Xa rfl Xj), hM, hF⟩
 rintro a w4 ⟨t3, ha, hM, hF⟩
 refine KC.app ha ?_
 clear ha
 unfold Ky at hF
 refine KC.ret ?_
 have hE := Option.some.inj hF
 clear hF
 subst hE
 refine KQ.rets Tryz.results71 (RVs.cons (RV.tm rfl) RVs.nil) ?_
 exact ⟨_, rfl, rfl, hM⟩
theorem Xae (w : World) (av1 : Xd) (r : Int) (hF : J8 av1 = some r) :
  CallsR Tryz.prog 93 [.agg (av1.cs).toArray] w (fun v w' => v = vI r ∧ Mem w [] w' []) := by
 refine XJ Tryz.func93 rfl Tryz.ntmps93 rfl ?_
 have hM := Mem.init w
 unfold J8 at hF
 refine sr fun Q2 hQ2 => ?_
 refine RL.eff (E.box (vs := (av1.cs)) hM rfl rfl) rfl fun v w4 hv => ?_
 clear hM
 obtain ⟨g3, rfl, hM, hf⟩ := hv
 refine va rfl rfl (nt hQ2 ?_)
 refine KC.seqH fun Q6 hQ6 => ?_
 refine sr fun Q7 hQ7 => ?_
 refine RL.val (O.fldA fl39_0 (by decide) rfl) rfl ?_
 refine RL.val (O.load sc4 rfl (Cs.adds [0] ((hM.bx (i := 0) rfl)) rfl)) rfl (nt hQ7 ?_)
 refine KC.cond rfl (fun hc => ?_) (fun hc => ?_)
 ·rw [if_pos hc] at hF
  refine sr fun Q8 hQ8 => ?_
  refine va rfl rfl (nt hQ8 (KC.ret (KQ.thr hQ6 ?_)))
  have hE := Option.some.inj hF
  clear hF
  subst hE
  replace hM := hM.pick [] rfl (by decide)
  refine KQ.rets Tryz.results93 (RVs.cons (RV.tm rfl) RVs.nil) ?_
  exact ⟨_, rfl, rfl, hM⟩
 rw [if_neg (Xv hc)] at hF
 refine KC.skip (KQ.thn hQ6 ?_)
 refine sr fun Q9 hQ9 => ?_
 refine va rfl rfl (nt hQ9 (KC.ret ?_))
 have hE := Option.some.inj hF
 clear hF
 subst hE
 replace hM := hM.pick [] rfl (by decide)
 refine KQ.rets Tryz.results93 (RVs.cons (RV.tm rfl) RVs.nil) ?_
 exact ⟨_, rfl, rfl, hM⟩
end Go.Proofs.YtkpnocgfhipidaaGreat
