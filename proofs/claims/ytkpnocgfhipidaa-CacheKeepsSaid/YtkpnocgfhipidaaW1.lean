/- Printed by a program of this claim: each call returns what the plain function of its name gives. -/
import Derived.Test.YtkpnocgfhipidaaRows
import Derived.Test.YtkpnocgfhipidaaF
set_option linter.unusedVariables false
namespace Go.Proofs.Ytkpnocgfhipidaa
open Go Go.Ox Go.RowKit
theorem sl25 : SliceT Try.prog 25 40 43 80 := ⟨Try.underlying25, by kernel_rfl⟩
theorem bt24 : BuildT Try.prog 24 [(0, 1), (1, 1), (2, 1), (3, 1), (4, 1)] [vI 0, v64 0, v64 0, v64 0, v64 0] := ⟨by kernel_rfl, by unfold ZeroT; kernel_rfl⟩
theorem fl24_0 : FieldT Try.prog 24 0 0 3 1 := ⟨by kernel_rfl, by kernel_rfl⟩
theorem sc3 : isScalar Try.prog 3 = true := by kernel_rfl
theorem fl24_1 : FieldT Try.prog 24 1 1 22 1 := ⟨by kernel_rfl, by kernel_rfl⟩
theorem sc22 : isScalar Try.prog 22 = true := by kernel_rfl
theorem fl24_2 : FieldT Try.prog 24 2 2 22 1 := ⟨by kernel_rfl, by kernel_rfl⟩
theorem fl24_3 : FieldT Try.prog 24 3 3 22 1 := ⟨by kernel_rfl, by kernel_rfl⟩
theorem fl24_4 : FieldT Try.prog 24 4 4 22 1 := ⟨by kernel_rfl, by kernel_rfl⟩
theorem bd7 : BD Try.f7 = true := by kernel_rfl
theorem un3 : (Try.prog.underlying 3).isSome = true := by kernel_rfl
theorem un22 : (Try.prog.underlying 22).isSome = true := by kernel_rfl
theorem un5 : (Try.prog.underlying 5).isSome = true := by kernel_rfl
theorem bd49 : BD Try.f49 = true := by kernel_rfl
theorem bd25 : BD Try.f25 = true := by kernel_rfl
theorem bd24 : BD Try.f24 = true := by kernel_rfl
theorem sl94 : SliceT Try.prog 94 102 39 56 := ⟨Try.underlying94, by kernel_rfl⟩
theorem ze102 : ZeroT Try.prog 102 [vB false, vB false, v8 0, v8 0, v8 0, v8 0, v8 0, v8 0, v8 0, v8 0, v8 0, v8 0, v8 0, v8 0, v8 0, v8 0, v8 0, v8 0, vB false, v8 0, v8 0, v8 0, v8 0, v8 0, v8 0, v8 0, v8 0, v8 0, v8 0, v8 0, v8 0, v8 0, v8 0, v8 0, v8 0, v8 0, v16 0, v16 0, v64 0] := by unfold ZeroT; kernel_rfl
theorem bt96 : BuildT Try.prog 96 [(0, 1), (1, 1)] [.slice none 0 0, vI 0] := ⟨by kernel_rfl, by unfold ZeroT; kernel_rfl⟩
theorem ag24 : isAggT Try.prog 24 5 = true := by kernel_rfl
theorem bt74 : BuildT Try.prog 74 [(0, 1), (1, 5), (6, 1), (7, 1)] [v64 0, vI 0, v64 0, v64 0, v64 0, v64 0, .pointer none, .slice none 0 0] := ⟨by kernel_rfl, by unfold ZeroT; kernel_rfl⟩
theorem ze38 : ZeroT Try.prog 38 [vB false, v8 0, v8 0, v8 0, v8 0, v8 0, v8 0, v8 0, v8 0, v8 0, v8 0, v8 0, v8 0, v8 0, v8 0, v8 0, v8 0, vB false, v8 0, v8 0, v8 0, v8 0, v8 0, v8 0, v8 0, v8 0, v8 0, v8 0, v8 0, v8 0, v8 0, v8 0, v8 0, v8 0, v8 0, v16 0, v16 0, vI 0, v8 0, vB false] := by unfold ZeroT; kernel_rfl
theorem bt36 : BuildT Try.prog 36 [(0, 17), (17, 17), (34, 1), (35, 1), (36, 1)] [vB false, v8 0, v8 0, v8 0, v8 0, v8 0, v8 0, v8 0, v8 0, v8 0, v8 0, v8 0, v8 0, v8 0, v8 0, v8 0, v8 0, vB false, v8 0, v8 0, v8 0, v8 0, v8 0, v8 0, v8 0, v8 0, v8 0, v8 0, v8 0, v8 0, v8 0, v8 0, v8 0, v8 0, v8 0, v16 0, v16 0] := ⟨by kernel_rfl, by unfold ZeroT; kernel_rfl⟩
theorem bt38 : BuildT Try.prog 38 [(0, 37), (37, 1), (38, 1), (39, 1)] [vB false, v8 0, v8 0, v8 0, v8 0, v8 0, v8 0, v8 0, v8 0, v8 0, v8 0, v8 0, v8 0, v8 0, v8 0, v8 0, v8 0, vB false, v8 0, v8 0, v8 0, v8 0, v8 0, v8 0, v8 0, v8 0, v8 0, v8 0, v8 0, v8 0, v8 0, v8 0, v8 0, v8 0, v8 0, v16 0, v16 0, vI 0, v8 0, vB false] := ⟨by kernel_rfl, by unfold ZeroT; kernel_rfl⟩
theorem ag38 : isAggT Try.prog 38 40 = true := by kernel_rfl
theorem sz38 : sizeT Try.prog 38 40 = true := by kernel_rfl
theorem bd23 : BD Try.f23 = true := by kernel_rfl
theorem fl38_0 : FieldT Try.prog 38 0 0 36 37 := ⟨by kernel_rfl, by kernel_rfl⟩
theorem ag36 : isAggT Try.prog 36 37 = true := by kernel_rfl
theorem ze36 : ZeroT Try.prog 36 [vB false, v8 0, v8 0, v8 0, v8 0, v8 0, v8 0, v8 0, v8 0, v8 0, v8 0, v8 0, v8 0, v8 0, v8 0, v8 0, v8 0, vB false, v8 0, v8 0, v8 0, v8 0, v8 0, v8 0, v8 0, v8 0, v8 0, v8 0, v8 0, v8 0, v8 0, v8 0, v8 0, v8 0, v8 0, v16 0, v16 0] := by unfold ZeroT; kernel_rfl
theorem fl36_2 : FieldT Try.prog 36 2 34 5 1 := ⟨by kernel_rfl, by kernel_rfl⟩
theorem sc5 : isScalar Try.prog 5 = true := by kernel_rfl
theorem bd41 : BD Try.f41 = true := by kernel_rfl
theorem fl36_3 : FieldT Try.prog 36 3 35 34 1 := ⟨by kernel_rfl, by kernel_rfl⟩
theorem bd42 : BD Try.f42 = true := by kernel_rfl
theorem fl36_4 : FieldT Try.prog 36 4 36 34 1 := ⟨by kernel_rfl, by kernel_rfl⟩
theorem sz34 : sizeT Try.prog 34 1 = true := by kernel_rfl
theorem fl36_0 : FieldT Try.prog 36 0 0 33 17 := ⟨by kernel_rfl, by kernel_rfl⟩
theorem ag33 : isAggT Try.prog 33 17 = true := by kernel_rfl
theorem ze31 : ZeroT Try.prog 31 [v8 0, v8 0, v8 0, v8 0, v8 0, v8 0, v8 0, v8 0, v8 0, v8 0, v8 0, v8 0, v8 0, v8 0, v8 0, v8 0] := by unfold ZeroT; kernel_rfl
theorem fl33_1 : FieldT Try.prog 33 1 1 31 16 := ⟨by kernel_rfl, by kernel_rfl⟩
theorem sz5 : sizeT Try.prog 5 1 = true := by kernel_rfl
theorem fl33_0 : FieldT Try.prog 33 0 0 4 1 := ⟨by kernel_rfl, by kernel_rfl⟩
theorem sc4 : isScalar Try.prog 4 = true := by kernel_rfl
theorem bd61 : BD Try.f61 = true := by kernel_rfl
theorem sl113 : SliceT Try.prog 113 5 1 1 := ⟨Try.underlying113, by kernel_rfl⟩
theorem ag31 : isAggT Try.prog 31 16 = true := by kernel_rfl
theorem moP : Try.prog.follows .mixedOrders = true := by kernel_rfl
theorem bd43 : BD Try.f43 = true := by kernel_rfl
theorem fl36_1 : FieldT Try.prog 36 1 17 33 17 := ⟨by kernel_rfl, by kernel_rfl⟩
theorem sz36 : sizeT Try.prog 36 37 = true := by kernel_rfl
theorem bd14 : BD Try.f14 = true := by kernel_rfl
theorem sc27 : isScalar Try.prog 27 = true := by kernel_rfl
theorem fl74_0 : FieldT Try.prog 74 0 0 22 1 := ⟨by kernel_rfl, by kernel_rfl⟩
theorem fl74_3 : FieldT Try.prog 74 3 7 41 1 := ⟨by kernel_rfl, by kernel_rfl⟩
theorem sc41 : isScalar Try.prog 41 = true := by kernel_rfl
theorem sl41 : SliceT Try.prog 41 46 44 80 := ⟨Try.underlying41, by kernel_rfl⟩
theorem ag46 : isAggT Try.prog 46 44 = true := by kernel_rfl
theorem ze46 : ZeroT Try.prog 46 [vB false, v8 0, v8 0, v8 0, v8 0, v8 0, v8 0, v8 0, v8 0, v8 0, v8 0, v8 0, v8 0, v8 0, v8 0, v8 0, v8 0, vB false, v8 0, v8 0, v8 0, v8 0, v8 0, v8 0, v8 0, v8 0, v8 0, v8 0, v8 0, v8 0, v8 0, v8 0, v8 0, v8 0, v8 0, v16 0, v16 0, v64 0, v64 0, v64 0, v64 0, v8 0, v8 0, v8 0] := by unfold ZeroT; kernel_rfl
theorem fl46_4 : FieldT Try.prog 46 4 40 22 1 := ⟨by kernel_rfl, by kernel_rfl⟩
theorem fl74_1 : FieldT Try.prog 74 1 1 24 5 := ⟨by kernel_rfl, by kernel_rfl⟩
theorem bd57 : BD Try.f57 = true := by kernel_rfl
theorem fl46_3 : FieldT Try.prog 46 3 39 22 1 := ⟨by kernel_rfl, by kernel_rfl⟩
theorem bd39 : BD Try.f39 = true := by kernel_rfl
theorem bd31 : BD Try.f31 = true := by kernel_rfl
theorem sz46 : sizeT Try.prog 46 44 = true := by kernel_rfl
theorem bd59 : BD Try.f59 = true := by kernel_rfl
theorem bd35 : BD Try.f35 = true := by kernel_rfl
theorem fl46_0 : FieldT Try.prog 46 0 0 36 37 := ⟨by kernel_rfl, by kernel_rfl⟩
theorem ze140 : ZeroT Try.prog 140 [.slice none 0 0] := by unfold ZeroT; kernel_rfl
theorem ze5 : ZeroT Try.prog 5 [v8 0] := by unfold ZeroT; kernel_rfl
theorem fl140_0 : FieldT Try.prog 140 0 0 113 1 := ⟨by kernel_rfl, by kernel_rfl⟩
theorem sc113 : isScalar Try.prog 113 = true := by kernel_rfl
theorem sz113 : sizeT Try.prog 113 1 = true := by kernel_rfl
theorem bd85 : BD Try.f85 = true := by kernel_rfl
theorem bd93 : BD Try.f93 = true := by kernel_rfl
theorem bd86 : BD Try.f86 = true := by kernel_rfl
theorem sc34 : isScalar Try.prog 34 = true := by kernel_rfl
theorem un34 : (Try.prog.underlying 34).isSome = true := by kernel_rfl
theorem bd97 : BD Try.f97 = true := by kernel_rfl
theorem bd98 : BD Try.f98 = true := by kernel_rfl
theorem bd94 : BD Try.f94 = true := by kernel_rfl
theorem bd95 : BD Try.f95 = true := by kernel_rfl
theorem bd87 : BD Try.f87 = true := by kernel_rfl
theorem bd96 : BD Try.f96 = true := by kernel_rfl
theorem bd88 : BD Try.f88 = true := by kernel_rfl
theorem bd76 : BD Try.f76 = true := by kernel_rfl
theorem bd75 : BD Try.f75 = true := by kernel_rfl
theorem bd60 : BD Try.f60 = true := by kernel_rfl
theorem bd36 : BD Try.f36 = true := by kernel_rfl
theorem sl110 : SliceT Try.prog 110 3 1 8 := ⟨Try.underlying110, by kernel_rfl⟩
theorem ze3 : ZeroT Try.prog 3 [vI 0] := by unfold ZeroT; kernel_rfl
theorem bd34 : BD Try.f34 = true := by kernel_rfl
theorem bd33 : BD Try.f33 = true := by kernel_rfl
theorem bd32 : BD Try.f32 = true := by kernel_rfl
theorem bd37 : BD Try.f37 = true := by kernel_rfl
theorem sc68 : isScalar Try.prog 68 = true := by kernel_rfl
theorem bd78 : BD Try.f78 = true := by kernel_rfl
theorem bd89 : BD Try.f89 = true := by kernel_rfl
theorem fl96_0 : FieldT Try.prog 96 0 0 94 1 := ⟨by kernel_rfl, by kernel_rfl⟩
theorem sc94 : isScalar Try.prog 94 = true := by kernel_rfl
theorem bd90 : BD Try.f90 = true := by kernel_rfl
theorem bd91 : BD Try.f91 = true := by kernel_rfl
theorem fl102_0 : FieldT Try.prog 102 0 0 4 1 := ⟨by kernel_rfl, by kernel_rfl⟩
theorem fl102_1 : FieldT Try.prog 102 1 1 36 37 := ⟨by kernel_rfl, by kernel_rfl⟩
theorem sz3 : sizeT Try.prog 3 1 = true := by kernel_rfl
theorem bd64 : BD Try.f64 = true := by kernel_rfl
theorem bd50 : BD Try.f50 = true := by kernel_rfl
theorem fl102_2 : FieldT Try.prog 102 2 38 22 1 := ⟨by kernel_rfl, by kernel_rfl⟩
theorem fl74_2 : FieldT Try.prog 74 2 6 68 1 := ⟨by kernel_rfl, by kernel_rfl⟩
theorem bd26 : BD Try.f26 = true := by kernel_rfl
theorem bt102 : BuildT Try.prog 102 [(0, 1), (1, 37), (38, 1)] [vB false, vB false, v8 0, v8 0, v8 0, v8 0, v8 0, v8 0, v8 0, v8 0, v8 0, v8 0, v8 0, v8 0, v8 0, v8 0, v8 0, v8 0, vB false, v8 0, v8 0, v8 0, v8 0, v8 0, v8 0, v8 0, v8 0, v8 0, v8 0, v8 0, v8 0, v8 0, v8 0, v8 0, v8 0, v8 0, v16 0, v16 0, v64 0] := ⟨by kernel_rfl, by unfold ZeroT; kernel_rfl⟩
theorem fl96_1 : FieldT Try.prog 96 1 1 3 1 := ⟨by kernel_rfl, by kernel_rfl⟩
theorem ag102 : isAggT Try.prog 102 39 = true := by kernel_rfl
theorem sz102 : sizeT Try.prog 102 39 = true := by kernel_rfl
theorem bd56 : BD Try.f56 = true := by kernel_rfl
theorem bd53 : BD Try.f53 = true := by kernel_rfl
theorem fl46_6 : FieldT Try.prog 46 6 42 5 1 := ⟨by kernel_rfl, by kernel_rfl⟩
theorem sz41 : sizeT Try.prog 41 1 = true := by kernel_rfl
theorem bd38 : BD Try.f38 = true := by kernel_rfl
theorem bd30 : BD Try.f30 = true := by kernel_rfl
theorem sz22 : sizeT Try.prog 22 1 = true := by kernel_rfl
theorem bd9 : BD Try.f9 = true := by kernel_rfl
theorem bd52 : BD Try.f52 = true := by kernel_rfl
theorem bd51 : BD Try.f51 = true := by kernel_rfl
theorem bt46 : BuildT Try.prog 46 [(0, 37), (37, 1), (38, 1), (39, 1), (40, 1), (41, 1), (42, 1), (43, 1)] [vB false, v8 0, v8 0, v8 0, v8 0, v8 0, v8 0, v8 0, v8 0, v8 0, v8 0, v8 0, v8 0, v8 0, v8 0, v8 0, v8 0, vB false, v8 0, v8 0, v8 0, v8 0, v8 0, v8 0, v8 0, v8 0, v8 0, v8 0, v8 0, v8 0, v8 0, v8 0, v8 0, v8 0, v8 0, v16 0, v16 0, v64 0, v64 0, v64 0, v64 0, v8 0, v8 0, v8 0] := ⟨by kernel_rfl, by unfold ZeroT; kernel_rfl⟩
theorem bd54 : BD Try.f54 = true := by kernel_rfl
theorem bd27 : BD Try.f27 = true := by kernel_rfl
theorem fl38_1 : FieldT Try.prog 38 1 37 3 1 := ⟨by kernel_rfl, by kernel_rfl⟩
theorem bt55 : BuildT Try.prog 55 [(0, 1), (1, 1)] [v64 0, v64 0] := ⟨by kernel_rfl, by unfold ZeroT; kernel_rfl⟩
theorem ze55 : ZeroT Try.prog 55 [v64 0, v64 0] := by unfold ZeroT; kernel_rfl
theorem fl46_1 : FieldT Try.prog 46 1 37 22 1 := ⟨by kernel_rfl, by kernel_rfl⟩
theorem fl46_2 : FieldT Try.prog 46 2 38 22 1 := ⟨by kernel_rfl, by kernel_rfl⟩
theorem ag55 : isAggT Try.prog 55 2 = true := by kernel_rfl
theorem sz55 : sizeT Try.prog 55 2 = true := by kernel_rfl
theorem bd18 : BD Try.f18 = true := by kernel_rfl
theorem fl55_0 : FieldT Try.prog 55 0 0 22 1 := ⟨by kernel_rfl, by kernel_rfl⟩
theorem fl55_1 : FieldT Try.prog 55 1 1 22 1 := ⟨by kernel_rfl, by kernel_rfl⟩
theorem bd65 : BD Try.f65 = true := by kernel_rfl
theorem bd55 : BD Try.f55 = true := by kernel_rfl
theorem fl46_5 : FieldT Try.prog 46 5 41 5 1 := ⟨by kernel_rfl, by kernel_rfl⟩
theorem fl38_2 : FieldT Try.prog 38 2 38 5 1 := ⟨by kernel_rfl, by kernel_rfl⟩
theorem bd28 : BD Try.f28 = true := by kernel_rfl
theorem fl38_3 : FieldT Try.prog 38 3 39 4 1 := ⟨by kernel_rfl, by kernel_rfl⟩
theorem bd29 : BD Try.f29 = true := by kernel_rfl
theorem bd8 : BD Try.f8 = true := by kernel_rfl
theorem bd20 : BD Try.f20 = true := by kernel_rfl
theorem bd6 : BD Try.f6 = true := by kernel_rfl
theorem fl40_3 : FieldT Try.prog 40 3 42 22 1 := ⟨by kernel_rfl, by kernel_rfl⟩
theorem fl40_1 : FieldT Try.prog 40 1 1 38 40 := ⟨by kernel_rfl, by kernel_rfl⟩
theorem fl40_2 : FieldT Try.prog 40 2 41 5 1 := ⟨by kernel_rfl, by kernel_rfl⟩
theorem ag40 : isAggT Try.prog 40 43 = true := by kernel_rfl
theorem ze40 : ZeroT Try.prog 40 [vI 0, vB false, v8 0, v8 0, v8 0, v8 0, v8 0, v8 0, v8 0, v8 0, v8 0, v8 0, v8 0, v8 0, v8 0, v8 0, v8 0, v8 0, vB false, v8 0, v8 0, v8 0, v8 0, v8 0, v8 0, v8 0, v8 0, v8 0, v8 0, v8 0, v8 0, v8 0, v8 0, v8 0, v8 0, v8 0, v16 0, v16 0, vI 0, v8 0, vB false, v8 0, v64 0] := by unfold ZeroT; kernel_rfl
theorem fl40_0 : FieldT Try.prog 40 0 0 3 1 := ⟨by kernel_rfl, by kernel_rfl⟩
theorem bd10 : BD Try.f10 = true := by kernel_rfl
theorem bd46 : BD Try.f46 = true := by kernel_rfl
theorem bd63 : BD Try.f63 = true := by kernel_rfl
theorem bd77 : BD Try.f77 = true := by kernel_rfl
theorem bd62 : BD Try.f62 = true := by kernel_rfl
theorem bd45 : BD Try.f45 = true := by kernel_rfl
theorem bd17 : BD Try.f17 = true := by kernel_rfl
theorem bd40 : BD Try.f40 = true := by kernel_rfl
theorem bd11 : BD Try.f11 = true := by kernel_rfl
theorem bd12 : BD Try.f12 = true := by kernel_rfl
theorem bd13 : BD Try.f13 = true := by kernel_rfl
theorem sl48 : SliceT Try.prog 48 89 39 56 := ⟨Try.underlying48, by kernel_rfl⟩
theorem fl89_0 : FieldT Try.prog 89 0 0 36 37 := ⟨by kernel_rfl, by kernel_rfl⟩
theorem fl89_1 : FieldT Try.prog 89 1 37 55 2 := ⟨by kernel_rfl, by kernel_rfl⟩
theorem bt89 : BuildT Try.prog 89 [(0, 37), (37, 2)] [vB false, v8 0, v8 0, v8 0, v8 0, v8 0, v8 0, v8 0, v8 0, v8 0, v8 0, v8 0, v8 0, v8 0, v8 0, v8 0, v8 0, vB false, v8 0, v8 0, v8 0, v8 0, v8 0, v8 0, v8 0, v8 0, v8 0, v8 0, v8 0, v8 0, v8 0, v8 0, v8 0, v8 0, v8 0, v16 0, v16 0, v64 0, v64 0] := ⟨by kernel_rfl, by unfold ZeroT; kernel_rfl⟩
theorem ze89 : ZeroT Try.prog 89 [vB false, v8 0, v8 0, v8 0, v8 0, v8 0, v8 0, v8 0, v8 0, v8 0, v8 0, v8 0, v8 0, v8 0, v8 0, v8 0, v8 0, vB false, v8 0, v8 0, v8 0, v8 0, v8 0, v8 0, v8 0, v8 0, v8 0, v8 0, v8 0, v8 0, v8 0, v8 0, v8 0, v8 0, v8 0, v16 0, v16 0, v64 0, v64 0] := by unfold ZeroT; kernel_rfl
theorem bd15 : BD Try.f15 = true := by kernel_rfl
theorem bd44 : BD Try.f44 = true := by kernel_rfl
theorem bd16 : BD Try.f16 = true := by kernel_rfl
theorem sz40 : sizeT Try.prog 40 43 = true := by kernel_rfl
theorem ag89 : isAggT Try.prog 89 39 = true := by kernel_rfl
theorem bd19 : BD Try.f19 = true := by kernel_rfl
theorem bd21 : BD Try.f21 = true := by kernel_rfl
theorem bd22 : BD Try.f22 = true := by kernel_rfl
theorem bd47 : BD Try.f47 = true := by kernel_rfl
theorem un98 : (Try.prog.underlying 98).isSome = true := by kernel_rfl
theorem sc134 : isScalar Try.prog 134 = true := by kernel_rfl
theorem sz134 : sizeT Try.prog 134 1 = true := by kernel_rfl
theorem Q33 (d : Nat) (x y : T_addr_Addr) (w : World) : (Op.equalIn (d + 3) 33 (.agg #[vB x.f_Six, o8 x.f_B 0, o8 x.f_B 1, o8 x.f_B 2, o8 x.f_B 3, o8 x.f_B 4, o8 x.f_B 5, o8 x.f_B 6, o8 x.f_B 7, o8 x.f_B 8, o8 x.f_B 9, o8 x.f_B 10, o8 x.f_B 11, o8 x.f_B 12, o8 x.f_B 13, o8 x.f_B 14, o8 x.f_B 15]) (.agg #[vB y.f_Six, o8 y.f_B 0, o8 y.f_B 1, o8 y.f_B 2, o8 y.f_B 3, o8 y.f_B 4, o8 y.f_B 5, o8 y.f_B 6, o8 y.f_B 7, o8 y.f_B 8, o8 y.f_B 9, o8 y.f_B 10, o8 y.f_B 11, o8 y.f_B 12, o8 y.f_B 13, o8 y.f_B 14, o8 y.f_B 15])).run Try.prog w = .ok (q_addr_Addr x y) w :=
 (run_equalIn_agg w (d + 2) 33 _ _ (by kernel_rfl) (by kernel_rfl)).trans (EqT.run (tr := [(false, 4, 0), (false, 31, 1)]) (by kernel_rfl) ⟨_, _, _, _, rfl, part_s sc4 rfl, part_s sc4 rfl, run_equalIn_bool' w (d + 1) 4 _ _ Try.underlying4, ⟨_, _, _, _, rfl, part_a (us := arrC 16 .u8 x.f_B) ag31 rfl, part_a (us := arrC 16 .u8 y.f_B) ag31 rfl, eq_arr' Try.underlying31 Try.underlying5 sz5 (d + 0) x.f_B y.f_B w, rfl, rfl⟩, rfl⟩)
theorem Q33t (x y : T_addr_Addr) {xs ys : List Value} (w : World) (hx : xs = [vB x.f_Six, o8 x.f_B 0, o8 x.f_B 1, o8 x.f_B 2, o8 x.f_B 3, o8 x.f_B 4, o8 x.f_B 5, o8 x.f_B 6, o8 x.f_B 7, o8 x.f_B 8, o8 x.f_B 9, o8 x.f_B 10, o8 x.f_B 11, o8 x.f_B 12, o8 x.f_B 13, o8 x.f_B 14, o8 x.f_B 15]) (hy : ys = [vB y.f_Six, o8 y.f_B 0, o8 y.f_B 1, o8 y.f_B 2, o8 y.f_B 3, o8 y.f_B 4, o8 y.f_B 5, o8 y.f_B 6, o8 y.f_B 7, o8 y.f_B 8, o8 y.f_B 9, o8 y.f_B 10, o8 y.f_B 11, o8 y.f_B 12, o8 y.f_B 13, o8 y.f_B 14, o8 y.f_B 15]) : (Op.equalIn 10000 33 (.agg xs.toArray) (.agg ys.toArray)).run Try.prog w = .ok (q_addr_Addr x y) w := by
 subst hx; subst hy; exact Q33 9997 x y w
theorem Q36 (d : Nat) (x y : T_packet_Key) (w : World) : (Op.equalIn (d + 4) 36 (.agg #[vB x.f_Src.f_Six, o8 x.f_Src.f_B 0, o8 x.f_Src.f_B 1, o8 x.f_Src.f_B 2, o8 x.f_Src.f_B 3, o8 x.f_Src.f_B 4, o8 x.f_Src.f_B 5, o8 x.f_Src.f_B 6, o8 x.f_Src.f_B 7, o8 x.f_Src.f_B 8, o8 x.f_Src.f_B 9, o8 x.f_Src.f_B 10, o8 x.f_Src.f_B 11, o8 x.f_Src.f_B 12, o8 x.f_Src.f_B 13, o8 x.f_Src.f_B 14, o8 x.f_Src.f_B 15, vB x.f_Dst.f_Six, o8 x.f_Dst.f_B 0, o8 x.f_Dst.f_B 1, o8 x.f_Dst.f_B 2, o8 x.f_Dst.f_B 3, o8 x.f_Dst.f_B 4, o8 x.f_Dst.f_B 5, o8 x.f_Dst.f_B 6, o8 x.f_Dst.f_B 7, o8 x.f_Dst.f_B 8, o8 x.f_Dst.f_B 9, o8 x.f_Dst.f_B 10, o8 x.f_Dst.f_B 11, o8 x.f_Dst.f_B 12, o8 x.f_Dst.f_B 13, o8 x.f_Dst.f_B 14, o8 x.f_Dst.f_B 15, v8 x.f_Proto, v16 x.f_SrcPort, v16 x.f_DstPort]) (.agg #[vB y.f_Src.f_Six, o8 y.f_Src.f_B 0, o8 y.f_Src.f_B 1, o8 y.f_Src.f_B 2, o8 y.f_Src.f_B 3, o8 y.f_Src.f_B 4, o8 y.f_Src.f_B 5, o8 y.f_Src.f_B 6, o8 y.f_Src.f_B 7, o8 y.f_Src.f_B 8, o8 y.f_Src.f_B 9, o8 y.f_Src.f_B 10, o8 y.f_Src.f_B 11, o8 y.f_Src.f_B 12, o8 y.f_Src.f_B 13, o8 y.f_Src.f_B 14, o8 y.f_Src.f_B 15, vB y.f_Dst.f_Six, o8 y.f_Dst.f_B 0, o8 y.f_Dst.f_B 1, o8 y.f_Dst.f_B 2, o8 y.f_Dst.f_B 3, o8 y.f_Dst.f_B 4, o8 y.f_Dst.f_B 5, o8 y.f_Dst.f_B 6, o8 y.f_Dst.f_B 7, o8 y.f_Dst.f_B 8, o8 y.f_Dst.f_B 9, o8 y.f_Dst.f_B 10, o8 y.f_Dst.f_B 11, o8 y.f_Dst.f_B 12, o8 y.f_Dst.f_B 13, o8 y.f_Dst.f_B 14, o8 y.f_Dst.f_B 15, v8 y.f_Proto, v16 y.f_SrcPort, v16 y.f_DstPort])).run Try.prog w = .ok (q_packet_Key x y) w :=
 (run_equalIn_agg w (d + 3) 36 _ _ (by kernel_rfl) (by kernel_rfl)).trans (EqT.run (tr := [(false, 33, 0), (false, 33, 17), (false, 5, 34), (false, 34, 35), (false, 34, 36)]) (by kernel_rfl) ⟨_, _, _, _, rfl, part_a (us := [vB x.f_Src.f_Six, o8 x.f_Src.f_B 0, o8 x.f_Src.f_B 1, o8 x.f_Src.f_B 2, o8 x.f_Src.f_B 3, o8 x.f_Src.f_B 4, o8 x.f_Src.f_B 5, o8 x.f_Src.f_B 6, o8 x.f_Src.f_B 7, o8 x.f_Src.f_B 8, o8 x.f_Src.f_B 9, o8 x.f_Src.f_B 10, o8 x.f_Src.f_B 11, o8 x.f_Src.f_B 12, o8 x.f_Src.f_B 13, o8 x.f_Src.f_B 14, o8 x.f_Src.f_B 15]) ag33 rfl, part_a (us := [vB y.f_Src.f_Six, o8 y.f_Src.f_B 0, o8 y.f_Src.f_B 1, o8 y.f_Src.f_B 2, o8 y.f_Src.f_B 3, o8 y.f_Src.f_B 4, o8 y.f_Src.f_B 5, o8 y.f_Src.f_B 6, o8 y.f_Src.f_B 7, o8 y.f_Src.f_B 8, o8 y.f_Src.f_B 9, o8 y.f_Src.f_B 10, o8 y.f_Src.f_B 11, o8 y.f_Src.f_B 12, o8 y.f_Src.f_B 13, o8 y.f_Src.f_B 14, o8 y.f_Src.f_B 15]) ag33 rfl, Q33 (d + 0) x.f_Src y.f_Src w, ⟨_, _, _, _, rfl, part_a (us := [vB x.f_Dst.f_Six, o8 x.f_Dst.f_B 0, o8 x.f_Dst.f_B 1, o8 x.f_Dst.f_B 2, o8 x.f_Dst.f_B 3, o8 x.f_Dst.f_B 4, o8 x.f_Dst.f_B 5, o8 x.f_Dst.f_B 6, o8 x.f_Dst.f_B 7, o8 x.f_Dst.f_B 8, o8 x.f_Dst.f_B 9, o8 x.f_Dst.f_B 10, o8 x.f_Dst.f_B 11, o8 x.f_Dst.f_B 12, o8 x.f_Dst.f_B 13, o8 x.f_Dst.f_B 14, o8 x.f_Dst.f_B 15]) ag33 rfl, part_a (us := [vB y.f_Dst.f_Six, o8 y.f_Dst.f_B 0, o8 y.f_Dst.f_B 1, o8 y.f_Dst.f_B 2, o8 y.f_Dst.f_B 3, o8 y.f_Dst.f_B 4, o8 y.f_Dst.f_B 5, o8 y.f_Dst.f_B 6, o8 y.f_Dst.f_B 7, o8 y.f_Dst.f_B 8, o8 y.f_Dst.f_B 9, o8 y.f_Dst.f_B 10, o8 y.f_Dst.f_B 11, o8 y.f_Dst.f_B 12, o8 y.f_Dst.f_B 13, o8 y.f_Dst.f_B 14, o8 y.f_Dst.f_B 15]) ag33 rfl, Q33 (d + 0) x.f_Dst y.f_Dst w, ⟨_, _, _, _, rfl, part_s sc5 rfl, part_s sc5 rfl, run_equalIn_int w (d + 2) 5 _ _ _ _ Try.underlying5, ⟨_, _, _, _, rfl, part_s sc34 rfl, part_s sc34 rfl, run_equalIn_int w (d + 2) 34 _ _ _ _ Try.underlying34, ⟨_, _, _, _, rfl, part_s sc34 rfl, part_s sc34 rfl, run_equalIn_int w (d + 2) 34 _ _ _ _ Try.underlying34, rfl, rfl⟩, rfl⟩, rfl⟩, rfl⟩, rfl⟩)
theorem Q36t (x y : T_packet_Key) {xs ys : List Value} (w : World) (hx : xs = [vB x.f_Src.f_Six, o8 x.f_Src.f_B 0, o8 x.f_Src.f_B 1, o8 x.f_Src.f_B 2, o8 x.f_Src.f_B 3, o8 x.f_Src.f_B 4, o8 x.f_Src.f_B 5, o8 x.f_Src.f_B 6, o8 x.f_Src.f_B 7, o8 x.f_Src.f_B 8, o8 x.f_Src.f_B 9, o8 x.f_Src.f_B 10, o8 x.f_Src.f_B 11, o8 x.f_Src.f_B 12, o8 x.f_Src.f_B 13, o8 x.f_Src.f_B 14, o8 x.f_Src.f_B 15, vB x.f_Dst.f_Six, o8 x.f_Dst.f_B 0, o8 x.f_Dst.f_B 1, o8 x.f_Dst.f_B 2, o8 x.f_Dst.f_B 3, o8 x.f_Dst.f_B 4, o8 x.f_Dst.f_B 5, o8 x.f_Dst.f_B 6, o8 x.f_Dst.f_B 7, o8 x.f_Dst.f_B 8, o8 x.f_Dst.f_B 9, o8 x.f_Dst.f_B 10, o8 x.f_Dst.f_B 11, o8 x.f_Dst.f_B 12, o8 x.f_Dst.f_B 13, o8 x.f_Dst.f_B 14, o8 x.f_Dst.f_B 15, v8 x.f_Proto, v16 x.f_SrcPort, v16 x.f_DstPort]) (hy : ys = [vB y.f_Src.f_Six, o8 y.f_Src.f_B 0, o8 y.f_Src.f_B 1, o8 y.f_Src.f_B 2, o8 y.f_Src.f_B 3, o8 y.f_Src.f_B 4, o8 y.f_Src.f_B 5, o8 y.f_Src.f_B 6, o8 y.f_Src.f_B 7, o8 y.f_Src.f_B 8, o8 y.f_Src.f_B 9, o8 y.f_Src.f_B 10, o8 y.f_Src.f_B 11, o8 y.f_Src.f_B 12, o8 y.f_Src.f_B 13, o8 y.f_Src.f_B 14, o8 y.f_Src.f_B 15, vB y.f_Dst.f_Six, o8 y.f_Dst.f_B 0, o8 y.f_Dst.f_B 1, o8 y.f_Dst.f_B 2, o8 y.f_Dst.f_B 3, o8 y.f_Dst.f_B 4, o8 y.f_Dst.f_B 5, o8 y.f_Dst.f_B 6, o8 y.f_Dst.f_B 7, o8 y.f_Dst.f_B 8, o8 y.f_Dst.f_B 9, o8 y.f_Dst.f_B 10, o8 y.f_Dst.f_B 11, o8 y.f_Dst.f_B 12, o8 y.f_Dst.f_B 13, o8 y.f_Dst.f_B 14, o8 y.f_Dst.f_B 15, v8 y.f_Proto, v16 y.f_SrcPort, v16 y.f_DstPort]) : (Op.equalIn 10000 36 (.agg xs.toArray) (.agg ys.toArray)).run Try.prog w = .ok (q_packet_Key x y) w := by
 subst hx; subst hy; exact Q36 9996 x y w
theorem Q46 (d : Nat) (x y : T_flow_Record) (w : World) : (Op.equalIn (d + 5) 46 (.agg #[vB x.f_Key.f_Src.f_Six, o8 x.f_Key.f_Src.f_B 0, o8 x.f_Key.f_Src.f_B 1, o8 x.f_Key.f_Src.f_B 2, o8 x.f_Key.f_Src.f_B 3, o8 x.f_Key.f_Src.f_B 4, o8 x.f_Key.f_Src.f_B 5, o8 x.f_Key.f_Src.f_B 6, o8 x.f_Key.f_Src.f_B 7, o8 x.f_Key.f_Src.f_B 8, o8 x.f_Key.f_Src.f_B 9, o8 x.f_Key.f_Src.f_B 10, o8 x.f_Key.f_Src.f_B 11, o8 x.f_Key.f_Src.f_B 12, o8 x.f_Key.f_Src.f_B 13, o8 x.f_Key.f_Src.f_B 14, o8 x.f_Key.f_Src.f_B 15, vB x.f_Key.f_Dst.f_Six, o8 x.f_Key.f_Dst.f_B 0, o8 x.f_Key.f_Dst.f_B 1, o8 x.f_Key.f_Dst.f_B 2, o8 x.f_Key.f_Dst.f_B 3, o8 x.f_Key.f_Dst.f_B 4, o8 x.f_Key.f_Dst.f_B 5, o8 x.f_Key.f_Dst.f_B 6, o8 x.f_Key.f_Dst.f_B 7, o8 x.f_Key.f_Dst.f_B 8, o8 x.f_Key.f_Dst.f_B 9, o8 x.f_Key.f_Dst.f_B 10, o8 x.f_Key.f_Dst.f_B 11, o8 x.f_Key.f_Dst.f_B 12, o8 x.f_Key.f_Dst.f_B 13, o8 x.f_Key.f_Dst.f_B 14, o8 x.f_Key.f_Dst.f_B 15, v8 x.f_Key.f_Proto, v16 x.f_Key.f_SrcPort, v16 x.f_Key.f_DstPort, v64 x.f_Packets, v64 x.f_Bytes, v64 x.f_First, v64 x.f_Last, v8 x.f_Flags, v8 x.f_Reason, v8 x.f_Class]) (.agg #[vB y.f_Key.f_Src.f_Six, o8 y.f_Key.f_Src.f_B 0, o8 y.f_Key.f_Src.f_B 1, o8 y.f_Key.f_Src.f_B 2, o8 y.f_Key.f_Src.f_B 3, o8 y.f_Key.f_Src.f_B 4, o8 y.f_Key.f_Src.f_B 5, o8 y.f_Key.f_Src.f_B 6, o8 y.f_Key.f_Src.f_B 7, o8 y.f_Key.f_Src.f_B 8, o8 y.f_Key.f_Src.f_B 9, o8 y.f_Key.f_Src.f_B 10, o8 y.f_Key.f_Src.f_B 11, o8 y.f_Key.f_Src.f_B 12, o8 y.f_Key.f_Src.f_B 13, o8 y.f_Key.f_Src.f_B 14, o8 y.f_Key.f_Src.f_B 15, vB y.f_Key.f_Dst.f_Six, o8 y.f_Key.f_Dst.f_B 0, o8 y.f_Key.f_Dst.f_B 1, o8 y.f_Key.f_Dst.f_B 2, o8 y.f_Key.f_Dst.f_B 3, o8 y.f_Key.f_Dst.f_B 4, o8 y.f_Key.f_Dst.f_B 5, o8 y.f_Key.f_Dst.f_B 6, o8 y.f_Key.f_Dst.f_B 7, o8 y.f_Key.f_Dst.f_B 8, o8 y.f_Key.f_Dst.f_B 9, o8 y.f_Key.f_Dst.f_B 10, o8 y.f_Key.f_Dst.f_B 11, o8 y.f_Key.f_Dst.f_B 12, o8 y.f_Key.f_Dst.f_B 13, o8 y.f_Key.f_Dst.f_B 14, o8 y.f_Key.f_Dst.f_B 15, v8 y.f_Key.f_Proto, v16 y.f_Key.f_SrcPort, v16 y.f_Key.f_DstPort, v64 y.f_Packets, v64 y.f_Bytes, v64 y.f_First, v64 y.f_Last, v8 y.f_Flags, v8 y.f_Reason, v8 y.f_Class])).run Try.prog w = .ok (q_flow_Record x y) w :=
 (run_equalIn_agg w (d + 4) 46 _ _ (by kernel_rfl) (by kernel_rfl)).trans (EqT.run (tr := [(false, 36, 0), (false, 22, 37), (false, 22, 38), (false, 22, 39), (false, 22, 40), (false, 5, 41), (false, 5, 42), (false, 5, 43)]) (by kernel_rfl) ⟨_, _, _, _, rfl, part_a (us := [vB x.f_Key.f_Src.f_Six, o8 x.f_Key.f_Src.f_B 0, o8 x.f_Key.f_Src.f_B 1, o8 x.f_Key.f_Src.f_B 2, o8 x.f_Key.f_Src.f_B 3, o8 x.f_Key.f_Src.f_B 4, o8 x.f_Key.f_Src.f_B 5, o8 x.f_Key.f_Src.f_B 6, o8 x.f_Key.f_Src.f_B 7, o8 x.f_Key.f_Src.f_B 8, o8 x.f_Key.f_Src.f_B 9, o8 x.f_Key.f_Src.f_B 10, o8 x.f_Key.f_Src.f_B 11, o8 x.f_Key.f_Src.f_B 12, o8 x.f_Key.f_Src.f_B 13, o8 x.f_Key.f_Src.f_B 14, o8 x.f_Key.f_Src.f_B 15, vB x.f_Key.f_Dst.f_Six, o8 x.f_Key.f_Dst.f_B 0, o8 x.f_Key.f_Dst.f_B 1, o8 x.f_Key.f_Dst.f_B 2, o8 x.f_Key.f_Dst.f_B 3, o8 x.f_Key.f_Dst.f_B 4, o8 x.f_Key.f_Dst.f_B 5, o8 x.f_Key.f_Dst.f_B 6, o8 x.f_Key.f_Dst.f_B 7, o8 x.f_Key.f_Dst.f_B 8, o8 x.f_Key.f_Dst.f_B 9, o8 x.f_Key.f_Dst.f_B 10, o8 x.f_Key.f_Dst.f_B 11, o8 x.f_Key.f_Dst.f_B 12, o8 x.f_Key.f_Dst.f_B 13, o8 x.f_Key.f_Dst.f_B 14, o8 x.f_Key.f_Dst.f_B 15, v8 x.f_Key.f_Proto, v16 x.f_Key.f_SrcPort, v16 x.f_Key.f_DstPort]) ag36 rfl, part_a (us := [vB y.f_Key.f_Src.f_Six, o8 y.f_Key.f_Src.f_B 0, o8 y.f_Key.f_Src.f_B 1, o8 y.f_Key.f_Src.f_B 2, o8 y.f_Key.f_Src.f_B 3, o8 y.f_Key.f_Src.f_B 4, o8 y.f_Key.f_Src.f_B 5, o8 y.f_Key.f_Src.f_B 6, o8 y.f_Key.f_Src.f_B 7, o8 y.f_Key.f_Src.f_B 8, o8 y.f_Key.f_Src.f_B 9, o8 y.f_Key.f_Src.f_B 10, o8 y.f_Key.f_Src.f_B 11, o8 y.f_Key.f_Src.f_B 12, o8 y.f_Key.f_Src.f_B 13, o8 y.f_Key.f_Src.f_B 14, o8 y.f_Key.f_Src.f_B 15, vB y.f_Key.f_Dst.f_Six, o8 y.f_Key.f_Dst.f_B 0, o8 y.f_Key.f_Dst.f_B 1, o8 y.f_Key.f_Dst.f_B 2, o8 y.f_Key.f_Dst.f_B 3, o8 y.f_Key.f_Dst.f_B 4, o8 y.f_Key.f_Dst.f_B 5, o8 y.f_Key.f_Dst.f_B 6, o8 y.f_Key.f_Dst.f_B 7, o8 y.f_Key.f_Dst.f_B 8, o8 y.f_Key.f_Dst.f_B 9, o8 y.f_Key.f_Dst.f_B 10, o8 y.f_Key.f_Dst.f_B 11, o8 y.f_Key.f_Dst.f_B 12, o8 y.f_Key.f_Dst.f_B 13, o8 y.f_Key.f_Dst.f_B 14, o8 y.f_Key.f_Dst.f_B 15, v8 y.f_Key.f_Proto, v16 y.f_Key.f_SrcPort, v16 y.f_Key.f_DstPort]) ag36 rfl, Q36 (d + 0) x.f_Key y.f_Key w, ⟨_, _, _, _, rfl, part_s sc22 rfl, part_s sc22 rfl, run_equalIn_int w (d + 3) 22 _ _ _ _ Try.underlying22, ⟨_, _, _, _, rfl, part_s sc22 rfl, part_s sc22 rfl, run_equalIn_int w (d + 3) 22 _ _ _ _ Try.underlying22, ⟨_, _, _, _, rfl, part_s sc22 rfl, part_s sc22 rfl, run_equalIn_int w (d + 3) 22 _ _ _ _ Try.underlying22, ⟨_, _, _, _, rfl, part_s sc22 rfl, part_s sc22 rfl, run_equalIn_int w (d + 3) 22 _ _ _ _ Try.underlying22, ⟨_, _, _, _, rfl, part_s sc5 rfl, part_s sc5 rfl, run_equalIn_int w (d + 3) 5 _ _ _ _ Try.underlying5, ⟨_, _, _, _, rfl, part_s sc5 rfl, part_s sc5 rfl, run_equalIn_int w (d + 3) 5 _ _ _ _ Try.underlying5, ⟨_, _, _, _, rfl, part_s sc5 rfl, part_s sc5 rfl, run_equalIn_int w (d + 3) 5 _ _ _ _ Try.underlying5, rfl, rfl⟩, rfl⟩, rfl⟩, rfl⟩, rfl⟩, rfl⟩, rfl⟩, rfl⟩)
theorem Q46t (x y : T_flow_Record) {xs ys : List Value} (w : World) (hx : xs = [vB x.f_Key.f_Src.f_Six, o8 x.f_Key.f_Src.f_B 0, o8 x.f_Key.f_Src.f_B 1, o8 x.f_Key.f_Src.f_B 2, o8 x.f_Key.f_Src.f_B 3, o8 x.f_Key.f_Src.f_B 4, o8 x.f_Key.f_Src.f_B 5, o8 x.f_Key.f_Src.f_B 6, o8 x.f_Key.f_Src.f_B 7, o8 x.f_Key.f_Src.f_B 8, o8 x.f_Key.f_Src.f_B 9, o8 x.f_Key.f_Src.f_B 10, o8 x.f_Key.f_Src.f_B 11, o8 x.f_Key.f_Src.f_B 12, o8 x.f_Key.f_Src.f_B 13, o8 x.f_Key.f_Src.f_B 14, o8 x.f_Key.f_Src.f_B 15, vB x.f_Key.f_Dst.f_Six, o8 x.f_Key.f_Dst.f_B 0, o8 x.f_Key.f_Dst.f_B 1, o8 x.f_Key.f_Dst.f_B 2, o8 x.f_Key.f_Dst.f_B 3, o8 x.f_Key.f_Dst.f_B 4, o8 x.f_Key.f_Dst.f_B 5, o8 x.f_Key.f_Dst.f_B 6, o8 x.f_Key.f_Dst.f_B 7, o8 x.f_Key.f_Dst.f_B 8, o8 x.f_Key.f_Dst.f_B 9, o8 x.f_Key.f_Dst.f_B 10, o8 x.f_Key.f_Dst.f_B 11, o8 x.f_Key.f_Dst.f_B 12, o8 x.f_Key.f_Dst.f_B 13, o8 x.f_Key.f_Dst.f_B 14, o8 x.f_Key.f_Dst.f_B 15, v8 x.f_Key.f_Proto, v16 x.f_Key.f_SrcPort, v16 x.f_Key.f_DstPort, v64 x.f_Packets, v64 x.f_Bytes, v64 x.f_First, v64 x.f_Last, v8 x.f_Flags, v8 x.f_Reason, v8 x.f_Class]) (hy : ys = [vB y.f_Key.f_Src.f_Six, o8 y.f_Key.f_Src.f_B 0, o8 y.f_Key.f_Src.f_B 1, o8 y.f_Key.f_Src.f_B 2, o8 y.f_Key.f_Src.f_B 3, o8 y.f_Key.f_Src.f_B 4, o8 y.f_Key.f_Src.f_B 5, o8 y.f_Key.f_Src.f_B 6, o8 y.f_Key.f_Src.f_B 7, o8 y.f_Key.f_Src.f_B 8, o8 y.f_Key.f_Src.f_B 9, o8 y.f_Key.f_Src.f_B 10, o8 y.f_Key.f_Src.f_B 11, o8 y.f_Key.f_Src.f_B 12, o8 y.f_Key.f_Src.f_B 13, o8 y.f_Key.f_Src.f_B 14, o8 y.f_Key.f_Src.f_B 15, vB y.f_Key.f_Dst.f_Six, o8 y.f_Key.f_Dst.f_B 0, o8 y.f_Key.f_Dst.f_B 1, o8 y.f_Key.f_Dst.f_B 2, o8 y.f_Key.f_Dst.f_B 3, o8 y.f_Key.f_Dst.f_B 4, o8 y.f_Key.f_Dst.f_B 5, o8 y.f_Key.f_Dst.f_B 6, o8 y.f_Key.f_Dst.f_B 7, o8 y.f_Key.f_Dst.f_B 8, o8 y.f_Key.f_Dst.f_B 9, o8 y.f_Key.f_Dst.f_B 10, o8 y.f_Key.f_Dst.f_B 11, o8 y.f_Key.f_Dst.f_B 12, o8 y.f_Key.f_Dst.f_B 13, o8 y.f_Key.f_Dst.f_B 14, o8 y.f_Key.f_Dst.f_B 15, v8 y.f_Key.f_Proto, v16 y.f_Key.f_SrcPort, v16 y.f_Key.f_DstPort, v64 y.f_Packets, v64 y.f_Bytes, v64 y.f_First, v64 y.f_Last, v8 y.f_Flags, v8 y.f_Reason, v8 y.f_Class]) : (Op.equalIn 10000 46 (.agg xs.toArray) (.agg ys.toArray)).run Try.prog w = .ok (q_flow_Record x y) w := by
 subst hx; subst hy; exact Q46 9995 x y w
theorem Q55 (d : Nat) (x y : T_flow_Total) (w : World) : (Op.equalIn (d + 2) 55 (.agg #[v64 x.f_Packets, v64 x.f_Bytes]) (.agg #[v64 y.f_Packets, v64 y.f_Bytes])).run Try.prog w = .ok (q_flow_Total x y) w :=
 (run_equalIn_agg w (d + 1) 55 _ _ (by kernel_rfl) (by kernel_rfl)).trans (EqT.run (tr := [(false, 22, 0), (false, 22, 1)]) (by kernel_rfl) ⟨_, _, _, _, rfl, part_s sc22 rfl, part_s sc22 rfl, run_equalIn_int w (d + 0) 22 _ _ _ _ Try.underlying22, ⟨_, _, _, _, rfl, part_s sc22 rfl, part_s sc22 rfl, run_equalIn_int w (d + 0) 22 _ _ _ _ Try.underlying22, rfl, rfl⟩, rfl⟩)
theorem Q55t (x y : T_flow_Total) {xs ys : List Value} (w : World) (hx : xs = [v64 x.f_Packets, v64 x.f_Bytes]) (hy : ys = [v64 y.f_Packets, v64 y.f_Bytes]) : (Op.equalIn 10000 55 (.agg xs.toArray) (.agg ys.toArray)).run Try.prog w = .ok (q_flow_Total x y) w := by
 subst hx; subst hy; exact Q55 9998 x y w
theorem Q89 (d : Nat) (x y : T_law24_Sum) (w : World) : (Op.equalIn (d + 5) 89 (.agg #[vB x.f_Key.f_Src.f_Six, o8 x.f_Key.f_Src.f_B 0, o8 x.f_Key.f_Src.f_B 1, o8 x.f_Key.f_Src.f_B 2, o8 x.f_Key.f_Src.f_B 3, o8 x.f_Key.f_Src.f_B 4, o8 x.f_Key.f_Src.f_B 5, o8 x.f_Key.f_Src.f_B 6, o8 x.f_Key.f_Src.f_B 7, o8 x.f_Key.f_Src.f_B 8, o8 x.f_Key.f_Src.f_B 9, o8 x.f_Key.f_Src.f_B 10, o8 x.f_Key.f_Src.f_B 11, o8 x.f_Key.f_Src.f_B 12, o8 x.f_Key.f_Src.f_B 13, o8 x.f_Key.f_Src.f_B 14, o8 x.f_Key.f_Src.f_B 15, vB x.f_Key.f_Dst.f_Six, o8 x.f_Key.f_Dst.f_B 0, o8 x.f_Key.f_Dst.f_B 1, o8 x.f_Key.f_Dst.f_B 2, o8 x.f_Key.f_Dst.f_B 3, o8 x.f_Key.f_Dst.f_B 4, o8 x.f_Key.f_Dst.f_B 5, o8 x.f_Key.f_Dst.f_B 6, o8 x.f_Key.f_Dst.f_B 7, o8 x.f_Key.f_Dst.f_B 8, o8 x.f_Key.f_Dst.f_B 9, o8 x.f_Key.f_Dst.f_B 10, o8 x.f_Key.f_Dst.f_B 11, o8 x.f_Key.f_Dst.f_B 12, o8 x.f_Key.f_Dst.f_B 13, o8 x.f_Key.f_Dst.f_B 14, o8 x.f_Key.f_Dst.f_B 15, v8 x.f_Key.f_Proto, v16 x.f_Key.f_SrcPort, v16 x.f_Key.f_DstPort, v64 x.f_Total.f_Packets, v64 x.f_Total.f_Bytes]) (.agg #[vB y.f_Key.f_Src.f_Six, o8 y.f_Key.f_Src.f_B 0, o8 y.f_Key.f_Src.f_B 1, o8 y.f_Key.f_Src.f_B 2, o8 y.f_Key.f_Src.f_B 3, o8 y.f_Key.f_Src.f_B 4, o8 y.f_Key.f_Src.f_B 5, o8 y.f_Key.f_Src.f_B 6, o8 y.f_Key.f_Src.f_B 7, o8 y.f_Key.f_Src.f_B 8, o8 y.f_Key.f_Src.f_B 9, o8 y.f_Key.f_Src.f_B 10, o8 y.f_Key.f_Src.f_B 11, o8 y.f_Key.f_Src.f_B 12, o8 y.f_Key.f_Src.f_B 13, o8 y.f_Key.f_Src.f_B 14, o8 y.f_Key.f_Src.f_B 15, vB y.f_Key.f_Dst.f_Six, o8 y.f_Key.f_Dst.f_B 0, o8 y.f_Key.f_Dst.f_B 1, o8 y.f_Key.f_Dst.f_B 2, o8 y.f_Key.f_Dst.f_B 3, o8 y.f_Key.f_Dst.f_B 4, o8 y.f_Key.f_Dst.f_B 5, o8 y.f_Key.f_Dst.f_B 6, o8 y.f_Key.f_Dst.f_B 7, o8 y.f_Key.f_Dst.f_B 8, o8 y.f_Key.f_Dst.f_B 9, o8 y.f_Key.f_Dst.f_B 10, o8 y.f_Key.f_Dst.f_B 11, o8 y.f_Key.f_Dst.f_B 12, o8 y.f_Key.f_Dst.f_B 13, o8 y.f_Key.f_Dst.f_B 14, o8 y.f_Key.f_Dst.f_B 15, v8 y.f_Key.f_Proto, v16 y.f_Key.f_SrcPort, v16 y.f_Key.f_DstPort, v64 y.f_Total.f_Packets, v64 y.f_Total.f_Bytes])).run Try.prog w = .ok (q_law24_Sum x y) w :=
 (run_equalIn_agg w (d + 4) 89 _ _ (by kernel_rfl) (by kernel_rfl)).trans (EqT.run (tr := [(false, 36, 0), (false, 55, 37)]) (by kernel_rfl) ⟨_, _, _, _, rfl, part_a (us := [vB x.f_Key.f_Src.f_Six, o8 x.f_Key.f_Src.f_B 0, o8 x.f_Key.f_Src.f_B 1, o8 x.f_Key.f_Src.f_B 2, o8 x.f_Key.f_Src.f_B 3, o8 x.f_Key.f_Src.f_B 4, o8 x.f_Key.f_Src.f_B 5, o8 x.f_Key.f_Src.f_B 6, o8 x.f_Key.f_Src.f_B 7, o8 x.f_Key.f_Src.f_B 8, o8 x.f_Key.f_Src.f_B 9, o8 x.f_Key.f_Src.f_B 10, o8 x.f_Key.f_Src.f_B 11, o8 x.f_Key.f_Src.f_B 12, o8 x.f_Key.f_Src.f_B 13, o8 x.f_Key.f_Src.f_B 14, o8 x.f_Key.f_Src.f_B 15, vB x.f_Key.f_Dst.f_Six, o8 x.f_Key.f_Dst.f_B 0, o8 x.f_Key.f_Dst.f_B 1, o8 x.f_Key.f_Dst.f_B 2, o8 x.f_Key.f_Dst.f_B 3, o8 x.f_Key.f_Dst.f_B 4, o8 x.f_Key.f_Dst.f_B 5, o8 x.f_Key.f_Dst.f_B 6, o8 x.f_Key.f_Dst.f_B 7, o8 x.f_Key.f_Dst.f_B 8, o8 x.f_Key.f_Dst.f_B 9, o8 x.f_Key.f_Dst.f_B 10, o8 x.f_Key.f_Dst.f_B 11, o8 x.f_Key.f_Dst.f_B 12, o8 x.f_Key.f_Dst.f_B 13, o8 x.f_Key.f_Dst.f_B 14, o8 x.f_Key.f_Dst.f_B 15, v8 x.f_Key.f_Proto, v16 x.f_Key.f_SrcPort, v16 x.f_Key.f_DstPort]) ag36 rfl, part_a (us := [vB y.f_Key.f_Src.f_Six, o8 y.f_Key.f_Src.f_B 0, o8 y.f_Key.f_Src.f_B 1, o8 y.f_Key.f_Src.f_B 2, o8 y.f_Key.f_Src.f_B 3, o8 y.f_Key.f_Src.f_B 4, o8 y.f_Key.f_Src.f_B 5, o8 y.f_Key.f_Src.f_B 6, o8 y.f_Key.f_Src.f_B 7, o8 y.f_Key.f_Src.f_B 8, o8 y.f_Key.f_Src.f_B 9, o8 y.f_Key.f_Src.f_B 10, o8 y.f_Key.f_Src.f_B 11, o8 y.f_Key.f_Src.f_B 12, o8 y.f_Key.f_Src.f_B 13, o8 y.f_Key.f_Src.f_B 14, o8 y.f_Key.f_Src.f_B 15, vB y.f_Key.f_Dst.f_Six, o8 y.f_Key.f_Dst.f_B 0, o8 y.f_Key.f_Dst.f_B 1, o8 y.f_Key.f_Dst.f_B 2, o8 y.f_Key.f_Dst.f_B 3, o8 y.f_Key.f_Dst.f_B 4, o8 y.f_Key.f_Dst.f_B 5, o8 y.f_Key.f_Dst.f_B 6, o8 y.f_Key.f_Dst.f_B 7, o8 y.f_Key.f_Dst.f_B 8, o8 y.f_Key.f_Dst.f_B 9, o8 y.f_Key.f_Dst.f_B 10, o8 y.f_Key.f_Dst.f_B 11, o8 y.f_Key.f_Dst.f_B 12, o8 y.f_Key.f_Dst.f_B 13, o8 y.f_Key.f_Dst.f_B 14, o8 y.f_Key.f_Dst.f_B 15, v8 y.f_Key.f_Proto, v16 y.f_Key.f_SrcPort, v16 y.f_Key.f_DstPort]) ag36 rfl, Q36 (d + 0) x.f_Key y.f_Key w, ⟨_, _, _, _, rfl, part_a (us := [v64 x.f_Total.f_Packets, v64 x.f_Total.f_Bytes]) ag55 rfl, part_a (us := [v64 y.f_Total.f_Packets, v64 y.f_Total.f_Bytes]) ag55 rfl, Q55 (d + 2) x.f_Total y.f_Total w, rfl, rfl⟩, rfl⟩)
theorem Q89t (x y : T_law24_Sum) {xs ys : List Value} (w : World) (hx : xs = [vB x.f_Key.f_Src.f_Six, o8 x.f_Key.f_Src.f_B 0, o8 x.f_Key.f_Src.f_B 1, o8 x.f_Key.f_Src.f_B 2, o8 x.f_Key.f_Src.f_B 3, o8 x.f_Key.f_Src.f_B 4, o8 x.f_Key.f_Src.f_B 5, o8 x.f_Key.f_Src.f_B 6, o8 x.f_Key.f_Src.f_B 7, o8 x.f_Key.f_Src.f_B 8, o8 x.f_Key.f_Src.f_B 9, o8 x.f_Key.f_Src.f_B 10, o8 x.f_Key.f_Src.f_B 11, o8 x.f_Key.f_Src.f_B 12, o8 x.f_Key.f_Src.f_B 13, o8 x.f_Key.f_Src.f_B 14, o8 x.f_Key.f_Src.f_B 15, vB x.f_Key.f_Dst.f_Six, o8 x.f_Key.f_Dst.f_B 0, o8 x.f_Key.f_Dst.f_B 1, o8 x.f_Key.f_Dst.f_B 2, o8 x.f_Key.f_Dst.f_B 3, o8 x.f_Key.f_Dst.f_B 4, o8 x.f_Key.f_Dst.f_B 5, o8 x.f_Key.f_Dst.f_B 6, o8 x.f_Key.f_Dst.f_B 7, o8 x.f_Key.f_Dst.f_B 8, o8 x.f_Key.f_Dst.f_B 9, o8 x.f_Key.f_Dst.f_B 10, o8 x.f_Key.f_Dst.f_B 11, o8 x.f_Key.f_Dst.f_B 12, o8 x.f_Key.f_Dst.f_B 13, o8 x.f_Key.f_Dst.f_B 14, o8 x.f_Key.f_Dst.f_B 15, v8 x.f_Key.f_Proto, v16 x.f_Key.f_SrcPort, v16 x.f_Key.f_DstPort, v64 x.f_Total.f_Packets, v64 x.f_Total.f_Bytes]) (hy : ys = [vB y.f_Key.f_Src.f_Six, o8 y.f_Key.f_Src.f_B 0, o8 y.f_Key.f_Src.f_B 1, o8 y.f_Key.f_Src.f_B 2, o8 y.f_Key.f_Src.f_B 3, o8 y.f_Key.f_Src.f_B 4, o8 y.f_Key.f_Src.f_B 5, o8 y.f_Key.f_Src.f_B 6, o8 y.f_Key.f_Src.f_B 7, o8 y.f_Key.f_Src.f_B 8, o8 y.f_Key.f_Src.f_B 9, o8 y.f_Key.f_Src.f_B 10, o8 y.f_Key.f_Src.f_B 11, o8 y.f_Key.f_Src.f_B 12, o8 y.f_Key.f_Src.f_B 13, o8 y.f_Key.f_Src.f_B 14, o8 y.f_Key.f_Src.f_B 15, vB y.f_Key.f_Dst.f_Six, o8 y.f_Key.f_Dst.f_B 0, o8 y.f_Key.f_Dst.f_B 1, o8 y.f_Key.f_Dst.f_B 2, o8 y.f_Key.f_Dst.f_B 3, o8 y.f_Key.f_Dst.f_B 4, o8 y.f_Key.f_Dst.f_B 5, o8 y.f_Key.f_Dst.f_B 6, o8 y.f_Key.f_Dst.f_B 7, o8 y.f_Key.f_Dst.f_B 8, o8 y.f_Key.f_Dst.f_B 9, o8 y.f_Key.f_Dst.f_B 10, o8 y.f_Key.f_Dst.f_B 11, o8 y.f_Key.f_Dst.f_B 12, o8 y.f_Key.f_Dst.f_B 13, o8 y.f_Key.f_Dst.f_B 14, o8 y.f_Key.f_Dst.f_B 15, v8 y.f_Key.f_Proto, v16 y.f_Key.f_SrcPort, v16 y.f_Key.f_DstPort, v64 y.f_Total.f_Packets, v64 y.f_Total.f_Bytes]) : (Op.equalIn 10000 89 (.agg xs.toArray) (.agg ys.toArray)).run Try.prog w = .ok (q_law24_Sum x y) w := by
 subst hx; subst hy; exact Q89 9995 x y w

set_option maxRecDepth 100000 in
set_option maxHeartbeats 40000000 in
theorem c_math_bits_Len64 (w : World) (xv1 : Int) (r : Int) (hF : F_math_bits_Len64 xv1 = some r) :
  CallsR Try.prog 49 [v64 xv1] w (fun v w' => v = vI r ∧ Mem w [] w' []) := by
 refine calls_KC Try.func49 rfl Try.ntmps49 rfl ?_
 have hM := Mem.init w
 unfold F_math_bits_Len64 at hF
 refine sr fun Q2 hQ2 => ?_
 refine va rfl rfl ?_
 refine nt hQ2 ?_
 clear hQ2 Q2
 refine KC.cut (fun a w7 => ∃ (xv5 : Int) (nv6 : Int), Kn 25 [(0, v64 xv5), (2, vI nv6)] a ∧ Mem w [] w7 [] ∧ F_math_bits_Len64_j1 xv5 nv6 = some r) ?_ ?_
 ·refine sr fun Q3 hQ3 => ?_
  refine vm rfl rfl ?_
  refine RL.val (O.geq rfl rfl) rfl ?_
  refine nt hQ3 ?_
  clear hQ3 Q3
  refine KC.cond rfl (fun hc => ?_) (fun hc => ?_)
  ·rw [if_pos hc] at hF
   refine sr fun Q4 hQ4 => ?_
   refine vm rfl rfl ?_
   refine RL.val (O.shr rfl rfl (by decide)) rfl ?_
   refine va rfl rfl ?_
   refine nt hQ4 ?_
   clear hQ4 Q4
   refine KC.region ?_
   refine va rfl rfl ?_
   refine RL.nil ?_
   refine KQ.then_k ?_
   exact fun a ha => ⟨(Ox.shr .u64 xv1 32), 32, ha.less (less_cons rfl (less_cons rfl less_nil)), hM, hF⟩
  rw [if_neg (ne_true hc)] at hF
  refine KC.skip ?_
  refine KQ.then_k ?_
  exact fun a ha => ⟨xv1, 0, ha.less (less_cons rfl (less_cons rfl less_nil)), hM, hF⟩
 rintro a w7 ⟨xv5, nv6, ha, hM, hF⟩
 refine KC.app ha ?_
 clear ha
 unfold F_math_bits_Len64_j1 at hF
 refine KC.cut (fun a w12 => ∃ (xv10 : Int) (nv11 : Int), Kn 25 [(0, v64 xv10), (2, vI nv11)] a ∧ Mem w [] w12 [] ∧ F_math_bits_Len64_j2 xv10 nv11 = some r) ?_ ?_
 ·refine sr fun Q8 hQ8 => ?_
  refine vm rfl rfl ?_
  refine RL.val (O.geq rfl rfl) rfl ?_
  refine nt hQ8 ?_
  clear hQ8 Q8
  refine KC.cond rfl (fun hc => ?_) (fun hc => ?_)
  ·rw [if_pos hc] at hF
   refine sr fun Q9 hQ9 => ?_
   refine vm rfl rfl ?_
   refine RL.val (O.shr rfl rfl (by decide)) rfl ?_
   refine va rfl rfl ?_
   refine nt hQ9 ?_
   clear hQ9 Q9
   refine KC.region ?_
   refine vm rfl rfl ?_
   refine RL.val (O.add rfl rfl) rfl ?_
   refine va rfl rfl ?_
   refine RL.nil ?_
   refine KQ.then_k ?_
   exact fun a ha => ⟨(Ox.shr .u64 xv5 16), (IntKind.i64.wrap (nv6 + 16)), ha.less (less_cons rfl (less_cons rfl less_nil)), hM, hF⟩
  rw [if_neg (ne_true hc)] at hF
  refine KC.skip ?_
  refine KQ.then_k ?_
  exact fun a ha => ⟨xv5, nv6, ha.less (less_cons rfl (less_cons rfl less_nil)), hM, hF⟩
 rintro a w12 ⟨xv10, nv11, ha, hM, hF⟩
 refine KC.app ha ?_
 clear ha
 unfold F_math_bits_Len64_j2 at hF
 refine KC.cut (fun a w17 => ∃ (xv15 : Int) (nv16 : Int), Kn 25 [(0, v64 xv15), (2, vI nv16)] a ∧ Mem w [] w17 [] ∧ F_math_bits_Len64_j3 xv15 nv16 = some r) ?_ ?_
 ·refine sr fun Q13 hQ13 => ?_
  refine vm rfl rfl ?_
  refine RL.val (O.geq rfl rfl) rfl ?_
  refine nt hQ13 ?_
  clear hQ13 Q13
  refine KC.cond rfl (fun hc => ?_) (fun hc => ?_)
  ·rw [if_pos hc] at hF
   refine sr fun Q14 hQ14 => ?_
   refine vm rfl rfl ?_
   refine RL.val (O.shr rfl rfl (by decide)) rfl ?_
   refine va rfl rfl ?_
   refine nt hQ14 ?_
   clear hQ14 Q14
   refine KC.region ?_
   refine vm rfl rfl ?_
   refine RL.val (O.add rfl rfl) rfl ?_
   refine va rfl rfl ?_
   refine RL.nil ?_
   refine KQ.then_k ?_
   exact fun a ha => ⟨(Ox.shr .u64 xv10 8), (IntKind.i64.wrap (nv11 + 8)), ha.less (less_cons rfl (less_cons rfl less_nil)), hM, hF⟩
  rw [if_neg (ne_true hc)] at hF
  refine KC.skip ?_
  refine KQ.then_k ?_
  exact fun a ha => ⟨xv10, nv11, ha.less (less_cons rfl (less_cons rfl less_nil)), hM, hF⟩
 rintro a w17 ⟨xv15, nv16, ha, hM, hF⟩
 refine KC.app ha ?_
 clear ha
 unfold F_math_bits_Len64_j3 at hF
 refine sr fun Q18 hQ18 => ?_
 refine vm rfl rfl ?_
 refine vm rfl rfl ?_
 refine RL.val (O.conv un22 Try.underlying5 rfl) rfl ?_
 refine obindE hF fun xv19 hx20 hF => ?_
 refine RL.val (O.idxS Try.underlying9 hx20 rfl rfl) rfl ?_
 refine RL.val (O.conv un5 Try.underlying3 rfl) rfl ?_
 refine RL.val (O.add rfl rfl) rfl ?_
 refine va rfl rfl ?_
 refine nt hQ18 ?_
 clear hQ18 Q18
 refine KC.ret ?_
 have hE := Option.some.inj hF
 clear hF
 subst hE
 refine KQ.rets Try.results49 (RVs.cons (RV.tm rfl) RVs.nil) ?_
 exact ⟨_, rfl, rfl, hM⟩
set_option maxRecDepth 100000 in
set_option maxHeartbeats 40000000 in
theorem c_math_bits_Len (w : World) (xv1 : Int) (r : Int) (hF : F_math_bits_Len xv1 = some r) :
  CallsR Try.prog 25 [v64 xv1] w (fun v w' => v = vI r ∧ Mem w [] w' []) := by
 refine calls_KC Try.func25 rfl Try.ntmps25 rfl ?_
 have hM := Mem.init w
 unfold F_math_bits_Len at hF
 refine sr fun Q2 hQ2 => ?_
 refine va rfl rfl ?_
 refine nt hQ2 ?_
 clear hQ2 Q2
 refine KC.seqH fun Q3 hQ3 => ?_
 refine KC.condF rfl ?_
 refine KC.skip ?_
 refine KQ.thn hQ3 ?_
 clear hQ3 Q3
 refine sr fun Q4 hQ4 => ?_
 refine vm rfl rfl ?_
 refine obindE hF fun y5 hx6 hF => ?_
 refine RL.call Try.func49 bd49 rfl rfl (c_math_bits_Len64 _ xv1 _ hx6) fun v w7 hv => ?_
 obtain ⟨rfl, hN8⟩ := hv
 replace hM := hM.call0 hN8
 refine va rfl rfl ?_
 refine nt hQ4 ?_
 clear hQ4 Q4
 refine KC.ret ?_
 have hE := Option.some.inj hF
 clear hF
 subst hE
 refine KQ.rets Try.results25 (RVs.cons (RV.tm rfl) RVs.nil) ?_
 exact ⟨_, rfl, rfl, hM⟩
set_option maxRecDepth 100000 in
set_option maxHeartbeats 40000000 in
theorem c_law24_udp1 (w : World) (port1 : Int) (r : T_packet_Packet) (hF : F_law24_udp1 port1 = some r) :
  CallsR Try.prog 23 [v16 port1] w (fun v w' => v = .agg #[vB r.f_Key.f_Src.f_Six, o8 r.f_Key.f_Src.f_B 0, o8 r.f_Key.f_Src.f_B 1, o8 r.f_Key.f_Src.f_B 2, o8 r.f_Key.f_Src.f_B 3, o8 r.f_Key.f_Src.f_B 4, o8 r.f_Key.f_Src.f_B 5, o8 r.f_Key.f_Src.f_B 6, o8 r.f_Key.f_Src.f_B 7, o8 r.f_Key.f_Src.f_B 8, o8 r.f_Key.f_Src.f_B 9, o8 r.f_Key.f_Src.f_B 10, o8 r.f_Key.f_Src.f_B 11, o8 r.f_Key.f_Src.f_B 12, o8 r.f_Key.f_Src.f_B 13, o8 r.f_Key.f_Src.f_B 14, o8 r.f_Key.f_Src.f_B 15, vB r.f_Key.f_Dst.f_Six, o8 r.f_Key.f_Dst.f_B 0, o8 r.f_Key.f_Dst.f_B 1, o8 r.f_Key.f_Dst.f_B 2, o8 r.f_Key.f_Dst.f_B 3, o8 r.f_Key.f_Dst.f_B 4, o8 r.f_Key.f_Dst.f_B 5, o8 r.f_Key.f_Dst.f_B 6, o8 r.f_Key.f_Dst.f_B 7, o8 r.f_Key.f_Dst.f_B 8, o8 r.f_Key.f_Dst.f_B 9, o8 r.f_Key.f_Dst.f_B 10, o8 r.f_Key.f_Dst.f_B 11, o8 r.f_Key.f_Dst.f_B 12, o8 r.f_Key.f_Dst.f_B 13, o8 r.f_Key.f_Dst.f_B 14, o8 r.f_Key.f_Dst.f_B 15, v8 r.f_Key.f_Proto, v16 r.f_Key.f_SrcPort, v16 r.f_Key.f_DstPort, vI r.f_Length, v8 r.f_Flags, vB r.f_Fragment] ∧ Mem w [] w' []) := by
 refine calls_KC Try.func23 rfl Try.ntmps23 rfl ?_
 have hM := Mem.init w
 unfold F_law24_udp1 at hF
 refine sr fun Q2 hQ2 => ?_
 refine RL.eff (E.alloc hM ze38) rfl fun v w4 hv => ?_
 clear hM
 obtain ⟨g3, rfl, hM, hf⟩ := hv
 refine nt hQ2 ?_
 clear hQ2 Q2
 refine sr fun Q6 hQ6 => ?_
 refine vm rfl rfl ?_
 refine RL.val (O.bld (cs := [vB false, o8 (List.replicate 16 0) 0, o8 (List.replicate 16 0) 1, o8 (List.replicate 16 0) 2, o8 (List.replicate 16 0) 3, o8 (List.replicate 16 0) 4, o8 (List.replicate 16 0) 5, o8 (List.replicate 16 0) 6, o8 (List.replicate 16 0) 7, o8 (List.replicate 16 0) 8, o8 (List.replicate 16 0) 9, o8 (List.replicate 16 0) 10, o8 (List.replicate 16 0) 11, o8 (List.replicate 16 0) 12, o8 (List.replicate 16 0) 13, o8 (List.replicate 16 0) 14, o8 (List.replicate 16 0) 15, vB false, o8 (List.replicate 16 0) 0, o8 (List.replicate 16 0) 1, o8 (List.replicate 16 0) 2, o8 (List.replicate 16 0) 3, o8 (List.replicate 16 0) 4, o8 (List.replicate 16 0) 5, o8 (List.replicate 16 0) 6, o8 (List.replicate 16 0) 7, o8 (List.replicate 16 0) 8, o8 (List.replicate 16 0) 9, o8 (List.replicate 16 0) 10, o8 (List.replicate 16 0) 11, o8 (List.replicate 16 0) 12, o8 (List.replicate 16 0) 13, o8 (List.replicate 16 0) 14, o8 (List.replicate 16 0) 15, v8 17, v16 port1, v16 53]) bt36 rfl (by kernel_rfl)) rfl ?_
 refine RL.val (O.bld (cs := [vB false, o8 (List.replicate 16 0) 0, o8 (List.replicate 16 0) 1, o8 (List.replicate 16 0) 2, o8 (List.replicate 16 0) 3, o8 (List.replicate 16 0) 4, o8 (List.replicate 16 0) 5, o8 (List.replicate 16 0) 6, o8 (List.replicate 16 0) 7, o8 (List.replicate 16 0) 8, o8 (List.replicate 16 0) 9, o8 (List.replicate 16 0) 10, o8 (List.replicate 16 0) 11, o8 (List.replicate 16 0) 12, o8 (List.replicate 16 0) 13, o8 (List.replicate 16 0) 14, o8 (List.replicate 16 0) 15, vB false, o8 (List.replicate 16 0) 0, o8 (List.replicate 16 0) 1, o8 (List.replicate 16 0) 2, o8 (List.replicate 16 0) 3, o8 (List.replicate 16 0) 4, o8 (List.replicate 16 0) 5, o8 (List.replicate 16 0) 6, o8 (List.replicate 16 0) 7, o8 (List.replicate 16 0) 8, o8 (List.replicate 16 0) 9, o8 (List.replicate 16 0) 10, o8 (List.replicate 16 0) 11, o8 (List.replicate 16 0) 12, o8 (List.replicate 16 0) 13, o8 (List.replicate 16 0) 14, o8 (List.replicate 16 0) 15, v8 17, v16 port1, v16 53, vI 40, v8 0, vB false]) bt38 rfl (by kernel_rfl)) rfl ?_
 refine RL.effs (E.stB (j := 0) (off := 0) (vs := [vB false, o8 (List.replicate 16 0) 0, o8 (List.replicate 16 0) 1, o8 (List.replicate 16 0) 2, o8 (List.replicate 16 0) 3, o8 (List.replicate 16 0) 4, o8 (List.replicate 16 0) 5, o8 (List.replicate 16 0) 6, o8 (List.replicate 16 0) 7, o8 (List.replicate 16 0) 8, o8 (List.replicate 16 0) 9, o8 (List.replicate 16 0) 10, o8 (List.replicate 16 0) 11, o8 (List.replicate 16 0) 12, o8 (List.replicate 16 0) 13, o8 (List.replicate 16 0) 14, o8 (List.replicate 16 0) 15, vB false, o8 (List.replicate 16 0) 0, o8 (List.replicate 16 0) 1, o8 (List.replicate 16 0) 2, o8 (List.replicate 16 0) 3, o8 (List.replicate 16 0) 4, o8 (List.replicate 16 0) 5, o8 (List.replicate 16 0) 6, o8 (List.replicate 16 0) 7, o8 (List.replicate 16 0) 8, o8 (List.replicate 16 0) 9, o8 (List.replicate 16 0) 10, o8 (List.replicate 16 0) 11, o8 (List.replicate 16 0) 12, o8 (List.replicate 16 0) 13, o8 (List.replicate 16 0) 14, o8 (List.replicate 16 0) 15, v8 17, v16 port1, v16 53, vI 40, v8 0, vB false]) (cs' := [vB false, o8 (List.replicate 16 0) 0, o8 (List.replicate 16 0) 1, o8 (List.replicate 16 0) 2, o8 (List.replicate 16 0) 3, o8 (List.replicate 16 0) 4, o8 (List.replicate 16 0) 5, o8 (List.replicate 16 0) 6, o8 (List.replicate 16 0) 7, o8 (List.replicate 16 0) 8, o8 (List.replicate 16 0) 9, o8 (List.replicate 16 0) 10, o8 (List.replicate 16 0) 11, o8 (List.replicate 16 0) 12, o8 (List.replicate 16 0) 13, o8 (List.replicate 16 0) 14, o8 (List.replicate 16 0) 15, vB false, o8 (List.replicate 16 0) 0, o8 (List.replicate 16 0) 1, o8 (List.replicate 16 0) 2, o8 (List.replicate 16 0) 3, o8 (List.replicate 16 0) 4, o8 (List.replicate 16 0) 5, o8 (List.replicate 16 0) 6, o8 (List.replicate 16 0) 7, o8 (List.replicate 16 0) 8, o8 (List.replicate 16 0) 9, o8 (List.replicate 16 0) 10, o8 (List.replicate 16 0) 11, o8 (List.replicate 16 0) 12, o8 (List.replicate 16 0) 13, o8 (List.replicate 16 0) 14, o8 (List.replicate 16 0) 15, v8 17, v16 port1, v16 53, vI 40, v8 0, vB false]) hM rfl sz38 rfl (adds_eq [] rfl) rfl rfl (One.all rfl) rfl rfl) fun w7 hM1 => ?_
 clear hM
 have hM := hM1
 clear hM1
 refine nt hQ6 ?_
 clear hQ6 Q6
 refine KC.ret ?_
 have hE := Option.some.inj hF
 clear hF
 subst hE
 have hb8 := hM.bx (i := 0) rfl
 replace hM := hM.pick [] rfl (by decide)
 refine KQ.rets Try.results23 (RVs.cons (RV.cN (cs := [vB false, o8 (List.replicate 16 0) 0, o8 (List.replicate 16 0) 1, o8 (List.replicate 16 0) 2, o8 (List.replicate 16 0) 3, o8 (List.replicate 16 0) 4, o8 (List.replicate 16 0) 5, o8 (List.replicate 16 0) 6, o8 (List.replicate 16 0) 7, o8 (List.replicate 16 0) 8, o8 (List.replicate 16 0) 9, o8 (List.replicate 16 0) 10, o8 (List.replicate 16 0) 11, o8 (List.replicate 16 0) 12, o8 (List.replicate 16 0) 13, o8 (List.replicate 16 0) 14, o8 (List.replicate 16 0) 15, vB false, o8 (List.replicate 16 0) 0, o8 (List.replicate 16 0) 1, o8 (List.replicate 16 0) 2, o8 (List.replicate 16 0) 3, o8 (List.replicate 16 0) 4, o8 (List.replicate 16 0) 5, o8 (List.replicate 16 0) 6, o8 (List.replicate 16 0) 7, o8 (List.replicate 16 0) 8, o8 (List.replicate 16 0) 9, o8 (List.replicate 16 0) 10, o8 (List.replicate 16 0) 11, o8 (List.replicate 16 0) 12, o8 (List.replicate 16 0) 13, o8 (List.replicate 16 0) 14, o8 (List.replicate 16 0) 15, v8 17, v16 port1, v16 53, vI 40, v8 0, vB false]) rfl ag38 hb8) RVs.nil) ?_
 exact ⟨_, rfl, rfl, hM⟩
set_option maxRecDepth 100000 in
set_option maxHeartbeats 40000000 in
theorem c_packet_ports (w : World) (proto1 : Int) (r : Bool) (hF : F_packet_ports proto1 = some r) :
  CallsR Try.prog 41 [v8 proto1] w (fun v w' => v = vB r ∧ Mem w [] w' []) := by
 refine calls_KC Try.func41 rfl Try.ntmps41 rfl ?_
 have hM := Mem.init w
 unfold F_packet_ports at hF
 refine sr fun Q2 hQ2 => ?_
 refine va rfl rfl ?_
 refine nt hQ2 ?_
 clear hQ2 Q2
 refine KC.cut (fun a w4 => ∃ (t3 : Bool), Kn 9 [(2, vB t3)] a ∧ Mem w [] w4 [] ∧ F_packet_ports_j1 t3 = some r) ?_ ?_
 ·refine KC.region ?_
  refine vm rfl rfl ?_
  refine RL.val (O.eql rfl rfl) rfl ?_
  refine vm rfl rfl ?_
  refine RL.bcase (t := 5) rfl (fun hc => ?_) (fun hc => ?_)
  ·rw [if_pos hc] at hF
   refine RL.gskip rfl rfl rfl rfl ?_
   refine RL.gskip rfl rfl rfl rfl ?_
   refine RL.val (O.pickt rfl rfl) rfl ?_
   refine va rfl rfl ?_
   refine RL.nil ?_
   refine KQ.then_k ?_
   exact fun a ha => ⟨true, ha.less (less_cons rfl less_nil), hM, hF⟩
  rw [if_neg (ne_true hc)] at hF
  refine RL.gval rfl rfl (O.move rfl) rfl ?_
  refine RL.gval rfl rfl (O.eql rfl rfl) rfl ?_
  refine RL.val (O.pickf rfl rfl) rfl ?_
  refine va rfl rfl ?_
  refine RL.nil ?_
  refine KQ.then_k ?_
  exact fun a ha => ⟨(proto1 == 17), ha.less (less_cons rfl less_nil), hM, hF⟩
 rintro a w4 ⟨t3, ha, hM, hF⟩
 refine KC.app ha ?_
 clear ha
 unfold F_packet_ports_j1 at hF
 refine KC.ret ?_
 have hE := Option.some.inj hF
 clear hF
 subst hE
 refine KQ.rets Try.results41 (RVs.cons (RV.tm rfl) RVs.nil) ?_
 exact ⟨_, rfl, rfl, hM⟩
set_option maxRecDepth 100000 in
set_option maxHeartbeats 40000000 in
theorem c_packet_icmp (w : World) (proto1 : Int) (r : Bool) (hF : F_packet_icmp proto1 = some r) :
  CallsR Try.prog 42 [v8 proto1] w (fun v w' => v = vB r ∧ Mem w [] w' []) := by
 refine calls_KC Try.func42 rfl Try.ntmps42 rfl ?_
 have hM := Mem.init w
 unfold F_packet_icmp at hF
 refine sr fun Q2 hQ2 => ?_
 refine va rfl rfl ?_
 refine nt hQ2 ?_
 clear hQ2 Q2
 refine KC.cut (fun a w4 => ∃ (t3 : Bool), Kn 9 [(2, vB t3)] a ∧ Mem w [] w4 [] ∧ F_packet_icmp_j1 t3 = some r) ?_ ?_
 ·refine KC.region ?_
  refine vm rfl rfl ?_
  refine RL.val (O.eql rfl rfl) rfl ?_
  refine vm rfl rfl ?_
  refine RL.bcase (t := 5) rfl (fun hc => ?_) (fun hc => ?_)
  ·rw [if_pos hc] at hF
   refine RL.gskip rfl rfl rfl rfl ?_
   refine RL.gskip rfl rfl rfl rfl ?_
   refine RL.val (O.pickt rfl rfl) rfl ?_
   refine va rfl rfl ?_
   refine RL.nil ?_
   refine KQ.then_k ?_
   exact fun a ha => ⟨true, ha.less (less_cons rfl less_nil), hM, hF⟩
  rw [if_neg (ne_true hc)] at hF
  refine RL.gval rfl rfl (O.move rfl) rfl ?_
  refine RL.gval rfl rfl (O.eql rfl rfl) rfl ?_
  refine RL.val (O.pickf rfl rfl) rfl ?_
  refine va rfl rfl ?_
  refine RL.nil ?_
  refine KQ.then_k ?_
  exact fun a ha => ⟨(proto1 == 58), ha.less (less_cons rfl less_nil), hM, hF⟩
 rintro a w4 ⟨t3, ha, hM, hF⟩
 refine KC.app ha ?_
 clear ha
 unfold F_packet_icmp_j1 at hF
 refine KC.ret ?_
 have hE := Option.some.inj hF
 clear hF
 subst hE
 refine KQ.rets Try.results42 (RVs.cons (RV.tm rfl) RVs.nil) ?_
 exact ⟨_, rfl, rfl, hM⟩
set_option maxRecDepth 100000 in
set_option maxHeartbeats 40000000 in
theorem c_addr_Addr_size (w : World) (av1 : T_addr_Addr) (r : Int) (hF : F_addr_Addr_size av1 = some r) :
  CallsR Try.prog 61 [.agg #[vB av1.f_Six, o8 av1.f_B 0, o8 av1.f_B 1, o8 av1.f_B 2, o8 av1.f_B 3, o8 av1.f_B 4, o8 av1.f_B 5, o8 av1.f_B 6, o8 av1.f_B 7, o8 av1.f_B 8, o8 av1.f_B 9, o8 av1.f_B 10, o8 av1.f_B 11, o8 av1.f_B 12, o8 av1.f_B 13, o8 av1.f_B 14, o8 av1.f_B 15]] w (fun v w' => v = vI r ∧ Mem w [] w' []) := by
 refine calls_KC Try.func61 rfl Try.ntmps61 rfl ?_
 have hM := Mem.init w
 unfold F_addr_Addr_size at hF
 refine sr fun Q2 hQ2 => ?_
 refine RL.eff (E.box (vs := [vB av1.f_Six, o8 av1.f_B 0, o8 av1.f_B 1, o8 av1.f_B 2, o8 av1.f_B 3, o8 av1.f_B 4, o8 av1.f_B 5, o8 av1.f_B 6, o8 av1.f_B 7, o8 av1.f_B 8, o8 av1.f_B 9, o8 av1.f_B 10, o8 av1.f_B 11, o8 av1.f_B 12, o8 av1.f_B 13, o8 av1.f_B 14, o8 av1.f_B 15]) hM rfl rfl) rfl fun v w4 hv => ?_
 clear hM
 obtain ⟨g3, rfl, hM, hf⟩ := hv
 refine va rfl rfl ?_
 refine nt hQ2 ?_
 clear hQ2 Q2
 refine KC.seqH fun Q6 hQ6 => ?_
 refine sr fun Q7 hQ7 => ?_
 refine RL.val (O.fldA fl33_0 (by decide) rfl) rfl ?_
 refine RL.val (O.load sc4 rfl (Cs.adds [0] ((hM.bx (i := 0) rfl)) rfl)) rfl ?_
 refine nt hQ7 ?_
 clear hQ7 Q7
 refine KC.cond rfl (fun hc => ?_) (fun hc => ?_)
 ·rw [if_pos hc] at hF
  refine sr fun Q8 hQ8 => ?_
  refine va rfl rfl ?_
  refine nt hQ8 ?_
  clear hQ8 Q8
  refine KC.ret ?_
  refine KQ.thr hQ6 ?_
  clear hQ6 Q6
  have hE := Option.some.inj hF
  clear hF
  subst hE
  replace hM := hM.pick [] rfl (by decide)
  refine KQ.rets Try.results61 (RVs.cons (RV.tm rfl) RVs.nil) ?_
  exact ⟨_, rfl, rfl, hM⟩
 rw [if_neg (ne_true hc)] at hF
 refine KC.skip ?_
 refine KQ.thn hQ6 ?_
 clear hQ6 Q6
 refine sr fun Q9 hQ9 => ?_
 refine va rfl rfl ?_
 refine nt hQ9 ?_
 clear hQ9 Q9
 refine KC.ret ?_
 have hE := Option.some.inj hF
 clear hF
 subst hE
 replace hM := hM.pick [] rfl (by decide)
 refine KQ.rets Try.results61 (RVs.cons (RV.tm rfl) RVs.nil) ?_
 exact ⟨_, rfl, rfl, hM⟩
set_option maxRecDepth 100000 in
set_option maxHeartbeats 40000000 in
theorem c_addr_Addr_Right (w : World) (av1 : T_addr_Addr) (r : Bool) (hF : F_addr_Addr_Right av1 = some r) :
  CallsR Try.prog 43 [.agg #[vB av1.f_Six, o8 av1.f_B 0, o8 av1.f_B 1, o8 av1.f_B 2, o8 av1.f_B 3, o8 av1.f_B 4, o8 av1.f_B 5, o8 av1.f_B 6, o8 av1.f_B 7, o8 av1.f_B 8, o8 av1.f_B 9, o8 av1.f_B 10, o8 av1.f_B 11, o8 av1.f_B 12, o8 av1.f_B 13, o8 av1.f_B 14, o8 av1.f_B 15]] w (fun v w' => v = vB r ∧ Mem w [] w' []) := by
 refine calls_KC Try.func43 rfl Try.ntmps43 rfl ?_
 have hM := Mem.init w
 unfold F_addr_Addr_Right at hF
 refine sr fun Q2 hQ2 => ?_
 refine RL.eff (E.box (vs := [vB av1.f_Six, o8 av1.f_B 0, o8 av1.f_B 1, o8 av1.f_B 2, o8 av1.f_B 3, o8 av1.f_B 4, o8 av1.f_B 5, o8 av1.f_B 6, o8 av1.f_B 7, o8 av1.f_B 8, o8 av1.f_B 9, o8 av1.f_B 10, o8 av1.f_B 11, o8 av1.f_B 12, o8 av1.f_B 13, o8 av1.f_B 14, o8 av1.f_B 15]) hM rfl rfl) rfl fun v w4 hv => ?_
 clear hM
 obtain ⟨g3, rfl, hM, hf⟩ := hv
 refine va rfl rfl ?_
 refine nt hQ2 ?_
 clear hQ2 Q2
 refine sr fun Q6 hQ6 => ?_
 refine RL.eff (E.alloc hM ze31) rfl fun v w8 hv => ?_
 clear hM
 obtain ⟨g7, rfl, hM, hf⟩ := hv
 refine nt hQ6 ?_
 clear hQ6 Q6
 refine KC.seqH fun Q10 hQ10 => ?_
 replace hM := hM.drewN 1
 refine KC.draw [] [5] [1, 5] [2, 3, 4] (.ofList [0, 3, 4, 1, 2, 5]) moP (by kernel_rfl) ?_
 refine RD.q rfl rfl rfl rfl (fun w' hf => O.loadN (cs := [vB av1.f_Six, o8 av1.f_B 0, o8 av1.f_B 1, o8 av1.f_B 2, o8 av1.f_B 3, o8 av1.f_B 4, o8 av1.f_B 5, o8 av1.f_B 6, o8 av1.f_B 7, o8 av1.f_B 8, o8 av1.f_B 9, o8 av1.f_B 10, o8 av1.f_B 11, o8 av1.f_B 12, o8 av1.f_B 13, o8 av1.f_B 14, o8 av1.f_B 15]) ag33 rfl (Cs.addsN [] ((hM.bx (i := 0) rfl).fut hf) rfl)) ?_
 refine RD.p rfl rfl rfl rfl (fun w' => O.fldA fl33_1 (by decide) rfl) ?_
 have hr11 := Rd.arr (n := 16) (k := .u8) (xs := av1.f_B) (Cs.addsN [1] (hM.bx (i := 0) rfl) rfl) rfl rfl
 refine RD.p rfl rfl rfl rfl (fun w' => O.slArr (xs := av1.f_B) Try.underlying31 sz5 rfl rfl) ?_
 refine obindE hF fun y12 hx13 hF => ?_
 refine RD.mcall rfl rfl trivial Try.func61 bd61 rfl rfl (c_addr_Addr_size _ av1 _ hx13) fun v w14 hv => ?_
 obtain ⟨rfl, hN15⟩ := hv
 refine ⟨fun _ => hN15.fut, ?_⟩
 have hr11 := hr11.fut hN15.fut
 replace hM := hM.call0 hN15
 refine obindE hF fun cut17 hy18 hF => ?_
 have hr16 := Rd.arrTo (n := 16) (k := .u8) (xs := (List.replicate 16 0)) (Cs.addsN [] (hM.bx (i := 1) rfl) rfl) rfl rfl hy18
 refine RD.p rfl rfl rfl rfl (fun w' => O.slArrTo Try.underlying31 sz5 rfl hy18 rfl rfl) ?_
 refine RD.meff rfl rfl (E.copyA (k := .u8) (n := 16) (j := 1) (xs := (List.replicate 16 0)) (ys := (arrL 16 av1.f_B)) hM rfl sl113 rfl (arr_cut_le hy18) rfl hr11) rfl fun v w19 hv => ?_
 clear hM
 obtain ⟨rfl, hM⟩ := hv
 refine ⟨fun h => (by cases h), ?_⟩
 have hr11 := Rd.arr (n := 16) (k := .u8) (xs := av1.f_B) (Cs.addsN [1] (hM.bx (i := 0) rfl) rfl) rfl rfl
 refine RD.nil ?_
 refine KQ.thn hQ10 ?_
 clear hQ10 Q10
 refine sr fun Q20 hQ20 => ?_
 refine RL.val (O.fldA fl33_1 (by decide) rfl) rfl ?_
 refine RL.val (O.loadN (cs := [o8 av1.f_B 0, o8 av1.f_B 1, o8 av1.f_B 2, o8 av1.f_B 3, o8 av1.f_B 4, o8 av1.f_B 5, o8 av1.f_B 6, o8 av1.f_B 7, o8 av1.f_B 8, o8 av1.f_B 9, o8 av1.f_B 10, o8 av1.f_B 11, o8 av1.f_B 12, o8 av1.f_B 13, o8 av1.f_B 14, o8 av1.f_B 15]) ag31 rfl (Cs.addsN [1] ((hM.bx (i := 0) rfl)) rfl)) rfl ?_
 refine RL.val (O.loadN (cs := [o8 (cpA 16 (Nat.min (arrL 16 av1.f_B).length cut17.length) (List.replicate 16 0) (arrL 16 av1.f_B)) 0, o8 (cpA 16 (Nat.min (arrL 16 av1.f_B).length cut17.length) (List.replicate 16 0) (arrL 16 av1.f_B)) 1, o8 (cpA 16 (Nat.min (arrL 16 av1.f_B).length cut17.length) (List.replicate 16 0) (arrL 16 av1.f_B)) 2, o8 (cpA 16 (Nat.min (arrL 16 av1.f_B).length cut17.length) (List.replicate 16 0) (arrL 16 av1.f_B)) 3, o8 (cpA 16 (Nat.min (arrL 16 av1.f_B).length cut17.length) (List.replicate 16 0) (arrL 16 av1.f_B)) 4, o8 (cpA 16 (Nat.min (arrL 16 av1.f_B).length cut17.length) (List.replicate 16 0) (arrL 16 av1.f_B)) 5, o8 (cpA 16 (Nat.min (arrL 16 av1.f_B).length cut17.length) (List.replicate 16 0) (arrL 16 av1.f_B)) 6, o8 (cpA 16 (Nat.min (arrL 16 av1.f_B).length cut17.length) (List.replicate 16 0) (arrL 16 av1.f_B)) 7, o8 (cpA 16 (Nat.min (arrL 16 av1.f_B).length cut17.length) (List.replicate 16 0) (arrL 16 av1.f_B)) 8, o8 (cpA 16 (Nat.min (arrL 16 av1.f_B).length cut17.length) (List.replicate 16 0) (arrL 16 av1.f_B)) 9, o8 (cpA 16 (Nat.min (arrL 16 av1.f_B).length cut17.length) (List.replicate 16 0) (arrL 16 av1.f_B)) 10, o8 (cpA 16 (Nat.min (arrL 16 av1.f_B).length cut17.length) (List.replicate 16 0) (arrL 16 av1.f_B)) 11, o8 (cpA 16 (Nat.min (arrL 16 av1.f_B).length cut17.length) (List.replicate 16 0) (arrL 16 av1.f_B)) 12, o8 (cpA 16 (Nat.min (arrL 16 av1.f_B).length cut17.length) (List.replicate 16 0) (arrL 16 av1.f_B)) 13, o8 (cpA 16 (Nat.min (arrL 16 av1.f_B).length cut17.length) (List.replicate 16 0) (arrL 16 av1.f_B)) 14, o8 (cpA 16 (Nat.min (arrL 16 av1.f_B).length cut17.length) (List.replicate 16 0) (arrL 16 av1.f_B)) 15]) ag31 rfl (Cs.addsN [] ((hM.bx (i := 1) rfl)) rfl)) rfl ?_
 refine RL.val (O.steq (cs := [o8 av1.f_B 0, o8 av1.f_B 1, o8 av1.f_B 2, o8 av1.f_B 3, o8 av1.f_B 4, o8 av1.f_B 5, o8 av1.f_B 6, o8 av1.f_B 7, o8 av1.f_B 8, o8 av1.f_B 9, o8 av1.f_B 10, o8 av1.f_B 11, o8 av1.f_B 12, o8 av1.f_B 13, o8 av1.f_B 14, o8 av1.f_B 15]) (cs' := [o8 (cpA 16 (Nat.min (arrL 16 av1.f_B).length cut17.length) (List.replicate 16 0) (arrL 16 av1.f_B)) 0, o8 (cpA 16 (Nat.min (arrL 16 av1.f_B).length cut17.length) (List.replicate 16 0) (arrL 16 av1.f_B)) 1, o8 (cpA 16 (Nat.min (arrL 16 av1.f_B).length cut17.length) (List.replicate 16 0) (arrL 16 av1.f_B)) 2, o8 (cpA 16 (Nat.min (arrL 16 av1.f_B).length cut17.length) (List.replicate 16 0) (arrL 16 av1.f_B)) 3, o8 (cpA 16 (Nat.min (arrL 16 av1.f_B).length cut17.length) (List.replicate 16 0) (arrL 16 av1.f_B)) 4, o8 (cpA 16 (Nat.min (arrL 16 av1.f_B).length cut17.length) (List.replicate 16 0) (arrL 16 av1.f_B)) 5, o8 (cpA 16 (Nat.min (arrL 16 av1.f_B).length cut17.length) (List.replicate 16 0) (arrL 16 av1.f_B)) 6, o8 (cpA 16 (Nat.min (arrL 16 av1.f_B).length cut17.length) (List.replicate 16 0) (arrL 16 av1.f_B)) 7, o8 (cpA 16 (Nat.min (arrL 16 av1.f_B).length cut17.length) (List.replicate 16 0) (arrL 16 av1.f_B)) 8, o8 (cpA 16 (Nat.min (arrL 16 av1.f_B).length cut17.length) (List.replicate 16 0) (arrL 16 av1.f_B)) 9, o8 (cpA 16 (Nat.min (arrL 16 av1.f_B).length cut17.length) (List.replicate 16 0) (arrL 16 av1.f_B)) 10, o8 (cpA 16 (Nat.min (arrL 16 av1.f_B).length cut17.length) (List.replicate 16 0) (arrL 16 av1.f_B)) 11, o8 (cpA 16 (Nat.min (arrL 16 av1.f_B).length cut17.length) (List.replicate 16 0) (arrL 16 av1.f_B)) 12, o8 (cpA 16 (Nat.min (arrL 16 av1.f_B).length cut17.length) (List.replicate 16 0) (arrL 16 av1.f_B)) 13, o8 (cpA 16 (Nat.min (arrL 16 av1.f_B).length cut17.length) (List.replicate 16 0) (arrL 16 av1.f_B)) 14, o8 (cpA 16 (Nat.min (arrL 16 av1.f_B).length cut17.length) (List.replicate 16 0) (arrL 16 av1.f_B)) 15]) (by kernel_rfl) rfl rfl (eqArrT Try.underlying31 Try.underlying5 sz5 av1.f_B (cpA 16 (Nat.min (arrL 16 av1.f_B).length cut17.length) (List.replicate 16 0) (arrL 16 av1.f_B)) _ rfl rfl)) rfl ?_
 refine va rfl rfl ?_
 refine nt hQ20 ?_
 clear hQ20 Q20
 refine KC.ret ?_
 have hE := Option.some.inj hF
 clear hF
 subst hE
 replace hM := hM.pick [] rfl (by decide)
 refine KQ.rets Try.results43 (RVs.cons (RV.tm rfl) RVs.nil) ?_
 exact ⟨_, rfl, rfl, hM⟩
end Go.Proofs.Ytkpnocgfhipidaa
