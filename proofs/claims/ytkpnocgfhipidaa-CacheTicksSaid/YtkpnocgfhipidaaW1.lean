/- Printed by a program of this claim: each call returns what the plain function of its name gives. -/
import Derived.Test.YtkpnocgfhipidaaRows
import Derived.Test.YtkpnocgfhipidaaF
set_option linter.unusedVariables false
namespace Go.Proofs.Ytkpnocgfhipidaa
open Go Go.Ox Go.RowKit
theorem sl25 : SliceT Try.prog 25 40 43 80 := ⟨Try.underlying25, by kernel_rfl⟩
theorem bt24 : BuildT Try.prog 24 [(0, 1), (1, 1), (2, 1), (3, 1), (4, 1)] [vI 0, v64 0, v64 0, v64 0, v64 0] := ⟨by kernel_rfl, by unfold ZeroT; kernel_rfl⟩
theorem fl24_0 : FieldT Try.prog 24 0 0 3 1 := ⟨by kernel_rfl, by kernel_rfl⟩
theorem sc3 : isScalar Try.prog 3 = true := by kernel_rfl
theorem fl24_1 : FieldT Try.prog 24 1 1 22 1 := ⟨by kernel_rfl, by kernel_rfl⟩
theorem sc22 : isScalar Try.prog 22 = true := by kernel_rfl
theorem fl24_2 : FieldT Try.prog 24 2 2 22 1 := ⟨by kernel_rfl, by kernel_rfl⟩
theorem fl24_3 : FieldT Try.prog 24 3 3 22 1 := ⟨by kernel_rfl, by kernel_rfl⟩
theorem fl24_4 : FieldT Try.prog 24 4 4 22 1 := ⟨by kernel_rfl, by kernel_rfl⟩
theorem bd7 : BD Try.f7 = true := by kernel_rfl
theorem un3 : (Try.prog.underlying 3).isSome = true := by kernel_rfl
theorem un22 : (Try.prog.underlying 22).isSome = true := by kernel_rfl
theorem un5 : (Try.prog.underlying 5).isSome = true := by kernel_rfl
theorem bd49 : BD Try.f49 = true := by kernel_rfl
theorem bd25 : BD Try.f25 = true := by kernel_rfl
theorem bd24 : BD Try.f24 = true := by kernel_rfl
theorem sl94 : SliceT Try.prog 94 102 39 56 := ⟨Try.underlying94, by kernel_rfl⟩
theorem ze102 : ZeroT Try.prog 102 [vB false, vB false, v8 0, v8 0, v8 0, v8 0, v8 0, v8 0, v8 0, v8 0, v8 0, v8 0, v8 0, v8 0, v8 0, v8 0, v8 0, v8 0, vB false, v8 0, v8 0, v8 0, v8 0, v8 0, v8 0, v8 0, v8 0, v8 0, v8 0, v8 0, v8 0, v8 0, v8 0, v8 0, v8 0, v8 0, v16 0, v16 0, v64 0] := by unfold ZeroT; kernel_rfl
theorem bt96 : BuildT Try.prog 96 [(0, 1), (1, 1)] [.slice none 0 0, vI 0] := ⟨by kernel_rfl, by unfold ZeroT; kernel_rfl⟩
theorem ag24 : isAggT Try.prog 24 5 = true := by kernel_rfl
theorem bt74 : BuildT Try.prog 74 [(0, 1), (1, 5), (6, 1), (7, 1)] [v64 0, vI 0, v64 0, v64 0, v64 0, v64 0, .pointer none, .slice none 0 0] := ⟨by kernel_rfl, by unfold ZeroT; kernel_rfl⟩
theorem ze38 : ZeroT Try.prog 38 [vB false, v8 0, v8 0, v8 0, v8 0, v8 0, v8 0, v8 0, v8 0, v8 0, v8 0, v8 0, v8 0, v8 0, v8 0, v8 0, v8 0, vB false, v8 0, v8 0, v8 0, v8 0, v8 0, v8 0, v8 0, v8 0, v8 0, v8 0, v8 0, v8 0, v8 0, v8 0, v8 0, v8 0, v8 0, v16 0, v16 0, vI 0, v8 0, vB false] := by unfold ZeroT; kernel_rfl
theorem bt36 : BuildT Try.prog 36 [(0, 17), (17, 17), (34, 1), (35, 1), (36, 1)] [vB false, v8 0, v8 0, v8 0, v8 0, v8 0, v8 0, v8 0, v8 0, v8 0, v8 0, v8 0, v8 0, v8 0, v8 0, v8 0, v8 0, vB false, v8 0, v8 0, v8 0, v8 0, v8 0, v8 0, v8 0, v8 0, v8 0, v8 0, v8 0, v8 0, v8 0, v8 0, v8 0, v8 0, v8 0, v16 0, v16 0] := ⟨by kernel_rfl, by unfold ZeroT; kernel_rfl⟩
theorem bt38 : BuildT Try.prog 38 [(0, 37), (37, 1), (38, 1), (39, 1)] [vB false, v8 0, v8 0, v8 0, v8 0, v8 0, v8 0, v8 0, v8 0, v8 0, v8 0, v8 0, v8 0, v8 0, v8 0, v8 0, v8 0, vB false, v8 0, v8 0, v8 0, v8 0, v8 0, v8 0, v8 0, v8 0, v8 0, v8 0, v8 0, v8 0, v8 0, v8 0, v8 0, v8 0, v8 0, v16 0, v16 0, vI 0, v8 0, vB false] := ⟨by kernel_rfl, by unfold ZeroT; kernel_rfl⟩
theorem ag38 : isAggT Try.prog 38 40 = true := by kernel_rfl
theorem sz38 : sizeT Try.prog 38 40 = true := by kernel_rfl
theorem bd23 : BD Try.f23 = true := by kernel_rfl
theorem fl38_0 : FieldT Try.prog 38 0 0 36 37 := ⟨by kernel_rfl, by kernel_rfl⟩
theorem ag36 : isAggT Try.prog 36 37 = true := by kernel_rfl
theorem ze36 : ZeroT Try.prog 36 [vB false, v8 0, v8 0, v8 0, v8 0, v8 0, v8 0, v8 0, v8 0, v8 0, v8 0, v8 0, v8 0, v8 0, v8 0, v8 0, v8 0, vB false, v8 0, v8 0, v8 0, v8 0, v8 0, v8 0, v8 0, v8 0, v8 0, v8 0, v8 0, v8 0, v8 0, v8 0, v8 0, v8 0, v8 0, v16 0, v16 0] := by unfold ZeroT; kernel_rfl
theorem fl36_2 : FieldT Try.prog 36 2 34 5 1 := ⟨by kernel_rfl, by kernel_rfl⟩
theorem sc5 : isScalar Try.prog 5 = true := by kernel_rfl
theorem bd41 : BD Try.f41 = true := by kernel_rfl
theorem fl36_3 : FieldT Try.prog 36 3 35 34 1 := ⟨by kernel_rfl, by kernel_rfl⟩
theorem bd42 : BD Try.f42 = true := by kernel_rfl
theorem fl36_4 : FieldT Try.prog 36 4 36 34 1 := ⟨by kernel_rfl, by kernel_rfl⟩
theorem sz34 : sizeT Try.prog 34 1 = true := by kernel_rfl
theorem fl36_0 : FieldT Try.prog 36 0 0 33 17 := ⟨by kernel_rfl, by kernel_rfl⟩
theorem ag33 : isAggT Try.prog 33 17 = true := by kernel_rfl
theorem ze31 : ZeroT Try.prog 31 [v8 0, v8 0, v8 0, v8 0, v8 0, v8 0, v8 0, v8 0, v8 0, v8 0, v8 0, v8 0, v8 0, v8 0, v8 0, v8 0] := by unfold ZeroT; kernel_rfl
theorem fl33_1 : FieldT Try.prog 33 1 1 31 16 := ⟨by kernel_rfl, by kernel_rfl⟩
theorem sz5 : sizeT Try.prog 5 1 = true := by kernel_rfl
theorem fl33_0 : FieldT Try.prog 33 0 0 4 1 := ⟨by kernel_rfl, by kernel_rfl⟩
theorem sc4 : isScalar Try.prog 4 = true := by kernel_rfl
theorem bd61 : BD Try.f61 = true := by kernel_rfl
theorem sl113 : SliceT Try.prog 113 5 1 1 := ⟨Try.underlying113, by kernel_rfl⟩
theorem ag31 : isAggT Try.prog 31 16 = true := by kernel_rfl
theorem moP : Try.prog.follows .mixedOrders = true := by kernel_rfl
theorem bd43 : BD Try.f43 = true := by kernel_rfl
theorem fl36_1 : FieldT Try.prog 36 1 17 33 17 := ⟨by kernel_rfl, by kernel_rfl⟩
theorem sz36 : sizeT Try.prog 36 37 = true := by kernel_rfl
theorem bd14 : BD Try.f14 = true := by kernel_rfl
theorem sc27 : isScalar Try.prog 27 = true := by kernel_rfl
theorem fl74_0 : FieldT Try.prog 74 0 0 22 1 := ⟨by kernel_rfl, by kernel_rfl⟩
theorem fl74_3 : FieldT Try.prog 74 3 7 41 1 := ⟨by kernel_rfl, by kernel_rfl⟩
theorem sc41 : isScalar Try.prog 41 = true := by kernel_rfl
theorem sl41 : SliceT Try.prog 41 46 44 80 := ⟨Try.underlying41, by kernel_rfl⟩
theorem ag46 : isAggT Try.prog 46 44 = true := by kernel_rfl
theorem ze46 : ZeroT Try.prog 46 [vB false, v8 0, v8 0, v8 0, v8 0, v8 0, v8 0, v8 0, v8 0, v8 0, v8 0, v8 0, v8 0, v8 0, v8 0, v8 0, v8 0, vB false, v8 0, v8 0, v8 0, v8 0, v8 0, v8 0, v8 0, v8 0, v8 0, v8 0, v8 0, v8 0, v8 0, v8 0, v8 0, v8 0, v8 0, v16 0, v16 0, v64 0, v64 0, v64 0, v64 0, v8 0, v8 0, v8 0] := by unfold ZeroT; kernel_rfl
theorem fl46_4 : FieldT Try.prog 46 4 40 22 1 := ⟨by kernel_rfl, by kernel_rfl⟩
theorem fl74_1 : FieldT Try.prog 74 1 1 24 5 := ⟨by kernel_rfl, by kernel_rfl⟩
theorem bd57 : BD Try.f57 = true := by kernel_rfl
theorem fl46_3 : FieldT Try.prog 46 3 39 22 1 := ⟨by kernel_rfl, by kernel_rfl⟩
theorem bd39 : BD Try.f39 = true := by kernel_rfl
theorem bd31 : BD Try.f31 = true := by kernel_rfl
theorem sz46 : sizeT Try.prog 46 44 = true := by kernel_rfl
theorem bd59 : BD Try.f59 = true := by kernel_rfl
theorem bd35 : BD Try.f35 = true := by kernel_rfl
theorem fl46_0 : FieldT Try.prog 46 0 0 36 37 := ⟨by kernel_rfl, by kernel_rfl⟩
theorem ze140 : ZeroT Try.prog 140 [.slice none 0 0] := by unfold ZeroT; kernel_rfl
theorem ze5 : ZeroT Try.prog 5 [v8 0] := by unfold ZeroT; kernel_rfl
theorem fl140_0 : FieldT Try.prog 140 0 0 113 1 := ⟨by kernel_rfl, by kernel_rfl⟩
theorem sc113 : isScalar Try.prog 113 = true := by kernel_rfl
theorem sz113 : sizeT Try.prog 113 1 = true := by kernel_rfl
theorem bd85 : BD Try.f85 = true := by kernel_rfl
theorem bd93 : BD Try.f93 = true := by kernel_rfl
theorem bd86 : BD Try.f86 = true := by kernel_rfl
theorem sc34 : isScalar Try.prog 34 = true := by kernel_rfl
theorem un34 : (Try.prog.underlying 34).isSome = true := by kernel_rfl
theorem bd97 : BD Try.f97 = true := by kernel_rfl
theorem bd98 : BD Try.f98 = true := by kernel_rfl
theorem bd94 : BD Try.f94 = true := by kernel_rfl
theorem bd95 : BD Try.f95 = true := by kernel_rfl
theorem bd87 : BD Try.f87 = true := by kernel_rfl
theorem bd96 : BD Try.f96 = true := by kernel_rfl
theorem bd88 : BD Try.f88 = true := by kernel_rfl
theorem bd76 : BD Try.f76 = true := by kernel_rfl
theorem bd75 : BD Try.f75 = true := by kernel_rfl
theorem bd60 : BD Try.f60 = true := by kernel_rfl
theorem bd36 : BD Try.f36 = true := by kernel_rfl
theorem sl110 : SliceT Try.prog 110 3 1 8 := ⟨Try.underlying110, by kernel_rfl⟩
theorem ze3 : ZeroT Try.prog 3 [vI 0] := by unfold ZeroT; kernel_rfl
theorem bd34 : BD Try.f34 = true := by kernel_rfl
theorem bd33 : BD Try.f33 = true := by kernel_rfl
theorem bd32 : BD Try.f32 = true := by kernel_rfl
theorem bd37 : BD Try.f37 = true := by kernel_rfl
theorem sc68 : isScalar Try.prog 68 = true := by kernel_rfl
theorem bd78 : BD Try.f78 = true := by kernel_rfl
theorem bd89 : BD Try.f89 = true := by kernel_rfl
theorem fl96_0 : FieldT Try.prog 96 0 0 94 1 := ⟨by kernel_rfl, by kernel_rfl⟩
theorem sc94 : isScalar Try.prog 94 = true := by kernel_rfl
theorem bd90 : BD Try.f90 = true := by kernel_rfl
theorem bd91 : BD Try.f91 = true := by kernel_rfl
theorem fl102_0 : FieldT Try.prog 102 0 0 4 1 := ⟨by kernel_rfl, by kernel_rfl⟩
theorem fl102_1 : FieldT Try.prog 102 1 1 36 37 := ⟨by kernel_rfl, by kernel_rfl⟩
theorem sz3 : sizeT Try.prog 3 1 = true := by kernel_rfl
theorem bd64 : BD Try.f64 = true := by kernel_rfl
theorem bd50 : BD Try.f50 = true := by kernel_rfl
theorem fl102_2 : FieldT Try.prog 102 2 38 22 1 := ⟨by kernel_rfl, by kernel_rfl⟩
theorem fl74_2 : FieldT Try.prog 74 2 6 68 1 := ⟨by kernel_rfl, by kernel_rfl⟩
theorem bd26 : BD Try.f26 = true := by kernel_rfl
theorem bt102 : BuildT Try.prog 102 [(0, 1), (1, 37), (38, 1)] [vB false, vB false, v8 0, v8 0, v8 0, v8 0, v8 0, v8 0, v8 0, v8 0, v8 0, v8 0, v8 0, v8 0, v8 0, v8 0, v8 0, v8 0, vB false, v8 0, v8 0, v8 0, v8 0, v8 0, v8 0, v8 0, v8 0, v8 0, v8 0, v8 0, v8 0, v8 0, v8 0, v8 0, v8 0, v8 0, v16 0, v16 0, v64 0] := ⟨by kernel_rfl, by unfold ZeroT; kernel_rfl⟩
theorem fl96_1 : FieldT Try.prog 96 1 1 3 1 := ⟨by kernel_rfl, by kernel_rfl⟩
theorem ag102 : isAggT Try.prog 102 39 = true := by kernel_rfl
theorem sz102 : sizeT Try.prog 102 39 = true := by kernel_rfl
theorem bd56 : BD Try.f56 = true := by kernel_rfl
theorem bd53 : BD Try.f53 = true := by kernel_rfl
theorem fl46_6 : FieldT Try.prog 46 6 42 5 1 := ⟨by kernel_rfl, by kernel_rfl⟩
theorem sz41 : sizeT Try.prog 41 1 = true := by kernel_rfl
theorem bd38 : BD Try.f38 = true := by kernel_rfl
theorem bd30 : BD Try.f30 = true := by kernel_rfl
theorem sz22 : sizeT Try.prog 22 1 = true := by kernel_rfl
theorem bd9 : BD Try.f9 = true := by kernel_rfl
theorem bd52 : BD Try.f52 = true := by kernel_rfl
theorem bd51 : BD Try.f51 = true := by kernel_rfl
theorem bt46 : BuildT Try.prog 46 [(0, 37), (37, 1), (38, 1), (39, 1), (40, 1), (41, 1), (42, 1), (43, 1)] [vB false, v8 0, v8 0, v8 0, v8 0, v8 0, v8 0, v8 0, v8 0, v8 0, v8 0, v8 0, v8 0, v8 0, v8 0, v8 0, v8 0, vB false, v8 0, v8 0, v8 0, v8 0, v8 0, v8 0, v8 0, v8 0, v8 0, v8 0, v8 0, v8 0, v8 0, v8 0, v8 0, v8 0, v8 0, v16 0, v16 0, v64 0, v64 0, v64 0, v64 0, v8 0, v8 0, v8 0] := ⟨by kernel_rfl, by unfold ZeroT; kernel_rfl⟩
theorem bd54 : BD Try.f54 = true := by kernel_rfl
theorem bd27 : BD Try.f27 = true := by kernel_rfl
theorem fl38_1 : FieldT Try.prog 38 1 37 3 1 := ⟨by kernel_rfl, by kernel_rfl⟩
theorem bt55 : BuildT Try.prog 55 [(0, 1), (1, 1)] [v64 0, v64 0] := ⟨by kernel_rfl, by unfold ZeroT; kernel_rfl⟩
theorem ze55 : ZeroT Try.prog 55 [v64 0, v64 0] := by unfold ZeroT; kernel_rfl
theorem fl46_1 : FieldT Try.prog 46 1 37 22 1 := ⟨by kernel_rfl, by kernel_rfl⟩
theorem fl46_2 : FieldT Try.prog 46 2 38 22 1 := ⟨by kernel_rfl, by kernel_rfl⟩
theorem ag55 : isAggT Try.prog 55 2 = true := by kernel_rfl
theorem sz55 : sizeT Try.prog 55 2 = true := by kernel_rfl
theorem bd18 : BD Try.f18 = true := by kernel_rfl
theorem fl55_0 : FieldT Try.prog 55 0 0 22 1 := ⟨by kernel_rfl, by kernel_rfl⟩
theorem fl55_1 : FieldT Try.prog 55 1 1 22 1 := ⟨by kernel_rfl, by kernel_rfl⟩
theorem bd65 : BD Try.f65 = true := by kernel_rfl
theorem bd55 : BD Try.f55 = true := by kernel_rfl
theorem fl46_5 : FieldT Try.prog 46 5 41 5 1 := ⟨by kernel_rfl, by kernel_rfl⟩
theorem fl38_2 : FieldT Try.prog 38 2 38 5 1 := ⟨by kernel_rfl, by kernel_rfl⟩
theorem bd28 : BD Try.f28 = true := by kernel_rfl
theorem fl38_3 : FieldT Try.prog 38 3 39 4 1 := ⟨by kernel_rfl, by kernel_rfl⟩
theorem bd29 : BD Try.f29 = true := by kernel_rfl
theorem bd8 : BD Try.f8 = true := by kernel_rfl
theorem bd20 : BD Try.f20 = true := by kernel_rfl
theorem bd6 : BD Try.f6 = true := by kernel_rfl
theorem fl40_3 : FieldT Try.prog 40 3 42 22 1 := ⟨by kernel_rfl, by kernel_rfl⟩
theorem fl40_1 : FieldT Try.prog 40 1 1 38 40 := ⟨by kernel_rfl, by kernel_rfl⟩
theorem fl40_2 : FieldT Try.prog 40 2 41 5 1 := ⟨by kernel_rfl, by kernel_rfl⟩
theorem ag40 : isAggT Try.prog 40 43 = true := by kernel_rfl
theorem ze40 : ZeroT Try.prog 40 [vI 0, vB false, v8 0, v8 0, v8 0, v8 0, v8 0, v8 0, v8 0, v8 0, v8 0, v8 0, v8 0, v8 0, v8 0, v8 0, v8 0, v8 0, vB false, v8 0, v8 0, v8 0, v8 0, v8 0, v8 0, v8 0, v8 0, v8 0, v8 0, v8 0, v8 0, v8 0, v8 0, v8 0, v8 0, v8 0, v16 0, v16 0, vI 0, v8 0, vB false, v8 0, v64 0] := by unfold ZeroT; kernel_rfl
theorem fl40_0 : FieldT Try.prog 40 0 0 3 1 := ⟨by kernel_rfl, by kernel_rfl⟩
theorem bd10 : BD Try.f10 = true := by kernel_rfl
theorem bd46 : BD Try.f46 = true := by kernel_rfl
theorem bd63 : BD Try.f63 = true := by kernel_rfl
theorem bd77 : BD Try.f77 = true := by kernel_rfl
theorem bd62 : BD Try.f62 = true := by kernel_rfl
theorem bd45 : BD Try.f45 = true := by kernel_rfl
theorem bd17 : BD Try.f17 = true := by kernel_rfl
theorem bd40 : BD Try.f40 = true := by kernel_rfl
theorem bd11 : BD Try.f11 = true := by kernel_rfl
theorem bd12 : BD Try.f12 = true := by kernel_rfl
theorem bd13 : BD Try.f13 = true := by kernel_rfl
theorem sl48 : SliceT Try.prog 48 89 39 56 := ⟨Try.underlying48, by kernel_rfl⟩
theorem fl89_0 : FieldT Try.prog 89 0 0 36 37 := ⟨by kernel_rfl, by kernel_rfl⟩
theorem fl89_1 : FieldT Try.prog 89 1 37 55 2 := ⟨by kernel_rfl, by kernel_rfl⟩
theorem bt89 : BuildT Try.prog 89 [(0, 37), (37, 2)] [vB false, v8 0, v8 0, v8 0, v8 0, v8 0, v8 0, v8 0, v8 0, v8 0, v8 0, v8 0, v8 0, v8 0, v8 0, v8 0, v8 0, vB false, v8 0, v8 0, v8 0, v8 0, v8 0, v8 0, v8 0, v8 0, v8 0, v8 0, v8 0, v8 0, v8 0, v8 0, v8 0, v8 0, v8 0, v16 0, v16 0, v64 0, v64 0] := ⟨by kernel_rfl, by unfold ZeroT; kernel_rfl⟩
theorem ze89 : ZeroT Try.prog 89 [vB false, v8 0, v8 0, v8 0, v8 0, v8 0, v8 0, v8 0, v8 0, v8 0, v8 0, v8 0, v8 0, v8 0, v8 0, v8 0, v8 0, vB false, v8 0, v8 0, v8 0, v8 0, v8 0, v8 0, v8 0, v8 0, v8 0, v8 0, v8 0, v8 0, v8 0, v8 0, v8 0, v8 0, v8 0, v16 0, v16 0, v64 0, v64 0] := by unfold ZeroT; kernel_rfl
theorem bd15 : BD Try.f15 = true := by kernel_rfl
theorem bd44 : BD Try.f44 = true := by kernel_rfl
theorem bd16 : BD Try.f16 = true := by kernel_rfl
theorem sz40 : sizeT Try.prog 40 43 = true := by kernel_rfl
theorem ag89 : isAggT Try.prog 89 39 = true := by kernel_rfl
theorem bd19 : BD Try.f19 = true := by kernel_rfl
theorem bd21 : BD Try.f21 = true := by kernel_rfl
theorem bd22 : BD Try.f22 = true := by kernel_rfl
theorem bd47 : BD Try.f47 = true := by kernel_rfl
theorem un98 : (Try.prog.underlying 98).isSome = true := by kernel_rfl
theorem sc134 : isScalar Try.prog 134 = true := by kernel_rfl
theorem sz134 : sizeT Try.prog 134 1 = true := by kernel_rfl
theorem Q33 (d : Nat) (x y : T_addr_Addr) (w : World) : (Op.equalIn (d + 3) 33 (.agg #[vB x.f_Six, o8 x.f_B 0, o8 x.f_B 1, o8 x.f_B 2, o8 x.f_B 3, o8 x.f_B 4, o8 x.f_B 5, o8 x.f_B 6, o8 x.f_B 7, o8 x.f_B 8, o8 x.f_B 9, o8 x.f_B 10, o8 x.f_B 11, o8 x.f_B 12, o8 x.f_B 13, o8 x.f_B 14, o8 x.f_B 15]) (.agg #[vB y.f_Six, o8 y.f_B 0, o8 y.f_B 1, o8 y.f_B 2, o8 y.f_B 3, o8 y.f_B 4, o8 y.f_B 5, o8 y.f_B 6, o8 y.f_B 7, o8 y.f_B 8, o8 y.f_B 9, o8 y.f_B 10, o8 y.f_B 11, o8 y.f_B 12, o8 y.f_B 13, o8 y.f_B 14, o8 y.f_B 15])).run Try.prog w = .ok (q_addr_Addr x y) w :=
 (run_equalIn_agg w (d + 2) 33 _ _ (by kernel_rfl) (by kernel_rfl)).trans (EqT.run (tr := [(false, 4, 0), (false, 31, 1)]) (by kernel_rfl) ⟨_, _, _, _, rfl, part_s sc4 rfl, part_s sc4 rfl, run_equalIn_bool' w (d + 1) 4 _ _ Try.underlying4, ⟨_, _, _, _, rfl, part_a (us := arrC 16 .u8 x.f_B) ag31 rfl, part_a (us := arrC 16 .u8 y.f_B) ag31 rfl, eq_arr' Try.underlying31 Try.underlying5 sz5 (d + 0) x.f_B y.f_B w, rfl, rfl⟩, rfl⟩)
theorem Q33t (x y : T_addr_Addr) {xs ys : List Value} (w : World) (hx : xs = [vB x.f_Six, o8 x.f_B 0, o8 x.f_B 1, o8 x.f_B 2, o8 x.f_B 3, o8 x.f_B 4, o8 x.f_B 5, o8 x.f_B 6, o8 x.f_B 7, o8 x.f_B 8, o8 x.f_B 9, o8 x.f_B 10, o8 x.f_B 11, o8 x.f_B 12, o8 x.f_B 13, o8 x.f_B 14, o8 x.f_B 15]) (hy : ys = [vB y.f_Six, o8 y.f_B 0, o8 y.f_B 1, o8 y.f_B 2, o8 y.f_B 3, o8 y.f_B 4, o8 y.f_B 5, o8 y.f_B 6, o8 y.f_B 7, o8 y.f_B 8, o8 y.f_B 9, o8 y.f_B 10, o8 y.f_B 11, o8 y.f_B 12, o8 y.f_B 13, o8 y.f_B 14, o8 y.f_B 15]) : (Op.equalIn 10000 33 (.agg xs.toArray) (.agg ys.toArray)).run Try.prog w = .ok (q_addr_Addr x y) w := by
 subst hx; subst hy; exact Q33 9997 x y w
theorem Q36 (d : Nat) (x y : T_packet_Key) (w : World) : (Op.equalIn (d + 4) 36 (.agg #[vB x.f_Src.f_Six, o8 x.f_Src.f_B 0, o8 x.f_Src.f_B 1, o8 x.f_Src.f_B 2, o8 x.f_Src.f_B 3, o8 x.f_Src.f_B 4, o8 x.f_Src.f_B 5, o8 x.f_Src.f_B 6, o8 x.f_Src.f_B 7, o8 x.f_Src.f_B 8, o8 x.f_Src.f_B 9, o8 x.f_Src.f_B 10, o8 x.f_Src.f_B 11, o8 x.f_Src.f_B 12, o8 x.f_Src.f_B 13, o8 x.f_Src.f_B 14, o8 x.f_Src.f_B 15, vB x.f_Dst.f_Six, o8 x.f_Dst.f_B 0, o8 x.f_Dst.f_B 1, o8 x.f_Dst.f_B 2, o8 x.f_Dst.f_B 3, o8 x.f_Dst.f_B 4, o8 x.f_Dst.f_B 5, o8 x.f_Dst.f_B 6, o8 x.f_Dst.f_B 7, o8 x.f_Dst.f_B 8, o8 x.f_Dst.f_B 9, o8 x.f_Dst.f_B 10, o8 x.f_Dst.f_B 11, o8 x.f_Dst.f_B 12, o8 x.f_Dst.f_B 13, o8 x.f_Dst.f_B 14, o8 x.f_Dst.f_B 15, v8 x.f_Proto, v16 x.f_SrcPort, v16 x.f_DstPort]) (.agg #[vB y.f_Src.f_Six, o8 y.f_Src.f_B 0, o8 y.f_Src.f_B 1, o8 y.f_Src.f_B 2, o8 y.f_Src.f_B 3, o8 y.f_Src.f_B 4, o8 y.f_Src.f_B 5, o8 y.f_Src.f_B 6, o8 y.f_Src.f_B 7, o8 y.f_Src.f_B 8, o8 y.f_Src.f_B 9, o8 y.f_Src.f_B 10, o8 y.f_Src.f_B 11, o8 y.f_Src.f_B 12, o8 y.f_Src.f_B 13, o8 y.f_Src.f_B 14, o8 y.f_Src.f_B 15, vB y.f_Dst.f_Six, o8 y.f_Dst.f_B 0, o8 y.f_Dst.f_B 1, o8 y.f_Dst.f_B 2, o8 y.f_Dst.f_B 3, o8 y.f_Dst.f_B 4, o8 y.f_Dst.f_B 5, o8 y.f_Dst.f_B 6, o8 y.f_Dst.f_B 7, o8 y.f_Dst.f_B 8, o8 y.f_Dst.f_B 9, o8 y.f_Dst.f_B 10, o8 y.f_Dst.f_B 11, o8 y.f_Dst.f_B 12, o8 y.f_Dst.f_B 13, o8 y.f_Dst.f_B 14, o8 y.f_Dst.f_B 15, v8 y.f_Proto, v16 y.f_SrcPort, v16 y.f_DstPort])).run Try.prog w = .ok (q_packet_Key x y) w :=
 (run_equalIn_agg w (d + 3) 36 _ _ (by kernel_rfl) (by kernel_rfl)).trans (EqT.run (tr := [(false, 33, 0), (false, 33, 17), (false, 5, 34), (false, 34, 35), (false, 34, 36)]) (by kernel_rfl) ⟨_, _, _, _, rfl, part_a (us := [vB x.f_Src.f_Six, o8 x.f_Src.f_B 0, o8 x.f_Src.f_B 1, o8 x.f_Src.f_B 2, o8 x.f_Src.f_B 3, o8 x.f_Src.f_B 4, o8 x.f_Src.f_B 5, o8 x.f_Src.f_B 6, o8 x.f_Src.f_B 7, o8 x.f_Src.f_B 8, o8 x.f_Src.f_B 9, o8 x.f_Src.f_B 10, o8 x.f_Src.f_B 11, o8 x.f_Src.f_B 12, o8 x.f_Src.f_B 13, o8 x.f_Src.f_B 14, o8 x.f_Src.f_B 15]) ag33 rfl, part_a (us := [vB y.f_Src.f_Six, o8 y.f_Src.f_B 0, o8 y.f_Src.f_B 1, o8 y.f_Src.f_B 2, o8 y.f_Src.f_B 3, o8 y.f_Src.f_B 4, o8 y.f_Src.f_B 5, o8 y.f_Src.f_B 6, o8 y.f_Src.f_B 7, o8 y.f_Src.f_B 8, o8 y.f_Src.f_B 9, o8 y.f_Src.f_B 10, o8 y.f_Src.f_B 11, o8 y.f_Src.f_B 12, o8 y.f_Src.f_B 13, o8 y.f_Src.f_B 14, o8 y.f_Src.f_B 15]) ag33 rfl, Q33 (d + 0) x.f_Src y.f_Src w, ⟨_, _, _, _, rfl, part_a (us := [vB x.f_Dst.f_Six, o8 x.f_Dst.f_B 0, o8 x.f_Dst.f_B 1, o8 x.f_Dst.f_B 2, o8 x.f_Dst.f_B 3, o8 x.f_Dst.f_B 4, o8 x.f_Dst.f_B 5, o8 x.f_Dst.f_B 6, o8 x.f_Dst.f_B 7, o8 x.f_Dst.f_B 8, o8 x.f_Dst.f_B 9, o8 x.f_Dst.f_B 10, o8 x.f_Dst.f_B 11, o8 x.f_Dst.f_B 12, o8 x.f_Dst.f_B 13, o8 x.f_Dst.f_B 14, o8 x.f_Dst.f_B 15]) ag33 rfl, part_a (us := [vB y.f_Dst.f_Six, o8 y.f_Dst.f_B 0, o8 y.f_Dst.f_B 1, o8 y.f_Dst.f_B 2, o8 y.f_Dst.f_B 3, o8 y.f_Dst.f_B 4, o8 y.f_Dst.f_B 5, o8 y.f_Dst.f_B 6, o8 y.f_Dst.f_B 7, o8 y.f_Dst.f_B 8, o8 y.f_Dst.f_B 9, o8 y.f_Dst.f_B 10, o8 y.f_Dst.f_B 11, o8 y.f_Dst.f_B 12, o8 y.f_Dst.f_B 13, o8 y.f_Dst.f_B 14, o8 y.f_Dst.f_B 15]) ag33 rfl, Q33 (d + 0) x.f_Dst y.f_Dst w, ⟨_, _, _, _, rfl, part_s sc5 rfl, part_s sc5 rfl, run_equalIn_int w (d + 2) 5 _ _ _ _ Try.underlying5, ⟨_, _, _, _, rfl, part_s sc34 rfl, part_s sc34 rfl, run_equalIn_int w (d + 2) 34 _ _ _ _ Try.underlying34, ⟨_, _, _, _, rfl, part_s sc34 rfl, part_s sc34 rfl, run_equalIn_int w (d + 2) 34 _ _ _ _ Try.underlying34, rfl, rfl⟩, rfl⟩, rfl⟩, rfl⟩, rfl⟩)
theorem Q36t (x y : T_packet_Key) {xs ys : List Value} (w : World) (hx : xs = [vB x.f_Src.f_Six, o8 x.f_Src.f_B 0, o8 x.f_Src.f_B 1, o8 x.f_Src.f_B 2, o8 x.f_Src.f_B 3, o8 x.f_Src.f_B 4, o8 x.f_Src.f_B 5, o8 x.f_Src.f_B 6, o8 x.f_Src.f_B 7, o8 x.f_Src.f_B 8, o8 x.f_Src.f_B 9, o8 x.f_Src.f_B 10, o8 x.f_Src.f_B 11, o8 x.f_Src.f_B 12, o8 x.f_Src.f_B 13, o8 x.f_Src.f_B 14, o8 x.f_Src.f_B 15, vB x.f_Dst.f_Six, o8 x.f_Dst.f_B 0, o8 x.f_Dst.f_B 1, o8 x.f_Dst.f_B 2, o8 x.f_Dst.f_B 3, o8 x.f_Dst.f_B 4, o8 x.f_Dst.f_B 5, o8 x.f_Dst.f_B 6, o8 x.f_Dst.f_B 7, o8 x.f_Dst.f_B 8, o8 x.f_Dst.f_B 9, o8 x.f_Dst.f_B 10, o8 x.f_Dst.f_B 11, o8 x.f_Dst.f_B 12, o8 x.f_Dst.f_B 13, o8 x.f_Dst.f_B 14, o8 x.f_Dst.f_B 15, v8 x.f_Proto, v16 x.f_SrcPort, v16 x.f_DstPort]) (hy : ys = [vB y.f_Src.f_Six, o8 y.f_Src.f_B 0, o8 y.f_Src.f_B 1, o8 y.f_Src.f_B 2, o8 y.f_Src.f_B 3, o8 y.f_Src.f_B 4, o8 y.f_Src.f_B 5, o8 y.f_Src.f_B 6, o8 y.f_Src.f_B 7, o8 y.f_Src.f_B 8, o8 y.f_Src.f_B 9, o8 y.f_Src.f_B 10, o8 y.f_Src.f_B 11, o8 y.f_Src.f_B 12, o8 y.f_Src.f_B 13, o8 y.f_Src.f_B 14, o8 y.f_Src.f_B 15, vB y.f_Dst.f_Six, o8 y.f_Dst.f_B 0, o8 y.f_Dst.f_B 1, o8 y.f_Dst.f_B 2, o8 y.f_Dst.f_B 3, o8 y.f_Dst.f_B 4, o8 y.f_Dst.f_B 5, o8 y.f_Dst.f_B 6, o8 y.f_Dst.f_B 7, o8 y.f_Dst.f_B 8, o8 y.f_Dst.f_B 9, o8 y.f_Dst.f_B 10, o8 y.f_Dst.f_B 11, o8 y.f_Dst.f_B 12, o8 y.f_Dst.f_B 13, o8 y.f_Dst.f_B 14, o8 y.f_Dst.f_B 15, v8 y.f_Proto, v16 y.f_SrcPort, v16 y.f_DstPort]) : (Op.equalIn 10000 36 (.agg xs.toArray) (.agg ys.toArray)).run Try.prog w = .ok (q_packet_Key x y) w := by
 subst hx; subst hy; exact Q36 9996 x y w
theorem Q46 (d : Nat) (x y : T_flow_Record) (w : World) : (Op.equalIn (d + 5) 46 (.agg #[vB x.f_Key.f_Src.f_Six, o8 x.f_Key.f_Src.f_B 0, o8 x.f_Key.f_Src.f_B 1, o8 x.f_Key.f_Src.f_B 2, o8 x.f_Key.f_Src.f_B 3, o8 x.f_Key.f_Src.f_B 4, o8 x.f_Key.f_Src.f_B 5, o8 x.f_Key.f_Src.f_B 6, o8 x.f_Key.f_Src.f_B 7, o8 x.f_Key.f_Src.f_B 8, o8 x.f_Key.f_Src.f_B 9, o8 x.f_Key.f_Src.f_B 10, o8 x.f_Key.f_Src.f_B 11, o8 x.f_Key.f_Src.f_B 12, o8 x.f_Key.f_Src.f_B 13, o8 x.f_Key.f_Src.f_B 14, o8 x.f_Key.f_Src.f_B 15, vB x.f_Key.f_Dst.f_Six, o8 x.f_Key.f_Dst.f_B 0, o8 x.f_Key.f_Dst.f_B 1, o8 x.f_Key.f_Dst.f_B 2, o8 x.f_Key.f_Dst.f_B 3, o8 x.f_Key.f_Dst.f_B 4, o8 x.f_Key.f_Dst.f_B 5, o8 x.f_Key.f_Dst.f_B 6, o8 x.f_Key.f_Dst.f_B 7, o8 x.f_Key.f_Dst.f_B 8, o8 x.f_Key.f_Dst.f_B 9, o8 x.f_Key.f_Dst.f_B 10, o8 x.f_Key.f_Dst.f_B 11, o8 x.f_Key.f_Dst.f_B 12, o8 x.f_Key.f_Dst.f_B 13, o8 x.f_Key.f_Dst.f_B 14, o8 x.f_Key.f_Dst.f_B 15, v8 x.f_Key.f_Proto, v16 x.f_Key.f_SrcPort, v16 x.f_Key.f_DstPort, v64 x.f_Packets, v64 x.f_Bytes, v64 x.f_First, v64 x.f_Last, v8 x.f_Flags, v8 x.f_Reason, v8 x.f_Class]) (.agg #[vB y.f_Key.f_Src.f_Six, o8 y.f_Key.f_Src.f_B 0, o8 y.f_Key.f_Src.f_B 1, o8 y.f_Key.f_Src.f_B 2, o8 y.f_Key.f_Src.f_B 3, o8 y.f_Key.f_Src.f_B 4, o8 y.f_Key.f_Src.f_B 5, o8 y.f_Key.f_Src.f_B 6, o8 y.f_Key.f_Src.f_B 7, o8 y.f_Key.f_Src.f_B 8, o8 y.f_Key.f_Src.f_B 9, o8 y.f_Key.f_Src.f_B 10, o8 y.f_Key.f_Src.f_B 11, o8 y.f_Key.f_Src.f_B 12, o8 y.f_Key.f_Src.f_B 13, o8 y.f_Key.f_Src.f_B 14, o8 y.f_Key.f_Src.f_B 15, vB y.f_Key.f_Dst.f_Six, o8 y.f_Key.f_Dst.f_B 0, o8 y.f_Key.f_Dst.f_B 1, o8 y.f_Key.f_Dst.f_B 2, o8 y.f_Key.f_Dst.f_B 3, o8 y.f_Key.f_Dst.f_B 4, o8 y.f_Key.f_Dst.f_B 5, o8 y.f_Key.f_Dst.f_B 6, o8 y.f_Key.f_Dst.f_B 7, o8 y.f_Key.f_Dst.f_B 8, o8 y.f_Key.f_Dst.f_B 9, o8 y.f_Key.f_Dst.f_B 10, o8 y.f_Key.f_Dst.f_B 11, o8 y.f_Key.f_Dst.f_B 12, o8 y.f_Key.f_Dst.f_B 13, o8 y.f_Key.f_Dst.f_B 14, o8 y.f_Key.f_Dst.f_B 15, v8 y.f_Key.f_Proto, v16 y.f_Key.f_SrcPort, v16 y.f_Key.f_DstPort, v64 y.f_Packets, v64 y.f_Bytes, v64 y.f_First, v64 y.f_Last, v8 y.f_Flags, v8 y.f_Reason, v8 y.f_Class])).run Try.prog w = .ok (q_flow_Record x y) w :=
 (run_equalIn_agg w (d + 4) 46 _ _ (by kernel_rfl) (by kernel_rfl)).trans (EqT.run (tr := [(false, 36, 0), (false, 22, 37), (false, 22, 38), (false, 22, 39), (false, 22, 40), (false, 5, 41), (false, 5, 42), (false, 5, 43)]) (by kernel_rfl) ⟨_, _, _, _, rfl, part_a (us := [vB x.f_Key.f_Src.f_Six, o8 x.f_Key.f_Src.f_B 0, o8 x.f_Key.f_Src.f_B 1, o8 x.f_Key.f_Src.f_B 2, o8 x.f_Key.f_Src.f_B 3, o8 x.f_Key.f_Src.f_B 4, o8 x.f_Key.f_Src.f_B 5, o8 x.f_Key.f_Src.f_B 6, o8 x.f_Key.f_Src.f_B 7, o8 x.f_Key.f_Src.f_B 8, o8 x.f_Key.f_Src.f_B 9, o8 x.f_Key.f_Src.f_B 10, o8 x.f_Key.f_Src.f_B 11, o8 x.f_Key.f_Src.f_B 12, o8 x.f_Key.f_Src.f_B 13, o8 x.f_Key.f_Src.f_B 14, o8 x.f_Key.f_Src.f_B 15, vB x.f_Key.f_Dst.f_Six, o8 x.f_Key.f_Dst.f_B 0, o8 x.f_Key.f_Dst.f_B 1, o8 x.f_Key.f_Dst.f_B 2, o8 x.f_Key.f_Dst.f_B 3, o8 x.f_Key.f_Dst.f_B 4, o8 x.f_Key.f_Dst.f_B 5, o8 x.f_Key.f_Dst.f_B 6, o8 x.f_Key.f_Dst.f_B 7, o8 x.f_Key.f_Dst.f_B 8, o8 x.f_Key.f_Dst.f_B 9, o8 x.f_Key.f_Dst.f_B 10, o8 x.f_Key.f_Dst.f_B 11, o8 x.f_Key.f_Dst.f_B 12, o8 x.f_Key.f_Dst.f_B 13, o8 x.f_Key.f_Dst.f_B 14, o8 x.f_Key.f_Dst.f_B 15, v8 x.f_Key.f_Proto, v16 x.f_Key.f_SrcPort, v16 x.f_Key.f_DstPort]) ag36 rfl, part_a (us := [vB y.f_Key.f_Src.f_Six, o8 y.f_Key.f_Src.f_B 0, o8 y.f_Key.f_Src.f_B 1, o8 y.f_Key.f_Src.f_B 2, o8 y.f_Key.f_Src.f_B 3, o8 y.f_Key.f_Src.f_B 4, o8 y.f_Key.f_Src.f_B 5, o8 y.f_Key.f_Src.f_B 6, o8 y.f_Key.f_Src.f_B 7, o8 y.f_Key.f_Src.f_B 8, o8 y.f_Key.f_Src.f_B 9, o8 y.f_Key.f_Src.f_B 10, o8 y.f_Key.f_Src.f_B 11, o8 y.f_Key.f_Src.f_B 12, o8 y.f_Key.f_Src.f_B 13, o8 y.f_Key.f_Src.f_B 14, o8 y.f_Key.f_Src.f_B 15, vB y.f_Key.f_Dst.f_Six, o8 y.f_Key.f_Dst.f_B 0, o8 y.f_Key.f_Dst.f_B 1, o8 y.f_Key.f_Dst.f_B 2, o8 y.f_Key.f_Dst.f_B 3, o8 y.f_Key.f_Dst.f_B 4, o8 y.f_Key.f_Dst.f_B 5, o8 y.f_Key.f_Dst.f_B 6, o8 y.f_Key.f_Dst.f_B 7, o8 y.f_Key.f_Dst.f_B 8, o8 y.f_Key.f_Dst.f_B 9, o8 y.f_Key.f_Dst.f_B 10, o8 y.f_Key.f_Dst.f_B 11, o8 y.f_Key.f_Dst.f_B 12, o8 y.f_Key.f_Dst.f_B 13, o8 y.f_Key.f_Dst.f_B 14, o8 y.f_Key.f_Dst.f_B 15, v8 y.f_Key.f_Proto, v16 y.f_Key.f_SrcPort, v16 y.f_Key.f_DstPort]) ag36 rfl, Q36 (d + 0) x.f_Key y.f_Key w, ⟨_, _, _, _, rfl, part_s sc22 rfl, part_s sc22 rfl, run_equalIn_int w (d + 3) 22 _ _ _ _ Try.underlying22, ⟨_, _, _, _, rfl, part_s sc22 rfl, part_s sc22 rfl, run_equalIn_int w (d + 3) 22 _ _ _ _ Try.underlying22, ⟨_, _, _, _, rfl, part_s sc22 rfl, part_s sc22 rfl, run_equalIn_int w (d + 3) 22 _ _ _ _ Try.underlying22, ⟨_, _, _, _, rfl, part_s sc22 rfl, part_s sc22 rfl, run_equalIn_int w (d + 3) 22 _ _ _ _ Try.underlying22, ⟨_, _, _, _, rfl, part_s sc5 rfl, part_s sc5 rfl, run_equalIn_int w (d + 3) 5 _ _ _ _ Try.underlying5, ⟨_, _, _, _, rfl, part_s sc5 rfl, part_s sc5 rfl, run_equalIn_int w (d + 3) 5 _ _ _ _ Try.underlying5, ⟨_, _, _, _, rfl, part_s sc5 rfl, part_s sc5 rfl, run_equalIn_int w (d + 3) 5 _ _ _ _ Try.underlying5, rfl, rfl⟩, rfl⟩, rfl⟩, rfl⟩, rfl⟩, rfl⟩, rfl⟩, rfl⟩)
theorem Q46t (x y : T_flow_Record) {xs ys : List Value} (w : World) (hx : xs = [vB x.f_Key.f_Src.f_Six, o8 x.f_Key.f_Src.f_B 0, o8 x.f_Key.f_Src.f_B 1, o8 x.f_Key.f_Src.f_B 2, o8 x.f_Key.f_Src.f_B 3, o8 x.f_Key.f_Src.f_B 4, o8 x.f_Key.f_Src.f_B 5, o8 x.f_Key.f_Src.f_B 6, o8 x.f_Key.f_Src.f_B 7, o8 x.f_Key.f_Src.f_B 8, o8 x.f_Key.f_Src.f_B 9, o8 x.f_Key.f_Src.f_B 10, o8 x.f_Key.f_Src.f_B 11, o8 x.f_Key.f_Src.f_B 12, o8 x.f_Key.f_Src.f_B 13, o8 x.f_Key.f_Src.f_B 14, o8 x.f_Key.f_Src.f_B 15, vB x.f_Key.f_Dst.f_Six, o8 x.f_Key.f_Dst.f_B 0, o8 x.f_Key.f_Dst.f_B 1, o8 x.f_Key.f_Dst.f_B 2, o8 x.f_Key.f_Dst.f_B 3, o8 x.f_Key.f_Dst.f_B 4, o8 x.f_Key.f_Dst.f_B 5, o8 x.f_Key.f_Dst.f_B 6, o8 x.f_Key.f_Dst.f_B 7, o8 x.f_Key.f_Dst.f_B 8, o8 x.f_Key.f_Dst.f_B 9, o8 x.f_Key.f_Dst.f_B 10, o8 x.f_Key.f_Dst.f_B 11, o8 x.f_Key.f_Dst.f_B 12, o8 x.f_Key.f_Dst.f_B 13, o8 x.f_Key.f_Dst.f_B 14, o8 x.f_Key.f_Dst.f_B 15, v8 x.f_Key.f_Proto, v16 x.f_Key.f_SrcPort, v16 x.f_Key.f_DstPort, v64 x.f_Packets, v64 x.f_Bytes, v64 x.f_First, v64 x.f_Last, v8 x.f_Flags, v8 x.f_Reason, v8 x.f_Class]) (hy : ys = [vB y.f_Key.f_Src.f_Six, o8 y.f_Key.f_Src.f_B 0, o8 y.f_Key.f_Src.f_B 1, o8 y.f_Key.f_Src.f_B 2, o8 y.f_Key.f_Src.f_B 3, o8 y.f_Key.f_Src.f_B 4, o8 y.f_Key.f_Src.f_B 5, o8 y.f_Key.f_Src.f_B 6, o8 y.f_Key.f_Src.f_B 7, o8 y.f_Key.f_Src.f_B 8, o8 y.f_Key.f_Src.f_B 9, o8 y.f_Key.f_Src.f_B 10, o8 y.f_Key.f_Src.f_B 11, o8 y.f_Key.f_Src.f_B 12, o8 y.f_Key.f_Src.f_B 13, o8 y.f_Key.f_Src.f_B 14, o8 y.f_Key.f_Src.f_B 15, vB y.f_Key.f_Dst.f_Six, o8 y.f_Key.f_Dst.f_B 0, o8 y.f_Key.f_Dst.f_B 1, o8 y.f_Key.f_Dst.f_B 2, o8 y.f_Key.f_Dst.f_B 3, o8 y.f_Key.f_Dst.f_B 4, o8 y.f_Key.f_Dst.f_B 5, o8 y.f_Key.f_Dst.f_B 6, o8 y.f_Key.f_Dst.f_B 7, o8 y.f_Key.f_Dst.f_B 8, o8 y.f_Key.f_Dst.f_B 9, o8 y.f_Key.f_Dst.f_B 10, o8 y.f_Key.f_Dst.f_B 11, o8 y.f_Key.f_Dst.f_B 12, o8 y.f_Key.f_Dst.f_B 13, o8 y.f_Key.f_Dst.f_B 14, o8 y.f_Key.f_Dst.f_B 15, v8 y.f_Key.f_Proto, v16 y.f_Key.f_SrcPort, v16 y.f_Key.f_DstPort, v64 y.f_Packets, v64 y.f_Bytes, v64 y.f_First, v64 y.f_Last, v8 y.f_Flags, v8 y.f_Reason, v8 y.f_Class]) : (Op.equalIn 10000 46 (.agg xs.toArray) (.agg ys.toArray)).run Try.prog w = .ok (q_flow_Record x y) w := by
 subst hx; subst hy; exact Q46 9995 x y w
theorem Q55 (d : Nat) (x y : T_flow_Total) (w : World) : (Op.equalIn (d + 2) 55 (.agg #[v64 x.f_Packets, v64 x.f_Bytes]) (.agg #[v64 y.f_Packets, v64 y.f_Bytes])).run Try.prog w = .ok (q_flow_Total x y) w :=
 (run_equalIn_agg w (d + 1) 55 _ _ (by kernel_rfl) (by kernel_rfl)).trans (EqT.run (tr := [(false, 22, 0), (false, 22, 1)]) (by kernel_rfl) ⟨_, _, _, _, rfl, part_s sc22 rfl, part_s sc22 rfl, run_equalIn_int w (d + 0) 22 _ _ _ _ Try.underlying22, ⟨_, _, _, _, rfl, part_s sc22 rfl, part_s sc22 rfl, run_equalIn_int w (d + 0) 22 _ _ _ _ Try.underlying22, rfl, rfl⟩, rfl⟩)
theorem Q55t (x y : T_flow_Total) {xs ys : List Value} (w : World) (hx : xs = [v64 x.f_Packets, v64 x.f_Bytes]) (hy : ys = [v64 y.f_Packets, v64 y.f_Bytes]) : (Op.equalIn 10000 55 (.agg xs.toArray) (.agg ys.toArray)).run Try.prog w = .ok (q_flow_Total x y) w := by
 subst hx; subst hy; exact Q55 9998 x y w
theorem Q89 (d : Nat) (x y : T_law24_Sum) (w : World) : (Op.equalIn (d + 5) 89 (.agg #[vB x.f_Key.f_Src.f_Six, o8 x.f_Key.f_Src.f_B 0, o8 x.f_Key.f_Src.f_B 1, o8 x.f_Key.f_Src.f_B 2, o8 x.f_Key.f_Src.f_B 3, o8 x.f_Key.f_Src.f_B 4, o8 x.f_Key.f_Src.f_B 5, o8 x.f_Key.f_Src.f_B 6, o8 x.f_Key.f_Src.f_B 7, o8 x.f_Key.f_Src.f_B 8, o8 x.f_Key.f_Src.f_B 9, o8 x.f_Key.f_Src.f_B 10, o8 x.f_Key.f_Src.f_B 11, o8 x.f_Key.f_Src.f_B 12, o8 x.f_Key.f_Src.f_B 13, o8 x.f_Key.f_Src.f_B 14, o8 x.f_Key.f_Src.f_B 15, vB x.f_Key.f_Dst.f_Six, o8 x.f_Key.f_Dst.f_B 0, o8 x.f_Key.f_Dst.f_B 1, o8 x.f_Key.f_Dst.f_B 2, o8 x.f_Key.f_Dst.f_B 3, o8 x.f_Key.f_Dst.f_B 4, o8 x.f_Key.f_Dst.f_B 5, o8 x.f_Key.f_Dst.f_B 6, o8 x.f_Key.f_Dst.f_B 7, o8 x.f_Key.f_Dst.f_B 8, o8 x.f_Key.f_Dst.f_B 9, o8 x.f_Key.f_Dst.f_B 10, o8 x.f_Key.f_Dst.f_B 11, o8 x.f_Key.f_Dst.f_B 12, o8 x.f_Key.f_Dst.f_B 13, o8 x.f_Key.f_Dst.f_B 14, o8 x.f_Key.f_Dst.f_B 15, v8 x.f_Key.f_Proto, v16 x.f_Key.f_SrcPort, v16 x.f_Key.f_DstPort, v64 x.f_Total.f_Packets, v64 x.f_Total.f_Bytes]) (.agg #[vB y.f_Key.f_Src.f_Six, o8 y.f_Key.f_Src.f_B 0, o8 y.f_Key.f_Src.f_B 1, o8 y.f_Key.f_Src.f_B 2, o8 y.f_Key.f_Src.f_B 3, o8 y.f_Key.f_Src.f_B 4, o8 y.f_Key.f_Src.f_B 5, o8 y.f_Key.f_Src.f_B 6, o8 y.f_Key.f_Src.f_B 7, o8 y.f_Key.f_Src.f_B 8, o8 y.f_Key.f_Src.f_B 9, o8 y.f_Key.f_Src.f_B 10, o8 y.f_Key.f_Src.f_B 11, o8 y.f_Key.f_Src.f_B 12, o8 y.f_Key.f_Src.f_B 13, o8 y.f_Key.f_Src.f_B 14, o8 y.f_Key.f_Src.f_B 15, vB y.f_Key.f_Dst.f_Six, o8 y.f_Key.f_Dst.f_B 0, o8 y.f_Key.f_Dst.f_B 1, o8 y.f_Key.f_Dst.f_B 2, o8 y.f_Key.f_Dst.f_B 3, o8 y.f_Key.f_Dst.f_B 4, o8 y.f_Key.f_Dst.f_B 5, o8 y.f_Key.f_Dst.f_B 6, o8 y.f_Key.f_Dst.f_B 7, o8 y.f_Key.f_Dst.f_B 8, o8 y.f_Key.f_Dst.f_B 9, o8 y.f_Key.f_Dst.f_B 10, o8 y.f_Key.f_Dst.f_B 11, o8 y.f_Key.f_Dst.f_B 12, o8 y.f_Key.f_Dst.f_B 13, o8 y.f_Key.f_Dst.f_B 14, o8 y.f_Key.f_Dst.f_B 15, v8 y.f_Key.f_Proto, v16 y.f_Key.f_SrcPort, v16 y.f_Key.f_DstPort, v64 y.f_Total.f_Packets, v64 y.f_Total.f_Bytes])).run Try.prog w = .ok (q_law24_Sum x y) w :=
 (run_equalIn_agg w (d + 4) 89 _ _ (by kernel_rfl) (by kernel_rfl)).trans (EqT.run (tr := [(false, 36, 0), (false, 55, 37)]) (by kernel_rfl) ⟨_, _, _, _, rfl, part_a (us := [vB x.f_Key.f_Src.f_Six, o8 x.f_Key.f_Src.f_B 0, o8 x.f_Key.f_Src.f_B 1, o8 x.f_Key.f_Src.f_B 2, o8 x.f_Key.f_Src.f_B 3, o8 x.f_Key.f_Src.f_B 4, o8 x.f_Key.f_Src.f_B 5, o8 x.f_Key.f_Src.f_B 6, o8 x.f_Key.f_Src.f_B 7, o8 x.f_Key.f_Src.f_B 8, o8 x.f_Key.f_Src.f_B 9, o8 x.f_Key.f_Src.f_B 10, o8 x.f_Key.f_Src.f_B 11, o8 x.f_Key.f_Src.f_B 12, o8 x.f_Key.f_Src.f_B 13, o8 x.f_Key.f_Src.f_B 14, o8 x.f_Key.f_Src.f_B 15, vB x.f_Key.f_Dst.f_Six, o8 x.f_Key.f_Dst.f_B 0, o8 x.f_Key.f_Dst.f_B 1, o8 x.f_Key.f_Dst.f_B 2, o8 x.f_Key.f_Dst.f_B 3, o8 x.f_Key.f_Dst.f_B 4, o8 x.f_Key.f_Dst.f_B 5, o8 x.f_Key.f_Dst.f_B 6, o8 x.f_Key.f_Dst.f_B 7, o8 x.f_Key.f_Dst.f_B 8, o8 x.f_Key.f_Dst.f_B 9, o8 x.f_Key.f_Dst.f_B 10, o8 x.f_Key.f_Dst.f_B 11, o8 x.f_Key.f_Dst.f_B 12, o8 x.f_Key.f_Dst.f_B 13, o8 x.f_Key.f_Dst.f_B 14, o8 x.f_Key.f_Dst.f_B 15, v8 x.f_Key.f_Proto, v16 x.f_Key.f_SrcPort, v16 x.f_Key.f_DstPort]) ag36 rfl, part_a (us := [vB y.f_Key.f_Src.f_Six, o8 y.f_Key.f_Src.f_B 0, o8 y.f_Key.f_Src.f_B 1, o8 y.f_Key.f_Src.f_B 2, o8 y.f_Key.f_Src.f_B 3, o8 y.f_Key.f_Src.f_B 4, o8 y.f_Key.f_Src.f_B 5, o8 y.f_Key.f_Src.f_B 6, o8 y.f_Key.f_Src.f_B 7, o8 y.f_Key.f_Src.f_B 8, o8 y.f_Key.f_Src.f_B 9, o8 y.f_Key.f_Src.f_B 10, o8 y.f_Key.f_Src.f_B 11, o8 y.f_Key.f_Src.f_B 12, o8 y.f_Key.f_Src.f_B 13, o8 y.f_Key.f_Src.f_B 14, o8 y.f_Key.f_Src.f_B 15, vB y.f_Key.f_Dst.f_Six, o8 y.f_Key.f_Dst.f_B 0, o8 y.f_Key.f_Dst.f_B 1, o8 y.f_Key.f_Dst.f_B 2, o8 y.f_Key.f_Dst.f_B 3, o8 y.f_Key.f_Dst.f_B 4, o8 y.f_Key.f_Dst.f_B 5, o8 y.f_Key.f_Dst.f_B 6, o8 y.f_Key.f_Dst.f_B 7, o8 y.f_Key.f_Dst.f_B 8, o8 y.f_Key.f_Dst.f_B 9, o8 y.f_Key.f_Dst.f_B 10, o8 y.f_Key.f_Dst.f_B 11, o8 y.f_Key.f_Dst.f_B 12, o8 y.f_Key.f_Dst.f_B 13, o8 y.f_Key.f_Dst.f_B 14, o8 y.f_Key.f_Dst.f_B 15, v8 y.f_Key.f_Proto, v16 y.f_Key.f_SrcPort, v16 y.f_Key.f_DstPort]) ag36 rfl, Q36 (d + 0) x.f_Key y.f_Key w, ⟨_, _, _, _, rfl, part_a (us := [v64 x.f_Total.f_Packets, v64 x.f_Total.f_Bytes]) ag55 rfl, part_a (us := [v64 y.f_Total.f_Packets, v64 y.f_Total.f_Bytes]) ag55 rfl, Q55 (d + 2) x.f_Total y.f_Total w, rfl, rfl⟩, rfl⟩)
theorem Q89t (x y : T_law24_Sum) {xs ys : List Value} (w : World) (hx : xs = [vB x.f_Key.f_Src.f_Six, o8 x.f_Key.f_Src.f_B 0, o8 x.f_Key.f_Src.f_B 1, o8 x.f_Key.f_Src.f_B 2, o8 x.f_Key.f_Src.f_B 3, o8 x.f_Key.f_Src.f_B 4, o8 x.f_Key.f_Src.f_B 5, o8 x.f_Key.f_Src.f_B 6, o8 x.f_Key.f_Src.f_B 7, o8 x.f_Key.f_Src.f_B 8, o8 x.f_Key.f_Src.f_B 9, o8 x.f_Key.f_Src.f_B 10, o8 x.f_Key.f_Src.f_B 11, o8 x.f_Key.f_Src.f_B 12, o8 x.f_Key.f_Src.f_B 13, o8 x.f_Key.f_Src.f_B 14, o8 x.f_Key.f_Src.f_B 15, vB x.f_Key.f_Dst.f_Six, o8 x.f_Key.f_Dst.f_B 0, o8 x.f_Key.f_Dst.f_B 1, o8 x.f_Key.f_Dst.f_B 2, o8 x.f_Key.f_Dst.f_B 3, o8 x.f_Key.f_Dst.f_B 4, o8 x.f_Key.f_Dst.f_B 5, o8 x.f_Key.f_Dst.f_B 6, o8 x.f_Key.f_Dst.f_B 7, o8 x.f_Key.f_Dst.f_B 8, o8 x.f_Key.f_Dst.f_B 9, o8 x.f_Key.f_Dst.f_B 10, o8 x.f_Key.f_Dst.f_B 11, o8 x.f_Key.f_Dst.f_B 12, o8 x.f_Key.f_Dst.f_B 13, o8 x.f_Key.f_Dst.f_B 14, o8 x.f_Key.f_Dst.f_B 15, v8 x.f_Key.f_Proto, v16 x.f_Key.f_SrcPort, v16 x.f_Key.f_DstPort, v64 x.f_Total.f_Packets, v64 x.f_Total.f_Bytes]) (hy : ys = [vB y.f_Key.f_Src.f_Six, o8 y.f_Key.f_Src.f_B 0, o8 y.f_Key.f_Src.f_B 1, o8 y.f_Key.f_Src.f_B 2, o8 y.f_Key.f_Src.f_B 3, o8 y.f_Key.f_Src.f_B 4, o8 y.f_Key.f_Src.f_B 5, o8 y.f_Key.f_Src.f_B 6, o8 y.f_Key.f_Src.f_B 7, o8 y.f_Key.f_Src.f_B 8, o8 y.f_Key.f_Src.f_B 9, o8 y.f_Key.f_Src.f_B 10, o8 y.f_Key.f_Src.f_B 11, o8 y.f_Key.f_Src.f_B 12, o8 y.f_Key.f_Src.f_B 13, o8 y.f_Key.f_Src.f_B 14, o8 y.f_Key.f_Src.f_B 15, vB y.f_Key.f_Dst.f_Six, o8 y.f_Key.f_Dst.f_B 0, o8 y.f_Key.f_Dst.f_B 1, o8 y.f_Key.f_Dst.f_B 2, o8 y.f_Key.f_Dst.f_B 3, o8 y.f_Key.f_Dst.f_B 4, o8 y.f_Key.f_Dst.f_B 5, o8 y.f_Key.f_Dst.f_B 6, o8 y.f_Key.f_Dst.f_B 7, o8 y.f_Key.f_Dst.f_B 8, o8 y.f_Key.f_Dst.f_B 9, o8 y.f_Key.f_Dst.f_B 10, o8 y.f_Key.f_Dst.f_B 11, o8 y.f_Key.f_Dst.f_B 12, o8 y.f_Key.f_Dst.f_B 13, o8 y.f_Key.f_Dst.f_B 14, o8 y.f_Key.f_Dst.f_B 15, v8 y.f_Key.f_Proto, v16 y.f_Key.f_SrcPort, v16 y.f_Key.f_DstPort, v64 y.f_Total.f_Packets, v64 y.f_Total.f_Bytes]) : (Op.equalIn 10000 89 (.agg xs.toArray) (.agg ys.toArray)).run Try.prog w = .ok (q_law24_Sum x y) w := by
 subst hx; subst hy; exact Q89 9995 x y w

end Go.Proofs.Ytkpnocgfhipidaa
