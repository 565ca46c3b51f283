/- Printed by a program of this claim: each call returns what the plain function of its name gives. -/
import Derived.Test.YtikjomacnbemhaaRows
import Derived.Test.YtikjomacnbemhaaF
set_option linter.unusedVariables false
namespace Go.Proofs.Ytikjomacnbemhaa
open Go Go.Ox Go.RowKit
theorem ag24 : isAggT Try.prog 24 2 = true := by kernel_rfl
theorem fl24_0 : FieldT Try.prog 24 0 0 22 1 := ⟨by kernel_rfl, by kernel_rfl⟩
theorem sc22 : isScalar Try.prog 22 = true := by kernel_rfl
theorem sl22 : SliceT Try.prog 22 63 2 32 := ⟨Try.underlying22, by kernel_rfl⟩
theorem fl63_1 : FieldT Try.prog 63 1 1 31 1 := ⟨by kernel_rfl, by kernel_rfl⟩
theorem sc31 : isScalar Try.prog 31 = true := by kernel_rfl
theorem sl31 : SliceT Try.prog 31 5 1 1 := ⟨Try.underlying31, by kernel_rfl⟩
theorem bd8 : (!(Try.f8.name == "runtime.NumGoroutine") && !Try.f8.body.isNone) = true := by kernel_rfl
theorem ze5 : ZeroT Try.prog 5 [.int .u8 0] := by unfold ZeroT; kernel_rfl
theorem bt63 : BuildT Try.prog 63 [(0, 1), (1, 1)] [.int .u8 0, .slice none 0 0] := ⟨by kernel_rfl, by unfold ZeroT; kernel_rfl⟩
theorem ze63 : ZeroT Try.prog 63 [.int .u8 0, .slice none 0 0] := by unfold ZeroT; kernel_rfl
theorem bt24 : BuildT Try.prog 24 [(0, 1), (1, 1)] [.slice none 0 0, .int .u8 0] := ⟨by kernel_rfl, by unfold ZeroT; kernel_rfl⟩
theorem ag63 : isAggT Try.prog 63 2 = true := by kernel_rfl
theorem fl63_0 : FieldT Try.prog 63 0 0 5 1 := ⟨by kernel_rfl, by kernel_rfl⟩
theorem sc5 : isScalar Try.prog 5 = true := by kernel_rfl
theorem bd41 : (!(Try.f41.name == "runtime.NumGoroutine") && !Try.f41.body.isNone) = true := by kernel_rfl
theorem bd54 : (!(Try.f54.name == "runtime.NumGoroutine") && !Try.f54.body.isNone) = true := by kernel_rfl
theorem un5 : (Try.prog.underlying 5).isSome = true := by kernel_rfl
theorem bd55 : (!(Try.f55.name == "runtime.NumGoroutine") && !Try.f55.body.isNone) = true := by kernel_rfl
theorem bd35 : (!(Try.f35.name == "runtime.NumGoroutine") && !Try.f35.body.isNone) = true := by kernel_rfl
theorem un81 : (Try.prog.underlying 81).isSome = true := by kernel_rfl
theorem bd34 : (!(Try.f34.name == "runtime.NumGoroutine") && !Try.f34.body.isNone) = true := by kernel_rfl
theorem bd39 : (!(Try.f39.name == "runtime.NumGoroutine") && !Try.f39.body.isNone) = true := by kernel_rfl
theorem bd38 : (!(Try.f38.name == "runtime.NumGoroutine") && !Try.f38.body.isNone) = true := by kernel_rfl
theorem bd32 : (!(Try.f32.name == "runtime.NumGoroutine") && !Try.f32.body.isNone) = true := by kernel_rfl
theorem bd37 : (!(Try.f37.name == "runtime.NumGoroutine") && !Try.f37.body.isNone) = true := by kernel_rfl
theorem bd40 : (!(Try.f40.name == "runtime.NumGoroutine") && !Try.f40.body.isNone) = true := by kernel_rfl
theorem sz63 : sizeT Try.prog 63 2 = true := by kernel_rfl
theorem fl24_1 : FieldT Try.prog 24 1 1 5 1 := ⟨by kernel_rfl, by kernel_rfl⟩
theorem bd16 : (!(Try.f16.name == "runtime.NumGoroutine") && !Try.f16.body.isNone) = true := by kernel_rfl
theorem un3 : (Try.prog.underlying 3).isSome = true := by kernel_rfl
theorem moP : Try.prog.follows .mixedOrders = true := by kernel_rfl
theorem bd11 : (!(Try.f11.name == "runtime.NumGoroutine") && !Try.f11.body.isNone) = true := by kernel_rfl
theorem ze24 : ZeroT Try.prog 24 [.slice none 0 0, .int .u8 0] := by unfold ZeroT; kernel_rfl
theorem bt91 : BuildT Try.prog 91 [(0, 2), (2, 1), (3, 1)] [.slice none 0 0, .int .u8 0, .slice none 0 0, .int .i64 0] := ⟨by kernel_rfl, by unfold ZeroT; kernel_rfl⟩
theorem fl91_0 : FieldT Try.prog 91 0 0 24 2 := ⟨by kernel_rfl, by kernel_rfl⟩
theorem fl91_1 : FieldT Try.prog 91 1 2 31 1 := ⟨by kernel_rfl, by kernel_rfl⟩
theorem fl91_2 : FieldT Try.prog 91 2 3 3 1 := ⟨by kernel_rfl, by kernel_rfl⟩
theorem sc3 : isScalar Try.prog 3 = true := by kernel_rfl
theorem bd49 : (!(Try.f49.name == "runtime.NumGoroutine") && !Try.f49.body.isNone) = true := by kernel_rfl
theorem sz3 : sizeT Try.prog 3 1 = true := by kernel_rfl
theorem sz5 : sizeT Try.prog 5 1 = true := by kernel_rfl
theorem sz22 : sizeT Try.prog 22 1 = true := by kernel_rfl
theorem bd48 : (!(Try.f48.name == "runtime.NumGoroutine") && !Try.f48.body.isNone) = true := by kernel_rfl
theorem sz24 : sizeT Try.prog 24 2 = true := by kernel_rfl
theorem bd21 : (!(Try.f21.name == "runtime.NumGoroutine") && !Try.f21.body.isNone) = true := by kernel_rfl
theorem bd33 : (!(Try.f33.name == "runtime.NumGoroutine") && !Try.f33.body.isNone) = true := by kernel_rfl
theorem bd13 : (!(Try.f13.name == "runtime.NumGoroutine") && !Try.f13.body.isNone) = true := by kernel_rfl
theorem bd15 : (!(Try.f15.name == "runtime.NumGoroutine") && !Try.f15.body.isNone) = true := by kernel_rfl
theorem bd9 : (!(Try.f9.name == "runtime.NumGoroutine") && !Try.f9.body.isNone) = true := by kernel_rfl
theorem ze29 : ZeroT Try.prog 29 [.slice none 0 0, .int .u8 0] := by unfold ZeroT; kernel_rfl
theorem bt29 : BuildT Try.prog 29 [(0, 1), (1, 1)] [.slice none 0 0, .int .u8 0] := ⟨by kernel_rfl, by unfold ZeroT; kernel_rfl⟩
theorem fl29_0 : FieldT Try.prog 29 0 0 27 1 := ⟨by kernel_rfl, by kernel_rfl⟩
theorem sc27 : isScalar Try.prog 27 = true := by kernel_rfl
theorem bt76 : BuildT Try.prog 76 [(0, 1), (1, 1)] [.int .u8 0, .string ByteArray.empty] := ⟨by kernel_rfl, by unfold ZeroT; kernel_rfl⟩
theorem sl27 : SliceT Try.prog 27 76 2 24 := ⟨Try.underlying27, by kernel_rfl⟩
theorem ze76 : ZeroT Try.prog 76 [.int .u8 0, .string ByteArray.empty] := by unfold ZeroT; kernel_rfl
theorem sz27 : sizeT Try.prog 27 1 = true := by kernel_rfl
theorem ag29 : isAggT Try.prog 29 2 = true := by kernel_rfl
theorem sz29 : sizeT Try.prog 29 2 = true := by kernel_rfl
theorem bd10 : (!(Try.f10.name == "runtime.NumGoroutine") && !Try.f10.body.isNone) = true := by kernel_rfl
theorem ag76 : isAggT Try.prog 76 2 = true := by kernel_rfl
theorem fl76_1 : FieldT Try.prog 76 1 1 9 1 := ⟨by kernel_rfl, by kernel_rfl⟩
theorem sc9 : isScalar Try.prog 9 = true := by kernel_rfl
theorem fl76_0 : FieldT Try.prog 76 0 0 5 1 := ⟨by kernel_rfl, by kernel_rfl⟩
theorem bd44 : (!(Try.f44.name == "runtime.NumGoroutine") && !Try.f44.body.isNone) = true := by kernel_rfl
theorem bd42 : (!(Try.f42.name == "runtime.NumGoroutine") && !Try.f42.body.isNone) = true := by kernel_rfl
theorem bd43 : (!(Try.f43.name == "runtime.NumGoroutine") && !Try.f43.body.isNone) = true := by kernel_rfl
theorem sz76 : sizeT Try.prog 76 2 = true := by kernel_rfl
theorem fl29_1 : FieldT Try.prog 29 1 1 5 1 := ⟨by kernel_rfl, by kernel_rfl⟩
theorem bd17 : (!(Try.f17.name == "runtime.NumGoroutine") && !Try.f17.body.isNone) = true := by kernel_rfl
theorem bd12 : (!(Try.f12.name == "runtime.NumGoroutine") && !Try.f12.body.isNone) = true := by kernel_rfl
theorem bd36 : (!(Try.f36.name == "runtime.NumGoroutine") && !Try.f36.body.isNone) = true := by kernel_rfl
theorem bd14 : (!(Try.f14.name == "runtime.NumGoroutine") && !Try.f14.body.isNone) = true := by kernel_rfl
theorem bd46 : (!(Try.f46.name == "runtime.NumGoroutine") && !Try.f46.body.isNone) = true := by kernel_rfl
theorem bd45 : (!(Try.f45.name == "runtime.NumGoroutine") && !Try.f45.body.isNone) = true := by kernel_rfl
theorem bd47 : (!(Try.f47.name == "runtime.NumGoroutine") && !Try.f47.body.isNone) = true := by kernel_rfl
theorem bd18 : (!(Try.f18.name == "runtime.NumGoroutine") && !Try.f18.body.isNone) = true := by kernel_rfl
theorem bd19 : (!(Try.f19.name == "runtime.NumGoroutine") && !Try.f19.body.isNone) = true := by kernel_rfl
theorem bd20 : (!(Try.f20.name == "runtime.NumGoroutine") && !Try.f20.body.isNone) = true := by kernel_rfl
theorem bd22 : (!(Try.f22.name == "runtime.NumGoroutine") && !Try.f22.body.isNone) = true := by kernel_rfl
theorem ze52 : ZeroT Try.prog 52 [.int .u8 0, .int .u32 0, .int .u16 0, .int .u8 0, .int .u8 0, .int .u8 0, .int .u8 0, .int .u8 0, .int .u8 0, .int .u8 0, .int .u8 0, .int .u8 0, .int .u8 0, .int .u8 0, .int .u8 0, .int .u8 0, .int .u8 0, .int .u8 0, .int .u8 0, .int .u8 0, .int .u8 0, .int .u8 0, .int .u8 0, .int .u8 0, .int .u8 0, .int .u8 0, .int .u8 0, .int .u8 0, .int .u8 0, .int .u8 0, .int .u8 0, .int .u8 0, .int .u8 0, .int .u8 0, .int .u8 0, .int .u8 0, .int .u8 0] := by unfold ZeroT; kernel_rfl
theorem bt52 : BuildT Try.prog 52 [(0, 1), (1, 1), (2, 1), (3, 1), (4, 1), (5, 16), (21, 16)] [.int .u8 0, .int .u32 0, .int .u16 0, .int .u8 0, .int .u8 0, .int .u8 0, .int .u8 0, .int .u8 0, .int .u8 0, .int .u8 0, .int .u8 0, .int .u8 0, .int .u8 0, .int .u8 0, .int .u8 0, .int .u8 0, .int .u8 0, .int .u8 0, .int .u8 0, .int .u8 0, .int .u8 0, .int .u8 0, .int .u8 0, .int .u8 0, .int .u8 0, .int .u8 0, .int .u8 0, .int .u8 0, .int .u8 0, .int .u8 0, .int .u8 0, .int .u8 0, .int .u8 0, .int .u8 0, .int .u8 0, .int .u8 0, .int .u8 0] := ⟨by kernel_rfl, by unfold ZeroT; kernel_rfl⟩
theorem ag52 : isAggT Try.prog 52 37 = true := by kernel_rfl
theorem sz52 : sizeT Try.prog 52 37 = true := by kernel_rfl
theorem ag50 : isAggT Try.prog 50 16 = true := by kernel_rfl
theorem bd30 : (!(Try.f30.name == "runtime.NumGoroutine") && !Try.f30.body.isNone) = true := by kernel_rfl
theorem fl52_2 : FieldT Try.prog 52 2 2 36 1 := ⟨by kernel_rfl, by kernel_rfl⟩
theorem sc36 : isScalar Try.prog 36 = true := by kernel_rfl
theorem un36 : (Try.prog.underlying 36).isSome = true := by kernel_rfl
theorem fl52_3 : FieldT Try.prog 52 3 3 5 1 := ⟨by kernel_rfl, by kernel_rfl⟩
theorem bd23 : (!(Try.f23.name == "runtime.NumGoroutine") && !Try.f23.body.isNone) = true := by kernel_rfl
theorem ze56 : ZeroT Try.prog 56 [.int .u8 0, .int .u32 0, .int .u16 0, .int .u8 0, .int .u8 0, .string ByteArray.empty, .string ByteArray.empty] := by unfold ZeroT; kernel_rfl
theorem bt56 : BuildT Try.prog 56 [(0, 1), (1, 1), (2, 1), (3, 1), (4, 1), (5, 1), (6, 1)] [.int .u8 0, .int .u32 0, .int .u16 0, .int .u8 0, .int .u8 0, .string ByteArray.empty, .string ByteArray.empty] := ⟨by kernel_rfl, by unfold ZeroT; kernel_rfl⟩
theorem ag56 : isAggT Try.prog 56 7 = true := by kernel_rfl
theorem sz56 : sizeT Try.prog 56 7 = true := by kernel_rfl
theorem bd31 : (!(Try.f31.name == "runtime.NumGoroutine") && !Try.f31.body.isNone) = true := by kernel_rfl
theorem fl56_2 : FieldT Try.prog 56 2 2 36 1 := ⟨by kernel_rfl, by kernel_rfl⟩
theorem fl56_3 : FieldT Try.prog 56 3 3 5 1 := ⟨by kernel_rfl, by kernel_rfl⟩
theorem bd24 : (!(Try.f24.name == "runtime.NumGoroutine") && !Try.f24.body.isNone) = true := by kernel_rfl
theorem fl52_0 : FieldT Try.prog 52 0 0 5 1 := ⟨by kernel_rfl, by kernel_rfl⟩
theorem fl52_1 : FieldT Try.prog 52 1 1 37 1 := ⟨by kernel_rfl, by kernel_rfl⟩
theorem sc37 : isScalar Try.prog 37 = true := by kernel_rfl
theorem fl52_4 : FieldT Try.prog 52 4 4 5 1 := ⟨by kernel_rfl, by kernel_rfl⟩
theorem fl52_5 : FieldT Try.prog 52 5 5 50 16 := ⟨by kernel_rfl, by kernel_rfl⟩
theorem fl52_6 : FieldT Try.prog 52 6 21 50 16 := ⟨by kernel_rfl, by kernel_rfl⟩
theorem bd25 : (!(Try.f25.name == "runtime.NumGoroutine") && !Try.f25.body.isNone) = true := by kernel_rfl
theorem fl56_5 : FieldT Try.prog 56 5 5 9 1 := ⟨by kernel_rfl, by kernel_rfl⟩
theorem bd26 : (!(Try.f26.name == "runtime.NumGoroutine") && !Try.f26.body.isNone) = true := by kernel_rfl
theorem bd27 : (!(Try.f27.name == "runtime.NumGoroutine") && !Try.f27.body.isNone) = true := by kernel_rfl
theorem ze94 : ZeroT Try.prog 94 [.slice none 0 0] := by unfold ZeroT; kernel_rfl
theorem un37 : (Try.prog.underlying 37).isSome = true := by kernel_rfl
theorem bd59 : (!(Try.f59.name == "runtime.NumGoroutine") && !Try.f59.body.isNone) = true := by kernel_rfl
theorem bd56 : (!(Try.f56.name == "runtime.NumGoroutine") && !Try.f56.body.isNone) = true := by kernel_rfl
theorem bd57 : (!(Try.f57.name == "runtime.NumGoroutine") && !Try.f57.body.isNone) = true := by kernel_rfl
theorem fl94_0 : FieldT Try.prog 94 0 0 31 1 := ⟨by kernel_rfl, by kernel_rfl⟩
theorem sz31 : sizeT Try.prog 31 1 = true := by kernel_rfl
theorem bd51 : (!(Try.f51.name == "runtime.NumGoroutine") && !Try.f51.body.isNone) = true := by kernel_rfl
theorem bd50 : (!(Try.f50.name == "runtime.NumGoroutine") && !Try.f50.body.isNone) = true := by kernel_rfl
theorem bd58 : (!(Try.f58.name == "runtime.NumGoroutine") && !Try.f58.body.isNone) = true := by kernel_rfl
theorem bd52 : (!(Try.f52.name == "runtime.NumGoroutine") && !Try.f52.body.isNone) = true := by kernel_rfl
theorem bd28 : (!(Try.f28.name == "runtime.NumGoroutine") && !Try.f28.body.isNone) = true := by kernel_rfl
theorem fl56_1 : FieldT Try.prog 56 1 1 37 1 := ⟨by kernel_rfl, by kernel_rfl⟩
theorem fl56_0 : FieldT Try.prog 56 0 0 5 1 := ⟨by kernel_rfl, by kernel_rfl⟩
theorem bd53 : (!(Try.f53.name == "runtime.NumGoroutine") && !Try.f53.body.isNone) = true := by kernel_rfl
theorem fl56_4 : FieldT Try.prog 56 4 4 5 1 := ⟨by kernel_rfl, by kernel_rfl⟩
theorem fl56_6 : FieldT Try.prog 56 6 6 9 1 := ⟨by kernel_rfl, by kernel_rfl⟩
theorem bd29 : (!(Try.f29.name == "runtime.NumGoroutine") && !Try.f29.body.isNone) = true := by kernel_rfl
theorem sz36 : sizeT Try.prog 36 1 = true := by kernel_rfl
theorem sz37 : sizeT Try.prog 37 1 = true := by kernel_rfl
theorem sl74 : SliceT Try.prog 74 3 1 8 := ⟨Try.underlying74, by kernel_rfl⟩
theorem ze3 : ZeroT Try.prog 3 [.int .i64 0] := by unfold ZeroT; kernel_rfl
theorem bd3 : (!(Try.f3.name == "runtime.NumGoroutine") && !Try.f3.body.isNone) = true := by kernel_rfl
theorem bd6 : (!(Try.f6.name == "runtime.NumGoroutine") && !Try.f6.body.isNone) = true := by kernel_rfl
theorem bd4 : (!(Try.f4.name == "runtime.NumGoroutine") && !Try.f4.body.isNone) = true := by kernel_rfl
theorem ze50 : ZeroT Try.prog 50 [.int .u8 0, .int .u8 0, .int .u8 0, .int .u8 0, .int .u8 0, .int .u8 0, .int .u8 0, .int .u8 0, .int .u8 0, .int .u8 0, .int .u8 0, .int .u8 0, .int .u8 0, .int .u8 0, .int .u8 0, .int .u8 0] := by unfold ZeroT; kernel_rfl
theorem bd5 : (!(Try.f5.name == "runtime.NumGoroutine") && !Try.f5.body.isNone) = true := by kernel_rfl
theorem Q76 (d : Nat) (x y : T_ref06_Ext) (w : World) : (Op.equalIn (d + 2) 76 (.agg #[.int .u8 x.f_Kind, .string x.f_Data]) (.agg #[.int .u8 y.f_Kind, .string y.f_Data])).run Try.prog w = .ok (q_ref06_Ext x y) w :=
  (run_equalIn_agg w (d + 1) 76 _ _ (by kernel_rfl) (by kernel_rfl)).trans (EqT.run (tr := [(false, 5, 0), (false, 9, 1)]) (by kernel_rfl) ⟨_, _, _, _, rfl, part_s sc5 rfl, part_s sc5 rfl, run_equalIn_int w (d + 0) 5 _ _ _ _ Try.underlying5, ⟨_, _, _, _, rfl, part_s sc9 rfl, part_s sc9 rfl, run_equalIn_string w (d + 0) 9 _ _ Try.underlying9, rfl, rfl⟩, rfl⟩)
theorem Q76t (x y : T_ref06_Ext) {xs ys : List Value} (w : World) (hx : xs = [.int .u8 x.f_Kind, .string x.f_Data]) (hy : ys = [.int .u8 y.f_Kind, .string y.f_Data]) : (Op.equalIn 10000 76 (.agg xs.toArray) (.agg ys.toArray)).run Try.prog w = .ok (q_ref06_Ext x y) w := by
  subst hx; subst hy; exact Q76 9998 x y w
theorem Q56 (d : Nat) (x y : T_ref06_Header) (w : World) : (Op.equalIn (d + 2) 56 (.agg #[.int .u8 x.f_Class, .int .u32 x.f_Flow, .int .u16 x.f_Length, .int .u8 x.f_Next, .int .u8 x.f_Hops, .string x.f_Src, .string x.f_Dst]) (.agg #[.int .u8 y.f_Class, .int .u32 y.f_Flow, .int .u16 y.f_Length, .int .u8 y.f_Next, .int .u8 y.f_Hops, .string y.f_Src, .string y.f_Dst])).run Try.prog w = .ok (q_ref06_Header x y) w :=
  (run_equalIn_agg w (d + 1) 56 _ _ (by kernel_rfl) (by kernel_rfl)).trans (EqT.run (tr := [(false, 5, 0), (false, 37, 1), (false, 36, 2), (false, 5, 3), (false, 5, 4), (false, 9, 5), (false, 9, 6)]) (by kernel_rfl) ⟨_, _, _, _, rfl, part_s sc5 rfl, part_s sc5 rfl, run_equalIn_int w (d + 0) 5 _ _ _ _ Try.underlying5, ⟨_, _, _, _, rfl, part_s sc37 rfl, part_s sc37 rfl, run_equalIn_int w (d + 0) 37 _ _ _ _ Try.underlying37, ⟨_, _, _, _, rfl, part_s sc36 rfl, part_s sc36 rfl, run_equalIn_int w (d + 0) 36 _ _ _ _ Try.underlying36, ⟨_, _, _, _, rfl, part_s sc5 rfl, part_s sc5 rfl, run_equalIn_int w (d + 0) 5 _ _ _ _ Try.underlying5, ⟨_, _, _, _, rfl, part_s sc5 rfl, part_s sc5 rfl, run_equalIn_int w (d + 0) 5 _ _ _ _ Try.underlying5, ⟨_, _, _, _, rfl, part_s sc9 rfl, part_s sc9 rfl, run_equalIn_string w (d + 0) 9 _ _ Try.underlying9, ⟨_, _, _, _, rfl, part_s sc9 rfl, part_s sc9 rfl, run_equalIn_string w (d + 0) 9 _ _ Try.underlying9, rfl, rfl⟩, rfl⟩, rfl⟩, rfl⟩, rfl⟩, rfl⟩, rfl⟩)
theorem Q56t (x y : T_ref06_Header) {xs ys : List Value} (w : World) (hx : xs = [.int .u8 x.f_Class, .int .u32 x.f_Flow, .int .u16 x.f_Length, .int .u8 x.f_Next, .int .u8 x.f_Hops, .string x.f_Src, .string x.f_Dst]) (hy : ys = [.int .u8 y.f_Class, .int .u32 y.f_Flow, .int .u16 y.f_Length, .int .u8 y.f_Next, .int .u8 y.f_Hops, .string y.f_Src, .string y.f_Dst]) : (Op.equalIn 10000 56 (.agg xs.toArray) (.agg ys.toArray)).run Try.prog w = .ok (q_ref06_Header x y) w := by
  subst hx; subst hy; exact Q56 9998 x y w
theorem Q52 (d : Nat) (x y : T_ipsix_Header) (w : World) : (Op.equalIn (d + 3) 52 (.agg #[.int .u8 x.f_Class, .int .u32 x.f_Flow, .int .u16 x.f_Length, .int .u8 x.f_Next, .int .u8 x.f_Hops, .int .u8 (List.getD x.f_Src 0 0), .int .u8 (List.getD x.f_Src 1 0), .int .u8 (List.getD x.f_Src 2 0), .int .u8 (List.getD x.f_Src 3 0), .int .u8 (List.getD x.f_Src 4 0), .int .u8 (List.getD x.f_Src 5 0), .int .u8 (List.getD x.f_Src 6 0), .int .u8 (List.getD x.f_Src 7 0), .int .u8 (List.getD x.f_Src 8 0), .int .u8 (List.getD x.f_Src 9 0), .int .u8 (List.getD x.f_Src 10 0), .int .u8 (List.getD x.f_Src 11 0), .int .u8 (List.getD x.f_Src 12 0), .int .u8 (List.getD x.f_Src 13 0), .int .u8 (List.getD x.f_Src 14 0), .int .u8 (List.getD x.f_Src 15 0), .int .u8 (List.getD x.f_Dst 0 0), .int .u8 (List.getD x.f_Dst 1 0), .int .u8 (List.getD x.f_Dst 2 0), .int .u8 (List.getD x.f_Dst 3 0), .int .u8 (List.getD x.f_Dst 4 0), .int .u8 (List.getD x.f_Dst 5 0), .int .u8 (List.getD x.f_Dst 6 0), .int .u8 (List.getD x.f_Dst 7 0), .int .u8 (List.getD x.f_Dst 8 0), .int .u8 (List.getD x.f_Dst 9 0), .int .u8 (List.getD x.f_Dst 10 0), .int .u8 (List.getD x.f_Dst 11 0), .int .u8 (List.getD x.f_Dst 12 0), .int .u8 (List.getD x.f_Dst 13 0), .int .u8 (List.getD x.f_Dst 14 0), .int .u8 (List.getD x.f_Dst 15 0)]) (.agg #[.int .u8 y.f_Class, .int .u32 y.f_Flow, .int .u16 y.f_Length, .int .u8 y.f_Next, .int .u8 y.f_Hops, .int .u8 (List.getD y.f_Src 0 0), .int .u8 (List.getD y.f_Src 1 0), .int .u8 (List.getD y.f_Src 2 0), .int .u8 (List.getD y.f_Src 3 0), .int .u8 (List.getD y.f_Src 4 0), .int .u8 (List.getD y.f_Src 5 0), .int .u8 (List.getD y.f_Src 6 0), .int .u8 (List.getD y.f_Src 7 0), .int .u8 (List.getD y.f_Src 8 0), .int .u8 (List.getD y.f_Src 9 0), .int .u8 (List.getD y.f_Src 10 0), .int .u8 (List.getD y.f_Src 11 0), .int .u8 (List.getD y.f_Src 12 0), .int .u8 (List.getD y.f_Src 13 0), .int .u8 (List.getD y.f_Src 14 0), .int .u8 (List.getD y.f_Src 15 0), .int .u8 (List.getD y.f_Dst 0 0), .int .u8 (List.getD y.f_Dst 1 0), .int .u8 (List.getD y.f_Dst 2 0), .int .u8 (List.getD y.f_Dst 3 0), .int .u8 (List.getD y.f_Dst 4 0), .int .u8 (List.getD y.f_Dst 5 0), .int .u8 (List.getD y.f_Dst 6 0), .int .u8 (List.getD y.f_Dst 7 0), .int .u8 (List.getD y.f_Dst 8 0), .int .u8 (List.getD y.f_Dst 9 0), .int .u8 (List.getD y.f_Dst 10 0), .int .u8 (List.getD y.f_Dst 11 0), .int .u8 (List.getD y.f_Dst 12 0), .int .u8 (List.getD y.f_Dst 13 0), .int .u8 (List.getD y.f_Dst 14 0), .int .u8 (List.getD y.f_Dst 15 0)])).run Try.prog w = .ok (q_ipsix_Header x y) w :=
  (run_equalIn_agg w (d + 2) 52 _ _ (by kernel_rfl) (by kernel_rfl)).trans (EqT.run (tr := [(false, 5, 0), (false, 37, 1), (false, 36, 2), (false, 5, 3), (false, 5, 4), (false, 50, 5), (false, 50, 21)]) (by kernel_rfl) ⟨_, _, _, _, rfl, part_s sc5 rfl, part_s sc5 rfl, run_equalIn_int w (d + 1) 5 _ _ _ _ Try.underlying5, ⟨_, _, _, _, rfl, part_s sc37 rfl, part_s sc37 rfl, run_equalIn_int w (d + 1) 37 _ _ _ _ Try.underlying37, ⟨_, _, _, _, rfl, part_s sc36 rfl, part_s sc36 rfl, run_equalIn_int w (d + 1) 36 _ _ _ _ Try.underlying36, ⟨_, _, _, _, rfl, part_s sc5 rfl, part_s sc5 rfl, run_equalIn_int w (d + 1) 5 _ _ _ _ Try.underlying5, ⟨_, _, _, _, rfl, part_s sc5 rfl, part_s sc5 rfl, run_equalIn_int w (d + 1) 5 _ _ _ _ Try.underlying5, ⟨_, _, _, _, rfl, part_a (us := arrC 16 .u8 x.f_Src) ag50 rfl, part_a (us := arrC 16 .u8 y.f_Src) ag50 rfl, eq_arr' Try.underlying50 Try.underlying5 sz5 (d + 0) x.f_Src y.f_Src w, ⟨_, _, _, _, rfl, part_a (us := arrC 16 .u8 x.f_Dst) ag50 rfl, part_a (us := arrC 16 .u8 y.f_Dst) ag50 rfl, eq_arr' Try.underlying50 Try.underlying5 sz5 (d + 0) x.f_Dst y.f_Dst w, rfl, rfl⟩, rfl⟩, rfl⟩, rfl⟩, rfl⟩, rfl⟩, rfl⟩)
theorem Q52t (x y : T_ipsix_Header) {xs ys : List Value} (w : World) (hx : xs = [.int .u8 x.f_Class, .int .u32 x.f_Flow, .int .u16 x.f_Length, .int .u8 x.f_Next, .int .u8 x.f_Hops, .int .u8 (List.getD x.f_Src 0 0), .int .u8 (List.getD x.f_Src 1 0), .int .u8 (List.getD x.f_Src 2 0), .int .u8 (List.getD x.f_Src 3 0), .int .u8 (List.getD x.f_Src 4 0), .int .u8 (List.getD x.f_Src 5 0), .int .u8 (List.getD x.f_Src 6 0), .int .u8 (List.getD x.f_Src 7 0), .int .u8 (List.getD x.f_Src 8 0), .int .u8 (List.getD x.f_Src 9 0), .int .u8 (List.getD x.f_Src 10 0), .int .u8 (List.getD x.f_Src 11 0), .int .u8 (List.getD x.f_Src 12 0), .int .u8 (List.getD x.f_Src 13 0), .int .u8 (List.getD x.f_Src 14 0), .int .u8 (List.getD x.f_Src 15 0), .int .u8 (List.getD x.f_Dst 0 0), .int .u8 (List.getD x.f_Dst 1 0), .int .u8 (List.getD x.f_Dst 2 0), .int .u8 (List.getD x.f_Dst 3 0), .int .u8 (List.getD x.f_Dst 4 0), .int .u8 (List.getD x.f_Dst 5 0), .int .u8 (List.getD x.f_Dst 6 0), .int .u8 (List.getD x.f_Dst 7 0), .int .u8 (List.getD x.f_Dst 8 0), .int .u8 (List.getD x.f_Dst 9 0), .int .u8 (List.getD x.f_Dst 10 0), .int .u8 (List.getD x.f_Dst 11 0), .int .u8 (List.getD x.f_Dst 12 0), .int .u8 (List.getD x.f_Dst 13 0), .int .u8 (List.getD x.f_Dst 14 0), .int .u8 (List.getD x.f_Dst 15 0)]) (hy : ys = [.int .u8 y.f_Class, .int .u32 y.f_Flow, .int .u16 y.f_Length, .int .u8 y.f_Next, .int .u8 y.f_Hops, .int .u8 (List.getD y.f_Src 0 0), .int .u8 (List.getD y.f_Src 1 0), .int .u8 (List.getD y.f_Src 2 0), .int .u8 (List.getD y.f_Src 3 0), .int .u8 (List.getD y.f_Src 4 0), .int .u8 (List.getD y.f_Src 5 0), .int .u8 (List.getD y.f_Src 6 0), .int .u8 (List.getD y.f_Src 7 0), .int .u8 (List.getD y.f_Src 8 0), .int .u8 (List.getD y.f_Src 9 0), .int .u8 (List.getD y.f_Src 10 0), .int .u8 (List.getD y.f_Src 11 0), .int .u8 (List.getD y.f_Src 12 0), .int .u8 (List.getD y.f_Src 13 0), .int .u8 (List.getD y.f_Src 14 0), .int .u8 (List.getD y.f_Src 15 0), .int .u8 (List.getD y.f_Dst 0 0), .int .u8 (List.getD y.f_Dst 1 0), .int .u8 (List.getD y.f_Dst 2 0), .int .u8 (List.getD y.f_Dst 3 0), .int .u8 (List.getD y.f_Dst 4 0), .int .u8 (List.getD y.f_Dst 5 0), .int .u8 (List.getD y.f_Dst 6 0), .int .u8 (List.getD y.f_Dst 7 0), .int .u8 (List.getD y.f_Dst 8 0), .int .u8 (List.getD y.f_Dst 9 0), .int .u8 (List.getD y.f_Dst 10 0), .int .u8 (List.getD y.f_Dst 11 0), .int .u8 (List.getD y.f_Dst 12 0), .int .u8 (List.getD y.f_Dst 13 0), .int .u8 (List.getD y.f_Dst 14 0), .int .u8 (List.getD y.f_Dst 15 0)]) : (Op.equalIn 10000 52 (.agg xs.toArray) (.agg ys.toArray)).run Try.prog w = .ok (q_ipsix_Header x y) w := by
  subst hx; subst hy; exact Q52 9997 x y w
def R_ipsix_Ext (S : List (Option Nat)) (w : World) (x : T_ipsix_Ext) (cs : List Value) : Prop := ∃ (A0 : Option Addr) (c0 : Nat), cs = [.int .u8 x.f_Kind, .slice A0 (x.f_Data).length c0] ∧ Rd w A0 c0 1 x.f_Data.length (x.f_Data.flatMap (eI .u8)) ∧ Off S x.f_Data.length A0
theorem len_ipsix_Ext {S : List (Option Nat)} {w : World} : ∀ x cs, R_ipsix_Ext S w x cs → cs.length = 2 := fun x cs h => by
  obtain ⟨A0, c0, rfl, _⟩ := h
  rfl
theorem un_ipsix_Ext {S : List (Option Nat)} {w : World} {x : T_ipsix_Ext} {A0 : Option Addr} {c0 : Nat} (h : R_ipsix_Ext S w x [.int .u8 x.f_Kind, .slice A0 (x.f_Data).length c0]) : Rd w A0 c0 1 x.f_Data.length (x.f_Data.flatMap (eI .u8)) ∧ Off S x.f_Data.length A0 := by
  obtain ⟨A0', c0', h, h0, o0⟩ := h
  cases h
  exact ⟨h0, o0⟩
def RO_ipsix_Ext (x : T_ipsix_Ext) (cs : List Value) (os : List Ob) : Prop := ∃ (A0 : Option Addr) (c0 : Nat), cs = [.int .u8 x.f_Kind, .slice A0 (x.f_Data).length c0] ∧ os = [.row A0 c0 5 1 x.f_Data.length (x.f_Data.flatMap (eI .u8))]
theorem uo_ipsix_Ext : Un R_ipsix_Ext RO_ipsix_Ext := fun S w x cs os h hk => by
  obtain ⟨A0, c0, rfl, rfl⟩ := h
  exact ⟨A0, c0, rfl, Ob.rd (hk 0 _ rfl).1, Off.ofOb (hk 0 _ rfl)⟩
theorem io_ipsix_Ext {x : T_ipsix_Ext} {A0 : Option Addr} {c0 : Nat} {o : List Ob} (h : RO_ipsix_Ext x [.int .u8 x.f_Kind, .slice A0 (x.f_Data).length c0] o) : o = [.row A0 c0 5 1 x.f_Data.length (x.f_Data.flatMap (eI .u8))] := by
  obtain ⟨A0', c0', h, h2⟩ := h
  cases h
  exact h2
theorem mv_ipsix_Ext : Mv R_ipsix_Ext := fun S S' w w' x cs h hf ho => by
  obtain ⟨A0, c0, rfl, h0, o0⟩ := h
  exact ⟨A0, c0, rfl, h0.chg hf o0, ho _ _ _ _ _ h0 o0⟩
set_option maxRecDepth 100000 in
set_option maxHeartbeats 40000000 in
theorem c_law06_few (w : World) (cv1 : T_ipsix_Chain) (A2 : Option Addr) (c3 : Nat) (hr4 : RdD R_ipsix_Ext [] w A2 c3 2 cv1.f_Exts) (r : Bool) (hF : F_law06_few cv1 = some r) :
    CallsR Try.prog 8 [.agg #[.slice A2 (cv1.f_Exts).length c3, .int .u8 cv1.f_Proto]] w (fun v w' => v = .bool r ∧ Mem w [] w' []) := by
  refine calls_KC Try.func8 rfl Try.ntmps8 rfl ?_
  have hM := Mem.init w
  unfold F_law06_few at hF
  refine KC.seq ?_
  refine KC.region ?_
  refine RL.eff (E.box (vs := [.slice A2 (cv1.f_Exts).length c3, .int .u8 cv1.f_Proto]) hM rfl rfl) rfl fun v w6 hv => ?_
  clear hM
  obtain ⟨g5, rfl, hM, hf⟩ := hv
  refine RL.val (O.assign rfl) rfl ?_
  refine RL.nil ?_
  refine KQ.then_n ?_
  refine KC.seq ?_
  refine KC.seq ?_
  refine KC.region ?_
  refine RL.val (O.assign rfl) rfl ?_
  refine RL.nil ?_
  refine KQ.then_n ?_
  refine KC.block ?_
  refine KC.loop (fun k40 a w38 => ∃ (i37 : Int), Kn 27 [(1, .pointer (some ⟨g5, 0, none⟩)), (3, .int .i64 i37)] a ∧ Mem w [] w38 [.box g5 24 [.slice A2 (cv1.f_Exts).length c3, .int .u8 cv1.f_Proto]] ∧ F_law06_few_L1 cv1 k40 i37 = some r) ?_ ?_
  · exact fun a ha => ⟨fuel0, 0, ha.less (less_cons rfl (less_cons rfl less_nil)), hM, hF⟩
  · rintro k40 a w38 ⟨i37, ha, hM, hF⟩
    refine KC.app ha ?_
    clear ha
    cases k40 with
    | zero => exact (none_some hF).elim
    | succ k40 =>
    have hF : F_law06_few_l1 (F_law06_few_L1 cv1 k40) cv1 i37 = some r := hF
    unfold F_law06_few_l1 at hF
    refine KC.seq ?_
    refine KC.cut (fun a w43 => ∃ (t42 : Bool), Kn 27 [(1, .pointer (some ⟨g5, 0, none⟩)), (3, .int .i64 i37), (12, .bool t42)] a ∧ Mem w [] w43 [.box g5 24 [.slice A2 (cv1.f_Exts).length c3, .int .u8 cv1.f_Proto]] ∧ F_law06_few_j1 cv1 i37 (F_law06_few_L1 cv1 k40) t42 = some r) ?_ ?_
    · refine KC.region ?_
      refine RL.val (O.move rfl) rfl ?_
      refine RL.val (O.fldA fl24_0 (by decide) rfl) rfl ?_
      refine RL.val (O.load sc22 rfl (Cs.adds [0] ((hM.bx (i := 0) rfl)) rfl)) rfl ?_
      refine RL.val (O.len sl22 rfl) rfl ?_
      refine RL.val (O.lss rfl rfl) rfl ?_
      refine RL.val (O.move rfl) rfl ?_
      refine RL.bcase (t := 9) rfl (fun hc => ?_) (fun hc => ?_)
      · rw [if_pos hc] at hF
        refine RL.gval rfl rfl (O.move rfl) rfl ?_
        refine RL.gval rfl rfl (O.lss rfl rfl) rfl ?_
        refine RL.val (O.pickt rfl rfl) rfl ?_
        refine RL.nil ?_
        refine KQ.then_k ?_
        exact fun a ha => ⟨(decide (i37 < 21)), ha.less (less_cons rfl (less_cons rfl (less_cons rfl less_nil))), hM, hF⟩
      · rw [if_neg (ne_true hc)] at hF
        refine RL.gskip rfl rfl rfl rfl ?_
        refine RL.gskip rfl rfl rfl rfl ?_
        refine RL.val (O.pickf rfl rfl) rfl ?_
        refine RL.nil ?_
        refine KQ.then_k ?_
        exact fun a ha => ⟨false, ha.less (less_cons rfl (less_cons rfl (less_cons rfl less_nil))), hM, hF⟩
    · rintro a w43 ⟨t42, ha, hM, hF⟩
      refine KC.app ha ?_
      clear ha
      unfold F_law06_few_j1 at hF
      refine KC.cond rfl (fun hc => ?_) (fun hc => ?_)
      · rw [if_pos hc] at hF
        refine KC.skip ?_
        refine KQ.then_n ?_
        refine KC.seq ?_
        refine KC.block ?_
        refine KC.seq ?_
        refine KC.region ?_
        refine RL.val (O.fldA fl24_0 (by decide) rfl) rfl ?_
        refine RL.val (O.load sc22 rfl (Cs.adds [0] ((hM.bx (i := 0) rfl)) rfl)) rfl ?_
        refine RL.val (O.move rfl) rfl ?_
        refine obindE hF fun xv46 hx45 hF => ?_
        obtain ⟨cs49, hA44, hR47, hO48⟩ := RdD.at hr4 hx45
        obtain ⟨A50, c51, rfl, hr52, ho53⟩ := hR47
        have hA44 := hA44.chg hM.chg hO48
        refine RL.val (O.idxA sl22 (hA44) rfl rfl) rfl ?_
        refine RL.val (O.fldA fl63_1 (by decide) rfl) rfl ?_
        refine RL.val (O.load sc31 rfl (Cs.adds [1] (hA44).cells rfl)) rfl ?_
        refine RL.val (O.len sl31 rfl) rfl ?_
        refine RL.val (O.gtr rfl rfl) rfl ?_
        refine RL.nil ?_
        refine KQ.then_n ?_
        refine KC.cond rfl (fun hc => ?_) (fun hc => ?_)
        · rw [if_pos hc] at hF
          refine KC.seq ?_
          refine KC.region ?_
          refine RL.val (O.assign rfl) rfl ?_
          refine RL.nil ?_
          refine KQ.then_n ?_
          refine KC.ret ?_
          refine KQ.blk_r ?_
          refine KQ.then_r ?_
          refine KQ.then_r ?_
          refine KQ.blk_r ?_
          refine KQ.then_r ?_
          obtain rfl := Option.some.inj hF
          replace hM := hM.pick [] rfl (by decide)
          refine KQ.rets Try.results8 (RVs.cons (RV.tm rfl) RVs.nil) ?_
          exact ⟨_, rfl, rfl, hM⟩
        · rw [if_neg (ne_true hc)] at hF
          refine KC.skip ?_
          refine KQ.blk_n ?_
          refine KQ.then_n ?_
          refine KC.region ?_
          refine RL.val (O.move rfl) rfl ?_
          refine RL.val (O.add rfl rfl) rfl ?_
          refine RL.val (O.assign rfl) rfl ?_
          refine RL.nil ?_
          refine KQ.then_k ?_
          exact fun a ha => ⟨k40, Nat.lt_succ_self k40, (IntKind.i64.wrap (i37 + 1)), ha.less (less_cons rfl (less_cons rfl less_nil)), hM, hF⟩
      · rw [if_neg (ne_true hc)] at hF
        refine KC.exit ?_
        refine KQ.then_x ?_
        refine KQ.then_x ?_
        refine KQ.blk_x ?_
        refine KQ.then_n ?_
        refine KC.seq ?_
        refine KC.region ?_
        refine RL.val (O.fldA fl24_0 (by decide) rfl) rfl ?_
        refine RL.val (O.load sc22 rfl (Cs.adds [0] ((hM.bx (i := 0) rfl)) rfl)) rfl ?_
        refine RL.val (O.len sl22 rfl) rfl ?_
        refine RL.val (O.leq rfl rfl) rfl ?_
        refine RL.val (O.assign rfl) rfl ?_
        refine RL.nil ?_
        refine KQ.then_n ?_
        refine KC.ret ?_
        obtain rfl := Option.some.inj hF
        replace hM := hM.pick [] rfl (by decide)
        refine KQ.rets Try.results8 (RVs.cons (RV.tm rfl) RVs.nil) ?_
        exact ⟨_, rfl, rfl, hM⟩
set_option maxRecDepth 100000 in
set_option maxHeartbeats 40000000 in
theorem c_ipsix_behind (w : World) (kind1 : Int) (r : Bool) (hF : F_ipsix_behind kind1 = some r) :
    CallsR Try.prog 41 [.int .u8 kind1] w (fun v w' => v = .bool r ∧ Mem w [] w' []) := by
  refine calls_KC Try.func41 rfl Try.ntmps41 rfl ?_
  have hM := Mem.init w
  unfold F_ipsix_behind at hF
  refine KC.seq ?_
  refine KC.region ?_
  refine RL.val (O.assign rfl) rfl ?_
  refine RL.nil ?_
  refine KQ.then_n ?_
  refine KC.seq ?_
  refine KC.seq ?_
  refine KC.region ?_
  refine RL.val (O.move rfl) rfl ?_
  refine RL.nil ?_
  refine KQ.then_n ?_
  refine KC.block ?_
  refine KC.cut (fun a w3 => ∃ (t2 : Bool), Kn 9 [(4, .bool t2)] a ∧ Mem w [] w3 [] ∧ F_ipsix_behind_j1 t2 = some r) ?_ ?_
  · refine KC.seq ?_
    refine KC.region ?_
    refine RL.val (O.eql rfl rfl) rfl ?_
    refine RL.val (O.assign rfl) rfl ?_
    refine RL.nil ?_
    refine KQ.then_n ?_
    refine KC.cond rfl (fun hc => ?_) (fun hc => ?_)
    · rw [if_pos hc] at hF
      refine KC.skip ?_
      refine KQ.then_k ?_
      exact fun a ha => ⟨(kind1 == 0), ha.less (less_cons rfl less_nil), hM, hF⟩
    · rw [if_neg (ne_true hc)] at hF
      refine KC.seq ?_
      refine KC.region ?_
      refine RL.val (O.eql rfl rfl) rfl ?_
      refine RL.val (O.assign rfl) rfl ?_
      refine RL.nil ?_
      refine KQ.then_n ?_
      refine KC.cond rfl (fun hc => ?_) (fun hc => ?_)
      · rw [if_pos hc] at hF
        refine KC.skip ?_
        refine KQ.then_k ?_
        exact fun a ha => ⟨(kind1 == 43), ha.less (less_cons rfl less_nil), hM, hF⟩
      · rw [if_neg (ne_true hc)] at hF
        refine KC.seq ?_
        refine KC.region ?_
        refine RL.val (O.eql rfl rfl) rfl ?_
        refine RL.val (O.assign rfl) rfl ?_
        refine RL.nil ?_
        refine KQ.then_n ?_
        refine KC.cond rfl (fun hc => ?_) (fun hc => ?_)
        · rw [if_pos hc] at hF
          refine KC.skip ?_
          refine KQ.then_k ?_
          exact fun a ha => ⟨(kind1 == 44), ha.less (less_cons rfl less_nil), hM, hF⟩
        · rw [if_neg (ne_true hc)] at hF
          refine KC.region ?_
          refine RL.val (O.eql rfl rfl) rfl ?_
          refine RL.val (O.assign rfl) rfl ?_
          refine RL.nil ?_
          refine KQ.then_k ?_
          exact fun a ha => ⟨(kind1 == 60), ha.less (less_cons rfl less_nil), hM, hF⟩
  · rintro a w3 ⟨t2, ha, hM, hF⟩
    refine KC.app ha ?_
    clear ha
    unfold F_ipsix_behind_j1 at hF
    refine KC.cond rfl (fun hc => ?_) (fun hc => ?_)
    · rw [if_pos hc] at hF
      refine KC.seq ?_
      refine KC.region ?_
      refine RL.val (O.assign rfl) rfl ?_
      refine RL.nil ?_
      refine KQ.then_n ?_
      refine KC.ret ?_
      refine KQ.blk_r ?_
      refine KQ.then_r ?_
      obtain rfl := Option.some.inj hF
      refine KQ.rets Try.results41 (RVs.cons (RV.tm rfl) RVs.nil) ?_
      exact ⟨_, rfl, rfl, hM⟩
    · rw [if_neg (ne_true hc)] at hF
      refine KC.skip ?_
      refine KQ.blk_n ?_
      refine KQ.then_n ?_
      refine KC.seq ?_
      refine KC.region ?_
      refine RL.val (O.assign rfl) rfl ?_
      refine RL.nil ?_
      refine KQ.then_n ?_
      refine KC.ret ?_
      obtain rfl := Option.some.inj hF
      refine KQ.rets Try.results41 (RVs.cons (RV.tm rfl) RVs.nil) ?_
      exact ⟨_, rfl, rfl, hM⟩
set_option maxRecDepth 100000 in
set_option maxHeartbeats 40000000 in
theorem c_bits_right (w : World) (size1 : Int) (r : Bool) (hF : F_bits_right size1 = some r) :
    CallsR Try.prog 54 [.int .i64 size1] w (fun v w' => v = .bool r ∧ Mem w [] w' []) := by
  refine calls_KC Try.func54 rfl Try.ntmps54 rfl ?_
  have hM := Mem.init w
  unfold F_bits_right at hF
  refine KC.seq ?_
  refine KC.region ?_
  refine RL.val (O.assign rfl) rfl ?_
  refine RL.nil ?_
  refine KQ.then_n ?_
  refine KC.cut (fun a w3 => ∃ (t2 : Bool), Kn 9 [(2, .bool t2)] a ∧ Mem w [] w3 [] ∧ F_bits_right_j1 t2 = some r) ?_ ?_
  · refine KC.region ?_
    refine RL.val (O.move rfl) rfl ?_
    refine RL.val (O.geq rfl rfl) rfl ?_
    refine RL.val (O.move rfl) rfl ?_
    refine RL.bcase (t := 5) rfl (fun hc => ?_) (fun hc => ?_)
    · rw [if_pos hc] at hF
      refine RL.gval rfl rfl (O.move rfl) rfl ?_
      refine RL.gval rfl rfl (O.leq rfl rfl) rfl ?_
      refine RL.val (O.pickt rfl rfl) rfl ?_
      refine RL.val (O.assign rfl) rfl ?_
      refine RL.nil ?_
      refine KQ.then_k ?_
      exact fun a ha => ⟨(decide (size1 ≤ 8)), ha.less (less_cons rfl less_nil), hM, hF⟩
    · rw [if_neg (ne_true hc)] at hF
      refine RL.gskip rfl rfl rfl rfl ?_
      refine RL.gskip rfl rfl rfl rfl ?_
      refine RL.val (O.pickf rfl rfl) rfl ?_
      refine RL.val (O.assign rfl) rfl ?_
      refine RL.nil ?_
      refine KQ.then_k ?_
      exact fun a ha => ⟨false, ha.less (less_cons rfl less_nil), hM, hF⟩
  · rintro a w3 ⟨t2, ha, hM, hF⟩
    refine KC.app ha ?_
    clear ha
    unfold F_bits_right_j1 at hF
    refine KC.ret ?_
    obtain rfl := Option.some.inj hF
    refine KQ.rets Try.results54 (RVs.cons (RV.tm rfl) RVs.nil) ?_
    exact ⟨_, rfl, rfl, hM⟩
set_option maxRecDepth 100000 in
set_option maxHeartbeats 40000000 in
theorem c_bits_value (w : World) (A2 : Option Addr) (c3 : Nat) (b1 : List Int) (hr4 : Rd w A2 c3 1 b1.length (b1.flatMap (eI .u8))) (r : Int) (hF : F_bits_value b1 = some r) :
    CallsR Try.prog 55 [.slice A2 (b1).length c3] w (fun v w' => v = .int .u64 r ∧ Mem w [] w' []) := by
  refine calls_KC Try.func55 rfl Try.ntmps55 rfl ?_
  have hM := Mem.init w
  unfold F_bits_value at hF
  refine KC.seq ?_
  refine KC.region ?_
  refine RL.val (O.assign rfl) rfl ?_
  refine RL.nil ?_
  refine KQ.then_n ?_
  refine KC.seq ?_
  refine KC.seq ?_
  refine KC.region ?_
  refine RL.val (O.move rfl) rfl ?_
  refine RL.val (O.len sl31 rfl) rfl ?_
  refine RL.val (O.move rfl) rfl ?_
  refine RL.nil ?_
  refine KQ.then_n ?_
  refine KC.block ?_
  refine KC.loop (fun k17 a w15 => ∃ (v13 : Int) (t14 : Int), Kn 18 [(2, .int .u64 v13), (5, .slice A2 (b1).length c3), (6, .int .i64 (b1.length : Int)), (7, .int .i64 t14)] a ∧ Mem w [] w15 [] ∧ F_bits_value_L1 b1 k17 v13 t14 = some r) ?_ ?_
  · exact fun a ha => ⟨fuel0, 0, 0, ha.less (less_cons rfl (less_cons rfl (less_cons rfl (less_cons rfl less_nil)))), hM, hF⟩
  · rintro k17 a w15 ⟨v13, t14, ha, hM, hF⟩
    refine KC.app ha ?_
    clear ha
    cases k17 with
    | zero => exact (none_some hF).elim
    | succ k17 =>
    have hF : F_bits_value_l1 (F_bits_value_L1 b1 k17) b1 v13 t14 = some r := hF
    unfold F_bits_value_l1 at hF
    refine KC.seq ?_
    refine KC.region ?_
    refine RL.val (O.lss rfl rfl) rfl ?_
    refine RL.nil ?_
    refine KQ.then_n ?_
    refine KC.seq ?_
    refine KC.cond rfl (fun hc => ?_) (fun hc => ?_)
    · rw [if_pos hc] at hF
      refine KC.skip ?_
      refine KQ.then_n ?_
      refine KC.seq ?_
      refine KC.block ?_
      refine KC.seq ?_
      refine KC.region ?_
      refine obindE hF fun xv20 hx19 hF => ?_
      have hA18 := Rd.atN (f := (eI .u8)) (s := 1) (fun _ => rfl) (by decide) (hM.inp hr4 Off.nil) hx19
      refine RL.val (O.idxA sl31 (hA18) rfl rfl) rfl ?_
      refine RL.val (O.load sc5 rfl (hA18).cells.at0) rfl ?_
      refine RL.val (O.assign rfl) rfl ?_
      refine RL.nil ?_
      refine KQ.then_n ?_
      refine KC.region ?_
      refine RL.val (O.move rfl) rfl ?_
      refine RL.val (O.shl rfl rfl (by decide)) rfl ?_
      refine RL.val (O.move rfl) rfl ?_
      refine RL.val (O.conv un5 Try.underlying81 rfl) rfl ?_
      refine RL.val (O.or rfl rfl) rfl ?_
      refine RL.val (O.assign rfl) rfl ?_
      refine RL.nil ?_
      refine KQ.blk_n ?_
      refine KQ.then_n ?_
      refine KC.region ?_
      refine RL.val (O.add rfl rfl) rfl ?_
      refine RL.val (O.move rfl) rfl ?_
      refine RL.nil ?_
      refine KQ.then_k ?_
      exact fun a ha => ⟨k17, Nat.lt_succ_self k17, (bits .or .u64 (Ox.shl .u64 v13 8) (IntKind.u64.wrap xv20)), (IntKind.i64.wrap (t14 + 1)), ha.less (less_cons rfl (less_cons rfl (less_cons rfl (less_cons rfl less_nil)))), hM, hF⟩
    · rw [if_neg (ne_true hc)] at hF
      refine KC.exit ?_
      refine KQ.then_x ?_
      refine KQ.then_x ?_
      refine KQ.blk_x ?_
      refine KQ.then_n ?_
      refine KC.seq ?_
      refine KC.region ?_
      refine RL.val (O.move rfl) rfl ?_
      refine RL.val (O.assign rfl) rfl ?_
      refine RL.nil ?_
      refine KQ.then_n ?_
      refine KC.ret ?_
      obtain rfl := Option.some.inj hF
      refine KQ.rets Try.results55 (RVs.cons (RV.tm rfl) RVs.nil) ?_
      exact ⟨_, rfl, rfl, hM⟩
set_option maxRecDepth 100000 in
set_option maxHeartbeats 40000000 in
theorem c_bits_Get (w : World) (A2 : Option Addr) (c3 : Nat) (b1 : List Int) (hr4 : Rd w A2 c3 1 b1.length (b1.flatMap (eI .u8))) (atv5 : Int) (size6 : Int) (r : Int × Int) (hF : F_bits_Get b1 atv5 size6 = some r) :
    CallsR Try.prog 35 [.slice A2 (b1).length c3, .int .i64 atv5, .int .i64 size6] w (fun v w' => v = .tuple #[.int .u64 r.1, .int .i64 r.2] ∧ Mem w [] w' []) := by
  refine calls_KC Try.func35 rfl Try.ntmps35 rfl ?_
  have hM := Mem.init w
  unfold F_bits_Get at hF
  refine KC.seq ?_
  refine KC.region ?_
  refine RL.val (O.assign rfl) rfl ?_
  refine RL.val (O.assign rfl) rfl ?_
  refine RL.nil ?_
  refine KQ.then_n ?_
  refine KC.seq ?_
  refine KC.block ?_
  refine KC.cut (fun a w12 => ∃ (t11 : Bool), Kn 36 [(0, .slice A2 (b1).length c3), (1, .int .i64 atv5), (2, .int .i64 size6), (8, .bool t11)] a ∧ Mem w [] w12 [] ∧ F_bits_Get_j1 b1 atv5 size6 t11 = some r) ?_ ?_
  · refine KC.region ?_
    refine RL.val (O.move rfl) rfl ?_
    refine obindE hF fun y7 hx8 hF => ?_
    refine RL.call Try.func54 bd54 rfl rfl (c_bits_right _ size6 _ hx8) fun v w9 hv => ?_
    obtain ⟨rfl, hN10⟩ := hv
    replace hM := hM.call0 hN10
    refine RL.val (O.not rfl) rfl ?_
    refine RL.val (O.move rfl) rfl ?_
    refine RL.bcase (t := 12) rfl (fun hc => ?_) (fun hc => ?_)
    · rw [if_pos hc] at hF
      refine RL.gskip rfl rfl rfl rfl ?_
      refine RL.gskip rfl rfl rfl rfl ?_
      refine RL.val (O.pickt rfl rfl) rfl ?_
      refine RL.val (O.assign rfl) rfl ?_
      refine RL.nil ?_
      refine KQ.then_k ?_
      exact fun a ha => ⟨true, ha.less (less_cons rfl (less_cons rfl (less_cons rfl (less_cons rfl less_nil)))), hM, hF⟩
    · rw [if_neg (ne_true hc)] at hF
      refine RL.gval rfl rfl (O.move rfl) rfl ?_
      refine RL.gval rfl rfl (O.lss rfl rfl) rfl ?_
      refine RL.val (O.pickf rfl rfl) rfl ?_
      refine RL.val (O.assign rfl) rfl ?_
      refine RL.nil ?_
      refine KQ.then_k ?_
      exact fun a ha => ⟨(decide (atv5 < 0)), ha.less (less_cons rfl (less_cons rfl (less_cons rfl (less_cons rfl less_nil)))), hM, hF⟩
  · rintro a w12 ⟨t11, ha, hM, hF⟩
    refine KC.app ha ?_
    clear ha
    unfold F_bits_Get_j1 at hF
    refine KC.cond rfl (fun hc => ?_) (fun hc => ?_)
    · rw [if_pos hc] at hF
      refine KC.seq ?_
      refine KC.region ?_
      refine RL.val (O.assign rfl) rfl ?_
      refine RL.val (O.assign rfl) rfl ?_
      refine RL.nil ?_
      refine KQ.then_n ?_
      refine KC.ret ?_
      refine KQ.blk_r ?_
      refine KQ.then_r ?_
      obtain rfl := Option.some.inj hF
      refine KQ.rets Try.results35 (RVs.cons (RV.tm rfl) (RVs.cons (RV.tm rfl) RVs.nil)) ?_
      exact ⟨_, rfl, rfl, hM⟩
    · rw [if_neg (ne_true hc)] at hF
      refine KC.cut (fun a w14 => ∃ (t13 : Bool), Kn 36 [(0, .slice A2 (b1).length c3), (1, .int .i64 atv5), (2, .int .i64 size6), (16, .bool t13)] a ∧ Mem w [] w14 [] ∧ F_bits_Get_j2 b1 atv5 size6 t13 = some r) ?_ ?_
      · refine KC.region ?_
        refine RL.val (O.move rfl) rfl ?_
        refine RL.val (O.move rfl) rfl ?_
        refine RL.val (O.len sl31 rfl) rfl ?_
        refine RL.val (O.gtr rfl rfl) rfl ?_
        refine RL.val (O.move rfl) rfl ?_
        refine RL.bcase (t := 21) rfl (fun hc => ?_) (fun hc => ?_)
        · rw [if_pos hc] at hF
          refine RL.brun1 7 28 true (by kernel_rfl) ?_
          refine RL.val (O.assign rfl) rfl ?_
          refine RL.nil ?_
          refine KQ.then_k ?_
          exact fun a ha => ⟨true, ha.less (less_cons rfl (less_cons rfl (less_cons rfl (less_cons rfl less_nil)))), hM, hF⟩
        · rw [if_neg (ne_true hc)] at hF
          refine RL.gval rfl rfl (O.move rfl) rfl ?_
          refine RL.gval rfl rfl (O.len sl31 rfl) rfl ?_
          refine RL.gval rfl rfl (O.move rfl) rfl ?_
          refine RL.gval rfl rfl (O.sub rfl rfl) rfl ?_
          refine RL.gval rfl rfl (O.move rfl) rfl ?_
          refine RL.gval rfl rfl (O.lss rfl rfl) rfl ?_
          refine RL.val (O.pickf rfl rfl) rfl ?_
          refine RL.val (O.assign rfl) rfl ?_
          refine RL.nil ?_
          refine KQ.then_k ?_
          exact fun a ha => ⟨(decide ((IntKind.i64.wrap ((b1.length : Int) - atv5)) < size6)), ha.less (less_cons rfl (less_cons rfl (less_cons rfl (less_cons rfl less_nil)))), hM, hF⟩
      · rintro a w14 ⟨t13, ha, hM, hF⟩
        refine KC.app ha ?_
        clear ha
        unfold F_bits_Get_j2 at hF
        refine KC.cond rfl (fun hc => ?_) (fun hc => ?_)
        · rw [if_pos hc] at hF
          refine KC.seq ?_
          refine KC.region ?_
          refine RL.val (O.assign rfl) rfl ?_
          refine RL.val (O.assign rfl) rfl ?_
          refine RL.nil ?_
          refine KQ.then_n ?_
          refine KC.ret ?_
          refine KQ.blk_r ?_
          refine KQ.then_r ?_
          obtain rfl := Option.some.inj hF
          refine KQ.rets Try.results35 (RVs.cons (RV.tm rfl) (RVs.cons (RV.tm rfl) RVs.nil)) ?_
          exact ⟨_, rfl, rfl, hM⟩
        · rw [if_neg (ne_true hc)] at hF
          refine KC.skip ?_
          refine KQ.blk_n ?_
          refine KQ.then_n ?_
          refine KC.seq ?_
          refine KC.region ?_
          refine RL.val (O.move rfl) rfl ?_
          refine RL.val (O.move rfl) rfl ?_
          refine RL.val (O.move rfl) rfl ?_
          refine RL.val (O.move rfl) rfl ?_
          refine RL.val (O.add rfl rfl) rfl ?_
          refine obindE hF fun cut15 hy16 hF => ?_
          obtain ⟨A17, c18, eA20, ec21⟩ := cutN A2 c3 (Int.toNat atv5) 1
          have hr19 := Rd.cutT (enc := (eI .u8)) (s := 1) (fun _ => rfl) hr4 hy16 (m := c3) (by have := hr4.cap; have := (gcut_some hy16).2.2.1; omega) (Nat.le_refl _)
          rw [← eA20, ← ec21] at hr19
          refine RL.val (v := .slice A17 (cut15).length c18) (by rw [eA20, ec21]; exact O.cutT sl31 (hM.inp hr4 Off.nil) hy16 rfl rfl rfl) rfl ?_
          refine obindE hF fun y22 hx23 hF => ?_
          refine RL.call Try.func55 bd55 rfl rfl (c_bits_value _ _ _ cut15 (hM.inp hr19 Off.nil) _ hx23) fun v w24 hv => ?_
          obtain ⟨rfl, hN25⟩ := hv
          replace hM := hM.call0 hN25
          refine RL.val (O.assign rfl) rfl ?_
          refine RL.val (O.assign rfl) rfl ?_
          refine RL.nil ?_
          refine KQ.then_n ?_
          refine KC.ret ?_
          obtain rfl := Option.some.inj hF
          refine KQ.rets Try.results35 (RVs.cons (RV.tm rfl) (RVs.cons (RV.tm rfl) RVs.nil)) ?_
          exact ⟨_, rfl, rfl, hM⟩
set_option maxRecDepth 100000 in
set_option maxHeartbeats 40000000 in
theorem c_ipsix_Ext_says (w : World) (xv1 : T_ipsix_Ext) (A2 : Option Addr) (c3 : Nat) (hr4 : Rd w A2 c3 1 xv1.f_Data.length (xv1.f_Data.flatMap (eI .u8))) (r : Int × Int × Bool) (hF : F_ipsix_Ext_says xv1 = some r) :
    CallsR Try.prog 34 [.agg #[.int .u8 xv1.f_Kind, .slice A2 (xv1.f_Data).length c3]] w (fun v w' => v = .tuple #[.int .u16 r.1, .int .u8 r.2.1, .bool r.2.2] ∧ Mem w [] w' []) := by
  refine calls_KC Try.func34 rfl Try.ntmps34 rfl ?_
  have hM := Mem.init w
  unfold F_ipsix_Ext_says at hF
  refine KC.seq ?_
  refine KC.region ?_
  refine RL.eff (E.box (vs := [.int .u8 xv1.f_Kind, .slice A2 (xv1.f_Data).length c3]) hM rfl rfl) rfl fun v w6 hv => ?_
  clear hM
  obtain ⟨g5, rfl, hM, hf⟩ := hv
  refine RL.val (O.assign rfl) rfl ?_
  refine RL.val (O.assign rfl) rfl ?_
  refine RL.val (O.assign rfl) rfl ?_
  refine RL.nil ?_
  refine KQ.then_n ?_
  refine KC.seq ?_
  refine KC.region ?_
  refine RL.val (O.fldA fl63_1 (by decide) rfl) rfl ?_
  refine RL.val (O.load sc31 rfl (Cs.adds [1] ((hM.bx (i := 0) rfl)) rfl)) rfl ?_
  refine obindE hF fun y8 hx9 hF => ?_
  refine RL.call Try.func35 bd35 rfl rfl (c_bits_Get _ _ _ xv1.f_Data (hM.inp hr4 Off.nil) 0 2 _ hx9) fun v w10 hv => ?_
  obtain ⟨rfl, hN11⟩ := hv
  replace hM := hM.call0 hN11
  refine RL.val (O.move rfl) rfl ?_
  refine RL.val (O.ext rfl rfl) rfl ?_
  refine RL.val (O.ext rfl rfl) rfl ?_
  refine RL.val (O.assign rfl) rfl ?_
  refine RL.val (O.assign rfl) rfl ?_
  refine RL.nil ?_
  refine KQ.then_n ?_
  refine KC.seq ?_
  refine KC.region ?_
  refine RL.val (O.move rfl) rfl ?_
  refine RL.val (O.shr rfl rfl (by decide)) rfl ?_
  refine RL.val (O.conv un81 Try.underlying36 rfl) rfl ?_
  refine RL.val (O.move rfl) rfl ?_
  refine RL.val (O.shr rfl rfl (by decide)) rfl ?_
  refine RL.val (O.and rfl rfl) rfl ?_
  refine RL.val (O.conv un81 Try.underlying5 rfl) rfl ?_
  refine RL.val (O.move rfl) rfl ?_
  refine RL.val (O.and rfl rfl) rfl ?_
  refine RL.val (O.eql rfl rfl) rfl ?_
  refine RL.val (O.assign rfl) rfl ?_
  refine RL.val (O.assign rfl) rfl ?_
  refine RL.val (O.assign rfl) rfl ?_
  refine RL.nil ?_
  refine KQ.then_n ?_
  refine KC.ret ?_
  obtain rfl := Option.some.inj hF
  replace hM := hM.pick [] rfl (by decide)
  refine KQ.rets Try.results34 (RVs.cons (RV.tm rfl) (RVs.cons (RV.tm rfl) (RVs.cons (RV.tm rfl) RVs.nil))) ?_
  exact ⟨_, rfl, rfl, hM⟩
set_option maxRecDepth 100000 in
set_option maxHeartbeats 40000000 in
theorem c_ipsix_Ext_right (w : World) (xv1 : T_ipsix_Ext) (A2 : Option Addr) (c3 : Nat) (hr4 : Rd w A2 c3 1 xv1.f_Data.length (xv1.f_Data.flatMap (eI .u8))) (r : Bool) (hF : F_ipsix_Ext_right xv1 = some r) :
    CallsR Try.prog 39 [.agg #[.int .u8 xv1.f_Kind, .slice A2 (xv1.f_Data).length c3]] w (fun v w' => v = .bool r ∧ Mem w [] w' []) := by
  refine calls_KC Try.func39 rfl Try.ntmps39 rfl ?_
  have hM := Mem.init w
  unfold F_ipsix_Ext_right at hF
  refine KC.seq ?_
  refine KC.region ?_
  refine RL.eff (E.box (vs := [.int .u8 xv1.f_Kind, .slice A2 (xv1.f_Data).length c3]) hM rfl rfl) rfl fun v w6 hv => ?_
  clear hM
  obtain ⟨g5, rfl, hM, hf⟩ := hv
  refine RL.val (O.assign rfl) rfl ?_
  refine RL.nil ?_
  refine KQ.then_n ?_
  refine KC.seq ?_
  refine KC.region ?_
  refine RL.val (O.fldA fl63_1 (by decide) rfl) rfl ?_
  refine RL.val (O.load sc31 rfl (Cs.adds [1] ((hM.bx (i := 0) rfl)) rfl)) rfl ?_
  refine RL.val (O.len sl31 rfl) rfl ?_
  refine RL.val (O.assign rfl) rfl ?_
  refine RL.nil ?_
  refine KQ.then_n ?_
  refine KC.seq ?_
  refine KC.seq ?_
  refine KC.region ?_
  refine RL.val (O.fldA fl63_0 (by decide) rfl) rfl ?_
  refine RL.val (O.load sc5 rfl (Cs.adds [0] ((hM.bx (i := 0) rfl)) rfl)) rfl ?_
  refine RL.val (O.neq rfl rfl) rfl ?_
  refine RL.nil ?_
  refine KQ.then_n ?_
  refine KC.cond rfl (fun hc => ?_) (fun hc => ?_)
  · rw [if_pos hc] at hF
    refine KC.cut (fun a w13 => ∃ (t12 : Bool), Kn 37 [(2, .bool t12)] a ∧ Mem w [] w13 [] ∧ F_ipsix_Ext_right_j1 t12 = some r) ?_ ?_
    · refine KC.region ?_
      refine RL.val (O.fldA fl63_0 (by decide) rfl) rfl ?_
      refine RL.val (O.load sc5 rfl (Cs.adds [0] ((hM.bx (i := 0) rfl)) rfl)) rfl ?_
      refine obindE hF fun y8 hx9 hF => ?_
      refine RL.call Try.func41 bd41 rfl rfl (c_ipsix_behind _ xv1.f_Kind _ hx9) fun v w10 hv => ?_
      obtain ⟨rfl, hN11⟩ := hv
      replace hM := hM.call0 hN11
      refine RL.val (O.move rfl) rfl ?_
      refine RL.bcase (t := 16) rfl (fun hc => ?_) (fun hc => ?_)
      · rw [if_pos hc] at hF
        refine RL.gval rfl rfl (O.move rfl) rfl ?_
        refine RL.gval rfl rfl (O.rem rfl rfl (by decide)) rfl ?_
        refine RL.gval rfl rfl (O.eql rfl rfl) rfl ?_
        refine RL.val (O.pickt rfl rfl) rfl ?_
        refine RL.val (O.move rfl) rfl ?_
        refine RL.bcase (t := 21) rfl (fun hc => ?_) (fun hc => ?_)
        · rw [if_pos hc] at hF
          refine RL.gval rfl rfl (O.move rfl) rfl ?_
          refine RL.gval rfl rfl (O.leq rfl rfl) rfl ?_
          refine RL.val (O.pickt rfl rfl) rfl ?_
          refine RL.val (O.assign rfl) rfl ?_
          refine RL.nil ?_
          refine KQ.then_k ?_
          replace hM := hM.pick [] rfl (by decide)
          exact fun a ha => ⟨(decide ((xv1.f_Data.length : Int) ≤ 2046)), ha.less (less_cons rfl less_nil), hM, hF⟩
        · rw [if_neg (ne_true hc)] at hF
          refine RL.gskip rfl rfl rfl rfl ?_
          refine RL.gskip rfl rfl rfl rfl ?_
          refine RL.val (O.pickf rfl rfl) rfl ?_
          refine RL.val (O.assign rfl) rfl ?_
          refine RL.nil ?_
          refine KQ.then_k ?_
          replace hM := hM.pick [] rfl (by decide)
          exact fun a ha => ⟨false, ha.less (less_cons rfl less_nil), hM, hF⟩
      · rw [if_neg (ne_true hc)] at hF
        refine RL.brun1 8 24 false (by kernel_rfl) ?_
        refine RL.val (O.assign rfl) rfl ?_
        refine RL.nil ?_
        refine KQ.then_k ?_
        replace hM := hM.pick [] rfl (by decide)
        exact fun a ha => ⟨false, ha.less (less_cons rfl less_nil), hM, hF⟩
    · rintro a w13 ⟨t12, ha, hM, hF⟩
      refine KC.app ha ?_
      clear ha
      unfold F_ipsix_Ext_right_j1 at hF
      refine KC.ret ?_
      refine KQ.then_r ?_
      obtain rfl := Option.some.inj hF
      refine KQ.rets Try.results39 (RVs.cons (RV.tm rfl) RVs.nil) ?_
      exact ⟨_, rfl, rfl, hM⟩
  · rw [if_neg (ne_true hc)] at hF
    refine KC.skip ?_
    refine KQ.then_n ?_
    refine KC.seq ?_
    refine KC.region ?_
    refine RL.val (O.loadN (cs := [.int .u8 xv1.f_Kind, .slice A2 (xv1.f_Data).length c3]) ag63 rfl (Cs.addsN [] ((hM.bx (i := 0) rfl)) rfl)) rfl ?_
    refine obindE hF fun y14 hx15 hF => ?_
    refine RL.call Try.func34 bd34 rfl rfl (c_ipsix_Ext_says _ xv1 _ _ (hM.inp hr4 Off.nil) _ hx15) fun v w16 hv => ?_
    obtain ⟨rfl, hN17⟩ := hv
    replace hM := hM.call0 hN17
    refine RL.val (O.move rfl) rfl ?_
    refine RL.val (O.ext rfl rfl) rfl ?_
    refine RL.val (O.ext rfl rfl) rfl ?_
    refine RL.val (O.ext rfl rfl) rfl ?_
    refine RL.val (O.assign rfl) rfl ?_
    refine RL.val (O.assign rfl) rfl ?_
    refine RL.val (O.assign rfl) rfl ?_
    refine RL.nil ?_
    refine KQ.then_n ?_
    refine KC.cut (fun a w19 => ∃ (t18 : Bool), Kn 37 [(2, .bool t18)] a ∧ Mem w [] w19 [] ∧ F_ipsix_Ext_right_j2 t18 = some r) ?_ ?_
    · refine KC.region ?_
      refine RL.val (O.move rfl) rfl ?_
      refine RL.val (O.eql rfl rfl) rfl ?_
      refine RL.val (O.move rfl) rfl ?_
      refine RL.bcase (t := 33) rfl (fun hc => ?_) (fun hc => ?_)
      · rw [if_pos hc] at hF
        refine RL.gval rfl rfl (O.move rfl) rfl ?_
        refine RL.gval rfl rfl (O.eql rfl rfl) rfl ?_
        refine RL.val (O.pickt rfl rfl) rfl ?_
        refine RL.val (O.assign rfl) rfl ?_
        refine RL.nil ?_
        refine KQ.then_k ?_
        replace hM := hM.pick [] rfl (by decide)
        exact fun a ha => ⟨(y14.2.1 == 0), ha.less (less_cons rfl less_nil), hM, hF⟩
      · rw [if_neg (ne_true hc)] at hF
        refine RL.gskip rfl rfl rfl rfl ?_
        refine RL.gskip rfl rfl rfl rfl ?_
        refine RL.val (O.pickf rfl rfl) rfl ?_
        refine RL.val (O.assign rfl) rfl ?_
        refine RL.nil ?_
        refine KQ.then_k ?_
        replace hM := hM.pick [] rfl (by decide)
        exact fun a ha => ⟨false, ha.less (less_cons rfl less_nil), hM, hF⟩
    · rintro a w19 ⟨t18, ha, hM, hF⟩
      refine KC.app ha ?_
      clear ha
      unfold F_ipsix_Ext_right_j2 at hF
      refine KC.ret ?_
      obtain rfl := Option.some.inj hF
      refine KQ.rets Try.results39 (RVs.cons (RV.tm rfl) RVs.nil) ?_
      exact ⟨_, rfl, rfl, hM⟩
set_option maxRecDepth 100000 in
set_option maxHeartbeats 40000000 in
theorem c_ipsix_Right_1 (w : World) (xv1 : T_ipsix_Ext) (A2 : Option Addr) (c3 : Nat) (hr4 : Rd w A2 c3 1 xv1.f_Data.length (xv1.f_Data.flatMap (eI .u8))) (r : Bool) (hF : F_ipsix_Right_1 xv1 = some r) :
    CallsR Try.prog 38 [.agg #[.int .u8 xv1.f_Kind, .slice A2 (xv1.f_Data).length c3]] w (fun v w' => v = .bool r ∧ Mem w [] w' []) := by
  refine calls_KC Try.func38 rfl Try.ntmps38 rfl ?_
  have hM := Mem.init w
  unfold F_ipsix_Right_1 at hF
  refine KC.seq ?_
  refine KC.region ?_
  refine RL.eff (E.box (vs := [.int .u8 xv1.f_Kind, .slice A2 (xv1.f_Data).length c3]) hM rfl rfl) rfl fun v w6 hv => ?_
  clear hM
  obtain ⟨g5, rfl, hM, hf⟩ := hv
  refine RL.val (O.assign rfl) rfl ?_
  refine RL.nil ?_
  refine KQ.then_n ?_
  refine KC.seq ?_
  refine KC.region ?_
  refine RL.val (O.loadN (cs := [.int .u8 xv1.f_Kind, .slice A2 (xv1.f_Data).length c3]) ag63 rfl (Cs.addsN [] ((hM.bx (i := 0) rfl)) rfl)) rfl ?_
  refine obindE hF fun y8 hx9 hF => ?_
  refine RL.call Try.func39 bd39 rfl rfl (c_ipsix_Ext_right _ xv1 _ _ (hM.inp hr4 Off.nil) _ hx9) fun v w10 hv => ?_
  obtain ⟨rfl, hN11⟩ := hv
  replace hM := hM.call0 hN11
  refine RL.val (O.not rfl) rfl ?_
  refine RL.val (O.assign rfl) rfl ?_
  refine RL.nil ?_
  refine KQ.then_n ?_
  refine KC.ret ?_
  obtain rfl := Option.some.inj hF
  replace hM := hM.pick [] rfl (by decide)
  refine KQ.rets Try.results38 (RVs.cons (RV.tm rfl) RVs.nil) ?_
  exact ⟨_, rfl, rfl, hM⟩
set_option maxRecDepth 100000 in
set_option maxHeartbeats 40000000 in
theorem c_slices_IndexFunc_ipsix_Ext_ipsix_Ext_fipsix_Right_1 (w : World) (A2 : Option Addr) (c3 : Nat) (s1 : List T_ipsix_Ext) (hr4 : RdD R_ipsix_Ext [] w A2 c3 2 s1) (r : Int) (hF : F_slices_IndexFunc_ipsix_Ext_ipsix_Ext_fipsix_Right_1 s1 = some r) :
    CallsR Try.prog 32 [.slice A2 (s1).length c3, .func (.func 38) #[] #[]] w (fun v w' => v = .int .i64 r ∧ Mem w [] w' []) := by
  refine calls_KC Try.func32 rfl Try.ntmps32 rfl ?_
  have hM := Mem.init w
  unfold F_slices_IndexFunc_ipsix_Ext_ipsix_Ext_fipsix_Right_1 at hF
  refine KC.seq ?_
  refine KC.region ?_
  refine RL.val (O.assign rfl) rfl ?_
  refine RL.nil ?_
  refine KQ.then_n ?_
  refine KC.seq ?_
  refine KC.seq ?_
  refine KC.region ?_
  refine RL.val (O.move rfl) rfl ?_
  refine RL.val (O.len sl22 rfl) rfl ?_
  refine RL.val (O.move rfl) rfl ?_
  refine RL.nil ?_
  refine KQ.then_n ?_
  refine KC.block ?_
  refine KC.loop (fun k37 a w35 => ∃ (t34 : Int), Kn 19 [(0, .slice A2 (s1).length c3), (1, .func (.func 38) #[] #[]), (7, .int .i64 (s1.length : Int)), (8, .int .i64 t34)] a ∧ Mem w [] w35 [] ∧ F_slices_IndexFunc_ipsix_Ext_ipsix_Ext_fipsix_Right_1_L1 s1 k37 t34 = some r) ?_ ?_
  · exact fun a ha => ⟨fuel0, 0, ha.less (less_cons rfl (less_cons rfl (less_cons rfl (less_cons rfl less_nil)))), hM, hF⟩
  · rintro k37 a w35 ⟨t34, ha, hM, hF⟩
    refine KC.app ha ?_
    clear ha
    cases k37 with
    | zero => exact (none_some hF).elim
    | succ k37 =>
    have hF : F_slices_IndexFunc_ipsix_Ext_ipsix_Ext_fipsix_Right_1_l1 (F_slices_IndexFunc_ipsix_Ext_ipsix_Ext_fipsix_Right_1_L1 s1 k37) s1 t34 = some r := hF
    unfold F_slices_IndexFunc_ipsix_Ext_ipsix_Ext_fipsix_Right_1_l1 at hF
    refine KC.seq ?_
    refine KC.region ?_
    refine RL.val (O.lss rfl rfl) rfl ?_
    refine RL.nil ?_
    refine KQ.then_n ?_
    refine KC.seq ?_
    refine KC.cond rfl (fun hc => ?_) (fun hc => ?_)
    · rw [if_pos hc] at hF
      refine KC.skip ?_
      refine KQ.then_n ?_
      refine KC.seq ?_
      refine KC.block ?_
      refine KC.seq ?_
      refine KC.region ?_
      refine RL.val (O.move rfl) rfl ?_
      refine RL.val (O.assign rfl) rfl ?_
      refine RL.nil ?_
      refine KQ.then_n ?_
      refine KC.seq ?_
      refine KC.region ?_
      refine RL.val (O.move rfl) rfl ?_
      refine RL.val (O.move rfl) rfl ?_
      refine RL.val (O.move rfl) rfl ?_
      refine obindE hF fun xv40 hx39 hF => ?_
      obtain ⟨cs43, hA38, hR41, hO42⟩ := RdD.at hr4 hx39
      obtain ⟨A44, c45, rfl, hr46, ho47⟩ := hR41
      have hA38 := hA38.chg hM.chg hO42
      refine RL.val (O.idxA sl22 (hA38) rfl rfl) rfl ?_
      refine RL.val (O.loadN (cs := [.int .u8 xv40.f_Kind, .slice A44 (xv40.f_Data).length c45]) ag63 rfl (hA38).cells) rfl ?_
      refine obindE hF fun y48 hx49 hF => ?_
      refine RL.callv (first := []) (captured := []) rfl Try.func38 bd38 rfl rfl (c_ipsix_Right_1 _ xv40 _ _ (hM.inp hr46 Off.nil) _ hx49) fun v w50 hv => ?_
      obtain ⟨rfl, hN51⟩ := hv
      replace hM := hM.call0 hN51
      refine RL.nil ?_
      refine KQ.then_n ?_
      refine KC.cond rfl (fun hc => ?_) (fun hc => ?_)
      · rw [if_pos hc] at hF
        refine KC.seq ?_
        refine KC.region ?_
        refine RL.val (O.move rfl) rfl ?_
        refine RL.val (O.assign rfl) rfl ?_
        refine RL.nil ?_
        refine KQ.then_n ?_
        refine KC.ret ?_
        refine KQ.blk_r ?_
        refine KQ.then_r ?_
        refine KQ.then_r ?_
        refine KQ.blk_r ?_
        refine KQ.then_r ?_
        obtain rfl := Option.some.inj hF
        refine KQ.rets Try.results32 (RVs.cons (RV.tm rfl) RVs.nil) ?_
        exact ⟨_, rfl, rfl, hM⟩
      · rw [if_neg (ne_true hc)] at hF
        refine KC.skip ?_
        refine KQ.blk_n ?_
        refine KQ.then_n ?_
        refine KC.region ?_
        refine RL.val (O.add rfl rfl) rfl ?_
        refine RL.val (O.move rfl) rfl ?_
        refine RL.nil ?_
        refine KQ.then_k ?_
        exact fun a ha => ⟨k37, Nat.lt_succ_self k37, (IntKind.i64.wrap (t34 + 1)), ha.less (less_cons rfl (less_cons rfl (less_cons rfl (less_cons rfl less_nil)))), hM, hF⟩
    · rw [if_neg (ne_true hc)] at hF
      refine KC.exit ?_
      refine KQ.then_x ?_
      refine KQ.then_x ?_
      refine KQ.blk_x ?_
      refine KQ.then_n ?_
      refine KC.seq ?_
      refine KC.region ?_
      refine RL.val (O.assign rfl) rfl ?_
      refine RL.nil ?_
      refine KQ.then_n ?_
      refine KC.ret ?_
      obtain rfl := Option.some.inj hF
      refine KQ.rets Try.results32 (RVs.cons (RV.tm rfl) RVs.nil) ?_
      exact ⟨_, rfl, rfl, hM⟩
end Go.Proofs.Ytikjomacnbemhaa
