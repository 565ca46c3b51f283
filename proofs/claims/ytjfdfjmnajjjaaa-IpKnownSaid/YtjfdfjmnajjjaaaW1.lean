/- Printed by a program of this claim: each call returns what the plain function of its name gives. -/
import Derived.Test.YtjfdfjmnajjjaaaRows
import Derived.Test.YtjfdfjmnajjjaaaF
set_option linter.unusedVariables false
namespace Go.Proofs.Ytjfdfjmnajjjaaa
open Go Go.Ox Go.RowKit
theorem sl22 : SliceT Try.prog 22 5 1 1 := ⟨Try.underlying22, by kernel_rfl⟩
theorem bt39 : BuildT Try.prog 39 [(0, 1), (1, 1), (2, 1), (3, 1), (4, 1), (5, 1), (6, 1), (7, 1), (8, 4), (12, 4), (16, 1)] [.int .u8 0, .int .u16 0, .int .u16 0, .bool false, .bool false, .int .u16 0, .int .u8 0, .int .u8 0, .int .u8 0, .int .u8 0, .int .u8 0, .int .u8 0, .int .u8 0, .int .u8 0, .int .u8 0, .int .u8 0, .slice none 0 0] := ⟨by kernel_rfl, by unfold ZeroT; kernel_rfl⟩
theorem ag39 : isAggT Try.prog 39 17 = true := by kernel_rfl
theorem fl39_5 : FieldT Try.prog 39 5 5 36 1 := ⟨by kernel_rfl, by kernel_rfl⟩
theorem sc36 : isScalar Try.prog 36 = true := by kernel_rfl
theorem fl39_10 : FieldT Try.prog 39 10 16 22 1 := ⟨by kernel_rfl, by kernel_rfl⟩
theorem sc22 : isScalar Try.prog 22 = true := by kernel_rfl
theorem fl39_1 : FieldT Try.prog 39 1 1 36 1 := ⟨by kernel_rfl, by kernel_rfl⟩
theorem un36 : (Try.prog.underlying 36).isSome = true := by kernel_rfl
theorem bd31 : (!(Try.f31.name == "runtime.NumGoroutine") && !Try.f31.body.isNone) = true := by kernel_rfl
theorem moP : Try.prog.follows .mixedOrders = true := by kernel_rfl
theorem bd15 : (!(Try.f15.name == "runtime.NumGoroutine") && !Try.f15.body.isNone) = true := by kernel_rfl
theorem bt68 : BuildT Try.prog 68 [(0, 1)] [.slice none 0 0] := ⟨by kernel_rfl, by unfold ZeroT; kernel_rfl⟩
theorem fl39_0 : FieldT Try.prog 39 0 0 5 1 := ⟨by kernel_rfl, by kernel_rfl⟩
theorem sc5 : isScalar Try.prog 5 = true := by kernel_rfl
theorem un5 : (Try.prog.underlying 5).isSome = true := by kernel_rfl
theorem un3 : (Try.prog.underlying 3).isSome = true := by kernel_rfl
theorem sl88 : SliceT Try.prog 88 70 1 8 := ⟨Try.underlying88, by kernel_rfl⟩
theorem ze70 : ZeroT Try.prog 70 [.int .u64 0] := by unfold ZeroT; kernel_rfl
theorem sc70 : isScalar Try.prog 70 = true := by kernel_rfl
theorem fl68_0 : FieldT Try.prog 68 0 0 66 1 := ⟨by kernel_rfl, by kernel_rfl⟩
theorem bd61 : (!(Try.f61.name == "runtime.NumGoroutine") && !Try.f61.body.isNone) = true := by kernel_rfl
theorem bd62 : (!(Try.f62.name == "runtime.NumGoroutine") && !Try.f62.body.isNone) = true := by kernel_rfl
theorem bd52 : (!(Try.f52.name == "runtime.NumGoroutine") && !Try.f52.body.isNone) = true := by kernel_rfl
theorem ze5 : ZeroT Try.prog 5 [.int .u8 0] := by unfold ZeroT; kernel_rfl
theorem un70 : (Try.prog.underlying 70).isSome = true := by kernel_rfl
theorem sz5 : sizeT Try.prog 5 1 = true := by kernel_rfl
theorem bd53 : (!(Try.f53.name == "runtime.NumGoroutine") && !Try.f53.body.isNone) = true := by kernel_rfl
theorem fl66_0 : FieldT Try.prog 66 0 0 22 1 := ⟨by kernel_rfl, by kernel_rfl⟩
theorem sz22 : sizeT Try.prog 22 1 = true := by kernel_rfl
theorem bd33 : (!(Try.f33.name == "runtime.NumGoroutine") && !Try.f33.body.isNone) = true := by kernel_rfl
theorem bd50 : (!(Try.f50.name == "runtime.NumGoroutine") && !Try.f50.body.isNone) = true := by kernel_rfl
theorem bd30 : (!(Try.f30.name == "runtime.NumGoroutine") && !Try.f30.body.isNone) = true := by kernel_rfl
theorem fl39_2 : FieldT Try.prog 39 2 2 36 1 := ⟨by kernel_rfl, by kernel_rfl⟩
theorem fl39_3 : FieldT Try.prog 39 3 3 4 1 := ⟨by kernel_rfl, by kernel_rfl⟩
theorem sc4 : isScalar Try.prog 4 = true := by kernel_rfl
theorem fl39_4 : FieldT Try.prog 39 4 4 4 1 := ⟨by kernel_rfl, by kernel_rfl⟩
theorem bd32 : (!(Try.f32.name == "runtime.NumGoroutine") && !Try.f32.body.isNone) = true := by kernel_rfl
theorem fl39_6 : FieldT Try.prog 39 6 6 5 1 := ⟨by kernel_rfl, by kernel_rfl⟩
theorem fl39_7 : FieldT Try.prog 39 7 7 5 1 := ⟨by kernel_rfl, by kernel_rfl⟩
theorem fl39_8 : FieldT Try.prog 39 8 8 37 4 := ⟨by kernel_rfl, by kernel_rfl⟩
theorem fl39_9 : FieldT Try.prog 39 9 12 37 4 := ⟨by kernel_rfl, by kernel_rfl⟩
theorem sl91 : SliceT Try.prog 91 22 1 24 := ⟨Try.underlying91, by kernel_rfl⟩
theorem ze22 : ZeroT Try.prog 22 [.slice none 0 0] := by unfold ZeroT; kernel_rfl
theorem bd51 : (!(Try.f51.name == "runtime.NumGoroutine") && !Try.f51.body.isNone) = true := by kernel_rfl
theorem bd34 : (!(Try.f34.name == "runtime.NumGoroutine") && !Try.f34.body.isNone) = true := by kernel_rfl
theorem bd40 : (!(Try.f40.name == "runtime.NumGoroutine") && !Try.f40.body.isNone) = true := by kernel_rfl
theorem bd37 : (!(Try.f37.name == "runtime.NumGoroutine") && !Try.f37.body.isNone) = true := by kernel_rfl
theorem ze95 : ZeroT Try.prog 95 [.int .u64 0, .int .i64 0] := by unfold ZeroT; kernel_rfl
theorem fl95_1 : FieldT Try.prog 95 1 1 3 1 := ⟨by kernel_rfl, by kernel_rfl⟩
theorem sc3 : isScalar Try.prog 3 = true := by kernel_rfl
theorem fl95_0 : FieldT Try.prog 95 0 0 70 1 := ⟨by kernel_rfl, by kernel_rfl⟩
theorem bd58 : (!(Try.f58.name == "runtime.NumGoroutine") && !Try.f58.body.isNone) = true := by kernel_rfl
theorem sz3 : sizeT Try.prog 3 1 = true := by kernel_rfl
theorem sz70 : sizeT Try.prog 70 1 = true := by kernel_rfl
theorem bd55 : (!(Try.f55.name == "runtime.NumGoroutine") && !Try.f55.body.isNone) = true := by kernel_rfl
theorem bd54 : (!(Try.f54.name == "runtime.NumGoroutine") && !Try.f54.body.isNone) = true := by kernel_rfl
theorem bd56 : (!(Try.f56.name == "runtime.NumGoroutine") && !Try.f56.body.isNone) = true := by kernel_rfl
theorem bd36 : (!(Try.f36.name == "runtime.NumGoroutine") && !Try.f36.body.isNone) = true := by kernel_rfl
theorem bd35 : (!(Try.f35.name == "runtime.NumGoroutine") && !Try.f35.body.isNone) = true := by kernel_rfl
theorem bd13 : (!(Try.f13.name == "runtime.NumGoroutine") && !Try.f13.body.isNone) = true := by kernel_rfl
theorem ze39 : ZeroT Try.prog 39 [.int .u8 0, .int .u16 0, .int .u16 0, .bool false, .bool false, .int .u16 0, .int .u8 0, .int .u8 0, .int .u8 0, .int .u8 0, .int .u8 0, .int .u8 0, .int .u8 0, .int .u8 0, .int .u8 0, .int .u8 0, .slice none 0 0] := by unfold ZeroT; kernel_rfl
theorem sz39 : sizeT Try.prog 39 17 = true := by kernel_rfl
theorem bd63 : (!(Try.f63.name == "runtime.NumGoroutine") && !Try.f63.body.isNone) = true := by kernel_rfl
theorem bd57 : (!(Try.f57.name == "runtime.NumGoroutine") && !Try.f57.body.isNone) = true := by kernel_rfl
theorem bd39 : (!(Try.f39.name == "runtime.NumGoroutine") && !Try.f39.body.isNone) = true := by kernel_rfl
theorem ag37 : isAggT Try.prog 37 4 = true := by kernel_rfl
theorem bd41 : (!(Try.f41.name == "runtime.NumGoroutine") && !Try.f41.body.isNone) = true := by kernel_rfl
theorem bd19 : (!(Try.f19.name == "runtime.NumGoroutine") && !Try.f19.body.isNone) = true := by kernel_rfl
theorem ze28 : ZeroT Try.prog 28 [.slice none 0 0] := by unfold ZeroT; kernel_rfl
theorem ze25 : ZeroT Try.prog 25 [.int .i64 0] := by unfold ZeroT; kernel_rfl
theorem bd27 : (!(Try.f27.name == "runtime.NumGoroutine") && !Try.f27.body.isNone) = true := by kernel_rfl
theorem bd47 : (!(Try.f47.name == "runtime.NumGoroutine") && !Try.f47.body.isNone) = true := by kernel_rfl
theorem bt32 : BuildT Try.prog 32 [(0, 1), (1, 1)] [.int .u8 0, .slice none 0 0] := ⟨by kernel_rfl, by unfold ZeroT; kernel_rfl⟩
theorem ze32 : ZeroT Try.prog 32 [.int .u8 0, .slice none 0 0] := by unfold ZeroT; kernel_rfl
theorem sz25 : sizeT Try.prog 25 1 = true := by kernel_rfl
theorem sz28 : sizeT Try.prog 28 1 = true := by kernel_rfl
theorem sz32 : sizeT Try.prog 32 2 = true := by kernel_rfl
theorem sc28 : isScalar Try.prog 28 = true := by kernel_rfl
theorem ag32 : isAggT Try.prog 32 2 = true := by kernel_rfl
theorem sl28 : SliceT Try.prog 28 32 2 32 := ⟨Try.underlying28, by kernel_rfl⟩
theorem sc25 : isScalar Try.prog 25 = true := by kernel_rfl
theorem bd10 : (!(Try.f10.name == "runtime.NumGoroutine") && !Try.f10.body.isNone) = true := by kernel_rfl
theorem bd14 : (!(Try.f14.name == "runtime.NumGoroutine") && !Try.f14.body.isNone) = true := by kernel_rfl
theorem fl32_0 : FieldT Try.prog 32 0 0 5 1 := ⟨by kernel_rfl, by kernel_rfl⟩
theorem fl32_1 : FieldT Try.prog 32 1 1 22 1 := ⟨by kernel_rfl, by kernel_rfl⟩
theorem bd8 : (!(Try.f8.name == "runtime.NumGoroutine") && !Try.f8.body.isNone) = true := by kernel_rfl
theorem bd9 : (!(Try.f9.name == "runtime.NumGoroutine") && !Try.f9.body.isNone) = true := by kernel_rfl
theorem bt34 : BuildT Try.prog 34 [(0, 1), (1, 1)] [.int .u8 0, .string ByteArray.empty] := ⟨by kernel_rfl, by unfold ZeroT; kernel_rfl⟩
theorem sl24 : SliceT Try.prog 24 34 2 24 := ⟨Try.underlying24, by kernel_rfl⟩
theorem ze34 : ZeroT Try.prog 34 [.int .u8 0, .string ByteArray.empty] := by unfold ZeroT; kernel_rfl
theorem fl34_0 : FieldT Try.prog 34 0 0 5 1 := ⟨by kernel_rfl, by kernel_rfl⟩
theorem fl34_1 : FieldT Try.prog 34 1 1 9 1 := ⟨by kernel_rfl, by kernel_rfl⟩
theorem sc9 : isScalar Try.prog 9 = true := by kernel_rfl
theorem ze41 : ZeroT Try.prog 41 [.int .u8 0, .int .u16 0, .int .u16 0, .bool false, .bool false, .int .u16 0, .int .u8 0, .int .u8 0, .string ByteArray.empty, .string ByteArray.empty, .string ByteArray.empty] := by unfold ZeroT; kernel_rfl
theorem bt41 : BuildT Try.prog 41 [(0, 1), (1, 1), (2, 1), (3, 1), (4, 1), (5, 1), (6, 1), (7, 1), (8, 1), (9, 1), (10, 1)] [.int .u8 0, .int .u16 0, .int .u16 0, .bool false, .bool false, .int .u16 0, .int .u8 0, .int .u8 0, .string ByteArray.empty, .string ByteArray.empty, .string ByteArray.empty] := ⟨by kernel_rfl, by unfold ZeroT; kernel_rfl⟩
theorem ag41 : isAggT Try.prog 41 11 = true := by kernel_rfl
theorem sz41 : sizeT Try.prog 41 11 = true := by kernel_rfl
theorem bd11 : (!(Try.f11.name == "runtime.NumGoroutine") && !Try.f11.body.isNone) = true := by kernel_rfl
theorem fl41_10 : FieldT Try.prog 41 10 10 9 1 := ⟨by kernel_rfl, by kernel_rfl⟩
theorem fl41_5 : FieldT Try.prog 41 5 5 36 1 := ⟨by kernel_rfl, by kernel_rfl⟩
theorem fl41_1 : FieldT Try.prog 41 1 1 36 1 := ⟨by kernel_rfl, by kernel_rfl⟩
theorem bd16 : (!(Try.f16.name == "runtime.NumGoroutine") && !Try.f16.body.isNone) = true := by kernel_rfl
theorem bd45 : (!(Try.f45.name == "runtime.NumGoroutine") && !Try.f45.body.isNone) = true := by kernel_rfl
theorem fl41_0 : FieldT Try.prog 41 0 0 5 1 := ⟨by kernel_rfl, by kernel_rfl⟩
theorem bd18 : (!(Try.f18.name == "runtime.NumGoroutine") && !Try.f18.body.isNone) = true := by kernel_rfl
theorem fl41_2 : FieldT Try.prog 41 2 2 36 1 := ⟨by kernel_rfl, by kernel_rfl⟩
theorem fl41_3 : FieldT Try.prog 41 3 3 4 1 := ⟨by kernel_rfl, by kernel_rfl⟩
theorem fl41_4 : FieldT Try.prog 41 4 4 4 1 := ⟨by kernel_rfl, by kernel_rfl⟩
theorem bd48 : (!(Try.f48.name == "runtime.NumGoroutine") && !Try.f48.body.isNone) = true := by kernel_rfl
theorem fl41_6 : FieldT Try.prog 41 6 6 5 1 := ⟨by kernel_rfl, by kernel_rfl⟩
theorem fl41_7 : FieldT Try.prog 41 7 7 5 1 := ⟨by kernel_rfl, by kernel_rfl⟩
theorem fl41_8 : FieldT Try.prog 41 8 8 9 1 := ⟨by kernel_rfl, by kernel_rfl⟩
theorem fl41_9 : FieldT Try.prog 41 9 9 9 1 := ⟨by kernel_rfl, by kernel_rfl⟩
theorem bd28 : (!(Try.f28.name == "runtime.NumGoroutine") && !Try.f28.body.isNone) = true := by kernel_rfl
theorem bd60 : (!(Try.f60.name == "runtime.NumGoroutine") && !Try.f60.body.isNone) = true := by kernel_rfl
theorem bd59 : (!(Try.f59.name == "runtime.NumGoroutine") && !Try.f59.body.isNone) = true := by kernel_rfl
theorem bd49 : (!(Try.f49.name == "runtime.NumGoroutine") && !Try.f49.body.isNone) = true := by kernel_rfl
theorem bd29 : (!(Try.f29.name == "runtime.NumGoroutine") && !Try.f29.body.isNone) = true := by kernel_rfl
theorem bd12 : (!(Try.f12.name == "runtime.NumGoroutine") && !Try.f12.body.isNone) = true := by kernel_rfl
theorem bd38 : (!(Try.f38.name == "runtime.NumGoroutine") && !Try.f38.body.isNone) = true := by kernel_rfl
theorem bd17 : (!(Try.f17.name == "runtime.NumGoroutine") && !Try.f17.body.isNone) = true := by kernel_rfl
theorem bd20 : (!(Try.f20.name == "runtime.NumGoroutine") && !Try.f20.body.isNone) = true := by kernel_rfl
theorem bd42 : (!(Try.f42.name == "runtime.NumGoroutine") && !Try.f42.body.isNone) = true := by kernel_rfl
theorem bd21 : (!(Try.f21.name == "runtime.NumGoroutine") && !Try.f21.body.isNone) = true := by kernel_rfl
theorem bd43 : (!(Try.f43.name == "runtime.NumGoroutine") && !Try.f43.body.isNone) = true := by kernel_rfl
theorem bd44 : (!(Try.f44.name == "runtime.NumGoroutine") && !Try.f44.body.isNone) = true := by kernel_rfl
theorem bd22 : (!(Try.f22.name == "runtime.NumGoroutine") && !Try.f22.body.isNone) = true := by kernel_rfl
theorem bd23 : (!(Try.f23.name == "runtime.NumGoroutine") && !Try.f23.body.isNone) = true := by kernel_rfl
theorem bd46 : (!(Try.f46.name == "runtime.NumGoroutine") && !Try.f46.body.isNone) = true := by kernel_rfl
theorem bd24 : (!(Try.f24.name == "runtime.NumGoroutine") && !Try.f24.body.isNone) = true := by kernel_rfl
theorem bd25 : (!(Try.f25.name == "runtime.NumGoroutine") && !Try.f25.body.isNone) = true := by kernel_rfl
theorem sz9 : sizeT Try.prog 9 1 = true := by kernel_rfl
theorem bd26 : (!(Try.f26.name == "runtime.NumGoroutine") && !Try.f26.body.isNone) = true := by kernel_rfl
theorem ze37 : ZeroT Try.prog 37 [.int .u8 0, .int .u8 0, .int .u8 0, .int .u8 0] := by unfold ZeroT; kernel_rfl
theorem bd4 : (!(Try.f4.name == "runtime.NumGoroutine") && !Try.f4.body.isNone) = true := by kernel_rfl
theorem bd5 : (!(Try.f5.name == "runtime.NumGoroutine") && !Try.f5.body.isNone) = true := by kernel_rfl
theorem bd3 : (!(Try.f3.name == "runtime.NumGoroutine") && !Try.f3.body.isNone) = true := by kernel_rfl
theorem bd6 : (!(Try.f6.name == "runtime.NumGoroutine") && !Try.f6.body.isNone) = true := by kernel_rfl
theorem sz36 : sizeT Try.prog 36 1 = true := by kernel_rfl
theorem Q41 (d : Nat) (x y : T_ref05_Header) (w : World) : (Op.equalIn (d + 2) 41 (.agg #[.int .u8 x.f_TOS, .int .u16 x.f_Total, .int .u16 x.f_ID, .bool x.f_DF, .bool x.f_MF, .int .u16 x.f_Frag, .int .u8 x.f_TTL, .int .u8 x.f_Proto, .string x.f_Src, .string x.f_Dst, .string x.f_Options]) (.agg #[.int .u8 y.f_TOS, .int .u16 y.f_Total, .int .u16 y.f_ID, .bool y.f_DF, .bool y.f_MF, .int .u16 y.f_Frag, .int .u8 y.f_TTL, .int .u8 y.f_Proto, .string y.f_Src, .string y.f_Dst, .string y.f_Options])).run Try.prog w = .ok (q_ref05_Header x y) w :=
  (run_equalIn_agg w (d + 1) 41 _ _ (by kernel_rfl) (by kernel_rfl)).trans (EqT.run (tr := [(false, 5, 0), (false, 36, 1), (false, 36, 2), (false, 4, 3), (false, 4, 4), (false, 36, 5), (false, 5, 6), (false, 5, 7), (false, 9, 8), (false, 9, 9), (false, 9, 10)]) (by kernel_rfl) ⟨_, _, _, _, rfl, part_s sc5 rfl, part_s sc5 rfl, run_equalIn_int w (d + 0) 5 _ _ _ _ Try.underlying5, ⟨_, _, _, _, rfl, part_s sc36 rfl, part_s sc36 rfl, run_equalIn_int w (d + 0) 36 _ _ _ _ Try.underlying36, ⟨_, _, _, _, rfl, part_s sc36 rfl, part_s sc36 rfl, run_equalIn_int w (d + 0) 36 _ _ _ _ Try.underlying36, ⟨_, _, _, _, rfl, part_s sc4 rfl, part_s sc4 rfl, run_equalIn_bool' w (d + 0) 4 _ _ Try.underlying4, ⟨_, _, _, _, rfl, part_s sc4 rfl, part_s sc4 rfl, run_equalIn_bool' w (d + 0) 4 _ _ Try.underlying4, ⟨_, _, _, _, rfl, part_s sc36 rfl, part_s sc36 rfl, run_equalIn_int w (d + 0) 36 _ _ _ _ Try.underlying36, ⟨_, _, _, _, rfl, part_s sc5 rfl, part_s sc5 rfl, run_equalIn_int w (d + 0) 5 _ _ _ _ Try.underlying5, ⟨_, _, _, _, rfl, part_s sc5 rfl, part_s sc5 rfl, run_equalIn_int w (d + 0) 5 _ _ _ _ Try.underlying5, ⟨_, _, _, _, rfl, part_s sc9 rfl, part_s sc9 rfl, run_equalIn_string w (d + 0) 9 _ _ Try.underlying9, ⟨_, _, _, _, rfl, part_s sc9 rfl, part_s sc9 rfl, run_equalIn_string w (d + 0) 9 _ _ Try.underlying9, ⟨_, _, _, _, rfl, part_s sc9 rfl, part_s sc9 rfl, run_equalIn_string w (d + 0) 9 _ _ Try.underlying9, rfl, rfl⟩, rfl⟩, rfl⟩, rfl⟩, rfl⟩, rfl⟩, rfl⟩, rfl⟩, rfl⟩, rfl⟩, rfl⟩)
theorem Q41t (x y : T_ref05_Header) {xs ys : List Value} (w : World) (hx : xs = [.int .u8 x.f_TOS, .int .u16 x.f_Total, .int .u16 x.f_ID, .bool x.f_DF, .bool x.f_MF, .int .u16 x.f_Frag, .int .u8 x.f_TTL, .int .u8 x.f_Proto, .string x.f_Src, .string x.f_Dst, .string x.f_Options]) (hy : ys = [.int .u8 y.f_TOS, .int .u16 y.f_Total, .int .u16 y.f_ID, .bool y.f_DF, .bool y.f_MF, .int .u16 y.f_Frag, .int .u8 y.f_TTL, .int .u8 y.f_Proto, .string y.f_Src, .string y.f_Dst, .string y.f_Options]) : (Op.equalIn 10000 41 (.agg xs.toArray) (.agg ys.toArray)).run Try.prog w = .ok (q_ref05_Header x y) w := by
  subst hx; subst hy; exact Q41 9998 x y w
def R_ip_Option (S : List (Option Nat)) (w : World) (x : T_ip_Option) (cs : List Value) : Prop := ∃ (A0 : Option Addr) (c0 : Nat), cs = [.int .u8 x.f_Kind, .slice A0 (x.f_Data).length c0] ∧ Rd w A0 c0 1 x.f_Data.length (x.f_Data.flatMap (eI .u8)) ∧ Off S x.f_Data.length A0
theorem len_ip_Option {S : List (Option Nat)} {w : World} : ∀ x cs, R_ip_Option S w x cs → cs.length = 2 := fun x cs h => by
  obtain ⟨A0, c0, rfl, _⟩ := h
  rfl
theorem un_ip_Option {S : List (Option Nat)} {w : World} {x : T_ip_Option} {A0 : Option Addr} {c0 : Nat} (h : R_ip_Option S w x [.int .u8 x.f_Kind, .slice A0 (x.f_Data).length c0]) : Rd w A0 c0 1 x.f_Data.length (x.f_Data.flatMap (eI .u8)) ∧ Off S x.f_Data.length A0 := by
  obtain ⟨A0', c0', h, h0, o0⟩ := h
  cases h
  exact ⟨h0, o0⟩
def RO_ip_Option (x : T_ip_Option) (cs : List Value) (os : List Ob) : Prop := ∃ (A0 : Option Addr) (c0 : Nat), cs = [.int .u8 x.f_Kind, .slice A0 (x.f_Data).length c0] ∧ os = [.row A0 c0 5 1 x.f_Data.length (x.f_Data.flatMap (eI .u8))]
theorem uo_ip_Option : Un R_ip_Option RO_ip_Option := fun S w x cs os h hk => by
  obtain ⟨A0, c0, rfl, rfl⟩ := h
  exact ⟨A0, c0, rfl, Ob.rd (hk 0 _ rfl).1, Off.ofOb (hk 0 _ rfl)⟩
theorem io_ip_Option {x : T_ip_Option} {A0 : Option Addr} {c0 : Nat} {o : List Ob} (h : RO_ip_Option x [.int .u8 x.f_Kind, .slice A0 (x.f_Data).length c0] o) : o = [.row A0 c0 5 1 x.f_Data.length (x.f_Data.flatMap (eI .u8))] := by
  obtain ⟨A0', c0', h, h2⟩ := h
  cases h
  exact h2
theorem mv_ip_Option : Mv R_ip_Option := fun S S' w w' x cs h hf ho => by
  obtain ⟨A0, c0, rfl, h0, o0⟩ := h
  exact ⟨A0, c0, rfl, h0.chg hf o0, ho _ _ _ _ _ h0 o0⟩
set_option maxRecDepth 100000 in
set_option maxHeartbeats 40000000 in
theorem c_ip_Header_length (w : World) (h1 : T_ip_Header) (A2 : Option Addr) (c3 : Nat) (hr4 : Rd w A2 c3 1 h1.f_Options.length (h1.f_Options.flatMap (eI .u8))) (r : Int) (hF : F_ip_Header_length h1 = some r) :
    CallsR Try.prog 31 [.agg #[.int .u8 h1.f_TOS, .int .u16 h1.f_Total, .int .u16 h1.f_ID, .bool h1.f_DF, .bool h1.f_MF, .int .u16 h1.f_Frag, .int .u8 h1.f_TTL, .int .u8 h1.f_Proto, .int .u8 (List.getD h1.f_Src 0 0), .int .u8 (List.getD h1.f_Src 1 0), .int .u8 (List.getD h1.f_Src 2 0), .int .u8 (List.getD h1.f_Src 3 0), .int .u8 (List.getD h1.f_Dst 0 0), .int .u8 (List.getD h1.f_Dst 1 0), .int .u8 (List.getD h1.f_Dst 2 0), .int .u8 (List.getD h1.f_Dst 3 0), .slice A2 (h1.f_Options).length c3]] w (fun v w' => v = .int .i64 r ∧ Mem w [] w' []) := by
  refine calls_KC Try.func31 rfl Try.ntmps31 rfl ?_
  have hM := Mem.init w
  unfold F_ip_Header_length at hF
  refine KC.seqH fun Q5 hQ5 => ?_
  refine KC.region ?_
  refine RL.eff (E.box (vs := [.int .u8 h1.f_TOS, .int .u16 h1.f_Total, .int .u16 h1.f_ID, .bool h1.f_DF, .bool h1.f_MF, .int .u16 h1.f_Frag, .int .u8 h1.f_TTL, .int .u8 h1.f_Proto, .int .u8 (List.getD h1.f_Src 0 0), .int .u8 (List.getD h1.f_Src 1 0), .int .u8 (List.getD h1.f_Src 2 0), .int .u8 (List.getD h1.f_Src 3 0), .int .u8 (List.getD h1.f_Dst 0 0), .int .u8 (List.getD h1.f_Dst 1 0), .int .u8 (List.getD h1.f_Dst 2 0), .int .u8 (List.getD h1.f_Dst 3 0), .slice A2 (h1.f_Options).length c3]) hM rfl rfl) rfl fun v w7 hv => ?_
  clear hM
  obtain ⟨g6, rfl, hM, hf⟩ := hv
  refine RL.val (O.assign rfl) rfl ?_
  refine RL.nil ?_
  refine KQ.thn hQ5 ?_
  clear hQ5 Q5
  refine KC.seqH fun Q9 hQ9 => ?_
  refine KC.region ?_
  refine RL.val (O.fldA fl39_10 (by decide) rfl) rfl ?_
  refine RL.val (O.load sc22 rfl (Cs.adds [16] ((hM.bx (i := 0) rfl)) rfl)) rfl ?_
  refine RL.val (O.len sl22 rfl) rfl ?_
  refine RL.val (O.add rfl rfl) rfl ?_
  refine RL.val (O.assign rfl) rfl ?_
  refine RL.nil ?_
  refine KQ.thn hQ9 ?_
  clear hQ9 Q9
  refine KC.ret ?_
  have hE := Option.some.inj hF
  clear hF
  subst hE
  replace hM := hM.pick [] rfl (by decide)
  refine KQ.rets Try.results31 (RVs.cons (RV.tm rfl) RVs.nil) ?_
  exact ⟨_, rfl, rfl, hM⟩
set_option maxRecDepth 100000 in
set_option maxHeartbeats 40000000 in
theorem c_ip_Right (w : World) (h1 : T_ip_Header) (A2 : Option Addr) (c3 : Nat) (hr4 : Rd w A2 c3 1 h1.f_Options.length (h1.f_Options.flatMap (eI .u8))) (r : Bool) (hF : F_ip_Right h1 = some r) :
    CallsR Try.prog 15 [.agg #[.int .u8 h1.f_TOS, .int .u16 h1.f_Total, .int .u16 h1.f_ID, .bool h1.f_DF, .bool h1.f_MF, .int .u16 h1.f_Frag, .int .u8 h1.f_TTL, .int .u8 h1.f_Proto, .int .u8 (List.getD h1.f_Src 0 0), .int .u8 (List.getD h1.f_Src 1 0), .int .u8 (List.getD h1.f_Src 2 0), .int .u8 (List.getD h1.f_Src 3 0), .int .u8 (List.getD h1.f_Dst 0 0), .int .u8 (List.getD h1.f_Dst 1 0), .int .u8 (List.getD h1.f_Dst 2 0), .int .u8 (List.getD h1.f_Dst 3 0), .slice A2 (h1.f_Options).length c3]] w (fun v w' => v = .bool r ∧ Mem w [] w' []) := by
  refine calls_KC Try.func15 rfl Try.ntmps15 rfl ?_
  have hM := Mem.init w
  unfold F_ip_Right at hF
  refine KC.seqH fun Q5 hQ5 => ?_
  refine KC.region ?_
  refine RL.eff (E.box (vs := [.int .u8 h1.f_TOS, .int .u16 h1.f_Total, .int .u16 h1.f_ID, .bool h1.f_DF, .bool h1.f_MF, .int .u16 h1.f_Frag, .int .u8 h1.f_TTL, .int .u8 h1.f_Proto, .int .u8 (List.getD h1.f_Src 0 0), .int .u8 (List.getD h1.f_Src 1 0), .int .u8 (List.getD h1.f_Src 2 0), .int .u8 (List.getD h1.f_Src 3 0), .int .u8 (List.getD h1.f_Dst 0 0), .int .u8 (List.getD h1.f_Dst 1 0), .int .u8 (List.getD h1.f_Dst 2 0), .int .u8 (List.getD h1.f_Dst 3 0), .slice A2 (h1.f_Options).length c3]) hM rfl rfl) rfl fun v w7 hv => ?_
  clear hM
  obtain ⟨g6, rfl, hM, hf⟩ := hv
  refine RL.val (O.assign rfl) rfl ?_
  refine RL.nil ?_
  refine KQ.thn hQ5 ?_
  clear hQ5 Q5
  refine KC.cut (fun a w14 => ∃ (t13 : Bool), Kn 27 [(2, .bool t13)] a ∧ Mem w [] w14 [] ∧ F_ip_Right_j1 t13 = some r) ?_ ?_
  · replace hM := hM.drewN 1
    refine KC.draw [] [] [21] [0, 2, 3, 4, 6, 7, 8, 9, 10, 11, 13, 14, 15, 16, 17, 19, 22, 23, 24] (.ofList [0, 1, 2, 3, 4, 5, 6, 7, 8, 9, 10, 11, 12, 13, 14, 15, 16, 17, 18, 19, 20, 21, 22, 23, 24]) moP (by kernel_rfl) ?_
    refine RD.p rfl rfl rfl rfl (fun w' => O.fldA fl39_5 (by decide) rfl) ?_
    refine RD.q rfl rfl rfl rfl (fun w' hf => O.load sc36 rfl (Cs.adds [5] ((hM.bx (i := 0) rfl).fut hf) rfl)) ?_
    refine RD.p rfl rfl rfl rfl (fun w' => O.leq rfl rfl) ?_
    refine RD.p rfl rfl rfl rfl (fun w' => O.move rfl) ?_
    refine RD.bcase (t := 6) rfl (fun hc => ?_) (fun hc => ?_)
    · rw [if_pos hc] at hF
      refine RD.gp rfl rfl rfl rfl rfl rfl (fun w' => O.fldA fl39_10 (by decide) rfl) ?_
      refine RD.gq rfl rfl rfl rfl rfl rfl (fun w' hf => O.load sc22 rfl (Cs.adds [16] ((hM.bx (i := 0) rfl).fut hf) rfl)) ?_
      refine RD.gp rfl rfl rfl rfl rfl rfl (fun w' => O.len sl22 rfl) ?_
      refine RD.gp rfl rfl rfl rfl rfl rfl (fun w' => O.rem rfl rfl (by decide)) ?_
      refine RD.gp rfl rfl rfl rfl rfl rfl (fun w' => O.eql rfl rfl) ?_
      refine RD.p rfl rfl rfl rfl (fun w' => O.pickt rfl rfl) ?_
      refine RD.p rfl rfl rfl rfl (fun w' => O.move rfl) ?_
      refine RD.bcase (t := 13) rfl (fun hc => ?_) (fun hc => ?_)
      · rw [if_pos hc] at hF
        refine RD.gp rfl rfl rfl rfl rfl rfl (fun w' => O.fldA fl39_10 (by decide) rfl) ?_
        refine RD.gq rfl rfl rfl rfl rfl rfl (fun w' hf => O.load sc22 rfl (Cs.adds [16] ((hM.bx (i := 0) rfl).fut hf) rfl)) ?_
        refine RD.gp rfl rfl rfl rfl rfl rfl (fun w' => O.len sl22 rfl) ?_
        refine RD.gp rfl rfl rfl rfl rfl rfl (fun w' => O.leq rfl rfl) ?_
        refine RD.p rfl rfl rfl rfl (fun w' => O.pickt rfl rfl) ?_
        refine RD.p rfl rfl rfl rfl (fun w' => O.move rfl) ?_
        refine RD.bcase (t := 19) rfl (fun hc => ?_) (fun hc => ?_)
        · rw [if_pos hc] at hF
          refine RD.gp rfl rfl rfl rfl rfl rfl (fun w' => O.fldA fl39_1 (by decide) rfl) ?_
          refine RD.gq rfl rfl rfl rfl rfl rfl (fun w' hf => O.load sc36 rfl (Cs.adds [1] ((hM.bx (i := 0) rfl).fut hf) rfl)) ?_
          refine RD.gp rfl rfl rfl rfl rfl rfl (fun w' => O.conv un36 Try.underlying3 rfl) ?_
          refine RD.gq rfl rfl rfl rfl rfl rfl (fun w' hf => O.loadN (cs := [.int .u8 h1.f_TOS, .int .u16 h1.f_Total, .int .u16 h1.f_ID, .bool h1.f_DF, .bool h1.f_MF, .int .u16 h1.f_Frag, .int .u8 h1.f_TTL, .int .u8 h1.f_Proto, .int .u8 (List.getD h1.f_Src 0 0), .int .u8 (List.getD h1.f_Src 1 0), .int .u8 (List.getD h1.f_Src 2 0), .int .u8 (List.getD h1.f_Src 3 0), .int .u8 (List.getD h1.f_Dst 0 0), .int .u8 (List.getD h1.f_Dst 1 0), .int .u8 (List.getD h1.f_Dst 2 0), .int .u8 (List.getD h1.f_Dst 3 0), .slice A2 (h1.f_Options).length c3]) ag39 rfl (Cs.addsN [] ((hM.bx (i := 0) rfl).fut hf) rfl)) ?_
          refine obindE hF fun y9 hx10 hF => ?_
          refine RD.mcall rfl rfl ⟨rfl, rfl⟩ Try.func31 bd31 rfl rfl (c_ip_Header_length _ h1 _ _ (hM.inp hr4 Off.nil) _ hx10) fun v w11 hv => ?_
          obtain ⟨rfl, hN12⟩ := hv
          refine ⟨fun _ => hN12.fut, ?_⟩
          replace hM := hM.call0 hN12
          refine RD.gp rfl rfl rfl rfl rfl rfl (fun w' => O.geq rfl rfl) ?_
          refine RD.p rfl rfl rfl rfl (fun w' => O.pickt rfl rfl) ?_
          refine RD.p rfl rfl rfl rfl (fun w' => O.assign rfl) ?_
          refine RD.nil ?_
          refine KQ.then_k ?_
          replace hM := hM.pick [] rfl (by decide)
          exact fun a ha => ⟨(decide (y9 ≤ (IntKind.i64.wrap h1.f_Total))), ha.less (less_cons rfl less_nil), hM, hF⟩
        · rw [if_neg (ne_true hc)] at hF
          refine RD.brun1 [17, 18, 19, 20, 21, 22, 23] 26 false (by kernel_rfl) ?_
          refine RD.p rfl rfl rfl rfl (fun w' => O.assign rfl) ?_
          refine RD.nil ?_
          refine KQ.then_k ?_
          replace hM := hM.pick [] rfl (by decide)
          exact fun a ha => ⟨false, ha.less (less_cons rfl less_nil), hM, hF⟩
      · rw [if_neg (ne_true hc)] at hF
        refine RD.brun1 [11, 12, 13, 14, 15, 16, 17, 18, 19, 20, 21, 22, 23] 26 false (by kernel_rfl) ?_
        refine RD.p rfl rfl rfl rfl (fun w' => O.assign rfl) ?_
        refine RD.nil ?_
        refine KQ.then_k ?_
        replace hM := hM.pick [] rfl (by decide)
        exact fun a ha => ⟨false, ha.less (less_cons rfl less_nil), hM, hF⟩
    · rw [if_neg (ne_true hc)] at hF
      refine RD.brun1 [4, 5, 6, 7, 8, 9, 10, 11, 12, 13, 14, 15, 16, 17, 18, 19, 20, 21, 22, 23] 26 false (by kernel_rfl) ?_
      refine RD.p rfl rfl rfl rfl (fun w' => O.assign rfl) ?_
      refine RD.nil ?_
      refine KQ.then_k ?_
      replace hM := hM.pick [] rfl (by decide)
      exact fun a ha => ⟨false, ha.less (less_cons rfl less_nil), hM, hF⟩
  · rintro a w14 ⟨t13, ha, hM, hF⟩
    refine KC.app ha ?_
    clear ha
    unfold F_ip_Right_j1 at hF
    refine KC.ret ?_
    have hE := Option.some.inj hF
    clear hF
    subst hE
    refine KQ.rets Try.results15 (RVs.cons (RV.tm rfl) RVs.nil) ?_
    exact ⟨_, rfl, rfl, hM⟩
set_option maxRecDepth 100000 in
set_option maxHeartbeats 40000000 in
theorem c_bits_right (w : World) (size1 : Int) (r : Bool) (hF : F_bits_right size1 = some r) :
    CallsR Try.prog 61 [.int .i64 size1] w (fun v w' => v = .bool r ∧ Mem w [] w' []) := by
  refine calls_KC Try.func61 rfl Try.ntmps61 rfl ?_
  have hM := Mem.init w
  unfold F_bits_right at hF
  refine KC.seqH fun Q2 hQ2 => ?_
  refine KC.region ?_
  refine RL.val (O.assign rfl) rfl ?_
  refine RL.nil ?_
  refine KQ.thn hQ2 ?_
  clear hQ2 Q2
  refine KC.cut (fun a w4 => ∃ (t3 : Bool), Kn 9 [(2, .bool t3)] a ∧ Mem w [] w4 [] ∧ F_bits_right_j1 t3 = some r) ?_ ?_
  · refine KC.region ?_
    refine RL.val (O.move rfl) rfl ?_
    refine RL.val (O.geq rfl rfl) rfl ?_
    refine RL.val (O.move rfl) rfl ?_
    refine RL.bcase (t := 5) rfl (fun hc => ?_) (fun hc => ?_)
    · rw [if_pos hc] at hF
      refine RL.gval rfl rfl (O.move rfl) rfl ?_
      refine RL.gval rfl rfl (O.leq rfl rfl) rfl ?_
      refine RL.val (O.pickt rfl rfl) rfl ?_
      refine RL.val (O.assign rfl) rfl ?_
      refine RL.nil ?_
      refine KQ.then_k ?_
      exact fun a ha => ⟨(decide (size1 ≤ 8)), ha.less (less_cons rfl less_nil), hM, hF⟩
    · rw [if_neg (ne_true hc)] at hF
      refine RL.gskip rfl rfl rfl rfl ?_
      refine RL.gskip rfl rfl rfl rfl ?_
      refine RL.val (O.pickf rfl rfl) rfl ?_
      refine RL.val (O.assign rfl) rfl ?_
      refine RL.nil ?_
      refine KQ.then_k ?_
      exact fun a ha => ⟨false, ha.less (less_cons rfl less_nil), hM, hF⟩
  · rintro a w4 ⟨t3, ha, hM, hF⟩
    refine KC.app ha ?_
    clear ha
    unfold F_bits_right_j1 at hF
    refine KC.ret ?_
    have hE := Option.some.inj hF
    clear hF
    subst hE
    refine KQ.rets Try.results61 (RVs.cons (RV.tm rfl) RVs.nil) ?_
    exact ⟨_, rfl, rfl, hM⟩
set_option maxRecDepth 100000 in
set_option maxHeartbeats 40000000 in
theorem c_bits_Least (w : World) (v1 : Int) (r : Int) (hF : F_bits_Least v1 = some r) :
    CallsR Try.prog 62 [.int .u64 v1] w (fun v w' => v = .int .i64 r ∧ Mem w [] w' []) := by
  refine calls_KC Try.func62 rfl Try.ntmps62 rfl ?_
  have hM := Mem.init w
  unfold F_bits_Least at hF
  refine KC.seqH fun Q2 hQ2 => ?_
  refine KC.region ?_
  refine RL.val (O.assign rfl) rfl ?_
  refine RL.nil ?_
  refine KQ.thn hQ2 ?_
  clear hQ2 Q2
  refine KC.seqH fun Q3 hQ3 => ?_
  refine KC.region ?_
  refine RL.val (O.assign rfl) rfl ?_
  refine RL.nil ?_
  refine KQ.thn hQ3 ?_
  clear hQ3 Q3
  refine KC.seqH fun Q4 hQ4 => ?_
  refine KC.seqH fun Q5 hQ5 => ?_
  refine KC.region ?_
  refine RL.val (O.move rfl) rfl ?_
  refine RL.val (O.shr rfl rfl (by decide)) rfl ?_
  refine RL.val (O.assign rfl) rfl ?_
  refine RL.nil ?_
  refine KQ.thn hQ5 ?_
  clear hQ5 Q5
  refine KC.block ?_
  refine KC.loop (fun k18 a w16 => ∃ (v14 : Int) (nv15 : Int), Kn 13 [(0, .int .u64 v14), (3, .int .i64 nv15)] a ∧ Mem w [] w16 [] ∧ F_bits_Least_L1 k18 v14 nv15 = some r) ?_ ?_
  · exact fun a ha => ⟨fuel0, (Ox.shr .u64 v1 8), 1, ha.less (less_cons rfl (less_cons rfl less_nil)), hM, hF⟩
  · rintro k18 a w16 ⟨v14, nv15, ha, hM, hF⟩
    refine KC.app ha ?_
    clear ha
    cases k18 with
    | zero => exact (none_some hF).elim
    | succ k18 =>
    have hF : F_bits_Least_l1 (F_bits_Least_L1 k18) v14 nv15 = some r := hF
    unfold F_bits_Least_l1 at hF
    refine KC.seqH fun Q19 hQ19 => ?_
    refine KC.seqH fun Q20 hQ20 => ?_
    refine KC.region ?_
    refine RL.val (O.move rfl) rfl ?_
    refine RL.val (O.gtr rfl rfl) rfl ?_
    refine RL.nil ?_
    refine KQ.thn hQ20 ?_
    clear hQ20 Q20
    refine KC.cond rfl (fun hc => ?_) (fun hc => ?_)
    · rw [if_pos hc] at hF
      refine KC.skip ?_
      refine KQ.thn hQ19 ?_
      clear hQ19 Q19
      refine KC.seqH fun Q21 hQ21 => ?_
      refine KC.block ?_
      refine KC.region ?_
      refine RL.val (O.move rfl) rfl ?_
      refine RL.val (O.add rfl rfl) rfl ?_
      refine RL.val (O.assign rfl) rfl ?_
      refine RL.nil ?_
      refine KQ.blk_n ?_
      refine KQ.thn hQ21 ?_
      clear hQ21 Q21
      refine KC.region ?_
      refine RL.val (O.move rfl) rfl ?_
      refine RL.val (O.shr rfl rfl (by decide)) rfl ?_
      refine RL.val (O.assign rfl) rfl ?_
      refine RL.nil ?_
      refine KQ.then_k ?_
      exact fun a ha => ⟨k18, Nat.lt_succ_self k18, (Ox.shr .u64 v14 8), (IntKind.i64.wrap (nv15 + 1)), ha.less (less_cons rfl (less_cons rfl less_nil)), hM, hF⟩
    · rw [if_neg (ne_true hc)] at hF
      refine KC.exit ?_
      refine KQ.thx hQ19 ?_
      clear hQ19 Q19
      refine KQ.then_x ?_
      refine KQ.blk_x ?_
      refine KQ.thn hQ4 ?_
      clear hQ4 Q4
      refine KC.seqH fun Q22 hQ22 => ?_
      refine KC.region ?_
      refine RL.val (O.move rfl) rfl ?_
      refine RL.val (O.assign rfl) rfl ?_
      refine RL.nil ?_
      refine KQ.thn hQ22 ?_
      clear hQ22 Q22
      refine KC.ret ?_
      have hE := Option.some.inj hF
      clear hF
      subst hE
      refine KQ.rets Try.results62 (RVs.cons (RV.tm rfl) RVs.nil) ?_
      exact ⟨_, rfl, rfl, hM⟩
set_option maxRecDepth 100000 in
set_option maxHeartbeats 40000000 in
theorem c_bits_fits (w : World) (v1 : Int) (size2 : Int) (r : Bool) (hF : F_bits_fits v1 size2 = some r) :
    CallsR Try.prog 52 [.int .u64 v1, .int .i64 size2] w (fun v w' => v = .bool r ∧ Mem w [] w' []) := by
  refine calls_KC Try.func52 rfl Try.ntmps52 rfl ?_
  have hM := Mem.init w
  unfold F_bits_fits at hF
  refine KC.seqH fun Q3 hQ3 => ?_
  refine KC.region ?_
  refine RL.val (O.assign rfl) rfl ?_
  refine RL.nil ?_
  refine KQ.thn hQ3 ?_
  clear hQ3 Q3
  refine KC.cut (fun a w13 => ∃ (t12 : Bool), Kn 13 [(4, .bool t12)] a ∧ Mem w [] w13 [] ∧ F_bits_fits_j1 t12 = some r) ?_ ?_
  · refine KC.region ?_
    refine RL.val (O.move rfl) rfl ?_
    refine obindE hF fun y4 hx5 hF => ?_
    refine RL.call Try.func61 bd61 rfl rfl (c_bits_right _ size2 _ hx5) fun v w6 hv => ?_
    obtain ⟨rfl, hN7⟩ := hv
    replace hM := hM.call0 hN7
    refine RL.val (O.move rfl) rfl ?_
    refine RL.bcase (t := 7) rfl (fun hc => ?_) (fun hc => ?_)
    · rw [if_pos hc] at hF
      refine RL.gval rfl rfl (O.move rfl) rfl ?_
      refine obindE hF fun y8 hx9 hF => ?_
      refine RL.gcall rfl rfl Try.func62 bd62 rfl rfl (c_bits_Least _ v1 _ hx9) fun v w10 hv => ?_
      obtain ⟨rfl, hN11⟩ := hv
      replace hM := hM.call0 hN11
      refine RL.gval rfl rfl (O.move rfl) rfl ?_
      refine RL.gval rfl rfl (O.leq rfl rfl) rfl ?_
      refine RL.val (O.pickt rfl rfl) rfl ?_
      refine RL.val (O.assign rfl) rfl ?_
      refine RL.nil ?_
      refine KQ.then_k ?_
      exact fun a ha => ⟨(decide (y8 ≤ size2)), ha.less (less_cons rfl less_nil), hM, hF⟩
    · rw [if_neg (ne_true hc)] at hF
      refine RL.brun1 5 12 false (by kernel_rfl) ?_
      refine RL.val (O.assign rfl) rfl ?_
      refine RL.nil ?_
      refine KQ.then_k ?_
      exact fun a ha => ⟨false, ha.less (less_cons rfl less_nil), hM, hF⟩
  · rintro a w13 ⟨t12, ha, hM, hF⟩
    refine KC.app ha ?_
    clear ha
    unfold F_bits_fits_j1 at hF
    refine KC.ret ?_
    have hE := Option.some.inj hF
    clear hF
    subst hE
    refine KQ.rets Try.results52 (RVs.cons (RV.tm rfl) RVs.nil) ?_
    exact ⟨_, rfl, rfl, hM⟩
set_option maxRecDepth 100000 in
set_option maxHeartbeats 40000000 in
theorem c_bits_of (w : World) (v1 : Int) (size2 : Int) (r : (List Int)) (hF : F_bits_of v1 size2 = some r) :
    CallsR Try.prog 53 [.int .u64 v1, .int .i64 size2] w (fun v w' => ∃ (A0 : Option Addr) (c0 : Nat), v = .slice A0 (r).length c0 ∧ Mem w [] w' [.row A0 c0 5 1 r.length (r.flatMap (eI .u8))]) := by
  refine calls_KC Try.func53 rfl Try.ntmps53 rfl ?_
  have hM := Mem.init w
  unfold F_bits_of at hF
  refine KC.seqH fun Q3 hQ3 => ?_
  refine KC.region ?_
  refine RL.val (O.assign rfl) rfl ?_
  refine RL.nil ?_
  refine KQ.thn hQ3 ?_
  clear hQ3 Q3
  refine KC.seqH fun Q4 hQ4 => ?_
  refine KC.region ?_
  refine RL.val (O.move rfl) rfl ?_
  refine cut_someE hF fun hq7 hF => ?_
  refine RL.eff (E.mks (enc := (eI .u8)) (zr := 0) hM sl22 ze5 rfl rfl (fun _ => rfl) rfl rfl rfl (of_decide_eq_true hq7)) rfl fun v w6 hv => ?_
  clear hM
  obtain ⟨A5, rfl, hM, hf⟩ := hv
  refine RL.val (O.assign rfl) rfl ?_
  refine RL.nil ?_
  refine KQ.thn hQ4 ?_
  clear hQ4 Q4
  refine KC.seqH fun Q9 hQ9 => ?_
  refine KC.seqH fun Q10 hQ10 => ?_
  refine KC.region ?_
  refine RL.val (O.move rfl) rfl ?_
  refine RL.val (O.move rfl) rfl ?_
  refine RL.nil ?_
  refine KQ.thn hQ10 ?_
  clear hQ10 Q10
  refine KC.block ?_
  refine KC.loop (fun k43 a w41 => ∃ (A37 : Option Addr) (c38 : Nat) (b39 : List Int) (t40 : Int), Kn 26 [(0, .int .u64 v1), (1, .int .i64 size2), (5, .slice A37 (b39).length c38), (9, .int .i64 size2), (10, .int .i64 t40)] a ∧ Mem w [] w41 [.row A37 c38 5 1 (b39).length ((b39).flatMap (eI .u8))] ∧ F_bits_of_L1 v1 size2 k43 b39 t40 = some r) ?_ ?_
  · exact fun a ha => ⟨fuel0, A5, (Int.toNat size2), (List.replicate (Int.toNat size2) (0 : Int)), 0, ha.less (less_cons rfl (less_cons rfl (less_cons rfl (less_cons rfl (less_cons rfl less_nil))))), hM, hF⟩
  · rintro k43 a w41 ⟨A37, c38, b39, t40, ha, hM, hF⟩
    refine KC.app ha ?_
    clear ha
    cases k43 with
    | zero => exact (none_some hF).elim
    | succ k43 =>
    have hF : F_bits_of_l1 (F_bits_of_L1 v1 size2 k43) v1 size2 b39 t40 = some r := hF
    unfold F_bits_of_l1 at hF
    refine KC.seqH fun Q44 hQ44 => ?_
    refine KC.region ?_
    refine RL.val (O.lss rfl rfl) rfl ?_
    refine RL.nil ?_
    refine KQ.thn hQ44 ?_
    clear hQ44 Q44
    refine KC.seqH fun Q45 hQ45 => ?_
    refine KC.cond rfl (fun hc => ?_) (fun hc => ?_)
    · rw [if_pos hc] at hF
      refine KC.skip ?_
      refine KQ.thn hQ45 ?_
      clear hQ45 Q45
      refine KC.seqH fun Q46 hQ46 => ?_
      refine KC.block ?_
      refine KC.seqH fun Q47 hQ47 => ?_
      refine KC.region ?_
      refine RL.val (O.move rfl) rfl ?_
      refine RL.val (O.assign rfl) rfl ?_
      refine RL.nil ?_
      refine KQ.thn hQ47 ?_
      clear hQ47 Q47
      refine KC.region ?_
      refine RL.val (O.move rfl) rfl ?_
      refine RL.val (O.move rfl) rfl ?_
      refine RL.val (O.sub rfl rfl) rfl ?_
      refine RL.val (O.move rfl) rfl ?_
      refine RL.val (O.sub rfl rfl) rfl ?_
      refine RL.val (O.move rfl) rfl ?_
      refine RL.val (O.move rfl) rfl ?_
      refine RL.val (O.mul rfl rfl) rfl ?_
      refine cut_someE hF fun hq48 hF => ?_
      refine RL.val (O.shr rfl rfl (of_decide_eq_true hq48)) rfl ?_
      refine RL.val (O.conv un70 Try.underlying5 rfl) rfl ?_
      refine obindE hF fun xv51 hx50 hF => ?_
      have hA49 := Rd.atN (f := (eI .u8)) (s := 1) (fun _ => rfl) (by decide) (hM.rd (i := 0) rfl) hx50
      refine RL.val (O.idxA sl22 (hA49) rfl rfl) rfl ?_
      refine RL.effs (E.stR (enc := (eI .u8)) (j := 0) (off := 0) (vs := [.int .u8 (IntKind.u8.wrap (Ox.shr .u64 v1 (IntKind.i64.wrap (8 * t40))))]) (x' := (IntKind.u8.wrap (Ox.shr .u64 v1 (IntKind.i64.wrap (8 * t40))))) hM rfl (fun _ => rfl) hx50 sz5 rfl (addsR_eq [] rfl) rfl rfl (One.all rfl) rfl rfl) fun w52 hM1 => ?_
      clear hM
      obtain ⟨hM, hn53⟩ := hM1
      refine RL.reslot (t := 5) rfl hn53 ?_
      refine RL.reslot (t := 13) rfl hn53 ?_
      refine RL.nil ?_
      refine KQ.blk_n ?_
      refine KQ.thn hQ46 ?_
      clear hQ46 Q46
      refine KC.region ?_
      refine RL.val (O.add rfl rfl) rfl ?_
      refine RL.val (O.move rfl) rfl ?_
      refine RL.nil ?_
      refine KQ.then_k ?_
      exact fun a ha => ⟨k43, Nat.lt_succ_self k43, A37, c38, (b39.set ((IntKind.i64.wrap ((IntKind.i64.wrap (size2 - 1)) - t40)) : Int).toNat (IntKind.u8.wrap (Ox.shr .u64 v1 (IntKind.i64.wrap (8 * t40))))), (IntKind.i64.wrap (t40 + 1)), ha.less (less_cons rfl (less_cons rfl (less_cons rfl (less_cons rfl (less_cons rfl less_nil))))), hM, hF⟩
    · rw [if_neg (ne_true hc)] at hF
      refine KC.exit ?_
      refine KQ.thx hQ45 ?_
      clear hQ45 Q45
      refine KQ.then_x ?_
      refine KQ.blk_x ?_
      refine KQ.thn hQ9 ?_
      clear hQ9 Q9
      refine KC.seqH fun Q54 hQ54 => ?_
      refine KC.region ?_
      refine RL.val (O.move rfl) rfl ?_
      refine RL.val (O.assign rfl) rfl ?_
      refine RL.nil ?_
      refine KQ.thn hQ54 ?_
      clear hQ54 Q54
      refine KC.ret ?_
      have hE := Option.some.inj hF
      clear hF
      subst hE
      refine KQ.rets Try.results53 (RVs.cons (RV.tm rfl) RVs.nil) ?_
      exact ⟨_, rfl, A37, c38, rfl, hM⟩
end Go.Proofs.Ytjfdfjmnajjjaaa
