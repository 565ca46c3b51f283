/- Printed by a program of this claim: each call returns what the plain function of its name gives. -/
import Derived.Test.YtahldlpikknefaaRows
import Derived.Test.YtahldlpikknefaaF
set_option linter.unusedVariables false
namespace Go.Proofs.Ytahldlpikknefaa
open Go Go.Ox Go.RowKit
theorem sl28 : SliceT Try.prog 28 25 1 2 := ⟨Try.underlying28, by kernel_rfl⟩
theorem sl29 : SliceT Try.prog 29 30 1 8 := ⟨Try.underlying29, by kernel_rfl⟩
theorem bt79 : BuildT Try.prog 79 [(0, 1), (1, 1), (2, 1)] [.int .u16 0, .int .u32 0, .int .u16 0] := ⟨by kernel_rfl, by unfold ZeroT; kernel_rfl⟩
theorem sl67 : SliceT Try.prog 67 79 3 12 := ⟨Try.underlying67, by kernel_rfl⟩
theorem ze79 : ZeroT Try.prog 79 [.int .u16 0, .int .u32 0, .int .u16 0] := by unfold ZeroT; kernel_rfl
theorem bd22 : (!(Try.f22.name == "runtime.NumGoroutine") && !Try.f22.body.isNone) = true := by kernel_rfl
theorem fl79_2 : FieldT Try.prog 79 2 2 25 1 := ⟨by kernel_rfl, by kernel_rfl⟩
theorem sc25 : isScalar Try.prog 25 = true := by kernel_rfl
theorem un25 : (Try.prog.underlying 25).isSome = true := by kernel_rfl
theorem bt27 : BuildT Try.prog 27 [(0, 17), (17, 17), (34, 1), (35, 1), (36, 1)] [.bool false, .int .u8 0, .int .u8 0, .int .u8 0, .int .u8 0, .int .u8 0, .int .u8 0, .int .u8 0, .int .u8 0, .int .u8 0, .int .u8 0, .int .u8 0, .int .u8 0, .int .u8 0, .int .u8 0, .int .u8 0, .int .u8 0, .bool false, .int .u8 0, .int .u8 0, .int .u8 0, .int .u8 0, .int .u8 0, .int .u8 0, .int .u8 0, .int .u8 0, .int .u8 0, .int .u8 0, .int .u8 0, .int .u8 0, .int .u8 0, .int .u8 0, .int .u8 0, .int .u8 0, .int .u8 0, .int .u16 0, .int .u16 0] := ⟨by kernel_rfl, by unfold ZeroT; kernel_rfl⟩
theorem ze35 : ZeroT Try.prog 35 [.bool false, .int .u8 0, .int .u8 0, .int .u8 0, .int .u8 0, .int .u8 0, .int .u8 0, .int .u8 0, .int .u8 0, .int .u8 0, .int .u8 0, .int .u8 0, .int .u8 0, .int .u8 0, .int .u8 0, .int .u8 0, .int .u8 0, .bool false, .int .u8 0, .int .u8 0, .int .u8 0, .int .u8 0, .int .u8 0, .int .u8 0, .int .u8 0, .int .u8 0, .int .u8 0, .int .u8 0, .int .u8 0, .int .u8 0, .int .u8 0, .int .u8 0, .int .u8 0, .int .u8 0, .int .u8 0, .int .u16 0, .int .u16 0, .int .u64 0, .int .u64 0, .int .u64 0, .int .u64 0, .int .u8 0, .int .u8 0, .int .u8 0] := by unfold ZeroT; kernel_rfl
theorem ag27 : isAggT Try.prog 27 37 = true := by kernel_rfl
theorem bt35 : BuildT Try.prog 35 [(0, 37), (37, 1), (38, 1), (39, 1), (40, 1), (41, 1), (42, 1), (43, 1)] [.bool false, .int .u8 0, .int .u8 0, .int .u8 0, .int .u8 0, .int .u8 0, .int .u8 0, .int .u8 0, .int .u8 0, .int .u8 0, .int .u8 0, .int .u8 0, .int .u8 0, .int .u8 0, .int .u8 0, .int .u8 0, .int .u8 0, .bool false, .int .u8 0, .int .u8 0, .int .u8 0, .int .u8 0, .int .u8 0, .int .u8 0, .int .u8 0, .int .u8 0, .int .u8 0, .int .u8 0, .int .u8 0, .int .u8 0, .int .u8 0, .int .u8 0, .int .u8 0, .int .u8 0, .int .u8 0, .int .u16 0, .int .u16 0, .int .u64 0, .int .u64 0, .int .u64 0, .int .u64 0, .int .u8 0, .int .u8 0, .int .u8 0] := ⟨by kernel_rfl, by unfold ZeroT; kernel_rfl⟩
theorem ag35 : isAggT Try.prog 35 44 = true := by kernel_rfl
theorem sz35 : sizeT Try.prog 35 44 = true := by kernel_rfl
theorem bd7 : (!(Try.f7.name == "runtime.NumGoroutine") && !Try.f7.body.isNone) = true := by kernel_rfl
theorem bt39 : BuildT Try.prog 39 [(0, 37), (37, 1), (38, 1), (39, 1)] [.bool false, .int .u8 0, .int .u8 0, .int .u8 0, .int .u8 0, .int .u8 0, .int .u8 0, .int .u8 0, .int .u8 0, .int .u8 0, .int .u8 0, .int .u8 0, .int .u8 0, .int .u8 0, .int .u8 0, .int .u8 0, .int .u8 0, .bool false, .int .u8 0, .int .u8 0, .int .u8 0, .int .u8 0, .int .u8 0, .int .u8 0, .int .u8 0, .int .u8 0, .int .u8 0, .int .u8 0, .int .u8 0, .int .u8 0, .int .u8 0, .int .u8 0, .int .u8 0, .int .u8 0, .int .u8 0, .int .u16 0, .int .u16 0, .int .i64 0, .int .u8 0, .bool false] := ⟨by kernel_rfl, by unfold ZeroT; kernel_rfl⟩
theorem fl39_1 : FieldT Try.prog 39 1 37 3 1 := ⟨by kernel_rfl, by kernel_rfl⟩
theorem sc3 : isScalar Try.prog 3 = true := by kernel_rfl
theorem un3 : (Try.prog.underlying 3).isSome = true := by kernel_rfl
theorem bt32 : BuildT Try.prog 32 [(0, 1), (1, 1)] [.int .u64 0, .int .u64 0] := ⟨by kernel_rfl, by unfold ZeroT; kernel_rfl⟩
theorem ze32 : ZeroT Try.prog 32 [.int .u64 0, .int .u64 0] := by unfold ZeroT; kernel_rfl
theorem fl35_1 : FieldT Try.prog 35 1 37 30 1 := ⟨by kernel_rfl, by kernel_rfl⟩
theorem sc30 : isScalar Try.prog 30 = true := by kernel_rfl
theorem fl35_2 : FieldT Try.prog 35 2 38 30 1 := ⟨by kernel_rfl, by kernel_rfl⟩
theorem ag32 : isAggT Try.prog 32 2 = true := by kernel_rfl
theorem sz32 : sizeT Try.prog 32 2 = true := by kernel_rfl
theorem bd9 : (!(Try.f9.name == "runtime.NumGoroutine") && !Try.f9.body.isNone) = true := by kernel_rfl
theorem fl32_0 : FieldT Try.prog 32 0 0 30 1 := ⟨by kernel_rfl, by kernel_rfl⟩
theorem fl32_1 : FieldT Try.prog 32 1 1 30 1 := ⟨by kernel_rfl, by kernel_rfl⟩
theorem bd29 : (!(Try.f29.name == "runtime.NumGoroutine") && !Try.f29.body.isNone) = true := by kernel_rfl
theorem moP : Try.prog.follows .mixedOrders = true := by kernel_rfl
theorem bd10 : (!(Try.f10.name == "runtime.NumGoroutine") && !Try.f10.body.isNone) = true := by kernel_rfl
theorem fl35_4 : FieldT Try.prog 35 4 40 30 1 := ⟨by kernel_rfl, by kernel_rfl⟩
theorem fl35_5 : FieldT Try.prog 35 5 41 5 1 := ⟨by kernel_rfl, by kernel_rfl⟩
theorem sc5 : isScalar Try.prog 5 = true := by kernel_rfl
theorem fl39_2 : FieldT Try.prog 39 2 38 5 1 := ⟨by kernel_rfl, by kernel_rfl⟩
theorem sz5 : sizeT Try.prog 5 1 = true := by kernel_rfl
theorem sz30 : sizeT Try.prog 30 1 = true := by kernel_rfl
theorem bd8 : (!(Try.f8.name == "runtime.NumGoroutine") && !Try.f8.body.isNone) = true := by kernel_rfl
theorem bd6 : (!(Try.f6.name == "runtime.NumGoroutine") && !Try.f6.body.isNone) = true := by kernel_rfl
theorem fl35_3 : FieldT Try.prog 35 3 39 30 1 := ⟨by kernel_rfl, by kernel_rfl⟩
theorem fl35_0 : FieldT Try.prog 35 0 0 27 37 := ⟨by kernel_rfl, by kernel_rfl⟩
theorem fl35_7 : FieldT Try.prog 35 7 43 5 1 := ⟨by kernel_rfl, by kernel_rfl⟩
theorem ag22 : isAggT Try.prog 22 16 = true := by kernel_rfl
theorem sc4 : isScalar Try.prog 4 = true := by kernel_rfl
theorem ag24 : isAggT Try.prog 24 17 = true := by kernel_rfl
theorem Q24 (d : Nat) (x y : T_addr_Addr) (w : World) : (Op.equalIn (d + 3) 24 (.agg #[.bool x.f_Six, .int .u8 (List.getD x.f_B 0 0), .int .u8 (List.getD x.f_B 1 0), .int .u8 (List.getD x.f_B 2 0), .int .u8 (List.getD x.f_B 3 0), .int .u8 (List.getD x.f_B 4 0), .int .u8 (List.getD x.f_B 5 0), .int .u8 (List.getD x.f_B 6 0), .int .u8 (List.getD x.f_B 7 0), .int .u8 (List.getD x.f_B 8 0), .int .u8 (List.getD x.f_B 9 0), .int .u8 (List.getD x.f_B 10 0), .int .u8 (List.getD x.f_B 11 0), .int .u8 (List.getD x.f_B 12 0), .int .u8 (List.getD x.f_B 13 0), .int .u8 (List.getD x.f_B 14 0), .int .u8 (List.getD x.f_B 15 0)]) (.agg #[.bool y.f_Six, .int .u8 (List.getD y.f_B 0 0), .int .u8 (List.getD y.f_B 1 0), .int .u8 (List.getD y.f_B 2 0), .int .u8 (List.getD y.f_B 3 0), .int .u8 (List.getD y.f_B 4 0), .int .u8 (List.getD y.f_B 5 0), .int .u8 (List.getD y.f_B 6 0), .int .u8 (List.getD y.f_B 7 0), .int .u8 (List.getD y.f_B 8 0), .int .u8 (List.getD y.f_B 9 0), .int .u8 (List.getD y.f_B 10 0), .int .u8 (List.getD y.f_B 11 0), .int .u8 (List.getD y.f_B 12 0), .int .u8 (List.getD y.f_B 13 0), .int .u8 (List.getD y.f_B 14 0), .int .u8 (List.getD y.f_B 15 0)])).run Try.prog w = .ok (q_addr_Addr x y) w :=
  (run_equalIn_agg w (d + 2) 24 _ _ (by kernel_rfl) (by kernel_rfl)).trans (EqT.run (tr := [(false, 4, 0), (false, 22, 1)]) (by kernel_rfl) ⟨_, _, _, _, rfl, part_s sc4 rfl, part_s sc4 rfl, run_equalIn_bool' w (d + 1) 4 _ _ Try.underlying4, ⟨_, _, _, _, rfl, part_a (us := arrC 16 .u8 x.f_B) ag22 rfl, part_a (us := arrC 16 .u8 y.f_B) ag22 rfl, eq_arr' Try.underlying22 Try.underlying5 sz5 (d + 0) x.f_B y.f_B w, rfl, rfl⟩, rfl⟩)
theorem Q24t (x y : T_addr_Addr) {xs ys : List Value} (w : World) (hx : xs = [.bool x.f_Six, .int .u8 (List.getD x.f_B 0 0), .int .u8 (List.getD x.f_B 1 0), .int .u8 (List.getD x.f_B 2 0), .int .u8 (List.getD x.f_B 3 0), .int .u8 (List.getD x.f_B 4 0), .int .u8 (List.getD x.f_B 5 0), .int .u8 (List.getD x.f_B 6 0), .int .u8 (List.getD x.f_B 7 0), .int .u8 (List.getD x.f_B 8 0), .int .u8 (List.getD x.f_B 9 0), .int .u8 (List.getD x.f_B 10 0), .int .u8 (List.getD x.f_B 11 0), .int .u8 (List.getD x.f_B 12 0), .int .u8 (List.getD x.f_B 13 0), .int .u8 (List.getD x.f_B 14 0), .int .u8 (List.getD x.f_B 15 0)]) (hy : ys = [.bool y.f_Six, .int .u8 (List.getD y.f_B 0 0), .int .u8 (List.getD y.f_B 1 0), .int .u8 (List.getD y.f_B 2 0), .int .u8 (List.getD y.f_B 3 0), .int .u8 (List.getD y.f_B 4 0), .int .u8 (List.getD y.f_B 5 0), .int .u8 (List.getD y.f_B 6 0), .int .u8 (List.getD y.f_B 7 0), .int .u8 (List.getD y.f_B 8 0), .int .u8 (List.getD y.f_B 9 0), .int .u8 (List.getD y.f_B 10 0), .int .u8 (List.getD y.f_B 11 0), .int .u8 (List.getD y.f_B 12 0), .int .u8 (List.getD y.f_B 13 0), .int .u8 (List.getD y.f_B 14 0), .int .u8 (List.getD y.f_B 15 0)]) : (Op.equalIn 10000 24 (.agg xs.toArray) (.agg ys.toArray)).run Try.prog w = .ok (q_addr_Addr x y) w := by
  subst hx; subst hy; exact Q24 9997 x y w
theorem Q27 (d : Nat) (x y : T_packet_Key) (w : World) : (Op.equalIn (d + 4) 27 (.agg #[.bool x.f_Src.f_Six, .int .u8 (List.getD x.f_Src.f_B 0 0), .int .u8 (List.getD x.f_Src.f_B 1 0), .int .u8 (List.getD x.f_Src.f_B 2 0), .int .u8 (List.getD x.f_Src.f_B 3 0), .int .u8 (List.getD x.f_Src.f_B 4 0), .int .u8 (List.getD x.f_Src.f_B 5 0), .int .u8 (List.getD x.f_Src.f_B 6 0), .int .u8 (List.getD x.f_Src.f_B 7 0), .int .u8 (List.getD x.f_Src.f_B 8 0), .int .u8 (List.getD x.f_Src.f_B 9 0), .int .u8 (List.getD x.f_Src.f_B 10 0), .int .u8 (List.getD x.f_Src.f_B 11 0), .int .u8 (List.getD x.f_Src.f_B 12 0), .int .u8 (List.getD x.f_Src.f_B 13 0), .int .u8 (List.getD x.f_Src.f_B 14 0), .int .u8 (List.getD x.f_Src.f_B 15 0), .bool x.f_Dst.f_Six, .int .u8 (List.getD x.f_Dst.f_B 0 0), .int .u8 (List.getD x.f_Dst.f_B 1 0), .int .u8 (List.getD x.f_Dst.f_B 2 0), .int .u8 (List.getD x.f_Dst.f_B 3 0), .int .u8 (List.getD x.f_Dst.f_B 4 0), .int .u8 (List.getD x.f_Dst.f_B 5 0), .int .u8 (List.getD x.f_Dst.f_B 6 0), .int .u8 (List.getD x.f_Dst.f_B 7 0), .int .u8 (List.getD x.f_Dst.f_B 8 0), .int .u8 (List.getD x.f_Dst.f_B 9 0), .int .u8 (List.getD x.f_Dst.f_B 10 0), .int .u8 (List.getD x.f_Dst.f_B 11 0), .int .u8 (List.getD x.f_Dst.f_B 12 0), .int .u8 (List.getD x.f_Dst.f_B 13 0), .int .u8 (List.getD x.f_Dst.f_B 14 0), .int .u8 (List.getD x.f_Dst.f_B 15 0), .int .u8 x.f_Proto, .int .u16 x.f_SrcPort, .int .u16 x.f_DstPort]) (.agg #[.bool y.f_Src.f_Six, .int .u8 (List.getD y.f_Src.f_B 0 0), .int .u8 (List.getD y.f_Src.f_B 1 0), .int .u8 (List.getD y.f_Src.f_B 2 0), .int .u8 (List.getD y.f_Src.f_B 3 0), .int .u8 (List.getD y.f_Src.f_B 4 0), .int .u8 (List.getD y.f_Src.f_B 5 0), .int .u8 (List.getD y.f_Src.f_B 6 0), .int .u8 (List.getD y.f_Src.f_B 7 0), .int .u8 (List.getD y.f_Src.f_B 8 0), .int .u8 (List.getD y.f_Src.f_B 9 0), .int .u8 (List.getD y.f_Src.f_B 10 0), .int .u8 (List.getD y.f_Src.f_B 11 0), .int .u8 (List.getD y.f_Src.f_B 12 0), .int .u8 (List.getD y.f_Src.f_B 13 0), .int .u8 (List.getD y.f_Src.f_B 14 0), .int .u8 (List.getD y.f_Src.f_B 15 0), .bool y.f_Dst.f_Six, .int .u8 (List.getD y.f_Dst.f_B 0 0), .int .u8 (List.getD y.f_Dst.f_B 1 0), .int .u8 (List.getD y.f_Dst.f_B 2 0), .int .u8 (List.getD y.f_Dst.f_B 3 0), .int .u8 (List.getD y.f_Dst.f_B 4 0), .int .u8 (List.getD y.f_Dst.f_B 5 0), .int .u8 (List.getD y.f_Dst.f_B 6 0), .int .u8 (List.getD y.f_Dst.f_B 7 0), .int .u8 (List.getD y.f_Dst.f_B 8 0), .int .u8 (List.getD y.f_Dst.f_B 9 0), .int .u8 (List.getD y.f_Dst.f_B 10 0), .int .u8 (List.getD y.f_Dst.f_B 11 0), .int .u8 (List.getD y.f_Dst.f_B 12 0), .int .u8 (List.getD y.f_Dst.f_B 13 0), .int .u8 (List.getD y.f_Dst.f_B 14 0), .int .u8 (List.getD y.f_Dst.f_B 15 0), .int .u8 y.f_Proto, .int .u16 y.f_SrcPort, .int .u16 y.f_DstPort])).run Try.prog w = .ok (q_packet_Key x y) w :=
  (run_equalIn_agg w (d + 3) 27 _ _ (by kernel_rfl) (by kernel_rfl)).trans (EqT.run (tr := [(false, 24, 0), (false, 24, 17), (false, 5, 34), (false, 25, 35), (false, 25, 36)]) (by kernel_rfl) ⟨_, _, _, _, rfl, part_a (us := [.bool x.f_Src.f_Six, .int .u8 (List.getD x.f_Src.f_B 0 0), .int .u8 (List.getD x.f_Src.f_B 1 0), .int .u8 (List.getD x.f_Src.f_B 2 0), .int .u8 (List.getD x.f_Src.f_B 3 0), .int .u8 (List.getD x.f_Src.f_B 4 0), .int .u8 (List.getD x.f_Src.f_B 5 0), .int .u8 (List.getD x.f_Src.f_B 6 0), .int .u8 (List.getD x.f_Src.f_B 7 0), .int .u8 (List.getD x.f_Src.f_B 8 0), .int .u8 (List.getD x.f_Src.f_B 9 0), .int .u8 (List.getD x.f_Src.f_B 10 0), .int .u8 (List.getD x.f_Src.f_B 11 0), .int .u8 (List.getD x.f_Src.f_B 12 0), .int .u8 (List.getD x.f_Src.f_B 13 0), .int .u8 (List.getD x.f_Src.f_B 14 0), .int .u8 (List.getD x.f_Src.f_B 15 0)]) ag24 rfl, part_a (us := [.bool y.f_Src.f_Six, .int .u8 (List.getD y.f_Src.f_B 0 0), .int .u8 (List.getD y.f_Src.f_B 1 0), .int .u8 (List.getD y.f_Src.f_B 2 0), .int .u8 (List.getD y.f_Src.f_B 3 0), .int .u8 (List.getD y.f_Src.f_B 4 0), .int .u8 (List.getD y.f_Src.f_B 5 0), .int .u8 (List.getD y.f_Src.f_B 6 0), .int .u8 (List.getD y.f_Src.f_B 7 0), .int .u8 (List.getD y.f_Src.f_B 8 0), .int .u8 (List.getD y.f_Src.f_B 9 0), .int .u8 (List.getD y.f_Src.f_B 10 0), .int .u8 (List.getD y.f_Src.f_B 11 0), .int .u8 (List.getD y.f_Src.f_B 12 0), .int .u8 (List.getD y.f_Src.f_B 13 0), .int .u8 (List.getD y.f_Src.f_B 14 0), .int .u8 (List.getD y.f_Src.f_B 15 0)]) ag24 rfl, Q24 (d + 0) x.f_Src y.f_Src w, ⟨_, _, _, _, rfl, part_a (us := [.bool x.f_Dst.f_Six, .int .u8 (List.getD x.f_Dst.f_B 0 0), .int .u8 (List.getD x.f_Dst.f_B 1 0), .int .u8 (List.getD x.f_Dst.f_B 2 0), .int .u8 (List.getD x.f_Dst.f_B 3 0), .int .u8 (List.getD x.f_Dst.f_B 4 0), .int .u8 (List.getD x.f_Dst.f_B 5 0), .int .u8 (List.getD x.f_Dst.f_B 6 0), .int .u8 (List.getD x.f_Dst.f_B 7 0), .int .u8 (List.getD x.f_Dst.f_B 8 0), .int .u8 (List.getD x.f_Dst.f_B 9 0), .int .u8 (List.getD x.f_Dst.f_B 10 0), .int .u8 (List.getD x.f_Dst.f_B 11 0), .int .u8 (List.getD x.f_Dst.f_B 12 0), .int .u8 (List.getD x.f_Dst.f_B 13 0), .int .u8 (List.getD x.f_Dst.f_B 14 0), .int .u8 (List.getD x.f_Dst.f_B 15 0)]) ag24 rfl, part_a (us := [.bool y.f_Dst.f_Six, .int .u8 (List.getD y.f_Dst.f_B 0 0), .int .u8 (List.getD y.f_Dst.f_B 1 0), .int .u8 (List.getD y.f_Dst.f_B 2 0), .int .u8 (List.getD y.f_Dst.f_B 3 0), .int .u8 (List.getD y.f_Dst.f_B 4 0), .int .u8 (List.getD y.f_Dst.f_B 5 0), .int .u8 (List.getD y.f_Dst.f_B 6 0), .int .u8 (List.getD y.f_Dst.f_B 7 0), .int .u8 (List.getD y.f_Dst.f_B 8 0), .int .u8 (List.getD y.f_Dst.f_B 9 0), .int .u8 (List.getD y.f_Dst.f_B 10 0), .int .u8 (List.getD y.f_Dst.f_B 11 0), .int .u8 (List.getD y.f_Dst.f_B 12 0), .int .u8 (List.getD y.f_Dst.f_B 13 0), .int .u8 (List.getD y.f_Dst.f_B 14 0), .int .u8 (List.getD y.f_Dst.f_B 15 0)]) ag24 rfl, Q24 (d + 0) x.f_Dst y.f_Dst w, ⟨_, _, _, _, rfl, part_s sc5 rfl, part_s sc5 rfl, run_equalIn_int w (d + 2) 5 _ _ _ _ Try.underlying5, ⟨_, _, _, _, rfl, part_s sc25 rfl, part_s sc25 rfl, run_equalIn_int w (d + 2) 25 _ _ _ _ Try.underlying25, ⟨_, _, _, _, rfl, part_s sc25 rfl, part_s sc25 rfl, run_equalIn_int w (d + 2) 25 _ _ _ _ Try.underlying25, rfl, rfl⟩, rfl⟩, rfl⟩, rfl⟩, rfl⟩)
theorem Q27t (x y : T_packet_Key) {xs ys : List Value} (w : World) (hx : xs = [.bool x.f_Src.f_Six, .int .u8 (List.getD x.f_Src.f_B 0 0), .int .u8 (List.getD x.f_Src.f_B 1 0), .int .u8 (List.getD x.f_Src.f_B 2 0), .int .u8 (List.getD x.f_Src.f_B 3 0), .int .u8 (List.getD x.f_Src.f_B 4 0), .int .u8 (List.getD x.f_Src.f_B 5 0), .int .u8 (List.getD x.f_Src.f_B 6 0), .int .u8 (List.getD x.f_Src.f_B 7 0), .int .u8 (List.getD x.f_Src.f_B 8 0), .int .u8 (List.getD x.f_Src.f_B 9 0), .int .u8 (List.getD x.f_Src.f_B 10 0), .int .u8 (List.getD x.f_Src.f_B 11 0), .int .u8 (List.getD x.f_Src.f_B 12 0), .int .u8 (List.getD x.f_Src.f_B 13 0), .int .u8 (List.getD x.f_Src.f_B 14 0), .int .u8 (List.getD x.f_Src.f_B 15 0), .bool x.f_Dst.f_Six, .int .u8 (List.getD x.f_Dst.f_B 0 0), .int .u8 (List.getD x.f_Dst.f_B 1 0), .int .u8 (List.getD x.f_Dst.f_B 2 0), .int .u8 (List.getD x.f_Dst.f_B 3 0), .int .u8 (List.getD x.f_Dst.f_B 4 0), .int .u8 (List.getD x.f_Dst.f_B 5 0), .int .u8 (List.getD x.f_Dst.f_B 6 0), .int .u8 (List.getD x.f_Dst.f_B 7 0), .int .u8 (List.getD x.f_Dst.f_B 8 0), .int .u8 (List.getD x.f_Dst.f_B 9 0), .int .u8 (List.getD x.f_Dst.f_B 10 0), .int .u8 (List.getD x.f_Dst.f_B 11 0), .int .u8 (List.getD x.f_Dst.f_B 12 0), .int .u8 (List.getD x.f_Dst.f_B 13 0), .int .u8 (List.getD x.f_Dst.f_B 14 0), .int .u8 (List.getD x.f_Dst.f_B 15 0), .int .u8 x.f_Proto, .int .u16 x.f_SrcPort, .int .u16 x.f_DstPort]) (hy : ys = [.bool y.f_Src.f_Six, .int .u8 (List.getD y.f_Src.f_B 0 0), .int .u8 (List.getD y.f_Src.f_B 1 0), .int .u8 (List.getD y.f_Src.f_B 2 0), .int .u8 (List.getD y.f_Src.f_B 3 0), .int .u8 (List.getD y.f_Src.f_B 4 0), .int .u8 (List.getD y.f_Src.f_B 5 0), .int .u8 (List.getD y.f_Src.f_B 6 0), .int .u8 (List.getD y.f_Src.f_B 7 0), .int .u8 (List.getD y.f_Src.f_B 8 0), .int .u8 (List.getD y.f_Src.f_B 9 0), .int .u8 (List.getD y.f_Src.f_B 10 0), .int .u8 (List.getD y.f_Src.f_B 11 0), .int .u8 (List.getD y.f_Src.f_B 12 0), .int .u8 (List.getD y.f_Src.f_B 13 0), .int .u8 (List.getD y.f_Src.f_B 14 0), .int .u8 (List.getD y.f_Src.f_B 15 0), .bool y.f_Dst.f_Six, .int .u8 (List.getD y.f_Dst.f_B 0 0), .int .u8 (List.getD y.f_Dst.f_B 1 0), .int .u8 (List.getD y.f_Dst.f_B 2 0), .int .u8 (List.getD y.f_Dst.f_B 3 0), .int .u8 (List.getD y.f_Dst.f_B 4 0), .int .u8 (List.getD y.f_Dst.f_B 5 0), .int .u8 (List.getD y.f_Dst.f_B 6 0), .int .u8 (List.getD y.f_Dst.f_B 7 0), .int .u8 (List.getD y.f_Dst.f_B 8 0), .int .u8 (List.getD y.f_Dst.f_B 9 0), .int .u8 (List.getD y.f_Dst.f_B 10 0), .int .u8 (List.getD y.f_Dst.f_B 11 0), .int .u8 (List.getD y.f_Dst.f_B 12 0), .int .u8 (List.getD y.f_Dst.f_B 13 0), .int .u8 (List.getD y.f_Dst.f_B 14 0), .int .u8 (List.getD y.f_Dst.f_B 15 0), .int .u8 y.f_Proto, .int .u16 y.f_SrcPort, .int .u16 y.f_DstPort]) : (Op.equalIn 10000 27 (.agg xs.toArray) (.agg ys.toArray)).run Try.prog w = .ok (q_packet_Key x y) w := by
  subst hx; subst hy; exact Q27 9996 x y w
theorem Q35 (d : Nat) (x y : T_flow_Record) (w : World) : (Op.equalIn (d + 5) 35 (.agg #[.bool x.f_Key.f_Src.f_Six, .int .u8 (List.getD x.f_Key.f_Src.f_B 0 0), .int .u8 (List.getD x.f_Key.f_Src.f_B 1 0), .int .u8 (List.getD x.f_Key.f_Src.f_B 2 0), .int .u8 (List.getD x.f_Key.f_Src.f_B 3 0), .int .u8 (List.getD x.f_Key.f_Src.f_B 4 0), .int .u8 (List.getD x.f_Key.f_Src.f_B 5 0), .int .u8 (List.getD x.f_Key.f_Src.f_B 6 0), .int .u8 (List.getD x.f_Key.f_Src.f_B 7 0), .int .u8 (List.getD x.f_Key.f_Src.f_B 8 0), .int .u8 (List.getD x.f_Key.f_Src.f_B 9 0), .int .u8 (List.getD x.f_Key.f_Src.f_B 10 0), .int .u8 (List.getD x.f_Key.f_Src.f_B 11 0), .int .u8 (List.getD x.f_Key.f_Src.f_B 12 0), .int .u8 (List.getD x.f_Key.f_Src.f_B 13 0), .int .u8 (List.getD x.f_Key.f_Src.f_B 14 0), .int .u8 (List.getD x.f_Key.f_Src.f_B 15 0), .bool x.f_Key.f_Dst.f_Six, .int .u8 (List.getD x.f_Key.f_Dst.f_B 0 0), .int .u8 (List.getD x.f_Key.f_Dst.f_B 1 0), .int .u8 (List.getD x.f_Key.f_Dst.f_B 2 0), .int .u8 (List.getD x.f_Key.f_Dst.f_B 3 0), .int .u8 (List.getD x.f_Key.f_Dst.f_B 4 0), .int .u8 (List.getD x.f_Key.f_Dst.f_B 5 0), .int .u8 (List.getD x.f_Key.f_Dst.f_B 6 0), .int .u8 (List.getD x.f_Key.f_Dst.f_B 7 0), .int .u8 (List.getD x.f_Key.f_Dst.f_B 8 0), .int .u8 (List.getD x.f_Key.f_Dst.f_B 9 0), .int .u8 (List.getD x.f_Key.f_Dst.f_B 10 0), .int .u8 (List.getD x.f_Key.f_Dst.f_B 11 0), .int .u8 (List.getD x.f_Key.f_Dst.f_B 12 0), .int .u8 (List.getD x.f_Key.f_Dst.f_B 13 0), .int .u8 (List.getD x.f_Key.f_Dst.f_B 14 0), .int .u8 (List.getD x.f_Key.f_Dst.f_B 15 0), .int .u8 x.f_Key.f_Proto, .int .u16 x.f_Key.f_SrcPort, .int .u16 x.f_Key.f_DstPort, .int .u64 x.f_Packets, .int .u64 x.f_Bytes, .int .u64 x.f_First, .int .u64 x.f_Last, .int .u8 x.f_Flags, .int .u8 x.f_Reason, .int .u8 x.f_Class]) (.agg #[.bool y.f_Key.f_Src.f_Six, .int .u8 (List.getD y.f_Key.f_Src.f_B 0 0), .int .u8 (List.getD y.f_Key.f_Src.f_B 1 0), .int .u8 (List.getD y.f_Key.f_Src.f_B 2 0), .int .u8 (List.getD y.f_Key.f_Src.f_B 3 0), .int .u8 (List.getD y.f_Key.f_Src.f_B 4 0), .int .u8 (List.getD y.f_Key.f_Src.f_B 5 0), .int .u8 (List.getD y.f_Key.f_Src.f_B 6 0), .int .u8 (List.getD y.f_Key.f_Src.f_B 7 0), .int .u8 (List.getD y.f_Key.f_Src.f_B 8 0), .int .u8 (List.getD y.f_Key.f_Src.f_B 9 0), .int .u8 (List.getD y.f_Key.f_Src.f_B 10 0), .int .u8 (List.getD y.f_Key.f_Src.f_B 11 0), .int .u8 (List.getD y.f_Key.f_Src.f_B 12 0), .int .u8 (List.getD y.f_Key.f_Src.f_B 13 0), .int .u8 (List.getD y.f_Key.f_Src.f_B 14 0), .int .u8 (List.getD y.f_Key.f_Src.f_B 15 0), .bool y.f_Key.f_Dst.f_Six, .int .u8 (List.getD y.f_Key.f_Dst.f_B 0 0), .int .u8 (List.getD y.f_Key.f_Dst.f_B 1 0), .int .u8 (List.getD y.f_Key.f_Dst.f_B 2 0), .int .u8 (List.getD y.f_Key.f_Dst.f_B 3 0), .int .u8 (List.getD y.f_Key.f_Dst.f_B 4 0), .int .u8 (List.getD y.f_Key.f_Dst.f_B 5 0), .int .u8 (List.getD y.f_Key.f_Dst.f_B 6 0), .int .u8 (List.getD y.f_Key.f_Dst.f_B 7 0), .int .u8 (List.getD y.f_Key.f_Dst.f_B 8 0), .int .u8 (List.getD y.f_Key.f_Dst.f_B 9 0), .int .u8 (List.getD y.f_Key.f_Dst.f_B 10 0), .int .u8 (List.getD y.f_Key.f_Dst.f_B 11 0), .int .u8 (List.getD y.f_Key.f_Dst.f_B 12 0), .int .u8 (List.getD y.f_Key.f_Dst.f_B 13 0), .int .u8 (List.getD y.f_Key.f_Dst.f_B 14 0), .int .u8 (List.getD y.f_Key.f_Dst.f_B 15 0), .int .u8 y.f_Key.f_Proto, .int .u16 y.f_Key.f_SrcPort, .int .u16 y.f_Key.f_DstPort, .int .u64 y.f_Packets, .int .u64 y.f_Bytes, .int .u64 y.f_First, .int .u64 y.f_Last, .int .u8 y.f_Flags, .int .u8 y.f_Reason, .int .u8 y.f_Class])).run Try.prog w = .ok (q_flow_Record x y) w :=
  (run_equalIn_agg w (d + 4) 35 _ _ (by kernel_rfl) (by kernel_rfl)).trans (EqT.run (tr := [(false, 27, 0), (false, 30, 37), (false, 30, 38), (false, 30, 39), (false, 30, 40), (false, 5, 41), (false, 5, 42), (false, 5, 43)]) (by kernel_rfl) ⟨_, _, _, _, rfl, part_a (us := [.bool x.f_Key.f_Src.f_Six, .int .u8 (List.getD x.f_Key.f_Src.f_B 0 0), .int .u8 (List.getD x.f_Key.f_Src.f_B 1 0), .int .u8 (List.getD x.f_Key.f_Src.f_B 2 0), .int .u8 (List.getD x.f_Key.f_Src.f_B 3 0), .int .u8 (List.getD x.f_Key.f_Src.f_B 4 0), .int .u8 (List.getD x.f_Key.f_Src.f_B 5 0), .int .u8 (List.getD x.f_Key.f_Src.f_B 6 0), .int .u8 (List.getD x.f_Key.f_Src.f_B 7 0), .int .u8 (List.getD x.f_Key.f_Src.f_B 8 0), .int .u8 (List.getD x.f_Key.f_Src.f_B 9 0), .int .u8 (List.getD x.f_Key.f_Src.f_B 10 0), .int .u8 (List.getD x.f_Key.f_Src.f_B 11 0), .int .u8 (List.getD x.f_Key.f_Src.f_B 12 0), .int .u8 (List.getD x.f_Key.f_Src.f_B 13 0), .int .u8 (List.getD x.f_Key.f_Src.f_B 14 0), .int .u8 (List.getD x.f_Key.f_Src.f_B 15 0), .bool x.f_Key.f_Dst.f_Six, .int .u8 (List.getD x.f_Key.f_Dst.f_B 0 0), .int .u8 (List.getD x.f_Key.f_Dst.f_B 1 0), .int .u8 (List.getD x.f_Key.f_Dst.f_B 2 0), .int .u8 (List.getD x.f_Key.f_Dst.f_B 3 0), .int .u8 (List.getD x.f_Key.f_Dst.f_B 4 0), .int .u8 (List.getD x.f_Key.f_Dst.f_B 5 0), .int .u8 (List.getD x.f_Key.f_Dst.f_B 6 0), .int .u8 (List.getD x.f_Key.f_Dst.f_B 7 0), .int .u8 (List.getD x.f_Key.f_Dst.f_B 8 0), .int .u8 (List.getD x.f_Key.f_Dst.f_B 9 0), .int .u8 (List.getD x.f_Key.f_Dst.f_B 10 0), .int .u8 (List.getD x.f_Key.f_Dst.f_B 11 0), .int .u8 (List.getD x.f_Key.f_Dst.f_B 12 0), .int .u8 (List.getD x.f_Key.f_Dst.f_B 13 0), .int .u8 (List.getD x.f_Key.f_Dst.f_B 14 0), .int .u8 (List.getD x.f_Key.f_Dst.f_B 15 0), .int .u8 x.f_Key.f_Proto, .int .u16 x.f_Key.f_SrcPort, .int .u16 x.f_Key.f_DstPort]) ag27 rfl, part_a (us := [.bool y.f_Key.f_Src.f_Six, .int .u8 (List.getD y.f_Key.f_Src.f_B 0 0), .int .u8 (List.getD y.f_Key.f_Src.f_B 1 0), .int .u8 (List.getD y.f_Key.f_Src.f_B 2 0), .int .u8 (List.getD y.f_Key.f_Src.f_B 3 0), .int .u8 (List.getD y.f_Key.f_Src.f_B 4 0), .int .u8 (List.getD y.f_Key.f_Src.f_B 5 0), .int .u8 (List.getD y.f_Key.f_Src.f_B 6 0), .int .u8 (List.getD y.f_Key.f_Src.f_B 7 0), .int .u8 (List.getD y.f_Key.f_Src.f_B 8 0), .int .u8 (List.getD y.f_Key.f_Src.f_B 9 0), .int .u8 (List.getD y.f_Key.f_Src.f_B 10 0), .int .u8 (List.getD y.f_Key.f_Src.f_B 11 0), .int .u8 (List.getD y.f_Key.f_Src.f_B 12 0), .int .u8 (List.getD y.f_Key.f_Src.f_B 13 0), .int .u8 (List.getD y.f_Key.f_Src.f_B 14 0), .int .u8 (List.getD y.f_Key.f_Src.f_B 15 0), .bool y.f_Key.f_Dst.f_Six, .int .u8 (List.getD y.f_Key.f_Dst.f_B 0 0), .int .u8 (List.getD y.f_Key.f_Dst.f_B 1 0), .int .u8 (List.getD y.f_Key.f_Dst.f_B 2 0), .int .u8 (List.getD y.f_Key.f_Dst.f_B 3 0), .int .u8 (List.getD y.f_Key.f_Dst.f_B 4 0), .int .u8 (List.getD y.f_Key.f_Dst.f_B 5 0), .int .u8 (List.getD y.f_Key.f_Dst.f_B 6 0), .int .u8 (List.getD y.f_Key.f_Dst.f_B 7 0), .int .u8 (List.getD y.f_Key.f_Dst.f_B 8 0), .int .u8 (List.getD y.f_Key.f_Dst.f_B 9 0), .int .u8 (List.getD y.f_Key.f_Dst.f_B 10 0), .int .u8 (List.getD y.f_Key.f_Dst.f_B 11 0), .int .u8 (List.getD y.f_Key.f_Dst.f_B 12 0), .int .u8 (List.getD y.f_Key.f_Dst.f_B 13 0), .int .u8 (List.getD y.f_Key.f_Dst.f_B 14 0), .int .u8 (List.getD y.f_Key.f_Dst.f_B 15 0), .int .u8 y.f_Key.f_Proto, .int .u16 y.f_Key.f_SrcPort, .int .u16 y.f_Key.f_DstPort]) ag27 rfl, Q27 (d + 0) x.f_Key y.f_Key w, ⟨_, _, _, _, rfl, part_s sc30 rfl, part_s sc30 rfl, run_equalIn_int w (d + 3) 30 _ _ _ _ Try.underlying30, ⟨_, _, _, _, rfl, part_s sc30 rfl, part_s sc30 rfl, run_equalIn_int w (d + 3) 30 _ _ _ _ Try.underlying30, ⟨_, _, _, _, rfl, part_s sc30 rfl, part_s sc30 rfl, run_equalIn_int w (d + 3) 30 _ _ _ _ Try.underlying30, ⟨_, _, _, _, rfl, part_s sc30 rfl, part_s sc30 rfl, run_equalIn_int w (d + 3) 30 _ _ _ _ Try.underlying30, ⟨_, _, _, _, rfl, part_s sc5 rfl, part_s sc5 rfl, run_equalIn_int w (d + 3) 5 _ _ _ _ Try.underlying5, ⟨_, _, _, _, rfl, part_s sc5 rfl, part_s sc5 rfl, run_equalIn_int w (d + 3) 5 _ _ _ _ Try.underlying5, ⟨_, _, _, _, rfl, part_s sc5 rfl, part_s sc5 rfl, run_equalIn_int w (d + 3) 5 _ _ _ _ Try.underlying5, rfl, rfl⟩, rfl⟩, rfl⟩, rfl⟩, rfl⟩, rfl⟩, rfl⟩, rfl⟩)
theorem Q35t (x y : T_flow_Record) {xs ys : List Value} (w : World) (hx : xs = [.bool x.f_Key.f_Src.f_Six, .int .u8 (List.getD x.f_Key.f_Src.f_B 0 0), .int .u8 (List.getD x.f_Key.f_Src.f_B 1 0), .int .u8 (List.getD x.f_Key.f_Src.f_B 2 0), .int .u8 (List.getD x.f_Key.f_Src.f_B 3 0), .int .u8 (List.getD x.f_Key.f_Src.f_B 4 0), .int .u8 (List.getD x.f_Key.f_Src.f_B 5 0), .int .u8 (List.getD x.f_Key.f_Src.f_B 6 0), .int .u8 (List.getD x.f_Key.f_Src.f_B 7 0), .int .u8 (List.getD x.f_Key.f_Src.f_B 8 0), .int .u8 (List.getD x.f_Key.f_Src.f_B 9 0), .int .u8 (List.getD x.f_Key.f_Src.f_B 10 0), .int .u8 (List.getD x.f_Key.f_Src.f_B 11 0), .int .u8 (List.getD x.f_Key.f_Src.f_B 12 0), .int .u8 (List.getD x.f_Key.f_Src.f_B 13 0), .int .u8 (List.getD x.f_Key.f_Src.f_B 14 0), .int .u8 (List.getD x.f_Key.f_Src.f_B 15 0), .bool x.f_Key.f_Dst.f_Six, .int .u8 (List.getD x.f_Key.f_Dst.f_B 0 0), .int .u8 (List.getD x.f_Key.f_Dst.f_B 1 0), .int .u8 (List.getD x.f_Key.f_Dst.f_B 2 0), .int .u8 (List.getD x.f_Key.f_Dst.f_B 3 0), .int .u8 (List.getD x.f_Key.f_Dst.f_B 4 0), .int .u8 (List.getD x.f_Key.f_Dst.f_B 5 0), .int .u8 (List.getD x.f_Key.f_Dst.f_B 6 0), .int .u8 (List.getD x.f_Key.f_Dst.f_B 7 0), .int .u8 (List.getD x.f_Key.f_Dst.f_B 8 0), .int .u8 (List.getD x.f_Key.f_Dst.f_B 9 0), .int .u8 (List.getD x.f_Key.f_Dst.f_B 10 0), .int .u8 (List.getD x.f_Key.f_Dst.f_B 11 0), .int .u8 (List.getD x.f_Key.f_Dst.f_B 12 0), .int .u8 (List.getD x.f_Key.f_Dst.f_B 13 0), .int .u8 (List.getD x.f_Key.f_Dst.f_B 14 0), .int .u8 (List.getD x.f_Key.f_Dst.f_B 15 0), .int .u8 x.f_Key.f_Proto, .int .u16 x.f_Key.f_SrcPort, .int .u16 x.f_Key.f_DstPort, .int .u64 x.f_Packets, .int .u64 x.f_Bytes, .int .u64 x.f_First, .int .u64 x.f_Last, .int .u8 x.f_Flags, .int .u8 x.f_Reason, .int .u8 x.f_Class]) (hy : ys = [.bool y.f_Key.f_Src.f_Six, .int .u8 (List.getD y.f_Key.f_Src.f_B 0 0), .int .u8 (List.getD y.f_Key.f_Src.f_B 1 0), .int .u8 (List.getD y.f_Key.f_Src.f_B 2 0), .int .u8 (List.getD y.f_Key.f_Src.f_B 3 0), .int .u8 (List.getD y.f_Key.f_Src.f_B 4 0), .int .u8 (List.getD y.f_Key.f_Src.f_B 5 0), .int .u8 (List.getD y.f_Key.f_Src.f_B 6 0), .int .u8 (List.getD y.f_Key.f_Src.f_B 7 0), .int .u8 (List.getD y.f_Key.f_Src.f_B 8 0), .int .u8 (List.getD y.f_Key.f_Src.f_B 9 0), .int .u8 (List.getD y.f_Key.f_Src.f_B 10 0), .int .u8 (List.getD y.f_Key.f_Src.f_B 11 0), .int .u8 (List.getD y.f_Key.f_Src.f_B 12 0), .int .u8 (List.getD y.f_Key.f_Src.f_B 13 0), .int .u8 (List.getD y.f_Key.f_Src.f_B 14 0), .int .u8 (List.getD y.f_Key.f_Src.f_B 15 0), .bool y.f_Key.f_Dst.f_Six, .int .u8 (List.getD y.f_Key.f_Dst.f_B 0 0), .int .u8 (List.getD y.f_Key.f_Dst.f_B 1 0), .int .u8 (List.getD y.f_Key.f_Dst.f_B 2 0), .int .u8 (List.getD y.f_Key.f_Dst.f_B 3 0), .int .u8 (List.getD y.f_Key.f_Dst.f_B 4 0), .int .u8 (List.getD y.f_Key.f_Dst.f_B 5 0), .int .u8 (List.getD y.f_Key.f_Dst.f_B 6 0), .int .u8 (List.getD y.f_Key.f_Dst.f_B 7 0), .int .u8 (List.getD y.f_Key.f_Dst.f_B 8 0), .int .u8 (List.getD y.f_Key.f_Dst.f_B 9 0), .int .u8 (List.getD y.f_Key.f_Dst.f_B 10 0), .int .u8 (List.getD y.f_Key.f_Dst.f_B 11 0), .int .u8 (List.getD y.f_Key.f_Dst.f_B 12 0), .int .u8 (List.getD y.f_Key.f_Dst.f_B 13 0), .int .u8 (List.getD y.f_Key.f_Dst.f_B 14 0), .int .u8 (List.getD y.f_Key.f_Dst.f_B 15 0), .int .u8 y.f_Key.f_Proto, .int .u16 y.f_Key.f_SrcPort, .int .u16 y.f_Key.f_DstPort, .int .u64 y.f_Packets, .int .u64 y.f_Bytes, .int .u64 y.f_First, .int .u64 y.f_Last, .int .u8 y.f_Flags, .int .u8 y.f_Reason, .int .u8 y.f_Class]) : (Op.equalIn 10000 35 (.agg xs.toArray) (.agg ys.toArray)).run Try.prog w = .ok (q_flow_Record x y) w := by
  subst hx; subst hy; exact Q35 9995 x y w
theorem Q32 (d : Nat) (x y : T_flow_Total) (w : World) : (Op.equalIn (d + 2) 32 (.agg #[.int .u64 x.f_Packets, .int .u64 x.f_Bytes]) (.agg #[.int .u64 y.f_Packets, .int .u64 y.f_Bytes])).run Try.prog w = .ok (q_flow_Total x y) w :=
  (run_equalIn_agg w (d + 1) 32 _ _ (by kernel_rfl) (by kernel_rfl)).trans (EqT.run (tr := [(false, 30, 0), (false, 30, 1)]) (by kernel_rfl) ⟨_, _, _, _, rfl, part_s sc30 rfl, part_s sc30 rfl, run_equalIn_int w (d + 0) 30 _ _ _ _ Try.underlying30, ⟨_, _, _, _, rfl, part_s sc30 rfl, part_s sc30 rfl, run_equalIn_int w (d + 0) 30 _ _ _ _ Try.underlying30, rfl, rfl⟩, rfl⟩)
theorem Q32t (x y : T_flow_Total) {xs ys : List Value} (w : World) (hx : xs = [.int .u64 x.f_Packets, .int .u64 x.f_Bytes]) (hy : ys = [.int .u64 y.f_Packets, .int .u64 y.f_Bytes]) : (Op.equalIn 10000 32 (.agg xs.toArray) (.agg ys.toArray)).run Try.prog w = .ok (q_flow_Total x y) w := by
  subst hx; subst hy; exact Q32 9998 x y w
set_option maxRecDepth 100000 in
set_option maxHeartbeats 40000000 in
theorem c_flow_Specs (w : World) (long1 : Bool) (r : (List T_field_Spec)) (hF : F_flow_Specs long1 = some r) :
    CallsR Try.prog 22 [.bool long1] w (fun v w' => ∃ (A0 : Option Addr) (c0 : Nat), v = .slice A0 r.length c0 ∧ Mem w [] w' [.row A0 c0 79 3 r.length (r.flatMap e_field_Spec)]) := by
  refine calls_KC Try.func22 rfl Try.ntmps22 rfl ?_
  have hM := Mem.init w
  unfold F_flow_Specs at hF
  refine KC.seq ?_
  refine KC.region ?_
  refine RL.val (O.assign rfl) rfl ?_
  refine RL.nil ?_
  refine KQ.then_n ?_
  refine KC.seq ?_
  refine KC.region ?_
  refine RL.val (O.bld (cs := [.int .u16 8, .int .u32 0, .int .u16 4]) bt79 rfl rfl) rfl ?_
  refine RL.val (O.bld (cs := [.int .u16 12, .int .u32 0, .int .u16 4]) bt79 rfl rfl) rfl ?_
  refine RL.eff (E.bsl (enc := e_field_Spec) (xs := [(T_field_Spec.mk 8 0 4), (T_field_Spec.mk 12 0 4)]) hM sl67 ze79 rfl rfl rfl (fun _ => rfl) rfl rfl rfl) rfl fun v w2 hv => ?_
  obtain ⟨A3, rfl, hM, hf⟩ := hv
  refine RL.val (O.assign rfl) rfl ?_
  refine RL.nil ?_
  refine KQ.then_n ?_
  refine KC.cut (fun a w12 => ∃ (A9 : Option Addr) (c10 : Nat) (lv11 : List T_field_Spec), Kn 24 [(3, .slice A9 (lv11).length c10)] a ∧ Mem w [] w12 [.row A9 c10 79 3 (lv11).length ((lv11).flatMap e_field_Spec)] ∧ F_flow_Specs_j1 lv11 = some r) ?_ ?_
  · refine KC.seq ?_
    refine KC.region ?_
    refine RL.val (O.move rfl) rfl ?_
    refine RL.nil ?_
    refine KQ.then_n ?_
    refine KC.cond rfl (fun hc => ?_) (fun hc => ?_)
    · rw [if_pos hc] at hF
      refine KC.region ?_
      refine RL.val (O.bld (cs := [.int .u16 27, .int .u32 0, .int .u16 16]) bt79 rfl rfl) rfl ?_
      refine RL.val (O.bld (cs := [.int .u16 28, .int .u32 0, .int .u16 16]) bt79 rfl rfl) rfl ?_
      refine RL.eff (E.bsl (enc := e_field_Spec) (xs := [(T_field_Spec.mk 27 0 16), (T_field_Spec.mk 28 0 16)]) hM sl67 ze79 rfl rfl rfl (fun _ => rfl) rfl rfl rfl) rfl fun v w21 hv => ?_
      obtain ⟨A22, rfl, hM, hf⟩ := hv
      refine RL.val (O.assign rfl) rfl ?_
      refine RL.nil ?_
      refine KQ.then_k ?_
      have hM := hM.pick [1] rfl (by decide)
      exact fun a ha => ⟨A22, 2, ([(T_field_Spec.mk 27 0 16), (T_field_Spec.mk 28 0 16)]), ha.less (less_cons rfl less_nil), hM, hF⟩
    · rw [if_neg (ne_true hc)] at hF
      refine KC.skip ?_
      refine KQ.then_k ?_
      exact fun a ha => ⟨A3, 2, ([(T_field_Spec.mk 8 0 4), (T_field_Spec.mk 12 0 4)]), ha.less (less_cons rfl less_nil), hM, hF⟩
  · rintro a w12 ⟨A9, c10, lv11, ha, hM, hF⟩
    refine KC.app ha ?_
    clear ha
    unfold F_flow_Specs_j1 at hF
    refine KC.seq ?_
    refine KC.region ?_
    refine RL.val (O.move rfl) rfl ?_
    refine RL.val (O.bld (cs := [.int .u16 4, .int .u32 0, .int .u16 1]) bt79 rfl rfl) rfl ?_
    refine RL.val (O.bld (cs := [.int .u16 7, .int .u32 0, .int .u16 2]) bt79 rfl rfl) rfl ?_
    refine RL.val (O.bld (cs := [.int .u16 11, .int .u32 0, .int .u16 2]) bt79 rfl rfl) rfl ?_
    refine RL.val (O.bld (cs := [.int .u16 1, .int .u32 0, .int .u16 8]) bt79 rfl rfl) rfl ?_
    refine RL.val (O.bld (cs := [.int .u16 2, .int .u32 0, .int .u16 8]) bt79 rfl rfl) rfl ?_
    refine RL.val (O.bld (cs := [.int .u16 152, .int .u32 0, .int .u16 8]) bt79 rfl rfl) rfl ?_
    refine RL.val (O.bld (cs := [.int .u16 153, .int .u32 0, .int .u16 8]) bt79 rfl rfl) rfl ?_
    refine RL.val (O.bld (cs := [.int .u16 6, .int .u32 0, .int .u16 1]) bt79 rfl rfl) rfl ?_
    refine RL.val (O.bld (cs := [.int .u16 136, .int .u32 0, .int .u16 1]) bt79 rfl rfl) rfl ?_
    refine RL.val (O.bld (cs := [.int .u16 1, .int .u32 32473, .int .u16 1]) bt79 rfl rfl) rfl ?_
    refine RL.eff (E.bsl (enc := e_field_Spec) (xs := [(T_field_Spec.mk 4 0 1), (T_field_Spec.mk 7 0 2), (T_field_Spec.mk 11 0 2), (T_field_Spec.mk 1 0 8), (T_field_Spec.mk 2 0 8), (T_field_Spec.mk 152 0 8), (T_field_Spec.mk 153 0 8), (T_field_Spec.mk 6 0 1), (T_field_Spec.mk 136 0 1), (T_field_Spec.mk 1 32473 1)]) hM sl67 ze79 rfl rfl rfl (fun _ => rfl) rfl rfl rfl) rfl fun v w13 hv => ?_
    obtain ⟨A14, rfl, hM, hf⟩ := hv
    obtain ⟨hq19, hF⟩ := cut_some hF
    refine RL.eff (E.app (enc := e_field_Spec) (xs := lv11) (ys := [(T_field_Spec.mk 4 0 1), (T_field_Spec.mk 7 0 2), (T_field_Spec.mk 11 0 2), (T_field_Spec.mk 1 0 8), (T_field_Spec.mk 2 0 8), (T_field_Spec.mk 152 0 8), (T_field_Spec.mk 153 0 8), (T_field_Spec.mk 6 0 1), (T_field_Spec.mk 136 0 1), (T_field_Spec.mk 1 32473 1)]) (j := 0) hM rfl sl67 ze79 rfl rfl rfl rfl rfl (hM.rd (i := 1) rfl) (fun _ => One.all rfl) (of_decide_eq_true hq19)) rfl fun v w18 hv => ?_
    obtain ⟨A16, c17, rfl, hM⟩ := hv
    refine RL.val (O.assign rfl) rfl ?_
    refine RL.nil ?_
    refine KQ.then_n ?_
    refine KC.ret ?_
    obtain rfl := Option.some.inj hF
    have hM := hM.pick [0] rfl (by decide)
    refine KQ.rets Try.results22 (RVs.cons (RV.tm rfl) RVs.nil) ?_
    exact ⟨_, rfl, A16, c17, rfl, hM⟩
set_option maxRecDepth 100000 in
set_option maxHeartbeats 40000000 in
theorem c_flow_Start (w : World) (kv1 : T_packet_Key) (class2 : Int) (tick3 : Int) (r : T_flow_Record) (hF : F_flow_Start kv1 class2 tick3 = some r) :
    CallsR Try.prog 7 [.agg #[.bool kv1.f_Src.f_Six, .int .u8 (List.getD kv1.f_Src.f_B 0 0), .int .u8 (List.getD kv1.f_Src.f_B 1 0), .int .u8 (List.getD kv1.f_Src.f_B 2 0), .int .u8 (List.getD kv1.f_Src.f_B 3 0), .int .u8 (List.getD kv1.f_Src.f_B 4 0), .int .u8 (List.getD kv1.f_Src.f_B 5 0), .int .u8 (List.getD kv1.f_Src.f_B 6 0), .int .u8 (List.getD kv1.f_Src.f_B 7 0), .int .u8 (List.getD kv1.f_Src.f_B 8 0), .int .u8 (List.getD kv1.f_Src.f_B 9 0), .int .u8 (List.getD kv1.f_Src.f_B 10 0), .int .u8 (List.getD kv1.f_Src.f_B 11 0), .int .u8 (List.getD kv1.f_Src.f_B 12 0), .int .u8 (List.getD kv1.f_Src.f_B 13 0), .int .u8 (List.getD kv1.f_Src.f_B 14 0), .int .u8 (List.getD kv1.f_Src.f_B 15 0), .bool kv1.f_Dst.f_Six, .int .u8 (List.getD kv1.f_Dst.f_B 0 0), .int .u8 (List.getD kv1.f_Dst.f_B 1 0), .int .u8 (List.getD kv1.f_Dst.f_B 2 0), .int .u8 (List.getD kv1.f_Dst.f_B 3 0), .int .u8 (List.getD kv1.f_Dst.f_B 4 0), .int .u8 (List.getD kv1.f_Dst.f_B 5 0), .int .u8 (List.getD kv1.f_Dst.f_B 6 0), .int .u8 (List.getD kv1.f_Dst.f_B 7 0), .int .u8 (List.getD kv1.f_Dst.f_B 8 0), .int .u8 (List.getD kv1.f_Dst.f_B 9 0), .int .u8 (List.getD kv1.f_Dst.f_B 10 0), .int .u8 (List.getD kv1.f_Dst.f_B 11 0), .int .u8 (List.getD kv1.f_Dst.f_B 12 0), .int .u8 (List.getD kv1.f_Dst.f_B 13 0), .int .u8 (List.getD kv1.f_Dst.f_B 14 0), .int .u8 (List.getD kv1.f_Dst.f_B 15 0), .int .u8 kv1.f_Proto, .int .u16 kv1.f_SrcPort, .int .u16 kv1.f_DstPort], .int .u8 class2, .int .u64 tick3] w (fun v w' => v = .agg #[.bool r.f_Key.f_Src.f_Six, .int .u8 (List.getD r.f_Key.f_Src.f_B 0 0), .int .u8 (List.getD r.f_Key.f_Src.f_B 1 0), .int .u8 (List.getD r.f_Key.f_Src.f_B 2 0), .int .u8 (List.getD r.f_Key.f_Src.f_B 3 0), .int .u8 (List.getD r.f_Key.f_Src.f_B 4 0), .int .u8 (List.getD r.f_Key.f_Src.f_B 5 0), .int .u8 (List.getD r.f_Key.f_Src.f_B 6 0), .int .u8 (List.getD r.f_Key.f_Src.f_B 7 0), .int .u8 (List.getD r.f_Key.f_Src.f_B 8 0), .int .u8 (List.getD r.f_Key.f_Src.f_B 9 0), .int .u8 (List.getD r.f_Key.f_Src.f_B 10 0), .int .u8 (List.getD r.f_Key.f_Src.f_B 11 0), .int .u8 (List.getD r.f_Key.f_Src.f_B 12 0), .int .u8 (List.getD r.f_Key.f_Src.f_B 13 0), .int .u8 (List.getD r.f_Key.f_Src.f_B 14 0), .int .u8 (List.getD r.f_Key.f_Src.f_B 15 0), .bool r.f_Key.f_Dst.f_Six, .int .u8 (List.getD r.f_Key.f_Dst.f_B 0 0), .int .u8 (List.getD r.f_Key.f_Dst.f_B 1 0), .int .u8 (List.getD r.f_Key.f_Dst.f_B 2 0), .int .u8 (List.getD r.f_Key.f_Dst.f_B 3 0), .int .u8 (List.getD r.f_Key.f_Dst.f_B 4 0), .int .u8 (List.getD r.f_Key.f_Dst.f_B 5 0), .int .u8 (List.getD r.f_Key.f_Dst.f_B 6 0), .int .u8 (List.getD r.f_Key.f_Dst.f_B 7 0), .int .u8 (List.getD r.f_Key.f_Dst.f_B 8 0), .int .u8 (List.getD r.f_Key.f_Dst.f_B 9 0), .int .u8 (List.getD r.f_Key.f_Dst.f_B 10 0), .int .u8 (List.getD r.f_Key.f_Dst.f_B 11 0), .int .u8 (List.getD r.f_Key.f_Dst.f_B 12 0), .int .u8 (List.getD r.f_Key.f_Dst.f_B 13 0), .int .u8 (List.getD r.f_Key.f_Dst.f_B 14 0), .int .u8 (List.getD r.f_Key.f_Dst.f_B 15 0), .int .u8 r.f_Key.f_Proto, .int .u16 r.f_Key.f_SrcPort, .int .u16 r.f_Key.f_DstPort, .int .u64 r.f_Packets, .int .u64 r.f_Bytes, .int .u64 r.f_First, .int .u64 r.f_Last, .int .u8 r.f_Flags, .int .u8 r.f_Reason, .int .u8 r.f_Class] ∧ Mem w [] w' []) := by
  refine calls_KC Try.func7 rfl Try.ntmps7 rfl ?_
  have hM := Mem.init w
  unfold F_flow_Start at hF
  refine KC.seq ?_
  refine KC.region ?_
  refine RL.eff (E.box (vs := [.bool kv1.f_Src.f_Six, .int .u8 (List.getD kv1.f_Src.f_B 0 0), .int .u8 (List.getD kv1.f_Src.f_B 1 0), .int .u8 (List.getD kv1.f_Src.f_B 2 0), .int .u8 (List.getD kv1.f_Src.f_B 3 0), .int .u8 (List.getD kv1.f_Src.f_B 4 0), .int .u8 (List.getD kv1.f_Src.f_B 5 0), .int .u8 (List.getD kv1.f_Src.f_B 6 0), .int .u8 (List.getD kv1.f_Src.f_B 7 0), .int .u8 (List.getD kv1.f_Src.f_B 8 0), .int .u8 (List.getD kv1.f_Src.f_B 9 0), .int .u8 (List.getD kv1.f_Src.f_B 10 0), .int .u8 (List.getD kv1.f_Src.f_B 11 0), .int .u8 (List.getD kv1.f_Src.f_B 12 0), .int .u8 (List.getD kv1.f_Src.f_B 13 0), .int .u8 (List.getD kv1.f_Src.f_B 14 0), .int .u8 (List.getD kv1.f_Src.f_B 15 0), .bool kv1.f_Dst.f_Six, .int .u8 (List.getD kv1.f_Dst.f_B 0 0), .int .u8 (List.getD kv1.f_Dst.f_B 1 0), .int .u8 (List.getD kv1.f_Dst.f_B 2 0), .int .u8 (List.getD kv1.f_Dst.f_B 3 0), .int .u8 (List.getD kv1.f_Dst.f_B 4 0), .int .u8 (List.getD kv1.f_Dst.f_B 5 0), .int .u8 (List.getD kv1.f_Dst.f_B 6 0), .int .u8 (List.getD kv1.f_Dst.f_B 7 0), .int .u8 (List.getD kv1.f_Dst.f_B 8 0), .int .u8 (List.getD kv1.f_Dst.f_B 9 0), .int .u8 (List.getD kv1.f_Dst.f_B 10 0), .int .u8 (List.getD kv1.f_Dst.f_B 11 0), .int .u8 (List.getD kv1.f_Dst.f_B 12 0), .int .u8 (List.getD kv1.f_Dst.f_B 13 0), .int .u8 (List.getD kv1.f_Dst.f_B 14 0), .int .u8 (List.getD kv1.f_Dst.f_B 15 0), .int .u8 kv1.f_Proto, .int .u16 kv1.f_SrcPort, .int .u16 kv1.f_DstPort]) hM rfl rfl) rfl fun v w5 hv => ?_
  obtain ⟨g4, rfl, hM, hf⟩ := hv
  refine RL.eff (E.alloc hM ze35) rfl fun v w8 hv => ?_
  obtain ⟨g7, rfl, hM, hf⟩ := hv
  refine RL.nil ?_
  refine KQ.then_n ?_
  refine KC.seq ?_
  refine KC.region ?_
  refine RL.val (O.loadN (cs := [.bool kv1.f_Src.f_Six, .int .u8 (List.getD kv1.f_Src.f_B 0 0), .int .u8 (List.getD kv1.f_Src.f_B 1 0), .int .u8 (List.getD kv1.f_Src.f_B 2 0), .int .u8 (List.getD kv1.f_Src.f_B 3 0), .int .u8 (List.getD kv1.f_Src.f_B 4 0), .int .u8 (List.getD kv1.f_Src.f_B 5 0), .int .u8 (List.getD kv1.f_Src.f_B 6 0), .int .u8 (List.getD kv1.f_Src.f_B 7 0), .int .u8 (List.getD kv1.f_Src.f_B 8 0), .int .u8 (List.getD kv1.f_Src.f_B 9 0), .int .u8 (List.getD kv1.f_Src.f_B 10 0), .int .u8 (List.getD kv1.f_Src.f_B 11 0), .int .u8 (List.getD kv1.f_Src.f_B 12 0), .int .u8 (List.getD kv1.f_Src.f_B 13 0), .int .u8 (List.getD kv1.f_Src.f_B 14 0), .int .u8 (List.getD kv1.f_Src.f_B 15 0), .bool kv1.f_Dst.f_Six, .int .u8 (List.getD kv1.f_Dst.f_B 0 0), .int .u8 (List.getD kv1.f_Dst.f_B 1 0), .int .u8 (List.getD kv1.f_Dst.f_B 2 0), .int .u8 (List.getD kv1.f_Dst.f_B 3 0), .int .u8 (List.getD kv1.f_Dst.f_B 4 0), .int .u8 (List.getD kv1.f_Dst.f_B 5 0), .int .u8 (List.getD kv1.f_Dst.f_B 6 0), .int .u8 (List.getD kv1.f_Dst.f_B 7 0), .int .u8 (List.getD kv1.f_Dst.f_B 8 0), .int .u8 (List.getD kv1.f_Dst.f_B 9 0), .int .u8 (List.getD kv1.f_Dst.f_B 10 0), .int .u8 (List.getD kv1.f_Dst.f_B 11 0), .int .u8 (List.getD kv1.f_Dst.f_B 12 0), .int .u8 (List.getD kv1.f_Dst.f_B 13 0), .int .u8 (List.getD kv1.f_Dst.f_B 14 0), .int .u8 (List.getD kv1.f_Dst.f_B 15 0), .int .u8 kv1.f_Proto, .int .u16 kv1.f_SrcPort, .int .u16 kv1.f_DstPort]) ag27 rfl (Cs.addsN [] ((hM.bx (i := 0) rfl)) rfl)) rfl ?_
  refine RL.val (O.move rfl) rfl ?_
  refine RL.val (O.move rfl) rfl ?_
  refine RL.val (O.move rfl) rfl ?_
  refine RL.val (O.bld (cs := [.bool kv1.f_Src.f_Six, .int .u8 (List.getD kv1.f_Src.f_B 0 0), .int .u8 (List.getD kv1.f_Src.f_B 1 0), .int .u8 (List.getD kv1.f_Src.f_B 2 0), .int .u8 (List.getD kv1.f_Src.f_B 3 0), .int .u8 (List.getD kv1.f_Src.f_B 4 0), .int .u8 (List.getD kv1.f_Src.f_B 5 0), .int .u8 (List.getD kv1.f_Src.f_B 6 0), .int .u8 (List.getD kv1.f_Src.f_B 7 0), .int .u8 (List.getD kv1.f_Src.f_B 8 0), .int .u8 (List.getD kv1.f_Src.f_B 9 0), .int .u8 (List.getD kv1.f_Src.f_B 10 0), .int .u8 (List.getD kv1.f_Src.f_B 11 0), .int .u8 (List.getD kv1.f_Src.f_B 12 0), .int .u8 (List.getD kv1.f_Src.f_B 13 0), .int .u8 (List.getD kv1.f_Src.f_B 14 0), .int .u8 (List.getD kv1.f_Src.f_B 15 0), .bool kv1.f_Dst.f_Six, .int .u8 (List.getD kv1.f_Dst.f_B 0 0), .int .u8 (List.getD kv1.f_Dst.f_B 1 0), .int .u8 (List.getD kv1.f_Dst.f_B 2 0), .int .u8 (List.getD kv1.f_Dst.f_B 3 0), .int .u8 (List.getD kv1.f_Dst.f_B 4 0), .int .u8 (List.getD kv1.f_Dst.f_B 5 0), .int .u8 (List.getD kv1.f_Dst.f_B 6 0), .int .u8 (List.getD kv1.f_Dst.f_B 7 0), .int .u8 (List.getD kv1.f_Dst.f_B 8 0), .int .u8 (List.getD kv1.f_Dst.f_B 9 0), .int .u8 (List.getD kv1.f_Dst.f_B 10 0), .int .u8 (List.getD kv1.f_Dst.f_B 11 0), .int .u8 (List.getD kv1.f_Dst.f_B 12 0), .int .u8 (List.getD kv1.f_Dst.f_B 13 0), .int .u8 (List.getD kv1.f_Dst.f_B 14 0), .int .u8 (List.getD kv1.f_Dst.f_B 15 0), .int .u8 kv1.f_Proto, .int .u16 kv1.f_SrcPort, .int .u16 kv1.f_DstPort, .int .u64 0, .int .u64 0, .int .u64 tick3, .int .u64 tick3, .int .u8 0, .int .u8 0, .int .u8 class2]) bt35 rfl rfl) rfl ?_
  refine RL.effs (E.stB (j := 1) (off := 0) (vs := [.bool kv1.f_Src.f_Six, .int .u8 (List.getD kv1.f_Src.f_B 0 0), .int .u8 (List.getD kv1.f_Src.f_B 1 0), .int .u8 (List.getD kv1.f_Src.f_B 2 0), .int .u8 (List.getD kv1.f_Src.f_B 3 0), .int .u8 (List.getD kv1.f_Src.f_B 4 0), .int .u8 (List.getD kv1.f_Src.f_B 5 0), .int .u8 (List.getD kv1.f_Src.f_B 6 0), .int .u8 (List.getD kv1.f_Src.f_B 7 0), .int .u8 (List.getD kv1.f_Src.f_B 8 0), .int .u8 (List.getD kv1.f_Src.f_B 9 0), .int .u8 (List.getD kv1.f_Src.f_B 10 0), .int .u8 (List.getD kv1.f_Src.f_B 11 0), .int .u8 (List.getD kv1.f_Src.f_B 12 0), .int .u8 (List.getD kv1.f_Src.f_B 13 0), .int .u8 (List.getD kv1.f_Src.f_B 14 0), .int .u8 (List.getD kv1.f_Src.f_B 15 0), .bool kv1.f_Dst.f_Six, .int .u8 (List.getD kv1.f_Dst.f_B 0 0), .int .u8 (List.getD kv1.f_Dst.f_B 1 0), .int .u8 (List.getD kv1.f_Dst.f_B 2 0), .int .u8 (List.getD kv1.f_Dst.f_B 3 0), .int .u8 (List.getD kv1.f_Dst.f_B 4 0), .int .u8 (List.getD kv1.f_Dst.f_B 5 0), .int .u8 (List.getD kv1.f_Dst.f_B 6 0), .int .u8 (List.getD kv1.f_Dst.f_B 7 0), .int .u8 (List.getD kv1.f_Dst.f_B 8 0), .int .u8 (List.getD kv1.f_Dst.f_B 9 0), .int .u8 (List.getD kv1.f_Dst.f_B 10 0), .int .u8 (List.getD kv1.f_Dst.f_B 11 0), .int .u8 (List.getD kv1.f_Dst.f_B 12 0), .int .u8 (List.getD kv1.f_Dst.f_B 13 0), .int .u8 (List.getD kv1.f_Dst.f_B 14 0), .int .u8 (List.getD kv1.f_Dst.f_B 15 0), .int .u8 kv1.f_Proto, .int .u16 kv1.f_SrcPort, .int .u16 kv1.f_DstPort, .int .u64 0, .int .u64 0, .int .u64 tick3, .int .u64 tick3, .int .u8 0, .int .u8 0, .int .u8 class2]) (cs' := [.bool kv1.f_Src.f_Six, .int .u8 (List.getD kv1.f_Src.f_B 0 0), .int .u8 (List.getD kv1.f_Src.f_B 1 0), .int .u8 (List.getD kv1.f_Src.f_B 2 0), .int .u8 (List.getD kv1.f_Src.f_B 3 0), .int .u8 (List.getD kv1.f_Src.f_B 4 0), .int .u8 (List.getD kv1.f_Src.f_B 5 0), .int .u8 (List.getD kv1.f_Src.f_B 6 0), .int .u8 (List.getD kv1.f_Src.f_B 7 0), .int .u8 (List.getD kv1.f_Src.f_B 8 0), .int .u8 (List.getD kv1.f_Src.f_B 9 0), .int .u8 (List.getD kv1.f_Src.f_B 10 0), .int .u8 (List.getD kv1.f_Src.f_B 11 0), .int .u8 (List.getD kv1.f_Src.f_B 12 0), .int .u8 (List.getD kv1.f_Src.f_B 13 0), .int .u8 (List.getD kv1.f_Src.f_B 14 0), .int .u8 (List.getD kv1.f_Src.f_B 15 0), .bool kv1.f_Dst.f_Six, .int .u8 (List.getD kv1.f_Dst.f_B 0 0), .int .u8 (List.getD kv1.f_Dst.f_B 1 0), .int .u8 (List.getD kv1.f_Dst.f_B 2 0), .int .u8 (List.getD kv1.f_Dst.f_B 3 0), .int .u8 (List.getD kv1.f_Dst.f_B 4 0), .int .u8 (List.getD kv1.f_Dst.f_B 5 0), .int .u8 (List.getD kv1.f_Dst.f_B 6 0), .int .u8 (List.getD kv1.f_Dst.f_B 7 0), .int .u8 (List.getD kv1.f_Dst.f_B 8 0), .int .u8 (List.getD kv1.f_Dst.f_B 9 0), .int .u8 (List.getD kv1.f_Dst.f_B 10 0), .int .u8 (List.getD kv1.f_Dst.f_B 11 0), .int .u8 (List.getD kv1.f_Dst.f_B 12 0), .int .u8 (List.getD kv1.f_Dst.f_B 13 0), .int .u8 (List.getD kv1.f_Dst.f_B 14 0), .int .u8 (List.getD kv1.f_Dst.f_B 15 0), .int .u8 kv1.f_Proto, .int .u16 kv1.f_SrcPort, .int .u16 kv1.f_DstPort, .int .u64 0, .int .u64 0, .int .u64 tick3, .int .u64 tick3, .int .u8 0, .int .u8 0, .int .u8 class2]) hM rfl sz35 rfl (adds_eq [] rfl) rfl rfl (One.all rfl) rfl rfl) fun w10 hM => ?_
  refine RL.nil ?_
  refine KQ.then_n ?_
  refine KC.ret ?_
  obtain rfl := Option.some.inj hF
  have hb11 := hM.bx (i := 1) rfl
  have hM := hM.pick [] rfl (by decide)
  refine KQ.rets Try.results7 (RVs.cons (RV.cN (cs := [.bool kv1.f_Src.f_Six, .int .u8 (List.getD kv1.f_Src.f_B 0 0), .int .u8 (List.getD kv1.f_Src.f_B 1 0), .int .u8 (List.getD kv1.f_Src.f_B 2 0), .int .u8 (List.getD kv1.f_Src.f_B 3 0), .int .u8 (List.getD kv1.f_Src.f_B 4 0), .int .u8 (List.getD kv1.f_Src.f_B 5 0), .int .u8 (List.getD kv1.f_Src.f_B 6 0), .int .u8 (List.getD kv1.f_Src.f_B 7 0), .int .u8 (List.getD kv1.f_Src.f_B 8 0), .int .u8 (List.getD kv1.f_Src.f_B 9 0), .int .u8 (List.getD kv1.f_Src.f_B 10 0), .int .u8 (List.getD kv1.f_Src.f_B 11 0), .int .u8 (List.getD kv1.f_Src.f_B 12 0), .int .u8 (List.getD kv1.f_Src.f_B 13 0), .int .u8 (List.getD kv1.f_Src.f_B 14 0), .int .u8 (List.getD kv1.f_Src.f_B 15 0), .bool kv1.f_Dst.f_Six, .int .u8 (List.getD kv1.f_Dst.f_B 0 0), .int .u8 (List.getD kv1.f_Dst.f_B 1 0), .int .u8 (List.getD kv1.f_Dst.f_B 2 0), .int .u8 (List.getD kv1.f_Dst.f_B 3 0), .int .u8 (List.getD kv1.f_Dst.f_B 4 0), .int .u8 (List.getD kv1.f_Dst.f_B 5 0), .int .u8 (List.getD kv1.f_Dst.f_B 6 0), .int .u8 (List.getD kv1.f_Dst.f_B 7 0), .int .u8 (List.getD kv1.f_Dst.f_B 8 0), .int .u8 (List.getD kv1.f_Dst.f_B 9 0), .int .u8 (List.getD kv1.f_Dst.f_B 10 0), .int .u8 (List.getD kv1.f_Dst.f_B 11 0), .int .u8 (List.getD kv1.f_Dst.f_B 12 0), .int .u8 (List.getD kv1.f_Dst.f_B 13 0), .int .u8 (List.getD kv1.f_Dst.f_B 14 0), .int .u8 (List.getD kv1.f_Dst.f_B 15 0), .int .u8 kv1.f_Proto, .int .u16 kv1.f_SrcPort, .int .u16 kv1.f_DstPort, .int .u64 0, .int .u64 0, .int .u64 tick3, .int .u64 tick3, .int .u8 0, .int .u8 0, .int .u8 class2]) rfl ag35 hb11) RVs.nil) ?_
  exact ⟨_, rfl, rfl, hM⟩
set_option maxRecDepth 100000 in
set_option maxHeartbeats 40000000 in
theorem c_flow_Record_Total (w : World) (rv1 : T_flow_Record) (r : T_flow_Total) (hF : F_flow_Record_Total rv1 = some r) :
    CallsR Try.prog 9 [.agg #[.bool rv1.f_Key.f_Src.f_Six, .int .u8 (List.getD rv1.f_Key.f_Src.f_B 0 0), .int .u8 (List.getD rv1.f_Key.f_Src.f_B 1 0), .int .u8 (List.getD rv1.f_Key.f_Src.f_B 2 0), .int .u8 (List.getD rv1.f_Key.f_Src.f_B 3 0), .int .u8 (List.getD rv1.f_Key.f_Src.f_B 4 0), .int .u8 (List.getD rv1.f_Key.f_Src.f_B 5 0), .int .u8 (List.getD rv1.f_Key.f_Src.f_B 6 0), .int .u8 (List.getD rv1.f_Key.f_Src.f_B 7 0), .int .u8 (List.getD rv1.f_Key.f_Src.f_B 8 0), .int .u8 (List.getD rv1.f_Key.f_Src.f_B 9 0), .int .u8 (List.getD rv1.f_Key.f_Src.f_B 10 0), .int .u8 (List.getD rv1.f_Key.f_Src.f_B 11 0), .int .u8 (List.getD rv1.f_Key.f_Src.f_B 12 0), .int .u8 (List.getD rv1.f_Key.f_Src.f_B 13 0), .int .u8 (List.getD rv1.f_Key.f_Src.f_B 14 0), .int .u8 (List.getD rv1.f_Key.f_Src.f_B 15 0), .bool rv1.f_Key.f_Dst.f_Six, .int .u8 (List.getD rv1.f_Key.f_Dst.f_B 0 0), .int .u8 (List.getD rv1.f_Key.f_Dst.f_B 1 0), .int .u8 (List.getD rv1.f_Key.f_Dst.f_B 2 0), .int .u8 (List.getD rv1.f_Key.f_Dst.f_B 3 0), .int .u8 (List.getD rv1.f_Key.f_Dst.f_B 4 0), .int .u8 (List.getD rv1.f_Key.f_Dst.f_B 5 0), .int .u8 (List.getD rv1.f_Key.f_Dst.f_B 6 0), .int .u8 (List.getD rv1.f_Key.f_Dst.f_B 7 0), .int .u8 (List.getD rv1.f_Key.f_Dst.f_B 8 0), .int .u8 (List.getD rv1.f_Key.f_Dst.f_B 9 0), .int .u8 (List.getD rv1.f_Key.f_Dst.f_B 10 0), .int .u8 (List.getD rv1.f_Key.f_Dst.f_B 11 0), .int .u8 (List.getD rv1.f_Key.f_Dst.f_B 12 0), .int .u8 (List.getD rv1.f_Key.f_Dst.f_B 13 0), .int .u8 (List.getD rv1.f_Key.f_Dst.f_B 14 0), .int .u8 (List.getD rv1.f_Key.f_Dst.f_B 15 0), .int .u8 rv1.f_Key.f_Proto, .int .u16 rv1.f_Key.f_SrcPort, .int .u16 rv1.f_Key.f_DstPort, .int .u64 rv1.f_Packets, .int .u64 rv1.f_Bytes, .int .u64 rv1.f_First, .int .u64 rv1.f_Last, .int .u8 rv1.f_Flags, .int .u8 rv1.f_Reason, .int .u8 rv1.f_Class]] w (fun v w' => v = .agg #[.int .u64 r.f_Packets, .int .u64 r.f_Bytes] ∧ Mem w [] w' []) := by
  refine calls_KC Try.func9 rfl Try.ntmps9 rfl ?_
  have hM := Mem.init w
  unfold F_flow_Record_Total at hF
  refine KC.seq ?_
  refine KC.region ?_
  refine RL.eff (E.box (vs := [.bool rv1.f_Key.f_Src.f_Six, .int .u8 (List.getD rv1.f_Key.f_Src.f_B 0 0), .int .u8 (List.getD rv1.f_Key.f_Src.f_B 1 0), .int .u8 (List.getD rv1.f_Key.f_Src.f_B 2 0), .int .u8 (List.getD rv1.f_Key.f_Src.f_B 3 0), .int .u8 (List.getD rv1.f_Key.f_Src.f_B 4 0), .int .u8 (List.getD rv1.f_Key.f_Src.f_B 5 0), .int .u8 (List.getD rv1.f_Key.f_Src.f_B 6 0), .int .u8 (List.getD rv1.f_Key.f_Src.f_B 7 0), .int .u8 (List.getD rv1.f_Key.f_Src.f_B 8 0), .int .u8 (List.getD rv1.f_Key.f_Src.f_B 9 0), .int .u8 (List.getD rv1.f_Key.f_Src.f_B 10 0), .int .u8 (List.getD rv1.f_Key.f_Src.f_B 11 0), .int .u8 (List.getD rv1.f_Key.f_Src.f_B 12 0), .int .u8 (List.getD rv1.f_Key.f_Src.f_B 13 0), .int .u8 (List.getD rv1.f_Key.f_Src.f_B 14 0), .int .u8 (List.getD rv1.f_Key.f_Src.f_B 15 0), .bool rv1.f_Key.f_Dst.f_Six, .int .u8 (List.getD rv1.f_Key.f_Dst.f_B 0 0), .int .u8 (List.getD rv1.f_Key.f_Dst.f_B 1 0), .int .u8 (List.getD rv1.f_Key.f_Dst.f_B 2 0), .int .u8 (List.getD rv1.f_Key.f_Dst.f_B 3 0), .int .u8 (List.getD rv1.f_Key.f_Dst.f_B 4 0), .int .u8 (List.getD rv1.f_Key.f_Dst.f_B 5 0), .int .u8 (List.getD rv1.f_Key.f_Dst.f_B 6 0), .int .u8 (List.getD rv1.f_Key.f_Dst.f_B 7 0), .int .u8 (List.getD rv1.f_Key.f_Dst.f_B 8 0), .int .u8 (List.getD rv1.f_Key.f_Dst.f_B 9 0), .int .u8 (List.getD rv1.f_Key.f_Dst.f_B 10 0), .int .u8 (List.getD rv1.f_Key.f_Dst.f_B 11 0), .int .u8 (List.getD rv1.f_Key.f_Dst.f_B 12 0), .int .u8 (List.getD rv1.f_Key.f_Dst.f_B 13 0), .int .u8 (List.getD rv1.f_Key.f_Dst.f_B 14 0), .int .u8 (List.getD rv1.f_Key.f_Dst.f_B 15 0), .int .u8 rv1.f_Key.f_Proto, .int .u16 rv1.f_Key.f_SrcPort, .int .u16 rv1.f_Key.f_DstPort, .int .u64 rv1.f_Packets, .int .u64 rv1.f_Bytes, .int .u64 rv1.f_First, .int .u64 rv1.f_Last, .int .u8 rv1.f_Flags, .int .u8 rv1.f_Reason, .int .u8 rv1.f_Class]) hM rfl rfl) rfl fun v w3 hv => ?_
  obtain ⟨g2, rfl, hM, hf⟩ := hv
  refine RL.eff (E.alloc hM ze32) rfl fun v w6 hv => ?_
  obtain ⟨g5, rfl, hM, hf⟩ := hv
  refine RL.nil ?_
  refine KQ.then_n ?_
  refine KC.seq ?_
  refine KC.region ?_
  refine RL.val (O.fldA fl35_1 (by decide) rfl) rfl ?_
  refine RL.val (O.load sc30 rfl (Cs.adds [37] ((hM.bx (i := 0) rfl)) rfl)) rfl ?_
  refine RL.val (O.fldA fl35_2 (by decide) rfl) rfl ?_
  refine RL.val (O.load sc30 rfl (Cs.adds [38] ((hM.bx (i := 0) rfl)) rfl)) rfl ?_
  refine RL.val (O.bld (cs := [.int .u64 rv1.f_Packets, .int .u64 rv1.f_Bytes]) bt32 rfl rfl) rfl ?_
  refine RL.effs (E.stB (j := 1) (off := 0) (vs := [.int .u64 rv1.f_Packets, .int .u64 rv1.f_Bytes]) (cs' := [.int .u64 rv1.f_Packets, .int .u64 rv1.f_Bytes]) hM rfl sz32 rfl (adds_eq [] rfl) rfl rfl (One.all rfl) rfl rfl) fun w8 hM => ?_
  refine RL.nil ?_
  refine KQ.then_n ?_
  refine KC.ret ?_
  obtain rfl := Option.some.inj hF
  have hb9 := hM.bx (i := 1) rfl
  have hM := hM.pick [] rfl (by decide)
  refine KQ.rets Try.results9 (RVs.cons (RV.cN (cs := [.int .u64 rv1.f_Packets, .int .u64 rv1.f_Bytes]) rfl ag32 hb9) RVs.nil) ?_
  exact ⟨_, rfl, rfl, hM⟩
set_option maxRecDepth 100000 in
set_option maxHeartbeats 40000000 in
theorem c_flow_plus (w : World) (av1 : Int) (b2 : Int) (r : Int) (hF : F_flow_plus av1 b2 = some r) :
    CallsR Try.prog 29 [.int .u64 av1, .int .u64 b2] w (fun v w' => v = .int .u64 r ∧ Mem w [] w' []) := by
  refine calls_KC Try.func29 rfl Try.ntmps29 rfl ?_
  have hM := Mem.init w
  unfold F_flow_plus at hF
  refine KC.seq ?_
  refine KC.region ?_
  refine RL.val (O.assign rfl) rfl ?_
  refine RL.nil ?_
  refine KQ.then_n ?_
  refine KC.seq ?_
  refine KC.region ?_
  refine RL.val (O.move rfl) rfl ?_
  refine RL.val (O.move rfl) rfl ?_
  refine RL.val (O.add64 Try.func38 (by kernel_rfl) (by kernel_rfl) (by kernel_rfl) (by kernel_rfl) rfl rfl rfl) rfl ?_
  refine RL.val (O.move rfl) rfl ?_
  refine RL.val (O.ext rfl rfl) rfl ?_
  refine RL.val (O.ext rfl rfl) rfl ?_
  refine RL.val (O.assign rfl) rfl ?_
  refine RL.val (O.assign rfl) rfl ?_
  refine RL.nil ?_
  refine KQ.then_n ?_
  refine KC.seq ?_
  refine KC.seq ?_
  refine KC.region ?_
  refine RL.val (O.move rfl) rfl ?_
  refine RL.val (O.gtr rfl rfl) rfl ?_
  refine RL.nil ?_
  refine KQ.then_n ?_
  refine KC.cond rfl (fun hc => ?_) (fun hc => ?_)
  · rw [if_pos hc] at hF
    refine KC.seq ?_
    refine KC.region ?_
    refine RL.val (O.assign rfl) rfl ?_
    refine RL.nil ?_
    refine KQ.then_n ?_
    refine KC.ret ?_
    refine KQ.then_r ?_
    obtain rfl := Option.some.inj hF
    refine KQ.rets Try.results29 (RVs.cons (RV.tm rfl) RVs.nil) ?_
    exact ⟨_, rfl, rfl, hM⟩
  · rw [if_neg (ne_true hc)] at hF
    refine KC.skip ?_
    refine KQ.then_n ?_
    refine KC.seq ?_
    refine KC.region ?_
    refine RL.val (O.move rfl) rfl ?_
    refine RL.val (O.assign rfl) rfl ?_
    refine RL.nil ?_
    refine KQ.then_n ?_
    refine KC.ret ?_
    obtain rfl := Option.some.inj hF
    refine KQ.rets Try.results29 (RVs.cons (RV.tm rfl) RVs.nil) ?_
    exact ⟨_, rfl, rfl, hM⟩
set_option maxRecDepth 100000 in
set_option maxHeartbeats 40000000 in
theorem c_flow_Total_Plus (w : World) (t1 : T_flow_Total) (u2 : T_flow_Total) (r : T_flow_Total) (hF : F_flow_Total_Plus t1 u2 = some r) :
    CallsR Try.prog 10 [.agg #[.int .u64 t1.f_Packets, .int .u64 t1.f_Bytes], .agg #[.int .u64 u2.f_Packets, .int .u64 u2.f_Bytes]] w (fun v w' => v = .agg #[.int .u64 r.f_Packets, .int .u64 r.f_Bytes] ∧ Mem w [] w' []) := by
  refine calls_KC Try.func10 rfl Try.ntmps10 rfl ?_
  have hM := Mem.init w
  unfold F_flow_Total_Plus at hF
  refine KC.seq ?_
  refine KC.region ?_
  refine RL.eff (E.box (vs := [.int .u64 t1.f_Packets, .int .u64 t1.f_Bytes]) hM rfl rfl) rfl fun v w4 hv => ?_
  obtain ⟨g3, rfl, hM, hf⟩ := hv
  refine RL.eff (E.box (vs := [.int .u64 u2.f_Packets, .int .u64 u2.f_Bytes]) hM rfl rfl) rfl fun v w7 hv => ?_
  obtain ⟨g6, rfl, hM, hf⟩ := hv
  refine RL.eff (E.alloc hM ze32) rfl fun v w10 hv => ?_
  obtain ⟨g9, rfl, hM, hf⟩ := hv
  refine RL.nil ?_
  refine KQ.then_n ?_
  refine KC.seq ?_
  have hM := hM.drewN 1
  refine KC.draw [11] [4, 9, 11] (.ofList [0, 1, 2, 3, 5, 6, 7, 8, 4, 9, 10, 11]) moP (by kernel_rfl) ?_
  refine RD.q rfl rfl rfl (fun w' hf => O.fldA fl32_0 (by decide) rfl) ?_
  refine RD.q rfl rfl rfl (fun w' hf => O.load sc30 rfl (Cs.adds [0] ((hM.bx (i := 0) rfl).fut hf) rfl)) ?_
  refine RD.q rfl rfl rfl (fun w' hf => O.fldA fl32_0 (by decide) rfl) ?_
  refine RD.q rfl rfl rfl (fun w' hf => O.load sc30 rfl (Cs.adds [0] ((hM.bx (i := 1) rfl).fut hf) rfl)) ?_
  refine RD.q rfl rfl rfl (fun w' hf => O.fldA fl32_1 (by decide) rfl) ?_
  refine RD.q rfl rfl rfl (fun w' hf => O.load sc30 rfl (Cs.adds [1] ((hM.bx (i := 0) rfl).fut hf) rfl)) ?_
  refine RD.q rfl rfl rfl (fun w' hf => O.fldA fl32_1 (by decide) rfl) ?_
  refine RD.q rfl rfl rfl (fun w' hf => O.load sc30 rfl (Cs.adds [1] ((hM.bx (i := 1) rfl).fut hf) rfl)) ?_
  obtain ⟨y12, hx13, hF⟩ := obind hF
  refine RD.mcall rfl rfl trivial Try.func29 bd29 rfl rfl (c_flow_plus _ t1.f_Packets u2.f_Packets _ hx13) fun v w14 hv => ?_
  obtain ⟨rfl, hN15⟩ := hv
  refine ⟨fun _ => hN15.fut, ?_⟩
  have hM := hM.call0 hN15
  obtain ⟨y16, hx17, hF⟩ := obind hF
  refine RD.mcall rfl rfl trivial Try.func29 bd29 rfl rfl (c_flow_plus _ t1.f_Bytes u2.f_Bytes _ hx17) fun v w18 hv => ?_
  obtain ⟨rfl, hN19⟩ := hv
  refine ⟨fun _ => hN19.fut, ?_⟩
  have hM := hM.call0 hN19
  refine RD.q rfl rfl rfl (fun w' hf => O.bld (cs := [.int .u64 y12, .int .u64 y16]) bt32 rfl rfl) ?_
  refine RD.meffs rfl rfl rfl (E.stB (j := 2) (off := 0) (vs := [.int .u64 y12, .int .u64 y16]) (cs' := [.int .u64 y12, .int .u64 y16]) hM rfl sz32 rfl (adds_eq [] rfl) rfl rfl (One.all rfl) rfl rfl) fun w20 hM => ?_
  refine RD.nil ?_
  refine KQ.then_n ?_
  refine KC.ret ?_
  obtain rfl := Option.some.inj hF
  have hb21 := hM.bx (i := 2) rfl
  have hM := hM.pick [] rfl (by decide)
  refine KQ.rets Try.results10 (RVs.cons (RV.cN (cs := [.int .u64 y12, .int .u64 y16]) rfl ag32 hb21) RVs.nil) ?_
  exact ⟨_, rfl, rfl, hM⟩
end Go.Proofs.Ytahldlpikknefaa
