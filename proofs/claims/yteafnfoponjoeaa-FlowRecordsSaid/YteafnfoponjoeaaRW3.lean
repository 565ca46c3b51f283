/- Printed by a program of this claim: each call returns what the plain function of its name gives. -/
import Derived.Test.YteafnfoponjoeaaRW2
set_option linter.unusedVariables false
namespace Go.Proofs.Yteafnfoponjoeaa
open Go Go.Ox Go.RowKit
set_option maxRecDepth 100000 in
set_option maxHeartbeats 40000000 in
theorem c_flow_Record_With (w : World) (rv1 : T_flow_Record) (p2 : T_packet_Packet) (tick3 : Int) (r : T_flow_Record) (hF : F_flow_Record_With rv1 p2 tick3 = some r) :
    CallsR Try.prog 8 [.agg #[.bool rv1.f_Key.f_Src.f_Six, .int .u8 (List.getD rv1.f_Key.f_Src.f_B 0 0), .int .u8 (List.getD rv1.f_Key.f_Src.f_B 1 0), .int .u8 (List.getD rv1.f_Key.f_Src.f_B 2 0), .int .u8 (List.getD rv1.f_Key.f_Src.f_B 3 0), .int .u8 (List.getD rv1.f_Key.f_Src.f_B 4 0), .int .u8 (List.getD rv1.f_Key.f_Src.f_B 5 0), .int .u8 (List.getD rv1.f_Key.f_Src.f_B 6 0), .int .u8 (List.getD rv1.f_Key.f_Src.f_B 7 0), .int .u8 (List.getD rv1.f_Key.f_Src.f_B 8 0), .int .u8 (List.getD rv1.f_Key.f_Src.f_B 9 0), .int .u8 (List.getD rv1.f_Key.f_Src.f_B 10 0), .int .u8 (List.getD rv1.f_Key.f_Src.f_B 11 0), .int .u8 (List.getD rv1.f_Key.f_Src.f_B 12 0), .int .u8 (List.getD rv1.f_Key.f_Src.f_B 13 0), .int .u8 (List.getD rv1.f_Key.f_Src.f_B 14 0), .int .u8 (List.getD rv1.f_Key.f_Src.f_B 15 0), .bool rv1.f_Key.f_Dst.f_Six, .int .u8 (List.getD rv1.f_Key.f_Dst.f_B 0 0), .int .u8 (List.getD rv1.f_Key.f_Dst.f_B 1 0), .int .u8 (List.getD rv1.f_Key.f_Dst.f_B 2 0), .int .u8 (List.getD rv1.f_Key.f_Dst.f_B 3 0), .int .u8 (List.getD rv1.f_Key.f_Dst.f_B 4 0), .int .u8 (List.getD rv1.f_Key.f_Dst.f_B 5 0), .int .u8 (List.getD rv1.f_Key.f_Dst.f_B 6 0), .int .u8 (List.getD rv1.f_Key.f_Dst.f_B 7 0), .int .u8 (List.getD rv1.f_Key.f_Dst.f_B 8 0), .int .u8 (List.getD rv1.f_Key.f_Dst.f_B 9 0), .int .u8 (List.getD rv1.f_Key.f_Dst.f_B 10 0), .int .u8 (List.getD rv1.f_Key.f_Dst.f_B 11 0), .int .u8 (List.getD rv1.f_Key.f_Dst.f_B 12 0), .int .u8 (List.getD rv1.f_Key.f_Dst.f_B 13 0), .int .u8 (List.getD rv1.f_Key.f_Dst.f_B 14 0), .int .u8 (List.getD rv1.f_Key.f_Dst.f_B 15 0), .int .u8 rv1.f_Key.f_Proto, .int .u16 rv1.f_Key.f_SrcPort, .int .u16 rv1.f_Key.f_DstPort, .int .u64 rv1.f_Packets, .int .u64 rv1.f_Bytes, .int .u64 rv1.f_First, .int .u64 rv1.f_Last, .int .u8 rv1.f_Flags, .int .u8 rv1.f_Reason, .int .u8 rv1.f_Class], .agg #[.bool p2.f_Key.f_Src.f_Six, .int .u8 (List.getD p2.f_Key.f_Src.f_B 0 0), .int .u8 (List.getD p2.f_Key.f_Src.f_B 1 0), .int .u8 (List.getD p2.f_Key.f_Src.f_B 2 0), .int .u8 (List.getD p2.f_Key.f_Src.f_B 3 0), .int .u8 (List.getD p2.f_Key.f_Src.f_B 4 0), .int .u8 (List.getD p2.f_Key.f_Src.f_B 5 0), .int .u8 (List.getD p2.f_Key.f_Src.f_B 6 0), .int .u8 (List.getD p2.f_Key.f_Src.f_B 7 0), .int .u8 (List.getD p2.f_Key.f_Src.f_B 8 0), .int .u8 (List.getD p2.f_Key.f_Src.f_B 9 0), .int .u8 (List.getD p2.f_Key.f_Src.f_B 10 0), .int .u8 (List.getD p2.f_Key.f_Src.f_B 11 0), .int .u8 (List.getD p2.f_Key.f_Src.f_B 12 0), .int .u8 (List.getD p2.f_Key.f_Src.f_B 13 0), .int .u8 (List.getD p2.f_Key.f_Src.f_B 14 0), .int .u8 (List.getD p2.f_Key.f_Src.f_B 15 0), .bool p2.f_Key.f_Dst.f_Six, .int .u8 (List.getD p2.f_Key.f_Dst.f_B 0 0), .int .u8 (List.getD p2.f_Key.f_Dst.f_B 1 0), .int .u8 (List.getD p2.f_Key.f_Dst.f_B 2 0), .int .u8 (List.getD p2.f_Key.f_Dst.f_B 3 0), .int .u8 (List.getD p2.f_Key.f_Dst.f_B 4 0), .int .u8 (List.getD p2.f_Key.f_Dst.f_B 5 0), .int .u8 (List.getD p2.f_Key.f_Dst.f_B 6 0), .int .u8 (List.getD p2.f_Key.f_Dst.f_B 7 0), .int .u8 (List.getD p2.f_Key.f_Dst.f_B 8 0), .int .u8 (List.getD p2.f_Key.f_Dst.f_B 9 0), .int .u8 (List.getD p2.f_Key.f_Dst.f_B 10 0), .int .u8 (List.getD p2.f_Key.f_Dst.f_B 11 0), .int .u8 (List.getD p2.f_Key.f_Dst.f_B 12 0), .int .u8 (List.getD p2.f_Key.f_Dst.f_B 13 0), .int .u8 (List.getD p2.f_Key.f_Dst.f_B 14 0), .int .u8 (List.getD p2.f_Key.f_Dst.f_B 15 0), .int .u8 p2.f_Key.f_Proto, .int .u16 p2.f_Key.f_SrcPort, .int .u16 p2.f_Key.f_DstPort, .int .i64 p2.f_Length, .int .u8 p2.f_Flags, .bool p2.f_Fragment], .int .u64 tick3] w (fun v w' => v = .agg #[.bool r.f_Key.f_Src.f_Six, .int .u8 (List.getD r.f_Key.f_Src.f_B 0 0), .int .u8 (List.getD r.f_Key.f_Src.f_B 1 0), .int .u8 (List.getD r.f_Key.f_Src.f_B 2 0), .int .u8 (List.getD r.f_Key.f_Src.f_B 3 0), .int .u8 (List.getD r.f_Key.f_Src.f_B 4 0), .int .u8 (List.getD r.f_Key.f_Src.f_B 5 0), .int .u8 (List.getD r.f_Key.f_Src.f_B 6 0), .int .u8 (List.getD r.f_Key.f_Src.f_B 7 0), .int .u8 (List.getD r.f_Key.f_Src.f_B 8 0), .int .u8 (List.getD r.f_Key.f_Src.f_B 9 0), .int .u8 (List.getD r.f_Key.f_Src.f_B 10 0), .int .u8 (List.getD r.f_Key.f_Src.f_B 11 0), .int .u8 (List.getD r.f_Key.f_Src.f_B 12 0), .int .u8 (List.getD r.f_Key.f_Src.f_B 13 0), .int .u8 (List.getD r.f_Key.f_Src.f_B 14 0), .int .u8 (List.getD r.f_Key.f_Src.f_B 15 0), .bool r.f_Key.f_Dst.f_Six, .int .u8 (List.getD r.f_Key.f_Dst.f_B 0 0), .int .u8 (List.getD r.f_Key.f_Dst.f_B 1 0), .int .u8 (List.getD r.f_Key.f_Dst.f_B 2 0), .int .u8 (List.getD r.f_Key.f_Dst.f_B 3 0), .int .u8 (List.getD r.f_Key.f_Dst.f_B 4 0), .int .u8 (List.getD r.f_Key.f_Dst.f_B 5 0), .int .u8 (List.getD r.f_Key.f_Dst.f_B 6 0), .int .u8 (List.getD r.f_Key.f_Dst.f_B 7 0), .int .u8 (List.getD r.f_Key.f_Dst.f_B 8 0), .int .u8 (List.getD r.f_Key.f_Dst.f_B 9 0), .int .u8 (List.getD r.f_Key.f_Dst.f_B 10 0), .int .u8 (List.getD r.f_Key.f_Dst.f_B 11 0), .int .u8 (List.getD r.f_Key.f_Dst.f_B 12 0), .int .u8 (List.getD r.f_Key.f_Dst.f_B 13 0), .int .u8 (List.getD r.f_Key.f_Dst.f_B 14 0), .int .u8 (List.getD r.f_Key.f_Dst.f_B 15 0), .int .u8 r.f_Key.f_Proto, .int .u16 r.f_Key.f_SrcPort, .int .u16 r.f_Key.f_DstPort, .int .u64 r.f_Packets, .int .u64 r.f_Bytes, .int .u64 r.f_First, .int .u64 r.f_Last, .int .u8 r.f_Flags, .int .u8 r.f_Reason, .int .u8 r.f_Class] ∧ Mem w [] w' []) := by
  refine calls_KC Try.func8 rfl Try.ntmps8 rfl ?_
  have hM := Mem.init w
  unfold F_flow_Record_With at hF
  refine KC.seq ?_
  refine KC.region ?_
  refine RL.eff (E.box (vs := [.bool rv1.f_Key.f_Src.f_Six, .int .u8 (List.getD rv1.f_Key.f_Src.f_B 0 0), .int .u8 (List.getD rv1.f_Key.f_Src.f_B 1 0), .int .u8 (List.getD rv1.f_Key.f_Src.f_B 2 0), .int .u8 (List.getD rv1.f_Key.f_Src.f_B 3 0), .int .u8 (List.getD rv1.f_Key.f_Src.f_B 4 0), .int .u8 (List.getD rv1.f_Key.f_Src.f_B 5 0), .int .u8 (List.getD rv1.f_Key.f_Src.f_B 6 0), .int .u8 (List.getD rv1.f_Key.f_Src.f_B 7 0), .int .u8 (List.getD rv1.f_Key.f_Src.f_B 8 0), .int .u8 (List.getD rv1.f_Key.f_Src.f_B 9 0), .int .u8 (List.getD rv1.f_Key.f_Src.f_B 10 0), .int .u8 (List.getD rv1.f_Key.f_Src.f_B 11 0), .int .u8 (List.getD rv1.f_Key.f_Src.f_B 12 0), .int .u8 (List.getD rv1.f_Key.f_Src.f_B 13 0), .int .u8 (List.getD rv1.f_Key.f_Src.f_B 14 0), .int .u8 (List.getD rv1.f_Key.f_Src.f_B 15 0), .bool rv1.f_Key.f_Dst.f_Six, .int .u8 (List.getD rv1.f_Key.f_Dst.f_B 0 0), .int .u8 (List.getD rv1.f_Key.f_Dst.f_B 1 0), .int .u8 (List.getD rv1.f_Key.f_Dst.f_B 2 0), .int .u8 (List.getD rv1.f_Key.f_Dst.f_B 3 0), .int .u8 (List.getD rv1.f_Key.f_Dst.f_B 4 0), .int .u8 (List.getD rv1.f_Key.f_Dst.f_B 5 0), .int .u8 (List.getD rv1.f_Key.f_Dst.f_B 6 0), .int .u8 (List.getD rv1.f_Key.f_Dst.f_B 7 0), .int .u8 (List.getD rv1.f_Key.f_Dst.f_B 8 0), .int .u8 (List.getD rv1.f_Key.f_Dst.f_B 9 0), .int .u8 (List.getD rv1.f_Key.f_Dst.f_B 10 0), .int .u8 (List.getD rv1.f_Key.f_Dst.f_B 11 0), .int .u8 (List.getD rv1.f_Key.f_Dst.f_B 12 0), .int .u8 (List.getD rv1.f_Key.f_Dst.f_B 13 0), .int .u8 (List.getD rv1.f_Key.f_Dst.f_B 14 0), .int .u8 (List.getD rv1.f_Key.f_Dst.f_B 15 0), .int .u8 rv1.f_Key.f_Proto, .int .u16 rv1.f_Key.f_SrcPort, .int .u16 rv1.f_Key.f_DstPort, .int .u64 rv1.f_Packets, .int .u64 rv1.f_Bytes, .int .u64 rv1.f_First, .int .u64 rv1.f_Last, .int .u8 rv1.f_Flags, .int .u8 rv1.f_Reason, .int .u8 rv1.f_Class]) hM rfl rfl) rfl fun v w5 hv => ?_
  clear hM
  obtain ⟨g4, rfl, hM, hf⟩ := hv
  refine RL.eff (E.box (vs := [.bool p2.f_Key.f_Src.f_Six, .int .u8 (List.getD p2.f_Key.f_Src.f_B 0 0), .int .u8 (List.getD p2.f_Key.f_Src.f_B 1 0), .int .u8 (List.getD p2.f_Key.f_Src.f_B 2 0), .int .u8 (List.getD p2.f_Key.f_Src.f_B 3 0), .int .u8 (List.getD p2.f_Key.f_Src.f_B 4 0), .int .u8 (List.getD p2.f_Key.f_Src.f_B 5 0), .int .u8 (List.getD p2.f_Key.f_Src.f_B 6 0), .int .u8 (List.getD p2.f_Key.f_Src.f_B 7 0), .int .u8 (List.getD p2.f_Key.f_Src.f_B 8 0), .int .u8 (List.getD p2.f_Key.f_Src.f_B 9 0), .int .u8 (List.getD p2.f_Key.f_Src.f_B 10 0), .int .u8 (List.getD p2.f_Key.f_Src.f_B 11 0), .int .u8 (List.getD p2.f_Key.f_Src.f_B 12 0), .int .u8 (List.getD p2.f_Key.f_Src.f_B 13 0), .int .u8 (List.getD p2.f_Key.f_Src.f_B 14 0), .int .u8 (List.getD p2.f_Key.f_Src.f_B 15 0), .bool p2.f_Key.f_Dst.f_Six, .int .u8 (List.getD p2.f_Key.f_Dst.f_B 0 0), .int .u8 (List.getD p2.f_Key.f_Dst.f_B 1 0), .int .u8 (List.getD p2.f_Key.f_Dst.f_B 2 0), .int .u8 (List.getD p2.f_Key.f_Dst.f_B 3 0), .int .u8 (List.getD p2.f_Key.f_Dst.f_B 4 0), .int .u8 (List.getD p2.f_Key.f_Dst.f_B 5 0), .int .u8 (List.getD p2.f_Key.f_Dst.f_B 6 0), .int .u8 (List.getD p2.f_Key.f_Dst.f_B 7 0), .int .u8 (List.getD p2.f_Key.f_Dst.f_B 8 0), .int .u8 (List.getD p2.f_Key.f_Dst.f_B 9 0), .int .u8 (List.getD p2.f_Key.f_Dst.f_B 10 0), .int .u8 (List.getD p2.f_Key.f_Dst.f_B 11 0), .int .u8 (List.getD p2.f_Key.f_Dst.f_B 12 0), .int .u8 (List.getD p2.f_Key.f_Dst.f_B 13 0), .int .u8 (List.getD p2.f_Key.f_Dst.f_B 14 0), .int .u8 (List.getD p2.f_Key.f_Dst.f_B 15 0), .int .u8 p2.f_Key.f_Proto, .int .u16 p2.f_Key.f_SrcPort, .int .u16 p2.f_Key.f_DstPort, .int .i64 p2.f_Length, .int .u8 p2.f_Flags, .bool p2.f_Fragment]) hM rfl rfl) rfl fun v w8 hv => ?_
  clear hM
  obtain ⟨g7, rfl, hM, hf⟩ := hv
  refine RL.eff (E.alloc hM ze35) rfl fun v w11 hv => ?_
  clear hM
  obtain ⟨g10, rfl, hM, hf⟩ := hv
  refine RL.nil ?_
  refine KQ.then_n ?_
  refine KC.cut (fun a w52 => ∃ (g49 : Nat) (t50 : Int) (t51 : Int), Kn 34 [(2, .int .u64 tick3), (3, .pointer (some ⟨g4, 0, none⟩)), (4, .pointer (some ⟨g7, 0, none⟩)), (6, .pointer (some ⟨g10, 0, none⟩)), (7, .pointer (some ⟨g49, 0, none⟩))] a ∧ Mem w [] w52 [.box g4 35 [.bool rv1.f_Key.f_Src.f_Six, .int .u8 (List.getD rv1.f_Key.f_Src.f_B 0 0), .int .u8 (List.getD rv1.f_Key.f_Src.f_B 1 0), .int .u8 (List.getD rv1.f_Key.f_Src.f_B 2 0), .int .u8 (List.getD rv1.f_Key.f_Src.f_B 3 0), .int .u8 (List.getD rv1.f_Key.f_Src.f_B 4 0), .int .u8 (List.getD rv1.f_Key.f_Src.f_B 5 0), .int .u8 (List.getD rv1.f_Key.f_Src.f_B 6 0), .int .u8 (List.getD rv1.f_Key.f_Src.f_B 7 0), .int .u8 (List.getD rv1.f_Key.f_Src.f_B 8 0), .int .u8 (List.getD rv1.f_Key.f_Src.f_B 9 0), .int .u8 (List.getD rv1.f_Key.f_Src.f_B 10 0), .int .u8 (List.getD rv1.f_Key.f_Src.f_B 11 0), .int .u8 (List.getD rv1.f_Key.f_Src.f_B 12 0), .int .u8 (List.getD rv1.f_Key.f_Src.f_B 13 0), .int .u8 (List.getD rv1.f_Key.f_Src.f_B 14 0), .int .u8 (List.getD rv1.f_Key.f_Src.f_B 15 0), .bool rv1.f_Key.f_Dst.f_Six, .int .u8 (List.getD rv1.f_Key.f_Dst.f_B 0 0), .int .u8 (List.getD rv1.f_Key.f_Dst.f_B 1 0), .int .u8 (List.getD rv1.f_Key.f_Dst.f_B 2 0), .int .u8 (List.getD rv1.f_Key.f_Dst.f_B 3 0), .int .u8 (List.getD rv1.f_Key.f_Dst.f_B 4 0), .int .u8 (List.getD rv1.f_Key.f_Dst.f_B 5 0), .int .u8 (List.getD rv1.f_Key.f_Dst.f_B 6 0), .int .u8 (List.getD rv1.f_Key.f_Dst.f_B 7 0), .int .u8 (List.getD rv1.f_Key.f_Dst.f_B 8 0), .int .u8 (List.getD rv1.f_Key.f_Dst.f_B 9 0), .int .u8 (List.getD rv1.f_Key.f_Dst.f_B 10 0), .int .u8 (List.getD rv1.f_Key.f_Dst.f_B 11 0), .int .u8 (List.getD rv1.f_Key.f_Dst.f_B 12 0), .int .u8 (List.getD rv1.f_Key.f_Dst.f_B 13 0), .int .u8 (List.getD rv1.f_Key.f_Dst.f_B 14 0), .int .u8 (List.getD rv1.f_Key.f_Dst.f_B 15 0), .int .u8 rv1.f_Key.f_Proto, .int .u16 rv1.f_Key.f_SrcPort, .int .u16 rv1.f_Key.f_DstPort, .int .u64 rv1.f_Packets, .int .u64 rv1.f_Bytes, .int .u64 rv1.f_First, .int .u64 rv1.f_Last, .int .u8 rv1.f_Flags, .int .u8 rv1.f_Reason, .int .u8 rv1.f_Class], .box g7 39 [.bool p2.f_Key.f_Src.f_Six, .int .u8 (List.getD p2.f_Key.f_Src.f_B 0 0), .int .u8 (List.getD p2.f_Key.f_Src.f_B 1 0), .int .u8 (List.getD p2.f_Key.f_Src.f_B 2 0), .int .u8 (List.getD p2.f_Key.f_Src.f_B 3 0), .int .u8 (List.getD p2.f_Key.f_Src.f_B 4 0), .int .u8 (List.getD p2.f_Key.f_Src.f_B 5 0), .int .u8 (List.getD p2.f_Key.f_Src.f_B 6 0), .int .u8 (List.getD p2.f_Key.f_Src.f_B 7 0), .int .u8 (List.getD p2.f_Key.f_Src.f_B 8 0), .int .u8 (List.getD p2.f_Key.f_Src.f_B 9 0), .int .u8 (List.getD p2.f_Key.f_Src.f_B 10 0), .int .u8 (List.getD p2.f_Key.f_Src.f_B 11 0), .int .u8 (List.getD p2.f_Key.f_Src.f_B 12 0), .int .u8 (List.getD p2.f_Key.f_Src.f_B 13 0), .int .u8 (List.getD p2.f_Key.f_Src.f_B 14 0), .int .u8 (List.getD p2.f_Key.f_Src.f_B 15 0), .bool p2.f_Key.f_Dst.f_Six, .int .u8 (List.getD p2.f_Key.f_Dst.f_B 0 0), .int .u8 (List.getD p2.f_Key.f_Dst.f_B 1 0), .int .u8 (List.getD p2.f_Key.f_Dst.f_B 2 0), .int .u8 (List.getD p2.f_Key.f_Dst.f_B 3 0), .int .u8 (List.getD p2.f_Key.f_Dst.f_B 4 0), .int .u8 (List.getD p2.f_Key.f_Dst.f_B 5 0), .int .u8 (List.getD p2.f_Key.f_Dst.f_B 6 0), .int .u8 (List.getD p2.f_Key.f_Dst.f_B 7 0), .int .u8 (List.getD p2.f_Key.f_Dst.f_B 8 0), .int .u8 (List.getD p2.f_Key.f_Dst.f_B 9 0), .int .u8 (List.getD p2.f_Key.f_Dst.f_B 10 0), .int .u8 (List.getD p2.f_Key.f_Dst.f_B 11 0), .int .u8 (List.getD p2.f_Key.f_Dst.f_B 12 0), .int .u8 (List.getD p2.f_Key.f_Dst.f_B 13 0), .int .u8 (List.getD p2.f_Key.f_Dst.f_B 14 0), .int .u8 (List.getD p2.f_Key.f_Dst.f_B 15 0), .int .u8 p2.f_Key.f_Proto, .int .u16 p2.f_Key.f_SrcPort, .int .u16 p2.f_Key.f_DstPort, .int .i64 p2.f_Length, .int .u8 p2.f_Flags, .bool p2.f_Fragment], .box g10 35 [.bool false, .int .u8 (List.getD (List.replicate 16 0) 0 0), .int .u8 (List.getD (List.replicate 16 0) 1 0), .int .u8 (List.getD (List.replicate 16 0) 2 0), .int .u8 (List.getD (List.replicate 16 0) 3 0), .int .u8 (List.getD (List.replicate 16 0) 4 0), .int .u8 (List.getD (List.replicate 16 0) 5 0), .int .u8 (List.getD (List.replicate 16 0) 6 0), .int .u8 (List.getD (List.replicate 16 0) 7 0), .int .u8 (List.getD (List.replicate 16 0) 8 0), .int .u8 (List.getD (List.replicate 16 0) 9 0), .int .u8 (List.getD (List.replicate 16 0) 10 0), .int .u8 (List.getD (List.replicate 16 0) 11 0), .int .u8 (List.getD (List.replicate 16 0) 12 0), .int .u8 (List.getD (List.replicate 16 0) 13 0), .int .u8 (List.getD (List.replicate 16 0) 14 0), .int .u8 (List.getD (List.replicate 16 0) 15 0), .bool false, .int .u8 (List.getD (List.replicate 16 0) 0 0), .int .u8 (List.getD (List.replicate 16 0) 1 0), .int .u8 (List.getD (List.replicate 16 0) 2 0), .int .u8 (List.getD (List.replicate 16 0) 3 0), .int .u8 (List.getD (List.replicate 16 0) 4 0), .int .u8 (List.getD (List.replicate 16 0) 5 0), .int .u8 (List.getD (List.replicate 16 0) 6 0), .int .u8 (List.getD (List.replicate 16 0) 7 0), .int .u8 (List.getD (List.replicate 16 0) 8 0), .int .u8 (List.getD (List.replicate 16 0) 9 0), .int .u8 (List.getD (List.replicate 16 0) 10 0), .int .u8 (List.getD (List.replicate 16 0) 11 0), .int .u8 (List.getD (List.replicate 16 0) 12 0), .int .u8 (List.getD (List.replicate 16 0) 13 0), .int .u8 (List.getD (List.replicate 16 0) 14 0), .int .u8 (List.getD (List.replicate 16 0) 15 0), .int .u8 0, .int .u16 0, .int .u16 0, .int .u64 0, .int .u64 0, .int .u64 0, .int .u64 0, .int .u8 0, .int .u8 0, .int .u8 0], .box g49 32 [.int .u64 t50, .int .u64 t51]] ∧ F_flow_Record_With_j1 rv1 p2 tick3 t50 t51 = some r) ?_ ?_
  · replace hM := hM.drewN 1
    refine KC.draw [] [9] [1, 7, 8, 9] [2, 4, 5] (.cons 0 (.cons 2 (.cons 3 (.cons 4 (.cons 5 (.cons 6 (.alt 1 (.alt 7 (.ofList [8, 9]) 8 (.ofList [7, 9])) 8 (.ofList [1, 7, 9])))))))) moP (by kernel_rfl) ?_
    refine RD.q rfl rfl rfl rfl (fun w' hf => O.loadN (cs := [.bool rv1.f_Key.f_Src.f_Six, .int .u8 (List.getD rv1.f_Key.f_Src.f_B 0 0), .int .u8 (List.getD rv1.f_Key.f_Src.f_B 1 0), .int .u8 (List.getD rv1.f_Key.f_Src.f_B 2 0), .int .u8 (List.getD rv1.f_Key.f_Src.f_B 3 0), .int .u8 (List.getD rv1.f_Key.f_Src.f_B 4 0), .int .u8 (List.getD rv1.f_Key.f_Src.f_B 5 0), .int .u8 (List.getD rv1.f_Key.f_Src.f_B 6 0), .int .u8 (List.getD rv1.f_Key.f_Src.f_B 7 0), .int .u8 (List.getD rv1.f_Key.f_Src.f_B 8 0), .int .u8 (List.getD rv1.f_Key.f_Src.f_B 9 0), .int .u8 (List.getD rv1.f_Key.f_Src.f_B 10 0), .int .u8 (List.getD rv1.f_Key.f_Src.f_B 11 0), .int .u8 (List.getD rv1.f_Key.f_Src.f_B 12 0), .int .u8 (List.getD rv1.f_Key.f_Src.f_B 13 0), .int .u8 (List.getD rv1.f_Key.f_Src.f_B 14 0), .int .u8 (List.getD rv1.f_Key.f_Src.f_B 15 0), .bool rv1.f_Key.f_Dst.f_Six, .int .u8 (List.getD rv1.f_Key.f_Dst.f_B 0 0), .int .u8 (List.getD rv1.f_Key.f_Dst.f_B 1 0), .int .u8 (List.getD rv1.f_Key.f_Dst.f_B 2 0), .int .u8 (List.getD rv1.f_Key.f_Dst.f_B 3 0), .int .u8 (List.getD rv1.f_Key.f_Dst.f_B 4 0), .int .u8 (List.getD rv1.f_Key.f_Dst.f_B 5 0), .int .u8 (List.getD rv1.f_Key.f_Dst.f_B 6 0), .int .u8 (List.getD rv1.f_Key.f_Dst.f_B 7 0), .int .u8 (List.getD rv1.f_Key.f_Dst.f_B 8 0), .int .u8 (List.getD rv1.f_Key.f_Dst.f_B 9 0), .int .u8 (List.getD rv1.f_Key.f_Dst.f_B 10 0), .int .u8 (List.getD rv1.f_Key.f_Dst.f_B 11 0), .int .u8 (List.getD rv1.f_Key.f_Dst.f_B 12 0), .int .u8 (List.getD rv1.f_Key.f_Dst.f_B 13 0), .int .u8 (List.getD rv1.f_Key.f_Dst.f_B 14 0), .int .u8 (List.getD rv1.f_Key.f_Dst.f_B 15 0), .int .u8 rv1.f_Key.f_Proto, .int .u16 rv1.f_Key.f_SrcPort, .int .u16 rv1.f_Key.f_DstPort, .int .u64 rv1.f_Packets, .int .u64 rv1.f_Bytes, .int .u64 rv1.f_First, .int .u64 rv1.f_Last, .int .u8 rv1.f_Flags, .int .u8 rv1.f_Reason, .int .u8 rv1.f_Class]) ag35 rfl (Cs.addsN [] ((hM.bx (i := 0) rfl).fut hf) rfl)) ?_
    refine RD.p rfl rfl rfl rfl (fun w' => O.fldA fl39_1 (by decide) rfl) ?_
    refine RD.q rfl rfl rfl rfl (fun w' hf => O.load sc3 rfl (Cs.adds [37] ((hM.bx (i := 1) rfl).fut hf) rfl)) ?_
    refine RD.p rfl rfl rfl rfl (fun w' => O.max2 rfl rfl) ?_
    refine RD.p rfl rfl rfl rfl (fun w' => O.conv un3 Try.underlying30 rfl) ?_
    refine RD.q rfl rfl rfl rfl (fun w' hf => O.bld (cs := [.int .u64 1, .int .u64 (IntKind.u64.wrap (gmax 0 p2.f_Length))]) bt32 rfl (by kernel_rfl)) ?_
    refine RD.alt ?_ ?_
    · refine obindE hF fun y13 hx14 hF => ?_
      refine RD.mcall rfl rfl trivial Try.func9 bd9 rfl rfl (c_flow_Record_Total _ rv1 _ hx14) fun v w15 hv => ?_
      obtain ⟨rfl, hN16⟩ := hv
      refine ⟨fun _ => hN16.fut, ?_⟩
      replace hM := hM.call0 hN16
      refine RD.alt ?_ ?_
      · refine obindE hF fun y17 hx18 hF => ?_
        refine RD.mcall rfl rfl trivial Try.func10 bd10 rfl rfl (c_flow_Total_Plus _ y13 (T_flow_Total.mk 1 (IntKind.u64.wrap (gmax 0 p2.f_Length))) _ hx18) fun v w19 hv => ?_
        obtain ⟨rfl, hN20⟩ := hv
        refine ⟨fun _ => hN20.fut, ?_⟩
        replace hM := hM.call0 hN20
        refine RD.meff rfl rfl (E.alloc hM ze32) rfl fun v w22 hv => ?_
        clear hM
        obtain ⟨g21, rfl, hM, hf⟩ := hv
        refine ⟨fun _ => hf, ?_⟩
        refine RD.meffs rfl rfl rfl (E.stB (j := 3) (off := 0) (vs := [.int .u64 y17.f_Packets, .int .u64 y17.f_Bytes]) (cs' := [.int .u64 y17.f_Packets, .int .u64 y17.f_Bytes]) hM rfl sz32 rfl (adds_eq [] rfl) rfl rfl (One.all rfl) rfl rfl) fun w24 hM1 => ?_
        clear hM
        have hM := hM1
        clear hM1
        refine RD.nil ?_
        refine KQ.then_k ?_
        exact fun a ha => ⟨g21, y17.f_Packets, y17.f_Bytes, ha.less (less_cons rfl (less_cons rfl (less_cons rfl (less_cons rfl (less_cons rfl less_nil))))), hM, hF⟩
      · refine RD.meff rfl rfl (E.alloc hM ze32) rfl fun v w26 hv => ?_
        clear hM
        obtain ⟨g25, rfl, hM, hf⟩ := hv
        refine ⟨fun _ => hf, ?_⟩
        refine obindE hF fun y28 hx29 hF => ?_
        refine RD.mcall rfl rfl trivial Try.func10 bd10 rfl rfl (c_flow_Total_Plus _ y13 (T_flow_Total.mk 1 (IntKind.u64.wrap (gmax 0 p2.f_Length))) _ hx29) fun v w30 hv => ?_
        obtain ⟨rfl, hN31⟩ := hv
        refine ⟨fun _ => hN31.fut, ?_⟩
        replace hM := hM.call0 hN31
        refine RD.meffs rfl rfl rfl (E.stB (j := 3) (off := 0) (vs := [.int .u64 y28.f_Packets, .int .u64 y28.f_Bytes]) (cs' := [.int .u64 y28.f_Packets, .int .u64 y28.f_Bytes]) hM rfl sz32 rfl (adds_eq [] rfl) rfl rfl (One.all rfl) rfl rfl) fun w32 hM1 => ?_
        clear hM
        have hM := hM1
        clear hM1
        refine RD.nil ?_
        refine KQ.then_k ?_
        exact fun a ha => ⟨g25, y28.f_Packets, y28.f_Bytes, ha.less (less_cons rfl (less_cons rfl (less_cons rfl (less_cons rfl (less_cons rfl less_nil))))), hM, hF⟩
    · refine RD.meff rfl rfl (E.alloc hM ze32) rfl fun v w34 hv => ?_
      clear hM
      obtain ⟨g33, rfl, hM, hf⟩ := hv
      refine ⟨fun _ => hf, ?_⟩
      refine obindE hF fun y36 hx37 hF => ?_
      refine RD.mcall rfl rfl trivial Try.func9 bd9 rfl rfl (c_flow_Record_Total _ rv1 _ hx37) fun v w38 hv => ?_
      obtain ⟨rfl, hN39⟩ := hv
      refine ⟨fun _ => hN39.fut, ?_⟩
      replace hM := hM.call0 hN39
      refine obindE hF fun y40 hx41 hF => ?_
      refine RD.mcall rfl rfl trivial Try.func10 bd10 rfl rfl (c_flow_Total_Plus _ y36 (T_flow_Total.mk 1 (IntKind.u64.wrap (gmax 0 p2.f_Length))) _ hx41) fun v w42 hv => ?_
      obtain ⟨rfl, hN43⟩ := hv
      refine ⟨fun _ => hN43.fut, ?_⟩
      replace hM := hM.call0 hN43
      refine RD.meffs rfl rfl rfl (E.stB (j := 3) (off := 0) (vs := [.int .u64 y40.f_Packets, .int .u64 y40.f_Bytes]) (cs' := [.int .u64 y40.f_Packets, .int .u64 y40.f_Bytes]) hM rfl sz32 rfl (adds_eq [] rfl) rfl rfl (One.all rfl) rfl rfl) fun w44 hM1 => ?_
      clear hM
      have hM := hM1
      clear hM1
      refine RD.nil ?_
      refine KQ.then_k ?_
      exact fun a ha => ⟨g33, y40.f_Packets, y40.f_Bytes, ha.less (less_cons rfl (less_cons rfl (less_cons rfl (less_cons rfl (less_cons rfl less_nil))))), hM, hF⟩
  · rintro a w52 ⟨g49, t50, t51, ha, hM, hF⟩
    refine KC.app ha ?_
    clear ha
    unfold F_flow_Record_With_j1 at hF
    refine KC.cut (fun a w60 => Kn 34 [(2, .int .u64 tick3), (3, .pointer (some ⟨g4, 0, none⟩)), (4, .pointer (some ⟨g7, 0, none⟩)), (6, .pointer (some ⟨g10, 0, none⟩))] a ∧ Mem w [] w60 [.box g4 35 [.bool rv1.f_Key.f_Src.f_Six, .int .u8 (List.getD rv1.f_Key.f_Src.f_B 0 0), .int .u8 (List.getD rv1.f_Key.f_Src.f_B 1 0), .int .u8 (List.getD rv1.f_Key.f_Src.f_B 2 0), .int .u8 (List.getD rv1.f_Key.f_Src.f_B 3 0), .int .u8 (List.getD rv1.f_Key.f_Src.f_B 4 0), .int .u8 (List.getD rv1.f_Key.f_Src.f_B 5 0), .int .u8 (List.getD rv1.f_Key.f_Src.f_B 6 0), .int .u8 (List.getD rv1.f_Key.f_Src.f_B 7 0), .int .u8 (List.getD rv1.f_Key.f_Src.f_B 8 0), .int .u8 (List.getD rv1.f_Key.f_Src.f_B 9 0), .int .u8 (List.getD rv1.f_Key.f_Src.f_B 10 0), .int .u8 (List.getD rv1.f_Key.f_Src.f_B 11 0), .int .u8 (List.getD rv1.f_Key.f_Src.f_B 12 0), .int .u8 (List.getD rv1.f_Key.f_Src.f_B 13 0), .int .u8 (List.getD rv1.f_Key.f_Src.f_B 14 0), .int .u8 (List.getD rv1.f_Key.f_Src.f_B 15 0), .bool rv1.f_Key.f_Dst.f_Six, .int .u8 (List.getD rv1.f_Key.f_Dst.f_B 0 0), .int .u8 (List.getD rv1.f_Key.f_Dst.f_B 1 0), .int .u8 (List.getD rv1.f_Key.f_Dst.f_B 2 0), .int .u8 (List.getD rv1.f_Key.f_Dst.f_B 3 0), .int .u8 (List.getD rv1.f_Key.f_Dst.f_B 4 0), .int .u8 (List.getD rv1.f_Key.f_Dst.f_B 5 0), .int .u8 (List.getD rv1.f_Key.f_Dst.f_B 6 0), .int .u8 (List.getD rv1.f_Key.f_Dst.f_B 7 0), .int .u8 (List.getD rv1.f_Key.f_Dst.f_B 8 0), .int .u8 (List.getD rv1.f_Key.f_Dst.f_B 9 0), .int .u8 (List.getD rv1.f_Key.f_Dst.f_B 10 0), .int .u8 (List.getD rv1.f_Key.f_Dst.f_B 11 0), .int .u8 (List.getD rv1.f_Key.f_Dst.f_B 12 0), .int .u8 (List.getD rv1.f_Key.f_Dst.f_B 13 0), .int .u8 (List.getD rv1.f_Key.f_Dst.f_B 14 0), .int .u8 (List.getD rv1.f_Key.f_Dst.f_B 15 0), .int .u8 rv1.f_Key.f_Proto, .int .u16 rv1.f_Key.f_SrcPort, .int .u16 rv1.f_Key.f_DstPort, .int .u64 t50, .int .u64 t51, .int .u64 rv1.f_First, .int .u64 rv1.f_Last, .int .u8 rv1.f_Flags, .int .u8 rv1.f_Reason, .int .u8 rv1.f_Class], .box g7 39 [.bool p2.f_Key.f_Src.f_Six, .int .u8 (List.getD p2.f_Key.f_Src.f_B 0 0), .int .u8 (List.getD p2.f_Key.f_Src.f_B 1 0), .int .u8 (List.getD p2.f_Key.f_Src.f_B 2 0), .int .u8 (List.getD p2.f_Key.f_Src.f_B 3 0), .int .u8 (List.getD p2.f_Key.f_Src.f_B 4 0), .int .u8 (List.getD p2.f_Key.f_Src.f_B 5 0), .int .u8 (List.getD p2.f_Key.f_Src.f_B 6 0), .int .u8 (List.getD p2.f_Key.f_Src.f_B 7 0), .int .u8 (List.getD p2.f_Key.f_Src.f_B 8 0), .int .u8 (List.getD p2.f_Key.f_Src.f_B 9 0), .int .u8 (List.getD p2.f_Key.f_Src.f_B 10 0), .int .u8 (List.getD p2.f_Key.f_Src.f_B 11 0), .int .u8 (List.getD p2.f_Key.f_Src.f_B 12 0), .int .u8 (List.getD p2.f_Key.f_Src.f_B 13 0), .int .u8 (List.getD p2.f_Key.f_Src.f_B 14 0), .int .u8 (List.getD p2.f_Key.f_Src.f_B 15 0), .bool p2.f_Key.f_Dst.f_Six, .int .u8 (List.getD p2.f_Key.f_Dst.f_B 0 0), .int .u8 (List.getD p2.f_Key.f_Dst.f_B 1 0), .int .u8 (List.getD p2.f_Key.f_Dst.f_B 2 0), .int .u8 (List.getD p2.f_Key.f_Dst.f_B 3 0), .int .u8 (List.getD p2.f_Key.f_Dst.f_B 4 0), .int .u8 (List.getD p2.f_Key.f_Dst.f_B 5 0), .int .u8 (List.getD p2.f_Key.f_Dst.f_B 6 0), .int .u8 (List.getD p2.f_Key.f_Dst.f_B 7 0), .int .u8 (List.getD p2.f_Key.f_Dst.f_B 8 0), .int .u8 (List.getD p2.f_Key.f_Dst.f_B 9 0), .int .u8 (List.getD p2.f_Key.f_Dst.f_B 10 0), .int .u8 (List.getD p2.f_Key.f_Dst.f_B 11 0), .int .u8 (List.getD p2.f_Key.f_Dst.f_B 12 0), .int .u8 (List.getD p2.f_Key.f_Dst.f_B 13 0), .int .u8 (List.getD p2.f_Key.f_Dst.f_B 14 0), .int .u8 (List.getD p2.f_Key.f_Dst.f_B 15 0), .int .u8 p2.f_Key.f_Proto, .int .u16 p2.f_Key.f_SrcPort, .int .u16 p2.f_Key.f_DstPort, .int .i64 p2.f_Length, .int .u8 p2.f_Flags, .bool p2.f_Fragment], .box g10 35 [.bool false, .int .u8 (List.getD (List.replicate 16 0) 0 0), .int .u8 (List.getD (List.replicate 16 0) 1 0), .int .u8 (List.getD (List.replicate 16 0) 2 0), .int .u8 (List.getD (List.replicate 16 0) 3 0), .int .u8 (List.getD (List.replicate 16 0) 4 0), .int .u8 (List.getD (List.replicate 16 0) 5 0), .int .u8 (List.getD (List.replicate 16 0) 6 0), .int .u8 (List.getD (List.replicate 16 0) 7 0), .int .u8 (List.getD (List.replicate 16 0) 8 0), .int .u8 (List.getD (List.replicate 16 0) 9 0), .int .u8 (List.getD (List.replicate 16 0) 10 0), .int .u8 (List.getD (List.replicate 16 0) 11 0), .int .u8 (List.getD (List.replicate 16 0) 12 0), .int .u8 (List.getD (List.replicate 16 0) 13 0), .int .u8 (List.getD (List.replicate 16 0) 14 0), .int .u8 (List.getD (List.replicate 16 0) 15 0), .bool false, .int .u8 (List.getD (List.replicate 16 0) 0 0), .int .u8 (List.getD (List.replicate 16 0) 1 0), .int .u8 (List.getD (List.replicate 16 0) 2 0), .int .u8 (List.getD (List.replicate 16 0) 3 0), .int .u8 (List.getD (List.replicate 16 0) 4 0), .int .u8 (List.getD (List.replicate 16 0) 5 0), .int .u8 (List.getD (List.replicate 16 0) 6 0), .int .u8 (List.getD (List.replicate 16 0) 7 0), .int .u8 (List.getD (List.replicate 16 0) 8 0), .int .u8 (List.getD (List.replicate 16 0) 9 0), .int .u8 (List.getD (List.replicate 16 0) 10 0), .int .u8 (List.getD (List.replicate 16 0) 11 0), .int .u8 (List.getD (List.replicate 16 0) 12 0), .int .u8 (List.getD (List.replicate 16 0) 13 0), .int .u8 (List.getD (List.replicate 16 0) 14 0), .int .u8 (List.getD (List.replicate 16 0) 15 0), .int .u8 0, .int .u16 0, .int .u16 0, .int .u64 0, .int .u64 0, .int .u64 0, .int .u64 0, .int .u8 0, .int .u8 0, .int .u8 0]] ∧ F_flow_Record_With_j2 rv1 p2 tick3 t50 t51 = some r) ?_ ?_
    · replace hM := hM.drewN 1
      refine KC.draw [] [5, 7] [3, 5, 7] [0, 2, 4, 6] (.cons 0 (.cons 1 (.cons 2 (.cons 4 (.alt 3 (.ofList [5, 6, 7]) 5 (.ofList [3, 6, 7])))))) moP (by kernel_rfl) ?_
      refine RD.p rfl rfl rfl rfl (fun w' => O.fldA fl32_0 (by decide) rfl) ?_
      refine RD.q rfl rfl rfl rfl (fun w' hf => O.load sc30 rfl (Cs.adds [0] ((hM.bx (i := 3) rfl).fut hf) rfl)) ?_
      refine RD.p rfl rfl rfl rfl (fun w' => O.fldA fl32_1 (by decide) rfl) ?_
      refine RD.p rfl rfl rfl rfl (fun w' => O.fldA fl35_1 (by decide) rfl) ?_
      refine RD.alt ?_ ?_
      · refine RD.mq rfl rfl (O.load sc30 rfl (Cs.adds [1] ((hM.bx (i := 3) rfl)) rfl)) rfl ?_
        refine RD.meffs rfl rfl rfl (E.stB (j := 0) (off := 37) (vs := [.int .u64 t50]) (cs' := [.bool rv1.f_Key.f_Src.f_Six, .int .u8 (List.getD rv1.f_Key.f_Src.f_B 0 0), .int .u8 (List.getD rv1.f_Key.f_Src.f_B 1 0), .int .u8 (List.getD rv1.f_Key.f_Src.f_B 2 0), .int .u8 (List.getD rv1.f_Key.f_Src.f_B 3 0), .int .u8 (List.getD rv1.f_Key.f_Src.f_B 4 0), .int .u8 (List.getD rv1.f_Key.f_Src.f_B 5 0), .int .u8 (List.getD rv1.f_Key.f_Src.f_B 6 0), .int .u8 (List.getD rv1.f_Key.f_Src.f_B 7 0), .int .u8 (List.getD rv1.f_Key.f_Src.f_B 8 0), .int .u8 (List.getD rv1.f_Key.f_Src.f_B 9 0), .int .u8 (List.getD rv1.f_Key.f_Src.f_B 10 0), .int .u8 (List.getD rv1.f_Key.f_Src.f_B 11 0), .int .u8 (List.getD rv1.f_Key.f_Src.f_B 12 0), .int .u8 (List.getD rv1.f_Key.f_Src.f_B 13 0), .int .u8 (List.getD rv1.f_Key.f_Src.f_B 14 0), .int .u8 (List.getD rv1.f_Key.f_Src.f_B 15 0), .bool rv1.f_Key.f_Dst.f_Six, .int .u8 (List.getD rv1.f_Key.f_Dst.f_B 0 0), .int .u8 (List.getD rv1.f_Key.f_Dst.f_B 1 0), .int .u8 (List.getD rv1.f_Key.f_Dst.f_B 2 0), .int .u8 (List.getD rv1.f_Key.f_Dst.f_B 3 0), .int .u8 (List.getD rv1.f_Key.f_Dst.f_B 4 0), .int .u8 (List.getD rv1.f_Key.f_Dst.f_B 5 0), .int .u8 (List.getD rv1.f_Key.f_Dst.f_B 6 0), .int .u8 (List.getD rv1.f_Key.f_Dst.f_B 7 0), .int .u8 (List.getD rv1.f_Key.f_Dst.f_B 8 0), .int .u8 (List.getD rv1.f_Key.f_Dst.f_B 9 0), .int .u8 (List.getD rv1.f_Key.f_Dst.f_B 10 0), .int .u8 (List.getD rv1.f_Key.f_Dst.f_B 11 0), .int .u8 (List.getD rv1.f_Key.f_Dst.f_B 12 0), .int .u8 (List.getD rv1.f_Key.f_Dst.f_B 13 0), .int .u8 (List.getD rv1.f_Key.f_Dst.f_B 14 0), .int .u8 (List.getD rv1.f_Key.f_Dst.f_B 15 0), .int .u8 rv1.f_Key.f_Proto, .int .u16 rv1.f_Key.f_SrcPort, .int .u16 rv1.f_Key.f_DstPort, .int .u64 t50, .int .u64 rv1.f_Bytes, .int .u64 rv1.f_First, .int .u64 rv1.f_Last, .int .u8 rv1.f_Flags, .int .u8 rv1.f_Reason, .int .u8 rv1.f_Class]) hM rfl sz30 rfl (adds_eq [37] rfl) rfl rfl (One.all rfl) rfl rfl) fun w53 hM1 => ?_
        clear hM
        have hM := hM1
        clear hM1
        refine RD.p rfl rfl rfl rfl (fun w' => O.fldA fl35_2 (by decide) rfl) ?_
        refine RD.meffs rfl rfl rfl (E.stB (j := 0) (off := 38) (vs := [.int .u64 t51]) (cs' := [.bool rv1.f_Key.f_Src.f_Six, .int .u8 (List.getD rv1.f_Key.f_Src.f_B 0 0), .int .u8 (List.getD rv1.f_Key.f_Src.f_B 1 0), .int .u8 (List.getD rv1.f_Key.f_Src.f_B 2 0), .int .u8 (List.getD rv1.f_Key.f_Src.f_B 3 0), .int .u8 (List.getD rv1.f_Key.f_Src.f_B 4 0), .int .u8 (List.getD rv1.f_Key.f_Src.f_B 5 0), .int .u8 (List.getD rv1.f_Key.f_Src.f_B 6 0), .int .u8 (List.getD rv1.f_Key.f_Src.f_B 7 0), .int .u8 (List.getD rv1.f_Key.f_Src.f_B 8 0), .int .u8 (List.getD rv1.f_Key.f_Src.f_B 9 0), .int .u8 (List.getD rv1.f_Key.f_Src.f_B 10 0), .int .u8 (List.getD rv1.f_Key.f_Src.f_B 11 0), .int .u8 (List.getD rv1.f_Key.f_Src.f_B 12 0), .int .u8 (List.getD rv1.f_Key.f_Src.f_B 13 0), .int .u8 (List.getD rv1.f_Key.f_Src.f_B 14 0), .int .u8 (List.getD rv1.f_Key.f_Src.f_B 15 0), .bool rv1.f_Key.f_Dst.f_Six, .int .u8 (List.getD rv1.f_Key.f_Dst.f_B 0 0), .int .u8 (List.getD rv1.f_Key.f_Dst.f_B 1 0), .int .u8 (List.getD rv1.f_Key.f_Dst.f_B 2 0), .int .u8 (List.getD rv1.f_Key.f_Dst.f_B 3 0), .int .u8 (List.getD rv1.f_Key.f_Dst.f_B 4 0), .int .u8 (List.getD rv1.f_Key.f_Dst.f_B 5 0), .int .u8 (List.getD rv1.f_Key.f_Dst.f_B 6 0), .int .u8 (List.getD rv1.f_Key.f_Dst.f_B 7 0), .int .u8 (List.getD rv1.f_Key.f_Dst.f_B 8 0), .int .u8 (List.getD rv1.f_Key.f_Dst.f_B 9 0), .int .u8 (List.getD rv1.f_Key.f_Dst.f_B 10 0), .int .u8 (List.getD rv1.f_Key.f_Dst.f_B 11 0), .int .u8 (List.getD rv1.f_Key.f_Dst.f_B 12 0), .int .u8 (List.getD rv1.f_Key.f_Dst.f_B 13 0), .int .u8 (List.getD rv1.f_Key.f_Dst.f_B 14 0), .int .u8 (List.getD rv1.f_Key.f_Dst.f_B 15 0), .int .u8 rv1.f_Key.f_Proto, .int .u16 rv1.f_Key.f_SrcPort, .int .u16 rv1.f_Key.f_DstPort, .int .u64 t50, .int .u64 t51, .int .u64 rv1.f_First, .int .u64 rv1.f_Last, .int .u8 rv1.f_Flags, .int .u8 rv1.f_Reason, .int .u8 rv1.f_Class]) hM rfl sz30 rfl (adds_eq [38] rfl) rfl rfl (One.all rfl) rfl rfl) fun w54 hM1 => ?_
        clear hM
        have hM := hM1
        clear hM1
        refine RD.nil ?_
        refine KQ.then_k ?_
        replace hM := hM.pick [0, 1, 2] rfl (by decide)
        exact fun a ha => ⟨ha.less (less_cons rfl (less_cons rfl (less_cons rfl (less_cons rfl less_nil)))), hM, hF⟩
      · refine RD.meffs rfl rfl rfl (E.stB (j := 0) (off := 37) (vs := [.int .u64 t50]) (cs' := [.bool rv1.f_Key.f_Src.f_Six, .int .u8 (List.getD rv1.f_Key.f_Src.f_B 0 0), .int .u8 (List.getD rv1.f_Key.f_Src.f_B 1 0), .int .u8 (List.getD rv1.f_Key.f_Src.f_B 2 0), .int .u8 (List.getD rv1.f_Key.f_Src.f_B 3 0), .int .u8 (List.getD rv1.f_Key.f_Src.f_B 4 0), .int .u8 (List.getD rv1.f_Key.f_Src.f_B 5 0), .int .u8 (List.getD rv1.f_Key.f_Src.f_B 6 0), .int .u8 (List.getD rv1.f_Key.f_Src.f_B 7 0), .int .u8 (List.getD rv1.f_Key.f_Src.f_B 8 0), .int .u8 (List.getD rv1.f_Key.f_Src.f_B 9 0), .int .u8 (List.getD rv1.f_Key.f_Src.f_B 10 0), .int .u8 (List.getD rv1.f_Key.f_Src.f_B 11 0), .int .u8 (List.getD rv1.f_Key.f_Src.f_B 12 0), .int .u8 (List.getD rv1.f_Key.f_Src.f_B 13 0), .int .u8 (List.getD rv1.f_Key.f_Src.f_B 14 0), .int .u8 (List.getD rv1.f_Key.f_Src.f_B 15 0), .bool rv1.f_Key.f_Dst.f_Six, .int .u8 (List.getD rv1.f_Key.f_Dst.f_B 0 0), .int .u8 (List.getD rv1.f_Key.f_Dst.f_B 1 0), .int .u8 (List.getD rv1.f_Key.f_Dst.f_B 2 0), .int .u8 (List.getD rv1.f_Key.f_Dst.f_B 3 0), .int .u8 (List.getD rv1.f_Key.f_Dst.f_B 4 0), .int .u8 (List.getD rv1.f_Key.f_Dst.f_B 5 0), .int .u8 (List.getD rv1.f_Key.f_Dst.f_B 6 0), .int .u8 (List.getD rv1.f_Key.f_Dst.f_B 7 0), .int .u8 (List.getD rv1.f_Key.f_Dst.f_B 8 0), .int .u8 (List.getD rv1.f_Key.f_Dst.f_B 9 0), .int .u8 (List.getD rv1.f_Key.f_Dst.f_B 10 0), .int .u8 (List.getD rv1.f_Key.f_Dst.f_B 11 0), .int .u8 (List.getD rv1.f_Key.f_Dst.f_B 12 0), .int .u8 (List.getD rv1.f_Key.f_Dst.f_B 13 0), .int .u8 (List.getD rv1.f_Key.f_Dst.f_B 14 0), .int .u8 (List.getD rv1.f_Key.f_Dst.f_B 15 0), .int .u8 rv1.f_Key.f_Proto, .int .u16 rv1.f_Key.f_SrcPort, .int .u16 rv1.f_Key.f_DstPort, .int .u64 t50, .int .u64 rv1.f_Bytes, .int .u64 rv1.f_First, .int .u64 rv1.f_Last, .int .u8 rv1.f_Flags, .int .u8 rv1.f_Reason, .int .u8 rv1.f_Class]) hM rfl sz30 rfl (adds_eq [37] rfl) rfl rfl (One.all rfl) rfl rfl) fun w55 hM1 => ?_
        clear hM
        have hM := hM1
        clear hM1
        refine RD.mq rfl rfl (O.load sc30 rfl (Cs.adds [1] ((hM.bx (i := 3) rfl)) rfl)) rfl ?_
        refine RD.p rfl rfl rfl rfl (fun w' => O.fldA fl35_2 (by decide) rfl) ?_
        refine RD.meffs rfl rfl rfl (E.stB (j := 0) (off := 38) (vs := [.int .u64 t51]) (cs' := [.bool rv1.f_Key.f_Src.f_Six, .int .u8 (List.getD rv1.f_Key.f_Src.f_B 0 0), .int .u8 (List.getD rv1.f_Key.f_Src.f_B 1 0), .int .u8 (List.getD rv1.f_Key.f_Src.f_B 2 0), .int .u8 (List.getD rv1.f_Key.f_Src.f_B 3 0), .int .u8 (List.getD rv1.f_Key.f_Src.f_B 4 0), .int .u8 (List.getD rv1.f_Key.f_Src.f_B 5 0), .int .u8 (List.getD rv1.f_Key.f_Src.f_B 6 0), .int .u8 (List.getD rv1.f_Key.f_Src.f_B 7 0), .int .u8 (List.getD rv1.f_Key.f_Src.f_B 8 0), .int .u8 (List.getD rv1.f_Key.f_Src.f_B 9 0), .int .u8 (List.getD rv1.f_Key.f_Src.f_B 10 0), .int .u8 (List.getD rv1.f_Key.f_Src.f_B 11 0), .int .u8 (List.getD rv1.f_Key.f_Src.f_B 12 0), .int .u8 (List.getD rv1.f_Key.f_Src.f_B 13 0), .int .u8 (List.getD rv1.f_Key.f_Src.f_B 14 0), .int .u8 (List.getD rv1.f_Key.f_Src.f_B 15 0), .bool rv1.f_Key.f_Dst.f_Six, .int .u8 (List.getD rv1.f_Key.f_Dst.f_B 0 0), .int .u8 (List.getD rv1.f_Key.f_Dst.f_B 1 0), .int .u8 (List.getD rv1.f_Key.f_Dst.f_B 2 0), .int .u8 (List.getD rv1.f_Key.f_Dst.f_B 3 0), .int .u8 (List.getD rv1.f_Key.f_Dst.f_B 4 0), .int .u8 (List.getD rv1.f_Key.f_Dst.f_B 5 0), .int .u8 (List.getD rv1.f_Key.f_Dst.f_B 6 0), .int .u8 (List.getD rv1.f_Key.f_Dst.f_B 7 0), .int .u8 (List.getD rv1.f_Key.f_Dst.f_B 8 0), .int .u8 (List.getD rv1.f_Key.f_Dst.f_B 9 0), .int .u8 (List.getD rv1.f_Key.f_Dst.f_B 10 0), .int .u8 (List.getD rv1.f_Key.f_Dst.f_B 11 0), .int .u8 (List.getD rv1.f_Key.f_Dst.f_B 12 0), .int .u8 (List.getD rv1.f_Key.f_Dst.f_B 13 0), .int .u8 (List.getD rv1.f_Key.f_Dst.f_B 14 0), .int .u8 (List.getD rv1.f_Key.f_Dst.f_B 15 0), .int .u8 rv1.f_Key.f_Proto, .int .u16 rv1.f_Key.f_SrcPort, .int .u16 rv1.f_Key.f_DstPort, .int .u64 t50, .int .u64 t51, .int .u64 rv1.f_First, .int .u64 rv1.f_Last, .int .u8 rv1.f_Flags, .int .u8 rv1.f_Reason, .int .u8 rv1.f_Class]) hM rfl sz30 rfl (adds_eq [38] rfl) rfl rfl (One.all rfl) rfl rfl) fun w56 hM1 => ?_
        clear hM
        have hM := hM1
        clear hM1
        refine RD.nil ?_
        refine KQ.then_k ?_
        replace hM := hM.pick [0, 1, 2] rfl (by decide)
        exact fun a ha => ⟨ha.less (less_cons rfl (less_cons rfl (less_cons rfl (less_cons rfl less_nil)))), hM, hF⟩
    · rintro a w60 ⟨ha, hM, hF⟩
      refine KC.app ha ?_
      clear ha
      unfold F_flow_Record_With_j2 at hF
      refine KC.seq ?_
      refine KC.region ?_
      refine RL.val (O.fldA fl35_4 (by decide) rfl) rfl ?_
      refine RL.val (O.load sc30 rfl (Cs.adds [40] ((hM.bx (i := 0) rfl)) rfl)) rfl ?_
      refine RL.val (O.move rfl) rfl ?_
      refine RL.val (O.max2 rfl rfl) rfl ?_
      refine RL.val (O.fldA fl35_4 (by decide) rfl) rfl ?_
      refine RL.effs (E.stB (j := 0) (off := 40) (vs := [.int .u64 (gmax rv1.f_Last tick3)]) (cs' := [.bool rv1.f_Key.f_Src.f_Six, .int .u8 (List.getD rv1.f_Key.f_Src.f_B 0 0), .int .u8 (List.getD rv1.f_Key.f_Src.f_B 1 0), .int .u8 (List.getD rv1.f_Key.f_Src.f_B 2 0), .int .u8 (List.getD rv1.f_Key.f_Src.f_B 3 0), .int .u8 (List.getD rv1.f_Key.f_Src.f_B 4 0), .int .u8 (List.getD rv1.f_Key.f_Src.f_B 5 0), .int .u8 (List.getD rv1.f_Key.f_Src.f_B 6 0), .int .u8 (List.getD rv1.f_Key.f_Src.f_B 7 0), .int .u8 (List.getD rv1.f_Key.f_Src.f_B 8 0), .int .u8 (List.getD rv1.f_Key.f_Src.f_B 9 0), .int .u8 (List.getD rv1.f_Key.f_Src.f_B 10 0), .int .u8 (List.getD rv1.f_Key.f_Src.f_B 11 0), .int .u8 (List.getD rv1.f_Key.f_Src.f_B 12 0), .int .u8 (List.getD rv1.f_Key.f_Src.f_B 13 0), .int .u8 (List.getD rv1.f_Key.f_Src.f_B 14 0), .int .u8 (List.getD rv1.f_Key.f_Src.f_B 15 0), .bool rv1.f_Key.f_Dst.f_Six, .int .u8 (List.getD rv1.f_Key.f_Dst.f_B 0 0), .int .u8 (List.getD rv1.f_Key.f_Dst.f_B 1 0), .int .u8 (List.getD rv1.f_Key.f_Dst.f_B 2 0), .int .u8 (List.getD rv1.f_Key.f_Dst.f_B 3 0), .int .u8 (List.getD rv1.f_Key.f_Dst.f_B 4 0), .int .u8 (List.getD rv1.f_Key.f_Dst.f_B 5 0), .int .u8 (List.getD rv1.f_Key.f_Dst.f_B 6 0), .int .u8 (List.getD rv1.f_Key.f_Dst.f_B 7 0), .int .u8 (List.getD rv1.f_Key.f_Dst.f_B 8 0), .int .u8 (List.getD rv1.f_Key.f_Dst.f_B 9 0), .int .u8 (List.getD rv1.f_Key.f_Dst.f_B 10 0), .int .u8 (List.getD rv1.f_Key.f_Dst.f_B 11 0), .int .u8 (List.getD rv1.f_Key.f_Dst.f_B 12 0), .int .u8 (List.getD rv1.f_Key.f_Dst.f_B 13 0), .int .u8 (List.getD rv1.f_Key.f_Dst.f_B 14 0), .int .u8 (List.getD rv1.f_Key.f_Dst.f_B 15 0), .int .u8 rv1.f_Key.f_Proto, .int .u16 rv1.f_Key.f_SrcPort, .int .u16 rv1.f_Key.f_DstPort, .int .u64 t50, .int .u64 t51, .int .u64 rv1.f_First, .int .u64 (gmax rv1.f_Last tick3), .int .u8 rv1.f_Flags, .int .u8 rv1.f_Reason, .int .u8 rv1.f_Class]) hM rfl sz30 rfl (adds_eq [40] rfl) rfl rfl (One.all rfl) rfl rfl) fun w61 hM1 => ?_
      clear hM
      have hM := hM1
      clear hM1
      refine RL.nil ?_
      refine KQ.then_n ?_
      refine KC.seq ?_
      refine KC.region ?_
      refine RL.val (O.fldA fl35_5 (by decide) rfl) rfl ?_
      refine RL.val (O.load sc5 rfl (Cs.adds [41] ((hM.bx (i := 0) rfl)) rfl)) rfl ?_
      refine RL.val (O.fldA fl39_2 (by decide) rfl) rfl ?_
      refine RL.val (O.load sc5 rfl (Cs.adds [38] ((hM.bx (i := 1) rfl)) rfl)) rfl ?_
      refine RL.val (O.or rfl rfl) rfl ?_
      refine RL.val (O.fldA fl35_5 (by decide) rfl) rfl ?_
      refine RL.effs (E.stB (j := 0) (off := 41) (vs := [.int .u8 (bits .or .u8 rv1.f_Flags p2.f_Flags)]) (cs' := [.bool rv1.f_Key.f_Src.f_Six, .int .u8 (List.getD rv1.f_Key.f_Src.f_B 0 0), .int .u8 (List.getD rv1.f_Key.f_Src.f_B 1 0), .int .u8 (List.getD rv1.f_Key.f_Src.f_B 2 0), .int .u8 (List.getD rv1.f_Key.f_Src.f_B 3 0), .int .u8 (List.getD rv1.f_Key.f_Src.f_B 4 0), .int .u8 (List.getD rv1.f_Key.f_Src.f_B 5 0), .int .u8 (List.getD rv1.f_Key.f_Src.f_B 6 0), .int .u8 (List.getD rv1.f_Key.f_Src.f_B 7 0), .int .u8 (List.getD rv1.f_Key.f_Src.f_B 8 0), .int .u8 (List.getD rv1.f_Key.f_Src.f_B 9 0), .int .u8 (List.getD rv1.f_Key.f_Src.f_B 10 0), .int .u8 (List.getD rv1.f_Key.f_Src.f_B 11 0), .int .u8 (List.getD rv1.f_Key.f_Src.f_B 12 0), .int .u8 (List.getD rv1.f_Key.f_Src.f_B 13 0), .int .u8 (List.getD rv1.f_Key.f_Src.f_B 14 0), .int .u8 (List.getD rv1.f_Key.f_Src.f_B 15 0), .bool rv1.f_Key.f_Dst.f_Six, .int .u8 (List.getD rv1.f_Key.f_Dst.f_B 0 0), .int .u8 (List.getD rv1.f_Key.f_Dst.f_B 1 0), .int .u8 (List.getD rv1.f_Key.f_Dst.f_B 2 0), .int .u8 (List.getD rv1.f_Key.f_Dst.f_B 3 0), .int .u8 (List.getD rv1.f_Key.f_Dst.f_B 4 0), .int .u8 (List.getD rv1.f_Key.f_Dst.f_B 5 0), .int .u8 (List.getD rv1.f_Key.f_Dst.f_B 6 0), .int .u8 (List.getD rv1.f_Key.f_Dst.f_B 7 0), .int .u8 (List.getD rv1.f_Key.f_Dst.f_B 8 0), .int .u8 (List.getD rv1.f_Key.f_Dst.f_B 9 0), .int .u8 (List.getD rv1.f_Key.f_Dst.f_B 10 0), .int .u8 (List.getD rv1.f_Key.f_Dst.f_B 11 0), .int .u8 (List.getD rv1.f_Key.f_Dst.f_B 12 0), .int .u8 (List.getD rv1.f_Key.f_Dst.f_B 13 0), .int .u8 (List.getD rv1.f_Key.f_Dst.f_B 14 0), .int .u8 (List.getD rv1.f_Key.f_Dst.f_B 15 0), .int .u8 rv1.f_Key.f_Proto, .int .u16 rv1.f_Key.f_SrcPort, .int .u16 rv1.f_Key.f_DstPort, .int .u64 t50, .int .u64 t51, .int .u64 rv1.f_First, .int .u64 (gmax rv1.f_Last tick3), .int .u8 (bits .or .u8 rv1.f_Flags p2.f_Flags), .int .u8 rv1.f_Reason, .int .u8 rv1.f_Class]) hM rfl sz5 rfl (adds_eq [41] rfl) rfl rfl (One.all rfl) rfl rfl) fun w62 hM1 => ?_
      clear hM
      have hM := hM1
      clear hM1
      refine RL.nil ?_
      refine KQ.then_n ?_
      refine KC.seq ?_
      refine KC.region ?_
      refine RL.val (O.loadN (cs := [.bool rv1.f_Key.f_Src.f_Six, .int .u8 (List.getD rv1.f_Key.f_Src.f_B 0 0), .int .u8 (List.getD rv1.f_Key.f_Src.f_B 1 0), .int .u8 (List.getD rv1.f_Key.f_Src.f_B 2 0), .int .u8 (List.getD rv1.f_Key.f_Src.f_B 3 0), .int .u8 (List.getD rv1.f_Key.f_Src.f_B 4 0), .int .u8 (List.getD rv1.f_Key.f_Src.f_B 5 0), .int .u8 (List.getD rv1.f_Key.f_Src.f_B 6 0), .int .u8 (List.getD rv1.f_Key.f_Src.f_B 7 0), .int .u8 (List.getD rv1.f_Key.f_Src.f_B 8 0), .int .u8 (List.getD rv1.f_Key.f_Src.f_B 9 0), .int .u8 (List.getD rv1.f_Key.f_Src.f_B 10 0), .int .u8 (List.getD rv1.f_Key.f_Src.f_B 11 0), .int .u8 (List.getD rv1.f_Key.f_Src.f_B 12 0), .int .u8 (List.getD rv1.f_Key.f_Src.f_B 13 0), .int .u8 (List.getD rv1.f_Key.f_Src.f_B 14 0), .int .u8 (List.getD rv1.f_Key.f_Src.f_B 15 0), .bool rv1.f_Key.f_Dst.f_Six, .int .u8 (List.getD rv1.f_Key.f_Dst.f_B 0 0), .int .u8 (List.getD rv1.f_Key.f_Dst.f_B 1 0), .int .u8 (List.getD rv1.f_Key.f_Dst.f_B 2 0), .int .u8 (List.getD rv1.f_Key.f_Dst.f_B 3 0), .int .u8 (List.getD rv1.f_Key.f_Dst.f_B 4 0), .int .u8 (List.getD rv1.f_Key.f_Dst.f_B 5 0), .int .u8 (List.getD rv1.f_Key.f_Dst.f_B 6 0), .int .u8 (List.getD rv1.f_Key.f_Dst.f_B 7 0), .int .u8 (List.getD rv1.f_Key.f_Dst.f_B 8 0), .int .u8 (List.getD rv1.f_Key.f_Dst.f_B 9 0), .int .u8 (List.getD rv1.f_Key.f_Dst.f_B 10 0), .int .u8 (List.getD rv1.f_Key.f_Dst.f_B 11 0), .int .u8 (List.getD rv1.f_Key.f_Dst.f_B 12 0), .int .u8 (List.getD rv1.f_Key.f_Dst.f_B 13 0), .int .u8 (List.getD rv1.f_Key.f_Dst.f_B 14 0), .int .u8 (List.getD rv1.f_Key.f_Dst.f_B 15 0), .int .u8 rv1.f_Key.f_Proto, .int .u16 rv1.f_Key.f_SrcPort, .int .u16 rv1.f_Key.f_DstPort, .int .u64 t50, .int .u64 t51, .int .u64 rv1.f_First, .int .u64 (gmax rv1.f_Last tick3), .int .u8 (bits .or .u8 rv1.f_Flags p2.f_Flags), .int .u8 rv1.f_Reason, .int .u8 rv1.f_Class]) ag35 rfl (Cs.addsN [] ((hM.bx (i := 0) rfl)) rfl)) rfl ?_
      refine RL.effs (E.stB (j := 2) (off := 0) (vs := [.bool rv1.f_Key.f_Src.f_Six, .int .u8 (List.getD rv1.f_Key.f_Src.f_B 0 0), .int .u8 (List.getD rv1.f_Key.f_Src.f_B 1 0), .int .u8 (List.getD rv1.f_Key.f_Src.f_B 2 0), .int .u8 (List.getD rv1.f_Key.f_Src.f_B 3 0), .int .u8 (List.getD rv1.f_Key.f_Src.f_B 4 0), .int .u8 (List.getD rv1.f_Key.f_Src.f_B 5 0), .int .u8 (List.getD rv1.f_Key.f_Src.f_B 6 0), .int .u8 (List.getD rv1.f_Key.f_Src.f_B 7 0), .int .u8 (List.getD rv1.f_Key.f_Src.f_B 8 0), .int .u8 (List.getD rv1.f_Key.f_Src.f_B 9 0), .int .u8 (List.getD rv1.f_Key.f_Src.f_B 10 0), .int .u8 (List.getD rv1.f_Key.f_Src.f_B 11 0), .int .u8 (List.getD rv1.f_Key.f_Src.f_B 12 0), .int .u8 (List.getD rv1.f_Key.f_Src.f_B 13 0), .int .u8 (List.getD rv1.f_Key.f_Src.f_B 14 0), .int .u8 (List.getD rv1.f_Key.f_Src.f_B 15 0), .bool rv1.f_Key.f_Dst.f_Six, .int .u8 (List.getD rv1.f_Key.f_Dst.f_B 0 0), .int .u8 (List.getD rv1.f_Key.f_Dst.f_B 1 0), .int .u8 (List.getD rv1.f_Key.f_Dst.f_B 2 0), .int .u8 (List.getD rv1.f_Key.f_Dst.f_B 3 0), .int .u8 (List.getD rv1.f_Key.f_Dst.f_B 4 0), .int .u8 (List.getD rv1.f_Key.f_Dst.f_B 5 0), .int .u8 (List.getD rv1.f_Key.f_Dst.f_B 6 0), .int .u8 (List.getD rv1.f_Key.f_Dst.f_B 7 0), .int .u8 (List.getD rv1.f_Key.f_Dst.f_B 8 0), .int .u8 (List.getD rv1.f_Key.f_Dst.f_B 9 0), .int .u8 (List.getD rv1.f_Key.f_Dst.f_B 10 0), .int .u8 (List.getD rv1.f_Key.f_Dst.f_B 11 0), .int .u8 (List.getD rv1.f_Key.f_Dst.f_B 12 0), .int .u8 (List.getD rv1.f_Key.f_Dst.f_B 13 0), .int .u8 (List.getD rv1.f_Key.f_Dst.f_B 14 0), .int .u8 (List.getD rv1.f_Key.f_Dst.f_B 15 0), .int .u8 rv1.f_Key.f_Proto, .int .u16 rv1.f_Key.f_SrcPort, .int .u16 rv1.f_Key.f_DstPort, .int .u64 t50, .int .u64 t51, .int .u64 rv1.f_First, .int .u64 (gmax rv1.f_Last tick3), .int .u8 (bits .or .u8 rv1.f_Flags p2.f_Flags), .int .u8 rv1.f_Reason, .int .u8 rv1.f_Class]) (cs' := [.bool rv1.f_Key.f_Src.f_Six, .int .u8 (List.getD rv1.f_Key.f_Src.f_B 0 0), .int .u8 (List.getD rv1.f_Key.f_Src.f_B 1 0), .int .u8 (List.getD rv1.f_Key.f_Src.f_B 2 0), .int .u8 (List.getD rv1.f_Key.f_Src.f_B 3 0), .int .u8 (List.getD rv1.f_Key.f_Src.f_B 4 0), .int .u8 (List.getD rv1.f_Key.f_Src.f_B 5 0), .int .u8 (List.getD rv1.f_Key.f_Src.f_B 6 0), .int .u8 (List.getD rv1.f_Key.f_Src.f_B 7 0), .int .u8 (List.getD rv1.f_Key.f_Src.f_B 8 0), .int .u8 (List.getD rv1.f_Key.f_Src.f_B 9 0), .int .u8 (List.getD rv1.f_Key.f_Src.f_B 10 0), .int .u8 (List.getD rv1.f_Key.f_Src.f_B 11 0), .int .u8 (List.getD rv1.f_Key.f_Src.f_B 12 0), .int .u8 (List.getD rv1.f_Key.f_Src.f_B 13 0), .int .u8 (List.getD rv1.f_Key.f_Src.f_B 14 0), .int .u8 (List.getD rv1.f_Key.f_Src.f_B 15 0), .bool rv1.f_Key.f_Dst.f_Six, .int .u8 (List.getD rv1.f_Key.f_Dst.f_B 0 0), .int .u8 (List.getD rv1.f_Key.f_Dst.f_B 1 0), .int .u8 (List.getD rv1.f_Key.f_Dst.f_B 2 0), .int .u8 (List.getD rv1.f_Key.f_Dst.f_B 3 0), .int .u8 (List.getD rv1.f_Key.f_Dst.f_B 4 0), .int .u8 (List.getD rv1.f_Key.f_Dst.f_B 5 0), .int .u8 (List.getD rv1.f_Key.f_Dst.f_B 6 0), .int .u8 (List.getD rv1.f_Key.f_Dst.f_B 7 0), .int .u8 (List.getD rv1.f_Key.f_Dst.f_B 8 0), .int .u8 (List.getD rv1.f_Key.f_Dst.f_B 9 0), .int .u8 (List.getD rv1.f_Key.f_Dst.f_B 10 0), .int .u8 (List.getD rv1.f_Key.f_Dst.f_B 11 0), .int .u8 (List.getD rv1.f_Key.f_Dst.f_B 12 0), .int .u8 (List.getD rv1.f_Key.f_Dst.f_B 13 0), .int .u8 (List.getD rv1.f_Key.f_Dst.f_B 14 0), .int .u8 (List.getD rv1.f_Key.f_Dst.f_B 15 0), .int .u8 rv1.f_Key.f_Proto, .int .u16 rv1.f_Key.f_SrcPort, .int .u16 rv1.f_Key.f_DstPort, .int .u64 t50, .int .u64 t51, .int .u64 rv1.f_First, .int .u64 (gmax rv1.f_Last tick3), .int .u8 (bits .or .u8 rv1.f_Flags p2.f_Flags), .int .u8 rv1.f_Reason, .int .u8 rv1.f_Class]) hM rfl sz35 rfl (adds_eq [] rfl) rfl rfl (One.all rfl) rfl rfl) fun w63 hM1 => ?_
      clear hM
      have hM := hM1
      clear hM1
      refine RL.nil ?_
      refine KQ.then_n ?_
      refine KC.ret ?_
      obtain rfl := Option.some.inj hF
      have hb64 := hM.bx (i := 2) rfl
      replace hM := hM.pick [] rfl (by decide)
      refine KQ.rets Try.results8 (RVs.cons (RV.cN (cs := [.bool rv1.f_Key.f_Src.f_Six, .int .u8 (List.getD rv1.f_Key.f_Src.f_B 0 0), .int .u8 (List.getD rv1.f_Key.f_Src.f_B 1 0), .int .u8 (List.getD rv1.f_Key.f_Src.f_B 2 0), .int .u8 (List.getD rv1.f_Key.f_Src.f_B 3 0), .int .u8 (List.getD rv1.f_Key.f_Src.f_B 4 0), .int .u8 (List.getD rv1.f_Key.f_Src.f_B 5 0), .int .u8 (List.getD rv1.f_Key.f_Src.f_B 6 0), .int .u8 (List.getD rv1.f_Key.f_Src.f_B 7 0), .int .u8 (List.getD rv1.f_Key.f_Src.f_B 8 0), .int .u8 (List.getD rv1.f_Key.f_Src.f_B 9 0), .int .u8 (List.getD rv1.f_Key.f_Src.f_B 10 0), .int .u8 (List.getD rv1.f_Key.f_Src.f_B 11 0), .int .u8 (List.getD rv1.f_Key.f_Src.f_B 12 0), .int .u8 (List.getD rv1.f_Key.f_Src.f_B 13 0), .int .u8 (List.getD rv1.f_Key.f_Src.f_B 14 0), .int .u8 (List.getD rv1.f_Key.f_Src.f_B 15 0), .bool rv1.f_Key.f_Dst.f_Six, .int .u8 (List.getD rv1.f_Key.f_Dst.f_B 0 0), .int .u8 (List.getD rv1.f_Key.f_Dst.f_B 1 0), .int .u8 (List.getD rv1.f_Key.f_Dst.f_B 2 0), .int .u8 (List.getD rv1.f_Key.f_Dst.f_B 3 0), .int .u8 (List.getD rv1.f_Key.f_Dst.f_B 4 0), .int .u8 (List.getD rv1.f_Key.f_Dst.f_B 5 0), .int .u8 (List.getD rv1.f_Key.f_Dst.f_B 6 0), .int .u8 (List.getD rv1.f_Key.f_Dst.f_B 7 0), .int .u8 (List.getD rv1.f_Key.f_Dst.f_B 8 0), .int .u8 (List.getD rv1.f_Key.f_Dst.f_B 9 0), .int .u8 (List.getD rv1.f_Key.f_Dst.f_B 10 0), .int .u8 (List.getD rv1.f_Key.f_Dst.f_B 11 0), .int .u8 (List.getD rv1.f_Key.f_Dst.f_B 12 0), .int .u8 (List.getD rv1.f_Key.f_Dst.f_B 13 0), .int .u8 (List.getD rv1.f_Key.f_Dst.f_B 14 0), .int .u8 (List.getD rv1.f_Key.f_Dst.f_B 15 0), .int .u8 rv1.f_Key.f_Proto, .int .u16 rv1.f_Key.f_SrcPort, .int .u16 rv1.f_Key.f_DstPort, .int .u64 t50, .int .u64 t51, .int .u64 rv1.f_First, .int .u64 (gmax rv1.f_Last tick3), .int .u8 (bits .or .u8 rv1.f_Flags p2.f_Flags), .int .u8 rv1.f_Reason, .int .u8 rv1.f_Class]) rfl ag35 hb64) RVs.nil) ?_
      exact ⟨_, rfl, rfl, hM⟩
set_option maxRecDepth 100000 in
set_option maxHeartbeats 40000000 in
theorem c_packet_ports (w : World) (proto1 : Int) (r : Bool) (hF : F_packet_ports proto1 = some r) :
    CallsR Try.prog 39 [.int .u8 proto1] w (fun v w' => v = .bool r ∧ Mem w [] w' []) := by
  refine calls_KC Try.func39 rfl Try.ntmps39 rfl ?_
  have hM := Mem.init w
  unfold F_packet_ports at hF
  refine KC.seq ?_
  refine KC.region ?_
  refine RL.val (O.assign rfl) rfl ?_
  refine RL.nil ?_
  refine KQ.then_n ?_
  refine KC.cut (fun a w3 => ∃ (t2 : Bool), Kn 9 [(2, .bool t2)] a ∧ Mem w [] w3 [] ∧ F_packet_ports_j1 t2 = some r) ?_ ?_
  · refine KC.region ?_
    refine RL.val (O.move rfl) rfl ?_
    refine RL.val (O.eql rfl rfl) rfl ?_
    refine RL.val (O.move rfl) rfl ?_
    refine RL.bcase (t := 5) rfl (fun hc => ?_) (fun hc => ?_)
    · rw [if_pos hc] at hF
      refine RL.gskip rfl rfl rfl rfl ?_
      refine RL.gskip rfl rfl rfl rfl ?_
      refine RL.val (O.pickt rfl rfl) rfl ?_
      refine RL.val (O.assign rfl) rfl ?_
      refine RL.nil ?_
      refine KQ.then_k ?_
      exact fun a ha => ⟨true, ha.less (less_cons rfl less_nil), hM, hF⟩
    · rw [if_neg (ne_true hc)] at hF
      refine RL.gval rfl rfl (O.move rfl) rfl ?_
      refine RL.gval rfl rfl (O.eql rfl rfl) rfl ?_
      refine RL.val (O.pickf rfl rfl) rfl ?_
      refine RL.val (O.assign rfl) rfl ?_
      refine RL.nil ?_
      refine KQ.then_k ?_
      exact fun a ha => ⟨(proto1 == 17), ha.less (less_cons rfl less_nil), hM, hF⟩
  · rintro a w3 ⟨t2, ha, hM, hF⟩
    refine KC.app ha ?_
    clear ha
    unfold F_packet_ports_j1 at hF
    refine KC.ret ?_
    obtain rfl := Option.some.inj hF
    refine KQ.rets Try.results39 (RVs.cons (RV.tm rfl) RVs.nil) ?_
    exact ⟨_, rfl, rfl, hM⟩
set_option maxRecDepth 100000 in
set_option maxHeartbeats 40000000 in
theorem c_packet_icmp (w : World) (proto1 : Int) (r : Bool) (hF : F_packet_icmp proto1 = some r) :
    CallsR Try.prog 40 [.int .u8 proto1] w (fun v w' => v = .bool r ∧ Mem w [] w' []) := by
  refine calls_KC Try.func40 rfl Try.ntmps40 rfl ?_
  have hM := Mem.init w
  unfold F_packet_icmp at hF
  refine KC.seq ?_
  refine KC.region ?_
  refine RL.val (O.assign rfl) rfl ?_
  refine RL.nil ?_
  refine KQ.then_n ?_
  refine KC.cut (fun a w3 => ∃ (t2 : Bool), Kn 9 [(2, .bool t2)] a ∧ Mem w [] w3 [] ∧ F_packet_icmp_j1 t2 = some r) ?_ ?_
  · refine KC.region ?_
    refine RL.val (O.move rfl) rfl ?_
    refine RL.val (O.eql rfl rfl) rfl ?_
    refine RL.val (O.move rfl) rfl ?_
    refine RL.bcase (t := 5) rfl (fun hc => ?_) (fun hc => ?_)
    · rw [if_pos hc] at hF
      refine RL.gskip rfl rfl rfl rfl ?_
      refine RL.gskip rfl rfl rfl rfl ?_
      refine RL.val (O.pickt rfl rfl) rfl ?_
      refine RL.val (O.assign rfl) rfl ?_
      refine RL.nil ?_
      refine KQ.then_k ?_
      exact fun a ha => ⟨true, ha.less (less_cons rfl less_nil), hM, hF⟩
    · rw [if_neg (ne_true hc)] at hF
      refine RL.gval rfl rfl (O.move rfl) rfl ?_
      refine RL.gval rfl rfl (O.eql rfl rfl) rfl ?_
      refine RL.val (O.pickf rfl rfl) rfl ?_
      refine RL.val (O.assign rfl) rfl ?_
      refine RL.nil ?_
      refine KQ.then_k ?_
      exact fun a ha => ⟨(proto1 == 58), ha.less (less_cons rfl less_nil), hM, hF⟩
  · rintro a w3 ⟨t2, ha, hM, hF⟩
    refine KC.app ha ?_
    clear ha
    unfold F_packet_icmp_j1 at hF
    refine KC.ret ?_
    obtain rfl := Option.some.inj hF
    refine KQ.rets Try.results40 (RVs.cons (RV.tm rfl) RVs.nil) ?_
    exact ⟨_, rfl, rfl, hM⟩
set_option maxRecDepth 100000 in
set_option maxHeartbeats 40000000 in
theorem c_addr_Addr_size (w : World) (av1 : T_addr_Addr) (r : Int) (hF : F_addr_Addr_size av1 = some r) :
    CallsR Try.prog 48 [.agg #[.bool av1.f_Six, .int .u8 (List.getD av1.f_B 0 0), .int .u8 (List.getD av1.f_B 1 0), .int .u8 (List.getD av1.f_B 2 0), .int .u8 (List.getD av1.f_B 3 0), .int .u8 (List.getD av1.f_B 4 0), .int .u8 (List.getD av1.f_B 5 0), .int .u8 (List.getD av1.f_B 6 0), .int .u8 (List.getD av1.f_B 7 0), .int .u8 (List.getD av1.f_B 8 0), .int .u8 (List.getD av1.f_B 9 0), .int .u8 (List.getD av1.f_B 10 0), .int .u8 (List.getD av1.f_B 11 0), .int .u8 (List.getD av1.f_B 12 0), .int .u8 (List.getD av1.f_B 13 0), .int .u8 (List.getD av1.f_B 14 0), .int .u8 (List.getD av1.f_B 15 0)]] w (fun v w' => v = .int .i64 r ∧ Mem w [] w' []) := by
  refine calls_KC Try.func48 rfl Try.ntmps48 rfl ?_
  have hM := Mem.init w
  unfold F_addr_Addr_size at hF
  refine KC.seq ?_
  refine KC.region ?_
  refine RL.eff (E.box (vs := [.bool av1.f_Six, .int .u8 (List.getD av1.f_B 0 0), .int .u8 (List.getD av1.f_B 1 0), .int .u8 (List.getD av1.f_B 2 0), .int .u8 (List.getD av1.f_B 3 0), .int .u8 (List.getD av1.f_B 4 0), .int .u8 (List.getD av1.f_B 5 0), .int .u8 (List.getD av1.f_B 6 0), .int .u8 (List.getD av1.f_B 7 0), .int .u8 (List.getD av1.f_B 8 0), .int .u8 (List.getD av1.f_B 9 0), .int .u8 (List.getD av1.f_B 10 0), .int .u8 (List.getD av1.f_B 11 0), .int .u8 (List.getD av1.f_B 12 0), .int .u8 (List.getD av1.f_B 13 0), .int .u8 (List.getD av1.f_B 14 0), .int .u8 (List.getD av1.f_B 15 0)]) hM rfl rfl) rfl fun v w3 hv => ?_
  clear hM
  obtain ⟨g2, rfl, hM, hf⟩ := hv
  refine RL.val (O.assign rfl) rfl ?_
  refine RL.nil ?_
  refine KQ.then_n ?_
  refine KC.seq ?_
  refine KC.seq ?_
  refine KC.region ?_
  refine RL.val (O.fldA fl24_0 (by decide) rfl) rfl ?_
  refine RL.val (O.load sc4 rfl (Cs.adds [0] ((hM.bx (i := 0) rfl)) rfl)) rfl ?_
  refine RL.nil ?_
  refine KQ.then_n ?_
  refine KC.cond rfl (fun hc => ?_) (fun hc => ?_)
  · rw [if_pos hc] at hF
    refine KC.seq ?_
    refine KC.region ?_
    refine RL.val (O.assign rfl) rfl ?_
    refine RL.nil ?_
    refine KQ.then_n ?_
    refine KC.ret ?_
    refine KQ.then_r ?_
    obtain rfl := Option.some.inj hF
    replace hM := hM.pick [] rfl (by decide)
    refine KQ.rets Try.results48 (RVs.cons (RV.tm rfl) RVs.nil) ?_
    exact ⟨_, rfl, rfl, hM⟩
  · rw [if_neg (ne_true hc)] at hF
    refine KC.skip ?_
    refine KQ.then_n ?_
    refine KC.seq ?_
    refine KC.region ?_
    refine RL.val (O.assign rfl) rfl ?_
    refine RL.nil ?_
    refine KQ.then_n ?_
    refine KC.ret ?_
    obtain rfl := Option.some.inj hF
    replace hM := hM.pick [] rfl (by decide)
    refine KQ.rets Try.results48 (RVs.cons (RV.tm rfl) RVs.nil) ?_
    exact ⟨_, rfl, rfl, hM⟩
end Go.Proofs.Yteafnfoponjoeaa
