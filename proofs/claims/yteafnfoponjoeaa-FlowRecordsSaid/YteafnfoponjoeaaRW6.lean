/- Printed by a program of this claim: each call returns what the plain function of its name gives. -/
import Derived.Test.YteafnfoponjoeaaRW5
set_option linter.unusedVariables false
namespace Go.Proofs.Yteafnfoponjoeaa
open Go Go.Ox Go.RowKit
set_option maxRecDepth 100000 in
set_option maxHeartbeats 40000000 in
theorem c_ref22_With (w : World) (rv1 : T_ref22_Record) (p2 : T_ref08_Packet) (tick3 : Int) (r : T_ref22_Record) (hF : F_ref22_With rv1 p2 tick3 = some r) :
    CallsR Try.prog 16 [.agg #[.bool rv1.f_Key.f_Src.f_Six, .int .u8 (List.getD rv1.f_Key.f_Src.f_B 0 0), .int .u8 (List.getD rv1.f_Key.f_Src.f_B 1 0), .int .u8 (List.getD rv1.f_Key.f_Src.f_B 2 0), .int .u8 (List.getD rv1.f_Key.f_Src.f_B 3 0), .int .u8 (List.getD rv1.f_Key.f_Src.f_B 4 0), .int .u8 (List.getD rv1.f_Key.f_Src.f_B 5 0), .int .u8 (List.getD rv1.f_Key.f_Src.f_B 6 0), .int .u8 (List.getD rv1.f_Key.f_Src.f_B 7 0), .int .u8 (List.getD rv1.f_Key.f_Src.f_B 8 0), .int .u8 (List.getD rv1.f_Key.f_Src.f_B 9 0), .int .u8 (List.getD rv1.f_Key.f_Src.f_B 10 0), .int .u8 (List.getD rv1.f_Key.f_Src.f_B 11 0), .int .u8 (List.getD rv1.f_Key.f_Src.f_B 12 0), .int .u8 (List.getD rv1.f_Key.f_Src.f_B 13 0), .int .u8 (List.getD rv1.f_Key.f_Src.f_B 14 0), .int .u8 (List.getD rv1.f_Key.f_Src.f_B 15 0), .bool rv1.f_Key.f_Dst.f_Six, .int .u8 (List.getD rv1.f_Key.f_Dst.f_B 0 0), .int .u8 (List.getD rv1.f_Key.f_Dst.f_B 1 0), .int .u8 (List.getD rv1.f_Key.f_Dst.f_B 2 0), .int .u8 (List.getD rv1.f_Key.f_Dst.f_B 3 0), .int .u8 (List.getD rv1.f_Key.f_Dst.f_B 4 0), .int .u8 (List.getD rv1.f_Key.f_Dst.f_B 5 0), .int .u8 (List.getD rv1.f_Key.f_Dst.f_B 6 0), .int .u8 (List.getD rv1.f_Key.f_Dst.f_B 7 0), .int .u8 (List.getD rv1.f_Key.f_Dst.f_B 8 0), .int .u8 (List.getD rv1.f_Key.f_Dst.f_B 9 0), .int .u8 (List.getD rv1.f_Key.f_Dst.f_B 10 0), .int .u8 (List.getD rv1.f_Key.f_Dst.f_B 11 0), .int .u8 (List.getD rv1.f_Key.f_Dst.f_B 12 0), .int .u8 (List.getD rv1.f_Key.f_Dst.f_B 13 0), .int .u8 (List.getD rv1.f_Key.f_Dst.f_B 14 0), .int .u8 (List.getD rv1.f_Key.f_Dst.f_B 15 0), .int .u8 rv1.f_Key.f_Proto, .int .u16 rv1.f_Key.f_SrcPort, .int .u16 rv1.f_Key.f_DstPort, .int .u64 rv1.f_Packets, .int .u64 rv1.f_Bytes, .int .u64 rv1.f_First, .int .u64 rv1.f_Last, .int .u8 rv1.f_Flags, .int .u8 rv1.f_Reason, .int .u8 rv1.f_Class], .agg #[.bool p2.f_Key.f_Src.f_Six, .int .u8 (List.getD p2.f_Key.f_Src.f_B 0 0), .int .u8 (List.getD p2.f_Key.f_Src.f_B 1 0), .int .u8 (List.getD p2.f_Key.f_Src.f_B 2 0), .int .u8 (List.getD p2.f_Key.f_Src.f_B 3 0), .int .u8 (List.getD p2.f_Key.f_Src.f_B 4 0), .int .u8 (List.getD p2.f_Key.f_Src.f_B 5 0), .int .u8 (List.getD p2.f_Key.f_Src.f_B 6 0), .int .u8 (List.getD p2.f_Key.f_Src.f_B 7 0), .int .u8 (List.getD p2.f_Key.f_Src.f_B 8 0), .int .u8 (List.getD p2.f_Key.f_Src.f_B 9 0), .int .u8 (List.getD p2.f_Key.f_Src.f_B 10 0), .int .u8 (List.getD p2.f_Key.f_Src.f_B 11 0), .int .u8 (List.getD p2.f_Key.f_Src.f_B 12 0), .int .u8 (List.getD p2.f_Key.f_Src.f_B 13 0), .int .u8 (List.getD p2.f_Key.f_Src.f_B 14 0), .int .u8 (List.getD p2.f_Key.f_Src.f_B 15 0), .bool p2.f_Key.f_Dst.f_Six, .int .u8 (List.getD p2.f_Key.f_Dst.f_B 0 0), .int .u8 (List.getD p2.f_Key.f_Dst.f_B 1 0), .int .u8 (List.getD p2.f_Key.f_Dst.f_B 2 0), .int .u8 (List.getD p2.f_Key.f_Dst.f_B 3 0), .int .u8 (List.getD p2.f_Key.f_Dst.f_B 4 0), .int .u8 (List.getD p2.f_Key.f_Dst.f_B 5 0), .int .u8 (List.getD p2.f_Key.f_Dst.f_B 6 0), .int .u8 (List.getD p2.f_Key.f_Dst.f_B 7 0), .int .u8 (List.getD p2.f_Key.f_Dst.f_B 8 0), .int .u8 (List.getD p2.f_Key.f_Dst.f_B 9 0), .int .u8 (List.getD p2.f_Key.f_Dst.f_B 10 0), .int .u8 (List.getD p2.f_Key.f_Dst.f_B 11 0), .int .u8 (List.getD p2.f_Key.f_Dst.f_B 12 0), .int .u8 (List.getD p2.f_Key.f_Dst.f_B 13 0), .int .u8 (List.getD p2.f_Key.f_Dst.f_B 14 0), .int .u8 (List.getD p2.f_Key.f_Dst.f_B 15 0), .int .u8 p2.f_Key.f_Proto, .int .u16 p2.f_Key.f_SrcPort, .int .u16 p2.f_Key.f_DstPort, .int .i64 p2.f_Length, .int .u8 p2.f_Flags, .bool p2.f_Fragment], .int .u64 tick3] w (fun v w' => v = .agg #[.bool r.f_Key.f_Src.f_Six, .int .u8 (List.getD r.f_Key.f_Src.f_B 0 0), .int .u8 (List.getD r.f_Key.f_Src.f_B 1 0), .int .u8 (List.getD r.f_Key.f_Src.f_B 2 0), .int .u8 (List.getD r.f_Key.f_Src.f_B 3 0), .int .u8 (List.getD r.f_Key.f_Src.f_B 4 0), .int .u8 (List.getD r.f_Key.f_Src.f_B 5 0), .int .u8 (List.getD r.f_Key.f_Src.f_B 6 0), .int .u8 (List.getD r.f_Key.f_Src.f_B 7 0), .int .u8 (List.getD r.f_Key.f_Src.f_B 8 0), .int .u8 (List.getD r.f_Key.f_Src.f_B 9 0), .int .u8 (List.getD r.f_Key.f_Src.f_B 10 0), .int .u8 (List.getD r.f_Key.f_Src.f_B 11 0), .int .u8 (List.getD r.f_Key.f_Src.f_B 12 0), .int .u8 (List.getD r.f_Key.f_Src.f_B 13 0), .int .u8 (List.getD r.f_Key.f_Src.f_B 14 0), .int .u8 (List.getD r.f_Key.f_Src.f_B 15 0), .bool r.f_Key.f_Dst.f_Six, .int .u8 (List.getD r.f_Key.f_Dst.f_B 0 0), .int .u8 (List.getD r.f_Key.f_Dst.f_B 1 0), .int .u8 (List.getD r.f_Key.f_Dst.f_B 2 0), .int .u8 (List.getD r.f_Key.f_Dst.f_B 3 0), .int .u8 (List.getD r.f_Key.f_Dst.f_B 4 0), .int .u8 (List.getD r.f_Key.f_Dst.f_B 5 0), .int .u8 (List.getD r.f_Key.f_Dst.f_B 6 0), .int .u8 (List.getD r.f_Key.f_Dst.f_B 7 0), .int .u8 (List.getD r.f_Key.f_Dst.f_B 8 0), .int .u8 (List.getD r.f_Key.f_Dst.f_B 9 0), .int .u8 (List.getD r.f_Key.f_Dst.f_B 10 0), .int .u8 (List.getD r.f_Key.f_Dst.f_B 11 0), .int .u8 (List.getD r.f_Key.f_Dst.f_B 12 0), .int .u8 (List.getD r.f_Key.f_Dst.f_B 13 0), .int .u8 (List.getD r.f_Key.f_Dst.f_B 14 0), .int .u8 (List.getD r.f_Key.f_Dst.f_B 15 0), .int .u8 r.f_Key.f_Proto, .int .u16 r.f_Key.f_SrcPort, .int .u16 r.f_Key.f_DstPort, .int .u64 r.f_Packets, .int .u64 r.f_Bytes, .int .u64 r.f_First, .int .u64 r.f_Last, .int .u8 r.f_Flags, .int .u8 r.f_Reason, .int .u8 r.f_Class] ∧ Mem w [] w' []) := by
  refine calls_KC Try.func16 rfl Try.ntmps16 rfl ?_
  have hM := Mem.init w
  unfold F_ref22_With at hF
  refine KC.seq ?_
  refine KC.region ?_
  refine RL.eff (E.box (vs := [.bool rv1.f_Key.f_Src.f_Six, .int .u8 (List.getD rv1.f_Key.f_Src.f_B 0 0), .int .u8 (List.getD rv1.f_Key.f_Src.f_B 1 0), .int .u8 (List.getD rv1.f_Key.f_Src.f_B 2 0), .int .u8 (List.getD rv1.f_Key.f_Src.f_B 3 0), .int .u8 (List.getD rv1.f_Key.f_Src.f_B 4 0), .int .u8 (List.getD rv1.f_Key.f_Src.f_B 5 0), .int .u8 (List.getD rv1.f_Key.f_Src.f_B 6 0), .int .u8 (List.getD rv1.f_Key.f_Src.f_B 7 0), .int .u8 (List.getD rv1.f_Key.f_Src.f_B 8 0), .int .u8 (List.getD rv1.f_Key.f_Src.f_B 9 0), .int .u8 (List.getD rv1.f_Key.f_Src.f_B 10 0), .int .u8 (List.getD rv1.f_Key.f_Src.f_B 11 0), .int .u8 (List.getD rv1.f_Key.f_Src.f_B 12 0), .int .u8 (List.getD rv1.f_Key.f_Src.f_B 13 0), .int .u8 (List.getD rv1.f_Key.f_Src.f_B 14 0), .int .u8 (List.getD rv1.f_Key.f_Src.f_B 15 0), .bool rv1.f_Key.f_Dst.f_Six, .int .u8 (List.getD rv1.f_Key.f_Dst.f_B 0 0), .int .u8 (List.getD rv1.f_Key.f_Dst.f_B 1 0), .int .u8 (List.getD rv1.f_Key.f_Dst.f_B 2 0), .int .u8 (List.getD rv1.f_Key.f_Dst.f_B 3 0), .int .u8 (List.getD rv1.f_Key.f_Dst.f_B 4 0), .int .u8 (List.getD rv1.f_Key.f_Dst.f_B 5 0), .int .u8 (List.getD rv1.f_Key.f_Dst.f_B 6 0), .int .u8 (List.getD rv1.f_Key.f_Dst.f_B 7 0), .int .u8 (List.getD rv1.f_Key.f_Dst.f_B 8 0), .int .u8 (List.getD rv1.f_Key.f_Dst.f_B 9 0), .int .u8 (List.getD rv1.f_Key.f_Dst.f_B 10 0), .int .u8 (List.getD rv1.f_Key.f_Dst.f_B 11 0), .int .u8 (List.getD rv1.f_Key.f_Dst.f_B 12 0), .int .u8 (List.getD rv1.f_Key.f_Dst.f_B 13 0), .int .u8 (List.getD rv1.f_Key.f_Dst.f_B 14 0), .int .u8 (List.getD rv1.f_Key.f_Dst.f_B 15 0), .int .u8 rv1.f_Key.f_Proto, .int .u16 rv1.f_Key.f_SrcPort, .int .u16 rv1.f_Key.f_DstPort, .int .u64 rv1.f_Packets, .int .u64 rv1.f_Bytes, .int .u64 rv1.f_First, .int .u64 rv1.f_Last, .int .u8 rv1.f_Flags, .int .u8 rv1.f_Reason, .int .u8 rv1.f_Class]) hM rfl rfl) rfl fun v w5 hv => ?_
  clear hM
  obtain ⟨g4, rfl, hM, hf⟩ := hv
  refine RL.eff (E.box (vs := [.bool p2.f_Key.f_Src.f_Six, .int .u8 (List.getD p2.f_Key.f_Src.f_B 0 0), .int .u8 (List.getD p2.f_Key.f_Src.f_B 1 0), .int .u8 (List.getD p2.f_Key.f_Src.f_B 2 0), .int .u8 (List.getD p2.f_Key.f_Src.f_B 3 0), .int .u8 (List.getD p2.f_Key.f_Src.f_B 4 0), .int .u8 (List.getD p2.f_Key.f_Src.f_B 5 0), .int .u8 (List.getD p2.f_Key.f_Src.f_B 6 0), .int .u8 (List.getD p2.f_Key.f_Src.f_B 7 0), .int .u8 (List.getD p2.f_Key.f_Src.f_B 8 0), .int .u8 (List.getD p2.f_Key.f_Src.f_B 9 0), .int .u8 (List.getD p2.f_Key.f_Src.f_B 10 0), .int .u8 (List.getD p2.f_Key.f_Src.f_B 11 0), .int .u8 (List.getD p2.f_Key.f_Src.f_B 12 0), .int .u8 (List.getD p2.f_Key.f_Src.f_B 13 0), .int .u8 (List.getD p2.f_Key.f_Src.f_B 14 0), .int .u8 (List.getD p2.f_Key.f_Src.f_B 15 0), .bool p2.f_Key.f_Dst.f_Six, .int .u8 (List.getD p2.f_Key.f_Dst.f_B 0 0), .int .u8 (List.getD p2.f_Key.f_Dst.f_B 1 0), .int .u8 (List.getD p2.f_Key.f_Dst.f_B 2 0), .int .u8 (List.getD p2.f_Key.f_Dst.f_B 3 0), .int .u8 (List.getD p2.f_Key.f_Dst.f_B 4 0), .int .u8 (List.getD p2.f_Key.f_Dst.f_B 5 0), .int .u8 (List.getD p2.f_Key.f_Dst.f_B 6 0), .int .u8 (List.getD p2.f_Key.f_Dst.f_B 7 0), .int .u8 (List.getD p2.f_Key.f_Dst.f_B 8 0), .int .u8 (List.getD p2.f_Key.f_Dst.f_B 9 0), .int .u8 (List.getD p2.f_Key.f_Dst.f_B 10 0), .int .u8 (List.getD p2.f_Key.f_Dst.f_B 11 0), .int .u8 (List.getD p2.f_Key.f_Dst.f_B 12 0), .int .u8 (List.getD p2.f_Key.f_Dst.f_B 13 0), .int .u8 (List.getD p2.f_Key.f_Dst.f_B 14 0), .int .u8 (List.getD p2.f_Key.f_Dst.f_B 15 0), .int .u8 p2.f_Key.f_Proto, .int .u16 p2.f_Key.f_SrcPort, .int .u16 p2.f_Key.f_DstPort, .int .i64 p2.f_Length, .int .u8 p2.f_Flags, .bool p2.f_Fragment]) hM rfl rfl) rfl fun v w8 hv => ?_
  clear hM
  obtain ⟨g7, rfl, hM, hf⟩ := hv
  refine RL.eff (E.alloc hM ze47) rfl fun v w11 hv => ?_
  clear hM
  obtain ⟨g10, rfl, hM, hf⟩ := hv
  refine RL.nil ?_
  refine KQ.then_n ?_
  refine KC.seq ?_
  refine KC.region ?_
  refine RL.val (O.fldA fl47_1 (by decide) rfl) rfl ?_
  refine RL.val (O.load sc30 rfl (Cs.adds [37] ((hM.bx (i := 0) rfl)) rfl)) rfl ?_
  refine obindE hF fun y13 hx14 hF => ?_
  refine RL.call Try.func33 bd33 rfl rfl (c_ref10_Plus _ rv1.f_Packets 1 _ hx14) fun v w15 hv => ?_
  obtain ⟨rfl, hN16⟩ := hv
  replace hM := hM.call0 hN16
  refine RL.val (O.fldA fl47_1 (by decide) rfl) rfl ?_
  refine RL.effs (E.stB (j := 0) (off := 37) (vs := [.int .u64 y13]) (cs' := [.bool rv1.f_Key.f_Src.f_Six, .int .u8 (List.getD rv1.f_Key.f_Src.f_B 0 0), .int .u8 (List.getD rv1.f_Key.f_Src.f_B 1 0), .int .u8 (List.getD rv1.f_Key.f_Src.f_B 2 0), .int .u8 (List.getD rv1.f_Key.f_Src.f_B 3 0), .int .u8 (List.getD rv1.f_Key.f_Src.f_B 4 0), .int .u8 (List.getD rv1.f_Key.f_Src.f_B 5 0), .int .u8 (List.getD rv1.f_Key.f_Src.f_B 6 0), .int .u8 (List.getD rv1.f_Key.f_Src.f_B 7 0), .int .u8 (List.getD rv1.f_Key.f_Src.f_B 8 0), .int .u8 (List.getD rv1.f_Key.f_Src.f_B 9 0), .int .u8 (List.getD rv1.f_Key.f_Src.f_B 10 0), .int .u8 (List.getD rv1.f_Key.f_Src.f_B 11 0), .int .u8 (List.getD rv1.f_Key.f_Src.f_B 12 0), .int .u8 (List.getD rv1.f_Key.f_Src.f_B 13 0), .int .u8 (List.getD rv1.f_Key.f_Src.f_B 14 0), .int .u8 (List.getD rv1.f_Key.f_Src.f_B 15 0), .bool rv1.f_Key.f_Dst.f_Six, .int .u8 (List.getD rv1.f_Key.f_Dst.f_B 0 0), .int .u8 (List.getD rv1.f_Key.f_Dst.f_B 1 0), .int .u8 (List.getD rv1.f_Key.f_Dst.f_B 2 0), .int .u8 (List.getD rv1.f_Key.f_Dst.f_B 3 0), .int .u8 (List.getD rv1.f_Key.f_Dst.f_B 4 0), .int .u8 (List.getD rv1.f_Key.f_Dst.f_B 5 0), .int .u8 (List.getD rv1.f_Key.f_Dst.f_B 6 0), .int .u8 (List.getD rv1.f_Key.f_Dst.f_B 7 0), .int .u8 (List.getD rv1.f_Key.f_Dst.f_B 8 0), .int .u8 (List.getD rv1.f_Key.f_Dst.f_B 9 0), .int .u8 (List.getD rv1.f_Key.f_Dst.f_B 10 0), .int .u8 (List.getD rv1.f_Key.f_Dst.f_B 11 0), .int .u8 (List.getD rv1.f_Key.f_Dst.f_B 12 0), .int .u8 (List.getD rv1.f_Key.f_Dst.f_B 13 0), .int .u8 (List.getD rv1.f_Key.f_Dst.f_B 14 0), .int .u8 (List.getD rv1.f_Key.f_Dst.f_B 15 0), .int .u8 rv1.f_Key.f_Proto, .int .u16 rv1.f_Key.f_SrcPort, .int .u16 rv1.f_Key.f_DstPort, .int .u64 y13, .int .u64 rv1.f_Bytes, .int .u64 rv1.f_First, .int .u64 rv1.f_Last, .int .u8 rv1.f_Flags, .int .u8 rv1.f_Reason, .int .u8 rv1.f_Class]) hM rfl sz30 rfl (adds_eq [37] rfl) rfl rfl (One.all rfl) rfl rfl) fun w17 hM1 => ?_
  clear hM
  have hM := hM1
  clear hM1
  refine RL.nil ?_
  refine KQ.then_n ?_
  refine KC.seq ?_
  refine KC.region ?_
  refine RL.val (O.fldA fl47_2 (by decide) rfl) rfl ?_
  refine RL.val (O.load sc30 rfl (Cs.adds [38] ((hM.bx (i := 0) rfl)) rfl)) rfl ?_
  refine RL.val (O.fldA fl54_1 (by decide) rfl) rfl ?_
  refine RL.val (O.load sc3 rfl (Cs.adds [37] ((hM.bx (i := 1) rfl)) rfl)) rfl ?_
  refine RL.val (O.max2 rfl rfl) rfl ?_
  refine RL.val (O.conv un3 Try.underlying30 rfl) rfl ?_
  refine obindE hF fun y18 hx19 hF => ?_
  refine RL.call Try.func33 bd33 rfl rfl (c_ref10_Plus _ rv1.f_Bytes (IntKind.u64.wrap (gmax 0 p2.f_Length)) _ hx19) fun v w20 hv => ?_
  obtain ⟨rfl, hN21⟩ := hv
  replace hM := hM.call0 hN21
  refine RL.val (O.fldA fl47_2 (by decide) rfl) rfl ?_
  refine RL.effs (E.stB (j := 0) (off := 38) (vs := [.int .u64 y18]) (cs' := [.bool rv1.f_Key.f_Src.f_Six, .int .u8 (List.getD rv1.f_Key.f_Src.f_B 0 0), .int .u8 (List.getD rv1.f_Key.f_Src.f_B 1 0), .int .u8 (List.getD rv1.f_Key.f_Src.f_B 2 0), .int .u8 (List.getD rv1.f_Key.f_Src.f_B 3 0), .int .u8 (List.getD rv1.f_Key.f_Src.f_B 4 0), .int .u8 (List.getD rv1.f_Key.f_Src.f_B 5 0), .int .u8 (List.getD rv1.f_Key.f_Src.f_B 6 0), .int .u8 (List.getD rv1.f_Key.f_Src.f_B 7 0), .int .u8 (List.getD rv1.f_Key.f_Src.f_B 8 0), .int .u8 (List.getD rv1.f_Key.f_Src.f_B 9 0), .int .u8 (List.getD rv1.f_Key.f_Src.f_B 10 0), .int .u8 (List.getD rv1.f_Key.f_Src.f_B 11 0), .int .u8 (List.getD rv1.f_Key.f_Src.f_B 12 0), .int .u8 (List.getD rv1.f_Key.f_Src.f_B 13 0), .int .u8 (List.getD rv1.f_Key.f_Src.f_B 14 0), .int .u8 (List.getD rv1.f_Key.f_Src.f_B 15 0), .bool rv1.f_Key.f_Dst.f_Six, .int .u8 (List.getD rv1.f_Key.f_Dst.f_B 0 0), .int .u8 (List.getD rv1.f_Key.f_Dst.f_B 1 0), .int .u8 (List.getD rv1.f_Key.f_Dst.f_B 2 0), .int .u8 (List.getD rv1.f_Key.f_Dst.f_B 3 0), .int .u8 (List.getD rv1.f_Key.f_Dst.f_B 4 0), .int .u8 (List.getD rv1.f_Key.f_Dst.f_B 5 0), .int .u8 (List.getD rv1.f_Key.f_Dst.f_B 6 0), .int .u8 (List.getD rv1.f_Key.f_Dst.f_B 7 0), .int .u8 (List.getD rv1.f_Key.f_Dst.f_B 8 0), .int .u8 (List.getD rv1.f_Key.f_Dst.f_B 9 0), .int .u8 (List.getD rv1.f_Key.f_Dst.f_B 10 0), .int .u8 (List.getD rv1.f_Key.f_Dst.f_B 11 0), .int .u8 (List.getD rv1.f_Key.f_Dst.f_B 12 0), .int .u8 (List.getD rv1.f_Key.f_Dst.f_B 13 0), .int .u8 (List.getD rv1.f_Key.f_Dst.f_B 14 0), .int .u8 (List.getD rv1.f_Key.f_Dst.f_B 15 0), .int .u8 rv1.f_Key.f_Proto, .int .u16 rv1.f_Key.f_SrcPort, .int .u16 rv1.f_Key.f_DstPort, .int .u64 y13, .int .u64 y18, .int .u64 rv1.f_First, .int .u64 rv1.f_Last, .int .u8 rv1.f_Flags, .int .u8 rv1.f_Reason, .int .u8 rv1.f_Class]) hM rfl sz30 rfl (adds_eq [38] rfl) rfl rfl (One.all rfl) rfl rfl) fun w22 hM1 => ?_
  clear hM
  have hM := hM1
  clear hM1
  refine RL.nil ?_
  refine KQ.then_n ?_
  refine KC.seq ?_
  refine KC.region ?_
  refine RL.val (O.fldA fl47_4 (by decide) rfl) rfl ?_
  refine RL.val (O.load sc30 rfl (Cs.adds [40] ((hM.bx (i := 0) rfl)) rfl)) rfl ?_
  refine RL.val (O.move rfl) rfl ?_
  refine RL.val (O.max2 rfl rfl) rfl ?_
  refine RL.val (O.fldA fl47_4 (by decide) rfl) rfl ?_
  refine RL.effs (E.stB (j := 0) (off := 40) (vs := [.int .u64 (gmax rv1.f_Last tick3)]) (cs' := [.bool rv1.f_Key.f_Src.f_Six, .int .u8 (List.getD rv1.f_Key.f_Src.f_B 0 0), .int .u8 (List.getD rv1.f_Key.f_Src.f_B 1 0), .int .u8 (List.getD rv1.f_Key.f_Src.f_B 2 0), .int .u8 (List.getD rv1.f_Key.f_Src.f_B 3 0), .int .u8 (List.getD rv1.f_Key.f_Src.f_B 4 0), .int .u8 (List.getD rv1.f_Key.f_Src.f_B 5 0), .int .u8 (List.getD rv1.f_Key.f_Src.f_B 6 0), .int .u8 (List.getD rv1.f_Key.f_Src.f_B 7 0), .int .u8 (List.getD rv1.f_Key.f_Src.f_B 8 0), .int .u8 (List.getD rv1.f_Key.f_Src.f_B 9 0), .int .u8 (List.getD rv1.f_Key.f_Src.f_B 10 0), .int .u8 (List.getD rv1.f_Key.f_Src.f_B 11 0), .int .u8 (List.getD rv1.f_Key.f_Src.f_B 12 0), .int .u8 (List.getD rv1.f_Key.f_Src.f_B 13 0), .int .u8 (List.getD rv1.f_Key.f_Src.f_B 14 0), .int .u8 (List.getD rv1.f_Key.f_Src.f_B 15 0), .bool rv1.f_Key.f_Dst.f_Six, .int .u8 (List.getD rv1.f_Key.f_Dst.f_B 0 0), .int .u8 (List.getD rv1.f_Key.f_Dst.f_B 1 0), .int .u8 (List.getD rv1.f_Key.f_Dst.f_B 2 0), .int .u8 (List.getD rv1.f_Key.f_Dst.f_B 3 0), .int .u8 (List.getD rv1.f_Key.f_Dst.f_B 4 0), .int .u8 (List.getD rv1.f_Key.f_Dst.f_B 5 0), .int .u8 (List.getD rv1.f_Key.f_Dst.f_B 6 0), .int .u8 (List.getD rv1.f_Key.f_Dst.f_B 7 0), .int .u8 (List.getD rv1.f_Key.f_Dst.f_B 8 0), .int .u8 (List.getD rv1.f_Key.f_Dst.f_B 9 0), .int .u8 (List.getD rv1.f_Key.f_Dst.f_B 10 0), .int .u8 (List.getD rv1.f_Key.f_Dst.f_B 11 0), .int .u8 (List.getD rv1.f_Key.f_Dst.f_B 12 0), .int .u8 (List.getD rv1.f_Key.f_Dst.f_B 13 0), .int .u8 (List.getD rv1.f_Key.f_Dst.f_B 14 0), .int .u8 (List.getD rv1.f_Key.f_Dst.f_B 15 0), .int .u8 rv1.f_Key.f_Proto, .int .u16 rv1.f_Key.f_SrcPort, .int .u16 rv1.f_Key.f_DstPort, .int .u64 y13, .int .u64 y18, .int .u64 rv1.f_First, .int .u64 (gmax rv1.f_Last tick3), .int .u8 rv1.f_Flags, .int .u8 rv1.f_Reason, .int .u8 rv1.f_Class]) hM rfl sz30 rfl (adds_eq [40] rfl) rfl rfl (One.all rfl) rfl rfl) fun w23 hM1 => ?_
  clear hM
  have hM := hM1
  clear hM1
  refine RL.nil ?_
  refine KQ.then_n ?_
  refine KC.seq ?_
  refine KC.region ?_
  refine RL.val (O.fldA fl47_5 (by decide) rfl) rfl ?_
  refine RL.val (O.load sc5 rfl (Cs.adds [41] ((hM.bx (i := 0) rfl)) rfl)) rfl ?_
  refine RL.val (O.fldA fl54_2 (by decide) rfl) rfl ?_
  refine RL.val (O.load sc5 rfl (Cs.adds [38] ((hM.bx (i := 1) rfl)) rfl)) rfl ?_
  refine RL.val (O.or rfl rfl) rfl ?_
  refine RL.val (O.fldA fl47_5 (by decide) rfl) rfl ?_
  refine RL.effs (E.stB (j := 0) (off := 41) (vs := [.int .u8 (bits .or .u8 rv1.f_Flags p2.f_Flags)]) (cs' := [.bool rv1.f_Key.f_Src.f_Six, .int .u8 (List.getD rv1.f_Key.f_Src.f_B 0 0), .int .u8 (List.getD rv1.f_Key.f_Src.f_B 1 0), .int .u8 (List.getD rv1.f_Key.f_Src.f_B 2 0), .int .u8 (List.getD rv1.f_Key.f_Src.f_B 3 0), .int .u8 (List.getD rv1.f_Key.f_Src.f_B 4 0), .int .u8 (List.getD rv1.f_Key.f_Src.f_B 5 0), .int .u8 (List.getD rv1.f_Key.f_Src.f_B 6 0), .int .u8 (List.getD rv1.f_Key.f_Src.f_B 7 0), .int .u8 (List.getD rv1.f_Key.f_Src.f_B 8 0), .int .u8 (List.getD rv1.f_Key.f_Src.f_B 9 0), .int .u8 (List.getD rv1.f_Key.f_Src.f_B 10 0), .int .u8 (List.getD rv1.f_Key.f_Src.f_B 11 0), .int .u8 (List.getD rv1.f_Key.f_Src.f_B 12 0), .int .u8 (List.getD rv1.f_Key.f_Src.f_B 13 0), .int .u8 (List.getD rv1.f_Key.f_Src.f_B 14 0), .int .u8 (List.getD rv1.f_Key.f_Src.f_B 15 0), .bool rv1.f_Key.f_Dst.f_Six, .int .u8 (List.getD rv1.f_Key.f_Dst.f_B 0 0), .int .u8 (List.getD rv1.f_Key.f_Dst.f_B 1 0), .int .u8 (List.getD rv1.f_Key.f_Dst.f_B 2 0), .int .u8 (List.getD rv1.f_Key.f_Dst.f_B 3 0), .int .u8 (List.getD rv1.f_Key.f_Dst.f_B 4 0), .int .u8 (List.getD rv1.f_Key.f_Dst.f_B 5 0), .int .u8 (List.getD rv1.f_Key.f_Dst.f_B 6 0), .int .u8 (List.getD rv1.f_Key.f_Dst.f_B 7 0), .int .u8 (List.getD rv1.f_Key.f_Dst.f_B 8 0), .int .u8 (List.getD rv1.f_Key.f_Dst.f_B 9 0), .int .u8 (List.getD rv1.f_Key.f_Dst.f_B 10 0), .int .u8 (List.getD rv1.f_Key.f_Dst.f_B 11 0), .int .u8 (List.getD rv1.f_Key.f_Dst.f_B 12 0), .int .u8 (List.getD rv1.f_Key.f_Dst.f_B 13 0), .int .u8 (List.getD rv1.f_Key.f_Dst.f_B 14 0), .int .u8 (List.getD rv1.f_Key.f_Dst.f_B 15 0), .int .u8 rv1.f_Key.f_Proto, .int .u16 rv1.f_Key.f_SrcPort, .int .u16 rv1.f_Key.f_DstPort, .int .u64 y13, .int .u64 y18, .int .u64 rv1.f_First, .int .u64 (gmax rv1.f_Last tick3), .int .u8 (bits .or .u8 rv1.f_Flags p2.f_Flags), .int .u8 rv1.f_Reason, .int .u8 rv1.f_Class]) hM rfl sz5 rfl (adds_eq [41] rfl) rfl rfl (One.all rfl) rfl rfl) fun w24 hM1 => ?_
  clear hM
  have hM := hM1
  clear hM1
  refine RL.nil ?_
  refine KQ.then_n ?_
  refine KC.seq ?_
  refine KC.region ?_
  refine RL.val (O.loadN (cs := [.bool rv1.f_Key.f_Src.f_Six, .int .u8 (List.getD rv1.f_Key.f_Src.f_B 0 0), .int .u8 (List.getD rv1.f_Key.f_Src.f_B 1 0), .int .u8 (List.getD rv1.f_Key.f_Src.f_B 2 0), .int .u8 (List.getD rv1.f_Key.f_Src.f_B 3 0), .int .u8 (List.getD rv1.f_Key.f_Src.f_B 4 0), .int .u8 (List.getD rv1.f_Key.f_Src.f_B 5 0), .int .u8 (List.getD rv1.f_Key.f_Src.f_B 6 0), .int .u8 (List.getD rv1.f_Key.f_Src.f_B 7 0), .int .u8 (List.getD rv1.f_Key.f_Src.f_B 8 0), .int .u8 (List.getD rv1.f_Key.f_Src.f_B 9 0), .int .u8 (List.getD rv1.f_Key.f_Src.f_B 10 0), .int .u8 (List.getD rv1.f_Key.f_Src.f_B 11 0), .int .u8 (List.getD rv1.f_Key.f_Src.f_B 12 0), .int .u8 (List.getD rv1.f_Key.f_Src.f_B 13 0), .int .u8 (List.getD rv1.f_Key.f_Src.f_B 14 0), .int .u8 (List.getD rv1.f_Key.f_Src.f_B 15 0), .bool rv1.f_Key.f_Dst.f_Six, .int .u8 (List.getD rv1.f_Key.f_Dst.f_B 0 0), .int .u8 (List.getD rv1.f_Key.f_Dst.f_B 1 0), .int .u8 (List.getD rv1.f_Key.f_Dst.f_B 2 0), .int .u8 (List.getD rv1.f_Key.f_Dst.f_B 3 0), .int .u8 (List.getD rv1.f_Key.f_Dst.f_B 4 0), .int .u8 (List.getD rv1.f_Key.f_Dst.f_B 5 0), .int .u8 (List.getD rv1.f_Key.f_Dst.f_B 6 0), .int .u8 (List.getD rv1.f_Key.f_Dst.f_B 7 0), .int .u8 (List.getD rv1.f_Key.f_Dst.f_B 8 0), .int .u8 (List.getD rv1.f_Key.f_Dst.f_B 9 0), .int .u8 (List.getD rv1.f_Key.f_Dst.f_B 10 0), .int .u8 (List.getD rv1.f_Key.f_Dst.f_B 11 0), .int .u8 (List.getD rv1.f_Key.f_Dst.f_B 12 0), .int .u8 (List.getD rv1.f_Key.f_Dst.f_B 13 0), .int .u8 (List.getD rv1.f_Key.f_Dst.f_B 14 0), .int .u8 (List.getD rv1.f_Key.f_Dst.f_B 15 0), .int .u8 rv1.f_Key.f_Proto, .int .u16 rv1.f_Key.f_SrcPort, .int .u16 rv1.f_Key.f_DstPort, .int .u64 y13, .int .u64 y18, .int .u64 rv1.f_First, .int .u64 (gmax rv1.f_Last tick3), .int .u8 (bits .or .u8 rv1.f_Flags p2.f_Flags), .int .u8 rv1.f_Reason, .int .u8 rv1.f_Class]) ag47 rfl (Cs.addsN [] ((hM.bx (i := 0) rfl)) rfl)) rfl ?_
  refine RL.effs (E.stB (j := 2) (off := 0) (vs := [.bool rv1.f_Key.f_Src.f_Six, .int .u8 (List.getD rv1.f_Key.f_Src.f_B 0 0), .int .u8 (List.getD rv1.f_Key.f_Src.f_B 1 0), .int .u8 (List.getD rv1.f_Key.f_Src.f_B 2 0), .int .u8 (List.getD rv1.f_Key.f_Src.f_B 3 0), .int .u8 (List.getD rv1.f_Key.f_Src.f_B 4 0), .int .u8 (List.getD rv1.f_Key.f_Src.f_B 5 0), .int .u8 (List.getD rv1.f_Key.f_Src.f_B 6 0), .int .u8 (List.getD rv1.f_Key.f_Src.f_B 7 0), .int .u8 (List.getD rv1.f_Key.f_Src.f_B 8 0), .int .u8 (List.getD rv1.f_Key.f_Src.f_B 9 0), .int .u8 (List.getD rv1.f_Key.f_Src.f_B 10 0), .int .u8 (List.getD rv1.f_Key.f_Src.f_B 11 0), .int .u8 (List.getD rv1.f_Key.f_Src.f_B 12 0), .int .u8 (List.getD rv1.f_Key.f_Src.f_B 13 0), .int .u8 (List.getD rv1.f_Key.f_Src.f_B 14 0), .int .u8 (List.getD rv1.f_Key.f_Src.f_B 15 0), .bool rv1.f_Key.f_Dst.f_Six, .int .u8 (List.getD rv1.f_Key.f_Dst.f_B 0 0), .int .u8 (List.getD rv1.f_Key.f_Dst.f_B 1 0), .int .u8 (List.getD rv1.f_Key.f_Dst.f_B 2 0), .int .u8 (List.getD rv1.f_Key.f_Dst.f_B 3 0), .int .u8 (List.getD rv1.f_Key.f_Dst.f_B 4 0), .int .u8 (List.getD rv1.f_Key.f_Dst.f_B 5 0), .int .u8 (List.getD rv1.f_Key.f_Dst.f_B 6 0), .int .u8 (List.getD rv1.f_Key.f_Dst.f_B 7 0), .int .u8 (List.getD rv1.f_Key.f_Dst.f_B 8 0), .int .u8 (List.getD rv1.f_Key.f_Dst.f_B 9 0), .int .u8 (List.getD rv1.f_Key.f_Dst.f_B 10 0), .int .u8 (List.getD rv1.f_Key.f_Dst.f_B 11 0), .int .u8 (List.getD rv1.f_Key.f_Dst.f_B 12 0), .int .u8 (List.getD rv1.f_Key.f_Dst.f_B 13 0), .int .u8 (List.getD rv1.f_Key.f_Dst.f_B 14 0), .int .u8 (List.getD rv1.f_Key.f_Dst.f_B 15 0), .int .u8 rv1.f_Key.f_Proto, .int .u16 rv1.f_Key.f_SrcPort, .int .u16 rv1.f_Key.f_DstPort, .int .u64 y13, .int .u64 y18, .int .u64 rv1.f_First, .int .u64 (gmax rv1.f_Last tick3), .int .u8 (bits .or .u8 rv1.f_Flags p2.f_Flags), .int .u8 rv1.f_Reason, .int .u8 rv1.f_Class]) (cs' := [.bool rv1.f_Key.f_Src.f_Six, .int .u8 (List.getD rv1.f_Key.f_Src.f_B 0 0), .int .u8 (List.getD rv1.f_Key.f_Src.f_B 1 0), .int .u8 (List.getD rv1.f_Key.f_Src.f_B 2 0), .int .u8 (List.getD rv1.f_Key.f_Src.f_B 3 0), .int .u8 (List.getD rv1.f_Key.f_Src.f_B 4 0), .int .u8 (List.getD rv1.f_Key.f_Src.f_B 5 0), .int .u8 (List.getD rv1.f_Key.f_Src.f_B 6 0), .int .u8 (List.getD rv1.f_Key.f_Src.f_B 7 0), .int .u8 (List.getD rv1.f_Key.f_Src.f_B 8 0), .int .u8 (List.getD rv1.f_Key.f_Src.f_B 9 0), .int .u8 (List.getD rv1.f_Key.f_Src.f_B 10 0), .int .u8 (List.getD rv1.f_Key.f_Src.f_B 11 0), .int .u8 (List.getD rv1.f_Key.f_Src.f_B 12 0), .int .u8 (List.getD rv1.f_Key.f_Src.f_B 13 0), .int .u8 (List.getD rv1.f_Key.f_Src.f_B 14 0), .int .u8 (List.getD rv1.f_Key.f_Src.f_B 15 0), .bool rv1.f_Key.f_Dst.f_Six, .int .u8 (List.getD rv1.f_Key.f_Dst.f_B 0 0), .int .u8 (List.getD rv1.f_Key.f_Dst.f_B 1 0), .int .u8 (List.getD rv1.f_Key.f_Dst.f_B 2 0), .int .u8 (List.getD rv1.f_Key.f_Dst.f_B 3 0), .int .u8 (List.getD rv1.f_Key.f_Dst.f_B 4 0), .int .u8 (List.getD rv1.f_Key.f_Dst.f_B 5 0), .int .u8 (List.getD rv1.f_Key.f_Dst.f_B 6 0), .int .u8 (List.getD rv1.f_Key.f_Dst.f_B 7 0), .int .u8 (List.getD rv1.f_Key.f_Dst.f_B 8 0), .int .u8 (List.getD rv1.f_Key.f_Dst.f_B 9 0), .int .u8 (List.getD rv1.f_Key.f_Dst.f_B 10 0), .int .u8 (List.getD rv1.f_Key.f_Dst.f_B 11 0), .int .u8 (List.getD rv1.f_Key.f_Dst.f_B 12 0), .int .u8 (List.getD rv1.f_Key.f_Dst.f_B 13 0), .int .u8 (List.getD rv1.f_Key.f_Dst.f_B 14 0), .int .u8 (List.getD rv1.f_Key.f_Dst.f_B 15 0), .int .u8 rv1.f_Key.f_Proto, .int .u16 rv1.f_Key.f_SrcPort, .int .u16 rv1.f_Key.f_DstPort, .int .u64 y13, .int .u64 y18, .int .u64 rv1.f_First, .int .u64 (gmax rv1.f_Last tick3), .int .u8 (bits .or .u8 rv1.f_Flags p2.f_Flags), .int .u8 rv1.f_Reason, .int .u8 rv1.f_Class]) hM rfl sz47 rfl (adds_eq [] rfl) rfl rfl (One.all rfl) rfl rfl) fun w25 hM1 => ?_
  clear hM
  have hM := hM1
  clear hM1
  refine RL.nil ?_
  refine KQ.then_n ?_
  refine KC.ret ?_
  obtain rfl := Option.some.inj hF
  have hb26 := hM.bx (i := 2) rfl
  replace hM := hM.pick [] rfl (by decide)
  refine KQ.rets Try.results16 (RVs.cons (RV.cN (cs := [.bool rv1.f_Key.f_Src.f_Six, .int .u8 (List.getD rv1.f_Key.f_Src.f_B 0 0), .int .u8 (List.getD rv1.f_Key.f_Src.f_B 1 0), .int .u8 (List.getD rv1.f_Key.f_Src.f_B 2 0), .int .u8 (List.getD rv1.f_Key.f_Src.f_B 3 0), .int .u8 (List.getD rv1.f_Key.f_Src.f_B 4 0), .int .u8 (List.getD rv1.f_Key.f_Src.f_B 5 0), .int .u8 (List.getD rv1.f_Key.f_Src.f_B 6 0), .int .u8 (List.getD rv1.f_Key.f_Src.f_B 7 0), .int .u8 (List.getD rv1.f_Key.f_Src.f_B 8 0), .int .u8 (List.getD rv1.f_Key.f_Src.f_B 9 0), .int .u8 (List.getD rv1.f_Key.f_Src.f_B 10 0), .int .u8 (List.getD rv1.f_Key.f_Src.f_B 11 0), .int .u8 (List.getD rv1.f_Key.f_Src.f_B 12 0), .int .u8 (List.getD rv1.f_Key.f_Src.f_B 13 0), .int .u8 (List.getD rv1.f_Key.f_Src.f_B 14 0), .int .u8 (List.getD rv1.f_Key.f_Src.f_B 15 0), .bool rv1.f_Key.f_Dst.f_Six, .int .u8 (List.getD rv1.f_Key.f_Dst.f_B 0 0), .int .u8 (List.getD rv1.f_Key.f_Dst.f_B 1 0), .int .u8 (List.getD rv1.f_Key.f_Dst.f_B 2 0), .int .u8 (List.getD rv1.f_Key.f_Dst.f_B 3 0), .int .u8 (List.getD rv1.f_Key.f_Dst.f_B 4 0), .int .u8 (List.getD rv1.f_Key.f_Dst.f_B 5 0), .int .u8 (List.getD rv1.f_Key.f_Dst.f_B 6 0), .int .u8 (List.getD rv1.f_Key.f_Dst.f_B 7 0), .int .u8 (List.getD rv1.f_Key.f_Dst.f_B 8 0), .int .u8 (List.getD rv1.f_Key.f_Dst.f_B 9 0), .int .u8 (List.getD rv1.f_Key.f_Dst.f_B 10 0), .int .u8 (List.getD rv1.f_Key.f_Dst.f_B 11 0), .int .u8 (List.getD rv1.f_Key.f_Dst.f_B 12 0), .int .u8 (List.getD rv1.f_Key.f_Dst.f_B 13 0), .int .u8 (List.getD rv1.f_Key.f_Dst.f_B 14 0), .int .u8 (List.getD rv1.f_Key.f_Dst.f_B 15 0), .int .u8 rv1.f_Key.f_Proto, .int .u16 rv1.f_Key.f_SrcPort, .int .u16 rv1.f_Key.f_DstPort, .int .u64 y13, .int .u64 y18, .int .u64 rv1.f_First, .int .u64 (gmax rv1.f_Last tick3), .int .u8 (bits .or .u8 rv1.f_Flags p2.f_Flags), .int .u8 rv1.f_Reason, .int .u8 rv1.f_Class]) rfl ag47 hb26) RVs.nil) ?_
  exact ⟨_, rfl, rfl, hM⟩
set_option maxRecDepth 100000 in
set_option maxHeartbeats 40000000 in
theorem c_docs_Total (w : World) (t1 : T_flow_Total) (r : T_flow_Total) (hF : F_docs_Total t1 = some r) :
    CallsR Try.prog 18 [.agg #[.int .u64 t1.f_Packets, .int .u64 t1.f_Bytes]] w (fun v w' => v = .agg #[.int .u64 r.f_Packets, .int .u64 r.f_Bytes] ∧ Mem w [] w' []) := by
  refine calls_KC Try.func18 rfl Try.ntmps18 rfl ?_
  have hM := Mem.init w
  unfold F_docs_Total at hF
  refine KC.seq ?_
  refine KC.region ?_
  refine RL.eff (E.box (vs := [.int .u64 t1.f_Packets, .int .u64 t1.f_Bytes]) hM rfl rfl) rfl fun v w3 hv => ?_
  clear hM
  obtain ⟨g2, rfl, hM, hf⟩ := hv
  refine RL.eff (E.alloc hM ze56) rfl fun v w6 hv => ?_
  clear hM
  obtain ⟨g5, rfl, hM, hf⟩ := hv
  refine RL.nil ?_
  refine KQ.then_n ?_
  refine KC.seq ?_
  refine KC.region ?_
  refine RL.val (O.fldA fl32_0 (by decide) rfl) rfl ?_
  refine RL.val (O.load sc30 rfl (Cs.adds [0] ((hM.bx (i := 0) rfl)) rfl)) rfl ?_
  refine RL.val (O.fldA fl32_1 (by decide) rfl) rfl ?_
  refine RL.val (O.load sc30 rfl (Cs.adds [1] ((hM.bx (i := 0) rfl)) rfl)) rfl ?_
  refine RL.val (O.bld (cs := [.int .u64 t1.f_Packets, .int .u64 t1.f_Bytes]) bt56 rfl (by kernel_rfl)) rfl ?_
  refine RL.effs (E.stB (j := 1) (off := 0) (vs := [.int .u64 t1.f_Packets, .int .u64 t1.f_Bytes]) (cs' := [.int .u64 t1.f_Packets, .int .u64 t1.f_Bytes]) hM rfl sz56 rfl (adds_eq [] rfl) rfl rfl (One.all rfl) rfl rfl) fun w8 hM1 => ?_
  clear hM
  have hM := hM1
  clear hM1
  refine RL.nil ?_
  refine KQ.then_n ?_
  refine KC.ret ?_
  obtain rfl := Option.some.inj hF
  have hb9 := hM.bx (i := 1) rfl
  replace hM := hM.pick [] rfl (by decide)
  refine KQ.rets Try.results18 (RVs.cons (RV.cN (cs := [.int .u64 t1.f_Packets, .int .u64 t1.f_Bytes]) rfl ag56 hb9) RVs.nil) ?_
  exact ⟨_, rfl, rfl, hM⟩
set_option maxRecDepth 100000 in
set_option maxHeartbeats 40000000 in
theorem c_ref22_Plus (w : World) (t1 : T_flow_Total) (u2 : T_flow_Total) (r : T_flow_Total) (hF : F_ref22_Plus t1 u2 = some r) :
    CallsR Try.prog 19 [.agg #[.int .u64 t1.f_Packets, .int .u64 t1.f_Bytes], .agg #[.int .u64 u2.f_Packets, .int .u64 u2.f_Bytes]] w (fun v w' => v = .agg #[.int .u64 r.f_Packets, .int .u64 r.f_Bytes] ∧ Mem w [] w' []) := by
  refine calls_KC Try.func19 rfl Try.ntmps19 rfl ?_
  have hM := Mem.init w
  unfold F_ref22_Plus at hF
  refine KC.seq ?_
  refine KC.region ?_
  refine RL.eff (E.box (vs := [.int .u64 t1.f_Packets, .int .u64 t1.f_Bytes]) hM rfl rfl) rfl fun v w4 hv => ?_
  clear hM
  obtain ⟨g3, rfl, hM, hf⟩ := hv
  refine RL.eff (E.box (vs := [.int .u64 u2.f_Packets, .int .u64 u2.f_Bytes]) hM rfl rfl) rfl fun v w7 hv => ?_
  clear hM
  obtain ⟨g6, rfl, hM, hf⟩ := hv
  refine RL.eff (E.alloc hM ze56) rfl fun v w10 hv => ?_
  clear hM
  obtain ⟨g9, rfl, hM, hf⟩ := hv
  refine RL.nil ?_
  refine KQ.then_n ?_
  refine KC.seq ?_
  replace hM := hM.drewN 1
  refine KC.draw [] [11] [4, 9, 11] [0, 2, 5, 7] (.ofList [0, 1, 2, 3, 5, 6, 7, 8, 4, 9, 10, 11]) moP (by kernel_rfl) ?_
  refine RD.p rfl rfl rfl rfl (fun w' => O.fldA fl56_0 (by decide) rfl) ?_
  refine RD.q rfl rfl rfl rfl (fun w' hf => O.load sc30 rfl (Cs.adds [0] ((hM.bx (i := 0) rfl).fut hf) rfl)) ?_
  refine RD.p rfl rfl rfl rfl (fun w' => O.fldA fl56_0 (by decide) rfl) ?_
  refine RD.q rfl rfl rfl rfl (fun w' hf => O.load sc30 rfl (Cs.adds [0] ((hM.bx (i := 1) rfl).fut hf) rfl)) ?_
  refine RD.p rfl rfl rfl rfl (fun w' => O.fldA fl56_1 (by decide) rfl) ?_
  refine RD.q rfl rfl rfl rfl (fun w' hf => O.load sc30 rfl (Cs.adds [1] ((hM.bx (i := 0) rfl).fut hf) rfl)) ?_
  refine RD.p rfl rfl rfl rfl (fun w' => O.fldA fl56_1 (by decide) rfl) ?_
  refine RD.q rfl rfl rfl rfl (fun w' hf => O.load sc30 rfl (Cs.adds [1] ((hM.bx (i := 1) rfl).fut hf) rfl)) ?_
  refine obindE hF fun y12 hx13 hF => ?_
  refine RD.mcall rfl rfl trivial Try.func33 bd33 rfl rfl (c_ref10_Plus _ t1.f_Packets u2.f_Packets _ hx13) fun v w14 hv => ?_
  obtain ⟨rfl, hN15⟩ := hv
  refine ⟨fun _ => hN15.fut, ?_⟩
  replace hM := hM.call0 hN15
  refine obindE hF fun y16 hx17 hF => ?_
  refine RD.mcall rfl rfl trivial Try.func33 bd33 rfl rfl (c_ref10_Plus _ t1.f_Bytes u2.f_Bytes _ hx17) fun v w18 hv => ?_
  obtain ⟨rfl, hN19⟩ := hv
  refine ⟨fun _ => hN19.fut, ?_⟩
  replace hM := hM.call0 hN19
  refine RD.q rfl rfl rfl rfl (fun w' hf => O.bld (cs := [.int .u64 y12, .int .u64 y16]) bt56 rfl (by kernel_rfl)) ?_
  refine RD.meffs rfl rfl rfl (E.stB (j := 2) (off := 0) (vs := [.int .u64 y12, .int .u64 y16]) (cs' := [.int .u64 y12, .int .u64 y16]) hM rfl sz56 rfl (adds_eq [] rfl) rfl rfl (One.all rfl) rfl rfl) fun w20 hM1 => ?_
  clear hM
  have hM := hM1
  clear hM1
  refine RD.nil ?_
  refine KQ.then_n ?_
  refine KC.ret ?_
  obtain rfl := Option.some.inj hF
  have hb21 := hM.bx (i := 2) rfl
  replace hM := hM.pick [] rfl (by decide)
  refine KQ.rets Try.results19 (RVs.cons (RV.cN (cs := [.int .u64 y12, .int .u64 y16]) rfl ag56 hb21) RVs.nil) ?_
  exact ⟨_, rfl, rfl, hM⟩
set_option maxRecDepth 100000 in
set_option maxHeartbeats 40000000 in
theorem c_flow_Specs (w : World) (long1 : Bool) (r : (List T_field_Spec)) (hF : F_flow_Specs long1 = some r) :
    CallsR Try.prog 22 [.bool long1] w (fun v w' => ∃ (A0 : Option Addr) (c0 : Nat), v = .slice A0 (r).length c0 ∧ Mem w [] w' [.row A0 c0 79 3 r.length (r.flatMap e_field_Spec)]) := by
  refine calls_KC Try.func22 rfl Try.ntmps22 rfl ?_
  have hM := Mem.init w
  unfold F_flow_Specs at hF
  refine KC.seq ?_
  refine KC.region ?_
  refine RL.val (O.assign rfl) rfl ?_
  refine RL.nil ?_
  refine KQ.then_n ?_
  refine KC.seq ?_
  refine KC.region ?_
  refine RL.val (O.bld (cs := [.int .u16 8, .int .u32 0, .int .u16 4]) bt79 rfl (by kernel_rfl)) rfl ?_
  refine RL.val (O.bld (cs := [.int .u16 12, .int .u32 0, .int .u16 4]) bt79 rfl (by kernel_rfl)) rfl ?_
  refine RL.eff (E.bsl (enc := e_field_Spec) (xs := [(T_field_Spec.mk 8 0 4), (T_field_Spec.mk 12 0 4)]) hM sl67 ze79 rfl rfl rfl (fun _ => rfl) rfl rfl rfl) rfl fun v w2 hv => ?_
  clear hM
  obtain ⟨A3, rfl, hM, hf⟩ := hv
  refine RL.val (O.assign rfl) rfl ?_
  refine RL.nil ?_
  refine KQ.then_n ?_
  refine KC.cut (fun a w12 => ∃ (A9 : Option Addr) (c10 : Nat) (lv11 : List T_field_Spec), Kn 24 [(3, .slice A9 (lv11).length c10)] a ∧ Mem w [] w12 [.row A9 c10 79 3 (lv11).length ((lv11).flatMap e_field_Spec)] ∧ F_flow_Specs_j1 lv11 = some r) ?_ ?_
  · refine KC.seq ?_
    refine KC.region ?_
    refine RL.val (O.move rfl) rfl ?_
    refine RL.nil ?_
    refine KQ.then_n ?_
    refine KC.cond rfl (fun hc => ?_) (fun hc => ?_)
    · rw [if_pos hc] at hF
      refine KC.region ?_
      refine RL.val (O.bld (cs := [.int .u16 27, .int .u32 0, .int .u16 16]) bt79 rfl (by kernel_rfl)) rfl ?_
      refine RL.val (O.bld (cs := [.int .u16 28, .int .u32 0, .int .u16 16]) bt79 rfl (by kernel_rfl)) rfl ?_
      refine RL.eff (E.bsl (enc := e_field_Spec) (xs := [(T_field_Spec.mk 27 0 16), (T_field_Spec.mk 28 0 16)]) hM sl67 ze79 rfl rfl rfl (fun _ => rfl) rfl rfl rfl) rfl fun v w5 hv => ?_
      clear hM
      obtain ⟨A6, rfl, hM, hf⟩ := hv
      refine RL.val (O.assign rfl) rfl ?_
      refine RL.nil ?_
      refine KQ.then_k ?_
      replace hM := hM.pick [1] rfl (by decide)
      exact fun a ha => ⟨A6, 2, ([(T_field_Spec.mk 27 0 16), (T_field_Spec.mk 28 0 16)]), ha.less (less_cons rfl less_nil), hM, hF⟩
    · rw [if_neg (ne_true hc)] at hF
      refine KC.skip ?_
      refine KQ.then_k ?_
      exact fun a ha => ⟨A3, 2, ([(T_field_Spec.mk 8 0 4), (T_field_Spec.mk 12 0 4)]), ha.less (less_cons rfl less_nil), hM, hF⟩
  · rintro a w12 ⟨A9, c10, lv11, ha, hM, hF⟩
    refine KC.app ha ?_
    clear ha
    unfold F_flow_Specs_j1 at hF
    refine KC.seq ?_
    refine KC.region ?_
    refine RL.val (O.move rfl) rfl ?_
    refine RL.val (O.bld (cs := [.int .u16 4, .int .u32 0, .int .u16 1]) bt79 rfl (by kernel_rfl)) rfl ?_
    refine RL.val (O.bld (cs := [.int .u16 7, .int .u32 0, .int .u16 2]) bt79 rfl (by kernel_rfl)) rfl ?_
    refine RL.val (O.bld (cs := [.int .u16 11, .int .u32 0, .int .u16 2]) bt79 rfl (by kernel_rfl)) rfl ?_
    refine RL.val (O.bld (cs := [.int .u16 1, .int .u32 0, .int .u16 8]) bt79 rfl (by kernel_rfl)) rfl ?_
    refine RL.val (O.bld (cs := [.int .u16 2, .int .u32 0, .int .u16 8]) bt79 rfl (by kernel_rfl)) rfl ?_
    refine RL.val (O.bld (cs := [.int .u16 152, .int .u32 0, .int .u16 8]) bt79 rfl (by kernel_rfl)) rfl ?_
    refine RL.val (O.bld (cs := [.int .u16 153, .int .u32 0, .int .u16 8]) bt79 rfl (by kernel_rfl)) rfl ?_
    refine RL.val (O.bld (cs := [.int .u16 6, .int .u32 0, .int .u16 1]) bt79 rfl (by kernel_rfl)) rfl ?_
    refine RL.val (O.bld (cs := [.int .u16 136, .int .u32 0, .int .u16 1]) bt79 rfl (by kernel_rfl)) rfl ?_
    refine RL.val (O.bld (cs := [.int .u16 1, .int .u32 32473, .int .u16 1]) bt79 rfl (by kernel_rfl)) rfl ?_
    refine RL.eff (E.bsl (enc := e_field_Spec) (xs := [(T_field_Spec.mk 4 0 1), (T_field_Spec.mk 7 0 2), (T_field_Spec.mk 11 0 2), (T_field_Spec.mk 1 0 8), (T_field_Spec.mk 2 0 8), (T_field_Spec.mk 152 0 8), (T_field_Spec.mk 153 0 8), (T_field_Spec.mk 6 0 1), (T_field_Spec.mk 136 0 1), (T_field_Spec.mk 1 32473 1)]) hM sl67 ze79 rfl rfl rfl (fun _ => rfl) rfl rfl rfl) rfl fun v w13 hv => ?_
    clear hM
    obtain ⟨A14, rfl, hM, hf⟩ := hv
    refine cut_someE hF fun hq19 hF => ?_
    refine RL.eff (E.app (enc := e_field_Spec) (xs := lv11) (ys := [(T_field_Spec.mk 4 0 1), (T_field_Spec.mk 7 0 2), (T_field_Spec.mk 11 0 2), (T_field_Spec.mk 1 0 8), (T_field_Spec.mk 2 0 8), (T_field_Spec.mk 152 0 8), (T_field_Spec.mk 153 0 8), (T_field_Spec.mk 6 0 1), (T_field_Spec.mk 136 0 1), (T_field_Spec.mk 1 32473 1)]) (j := 0) hM rfl sl67 ze79 rfl rfl rfl rfl rfl (hM.rd (i := 1) rfl) (fun _ => One.all rfl) (of_decide_eq_true hq19)) rfl fun v w18 hv => ?_
    clear hM
    obtain ⟨A16, c17, rfl, hM, hf⟩ := hv
    refine RL.val (O.assign rfl) rfl ?_
    refine RL.nil ?_
    refine KQ.then_n ?_
    refine KC.ret ?_
    obtain rfl := Option.some.inj hF
    replace hM := hM.pick [0] rfl (by decide)
    refine KQ.rets Try.results22 (RVs.cons (RV.tm rfl) RVs.nil) ?_
    exact ⟨_, rfl, A16, c17, rfl, hM⟩
end Go.Proofs.Yteafnfoponjoeaa
