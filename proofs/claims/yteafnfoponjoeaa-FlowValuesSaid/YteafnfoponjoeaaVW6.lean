/- Printed by a program of this claim: each call returns what the plain function of its name gives. -/
import Derived.Test.YteafnfoponjoeaaVW5
set_option linter.unusedVariables false
namespace Go.Proofs.Yteafnfoponjoeaa
open Go Go.Ox Go.RowKit
set_option maxRecDepth 100000 in
set_option maxHeartbeats 40000000 in
theorem c_flow_Start (w : World) (kv1 : T_packet_Key) (class2 : Int) (tick3 : Int) (r : T_flow_Record) (hF : F_flow_Start kv1 class2 tick3 = some r) :
    CallsR Try.prog 7 [.agg #[.bool kv1.f_Src.f_Six, .int .u8 (List.getD kv1.f_Src.f_B 0 0), .int .u8 (List.getD kv1.f_Src.f_B 1 0), .int .u8 (List.getD kv1.f_Src.f_B 2 0), .int .u8 (List.getD kv1.f_Src.f_B 3 0), .int .u8 (List.getD kv1.f_Src.f_B 4 0), .int .u8 (List.getD kv1.f_Src.f_B 5 0), .int .u8 (List.getD kv1.f_Src.f_B 6 0), .int .u8 (List.getD kv1.f_Src.f_B 7 0), .int .u8 (List.getD kv1.f_Src.f_B 8 0), .int .u8 (List.getD kv1.f_Src.f_B 9 0), .int .u8 (List.getD kv1.f_Src.f_B 10 0), .int .u8 (List.getD kv1.f_Src.f_B 11 0), .int .u8 (List.getD kv1.f_Src.f_B 12 0), .int .u8 (List.getD kv1.f_Src.f_B 13 0), .int .u8 (List.getD kv1.f_Src.f_B 14 0), .int .u8 (List.getD kv1.f_Src.f_B 15 0), .bool kv1.f_Dst.f_Six, .int .u8 (List.getD kv1.f_Dst.f_B 0 0), .int .u8 (List.getD kv1.f_Dst.f_B 1 0), .int .u8 (List.getD kv1.f_Dst.f_B 2 0), .int .u8 (List.getD kv1.f_Dst.f_B 3 0), .int .u8 (List.getD kv1.f_Dst.f_B 4 0), .int .u8 (List.getD kv1.f_Dst.f_B 5 0), .int .u8 (List.getD kv1.f_Dst.f_B 6 0), .int .u8 (List.getD kv1.f_Dst.f_B 7 0), .int .u8 (List.getD kv1.f_Dst.f_B 8 0), .int .u8 (List.getD kv1.f_Dst.f_B 9 0), .int .u8 (List.getD kv1.f_Dst.f_B 10 0), .int .u8 (List.getD kv1.f_Dst.f_B 11 0), .int .u8 (List.getD kv1.f_Dst.f_B 12 0), .int .u8 (List.getD kv1.f_Dst.f_B 13 0), .int .u8 (List.getD kv1.f_Dst.f_B 14 0), .int .u8 (List.getD kv1.f_Dst.f_B 15 0), .int .u8 kv1.f_Proto, .int .u16 kv1.f_SrcPort, .int .u16 kv1.f_DstPort], .int .u8 class2, .int .u64 tick3] w (fun v w' => v = .agg #[.bool r.f_Key.f_Src.f_Six, .int .u8 (List.getD r.f_Key.f_Src.f_B 0 0), .int .u8 (List.getD r.f_Key.f_Src.f_B 1 0), .int .u8 (List.getD r.f_Key.f_Src.f_B 2 0), .int .u8 (List.getD r.f_Key.f_Src.f_B 3 0), .int .u8 (List.getD r.f_Key.f_Src.f_B 4 0), .int .u8 (List.getD r.f_Key.f_Src.f_B 5 0), .int .u8 (List.getD r.f_Key.f_Src.f_B 6 0), .int .u8 (List.getD r.f_Key.f_Src.f_B 7 0), .int .u8 (List.getD r.f_Key.f_Src.f_B 8 0), .int .u8 (List.getD r.f_Key.f_Src.f_B 9 0), .int .u8 (List.getD r.f_Key.f_Src.f_B 10 0), .int .u8 (List.getD r.f_Key.f_Src.f_B 11 0), .int .u8 (List.getD r.f_Key.f_Src.f_B 12 0), .int .u8 (List.getD r.f_Key.f_Src.f_B 13 0), .int .u8 (List.getD r.f_Key.f_Src.f_B 14 0), .int .u8 (List.getD r.f_Key.f_Src.f_B 15 0), .bool r.f_Key.f_Dst.f_Six, .int .u8 (List.getD r.f_Key.f_Dst.f_B 0 0), .int .u8 (List.getD r.f_Key.f_Dst.f_B 1 0), .int .u8 (List.getD r.f_Key.f_Dst.f_B 2 0), .int .u8 (List.getD r.f_Key.f_Dst.f_B 3 0), .int .u8 (List.getD r.f_Key.f_Dst.f_B 4 0), .int .u8 (List.getD r.f_Key.f_Dst.f_B 5 0), .int .u8 (List.getD r.f_Key.f_Dst.f_B 6 0), .int .u8 (List.getD r.f_Key.f_Dst.f_B 7 0), .int .u8 (List.getD r.f_Key.f_Dst.f_B 8 0), .int .u8 (List.getD r.f_Key.f_Dst.f_B 9 0), .int .u8 (List.getD r.f_Key.f_Dst.f_B 10 0), .int .u8 (List.getD r.f_Key.f_Dst.f_B 11 0), .int .u8 (List.getD r.f_Key.f_Dst.f_B 12 0), .int .u8 (List.getD r.f_Key.f_Dst.f_B 13 0), .int .u8 (List.getD r.f_Key.f_Dst.f_B 14 0), .int .u8 (List.getD r.f_Key.f_Dst.f_B 15 0), .int .u8 r.f_Key.f_Proto, .int .u16 r.f_Key.f_SrcPort, .int .u16 r.f_Key.f_DstPort, .int .u64 r.f_Packets, .int .u64 r.f_Bytes, .int .u64 r.f_First, .int .u64 r.f_Last, .int .u8 r.f_Flags, .int .u8 r.f_Reason, .int .u8 r.f_Class] ∧ Mem w [] w' []) := by
  refine calls_KC Try.func7 rfl Try.ntmps7 rfl ?_
  have hM := Mem.init w
  unfold F_flow_Start at hF
  refine KC.seq ?_
  refine KC.region ?_
  refine RL.eff (E.box (vs := [.bool kv1.f_Src.f_Six, .int .u8 (List.getD kv1.f_Src.f_B 0 0), .int .u8 (List.getD kv1.f_Src.f_B 1 0), .int .u8 (List.getD kv1.f_Src.f_B 2 0), .int .u8 (List.getD kv1.f_Src.f_B 3 0), .int .u8 (List.getD kv1.f_Src.f_B 4 0), .int .u8 (List.getD kv1.f_Src.f_B 5 0), .int .u8 (List.getD kv1.f_Src.f_B 6 0), .int .u8 (List.getD kv1.f_Src.f_B 7 0), .int .u8 (List.getD kv1.f_Src.f_B 8 0), .int .u8 (List.getD kv1.f_Src.f_B 9 0), .int .u8 (List.getD kv1.f_Src.f_B 10 0), .int .u8 (List.getD kv1.f_Src.f_B 11 0), .int .u8 (List.getD kv1.f_Src.f_B 12 0), .int .u8 (List.getD kv1.f_Src.f_B 13 0), .int .u8 (List.getD kv1.f_Src.f_B 14 0), .int .u8 (List.getD kv1.f_Src.f_B 15 0), .bool kv1.f_Dst.f_Six, .int .u8 (List.getD kv1.f_Dst.f_B 0 0), .int .u8 (List.getD kv1.f_Dst.f_B 1 0), .int .u8 (List.getD kv1.f_Dst.f_B 2 0), .int .u8 (List.getD kv1.f_Dst.f_B 3 0), .int .u8 (List.getD kv1.f_Dst.f_B 4 0), .int .u8 (List.getD kv1.f_Dst.f_B 5 0), .int .u8 (List.getD kv1.f_Dst.f_B 6 0), .int .u8 (List.getD kv1.f_Dst.f_B 7 0), .int .u8 (List.getD kv1.f_Dst.f_B 8 0), .int .u8 (List.getD kv1.f_Dst.f_B 9 0), .int .u8 (List.getD kv1.f_Dst.f_B 10 0), .int .u8 (List.getD kv1.f_Dst.f_B 11 0), .int .u8 (List.getD kv1.f_Dst.f_B 12 0), .int .u8 (List.getD kv1.f_Dst.f_B 13 0), .int .u8 (List.getD kv1.f_Dst.f_B 14 0), .int .u8 (List.getD kv1.f_Dst.f_B 15 0), .int .u8 kv1.f_Proto, .int .u16 kv1.f_SrcPort, .int .u16 kv1.f_DstPort]) hM rfl rfl) rfl fun v w5 hv => ?_
  clear hM
  obtain ⟨g4, rfl, hM, hf⟩ := hv
  refine RL.eff (E.alloc hM ze35) rfl fun v w8 hv => ?_
  clear hM
  obtain ⟨g7, rfl, hM, hf⟩ := hv
  refine RL.nil ?_
  refine KQ.then_n ?_
  refine KC.seq ?_
  refine KC.region ?_
  refine RL.val (O.loadN (cs := [.bool kv1.f_Src.f_Six, .int .u8 (List.getD kv1.f_Src.f_B 0 0), .int .u8 (List.getD kv1.f_Src.f_B 1 0), .int .u8 (List.getD kv1.f_Src.f_B 2 0), .int .u8 (List.getD kv1.f_Src.f_B 3 0), .int .u8 (List.getD kv1.f_Src.f_B 4 0), .int .u8 (List.getD kv1.f_Src.f_B 5 0), .int .u8 (List.getD kv1.f_Src.f_B 6 0), .int .u8 (List.getD kv1.f_Src.f_B 7 0), .int .u8 (List.getD kv1.f_Src.f_B 8 0), .int .u8 (List.getD kv1.f_Src.f_B 9 0), .int .u8 (List.getD kv1.f_Src.f_B 10 0), .int .u8 (List.getD kv1.f_Src.f_B 11 0), .int .u8 (List.getD kv1.f_Src.f_B 12 0), .int .u8 (List.getD kv1.f_Src.f_B 13 0), .int .u8 (List.getD kv1.f_Src.f_B 14 0), .int .u8 (List.getD kv1.f_Src.f_B 15 0), .bool kv1.f_Dst.f_Six, .int .u8 (List.getD kv1.f_Dst.f_B 0 0), .int .u8 (List.getD kv1.f_Dst.f_B 1 0), .int .u8 (List.getD kv1.f_Dst.f_B 2 0), .int .u8 (List.getD kv1.f_Dst.f_B 3 0), .int .u8 (List.getD kv1.f_Dst.f_B 4 0), .int .u8 (List.getD kv1.f_Dst.f_B 5 0), .int .u8 (List.getD kv1.f_Dst.f_B 6 0), .int .u8 (List.getD kv1.f_Dst.f_B 7 0), .int .u8 (List.getD kv1.f_Dst.f_B 8 0), .int .u8 (List.getD kv1.f_Dst.f_B 9 0), .int .u8 (List.getD kv1.f_Dst.f_B 10 0), .int .u8 (List.getD kv1.f_Dst.f_B 11 0), .int .u8 (List.getD kv1.f_Dst.f_B 12 0), .int .u8 (List.getD kv1.f_Dst.f_B 13 0), .int .u8 (List.getD kv1.f_Dst.f_B 14 0), .int .u8 (List.getD kv1.f_Dst.f_B 15 0), .int .u8 kv1.f_Proto, .int .u16 kv1.f_SrcPort, .int .u16 kv1.f_DstPort]) ag27 rfl (Cs.addsN [] ((hM.bx (i := 0) rfl)) rfl)) rfl ?_
  refine RL.val (O.move rfl) rfl ?_
  refine RL.val (O.move rfl) rfl ?_
  refine RL.val (O.move rfl) rfl ?_
  refine RL.val (O.bld (cs := [.bool kv1.f_Src.f_Six, .int .u8 (List.getD kv1.f_Src.f_B 0 0), .int .u8 (List.getD kv1.f_Src.f_B 1 0), .int .u8 (List.getD kv1.f_Src.f_B 2 0), .int .u8 (List.getD kv1.f_Src.f_B 3 0), .int .u8 (List.getD kv1.f_Src.f_B 4 0), .int .u8 (List.getD kv1.f_Src.f_B 5 0), .int .u8 (List.getD kv1.f_Src.f_B 6 0), .int .u8 (List.getD kv1.f_Src.f_B 7 0), .int .u8 (List.getD kv1.f_Src.f_B 8 0), .int .u8 (List.getD kv1.f_Src.f_B 9 0), .int .u8 (List.getD kv1.f_Src.f_B 10 0), .int .u8 (List.getD kv1.f_Src.f_B 11 0), .int .u8 (List.getD kv1.f_Src.f_B 12 0), .int .u8 (List.getD kv1.f_Src.f_B 13 0), .int .u8 (List.getD kv1.f_Src.f_B 14 0), .int .u8 (List.getD kv1.f_Src.f_B 15 0), .bool kv1.f_Dst.f_Six, .int .u8 (List.getD kv1.f_Dst.f_B 0 0), .int .u8 (List.getD kv1.f_Dst.f_B 1 0), .int .u8 (List.getD kv1.f_Dst.f_B 2 0), .int .u8 (List.getD kv1.f_Dst.f_B 3 0), .int .u8 (List.getD kv1.f_Dst.f_B 4 0), .int .u8 (List.getD kv1.f_Dst.f_B 5 0), .int .u8 (List.getD kv1.f_Dst.f_B 6 0), .int .u8 (List.getD kv1.f_Dst.f_B 7 0), .int .u8 (List.getD kv1.f_Dst.f_B 8 0), .int .u8 (List.getD kv1.f_Dst.f_B 9 0), .int .u8 (List.getD kv1.f_Dst.f_B 10 0), .int .u8 (List.getD kv1.f_Dst.f_B 11 0), .int .u8 (List.getD kv1.f_Dst.f_B 12 0), .int .u8 (List.getD kv1.f_Dst.f_B 13 0), .int .u8 (List.getD kv1.f_Dst.f_B 14 0), .int .u8 (List.getD kv1.f_Dst.f_B 15 0), .int .u8 kv1.f_Proto, .int .u16 kv1.f_SrcPort, .int .u16 kv1.f_DstPort, .int .u64 0, .int .u64 0, .int .u64 tick3, .int .u64 tick3, .int .u8 0, .int .u8 0, .int .u8 class2]) bt35 rfl (by kernel_rfl)) rfl ?_
  refine RL.effs (E.stB (j := 1) (off := 0) (vs := [.bool kv1.f_Src.f_Six, .int .u8 (List.getD kv1.f_Src.f_B 0 0), .int .u8 (List.getD kv1.f_Src.f_B 1 0), .int .u8 (List.getD kv1.f_Src.f_B 2 0), .int .u8 (List.getD kv1.f_Src.f_B 3 0), .int .u8 (List.getD kv1.f_Src.f_B 4 0), .int .u8 (List.getD kv1.f_Src.f_B 5 0), .int .u8 (List.getD kv1.f_Src.f_B 6 0), .int .u8 (List.getD kv1.f_Src.f_B 7 0), .int .u8 (List.getD kv1.f_Src.f_B 8 0), .int .u8 (List.getD kv1.f_Src.f_B 9 0), .int .u8 (List.getD kv1.f_Src.f_B 10 0), .int .u8 (List.getD kv1.f_Src.f_B 11 0), .int .u8 (List.getD kv1.f_Src.f_B 12 0), .int .u8 (List.getD kv1.f_Src.f_B 13 0), .int .u8 (List.getD kv1.f_Src.f_B 14 0), .int .u8 (List.getD kv1.f_Src.f_B 15 0), .bool kv1.f_Dst.f_Six, .int .u8 (List.getD kv1.f_Dst.f_B 0 0), .int .u8 (List.getD kv1.f_Dst.f_B 1 0), .int .u8 (List.getD kv1.f_Dst.f_B 2 0), .int .u8 (List.getD kv1.f_Dst.f_B 3 0), .int .u8 (List.getD kv1.f_Dst.f_B 4 0), .int .u8 (List.getD kv1.f_Dst.f_B 5 0), .int .u8 (List.getD kv1.f_Dst.f_B 6 0), .int .u8 (List.getD kv1.f_Dst.f_B 7 0), .int .u8 (List.getD kv1.f_Dst.f_B 8 0), .int .u8 (List.getD kv1.f_Dst.f_B 9 0), .int .u8 (List.getD kv1.f_Dst.f_B 10 0), .int .u8 (List.getD kv1.f_Dst.f_B 11 0), .int .u8 (List.getD kv1.f_Dst.f_B 12 0), .int .u8 (List.getD kv1.f_Dst.f_B 13 0), .int .u8 (List.getD kv1.f_Dst.f_B 14 0), .int .u8 (List.getD kv1.f_Dst.f_B 15 0), .int .u8 kv1.f_Proto, .int .u16 kv1.f_SrcPort, .int .u16 kv1.f_DstPort, .int .u64 0, .int .u64 0, .int .u64 tick3, .int .u64 tick3, .int .u8 0, .int .u8 0, .int .u8 class2]) (cs' := [.bool kv1.f_Src.f_Six, .int .u8 (List.getD kv1.f_Src.f_B 0 0), .int .u8 (List.getD kv1.f_Src.f_B 1 0), .int .u8 (List.getD kv1.f_Src.f_B 2 0), .int .u8 (List.getD kv1.f_Src.f_B 3 0), .int .u8 (List.getD kv1.f_Src.f_B 4 0), .int .u8 (List.getD kv1.f_Src.f_B 5 0), .int .u8 (List.getD kv1.f_Src.f_B 6 0), .int .u8 (List.getD kv1.f_Src.f_B 7 0), .int .u8 (List.getD kv1.f_Src.f_B 8 0), .int .u8 (List.getD kv1.f_Src.f_B 9 0), .int .u8 (List.getD kv1.f_Src.f_B 10 0), .int .u8 (List.getD kv1.f_Src.f_B 11 0), .int .u8 (List.getD kv1.f_Src.f_B 12 0), .int .u8 (List.getD kv1.f_Src.f_B 13 0), .int .u8 (List.getD kv1.f_Src.f_B 14 0), .int .u8 (List.getD kv1.f_Src.f_B 15 0), .bool kv1.f_Dst.f_Six, .int .u8 (List.getD kv1.f_Dst.f_B 0 0), .int .u8 (List.getD kv1.f_Dst.f_B 1 0), .int .u8 (List.getD kv1.f_Dst.f_B 2 0), .int .u8 (List.getD kv1.f_Dst.f_B 3 0), .int .u8 (List.getD kv1.f_Dst.f_B 4 0), .int .u8 (List.getD kv1.f_Dst.f_B 5 0), .int .u8 (List.getD kv1.f_Dst.f_B 6 0), .int .u8 (List.getD kv1.f_Dst.f_B 7 0), .int .u8 (List.getD kv1.f_Dst.f_B 8 0), .int .u8 (List.getD kv1.f_Dst.f_B 9 0), .int .u8 (List.getD kv1.f_Dst.f_B 10 0), .int .u8 (List.getD kv1.f_Dst.f_B 11 0), .int .u8 (List.getD kv1.f_Dst.f_B 12 0), .int .u8 (List.getD kv1.f_Dst.f_B 13 0), .int .u8 (List.getD kv1.f_Dst.f_B 14 0), .int .u8 (List.getD kv1.f_Dst.f_B 15 0), .int .u8 kv1.f_Proto, .int .u16 kv1.f_SrcPort, .int .u16 kv1.f_DstPort, .int .u64 0, .int .u64 0, .int .u64 tick3, .int .u64 tick3, .int .u8 0, .int .u8 0, .int .u8 class2]) hM rfl sz35 rfl (adds_eq [] rfl) rfl rfl (One.all rfl) rfl rfl) fun w10 hM1 => ?_
  clear hM
  have hM := hM1
  clear hM1
  refine RL.nil ?_
  refine KQ.then_n ?_
  refine KC.ret ?_
  obtain rfl := Option.some.inj hF
  have hb11 := hM.bx (i := 1) rfl
  replace hM := hM.pick [] rfl (by decide)
  refine KQ.rets Try.results7 (RVs.cons (RV.cN (cs := [.bool kv1.f_Src.f_Six, .int .u8 (List.getD kv1.f_Src.f_B 0 0), .int .u8 (List.getD kv1.f_Src.f_B 1 0), .int .u8 (List.getD kv1.f_Src.f_B 2 0), .int .u8 (List.getD kv1.f_Src.f_B 3 0), .int .u8 (List.getD kv1.f_Src.f_B 4 0), .int .u8 (List.getD kv1.f_Src.f_B 5 0), .int .u8 (List.getD kv1.f_Src.f_B 6 0), .int .u8 (List.getD kv1.f_Src.f_B 7 0), .int .u8 (List.getD kv1.f_Src.f_B 8 0), .int .u8 (List.getD kv1.f_Src.f_B 9 0), .int .u8 (List.getD kv1.f_Src.f_B 10 0), .int .u8 (List.getD kv1.f_Src.f_B 11 0), .int .u8 (List.getD kv1.f_Src.f_B 12 0), .int .u8 (List.getD kv1.f_Src.f_B 13 0), .int .u8 (List.getD kv1.f_Src.f_B 14 0), .int .u8 (List.getD kv1.f_Src.f_B 15 0), .bool kv1.f_Dst.f_Six, .int .u8 (List.getD kv1.f_Dst.f_B 0 0), .int .u8 (List.getD kv1.f_Dst.f_B 1 0), .int .u8 (List.getD kv1.f_Dst.f_B 2 0), .int .u8 (List.getD kv1.f_Dst.f_B 3 0), .int .u8 (List.getD kv1.f_Dst.f_B 4 0), .int .u8 (List.getD kv1.f_Dst.f_B 5 0), .int .u8 (List.getD kv1.f_Dst.f_B 6 0), .int .u8 (List.getD kv1.f_Dst.f_B 7 0), .int .u8 (List.getD kv1.f_Dst.f_B 8 0), .int .u8 (List.getD kv1.f_Dst.f_B 9 0), .int .u8 (List.getD kv1.f_Dst.f_B 10 0), .int .u8 (List.getD kv1.f_Dst.f_B 11 0), .int .u8 (List.getD kv1.f_Dst.f_B 12 0), .int .u8 (List.getD kv1.f_Dst.f_B 13 0), .int .u8 (List.getD kv1.f_Dst.f_B 14 0), .int .u8 (List.getD kv1.f_Dst.f_B 15 0), .int .u8 kv1.f_Proto, .int .u16 kv1.f_SrcPort, .int .u16 kv1.f_DstPort, .int .u64 0, .int .u64 0, .int .u64 tick3, .int .u64 tick3, .int .u8 0, .int .u8 0, .int .u8 class2]) rfl ag35 hb11) RVs.nil) ?_
  exact ⟨_, rfl, rfl, hM⟩
set_option maxRecDepth 100000 in
set_option maxHeartbeats 40000000 in
theorem c_flow_Record_Total (w : World) (rv1 : T_flow_Record) (r : T_flow_Total) (hF : F_flow_Record_Total rv1 = some r) :
    CallsR Try.prog 9 [.agg #[.bool rv1.f_Key.f_Src.f_Six, .int .u8 (List.getD rv1.f_Key.f_Src.f_B 0 0), .int .u8 (List.getD rv1.f_Key.f_Src.f_B 1 0), .int .u8 (List.getD rv1.f_Key.f_Src.f_B 2 0), .int .u8 (List.getD rv1.f_Key.f_Src.f_B 3 0), .int .u8 (List.getD rv1.f_Key.f_Src.f_B 4 0), .int .u8 (List.getD rv1.f_Key.f_Src.f_B 5 0), .int .u8 (List.getD rv1.f_Key.f_Src.f_B 6 0), .int .u8 (List.getD rv1.f_Key.f_Src.f_B 7 0), .int .u8 (List.getD rv1.f_Key.f_Src.f_B 8 0), .int .u8 (List.getD rv1.f_Key.f_Src.f_B 9 0), .int .u8 (List.getD rv1.f_Key.f_Src.f_B 10 0), .int .u8 (List.getD rv1.f_Key.f_Src.f_B 11 0), .int .u8 (List.getD rv1.f_Key.f_Src.f_B 12 0), .int .u8 (List.getD rv1.f_Key.f_Src.f_B 13 0), .int .u8 (List.getD rv1.f_Key.f_Src.f_B 14 0), .int .u8 (List.getD rv1.f_Key.f_Src.f_B 15 0), .bool rv1.f_Key.f_Dst.f_Six, .int .u8 (List.getD rv1.f_Key.f_Dst.f_B 0 0), .int .u8 (List.getD rv1.f_Key.f_Dst.f_B 1 0), .int .u8 (List.getD rv1.f_Key.f_Dst.f_B 2 0), .int .u8 (List.getD rv1.f_Key.f_Dst.f_B 3 0), .int .u8 (List.getD rv1.f_Key.f_Dst.f_B 4 0), .int .u8 (List.getD rv1.f_Key.f_Dst.f_B 5 0), .int .u8 (List.getD rv1.f_Key.f_Dst.f_B 6 0), .int .u8 (List.getD rv1.f_Key.f_Dst.f_B 7 0), .int .u8 (List.getD rv1.f_Key.f_Dst.f_B 8 0), .int .u8 (List.getD rv1.f_Key.f_Dst.f_B 9 0), .int .u8 (List.getD rv1.f_Key.f_Dst.f_B 10 0), .int .u8 (List.getD rv1.f_Key.f_Dst.f_B 11 0), .int .u8 (List.getD rv1.f_Key.f_Dst.f_B 12 0), .int .u8 (List.getD rv1.f_Key.f_Dst.f_B 13 0), .int .u8 (List.getD rv1.f_Key.f_Dst.f_B 14 0), .int .u8 (List.getD rv1.f_Key.f_Dst.f_B 15 0), .int .u8 rv1.f_Key.f_Proto, .int .u16 rv1.f_Key.f_SrcPort, .int .u16 rv1.f_Key.f_DstPort, .int .u64 rv1.f_Packets, .int .u64 rv1.f_Bytes, .int .u64 rv1.f_First, .int .u64 rv1.f_Last, .int .u8 rv1.f_Flags, .int .u8 rv1.f_Reason, .int .u8 rv1.f_Class]] w (fun v w' => v = .agg #[.int .u64 r.f_Packets, .int .u64 r.f_Bytes] ∧ Mem w [] w' []) := by
  refine calls_KC Try.func9 rfl Try.ntmps9 rfl ?_
  have hM := Mem.init w
  unfold F_flow_Record_Total at hF
  refine KC.seq ?_
  refine KC.region ?_
  refine RL.eff (E.box (vs := [.bool rv1.f_Key.f_Src.f_Six, .int .u8 (List.getD rv1.f_Key.f_Src.f_B 0 0), .int .u8 (List.getD rv1.f_Key.f_Src.f_B 1 0), .int .u8 (List.getD rv1.f_Key.f_Src.f_B 2 0), .int .u8 (List.getD rv1.f_Key.f_Src.f_B 3 0), .int .u8 (List.getD rv1.f_Key.f_Src.f_B 4 0), .int .u8 (List.getD rv1.f_Key.f_Src.f_B 5 0), .int .u8 (List.getD rv1.f_Key.f_Src.f_B 6 0), .int .u8 (List.getD rv1.f_Key.f_Src.f_B 7 0), .int .u8 (List.getD rv1.f_Key.f_Src.f_B 8 0), .int .u8 (List.getD rv1.f_Key.f_Src.f_B 9 0), .int .u8 (List.getD rv1.f_Key.f_Src.f_B 10 0), .int .u8 (List.getD rv1.f_Key.f_Src.f_B 11 0), .int .u8 (List.getD rv1.f_Key.f_Src.f_B 12 0), .int .u8 (List.getD rv1.f_Key.f_Src.f_B 13 0), .int .u8 (List.getD rv1.f_Key.f_Src.f_B 14 0), .int .u8 (List.getD rv1.f_Key.f_Src.f_B 15 0), .bool rv1.f_Key.f_Dst.f_Six, .int .u8 (List.getD rv1.f_Key.f_Dst.f_B 0 0), .int .u8 (List.getD rv1.f_Key.f_Dst.f_B 1 0), .int .u8 (List.getD rv1.f_Key.f_Dst.f_B 2 0), .int .u8 (List.getD rv1.f_Key.f_Dst.f_B 3 0), .int .u8 (List.getD rv1.f_Key.f_Dst.f_B 4 0), .int .u8 (List.getD rv1.f_Key.f_Dst.f_B 5 0), .int .u8 (List.getD rv1.f_Key.f_Dst.f_B 6 0), .int .u8 (List.getD rv1.f_Key.f_Dst.f_B 7 0), .int .u8 (List.getD rv1.f_Key.f_Dst.f_B 8 0), .int .u8 (List.getD rv1.f_Key.f_Dst.f_B 9 0), .int .u8 (List.getD rv1.f_Key.f_Dst.f_B 10 0), .int .u8 (List.getD rv1.f_Key.f_Dst.f_B 11 0), .int .u8 (List.getD rv1.f_Key.f_Dst.f_B 12 0), .int .u8 (List.getD rv1.f_Key.f_Dst.f_B 13 0), .int .u8 (List.getD rv1.f_Key.f_Dst.f_B 14 0), .int .u8 (List.getD rv1.f_Key.f_Dst.f_B 15 0), .int .u8 rv1.f_Key.f_Proto, .int .u16 rv1.f_Key.f_SrcPort, .int .u16 rv1.f_Key.f_DstPort, .int .u64 rv1.f_Packets, .int .u64 rv1.f_Bytes, .int .u64 rv1.f_First, .int .u64 rv1.f_Last, .int .u8 rv1.f_Flags, .int .u8 rv1.f_Reason, .int .u8 rv1.f_Class]) hM rfl rfl) rfl fun v w3 hv => ?_
  clear hM
  obtain ⟨g2, rfl, hM, hf⟩ := hv
  refine RL.eff (E.alloc hM ze32) rfl fun v w6 hv => ?_
  clear hM
  obtain ⟨g5, rfl, hM, hf⟩ := hv
  refine RL.nil ?_
  refine KQ.then_n ?_
  refine KC.seq ?_
  refine KC.region ?_
  refine RL.val (O.fldA fl35_1 (by decide) rfl) rfl ?_
  refine RL.val (O.load sc30 rfl (Cs.adds [37] ((hM.bx (i := 0) rfl)) rfl)) rfl ?_
  refine RL.val (O.fldA fl35_2 (by decide) rfl) rfl ?_
  refine RL.val (O.load sc30 rfl (Cs.adds [38] ((hM.bx (i := 0) rfl)) rfl)) rfl ?_
  refine RL.val (O.bld (cs := [.int .u64 rv1.f_Packets, .int .u64 rv1.f_Bytes]) bt32 rfl (by kernel_rfl)) rfl ?_
  refine RL.effs (E.stB (j := 1) (off := 0) (vs := [.int .u64 rv1.f_Packets, .int .u64 rv1.f_Bytes]) (cs' := [.int .u64 rv1.f_Packets, .int .u64 rv1.f_Bytes]) hM rfl sz32 rfl (adds_eq [] rfl) rfl rfl (One.all rfl) rfl rfl) fun w8 hM1 => ?_
  clear hM
  have hM := hM1
  clear hM1
  refine RL.nil ?_
  refine KQ.then_n ?_
  refine KC.ret ?_
  obtain rfl := Option.some.inj hF
  have hb9 := hM.bx (i := 1) rfl
  replace hM := hM.pick [] rfl (by decide)
  refine KQ.rets Try.results9 (RVs.cons (RV.cN (cs := [.int .u64 rv1.f_Packets, .int .u64 rv1.f_Bytes]) rfl ag32 hb9) RVs.nil) ?_
  exact ⟨_, rfl, rfl, hM⟩
set_option maxRecDepth 100000 in
set_option maxHeartbeats 40000000 in
theorem c_flow_plus (w : World) (av1 : Int) (b2 : Int) (r : Int) (hF : F_flow_plus av1 b2 = some r) :
    CallsR Try.prog 29 [.int .u64 av1, .int .u64 b2] w (fun v w' => v = .int .u64 r ∧ Mem w [] w' []) := by
  refine calls_KC Try.func29 rfl Try.ntmps29 rfl ?_
  have hM := Mem.init w
  unfold F_flow_plus at hF
  refine KC.seq ?_
  refine KC.region ?_
  refine RL.val (O.assign rfl) rfl ?_
  refine RL.nil ?_
  refine KQ.then_n ?_
  refine KC.seq ?_
  refine KC.region ?_
  refine RL.val (O.move rfl) rfl ?_
  refine RL.val (O.move rfl) rfl ?_
  refine RL.val (O.add64 Try.func38 (by kernel_rfl) (by kernel_rfl) (by kernel_rfl) (by kernel_rfl) rfl rfl rfl) rfl ?_
  refine RL.val (O.move rfl) rfl ?_
  refine RL.val (O.ext rfl rfl) rfl ?_
  refine RL.val (O.ext rfl rfl) rfl ?_
  refine RL.val (O.assign rfl) rfl ?_
  refine RL.val (O.assign rfl) rfl ?_
  refine RL.nil ?_
  refine KQ.then_n ?_
  refine KC.seq ?_
  refine KC.seq ?_
  refine KC.region ?_
  refine RL.val (O.move rfl) rfl ?_
  refine RL.val (O.gtr rfl rfl) rfl ?_
  refine RL.nil ?_
  refine KQ.then_n ?_
  refine KC.cond rfl (fun hc => ?_) (fun hc => ?_)
  · rw [if_pos hc] at hF
    refine KC.seq ?_
    refine KC.region ?_
    refine RL.val (O.assign rfl) rfl ?_
    refine RL.nil ?_
    refine KQ.then_n ?_
    refine KC.ret ?_
    refine KQ.then_r ?_
    obtain rfl := Option.some.inj hF
    refine KQ.rets Try.results29 (RVs.cons (RV.tm rfl) RVs.nil) ?_
    exact ⟨_, rfl, rfl, hM⟩
  · rw [if_neg (ne_true hc)] at hF
    refine KC.skip ?_
    refine KQ.then_n ?_
    refine KC.seq ?_
    refine KC.region ?_
    refine RL.val (O.move rfl) rfl ?_
    refine RL.val (O.assign rfl) rfl ?_
    refine RL.nil ?_
    refine KQ.then_n ?_
    refine KC.ret ?_
    obtain rfl := Option.some.inj hF
    refine KQ.rets Try.results29 (RVs.cons (RV.tm rfl) RVs.nil) ?_
    exact ⟨_, rfl, rfl, hM⟩
set_option maxRecDepth 100000 in
set_option maxHeartbeats 40000000 in
theorem c_flow_Total_Plus (w : World) (t1 : T_flow_Total) (u2 : T_flow_Total) (r : T_flow_Total) (hF : F_flow_Total_Plus t1 u2 = some r) :
    CallsR Try.prog 10 [.agg #[.int .u64 t1.f_Packets, .int .u64 t1.f_Bytes], .agg #[.int .u64 u2.f_Packets, .int .u64 u2.f_Bytes]] w (fun v w' => v = .agg #[.int .u64 r.f_Packets, .int .u64 r.f_Bytes] ∧ Mem w [] w' []) := by
  refine calls_KC Try.func10 rfl Try.ntmps10 rfl ?_
  have hM := Mem.init w
  unfold F_flow_Total_Plus at hF
  refine KC.seq ?_
  refine KC.region ?_
  refine RL.eff (E.box (vs := [.int .u64 t1.f_Packets, .int .u64 t1.f_Bytes]) hM rfl rfl) rfl fun v w4 hv => ?_
  clear hM
  obtain ⟨g3, rfl, hM, hf⟩ := hv
  refine RL.eff (E.box (vs := [.int .u64 u2.f_Packets, .int .u64 u2.f_Bytes]) hM rfl rfl) rfl fun v w7 hv => ?_
  clear hM
  obtain ⟨g6, rfl, hM, hf⟩ := hv
  refine RL.eff (E.alloc hM ze32) rfl fun v w10 hv => ?_
  clear hM
  obtain ⟨g9, rfl, hM, hf⟩ := hv
  refine RL.nil ?_
  refine KQ.then_n ?_
  refine KC.seq ?_
  replace hM := hM.drewN 1
  refine KC.draw [] [11] [4, 9, 11] [0, 2, 5, 7] (.ofList [0, 1, 2, 3, 5, 6, 7, 8, 4, 9, 10, 11]) moP (by kernel_rfl) ?_
  refine RD.p rfl rfl rfl rfl (fun w' => O.fldA fl32_0 (by decide) rfl) ?_
  refine RD.q rfl rfl rfl rfl (fun w' hf => O.load sc30 rfl (Cs.adds [0] ((hM.bx (i := 0) rfl).fut hf) rfl)) ?_
  refine RD.p rfl rfl rfl rfl (fun w' => O.fldA fl32_0 (by decide) rfl) ?_
  refine RD.q rfl rfl rfl rfl (fun w' hf => O.load sc30 rfl (Cs.adds [0] ((hM.bx (i := 1) rfl).fut hf) rfl)) ?_
  refine RD.p rfl rfl rfl rfl (fun w' => O.fldA fl32_1 (by decide) rfl) ?_
  refine RD.q rfl rfl rfl rfl (fun w' hf => O.load sc30 rfl (Cs.adds [1] ((hM.bx (i := 0) rfl).fut hf) rfl)) ?_
  refine RD.p rfl rfl rfl rfl (fun w' => O.fldA fl32_1 (by decide) rfl) ?_
  refine RD.q rfl rfl rfl rfl (fun w' hf => O.load sc30 rfl (Cs.adds [1] ((hM.bx (i := 1) rfl).fut hf) rfl)) ?_
  refine obindE hF fun y12 hx13 hF => ?_
  refine RD.mcall rfl rfl trivial Try.func29 bd29 rfl rfl (c_flow_plus _ t1.f_Packets u2.f_Packets _ hx13) fun v w14 hv => ?_
  obtain ⟨rfl, hN15⟩ := hv
  refine ⟨fun _ => hN15.fut, ?_⟩
  replace hM := hM.call0 hN15
  refine obindE hF fun y16 hx17 hF => ?_
  refine RD.mcall rfl rfl trivial Try.func29 bd29 rfl rfl (c_flow_plus _ t1.f_Bytes u2.f_Bytes _ hx17) fun v w18 hv => ?_
  obtain ⟨rfl, hN19⟩ := hv
  refine ⟨fun _ => hN19.fut, ?_⟩
  replace hM := hM.call0 hN19
  refine RD.q rfl rfl rfl rfl (fun w' hf => O.bld (cs := [.int .u64 y12, .int .u64 y16]) bt32 rfl (by kernel_rfl)) ?_
  refine RD.meffs rfl rfl rfl (E.stB (j := 2) (off := 0) (vs := [.int .u64 y12, .int .u64 y16]) (cs' := [.int .u64 y12, .int .u64 y16]) hM rfl sz32 rfl (adds_eq [] rfl) rfl rfl (One.all rfl) rfl rfl) fun w20 hM1 => ?_
  clear hM
  have hM := hM1
  clear hM1
  refine RD.nil ?_
  refine KQ.then_n ?_
  refine KC.ret ?_
  obtain rfl := Option.some.inj hF
  have hb21 := hM.bx (i := 2) rfl
  replace hM := hM.pick [] rfl (by decide)
  refine KQ.rets Try.results10 (RVs.cons (RV.cN (cs := [.int .u64 y12, .int .u64 y16]) rfl ag32 hb21) RVs.nil) ?_
  exact ⟨_, rfl, rfl, hM⟩
end Go.Proofs.Yteafnfoponjoeaa
