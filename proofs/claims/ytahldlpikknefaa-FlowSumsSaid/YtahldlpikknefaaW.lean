/- Printed by a program of this claim: each call returns what the plain function of its name gives. -/
import Derived.Test.YtahldlpikknefaaW3
set_option linter.unusedVariables false
namespace Go.Proofs.Ytahldlpikknefaa
open Go Go.Ox Go.RowKit
set_option maxRecDepth 100000 in
set_option maxHeartbeats 40000000 in
theorem c_law22_FlowSums (w : World) (kv1 : T_packet_Key) (A3 : Option Addr) (c4 : Nat) (lengths2 : List Int) (hr5 : Rd w A3 c4 1 lengths2.length (lengths2.flatMap (eI .u16))) (A7 : Option Addr) (c8 : Nat) (ticks6 : List Int) (hr9 : Rd w A7 c8 1 ticks6.length (ticks6.flatMap (eI .u64))) (t10 : T_flow_Total) (u11 : T_flow_Total) (v12 : T_flow_Total) (r : Bool) (hF : F_law22_FlowSums kv1 lengths2 ticks6 t10 u11 v12 = some r) :
    CallsR Try.prog 3 [.agg #[.bool kv1.f_Src.f_Six, .int .u8 (List.getD kv1.f_Src.f_B 0 0), .int .u8 (List.getD kv1.f_Src.f_B 1 0), .int .u8 (List.getD kv1.f_Src.f_B 2 0), .int .u8 (List.getD kv1.f_Src.f_B 3 0), .int .u8 (List.getD kv1.f_Src.f_B 4 0), .int .u8 (List.getD kv1.f_Src.f_B 5 0), .int .u8 (List.getD kv1.f_Src.f_B 6 0), .int .u8 (List.getD kv1.f_Src.f_B 7 0), .int .u8 (List.getD kv1.f_Src.f_B 8 0), .int .u8 (List.getD kv1.f_Src.f_B 9 0), .int .u8 (List.getD kv1.f_Src.f_B 10 0), .int .u8 (List.getD kv1.f_Src.f_B 11 0), .int .u8 (List.getD kv1.f_Src.f_B 12 0), .int .u8 (List.getD kv1.f_Src.f_B 13 0), .int .u8 (List.getD kv1.f_Src.f_B 14 0), .int .u8 (List.getD kv1.f_Src.f_B 15 0), .bool kv1.f_Dst.f_Six, .int .u8 (List.getD kv1.f_Dst.f_B 0 0), .int .u8 (List.getD kv1.f_Dst.f_B 1 0), .int .u8 (List.getD kv1.f_Dst.f_B 2 0), .int .u8 (List.getD kv1.f_Dst.f_B 3 0), .int .u8 (List.getD kv1.f_Dst.f_B 4 0), .int .u8 (List.getD kv1.f_Dst.f_B 5 0), .int .u8 (List.getD kv1.f_Dst.f_B 6 0), .int .u8 (List.getD kv1.f_Dst.f_B 7 0), .int .u8 (List.getD kv1.f_Dst.f_B 8 0), .int .u8 (List.getD kv1.f_Dst.f_B 9 0), .int .u8 (List.getD kv1.f_Dst.f_B 10 0), .int .u8 (List.getD kv1.f_Dst.f_B 11 0), .int .u8 (List.getD kv1.f_Dst.f_B 12 0), .int .u8 (List.getD kv1.f_Dst.f_B 13 0), .int .u8 (List.getD kv1.f_Dst.f_B 14 0), .int .u8 (List.getD kv1.f_Dst.f_B 15 0), .int .u8 kv1.f_Proto, .int .u16 kv1.f_SrcPort, .int .u16 kv1.f_DstPort], .slice A3 (lengths2).length c4, .slice A7 (ticks6).length c8, .agg #[.int .u64 t10.f_Packets, .int .u64 t10.f_Bytes], .agg #[.int .u64 u11.f_Packets, .int .u64 u11.f_Bytes], .agg #[.int .u64 v12.f_Packets, .int .u64 v12.f_Bytes]] w (fun v w' => v = .bool r ∧ Mem w [] w' []) := by
  refine calls_KC Try.func3 rfl Try.ntmps3 rfl ?_
  have hM := Mem.init w
  unfold F_law22_FlowSums at hF
  refine KC.seq ?_
  refine KC.region ?_
  refine RL.eff (E.box (vs := [.bool kv1.f_Src.f_Six, .int .u8 (List.getD kv1.f_Src.f_B 0 0), .int .u8 (List.getD kv1.f_Src.f_B 1 0), .int .u8 (List.getD kv1.f_Src.f_B 2 0), .int .u8 (List.getD kv1.f_Src.f_B 3 0), .int .u8 (List.getD kv1.f_Src.f_B 4 0), .int .u8 (List.getD kv1.f_Src.f_B 5 0), .int .u8 (List.getD kv1.f_Src.f_B 6 0), .int .u8 (List.getD kv1.f_Src.f_B 7 0), .int .u8 (List.getD kv1.f_Src.f_B 8 0), .int .u8 (List.getD kv1.f_Src.f_B 9 0), .int .u8 (List.getD kv1.f_Src.f_B 10 0), .int .u8 (List.getD kv1.f_Src.f_B 11 0), .int .u8 (List.getD kv1.f_Src.f_B 12 0), .int .u8 (List.getD kv1.f_Src.f_B 13 0), .int .u8 (List.getD kv1.f_Src.f_B 14 0), .int .u8 (List.getD kv1.f_Src.f_B 15 0), .bool kv1.f_Dst.f_Six, .int .u8 (List.getD kv1.f_Dst.f_B 0 0), .int .u8 (List.getD kv1.f_Dst.f_B 1 0), .int .u8 (List.getD kv1.f_Dst.f_B 2 0), .int .u8 (List.getD kv1.f_Dst.f_B 3 0), .int .u8 (List.getD kv1.f_Dst.f_B 4 0), .int .u8 (List.getD kv1.f_Dst.f_B 5 0), .int .u8 (List.getD kv1.f_Dst.f_B 6 0), .int .u8 (List.getD kv1.f_Dst.f_B 7 0), .int .u8 (List.getD kv1.f_Dst.f_B 8 0), .int .u8 (List.getD kv1.f_Dst.f_B 9 0), .int .u8 (List.getD kv1.f_Dst.f_B 10 0), .int .u8 (List.getD kv1.f_Dst.f_B 11 0), .int .u8 (List.getD kv1.f_Dst.f_B 12 0), .int .u8 (List.getD kv1.f_Dst.f_B 13 0), .int .u8 (List.getD kv1.f_Dst.f_B 14 0), .int .u8 (List.getD kv1.f_Dst.f_B 15 0), .int .u8 kv1.f_Proto, .int .u16 kv1.f_SrcPort, .int .u16 kv1.f_DstPort]) hM rfl rfl) rfl fun v w14 hv => ?_
  obtain ⟨g13, rfl, hM, hf⟩ := hv
  refine RL.eff (E.box (vs := [.int .u64 t10.f_Packets, .int .u64 t10.f_Bytes]) hM rfl rfl) rfl fun v w17 hv => ?_
  obtain ⟨g16, rfl, hM, hf⟩ := hv
  refine RL.eff (E.box (vs := [.int .u64 u11.f_Packets, .int .u64 u11.f_Bytes]) hM rfl rfl) rfl fun v w20 hv => ?_
  obtain ⟨g19, rfl, hM, hf⟩ := hv
  refine RL.eff (E.box (vs := [.int .u64 v12.f_Packets, .int .u64 v12.f_Bytes]) hM rfl rfl) rfl fun v w23 hv => ?_
  obtain ⟨g22, rfl, hM, hf⟩ := hv
  refine RL.val (O.assign rfl) rfl ?_
  refine RL.nil ?_
  refine KQ.then_n ?_
  refine KC.seq ?_
  refine KC.cut (fun a w30 => ∃ (t29 : Bool), Kn 121 [(1, .slice A3 (lengths2).length c4), (2, .slice A7 (ticks6).length c8), (6, .pointer (some ⟨g13, 0, none⟩)), (9, .pointer (some ⟨g16, 0, none⟩)), (10, .pointer (some ⟨g19, 0, none⟩)), (11, .pointer (some ⟨g22, 0, none⟩)), (24, .bool t29)] a ∧ Mem w [] w30 [.box g13 27 [.bool kv1.f_Src.f_Six, .int .u8 (List.getD kv1.f_Src.f_B 0 0), .int .u8 (List.getD kv1.f_Src.f_B 1 0), .int .u8 (List.getD kv1.f_Src.f_B 2 0), .int .u8 (List.getD kv1.f_Src.f_B 3 0), .int .u8 (List.getD kv1.f_Src.f_B 4 0), .int .u8 (List.getD kv1.f_Src.f_B 5 0), .int .u8 (List.getD kv1.f_Src.f_B 6 0), .int .u8 (List.getD kv1.f_Src.f_B 7 0), .int .u8 (List.getD kv1.f_Src.f_B 8 0), .int .u8 (List.getD kv1.f_Src.f_B 9 0), .int .u8 (List.getD kv1.f_Src.f_B 10 0), .int .u8 (List.getD kv1.f_Src.f_B 11 0), .int .u8 (List.getD kv1.f_Src.f_B 12 0), .int .u8 (List.getD kv1.f_Src.f_B 13 0), .int .u8 (List.getD kv1.f_Src.f_B 14 0), .int .u8 (List.getD kv1.f_Src.f_B 15 0), .bool kv1.f_Dst.f_Six, .int .u8 (List.getD kv1.f_Dst.f_B 0 0), .int .u8 (List.getD kv1.f_Dst.f_B 1 0), .int .u8 (List.getD kv1.f_Dst.f_B 2 0), .int .u8 (List.getD kv1.f_Dst.f_B 3 0), .int .u8 (List.getD kv1.f_Dst.f_B 4 0), .int .u8 (List.getD kv1.f_Dst.f_B 5 0), .int .u8 (List.getD kv1.f_Dst.f_B 6 0), .int .u8 (List.getD kv1.f_Dst.f_B 7 0), .int .u8 (List.getD kv1.f_Dst.f_B 8 0), .int .u8 (List.getD kv1.f_Dst.f_B 9 0), .int .u8 (List.getD kv1.f_Dst.f_B 10 0), .int .u8 (List.getD kv1.f_Dst.f_B 11 0), .int .u8 (List.getD kv1.f_Dst.f_B 12 0), .int .u8 (List.getD kv1.f_Dst.f_B 13 0), .int .u8 (List.getD kv1.f_Dst.f_B 14 0), .int .u8 (List.getD kv1.f_Dst.f_B 15 0), .int .u8 kv1.f_Proto, .int .u16 kv1.f_SrcPort, .int .u16 kv1.f_DstPort], .box g16 32 [.int .u64 t10.f_Packets, .int .u64 t10.f_Bytes], .box g19 32 [.int .u64 u11.f_Packets, .int .u64 u11.f_Bytes], .box g22 32 [.int .u64 v12.f_Packets, .int .u64 v12.f_Bytes]] ∧ F_law22_FlowSums_j1 kv1 lengths2 ticks6 t10 u11 v12 t29 = some r) ?_ ?_
  · refine KC.region ?_
    refine RL.val (O.move rfl) rfl ?_
    refine RL.val (O.len sl28 rfl) rfl ?_
    refine RL.val (O.gtr rfl rfl) rfl ?_
    refine RL.val (O.move rfl) rfl ?_
    refine RL.bcase (t := 20) rfl (fun hc => ?_) (fun hc => ?_)
    · rw [if_pos hc] at hF
      refine RL.gskip rfl rfl rfl rfl ?_
      refine RL.gskip rfl rfl rfl rfl ?_
      refine RL.gskip rfl rfl rfl rfl ?_
      refine RL.val (O.pickt rfl rfl) rfl ?_
      refine RL.nil ?_
      refine KQ.then_k ?_
      exact fun a ha => ⟨true, ha.less (less_cons rfl (less_cons rfl (less_cons rfl (less_cons rfl (less_cons rfl (less_cons rfl (less_cons rfl less_nil))))))), hM, hF⟩
    · rw [if_neg (ne_true hc)] at hF
      refine RL.gval rfl rfl (O.move rfl) rfl ?_
      refine RL.gval rfl rfl (O.len sl29 rfl) rfl ?_
      refine RL.gval rfl rfl (O.gtr rfl rfl) rfl ?_
      refine RL.val (O.pickf rfl rfl) rfl ?_
      refine RL.nil ?_
      refine KQ.then_k ?_
      exact fun a ha => ⟨(decide (50 < (ticks6.length : Int))), ha.less (less_cons rfl (less_cons rfl (less_cons rfl (less_cons rfl (less_cons rfl (less_cons rfl (less_cons rfl less_nil))))))), hM, hF⟩
  · rintro a w30 ⟨t29, ha, hM, hF⟩
    refine KC.app ha ?_
    clear ha
    unfold F_law22_FlowSums_j1 at hF
    refine KC.cond rfl (fun hc => ?_) (fun hc => ?_)
    · rw [if_pos hc] at hF
      refine KC.seq ?_
      refine KC.region ?_
      obtain ⟨y31, hx32, hF⟩ := obind hF
      refine RL.call Try.func6 bd6 rfl rfl (c_law22_works _ _ hx32) fun v w33 hv => ?_
      obtain ⟨rfl, hN34⟩ := hv
      have hM := hM.call0 hN34
      refine RL.val (O.assign rfl) rfl ?_
      refine RL.nil ?_
      refine KQ.then_n ?_
      refine KC.ret ?_
      refine KQ.then_r ?_
      obtain rfl := Option.some.inj hF
      have hM := hM.pick [] rfl (by decide)
      refine KQ.rets Try.results3 (RVs.cons (RV.tm rfl) RVs.nil) ?_
      exact ⟨_, rfl, rfl, hM⟩
    · rw [if_neg (ne_true hc)] at hF
      refine KC.skip ?_
      refine KQ.then_n ?_
      refine KC.seq ?_
      refine KC.region ?_
      refine RL.val (O.loadN (cs := [.bool kv1.f_Src.f_Six, .int .u8 (List.getD kv1.f_Src.f_B 0 0), .int .u8 (List.getD kv1.f_Src.f_B 1 0), .int .u8 (List.getD kv1.f_Src.f_B 2 0), .int .u8 (List.getD kv1.f_Src.f_B 3 0), .int .u8 (List.getD kv1.f_Src.f_B 4 0), .int .u8 (List.getD kv1.f_Src.f_B 5 0), .int .u8 (List.getD kv1.f_Src.f_B 6 0), .int .u8 (List.getD kv1.f_Src.f_B 7 0), .int .u8 (List.getD kv1.f_Src.f_B 8 0), .int .u8 (List.getD kv1.f_Src.f_B 9 0), .int .u8 (List.getD kv1.f_Src.f_B 10 0), .int .u8 (List.getD kv1.f_Src.f_B 11 0), .int .u8 (List.getD kv1.f_Src.f_B 12 0), .int .u8 (List.getD kv1.f_Src.f_B 13 0), .int .u8 (List.getD kv1.f_Src.f_B 14 0), .int .u8 (List.getD kv1.f_Src.f_B 15 0), .bool kv1.f_Dst.f_Six, .int .u8 (List.getD kv1.f_Dst.f_B 0 0), .int .u8 (List.getD kv1.f_Dst.f_B 1 0), .int .u8 (List.getD kv1.f_Dst.f_B 2 0), .int .u8 (List.getD kv1.f_Dst.f_B 3 0), .int .u8 (List.getD kv1.f_Dst.f_B 4 0), .int .u8 (List.getD kv1.f_Dst.f_B 5 0), .int .u8 (List.getD kv1.f_Dst.f_B 6 0), .int .u8 (List.getD kv1.f_Dst.f_B 7 0), .int .u8 (List.getD kv1.f_Dst.f_B 8 0), .int .u8 (List.getD kv1.f_Dst.f_B 9 0), .int .u8 (List.getD kv1.f_Dst.f_B 10 0), .int .u8 (List.getD kv1.f_Dst.f_B 11 0), .int .u8 (List.getD kv1.f_Dst.f_B 12 0), .int .u8 (List.getD kv1.f_Dst.f_B 13 0), .int .u8 (List.getD kv1.f_Dst.f_B 14 0), .int .u8 (List.getD kv1.f_Dst.f_B 15 0), .int .u8 kv1.f_Proto, .int .u16 kv1.f_SrcPort, .int .u16 kv1.f_DstPort]) ag27 rfl (Cs.addsN [] ((hM.bx (i := 0) rfl)) rfl)) rfl ?_
      obtain ⟨y35, hx36, hF⟩ := obind hF
      refine RL.call Try.func7 bd7 rfl rfl (c_flow_Start _ kv1 3 100 _ hx36) fun v w37 hv => ?_
      obtain ⟨rfl, hN38⟩ := hv
      have hM := hM.call0 hN38
      refine RL.eff (E.alloc hM ze35) rfl fun v w40 hv => ?_
      obtain ⟨g39, rfl, hM, hf⟩ := hv
      refine RL.effs (E.stB (j := 4) (off := 0) (vs := [.bool y35.f_Key.f_Src.f_Six, .int .u8 (List.getD y35.f_Key.f_Src.f_B 0 0), .int .u8 (List.getD y35.f_Key.f_Src.f_B 1 0), .int .u8 (List.getD y35.f_Key.f_Src.f_B 2 0), .int .u8 (List.getD y35.f_Key.f_Src.f_B 3 0), .int .u8 (List.getD y35.f_Key.f_Src.f_B 4 0), .int .u8 (List.getD y35.f_Key.f_Src.f_B 5 0), .int .u8 (List.getD y35.f_Key.f_Src.f_B 6 0), .int .u8 (List.getD y35.f_Key.f_Src.f_B 7 0), .int .u8 (List.getD y35.f_Key.f_Src.f_B 8 0), .int .u8 (List.getD y35.f_Key.f_Src.f_B 9 0), .int .u8 (List.getD y35.f_Key.f_Src.f_B 10 0), .int .u8 (List.getD y35.f_Key.f_Src.f_B 11 0), .int .u8 (List.getD y35.f_Key.f_Src.f_B 12 0), .int .u8 (List.getD y35.f_Key.f_Src.f_B 13 0), .int .u8 (List.getD y35.f_Key.f_Src.f_B 14 0), .int .u8 (List.getD y35.f_Key.f_Src.f_B 15 0), .bool y35.f_Key.f_Dst.f_Six, .int .u8 (List.getD y35.f_Key.f_Dst.f_B 0 0), .int .u8 (List.getD y35.f_Key.f_Dst.f_B 1 0), .int .u8 (List.getD y35.f_Key.f_Dst.f_B 2 0), .int .u8 (List.getD y35.f_Key.f_Dst.f_B 3 0), .int .u8 (List.getD y35.f_Key.f_Dst.f_B 4 0), .int .u8 (List.getD y35.f_Key.f_Dst.f_B 5 0), .int .u8 (List.getD y35.f_Key.f_Dst.f_B 6 0), .int .u8 (List.getD y35.f_Key.f_Dst.f_B 7 0), .int .u8 (List.getD y35.f_Key.f_Dst.f_B 8 0), .int .u8 (List.getD y35.f_Key.f_Dst.f_B 9 0), .int .u8 (List.getD y35.f_Key.f_Dst.f_B 10 0), .int .u8 (List.getD y35.f_Key.f_Dst.f_B 11 0), .int .u8 (List.getD y35.f_Key.f_Dst.f_B 12 0), .int .u8 (List.getD y35.f_Key.f_Dst.f_B 13 0), .int .u8 (List.getD y35.f_Key.f_Dst.f_B 14 0), .int .u8 (List.getD y35.f_Key.f_Dst.f_B 15 0), .int .u8 y35.f_Key.f_Proto, .int .u16 y35.f_Key.f_SrcPort, .int .u16 y35.f_Key.f_DstPort, .int .u64 y35.f_Packets, .int .u64 y35.f_Bytes, .int .u64 y35.f_First, .int .u64 y35.f_Last, .int .u8 y35.f_Flags, .int .u8 y35.f_Reason, .int .u8 y35.f_Class]) (cs' := [.bool y35.f_Key.f_Src.f_Six, .int .u8 (List.getD y35.f_Key.f_Src.f_B 0 0), .int .u8 (List.getD y35.f_Key.f_Src.f_B 1 0), .int .u8 (List.getD y35.f_Key.f_Src.f_B 2 0), .int .u8 (List.getD y35.f_Key.f_Src.f_B 3 0), .int .u8 (List.getD y35.f_Key.f_Src.f_B 4 0), .int .u8 (List.getD y35.f_Key.f_Src.f_B 5 0), .int .u8 (List.getD y35.f_Key.f_Src.f_B 6 0), .int .u8 (List.getD y35.f_Key.f_Src.f_B 7 0), .int .u8 (List.getD y35.f_Key.f_Src.f_B 8 0), .int .u8 (List.getD y35.f_Key.f_Src.f_B 9 0), .int .u8 (List.getD y35.f_Key.f_Src.f_B 10 0), .int .u8 (List.getD y35.f_Key.f_Src.f_B 11 0), .int .u8 (List.getD y35.f_Key.f_Src.f_B 12 0), .int .u8 (List.getD y35.f_Key.f_Src.f_B 13 0), .int .u8 (List.getD y35.f_Key.f_Src.f_B 14 0), .int .u8 (List.getD y35.f_Key.f_Src.f_B 15 0), .bool y35.f_Key.f_Dst.f_Six, .int .u8 (List.getD y35.f_Key.f_Dst.f_B 0 0), .int .u8 (List.getD y35.f_Key.f_Dst.f_B 1 0), .int .u8 (List.getD y35.f_Key.f_Dst.f_B 2 0), .int .u8 (List.getD y35.f_Key.f_Dst.f_B 3 0), .int .u8 (List.getD y35.f_Key.f_Dst.f_B 4 0), .int .u8 (List.getD y35.f_Key.f_Dst.f_B 5 0), .int .u8 (List.getD y35.f_Key.f_Dst.f_B 6 0), .int .u8 (List.getD y35.f_Key.f_Dst.f_B 7 0), .int .u8 (List.getD y35.f_Key.f_Dst.f_B 8 0), .int .u8 (List.getD y35.f_Key.f_Dst.f_B 9 0), .int .u8 (List.getD y35.f_Key.f_Dst.f_B 10 0), .int .u8 (List.getD y35.f_Key.f_Dst.f_B 11 0), .int .u8 (List.getD y35.f_Key.f_Dst.f_B 12 0), .int .u8 (List.getD y35.f_Key.f_Dst.f_B 13 0), .int .u8 (List.getD y35.f_Key.f_Dst.f_B 14 0), .int .u8 (List.getD y35.f_Key.f_Dst.f_B 15 0), .int .u8 y35.f_Key.f_Proto, .int .u16 y35.f_Key.f_SrcPort, .int .u16 y35.f_Key.f_DstPort, .int .u64 y35.f_Packets, .int .u64 y35.f_Bytes, .int .u64 y35.f_First, .int .u64 y35.f_Last, .int .u8 y35.f_Flags, .int .u8 y35.f_Reason, .int .u8 y35.f_Class]) hM rfl sz35 rfl (adds_eq [] rfl) rfl rfl (One.all rfl) rfl rfl) fun w42 hM => ?_
      refine RL.nil ?_
      refine KQ.then_n ?_
      refine KC.seq ?_
      refine KC.region ?_
      refine RL.val (O.assign rfl) rfl ?_
      refine RL.nil ?_
      refine KQ.then_n ?_
      refine KC.seq ?_
      refine KC.region ?_
      refine RL.val (O.assign rfl) rfl ?_
      refine RL.nil ?_
      refine KQ.then_n ?_
      refine KC.seq ?_
      refine KC.seq ?_
      refine KC.region ?_
      refine RL.val (O.assign rfl) rfl ?_
      refine RL.nil ?_
      refine KQ.then_n ?_
      refine KC.block ?_
      refine KC.loop (fun k173 a w171 => ∃ (rv154 : Bool) (rv155 : List Int) (rv156 : Bool) (rv157 : List Int) (rv158 : Int) (rv159 : Int) (rv160 : Int) (rv161 : Int) (rv162 : Int) (rv163 : Int) (rv164 : Int) (rv165 : Int) (rv166 : Int) (rv167 : Int) (sum168 : Int) (last169 : Int) (i170 : Int), Kn 121 [(1, .slice A3 (lengths2).length c4), (2, .slice A7 (ticks6).length c8), (6, .pointer (some ⟨g13, 0, none⟩)), (9, .pointer (some ⟨g16, 0, none⟩)), (10, .pointer (some ⟨g19, 0, none⟩)), (11, .pointer (some ⟨g22, 0, none⟩)), (13, .pointer (some ⟨g39, 0, none⟩)), (14, .int .u64 sum168), (15, .int .u64 last169), (16, .int .i64 i170)] a ∧ Mem w [] w171 [.box g13 27 [.bool kv1.f_Src.f_Six, .int .u8 (List.getD kv1.f_Src.f_B 0 0), .int .u8 (List.getD kv1.f_Src.f_B 1 0), .int .u8 (List.getD kv1.f_Src.f_B 2 0), .int .u8 (List.getD kv1.f_Src.f_B 3 0), .int .u8 (List.getD kv1.f_Src.f_B 4 0), .int .u8 (List.getD kv1.f_Src.f_B 5 0), .int .u8 (List.getD kv1.f_Src.f_B 6 0), .int .u8 (List.getD kv1.f_Src.f_B 7 0), .int .u8 (List.getD kv1.f_Src.f_B 8 0), .int .u8 (List.getD kv1.f_Src.f_B 9 0), .int .u8 (List.getD kv1.f_Src.f_B 10 0), .int .u8 (List.getD kv1.f_Src.f_B 11 0), .int .u8 (List.getD kv1.f_Src.f_B 12 0), .int .u8 (List.getD kv1.f_Src.f_B 13 0), .int .u8 (List.getD kv1.f_Src.f_B 14 0), .int .u8 (List.getD kv1.f_Src.f_B 15 0), .bool kv1.f_Dst.f_Six, .int .u8 (List.getD kv1.f_Dst.f_B 0 0), .int .u8 (List.getD kv1.f_Dst.f_B 1 0), .int .u8 (List.getD kv1.f_Dst.f_B 2 0), .int .u8 (List.getD kv1.f_Dst.f_B 3 0), .int .u8 (List.getD kv1.f_Dst.f_B 4 0), .int .u8 (List.getD kv1.f_Dst.f_B 5 0), .int .u8 (List.getD kv1.f_Dst.f_B 6 0), .int .u8 (List.getD kv1.f_Dst.f_B 7 0), .int .u8 (List.getD kv1.f_Dst.f_B 8 0), .int .u8 (List.getD kv1.f_Dst.f_B 9 0), .int .u8 (List.getD kv1.f_Dst.f_B 10 0), .int .u8 (List.getD kv1.f_Dst.f_B 11 0), .int .u8 (List.getD kv1.f_Dst.f_B 12 0), .int .u8 (List.getD kv1.f_Dst.f_B 13 0), .int .u8 (List.getD kv1.f_Dst.f_B 14 0), .int .u8 (List.getD kv1.f_Dst.f_B 15 0), .int .u8 kv1.f_Proto, .int .u16 kv1.f_SrcPort, .int .u16 kv1.f_DstPort], .box g16 32 [.int .u64 t10.f_Packets, .int .u64 t10.f_Bytes], .box g19 32 [.int .u64 u11.f_Packets, .int .u64 u11.f_Bytes], .box g22 32 [.int .u64 v12.f_Packets, .int .u64 v12.f_Bytes], .box g39 35 [.bool rv154, .int .u8 (List.getD rv155 0 0), .int .u8 (List.getD rv155 1 0), .int .u8 (List.getD rv155 2 0), .int .u8 (List.getD rv155 3 0), .int .u8 (List.getD rv155 4 0), .int .u8 (List.getD rv155 5 0), .int .u8 (List.getD rv155 6 0), .int .u8 (List.getD rv155 7 0), .int .u8 (List.getD rv155 8 0), .int .u8 (List.getD rv155 9 0), .int .u8 (List.getD rv155 10 0), .int .u8 (List.getD rv155 11 0), .int .u8 (List.getD rv155 12 0), .int .u8 (List.getD rv155 13 0), .int .u8 (List.getD rv155 14 0), .int .u8 (List.getD rv155 15 0), .bool rv156, .int .u8 (List.getD rv157 0 0), .int .u8 (List.getD rv157 1 0), .int .u8 (List.getD rv157 2 0), .int .u8 (List.getD rv157 3 0), .int .u8 (List.getD rv157 4 0), .int .u8 (List.getD rv157 5 0), .int .u8 (List.getD rv157 6 0), .int .u8 (List.getD rv157 7 0), .int .u8 (List.getD rv157 8 0), .int .u8 (List.getD rv157 9 0), .int .u8 (List.getD rv157 10 0), .int .u8 (List.getD rv157 11 0), .int .u8 (List.getD rv157 12 0), .int .u8 (List.getD rv157 13 0), .int .u8 (List.getD rv157 14 0), .int .u8 (List.getD rv157 15 0), .int .u8 rv158, .int .u16 rv159, .int .u16 rv160, .int .u64 rv161, .int .u64 rv162, .int .u64 rv163, .int .u64 rv164, .int .u8 rv165, .int .u8 rv166, .int .u8 rv167]] ∧ F_law22_FlowSums_L1 kv1 lengths2 ticks6 t10 u11 v12 k173 rv154 rv155 rv156 rv157 rv158 rv159 rv160 rv161 rv162 rv163 rv164 rv165 rv166 rv167 sum168 last169 i170 = some r) ?_ ?_
      · exact fun a ha => ⟨fuel0, y35.f_Key.f_Src.f_Six, y35.f_Key.f_Src.f_B, y35.f_Key.f_Dst.f_Six, y35.f_Key.f_Dst.f_B, y35.f_Key.f_Proto, y35.f_Key.f_SrcPort, y35.f_Key.f_DstPort, y35.f_Packets, y35.f_Bytes, y35.f_First, y35.f_Last, y35.f_Flags, y35.f_Reason, y35.f_Class, 0, 100, 0, ha.less (less_cons rfl (less_cons rfl (less_cons rfl (less_cons rfl (less_cons rfl (less_cons rfl (less_cons rfl (less_cons rfl (less_cons rfl (less_cons rfl less_nil)))))))))), hM, hF⟩
      · rintro k173 a w171 ⟨rv154, rv155, rv156, rv157, rv158, rv159, rv160, rv161, rv162, rv163, rv164, rv165, rv166, rv167, sum168, last169, i170, ha, hM, hF⟩
        refine KC.app ha ?_
        clear ha
        cases k173 with
        | zero => exact (none_some hF).elim
        | succ k173 =>
        have hF : F_law22_FlowSums_l1 (F_law22_FlowSums_L1 kv1 lengths2 ticks6 t10 u11 v12 k173) kv1 lengths2 ticks6 t10 u11 v12 rv154 rv155 rv156 rv157 rv158 rv159 rv160 rv161 rv162 rv163 rv164 rv165 rv166 rv167 sum168 last169 i170 = some r := hF
        unfold F_law22_FlowSums_l1 at hF
        refine KC.seq ?_
        refine KC.cut (fun a w180 => ∃ (t179 : Bool), Kn 121 [(1, .slice A3 (lengths2).length c4), (2, .slice A7 (ticks6).length c8), (6, .pointer (some ⟨g13, 0, none⟩)), (9, .pointer (some ⟨g16, 0, none⟩)), (10, .pointer (some ⟨g19, 0, none⟩)), (11, .pointer (some ⟨g22, 0, none⟩)), (13, .pointer (some ⟨g39, 0, none⟩)), (14, .int .u64 sum168), (15, .int .u64 last169), (16, .int .i64 i170), (37, .bool t179)] a ∧ Mem w [] w180 [.box g13 27 [.bool kv1.f_Src.f_Six, .int .u8 (List.getD kv1.f_Src.f_B 0 0), .int .u8 (List.getD kv1.f_Src.f_B 1 0), .int .u8 (List.getD kv1.f_Src.f_B 2 0), .int .u8 (List.getD kv1.f_Src.f_B 3 0), .int .u8 (List.getD kv1.f_Src.f_B 4 0), .int .u8 (List.getD kv1.f_Src.f_B 5 0), .int .u8 (List.getD kv1.f_Src.f_B 6 0), .int .u8 (List.getD kv1.f_Src.f_B 7 0), .int .u8 (List.getD kv1.f_Src.f_B 8 0), .int .u8 (List.getD kv1.f_Src.f_B 9 0), .int .u8 (List.getD kv1.f_Src.f_B 10 0), .int .u8 (List.getD kv1.f_Src.f_B 11 0), .int .u8 (List.getD kv1.f_Src.f_B 12 0), .int .u8 (List.getD kv1.f_Src.f_B 13 0), .int .u8 (List.getD kv1.f_Src.f_B 14 0), .int .u8 (List.getD kv1.f_Src.f_B 15 0), .bool kv1.f_Dst.f_Six, .int .u8 (List.getD kv1.f_Dst.f_B 0 0), .int .u8 (List.getD kv1.f_Dst.f_B 1 0), .int .u8 (List.getD kv1.f_Dst.f_B 2 0), .int .u8 (List.getD kv1.f_Dst.f_B 3 0), .int .u8 (List.getD kv1.f_Dst.f_B 4 0), .int .u8 (List.getD kv1.f_Dst.f_B 5 0), .int .u8 (List.getD kv1.f_Dst.f_B 6 0), .int .u8 (List.getD kv1.f_Dst.f_B 7 0), .int .u8 (List.getD kv1.f_Dst.f_B 8 0), .int .u8 (List.getD kv1.f_Dst.f_B 9 0), .int .u8 (List.getD kv1.f_Dst.f_B 10 0), .int .u8 (List.getD kv1.f_Dst.f_B 11 0), .int .u8 (List.getD kv1.f_Dst.f_B 12 0), .int .u8 (List.getD kv1.f_Dst.f_B 13 0), .int .u8 (List.getD kv1.f_Dst.f_B 14 0), .int .u8 (List.getD kv1.f_Dst.f_B 15 0), .int .u8 kv1.f_Proto, .int .u16 kv1.f_SrcPort, .int .u16 kv1.f_DstPort], .box g16 32 [.int .u64 t10.f_Packets, .int .u64 t10.f_Bytes], .box g19 32 [.int .u64 u11.f_Packets, .int .u64 u11.f_Bytes], .box g22 32 [.int .u64 v12.f_Packets, .int .u64 v12.f_Bytes], .box g39 35 [.bool rv154, .int .u8 (List.getD rv155 0 0), .int .u8 (List.getD rv155 1 0), .int .u8 (List.getD rv155 2 0), .int .u8 (List.getD rv155 3 0), .int .u8 (List.getD rv155 4 0), .int .u8 (List.getD rv155 5 0), .int .u8 (List.getD rv155 6 0), .int .u8 (List.getD rv155 7 0), .int .u8 (List.getD rv155 8 0), .int .u8 (List.getD rv155 9 0), .int .u8 (List.getD rv155 10 0), .int .u8 (List.getD rv155 11 0), .int .u8 (List.getD rv155 12 0), .int .u8 (List.getD rv155 13 0), .int .u8 (List.getD rv155 14 0), .int .u8 (List.getD rv155 15 0), .bool rv156, .int .u8 (List.getD rv157 0 0), .int .u8 (List.getD rv157 1 0), .int .u8 (List.getD rv157 2 0), .int .u8 (List.getD rv157 3 0), .int .u8 (List.getD rv157 4 0), .int .u8 (List.getD rv157 5 0), .int .u8 (List.getD rv157 6 0), .int .u8 (List.getD rv157 7 0), .int .u8 (List.getD rv157 8 0), .int .u8 (List.getD rv157 9 0), .int .u8 (List.getD rv157 10 0), .int .u8 (List.getD rv157 11 0), .int .u8 (List.getD rv157 12 0), .int .u8 (List.getD rv157 13 0), .int .u8 (List.getD rv157 14 0), .int .u8 (List.getD rv157 15 0), .int .u8 rv158, .int .u16 rv159, .int .u16 rv160, .int .u64 rv161, .int .u64 rv162, .int .u64 rv163, .int .u64 rv164, .int .u8 rv165, .int .u8 rv166, .int .u8 rv167]] ∧ F_law22_FlowSums_j2 kv1 lengths2 ticks6 t10 u11 v12 rv154 rv155 rv156 rv157 rv158 rv159 rv160 rv161 rv162 rv163 rv164 rv165 rv166 rv167 sum168 last169 i170 (F_law22_FlowSums_L1 kv1 lengths2 ticks6 t10 u11 v12 k173) t179 = some r) ?_ ?_
        · refine KC.region ?_
          refine RL.val (O.move rfl) rfl ?_
          refine RL.val (O.move rfl) rfl ?_
          refine RL.val (O.len sl28 rfl) rfl ?_
          refine RL.val (O.lss rfl rfl) rfl ?_
          refine RL.val (O.move rfl) rfl ?_
          refine RL.bcase (t := 32) rfl (fun hc => ?_) (fun hc => ?_)
          · rw [if_pos hc] at hF
            refine RL.gval rfl rfl (O.move rfl) rfl ?_
            refine RL.gval rfl rfl (O.move rfl) rfl ?_
            refine RL.gval rfl rfl (O.len sl29 rfl) rfl ?_
            refine RL.gval rfl rfl (O.lss rfl rfl) rfl ?_
            refine RL.val (O.pickt rfl rfl) rfl ?_
            refine RL.nil ?_
            refine KQ.then_k ?_
            exact fun a ha => ⟨(decide (i170 < (ticks6.length : Int))), ha.less (less_cons rfl (less_cons rfl (less_cons rfl (less_cons rfl (less_cons rfl (less_cons rfl (less_cons rfl (less_cons rfl (less_cons rfl (less_cons rfl (less_cons rfl less_nil))))))))))), hM, hF⟩
          · rw [if_neg (ne_true hc)] at hF
            refine RL.gskip rfl rfl rfl rfl ?_
            refine RL.gskip rfl rfl rfl rfl ?_
            refine RL.gskip rfl rfl rfl rfl ?_
            refine RL.gskip rfl rfl rfl rfl ?_
            refine RL.val (O.pickf rfl rfl) rfl ?_
            refine RL.nil ?_
            refine KQ.then_k ?_
            exact fun a ha => ⟨false, ha.less (less_cons rfl (less_cons rfl (less_cons rfl (less_cons rfl (less_cons rfl (less_cons rfl (less_cons rfl (less_cons rfl (less_cons rfl (less_cons rfl (less_cons rfl less_nil))))))))))), hM, hF⟩
        · rintro a w180 ⟨t179, ha, hM, hF⟩
          refine KC.app ha ?_
          clear ha
          unfold F_law22_FlowSums_j2 at hF
          refine KC.cond rfl (fun hc => ?_) (fun hc => ?_)
          · rw [if_pos hc] at hF
            refine KC.skip ?_
            refine KQ.then_n ?_
            refine KC.seq ?_
            refine KC.block ?_
            refine KC.seq ?_
            have hM := hM.drewN 1
            refine KC.draw [15] [14, 15] (.ofList [0, 1, 2, 3, 4, 5, 6, 7, 8, 9, 10, 11, 12, 13, 14, 15]) moP (by kernel_rfl) ?_
            refine RD.q rfl rfl rfl (fun w' hf => O.loadN (cs := [.bool rv154, .int .u8 (List.getD rv155 0 0), .int .u8 (List.getD rv155 1 0), .int .u8 (List.getD rv155 2 0), .int .u8 (List.getD rv155 3 0), .int .u8 (List.getD rv155 4 0), .int .u8 (List.getD rv155 5 0), .int .u8 (List.getD rv155 6 0), .int .u8 (List.getD rv155 7 0), .int .u8 (List.getD rv155 8 0), .int .u8 (List.getD rv155 9 0), .int .u8 (List.getD rv155 10 0), .int .u8 (List.getD rv155 11 0), .int .u8 (List.getD rv155 12 0), .int .u8 (List.getD rv155 13 0), .int .u8 (List.getD rv155 14 0), .int .u8 (List.getD rv155 15 0), .bool rv156, .int .u8 (List.getD rv157 0 0), .int .u8 (List.getD rv157 1 0), .int .u8 (List.getD rv157 2 0), .int .u8 (List.getD rv157 3 0), .int .u8 (List.getD rv157 4 0), .int .u8 (List.getD rv157 5 0), .int .u8 (List.getD rv157 6 0), .int .u8 (List.getD rv157 7 0), .int .u8 (List.getD rv157 8 0), .int .u8 (List.getD rv157 9 0), .int .u8 (List.getD rv157 10 0), .int .u8 (List.getD rv157 11 0), .int .u8 (List.getD rv157 12 0), .int .u8 (List.getD rv157 13 0), .int .u8 (List.getD rv157 14 0), .int .u8 (List.getD rv157 15 0), .int .u8 rv158, .int .u16 rv159, .int .u16 rv160, .int .u64 rv161, .int .u64 rv162, .int .u64 rv163, .int .u64 rv164, .int .u8 rv165, .int .u8 rv166, .int .u8 rv167]) ag35 rfl (Cs.addsN [] ((hM.bx (i := 4) rfl).fut hf) rfl)) ?_
            refine RD.q rfl rfl rfl (fun w' hf => O.move rfl) ?_
            refine RD.q rfl rfl rfl (fun w' hf => O.move rfl) ?_
            obtain ⟨xv183, hx182, hF⟩ := obind hF
            have hA181 := Rd.atN (f := (eI .u16)) (s := 1) (fun _ => rfl) (by decide) (hM.inp hr5 Off.nil) hx182
            refine RD.q rfl rfl rfl (fun w' hf => O.idxA sl28 (hA181.fut hf) rfl rfl) ?_
            refine RD.q rfl rfl rfl (fun w' hf => O.load sc25 rfl (hA181.fut hf).cells.at0) ?_
            refine RD.q rfl rfl rfl (fun w' hf => O.conv un25 Try.underlying3 rfl) ?_
            refine RD.q rfl rfl rfl (fun w' hf => O.move rfl) ?_
            refine RD.q rfl rfl rfl (fun w' hf => O.rem rfl rfl (by decide)) ?_
            obtain ⟨hq184, hF⟩ := cut_some hF
            refine RD.q rfl rfl rfl (fun w' hf => O.shl rfl rfl (of_decide_eq_true hq184)) ?_
            refine RD.q rfl rfl rfl (fun w' hf => O.bld (cs := [.bool false, .int .u8 (List.getD (List.replicate 16 0) 0 0), .int .u8 (List.getD (List.replicate 16 0) 1 0), .int .u8 (List.getD (List.replicate 16 0) 2 0), .int .u8 (List.getD (List.replicate 16 0) 3 0), .int .u8 (List.getD (List.replicate 16 0) 4 0), .int .u8 (List.getD (List.replicate 16 0) 5 0), .int .u8 (List.getD (List.replicate 16 0) 6 0), .int .u8 (List.getD (List.replicate 16 0) 7 0), .int .u8 (List.getD (List.replicate 16 0) 8 0), .int .u8 (List.getD (List.replicate 16 0) 9 0), .int .u8 (List.getD (List.replicate 16 0) 10 0), .int .u8 (List.getD (List.replicate 16 0) 11 0), .int .u8 (List.getD (List.replicate 16 0) 12 0), .int .u8 (List.getD (List.replicate 16 0) 13 0), .int .u8 (List.getD (List.replicate 16 0) 14 0), .int .u8 (List.getD (List.replicate 16 0) 15 0), .bool false, .int .u8 (List.getD (List.replicate 16 0) 0 0), .int .u8 (List.getD (List.replicate 16 0) 1 0), .int .u8 (List.getD (List.replicate 16 0) 2 0), .int .u8 (List.getD (List.replicate 16 0) 3 0), .int .u8 (List.getD (List.replicate 16 0) 4 0), .int .u8 (List.getD (List.replicate 16 0) 5 0), .int .u8 (List.getD (List.replicate 16 0) 6 0), .int .u8 (List.getD (List.replicate 16 0) 7 0), .int .u8 (List.getD (List.replicate 16 0) 8 0), .int .u8 (List.getD (List.replicate 16 0) 9 0), .int .u8 (List.getD (List.replicate 16 0) 10 0), .int .u8 (List.getD (List.replicate 16 0) 11 0), .int .u8 (List.getD (List.replicate 16 0) 12 0), .int .u8 (List.getD (List.replicate 16 0) 13 0), .int .u8 (List.getD (List.replicate 16 0) 14 0), .int .u8 (List.getD (List.replicate 16 0) 15 0), .int .u8 0, .int .u16 0, .int .u16 0, .int .i64 (IntKind.i64.wrap xv183), .int .u8 (Ox.shl .u8 1 (Int.tmod i170 8)), .bool false]) bt39 rfl rfl) ?_
            refine RD.q rfl rfl rfl (fun w' hf => O.move rfl) ?_
            refine RD.q rfl rfl rfl (fun w' hf => O.move rfl) ?_
            obtain ⟨xv187, hx186, hF⟩ := obind hF
            have hA185 := Rd.atN (f := (eI .u64)) (s := 1) (fun _ => rfl) (by decide) (hM.inp hr9 Off.nil) hx186
            refine RD.q rfl rfl rfl (fun w' hf => O.idxA sl29 (hA185.fut hf) rfl rfl) ?_
            refine RD.q rfl rfl rfl (fun w' hf => O.load sc30 rfl (hA185.fut hf).cells.at0) ?_
            obtain ⟨y188, hx189, hF⟩ := obind hF
            refine RD.mcall rfl rfl trivial Try.func8 bd8 rfl rfl (c_flow_Record_With _ (T_flow_Record.mk (T_packet_Key.mk (T_addr_Addr.mk rv154 rv155) (T_addr_Addr.mk rv156 rv157) rv158 rv159 rv160) rv161 rv162 rv163 rv164 rv165 rv166 rv167) (T_packet_Packet.mk (T_packet_Key.mk (T_addr_Addr.mk false (List.replicate 16 0)) (T_addr_Addr.mk false (List.replicate 16 0)) 0 0 0) (IntKind.i64.wrap xv183) (Ox.shl .u8 1 (Int.tmod i170 8)) false) xv187 _ hx189) fun v w190 hv => ?_
            obtain ⟨rfl, hN191⟩ := hv
            refine ⟨fun _ => hN191.fut, ?_⟩
            have hM := hM.call0 hN191
            refine RD.meffs rfl rfl rfl (E.stB (j := 4) (off := 0) (vs := [.bool y188.f_Key.f_Src.f_Six, .int .u8 (List.getD y188.f_Key.f_Src.f_B 0 0), .int .u8 (List.getD y188.f_Key.f_Src.f_B 1 0), .int .u8 (List.getD y188.f_Key.f_Src.f_B 2 0), .int .u8 (List.getD y188.f_Key.f_Src.f_B 3 0), .int .u8 (List.getD y188.f_Key.f_Src.f_B 4 0), .int .u8 (List.getD y188.f_Key.f_Src.f_B 5 0), .int .u8 (List.getD y188.f_Key.f_Src.f_B 6 0), .int .u8 (List.getD y188.f_Key.f_Src.f_B 7 0), .int .u8 (List.getD y188.f_Key.f_Src.f_B 8 0), .int .u8 (List.getD y188.f_Key.f_Src.f_B 9 0), .int .u8 (List.getD y188.f_Key.f_Src.f_B 10 0), .int .u8 (List.getD y188.f_Key.f_Src.f_B 11 0), .int .u8 (List.getD y188.f_Key.f_Src.f_B 12 0), .int .u8 (List.getD y188.f_Key.f_Src.f_B 13 0), .int .u8 (List.getD y188.f_Key.f_Src.f_B 14 0), .int .u8 (List.getD y188.f_Key.f_Src.f_B 15 0), .bool y188.f_Key.f_Dst.f_Six, .int .u8 (List.getD y188.f_Key.f_Dst.f_B 0 0), .int .u8 (List.getD y188.f_Key.f_Dst.f_B 1 0), .int .u8 (List.getD y188.f_Key.f_Dst.f_B 2 0), .int .u8 (List.getD y188.f_Key.f_Dst.f_B 3 0), .int .u8 (List.getD y188.f_Key.f_Dst.f_B 4 0), .int .u8 (List.getD y188.f_Key.f_Dst.f_B 5 0), .int .u8 (List.getD y188.f_Key.f_Dst.f_B 6 0), .int .u8 (List.getD y188.f_Key.f_Dst.f_B 7 0), .int .u8 (List.getD y188.f_Key.f_Dst.f_B 8 0), .int .u8 (List.getD y188.f_Key.f_Dst.f_B 9 0), .int .u8 (List.getD y188.f_Key.f_Dst.f_B 10 0), .int .u8 (List.getD y188.f_Key.f_Dst.f_B 11 0), .int .u8 (List.getD y188.f_Key.f_Dst.f_B 12 0), .int .u8 (List.getD y188.f_Key.f_Dst.f_B 13 0), .int .u8 (List.getD y188.f_Key.f_Dst.f_B 14 0), .int .u8 (List.getD y188.f_Key.f_Dst.f_B 15 0), .int .u8 y188.f_Key.f_Proto, .int .u16 y188.f_Key.f_SrcPort, .int .u16 y188.f_Key.f_DstPort, .int .u64 y188.f_Packets, .int .u64 y188.f_Bytes, .int .u64 y188.f_First, .int .u64 y188.f_Last, .int .u8 y188.f_Flags, .int .u8 y188.f_Reason, .int .u8 y188.f_Class]) (cs' := [.bool y188.f_Key.f_Src.f_Six, .int .u8 (List.getD y188.f_Key.f_Src.f_B 0 0), .int .u8 (List.getD y188.f_Key.f_Src.f_B 1 0), .int .u8 (List.getD y188.f_Key.f_Src.f_B 2 0), .int .u8 (List.getD y188.f_Key.f_Src.f_B 3 0), .int .u8 (List.getD y188.f_Key.f_Src.f_B 4 0), .int .u8 (List.getD y188.f_Key.f_Src.f_B 5 0), .int .u8 (List.getD y188.f_Key.f_Src.f_B 6 0), .int .u8 (List.getD y188.f_Key.f_Src.f_B 7 0), .int .u8 (List.getD y188.f_Key.f_Src.f_B 8 0), .int .u8 (List.getD y188.f_Key.f_Src.f_B 9 0), .int .u8 (List.getD y188.f_Key.f_Src.f_B 10 0), .int .u8 (List.getD y188.f_Key.f_Src.f_B 11 0), .int .u8 (List.getD y188.f_Key.f_Src.f_B 12 0), .int .u8 (List.getD y188.f_Key.f_Src.f_B 13 0), .int .u8 (List.getD y188.f_Key.f_Src.f_B 14 0), .int .u8 (List.getD y188.f_Key.f_Src.f_B 15 0), .bool y188.f_Key.f_Dst.f_Six, .int .u8 (List.getD y188.f_Key.f_Dst.f_B 0 0), .int .u8 (List.getD y188.f_Key.f_Dst.f_B 1 0), .int .u8 (List.getD y188.f_Key.f_Dst.f_B 2 0), .int .u8 (List.getD y188.f_Key.f_Dst.f_B 3 0), .int .u8 (List.getD y188.f_Key.f_Dst.f_B 4 0), .int .u8 (List.getD y188.f_Key.f_Dst.f_B 5 0), .int .u8 (List.getD y188.f_Key.f_Dst.f_B 6 0), .int .u8 (List.getD y188.f_Key.f_Dst.f_B 7 0), .int .u8 (List.getD y188.f_Key.f_Dst.f_B 8 0), .int .u8 (List.getD y188.f_Key.f_Dst.f_B 9 0), .int .u8 (List.getD y188.f_Key.f_Dst.f_B 10 0), .int .u8 (List.getD y188.f_Key.f_Dst.f_B 11 0), .int .u8 (List.getD y188.f_Key.f_Dst.f_B 12 0), .int .u8 (List.getD y188.f_Key.f_Dst.f_B 13 0), .int .u8 (List.getD y188.f_Key.f_Dst.f_B 14 0), .int .u8 (List.getD y188.f_Key.f_Dst.f_B 15 0), .int .u8 y188.f_Key.f_Proto, .int .u16 y188.f_Key.f_SrcPort, .int .u16 y188.f_Key.f_DstPort, .int .u64 y188.f_Packets, .int .u64 y188.f_Bytes, .int .u64 y188.f_First, .int .u64 y188.f_Last, .int .u8 y188.f_Flags, .int .u8 y188.f_Reason, .int .u8 y188.f_Class]) hM rfl sz35 rfl (adds_eq [] rfl) rfl rfl (One.all rfl) rfl rfl) fun w192 hM => ?_
            refine RD.nil ?_
            refine KQ.then_n ?_
            refine KC.seq ?_
            refine KC.region ?_
            refine RL.val (O.move rfl) rfl ?_
            refine RL.val (O.move rfl) rfl ?_
            refine RL.val (O.move rfl) rfl ?_
            obtain ⟨xv195, hx194, hF⟩ := obind hF
            have hA193 := Rd.atN (f := (eI .u16)) (s := 1) (fun _ => rfl) (by decide) (hM.inp hr5 Off.nil) hx194
            refine RL.val (O.idxA sl28 (hA193) rfl rfl) rfl ?_
            refine RL.val (O.load sc25 rfl (hA193).cells.at0) rfl ?_
            refine RL.val (O.conv un25 Try.underlying30 rfl) rfl ?_
            refine RL.val (O.add rfl rfl) rfl ?_
            refine RL.val (O.assign rfl) rfl ?_
            refine RL.nil ?_
            refine KQ.then_n ?_
            refine KC.seq ?_
            refine KC.region ?_
            refine RL.val (O.move rfl) rfl ?_
            refine RL.val (O.move rfl) rfl ?_
            refine RL.val (O.move rfl) rfl ?_
            obtain ⟨xv198, hx197, hF⟩ := obind hF
            have hA196 := Rd.atN (f := (eI .u64)) (s := 1) (fun _ => rfl) (by decide) (hM.inp hr9 Off.nil) hx197
            refine RL.val (O.idxA sl29 (hA196) rfl rfl) rfl ?_
            refine RL.val (O.load sc30 rfl (hA196).cells.at0) rfl ?_
            refine RL.val (O.max2 rfl rfl) rfl ?_
            refine RL.val (O.assign rfl) rfl ?_
            refine RL.nil ?_
            refine KQ.then_n ?_
            refine KC.cut (fun a w210 => ∃ (t209 : Bool), Kn 121 [(1, .slice A3 (lengths2).length c4), (2, .slice A7 (ticks6).length c8), (6, .pointer (some ⟨g13, 0, none⟩)), (9, .pointer (some ⟨g16, 0, none⟩)), (10, .pointer (some ⟨g19, 0, none⟩)), (11, .pointer (some ⟨g22, 0, none⟩)), (13, .pointer (some ⟨g39, 0, none⟩)), (14, .int .u64 (IntKind.u64.wrap (sum168 + (IntKind.u64.wrap xv195)))), (15, .int .u64 (gmax last169 xv198)), (16, .int .i64 i170), (95, .bool t209)] a ∧ Mem w [] w210 [.box g13 27 [.bool kv1.f_Src.f_Six, .int .u8 (List.getD kv1.f_Src.f_B 0 0), .int .u8 (List.getD kv1.f_Src.f_B 1 0), .int .u8 (List.getD kv1.f_Src.f_B 2 0), .int .u8 (List.getD kv1.f_Src.f_B 3 0), .int .u8 (List.getD kv1.f_Src.f_B 4 0), .int .u8 (List.getD kv1.f_Src.f_B 5 0), .int .u8 (List.getD kv1.f_Src.f_B 6 0), .int .u8 (List.getD kv1.f_Src.f_B 7 0), .int .u8 (List.getD kv1.f_Src.f_B 8 0), .int .u8 (List.getD kv1.f_Src.f_B 9 0), .int .u8 (List.getD kv1.f_Src.f_B 10 0), .int .u8 (List.getD kv1.f_Src.f_B 11 0), .int .u8 (List.getD kv1.f_Src.f_B 12 0), .int .u8 (List.getD kv1.f_Src.f_B 13 0), .int .u8 (List.getD kv1.f_Src.f_B 14 0), .int .u8 (List.getD kv1.f_Src.f_B 15 0), .bool kv1.f_Dst.f_Six, .int .u8 (List.getD kv1.f_Dst.f_B 0 0), .int .u8 (List.getD kv1.f_Dst.f_B 1 0), .int .u8 (List.getD kv1.f_Dst.f_B 2 0), .int .u8 (List.getD kv1.f_Dst.f_B 3 0), .int .u8 (List.getD kv1.f_Dst.f_B 4 0), .int .u8 (List.getD kv1.f_Dst.f_B 5 0), .int .u8 (List.getD kv1.f_Dst.f_B 6 0), .int .u8 (List.getD kv1.f_Dst.f_B 7 0), .int .u8 (List.getD kv1.f_Dst.f_B 8 0), .int .u8 (List.getD kv1.f_Dst.f_B 9 0), .int .u8 (List.getD kv1.f_Dst.f_B 10 0), .int .u8 (List.getD kv1.f_Dst.f_B 11 0), .int .u8 (List.getD kv1.f_Dst.f_B 12 0), .int .u8 (List.getD kv1.f_Dst.f_B 13 0), .int .u8 (List.getD kv1.f_Dst.f_B 14 0), .int .u8 (List.getD kv1.f_Dst.f_B 15 0), .int .u8 kv1.f_Proto, .int .u16 kv1.f_SrcPort, .int .u16 kv1.f_DstPort], .box g16 32 [.int .u64 t10.f_Packets, .int .u64 t10.f_Bytes], .box g19 32 [.int .u64 u11.f_Packets, .int .u64 u11.f_Bytes], .box g22 32 [.int .u64 v12.f_Packets, .int .u64 v12.f_Bytes], .box g39 35 [.bool y188.f_Key.f_Src.f_Six, .int .u8 (List.getD y188.f_Key.f_Src.f_B 0 0), .int .u8 (List.getD y188.f_Key.f_Src.f_B 1 0), .int .u8 (List.getD y188.f_Key.f_Src.f_B 2 0), .int .u8 (List.getD y188.f_Key.f_Src.f_B 3 0), .int .u8 (List.getD y188.f_Key.f_Src.f_B 4 0), .int .u8 (List.getD y188.f_Key.f_Src.f_B 5 0), .int .u8 (List.getD y188.f_Key.f_Src.f_B 6 0), .int .u8 (List.getD y188.f_Key.f_Src.f_B 7 0), .int .u8 (List.getD y188.f_Key.f_Src.f_B 8 0), .int .u8 (List.getD y188.f_Key.f_Src.f_B 9 0), .int .u8 (List.getD y188.f_Key.f_Src.f_B 10 0), .int .u8 (List.getD y188.f_Key.f_Src.f_B 11 0), .int .u8 (List.getD y188.f_Key.f_Src.f_B 12 0), .int .u8 (List.getD y188.f_Key.f_Src.f_B 13 0), .int .u8 (List.getD y188.f_Key.f_Src.f_B 14 0), .int .u8 (List.getD y188.f_Key.f_Src.f_B 15 0), .bool y188.f_Key.f_Dst.f_Six, .int .u8 (List.getD y188.f_Key.f_Dst.f_B 0 0), .int .u8 (List.getD y188.f_Key.f_Dst.f_B 1 0), .int .u8 (List.getD y188.f_Key.f_Dst.f_B 2 0), .int .u8 (List.getD y188.f_Key.f_Dst.f_B 3 0), .int .u8 (List.getD y188.f_Key.f_Dst.f_B 4 0), .int .u8 (List.getD y188.f_Key.f_Dst.f_B 5 0), .int .u8 (List.getD y188.f_Key.f_Dst.f_B 6 0), .int .u8 (List.getD y188.f_Key.f_Dst.f_B 7 0), .int .u8 (List.getD y188.f_Key.f_Dst.f_B 8 0), .int .u8 (List.getD y188.f_Key.f_Dst.f_B 9 0), .int .u8 (List.getD y188.f_Key.f_Dst.f_B 10 0), .int .u8 (List.getD y188.f_Key.f_Dst.f_B 11 0), .int .u8 (List.getD y188.f_Key.f_Dst.f_B 12 0), .int .u8 (List.getD y188.f_Key.f_Dst.f_B 13 0), .int .u8 (List.getD y188.f_Key.f_Dst.f_B 14 0), .int .u8 (List.getD y188.f_Key.f_Dst.f_B 15 0), .int .u8 y188.f_Key.f_Proto, .int .u16 y188.f_Key.f_SrcPort, .int .u16 y188.f_Key.f_DstPort, .int .u64 y188.f_Packets, .int .u64 y188.f_Bytes, .int .u64 y188.f_First, .int .u64 y188.f_Last, .int .u8 y188.f_Flags, .int .u8 y188.f_Reason, .int .u8 y188.f_Class]] ∧ F_law22_FlowSums_j3 sum168 last169 i170 (F_law22_FlowSums_L1 kv1 lengths2 ticks6 t10 u11 v12 k173) y188 xv195 xv198 t209 = some r) ?_ ?_
            · have hM := hM.drewN 1
              refine KC.draw [] [1] (.ofList [0, 2, 3, 4, 5, 6, 1, 7, 8, 9, 10, 11, 12, 13, 14, 15, 16, 17, 18, 19, 20, 21, 22, 23, 24, 25, 26, 27]) moP (by kernel_rfl) ?_
              refine RD.q rfl rfl rfl (fun w' hf => O.loadN (cs := [.bool y188.f_Key.f_Src.f_Six, .int .u8 (List.getD y188.f_Key.f_Src.f_B 0 0), .int .u8 (List.getD y188.f_Key.f_Src.f_B 1 0), .int .u8 (List.getD y188.f_Key.f_Src.f_B 2 0), .int .u8 (List.getD y188.f_Key.f_Src.f_B 3 0), .int .u8 (List.getD y188.f_Key.f_Src.f_B 4 0), .int .u8 (List.getD y188.f_Key.f_Src.f_B 5 0), .int .u8 (List.getD y188.f_Key.f_Src.f_B 6 0), .int .u8 (List.getD y188.f_Key.f_Src.f_B 7 0), .int .u8 (List.getD y188.f_Key.f_Src.f_B 8 0), .int .u8 (List.getD y188.f_Key.f_Src.f_B 9 0), .int .u8 (List.getD y188.f_Key.f_Src.f_B 10 0), .int .u8 (List.getD y188.f_Key.f_Src.f_B 11 0), .int .u8 (List.getD y188.f_Key.f_Src.f_B 12 0), .int .u8 (List.getD y188.f_Key.f_Src.f_B 13 0), .int .u8 (List.getD y188.f_Key.f_Src.f_B 14 0), .int .u8 (List.getD y188.f_Key.f_Src.f_B 15 0), .bool y188.f_Key.f_Dst.f_Six, .int .u8 (List.getD y188.f_Key.f_Dst.f_B 0 0), .int .u8 (List.getD y188.f_Key.f_Dst.f_B 1 0), .int .u8 (List.getD y188.f_Key.f_Dst.f_B 2 0), .int .u8 (List.getD y188.f_Key.f_Dst.f_B 3 0), .int .u8 (List.getD y188.f_Key.f_Dst.f_B 4 0), .int .u8 (List.getD y188.f_Key.f_Dst.f_B 5 0), .int .u8 (List.getD y188.f_Key.f_Dst.f_B 6 0), .int .u8 (List.getD y188.f_Key.f_Dst.f_B 7 0), .int .u8 (List.getD y188.f_Key.f_Dst.f_B 8 0), .int .u8 (List.getD y188.f_Key.f_Dst.f_B 9 0), .int .u8 (List.getD y188.f_Key.f_Dst.f_B 10 0), .int .u8 (List.getD y188.f_Key.f_Dst.f_B 11 0), .int .u8 (List.getD y188.f_Key.f_Dst.f_B 12 0), .int .u8 (List.getD y188.f_Key.f_Dst.f_B 13 0), .int .u8 (List.getD y188.f_Key.f_Dst.f_B 14 0), .int .u8 (List.getD y188.f_Key.f_Dst.f_B 15 0), .int .u8 y188.f_Key.f_Proto, .int .u16 y188.f_Key.f_SrcPort, .int .u16 y188.f_Key.f_DstPort, .int .u64 y188.f_Packets, .int .u64 y188.f_Bytes, .int .u64 y188.f_First, .int .u64 y188.f_Last, .int .u8 y188.f_Flags, .int .u8 y188.f_Reason, .int .u8 y188.f_Class]) ag35 rfl (Cs.addsN [] ((hM.bx (i := 4) rfl).fut hf) rfl)) ?_
              refine RD.q rfl rfl rfl (fun w' hf => O.move rfl) ?_
              refine RD.q rfl rfl rfl (fun w' hf => O.add rfl rfl) ?_
              refine RD.q rfl rfl rfl (fun w' hf => O.conv un3 Try.underlying30 rfl) ?_
              refine RD.q rfl rfl rfl (fun w' hf => O.move rfl) ?_
              refine RD.q rfl rfl rfl (fun w' hf => O.bld (cs := [.int .u64 (IntKind.u64.wrap (IntKind.i64.wrap (i170 + 1))), .int .u64 (IntKind.u64.wrap (sum168 + (IntKind.u64.wrap xv195)))]) bt32 rfl rfl) ?_
              obtain ⟨y211, hx212, hF⟩ := obind hF
              refine RD.mcall rfl rfl trivial Try.func9 bd9 rfl rfl (c_flow_Record_Total _ y188 _ hx212) fun v w213 hv => ?_
              obtain ⟨rfl, hN214⟩ := hv
              refine ⟨fun _ => hN214.fut, ?_⟩
              have hM := hM.call0 hN214
              refine RD.q rfl rfl rfl (fun w' hf => O.stne (cs := [.int .u64 y211.f_Packets, .int .u64 y211.f_Bytes]) (cs' := [.int .u64 (IntKind.u64.wrap (IntKind.i64.wrap (i170 + 1))), .int .u64 (IntKind.u64.wrap (sum168 + (IntKind.u64.wrap xv195)))]) (by kernel_rfl) rfl rfl (Q32t y211 (T_flow_Total.mk (IntKind.u64.wrap (IntKind.i64.wrap (i170 + 1))) (IntKind.u64.wrap (sum168 + (IntKind.u64.wrap xv195)))) _ rfl rfl)) ?_
              refine RD.q rfl rfl rfl (fun w' hf => O.move rfl) ?_
              refine RD.bcase (t := 76) rfl (fun hc => ?_) (fun hc => ?_)
              · rw [if_pos hc] at hF
                refine RD.gskip rfl rfl rfl rfl rfl ?_
                refine RD.gskip rfl rfl rfl rfl rfl ?_
                refine RD.gskip rfl rfl rfl rfl rfl ?_
                refine RD.gskip rfl rfl rfl rfl rfl ?_
                refine RD.q rfl rfl rfl (fun w' hf => O.pickt rfl rfl) ?_
                refine RD.q rfl rfl rfl (fun w' hf => O.move rfl) ?_
                refine RD.gskip rfl rfl rfl rfl rfl ?_
                refine RD.gskip rfl rfl rfl rfl rfl ?_
                refine RD.gskip rfl rfl rfl rfl rfl ?_
                refine RD.q rfl rfl rfl (fun w' hf => O.pickt rfl rfl) ?_
                refine RD.q rfl rfl rfl (fun w' hf => O.move rfl) ?_
                refine RD.gskip rfl rfl rfl rfl rfl ?_
                refine RD.gskip rfl rfl rfl rfl rfl ?_
                refine RD.gskip rfl rfl rfl rfl rfl ?_
                refine RD.gskip rfl rfl rfl rfl rfl ?_
                refine RD.gskip rfl rfl rfl rfl rfl ?_
                refine RD.gskip rfl rfl rfl rfl rfl ?_
                refine RD.gskip rfl rfl rfl rfl rfl ?_
                refine RD.q rfl rfl rfl (fun w' hf => O.pickt rfl rfl) ?_
                refine RD.nil ?_
                refine KQ.then_k ?_
                exact fun a ha => ⟨true, ha.less (less_cons rfl (less_cons rfl (less_cons rfl (less_cons rfl (less_cons rfl (less_cons rfl (less_cons rfl (less_cons rfl (less_cons rfl (less_cons rfl (less_cons rfl less_nil))))))))))), hM, hF⟩
              · rw [if_neg (ne_true hc)] at hF
                refine RD.gq rfl rfl rfl rfl rfl (fun w' hf => O.fldA fl35_4 (by decide) rfl) ?_
                refine RD.gq rfl rfl rfl rfl rfl (fun w' hf => O.load sc30 rfl (Cs.adds [40] ((hM.bx (i := 4) rfl).fut hf) rfl)) ?_
                refine RD.gq rfl rfl rfl rfl rfl (fun w' hf => O.move rfl) ?_
                refine RD.gq rfl rfl rfl rfl rfl (fun w' hf => O.neq rfl rfl) ?_
                refine RD.q rfl rfl rfl (fun w' hf => O.pickf rfl rfl) ?_
                refine RD.q rfl rfl rfl (fun w' hf => O.move rfl) ?_
                refine RD.bcase (t := 82) rfl (fun hc => ?_) (fun hc => ?_)
                · rw [if_pos hc] at hF
                  refine RD.gskip rfl rfl rfl rfl rfl ?_
                  refine RD.gskip rfl rfl rfl rfl rfl ?_
                  refine RD.gskip rfl rfl rfl rfl rfl ?_
                  refine RD.q rfl rfl rfl (fun w' hf => O.pickt rfl rfl) ?_
                  refine RD.q rfl rfl rfl (fun w' hf => O.move rfl) ?_
                  refine RD.gskip rfl rfl rfl rfl rfl ?_
                  refine RD.gskip rfl rfl rfl rfl rfl ?_
                  refine RD.gskip rfl rfl rfl rfl rfl ?_
                  refine RD.gskip rfl rfl rfl rfl rfl ?_
                  refine RD.gskip rfl rfl rfl rfl rfl ?_
                  refine RD.gskip rfl rfl rfl rfl rfl ?_
                  refine RD.gskip rfl rfl rfl rfl rfl ?_
                  refine RD.q rfl rfl rfl (fun w' hf => O.pickt rfl rfl) ?_
                  refine RD.nil ?_
                  refine KQ.then_k ?_
                  exact fun a ha => ⟨true, ha.less (less_cons rfl (less_cons rfl (less_cons rfl (less_cons rfl (less_cons rfl (less_cons rfl (less_cons rfl (less_cons rfl (less_cons rfl (less_cons rfl (less_cons rfl less_nil))))))))))), hM, hF⟩
                · rw [if_neg (ne_true hc)] at hF
                  refine RD.gq rfl rfl rfl rfl rfl (fun w' hf => O.fldA fl35_3 (by decide) rfl) ?_
                  refine RD.gq rfl rfl rfl rfl rfl (fun w' hf => O.load sc30 rfl (Cs.adds [39] ((hM.bx (i := 4) rfl).fut hf) rfl)) ?_
                  refine RD.gq rfl rfl rfl rfl rfl (fun w' hf => O.neq rfl rfl) ?_
                  refine RD.q rfl rfl rfl (fun w' hf => O.pickf rfl rfl) ?_
                  refine RD.q rfl rfl rfl (fun w' hf => O.move rfl) ?_
                  refine RD.bcase (t := 87) rfl (fun hc => ?_) (fun hc => ?_)
                  · rw [if_pos hc] at hF
                    refine RD.gskip rfl rfl rfl rfl rfl ?_
                    refine RD.gskip rfl rfl rfl rfl rfl ?_
                    refine RD.gskip rfl rfl rfl rfl rfl ?_
                    refine RD.gskip rfl rfl rfl rfl rfl ?_
                    refine RD.gskip rfl rfl rfl rfl rfl ?_
                    refine RD.gskip rfl rfl rfl rfl rfl ?_
                    refine RD.gskip rfl rfl rfl rfl rfl ?_
                    refine RD.q rfl rfl rfl (fun w' hf => O.pickt rfl rfl) ?_
                    refine RD.nil ?_
                    refine KQ.then_k ?_
                    exact fun a ha => ⟨true, ha.less (less_cons rfl (less_cons rfl (less_cons rfl (less_cons rfl (less_cons rfl (less_cons rfl (less_cons rfl (less_cons rfl (less_cons rfl (less_cons rfl (less_cons rfl less_nil))))))))))), hM, hF⟩
                  · rw [if_neg (ne_true hc)] at hF
                    refine RD.gq rfl rfl rfl rfl rfl (fun w' hf => O.fldA fl35_5 (by decide) rfl) ?_
                    refine RD.gq rfl rfl rfl rfl rfl (fun w' hf => O.load sc5 rfl (Cs.adds [41] ((hM.bx (i := 4) rfl).fut hf) rfl)) ?_
                    refine RD.gq rfl rfl rfl rfl rfl (fun w' hf => O.move rfl) ?_
                    refine RD.gq rfl rfl rfl rfl rfl (fun w' hf => O.rem rfl rfl (by decide)) ?_
                    obtain ⟨hq215, hF⟩ := cut_some hF
                    refine RD.gq rfl rfl rfl rfl rfl (fun w' hf => O.shl rfl rfl (of_decide_eq_true hq215)) ?_
                    refine RD.gq rfl rfl rfl rfl rfl (fun w' hf => O.and rfl rfl) ?_
                    refine RD.gq rfl rfl rfl rfl rfl (fun w' hf => O.eql rfl rfl) ?_
                    refine RD.q rfl rfl rfl (fun w' hf => O.pickf rfl rfl) ?_
                    refine RD.nil ?_
                    refine KQ.then_k ?_
                    exact fun a ha => ⟨((bits .and .u8 y188.f_Flags (Ox.shl .u8 1 (Int.tmod i170 8))) == 0), ha.less (less_cons rfl (less_cons rfl (less_cons rfl (less_cons rfl (less_cons rfl (less_cons rfl (less_cons rfl (less_cons rfl (less_cons rfl (less_cons rfl (less_cons rfl less_nil))))))))))), hM, hF⟩
            · rintro a w210 ⟨t209, ha, hM, hF⟩
              refine KC.app ha ?_
              clear ha
              unfold F_law22_FlowSums_j3 at hF
              refine KC.cond rfl (fun hc => ?_) (fun hc => ?_)
              · rw [if_pos hc] at hF
                refine KC.seq ?_
                refine KC.region ?_
                refine RL.val (O.assign rfl) rfl ?_
                refine RL.nil ?_
                refine KQ.then_n ?_
                refine KC.ret ?_
                refine KQ.blk_r ?_
                refine KQ.then_r ?_
                refine KQ.then_r ?_
                refine KQ.blk_r ?_
                refine KQ.then_r ?_
                obtain rfl := Option.some.inj hF
                have hM := hM.pick [] rfl (by decide)
                refine KQ.rets Try.results3 (RVs.cons (RV.tm rfl) RVs.nil) ?_
                exact ⟨_, rfl, rfl, hM⟩
              · rw [if_neg (ne_true hc)] at hF
                refine KC.skip ?_
                refine KQ.blk_n ?_
                refine KQ.then_n ?_
                refine KC.region ?_
                refine RL.val (O.move rfl) rfl ?_
                refine RL.val (O.add rfl rfl) rfl ?_
                refine RL.val (O.assign rfl) rfl ?_
                refine RL.nil ?_
                refine KQ.then_k ?_
                exact fun a ha => ⟨k173, Nat.lt_succ_self k173, y188.f_Key.f_Src.f_Six, y188.f_Key.f_Src.f_B, y188.f_Key.f_Dst.f_Six, y188.f_Key.f_Dst.f_B, y188.f_Key.f_Proto, y188.f_Key.f_SrcPort, y188.f_Key.f_DstPort, y188.f_Packets, y188.f_Bytes, y188.f_First, y188.f_Last, y188.f_Flags, y188.f_Reason, y188.f_Class, (IntKind.u64.wrap (sum168 + (IntKind.u64.wrap xv195))), (gmax last169 xv198), (IntKind.i64.wrap (i170 + 1)), ha.less (less_cons rfl (less_cons rfl (less_cons rfl (less_cons rfl (less_cons rfl (less_cons rfl (less_cons rfl (less_cons rfl (less_cons rfl (less_cons rfl less_nil)))))))))), hM, hF⟩
          · rw [if_neg (ne_true hc)] at hF
            refine KC.exit ?_
            refine KQ.then_x ?_
            refine KQ.then_x ?_
            refine KQ.blk_x ?_
            refine KQ.then_n ?_
            refine KC.cut (fun a w237 => ∃ (t236 : Bool), Kn 121 [(12, .bool t236)] a ∧ Mem w [] w237 [] ∧ F_law22_FlowSums_j4 t236 = some r) ?_ ?_
            · have hM := hM.drewN 1
              refine KC.draw [] [12, 14, 18, 19, 23] (.ofList [0, 1, 2, 3, 4, 5, 6, 7, 8, 9, 10, 11, 13, 15, 16, 17, 12, 14, 18, 19, 20, 21, 22, 23, 24, 25]) moP (by kernel_rfl) ?_
              refine RD.q rfl rfl rfl (fun w' hf => O.fldA fl35_0 (by decide) rfl) ?_
              refine RD.q rfl rfl rfl (fun w' hf => O.loadN (cs := [.bool rv154, .int .u8 (List.getD rv155 0 0), .int .u8 (List.getD rv155 1 0), .int .u8 (List.getD rv155 2 0), .int .u8 (List.getD rv155 3 0), .int .u8 (List.getD rv155 4 0), .int .u8 (List.getD rv155 5 0), .int .u8 (List.getD rv155 6 0), .int .u8 (List.getD rv155 7 0), .int .u8 (List.getD rv155 8 0), .int .u8 (List.getD rv155 9 0), .int .u8 (List.getD rv155 10 0), .int .u8 (List.getD rv155 11 0), .int .u8 (List.getD rv155 12 0), .int .u8 (List.getD rv155 13 0), .int .u8 (List.getD rv155 14 0), .int .u8 (List.getD rv155 15 0), .bool rv156, .int .u8 (List.getD rv157 0 0), .int .u8 (List.getD rv157 1 0), .int .u8 (List.getD rv157 2 0), .int .u8 (List.getD rv157 3 0), .int .u8 (List.getD rv157 4 0), .int .u8 (List.getD rv157 5 0), .int .u8 (List.getD rv157 6 0), .int .u8 (List.getD rv157 7 0), .int .u8 (List.getD rv157 8 0), .int .u8 (List.getD rv157 9 0), .int .u8 (List.getD rv157 10 0), .int .u8 (List.getD rv157 11 0), .int .u8 (List.getD rv157 12 0), .int .u8 (List.getD rv157 13 0), .int .u8 (List.getD rv157 14 0), .int .u8 (List.getD rv157 15 0), .int .u8 rv158, .int .u16 rv159, .int .u16 rv160]) ag27 rfl (Cs.addsN [0] ((hM.bx (i := 4) rfl).fut hf) rfl)) ?_
              refine RD.q rfl rfl rfl (fun w' hf => O.loadN (cs := [.bool kv1.f_Src.f_Six, .int .u8 (List.getD kv1.f_Src.f_B 0 0), .int .u8 (List.getD kv1.f_Src.f_B 1 0), .int .u8 (List.getD kv1.f_Src.f_B 2 0), .int .u8 (List.getD kv1.f_Src.f_B 3 0), .int .u8 (List.getD kv1.f_Src.f_B 4 0), .int .u8 (List.getD kv1.f_Src.f_B 5 0), .int .u8 (List.getD kv1.f_Src.f_B 6 0), .int .u8 (List.getD kv1.f_Src.f_B 7 0), .int .u8 (List.getD kv1.f_Src.f_B 8 0), .int .u8 (List.getD kv1.f_Src.f_B 9 0), .int .u8 (List.getD kv1.f_Src.f_B 10 0), .int .u8 (List.getD kv1.f_Src.f_B 11 0), .int .u8 (List.getD kv1.f_Src.f_B 12 0), .int .u8 (List.getD kv1.f_Src.f_B 13 0), .int .u8 (List.getD kv1.f_Src.f_B 14 0), .int .u8 (List.getD kv1.f_Src.f_B 15 0), .bool kv1.f_Dst.f_Six, .int .u8 (List.getD kv1.f_Dst.f_B 0 0), .int .u8 (List.getD kv1.f_Dst.f_B 1 0), .int .u8 (List.getD kv1.f_Dst.f_B 2 0), .int .u8 (List.getD kv1.f_Dst.f_B 3 0), .int .u8 (List.getD kv1.f_Dst.f_B 4 0), .int .u8 (List.getD kv1.f_Dst.f_B 5 0), .int .u8 (List.getD kv1.f_Dst.f_B 6 0), .int .u8 (List.getD kv1.f_Dst.f_B 7 0), .int .u8 (List.getD kv1.f_Dst.f_B 8 0), .int .u8 (List.getD kv1.f_Dst.f_B 9 0), .int .u8 (List.getD kv1.f_Dst.f_B 10 0), .int .u8 (List.getD kv1.f_Dst.f_B 11 0), .int .u8 (List.getD kv1.f_Dst.f_B 12 0), .int .u8 (List.getD kv1.f_Dst.f_B 13 0), .int .u8 (List.getD kv1.f_Dst.f_B 14 0), .int .u8 (List.getD kv1.f_Dst.f_B 15 0), .int .u8 kv1.f_Proto, .int .u16 kv1.f_SrcPort, .int .u16 kv1.f_DstPort]) ag27 rfl (Cs.addsN [] ((hM.bx (i := 0) rfl).fut hf) rfl)) ?_
              refine RD.q rfl rfl rfl (fun w' hf => O.steq (cs := [.bool rv154, .int .u8 (List.getD rv155 0 0), .int .u8 (List.getD rv155 1 0), .int .u8 (List.getD rv155 2 0), .int .u8 (List.getD rv155 3 0), .int .u8 (List.getD rv155 4 0), .int .u8 (List.getD rv155 5 0), .int .u8 (List.getD rv155 6 0), .int .u8 (List.getD rv155 7 0), .int .u8 (List.getD rv155 8 0), .int .u8 (List.getD rv155 9 0), .int .u8 (List.getD rv155 10 0), .int .u8 (List.getD rv155 11 0), .int .u8 (List.getD rv155 12 0), .int .u8 (List.getD rv155 13 0), .int .u8 (List.getD rv155 14 0), .int .u8 (List.getD rv155 15 0), .bool rv156, .int .u8 (List.getD rv157 0 0), .int .u8 (List.getD rv157 1 0), .int .u8 (List.getD rv157 2 0), .int .u8 (List.getD rv157 3 0), .int .u8 (List.getD rv157 4 0), .int .u8 (List.getD rv157 5 0), .int .u8 (List.getD rv157 6 0), .int .u8 (List.getD rv157 7 0), .int .u8 (List.getD rv157 8 0), .int .u8 (List.getD rv157 9 0), .int .u8 (List.getD rv157 10 0), .int .u8 (List.getD rv157 11 0), .int .u8 (List.getD rv157 12 0), .int .u8 (List.getD rv157 13 0), .int .u8 (List.getD rv157 14 0), .int .u8 (List.getD rv157 15 0), .int .u8 rv158, .int .u16 rv159, .int .u16 rv160]) (cs' := [.bool kv1.f_Src.f_Six, .int .u8 (List.getD kv1.f_Src.f_B 0 0), .int .u8 (List.getD kv1.f_Src.f_B 1 0), .int .u8 (List.getD kv1.f_Src.f_B 2 0), .int .u8 (List.getD kv1.f_Src.f_B 3 0), .int .u8 (List.getD kv1.f_Src.f_B 4 0), .int .u8 (List.getD kv1.f_Src.f_B 5 0), .int .u8 (List.getD kv1.f_Src.f_B 6 0), .int .u8 (List.getD kv1.f_Src.f_B 7 0), .int .u8 (List.getD kv1.f_Src.f_B 8 0), .int .u8 (List.getD kv1.f_Src.f_B 9 0), .int .u8 (List.getD kv1.f_Src.f_B 10 0), .int .u8 (List.getD kv1.f_Src.f_B 11 0), .int .u8 (List.getD kv1.f_Src.f_B 12 0), .int .u8 (List.getD kv1.f_Src.f_B 13 0), .int .u8 (List.getD kv1.f_Src.f_B 14 0), .int .u8 (List.getD kv1.f_Src.f_B 15 0), .bool kv1.f_Dst.f_Six, .int .u8 (List.getD kv1.f_Dst.f_B 0 0), .int .u8 (List.getD kv1.f_Dst.f_B 1 0), .int .u8 (List.getD kv1.f_Dst.f_B 2 0), .int .u8 (List.getD kv1.f_Dst.f_B 3 0), .int .u8 (List.getD kv1.f_Dst.f_B 4 0), .int .u8 (List.getD kv1.f_Dst.f_B 5 0), .int .u8 (List.getD kv1.f_Dst.f_B 6 0), .int .u8 (List.getD kv1.f_Dst.f_B 7 0), .int .u8 (List.getD kv1.f_Dst.f_B 8 0), .int .u8 (List.getD kv1.f_Dst.f_B 9 0), .int .u8 (List.getD kv1.f_Dst.f_B 10 0), .int .u8 (List.getD kv1.f_Dst.f_B 11 0), .int .u8 (List.getD kv1.f_Dst.f_B 12 0), .int .u8 (List.getD kv1.f_Dst.f_B 13 0), .int .u8 (List.getD kv1.f_Dst.f_B 14 0), .int .u8 (List.getD kv1.f_Dst.f_B 15 0), .int .u8 kv1.f_Proto, .int .u16 kv1.f_SrcPort, .int .u16 kv1.f_DstPort]) (by kernel_rfl) rfl rfl (Q27t (T_packet_Key.mk (T_addr_Addr.mk rv154 rv155) (T_addr_Addr.mk rv156 rv157) rv158 rv159 rv160) kv1 _ rfl rfl)) ?_
              refine RD.q rfl rfl rfl (fun w' hf => O.move rfl) ?_
              refine RD.bcase (t := 100) rfl (fun hc => ?_) (fun hc => ?_)
              · rw [if_pos hc] at hF
                refine RD.gq rfl rfl rfl rfl rfl (fun w' hf => O.fldA fl35_7 (by decide) rfl) ?_
                refine RD.gq rfl rfl rfl rfl rfl (fun w' hf => O.load sc5 rfl (Cs.adds [43] ((hM.bx (i := 4) rfl).fut hf) rfl)) ?_
                refine RD.gq rfl rfl rfl rfl rfl (fun w' hf => O.eql rfl rfl) ?_
                refine RD.q rfl rfl rfl (fun w' hf => O.pickt rfl rfl) ?_
                refine RD.q rfl rfl rfl (fun w' hf => O.move rfl) ?_
                refine RD.bcase (t := 105) rfl (fun hc => ?_) (fun hc => ?_)
                · rw [if_pos hc] at hF
                  refine RD.gq rfl rfl rfl rfl rfl (fun w' hf => O.loadN (cs := [.int .u64 t10.f_Packets, .int .u64 t10.f_Bytes]) ag32 rfl (Cs.addsN [] ((hM.bx (i := 1) rfl).fut hf) rfl)) ?_
                  refine RD.gq rfl rfl rfl rfl rfl (fun w' hf => O.loadN (cs := [.int .u64 u11.f_Packets, .int .u64 u11.f_Bytes]) ag32 rfl (Cs.addsN [] ((hM.bx (i := 2) rfl).fut hf) rfl)) ?_
                  refine RD.gq rfl rfl rfl rfl rfl (fun w' hf => O.loadN (cs := [.int .u64 v12.f_Packets, .int .u64 v12.f_Bytes]) ag32 rfl (Cs.addsN [] ((hM.bx (i := 3) rfl).fut hf) rfl)) ?_
                  refine RD.gq rfl rfl rfl rfl rfl (fun w' hf => O.loadN (cs := [.int .u64 t10.f_Packets, .int .u64 t10.f_Bytes]) ag32 rfl (Cs.addsN [] ((hM.bx (i := 1) rfl).fut hf) rfl)) ?_
                  refine RD.gq rfl rfl rfl rfl rfl (fun w' hf => O.loadN (cs := [.int .u64 u11.f_Packets, .int .u64 u11.f_Bytes]) ag32 rfl (Cs.addsN [] ((hM.bx (i := 2) rfl).fut hf) rfl)) ?_
                  refine RD.gq rfl rfl rfl rfl rfl (fun w' hf => O.loadN (cs := [.int .u64 v12.f_Packets, .int .u64 v12.f_Bytes]) ag32 rfl (Cs.addsN [] ((hM.bx (i := 3) rfl).fut hf) rfl)) ?_
                  obtain ⟨y238, hx239, hF⟩ := obind hF
                  refine RD.mcall rfl rfl ⟨rfl, rfl⟩ Try.func10 bd10 rfl rfl (c_flow_Total_Plus _ t10 u11 _ hx239) fun v w240 hv => ?_
                  obtain ⟨rfl, hN241⟩ := hv
                  refine ⟨fun _ => hN241.fut, ?_⟩
                  have hM := hM.call0 hN241
                  obtain ⟨y242, hx243, hF⟩ := obind hF
                  refine RD.mcall rfl rfl ⟨rfl, rfl⟩ Try.func10 bd10 rfl rfl (c_flow_Total_Plus _ y238 v12 _ hx243) fun v w244 hv => ?_
                  obtain ⟨rfl, hN245⟩ := hv
                  refine ⟨fun _ => hN245.fut, ?_⟩
                  have hM := hM.call0 hN245
                  obtain ⟨y246, hx247, hF⟩ := obind hF
                  refine RD.mcall rfl rfl ⟨rfl, rfl⟩ Try.func10 bd10 rfl rfl (c_flow_Total_Plus _ u11 v12 _ hx247) fun v w248 hv => ?_
                  obtain ⟨rfl, hN249⟩ := hv
                  refine ⟨fun _ => hN249.fut, ?_⟩
                  have hM := hM.call0 hN249
                  obtain ⟨y250, hx251, hF⟩ := obind hF
                  refine RD.mcall rfl rfl ⟨rfl, rfl⟩ Try.func10 bd10 rfl rfl (c_flow_Total_Plus _ t10 y246 _ hx251) fun v w252 hv => ?_
                  obtain ⟨rfl, hN253⟩ := hv
                  refine ⟨fun _ => hN253.fut, ?_⟩
                  have hM := hM.call0 hN253
                  refine RD.gq rfl rfl rfl rfl rfl (fun w' hf => O.steq (cs := [.int .u64 y242.f_Packets, .int .u64 y242.f_Bytes]) (cs' := [.int .u64 y250.f_Packets, .int .u64 y250.f_Bytes]) (by kernel_rfl) rfl rfl (Q32t y242 y250 _ rfl rfl)) ?_
                  refine RD.q rfl rfl rfl (fun w' hf => O.pickt rfl rfl) ?_
                  refine RD.q rfl rfl rfl (fun w' hf => O.move rfl) ?_
                  refine RD.bcase (t := 118) rfl (fun hc => ?_) (fun hc => ?_)
                  · rw [if_pos hc] at hF
                    obtain ⟨y254, hx255, hF⟩ := obind hF
                    refine RD.mcall rfl rfl ⟨rfl, rfl⟩ Try.func6 bd6 rfl rfl (c_law22_works _ _ hx255) fun v w256 hv => ?_
                    obtain ⟨rfl, hN257⟩ := hv
                    refine ⟨fun _ => hN257.fut, ?_⟩
                    have hM := hM.call0 hN257
                    refine RD.q rfl rfl rfl (fun w' hf => O.pickt rfl rfl) ?_
                    refine RD.q rfl rfl rfl (fun w' hf => O.assign rfl) ?_
                    refine RD.nil ?_
                    refine KQ.then_k ?_
                    have hM := hM.pick [] rfl (by decide)
                    exact fun a ha => ⟨y254, ha.less (less_cons rfl less_nil), hM, hF⟩
                  · rw [if_neg (ne_true hc)] at hF
                    refine RD.gskip rfl rfl rfl rfl rfl ?_
                    refine RD.q rfl rfl rfl (fun w' hf => O.pickf rfl rfl) ?_
                    refine RD.q rfl rfl rfl (fun w' hf => O.assign rfl) ?_
                    refine RD.nil ?_
                    refine KQ.then_k ?_
                    have hM := hM.pick [] rfl (by decide)
                    exact fun a ha => ⟨false, ha.less (less_cons rfl less_nil), hM, hF⟩
                · rw [if_neg (ne_true hc)] at hF
                  refine RD.gskip rfl rfl rfl rfl rfl ?_
                  refine RD.gskip rfl rfl rfl rfl rfl ?_
                  refine RD.gskip rfl rfl rfl rfl rfl ?_
                  refine RD.gskip rfl rfl rfl rfl rfl ?_
                  refine RD.gskip rfl rfl rfl rfl rfl ?_
                  refine RD.gskip rfl rfl rfl rfl rfl ?_
                  refine RD.gskip rfl rfl rfl rfl rfl ?_
                  refine RD.gskip rfl rfl rfl rfl rfl ?_
                  refine RD.gskip rfl rfl rfl rfl rfl ?_
                  refine RD.gskip rfl rfl rfl rfl rfl ?_
                  refine RD.gskip rfl rfl rfl rfl rfl ?_
                  refine RD.q rfl rfl rfl (fun w' hf => O.pickf rfl rfl) ?_
                  refine RD.q rfl rfl rfl (fun w' hf => O.move rfl) ?_
                  refine RD.gskip rfl rfl rfl rfl rfl ?_
                  refine RD.q rfl rfl rfl (fun w' hf => O.pickf rfl rfl) ?_
                  refine RD.q rfl rfl rfl (fun w' hf => O.assign rfl) ?_
                  refine RD.nil ?_
                  refine KQ.then_k ?_
                  have hM := hM.pick [] rfl (by decide)
                  exact fun a ha => ⟨false, ha.less (less_cons rfl less_nil), hM, hF⟩
              · rw [if_neg (ne_true hc)] at hF
                refine RD.gskip rfl rfl rfl rfl rfl ?_
                refine RD.gskip rfl rfl rfl rfl rfl ?_
                refine RD.gskip rfl rfl rfl rfl rfl ?_
                refine RD.q rfl rfl rfl (fun w' hf => O.pickf rfl rfl) ?_
                refine RD.q rfl rfl rfl (fun w' hf => O.move rfl) ?_
                refine RD.gskip rfl rfl rfl rfl rfl ?_
                refine RD.gskip rfl rfl rfl rfl rfl ?_
                refine RD.gskip rfl rfl rfl rfl rfl ?_
                refine RD.gskip rfl rfl rfl rfl rfl ?_
                refine RD.gskip rfl rfl rfl rfl rfl ?_
                refine RD.gskip rfl rfl rfl rfl rfl ?_
                refine RD.gskip rfl rfl rfl rfl rfl ?_
                refine RD.gskip rfl rfl rfl rfl rfl ?_
                refine RD.gskip rfl rfl rfl rfl rfl ?_
                refine RD.gskip rfl rfl rfl rfl rfl ?_
                refine RD.gskip rfl rfl rfl rfl rfl ?_
                refine RD.q rfl rfl rfl (fun w' hf => O.pickf rfl rfl) ?_
                refine RD.q rfl rfl rfl (fun w' hf => O.move rfl) ?_
                refine RD.gskip rfl rfl rfl rfl rfl ?_
                refine RD.q rfl rfl rfl (fun w' hf => O.pickf rfl rfl) ?_
                refine RD.q rfl rfl rfl (fun w' hf => O.assign rfl) ?_
                refine RD.nil ?_
                refine KQ.then_k ?_
                have hM := hM.pick [] rfl (by decide)
                exact fun a ha => ⟨false, ha.less (less_cons rfl less_nil), hM, hF⟩
            · rintro a w237 ⟨t236, ha, hM, hF⟩
              refine KC.app ha ?_
              clear ha
              unfold F_law22_FlowSums_j4 at hF
              refine KC.ret ?_
              obtain rfl := Option.some.inj hF
              refine KQ.rets Try.results3 (RVs.cons (RV.tm rfl) RVs.nil) ?_
              exact ⟨_, rfl, rfl, hM⟩
end Go.Proofs.Ytahldlpikknefaa
