/- Printed by a program of this claim: each call returns what the plain function of its name gives. -/
import Derived.Test.YteafnfoponjoeaaVW3
set_option linter.unusedVariables false
namespace Go.Proofs.Yteafnfoponjoeaa
open Go Go.Ox Go.RowKit
set_option maxRecDepth 100000 in
set_option maxHeartbeats 40000000 in
theorem c_packet_Key_Right (w : World) (kv1 : T_packet_Key) (r : Bool) (hF : F_packet_Key_Right kv1 = some r) :
    CallsR Try.prog 30 [.agg #[.bool kv1.f_Src.f_Six, .int .u8 (List.getD kv1.f_Src.f_B 0 0), .int .u8 (List.getD kv1.f_Src.f_B 1 0), .int .u8 (List.getD kv1.f_Src.f_B 2 0), .int .u8 (List.getD kv1.f_Src.f_B 3 0), .int .u8 (List.getD kv1.f_Src.f_B 4 0), .int .u8 (List.getD kv1.f_Src.f_B 5 0), .int .u8 (List.getD kv1.f_Src.f_B 6 0), .int .u8 (List.getD kv1.f_Src.f_B 7 0), .int .u8 (List.getD kv1.f_Src.f_B 8 0), .int .u8 (List.getD kv1.f_Src.f_B 9 0), .int .u8 (List.getD kv1.f_Src.f_B 10 0), .int .u8 (List.getD kv1.f_Src.f_B 11 0), .int .u8 (List.getD kv1.f_Src.f_B 12 0), .int .u8 (List.getD kv1.f_Src.f_B 13 0), .int .u8 (List.getD kv1.f_Src.f_B 14 0), .int .u8 (List.getD kv1.f_Src.f_B 15 0), .bool kv1.f_Dst.f_Six, .int .u8 (List.getD kv1.f_Dst.f_B 0 0), .int .u8 (List.getD kv1.f_Dst.f_B 1 0), .int .u8 (List.getD kv1.f_Dst.f_B 2 0), .int .u8 (List.getD kv1.f_Dst.f_B 3 0), .int .u8 (List.getD kv1.f_Dst.f_B 4 0), .int .u8 (List.getD kv1.f_Dst.f_B 5 0), .int .u8 (List.getD kv1.f_Dst.f_B 6 0), .int .u8 (List.getD kv1.f_Dst.f_B 7 0), .int .u8 (List.getD kv1.f_Dst.f_B 8 0), .int .u8 (List.getD kv1.f_Dst.f_B 9 0), .int .u8 (List.getD kv1.f_Dst.f_B 10 0), .int .u8 (List.getD kv1.f_Dst.f_B 11 0), .int .u8 (List.getD kv1.f_Dst.f_B 12 0), .int .u8 (List.getD kv1.f_Dst.f_B 13 0), .int .u8 (List.getD kv1.f_Dst.f_B 14 0), .int .u8 (List.getD kv1.f_Dst.f_B 15 0), .int .u8 kv1.f_Proto, .int .u16 kv1.f_SrcPort, .int .u16 kv1.f_DstPort]] w (fun v w' => v = .bool r ∧ Mem w [] w' []) := by
  refine calls_KC Try.func30 rfl Try.ntmps30 rfl ?_
  have hM := Mem.init w
  unfold F_packet_Key_Right at hF
  refine KC.seq ?_
  refine KC.region ?_
  refine RL.eff (E.box (vs := [.bool kv1.f_Src.f_Six, .int .u8 (List.getD kv1.f_Src.f_B 0 0), .int .u8 (List.getD kv1.f_Src.f_B 1 0), .int .u8 (List.getD kv1.f_Src.f_B 2 0), .int .u8 (List.getD kv1.f_Src.f_B 3 0), .int .u8 (List.getD kv1.f_Src.f_B 4 0), .int .u8 (List.getD kv1.f_Src.f_B 5 0), .int .u8 (List.getD kv1.f_Src.f_B 6 0), .int .u8 (List.getD kv1.f_Src.f_B 7 0), .int .u8 (List.getD kv1.f_Src.f_B 8 0), .int .u8 (List.getD kv1.f_Src.f_B 9 0), .int .u8 (List.getD kv1.f_Src.f_B 10 0), .int .u8 (List.getD kv1.f_Src.f_B 11 0), .int .u8 (List.getD kv1.f_Src.f_B 12 0), .int .u8 (List.getD kv1.f_Src.f_B 13 0), .int .u8 (List.getD kv1.f_Src.f_B 14 0), .int .u8 (List.getD kv1.f_Src.f_B 15 0), .bool kv1.f_Dst.f_Six, .int .u8 (List.getD kv1.f_Dst.f_B 0 0), .int .u8 (List.getD kv1.f_Dst.f_B 1 0), .int .u8 (List.getD kv1.f_Dst.f_B 2 0), .int .u8 (List.getD kv1.f_Dst.f_B 3 0), .int .u8 (List.getD kv1.f_Dst.f_B 4 0), .int .u8 (List.getD kv1.f_Dst.f_B 5 0), .int .u8 (List.getD kv1.f_Dst.f_B 6 0), .int .u8 (List.getD kv1.f_Dst.f_B 7 0), .int .u8 (List.getD kv1.f_Dst.f_B 8 0), .int .u8 (List.getD kv1.f_Dst.f_B 9 0), .int .u8 (List.getD kv1.f_Dst.f_B 10 0), .int .u8 (List.getD kv1.f_Dst.f_B 11 0), .int .u8 (List.getD kv1.f_Dst.f_B 12 0), .int .u8 (List.getD kv1.f_Dst.f_B 13 0), .int .u8 (List.getD kv1.f_Dst.f_B 14 0), .int .u8 (List.getD kv1.f_Dst.f_B 15 0), .int .u8 kv1.f_Proto, .int .u16 kv1.f_SrcPort, .int .u16 kv1.f_DstPort]) hM rfl rfl) rfl fun v w3 hv => ?_
  clear hM
  obtain ⟨g2, rfl, hM, hf⟩ := hv
  refine RL.val (O.assign rfl) rfl ?_
  refine RL.nil ?_
  refine KQ.then_n ?_
  refine KC.seq ?_
  refine KC.region ?_
  refine RL.val (O.loadN (cs := [.bool kv1.f_Src.f_Six, .int .u8 (List.getD kv1.f_Src.f_B 0 0), .int .u8 (List.getD kv1.f_Src.f_B 1 0), .int .u8 (List.getD kv1.f_Src.f_B 2 0), .int .u8 (List.getD kv1.f_Src.f_B 3 0), .int .u8 (List.getD kv1.f_Src.f_B 4 0), .int .u8 (List.getD kv1.f_Src.f_B 5 0), .int .u8 (List.getD kv1.f_Src.f_B 6 0), .int .u8 (List.getD kv1.f_Src.f_B 7 0), .int .u8 (List.getD kv1.f_Src.f_B 8 0), .int .u8 (List.getD kv1.f_Src.f_B 9 0), .int .u8 (List.getD kv1.f_Src.f_B 10 0), .int .u8 (List.getD kv1.f_Src.f_B 11 0), .int .u8 (List.getD kv1.f_Src.f_B 12 0), .int .u8 (List.getD kv1.f_Src.f_B 13 0), .int .u8 (List.getD kv1.f_Src.f_B 14 0), .int .u8 (List.getD kv1.f_Src.f_B 15 0), .bool kv1.f_Dst.f_Six, .int .u8 (List.getD kv1.f_Dst.f_B 0 0), .int .u8 (List.getD kv1.f_Dst.f_B 1 0), .int .u8 (List.getD kv1.f_Dst.f_B 2 0), .int .u8 (List.getD kv1.f_Dst.f_B 3 0), .int .u8 (List.getD kv1.f_Dst.f_B 4 0), .int .u8 (List.getD kv1.f_Dst.f_B 5 0), .int .u8 (List.getD kv1.f_Dst.f_B 6 0), .int .u8 (List.getD kv1.f_Dst.f_B 7 0), .int .u8 (List.getD kv1.f_Dst.f_B 8 0), .int .u8 (List.getD kv1.f_Dst.f_B 9 0), .int .u8 (List.getD kv1.f_Dst.f_B 10 0), .int .u8 (List.getD kv1.f_Dst.f_B 11 0), .int .u8 (List.getD kv1.f_Dst.f_B 12 0), .int .u8 (List.getD kv1.f_Dst.f_B 13 0), .int .u8 (List.getD kv1.f_Dst.f_B 14 0), .int .u8 (List.getD kv1.f_Dst.f_B 15 0), .int .u8 kv1.f_Proto, .int .u16 kv1.f_SrcPort, .int .u16 kv1.f_DstPort]) ag27 rfl (Cs.addsN [] ((hM.bx (i := 0) rfl)) rfl)) rfl ?_
  refine RL.eff (E.alloc hM ze27) rfl fun v w6 hv => ?_
  clear hM
  obtain ⟨g5, rfl, hM, hf⟩ := hv
  refine RL.effs (E.stB (j := 1) (off := 0) (vs := [.bool kv1.f_Src.f_Six, .int .u8 (List.getD kv1.f_Src.f_B 0 0), .int .u8 (List.getD kv1.f_Src.f_B 1 0), .int .u8 (List.getD kv1.f_Src.f_B 2 0), .int .u8 (List.getD kv1.f_Src.f_B 3 0), .int .u8 (List.getD kv1.f_Src.f_B 4 0), .int .u8 (List.getD kv1.f_Src.f_B 5 0), .int .u8 (List.getD kv1.f_Src.f_B 6 0), .int .u8 (List.getD kv1.f_Src.f_B 7 0), .int .u8 (List.getD kv1.f_Src.f_B 8 0), .int .u8 (List.getD kv1.f_Src.f_B 9 0), .int .u8 (List.getD kv1.f_Src.f_B 10 0), .int .u8 (List.getD kv1.f_Src.f_B 11 0), .int .u8 (List.getD kv1.f_Src.f_B 12 0), .int .u8 (List.getD kv1.f_Src.f_B 13 0), .int .u8 (List.getD kv1.f_Src.f_B 14 0), .int .u8 (List.getD kv1.f_Src.f_B 15 0), .bool kv1.f_Dst.f_Six, .int .u8 (List.getD kv1.f_Dst.f_B 0 0), .int .u8 (List.getD kv1.f_Dst.f_B 1 0), .int .u8 (List.getD kv1.f_Dst.f_B 2 0), .int .u8 (List.getD kv1.f_Dst.f_B 3 0), .int .u8 (List.getD kv1.f_Dst.f_B 4 0), .int .u8 (List.getD kv1.f_Dst.f_B 5 0), .int .u8 (List.getD kv1.f_Dst.f_B 6 0), .int .u8 (List.getD kv1.f_Dst.f_B 7 0), .int .u8 (List.getD kv1.f_Dst.f_B 8 0), .int .u8 (List.getD kv1.f_Dst.f_B 9 0), .int .u8 (List.getD kv1.f_Dst.f_B 10 0), .int .u8 (List.getD kv1.f_Dst.f_B 11 0), .int .u8 (List.getD kv1.f_Dst.f_B 12 0), .int .u8 (List.getD kv1.f_Dst.f_B 13 0), .int .u8 (List.getD kv1.f_Dst.f_B 14 0), .int .u8 (List.getD kv1.f_Dst.f_B 15 0), .int .u8 kv1.f_Proto, .int .u16 kv1.f_SrcPort, .int .u16 kv1.f_DstPort]) (cs' := [.bool kv1.f_Src.f_Six, .int .u8 (List.getD kv1.f_Src.f_B 0 0), .int .u8 (List.getD kv1.f_Src.f_B 1 0), .int .u8 (List.getD kv1.f_Src.f_B 2 0), .int .u8 (List.getD kv1.f_Src.f_B 3 0), .int .u8 (List.getD kv1.f_Src.f_B 4 0), .int .u8 (List.getD kv1.f_Src.f_B 5 0), .int .u8 (List.getD kv1.f_Src.f_B 6 0), .int .u8 (List.getD kv1.f_Src.f_B 7 0), .int .u8 (List.getD kv1.f_Src.f_B 8 0), .int .u8 (List.getD kv1.f_Src.f_B 9 0), .int .u8 (List.getD kv1.f_Src.f_B 10 0), .int .u8 (List.getD kv1.f_Src.f_B 11 0), .int .u8 (List.getD kv1.f_Src.f_B 12 0), .int .u8 (List.getD kv1.f_Src.f_B 13 0), .int .u8 (List.getD kv1.f_Src.f_B 14 0), .int .u8 (List.getD kv1.f_Src.f_B 15 0), .bool kv1.f_Dst.f_Six, .int .u8 (List.getD kv1.f_Dst.f_B 0 0), .int .u8 (List.getD kv1.f_Dst.f_B 1 0), .int .u8 (List.getD kv1.f_Dst.f_B 2 0), .int .u8 (List.getD kv1.f_Dst.f_B 3 0), .int .u8 (List.getD kv1.f_Dst.f_B 4 0), .int .u8 (List.getD kv1.f_Dst.f_B 5 0), .int .u8 (List.getD kv1.f_Dst.f_B 6 0), .int .u8 (List.getD kv1.f_Dst.f_B 7 0), .int .u8 (List.getD kv1.f_Dst.f_B 8 0), .int .u8 (List.getD kv1.f_Dst.f_B 9 0), .int .u8 (List.getD kv1.f_Dst.f_B 10 0), .int .u8 (List.getD kv1.f_Dst.f_B 11 0), .int .u8 (List.getD kv1.f_Dst.f_B 12 0), .int .u8 (List.getD kv1.f_Dst.f_B 13 0), .int .u8 (List.getD kv1.f_Dst.f_B 14 0), .int .u8 (List.getD kv1.f_Dst.f_B 15 0), .int .u8 kv1.f_Proto, .int .u16 kv1.f_SrcPort, .int .u16 kv1.f_DstPort]) hM rfl sz27 rfl (adds_eq [] rfl) rfl rfl (One.all rfl) rfl rfl) fun w8 hM1 => ?_
  clear hM
  have hM := hM1
  clear hM1
  refine RL.nil ?_
  refine KQ.then_n ?_
  refine KC.cut (fun a w23 => ∃ (plain21 : Int) (plain22 : Int), Kn 37 [(1, .pointer (some ⟨g2, 0, none⟩)), (3, .pointer (some ⟨g5, 0, none⟩))] a ∧ Mem w [] w23 [.box g2 27 [.bool kv1.f_Src.f_Six, .int .u8 (List.getD kv1.f_Src.f_B 0 0), .int .u8 (List.getD kv1.f_Src.f_B 1 0), .int .u8 (List.getD kv1.f_Src.f_B 2 0), .int .u8 (List.getD kv1.f_Src.f_B 3 0), .int .u8 (List.getD kv1.f_Src.f_B 4 0), .int .u8 (List.getD kv1.f_Src.f_B 5 0), .int .u8 (List.getD kv1.f_Src.f_B 6 0), .int .u8 (List.getD kv1.f_Src.f_B 7 0), .int .u8 (List.getD kv1.f_Src.f_B 8 0), .int .u8 (List.getD kv1.f_Src.f_B 9 0), .int .u8 (List.getD kv1.f_Src.f_B 10 0), .int .u8 (List.getD kv1.f_Src.f_B 11 0), .int .u8 (List.getD kv1.f_Src.f_B 12 0), .int .u8 (List.getD kv1.f_Src.f_B 13 0), .int .u8 (List.getD kv1.f_Src.f_B 14 0), .int .u8 (List.getD kv1.f_Src.f_B 15 0), .bool kv1.f_Dst.f_Six, .int .u8 (List.getD kv1.f_Dst.f_B 0 0), .int .u8 (List.getD kv1.f_Dst.f_B 1 0), .int .u8 (List.getD kv1.f_Dst.f_B 2 0), .int .u8 (List.getD kv1.f_Dst.f_B 3 0), .int .u8 (List.getD kv1.f_Dst.f_B 4 0), .int .u8 (List.getD kv1.f_Dst.f_B 5 0), .int .u8 (List.getD kv1.f_Dst.f_B 6 0), .int .u8 (List.getD kv1.f_Dst.f_B 7 0), .int .u8 (List.getD kv1.f_Dst.f_B 8 0), .int .u8 (List.getD kv1.f_Dst.f_B 9 0), .int .u8 (List.getD kv1.f_Dst.f_B 10 0), .int .u8 (List.getD kv1.f_Dst.f_B 11 0), .int .u8 (List.getD kv1.f_Dst.f_B 12 0), .int .u8 (List.getD kv1.f_Dst.f_B 13 0), .int .u8 (List.getD kv1.f_Dst.f_B 14 0), .int .u8 (List.getD kv1.f_Dst.f_B 15 0), .int .u8 kv1.f_Proto, .int .u16 kv1.f_SrcPort, .int .u16 kv1.f_DstPort], .box g5 27 [.bool kv1.f_Src.f_Six, .int .u8 (List.getD kv1.f_Src.f_B 0 0), .int .u8 (List.getD kv1.f_Src.f_B 1 0), .int .u8 (List.getD kv1.f_Src.f_B 2 0), .int .u8 (List.getD kv1.f_Src.f_B 3 0), .int .u8 (List.getD kv1.f_Src.f_B 4 0), .int .u8 (List.getD kv1.f_Src.f_B 5 0), .int .u8 (List.getD kv1.f_Src.f_B 6 0), .int .u8 (List.getD kv1.f_Src.f_B 7 0), .int .u8 (List.getD kv1.f_Src.f_B 8 0), .int .u8 (List.getD kv1.f_Src.f_B 9 0), .int .u8 (List.getD kv1.f_Src.f_B 10 0), .int .u8 (List.getD kv1.f_Src.f_B 11 0), .int .u8 (List.getD kv1.f_Src.f_B 12 0), .int .u8 (List.getD kv1.f_Src.f_B 13 0), .int .u8 (List.getD kv1.f_Src.f_B 14 0), .int .u8 (List.getD kv1.f_Src.f_B 15 0), .bool kv1.f_Dst.f_Six, .int .u8 (List.getD kv1.f_Dst.f_B 0 0), .int .u8 (List.getD kv1.f_Dst.f_B 1 0), .int .u8 (List.getD kv1.f_Dst.f_B 2 0), .int .u8 (List.getD kv1.f_Dst.f_B 3 0), .int .u8 (List.getD kv1.f_Dst.f_B 4 0), .int .u8 (List.getD kv1.f_Dst.f_B 5 0), .int .u8 (List.getD kv1.f_Dst.f_B 6 0), .int .u8 (List.getD kv1.f_Dst.f_B 7 0), .int .u8 (List.getD kv1.f_Dst.f_B 8 0), .int .u8 (List.getD kv1.f_Dst.f_B 9 0), .int .u8 (List.getD kv1.f_Dst.f_B 10 0), .int .u8 (List.getD kv1.f_Dst.f_B 11 0), .int .u8 (List.getD kv1.f_Dst.f_B 12 0), .int .u8 (List.getD kv1.f_Dst.f_B 13 0), .int .u8 (List.getD kv1.f_Dst.f_B 14 0), .int .u8 (List.getD kv1.f_Dst.f_B 15 0), .int .u8 kv1.f_Proto, .int .u16 plain21, .int .u16 plain22]] ∧ F_packet_Key_Right_j1 kv1 plain21 plain22 = some r) ?_ ?_
  · refine KC.seq ?_
    refine KC.region ?_
    refine RL.val (O.fldA fl27_2 (by decide) rfl) rfl ?_
    refine RL.val (O.load sc5 rfl (Cs.adds [34] ((hM.bx (i := 0) rfl)) rfl)) rfl ?_
    refine obindE hF fun y9 hx10 hF => ?_
    refine RL.call Try.func39 bd39 rfl rfl (c_packet_ports _ kv1.f_Proto _ hx10) fun v w11 hv => ?_
    obtain ⟨rfl, hN12⟩ := hv
    replace hM := hM.call0 hN12
    refine RL.val (O.not rfl) rfl ?_
    refine RL.nil ?_
    refine KQ.then_n ?_
    refine KC.cond rfl (fun hc => ?_) (fun hc => ?_)
    · rw [if_pos hc] at hF
      refine KC.seq ?_
      refine KC.region ?_
      refine RL.val (O.fldA fl27_3 (by decide) rfl) rfl ?_
      refine RL.effs (E.stB (j := 1) (off := 35) (vs := [.int .u16 0]) (cs' := [.bool kv1.f_Src.f_Six, .int .u8 (List.getD kv1.f_Src.f_B 0 0), .int .u8 (List.getD kv1.f_Src.f_B 1 0), .int .u8 (List.getD kv1.f_Src.f_B 2 0), .int .u8 (List.getD kv1.f_Src.f_B 3 0), .int .u8 (List.getD kv1.f_Src.f_B 4 0), .int .u8 (List.getD kv1.f_Src.f_B 5 0), .int .u8 (List.getD kv1.f_Src.f_B 6 0), .int .u8 (List.getD kv1.f_Src.f_B 7 0), .int .u8 (List.getD kv1.f_Src.f_B 8 0), .int .u8 (List.getD kv1.f_Src.f_B 9 0), .int .u8 (List.getD kv1.f_Src.f_B 10 0), .int .u8 (List.getD kv1.f_Src.f_B 11 0), .int .u8 (List.getD kv1.f_Src.f_B 12 0), .int .u8 (List.getD kv1.f_Src.f_B 13 0), .int .u8 (List.getD kv1.f_Src.f_B 14 0), .int .u8 (List.getD kv1.f_Src.f_B 15 0), .bool kv1.f_Dst.f_Six, .int .u8 (List.getD kv1.f_Dst.f_B 0 0), .int .u8 (List.getD kv1.f_Dst.f_B 1 0), .int .u8 (List.getD kv1.f_Dst.f_B 2 0), .int .u8 (List.getD kv1.f_Dst.f_B 3 0), .int .u8 (List.getD kv1.f_Dst.f_B 4 0), .int .u8 (List.getD kv1.f_Dst.f_B 5 0), .int .u8 (List.getD kv1.f_Dst.f_B 6 0), .int .u8 (List.getD kv1.f_Dst.f_B 7 0), .int .u8 (List.getD kv1.f_Dst.f_B 8 0), .int .u8 (List.getD kv1.f_Dst.f_B 9 0), .int .u8 (List.getD kv1.f_Dst.f_B 10 0), .int .u8 (List.getD kv1.f_Dst.f_B 11 0), .int .u8 (List.getD kv1.f_Dst.f_B 12 0), .int .u8 (List.getD kv1.f_Dst.f_B 13 0), .int .u8 (List.getD kv1.f_Dst.f_B 14 0), .int .u8 (List.getD kv1.f_Dst.f_B 15 0), .int .u8 kv1.f_Proto, .int .u16 0, .int .u16 kv1.f_DstPort]) hM rfl sz25 rfl (adds_eq [35] rfl) rfl rfl (One.all rfl) rfl rfl) fun w13 hM1 => ?_
      clear hM
      have hM := hM1
      clear hM1
      refine RL.nil ?_
      refine KQ.then_n ?_
      refine KC.seq ?_
      refine KC.region ?_
      refine RL.val (O.fldA fl27_2 (by decide) rfl) rfl ?_
      refine RL.val (O.load sc5 rfl (Cs.adds [34] ((hM.bx (i := 0) rfl)) rfl)) rfl ?_
      refine obindE hF fun y14 hx15 hF => ?_
      refine RL.call Try.func40 bd40 rfl rfl (c_packet_icmp _ kv1.f_Proto _ hx15) fun v w16 hv => ?_
      obtain ⟨rfl, hN17⟩ := hv
      replace hM := hM.call0 hN17
      refine RL.val (O.not rfl) rfl ?_
      refine RL.nil ?_
      refine KQ.then_n ?_
      refine KC.cond rfl (fun hc => ?_) (fun hc => ?_)
      · rw [if_pos hc] at hF
        refine KC.region ?_
        refine RL.val (O.fldA fl27_4 (by decide) rfl) rfl ?_
        refine RL.effs (E.stB (j := 1) (off := 36) (vs := [.int .u16 0]) (cs' := [.bool kv1.f_Src.f_Six, .int .u8 (List.getD kv1.f_Src.f_B 0 0), .int .u8 (List.getD kv1.f_Src.f_B 1 0), .int .u8 (List.getD kv1.f_Src.f_B 2 0), .int .u8 (List.getD kv1.f_Src.f_B 3 0), .int .u8 (List.getD kv1.f_Src.f_B 4 0), .int .u8 (List.getD kv1.f_Src.f_B 5 0), .int .u8 (List.getD kv1.f_Src.f_B 6 0), .int .u8 (List.getD kv1.f_Src.f_B 7 0), .int .u8 (List.getD kv1.f_Src.f_B 8 0), .int .u8 (List.getD kv1.f_Src.f_B 9 0), .int .u8 (List.getD kv1.f_Src.f_B 10 0), .int .u8 (List.getD kv1.f_Src.f_B 11 0), .int .u8 (List.getD kv1.f_Src.f_B 12 0), .int .u8 (List.getD kv1.f_Src.f_B 13 0), .int .u8 (List.getD kv1.f_Src.f_B 14 0), .int .u8 (List.getD kv1.f_Src.f_B 15 0), .bool kv1.f_Dst.f_Six, .int .u8 (List.getD kv1.f_Dst.f_B 0 0), .int .u8 (List.getD kv1.f_Dst.f_B 1 0), .int .u8 (List.getD kv1.f_Dst.f_B 2 0), .int .u8 (List.getD kv1.f_Dst.f_B 3 0), .int .u8 (List.getD kv1.f_Dst.f_B 4 0), .int .u8 (List.getD kv1.f_Dst.f_B 5 0), .int .u8 (List.getD kv1.f_Dst.f_B 6 0), .int .u8 (List.getD kv1.f_Dst.f_B 7 0), .int .u8 (List.getD kv1.f_Dst.f_B 8 0), .int .u8 (List.getD kv1.f_Dst.f_B 9 0), .int .u8 (List.getD kv1.f_Dst.f_B 10 0), .int .u8 (List.getD kv1.f_Dst.f_B 11 0), .int .u8 (List.getD kv1.f_Dst.f_B 12 0), .int .u8 (List.getD kv1.f_Dst.f_B 13 0), .int .u8 (List.getD kv1.f_Dst.f_B 14 0), .int .u8 (List.getD kv1.f_Dst.f_B 15 0), .int .u8 kv1.f_Proto, .int .u16 0, .int .u16 0]) hM rfl sz25 rfl (adds_eq [36] rfl) rfl rfl (One.all rfl) rfl rfl) fun w18 hM1 => ?_
        clear hM
        have hM := hM1
        clear hM1
        refine RL.nil ?_
        refine KQ.then_k ?_
        exact fun a ha => ⟨0, 0, ha.less (less_cons rfl (less_cons rfl less_nil)), hM, hF⟩
      · rw [if_neg (ne_true hc)] at hF
        refine KC.skip ?_
        refine KQ.then_k ?_
        exact fun a ha => ⟨0, kv1.f_DstPort, ha.less (less_cons rfl (less_cons rfl less_nil)), hM, hF⟩
    · rw [if_neg (ne_true hc)] at hF
      refine KC.skip ?_
      refine KQ.then_k ?_
      exact fun a ha => ⟨kv1.f_SrcPort, kv1.f_DstPort, ha.less (less_cons rfl (less_cons rfl less_nil)), hM, hF⟩
  · rintro a w23 ⟨plain21, plain22, ha, hM, hF⟩
    refine KC.app ha ?_
    clear ha
    unfold F_packet_Key_Right_j1 at hF
    refine KC.cut (fun a w33 => ∃ (t32 : Bool), Kn 37 [(2, .bool t32)] a ∧ Mem w [] w33 [] ∧ F_packet_Key_Right_j2 t32 = some r) ?_ ?_
    · refine KC.region ?_
      refine RL.val (O.fldA fl27_0 (by decide) rfl) rfl ?_
      refine RL.val (O.loadN (cs := [.bool kv1.f_Src.f_Six, .int .u8 (List.getD kv1.f_Src.f_B 0 0), .int .u8 (List.getD kv1.f_Src.f_B 1 0), .int .u8 (List.getD kv1.f_Src.f_B 2 0), .int .u8 (List.getD kv1.f_Src.f_B 3 0), .int .u8 (List.getD kv1.f_Src.f_B 4 0), .int .u8 (List.getD kv1.f_Src.f_B 5 0), .int .u8 (List.getD kv1.f_Src.f_B 6 0), .int .u8 (List.getD kv1.f_Src.f_B 7 0), .int .u8 (List.getD kv1.f_Src.f_B 8 0), .int .u8 (List.getD kv1.f_Src.f_B 9 0), .int .u8 (List.getD kv1.f_Src.f_B 10 0), .int .u8 (List.getD kv1.f_Src.f_B 11 0), .int .u8 (List.getD kv1.f_Src.f_B 12 0), .int .u8 (List.getD kv1.f_Src.f_B 13 0), .int .u8 (List.getD kv1.f_Src.f_B 14 0), .int .u8 (List.getD kv1.f_Src.f_B 15 0)]) ag24 rfl (Cs.addsN [0] ((hM.bx (i := 0) rfl)) rfl)) rfl ?_
      refine obindE hF fun y24 hx25 hF => ?_
      refine RL.call Try.func41 bd41 rfl rfl (c_addr_Addr_Right _ kv1.f_Src _ hx25) fun v w26 hv => ?_
      obtain ⟨rfl, hN27⟩ := hv
      replace hM := hM.call0 hN27
      refine RL.val (O.move rfl) rfl ?_
      refine RL.bcase (t := 18) rfl (fun hc => ?_) (fun hc => ?_)
      · rw [if_pos hc] at hF
        refine RL.gval rfl rfl (O.fldA fl27_1 (by decide) rfl) rfl ?_
        refine RL.gval rfl rfl (O.loadN (cs := [.bool kv1.f_Dst.f_Six, .int .u8 (List.getD kv1.f_Dst.f_B 0 0), .int .u8 (List.getD kv1.f_Dst.f_B 1 0), .int .u8 (List.getD kv1.f_Dst.f_B 2 0), .int .u8 (List.getD kv1.f_Dst.f_B 3 0), .int .u8 (List.getD kv1.f_Dst.f_B 4 0), .int .u8 (List.getD kv1.f_Dst.f_B 5 0), .int .u8 (List.getD kv1.f_Dst.f_B 6 0), .int .u8 (List.getD kv1.f_Dst.f_B 7 0), .int .u8 (List.getD kv1.f_Dst.f_B 8 0), .int .u8 (List.getD kv1.f_Dst.f_B 9 0), .int .u8 (List.getD kv1.f_Dst.f_B 10 0), .int .u8 (List.getD kv1.f_Dst.f_B 11 0), .int .u8 (List.getD kv1.f_Dst.f_B 12 0), .int .u8 (List.getD kv1.f_Dst.f_B 13 0), .int .u8 (List.getD kv1.f_Dst.f_B 14 0), .int .u8 (List.getD kv1.f_Dst.f_B 15 0)]) ag24 rfl (Cs.addsN [17] ((hM.bx (i := 0) rfl)) rfl)) rfl ?_
        refine obindE hF fun y28 hx29 hF => ?_
        refine RL.gcall rfl rfl Try.func41 bd41 rfl rfl (c_addr_Addr_Right _ kv1.f_Dst _ hx29) fun v w30 hv => ?_
        obtain ⟨rfl, hN31⟩ := hv
        replace hM := hM.call0 hN31
        refine RL.val (O.pickt rfl rfl) rfl ?_
        refine RL.val (O.move rfl) rfl ?_
        refine RL.bcase (t := 23) rfl (fun hc => ?_) (fun hc => ?_)
        · rw [if_pos hc] at hF
          refine RL.gval rfl rfl (O.fldA fl27_0 (by decide) rfl) rfl ?_
          refine RL.gval rfl rfl (O.fldA fl24_0 (by decide) rfl) rfl ?_
          refine RL.gval rfl rfl (O.load sc4 rfl (Cs.adds [0, 0] ((hM.bx (i := 0) rfl)) rfl)) rfl ?_
          refine RL.gval rfl rfl (O.fldA fl27_1 (by decide) rfl) rfl ?_
          refine RL.gval rfl rfl (O.fldA fl24_0 (by decide) rfl) rfl ?_
          refine RL.gval rfl rfl (O.load sc4 rfl (Cs.adds [17, 0] ((hM.bx (i := 0) rfl)) rfl)) rfl ?_
          refine RL.gval rfl rfl (O.eqlb Try.underlying4 rfl rfl) rfl ?_
          refine RL.val (O.pickt rfl rfl) rfl ?_
          refine RL.val (O.move rfl) rfl ?_
          refine RL.bcase (t := 32) rfl (fun hc => ?_) (fun hc => ?_)
          · rw [if_pos hc] at hF
            refine RL.gval rfl rfl (O.loadN (cs := [.bool kv1.f_Src.f_Six, .int .u8 (List.getD kv1.f_Src.f_B 0 0), .int .u8 (List.getD kv1.f_Src.f_B 1 0), .int .u8 (List.getD kv1.f_Src.f_B 2 0), .int .u8 (List.getD kv1.f_Src.f_B 3 0), .int .u8 (List.getD kv1.f_Src.f_B 4 0), .int .u8 (List.getD kv1.f_Src.f_B 5 0), .int .u8 (List.getD kv1.f_Src.f_B 6 0), .int .u8 (List.getD kv1.f_Src.f_B 7 0), .int .u8 (List.getD kv1.f_Src.f_B 8 0), .int .u8 (List.getD kv1.f_Src.f_B 9 0), .int .u8 (List.getD kv1.f_Src.f_B 10 0), .int .u8 (List.getD kv1.f_Src.f_B 11 0), .int .u8 (List.getD kv1.f_Src.f_B 12 0), .int .u8 (List.getD kv1.f_Src.f_B 13 0), .int .u8 (List.getD kv1.f_Src.f_B 14 0), .int .u8 (List.getD kv1.f_Src.f_B 15 0), .bool kv1.f_Dst.f_Six, .int .u8 (List.getD kv1.f_Dst.f_B 0 0), .int .u8 (List.getD kv1.f_Dst.f_B 1 0), .int .u8 (List.getD kv1.f_Dst.f_B 2 0), .int .u8 (List.getD kv1.f_Dst.f_B 3 0), .int .u8 (List.getD kv1.f_Dst.f_B 4 0), .int .u8 (List.getD kv1.f_Dst.f_B 5 0), .int .u8 (List.getD kv1.f_Dst.f_B 6 0), .int .u8 (List.getD kv1.f_Dst.f_B 7 0), .int .u8 (List.getD kv1.f_Dst.f_B 8 0), .int .u8 (List.getD kv1.f_Dst.f_B 9 0), .int .u8 (List.getD kv1.f_Dst.f_B 10 0), .int .u8 (List.getD kv1.f_Dst.f_B 11 0), .int .u8 (List.getD kv1.f_Dst.f_B 12 0), .int .u8 (List.getD kv1.f_Dst.f_B 13 0), .int .u8 (List.getD kv1.f_Dst.f_B 14 0), .int .u8 (List.getD kv1.f_Dst.f_B 15 0), .int .u8 kv1.f_Proto, .int .u16 kv1.f_SrcPort, .int .u16 kv1.f_DstPort]) ag27 rfl (Cs.addsN [] ((hM.bx (i := 0) rfl)) rfl)) rfl ?_
            refine RL.gval rfl rfl (O.loadN (cs := [.bool kv1.f_Src.f_Six, .int .u8 (List.getD kv1.f_Src.f_B 0 0), .int .u8 (List.getD kv1.f_Src.f_B 1 0), .int .u8 (List.getD kv1.f_Src.f_B 2 0), .int .u8 (List.getD kv1.f_Src.f_B 3 0), .int .u8 (List.getD kv1.f_Src.f_B 4 0), .int .u8 (List.getD kv1.f_Src.f_B 5 0), .int .u8 (List.getD kv1.f_Src.f_B 6 0), .int .u8 (List.getD kv1.f_Src.f_B 7 0), .int .u8 (List.getD kv1.f_Src.f_B 8 0), .int .u8 (List.getD kv1.f_Src.f_B 9 0), .int .u8 (List.getD kv1.f_Src.f_B 10 0), .int .u8 (List.getD kv1.f_Src.f_B 11 0), .int .u8 (List.getD kv1.f_Src.f_B 12 0), .int .u8 (List.getD kv1.f_Src.f_B 13 0), .int .u8 (List.getD kv1.f_Src.f_B 14 0), .int .u8 (List.getD kv1.f_Src.f_B 15 0), .bool kv1.f_Dst.f_Six, .int .u8 (List.getD kv1.f_Dst.f_B 0 0), .int .u8 (List.getD kv1.f_Dst.f_B 1 0), .int .u8 (List.getD kv1.f_Dst.f_B 2 0), .int .u8 (List.getD kv1.f_Dst.f_B 3 0), .int .u8 (List.getD kv1.f_Dst.f_B 4 0), .int .u8 (List.getD kv1.f_Dst.f_B 5 0), .int .u8 (List.getD kv1.f_Dst.f_B 6 0), .int .u8 (List.getD kv1.f_Dst.f_B 7 0), .int .u8 (List.getD kv1.f_Dst.f_B 8 0), .int .u8 (List.getD kv1.f_Dst.f_B 9 0), .int .u8 (List.getD kv1.f_Dst.f_B 10 0), .int .u8 (List.getD kv1.f_Dst.f_B 11 0), .int .u8 (List.getD kv1.f_Dst.f_B 12 0), .int .u8 (List.getD kv1.f_Dst.f_B 13 0), .int .u8 (List.getD kv1.f_Dst.f_B 14 0), .int .u8 (List.getD kv1.f_Dst.f_B 15 0), .int .u8 kv1.f_Proto, .int .u16 plain21, .int .u16 plain22]) ag27 rfl (Cs.addsN [] ((hM.bx (i := 1) rfl)) rfl)) rfl ?_
            refine RL.gval rfl rfl (O.steq (cs := [.bool kv1.f_Src.f_Six, .int .u8 (List.getD kv1.f_Src.f_B 0 0), .int .u8 (List.getD kv1.f_Src.f_B 1 0), .int .u8 (List.getD kv1.f_Src.f_B 2 0), .int .u8 (List.getD kv1.f_Src.f_B 3 0), .int .u8 (List.getD kv1.f_Src.f_B 4 0), .int .u8 (List.getD kv1.f_Src.f_B 5 0), .int .u8 (List.getD kv1.f_Src.f_B 6 0), .int .u8 (List.getD kv1.f_Src.f_B 7 0), .int .u8 (List.getD kv1.f_Src.f_B 8 0), .int .u8 (List.getD kv1.f_Src.f_B 9 0), .int .u8 (List.getD kv1.f_Src.f_B 10 0), .int .u8 (List.getD kv1.f_Src.f_B 11 0), .int .u8 (List.getD kv1.f_Src.f_B 12 0), .int .u8 (List.getD kv1.f_Src.f_B 13 0), .int .u8 (List.getD kv1.f_Src.f_B 14 0), .int .u8 (List.getD kv1.f_Src.f_B 15 0), .bool kv1.f_Dst.f_Six, .int .u8 (List.getD kv1.f_Dst.f_B 0 0), .int .u8 (List.getD kv1.f_Dst.f_B 1 0), .int .u8 (List.getD kv1.f_Dst.f_B 2 0), .int .u8 (List.getD kv1.f_Dst.f_B 3 0), .int .u8 (List.getD kv1.f_Dst.f_B 4 0), .int .u8 (List.getD kv1.f_Dst.f_B 5 0), .int .u8 (List.getD kv1.f_Dst.f_B 6 0), .int .u8 (List.getD kv1.f_Dst.f_B 7 0), .int .u8 (List.getD kv1.f_Dst.f_B 8 0), .int .u8 (List.getD kv1.f_Dst.f_B 9 0), .int .u8 (List.getD kv1.f_Dst.f_B 10 0), .int .u8 (List.getD kv1.f_Dst.f_B 11 0), .int .u8 (List.getD kv1.f_Dst.f_B 12 0), .int .u8 (List.getD kv1.f_Dst.f_B 13 0), .int .u8 (List.getD kv1.f_Dst.f_B 14 0), .int .u8 (List.getD kv1.f_Dst.f_B 15 0), .int .u8 kv1.f_Proto, .int .u16 kv1.f_SrcPort, .int .u16 kv1.f_DstPort]) (cs' := [.bool kv1.f_Src.f_Six, .int .u8 (List.getD kv1.f_Src.f_B 0 0), .int .u8 (List.getD kv1.f_Src.f_B 1 0), .int .u8 (List.getD kv1.f_Src.f_B 2 0), .int .u8 (List.getD kv1.f_Src.f_B 3 0), .int .u8 (List.getD kv1.f_Src.f_B 4 0), .int .u8 (List.getD kv1.f_Src.f_B 5 0), .int .u8 (List.getD kv1.f_Src.f_B 6 0), .int .u8 (List.getD kv1.f_Src.f_B 7 0), .int .u8 (List.getD kv1.f_Src.f_B 8 0), .int .u8 (List.getD kv1.f_Src.f_B 9 0), .int .u8 (List.getD kv1.f_Src.f_B 10 0), .int .u8 (List.getD kv1.f_Src.f_B 11 0), .int .u8 (List.getD kv1.f_Src.f_B 12 0), .int .u8 (List.getD kv1.f_Src.f_B 13 0), .int .u8 (List.getD kv1.f_Src.f_B 14 0), .int .u8 (List.getD kv1.f_Src.f_B 15 0), .bool kv1.f_Dst.f_Six, .int .u8 (List.getD kv1.f_Dst.f_B 0 0), .int .u8 (List.getD kv1.f_Dst.f_B 1 0), .int .u8 (List.getD kv1.f_Dst.f_B 2 0), .int .u8 (List.getD kv1.f_Dst.f_B 3 0), .int .u8 (List.getD kv1.f_Dst.f_B 4 0), .int .u8 (List.getD kv1.f_Dst.f_B 5 0), .int .u8 (List.getD kv1.f_Dst.f_B 6 0), .int .u8 (List.getD kv1.f_Dst.f_B 7 0), .int .u8 (List.getD kv1.f_Dst.f_B 8 0), .int .u8 (List.getD kv1.f_Dst.f_B 9 0), .int .u8 (List.getD kv1.f_Dst.f_B 10 0), .int .u8 (List.getD kv1.f_Dst.f_B 11 0), .int .u8 (List.getD kv1.f_Dst.f_B 12 0), .int .u8 (List.getD kv1.f_Dst.f_B 13 0), .int .u8 (List.getD kv1.f_Dst.f_B 14 0), .int .u8 (List.getD kv1.f_Dst.f_B 15 0), .int .u8 kv1.f_Proto, .int .u16 plain21, .int .u16 plain22]) (by kernel_rfl) rfl rfl (Q27t kv1 (T_packet_Key.mk kv1.f_Src kv1.f_Dst kv1.f_Proto plain21 plain22) _ rfl rfl)) rfl ?_
            refine RL.val (O.pickt rfl rfl) rfl ?_
            refine RL.val (O.assign rfl) rfl ?_
            refine RL.nil ?_
            refine KQ.then_k ?_
            replace hM := hM.pick [] rfl (by decide)
            exact fun a ha => ⟨(q_packet_Key kv1 (T_packet_Key.mk kv1.f_Src kv1.f_Dst kv1.f_Proto plain21 plain22)), ha.less (less_cons rfl less_nil), hM, hF⟩
          · rw [if_neg (ne_true hc)] at hF
            refine RL.brun1 4 36 false (by kernel_rfl) ?_
            refine RL.val (O.assign rfl) rfl ?_
            refine RL.nil ?_
            refine KQ.then_k ?_
            replace hM := hM.pick [] rfl (by decide)
            exact fun a ha => ⟨false, ha.less (less_cons rfl less_nil), hM, hF⟩
        · rw [if_neg (ne_true hc)] at hF
          refine RL.brun1 13 36 false (by kernel_rfl) ?_
          refine RL.val (O.assign rfl) rfl ?_
          refine RL.nil ?_
          refine KQ.then_k ?_
          replace hM := hM.pick [] rfl (by decide)
          exact fun a ha => ⟨false, ha.less (less_cons rfl less_nil), hM, hF⟩
      · rw [if_neg (ne_true hc)] at hF
        refine RL.brun1 18 36 false (by kernel_rfl) ?_
        refine RL.val (O.assign rfl) rfl ?_
        refine RL.nil ?_
        refine KQ.then_k ?_
        replace hM := hM.pick [] rfl (by decide)
        exact fun a ha => ⟨false, ha.less (less_cons rfl less_nil), hM, hF⟩
    · rintro a w33 ⟨t32, ha, hM, hF⟩
      refine KC.app ha ?_
      clear ha
      unfold F_packet_Key_Right_j2 at hF
      refine KC.ret ?_
      obtain rfl := Option.some.inj hF
      refine KQ.rets Try.results30 (RVs.cons (RV.tm rfl) RVs.nil) ?_
      exact ⟨_, rfl, rfl, hM⟩
set_option maxRecDepth 100000 in
set_option maxHeartbeats 40000000 in
theorem c_flow_Record_Right (w : World) (rv1 : T_flow_Record) (r : Bool) (hF : F_flow_Record_Right rv1 = some r) :
    CallsR Try.prog 12 [.agg #[.bool rv1.f_Key.f_Src.f_Six, .int .u8 (List.getD rv1.f_Key.f_Src.f_B 0 0), .int .u8 (List.getD rv1.f_Key.f_Src.f_B 1 0), .int .u8 (List.getD rv1.f_Key.f_Src.f_B 2 0), .int .u8 (List.getD rv1.f_Key.f_Src.f_B 3 0), .int .u8 (List.getD rv1.f_Key.f_Src.f_B 4 0), .int .u8 (List.getD rv1.f_Key.f_Src.f_B 5 0), .int .u8 (List.getD rv1.f_Key.f_Src.f_B 6 0), .int .u8 (List.getD rv1.f_Key.f_Src.f_B 7 0), .int .u8 (List.getD rv1.f_Key.f_Src.f_B 8 0), .int .u8 (List.getD rv1.f_Key.f_Src.f_B 9 0), .int .u8 (List.getD rv1.f_Key.f_Src.f_B 10 0), .int .u8 (List.getD rv1.f_Key.f_Src.f_B 11 0), .int .u8 (List.getD rv1.f_Key.f_Src.f_B 12 0), .int .u8 (List.getD rv1.f_Key.f_Src.f_B 13 0), .int .u8 (List.getD rv1.f_Key.f_Src.f_B 14 0), .int .u8 (List.getD rv1.f_Key.f_Src.f_B 15 0), .bool rv1.f_Key.f_Dst.f_Six, .int .u8 (List.getD rv1.f_Key.f_Dst.f_B 0 0), .int .u8 (List.getD rv1.f_Key.f_Dst.f_B 1 0), .int .u8 (List.getD rv1.f_Key.f_Dst.f_B 2 0), .int .u8 (List.getD rv1.f_Key.f_Dst.f_B 3 0), .int .u8 (List.getD rv1.f_Key.f_Dst.f_B 4 0), .int .u8 (List.getD rv1.f_Key.f_Dst.f_B 5 0), .int .u8 (List.getD rv1.f_Key.f_Dst.f_B 6 0), .int .u8 (List.getD rv1.f_Key.f_Dst.f_B 7 0), .int .u8 (List.getD rv1.f_Key.f_Dst.f_B 8 0), .int .u8 (List.getD rv1.f_Key.f_Dst.f_B 9 0), .int .u8 (List.getD rv1.f_Key.f_Dst.f_B 10 0), .int .u8 (List.getD rv1.f_Key.f_Dst.f_B 11 0), .int .u8 (List.getD rv1.f_Key.f_Dst.f_B 12 0), .int .u8 (List.getD rv1.f_Key.f_Dst.f_B 13 0), .int .u8 (List.getD rv1.f_Key.f_Dst.f_B 14 0), .int .u8 (List.getD rv1.f_Key.f_Dst.f_B 15 0), .int .u8 rv1.f_Key.f_Proto, .int .u16 rv1.f_Key.f_SrcPort, .int .u16 rv1.f_Key.f_DstPort, .int .u64 rv1.f_Packets, .int .u64 rv1.f_Bytes, .int .u64 rv1.f_First, .int .u64 rv1.f_Last, .int .u8 rv1.f_Flags, .int .u8 rv1.f_Reason, .int .u8 rv1.f_Class]] w (fun v w' => v = .bool r ∧ Mem w [] w' []) := by
  refine calls_KC Try.func12 rfl Try.ntmps12 rfl ?_
  have hM := Mem.init w
  unfold F_flow_Record_Right at hF
  refine KC.seq ?_
  refine KC.region ?_
  refine RL.eff (E.box (vs := [.bool rv1.f_Key.f_Src.f_Six, .int .u8 (List.getD rv1.f_Key.f_Src.f_B 0 0), .int .u8 (List.getD rv1.f_Key.f_Src.f_B 1 0), .int .u8 (List.getD rv1.f_Key.f_Src.f_B 2 0), .int .u8 (List.getD rv1.f_Key.f_Src.f_B 3 0), .int .u8 (List.getD rv1.f_Key.f_Src.f_B 4 0), .int .u8 (List.getD rv1.f_Key.f_Src.f_B 5 0), .int .u8 (List.getD rv1.f_Key.f_Src.f_B 6 0), .int .u8 (List.getD rv1.f_Key.f_Src.f_B 7 0), .int .u8 (List.getD rv1.f_Key.f_Src.f_B 8 0), .int .u8 (List.getD rv1.f_Key.f_Src.f_B 9 0), .int .u8 (List.getD rv1.f_Key.f_Src.f_B 10 0), .int .u8 (List.getD rv1.f_Key.f_Src.f_B 11 0), .int .u8 (List.getD rv1.f_Key.f_Src.f_B 12 0), .int .u8 (List.getD rv1.f_Key.f_Src.f_B 13 0), .int .u8 (List.getD rv1.f_Key.f_Src.f_B 14 0), .int .u8 (List.getD rv1.f_Key.f_Src.f_B 15 0), .bool rv1.f_Key.f_Dst.f_Six, .int .u8 (List.getD rv1.f_Key.f_Dst.f_B 0 0), .int .u8 (List.getD rv1.f_Key.f_Dst.f_B 1 0), .int .u8 (List.getD rv1.f_Key.f_Dst.f_B 2 0), .int .u8 (List.getD rv1.f_Key.f_Dst.f_B 3 0), .int .u8 (List.getD rv1.f_Key.f_Dst.f_B 4 0), .int .u8 (List.getD rv1.f_Key.f_Dst.f_B 5 0), .int .u8 (List.getD rv1.f_Key.f_Dst.f_B 6 0), .int .u8 (List.getD rv1.f_Key.f_Dst.f_B 7 0), .int .u8 (List.getD rv1.f_Key.f_Dst.f_B 8 0), .int .u8 (List.getD rv1.f_Key.f_Dst.f_B 9 0), .int .u8 (List.getD rv1.f_Key.f_Dst.f_B 10 0), .int .u8 (List.getD rv1.f_Key.f_Dst.f_B 11 0), .int .u8 (List.getD rv1.f_Key.f_Dst.f_B 12 0), .int .u8 (List.getD rv1.f_Key.f_Dst.f_B 13 0), .int .u8 (List.getD rv1.f_Key.f_Dst.f_B 14 0), .int .u8 (List.getD rv1.f_Key.f_Dst.f_B 15 0), .int .u8 rv1.f_Key.f_Proto, .int .u16 rv1.f_Key.f_SrcPort, .int .u16 rv1.f_Key.f_DstPort, .int .u64 rv1.f_Packets, .int .u64 rv1.f_Bytes, .int .u64 rv1.f_First, .int .u64 rv1.f_Last, .int .u8 rv1.f_Flags, .int .u8 rv1.f_Reason, .int .u8 rv1.f_Class]) hM rfl rfl) rfl fun v w3 hv => ?_
  clear hM
  obtain ⟨g2, rfl, hM, hf⟩ := hv
  refine RL.val (O.assign rfl) rfl ?_
  refine RL.nil ?_
  refine KQ.then_n ?_
  refine KC.cut (fun a w10 => ∃ (t9 : Bool), Kn 28 [(2, .bool t9)] a ∧ Mem w [] w10 [] ∧ F_flow_Record_Right_j1 t9 = some r) ?_ ?_
  · refine KC.region ?_
    refine RL.val (O.fldA fl35_0 (by decide) rfl) rfl ?_
    refine RL.val (O.loadN (cs := [.bool rv1.f_Key.f_Src.f_Six, .int .u8 (List.getD rv1.f_Key.f_Src.f_B 0 0), .int .u8 (List.getD rv1.f_Key.f_Src.f_B 1 0), .int .u8 (List.getD rv1.f_Key.f_Src.f_B 2 0), .int .u8 (List.getD rv1.f_Key.f_Src.f_B 3 0), .int .u8 (List.getD rv1.f_Key.f_Src.f_B 4 0), .int .u8 (List.getD rv1.f_Key.f_Src.f_B 5 0), .int .u8 (List.getD rv1.f_Key.f_Src.f_B 6 0), .int .u8 (List.getD rv1.f_Key.f_Src.f_B 7 0), .int .u8 (List.getD rv1.f_Key.f_Src.f_B 8 0), .int .u8 (List.getD rv1.f_Key.f_Src.f_B 9 0), .int .u8 (List.getD rv1.f_Key.f_Src.f_B 10 0), .int .u8 (List.getD rv1.f_Key.f_Src.f_B 11 0), .int .u8 (List.getD rv1.f_Key.f_Src.f_B 12 0), .int .u8 (List.getD rv1.f_Key.f_Src.f_B 13 0), .int .u8 (List.getD rv1.f_Key.f_Src.f_B 14 0), .int .u8 (List.getD rv1.f_Key.f_Src.f_B 15 0), .bool rv1.f_Key.f_Dst.f_Six, .int .u8 (List.getD rv1.f_Key.f_Dst.f_B 0 0), .int .u8 (List.getD rv1.f_Key.f_Dst.f_B 1 0), .int .u8 (List.getD rv1.f_Key.f_Dst.f_B 2 0), .int .u8 (List.getD rv1.f_Key.f_Dst.f_B 3 0), .int .u8 (List.getD rv1.f_Key.f_Dst.f_B 4 0), .int .u8 (List.getD rv1.f_Key.f_Dst.f_B 5 0), .int .u8 (List.getD rv1.f_Key.f_Dst.f_B 6 0), .int .u8 (List.getD rv1.f_Key.f_Dst.f_B 7 0), .int .u8 (List.getD rv1.f_Key.f_Dst.f_B 8 0), .int .u8 (List.getD rv1.f_Key.f_Dst.f_B 9 0), .int .u8 (List.getD rv1.f_Key.f_Dst.f_B 10 0), .int .u8 (List.getD rv1.f_Key.f_Dst.f_B 11 0), .int .u8 (List.getD rv1.f_Key.f_Dst.f_B 12 0), .int .u8 (List.getD rv1.f_Key.f_Dst.f_B 13 0), .int .u8 (List.getD rv1.f_Key.f_Dst.f_B 14 0), .int .u8 (List.getD rv1.f_Key.f_Dst.f_B 15 0), .int .u8 rv1.f_Key.f_Proto, .int .u16 rv1.f_Key.f_SrcPort, .int .u16 rv1.f_Key.f_DstPort]) ag27 rfl (Cs.addsN [0] ((hM.bx (i := 0) rfl)) rfl)) rfl ?_
    refine obindE hF fun y5 hx6 hF => ?_
    refine RL.call Try.func30 bd30 rfl rfl (c_packet_Key_Right _ rv1.f_Key _ hx6) fun v w7 hv => ?_
    obtain ⟨rfl, hN8⟩ := hv
    replace hM := hM.call0 hN8
    refine RL.val (O.move rfl) rfl ?_
    refine RL.bcase (t := 6) rfl (fun hc => ?_) (fun hc => ?_)
    · rw [if_pos hc] at hF
      refine RL.gval rfl rfl (O.fldA fl35_1 (by decide) rfl) rfl ?_
      refine RL.gval rfl rfl (O.load sc30 rfl (Cs.adds [37] ((hM.bx (i := 0) rfl)) rfl)) rfl ?_
      refine RL.gval rfl rfl (O.gtr rfl rfl) rfl ?_
      refine RL.val (O.pickt rfl rfl) rfl ?_
      refine RL.val (O.move rfl) rfl ?_
      refine RL.bcase (t := 11) rfl (fun hc => ?_) (fun hc => ?_)
      · rw [if_pos hc] at hF
        refine RL.gval rfl rfl (O.fldA fl35_3 (by decide) rfl) rfl ?_
        refine RL.gval rfl rfl (O.load sc30 rfl (Cs.adds [39] ((hM.bx (i := 0) rfl)) rfl)) rfl ?_
        refine RL.gval rfl rfl (O.fldA fl35_4 (by decide) rfl) rfl ?_
        refine RL.gval rfl rfl (O.load sc30 rfl (Cs.adds [40] ((hM.bx (i := 0) rfl)) rfl)) rfl ?_
        refine RL.gval rfl rfl (O.leq rfl rfl) rfl ?_
        refine RL.val (O.pickt rfl rfl) rfl ?_
        refine RL.val (O.move rfl) rfl ?_
        refine RL.bcase (t := 18) rfl (fun hc => ?_) (fun hc => ?_)
        · rw [if_pos hc] at hF
          refine RL.gval rfl rfl (O.fldA fl35_6 (by decide) rfl) rfl ?_
          refine RL.gval rfl rfl (O.load sc5 rfl (Cs.adds [42] ((hM.bx (i := 0) rfl)) rfl)) rfl ?_
          refine RL.gval rfl rfl (O.geq rfl rfl) rfl ?_
          refine RL.val (O.pickt rfl rfl) rfl ?_
          refine RL.val (O.move rfl) rfl ?_
          refine RL.bcase (t := 23) rfl (fun hc => ?_) (fun hc => ?_)
          · rw [if_pos hc] at hF
            refine RL.gval rfl rfl (O.fldA fl35_6 (by decide) rfl) rfl ?_
            refine RL.gval rfl rfl (O.load sc5 rfl (Cs.adds [42] ((hM.bx (i := 0) rfl)) rfl)) rfl ?_
            refine RL.gval rfl rfl (O.leq rfl rfl) rfl ?_
            refine RL.val (O.pickt rfl rfl) rfl ?_
            refine RL.val (O.assign rfl) rfl ?_
            refine RL.nil ?_
            refine KQ.then_k ?_
            replace hM := hM.pick [] rfl (by decide)
            exact fun a ha => ⟨(decide (rv1.f_Reason ≤ 5)), ha.less (less_cons rfl less_nil), hM, hF⟩
          · rw [if_neg (ne_true hc)] at hF
            refine RL.brun1 4 27 false (by kernel_rfl) ?_
            refine RL.val (O.assign rfl) rfl ?_
            refine RL.nil ?_
            refine KQ.then_k ?_
            replace hM := hM.pick [] rfl (by decide)
            exact fun a ha => ⟨false, ha.less (less_cons rfl less_nil), hM, hF⟩
        · rw [if_neg (ne_true hc)] at hF
          refine RL.brun1 9 27 false (by kernel_rfl) ?_
          refine RL.val (O.assign rfl) rfl ?_
          refine RL.nil ?_
          refine KQ.then_k ?_
          replace hM := hM.pick [] rfl (by decide)
          exact fun a ha => ⟨false, ha.less (less_cons rfl less_nil), hM, hF⟩
      · rw [if_neg (ne_true hc)] at hF
        refine RL.brun1 16 27 false (by kernel_rfl) ?_
        refine RL.val (O.assign rfl) rfl ?_
        refine RL.nil ?_
        refine KQ.then_k ?_
        replace hM := hM.pick [] rfl (by decide)
        exact fun a ha => ⟨false, ha.less (less_cons rfl less_nil), hM, hF⟩
    · rw [if_neg (ne_true hc)] at hF
      refine RL.brun1 21 27 false (by kernel_rfl) ?_
      refine RL.val (O.assign rfl) rfl ?_
      refine RL.nil ?_
      refine KQ.then_k ?_
      replace hM := hM.pick [] rfl (by decide)
      exact fun a ha => ⟨false, ha.less (less_cons rfl less_nil), hM, hF⟩
  · rintro a w10 ⟨t9, ha, hM, hF⟩
    refine KC.app ha ?_
    clear ha
    unfold F_flow_Record_Right_j1 at hF
    refine KC.ret ?_
    obtain rfl := Option.some.inj hF
    refine KQ.rets Try.results12 (RVs.cons (RV.tm rfl) RVs.nil) ?_
    exact ⟨_, rfl, rfl, hM⟩
set_option maxRecDepth 100000 in
set_option maxHeartbeats 40000000 in
theorem c_bytes_Clone (w : World) (A2 : Option Addr) (c3 : Nat) (b1 : List Int) (hr4 : Rd w A2 c3 1 b1.length (b1.flatMap (eI .u8))) (r : (List Int)) (hF : F_bytes_Clone b1 = some r) :
    CallsR Try.prog 47 [.slice A2 (b1).length c3] w (fun v w' => ∃ (A0 : Option Addr) (c0 : Nat), v = .slice A0 (r).length c0 ∧ Mem w [] w' [.row A0 c0 5 1 r.length (r.flatMap (eI .u8))]) := by
  refine calls_KC Try.func47 rfl Try.ntmps47 rfl ?_
  have hM := Mem.init w
  unfold F_bytes_Clone at hF
  refine KC.seq ?_
  refine KC.region ?_
  refine RL.val (O.assign rfl) rfl ?_
  refine RL.nil ?_
  refine KQ.then_n ?_
  refine KC.seq ?_
  refine KC.seq ?_
  refine KC.region ?_
  refine RL.val (O.move rfl) rfl ?_
  refine RL.val (O.sleqn sl74 rfl rfl) rfl ?_
  refine RL.nil ?_
  refine KQ.then_n ?_
  refine KC.cond rfl (fun hc => ?_) (fun hc => ?_)
  · have hz5 := Rd.none_nil (hM.inp hr4 Off.nil) (hc)
    have hF : (some ([])) = some r := by (rw [hz5] at hF; simpa [lim] using hF)
    refine KC.seq ?_
    refine KC.region ?_
    refine RL.val (O.assign rfl) rfl ?_
    refine RL.nil ?_
    refine KQ.then_n ?_
    refine KC.ret ?_
    refine KQ.then_r ?_
    obtain rfl := Option.some.inj hF
    replace hM := hM.nilrow 5 1
    refine KQ.rets Try.results47 (RVs.cons (RV.tm rfl) RVs.nil) ?_
    exact ⟨_, rfl, none, 0, rfl, hM⟩
  · refine KC.skip ?_
    refine KQ.then_n ?_
    refine KC.seq ?_
    refine KC.region ?_
    refine RL.eff (E.bsl0 hM sl74) rfl fun v w6 hv => ?_
    clear hM
    obtain ⟨A7, rfl, hM, hf⟩ := hv
    refine RL.val (O.move rfl) rfl ?_
    refine cut_someE hF fun hq12 hF => ?_
    refine RL.eff (E.app (enc := (eI .u8)) (xs := ([] : List Int)) (ys := b1) (j := 0) hM rfl sl74 ze5 rfl rfl rfl rfl rfl (hM.inp hr4 Off.nil) (fun _ => One.all rfl) (of_decide_eq_true hq12)) rfl fun v w11 hv => ?_
    clear hM
    obtain ⟨A9, c10, rfl, hM, hf⟩ := hv
    refine RL.val (O.assign rfl) rfl ?_
    refine RL.nil ?_
    refine KQ.then_n ?_
    refine KC.ret ?_
    obtain rfl := Option.some.inj hF
    refine KQ.rets Try.results47 (RVs.cons (RV.tm rfl) RVs.nil) ?_
    exact ⟨_, rfl, A9, c10, rfl, hM⟩
set_option maxRecDepth 100000 in
set_option maxHeartbeats 40000000 in
theorem c_addr_Addr_Bytes (w : World) (av1 : T_addr_Addr) (r : (List Int)) (hF : F_addr_Addr_Bytes av1 = some r) :
    CallsR Try.prog 35 [.agg #[.bool av1.f_Six, .int .u8 (List.getD av1.f_B 0 0), .int .u8 (List.getD av1.f_B 1 0), .int .u8 (List.getD av1.f_B 2 0), .int .u8 (List.getD av1.f_B 3 0), .int .u8 (List.getD av1.f_B 4 0), .int .u8 (List.getD av1.f_B 5 0), .int .u8 (List.getD av1.f_B 6 0), .int .u8 (List.getD av1.f_B 7 0), .int .u8 (List.getD av1.f_B 8 0), .int .u8 (List.getD av1.f_B 9 0), .int .u8 (List.getD av1.f_B 10 0), .int .u8 (List.getD av1.f_B 11 0), .int .u8 (List.getD av1.f_B 12 0), .int .u8 (List.getD av1.f_B 13 0), .int .u8 (List.getD av1.f_B 14 0), .int .u8 (List.getD av1.f_B 15 0)]] w (fun v w' => ∃ (A0 : Option Addr) (c0 : Nat), v = .slice A0 (r).length c0 ∧ Mem w [] w' [.row A0 c0 5 1 r.length (r.flatMap (eI .u8))]) := by
  refine calls_KC Try.func35 rfl Try.ntmps35 rfl ?_
  have hM := Mem.init w
  unfold F_addr_Addr_Bytes at hF
  refine KC.seq ?_
  refine KC.region ?_
  refine RL.eff (E.box (vs := [.bool av1.f_Six, .int .u8 (List.getD av1.f_B 0 0), .int .u8 (List.getD av1.f_B 1 0), .int .u8 (List.getD av1.f_B 2 0), .int .u8 (List.getD av1.f_B 3 0), .int .u8 (List.getD av1.f_B 4 0), .int .u8 (List.getD av1.f_B 5 0), .int .u8 (List.getD av1.f_B 6 0), .int .u8 (List.getD av1.f_B 7 0), .int .u8 (List.getD av1.f_B 8 0), .int .u8 (List.getD av1.f_B 9 0), .int .u8 (List.getD av1.f_B 10 0), .int .u8 (List.getD av1.f_B 11 0), .int .u8 (List.getD av1.f_B 12 0), .int .u8 (List.getD av1.f_B 13 0), .int .u8 (List.getD av1.f_B 14 0), .int .u8 (List.getD av1.f_B 15 0)]) hM rfl rfl) rfl fun v w3 hv => ?_
  clear hM
  obtain ⟨g2, rfl, hM, hf⟩ := hv
  refine RL.val (O.assign rfl) rfl ?_
  refine RL.nil ?_
  refine KQ.then_n ?_
  refine KC.seq ?_
  refine KC.region ?_
  refine RL.val (O.fldA fl24_1 (by decide) rfl) rfl ?_
  refine RL.val (O.loadN (cs := [.bool av1.f_Six, .int .u8 (List.getD av1.f_B 0 0), .int .u8 (List.getD av1.f_B 1 0), .int .u8 (List.getD av1.f_B 2 0), .int .u8 (List.getD av1.f_B 3 0), .int .u8 (List.getD av1.f_B 4 0), .int .u8 (List.getD av1.f_B 5 0), .int .u8 (List.getD av1.f_B 6 0), .int .u8 (List.getD av1.f_B 7 0), .int .u8 (List.getD av1.f_B 8 0), .int .u8 (List.getD av1.f_B 9 0), .int .u8 (List.getD av1.f_B 10 0), .int .u8 (List.getD av1.f_B 11 0), .int .u8 (List.getD av1.f_B 12 0), .int .u8 (List.getD av1.f_B 13 0), .int .u8 (List.getD av1.f_B 14 0), .int .u8 (List.getD av1.f_B 15 0)]) ag24 rfl (Cs.addsN [] ((hM.bx (i := 0) rfl)) rfl)) rfl ?_
  refine obindE hF fun y5 hx6 hF => ?_
  refine RL.call Try.func48 bd48 rfl rfl (c_addr_Addr_size _ av1 _ hx6) fun v w7 hv => ?_
  obtain ⟨rfl, hN8⟩ := hv
  replace hM := hM.call0 hN8
  refine obindE hF fun cut10 hy11 hF => ?_
  have hr9 := Rd.arrTo (n := 16) (k := .u8) (xs := av1.f_B) (Cs.addsN [1] (hM.bx (i := 0) rfl) rfl) rfl rfl hy11
  refine RL.val (O.slArrTo Try.underlying22 sz5 rfl hy11 rfl rfl) rfl ?_
  refine obindE hF fun y12 hx13 hF => ?_
  refine RL.call Try.func47 bd47 rfl rfl (c_bytes_Clone _ _ _ cut10 hr9 _ hx13) fun v w14 hv => ?_
  obtain ⟨A16, c17, rfl, hN15⟩ := hv
  have hr9 := hr9.fut hN15.fut
  replace hM := hM.call hN15
  refine RL.val (O.assign rfl) rfl ?_
  refine RL.nil ?_
  refine KQ.then_n ?_
  refine KC.ret ?_
  obtain rfl := Option.some.inj hF
  replace hM := hM.pick [1] rfl (by decide)
  refine KQ.rets Try.results35 (RVs.cons (RV.tm rfl) RVs.nil) ?_
  exact ⟨_, rfl, A16, c17, rfl, hM⟩
end Go.Proofs.Yteafnfoponjoeaa
