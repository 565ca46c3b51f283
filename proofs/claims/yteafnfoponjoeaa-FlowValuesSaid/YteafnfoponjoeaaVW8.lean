/- Printed by a program of this claim: each call returns what the plain function of its name gives. -/
import Derived.Test.YteafnfoponjoeaaVW7
set_option linter.unusedVariables false
namespace Go.Proofs.Yteafnfoponjoeaa
open Go Go.Ox Go.RowKit
set_option maxRecDepth 100000 in
set_option maxHeartbeats 40000000 in
theorem c_law22_works (w : World) (r : Bool) (hF : F_law22_works = some r) :
    CallsR Try.prog 6 [] w (fun v w' => v = .bool r ∧ Mem w [] w' []) := by
  refine calls_KC Try.func6 rfl Try.ntmps6 rfl ?_
  have hM := Mem.init w
  unfold F_law22_works at hF
  refine KC.seq ?_
  refine KC.region ?_
  refine RL.val (O.assign rfl) rfl ?_
  refine RL.nil ?_
  refine KQ.then_n ?_
  refine KC.seq ?_
  refine KC.region ?_
  refine RL.val (O.assign rfl) rfl ?_
  refine RL.val (O.assign rfl) rfl ?_
  refine RL.nil ?_
  refine KQ.then_n ?_
  refine KC.seq ?_
  refine KC.region ?_
  refine obindE hF fun y1 hx2 hF => ?_
  refine RL.call Try.func22 bd22 rfl rfl (c_flow_Specs _ false _ hx2) fun v w3 hv => ?_
  obtain ⟨A5, c6, rfl, hN4⟩ := hv
  replace hM := hM.call hN4
  refine obindE hF fun y8 hx9 hF => ?_
  refine RL.call Try.func22 bd22 rfl rfl (c_flow_Specs _ true _ hx9) fun v w10 hv => ?_
  obtain ⟨A12, c13, rfl, hN11⟩ := hv
  replace hM := hM.call hN11
  refine RL.val (O.assign rfl) rfl ?_
  refine RL.val (O.assign rfl) rfl ?_
  refine RL.nil ?_
  refine KQ.then_n ?_
  refine KC.seq ?_
  refine KC.seq ?_
  refine KC.region ?_
  refine RL.val (O.assign rfl) rfl ?_
  refine RL.nil ?_
  refine KQ.then_n ?_
  refine KC.block ?_
  refine KC.loop (fun k47 a w45 => ∃ (nv40 : Int) (m41 : Int) (i44 : Int), Kn 59 [(1, .int .i64 nv40), (2, .int .i64 m41), (3, .slice A5 (y1).length c6), (4, .slice A12 (y8).length c13), (5, .int .i64 i44)] a ∧ Mem w [] w45 [.row A5 c6 79 3 (y1).length ((y1).flatMap e_field_Spec), .row A12 c13 79 3 (y8).length ((y8).flatMap e_field_Spec)] ∧ F_law22_works_L1 y1 y8 k47 nv40 m41 i44 = some r) ?_ ?_
  · exact fun a ha => ⟨fuel0, 0, 0, 0, ha.less (less_cons rfl (less_cons rfl (less_cons rfl (less_cons rfl (less_cons rfl less_nil))))), hM, hF⟩
  · rintro k47 a w45 ⟨nv40, m41, i44, ha, hM, hF⟩
    refine KC.app ha ?_
    clear ha
    cases k47 with
    | zero => exact (none_some hF).elim
    | succ k47 =>
    have hF : F_law22_works_l1 (F_law22_works_L1 y1 y8 k47) y1 y8 nv40 m41 i44 = some r := hF
    unfold F_law22_works_l1 at hF
    refine KC.seq ?_
    refine KC.cut (fun a w51 => ∃ (t50 : Bool), Kn 59 [(1, .int .i64 nv40), (2, .int .i64 m41), (3, .slice A5 (y1).length c6), (4, .slice A12 (y8).length c13), (5, .int .i64 i44), (18, .bool t50)] a ∧ Mem w [] w51 [.row A5 c6 79 3 (y1).length ((y1).flatMap e_field_Spec), .row A12 c13 79 3 (y8).length ((y8).flatMap e_field_Spec)] ∧ F_law22_works_j1 y1 y8 nv40 m41 i44 (F_law22_works_L1 y1 y8 k47) t50 = some r) ?_ ?_
    · refine KC.region ?_
      refine RL.val (O.move rfl) rfl ?_
      refine RL.val (O.move rfl) rfl ?_
      refine RL.val (O.len sl67 rfl) rfl ?_
      refine RL.val (O.lss rfl rfl) rfl ?_
      refine RL.val (O.move rfl) rfl ?_
      refine RL.bcase (t := 13) rfl (fun hc => ?_) (fun hc => ?_)
      · rw [if_pos hc] at hF
        refine RL.gval rfl rfl (O.move rfl) rfl ?_
        refine RL.gval rfl rfl (O.move rfl) rfl ?_
        refine RL.gval rfl rfl (O.len sl67 rfl) rfl ?_
        refine RL.gval rfl rfl (O.lss rfl rfl) rfl ?_
        refine RL.val (O.pickt rfl rfl) rfl ?_
        refine RL.nil ?_
        refine KQ.then_k ?_
        exact fun a ha => ⟨(decide (i44 < (y8.length : Int))), ha.less (less_cons rfl (less_cons rfl (less_cons rfl (less_cons rfl (less_cons rfl (less_cons rfl less_nil)))))), hM, hF⟩
      · rw [if_neg (ne_true hc)] at hF
        refine RL.gskip rfl rfl rfl rfl ?_
        refine RL.gskip rfl rfl rfl rfl ?_
        refine RL.gskip rfl rfl rfl rfl ?_
        refine RL.gskip rfl rfl rfl rfl ?_
        refine RL.val (O.pickf rfl rfl) rfl ?_
        refine RL.nil ?_
        refine KQ.then_k ?_
        exact fun a ha => ⟨false, ha.less (less_cons rfl (less_cons rfl (less_cons rfl (less_cons rfl (less_cons rfl (less_cons rfl less_nil)))))), hM, hF⟩
    · rintro a w51 ⟨t50, ha, hM, hF⟩
      refine KC.app ha ?_
      clear ha
      unfold F_law22_works_j1 at hF
      refine KC.cond rfl (fun hc => ?_) (fun hc => ?_)
      · rw [if_pos hc] at hF
        refine KC.skip ?_
        refine KQ.then_n ?_
        refine KC.seq ?_
        refine KC.block ?_
        refine KC.seq ?_
        refine KC.region ?_
        refine RL.val (O.move rfl) rfl ?_
        refine RL.val (O.move rfl) rfl ?_
        refine RL.val (O.move rfl) rfl ?_
        refine obindE hF fun xv54 hx53 hF => ?_
        have hA52 := Rd.atN (f := e_field_Spec) (s := 3) (fun _ => rfl) (by decide) (hM.rd (i := 0) rfl) hx53
        refine RL.val (O.idxA sl67 (hA52) rfl rfl) rfl ?_
        refine RL.val (O.fldA fl79_2 (by decide) rfl) rfl ?_
        refine RL.val (O.load sc25 rfl (Cs.adds [2] (hA52).cells rfl)) rfl ?_
        refine RL.val (O.conv un25 Try.underlying3 rfl) rfl ?_
        refine RL.val (O.add rfl rfl) rfl ?_
        refine RL.val (O.assign rfl) rfl ?_
        refine RL.nil ?_
        refine KQ.then_n ?_
        refine KC.region ?_
        refine RL.val (O.move rfl) rfl ?_
        refine RL.val (O.move rfl) rfl ?_
        refine RL.val (O.move rfl) rfl ?_
        refine obindE hF fun xv57 hx56 hF => ?_
        have hA55 := Rd.atN (f := e_field_Spec) (s := 3) (fun _ => rfl) (by decide) (hM.rd (i := 1) rfl) hx56
        refine RL.val (O.idxA sl67 (hA55) rfl rfl) rfl ?_
        refine RL.val (O.fldA fl79_2 (by decide) rfl) rfl ?_
        refine RL.val (O.load sc25 rfl (Cs.adds [2] (hA55).cells rfl)) rfl ?_
        refine RL.val (O.conv un25 Try.underlying3 rfl) rfl ?_
        refine RL.val (O.add rfl rfl) rfl ?_
        refine RL.val (O.assign rfl) rfl ?_
        refine RL.nil ?_
        refine KQ.blk_n ?_
        refine KQ.then_n ?_
        refine KC.region ?_
        refine RL.val (O.move rfl) rfl ?_
        refine RL.val (O.add rfl rfl) rfl ?_
        refine RL.val (O.assign rfl) rfl ?_
        refine RL.nil ?_
        refine KQ.then_k ?_
        exact fun a ha => ⟨k47, Nat.lt_succ_self k47, (IntKind.i64.wrap (nv40 + (IntKind.i64.wrap xv54.f_Len))), (IntKind.i64.wrap (m41 + (IntKind.i64.wrap xv57.f_Len))), (IntKind.i64.wrap (i44 + 1)), ha.less (less_cons rfl (less_cons rfl (less_cons rfl (less_cons rfl (less_cons rfl less_nil))))), hM, hF⟩
      · rw [if_neg (ne_true hc)] at hF
        refine KC.exit ?_
        refine KQ.then_x ?_
        refine KQ.then_x ?_
        refine KQ.blk_x ?_
        refine KQ.then_n ?_
        refine KC.seq ?_
        refine KC.region ?_
        refine RL.val (O.bld (cs := [.bool false, .int .u8 (List.getD (List.replicate 16 0) 0 0), .int .u8 (List.getD (List.replicate 16 0) 1 0), .int .u8 (List.getD (List.replicate 16 0) 2 0), .int .u8 (List.getD (List.replicate 16 0) 3 0), .int .u8 (List.getD (List.replicate 16 0) 4 0), .int .u8 (List.getD (List.replicate 16 0) 5 0), .int .u8 (List.getD (List.replicate 16 0) 6 0), .int .u8 (List.getD (List.replicate 16 0) 7 0), .int .u8 (List.getD (List.replicate 16 0) 8 0), .int .u8 (List.getD (List.replicate 16 0) 9 0), .int .u8 (List.getD (List.replicate 16 0) 10 0), .int .u8 (List.getD (List.replicate 16 0) 11 0), .int .u8 (List.getD (List.replicate 16 0) 12 0), .int .u8 (List.getD (List.replicate 16 0) 13 0), .int .u8 (List.getD (List.replicate 16 0) 14 0), .int .u8 (List.getD (List.replicate 16 0) 15 0), .bool false, .int .u8 (List.getD (List.replicate 16 0) 0 0), .int .u8 (List.getD (List.replicate 16 0) 1 0), .int .u8 (List.getD (List.replicate 16 0) 2 0), .int .u8 (List.getD (List.replicate 16 0) 3 0), .int .u8 (List.getD (List.replicate 16 0) 4 0), .int .u8 (List.getD (List.replicate 16 0) 5 0), .int .u8 (List.getD (List.replicate 16 0) 6 0), .int .u8 (List.getD (List.replicate 16 0) 7 0), .int .u8 (List.getD (List.replicate 16 0) 8 0), .int .u8 (List.getD (List.replicate 16 0) 9 0), .int .u8 (List.getD (List.replicate 16 0) 10 0), .int .u8 (List.getD (List.replicate 16 0) 11 0), .int .u8 (List.getD (List.replicate 16 0) 12 0), .int .u8 (List.getD (List.replicate 16 0) 13 0), .int .u8 (List.getD (List.replicate 16 0) 14 0), .int .u8 (List.getD (List.replicate 16 0) 15 0), .int .u8 0, .int .u16 0, .int .u16 0]) bt27 rfl (by kernel_rfl)) rfl ?_
        refine obindE hF fun y58 hx59 hF => ?_
        refine RL.call Try.func7 bd7 rfl rfl (c_flow_Start _ (T_packet_Key.mk (T_addr_Addr.mk false (List.replicate 16 0)) (T_addr_Addr.mk false (List.replicate 16 0)) 0 0 0) 2 5 _ hx59) fun v w60 hv => ?_
        obtain ⟨rfl, hN61⟩ := hv
        replace hM := hM.call0 hN61
        refine RL.val (O.bld (cs := [.bool false, .int .u8 (List.getD (List.replicate 16 0) 0 0), .int .u8 (List.getD (List.replicate 16 0) 1 0), .int .u8 (List.getD (List.replicate 16 0) 2 0), .int .u8 (List.getD (List.replicate 16 0) 3 0), .int .u8 (List.getD (List.replicate 16 0) 4 0), .int .u8 (List.getD (List.replicate 16 0) 5 0), .int .u8 (List.getD (List.replicate 16 0) 6 0), .int .u8 (List.getD (List.replicate 16 0) 7 0), .int .u8 (List.getD (List.replicate 16 0) 8 0), .int .u8 (List.getD (List.replicate 16 0) 9 0), .int .u8 (List.getD (List.replicate 16 0) 10 0), .int .u8 (List.getD (List.replicate 16 0) 11 0), .int .u8 (List.getD (List.replicate 16 0) 12 0), .int .u8 (List.getD (List.replicate 16 0) 13 0), .int .u8 (List.getD (List.replicate 16 0) 14 0), .int .u8 (List.getD (List.replicate 16 0) 15 0), .bool false, .int .u8 (List.getD (List.replicate 16 0) 0 0), .int .u8 (List.getD (List.replicate 16 0) 1 0), .int .u8 (List.getD (List.replicate 16 0) 2 0), .int .u8 (List.getD (List.replicate 16 0) 3 0), .int .u8 (List.getD (List.replicate 16 0) 4 0), .int .u8 (List.getD (List.replicate 16 0) 5 0), .int .u8 (List.getD (List.replicate 16 0) 6 0), .int .u8 (List.getD (List.replicate 16 0) 7 0), .int .u8 (List.getD (List.replicate 16 0) 8 0), .int .u8 (List.getD (List.replicate 16 0) 9 0), .int .u8 (List.getD (List.replicate 16 0) 10 0), .int .u8 (List.getD (List.replicate 16 0) 11 0), .int .u8 (List.getD (List.replicate 16 0) 12 0), .int .u8 (List.getD (List.replicate 16 0) 13 0), .int .u8 (List.getD (List.replicate 16 0) 14 0), .int .u8 (List.getD (List.replicate 16 0) 15 0), .int .u8 0, .int .u16 0, .int .u16 0, .int .i64 40, .int .u8 2, .bool false]) bt39 rfl (by kernel_rfl)) rfl ?_
        refine obindE hF fun y62 hx63 hF => ?_
        refine RL.call Try.func8 bd8 rfl rfl (c_flow_Record_With _ y58 (T_packet_Packet.mk (T_packet_Key.mk (T_addr_Addr.mk false (List.replicate 16 0)) (T_addr_Addr.mk false (List.replicate 16 0)) 0 0 0) 40 2 false) 9 _ hx63) fun v w64 hv => ?_
        obtain ⟨rfl, hN65⟩ := hv
        replace hM := hM.call0 hN65
        refine RL.eff (E.alloc hM ze35) rfl fun v w67 hv => ?_
        clear hM
        obtain ⟨g66, rfl, hM, hf⟩ := hv
        refine RL.effs (E.stB (j := 2) (off := 0) (vs := [.bool y62.f_Key.f_Src.f_Six, .int .u8 (List.getD y62.f_Key.f_Src.f_B 0 0), .int .u8 (List.getD y62.f_Key.f_Src.f_B 1 0), .int .u8 (List.getD y62.f_Key.f_Src.f_B 2 0), .int .u8 (List.getD y62.f_Key.f_Src.f_B 3 0), .int .u8 (List.getD y62.f_Key.f_Src.f_B 4 0), .int .u8 (List.getD y62.f_Key.f_Src.f_B 5 0), .int .u8 (List.getD y62.f_Key.f_Src.f_B 6 0), .int .u8 (List.getD y62.f_Key.f_Src.f_B 7 0), .int .u8 (List.getD y62.f_Key.f_Src.f_B 8 0), .int .u8 (List.getD y62.f_Key.f_Src.f_B 9 0), .int .u8 (List.getD y62.f_Key.f_Src.f_B 10 0), .int .u8 (List.getD y62.f_Key.f_Src.f_B 11 0), .int .u8 (List.getD y62.f_Key.f_Src.f_B 12 0), .int .u8 (List.getD y62.f_Key.f_Src.f_B 13 0), .int .u8 (List.getD y62.f_Key.f_Src.f_B 14 0), .int .u8 (List.getD y62.f_Key.f_Src.f_B 15 0), .bool y62.f_Key.f_Dst.f_Six, .int .u8 (List.getD y62.f_Key.f_Dst.f_B 0 0), .int .u8 (List.getD y62.f_Key.f_Dst.f_B 1 0), .int .u8 (List.getD y62.f_Key.f_Dst.f_B 2 0), .int .u8 (List.getD y62.f_Key.f_Dst.f_B 3 0), .int .u8 (List.getD y62.f_Key.f_Dst.f_B 4 0), .int .u8 (List.getD y62.f_Key.f_Dst.f_B 5 0), .int .u8 (List.getD y62.f_Key.f_Dst.f_B 6 0), .int .u8 (List.getD y62.f_Key.f_Dst.f_B 7 0), .int .u8 (List.getD y62.f_Key.f_Dst.f_B 8 0), .int .u8 (List.getD y62.f_Key.f_Dst.f_B 9 0), .int .u8 (List.getD y62.f_Key.f_Dst.f_B 10 0), .int .u8 (List.getD y62.f_Key.f_Dst.f_B 11 0), .int .u8 (List.getD y62.f_Key.f_Dst.f_B 12 0), .int .u8 (List.getD y62.f_Key.f_Dst.f_B 13 0), .int .u8 (List.getD y62.f_Key.f_Dst.f_B 14 0), .int .u8 (List.getD y62.f_Key.f_Dst.f_B 15 0), .int .u8 y62.f_Key.f_Proto, .int .u16 y62.f_Key.f_SrcPort, .int .u16 y62.f_Key.f_DstPort, .int .u64 y62.f_Packets, .int .u64 y62.f_Bytes, .int .u64 y62.f_First, .int .u64 y62.f_Last, .int .u8 y62.f_Flags, .int .u8 y62.f_Reason, .int .u8 y62.f_Class]) (cs' := [.bool y62.f_Key.f_Src.f_Six, .int .u8 (List.getD y62.f_Key.f_Src.f_B 0 0), .int .u8 (List.getD y62.f_Key.f_Src.f_B 1 0), .int .u8 (List.getD y62.f_Key.f_Src.f_B 2 0), .int .u8 (List.getD y62.f_Key.f_Src.f_B 3 0), .int .u8 (List.getD y62.f_Key.f_Src.f_B 4 0), .int .u8 (List.getD y62.f_Key.f_Src.f_B 5 0), .int .u8 (List.getD y62.f_Key.f_Src.f_B 6 0), .int .u8 (List.getD y62.f_Key.f_Src.f_B 7 0), .int .u8 (List.getD y62.f_Key.f_Src.f_B 8 0), .int .u8 (List.getD y62.f_Key.f_Src.f_B 9 0), .int .u8 (List.getD y62.f_Key.f_Src.f_B 10 0), .int .u8 (List.getD y62.f_Key.f_Src.f_B 11 0), .int .u8 (List.getD y62.f_Key.f_Src.f_B 12 0), .int .u8 (List.getD y62.f_Key.f_Src.f_B 13 0), .int .u8 (List.getD y62.f_Key.f_Src.f_B 14 0), .int .u8 (List.getD y62.f_Key.f_Src.f_B 15 0), .bool y62.f_Key.f_Dst.f_Six, .int .u8 (List.getD y62.f_Key.f_Dst.f_B 0 0), .int .u8 (List.getD y62.f_Key.f_Dst.f_B 1 0), .int .u8 (List.getD y62.f_Key.f_Dst.f_B 2 0), .int .u8 (List.getD y62.f_Key.f_Dst.f_B 3 0), .int .u8 (List.getD y62.f_Key.f_Dst.f_B 4 0), .int .u8 (List.getD y62.f_Key.f_Dst.f_B 5 0), .int .u8 (List.getD y62.f_Key.f_Dst.f_B 6 0), .int .u8 (List.getD y62.f_Key.f_Dst.f_B 7 0), .int .u8 (List.getD y62.f_Key.f_Dst.f_B 8 0), .int .u8 (List.getD y62.f_Key.f_Dst.f_B 9 0), .int .u8 (List.getD y62.f_Key.f_Dst.f_B 10 0), .int .u8 (List.getD y62.f_Key.f_Dst.f_B 11 0), .int .u8 (List.getD y62.f_Key.f_Dst.f_B 12 0), .int .u8 (List.getD y62.f_Key.f_Dst.f_B 13 0), .int .u8 (List.getD y62.f_Key.f_Dst.f_B 14 0), .int .u8 (List.getD y62.f_Key.f_Dst.f_B 15 0), .int .u8 y62.f_Key.f_Proto, .int .u16 y62.f_Key.f_SrcPort, .int .u16 y62.f_Key.f_DstPort, .int .u64 y62.f_Packets, .int .u64 y62.f_Bytes, .int .u64 y62.f_First, .int .u64 y62.f_Last, .int .u8 y62.f_Flags, .int .u8 y62.f_Reason, .int .u8 y62.f_Class]) hM rfl sz35 rfl (adds_eq [] rfl) rfl rfl (One.all rfl) rfl rfl) fun w69 hM1 => ?_
        clear hM
        have hM := hM1
        clear hM1
        refine RL.nil ?_
        refine KQ.then_n ?_
        refine KC.cut (fun a w75 => ∃ (t74 : Bool), Kn 59 [(0, .bool t74)] a ∧ Mem w [] w75 [] ∧ F_law22_works_j2 t74 = some r) ?_ ?_
        · refine KC.region ?_
          refine RL.val (O.move rfl) rfl ?_
          refine RL.val (O.eql rfl rfl) rfl ?_
          refine RL.val (O.move rfl) rfl ?_
          refine RL.bcase (t := 43) rfl (fun hc => ?_) (fun hc => ?_)
          · rw [if_pos hc] at hF
            refine RL.gval rfl rfl (O.move rfl) rfl ?_
            refine RL.gval rfl rfl (O.eql rfl rfl) rfl ?_
            refine RL.val (O.pickt rfl rfl) rfl ?_
            refine RL.val (O.move rfl) rfl ?_
            refine RL.bcase (t := 47) rfl (fun hc => ?_) (fun hc => ?_)
            · rw [if_pos hc] at hF
              refine RL.gval rfl rfl (O.loadN (cs := [.bool y62.f_Key.f_Src.f_Six, .int .u8 (List.getD y62.f_Key.f_Src.f_B 0 0), .int .u8 (List.getD y62.f_Key.f_Src.f_B 1 0), .int .u8 (List.getD y62.f_Key.f_Src.f_B 2 0), .int .u8 (List.getD y62.f_Key.f_Src.f_B 3 0), .int .u8 (List.getD y62.f_Key.f_Src.f_B 4 0), .int .u8 (List.getD y62.f_Key.f_Src.f_B 5 0), .int .u8 (List.getD y62.f_Key.f_Src.f_B 6 0), .int .u8 (List.getD y62.f_Key.f_Src.f_B 7 0), .int .u8 (List.getD y62.f_Key.f_Src.f_B 8 0), .int .u8 (List.getD y62.f_Key.f_Src.f_B 9 0), .int .u8 (List.getD y62.f_Key.f_Src.f_B 10 0), .int .u8 (List.getD y62.f_Key.f_Src.f_B 11 0), .int .u8 (List.getD y62.f_Key.f_Src.f_B 12 0), .int .u8 (List.getD y62.f_Key.f_Src.f_B 13 0), .int .u8 (List.getD y62.f_Key.f_Src.f_B 14 0), .int .u8 (List.getD y62.f_Key.f_Src.f_B 15 0), .bool y62.f_Key.f_Dst.f_Six, .int .u8 (List.getD y62.f_Key.f_Dst.f_B 0 0), .int .u8 (List.getD y62.f_Key.f_Dst.f_B 1 0), .int .u8 (List.getD y62.f_Key.f_Dst.f_B 2 0), .int .u8 (List.getD y62.f_Key.f_Dst.f_B 3 0), .int .u8 (List.getD y62.f_Key.f_Dst.f_B 4 0), .int .u8 (List.getD y62.f_Key.f_Dst.f_B 5 0), .int .u8 (List.getD y62.f_Key.f_Dst.f_B 6 0), .int .u8 (List.getD y62.f_Key.f_Dst.f_B 7 0), .int .u8 (List.getD y62.f_Key.f_Dst.f_B 8 0), .int .u8 (List.getD y62.f_Key.f_Dst.f_B 9 0), .int .u8 (List.getD y62.f_Key.f_Dst.f_B 10 0), .int .u8 (List.getD y62.f_Key.f_Dst.f_B 11 0), .int .u8 (List.getD y62.f_Key.f_Dst.f_B 12 0), .int .u8 (List.getD y62.f_Key.f_Dst.f_B 13 0), .int .u8 (List.getD y62.f_Key.f_Dst.f_B 14 0), .int .u8 (List.getD y62.f_Key.f_Dst.f_B 15 0), .int .u8 y62.f_Key.f_Proto, .int .u16 y62.f_Key.f_SrcPort, .int .u16 y62.f_Key.f_DstPort, .int .u64 y62.f_Packets, .int .u64 y62.f_Bytes, .int .u64 y62.f_First, .int .u64 y62.f_Last, .int .u8 y62.f_Flags, .int .u8 y62.f_Reason, .int .u8 y62.f_Class]) ag35 rfl (Cs.addsN [] ((hM.bx (i := 2) rfl)) rfl)) rfl ?_
              refine RL.gval rfl rfl (O.bld (cs := [.bool false, .int .u8 (List.getD (List.replicate 16 0) 0 0), .int .u8 (List.getD (List.replicate 16 0) 1 0), .int .u8 (List.getD (List.replicate 16 0) 2 0), .int .u8 (List.getD (List.replicate 16 0) 3 0), .int .u8 (List.getD (List.replicate 16 0) 4 0), .int .u8 (List.getD (List.replicate 16 0) 5 0), .int .u8 (List.getD (List.replicate 16 0) 6 0), .int .u8 (List.getD (List.replicate 16 0) 7 0), .int .u8 (List.getD (List.replicate 16 0) 8 0), .int .u8 (List.getD (List.replicate 16 0) 9 0), .int .u8 (List.getD (List.replicate 16 0) 10 0), .int .u8 (List.getD (List.replicate 16 0) 11 0), .int .u8 (List.getD (List.replicate 16 0) 12 0), .int .u8 (List.getD (List.replicate 16 0) 13 0), .int .u8 (List.getD (List.replicate 16 0) 14 0), .int .u8 (List.getD (List.replicate 16 0) 15 0), .bool false, .int .u8 (List.getD (List.replicate 16 0) 0 0), .int .u8 (List.getD (List.replicate 16 0) 1 0), .int .u8 (List.getD (List.replicate 16 0) 2 0), .int .u8 (List.getD (List.replicate 16 0) 3 0), .int .u8 (List.getD (List.replicate 16 0) 4 0), .int .u8 (List.getD (List.replicate 16 0) 5 0), .int .u8 (List.getD (List.replicate 16 0) 6 0), .int .u8 (List.getD (List.replicate 16 0) 7 0), .int .u8 (List.getD (List.replicate 16 0) 8 0), .int .u8 (List.getD (List.replicate 16 0) 9 0), .int .u8 (List.getD (List.replicate 16 0) 10 0), .int .u8 (List.getD (List.replicate 16 0) 11 0), .int .u8 (List.getD (List.replicate 16 0) 12 0), .int .u8 (List.getD (List.replicate 16 0) 13 0), .int .u8 (List.getD (List.replicate 16 0) 14 0), .int .u8 (List.getD (List.replicate 16 0) 15 0), .int .u8 0, .int .u16 0, .int .u16 0, .int .u64 1, .int .u64 40, .int .u64 5, .int .u64 9, .int .u8 2, .int .u8 0, .int .u8 2]) bt35 rfl (by kernel_rfl)) rfl ?_
              refine RL.gval rfl rfl (O.steq (cs := [.bool y62.f_Key.f_Src.f_Six, .int .u8 (List.getD y62.f_Key.f_Src.f_B 0 0), .int .u8 (List.getD y62.f_Key.f_Src.f_B 1 0), .int .u8 (List.getD y62.f_Key.f_Src.f_B 2 0), .int .u8 (List.getD y62.f_Key.f_Src.f_B 3 0), .int .u8 (List.getD y62.f_Key.f_Src.f_B 4 0), .int .u8 (List.getD y62.f_Key.f_Src.f_B 5 0), .int .u8 (List.getD y62.f_Key.f_Src.f_B 6 0), .int .u8 (List.getD y62.f_Key.f_Src.f_B 7 0), .int .u8 (List.getD y62.f_Key.f_Src.f_B 8 0), .int .u8 (List.getD y62.f_Key.f_Src.f_B 9 0), .int .u8 (List.getD y62.f_Key.f_Src.f_B 10 0), .int .u8 (List.getD y62.f_Key.f_Src.f_B 11 0), .int .u8 (List.getD y62.f_Key.f_Src.f_B 12 0), .int .u8 (List.getD y62.f_Key.f_Src.f_B 13 0), .int .u8 (List.getD y62.f_Key.f_Src.f_B 14 0), .int .u8 (List.getD y62.f_Key.f_Src.f_B 15 0), .bool y62.f_Key.f_Dst.f_Six, .int .u8 (List.getD y62.f_Key.f_Dst.f_B 0 0), .int .u8 (List.getD y62.f_Key.f_Dst.f_B 1 0), .int .u8 (List.getD y62.f_Key.f_Dst.f_B 2 0), .int .u8 (List.getD y62.f_Key.f_Dst.f_B 3 0), .int .u8 (List.getD y62.f_Key.f_Dst.f_B 4 0), .int .u8 (List.getD y62.f_Key.f_Dst.f_B 5 0), .int .u8 (List.getD y62.f_Key.f_Dst.f_B 6 0), .int .u8 (List.getD y62.f_Key.f_Dst.f_B 7 0), .int .u8 (List.getD y62.f_Key.f_Dst.f_B 8 0), .int .u8 (List.getD y62.f_Key.f_Dst.f_B 9 0), .int .u8 (List.getD y62.f_Key.f_Dst.f_B 10 0), .int .u8 (List.getD y62.f_Key.f_Dst.f_B 11 0), .int .u8 (List.getD y62.f_Key.f_Dst.f_B 12 0), .int .u8 (List.getD y62.f_Key.f_Dst.f_B 13 0), .int .u8 (List.getD y62.f_Key.f_Dst.f_B 14 0), .int .u8 (List.getD y62.f_Key.f_Dst.f_B 15 0), .int .u8 y62.f_Key.f_Proto, .int .u16 y62.f_Key.f_SrcPort, .int .u16 y62.f_Key.f_DstPort, .int .u64 y62.f_Packets, .int .u64 y62.f_Bytes, .int .u64 y62.f_First, .int .u64 y62.f_Last, .int .u8 y62.f_Flags, .int .u8 y62.f_Reason, .int .u8 y62.f_Class]) (cs' := [.bool false, .int .u8 (List.getD (List.replicate 16 0) 0 0), .int .u8 (List.getD (List.replicate 16 0) 1 0), .int .u8 (List.getD (List.replicate 16 0) 2 0), .int .u8 (List.getD (List.replicate 16 0) 3 0), .int .u8 (List.getD (List.replicate 16 0) 4 0), .int .u8 (List.getD (List.replicate 16 0) 5 0), .int .u8 (List.getD (List.replicate 16 0) 6 0), .int .u8 (List.getD (List.replicate 16 0) 7 0), .int .u8 (List.getD (List.replicate 16 0) 8 0), .int .u8 (List.getD (List.replicate 16 0) 9 0), .int .u8 (List.getD (List.replicate 16 0) 10 0), .int .u8 (List.getD (List.replicate 16 0) 11 0), .int .u8 (List.getD (List.replicate 16 0) 12 0), .int .u8 (List.getD (List.replicate 16 0) 13 0), .int .u8 (List.getD (List.replicate 16 0) 14 0), .int .u8 (List.getD (List.replicate 16 0) 15 0), .bool false, .int .u8 (List.getD (List.replicate 16 0) 0 0), .int .u8 (List.getD (List.replicate 16 0) 1 0), .int .u8 (List.getD (List.replicate 16 0) 2 0), .int .u8 (List.getD (List.replicate 16 0) 3 0), .int .u8 (List.getD (List.replicate 16 0) 4 0), .int .u8 (List.getD (List.replicate 16 0) 5 0), .int .u8 (List.getD (List.replicate 16 0) 6 0), .int .u8 (List.getD (List.replicate 16 0) 7 0), .int .u8 (List.getD (List.replicate 16 0) 8 0), .int .u8 (List.getD (List.replicate 16 0) 9 0), .int .u8 (List.getD (List.replicate 16 0) 10 0), .int .u8 (List.getD (List.replicate 16 0) 11 0), .int .u8 (List.getD (List.replicate 16 0) 12 0), .int .u8 (List.getD (List.replicate 16 0) 13 0), .int .u8 (List.getD (List.replicate 16 0) 14 0), .int .u8 (List.getD (List.replicate 16 0) 15 0), .int .u8 0, .int .u16 0, .int .u16 0, .int .u64 1, .int .u64 40, .int .u64 5, .int .u64 9, .int .u8 2, .int .u8 0, .int .u8 2]) (by kernel_rfl) rfl rfl (Q35t y62 (T_flow_Record.mk (T_packet_Key.mk (T_addr_Addr.mk false (List.replicate 16 0)) (T_addr_Addr.mk false (List.replicate 16 0)) 0 0 0) 1 40 5 9 2 0 2) _ rfl rfl)) rfl ?_
              refine RL.val (O.pickt rfl rfl) rfl ?_
              refine RL.val (O.move rfl) rfl ?_
              refine RL.bcase (t := 52) rfl (fun hc => ?_) (fun hc => ?_)
              · rw [if_pos hc] at hF
                refine RL.gval rfl rfl (O.bld (cs := [.int .u64 1, .int .u64 18446744073709551615]) bt32 rfl (by kernel_rfl)) rfl ?_
                refine RL.gval rfl rfl (O.bld (cs := [.int .u64 2, .int .u64 9]) bt32 rfl (by kernel_rfl)) rfl ?_
                refine obindE hF fun y70 hx71 hF => ?_
                refine RL.gcall rfl rfl Try.func10 bd10 rfl rfl (c_flow_Total_Plus _ (T_flow_Total.mk 1 18446744073709551615) (T_flow_Total.mk 2 9) _ hx71) fun v w72 hv => ?_
                obtain ⟨rfl, hN73⟩ := hv
                replace hM := hM.call0 hN73
                refine RL.gval rfl rfl (O.bld (cs := [.int .u64 3, .int .u64 18446744073709551615]) bt32 rfl (by kernel_rfl)) rfl ?_
                refine RL.gval rfl rfl (O.steq (cs := [.int .u64 y70.f_Packets, .int .u64 y70.f_Bytes]) (cs' := [.int .u64 3, .int .u64 18446744073709551615]) (by kernel_rfl) rfl rfl (Q32t y70 (T_flow_Total.mk 3 18446744073709551615) _ rfl rfl)) rfl ?_
                refine RL.val (O.pickt rfl rfl) rfl ?_
                refine RL.val (O.assign rfl) rfl ?_
                refine RL.nil ?_
                refine KQ.then_k ?_
                replace hM := hM.pick [] rfl (by decide)
                exact fun a ha => ⟨(q_flow_Total y70 (T_flow_Total.mk 3 18446744073709551615)), ha.less (less_cons rfl less_nil), hM, hF⟩
              · rw [if_neg (ne_true hc)] at hF
                refine RL.brun1 6 58 false (by kernel_rfl) ?_
                refine RL.val (O.assign rfl) rfl ?_
                refine RL.nil ?_
                refine KQ.then_k ?_
                replace hM := hM.pick [] rfl (by decide)
                exact fun a ha => ⟨false, ha.less (less_cons rfl less_nil), hM, hF⟩
            · rw [if_neg (ne_true hc)] at hF
              refine RL.brun1 11 58 false (by kernel_rfl) ?_
              refine RL.val (O.assign rfl) rfl ?_
              refine RL.nil ?_
              refine KQ.then_k ?_
              replace hM := hM.pick [] rfl (by decide)
              exact fun a ha => ⟨false, ha.less (less_cons rfl less_nil), hM, hF⟩
          · rw [if_neg (ne_true hc)] at hF
            refine RL.brun1 15 58 false (by kernel_rfl) ?_
            refine RL.val (O.assign rfl) rfl ?_
            refine RL.nil ?_
            refine KQ.then_k ?_
            replace hM := hM.pick [] rfl (by decide)
            exact fun a ha => ⟨false, ha.less (less_cons rfl less_nil), hM, hF⟩
        · rintro a w75 ⟨t74, ha, hM, hF⟩
          refine KC.app ha ?_
          clear ha
          unfold F_law22_works_j2 at hF
          refine KC.ret ?_
          obtain rfl := Option.some.inj hF
          refine KQ.rets Try.results6 (RVs.cons (RV.tm rfl) RVs.nil) ?_
          exact ⟨_, rfl, rfl, hM⟩
end Go.Proofs.Yteafnfoponjoeaa
