/- Printed by a program of this claim: each call returns what the plain function of its name gives. -/
import Derived.Test.YteafnfoponjoeaaVW2
set_option linter.unusedVariables false
namespace Go.Proofs.Yteafnfoponjoeaa
open Go Go.Ox Go.RowKit
set_option maxRecDepth 100000 in
set_option maxHeartbeats 40000000 in
theorem c_ref22_Right (w : World) (rv1 : T_ref22_Record) (r : Bool) (hF : F_ref22_Right rv1 = some r) :
    CallsR Try.prog 13 [.agg #[.bool rv1.f_Key.f_Src.f_Six, .int .u8 (List.getD rv1.f_Key.f_Src.f_B 0 0), .int .u8 (List.getD rv1.f_Key.f_Src.f_B 1 0), .int .u8 (List.getD rv1.f_Key.f_Src.f_B 2 0), .int .u8 (List.getD rv1.f_Key.f_Src.f_B 3 0), .int .u8 (List.getD rv1.f_Key.f_Src.f_B 4 0), .int .u8 (List.getD rv1.f_Key.f_Src.f_B 5 0), .int .u8 (List.getD rv1.f_Key.f_Src.f_B 6 0), .int .u8 (List.getD rv1.f_Key.f_Src.f_B 7 0), .int .u8 (List.getD rv1.f_Key.f_Src.f_B 8 0), .int .u8 (List.getD rv1.f_Key.f_Src.f_B 9 0), .int .u8 (List.getD rv1.f_Key.f_Src.f_B 10 0), .int .u8 (List.getD rv1.f_Key.f_Src.f_B 11 0), .int .u8 (List.getD rv1.f_Key.f_Src.f_B 12 0), .int .u8 (List.getD rv1.f_Key.f_Src.f_B 13 0), .int .u8 (List.getD rv1.f_Key.f_Src.f_B 14 0), .int .u8 (List.getD rv1.f_Key.f_Src.f_B 15 0), .bool rv1.f_Key.f_Dst.f_Six, .int .u8 (List.getD rv1.f_Key.f_Dst.f_B 0 0), .int .u8 (List.getD rv1.f_Key.f_Dst.f_B 1 0), .int .u8 (List.getD rv1.f_Key.f_Dst.f_B 2 0), .int .u8 (List.getD rv1.f_Key.f_Dst.f_B 3 0), .int .u8 (List.getD rv1.f_Key.f_Dst.f_B 4 0), .int .u8 (List.getD rv1.f_Key.f_Dst.f_B 5 0), .int .u8 (List.getD rv1.f_Key.f_Dst.f_B 6 0), .int .u8 (List.getD rv1.f_Key.f_Dst.f_B 7 0), .int .u8 (List.getD rv1.f_Key.f_Dst.f_B 8 0), .int .u8 (List.getD rv1.f_Key.f_Dst.f_B 9 0), .int .u8 (List.getD rv1.f_Key.f_Dst.f_B 10 0), .int .u8 (List.getD rv1.f_Key.f_Dst.f_B 11 0), .int .u8 (List.getD rv1.f_Key.f_Dst.f_B 12 0), .int .u8 (List.getD rv1.f_Key.f_Dst.f_B 13 0), .int .u8 (List.getD rv1.f_Key.f_Dst.f_B 14 0), .int .u8 (List.getD rv1.f_Key.f_Dst.f_B 15 0), .int .u8 rv1.f_Key.f_Proto, .int .u16 rv1.f_Key.f_SrcPort, .int .u16 rv1.f_Key.f_DstPort, .int .u64 rv1.f_Packets, .int .u64 rv1.f_Bytes, .int .u64 rv1.f_First, .int .u64 rv1.f_Last, .int .u8 rv1.f_Flags, .int .u8 rv1.f_Reason, .int .u8 rv1.f_Class]] w (fun v w' => v = .bool r ∧ Mem w [] w' []) := by
  refine calls_KC Try.func13 rfl Try.ntmps13 rfl ?_
  have hM := Mem.init w
  unfold F_ref22_Right at hF
  refine KC.seq ?_
  refine KC.region ?_
  refine RL.eff (E.box (vs := [.bool rv1.f_Key.f_Src.f_Six, .int .u8 (List.getD rv1.f_Key.f_Src.f_B 0 0), .int .u8 (List.getD rv1.f_Key.f_Src.f_B 1 0), .int .u8 (List.getD rv1.f_Key.f_Src.f_B 2 0), .int .u8 (List.getD rv1.f_Key.f_Src.f_B 3 0), .int .u8 (List.getD rv1.f_Key.f_Src.f_B 4 0), .int .u8 (List.getD rv1.f_Key.f_Src.f_B 5 0), .int .u8 (List.getD rv1.f_Key.f_Src.f_B 6 0), .int .u8 (List.getD rv1.f_Key.f_Src.f_B 7 0), .int .u8 (List.getD rv1.f_Key.f_Src.f_B 8 0), .int .u8 (List.getD rv1.f_Key.f_Src.f_B 9 0), .int .u8 (List.getD rv1.f_Key.f_Src.f_B 10 0), .int .u8 (List.getD rv1.f_Key.f_Src.f_B 11 0), .int .u8 (List.getD rv1.f_Key.f_Src.f_B 12 0), .int .u8 (List.getD rv1.f_Key.f_Src.f_B 13 0), .int .u8 (List.getD rv1.f_Key.f_Src.f_B 14 0), .int .u8 (List.getD rv1.f_Key.f_Src.f_B 15 0), .bool rv1.f_Key.f_Dst.f_Six, .int .u8 (List.getD rv1.f_Key.f_Dst.f_B 0 0), .int .u8 (List.getD rv1.f_Key.f_Dst.f_B 1 0), .int .u8 (List.getD rv1.f_Key.f_Dst.f_B 2 0), .int .u8 (List.getD rv1.f_Key.f_Dst.f_B 3 0), .int .u8 (List.getD rv1.f_Key.f_Dst.f_B 4 0), .int .u8 (List.getD rv1.f_Key.f_Dst.f_B 5 0), .int .u8 (List.getD rv1.f_Key.f_Dst.f_B 6 0), .int .u8 (List.getD rv1.f_Key.f_Dst.f_B 7 0), .int .u8 (List.getD rv1.f_Key.f_Dst.f_B 8 0), .int .u8 (List.getD rv1.f_Key.f_Dst.f_B 9 0), .int .u8 (List.getD rv1.f_Key.f_Dst.f_B 10 0), .int .u8 (List.getD rv1.f_Key.f_Dst.f_B 11 0), .int .u8 (List.getD rv1.f_Key.f_Dst.f_B 12 0), .int .u8 (List.getD rv1.f_Key.f_Dst.f_B 13 0), .int .u8 (List.getD rv1.f_Key.f_Dst.f_B 14 0), .int .u8 (List.getD rv1.f_Key.f_Dst.f_B 15 0), .int .u8 rv1.f_Key.f_Proto, .int .u16 rv1.f_Key.f_SrcPort, .int .u16 rv1.f_Key.f_DstPort, .int .u64 rv1.f_Packets, .int .u64 rv1.f_Bytes, .int .u64 rv1.f_First, .int .u64 rv1.f_Last, .int .u8 rv1.f_Flags, .int .u8 rv1.f_Reason, .int .u8 rv1.f_Class]) hM rfl rfl) rfl fun v w3 hv => ?_
  clear hM
  obtain ⟨g2, rfl, hM, hf⟩ := hv
  refine RL.val (O.assign rfl) rfl ?_
  refine RL.nil ?_
  refine KQ.then_n ?_
  refine KC.cut (fun a w10 => ∃ (t9 : Bool), Kn 28 [(2, .bool t9)] a ∧ Mem w [] w10 [] ∧ F_ref22_Right_j1 t9 = some r) ?_ ?_
  · refine KC.region ?_
    refine RL.val (O.fldA fl47_0 (by decide) rfl) rfl ?_
    refine RL.val (O.loadN (cs := [.bool rv1.f_Key.f_Src.f_Six, .int .u8 (List.getD rv1.f_Key.f_Src.f_B 0 0), .int .u8 (List.getD rv1.f_Key.f_Src.f_B 1 0), .int .u8 (List.getD rv1.f_Key.f_Src.f_B 2 0), .int .u8 (List.getD rv1.f_Key.f_Src.f_B 3 0), .int .u8 (List.getD rv1.f_Key.f_Src.f_B 4 0), .int .u8 (List.getD rv1.f_Key.f_Src.f_B 5 0), .int .u8 (List.getD rv1.f_Key.f_Src.f_B 6 0), .int .u8 (List.getD rv1.f_Key.f_Src.f_B 7 0), .int .u8 (List.getD rv1.f_Key.f_Src.f_B 8 0), .int .u8 (List.getD rv1.f_Key.f_Src.f_B 9 0), .int .u8 (List.getD rv1.f_Key.f_Src.f_B 10 0), .int .u8 (List.getD rv1.f_Key.f_Src.f_B 11 0), .int .u8 (List.getD rv1.f_Key.f_Src.f_B 12 0), .int .u8 (List.getD rv1.f_Key.f_Src.f_B 13 0), .int .u8 (List.getD rv1.f_Key.f_Src.f_B 14 0), .int .u8 (List.getD rv1.f_Key.f_Src.f_B 15 0), .bool rv1.f_Key.f_Dst.f_Six, .int .u8 (List.getD rv1.f_Key.f_Dst.f_B 0 0), .int .u8 (List.getD rv1.f_Key.f_Dst.f_B 1 0), .int .u8 (List.getD rv1.f_Key.f_Dst.f_B 2 0), .int .u8 (List.getD rv1.f_Key.f_Dst.f_B 3 0), .int .u8 (List.getD rv1.f_Key.f_Dst.f_B 4 0), .int .u8 (List.getD rv1.f_Key.f_Dst.f_B 5 0), .int .u8 (List.getD rv1.f_Key.f_Dst.f_B 6 0), .int .u8 (List.getD rv1.f_Key.f_Dst.f_B 7 0), .int .u8 (List.getD rv1.f_Key.f_Dst.f_B 8 0), .int .u8 (List.getD rv1.f_Key.f_Dst.f_B 9 0), .int .u8 (List.getD rv1.f_Key.f_Dst.f_B 10 0), .int .u8 (List.getD rv1.f_Key.f_Dst.f_B 11 0), .int .u8 (List.getD rv1.f_Key.f_Dst.f_B 12 0), .int .u8 (List.getD rv1.f_Key.f_Dst.f_B 13 0), .int .u8 (List.getD rv1.f_Key.f_Dst.f_B 14 0), .int .u8 (List.getD rv1.f_Key.f_Dst.f_B 15 0), .int .u8 rv1.f_Key.f_Proto, .int .u16 rv1.f_Key.f_SrcPort, .int .u16 rv1.f_Key.f_DstPort]) ag45 rfl (Cs.addsN [0] ((hM.bx (i := 0) rfl)) rfl)) rfl ?_
    refine obindE hF fun y5 hx6 hF => ?_
    refine RL.call Try.func31 bd31 rfl rfl (c_ref08_Right _ rv1.f_Key _ hx6) fun v w7 hv => ?_
    obtain ⟨rfl, hN8⟩ := hv
    replace hM := hM.call0 hN8
    refine RL.val (O.move rfl) rfl ?_
    refine RL.bcase (t := 6) rfl (fun hc => ?_) (fun hc => ?_)
    · rw [if_pos hc] at hF
      refine RL.gval rfl rfl (O.fldA fl47_1 (by decide) rfl) rfl ?_
      refine RL.gval rfl rfl (O.load sc30 rfl (Cs.adds [37] ((hM.bx (i := 0) rfl)) rfl)) rfl ?_
      refine RL.gval rfl rfl (O.geq rfl rfl) rfl ?_
      refine RL.val (O.pickt rfl rfl) rfl ?_
      refine RL.val (O.move rfl) rfl ?_
      refine RL.bcase (t := 11) rfl (fun hc => ?_) (fun hc => ?_)
      · rw [if_pos hc] at hF
        refine RL.gval rfl rfl (O.fldA fl47_3 (by decide) rfl) rfl ?_
        refine RL.gval rfl rfl (O.load sc30 rfl (Cs.adds [39] ((hM.bx (i := 0) rfl)) rfl)) rfl ?_
        refine RL.gval rfl rfl (O.fldA fl47_4 (by decide) rfl) rfl ?_
        refine RL.gval rfl rfl (O.load sc30 rfl (Cs.adds [40] ((hM.bx (i := 0) rfl)) rfl)) rfl ?_
        refine RL.gval rfl rfl (O.leq rfl rfl) rfl ?_
        refine RL.val (O.pickt rfl rfl) rfl ?_
        refine RL.val (O.move rfl) rfl ?_
        refine RL.bcase (t := 18) rfl (fun hc => ?_) (fun hc => ?_)
        · rw [if_pos hc] at hF
          refine RL.gval rfl rfl (O.fldA fl47_6 (by decide) rfl) rfl ?_
          refine RL.gval rfl rfl (O.load sc5 rfl (Cs.adds [42] ((hM.bx (i := 0) rfl)) rfl)) rfl ?_
          refine RL.gval rfl rfl (O.geq rfl rfl) rfl ?_
          refine RL.val (O.pickt rfl rfl) rfl ?_
          refine RL.val (O.move rfl) rfl ?_
          refine RL.bcase (t := 23) rfl (fun hc => ?_) (fun hc => ?_)
          · rw [if_pos hc] at hF
            refine RL.gval rfl rfl (O.fldA fl47_6 (by decide) rfl) rfl ?_
            refine RL.gval rfl rfl (O.load sc5 rfl (Cs.adds [42] ((hM.bx (i := 0) rfl)) rfl)) rfl ?_
            refine RL.gval rfl rfl (O.leq rfl rfl) rfl ?_
            refine RL.val (O.pickt rfl rfl) rfl ?_
            refine RL.val (O.assign rfl) rfl ?_
            refine RL.nil ?_
            refine KQ.then_k ?_
            replace hM := hM.pick [] rfl (by decide)
            exact fun a ha => ⟨(decide (rv1.f_Reason ≤ 5)), ha.less (less_cons rfl less_nil), hM, hF⟩
          · rw [if_neg (ne_true hc)] at hF
            refine RL.brun1 4 27 false (by kernel_rfl) ?_
            refine RL.val (O.assign rfl) rfl ?_
            refine RL.nil ?_
            refine KQ.then_k ?_
            replace hM := hM.pick [] rfl (by decide)
            exact fun a ha => ⟨false, ha.less (less_cons rfl less_nil), hM, hF⟩
        · rw [if_neg (ne_true hc)] at hF
          refine RL.brun1 9 27 false (by kernel_rfl) ?_
          refine RL.val (O.assign rfl) rfl ?_
          refine RL.nil ?_
          refine KQ.then_k ?_
          replace hM := hM.pick [] rfl (by decide)
          exact fun a ha => ⟨false, ha.less (less_cons rfl less_nil), hM, hF⟩
      · rw [if_neg (ne_true hc)] at hF
        refine RL.brun1 16 27 false (by kernel_rfl) ?_
        refine RL.val (O.assign rfl) rfl ?_
        refine RL.nil ?_
        refine KQ.then_k ?_
        replace hM := hM.pick [] rfl (by decide)
        exact fun a ha => ⟨false, ha.less (less_cons rfl less_nil), hM, hF⟩
    · rw [if_neg (ne_true hc)] at hF
      refine RL.brun1 21 27 false (by kernel_rfl) ?_
      refine RL.val (O.assign rfl) rfl ?_
      refine RL.nil ?_
      refine KQ.then_k ?_
      replace hM := hM.pick [] rfl (by decide)
      exact fun a ha => ⟨false, ha.less (less_cons rfl less_nil), hM, hF⟩
  · rintro a w10 ⟨t9, ha, hM, hF⟩
    refine KC.app ha ?_
    clear ha
    unfold F_ref22_Right_j1 at hF
    refine KC.ret ?_
    obtain rfl := Option.some.inj hF
    refine KQ.rets Try.results13 (RVs.cons (RV.tm rfl) RVs.nil) ?_
    exact ⟨_, rfl, rfl, hM⟩
set_option maxRecDepth 100000 in
set_option maxHeartbeats 40000000 in
theorem c_ref04_size (w : World) (six1 : Bool) (r : Int) (hF : F_ref04_size six1 = some r) :
    CallsR Try.prog 46 [.bool six1] w (fun v w' => v = .int .i64 r ∧ Mem w [] w' []) := by
  refine calls_KC Try.func46 rfl Try.ntmps46 rfl ?_
  have hM := Mem.init w
  unfold F_ref04_size at hF
  refine KC.seq ?_
  refine KC.region ?_
  refine RL.val (O.assign rfl) rfl ?_
  refine RL.nil ?_
  refine KQ.then_n ?_
  refine KC.seq ?_
  refine KC.seq ?_
  refine KC.region ?_
  refine RL.val (O.move rfl) rfl ?_
  refine RL.nil ?_
  refine KQ.then_n ?_
  refine KC.cond rfl (fun hc => ?_) (fun hc => ?_)
  · rw [if_pos hc] at hF
    refine KC.seq ?_
    refine KC.region ?_
    refine RL.val (O.assign rfl) rfl ?_
    refine RL.nil ?_
    refine KQ.then_n ?_
    refine KC.ret ?_
    refine KQ.then_r ?_
    obtain rfl := Option.some.inj hF
    refine KQ.rets Try.results46 (RVs.cons (RV.tm rfl) RVs.nil) ?_
    exact ⟨_, rfl, rfl, hM⟩
  · rw [if_neg (ne_true hc)] at hF
    refine KC.skip ?_
    refine KQ.then_n ?_
    refine KC.seq ?_
    refine KC.region ?_
    refine RL.val (O.assign rfl) rfl ?_
    refine RL.nil ?_
    refine KQ.then_n ?_
    refine KC.ret ?_
    obtain rfl := Option.some.inj hF
    refine KQ.rets Try.results46 (RVs.cons (RV.tm rfl) RVs.nil) ?_
    exact ⟨_, rfl, rfl, hM⟩
set_option maxRecDepth 100000 in
set_option maxHeartbeats 40000000 in
theorem c_ref04_Bytes (w : World) (av1 : T_addr_Addr) (r : (List Int)) (hF : F_ref04_Bytes av1 = some r) :
    CallsR Try.prog 34 [.agg #[.bool av1.f_Six, .int .u8 (List.getD av1.f_B 0 0), .int .u8 (List.getD av1.f_B 1 0), .int .u8 (List.getD av1.f_B 2 0), .int .u8 (List.getD av1.f_B 3 0), .int .u8 (List.getD av1.f_B 4 0), .int .u8 (List.getD av1.f_B 5 0), .int .u8 (List.getD av1.f_B 6 0), .int .u8 (List.getD av1.f_B 7 0), .int .u8 (List.getD av1.f_B 8 0), .int .u8 (List.getD av1.f_B 9 0), .int .u8 (List.getD av1.f_B 10 0), .int .u8 (List.getD av1.f_B 11 0), .int .u8 (List.getD av1.f_B 12 0), .int .u8 (List.getD av1.f_B 13 0), .int .u8 (List.getD av1.f_B 14 0), .int .u8 (List.getD av1.f_B 15 0)]] w (fun v w' => ∃ (A0 : Option Addr) (c0 : Nat), v = .slice A0 (r).length c0 ∧ Mem w [] w' [.row A0 c0 5 1 r.length (r.flatMap (eI .u8))]) := by
  refine calls_KC Try.func34 rfl Try.ntmps34 rfl ?_
  have hM := Mem.init w
  unfold F_ref04_Bytes at hF
  refine KC.seq ?_
  refine KC.region ?_
  refine RL.eff (E.box (vs := [.bool av1.f_Six, .int .u8 (List.getD av1.f_B 0 0), .int .u8 (List.getD av1.f_B 1 0), .int .u8 (List.getD av1.f_B 2 0), .int .u8 (List.getD av1.f_B 3 0), .int .u8 (List.getD av1.f_B 4 0), .int .u8 (List.getD av1.f_B 5 0), .int .u8 (List.getD av1.f_B 6 0), .int .u8 (List.getD av1.f_B 7 0), .int .u8 (List.getD av1.f_B 8 0), .int .u8 (List.getD av1.f_B 9 0), .int .u8 (List.getD av1.f_B 10 0), .int .u8 (List.getD av1.f_B 11 0), .int .u8 (List.getD av1.f_B 12 0), .int .u8 (List.getD av1.f_B 13 0), .int .u8 (List.getD av1.f_B 14 0), .int .u8 (List.getD av1.f_B 15 0)]) hM rfl rfl) rfl fun v w3 hv => ?_
  clear hM
  obtain ⟨g2, rfl, hM, hf⟩ := hv
  refine RL.val (O.assign rfl) rfl ?_
  refine RL.nil ?_
  refine KQ.then_n ?_
  refine KC.seq ?_
  refine KC.region ?_
  refine RL.val (O.assign rfl) rfl ?_
  refine RL.nil ?_
  refine KQ.then_n ?_
  refine KC.seq ?_
  refine KC.seq ?_
  refine KC.region ?_
  refine RL.val (O.assign rfl) rfl ?_
  refine RL.nil ?_
  refine KQ.then_n ?_
  refine KC.block ?_
  refine KC.loop (fun k47 a w45 => ∃ (A41 : Option Addr) (c42 : Nat) (out43 : List Int) (i44 : Int), Kn 20 [(1, .pointer (some ⟨g2, 0, none⟩)), (3, .slice A41 (out43).length c42), (4, .int .i64 i44)] a ∧ Mem w [] w45 [.box g2 43 [.bool av1.f_Six, .int .u8 (List.getD av1.f_B 0 0), .int .u8 (List.getD av1.f_B 1 0), .int .u8 (List.getD av1.f_B 2 0), .int .u8 (List.getD av1.f_B 3 0), .int .u8 (List.getD av1.f_B 4 0), .int .u8 (List.getD av1.f_B 5 0), .int .u8 (List.getD av1.f_B 6 0), .int .u8 (List.getD av1.f_B 7 0), .int .u8 (List.getD av1.f_B 8 0), .int .u8 (List.getD av1.f_B 9 0), .int .u8 (List.getD av1.f_B 10 0), .int .u8 (List.getD av1.f_B 11 0), .int .u8 (List.getD av1.f_B 12 0), .int .u8 (List.getD av1.f_B 13 0), .int .u8 (List.getD av1.f_B 14 0), .int .u8 (List.getD av1.f_B 15 0)], .row A41 c42 5 1 (out43).length ((out43).flatMap (eI .u8))] ∧ F_ref04_Bytes_L1 av1 k47 out43 i44 = some r) ?_ ?_
  · replace hM := hM.nilrow 5 1
    exact fun a ha => ⟨fuel0, none, 0, ([]), 0, ha.less (less_cons rfl (less_cons rfl (less_cons rfl less_nil))), hM, hF⟩
  · rintro k47 a w45 ⟨A41, c42, out43, i44, ha, hM, hF⟩
    refine KC.app ha ?_
    clear ha
    cases k47 with
    | zero => exact (none_some hF).elim
    | succ k47 =>
    have hF : F_ref04_Bytes_l1 (F_ref04_Bytes_L1 av1 k47) av1 out43 i44 = some r := hF
    unfold F_ref04_Bytes_l1 at hF
    refine KC.seq ?_
    refine KC.seq ?_
    refine KC.region ?_
    refine RL.val (O.move rfl) rfl ?_
    refine RL.val (O.fldA fl43_0 (by decide) rfl) rfl ?_
    refine RL.val (O.load sc4 rfl (Cs.adds [0] ((hM.bx (i := 0) rfl)) rfl)) rfl ?_
    refine obindE hF fun y48 hx49 hF => ?_
    refine RL.call Try.func46 bd46 rfl rfl (c_ref04_size _ av1.f_Six _ hx49) fun v w50 hv => ?_
    obtain ⟨rfl, hN51⟩ := hv
    replace hM := hM.call0 hN51
    refine RL.val (O.lss rfl rfl) rfl ?_
    refine RL.nil ?_
    refine KQ.then_n ?_
    refine KC.cond rfl (fun hc => ?_) (fun hc => ?_)
    · rw [if_pos hc] at hF
      refine KC.skip ?_
      refine KQ.then_n ?_
      refine KC.seq ?_
      refine KC.block ?_
      refine KC.region ?_
      refine RL.val (O.move rfl) rfl ?_
      refine RL.val (O.move rfl) rfl ?_
      refine RL.val (O.fldA fl43_1 (by decide) rfl) rfl ?_
      refine obindE hF fun xv53 hx52 hF => ?_
      refine RL.val (O.idxP Try.underlying22 sz5 hx52 rfl rfl) rfl ?_
      refine RL.val (O.load sc5 rfl (Cs.arrAt [1] ((hM.bx (i := 0) rfl)) rfl hx52)) rfl ?_
      refine RL.eff (E.bsl (enc := (eI .u8)) (xs := [xv53]) hM sl74 ze5 rfl rfl rfl (fun _ => rfl) rfl (by kernel_rfl) rfl) rfl fun v w54 hv => ?_
      clear hM
      obtain ⟨A55, rfl, hM, hf⟩ := hv
      refine cut_someE hF fun hq60 hF => ?_
      refine RL.eff (E.app (enc := (eI .u8)) (xs := out43) (ys := [xv53]) (j := 1) hM rfl sl74 ze5 rfl rfl rfl rfl rfl (hM.rd (i := 2) rfl) (fun _ => One.all rfl) (of_decide_eq_true hq60)) rfl fun v w59 hv => ?_
      clear hM
      obtain ⟨A57, c58, rfl, hM, hf⟩ := hv
      refine RL.val (O.assign rfl) rfl ?_
      refine RL.nil ?_
      refine KQ.blk_n ?_
      refine KQ.then_n ?_
      refine KC.region ?_
      refine RL.val (O.move rfl) rfl ?_
      refine RL.val (O.add rfl rfl) rfl ?_
      refine RL.val (O.assign rfl) rfl ?_
      refine RL.nil ?_
      refine KQ.then_k ?_
      replace hM := hM.pick [0, 1] rfl (by decide)
      exact fun a ha => ⟨k47, Nat.lt_succ_self k47, A57, c58, (out43 ++ [xv53]), (IntKind.i64.wrap (i44 + 1)), ha.less (less_cons rfl (less_cons rfl (less_cons rfl less_nil))), hM, hF⟩
    · rw [if_neg (ne_true hc)] at hF
      refine KC.exit ?_
      refine KQ.then_x ?_
      refine KQ.then_x ?_
      refine KQ.blk_x ?_
      refine KQ.then_n ?_
      refine KC.seq ?_
      refine KC.region ?_
      refine RL.val (O.move rfl) rfl ?_
      refine RL.val (O.assign rfl) rfl ?_
      refine RL.nil ?_
      refine KQ.then_n ?_
      refine KC.ret ?_
      obtain rfl := Option.some.inj hF
      replace hM := hM.pick [1] rfl (by decide)
      refine KQ.rets Try.results34 (RVs.cons (RV.tm rfl) RVs.nil) ?_
      exact ⟨_, rfl, A41, c42, rfl, hM⟩
set_option maxRecDepth 100000 in
set_option maxHeartbeats 40000000 in
theorem c_ref22_Values (w : World) (rv1 : T_ref22_Record) (r : (List T_ref18_Value) × Int) (hF : F_ref22_Values rv1 = some r) :
    CallsR Try.prog 20 [.agg #[.bool rv1.f_Key.f_Src.f_Six, .int .u8 (List.getD rv1.f_Key.f_Src.f_B 0 0), .int .u8 (List.getD rv1.f_Key.f_Src.f_B 1 0), .int .u8 (List.getD rv1.f_Key.f_Src.f_B 2 0), .int .u8 (List.getD rv1.f_Key.f_Src.f_B 3 0), .int .u8 (List.getD rv1.f_Key.f_Src.f_B 4 0), .int .u8 (List.getD rv1.f_Key.f_Src.f_B 5 0), .int .u8 (List.getD rv1.f_Key.f_Src.f_B 6 0), .int .u8 (List.getD rv1.f_Key.f_Src.f_B 7 0), .int .u8 (List.getD rv1.f_Key.f_Src.f_B 8 0), .int .u8 (List.getD rv1.f_Key.f_Src.f_B 9 0), .int .u8 (List.getD rv1.f_Key.f_Src.f_B 10 0), .int .u8 (List.getD rv1.f_Key.f_Src.f_B 11 0), .int .u8 (List.getD rv1.f_Key.f_Src.f_B 12 0), .int .u8 (List.getD rv1.f_Key.f_Src.f_B 13 0), .int .u8 (List.getD rv1.f_Key.f_Src.f_B 14 0), .int .u8 (List.getD rv1.f_Key.f_Src.f_B 15 0), .bool rv1.f_Key.f_Dst.f_Six, .int .u8 (List.getD rv1.f_Key.f_Dst.f_B 0 0), .int .u8 (List.getD rv1.f_Key.f_Dst.f_B 1 0), .int .u8 (List.getD rv1.f_Key.f_Dst.f_B 2 0), .int .u8 (List.getD rv1.f_Key.f_Dst.f_B 3 0), .int .u8 (List.getD rv1.f_Key.f_Dst.f_B 4 0), .int .u8 (List.getD rv1.f_Key.f_Dst.f_B 5 0), .int .u8 (List.getD rv1.f_Key.f_Dst.f_B 6 0), .int .u8 (List.getD rv1.f_Key.f_Dst.f_B 7 0), .int .u8 (List.getD rv1.f_Key.f_Dst.f_B 8 0), .int .u8 (List.getD rv1.f_Key.f_Dst.f_B 9 0), .int .u8 (List.getD rv1.f_Key.f_Dst.f_B 10 0), .int .u8 (List.getD rv1.f_Key.f_Dst.f_B 11 0), .int .u8 (List.getD rv1.f_Key.f_Dst.f_B 12 0), .int .u8 (List.getD rv1.f_Key.f_Dst.f_B 13 0), .int .u8 (List.getD rv1.f_Key.f_Dst.f_B 14 0), .int .u8 (List.getD rv1.f_Key.f_Dst.f_B 15 0), .int .u8 rv1.f_Key.f_Proto, .int .u16 rv1.f_Key.f_SrcPort, .int .u16 rv1.f_Key.f_DstPort, .int .u64 rv1.f_Packets, .int .u64 rv1.f_Bytes, .int .u64 rv1.f_First, .int .u64 rv1.f_Last, .int .u8 rv1.f_Flags, .int .u8 rv1.f_Reason, .int .u8 rv1.f_Class]] w (fun v w' => ∃ (A0 : Option Addr) (c0 : Nat), v = .tuple #[.slice A0 (r.1).length c0, .int .i64 r.2] ∧ Mem w [] w' [.row A0 c0 87 2 r.1.length (r.1.flatMap e_ref18_Value)]) := by
  refine calls_KC Try.func20 rfl Try.ntmps20 rfl ?_
  have hM := Mem.init w
  unfold F_ref22_Values at hF
  refine KC.seq ?_
  refine KC.region ?_
  refine RL.eff (E.box (vs := [.bool rv1.f_Key.f_Src.f_Six, .int .u8 (List.getD rv1.f_Key.f_Src.f_B 0 0), .int .u8 (List.getD rv1.f_Key.f_Src.f_B 1 0), .int .u8 (List.getD rv1.f_Key.f_Src.f_B 2 0), .int .u8 (List.getD rv1.f_Key.f_Src.f_B 3 0), .int .u8 (List.getD rv1.f_Key.f_Src.f_B 4 0), .int .u8 (List.getD rv1.f_Key.f_Src.f_B 5 0), .int .u8 (List.getD rv1.f_Key.f_Src.f_B 6 0), .int .u8 (List.getD rv1.f_Key.f_Src.f_B 7 0), .int .u8 (List.getD rv1.f_Key.f_Src.f_B 8 0), .int .u8 (List.getD rv1.f_Key.f_Src.f_B 9 0), .int .u8 (List.getD rv1.f_Key.f_Src.f_B 10 0), .int .u8 (List.getD rv1.f_Key.f_Src.f_B 11 0), .int .u8 (List.getD rv1.f_Key.f_Src.f_B 12 0), .int .u8 (List.getD rv1.f_Key.f_Src.f_B 13 0), .int .u8 (List.getD rv1.f_Key.f_Src.f_B 14 0), .int .u8 (List.getD rv1.f_Key.f_Src.f_B 15 0), .bool rv1.f_Key.f_Dst.f_Six, .int .u8 (List.getD rv1.f_Key.f_Dst.f_B 0 0), .int .u8 (List.getD rv1.f_Key.f_Dst.f_B 1 0), .int .u8 (List.getD rv1.f_Key.f_Dst.f_B 2 0), .int .u8 (List.getD rv1.f_Key.f_Dst.f_B 3 0), .int .u8 (List.getD rv1.f_Key.f_Dst.f_B 4 0), .int .u8 (List.getD rv1.f_Key.f_Dst.f_B 5 0), .int .u8 (List.getD rv1.f_Key.f_Dst.f_B 6 0), .int .u8 (List.getD rv1.f_Key.f_Dst.f_B 7 0), .int .u8 (List.getD rv1.f_Key.f_Dst.f_B 8 0), .int .u8 (List.getD rv1.f_Key.f_Dst.f_B 9 0), .int .u8 (List.getD rv1.f_Key.f_Dst.f_B 10 0), .int .u8 (List.getD rv1.f_Key.f_Dst.f_B 11 0), .int .u8 (List.getD rv1.f_Key.f_Dst.f_B 12 0), .int .u8 (List.getD rv1.f_Key.f_Dst.f_B 13 0), .int .u8 (List.getD rv1.f_Key.f_Dst.f_B 14 0), .int .u8 (List.getD rv1.f_Key.f_Dst.f_B 15 0), .int .u8 rv1.f_Key.f_Proto, .int .u16 rv1.f_Key.f_SrcPort, .int .u16 rv1.f_Key.f_DstPort, .int .u64 rv1.f_Packets, .int .u64 rv1.f_Bytes, .int .u64 rv1.f_First, .int .u64 rv1.f_Last, .int .u8 rv1.f_Flags, .int .u8 rv1.f_Reason, .int .u8 rv1.f_Class]) hM rfl rfl) rfl fun v w3 hv => ?_
  clear hM
  obtain ⟨g2, rfl, hM, hf⟩ := hv
  refine RL.val (O.assign rfl) rfl ?_
  refine RL.val (O.assign rfl) rfl ?_
  refine RL.nil ?_
  refine KQ.then_n ?_
  refine KC.seq ?_
  refine KC.seq ?_
  refine KC.region ?_
  refine RL.val (O.loadN (cs := [.bool rv1.f_Key.f_Src.f_Six, .int .u8 (List.getD rv1.f_Key.f_Src.f_B 0 0), .int .u8 (List.getD rv1.f_Key.f_Src.f_B 1 0), .int .u8 (List.getD rv1.f_Key.f_Src.f_B 2 0), .int .u8 (List.getD rv1.f_Key.f_Src.f_B 3 0), .int .u8 (List.getD rv1.f_Key.f_Src.f_B 4 0), .int .u8 (List.getD rv1.f_Key.f_Src.f_B 5 0), .int .u8 (List.getD rv1.f_Key.f_Src.f_B 6 0), .int .u8 (List.getD rv1.f_Key.f_Src.f_B 7 0), .int .u8 (List.getD rv1.f_Key.f_Src.f_B 8 0), .int .u8 (List.getD rv1.f_Key.f_Src.f_B 9 0), .int .u8 (List.getD rv1.f_Key.f_Src.f_B 10 0), .int .u8 (List.getD rv1.f_Key.f_Src.f_B 11 0), .int .u8 (List.getD rv1.f_Key.f_Src.f_B 12 0), .int .u8 (List.getD rv1.f_Key.f_Src.f_B 13 0), .int .u8 (List.getD rv1.f_Key.f_Src.f_B 14 0), .int .u8 (List.getD rv1.f_Key.f_Src.f_B 15 0), .bool rv1.f_Key.f_Dst.f_Six, .int .u8 (List.getD rv1.f_Key.f_Dst.f_B 0 0), .int .u8 (List.getD rv1.f_Key.f_Dst.f_B 1 0), .int .u8 (List.getD rv1.f_Key.f_Dst.f_B 2 0), .int .u8 (List.getD rv1.f_Key.f_Dst.f_B 3 0), .int .u8 (List.getD rv1.f_Key.f_Dst.f_B 4 0), .int .u8 (List.getD rv1.f_Key.f_Dst.f_B 5 0), .int .u8 (List.getD rv1.f_Key.f_Dst.f_B 6 0), .int .u8 (List.getD rv1.f_Key.f_Dst.f_B 7 0), .int .u8 (List.getD rv1.f_Key.f_Dst.f_B 8 0), .int .u8 (List.getD rv1.f_Key.f_Dst.f_B 9 0), .int .u8 (List.getD rv1.f_Key.f_Dst.f_B 10 0), .int .u8 (List.getD rv1.f_Key.f_Dst.f_B 11 0), .int .u8 (List.getD rv1.f_Key.f_Dst.f_B 12 0), .int .u8 (List.getD rv1.f_Key.f_Dst.f_B 13 0), .int .u8 (List.getD rv1.f_Key.f_Dst.f_B 14 0), .int .u8 (List.getD rv1.f_Key.f_Dst.f_B 15 0), .int .u8 rv1.f_Key.f_Proto, .int .u16 rv1.f_Key.f_SrcPort, .int .u16 rv1.f_Key.f_DstPort, .int .u64 rv1.f_Packets, .int .u64 rv1.f_Bytes, .int .u64 rv1.f_First, .int .u64 rv1.f_Last, .int .u8 rv1.f_Flags, .int .u8 rv1.f_Reason, .int .u8 rv1.f_Class]) ag47 rfl (Cs.addsN [] ((hM.bx (i := 0) rfl)) rfl)) rfl ?_
  refine obindE hF fun y5 hx6 hF => ?_
  refine RL.call Try.func13 bd13 rfl rfl (c_ref22_Right _ rv1 _ hx6) fun v w7 hv => ?_
  obtain ⟨rfl, hN8⟩ := hv
  replace hM := hM.call0 hN8
  refine RL.val (O.not rfl) rfl ?_
  refine RL.nil ?_
  refine KQ.then_n ?_
  refine KC.cond rfl (fun hc => ?_) (fun hc => ?_)
  · rw [if_pos hc] at hF
    refine KC.seq ?_
    refine KC.region ?_
    refine RL.val (O.assign rfl) rfl ?_
    refine RL.val (O.assign rfl) rfl ?_
    refine RL.nil ?_
    refine KQ.then_n ?_
    refine KC.ret ?_
    refine KQ.then_r ?_
    obtain rfl := Option.some.inj hF
    replace hM := hM.nilrow 87 2
    replace hM := hM.pick [1] rfl (by decide)
    refine KQ.rets Try.results20 (RVs.cons (RV.tm rfl) (RVs.cons (RV.tm rfl) RVs.nil)) ?_
    exact ⟨_, rfl, none, 0, rfl, hM⟩
  · rw [if_neg (ne_true hc)] at hF
    refine KC.skip ?_
    refine KQ.then_n ?_
    refine KC.seq ?_
    refine KC.region ?_
    refine RL.val (O.fldA fl47_0 (by decide) rfl) rfl ?_
    refine RL.val (O.fldA fl45_2 (by decide) rfl) rfl ?_
    refine RL.val (O.load sc5 rfl (Cs.adds [0, 34] ((hM.bx (i := 0) rfl)) rfl)) rfl ?_
    refine RL.val (O.conv un5 Try.underlying30 rfl) rfl ?_
    refine RL.val (O.fldA fl47_0 (by decide) rfl) rfl ?_
    refine RL.val (O.fldA fl45_3 (by decide) rfl) rfl ?_
    refine RL.val (O.load sc25 rfl (Cs.adds [0, 35] ((hM.bx (i := 0) rfl)) rfl)) rfl ?_
    refine RL.val (O.conv un25 Try.underlying30 rfl) rfl ?_
    refine RL.val (O.fldA fl47_0 (by decide) rfl) rfl ?_
    refine RL.val (O.fldA fl45_4 (by decide) rfl) rfl ?_
    refine RL.val (O.load sc25 rfl (Cs.adds [0, 36] ((hM.bx (i := 0) rfl)) rfl)) rfl ?_
    refine RL.val (O.conv un25 Try.underlying30 rfl) rfl ?_
    refine RL.val (O.fldA fl47_2 (by decide) rfl) rfl ?_
    refine RL.val (O.load sc30 rfl (Cs.adds [38] ((hM.bx (i := 0) rfl)) rfl)) rfl ?_
    refine RL.val (O.fldA fl47_1 (by decide) rfl) rfl ?_
    refine RL.val (O.load sc30 rfl (Cs.adds [37] ((hM.bx (i := 0) rfl)) rfl)) rfl ?_
    refine RL.val (O.fldA fl47_3 (by decide) rfl) rfl ?_
    refine RL.val (O.load sc30 rfl (Cs.adds [39] ((hM.bx (i := 0) rfl)) rfl)) rfl ?_
    refine RL.val (O.fldA fl47_4 (by decide) rfl) rfl ?_
    refine RL.val (O.load sc30 rfl (Cs.adds [40] ((hM.bx (i := 0) rfl)) rfl)) rfl ?_
    refine RL.val (O.fldA fl47_5 (by decide) rfl) rfl ?_
    refine RL.val (O.load sc5 rfl (Cs.adds [41] ((hM.bx (i := 0) rfl)) rfl)) rfl ?_
    refine RL.val (O.conv un5 Try.underlying30 rfl) rfl ?_
    refine RL.val (O.fldA fl47_6 (by decide) rfl) rfl ?_
    refine RL.val (O.load sc5 rfl (Cs.adds [42] ((hM.bx (i := 0) rfl)) rfl)) rfl ?_
    refine RL.val (O.conv un5 Try.underlying30 rfl) rfl ?_
    refine RL.val (O.fldA fl47_7 (by decide) rfl) rfl ?_
    refine RL.val (O.load sc5 rfl (Cs.adds [43] ((hM.bx (i := 0) rfl)) rfl)) rfl ?_
    refine RL.val (O.conv un5 Try.underlying30 rfl) rfl ?_
    refine RL.eff (E.bsl (enc := (eI .u64)) (xs := [(IntKind.u64.wrap rv1.f_Key.f_Proto), (IntKind.u64.wrap rv1.f_Key.f_SrcPort), (IntKind.u64.wrap rv1.f_Key.f_DstPort), rv1.f_Bytes, rv1.f_Packets, rv1.f_First, rv1.f_Last, (IntKind.u64.wrap rv1.f_Flags), (IntKind.u64.wrap rv1.f_Reason), (IntKind.u64.wrap rv1.f_Class)]) hM sl29 ze30 rfl rfl rfl (fun _ => rfl) rfl (by kernel_rfl) rfl) rfl fun v w9 hv => ?_
    clear hM
    obtain ⟨A10, rfl, hM, hf⟩ := hv
    refine RL.val (O.assign rfl) rfl ?_
    refine RL.nil ?_
    refine KQ.then_n ?_
    refine KC.seq ?_
    replace hM := hM.drewN 1
    refine KC.draw [] [] [3, 9, 12] [0, 1, 6, 7, 13] (.ofList [0, 1, 2, 6, 7, 8, 3, 4, 5, 9, 10, 11, 12, 13]) moP (by kernel_rfl) ?_
    refine RD.p rfl rfl rfl rfl (fun w' => O.fldA fl47_0 (by decide) rfl) ?_
    refine RD.p rfl rfl rfl rfl (fun w' => O.fldA fl45_0 (by decide) rfl) ?_
    refine RD.q rfl rfl rfl rfl (fun w' hf => O.loadN (cs := [.bool rv1.f_Key.f_Src.f_Six, .int .u8 (List.getD rv1.f_Key.f_Src.f_B 0 0), .int .u8 (List.getD rv1.f_Key.f_Src.f_B 1 0), .int .u8 (List.getD rv1.f_Key.f_Src.f_B 2 0), .int .u8 (List.getD rv1.f_Key.f_Src.f_B 3 0), .int .u8 (List.getD rv1.f_Key.f_Src.f_B 4 0), .int .u8 (List.getD rv1.f_Key.f_Src.f_B 5 0), .int .u8 (List.getD rv1.f_Key.f_Src.f_B 6 0), .int .u8 (List.getD rv1.f_Key.f_Src.f_B 7 0), .int .u8 (List.getD rv1.f_Key.f_Src.f_B 8 0), .int .u8 (List.getD rv1.f_Key.f_Src.f_B 9 0), .int .u8 (List.getD rv1.f_Key.f_Src.f_B 10 0), .int .u8 (List.getD rv1.f_Key.f_Src.f_B 11 0), .int .u8 (List.getD rv1.f_Key.f_Src.f_B 12 0), .int .u8 (List.getD rv1.f_Key.f_Src.f_B 13 0), .int .u8 (List.getD rv1.f_Key.f_Src.f_B 14 0), .int .u8 (List.getD rv1.f_Key.f_Src.f_B 15 0)]) ag43 rfl (Cs.addsN [0, 0] ((hM.bx (i := 0) rfl).fut hf) rfl)) ?_
    refine RD.p rfl rfl rfl rfl (fun w' => O.fldA fl47_0 (by decide) rfl) ?_
    refine RD.p rfl rfl rfl rfl (fun w' => O.fldA fl45_1 (by decide) rfl) ?_
    refine RD.q rfl rfl rfl rfl (fun w' hf => O.loadN (cs := [.bool rv1.f_Key.f_Dst.f_Six, .int .u8 (List.getD rv1.f_Key.f_Dst.f_B 0 0), .int .u8 (List.getD rv1.f_Key.f_Dst.f_B 1 0), .int .u8 (List.getD rv1.f_Key.f_Dst.f_B 2 0), .int .u8 (List.getD rv1.f_Key.f_Dst.f_B 3 0), .int .u8 (List.getD rv1.f_Key.f_Dst.f_B 4 0), .int .u8 (List.getD rv1.f_Key.f_Dst.f_B 5 0), .int .u8 (List.getD rv1.f_Key.f_Dst.f_B 6 0), .int .u8 (List.getD rv1.f_Key.f_Dst.f_B 7 0), .int .u8 (List.getD rv1.f_Key.f_Dst.f_B 8 0), .int .u8 (List.getD rv1.f_Key.f_Dst.f_B 9 0), .int .u8 (List.getD rv1.f_Key.f_Dst.f_B 10 0), .int .u8 (List.getD rv1.f_Key.f_Dst.f_B 11 0), .int .u8 (List.getD rv1.f_Key.f_Dst.f_B 12 0), .int .u8 (List.getD rv1.f_Key.f_Dst.f_B 13 0), .int .u8 (List.getD rv1.f_Key.f_Dst.f_B 14 0), .int .u8 (List.getD rv1.f_Key.f_Dst.f_B 15 0)]) ag43 rfl (Cs.addsN [0, 17] ((hM.bx (i := 0) rfl).fut hf) rfl)) ?_
    refine obindE hF fun y12 hx13 hF => ?_
    refine RD.mcall rfl rfl trivial Try.func34 bd34 rfl rfl (c_ref04_Bytes _ rv1.f_Key.f_Src _ hx13) fun v w14 hv => ?_
    obtain ⟨A16, c17, rfl, hN15⟩ := hv
    refine ⟨fun _ => hN15.fut, ?_⟩
    replace hM := hM.call hN15
    refine RD.q rfl rfl rfl rfl (fun w' hf => O.b2s sl74 Try.underlying5 Try.underlying9 rfl ((hM.rd (i := 2) rfl).fut hf)) ?_
    refine RD.q rfl rfl rfl rfl (fun w' hf => O.bld (cs := [.int .u64 0, .string (strOfNums y12)]) bt87 rfl (by kernel_rfl)) ?_
    refine obindE hF fun y19 hx20 hF => ?_
    refine RD.mcall rfl rfl trivial Try.func34 bd34 rfl rfl (c_ref04_Bytes _ rv1.f_Key.f_Dst _ hx20) fun v w21 hv => ?_
    obtain ⟨A23, c24, rfl, hN22⟩ := hv
    refine ⟨fun _ => hN22.fut, ?_⟩
    replace hM := hM.call hN22
    refine RD.q rfl rfl rfl rfl (fun w' hf => O.b2s sl74 Try.underlying5 Try.underlying9 rfl ((hM.rd (i := 3) rfl).fut hf)) ?_
    refine RD.q rfl rfl rfl rfl (fun w' hf => O.bld (cs := [.int .u64 0, .string (strOfNums y19)]) bt87 rfl (by kernel_rfl)) ?_
    refine RD.meff rfl rfl (E.bsl (enc := e_ref18_Value) (xs := [(T_ref18_Value.mk 0 (strOfNums y12)), (T_ref18_Value.mk 0 (strOfNums y19))]) hM sl60 ze87 rfl rfl rfl (fun _ => rfl) rfl (by kernel_rfl) rfl) rfl fun v w26 hv => ?_
    clear hM
    obtain ⟨A27, rfl, hM, hf⟩ := hv
    refine ⟨fun _ => hf, ?_⟩
    refine RD.p rfl rfl rfl rfl (fun w' => O.assign rfl) ?_
    refine RD.nil ?_
    refine KQ.then_n ?_
    refine KC.seq ?_
    refine KC.seq ?_
    refine KC.region ?_
    refine RL.val (O.assign rfl) rfl ?_
    refine RL.nil ?_
    refine KQ.then_n ?_
    refine KC.block ?_
    refine KC.loop (fun k65 a w63 => ∃ (A59 : Option Addr) (c60 : Nat) (out61 : List T_ref18_Value) (i62 : Int), Kn 68 [(4, .slice A10 ([(IntKind.u64.wrap rv1.f_Key.f_Proto), (IntKind.u64.wrap rv1.f_Key.f_SrcPort), (IntKind.u64.wrap rv1.f_Key.f_DstPort), rv1.f_Bytes, rv1.f_Packets, rv1.f_First, rv1.f_Last, (IntKind.u64.wrap rv1.f_Flags), (IntKind.u64.wrap rv1.f_Reason), (IntKind.u64.wrap rv1.f_Class)]).length 10), (5, .slice A59 (out61).length c60), (6, .int .i64 i62)] a ∧ Mem w [] w63 [.row A10 10 30 1 ([(IntKind.u64.wrap rv1.f_Key.f_Proto), (IntKind.u64.wrap rv1.f_Key.f_SrcPort), (IntKind.u64.wrap rv1.f_Key.f_DstPort), rv1.f_Bytes, rv1.f_Packets, rv1.f_First, rv1.f_Last, (IntKind.u64.wrap rv1.f_Flags), (IntKind.u64.wrap rv1.f_Reason), (IntKind.u64.wrap rv1.f_Class)]).length (([(IntKind.u64.wrap rv1.f_Key.f_Proto), (IntKind.u64.wrap rv1.f_Key.f_SrcPort), (IntKind.u64.wrap rv1.f_Key.f_DstPort), rv1.f_Bytes, rv1.f_Packets, rv1.f_First, rv1.f_Last, (IntKind.u64.wrap rv1.f_Flags), (IntKind.u64.wrap rv1.f_Reason), (IntKind.u64.wrap rv1.f_Class)]).flatMap (eI .u64)), .row A59 c60 87 2 (out61).length ((out61).flatMap e_ref18_Value)] ∧ F_ref22_Values_L1 rv1 k65 out61 i62 = some r) ?_ ?_
    · replace hM := hM.pick [1, 4] rfl (by decide)
      exact fun a ha => ⟨fuel0, A27, 2, ([(T_ref18_Value.mk 0 (strOfNums y12)), (T_ref18_Value.mk 0 (strOfNums y19))]), 0, ha.less (less_cons rfl (less_cons rfl (less_cons rfl less_nil))), hM, hF⟩
    · rintro k65 a w63 ⟨A59, c60, out61, i62, ha, hM, hF⟩
      refine KC.app ha ?_
      clear ha
      cases k65 with
      | zero => exact (none_some hF).elim
      | succ k65 =>
      have hF : F_ref22_Values_l1 (F_ref22_Values_L1 rv1 k65) rv1 out61 i62 = some r := hF
      unfold F_ref22_Values_l1 at hF
      refine KC.seq ?_
      refine KC.seq ?_
      refine KC.region ?_
      refine RL.val (O.move rfl) rfl ?_
      refine RL.val (O.move rfl) rfl ?_
      refine RL.val (O.len sl29 rfl) rfl ?_
      refine RL.val (O.lss rfl rfl) rfl ?_
      refine RL.nil ?_
      refine KQ.then_n ?_
      refine KC.cond rfl (fun hc => ?_) (fun hc => ?_)
      · rw [if_pos hc] at hF
        refine KC.skip ?_
        refine KQ.then_n ?_
        refine KC.seq ?_
        refine KC.block ?_
        refine KC.region ?_
        refine RL.val (O.move rfl) rfl ?_
        refine RL.val (O.move rfl) rfl ?_
        refine RL.val (O.move rfl) rfl ?_
        refine obindE hF fun xv68 hx67 hF => ?_
        have hA66 := Rd.atN (f := (eI .u64)) (s := 1) (fun _ => rfl) (by decide) (hM.rd (i := 0) rfl) hx67
        refine RL.val (O.idxA sl29 (hA66) rfl rfl) rfl ?_
        refine RL.val (O.load sc30 rfl (hA66).cells.at0) rfl ?_
        refine RL.val (O.bld (cs := [.int .u64 xv68, .string ByteArray.empty]) bt87 rfl (by kernel_rfl)) rfl ?_
        refine RL.eff (E.bsl (enc := e_ref18_Value) (xs := [(T_ref18_Value.mk xv68 ByteArray.empty)]) hM sl60 ze87 rfl rfl rfl (fun _ => rfl) rfl (by kernel_rfl) rfl) rfl fun v w69 hv => ?_
        clear hM
        obtain ⟨A70, rfl, hM, hf⟩ := hv
        refine cut_someE hF fun hq75 hF => ?_
        refine RL.eff (E.app (enc := e_ref18_Value) (xs := out61) (ys := [(T_ref18_Value.mk xv68 ByteArray.empty)]) (j := 1) hM rfl sl60 ze87 rfl rfl rfl rfl rfl (hM.rd (i := 2) rfl) (fun _ => One.all rfl) (of_decide_eq_true hq75)) rfl fun v w74 hv => ?_
        clear hM
        obtain ⟨A72, c73, rfl, hM, hf⟩ := hv
        refine RL.val (O.assign rfl) rfl ?_
        refine RL.nil ?_
        refine KQ.blk_n ?_
        refine KQ.then_n ?_
        refine KC.region ?_
        refine RL.val (O.move rfl) rfl ?_
        refine RL.val (O.add rfl rfl) rfl ?_
        refine RL.val (O.assign rfl) rfl ?_
        refine RL.nil ?_
        refine KQ.then_k ?_
        replace hM := hM.pick [0, 1] rfl (by decide)
        exact fun a ha => ⟨k65, Nat.lt_succ_self k65, A72, c73, (out61 ++ [(T_ref18_Value.mk xv68 ByteArray.empty)]), (IntKind.i64.wrap (i62 + 1)), ha.less (less_cons rfl (less_cons rfl (less_cons rfl less_nil))), hM, hF⟩
      · rw [if_neg (ne_true hc)] at hF
        refine KC.exit ?_
        refine KQ.then_x ?_
        refine KQ.then_x ?_
        refine KQ.blk_x ?_
        refine KQ.then_n ?_
        refine KC.seq ?_
        refine KC.region ?_
        refine RL.val (O.move rfl) rfl ?_
        refine RL.val (O.assign rfl) rfl ?_
        refine RL.val (O.assign rfl) rfl ?_
        refine RL.nil ?_
        refine KQ.then_n ?_
        refine KC.ret ?_
        obtain rfl := Option.some.inj hF
        replace hM := hM.pick [1] rfl (by decide)
        refine KQ.rets Try.results20 (RVs.cons (RV.tm rfl) (RVs.cons (RV.tm rfl) RVs.nil)) ?_
        exact ⟨_, rfl, A59, c60, rfl, hM⟩
set_option maxRecDepth 100000 in
set_option maxHeartbeats 40000000 in
theorem c_packet_ports (w : World) (proto1 : Int) (r : Bool) (hF : F_packet_ports proto1 = some r) :
    CallsR Try.prog 39 [.int .u8 proto1] w (fun v w' => v = .bool r ∧ Mem w [] w' []) := by
  refine calls_KC Try.func39 rfl Try.ntmps39 rfl ?_
  have hM := Mem.init w
  unfold F_packet_ports at hF
  refine KC.seq ?_
  refine KC.region ?_
  refine RL.val (O.assign rfl) rfl ?_
  refine RL.nil ?_
  refine KQ.then_n ?_
  refine KC.cut (fun a w3 => ∃ (t2 : Bool), Kn 9 [(2, .bool t2)] a ∧ Mem w [] w3 [] ∧ F_packet_ports_j1 t2 = some r) ?_ ?_
  · refine KC.region ?_
    refine RL.val (O.move rfl) rfl ?_
    refine RL.val (O.eql rfl rfl) rfl ?_
    refine RL.val (O.move rfl) rfl ?_
    refine RL.bcase (t := 5) rfl (fun hc => ?_) (fun hc => ?_)
    · rw [if_pos hc] at hF
      refine RL.gskip rfl rfl rfl rfl ?_
      refine RL.gskip rfl rfl rfl rfl ?_
      refine RL.val (O.pickt rfl rfl) rfl ?_
      refine RL.val (O.assign rfl) rfl ?_
      refine RL.nil ?_
      refine KQ.then_k ?_
      exact fun a ha => ⟨true, ha.less (less_cons rfl less_nil), hM, hF⟩
    · rw [if_neg (ne_true hc)] at hF
      refine RL.gval rfl rfl (O.move rfl) rfl ?_
      refine RL.gval rfl rfl (O.eql rfl rfl) rfl ?_
      refine RL.val (O.pickf rfl rfl) rfl ?_
      refine RL.val (O.assign rfl) rfl ?_
      refine RL.nil ?_
      refine KQ.then_k ?_
      exact fun a ha => ⟨(proto1 == 17), ha.less (less_cons rfl less_nil), hM, hF⟩
  · rintro a w3 ⟨t2, ha, hM, hF⟩
    refine KC.app ha ?_
    clear ha
    unfold F_packet_ports_j1 at hF
    refine KC.ret ?_
    obtain rfl := Option.some.inj hF
    refine KQ.rets Try.results39 (RVs.cons (RV.tm rfl) RVs.nil) ?_
    exact ⟨_, rfl, rfl, hM⟩
set_option maxRecDepth 100000 in
set_option maxHeartbeats 40000000 in
theorem c_packet_icmp (w : World) (proto1 : Int) (r : Bool) (hF : F_packet_icmp proto1 = some r) :
    CallsR Try.prog 40 [.int .u8 proto1] w (fun v w' => v = .bool r ∧ Mem w [] w' []) := by
  refine calls_KC Try.func40 rfl Try.ntmps40 rfl ?_
  have hM := Mem.init w
  unfold F_packet_icmp at hF
  refine KC.seq ?_
  refine KC.region ?_
  refine RL.val (O.assign rfl) rfl ?_
  refine RL.nil ?_
  refine KQ.then_n ?_
  refine KC.cut (fun a w3 => ∃ (t2 : Bool), Kn 9 [(2, .bool t2)] a ∧ Mem w [] w3 [] ∧ F_packet_icmp_j1 t2 = some r) ?_ ?_
  · refine KC.region ?_
    refine RL.val (O.move rfl) rfl ?_
    refine RL.val (O.eql rfl rfl) rfl ?_
    refine RL.val (O.move rfl) rfl ?_
    refine RL.bcase (t := 5) rfl (fun hc => ?_) (fun hc => ?_)
    · rw [if_pos hc] at hF
      refine RL.gskip rfl rfl rfl rfl ?_
      refine RL.gskip rfl rfl rfl rfl ?_
      refine RL.val (O.pickt rfl rfl) rfl ?_
      refine RL.val (O.assign rfl) rfl ?_
      refine RL.nil ?_
      refine KQ.then_k ?_
      exact fun a ha => ⟨true, ha.less (less_cons rfl less_nil), hM, hF⟩
    · rw [if_neg (ne_true hc)] at hF
      refine RL.gval rfl rfl (O.move rfl) rfl ?_
      refine RL.gval rfl rfl (O.eql rfl rfl) rfl ?_
      refine RL.val (O.pickf rfl rfl) rfl ?_
      refine RL.val (O.assign rfl) rfl ?_
      refine RL.nil ?_
      refine KQ.then_k ?_
      exact fun a ha => ⟨(proto1 == 58), ha.less (less_cons rfl less_nil), hM, hF⟩
  · rintro a w3 ⟨t2, ha, hM, hF⟩
    refine KC.app ha ?_
    clear ha
    unfold F_packet_icmp_j1 at hF
    refine KC.ret ?_
    obtain rfl := Option.some.inj hF
    refine KQ.rets Try.results40 (RVs.cons (RV.tm rfl) RVs.nil) ?_
    exact ⟨_, rfl, rfl, hM⟩
set_option maxRecDepth 100000 in
set_option maxHeartbeats 40000000 in
theorem c_addr_Addr_size (w : World) (av1 : T_addr_Addr) (r : Int) (hF : F_addr_Addr_size av1 = some r) :
    CallsR Try.prog 48 [.agg #[.bool av1.f_Six, .int .u8 (List.getD av1.f_B 0 0), .int .u8 (List.getD av1.f_B 1 0), .int .u8 (List.getD av1.f_B 2 0), .int .u8 (List.getD av1.f_B 3 0), .int .u8 (List.getD av1.f_B 4 0), .int .u8 (List.getD av1.f_B 5 0), .int .u8 (List.getD av1.f_B 6 0), .int .u8 (List.getD av1.f_B 7 0), .int .u8 (List.getD av1.f_B 8 0), .int .u8 (List.getD av1.f_B 9 0), .int .u8 (List.getD av1.f_B 10 0), .int .u8 (List.getD av1.f_B 11 0), .int .u8 (List.getD av1.f_B 12 0), .int .u8 (List.getD av1.f_B 13 0), .int .u8 (List.getD av1.f_B 14 0), .int .u8 (List.getD av1.f_B 15 0)]] w (fun v w' => v = .int .i64 r ∧ Mem w [] w' []) := by
  refine calls_KC Try.func48 rfl Try.ntmps48 rfl ?_
  have hM := Mem.init w
  unfold F_addr_Addr_size at hF
  refine KC.seq ?_
  refine KC.region ?_
  refine RL.eff (E.box (vs := [.bool av1.f_Six, .int .u8 (List.getD av1.f_B 0 0), .int .u8 (List.getD av1.f_B 1 0), .int .u8 (List.getD av1.f_B 2 0), .int .u8 (List.getD av1.f_B 3 0), .int .u8 (List.getD av1.f_B 4 0), .int .u8 (List.getD av1.f_B 5 0), .int .u8 (List.getD av1.f_B 6 0), .int .u8 (List.getD av1.f_B 7 0), .int .u8 (List.getD av1.f_B 8 0), .int .u8 (List.getD av1.f_B 9 0), .int .u8 (List.getD av1.f_B 10 0), .int .u8 (List.getD av1.f_B 11 0), .int .u8 (List.getD av1.f_B 12 0), .int .u8 (List.getD av1.f_B 13 0), .int .u8 (List.getD av1.f_B 14 0), .int .u8 (List.getD av1.f_B 15 0)]) hM rfl rfl) rfl fun v w3 hv => ?_
  clear hM
  obtain ⟨g2, rfl, hM, hf⟩ := hv
  refine RL.val (O.assign rfl) rfl ?_
  refine RL.nil ?_
  refine KQ.then_n ?_
  refine KC.seq ?_
  refine KC.seq ?_
  refine KC.region ?_
  refine RL.val (O.fldA fl24_0 (by decide) rfl) rfl ?_
  refine RL.val (O.load sc4 rfl (Cs.adds [0] ((hM.bx (i := 0) rfl)) rfl)) rfl ?_
  refine RL.nil ?_
  refine KQ.then_n ?_
  refine KC.cond rfl (fun hc => ?_) (fun hc => ?_)
  · rw [if_pos hc] at hF
    refine KC.seq ?_
    refine KC.region ?_
    refine RL.val (O.assign rfl) rfl ?_
    refine RL.nil ?_
    refine KQ.then_n ?_
    refine KC.ret ?_
    refine KQ.then_r ?_
    obtain rfl := Option.some.inj hF
    replace hM := hM.pick [] rfl (by decide)
    refine KQ.rets Try.results48 (RVs.cons (RV.tm rfl) RVs.nil) ?_
    exact ⟨_, rfl, rfl, hM⟩
  · rw [if_neg (ne_true hc)] at hF
    refine KC.skip ?_
    refine KQ.then_n ?_
    refine KC.seq ?_
    refine KC.region ?_
    refine RL.val (O.assign rfl) rfl ?_
    refine RL.nil ?_
    refine KQ.then_n ?_
    refine KC.ret ?_
    obtain rfl := Option.some.inj hF
    replace hM := hM.pick [] rfl (by decide)
    refine KQ.rets Try.results48 (RVs.cons (RV.tm rfl) RVs.nil) ?_
    exact ⟨_, rfl, rfl, hM⟩
set_option maxRecDepth 100000 in
set_option maxHeartbeats 40000000 in
theorem c_addr_Addr_Right (w : World) (av1 : T_addr_Addr) (r : Bool) (hF : F_addr_Addr_Right av1 = some r) :
    CallsR Try.prog 41 [.agg #[.bool av1.f_Six, .int .u8 (List.getD av1.f_B 0 0), .int .u8 (List.getD av1.f_B 1 0), .int .u8 (List.getD av1.f_B 2 0), .int .u8 (List.getD av1.f_B 3 0), .int .u8 (List.getD av1.f_B 4 0), .int .u8 (List.getD av1.f_B 5 0), .int .u8 (List.getD av1.f_B 6 0), .int .u8 (List.getD av1.f_B 7 0), .int .u8 (List.getD av1.f_B 8 0), .int .u8 (List.getD av1.f_B 9 0), .int .u8 (List.getD av1.f_B 10 0), .int .u8 (List.getD av1.f_B 11 0), .int .u8 (List.getD av1.f_B 12 0), .int .u8 (List.getD av1.f_B 13 0), .int .u8 (List.getD av1.f_B 14 0), .int .u8 (List.getD av1.f_B 15 0)]] w (fun v w' => v = .bool r ∧ Mem w [] w' []) := by
  refine calls_KC Try.func41 rfl Try.ntmps41 rfl ?_
  have hM := Mem.init w
  unfold F_addr_Addr_Right at hF
  refine KC.seq ?_
  refine KC.region ?_
  refine RL.eff (E.box (vs := [.bool av1.f_Six, .int .u8 (List.getD av1.f_B 0 0), .int .u8 (List.getD av1.f_B 1 0), .int .u8 (List.getD av1.f_B 2 0), .int .u8 (List.getD av1.f_B 3 0), .int .u8 (List.getD av1.f_B 4 0), .int .u8 (List.getD av1.f_B 5 0), .int .u8 (List.getD av1.f_B 6 0), .int .u8 (List.getD av1.f_B 7 0), .int .u8 (List.getD av1.f_B 8 0), .int .u8 (List.getD av1.f_B 9 0), .int .u8 (List.getD av1.f_B 10 0), .int .u8 (List.getD av1.f_B 11 0), .int .u8 (List.getD av1.f_B 12 0), .int .u8 (List.getD av1.f_B 13 0), .int .u8 (List.getD av1.f_B 14 0), .int .u8 (List.getD av1.f_B 15 0)]) hM rfl rfl) rfl fun v w3 hv => ?_
  clear hM
  obtain ⟨g2, rfl, hM, hf⟩ := hv
  refine RL.val (O.assign rfl) rfl ?_
  refine RL.nil ?_
  refine KQ.then_n ?_
  refine KC.seq ?_
  refine KC.region ?_
  refine RL.eff (E.alloc hM ze22) rfl fun v w6 hv => ?_
  clear hM
  obtain ⟨g5, rfl, hM, hf⟩ := hv
  refine RL.nil ?_
  refine KQ.then_n ?_
  refine KC.seq ?_
  replace hM := hM.drewN 1
  refine KC.draw [] [5] [1, 5] [2, 3, 4] (.ofList [0, 3, 4, 1, 2, 5]) moP (by kernel_rfl) ?_
  refine RD.q rfl rfl rfl rfl (fun w' hf => O.loadN (cs := [.bool av1.f_Six, .int .u8 (List.getD av1.f_B 0 0), .int .u8 (List.getD av1.f_B 1 0), .int .u8 (List.getD av1.f_B 2 0), .int .u8 (List.getD av1.f_B 3 0), .int .u8 (List.getD av1.f_B 4 0), .int .u8 (List.getD av1.f_B 5 0), .int .u8 (List.getD av1.f_B 6 0), .int .u8 (List.getD av1.f_B 7 0), .int .u8 (List.getD av1.f_B 8 0), .int .u8 (List.getD av1.f_B 9 0), .int .u8 (List.getD av1.f_B 10 0), .int .u8 (List.getD av1.f_B 11 0), .int .u8 (List.getD av1.f_B 12 0), .int .u8 (List.getD av1.f_B 13 0), .int .u8 (List.getD av1.f_B 14 0), .int .u8 (List.getD av1.f_B 15 0)]) ag24 rfl (Cs.addsN [] ((hM.bx (i := 0) rfl).fut hf) rfl)) ?_
  refine RD.p rfl rfl rfl rfl (fun w' => O.fldA fl24_1 (by decide) rfl) ?_
  have hr8 := Rd.arr (n := 16) (k := .u8) (xs := av1.f_B) (Cs.addsN [1] (hM.bx (i := 0) rfl) rfl) rfl rfl
  refine RD.p rfl rfl rfl rfl (fun w' => O.slArr (xs := av1.f_B) Try.underlying22 sz5 rfl rfl) ?_
  refine obindE hF fun y9 hx10 hF => ?_
  refine RD.mcall rfl rfl trivial Try.func48 bd48 rfl rfl (c_addr_Addr_size _ av1 _ hx10) fun v w11 hv => ?_
  obtain ⟨rfl, hN12⟩ := hv
  refine ⟨fun _ => hN12.fut, ?_⟩
  have hr8 := hr8.fut hN12.fut
  replace hM := hM.call0 hN12
  refine obindE hF fun cut14 hy15 hF => ?_
  have hr13 := Rd.arrTo (n := 16) (k := .u8) (xs := (List.replicate 16 0)) (Cs.addsN [] (hM.bx (i := 1) rfl) rfl) rfl rfl hy15
  refine RD.p rfl rfl rfl rfl (fun w' => O.slArrTo Try.underlying22 sz5 rfl hy15 rfl rfl) ?_
  refine RD.meff rfl rfl (E.copyA (k := .u8) (n := 16) (j := 1) (xs := (List.replicate 16 0)) (ys := (arrL 16 av1.f_B)) hM rfl sl74 rfl (arr_cut_le hy15) rfl hr8) rfl fun v w16 hv => ?_
  clear hM
  obtain ⟨rfl, hM⟩ := hv
  refine ⟨fun h => (by cases h), ?_⟩
  have hr8 := Rd.arr (n := 16) (k := .u8) (xs := av1.f_B) (Cs.addsN [1] (hM.bx (i := 0) rfl) rfl) rfl rfl
  refine RD.nil ?_
  refine KQ.then_n ?_
  refine KC.seq ?_
  refine KC.region ?_
  refine RL.val (O.fldA fl24_1 (by decide) rfl) rfl ?_
  refine RL.val (O.loadN (cs := [.int .u8 (List.getD av1.f_B 0 0), .int .u8 (List.getD av1.f_B 1 0), .int .u8 (List.getD av1.f_B 2 0), .int .u8 (List.getD av1.f_B 3 0), .int .u8 (List.getD av1.f_B 4 0), .int .u8 (List.getD av1.f_B 5 0), .int .u8 (List.getD av1.f_B 6 0), .int .u8 (List.getD av1.f_B 7 0), .int .u8 (List.getD av1.f_B 8 0), .int .u8 (List.getD av1.f_B 9 0), .int .u8 (List.getD av1.f_B 10 0), .int .u8 (List.getD av1.f_B 11 0), .int .u8 (List.getD av1.f_B 12 0), .int .u8 (List.getD av1.f_B 13 0), .int .u8 (List.getD av1.f_B 14 0), .int .u8 (List.getD av1.f_B 15 0)]) ag22 rfl (Cs.addsN [1] ((hM.bx (i := 0) rfl)) rfl)) rfl ?_
  refine RL.val (O.loadN (cs := [.int .u8 (List.getD (cpA 16 (Nat.min (arrL 16 av1.f_B).length cut14.length) (List.replicate 16 0) (arrL 16 av1.f_B)) 0 0), .int .u8 (List.getD (cpA 16 (Nat.min (arrL 16 av1.f_B).length cut14.length) (List.replicate 16 0) (arrL 16 av1.f_B)) 1 0), .int .u8 (List.getD (cpA 16 (Nat.min (arrL 16 av1.f_B).length cut14.length) (List.replicate 16 0) (arrL 16 av1.f_B)) 2 0), .int .u8 (List.getD (cpA 16 (Nat.min (arrL 16 av1.f_B).length cut14.length) (List.replicate 16 0) (arrL 16 av1.f_B)) 3 0), .int .u8 (List.getD (cpA 16 (Nat.min (arrL 16 av1.f_B).length cut14.length) (List.replicate 16 0) (arrL 16 av1.f_B)) 4 0), .int .u8 (List.getD (cpA 16 (Nat.min (arrL 16 av1.f_B).length cut14.length) (List.replicate 16 0) (arrL 16 av1.f_B)) 5 0), .int .u8 (List.getD (cpA 16 (Nat.min (arrL 16 av1.f_B).length cut14.length) (List.replicate 16 0) (arrL 16 av1.f_B)) 6 0), .int .u8 (List.getD (cpA 16 (Nat.min (arrL 16 av1.f_B).length cut14.length) (List.replicate 16 0) (arrL 16 av1.f_B)) 7 0), .int .u8 (List.getD (cpA 16 (Nat.min (arrL 16 av1.f_B).length cut14.length) (List.replicate 16 0) (arrL 16 av1.f_B)) 8 0), .int .u8 (List.getD (cpA 16 (Nat.min (arrL 16 av1.f_B).length cut14.length) (List.replicate 16 0) (arrL 16 av1.f_B)) 9 0), .int .u8 (List.getD (cpA 16 (Nat.min (arrL 16 av1.f_B).length cut14.length) (List.replicate 16 0) (arrL 16 av1.f_B)) 10 0), .int .u8 (List.getD (cpA 16 (Nat.min (arrL 16 av1.f_B).length cut14.length) (List.replicate 16 0) (arrL 16 av1.f_B)) 11 0), .int .u8 (List.getD (cpA 16 (Nat.min (arrL 16 av1.f_B).length cut14.length) (List.replicate 16 0) (arrL 16 av1.f_B)) 12 0), .int .u8 (List.getD (cpA 16 (Nat.min (arrL 16 av1.f_B).length cut14.length) (List.replicate 16 0) (arrL 16 av1.f_B)) 13 0), .int .u8 (List.getD (cpA 16 (Nat.min (arrL 16 av1.f_B).length cut14.length) (List.replicate 16 0) (arrL 16 av1.f_B)) 14 0), .int .u8 (List.getD (cpA 16 (Nat.min (arrL 16 av1.f_B).length cut14.length) (List.replicate 16 0) (arrL 16 av1.f_B)) 15 0)]) ag22 rfl (Cs.addsN [] ((hM.bx (i := 1) rfl)) rfl)) rfl ?_
  refine RL.val (O.steq (cs := [.int .u8 (List.getD av1.f_B 0 0), .int .u8 (List.getD av1.f_B 1 0), .int .u8 (List.getD av1.f_B 2 0), .int .u8 (List.getD av1.f_B 3 0), .int .u8 (List.getD av1.f_B 4 0), .int .u8 (List.getD av1.f_B 5 0), .int .u8 (List.getD av1.f_B 6 0), .int .u8 (List.getD av1.f_B 7 0), .int .u8 (List.getD av1.f_B 8 0), .int .u8 (List.getD av1.f_B 9 0), .int .u8 (List.getD av1.f_B 10 0), .int .u8 (List.getD av1.f_B 11 0), .int .u8 (List.getD av1.f_B 12 0), .int .u8 (List.getD av1.f_B 13 0), .int .u8 (List.getD av1.f_B 14 0), .int .u8 (List.getD av1.f_B 15 0)]) (cs' := [.int .u8 (List.getD (cpA 16 (Nat.min (arrL 16 av1.f_B).length cut14.length) (List.replicate 16 0) (arrL 16 av1.f_B)) 0 0), .int .u8 (List.getD (cpA 16 (Nat.min (arrL 16 av1.f_B).length cut14.length) (List.replicate 16 0) (arrL 16 av1.f_B)) 1 0), .int .u8 (List.getD (cpA 16 (Nat.min (arrL 16 av1.f_B).length cut14.length) (List.replicate 16 0) (arrL 16 av1.f_B)) 2 0), .int .u8 (List.getD (cpA 16 (Nat.min (arrL 16 av1.f_B).length cut14.length) (List.replicate 16 0) (arrL 16 av1.f_B)) 3 0), .int .u8 (List.getD (cpA 16 (Nat.min (arrL 16 av1.f_B).length cut14.length) (List.replicate 16 0) (arrL 16 av1.f_B)) 4 0), .int .u8 (List.getD (cpA 16 (Nat.min (arrL 16 av1.f_B).length cut14.length) (List.replicate 16 0) (arrL 16 av1.f_B)) 5 0), .int .u8 (List.getD (cpA 16 (Nat.min (arrL 16 av1.f_B).length cut14.length) (List.replicate 16 0) (arrL 16 av1.f_B)) 6 0), .int .u8 (List.getD (cpA 16 (Nat.min (arrL 16 av1.f_B).length cut14.length) (List.replicate 16 0) (arrL 16 av1.f_B)) 7 0), .int .u8 (List.getD (cpA 16 (Nat.min (arrL 16 av1.f_B).length cut14.length) (List.replicate 16 0) (arrL 16 av1.f_B)) 8 0), .int .u8 (List.getD (cpA 16 (Nat.min (arrL 16 av1.f_B).length cut14.length) (List.replicate 16 0) (arrL 16 av1.f_B)) 9 0), .int .u8 (List.getD (cpA 16 (Nat.min (arrL 16 av1.f_B).length cut14.length) (List.replicate 16 0) (arrL 16 av1.f_B)) 10 0), .int .u8 (List.getD (cpA 16 (Nat.min (arrL 16 av1.f_B).length cut14.length) (List.replicate 16 0) (arrL 16 av1.f_B)) 11 0), .int .u8 (List.getD (cpA 16 (Nat.min (arrL 16 av1.f_B).length cut14.length) (List.replicate 16 0) (arrL 16 av1.f_B)) 12 0), .int .u8 (List.getD (cpA 16 (Nat.min (arrL 16 av1.f_B).length cut14.length) (List.replicate 16 0) (arrL 16 av1.f_B)) 13 0), .int .u8 (List.getD (cpA 16 (Nat.min (arrL 16 av1.f_B).length cut14.length) (List.replicate 16 0) (arrL 16 av1.f_B)) 14 0), .int .u8 (List.getD (cpA 16 (Nat.min (arrL 16 av1.f_B).length cut14.length) (List.replicate 16 0) (arrL 16 av1.f_B)) 15 0)]) (by kernel_rfl) rfl rfl (eqArrT Try.underlying22 Try.underlying5 sz5 av1.f_B (cpA 16 (Nat.min (arrL 16 av1.f_B).length cut14.length) (List.replicate 16 0) (arrL 16 av1.f_B)) _ rfl rfl)) rfl ?_
  refine RL.val (O.assign rfl) rfl ?_
  refine RL.nil ?_
  refine KQ.then_n ?_
  refine KC.ret ?_
  obtain rfl := Option.some.inj hF
  replace hM := hM.pick [] rfl (by decide)
  refine KQ.rets Try.results41 (RVs.cons (RV.tm rfl) RVs.nil) ?_
  exact ⟨_, rfl, rfl, hM⟩
end Go.Proofs.Yteafnfoponjoeaa
