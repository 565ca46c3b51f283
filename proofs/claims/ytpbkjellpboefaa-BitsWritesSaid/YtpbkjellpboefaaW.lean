/- Printed by a program of this claim: each call returns what the plain function of its name gives. -/
import Derived.Test.YtpbkjellpboefaaW5
set_option linter.unusedVariables false
namespace Go.Proofs.Ytpbkjellpboefaa
open Go Go.Ox Go.RowKit
set_option maxRecDepth 100000 in
set_option maxHeartbeats 40000000 in
theorem c_bits_Writer_Len_N (w : World) (r : Int) (hF : F_bits_Writer_Len_N = some r) :
    CallsR Try.prog 24 [.pointer none] w (fun v w' => v = .int .i64 r ∧ Mem w [] w' []) := by
  refine calls_KC Try.func24 rfl Try.ntmps24 rfl ?_
  have hM := Mem.init w
  unfold F_bits_Writer_Len_N at hF
  refine KC.seq ?_
  refine KC.region ?_
  refine RL.val (O.assign rfl) rfl ?_
  refine RL.nil ?_
  refine KQ.then_n ?_
  refine KC.seq ?_
  refine KC.seq ?_
  refine KC.region ?_
  refine RL.val (O.move rfl) rfl ?_
  refine RL.val (O.peqn Try.underlying56 rfl rfl) rfl ?_
  refine RL.nil ?_
  refine KQ.then_n ?_
  refine KC.condT rfl ?_
  refine KC.seq ?_
  refine KC.region ?_
  refine RL.val (O.assign rfl) rfl ?_
  refine RL.nil ?_
  refine KQ.then_n ?_
  refine KC.ret ?_
  refine KQ.then_r ?_
  obtain rfl := Option.some.inj hF
  refine KQ.rets Try.results24 (RVs.cons (RV.tm rfl) RVs.nil) ?_
  exact ⟨_, rfl, rfl, hM⟩
set_option maxRecDepth 100000 in
set_option maxHeartbeats 40000000 in
theorem c_bits_Reader_Left_N (w : World) (r : Int) (hF : F_bits_Reader_Left_N = some r) :
    CallsR Try.prog 27 [.pointer none] w (fun v w' => v = .int .i64 r ∧ Mem w [] w' []) := by
  refine calls_KC Try.func27 rfl Try.ntmps27 rfl ?_
  have hM := Mem.init w
  unfold F_bits_Reader_Left_N at hF
  refine KC.seq ?_
  refine KC.region ?_
  refine RL.val (O.assign rfl) rfl ?_
  refine RL.nil ?_
  refine KQ.then_n ?_
  refine KC.seq ?_
  refine KC.seq ?_
  refine KC.region ?_
  refine RL.val (O.move rfl) rfl ?_
  refine RL.val (O.peqn Try.underlying49 rfl rfl) rfl ?_
  refine RL.nil ?_
  refine KQ.then_n ?_
  refine KC.condT rfl ?_
  refine KC.seq ?_
  refine KC.region ?_
  refine RL.val (O.assign rfl) rfl ?_
  refine RL.nil ?_
  refine KQ.then_n ?_
  refine KC.ret ?_
  refine KQ.then_r ?_
  obtain rfl := Option.some.inj hF
  refine KQ.rets Try.results27 (RVs.cons (RV.tm rfl) RVs.nil) ?_
  exact ⟨_, rfl, rfl, hM⟩
set_option maxRecDepth 100000 in
set_option maxHeartbeats 40000000 in
theorem c_bits_Reader_At_N (w : World) (r : Int) (hF : F_bits_Reader_At_N = some r) :
    CallsR Try.prog 29 [.pointer none] w (fun v w' => v = .int .i64 r ∧ Mem w [] w' []) := by
  refine calls_KC Try.func29 rfl Try.ntmps29 rfl ?_
  have hM := Mem.init w
  unfold F_bits_Reader_At_N at hF
  refine KC.seq ?_
  refine KC.region ?_
  refine RL.val (O.assign rfl) rfl ?_
  refine RL.nil ?_
  refine KQ.then_n ?_
  refine KC.seq ?_
  refine KC.seq ?_
  refine KC.region ?_
  refine RL.val (O.move rfl) rfl ?_
  refine RL.val (O.peqn Try.underlying49 rfl rfl) rfl ?_
  refine RL.nil ?_
  refine KQ.then_n ?_
  refine KC.condT rfl ?_
  refine KC.seq ?_
  refine KC.region ?_
  refine RL.val (O.assign rfl) rfl ?_
  refine RL.nil ?_
  refine KQ.then_n ?_
  refine KC.ret ?_
  refine KQ.then_r ?_
  obtain rfl := Option.some.inj hF
  refine KQ.rets Try.results29 (RVs.cons (RV.tm rfl) RVs.nil) ?_
  exact ⟨_, rfl, rfl, hM⟩
set_option maxRecDepth 100000 in
set_option maxHeartbeats 40000000 in
theorem c_law01_BitsNone (w : World) (av1 : T_law01_Act) (A2 : Option Addr) (c3 : Nat) (hr4 : Rd w A2 c3 1 av1.f_B.length (av1.f_B.flatMap (eI .u8))) (r : Bool) (hF : F_law01_BitsNone av1 = some r) :
    CallsR Try.prog 7 [.agg #[.int .i64 av1.f_Do, .int .i64 av1.f_At, .int .u64 av1.f_V, .int .i64 av1.f_Size, .slice A2 (av1.f_B).length c3]] w (fun v w' => v = .bool r ∧ Mem w [] w' []) := by
  refine calls_KC Try.func7 rfl Try.ntmps7 rfl ?_
  have hM := Mem.init w
  unfold F_law01_BitsNone at hF
  refine KC.seq ?_
  refine KC.region ?_
  refine RL.eff (E.box (vs := [.int .i64 av1.f_Do, .int .i64 av1.f_At, .int .u64 av1.f_V, .int .i64 av1.f_Size, .slice A2 (av1.f_B).length c3]) hM rfl rfl) rfl fun v w6 hv => ?_
  obtain ⟨g5, rfl, hM, hf⟩ := hv
  refine RL.val (O.assign rfl) rfl ?_
  refine RL.nil ?_
  refine KQ.then_n ?_
  refine KC.seq ?_
  refine KC.region ?_
  refine RL.val (O.assign rfl) rfl ?_
  refine RL.nil ?_
  refine KQ.then_n ?_
  refine KC.seq ?_
  refine KC.region ?_
  refine RL.val (O.assign rfl) rfl ?_
  refine RL.nil ?_
  refine KQ.then_n ?_
  refine KC.seq ?_
  refine KC.region ?_
  refine RL.val (O.move rfl) rfl ?_
  refine RL.val (O.fldA fl35_3 (by decide) rfl) rfl ?_
  refine RL.val (O.load sc3 rfl (Cs.adds [3] ((hM.bx (i := 0) rfl)) rfl)) rfl ?_
  obtain ⟨y8, hx9, hF⟩ := obind hF
  refine RL.call Try.func26 bd26 rfl rfl (c_bits_Reader_Get_N _ av1.f_Size _ hx9) fun v w10 hv => ?_
  obtain ⟨rfl, hN11⟩ := hv
  have hM := hM.call0 hN11
  refine RL.val (O.move rfl) rfl ?_
  refine RL.val (O.ext rfl rfl) rfl ?_
  refine RL.val (O.ext rfl rfl) rfl ?_
  refine RL.val (O.assign rfl) rfl ?_
  refine RL.val (O.assign rfl) rfl ?_
  refine RL.nil ?_
  refine KQ.then_n ?_
  refine KC.seq ?_
  refine KC.region ?_
  refine RL.val (O.move rfl) rfl ?_
  refine RL.val (O.fldA fl35_1 (by decide) rfl) rfl ?_
  refine RL.val (O.load sc3 rfl (Cs.adds [1] ((hM.bx (i := 0) rfl)) rfl)) rfl ?_
  obtain ⟨y12, hx13, hF⟩ := obind hF
  refine RL.call Try.func28 bd28 rfl rfl (c_bits_Reader_Take_N _ av1.f_At _ hx13) fun v w14 hv => ?_
  obtain ⟨A16, c17, rfl, hN15⟩ := hv
  have hM := hM.call hN15
  refine RL.val (O.move rfl) rfl ?_
  refine RL.val (O.ext rfl rfl) rfl ?_
  refine RL.val (O.ext rfl rfl) rfl ?_
  refine RL.val (O.assign rfl) rfl ?_
  refine RL.val (O.assign rfl) rfl ?_
  refine RL.nil ?_
  refine KQ.then_n ?_
  refine KC.cut (fun a w55 => ∃ (t54 : Bool), Kn 80 [(2, .bool t54)] a ∧ Mem w [] w55 [] ∧ F_law01_BitsNone_j1 t54 = some r) ?_ ?_
  · refine KC.region ?_
    refine RL.val (O.move rfl) rfl ?_
    refine RL.val (O.fldA fl35_2 (by decide) rfl) rfl ?_
    refine RL.val (O.load sc23 rfl (Cs.adds [2] ((hM.bx (i := 0) rfl)) rfl)) rfl ?_
    refine RL.val (O.fldA fl35_3 (by decide) rfl) rfl ?_
    refine RL.val (O.load sc3 rfl (Cs.adds [3] ((hM.bx (i := 0) rfl)) rfl)) rfl ?_
    obtain ⟨y19, hx20, hF⟩ := obind hF
    refine RL.call Try.func17 bd17 rfl rfl (c_bits_Writer_Put_N _ av1.f_V av1.f_Size _ hx20) fun v w21 hv => ?_
    obtain ⟨rfl, hN22⟩ := hv
    have hM := hM.call0 hN22
    refine RL.val (O.eql rfl rfl) rfl ?_
    refine RL.val (O.move rfl) rfl ?_
    refine RL.bcase (t := 30) rfl (fun hc => ?_) (fun hc => ?_)
    · rw [if_pos hc] at hF
      refine RL.gval rfl rfl (O.move rfl) rfl ?_
      refine RL.gval rfl rfl (O.fldA fl35_4 (by decide) rfl) rfl ?_
      refine RL.gval rfl rfl (O.load sc22 rfl (Cs.adds [4] ((hM.bx (i := 0) rfl)) rfl)) rfl ?_
      obtain ⟨y23, hx24, hF⟩ := obind hF
      refine RL.gcall rfl rfl Try.func20 bd20 rfl rfl (c_bits_Writer_Raw_N _ _ _ av1.f_B (hM.inp hr4 Off.nil) _ hx24) fun v w25 hv => ?_
      obtain ⟨rfl, hN26⟩ := hv
      have hM := hM.call0 hN26
      refine RL.gval rfl rfl (O.eql rfl rfl) rfl ?_
      refine RL.val (O.pickt rfl rfl) rfl ?_
      refine RL.val (O.move rfl) rfl ?_
      refine RL.bcase (t := 37) rfl (fun hc => ?_) (fun hc => ?_)
      · rw [if_pos hc] at hF
        refine RL.gval rfl rfl (O.move rfl) rfl ?_
        refine RL.gval rfl rfl (O.fldA fl35_1 (by decide) rfl) rfl ?_
        refine RL.gval rfl rfl (O.load sc3 rfl (Cs.adds [1] ((hM.bx (i := 0) rfl)) rfl)) rfl ?_
        refine RL.gval rfl rfl (O.fldA fl35_2 (by decide) rfl) rfl ?_
        refine RL.gval rfl rfl (O.load sc23 rfl (Cs.adds [2] ((hM.bx (i := 0) rfl)) rfl)) rfl ?_
        refine RL.gval rfl rfl (O.fldA fl35_3 (by decide) rfl) rfl ?_
        refine RL.gval rfl rfl (O.load sc3 rfl (Cs.adds [3] ((hM.bx (i := 0) rfl)) rfl)) rfl ?_
        obtain ⟨y27, hx28, hF⟩ := obind hF
        refine RL.gcall rfl rfl Try.func21 bd21 rfl rfl (c_bits_Writer_Set_N _ av1.f_At av1.f_V av1.f_Size _ hx28) fun v w29 hv => ?_
        obtain ⟨rfl, hN30⟩ := hv
        have hM := hM.call0 hN30
        refine RL.gval rfl rfl (O.eql rfl rfl) rfl ?_
        refine RL.val (O.pickt rfl rfl) rfl ?_
        refine RL.val (O.move rfl) rfl ?_
        refine RL.bcase (t := 48) rfl (fun hc => ?_) (fun hc => ?_)
        · rw [if_pos hc] at hF
          refine RL.gval rfl rfl (O.move rfl) rfl ?_
          obtain ⟨y31, hx32, hF⟩ := obind hF
          refine RL.gcall rfl rfl Try.func22 bd22 rfl rfl (c_bits_Writer_Bytes_N _ _ hx32) fun v w33 hv => ?_
          obtain ⟨A35, c36, rfl, hN34⟩ := hv
          have hM := hM.call hN34
          refine RL.gval rfl rfl (O.len sl22 rfl) rfl ?_
          refine RL.gval rfl rfl (O.eql rfl rfl) rfl ?_
          refine RL.val (O.pickt rfl rfl) rfl ?_
          refine RL.val (O.move rfl) rfl ?_
          refine RL.bcase (t := 54) rfl (fun hc => ?_) (fun hc => ?_)
          · rw [if_pos hc] at hF
            refine RL.gval rfl rfl (O.move rfl) rfl ?_
            obtain ⟨y38, hx39, hF⟩ := obind hF
            refine RL.gcall rfl rfl Try.func24 bd24 rfl rfl (c_bits_Writer_Len_N _ _ hx39) fun v w40 hv => ?_
            obtain ⟨rfl, hN41⟩ := hv
            have hM := hM.call0 hN41
            refine RL.gval rfl rfl (O.eql rfl rfl) rfl ?_
            refine RL.val (O.pickt rfl rfl) rfl ?_
            refine RL.val (O.move rfl) rfl ?_
            refine RL.bcase (t := 59) rfl (fun hc => ?_) (fun hc => ?_)
            · rw [if_pos hc] at hF
              refine RL.gval rfl rfl (O.move rfl) rfl ?_
              refine RL.gval rfl rfl (O.eql rfl rfl) rfl ?_
              refine RL.val (O.pickt rfl rfl) rfl ?_
              refine RL.val (O.move rfl) rfl ?_
              refine RL.bcase (t := 63) rfl (fun hc => ?_) (fun hc => ?_)
              · rw [if_pos hc] at hF
                refine RL.gval rfl rfl (O.move rfl) rfl ?_
                refine RL.gval rfl rfl (O.eql rfl rfl) rfl ?_
                refine RL.val (O.pickt rfl rfl) rfl ?_
                refine RL.val (O.move rfl) rfl ?_
                refine RL.bcase (t := 67) rfl (fun hc => ?_) (fun hc => ?_)
                · rw [if_pos hc] at hF
                  refine RL.gval rfl rfl (O.move rfl) rfl ?_
                  obtain ⟨y42, hx43, hF⟩ := obind hF
                  refine RL.gcall rfl rfl Try.func27 bd27 rfl rfl (c_bits_Reader_Left_N _ _ hx43) fun v w44 hv => ?_
                  obtain ⟨rfl, hN45⟩ := hv
                  have hM := hM.call0 hN45
                  refine RL.gval rfl rfl (O.eql rfl rfl) rfl ?_
                  refine RL.val (O.pickt rfl rfl) rfl ?_
                  refine RL.val (O.move rfl) rfl ?_
                  refine RL.bcase (t := 72) rfl (fun hc => ?_) (fun hc => ?_)
                  · rw [if_pos hc] at hF
                    refine RL.gval rfl rfl (O.move rfl) rfl ?_
                    obtain ⟨y46, hx47, hF⟩ := obind hF
                    refine RL.gcall rfl rfl Try.func29 bd29 rfl rfl (c_bits_Reader_At_N _ _ hx47) fun v w48 hv => ?_
                    obtain ⟨rfl, hN49⟩ := hv
                    have hM := hM.call0 hN49
                    refine RL.gval rfl rfl (O.eql rfl rfl) rfl ?_
                    refine RL.val (O.pickt rfl rfl) rfl ?_
                    refine RL.val (O.move rfl) rfl ?_
                    refine RL.bcase (t := 77) rfl (fun hc => ?_) (fun hc => ?_)
                    · rw [if_pos hc] at hF
                      obtain ⟨y50, hx51, hF⟩ := obind hF
                      refine RL.gcall rfl rfl Try.func9 bd9 rfl rfl (c_law01_works _ _ hx51) fun v w52 hv => ?_
                      obtain ⟨rfl, hN53⟩ := hv
                      have hM := hM.call0 hN53
                      refine RL.val (O.pickt rfl rfl) rfl ?_
                      refine RL.val (O.assign rfl) rfl ?_
                      refine RL.nil ?_
                      refine KQ.then_k ?_
                      have hM := hM.pick [] rfl (by decide)
                      exact fun a ha => ⟨y50, ha.less (less_cons rfl less_nil), hM, hF⟩
                    · rw [if_neg (ne_true hc)] at hF
                      refine RL.gskip rfl rfl rfl rfl ?_
                      refine RL.val (O.pickf rfl rfl) rfl ?_
                      refine RL.val (O.assign rfl) rfl ?_
                      refine RL.nil ?_
                      refine KQ.then_k ?_
                      have hM := hM.pick [] rfl (by decide)
                      exact fun a ha => ⟨false, ha.less (less_cons rfl less_nil), hM, hF⟩
                  · rw [if_neg (ne_true hc)] at hF
                    refine RL.gskip rfl rfl rfl rfl ?_
                    refine RL.gskip rfl rfl rfl rfl ?_
                    refine RL.gskip rfl rfl rfl rfl ?_
                    refine RL.val (O.pickf rfl rfl) rfl ?_
                    refine RL.val (O.move rfl) rfl ?_
                    refine RL.gskip rfl rfl rfl rfl ?_
                    refine RL.val (O.pickf rfl rfl) rfl ?_
                    refine RL.val (O.assign rfl) rfl ?_
                    refine RL.nil ?_
                    refine KQ.then_k ?_
                    have hM := hM.pick [] rfl (by decide)
                    exact fun a ha => ⟨false, ha.less (less_cons rfl less_nil), hM, hF⟩
                · rw [if_neg (ne_true hc)] at hF
                  refine RL.gskip rfl rfl rfl rfl ?_
                  refine RL.gskip rfl rfl rfl rfl ?_
                  refine RL.gskip rfl rfl rfl rfl ?_
                  refine RL.val (O.pickf rfl rfl) rfl ?_
                  refine RL.val (O.move rfl) rfl ?_
                  refine RL.gskip rfl rfl rfl rfl ?_
                  refine RL.gskip rfl rfl rfl rfl ?_
                  refine RL.gskip rfl rfl rfl rfl ?_
                  refine RL.val (O.pickf rfl rfl) rfl ?_
                  refine RL.val (O.move rfl) rfl ?_
                  refine RL.gskip rfl rfl rfl rfl ?_
                  refine RL.val (O.pickf rfl rfl) rfl ?_
                  refine RL.val (O.assign rfl) rfl ?_
                  refine RL.nil ?_
                  refine KQ.then_k ?_
                  have hM := hM.pick [] rfl (by decide)
                  exact fun a ha => ⟨false, ha.less (less_cons rfl less_nil), hM, hF⟩
              · rw [if_neg (ne_true hc)] at hF
                refine RL.gskip rfl rfl rfl rfl ?_
                refine RL.gskip rfl rfl rfl rfl ?_
                refine RL.val (O.pickf rfl rfl) rfl ?_
                refine RL.val (O.move rfl) rfl ?_
                refine RL.gskip rfl rfl rfl rfl ?_
                refine RL.gskip rfl rfl rfl rfl ?_
                refine RL.gskip rfl rfl rfl rfl ?_
                refine RL.val (O.pickf rfl rfl) rfl ?_
                refine RL.val (O.move rfl) rfl ?_
                refine RL.gskip rfl rfl rfl rfl ?_
                refine RL.gskip rfl rfl rfl rfl ?_
                refine RL.gskip rfl rfl rfl rfl ?_
                refine RL.val (O.pickf rfl rfl) rfl ?_
                refine RL.val (O.move rfl) rfl ?_
                refine RL.gskip rfl rfl rfl rfl ?_
                refine RL.val (O.pickf rfl rfl) rfl ?_
                refine RL.val (O.assign rfl) rfl ?_
                refine RL.nil ?_
                refine KQ.then_k ?_
                have hM := hM.pick [] rfl (by decide)
                exact fun a ha => ⟨false, ha.less (less_cons rfl less_nil), hM, hF⟩
            · rw [if_neg (ne_true hc)] at hF
              refine RL.gskip rfl rfl rfl rfl ?_
              refine RL.gskip rfl rfl rfl rfl ?_
              refine RL.val (O.pickf rfl rfl) rfl ?_
              refine RL.val (O.move rfl) rfl ?_
              refine RL.gskip rfl rfl rfl rfl ?_
              refine RL.gskip rfl rfl rfl rfl ?_
              refine RL.val (O.pickf rfl rfl) rfl ?_
              refine RL.val (O.move rfl) rfl ?_
              refine RL.gskip rfl rfl rfl rfl ?_
              refine RL.gskip rfl rfl rfl rfl ?_
              refine RL.gskip rfl rfl rfl rfl ?_
              refine RL.val (O.pickf rfl rfl) rfl ?_
              refine RL.val (O.move rfl) rfl ?_
              refine RL.gskip rfl rfl rfl rfl ?_
              refine RL.gskip rfl rfl rfl rfl ?_
              refine RL.gskip rfl rfl rfl rfl ?_
              refine RL.val (O.pickf rfl rfl) rfl ?_
              refine RL.val (O.move rfl) rfl ?_
              refine RL.gskip rfl rfl rfl rfl ?_
              refine RL.val (O.pickf rfl rfl) rfl ?_
              refine RL.val (O.assign rfl) rfl ?_
              refine RL.nil ?_
              refine KQ.then_k ?_
              have hM := hM.pick [] rfl (by decide)
              exact fun a ha => ⟨false, ha.less (less_cons rfl less_nil), hM, hF⟩
          · rw [if_neg (ne_true hc)] at hF
            refine RL.gskip rfl rfl rfl rfl ?_
            refine RL.gskip rfl rfl rfl rfl ?_
            refine RL.gskip rfl rfl rfl rfl ?_
            refine RL.val (O.pickf rfl rfl) rfl ?_
            refine RL.val (O.move rfl) rfl ?_
            refine RL.gskip rfl rfl rfl rfl ?_
            refine RL.gskip rfl rfl rfl rfl ?_
            refine RL.val (O.pickf rfl rfl) rfl ?_
            refine RL.val (O.move rfl) rfl ?_
            refine RL.gskip rfl rfl rfl rfl ?_
            refine RL.gskip rfl rfl rfl rfl ?_
            refine RL.val (O.pickf rfl rfl) rfl ?_
            refine RL.val (O.move rfl) rfl ?_
            refine RL.gskip rfl rfl rfl rfl ?_
            refine RL.gskip rfl rfl rfl rfl ?_
            refine RL.gskip rfl rfl rfl rfl ?_
            refine RL.val (O.pickf rfl rfl) rfl ?_
            refine RL.val (O.move rfl) rfl ?_
            refine RL.gskip rfl rfl rfl rfl ?_
            refine RL.gskip rfl rfl rfl rfl ?_
            refine RL.gskip rfl rfl rfl rfl ?_
            refine RL.val (O.pickf rfl rfl) rfl ?_
            refine RL.val (O.move rfl) rfl ?_
            refine RL.gskip rfl rfl rfl rfl ?_
            refine RL.val (O.pickf rfl rfl) rfl ?_
            refine RL.val (O.assign rfl) rfl ?_
            refine RL.nil ?_
            refine KQ.then_k ?_
            have hM := hM.pick [] rfl (by decide)
            exact fun a ha => ⟨false, ha.less (less_cons rfl less_nil), hM, hF⟩
        · rw [if_neg (ne_true hc)] at hF
          refine RL.gskip rfl rfl rfl rfl ?_
          refine RL.gskip rfl rfl rfl rfl ?_
          refine RL.gskip rfl rfl rfl rfl ?_
          refine RL.gskip rfl rfl rfl rfl ?_
          refine RL.val (O.pickf rfl rfl) rfl ?_
          refine RL.val (O.move rfl) rfl ?_
          refine RL.gskip rfl rfl rfl rfl ?_
          refine RL.gskip rfl rfl rfl rfl ?_
          refine RL.gskip rfl rfl rfl rfl ?_
          refine RL.val (O.pickf rfl rfl) rfl ?_
          refine RL.val (O.move rfl) rfl ?_
          refine RL.gskip rfl rfl rfl rfl ?_
          refine RL.gskip rfl rfl rfl rfl ?_
          refine RL.val (O.pickf rfl rfl) rfl ?_
          refine RL.val (O.move rfl) rfl ?_
          refine RL.gskip rfl rfl rfl rfl ?_
          refine RL.gskip rfl rfl rfl rfl ?_
          refine RL.val (O.pickf rfl rfl) rfl ?_
          refine RL.val (O.move rfl) rfl ?_
          refine RL.gskip rfl rfl rfl rfl ?_
          refine RL.gskip rfl rfl rfl rfl ?_
          refine RL.gskip rfl rfl rfl rfl ?_
          refine RL.val (O.pickf rfl rfl) rfl ?_
          refine RL.val (O.move rfl) rfl ?_
          refine RL.gskip rfl rfl rfl rfl ?_
          refine RL.gskip rfl rfl rfl rfl ?_
          refine RL.gskip rfl rfl rfl rfl ?_
          refine RL.val (O.pickf rfl rfl) rfl ?_
          refine RL.val (O.move rfl) rfl ?_
          refine RL.gskip rfl rfl rfl rfl ?_
          refine RL.val (O.pickf rfl rfl) rfl ?_
          refine RL.val (O.assign rfl) rfl ?_
          refine RL.nil ?_
          refine KQ.then_k ?_
          have hM := hM.pick [] rfl (by decide)
          exact fun a ha => ⟨false, ha.less (less_cons rfl less_nil), hM, hF⟩
      · rw [if_neg (ne_true hc)] at hF
        refine RL.gskip rfl rfl rfl rfl ?_
        refine RL.gskip rfl rfl rfl rfl ?_
        refine RL.gskip rfl rfl rfl rfl ?_
        refine RL.gskip rfl rfl rfl rfl ?_
        refine RL.gskip rfl rfl rfl rfl ?_
        refine RL.gskip rfl rfl rfl rfl ?_
        refine RL.gskip rfl rfl rfl rfl ?_
        refine RL.gskip rfl rfl rfl rfl ?_
        refine RL.gskip rfl rfl rfl rfl ?_
        refine RL.val (O.pickf rfl rfl) rfl ?_
        refine RL.val (O.move rfl) rfl ?_
        refine RL.gskip rfl rfl rfl rfl ?_
        refine RL.gskip rfl rfl rfl rfl ?_
        refine RL.gskip rfl rfl rfl rfl ?_
        refine RL.gskip rfl rfl rfl rfl ?_
        refine RL.val (O.pickf rfl rfl) rfl ?_
        refine RL.val (O.move rfl) rfl ?_
        refine RL.gskip rfl rfl rfl rfl ?_
        refine RL.gskip rfl rfl rfl rfl ?_
        refine RL.gskip rfl rfl rfl rfl ?_
        refine RL.val (O.pickf rfl rfl) rfl ?_
        refine RL.val (O.move rfl) rfl ?_
        refine RL.gskip rfl rfl rfl rfl ?_
        refine RL.gskip rfl rfl rfl rfl ?_
        refine RL.val (O.pickf rfl rfl) rfl ?_
        refine RL.val (O.move rfl) rfl ?_
        refine RL.gskip rfl rfl rfl rfl ?_
        refine RL.gskip rfl rfl rfl rfl ?_
        refine RL.val (O.pickf rfl rfl) rfl ?_
        refine RL.val (O.move rfl) rfl ?_
        refine RL.gskip rfl rfl rfl rfl ?_
        refine RL.gskip rfl rfl rfl rfl ?_
        refine RL.gskip rfl rfl rfl rfl ?_
        refine RL.val (O.pickf rfl rfl) rfl ?_
        refine RL.val (O.move rfl) rfl ?_
        refine RL.gskip rfl rfl rfl rfl ?_
        refine RL.gskip rfl rfl rfl rfl ?_
        refine RL.gskip rfl rfl rfl rfl ?_
        refine RL.val (O.pickf rfl rfl) rfl ?_
        refine RL.val (O.move rfl) rfl ?_
        refine RL.gskip rfl rfl rfl rfl ?_
        refine RL.val (O.pickf rfl rfl) rfl ?_
        refine RL.val (O.assign rfl) rfl ?_
        refine RL.nil ?_
        refine KQ.then_k ?_
        have hM := hM.pick [] rfl (by decide)
        exact fun a ha => ⟨false, ha.less (less_cons rfl less_nil), hM, hF⟩
    · rw [if_neg (ne_true hc)] at hF
      refine RL.gskip rfl rfl rfl rfl ?_
      refine RL.gskip rfl rfl rfl rfl ?_
      refine RL.gskip rfl rfl rfl rfl ?_
      refine RL.gskip rfl rfl rfl rfl ?_
      refine RL.gskip rfl rfl rfl rfl ?_
      refine RL.val (O.pickf rfl rfl) rfl ?_
      refine RL.val (O.move rfl) rfl ?_
      refine RL.gskip rfl rfl rfl rfl ?_
      refine RL.gskip rfl rfl rfl rfl ?_
      refine RL.gskip rfl rfl rfl rfl ?_
      refine RL.gskip rfl rfl rfl rfl ?_
      refine RL.gskip rfl rfl rfl rfl ?_
      refine RL.gskip rfl rfl rfl rfl ?_
      refine RL.gskip rfl rfl rfl rfl ?_
      refine RL.gskip rfl rfl rfl rfl ?_
      refine RL.gskip rfl rfl rfl rfl ?_
      refine RL.val (O.pickf rfl rfl) rfl ?_
      refine RL.val (O.move rfl) rfl ?_
      refine RL.gskip rfl rfl rfl rfl ?_
      refine RL.gskip rfl rfl rfl rfl ?_
      refine RL.gskip rfl rfl rfl rfl ?_
      refine RL.gskip rfl rfl rfl rfl ?_
      refine RL.val (O.pickf rfl rfl) rfl ?_
      refine RL.val (O.move rfl) rfl ?_
      refine RL.gskip rfl rfl rfl rfl ?_
      refine RL.gskip rfl rfl rfl rfl ?_
      refine RL.gskip rfl rfl rfl rfl ?_
      refine RL.val (O.pickf rfl rfl) rfl ?_
      refine RL.val (O.move rfl) rfl ?_
      refine RL.gskip rfl rfl rfl rfl ?_
      refine RL.gskip rfl rfl rfl rfl ?_
      refine RL.val (O.pickf rfl rfl) rfl ?_
      refine RL.val (O.move rfl) rfl ?_
      refine RL.gskip rfl rfl rfl rfl ?_
      refine RL.gskip rfl rfl rfl rfl ?_
      refine RL.val (O.pickf rfl rfl) rfl ?_
      refine RL.val (O.move rfl) rfl ?_
      refine RL.gskip rfl rfl rfl rfl ?_
      refine RL.gskip rfl rfl rfl rfl ?_
      refine RL.gskip rfl rfl rfl rfl ?_
      refine RL.val (O.pickf rfl rfl) rfl ?_
      refine RL.val (O.move rfl) rfl ?_
      refine RL.gskip rfl rfl rfl rfl ?_
      refine RL.gskip rfl rfl rfl rfl ?_
      refine RL.gskip rfl rfl rfl rfl ?_
      refine RL.val (O.pickf rfl rfl) rfl ?_
      refine RL.val (O.move rfl) rfl ?_
      refine RL.gskip rfl rfl rfl rfl ?_
      refine RL.val (O.pickf rfl rfl) rfl ?_
      refine RL.val (O.assign rfl) rfl ?_
      refine RL.nil ?_
      refine KQ.then_k ?_
      have hM := hM.pick [] rfl (by decide)
      exact fun a ha => ⟨false, ha.less (less_cons rfl less_nil), hM, hF⟩
  · rintro a w55 ⟨t54, ha, hM, hF⟩
    refine KC.app ha ?_
    clear ha
    unfold F_law01_BitsNone_j1 at hF
    refine KC.ret ?_
    obtain rfl := Option.some.inj hF
    refine KQ.rets Try.results7 (RVs.cons (RV.tm rfl) RVs.nil) ?_
    exact ⟨_, rfl, rfl, hM⟩
end Go.Proofs.Ytpbkjellpboefaa
