/- Printed by a program of this claim: each call returns what the plain function of its name gives. -/
import Derived.Test.YtjfdfjmnajjjaaaW1
import Derived.Test.YtjfdfjmnajjjaaaW3
import Derived.Test.YtjfdfjmnajjjaaaW5
import Derived.Test.YtjfdfjmnajjjaaaW6
set_option linter.unusedVariables false
namespace Go.Proofs.Ytjfdfjmnajjjaaa
open Go Go.Ox Go.RowKit
set_option maxRecDepth 100000 in
set_option maxHeartbeats 40000000 in
theorem c_law05_works (w : World) (r : Bool) (hF : F_law05_works = some r) :
    CallsR Try.prog 8 [] w (fun v w' => v = .bool r ∧ Mem w [] w' []) := by
  refine calls_KC Try.func8 rfl Try.ntmps8 rfl ?_
  have hM := Mem.init w
  unfold F_law05_works at hF
  refine KC.seq ?_
  refine KC.region ?_
  refine RL.val (O.assign rfl) rfl ?_
  refine RL.nil ?_
  refine KQ.then_n ?_
  refine KC.seq ?_
  refine KC.region ?_
  refine RL.val (O.bld (cs := [.int .u8 0, .int .u16 20, .int .u16 0, .bool false, .bool false, .int .u16 0, .int .u8 1, .int .u8 6, .int .u8 (List.getD (List.replicate 4 0) 0 0), .int .u8 (List.getD (List.replicate 4 0) 1 0), .int .u8 (List.getD (List.replicate 4 0) 2 0), .int .u8 (List.getD (List.replicate 4 0) 3 0), .int .u8 (List.getD (List.replicate 4 0) 0 0), .int .u8 (List.getD (List.replicate 4 0) 1 0), .int .u8 (List.getD (List.replicate 4 0) 2 0), .int .u8 (List.getD (List.replicate 4 0) 3 0), .slice none 0 0]) bt39 rfl (by kernel_rfl)) rfl ?_
  refine obindE hF fun y1 hx2 hF => ?_
  refine RL.call Try.func13 bd13 rfl rfl (c_ip_Put _ (T_ip_Header.mk 0 20 0 false false 0 1 6 (List.replicate 4 0) (List.replicate 4 0) ([])) none 0 Rd.nilr _ hx2) fun v w3 hv => ?_
  obtain ⟨A5, c6, rfl, hN4⟩ := hv
  replace hM := hM.call hN4
  refine RL.val (O.move rfl) rfl ?_
  refine RL.val (O.ext rfl rfl) rfl ?_
  refine RL.val (O.ext rfl rfl) rfl ?_
  refine RL.val (O.assign rfl) rfl ?_
  refine RL.val (O.assign rfl) rfl ?_
  refine RL.nil ?_
  refine KQ.then_n ?_
  refine KC.seq ?_
  refine KC.region ?_
  refine cut_someE hF fun hq10 hF => ?_
  refine RL.eff (E.mks (enc := (eI .u8)) (zr := 0) hM sl22 ze5 rfl rfl (fun _ => rfl) rfl rfl rfl (of_decide_eq_true hq10)) rfl fun v w9 hv => ?_
  clear hM
  obtain ⟨A8, rfl, hM, hf⟩ := hv
  refine obindE hF fun y12 hx13 hF => ?_
  refine RL.call Try.func19 bd19 rfl rfl (c_ip_Parse _ _ _ (List.replicate (Int.toNat 19) (0 : Int)) (hM.rd (i := 1) rfl) _ hx13) fun v w14 hv => ?_
  obtain ⟨A16, c17, rfl, hN15⟩ := hv
  replace hM := hM.call hN15
  refine RL.val (O.move rfl) rfl ?_
  refine RL.val (O.ext rfl rfl) rfl ?_
  refine RL.val (O.ext rfl rfl) rfl ?_
  refine RL.val (O.ext rfl rfl) rfl ?_
  refine RL.eff (E.alloc hM ze39) rfl fun v w20 hv => ?_
  clear hM
  obtain ⟨g19, rfl, hM, hf⟩ := hv
  refine RL.effs (E.stB (j := 3) (off := 0) (vs := [.int .u8 y12.1.f_TOS, .int .u16 y12.1.f_Total, .int .u16 y12.1.f_ID, .bool y12.1.f_DF, .bool y12.1.f_MF, .int .u16 y12.1.f_Frag, .int .u8 y12.1.f_TTL, .int .u8 y12.1.f_Proto, .int .u8 (List.getD y12.1.f_Src 0 0), .int .u8 (List.getD y12.1.f_Src 1 0), .int .u8 (List.getD y12.1.f_Src 2 0), .int .u8 (List.getD y12.1.f_Src 3 0), .int .u8 (List.getD y12.1.f_Dst 0 0), .int .u8 (List.getD y12.1.f_Dst 1 0), .int .u8 (List.getD y12.1.f_Dst 2 0), .int .u8 (List.getD y12.1.f_Dst 3 0), .slice A16 (y12.1.f_Options).length c17]) (cs' := [.int .u8 y12.1.f_TOS, .int .u16 y12.1.f_Total, .int .u16 y12.1.f_ID, .bool y12.1.f_DF, .bool y12.1.f_MF, .int .u16 y12.1.f_Frag, .int .u8 y12.1.f_TTL, .int .u8 y12.1.f_Proto, .int .u8 (List.getD y12.1.f_Src 0 0), .int .u8 (List.getD y12.1.f_Src 1 0), .int .u8 (List.getD y12.1.f_Src 2 0), .int .u8 (List.getD y12.1.f_Src 3 0), .int .u8 (List.getD y12.1.f_Dst 0 0), .int .u8 (List.getD y12.1.f_Dst 1 0), .int .u8 (List.getD y12.1.f_Dst 2 0), .int .u8 (List.getD y12.1.f_Dst 3 0), .slice A16 (y12.1.f_Options).length c17]) hM rfl sz39 rfl (adds_eq [] rfl) rfl rfl (One.all rfl) rfl rfl) fun w22 hM1 => ?_
  clear hM
  have hM := hM1
  clear hM1
  refine RL.val (O.assign rfl) rfl ?_
  refine RL.val (O.assign rfl) rfl ?_
  refine RL.nil ?_
  refine KQ.then_n ?_
  replace hM := hM.pick [0] rfl (by decide)
  refine KC.seq ?_
  refine KC.region ?_
  refine cut_someE hF fun hq25 hF => ?_
  refine RL.eff (E.mks (enc := (eI .u8)) (zr := 0) hM sl22 ze5 rfl rfl (fun _ => rfl) rfl rfl rfl (of_decide_eq_true hq25)) rfl fun v w24 hv => ?_
  clear hM
  obtain ⟨A23, rfl, hM, hf⟩ := hv
  refine obindE hF fun y27 hx28 hF => ?_
  refine RL.call Try.func19 bd19 rfl rfl (c_ip_Parse _ _ _ (List.replicate (Int.toNat 20) (0 : Int)) (hM.rd (i := 1) rfl) _ hx28) fun v w29 hv => ?_
  obtain ⟨A31, c32, rfl, hN30⟩ := hv
  replace hM := hM.call hN30
  refine RL.val (O.move rfl) rfl ?_
  refine RL.val (O.ext rfl rfl) rfl ?_
  refine RL.val (O.ext rfl rfl) rfl ?_
  refine RL.val (O.ext rfl rfl) rfl ?_
  refine RL.eff (E.alloc hM ze39) rfl fun v w35 hv => ?_
  clear hM
  obtain ⟨g34, rfl, hM, hf⟩ := hv
  refine RL.effs (E.stB (j := 3) (off := 0) (vs := [.int .u8 y27.1.f_TOS, .int .u16 y27.1.f_Total, .int .u16 y27.1.f_ID, .bool y27.1.f_DF, .bool y27.1.f_MF, .int .u16 y27.1.f_Frag, .int .u8 y27.1.f_TTL, .int .u8 y27.1.f_Proto, .int .u8 (List.getD y27.1.f_Src 0 0), .int .u8 (List.getD y27.1.f_Src 1 0), .int .u8 (List.getD y27.1.f_Src 2 0), .int .u8 (List.getD y27.1.f_Src 3 0), .int .u8 (List.getD y27.1.f_Dst 0 0), .int .u8 (List.getD y27.1.f_Dst 1 0), .int .u8 (List.getD y27.1.f_Dst 2 0), .int .u8 (List.getD y27.1.f_Dst 3 0), .slice A31 (y27.1.f_Options).length c32]) (cs' := [.int .u8 y27.1.f_TOS, .int .u16 y27.1.f_Total, .int .u16 y27.1.f_ID, .bool y27.1.f_DF, .bool y27.1.f_MF, .int .u16 y27.1.f_Frag, .int .u8 y27.1.f_TTL, .int .u8 y27.1.f_Proto, .int .u8 (List.getD y27.1.f_Src 0 0), .int .u8 (List.getD y27.1.f_Src 1 0), .int .u8 (List.getD y27.1.f_Src 2 0), .int .u8 (List.getD y27.1.f_Src 3 0), .int .u8 (List.getD y27.1.f_Dst 0 0), .int .u8 (List.getD y27.1.f_Dst 1 0), .int .u8 (List.getD y27.1.f_Dst 2 0), .int .u8 (List.getD y27.1.f_Dst 3 0), .slice A31 (y27.1.f_Options).length c32]) hM rfl sz39 rfl (adds_eq [] rfl) rfl rfl (One.all rfl) rfl rfl) fun w37 hM1 => ?_
  clear hM
  have hM := hM1
  clear hM1
  refine RL.val (O.assign rfl) rfl ?_
  refine RL.val (O.assign rfl) rfl ?_
  refine RL.nil ?_
  refine KQ.then_n ?_
  replace hM := hM.pick [0] rfl (by decide)
  refine KC.seq ?_
  refine KC.region ?_
  refine RL.eff (E.bsl (enc := (eI .u8)) (xs := ([1, 7, 3, 9, 0, 5] : List Int)) hM sl22 ze5 rfl rfl rfl (fun _ => rfl) rfl (by kernel_rfl) rfl) rfl fun v w38 hv => ?_
  clear hM
  obtain ⟨A39, rfl, hM, hf⟩ := hv
  refine obindE hF fun y41 hx42 hF => ?_
  refine RL.call Try.func10 bd10 rfl rfl (c_ip_Options _ _ _ ([1, 7, 3, 9, 0, 5] : List Int) (hM.rd (i := 1) rfl) _ hx42) fun v w43 hv => ?_
  obtain ⟨A45, c46, css48, Z49, rfl, hN44⟩ := hv
  replace hM := hM.call hN44
  refine RL.val (O.move rfl) rfl ?_
  refine RL.val (O.ext rfl rfl) rfl ?_
  refine RL.val (O.ext rfl rfl) rfl ?_
  refine RL.val (O.assign rfl) rfl ?_
  refine RL.val (O.assign rfl) rfl ?_
  refine RL.nil ?_
  refine KQ.then_n ?_
  replace hM := hM.pick [0, 2, 3] rfl (by decide)
  refine KC.seq ?_
  refine KC.cut (fun a w60 => ∃ (A53 : Option Addr) (c54 : Nat) (css55 : List (List Value)) (Z56 : List Nat) (lv58 : List T_ip_Option) (t59 : Bool), Kn 76 [(1, .slice A5 (y1.1).length c6), (5, .int .i64 y12.2.2), (8, .int .i64 y27.2.2), (9, .slice A53 (lv58).length c54), (48, .bool t59)] a ∧ Mem w [] w60 [.row A5 c6 5 1 (y1.1).length ((y1.1).flatMap (eI .u8)), .row A53 c54 32 2 (lv58).length (css55).flatten, .res Z56 (Els RO_ip_Option 2 lv58 css55 Z56)] ∧ F_law05_works_j1 y1 y12 y27 lv58 t59 = some r) ?_ ?_
  · refine KC.region ?_
    refine RL.val (O.move rfl) rfl ?_
    refine RL.val (O.neq rfl rfl) rfl ?_
    refine RL.val (O.move rfl) rfl ?_
    refine RL.bcase (t := 35) rfl (fun hc => ?_) (fun hc => ?_)
    · rw [if_pos hc] at hF
      refine RL.brun1 13 48 true (by kernel_rfl) ?_
      refine RL.nil ?_
      refine KQ.then_k ?_
      exact fun a ha => ⟨A45, c46, css48, Z49, y41.1, true, ha.less (less_cons rfl (less_cons rfl (less_cons rfl (less_cons rfl (less_cons rfl less_nil))))), hM, hF⟩
    · rw [if_neg (ne_true hc)] at hF
      refine RL.gval rfl rfl (O.move rfl) rfl ?_
      refine RL.gval rfl rfl (O.len sl22 rfl) rfl ?_
      refine RL.gval rfl rfl (O.neq rfl rfl) rfl ?_
      refine RL.val (O.pickf rfl rfl) rfl ?_
      refine RL.val (O.move rfl) rfl ?_
      refine RL.bcase (t := 40) rfl (fun hc => ?_) (fun hc => ?_)
      · rw [if_pos hc] at hF
        refine RL.brun1 8 48 true (by kernel_rfl) ?_
        refine RL.nil ?_
        refine KQ.then_k ?_
        exact fun a ha => ⟨A45, c46, css48, Z49, y41.1, true, ha.less (less_cons rfl (less_cons rfl (less_cons rfl (less_cons rfl (less_cons rfl less_nil))))), hM, hF⟩
      · rw [if_neg (ne_true hc)] at hF
        refine RL.gval rfl rfl (O.move rfl) rfl ?_
        refine RL.gval rfl rfl (O.neq rfl rfl) rfl ?_
        refine RL.val (O.pickf rfl rfl) rfl ?_
        refine RL.val (O.move rfl) rfl ?_
        refine RL.bcase (t := 44) rfl (fun hc => ?_) (fun hc => ?_)
        · rw [if_pos hc] at hF
          refine RL.brun1 4 48 true (by kernel_rfl) ?_
          refine RL.nil ?_
          refine KQ.then_k ?_
          exact fun a ha => ⟨A45, c46, css48, Z49, y41.1, true, ha.less (less_cons rfl (less_cons rfl (less_cons rfl (less_cons rfl (less_cons rfl less_nil))))), hM, hF⟩
        · rw [if_neg (ne_true hc)] at hF
          refine RL.gval rfl rfl (O.move rfl) rfl ?_
          refine RL.gval rfl rfl (O.len sl28 rfl) rfl ?_
          refine RL.gval rfl rfl (O.neq rfl rfl) rfl ?_
          refine RL.val (O.pickf rfl rfl) rfl ?_
          refine RL.nil ?_
          refine KQ.then_k ?_
          exact fun a ha => ⟨A45, c46, css48, Z49, y41.1, ((y41.1.length : Int) != 1), ha.less (less_cons rfl (less_cons rfl (less_cons rfl (less_cons rfl (less_cons rfl less_nil))))), hM, hF⟩
  · rintro a w60 ⟨A53, c54, css55, Z56, lv58, t59, ha, hM, hF⟩
    refine KC.app ha ?_
    clear ha
    unfold F_law05_works_j1 at hF
    refine KC.cond rfl (fun hc => ?_) (fun hc => ?_)
    · rw [if_pos hc] at hF
      refine KC.seq ?_
      refine KC.region ?_
      refine RL.val (O.assign rfl) rfl ?_
      refine RL.nil ?_
      refine KQ.then_n ?_
      refine KC.ret ?_
      refine KQ.then_r ?_
      have hE := Option.some.inj hF
      clear hF
      subst hE
      replace hM := hM.pick [] rfl (by decide)
      refine KQ.rets Try.results8 (RVs.cons (RV.tm rfl) RVs.nil) ?_
      exact ⟨_, rfl, rfl, hM⟩
    · rw [if_neg (ne_true hc)] at hF
      refine KC.skip ?_
      refine KQ.then_n ?_
      refine KC.cut (fun a w107 => ∃ (t106 : Bool), Kn 76 [(0, .bool t106)] a ∧ Mem w [] w107 [] ∧ F_law05_works_j2 t106 = some r) ?_ ?_
      · refine KC.region ?_
        refine RL.val (O.move rfl) rfl ?_
        refine obindE hF fun cut61 hy62 hF => ?_
        obtain ⟨A63, c64, eA66, ec67⟩ := cutN A5 c6 (Int.toNat 0) 1
        have hr65 := Rd.cutT (enc := (eI .u8)) (s := 1) (fun _ => rfl) (hM.rd (i := 0) rfl) hy62 (m := c6) (by have := (hM.rd (i := 0) rfl).cap; have := (gcut_some hy62).2.2.1; omega) (Nat.le_refl _)
        rw [← eA66, ← ec67] at hr65
        refine RL.val (v := .slice A63 (cut61).length c64) (by rw [eA66, ec67]; exact O.cuthT sl22 (hM.rd (i := 0) rfl) hy62 rfl rfl) rfl ?_
        refine RL.eff (E.bsl (enc := (eI .u8)) (xs := ([69, 0, 0, 20, 0, 0, 0, 0, 1, 6] : List Int)) hM sl22 ze5 rfl rfl rfl (fun _ => rfl) rfl (by kernel_rfl) rfl) rfl fun v w68 hv => ?_
        clear hM
        obtain ⟨A69, rfl, hM, hf⟩ := hv
        have hr65 := hr65.fut hf
        refine obindE hF fun y71 hx72 hF => ?_
        refine RL.call Try.func14 bd14 rfl rfl (c_ref01_Same _ _ _ cut61 hr65 _ _ ([69, 0, 0, 20, 0, 0, 0, 0, 1, 6] : List Int) (hM.rd (i := 3) rfl) _ hx72) fun v w73 hv => ?_
        obtain ⟨rfl, hN74⟩ := hv
        have hr65 := hr65.fut hN74.fut
        replace hM := hM.call0 hN74
        refine RL.val (O.move rfl) rfl ?_
        refine RL.bcase (t := 53) rfl (fun hc => ?_) (fun hc => ?_)
        · rw [if_pos hc] at hF
          refine RL.gval rfl rfl (O.move rfl) rfl ?_
          refine RL.gval rfl rfl (O.eql rfl rfl) rfl ?_
          refine RL.val (O.pickt rfl rfl) rfl ?_
          refine RL.val (O.move rfl) rfl ?_
          refine RL.bcase (t := 57) rfl (fun hc => ?_) (fun hc => ?_)
          · rw [if_pos hc] at hF
            refine RL.gval rfl rfl (O.move rfl) rfl ?_
            refine RL.gval rfl rfl (O.eql rfl rfl) rfl ?_
            refine RL.val (O.pickt rfl rfl) rfl ?_
            refine RL.val (O.move rfl) rfl ?_
            refine RL.bcase (t := 61) rfl (fun hc => ?_) (fun hc => ?_)
            · rw [if_pos hc] at hF
              refine RL.gval rfl rfl (O.move rfl) rfl ?_
              refine obindE hF fun xv77 hx79 hF => ?_
              obtain ⟨cs82, hA78, hC81, hR80⟩ := hM.atD (i := 1) (j := 2) uo_ip_Option rfl rfl hx79
              obtain ⟨A83, c84, rfl, hr85, ho86⟩ := hR80
              refine RL.gval rfl rfl (O.idxA sl28 (hA78) rfl rfl) rfl ?_
              refine RL.gval rfl rfl (O.fldA fl32_0 (by decide) rfl) rfl ?_
              refine RL.gval rfl rfl (O.load sc5 rfl (Cs.adds [0] (hA78).cells rfl)) rfl ?_
              refine RL.gval rfl rfl (O.eql rfl rfl) rfl ?_
              refine RL.val (O.pickt rfl rfl) rfl ?_
              refine RL.val (O.move rfl) rfl ?_
              refine RL.bcase (t := 68) rfl (fun hc => ?_) (fun hc => ?_)
              · rw [if_pos hc] at hF
                refine RL.gval rfl rfl (O.move rfl) rfl ?_
                refine obindE hF fun xv89 hx91 hF => ?_
                obtain ⟨cs94, hA90, hC93, hR92⟩ := hM.atD (i := 1) (j := 2) uo_ip_Option rfl rfl hx91
                obtain ⟨A95, c96, rfl, hr97, ho98⟩ := hR92
                refine RL.gval rfl rfl (O.idxA sl28 (hA90) rfl rfl) rfl ?_
                refine RL.gval rfl rfl (O.fldA fl32_1 (by decide) rfl) rfl ?_
                refine RL.gval rfl rfl (O.load sc22 rfl (Cs.adds [1] (hA90).cells rfl)) rfl ?_
                refine RL.geff rfl rfl (E.bsl (enc := (eI .u8)) (xs := ([9] : List Int)) hM sl22 ze5 rfl rfl rfl (fun _ => rfl) rfl (by kernel_rfl) rfl) rfl fun v w99 hv => ?_
                clear hM
                obtain ⟨A100, rfl, hM, hf⟩ := hv
                have hr65 := hr65.fut hf
                have hr85 := hr85.fut hf
                have hr97 := hr97.fut hf
                refine obindE hF fun y102 hx103 hF => ?_
                refine RL.gcall rfl rfl Try.func14 bd14 rfl rfl (c_ref01_Same _ _ _ xv89.f_Data hr97 _ _ ([9] : List Int) (hM.rd (i := 4) rfl) _ hx103) fun v w104 hv => ?_
                obtain ⟨rfl, hN105⟩ := hv
                have hr65 := hr65.fut hN105.fut
                have hr85 := hr85.fut hN105.fut
                have hr97 := hr97.fut hN105.fut
                replace hM := hM.call0 hN105
                refine RL.val (O.pickt rfl rfl) rfl ?_
                refine RL.val (O.assign rfl) rfl ?_
                refine RL.nil ?_
                refine KQ.then_k ?_
                replace hM := hM.pick [] rfl (by decide)
                exact fun a ha => ⟨y102, ha.less (less_cons rfl less_nil), hM, hF⟩
              · rw [if_neg (ne_true hc)] at hF
                refine RL.brun1 7 75 false (by kernel_rfl) ?_
                refine RL.val (O.assign rfl) rfl ?_
                refine RL.nil ?_
                refine KQ.then_k ?_
                replace hM := hM.pick [] rfl (by decide)
                exact fun a ha => ⟨false, ha.less (less_cons rfl less_nil), hM, hF⟩
            · rw [if_neg (ne_true hc)] at hF
              refine RL.brun1 14 75 false (by kernel_rfl) ?_
              refine RL.val (O.assign rfl) rfl ?_
              refine RL.nil ?_
              refine KQ.then_k ?_
              replace hM := hM.pick [] rfl (by decide)
              exact fun a ha => ⟨false, ha.less (less_cons rfl less_nil), hM, hF⟩
          · rw [if_neg (ne_true hc)] at hF
            refine RL.brun1 18 75 false (by kernel_rfl) ?_
            refine RL.val (O.assign rfl) rfl ?_
            refine RL.nil ?_
            refine KQ.then_k ?_
            replace hM := hM.pick [] rfl (by decide)
            exact fun a ha => ⟨false, ha.less (less_cons rfl less_nil), hM, hF⟩
        · rw [if_neg (ne_true hc)] at hF
          refine RL.brun1 22 75 false (by kernel_rfl) ?_
          refine RL.val (O.assign rfl) rfl ?_
          refine RL.nil ?_
          refine KQ.then_k ?_
          replace hM := hM.pick [] rfl (by decide)
          exact fun a ha => ⟨false, ha.less (less_cons rfl less_nil), hM, hF⟩
      · rintro a w107 ⟨t106, ha, hM, hF⟩
        refine KC.app ha ?_
        clear ha
        unfold F_law05_works_j2 at hF
        refine KC.ret ?_
        have hE := Option.some.inj hF
        clear hF
        subst hE
        refine KQ.rets Try.results8 (RVs.cons (RV.tm rfl) RVs.nil) ?_
        exact ⟨_, rfl, rfl, hM⟩
set_option maxRecDepth 100000 in
set_option maxHeartbeats 40000000 in
theorem c_ref05_Options_R : ∀ (kf : Nat) (w : World) (b1 : ByteArray) (r : (List T_ref05_Option) × Int) (hF : F_ref05_Options_R kf b1 = some r),
    CallsR Try.prog 9 [.string b1] w (fun v w' => ∃ (A0 : Option Addr) (c0 : Nat), v = .tuple #[.slice A0 (r.1).length c0, .int .i64 r.2] ∧ Mem w [] w' [.row A0 c0 34 2 r.1.length (r.1.flatMap e_ref05_Option)]) := by
  intro kf
  induction kf with
  | zero => intro w b1 r hF; exact (none_some hF).elim
  | succ kf ih =>
    intro w b1 r hF
    refine calls_KC Try.func9 rfl Try.ntmps9 rfl ?_
    have hM := Mem.init w
    have hF : F_ref05_Options_B (F_ref05_Options_R kf) b1 = some r := hF
    unfold F_ref05_Options_B at hF
    refine KC.seq ?_
    refine KC.region ?_
    refine RL.val (O.assign rfl) rfl ?_
    refine RL.val (O.assign rfl) rfl ?_
    refine RL.nil ?_
    refine KQ.then_n ?_
    refine KC.seq ?_
    refine KC.cut (fun a w5 => ∃ (t4 : Bool), Kn 60 [(0, .string b1), (13, .bool t4)] a ∧ Mem w [] w5 [] ∧ F_ref05_Options_j1 b1 (F_ref05_Options_R kf) t4 = some r) ?_ ?_
    · refine KC.region ?_
      refine RL.val (O.move rfl) rfl ?_
      refine RL.val (O.streq rfl rfl) rfl ?_
      refine RL.val (O.move rfl) rfl ?_
      refine RL.bcase (t := 9) rfl (fun hc => ?_) (fun hc => ?_)
      · rw [if_pos hc] at hF
        refine RL.brun1 4 13 true (by kernel_rfl) ?_
        refine RL.nil ?_
        refine KQ.then_k ?_
        exact fun a ha => ⟨true, ha.less (less_cons rfl (less_cons rfl less_nil)), hM, hF⟩
      · rw [if_neg (ne_true hc)] at hF
        refine RL.gval rfl rfl (O.move rfl) rfl ?_
        refine obindE hF fun xv2 hx3 hF => ?_
        refine RL.gval rfl rfl (O.idxS Try.underlying9 hx3 rfl rfl) rfl ?_
        refine RL.gval rfl rfl (O.eql rfl rfl) rfl ?_
        refine RL.val (O.pickf rfl rfl) rfl ?_
        refine RL.nil ?_
        refine KQ.then_k ?_
        exact fun a ha => ⟨(xv2 == 0), ha.less (less_cons rfl (less_cons rfl less_nil)), hM, hF⟩
    · rintro a w5 ⟨t4, ha, hM, hF⟩
      refine KC.app ha ?_
      clear ha
      unfold F_ref05_Options_j1 at hF
      refine KC.cond rfl (fun hc => ?_) (fun hc => ?_)
      · rw [if_pos hc] at hF
        refine KC.seq ?_
        refine KC.region ?_
        refine RL.val (O.assign rfl) rfl ?_
        refine RL.val (O.assign rfl) rfl ?_
        refine RL.nil ?_
        refine KQ.then_n ?_
        refine KC.ret ?_
        refine KQ.then_r ?_
        have hE := Option.some.inj hF
        clear hF
        subst hE
        replace hM := hM.nilrow 34 2
        refine KQ.rets Try.results9 (RVs.cons (RV.tm rfl) (RVs.cons (RV.tm rfl) RVs.nil)) ?_
        exact ⟨_, rfl, none, 0, rfl, hM⟩
      · rw [if_neg (ne_true hc)] at hF
        refine KC.skip ?_
        refine KQ.then_n ?_
        refine KC.seq ?_
        refine KC.seq ?_
        refine KC.region ?_
        refine RL.val (O.move rfl) rfl ?_
        refine obindE hF fun xv6 hx7 hF => ?_
        refine RL.val (O.idxS Try.underlying9 hx7 rfl rfl) rfl ?_
        refine RL.val (O.eql rfl rfl) rfl ?_
        refine RL.nil ?_
        refine KQ.then_n ?_
        refine KC.cond rfl (fun hc => ?_) (fun hc => ?_)
        · rw [if_pos hc] at hF
          refine KC.seq ?_
          refine KC.region ?_
          refine RL.val (O.move rfl) rfl ?_
          refine obindE hF fun cut8 hy9 hF => ?_
          refine RL.val (O.cutSl Try.underlying9 hy9 rfl rfl) rfl ?_
          refine obindE hF fun y10 hx11 hF => ?_
          refine RL.call Try.func9 bd9 rfl rfl (ih _ cut8 _ hx11) fun v w12 hv => ?_
          obtain ⟨A14, c15, rfl, hN13⟩ := hv
          replace hM := hM.call hN13
          refine RL.val (O.ext rfl rfl) rfl ?_
          refine RL.val (O.ext rfl rfl) rfl ?_
          refine RL.val (O.assign rfl) rfl ?_
          refine RL.val (O.assign rfl) rfl ?_
          refine RL.nil ?_
          refine KQ.then_n ?_
          refine KC.ret ?_
          refine KQ.then_r ?_
          have hE := Option.some.inj hF
          clear hF
          subst hE
          refine KQ.rets Try.results9 (RVs.cons (RV.tm rfl) (RVs.cons (RV.tm rfl) RVs.nil)) ?_
          exact ⟨_, rfl, A14, c15, rfl, hM⟩
        · rw [if_neg (ne_true hc)] at hF
          refine KC.skip ?_
          refine KQ.then_n ?_
          refine KC.seq ?_
          refine KC.cut (fun a w22 => ∃ (t21 : Bool), Kn 60 [(0, .string b1), (37, .bool t21)] a ∧ Mem w [] w22 [] ∧ F_ref05_Options_j2 b1 (F_ref05_Options_R kf) t21 = some r) ?_ ?_
          · refine KC.region ?_
            refine RL.val (O.move rfl) rfl ?_
            refine RL.val (O.lens Try.underlying9 rfl) rfl ?_
            refine RL.val (O.lss rfl rfl) rfl ?_
            refine RL.val (O.move rfl) rfl ?_
            refine RL.bcase (t := 25) rfl (fun hc => ?_) (fun hc => ?_)
            · rw [if_pos hc] at hF
              refine RL.brun1 12 37 true (by kernel_rfl) ?_
              refine RL.nil ?_
              refine KQ.then_k ?_
              exact fun a ha => ⟨true, ha.less (less_cons rfl (less_cons rfl less_nil)), hM, hF⟩
            · rw [if_neg (ne_true hc)] at hF
              refine RL.gval rfl rfl (O.move rfl) rfl ?_
              refine obindE hF fun xv17 hx18 hF => ?_
              refine RL.gval rfl rfl (O.idxS Try.underlying9 hx18 rfl rfl) rfl ?_
              refine RL.gval rfl rfl (O.lss rfl rfl) rfl ?_
              refine RL.val (O.pickf rfl rfl) rfl ?_
              refine RL.val (O.move rfl) rfl ?_
              refine RL.bcase (t := 30) rfl (fun hc => ?_) (fun hc => ?_)
              · rw [if_pos hc] at hF
                refine RL.brun1 7 37 true (by kernel_rfl) ?_
                refine RL.nil ?_
                refine KQ.then_k ?_
                exact fun a ha => ⟨true, ha.less (less_cons rfl (less_cons rfl less_nil)), hM, hF⟩
              · rw [if_neg (ne_true hc)] at hF
                refine RL.gval rfl rfl (O.move rfl) rfl ?_
                refine obindE hF fun xv19 hx20 hF => ?_
                refine RL.gval rfl rfl (O.idxS Try.underlying9 hx20 rfl rfl) rfl ?_
                refine RL.gval rfl rfl (O.conv un5 Try.underlying3 rfl) rfl ?_
                refine RL.gval rfl rfl (O.move rfl) rfl ?_
                refine RL.gval rfl rfl (O.lens Try.underlying9 rfl) rfl ?_
                refine RL.gval rfl rfl (O.gtr rfl rfl) rfl ?_
                refine RL.val (O.pickf rfl rfl) rfl ?_
                refine RL.nil ?_
                refine KQ.then_k ?_
                exact fun a ha => ⟨(decide ((b1.size : Int) < (IntKind.i64.wrap xv19))), ha.less (less_cons rfl (less_cons rfl less_nil)), hM, hF⟩
          · rintro a w22 ⟨t21, ha, hM, hF⟩
            refine KC.app ha ?_
            clear ha
            unfold F_ref05_Options_j2 at hF
            refine KC.cond rfl (fun hc => ?_) (fun hc => ?_)
            · rw [if_pos hc] at hF
              refine KC.seq ?_
              refine KC.region ?_
              refine RL.val (O.assign rfl) rfl ?_
              refine RL.val (O.assign rfl) rfl ?_
              refine RL.nil ?_
              refine KQ.then_n ?_
              refine KC.ret ?_
              refine KQ.then_r ?_
              have hE := Option.some.inj hF
              clear hF
              subst hE
              replace hM := hM.nilrow 34 2
              refine KQ.rets Try.results9 (RVs.cons (RV.tm rfl) (RVs.cons (RV.tm rfl) RVs.nil)) ?_
              exact ⟨_, rfl, none, 0, rfl, hM⟩
            · rw [if_neg (ne_true hc)] at hF
              refine KC.skip ?_
              refine KQ.then_n ?_
              refine KC.seq ?_
              refine KC.region ?_
              refine RL.val (O.move rfl) rfl ?_
              refine RL.val (O.move rfl) rfl ?_
              refine obindE hF fun xv23 hx24 hF => ?_
              refine RL.val (O.idxS Try.underlying9 hx24 rfl rfl) rfl ?_
              refine obindE hF fun cut25 hy26 hF => ?_
              refine RL.val (O.cutSl Try.underlying9 hy26 rfl rfl) rfl ?_
              refine obindE hF fun y27 hx28 hF => ?_
              refine RL.call Try.func9 bd9 rfl rfl (ih _ cut25 _ hx28) fun v w29 hv => ?_
              obtain ⟨A31, c32, rfl, hN30⟩ := hv
              replace hM := hM.call hN30
              refine RL.val (O.move rfl) rfl ?_
              refine RL.val (O.ext rfl rfl) rfl ?_
              refine RL.val (O.ext rfl rfl) rfl ?_
              refine RL.val (O.assign rfl) rfl ?_
              refine RL.val (O.assign rfl) rfl ?_
              refine RL.nil ?_
              refine KQ.then_n ?_
              refine KC.seq ?_
              refine KC.seq ?_
              refine KC.region ?_
              refine RL.val (O.move rfl) rfl ?_
              refine RL.val (O.neq rfl rfl) rfl ?_
              refine RL.nil ?_
              refine KQ.then_n ?_
              refine KC.cond rfl (fun hc => ?_) (fun hc => ?_)
              · rw [if_pos hc] at hF
                refine KC.seq ?_
                refine KC.region ?_
                refine RL.val (O.move rfl) rfl ?_
                refine RL.val (O.assign rfl) rfl ?_
                refine RL.val (O.assign rfl) rfl ?_
                refine RL.nil ?_
                refine KQ.then_n ?_
                refine KC.ret ?_
                refine KQ.then_r ?_
                have hE := Option.some.inj hF
                clear hF
                subst hE
                replace hM := hM.nilrow 34 2
                replace hM := hM.pick [1] rfl (by decide)
                refine KQ.rets Try.results9 (RVs.cons (RV.tm rfl) (RVs.cons (RV.tm rfl) RVs.nil)) ?_
                exact ⟨_, rfl, none, 0, rfl, hM⟩
              · rw [if_neg (ne_true hc)] at hF
                refine KC.skip ?_
                refine KQ.then_n ?_
                refine KC.seq ?_
                replace hM := hM.drewN 1
                refine KC.draw [] [] [7] [0, 2, 3, 5, 8] (.ofList [0, 1, 2, 3, 4, 5, 6, 7, 8]) moP (by kernel_rfl) ?_
                refine RD.p rfl rfl rfl rfl (fun w' => O.move rfl) ?_
                refine obindE hF fun xv34 hx35 hF => ?_
                refine RD.q rfl rfl rfl rfl (fun w' hf => O.idxS Try.underlying9 hx35 rfl rfl) ?_
                refine RD.p rfl rfl rfl rfl (fun w' => O.move rfl) ?_
                refine RD.p rfl rfl rfl rfl (fun w' => O.move rfl) ?_
                refine obindE hF fun xv36 hx37 hF => ?_
                refine RD.q rfl rfl rfl rfl (fun w' hf => O.idxS Try.underlying9 hx37 rfl rfl) ?_
                refine obindE hF fun cut38 hy39 hF => ?_
                refine RD.p rfl rfl rfl rfl (fun w' => O.cutS Try.underlying9 hy39 rfl rfl rfl) ?_
                refine RD.q rfl rfl rfl rfl (fun w' hf => O.bld (cs := [.int .u8 xv34, .string cut38]) bt34 rfl (by kernel_rfl)) ?_
                refine RD.meff rfl rfl (E.bsl (enc := e_ref05_Option) (xs := ([(T_ref05_Option.mk xv34 cut38)] : List T_ref05_Option)) hM sl24 ze34 rfl rfl rfl (fun _ => rfl) rfl (by kernel_rfl) rfl) rfl fun v w40 hv => ?_
                clear hM
                obtain ⟨A41, rfl, hM, hf⟩ := hv
                refine ⟨fun _ => hf, ?_⟩
                refine RD.p rfl rfl rfl rfl (fun w' => O.assign rfl) ?_
                refine RD.nil ?_
                refine KQ.then_n ?_
                refine KC.seq ?_
                refine KC.region ?_
                refine RL.val (O.move rfl) rfl ?_
                refine RL.val (O.move rfl) rfl ?_
                refine cut_someE hF fun hq46 hF => ?_
                refine RL.eff (E.app (enc := e_ref05_Option) (xs := ([(T_ref05_Option.mk xv34 cut38)] : List T_ref05_Option)) (ys := y27.1) (j := 1) hM rfl sl24 ze34 rfl rfl rfl rfl rfl (hM.rd (i := 0) rfl) (fun _ => One.all rfl) (of_decide_eq_true hq46)) rfl fun v w45 hv => ?_
                clear hM
                obtain ⟨A43, c44, rfl, hM, hf⟩ := hv
                refine RL.val (O.assign rfl) rfl ?_
                refine RL.val (O.assign rfl) rfl ?_
                refine RL.nil ?_
                refine KQ.then_n ?_
                refine KC.ret ?_
                have hE := Option.some.inj hF
                clear hF
                subst hE
                replace hM := hM.pick [1] rfl (by decide)
                refine KQ.rets Try.results9 (RVs.cons (RV.tm rfl) (RVs.cons (RV.tm rfl) RVs.nil)) ?_
                exact ⟨_, rfl, A43, c44, rfl, hM⟩
theorem c_ref05_Options (w : World) (b1 : ByteArray) (r : (List T_ref05_Option) × Int) (hF : F_ref05_Options b1 = some r) :
    CallsR Try.prog 9 [.string b1] w (fun v w' => ∃ (A0 : Option Addr) (c0 : Nat), v = .tuple #[.slice A0 (r.1).length c0, .int .i64 r.2] ∧ Mem w [] w' [.row A0 c0 34 2 r.1.length (r.1.flatMap e_ref05_Option)]) := c_ref05_Options_R fuel0 w b1 r hF
end Go.Proofs.Ytjfdfjmnajjjaaa
