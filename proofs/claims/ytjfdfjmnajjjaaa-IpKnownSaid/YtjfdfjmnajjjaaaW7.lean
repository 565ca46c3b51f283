/- Printed by a program of this claim: each call returns what the plain function of its name gives. -/
import Derived.Test.YtjfdfjmnajjjaaaW1
import Derived.Test.YtjfdfjmnajjjaaaW4
import Derived.Test.YtjfdfjmnajjjaaaW5
import Derived.Test.YtjfdfjmnajjjaaaW6
set_option linter.unusedVariables false
namespace Go.Proofs.Ytjfdfjmnajjjaaa
open Go Go.Ox Go.RowKit
set_option maxRecDepth 100000 in
set_option maxHeartbeats 40000000 in
theorem c_law05_works (w : World) (r : Bool) (hF : F_law05_works = some r) :
    CallsR Try.prog 8 [] w (fun v w' => v = .bool r ∧ Mem w [] w' []) := by
  refine calls_KC Try.func8 rfl Try.ntmps8 rfl ?_
  have hM := Mem.init w
  unfold F_law05_works at hF
  refine KC.seqH fun Q1 hQ1 => ?_
  refine KC.region ?_
  refine RL.val (O.assign rfl) rfl ?_
  refine RL.nil ?_
  refine KQ.thn hQ1 ?_
  clear hQ1 Q1
  refine KC.seqH fun Q2 hQ2 => ?_
  refine KC.region ?_
  refine RL.val (O.bld (cs := [.int .u8 0, .int .u16 20, .int .u16 0, .bool false, .bool false, .int .u16 0, .int .u8 1, .int .u8 6, .int .u8 (List.getD (List.replicate 4 0) 0 0), .int .u8 (List.getD (List.replicate 4 0) 1 0), .int .u8 (List.getD (List.replicate 4 0) 2 0), .int .u8 (List.getD (List.replicate 4 0) 3 0), .int .u8 (List.getD (List.replicate 4 0) 0 0), .int .u8 (List.getD (List.replicate 4 0) 1 0), .int .u8 (List.getD (List.replicate 4 0) 2 0), .int .u8 (List.getD (List.replicate 4 0) 3 0), .slice none 0 0]) bt39 rfl (by kernel_rfl)) rfl ?_
  refine obindE hF fun y3 hx4 hF => ?_
  refine RL.call Try.func13 bd13 rfl rfl (c_ip_Put _ (T_ip_Header.mk 0 20 0 false false 0 1 6 (List.replicate 4 0) (List.replicate 4 0) ([])) none 0 Rd.nilr _ hx4) fun v w5 hv => ?_
  obtain ⟨A7, c8, rfl, hN6⟩ := hv
  replace hM := hM.call hN6
  refine RL.val (O.move rfl) rfl ?_
  refine RL.val (O.ext rfl rfl) rfl ?_
  refine RL.val (O.ext rfl rfl) rfl ?_
  refine RL.val (O.assign rfl) rfl ?_
  refine RL.val (O.assign rfl) rfl ?_
  refine RL.nil ?_
  refine KQ.thn hQ2 ?_
  clear hQ2 Q2
  refine KC.seqH fun Q10 hQ10 => ?_
  refine KC.region ?_
  refine cut_someE hF fun hq13 hF => ?_
  refine RL.eff (E.mks (enc := (eI .u8)) (zr := 0) hM sl22 ze5 rfl rfl (fun _ => rfl) rfl rfl rfl (of_decide_eq_true hq13)) rfl fun v w12 hv => ?_
  clear hM
  obtain ⟨A11, rfl, hM, hf⟩ := hv
  refine obindE hF fun y15 hx16 hF => ?_
  refine RL.call Try.func19 bd19 rfl rfl (c_ip_Parse _ _ _ (List.replicate (Int.toNat 19) (0 : Int)) (hM.rd (i := 1) rfl) _ hx16) fun v w17 hv => ?_
  obtain ⟨A19, c20, rfl, hN18⟩ := hv
  replace hM := hM.call hN18
  refine RL.val (O.move rfl) rfl ?_
  refine RL.val (O.ext rfl rfl) rfl ?_
  refine RL.val (O.ext rfl rfl) rfl ?_
  refine RL.val (O.ext rfl rfl) rfl ?_
  refine RL.eff (E.alloc hM ze39) rfl fun v w23 hv => ?_
  clear hM
  obtain ⟨g22, rfl, hM, hf⟩ := hv
  refine RL.effs (E.stB (j := 3) (off := 0) (vs := [.int .u8 y15.1.f_TOS, .int .u16 y15.1.f_Total, .int .u16 y15.1.f_ID, .bool y15.1.f_DF, .bool y15.1.f_MF, .int .u16 y15.1.f_Frag, .int .u8 y15.1.f_TTL, .int .u8 y15.1.f_Proto, .int .u8 (List.getD y15.1.f_Src 0 0), .int .u8 (List.getD y15.1.f_Src 1 0), .int .u8 (List.getD y15.1.f_Src 2 0), .int .u8 (List.getD y15.1.f_Src 3 0), .int .u8 (List.getD y15.1.f_Dst 0 0), .int .u8 (List.getD y15.1.f_Dst 1 0), .int .u8 (List.getD y15.1.f_Dst 2 0), .int .u8 (List.getD y15.1.f_Dst 3 0), .slice A19 (y15.1.f_Options).length c20]) (cs' := [.int .u8 y15.1.f_TOS, .int .u16 y15.1.f_Total, .int .u16 y15.1.f_ID, .bool y15.1.f_DF, .bool y15.1.f_MF, .int .u16 y15.1.f_Frag, .int .u8 y15.1.f_TTL, .int .u8 y15.1.f_Proto, .int .u8 (List.getD y15.1.f_Src 0 0), .int .u8 (List.getD y15.1.f_Src 1 0), .int .u8 (List.getD y15.1.f_Src 2 0), .int .u8 (List.getD y15.1.f_Src 3 0), .int .u8 (List.getD y15.1.f_Dst 0 0), .int .u8 (List.getD y15.1.f_Dst 1 0), .int .u8 (List.getD y15.1.f_Dst 2 0), .int .u8 (List.getD y15.1.f_Dst 3 0), .slice A19 (y15.1.f_Options).length c20]) hM rfl sz39 rfl (adds_eq [] rfl) rfl rfl (One.all rfl) rfl rfl) fun w25 hM1 => ?_
  clear hM
  have hM := hM1
  clear hM1
  refine RL.val (O.assign rfl) rfl ?_
  refine RL.val (O.assign rfl) rfl ?_
  refine RL.nil ?_
  refine KQ.thn hQ10 ?_
  clear hQ10 Q10
  replace hM := hM.pick [0] rfl (by decide)
  refine KC.seqH fun Q26 hQ26 => ?_
  refine KC.region ?_
  refine cut_someE hF fun hq29 hF => ?_
  refine RL.eff (E.mks (enc := (eI .u8)) (zr := 0) hM sl22 ze5 rfl rfl (fun _ => rfl) rfl rfl rfl (of_decide_eq_true hq29)) rfl fun v w28 hv => ?_
  clear hM
  obtain ⟨A27, rfl, hM, hf⟩ := hv
  refine obindE hF fun y31 hx32 hF => ?_
  refine RL.call Try.func19 bd19 rfl rfl (c_ip_Parse _ _ _ (List.replicate (Int.toNat 20) (0 : Int)) (hM.rd (i := 1) rfl) _ hx32) fun v w33 hv => ?_
  obtain ⟨A35, c36, rfl, hN34⟩ := hv
  replace hM := hM.call hN34
  refine RL.val (O.move rfl) rfl ?_
  refine RL.val (O.ext rfl rfl) rfl ?_
  refine RL.val (O.ext rfl rfl) rfl ?_
  refine RL.val (O.ext rfl rfl) rfl ?_
  refine RL.eff (E.alloc hM ze39) rfl fun v w39 hv => ?_
  clear hM
  obtain ⟨g38, rfl, hM, hf⟩ := hv
  refine RL.effs (E.stB (j := 3) (off := 0) (vs := [.int .u8 y31.1.f_TOS, .int .u16 y31.1.f_Total, .int .u16 y31.1.f_ID, .bool y31.1.f_DF, .bool y31.1.f_MF, .int .u16 y31.1.f_Frag, .int .u8 y31.1.f_TTL, .int .u8 y31.1.f_Proto, .int .u8 (List.getD y31.1.f_Src 0 0), .int .u8 (List.getD y31.1.f_Src 1 0), .int .u8 (List.getD y31.1.f_Src 2 0), .int .u8 (List.getD y31.1.f_Src 3 0), .int .u8 (List.getD y31.1.f_Dst 0 0), .int .u8 (List.getD y31.1.f_Dst 1 0), .int .u8 (List.getD y31.1.f_Dst 2 0), .int .u8 (List.getD y31.1.f_Dst 3 0), .slice A35 (y31.1.f_Options).length c36]) (cs' := [.int .u8 y31.1.f_TOS, .int .u16 y31.1.f_Total, .int .u16 y31.1.f_ID, .bool y31.1.f_DF, .bool y31.1.f_MF, .int .u16 y31.1.f_Frag, .int .u8 y31.1.f_TTL, .int .u8 y31.1.f_Proto, .int .u8 (List.getD y31.1.f_Src 0 0), .int .u8 (List.getD y31.1.f_Src 1 0), .int .u8 (List.getD y31.1.f_Src 2 0), .int .u8 (List.getD y31.1.f_Src 3 0), .int .u8 (List.getD y31.1.f_Dst 0 0), .int .u8 (List.getD y31.1.f_Dst 1 0), .int .u8 (List.getD y31.1.f_Dst 2 0), .int .u8 (List.getD y31.1.f_Dst 3 0), .slice A35 (y31.1.f_Options).length c36]) hM rfl sz39 rfl (adds_eq [] rfl) rfl rfl (One.all rfl) rfl rfl) fun w41 hM1 => ?_
  clear hM
  have hM := hM1
  clear hM1
  refine RL.val (O.assign rfl) rfl ?_
  refine RL.val (O.assign rfl) rfl ?_
  refine RL.nil ?_
  refine KQ.thn hQ26 ?_
  clear hQ26 Q26
  replace hM := hM.pick [0] rfl (by decide)
  refine KC.seqH fun Q42 hQ42 => ?_
  refine KC.region ?_
  refine RL.eff (E.bsl (enc := (eI .u8)) (xs := ([1, 7, 3, 9, 0, 5] : List Int)) hM sl22 ze5 rfl rfl rfl (fun _ => rfl) rfl (by kernel_rfl) rfl) rfl fun v w43 hv => ?_
  clear hM
  obtain ⟨A44, rfl, hM, hf⟩ := hv
  refine obindE hF fun y46 hx47 hF => ?_
  refine RL.call Try.func10 bd10 rfl rfl (c_ip_Options _ _ _ ([1, 7, 3, 9, 0, 5] : List Int) (hM.rd (i := 1) rfl) _ hx47) fun v w48 hv => ?_
  obtain ⟨A50, c51, css53, Z54, rfl, hN49⟩ := hv
  replace hM := hM.call hN49
  refine RL.val (O.move rfl) rfl ?_
  refine RL.val (O.ext rfl rfl) rfl ?_
  refine RL.val (O.ext rfl rfl) rfl ?_
  refine RL.val (O.assign rfl) rfl ?_
  refine RL.val (O.assign rfl) rfl ?_
  refine RL.nil ?_
  refine KQ.thn hQ42 ?_
  clear hQ42 Q42
  replace hM := hM.pick [0, 2, 3] rfl (by decide)
  refine KC.seqH fun Q56 hQ56 => ?_
  refine KC.cut (fun a w66 => ∃ (A59 : Option Addr) (c60 : Nat) (css61 : List (List Value)) (Z62 : List Nat) (lv64 : List T_ip_Option) (t65 : Bool), Kn 76 [(1, .slice A7 (y3.1).length c8), (5, .int .i64 y15.2.2), (8, .int .i64 y31.2.2), (9, .slice A59 (lv64).length c60), (48, .bool t65)] a ∧ Mem w [] w66 [.row A7 c8 5 1 (y3.1).length ((y3.1).flatMap (eI .u8)), .row A59 c60 32 2 (lv64).length (css61).flatten, .res Z62 (Els RO_ip_Option 2 lv64 css61 Z62)] ∧ F_law05_works_j1 y3 y15 y31 lv64 t65 = some r) ?_ ?_
  · refine KC.region ?_
    refine RL.val (O.move rfl) rfl ?_
    refine RL.val (O.neq rfl rfl) rfl ?_
    refine RL.val (O.move rfl) rfl ?_
    refine RL.bcase (t := 35) rfl (fun hc => ?_) (fun hc => ?_)
    · rw [if_pos hc] at hF
      refine RL.brun1 13 48 true (by kernel_rfl) ?_
      refine RL.nil ?_
      refine KQ.then_k ?_
      exact fun a ha => ⟨A50, c51, css53, Z54, y46.1, true, ha.less (less_cons rfl (less_cons rfl (less_cons rfl (less_cons rfl (less_cons rfl less_nil))))), hM, hF⟩
    · rw [if_neg (ne_true hc)] at hF
      refine RL.gval rfl rfl (O.move rfl) rfl ?_
      refine RL.gval rfl rfl (O.len sl22 rfl) rfl ?_
      refine RL.gval rfl rfl (O.neq rfl rfl) rfl ?_
      refine RL.val (O.pickf rfl rfl) rfl ?_
      refine RL.val (O.move rfl) rfl ?_
      refine RL.bcase (t := 40) rfl (fun hc => ?_) (fun hc => ?_)
      · rw [if_pos hc] at hF
        refine RL.brun1 8 48 true (by kernel_rfl) ?_
        refine RL.nil ?_
        refine KQ.then_k ?_
        exact fun a ha => ⟨A50, c51, css53, Z54, y46.1, true, ha.less (less_cons rfl (less_cons rfl (less_cons rfl (less_cons rfl (less_cons rfl less_nil))))), hM, hF⟩
      · rw [if_neg (ne_true hc)] at hF
        refine RL.gval rfl rfl (O.move rfl) rfl ?_
        refine RL.gval rfl rfl (O.neq rfl rfl) rfl ?_
        refine RL.val (O.pickf rfl rfl) rfl ?_
        refine RL.val (O.move rfl) rfl ?_
        refine RL.bcase (t := 44) rfl (fun hc => ?_) (fun hc => ?_)
        · rw [if_pos hc] at hF
          refine RL.brun1 4 48 true (by kernel_rfl) ?_
          refine RL.nil ?_
          refine KQ.then_k ?_
          exact fun a ha => ⟨A50, c51, css53, Z54, y46.1, true, ha.less (less_cons rfl (less_cons rfl (less_cons rfl (less_cons rfl (less_cons rfl less_nil))))), hM, hF⟩
        · rw [if_neg (ne_true hc)] at hF
          refine RL.gval rfl rfl (O.move rfl) rfl ?_
          refine RL.gval rfl rfl (O.len sl28 rfl) rfl ?_
          refine RL.gval rfl rfl (O.neq rfl rfl) rfl ?_
          refine RL.val (O.pickf rfl rfl) rfl ?_
          refine RL.nil ?_
          refine KQ.then_k ?_
          exact fun a ha => ⟨A50, c51, css53, Z54, y46.1, ((y46.1.length : Int) != 1), ha.less (less_cons rfl (less_cons rfl (less_cons rfl (less_cons rfl (less_cons rfl less_nil))))), hM, hF⟩
  · rintro a w66 ⟨A59, c60, css61, Z62, lv64, t65, ha, hM, hF⟩
    refine KC.app ha ?_
    clear ha
    unfold F_law05_works_j1 at hF
    refine KC.cond rfl (fun hc => ?_) (fun hc => ?_)
    · rw [if_pos hc] at hF
      refine KC.seqH fun Q67 hQ67 => ?_
      refine KC.region ?_
      refine RL.val (O.assign rfl) rfl ?_
      refine RL.nil ?_
      refine KQ.thn hQ67 ?_
      clear hQ67 Q67
      refine KC.ret ?_
      refine KQ.thr hQ56 ?_
      clear hQ56 Q56
      have hE := Option.some.inj hF
      clear hF
      subst hE
      replace hM := hM.pick [] rfl (by decide)
      refine KQ.rets Try.results8 (RVs.cons (RV.tm rfl) RVs.nil) ?_
      exact ⟨_, rfl, rfl, hM⟩
    · rw [if_neg (ne_true hc)] at hF
      refine KC.skip ?_
      refine KQ.thn hQ56 ?_
      clear hQ56 Q56
      refine KC.cut (fun a w114 => ∃ (t113 : Bool), Kn 76 [(0, .bool t113)] a ∧ Mem w [] w114 [] ∧ F_law05_works_j2 t113 = some r) ?_ ?_
      · refine KC.region ?_
        refine RL.val (O.move rfl) rfl ?_
        refine obindE hF fun cut68 hy69 hF => ?_
        refine cutNE A7 c8 (Int.toNat 0) 1 fun A70 c71 eA73 ec74 => ?_
        have hr72 := Rd.cutT (enc := (eI .u8)) (s := 1) (fun _ => rfl) (hM.rd (i := 0) rfl) hy69 (m := c8) (by have := (hM.rd (i := 0) rfl).cap; have := (gcut_some hy69).2.2.1; omega) (Nat.le_refl _)
        rw [← eA73, ← ec74] at hr72
        refine RL.val (v := .slice A70 (cut68).length c71) (by rw [eA73, ec74]; exact O.cuthT sl22 (hM.rd (i := 0) rfl) hy69 rfl rfl) rfl ?_
        refine RL.eff (E.bsl (enc := (eI .u8)) (xs := ([69, 0, 0, 20, 0, 0, 0, 0, 1, 6] : List Int)) hM sl22 ze5 rfl rfl rfl (fun _ => rfl) rfl (by kernel_rfl) rfl) rfl fun v w75 hv => ?_
        clear hM
        obtain ⟨A76, rfl, hM, hf⟩ := hv
        have hr72 := hr72.fut hf
        refine obindE hF fun y78 hx79 hF => ?_
        refine RL.call Try.func14 bd14 rfl rfl (c_ref01_Same _ _ _ cut68 hr72 _ _ ([69, 0, 0, 20, 0, 0, 0, 0, 1, 6] : List Int) (hM.rd (i := 3) rfl) _ hx79) fun v w80 hv => ?_
        obtain ⟨rfl, hN81⟩ := hv
        have hr72 := hr72.fut hN81.fut
        replace hM := hM.call0 hN81
        refine RL.val (O.move rfl) rfl ?_
        refine RL.bcase (t := 53) rfl (fun hc => ?_) (fun hc => ?_)
        · rw [if_pos hc] at hF
          refine RL.gval rfl rfl (O.move rfl) rfl ?_
          refine RL.gval rfl rfl (O.eql rfl rfl) rfl ?_
          refine RL.val (O.pickt rfl rfl) rfl ?_
          refine RL.val (O.move rfl) rfl ?_
          refine RL.bcase (t := 57) rfl (fun hc => ?_) (fun hc => ?_)
          · rw [if_pos hc] at hF
            refine RL.gval rfl rfl (O.move rfl) rfl ?_
            refine RL.gval rfl rfl (O.eql rfl rfl) rfl ?_
            refine RL.val (O.pickt rfl rfl) rfl ?_
            refine RL.val (O.move rfl) rfl ?_
            refine RL.bcase (t := 61) rfl (fun hc => ?_) (fun hc => ?_)
            · rw [if_pos hc] at hF
              refine RL.gval rfl rfl (O.move rfl) rfl ?_
              refine obindE hF fun xv84 hx86 hF => ?_
              obtain ⟨cs89, hA85, hC88, hR87⟩ := hM.atD (i := 1) (j := 2) uo_ip_Option rfl rfl hx86
              obtain ⟨A90, c91, rfl, hr92, ho93⟩ := hR87
              refine RL.gval rfl rfl (O.idxA sl28 (hA85) rfl rfl) rfl ?_
              refine RL.gval rfl rfl (O.fldA fl32_0 (by decide) rfl) rfl ?_
              refine RL.gval rfl rfl (O.load sc5 rfl (Cs.adds [0] (hA85).cells rfl)) rfl ?_
              refine RL.gval rfl rfl (O.eql rfl rfl) rfl ?_
              refine RL.val (O.pickt rfl rfl) rfl ?_
              refine RL.val (O.move rfl) rfl ?_
              refine RL.bcase (t := 68) rfl (fun hc => ?_) (fun hc => ?_)
              · rw [if_pos hc] at hF
                refine RL.gval rfl rfl (O.move rfl) rfl ?_
                refine obindE hF fun xv96 hx98 hF => ?_
                obtain ⟨cs101, hA97, hC100, hR99⟩ := hM.atD (i := 1) (j := 2) uo_ip_Option rfl rfl hx98
                obtain ⟨A102, c103, rfl, hr104, ho105⟩ := hR99
                refine RL.gval rfl rfl (O.idxA sl28 (hA97) rfl rfl) rfl ?_
                refine RL.gval rfl rfl (O.fldA fl32_1 (by decide) rfl) rfl ?_
                refine RL.gval rfl rfl (O.load sc22 rfl (Cs.adds [1] (hA97).cells rfl)) rfl ?_
                refine RL.geff rfl rfl (E.bsl (enc := (eI .u8)) (xs := ([9] : List Int)) hM sl22 ze5 rfl rfl rfl (fun _ => rfl) rfl (by kernel_rfl) rfl) rfl fun v w106 hv => ?_
                clear hM
                obtain ⟨A107, rfl, hM, hf⟩ := hv
                have hr72 := hr72.fut hf
                have hr92 := hr92.fut hf
                have hr104 := hr104.fut hf
                refine obindE hF fun y109 hx110 hF => ?_
                refine RL.gcall rfl rfl Try.func14 bd14 rfl rfl (c_ref01_Same _ _ _ xv96.f_Data hr104 _ _ ([9] : List Int) (hM.rd (i := 4) rfl) _ hx110) fun v w111 hv => ?_
                obtain ⟨rfl, hN112⟩ := hv
                have hr72 := hr72.fut hN112.fut
                have hr92 := hr92.fut hN112.fut
                have hr104 := hr104.fut hN112.fut
                replace hM := hM.call0 hN112
                refine RL.val (O.pickt rfl rfl) rfl ?_
                refine RL.val (O.assign rfl) rfl ?_
                refine RL.nil ?_
                refine KQ.then_k ?_
                replace hM := hM.pick [] rfl (by decide)
                exact fun a ha => ⟨y109, ha.less (less_cons rfl less_nil), hM, hF⟩
              · rw [if_neg (ne_true hc)] at hF
                refine RL.brun1 7 75 false (by kernel_rfl) ?_
                refine RL.val (O.assign rfl) rfl ?_
                refine RL.nil ?_
                refine KQ.then_k ?_
                replace hM := hM.pick [] rfl (by decide)
                exact fun a ha => ⟨false, ha.less (less_cons rfl less_nil), hM, hF⟩
            · rw [if_neg (ne_true hc)] at hF
              refine RL.brun1 14 75 false (by kernel_rfl) ?_
              refine RL.val (O.assign rfl) rfl ?_
              refine RL.nil ?_
              refine KQ.then_k ?_
              replace hM := hM.pick [] rfl (by decide)
              exact fun a ha => ⟨false, ha.less (less_cons rfl less_nil), hM, hF⟩
          · rw [if_neg (ne_true hc)] at hF
            refine RL.brun1 18 75 false (by kernel_rfl) ?_
            refine RL.val (O.assign rfl) rfl ?_
            refine RL.nil ?_
            refine KQ.then_k ?_
            replace hM := hM.pick [] rfl (by decide)
            exact fun a ha => ⟨false, ha.less (less_cons rfl less_nil), hM, hF⟩
        · rw [if_neg (ne_true hc)] at hF
          refine RL.brun1 22 75 false (by kernel_rfl) ?_
          refine RL.val (O.assign rfl) rfl ?_
          refine RL.nil ?_
          refine KQ.then_k ?_
          replace hM := hM.pick [] rfl (by decide)
          exact fun a ha => ⟨false, ha.less (less_cons rfl less_nil), hM, hF⟩
      · rintro a w114 ⟨t113, ha, hM, hF⟩
        refine KC.app ha ?_
        clear ha
        unfold F_law05_works_j2 at hF
        refine KC.ret ?_
        have hE := Option.some.inj hF
        clear hF
        subst hE
        refine KQ.rets Try.results8 (RVs.cons (RV.tm rfl) RVs.nil) ?_
        exact ⟨_, rfl, rfl, hM⟩
set_option maxRecDepth 100000 in
set_option maxHeartbeats 40000000 in
theorem c_ref05_Options_R : ∀ (kf : Nat) (w : World) (b1 : ByteArray) (r : (List T_ref05_Option) × Int) (hF : F_ref05_Options_R kf b1 = some r),
    CallsR Try.prog 9 [.string b1] w (fun v w' => ∃ (A0 : Option Addr) (c0 : Nat), v = .tuple #[.slice A0 (r.1).length c0, .int .i64 r.2] ∧ Mem w [] w' [.row A0 c0 34 2 r.1.length (r.1.flatMap e_ref05_Option)]) := by
  intro kf
  induction kf with
  | zero => intro w b1 r hF; exact (none_some hF).elim
  | succ kf ih =>
    intro w b1 r hF
    refine calls_KC Try.func9 rfl Try.ntmps9 rfl ?_
    have hM := Mem.init w
    have hF : F_ref05_Options_B (F_ref05_Options_R kf) b1 = some r := hF
    unfold F_ref05_Options_B at hF
    refine KC.seqH fun Q2 hQ2 => ?_
    refine KC.region ?_
    refine RL.val (O.assign rfl) rfl ?_
    refine RL.val (O.assign rfl) rfl ?_
    refine RL.nil ?_
    refine KQ.thn hQ2 ?_
    clear hQ2 Q2
    refine KC.seqH fun Q3 hQ3 => ?_
    refine KC.cut (fun a w7 => ∃ (t6 : Bool), Kn 60 [(0, .string b1), (13, .bool t6)] a ∧ Mem w [] w7 [] ∧ F_ref05_Options_j1 b1 (F_ref05_Options_R kf) t6 = some r) ?_ ?_
    · refine KC.region ?_
      refine RL.val (O.move rfl) rfl ?_
      refine RL.val (O.streq rfl rfl) rfl ?_
      refine RL.val (O.move rfl) rfl ?_
      refine RL.bcase (t := 9) rfl (fun hc => ?_) (fun hc => ?_)
      · rw [if_pos hc] at hF
        refine RL.brun1 4 13 true (by kernel_rfl) ?_
        refine RL.nil ?_
        refine KQ.then_k ?_
        exact fun a ha => ⟨true, ha.less (less_cons rfl (less_cons rfl less_nil)), hM, hF⟩
      · rw [if_neg (ne_true hc)] at hF
        refine RL.gval rfl rfl (O.move rfl) rfl ?_
        refine obindE hF fun xv4 hx5 hF => ?_
        refine RL.gval rfl rfl (O.idxS Try.underlying9 hx5 rfl rfl) rfl ?_
        refine RL.gval rfl rfl (O.eql rfl rfl) rfl ?_
        refine RL.val (O.pickf rfl rfl) rfl ?_
        refine RL.nil ?_
        refine KQ.then_k ?_
        exact fun a ha => ⟨(xv4 == 0), ha.less (less_cons rfl (less_cons rfl less_nil)), hM, hF⟩
    · rintro a w7 ⟨t6, ha, hM, hF⟩
      refine KC.app ha ?_
      clear ha
      unfold F_ref05_Options_j1 at hF
      refine KC.cond rfl (fun hc => ?_) (fun hc => ?_)
      · rw [if_pos hc] at hF
        refine KC.seqH fun Q8 hQ8 => ?_
        refine KC.region ?_
        refine RL.val (O.assign rfl) rfl ?_
        refine RL.val (O.assign rfl) rfl ?_
        refine RL.nil ?_
        refine KQ.thn hQ8 ?_
        clear hQ8 Q8
        refine KC.ret ?_
        refine KQ.thr hQ3 ?_
        clear hQ3 Q3
        have hE := Option.some.inj hF
        clear hF
        subst hE
        replace hM := hM.nilrow 34 2
        refine KQ.rets Try.results9 (RVs.cons (RV.tm rfl) (RVs.cons (RV.tm rfl) RVs.nil)) ?_
        exact ⟨_, rfl, none, 0, rfl, hM⟩
      · rw [if_neg (ne_true hc)] at hF
        refine KC.skip ?_
        refine KQ.thn hQ3 ?_
        clear hQ3 Q3
        refine KC.seqH fun Q9 hQ9 => ?_
        refine KC.seqH fun Q10 hQ10 => ?_
        refine KC.region ?_
        refine RL.val (O.move rfl) rfl ?_
        refine obindE hF fun xv11 hx12 hF => ?_
        refine RL.val (O.idxS Try.underlying9 hx12 rfl rfl) rfl ?_
        refine RL.val (O.eql rfl rfl) rfl ?_
        refine RL.nil ?_
        refine KQ.thn hQ10 ?_
        clear hQ10 Q10
        refine KC.cond rfl (fun hc => ?_) (fun hc => ?_)
        · rw [if_pos hc] at hF
          refine KC.seqH fun Q13 hQ13 => ?_
          refine KC.region ?_
          refine RL.val (O.move rfl) rfl ?_
          refine obindE hF fun cut14 hy15 hF => ?_
          refine RL.val (O.cutSl Try.underlying9 hy15 rfl rfl) rfl ?_
          refine obindE hF fun y16 hx17 hF => ?_
          refine RL.call Try.func9 bd9 rfl rfl (ih _ cut14 _ hx17) fun v w18 hv => ?_
          obtain ⟨A20, c21, rfl, hN19⟩ := hv
          replace hM := hM.call hN19
          refine RL.val (O.ext rfl rfl) rfl ?_
          refine RL.val (O.ext rfl rfl) rfl ?_
          refine RL.val (O.assign rfl) rfl ?_
          refine RL.val (O.assign rfl) rfl ?_
          refine RL.nil ?_
          refine KQ.thn hQ13 ?_
          clear hQ13 Q13
          refine KC.ret ?_
          refine KQ.thr hQ9 ?_
          clear hQ9 Q9
          have hE := Option.some.inj hF
          clear hF
          subst hE
          refine KQ.rets Try.results9 (RVs.cons (RV.tm rfl) (RVs.cons (RV.tm rfl) RVs.nil)) ?_
          exact ⟨_, rfl, A20, c21, rfl, hM⟩
        · rw [if_neg (ne_true hc)] at hF
          refine KC.skip ?_
          refine KQ.thn hQ9 ?_
          clear hQ9 Q9
          refine KC.seqH fun Q23 hQ23 => ?_
          refine KC.cut (fun a w29 => ∃ (t28 : Bool), Kn 60 [(0, .string b1), (37, .bool t28)] a ∧ Mem w [] w29 [] ∧ F_ref05_Options_j2 b1 (F_ref05_Options_R kf) t28 = some r) ?_ ?_
          · refine KC.region ?_
            refine RL.val (O.move rfl) rfl ?_
            refine RL.val (O.lens Try.underlying9 rfl) rfl ?_
            refine RL.val (O.lss rfl rfl) rfl ?_
            refine RL.val (O.move rfl) rfl ?_
            refine RL.bcase (t := 25) rfl (fun hc => ?_) (fun hc => ?_)
            · rw [if_pos hc] at hF
              refine RL.brun1 12 37 true (by kernel_rfl) ?_
              refine RL.nil ?_
              refine KQ.then_k ?_
              exact fun a ha => ⟨true, ha.less (less_cons rfl (less_cons rfl less_nil)), hM, hF⟩
            · rw [if_neg (ne_true hc)] at hF
              refine RL.gval rfl rfl (O.move rfl) rfl ?_
              refine obindE hF fun xv24 hx25 hF => ?_
              refine RL.gval rfl rfl (O.idxS Try.underlying9 hx25 rfl rfl) rfl ?_
              refine RL.gval rfl rfl (O.lss rfl rfl) rfl ?_
              refine RL.val (O.pickf rfl rfl) rfl ?_
              refine RL.val (O.move rfl) rfl ?_
              refine RL.bcase (t := 30) rfl (fun hc => ?_) (fun hc => ?_)
              · rw [if_pos hc] at hF
                refine RL.brun1 7 37 true (by kernel_rfl) ?_
                refine RL.nil ?_
                refine KQ.then_k ?_
                exact fun a ha => ⟨true, ha.less (less_cons rfl (less_cons rfl less_nil)), hM, hF⟩
              · rw [if_neg (ne_true hc)] at hF
                refine RL.gval rfl rfl (O.move rfl) rfl ?_
                refine obindE hF fun xv26 hx27 hF => ?_
                refine RL.gval rfl rfl (O.idxS Try.underlying9 hx27 rfl rfl) rfl ?_
                refine RL.gval rfl rfl (O.conv un5 Try.underlying3 rfl) rfl ?_
                refine RL.gval rfl rfl (O.move rfl) rfl ?_
                refine RL.gval rfl rfl (O.lens Try.underlying9 rfl) rfl ?_
                refine RL.gval rfl rfl (O.gtr rfl rfl) rfl ?_
                refine RL.val (O.pickf rfl rfl) rfl ?_
                refine RL.nil ?_
                refine KQ.then_k ?_
                exact fun a ha => ⟨(decide ((b1.size : Int) < (IntKind.i64.wrap xv26))), ha.less (less_cons rfl (less_cons rfl less_nil)), hM, hF⟩
          · rintro a w29 ⟨t28, ha, hM, hF⟩
            refine KC.app ha ?_
            clear ha
            unfold F_ref05_Options_j2 at hF
            refine KC.cond rfl (fun hc => ?_) (fun hc => ?_)
            · rw [if_pos hc] at hF
              refine KC.seqH fun Q30 hQ30 => ?_
              refine KC.region ?_
              refine RL.val (O.assign rfl) rfl ?_
              refine RL.val (O.assign rfl) rfl ?_
              refine RL.nil ?_
              refine KQ.thn hQ30 ?_
              clear hQ30 Q30
              refine KC.ret ?_
              refine KQ.thr hQ23 ?_
              clear hQ23 Q23
              have hE := Option.some.inj hF
              clear hF
              subst hE
              replace hM := hM.nilrow 34 2
              refine KQ.rets Try.results9 (RVs.cons (RV.tm rfl) (RVs.cons (RV.tm rfl) RVs.nil)) ?_
              exact ⟨_, rfl, none, 0, rfl, hM⟩
            · rw [if_neg (ne_true hc)] at hF
              refine KC.skip ?_
              refine KQ.thn hQ23 ?_
              clear hQ23 Q23
              refine KC.seqH fun Q31 hQ31 => ?_
              refine KC.region ?_
              refine RL.val (O.move rfl) rfl ?_
              refine RL.val (O.move rfl) rfl ?_
              refine obindE hF fun xv32 hx33 hF => ?_
              refine RL.val (O.idxS Try.underlying9 hx33 rfl rfl) rfl ?_
              refine obindE hF fun cut34 hy35 hF => ?_
              refine RL.val (O.cutSl Try.underlying9 hy35 rfl rfl) rfl ?_
              refine obindE hF fun y36 hx37 hF => ?_
              refine RL.call Try.func9 bd9 rfl rfl (ih _ cut34 _ hx37) fun v w38 hv => ?_
              obtain ⟨A40, c41, rfl, hN39⟩ := hv
              replace hM := hM.call hN39
              refine RL.val (O.move rfl) rfl ?_
              refine RL.val (O.ext rfl rfl) rfl ?_
              refine RL.val (O.ext rfl rfl) rfl ?_
              refine RL.val (O.assign rfl) rfl ?_
              refine RL.val (O.assign rfl) rfl ?_
              refine RL.nil ?_
              refine KQ.thn hQ31 ?_
              clear hQ31 Q31
              refine KC.seqH fun Q43 hQ43 => ?_
              refine KC.seqH fun Q44 hQ44 => ?_
              refine KC.region ?_
              refine RL.val (O.move rfl) rfl ?_
              refine RL.val (O.neq rfl rfl) rfl ?_
              refine RL.nil ?_
              refine KQ.thn hQ44 ?_
              clear hQ44 Q44
              refine KC.cond rfl (fun hc => ?_) (fun hc => ?_)
              · rw [if_pos hc] at hF
                refine KC.seqH fun Q45 hQ45 => ?_
                refine KC.region ?_
                refine RL.val (O.move rfl) rfl ?_
                refine RL.val (O.assign rfl) rfl ?_
                refine RL.val (O.assign rfl) rfl ?_
                refine RL.nil ?_
                refine KQ.thn hQ45 ?_
                clear hQ45 Q45
                refine KC.ret ?_
                refine KQ.thr hQ43 ?_
                clear hQ43 Q43
                have hE := Option.some.inj hF
                clear hF
                subst hE
                replace hM := hM.nilrow 34 2
                replace hM := hM.pick [1] rfl (by decide)
                refine KQ.rets Try.results9 (RVs.cons (RV.tm rfl) (RVs.cons (RV.tm rfl) RVs.nil)) ?_
                exact ⟨_, rfl, none, 0, rfl, hM⟩
              · rw [if_neg (ne_true hc)] at hF
                refine KC.skip ?_
                refine KQ.thn hQ43 ?_
                clear hQ43 Q43
                refine KC.seqH fun Q46 hQ46 => ?_
                replace hM := hM.drewN 1
                refine KC.draw [] [] [7] [0, 2, 3, 5, 8] (.ofList [0, 1, 2, 3, 4, 5, 6, 7, 8]) moP (by kernel_rfl) ?_
                refine RD.p rfl rfl rfl rfl (fun w' => O.move rfl) ?_
                refine obindE hF fun xv47 hx48 hF => ?_
                refine RD.q rfl rfl rfl rfl (fun w' hf => O.idxS Try.underlying9 hx48 rfl rfl) ?_
                refine RD.p rfl rfl rfl rfl (fun w' => O.move rfl) ?_
                refine RD.p rfl rfl rfl rfl (fun w' => O.move rfl) ?_
                refine obindE hF fun xv49 hx50 hF => ?_
                refine RD.q rfl rfl rfl rfl (fun w' hf => O.idxS Try.underlying9 hx50 rfl rfl) ?_
                refine obindE hF fun cut51 hy52 hF => ?_
                refine RD.p rfl rfl rfl rfl (fun w' => O.cutS Try.underlying9 hy52 rfl rfl rfl) ?_
                refine RD.q rfl rfl rfl rfl (fun w' hf => O.bld (cs := [.int .u8 xv47, .string cut51]) bt34 rfl (by kernel_rfl)) ?_
                refine RD.meff rfl rfl (E.bsl (enc := e_ref05_Option) (xs := ([(T_ref05_Option.mk xv47 cut51)] : List T_ref05_Option)) hM sl24 ze34 rfl rfl rfl (fun _ => rfl) rfl (by kernel_rfl) rfl) rfl fun v w53 hv => ?_
                clear hM
                obtain ⟨A54, rfl, hM, hf⟩ := hv
                refine ⟨fun _ => hf, ?_⟩
                refine RD.p rfl rfl rfl rfl (fun w' => O.assign rfl) ?_
                refine RD.nil ?_
                refine KQ.thn hQ46 ?_
                clear hQ46 Q46
                refine KC.seqH fun Q56 hQ56 => ?_
                refine KC.region ?_
                refine RL.val (O.move rfl) rfl ?_
                refine RL.val (O.move rfl) rfl ?_
                refine cut_someE hF fun hq60 hF => ?_
                refine RL.eff (E.app (enc := e_ref05_Option) (xs := ([(T_ref05_Option.mk xv47 cut51)] : List T_ref05_Option)) (ys := y36.1) (j := 1) hM rfl sl24 ze34 rfl rfl rfl rfl rfl (hM.rd (i := 0) rfl) (fun _ => One.all rfl) (of_decide_eq_true hq60)) rfl fun v w59 hv => ?_
                clear hM
                obtain ⟨A57, c58, rfl, hM, hf⟩ := hv
                refine RL.val (O.assign rfl) rfl ?_
                refine RL.val (O.assign rfl) rfl ?_
                refine RL.nil ?_
                refine KQ.thn hQ56 ?_
                clear hQ56 Q56
                refine KC.ret ?_
                have hE := Option.some.inj hF
                clear hF
                subst hE
                replace hM := hM.pick [1] rfl (by decide)
                refine KQ.rets Try.results9 (RVs.cons (RV.tm rfl) (RVs.cons (RV.tm rfl) RVs.nil)) ?_
                exact ⟨_, rfl, A57, c58, rfl, hM⟩
theorem c_ref05_Options (w : World) (b1 : ByteArray) (r : (List T_ref05_Option) × Int) (hF : F_ref05_Options b1 = some r) :
    CallsR Try.prog 9 [.string b1] w (fun v w' => ∃ (A0 : Option Addr) (c0 : Nat), v = .tuple #[.slice A0 (r.1).length c0, .int .i64 r.2] ∧ Mem w [] w' [.row A0 c0 34 2 r.1.length (r.1.flatMap e_ref05_Option)]) := c_ref05_Options_R fuel0 w b1 r hF
end Go.Proofs.Ytjfdfjmnajjjaaa
