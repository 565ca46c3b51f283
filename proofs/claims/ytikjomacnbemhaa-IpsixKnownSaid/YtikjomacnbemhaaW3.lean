/- Printed by a program of this claim: each call returns what the plain function of its name gives. -/
import Derived.Test.YtikjomacnbemhaaW2
set_option linter.unusedVariables false
namespace Go.Proofs.Ytikjomacnbemhaa
open Go Go.Ox Go.RowKit
set_option maxRecDepth 100000 in
set_option maxHeartbeats 40000000 in
theorem c_ipsix_reader_one_I (w : World) (g2 : Nat) (rv1 : T_ipsix_reader) (A4 : Option Addr) (c5 : Nat) (css7 : List (List Value)) (Z8 : List Nat) (A10 : Option Addr) (c11 : Nat) (hL14 : Lent w [.box g2 91 [.slice A4 (rv1.f_Chain.f_Exts).length c5, .int .u8 rv1.f_Chain.f_Proto, .slice A10 (rv1.f_b).length c11, .int .i64 rv1.f_at], .row A4 c5 63 2 (rv1.f_Chain.f_Exts).length (css7).flatten, .res Z8 (Els RO_ipsix_Ext 2 rv1.f_Chain.f_Exts css7 Z8)]) (hr12 : Rd w A10 c11 1 rv1.f_b.length (rv1.f_b.flatMap (eI .u8))) (ho13 : Off ([some g2] ++ [rblk A4 c5] ++ Z8.map some ++ []) rv1.f_b.length A10) (r : Int × T_ipsix_reader) (hF : F_ipsix_reader_one_I rv1 = some r) :
    CallsR Try.prog 48 [.pointer (some ⟨g2, 0, none⟩)] w (fun v w' => ∃ (A0 : Option Addr) (c0 : Nat) (css1 : List (List Value)) (Z1 : List Nat), v = .int .i64 r.1 ∧ (r.2.f_b = rv1.f_b) ∧ Mem w ([some g2] ++ [rblk A4 c5] ++ Z8.map some ++ []) w' [.box g2 91 [.slice A0 (r.2.f_Chain.f_Exts).length c0, .int .u8 r.2.f_Chain.f_Proto, .slice A10 (r.2.f_b).length c11, .int .i64 r.2.f_at], .row A0 c0 63 2 r.2.f_Chain.f_Exts.length css1.flatten, .res Z1 (Els RO_ipsix_Ext 2 r.2.f_Chain.f_Exts css1 Z1)]) := by
  refine calls_KC Try.func48 rfl Try.ntmps48 rfl ?_
  have hM : Mem w ([some g2] ++ [rblk A4 c5] ++ Z8.map some ++ []) w [.box g2 91 [.slice A4 (rv1.f_Chain.f_Exts).length c5, .int .u8 rv1.f_Chain.f_Proto, .slice A10 (rv1.f_b).length c11, .int .i64 rv1.f_at], .row A4 c5 63 2 (rv1.f_Chain.f_Exts).length (css7).flatten, .res Z8 (Els RO_ipsix_Ext 2 rv1.f_Chain.f_Exts css7 Z8)] := Mem.lendN hL14
  unfold F_ipsix_reader_one_I at hF
  refine KC.seq ?_
  refine KC.region ?_
  refine RL.val (O.assign rfl) rfl ?_
  refine RL.nil ?_
  refine KQ.then_n ?_
  refine KC.seq ?_
  refine KC.cut (fun a w24 => ∃ (A17 : Option Addr) (c18 : Nat) (css19 : List (List Value)) (Z20 : List Nat) (p22 : List T_ipsix_Ext) (t23 : Bool), Kn 113 [(0, .pointer (some ⟨g2, 0, none⟩)), (29, .bool t23)] a ∧ Mem w ([some g2] ++ [rblk A4 c5] ++ Z8.map some ++ []) w24 [.row A17 c18 63 2 (p22).length (css19).flatten, .res Z20 (Els RO_ipsix_Ext 2 p22 css19 Z20), .box g2 91 [.slice A17 (p22).length c18, .int .u8 rv1.f_Chain.f_Proto, .slice A10 (rv1.f_b).length c11, .int .i64 rv1.f_at]] ∧ F_ipsix_reader_one_I_j1 rv1 p22 t23 = some r) ?_ ?_
  · refine KC.region ?_
    refine RL.val (O.move rfl) rfl ?_
    refine RL.val (O.nilp rfl) rfl ?_
    refine RL.val (O.fldA fl91_0 (by decide) rfl) rfl ?_
    refine RL.val (O.fldA fl24_0 (by decide) rfl) rfl ?_
    refine RL.val (O.load sc22 rfl (Cs.adds [0, 0] ((hM.bx (i := 0) rfl)) rfl)) rfl ?_
    refine RL.val (O.len sl22 rfl) rfl ?_
    refine RL.val (O.eql rfl rfl) rfl ?_
    refine RL.val (O.move rfl) rfl ?_
    refine RL.bcase (t := 13) rfl (fun hc => ?_) (fun hc => ?_)
    · rw [if_pos hc] at hF
      refine RL.brun1 16 29 true (by kernel_rfl) ?_
      refine RL.nil ?_
      refine KQ.then_k ?_
      replace hM := hM.pick [1, 2, 0] rfl (by decide)
      exact fun a ha => ⟨A4, c5, css7, Z8, rv1.f_Chain.f_Exts, true, ha.less (less_cons rfl (less_cons rfl less_nil)), hM, hF⟩
    · rw [if_neg (ne_true hc)] at hF
      refine RL.gval rfl rfl (O.move rfl) rfl ?_
      refine RL.gval rfl rfl (O.nilp rfl) rfl ?_
      refine RL.gval rfl rfl (O.fldA fl91_0 (by decide) rfl) rfl ?_
      refine RL.gval rfl rfl (O.fldA fl24_1 (by decide) rfl) rfl ?_
      refine RL.gval rfl rfl (O.load sc5 rfl (Cs.adds [0, 1] ((hM.bx (i := 0) rfl)) rfl)) rfl ?_
      refine RL.gval rfl rfl (O.eql rfl rfl) rfl ?_
      refine RL.gval rfl rfl (O.move rfl) rfl ?_
      refine RL.bcase (t := 20) rfl (fun hc => ?_) (fun hc => ?_)
      · rw [if_pos hc] at hF
        refine RL.gval rfl rfl (O.move rfl) rfl ?_
        refine RL.gval rfl rfl (O.nilp rfl) rfl ?_
        refine RL.gval rfl rfl (O.fldA fl91_0 (by decide) rfl) rfl ?_
        refine RL.gval rfl rfl (O.fldA fl24_0 (by decide) rfl) rfl ?_
        refine RL.gval rfl rfl (O.load sc22 rfl (Cs.adds [0, 0] ((hM.bx (i := 0) rfl)) rfl)) rfl ?_
        refine RL.gval rfl rfl (O.len sl22 rfl) rfl ?_
        refine RL.gval rfl rfl (O.gtr rfl rfl) rfl ?_
        refine RL.gval rfl rfl (O.pickt rfl rfl) rfl ?_
        refine RL.val (O.pickf rfl rfl) rfl ?_
        refine RL.nil ?_
        refine KQ.then_k ?_
        replace hM := hM.pick [1, 2, 0] rfl (by decide)
        exact fun a ha => ⟨A4, c5, css7, Z8, rv1.f_Chain.f_Exts, (decide (0 < (rv1.f_Chain.f_Exts.length : Int))), ha.less (less_cons rfl (less_cons rfl less_nil)), hM, hF⟩
      · rw [if_neg (ne_true hc)] at hF
        refine RL.gskip rfl rfl rfl rfl ?_
        refine RL.gskip rfl rfl rfl rfl ?_
        refine RL.gskip rfl rfl rfl rfl ?_
        refine RL.gskip rfl rfl rfl rfl ?_
        refine RL.gskip rfl rfl rfl rfl ?_
        refine RL.gskip rfl rfl rfl rfl ?_
        refine RL.gskip rfl rfl rfl rfl ?_
        refine RL.gval rfl rfl (O.pickf rfl rfl) rfl ?_
        refine RL.val (O.pickf rfl rfl) rfl ?_
        refine RL.nil ?_
        refine KQ.then_k ?_
        replace hM := hM.pick [1, 2, 0] rfl (by decide)
        exact fun a ha => ⟨A4, c5, css7, Z8, rv1.f_Chain.f_Exts, false, ha.less (less_cons rfl (less_cons rfl less_nil)), hM, hF⟩
  · rintro a w24 ⟨A17, c18, css19, Z20, p22, t23, ha, hM, hF⟩
    refine KC.app ha ?_
    clear ha
    unfold F_ipsix_reader_one_I_j1 at hF
    refine KC.cond rfl (fun hc => ?_) (fun hc => ?_)
    · rw [if_pos hc] at hF
      refine KC.seq ?_
      refine KC.region ?_
      refine RL.val (O.assign rfl) rfl ?_
      refine RL.nil ?_
      refine KQ.then_n ?_
      refine KC.ret ?_
      refine KQ.then_r ?_
      obtain rfl := Option.some.inj hF
      replace hM := hM.pick [2, 0, 1] rfl (by decide)
      refine KQ.rets Try.results48 (RVs.cons (RV.tm rfl) RVs.nil) ?_
      exact ⟨_, rfl, A17, c18, css19, Z20, rfl, rfl, hM⟩
    · rw [if_neg (ne_true hc)] at hF
      refine KC.skip ?_
      refine KQ.then_n ?_
      refine KC.seq ?_
      replace hM := hM.drewN 1
      refine KC.draw [] [] [] [0, 1, 2, 4, 5, 6, 8, 9] (.ofList [0, 1, 2, 3, 4, 5, 6, 7, 8, 9]) moP (by kernel_rfl) ?_
      refine RD.p rfl rfl rfl rfl (fun w' => O.move rfl) ?_
      refine RD.p rfl rfl rfl rfl (fun w' => O.nilp rfl) ?_
      refine RD.p rfl rfl rfl rfl (fun w' => O.fldA fl91_1 (by decide) rfl) ?_
      refine RD.q rfl rfl rfl rfl (fun w' hf => O.load sc31 rfl (Cs.adds [2] ((hM.bx (i := 2) rfl).fut hf) rfl)) ?_
      refine RD.p rfl rfl rfl rfl (fun w' => O.move rfl) ?_
      refine RD.p rfl rfl rfl rfl (fun w' => O.nilp rfl) ?_
      refine RD.p rfl rfl rfl rfl (fun w' => O.fldA fl91_2 (by decide) rfl) ?_
      refine RD.q rfl rfl rfl rfl (fun w' hf => O.load sc3 rfl (Cs.adds [3] ((hM.bx (i := 2) rfl).fut hf) rfl)) ?_
      refine obindE hF fun cut25 hy26 hF => ?_
      obtain ⟨A27, c28, eA30, ec31⟩ := cutN A10 c11 (Int.toNat rv1.f_at) 1
      have hr29 := Rd.cutT (enc := (eI .u8)) (s := 1) (fun _ => rfl) hr12 hy26 (m := c11) (by have := hr12.cap; have := (gcut_some hy26).2.2.1; omega) (Nat.le_refl _)
      rw [← eA30, ← ec31] at hr29
      have ho32 := Off.cut (c := c11) (p' := Int.toNat rv1.f_at) (s := 1) ho13 hy26
      rw [← eA30] at ho32
      refine RD.p (v := .slice A27 (cut25).length c28) rfl rfl rfl rfl (fun w' => (by rw [eA30, ec31]; exact O.cutlT sl31 (hM.inp hr12 ho13) hy26 rfl rfl)) ?_
      refine RD.p rfl rfl rfl rfl (fun w' => O.assign rfl) ?_
      refine RD.nil ?_
      refine KQ.then_n ?_
      refine KC.seq ?_
      refine KC.seq ?_
      refine KC.region ?_
      refine RL.val (O.move rfl) rfl ?_
      refine RL.val (O.len sl31 rfl) rfl ?_
      refine RL.val (O.lss rfl rfl) rfl ?_
      refine RL.nil ?_
      refine KQ.then_n ?_
      refine KC.cond rfl (fun hc => ?_) (fun hc => ?_)
      · rw [if_pos hc] at hF
        refine KC.seq ?_
        refine KC.region ?_
        refine RL.val (O.assign rfl) rfl ?_
        refine RL.nil ?_
        refine KQ.then_n ?_
        refine KC.ret ?_
        refine KQ.then_r ?_
        obtain rfl := Option.some.inj hF
        replace hM := hM.pick [2, 0, 1] rfl (by decide)
        refine KQ.rets Try.results48 (RVs.cons (RV.tm rfl) RVs.nil) ?_
        exact ⟨_, rfl, A17, c18, css19, Z20, rfl, rfl, hM⟩
      · rw [if_neg (ne_true hc)] at hF
        refine KC.skip ?_
        refine KQ.then_n ?_
        refine KC.seq ?_
        refine KC.region ?_
        refine RL.val (O.move rfl) rfl ?_
        refine obindE hF fun xv35 hx34 hF => ?_
        have hA33 := Rd.atN (f := (eI .u8)) (s := 1) (fun _ => rfl) (by decide) (hM.inp hr29 ho32) hx34
        refine RL.val (O.idxA sl31 (hA33) rfl rfl) rfl ?_
        refine RL.val (O.load sc5 rfl (hA33).cells.at0) rfl ?_
        refine RL.val (O.conv un5 Try.underlying3 rfl) rfl ?_
        refine RL.val (O.add rfl rfl) rfl ?_
        refine RL.val (O.mul rfl rfl) rfl ?_
        refine RL.val (O.assign rfl) rfl ?_
        refine RL.nil ?_
        refine KQ.then_n ?_
        refine KC.cut (fun a w45 => ∃ (A38 : Option Addr) (c39 : Nat) (css40 : List (List Value)) (Z41 : List Nat) (p43 : List T_ipsix_Ext) (nv44 : Int), Kn 113 [(0, .pointer (some ⟨g2, 0, none⟩)), (3, .slice A27 (cut25).length c28), (4, .int .i64 nv44)] a ∧ Mem w ([some g2] ++ [rblk A4 c5] ++ Z8.map some ++ []) w45 [.row A38 c39 63 2 (p43).length (css40).flatten, .res Z41 (Els RO_ipsix_Ext 2 p43 css40 Z41), .box g2 91 [.slice A38 (p43).length c39, .int .u8 rv1.f_Chain.f_Proto, .slice A10 (rv1.f_b).length c11, .int .i64 rv1.f_at]] ∧ F_ipsix_reader_one_I_j2 rv1 cut25 p43 nv44 = some r) ?_ ?_
        · refine KC.seq ?_
          refine KC.region ?_
          refine RL.val (O.move rfl) rfl ?_
          refine RL.val (O.nilp rfl) rfl ?_
          refine RL.val (O.fldA fl91_0 (by decide) rfl) rfl ?_
          refine RL.val (O.fldA fl24_1 (by decide) rfl) rfl ?_
          refine RL.val (O.load sc5 rfl (Cs.adds [0, 1] ((hM.bx (i := 2) rfl)) rfl)) rfl ?_
          refine RL.val (O.eql rfl rfl) rfl ?_
          refine RL.nil ?_
          refine KQ.then_n ?_
          refine KC.cond rfl (fun hc => ?_) (fun hc => ?_)
          · rw [if_pos hc] at hF
            refine KC.region ?_
            refine RL.val (O.assign rfl) rfl ?_
            refine RL.nil ?_
            refine KQ.then_k ?_
            exact fun a ha => ⟨A17, c18, css19, Z20, p22, 8, ha.less (less_cons rfl (less_cons rfl (less_cons rfl less_nil))), hM, hF⟩
          · rw [if_neg (ne_true hc)] at hF
            refine KC.skip ?_
            refine KQ.then_k ?_
            exact fun a ha => ⟨A17, c18, css19, Z20, p22, (IntKind.i64.wrap (8 * (IntKind.i64.wrap ((IntKind.i64.wrap xv35) + 1)))), ha.less (less_cons rfl (less_cons rfl (less_cons rfl less_nil))), hM, hF⟩
        · rintro a w45 ⟨A38, c39, css40, Z41, p43, nv44, ha, hM, hF⟩
          refine KC.app ha ?_
          clear ha
          unfold F_ipsix_reader_one_I_j2 at hF
          refine KC.seq ?_
          refine KC.seq ?_
          refine KC.region ?_
          refine RL.val (O.move rfl) rfl ?_
          refine RL.val (O.len sl31 rfl) rfl ?_
          refine RL.val (O.move rfl) rfl ?_
          refine RL.val (O.lss rfl rfl) rfl ?_
          refine RL.nil ?_
          refine KQ.then_n ?_
          refine KC.cond rfl (fun hc => ?_) (fun hc => ?_)
          · rw [if_pos hc] at hF
            refine KC.seq ?_
            refine KC.region ?_
            refine RL.val (O.assign rfl) rfl ?_
            refine RL.nil ?_
            refine KQ.then_n ?_
            refine KC.ret ?_
            refine KQ.then_r ?_
            obtain rfl := Option.some.inj hF
            replace hM := hM.pick [2, 0, 1] rfl (by decide)
            refine KQ.rets Try.results48 (RVs.cons (RV.tm rfl) RVs.nil) ?_
            exact ⟨_, rfl, A38, c39, css40, Z41, rfl, rfl, hM⟩
          · rw [if_neg (ne_true hc)] at hF
            refine KC.skip ?_
            refine KQ.then_n ?_
            refine KC.cut (fun a w90 => ∃ (A78 : Option Addr) (c79 : Nat) (css80 : List (List Value)) (Z81 : List Nat) (g85 : Nat) (A87 : Option Addr) (c88 : Nat) (p83 : List T_ipsix_Ext) (xv89 : List Int), Kn 113 [(0, .pointer (some ⟨g2, 0, none⟩)), (3, .slice A27 (cut25).length c28), (4, .int .i64 nv44), (5, .pointer (some ⟨g85, 0, none⟩))] a ∧ Mem w ([some g2] ++ [rblk A4 c5] ++ Z8.map some ++ []) w90 [.row A78 c79 63 2 (p83).length (css80).flatten, .res Z81 (Els RO_ipsix_Ext 2 p83 css80 Z81), .box g2 91 [.slice A78 (p83).length c79, .int .u8 rv1.f_Chain.f_Proto, .slice A10 (rv1.f_b).length c11, .int .i64 rv1.f_at], .row A87 c88 5 1 (xv89).length ((xv89).flatMap (eI .u8)), .box g85 63 [.int .u8 rv1.f_Chain.f_Proto, .slice A87 (xv89).length c88]] ∧ F_ipsix_reader_one_I_j3 rv1 cut25 nv44 p83 xv89 = some r) ?_ ?_
            · replace hM := hM.drewN 1
              refine KC.draw [] [11] [8, 10, 11] [0, 1, 2, 3, 5, 6, 7] (.cons 0 (.cons 1 (.cons 2 (.cons 3 (.cons 4 (.cons 5 (.cons 6 (.cons 7 (.alt 8 (.ofList [9, 10, 11]) 10 (.ofList [8, 9, 11])))))))))) moP (by kernel_rfl) ?_
              refine RD.p rfl rfl rfl rfl (fun w' => O.move rfl) ?_
              refine RD.p rfl rfl rfl rfl (fun w' => O.nilp rfl) ?_
              refine RD.p rfl rfl rfl rfl (fun w' => O.fldA fl91_0 (by decide) rfl) ?_
              refine RD.p rfl rfl rfl rfl (fun w' => O.fldA fl24_1 (by decide) rfl) ?_
              refine RD.q rfl rfl rfl rfl (fun w' hf => O.load sc5 rfl (Cs.adds [0, 1] ((hM.bx (i := 2) rfl).fut hf) rfl)) ?_
              refine RD.p rfl rfl rfl rfl (fun w' => O.move rfl) ?_
              refine RD.p rfl rfl rfl rfl (fun w' => O.move rfl) ?_
              refine obindE hF fun cut46 hy47 hF => ?_
              obtain ⟨A48, c49, eA51, ec52⟩ := cutN A27 c28 (Int.toNat 2) 1
              have hr50 := Rd.cutT (enc := (eI .u8)) (s := 1) (fun _ => rfl) hr29 hy47 (m := c28) (by have := hr29.cap; have := (gcut_some hy47).2.2.1; omega) (Nat.le_refl _)
              rw [← eA51, ← ec52] at hr50
              have ho53 := Off.cut (c := c28) (p' := Int.toNat 2) (s := 1) ho32 hy47
              rw [← eA51] at ho53
              refine RD.p (v := .slice A48 (cut46).length c49) rfl rfl rfl rfl (fun w' => (by rw [eA51, ec52]; exact O.cutT sl31 (hM.inp hr29 ho32) hy47 rfl rfl rfl)) ?_
              refine RD.alt ?_ ?_
              · refine obindE hF fun y54 hx55 hF => ?_
                refine RD.mcall rfl rfl trivial Try.func49 bd49 rfl rfl (c_bytes_Clone _ _ _ cut46 (hM.inp hr50 ho53) _ hx55) fun v w56 hv => ?_
                obtain ⟨A58, c59, rfl, hN57⟩ := hv
                refine ⟨fun _ => hN57.fut, ?_⟩
                replace hM := hM.call hN57
                refine RD.q rfl rfl rfl rfl (fun w' hf => O.bld (cs := [.int .u8 rv1.f_Chain.f_Proto, .slice A58 (y54).length c59]) bt63 rfl (by kernel_rfl)) ?_
                refine RD.meff rfl rfl (E.alloc hM ze63) rfl fun v w62 hv => ?_
                clear hM
                obtain ⟨g61, rfl, hM, hf⟩ := hv
                refine ⟨fun _ => hf, ?_⟩
                refine RD.meffs rfl rfl rfl (E.stB (j := 4) (off := 0) (vs := [.int .u8 rv1.f_Chain.f_Proto, .slice A58 (y54).length c59]) (cs' := [.int .u8 rv1.f_Chain.f_Proto, .slice A58 (y54).length c59]) hM rfl sz63 rfl (adds_eq [] rfl) rfl rfl (One.all rfl) rfl rfl) fun w64 hM1 => ?_
                clear hM
                have hM := hM1
                clear hM1
                refine RD.nil ?_
                refine KQ.then_k ?_
                exact fun a ha => ⟨A38, c39, css40, Z41, g61, A58, c59, p43, y54, ha.less (less_cons rfl (less_cons rfl (less_cons rfl (less_cons rfl less_nil)))), hM, hF⟩
              · refine RD.meff rfl rfl (E.alloc hM ze63) rfl fun v w66 hv => ?_
                clear hM
                obtain ⟨g65, rfl, hM, hf⟩ := hv
                refine ⟨fun _ => hf, ?_⟩
                refine obindE hF fun y68 hx69 hF => ?_
                refine RD.mcall rfl rfl trivial Try.func49 bd49 rfl rfl (c_bytes_Clone _ _ _ cut46 (hM.inp hr50 ho53) _ hx69) fun v w70 hv => ?_
                obtain ⟨A72, c73, rfl, hN71⟩ := hv
                refine ⟨fun _ => hN71.fut, ?_⟩
                replace hM := hM.call hN71
                refine RD.q rfl rfl rfl rfl (fun w' hf => O.bld (cs := [.int .u8 rv1.f_Chain.f_Proto, .slice A72 (y68).length c73]) bt63 rfl (by kernel_rfl)) ?_
                refine RD.meffs rfl rfl rfl (E.stB (j := 3) (off := 0) (vs := [.int .u8 rv1.f_Chain.f_Proto, .slice A72 (y68).length c73]) (cs' := [.int .u8 rv1.f_Chain.f_Proto, .slice A72 (y68).length c73]) hM rfl sz63 rfl (adds_eq [] rfl) rfl rfl (One.all rfl) rfl rfl) fun w75 hM1 => ?_
                clear hM
                have hM := hM1
                clear hM1
                refine RD.nil ?_
                refine KQ.then_k ?_
                replace hM := hM.pick [0, 1, 2, 4, 3] rfl (by decide)
                exact fun a ha => ⟨A38, c39, css40, Z41, g65, A72, c73, p43, y68, ha.less (less_cons rfl (less_cons rfl (less_cons rfl (less_cons rfl less_nil)))), hM, hF⟩
            · rintro a w90 ⟨A78, c79, css80, Z81, g85, A87, c88, p83, xv89, ha, hM, hF⟩
              refine KC.app ha ?_
              clear ha
              unfold F_ipsix_reader_one_I_j3 at hF
              refine KC.seq ?_
              refine KC.cut (fun a w109 => ∃ (A100 : Option Addr) (c101 : Nat) (css102 : List (List Value)) (Z103 : List Nat) (p105 : List T_ipsix_Ext) (t108 : Bool), Kn 113 [(0, .pointer (some ⟨g2, 0, none⟩)), (3, .slice A27 (cut25).length c28), (4, .int .i64 nv44), (5, .pointer (some ⟨g85, 0, none⟩)), (84, .bool t108)] a ∧ Mem w ([some g2] ++ [rblk A4 c5] ++ Z8.map some ++ []) w109 [.row A100 c101 63 2 (p105).length (css102).flatten, .res Z103 (Els RO_ipsix_Ext 2 p105 css102 Z103), .box g2 91 [.slice A100 (p105).length c101, .int .u8 rv1.f_Chain.f_Proto, .slice A10 (rv1.f_b).length c11, .int .i64 rv1.f_at], .row A87 c88 5 1 (xv89).length ((xv89).flatMap (eI .u8)), .box g85 63 [.int .u8 rv1.f_Chain.f_Proto, .slice A87 (xv89).length c88]] ∧ F_ipsix_reader_one_I_j4 rv1 cut25 nv44 xv89 p105 t108 = some r) ?_ ?_
              · refine KC.region ?_
                refine RL.val (O.move rfl) rfl ?_
                refine RL.val (O.nilp rfl) rfl ?_
                refine RL.val (O.fldA fl91_0 (by decide) rfl) rfl ?_
                refine RL.val (O.fldA fl24_1 (by decide) rfl) rfl ?_
                refine RL.val (O.load sc5 rfl (Cs.adds [0, 1] ((hM.bx (i := 2) rfl)) rfl)) rfl ?_
                refine RL.val (O.eql rfl rfl) rfl ?_
                refine RL.val (O.move rfl) rfl ?_
                refine RL.bcase (t := 74) rfl (fun hc => ?_) (fun hc => ?_)
                · rw [if_pos hc] at hF
                  refine RL.gval rfl rfl (O.move rfl) rfl ?_
                  refine obindE hF fun xv93 hx92 hF => ?_
                  have hA91 := Rd.atN (f := (eI .u8)) (s := 1) (fun _ => rfl) (by decide) (hM.inp hr29 ho32) hx92
                  refine RL.gval rfl rfl (O.idxA sl31 (hA91) rfl rfl) rfl ?_
                  refine RL.gval rfl rfl (O.load sc5 rfl (hA91).cells.at0) rfl ?_
                  refine RL.gval rfl rfl (O.neq rfl rfl) rfl ?_
                  refine RL.gval rfl rfl (O.move rfl) rfl ?_
                  refine RL.bcase (t := 79) rfl (fun hc => ?_) (fun hc => ?_)
                  · rw [if_pos hc] at hF
                    refine RL.gskip rfl rfl rfl rfl ?_
                    refine RL.gskip rfl rfl rfl rfl ?_
                    refine RL.gskip rfl rfl rfl rfl ?_
                    refine RL.gval rfl rfl (O.pickt rfl rfl) rfl ?_
                    refine RL.val (O.pickt rfl rfl) rfl ?_
                    refine RL.nil ?_
                    refine KQ.then_k ?_
                    exact fun a ha => ⟨A78, c79, css80, Z81, p83, true, ha.less (less_cons rfl (less_cons rfl (less_cons rfl (less_cons rfl (less_cons rfl less_nil))))), hM, hF⟩
                  · rw [if_neg (ne_true hc)] at hF
                    refine RL.gval rfl rfl (O.loadN (cs := [.int .u8 rv1.f_Chain.f_Proto, .slice A87 (xv89).length c88]) ag63 rfl (Cs.addsN [] ((hM.bx (i := 4) rfl)) rfl)) rfl ?_
                    refine obindE hF fun y94 hx95 hF => ?_
                    refine RL.gcall rfl rfl Try.func39 bd39 rfl rfl (c_ipsix_Ext_right _ (T_ipsix_Ext.mk rv1.f_Chain.f_Proto xv89) _ _ (hM.rd (i := 3) rfl) _ hx95) fun v w96 hv => ?_
                    obtain ⟨rfl, hN97⟩ := hv
                    replace hM := hM.call0 hN97
                    refine RL.gval rfl rfl (O.not rfl) rfl ?_
                    refine RL.gval rfl rfl (O.pickf rfl rfl) rfl ?_
                    refine RL.val (O.pickt rfl rfl) rfl ?_
                    refine RL.nil ?_
                    refine KQ.then_k ?_
                    exact fun a ha => ⟨A78, c79, css80, Z81, p83, (!y94), ha.less (less_cons rfl (less_cons rfl (less_cons rfl (less_cons rfl (less_cons rfl less_nil))))), hM, hF⟩
                · rw [if_neg (ne_true hc)] at hF
                  refine RL.brun1 10 84 false (by kernel_rfl) ?_
                  refine RL.nil ?_
                  refine KQ.then_k ?_
                  exact fun a ha => ⟨A78, c79, css80, Z81, p83, false, ha.less (less_cons rfl (less_cons rfl (less_cons rfl (less_cons rfl (less_cons rfl less_nil))))), hM, hF⟩
              · rintro a w109 ⟨A100, c101, css102, Z103, p105, t108, ha, hM, hF⟩
                refine KC.app ha ?_
                clear ha
                unfold F_ipsix_reader_one_I_j4 at hF
                refine KC.cond rfl (fun hc => ?_) (fun hc => ?_)
                · rw [if_pos hc] at hF
                  refine KC.seq ?_
                  refine KC.region ?_
                  refine RL.val (O.assign rfl) rfl ?_
                  refine RL.nil ?_
                  refine KQ.then_n ?_
                  refine KC.ret ?_
                  refine KQ.then_r ?_
                  obtain rfl := Option.some.inj hF
                  replace hM := hM.pick [2, 0, 1] rfl (by decide)
                  refine KQ.rets Try.results48 (RVs.cons (RV.tm rfl) RVs.nil) ?_
                  exact ⟨_, rfl, A100, c101, css102, Z103, rfl, rfl, hM⟩
                · rw [if_neg (ne_true hc)] at hF
                  refine KC.skip ?_
                  refine KQ.then_n ?_
                  refine KC.seq ?_
                  replace hM := hM.drewN 1
                  refine KC.draw [rblk A100 c101] [23, 27, 30] [9, 10, 23, 27, 30] [0, 1, 2, 3, 4, 5, 6, 11, 14, 15, 16, 18, 19, 20, 21, 22, 24, 25, 26, 28, 29] (.ofList [0, 1, 2, 3, 4, 5, 6, 7, 8, 11, 12, 13, 14, 15, 16, 17, 18, 19, 9, 10, 20, 21, 22, 23, 24, 25, 26, 27, 28, 29, 30]) moP (by kernel_rfl) ?_
                  refine RD.p rfl rfl rfl rfl (fun w' => O.move rfl) ?_
                  refine RD.p rfl rfl rfl rfl (fun w' => O.move rfl) ?_
                  refine RD.p rfl rfl rfl rfl (fun w' => O.move rfl) ?_
                  refine RD.p rfl rfl rfl rfl (fun w' => O.move rfl) ?_
                  refine RD.p rfl rfl rfl rfl (fun w' => O.nilp rfl) ?_
                  refine RD.p rfl rfl rfl rfl (fun w' => O.fldA fl91_0 (by decide) rfl) ?_
                  refine RD.p rfl rfl rfl rfl (fun w' => O.fldA fl24_0 (by decide) rfl) ?_
                  refine RD.q rfl rfl rfl rfl (fun w' hf => O.load sc22 rfl (Cs.adds [0, 0] (hM.bxX (i0 := 2) rfl [0] rfl rfl hf) rfl)) ?_
                  refine RD.q rfl rfl rfl rfl (fun w' hf => O.loadN (cs := [.int .u8 rv1.f_Chain.f_Proto, .slice A87 (xv89).length c88]) ag63 rfl (Cs.addsN [] (hM.bxX (i0 := 4) rfl [0] rfl rfl hf) rfl)) ?_
                  refine RD.p rfl rfl rfl rfl (fun w' => O.move rfl) ?_
                  refine obindE hF fun xv112 hx111 hF => ?_
                  have hA110 := Rd.atN (f := (eI .u8)) (s := 1) (fun _ => rfl) (by decide) (hM.inp hr29 ho32) hx111
                  refine RD.q rfl rfl rfl rfl (fun w' hf => O.idxA sl31 ((hA110.chg hf (hM.offI [0] rfl hr29 (ho32)))) rfl rfl) ?_
                  refine RD.q rfl rfl rfl rfl (fun w' hf => O.load sc5 rfl ((hA110.chg hf (hM.offI [0] rfl hr29 (ho32)))).cells.at0) ?_
                  refine RD.p rfl rfl rfl rfl (fun w' => O.move rfl) ?_
                  refine RD.p rfl rfl rfl rfl (fun w' => O.nilp rfl) ?_
                  refine RD.p rfl rfl rfl rfl (fun w' => O.fldA fl91_2 (by decide) rfl) ?_
                  refine RD.q rfl rfl rfl rfl (fun w' hf => O.load sc3 rfl (Cs.adds [3] (hM.bxX (i0 := 2) rfl [0] rfl rfl hf) rfl)) ?_
                  refine RD.p rfl rfl rfl rfl (fun w' => O.move rfl) ?_
                  refine RD.p rfl rfl rfl rfl (fun w' => O.add rfl rfl) ?_
                  refine RD.meff rfl rfl (E.bslD (css := ([[.int .u8 rv1.f_Chain.f_Proto, .slice A87 (xv89).length c88]] : List (List Value))) hM sl22 ze63 rfl rfl rfl rfl rfl (by kernel_rfl) rfl) rfl fun v w113 hv => ?_
                  clear hM
                  obtain ⟨A114, rfl, hM, hf⟩ := hv
                  refine ⟨fun _ => hf.wide0, ?_⟩
                  have hp118 := (hM.pick [3] rfl (by decide)).sep
                  obtain ⟨Z115, hM⟩ := hM.glue [3] [0, 1, 2, 4, 5] rfl rfl (by decide) rfl (Els RO_ipsix_Ext 2 [(T_ipsix_Ext.mk rv1.f_Chain.f_Proto xv89)] ([[.int .u8 rv1.f_Chain.f_Proto, .slice A87 (xv89).length c88]] : List (List Value))) (fun Z w1 ho hz => Els.lit (El3.cons rfl ⟨A87, c88, rfl, rfl⟩ El3.nil) rfl ho hz hp118)
                  refine cut_someE hF fun hq122 hF => ?_
                  refine RD.meff rfl rfl (E.appD (xs := p105) (ys := [(T_ipsix_Ext.mk rv1.f_Chain.f_Proto xv89)]) (css := css102) (cs2 := ([[.int .u8 rv1.f_Chain.f_Proto, .slice A87 (xv89).length c88]] : List (List Value))) (j := 0) hM rfl sl22 ze63 rfl rfl rfl rfl rfl (hM.rd (i := 4) rfl) (One.all rfl) (of_decide_eq_true hq122)) rfl fun v w121 hv => ?_
                  clear hM
                  obtain ⟨A119, c120, rfl, hM, hf⟩ := hv
                  refine ⟨fun _ => hf, ?_⟩
                  have hp124 := hM.sep
                  obtain ⟨Z123, hM⟩ := hM.glue [1, 5] [0, 2, 3] rfl rfl (by decide) rfl (Els RO_ipsix_Ext 2 (p105 ++ [(T_ipsix_Ext.mk rv1.f_Chain.f_Proto xv89)]) (css102 ++ ([[.int .u8 rv1.f_Chain.f_Proto, .slice A87 (xv89).length c88]] : List (List Value)))) (fun Z w1 ho hz => Els.app (Ob.res_φ (ho 0 _ rfl)) (Ob.res_φ (ho 1 _ rfl)) (fun g hg => hz 0 _ g rfl (Ob.has_res.2 hg)) (fun g hg => hz 1 _ g rfl (Ob.has_res.2 hg)) (fun g h1 h2 => absurd (hp124 1 5 _ _ g rfl rfl (Ob.has_res.2 h1) (Ob.has_res.2 h2)) (by decide)))
                  refine RD.p rfl rfl rfl rfl (fun w' => O.nilp rfl) ?_
                  refine RD.p rfl rfl rfl rfl (fun w' => O.fldA fl91_0 (by decide) rfl) ?_
                  refine RD.p rfl rfl rfl rfl (fun w' => O.fldA fl24_0 (by decide) rfl) ?_
                  refine RD.meffs rfl rfl rfl (E.stB (j := 1) (off := 0) (vs := [.slice A119 ((p105 ++ [(T_ipsix_Ext.mk rv1.f_Chain.f_Proto xv89)])).length c120]) (cs' := [.slice A119 ((p105 ++ [(T_ipsix_Ext.mk rv1.f_Chain.f_Proto xv89)])).length c120, .int .u8 rv1.f_Chain.f_Proto, .slice A10 (rv1.f_b).length c11, .int .i64 rv1.f_at]) hM rfl sz22 rfl (adds_eq [0, 0] rfl) rfl rfl (One.all rfl) rfl rfl) fun w127 hM1 => ?_
                  clear hM
                  have hM := hM1
                  clear hM1
                  refine RD.p rfl rfl rfl rfl (fun w' => O.nilp rfl) ?_
                  refine RD.p rfl rfl rfl rfl (fun w' => O.fldA fl91_0 (by decide) rfl) ?_
                  refine RD.p rfl rfl rfl rfl (fun w' => O.fldA fl24_1 (by decide) rfl) ?_
                  refine RD.meffs rfl rfl rfl (E.stB (j := 1) (off := 1) (vs := [.int .u8 xv112]) (cs' := [.slice A119 ((p105 ++ [(T_ipsix_Ext.mk rv1.f_Chain.f_Proto xv89)])).length c120, .int .u8 xv112, .slice A10 (rv1.f_b).length c11, .int .i64 rv1.f_at]) hM rfl sz5 rfl (adds_eq [0, 1] rfl) rfl rfl (One.all rfl) rfl rfl) fun w128 hM1 => ?_
                  clear hM
                  have hM := hM1
                  clear hM1
                  refine RD.p rfl rfl rfl rfl (fun w' => O.nilp rfl) ?_
                  refine RD.p rfl rfl rfl rfl (fun w' => O.fldA fl91_2 (by decide) rfl) ?_
                  refine RD.meffs rfl rfl rfl (E.stB (j := 1) (off := 3) (vs := [.int .i64 (IntKind.i64.wrap (rv1.f_at + nv44))]) (cs' := [.slice A119 ((p105 ++ [(T_ipsix_Ext.mk rv1.f_Chain.f_Proto xv89)])).length c120, .int .u8 xv112, .slice A10 (rv1.f_b).length c11, .int .i64 (IntKind.i64.wrap (rv1.f_at + nv44))]) hM rfl sz3 rfl (adds_eq [3] rfl) rfl rfl (One.all rfl) rfl rfl) fun w129 hM1 => ?_
                  clear hM
                  have hM := hM1
                  clear hM1
                  refine RD.nil ?_
                  refine KQ.then_n ?_
                  refine KC.seq ?_
                  refine KC.region ?_
                  refine RL.val (O.assign rfl) rfl ?_
                  refine RL.nil ?_
                  refine KQ.then_n ?_
                  refine KC.ret ?_
                  obtain rfl := Option.some.inj hF
                  replace hM := hM.pick [1, 0, 3] rfl (by decide)
                  refine KQ.rets Try.results48 (RVs.cons (RV.tm rfl) RVs.nil) ?_
                  exact ⟨_, rfl, A119, c120, (css102 ++ ([[.int .u8 rv1.f_Chain.f_Proto, .slice A87 (xv89).length c88]] : List (List Value))), Z123, rfl, rfl, hM⟩
set_option maxRecDepth 100000 in
set_option maxHeartbeats 40000000 in
theorem c_ipsix_ParseChain (w : World) (first1 : Int) (A3 : Option Addr) (c4 : Nat) (b2 : List Int) (hr5 : Rd w A3 c4 1 b2.length (b2.flatMap (eI .u8))) (r : T_ipsix_Chain × Int × Int) (hF : F_ipsix_ParseChain first1 b2 = some r) :
    CallsR Try.prog 21 [.int .u8 first1, .slice A3 (b2).length c4] w (fun v w' => ∃ (A0 : Option Addr) (c0 : Nat) (css1 : List (List Value)) (Z1 : List Nat), v = .tuple #[.agg #[.slice A0 (r.1.f_Exts).length c0, .int .u8 r.1.f_Proto], .int .i64 r.2.1, .int .i64 r.2.2] ∧ Mem w [] w' [.row A0 c0 63 2 r.1.f_Exts.length css1.flatten, .res Z1 (Els RO_ipsix_Ext 2 r.1.f_Exts css1 Z1)]) := by
  refine calls_KC Try.func21 rfl Try.ntmps21 rfl ?_
  have hM := Mem.init w
  unfold F_ipsix_ParseChain at hF
  refine KC.seq ?_
  refine KC.region ?_
  refine RL.eff (E.alloc hM ze24) rfl fun v w7 hv => ?_
  clear hM
  obtain ⟨g6, rfl, hM, hf⟩ := hv
  refine RL.val (O.assign rfl) rfl ?_
  refine RL.val (O.assign rfl) rfl ?_
  refine RL.nil ?_
  refine KQ.then_n ?_
  refine KC.scope ?_
  refine KC.seq ?_
  refine KC.region ?_
  refine RL.val (O.move rfl) rfl ?_
  refine RL.val (O.bld (cs := [.slice none 0 0, .int .u8 first1]) bt24 rfl (by kernel_rfl)) rfl ?_
  refine RL.val (O.move rfl) rfl ?_
  refine RL.val (O.bld (cs := [.slice none 0 0, .int .u8 first1, .slice A3 (b2).length c4, .int .i64 0]) bt91 rfl (by kernel_rfl)) rfl ?_
  refine RL.eff (E.box (vs := [.slice none 0 0, .int .u8 first1, .slice A3 (b2).length c4, .int .i64 0]) hM rfl rfl) rfl fun v w10 hv => ?_
  clear hM
  obtain ⟨g9, rfl, hM, hf⟩ := hv
  refine RL.val (O.assign rfl) rfl ?_
  refine RL.nil ?_
  refine KQ.then_n ?_
  refine KC.seq ?_
  refine KC.label ?_
  refine KQ.then_n ?_
  refine KC.cut (fun a w162 => ∃ (A150 : Option Addr) (c151 : Nat) (css152 : List (List Value)) (Z153 : List Nat) (A158 : Option Addr) (c159 : Nat) (rv155 : List T_ipsix_Ext) (rv156 : Int) (rv160 : List Int) (rv161 : Int), Kn 49 [(4, .pointer (some ⟨g6, 0, none⟩)), (7, .pointer (some ⟨g9, 0, none⟩))] a ∧ Mem w [] w162 [.box g6 24 [.slice none 0 0, .int .u8 0], .row A150 c151 63 2 (rv155).length (css152).flatten, .res Z153 (Els RO_ipsix_Ext 2 rv155 css152 Z153), .box g9 91 [.slice A150 (rv155).length c151, .int .u8 rv156, .slice A158 (rv160).length c159, .int .i64 rv161]] ∧ Rd w A158 c159 1 (rv160).length ((rv160).flatMap (eI .u8)) ∧ F_ipsix_ParseChain_j1 rv155 rv156 rv161 = some r) ?_ ?_
  · refine KC.block ?_
    refine KC.loop (fun k113 a w111 => ∃ (A99 : Option Addr) (c100 : Nat) (css101 : List (List Value)) (Z102 : List Nat) (A107 : Option Addr) (c108 : Nat) (rv104 : List T_ipsix_Ext) (rv105 : Int) (rv109 : List Int) (rv110 : Int), Kn 49 [(4, .pointer (some ⟨g6, 0, none⟩)), (7, .pointer (some ⟨g9, 0, none⟩))] a ∧ Mem w [] w111 [.box g6 24 [.slice none 0 0, .int .u8 0], .row A99 c100 63 2 (rv104).length (css101).flatten, .res Z102 (Els RO_ipsix_Ext 2 rv104 css101 Z102), .box g9 91 [.slice A99 (rv104).length c100, .int .u8 rv105, .slice A107 (rv109).length c108, .int .i64 rv110]] ∧ Rd w A107 c108 1 (rv109).length ((rv109).flatMap (eI .u8)) ∧ F_ipsix_ParseChain_L1 k113 rv104 rv105 rv109 rv110 = some r) ?_ ?_
    · replace hM := hM.nilrow 63 2
      obtain ⟨Z149, hM⟩ := hM.glue [] [0, 1, 2] rfl rfl (by decide) rfl (Els RO_ipsix_Ext 2 ([] : List T_ipsix_Ext) []) (fun Z w1 _ _ => Els.nil)
      replace hM := hM.pick [0, 2, 3, 1] rfl (by decide)
      exact fun a ha => ⟨fuel0, none, 0, [], Z149, A3, c4, ([]), first1, b2, 0, ha.less (less_cons rfl (less_cons rfl less_nil)), hM, hr5, hF⟩
    · rintro k113 a w111 ⟨A99, c100, css101, Z102, A107, c108, rv104, rv105, rv109, rv110, ha, hM, hr106, hF⟩
      refine KC.app ha ?_
      clear ha
      cases k113 with
      | zero => exact (none_some hF).elim
      | succ k113 =>
      have hF : F_ipsix_ParseChain_l1 (F_ipsix_ParseChain_L1 k113) rv104 rv105 rv109 rv110 = some r := hF
      unfold F_ipsix_ParseChain_l1 at hF
      refine KC.seq ?_
      refine KC.seq ?_
      refine KC.region ?_
      refine RL.val (O.move rfl) rfl ?_
      refine RL.val (O.nilp rfl) rfl ?_
      refine RL.val (O.fldA fl91_0 (by decide) rfl) rfl ?_
      refine RL.val (O.fldA fl24_1 (by decide) rfl) rfl ?_
      refine RL.val (O.load sc5 rfl (Cs.adds [0, 1] ((hM.bx (i := 3) rfl)) rfl)) rfl ?_
      refine obindE hF fun y114 hx115 hF => ?_
      refine RL.call Try.func41 bd41 rfl rfl (c_ipsix_behind _ rv105 _ hx115) fun v w116 hv => ?_
      obtain ⟨rfl, hN117⟩ := hv
      replace hM := hM.call0 hN117
      refine RL.nil ?_
      refine KQ.then_n ?_
      refine KC.cond rfl (fun hc => ?_) (fun hc => ?_)
      · rw [if_pos hc] at hF
        refine KC.skip ?_
        refine KQ.then_n ?_
        refine KC.block ?_
        refine KC.seq ?_
        refine KC.seq ?_
        refine KC.region ?_
        refine RL.val (O.move rfl) rfl ?_
        refine obindE hF fun y118 hx119 hF => ?_
        refine RL.call Try.func48 bd48 rfl rfl (c_ipsix_reader_one_I _ _ (T_ipsix_reader.mk (T_ipsix_Chain.mk rv104 rv105) rv109 rv110) _ _ _ _ _ _ (hM.lent [3, 1, 2] rfl (by decide)) (hM.inp hr106 Off.nil) (hM.offI [3, 1, 2] rfl hr106 (Off.nil)) _ hx119) fun v w120 hv => ?_
        obtain ⟨A122, c123, css125, Z126, rfl, hE128, hN121⟩ := hv
        have hE128 : y118.2.f_b = rv109 := hE128
        have hr129 := hr106
        rw [← hE128] at hr129
        replace hM := hM.callL [3, 1, 2] [0] rfl rfl (by decide) rfl hN121
        refine RL.val (O.assign rfl) rfl ?_
        refine RL.nil ?_
        refine KQ.then_n ?_
        refine KC.seq ?_
        refine KC.region ?_
        refine RL.val (O.move rfl) rfl ?_
        refine RL.val (O.neq rfl rfl) rfl ?_
        refine RL.nil ?_
        refine KQ.then_n ?_
        refine KC.cond rfl (fun hc => ?_) (fun hc => ?_)
        · rw [if_pos hc] at hF
          refine KC.seq ?_
          refine KC.region ?_
          refine RL.val (O.bld (cs := [.slice none 0 0, .int .u8 0]) bt24 rfl (by kernel_rfl)) rfl ?_
          refine RL.val (O.move rfl) rfl ?_
          refine RL.effs (E.stB (j := 0) (off := 0) (vs := [.slice none 0 0, .int .u8 0]) (cs' := [.slice none 0 0, .int .u8 0]) hM rfl sz24 rfl (adds_eq [] rfl) rfl rfl (One.all rfl) rfl rfl) fun w130 hM1 => ?_
          clear hM
          have hM := hM1
          clear hM1
          refine RL.val (O.assign rfl) rfl ?_
          refine RL.val (O.assign rfl) rfl ?_
          refine RL.nil ?_
          refine KQ.then_n ?_
          refine KC.ret ?_
          refine KQ.then_r ?_
          refine KQ.blk_r ?_
          refine KQ.then_r ?_
          refine KQ.blk_r ?_
          refine KQ.then_r ?_
          refine KQ.sc_r ?_
          obtain rfl := Option.some.inj hF
          have hb131 := hM.bx (i := 0) rfl
          replace hM := hM.nilrow 63 2
          obtain ⟨Z132, hM⟩ := hM.glue [] [0, 1, 2, 3, 4] rfl rfl (by decide) rfl (Els RO_ipsix_Ext 2 ([] : List T_ipsix_Ext) []) (fun Z w1 _ _ => Els.nil)
          replace hM := hM.pick [4, 5] rfl (by decide)
          refine KQ.rets Try.results21 (RVs.cons (RV.cN (cs := [.slice none 0 0, .int .u8 0]) rfl ag24 hb131) (RVs.cons (RV.tm rfl) (RVs.cons (RV.tm rfl) RVs.nil))) ?_
          exact ⟨_, rfl, none, 0, [], Z132, rfl, hM⟩
        · rw [if_neg (ne_true hc)] at hF
          refine KC.skip ?_
          refine KQ.then_n ?_
          refine KC.seq ?_
          replace hM := hM.drewN 1
          refine KC.draw [] [] [14] [0, 1, 2, 3, 5, 6, 7, 8, 10, 11] (.ofList [0, 1, 2, 3, 4, 5, 6, 7, 8, 9, 10, 11, 12, 13, 14]) moP (by kernel_rfl) ?_
          refine RD.p rfl rfl rfl rfl (fun w' => O.move rfl) ?_
          refine RD.p rfl rfl rfl rfl (fun w' => O.nilp rfl) ?_
          refine RD.p rfl rfl rfl rfl (fun w' => O.fldA fl91_0 (by decide) rfl) ?_
          refine RD.p rfl rfl rfl rfl (fun w' => O.fldA fl24_0 (by decide) rfl) ?_
          refine RD.q rfl rfl rfl rfl (fun w' hf => O.load sc22 rfl (Cs.adds [0, 0] ((hM.bx (i := 1) rfl).fut hf) rfl)) ?_
          refine RD.p rfl rfl rfl rfl (fun w' => O.move rfl) ?_
          refine RD.p rfl rfl rfl rfl (fun w' => O.nilp rfl) ?_
          refine RD.p rfl rfl rfl rfl (fun w' => O.fldA fl91_0 (by decide) rfl) ?_
          refine RD.p rfl rfl rfl rfl (fun w' => O.fldA fl24_0 (by decide) rfl) ?_
          refine RD.q rfl rfl rfl rfl (fun w' hf => O.load sc22 rfl (Cs.adds [0, 0] ((hM.bx (i := 1) rfl).fut hf) rfl)) ?_
          refine RD.p rfl rfl rfl rfl (fun w' => O.len sl22 rfl) ?_
          refine RD.p rfl rfl rfl rfl (fun w' => O.sub rfl rfl) ?_
          refine obindE hF fun xv135 hx137 hF => ?_
          obtain ⟨cs140, hA136, hC139, hR138⟩ := hM.atD (i := 2) (j := 3) uo_ipsix_Ext rfl rfl hx137
          obtain ⟨A141, c142, rfl, hr143, ho144⟩ := hR138
          refine RD.q rfl rfl rfl rfl (fun w' hf => O.idxA sl22 (hA136.fut hf) rfl rfl) ?_
          refine RD.q rfl rfl rfl rfl (fun w' hf => O.loadN (cs := [.int .u8 xv135.f_Kind, .slice A141 (xv135.f_Data).length c142]) ag63 rfl (hA136.fut hf).cells) ?_
          refine obindE hF fun y145 hx146 hF => ?_
          refine RD.mcall rfl rfl trivial Try.func40 bd40 rfl rfl (c_ipsix_Ext_later _ xv135 _ _ hr143 _ hx146) fun v w147 hv => ?_
          obtain ⟨rfl, hN148⟩ := hv
          refine ⟨fun _ => hN148.fut, ?_⟩
          have hr143 := hr143.fut hN148.fut
          replace hM := hM.call0 hN148
          refine RD.nil ?_
          refine KQ.then_n ?_
          refine KC.cond rfl (fun hc => ?_) (fun hc => ?_)
          · rw [if_pos hc] at hF
            refine KC.exit ?_
            refine KQ.blk_y rfl ?_
            refine KQ.then_x ?_
            refine KQ.blk_x ?_
            refine KQ.then_k ?_
            replace hM := hM.pick [0, 2, 3, 1] rfl (by decide)
            exact fun a ha => ⟨A122, c123, css125, Z126, A107, c108, y118.2.f_Chain.f_Exts, y118.2.f_Chain.f_Proto, y118.2.f_b, y118.2.f_at, ha.less (less_cons rfl (less_cons rfl less_nil)), hM, hr129, hF⟩
          · rw [if_neg (ne_true hc)] at hF
            refine KC.skip ?_
            refine KQ.blk_n ?_
            refine KQ.then_k ?_
            replace hM := hM.pick [0, 2, 3, 1] rfl (by decide)
            exact fun a ha => ⟨k113, Nat.lt_succ_self k113, A122, c123, css125, Z126, A107, c108, y118.2.f_Chain.f_Exts, y118.2.f_Chain.f_Proto, y118.2.f_b, y118.2.f_at, ha.less (less_cons rfl (less_cons rfl less_nil)), hM, hr129, hF⟩
      · rw [if_neg (ne_true hc)] at hF
        refine KC.exit ?_
        refine KQ.then_x ?_
        refine KQ.then_x ?_
        refine KQ.blk_x ?_
        refine KQ.then_k ?_
        exact fun a ha => ⟨A99, c100, css101, Z102, A107, c108, rv104, rv105, rv109, rv110, ha.less (less_cons rfl (less_cons rfl less_nil)), hM, hr106, hF⟩
  · rintro a w162 ⟨A150, c151, css152, Z153, A158, c159, rv155, rv156, rv160, rv161, ha, hM, hr157, hF⟩
    refine KC.app ha ?_
    clear ha
    unfold F_ipsix_ParseChain_j1 at hF
    refine KC.cut (fun a w173 => ∃ (A167 : Option Addr) (c168 : Nat) (css169 : List (List Value)) (Z170 : List Nat) (t172 : List T_ipsix_Ext), Kn 49 [(4, .pointer (some ⟨g6, 0, none⟩)), (5, .int .i64 rv161), (6, .int .i64 0)] a ∧ Mem w [] w173 [.row A167 c168 63 2 (t172).length (css169).flatten, .res Z170 (Els RO_ipsix_Ext 2 t172 css169 Z170), .box g6 24 [.slice A167 (t172).length c168, .int .u8 rv156]] ∧ F_ipsix_ParseChain_j2 rv156 rv161 t172 = some r) ?_ ?_
    · replace hM := hM.drewN 1
      refine KC.draw [] [8] [7, 8] [0, 1, 2, 4, 5, 6, 9, 10] (.cons 0 (.cons 1 (.cons 2 (.cons 3 (.cons 4 (.cons 5 (.cons 6 (.alt 7 (.ofList [8, 9, 10]) 8 (.ofList [7, 9, 10]))))))))) moP (by kernel_rfl) ?_
      refine RD.p rfl rfl rfl rfl (fun w' => O.move rfl) ?_
      refine RD.p rfl rfl rfl rfl (fun w' => O.nilp rfl) ?_
      refine RD.p rfl rfl rfl rfl (fun w' => O.fldA fl91_0 (by decide) rfl) ?_
      refine RD.q rfl rfl rfl rfl (fun w' hf => O.loadN (cs := [.slice A150 (rv155).length c151, .int .u8 rv156]) ag24 rfl (Cs.addsN [0] ((hM.bx (i := 3) rfl).fut hf) rfl)) ?_
      refine RD.p rfl rfl rfl rfl (fun w' => O.move rfl) ?_
      refine RD.p rfl rfl rfl rfl (fun w' => O.nilp rfl) ?_
      refine RD.p rfl rfl rfl rfl (fun w' => O.fldA fl91_2 (by decide) rfl) ?_
      refine RD.alt ?_ ?_
      · refine RD.mq rfl rfl (O.load sc3 rfl (Cs.adds [3] ((hM.bx (i := 3) rfl)) rfl)) rfl ?_
        refine RD.meffs rfl rfl rfl (E.stB (j := 0) (off := 0) (vs := [.slice A150 (rv155).length c151, .int .u8 rv156]) (cs' := [.slice A150 (rv155).length c151, .int .u8 rv156]) hM rfl sz24 rfl (adds_eq [] rfl) rfl rfl (One.all rfl) rfl rfl) fun w163 hM1 => ?_
        clear hM
        have hM := hM1
        clear hM1
        refine RD.p rfl rfl rfl rfl (fun w' => O.assign rfl) ?_
        refine RD.p rfl rfl rfl rfl (fun w' => O.assign rfl) ?_
        refine RD.nil ?_
        refine KQ.then_k ?_
        replace hM := hM.pick [1, 2, 0] rfl (by decide)
        exact fun a ha => ⟨A150, c151, css152, Z153, rv155, ha.less (less_cons rfl (less_cons rfl (less_cons rfl less_nil))), hM, hF⟩
      · refine RD.meffs rfl rfl rfl (E.stB (j := 0) (off := 0) (vs := [.slice A150 (rv155).length c151, .int .u8 rv156]) (cs' := [.slice A150 (rv155).length c151, .int .u8 rv156]) hM rfl sz24 rfl (adds_eq [] rfl) rfl rfl (One.all rfl) rfl rfl) fun w164 hM1 => ?_
        clear hM
        have hM := hM1
        clear hM1
        refine RD.mq rfl rfl (O.load sc3 rfl (Cs.adds [3] ((hM.bx (i := 3) rfl)) rfl)) rfl ?_
        refine RD.p rfl rfl rfl rfl (fun w' => O.assign rfl) ?_
        refine RD.p rfl rfl rfl rfl (fun w' => O.assign rfl) ?_
        refine RD.nil ?_
        refine KQ.then_k ?_
        replace hM := hM.pick [1, 2, 0] rfl (by decide)
        exact fun a ha => ⟨A150, c151, css152, Z153, rv155, ha.less (less_cons rfl (less_cons rfl (less_cons rfl less_nil))), hM, hF⟩
    · rintro a w173 ⟨A167, c168, css169, Z170, t172, ha, hM, hF⟩
      refine KC.app ha ?_
      clear ha
      unfold F_ipsix_ParseChain_j2 at hF
      refine KC.ret ?_
      refine KQ.sc_r ?_
      obtain rfl := Option.some.inj hF
      have hb174 := hM.bx (i := 2) rfl
      replace hM := hM.pick [0, 1] rfl (by decide)
      refine KQ.rets Try.results21 (RVs.cons (RV.cN (cs := [.slice A167 (t172).length c168, .int .u8 rv156]) rfl ag24 hb174) (RVs.cons (RV.tm rfl) (RVs.cons (RV.tm rfl) RVs.nil))) ?_
      exact ⟨_, rfl, A167, c168, css169, Z170, rfl, hM⟩
set_option maxRecDepth 100000 in
set_option maxHeartbeats 40000000 in
theorem c_ipsix_Frag_1 (w : World) (xv1 : T_ipsix_Ext) (A2 : Option Addr) (c3 : Nat) (hr4 : Rd w A2 c3 1 xv1.f_Data.length (xv1.f_Data.flatMap (eI .u8))) (r : Bool) (hF : F_ipsix_Frag_1 xv1 = some r) :
    CallsR Try.prog 33 [.agg #[.int .u8 xv1.f_Kind, .slice A2 (xv1.f_Data).length c3]] w (fun v w' => v = .bool r ∧ Mem w [] w' []) := by
  refine calls_KC Try.func33 rfl Try.ntmps33 rfl ?_
  have hM := Mem.init w
  unfold F_ipsix_Frag_1 at hF
  refine KC.seq ?_
  refine KC.region ?_
  refine RL.eff (E.box (vs := [.int .u8 xv1.f_Kind, .slice A2 (xv1.f_Data).length c3]) hM rfl rfl) rfl fun v w6 hv => ?_
  clear hM
  obtain ⟨g5, rfl, hM, hf⟩ := hv
  refine RL.val (O.assign rfl) rfl ?_
  refine RL.nil ?_
  refine KQ.then_n ?_
  refine KC.seq ?_
  refine KC.region ?_
  refine RL.val (O.fldA fl63_0 (by decide) rfl) rfl ?_
  refine RL.val (O.load sc5 rfl (Cs.adds [0] ((hM.bx (i := 0) rfl)) rfl)) rfl ?_
  refine RL.val (O.eql rfl rfl) rfl ?_
  refine RL.val (O.assign rfl) rfl ?_
  refine RL.nil ?_
  refine KQ.then_n ?_
  refine KC.ret ?_
  obtain rfl := Option.some.inj hF
  replace hM := hM.pick [] rfl (by decide)
  refine KQ.rets Try.results33 (RVs.cons (RV.tm rfl) RVs.nil) ?_
  exact ⟨_, rfl, rfl, hM⟩
set_option maxRecDepth 100000 in
set_option maxHeartbeats 40000000 in
theorem c_slices_IndexFunc_ipsix_Ext_ipsix_Ext_fipsix_Frag_1 (w : World) (A2 : Option Addr) (c3 : Nat) (s1 : List T_ipsix_Ext) (hr4 : RdD R_ipsix_Ext [] w A2 c3 2 s1) (r : Int) (hF : F_slices_IndexFunc_ipsix_Ext_ipsix_Ext_fipsix_Frag_1 s1 = some r) :
    CallsR Try.prog 32 [.slice A2 (s1).length c3, .func (.func 33) #[] #[]] w (fun v w' => v = .int .i64 r ∧ Mem w [] w' []) := by
  refine calls_KC Try.func32 rfl Try.ntmps32 rfl ?_
  have hM := Mem.init w
  unfold F_slices_IndexFunc_ipsix_Ext_ipsix_Ext_fipsix_Frag_1 at hF
  refine KC.seq ?_
  refine KC.region ?_
  refine RL.val (O.assign rfl) rfl ?_
  refine RL.nil ?_
  refine KQ.then_n ?_
  refine KC.seq ?_
  refine KC.seq ?_
  refine KC.region ?_
  refine RL.val (O.move rfl) rfl ?_
  refine RL.val (O.len sl22 rfl) rfl ?_
  refine RL.val (O.move rfl) rfl ?_
  refine RL.nil ?_
  refine KQ.then_n ?_
  refine KC.block ?_
  refine KC.loop (fun k37 a w35 => ∃ (t34 : Int), Kn 19 [(0, .slice A2 (s1).length c3), (1, .func (.func 33) #[] #[]), (7, .int .i64 (s1.length : Int)), (8, .int .i64 t34)] a ∧ Mem w [] w35 [] ∧ F_slices_IndexFunc_ipsix_Ext_ipsix_Ext_fipsix_Frag_1_L1 s1 k37 t34 = some r) ?_ ?_
  · exact fun a ha => ⟨fuel0, 0, ha.less (less_cons rfl (less_cons rfl (less_cons rfl (less_cons rfl less_nil)))), hM, hF⟩
  · rintro k37 a w35 ⟨t34, ha, hM, hF⟩
    refine KC.app ha ?_
    clear ha
    cases k37 with
    | zero => exact (none_some hF).elim
    | succ k37 =>
    have hF : F_slices_IndexFunc_ipsix_Ext_ipsix_Ext_fipsix_Frag_1_l1 (F_slices_IndexFunc_ipsix_Ext_ipsix_Ext_fipsix_Frag_1_L1 s1 k37) s1 t34 = some r := hF
    unfold F_slices_IndexFunc_ipsix_Ext_ipsix_Ext_fipsix_Frag_1_l1 at hF
    refine KC.seq ?_
    refine KC.region ?_
    refine RL.val (O.lss rfl rfl) rfl ?_
    refine RL.nil ?_
    refine KQ.then_n ?_
    refine KC.seq ?_
    refine KC.cond rfl (fun hc => ?_) (fun hc => ?_)
    · rw [if_pos hc] at hF
      refine KC.skip ?_
      refine KQ.then_n ?_
      refine KC.seq ?_
      refine KC.block ?_
      refine KC.seq ?_
      refine KC.region ?_
      refine RL.val (O.move rfl) rfl ?_
      refine RL.val (O.assign rfl) rfl ?_
      refine RL.nil ?_
      refine KQ.then_n ?_
      refine KC.seq ?_
      refine KC.region ?_
      refine RL.val (O.move rfl) rfl ?_
      refine RL.val (O.move rfl) rfl ?_
      refine RL.val (O.move rfl) rfl ?_
      refine obindE hF fun xv40 hx39 hF => ?_
      obtain ⟨cs43, hA38, hR41, hO42⟩ := RdD.at hr4 hx39
      obtain ⟨A44, c45, rfl, hr46, ho47⟩ := hR41
      have hA38 := hA38.chg hM.chg hO42
      refine RL.val (O.idxA sl22 (hA38) rfl rfl) rfl ?_
      refine RL.val (O.loadN (cs := [.int .u8 xv40.f_Kind, .slice A44 (xv40.f_Data).length c45]) ag63 rfl (hA38).cells) rfl ?_
      refine obindE hF fun y48 hx49 hF => ?_
      refine RL.callv (first := []) (captured := []) rfl Try.func33 bd33 rfl rfl (c_ipsix_Frag_1 _ xv40 _ _ (hM.inp hr46 Off.nil) _ hx49) fun v w50 hv => ?_
      obtain ⟨rfl, hN51⟩ := hv
      replace hM := hM.call0 hN51
      refine RL.nil ?_
      refine KQ.then_n ?_
      refine KC.cond rfl (fun hc => ?_) (fun hc => ?_)
      · rw [if_pos hc] at hF
        refine KC.seq ?_
        refine KC.region ?_
        refine RL.val (O.move rfl) rfl ?_
        refine RL.val (O.assign rfl) rfl ?_
        refine RL.nil ?_
        refine KQ.then_n ?_
        refine KC.ret ?_
        refine KQ.blk_r ?_
        refine KQ.then_r ?_
        refine KQ.then_r ?_
        refine KQ.blk_r ?_
        refine KQ.then_r ?_
        obtain rfl := Option.some.inj hF
        refine KQ.rets Try.results32 (RVs.cons (RV.tm rfl) RVs.nil) ?_
        exact ⟨_, rfl, rfl, hM⟩
      · rw [if_neg (ne_true hc)] at hF
        refine KC.skip ?_
        refine KQ.blk_n ?_
        refine KQ.then_n ?_
        refine KC.region ?_
        refine RL.val (O.add rfl rfl) rfl ?_
        refine RL.val (O.move rfl) rfl ?_
        refine RL.nil ?_
        refine KQ.then_k ?_
        exact fun a ha => ⟨k37, Nat.lt_succ_self k37, (IntKind.i64.wrap (t34 + 1)), ha.less (less_cons rfl (less_cons rfl (less_cons rfl (less_cons rfl less_nil)))), hM, hF⟩
    · rw [if_neg (ne_true hc)] at hF
      refine KC.exit ?_
      refine KQ.then_x ?_
      refine KQ.then_x ?_
      refine KQ.blk_x ?_
      refine KQ.then_n ?_
      refine KC.seq ?_
      refine KC.region ?_
      refine RL.val (O.assign rfl) rfl ?_
      refine RL.nil ?_
      refine KQ.then_n ?_
      refine KC.ret ?_
      obtain rfl := Option.some.inj hF
      refine KQ.rets Try.results32 (RVs.cons (RV.tm rfl) RVs.nil) ?_
      exact ⟨_, rfl, rfl, hM⟩
set_option maxRecDepth 100000 in
set_option maxHeartbeats 40000000 in
theorem c_ipsix_Frag (w : World) (cv1 : T_ipsix_Chain) (A2 : Option Addr) (c3 : Nat) (hr4 : RdD R_ipsix_Ext [] w A2 c3 2 cv1.f_Exts) (r : Int × Bool × Int × Bool) (hF : F_ipsix_Frag cv1 = some r) :
    CallsR Try.prog 13 [.agg #[.slice A2 (cv1.f_Exts).length c3, .int .u8 cv1.f_Proto]] w (fun v w' => v = .tuple #[.int .u16 r.1, .bool r.2.1, .int .u32 r.2.2.1, .bool r.2.2.2] ∧ Mem w [] w' []) := by
  refine calls_KC Try.func13 rfl Try.ntmps13 rfl ?_
  have hM := Mem.init w
  unfold F_ipsix_Frag at hF
  refine KC.seq ?_
  refine KC.region ?_
  refine RL.eff (E.box (vs := [.slice A2 (cv1.f_Exts).length c3, .int .u8 cv1.f_Proto]) hM rfl rfl) rfl fun v w6 hv => ?_
  clear hM
  obtain ⟨g5, rfl, hM, hf⟩ := hv
  refine RL.val (O.assign rfl) rfl ?_
  refine RL.val (O.assign rfl) rfl ?_
  refine RL.val (O.assign rfl) rfl ?_
  refine RL.val (O.assign rfl) rfl ?_
  refine RL.nil ?_
  refine KQ.then_n ?_
  refine KC.seq ?_
  refine KC.region ?_
  refine RL.val (O.fldA fl24_0 (by decide) rfl) rfl ?_
  refine RL.val (O.load sc22 rfl (Cs.adds [0] ((hM.bx (i := 0) rfl)) rfl)) rfl ?_
  refine obindE hF fun y8 hx9 hF => ?_
  refine RL.call Try.func32 bd32 rfl rfl (c_slices_IndexFunc_ipsix_Ext_ipsix_Ext_fipsix_Frag_1 _ _ _ cv1.f_Exts (hr4.chg mv_ipsix_Ext hM.chg) _ hx9) fun v w10 hv => ?_
  obtain ⟨rfl, hN11⟩ := hv
  replace hM := hM.call0 hN11
  refine RL.val (O.assign rfl) rfl ?_
  refine RL.nil ?_
  refine KQ.then_n ?_
  refine KC.seq ?_
  refine KC.cut (fun a w18 => ∃ (t17 : Bool), Kn 43 [(1, .pointer (some ⟨g5, 0, none⟩)), (6, .int .i64 y8), (18, .bool t17)] a ∧ Mem w [] w18 [.box g5 24 [.slice A2 (cv1.f_Exts).length c3, .int .u8 cv1.f_Proto]] ∧ F_ipsix_Frag_j1 cv1 y8 t17 = some r) ?_ ?_
  · refine KC.region ?_
    refine RL.val (O.move rfl) rfl ?_
    refine RL.val (O.lss rfl rfl) rfl ?_
    refine RL.val (O.move rfl) rfl ?_
    refine RL.bcase (t := 14) rfl (fun hc => ?_) (fun hc => ?_)
    · rw [if_pos hc] at hF
      refine RL.brun1 4 18 true (by kernel_rfl) ?_
      refine RL.nil ?_
      refine KQ.then_k ?_
      exact fun a ha => ⟨true, ha.less (less_cons rfl (less_cons rfl (less_cons rfl less_nil))), hM, hF⟩
    · rw [if_neg (ne_true hc)] at hF
      refine RL.gval rfl rfl (O.loadN (cs := [.slice A2 (cv1.f_Exts).length c3, .int .u8 cv1.f_Proto]) ag24 rfl (Cs.addsN [] ((hM.bx (i := 0) rfl)) rfl)) rfl ?_
      refine obindE hF fun y12 hx13 hF => ?_
      refine RL.gcall rfl rfl Try.func16 bd16 rfl rfl (c_ipsix_Right _ cv1 _ _ (hr4.chg mv_ipsix_Ext hM.chg) _ hx13) fun v w14 hv => ?_
      obtain ⟨rfl, hN15⟩ := hv
      replace hM := hM.call0 hN15
      refine RL.gval rfl rfl (O.not rfl) rfl ?_
      refine RL.val (O.pickf rfl rfl) rfl ?_
      refine RL.nil ?_
      refine KQ.then_k ?_
      exact fun a ha => ⟨(!y12), ha.less (less_cons rfl (less_cons rfl (less_cons rfl less_nil))), hM, hF⟩
  · rintro a w18 ⟨t17, ha, hM, hF⟩
    refine KC.app ha ?_
    clear ha
    unfold F_ipsix_Frag_j1 at hF
    refine KC.cond rfl (fun hc => ?_) (fun hc => ?_)
    · rw [if_pos hc] at hF
      refine KC.seq ?_
      refine KC.region ?_
      refine RL.val (O.assign rfl) rfl ?_
      refine RL.val (O.assign rfl) rfl ?_
      refine RL.val (O.assign rfl) rfl ?_
      refine RL.val (O.assign rfl) rfl ?_
      refine RL.nil ?_
      refine KQ.then_n ?_
      refine KC.ret ?_
      refine KQ.then_r ?_
      obtain rfl := Option.some.inj hF
      replace hM := hM.pick [] rfl (by decide)
      refine KQ.rets Try.results13 (RVs.cons (RV.tm rfl) (RVs.cons (RV.tm rfl) (RVs.cons (RV.tm rfl) (RVs.cons (RV.tm rfl) RVs.nil)))) ?_
      exact ⟨_, rfl, rfl, hM⟩
    · rw [if_neg (ne_true hc)] at hF
      refine KC.skip ?_
      refine KQ.then_n ?_
      refine KC.seq ?_
      refine KC.region ?_
      refine RL.val (O.fldA fl24_0 (by decide) rfl) rfl ?_
      refine RL.val (O.load sc22 rfl (Cs.adds [0] ((hM.bx (i := 0) rfl)) rfl)) rfl ?_
      refine RL.val (O.move rfl) rfl ?_
      refine obindE hF fun xv21 hx20 hF => ?_
      obtain ⟨cs24, hA19, hR22, hO23⟩ := RdD.at hr4 hx20
      obtain ⟨A25, c26, rfl, hr27, ho28⟩ := hR22
      have hA19 := hA19.chg hM.chg hO23
      refine RL.val (O.idxA sl22 (hA19) rfl rfl) rfl ?_
      refine RL.val (O.loadN (cs := [.int .u8 xv21.f_Kind, .slice A25 (xv21.f_Data).length c26]) ag63 rfl (hA19).cells) rfl ?_
      refine obindE hF fun y29 hx30 hF => ?_
      refine RL.call Try.func34 bd34 rfl rfl (c_ipsix_Ext_says _ xv21 _ _ (hM.inp hr27 Off.nil) _ hx30) fun v w31 hv => ?_
      obtain ⟨rfl, hN32⟩ := hv
      replace hM := hM.call0 hN32
      refine RL.val (O.move rfl) rfl ?_
      refine RL.val (O.ext rfl rfl) rfl ?_
      refine RL.val (O.ext rfl rfl) rfl ?_
      refine RL.val (O.ext rfl rfl) rfl ?_
      refine RL.val (O.assign rfl) rfl ?_
      refine RL.val (O.assign rfl) rfl ?_
      refine RL.nil ?_
      refine KQ.then_n ?_
      refine KC.seq ?_
      refine KC.region ?_
      refine RL.val (O.fldA fl24_0 (by decide) rfl) rfl ?_
      refine RL.val (O.load sc22 rfl (Cs.adds [0] ((hM.bx (i := 0) rfl)) rfl)) rfl ?_
      refine RL.val (O.move rfl) rfl ?_
      refine obindE hF fun xv35 hx34 hF => ?_
      obtain ⟨cs38, hA33, hR36, hO37⟩ := RdD.at hr4 hx34
      obtain ⟨A39, c40, rfl, hr41, ho42⟩ := hR36
      have hA33 := hA33.chg hM.chg hO37
      refine RL.val (O.idxA sl22 (hA33) rfl rfl) rfl ?_
      refine RL.val (O.fldA fl63_1 (by decide) rfl) rfl ?_
      refine RL.val (O.load sc31 rfl (Cs.adds [1] (hA33).cells rfl)) rfl ?_
      refine obindE hF fun y43 hx44 hF => ?_
      refine RL.call Try.func35 bd35 rfl rfl (c_bits_Get _ _ _ xv35.f_Data (hM.inp hr41 Off.nil) 2 4 _ hx44) fun v w45 hv => ?_
      obtain ⟨rfl, hN46⟩ := hv
      replace hM := hM.call0 hN46
      refine RL.val (O.move rfl) rfl ?_
      refine RL.val (O.ext rfl rfl) rfl ?_
      refine RL.val (O.ext rfl rfl) rfl ?_
      refine RL.val (O.assign rfl) rfl ?_
      refine RL.val (O.assign rfl) rfl ?_
      refine RL.nil ?_
      refine KQ.then_n ?_
      refine KC.seq ?_
      refine KC.region ?_
      refine RL.val (O.move rfl) rfl ?_
      refine RL.val (O.move rfl) rfl ?_
      refine RL.val (O.move rfl) rfl ?_
      refine RL.val (O.conv un81 Try.underlying37 rfl) rfl ?_
      refine RL.val (O.assign rfl) rfl ?_
      refine RL.val (O.assign rfl) rfl ?_
      refine RL.val (O.assign rfl) rfl ?_
      refine RL.val (O.assign rfl) rfl ?_
      refine RL.nil ?_
      refine KQ.then_n ?_
      refine KC.ret ?_
      obtain rfl := Option.some.inj hF
      replace hM := hM.pick [] rfl (by decide)
      refine KQ.rets Try.results13 (RVs.cons (RV.tm rfl) (RVs.cons (RV.tm rfl) (RVs.cons (RV.tm rfl) (RVs.cons (RV.tm rfl) RVs.nil)))) ?_
      exact ⟨_, rfl, rfl, hM⟩
end Go.Proofs.Ytikjomacnbemhaa
