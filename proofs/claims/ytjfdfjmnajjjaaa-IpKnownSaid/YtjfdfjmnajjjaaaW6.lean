/- Printed by a program of this claim: each call returns what the plain function of its name gives. -/
import Derived.Test.YtjfdfjmnajjjaaaW1
import Derived.Test.YtjfdfjmnajjjaaaW2
set_option linter.unusedVariables false
namespace Go.Proofs.Ytjfdfjmnajjjaaa
open Go Go.Ox Go.RowKit
set_option maxRecDepth 100000 in
set_option maxHeartbeats 40000000 in
theorem c_ip_Options (w : World) (A2 : Option Addr) (c3 : Nat) (b1 : List Int) (hr4 : Rd w A2 c3 1 b1.length (b1.flatMap (eI .u8))) (r : (List T_ip_Option) × Int) (hF : F_ip_Options b1 = some r) :
    CallsR Try.prog 10 [.slice A2 (b1).length c3] w (fun v w' => ∃ (A0 : Option Addr) (c0 : Nat) (css1 : List (List Value)) (Z1 : List Nat), v = .tuple #[.slice A0 (r.1).length c0, .int .i64 r.2] ∧ Mem w [] w' [.row A0 c0 32 2 r.1.length css1.flatten, .res Z1 (Els RO_ip_Option 2 r.1 css1 Z1)]) := by
  refine calls_KCM Try.func10 rfl Try.ntmps10 rfl ?_
  have hM := Mem.init w
  unfold F_ip_Options at hF
  refine KC.seqH fun Q5 hQ5 => ?_
  refine KC.region ?_
  refine RL.eff (E.alloc hM ze28) rfl fun v w7 hv => ?_
  clear hM
  obtain ⟨g6, rfl, hM, hf⟩ := hv
  refine RL.eff (E.alloc hM ze25) rfl fun v w10 hv => ?_
  clear hM
  obtain ⟨g9, rfl, hM, hf⟩ := hv
  refine RL.nil ?_
  refine KQ.thn hQ5 ?_
  clear hQ5 Q5
  refine KC.seqH fun Q12 hQ12 => ?_
  refine KC.region ?_
  refine RL.eff (E.alloc hM ze28) rfl fun v w14 hv => ?_
  clear hM
  obtain ⟨g13, rfl, hM, hf⟩ := hv
  refine RL.nil ?_
  refine KQ.thn hQ12 ?_
  clear hQ12 Q12
  refine KC.seqH fun Q16 hQ16 => ?_
  refine KC.seqH fun Q17 hQ17 => ?_
  refine KC.region ?_
  refine RL.val (O.move rfl) rfl ?_
  refine RL.icall Try.func27 bd27 rfl rfl rfl Try.ntmps27 rfl ?_
  refine KC.seqH fun Q18 hQ18 => ?_
  refine KC.region ?_
  refine RL.eff (E.box (vs := [.slice A2 (b1).length c3]) hM rfl rfl) rfl fun v w20 hv => ?_
  clear hM
  obtain ⟨g19, rfl, hM, hf⟩ := hv
  refine RL.val (O.assign rfl) rfl ?_
  refine RL.nil ?_
  refine KQ.thn hQ18 ?_
  clear hQ18 Q18
  refine KC.seqH fun Q22 hQ22 => ?_
  refine KC.region ?_
  refine RL.val (O.mkf rfl rfl) rfl ?_
  refine RL.val (O.assign rfl) rfl ?_
  refine RL.nil ?_
  refine KQ.thn hQ22 ?_
  clear hQ22 Q22
  refine KC.ret ?_
  refine KQ.rets Try.results27 (RVs.cons (RV.tm rfl) RVs.nil) ?_
  refine ⟨.func (.func 47) #[] #[.pointer (some ⟨g19, 0, none⟩)], rfl, ?_⟩
  refine RL.nil ?_
  refine KQ.thn hQ17 ?_
  clear hQ17 Q17
  refine KC.block ?_
  refine KC.range (lb := [.pointer (some ⟨g19, 0, none⟩)]) hM rfl Try.func47 bd47 rfl Try.ntmps47 rfl fun a23 rc25 l27 D28 w29 ha24 hrc26 hM1 hf30 => ?_
  clear hM
  have hM := hM1
  clear hM1
  refine KC.block ?_
  refine KC.loop (fun k312 a w310 => ∃ (A297 : Option Addr) (c298 : Nat) (A304 : Option Addr) (c305 : Nat) (css306 : List (List Value)) (Z307 : List Nat) (b299 : List Int) (b309 : List T_ip_Option), Kn 58 [(0, .func (.yield l27) #[] #[]), (1, .pointer (some ⟨g19, 0, none⟩))] a ∧ Mem w [] w310 [.res [D28] (DefAt D28), .res [l27] (LoopAt l27 rc25 .ready none), .box g19 22 [.slice A297 (b299).length c298], .box g6 28 [.slice none 0 0], .box g9 25 [.int .i64 0], .row A304 c305 32 2 (b309).length (css306).flatten, .res Z307 (Els RO_ip_Option 2 b309 css306 Z307), .box g13 28 [.slice A304 (b309).length c305]] ∧ (∀ w2, Rd w2 A2 c3 1 b1.length (b1.flatMap (eI .u8)) → Rd w2 A297 c298 1 b299.length (b299.flatMap (eI .u8))) ∧ F_ip_Options_L1 k312 b299 b309 = some r) ?_ ?_
  · replace hM := hM.nilrow 32 2
    obtain ⟨Z454, hM⟩ := hM.glue [] [0, 1, 2, 3, 4, 5, 6] rfl rfl (by decide) rfl (Els RO_ip_Option 2 ([] : List T_ip_Option) []) (fun Z w1 _ _ => Els.nil)
    replace hM := hM.pick [4, 5, 3, 0, 1, 6, 7, 2] rfl (by decide)
    exact fun a ha => ⟨fuel0, A2, c3, none, 0, [], Z454, b1, ([]), ha.less (less_cons rfl (less_cons rfl less_nil)), hM, (fun w2 h0 => h0), hF⟩
  · rintro k312 a w310 ⟨A297, c298, A304, c305, css306, Z307, b299, b309, ha, hM, hr296, hF⟩
    refine KC.app ha ?_
    clear ha
    cases k312 with
    | zero => exact (none_some hF).elim
    | succ k312 =>
    have hF : F_ip_Options_l1 (F_ip_Options_L1 k312) b299 b309 = some r := hF
    unfold F_ip_Options_l1 at hF
    refine KC.seqH fun Q313 hQ313 => ?_
    refine KC.cut (fun a w331 => ∃ (A325 : Option Addr) (c326 : Nat) (css327 : List (List Value)) (Z328 : List Nat) (t320 : Bool) (t330 : List T_ip_Option), Kn 58 [(0, .func (.yield l27) #[] #[]), (1, .pointer (some ⟨g19, 0, none⟩)), (12, .bool t320)] a ∧ Mem w [] w331 [.res [D28] (DefAt D28), .res [l27] (LoopAt l27 rc25 .ready none), .box g19 22 [.slice A297 (b299).length c298], .box g6 28 [.slice none 0 0], .box g9 25 [.int .i64 0], .row A325 c326 32 2 (t330).length (css327).flatten, .res Z328 (Els RO_ip_Option 2 t330 css327 Z328), .box g13 28 [.slice A325 (t330).length c326]] ∧ F_ip_Options_j1 b299 (F_ip_Options_L1 k312) t320 t330 = some r) ?_ ?_
    · refine KC.region ?_
      refine RL.val (O.load sc22 rfl (Cs.adds [] ((hM.bx (i := 2) rfl)) rfl)) rfl ?_
      refine RL.val (O.len sl22 rfl) rfl ?_
      refine RL.val (O.gtr rfl rfl) rfl ?_
      refine RL.val (O.move rfl) rfl ?_
      refine RL.bcase (t := 7) rfl (fun hc => ?_) (fun hc => ?_)
      · rw [if_pos hc] at hF
        refine RL.gval rfl rfl (O.load sc22 rfl (Cs.adds [] ((hM.bx (i := 2) rfl)) rfl)) rfl ?_
        refine obindE hF fun xv316 hx315 hF => ?_
        have hA314 := Rd.atN (f := (eI .u8)) (s := 1) (fun _ => rfl) (by decide) (hM.inp (hr296 _ hr4) Off.nil) hx315
        refine RL.gval rfl rfl (O.idxA sl22 (hA314) rfl rfl) rfl ?_
        refine RL.gval rfl rfl (O.load sc5 rfl (hA314).cells.at0) rfl ?_
        refine RL.gval rfl rfl (O.gtr rfl rfl) rfl ?_
        refine RL.val (O.pickt rfl rfl) rfl ?_
        refine RL.nil ?_
        refine KQ.then_k ?_
        exact fun a ha => ⟨A304, c305, css306, Z307, (decide (0 < xv316)), b309, ha.less (less_cons rfl (less_cons rfl (less_cons rfl less_nil))), hM, hF⟩
      · rw [if_neg (ne_true hc)] at hF
        refine RL.gskip rfl rfl rfl rfl ?_
        refine RL.gskip rfl rfl rfl rfl ?_
        refine RL.gskip rfl rfl rfl rfl ?_
        refine RL.gskip rfl rfl rfl rfl ?_
        refine RL.val (O.pickf rfl rfl) rfl ?_
        refine RL.nil ?_
        refine KQ.then_k ?_
        exact fun a ha => ⟨A304, c305, css306, Z307, false, b309, ha.less (less_cons rfl (less_cons rfl (less_cons rfl less_nil))), hM, hF⟩
    · rintro a w331 ⟨A325, c326, css327, Z328, t320, t330, ha, hM, hF⟩
      refine KC.app ha ?_
      clear ha
      unfold F_ip_Options_j1 at hF
      refine KC.cond rfl (fun hc => ?_) (fun hc => ?_)
      · rw [if_pos hc] at hF
        refine KC.skip ?_
        refine KQ.thn hQ313 ?_
        clear hQ313 Q313
        refine KC.block ?_
        refine KC.seqH fun Q332 hQ332 => ?_
        refine KC.seqH fun Q333 hQ333 => ?_
        refine KC.region ?_
        refine RL.val (O.load sc22 rfl (Cs.adds [] ((hM.bx (i := 2) rfl)) rfl)) rfl ?_
        refine obindE hF fun xv336 hx335 hF => ?_
        have hA334 := Rd.atN (f := (eI .u8)) (s := 1) (fun _ => rfl) (by decide) (hM.inp (hr296 _ hr4) Off.nil) hx335
        refine RL.val (O.idxA sl22 (hA334) rfl rfl) rfl ?_
        refine RL.val (O.load sc5 rfl (hA334).cells.at0) rfl ?_
        refine RL.val (O.eql rfl rfl) rfl ?_
        refine RL.nil ?_
        refine KQ.thn hQ333 ?_
        clear hQ333 Q333
        refine KC.cond rfl (fun hc => ?_) (fun hc => ?_)
        · rw [if_pos hc] at hF
          refine KC.seqH fun Q337 hQ337 => ?_
          refine KC.region ?_
          refine RL.val (O.load sc22 rfl (Cs.adds [] ((hM.bx (i := 2) rfl)) rfl)) rfl ?_
          refine obindE hF fun cut338 hy339 hF => ?_
          refine cutNE A297 c298 (Int.toNat 1) 1 fun A340 c341 eA343 ec344 => ?_
          have hr342 := Rd.cutT (enc := (eI .u8)) (s := 1) (fun _ => rfl) (hr296 _ hr4) hy339 (m := c298) (by have := (hr296 _ hr4).cap; have := (gcut_some hy339).2.2.1; omega) (Nat.le_refl _)
          rw [← eA343, ← ec344] at hr342
          refine RL.val (v := .slice A340 (cut338).length c341) (by rw [eA343, ec344]; exact O.cutlT sl22 (hM.inp (hr296 _ hr4) Off.nil) hy339 rfl rfl) rfl ?_
          refine RL.effs (E.stB (j := 2) (off := 0) (vs := [.slice A340 (cut338).length c341]) (cs' := [.slice A340 (cut338).length c341]) hM rfl sz22 rfl (adds_eq [] rfl) rfl rfl (One.all rfl) rfl rfl) fun w345 hM1 => ?_
          clear hM
          have hM := hM1
          clear hM1
          refine RL.nil ?_
          refine KQ.thn hQ337 ?_
          clear hQ337 Q337
          refine KC.exit ?_
          refine KQ.thx hQ332 ?_
          clear hQ332 Q332
          refine KQ.blk_x ?_
          refine KQ.then_k ?_
          exact fun a ha => ⟨k312, Nat.lt_succ_self k312, A340, c341, A325, c326, css327, Z328, cut338, t330, ha.less (less_cons rfl (less_cons rfl less_nil)), hM, (fun w2 h0 => by (have g0 := hr296 _ h0; have g1 := Rd.cutT (enc := (eI .u8)) (s := 1) (fun _ => rfl) g0 hy339 (m := c298) (by have := g0.cap; have := (gcut_some hy339).2.2.1; omega) (Nat.le_refl _); rw [← eA343, ← ec344] at g1; exact g1)), hF⟩
        · rw [if_neg (ne_true hc)] at hF
          refine KC.skip ?_
          refine KQ.thn hQ332 ?_
          clear hQ332 Q332
          refine KC.seqH fun Q346 hQ346 => ?_
          refine KC.cut (fun a w367 => ∃ (A361 : Option Addr) (c362 : Nat) (css363 : List (List Value)) (Z364 : List Nat) (t356 : Bool) (t366 : List T_ip_Option), Kn 58 [(0, .func (.yield l27) #[] #[]), (1, .pointer (some ⟨g19, 0, none⟩)), (36, .bool t356)] a ∧ Mem w [] w367 [.res [D28] (DefAt D28), .res [l27] (LoopAt l27 rc25 .ready none), .box g19 22 [.slice A297 (b299).length c298], .box g6 28 [.slice none 0 0], .box g9 25 [.int .i64 0], .row A361 c362 32 2 (t366).length (css363).flatten, .res Z364 (Els RO_ip_Option 2 t366 css363 Z364), .box g13 28 [.slice A361 (t366).length c362]] ∧ F_ip_Options_j2 b299 (F_ip_Options_L1 k312) t356 t366 = some r) ?_ ?_
          · replace hM := hM.drewN 1
            refine KC.draw [] [] [] [1, 2, 3, 7, 8, 9, 11, 15, 16, 17] (.ofList [0, 1, 2, 3, 4, 5, 6, 7, 8, 9, 10, 11, 12, 13, 14, 15, 16, 17]) moP (by kernel_rfl) ?_
            refine RD.q rfl rfl rfl rfl (fun w' hf => O.load sc22 rfl (Cs.adds [] ((hM.bx (i := 2) rfl).fut hf) rfl)) ?_
            refine RD.p rfl rfl rfl rfl (fun w' => O.len sl22 rfl) ?_
            refine RD.p rfl rfl rfl rfl (fun w' => O.lss rfl rfl) ?_
            refine RD.p rfl rfl rfl rfl (fun w' => O.move rfl) ?_
            refine RD.bcase (t := 22) rfl (fun hc => ?_) (fun hc => ?_)
            · rw [if_pos hc] at hF
              refine RD.gskip rfl rfl rfl rfl rfl ?_
              refine RD.gskip rfl rfl rfl rfl rfl ?_
              refine RD.gskip rfl rfl rfl rfl rfl ?_
              refine RD.gskip rfl rfl rfl rfl rfl ?_
              refine RD.p rfl rfl rfl rfl (fun w' => O.pickt rfl rfl) ?_
              refine RD.p rfl rfl rfl rfl (fun w' => O.move rfl) ?_
              refine RD.gskip rfl rfl rfl rfl rfl ?_
              refine RD.gskip rfl rfl rfl rfl rfl ?_
              refine RD.gskip rfl rfl rfl rfl rfl ?_
              refine RD.gskip rfl rfl rfl rfl rfl ?_
              refine RD.gskip rfl rfl rfl rfl rfl ?_
              refine RD.gskip rfl rfl rfl rfl rfl ?_
              refine RD.gskip rfl rfl rfl rfl rfl ?_
              refine RD.p rfl rfl rfl rfl (fun w' => O.pickt rfl rfl) ?_
              refine RD.nil ?_
              refine KQ.then_k ?_
              exact fun a ha => ⟨A325, c326, css327, Z328, true, t330, ha.less (less_cons rfl (less_cons rfl (less_cons rfl less_nil))), hM, hF⟩
            · rw [if_neg (ne_true hc)] at hF
              refine RD.gq rfl rfl rfl rfl rfl rfl (fun w' hf => O.load sc22 rfl (Cs.adds [] ((hM.bx (i := 2) rfl).fut hf) rfl)) ?_
              refine obindE hF fun xv349 hx348 hF => ?_
              have hA347 := Rd.atN (f := (eI .u8)) (s := 1) (fun _ => rfl) (by decide) (hM.inp (hr296 _ hr4) Off.nil) hx348
              refine RD.gq rfl rfl rfl rfl rfl rfl (fun w' hf => O.idxA sl22 (hA347.fut hf) rfl rfl) ?_
              refine RD.gq rfl rfl rfl rfl rfl rfl (fun w' hf => O.load sc5 rfl (hA347.fut hf).cells.at0) ?_
              refine RD.gp rfl rfl rfl rfl rfl rfl (fun w' => O.lss rfl rfl) ?_
              refine RD.p rfl rfl rfl rfl (fun w' => O.pickf rfl rfl) ?_
              refine RD.p rfl rfl rfl rfl (fun w' => O.move rfl) ?_
              refine RD.bcase (t := 28) rfl (fun hc => ?_) (fun hc => ?_)
              · rw [if_pos hc] at hF
                refine RD.gskip rfl rfl rfl rfl rfl ?_
                refine RD.gskip rfl rfl rfl rfl rfl ?_
                refine RD.gskip rfl rfl rfl rfl rfl ?_
                refine RD.gskip rfl rfl rfl rfl rfl ?_
                refine RD.gskip rfl rfl rfl rfl rfl ?_
                refine RD.gskip rfl rfl rfl rfl rfl ?_
                refine RD.gskip rfl rfl rfl rfl rfl ?_
                refine RD.p rfl rfl rfl rfl (fun w' => O.pickt rfl rfl) ?_
                refine RD.nil ?_
                refine KQ.then_k ?_
                exact fun a ha => ⟨A325, c326, css327, Z328, true, t330, ha.less (less_cons rfl (less_cons rfl (less_cons rfl less_nil))), hM, hF⟩
              · rw [if_neg (ne_true hc)] at hF
                refine RD.gq rfl rfl rfl rfl rfl rfl (fun w' hf => O.load sc22 rfl (Cs.adds [] ((hM.bx (i := 2) rfl).fut hf) rfl)) ?_
                refine RD.gp rfl rfl rfl rfl rfl rfl (fun w' => O.len sl22 rfl) ?_
                refine RD.gq rfl rfl rfl rfl rfl rfl (fun w' hf => O.load sc22 rfl (Cs.adds [] ((hM.bx (i := 2) rfl).fut hf) rfl)) ?_
                refine obindE hF fun xv352 hx351 hF => ?_
                have hA350 := Rd.atN (f := (eI .u8)) (s := 1) (fun _ => rfl) (by decide) (hM.inp (hr296 _ hr4) Off.nil) hx351
                refine RD.gq rfl rfl rfl rfl rfl rfl (fun w' hf => O.idxA sl22 (hA350.fut hf) rfl rfl) ?_
                refine RD.gq rfl rfl rfl rfl rfl rfl (fun w' hf => O.load sc5 rfl (hA350.fut hf).cells.at0) ?_
                refine RD.gp rfl rfl rfl rfl rfl rfl (fun w' => O.conv un5 Try.underlying3 rfl) ?_
                refine RD.gp rfl rfl rfl rfl rfl rfl (fun w' => O.lss rfl rfl) ?_
                refine RD.p rfl rfl rfl rfl (fun w' => O.pickf rfl rfl) ?_
                refine RD.nil ?_
                refine KQ.then_k ?_
                exact fun a ha => ⟨A325, c326, css327, Z328, (decide ((b299.length : Int) < (IntKind.i64.wrap xv352))), t330, ha.less (less_cons rfl (less_cons rfl (less_cons rfl less_nil))), hM, hF⟩
          · rintro a w367 ⟨A361, c362, css363, Z364, t356, t366, ha, hM, hF⟩
            refine KC.app ha ?_
            clear ha
            unfold F_ip_Options_j2 at hF
            refine KC.cond rfl (fun hc => ?_) (fun hc => ?_)
            · rw [if_pos hc] at hF
              refine KC.seqH fun Q368 hQ368 => ?_
              refine KC.region ?_
              refine RL.val (O.move rfl) rfl ?_
              refine RL.val (O.bld (cs := [.int .u8 0, .slice none 0 0]) bt32 rfl (by kernel_rfl)) rfl ?_
              refine RL.yield hM (i := 1) rfl ha24 hrc26 rfl rfl rfl rfl rfl ?_
              refine KC.seqH fun Q369 hQ369 => ?_
              refine KC.region ?_
              refine RL.eff (E.alloc hM ze32) rfl fun v w371 hv => ?_
              clear hM
              obtain ⟨g370, rfl, hM, hf⟩ := hv
              refine RL.effs (E.stB (j := 8) (off := 0) (vs := [.int .u8 0, .slice none 0 0]) (cs' := [.int .u8 0, .slice none 0 0]) hM rfl sz32 rfl (adds_eq [] rfl) rfl rfl (One.all rfl) rfl rfl) fun w373 hM1 => ?_
              clear hM
              have hM := hM1
              clear hM1
              refine RL.nil ?_
              refine KQ.thn hQ369 ?_
              clear hQ369 Q369
              refine KC.region ?_
              refine RL.val (O.assign rfl) rfl ?_
              refine RL.nil ?_
              refine KQ.begin hM (i := 1) rfl fun w374 hM1 hf375 => ?_
              clear hM
              have hM := hM1
              clear hM1
              refine KC.block ?_
              refine KC.seqH fun Q376 hQ376 => ?_
              refine KC.seqH fun Q377 hQ377 => ?_
              refine KC.region ?_
              refine RL.val (O.move rfl) rfl ?_
              refine RL.val (O.not rfl) rfl ?_
              refine RL.nil ?_
              refine KQ.thn hQ377 ?_
              clear hQ377 Q377
              refine KC.condT rfl ?_
              refine KC.seqH fun Q378 hQ378 => ?_
              refine KC.region ?_
              refine RL.effs (E.stB (j := 3) (off := 0) (vs := [.slice none 0 0]) (cs' := [.slice none 0 0]) hM rfl sz28 rfl (adds_eq [] rfl) rfl rfl (One.all rfl) rfl rfl) fun w379 hM1 => ?_
              clear hM
              have hM := hM1
              clear hM1
              refine RL.effs (E.stB (j := 4) (off := 0) (vs := [.int .i64 51]) (cs' := [.int .i64 51]) hM rfl sz25 rfl (adds_eq [] rfl) rfl rfl (One.all rfl) rfl rfl) fun w380 hM1 => ?_
              clear hM
              have hM := hM1
              clear hM1
              refine RL.nil ?_
              refine KQ.thn hQ378 ?_
              clear hQ378 Q378
              refine KC.ret ?_
              refine KQ.thr hQ376 ?_
              clear hQ376 Q376
              refine KQ.blk_r ?_
              refine KQ.rret hM (i := 1) rfl fun w381 hM1 hf382 => ?_
              clear hM
              have hM := hM1
              clear hM1
              refine RL.nil ?_
              refine KQ.thn hQ368 ?_
              clear hQ368 Q368
              refine KC.ret ?_
              refine KQ.thr hQ346 ?_
              clear hQ346 Q346
              refine KQ.blk_r ?_
              refine KQ.then_r ?_
              refine KQ.blk_r ?_
              refine KQ.rendRC Try.results47 hM (i := 1) rfl (fun h => by cases h) ha24 fun w383 hM1 hf384 => ?_
              clear hM
              have hM := hM1
              clear hM1
              replace hM := hM.pick [0, 2, 3, 4, 5, 6, 7, 8] rfl (by decide)
              refine KC.ret ?_
              refine KQ.blk_r ?_
              refine KQ.thr hQ16 ?_
              clear hQ16 Q16
              have hE := Option.some.inj hF
              clear hF
              subst hE
              refine KQ.unmark hM (i := 0) rfl fun w385 hM1 => ?_
              clear hM
              have hM := hM1
              clear hM1
              replace hM := hM.pick [1, 2, 3, 4, 5, 6, 7] rfl (by decide)
              have hb386 := hM.bx (i := 1) rfl
              replace hM := hM.nilrow 32 2
              obtain ⟨Z387, hM⟩ := hM.glue [] [0, 1, 2, 3, 4, 5, 6, 7] rfl rfl (by decide) rfl (Els RO_ip_Option 2 ([] : List T_ip_Option) []) (fun Z w1 _ _ => Els.nil)
              have hb388 := hM.bx (i := 2) rfl
              replace hM := hM.pick [7, 8] rfl (by decide)
              refine KQ.retsM Try.results10 (RVs.cons (RV.c1 rfl sc28 hb386.at0) (RVs.cons (RV.c1 rfl sc25 hb388.at0) RVs.nil)) ?_
              exact ⟨_, rfl, none, 0, [], Z387, rfl, hM⟩
            · rw [if_neg (ne_true hc)] at hF
              refine KC.skip ?_
              refine KQ.thn hQ346 ?_
              clear hQ346 Q346
              refine KC.seqH fun Q389 hQ389 => ?_
              refine KC.region ?_
              refine RL.val (O.load sc22 rfl (Cs.adds [] ((hM.bx (i := 2) rfl)) rfl)) rfl ?_
              refine obindE hF fun xv392 hx391 hF => ?_
              have hA390 := Rd.atN (f := (eI .u8)) (s := 1) (fun _ => rfl) (by decide) (hM.inp (hr296 _ hr4) Off.nil) hx391
              refine RL.val (O.idxA sl22 (hA390) rfl rfl) rfl ?_
              refine RL.val (O.load sc5 rfl (hA390).cells.at0) rfl ?_
              refine RL.val (O.conv un5 Try.underlying3 rfl) rfl ?_
              refine RL.val (O.assign rfl) rfl ?_
              refine RL.nil ?_
              refine KQ.thn hQ389 ?_
              clear hQ389 Q389
              refine KC.seqH fun Q393 hQ393 => ?_
              refine KC.seqH fun Q394 hQ394 => ?_
              replace hM := hM.drewN 1
              refine KC.draw [] [9] [7, 9] [0, 5, 6, 10] (.ofList [0, 1, 2, 3, 4, 5, 6, 7, 8, 9, 10]) moP (by kernel_rfl) ?_
              refine RD.p rfl rfl rfl rfl (fun w' => O.move rfl) ?_
              refine RD.q rfl rfl rfl rfl (fun w' hf => O.load sc22 rfl (Cs.adds [] ((hM.bx (i := 2) rfl).fut hf) rfl)) ?_
              refine obindE hF fun xv397 hx396 hF => ?_
              have hA395 := Rd.atN (f := (eI .u8)) (s := 1) (fun _ => rfl) (by decide) (hM.inp (hr296 _ hr4) Off.nil) hx396
              refine RD.q rfl rfl rfl rfl (fun w' hf => O.idxA sl22 (hA395.fut hf) rfl rfl) ?_
              refine RD.q rfl rfl rfl rfl (fun w' hf => O.load sc5 rfl (hA395.fut hf).cells.at0) ?_
              refine RD.q rfl rfl rfl rfl (fun w' hf => O.load sc22 rfl (Cs.adds [] ((hM.bx (i := 2) rfl).fut hf) rfl)) ?_
              refine RD.p rfl rfl rfl rfl (fun w' => O.move rfl) ?_
              refine obindE hF fun cut398 hy399 hF => ?_
              refine cutNE A297 c298 (Int.toNat 2) 1 fun A400 c401 eA403 ec404 => ?_
              have hr402 := Rd.cutT (enc := (eI .u8)) (s := 1) (fun _ => rfl) (hr296 _ hr4) hy399 (m := c298) (by have := (hr296 _ hr4).cap; have := (gcut_some hy399).2.2.1; omega) (Nat.le_refl _)
              rw [← eA403, ← ec404] at hr402
              refine RD.p (v := .slice A400 (cut398).length c401) rfl rfl rfl rfl (fun w' => (by rw [eA403, ec404]; exact O.cutT sl22 (hM.inp (hr296 _ hr4) Off.nil) hy399 rfl rfl rfl)) ?_
              refine obindE hF fun y405 hx406 hF => ?_
              refine RD.mcall rfl rfl trivial Try.func40 bd40 rfl rfl (c_slices_Clone_byte_byte _ _ _ cut398 (hM.inp hr402 Off.nil) _ hx406) fun v w407 hv => ?_
              obtain ⟨A409, c410, rfl, hN408⟩ := hv
              refine ⟨fun _ => hN408.fut, ?_⟩
              replace hM := hM.call hN408
              refine RD.q rfl rfl rfl rfl (fun w' hf => O.bld (cs := [.int .u8 xv397, .slice A409 (y405).length c410]) bt32 rfl (by kernel_rfl)) ?_
              refine RD.myield hM (i := 1) rfl ha24 hrc26 rfl rfl rfl rfl rfl rfl rfl rfl ?_
              refine KC.seqH fun Q412 hQ412 => ?_
              refine KC.region ?_
              refine RL.eff (E.alloc hM ze32) rfl fun v w414 hv => ?_
              clear hM
              obtain ⟨g413, rfl, hM, hf⟩ := hv
              refine RL.effs (E.stB (j := 9) (off := 0) (vs := [.int .u8 xv397, .slice A409 (y405).length c410]) (cs' := [.int .u8 xv397, .slice A409 (y405).length c410]) hM rfl sz32 rfl (adds_eq [] rfl) rfl rfl (One.all rfl) rfl rfl) fun w416 hM1 => ?_
              clear hM
              have hM := hM1
              clear hM1
              refine RL.nil ?_
              refine KQ.thn hQ412 ?_
              clear hQ412 Q412
              refine KC.region ?_
              refine RL.val (O.assign rfl) rfl ?_
              refine RL.nil ?_
              refine KQ.begin hM (i := 1) rfl fun w417 hM1 hf418 => ?_
              clear hM
              have hM := hM1
              clear hM1
              refine KC.block ?_
              refine KC.seqH fun Q419 hQ419 => ?_
              refine KC.seqH fun Q420 hQ420 => ?_
              refine KC.region ?_
              refine RL.val (O.move rfl) rfl ?_
              refine RL.val (O.not rfl) rfl ?_
              refine RL.nil ?_
              refine KQ.thn hQ420 ?_
              clear hQ420 Q420
              refine KC.condF rfl ?_
              refine KC.skip ?_
              refine KQ.thn hQ419 ?_
              clear hQ419 Q419
              refine KC.region ?_
              refine RL.val (O.load sc28 rfl (Cs.adds [] ((hM.bx (i := 7) rfl)) rfl)) rfl ?_
              refine RL.val (O.loadN (cs := [.int .u8 xv397, .slice A409 (y405).length c410]) ag32 rfl (Cs.addsN [] ((hM.bx (i := 9) rfl)) rfl)) rfl ?_
              refine RL.eff (E.bslD (css := ([[.int .u8 xv397, .slice A409 (y405).length c410]] : List (List Value))) hM sl28 ze32 rfl rfl rfl rfl rfl (by kernel_rfl) rfl) rfl fun v w421 hv => ?_
              clear hM
              obtain ⟨A422, rfl, hM, hf⟩ := hv
              have hp426 := (hM.pick [8] rfl (by decide)).sep
              obtain ⟨Z423, hM⟩ := hM.glue [8] [0, 1, 2, 3, 4, 5, 6, 7, 9, 10] rfl rfl (by decide) rfl (Els RO_ip_Option 2 [(T_ip_Option.mk xv397 y405)] ([[.int .u8 xv397, .slice A409 (y405).length c410]] : List (List Value))) (fun Z w1 ho hz => Els.lit (El3.cons rfl ⟨A409, c410, rfl, rfl⟩ El3.nil) rfl ho hz hp426)
              refine cut_someE hF fun hq430 hF => ?_
              refine RL.eff (E.appD (xs := t366) (ys := [(T_ip_Option.mk xv397 y405)]) (css := css363) (cs2 := ([[.int .u8 xv397, .slice A409 (y405).length c410]] : List (List Value))) (j := 5) hM rfl sl28 ze32 rfl rfl rfl rfl rfl (hM.rd (i := 9) rfl) (One.all rfl) (of_decide_eq_true hq430)) rfl fun v w429 hv => ?_
              clear hM
              obtain ⟨A427, c428, rfl, hM, hf⟩ := hv
              have hp432 := hM.sep
              obtain ⟨Z431, hM⟩ := hM.glue [6, 10] [0, 1, 2, 3, 4, 5, 7, 8] rfl rfl (by decide) rfl (Els RO_ip_Option 2 (t366 ++ [(T_ip_Option.mk xv397 y405)]) (css363 ++ ([[.int .u8 xv397, .slice A409 (y405).length c410]] : List (List Value)))) (fun Z w1 ho hz => Els.app (Ob.res_φ (ho 0 _ rfl)) (Ob.res_φ (ho 1 _ rfl)) (fun g hg => hz 0 _ g rfl (Ob.has_res.2 hg)) (fun g hg => hz 1 _ g rfl (Ob.has_res.2 hg)) (fun g h1 h2 => absurd (hp432 6 10 _ _ g rfl rfl (Ob.has_res.2 h1) (Ob.has_res.2 h2)) (by decide)))
              refine RL.effs (E.stB (j := 6) (off := 0) (vs := [.slice A427 ((t366 ++ [(T_ip_Option.mk xv397 y405)])).length c428]) (cs' := [.slice A427 ((t366 ++ [(T_ip_Option.mk xv397 y405)])).length c428]) hM rfl sz28 rfl (adds_eq [] rfl) rfl rfl (One.all rfl) rfl rfl) fun w435 hM1 => ?_
              clear hM
              have hM := hM1
              clear hM1
              refine RL.nil ?_
              refine KQ.blk_n ?_
              refine KQ.rnorm hM (i := 1) rfl fun w436 hM1 hf437 => ?_
              clear hM
              have hM := hM1
              clear hM1
              refine RD.p rfl rfl rfl rfl (fun w' => O.not rfl) ?_
              refine RD.nil ?_
              refine KQ.thn hQ394 ?_
              clear hQ394 Q394
              replace hM := hM.pick [0, 1, 2, 3, 4, 5, 6, 8] rfl (by decide)
              refine KC.condF rfl ?_
              refine KC.skip ?_
              refine KQ.thn hQ393 ?_
              clear hQ393 Q393
              refine KC.region ?_
              refine RL.val (O.load sc22 rfl (Cs.adds [] ((hM.bx (i := 2) rfl)) rfl)) rfl ?_
              refine RL.val (O.move rfl) rfl ?_
              refine obindE hF fun cut438 hy439 hF => ?_
              refine cutNE A297 c298 (Int.toNat (IntKind.i64.wrap xv392)) 1 fun A440 c441 eA443 ec444 => ?_
              have hr442 := Rd.cutT (enc := (eI .u8)) (s := 1) (fun _ => rfl) (hr296 _ hr4) hy439 (m := c298) (by have := (hr296 _ hr4).cap; have := (gcut_some hy439).2.2.1; omega) (Nat.le_refl _)
              rw [← eA443, ← ec444] at hr442
              refine RL.val (v := .slice A440 (cut438).length c441) (by rw [eA443, ec444]; exact O.cutlT sl22 (hM.inp (hr296 _ hr4) Off.nil) hy439 rfl rfl) rfl ?_
              refine RL.effs (E.stB (j := 2) (off := 0) (vs := [.slice A440 (cut438).length c441]) (cs' := [.slice A440 (cut438).length c441]) hM rfl sz22 rfl (adds_eq [] rfl) rfl rfl (One.all rfl) rfl rfl) fun w445 hM1 => ?_
              clear hM
              have hM := hM1
              clear hM1
              refine RL.nil ?_
              refine KQ.blk_n ?_
              refine KQ.then_k ?_
              replace hM := hM.pick [0, 1, 2, 3, 4, 5, 7, 6] rfl (by decide)
              exact fun a ha => ⟨k312, Nat.lt_succ_self k312, A440, c441, A427, c428, (css363 ++ ([[.int .u8 xv397, .slice A409 (y405).length c410]] : List (List Value))), Z431, cut438, (t366 ++ [(T_ip_Option.mk xv397 y405)]), ha.less (less_cons rfl (less_cons rfl less_nil)), hM, (fun w2 h0 => by (have g0 := hr296 _ h0; have g1 := Rd.cutT (enc := (eI .u8)) (s := 1) (fun _ => rfl) g0 hy439 (m := c298) (by have := g0.cap; have := (gcut_some hy439).2.2.1; omega) (Nat.le_refl _); rw [← eA443, ← ec444] at g1; exact g1)), hF⟩
      · rw [if_neg (ne_true hc)] at hF
        refine KC.exit ?_
        refine KQ.thx hQ313 ?_
        clear hQ313 Q313
        refine KQ.then_x ?_
        refine KQ.blk_x ?_
        refine KQ.rendN Try.results47 hM (i := 1) rfl (fun h => by cases h) ha24 fun w446 hM1 hf447 => ?_
        clear hM
        have hM := hM1
        clear hM1
        replace hM := hM.pick [0, 2, 3, 4, 5, 6, 7] rfl (by decide)
        refine KQ.blk_n ?_
        refine KQ.thn hQ16 ?_
        clear hQ16 Q16
        replace hM := hM.pick [0, 2, 3, 4, 5, 6] rfl (by decide)
        refine KC.seqH fun Q448 hQ448 => ?_
        refine KC.region ?_
        refine RL.val (O.load sc28 rfl (Cs.adds [] ((hM.bx (i := 5) rfl)) rfl)) rfl ?_
        refine RL.effs (E.stB (j := 1) (off := 0) (vs := [.slice A325 (t330).length c326]) (cs' := [.slice A325 (t330).length c326]) hM rfl sz28 rfl (adds_eq [] rfl) rfl rfl (One.all rfl) rfl rfl) fun w449 hM1 => ?_
        clear hM
        have hM := hM1
        clear hM1
        refine RL.effs (E.stB (j := 2) (off := 0) (vs := [.int .i64 0]) (cs' := [.int .i64 0]) hM rfl sz25 rfl (adds_eq [] rfl) rfl rfl (One.all rfl) rfl rfl) fun w450 hM1 => ?_
        clear hM
        have hM := hM1
        clear hM1
        refine RL.nil ?_
        refine KQ.thn hQ448 ?_
        clear hQ448 Q448
        refine KC.ret ?_
        have hE := Option.some.inj hF
        clear hF
        subst hE
        refine KQ.unmark hM (i := 0) rfl fun w451 hM1 => ?_
        clear hM
        have hM := hM1
        clear hM1
        replace hM := hM.pick [1, 2, 3, 4, 5] rfl (by decide)
        have hb452 := hM.bx (i := 0) rfl
        have hb453 := hM.bx (i := 1) rfl
        replace hM := hM.pick [2, 3] rfl (by decide)
        refine KQ.retsM Try.results10 (RVs.cons (RV.c1 rfl sc28 hb452.at0) (RVs.cons (RV.c1 rfl sc25 hb453.at0) RVs.nil)) ?_
        exact ⟨_, rfl, A325, c326, css327, Z328, rfl, hM⟩
set_option maxRecDepth 100000 in
set_option maxHeartbeats 40000000 in
theorem c_ref01_Same (w : World) (A2 : Option Addr) (c3 : Nat) (av1 : List Int) (hr4 : Rd w A2 c3 1 av1.length (av1.flatMap (eI .u8))) (A6 : Option Addr) (c7 : Nat) (b5 : List Int) (hr8 : Rd w A6 c7 1 b5.length (b5.flatMap (eI .u8))) (r : Bool) (hF : F_ref01_Same av1 b5 = some r) :
    CallsR Try.prog 14 [.slice A2 (av1).length c3, .slice A6 (b5).length c7] w (fun v w' => v = .bool r ∧ Mem w [] w' []) := by
  refine calls_KC Try.func14 rfl Try.ntmps14 rfl ?_
  have hM := Mem.init w
  unfold F_ref01_Same at hF
  refine KC.seqH fun Q9 hQ9 => ?_
  refine KC.region ?_
  refine RL.val (O.assign rfl) rfl ?_
  refine RL.nil ?_
  refine KQ.thn hQ9 ?_
  clear hQ9 Q9
  refine KC.seqH fun Q10 hQ10 => ?_
  refine KC.region ?_
  refine RL.val (O.move rfl) rfl ?_
  refine RL.val (O.b2s sl22 Try.underlying5 Try.underlying9 rfl ((hM.inp hr4 Off.nil))) rfl ?_
  refine RL.val (O.move rfl) rfl ?_
  refine RL.val (O.b2s sl22 Try.underlying5 Try.underlying9 rfl ((hM.inp hr8 Off.nil))) rfl ?_
  refine RL.val (O.streq rfl rfl) rfl ?_
  refine RL.val (O.assign rfl) rfl ?_
  refine RL.nil ?_
  refine KQ.thn hQ10 ?_
  clear hQ10 Q10
  refine KC.ret ?_
  have hE := Option.some.inj hF
  clear hF
  subst hE
  refine KQ.rets Try.results14 (RVs.cons (RV.tm rfl) RVs.nil) ?_
  exact ⟨_, rfl, rfl, hM⟩
end Go.Proofs.Ytjfdfjmnajjjaaa
