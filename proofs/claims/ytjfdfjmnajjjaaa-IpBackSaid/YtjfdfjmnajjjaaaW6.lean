/- Printed by a program of this claim: each call returns what the plain function of its name gives. -/
import Derived.Test.YtjfdfjmnajjjaaaW1
import Derived.Test.YtjfdfjmnajjjaaaW2
set_option linter.unusedVariables false
namespace Go.Proofs.Ytjfdfjmnajjjaaa
open Go Go.Ox Go.RowKit
set_option maxRecDepth 100000 in
set_option maxHeartbeats 40000000 in
theorem c_ip_Options (w : World) (A2 : Option Addr) (c3 : Nat) (b1 : List Int) (hr4 : Rd w A2 c3 1 b1.length (b1.flatMap (eI .u8))) (r : (List T_ip_Option) × Int) (hF : F_ip_Options b1 = some r) :
    CallsR Try.prog 10 [.slice A2 (b1).length c3] w (fun v w' => ∃ (A0 : Option Addr) (c0 : Nat) (css1 : List (List Value)) (Z1 : List Nat), v = .tuple #[.slice A0 (r.1).length c0, .int .i64 r.2] ∧ Mem w [] w' [.row A0 c0 32 2 r.1.length css1.flatten, .res Z1 (Els RO_ip_Option 2 r.1 css1 Z1)]) := by
  refine calls_KCM Try.func10 rfl Try.ntmps10 rfl ?_
  have hM := Mem.init w
  unfold F_ip_Options at hF
  refine KC.seq ?_
  refine KC.region ?_
  refine RL.eff (E.alloc hM ze28) rfl fun v w6 hv => ?_
  clear hM
  obtain ⟨g5, rfl, hM, hf⟩ := hv
  refine RL.eff (E.alloc hM ze25) rfl fun v w9 hv => ?_
  clear hM
  obtain ⟨g8, rfl, hM, hf⟩ := hv
  refine RL.nil ?_
  refine KQ.then_n ?_
  refine KC.seq ?_
  refine KC.region ?_
  refine RL.eff (E.alloc hM ze28) rfl fun v w12 hv => ?_
  clear hM
  obtain ⟨g11, rfl, hM, hf⟩ := hv
  refine RL.nil ?_
  refine KQ.then_n ?_
  refine KC.seq ?_
  refine KC.seq ?_
  refine KC.region ?_
  refine RL.val (O.move rfl) rfl ?_
  refine RL.icall Try.func27 bd27 rfl rfl rfl Try.ntmps27 rfl ?_
  refine KC.seq ?_
  refine KC.region ?_
  refine RL.eff (E.box (vs := [.slice A2 (b1).length c3]) hM rfl rfl) rfl fun v w15 hv => ?_
  clear hM
  obtain ⟨g14, rfl, hM, hf⟩ := hv
  refine RL.val (O.assign rfl) rfl ?_
  refine RL.nil ?_
  refine KQ.then_n ?_
  refine KC.seq ?_
  refine KC.region ?_
  refine RL.val (O.mkf rfl rfl) rfl ?_
  refine RL.val (O.assign rfl) rfl ?_
  refine RL.nil ?_
  refine KQ.then_n ?_
  refine KC.ret ?_
  refine KQ.rets Try.results27 (RVs.cons (RV.tm rfl) RVs.nil) ?_
  refine ⟨.func (.func 47) #[] #[.pointer (some ⟨g14, 0, none⟩)], rfl, ?_⟩
  refine RL.nil ?_
  refine KQ.then_n ?_
  refine KC.block ?_
  refine KC.range (lb := [.pointer (some ⟨g14, 0, none⟩)]) hM rfl Try.func47 bd47 rfl Try.ntmps47 rfl fun a17 rc19 l21 D22 w23 ha18 hrc20 hM1 hf24 => ?_
  clear hM
  have hM := hM1
  clear hM1
  refine KC.block ?_
  refine KC.loop (fun k274 a w272 => ∃ (A259 : Option Addr) (c260 : Nat) (A266 : Option Addr) (c267 : Nat) (css268 : List (List Value)) (Z269 : List Nat) (b261 : List Int) (b271 : List T_ip_Option), Kn 58 [(0, .func (.yield l21) #[] #[]), (1, .pointer (some ⟨g14, 0, none⟩))] a ∧ Mem w [] w272 [.res [D22] (DefAt D22), .res [l21] (LoopAt l21 rc19 .ready none), .box g14 22 [.slice A259 (b261).length c260], .box g5 28 [.slice none 0 0], .box g8 25 [.int .i64 0], .row A266 c267 32 2 (b271).length (css268).flatten, .res Z269 (Els RO_ip_Option 2 b271 css268 Z269), .box g11 28 [.slice A266 (b271).length c267]] ∧ (∀ w2, Rd w2 A2 c3 1 b1.length (b1.flatMap (eI .u8)) → Rd w2 A259 c260 1 b261.length (b261.flatMap (eI .u8))) ∧ F_ip_Options_L1 k274 b261 b271 = some r) ?_ ?_
  · replace hM := hM.nilrow 32 2
    obtain ⟨Z399, hM⟩ := hM.glue [] [0, 1, 2, 3, 4, 5, 6] rfl rfl (by decide) rfl (Els RO_ip_Option 2 ([] : List T_ip_Option) []) (fun Z w1 _ _ => Els.nil)
    replace hM := hM.pick [4, 5, 3, 0, 1, 6, 7, 2] rfl (by decide)
    exact fun a ha => ⟨fuel0, A2, c3, none, 0, [], Z399, b1, ([]), ha.less (less_cons rfl (less_cons rfl less_nil)), hM, (fun w2 h0 => h0), hF⟩
  · rintro k274 a w272 ⟨A259, c260, A266, c267, css268, Z269, b261, b271, ha, hM, hr258, hF⟩
    refine KC.app ha ?_
    clear ha
    cases k274 with
    | zero => exact (none_some hF).elim
    | succ k274 =>
    have hF : F_ip_Options_l1 (F_ip_Options_L1 k274) b261 b271 = some r := hF
    unfold F_ip_Options_l1 at hF
    refine KC.seq ?_
    refine KC.cut (fun a w292 => ∃ (A286 : Option Addr) (c287 : Nat) (css288 : List (List Value)) (Z289 : List Nat) (t281 : Bool) (t291 : List T_ip_Option), Kn 58 [(0, .func (.yield l21) #[] #[]), (1, .pointer (some ⟨g14, 0, none⟩)), (12, .bool t281)] a ∧ Mem w [] w292 [.res [D22] (DefAt D22), .res [l21] (LoopAt l21 rc19 .ready none), .box g14 22 [.slice A259 (b261).length c260], .box g5 28 [.slice none 0 0], .box g8 25 [.int .i64 0], .row A286 c287 32 2 (t291).length (css288).flatten, .res Z289 (Els RO_ip_Option 2 t291 css288 Z289), .box g11 28 [.slice A286 (t291).length c287]] ∧ F_ip_Options_j1 b261 (F_ip_Options_L1 k274) t281 t291 = some r) ?_ ?_
    · refine KC.region ?_
      refine RL.val (O.load sc22 rfl (Cs.adds [] ((hM.bx (i := 2) rfl)) rfl)) rfl ?_
      refine RL.val (O.len sl22 rfl) rfl ?_
      refine RL.val (O.gtr rfl rfl) rfl ?_
      refine RL.val (O.move rfl) rfl ?_
      refine RL.bcase (t := 7) rfl (fun hc => ?_) (fun hc => ?_)
      · rw [if_pos hc] at hF
        refine RL.gval rfl rfl (O.load sc22 rfl (Cs.adds [] ((hM.bx (i := 2) rfl)) rfl)) rfl ?_
        refine obindE hF fun xv277 hx276 hF => ?_
        have hA275 := Rd.atN (f := (eI .u8)) (s := 1) (fun _ => rfl) (by decide) (hM.inp (hr258 _ hr4) Off.nil) hx276
        refine RL.gval rfl rfl (O.idxA sl22 (hA275) rfl rfl) rfl ?_
        refine RL.gval rfl rfl (O.load sc5 rfl (hA275).cells.at0) rfl ?_
        refine RL.gval rfl rfl (O.gtr rfl rfl) rfl ?_
        refine RL.val (O.pickt rfl rfl) rfl ?_
        refine RL.nil ?_
        refine KQ.then_k ?_
        exact fun a ha => ⟨A266, c267, css268, Z269, (decide (0 < xv277)), b271, ha.less (less_cons rfl (less_cons rfl (less_cons rfl less_nil))), hM, hF⟩
      · rw [if_neg (ne_true hc)] at hF
        refine RL.gskip rfl rfl rfl rfl ?_
        refine RL.gskip rfl rfl rfl rfl ?_
        refine RL.gskip rfl rfl rfl rfl ?_
        refine RL.gskip rfl rfl rfl rfl ?_
        refine RL.val (O.pickf rfl rfl) rfl ?_
        refine RL.nil ?_
        refine KQ.then_k ?_
        exact fun a ha => ⟨A266, c267, css268, Z269, false, b271, ha.less (less_cons rfl (less_cons rfl (less_cons rfl less_nil))), hM, hF⟩
    · rintro a w292 ⟨A286, c287, css288, Z289, t281, t291, ha, hM, hF⟩
      refine KC.app ha ?_
      clear ha
      unfold F_ip_Options_j1 at hF
      refine KC.cond rfl (fun hc => ?_) (fun hc => ?_)
      · rw [if_pos hc] at hF
        refine KC.skip ?_
        refine KQ.then_n ?_
        refine KC.block ?_
        refine KC.seq ?_
        refine KC.seq ?_
        refine KC.region ?_
        refine RL.val (O.load sc22 rfl (Cs.adds [] ((hM.bx (i := 2) rfl)) rfl)) rfl ?_
        refine obindE hF fun xv295 hx294 hF => ?_
        have hA293 := Rd.atN (f := (eI .u8)) (s := 1) (fun _ => rfl) (by decide) (hM.inp (hr258 _ hr4) Off.nil) hx294
        refine RL.val (O.idxA sl22 (hA293) rfl rfl) rfl ?_
        refine RL.val (O.load sc5 rfl (hA293).cells.at0) rfl ?_
        refine RL.val (O.eql rfl rfl) rfl ?_
        refine RL.nil ?_
        refine KQ.then_n ?_
        refine KC.cond rfl (fun hc => ?_) (fun hc => ?_)
        · rw [if_pos hc] at hF
          refine KC.seq ?_
          refine KC.region ?_
          refine RL.val (O.load sc22 rfl (Cs.adds [] ((hM.bx (i := 2) rfl)) rfl)) rfl ?_
          refine obindE hF fun cut296 hy297 hF => ?_
          obtain ⟨A298, c299, eA301, ec302⟩ := cutN A259 c260 (Int.toNat 1) 1
          have hr300 := Rd.cutT (enc := (eI .u8)) (s := 1) (fun _ => rfl) (hr258 _ hr4) hy297 (m := c260) (by have := (hr258 _ hr4).cap; have := (gcut_some hy297).2.2.1; omega) (Nat.le_refl _)
          rw [← eA301, ← ec302] at hr300
          refine RL.val (v := .slice A298 (cut296).length c299) (by rw [eA301, ec302]; exact O.cutlT sl22 (hM.inp (hr258 _ hr4) Off.nil) hy297 rfl rfl) rfl ?_
          refine RL.effs (E.stB (j := 2) (off := 0) (vs := [.slice A298 (cut296).length c299]) (cs' := [.slice A298 (cut296).length c299]) hM rfl sz22 rfl (adds_eq [] rfl) rfl rfl (One.all rfl) rfl rfl) fun w303 hM1 => ?_
          clear hM
          have hM := hM1
          clear hM1
          refine RL.nil ?_
          refine KQ.then_n ?_
          refine KC.exit ?_
          refine KQ.then_x ?_
          refine KQ.blk_x ?_
          refine KQ.then_k ?_
          exact fun a ha => ⟨k274, Nat.lt_succ_self k274, A298, c299, A286, c287, css288, Z289, cut296, t291, ha.less (less_cons rfl (less_cons rfl less_nil)), hM, (fun w2 h0 => by (have g0 := hr258 _ h0; have g1 := Rd.cutT (enc := (eI .u8)) (s := 1) (fun _ => rfl) g0 hy297 (m := c260) (by have := g0.cap; have := (gcut_some hy297).2.2.1; omega) (Nat.le_refl _); rw [← eA301, ← ec302] at g1; exact g1)), hF⟩
        · rw [if_neg (ne_true hc)] at hF
          refine KC.skip ?_
          refine KQ.then_n ?_
          refine KC.seq ?_
          refine KC.cut (fun a w324 => ∃ (A318 : Option Addr) (c319 : Nat) (css320 : List (List Value)) (Z321 : List Nat) (t313 : Bool) (t323 : List T_ip_Option), Kn 58 [(0, .func (.yield l21) #[] #[]), (1, .pointer (some ⟨g14, 0, none⟩)), (36, .bool t313)] a ∧ Mem w [] w324 [.res [D22] (DefAt D22), .res [l21] (LoopAt l21 rc19 .ready none), .box g14 22 [.slice A259 (b261).length c260], .box g5 28 [.slice none 0 0], .box g8 25 [.int .i64 0], .row A318 c319 32 2 (t323).length (css320).flatten, .res Z321 (Els RO_ip_Option 2 t323 css320 Z321), .box g11 28 [.slice A318 (t323).length c319]] ∧ F_ip_Options_j2 b261 (F_ip_Options_L1 k274) t313 t323 = some r) ?_ ?_
          · replace hM := hM.drewN 1
            refine KC.draw [] [] [] [1, 2, 3, 7, 8, 9, 11, 15, 16, 17] (.ofList [0, 1, 2, 3, 4, 5, 6, 7, 8, 9, 10, 11, 12, 13, 14, 15, 16, 17]) moP (by kernel_rfl) ?_
            refine RD.q rfl rfl rfl rfl (fun w' hf => O.load sc22 rfl (Cs.adds [] ((hM.bx (i := 2) rfl).fut hf) rfl)) ?_
            refine RD.p rfl rfl rfl rfl (fun w' => O.len sl22 rfl) ?_
            refine RD.p rfl rfl rfl rfl (fun w' => O.lss rfl rfl) ?_
            refine RD.p rfl rfl rfl rfl (fun w' => O.move rfl) ?_
            refine RD.bcase (t := 22) rfl (fun hc => ?_) (fun hc => ?_)
            · rw [if_pos hc] at hF
              refine RD.gskip rfl rfl rfl rfl rfl ?_
              refine RD.gskip rfl rfl rfl rfl rfl ?_
              refine RD.gskip rfl rfl rfl rfl rfl ?_
              refine RD.gskip rfl rfl rfl rfl rfl ?_
              refine RD.p rfl rfl rfl rfl (fun w' => O.pickt rfl rfl) ?_
              refine RD.p rfl rfl rfl rfl (fun w' => O.move rfl) ?_
              refine RD.gskip rfl rfl rfl rfl rfl ?_
              refine RD.gskip rfl rfl rfl rfl rfl ?_
              refine RD.gskip rfl rfl rfl rfl rfl ?_
              refine RD.gskip rfl rfl rfl rfl rfl ?_
              refine RD.gskip rfl rfl rfl rfl rfl ?_
              refine RD.gskip rfl rfl rfl rfl rfl ?_
              refine RD.gskip rfl rfl rfl rfl rfl ?_
              refine RD.p rfl rfl rfl rfl (fun w' => O.pickt rfl rfl) ?_
              refine RD.nil ?_
              refine KQ.then_k ?_
              exact fun a ha => ⟨A286, c287, css288, Z289, true, t291, ha.less (less_cons rfl (less_cons rfl (less_cons rfl less_nil))), hM, hF⟩
            · rw [if_neg (ne_true hc)] at hF
              refine RD.gq rfl rfl rfl rfl rfl rfl (fun w' hf => O.load sc22 rfl (Cs.adds [] ((hM.bx (i := 2) rfl).fut hf) rfl)) ?_
              refine obindE hF fun xv306 hx305 hF => ?_
              have hA304 := Rd.atN (f := (eI .u8)) (s := 1) (fun _ => rfl) (by decide) (hM.inp (hr258 _ hr4) Off.nil) hx305
              refine RD.gq rfl rfl rfl rfl rfl rfl (fun w' hf => O.idxA sl22 (hA304.fut hf) rfl rfl) ?_
              refine RD.gq rfl rfl rfl rfl rfl rfl (fun w' hf => O.load sc5 rfl (hA304.fut hf).cells.at0) ?_
              refine RD.gp rfl rfl rfl rfl rfl rfl (fun w' => O.lss rfl rfl) ?_
              refine RD.p rfl rfl rfl rfl (fun w' => O.pickf rfl rfl) ?_
              refine RD.p rfl rfl rfl rfl (fun w' => O.move rfl) ?_
              refine RD.bcase (t := 28) rfl (fun hc => ?_) (fun hc => ?_)
              · rw [if_pos hc] at hF
                refine RD.gskip rfl rfl rfl rfl rfl ?_
                refine RD.gskip rfl rfl rfl rfl rfl ?_
                refine RD.gskip rfl rfl rfl rfl rfl ?_
                refine RD.gskip rfl rfl rfl rfl rfl ?_
                refine RD.gskip rfl rfl rfl rfl rfl ?_
                refine RD.gskip rfl rfl rfl rfl rfl ?_
                refine RD.gskip rfl rfl rfl rfl rfl ?_
                refine RD.p rfl rfl rfl rfl (fun w' => O.pickt rfl rfl) ?_
                refine RD.nil ?_
                refine KQ.then_k ?_
                exact fun a ha => ⟨A286, c287, css288, Z289, true, t291, ha.less (less_cons rfl (less_cons rfl (less_cons rfl less_nil))), hM, hF⟩
              · rw [if_neg (ne_true hc)] at hF
                refine RD.gq rfl rfl rfl rfl rfl rfl (fun w' hf => O.load sc22 rfl (Cs.adds [] ((hM.bx (i := 2) rfl).fut hf) rfl)) ?_
                refine RD.gp rfl rfl rfl rfl rfl rfl (fun w' => O.len sl22 rfl) ?_
                refine RD.gq rfl rfl rfl rfl rfl rfl (fun w' hf => O.load sc22 rfl (Cs.adds [] ((hM.bx (i := 2) rfl).fut hf) rfl)) ?_
                refine obindE hF fun xv309 hx308 hF => ?_
                have hA307 := Rd.atN (f := (eI .u8)) (s := 1) (fun _ => rfl) (by decide) (hM.inp (hr258 _ hr4) Off.nil) hx308
                refine RD.gq rfl rfl rfl rfl rfl rfl (fun w' hf => O.idxA sl22 (hA307.fut hf) rfl rfl) ?_
                refine RD.gq rfl rfl rfl rfl rfl rfl (fun w' hf => O.load sc5 rfl (hA307.fut hf).cells.at0) ?_
                refine RD.gp rfl rfl rfl rfl rfl rfl (fun w' => O.conv un5 Try.underlying3 rfl) ?_
                refine RD.gp rfl rfl rfl rfl rfl rfl (fun w' => O.lss rfl rfl) ?_
                refine RD.p rfl rfl rfl rfl (fun w' => O.pickf rfl rfl) ?_
                refine RD.nil ?_
                refine KQ.then_k ?_
                exact fun a ha => ⟨A286, c287, css288, Z289, (decide ((b261.length : Int) < (IntKind.i64.wrap xv309))), t291, ha.less (less_cons rfl (less_cons rfl (less_cons rfl less_nil))), hM, hF⟩
          · rintro a w324 ⟨A318, c319, css320, Z321, t313, t323, ha, hM, hF⟩
            refine KC.app ha ?_
            clear ha
            unfold F_ip_Options_j2 at hF
            refine KC.cond rfl (fun hc => ?_) (fun hc => ?_)
            · rw [if_pos hc] at hF
              refine KC.seq ?_
              refine KC.region ?_
              refine RL.val (O.move rfl) rfl ?_
              refine RL.val (O.bld (cs := [.int .u8 0, .slice none 0 0]) bt32 rfl (by kernel_rfl)) rfl ?_
              refine RL.yield hM (i := 1) rfl ha18 hrc20 rfl rfl rfl rfl rfl ?_
              refine KC.seq ?_
              refine KC.region ?_
              refine RL.eff (E.alloc hM ze32) rfl fun v w326 hv => ?_
              clear hM
              obtain ⟨g325, rfl, hM, hf⟩ := hv
              refine RL.effs (E.stB (j := 8) (off := 0) (vs := [.int .u8 0, .slice none 0 0]) (cs' := [.int .u8 0, .slice none 0 0]) hM rfl sz32 rfl (adds_eq [] rfl) rfl rfl (One.all rfl) rfl rfl) fun w328 hM1 => ?_
              clear hM
              have hM := hM1
              clear hM1
              refine RL.nil ?_
              refine KQ.then_n ?_
              refine KC.region ?_
              refine RL.val (O.assign rfl) rfl ?_
              refine RL.nil ?_
              refine KQ.begin hM (i := 1) rfl fun w329 hM1 hf330 => ?_
              clear hM
              have hM := hM1
              clear hM1
              refine KC.block ?_
              refine KC.seq ?_
              refine KC.seq ?_
              refine KC.region ?_
              refine RL.val (O.move rfl) rfl ?_
              refine RL.val (O.not rfl) rfl ?_
              refine RL.nil ?_
              refine KQ.then_n ?_
              refine KC.condT rfl ?_
              refine KC.seq ?_
              refine KC.region ?_
              refine RL.effs (E.stB (j := 3) (off := 0) (vs := [.slice none 0 0]) (cs' := [.slice none 0 0]) hM rfl sz28 rfl (adds_eq [] rfl) rfl rfl (One.all rfl) rfl rfl) fun w331 hM1 => ?_
              clear hM
              have hM := hM1
              clear hM1
              refine RL.effs (E.stB (j := 4) (off := 0) (vs := [.int .i64 51]) (cs' := [.int .i64 51]) hM rfl sz25 rfl (adds_eq [] rfl) rfl rfl (One.all rfl) rfl rfl) fun w332 hM1 => ?_
              clear hM
              have hM := hM1
              clear hM1
              refine RL.nil ?_
              refine KQ.then_n ?_
              refine KC.ret ?_
              refine KQ.then_r ?_
              refine KQ.blk_r ?_
              refine KQ.rret hM (i := 1) rfl fun w333 hM1 hf334 => ?_
              clear hM
              have hM := hM1
              clear hM1
              refine RL.nil ?_
              refine KQ.then_n ?_
              refine KC.ret ?_
              refine KQ.then_r ?_
              refine KQ.blk_r ?_
              refine KQ.then_r ?_
              refine KQ.blk_r ?_
              refine KQ.rendRC Try.results47 hM (i := 1) rfl (fun h => by cases h) ha18 fun w335 hM1 hf336 => ?_
              clear hM
              have hM := hM1
              clear hM1
              replace hM := hM.pick [0, 2, 3, 4, 5, 6, 7, 8] rfl (by decide)
              refine KC.ret ?_
              refine KQ.blk_r ?_
              refine KQ.then_r ?_
              have hE := Option.some.inj hF
              clear hF
              subst hE
              refine KQ.unmark hM (i := 0) rfl fun w337 hM1 => ?_
              clear hM
              have hM := hM1
              clear hM1
              replace hM := hM.pick [1, 2, 3, 4, 5, 6, 7] rfl (by decide)
              have hb338 := hM.bx (i := 1) rfl
              replace hM := hM.nilrow 32 2
              obtain ⟨Z339, hM⟩ := hM.glue [] [0, 1, 2, 3, 4, 5, 6, 7] rfl rfl (by decide) rfl (Els RO_ip_Option 2 ([] : List T_ip_Option) []) (fun Z w1 _ _ => Els.nil)
              have hb340 := hM.bx (i := 2) rfl
              replace hM := hM.pick [7, 8] rfl (by decide)
              refine KQ.retsM Try.results10 (RVs.cons (RV.c1 rfl sc28 hb338.at0) (RVs.cons (RV.c1 rfl sc25 hb340.at0) RVs.nil)) ?_
              exact ⟨_, rfl, none, 0, [], Z339, rfl, hM⟩
            · rw [if_neg (ne_true hc)] at hF
              refine KC.skip ?_
              refine KQ.then_n ?_
              refine KC.seq ?_
              refine KC.region ?_
              refine RL.val (O.load sc22 rfl (Cs.adds [] ((hM.bx (i := 2) rfl)) rfl)) rfl ?_
              refine obindE hF fun xv343 hx342 hF => ?_
              have hA341 := Rd.atN (f := (eI .u8)) (s := 1) (fun _ => rfl) (by decide) (hM.inp (hr258 _ hr4) Off.nil) hx342
              refine RL.val (O.idxA sl22 (hA341) rfl rfl) rfl ?_
              refine RL.val (O.load sc5 rfl (hA341).cells.at0) rfl ?_
              refine RL.val (O.conv un5 Try.underlying3 rfl) rfl ?_
              refine RL.val (O.assign rfl) rfl ?_
              refine RL.nil ?_
              refine KQ.then_n ?_
              refine KC.seq ?_
              refine KC.seq ?_
              replace hM := hM.drewN 1
              refine KC.draw [] [9] [7, 9] [0, 5, 6, 10] (.ofList [0, 1, 2, 3, 4, 5, 6, 7, 8, 9, 10]) moP (by kernel_rfl) ?_
              refine RD.p rfl rfl rfl rfl (fun w' => O.move rfl) ?_
              refine RD.q rfl rfl rfl rfl (fun w' hf => O.load sc22 rfl (Cs.adds [] ((hM.bx (i := 2) rfl).fut hf) rfl)) ?_
              refine obindE hF fun xv346 hx345 hF => ?_
              have hA344 := Rd.atN (f := (eI .u8)) (s := 1) (fun _ => rfl) (by decide) (hM.inp (hr258 _ hr4) Off.nil) hx345
              refine RD.q rfl rfl rfl rfl (fun w' hf => O.idxA sl22 (hA344.fut hf) rfl rfl) ?_
              refine RD.q rfl rfl rfl rfl (fun w' hf => O.load sc5 rfl (hA344.fut hf).cells.at0) ?_
              refine RD.q rfl rfl rfl rfl (fun w' hf => O.load sc22 rfl (Cs.adds [] ((hM.bx (i := 2) rfl).fut hf) rfl)) ?_
              refine RD.p rfl rfl rfl rfl (fun w' => O.move rfl) ?_
              refine obindE hF fun cut347 hy348 hF => ?_
              obtain ⟨A349, c350, eA352, ec353⟩ := cutN A259 c260 (Int.toNat 2) 1
              have hr351 := Rd.cutT (enc := (eI .u8)) (s := 1) (fun _ => rfl) (hr258 _ hr4) hy348 (m := c260) (by have := (hr258 _ hr4).cap; have := (gcut_some hy348).2.2.1; omega) (Nat.le_refl _)
              rw [← eA352, ← ec353] at hr351
              refine RD.p (v := .slice A349 (cut347).length c350) rfl rfl rfl rfl (fun w' => (by rw [eA352, ec353]; exact O.cutT sl22 (hM.inp (hr258 _ hr4) Off.nil) hy348 rfl rfl rfl)) ?_
              refine obindE hF fun y354 hx355 hF => ?_
              refine RD.mcall rfl rfl trivial Try.func40 bd40 rfl rfl (c_slices_Clone_byte_byte _ _ _ cut347 (hM.inp hr351 Off.nil) _ hx355) fun v w356 hv => ?_
              obtain ⟨A358, c359, rfl, hN357⟩ := hv
              refine ⟨fun _ => hN357.fut, ?_⟩
              replace hM := hM.call hN357
              refine RD.q rfl rfl rfl rfl (fun w' hf => O.bld (cs := [.int .u8 xv346, .slice A358 (y354).length c359]) bt32 rfl (by kernel_rfl)) ?_
              refine RD.myield hM (i := 1) rfl ha18 hrc20 rfl rfl rfl rfl rfl rfl rfl rfl ?_
              refine KC.seq ?_
              refine KC.region ?_
              refine RL.eff (E.alloc hM ze32) rfl fun v w362 hv => ?_
              clear hM
              obtain ⟨g361, rfl, hM, hf⟩ := hv
              refine RL.effs (E.stB (j := 9) (off := 0) (vs := [.int .u8 xv346, .slice A358 (y354).length c359]) (cs' := [.int .u8 xv346, .slice A358 (y354).length c359]) hM rfl sz32 rfl (adds_eq [] rfl) rfl rfl (One.all rfl) rfl rfl) fun w364 hM1 => ?_
              clear hM
              have hM := hM1
              clear hM1
              refine RL.nil ?_
              refine KQ.then_n ?_
              refine KC.region ?_
              refine RL.val (O.assign rfl) rfl ?_
              refine RL.nil ?_
              refine KQ.begin hM (i := 1) rfl fun w365 hM1 hf366 => ?_
              clear hM
              have hM := hM1
              clear hM1
              refine KC.block ?_
              refine KC.seq ?_
              refine KC.seq ?_
              refine KC.region ?_
              refine RL.val (O.move rfl) rfl ?_
              refine RL.val (O.not rfl) rfl ?_
              refine RL.nil ?_
              refine KQ.then_n ?_
              refine KC.condF rfl ?_
              refine KC.skip ?_
              refine KQ.then_n ?_
              refine KC.region ?_
              refine RL.val (O.load sc28 rfl (Cs.adds [] ((hM.bx (i := 7) rfl)) rfl)) rfl ?_
              refine RL.val (O.loadN (cs := [.int .u8 xv346, .slice A358 (y354).length c359]) ag32 rfl (Cs.addsN [] ((hM.bx (i := 9) rfl)) rfl)) rfl ?_
              refine RL.eff (E.bslD (css := ([[.int .u8 xv346, .slice A358 (y354).length c359]] : List (List Value))) hM sl28 ze32 rfl rfl rfl rfl rfl (by kernel_rfl) rfl) rfl fun v w367 hv => ?_
              clear hM
              obtain ⟨A368, rfl, hM, hf⟩ := hv
              have hp372 := (hM.pick [8] rfl (by decide)).sep
              obtain ⟨Z369, hM⟩ := hM.glue [8] [0, 1, 2, 3, 4, 5, 6, 7, 9, 10] rfl rfl (by decide) rfl (Els RO_ip_Option 2 [(T_ip_Option.mk xv346 y354)] ([[.int .u8 xv346, .slice A358 (y354).length c359]] : List (List Value))) (fun Z w1 ho hz => Els.lit (El3.cons rfl ⟨A358, c359, rfl, rfl⟩ El3.nil) rfl ho hz hp372)
              refine cut_someE hF fun hq376 hF => ?_
              refine RL.eff (E.appD (xs := t323) (ys := [(T_ip_Option.mk xv346 y354)]) (css := css320) (cs2 := ([[.int .u8 xv346, .slice A358 (y354).length c359]] : List (List Value))) (j := 5) hM rfl sl28 ze32 rfl rfl rfl rfl rfl (hM.rd (i := 9) rfl) (One.all rfl) (of_decide_eq_true hq376)) rfl fun v w375 hv => ?_
              clear hM
              obtain ⟨A373, c374, rfl, hM, hf⟩ := hv
              have hp378 := hM.sep
              obtain ⟨Z377, hM⟩ := hM.glue [6, 10] [0, 1, 2, 3, 4, 5, 7, 8] rfl rfl (by decide) rfl (Els RO_ip_Option 2 (t323 ++ [(T_ip_Option.mk xv346 y354)]) (css320 ++ ([[.int .u8 xv346, .slice A358 (y354).length c359]] : List (List Value)))) (fun Z w1 ho hz => Els.app (Ob.res_φ (ho 0 _ rfl)) (Ob.res_φ (ho 1 _ rfl)) (fun g hg => hz 0 _ g rfl (Ob.has_res.2 hg)) (fun g hg => hz 1 _ g rfl (Ob.has_res.2 hg)) (fun g h1 h2 => absurd (hp378 6 10 _ _ g rfl rfl (Ob.has_res.2 h1) (Ob.has_res.2 h2)) (by decide)))
              refine RL.effs (E.stB (j := 6) (off := 0) (vs := [.slice A373 ((t323 ++ [(T_ip_Option.mk xv346 y354)])).length c374]) (cs' := [.slice A373 ((t323 ++ [(T_ip_Option.mk xv346 y354)])).length c374]) hM rfl sz28 rfl (adds_eq [] rfl) rfl rfl (One.all rfl) rfl rfl) fun w381 hM1 => ?_
              clear hM
              have hM := hM1
              clear hM1
              refine RL.nil ?_
              refine KQ.blk_n ?_
              refine KQ.rnorm hM (i := 1) rfl fun w382 hM1 hf383 => ?_
              clear hM
              have hM := hM1
              clear hM1
              refine RD.p rfl rfl rfl rfl (fun w' => O.not rfl) ?_
              refine RD.nil ?_
              refine KQ.then_n ?_
              replace hM := hM.pick [0, 1, 2, 3, 4, 5, 6, 8] rfl (by decide)
              refine KC.condF rfl ?_
              refine KC.skip ?_
              refine KQ.then_n ?_
              refine KC.region ?_
              refine RL.val (O.load sc22 rfl (Cs.adds [] ((hM.bx (i := 2) rfl)) rfl)) rfl ?_
              refine RL.val (O.move rfl) rfl ?_
              refine obindE hF fun cut384 hy385 hF => ?_
              obtain ⟨A386, c387, eA389, ec390⟩ := cutN A259 c260 (Int.toNat (IntKind.i64.wrap xv343)) 1
              have hr388 := Rd.cutT (enc := (eI .u8)) (s := 1) (fun _ => rfl) (hr258 _ hr4) hy385 (m := c260) (by have := (hr258 _ hr4).cap; have := (gcut_some hy385).2.2.1; omega) (Nat.le_refl _)
              rw [← eA389, ← ec390] at hr388
              refine RL.val (v := .slice A386 (cut384).length c387) (by rw [eA389, ec390]; exact O.cutlT sl22 (hM.inp (hr258 _ hr4) Off.nil) hy385 rfl rfl) rfl ?_
              refine RL.effs (E.stB (j := 2) (off := 0) (vs := [.slice A386 (cut384).length c387]) (cs' := [.slice A386 (cut384).length c387]) hM rfl sz22 rfl (adds_eq [] rfl) rfl rfl (One.all rfl) rfl rfl) fun w391 hM1 => ?_
              clear hM
              have hM := hM1
              clear hM1
              refine RL.nil ?_
              refine KQ.blk_n ?_
              refine KQ.then_k ?_
              replace hM := hM.pick [0, 1, 2, 3, 4, 5, 7, 6] rfl (by decide)
              exact fun a ha => ⟨k274, Nat.lt_succ_self k274, A386, c387, A373, c374, (css320 ++ ([[.int .u8 xv346, .slice A358 (y354).length c359]] : List (List Value))), Z377, cut384, (t323 ++ [(T_ip_Option.mk xv346 y354)]), ha.less (less_cons rfl (less_cons rfl less_nil)), hM, (fun w2 h0 => by (have g0 := hr258 _ h0; have g1 := Rd.cutT (enc := (eI .u8)) (s := 1) (fun _ => rfl) g0 hy385 (m := c260) (by have := g0.cap; have := (gcut_some hy385).2.2.1; omega) (Nat.le_refl _); rw [← eA389, ← ec390] at g1; exact g1)), hF⟩
      · rw [if_neg (ne_true hc)] at hF
        refine KC.exit ?_
        refine KQ.then_x ?_
        refine KQ.then_x ?_
        refine KQ.blk_x ?_
        refine KQ.rendN Try.results47 hM (i := 1) rfl (fun h => by cases h) ha18 fun w392 hM1 hf393 => ?_
        clear hM
        have hM := hM1
        clear hM1
        replace hM := hM.pick [0, 2, 3, 4, 5, 6, 7] rfl (by decide)
        refine KQ.blk_n ?_
        refine KQ.then_n ?_
        replace hM := hM.pick [0, 2, 3, 4, 5, 6] rfl (by decide)
        refine KC.seq ?_
        refine KC.region ?_
        refine RL.val (O.load sc28 rfl (Cs.adds [] ((hM.bx (i := 5) rfl)) rfl)) rfl ?_
        refine RL.effs (E.stB (j := 1) (off := 0) (vs := [.slice A286 (t291).length c287]) (cs' := [.slice A286 (t291).length c287]) hM rfl sz28 rfl (adds_eq [] rfl) rfl rfl (One.all rfl) rfl rfl) fun w394 hM1 => ?_
        clear hM
        have hM := hM1
        clear hM1
        refine RL.effs (E.stB (j := 2) (off := 0) (vs := [.int .i64 0]) (cs' := [.int .i64 0]) hM rfl sz25 rfl (adds_eq [] rfl) rfl rfl (One.all rfl) rfl rfl) fun w395 hM1 => ?_
        clear hM
        have hM := hM1
        clear hM1
        refine RL.nil ?_
        refine KQ.then_n ?_
        refine KC.ret ?_
        have hE := Option.some.inj hF
        clear hF
        subst hE
        refine KQ.unmark hM (i := 0) rfl fun w396 hM1 => ?_
        clear hM
        have hM := hM1
        clear hM1
        replace hM := hM.pick [1, 2, 3, 4, 5] rfl (by decide)
        have hb397 := hM.bx (i := 0) rfl
        have hb398 := hM.bx (i := 1) rfl
        replace hM := hM.pick [2, 3] rfl (by decide)
        refine KQ.retsM Try.results10 (RVs.cons (RV.c1 rfl sc28 hb397.at0) (RVs.cons (RV.c1 rfl sc25 hb398.at0) RVs.nil)) ?_
        exact ⟨_, rfl, A286, c287, css288, Z289, rfl, hM⟩
set_option maxRecDepth 100000 in
set_option maxHeartbeats 40000000 in
theorem c_ref01_Same (w : World) (A2 : Option Addr) (c3 : Nat) (av1 : List Int) (hr4 : Rd w A2 c3 1 av1.length (av1.flatMap (eI .u8))) (A6 : Option Addr) (c7 : Nat) (b5 : List Int) (hr8 : Rd w A6 c7 1 b5.length (b5.flatMap (eI .u8))) (r : Bool) (hF : F_ref01_Same av1 b5 = some r) :
    CallsR Try.prog 14 [.slice A2 (av1).length c3, .slice A6 (b5).length c7] w (fun v w' => v = .bool r ∧ Mem w [] w' []) := by
  refine calls_KC Try.func14 rfl Try.ntmps14 rfl ?_
  have hM := Mem.init w
  unfold F_ref01_Same at hF
  refine KC.seq ?_
  refine KC.region ?_
  refine RL.val (O.assign rfl) rfl ?_
  refine RL.nil ?_
  refine KQ.then_n ?_
  refine KC.seq ?_
  refine KC.region ?_
  refine RL.val (O.move rfl) rfl ?_
  refine RL.val (O.b2s sl22 Try.underlying5 Try.underlying9 rfl ((hM.inp hr4 Off.nil))) rfl ?_
  refine RL.val (O.move rfl) rfl ?_
  refine RL.val (O.b2s sl22 Try.underlying5 Try.underlying9 rfl ((hM.inp hr8 Off.nil))) rfl ?_
  refine RL.val (O.streq rfl rfl) rfl ?_
  refine RL.val (O.assign rfl) rfl ?_
  refine RL.nil ?_
  refine KQ.then_n ?_
  refine KC.ret ?_
  have hE := Option.some.inj hF
  clear hF
  subst hE
  refine KQ.rets Try.results14 (RVs.cons (RV.tm rfl) RVs.nil) ?_
  exact ⟨_, rfl, rfl, hM⟩
end Go.Proofs.Ytjfdfjmnajjjaaa
