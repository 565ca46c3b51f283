/- Printed by a program of this claim: each call returns what the plain function of its name gives. -/
import Derived.Test.YtjfdfjmnajjjaaaW1
import Derived.Test.YtjfdfjmnajjjaaaW2
import Derived.Test.YtjfdfjmnajjjaaaW5
import Derived.Test.YtjfdfjmnajjjaaaW9
import Derived.Test.YtjfdfjmnajjjaaaW14
set_option linter.unusedVariables false
namespace Go.Proofs.Ytjfdfjmnajjjaaa
open Go Go.Ox Go.RowKit
set_option maxRecDepth 100000 in
set_option maxHeartbeats 40000000 in
theorem c_ref05_Body (w : World) (A2 : Option Addr) (c3 : Nat) (b1 : List Int) (hr4 : Rd w A2 c3 1 b1.length (b1.flatMap (eI .u8))) (r : (List Int) × Int) (hF : F_ref05_Body b1 = some r) :
    CallsR Try.prog 23 [.slice A2 (b1).length c3] w (fun v w' => ∃ (A0 : Option Addr) (c0 : Nat), v = .tuple #[.slice A0 (r.1).length c0, .int .i64 r.2] ∧ (∀ w2, Rd w2 A2 c3 1 b1.length (b1.flatMap (eI .u8)) → Rd w2 A0 c0 1 r.1.length (r.1.flatMap (eI .u8))) ∧ Mem w [] w' []) := by
  refine calls_KC Try.func23 rfl Try.ntmps23 rfl ?_
  have hM := Mem.init w
  unfold F_ref05_Body at hF
  refine KC.seq ?_
  refine KC.region ?_
  refine RL.val (O.assign rfl) rfl ?_
  refine RL.val (O.assign rfl) rfl ?_
  refine RL.nil ?_
  refine KQ.then_n ?_
  refine KC.seq ?_
  refine KC.region ?_
  refine RL.val (O.move rfl) rfl ?_
  refine obindE hF fun y5 hx6 hF => ?_
  refine RL.call Try.func22 bd22 rfl rfl (c_ref05_Parse _ _ _ b1 (hM.inp hr4 Off.nil) _ hx6) fun v w7 hv => ?_
  obtain ⟨rfl, hN8⟩ := hv
  replace hM := hM.call0 hN8
  refine RL.val (O.move rfl) rfl ?_
  refine RL.val (O.ext rfl rfl) rfl ?_
  refine RL.val (O.ext rfl rfl) rfl ?_
  refine RL.val (O.ext rfl rfl) rfl ?_
  refine RL.eff (E.alloc hM ze41) rfl fun v w10 hv => ?_
  clear hM
  obtain ⟨g9, rfl, hM, hf⟩ := hv
  refine RL.effs (E.stB (j := 0) (off := 0) (vs := [.int .u8 y5.1.f_TOS, .int .u16 y5.1.f_Total, .int .u16 y5.1.f_ID, .bool y5.1.f_DF, .bool y5.1.f_MF, .int .u16 y5.1.f_Frag, .int .u8 y5.1.f_TTL, .int .u8 y5.1.f_Proto, .string y5.1.f_Src, .string y5.1.f_Dst, .string y5.1.f_Options]) (cs' := [.int .u8 y5.1.f_TOS, .int .u16 y5.1.f_Total, .int .u16 y5.1.f_ID, .bool y5.1.f_DF, .bool y5.1.f_MF, .int .u16 y5.1.f_Frag, .int .u8 y5.1.f_TTL, .int .u8 y5.1.f_Proto, .string y5.1.f_Src, .string y5.1.f_Dst, .string y5.1.f_Options]) hM rfl sz41 rfl (adds_eq [] rfl) rfl rfl (One.all rfl) rfl rfl) fun w12 hM1 => ?_
  clear hM
  have hM := hM1
  clear hM1
  refine RL.val (O.assign rfl) rfl ?_
  refine RL.val (O.assign rfl) rfl ?_
  refine RL.nil ?_
  refine KQ.then_n ?_
  refine KC.seq ?_
  refine KC.seq ?_
  refine KC.region ?_
  refine RL.val (O.move rfl) rfl ?_
  refine RL.val (O.neq rfl rfl) rfl ?_
  refine RL.nil ?_
  refine KQ.then_n ?_
  refine KC.cond rfl (fun hc => ?_) (fun hc => ?_)
  · rw [if_pos hc] at hF
    refine KC.seq ?_
    refine KC.region ?_
    refine RL.val (O.move rfl) rfl ?_
    refine RL.val (O.assign rfl) rfl ?_
    refine RL.val (O.assign rfl) rfl ?_
    refine RL.nil ?_
    refine KQ.then_n ?_
    refine KC.ret ?_
    refine KQ.then_r ?_
    have hE := Option.some.inj hF
    clear hF
    subst hE
    replace hM := hM.pick [] rfl (by decide)
    refine KQ.rets Try.results23 (RVs.cons (RV.tm rfl) (RVs.cons (RV.tm rfl) RVs.nil)) ?_
    exact ⟨_, rfl, none, 0, rfl, (fun _ _ => Rd.nilr), hM⟩
  · rw [if_neg (ne_true hc)] at hF
    refine KC.skip ?_
    refine KQ.then_n ?_
    refine KC.seq ?_
    refine KC.seq ?_
    refine KC.region ?_
    refine RL.val (O.move rfl) rfl ?_
    refine RL.val (O.len sl22 rfl) rfl ?_
    refine RL.val (O.fldA fl41_1 (by decide) rfl) rfl ?_
    refine RL.val (O.load sc36 rfl (Cs.adds [1] ((hM.bx (i := 0) rfl)) rfl)) rfl ?_
    refine RL.val (O.conv un36 Try.underlying3 rfl) rfl ?_
    refine RL.val (O.lss rfl rfl) rfl ?_
    refine RL.nil ?_
    refine KQ.then_n ?_
    refine KC.cond rfl (fun hc => ?_) (fun hc => ?_)
    · rw [if_pos hc] at hF
      refine KC.seq ?_
      refine KC.region ?_
      refine RL.val (O.assign rfl) rfl ?_
      refine RL.val (O.assign rfl) rfl ?_
      refine RL.nil ?_
      refine KQ.then_n ?_
      refine KC.ret ?_
      refine KQ.then_r ?_
      have hE := Option.some.inj hF
      clear hF
      subst hE
      replace hM := hM.pick [] rfl (by decide)
      refine KQ.rets Try.results23 (RVs.cons (RV.tm rfl) (RVs.cons (RV.tm rfl) RVs.nil)) ?_
      exact ⟨_, rfl, none, 0, rfl, (fun _ _ => Rd.nilr), hM⟩
    · rw [if_neg (ne_true hc)] at hF
      refine KC.skip ?_
      refine KQ.then_n ?_
      refine KC.seq ?_
      refine KC.region ?_
      refine RL.val (O.move rfl) rfl ?_
      refine RL.val (O.move rfl) rfl ?_
      refine RL.val (O.fldA fl41_1 (by decide) rfl) rfl ?_
      refine RL.val (O.load sc36 rfl (Cs.adds [1] ((hM.bx (i := 0) rfl)) rfl)) rfl ?_
      refine obindE hF fun cut13 hy14 hF => ?_
      obtain ⟨A15, c16, eA18, ec19⟩ := cutN A2 c3 (Int.toNat y5.2.1) 1
      have hr17 := Rd.cutT (enc := (eI .u8)) (s := 1) (fun _ => rfl) hr4 hy14 (m := c3) (by have := hr4.cap; have := (gcut_some hy14).2.2.1; omega) (Nat.le_refl _)
      rw [← eA18, ← ec19] at hr17
      refine RL.val (v := .slice A15 (cut13).length c16) (by rw [eA18, ec19]; exact O.cutT sl22 (hM.inp hr4 Off.nil) hy14 rfl rfl rfl) rfl ?_
      refine RL.val (O.assign rfl) rfl ?_
      refine RL.val (O.assign rfl) rfl ?_
      refine RL.nil ?_
      refine KQ.then_n ?_
      refine KC.ret ?_
      have hE := Option.some.inj hF
      clear hF
      subst hE
      have ha20 : ∀ w2, Rd w2 A2 c3 1 b1.length (b1.flatMap (eI .u8)) → Rd w2 A15 c16 1 cut13.length (cut13.flatMap (eI .u8)) := (fun w2 h0 => by (have g0 := Rd.cutT (enc := (eI .u8)) (s := 1) (fun _ => rfl) h0 hy14 (m := c3) (by have := h0.cap; have := (gcut_some hy14).2.2.1; omega) (Nat.le_refl _); rw [← eA18, ← ec19] at g0; exact g0))
      replace hM := hM.pick [] rfl (by decide)
      refine KQ.rets Try.results23 (RVs.cons (RV.tm rfl) (RVs.cons (RV.tm rfl) RVs.nil)) ?_
      exact ⟨_, rfl, A15, c16, rfl, ha20, hM⟩
set_option maxRecDepth 100000 in
set_option maxHeartbeats 40000000 in
theorem c_ref03_Change (w : World) (sum1 : Int) (fromv2 : Int) (tov3 : Int) (r : Int) (hF : F_ref03_Change sum1 fromv2 tov3 = some r) :
    CallsR Try.prog 46 [.int .u16 sum1, .int .u16 fromv2, .int .u16 tov3] w (fun v w' => v = .int .u16 r ∧ Mem w [] w' []) := by
  refine calls_KC Try.func46 rfl Try.ntmps46 rfl ?_
  have hM := Mem.init w
  unfold F_ref03_Change at hF
  refine KC.seq ?_
  refine KC.region ?_
  refine RL.val (O.assign rfl) rfl ?_
  refine RL.nil ?_
  refine KQ.then_n ?_
  refine KC.seq ?_
  refine KC.region ?_
  refine RL.val (O.move rfl) rfl ?_
  refine RL.val (O.conv un36 Try.underlying70 rfl) rfl ?_
  refine RL.val (O.sub rfl rfl) rfl ?_
  refine RL.val (O.add rfl rfl) rfl ?_
  refine RL.val (O.move rfl) rfl ?_
  refine RL.val (O.conv un36 Try.underlying70 rfl) rfl ?_
  refine RL.val (O.sub rfl rfl) rfl ?_
  refine RL.val (O.move rfl) rfl ?_
  refine RL.val (O.conv un36 Try.underlying70 rfl) rfl ?_
  refine RL.val (O.add rfl rfl) rfl ?_
  refine obindE hF fun y4 hx5 hF => ?_
  refine RL.call Try.func59 bd59 rfl rfl (c_ref03_Fold _ (IntKind.u64.wrap ((IntKind.u64.wrap ((IntKind.u64.wrap ((IntKind.u64.wrap (65535 - (IntKind.u64.wrap sum1))) + 65535)) - (IntKind.u64.wrap fromv2))) + (IntKind.u64.wrap tov3))) _ hx5) fun v w6 hv => ?_
  obtain ⟨rfl, hN7⟩ := hv
  replace hM := hM.call0 hN7
  refine RL.val (O.sub rfl rfl) rfl ?_
  refine RL.val (O.conv un70 Try.underlying36 rfl) rfl ?_
  refine RL.val (O.assign rfl) rfl ?_
  refine RL.nil ?_
  refine KQ.then_n ?_
  refine KC.ret ?_
  have hE := Option.some.inj hF
  clear hF
  subst hE
  refine KQ.rets Try.results46 (RVs.cons (RV.tm rfl) RVs.nil) ?_
  exact ⟨_, rfl, rfl, hM⟩
set_option maxRecDepth 100000 in
set_option maxHeartbeats 40000000 in
theorem c_ref05_Hop (w : World) (A2 : Option Addr) (c3 : Nat) (b1 : List Int) (hr4 : Rd w A2 c3 1 b1.length (b1.flatMap (eI .u8))) (r : (List Int) × Int) (hF : F_ref05_Hop b1 = some r) :
    CallsR Try.prog 24 [.slice A2 (b1).length c3] w (fun v w' => ∃ (A0 : Option Addr) (c0 : Nat), v = .tuple #[.slice A0 (r.1).length c0, .int .i64 r.2] ∧ Mem w [] w' [.row A0 c0 5 1 r.1.length (r.1.flatMap (eI .u8))]) := by
  refine calls_KC Try.func24 rfl Try.ntmps24 rfl ?_
  have hM := Mem.init w
  unfold F_ref05_Hop at hF
  refine KC.seq ?_
  refine KC.region ?_
  refine RL.val (O.assign rfl) rfl ?_
  refine RL.val (O.assign rfl) rfl ?_
  refine RL.nil ?_
  refine KQ.then_n ?_
  refine KC.seq ?_
  refine KC.region ?_
  refine RL.val (O.move rfl) rfl ?_
  refine obindE hF fun y5 hx6 hF => ?_
  refine RL.call Try.func22 bd22 rfl rfl (c_ref05_Parse _ _ _ b1 (hM.inp hr4 Off.nil) _ hx6) fun v w7 hv => ?_
  obtain ⟨rfl, hN8⟩ := hv
  replace hM := hM.call0 hN8
  refine RL.val (O.move rfl) rfl ?_
  refine RL.val (O.ext rfl rfl) rfl ?_
  refine RL.val (O.ext rfl rfl) rfl ?_
  refine RL.val (O.ext rfl rfl) rfl ?_
  refine RL.eff (E.alloc hM ze41) rfl fun v w10 hv => ?_
  clear hM
  obtain ⟨g9, rfl, hM, hf⟩ := hv
  refine RL.effs (E.stB (j := 0) (off := 0) (vs := [.int .u8 y5.1.f_TOS, .int .u16 y5.1.f_Total, .int .u16 y5.1.f_ID, .bool y5.1.f_DF, .bool y5.1.f_MF, .int .u16 y5.1.f_Frag, .int .u8 y5.1.f_TTL, .int .u8 y5.1.f_Proto, .string y5.1.f_Src, .string y5.1.f_Dst, .string y5.1.f_Options]) (cs' := [.int .u8 y5.1.f_TOS, .int .u16 y5.1.f_Total, .int .u16 y5.1.f_ID, .bool y5.1.f_DF, .bool y5.1.f_MF, .int .u16 y5.1.f_Frag, .int .u8 y5.1.f_TTL, .int .u8 y5.1.f_Proto, .string y5.1.f_Src, .string y5.1.f_Dst, .string y5.1.f_Options]) hM rfl sz41 rfl (adds_eq [] rfl) rfl rfl (One.all rfl) rfl rfl) fun w12 hM1 => ?_
  clear hM
  have hM := hM1
  clear hM1
  refine RL.val (O.assign rfl) rfl ?_
  refine RL.val (O.assign rfl) rfl ?_
  refine RL.nil ?_
  refine KQ.then_n ?_
  refine KC.seq ?_
  refine KC.seq ?_
  refine KC.region ?_
  refine RL.val (O.move rfl) rfl ?_
  refine RL.val (O.neq rfl rfl) rfl ?_
  refine RL.nil ?_
  refine KQ.then_n ?_
  refine KC.cond rfl (fun hc => ?_) (fun hc => ?_)
  · rw [if_pos hc] at hF
    refine KC.seq ?_
    refine KC.region ?_
    refine RL.val (O.move rfl) rfl ?_
    refine RL.val (O.assign rfl) rfl ?_
    refine RL.val (O.assign rfl) rfl ?_
    refine RL.nil ?_
    refine KQ.then_n ?_
    refine KC.ret ?_
    refine KQ.then_r ?_
    have hE := Option.some.inj hF
    clear hF
    subst hE
    replace hM := hM.nilrow 5 1
    replace hM := hM.pick [1] rfl (by decide)
    refine KQ.rets Try.results24 (RVs.cons (RV.tm rfl) (RVs.cons (RV.tm rfl) RVs.nil)) ?_
    exact ⟨_, rfl, none, 0, rfl, hM⟩
  · rw [if_neg (ne_true hc)] at hF
    refine KC.skip ?_
    refine KQ.then_n ?_
    refine KC.seq ?_
    refine KC.seq ?_
    refine KC.region ?_
    refine RL.val (O.fldA fl41_6 (by decide) rfl) rfl ?_
    refine RL.val (O.load sc5 rfl (Cs.adds [6] ((hM.bx (i := 0) rfl)) rfl)) rfl ?_
    refine RL.val (O.eql rfl rfl) rfl ?_
    refine RL.nil ?_
    refine KQ.then_n ?_
    refine KC.cond rfl (fun hc => ?_) (fun hc => ?_)
    · rw [if_pos hc] at hF
      refine KC.seq ?_
      refine KC.region ?_
      refine RL.val (O.assign rfl) rfl ?_
      refine RL.val (O.assign rfl) rfl ?_
      refine RL.nil ?_
      refine KQ.then_n ?_
      refine KC.ret ?_
      refine KQ.then_r ?_
      have hE := Option.some.inj hF
      clear hF
      subst hE
      replace hM := hM.nilrow 5 1
      replace hM := hM.pick [1] rfl (by decide)
      refine KQ.rets Try.results24 (RVs.cons (RV.tm rfl) (RVs.cons (RV.tm rfl) RVs.nil)) ?_
      exact ⟨_, rfl, none, 0, rfl, hM⟩
    · rw [if_neg (ne_true hc)] at hF
      refine KC.skip ?_
      refine KQ.then_n ?_
      refine KC.seq ?_
      refine KC.region ?_
      refine RL.val (O.move rfl) rfl ?_
      refine obindE hF fun y13 hx14 hF => ?_
      refine RL.call Try.func18 bd18 rfl rfl (c_ref01_Join _ none 0 [] Rd.nilr _ _ b1 (hM.inp hr4 Off.nil) _ hx14) fun v w15 hv => ?_
      obtain ⟨A17, c18, rfl, hN16⟩ := hv
      replace hM := hM.call hN16
      refine RL.val (O.assign rfl) rfl ?_
      refine RL.nil ?_
      refine KQ.then_n ?_
      refine KC.seq ?_
      refine KC.region ?_
      refine RL.val (O.move rfl) rfl ?_
      refine RL.val (O.move rfl) rfl ?_
      refine obindE hF fun xv22 hx21 hF => ?_
      have hA20 := Rd.atN (f := (eI .u8)) (s := 1) (fun _ => rfl) (by decide) (hM.inp hr4 Off.nil) hx21
      refine RL.val (O.idxA sl22 (hA20) rfl rfl) rfl ?_
      refine RL.val (O.load sc5 rfl (hA20).cells.at0) rfl ?_
      refine RL.val (O.sub rfl rfl) rfl ?_
      refine obindE hF fun xv25 hx24 hF => ?_
      have hA23 := Rd.atN (f := (eI .u8)) (s := 1) (fun _ => rfl) (by decide) (hM.rd (i := 1) rfl) hx24
      refine RL.val (O.idxA sl22 (hA23) rfl rfl) rfl ?_
      refine RL.effs (E.stR (enc := (eI .u8)) (j := 1) (off := 0) (vs := [.int .u8 (IntKind.u8.wrap (xv22 - 1))]) (x' := (IntKind.u8.wrap (xv22 - 1))) hM rfl (fun _ => rfl) hx24 sz5 rfl (addsR_eq [] rfl) rfl rfl (One.all rfl) rfl rfl) fun w26 hM1 => ?_
      clear hM
      obtain ⟨hM, hn27⟩ := hM1
      refine RL.reslot (t := 7) rfl hn27 ?_
      refine RL.reslot (t := 29) rfl hn27 ?_
      refine RL.nil ?_
      refine KQ.then_n ?_
      refine KC.seq ?_
      refine KC.region ?_
      refine RL.val (O.move rfl) rfl ?_
      refine obindE hF fun y28 hx29 hF => ?_
      refine RL.call Try.func43 bd43 rfl rfl (c_ref01_Get _ _ _ b1 (hM.inp hr4 Off.nil) 10 2 _ hx29) fun v w30 hv => ?_
      obtain ⟨rfl, hN31⟩ := hv
      replace hM := hM.call0 hN31
      refine RL.val (O.move rfl) rfl ?_
      refine RL.val (O.ext rfl rfl) rfl ?_
      refine RL.val (O.ext rfl rfl) rfl ?_
      refine RL.val (O.assign rfl) rfl ?_
      refine RL.val (O.assign rfl) rfl ?_
      refine RL.nil ?_
      refine KQ.then_n ?_
      refine KC.seq ?_
      refine KC.region ?_
      refine RL.val (O.move rfl) rfl ?_
      refine obindE hF fun y32 hx33 hF => ?_
      refine RL.call Try.func43 bd43 rfl rfl (c_ref01_Get _ _ _ b1 (hM.inp hr4 Off.nil) 8 2 _ hx33) fun v w34 hv => ?_
      obtain ⟨rfl, hN35⟩ := hv
      replace hM := hM.call0 hN35
      refine RL.val (O.move rfl) rfl ?_
      refine RL.val (O.ext rfl rfl) rfl ?_
      refine RL.val (O.ext rfl rfl) rfl ?_
      refine RL.val (O.assign rfl) rfl ?_
      refine RL.val (O.assign rfl) rfl ?_
      refine RL.nil ?_
      refine KQ.then_n ?_
      refine KC.seq ?_
      refine KC.region ?_
      refine RL.val (O.move rfl) rfl ?_
      refine obindE hF fun y36 hx37 hF => ?_
      refine RL.call Try.func43 bd43 rfl rfl (c_ref01_Get _ _ _ (y13.set (8 : Int).toNat (IntKind.u8.wrap (xv22 - 1))) (hM.rd (i := 1) rfl) 8 2 _ hx37) fun v w38 hv => ?_
      obtain ⟨rfl, hN39⟩ := hv
      replace hM := hM.call0 hN39
      refine RL.val (O.move rfl) rfl ?_
      refine RL.val (O.ext rfl rfl) rfl ?_
      refine RL.val (O.ext rfl rfl) rfl ?_
      refine RL.val (O.assign rfl) rfl ?_
      refine RL.val (O.assign rfl) rfl ?_
      refine RL.nil ?_
      refine KQ.then_n ?_
      refine KC.seq ?_
      refine KC.region ?_
      refine RL.val (O.move rfl) rfl ?_
      refine RL.val (O.conv un70 Try.underlying36 rfl) rfl ?_
      refine RL.val (O.move rfl) rfl ?_
      refine RL.val (O.conv un70 Try.underlying36 rfl) rfl ?_
      refine RL.val (O.move rfl) rfl ?_
      refine RL.val (O.conv un70 Try.underlying36 rfl) rfl ?_
      refine obindE hF fun y40 hx41 hF => ?_
      refine RL.call Try.func46 bd46 rfl rfl (c_ref03_Change _ (IntKind.u16.wrap y28.1) (IntKind.u16.wrap y32.1) (IntKind.u16.wrap y36.1) _ hx41) fun v w42 hv => ?_
      obtain ⟨rfl, hN43⟩ := hv
      replace hM := hM.call0 hN43
      refine RL.val (O.conv un36 Try.underlying70 rfl) rfl ?_
      refine obindE hF fun y44 hx45 hF => ?_
      refine RL.call Try.func45 bd45 rfl rfl (c_ref01_Put _ (IntKind.u64.wrap y40) 2 _ hx45) fun v w46 hv => ?_
      obtain ⟨A48, c49, rfl, hN47⟩ := hv
      replace hM := hM.call hN47
      refine RL.val (O.assign rfl) rfl ?_
      refine RL.nil ?_
      refine KQ.then_n ?_
      refine KC.seq ?_
      refine KC.region ?_
      refine RL.val (O.move rfl) rfl ?_
      refine RL.val (O.move rfl) rfl ?_
      refine obindE hF fun xv53 hx52 hF => ?_
      have hA51 := Rd.atN (f := (eI .u8)) (s := 1) (fun _ => rfl) (by decide) (hM.rd (i := 2) rfl) hx52
      refine RL.val (O.idxA sl22 (hA51) rfl rfl) rfl ?_
      refine RL.val (O.load sc5 rfl (hA51).cells.at0) rfl ?_
      refine obindE hF fun xv56 hx55 hF => ?_
      have hA54 := Rd.atN (f := (eI .u8)) (s := 1) (fun _ => rfl) (by decide) (hM.rd (i := 1) rfl) hx55
      refine RL.val (O.idxA sl22 (hA54) rfl rfl) rfl ?_
      refine RL.effs (E.stR (enc := (eI .u8)) (j := 1) (off := 0) (vs := [.int .u8 xv53]) (x' := xv53) hM rfl (fun _ => rfl) hx55 sz5 rfl (addsR_eq [] rfl) rfl rfl (One.all rfl) rfl rfl) fun w57 hM1 => ?_
      clear hM
      obtain ⟨hM, hn58⟩ := hM1
      refine RL.reslot (t := 7) rfl hn58 ?_
      refine RL.reslot (t := 59) rfl hn58 ?_
      refine RL.nil ?_
      refine KQ.then_n ?_
      refine KC.seq ?_
      refine KC.region ?_
      refine RL.val (O.move rfl) rfl ?_
      refine RL.val (O.move rfl) rfl ?_
      refine obindE hF fun xv61 hx60 hF => ?_
      have hA59 := Rd.atN (f := (eI .u8)) (s := 1) (fun _ => rfl) (by decide) (hM.rd (i := 2) rfl) hx60
      refine RL.val (O.idxA sl22 (hA59) rfl rfl) rfl ?_
      refine RL.val (O.load sc5 rfl (hA59).cells.at0) rfl ?_
      refine obindE hF fun xv64 hx63 hF => ?_
      have hA62 := Rd.atN (f := (eI .u8)) (s := 1) (fun _ => rfl) (by decide) (hM.rd (i := 1) rfl) hx63
      refine RL.val (O.idxA sl22 (hA62) rfl rfl) rfl ?_
      refine RL.effs (E.stR (enc := (eI .u8)) (j := 1) (off := 0) (vs := [.int .u8 xv61]) (x' := xv61) hM rfl (fun _ => rfl) hx63 sz5 rfl (addsR_eq [] rfl) rfl rfl (One.all rfl) rfl rfl) fun w65 hM1 => ?_
      clear hM
      obtain ⟨hM, hn66⟩ := hM1
      refine RL.reslot (t := 7) rfl hn66 ?_
      refine RL.reslot (t := 64) rfl hn66 ?_
      refine RL.nil ?_
      refine KQ.then_n ?_
      replace hM := hM.pick [1] rfl (by decide)
      refine KC.seq ?_
      refine KC.region ?_
      refine RL.val (O.move rfl) rfl ?_
      refine RL.val (O.assign rfl) rfl ?_
      refine RL.val (O.assign rfl) rfl ?_
      refine RL.nil ?_
      refine KQ.then_n ?_
      refine KC.ret ?_
      have hE := Option.some.inj hF
      clear hF
      subst hE
      refine KQ.rets Try.results24 (RVs.cons (RV.tm rfl) (RVs.cons (RV.tm rfl) RVs.nil)) ?_
      exact ⟨_, rfl, A17, c18, rfl, hM⟩
set_option maxRecDepth 100000 in
set_option maxHeartbeats 40000000 in
theorem c_ip_Body (w : World) (A2 : Option Addr) (c3 : Nat) (b1 : List Int) (hr4 : Rd w A2 c3 1 b1.length (b1.flatMap (eI .u8))) (r : (List Int) × Int) (hF : F_ip_Body b1 = some r) :
    CallsR Try.prog 25 [.slice A2 (b1).length c3] w (fun v w' => ∃ (A0 : Option Addr) (c0 : Nat), v = .tuple #[.slice A0 (r.1).length c0, .int .i64 r.2] ∧ Mem w [] w' [.row A0 c0 5 1 r.1.length (r.1.flatMap (eI .u8))]) := by
  refine calls_KC Try.func25 rfl Try.ntmps25 rfl ?_
  have hM := Mem.init w
  unfold F_ip_Body at hF
  refine KC.seq ?_
  refine KC.region ?_
  refine RL.val (O.assign rfl) rfl ?_
  refine RL.val (O.assign rfl) rfl ?_
  refine RL.nil ?_
  refine KQ.then_n ?_
  refine KC.seq ?_
  refine KC.region ?_
  refine RL.val (O.move rfl) rfl ?_
  refine obindE hF fun y5 hx6 hF => ?_
  refine RL.call Try.func19 bd19 rfl rfl (c_ip_Parse _ _ _ b1 (hM.inp hr4 Off.nil) _ hx6) fun v w7 hv => ?_
  obtain ⟨A9, c10, rfl, hN8⟩ := hv
  replace hM := hM.call hN8
  refine RL.val (O.move rfl) rfl ?_
  refine RL.val (O.ext rfl rfl) rfl ?_
  refine RL.val (O.ext rfl rfl) rfl ?_
  refine RL.val (O.ext rfl rfl) rfl ?_
  refine RL.eff (E.alloc hM ze39) rfl fun v w13 hv => ?_
  clear hM
  obtain ⟨g12, rfl, hM, hf⟩ := hv
  refine RL.effs (E.stB (j := 1) (off := 0) (vs := [.int .u8 y5.1.f_TOS, .int .u16 y5.1.f_Total, .int .u16 y5.1.f_ID, .bool y5.1.f_DF, .bool y5.1.f_MF, .int .u16 y5.1.f_Frag, .int .u8 y5.1.f_TTL, .int .u8 y5.1.f_Proto, .int .u8 (List.getD y5.1.f_Src 0 0), .int .u8 (List.getD y5.1.f_Src 1 0), .int .u8 (List.getD y5.1.f_Src 2 0), .int .u8 (List.getD y5.1.f_Src 3 0), .int .u8 (List.getD y5.1.f_Dst 0 0), .int .u8 (List.getD y5.1.f_Dst 1 0), .int .u8 (List.getD y5.1.f_Dst 2 0), .int .u8 (List.getD y5.1.f_Dst 3 0), .slice A9 (y5.1.f_Options).length c10]) (cs' := [.int .u8 y5.1.f_TOS, .int .u16 y5.1.f_Total, .int .u16 y5.1.f_ID, .bool y5.1.f_DF, .bool y5.1.f_MF, .int .u16 y5.1.f_Frag, .int .u8 y5.1.f_TTL, .int .u8 y5.1.f_Proto, .int .u8 (List.getD y5.1.f_Src 0 0), .int .u8 (List.getD y5.1.f_Src 1 0), .int .u8 (List.getD y5.1.f_Src 2 0), .int .u8 (List.getD y5.1.f_Src 3 0), .int .u8 (List.getD y5.1.f_Dst 0 0), .int .u8 (List.getD y5.1.f_Dst 1 0), .int .u8 (List.getD y5.1.f_Dst 2 0), .int .u8 (List.getD y5.1.f_Dst 3 0), .slice A9 (y5.1.f_Options).length c10]) hM rfl sz39 rfl (adds_eq [] rfl) rfl rfl (One.all rfl) rfl rfl) fun w15 hM1 => ?_
  clear hM
  have hM := hM1
  clear hM1
  refine RL.val (O.assign rfl) rfl ?_
  refine RL.val (O.assign rfl) rfl ?_
  refine RL.nil ?_
  refine KQ.then_n ?_
  refine KC.seq ?_
  refine KC.block ?_
  refine KC.seq ?_
  refine KC.region ?_
  refine RL.val (O.move rfl) rfl ?_
  refine RL.val (O.neq rfl rfl) rfl ?_
  refine RL.val (O.assign rfl) rfl ?_
  refine RL.nil ?_
  refine KQ.then_n ?_
  refine KC.cond rfl (fun hc => ?_) (fun hc => ?_)
  · rw [if_pos hc] at hF
    refine KC.seq ?_
    refine KC.region ?_
    refine RL.val (O.move rfl) rfl ?_
    refine RL.val (O.assign rfl) rfl ?_
    refine RL.val (O.assign rfl) rfl ?_
    refine RL.nil ?_
    refine KQ.then_n ?_
    refine KC.ret ?_
    refine KQ.blk_r ?_
    refine KQ.then_r ?_
    have hE := Option.some.inj hF
    clear hF
    subst hE
    replace hM := hM.nilrow 5 1
    replace hM := hM.pick [2] rfl (by decide)
    refine KQ.rets Try.results25 (RVs.cons (RV.tm rfl) (RVs.cons (RV.tm rfl) RVs.nil)) ?_
    exact ⟨_, rfl, none, 0, rfl, hM⟩
  · rw [if_neg (ne_true hc)] at hF
    refine KC.seq ?_
    refine KC.region ?_
    refine RL.val (O.move rfl) rfl ?_
    refine RL.val (O.len sl22 rfl) rfl ?_
    refine RL.val (O.fldA fl39_1 (by decide) rfl) rfl ?_
    refine RL.val (O.load sc36 rfl (Cs.adds [1] ((hM.bx (i := 1) rfl)) rfl)) rfl ?_
    refine RL.val (O.conv un36 Try.underlying3 rfl) rfl ?_
    refine RL.val (O.lss rfl rfl) rfl ?_
    refine RL.val (O.assign rfl) rfl ?_
    refine RL.nil ?_
    refine KQ.then_n ?_
    refine KC.cond rfl (fun hc => ?_) (fun hc => ?_)
    · rw [if_pos hc] at hF
      refine KC.seq ?_
      refine KC.region ?_
      refine RL.val (O.assign rfl) rfl ?_
      refine RL.val (O.assign rfl) rfl ?_
      refine RL.nil ?_
      refine KQ.then_n ?_
      refine KC.ret ?_
      refine KQ.blk_r ?_
      refine KQ.then_r ?_
      have hE := Option.some.inj hF
      clear hF
      subst hE
      replace hM := hM.nilrow 5 1
      replace hM := hM.pick [2] rfl (by decide)
      refine KQ.rets Try.results25 (RVs.cons (RV.tm rfl) (RVs.cons (RV.tm rfl) RVs.nil)) ?_
      exact ⟨_, rfl, none, 0, rfl, hM⟩
    · rw [if_neg (ne_true hc)] at hF
      refine KC.skip ?_
      refine KQ.blk_n ?_
      refine KQ.then_n ?_
      refine KC.seq ?_
      refine KC.region ?_
      refine RL.val (O.move rfl) rfl ?_
      refine RL.val (O.move rfl) rfl ?_
      refine RL.val (O.fldA fl39_1 (by decide) rfl) rfl ?_
      refine RL.val (O.load sc36 rfl (Cs.adds [1] ((hM.bx (i := 1) rfl)) rfl)) rfl ?_
      refine obindE hF fun cut16 hy17 hF => ?_
      obtain ⟨A18, c19, eA21, ec22⟩ := cutN A2 c3 (Int.toNat y5.2.1) 1
      have hr20 := Rd.cutT (enc := (eI .u8)) (s := 1) (fun _ => rfl) hr4 hy17 (m := c3) (by have := hr4.cap; have := (gcut_some hy17).2.2.1; omega) (Nat.le_refl _)
      rw [← eA21, ← ec22] at hr20
      refine RL.val (v := .slice A18 (cut16).length c19) (by rw [eA21, ec22]; exact O.cutT sl22 (hM.inp hr4 Off.nil) hy17 rfl rfl rfl) rfl ?_
      refine obindE hF fun y23 hx24 hF => ?_
      refine RL.call Try.func40 bd40 rfl rfl (c_slices_Clone_byte_byte _ _ _ cut16 (hM.inp hr20 Off.nil) _ hx24) fun v w25 hv => ?_
      obtain ⟨A27, c28, rfl, hN26⟩ := hv
      replace hM := hM.call hN26
      refine RL.val (O.assign rfl) rfl ?_
      refine RL.val (O.assign rfl) rfl ?_
      refine RL.nil ?_
      refine KQ.then_n ?_
      refine KC.ret ?_
      have hE := Option.some.inj hF
      clear hF
      subst hE
      replace hM := hM.pick [2] rfl (by decide)
      refine KQ.rets Try.results25 (RVs.cons (RV.tm rfl) (RVs.cons (RV.tm rfl) RVs.nil)) ?_
      exact ⟨_, rfl, A27, c28, rfl, hM⟩
set_option maxRecDepth 100000 in
set_option maxHeartbeats 40000000 in
theorem c_law05_pad (w : World) (h1 : T_ref05_Header) (r : T_ref05_Header) (hF : F_law05_pad h1 = some r) :
    CallsR Try.prog 26 [.agg #[.int .u8 h1.f_TOS, .int .u16 h1.f_Total, .int .u16 h1.f_ID, .bool h1.f_DF, .bool h1.f_MF, .int .u16 h1.f_Frag, .int .u8 h1.f_TTL, .int .u8 h1.f_Proto, .string h1.f_Src, .string h1.f_Dst, .string h1.f_Options]] w (fun v w' => v = .agg #[.int .u8 r.f_TOS, .int .u16 r.f_Total, .int .u16 r.f_ID, .bool r.f_DF, .bool r.f_MF, .int .u16 r.f_Frag, .int .u8 r.f_TTL, .int .u8 r.f_Proto, .string r.f_Src, .string r.f_Dst, .string r.f_Options] ∧ Mem w [] w' []) := by
  refine calls_KC Try.func26 rfl Try.ntmps26 rfl ?_
  have hM := Mem.init w
  unfold F_law05_pad at hF
  refine KC.seq ?_
  refine KC.region ?_
  refine RL.eff (E.box (vs := [.int .u8 h1.f_TOS, .int .u16 h1.f_Total, .int .u16 h1.f_ID, .bool h1.f_DF, .bool h1.f_MF, .int .u16 h1.f_Frag, .int .u8 h1.f_TTL, .int .u8 h1.f_Proto, .string h1.f_Src, .string h1.f_Dst, .string h1.f_Options]) hM rfl rfl) rfl fun v w3 hv => ?_
  clear hM
  obtain ⟨g2, rfl, hM, hf⟩ := hv
  refine RL.eff (E.alloc hM ze41) rfl fun v w6 hv => ?_
  clear hM
  obtain ⟨g5, rfl, hM, hf⟩ := hv
  refine RL.nil ?_
  refine KQ.then_n ?_
  refine KC.cut (fun a w14 => ∃ (h11 : ByteArray) (h12 : ByteArray), Kn 11 [(1, .pointer (some ⟨g2, 0, none⟩)), (2, .pointer (some ⟨g5, 0, none⟩))] a ∧ Mem w [] w14 [.box g2 41 [.int .u8 h1.f_TOS, .int .u16 h1.f_Total, .int .u16 h1.f_ID, .bool h1.f_DF, .bool h1.f_MF, .int .u16 h1.f_Frag, .int .u8 h1.f_TTL, .int .u8 h1.f_Proto, .string h11, .string h12, .string h1.f_Options], .box g5 41 [.int .u8 0, .int .u16 0, .int .u16 0, .bool false, .bool false, .int .u16 0, .int .u8 0, .int .u8 0, .string ByteArray.empty, .string ByteArray.empty, .string ByteArray.empty]] ∧ F_law05_pad_j1 h1 h11 h12 = some r) ?_ ?_
  · refine KC.seq ?_
    refine KC.region ?_
    refine RL.val (O.fldA fl41_8 (by decide) rfl) rfl ?_
    refine RL.val (O.load sc9 rfl (Cs.adds [8] ((hM.bx (i := 0) rfl)) rfl)) rfl ?_
    refine RL.val (O.streq rfl rfl) rfl ?_
    refine RL.nil ?_
    refine KQ.then_n ?_
    refine KC.cond rfl (fun hc => ?_) (fun hc => ?_)
    · rw [if_pos hc] at hF
      refine KC.seq ?_
      refine KC.region ?_
      refine RL.val (O.fldA fl41_8 (by decide) rfl) rfl ?_
      refine RL.effs (E.stB (j := 0) (off := 8) (vs := [.string (⟨#[0, 0, 0, 0]⟩ : ByteArray)]) (cs' := [.int .u8 h1.f_TOS, .int .u16 h1.f_Total, .int .u16 h1.f_ID, .bool h1.f_DF, .bool h1.f_MF, .int .u16 h1.f_Frag, .int .u8 h1.f_TTL, .int .u8 h1.f_Proto, .string (⟨#[0, 0, 0, 0]⟩ : ByteArray), .string h1.f_Dst, .string h1.f_Options]) hM rfl sz9 rfl (adds_eq [8] rfl) rfl rfl (One.all rfl) rfl rfl) fun w8 hM1 => ?_
      clear hM
      have hM := hM1
      clear hM1
      refine RL.nil ?_
      refine KQ.then_n ?_
      refine KC.region ?_
      refine RL.val (O.fldA fl41_8 (by decide) rfl) rfl ?_
      refine RL.val (O.load sc9 rfl (Cs.adds [8] ((hM.bx (i := 0) rfl)) rfl)) rfl ?_
      refine RL.val (O.fldA fl41_9 (by decide) rfl) rfl ?_
      refine RL.effs (E.stB (j := 0) (off := 9) (vs := [.string (⟨#[0, 0, 0, 0]⟩ : ByteArray)]) (cs' := [.int .u8 h1.f_TOS, .int .u16 h1.f_Total, .int .u16 h1.f_ID, .bool h1.f_DF, .bool h1.f_MF, .int .u16 h1.f_Frag, .int .u8 h1.f_TTL, .int .u8 h1.f_Proto, .string (⟨#[0, 0, 0, 0]⟩ : ByteArray), .string (⟨#[0, 0, 0, 0]⟩ : ByteArray), .string h1.f_Options]) hM rfl sz9 rfl (adds_eq [9] rfl) rfl rfl (One.all rfl) rfl rfl) fun w9 hM1 => ?_
      clear hM
      have hM := hM1
      clear hM1
      refine RL.nil ?_
      refine KQ.then_k ?_
      exact fun a ha => ⟨(⟨#[0, 0, 0, 0]⟩ : ByteArray), (⟨#[0, 0, 0, 0]⟩ : ByteArray), ha.less (less_cons rfl (less_cons rfl less_nil)), hM, hF⟩
    · rw [if_neg (ne_true hc)] at hF
      refine KC.skip ?_
      refine KQ.then_k ?_
      exact fun a ha => ⟨h1.f_Src, h1.f_Dst, ha.less (less_cons rfl (less_cons rfl less_nil)), hM, hF⟩
  · rintro a w14 ⟨h11, h12, ha, hM, hF⟩
    refine KC.app ha ?_
    clear ha
    unfold F_law05_pad_j1 at hF
    refine KC.seq ?_
    refine KC.region ?_
    refine RL.val (O.loadN (cs := [.int .u8 h1.f_TOS, .int .u16 h1.f_Total, .int .u16 h1.f_ID, .bool h1.f_DF, .bool h1.f_MF, .int .u16 h1.f_Frag, .int .u8 h1.f_TTL, .int .u8 h1.f_Proto, .string h11, .string h12, .string h1.f_Options]) ag41 rfl (Cs.addsN [] ((hM.bx (i := 0) rfl)) rfl)) rfl ?_
    refine RL.effs (E.stB (j := 1) (off := 0) (vs := [.int .u8 h1.f_TOS, .int .u16 h1.f_Total, .int .u16 h1.f_ID, .bool h1.f_DF, .bool h1.f_MF, .int .u16 h1.f_Frag, .int .u8 h1.f_TTL, .int .u8 h1.f_Proto, .string h11, .string h12, .string h1.f_Options]) (cs' := [.int .u8 h1.f_TOS, .int .u16 h1.f_Total, .int .u16 h1.f_ID, .bool h1.f_DF, .bool h1.f_MF, .int .u16 h1.f_Frag, .int .u8 h1.f_TTL, .int .u8 h1.f_Proto, .string h11, .string h12, .string h1.f_Options]) hM rfl sz41 rfl (adds_eq [] rfl) rfl rfl (One.all rfl) rfl rfl) fun w15 hM1 => ?_
    clear hM
    have hM := hM1
    clear hM1
    refine RL.nil ?_
    refine KQ.then_n ?_
    refine KC.ret ?_
    have hE := Option.some.inj hF
    clear hF
    subst hE
    have hb16 := hM.bx (i := 1) rfl
    replace hM := hM.pick [] rfl (by decide)
    refine KQ.rets Try.results26 (RVs.cons (RV.cN (cs := [.int .u8 h1.f_TOS, .int .u16 h1.f_Total, .int .u16 h1.f_ID, .bool h1.f_DF, .bool h1.f_MF, .int .u16 h1.f_Frag, .int .u8 h1.f_TTL, .int .u8 h1.f_Proto, .string h11, .string h12, .string h1.f_Options]) rfl ag41 hb16) RVs.nil) ?_
    exact ⟨_, rfl, rfl, hM⟩
end Go.Proofs.Ytjfdfjmnajjjaaa
