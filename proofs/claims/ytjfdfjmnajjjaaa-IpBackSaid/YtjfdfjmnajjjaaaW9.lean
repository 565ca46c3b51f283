/- Printed by a program of this claim: each call returns what the plain function of its name gives. -/
import Derived.Test.YtjfdfjmnajjjaaaW1
import Derived.Test.YtjfdfjmnajjjaaaW8
set_option linter.unusedVariables false
namespace Go.Proofs.Ytjfdfjmnajjjaaa
open Go Go.Ox Go.RowKit
set_option maxRecDepth 100000 in
set_option maxHeartbeats 40000000 in
theorem c_ref01_Put_R : ∀ (kf : Nat) (w : World) (v1 : Int) (size2 : Int) (r : (List Int)) (hF : F_ref01_Put_R kf v1 size2 = some r),
    CallsR Try.prog 45 [.int .u64 v1, .int .i64 size2] w (fun v w' => ∃ (A0 : Option Addr) (c0 : Nat), v = .slice A0 (r).length c0 ∧ Mem w [] w' [.row A0 c0 5 1 r.length (r.flatMap (eI .u8))]) := by
  intro kf
  induction kf with
  | zero => intro w v1 size2 r hF; exact (none_some hF).elim
  | succ kf ih =>
    intro w v1 size2 r hF
    refine calls_KC Try.func45 rfl Try.ntmps45 rfl ?_
    have hM := Mem.init w
    have hF : F_ref01_Put_B (F_ref01_Put_R kf) v1 size2 = some r := hF
    unfold F_ref01_Put_B at hF
    refine KC.seq ?_
    refine KC.region ?_
    refine RL.val (O.assign rfl) rfl ?_
    refine RL.nil ?_
    refine KQ.then_n ?_
    refine KC.seq ?_
    refine KC.seq ?_
    refine KC.region ?_
    refine RL.val (O.move rfl) rfl ?_
    refine RL.val (O.eql rfl rfl) rfl ?_
    refine RL.nil ?_
    refine KQ.then_n ?_
    refine KC.cond rfl (fun hc => ?_) (fun hc => ?_)
    · rw [if_pos hc] at hF
      refine KC.seq ?_
      refine KC.region ?_
      refine RL.val (O.assign rfl) rfl ?_
      refine RL.nil ?_
      refine KQ.then_n ?_
      refine KC.ret ?_
      refine KQ.then_r ?_
      have hE := Option.some.inj hF
      clear hF
      subst hE
      replace hM := hM.nilrow 5 1
      refine KQ.rets Try.results45 (RVs.cons (RV.tm rfl) RVs.nil) ?_
      exact ⟨_, rfl, none, 0, rfl, hM⟩
    · rw [if_neg (ne_true hc)] at hF
      refine KC.skip ?_
      refine KQ.then_n ?_
      refine KC.seq ?_
      refine KC.region ?_
      refine RL.val (O.move rfl) rfl ?_
      refine RL.val (O.quo rfl rfl (by decide)) rfl ?_
      refine RL.val (O.move rfl) rfl ?_
      refine RL.val (O.sub rfl rfl) rfl ?_
      refine obindE hF fun y3 hx4 hF => ?_
      refine RL.call Try.func45 bd45 rfl rfl (ih _ (IntKind.u64.wrap (Int.tdiv v1 256)) (IntKind.i64.wrap (size2 - 1)) _ hx4) fun v w5 hv => ?_
      obtain ⟨A7, c8, rfl, hN6⟩ := hv
      replace hM := hM.call hN6
      refine RL.val (O.move rfl) rfl ?_
      refine RL.val (O.rem rfl rfl (by decide)) rfl ?_
      refine RL.val (O.conv un70 Try.underlying5 rfl) rfl ?_
      refine RL.eff (E.bsl (enc := (eI .u8)) (xs := ([(IntKind.u8.wrap (Int.tmod v1 256))] : List Int)) hM sl22 ze5 rfl rfl rfl (fun _ => rfl) rfl (by kernel_rfl) rfl) rfl fun v w10 hv => ?_
      clear hM
      obtain ⟨A11, rfl, hM, hf⟩ := hv
      refine cut_someE hF fun hq16 hF => ?_
      refine RL.eff (E.app (enc := (eI .u8)) (xs := y3) (ys := ([(IntKind.u8.wrap (Int.tmod v1 256))] : List Int)) (j := 0) hM rfl sl22 ze5 rfl rfl rfl rfl rfl (hM.rd (i := 1) rfl) (fun _ => One.all rfl) (of_decide_eq_true hq16)) rfl fun v w15 hv => ?_
      clear hM
      obtain ⟨A13, c14, rfl, hM, hf⟩ := hv
      refine RL.val (O.assign rfl) rfl ?_
      refine RL.nil ?_
      refine KQ.then_n ?_
      refine KC.ret ?_
      have hE := Option.some.inj hF
      clear hF
      subst hE
      replace hM := hM.pick [0] rfl (by decide)
      refine KQ.rets Try.results45 (RVs.cons (RV.tm rfl) RVs.nil) ?_
      exact ⟨_, rfl, A13, c14, rfl, hM⟩
theorem c_ref01_Put (w : World) (v1 : Int) (size2 : Int) (r : (List Int)) (hF : F_ref01_Put v1 size2 = some r) :
    CallsR Try.prog 45 [.int .u64 v1, .int .i64 size2] w (fun v w' => ∃ (A0 : Option Addr) (c0 : Nat), v = .slice A0 (r).length c0 ∧ Mem w [] w' [.row A0 c0 5 1 r.length (r.flatMap (eI .u8))]) := c_ref01_Put_R fuel0 w v1 size2 r hF
set_option maxRecDepth 100000 in
set_option maxHeartbeats 40000000 in
theorem c_ref01_Join (w : World) (A2 : Option Addr) (c3 : Nat) (av1 : List Int) (hr4 : Rd w A2 c3 1 av1.length (av1.flatMap (eI .u8))) (A6 : Option Addr) (c7 : Nat) (b5 : List Int) (hr8 : Rd w A6 c7 1 b5.length (b5.flatMap (eI .u8))) (r : (List Int)) (hF : F_ref01_Join av1 b5 = some r) :
    CallsR Try.prog 18 [.slice A2 (av1).length c3, .slice A6 (b5).length c7] w (fun v w' => ∃ (A0 : Option Addr) (c0 : Nat), v = .slice A0 (r).length c0 ∧ Mem w [] w' [.row A0 c0 5 1 r.length (r.flatMap (eI .u8))]) := by
  refine calls_KC Try.func18 rfl Try.ntmps18 rfl ?_
  have hM := Mem.init w
  unfold F_ref01_Join at hF
  refine KC.seq ?_
  refine KC.region ?_
  refine RL.val (O.assign rfl) rfl ?_
  refine RL.nil ?_
  refine KQ.then_n ?_
  refine KC.seq ?_
  refine KC.region ?_
  refine RL.val (O.assign rfl) rfl ?_
  refine RL.nil ?_
  refine KQ.then_n ?_
  refine KC.seq ?_
  refine KC.region ?_
  refine RL.val (O.move rfl) rfl ?_
  refine RL.val (O.move rfl) rfl ?_
  refine cut_someE hF fun hq12 hF => ?_
  refine RL.eff (E.app0 (enc := (eI .u8)) (ys := av1) hM sl22 ze5 rfl rfl rfl rfl rfl (hM.inp hr4 Off.nil) (fun _ => One.all rfl) (of_decide_eq_true hq12)) rfl fun v w11 hv => ?_
  clear hM
  obtain ⟨A9, c10, rfl, hM, hf⟩ := hv
  refine RL.val (O.assign rfl) rfl ?_
  refine RL.nil ?_
  refine KQ.then_n ?_
  refine KC.seq ?_
  refine KC.region ?_
  refine RL.val (O.move rfl) rfl ?_
  refine RL.val (O.move rfl) rfl ?_
  refine cut_someE hF fun hq17 hF => ?_
  refine RL.eff (E.app (enc := (eI .u8)) (xs := av1) (ys := b5) (j := 0) hM rfl sl22 ze5 rfl rfl rfl rfl rfl (hM.inp hr8 Off.nil) (fun _ => One.all rfl) (of_decide_eq_true hq17)) rfl fun v w16 hv => ?_
  clear hM
  obtain ⟨A14, c15, rfl, hM, hf⟩ := hv
  refine RL.val (O.assign rfl) rfl ?_
  refine RL.nil ?_
  refine KQ.then_n ?_
  refine KC.ret ?_
  have hE := Option.some.inj hF
  clear hF
  subst hE
  refine KQ.rets Try.results18 (RVs.cons (RV.tm rfl) RVs.nil) ?_
  exact ⟨_, rfl, A14, c15, rfl, hM⟩
set_option maxRecDepth 100000 in
set_option maxHeartbeats 40000000 in
theorem c_ref05_bit (w : World) (isv1 : Bool) (nv2 : Int) (r : Int) (hF : F_ref05_bit isv1 nv2 = some r) :
    CallsR Try.prog 48 [.bool isv1, .int .u64 nv2] w (fun v w' => v = .int .u64 r ∧ Mem w [] w' []) := by
  refine calls_KC Try.func48 rfl Try.ntmps48 rfl ?_
  have hM := Mem.init w
  unfold F_ref05_bit at hF
  refine KC.seq ?_
  refine KC.region ?_
  refine RL.val (O.assign rfl) rfl ?_
  refine RL.nil ?_
  refine KQ.then_n ?_
  refine KC.seq ?_
  refine KC.seq ?_
  refine KC.region ?_
  refine RL.val (O.move rfl) rfl ?_
  refine RL.nil ?_
  refine KQ.then_n ?_
  refine KC.cond rfl (fun hc => ?_) (fun hc => ?_)
  · rw [if_pos hc] at hF
    refine KC.seq ?_
    refine KC.region ?_
    refine RL.val (O.move rfl) rfl ?_
    refine RL.val (O.assign rfl) rfl ?_
    refine RL.nil ?_
    refine KQ.then_n ?_
    refine KC.ret ?_
    refine KQ.then_r ?_
    have hE := Option.some.inj hF
    clear hF
    subst hE
    refine KQ.rets Try.results48 (RVs.cons (RV.tm rfl) RVs.nil) ?_
    exact ⟨_, rfl, rfl, hM⟩
  · rw [if_neg (ne_true hc)] at hF
    refine KC.skip ?_
    refine KQ.then_n ?_
    refine KC.seq ?_
    refine KC.region ?_
    refine RL.val (O.assign rfl) rfl ?_
    refine RL.nil ?_
    refine KQ.then_n ?_
    refine KC.ret ?_
    have hE := Option.some.inj hF
    clear hF
    subst hE
    refine KQ.rets Try.results48 (RVs.cons (RV.tm rfl) RVs.nil) ?_
    exact ⟨_, rfl, rfl, hM⟩
set_option maxRecDepth 100000 in
set_option maxHeartbeats 40000000 in
theorem c_ref05_stands (w : World) (h1 : T_ref05_Header) (sum2 : Int) (r : (List Int)) (hF : F_ref05_stands h1 sum2 = some r) :
    CallsR Try.prog 28 [.agg #[.int .u8 h1.f_TOS, .int .u16 h1.f_Total, .int .u16 h1.f_ID, .bool h1.f_DF, .bool h1.f_MF, .int .u16 h1.f_Frag, .int .u8 h1.f_TTL, .int .u8 h1.f_Proto, .string h1.f_Src, .string h1.f_Dst, .string h1.f_Options], .int .u16 sum2] w (fun v w' => ∃ (A0 : Option Addr) (c0 : Nat), v = .slice A0 (r).length c0 ∧ Mem w [] w' [.row A0 c0 5 1 r.length (r.flatMap (eI .u8))]) := by
  refine calls_KC Try.func28 rfl Try.ntmps28 rfl ?_
  have hM := Mem.init w
  unfold F_ref05_stands at hF
  refine KC.seq ?_
  refine KC.region ?_
  refine RL.eff (E.box (vs := [.int .u8 h1.f_TOS, .int .u16 h1.f_Total, .int .u16 h1.f_ID, .bool h1.f_DF, .bool h1.f_MF, .int .u16 h1.f_Frag, .int .u8 h1.f_TTL, .int .u8 h1.f_Proto, .string h1.f_Src, .string h1.f_Dst, .string h1.f_Options]) hM rfl rfl) rfl fun v w4 hv => ?_
  clear hM
  obtain ⟨g3, rfl, hM, hf⟩ := hv
  refine RL.val (O.assign rfl) rfl ?_
  refine RL.nil ?_
  refine KQ.then_n ?_
  refine KC.seq ?_
  refine KC.region ?_
  refine RL.val (O.fldA fl41_10 (by decide) rfl) rfl ?_
  refine RL.val (O.load sc9 rfl (Cs.adds [10] ((hM.bx (i := 0) rfl)) rfl)) rfl ?_
  refine RL.val (O.lens Try.underlying9 rfl) rfl ?_
  refine RL.val (O.add rfl rfl) rfl ?_
  refine RL.val (O.quo rfl rfl (by decide)) rfl ?_
  refine RL.val (O.add rfl rfl) rfl ?_
  refine RL.val (O.conv un3 Try.underlying70 rfl) rfl ?_
  refine obindE hF fun y6 hx7 hF => ?_
  refine RL.call Try.func45 bd45 rfl rfl (c_ref01_Put _ (IntKind.u64.wrap (IntKind.i64.wrap (64 + (IntKind.i64.wrap (Int.tdiv (IntKind.i64.wrap (20 + (h1.f_Options.size : Int))) 4))))) 1 _ hx7) fun v w8 hv => ?_
  obtain ⟨A10, c11, rfl, hN9⟩ := hv
  replace hM := hM.call hN9
  refine RL.val (O.assign rfl) rfl ?_
  refine RL.nil ?_
  refine KQ.then_n ?_
  refine KC.seq ?_
  refine KC.region ?_
  refine RL.val (O.move rfl) rfl ?_
  refine RL.val (O.fldA fl41_0 (by decide) rfl) rfl ?_
  refine RL.val (O.load sc5 rfl (Cs.adds [0] ((hM.bx (i := 0) rfl)) rfl)) rfl ?_
  refine RL.eff (E.bsl (enc := (eI .u8)) (xs := ([h1.f_TOS] : List Int)) hM sl22 ze5 rfl rfl rfl (fun _ => rfl) rfl (by kernel_rfl) rfl) rfl fun v w13 hv => ?_
  clear hM
  obtain ⟨A14, rfl, hM, hf⟩ := hv
  refine cut_someE hF fun hq19 hF => ?_
  refine RL.eff (E.app (enc := (eI .u8)) (xs := y6) (ys := ([h1.f_TOS] : List Int)) (j := 1) hM rfl sl22 ze5 rfl rfl rfl rfl rfl (hM.rd (i := 2) rfl) (fun _ => One.all rfl) (of_decide_eq_true hq19)) rfl fun v w18 hv => ?_
  clear hM
  obtain ⟨A16, c17, rfl, hM, hf⟩ := hv
  refine RL.val (O.assign rfl) rfl ?_
  refine RL.nil ?_
  refine KQ.then_n ?_
  refine KC.seq ?_
  refine KC.region ?_
  refine RL.val (O.move rfl) rfl ?_
  refine RL.val (O.fldA fl41_1 (by decide) rfl) rfl ?_
  refine RL.val (O.load sc36 rfl (Cs.adds [1] ((hM.bx (i := 0) rfl)) rfl)) rfl ?_
  refine RL.val (O.conv un36 Try.underlying70 rfl) rfl ?_
  refine obindE hF fun y21 hx22 hF => ?_
  refine RL.call Try.func45 bd45 rfl rfl (c_ref01_Put _ (IntKind.u64.wrap h1.f_Total) 2 _ hx22) fun v w23 hv => ?_
  obtain ⟨A25, c26, rfl, hN24⟩ := hv
  replace hM := hM.call hN24
  refine obindE hF fun y28 hx29 hF => ?_
  refine RL.call Try.func18 bd18 rfl rfl (c_ref01_Join _ _ _ (y6 ++ ([h1.f_TOS] : List Int)) (hM.rd (i := 1) rfl) _ _ y21 (hM.rd (i := 3) rfl) _ hx29) fun v w30 hv => ?_
  obtain ⟨A32, c33, rfl, hN31⟩ := hv
  replace hM := hM.call hN31
  refine RL.val (O.assign rfl) rfl ?_
  refine RL.nil ?_
  refine KQ.then_n ?_
  replace hM := hM.pick [0, 4] rfl (by decide)
  refine KC.seq ?_
  refine KC.region ?_
  refine RL.val (O.move rfl) rfl ?_
  refine RL.val (O.fldA fl41_2 (by decide) rfl) rfl ?_
  refine RL.val (O.load sc36 rfl (Cs.adds [2] ((hM.bx (i := 0) rfl)) rfl)) rfl ?_
  refine RL.val (O.conv un36 Try.underlying70 rfl) rfl ?_
  refine obindE hF fun y35 hx36 hF => ?_
  refine RL.call Try.func45 bd45 rfl rfl (c_ref01_Put _ (IntKind.u64.wrap h1.f_ID) 2 _ hx36) fun v w37 hv => ?_
  obtain ⟨A39, c40, rfl, hN38⟩ := hv
  replace hM := hM.call hN38
  refine obindE hF fun y42 hx43 hF => ?_
  refine RL.call Try.func18 bd18 rfl rfl (c_ref01_Join _ _ _ y28 (hM.rd (i := 1) rfl) _ _ y35 (hM.rd (i := 2) rfl) _ hx43) fun v w44 hv => ?_
  obtain ⟨A46, c47, rfl, hN45⟩ := hv
  replace hM := hM.call hN45
  refine RL.val (O.assign rfl) rfl ?_
  refine RL.nil ?_
  refine KQ.then_n ?_
  replace hM := hM.pick [0, 3] rfl (by decide)
  refine KC.seq ?_
  replace hM := hM.drewN 1
  refine KC.draw [] [] [3, 6, 12, 13] [0, 1, 4, 7, 8, 10, 11, 14] (.ofList [0, 1, 2, 4, 5, 8, 9, 10, 3, 6, 7, 11, 12, 13, 14]) moP (by kernel_rfl) ?_
  refine RD.p rfl rfl rfl rfl (fun w' => O.move rfl) ?_
  refine RD.p rfl rfl rfl rfl (fun w' => O.fldA fl41_3 (by decide) rfl) ?_
  refine RD.q rfl rfl rfl rfl (fun w' hf => O.load sc4 rfl (Cs.adds [3] ((hM.bx (i := 0) rfl).fut hf) rfl)) ?_
  refine RD.p rfl rfl rfl rfl (fun w' => O.fldA fl41_4 (by decide) rfl) ?_
  refine RD.q rfl rfl rfl rfl (fun w' hf => O.load sc4 rfl (Cs.adds [4] ((hM.bx (i := 0) rfl).fut hf) rfl)) ?_
  refine RD.p rfl rfl rfl rfl (fun w' => O.fldA fl41_5 (by decide) rfl) ?_
  refine RD.q rfl rfl rfl rfl (fun w' hf => O.load sc36 rfl (Cs.adds [5] ((hM.bx (i := 0) rfl).fut hf) rfl)) ?_
  refine RD.p rfl rfl rfl rfl (fun w' => O.conv un36 Try.underlying70 rfl) ?_
  refine obindE hF fun y49 hx50 hF => ?_
  refine RD.mcall rfl rfl trivial Try.func48 bd48 rfl rfl (c_ref05_bit _ h1.f_DF 16384 _ hx50) fun v w51 hv => ?_
  obtain ⟨rfl, hN52⟩ := hv
  refine ⟨fun _ => hN52.fut, ?_⟩
  replace hM := hM.call0 hN52
  refine obindE hF fun y53 hx54 hF => ?_
  refine RD.mcall rfl rfl trivial Try.func48 bd48 rfl rfl (c_ref05_bit _ h1.f_MF 8192 _ hx54) fun v w55 hv => ?_
  obtain ⟨rfl, hN56⟩ := hv
  refine ⟨fun _ => hN56.fut, ?_⟩
  replace hM := hM.call0 hN56
  refine RD.p rfl rfl rfl rfl (fun w' => O.add rfl rfl) ?_
  refine RD.p rfl rfl rfl rfl (fun w' => O.add rfl rfl) ?_
  refine obindE hF fun y57 hx58 hF => ?_
  refine RD.mcall rfl rfl trivial Try.func45 bd45 rfl rfl (c_ref01_Put _ (IntKind.u64.wrap ((IntKind.u64.wrap (y49 + y53)) + (IntKind.u64.wrap h1.f_Frag))) 2 _ hx58) fun v w59 hv => ?_
  obtain ⟨A61, c62, rfl, hN60⟩ := hv
  refine ⟨fun _ => hN60.fut, ?_⟩
  replace hM := hM.call hN60
  refine obindE hF fun y64 hx65 hF => ?_
  refine RD.mcall rfl rfl trivial Try.func18 bd18 rfl rfl (c_ref01_Join _ _ _ y42 (hM.rd (i := 1) rfl) _ _ y57 (hM.rd (i := 2) rfl) _ hx65) fun v w66 hv => ?_
  obtain ⟨A68, c69, rfl, hN67⟩ := hv
  refine ⟨fun _ => hN67.fut, ?_⟩
  replace hM := hM.call hN67
  refine RD.p rfl rfl rfl rfl (fun w' => O.assign rfl) ?_
  refine RD.nil ?_
  refine KQ.then_n ?_
  replace hM := hM.pick [0, 3] rfl (by decide)
  refine KC.seq ?_
  refine KC.region ?_
  refine RL.val (O.move rfl) rfl ?_
  refine RL.val (O.fldA fl41_6 (by decide) rfl) rfl ?_
  refine RL.val (O.load sc5 rfl (Cs.adds [6] ((hM.bx (i := 0) rfl)) rfl)) rfl ?_
  refine RL.val (O.fldA fl41_7 (by decide) rfl) rfl ?_
  refine RL.val (O.load sc5 rfl (Cs.adds [7] ((hM.bx (i := 0) rfl)) rfl)) rfl ?_
  refine RL.eff (E.bsl (enc := (eI .u8)) (xs := ([h1.f_TTL, h1.f_Proto] : List Int)) hM sl22 ze5 rfl rfl rfl (fun _ => rfl) rfl (by kernel_rfl) rfl) rfl fun v w71 hv => ?_
  clear hM
  obtain ⟨A72, rfl, hM, hf⟩ := hv
  refine cut_someE hF fun hq77 hF => ?_
  refine RL.eff (E.app (enc := (eI .u8)) (xs := y64) (ys := ([h1.f_TTL, h1.f_Proto] : List Int)) (j := 1) hM rfl sl22 ze5 rfl rfl rfl rfl rfl (hM.rd (i := 2) rfl) (fun _ => One.all rfl) (of_decide_eq_true hq77)) rfl fun v w76 hv => ?_
  clear hM
  obtain ⟨A74, c75, rfl, hM, hf⟩ := hv
  refine RL.val (O.assign rfl) rfl ?_
  refine RL.nil ?_
  refine KQ.then_n ?_
  refine KC.seq ?_
  refine KC.region ?_
  refine RL.val (O.move rfl) rfl ?_
  refine RL.val (O.move rfl) rfl ?_
  refine RL.val (O.conv un36 Try.underlying70 rfl) rfl ?_
  refine obindE hF fun y79 hx80 hF => ?_
  refine RL.call Try.func45 bd45 rfl rfl (c_ref01_Put _ (IntKind.u64.wrap sum2) 2 _ hx80) fun v w81 hv => ?_
  obtain ⟨A83, c84, rfl, hN82⟩ := hv
  replace hM := hM.call hN82
  refine obindE hF fun y86 hx87 hF => ?_
  refine RL.call Try.func18 bd18 rfl rfl (c_ref01_Join _ _ _ (y64 ++ ([h1.f_TTL, h1.f_Proto] : List Int)) (hM.rd (i := 1) rfl) _ _ y79 (hM.rd (i := 3) rfl) _ hx87) fun v w88 hv => ?_
  obtain ⟨A90, c91, rfl, hN89⟩ := hv
  replace hM := hM.call hN89
  refine RL.val (O.assign rfl) rfl ?_
  refine RL.nil ?_
  refine KQ.then_n ?_
  replace hM := hM.pick [0, 4] rfl (by decide)
  refine KC.seq ?_
  refine KC.region ?_
  refine RL.val (O.move rfl) rfl ?_
  refine RL.val (O.fldA fl41_8 (by decide) rfl) rfl ?_
  refine RL.val (O.load sc9 rfl (Cs.adds [8] ((hM.bx (i := 0) rfl)) rfl)) rfl ?_
  refine RL.val (O.fldA fl41_9 (by decide) rfl) rfl ?_
  refine RL.val (O.load sc9 rfl (Cs.adds [9] ((hM.bx (i := 0) rfl)) rfl)) rfl ?_
  refine cut_someE hF fun hq93 hF => ?_
  refine RL.val (O.addS (of_decide_eq_true hq93) rfl rfl) rfl ?_
  refine RL.val (O.fldA fl41_10 (by decide) rfl) rfl ?_
  refine RL.val (O.load sc9 rfl (Cs.adds [10] ((hM.bx (i := 0) rfl)) rfl)) rfl ?_
  refine cut_someE hF fun hq94 hF => ?_
  refine RL.val (O.addS (of_decide_eq_true hq94) rfl rfl) rfl ?_
  refine cut_someE hF fun hq98 hF => ?_
  refine RL.eff (E.s2b hM Try.underlying9 sl22 Try.underlying5 rfl (of_decide_eq_true hq98)) rfl fun v w97 hv => ?_
  clear hM
  obtain ⟨A95, c96, Z99, rfl, hM, hf⟩ := hv
  refine obindE hF fun y101 hx102 hF => ?_
  refine RL.call Try.func18 bd18 rfl rfl (c_ref01_Join _ _ _ y86 (hM.rd (i := 1) rfl) _ _ (numsOfStr ((h1.f_Src ++ h1.f_Dst) ++ h1.f_Options)) (hM.rdP (i := 2) rfl) _ hx102) fun v w103 hv => ?_
  obtain ⟨A105, c106, rfl, hN104⟩ := hv
  replace hM := hM.call hN104
  refine RL.val (O.assign rfl) rfl ?_
  refine RL.nil ?_
  refine KQ.then_n ?_
  refine KC.ret ?_
  have hE := Option.some.inj hF
  clear hF
  subst hE
  replace hM := hM.pick [3] rfl (by decide)
  refine KQ.rets Try.results28 (RVs.cons (RV.tm rfl) RVs.nil) ?_
  exact ⟨_, rfl, A105, c106, rfl, hM⟩
set_option maxRecDepth 100000 in
set_option maxHeartbeats 40000000 in
theorem c_ref03_Words (w : World) (A2 : Option Addr) (c3 : Nat) (b1 : List Int) (hr4 : Rd w A2 c3 1 b1.length (b1.flatMap (eI .u8))) (r : (List Int)) (hF : F_ref03_Words b1 = some r) :
    CallsR Try.prog 60 [.slice A2 (b1).length c3] w (fun v w' => ∃ (A0 : Option Addr) (c0 : Nat), v = .slice A0 (r).length c0 ∧ Mem w [] w' [.row A0 c0 70 1 r.length (r.flatMap (eI .u64))]) := by
  refine calls_KC Try.func60 rfl Try.ntmps60 rfl ?_
  have hM := Mem.init w
  unfold F_ref03_Words at hF
  refine KC.seq ?_
  refine KC.region ?_
  refine RL.val (O.assign rfl) rfl ?_
  refine RL.nil ?_
  refine KQ.then_n ?_
  refine KC.seq ?_
  refine KC.region ?_
  refine RL.val (O.assign rfl) rfl ?_
  refine RL.nil ?_
  refine KQ.then_n ?_
  refine KC.seq ?_
  refine KC.seq ?_
  refine KC.region ?_
  refine RL.val (O.assign rfl) rfl ?_
  refine RL.nil ?_
  refine KQ.then_n ?_
  refine KC.block ?_
  refine KC.loop (fun k50 a w48 => ∃ (A44 : Option Addr) (c45 : Nat) (out46 : List Int) (i47 : Int), Kn 36 [(0, .slice A2 (b1).length c3), (3, .slice A44 (out46).length c45), (4, .int .i64 i47)] a ∧ Mem w [] w48 [.row A44 c45 70 1 (out46).length ((out46).flatMap (eI .u64))] ∧ F_ref03_Words_L1 b1 k50 out46 i47 = some r) ?_ ?_
  · replace hM := hM.nilrow 70 1
    exact fun a ha => ⟨fuel0, none, 0, ([]), 0, ha.less (less_cons rfl (less_cons rfl (less_cons rfl less_nil))), hM, hF⟩
  · rintro k50 a w48 ⟨A44, c45, out46, i47, ha, hM, hF⟩
    refine KC.app ha ?_
    clear ha
    cases k50 with
    | zero => exact (none_some hF).elim
    | succ k50 =>
    have hF : F_ref03_Words_l1 (F_ref03_Words_L1 b1 k50) b1 out46 i47 = some r := hF
    unfold F_ref03_Words_l1 at hF
    refine KC.seq ?_
    refine KC.seq ?_
    refine KC.region ?_
    refine RL.val (O.move rfl) rfl ?_
    refine RL.val (O.move rfl) rfl ?_
    refine RL.val (O.len sl22 rfl) rfl ?_
    refine RL.val (O.lss rfl rfl) rfl ?_
    refine RL.nil ?_
    refine KQ.then_n ?_
    refine KC.cond rfl (fun hc => ?_) (fun hc => ?_)
    · rw [if_pos hc] at hF
      refine KC.skip ?_
      refine KQ.then_n ?_
      refine KC.seq ?_
      refine KC.block ?_
      refine KC.seq ?_
      refine KC.region ?_
      refine RL.val (O.move rfl) rfl ?_
      refine RL.val (O.move rfl) rfl ?_
      refine obindE hF fun xv53 hx52 hF => ?_
      have hA51 := Rd.atN (f := (eI .u8)) (s := 1) (fun _ => rfl) (by decide) (hM.inp hr4 Off.nil) hx52
      refine RL.val (O.idxA sl22 (hA51) rfl rfl) rfl ?_
      refine RL.val (O.load sc5 rfl (hA51).cells.at0) rfl ?_
      refine RL.val (O.conv un5 Try.underlying70 rfl) rfl ?_
      refine RL.val (O.mul rfl rfl) rfl ?_
      refine RL.val (O.assign rfl) rfl ?_
      refine RL.nil ?_
      refine KQ.then_n ?_
      refine KC.cut (fun a w59 => ∃ (nv58 : Int), Kn 36 [(0, .slice A2 (b1).length c3), (3, .slice A44 (out46).length c45), (4, .int .i64 i47), (5, .int .u64 nv58)] a ∧ Mem w [] w59 [.row A44 c45 70 1 (out46).length ((out46).flatMap (eI .u64))] ∧ F_ref03_Words_j1 out46 i47 (F_ref03_Words_L1 b1 k50) nv58 = some r) ?_ ?_
      · refine KC.seq ?_
        refine KC.region ?_
        refine RL.val (O.move rfl) rfl ?_
        refine RL.val (O.add rfl rfl) rfl ?_
        refine RL.val (O.move rfl) rfl ?_
        refine RL.val (O.len sl22 rfl) rfl ?_
        refine RL.val (O.lss rfl rfl) rfl ?_
        refine RL.nil ?_
        refine KQ.then_n ?_
        refine KC.cond rfl (fun hc => ?_) (fun hc => ?_)
        · rw [if_pos hc] at hF
          refine KC.region ?_
          refine RL.val (O.move rfl) rfl ?_
          refine RL.val (O.move rfl) rfl ?_
          refine RL.val (O.move rfl) rfl ?_
          refine RL.val (O.add rfl rfl) rfl ?_
          refine obindE hF fun xv56 hx55 hF => ?_
          have hA54 := Rd.atN (f := (eI .u8)) (s := 1) (fun _ => rfl) (by decide) (hM.inp hr4 Off.nil) hx55
          refine RL.val (O.idxA sl22 (hA54) rfl rfl) rfl ?_
          refine RL.val (O.load sc5 rfl (hA54).cells.at0) rfl ?_
          refine RL.val (O.conv un5 Try.underlying70 rfl) rfl ?_
          refine RL.val (O.add rfl rfl) rfl ?_
          refine RL.val (O.assign rfl) rfl ?_
          refine RL.nil ?_
          refine KQ.then_k ?_
          exact fun a ha => ⟨(IntKind.u64.wrap ((IntKind.u64.wrap ((IntKind.u64.wrap xv53) * 256)) + (IntKind.u64.wrap xv56))), ha.less (less_cons rfl (less_cons rfl (less_cons rfl (less_cons rfl less_nil)))), hM, hF⟩
        · rw [if_neg (ne_true hc)] at hF
          refine KC.skip ?_
          refine KQ.then_k ?_
          exact fun a ha => ⟨(IntKind.u64.wrap ((IntKind.u64.wrap xv53) * 256)), ha.less (less_cons rfl (less_cons rfl (less_cons rfl (less_cons rfl less_nil)))), hM, hF⟩
      · rintro a w59 ⟨nv58, ha, hM, hF⟩
        refine KC.app ha ?_
        clear ha
        unfold F_ref03_Words_j1 at hF
        refine KC.region ?_
        refine RL.val (O.move rfl) rfl ?_
        refine RL.val (O.move rfl) rfl ?_
        refine RL.eff (E.bsl (enc := (eI .u64)) (xs := ([nv58] : List Int)) hM sl88 ze70 rfl rfl rfl (fun _ => rfl) rfl (by kernel_rfl) rfl) rfl fun v w60 hv => ?_
        clear hM
        obtain ⟨A61, rfl, hM, hf⟩ := hv
        refine cut_someE hF fun hq66 hF => ?_
        refine RL.eff (E.app (enc := (eI .u64)) (xs := out46) (ys := ([nv58] : List Int)) (j := 0) hM rfl sl88 ze70 rfl rfl rfl rfl rfl (hM.rd (i := 1) rfl) (fun _ => One.all rfl) (of_decide_eq_true hq66)) rfl fun v w65 hv => ?_
        clear hM
        obtain ⟨A63, c64, rfl, hM, hf⟩ := hv
        refine RL.val (O.assign rfl) rfl ?_
        refine RL.nil ?_
        refine KQ.blk_n ?_
        refine KQ.then_n ?_
        refine KC.region ?_
        refine RL.val (O.move rfl) rfl ?_
        refine RL.val (O.add rfl rfl) rfl ?_
        refine RL.val (O.assign rfl) rfl ?_
        refine RL.nil ?_
        refine KQ.then_k ?_
        replace hM := hM.pick [0] rfl (by decide)
        exact fun a ha => ⟨k50, Nat.lt_succ_self k50, A63, c64, (out46 ++ ([nv58] : List Int)), (IntKind.i64.wrap (i47 + 2)), ha.less (less_cons rfl (less_cons rfl (less_cons rfl less_nil))), hM, hF⟩
    · rw [if_neg (ne_true hc)] at hF
      refine KC.exit ?_
      refine KQ.then_x ?_
      refine KQ.then_x ?_
      refine KQ.blk_x ?_
      refine KQ.then_n ?_
      refine KC.seq ?_
      refine KC.region ?_
      refine RL.val (O.move rfl) rfl ?_
      refine RL.val (O.assign rfl) rfl ?_
      refine RL.nil ?_
      refine KQ.then_n ?_
      refine KC.ret ?_
      have hE := Option.some.inj hF
      clear hF
      subst hE
      refine KQ.rets Try.results60 (RVs.cons (RV.tm rfl) RVs.nil) ?_
      exact ⟨_, rfl, A44, c45, rfl, hM⟩
set_option maxRecDepth 100000 in
set_option maxHeartbeats 40000000 in
theorem c_ref03_Fold (w : World) (nv1 : Int) (r : Int) (hF : F_ref03_Fold nv1 = some r) :
    CallsR Try.prog 59 [.int .u64 nv1] w (fun v w' => v = .int .u64 r ∧ Mem w [] w' []) := by
  refine calls_KC Try.func59 rfl Try.ntmps59 rfl ?_
  have hM := Mem.init w
  unfold F_ref03_Fold at hF
  refine KC.seq ?_
  refine KC.region ?_
  refine RL.val (O.assign rfl) rfl ?_
  refine RL.nil ?_
  refine KQ.then_n ?_
  refine KC.seq ?_
  refine KC.block ?_
  refine KC.loop (fun k6 a w4 => ∃ (nv3 : Int), Kn 11 [(0, .int .u64 nv3)] a ∧ Mem w [] w4 [] ∧ F_ref03_Fold_L1 k6 nv3 = some r) ?_ ?_
  · exact fun a ha => ⟨fuel0, nv1, ha.less (less_cons rfl less_nil), hM, hF⟩
  · rintro k6 a w4 ⟨nv3, ha, hM, hF⟩
    refine KC.app ha ?_
    clear ha
    cases k6 with
    | zero => exact (none_some hF).elim
    | succ k6 =>
    have hF : F_ref03_Fold_l1 (F_ref03_Fold_L1 k6) nv3 = some r := hF
    unfold F_ref03_Fold_l1 at hF
    refine KC.seq ?_
    refine KC.seq ?_
    refine KC.region ?_
    refine RL.val (O.move rfl) rfl ?_
    refine RL.val (O.gtr rfl rfl) rfl ?_
    refine RL.nil ?_
    refine KQ.then_n ?_
    refine KC.cond rfl (fun hc => ?_) (fun hc => ?_)
    · rw [if_pos hc] at hF
      refine KC.skip ?_
      refine KQ.then_n ?_
      refine KC.block ?_
      refine KC.region ?_
      refine RL.val (O.move rfl) rfl ?_
      refine RL.val (O.quo rfl rfl (by decide)) rfl ?_
      refine RL.val (O.move rfl) rfl ?_
      refine RL.val (O.rem rfl rfl (by decide)) rfl ?_
      refine RL.val (O.add rfl rfl) rfl ?_
      refine RL.val (O.assign rfl) rfl ?_
      refine RL.nil ?_
      refine KQ.blk_n ?_
      refine KQ.then_k ?_
      exact fun a ha => ⟨k6, Nat.lt_succ_self k6, (IntKind.u64.wrap ((IntKind.u64.wrap (Int.tdiv nv3 65536)) + (Int.tmod nv3 65536))), ha.less (less_cons rfl less_nil), hM, hF⟩
    · rw [if_neg (ne_true hc)] at hF
      refine KC.exit ?_
      refine KQ.then_x ?_
      refine KQ.then_x ?_
      refine KQ.blk_x ?_
      refine KQ.then_n ?_
      refine KC.seq ?_
      refine KC.region ?_
      refine RL.val (O.move rfl) rfl ?_
      refine RL.val (O.assign rfl) rfl ?_
      refine RL.nil ?_
      refine KQ.then_n ?_
      refine KC.ret ?_
      have hE := Option.some.inj hF
      clear hF
      subst hE
      refine KQ.rets Try.results59 (RVs.cons (RV.tm rfl) RVs.nil) ?_
      exact ⟨_, rfl, rfl, hM⟩
set_option maxRecDepth 100000 in
set_option maxHeartbeats 40000000 in
theorem c_ref03_Sum (w : World) (A2 : Option Addr) (c3 : Nat) (b1 : List Int) (hr4 : Rd w A2 c3 1 b1.length (b1.flatMap (eI .u8))) (r : Int) (hF : F_ref03_Sum b1 = some r) :
    CallsR Try.prog 49 [.slice A2 (b1).length c3] w (fun v w' => v = .int .u64 r ∧ Mem w [] w' []) := by
  refine calls_KC Try.func49 rfl Try.ntmps49 rfl ?_
  have hM := Mem.init w
  unfold F_ref03_Sum at hF
  refine KC.seq ?_
  refine KC.region ?_
  refine RL.val (O.assign rfl) rfl ?_
  refine RL.nil ?_
  refine KQ.then_n ?_
  refine KC.seq ?_
  refine KC.region ?_
  refine RL.val (O.assign rfl) rfl ?_
  refine RL.nil ?_
  refine KQ.then_n ?_
  refine KC.seq ?_
  refine KC.region ?_
  refine RL.val (O.move rfl) rfl ?_
  refine obindE hF fun y5 hx6 hF => ?_
  refine RL.call Try.func60 bd60 rfl rfl (c_ref03_Words _ _ _ b1 (hM.inp hr4 Off.nil) _ hx6) fun v w7 hv => ?_
  obtain ⟨A9, c10, rfl, hN8⟩ := hv
  replace hM := hM.call hN8
  refine RL.val (O.assign rfl) rfl ?_
  refine RL.nil ?_
  refine KQ.then_n ?_
  refine KC.seq ?_
  refine KC.seq ?_
  refine KC.region ?_
  refine RL.val (O.assign rfl) rfl ?_
  refine RL.nil ?_
  refine KQ.then_n ?_
  refine KC.block ?_
  refine KC.loop (fun k26 a w24 => ∃ (nv21 : Int) (i23 : Int), Kn 22 [(3, .int .u64 nv21), (4, .slice A9 (y5).length c10), (5, .int .i64 i23)] a ∧ Mem w [] w24 [.row A9 c10 70 1 (y5).length ((y5).flatMap (eI .u64))] ∧ F_ref03_Sum_L1 y5 k26 nv21 i23 = some r) ?_ ?_
  · exact fun a ha => ⟨fuel0, 0, 0, ha.less (less_cons rfl (less_cons rfl (less_cons rfl less_nil))), hM, hF⟩
  · rintro k26 a w24 ⟨nv21, i23, ha, hM, hF⟩
    refine KC.app ha ?_
    clear ha
    cases k26 with
    | zero => exact (none_some hF).elim
    | succ k26 =>
    have hF : F_ref03_Sum_l1 (F_ref03_Sum_L1 y5 k26) y5 nv21 i23 = some r := hF
    unfold F_ref03_Sum_l1 at hF
    refine KC.seq ?_
    refine KC.seq ?_
    refine KC.region ?_
    refine RL.val (O.move rfl) rfl ?_
    refine RL.val (O.move rfl) rfl ?_
    refine RL.val (O.len sl88 rfl) rfl ?_
    refine RL.val (O.lss rfl rfl) rfl ?_
    refine RL.nil ?_
    refine KQ.then_n ?_
    refine KC.cond rfl (fun hc => ?_) (fun hc => ?_)
    · rw [if_pos hc] at hF
      refine KC.skip ?_
      refine KQ.then_n ?_
      refine KC.seq ?_
      refine KC.block ?_
      refine KC.region ?_
      refine RL.val (O.move rfl) rfl ?_
      refine RL.val (O.move rfl) rfl ?_
      refine RL.val (O.move rfl) rfl ?_
      refine obindE hF fun xv29 hx28 hF => ?_
      have hA27 := Rd.atN (f := (eI .u64)) (s := 1) (fun _ => rfl) (by decide) (hM.rd (i := 0) rfl) hx28
      refine RL.val (O.idxA sl88 (hA27) rfl rfl) rfl ?_
      refine RL.val (O.load sc70 rfl (hA27).cells.at0) rfl ?_
      refine RL.val (O.add rfl rfl) rfl ?_
      refine RL.val (O.assign rfl) rfl ?_
      refine RL.nil ?_
      refine KQ.blk_n ?_
      refine KQ.then_n ?_
      refine KC.region ?_
      refine RL.val (O.move rfl) rfl ?_
      refine RL.val (O.add rfl rfl) rfl ?_
      refine RL.val (O.assign rfl) rfl ?_
      refine RL.nil ?_
      refine KQ.then_k ?_
      exact fun a ha => ⟨k26, Nat.lt_succ_self k26, (IntKind.u64.wrap (nv21 + xv29)), (IntKind.i64.wrap (i23 + 1)), ha.less (less_cons rfl (less_cons rfl (less_cons rfl less_nil))), hM, hF⟩
    · rw [if_neg (ne_true hc)] at hF
      refine KC.exit ?_
      refine KQ.then_x ?_
      refine KQ.then_x ?_
      refine KQ.blk_x ?_
      refine KQ.then_n ?_
      refine KC.seq ?_
      refine KC.region ?_
      refine RL.val (O.move rfl) rfl ?_
      refine obindE hF fun y30 hx31 hF => ?_
      refine RL.call Try.func59 bd59 rfl rfl (c_ref03_Fold _ nv21 _ hx31) fun v w32 hv => ?_
      obtain ⟨rfl, hN33⟩ := hv
      replace hM := hM.call0 hN33
      refine RL.val (O.assign rfl) rfl ?_
      refine RL.nil ?_
      refine KQ.then_n ?_
      refine KC.ret ?_
      have hE := Option.some.inj hF
      clear hF
      subst hE
      replace hM := hM.pick [] rfl (by decide)
      refine KQ.rets Try.results49 (RVs.cons (RV.tm rfl) RVs.nil) ?_
      exact ⟨_, rfl, rfl, hM⟩
set_option maxRecDepth 100000 in
set_option maxHeartbeats 40000000 in
theorem c_ref03_Of (w : World) (A2 : Option Addr) (c3 : Nat) (b1 : List Int) (hr4 : Rd w A2 c3 1 b1.length (b1.flatMap (eI .u8))) (r : Int) (hF : F_ref03_Of b1 = some r) :
    CallsR Try.prog 29 [.slice A2 (b1).length c3] w (fun v w' => v = .int .u16 r ∧ Mem w [] w' []) := by
  refine calls_KC Try.func29 rfl Try.ntmps29 rfl ?_
  have hM := Mem.init w
  unfold F_ref03_Of at hF
  refine KC.seq ?_
  refine KC.region ?_
  refine RL.val (O.assign rfl) rfl ?_
  refine RL.nil ?_
  refine KQ.then_n ?_
  refine KC.seq ?_
  refine KC.region ?_
  refine RL.val (O.move rfl) rfl ?_
  refine obindE hF fun y5 hx6 hF => ?_
  refine RL.call Try.func49 bd49 rfl rfl (c_ref03_Sum _ _ _ b1 (hM.inp hr4 Off.nil) _ hx6) fun v w7 hv => ?_
  obtain ⟨rfl, hN8⟩ := hv
  replace hM := hM.call0 hN8
  refine RL.val (O.sub rfl rfl) rfl ?_
  refine RL.val (O.conv un70 Try.underlying36 rfl) rfl ?_
  refine RL.val (O.assign rfl) rfl ?_
  refine RL.nil ?_
  refine KQ.then_n ?_
  refine KC.ret ?_
  have hE := Option.some.inj hF
  clear hF
  subst hE
  refine KQ.rets Try.results29 (RVs.cons (RV.tm rfl) RVs.nil) ?_
  exact ⟨_, rfl, rfl, hM⟩
set_option maxRecDepth 100000 in
set_option maxHeartbeats 40000000 in
theorem c_ref05_Put (w : World) (h1 : T_ref05_Header) (r : (List Int) × Int) (hF : F_ref05_Put h1 = some r) :
    CallsR Try.prog 12 [.agg #[.int .u8 h1.f_TOS, .int .u16 h1.f_Total, .int .u16 h1.f_ID, .bool h1.f_DF, .bool h1.f_MF, .int .u16 h1.f_Frag, .int .u8 h1.f_TTL, .int .u8 h1.f_Proto, .string h1.f_Src, .string h1.f_Dst, .string h1.f_Options]] w (fun v w' => ∃ (A0 : Option Addr) (c0 : Nat), v = .tuple #[.slice A0 (r.1).length c0, .int .i64 r.2] ∧ Mem w [] w' [.row A0 c0 5 1 r.1.length (r.1.flatMap (eI .u8))]) := by
  refine calls_KC Try.func12 rfl Try.ntmps12 rfl ?_
  have hM := Mem.init w
  unfold F_ref05_Put at hF
  refine KC.seq ?_
  refine KC.region ?_
  refine RL.eff (E.box (vs := [.int .u8 h1.f_TOS, .int .u16 h1.f_Total, .int .u16 h1.f_ID, .bool h1.f_DF, .bool h1.f_MF, .int .u16 h1.f_Frag, .int .u8 h1.f_TTL, .int .u8 h1.f_Proto, .string h1.f_Src, .string h1.f_Dst, .string h1.f_Options]) hM rfl rfl) rfl fun v w3 hv => ?_
  clear hM
  obtain ⟨g2, rfl, hM, hf⟩ := hv
  refine RL.val (O.assign rfl) rfl ?_
  refine RL.val (O.assign rfl) rfl ?_
  refine RL.nil ?_
  refine KQ.then_n ?_
  refine KC.seq ?_
  refine KC.seq ?_
  refine KC.region ?_
  refine RL.val (O.loadN (cs := [.int .u8 h1.f_TOS, .int .u16 h1.f_Total, .int .u16 h1.f_ID, .bool h1.f_DF, .bool h1.f_MF, .int .u16 h1.f_Frag, .int .u8 h1.f_TTL, .int .u8 h1.f_Proto, .string h1.f_Src, .string h1.f_Dst, .string h1.f_Options]) ag41 rfl (Cs.addsN [] ((hM.bx (i := 0) rfl)) rfl)) rfl ?_
  refine obindE hF fun y5 hx6 hF => ?_
  refine RL.call Try.func16 bd16 rfl rfl (c_ref05_Right _ h1 _ hx6) fun v w7 hv => ?_
  obtain ⟨rfl, hN8⟩ := hv
  replace hM := hM.call0 hN8
  refine RL.val (O.not rfl) rfl ?_
  refine RL.nil ?_
  refine KQ.then_n ?_
  refine KC.cond rfl (fun hc => ?_) (fun hc => ?_)
  · rw [if_pos hc] at hF
    refine KC.seq ?_
    refine KC.region ?_
    refine RL.val (O.assign rfl) rfl ?_
    refine RL.val (O.assign rfl) rfl ?_
    refine RL.nil ?_
    refine KQ.then_n ?_
    refine KC.ret ?_
    refine KQ.then_r ?_
    have hE := Option.some.inj hF
    clear hF
    subst hE
    replace hM := hM.nilrow 5 1
    replace hM := hM.pick [1] rfl (by decide)
    refine KQ.rets Try.results12 (RVs.cons (RV.tm rfl) (RVs.cons (RV.tm rfl) RVs.nil)) ?_
    exact ⟨_, rfl, none, 0, rfl, hM⟩
  · rw [if_neg (ne_true hc)] at hF
    refine KC.skip ?_
    refine KQ.then_n ?_
    refine KC.seq ?_
    replace hM := hM.drewN 1
    refine KC.draw [] [] [2, 3, 4] [5, 6] (.ofList [0, 1, 2, 3, 4, 5, 6]) moP (by kernel_rfl) ?_
    refine RD.q rfl rfl rfl rfl (fun w' hf => O.loadN (cs := [.int .u8 h1.f_TOS, .int .u16 h1.f_Total, .int .u16 h1.f_ID, .bool h1.f_DF, .bool h1.f_MF, .int .u16 h1.f_Frag, .int .u8 h1.f_TTL, .int .u8 h1.f_Proto, .string h1.f_Src, .string h1.f_Dst, .string h1.f_Options]) ag41 rfl (Cs.addsN [] ((hM.bx (i := 0) rfl).fut hf) rfl)) ?_
    refine RD.q rfl rfl rfl rfl (fun w' hf => O.loadN (cs := [.int .u8 h1.f_TOS, .int .u16 h1.f_Total, .int .u16 h1.f_ID, .bool h1.f_DF, .bool h1.f_MF, .int .u16 h1.f_Frag, .int .u8 h1.f_TTL, .int .u8 h1.f_Proto, .string h1.f_Src, .string h1.f_Dst, .string h1.f_Options]) ag41 rfl (Cs.addsN [] ((hM.bx (i := 0) rfl).fut hf) rfl)) ?_
    refine obindE hF fun y9 hx10 hF => ?_
    refine RD.mcall rfl rfl trivial Try.func28 bd28 rfl rfl (c_ref05_stands _ h1 0 _ hx10) fun v w11 hv => ?_
    obtain ⟨A13, c14, rfl, hN12⟩ := hv
    refine ⟨fun _ => hN12.fut, ?_⟩
    replace hM := hM.call hN12
    refine obindE hF fun y16 hx17 hF => ?_
    refine RD.mcall rfl rfl trivial Try.func29 bd29 rfl rfl (c_ref03_Of _ _ _ y9 (hM.rd (i := 1) rfl) _ hx17) fun v w18 hv => ?_
    obtain ⟨rfl, hN19⟩ := hv
    refine ⟨fun _ => hN19.fut, ?_⟩
    replace hM := hM.call0 hN19
    refine obindE hF fun y20 hx21 hF => ?_
    refine RD.mcall rfl rfl trivial Try.func28 bd28 rfl rfl (c_ref05_stands _ h1 y16 _ hx21) fun v w22 hv => ?_
    obtain ⟨A24, c25, rfl, hN23⟩ := hv
    refine ⟨fun _ => hN23.fut, ?_⟩
    replace hM := hM.call hN23
    refine RD.p rfl rfl rfl rfl (fun w' => O.assign rfl) ?_
    refine RD.p rfl rfl rfl rfl (fun w' => O.assign rfl) ?_
    refine RD.nil ?_
    refine KQ.then_n ?_
    refine KC.ret ?_
    have hE := Option.some.inj hF
    clear hF
    subst hE
    replace hM := hM.pick [2] rfl (by decide)
    refine KQ.rets Try.results12 (RVs.cons (RV.tm rfl) (RVs.cons (RV.tm rfl) RVs.nil)) ?_
    exact ⟨_, rfl, A24, c25, rfl, hM⟩
set_option maxRecDepth 100000 in
set_option maxHeartbeats 40000000 in
theorem c_bytes_Equal (w : World) (A2 : Option Addr) (c3 : Nat) (av1 : List Int) (hr4 : Rd w A2 c3 1 av1.length (av1.flatMap (eI .u8))) (A6 : Option Addr) (c7 : Nat) (b5 : List Int) (hr8 : Rd w A6 c7 1 b5.length (b5.flatMap (eI .u8))) (r : Bool) (hF : F_bytes_Equal av1 b5 = some r) :
    CallsR Try.prog 38 [.slice A2 (av1).length c3, .slice A6 (b5).length c7] w (fun v w' => v = .bool r ∧ Mem w [] w' []) := by
  refine calls_KC Try.func38 rfl Try.ntmps38 rfl ?_
  have hM := Mem.init w
  unfold F_bytes_Equal at hF
  refine KC.seq ?_
  refine KC.region ?_
  refine RL.val (O.assign rfl) rfl ?_
  refine RL.nil ?_
  refine KQ.then_n ?_
  refine KC.seq ?_
  refine KC.region ?_
  refine RL.val (O.move rfl) rfl ?_
  refine RL.val (O.b2s sl22 Try.underlying5 Try.underlying9 rfl ((hM.inp hr4 Off.nil))) rfl ?_
  refine RL.val (O.move rfl) rfl ?_
  refine RL.val (O.b2s sl22 Try.underlying5 Try.underlying9 rfl ((hM.inp hr8 Off.nil))) rfl ?_
  refine RL.val (O.streq rfl rfl) rfl ?_
  refine RL.val (O.assign rfl) rfl ?_
  refine RL.nil ?_
  refine KQ.then_n ?_
  refine KC.ret ?_
  have hE := Option.some.inj hF
  clear hF
  subst hE
  refine KQ.rets Try.results38 (RVs.cons (RV.tm rfl) RVs.nil) ?_
  exact ⟨_, rfl, rfl, hM⟩
end Go.Proofs.Ytjfdfjmnajjjaaa
