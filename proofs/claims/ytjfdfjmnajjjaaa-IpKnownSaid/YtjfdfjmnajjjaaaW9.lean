/- Printed by a program of this claim: each call returns what the plain function of its name gives. -/
import Derived.Test.YtjfdfjmnajjjaaaW1
import Derived.Test.YtjfdfjmnajjjaaaW8
set_option linter.unusedVariables false
namespace Go.Proofs.Ytjfdfjmnajjjaaa
open Go Go.Ox Go.RowKit
set_option maxRecDepth 100000 in
set_option maxHeartbeats 40000000 in
theorem c_ref01_Put_R : ∀ (kf : Nat) (w : World) (v1 : Int) (size2 : Int) (r : (List Int)) (hF : F_ref01_Put_R kf v1 size2 = some r),
    CallsR Try.prog 45 [.int .u64 v1, .int .i64 size2] w (fun v w' => ∃ (A0 : Option Addr) (c0 : Nat), v = .slice A0 (r).length c0 ∧ Mem w [] w' [.row A0 c0 5 1 r.length (r.flatMap (eI .u8))]) := by
  intro kf
  induction kf with
  | zero => intro w v1 size2 r hF; exact (none_some hF).elim
  | succ kf ih =>
    intro w v1 size2 r hF
    refine calls_KC Try.func45 rfl Try.ntmps45 rfl ?_
    have hM := Mem.init w
    have hF : F_ref01_Put_B (F_ref01_Put_R kf) v1 size2 = some r := hF
    unfold F_ref01_Put_B at hF
    refine KC.seqH fun Q3 hQ3 => ?_
    refine KC.region ?_
    refine RL.val (O.assign rfl) rfl ?_
    refine RL.nil ?_
    refine KQ.thn hQ3 ?_
    clear hQ3 Q3
    refine KC.seqH fun Q4 hQ4 => ?_
    refine KC.seqH fun Q5 hQ5 => ?_
    refine KC.region ?_
    refine RL.val (O.move rfl) rfl ?_
    refine RL.val (O.eql rfl rfl) rfl ?_
    refine RL.nil ?_
    refine KQ.thn hQ5 ?_
    clear hQ5 Q5
    refine KC.cond rfl (fun hc => ?_) (fun hc => ?_)
    · rw [if_pos hc] at hF
      refine KC.seqH fun Q6 hQ6 => ?_
      refine KC.region ?_
      refine RL.val (O.assign rfl) rfl ?_
      refine RL.nil ?_
      refine KQ.thn hQ6 ?_
      clear hQ6 Q6
      refine KC.ret ?_
      refine KQ.thr hQ4 ?_
      clear hQ4 Q4
      have hE := Option.some.inj hF
      clear hF
      subst hE
      replace hM := hM.nilrow 5 1
      refine KQ.rets Try.results45 (RVs.cons (RV.tm rfl) RVs.nil) ?_
      exact ⟨_, rfl, none, 0, rfl, hM⟩
    · rw [if_neg (ne_true hc)] at hF
      refine KC.skip ?_
      refine KQ.thn hQ4 ?_
      clear hQ4 Q4
      refine KC.seqH fun Q7 hQ7 => ?_
      refine KC.region ?_
      refine RL.val (O.move rfl) rfl ?_
      refine RL.val (O.quo rfl rfl (by decide)) rfl ?_
      refine RL.val (O.move rfl) rfl ?_
      refine RL.val (O.sub rfl rfl) rfl ?_
      refine obindE hF fun y8 hx9 hF => ?_
      refine RL.call Try.func45 bd45 rfl rfl (ih _ (IntKind.u64.wrap (Int.tdiv v1 256)) (IntKind.i64.wrap (size2 - 1)) _ hx9) fun v w10 hv => ?_
      obtain ⟨A12, c13, rfl, hN11⟩ := hv
      replace hM := hM.call hN11
      refine RL.val (O.move rfl) rfl ?_
      refine RL.val (O.rem rfl rfl (by decide)) rfl ?_
      refine RL.val (O.conv un70 Try.underlying5 rfl) rfl ?_
      refine RL.eff (E.bsl (enc := (eI .u8)) (xs := ([(IntKind.u8.wrap (Int.tmod v1 256))] : List Int)) hM sl22 ze5 rfl rfl rfl (fun _ => rfl) rfl (by kernel_rfl) rfl) rfl fun v w15 hv => ?_
      clear hM
      obtain ⟨A16, rfl, hM, hf⟩ := hv
      refine cut_someE hF fun hq21 hF => ?_
      refine RL.eff (E.app (enc := (eI .u8)) (xs := y8) (ys := ([(IntKind.u8.wrap (Int.tmod v1 256))] : List Int)) (j := 0) hM rfl sl22 ze5 rfl rfl rfl rfl rfl (hM.rd (i := 1) rfl) (fun _ => One.all rfl) (of_decide_eq_true hq21)) rfl fun v w20 hv => ?_
      clear hM
      obtain ⟨A18, c19, rfl, hM, hf⟩ := hv
      refine RL.val (O.assign rfl) rfl ?_
      refine RL.nil ?_
      refine KQ.thn hQ7 ?_
      clear hQ7 Q7
      refine KC.ret ?_
      have hE := Option.some.inj hF
      clear hF
      subst hE
      replace hM := hM.pick [0] rfl (by decide)
      refine KQ.rets Try.results45 (RVs.cons (RV.tm rfl) RVs.nil) ?_
      exact ⟨_, rfl, A18, c19, rfl, hM⟩
theorem c_ref01_Put (w : World) (v1 : Int) (size2 : Int) (r : (List Int)) (hF : F_ref01_Put v1 size2 = some r) :
    CallsR Try.prog 45 [.int .u64 v1, .int .i64 size2] w (fun v w' => ∃ (A0 : Option Addr) (c0 : Nat), v = .slice A0 (r).length c0 ∧ Mem w [] w' [.row A0 c0 5 1 r.length (r.flatMap (eI .u8))]) := c_ref01_Put_R fuel0 w v1 size2 r hF
set_option maxRecDepth 100000 in
set_option maxHeartbeats 40000000 in
theorem c_ref01_Join (w : World) (A2 : Option Addr) (c3 : Nat) (av1 : List Int) (hr4 : Rd w A2 c3 1 av1.length (av1.flatMap (eI .u8))) (A6 : Option Addr) (c7 : Nat) (b5 : List Int) (hr8 : Rd w A6 c7 1 b5.length (b5.flatMap (eI .u8))) (r : (List Int)) (hF : F_ref01_Join av1 b5 = some r) :
    CallsR Try.prog 18 [.slice A2 (av1).length c3, .slice A6 (b5).length c7] w (fun v w' => ∃ (A0 : Option Addr) (c0 : Nat), v = .slice A0 (r).length c0 ∧ Mem w [] w' [.row A0 c0 5 1 r.length (r.flatMap (eI .u8))]) := by
  refine calls_KC Try.func18 rfl Try.ntmps18 rfl ?_
  have hM := Mem.init w
  unfold F_ref01_Join at hF
  refine KC.seqH fun Q9 hQ9 => ?_
  refine KC.region ?_
  refine RL.val (O.assign rfl) rfl ?_
  refine RL.nil ?_
  refine KQ.thn hQ9 ?_
  clear hQ9 Q9
  refine KC.seqH fun Q10 hQ10 => ?_
  refine KC.region ?_
  refine RL.val (O.assign rfl) rfl ?_
  refine RL.nil ?_
  refine KQ.thn hQ10 ?_
  clear hQ10 Q10
  refine KC.seqH fun Q11 hQ11 => ?_
  refine KC.region ?_
  refine RL.val (O.move rfl) rfl ?_
  refine RL.val (O.move rfl) rfl ?_
  refine cut_someE hF fun hq15 hF => ?_
  refine RL.eff (E.app0 (enc := (eI .u8)) (ys := av1) hM sl22 ze5 rfl rfl rfl rfl rfl (hM.inp hr4 Off.nil) (fun _ => One.all rfl) (of_decide_eq_true hq15)) rfl fun v w14 hv => ?_
  clear hM
  obtain ⟨A12, c13, rfl, hM, hf⟩ := hv
  refine RL.val (O.assign rfl) rfl ?_
  refine RL.nil ?_
  refine KQ.thn hQ11 ?_
  clear hQ11 Q11
  refine KC.seqH fun Q17 hQ17 => ?_
  refine KC.region ?_
  refine RL.val (O.move rfl) rfl ?_
  refine RL.val (O.move rfl) rfl ?_
  refine cut_someE hF fun hq21 hF => ?_
  refine RL.eff (E.app (enc := (eI .u8)) (xs := av1) (ys := b5) (j := 0) hM rfl sl22 ze5 rfl rfl rfl rfl rfl (hM.inp hr8 Off.nil) (fun _ => One.all rfl) (of_decide_eq_true hq21)) rfl fun v w20 hv => ?_
  clear hM
  obtain ⟨A18, c19, rfl, hM, hf⟩ := hv
  refine RL.val (O.assign rfl) rfl ?_
  refine RL.nil ?_
  refine KQ.thn hQ17 ?_
  clear hQ17 Q17
  refine KC.ret ?_
  have hE := Option.some.inj hF
  clear hF
  subst hE
  refine KQ.rets Try.results18 (RVs.cons (RV.tm rfl) RVs.nil) ?_
  exact ⟨_, rfl, A18, c19, rfl, hM⟩
set_option maxRecDepth 100000 in
set_option maxHeartbeats 40000000 in
theorem c_ref05_bit (w : World) (isv1 : Bool) (nv2 : Int) (r : Int) (hF : F_ref05_bit isv1 nv2 = some r) :
    CallsR Try.prog 48 [.bool isv1, .int .u64 nv2] w (fun v w' => v = .int .u64 r ∧ Mem w [] w' []) := by
  refine calls_KC Try.func48 rfl Try.ntmps48 rfl ?_
  have hM := Mem.init w
  unfold F_ref05_bit at hF
  refine KC.seqH fun Q3 hQ3 => ?_
  refine KC.region ?_
  refine RL.val (O.assign rfl) rfl ?_
  refine RL.nil ?_
  refine KQ.thn hQ3 ?_
  clear hQ3 Q3
  refine KC.seqH fun Q4 hQ4 => ?_
  refine KC.seqH fun Q5 hQ5 => ?_
  refine KC.region ?_
  refine RL.val (O.move rfl) rfl ?_
  refine RL.nil ?_
  refine KQ.thn hQ5 ?_
  clear hQ5 Q5
  refine KC.cond rfl (fun hc => ?_) (fun hc => ?_)
  · rw [if_pos hc] at hF
    refine KC.seqH fun Q6 hQ6 => ?_
    refine KC.region ?_
    refine RL.val (O.move rfl) rfl ?_
    refine RL.val (O.assign rfl) rfl ?_
    refine RL.nil ?_
    refine KQ.thn hQ6 ?_
    clear hQ6 Q6
    refine KC.ret ?_
    refine KQ.thr hQ4 ?_
    clear hQ4 Q4
    have hE := Option.some.inj hF
    clear hF
    subst hE
    refine KQ.rets Try.results48 (RVs.cons (RV.tm rfl) RVs.nil) ?_
    exact ⟨_, rfl, rfl, hM⟩
  · rw [if_neg (ne_true hc)] at hF
    refine KC.skip ?_
    refine KQ.thn hQ4 ?_
    clear hQ4 Q4
    refine KC.seqH fun Q7 hQ7 => ?_
    refine KC.region ?_
    refine RL.val (O.assign rfl) rfl ?_
    refine RL.nil ?_
    refine KQ.thn hQ7 ?_
    clear hQ7 Q7
    refine KC.ret ?_
    have hE := Option.some.inj hF
    clear hF
    subst hE
    refine KQ.rets Try.results48 (RVs.cons (RV.tm rfl) RVs.nil) ?_
    exact ⟨_, rfl, rfl, hM⟩
set_option maxRecDepth 100000 in
set_option maxHeartbeats 40000000 in
theorem c_ref05_stands (w : World) (h1 : T_ref05_Header) (sum2 : Int) (r : (List Int)) (hF : F_ref05_stands h1 sum2 = some r) :
    CallsR Try.prog 28 [.agg #[.int .u8 h1.f_TOS, .int .u16 h1.f_Total, .int .u16 h1.f_ID, .bool h1.f_DF, .bool h1.f_MF, .int .u16 h1.f_Frag, .int .u8 h1.f_TTL, .int .u8 h1.f_Proto, .string h1.f_Src, .string h1.f_Dst, .string h1.f_Options], .int .u16 sum2] w (fun v w' => ∃ (A0 : Option Addr) (c0 : Nat), v = .slice A0 (r).length c0 ∧ Mem w [] w' [.row A0 c0 5 1 r.length (r.flatMap (eI .u8))]) := by
  refine calls_KC Try.func28 rfl Try.ntmps28 rfl ?_
  have hM := Mem.init w
  unfold F_ref05_stands at hF
  refine KC.seqH fun Q3 hQ3 => ?_
  refine KC.region ?_
  refine RL.eff (E.box (vs := [.int .u8 h1.f_TOS, .int .u16 h1.f_Total, .int .u16 h1.f_ID, .bool h1.f_DF, .bool h1.f_MF, .int .u16 h1.f_Frag, .int .u8 h1.f_TTL, .int .u8 h1.f_Proto, .string h1.f_Src, .string h1.f_Dst, .string h1.f_Options]) hM rfl rfl) rfl fun v w5 hv => ?_
  clear hM
  obtain ⟨g4, rfl, hM, hf⟩ := hv
  refine RL.val (O.assign rfl) rfl ?_
  refine RL.nil ?_
  refine KQ.thn hQ3 ?_
  clear hQ3 Q3
  refine KC.seqH fun Q7 hQ7 => ?_
  refine KC.region ?_
  refine RL.val (O.fldA fl41_10 (by decide) rfl) rfl ?_
  refine RL.val (O.load sc9 rfl (Cs.adds [10] ((hM.bx (i := 0) rfl)) rfl)) rfl ?_
  refine RL.val (O.lens Try.underlying9 rfl) rfl ?_
  refine RL.val (O.add rfl rfl) rfl ?_
  refine RL.val (O.quo rfl rfl (by decide)) rfl ?_
  refine RL.val (O.add rfl rfl) rfl ?_
  refine RL.val (O.conv un3 Try.underlying70 rfl) rfl ?_
  refine obindE hF fun y8 hx9 hF => ?_
  refine RL.call Try.func45 bd45 rfl rfl (c_ref01_Put _ (IntKind.u64.wrap (IntKind.i64.wrap (64 + (IntKind.i64.wrap (Int.tdiv (IntKind.i64.wrap (20 + (h1.f_Options.size : Int))) 4))))) 1 _ hx9) fun v w10 hv => ?_
  obtain ⟨A12, c13, rfl, hN11⟩ := hv
  replace hM := hM.call hN11
  refine RL.val (O.assign rfl) rfl ?_
  refine RL.nil ?_
  refine KQ.thn hQ7 ?_
  clear hQ7 Q7
  refine KC.seqH fun Q15 hQ15 => ?_
  refine KC.region ?_
  refine RL.val (O.move rfl) rfl ?_
  refine RL.val (O.fldA fl41_0 (by decide) rfl) rfl ?_
  refine RL.val (O.load sc5 rfl (Cs.adds [0] ((hM.bx (i := 0) rfl)) rfl)) rfl ?_
  refine RL.eff (E.bsl (enc := (eI .u8)) (xs := ([h1.f_TOS] : List Int)) hM sl22 ze5 rfl rfl rfl (fun _ => rfl) rfl (by kernel_rfl) rfl) rfl fun v w16 hv => ?_
  clear hM
  obtain ⟨A17, rfl, hM, hf⟩ := hv
  refine cut_someE hF fun hq22 hF => ?_
  refine RL.eff (E.app (enc := (eI .u8)) (xs := y8) (ys := ([h1.f_TOS] : List Int)) (j := 1) hM rfl sl22 ze5 rfl rfl rfl rfl rfl (hM.rd (i := 2) rfl) (fun _ => One.all rfl) (of_decide_eq_true hq22)) rfl fun v w21 hv => ?_
  clear hM
  obtain ⟨A19, c20, rfl, hM, hf⟩ := hv
  refine RL.val (O.assign rfl) rfl ?_
  refine RL.nil ?_
  refine KQ.thn hQ15 ?_
  clear hQ15 Q15
  refine KC.seqH fun Q24 hQ24 => ?_
  refine KC.region ?_
  refine RL.val (O.move rfl) rfl ?_
  refine RL.val (O.fldA fl41_1 (by decide) rfl) rfl ?_
  refine RL.val (O.load sc36 rfl (Cs.adds [1] ((hM.bx (i := 0) rfl)) rfl)) rfl ?_
  refine RL.val (O.conv un36 Try.underlying70 rfl) rfl ?_
  refine obindE hF fun y25 hx26 hF => ?_
  refine RL.call Try.func45 bd45 rfl rfl (c_ref01_Put _ (IntKind.u64.wrap h1.f_Total) 2 _ hx26) fun v w27 hv => ?_
  obtain ⟨A29, c30, rfl, hN28⟩ := hv
  replace hM := hM.call hN28
  refine obindE hF fun y32 hx33 hF => ?_
  refine RL.call Try.func18 bd18 rfl rfl (c_ref01_Join _ _ _ (y8 ++ ([h1.f_TOS] : List Int)) (hM.rd (i := 1) rfl) _ _ y25 (hM.rd (i := 3) rfl) _ hx33) fun v w34 hv => ?_
  obtain ⟨A36, c37, rfl, hN35⟩ := hv
  replace hM := hM.call hN35
  refine RL.val (O.assign rfl) rfl ?_
  refine RL.nil ?_
  refine KQ.thn hQ24 ?_
  clear hQ24 Q24
  replace hM := hM.pick [0, 4] rfl (by decide)
  refine KC.seqH fun Q39 hQ39 => ?_
  refine KC.region ?_
  refine RL.val (O.move rfl) rfl ?_
  refine RL.val (O.fldA fl41_2 (by decide) rfl) rfl ?_
  refine RL.val (O.load sc36 rfl (Cs.adds [2] ((hM.bx (i := 0) rfl)) rfl)) rfl ?_
  refine RL.val (O.conv un36 Try.underlying70 rfl) rfl ?_
  refine obindE hF fun y40 hx41 hF => ?_
  refine RL.call Try.func45 bd45 rfl rfl (c_ref01_Put _ (IntKind.u64.wrap h1.f_ID) 2 _ hx41) fun v w42 hv => ?_
  obtain ⟨A44, c45, rfl, hN43⟩ := hv
  replace hM := hM.call hN43
  refine obindE hF fun y47 hx48 hF => ?_
  refine RL.call Try.func18 bd18 rfl rfl (c_ref01_Join _ _ _ y32 (hM.rd (i := 1) rfl) _ _ y40 (hM.rd (i := 2) rfl) _ hx48) fun v w49 hv => ?_
  obtain ⟨A51, c52, rfl, hN50⟩ := hv
  replace hM := hM.call hN50
  refine RL.val (O.assign rfl) rfl ?_
  refine RL.nil ?_
  refine KQ.thn hQ39 ?_
  clear hQ39 Q39
  replace hM := hM.pick [0, 3] rfl (by decide)
  refine KC.seqH fun Q54 hQ54 => ?_
  replace hM := hM.drewN 1
  refine KC.draw [] [] [3, 6, 12, 13] [0, 1, 4, 7, 8, 10, 11, 14] (.ofList [0, 1, 2, 4, 5, 8, 9, 10, 3, 6, 7, 11, 12, 13, 14]) moP (by kernel_rfl) ?_
  refine RD.p rfl rfl rfl rfl (fun w' => O.move rfl) ?_
  refine RD.p rfl rfl rfl rfl (fun w' => O.fldA fl41_3 (by decide) rfl) ?_
  refine RD.q rfl rfl rfl rfl (fun w' hf => O.load sc4 rfl (Cs.adds [3] ((hM.bx (i := 0) rfl).fut hf) rfl)) ?_
  refine RD.p rfl rfl rfl rfl (fun w' => O.fldA fl41_4 (by decide) rfl) ?_
  refine RD.q rfl rfl rfl rfl (fun w' hf => O.load sc4 rfl (Cs.adds [4] ((hM.bx (i := 0) rfl).fut hf) rfl)) ?_
  refine RD.p rfl rfl rfl rfl (fun w' => O.fldA fl41_5 (by decide) rfl) ?_
  refine RD.q rfl rfl rfl rfl (fun w' hf => O.load sc36 rfl (Cs.adds [5] ((hM.bx (i := 0) rfl).fut hf) rfl)) ?_
  refine RD.p rfl rfl rfl rfl (fun w' => O.conv un36 Try.underlying70 rfl) ?_
  refine obindE hF fun y55 hx56 hF => ?_
  refine RD.mcall rfl rfl trivial Try.func48 bd48 rfl rfl (c_ref05_bit _ h1.f_DF 16384 _ hx56) fun v w57 hv => ?_
  obtain ⟨rfl, hN58⟩ := hv
  refine ⟨fun _ => hN58.fut, ?_⟩
  replace hM := hM.call0 hN58
  refine obindE hF fun y59 hx60 hF => ?_
  refine RD.mcall rfl rfl trivial Try.func48 bd48 rfl rfl (c_ref05_bit _ h1.f_MF 8192 _ hx60) fun v w61 hv => ?_
  obtain ⟨rfl, hN62⟩ := hv
  refine ⟨fun _ => hN62.fut, ?_⟩
  replace hM := hM.call0 hN62
  refine RD.p rfl rfl rfl rfl (fun w' => O.add rfl rfl) ?_
  refine RD.p rfl rfl rfl rfl (fun w' => O.add rfl rfl) ?_
  refine obindE hF fun y63 hx64 hF => ?_
  refine RD.mcall rfl rfl trivial Try.func45 bd45 rfl rfl (c_ref01_Put _ (IntKind.u64.wrap ((IntKind.u64.wrap (y55 + y59)) + (IntKind.u64.wrap h1.f_Frag))) 2 _ hx64) fun v w65 hv => ?_
  obtain ⟨A67, c68, rfl, hN66⟩ := hv
  refine ⟨fun _ => hN66.fut, ?_⟩
  replace hM := hM.call hN66
  refine obindE hF fun y70 hx71 hF => ?_
  refine RD.mcall rfl rfl trivial Try.func18 bd18 rfl rfl (c_ref01_Join _ _ _ y47 (hM.rd (i := 1) rfl) _ _ y63 (hM.rd (i := 2) rfl) _ hx71) fun v w72 hv => ?_
  obtain ⟨A74, c75, rfl, hN73⟩ := hv
  refine ⟨fun _ => hN73.fut, ?_⟩
  replace hM := hM.call hN73
  refine RD.p rfl rfl rfl rfl (fun w' => O.assign rfl) ?_
  refine RD.nil ?_
  refine KQ.thn hQ54 ?_
  clear hQ54 Q54
  replace hM := hM.pick [0, 3] rfl (by decide)
  refine KC.seqH fun Q77 hQ77 => ?_
  refine KC.region ?_
  refine RL.val (O.move rfl) rfl ?_
  refine RL.val (O.fldA fl41_6 (by decide) rfl) rfl ?_
  refine RL.val (O.load sc5 rfl (Cs.adds [6] ((hM.bx (i := 0) rfl)) rfl)) rfl ?_
  refine RL.val (O.fldA fl41_7 (by decide) rfl) rfl ?_
  refine RL.val (O.load sc5 rfl (Cs.adds [7] ((hM.bx (i := 0) rfl)) rfl)) rfl ?_
  refine RL.eff (E.bsl (enc := (eI .u8)) (xs := ([h1.f_TTL, h1.f_Proto] : List Int)) hM sl22 ze5 rfl rfl rfl (fun _ => rfl) rfl (by kernel_rfl) rfl) rfl fun v w78 hv => ?_
  clear hM
  obtain ⟨A79, rfl, hM, hf⟩ := hv
  refine cut_someE hF fun hq84 hF => ?_
  refine RL.eff (E.app (enc := (eI .u8)) (xs := y70) (ys := ([h1.f_TTL, h1.f_Proto] : List Int)) (j := 1) hM rfl sl22 ze5 rfl rfl rfl rfl rfl (hM.rd (i := 2) rfl) (fun _ => One.all rfl) (of_decide_eq_true hq84)) rfl fun v w83 hv => ?_
  clear hM
  obtain ⟨A81, c82, rfl, hM, hf⟩ := hv
  refine RL.val (O.assign rfl) rfl ?_
  refine RL.nil ?_
  refine KQ.thn hQ77 ?_
  clear hQ77 Q77
  refine KC.seqH fun Q86 hQ86 => ?_
  refine KC.region ?_
  refine RL.val (O.move rfl) rfl ?_
  refine RL.val (O.move rfl) rfl ?_
  refine RL.val (O.conv un36 Try.underlying70 rfl) rfl ?_
  refine obindE hF fun y87 hx88 hF => ?_
  refine RL.call Try.func45 bd45 rfl rfl (c_ref01_Put _ (IntKind.u64.wrap sum2) 2 _ hx88) fun v w89 hv => ?_
  obtain ⟨A91, c92, rfl, hN90⟩ := hv
  replace hM := hM.call hN90
  refine obindE hF fun y94 hx95 hF => ?_
  refine RL.call Try.func18 bd18 rfl rfl (c_ref01_Join _ _ _ (y70 ++ ([h1.f_TTL, h1.f_Proto] : List Int)) (hM.rd (i := 1) rfl) _ _ y87 (hM.rd (i := 3) rfl) _ hx95) fun v w96 hv => ?_
  obtain ⟨A98, c99, rfl, hN97⟩ := hv
  replace hM := hM.call hN97
  refine RL.val (O.assign rfl) rfl ?_
  refine RL.nil ?_
  refine KQ.thn hQ86 ?_
  clear hQ86 Q86
  replace hM := hM.pick [0, 4] rfl (by decide)
  refine KC.seqH fun Q101 hQ101 => ?_
  refine KC.region ?_
  refine RL.val (O.move rfl) rfl ?_
  refine RL.val (O.fldA fl41_8 (by decide) rfl) rfl ?_
  refine RL.val (O.load sc9 rfl (Cs.adds [8] ((hM.bx (i := 0) rfl)) rfl)) rfl ?_
  refine RL.val (O.fldA fl41_9 (by decide) rfl) rfl ?_
  refine RL.val (O.load sc9 rfl (Cs.adds [9] ((hM.bx (i := 0) rfl)) rfl)) rfl ?_
  refine cut_someE hF fun hq102 hF => ?_
  refine RL.val (O.addS (of_decide_eq_true hq102) rfl rfl) rfl ?_
  refine RL.val (O.fldA fl41_10 (by decide) rfl) rfl ?_
  refine RL.val (O.load sc9 rfl (Cs.adds [10] ((hM.bx (i := 0) rfl)) rfl)) rfl ?_
  refine cut_someE hF fun hq103 hF => ?_
  refine RL.val (O.addS (of_decide_eq_true hq103) rfl rfl) rfl ?_
  refine cut_someE hF fun hq107 hF => ?_
  refine RL.eff (E.s2b hM Try.underlying9 sl22 Try.underlying5 rfl (of_decide_eq_true hq107)) rfl fun v w106 hv => ?_
  clear hM
  obtain ⟨A104, c105, Z108, rfl, hM, hf⟩ := hv
  refine obindE hF fun y110 hx111 hF => ?_
  refine RL.call Try.func18 bd18 rfl rfl (c_ref01_Join _ _ _ y94 (hM.rd (i := 1) rfl) _ _ (numsOfStr ((h1.f_Src ++ h1.f_Dst) ++ h1.f_Options)) (hM.rdP (i := 2) rfl) _ hx111) fun v w112 hv => ?_
  obtain ⟨A114, c115, rfl, hN113⟩ := hv
  replace hM := hM.call hN113
  refine RL.val (O.assign rfl) rfl ?_
  refine RL.nil ?_
  refine KQ.thn hQ101 ?_
  clear hQ101 Q101
  refine KC.ret ?_
  have hE := Option.some.inj hF
  clear hF
  subst hE
  replace hM := hM.pick [3] rfl (by decide)
  refine KQ.rets Try.results28 (RVs.cons (RV.tm rfl) RVs.nil) ?_
  exact ⟨_, rfl, A114, c115, rfl, hM⟩
set_option maxRecDepth 100000 in
set_option maxHeartbeats 40000000 in
theorem c_ref03_Words (w : World) (A2 : Option Addr) (c3 : Nat) (b1 : List Int) (hr4 : Rd w A2 c3 1 b1.length (b1.flatMap (eI .u8))) (r : (List Int)) (hF : F_ref03_Words b1 = some r) :
    CallsR Try.prog 60 [.slice A2 (b1).length c3] w (fun v w' => ∃ (A0 : Option Addr) (c0 : Nat), v = .slice A0 (r).length c0 ∧ Mem w [] w' [.row A0 c0 70 1 r.length (r.flatMap (eI .u64))]) := by
  refine calls_KC Try.func60 rfl Try.ntmps60 rfl ?_
  have hM := Mem.init w
  unfold F_ref03_Words at hF
  refine KC.seqH fun Q5 hQ5 => ?_
  refine KC.region ?_
  refine RL.val (O.assign rfl) rfl ?_
  refine RL.nil ?_
  refine KQ.thn hQ5 ?_
  clear hQ5 Q5
  refine KC.seqH fun Q6 hQ6 => ?_
  refine KC.region ?_
  refine RL.val (O.assign rfl) rfl ?_
  refine RL.nil ?_
  refine KQ.thn hQ6 ?_
  clear hQ6 Q6
  refine KC.seqH fun Q7 hQ7 => ?_
  refine KC.seqH fun Q8 hQ8 => ?_
  refine KC.region ?_
  refine RL.val (O.assign rfl) rfl ?_
  refine RL.nil ?_
  refine KQ.thn hQ8 ?_
  clear hQ8 Q8
  refine KC.block ?_
  refine KC.loop (fun k64 a w62 => ∃ (A58 : Option Addr) (c59 : Nat) (out60 : List Int) (i61 : Int), Kn 36 [(0, .slice A2 (b1).length c3), (3, .slice A58 (out60).length c59), (4, .int .i64 i61)] a ∧ Mem w [] w62 [.row A58 c59 70 1 (out60).length ((out60).flatMap (eI .u64))] ∧ F_ref03_Words_L1 b1 k64 out60 i61 = some r) ?_ ?_
  · replace hM := hM.nilrow 70 1
    exact fun a ha => ⟨fuel0, none, 0, ([]), 0, ha.less (less_cons rfl (less_cons rfl (less_cons rfl less_nil))), hM, hF⟩
  · rintro k64 a w62 ⟨A58, c59, out60, i61, ha, hM, hF⟩
    refine KC.app ha ?_
    clear ha
    cases k64 with
    | zero => exact (none_some hF).elim
    | succ k64 =>
    have hF : F_ref03_Words_l1 (F_ref03_Words_L1 b1 k64) b1 out60 i61 = some r := hF
    unfold F_ref03_Words_l1 at hF
    refine KC.seqH fun Q65 hQ65 => ?_
    refine KC.seqH fun Q66 hQ66 => ?_
    refine KC.region ?_
    refine RL.val (O.move rfl) rfl ?_
    refine RL.val (O.move rfl) rfl ?_
    refine RL.val (O.len sl22 rfl) rfl ?_
    refine RL.val (O.lss rfl rfl) rfl ?_
    refine RL.nil ?_
    refine KQ.thn hQ66 ?_
    clear hQ66 Q66
    refine KC.cond rfl (fun hc => ?_) (fun hc => ?_)
    · rw [if_pos hc] at hF
      refine KC.skip ?_
      refine KQ.thn hQ65 ?_
      clear hQ65 Q65
      refine KC.seqH fun Q67 hQ67 => ?_
      refine KC.block ?_
      refine KC.seqH fun Q68 hQ68 => ?_
      refine KC.region ?_
      refine RL.val (O.move rfl) rfl ?_
      refine RL.val (O.move rfl) rfl ?_
      refine obindE hF fun xv71 hx70 hF => ?_
      have hA69 := Rd.atN (f := (eI .u8)) (s := 1) (fun _ => rfl) (by decide) (hM.inp hr4 Off.nil) hx70
      refine RL.val (O.idxA sl22 (hA69) rfl rfl) rfl ?_
      refine RL.val (O.load sc5 rfl (hA69).cells.at0) rfl ?_
      refine RL.val (O.conv un5 Try.underlying70 rfl) rfl ?_
      refine RL.val (O.mul rfl rfl) rfl ?_
      refine RL.val (O.assign rfl) rfl ?_
      refine RL.nil ?_
      refine KQ.thn hQ68 ?_
      clear hQ68 Q68
      refine KC.cut (fun a w78 => ∃ (nv77 : Int), Kn 36 [(0, .slice A2 (b1).length c3), (3, .slice A58 (out60).length c59), (4, .int .i64 i61), (5, .int .u64 nv77)] a ∧ Mem w [] w78 [.row A58 c59 70 1 (out60).length ((out60).flatMap (eI .u64))] ∧ F_ref03_Words_j1 out60 i61 (F_ref03_Words_L1 b1 k64) nv77 = some r) ?_ ?_
      · refine KC.seqH fun Q72 hQ72 => ?_
        refine KC.region ?_
        refine RL.val (O.move rfl) rfl ?_
        refine RL.val (O.add rfl rfl) rfl ?_
        refine RL.val (O.move rfl) rfl ?_
        refine RL.val (O.len sl22 rfl) rfl ?_
        refine RL.val (O.lss rfl rfl) rfl ?_
        refine RL.nil ?_
        refine KQ.thn hQ72 ?_
        clear hQ72 Q72
        refine KC.cond rfl (fun hc => ?_) (fun hc => ?_)
        · rw [if_pos hc] at hF
          refine KC.region ?_
          refine RL.val (O.move rfl) rfl ?_
          refine RL.val (O.move rfl) rfl ?_
          refine RL.val (O.move rfl) rfl ?_
          refine RL.val (O.add rfl rfl) rfl ?_
          refine obindE hF fun xv75 hx74 hF => ?_
          have hA73 := Rd.atN (f := (eI .u8)) (s := 1) (fun _ => rfl) (by decide) (hM.inp hr4 Off.nil) hx74
          refine RL.val (O.idxA sl22 (hA73) rfl rfl) rfl ?_
          refine RL.val (O.load sc5 rfl (hA73).cells.at0) rfl ?_
          refine RL.val (O.conv un5 Try.underlying70 rfl) rfl ?_
          refine RL.val (O.add rfl rfl) rfl ?_
          refine RL.val (O.assign rfl) rfl ?_
          refine RL.nil ?_
          refine KQ.then_k ?_
          exact fun a ha => ⟨(IntKind.u64.wrap ((IntKind.u64.wrap ((IntKind.u64.wrap xv71) * 256)) + (IntKind.u64.wrap xv75))), ha.less (less_cons rfl (less_cons rfl (less_cons rfl (less_cons rfl less_nil)))), hM, hF⟩
        · rw [if_neg (ne_true hc)] at hF
          refine KC.skip ?_
          refine KQ.then_k ?_
          exact fun a ha => ⟨(IntKind.u64.wrap ((IntKind.u64.wrap xv71) * 256)), ha.less (less_cons rfl (less_cons rfl (less_cons rfl (less_cons rfl less_nil)))), hM, hF⟩
      · rintro a w78 ⟨nv77, ha, hM, hF⟩
        refine KC.app ha ?_
        clear ha
        unfold F_ref03_Words_j1 at hF
        refine KC.region ?_
        refine RL.val (O.move rfl) rfl ?_
        refine RL.val (O.move rfl) rfl ?_
        refine RL.eff (E.bsl (enc := (eI .u64)) (xs := ([nv77] : List Int)) hM sl88 ze70 rfl rfl rfl (fun _ => rfl) rfl (by kernel_rfl) rfl) rfl fun v w79 hv => ?_
        clear hM
        obtain ⟨A80, rfl, hM, hf⟩ := hv
        refine cut_someE hF fun hq85 hF => ?_
        refine RL.eff (E.app (enc := (eI .u64)) (xs := out60) (ys := ([nv77] : List Int)) (j := 0) hM rfl sl88 ze70 rfl rfl rfl rfl rfl (hM.rd (i := 1) rfl) (fun _ => One.all rfl) (of_decide_eq_true hq85)) rfl fun v w84 hv => ?_
        clear hM
        obtain ⟨A82, c83, rfl, hM, hf⟩ := hv
        refine RL.val (O.assign rfl) rfl ?_
        refine RL.nil ?_
        refine KQ.blk_n ?_
        refine KQ.thn hQ67 ?_
        clear hQ67 Q67
        refine KC.region ?_
        refine RL.val (O.move rfl) rfl ?_
        refine RL.val (O.add rfl rfl) rfl ?_
        refine RL.val (O.assign rfl) rfl ?_
        refine RL.nil ?_
        refine KQ.then_k ?_
        replace hM := hM.pick [0] rfl (by decide)
        exact fun a ha => ⟨k64, Nat.lt_succ_self k64, A82, c83, (out60 ++ ([nv77] : List Int)), (IntKind.i64.wrap (i61 + 2)), ha.less (less_cons rfl (less_cons rfl (less_cons rfl less_nil))), hM, hF⟩
    · rw [if_neg (ne_true hc)] at hF
      refine KC.exit ?_
      refine KQ.thx hQ65 ?_
      clear hQ65 Q65
      refine KQ.then_x ?_
      refine KQ.blk_x ?_
      refine KQ.thn hQ7 ?_
      clear hQ7 Q7
      refine KC.seqH fun Q87 hQ87 => ?_
      refine KC.region ?_
      refine RL.val (O.move rfl) rfl ?_
      refine RL.val (O.assign rfl) rfl ?_
      refine RL.nil ?_
      refine KQ.thn hQ87 ?_
      clear hQ87 Q87
      refine KC.ret ?_
      have hE := Option.some.inj hF
      clear hF
      subst hE
      refine KQ.rets Try.results60 (RVs.cons (RV.tm rfl) RVs.nil) ?_
      exact ⟨_, rfl, A58, c59, rfl, hM⟩
set_option maxRecDepth 100000 in
set_option maxHeartbeats 40000000 in
theorem c_ref03_Fold (w : World) (nv1 : Int) (r : Int) (hF : F_ref03_Fold nv1 = some r) :
    CallsR Try.prog 59 [.int .u64 nv1] w (fun v w' => v = .int .u64 r ∧ Mem w [] w' []) := by
  refine calls_KC Try.func59 rfl Try.ntmps59 rfl ?_
  have hM := Mem.init w
  unfold F_ref03_Fold at hF
  refine KC.seqH fun Q2 hQ2 => ?_
  refine KC.region ?_
  refine RL.val (O.assign rfl) rfl ?_
  refine RL.nil ?_
  refine KQ.thn hQ2 ?_
  clear hQ2 Q2
  refine KC.seqH fun Q3 hQ3 => ?_
  refine KC.block ?_
  refine KC.loop (fun k12 a w10 => ∃ (nv9 : Int), Kn 11 [(0, .int .u64 nv9)] a ∧ Mem w [] w10 [] ∧ F_ref03_Fold_L1 k12 nv9 = some r) ?_ ?_
  · exact fun a ha => ⟨fuel0, nv1, ha.less (less_cons rfl less_nil), hM, hF⟩
  · rintro k12 a w10 ⟨nv9, ha, hM, hF⟩
    refine KC.app ha ?_
    clear ha
    cases k12 with
    | zero => exact (none_some hF).elim
    | succ k12 =>
    have hF : F_ref03_Fold_l1 (F_ref03_Fold_L1 k12) nv9 = some r := hF
    unfold F_ref03_Fold_l1 at hF
    refine KC.seqH fun Q13 hQ13 => ?_
    refine KC.seqH fun Q14 hQ14 => ?_
    refine KC.region ?_
    refine RL.val (O.move rfl) rfl ?_
    refine RL.val (O.gtr rfl rfl) rfl ?_
    refine RL.nil ?_
    refine KQ.thn hQ14 ?_
    clear hQ14 Q14
    refine KC.cond rfl (fun hc => ?_) (fun hc => ?_)
    · rw [if_pos hc] at hF
      refine KC.skip ?_
      refine KQ.thn hQ13 ?_
      clear hQ13 Q13
      refine KC.block ?_
      refine KC.region ?_
      refine RL.val (O.move rfl) rfl ?_
      refine RL.val (O.quo rfl rfl (by decide)) rfl ?_
      refine RL.val (O.move rfl) rfl ?_
      refine RL.val (O.rem rfl rfl (by decide)) rfl ?_
      refine RL.val (O.add rfl rfl) rfl ?_
      refine RL.val (O.assign rfl) rfl ?_
      refine RL.nil ?_
      refine KQ.blk_n ?_
      refine KQ.then_k ?_
      exact fun a ha => ⟨k12, Nat.lt_succ_self k12, (IntKind.u64.wrap ((IntKind.u64.wrap (Int.tdiv nv9 65536)) + (Int.tmod nv9 65536))), ha.less (less_cons rfl less_nil), hM, hF⟩
    · rw [if_neg (ne_true hc)] at hF
      refine KC.exit ?_
      refine KQ.thx hQ13 ?_
      clear hQ13 Q13
      refine KQ.then_x ?_
      refine KQ.blk_x ?_
      refine KQ.thn hQ3 ?_
      clear hQ3 Q3
      refine KC.seqH fun Q15 hQ15 => ?_
      refine KC.region ?_
      refine RL.val (O.move rfl) rfl ?_
      refine RL.val (O.assign rfl) rfl ?_
      refine RL.nil ?_
      refine KQ.thn hQ15 ?_
      clear hQ15 Q15
      refine KC.ret ?_
      have hE := Option.some.inj hF
      clear hF
      subst hE
      refine KQ.rets Try.results59 (RVs.cons (RV.tm rfl) RVs.nil) ?_
      exact ⟨_, rfl, rfl, hM⟩
set_option maxRecDepth 100000 in
set_option maxHeartbeats 40000000 in
theorem c_ref03_Sum (w : World) (A2 : Option Addr) (c3 : Nat) (b1 : List Int) (hr4 : Rd w A2 c3 1 b1.length (b1.flatMap (eI .u8))) (r : Int) (hF : F_ref03_Sum b1 = some r) :
    CallsR Try.prog 49 [.slice A2 (b1).length c3] w (fun v w' => v = .int .u64 r ∧ Mem w [] w' []) := by
  refine calls_KC Try.func49 rfl Try.ntmps49 rfl ?_
  have hM := Mem.init w
  unfold F_ref03_Sum at hF
  refine KC.seqH fun Q5 hQ5 => ?_
  refine KC.region ?_
  refine RL.val (O.assign rfl) rfl ?_
  refine RL.nil ?_
  refine KQ.thn hQ5 ?_
  clear hQ5 Q5
  refine KC.seqH fun Q6 hQ6 => ?_
  refine KC.region ?_
  refine RL.val (O.assign rfl) rfl ?_
  refine RL.nil ?_
  refine KQ.thn hQ6 ?_
  clear hQ6 Q6
  refine KC.seqH fun Q7 hQ7 => ?_
  refine KC.region ?_
  refine RL.val (O.move rfl) rfl ?_
  refine obindE hF fun y8 hx9 hF => ?_
  refine RL.call Try.func60 bd60 rfl rfl (c_ref03_Words _ _ _ b1 (hM.inp hr4 Off.nil) _ hx9) fun v w10 hv => ?_
  obtain ⟨A12, c13, rfl, hN11⟩ := hv
  replace hM := hM.call hN11
  refine RL.val (O.assign rfl) rfl ?_
  refine RL.nil ?_
  refine KQ.thn hQ7 ?_
  clear hQ7 Q7
  refine KC.seqH fun Q15 hQ15 => ?_
  refine KC.seqH fun Q16 hQ16 => ?_
  refine KC.region ?_
  refine RL.val (O.assign rfl) rfl ?_
  refine RL.nil ?_
  refine KQ.thn hQ16 ?_
  clear hQ16 Q16
  refine KC.block ?_
  refine KC.loop (fun k37 a w35 => ∃ (nv32 : Int) (i34 : Int), Kn 22 [(3, .int .u64 nv32), (4, .slice A12 (y8).length c13), (5, .int .i64 i34)] a ∧ Mem w [] w35 [.row A12 c13 70 1 (y8).length ((y8).flatMap (eI .u64))] ∧ F_ref03_Sum_L1 y8 k37 nv32 i34 = some r) ?_ ?_
  · exact fun a ha => ⟨fuel0, 0, 0, ha.less (less_cons rfl (less_cons rfl (less_cons rfl less_nil))), hM, hF⟩
  · rintro k37 a w35 ⟨nv32, i34, ha, hM, hF⟩
    refine KC.app ha ?_
    clear ha
    cases k37 with
    | zero => exact (none_some hF).elim
    | succ k37 =>
    have hF : F_ref03_Sum_l1 (F_ref03_Sum_L1 y8 k37) y8 nv32 i34 = some r := hF
    unfold F_ref03_Sum_l1 at hF
    refine KC.seqH fun Q38 hQ38 => ?_
    refine KC.seqH fun Q39 hQ39 => ?_
    refine KC.region ?_
    refine RL.val (O.move rfl) rfl ?_
    refine RL.val (O.move rfl) rfl ?_
    refine RL.val (O.len sl88 rfl) rfl ?_
    refine RL.val (O.lss rfl rfl) rfl ?_
    refine RL.nil ?_
    refine KQ.thn hQ39 ?_
    clear hQ39 Q39
    refine KC.cond rfl (fun hc => ?_) (fun hc => ?_)
    · rw [if_pos hc] at hF
      refine KC.skip ?_
      refine KQ.thn hQ38 ?_
      clear hQ38 Q38
      refine KC.seqH fun Q40 hQ40 => ?_
      refine KC.block ?_
      refine KC.region ?_
      refine RL.val (O.move rfl) rfl ?_
      refine RL.val (O.move rfl) rfl ?_
      refine RL.val (O.move rfl) rfl ?_
      refine obindE hF fun xv43 hx42 hF => ?_
      have hA41 := Rd.atN (f := (eI .u64)) (s := 1) (fun _ => rfl) (by decide) (hM.rd (i := 0) rfl) hx42
      refine RL.val (O.idxA sl88 (hA41) rfl rfl) rfl ?_
      refine RL.val (O.load sc70 rfl (hA41).cells.at0) rfl ?_
      refine RL.val (O.add rfl rfl) rfl ?_
      refine RL.val (O.assign rfl) rfl ?_
      refine RL.nil ?_
      refine KQ.blk_n ?_
      refine KQ.thn hQ40 ?_
      clear hQ40 Q40
      refine KC.region ?_
      refine RL.val (O.move rfl) rfl ?_
      refine RL.val (O.add rfl rfl) rfl ?_
      refine RL.val (O.assign rfl) rfl ?_
      refine RL.nil ?_
      refine KQ.then_k ?_
      exact fun a ha => ⟨k37, Nat.lt_succ_self k37, (IntKind.u64.wrap (nv32 + xv43)), (IntKind.i64.wrap (i34 + 1)), ha.less (less_cons rfl (less_cons rfl (less_cons rfl less_nil))), hM, hF⟩
    · rw [if_neg (ne_true hc)] at hF
      refine KC.exit ?_
      refine KQ.thx hQ38 ?_
      clear hQ38 Q38
      refine KQ.then_x ?_
      refine KQ.blk_x ?_
      refine KQ.thn hQ15 ?_
      clear hQ15 Q15
      refine KC.seqH fun Q44 hQ44 => ?_
      refine KC.region ?_
      refine RL.val (O.move rfl) rfl ?_
      refine obindE hF fun y45 hx46 hF => ?_
      refine RL.call Try.func59 bd59 rfl rfl (c_ref03_Fold _ nv32 _ hx46) fun v w47 hv => ?_
      obtain ⟨rfl, hN48⟩ := hv
      replace hM := hM.call0 hN48
      refine RL.val (O.assign rfl) rfl ?_
      refine RL.nil ?_
      refine KQ.thn hQ44 ?_
      clear hQ44 Q44
      refine KC.ret ?_
      have hE := Option.some.inj hF
      clear hF
      subst hE
      replace hM := hM.pick [] rfl (by decide)
      refine KQ.rets Try.results49 (RVs.cons (RV.tm rfl) RVs.nil) ?_
      exact ⟨_, rfl, rfl, hM⟩
set_option maxRecDepth 100000 in
set_option maxHeartbeats 40000000 in
theorem c_ref03_Of (w : World) (A2 : Option Addr) (c3 : Nat) (b1 : List Int) (hr4 : Rd w A2 c3 1 b1.length (b1.flatMap (eI .u8))) (r : Int) (hF : F_ref03_Of b1 = some r) :
    CallsR Try.prog 29 [.slice A2 (b1).length c3] w (fun v w' => v = .int .u16 r ∧ Mem w [] w' []) := by
  refine calls_KC Try.func29 rfl Try.ntmps29 rfl ?_
  have hM := Mem.init w
  unfold F_ref03_Of at hF
  refine KC.seqH fun Q5 hQ5 => ?_
  refine KC.region ?_
  refine RL.val (O.assign rfl) rfl ?_
  refine RL.nil ?_
  refine KQ.thn hQ5 ?_
  clear hQ5 Q5
  refine KC.seqH fun Q6 hQ6 => ?_
  refine KC.region ?_
  refine RL.val (O.move rfl) rfl ?_
  refine obindE hF fun y7 hx8 hF => ?_
  refine RL.call Try.func49 bd49 rfl rfl (c_ref03_Sum _ _ _ b1 (hM.inp hr4 Off.nil) _ hx8) fun v w9 hv => ?_
  obtain ⟨rfl, hN10⟩ := hv
  replace hM := hM.call0 hN10
  refine RL.val (O.sub rfl rfl) rfl ?_
  refine RL.val (O.conv un70 Try.underlying36 rfl) rfl ?_
  refine RL.val (O.assign rfl) rfl ?_
  refine RL.nil ?_
  refine KQ.thn hQ6 ?_
  clear hQ6 Q6
  refine KC.ret ?_
  have hE := Option.some.inj hF
  clear hF
  subst hE
  refine KQ.rets Try.results29 (RVs.cons (RV.tm rfl) RVs.nil) ?_
  exact ⟨_, rfl, rfl, hM⟩
set_option maxRecDepth 100000 in
set_option maxHeartbeats 40000000 in
theorem c_ref05_Put (w : World) (h1 : T_ref05_Header) (r : (List Int) × Int) (hF : F_ref05_Put h1 = some r) :
    CallsR Try.prog 12 [.agg #[.int .u8 h1.f_TOS, .int .u16 h1.f_Total, .int .u16 h1.f_ID, .bool h1.f_DF, .bool h1.f_MF, .int .u16 h1.f_Frag, .int .u8 h1.f_TTL, .int .u8 h1.f_Proto, .string h1.f_Src, .string h1.f_Dst, .string h1.f_Options]] w (fun v w' => ∃ (A0 : Option Addr) (c0 : Nat), v = .tuple #[.slice A0 (r.1).length c0, .int .i64 r.2] ∧ Mem w [] w' [.row A0 c0 5 1 r.1.length (r.1.flatMap (eI .u8))]) := by
  refine calls_KC Try.func12 rfl Try.ntmps12 rfl ?_
  have hM := Mem.init w
  unfold F_ref05_Put at hF
  refine KC.seqH fun Q2 hQ2 => ?_
  refine KC.region ?_
  refine RL.eff (E.box (vs := [.int .u8 h1.f_TOS, .int .u16 h1.f_Total, .int .u16 h1.f_ID, .bool h1.f_DF, .bool h1.f_MF, .int .u16 h1.f_Frag, .int .u8 h1.f_TTL, .int .u8 h1.f_Proto, .string h1.f_Src, .string h1.f_Dst, .string h1.f_Options]) hM rfl rfl) rfl fun v w4 hv => ?_
  clear hM
  obtain ⟨g3, rfl, hM, hf⟩ := hv
  refine RL.val (O.assign rfl) rfl ?_
  refine RL.val (O.assign rfl) rfl ?_
  refine RL.nil ?_
  refine KQ.thn hQ2 ?_
  clear hQ2 Q2
  refine KC.seqH fun Q6 hQ6 => ?_
  refine KC.seqH fun Q7 hQ7 => ?_
  refine KC.region ?_
  refine RL.val (O.loadN (cs := [.int .u8 h1.f_TOS, .int .u16 h1.f_Total, .int .u16 h1.f_ID, .bool h1.f_DF, .bool h1.f_MF, .int .u16 h1.f_Frag, .int .u8 h1.f_TTL, .int .u8 h1.f_Proto, .string h1.f_Src, .string h1.f_Dst, .string h1.f_Options]) ag41 rfl (Cs.addsN [] ((hM.bx (i := 0) rfl)) rfl)) rfl ?_
  refine obindE hF fun y8 hx9 hF => ?_
  refine RL.call Try.func16 bd16 rfl rfl (c_ref05_Right _ h1 _ hx9) fun v w10 hv => ?_
  obtain ⟨rfl, hN11⟩ := hv
  replace hM := hM.call0 hN11
  refine RL.val (O.not rfl) rfl ?_
  refine RL.nil ?_
  refine KQ.thn hQ7 ?_
  clear hQ7 Q7
  refine KC.cond rfl (fun hc => ?_) (fun hc => ?_)
  · rw [if_pos hc] at hF
    refine KC.seqH fun Q12 hQ12 => ?_
    refine KC.region ?_
    refine RL.val (O.assign rfl) rfl ?_
    refine RL.val (O.assign rfl) rfl ?_
    refine RL.nil ?_
    refine KQ.thn hQ12 ?_
    clear hQ12 Q12
    refine KC.ret ?_
    refine KQ.thr hQ6 ?_
    clear hQ6 Q6
    have hE := Option.some.inj hF
    clear hF
    subst hE
    replace hM := hM.nilrow 5 1
    replace hM := hM.pick [1] rfl (by decide)
    refine KQ.rets Try.results12 (RVs.cons (RV.tm rfl) (RVs.cons (RV.tm rfl) RVs.nil)) ?_
    exact ⟨_, rfl, none, 0, rfl, hM⟩
  · rw [if_neg (ne_true hc)] at hF
    refine KC.skip ?_
    refine KQ.thn hQ6 ?_
    clear hQ6 Q6
    refine KC.seqH fun Q13 hQ13 => ?_
    replace hM := hM.drewN 1
    refine KC.draw [] [] [2, 3, 4] [5, 6] (.ofList [0, 1, 2, 3, 4, 5, 6]) moP (by kernel_rfl) ?_
    refine RD.q rfl rfl rfl rfl (fun w' hf => O.loadN (cs := [.int .u8 h1.f_TOS, .int .u16 h1.f_Total, .int .u16 h1.f_ID, .bool h1.f_DF, .bool h1.f_MF, .int .u16 h1.f_Frag, .int .u8 h1.f_TTL, .int .u8 h1.f_Proto, .string h1.f_Src, .string h1.f_Dst, .string h1.f_Options]) ag41 rfl (Cs.addsN [] ((hM.bx (i := 0) rfl).fut hf) rfl)) ?_
    refine RD.q rfl rfl rfl rfl (fun w' hf => O.loadN (cs := [.int .u8 h1.f_TOS, .int .u16 h1.f_Total, .int .u16 h1.f_ID, .bool h1.f_DF, .bool h1.f_MF, .int .u16 h1.f_Frag, .int .u8 h1.f_TTL, .int .u8 h1.f_Proto, .string h1.f_Src, .string h1.f_Dst, .string h1.f_Options]) ag41 rfl (Cs.addsN [] ((hM.bx (i := 0) rfl).fut hf) rfl)) ?_
    refine obindE hF fun y14 hx15 hF => ?_
    refine RD.mcall rfl rfl trivial Try.func28 bd28 rfl rfl (c_ref05_stands _ h1 0 _ hx15) fun v w16 hv => ?_
    obtain ⟨A18, c19, rfl, hN17⟩ := hv
    refine ⟨fun _ => hN17.fut, ?_⟩
    replace hM := hM.call hN17
    refine obindE hF fun y21 hx22 hF => ?_
    refine RD.mcall rfl rfl trivial Try.func29 bd29 rfl rfl (c_ref03_Of _ _ _ y14 (hM.rd (i := 1) rfl) _ hx22) fun v w23 hv => ?_
    obtain ⟨rfl, hN24⟩ := hv
    refine ⟨fun _ => hN24.fut, ?_⟩
    replace hM := hM.call0 hN24
    refine obindE hF fun y25 hx26 hF => ?_
    refine RD.mcall rfl rfl trivial Try.func28 bd28 rfl rfl (c_ref05_stands _ h1 y21 _ hx26) fun v w27 hv => ?_
    obtain ⟨A29, c30, rfl, hN28⟩ := hv
    refine ⟨fun _ => hN28.fut, ?_⟩
    replace hM := hM.call hN28
    refine RD.p rfl rfl rfl rfl (fun w' => O.assign rfl) ?_
    refine RD.p rfl rfl rfl rfl (fun w' => O.assign rfl) ?_
    refine RD.nil ?_
    refine KQ.thn hQ13 ?_
    clear hQ13 Q13
    refine KC.ret ?_
    have hE := Option.some.inj hF
    clear hF
    subst hE
    replace hM := hM.pick [2] rfl (by decide)
    refine KQ.rets Try.results12 (RVs.cons (RV.tm rfl) (RVs.cons (RV.tm rfl) RVs.nil)) ?_
    exact ⟨_, rfl, A29, c30, rfl, hM⟩
set_option maxRecDepth 100000 in
set_option maxHeartbeats 40000000 in
theorem c_bytes_Equal (w : World) (A2 : Option Addr) (c3 : Nat) (av1 : List Int) (hr4 : Rd w A2 c3 1 av1.length (av1.flatMap (eI .u8))) (A6 : Option Addr) (c7 : Nat) (b5 : List Int) (hr8 : Rd w A6 c7 1 b5.length (b5.flatMap (eI .u8))) (r : Bool) (hF : F_bytes_Equal av1 b5 = some r) :
    CallsR Try.prog 38 [.slice A2 (av1).length c3, .slice A6 (b5).length c7] w (fun v w' => v = .bool r ∧ Mem w [] w' []) := by
  refine calls_KC Try.func38 rfl Try.ntmps38 rfl ?_
  have hM := Mem.init w
  unfold F_bytes_Equal at hF
  refine KC.seqH fun Q9 hQ9 => ?_
  refine KC.region ?_
  refine RL.val (O.assign rfl) rfl ?_
  refine RL.nil ?_
  refine KQ.thn hQ9 ?_
  clear hQ9 Q9
  refine KC.seqH fun Q10 hQ10 => ?_
  refine KC.region ?_
  refine RL.val (O.move rfl) rfl ?_
  refine RL.val (O.b2s sl22 Try.underlying5 Try.underlying9 rfl ((hM.inp hr4 Off.nil))) rfl ?_
  refine RL.val (O.move rfl) rfl ?_
  refine RL.val (O.b2s sl22 Try.underlying5 Try.underlying9 rfl ((hM.inp hr8 Off.nil))) rfl ?_
  refine RL.val (O.streq rfl rfl) rfl ?_
  refine RL.val (O.assign rfl) rfl ?_
  refine RL.nil ?_
  refine KQ.thn hQ10 ?_
  clear hQ10 Q10
  refine KC.ret ?_
  have hE := Option.some.inj hF
  clear hF
  subst hE
  refine KQ.rets Try.results38 (RVs.cons (RV.tm rfl) RVs.nil) ?_
  exact ⟨_, rfl, rfl, hM⟩
end Go.Proofs.Ytjfdfjmnajjjaaa
