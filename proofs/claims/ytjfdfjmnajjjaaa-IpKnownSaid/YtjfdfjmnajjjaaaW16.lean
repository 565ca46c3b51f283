/- Printed by a program of this claim: each call returns what the plain function of its name gives. -/
import Derived.Test.YtjfdfjmnajjjaaaW1
import Derived.Test.YtjfdfjmnajjjaaaW2
import Derived.Test.YtjfdfjmnajjjaaaW5
import Derived.Test.YtjfdfjmnajjjaaaW9
import Derived.Test.YtjfdfjmnajjjaaaW14
import Derived.Test.YtjfdfjmnajjjaaaW15
set_option linter.unusedVariables false
namespace Go.Proofs.Ytjfdfjmnajjjaaa
open Go Go.Ox Go.RowKit
set_option maxRecDepth 100000 in
set_option maxHeartbeats 40000000 in
theorem c_ref05_Hop (w : World) (A2 : Option Addr) (c3 : Nat) (b1 : List Int) (hr4 : Rd w A2 c3 1 b1.length (b1.flatMap (eI .u8))) (r : (List Int) × Int) (hF : F_ref05_Hop b1 = some r) :
    CallsR Try.prog 24 [.slice A2 (b1).length c3] w (fun v w' => ∃ (A0 : Option Addr) (c0 : Nat), v = .tuple #[.slice A0 (r.1).length c0, .int .i64 r.2] ∧ Mem w [] w' [.row A0 c0 5 1 r.1.length (r.1.flatMap (eI .u8))]) := by
  refine calls_KC Try.func24 rfl Try.ntmps24 rfl ?_
  have hM := Mem.init w
  unfold F_ref05_Hop at hF
  refine KC.seqH fun Q5 hQ5 => ?_
  refine KC.region ?_
  refine RL.val (O.assign rfl) rfl ?_
  refine RL.val (O.assign rfl) rfl ?_
  refine RL.nil ?_
  refine KQ.thn hQ5 ?_
  clear hQ5 Q5
  refine KC.seqH fun Q6 hQ6 => ?_
  refine KC.region ?_
  refine RL.val (O.move rfl) rfl ?_
  refine obindE hF fun y7 hx8 hF => ?_
  refine RL.call Try.func22 bd22 rfl rfl (c_ref05_Parse _ _ _ b1 (hM.inp hr4 Off.nil) _ hx8) fun v w9 hv => ?_
  obtain ⟨rfl, hN10⟩ := hv
  replace hM := hM.call0 hN10
  refine RL.val (O.move rfl) rfl ?_
  refine RL.val (O.ext rfl rfl) rfl ?_
  refine RL.val (O.ext rfl rfl) rfl ?_
  refine RL.val (O.ext rfl rfl) rfl ?_
  refine RL.eff (E.alloc hM ze41) rfl fun v w12 hv => ?_
  clear hM
  obtain ⟨g11, rfl, hM, hf⟩ := hv
  refine RL.effs (E.stB (j := 0) (off := 0) (vs := [.int .u8 y7.1.f_TOS, .int .u16 y7.1.f_Total, .int .u16 y7.1.f_ID, .bool y7.1.f_DF, .bool y7.1.f_MF, .int .u16 y7.1.f_Frag, .int .u8 y7.1.f_TTL, .int .u8 y7.1.f_Proto, .string y7.1.f_Src, .string y7.1.f_Dst, .string y7.1.f_Options]) (cs' := [.int .u8 y7.1.f_TOS, .int .u16 y7.1.f_Total, .int .u16 y7.1.f_ID, .bool y7.1.f_DF, .bool y7.1.f_MF, .int .u16 y7.1.f_Frag, .int .u8 y7.1.f_TTL, .int .u8 y7.1.f_Proto, .string y7.1.f_Src, .string y7.1.f_Dst, .string y7.1.f_Options]) hM rfl sz41 rfl (adds_eq [] rfl) rfl rfl (One.all rfl) rfl rfl) fun w14 hM1 => ?_
  clear hM
  have hM := hM1
  clear hM1
  refine RL.val (O.assign rfl) rfl ?_
  refine RL.val (O.assign rfl) rfl ?_
  refine RL.nil ?_
  refine KQ.thn hQ6 ?_
  clear hQ6 Q6
  refine KC.seqH fun Q15 hQ15 => ?_
  refine KC.seqH fun Q16 hQ16 => ?_
  refine KC.region ?_
  refine RL.val (O.move rfl) rfl ?_
  refine RL.val (O.neq rfl rfl) rfl ?_
  refine RL.nil ?_
  refine KQ.thn hQ16 ?_
  clear hQ16 Q16
  refine KC.cond rfl (fun hc => ?_) (fun hc => ?_)
  · rw [if_pos hc] at hF
    refine KC.seqH fun Q17 hQ17 => ?_
    refine KC.region ?_
    refine RL.val (O.move rfl) rfl ?_
    refine RL.val (O.assign rfl) rfl ?_
    refine RL.val (O.assign rfl) rfl ?_
    refine RL.nil ?_
    refine KQ.thn hQ17 ?_
    clear hQ17 Q17
    refine KC.ret ?_
    refine KQ.thr hQ15 ?_
    clear hQ15 Q15
    have hE := Option.some.inj hF
    clear hF
    subst hE
    replace hM := hM.nilrow 5 1
    replace hM := hM.pick [1] rfl (by decide)
    refine KQ.rets Try.results24 (RVs.cons (RV.tm rfl) (RVs.cons (RV.tm rfl) RVs.nil)) ?_
    exact ⟨_, rfl, none, 0, rfl, hM⟩
  · rw [if_neg (ne_true hc)] at hF
    refine KC.skip ?_
    refine KQ.thn hQ15 ?_
    clear hQ15 Q15
    refine KC.seqH fun Q18 hQ18 => ?_
    refine KC.seqH fun Q19 hQ19 => ?_
    refine KC.region ?_
    refine RL.val (O.fldA fl41_6 (by decide) rfl) rfl ?_
    refine RL.val (O.load sc5 rfl (Cs.adds [6] ((hM.bx (i := 0) rfl)) rfl)) rfl ?_
    refine RL.val (O.eql rfl rfl) rfl ?_
    refine RL.nil ?_
    refine KQ.thn hQ19 ?_
    clear hQ19 Q19
    refine KC.cond rfl (fun hc => ?_) (fun hc => ?_)
    · rw [if_pos hc] at hF
      refine KC.seqH fun Q20 hQ20 => ?_
      refine KC.region ?_
      refine RL.val (O.assign rfl) rfl ?_
      refine RL.val (O.assign rfl) rfl ?_
      refine RL.nil ?_
      refine KQ.thn hQ20 ?_
      clear hQ20 Q20
      refine KC.ret ?_
      refine KQ.thr hQ18 ?_
      clear hQ18 Q18
      have hE := Option.some.inj hF
      clear hF
      subst hE
      replace hM := hM.nilrow 5 1
      replace hM := hM.pick [1] rfl (by decide)
      refine KQ.rets Try.results24 (RVs.cons (RV.tm rfl) (RVs.cons (RV.tm rfl) RVs.nil)) ?_
      exact ⟨_, rfl, none, 0, rfl, hM⟩
    · rw [if_neg (ne_true hc)] at hF
      refine KC.skip ?_
      refine KQ.thn hQ18 ?_
      clear hQ18 Q18
      refine KC.seqH fun Q21 hQ21 => ?_
      refine KC.region ?_
      refine RL.val (O.move rfl) rfl ?_
      refine obindE hF fun y22 hx23 hF => ?_
      refine RL.call Try.func18 bd18 rfl rfl (c_ref01_Join _ none 0 [] Rd.nilr _ _ b1 (hM.inp hr4 Off.nil) _ hx23) fun v w24 hv => ?_
      obtain ⟨A26, c27, rfl, hN25⟩ := hv
      replace hM := hM.call hN25
      refine RL.val (O.assign rfl) rfl ?_
      refine RL.nil ?_
      refine KQ.thn hQ21 ?_
      clear hQ21 Q21
      refine KC.seqH fun Q29 hQ29 => ?_
      refine KC.region ?_
      refine RL.val (O.move rfl) rfl ?_
      refine RL.val (O.move rfl) rfl ?_
      refine obindE hF fun xv32 hx31 hF => ?_
      have hA30 := Rd.atN (f := (eI .u8)) (s := 1) (fun _ => rfl) (by decide) (hM.inp hr4 Off.nil) hx31
      refine RL.val (O.idxA sl22 (hA30) rfl rfl) rfl ?_
      refine RL.val (O.load sc5 rfl (hA30).cells.at0) rfl ?_
      refine RL.val (O.sub rfl rfl) rfl ?_
      refine obindE hF fun xv35 hx34 hF => ?_
      have hA33 := Rd.atN (f := (eI .u8)) (s := 1) (fun _ => rfl) (by decide) (hM.rd (i := 1) rfl) hx34
      refine RL.val (O.idxA sl22 (hA33) rfl rfl) rfl ?_
      refine RL.effs (E.stR (enc := (eI .u8)) (j := 1) (off := 0) (vs := [.int .u8 (IntKind.u8.wrap (xv32 - 1))]) (x' := (IntKind.u8.wrap (xv32 - 1))) hM rfl (fun _ => rfl) hx34 sz5 rfl (addsR_eq [] rfl) rfl rfl (One.all rfl) rfl rfl) fun w36 hM1 => ?_
      clear hM
      obtain ⟨hM, hn37⟩ := hM1
      refine RL.reslot (t := 7) rfl hn37 ?_
      refine RL.reslot (t := 29) rfl hn37 ?_
      refine RL.nil ?_
      refine KQ.thn hQ29 ?_
      clear hQ29 Q29
      refine KC.seqH fun Q38 hQ38 => ?_
      refine KC.region ?_
      refine RL.val (O.move rfl) rfl ?_
      refine obindE hF fun y39 hx40 hF => ?_
      refine RL.call Try.func43 bd43 rfl rfl (c_ref01_Get _ _ _ b1 (hM.inp hr4 Off.nil) 10 2 _ hx40) fun v w41 hv => ?_
      obtain ⟨rfl, hN42⟩ := hv
      replace hM := hM.call0 hN42
      refine RL.val (O.move rfl) rfl ?_
      refine RL.val (O.ext rfl rfl) rfl ?_
      refine RL.val (O.ext rfl rfl) rfl ?_
      refine RL.val (O.assign rfl) rfl ?_
      refine RL.val (O.assign rfl) rfl ?_
      refine RL.nil ?_
      refine KQ.thn hQ38 ?_
      clear hQ38 Q38
      refine KC.seqH fun Q43 hQ43 => ?_
      refine KC.region ?_
      refine RL.val (O.move rfl) rfl ?_
      refine obindE hF fun y44 hx45 hF => ?_
      refine RL.call Try.func43 bd43 rfl rfl (c_ref01_Get _ _ _ b1 (hM.inp hr4 Off.nil) 8 2 _ hx45) fun v w46 hv => ?_
      obtain ⟨rfl, hN47⟩ := hv
      replace hM := hM.call0 hN47
      refine RL.val (O.move rfl) rfl ?_
      refine RL.val (O.ext rfl rfl) rfl ?_
      refine RL.val (O.ext rfl rfl) rfl ?_
      refine RL.val (O.assign rfl) rfl ?_
      refine RL.val (O.assign rfl) rfl ?_
      refine RL.nil ?_
      refine KQ.thn hQ43 ?_
      clear hQ43 Q43
      refine KC.seqH fun Q48 hQ48 => ?_
      refine KC.region ?_
      refine RL.val (O.move rfl) rfl ?_
      refine obindE hF fun y49 hx50 hF => ?_
      refine RL.call Try.func43 bd43 rfl rfl (c_ref01_Get _ _ _ (y22.set (8 : Int).toNat (IntKind.u8.wrap (xv32 - 1))) (hM.rd (i := 1) rfl) 8 2 _ hx50) fun v w51 hv => ?_
      obtain ⟨rfl, hN52⟩ := hv
      replace hM := hM.call0 hN52
      refine RL.val (O.move rfl) rfl ?_
      refine RL.val (O.ext rfl rfl) rfl ?_
      refine RL.val (O.ext rfl rfl) rfl ?_
      refine RL.val (O.assign rfl) rfl ?_
      refine RL.val (O.assign rfl) rfl ?_
      refine RL.nil ?_
      refine KQ.thn hQ48 ?_
      clear hQ48 Q48
      refine KC.seqH fun Q53 hQ53 => ?_
      refine KC.region ?_
      refine RL.val (O.move rfl) rfl ?_
      refine RL.val (O.conv un70 Try.underlying36 rfl) rfl ?_
      refine RL.val (O.move rfl) rfl ?_
      refine RL.val (O.conv un70 Try.underlying36 rfl) rfl ?_
      refine RL.val (O.move rfl) rfl ?_
      refine RL.val (O.conv un70 Try.underlying36 rfl) rfl ?_
      refine obindE hF fun y54 hx55 hF => ?_
      refine RL.call Try.func46 bd46 rfl rfl (c_ref03_Change _ (IntKind.u16.wrap y39.1) (IntKind.u16.wrap y44.1) (IntKind.u16.wrap y49.1) _ hx55) fun v w56 hv => ?_
      obtain ⟨rfl, hN57⟩ := hv
      replace hM := hM.call0 hN57
      refine RL.val (O.conv un36 Try.underlying70 rfl) rfl ?_
      refine obindE hF fun y58 hx59 hF => ?_
      refine RL.call Try.func45 bd45 rfl rfl (c_ref01_Put _ (IntKind.u64.wrap y54) 2 _ hx59) fun v w60 hv => ?_
      obtain ⟨A62, c63, rfl, hN61⟩ := hv
      replace hM := hM.call hN61
      refine RL.val (O.assign rfl) rfl ?_
      refine RL.nil ?_
      refine KQ.thn hQ53 ?_
      clear hQ53 Q53
      refine KC.seqH fun Q65 hQ65 => ?_
      refine KC.region ?_
      refine RL.val (O.move rfl) rfl ?_
      refine RL.val (O.move rfl) rfl ?_
      refine obindE hF fun xv68 hx67 hF => ?_
      have hA66 := Rd.atN (f := (eI .u8)) (s := 1) (fun _ => rfl) (by decide) (hM.rd (i := 2) rfl) hx67
      refine RL.val (O.idxA sl22 (hA66) rfl rfl) rfl ?_
      refine RL.val (O.load sc5 rfl (hA66).cells.at0) rfl ?_
      refine obindE hF fun xv71 hx70 hF => ?_
      have hA69 := Rd.atN (f := (eI .u8)) (s := 1) (fun _ => rfl) (by decide) (hM.rd (i := 1) rfl) hx70
      refine RL.val (O.idxA sl22 (hA69) rfl rfl) rfl ?_
      refine RL.effs (E.stR (enc := (eI .u8)) (j := 1) (off := 0) (vs := [.int .u8 xv68]) (x' := xv68) hM rfl (fun _ => rfl) hx70 sz5 rfl (addsR_eq [] rfl) rfl rfl (One.all rfl) rfl rfl) fun w72 hM1 => ?_
      clear hM
      obtain ⟨hM, hn73⟩ := hM1
      refine RL.reslot (t := 7) rfl hn73 ?_
      refine RL.reslot (t := 59) rfl hn73 ?_
      refine RL.nil ?_
      refine KQ.thn hQ65 ?_
      clear hQ65 Q65
      refine KC.seqH fun Q74 hQ74 => ?_
      refine KC.region ?_
      refine RL.val (O.move rfl) rfl ?_
      refine RL.val (O.move rfl) rfl ?_
      refine obindE hF fun xv77 hx76 hF => ?_
      have hA75 := Rd.atN (f := (eI .u8)) (s := 1) (fun _ => rfl) (by decide) (hM.rd (i := 2) rfl) hx76
      refine RL.val (O.idxA sl22 (hA75) rfl rfl) rfl ?_
      refine RL.val (O.load sc5 rfl (hA75).cells.at0) rfl ?_
      refine obindE hF fun xv80 hx79 hF => ?_
      have hA78 := Rd.atN (f := (eI .u8)) (s := 1) (fun _ => rfl) (by decide) (hM.rd (i := 1) rfl) hx79
      refine RL.val (O.idxA sl22 (hA78) rfl rfl) rfl ?_
      refine RL.effs (E.stR (enc := (eI .u8)) (j := 1) (off := 0) (vs := [.int .u8 xv77]) (x' := xv77) hM rfl (fun _ => rfl) hx79 sz5 rfl (addsR_eq [] rfl) rfl rfl (One.all rfl) rfl rfl) fun w81 hM1 => ?_
      clear hM
      obtain ⟨hM, hn82⟩ := hM1
      refine RL.reslot (t := 7) rfl hn82 ?_
      refine RL.reslot (t := 64) rfl hn82 ?_
      refine RL.nil ?_
      refine KQ.thn hQ74 ?_
      clear hQ74 Q74
      replace hM := hM.pick [1] rfl (by decide)
      refine KC.seqH fun Q83 hQ83 => ?_
      refine KC.region ?_
      refine RL.val (O.move rfl) rfl ?_
      refine RL.val (O.assign rfl) rfl ?_
      refine RL.val (O.assign rfl) rfl ?_
      refine RL.nil ?_
      refine KQ.thn hQ83 ?_
      clear hQ83 Q83
      refine KC.ret ?_
      have hE := Option.some.inj hF
      clear hF
      subst hE
      refine KQ.rets Try.results24 (RVs.cons (RV.tm rfl) (RVs.cons (RV.tm rfl) RVs.nil)) ?_
      exact ⟨_, rfl, A26, c27, rfl, hM⟩
set_option maxRecDepth 100000 in
set_option maxHeartbeats 40000000 in
theorem c_ip_Body (w : World) (A2 : Option Addr) (c3 : Nat) (b1 : List Int) (hr4 : Rd w A2 c3 1 b1.length (b1.flatMap (eI .u8))) (r : (List Int) × Int) (hF : F_ip_Body b1 = some r) :
    CallsR Try.prog 25 [.slice A2 (b1).length c3] w (fun v w' => ∃ (A0 : Option Addr) (c0 : Nat), v = .tuple #[.slice A0 (r.1).length c0, .int .i64 r.2] ∧ Mem w [] w' [.row A0 c0 5 1 r.1.length (r.1.flatMap (eI .u8))]) := by
  refine calls_KC Try.func25 rfl Try.ntmps25 rfl ?_
  have hM := Mem.init w
  unfold F_ip_Body at hF
  refine KC.seqH fun Q5 hQ5 => ?_
  refine KC.region ?_
  refine RL.val (O.assign rfl) rfl ?_
  refine RL.val (O.assign rfl) rfl ?_
  refine RL.nil ?_
  refine KQ.thn hQ5 ?_
  clear hQ5 Q5
  refine KC.seqH fun Q6 hQ6 => ?_
  refine KC.region ?_
  refine RL.val (O.move rfl) rfl ?_
  refine obindE hF fun y7 hx8 hF => ?_
  refine RL.call Try.func19 bd19 rfl rfl (c_ip_Parse _ _ _ b1 (hM.inp hr4 Off.nil) _ hx8) fun v w9 hv => ?_
  obtain ⟨A11, c12, rfl, hN10⟩ := hv
  replace hM := hM.call hN10
  refine RL.val (O.move rfl) rfl ?_
  refine RL.val (O.ext rfl rfl) rfl ?_
  refine RL.val (O.ext rfl rfl) rfl ?_
  refine RL.val (O.ext rfl rfl) rfl ?_
  refine RL.eff (E.alloc hM ze39) rfl fun v w15 hv => ?_
  clear hM
  obtain ⟨g14, rfl, hM, hf⟩ := hv
  refine RL.effs (E.stB (j := 1) (off := 0) (vs := [.int .u8 y7.1.f_TOS, .int .u16 y7.1.f_Total, .int .u16 y7.1.f_ID, .bool y7.1.f_DF, .bool y7.1.f_MF, .int .u16 y7.1.f_Frag, .int .u8 y7.1.f_TTL, .int .u8 y7.1.f_Proto, .int .u8 (List.getD y7.1.f_Src 0 0), .int .u8 (List.getD y7.1.f_Src 1 0), .int .u8 (List.getD y7.1.f_Src 2 0), .int .u8 (List.getD y7.1.f_Src 3 0), .int .u8 (List.getD y7.1.f_Dst 0 0), .int .u8 (List.getD y7.1.f_Dst 1 0), .int .u8 (List.getD y7.1.f_Dst 2 0), .int .u8 (List.getD y7.1.f_Dst 3 0), .slice A11 (y7.1.f_Options).length c12]) (cs' := [.int .u8 y7.1.f_TOS, .int .u16 y7.1.f_Total, .int .u16 y7.1.f_ID, .bool y7.1.f_DF, .bool y7.1.f_MF, .int .u16 y7.1.f_Frag, .int .u8 y7.1.f_TTL, .int .u8 y7.1.f_Proto, .int .u8 (List.getD y7.1.f_Src 0 0), .int .u8 (List.getD y7.1.f_Src 1 0), .int .u8 (List.getD y7.1.f_Src 2 0), .int .u8 (List.getD y7.1.f_Src 3 0), .int .u8 (List.getD y7.1.f_Dst 0 0), .int .u8 (List.getD y7.1.f_Dst 1 0), .int .u8 (List.getD y7.1.f_Dst 2 0), .int .u8 (List.getD y7.1.f_Dst 3 0), .slice A11 (y7.1.f_Options).length c12]) hM rfl sz39 rfl (adds_eq [] rfl) rfl rfl (One.all rfl) rfl rfl) fun w17 hM1 => ?_
  clear hM
  have hM := hM1
  clear hM1
  refine RL.val (O.assign rfl) rfl ?_
  refine RL.val (O.assign rfl) rfl ?_
  refine RL.nil ?_
  refine KQ.thn hQ6 ?_
  clear hQ6 Q6
  refine KC.seqH fun Q18 hQ18 => ?_
  refine KC.block ?_
  refine KC.seqH fun Q19 hQ19 => ?_
  refine KC.region ?_
  refine RL.val (O.move rfl) rfl ?_
  refine RL.val (O.neq rfl rfl) rfl ?_
  refine RL.val (O.assign rfl) rfl ?_
  refine RL.nil ?_
  refine KQ.thn hQ19 ?_
  clear hQ19 Q19
  refine KC.cond rfl (fun hc => ?_) (fun hc => ?_)
  · rw [if_pos hc] at hF
    refine KC.seqH fun Q20 hQ20 => ?_
    refine KC.region ?_
    refine RL.val (O.move rfl) rfl ?_
    refine RL.val (O.assign rfl) rfl ?_
    refine RL.val (O.assign rfl) rfl ?_
    refine RL.nil ?_
    refine KQ.thn hQ20 ?_
    clear hQ20 Q20
    refine KC.ret ?_
    refine KQ.blk_r ?_
    refine KQ.thr hQ18 ?_
    clear hQ18 Q18
    have hE := Option.some.inj hF
    clear hF
    subst hE
    replace hM := hM.nilrow 5 1
    replace hM := hM.pick [2] rfl (by decide)
    refine KQ.rets Try.results25 (RVs.cons (RV.tm rfl) (RVs.cons (RV.tm rfl) RVs.nil)) ?_
    exact ⟨_, rfl, none, 0, rfl, hM⟩
  · rw [if_neg (ne_true hc)] at hF
    refine KC.seqH fun Q21 hQ21 => ?_
    refine KC.region ?_
    refine RL.val (O.move rfl) rfl ?_
    refine RL.val (O.len sl22 rfl) rfl ?_
    refine RL.val (O.fldA fl39_1 (by decide) rfl) rfl ?_
    refine RL.val (O.load sc36 rfl (Cs.adds [1] ((hM.bx (i := 1) rfl)) rfl)) rfl ?_
    refine RL.val (O.conv un36 Try.underlying3 rfl) rfl ?_
    refine RL.val (O.lss rfl rfl) rfl ?_
    refine RL.val (O.assign rfl) rfl ?_
    refine RL.nil ?_
    refine KQ.thn hQ21 ?_
    clear hQ21 Q21
    refine KC.cond rfl (fun hc => ?_) (fun hc => ?_)
    · rw [if_pos hc] at hF
      refine KC.seqH fun Q22 hQ22 => ?_
      refine KC.region ?_
      refine RL.val (O.assign rfl) rfl ?_
      refine RL.val (O.assign rfl) rfl ?_
      refine RL.nil ?_
      refine KQ.thn hQ22 ?_
      clear hQ22 Q22
      refine KC.ret ?_
      refine KQ.blk_r ?_
      refine KQ.thr hQ18 ?_
      clear hQ18 Q18
      have hE := Option.some.inj hF
      clear hF
      subst hE
      replace hM := hM.nilrow 5 1
      replace hM := hM.pick [2] rfl (by decide)
      refine KQ.rets Try.results25 (RVs.cons (RV.tm rfl) (RVs.cons (RV.tm rfl) RVs.nil)) ?_
      exact ⟨_, rfl, none, 0, rfl, hM⟩
    · rw [if_neg (ne_true hc)] at hF
      refine KC.skip ?_
      refine KQ.blk_n ?_
      refine KQ.thn hQ18 ?_
      clear hQ18 Q18
      refine KC.seqH fun Q23 hQ23 => ?_
      refine KC.region ?_
      refine RL.val (O.move rfl) rfl ?_
      refine RL.val (O.move rfl) rfl ?_
      refine RL.val (O.fldA fl39_1 (by decide) rfl) rfl ?_
      refine RL.val (O.load sc36 rfl (Cs.adds [1] ((hM.bx (i := 1) rfl)) rfl)) rfl ?_
      refine obindE hF fun cut24 hy25 hF => ?_
      refine cutNE A2 c3 (Int.toNat y7.2.1) 1 fun A26 c27 eA29 ec30 => ?_
      have hr28 := Rd.cutT (enc := (eI .u8)) (s := 1) (fun _ => rfl) hr4 hy25 (m := c3) (by have := hr4.cap; have := (gcut_some hy25).2.2.1; omega) (Nat.le_refl _)
      rw [← eA29, ← ec30] at hr28
      refine RL.val (v := .slice A26 (cut24).length c27) (by rw [eA29, ec30]; exact O.cutT sl22 (hM.inp hr4 Off.nil) hy25 rfl rfl rfl) rfl ?_
      refine obindE hF fun y31 hx32 hF => ?_
      refine RL.call Try.func40 bd40 rfl rfl (c_slices_Clone_byte_byte _ _ _ cut24 (hM.inp hr28 Off.nil) _ hx32) fun v w33 hv => ?_
      obtain ⟨A35, c36, rfl, hN34⟩ := hv
      replace hM := hM.call hN34
      refine RL.val (O.assign rfl) rfl ?_
      refine RL.val (O.assign rfl) rfl ?_
      refine RL.nil ?_
      refine KQ.thn hQ23 ?_
      clear hQ23 Q23
      refine KC.ret ?_
      have hE := Option.some.inj hF
      clear hF
      subst hE
      replace hM := hM.pick [2] rfl (by decide)
      refine KQ.rets Try.results25 (RVs.cons (RV.tm rfl) (RVs.cons (RV.tm rfl) RVs.nil)) ?_
      exact ⟨_, rfl, A35, c36, rfl, hM⟩
set_option maxRecDepth 100000 in
set_option maxHeartbeats 40000000 in
theorem c_law05_pad (w : World) (h1 : T_ref05_Header) (r : T_ref05_Header) (hF : F_law05_pad h1 = some r) :
    CallsR Try.prog 26 [.agg #[.int .u8 h1.f_TOS, .int .u16 h1.f_Total, .int .u16 h1.f_ID, .bool h1.f_DF, .bool h1.f_MF, .int .u16 h1.f_Frag, .int .u8 h1.f_TTL, .int .u8 h1.f_Proto, .string h1.f_Src, .string h1.f_Dst, .string h1.f_Options]] w (fun v w' => v = .agg #[.int .u8 r.f_TOS, .int .u16 r.f_Total, .int .u16 r.f_ID, .bool r.f_DF, .bool r.f_MF, .int .u16 r.f_Frag, .int .u8 r.f_TTL, .int .u8 r.f_Proto, .string r.f_Src, .string r.f_Dst, .string r.f_Options] ∧ Mem w [] w' []) := by
  refine calls_KC Try.func26 rfl Try.ntmps26 rfl ?_
  have hM := Mem.init w
  unfold F_law05_pad at hF
  refine KC.seqH fun Q2 hQ2 => ?_
  refine KC.region ?_
  refine RL.eff (E.box (vs := [.int .u8 h1.f_TOS, .int .u16 h1.f_Total, .int .u16 h1.f_ID, .bool h1.f_DF, .bool h1.f_MF, .int .u16 h1.f_Frag, .int .u8 h1.f_TTL, .int .u8 h1.f_Proto, .string h1.f_Src, .string h1.f_Dst, .string h1.f_Options]) hM rfl rfl) rfl fun v w4 hv => ?_
  clear hM
  obtain ⟨g3, rfl, hM, hf⟩ := hv
  refine RL.eff (E.alloc hM ze41) rfl fun v w7 hv => ?_
  clear hM
  obtain ⟨g6, rfl, hM, hf⟩ := hv
  refine RL.nil ?_
  refine KQ.thn hQ2 ?_
  clear hQ2 Q2
  refine KC.cut (fun a w17 => ∃ (h14 : ByteArray) (h15 : ByteArray), Kn 11 [(1, .pointer (some ⟨g3, 0, none⟩)), (2, .pointer (some ⟨g6, 0, none⟩))] a ∧ Mem w [] w17 [.box g3 41 [.int .u8 h1.f_TOS, .int .u16 h1.f_Total, .int .u16 h1.f_ID, .bool h1.f_DF, .bool h1.f_MF, .int .u16 h1.f_Frag, .int .u8 h1.f_TTL, .int .u8 h1.f_Proto, .string h14, .string h15, .string h1.f_Options], .box g6 41 [.int .u8 0, .int .u16 0, .int .u16 0, .bool false, .bool false, .int .u16 0, .int .u8 0, .int .u8 0, .string ByteArray.empty, .string ByteArray.empty, .string ByteArray.empty]] ∧ F_law05_pad_j1 h1 h14 h15 = some r) ?_ ?_
  · refine KC.seqH fun Q9 hQ9 => ?_
    refine KC.region ?_
    refine RL.val (O.fldA fl41_8 (by decide) rfl) rfl ?_
    refine RL.val (O.load sc9 rfl (Cs.adds [8] ((hM.bx (i := 0) rfl)) rfl)) rfl ?_
    refine RL.val (O.streq rfl rfl) rfl ?_
    refine RL.nil ?_
    refine KQ.thn hQ9 ?_
    clear hQ9 Q9
    refine KC.cond rfl (fun hc => ?_) (fun hc => ?_)
    · rw [if_pos hc] at hF
      refine KC.seqH fun Q10 hQ10 => ?_
      refine KC.region ?_
      refine RL.val (O.fldA fl41_8 (by decide) rfl) rfl ?_
      refine RL.effs (E.stB (j := 0) (off := 8) (vs := [.string (⟨#[0, 0, 0, 0]⟩ : ByteArray)]) (cs' := [.int .u8 h1.f_TOS, .int .u16 h1.f_Total, .int .u16 h1.f_ID, .bool h1.f_DF, .bool h1.f_MF, .int .u16 h1.f_Frag, .int .u8 h1.f_TTL, .int .u8 h1.f_Proto, .string (⟨#[0, 0, 0, 0]⟩ : ByteArray), .string h1.f_Dst, .string h1.f_Options]) hM rfl sz9 rfl (adds_eq [8] rfl) rfl rfl (One.all rfl) rfl rfl) fun w11 hM1 => ?_
      clear hM
      have hM := hM1
      clear hM1
      refine RL.nil ?_
      refine KQ.thn hQ10 ?_
      clear hQ10 Q10
      refine KC.region ?_
      refine RL.val (O.fldA fl41_8 (by decide) rfl) rfl ?_
      refine RL.val (O.load sc9 rfl (Cs.adds [8] ((hM.bx (i := 0) rfl)) rfl)) rfl ?_
      refine RL.val (O.fldA fl41_9 (by decide) rfl) rfl ?_
      refine RL.effs (E.stB (j := 0) (off := 9) (vs := [.string (⟨#[0, 0, 0, 0]⟩ : ByteArray)]) (cs' := [.int .u8 h1.f_TOS, .int .u16 h1.f_Total, .int .u16 h1.f_ID, .bool h1.f_DF, .bool h1.f_MF, .int .u16 h1.f_Frag, .int .u8 h1.f_TTL, .int .u8 h1.f_Proto, .string (⟨#[0, 0, 0, 0]⟩ : ByteArray), .string (⟨#[0, 0, 0, 0]⟩ : ByteArray), .string h1.f_Options]) hM rfl sz9 rfl (adds_eq [9] rfl) rfl rfl (One.all rfl) rfl rfl) fun w12 hM1 => ?_
      clear hM
      have hM := hM1
      clear hM1
      refine RL.nil ?_
      refine KQ.then_k ?_
      exact fun a ha => ⟨(⟨#[0, 0, 0, 0]⟩ : ByteArray), (⟨#[0, 0, 0, 0]⟩ : ByteArray), ha.less (less_cons rfl (less_cons rfl less_nil)), hM, hF⟩
    · rw [if_neg (ne_true hc)] at hF
      refine KC.skip ?_
      refine KQ.then_k ?_
      exact fun a ha => ⟨h1.f_Src, h1.f_Dst, ha.less (less_cons rfl (less_cons rfl less_nil)), hM, hF⟩
  · rintro a w17 ⟨h14, h15, ha, hM, hF⟩
    refine KC.app ha ?_
    clear ha
    unfold F_law05_pad_j1 at hF
    refine KC.seqH fun Q18 hQ18 => ?_
    refine KC.region ?_
    refine RL.val (O.loadN (cs := [.int .u8 h1.f_TOS, .int .u16 h1.f_Total, .int .u16 h1.f_ID, .bool h1.f_DF, .bool h1.f_MF, .int .u16 h1.f_Frag, .int .u8 h1.f_TTL, .int .u8 h1.f_Proto, .string h14, .string h15, .string h1.f_Options]) ag41 rfl (Cs.addsN [] ((hM.bx (i := 0) rfl)) rfl)) rfl ?_
    refine RL.effs (E.stB (j := 1) (off := 0) (vs := [.int .u8 h1.f_TOS, .int .u16 h1.f_Total, .int .u16 h1.f_ID, .bool h1.f_DF, .bool h1.f_MF, .int .u16 h1.f_Frag, .int .u8 h1.f_TTL, .int .u8 h1.f_Proto, .string h14, .string h15, .string h1.f_Options]) (cs' := [.int .u8 h1.f_TOS, .int .u16 h1.f_Total, .int .u16 h1.f_ID, .bool h1.f_DF, .bool h1.f_MF, .int .u16 h1.f_Frag, .int .u8 h1.f_TTL, .int .u8 h1.f_Proto, .string h14, .string h15, .string h1.f_Options]) hM rfl sz41 rfl (adds_eq [] rfl) rfl rfl (One.all rfl) rfl rfl) fun w19 hM1 => ?_
    clear hM
    have hM := hM1
    clear hM1
    refine RL.nil ?_
    refine KQ.thn hQ18 ?_
    clear hQ18 Q18
    refine KC.ret ?_
    have hE := Option.some.inj hF
    clear hF
    subst hE
    have hb20 := hM.bx (i := 1) rfl
    replace hM := hM.pick [] rfl (by decide)
    refine KQ.rets Try.results26 (RVs.cons (RV.cN (cs := [.int .u8 h1.f_TOS, .int .u16 h1.f_Total, .int .u16 h1.f_ID, .bool h1.f_DF, .bool h1.f_MF, .int .u16 h1.f_Frag, .int .u8 h1.f_TTL, .int .u8 h1.f_Proto, .string h14, .string h15, .string h1.f_Options]) rfl ag41 hb20) RVs.nil) ?_
    exact ⟨_, rfl, rfl, hM⟩
end Go.Proofs.Ytjfdfjmnajjjaaa
