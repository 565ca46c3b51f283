/- Printed by a program of this claim: each call returns what the plain function of its name gives. -/
import Derived.Test.YtjfdfjmnajjjaaaW1
import Derived.Test.YtjfdfjmnajjjaaaW2
import Derived.Test.YtjfdfjmnajjjaaaW4
set_option linter.unusedVariables false
namespace Go.Proofs.Ytjfdfjmnajjjaaa
open Go Go.Ox Go.RowKit
set_option maxRecDepth 100000 in
set_option maxHeartbeats 40000000 in
theorem c_ip_Parse (w : World) (A2 : Option Addr) (c3 : Nat) (b1 : List Int) (hr4 : Rd w A2 c3 1 b1.length (b1.flatMap (eI .u8))) (r : T_ip_Header × Int × Int) (hF : F_ip_Parse b1 = some r) :
    CallsR Try.prog 19 [.slice A2 (b1).length c3] w (fun v w' => ∃ (A0 : Option Addr) (c0 : Nat), v = .tuple #[.agg #[.int .u8 r.1.f_TOS, .int .u16 r.1.f_Total, .int .u16 r.1.f_ID, .bool r.1.f_DF, .bool r.1.f_MF, .int .u16 r.1.f_Frag, .int .u8 r.1.f_TTL, .int .u8 r.1.f_Proto, .int .u8 (List.getD r.1.f_Src 0 0), .int .u8 (List.getD r.1.f_Src 1 0), .int .u8 (List.getD r.1.f_Src 2 0), .int .u8 (List.getD r.1.f_Src 3 0), .int .u8 (List.getD r.1.f_Dst 0 0), .int .u8 (List.getD r.1.f_Dst 1 0), .int .u8 (List.getD r.1.f_Dst 2 0), .int .u8 (List.getD r.1.f_Dst 3 0), .slice A0 (r.1.f_Options).length c0], .int .i64 r.2.1, .int .i64 r.2.2] ∧ Mem w [] w' [.row A0 c0 5 1 r.1.f_Options.length (r.1.f_Options.flatMap (eI .u8))]) := by
  refine calls_KC Try.func19 rfl Try.ntmps19 rfl ?_
  have hM := Mem.init w
  unfold F_ip_Parse at hF
  refine KC.seqH fun Q5 hQ5 => ?_
  refine KC.region ?_
  refine RL.eff (E.alloc hM ze39) rfl fun v w7 hv => ?_
  clear hM
  obtain ⟨g6, rfl, hM, hf⟩ := hv
  refine RL.val (O.assign rfl) rfl ?_
  refine RL.val (O.assign rfl) rfl ?_
  refine RL.nil ?_
  refine KQ.thn hQ5 ?_
  clear hQ5 Q5
  refine KC.seqH fun Q9 hQ9 => ?_
  refine KC.seqH fun Q10 hQ10 => ?_
  refine KC.region ?_
  refine RL.val (O.move rfl) rfl ?_
  refine RL.val (O.len sl22 rfl) rfl ?_
  refine RL.val (O.lss rfl rfl) rfl ?_
  refine RL.nil ?_
  refine KQ.thn hQ10 ?_
  clear hQ10 Q10
  refine KC.cond rfl (fun hc => ?_) (fun hc => ?_)
  · rw [if_pos hc] at hF
    refine KC.seqH fun Q11 hQ11 => ?_
    refine KC.region ?_
    refine RL.val (O.bld (cs := [.int .u8 0, .int .u16 0, .int .u16 0, .bool false, .bool false, .int .u16 0, .int .u8 0, .int .u8 0, .int .u8 (List.getD (List.replicate 4 0) 0 0), .int .u8 (List.getD (List.replicate 4 0) 1 0), .int .u8 (List.getD (List.replicate 4 0) 2 0), .int .u8 (List.getD (List.replicate 4 0) 3 0), .int .u8 (List.getD (List.replicate 4 0) 0 0), .int .u8 (List.getD (List.replicate 4 0) 1 0), .int .u8 (List.getD (List.replicate 4 0) 2 0), .int .u8 (List.getD (List.replicate 4 0) 3 0), .slice none 0 0]) bt39 rfl (by kernel_rfl)) rfl ?_
    refine RL.effs (E.stB (j := 0) (off := 0) (vs := [.int .u8 0, .int .u16 0, .int .u16 0, .bool false, .bool false, .int .u16 0, .int .u8 0, .int .u8 0, .int .u8 (List.getD (List.replicate 4 0) 0 0), .int .u8 (List.getD (List.replicate 4 0) 1 0), .int .u8 (List.getD (List.replicate 4 0) 2 0), .int .u8 (List.getD (List.replicate 4 0) 3 0), .int .u8 (List.getD (List.replicate 4 0) 0 0), .int .u8 (List.getD (List.replicate 4 0) 1 0), .int .u8 (List.getD (List.replicate 4 0) 2 0), .int .u8 (List.getD (List.replicate 4 0) 3 0), .slice none 0 0]) (cs' := [.int .u8 0, .int .u16 0, .int .u16 0, .bool false, .bool false, .int .u16 0, .int .u8 0, .int .u8 0, .int .u8 (List.getD (List.replicate 4 0) 0 0), .int .u8 (List.getD (List.replicate 4 0) 1 0), .int .u8 (List.getD (List.replicate 4 0) 2 0), .int .u8 (List.getD (List.replicate 4 0) 3 0), .int .u8 (List.getD (List.replicate 4 0) 0 0), .int .u8 (List.getD (List.replicate 4 0) 1 0), .int .u8 (List.getD (List.replicate 4 0) 2 0), .int .u8 (List.getD (List.replicate 4 0) 3 0), .slice none 0 0]) hM rfl sz39 rfl (adds_eq [] rfl) rfl rfl (One.all rfl) rfl rfl) fun w12 hM1 => ?_
    clear hM
    have hM := hM1
    clear hM1
    refine RL.val (O.assign rfl) rfl ?_
    refine RL.val (O.assign rfl) rfl ?_
    refine RL.nil ?_
    refine KQ.thn hQ11 ?_
    clear hQ11 Q11
    refine KC.ret ?_
    refine KQ.thr hQ9 ?_
    clear hQ9 Q9
    have hE := Option.some.inj hF
    clear hF
    subst hE
    have hb13 := hM.bx (i := 0) rfl
    replace hM := hM.nilrow 5 1
    replace hM := hM.pick [1] rfl (by decide)
    refine KQ.rets Try.results19 (RVs.cons (RV.cN (cs := [.int .u8 0, .int .u16 0, .int .u16 0, .bool false, .bool false, .int .u16 0, .int .u8 0, .int .u8 0, .int .u8 (List.getD (List.replicate 4 0) 0 0), .int .u8 (List.getD (List.replicate 4 0) 1 0), .int .u8 (List.getD (List.replicate 4 0) 2 0), .int .u8 (List.getD (List.replicate 4 0) 3 0), .int .u8 (List.getD (List.replicate 4 0) 0 0), .int .u8 (List.getD (List.replicate 4 0) 1 0), .int .u8 (List.getD (List.replicate 4 0) 2 0), .int .u8 (List.getD (List.replicate 4 0) 3 0), .slice none 0 0]) rfl ag39 hb13) (RVs.cons (RV.tm rfl) (RVs.cons (RV.tm rfl) RVs.nil))) ?_
    exact ⟨_, rfl, none, 0, rfl, hM⟩
  · rw [if_neg (ne_true hc)] at hF
    refine KC.skip ?_
    refine KQ.thn hQ9 ?_
    clear hQ9 Q9
    refine KC.seqH fun Q14 hQ14 => ?_
    refine KC.region ?_
    refine RL.val (O.move rfl) rfl ?_
    refine obindE hF fun xv17 hx16 hF => ?_
    have hA15 := Rd.atN (f := (eI .u8)) (s := 1) (fun _ => rfl) (by decide) (hM.inp hr4 Off.nil) hx16
    refine RL.val (O.idxA sl22 (hA15) rfl rfl) rfl ?_
    refine RL.val (O.load sc5 rfl (hA15).cells.at0) rfl ?_
    refine RL.val (O.and rfl rfl) rfl ?_
    refine RL.val (O.conv un5 Try.underlying3 rfl) rfl ?_
    refine RL.val (O.mul rfl rfl) rfl ?_
    refine RL.val (O.assign rfl) rfl ?_
    refine RL.nil ?_
    refine KQ.thn hQ14 ?_
    clear hQ14 Q14
    refine KC.seqH fun Q18 hQ18 => ?_
    refine KC.block ?_
    refine KC.seqH fun Q19 hQ19 => ?_
    refine KC.region ?_
    refine RL.val (O.move rfl) rfl ?_
    refine obindE hF fun xv22 hx21 hF => ?_
    have hA20 := Rd.atN (f := (eI .u8)) (s := 1) (fun _ => rfl) (by decide) (hM.inp hr4 Off.nil) hx21
    refine RL.val (O.idxA sl22 (hA20) rfl rfl) rfl ?_
    refine RL.val (O.load sc5 rfl (hA20).cells.at0) rfl ?_
    refine RL.val (O.shr rfl rfl (by decide)) rfl ?_
    refine RL.val (O.neq rfl rfl) rfl ?_
    refine RL.val (O.assign rfl) rfl ?_
    refine RL.nil ?_
    refine KQ.thn hQ19 ?_
    clear hQ19 Q19
    refine KC.cond rfl (fun hc => ?_) (fun hc => ?_)
    · rw [if_pos hc] at hF
      refine KC.seqH fun Q23 hQ23 => ?_
      refine KC.region ?_
      refine RL.val (O.bld (cs := [.int .u8 0, .int .u16 0, .int .u16 0, .bool false, .bool false, .int .u16 0, .int .u8 0, .int .u8 0, .int .u8 (List.getD (List.replicate 4 0) 0 0), .int .u8 (List.getD (List.replicate 4 0) 1 0), .int .u8 (List.getD (List.replicate 4 0) 2 0), .int .u8 (List.getD (List.replicate 4 0) 3 0), .int .u8 (List.getD (List.replicate 4 0) 0 0), .int .u8 (List.getD (List.replicate 4 0) 1 0), .int .u8 (List.getD (List.replicate 4 0) 2 0), .int .u8 (List.getD (List.replicate 4 0) 3 0), .slice none 0 0]) bt39 rfl (by kernel_rfl)) rfl ?_
      refine RL.effs (E.stB (j := 0) (off := 0) (vs := [.int .u8 0, .int .u16 0, .int .u16 0, .bool false, .bool false, .int .u16 0, .int .u8 0, .int .u8 0, .int .u8 (List.getD (List.replicate 4 0) 0 0), .int .u8 (List.getD (List.replicate 4 0) 1 0), .int .u8 (List.getD (List.replicate 4 0) 2 0), .int .u8 (List.getD (List.replicate 4 0) 3 0), .int .u8 (List.getD (List.replicate 4 0) 0 0), .int .u8 (List.getD (List.replicate 4 0) 1 0), .int .u8 (List.getD (List.replicate 4 0) 2 0), .int .u8 (List.getD (List.replicate 4 0) 3 0), .slice none 0 0]) (cs' := [.int .u8 0, .int .u16 0, .int .u16 0, .bool false, .bool false, .int .u16 0, .int .u8 0, .int .u8 0, .int .u8 (List.getD (List.replicate 4 0) 0 0), .int .u8 (List.getD (List.replicate 4 0) 1 0), .int .u8 (List.getD (List.replicate 4 0) 2 0), .int .u8 (List.getD (List.replicate 4 0) 3 0), .int .u8 (List.getD (List.replicate 4 0) 0 0), .int .u8 (List.getD (List.replicate 4 0) 1 0), .int .u8 (List.getD (List.replicate 4 0) 2 0), .int .u8 (List.getD (List.replicate 4 0) 3 0), .slice none 0 0]) hM rfl sz39 rfl (adds_eq [] rfl) rfl rfl (One.all rfl) rfl rfl) fun w24 hM1 => ?_
      clear hM
      have hM := hM1
      clear hM1
      refine RL.val (O.assign rfl) rfl ?_
      refine RL.val (O.assign rfl) rfl ?_
      refine RL.nil ?_
      refine KQ.thn hQ23 ?_
      clear hQ23 Q23
      refine KC.ret ?_
      refine KQ.blk_r ?_
      refine KQ.thr hQ18 ?_
      clear hQ18 Q18
      have hE := Option.some.inj hF
      clear hF
      subst hE
      have hb25 := hM.bx (i := 0) rfl
      replace hM := hM.nilrow 5 1
      replace hM := hM.pick [1] rfl (by decide)
      refine KQ.rets Try.results19 (RVs.cons (RV.cN (cs := [.int .u8 0, .int .u16 0, .int .u16 0, .bool false, .bool false, .int .u16 0, .int .u8 0, .int .u8 0, .int .u8 (List.getD (List.replicate 4 0) 0 0), .int .u8 (List.getD (List.replicate 4 0) 1 0), .int .u8 (List.getD (List.replicate 4 0) 2 0), .int .u8 (List.getD (List.replicate 4 0) 3 0), .int .u8 (List.getD (List.replicate 4 0) 0 0), .int .u8 (List.getD (List.replicate 4 0) 1 0), .int .u8 (List.getD (List.replicate 4 0) 2 0), .int .u8 (List.getD (List.replicate 4 0) 3 0), .slice none 0 0]) rfl ag39 hb25) (RVs.cons (RV.tm rfl) (RVs.cons (RV.tm rfl) RVs.nil))) ?_
      exact ⟨_, rfl, none, 0, rfl, hM⟩
    · rw [if_neg (ne_true hc)] at hF
      refine KC.seqH fun Q26 hQ26 => ?_
      refine KC.region ?_
      refine RL.val (O.move rfl) rfl ?_
      refine RL.val (O.lss rfl rfl) rfl ?_
      refine RL.val (O.assign rfl) rfl ?_
      refine RL.nil ?_
      refine KQ.thn hQ26 ?_
      clear hQ26 Q26
      refine KC.cond rfl (fun hc => ?_) (fun hc => ?_)
      · rw [if_pos hc] at hF
        refine KC.seqH fun Q27 hQ27 => ?_
        refine KC.region ?_
        refine RL.val (O.bld (cs := [.int .u8 0, .int .u16 0, .int .u16 0, .bool false, .bool false, .int .u16 0, .int .u8 0, .int .u8 0, .int .u8 (List.getD (List.replicate 4 0) 0 0), .int .u8 (List.getD (List.replicate 4 0) 1 0), .int .u8 (List.getD (List.replicate 4 0) 2 0), .int .u8 (List.getD (List.replicate 4 0) 3 0), .int .u8 (List.getD (List.replicate 4 0) 0 0), .int .u8 (List.getD (List.replicate 4 0) 1 0), .int .u8 (List.getD (List.replicate 4 0) 2 0), .int .u8 (List.getD (List.replicate 4 0) 3 0), .slice none 0 0]) bt39 rfl (by kernel_rfl)) rfl ?_
        refine RL.effs (E.stB (j := 0) (off := 0) (vs := [.int .u8 0, .int .u16 0, .int .u16 0, .bool false, .bool false, .int .u16 0, .int .u8 0, .int .u8 0, .int .u8 (List.getD (List.replicate 4 0) 0 0), .int .u8 (List.getD (List.replicate 4 0) 1 0), .int .u8 (List.getD (List.replicate 4 0) 2 0), .int .u8 (List.getD (List.replicate 4 0) 3 0), .int .u8 (List.getD (List.replicate 4 0) 0 0), .int .u8 (List.getD (List.replicate 4 0) 1 0), .int .u8 (List.getD (List.replicate 4 0) 2 0), .int .u8 (List.getD (List.replicate 4 0) 3 0), .slice none 0 0]) (cs' := [.int .u8 0, .int .u16 0, .int .u16 0, .bool false, .bool false, .int .u16 0, .int .u8 0, .int .u8 0, .int .u8 (List.getD (List.replicate 4 0) 0 0), .int .u8 (List.getD (List.replicate 4 0) 1 0), .int .u8 (List.getD (List.replicate 4 0) 2 0), .int .u8 (List.getD (List.replicate 4 0) 3 0), .int .u8 (List.getD (List.replicate 4 0) 0 0), .int .u8 (List.getD (List.replicate 4 0) 1 0), .int .u8 (List.getD (List.replicate 4 0) 2 0), .int .u8 (List.getD (List.replicate 4 0) 3 0), .slice none 0 0]) hM rfl sz39 rfl (adds_eq [] rfl) rfl rfl (One.all rfl) rfl rfl) fun w28 hM1 => ?_
        clear hM
        have hM := hM1
        clear hM1
        refine RL.val (O.assign rfl) rfl ?_
        refine RL.val (O.assign rfl) rfl ?_
        refine RL.nil ?_
        refine KQ.thn hQ27 ?_
        clear hQ27 Q27
        refine KC.ret ?_
        refine KQ.blk_r ?_
        refine KQ.thr hQ18 ?_
        clear hQ18 Q18
        have hE := Option.some.inj hF
        clear hF
        subst hE
        have hb29 := hM.bx (i := 0) rfl
        replace hM := hM.nilrow 5 1
        replace hM := hM.pick [1] rfl (by decide)
        refine KQ.rets Try.results19 (RVs.cons (RV.cN (cs := [.int .u8 0, .int .u16 0, .int .u16 0, .bool false, .bool false, .int .u16 0, .int .u8 0, .int .u8 0, .int .u8 (List.getD (List.replicate 4 0) 0 0), .int .u8 (List.getD (List.replicate 4 0) 1 0), .int .u8 (List.getD (List.replicate 4 0) 2 0), .int .u8 (List.getD (List.replicate 4 0) 3 0), .int .u8 (List.getD (List.replicate 4 0) 0 0), .int .u8 (List.getD (List.replicate 4 0) 1 0), .int .u8 (List.getD (List.replicate 4 0) 2 0), .int .u8 (List.getD (List.replicate 4 0) 3 0), .slice none 0 0]) rfl ag39 hb29) (RVs.cons (RV.tm rfl) (RVs.cons (RV.tm rfl) RVs.nil))) ?_
        exact ⟨_, rfl, none, 0, rfl, hM⟩
      · rw [if_neg (ne_true hc)] at hF
        refine KC.seqH fun Q30 hQ30 => ?_
        refine KC.region ?_
        refine RL.val (O.move rfl) rfl ?_
        refine RL.val (O.len sl22 rfl) rfl ?_
        refine RL.val (O.move rfl) rfl ?_
        refine RL.val (O.lss rfl rfl) rfl ?_
        refine RL.val (O.assign rfl) rfl ?_
        refine RL.nil ?_
        refine KQ.thn hQ30 ?_
        clear hQ30 Q30
        refine KC.cond rfl (fun hc => ?_) (fun hc => ?_)
        · rw [if_pos hc] at hF
          refine KC.seqH fun Q31 hQ31 => ?_
          refine KC.region ?_
          refine RL.val (O.bld (cs := [.int .u8 0, .int .u16 0, .int .u16 0, .bool false, .bool false, .int .u16 0, .int .u8 0, .int .u8 0, .int .u8 (List.getD (List.replicate 4 0) 0 0), .int .u8 (List.getD (List.replicate 4 0) 1 0), .int .u8 (List.getD (List.replicate 4 0) 2 0), .int .u8 (List.getD (List.replicate 4 0) 3 0), .int .u8 (List.getD (List.replicate 4 0) 0 0), .int .u8 (List.getD (List.replicate 4 0) 1 0), .int .u8 (List.getD (List.replicate 4 0) 2 0), .int .u8 (List.getD (List.replicate 4 0) 3 0), .slice none 0 0]) bt39 rfl (by kernel_rfl)) rfl ?_
          refine RL.effs (E.stB (j := 0) (off := 0) (vs := [.int .u8 0, .int .u16 0, .int .u16 0, .bool false, .bool false, .int .u16 0, .int .u8 0, .int .u8 0, .int .u8 (List.getD (List.replicate 4 0) 0 0), .int .u8 (List.getD (List.replicate 4 0) 1 0), .int .u8 (List.getD (List.replicate 4 0) 2 0), .int .u8 (List.getD (List.replicate 4 0) 3 0), .int .u8 (List.getD (List.replicate 4 0) 0 0), .int .u8 (List.getD (List.replicate 4 0) 1 0), .int .u8 (List.getD (List.replicate 4 0) 2 0), .int .u8 (List.getD (List.replicate 4 0) 3 0), .slice none 0 0]) (cs' := [.int .u8 0, .int .u16 0, .int .u16 0, .bool false, .bool false, .int .u16 0, .int .u8 0, .int .u8 0, .int .u8 (List.getD (List.replicate 4 0) 0 0), .int .u8 (List.getD (List.replicate 4 0) 1 0), .int .u8 (List.getD (List.replicate 4 0) 2 0), .int .u8 (List.getD (List.replicate 4 0) 3 0), .int .u8 (List.getD (List.replicate 4 0) 0 0), .int .u8 (List.getD (List.replicate 4 0) 1 0), .int .u8 (List.getD (List.replicate 4 0) 2 0), .int .u8 (List.getD (List.replicate 4 0) 3 0), .slice none 0 0]) hM rfl sz39 rfl (adds_eq [] rfl) rfl rfl (One.all rfl) rfl rfl) fun w32 hM1 => ?_
          clear hM
          have hM := hM1
          clear hM1
          refine RL.val (O.assign rfl) rfl ?_
          refine RL.val (O.assign rfl) rfl ?_
          refine RL.nil ?_
          refine KQ.thn hQ31 ?_
          clear hQ31 Q31
          refine KC.ret ?_
          refine KQ.blk_r ?_
          refine KQ.thr hQ18 ?_
          clear hQ18 Q18
          have hE := Option.some.inj hF
          clear hF
          subst hE
          have hb33 := hM.bx (i := 0) rfl
          replace hM := hM.nilrow 5 1
          replace hM := hM.pick [1] rfl (by decide)
          refine KQ.rets Try.results19 (RVs.cons (RV.cN (cs := [.int .u8 0, .int .u16 0, .int .u16 0, .bool false, .bool false, .int .u16 0, .int .u8 0, .int .u8 0, .int .u8 (List.getD (List.replicate 4 0) 0 0), .int .u8 (List.getD (List.replicate 4 0) 1 0), .int .u8 (List.getD (List.replicate 4 0) 2 0), .int .u8 (List.getD (List.replicate 4 0) 3 0), .int .u8 (List.getD (List.replicate 4 0) 0 0), .int .u8 (List.getD (List.replicate 4 0) 1 0), .int .u8 (List.getD (List.replicate 4 0) 2 0), .int .u8 (List.getD (List.replicate 4 0) 3 0), .slice none 0 0]) rfl ag39 hb33) (RVs.cons (RV.tm rfl) (RVs.cons (RV.tm rfl) RVs.nil))) ?_
          exact ⟨_, rfl, none, 0, rfl, hM⟩
        · rw [if_neg (ne_true hc)] at hF
          refine KC.skip ?_
          refine KQ.blk_n ?_
          refine KQ.thn hQ18 ?_
          clear hQ18 Q18
          refine KC.seqH fun Q34 hQ34 => ?_
          refine KC.region ?_
          refine RL.val (O.move rfl) rfl ?_
          refine obindE hF fun y35 hx36 hF => ?_
          refine RL.call Try.func39 bd39 rfl rfl (c_ip_word _ _ _ b1 (hM.inp hr4 Off.nil) 6 _ hx36) fun v w37 hv => ?_
          obtain ⟨rfl, hN38⟩ := hv
          replace hM := hM.call0 hN38
          refine RL.val (O.assign rfl) rfl ?_
          refine RL.nil ?_
          refine KQ.thn hQ34 ?_
          clear hQ34 Q34
          refine KC.cut (fun a w149 => ∃ (g137 : Nat) (A146 : Option Addr) (c147 : Nat) (h138 : Int) (h139 : Int) (h140 : Int) (h141 : Int) (h142 : Int) (h143 : List Int) (h144 : List Int) (h148 : List Int), Kn 93 [(0, .slice A2 (b1).length c3), (2, .pointer (some ⟨g6, 0, none⟩)), (5, .int .i64 (IntKind.i64.wrap ((IntKind.i64.wrap (bits .and .u8 xv17 15)) * 4))), (6, .int .u16 y35), (7, .pointer (some ⟨g137, 0, none⟩))] a ∧ Mem w [] w149 [.box g6 39 [.int .u8 0, .int .u16 0, .int .u16 0, .bool false, .bool false, .int .u16 0, .int .u8 0, .int .u8 0, .int .u8 (List.getD (List.replicate 4 0) 0 0), .int .u8 (List.getD (List.replicate 4 0) 1 0), .int .u8 (List.getD (List.replicate 4 0) 2 0), .int .u8 (List.getD (List.replicate 4 0) 3 0), .int .u8 (List.getD (List.replicate 4 0) 0 0), .int .u8 (List.getD (List.replicate 4 0) 1 0), .int .u8 (List.getD (List.replicate 4 0) 2 0), .int .u8 (List.getD (List.replicate 4 0) 3 0), .slice none 0 0], .row A146 c147 5 1 (h148).length ((h148).flatMap (eI .u8)), .box g137 39 [.int .u8 h138, .int .u16 h139, .int .u16 h140, .bool (decide (0 < (bits .and .u16 y35 16384))), .bool (decide (0 < (bits .and .u16 y35 8192))), .int .u16 (bits .and .u16 y35 8191), .int .u8 h141, .int .u8 h142, .int .u8 (List.getD h143 0 0), .int .u8 (List.getD h143 1 0), .int .u8 (List.getD h143 2 0), .int .u8 (List.getD h143 3 0), .int .u8 (List.getD h144 0 0), .int .u8 (List.getD h144 1 0), .int .u8 (List.getD h144 2 0), .int .u8 (List.getD h144 3 0), .slice A146 (h148).length c147]] ∧ F_ip_Parse_j1 b1 xv17 y35 h138 h139 h140 h141 h142 h143 h144 h148 = some r) ?_ ?_
          · replace hM := hM.drewN 1
            refine KC.draw [] [35] [4, 6, 32, 34, 35] [0, 3, 5, 7, 8, 9, 10, 11, 12, 13, 14, 15, 18, 21, 22, 25, 26, 29, 30, 31] (.cons 0 (.cons 1 (.cons 2 (.cons 3 (.cons 5 (.cons 7 (.cons 8 (.cons 9 (.cons 10 (.cons 11 (.cons 12 (.cons 13 (.cons 14 (.cons 15 (.cons 16 (.cons 17 (.cons 18 (.cons 19 (.cons 20 (.cons 21 (.cons 22 (.cons 23 (.cons 24 (.cons 25 (.cons 26 (.cons 27 (.cons 28 (.cons 29 (.cons 30 (.cons 31 (.alt 4 (.alt 6 (.alt 32 (.ofList [33, 34, 35]) 34 (.ofList [32, 33, 35])) 34 (.ofList [6, 32, 33, 35])) 34 (.ofList [4, 6, 32, 33, 35])))))))))))))))))))))))))))))))) moP (by kernel_rfl) ?_
            refine RD.p rfl rfl rfl rfl (fun w' => O.move rfl) ?_
            refine obindE hF fun xv41 hx40 hF => ?_
            have hA39 := Rd.atN (f := (eI .u8)) (s := 1) (fun _ => rfl) (by decide) (hM.inp hr4 Off.nil) hx40
            refine RD.q rfl rfl rfl rfl (fun w' hf => O.idxA sl22 (hA39.fut hf) rfl rfl) ?_
            refine RD.q rfl rfl rfl rfl (fun w' hf => O.load sc5 rfl (hA39.fut hf).cells.at0) ?_
            refine RD.p rfl rfl rfl rfl (fun w' => O.move rfl) ?_
            refine RD.p rfl rfl rfl rfl (fun w' => O.move rfl) ?_
            refine RD.p rfl rfl rfl rfl (fun w' => O.move rfl) ?_
            refine RD.p rfl rfl rfl rfl (fun w' => O.and rfl rfl) ?_
            refine RD.p rfl rfl rfl rfl (fun w' => O.gtr rfl rfl) ?_
            refine RD.p rfl rfl rfl rfl (fun w' => O.move rfl) ?_
            refine RD.p rfl rfl rfl rfl (fun w' => O.and rfl rfl) ?_
            refine RD.p rfl rfl rfl rfl (fun w' => O.gtr rfl rfl) ?_
            refine RD.p rfl rfl rfl rfl (fun w' => O.move rfl) ?_
            refine RD.p rfl rfl rfl rfl (fun w' => O.and rfl rfl) ?_
            refine RD.p rfl rfl rfl rfl (fun w' => O.move rfl) ?_
            refine obindE hF fun xv44 hx43 hF => ?_
            have hA42 := Rd.atN (f := (eI .u8)) (s := 1) (fun _ => rfl) (by decide) (hM.inp hr4 Off.nil) hx43
            refine RD.q rfl rfl rfl rfl (fun w' hf => O.idxA sl22 (hA42.fut hf) rfl rfl) ?_
            refine RD.q rfl rfl rfl rfl (fun w' hf => O.load sc5 rfl (hA42.fut hf).cells.at0) ?_
            refine RD.p rfl rfl rfl rfl (fun w' => O.move rfl) ?_
            refine obindE hF fun xv47 hx46 hF => ?_
            have hA45 := Rd.atN (f := (eI .u8)) (s := 1) (fun _ => rfl) (by decide) (hM.inp hr4 Off.nil) hx46
            refine RD.q rfl rfl rfl rfl (fun w' hf => O.idxA sl22 (hA45.fut hf) rfl rfl) ?_
            refine RD.q rfl rfl rfl rfl (fun w' hf => O.load sc5 rfl (hA45.fut hf).cells.at0) ?_
            refine RD.p rfl rfl rfl rfl (fun w' => O.move rfl) ?_
            refine obindE hF fun cut48 hy49 hF => ?_
            refine cutNE A2 c3 (Int.toNat 12) 1 fun A50 c51 eA53 ec54 => ?_
            have hr52 := Rd.cutT (enc := (eI .u8)) (s := 1) (fun _ => rfl) hr4 hy49 (m := c3) (by have := hr4.cap; have := (gcut_some hy49).2.2.1; omega) (Nat.le_refl _)
            rw [← eA53, ← ec54] at hr52
            refine RD.p (v := .slice A50 (cut48).length c51) rfl rfl rfl rfl (fun w' => (by rw [eA53, ec54]; exact O.cutlT sl22 (hM.inp hr4 Off.nil) hy49 rfl rfl)) ?_
            refine cut_someE hF fun hq55 hF => ?_
            refine RD.q rfl rfl rfl rfl (fun w' hf => O.s2a Try.underlying37 (of_decide_eq_true hq55) rfl) ?_
            refine RD.q rfl rfl rfl rfl (fun w' hf => O.loadNs (cs := [.int .u8 (List.getD (arrL 4 cut48) 0 0), .int .u8 (List.getD (arrL 4 cut48) 1 0), .int .u8 (List.getD (arrL 4 cut48) 2 0), .int .u8 (List.getD (arrL 4 cut48) 3 0)]) (Rd.isSome (hM.inp hr52 Off.nil) (Nat.lt_of_lt_of_le (by decide) (of_decide_eq_true hq55))) ag37 rfl (Rd.arrCs (n := 4) (k := .u8) ((hM.inp hr52 Off.nil).fut hf) (of_decide_eq_true hq55))) ?_
            refine RD.p rfl rfl rfl rfl (fun w' => O.move rfl) ?_
            refine obindE hF fun cut56 hy57 hF => ?_
            refine cutNE A2 c3 (Int.toNat 16) 1 fun A58 c59 eA61 ec62 => ?_
            have hr60 := Rd.cutT (enc := (eI .u8)) (s := 1) (fun _ => rfl) hr4 hy57 (m := c3) (by have := hr4.cap; have := (gcut_some hy57).2.2.1; omega) (Nat.le_refl _)
            rw [← eA61, ← ec62] at hr60
            refine RD.p (v := .slice A58 (cut56).length c59) rfl rfl rfl rfl (fun w' => (by rw [eA61, ec62]; exact O.cutlT sl22 (hM.inp hr4 Off.nil) hy57 rfl rfl)) ?_
            refine cut_someE hF fun hq63 hF => ?_
            refine RD.q rfl rfl rfl rfl (fun w' hf => O.s2a Try.underlying37 (of_decide_eq_true hq63) rfl) ?_
            refine RD.q rfl rfl rfl rfl (fun w' hf => O.loadNs (cs := [.int .u8 (List.getD (arrL 4 cut56) 0 0), .int .u8 (List.getD (arrL 4 cut56) 1 0), .int .u8 (List.getD (arrL 4 cut56) 2 0), .int .u8 (List.getD (arrL 4 cut56) 3 0)]) (Rd.isSome (hM.inp hr60 Off.nil) (Nat.lt_of_lt_of_le (by decide) (of_decide_eq_true hq63))) ag37 rfl (Rd.arrCs (n := 4) (k := .u8) ((hM.inp hr60 Off.nil).fut hf) (of_decide_eq_true hq63))) ?_
            refine RD.p rfl rfl rfl rfl (fun w' => O.move rfl) ?_
            refine RD.p rfl rfl rfl rfl (fun w' => O.move rfl) ?_
            refine obindE hF fun cut64 hy65 hF => ?_
            refine cutNE A2 c3 (Int.toNat 20) 1 fun A66 c67 eA69 ec70 => ?_
            have hr68 := Rd.cutT (enc := (eI .u8)) (s := 1) (fun _ => rfl) hr4 hy65 (m := c3) (by have := hr4.cap; have := (gcut_some hy65).2.2.1; omega) (Nat.le_refl _)
            rw [← eA69, ← ec70] at hr68
            refine RD.p (v := .slice A66 (cut64).length c67) rfl rfl rfl rfl (fun w' => (by rw [eA69, ec70]; exact O.cutT sl22 (hM.inp hr4 Off.nil) hy65 rfl rfl rfl)) ?_
            refine RD.alt ?_ ?_
            · refine obindE hF fun y71 hx72 hF => ?_
              refine RD.mcall rfl rfl trivial Try.func39 bd39 rfl rfl (c_ip_word _ _ _ b1 (hM.inp hr4 Off.nil) 2 _ hx72) fun v w73 hv => ?_
              obtain ⟨rfl, hN74⟩ := hv
              refine ⟨fun _ => hN74.fut, ?_⟩
              replace hM := hM.call0 hN74
              refine RD.alt ?_ ?_
              · refine obindE hF fun y75 hx76 hF => ?_
                refine RD.mcall rfl rfl trivial Try.func39 bd39 rfl rfl (c_ip_word _ _ _ b1 (hM.inp hr4 Off.nil) 4 _ hx76) fun v w77 hv => ?_
                obtain ⟨rfl, hN78⟩ := hv
                refine ⟨fun _ => hN78.fut, ?_⟩
                replace hM := hM.call0 hN78
                refine RD.alt ?_ ?_
                · refine obindE hF fun y79 hx80 hF => ?_
                  refine RD.mcall rfl rfl trivial Try.func40 bd40 rfl rfl (c_slices_Clone_byte_byte _ _ _ cut64 (hM.inp hr68 Off.nil) _ hx80) fun v w81 hv => ?_
                  obtain ⟨A83, c84, rfl, hN82⟩ := hv
                  refine ⟨fun _ => hN82.fut, ?_⟩
                  replace hM := hM.call hN82
                  refine RD.q rfl rfl rfl rfl (fun w' hf => O.bld (cs := [.int .u8 xv41, .int .u16 y71, .int .u16 y75, .bool (decide (0 < (bits .and .u16 y35 16384))), .bool (decide (0 < (bits .and .u16 y35 8192))), .int .u16 (bits .and .u16 y35 8191), .int .u8 xv44, .int .u8 xv47, .int .u8 (List.getD (arrL 4 cut48) 0 0), .int .u8 (List.getD (arrL 4 cut48) 1 0), .int .u8 (List.getD (arrL 4 cut48) 2 0), .int .u8 (List.getD (arrL 4 cut48) 3 0), .int .u8 (List.getD (arrL 4 cut56) 0 0), .int .u8 (List.getD (arrL 4 cut56) 1 0), .int .u8 (List.getD (arrL 4 cut56) 2 0), .int .u8 (List.getD (arrL 4 cut56) 3 0), .slice A83 (y79).length c84]) bt39 rfl (by kernel_rfl)) ?_
                  refine RD.meff rfl rfl (E.alloc hM ze39) rfl fun v w87 hv => ?_
                  clear hM
                  obtain ⟨g86, rfl, hM, hf⟩ := hv
                  refine ⟨fun _ => hf, ?_⟩
                  refine RD.meffs rfl rfl rfl (E.stB (j := 2) (off := 0) (vs := [.int .u8 xv41, .int .u16 y71, .int .u16 y75, .bool (decide (0 < (bits .and .u16 y35 16384))), .bool (decide (0 < (bits .and .u16 y35 8192))), .int .u16 (bits .and .u16 y35 8191), .int .u8 xv44, .int .u8 xv47, .int .u8 (List.getD (arrL 4 cut48) 0 0), .int .u8 (List.getD (arrL 4 cut48) 1 0), .int .u8 (List.getD (arrL 4 cut48) 2 0), .int .u8 (List.getD (arrL 4 cut48) 3 0), .int .u8 (List.getD (arrL 4 cut56) 0 0), .int .u8 (List.getD (arrL 4 cut56) 1 0), .int .u8 (List.getD (arrL 4 cut56) 2 0), .int .u8 (List.getD (arrL 4 cut56) 3 0), .slice A83 (y79).length c84]) (cs' := [.int .u8 xv41, .int .u16 y71, .int .u16 y75, .bool (decide (0 < (bits .and .u16 y35 16384))), .bool (decide (0 < (bits .and .u16 y35 8192))), .int .u16 (bits .and .u16 y35 8191), .int .u8 xv44, .int .u8 xv47, .int .u8 (List.getD (arrL 4 cut48) 0 0), .int .u8 (List.getD (arrL 4 cut48) 1 0), .int .u8 (List.getD (arrL 4 cut48) 2 0), .int .u8 (List.getD (arrL 4 cut48) 3 0), .int .u8 (List.getD (arrL 4 cut56) 0 0), .int .u8 (List.getD (arrL 4 cut56) 1 0), .int .u8 (List.getD (arrL 4 cut56) 2 0), .int .u8 (List.getD (arrL 4 cut56) 3 0), .slice A83 (y79).length c84]) hM rfl sz39 rfl (adds_eq [] rfl) rfl rfl (One.all rfl) rfl rfl) fun w89 hM1 => ?_
                  clear hM
                  have hM := hM1
                  clear hM1
                  refine RD.nil ?_
                  refine KQ.then_k ?_
                  exact fun a ha => ⟨g86, A83, c84, xv41, y71, y75, xv44, xv47, (arrL 4 cut48), (arrL 4 cut56), y79, ha.less (less_cons rfl (less_cons rfl (less_cons rfl (less_cons rfl (less_cons rfl less_nil))))), hM, hF⟩
                · refine RD.meff rfl rfl (E.alloc hM ze39) rfl fun v w91 hv => ?_
                  clear hM
                  obtain ⟨g90, rfl, hM, hf⟩ := hv
                  refine ⟨fun _ => hf, ?_⟩
                  refine obindE hF fun y93 hx94 hF => ?_
                  refine RD.mcall rfl rfl trivial Try.func40 bd40 rfl rfl (c_slices_Clone_byte_byte _ _ _ cut64 (hM.inp hr68 Off.nil) _ hx94) fun v w95 hv => ?_
                  obtain ⟨A97, c98, rfl, hN96⟩ := hv
                  refine ⟨fun _ => hN96.fut, ?_⟩
                  replace hM := hM.call hN96
                  refine RD.q rfl rfl rfl rfl (fun w' hf => O.bld (cs := [.int .u8 xv41, .int .u16 y71, .int .u16 y75, .bool (decide (0 < (bits .and .u16 y35 16384))), .bool (decide (0 < (bits .and .u16 y35 8192))), .int .u16 (bits .and .u16 y35 8191), .int .u8 xv44, .int .u8 xv47, .int .u8 (List.getD (arrL 4 cut48) 0 0), .int .u8 (List.getD (arrL 4 cut48) 1 0), .int .u8 (List.getD (arrL 4 cut48) 2 0), .int .u8 (List.getD (arrL 4 cut48) 3 0), .int .u8 (List.getD (arrL 4 cut56) 0 0), .int .u8 (List.getD (arrL 4 cut56) 1 0), .int .u8 (List.getD (arrL 4 cut56) 2 0), .int .u8 (List.getD (arrL 4 cut56) 3 0), .slice A97 (y93).length c98]) bt39 rfl (by kernel_rfl)) ?_
                  refine RD.meffs rfl rfl rfl (E.stB (j := 1) (off := 0) (vs := [.int .u8 xv41, .int .u16 y71, .int .u16 y75, .bool (decide (0 < (bits .and .u16 y35 16384))), .bool (decide (0 < (bits .and .u16 y35 8192))), .int .u16 (bits .and .u16 y35 8191), .int .u8 xv44, .int .u8 xv47, .int .u8 (List.getD (arrL 4 cut48) 0 0), .int .u8 (List.getD (arrL 4 cut48) 1 0), .int .u8 (List.getD (arrL 4 cut48) 2 0), .int .u8 (List.getD (arrL 4 cut48) 3 0), .int .u8 (List.getD (arrL 4 cut56) 0 0), .int .u8 (List.getD (arrL 4 cut56) 1 0), .int .u8 (List.getD (arrL 4 cut56) 2 0), .int .u8 (List.getD (arrL 4 cut56) 3 0), .slice A97 (y93).length c98]) (cs' := [.int .u8 xv41, .int .u16 y71, .int .u16 y75, .bool (decide (0 < (bits .and .u16 y35 16384))), .bool (decide (0 < (bits .and .u16 y35 8192))), .int .u16 (bits .and .u16 y35 8191), .int .u8 xv44, .int .u8 xv47, .int .u8 (List.getD (arrL 4 cut48) 0 0), .int .u8 (List.getD (arrL 4 cut48) 1 0), .int .u8 (List.getD (arrL 4 cut48) 2 0), .int .u8 (List.getD (arrL 4 cut48) 3 0), .int .u8 (List.getD (arrL 4 cut56) 0 0), .int .u8 (List.getD (arrL 4 cut56) 1 0), .int .u8 (List.getD (arrL 4 cut56) 2 0), .int .u8 (List.getD (arrL 4 cut56) 3 0), .slice A97 (y93).length c98]) hM rfl sz39 rfl (adds_eq [] rfl) rfl rfl (One.all rfl) rfl rfl) fun w100 hM1 => ?_
                  clear hM
                  have hM := hM1
                  clear hM1
                  refine RD.nil ?_
                  refine KQ.then_k ?_
                  replace hM := hM.pick [0, 2, 1] rfl (by decide)
                  exact fun a ha => ⟨g90, A97, c98, xv41, y71, y75, xv44, xv47, (arrL 4 cut48), (arrL 4 cut56), y93, ha.less (less_cons rfl (less_cons rfl (less_cons rfl (less_cons rfl (less_cons rfl less_nil))))), hM, hF⟩
              · refine RD.meff rfl rfl (E.alloc hM ze39) rfl fun v w102 hv => ?_
                clear hM
                obtain ⟨g101, rfl, hM, hf⟩ := hv
                refine ⟨fun _ => hf, ?_⟩
                refine obindE hF fun y104 hx105 hF => ?_
                refine RD.mcall rfl rfl trivial Try.func39 bd39 rfl rfl (c_ip_word _ _ _ b1 (hM.inp hr4 Off.nil) 4 _ hx105) fun v w106 hv => ?_
                obtain ⟨rfl, hN107⟩ := hv
                refine ⟨fun _ => hN107.fut, ?_⟩
                replace hM := hM.call0 hN107
                refine obindE hF fun y108 hx109 hF => ?_
                refine RD.mcall rfl rfl trivial Try.func40 bd40 rfl rfl (c_slices_Clone_byte_byte _ _ _ cut64 (hM.inp hr68 Off.nil) _ hx109) fun v w110 hv => ?_
                obtain ⟨A112, c113, rfl, hN111⟩ := hv
                refine ⟨fun _ => hN111.fut, ?_⟩
                replace hM := hM.call hN111
                refine RD.q rfl rfl rfl rfl (fun w' hf => O.bld (cs := [.int .u8 xv41, .int .u16 y71, .int .u16 y104, .bool (decide (0 < (bits .and .u16 y35 16384))), .bool (decide (0 < (bits .and .u16 y35 8192))), .int .u16 (bits .and .u16 y35 8191), .int .u8 xv44, .int .u8 xv47, .int .u8 (List.getD (arrL 4 cut48) 0 0), .int .u8 (List.getD (arrL 4 cut48) 1 0), .int .u8 (List.getD (arrL 4 cut48) 2 0), .int .u8 (List.getD (arrL 4 cut48) 3 0), .int .u8 (List.getD (arrL 4 cut56) 0 0), .int .u8 (List.getD (arrL 4 cut56) 1 0), .int .u8 (List.getD (arrL 4 cut56) 2 0), .int .u8 (List.getD (arrL 4 cut56) 3 0), .slice A112 (y108).length c113]) bt39 rfl (by kernel_rfl)) ?_
                refine RD.meffs rfl rfl rfl (E.stB (j := 1) (off := 0) (vs := [.int .u8 xv41, .int .u16 y71, .int .u16 y104, .bool (decide (0 < (bits .and .u16 y35 16384))), .bool (decide (0 < (bits .and .u16 y35 8192))), .int .u16 (bits .and .u16 y35 8191), .int .u8 xv44, .int .u8 xv47, .int .u8 (List.getD (arrL 4 cut48) 0 0), .int .u8 (List.getD (arrL 4 cut48) 1 0), .int .u8 (List.getD (arrL 4 cut48) 2 0), .int .u8 (List.getD (arrL 4 cut48) 3 0), .int .u8 (List.getD (arrL 4 cut56) 0 0), .int .u8 (List.getD (arrL 4 cut56) 1 0), .int .u8 (List.getD (arrL 4 cut56) 2 0), .int .u8 (List.getD (arrL 4 cut56) 3 0), .slice A112 (y108).length c113]) (cs' := [.int .u8 xv41, .int .u16 y71, .int .u16 y104, .bool (decide (0 < (bits .and .u16 y35 16384))), .bool (decide (0 < (bits .and .u16 y35 8192))), .int .u16 (bits .and .u16 y35 8191), .int .u8 xv44, .int .u8 xv47, .int .u8 (List.getD (arrL 4 cut48) 0 0), .int .u8 (List.getD (arrL 4 cut48) 1 0), .int .u8 (List.getD (arrL 4 cut48) 2 0), .int .u8 (List.getD (arrL 4 cut48) 3 0), .int .u8 (List.getD (arrL 4 cut56) 0 0), .int .u8 (List.getD (arrL 4 cut56) 1 0), .int .u8 (List.getD (arrL 4 cut56) 2 0), .int .u8 (List.getD (arrL 4 cut56) 3 0), .slice A112 (y108).length c113]) hM rfl sz39 rfl (adds_eq [] rfl) rfl rfl (One.all rfl) rfl rfl) fun w115 hM1 => ?_
                clear hM
                have hM := hM1
                clear hM1
                refine RD.nil ?_
                refine KQ.then_k ?_
                replace hM := hM.pick [0, 2, 1] rfl (by decide)
                exact fun a ha => ⟨g101, A112, c113, xv41, y71, y104, xv44, xv47, (arrL 4 cut48), (arrL 4 cut56), y108, ha.less (less_cons rfl (less_cons rfl (less_cons rfl (less_cons rfl (less_cons rfl less_nil))))), hM, hF⟩
            · refine RD.meff rfl rfl (E.alloc hM ze39) rfl fun v w117 hv => ?_
              clear hM
              obtain ⟨g116, rfl, hM, hf⟩ := hv
              refine ⟨fun _ => hf, ?_⟩
              refine obindE hF fun y119 hx120 hF => ?_
              refine RD.mcall rfl rfl trivial Try.func39 bd39 rfl rfl (c_ip_word _ _ _ b1 (hM.inp hr4 Off.nil) 2 _ hx120) fun v w121 hv => ?_
              obtain ⟨rfl, hN122⟩ := hv
              refine ⟨fun _ => hN122.fut, ?_⟩
              replace hM := hM.call0 hN122
              refine obindE hF fun y123 hx124 hF => ?_
              refine RD.mcall rfl rfl trivial Try.func39 bd39 rfl rfl (c_ip_word _ _ _ b1 (hM.inp hr4 Off.nil) 4 _ hx124) fun v w125 hv => ?_
              obtain ⟨rfl, hN126⟩ := hv
              refine ⟨fun _ => hN126.fut, ?_⟩
              replace hM := hM.call0 hN126
              refine obindE hF fun y127 hx128 hF => ?_
              refine RD.mcall rfl rfl trivial Try.func40 bd40 rfl rfl (c_slices_Clone_byte_byte _ _ _ cut64 (hM.inp hr68 Off.nil) _ hx128) fun v w129 hv => ?_
              obtain ⟨A131, c132, rfl, hN130⟩ := hv
              refine ⟨fun _ => hN130.fut, ?_⟩
              replace hM := hM.call hN130
              refine RD.q rfl rfl rfl rfl (fun w' hf => O.bld (cs := [.int .u8 xv41, .int .u16 y119, .int .u16 y123, .bool (decide (0 < (bits .and .u16 y35 16384))), .bool (decide (0 < (bits .and .u16 y35 8192))), .int .u16 (bits .and .u16 y35 8191), .int .u8 xv44, .int .u8 xv47, .int .u8 (List.getD (arrL 4 cut48) 0 0), .int .u8 (List.getD (arrL 4 cut48) 1 0), .int .u8 (List.getD (arrL 4 cut48) 2 0), .int .u8 (List.getD (arrL 4 cut48) 3 0), .int .u8 (List.getD (arrL 4 cut56) 0 0), .int .u8 (List.getD (arrL 4 cut56) 1 0), .int .u8 (List.getD (arrL 4 cut56) 2 0), .int .u8 (List.getD (arrL 4 cut56) 3 0), .slice A131 (y127).length c132]) bt39 rfl (by kernel_rfl)) ?_
              refine RD.meffs rfl rfl rfl (E.stB (j := 1) (off := 0) (vs := [.int .u8 xv41, .int .u16 y119, .int .u16 y123, .bool (decide (0 < (bits .and .u16 y35 16384))), .bool (decide (0 < (bits .and .u16 y35 8192))), .int .u16 (bits .and .u16 y35 8191), .int .u8 xv44, .int .u8 xv47, .int .u8 (List.getD (arrL 4 cut48) 0 0), .int .u8 (List.getD (arrL 4 cut48) 1 0), .int .u8 (List.getD (arrL 4 cut48) 2 0), .int .u8 (List.getD (arrL 4 cut48) 3 0), .int .u8 (List.getD (arrL 4 cut56) 0 0), .int .u8 (List.getD (arrL 4 cut56) 1 0), .int .u8 (List.getD (arrL 4 cut56) 2 0), .int .u8 (List.getD (arrL 4 cut56) 3 0), .slice A131 (y127).length c132]) (cs' := [.int .u8 xv41, .int .u16 y119, .int .u16 y123, .bool (decide (0 < (bits .and .u16 y35 16384))), .bool (decide (0 < (bits .and .u16 y35 8192))), .int .u16 (bits .and .u16 y35 8191), .int .u8 xv44, .int .u8 xv47, .int .u8 (List.getD (arrL 4 cut48) 0 0), .int .u8 (List.getD (arrL 4 cut48) 1 0), .int .u8 (List.getD (arrL 4 cut48) 2 0), .int .u8 (List.getD (arrL 4 cut48) 3 0), .int .u8 (List.getD (arrL 4 cut56) 0 0), .int .u8 (List.getD (arrL 4 cut56) 1 0), .int .u8 (List.getD (arrL 4 cut56) 2 0), .int .u8 (List.getD (arrL 4 cut56) 3 0), .slice A131 (y127).length c132]) hM rfl sz39 rfl (adds_eq [] rfl) rfl rfl (One.all rfl) rfl rfl) fun w134 hM1 => ?_
              clear hM
              have hM := hM1
              clear hM1
              refine RD.nil ?_
              refine KQ.then_k ?_
              replace hM := hM.pick [0, 2, 1] rfl (by decide)
              exact fun a ha => ⟨g116, A131, c132, xv41, y119, y123, xv44, xv47, (arrL 4 cut48), (arrL 4 cut56), y127, ha.less (less_cons rfl (less_cons rfl (less_cons rfl (less_cons rfl (less_cons rfl less_nil))))), hM, hF⟩
          · rintro a w149 ⟨g137, A146, c147, h138, h139, h140, h141, h142, h143, h144, h148, ha, hM, hF⟩
            refine KC.app ha ?_
            clear ha
            unfold F_ip_Parse_j1 at hF
            refine KC.seqH fun Q150 hQ150 => ?_
            refine KC.block ?_
            refine KC.cut (fun a w155 => ∃ (t154 : Bool), Kn 93 [(0, .slice A2 (b1).length c3), (2, .pointer (some ⟨g6, 0, none⟩)), (5, .int .i64 (IntKind.i64.wrap ((IntKind.i64.wrap (bits .and .u8 xv17 15)) * 4))), (7, .pointer (some ⟨g137, 0, none⟩)), (71, .bool t154)] a ∧ Mem w [] w155 [.box g6 39 [.int .u8 0, .int .u16 0, .int .u16 0, .bool false, .bool false, .int .u16 0, .int .u8 0, .int .u8 0, .int .u8 (List.getD (List.replicate 4 0) 0 0), .int .u8 (List.getD (List.replicate 4 0) 1 0), .int .u8 (List.getD (List.replicate 4 0) 2 0), .int .u8 (List.getD (List.replicate 4 0) 3 0), .int .u8 (List.getD (List.replicate 4 0) 0 0), .int .u8 (List.getD (List.replicate 4 0) 1 0), .int .u8 (List.getD (List.replicate 4 0) 2 0), .int .u8 (List.getD (List.replicate 4 0) 3 0), .slice none 0 0], .row A146 c147 5 1 (h148).length ((h148).flatMap (eI .u8)), .box g137 39 [.int .u8 h138, .int .u16 h139, .int .u16 h140, .bool (decide (0 < (bits .and .u16 y35 16384))), .bool (decide (0 < (bits .and .u16 y35 8192))), .int .u16 (bits .and .u16 y35 8191), .int .u8 h141, .int .u8 h142, .int .u8 (List.getD h143 0 0), .int .u8 (List.getD h143 1 0), .int .u8 (List.getD h143 2 0), .int .u8 (List.getD h143 3 0), .int .u8 (List.getD h144 0 0), .int .u8 (List.getD h144 1 0), .int .u8 (List.getD h144 2 0), .int .u8 (List.getD h144 3 0), .slice A146 (h148).length c147]] ∧ F_ip_Parse_j2 b1 xv17 y35 h138 h139 h140 h141 h142 h143 h144 h148 t154 = some r) ?_ ?_
            · refine KC.region ?_
              refine RL.val (O.move rfl) rfl ?_
              refine RL.val (O.and rfl rfl) rfl ?_
              refine RL.val (O.gtr rfl rfl) rfl ?_
              refine RL.val (O.move rfl) rfl ?_
              refine RL.bcase (t := 75) rfl (fun hc => ?_) (fun hc => ?_)
              · rw [if_pos hc] at hF
                refine RL.brun1 6 81 true (by kernel_rfl) ?_
                refine RL.val (O.assign rfl) rfl ?_
                refine RL.nil ?_
                refine KQ.then_k ?_
                exact fun a ha => ⟨true, ha.less (less_cons rfl (less_cons rfl (less_cons rfl (less_cons rfl (less_cons rfl less_nil))))), hM, hF⟩
              · rw [if_neg (ne_true hc)] at hF
                refine RL.gval rfl rfl (O.fldA fl39_1 (by decide) rfl) rfl ?_
                refine RL.gval rfl rfl (O.load sc36 rfl (Cs.adds [1] ((hM.bx (i := 2) rfl)) rfl)) rfl ?_
                refine RL.gval rfl rfl (O.conv un36 Try.underlying3 rfl) rfl ?_
                refine RL.gval rfl rfl (O.move rfl) rfl ?_
                refine RL.gval rfl rfl (O.lss rfl rfl) rfl ?_
                refine RL.val (O.pickf rfl rfl) rfl ?_
                refine RL.val (O.assign rfl) rfl ?_
                refine RL.nil ?_
                refine KQ.then_k ?_
                exact fun a ha => ⟨(decide ((IntKind.i64.wrap h139) < (IntKind.i64.wrap ((IntKind.i64.wrap (bits .and .u8 xv17 15)) * 4)))), ha.less (less_cons rfl (less_cons rfl (less_cons rfl (less_cons rfl (less_cons rfl less_nil))))), hM, hF⟩
            · rintro a w155 ⟨t154, ha, hM, hF⟩
              refine KC.app ha ?_
              clear ha
              unfold F_ip_Parse_j2 at hF
              refine KC.cond rfl (fun hc => ?_) (fun hc => ?_)
              · rw [if_pos hc] at hF
                refine KC.seqH fun Q156 hQ156 => ?_
                refine KC.region ?_
                refine RL.val (O.bld (cs := [.int .u8 0, .int .u16 0, .int .u16 0, .bool false, .bool false, .int .u16 0, .int .u8 0, .int .u8 0, .int .u8 (List.getD (List.replicate 4 0) 0 0), .int .u8 (List.getD (List.replicate 4 0) 1 0), .int .u8 (List.getD (List.replicate 4 0) 2 0), .int .u8 (List.getD (List.replicate 4 0) 3 0), .int .u8 (List.getD (List.replicate 4 0) 0 0), .int .u8 (List.getD (List.replicate 4 0) 1 0), .int .u8 (List.getD (List.replicate 4 0) 2 0), .int .u8 (List.getD (List.replicate 4 0) 3 0), .slice none 0 0]) bt39 rfl (by kernel_rfl)) rfl ?_
                refine RL.effs (E.stB (j := 0) (off := 0) (vs := [.int .u8 0, .int .u16 0, .int .u16 0, .bool false, .bool false, .int .u16 0, .int .u8 0, .int .u8 0, .int .u8 (List.getD (List.replicate 4 0) 0 0), .int .u8 (List.getD (List.replicate 4 0) 1 0), .int .u8 (List.getD (List.replicate 4 0) 2 0), .int .u8 (List.getD (List.replicate 4 0) 3 0), .int .u8 (List.getD (List.replicate 4 0) 0 0), .int .u8 (List.getD (List.replicate 4 0) 1 0), .int .u8 (List.getD (List.replicate 4 0) 2 0), .int .u8 (List.getD (List.replicate 4 0) 3 0), .slice none 0 0]) (cs' := [.int .u8 0, .int .u16 0, .int .u16 0, .bool false, .bool false, .int .u16 0, .int .u8 0, .int .u8 0, .int .u8 (List.getD (List.replicate 4 0) 0 0), .int .u8 (List.getD (List.replicate 4 0) 1 0), .int .u8 (List.getD (List.replicate 4 0) 2 0), .int .u8 (List.getD (List.replicate 4 0) 3 0), .int .u8 (List.getD (List.replicate 4 0) 0 0), .int .u8 (List.getD (List.replicate 4 0) 1 0), .int .u8 (List.getD (List.replicate 4 0) 2 0), .int .u8 (List.getD (List.replicate 4 0) 3 0), .slice none 0 0]) hM rfl sz39 rfl (adds_eq [] rfl) rfl rfl (One.all rfl) rfl rfl) fun w157 hM1 => ?_
                clear hM
                have hM := hM1
                clear hM1
                refine RL.val (O.assign rfl) rfl ?_
                refine RL.val (O.assign rfl) rfl ?_
                refine RL.nil ?_
                refine KQ.thn hQ156 ?_
                clear hQ156 Q156
                refine KC.ret ?_
                refine KQ.blk_r ?_
                refine KQ.thr hQ150 ?_
                clear hQ150 Q150
                have hE := Option.some.inj hF
                clear hF
                subst hE
                have hb158 := hM.bx (i := 0) rfl
                replace hM := hM.nilrow 5 1
                replace hM := hM.pick [3] rfl (by decide)
                refine KQ.rets Try.results19 (RVs.cons (RV.cN (cs := [.int .u8 0, .int .u16 0, .int .u16 0, .bool false, .bool false, .int .u16 0, .int .u8 0, .int .u8 0, .int .u8 (List.getD (List.replicate 4 0) 0 0), .int .u8 (List.getD (List.replicate 4 0) 1 0), .int .u8 (List.getD (List.replicate 4 0) 2 0), .int .u8 (List.getD (List.replicate 4 0) 3 0), .int .u8 (List.getD (List.replicate 4 0) 0 0), .int .u8 (List.getD (List.replicate 4 0) 1 0), .int .u8 (List.getD (List.replicate 4 0) 2 0), .int .u8 (List.getD (List.replicate 4 0) 3 0), .slice none 0 0]) rfl ag39 hb158) (RVs.cons (RV.tm rfl) (RVs.cons (RV.tm rfl) RVs.nil))) ?_
                exact ⟨_, rfl, none, 0, rfl, hM⟩
              · rw [if_neg (ne_true hc)] at hF
                refine KC.seqH fun Q159 hQ159 => ?_
                refine KC.region ?_
                refine RL.val (O.move rfl) rfl ?_
                refine RL.val (O.move rfl) rfl ?_
                refine obindE hF fun cut160 hy161 hF => ?_
                refine cutNE A2 c3 (Int.toNat 0) 1 fun A162 c163 eA165 ec166 => ?_
                have hr164 := Rd.cutT (enc := (eI .u8)) (s := 1) (fun _ => rfl) hr4 hy161 (m := c3) (by have := hr4.cap; have := (gcut_some hy161).2.2.1; omega) (Nat.le_refl _)
                rw [← eA165, ← ec166] at hr164
                refine RL.val (v := .slice A162 (cut160).length c163) (by rw [eA165, ec166]; exact O.cuthT sl22 (hM.inp hr4 Off.nil) hy161 rfl rfl) rfl ?_
                refine RL.eff (E.bslR (enc := (eI .u8)) (us := [.slice A162 (cut160).length c163]) (xss := [cut160]) (Rdl.cons ((hM.inp hr164 Off.nil)) Rdl.nil) hM sl91 ze22 rfl rfl rfl rfl rfl) rfl fun v w167 hv => ?_
                clear hM
                obtain ⟨A168, rfl, hM, hf, hr169⟩ := hv
                refine obindE hF fun y170 hx171 hF => ?_
                refine RL.call Try.func41 bd41 rfl rfl (c_sum_Whole _ _ _ ([cut160]) (hr169) _ hx171) fun v w172 hv => ?_
                obtain ⟨rfl, hN173⟩ := hv
                have hr169 := hr169.fut hN173.fut
                replace hM := hM.call0 hN173
                refine RL.val (O.not rfl) rfl ?_
                refine RL.val (O.assign rfl) rfl ?_
                refine RL.nil ?_
                refine KQ.thn hQ159 ?_
                clear hQ159 Q159
                refine KC.cond rfl (fun hc => ?_) (fun hc => ?_)
                · rw [if_pos hc] at hF
                  refine KC.seqH fun Q174 hQ174 => ?_
                  refine KC.region ?_
                  refine RL.val (O.bld (cs := [.int .u8 0, .int .u16 0, .int .u16 0, .bool false, .bool false, .int .u16 0, .int .u8 0, .int .u8 0, .int .u8 (List.getD (List.replicate 4 0) 0 0), .int .u8 (List.getD (List.replicate 4 0) 1 0), .int .u8 (List.getD (List.replicate 4 0) 2 0), .int .u8 (List.getD (List.replicate 4 0) 3 0), .int .u8 (List.getD (List.replicate 4 0) 0 0), .int .u8 (List.getD (List.replicate 4 0) 1 0), .int .u8 (List.getD (List.replicate 4 0) 2 0), .int .u8 (List.getD (List.replicate 4 0) 3 0), .slice none 0 0]) bt39 rfl (by kernel_rfl)) rfl ?_
                  refine RL.effs (E.stB (j := 0) (off := 0) (vs := [.int .u8 0, .int .u16 0, .int .u16 0, .bool false, .bool false, .int .u16 0, .int .u8 0, .int .u8 0, .int .u8 (List.getD (List.replicate 4 0) 0 0), .int .u8 (List.getD (List.replicate 4 0) 1 0), .int .u8 (List.getD (List.replicate 4 0) 2 0), .int .u8 (List.getD (List.replicate 4 0) 3 0), .int .u8 (List.getD (List.replicate 4 0) 0 0), .int .u8 (List.getD (List.replicate 4 0) 1 0), .int .u8 (List.getD (List.replicate 4 0) 2 0), .int .u8 (List.getD (List.replicate 4 0) 3 0), .slice none 0 0]) (cs' := [.int .u8 0, .int .u16 0, .int .u16 0, .bool false, .bool false, .int .u16 0, .int .u8 0, .int .u8 0, .int .u8 (List.getD (List.replicate 4 0) 0 0), .int .u8 (List.getD (List.replicate 4 0) 1 0), .int .u8 (List.getD (List.replicate 4 0) 2 0), .int .u8 (List.getD (List.replicate 4 0) 3 0), .int .u8 (List.getD (List.replicate 4 0) 0 0), .int .u8 (List.getD (List.replicate 4 0) 1 0), .int .u8 (List.getD (List.replicate 4 0) 2 0), .int .u8 (List.getD (List.replicate 4 0) 3 0), .slice none 0 0]) hM rfl sz39 rfl (adds_eq [] rfl) rfl rfl (One.all rfl) rfl rfl) fun w175 hM1 => ?_
                  clear hM
                  have hM := hM1
                  clear hM1
                  refine RL.val (O.assign rfl) rfl ?_
                  refine RL.val (O.assign rfl) rfl ?_
                  refine RL.nil ?_
                  refine KQ.thn hQ174 ?_
                  clear hQ174 Q174
                  refine KC.ret ?_
                  refine KQ.blk_r ?_
                  refine KQ.thr hQ150 ?_
                  clear hQ150 Q150
                  have hE := Option.some.inj hF
                  clear hF
                  subst hE
                  have hb176 := hM.bx (i := 0) rfl
                  replace hM := hM.nilrow 5 1
                  replace hM := hM.pick [3] rfl (by decide)
                  refine KQ.rets Try.results19 (RVs.cons (RV.cN (cs := [.int .u8 0, .int .u16 0, .int .u16 0, .bool false, .bool false, .int .u16 0, .int .u8 0, .int .u8 0, .int .u8 (List.getD (List.replicate 4 0) 0 0), .int .u8 (List.getD (List.replicate 4 0) 1 0), .int .u8 (List.getD (List.replicate 4 0) 2 0), .int .u8 (List.getD (List.replicate 4 0) 3 0), .int .u8 (List.getD (List.replicate 4 0) 0 0), .int .u8 (List.getD (List.replicate 4 0) 1 0), .int .u8 (List.getD (List.replicate 4 0) 2 0), .int .u8 (List.getD (List.replicate 4 0) 3 0), .slice none 0 0]) rfl ag39 hb176) (RVs.cons (RV.tm rfl) (RVs.cons (RV.tm rfl) RVs.nil))) ?_
                  exact ⟨_, rfl, none, 0, rfl, hM⟩
                · rw [if_neg (ne_true hc)] at hF
                  refine KC.skip ?_
                  refine KQ.blk_n ?_
                  refine KQ.thn hQ150 ?_
                  clear hQ150 Q150
                  refine KC.seqH fun Q177 hQ177 => ?_
                  refine KC.region ?_
                  refine RL.val (O.loadN (cs := [.int .u8 h138, .int .u16 h139, .int .u16 h140, .bool (decide (0 < (bits .and .u16 y35 16384))), .bool (decide (0 < (bits .and .u16 y35 8192))), .int .u16 (bits .and .u16 y35 8191), .int .u8 h141, .int .u8 h142, .int .u8 (List.getD h143 0 0), .int .u8 (List.getD h143 1 0), .int .u8 (List.getD h143 2 0), .int .u8 (List.getD h143 3 0), .int .u8 (List.getD h144 0 0), .int .u8 (List.getD h144 1 0), .int .u8 (List.getD h144 2 0), .int .u8 (List.getD h144 3 0), .slice A146 (h148).length c147]) ag39 rfl (Cs.addsN [] ((hM.bx (i := 2) rfl)) rfl)) rfl ?_
                  refine RL.val (O.move rfl) rfl ?_
                  refine RL.effs (E.stB (j := 0) (off := 0) (vs := [.int .u8 h138, .int .u16 h139, .int .u16 h140, .bool (decide (0 < (bits .and .u16 y35 16384))), .bool (decide (0 < (bits .and .u16 y35 8192))), .int .u16 (bits .and .u16 y35 8191), .int .u8 h141, .int .u8 h142, .int .u8 (List.getD h143 0 0), .int .u8 (List.getD h143 1 0), .int .u8 (List.getD h143 2 0), .int .u8 (List.getD h143 3 0), .int .u8 (List.getD h144 0 0), .int .u8 (List.getD h144 1 0), .int .u8 (List.getD h144 2 0), .int .u8 (List.getD h144 3 0), .slice A146 (h148).length c147]) (cs' := [.int .u8 h138, .int .u16 h139, .int .u16 h140, .bool (decide (0 < (bits .and .u16 y35 16384))), .bool (decide (0 < (bits .and .u16 y35 8192))), .int .u16 (bits .and .u16 y35 8191), .int .u8 h141, .int .u8 h142, .int .u8 (List.getD h143 0 0), .int .u8 (List.getD h143 1 0), .int .u8 (List.getD h143 2 0), .int .u8 (List.getD h143 3 0), .int .u8 (List.getD h144 0 0), .int .u8 (List.getD h144 1 0), .int .u8 (List.getD h144 2 0), .int .u8 (List.getD h144 3 0), .slice A146 (h148).length c147]) hM rfl sz39 rfl (adds_eq [] rfl) rfl rfl (One.all rfl) rfl rfl) fun w178 hM1 => ?_
                  clear hM
                  have hM := hM1
                  clear hM1
                  refine RL.val (O.assign rfl) rfl ?_
                  refine RL.val (O.assign rfl) rfl ?_
                  refine RL.nil ?_
                  refine KQ.thn hQ177 ?_
                  clear hQ177 Q177
                  refine KC.ret ?_
                  have hE := Option.some.inj hF
                  clear hF
                  subst hE
                  have hb179 := hM.bx (i := 0) rfl
                  replace hM := hM.pick [1] rfl (by decide)
                  refine KQ.rets Try.results19 (RVs.cons (RV.cN (cs := [.int .u8 h138, .int .u16 h139, .int .u16 h140, .bool (decide (0 < (bits .and .u16 y35 16384))), .bool (decide (0 < (bits .and .u16 y35 8192))), .int .u16 (bits .and .u16 y35 8191), .int .u8 h141, .int .u8 h142, .int .u8 (List.getD h143 0 0), .int .u8 (List.getD h143 1 0), .int .u8 (List.getD h143 2 0), .int .u8 (List.getD h143 3 0), .int .u8 (List.getD h144 0 0), .int .u8 (List.getD h144 1 0), .int .u8 (List.getD h144 2 0), .int .u8 (List.getD h144 3 0), .slice A146 (h148).length c147]) rfl ag39 hb179) (RVs.cons (RV.tm rfl) (RVs.cons (RV.tm rfl) RVs.nil))) ?_
                  exact ⟨_, rfl, A146, c147, rfl, hM⟩
end Go.Proofs.Ytjfdfjmnajjjaaa
