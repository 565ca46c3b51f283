/- Printed by a program of this claim: each call returns what the plain function of its name gives. -/
import Derived.Test.YtjfdfjmnajjjaaaW1
import Derived.Test.YtjfdfjmnajjjaaaW2
import Derived.Test.YtjfdfjmnajjjaaaW4
set_option linter.unusedVariables false
namespace Go.Proofs.Ytjfdfjmnajjjaaa
open Go Go.Ox Go.RowKit
set_option maxRecDepth 100000 in
set_option maxHeartbeats 40000000 in
theorem c_ip_Parse (w : World) (A2 : Option Addr) (c3 : Nat) (b1 : List Int) (hr4 : Rd w A2 c3 1 b1.length (b1.flatMap (eI .u8))) (r : T_ip_Header × Int × Int) (hF : F_ip_Parse b1 = some r) :
    CallsR Try.prog 19 [.slice A2 (b1).length c3] w (fun v w' => ∃ (A0 : Option Addr) (c0 : Nat), v = .tuple #[.agg #[.int .u8 r.1.f_TOS, .int .u16 r.1.f_Total, .int .u16 r.1.f_ID, .bool r.1.f_DF, .bool r.1.f_MF, .int .u16 r.1.f_Frag, .int .u8 r.1.f_TTL, .int .u8 r.1.f_Proto, .int .u8 (List.getD r.1.f_Src 0 0), .int .u8 (List.getD r.1.f_Src 1 0), .int .u8 (List.getD r.1.f_Src 2 0), .int .u8 (List.getD r.1.f_Src 3 0), .int .u8 (List.getD r.1.f_Dst 0 0), .int .u8 (List.getD r.1.f_Dst 1 0), .int .u8 (List.getD r.1.f_Dst 2 0), .int .u8 (List.getD r.1.f_Dst 3 0), .slice A0 (r.1.f_Options).length c0], .int .i64 r.2.1, .int .i64 r.2.2] ∧ Mem w [] w' [.row A0 c0 5 1 r.1.f_Options.length (r.1.f_Options.flatMap (eI .u8))]) := by
  refine calls_KC Try.func19 rfl Try.ntmps19 rfl ?_
  have hM := Mem.init w
  unfold F_ip_Parse at hF
  refine KC.seq ?_
  refine KC.region ?_
  refine RL.eff (E.alloc hM ze39) rfl fun v w6 hv => ?_
  clear hM
  obtain ⟨g5, rfl, hM, hf⟩ := hv
  refine RL.val (O.assign rfl) rfl ?_
  refine RL.val (O.assign rfl) rfl ?_
  refine RL.nil ?_
  refine KQ.then_n ?_
  refine KC.seq ?_
  refine KC.seq ?_
  refine KC.region ?_
  refine RL.val (O.move rfl) rfl ?_
  refine RL.val (O.len sl22 rfl) rfl ?_
  refine RL.val (O.lss rfl rfl) rfl ?_
  refine RL.nil ?_
  refine KQ.then_n ?_
  refine KC.cond rfl (fun hc => ?_) (fun hc => ?_)
  · rw [if_pos hc] at hF
    refine KC.seq ?_
    refine KC.region ?_
    refine RL.val (O.bld (cs := [.int .u8 0, .int .u16 0, .int .u16 0, .bool false, .bool false, .int .u16 0, .int .u8 0, .int .u8 0, .int .u8 (List.getD (List.replicate 4 0) 0 0), .int .u8 (List.getD (List.replicate 4 0) 1 0), .int .u8 (List.getD (List.replicate 4 0) 2 0), .int .u8 (List.getD (List.replicate 4 0) 3 0), .int .u8 (List.getD (List.replicate 4 0) 0 0), .int .u8 (List.getD (List.replicate 4 0) 1 0), .int .u8 (List.getD (List.replicate 4 0) 2 0), .int .u8 (List.getD (List.replicate 4 0) 3 0), .slice none 0 0]) bt39 rfl (by kernel_rfl)) rfl ?_
    refine RL.effs (E.stB (j := 0) (off := 0) (vs := [.int .u8 0, .int .u16 0, .int .u16 0, .bool false, .bool false, .int .u16 0, .int .u8 0, .int .u8 0, .int .u8 (List.getD (List.replicate 4 0) 0 0), .int .u8 (List.getD (List.replicate 4 0) 1 0), .int .u8 (List.getD (List.replicate 4 0) 2 0), .int .u8 (List.getD (List.replicate 4 0) 3 0), .int .u8 (List.getD (List.replicate 4 0) 0 0), .int .u8 (List.getD (List.replicate 4 0) 1 0), .int .u8 (List.getD (List.replicate 4 0) 2 0), .int .u8 (List.getD (List.replicate 4 0) 3 0), .slice none 0 0]) (cs' := [.int .u8 0, .int .u16 0, .int .u16 0, .bool false, .bool false, .int .u16 0, .int .u8 0, .int .u8 0, .int .u8 (List.getD (List.replicate 4 0) 0 0), .int .u8 (List.getD (List.replicate 4 0) 1 0), .int .u8 (List.getD (List.replicate 4 0) 2 0), .int .u8 (List.getD (List.replicate 4 0) 3 0), .int .u8 (List.getD (List.replicate 4 0) 0 0), .int .u8 (List.getD (List.replicate 4 0) 1 0), .int .u8 (List.getD (List.replicate 4 0) 2 0), .int .u8 (List.getD (List.replicate 4 0) 3 0), .slice none 0 0]) hM rfl sz39 rfl (adds_eq [] rfl) rfl rfl (One.all rfl) rfl rfl) fun w8 hM1 => ?_
    clear hM
    have hM := hM1
    clear hM1
    refine RL.val (O.assign rfl) rfl ?_
    refine RL.val (O.assign rfl) rfl ?_
    refine RL.nil ?_
    refine KQ.then_n ?_
    refine KC.ret ?_
    refine KQ.then_r ?_
    have hE := Option.some.inj hF
    clear hF
    subst hE
    have hb9 := hM.bx (i := 0) rfl
    replace hM := hM.nilrow 5 1
    replace hM := hM.pick [1] rfl (by decide)
    refine KQ.rets Try.results19 (RVs.cons (RV.cN (cs := [.int .u8 0, .int .u16 0, .int .u16 0, .bool false, .bool false, .int .u16 0, .int .u8 0, .int .u8 0, .int .u8 (List.getD (List.replicate 4 0) 0 0), .int .u8 (List.getD (List.replicate 4 0) 1 0), .int .u8 (List.getD (List.replicate 4 0) 2 0), .int .u8 (List.getD (List.replicate 4 0) 3 0), .int .u8 (List.getD (List.replicate 4 0) 0 0), .int .u8 (List.getD (List.replicate 4 0) 1 0), .int .u8 (List.getD (List.replicate 4 0) 2 0), .int .u8 (List.getD (List.replicate 4 0) 3 0), .slice none 0 0]) rfl ag39 hb9) (RVs.cons (RV.tm rfl) (RVs.cons (RV.tm rfl) RVs.nil))) ?_
    exact ⟨_, rfl, none, 0, rfl, hM⟩
  · rw [if_neg (ne_true hc)] at hF
    refine KC.skip ?_
    refine KQ.then_n ?_
    refine KC.seq ?_
    refine KC.region ?_
    refine RL.val (O.move rfl) rfl ?_
    refine obindE hF fun xv12 hx11 hF => ?_
    have hA10 := Rd.atN (f := (eI .u8)) (s := 1) (fun _ => rfl) (by decide) (hM.inp hr4 Off.nil) hx11
    refine RL.val (O.idxA sl22 (hA10) rfl rfl) rfl ?_
    refine RL.val (O.load sc5 rfl (hA10).cells.at0) rfl ?_
    refine RL.val (O.and rfl rfl) rfl ?_
    refine RL.val (O.conv un5 Try.underlying3 rfl) rfl ?_
    refine RL.val (O.mul rfl rfl) rfl ?_
    refine RL.val (O.assign rfl) rfl ?_
    refine RL.nil ?_
    refine KQ.then_n ?_
    refine KC.seq ?_
    refine KC.block ?_
    refine KC.seq ?_
    refine KC.region ?_
    refine RL.val (O.move rfl) rfl ?_
    refine obindE hF fun xv15 hx14 hF => ?_
    have hA13 := Rd.atN (f := (eI .u8)) (s := 1) (fun _ => rfl) (by decide) (hM.inp hr4 Off.nil) hx14
    refine RL.val (O.idxA sl22 (hA13) rfl rfl) rfl ?_
    refine RL.val (O.load sc5 rfl (hA13).cells.at0) rfl ?_
    refine RL.val (O.shr rfl rfl (by decide)) rfl ?_
    refine RL.val (O.neq rfl rfl) rfl ?_
    refine RL.val (O.assign rfl) rfl ?_
    refine RL.nil ?_
    refine KQ.then_n ?_
    refine KC.cond rfl (fun hc => ?_) (fun hc => ?_)
    · rw [if_pos hc] at hF
      refine KC.seq ?_
      refine KC.region ?_
      refine RL.val (O.bld (cs := [.int .u8 0, .int .u16 0, .int .u16 0, .bool false, .bool false, .int .u16 0, .int .u8 0, .int .u8 0, .int .u8 (List.getD (List.replicate 4 0) 0 0), .int .u8 (List.getD (List.replicate 4 0) 1 0), .int .u8 (List.getD (List.replicate 4 0) 2 0), .int .u8 (List.getD (List.replicate 4 0) 3 0), .int .u8 (List.getD (List.replicate 4 0) 0 0), .int .u8 (List.getD (List.replicate 4 0) 1 0), .int .u8 (List.getD (List.replicate 4 0) 2 0), .int .u8 (List.getD (List.replicate 4 0) 3 0), .slice none 0 0]) bt39 rfl (by kernel_rfl)) rfl ?_
      refine RL.effs (E.stB (j := 0) (off := 0) (vs := [.int .u8 0, .int .u16 0, .int .u16 0, .bool false, .bool false, .int .u16 0, .int .u8 0, .int .u8 0, .int .u8 (List.getD (List.replicate 4 0) 0 0), .int .u8 (List.getD (List.replicate 4 0) 1 0), .int .u8 (List.getD (List.replicate 4 0) 2 0), .int .u8 (List.getD (List.replicate 4 0) 3 0), .int .u8 (List.getD (List.replicate 4 0) 0 0), .int .u8 (List.getD (List.replicate 4 0) 1 0), .int .u8 (List.getD (List.replicate 4 0) 2 0), .int .u8 (List.getD (List.replicate 4 0) 3 0), .slice none 0 0]) (cs' := [.int .u8 0, .int .u16 0, .int .u16 0, .bool false, .bool false, .int .u16 0, .int .u8 0, .int .u8 0, .int .u8 (List.getD (List.replicate 4 0) 0 0), .int .u8 (List.getD (List.replicate 4 0) 1 0), .int .u8 (List.getD (List.replicate 4 0) 2 0), .int .u8 (List.getD (List.replicate 4 0) 3 0), .int .u8 (List.getD (List.replicate 4 0) 0 0), .int .u8 (List.getD (List.replicate 4 0) 1 0), .int .u8 (List.getD (List.replicate 4 0) 2 0), .int .u8 (List.getD (List.replicate 4 0) 3 0), .slice none 0 0]) hM rfl sz39 rfl (adds_eq [] rfl) rfl rfl (One.all rfl) rfl rfl) fun w16 hM1 => ?_
      clear hM
      have hM := hM1
      clear hM1
      refine RL.val (O.assign rfl) rfl ?_
      refine RL.val (O.assign rfl) rfl ?_
      refine RL.nil ?_
      refine KQ.then_n ?_
      refine KC.ret ?_
      refine KQ.blk_r ?_
      refine KQ.then_r ?_
      have hE := Option.some.inj hF
      clear hF
      subst hE
      have hb17 := hM.bx (i := 0) rfl
      replace hM := hM.nilrow 5 1
      replace hM := hM.pick [1] rfl (by decide)
      refine KQ.rets Try.results19 (RVs.cons (RV.cN (cs := [.int .u8 0, .int .u16 0, .int .u16 0, .bool false, .bool false, .int .u16 0, .int .u8 0, .int .u8 0, .int .u8 (List.getD (List.replicate 4 0) 0 0), .int .u8 (List.getD (List.replicate 4 0) 1 0), .int .u8 (List.getD (List.replicate 4 0) 2 0), .int .u8 (List.getD (List.replicate 4 0) 3 0), .int .u8 (List.getD (List.replicate 4 0) 0 0), .int .u8 (List.getD (List.replicate 4 0) 1 0), .int .u8 (List.getD (List.replicate 4 0) 2 0), .int .u8 (List.getD (List.replicate 4 0) 3 0), .slice none 0 0]) rfl ag39 hb17) (RVs.cons (RV.tm rfl) (RVs.cons (RV.tm rfl) RVs.nil))) ?_
      exact ⟨_, rfl, none, 0, rfl, hM⟩
    · rw [if_neg (ne_true hc)] at hF
      refine KC.seq ?_
      refine KC.region ?_
      refine RL.val (O.move rfl) rfl ?_
      refine RL.val (O.lss rfl rfl) rfl ?_
      refine RL.val (O.assign rfl) rfl ?_
      refine RL.nil ?_
      refine KQ.then_n ?_
      refine KC.cond rfl (fun hc => ?_) (fun hc => ?_)
      · rw [if_pos hc] at hF
        refine KC.seq ?_
        refine KC.region ?_
        refine RL.val (O.bld (cs := [.int .u8 0, .int .u16 0, .int .u16 0, .bool false, .bool false, .int .u16 0, .int .u8 0, .int .u8 0, .int .u8 (List.getD (List.replicate 4 0) 0 0), .int .u8 (List.getD (List.replicate 4 0) 1 0), .int .u8 (List.getD (List.replicate 4 0) 2 0), .int .u8 (List.getD (List.replicate 4 0) 3 0), .int .u8 (List.getD (List.replicate 4 0) 0 0), .int .u8 (List.getD (List.replicate 4 0) 1 0), .int .u8 (List.getD (List.replicate 4 0) 2 0), .int .u8 (List.getD (List.replicate 4 0) 3 0), .slice none 0 0]) bt39 rfl (by kernel_rfl)) rfl ?_
        refine RL.effs (E.stB (j := 0) (off := 0) (vs := [.int .u8 0, .int .u16 0, .int .u16 0, .bool false, .bool false, .int .u16 0, .int .u8 0, .int .u8 0, .int .u8 (List.getD (List.replicate 4 0) 0 0), .int .u8 (List.getD (List.replicate 4 0) 1 0), .int .u8 (List.getD (List.replicate 4 0) 2 0), .int .u8 (List.getD (List.replicate 4 0) 3 0), .int .u8 (List.getD (List.replicate 4 0) 0 0), .int .u8 (List.getD (List.replicate 4 0) 1 0), .int .u8 (List.getD (List.replicate 4 0) 2 0), .int .u8 (List.getD (List.replicate 4 0) 3 0), .slice none 0 0]) (cs' := [.int .u8 0, .int .u16 0, .int .u16 0, .bool false, .bool false, .int .u16 0, .int .u8 0, .int .u8 0, .int .u8 (List.getD (List.replicate 4 0) 0 0), .int .u8 (List.getD (List.replicate 4 0) 1 0), .int .u8 (List.getD (List.replicate 4 0) 2 0), .int .u8 (List.getD (List.replicate 4 0) 3 0), .int .u8 (List.getD (List.replicate 4 0) 0 0), .int .u8 (List.getD (List.replicate 4 0) 1 0), .int .u8 (List.getD (List.replicate 4 0) 2 0), .int .u8 (List.getD (List.replicate 4 0) 3 0), .slice none 0 0]) hM rfl sz39 rfl (adds_eq [] rfl) rfl rfl (One.all rfl) rfl rfl) fun w18 hM1 => ?_
        clear hM
        have hM := hM1
        clear hM1
        refine RL.val (O.assign rfl) rfl ?_
        refine RL.val (O.assign rfl) rfl ?_
        refine RL.nil ?_
        refine KQ.then_n ?_
        refine KC.ret ?_
        refine KQ.blk_r ?_
        refine KQ.then_r ?_
        have hE := Option.some.inj hF
        clear hF
        subst hE
        have hb19 := hM.bx (i := 0) rfl
        replace hM := hM.nilrow 5 1
        replace hM := hM.pick [1] rfl (by decide)
        refine KQ.rets Try.results19 (RVs.cons (RV.cN (cs := [.int .u8 0, .int .u16 0, .int .u16 0, .bool false, .bool false, .int .u16 0, .int .u8 0, .int .u8 0, .int .u8 (List.getD (List.replicate 4 0) 0 0), .int .u8 (List.getD (List.replicate 4 0) 1 0), .int .u8 (List.getD (List.replicate 4 0) 2 0), .int .u8 (List.getD (List.replicate 4 0) 3 0), .int .u8 (List.getD (List.replicate 4 0) 0 0), .int .u8 (List.getD (List.replicate 4 0) 1 0), .int .u8 (List.getD (List.replicate 4 0) 2 0), .int .u8 (List.getD (List.replicate 4 0) 3 0), .slice none 0 0]) rfl ag39 hb19) (RVs.cons (RV.tm rfl) (RVs.cons (RV.tm rfl) RVs.nil))) ?_
        exact ⟨_, rfl, none, 0, rfl, hM⟩
      · rw [if_neg (ne_true hc)] at hF
        refine KC.seq ?_
        refine KC.region ?_
        refine RL.val (O.move rfl) rfl ?_
        refine RL.val (O.len sl22 rfl) rfl ?_
        refine RL.val (O.move rfl) rfl ?_
        refine RL.val (O.lss rfl rfl) rfl ?_
        refine RL.val (O.assign rfl) rfl ?_
        refine RL.nil ?_
        refine KQ.then_n ?_
        refine KC.cond rfl (fun hc => ?_) (fun hc => ?_)
        · rw [if_pos hc] at hF
          refine KC.seq ?_
          refine KC.region ?_
          refine RL.val (O.bld (cs := [.int .u8 0, .int .u16 0, .int .u16 0, .bool false, .bool false, .int .u16 0, .int .u8 0, .int .u8 0, .int .u8 (List.getD (List.replicate 4 0) 0 0), .int .u8 (List.getD (List.replicate 4 0) 1 0), .int .u8 (List.getD (List.replicate 4 0) 2 0), .int .u8 (List.getD (List.replicate 4 0) 3 0), .int .u8 (List.getD (List.replicate 4 0) 0 0), .int .u8 (List.getD (List.replicate 4 0) 1 0), .int .u8 (List.getD (List.replicate 4 0) 2 0), .int .u8 (List.getD (List.replicate 4 0) 3 0), .slice none 0 0]) bt39 rfl (by kernel_rfl)) rfl ?_
          refine RL.effs (E.stB (j := 0) (off := 0) (vs := [.int .u8 0, .int .u16 0, .int .u16 0, .bool false, .bool false, .int .u16 0, .int .u8 0, .int .u8 0, .int .u8 (List.getD (List.replicate 4 0) 0 0), .int .u8 (List.getD (List.replicate 4 0) 1 0), .int .u8 (List.getD (List.replicate 4 0) 2 0), .int .u8 (List.getD (List.replicate 4 0) 3 0), .int .u8 (List.getD (List.replicate 4 0) 0 0), .int .u8 (List.getD (List.replicate 4 0) 1 0), .int .u8 (List.getD (List.replicate 4 0) 2 0), .int .u8 (List.getD (List.replicate 4 0) 3 0), .slice none 0 0]) (cs' := [.int .u8 0, .int .u16 0, .int .u16 0, .bool false, .bool false, .int .u16 0, .int .u8 0, .int .u8 0, .int .u8 (List.getD (List.replicate 4 0) 0 0), .int .u8 (List.getD (List.replicate 4 0) 1 0), .int .u8 (List.getD (List.replicate 4 0) 2 0), .int .u8 (List.getD (List.replicate 4 0) 3 0), .int .u8 (List.getD (List.replicate 4 0) 0 0), .int .u8 (List.getD (List.replicate 4 0) 1 0), .int .u8 (List.getD (List.replicate 4 0) 2 0), .int .u8 (List.getD (List.replicate 4 0) 3 0), .slice none 0 0]) hM rfl sz39 rfl (adds_eq [] rfl) rfl rfl (One.all rfl) rfl rfl) fun w20 hM1 => ?_
          clear hM
          have hM := hM1
          clear hM1
          refine RL.val (O.assign rfl) rfl ?_
          refine RL.val (O.assign rfl) rfl ?_
          refine RL.nil ?_
          refine KQ.then_n ?_
          refine KC.ret ?_
          refine KQ.blk_r ?_
          refine KQ.then_r ?_
          have hE := Option.some.inj hF
          clear hF
          subst hE
          have hb21 := hM.bx (i := 0) rfl
          replace hM := hM.nilrow 5 1
          replace hM := hM.pick [1] rfl (by decide)
          refine KQ.rets Try.results19 (RVs.cons (RV.cN (cs := [.int .u8 0, .int .u16 0, .int .u16 0, .bool false, .bool false, .int .u16 0, .int .u8 0, .int .u8 0, .int .u8 (List.getD (List.replicate 4 0) 0 0), .int .u8 (List.getD (List.replicate 4 0) 1 0), .int .u8 (List.getD (List.replicate 4 0) 2 0), .int .u8 (List.getD (List.replicate 4 0) 3 0), .int .u8 (List.getD (List.replicate 4 0) 0 0), .int .u8 (List.getD (List.replicate 4 0) 1 0), .int .u8 (List.getD (List.replicate 4 0) 2 0), .int .u8 (List.getD (List.replicate 4 0) 3 0), .slice none 0 0]) rfl ag39 hb21) (RVs.cons (RV.tm rfl) (RVs.cons (RV.tm rfl) RVs.nil))) ?_
          exact ⟨_, rfl, none, 0, rfl, hM⟩
        · rw [if_neg (ne_true hc)] at hF
          refine KC.skip ?_
          refine KQ.blk_n ?_
          refine KQ.then_n ?_
          refine KC.seq ?_
          refine KC.region ?_
          refine RL.val (O.move rfl) rfl ?_
          refine obindE hF fun y22 hx23 hF => ?_
          refine RL.call Try.func39 bd39 rfl rfl (c_ip_word _ _ _ b1 (hM.inp hr4 Off.nil) 6 _ hx23) fun v w24 hv => ?_
          obtain ⟨rfl, hN25⟩ := hv
          replace hM := hM.call0 hN25
          refine RL.val (O.assign rfl) rfl ?_
          refine RL.nil ?_
          refine KQ.then_n ?_
          refine KC.cut (fun a w136 => ∃ (g124 : Nat) (A133 : Option Addr) (c134 : Nat) (h125 : Int) (h126 : Int) (h127 : Int) (h128 : Int) (h129 : Int) (h130 : List Int) (h131 : List Int) (h135 : List Int), Kn 93 [(0, .slice A2 (b1).length c3), (2, .pointer (some ⟨g5, 0, none⟩)), (5, .int .i64 (IntKind.i64.wrap ((IntKind.i64.wrap (bits .and .u8 xv12 15)) * 4))), (6, .int .u16 y22), (7, .pointer (some ⟨g124, 0, none⟩))] a ∧ Mem w [] w136 [.box g5 39 [.int .u8 0, .int .u16 0, .int .u16 0, .bool false, .bool false, .int .u16 0, .int .u8 0, .int .u8 0, .int .u8 (List.getD (List.replicate 4 0) 0 0), .int .u8 (List.getD (List.replicate 4 0) 1 0), .int .u8 (List.getD (List.replicate 4 0) 2 0), .int .u8 (List.getD (List.replicate 4 0) 3 0), .int .u8 (List.getD (List.replicate 4 0) 0 0), .int .u8 (List.getD (List.replicate 4 0) 1 0), .int .u8 (List.getD (List.replicate 4 0) 2 0), .int .u8 (List.getD (List.replicate 4 0) 3 0), .slice none 0 0], .row A133 c134 5 1 (h135).length ((h135).flatMap (eI .u8)), .box g124 39 [.int .u8 h125, .int .u16 h126, .int .u16 h127, .bool (decide (0 < (bits .and .u16 y22 16384))), .bool (decide (0 < (bits .and .u16 y22 8192))), .int .u16 (bits .and .u16 y22 8191), .int .u8 h128, .int .u8 h129, .int .u8 (List.getD h130 0 0), .int .u8 (List.getD h130 1 0), .int .u8 (List.getD h130 2 0), .int .u8 (List.getD h130 3 0), .int .u8 (List.getD h131 0 0), .int .u8 (List.getD h131 1 0), .int .u8 (List.getD h131 2 0), .int .u8 (List.getD h131 3 0), .slice A133 (h135).length c134]] ∧ F_ip_Parse_j1 b1 xv12 y22 h125 h126 h127 h128 h129 h130 h131 h135 = some r) ?_ ?_
          · replace hM := hM.drewN 1
            refine KC.draw [] [35] [4, 6, 32, 34, 35] [0, 3, 5, 7, 8, 9, 10, 11, 12, 13, 14, 15, 18, 21, 22, 25, 26, 29, 30, 31] (.cons 0 (.cons 1 (.cons 2 (.cons 3 (.cons 5 (.cons 7 (.cons 8 (.cons 9 (.cons 10 (.cons 11 (.cons 12 (.cons 13 (.cons 14 (.cons 15 (.cons 16 (.cons 17 (.cons 18 (.cons 19 (.cons 20 (.cons 21 (.cons 22 (.cons 23 (.cons 24 (.cons 25 (.cons 26 (.cons 27 (.cons 28 (.cons 29 (.cons 30 (.cons 31 (.alt 4 (.alt 6 (.alt 32 (.ofList [33, 34, 35]) 34 (.ofList [32, 33, 35])) 34 (.ofList [6, 32, 33, 35])) 34 (.ofList [4, 6, 32, 33, 35])))))))))))))))))))))))))))))))) moP (by kernel_rfl) ?_
            refine RD.p rfl rfl rfl rfl (fun w' => O.move rfl) ?_
            refine obindE hF fun xv28 hx27 hF => ?_
            have hA26 := Rd.atN (f := (eI .u8)) (s := 1) (fun _ => rfl) (by decide) (hM.inp hr4 Off.nil) hx27
            refine RD.q rfl rfl rfl rfl (fun w' hf => O.idxA sl22 (hA26.fut hf) rfl rfl) ?_
            refine RD.q rfl rfl rfl rfl (fun w' hf => O.load sc5 rfl (hA26.fut hf).cells.at0) ?_
            refine RD.p rfl rfl rfl rfl (fun w' => O.move rfl) ?_
            refine RD.p rfl rfl rfl rfl (fun w' => O.move rfl) ?_
            refine RD.p rfl rfl rfl rfl (fun w' => O.move rfl) ?_
            refine RD.p rfl rfl rfl rfl (fun w' => O.and rfl rfl) ?_
            refine RD.p rfl rfl rfl rfl (fun w' => O.gtr rfl rfl) ?_
            refine RD.p rfl rfl rfl rfl (fun w' => O.move rfl) ?_
            refine RD.p rfl rfl rfl rfl (fun w' => O.and rfl rfl) ?_
            refine RD.p rfl rfl rfl rfl (fun w' => O.gtr rfl rfl) ?_
            refine RD.p rfl rfl rfl rfl (fun w' => O.move rfl) ?_
            refine RD.p rfl rfl rfl rfl (fun w' => O.and rfl rfl) ?_
            refine RD.p rfl rfl rfl rfl (fun w' => O.move rfl) ?_
            refine obindE hF fun xv31 hx30 hF => ?_
            have hA29 := Rd.atN (f := (eI .u8)) (s := 1) (fun _ => rfl) (by decide) (hM.inp hr4 Off.nil) hx30
            refine RD.q rfl rfl rfl rfl (fun w' hf => O.idxA sl22 (hA29.fut hf) rfl rfl) ?_
            refine RD.q rfl rfl rfl rfl (fun w' hf => O.load sc5 rfl (hA29.fut hf).cells.at0) ?_
            refine RD.p rfl rfl rfl rfl (fun w' => O.move rfl) ?_
            refine obindE hF fun xv34 hx33 hF => ?_
            have hA32 := Rd.atN (f := (eI .u8)) (s := 1) (fun _ => rfl) (by decide) (hM.inp hr4 Off.nil) hx33
            refine RD.q rfl rfl rfl rfl (fun w' hf => O.idxA sl22 (hA32.fut hf) rfl rfl) ?_
            refine RD.q rfl rfl rfl rfl (fun w' hf => O.load sc5 rfl (hA32.fut hf).cells.at0) ?_
            refine RD.p rfl rfl rfl rfl (fun w' => O.move rfl) ?_
            refine obindE hF fun cut35 hy36 hF => ?_
            obtain ⟨A37, c38, eA40, ec41⟩ := cutN A2 c3 (Int.toNat 12) 1
            have hr39 := Rd.cutT (enc := (eI .u8)) (s := 1) (fun _ => rfl) hr4 hy36 (m := c3) (by have := hr4.cap; have := (gcut_some hy36).2.2.1; omega) (Nat.le_refl _)
            rw [← eA40, ← ec41] at hr39
            refine RD.p (v := .slice A37 (cut35).length c38) rfl rfl rfl rfl (fun w' => (by rw [eA40, ec41]; exact O.cutlT sl22 (hM.inp hr4 Off.nil) hy36 rfl rfl)) ?_
            refine cut_someE hF fun hq42 hF => ?_
            refine RD.q rfl rfl rfl rfl (fun w' hf => O.s2a Try.underlying37 (of_decide_eq_true hq42) rfl) ?_
            refine RD.q rfl rfl rfl rfl (fun w' hf => O.loadNs (cs := [.int .u8 (List.getD (arrL 4 cut35) 0 0), .int .u8 (List.getD (arrL 4 cut35) 1 0), .int .u8 (List.getD (arrL 4 cut35) 2 0), .int .u8 (List.getD (arrL 4 cut35) 3 0)]) (Rd.isSome (hM.inp hr39 Off.nil) (Nat.lt_of_lt_of_le (by decide) (of_decide_eq_true hq42))) ag37 rfl (Rd.arrCs (n := 4) (k := .u8) ((hM.inp hr39 Off.nil).fut hf) (of_decide_eq_true hq42))) ?_
            refine RD.p rfl rfl rfl rfl (fun w' => O.move rfl) ?_
            refine obindE hF fun cut43 hy44 hF => ?_
            obtain ⟨A45, c46, eA48, ec49⟩ := cutN A2 c3 (Int.toNat 16) 1
            have hr47 := Rd.cutT (enc := (eI .u8)) (s := 1) (fun _ => rfl) hr4 hy44 (m := c3) (by have := hr4.cap; have := (gcut_some hy44).2.2.1; omega) (Nat.le_refl _)
            rw [← eA48, ← ec49] at hr47
            refine RD.p (v := .slice A45 (cut43).length c46) rfl rfl rfl rfl (fun w' => (by rw [eA48, ec49]; exact O.cutlT sl22 (hM.inp hr4 Off.nil) hy44 rfl rfl)) ?_
            refine cut_someE hF fun hq50 hF => ?_
            refine RD.q rfl rfl rfl rfl (fun w' hf => O.s2a Try.underlying37 (of_decide_eq_true hq50) rfl) ?_
            refine RD.q rfl rfl rfl rfl (fun w' hf => O.loadNs (cs := [.int .u8 (List.getD (arrL 4 cut43) 0 0), .int .u8 (List.getD (arrL 4 cut43) 1 0), .int .u8 (List.getD (arrL 4 cut43) 2 0), .int .u8 (List.getD (arrL 4 cut43) 3 0)]) (Rd.isSome (hM.inp hr47 Off.nil) (Nat.lt_of_lt_of_le (by decide) (of_decide_eq_true hq50))) ag37 rfl (Rd.arrCs (n := 4) (k := .u8) ((hM.inp hr47 Off.nil).fut hf) (of_decide_eq_true hq50))) ?_
            refine RD.p rfl rfl rfl rfl (fun w' => O.move rfl) ?_
            refine RD.p rfl rfl rfl rfl (fun w' => O.move rfl) ?_
            refine obindE hF fun cut51 hy52 hF => ?_
            obtain ⟨A53, c54, eA56, ec57⟩ := cutN A2 c3 (Int.toNat 20) 1
            have hr55 := Rd.cutT (enc := (eI .u8)) (s := 1) (fun _ => rfl) hr4 hy52 (m := c3) (by have := hr4.cap; have := (gcut_some hy52).2.2.1; omega) (Nat.le_refl _)
            rw [← eA56, ← ec57] at hr55
            refine RD.p (v := .slice A53 (cut51).length c54) rfl rfl rfl rfl (fun w' => (by rw [eA56, ec57]; exact O.cutT sl22 (hM.inp hr4 Off.nil) hy52 rfl rfl rfl)) ?_
            refine RD.alt ?_ ?_
            · refine obindE hF fun y58 hx59 hF => ?_
              refine RD.mcall rfl rfl trivial Try.func39 bd39 rfl rfl (c_ip_word _ _ _ b1 (hM.inp hr4 Off.nil) 2 _ hx59) fun v w60 hv => ?_
              obtain ⟨rfl, hN61⟩ := hv
              refine ⟨fun _ => hN61.fut, ?_⟩
              replace hM := hM.call0 hN61
              refine RD.alt ?_ ?_
              · refine obindE hF fun y62 hx63 hF => ?_
                refine RD.mcall rfl rfl trivial Try.func39 bd39 rfl rfl (c_ip_word _ _ _ b1 (hM.inp hr4 Off.nil) 4 _ hx63) fun v w64 hv => ?_
                obtain ⟨rfl, hN65⟩ := hv
                refine ⟨fun _ => hN65.fut, ?_⟩
                replace hM := hM.call0 hN65
                refine RD.alt ?_ ?_
                · refine obindE hF fun y66 hx67 hF => ?_
                  refine RD.mcall rfl rfl trivial Try.func40 bd40 rfl rfl (c_slices_Clone_byte_byte _ _ _ cut51 (hM.inp hr55 Off.nil) _ hx67) fun v w68 hv => ?_
                  obtain ⟨A70, c71, rfl, hN69⟩ := hv
                  refine ⟨fun _ => hN69.fut, ?_⟩
                  replace hM := hM.call hN69
                  refine RD.q rfl rfl rfl rfl (fun w' hf => O.bld (cs := [.int .u8 xv28, .int .u16 y58, .int .u16 y62, .bool (decide (0 < (bits .and .u16 y22 16384))), .bool (decide (0 < (bits .and .u16 y22 8192))), .int .u16 (bits .and .u16 y22 8191), .int .u8 xv31, .int .u8 xv34, .int .u8 (List.getD (arrL 4 cut35) 0 0), .int .u8 (List.getD (arrL 4 cut35) 1 0), .int .u8 (List.getD (arrL 4 cut35) 2 0), .int .u8 (List.getD (arrL 4 cut35) 3 0), .int .u8 (List.getD (arrL 4 cut43) 0 0), .int .u8 (List.getD (arrL 4 cut43) 1 0), .int .u8 (List.getD (arrL 4 cut43) 2 0), .int .u8 (List.getD (arrL 4 cut43) 3 0), .slice A70 (y66).length c71]) bt39 rfl (by kernel_rfl)) ?_
                  refine RD.meff rfl rfl (E.alloc hM ze39) rfl fun v w74 hv => ?_
                  clear hM
                  obtain ⟨g73, rfl, hM, hf⟩ := hv
                  refine ⟨fun _ => hf, ?_⟩
                  refine RD.meffs rfl rfl rfl (E.stB (j := 2) (off := 0) (vs := [.int .u8 xv28, .int .u16 y58, .int .u16 y62, .bool (decide (0 < (bits .and .u16 y22 16384))), .bool (decide (0 < (bits .and .u16 y22 8192))), .int .u16 (bits .and .u16 y22 8191), .int .u8 xv31, .int .u8 xv34, .int .u8 (List.getD (arrL 4 cut35) 0 0), .int .u8 (List.getD (arrL 4 cut35) 1 0), .int .u8 (List.getD (arrL 4 cut35) 2 0), .int .u8 (List.getD (arrL 4 cut35) 3 0), .int .u8 (List.getD (arrL 4 cut43) 0 0), .int .u8 (List.getD (arrL 4 cut43) 1 0), .int .u8 (List.getD (arrL 4 cut43) 2 0), .int .u8 (List.getD (arrL 4 cut43) 3 0), .slice A70 (y66).length c71]) (cs' := [.int .u8 xv28, .int .u16 y58, .int .u16 y62, .bool (decide (0 < (bits .and .u16 y22 16384))), .bool (decide (0 < (bits .and .u16 y22 8192))), .int .u16 (bits .and .u16 y22 8191), .int .u8 xv31, .int .u8 xv34, .int .u8 (List.getD (arrL 4 cut35) 0 0), .int .u8 (List.getD (arrL 4 cut35) 1 0), .int .u8 (List.getD (arrL 4 cut35) 2 0), .int .u8 (List.getD (arrL 4 cut35) 3 0), .int .u8 (List.getD (arrL 4 cut43) 0 0), .int .u8 (List.getD (arrL 4 cut43) 1 0), .int .u8 (List.getD (arrL 4 cut43) 2 0), .int .u8 (List.getD (arrL 4 cut43) 3 0), .slice A70 (y66).length c71]) hM rfl sz39 rfl (adds_eq [] rfl) rfl rfl (One.all rfl) rfl rfl) fun w76 hM1 => ?_
                  clear hM
                  have hM := hM1
                  clear hM1
                  refine RD.nil ?_
                  refine KQ.then_k ?_
                  exact fun a ha => ⟨g73, A70, c71, xv28, y58, y62, xv31, xv34, (arrL 4 cut35), (arrL 4 cut43), y66, ha.less (less_cons rfl (less_cons rfl (less_cons rfl (less_cons rfl (less_cons rfl less_nil))))), hM, hF⟩
                · refine RD.meff rfl rfl (E.alloc hM ze39) rfl fun v w78 hv => ?_
                  clear hM
                  obtain ⟨g77, rfl, hM, hf⟩ := hv
                  refine ⟨fun _ => hf, ?_⟩
                  refine obindE hF fun y80 hx81 hF => ?_
                  refine RD.mcall rfl rfl trivial Try.func40 bd40 rfl rfl (c_slices_Clone_byte_byte _ _ _ cut51 (hM.inp hr55 Off.nil) _ hx81) fun v w82 hv => ?_
                  obtain ⟨A84, c85, rfl, hN83⟩ := hv
                  refine ⟨fun _ => hN83.fut, ?_⟩
                  replace hM := hM.call hN83
                  refine RD.q rfl rfl rfl rfl (fun w' hf => O.bld (cs := [.int .u8 xv28, .int .u16 y58, .int .u16 y62, .bool (decide (0 < (bits .and .u16 y22 16384))), .bool (decide (0 < (bits .and .u16 y22 8192))), .int .u16 (bits .and .u16 y22 8191), .int .u8 xv31, .int .u8 xv34, .int .u8 (List.getD (arrL 4 cut35) 0 0), .int .u8 (List.getD (arrL 4 cut35) 1 0), .int .u8 (List.getD (arrL 4 cut35) 2 0), .int .u8 (List.getD (arrL 4 cut35) 3 0), .int .u8 (List.getD (arrL 4 cut43) 0 0), .int .u8 (List.getD (arrL 4 cut43) 1 0), .int .u8 (List.getD (arrL 4 cut43) 2 0), .int .u8 (List.getD (arrL 4 cut43) 3 0), .slice A84 (y80).length c85]) bt39 rfl (by kernel_rfl)) ?_
                  refine RD.meffs rfl rfl rfl (E.stB (j := 1) (off := 0) (vs := [.int .u8 xv28, .int .u16 y58, .int .u16 y62, .bool (decide (0 < (bits .and .u16 y22 16384))), .bool (decide (0 < (bits .and .u16 y22 8192))), .int .u16 (bits .and .u16 y22 8191), .int .u8 xv31, .int .u8 xv34, .int .u8 (List.getD (arrL 4 cut35) 0 0), .int .u8 (List.getD (arrL 4 cut35) 1 0), .int .u8 (List.getD (arrL 4 cut35) 2 0), .int .u8 (List.getD (arrL 4 cut35) 3 0), .int .u8 (List.getD (arrL 4 cut43) 0 0), .int .u8 (List.getD (arrL 4 cut43) 1 0), .int .u8 (List.getD (arrL 4 cut43) 2 0), .int .u8 (List.getD (arrL 4 cut43) 3 0), .slice A84 (y80).length c85]) (cs' := [.int .u8 xv28, .int .u16 y58, .int .u16 y62, .bool (decide (0 < (bits .and .u16 y22 16384))), .bool (decide (0 < (bits .and .u16 y22 8192))), .int .u16 (bits .and .u16 y22 8191), .int .u8 xv31, .int .u8 xv34, .int .u8 (List.getD (arrL 4 cut35) 0 0), .int .u8 (List.getD (arrL 4 cut35) 1 0), .int .u8 (List.getD (arrL 4 cut35) 2 0), .int .u8 (List.getD (arrL 4 cut35) 3 0), .int .u8 (List.getD (arrL 4 cut43) 0 0), .int .u8 (List.getD (arrL 4 cut43) 1 0), .int .u8 (List.getD (arrL 4 cut43) 2 0), .int .u8 (List.getD (arrL 4 cut43) 3 0), .slice A84 (y80).length c85]) hM rfl sz39 rfl (adds_eq [] rfl) rfl rfl (One.all rfl) rfl rfl) fun w87 hM1 => ?_
                  clear hM
                  have hM := hM1
                  clear hM1
                  refine RD.nil ?_
                  refine KQ.then_k ?_
                  replace hM := hM.pick [0, 2, 1] rfl (by decide)
                  exact fun a ha => ⟨g77, A84, c85, xv28, y58, y62, xv31, xv34, (arrL 4 cut35), (arrL 4 cut43), y80, ha.less (less_cons rfl (less_cons rfl (less_cons rfl (less_cons rfl (less_cons rfl less_nil))))), hM, hF⟩
              · refine RD.meff rfl rfl (E.alloc hM ze39) rfl fun v w89 hv => ?_
                clear hM
                obtain ⟨g88, rfl, hM, hf⟩ := hv
                refine ⟨fun _ => hf, ?_⟩
                refine obindE hF fun y91 hx92 hF => ?_
                refine RD.mcall rfl rfl trivial Try.func39 bd39 rfl rfl (c_ip_word _ _ _ b1 (hM.inp hr4 Off.nil) 4 _ hx92) fun v w93 hv => ?_
                obtain ⟨rfl, hN94⟩ := hv
                refine ⟨fun _ => hN94.fut, ?_⟩
                replace hM := hM.call0 hN94
                refine obindE hF fun y95 hx96 hF => ?_
                refine RD.mcall rfl rfl trivial Try.func40 bd40 rfl rfl (c_slices_Clone_byte_byte _ _ _ cut51 (hM.inp hr55 Off.nil) _ hx96) fun v w97 hv => ?_
                obtain ⟨A99, c100, rfl, hN98⟩ := hv
                refine ⟨fun _ => hN98.fut, ?_⟩
                replace hM := hM.call hN98
                refine RD.q rfl rfl rfl rfl (fun w' hf => O.bld (cs := [.int .u8 xv28, .int .u16 y58, .int .u16 y91, .bool (decide (0 < (bits .and .u16 y22 16384))), .bool (decide (0 < (bits .and .u16 y22 8192))), .int .u16 (bits .and .u16 y22 8191), .int .u8 xv31, .int .u8 xv34, .int .u8 (List.getD (arrL 4 cut35) 0 0), .int .u8 (List.getD (arrL 4 cut35) 1 0), .int .u8 (List.getD (arrL 4 cut35) 2 0), .int .u8 (List.getD (arrL 4 cut35) 3 0), .int .u8 (List.getD (arrL 4 cut43) 0 0), .int .u8 (List.getD (arrL 4 cut43) 1 0), .int .u8 (List.getD (arrL 4 cut43) 2 0), .int .u8 (List.getD (arrL 4 cut43) 3 0), .slice A99 (y95).length c100]) bt39 rfl (by kernel_rfl)) ?_
                refine RD.meffs rfl rfl rfl (E.stB (j := 1) (off := 0) (vs := [.int .u8 xv28, .int .u16 y58, .int .u16 y91, .bool (decide (0 < (bits .and .u16 y22 16384))), .bool (decide (0 < (bits .and .u16 y22 8192))), .int .u16 (bits .and .u16 y22 8191), .int .u8 xv31, .int .u8 xv34, .int .u8 (List.getD (arrL 4 cut35) 0 0), .int .u8 (List.getD (arrL 4 cut35) 1 0), .int .u8 (List.getD (arrL 4 cut35) 2 0), .int .u8 (List.getD (arrL 4 cut35) 3 0), .int .u8 (List.getD (arrL 4 cut43) 0 0), .int .u8 (List.getD (arrL 4 cut43) 1 0), .int .u8 (List.getD (arrL 4 cut43) 2 0), .int .u8 (List.getD (arrL 4 cut43) 3 0), .slice A99 (y95).length c100]) (cs' := [.int .u8 xv28, .int .u16 y58, .int .u16 y91, .bool (decide (0 < (bits .and .u16 y22 16384))), .bool (decide (0 < (bits .and .u16 y22 8192))), .int .u16 (bits .and .u16 y22 8191), .int .u8 xv31, .int .u8 xv34, .int .u8 (List.getD (arrL 4 cut35) 0 0), .int .u8 (List.getD (arrL 4 cut35) 1 0), .int .u8 (List.getD (arrL 4 cut35) 2 0), .int .u8 (List.getD (arrL 4 cut35) 3 0), .int .u8 (List.getD (arrL 4 cut43) 0 0), .int .u8 (List.getD (arrL 4 cut43) 1 0), .int .u8 (List.getD (arrL 4 cut43) 2 0), .int .u8 (List.getD (arrL 4 cut43) 3 0), .slice A99 (y95).length c100]) hM rfl sz39 rfl (adds_eq [] rfl) rfl rfl (One.all rfl) rfl rfl) fun w102 hM1 => ?_
                clear hM
                have hM := hM1
                clear hM1
                refine RD.nil ?_
                refine KQ.then_k ?_
                replace hM := hM.pick [0, 2, 1] rfl (by decide)
                exact fun a ha => ⟨g88, A99, c100, xv28, y58, y91, xv31, xv34, (arrL 4 cut35), (arrL 4 cut43), y95, ha.less (less_cons rfl (less_cons rfl (less_cons rfl (less_cons rfl (less_cons rfl less_nil))))), hM, hF⟩
            · refine RD.meff rfl rfl (E.alloc hM ze39) rfl fun v w104 hv => ?_
              clear hM
              obtain ⟨g103, rfl, hM, hf⟩ := hv
              refine ⟨fun _ => hf, ?_⟩
              refine obindE hF fun y106 hx107 hF => ?_
              refine RD.mcall rfl rfl trivial Try.func39 bd39 rfl rfl (c_ip_word _ _ _ b1 (hM.inp hr4 Off.nil) 2 _ hx107) fun v w108 hv => ?_
              obtain ⟨rfl, hN109⟩ := hv
              refine ⟨fun _ => hN109.fut, ?_⟩
              replace hM := hM.call0 hN109
              refine obindE hF fun y110 hx111 hF => ?_
              refine RD.mcall rfl rfl trivial Try.func39 bd39 rfl rfl (c_ip_word _ _ _ b1 (hM.inp hr4 Off.nil) 4 _ hx111) fun v w112 hv => ?_
              obtain ⟨rfl, hN113⟩ := hv
              refine ⟨fun _ => hN113.fut, ?_⟩
              replace hM := hM.call0 hN113
              refine obindE hF fun y114 hx115 hF => ?_
              refine RD.mcall rfl rfl trivial Try.func40 bd40 rfl rfl (c_slices_Clone_byte_byte _ _ _ cut51 (hM.inp hr55 Off.nil) _ hx115) fun v w116 hv => ?_
              obtain ⟨A118, c119, rfl, hN117⟩ := hv
              refine ⟨fun _ => hN117.fut, ?_⟩
              replace hM := hM.call hN117
              refine RD.q rfl rfl rfl rfl (fun w' hf => O.bld (cs := [.int .u8 xv28, .int .u16 y106, .int .u16 y110, .bool (decide (0 < (bits .and .u16 y22 16384))), .bool (decide (0 < (bits .and .u16 y22 8192))), .int .u16 (bits .and .u16 y22 8191), .int .u8 xv31, .int .u8 xv34, .int .u8 (List.getD (arrL 4 cut35) 0 0), .int .u8 (List.getD (arrL 4 cut35) 1 0), .int .u8 (List.getD (arrL 4 cut35) 2 0), .int .u8 (List.getD (arrL 4 cut35) 3 0), .int .u8 (List.getD (arrL 4 cut43) 0 0), .int .u8 (List.getD (arrL 4 cut43) 1 0), .int .u8 (List.getD (arrL 4 cut43) 2 0), .int .u8 (List.getD (arrL 4 cut43) 3 0), .slice A118 (y114).length c119]) bt39 rfl (by kernel_rfl)) ?_
              refine RD.meffs rfl rfl rfl (E.stB (j := 1) (off := 0) (vs := [.int .u8 xv28, .int .u16 y106, .int .u16 y110, .bool (decide (0 < (bits .and .u16 y22 16384))), .bool (decide (0 < (bits .and .u16 y22 8192))), .int .u16 (bits .and .u16 y22 8191), .int .u8 xv31, .int .u8 xv34, .int .u8 (List.getD (arrL 4 cut35) 0 0), .int .u8 (List.getD (arrL 4 cut35) 1 0), .int .u8 (List.getD (arrL 4 cut35) 2 0), .int .u8 (List.getD (arrL 4 cut35) 3 0), .int .u8 (List.getD (arrL 4 cut43) 0 0), .int .u8 (List.getD (arrL 4 cut43) 1 0), .int .u8 (List.getD (arrL 4 cut43) 2 0), .int .u8 (List.getD (arrL 4 cut43) 3 0), .slice A118 (y114).length c119]) (cs' := [.int .u8 xv28, .int .u16 y106, .int .u16 y110, .bool (decide (0 < (bits .and .u16 y22 16384))), .bool (decide (0 < (bits .and .u16 y22 8192))), .int .u16 (bits .and .u16 y22 8191), .int .u8 xv31, .int .u8 xv34, .int .u8 (List.getD (arrL 4 cut35) 0 0), .int .u8 (List.getD (arrL 4 cut35) 1 0), .int .u8 (List.getD (arrL 4 cut35) 2 0), .int .u8 (List.getD (arrL 4 cut35) 3 0), .int .u8 (List.getD (arrL 4 cut43) 0 0), .int .u8 (List.getD (arrL 4 cut43) 1 0), .int .u8 (List.getD (arrL 4 cut43) 2 0), .int .u8 (List.getD (arrL 4 cut43) 3 0), .slice A118 (y114).length c119]) hM rfl sz39 rfl (adds_eq [] rfl) rfl rfl (One.all rfl) rfl rfl) fun w121 hM1 => ?_
              clear hM
              have hM := hM1
              clear hM1
              refine RD.nil ?_
              refine KQ.then_k ?_
              replace hM := hM.pick [0, 2, 1] rfl (by decide)
              exact fun a ha => ⟨g103, A118, c119, xv28, y106, y110, xv31, xv34, (arrL 4 cut35), (arrL 4 cut43), y114, ha.less (less_cons rfl (less_cons rfl (less_cons rfl (less_cons rfl (less_cons rfl less_nil))))), hM, hF⟩
          · rintro a w136 ⟨g124, A133, c134, h125, h126, h127, h128, h129, h130, h131, h135, ha, hM, hF⟩
            refine KC.app ha ?_
            clear ha
            unfold F_ip_Parse_j1 at hF
            refine KC.seq ?_
            refine KC.block ?_
            refine KC.cut (fun a w141 => ∃ (t140 : Bool), Kn 93 [(0, .slice A2 (b1).length c3), (2, .pointer (some ⟨g5, 0, none⟩)), (5, .int .i64 (IntKind.i64.wrap ((IntKind.i64.wrap (bits .and .u8 xv12 15)) * 4))), (7, .pointer (some ⟨g124, 0, none⟩)), (71, .bool t140)] a ∧ Mem w [] w141 [.box g5 39 [.int .u8 0, .int .u16 0, .int .u16 0, .bool false, .bool false, .int .u16 0, .int .u8 0, .int .u8 0, .int .u8 (List.getD (List.replicate 4 0) 0 0), .int .u8 (List.getD (List.replicate 4 0) 1 0), .int .u8 (List.getD (List.replicate 4 0) 2 0), .int .u8 (List.getD (List.replicate 4 0) 3 0), .int .u8 (List.getD (List.replicate 4 0) 0 0), .int .u8 (List.getD (List.replicate 4 0) 1 0), .int .u8 (List.getD (List.replicate 4 0) 2 0), .int .u8 (List.getD (List.replicate 4 0) 3 0), .slice none 0 0], .row A133 c134 5 1 (h135).length ((h135).flatMap (eI .u8)), .box g124 39 [.int .u8 h125, .int .u16 h126, .int .u16 h127, .bool (decide (0 < (bits .and .u16 y22 16384))), .bool (decide (0 < (bits .and .u16 y22 8192))), .int .u16 (bits .and .u16 y22 8191), .int .u8 h128, .int .u8 h129, .int .u8 (List.getD h130 0 0), .int .u8 (List.getD h130 1 0), .int .u8 (List.getD h130 2 0), .int .u8 (List.getD h130 3 0), .int .u8 (List.getD h131 0 0), .int .u8 (List.getD h131 1 0), .int .u8 (List.getD h131 2 0), .int .u8 (List.getD h131 3 0), .slice A133 (h135).length c134]] ∧ F_ip_Parse_j2 b1 xv12 y22 h125 h126 h127 h128 h129 h130 h131 h135 t140 = some r) ?_ ?_
            · refine KC.region ?_
              refine RL.val (O.move rfl) rfl ?_
              refine RL.val (O.and rfl rfl) rfl ?_
              refine RL.val (O.gtr rfl rfl) rfl ?_
              refine RL.val (O.move rfl) rfl ?_
              refine RL.bcase (t := 75) rfl (fun hc => ?_) (fun hc => ?_)
              · rw [if_pos hc] at hF
                refine RL.brun1 6 81 true (by kernel_rfl) ?_
                refine RL.val (O.assign rfl) rfl ?_
                refine RL.nil ?_
                refine KQ.then_k ?_
                exact fun a ha => ⟨true, ha.less (less_cons rfl (less_cons rfl (less_cons rfl (less_cons rfl (less_cons rfl less_nil))))), hM, hF⟩
              · rw [if_neg (ne_true hc)] at hF
                refine RL.gval rfl rfl (O.fldA fl39_1 (by decide) rfl) rfl ?_
                refine RL.gval rfl rfl (O.load sc36 rfl (Cs.adds [1] ((hM.bx (i := 2) rfl)) rfl)) rfl ?_
                refine RL.gval rfl rfl (O.conv un36 Try.underlying3 rfl) rfl ?_
                refine RL.gval rfl rfl (O.move rfl) rfl ?_
                refine RL.gval rfl rfl (O.lss rfl rfl) rfl ?_
                refine RL.val (O.pickf rfl rfl) rfl ?_
                refine RL.val (O.assign rfl) rfl ?_
                refine RL.nil ?_
                refine KQ.then_k ?_
                exact fun a ha => ⟨(decide ((IntKind.i64.wrap h126) < (IntKind.i64.wrap ((IntKind.i64.wrap (bits .and .u8 xv12 15)) * 4)))), ha.less (less_cons rfl (less_cons rfl (less_cons rfl (less_cons rfl (less_cons rfl less_nil))))), hM, hF⟩
            · rintro a w141 ⟨t140, ha, hM, hF⟩
              refine KC.app ha ?_
              clear ha
              unfold F_ip_Parse_j2 at hF
              refine KC.cond rfl (fun hc => ?_) (fun hc => ?_)
              · rw [if_pos hc] at hF
                refine KC.seq ?_
                refine KC.region ?_
                refine RL.val (O.bld (cs := [.int .u8 0, .int .u16 0, .int .u16 0, .bool false, .bool false, .int .u16 0, .int .u8 0, .int .u8 0, .int .u8 (List.getD (List.replicate 4 0) 0 0), .int .u8 (List.getD (List.replicate 4 0) 1 0), .int .u8 (List.getD (List.replicate 4 0) 2 0), .int .u8 (List.getD (List.replicate 4 0) 3 0), .int .u8 (List.getD (List.replicate 4 0) 0 0), .int .u8 (List.getD (List.replicate 4 0) 1 0), .int .u8 (List.getD (List.replicate 4 0) 2 0), .int .u8 (List.getD (List.replicate 4 0) 3 0), .slice none 0 0]) bt39 rfl (by kernel_rfl)) rfl ?_
                refine RL.effs (E.stB (j := 0) (off := 0) (vs := [.int .u8 0, .int .u16 0, .int .u16 0, .bool false, .bool false, .int .u16 0, .int .u8 0, .int .u8 0, .int .u8 (List.getD (List.replicate 4 0) 0 0), .int .u8 (List.getD (List.replicate 4 0) 1 0), .int .u8 (List.getD (List.replicate 4 0) 2 0), .int .u8 (List.getD (List.replicate 4 0) 3 0), .int .u8 (List.getD (List.replicate 4 0) 0 0), .int .u8 (List.getD (List.replicate 4 0) 1 0), .int .u8 (List.getD (List.replicate 4 0) 2 0), .int .u8 (List.getD (List.replicate 4 0) 3 0), .slice none 0 0]) (cs' := [.int .u8 0, .int .u16 0, .int .u16 0, .bool false, .bool false, .int .u16 0, .int .u8 0, .int .u8 0, .int .u8 (List.getD (List.replicate 4 0) 0 0), .int .u8 (List.getD (List.replicate 4 0) 1 0), .int .u8 (List.getD (List.replicate 4 0) 2 0), .int .u8 (List.getD (List.replicate 4 0) 3 0), .int .u8 (List.getD (List.replicate 4 0) 0 0), .int .u8 (List.getD (List.replicate 4 0) 1 0), .int .u8 (List.getD (List.replicate 4 0) 2 0), .int .u8 (List.getD (List.replicate 4 0) 3 0), .slice none 0 0]) hM rfl sz39 rfl (adds_eq [] rfl) rfl rfl (One.all rfl) rfl rfl) fun w142 hM1 => ?_
                clear hM
                have hM := hM1
                clear hM1
                refine RL.val (O.assign rfl) rfl ?_
                refine RL.val (O.assign rfl) rfl ?_
                refine RL.nil ?_
                refine KQ.then_n ?_
                refine KC.ret ?_
                refine KQ.blk_r ?_
                refine KQ.then_r ?_
                have hE := Option.some.inj hF
                clear hF
                subst hE
                have hb143 := hM.bx (i := 0) rfl
                replace hM := hM.nilrow 5 1
                replace hM := hM.pick [3] rfl (by decide)
                refine KQ.rets Try.results19 (RVs.cons (RV.cN (cs := [.int .u8 0, .int .u16 0, .int .u16 0, .bool false, .bool false, .int .u16 0, .int .u8 0, .int .u8 0, .int .u8 (List.getD (List.replicate 4 0) 0 0), .int .u8 (List.getD (List.replicate 4 0) 1 0), .int .u8 (List.getD (List.replicate 4 0) 2 0), .int .u8 (List.getD (List.replicate 4 0) 3 0), .int .u8 (List.getD (List.replicate 4 0) 0 0), .int .u8 (List.getD (List.replicate 4 0) 1 0), .int .u8 (List.getD (List.replicate 4 0) 2 0), .int .u8 (List.getD (List.replicate 4 0) 3 0), .slice none 0 0]) rfl ag39 hb143) (RVs.cons (RV.tm rfl) (RVs.cons (RV.tm rfl) RVs.nil))) ?_
                exact ⟨_, rfl, none, 0, rfl, hM⟩
              · rw [if_neg (ne_true hc)] at hF
                refine KC.seq ?_
                refine KC.region ?_
                refine RL.val (O.move rfl) rfl ?_
                refine RL.val (O.move rfl) rfl ?_
                refine obindE hF fun cut144 hy145 hF => ?_
                obtain ⟨A146, c147, eA149, ec150⟩ := cutN A2 c3 (Int.toNat 0) 1
                have hr148 := Rd.cutT (enc := (eI .u8)) (s := 1) (fun _ => rfl) hr4 hy145 (m := c3) (by have := hr4.cap; have := (gcut_some hy145).2.2.1; omega) (Nat.le_refl _)
                rw [← eA149, ← ec150] at hr148
                refine RL.val (v := .slice A146 (cut144).length c147) (by rw [eA149, ec150]; exact O.cuthT sl22 (hM.inp hr4 Off.nil) hy145 rfl rfl) rfl ?_
                refine RL.eff (E.bslR (enc := (eI .u8)) (us := [.slice A146 (cut144).length c147]) (xss := [cut144]) (Rdl.cons ((hM.inp hr148 Off.nil)) Rdl.nil) hM sl91 ze22 rfl rfl rfl rfl rfl) rfl fun v w151 hv => ?_
                clear hM
                obtain ⟨A152, rfl, hM, hf, hr153⟩ := hv
                refine obindE hF fun y154 hx155 hF => ?_
                refine RL.call Try.func41 bd41 rfl rfl (c_sum_Whole _ _ _ ([cut144]) (hr153) _ hx155) fun v w156 hv => ?_
                obtain ⟨rfl, hN157⟩ := hv
                have hr153 := hr153.fut hN157.fut
                replace hM := hM.call0 hN157
                refine RL.val (O.not rfl) rfl ?_
                refine RL.val (O.assign rfl) rfl ?_
                refine RL.nil ?_
                refine KQ.then_n ?_
                refine KC.cond rfl (fun hc => ?_) (fun hc => ?_)
                · rw [if_pos hc] at hF
                  refine KC.seq ?_
                  refine KC.region ?_
                  refine RL.val (O.bld (cs := [.int .u8 0, .int .u16 0, .int .u16 0, .bool false, .bool false, .int .u16 0, .int .u8 0, .int .u8 0, .int .u8 (List.getD (List.replicate 4 0) 0 0), .int .u8 (List.getD (List.replicate 4 0) 1 0), .int .u8 (List.getD (List.replicate 4 0) 2 0), .int .u8 (List.getD (List.replicate 4 0) 3 0), .int .u8 (List.getD (List.replicate 4 0) 0 0), .int .u8 (List.getD (List.replicate 4 0) 1 0), .int .u8 (List.getD (List.replicate 4 0) 2 0), .int .u8 (List.getD (List.replicate 4 0) 3 0), .slice none 0 0]) bt39 rfl (by kernel_rfl)) rfl ?_
                  refine RL.effs (E.stB (j := 0) (off := 0) (vs := [.int .u8 0, .int .u16 0, .int .u16 0, .bool false, .bool false, .int .u16 0, .int .u8 0, .int .u8 0, .int .u8 (List.getD (List.replicate 4 0) 0 0), .int .u8 (List.getD (List.replicate 4 0) 1 0), .int .u8 (List.getD (List.replicate 4 0) 2 0), .int .u8 (List.getD (List.replicate 4 0) 3 0), .int .u8 (List.getD (List.replicate 4 0) 0 0), .int .u8 (List.getD (List.replicate 4 0) 1 0), .int .u8 (List.getD (List.replicate 4 0) 2 0), .int .u8 (List.getD (List.replicate 4 0) 3 0), .slice none 0 0]) (cs' := [.int .u8 0, .int .u16 0, .int .u16 0, .bool false, .bool false, .int .u16 0, .int .u8 0, .int .u8 0, .int .u8 (List.getD (List.replicate 4 0) 0 0), .int .u8 (List.getD (List.replicate 4 0) 1 0), .int .u8 (List.getD (List.replicate 4 0) 2 0), .int .u8 (List.getD (List.replicate 4 0) 3 0), .int .u8 (List.getD (List.replicate 4 0) 0 0), .int .u8 (List.getD (List.replicate 4 0) 1 0), .int .u8 (List.getD (List.replicate 4 0) 2 0), .int .u8 (List.getD (List.replicate 4 0) 3 0), .slice none 0 0]) hM rfl sz39 rfl (adds_eq [] rfl) rfl rfl (One.all rfl) rfl rfl) fun w158 hM1 => ?_
                  clear hM
                  have hM := hM1
                  clear hM1
                  refine RL.val (O.assign rfl) rfl ?_
                  refine RL.val (O.assign rfl) rfl ?_
                  refine RL.nil ?_
                  refine KQ.then_n ?_
                  refine KC.ret ?_
                  refine KQ.blk_r ?_
                  refine KQ.then_r ?_
                  have hE := Option.some.inj hF
                  clear hF
                  subst hE
                  have hb159 := hM.bx (i := 0) rfl
                  replace hM := hM.nilrow 5 1
                  replace hM := hM.pick [3] rfl (by decide)
                  refine KQ.rets Try.results19 (RVs.cons (RV.cN (cs := [.int .u8 0, .int .u16 0, .int .u16 0, .bool false, .bool false, .int .u16 0, .int .u8 0, .int .u8 0, .int .u8 (List.getD (List.replicate 4 0) 0 0), .int .u8 (List.getD (List.replicate 4 0) 1 0), .int .u8 (List.getD (List.replicate 4 0) 2 0), .int .u8 (List.getD (List.replicate 4 0) 3 0), .int .u8 (List.getD (List.replicate 4 0) 0 0), .int .u8 (List.getD (List.replicate 4 0) 1 0), .int .u8 (List.getD (List.replicate 4 0) 2 0), .int .u8 (List.getD (List.replicate 4 0) 3 0), .slice none 0 0]) rfl ag39 hb159) (RVs.cons (RV.tm rfl) (RVs.cons (RV.tm rfl) RVs.nil))) ?_
                  exact ⟨_, rfl, none, 0, rfl, hM⟩
                · rw [if_neg (ne_true hc)] at hF
                  refine KC.skip ?_
                  refine KQ.blk_n ?_
                  refine KQ.then_n ?_
                  refine KC.seq ?_
                  refine KC.region ?_
                  refine RL.val (O.loadN (cs := [.int .u8 h125, .int .u16 h126, .int .u16 h127, .bool (decide (0 < (bits .and .u16 y22 16384))), .bool (decide (0 < (bits .and .u16 y22 8192))), .int .u16 (bits .and .u16 y22 8191), .int .u8 h128, .int .u8 h129, .int .u8 (List.getD h130 0 0), .int .u8 (List.getD h130 1 0), .int .u8 (List.getD h130 2 0), .int .u8 (List.getD h130 3 0), .int .u8 (List.getD h131 0 0), .int .u8 (List.getD h131 1 0), .int .u8 (List.getD h131 2 0), .int .u8 (List.getD h131 3 0), .slice A133 (h135).length c134]) ag39 rfl (Cs.addsN [] ((hM.bx (i := 2) rfl)) rfl)) rfl ?_
                  refine RL.val (O.move rfl) rfl ?_
                  refine RL.effs (E.stB (j := 0) (off := 0) (vs := [.int .u8 h125, .int .u16 h126, .int .u16 h127, .bool (decide (0 < (bits .and .u16 y22 16384))), .bool (decide (0 < (bits .and .u16 y22 8192))), .int .u16 (bits .and .u16 y22 8191), .int .u8 h128, .int .u8 h129, .int .u8 (List.getD h130 0 0), .int .u8 (List.getD h130 1 0), .int .u8 (List.getD h130 2 0), .int .u8 (List.getD h130 3 0), .int .u8 (List.getD h131 0 0), .int .u8 (List.getD h131 1 0), .int .u8 (List.getD h131 2 0), .int .u8 (List.getD h131 3 0), .slice A133 (h135).length c134]) (cs' := [.int .u8 h125, .int .u16 h126, .int .u16 h127, .bool (decide (0 < (bits .and .u16 y22 16384))), .bool (decide (0 < (bits .and .u16 y22 8192))), .int .u16 (bits .and .u16 y22 8191), .int .u8 h128, .int .u8 h129, .int .u8 (List.getD h130 0 0), .int .u8 (List.getD h130 1 0), .int .u8 (List.getD h130 2 0), .int .u8 (List.getD h130 3 0), .int .u8 (List.getD h131 0 0), .int .u8 (List.getD h131 1 0), .int .u8 (List.getD h131 2 0), .int .u8 (List.getD h131 3 0), .slice A133 (h135).length c134]) hM rfl sz39 rfl (adds_eq [] rfl) rfl rfl (One.all rfl) rfl rfl) fun w160 hM1 => ?_
                  clear hM
                  have hM := hM1
                  clear hM1
                  refine RL.val (O.assign rfl) rfl ?_
                  refine RL.val (O.assign rfl) rfl ?_
                  refine RL.nil ?_
                  refine KQ.then_n ?_
                  refine KC.ret ?_
                  have hE := Option.some.inj hF
                  clear hF
                  subst hE
                  have hb161 := hM.bx (i := 0) rfl
                  replace hM := hM.pick [1] rfl (by decide)
                  refine KQ.rets Try.results19 (RVs.cons (RV.cN (cs := [.int .u8 h125, .int .u16 h126, .int .u16 h127, .bool (decide (0 < (bits .and .u16 y22 16384))), .bool (decide (0 < (bits .and .u16 y22 8192))), .int .u16 (bits .and .u16 y22 8191), .int .u8 h128, .int .u8 h129, .int .u8 (List.getD h130 0 0), .int .u8 (List.getD h130 1 0), .int .u8 (List.getD h130 2 0), .int .u8 (List.getD h130 3 0), .int .u8 (List.getD h131 0 0), .int .u8 (List.getD h131 1 0), .int .u8 (List.getD h131 2 0), .int .u8 (List.getD h131 3 0), .slice A133 (h135).length c134]) rfl ag39 hb161) (RVs.cons (RV.tm rfl) (RVs.cons (RV.tm rfl) RVs.nil))) ?_
                  exact ⟨_, rfl, A133, c134, rfl, hM⟩
end Go.Proofs.Ytjfdfjmnajjjaaa
