/- Printed by a program of this claim: each call returns what the plain function of its name gives. -/
import Derived.Test.YtjfdfjmnajjjaaaW1
import Derived.Test.YtjfdfjmnajjjaaaW2
import Derived.Test.YtjfdfjmnajjjaaaW4
import Derived.Test.YtjfdfjmnajjjaaaW5
set_option linter.unusedVariables false
namespace Go.Proofs.Ytjfdfjmnajjjaaa
open Go Go.Ox Go.RowKit
set_option maxRecDepth 100000 in
set_option maxHeartbeats 40000000 in
theorem c_sum_Change (w : World) (sum1 : Int) (fromv2 : Int) (tov3 : Int) (r : Int) (hF : F_sum_Change sum1 fromv2 tov3 = some r) :
    CallsR Try.prog 42 [.int .u16 sum1, .int .u16 fromv2, .int .u16 tov3] w (fun v w' => v = .int .u16 r ∧ Mem w [] w' []) := by
  refine calls_KC Try.func42 rfl Try.ntmps42 rfl ?_
  have hM := Mem.init w
  unfold F_sum_Change at hF
  refine KC.seq ?_
  refine KC.region ?_
  refine RL.val (O.assign rfl) rfl ?_
  refine RL.nil ?_
  refine KQ.then_n ?_
  refine KC.seq ?_
  refine KC.region ?_
  refine RL.val (O.move rfl) rfl ?_
  refine RL.val (O.sub rfl rfl) rfl ?_
  refine RL.val (O.conv un36 Try.underlying70 rfl) rfl ?_
  refine RL.val (O.move rfl) rfl ?_
  refine RL.val (O.sub rfl rfl) rfl ?_
  refine RL.val (O.conv un36 Try.underlying70 rfl) rfl ?_
  refine RL.val (O.add rfl rfl) rfl ?_
  refine RL.val (O.move rfl) rfl ?_
  refine RL.val (O.conv un36 Try.underlying70 rfl) rfl ?_
  refine RL.val (O.add rfl rfl) rfl ?_
  refine obindE hF fun y4 hx5 hF => ?_
  refine RL.call Try.func58 bd58 rfl rfl (c_sum_fold _ (IntKind.u64.wrap ((IntKind.u64.wrap ((IntKind.u64.wrap (IntKind.u16.wrap (65535 - sum1))) + (IntKind.u64.wrap (IntKind.u16.wrap (65535 - fromv2))))) + (IntKind.u64.wrap tov3))) _ hx5) fun v w6 hv => ?_
  obtain ⟨rfl, hN7⟩ := hv
  replace hM := hM.call0 hN7
  refine RL.val (O.sub rfl rfl) rfl ?_
  refine RL.val (O.assign rfl) rfl ?_
  refine RL.nil ?_
  refine KQ.then_n ?_
  refine KC.ret ?_
  have hE := Option.some.inj hF
  clear hF
  subst hE
  refine KQ.rets Try.results42 (RVs.cons (RV.tm rfl) RVs.nil) ?_
  exact ⟨_, rfl, rfl, hM⟩
set_option maxRecDepth 100000 in
set_option maxHeartbeats 40000000 in
theorem c_ip_Hop (w : World) (A2 : Option Addr) (c3 : Nat) (b1 : List Int) (hr4 : Rd w A2 c3 1 b1.length (b1.flatMap (eI .u8))) (r : (List Int) × Int) (hF : F_ip_Hop b1 = some r) :
    CallsR Try.prog 21 [.slice A2 (b1).length c3] w (fun v w' => ∃ (A0 : Option Addr) (c0 : Nat), v = .tuple #[.slice A0 (r.1).length c0, .int .i64 r.2] ∧ Mem w [] w' [.row A0 c0 5 1 r.1.length (r.1.flatMap (eI .u8))]) := by
  refine calls_KC Try.func21 rfl Try.ntmps21 rfl ?_
  have hM := Mem.init w
  unfold F_ip_Hop at hF
  refine KC.seq ?_
  refine KC.region ?_
  refine RL.val (O.assign rfl) rfl ?_
  refine RL.val (O.assign rfl) rfl ?_
  refine RL.nil ?_
  refine KQ.then_n ?_
  refine KC.seq ?_
  refine KC.region ?_
  refine RL.val (O.move rfl) rfl ?_
  refine obindE hF fun y5 hx6 hF => ?_
  refine RL.call Try.func19 bd19 rfl rfl (c_ip_Parse _ _ _ b1 (hM.inp hr4 Off.nil) _ hx6) fun v w7 hv => ?_
  obtain ⟨A9, c10, rfl, hN8⟩ := hv
  replace hM := hM.call hN8
  refine RL.val (O.move rfl) rfl ?_
  refine RL.val (O.ext rfl rfl) rfl ?_
  refine RL.val (O.ext rfl rfl) rfl ?_
  refine RL.val (O.ext rfl rfl) rfl ?_
  refine RL.eff (E.alloc hM ze39) rfl fun v w13 hv => ?_
  clear hM
  obtain ⟨g12, rfl, hM, hf⟩ := hv
  refine RL.effs (E.stB (j := 1) (off := 0) (vs := [.int .u8 y5.1.f_TOS, .int .u16 y5.1.f_Total, .int .u16 y5.1.f_ID, .bool y5.1.f_DF, .bool y5.1.f_MF, .int .u16 y5.1.f_Frag, .int .u8 y5.1.f_TTL, .int .u8 y5.1.f_Proto, .int .u8 (List.getD y5.1.f_Src 0 0), .int .u8 (List.getD y5.1.f_Src 1 0), .int .u8 (List.getD y5.1.f_Src 2 0), .int .u8 (List.getD y5.1.f_Src 3 0), .int .u8 (List.getD y5.1.f_Dst 0 0), .int .u8 (List.getD y5.1.f_Dst 1 0), .int .u8 (List.getD y5.1.f_Dst 2 0), .int .u8 (List.getD y5.1.f_Dst 3 0), .slice A9 (y5.1.f_Options).length c10]) (cs' := [.int .u8 y5.1.f_TOS, .int .u16 y5.1.f_Total, .int .u16 y5.1.f_ID, .bool y5.1.f_DF, .bool y5.1.f_MF, .int .u16 y5.1.f_Frag, .int .u8 y5.1.f_TTL, .int .u8 y5.1.f_Proto, .int .u8 (List.getD y5.1.f_Src 0 0), .int .u8 (List.getD y5.1.f_Src 1 0), .int .u8 (List.getD y5.1.f_Src 2 0), .int .u8 (List.getD y5.1.f_Src 3 0), .int .u8 (List.getD y5.1.f_Dst 0 0), .int .u8 (List.getD y5.1.f_Dst 1 0), .int .u8 (List.getD y5.1.f_Dst 2 0), .int .u8 (List.getD y5.1.f_Dst 3 0), .slice A9 (y5.1.f_Options).length c10]) hM rfl sz39 rfl (adds_eq [] rfl) rfl rfl (One.all rfl) rfl rfl) fun w15 hM1 => ?_
  clear hM
  have hM := hM1
  clear hM1
  refine RL.val (O.assign rfl) rfl ?_
  refine RL.val (O.assign rfl) rfl ?_
  refine RL.nil ?_
  refine KQ.then_n ?_
  refine KC.seq ?_
  refine KC.block ?_
  refine KC.seq ?_
  refine KC.region ?_
  refine RL.val (O.move rfl) rfl ?_
  refine RL.val (O.neq rfl rfl) rfl ?_
  refine RL.val (O.assign rfl) rfl ?_
  refine RL.nil ?_
  refine KQ.then_n ?_
  refine KC.cond rfl (fun hc => ?_) (fun hc => ?_)
  · rw [if_pos hc] at hF
    refine KC.seq ?_
    refine KC.region ?_
    refine RL.val (O.move rfl) rfl ?_
    refine RL.val (O.assign rfl) rfl ?_
    refine RL.val (O.assign rfl) rfl ?_
    refine RL.nil ?_
    refine KQ.then_n ?_
    refine KC.ret ?_
    refine KQ.blk_r ?_
    refine KQ.then_r ?_
    have hE := Option.some.inj hF
    clear hF
    subst hE
    replace hM := hM.nilrow 5 1
    replace hM := hM.pick [2] rfl (by decide)
    refine KQ.rets Try.results21 (RVs.cons (RV.tm rfl) (RVs.cons (RV.tm rfl) RVs.nil)) ?_
    exact ⟨_, rfl, none, 0, rfl, hM⟩
  · rw [if_neg (ne_true hc)] at hF
    refine KC.seq ?_
    refine KC.region ?_
    refine RL.val (O.fldA fl39_6 (by decide) rfl) rfl ?_
    refine RL.val (O.load sc5 rfl (Cs.adds [6] ((hM.bx (i := 1) rfl)) rfl)) rfl ?_
    refine RL.val (O.eql rfl rfl) rfl ?_
    refine RL.val (O.assign rfl) rfl ?_
    refine RL.nil ?_
    refine KQ.then_n ?_
    replace hM := hM.pick [] rfl (by decide)
    refine KC.cond rfl (fun hc => ?_) (fun hc => ?_)
    · rw [if_pos hc] at hF
      refine KC.seq ?_
      refine KC.region ?_
      refine RL.val (O.assign rfl) rfl ?_
      refine RL.val (O.assign rfl) rfl ?_
      refine RL.nil ?_
      refine KQ.then_n ?_
      refine KC.ret ?_
      refine KQ.blk_r ?_
      refine KQ.then_r ?_
      have hE := Option.some.inj hF
      clear hF
      subst hE
      replace hM := hM.nilrow 5 1
      refine KQ.rets Try.results21 (RVs.cons (RV.tm rfl) (RVs.cons (RV.tm rfl) RVs.nil)) ?_
      exact ⟨_, rfl, none, 0, rfl, hM⟩
    · rw [if_neg (ne_true hc)] at hF
      refine KC.skip ?_
      refine KQ.blk_n ?_
      refine KQ.then_n ?_
      refine KC.seq ?_
      refine KC.region ?_
      refine RL.val (O.move rfl) rfl ?_
      refine obindE hF fun y16 hx17 hF => ?_
      refine RL.call Try.func40 bd40 rfl rfl (c_slices_Clone_byte_byte _ _ _ b1 (hM.inp hr4 Off.nil) _ hx17) fun v w18 hv => ?_
      obtain ⟨A20, c21, rfl, hN19⟩ := hv
      replace hM := hM.call hN19
      refine RL.val (O.assign rfl) rfl ?_
      refine RL.nil ?_
      refine KQ.then_n ?_
      refine KC.seq ?_
      refine KC.region ?_
      refine RL.val (O.move rfl) rfl ?_
      refine obindE hF fun xv25 hx24 hF => ?_
      have hA23 := Rd.atN (f := (eI .u8)) (s := 1) (fun _ => rfl) (by decide) (hM.rd (i := 0) rfl) hx24
      refine RL.val (O.idxA sl22 (hA23) rfl rfl) rfl ?_
      refine RL.val (O.load sc5 rfl (hA23).cells.at0) rfl ?_
      refine RL.val (O.sub rfl rfl) rfl ?_
      refine obindE hF fun xv28 hx27 hF => ?_
      have hA26 := Rd.atN (f := (eI .u8)) (s := 1) (fun _ => rfl) (by decide) (hM.rd (i := 0) rfl) hx27
      refine RL.val (O.idxA sl22 (hA26) rfl rfl) rfl ?_
      refine RL.effs (E.stR (enc := (eI .u8)) (j := 0) (off := 0) (vs := [.int .u8 (IntKind.u8.wrap (xv25 - 1))]) (x' := (IntKind.u8.wrap (xv25 - 1))) hM rfl (fun _ => rfl) hx27 sz5 rfl (addsR_eq [] rfl) rfl rfl (One.all rfl) rfl rfl) fun w29 hM1 => ?_
      clear hM
      obtain ⟨hM, hn30⟩ := hM1
      refine RL.reslot (t := 7) rfl hn30 ?_
      refine RL.reslot (t := 25) rfl hn30 ?_
      refine RL.nil ?_
      refine KQ.then_n ?_
      refine KC.seq ?_
      refine KC.region ?_
      refine RL.val (O.move rfl) rfl ?_
      refine obindE hF fun y31 hx32 hF => ?_
      refine RL.call Try.func39 bd39 rfl rfl (c_ip_word _ _ _ b1 (hM.inp hr4 Off.nil) 10 _ hx32) fun v w33 hv => ?_
      obtain ⟨rfl, hN34⟩ := hv
      replace hM := hM.call0 hN34
      refine RL.val (O.move rfl) rfl ?_
      refine obindE hF fun y35 hx36 hF => ?_
      refine RL.call Try.func39 bd39 rfl rfl (c_ip_word _ _ _ b1 (hM.inp hr4 Off.nil) 8 _ hx36) fun v w37 hv => ?_
      obtain ⟨rfl, hN38⟩ := hv
      replace hM := hM.call0 hN38
      refine RL.val (O.move rfl) rfl ?_
      refine obindE hF fun y39 hx40 hF => ?_
      refine RL.call Try.func39 bd39 rfl rfl (c_ip_word _ _ _ (y16.set (8 : Int).toNat (IntKind.u8.wrap (xv25 - 1))) (hM.rd (i := 0) rfl) 8 _ hx40) fun v w41 hv => ?_
      obtain ⟨rfl, hN42⟩ := hv
      replace hM := hM.call0 hN42
      refine obindE hF fun y43 hx44 hF => ?_
      refine RL.call Try.func42 bd42 rfl rfl (c_sum_Change _ y31 y35 y39 _ hx44) fun v w45 hv => ?_
      obtain ⟨rfl, hN46⟩ := hv
      replace hM := hM.call0 hN46
      refine RL.val (O.assign rfl) rfl ?_
      refine RL.nil ?_
      refine KQ.then_n ?_
      refine KC.seq ?_
      refine KC.region ?_
      refine RL.val (O.move rfl) rfl ?_
      refine RL.val (O.move rfl) rfl ?_
      refine RL.val (O.move rfl) rfl ?_
      refine RL.val (O.shr rfl rfl (by decide)) rfl ?_
      refine RL.val (O.conv un36 Try.underlying5 rfl) rfl ?_
      refine RL.val (O.move rfl) rfl ?_
      refine RL.val (O.conv un36 Try.underlying5 rfl) rfl ?_
      refine obindE hF fun xv49 hx48 hF => ?_
      have hA47 := Rd.atN (f := (eI .u8)) (s := 1) (fun _ => rfl) (by decide) (hM.rd (i := 0) rfl) hx48
      refine RL.val (O.idxA sl22 (hA47) rfl rfl) rfl ?_
      refine RL.effs (E.stR (enc := (eI .u8)) (j := 0) (off := 0) (vs := [.int .u8 (IntKind.u8.wrap (Ox.shr .u16 y43 8))]) (x' := (IntKind.u8.wrap (Ox.shr .u16 y43 8))) hM rfl (fun _ => rfl) hx48 sz5 rfl (addsR_eq [] rfl) rfl rfl (One.all rfl) rfl rfl) fun w50 hM1 => ?_
      clear hM
      obtain ⟨hM, hn51⟩ := hM1
      refine RL.reslot (t := 7) rfl hn51 ?_
      refine RL.reslot (t := 37) rfl hn51 ?_
      refine RL.reslot (t := 38) rfl hn51 ?_
      refine obindE hF fun xv54 hx53 hF => ?_
      have hA52 := Rd.atN (f := (eI .u8)) (s := 1) (fun _ => rfl) (by decide) (hM.rd (i := 0) rfl) hx53
      refine RL.val (O.idxA sl22 (hA52) rfl rfl) rfl ?_
      refine RL.effs (E.stR (enc := (eI .u8)) (j := 0) (off := 0) (vs := [.int .u8 (IntKind.u8.wrap y43)]) (x' := (IntKind.u8.wrap y43)) hM rfl (fun _ => rfl) hx53 sz5 rfl (addsR_eq [] rfl) rfl rfl (One.all rfl) rfl rfl) fun w55 hM1 => ?_
      clear hM
      obtain ⟨hM, hn56⟩ := hM1
      refine RL.reslot (t := 7) rfl hn56 ?_
      refine RL.reslot (t := 37) rfl hn56 ?_
      refine RL.reslot (t := 38) rfl hn56 ?_
      refine RL.nil ?_
      refine KQ.then_n ?_
      refine KC.seq ?_
      refine KC.region ?_
      refine RL.val (O.move rfl) rfl ?_
      refine RL.val (O.assign rfl) rfl ?_
      refine RL.val (O.assign rfl) rfl ?_
      refine RL.nil ?_
      refine KQ.then_n ?_
      refine KC.ret ?_
      have hE := Option.some.inj hF
      clear hF
      subst hE
      refine KQ.rets Try.results21 (RVs.cons (RV.tm rfl) (RVs.cons (RV.tm rfl) RVs.nil)) ?_
      exact ⟨_, rfl, A20, c21, rfl, hM⟩
end Go.Proofs.Ytjfdfjmnajjjaaa
