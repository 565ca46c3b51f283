/- Printed by a program of this claim: each call returns what the plain function of its name gives. -/
import Derived.Test.YtjfdfjmnajjjaaaW1
import Derived.Test.YtjfdfjmnajjjaaaW2
import Derived.Test.YtjfdfjmnajjjaaaW4
import Derived.Test.YtjfdfjmnajjjaaaW5
set_option linter.unusedVariables false
namespace Go.Proofs.Ytjfdfjmnajjjaaa
open Go Go.Ox Go.RowKit
set_option maxRecDepth 100000 in
set_option maxHeartbeats 40000000 in
theorem c_sum_Change (w : World) (sum1 : Int) (fromv2 : Int) (tov3 : Int) (r : Int) (hF : F_sum_Change sum1 fromv2 tov3 = some r) :
    CallsR Try.prog 42 [.int .u16 sum1, .int .u16 fromv2, .int .u16 tov3] w (fun v w' => v = .int .u16 r ∧ Mem w [] w' []) := by
  refine calls_KC Try.func42 rfl Try.ntmps42 rfl ?_
  have hM := Mem.init w
  unfold F_sum_Change at hF
  refine KC.seqH fun Q4 hQ4 => ?_
  refine KC.region ?_
  refine RL.val (O.assign rfl) rfl ?_
  refine RL.nil ?_
  refine KQ.thn hQ4 ?_
  clear hQ4 Q4
  refine KC.seqH fun Q5 hQ5 => ?_
  refine KC.region ?_
  refine RL.val (O.move rfl) rfl ?_
  refine RL.val (O.sub rfl rfl) rfl ?_
  refine RL.val (O.conv un36 Try.underlying70 rfl) rfl ?_
  refine RL.val (O.move rfl) rfl ?_
  refine RL.val (O.sub rfl rfl) rfl ?_
  refine RL.val (O.conv un36 Try.underlying70 rfl) rfl ?_
  refine RL.val (O.add rfl rfl) rfl ?_
  refine RL.val (O.move rfl) rfl ?_
  refine RL.val (O.conv un36 Try.underlying70 rfl) rfl ?_
  refine RL.val (O.add rfl rfl) rfl ?_
  refine obindE hF fun y6 hx7 hF => ?_
  refine RL.call Try.func58 bd58 rfl rfl (c_sum_fold _ (IntKind.u64.wrap ((IntKind.u64.wrap ((IntKind.u64.wrap (IntKind.u16.wrap (65535 - sum1))) + (IntKind.u64.wrap (IntKind.u16.wrap (65535 - fromv2))))) + (IntKind.u64.wrap tov3))) _ hx7) fun v w8 hv => ?_
  obtain ⟨rfl, hN9⟩ := hv
  replace hM := hM.call0 hN9
  refine RL.val (O.sub rfl rfl) rfl ?_
  refine RL.val (O.assign rfl) rfl ?_
  refine RL.nil ?_
  refine KQ.thn hQ5 ?_
  clear hQ5 Q5
  refine KC.ret ?_
  have hE := Option.some.inj hF
  clear hF
  subst hE
  refine KQ.rets Try.results42 (RVs.cons (RV.tm rfl) RVs.nil) ?_
  exact ⟨_, rfl, rfl, hM⟩
set_option maxRecDepth 100000 in
set_option maxHeartbeats 40000000 in
theorem c_ip_Hop (w : World) (A2 : Option Addr) (c3 : Nat) (b1 : List Int) (hr4 : Rd w A2 c3 1 b1.length (b1.flatMap (eI .u8))) (r : (List Int) × Int) (hF : F_ip_Hop b1 = some r) :
    CallsR Try.prog 21 [.slice A2 (b1).length c3] w (fun v w' => ∃ (A0 : Option Addr) (c0 : Nat), v = .tuple #[.slice A0 (r.1).length c0, .int .i64 r.2] ∧ Mem w [] w' [.row A0 c0 5 1 r.1.length (r.1.flatMap (eI .u8))]) := by
  refine calls_KC Try.func21 rfl Try.ntmps21 rfl ?_
  have hM := Mem.init w
  unfold F_ip_Hop at hF
  refine KC.seqH fun Q5 hQ5 => ?_
  refine KC.region ?_
  refine RL.val (O.assign rfl) rfl ?_
  refine RL.val (O.assign rfl) rfl ?_
  refine RL.nil ?_
  refine KQ.thn hQ5 ?_
  clear hQ5 Q5
  refine KC.seqH fun Q6 hQ6 => ?_
  refine KC.region ?_
  refine RL.val (O.move rfl) rfl ?_
  refine obindE hF fun y7 hx8 hF => ?_
  refine RL.call Try.func19 bd19 rfl rfl (c_ip_Parse _ _ _ b1 (hM.inp hr4 Off.nil) _ hx8) fun v w9 hv => ?_
  obtain ⟨A11, c12, rfl, hN10⟩ := hv
  replace hM := hM.call hN10
  refine RL.val (O.move rfl) rfl ?_
  refine RL.val (O.ext rfl rfl) rfl ?_
  refine RL.val (O.ext rfl rfl) rfl ?_
  refine RL.val (O.ext rfl rfl) rfl ?_
  refine RL.eff (E.alloc hM ze39) rfl fun v w15 hv => ?_
  clear hM
  obtain ⟨g14, rfl, hM, hf⟩ := hv
  refine RL.effs (E.stB (j := 1) (off := 0) (vs := [.int .u8 y7.1.f_TOS, .int .u16 y7.1.f_Total, .int .u16 y7.1.f_ID, .bool y7.1.f_DF, .bool y7.1.f_MF, .int .u16 y7.1.f_Frag, .int .u8 y7.1.f_TTL, .int .u8 y7.1.f_Proto, .int .u8 (List.getD y7.1.f_Src 0 0), .int .u8 (List.getD y7.1.f_Src 1 0), .int .u8 (List.getD y7.1.f_Src 2 0), .int .u8 (List.getD y7.1.f_Src 3 0), .int .u8 (List.getD y7.1.f_Dst 0 0), .int .u8 (List.getD y7.1.f_Dst 1 0), .int .u8 (List.getD y7.1.f_Dst 2 0), .int .u8 (List.getD y7.1.f_Dst 3 0), .slice A11 (y7.1.f_Options).length c12]) (cs' := [.int .u8 y7.1.f_TOS, .int .u16 y7.1.f_Total, .int .u16 y7.1.f_ID, .bool y7.1.f_DF, .bool y7.1.f_MF, .int .u16 y7.1.f_Frag, .int .u8 y7.1.f_TTL, .int .u8 y7.1.f_Proto, .int .u8 (List.getD y7.1.f_Src 0 0), .int .u8 (List.getD y7.1.f_Src 1 0), .int .u8 (List.getD y7.1.f_Src 2 0), .int .u8 (List.getD y7.1.f_Src 3 0), .int .u8 (List.getD y7.1.f_Dst 0 0), .int .u8 (List.getD y7.1.f_Dst 1 0), .int .u8 (List.getD y7.1.f_Dst 2 0), .int .u8 (List.getD y7.1.f_Dst 3 0), .slice A11 (y7.1.f_Options).length c12]) hM rfl sz39 rfl (adds_eq [] rfl) rfl rfl (One.all rfl) rfl rfl) fun w17 hM1 => ?_
  clear hM
  have hM := hM1
  clear hM1
  refine RL.val (O.assign rfl) rfl ?_
  refine RL.val (O.assign rfl) rfl ?_
  refine RL.nil ?_
  refine KQ.thn hQ6 ?_
  clear hQ6 Q6
  refine KC.seqH fun Q18 hQ18 => ?_
  refine KC.block ?_
  refine KC.seqH fun Q19 hQ19 => ?_
  refine KC.region ?_
  refine RL.val (O.move rfl) rfl ?_
  refine RL.val (O.neq rfl rfl) rfl ?_
  refine RL.val (O.assign rfl) rfl ?_
  refine RL.nil ?_
  refine KQ.thn hQ19 ?_
  clear hQ19 Q19
  refine KC.cond rfl (fun hc => ?_) (fun hc => ?_)
  · rw [if_pos hc] at hF
    refine KC.seqH fun Q20 hQ20 => ?_
    refine KC.region ?_
    refine RL.val (O.move rfl) rfl ?_
    refine RL.val (O.assign rfl) rfl ?_
    refine RL.val (O.assign rfl) rfl ?_
    refine RL.nil ?_
    refine KQ.thn hQ20 ?_
    clear hQ20 Q20
    refine KC.ret ?_
    refine KQ.blk_r ?_
    refine KQ.thr hQ18 ?_
    clear hQ18 Q18
    have hE := Option.some.inj hF
    clear hF
    subst hE
    replace hM := hM.nilrow 5 1
    replace hM := hM.pick [2] rfl (by decide)
    refine KQ.rets Try.results21 (RVs.cons (RV.tm rfl) (RVs.cons (RV.tm rfl) RVs.nil)) ?_
    exact ⟨_, rfl, none, 0, rfl, hM⟩
  · rw [if_neg (ne_true hc)] at hF
    refine KC.seqH fun Q21 hQ21 => ?_
    refine KC.region ?_
    refine RL.val (O.fldA fl39_6 (by decide) rfl) rfl ?_
    refine RL.val (O.load sc5 rfl (Cs.adds [6] ((hM.bx (i := 1) rfl)) rfl)) rfl ?_
    refine RL.val (O.eql rfl rfl) rfl ?_
    refine RL.val (O.assign rfl) rfl ?_
    refine RL.nil ?_
    refine KQ.thn hQ21 ?_
    clear hQ21 Q21
    replace hM := hM.pick [] rfl (by decide)
    refine KC.cond rfl (fun hc => ?_) (fun hc => ?_)
    · rw [if_pos hc] at hF
      refine KC.seqH fun Q22 hQ22 => ?_
      refine KC.region ?_
      refine RL.val (O.assign rfl) rfl ?_
      refine RL.val (O.assign rfl) rfl ?_
      refine RL.nil ?_
      refine KQ.thn hQ22 ?_
      clear hQ22 Q22
      refine KC.ret ?_
      refine KQ.blk_r ?_
      refine KQ.thr hQ18 ?_
      clear hQ18 Q18
      have hE := Option.some.inj hF
      clear hF
      subst hE
      replace hM := hM.nilrow 5 1
      refine KQ.rets Try.results21 (RVs.cons (RV.tm rfl) (RVs.cons (RV.tm rfl) RVs.nil)) ?_
      exact ⟨_, rfl, none, 0, rfl, hM⟩
    · rw [if_neg (ne_true hc)] at hF
      refine KC.skip ?_
      refine KQ.blk_n ?_
      refine KQ.thn hQ18 ?_
      clear hQ18 Q18
      refine KC.seqH fun Q23 hQ23 => ?_
      refine KC.region ?_
      refine RL.val (O.move rfl) rfl ?_
      refine obindE hF fun y24 hx25 hF => ?_
      refine RL.call Try.func40 bd40 rfl rfl (c_slices_Clone_byte_byte _ _ _ b1 (hM.inp hr4 Off.nil) _ hx25) fun v w26 hv => ?_
      obtain ⟨A28, c29, rfl, hN27⟩ := hv
      replace hM := hM.call hN27
      refine RL.val (O.assign rfl) rfl ?_
      refine RL.nil ?_
      refine KQ.thn hQ23 ?_
      clear hQ23 Q23
      refine KC.seqH fun Q31 hQ31 => ?_
      refine KC.region ?_
      refine RL.val (O.move rfl) rfl ?_
      refine obindE hF fun xv34 hx33 hF => ?_
      have hA32 := Rd.atN (f := (eI .u8)) (s := 1) (fun _ => rfl) (by decide) (hM.rd (i := 0) rfl) hx33
      refine RL.val (O.idxA sl22 (hA32) rfl rfl) rfl ?_
      refine RL.val (O.load sc5 rfl (hA32).cells.at0) rfl ?_
      refine RL.val (O.sub rfl rfl) rfl ?_
      refine obindE hF fun xv37 hx36 hF => ?_
      have hA35 := Rd.atN (f := (eI .u8)) (s := 1) (fun _ => rfl) (by decide) (hM.rd (i := 0) rfl) hx36
      refine RL.val (O.idxA sl22 (hA35) rfl rfl) rfl ?_
      refine RL.effs (E.stR (enc := (eI .u8)) (j := 0) (off := 0) (vs := [.int .u8 (IntKind.u8.wrap (xv34 - 1))]) (x' := (IntKind.u8.wrap (xv34 - 1))) hM rfl (fun _ => rfl) hx36 sz5 rfl (addsR_eq [] rfl) rfl rfl (One.all rfl) rfl rfl) fun w38 hM1 => ?_
      clear hM
      obtain ⟨hM, hn39⟩ := hM1
      refine RL.reslot (t := 7) rfl hn39 ?_
      refine RL.reslot (t := 25) rfl hn39 ?_
      refine RL.nil ?_
      refine KQ.thn hQ31 ?_
      clear hQ31 Q31
      refine KC.seqH fun Q40 hQ40 => ?_
      refine KC.region ?_
      refine RL.val (O.move rfl) rfl ?_
      refine obindE hF fun y41 hx42 hF => ?_
      refine RL.call Try.func39 bd39 rfl rfl (c_ip_word _ _ _ b1 (hM.inp hr4 Off.nil) 10 _ hx42) fun v w43 hv => ?_
      obtain ⟨rfl, hN44⟩ := hv
      replace hM := hM.call0 hN44
      refine RL.val (O.move rfl) rfl ?_
      refine obindE hF fun y45 hx46 hF => ?_
      refine RL.call Try.func39 bd39 rfl rfl (c_ip_word _ _ _ b1 (hM.inp hr4 Off.nil) 8 _ hx46) fun v w47 hv => ?_
      obtain ⟨rfl, hN48⟩ := hv
      replace hM := hM.call0 hN48
      refine RL.val (O.move rfl) rfl ?_
      refine obindE hF fun y49 hx50 hF => ?_
      refine RL.call Try.func39 bd39 rfl rfl (c_ip_word _ _ _ (y24.set (8 : Int).toNat (IntKind.u8.wrap (xv34 - 1))) (hM.rd (i := 0) rfl) 8 _ hx50) fun v w51 hv => ?_
      obtain ⟨rfl, hN52⟩ := hv
      replace hM := hM.call0 hN52
      refine obindE hF fun y53 hx54 hF => ?_
      refine RL.call Try.func42 bd42 rfl rfl (c_sum_Change _ y41 y45 y49 _ hx54) fun v w55 hv => ?_
      obtain ⟨rfl, hN56⟩ := hv
      replace hM := hM.call0 hN56
      refine RL.val (O.assign rfl) rfl ?_
      refine RL.nil ?_
      refine KQ.thn hQ40 ?_
      clear hQ40 Q40
      refine KC.seqH fun Q57 hQ57 => ?_
      refine KC.region ?_
      refine RL.val (O.move rfl) rfl ?_
      refine RL.val (O.move rfl) rfl ?_
      refine RL.val (O.move rfl) rfl ?_
      refine RL.val (O.shr rfl rfl (by decide)) rfl ?_
      refine RL.val (O.conv un36 Try.underlying5 rfl) rfl ?_
      refine RL.val (O.move rfl) rfl ?_
      refine RL.val (O.conv un36 Try.underlying5 rfl) rfl ?_
      refine obindE hF fun xv60 hx59 hF => ?_
      have hA58 := Rd.atN (f := (eI .u8)) (s := 1) (fun _ => rfl) (by decide) (hM.rd (i := 0) rfl) hx59
      refine RL.val (O.idxA sl22 (hA58) rfl rfl) rfl ?_
      refine RL.effs (E.stR (enc := (eI .u8)) (j := 0) (off := 0) (vs := [.int .u8 (IntKind.u8.wrap (Ox.shr .u16 y53 8))]) (x' := (IntKind.u8.wrap (Ox.shr .u16 y53 8))) hM rfl (fun _ => rfl) hx59 sz5 rfl (addsR_eq [] rfl) rfl rfl (One.all rfl) rfl rfl) fun w61 hM1 => ?_
      clear hM
      obtain ⟨hM, hn62⟩ := hM1
      refine RL.reslot (t := 7) rfl hn62 ?_
      refine RL.reslot (t := 37) rfl hn62 ?_
      refine RL.reslot (t := 38) rfl hn62 ?_
      refine obindE hF fun xv65 hx64 hF => ?_
      have hA63 := Rd.atN (f := (eI .u8)) (s := 1) (fun _ => rfl) (by decide) (hM.rd (i := 0) rfl) hx64
      refine RL.val (O.idxA sl22 (hA63) rfl rfl) rfl ?_
      refine RL.effs (E.stR (enc := (eI .u8)) (j := 0) (off := 0) (vs := [.int .u8 (IntKind.u8.wrap y53)]) (x' := (IntKind.u8.wrap y53)) hM rfl (fun _ => rfl) hx64 sz5 rfl (addsR_eq [] rfl) rfl rfl (One.all rfl) rfl rfl) fun w66 hM1 => ?_
      clear hM
      obtain ⟨hM, hn67⟩ := hM1
      refine RL.reslot (t := 7) rfl hn67 ?_
      refine RL.reslot (t := 37) rfl hn67 ?_
      refine RL.reslot (t := 38) rfl hn67 ?_
      refine RL.nil ?_
      refine KQ.thn hQ57 ?_
      clear hQ57 Q57
      refine KC.seqH fun Q68 hQ68 => ?_
      refine KC.region ?_
      refine RL.val (O.move rfl) rfl ?_
      refine RL.val (O.assign rfl) rfl ?_
      refine RL.val (O.assign rfl) rfl ?_
      refine RL.nil ?_
      refine KQ.thn hQ68 ?_
      clear hQ68 Q68
      refine KC.ret ?_
      have hE := Option.some.inj hF
      clear hF
      subst hE
      refine KQ.rets Try.results21 (RVs.cons (RV.tm rfl) (RVs.cons (RV.tm rfl) RVs.nil)) ?_
      exact ⟨_, rfl, A28, c29, rfl, hM⟩
end Go.Proofs.Ytjfdfjmnajjjaaa
