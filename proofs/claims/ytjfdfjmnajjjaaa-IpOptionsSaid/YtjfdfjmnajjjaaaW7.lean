/- Printed by a program of this claim: each call returns what the plain function of its name gives. -/
import Derived.Test.YtjfdfjmnajjjaaaW6
set_option linter.unusedVariables false
namespace Go.Proofs.Ytjfdfjmnajjjaaa
open Go Go.Ox Go.RowKit
set_option maxRecDepth 100000 in
set_option maxHeartbeats 40000000 in
theorem c_ref03_Words (w : World) (A2 : Option Addr) (c3 : Nat) (b1 : List Int) (hr4 : Rd w A2 c3 1 b1.length (b1.flatMap (eI .u8))) (r : (List Int)) (hF : F_ref03_Words b1 = some r) :
    CallsR Try.prog 60 [.slice A2 (b1).length c3] w (fun v w' => ∃ (A0 : Option Addr) (c0 : Nat), v = .slice A0 (r).length c0 ∧ Mem w [] w' [.row A0 c0 70 1 r.length (r.flatMap (eI .u64))]) := by
  refine calls_KC Try.func60 rfl Try.ntmps60 rfl ?_
  have hM := Mem.init w
  unfold F_ref03_Words at hF
  refine KC.seq ?_
  refine KC.region ?_
  refine RL.val (O.assign rfl) rfl ?_
  refine RL.nil ?_
  refine KQ.then_n ?_
  refine KC.seq ?_
  refine KC.region ?_
  refine RL.val (O.assign rfl) rfl ?_
  refine RL.nil ?_
  refine KQ.then_n ?_
  refine KC.seq ?_
  refine KC.seq ?_
  refine KC.region ?_
  refine RL.val (O.assign rfl) rfl ?_
  refine RL.nil ?_
  refine KQ.then_n ?_
  refine KC.block ?_
  refine KC.loop (fun k50 a w48 => ∃ (A44 : Option Addr) (c45 : Nat) (out46 : List Int) (i47 : Int), Kn 36 [(0, .slice A2 (b1).length c3), (3, .slice A44 (out46).length c45), (4, .int .i64 i47)] a ∧ Mem w [] w48 [.row A44 c45 70 1 (out46).length ((out46).flatMap (eI .u64))] ∧ F_ref03_Words_L1 b1 k50 out46 i47 = some r) ?_ ?_
  · replace hM := hM.nilrow 70 1
    exact fun a ha => ⟨fuel0, none, 0, ([]), 0, ha.less (less_cons rfl (less_cons rfl (less_cons rfl less_nil))), hM, hF⟩
  · rintro k50 a w48 ⟨A44, c45, out46, i47, ha, hM, hF⟩
    refine KC.app ha ?_
    clear ha
    cases k50 with
    | zero => exact (none_some hF).elim
    | succ k50 =>
    have hF : F_ref03_Words_l1 (F_ref03_Words_L1 b1 k50) b1 out46 i47 = some r := hF
    unfold F_ref03_Words_l1 at hF
    refine KC.seq ?_
    refine KC.seq ?_
    refine KC.region ?_
    refine RL.val (O.move rfl) rfl ?_
    refine RL.val (O.move rfl) rfl ?_
    refine RL.val (O.len sl22 rfl) rfl ?_
    refine RL.val (O.lss rfl rfl) rfl ?_
    refine RL.nil ?_
    refine KQ.then_n ?_
    refine KC.cond rfl (fun hc => ?_) (fun hc => ?_)
    · rw [if_pos hc] at hF
      refine KC.skip ?_
      refine KQ.then_n ?_
      refine KC.seq ?_
      refine KC.block ?_
      refine KC.seq ?_
      refine KC.region ?_
      refine RL.val (O.move rfl) rfl ?_
      refine RL.val (O.move rfl) rfl ?_
      refine obindE hF fun xv53 hx52 hF => ?_
      have hA51 := Rd.atN (f := (eI .u8)) (s := 1) (fun _ => rfl) (by decide) (hM.inp hr4 Off.nil) hx52
      refine RL.val (O.idxA sl22 (hA51) rfl rfl) rfl ?_
      refine RL.val (O.load sc5 rfl (hA51).cells.at0) rfl ?_
      refine RL.val (O.conv un5 Try.underlying70 rfl) rfl ?_
      refine RL.val (O.mul rfl rfl) rfl ?_
      refine RL.val (O.assign rfl) rfl ?_
      refine RL.nil ?_
      refine KQ.then_n ?_
      refine KC.cut (fun a w59 => ∃ (nv58 : Int), Kn 36 [(0, .slice A2 (b1).length c3), (3, .slice A44 (out46).length c45), (4, .int .i64 i47), (5, .int .u64 nv58)] a ∧ Mem w [] w59 [.row A44 c45 70 1 (out46).length ((out46).flatMap (eI .u64))] ∧ F_ref03_Words_j1 out46 i47 (F_ref03_Words_L1 b1 k50) nv58 = some r) ?_ ?_
      · refine KC.seq ?_
        refine KC.region ?_
        refine RL.val (O.move rfl) rfl ?_
        refine RL.val (O.add rfl rfl) rfl ?_
        refine RL.val (O.move rfl) rfl ?_
        refine RL.val (O.len sl22 rfl) rfl ?_
        refine RL.val (O.lss rfl rfl) rfl ?_
        refine RL.nil ?_
        refine KQ.then_n ?_
        refine KC.cond rfl (fun hc => ?_) (fun hc => ?_)
        · rw [if_pos hc] at hF
          refine KC.region ?_
          refine RL.val (O.move rfl) rfl ?_
          refine RL.val (O.move rfl) rfl ?_
          refine RL.val (O.move rfl) rfl ?_
          refine RL.val (O.add rfl rfl) rfl ?_
          refine obindE hF fun xv56 hx55 hF => ?_
          have hA54 := Rd.atN (f := (eI .u8)) (s := 1) (fun _ => rfl) (by decide) (hM.inp hr4 Off.nil) hx55
          refine RL.val (O.idxA sl22 (hA54) rfl rfl) rfl ?_
          refine RL.val (O.load sc5 rfl (hA54).cells.at0) rfl ?_
          refine RL.val (O.conv un5 Try.underlying70 rfl) rfl ?_
          refine RL.val (O.add rfl rfl) rfl ?_
          refine RL.val (O.assign rfl) rfl ?_
          refine RL.nil ?_
          refine KQ.then_k ?_
          exact fun a ha => ⟨(IntKind.u64.wrap ((IntKind.u64.wrap ((IntKind.u64.wrap xv53) * 256)) + (IntKind.u64.wrap xv56))), ha.less (less_cons rfl (less_cons rfl (less_cons rfl (less_cons rfl less_nil)))), hM, hF⟩
        · rw [if_neg (ne_true hc)] at hF
          refine KC.skip ?_
          refine KQ.then_k ?_
          exact fun a ha => ⟨(IntKind.u64.wrap ((IntKind.u64.wrap xv53) * 256)), ha.less (less_cons rfl (less_cons rfl (less_cons rfl (less_cons rfl less_nil)))), hM, hF⟩
      · rintro a w59 ⟨nv58, ha, hM, hF⟩
        refine KC.app ha ?_
        clear ha
        unfold F_ref03_Words_j1 at hF
        refine KC.region ?_
        refine RL.val (O.move rfl) rfl ?_
        refine RL.val (O.move rfl) rfl ?_
        refine RL.eff (E.bsl (enc := (eI .u64)) (xs := ([nv58] : List Int)) hM sl88 ze70 rfl rfl rfl (fun _ => rfl) rfl (by kernel_rfl) rfl) rfl fun v w60 hv => ?_
        clear hM
        obtain ⟨A61, rfl, hM, hf⟩ := hv
        refine cut_someE hF fun hq66 hF => ?_
        refine RL.eff (E.app (enc := (eI .u64)) (xs := out46) (ys := ([nv58] : List Int)) (j := 0) hM rfl sl88 ze70 rfl rfl rfl rfl rfl (hM.rd (i := 1) rfl) (fun _ => One.all rfl) (of_decide_eq_true hq66)) rfl fun v w65 hv => ?_
        clear hM
        obtain ⟨A63, c64, rfl, hM, hf⟩ := hv
        refine RL.val (O.assign rfl) rfl ?_
        refine RL.nil ?_
        refine KQ.blk_n ?_
        refine KQ.then_n ?_
        refine KC.region ?_
        refine RL.val (O.move rfl) rfl ?_
        refine RL.val (O.add rfl rfl) rfl ?_
        refine RL.val (O.assign rfl) rfl ?_
        refine RL.nil ?_
        refine KQ.then_k ?_
        replace hM := hM.pick [0] rfl (by decide)
        exact fun a ha => ⟨k50, Nat.lt_succ_self k50, A63, c64, (out46 ++ ([nv58] : List Int)), (IntKind.i64.wrap (i47 + 2)), ha.less (less_cons rfl (less_cons rfl (less_cons rfl less_nil))), hM, hF⟩
    · rw [if_neg (ne_true hc)] at hF
      refine KC.exit ?_
      refine KQ.then_x ?_
      refine KQ.then_x ?_
      refine KQ.blk_x ?_
      refine KQ.then_n ?_
      refine KC.seq ?_
      refine KC.region ?_
      refine RL.val (O.move rfl) rfl ?_
      refine RL.val (O.assign rfl) rfl ?_
      refine RL.nil ?_
      refine KQ.then_n ?_
      refine KC.ret ?_
      have hE := Option.some.inj hF
      clear hF
      subst hE
      refine KQ.rets Try.results60 (RVs.cons (RV.tm rfl) RVs.nil) ?_
      exact ⟨_, rfl, A44, c45, rfl, hM⟩
set_option maxRecDepth 100000 in
set_option maxHeartbeats 40000000 in
theorem c_ref03_Fold (w : World) (nv1 : Int) (r : Int) (hF : F_ref03_Fold nv1 = some r) :
    CallsR Try.prog 59 [.int .u64 nv1] w (fun v w' => v = .int .u64 r ∧ Mem w [] w' []) := by
  refine calls_KC Try.func59 rfl Try.ntmps59 rfl ?_
  have hM := Mem.init w
  unfold F_ref03_Fold at hF
  refine KC.seq ?_
  refine KC.region ?_
  refine RL.val (O.assign rfl) rfl ?_
  refine RL.nil ?_
  refine KQ.then_n ?_
  refine KC.seq ?_
  refine KC.block ?_
  refine KC.loop (fun k6 a w4 => ∃ (nv3 : Int), Kn 11 [(0, .int .u64 nv3)] a ∧ Mem w [] w4 [] ∧ F_ref03_Fold_L1 k6 nv3 = some r) ?_ ?_
  · exact fun a ha => ⟨fuel0, nv1, ha.less (less_cons rfl less_nil), hM, hF⟩
  · rintro k6 a w4 ⟨nv3, ha, hM, hF⟩
    refine KC.app ha ?_
    clear ha
    cases k6 with
    | zero => exact (none_some hF).elim
    | succ k6 =>
    have hF : F_ref03_Fold_l1 (F_ref03_Fold_L1 k6) nv3 = some r := hF
    unfold F_ref03_Fold_l1 at hF
    refine KC.seq ?_
    refine KC.seq ?_
    refine KC.region ?_
    refine RL.val (O.move rfl) rfl ?_
    refine RL.val (O.gtr rfl rfl) rfl ?_
    refine RL.nil ?_
    refine KQ.then_n ?_
    refine KC.cond rfl (fun hc => ?_) (fun hc => ?_)
    · rw [if_pos hc] at hF
      refine KC.skip ?_
      refine KQ.then_n ?_
      refine KC.block ?_
      refine KC.region ?_
      refine RL.val (O.move rfl) rfl ?_
      refine RL.val (O.quo rfl rfl (by decide)) rfl ?_
      refine RL.val (O.move rfl) rfl ?_
      refine RL.val (O.rem rfl rfl (by decide)) rfl ?_
      refine RL.val (O.add rfl rfl) rfl ?_
      refine RL.val (O.assign rfl) rfl ?_
      refine RL.nil ?_
      refine KQ.blk_n ?_
      refine KQ.then_k ?_
      exact fun a ha => ⟨k6, Nat.lt_succ_self k6, (IntKind.u64.wrap ((IntKind.u64.wrap (Int.tdiv nv3 65536)) + (Int.tmod nv3 65536))), ha.less (less_cons rfl less_nil), hM, hF⟩
    · rw [if_neg (ne_true hc)] at hF
      refine KC.exit ?_
      refine KQ.then_x ?_
      refine KQ.then_x ?_
      refine KQ.blk_x ?_
      refine KQ.then_n ?_
      refine KC.seq ?_
      refine KC.region ?_
      refine RL.val (O.move rfl) rfl ?_
      refine RL.val (O.assign rfl) rfl ?_
      refine RL.nil ?_
      refine KQ.then_n ?_
      refine KC.ret ?_
      have hE := Option.some.inj hF
      clear hF
      subst hE
      refine KQ.rets Try.results59 (RVs.cons (RV.tm rfl) RVs.nil) ?_
      exact ⟨_, rfl, rfl, hM⟩
set_option maxRecDepth 100000 in
set_option maxHeartbeats 40000000 in
theorem c_ref03_Sum (w : World) (A2 : Option Addr) (c3 : Nat) (b1 : List Int) (hr4 : Rd w A2 c3 1 b1.length (b1.flatMap (eI .u8))) (r : Int) (hF : F_ref03_Sum b1 = some r) :
    CallsR Try.prog 49 [.slice A2 (b1).length c3] w (fun v w' => v = .int .u64 r ∧ Mem w [] w' []) := by
  refine calls_KC Try.func49 rfl Try.ntmps49 rfl ?_
  have hM := Mem.init w
  unfold F_ref03_Sum at hF
  refine KC.seq ?_
  refine KC.region ?_
  refine RL.val (O.assign rfl) rfl ?_
  refine RL.nil ?_
  refine KQ.then_n ?_
  refine KC.seq ?_
  refine KC.region ?_
  refine RL.val (O.assign rfl) rfl ?_
  refine RL.nil ?_
  refine KQ.then_n ?_
  refine KC.seq ?_
  refine KC.region ?_
  refine RL.val (O.move rfl) rfl ?_
  refine obindE hF fun y5 hx6 hF => ?_
  refine RL.call Try.func60 bd60 rfl rfl (c_ref03_Words _ _ _ b1 (hM.inp hr4 Off.nil) _ hx6) fun v w7 hv => ?_
  obtain ⟨A9, c10, rfl, hN8⟩ := hv
  replace hM := hM.call hN8
  refine RL.val (O.assign rfl) rfl ?_
  refine RL.nil ?_
  refine KQ.then_n ?_
  refine KC.seq ?_
  refine KC.seq ?_
  refine KC.region ?_
  refine RL.val (O.assign rfl) rfl ?_
  refine RL.nil ?_
  refine KQ.then_n ?_
  refine KC.block ?_
  refine KC.loop (fun k26 a w24 => ∃ (nv21 : Int) (i23 : Int), Kn 22 [(3, .int .u64 nv21), (4, .slice A9 (y5).length c10), (5, .int .i64 i23)] a ∧ Mem w [] w24 [.row A9 c10 70 1 (y5).length ((y5).flatMap (eI .u64))] ∧ F_ref03_Sum_L1 y5 k26 nv21 i23 = some r) ?_ ?_
  · exact fun a ha => ⟨fuel0, 0, 0, ha.less (less_cons rfl (less_cons rfl (less_cons rfl less_nil))), hM, hF⟩
  · rintro k26 a w24 ⟨nv21, i23, ha, hM, hF⟩
    refine KC.app ha ?_
    clear ha
    cases k26 with
    | zero => exact (none_some hF).elim
    | succ k26 =>
    have hF : F_ref03_Sum_l1 (F_ref03_Sum_L1 y5 k26) y5 nv21 i23 = some r := hF
    unfold F_ref03_Sum_l1 at hF
    refine KC.seq ?_
    refine KC.seq ?_
    refine KC.region ?_
    refine RL.val (O.move rfl) rfl ?_
    refine RL.val (O.move rfl) rfl ?_
    refine RL.val (O.len sl88 rfl) rfl ?_
    refine RL.val (O.lss rfl rfl) rfl ?_
    refine RL.nil ?_
    refine KQ.then_n ?_
    refine KC.cond rfl (fun hc => ?_) (fun hc => ?_)
    · rw [if_pos hc] at hF
      refine KC.skip ?_
      refine KQ.then_n ?_
      refine KC.seq ?_
      refine KC.block ?_
      refine KC.region ?_
      refine RL.val (O.move rfl) rfl ?_
      refine RL.val (O.move rfl) rfl ?_
      refine RL.val (O.move rfl) rfl ?_
      refine obindE hF fun xv29 hx28 hF => ?_
      have hA27 := Rd.atN (f := (eI .u64)) (s := 1) (fun _ => rfl) (by decide) (hM.rd (i := 0) rfl) hx28
      refine RL.val (O.idxA sl88 (hA27) rfl rfl) rfl ?_
      refine RL.val (O.load sc70 rfl (hA27).cells.at0) rfl ?_
      refine RL.val (O.add rfl rfl) rfl ?_
      refine RL.val (O.assign rfl) rfl ?_
      refine RL.nil ?_
      refine KQ.blk_n ?_
      refine KQ.then_n ?_
      refine KC.region ?_
      refine RL.val (O.move rfl) rfl ?_
      refine RL.val (O.add rfl rfl) rfl ?_
      refine RL.val (O.assign rfl) rfl ?_
      refine RL.nil ?_
      refine KQ.then_k ?_
      exact fun a ha => ⟨k26, Nat.lt_succ_self k26, (IntKind.u64.wrap (nv21 + xv29)), (IntKind.i64.wrap (i23 + 1)), ha.less (less_cons rfl (less_cons rfl (less_cons rfl less_nil))), hM, hF⟩
    · rw [if_neg (ne_true hc)] at hF
      refine KC.exit ?_
      refine KQ.then_x ?_
      refine KQ.then_x ?_
      refine KQ.blk_x ?_
      refine KQ.then_n ?_
      refine KC.seq ?_
      refine KC.region ?_
      refine RL.val (O.move rfl) rfl ?_
      refine obindE hF fun y30 hx31 hF => ?_
      refine RL.call Try.func59 bd59 rfl rfl (c_ref03_Fold _ nv21 _ hx31) fun v w32 hv => ?_
      obtain ⟨rfl, hN33⟩ := hv
      replace hM := hM.call0 hN33
      refine RL.val (O.assign rfl) rfl ?_
      refine RL.nil ?_
      refine KQ.then_n ?_
      refine KC.ret ?_
      have hE := Option.some.inj hF
      clear hF
      subst hE
      replace hM := hM.pick [] rfl (by decide)
      refine KQ.rets Try.results49 (RVs.cons (RV.tm rfl) RVs.nil) ?_
      exact ⟨_, rfl, rfl, hM⟩
set_option maxRecDepth 100000 in
set_option maxHeartbeats 40000000 in
theorem c_ref03_Of (w : World) (A2 : Option Addr) (c3 : Nat) (b1 : List Int) (hr4 : Rd w A2 c3 1 b1.length (b1.flatMap (eI .u8))) (r : Int) (hF : F_ref03_Of b1 = some r) :
    CallsR Try.prog 29 [.slice A2 (b1).length c3] w (fun v w' => v = .int .u16 r ∧ Mem w [] w' []) := by
  refine calls_KC Try.func29 rfl Try.ntmps29 rfl ?_
  have hM := Mem.init w
  unfold F_ref03_Of at hF
  refine KC.seq ?_
  refine KC.region ?_
  refine RL.val (O.assign rfl) rfl ?_
  refine RL.nil ?_
  refine KQ.then_n ?_
  refine KC.seq ?_
  refine KC.region ?_
  refine RL.val (O.move rfl) rfl ?_
  refine obindE hF fun y5 hx6 hF => ?_
  refine RL.call Try.func49 bd49 rfl rfl (c_ref03_Sum _ _ _ b1 (hM.inp hr4 Off.nil) _ hx6) fun v w7 hv => ?_
  obtain ⟨rfl, hN8⟩ := hv
  replace hM := hM.call0 hN8
  refine RL.val (O.sub rfl rfl) rfl ?_
  refine RL.val (O.conv un70 Try.underlying36 rfl) rfl ?_
  refine RL.val (O.assign rfl) rfl ?_
  refine RL.nil ?_
  refine KQ.then_n ?_
  refine KC.ret ?_
  have hE := Option.some.inj hF
  clear hF
  subst hE
  refine KQ.rets Try.results29 (RVs.cons (RV.tm rfl) RVs.nil) ?_
  exact ⟨_, rfl, rfl, hM⟩
set_option maxRecDepth 100000 in
set_option maxHeartbeats 40000000 in
theorem c_ref05_Put (w : World) (h1 : T_ref05_Header) (r : (List Int) × Int) (hF : F_ref05_Put h1 = some r) :
    CallsR Try.prog 12 [.agg #[.int .u8 h1.f_TOS, .int .u16 h1.f_Total, .int .u16 h1.f_ID, .bool h1.f_DF, .bool h1.f_MF, .int .u16 h1.f_Frag, .int .u8 h1.f_TTL, .int .u8 h1.f_Proto, .string h1.f_Src, .string h1.f_Dst, .string h1.f_Options]] w (fun v w' => ∃ (A0 : Option Addr) (c0 : Nat), v = .tuple #[.slice A0 (r.1).length c0, .int .i64 r.2] ∧ Mem w [] w' [.row A0 c0 5 1 r.1.length (r.1.flatMap (eI .u8))]) := by
  refine calls_KC Try.func12 rfl Try.ntmps12 rfl ?_
  have hM := Mem.init w
  unfold F_ref05_Put at hF
  refine KC.seq ?_
  refine KC.region ?_
  refine RL.eff (E.box (vs := [.int .u8 h1.f_TOS, .int .u16 h1.f_Total, .int .u16 h1.f_ID, .bool h1.f_DF, .bool h1.f_MF, .int .u16 h1.f_Frag, .int .u8 h1.f_TTL, .int .u8 h1.f_Proto, .string h1.f_Src, .string h1.f_Dst, .string h1.f_Options]) hM rfl rfl) rfl fun v w3 hv => ?_
  clear hM
  obtain ⟨g2, rfl, hM, hf⟩ := hv
  refine RL.val (O.assign rfl) rfl ?_
  refine RL.val (O.assign rfl) rfl ?_
  refine RL.nil ?_
  refine KQ.then_n ?_
  refine KC.seq ?_
  refine KC.seq ?_
  refine KC.region ?_
  refine RL.val (O.loadN (cs := [.int .u8 h1.f_TOS, .int .u16 h1.f_Total, .int .u16 h1.f_ID, .bool h1.f_DF, .bool h1.f_MF, .int .u16 h1.f_Frag, .int .u8 h1.f_TTL, .int .u8 h1.f_Proto, .string h1.f_Src, .string h1.f_Dst, .string h1.f_Options]) ag41 rfl (Cs.addsN [] ((hM.bx (i := 0) rfl)) rfl)) rfl ?_
  refine obindE hF fun y5 hx6 hF => ?_
  refine RL.call Try.func16 bd16 rfl rfl (c_ref05_Right _ h1 _ hx6) fun v w7 hv => ?_
  obtain ⟨rfl, hN8⟩ := hv
  replace hM := hM.call0 hN8
  refine RL.val (O.not rfl) rfl ?_
  refine RL.nil ?_
  refine KQ.then_n ?_
  refine KC.cond rfl (fun hc => ?_) (fun hc => ?_)
  · rw [if_pos hc] at hF
    refine KC.seq ?_
    refine KC.region ?_
    refine RL.val (O.assign rfl) rfl ?_
    refine RL.val (O.assign rfl) rfl ?_
    refine RL.nil ?_
    refine KQ.then_n ?_
    refine KC.ret ?_
    refine KQ.then_r ?_
    have hE := Option.some.inj hF
    clear hF
    subst hE
    replace hM := hM.nilrow 5 1
    replace hM := hM.pick [1] rfl (by decide)
    refine KQ.rets Try.results12 (RVs.cons (RV.tm rfl) (RVs.cons (RV.tm rfl) RVs.nil)) ?_
    exact ⟨_, rfl, none, 0, rfl, hM⟩
  · rw [if_neg (ne_true hc)] at hF
    refine KC.skip ?_
    refine KQ.then_n ?_
    refine KC.seq ?_
    replace hM := hM.drewN 1
    refine KC.draw [] [] [2, 3, 4] [5, 6] (.ofList [0, 1, 2, 3, 4, 5, 6]) moP (by kernel_rfl) ?_
    refine RD.q rfl rfl rfl rfl (fun w' hf => O.loadN (cs := [.int .u8 h1.f_TOS, .int .u16 h1.f_Total, .int .u16 h1.f_ID, .bool h1.f_DF, .bool h1.f_MF, .int .u16 h1.f_Frag, .int .u8 h1.f_TTL, .int .u8 h1.f_Proto, .string h1.f_Src, .string h1.f_Dst, .string h1.f_Options]) ag41 rfl (Cs.addsN [] ((hM.bx (i := 0) rfl).fut hf) rfl)) ?_
    refine RD.q rfl rfl rfl rfl (fun w' hf => O.loadN (cs := [.int .u8 h1.f_TOS, .int .u16 h1.f_Total, .int .u16 h1.f_ID, .bool h1.f_DF, .bool h1.f_MF, .int .u16 h1.f_Frag, .int .u8 h1.f_TTL, .int .u8 h1.f_Proto, .string h1.f_Src, .string h1.f_Dst, .string h1.f_Options]) ag41 rfl (Cs.addsN [] ((hM.bx (i := 0) rfl).fut hf) rfl)) ?_
    refine obindE hF fun y9 hx10 hF => ?_
    refine RD.mcall rfl rfl trivial Try.func28 bd28 rfl rfl (c_ref05_stands _ h1 0 _ hx10) fun v w11 hv => ?_
    obtain ⟨A13, c14, rfl, hN12⟩ := hv
    refine ⟨fun _ => hN12.fut, ?_⟩
    replace hM := hM.call hN12
    refine obindE hF fun y16 hx17 hF => ?_
    refine RD.mcall rfl rfl trivial Try.func29 bd29 rfl rfl (c_ref03_Of _ _ _ y9 (hM.rd (i := 1) rfl) _ hx17) fun v w18 hv => ?_
    obtain ⟨rfl, hN19⟩ := hv
    refine ⟨fun _ => hN19.fut, ?_⟩
    replace hM := hM.call0 hN19
    refine obindE hF fun y20 hx21 hF => ?_
    refine RD.mcall rfl rfl trivial Try.func28 bd28 rfl rfl (c_ref05_stands _ h1 y16 _ hx21) fun v w22 hv => ?_
    obtain ⟨A24, c25, rfl, hN23⟩ := hv
    refine ⟨fun _ => hN23.fut, ?_⟩
    replace hM := hM.call hN23
    refine RD.p rfl rfl rfl rfl (fun w' => O.assign rfl) ?_
    refine RD.p rfl rfl rfl rfl (fun w' => O.assign rfl) ?_
    refine RD.nil ?_
    refine KQ.then_n ?_
    refine KC.ret ?_
    have hE := Option.some.inj hF
    clear hF
    subst hE
    replace hM := hM.pick [2] rfl (by decide)
    refine KQ.rets Try.results12 (RVs.cons (RV.tm rfl) (RVs.cons (RV.tm rfl) RVs.nil)) ?_
    exact ⟨_, rfl, A24, c25, rfl, hM⟩
set_option maxRecDepth 100000 in
set_option maxHeartbeats 40000000 in
theorem c_bytes_Equal (w : World) (A2 : Option Addr) (c3 : Nat) (av1 : List Int) (hr4 : Rd w A2 c3 1 av1.length (av1.flatMap (eI .u8))) (A6 : Option Addr) (c7 : Nat) (b5 : List Int) (hr8 : Rd w A6 c7 1 b5.length (b5.flatMap (eI .u8))) (r : Bool) (hF : F_bytes_Equal av1 b5 = some r) :
    CallsR Try.prog 38 [.slice A2 (av1).length c3, .slice A6 (b5).length c7] w (fun v w' => v = .bool r ∧ Mem w [] w' []) := by
  refine calls_KC Try.func38 rfl Try.ntmps38 rfl ?_
  have hM := Mem.init w
  unfold F_bytes_Equal at hF
  refine KC.seq ?_
  refine KC.region ?_
  refine RL.val (O.assign rfl) rfl ?_
  refine RL.nil ?_
  refine KQ.then_n ?_
  refine KC.seq ?_
  refine KC.region ?_
  refine RL.val (O.move rfl) rfl ?_
  refine RL.val (O.b2s sl22 Try.underlying5 Try.underlying9 rfl ((hM.inp hr4 Off.nil))) rfl ?_
  refine RL.val (O.move rfl) rfl ?_
  refine RL.val (O.b2s sl22 Try.underlying5 Try.underlying9 rfl ((hM.inp hr8 Off.nil))) rfl ?_
  refine RL.val (O.streq rfl rfl) rfl ?_
  refine RL.val (O.assign rfl) rfl ?_
  refine RL.nil ?_
  refine KQ.then_n ?_
  refine KC.ret ?_
  have hE := Option.some.inj hF
  clear hF
  subst hE
  refine KQ.rets Try.results38 (RVs.cons (RV.tm rfl) RVs.nil) ?_
  exact ⟨_, rfl, rfl, hM⟩
set_option maxRecDepth 100000 in
set_option maxHeartbeats 40000000 in
theorem c_ip_Same (w : World) (av1 : T_ip_Header) (A2 : Option Addr) (c3 : Nat) (hr4 : Rd w A2 c3 1 av1.f_Options.length (av1.f_Options.flatMap (eI .u8))) (b5 : T_ip_Header) (A6 : Option Addr) (c7 : Nat) (hr8 : Rd w A6 c7 1 b5.f_Options.length (b5.f_Options.flatMap (eI .u8))) (r : Bool) (hF : F_ip_Same av1 b5 = some r) :
    CallsR Try.prog 17 [.agg #[.int .u8 av1.f_TOS, .int .u16 av1.f_Total, .int .u16 av1.f_ID, .bool av1.f_DF, .bool av1.f_MF, .int .u16 av1.f_Frag, .int .u8 av1.f_TTL, .int .u8 av1.f_Proto, .int .u8 (List.getD av1.f_Src 0 0), .int .u8 (List.getD av1.f_Src 1 0), .int .u8 (List.getD av1.f_Src 2 0), .int .u8 (List.getD av1.f_Src 3 0), .int .u8 (List.getD av1.f_Dst 0 0), .int .u8 (List.getD av1.f_Dst 1 0), .int .u8 (List.getD av1.f_Dst 2 0), .int .u8 (List.getD av1.f_Dst 3 0), .slice A2 (av1.f_Options).length c3], .agg #[.int .u8 b5.f_TOS, .int .u16 b5.f_Total, .int .u16 b5.f_ID, .bool b5.f_DF, .bool b5.f_MF, .int .u16 b5.f_Frag, .int .u8 b5.f_TTL, .int .u8 b5.f_Proto, .int .u8 (List.getD b5.f_Src 0 0), .int .u8 (List.getD b5.f_Src 1 0), .int .u8 (List.getD b5.f_Src 2 0), .int .u8 (List.getD b5.f_Src 3 0), .int .u8 (List.getD b5.f_Dst 0 0), .int .u8 (List.getD b5.f_Dst 1 0), .int .u8 (List.getD b5.f_Dst 2 0), .int .u8 (List.getD b5.f_Dst 3 0), .slice A6 (b5.f_Options).length c7]] w (fun v w' => v = .bool r ∧ Mem w [] w' []) := by
  refine calls_KC Try.func17 rfl Try.ntmps17 rfl ?_
  have hM := Mem.init w
  unfold F_ip_Same at hF
  refine KC.seq ?_
  refine KC.region ?_
  refine RL.eff (E.box (vs := [.int .u8 av1.f_TOS, .int .u16 av1.f_Total, .int .u16 av1.f_ID, .bool av1.f_DF, .bool av1.f_MF, .int .u16 av1.f_Frag, .int .u8 av1.f_TTL, .int .u8 av1.f_Proto, .int .u8 (List.getD av1.f_Src 0 0), .int .u8 (List.getD av1.f_Src 1 0), .int .u8 (List.getD av1.f_Src 2 0), .int .u8 (List.getD av1.f_Src 3 0), .int .u8 (List.getD av1.f_Dst 0 0), .int .u8 (List.getD av1.f_Dst 1 0), .int .u8 (List.getD av1.f_Dst 2 0), .int .u8 (List.getD av1.f_Dst 3 0), .slice A2 (av1.f_Options).length c3]) hM rfl rfl) rfl fun v w10 hv => ?_
  clear hM
  obtain ⟨g9, rfl, hM, hf⟩ := hv
  refine RL.eff (E.box (vs := [.int .u8 b5.f_TOS, .int .u16 b5.f_Total, .int .u16 b5.f_ID, .bool b5.f_DF, .bool b5.f_MF, .int .u16 b5.f_Frag, .int .u8 b5.f_TTL, .int .u8 b5.f_Proto, .int .u8 (List.getD b5.f_Src 0 0), .int .u8 (List.getD b5.f_Src 1 0), .int .u8 (List.getD b5.f_Src 2 0), .int .u8 (List.getD b5.f_Src 3 0), .int .u8 (List.getD b5.f_Dst 0 0), .int .u8 (List.getD b5.f_Dst 1 0), .int .u8 (List.getD b5.f_Dst 2 0), .int .u8 (List.getD b5.f_Dst 3 0), .slice A6 (b5.f_Options).length c7]) hM rfl rfl) rfl fun v w13 hv => ?_
  clear hM
  obtain ⟨g12, rfl, hM, hf⟩ := hv
  refine RL.val (O.assign rfl) rfl ?_
  refine RL.nil ?_
  refine KQ.then_n ?_
  refine KC.cut (fun a w18 => ∃ (plain17 : Bool), Kn 82 [(2, .pointer (some ⟨g9, 0, none⟩)), (3, .pointer (some ⟨g12, 0, none⟩)), (5, .bool plain17)] a ∧ Mem w [] w18 [.box g9 39 [.int .u8 av1.f_TOS, .int .u16 av1.f_Total, .int .u16 av1.f_ID, .bool av1.f_DF, .bool av1.f_MF, .int .u16 av1.f_Frag, .int .u8 av1.f_TTL, .int .u8 av1.f_Proto, .int .u8 (List.getD av1.f_Src 0 0), .int .u8 (List.getD av1.f_Src 1 0), .int .u8 (List.getD av1.f_Src 2 0), .int .u8 (List.getD av1.f_Src 3 0), .int .u8 (List.getD av1.f_Dst 0 0), .int .u8 (List.getD av1.f_Dst 1 0), .int .u8 (List.getD av1.f_Dst 2 0), .int .u8 (List.getD av1.f_Dst 3 0), .slice A2 (av1.f_Options).length c3], .box g12 39 [.int .u8 b5.f_TOS, .int .u16 b5.f_Total, .int .u16 b5.f_ID, .bool b5.f_DF, .bool b5.f_MF, .int .u16 b5.f_Frag, .int .u8 b5.f_TTL, .int .u8 b5.f_Proto, .int .u8 (List.getD b5.f_Src 0 0), .int .u8 (List.getD b5.f_Src 1 0), .int .u8 (List.getD b5.f_Src 2 0), .int .u8 (List.getD b5.f_Src 3 0), .int .u8 (List.getD b5.f_Dst 0 0), .int .u8 (List.getD b5.f_Dst 1 0), .int .u8 (List.getD b5.f_Dst 2 0), .int .u8 (List.getD b5.f_Dst 3 0), .slice A6 (b5.f_Options).length c7]] ∧ F_ip_Same_j1 av1 b5 plain17 = some r) ?_ ?_
  · refine KC.region ?_
    refine RL.val (O.fldA fl39_0 (by decide) rfl) rfl ?_
    refine RL.val (O.load sc5 rfl (Cs.adds [0] ((hM.bx (i := 0) rfl)) rfl)) rfl ?_
    refine RL.val (O.fldA fl39_0 (by decide) rfl) rfl ?_
    refine RL.val (O.load sc5 rfl (Cs.adds [0] ((hM.bx (i := 1) rfl)) rfl)) rfl ?_
    refine RL.val (O.eql rfl rfl) rfl ?_
    refine RL.val (O.move rfl) rfl ?_
    refine RL.bcase (t := 11) rfl (fun hc => ?_) (fun hc => ?_)
    · rw [if_pos hc] at hF
      refine RL.gval rfl rfl (O.fldA fl39_1 (by decide) rfl) rfl ?_
      refine RL.gval rfl rfl (O.load sc36 rfl (Cs.adds [1] ((hM.bx (i := 0) rfl)) rfl)) rfl ?_
      refine RL.gval rfl rfl (O.fldA fl39_1 (by decide) rfl) rfl ?_
      refine RL.gval rfl rfl (O.load sc36 rfl (Cs.adds [1] ((hM.bx (i := 1) rfl)) rfl)) rfl ?_
      refine RL.gval rfl rfl (O.eql rfl rfl) rfl ?_
      refine RL.val (O.pickt rfl rfl) rfl ?_
      refine RL.val (O.move rfl) rfl ?_
      refine RL.bcase (t := 18) rfl (fun hc => ?_) (fun hc => ?_)
      · rw [if_pos hc] at hF
        refine RL.gval rfl rfl (O.fldA fl39_2 (by decide) rfl) rfl ?_
        refine RL.gval rfl rfl (O.load sc36 rfl (Cs.adds [2] ((hM.bx (i := 0) rfl)) rfl)) rfl ?_
        refine RL.gval rfl rfl (O.fldA fl39_2 (by decide) rfl) rfl ?_
        refine RL.gval rfl rfl (O.load sc36 rfl (Cs.adds [2] ((hM.bx (i := 1) rfl)) rfl)) rfl ?_
        refine RL.gval rfl rfl (O.eql rfl rfl) rfl ?_
        refine RL.val (O.pickt rfl rfl) rfl ?_
        refine RL.val (O.move rfl) rfl ?_
        refine RL.bcase (t := 25) rfl (fun hc => ?_) (fun hc => ?_)
        · rw [if_pos hc] at hF
          refine RL.gval rfl rfl (O.fldA fl39_3 (by decide) rfl) rfl ?_
          refine RL.gval rfl rfl (O.load sc4 rfl (Cs.adds [3] ((hM.bx (i := 0) rfl)) rfl)) rfl ?_
          refine RL.gval rfl rfl (O.fldA fl39_3 (by decide) rfl) rfl ?_
          refine RL.gval rfl rfl (O.load sc4 rfl (Cs.adds [3] ((hM.bx (i := 1) rfl)) rfl)) rfl ?_
          refine RL.gval rfl rfl (O.eqlb Try.underlying4 rfl rfl) rfl ?_
          refine RL.val (O.pickt rfl rfl) rfl ?_
          refine RL.val (O.move rfl) rfl ?_
          refine RL.bcase (t := 32) rfl (fun hc => ?_) (fun hc => ?_)
          · rw [if_pos hc] at hF
            refine RL.gval rfl rfl (O.fldA fl39_4 (by decide) rfl) rfl ?_
            refine RL.gval rfl rfl (O.load sc4 rfl (Cs.adds [4] ((hM.bx (i := 0) rfl)) rfl)) rfl ?_
            refine RL.gval rfl rfl (O.fldA fl39_4 (by decide) rfl) rfl ?_
            refine RL.gval rfl rfl (O.load sc4 rfl (Cs.adds [4] ((hM.bx (i := 1) rfl)) rfl)) rfl ?_
            refine RL.gval rfl rfl (O.eqlb Try.underlying4 rfl rfl) rfl ?_
            refine RL.val (O.pickt rfl rfl) rfl ?_
            refine RL.val (O.move rfl) rfl ?_
            refine RL.bcase (t := 39) rfl (fun hc => ?_) (fun hc => ?_)
            · rw [if_pos hc] at hF
              refine RL.gval rfl rfl (O.fldA fl39_5 (by decide) rfl) rfl ?_
              refine RL.gval rfl rfl (O.load sc36 rfl (Cs.adds [5] ((hM.bx (i := 0) rfl)) rfl)) rfl ?_
              refine RL.gval rfl rfl (O.fldA fl39_5 (by decide) rfl) rfl ?_
              refine RL.gval rfl rfl (O.load sc36 rfl (Cs.adds [5] ((hM.bx (i := 1) rfl)) rfl)) rfl ?_
              refine RL.gval rfl rfl (O.eql rfl rfl) rfl ?_
              refine RL.val (O.pickt rfl rfl) rfl ?_
              refine RL.val (O.assign rfl) rfl ?_
              refine RL.nil ?_
              refine KQ.then_k ?_
              exact fun a ha => ⟨(av1.f_Frag == b5.f_Frag), ha.less (less_cons rfl (less_cons rfl (less_cons rfl less_nil))), hM, hF⟩
            · rw [if_neg (ne_true hc)] at hF
              refine RL.brun1 6 45 false (by kernel_rfl) ?_
              refine RL.val (O.assign rfl) rfl ?_
              refine RL.nil ?_
              refine KQ.then_k ?_
              exact fun a ha => ⟨false, ha.less (less_cons rfl (less_cons rfl (less_cons rfl less_nil))), hM, hF⟩
          · rw [if_neg (ne_true hc)] at hF
            refine RL.brun1 13 45 false (by kernel_rfl) ?_
            refine RL.val (O.assign rfl) rfl ?_
            refine RL.nil ?_
            refine KQ.then_k ?_
            exact fun a ha => ⟨false, ha.less (less_cons rfl (less_cons rfl (less_cons rfl less_nil))), hM, hF⟩
        · rw [if_neg (ne_true hc)] at hF
          refine RL.brun1 20 45 false (by kernel_rfl) ?_
          refine RL.val (O.assign rfl) rfl ?_
          refine RL.nil ?_
          refine KQ.then_k ?_
          exact fun a ha => ⟨false, ha.less (less_cons rfl (less_cons rfl (less_cons rfl less_nil))), hM, hF⟩
      · rw [if_neg (ne_true hc)] at hF
        refine RL.brun1 27 45 false (by kernel_rfl) ?_
        refine RL.val (O.assign rfl) rfl ?_
        refine RL.nil ?_
        refine KQ.then_k ?_
        exact fun a ha => ⟨false, ha.less (less_cons rfl (less_cons rfl (less_cons rfl less_nil))), hM, hF⟩
    · rw [if_neg (ne_true hc)] at hF
      refine RL.brun1 34 45 false (by kernel_rfl) ?_
      refine RL.val (O.assign rfl) rfl ?_
      refine RL.nil ?_
      refine KQ.then_k ?_
      exact fun a ha => ⟨false, ha.less (less_cons rfl (less_cons rfl (less_cons rfl less_nil))), hM, hF⟩
  · rintro a w18 ⟨plain17, ha, hM, hF⟩
    refine KC.app ha ?_
    clear ha
    unfold F_ip_Same_j1 at hF
    refine KC.cut (fun a w24 => ∃ (t23 : Bool), Kn 82 [(4, .bool t23)] a ∧ Mem w [] w24 [] ∧ F_ip_Same_j2 t23 = some r) ?_ ?_
    · refine KC.region ?_
      refine RL.val (O.move rfl) rfl ?_
      refine RL.val (O.move rfl) rfl ?_
      refine RL.bcase (t := 47) rfl (fun hc => ?_) (fun hc => ?_)
      · rw [if_pos hc] at hF
        refine RL.gval rfl rfl (O.fldA fl39_6 (by decide) rfl) rfl ?_
        refine RL.gval rfl rfl (O.load sc5 rfl (Cs.adds [6] ((hM.bx (i := 0) rfl)) rfl)) rfl ?_
        refine RL.gval rfl rfl (O.fldA fl39_6 (by decide) rfl) rfl ?_
        refine RL.gval rfl rfl (O.load sc5 rfl (Cs.adds [6] ((hM.bx (i := 1) rfl)) rfl)) rfl ?_
        refine RL.gval rfl rfl (O.eql rfl rfl) rfl ?_
        refine RL.val (O.pickt rfl rfl) rfl ?_
        refine RL.val (O.move rfl) rfl ?_
        refine RL.bcase (t := 54) rfl (fun hc => ?_) (fun hc => ?_)
        · rw [if_pos hc] at hF
          refine RL.gval rfl rfl (O.fldA fl39_7 (by decide) rfl) rfl ?_
          refine RL.gval rfl rfl (O.load sc5 rfl (Cs.adds [7] ((hM.bx (i := 0) rfl)) rfl)) rfl ?_
          refine RL.gval rfl rfl (O.fldA fl39_7 (by decide) rfl) rfl ?_
          refine RL.gval rfl rfl (O.load sc5 rfl (Cs.adds [7] ((hM.bx (i := 1) rfl)) rfl)) rfl ?_
          refine RL.gval rfl rfl (O.eql rfl rfl) rfl ?_
          refine RL.val (O.pickt rfl rfl) rfl ?_
          refine RL.val (O.move rfl) rfl ?_
          refine RL.bcase (t := 61) rfl (fun hc => ?_) (fun hc => ?_)
          · rw [if_pos hc] at hF
            refine RL.gval rfl rfl (O.fldA fl39_8 (by decide) rfl) rfl ?_
            refine RL.gval rfl rfl (O.loadN (cs := [.int .u8 (List.getD av1.f_Src 0 0), .int .u8 (List.getD av1.f_Src 1 0), .int .u8 (List.getD av1.f_Src 2 0), .int .u8 (List.getD av1.f_Src 3 0)]) ag37 rfl (Cs.addsN [8] ((hM.bx (i := 0) rfl)) rfl)) rfl ?_
            refine RL.gval rfl rfl (O.fldA fl39_8 (by decide) rfl) rfl ?_
            refine RL.gval rfl rfl (O.loadN (cs := [.int .u8 (List.getD b5.f_Src 0 0), .int .u8 (List.getD b5.f_Src 1 0), .int .u8 (List.getD b5.f_Src 2 0), .int .u8 (List.getD b5.f_Src 3 0)]) ag37 rfl (Cs.addsN [8] ((hM.bx (i := 1) rfl)) rfl)) rfl ?_
            refine RL.gval rfl rfl (O.steq (cs := [.int .u8 (List.getD av1.f_Src 0 0), .int .u8 (List.getD av1.f_Src 1 0), .int .u8 (List.getD av1.f_Src 2 0), .int .u8 (List.getD av1.f_Src 3 0)]) (cs' := [.int .u8 (List.getD b5.f_Src 0 0), .int .u8 (List.getD b5.f_Src 1 0), .int .u8 (List.getD b5.f_Src 2 0), .int .u8 (List.getD b5.f_Src 3 0)]) (by kernel_rfl) rfl rfl (eqArrT Try.underlying37 Try.underlying5 sz5 av1.f_Src b5.f_Src _ rfl rfl)) rfl ?_
            refine RL.val (O.pickt rfl rfl) rfl ?_
            refine RL.val (O.move rfl) rfl ?_
            refine RL.bcase (t := 68) rfl (fun hc => ?_) (fun hc => ?_)
            · rw [if_pos hc] at hF
              refine RL.gval rfl rfl (O.fldA fl39_9 (by decide) rfl) rfl ?_
              refine RL.gval rfl rfl (O.loadN (cs := [.int .u8 (List.getD av1.f_Dst 0 0), .int .u8 (List.getD av1.f_Dst 1 0), .int .u8 (List.getD av1.f_Dst 2 0), .int .u8 (List.getD av1.f_Dst 3 0)]) ag37 rfl (Cs.addsN [12] ((hM.bx (i := 0) rfl)) rfl)) rfl ?_
              refine RL.gval rfl rfl (O.fldA fl39_9 (by decide) rfl) rfl ?_
              refine RL.gval rfl rfl (O.loadN (cs := [.int .u8 (List.getD b5.f_Dst 0 0), .int .u8 (List.getD b5.f_Dst 1 0), .int .u8 (List.getD b5.f_Dst 2 0), .int .u8 (List.getD b5.f_Dst 3 0)]) ag37 rfl (Cs.addsN [12] ((hM.bx (i := 1) rfl)) rfl)) rfl ?_
              refine RL.gval rfl rfl (O.steq (cs := [.int .u8 (List.getD av1.f_Dst 0 0), .int .u8 (List.getD av1.f_Dst 1 0), .int .u8 (List.getD av1.f_Dst 2 0), .int .u8 (List.getD av1.f_Dst 3 0)]) (cs' := [.int .u8 (List.getD b5.f_Dst 0 0), .int .u8 (List.getD b5.f_Dst 1 0), .int .u8 (List.getD b5.f_Dst 2 0), .int .u8 (List.getD b5.f_Dst 3 0)]) (by kernel_rfl) rfl rfl (eqArrT Try.underlying37 Try.underlying5 sz5 av1.f_Dst b5.f_Dst _ rfl rfl)) rfl ?_
              refine RL.val (O.pickt rfl rfl) rfl ?_
              refine RL.val (O.move rfl) rfl ?_
              refine RL.bcase (t := 75) rfl (fun hc => ?_) (fun hc => ?_)
              · rw [if_pos hc] at hF
                refine RL.gval rfl rfl (O.fldA fl39_10 (by decide) rfl) rfl ?_
                refine RL.gval rfl rfl (O.load sc22 rfl (Cs.adds [16] ((hM.bx (i := 0) rfl)) rfl)) rfl ?_
                refine RL.gval rfl rfl (O.fldA fl39_10 (by decide) rfl) rfl ?_
                refine RL.gval rfl rfl (O.load sc22 rfl (Cs.adds [16] ((hM.bx (i := 1) rfl)) rfl)) rfl ?_
                refine obindE hF fun y19 hx20 hF => ?_
                refine RL.gcall rfl rfl Try.func38 bd38 rfl rfl (c_bytes_Equal _ _ _ av1.f_Options (hM.inp hr4 Off.nil) _ _ b5.f_Options (hM.inp hr8 Off.nil) _ hx20) fun v w21 hv => ?_
                obtain ⟨rfl, hN22⟩ := hv
                replace hM := hM.call0 hN22
                refine RL.val (O.pickt rfl rfl) rfl ?_
                refine RL.val (O.assign rfl) rfl ?_
                refine RL.nil ?_
                refine KQ.then_k ?_
                replace hM := hM.pick [] rfl (by decide)
                exact fun a ha => ⟨y19, ha.less (less_cons rfl less_nil), hM, hF⟩
              · rw [if_neg (ne_true hc)] at hF
                refine RL.brun1 6 81 false (by kernel_rfl) ?_
                refine RL.val (O.assign rfl) rfl ?_
                refine RL.nil ?_
                refine KQ.then_k ?_
                replace hM := hM.pick [] rfl (by decide)
                exact fun a ha => ⟨false, ha.less (less_cons rfl less_nil), hM, hF⟩
            · rw [if_neg (ne_true hc)] at hF
              refine RL.brun1 13 81 false (by kernel_rfl) ?_
              refine RL.val (O.assign rfl) rfl ?_
              refine RL.nil ?_
              refine KQ.then_k ?_
              replace hM := hM.pick [] rfl (by decide)
              exact fun a ha => ⟨false, ha.less (less_cons rfl less_nil), hM, hF⟩
          · rw [if_neg (ne_true hc)] at hF
            refine RL.brun1 20 81 false (by kernel_rfl) ?_
            refine RL.val (O.assign rfl) rfl ?_
            refine RL.nil ?_
            refine KQ.then_k ?_
            replace hM := hM.pick [] rfl (by decide)
            exact fun a ha => ⟨false, ha.less (less_cons rfl less_nil), hM, hF⟩
        · rw [if_neg (ne_true hc)] at hF
          refine RL.brun1 27 81 false (by kernel_rfl) ?_
          refine RL.val (O.assign rfl) rfl ?_
          refine RL.nil ?_
          refine KQ.then_k ?_
          replace hM := hM.pick [] rfl (by decide)
          exact fun a ha => ⟨false, ha.less (less_cons rfl less_nil), hM, hF⟩
      · rw [if_neg (ne_true hc)] at hF
        refine RL.brun1 34 81 false (by kernel_rfl) ?_
        refine RL.val (O.assign rfl) rfl ?_
        refine RL.nil ?_
        refine KQ.then_k ?_
        replace hM := hM.pick [] rfl (by decide)
        exact fun a ha => ⟨false, ha.less (less_cons rfl less_nil), hM, hF⟩
    · rintro a w24 ⟨t23, ha, hM, hF⟩
      refine KC.app ha ?_
      clear ha
      unfold F_ip_Same_j2 at hF
      refine KC.ret ?_
      have hE := Option.some.inj hF
      clear hF
      subst hE
      refine KQ.rets Try.results17 (RVs.cons (RV.tm rfl) RVs.nil) ?_
      exact ⟨_, rfl, rfl, hM⟩
end Go.Proofs.Ytjfdfjmnajjjaaa
