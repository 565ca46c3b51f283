/- Printed by a program of this claim: each call returns what the plain function of its name gives. -/
import Derived.Test.YtjfdfjmnajjjaaaW1
import Derived.Test.YtjfdfjmnajjjaaaW9
set_option linter.unusedVariables false
namespace Go.Proofs.Ytjfdfjmnajjjaaa
open Go Go.Ox Go.RowKit
set_option maxRecDepth 100000 in
set_option maxHeartbeats 40000000 in
theorem c_ref01_Get (w : World) (A2 : Option Addr) (c3 : Nat) (b1 : List Int) (hr4 : Rd w A2 c3 1 b1.length (b1.flatMap (eI .u8))) (atv5 : Int) (size6 : Int) (r : Int × Int) (hF : F_ref01_Get b1 atv5 size6 = some r) :
    CallsR Try.prog 43 [.slice A2 (b1).length c3, .int .i64 atv5, .int .i64 size6] w (fun v w' => v = .tuple #[.int .u64 r.1, .int .i64 r.2] ∧ Mem w [] w' []) := by
  refine calls_KC Try.func43 rfl Try.ntmps43 rfl ?_
  have hM := Mem.init w
  unfold F_ref01_Get at hF
  refine KC.seq ?_
  refine KC.region ?_
  refine RL.val (O.assign rfl) rfl ?_
  refine RL.val (O.assign rfl) rfl ?_
  refine RL.nil ?_
  refine KQ.then_n ?_
  refine KC.seq ?_
  refine KC.cut (fun a w8 => ∃ (t7 : Bool), Kn 48 [(0, .slice A2 (b1).length c3), (1, .int .i64 atv5), (2, .int .i64 size6), (19, .bool t7)] a ∧ Mem w [] w8 [] ∧ F_ref01_Get_j1 b1 atv5 size6 t7 = some r) ?_ ?_
  · refine KC.region ?_
    refine RL.val (O.move rfl) rfl ?_
    refine RL.val (O.lss rfl rfl) rfl ?_
    refine RL.val (O.move rfl) rfl ?_
    refine RL.bcase (t := 12) rfl (fun hc => ?_) (fun hc => ?_)
    · rw [if_pos hc] at hF
      refine RL.brun1 7 19 true (by kernel_rfl) ?_
      refine RL.nil ?_
      refine KQ.then_k ?_
      exact fun a ha => ⟨true, ha.less (less_cons rfl (less_cons rfl (less_cons rfl (less_cons rfl less_nil)))), hM, hF⟩
    · rw [if_neg (ne_true hc)] at hF
      refine RL.gval rfl rfl (O.move rfl) rfl ?_
      refine RL.gval rfl rfl (O.gtr rfl rfl) rfl ?_
      refine RL.val (O.pickf rfl rfl) rfl ?_
      refine RL.val (O.move rfl) rfl ?_
      refine RL.bcase (t := 16) rfl (fun hc => ?_) (fun hc => ?_)
      · rw [if_pos hc] at hF
        refine RL.gskip rfl rfl rfl rfl ?_
        refine RL.gskip rfl rfl rfl rfl ?_
        refine RL.val (O.pickt rfl rfl) rfl ?_
        refine RL.nil ?_
        refine KQ.then_k ?_
        exact fun a ha => ⟨true, ha.less (less_cons rfl (less_cons rfl (less_cons rfl (less_cons rfl less_nil)))), hM, hF⟩
      · rw [if_neg (ne_true hc)] at hF
        refine RL.gval rfl rfl (O.move rfl) rfl ?_
        refine RL.gval rfl rfl (O.lss rfl rfl) rfl ?_
        refine RL.val (O.pickf rfl rfl) rfl ?_
        refine RL.nil ?_
        refine KQ.then_k ?_
        exact fun a ha => ⟨(decide (atv5 < 0)), ha.less (less_cons rfl (less_cons rfl (less_cons rfl (less_cons rfl less_nil)))), hM, hF⟩
  · rintro a w8 ⟨t7, ha, hM, hF⟩
    refine KC.app ha ?_
    clear ha
    unfold F_ref01_Get_j1 at hF
    refine KC.cond rfl (fun hc => ?_) (fun hc => ?_)
    · rw [if_pos hc] at hF
      refine KC.seq ?_
      refine KC.region ?_
      refine RL.val (O.assign rfl) rfl ?_
      refine RL.val (O.assign rfl) rfl ?_
      refine RL.nil ?_
      refine KQ.then_n ?_
      refine KC.ret ?_
      refine KQ.then_r ?_
      have hE := Option.some.inj hF
      clear hF
      subst hE
      refine KQ.rets Try.results43 (RVs.cons (RV.tm rfl) (RVs.cons (RV.tm rfl) RVs.nil)) ?_
      exact ⟨_, rfl, rfl, hM⟩
    · rw [if_neg (ne_true hc)] at hF
      refine KC.skip ?_
      refine KQ.then_n ?_
      refine KC.seq ?_
      refine KC.region ?_
      refine RL.val (O.assign rfl) rfl ?_
      refine RL.nil ?_
      refine KQ.then_n ?_
      refine KC.seq ?_
      refine KC.seq ?_
      refine KC.region ?_
      refine RL.val (O.assign rfl) rfl ?_
      refine RL.nil ?_
      refine KQ.then_n ?_
      refine KC.block ?_
      refine KC.loop (fun k25 a w23 => ∃ (v21 : Int) (i22 : Int), Kn 48 [(0, .slice A2 (b1).length c3), (1, .int .i64 atv5), (2, .int .i64 size6), (8, .int .u64 v21), (9, .int .i64 i22)] a ∧ Mem w [] w23 [] ∧ F_ref01_Get_L1 b1 atv5 size6 k25 v21 i22 = some r) ?_ ?_
      · exact fun a ha => ⟨fuel0, 0, 0, ha.less (less_cons rfl (less_cons rfl (less_cons rfl (less_cons rfl (less_cons rfl less_nil))))), hM, hF⟩
      · rintro k25 a w23 ⟨v21, i22, ha, hM, hF⟩
        refine KC.app ha ?_
        clear ha
        cases k25 with
        | zero => exact (none_some hF).elim
        | succ k25 =>
        have hF : F_ref01_Get_l1 (F_ref01_Get_L1 b1 atv5 size6 k25) b1 atv5 size6 v21 i22 = some r := hF
        unfold F_ref01_Get_l1 at hF
        refine KC.seq ?_
        refine KC.seq ?_
        refine KC.region ?_
        refine RL.val (O.move rfl) rfl ?_
        refine RL.val (O.move rfl) rfl ?_
        refine RL.val (O.lss rfl rfl) rfl ?_
        refine RL.nil ?_
        refine KQ.then_n ?_
        refine KC.cond rfl (fun hc => ?_) (fun hc => ?_)
        · rw [if_pos hc] at hF
          refine KC.skip ?_
          refine KQ.then_n ?_
          refine KC.seq ?_
          refine KC.block ?_
          refine KC.seq ?_
          refine KC.cut (fun a w27 => ∃ (t26 : Bool), Kn 48 [(0, .slice A2 (b1).length c3), (1, .int .i64 atv5), (2, .int .i64 size6), (8, .int .u64 v21), (9, .int .i64 i22), (36, .bool t26)] a ∧ Mem w [] w27 [] ∧ F_ref01_Get_j2 b1 atv5 v21 i22 (F_ref01_Get_L1 b1 atv5 size6 k25) t26 = some r) ?_ ?_
          · refine KC.region ?_
            refine RL.val (O.move rfl) rfl ?_
            refine RL.val (O.move rfl) rfl ?_
            refine RL.val (O.len sl22 rfl) rfl ?_
            refine RL.val (O.gtr rfl rfl) rfl ?_
            refine RL.val (O.move rfl) rfl ?_
            refine RL.bcase (t := 29) rfl (fun hc => ?_) (fun hc => ?_)
            · rw [if_pos hc] at hF
              refine RL.gskip rfl rfl rfl rfl ?_
              refine RL.gskip rfl rfl rfl rfl ?_
              refine RL.gskip rfl rfl rfl rfl ?_
              refine RL.gskip rfl rfl rfl rfl ?_
              refine RL.gskip rfl rfl rfl rfl ?_
              refine RL.gskip rfl rfl rfl rfl ?_
              refine RL.val (O.pickt rfl rfl) rfl ?_
              refine RL.nil ?_
              refine KQ.then_k ?_
              exact fun a ha => ⟨true, ha.less (less_cons rfl (less_cons rfl (less_cons rfl (less_cons rfl (less_cons rfl (less_cons rfl less_nil)))))), hM, hF⟩
            · rw [if_neg (ne_true hc)] at hF
              refine RL.gval rfl rfl (O.move rfl) rfl ?_
              refine RL.gval rfl rfl (O.move rfl) rfl ?_
              refine RL.gval rfl rfl (O.add rfl rfl) rfl ?_
              refine RL.gval rfl rfl (O.move rfl) rfl ?_
              refine RL.gval rfl rfl (O.len sl22 rfl) rfl ?_
              refine RL.gval rfl rfl (O.geq rfl rfl) rfl ?_
              refine RL.val (O.pickf rfl rfl) rfl ?_
              refine RL.nil ?_
              refine KQ.then_k ?_
              exact fun a ha => ⟨(decide ((b1.length : Int) ≤ (IntKind.i64.wrap (atv5 + i22)))), ha.less (less_cons rfl (less_cons rfl (less_cons rfl (less_cons rfl (less_cons rfl (less_cons rfl less_nil)))))), hM, hF⟩
          · rintro a w27 ⟨t26, ha, hM, hF⟩
            refine KC.app ha ?_
            clear ha
            unfold F_ref01_Get_j2 at hF
            refine KC.cond rfl (fun hc => ?_) (fun hc => ?_)
            · rw [if_pos hc] at hF
              refine KC.seq ?_
              refine KC.region ?_
              refine RL.val (O.assign rfl) rfl ?_
              refine RL.val (O.assign rfl) rfl ?_
              refine RL.nil ?_
              refine KQ.then_n ?_
              refine KC.ret ?_
              refine KQ.then_r ?_
              refine KQ.blk_r ?_
              refine KQ.then_r ?_
              refine KQ.then_r ?_
              refine KQ.blk_r ?_
              refine KQ.then_r ?_
              have hE := Option.some.inj hF
              clear hF
              subst hE
              refine KQ.rets Try.results43 (RVs.cons (RV.tm rfl) (RVs.cons (RV.tm rfl) RVs.nil)) ?_
              exact ⟨_, rfl, rfl, hM⟩
            · rw [if_neg (ne_true hc)] at hF
              refine KC.skip ?_
              refine KQ.then_n ?_
              refine KC.region ?_
              refine RL.val (O.move rfl) rfl ?_
              refine RL.val (O.mul rfl rfl) rfl ?_
              refine RL.val (O.move rfl) rfl ?_
              refine RL.val (O.move rfl) rfl ?_
              refine RL.val (O.move rfl) rfl ?_
              refine RL.val (O.add rfl rfl) rfl ?_
              refine obindE hF fun xv30 hx29 hF => ?_
              have hA28 := Rd.atN (f := (eI .u8)) (s := 1) (fun _ => rfl) (by decide) (hM.inp hr4 Off.nil) hx29
              refine RL.val (O.idxA sl22 (hA28) rfl rfl) rfl ?_
              refine RL.val (O.load sc5 rfl (hA28).cells.at0) rfl ?_
              refine RL.val (O.conv un5 Try.underlying70 rfl) rfl ?_
              refine RL.val (O.add rfl rfl) rfl ?_
              refine RL.val (O.assign rfl) rfl ?_
              refine RL.nil ?_
              refine KQ.blk_n ?_
              refine KQ.then_n ?_
              refine KC.region ?_
              refine RL.val (O.move rfl) rfl ?_
              refine RL.val (O.add rfl rfl) rfl ?_
              refine RL.val (O.assign rfl) rfl ?_
              refine RL.nil ?_
              refine KQ.then_k ?_
              exact fun a ha => ⟨k25, Nat.lt_succ_self k25, (IntKind.u64.wrap ((IntKind.u64.wrap (v21 * 256)) + (IntKind.u64.wrap xv30))), (IntKind.i64.wrap (i22 + 1)), ha.less (less_cons rfl (less_cons rfl (less_cons rfl (less_cons rfl (less_cons rfl less_nil))))), hM, hF⟩
        · rw [if_neg (ne_true hc)] at hF
          refine KC.exit ?_
          refine KQ.then_x ?_
          refine KQ.then_x ?_
          refine KQ.blk_x ?_
          refine KQ.then_n ?_
          refine KC.seq ?_
          refine KC.region ?_
          refine RL.val (O.move rfl) rfl ?_
          refine RL.val (O.assign rfl) rfl ?_
          refine RL.val (O.assign rfl) rfl ?_
          refine RL.nil ?_
          refine KQ.then_n ?_
          refine KC.ret ?_
          have hE := Option.some.inj hF
          clear hF
          subst hE
          refine KQ.rets Try.results43 (RVs.cons (RV.tm rfl) (RVs.cons (RV.tm rfl) RVs.nil)) ?_
          exact ⟨_, rfl, rfl, hM⟩
set_option maxRecDepth 100000 in
set_option maxHeartbeats 40000000 in
theorem c_ref03_Whole (w : World) (A2 : Option Addr) (c3 : Nat) (b1 : List Int) (hr4 : Rd w A2 c3 1 b1.length (b1.flatMap (eI .u8))) (r : Bool) (hF : F_ref03_Whole b1 = some r) :
    CallsR Try.prog 44 [.slice A2 (b1).length c3] w (fun v w' => v = .bool r ∧ Mem w [] w' []) := by
  refine calls_KC Try.func44 rfl Try.ntmps44 rfl ?_
  have hM := Mem.init w
  unfold F_ref03_Whole at hF
  refine KC.seq ?_
  refine KC.region ?_
  refine RL.val (O.assign rfl) rfl ?_
  refine RL.nil ?_
  refine KQ.then_n ?_
  refine KC.cut (fun a w14 => ∃ (t13 : Bool), Kn 11 [(2, .bool t13)] a ∧ Mem w [] w14 [] ∧ F_ref03_Whole_j1 t13 = some r) ?_ ?_
  · refine KC.region ?_
    refine RL.val (O.move rfl) rfl ?_
    refine obindE hF fun y5 hx6 hF => ?_
    refine RL.call Try.func49 bd49 rfl rfl (c_ref03_Sum _ _ _ b1 (hM.inp hr4 Off.nil) _ hx6) fun v w7 hv => ?_
    obtain ⟨rfl, hN8⟩ := hv
    replace hM := hM.call0 hN8
    refine RL.val (O.eql rfl rfl) rfl ?_
    refine RL.val (O.move rfl) rfl ?_
    refine RL.bcase (t := 6) rfl (fun hc => ?_) (fun hc => ?_)
    · rw [if_pos hc] at hF
      refine RL.brun1 4 10 true (by kernel_rfl) ?_
      refine RL.val (O.assign rfl) rfl ?_
      refine RL.nil ?_
      refine KQ.then_k ?_
      exact fun a ha => ⟨true, ha.less (less_cons rfl less_nil), hM, hF⟩
    · rw [if_neg (ne_true hc)] at hF
      refine RL.gval rfl rfl (O.move rfl) rfl ?_
      refine obindE hF fun y9 hx10 hF => ?_
      refine RL.gcall rfl rfl Try.func49 bd49 rfl rfl (c_ref03_Sum _ _ _ b1 (hM.inp hr4 Off.nil) _ hx10) fun v w11 hv => ?_
      obtain ⟨rfl, hN12⟩ := hv
      replace hM := hM.call0 hN12
      refine RL.gval rfl rfl (O.eql rfl rfl) rfl ?_
      refine RL.val (O.pickf rfl rfl) rfl ?_
      refine RL.val (O.assign rfl) rfl ?_
      refine RL.nil ?_
      refine KQ.then_k ?_
      exact fun a ha => ⟨(y9 == 0), ha.less (less_cons rfl less_nil), hM, hF⟩
  · rintro a w14 ⟨t13, ha, hM, hF⟩
    refine KC.app ha ?_
    clear ha
    unfold F_ref03_Whole_j1 at hF
    refine KC.ret ?_
    have hE := Option.some.inj hF
    clear hF
    subst hE
    refine KQ.rets Try.results44 (RVs.cons (RV.tm rfl) RVs.nil) ?_
    exact ⟨_, rfl, rfl, hM⟩
set_option maxRecDepth 100000 in
set_option maxHeartbeats 40000000 in
theorem c_ref05_Parse (w : World) (A2 : Option Addr) (c3 : Nat) (b1 : List Int) (hr4 : Rd w A2 c3 1 b1.length (b1.flatMap (eI .u8))) (r : T_ref05_Header × Int × Int) (hF : F_ref05_Parse b1 = some r) :
    CallsR Try.prog 22 [.slice A2 (b1).length c3] w (fun v w' => v = .tuple #[.agg #[.int .u8 r.1.f_TOS, .int .u16 r.1.f_Total, .int .u16 r.1.f_ID, .bool r.1.f_DF, .bool r.1.f_MF, .int .u16 r.1.f_Frag, .int .u8 r.1.f_TTL, .int .u8 r.1.f_Proto, .string r.1.f_Src, .string r.1.f_Dst, .string r.1.f_Options], .int .i64 r.2.1, .int .i64 r.2.2] ∧ Mem w [] w' []) := by
  refine calls_KC Try.func22 rfl Try.ntmps22 rfl ?_
  have hM := Mem.init w
  unfold F_ref05_Parse at hF
  refine KC.seq ?_
  refine KC.region ?_
  refine RL.eff (E.alloc hM ze41) rfl fun v w6 hv => ?_
  clear hM
  obtain ⟨g5, rfl, hM, hf⟩ := hv
  refine RL.val (O.assign rfl) rfl ?_
  refine RL.val (O.assign rfl) rfl ?_
  refine RL.nil ?_
  refine KQ.then_n ?_
  refine KC.seq ?_
  refine KC.region ?_
  refine RL.val (O.bld (cs := [.int .u8 0, .int .u16 0, .int .u16 0, .bool false, .bool false, .int .u16 0, .int .u8 0, .int .u8 0, .string ByteArray.empty, .string ByteArray.empty, .string ByteArray.empty]) bt41 rfl (by kernel_rfl)) rfl ?_
  refine RL.eff (E.alloc hM ze41) rfl fun v w9 hv => ?_
  clear hM
  obtain ⟨g8, rfl, hM, hf⟩ := hv
  refine RL.effs (E.stB (j := 1) (off := 0) (vs := [.int .u8 0, .int .u16 0, .int .u16 0, .bool false, .bool false, .int .u16 0, .int .u8 0, .int .u8 0, .string ByteArray.empty, .string ByteArray.empty, .string ByteArray.empty]) (cs' := [.int .u8 0, .int .u16 0, .int .u16 0, .bool false, .bool false, .int .u16 0, .int .u8 0, .int .u8 0, .string ByteArray.empty, .string ByteArray.empty, .string ByteArray.empty]) hM rfl sz41 rfl (adds_eq [] rfl) rfl rfl (One.all rfl) rfl rfl) fun w11 hM1 => ?_
  clear hM
  have hM := hM1
  clear hM1
  refine RL.nil ?_
  refine KQ.then_n ?_
  refine KC.seq ?_
  refine KC.seq ?_
  refine KC.region ?_
  refine RL.val (O.move rfl) rfl ?_
  refine RL.val (O.len sl22 rfl) rfl ?_
  refine RL.val (O.lss rfl rfl) rfl ?_
  refine RL.nil ?_
  refine KQ.then_n ?_
  refine KC.cond rfl (fun hc => ?_) (fun hc => ?_)
  · rw [if_pos hc] at hF
    refine KC.seq ?_
    refine KC.region ?_
    refine RL.val (O.loadN (cs := [.int .u8 0, .int .u16 0, .int .u16 0, .bool false, .bool false, .int .u16 0, .int .u8 0, .int .u8 0, .string ByteArray.empty, .string ByteArray.empty, .string ByteArray.empty]) ag41 rfl (Cs.addsN [] ((hM.bx (i := 1) rfl)) rfl)) rfl ?_
    refine RL.effs (E.stB (j := 0) (off := 0) (vs := [.int .u8 0, .int .u16 0, .int .u16 0, .bool false, .bool false, .int .u16 0, .int .u8 0, .int .u8 0, .string ByteArray.empty, .string ByteArray.empty, .string ByteArray.empty]) (cs' := [.int .u8 0, .int .u16 0, .int .u16 0, .bool false, .bool false, .int .u16 0, .int .u8 0, .int .u8 0, .string ByteArray.empty, .string ByteArray.empty, .string ByteArray.empty]) hM rfl sz41 rfl (adds_eq [] rfl) rfl rfl (One.all rfl) rfl rfl) fun w12 hM1 => ?_
    clear hM
    have hM := hM1
    clear hM1
    refine RL.val (O.assign rfl) rfl ?_
    refine RL.val (O.assign rfl) rfl ?_
    refine RL.nil ?_
    refine KQ.then_n ?_
    refine KC.ret ?_
    refine KQ.then_r ?_
    have hE := Option.some.inj hF
    clear hF
    subst hE
    have hb13 := hM.bx (i := 0) rfl
    replace hM := hM.pick [] rfl (by decide)
    refine KQ.rets Try.results22 (RVs.cons (RV.cN (cs := [.int .u8 0, .int .u16 0, .int .u16 0, .bool false, .bool false, .int .u16 0, .int .u8 0, .int .u8 0, .string ByteArray.empty, .string ByteArray.empty, .string ByteArray.empty]) rfl ag41 hb13) (RVs.cons (RV.tm rfl) (RVs.cons (RV.tm rfl) RVs.nil))) ?_
    exact ⟨_, rfl, rfl, hM⟩
  · rw [if_neg (ne_true hc)] at hF
    refine KC.skip ?_
    refine KQ.then_n ?_
    refine KC.seq ?_
    refine KC.seq ?_
    refine KC.region ?_
    refine RL.val (O.move rfl) rfl ?_
    refine obindE hF fun xv16 hx15 hF => ?_
    have hA14 := Rd.atN (f := (eI .u8)) (s := 1) (fun _ => rfl) (by decide) (hM.inp hr4 Off.nil) hx15
    refine RL.val (O.idxA sl22 (hA14) rfl rfl) rfl ?_
    refine RL.val (O.load sc5 rfl (hA14).cells.at0) rfl ?_
    refine RL.val (O.quo rfl rfl (by decide)) rfl ?_
    refine RL.val (O.neq rfl rfl) rfl ?_
    refine RL.nil ?_
    refine KQ.then_n ?_
    refine KC.cond rfl (fun hc => ?_) (fun hc => ?_)
    · rw [if_pos hc] at hF
      refine KC.seq ?_
      refine KC.region ?_
      refine RL.val (O.loadN (cs := [.int .u8 0, .int .u16 0, .int .u16 0, .bool false, .bool false, .int .u16 0, .int .u8 0, .int .u8 0, .string ByteArray.empty, .string ByteArray.empty, .string ByteArray.empty]) ag41 rfl (Cs.addsN [] ((hM.bx (i := 1) rfl)) rfl)) rfl ?_
      refine RL.effs (E.stB (j := 0) (off := 0) (vs := [.int .u8 0, .int .u16 0, .int .u16 0, .bool false, .bool false, .int .u16 0, .int .u8 0, .int .u8 0, .string ByteArray.empty, .string ByteArray.empty, .string ByteArray.empty]) (cs' := [.int .u8 0, .int .u16 0, .int .u16 0, .bool false, .bool false, .int .u16 0, .int .u8 0, .int .u8 0, .string ByteArray.empty, .string ByteArray.empty, .string ByteArray.empty]) hM rfl sz41 rfl (adds_eq [] rfl) rfl rfl (One.all rfl) rfl rfl) fun w17 hM1 => ?_
      clear hM
      have hM := hM1
      clear hM1
      refine RL.val (O.assign rfl) rfl ?_
      refine RL.val (O.assign rfl) rfl ?_
      refine RL.nil ?_
      refine KQ.then_n ?_
      refine KC.ret ?_
      refine KQ.then_r ?_
      have hE := Option.some.inj hF
      clear hF
      subst hE
      have hb18 := hM.bx (i := 0) rfl
      replace hM := hM.pick [] rfl (by decide)
      refine KQ.rets Try.results22 (RVs.cons (RV.cN (cs := [.int .u8 0, .int .u16 0, .int .u16 0, .bool false, .bool false, .int .u16 0, .int .u8 0, .int .u8 0, .string ByteArray.empty, .string ByteArray.empty, .string ByteArray.empty]) rfl ag41 hb18) (RVs.cons (RV.tm rfl) (RVs.cons (RV.tm rfl) RVs.nil))) ?_
      exact ⟨_, rfl, rfl, hM⟩
    · rw [if_neg (ne_true hc)] at hF
      refine KC.skip ?_
      refine KQ.then_n ?_
      refine KC.seq ?_
      refine KC.region ?_
      refine RL.val (O.move rfl) rfl ?_
      refine obindE hF fun xv21 hx20 hF => ?_
      have hA19 := Rd.atN (f := (eI .u8)) (s := 1) (fun _ => rfl) (by decide) (hM.inp hr4 Off.nil) hx20
      refine RL.val (O.idxA sl22 (hA19) rfl rfl) rfl ?_
      refine RL.val (O.load sc5 rfl (hA19).cells.at0) rfl ?_
      refine RL.val (O.rem rfl rfl (by decide)) rfl ?_
      refine RL.val (O.conv un5 Try.underlying3 rfl) rfl ?_
      refine RL.val (O.mul rfl rfl) rfl ?_
      refine RL.val (O.assign rfl) rfl ?_
      refine RL.nil ?_
      refine KQ.then_n ?_
      refine KC.seq ?_
      refine KC.seq ?_
      refine KC.region ?_
      refine RL.val (O.move rfl) rfl ?_
      refine RL.val (O.lss rfl rfl) rfl ?_
      refine RL.nil ?_
      refine KQ.then_n ?_
      refine KC.cond rfl (fun hc => ?_) (fun hc => ?_)
      · rw [if_pos hc] at hF
        refine KC.seq ?_
        refine KC.region ?_
        refine RL.val (O.loadN (cs := [.int .u8 0, .int .u16 0, .int .u16 0, .bool false, .bool false, .int .u16 0, .int .u8 0, .int .u8 0, .string ByteArray.empty, .string ByteArray.empty, .string ByteArray.empty]) ag41 rfl (Cs.addsN [] ((hM.bx (i := 1) rfl)) rfl)) rfl ?_
        refine RL.effs (E.stB (j := 0) (off := 0) (vs := [.int .u8 0, .int .u16 0, .int .u16 0, .bool false, .bool false, .int .u16 0, .int .u8 0, .int .u8 0, .string ByteArray.empty, .string ByteArray.empty, .string ByteArray.empty]) (cs' := [.int .u8 0, .int .u16 0, .int .u16 0, .bool false, .bool false, .int .u16 0, .int .u8 0, .int .u8 0, .string ByteArray.empty, .string ByteArray.empty, .string ByteArray.empty]) hM rfl sz41 rfl (adds_eq [] rfl) rfl rfl (One.all rfl) rfl rfl) fun w22 hM1 => ?_
        clear hM
        have hM := hM1
        clear hM1
        refine RL.val (O.assign rfl) rfl ?_
        refine RL.val (O.assign rfl) rfl ?_
        refine RL.nil ?_
        refine KQ.then_n ?_
        refine KC.ret ?_
        refine KQ.then_r ?_
        have hE := Option.some.inj hF
        clear hF
        subst hE
        have hb23 := hM.bx (i := 0) rfl
        replace hM := hM.pick [] rfl (by decide)
        refine KQ.rets Try.results22 (RVs.cons (RV.cN (cs := [.int .u8 0, .int .u16 0, .int .u16 0, .bool false, .bool false, .int .u16 0, .int .u8 0, .int .u8 0, .string ByteArray.empty, .string ByteArray.empty, .string ByteArray.empty]) rfl ag41 hb23) (RVs.cons (RV.tm rfl) (RVs.cons (RV.tm rfl) RVs.nil))) ?_
        exact ⟨_, rfl, rfl, hM⟩
      · rw [if_neg (ne_true hc)] at hF
        refine KC.skip ?_
        refine KQ.then_n ?_
        refine KC.seq ?_
        refine KC.seq ?_
        refine KC.region ?_
        refine RL.val (O.move rfl) rfl ?_
        refine RL.val (O.len sl22 rfl) rfl ?_
        refine RL.val (O.move rfl) rfl ?_
        refine RL.val (O.lss rfl rfl) rfl ?_
        refine RL.nil ?_
        refine KQ.then_n ?_
        refine KC.cond rfl (fun hc => ?_) (fun hc => ?_)
        · rw [if_pos hc] at hF
          refine KC.seq ?_
          refine KC.region ?_
          refine RL.val (O.loadN (cs := [.int .u8 0, .int .u16 0, .int .u16 0, .bool false, .bool false, .int .u16 0, .int .u8 0, .int .u8 0, .string ByteArray.empty, .string ByteArray.empty, .string ByteArray.empty]) ag41 rfl (Cs.addsN [] ((hM.bx (i := 1) rfl)) rfl)) rfl ?_
          refine RL.effs (E.stB (j := 0) (off := 0) (vs := [.int .u8 0, .int .u16 0, .int .u16 0, .bool false, .bool false, .int .u16 0, .int .u8 0, .int .u8 0, .string ByteArray.empty, .string ByteArray.empty, .string ByteArray.empty]) (cs' := [.int .u8 0, .int .u16 0, .int .u16 0, .bool false, .bool false, .int .u16 0, .int .u8 0, .int .u8 0, .string ByteArray.empty, .string ByteArray.empty, .string ByteArray.empty]) hM rfl sz41 rfl (adds_eq [] rfl) rfl rfl (One.all rfl) rfl rfl) fun w24 hM1 => ?_
          clear hM
          have hM := hM1
          clear hM1
          refine RL.val (O.assign rfl) rfl ?_
          refine RL.val (O.assign rfl) rfl ?_
          refine RL.nil ?_
          refine KQ.then_n ?_
          refine KC.ret ?_
          refine KQ.then_r ?_
          have hE := Option.some.inj hF
          clear hF
          subst hE
          have hb25 := hM.bx (i := 0) rfl
          replace hM := hM.pick [] rfl (by decide)
          refine KQ.rets Try.results22 (RVs.cons (RV.cN (cs := [.int .u8 0, .int .u16 0, .int .u16 0, .bool false, .bool false, .int .u16 0, .int .u8 0, .int .u8 0, .string ByteArray.empty, .string ByteArray.empty, .string ByteArray.empty]) rfl ag41 hb25) (RVs.cons (RV.tm rfl) (RVs.cons (RV.tm rfl) RVs.nil))) ?_
          exact ⟨_, rfl, rfl, hM⟩
        · rw [if_neg (ne_true hc)] at hF
          refine KC.skip ?_
          refine KQ.then_n ?_
          refine KC.seq ?_
          refine KC.region ?_
          refine RL.val (O.move rfl) rfl ?_
          refine obindE hF fun y26 hx27 hF => ?_
          refine RL.call Try.func43 bd43 rfl rfl (c_ref01_Get _ _ _ b1 (hM.inp hr4 Off.nil) 2 2 _ hx27) fun v w28 hv => ?_
          obtain ⟨rfl, hN29⟩ := hv
          replace hM := hM.call0 hN29
          refine RL.val (O.move rfl) rfl ?_
          refine RL.val (O.ext rfl rfl) rfl ?_
          refine RL.val (O.ext rfl rfl) rfl ?_
          refine RL.val (O.assign rfl) rfl ?_
          refine RL.val (O.assign rfl) rfl ?_
          refine RL.nil ?_
          refine KQ.then_n ?_
          refine KC.seq ?_
          refine KC.region ?_
          refine RL.val (O.move rfl) rfl ?_
          refine obindE hF fun y30 hx31 hF => ?_
          refine RL.call Try.func43 bd43 rfl rfl (c_ref01_Get _ _ _ b1 (hM.inp hr4 Off.nil) 4 2 _ hx31) fun v w32 hv => ?_
          obtain ⟨rfl, hN33⟩ := hv
          replace hM := hM.call0 hN33
          refine RL.val (O.move rfl) rfl ?_
          refine RL.val (O.ext rfl rfl) rfl ?_
          refine RL.val (O.ext rfl rfl) rfl ?_
          refine RL.val (O.assign rfl) rfl ?_
          refine RL.val (O.assign rfl) rfl ?_
          refine RL.nil ?_
          refine KQ.then_n ?_
          refine KC.seq ?_
          refine KC.region ?_
          refine RL.val (O.move rfl) rfl ?_
          refine obindE hF fun y34 hx35 hF => ?_
          refine RL.call Try.func43 bd43 rfl rfl (c_ref01_Get _ _ _ b1 (hM.inp hr4 Off.nil) 6 2 _ hx35) fun v w36 hv => ?_
          obtain ⟨rfl, hN37⟩ := hv
          replace hM := hM.call0 hN37
          refine RL.val (O.move rfl) rfl ?_
          refine RL.val (O.ext rfl rfl) rfl ?_
          refine RL.val (O.ext rfl rfl) rfl ?_
          refine RL.val (O.assign rfl) rfl ?_
          refine RL.val (O.assign rfl) rfl ?_
          refine RL.nil ?_
          refine KQ.then_n ?_
          refine KC.seq ?_
          refine KC.cut (fun a w41 => ∃ (t40 : Bool), Kn 104 [(0, .slice A2 (b1).length c3), (2, .pointer (some ⟨g5, 0, none⟩)), (5, .pointer (some ⟨g8, 0, none⟩)), (6, .int .i64 (IntKind.i64.wrap ((IntKind.i64.wrap (Int.tmod xv21 16)) * 4))), (7, .int .u64 y26.1), (9, .int .u64 y30.1), (11, .int .u64 y34.1), (60, .bool t40)] a ∧ Mem w [] w41 [.box g5 41 [.int .u8 0, .int .u16 0, .int .u16 0, .bool false, .bool false, .int .u16 0, .int .u8 0, .int .u8 0, .string ByteArray.empty, .string ByteArray.empty, .string ByteArray.empty], .box g8 41 [.int .u8 0, .int .u16 0, .int .u16 0, .bool false, .bool false, .int .u16 0, .int .u8 0, .int .u8 0, .string ByteArray.empty, .string ByteArray.empty, .string ByteArray.empty]] ∧ F_ref05_Parse_j1 b1 xv21 y26 y30 y34 t40 = some r) ?_ ?_
          · refine KC.region ?_
            refine RL.val (O.move rfl) rfl ?_
            refine RL.val (O.geq rfl rfl) rfl ?_
            refine RL.val (O.move rfl) rfl ?_
            refine RL.bcase (t := 55) rfl (fun hc => ?_) (fun hc => ?_)
            · rw [if_pos hc] at hF
              refine RL.brun1 5 60 true (by kernel_rfl) ?_
              refine RL.nil ?_
              refine KQ.then_k ?_
              exact fun a ha => ⟨true, ha.less (less_cons rfl (less_cons rfl (less_cons rfl (less_cons rfl (less_cons rfl (less_cons rfl (less_cons rfl (less_cons rfl less_nil)))))))), hM, hF⟩
            · rw [if_neg (ne_true hc)] at hF
              refine RL.gval rfl rfl (O.move rfl) rfl ?_
              refine RL.gval rfl rfl (O.conv un70 Try.underlying3 rfl) rfl ?_
              refine RL.gval rfl rfl (O.move rfl) rfl ?_
              refine RL.gval rfl rfl (O.lss rfl rfl) rfl ?_
              refine RL.val (O.pickf rfl rfl) rfl ?_
              refine RL.nil ?_
              refine KQ.then_k ?_
              exact fun a ha => ⟨(decide ((IntKind.i64.wrap y26.1) < (IntKind.i64.wrap ((IntKind.i64.wrap (Int.tmod xv21 16)) * 4)))), ha.less (less_cons rfl (less_cons rfl (less_cons rfl (less_cons rfl (less_cons rfl (less_cons rfl (less_cons rfl (less_cons rfl less_nil)))))))), hM, hF⟩
          · rintro a w41 ⟨t40, ha, hM, hF⟩
            refine KC.app ha ?_
            clear ha
            unfold F_ref05_Parse_j1 at hF
            refine KC.cond rfl (fun hc => ?_) (fun hc => ?_)
            · rw [if_pos hc] at hF
              refine KC.seq ?_
              refine KC.region ?_
              refine RL.val (O.loadN (cs := [.int .u8 0, .int .u16 0, .int .u16 0, .bool false, .bool false, .int .u16 0, .int .u8 0, .int .u8 0, .string ByteArray.empty, .string ByteArray.empty, .string ByteArray.empty]) ag41 rfl (Cs.addsN [] ((hM.bx (i := 1) rfl)) rfl)) rfl ?_
              refine RL.effs (E.stB (j := 0) (off := 0) (vs := [.int .u8 0, .int .u16 0, .int .u16 0, .bool false, .bool false, .int .u16 0, .int .u8 0, .int .u8 0, .string ByteArray.empty, .string ByteArray.empty, .string ByteArray.empty]) (cs' := [.int .u8 0, .int .u16 0, .int .u16 0, .bool false, .bool false, .int .u16 0, .int .u8 0, .int .u8 0, .string ByteArray.empty, .string ByteArray.empty, .string ByteArray.empty]) hM rfl sz41 rfl (adds_eq [] rfl) rfl rfl (One.all rfl) rfl rfl) fun w42 hM1 => ?_
              clear hM
              have hM := hM1
              clear hM1
              refine RL.val (O.assign rfl) rfl ?_
              refine RL.val (O.assign rfl) rfl ?_
              refine RL.nil ?_
              refine KQ.then_n ?_
              refine KC.ret ?_
              refine KQ.then_r ?_
              have hE := Option.some.inj hF
              clear hF
              subst hE
              have hb43 := hM.bx (i := 0) rfl
              replace hM := hM.pick [] rfl (by decide)
              refine KQ.rets Try.results22 (RVs.cons (RV.cN (cs := [.int .u8 0, .int .u16 0, .int .u16 0, .bool false, .bool false, .int .u16 0, .int .u8 0, .int .u8 0, .string ByteArray.empty, .string ByteArray.empty, .string ByteArray.empty]) rfl ag41 hb43) (RVs.cons (RV.tm rfl) (RVs.cons (RV.tm rfl) RVs.nil))) ?_
              exact ⟨_, rfl, rfl, hM⟩
            · rw [if_neg (ne_true hc)] at hF
              refine KC.skip ?_
              refine KQ.then_n ?_
              refine KC.seq ?_
              refine KC.seq ?_
              refine KC.region ?_
              refine RL.val (O.move rfl) rfl ?_
              refine RL.val (O.move rfl) rfl ?_
              refine obindE hF fun cut44 hy45 hF => ?_
              obtain ⟨A46, c47, eA49, ec50⟩ := cutN A2 c3 (Int.toNat 0) 1
              have hr48 := Rd.cutT (enc := (eI .u8)) (s := 1) (fun _ => rfl) hr4 hy45 (m := c3) (by have := hr4.cap; have := (gcut_some hy45).2.2.1; omega) (Nat.le_refl _)
              rw [← eA49, ← ec50] at hr48
              refine RL.val (v := .slice A46 (cut44).length c47) (by rw [eA49, ec50]; exact O.cuthT sl22 (hM.inp hr4 Off.nil) hy45 rfl rfl) rfl ?_
              refine obindE hF fun y51 hx52 hF => ?_
              refine RL.call Try.func44 bd44 rfl rfl (c_ref03_Whole _ _ _ cut44 (hM.inp hr48 Off.nil) _ hx52) fun v w53 hv => ?_
              obtain ⟨rfl, hN54⟩ := hv
              replace hM := hM.call0 hN54
              refine RL.val (O.not rfl) rfl ?_
              refine RL.nil ?_
              refine KQ.then_n ?_
              refine KC.cond rfl (fun hc => ?_) (fun hc => ?_)
              · rw [if_pos hc] at hF
                refine KC.seq ?_
                refine KC.region ?_
                refine RL.val (O.loadN (cs := [.int .u8 0, .int .u16 0, .int .u16 0, .bool false, .bool false, .int .u16 0, .int .u8 0, .int .u8 0, .string ByteArray.empty, .string ByteArray.empty, .string ByteArray.empty]) ag41 rfl (Cs.addsN [] ((hM.bx (i := 1) rfl)) rfl)) rfl ?_
                refine RL.effs (E.stB (j := 0) (off := 0) (vs := [.int .u8 0, .int .u16 0, .int .u16 0, .bool false, .bool false, .int .u16 0, .int .u8 0, .int .u8 0, .string ByteArray.empty, .string ByteArray.empty, .string ByteArray.empty]) (cs' := [.int .u8 0, .int .u16 0, .int .u16 0, .bool false, .bool false, .int .u16 0, .int .u8 0, .int .u8 0, .string ByteArray.empty, .string ByteArray.empty, .string ByteArray.empty]) hM rfl sz41 rfl (adds_eq [] rfl) rfl rfl (One.all rfl) rfl rfl) fun w55 hM1 => ?_
                clear hM
                have hM := hM1
                clear hM1
                refine RL.val (O.assign rfl) rfl ?_
                refine RL.val (O.assign rfl) rfl ?_
                refine RL.nil ?_
                refine KQ.then_n ?_
                refine KC.ret ?_
                refine KQ.then_r ?_
                have hE := Option.some.inj hF
                clear hF
                subst hE
                have hb56 := hM.bx (i := 0) rfl
                replace hM := hM.pick [] rfl (by decide)
                refine KQ.rets Try.results22 (RVs.cons (RV.cN (cs := [.int .u8 0, .int .u16 0, .int .u16 0, .bool false, .bool false, .int .u16 0, .int .u8 0, .int .u8 0, .string ByteArray.empty, .string ByteArray.empty, .string ByteArray.empty]) rfl ag41 hb56) (RVs.cons (RV.tm rfl) (RVs.cons (RV.tm rfl) RVs.nil))) ?_
                exact ⟨_, rfl, rfl, hM⟩
              · rw [if_neg (ne_true hc)] at hF
                refine KC.skip ?_
                refine KQ.then_n ?_
                refine KC.seq ?_
                replace hM := hM.drewN 1
                refine KC.draw [] [36] [36] [0, 3, 4, 5, 6, 7, 8, 9, 10, 11, 12, 13, 14, 15, 16, 17, 18, 21, 24, 25, 27, 28, 30, 31, 32, 35, 37, 38] (.ofList [0, 1, 2, 3, 4, 5, 6, 7, 8, 9, 10, 11, 12, 13, 14, 15, 16, 17, 18, 19, 20, 21, 22, 23, 24, 25, 26, 27, 28, 29, 30, 31, 32, 33, 34, 35, 36, 37, 38]) moP (by kernel_rfl) ?_
                refine RD.p rfl rfl rfl rfl (fun w' => O.move rfl) ?_
                refine obindE hF fun xv59 hx58 hF => ?_
                have hA57 := Rd.atN (f := (eI .u8)) (s := 1) (fun _ => rfl) (by decide) (hM.inp hr4 Off.nil) hx58
                refine RD.q rfl rfl rfl rfl (fun w' hf => O.idxA sl22 (hA57.fut hf) rfl rfl) ?_
                refine RD.q rfl rfl rfl rfl (fun w' hf => O.load sc5 rfl (hA57.fut hf).cells.at0) ?_
                refine RD.p rfl rfl rfl rfl (fun w' => O.move rfl) ?_
                refine RD.p rfl rfl rfl rfl (fun w' => O.conv un70 Try.underlying36 rfl) ?_
                refine RD.p rfl rfl rfl rfl (fun w' => O.move rfl) ?_
                refine RD.p rfl rfl rfl rfl (fun w' => O.conv un70 Try.underlying36 rfl) ?_
                refine RD.p rfl rfl rfl rfl (fun w' => O.move rfl) ?_
                refine RD.p rfl rfl rfl rfl (fun w' => O.quo rfl rfl (by decide)) ?_
                refine RD.p rfl rfl rfl rfl (fun w' => O.rem rfl rfl (by decide)) ?_
                refine RD.p rfl rfl rfl rfl (fun w' => O.eql rfl rfl) ?_
                refine RD.p rfl rfl rfl rfl (fun w' => O.move rfl) ?_
                refine RD.p rfl rfl rfl rfl (fun w' => O.quo rfl rfl (by decide)) ?_
                refine RD.p rfl rfl rfl rfl (fun w' => O.rem rfl rfl (by decide)) ?_
                refine RD.p rfl rfl rfl rfl (fun w' => O.eql rfl rfl) ?_
                refine RD.p rfl rfl rfl rfl (fun w' => O.move rfl) ?_
                refine RD.p rfl rfl rfl rfl (fun w' => O.rem rfl rfl (by decide)) ?_
                refine RD.p rfl rfl rfl rfl (fun w' => O.conv un70 Try.underlying36 rfl) ?_
                refine RD.p rfl rfl rfl rfl (fun w' => O.move rfl) ?_
                refine obindE hF fun xv62 hx61 hF => ?_
                have hA60 := Rd.atN (f := (eI .u8)) (s := 1) (fun _ => rfl) (by decide) (hM.inp hr4 Off.nil) hx61
                refine RD.q rfl rfl rfl rfl (fun w' hf => O.idxA sl22 (hA60.fut hf) rfl rfl) ?_
                refine RD.q rfl rfl rfl rfl (fun w' hf => O.load sc5 rfl (hA60.fut hf).cells.at0) ?_
                refine RD.p rfl rfl rfl rfl (fun w' => O.move rfl) ?_
                refine obindE hF fun xv65 hx64 hF => ?_
                have hA63 := Rd.atN (f := (eI .u8)) (s := 1) (fun _ => rfl) (by decide) (hM.inp hr4 Off.nil) hx64
                refine RD.q rfl rfl rfl rfl (fun w' hf => O.idxA sl22 (hA63.fut hf) rfl rfl) ?_
                refine RD.q rfl rfl rfl rfl (fun w' hf => O.load sc5 rfl (hA63.fut hf).cells.at0) ?_
                refine RD.p rfl rfl rfl rfl (fun w' => O.move rfl) ?_
                refine obindE hF fun cut66 hy67 hF => ?_
                obtain ⟨A68, c69, eA71, ec72⟩ := cutN A2 c3 (Int.toNat 12) 1
                have hr70 := Rd.cutT (enc := (eI .u8)) (s := 1) (fun _ => rfl) hr4 hy67 (m := c3) (by have := hr4.cap; have := (gcut_some hy67).2.2.1; omega) (Nat.le_refl _)
                rw [← eA71, ← ec72] at hr70
                refine RD.p (v := .slice A68 (cut66).length c69) rfl rfl rfl rfl (fun w' => (by rw [eA71, ec72]; exact O.cutT sl22 (hM.inp hr4 Off.nil) hy67 rfl rfl rfl)) ?_
                refine RD.q rfl rfl rfl rfl (fun w' hf => O.b2s sl22 Try.underlying5 Try.underlying9 rfl ((hM.inp hr70 Off.nil).fut hf)) ?_
                refine RD.p rfl rfl rfl rfl (fun w' => O.move rfl) ?_
                refine obindE hF fun cut73 hy74 hF => ?_
                obtain ⟨A75, c76, eA78, ec79⟩ := cutN A2 c3 (Int.toNat 16) 1
                have hr77 := Rd.cutT (enc := (eI .u8)) (s := 1) (fun _ => rfl) hr4 hy74 (m := c3) (by have := hr4.cap; have := (gcut_some hy74).2.2.1; omega) (Nat.le_refl _)
                rw [← eA78, ← ec79] at hr77
                refine RD.p (v := .slice A75 (cut73).length c76) rfl rfl rfl rfl (fun w' => (by rw [eA78, ec79]; exact O.cutT sl22 (hM.inp hr4 Off.nil) hy74 rfl rfl rfl)) ?_
                refine RD.q rfl rfl rfl rfl (fun w' hf => O.b2s sl22 Try.underlying5 Try.underlying9 rfl ((hM.inp hr77 Off.nil).fut hf)) ?_
                refine RD.p rfl rfl rfl rfl (fun w' => O.move rfl) ?_
                refine RD.p rfl rfl rfl rfl (fun w' => O.move rfl) ?_
                refine obindE hF fun cut80 hy81 hF => ?_
                obtain ⟨A82, c83, eA85, ec86⟩ := cutN A2 c3 (Int.toNat 20) 1
                have hr84 := Rd.cutT (enc := (eI .u8)) (s := 1) (fun _ => rfl) hr4 hy81 (m := c3) (by have := hr4.cap; have := (gcut_some hy81).2.2.1; omega) (Nat.le_refl _)
                rw [← eA85, ← ec86] at hr84
                refine RD.p (v := .slice A82 (cut80).length c83) rfl rfl rfl rfl (fun w' => (by rw [eA85, ec86]; exact O.cutT sl22 (hM.inp hr4 Off.nil) hy81 rfl rfl rfl)) ?_
                refine RD.q rfl rfl rfl rfl (fun w' hf => O.b2s sl22 Try.underlying5 Try.underlying9 rfl ((hM.inp hr84 Off.nil).fut hf)) ?_
                refine RD.q rfl rfl rfl rfl (fun w' hf => O.bld (cs := [.int .u8 xv59, .int .u16 (IntKind.u16.wrap y26.1), .int .u16 (IntKind.u16.wrap y30.1), .bool ((Int.tmod (IntKind.u64.wrap (Int.tdiv y34.1 16384)) 2) == 1), .bool ((Int.tmod (IntKind.u64.wrap (Int.tdiv y34.1 8192)) 2) == 1), .int .u16 (IntKind.u16.wrap (Int.tmod y34.1 8192)), .int .u8 xv62, .int .u8 xv65, .string (strOfNums cut66), .string (strOfNums cut73), .string (strOfNums cut80)]) bt41 rfl (by kernel_rfl)) ?_
                refine RD.p rfl rfl rfl rfl (fun w' => O.move rfl) ?_
                refine RD.meffs rfl rfl rfl (E.stB (j := 0) (off := 0) (vs := [.int .u8 xv59, .int .u16 (IntKind.u16.wrap y26.1), .int .u16 (IntKind.u16.wrap y30.1), .bool ((Int.tmod (IntKind.u64.wrap (Int.tdiv y34.1 16384)) 2) == 1), .bool ((Int.tmod (IntKind.u64.wrap (Int.tdiv y34.1 8192)) 2) == 1), .int .u16 (IntKind.u16.wrap (Int.tmod y34.1 8192)), .int .u8 xv62, .int .u8 xv65, .string (strOfNums cut66), .string (strOfNums cut73), .string (strOfNums cut80)]) (cs' := [.int .u8 xv59, .int .u16 (IntKind.u16.wrap y26.1), .int .u16 (IntKind.u16.wrap y30.1), .bool ((Int.tmod (IntKind.u64.wrap (Int.tdiv y34.1 16384)) 2) == 1), .bool ((Int.tmod (IntKind.u64.wrap (Int.tdiv y34.1 8192)) 2) == 1), .int .u16 (IntKind.u16.wrap (Int.tmod y34.1 8192)), .int .u8 xv62, .int .u8 xv65, .string (strOfNums cut66), .string (strOfNums cut73), .string (strOfNums cut80)]) hM rfl sz41 rfl (adds_eq [] rfl) rfl rfl (One.all rfl) rfl rfl) fun w87 hM1 => ?_
                clear hM
                have hM := hM1
                clear hM1
                refine RD.p rfl rfl rfl rfl (fun w' => O.assign rfl) ?_
                refine RD.p rfl rfl rfl rfl (fun w' => O.assign rfl) ?_
                refine RD.nil ?_
                refine KQ.then_n ?_
                refine KC.ret ?_
                have hE := Option.some.inj hF
                clear hF
                subst hE
                have hb88 := hM.bx (i := 0) rfl
                replace hM := hM.pick [] rfl (by decide)
                refine KQ.rets Try.results22 (RVs.cons (RV.cN (cs := [.int .u8 xv59, .int .u16 (IntKind.u16.wrap y26.1), .int .u16 (IntKind.u16.wrap y30.1), .bool ((Int.tmod (IntKind.u64.wrap (Int.tdiv y34.1 16384)) 2) == 1), .bool ((Int.tmod (IntKind.u64.wrap (Int.tdiv y34.1 8192)) 2) == 1), .int .u16 (IntKind.u16.wrap (Int.tmod y34.1 8192)), .int .u8 xv62, .int .u8 xv65, .string (strOfNums cut66), .string (strOfNums cut73), .string (strOfNums cut80)]) rfl ag41 hb88) (RVs.cons (RV.tm rfl) (RVs.cons (RV.tm rfl) RVs.nil))) ?_
                exact ⟨_, rfl, rfl, hM⟩
end Go.Proofs.Ytjfdfjmnajjjaaa
