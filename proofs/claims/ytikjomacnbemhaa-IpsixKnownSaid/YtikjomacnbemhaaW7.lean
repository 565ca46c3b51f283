/- Printed by a program of this claim: each call returns what the plain function of its name gives. -/
import Derived.Test.YtikjomacnbemhaaW6
set_option linter.unusedVariables false
namespace Go.Proofs.Ytikjomacnbemhaa
open Go Go.Ox Go.RowKit
set_option maxRecDepth 100000 in
set_option maxHeartbeats 40000000 in
theorem c_ref06_ParseChain (w : World) (first1 : Int) (A3 : Option Addr) (c4 : Nat) (b2 : List Int) (hr5 : Rd w A3 c4 1 b2.length (b2.flatMap (eI .u8))) (r : T_ref06_Chain × Int × Int) (hF : F_ref06_ParseChain first1 b2 = some r) :
    CallsR Try.prog 22 [.int .u8 first1, .slice A3 (b2).length c4] w (fun v w' => ∃ (A0 : Option Addr) (c0 : Nat), v = .tuple #[.agg #[.slice A0 (r.1.f_Exts).length c0, .int .u8 r.1.f_Proto], .int .i64 r.2.1, .int .i64 r.2.2] ∧ Mem w [] w' [.row A0 c0 76 2 r.1.f_Exts.length (r.1.f_Exts.flatMap e_ref06_Ext)]) := by
  refine calls_KC Try.func22 rfl Try.ntmps22 rfl ?_
  have hM := Mem.init w
  unfold F_ref06_ParseChain at hF
  refine KC.seq ?_
  refine KC.region ?_
  refine RL.eff (E.alloc hM ze29) rfl fun v w7 hv => ?_
  clear hM
  obtain ⟨g6, rfl, hM, hf⟩ := hv
  refine RL.val (O.assign rfl) rfl ?_
  refine RL.val (O.assign rfl) rfl ?_
  refine RL.nil ?_
  refine KQ.then_n ?_
  refine KC.seq ?_
  refine KC.region ?_
  refine RL.eff (E.alloc hM ze29) rfl fun v w10 hv => ?_
  clear hM
  obtain ⟨g9, rfl, hM, hf⟩ := hv
  refine RL.nil ?_
  refine KQ.then_n ?_
  refine KC.seq ?_
  refine KC.region ?_
  refine RL.val (O.assign rfl) rfl ?_
  refine RL.nil ?_
  refine KQ.then_n ?_
  refine KC.seq ?_
  refine KC.region ?_
  refine RL.val (O.assign rfl) rfl ?_
  refine RL.nil ?_
  refine KQ.then_n ?_
  refine KC.seq ?_
  refine KC.block ?_
  refine KC.loop (fun k160 a w158 => ∃ (A153 : Option Addr) (c154 : Nat) (first149 : Int) (out155 : List T_ref06_Ext) (atv156 : Int) (stop157 : Bool), Kn 101 [(0, .int .u8 first149), (1, .slice A3 (b2).length c4), (4, .pointer (some ⟨g6, 0, none⟩)), (7, .pointer (some ⟨g9, 0, none⟩)), (8, .int .i64 atv156), (9, .bool stop157)] a ∧ Mem w [] w158 [.box g6 29 [.slice none 0 0, .int .u8 0], .row A153 c154 76 2 (out155).length ((out155).flatMap e_ref06_Ext), .box g9 29 [.slice A153 (out155).length c154, .int .u8 0]] ∧ F_ref06_ParseChain_L1 b2 k160 first149 out155 atv156 stop157 = some r) ?_ ?_
  · replace hM := hM.nilrow 76 2
    replace hM := hM.pick [0, 2, 1] rfl (by decide)
    exact fun a ha => ⟨fuel0, none, 0, first1, ([]), 0, false, ha.less (less_cons rfl (less_cons rfl (less_cons rfl (less_cons rfl (less_cons rfl (less_cons rfl less_nil)))))), hM, hF⟩
  · rintro k160 a w158 ⟨A153, c154, first149, out155, atv156, stop157, ha, hM, hF⟩
    refine KC.app ha ?_
    clear ha
    cases k160 with
    | zero => exact (none_some hF).elim
    | succ k160 =>
    have hF : F_ref06_ParseChain_l1 (F_ref06_ParseChain_L1 b2 k160) b2 first149 out155 atv156 stop157 = some r := hF
    unfold F_ref06_ParseChain_l1 at hF
    refine KC.seq ?_
    refine KC.cut (fun a w169 => ∃ (t168 : Bool), Kn 101 [(0, .int .u8 first149), (1, .slice A3 (b2).length c4), (4, .pointer (some ⟨g6, 0, none⟩)), (7, .pointer (some ⟨g9, 0, none⟩)), (8, .int .i64 atv156), (17, .bool t168)] a ∧ Mem w [] w169 [.box g6 29 [.slice none 0 0, .int .u8 0], .row A153 c154 76 2 (out155).length ((out155).flatMap e_ref06_Ext), .box g9 29 [.slice A153 (out155).length c154, .int .u8 0]] ∧ F_ref06_ParseChain_j1 b2 first149 out155 atv156 (F_ref06_ParseChain_L1 b2 k160) t168 = some r) ?_ ?_
    · refine KC.region ?_
      refine RL.val (O.move rfl) rfl ?_
      refine obindE hF fun y161 hx162 hF => ?_
      refine RL.call Try.func44 bd44 rfl rfl (c_ref06_kind _ first149 _ hx162) fun v w163 hv => ?_
      obtain ⟨rfl, hN164⟩ := hv
      replace hM := hM.call0 hN164
      refine RL.val (O.move rfl) rfl ?_
      refine RL.bcase (t := 14) rfl (fun hc => ?_) (fun hc => ?_)
      · rw [if_pos hc] at hF
        refine RL.gval rfl rfl (O.move rfl) rfl ?_
        refine RL.gval rfl rfl (O.not rfl) rfl ?_
        refine RL.val (O.pickt rfl rfl) rfl ?_
        refine RL.nil ?_
        refine KQ.then_k ?_
        exact fun a ha => ⟨(!stop157), ha.less (less_cons rfl (less_cons rfl (less_cons rfl (less_cons rfl (less_cons rfl (less_cons rfl less_nil)))))), hM, hF⟩
      · rw [if_neg (ne_true hc)] at hF
        refine RL.gskip rfl rfl rfl rfl ?_
        refine RL.gskip rfl rfl rfl rfl ?_
        refine RL.val (O.pickf rfl rfl) rfl ?_
        refine RL.nil ?_
        refine KQ.then_k ?_
        exact fun a ha => ⟨false, ha.less (less_cons rfl (less_cons rfl (less_cons rfl (less_cons rfl (less_cons rfl (less_cons rfl less_nil)))))), hM, hF⟩
    · rintro a w169 ⟨t168, ha, hM, hF⟩
      refine KC.app ha ?_
      clear ha
      unfold F_ref06_ParseChain_j1 at hF
      refine KC.cond rfl (fun hc => ?_) (fun hc => ?_)
      · rw [if_pos hc] at hF
        refine KC.skip ?_
        refine KQ.then_n ?_
        refine KC.block ?_
        refine KC.seq ?_
        refine KC.cut (fun a w174 => ∃ (t173 : Bool), Kn 101 [(0, .int .u8 first149), (1, .slice A3 (b2).length c4), (4, .pointer (some ⟨g6, 0, none⟩)), (7, .pointer (some ⟨g9, 0, none⟩)), (8, .int .i64 atv156), (31, .bool t173)] a ∧ Mem w [] w174 [.box g6 29 [.slice none 0 0, .int .u8 0], .row A153 c154 76 2 (out155).length ((out155).flatMap e_ref06_Ext), .box g9 29 [.slice A153 (out155).length c154, .int .u8 0]] ∧ F_ref06_ParseChain_j2 b2 first149 out155 atv156 (F_ref06_ParseChain_L1 b2 k160) t173 = some r) ?_ ?_
        · refine KC.region ?_
          refine RL.val (O.fldA fl29_0 (by decide) rfl) rfl ?_
          refine RL.val (O.load sc27 rfl (Cs.adds [0] ((hM.bx (i := 2) rfl)) rfl)) rfl ?_
          refine RL.val (O.len sl27 rfl) rfl ?_
          refine RL.val (O.eql rfl rfl) rfl ?_
          refine RL.val (O.move rfl) rfl ?_
          refine RL.bcase (t := 22) rfl (fun hc => ?_) (fun hc => ?_)
          · rw [if_pos hc] at hF
            refine RL.gskip rfl rfl rfl rfl ?_
            refine RL.gskip rfl rfl rfl rfl ?_
            refine RL.gskip rfl rfl rfl rfl ?_
            refine RL.gskip' rfl rfl rfl ?_
            refine RL.gskip' rfl rfl rfl ?_
            refine RL.gskip' rfl rfl rfl ?_
            refine RL.gskip' rfl rfl rfl ?_
            refine RL.gskip rfl rfl rfl rfl ?_
            refine RL.val (O.pickt rfl rfl) rfl ?_
            refine RL.nil ?_
            refine KQ.then_k ?_
            exact fun a ha => ⟨true, ha.less (less_cons rfl (less_cons rfl (less_cons rfl (less_cons rfl (less_cons rfl (less_cons rfl less_nil)))))), hM, hF⟩
          · rw [if_neg (ne_true hc)] at hF
            refine RL.gval rfl rfl (O.move rfl) rfl ?_
            refine RL.gval rfl rfl (O.eql rfl rfl) rfl ?_
            refine RL.gval rfl rfl (O.move rfl) rfl ?_
            refine RL.bcase (t := 25) rfl (fun hc => ?_) (fun hc => ?_)
            · rw [if_pos hc] at hF
              refine RL.gval rfl rfl (O.fldA fl29_0 (by decide) rfl) rfl ?_
              refine RL.gval rfl rfl (O.load sc27 rfl (Cs.adds [0] ((hM.bx (i := 2) rfl)) rfl)) rfl ?_
              refine RL.gval rfl rfl (O.len sl27 rfl) rfl ?_
              refine RL.gval rfl rfl (O.gtr rfl rfl) rfl ?_
              refine RL.gval rfl rfl (O.pickt rfl rfl) rfl ?_
              refine RL.val (O.pickf rfl rfl) rfl ?_
              refine RL.nil ?_
              refine KQ.then_k ?_
              exact fun a ha => ⟨(decide (0 < (out155.length : Int))), ha.less (less_cons rfl (less_cons rfl (less_cons rfl (less_cons rfl (less_cons rfl (less_cons rfl less_nil)))))), hM, hF⟩
            · rw [if_neg (ne_true hc)] at hF
              refine RL.gskip rfl rfl rfl rfl ?_
              refine RL.gskip rfl rfl rfl rfl ?_
              refine RL.gskip rfl rfl rfl rfl ?_
              refine RL.gskip rfl rfl rfl rfl ?_
              refine RL.gval rfl rfl (O.pickf rfl rfl) rfl ?_
              refine RL.val (O.pickf rfl rfl) rfl ?_
              refine RL.nil ?_
              refine KQ.then_k ?_
              exact fun a ha => ⟨false, ha.less (less_cons rfl (less_cons rfl (less_cons rfl (less_cons rfl (less_cons rfl (less_cons rfl less_nil)))))), hM, hF⟩
        · rintro a w174 ⟨t173, ha, hM, hF⟩
          refine KC.app ha ?_
          clear ha
          unfold F_ref06_ParseChain_j2 at hF
          refine KC.cond rfl (fun hc => ?_) (fun hc => ?_)
          · rw [if_pos hc] at hF
            refine KC.seq ?_
            refine KC.region ?_
            refine RL.val (O.bld (cs := [.slice none 0 0, .int .u8 0]) bt29 rfl (by kernel_rfl)) rfl ?_
            refine RL.effs (E.stB (j := 0) (off := 0) (vs := [.slice none 0 0, .int .u8 0]) (cs' := [.slice none 0 0, .int .u8 0]) hM rfl sz29 rfl (adds_eq [] rfl) rfl rfl (One.all rfl) rfl rfl) fun w175 hM1 => ?_
            clear hM
            have hM := hM1
            clear hM1
            refine RL.val (O.assign rfl) rfl ?_
            refine RL.val (O.assign rfl) rfl ?_
            refine RL.nil ?_
            refine KQ.then_n ?_
            refine KC.ret ?_
            refine KQ.then_r ?_
            refine KQ.blk_r ?_
            refine KQ.then_r ?_
            refine KQ.blk_r ?_
            refine KQ.then_r ?_
            obtain rfl := Option.some.inj hF
            have hb176 := hM.bx (i := 0) rfl
            replace hM := hM.nilrow 76 2
            replace hM := hM.pick [3] rfl (by decide)
            refine KQ.rets Try.results22 (RVs.cons (RV.cN (cs := [.slice none 0 0, .int .u8 0]) rfl ag29 hb176) (RVs.cons (RV.tm rfl) (RVs.cons (RV.tm rfl) RVs.nil))) ?_
            exact ⟨_, rfl, none, 0, rfl, hM⟩
          · rw [if_neg (ne_true hc)] at hF
            refine KC.skip ?_
            refine KQ.then_n ?_
            refine KC.seq ?_
            refine KC.seq ?_
            refine KC.region ?_
            refine RL.val (O.move rfl) rfl ?_
            refine RL.val (O.add rfl rfl) rfl ?_
            refine RL.val (O.move rfl) rfl ?_
            refine RL.val (O.len sl31 rfl) rfl ?_
            refine RL.val (O.gtr rfl rfl) rfl ?_
            refine RL.nil ?_
            refine KQ.then_n ?_
            refine KC.cond rfl (fun hc => ?_) (fun hc => ?_)
            · rw [if_pos hc] at hF
              refine KC.seq ?_
              refine KC.region ?_
              refine RL.val (O.bld (cs := [.slice none 0 0, .int .u8 0]) bt29 rfl (by kernel_rfl)) rfl ?_
              refine RL.effs (E.stB (j := 0) (off := 0) (vs := [.slice none 0 0, .int .u8 0]) (cs' := [.slice none 0 0, .int .u8 0]) hM rfl sz29 rfl (adds_eq [] rfl) rfl rfl (One.all rfl) rfl rfl) fun w177 hM1 => ?_
              clear hM
              have hM := hM1
              clear hM1
              refine RL.val (O.assign rfl) rfl ?_
              refine RL.val (O.assign rfl) rfl ?_
              refine RL.nil ?_
              refine KQ.then_n ?_
              refine KC.ret ?_
              refine KQ.then_r ?_
              refine KQ.blk_r ?_
              refine KQ.then_r ?_
              refine KQ.blk_r ?_
              refine KQ.then_r ?_
              obtain rfl := Option.some.inj hF
              have hb178 := hM.bx (i := 0) rfl
              replace hM := hM.nilrow 76 2
              replace hM := hM.pick [3] rfl (by decide)
              refine KQ.rets Try.results22 (RVs.cons (RV.cN (cs := [.slice none 0 0, .int .u8 0]) rfl ag29 hb178) (RVs.cons (RV.tm rfl) (RVs.cons (RV.tm rfl) RVs.nil))) ?_
              exact ⟨_, rfl, none, 0, rfl, hM⟩
            · rw [if_neg (ne_true hc)] at hF
              refine KC.skip ?_
              refine KQ.then_n ?_
              refine KC.seq ?_
              refine KC.region ?_
              refine RL.val (O.move rfl) rfl ?_
              refine RL.val (O.move rfl) rfl ?_
              refine RL.val (O.add rfl rfl) rfl ?_
              refine obindE hF fun xv181 hx180 hF => ?_
              have hA179 := Rd.atN (f := (eI .u8)) (s := 1) (fun _ => rfl) (by decide) (hM.inp hr5 Off.nil) hx180
              refine RL.val (O.idxA sl31 (hA179) rfl rfl) rfl ?_
              refine RL.val (O.load sc5 rfl (hA179).cells.at0) rfl ?_
              refine RL.val (O.conv un5 Try.underlying3 rfl) rfl ?_
              refine RL.val (O.add rfl rfl) rfl ?_
              refine RL.val (O.mul rfl rfl) rfl ?_
              refine RL.val (O.assign rfl) rfl ?_
              refine RL.nil ?_
              refine KQ.then_n ?_
              refine KC.cut (fun a w186 => ∃ (nv185 : Int), Kn 101 [(0, .int .u8 first149), (1, .slice A3 (b2).length c4), (4, .pointer (some ⟨g6, 0, none⟩)), (7, .pointer (some ⟨g9, 0, none⟩)), (8, .int .i64 atv156), (10, .int .i64 nv185)] a ∧ Mem w [] w186 [.box g6 29 [.slice none 0 0, .int .u8 0], .row A153 c154 76 2 (out155).length ((out155).flatMap e_ref06_Ext), .box g9 29 [.slice A153 (out155).length c154, .int .u8 0]] ∧ F_ref06_ParseChain_j3 b2 first149 out155 atv156 (F_ref06_ParseChain_L1 b2 k160) nv185 = some r) ?_ ?_
              · refine KC.seq ?_
                refine KC.region ?_
                refine RL.val (O.move rfl) rfl ?_
                refine RL.val (O.eql rfl rfl) rfl ?_
                refine RL.nil ?_
                refine KQ.then_n ?_
                refine KC.cond rfl (fun hc => ?_) (fun hc => ?_)
                · rw [if_pos hc] at hF
                  refine KC.region ?_
                  refine RL.val (O.assign rfl) rfl ?_
                  refine RL.nil ?_
                  refine KQ.then_k ?_
                  exact fun a ha => ⟨8, ha.less (less_cons rfl (less_cons rfl (less_cons rfl (less_cons rfl (less_cons rfl (less_cons rfl less_nil)))))), hM, hF⟩
                · rw [if_neg (ne_true hc)] at hF
                  refine KC.skip ?_
                  refine KQ.then_k ?_
                  exact fun a ha => ⟨(IntKind.i64.wrap (8 * (IntKind.i64.wrap ((IntKind.i64.wrap xv181) + 1)))), ha.less (less_cons rfl (less_cons rfl (less_cons rfl (less_cons rfl (less_cons rfl (less_cons rfl less_nil)))))), hM, hF⟩
              · rintro a w186 ⟨nv185, ha, hM, hF⟩
                refine KC.app ha ?_
                clear ha
                unfold F_ref06_ParseChain_j3 at hF
                refine KC.seq ?_
                refine KC.seq ?_
                refine KC.region ?_
                refine RL.val (O.move rfl) rfl ?_
                refine RL.val (O.move rfl) rfl ?_
                refine RL.val (O.add rfl rfl) rfl ?_
                refine RL.val (O.move rfl) rfl ?_
                refine RL.val (O.len sl31 rfl) rfl ?_
                refine RL.val (O.gtr rfl rfl) rfl ?_
                refine RL.nil ?_
                refine KQ.then_n ?_
                refine KC.cond rfl (fun hc => ?_) (fun hc => ?_)
                · rw [if_pos hc] at hF
                  refine KC.seq ?_
                  refine KC.region ?_
                  refine RL.val (O.bld (cs := [.slice none 0 0, .int .u8 0]) bt29 rfl (by kernel_rfl)) rfl ?_
                  refine RL.effs (E.stB (j := 0) (off := 0) (vs := [.slice none 0 0, .int .u8 0]) (cs' := [.slice none 0 0, .int .u8 0]) hM rfl sz29 rfl (adds_eq [] rfl) rfl rfl (One.all rfl) rfl rfl) fun w187 hM1 => ?_
                  clear hM
                  have hM := hM1
                  clear hM1
                  refine RL.val (O.assign rfl) rfl ?_
                  refine RL.val (O.assign rfl) rfl ?_
                  refine RL.nil ?_
                  refine KQ.then_n ?_
                  refine KC.ret ?_
                  refine KQ.then_r ?_
                  refine KQ.blk_r ?_
                  refine KQ.then_r ?_
                  refine KQ.blk_r ?_
                  refine KQ.then_r ?_
                  obtain rfl := Option.some.inj hF
                  have hb188 := hM.bx (i := 0) rfl
                  replace hM := hM.nilrow 76 2
                  replace hM := hM.pick [3] rfl (by decide)
                  refine KQ.rets Try.results22 (RVs.cons (RV.cN (cs := [.slice none 0 0, .int .u8 0]) rfl ag29 hb188) (RVs.cons (RV.tm rfl) (RVs.cons (RV.tm rfl) RVs.nil))) ?_
                  exact ⟨_, rfl, none, 0, rfl, hM⟩
                · rw [if_neg (ne_true hc)] at hF
                  refine KC.skip ?_
                  refine KQ.then_n ?_
                  refine KC.seq ?_
                  refine KC.region ?_
                  refine RL.val (O.move rfl) rfl ?_
                  refine RL.val (O.move rfl) rfl ?_
                  refine RL.val (O.move rfl) rfl ?_
                  refine RL.val (O.add rfl rfl) rfl ?_
                  refine RL.val (O.move rfl) rfl ?_
                  refine RL.val (O.move rfl) rfl ?_
                  refine RL.val (O.add rfl rfl) rfl ?_
                  refine obindE hF fun cut189 hy190 hF => ?_
                  obtain ⟨A191, c192, eA194, ec195⟩ := cutN A3 c4 (Int.toNat (IntKind.i64.wrap (atv156 + 2))) 1
                  have hr193 := Rd.cutT (enc := (eI .u8)) (s := 1) (fun _ => rfl) hr5 hy190 (m := c4) (by have := hr5.cap; have := (gcut_some hy190).2.2.1; omega) (Nat.le_refl _)
                  rw [← eA194, ← ec195] at hr193
                  refine RL.val (v := .slice A191 (cut189).length c192) (by rw [eA194, ec195]; exact O.cutT sl31 (hM.inp hr5 Off.nil) hy190 rfl rfl rfl) rfl ?_
                  refine RL.val (O.b2s sl31 Try.underlying5 Try.underlying9 rfl ((hM.inp hr193 Off.nil))) rfl ?_
                  refine RL.val (O.bld (cs := [.int .u8 first149, .string (strOfNums cut189)]) bt76 rfl (by kernel_rfl)) rfl ?_
                  refine RL.eff (E.alloc hM ze76) rfl fun v w197 hv => ?_
                  clear hM
                  obtain ⟨g196, rfl, hM, hf⟩ := hv
                  refine RL.effs (E.stB (j := 3) (off := 0) (vs := [.int .u8 first149, .string (strOfNums cut189)]) (cs' := [.int .u8 first149, .string (strOfNums cut189)]) hM rfl sz76 rfl (adds_eq [] rfl) rfl rfl (One.all rfl) rfl rfl) fun w199 hM1 => ?_
                  clear hM
                  have hM := hM1
                  clear hM1
                  refine RL.nil ?_
                  refine KQ.then_n ?_
                  refine KC.seq ?_
                  refine KC.cut (fun a w212 => ∃ (t211 : Bool), Kn 101 [(1, .slice A3 (b2).length c4), (4, .pointer (some ⟨g6, 0, none⟩)), (7, .pointer (some ⟨g9, 0, none⟩)), (8, .int .i64 atv156), (10, .int .i64 nv185), (11, .pointer (some ⟨g196, 0, none⟩)), (80, .bool t211)] a ∧ Mem w [] w212 [.box g6 29 [.slice none 0 0, .int .u8 0], .row A153 c154 76 2 (out155).length ((out155).flatMap e_ref06_Ext), .box g9 29 [.slice A153 (out155).length c154, .int .u8 0], .box g196 76 [.int .u8 first149, .string (strOfNums cut189)]] ∧ F_ref06_ParseChain_j4 b2 first149 out155 atv156 (F_ref06_ParseChain_L1 b2 k160) nv185 cut189 t211 = some r) ?_ ?_
                  · refine KC.region ?_
                    refine RL.val (O.move rfl) rfl ?_
                    refine RL.val (O.eql rfl rfl) rfl ?_
                    refine RL.val (O.move rfl) rfl ?_
                    refine RL.bcase (t := 68) rfl (fun hc => ?_) (fun hc => ?_)
                    · rw [if_pos hc] at hF
                      refine RL.gval rfl rfl (O.move rfl) rfl ?_
                      refine RL.gval rfl rfl (O.move rfl) rfl ?_
                      refine RL.gval rfl rfl (O.add rfl rfl) rfl ?_
                      refine obindE hF fun xv202 hx201 hF => ?_
                      have hA200 := Rd.atN (f := (eI .u8)) (s := 1) (fun _ => rfl) (by decide) (hM.inp hr5 Off.nil) hx201
                      refine RL.gval rfl rfl (O.idxA sl31 (hA200) rfl rfl) rfl ?_
                      refine RL.gval rfl rfl (O.load sc5 rfl (hA200).cells.at0) rfl ?_
                      refine RL.gval rfl rfl (O.neq rfl rfl) rfl ?_
                      refine RL.gval rfl rfl (O.move rfl) rfl ?_
                      refine RL.bcase (t := 75) rfl (fun hc => ?_) (fun hc => ?_)
                      · rw [if_pos hc] at hF
                        refine RL.gskip rfl rfl rfl rfl ?_
                        refine RL.gskip rfl rfl rfl rfl ?_
                        refine RL.gskip rfl rfl rfl rfl ?_
                        refine RL.gval rfl rfl (O.pickt rfl rfl) rfl ?_
                        refine RL.val (O.pickt rfl rfl) rfl ?_
                        refine RL.nil ?_
                        refine KQ.then_k ?_
                        exact fun a ha => ⟨true, ha.less (less_cons rfl (less_cons rfl (less_cons rfl (less_cons rfl (less_cons rfl (less_cons rfl (less_cons rfl less_nil))))))), hM, hF⟩
                      · rw [if_neg (ne_true hc)] at hF
                        refine RL.gval rfl rfl (O.loadN (cs := [.int .u8 first149, .string (strOfNums cut189)]) ag76 rfl (Cs.addsN [] ((hM.bx (i := 3) rfl)) rfl)) rfl ?_
                        refine obindE hF fun y203 hx204 hF => ?_
                        refine RL.gcall rfl rfl Try.func42 bd42 rfl rfl (c_ref06_rightExt _ (T_ref06_Ext.mk first149 (strOfNums cut189)) _ hx204) fun v w205 hv => ?_
                        obtain ⟨rfl, hN206⟩ := hv
                        replace hM := hM.call0 hN206
                        refine RL.gval rfl rfl (O.not rfl) rfl ?_
                        refine RL.gval rfl rfl (O.pickf rfl rfl) rfl ?_
                        refine RL.val (O.pickt rfl rfl) rfl ?_
                        refine RL.nil ?_
                        refine KQ.then_k ?_
                        exact fun a ha => ⟨(!y203), ha.less (less_cons rfl (less_cons rfl (less_cons rfl (less_cons rfl (less_cons rfl (less_cons rfl (less_cons rfl less_nil))))))), hM, hF⟩
                    · rw [if_neg (ne_true hc)] at hF
                      refine RL.gskip rfl rfl rfl rfl ?_
                      refine RL.gskip rfl rfl rfl rfl ?_
                      refine RL.gskip rfl rfl rfl rfl ?_
                      refine RL.gskip rfl rfl rfl rfl ?_
                      refine RL.gskip rfl rfl rfl rfl ?_
                      refine RL.gskip rfl rfl rfl rfl ?_
                      refine RL.gskip rfl rfl rfl rfl ?_
                      refine RL.gskip' rfl rfl rfl ?_
                      refine RL.gskip' rfl rfl rfl ?_
                      refine RL.gskip' rfl rfl rfl ?_
                      refine RL.gskip rfl rfl rfl rfl ?_
                      refine RL.val (O.pickf rfl rfl) rfl ?_
                      refine RL.nil ?_
                      refine KQ.then_k ?_
                      exact fun a ha => ⟨false, ha.less (less_cons rfl (less_cons rfl (less_cons rfl (less_cons rfl (less_cons rfl (less_cons rfl (less_cons rfl less_nil))))))), hM, hF⟩
                  · rintro a w212 ⟨t211, ha, hM, hF⟩
                    refine KC.app ha ?_
                    clear ha
                    unfold F_ref06_ParseChain_j4 at hF
                    refine KC.cond rfl (fun hc => ?_) (fun hc => ?_)
                    · rw [if_pos hc] at hF
                      refine KC.seq ?_
                      refine KC.region ?_
                      refine RL.val (O.bld (cs := [.slice none 0 0, .int .u8 0]) bt29 rfl (by kernel_rfl)) rfl ?_
                      refine RL.effs (E.stB (j := 0) (off := 0) (vs := [.slice none 0 0, .int .u8 0]) (cs' := [.slice none 0 0, .int .u8 0]) hM rfl sz29 rfl (adds_eq [] rfl) rfl rfl (One.all rfl) rfl rfl) fun w213 hM1 => ?_
                      clear hM
                      have hM := hM1
                      clear hM1
                      refine RL.val (O.assign rfl) rfl ?_
                      refine RL.val (O.assign rfl) rfl ?_
                      refine RL.nil ?_
                      refine KQ.then_n ?_
                      refine KC.ret ?_
                      refine KQ.then_r ?_
                      refine KQ.blk_r ?_
                      refine KQ.then_r ?_
                      refine KQ.blk_r ?_
                      refine KQ.then_r ?_
                      obtain rfl := Option.some.inj hF
                      have hb214 := hM.bx (i := 0) rfl
                      replace hM := hM.nilrow 76 2
                      replace hM := hM.pick [4] rfl (by decide)
                      refine KQ.rets Try.results22 (RVs.cons (RV.cN (cs := [.slice none 0 0, .int .u8 0]) rfl ag29 hb214) (RVs.cons (RV.tm rfl) (RVs.cons (RV.tm rfl) RVs.nil))) ?_
                      exact ⟨_, rfl, none, 0, rfl, hM⟩
                    · rw [if_neg (ne_true hc)] at hF
                      refine KC.skip ?_
                      refine KQ.then_n ?_
                      refine KC.seq ?_
                      refine KC.region ?_
                      refine RL.val (O.fldA fl29_0 (by decide) rfl) rfl ?_
                      refine RL.val (O.load sc27 rfl (Cs.adds [0] ((hM.bx (i := 2) rfl)) rfl)) rfl ?_
                      refine RL.val (O.loadN (cs := [.int .u8 first149, .string (strOfNums cut189)]) ag76 rfl (Cs.addsN [] ((hM.bx (i := 3) rfl)) rfl)) rfl ?_
                      refine RL.eff (E.bsl (enc := e_ref06_Ext) (xs := ([(T_ref06_Ext.mk first149 (strOfNums cut189))] : List T_ref06_Ext)) hM sl27 ze76 rfl rfl rfl (fun _ => rfl) rfl (by kernel_rfl) rfl) rfl fun v w215 hv => ?_
                      clear hM
                      obtain ⟨A216, rfl, hM, hf⟩ := hv
                      refine cut_someE hF fun hq221 hF => ?_
                      refine RL.eff (E.app (enc := e_ref06_Ext) (xs := out155) (ys := ([(T_ref06_Ext.mk first149 (strOfNums cut189))] : List T_ref06_Ext)) (j := 1) hM rfl sl27 ze76 rfl rfl rfl rfl rfl (hM.rd (i := 4) rfl) (fun _ => One.all rfl) (of_decide_eq_true hq221)) rfl fun v w220 hv => ?_
                      clear hM
                      obtain ⟨A218, c219, rfl, hM, hf⟩ := hv
                      refine RL.val (O.fldA fl29_0 (by decide) rfl) rfl ?_
                      refine RL.effs (E.stB (j := 2) (off := 0) (vs := [.slice A218 ((out155 ++ ([(T_ref06_Ext.mk first149 (strOfNums cut189))] : List T_ref06_Ext))).length c219]) (cs' := [.slice A218 ((out155 ++ ([(T_ref06_Ext.mk first149 (strOfNums cut189))] : List T_ref06_Ext))).length c219, .int .u8 0]) hM rfl sz27 rfl (adds_eq [0] rfl) rfl rfl (One.all rfl) rfl rfl) fun w223 hM1 => ?_
                      clear hM
                      have hM := hM1
                      clear hM1
                      refine RL.nil ?_
                      refine KQ.then_n ?_
                      refine KC.seq ?_
                      refine KC.region ?_
                      refine RL.val (O.loadN (cs := [.int .u8 first149, .string (strOfNums cut189)]) ag76 rfl (Cs.addsN [] ((hM.bx (i := 3) rfl)) rfl)) rfl ?_
                      refine obindE hF fun y224 hx225 hF => ?_
                      refine RL.call Try.func43 bd43 rfl rfl (c_ref06_later _ (T_ref06_Ext.mk first149 (strOfNums cut189)) _ hx225) fun v w226 hv => ?_
                      obtain ⟨rfl, hN227⟩ := hv
                      replace hM := hM.call0 hN227
                      refine RL.val (O.assign rfl) rfl ?_
                      refine RL.nil ?_
                      refine KQ.then_n ?_
                      refine KC.seq ?_
                      refine KC.region ?_
                      refine RL.val (O.move rfl) rfl ?_
                      refine RL.val (O.move rfl) rfl ?_
                      refine obindE hF fun xv230 hx229 hF => ?_
                      have hA228 := Rd.atN (f := (eI .u8)) (s := 1) (fun _ => rfl) (by decide) (hM.inp hr5 Off.nil) hx229
                      refine RL.val (O.idxA sl31 (hA228) rfl rfl) rfl ?_
                      refine RL.val (O.load sc5 rfl (hA228).cells.at0) rfl ?_
                      refine RL.val (O.assign rfl) rfl ?_
                      refine RL.nil ?_
                      refine KQ.then_n ?_
                      refine KC.region ?_
                      refine RL.val (O.move rfl) rfl ?_
                      refine RL.val (O.move rfl) rfl ?_
                      refine RL.val (O.add rfl rfl) rfl ?_
                      refine RL.val (O.assign rfl) rfl ?_
                      refine RL.nil ?_
                      refine KQ.blk_n ?_
                      refine KQ.then_k ?_
                      replace hM := hM.pick [0, 1, 2] rfl (by decide)
                      exact fun a ha => ⟨k160, Nat.lt_succ_self k160, A218, c219, xv230, (out155 ++ ([(T_ref06_Ext.mk first149 (strOfNums cut189))] : List T_ref06_Ext)), (IntKind.i64.wrap (atv156 + nv185)), y224, ha.less (less_cons rfl (less_cons rfl (less_cons rfl (less_cons rfl (less_cons rfl (less_cons rfl less_nil)))))), hM, hF⟩
      · rw [if_neg (ne_true hc)] at hF
        refine KC.exit ?_
        refine KQ.then_x ?_
        refine KQ.then_x ?_
        refine KQ.blk_x ?_
        refine KQ.then_n ?_
        refine KC.seq ?_
        refine KC.region ?_
        refine RL.val (O.move rfl) rfl ?_
        refine RL.val (O.fldA fl29_1 (by decide) rfl) rfl ?_
        refine RL.effs (E.stB (j := 2) (off := 1) (vs := [.int .u8 first149]) (cs' := [.slice A153 (out155).length c154, .int .u8 first149]) hM rfl sz5 rfl (adds_eq [1] rfl) rfl rfl (One.all rfl) rfl rfl) fun w231 hM1 => ?_
        clear hM
        have hM := hM1
        clear hM1
        refine RL.nil ?_
        refine KQ.then_n ?_
        refine KC.seq ?_
        refine KC.region ?_
        refine RL.val (O.loadN (cs := [.slice A153 (out155).length c154, .int .u8 first149]) ag29 rfl (Cs.addsN [] ((hM.bx (i := 2) rfl)) rfl)) rfl ?_
        refine RL.val (O.move rfl) rfl ?_
        refine RL.effs (E.stB (j := 0) (off := 0) (vs := [.slice A153 (out155).length c154, .int .u8 first149]) (cs' := [.slice A153 (out155).length c154, .int .u8 first149]) hM rfl sz29 rfl (adds_eq [] rfl) rfl rfl (One.all rfl) rfl rfl) fun w232 hM1 => ?_
        clear hM
        have hM := hM1
        clear hM1
        refine RL.val (O.assign rfl) rfl ?_
        refine RL.val (O.assign rfl) rfl ?_
        refine RL.nil ?_
        refine KQ.then_n ?_
        refine KC.ret ?_
        obtain rfl := Option.some.inj hF
        have hb233 := hM.bx (i := 0) rfl
        replace hM := hM.pick [1] rfl (by decide)
        refine KQ.rets Try.results22 (RVs.cons (RV.cN (cs := [.slice A153 (out155).length c154, .int .u8 first149]) rfl ag29 hb233) (RVs.cons (RV.tm rfl) (RVs.cons (RV.tm rfl) RVs.nil))) ?_
        exact ⟨_, rfl, A153, c154, rfl, hM⟩
set_option maxRecDepth 100000 in
set_option maxHeartbeats 40000000 in
theorem c_ipsix_Parse (w : World) (A2 : Option Addr) (c3 : Nat) (b1 : List Int) (hr4 : Rd w A2 c3 1 b1.length (b1.flatMap (eI .u8))) (r : T_ipsix_Header × Int) (hF : F_ipsix_Parse b1 = some r) :
    CallsR Try.prog 30 [.slice A2 (b1).length c3] w (fun v w' => v = .tuple #[.agg #[.int .u8 r.1.f_Class, .int .u32 r.1.f_Flow, .int .u16 r.1.f_Length, .int .u8 r.1.f_Next, .int .u8 r.1.f_Hops, .int .u8 (List.getD r.1.f_Src 0 0), .int .u8 (List.getD r.1.f_Src 1 0), .int .u8 (List.getD r.1.f_Src 2 0), .int .u8 (List.getD r.1.f_Src 3 0), .int .u8 (List.getD r.1.f_Src 4 0), .int .u8 (List.getD r.1.f_Src 5 0), .int .u8 (List.getD r.1.f_Src 6 0), .int .u8 (List.getD r.1.f_Src 7 0), .int .u8 (List.getD r.1.f_Src 8 0), .int .u8 (List.getD r.1.f_Src 9 0), .int .u8 (List.getD r.1.f_Src 10 0), .int .u8 (List.getD r.1.f_Src 11 0), .int .u8 (List.getD r.1.f_Src 12 0), .int .u8 (List.getD r.1.f_Src 13 0), .int .u8 (List.getD r.1.f_Src 14 0), .int .u8 (List.getD r.1.f_Src 15 0), .int .u8 (List.getD r.1.f_Dst 0 0), .int .u8 (List.getD r.1.f_Dst 1 0), .int .u8 (List.getD r.1.f_Dst 2 0), .int .u8 (List.getD r.1.f_Dst 3 0), .int .u8 (List.getD r.1.f_Dst 4 0), .int .u8 (List.getD r.1.f_Dst 5 0), .int .u8 (List.getD r.1.f_Dst 6 0), .int .u8 (List.getD r.1.f_Dst 7 0), .int .u8 (List.getD r.1.f_Dst 8 0), .int .u8 (List.getD r.1.f_Dst 9 0), .int .u8 (List.getD r.1.f_Dst 10 0), .int .u8 (List.getD r.1.f_Dst 11 0), .int .u8 (List.getD r.1.f_Dst 12 0), .int .u8 (List.getD r.1.f_Dst 13 0), .int .u8 (List.getD r.1.f_Dst 14 0), .int .u8 (List.getD r.1.f_Dst 15 0)], .int .i64 r.2] ∧ Mem w [] w' []) := by
  refine calls_KC Try.func30 rfl Try.ntmps30 rfl ?_
  have hM := Mem.init w
  unfold F_ipsix_Parse at hF
  refine KC.seq ?_
  refine KC.region ?_
  refine RL.eff (E.alloc hM ze52) rfl fun v w6 hv => ?_
  clear hM
  obtain ⟨g5, rfl, hM, hf⟩ := hv
  refine RL.val (O.assign rfl) rfl ?_
  refine RL.nil ?_
  refine KQ.then_n ?_
  refine KC.seq ?_
  refine KC.seq ?_
  refine KC.region ?_
  refine RL.val (O.move rfl) rfl ?_
  refine RL.val (O.len sl31 rfl) rfl ?_
  refine RL.val (O.lss rfl rfl) rfl ?_
  refine RL.nil ?_
  refine KQ.then_n ?_
  refine KC.cond rfl (fun hc => ?_) (fun hc => ?_)
  · rw [if_pos hc] at hF
    refine KC.seq ?_
    refine KC.region ?_
    refine RL.val (O.bld (cs := [.int .u8 0, .int .u32 0, .int .u16 0, .int .u8 0, .int .u8 0, .int .u8 (List.getD (List.replicate 16 0) 0 0), .int .u8 (List.getD (List.replicate 16 0) 1 0), .int .u8 (List.getD (List.replicate 16 0) 2 0), .int .u8 (List.getD (List.replicate 16 0) 3 0), .int .u8 (List.getD (List.replicate 16 0) 4 0), .int .u8 (List.getD (List.replicate 16 0) 5 0), .int .u8 (List.getD (List.replicate 16 0) 6 0), .int .u8 (List.getD (List.replicate 16 0) 7 0), .int .u8 (List.getD (List.replicate 16 0) 8 0), .int .u8 (List.getD (List.replicate 16 0) 9 0), .int .u8 (List.getD (List.replicate 16 0) 10 0), .int .u8 (List.getD (List.replicate 16 0) 11 0), .int .u8 (List.getD (List.replicate 16 0) 12 0), .int .u8 (List.getD (List.replicate 16 0) 13 0), .int .u8 (List.getD (List.replicate 16 0) 14 0), .int .u8 (List.getD (List.replicate 16 0) 15 0), .int .u8 (List.getD (List.replicate 16 0) 0 0), .int .u8 (List.getD (List.replicate 16 0) 1 0), .int .u8 (List.getD (List.replicate 16 0) 2 0), .int .u8 (List.getD (List.replicate 16 0) 3 0), .int .u8 (List.getD (List.replicate 16 0) 4 0), .int .u8 (List.getD (List.replicate 16 0) 5 0), .int .u8 (List.getD (List.replicate 16 0) 6 0), .int .u8 (List.getD (List.replicate 16 0) 7 0), .int .u8 (List.getD (List.replicate 16 0) 8 0), .int .u8 (List.getD (List.replicate 16 0) 9 0), .int .u8 (List.getD (List.replicate 16 0) 10 0), .int .u8 (List.getD (List.replicate 16 0) 11 0), .int .u8 (List.getD (List.replicate 16 0) 12 0), .int .u8 (List.getD (List.replicate 16 0) 13 0), .int .u8 (List.getD (List.replicate 16 0) 14 0), .int .u8 (List.getD (List.replicate 16 0) 15 0)]) bt52 rfl (by kernel_rfl)) rfl ?_
    refine RL.effs (E.stB (j := 0) (off := 0) (vs := [.int .u8 0, .int .u32 0, .int .u16 0, .int .u8 0, .int .u8 0, .int .u8 (List.getD (List.replicate 16 0) 0 0), .int .u8 (List.getD (List.replicate 16 0) 1 0), .int .u8 (List.getD (List.replicate 16 0) 2 0), .int .u8 (List.getD (List.replicate 16 0) 3 0), .int .u8 (List.getD (List.replicate 16 0) 4 0), .int .u8 (List.getD (List.replicate 16 0) 5 0), .int .u8 (List.getD (List.replicate 16 0) 6 0), .int .u8 (List.getD (List.replicate 16 0) 7 0), .int .u8 (List.getD (List.replicate 16 0) 8 0), .int .u8 (List.getD (List.replicate 16 0) 9 0), .int .u8 (List.getD (List.replicate 16 0) 10 0), .int .u8 (List.getD (List.replicate 16 0) 11 0), .int .u8 (List.getD (List.replicate 16 0) 12 0), .int .u8 (List.getD (List.replicate 16 0) 13 0), .int .u8 (List.getD (List.replicate 16 0) 14 0), .int .u8 (List.getD (List.replicate 16 0) 15 0), .int .u8 (List.getD (List.replicate 16 0) 0 0), .int .u8 (List.getD (List.replicate 16 0) 1 0), .int .u8 (List.getD (List.replicate 16 0) 2 0), .int .u8 (List.getD (List.replicate 16 0) 3 0), .int .u8 (List.getD (List.replicate 16 0) 4 0), .int .u8 (List.getD (List.replicate 16 0) 5 0), .int .u8 (List.getD (List.replicate 16 0) 6 0), .int .u8 (List.getD (List.replicate 16 0) 7 0), .int .u8 (List.getD (List.replicate 16 0) 8 0), .int .u8 (List.getD (List.replicate 16 0) 9 0), .int .u8 (List.getD (List.replicate 16 0) 10 0), .int .u8 (List.getD (List.replicate 16 0) 11 0), .int .u8 (List.getD (List.replicate 16 0) 12 0), .int .u8 (List.getD (List.replicate 16 0) 13 0), .int .u8 (List.getD (List.replicate 16 0) 14 0), .int .u8 (List.getD (List.replicate 16 0) 15 0)]) (cs' := [.int .u8 0, .int .u32 0, .int .u16 0, .int .u8 0, .int .u8 0, .int .u8 (List.getD (List.replicate 16 0) 0 0), .int .u8 (List.getD (List.replicate 16 0) 1 0), .int .u8 (List.getD (List.replicate 16 0) 2 0), .int .u8 (List.getD (List.replicate 16 0) 3 0), .int .u8 (List.getD (List.replicate 16 0) 4 0), .int .u8 (List.getD (List.replicate 16 0) 5 0), .int .u8 (List.getD (List.replicate 16 0) 6 0), .int .u8 (List.getD (List.replicate 16 0) 7 0), .int .u8 (List.getD (List.replicate 16 0) 8 0), .int .u8 (List.getD (List.replicate 16 0) 9 0), .int .u8 (List.getD (List.replicate 16 0) 10 0), .int .u8 (List.getD (List.replicate 16 0) 11 0), .int .u8 (List.getD (List.replicate 16 0) 12 0), .int .u8 (List.getD (List.replicate 16 0) 13 0), .int .u8 (List.getD (List.replicate 16 0) 14 0), .int .u8 (List.getD (List.replicate 16 0) 15 0), .int .u8 (List.getD (List.replicate 16 0) 0 0), .int .u8 (List.getD (List.replicate 16 0) 1 0), .int .u8 (List.getD (List.replicate 16 0) 2 0), .int .u8 (List.getD (List.replicate 16 0) 3 0), .int .u8 (List.getD (List.replicate 16 0) 4 0), .int .u8 (List.getD (List.replicate 16 0) 5 0), .int .u8 (List.getD (List.replicate 16 0) 6 0), .int .u8 (List.getD (List.replicate 16 0) 7 0), .int .u8 (List.getD (List.replicate 16 0) 8 0), .int .u8 (List.getD (List.replicate 16 0) 9 0), .int .u8 (List.getD (List.replicate 16 0) 10 0), .int .u8 (List.getD (List.replicate 16 0) 11 0), .int .u8 (List.getD (List.replicate 16 0) 12 0), .int .u8 (List.getD (List.replicate 16 0) 13 0), .int .u8 (List.getD (List.replicate 16 0) 14 0), .int .u8 (List.getD (List.replicate 16 0) 15 0)]) hM rfl sz52 rfl (adds_eq [] rfl) rfl rfl (One.all rfl) rfl rfl) fun w8 hM1 => ?_
    clear hM
    have hM := hM1
    clear hM1
    refine RL.val (O.assign rfl) rfl ?_
    refine RL.nil ?_
    refine KQ.then_n ?_
    refine KC.ret ?_
    refine KQ.then_r ?_
    obtain rfl := Option.some.inj hF
    have hb9 := hM.bx (i := 0) rfl
    replace hM := hM.pick [] rfl (by decide)
    refine KQ.rets Try.results30 (RVs.cons (RV.cN (cs := [.int .u8 0, .int .u32 0, .int .u16 0, .int .u8 0, .int .u8 0, .int .u8 (List.getD (List.replicate 16 0) 0 0), .int .u8 (List.getD (List.replicate 16 0) 1 0), .int .u8 (List.getD (List.replicate 16 0) 2 0), .int .u8 (List.getD (List.replicate 16 0) 3 0), .int .u8 (List.getD (List.replicate 16 0) 4 0), .int .u8 (List.getD (List.replicate 16 0) 5 0), .int .u8 (List.getD (List.replicate 16 0) 6 0), .int .u8 (List.getD (List.replicate 16 0) 7 0), .int .u8 (List.getD (List.replicate 16 0) 8 0), .int .u8 (List.getD (List.replicate 16 0) 9 0), .int .u8 (List.getD (List.replicate 16 0) 10 0), .int .u8 (List.getD (List.replicate 16 0) 11 0), .int .u8 (List.getD (List.replicate 16 0) 12 0), .int .u8 (List.getD (List.replicate 16 0) 13 0), .int .u8 (List.getD (List.replicate 16 0) 14 0), .int .u8 (List.getD (List.replicate 16 0) 15 0), .int .u8 (List.getD (List.replicate 16 0) 0 0), .int .u8 (List.getD (List.replicate 16 0) 1 0), .int .u8 (List.getD (List.replicate 16 0) 2 0), .int .u8 (List.getD (List.replicate 16 0) 3 0), .int .u8 (List.getD (List.replicate 16 0) 4 0), .int .u8 (List.getD (List.replicate 16 0) 5 0), .int .u8 (List.getD (List.replicate 16 0) 6 0), .int .u8 (List.getD (List.replicate 16 0) 7 0), .int .u8 (List.getD (List.replicate 16 0) 8 0), .int .u8 (List.getD (List.replicate 16 0) 9 0), .int .u8 (List.getD (List.replicate 16 0) 10 0), .int .u8 (List.getD (List.replicate 16 0) 11 0), .int .u8 (List.getD (List.replicate 16 0) 12 0), .int .u8 (List.getD (List.replicate 16 0) 13 0), .int .u8 (List.getD (List.replicate 16 0) 14 0), .int .u8 (List.getD (List.replicate 16 0) 15 0)]) rfl ag52 hb9) (RVs.cons (RV.tm rfl) RVs.nil)) ?_
    exact ⟨_, rfl, rfl, hM⟩
  · rw [if_neg (ne_true hc)] at hF
    refine KC.skip ?_
    refine KQ.then_n ?_
    refine KC.seq ?_
    refine KC.region ?_
    refine RL.val (O.move rfl) rfl ?_
    refine obindE hF fun y10 hx11 hF => ?_
    refine RL.call Try.func35 bd35 rfl rfl (c_bits_Get _ _ _ b1 (hM.inp hr4 Off.nil) 0 4 _ hx11) fun v w12 hv => ?_
    obtain ⟨rfl, hN13⟩ := hv
    replace hM := hM.call0 hN13
    refine RL.val (O.move rfl) rfl ?_
    refine RL.val (O.ext rfl rfl) rfl ?_
    refine RL.val (O.ext rfl rfl) rfl ?_
    refine RL.val (O.assign rfl) rfl ?_
    refine RL.val (O.assign rfl) rfl ?_
    refine RL.nil ?_
    refine KQ.then_n ?_
    refine KC.seq ?_
    refine KC.region ?_
    refine RL.val (O.move rfl) rfl ?_
    refine obindE hF fun y14 hx15 hF => ?_
    refine RL.call Try.func35 bd35 rfl rfl (c_bits_Get _ _ _ b1 (hM.inp hr4 Off.nil) 4 2 _ hx15) fun v w16 hv => ?_
    obtain ⟨rfl, hN17⟩ := hv
    replace hM := hM.call0 hN17
    refine RL.val (O.move rfl) rfl ?_
    refine RL.val (O.ext rfl rfl) rfl ?_
    refine RL.val (O.ext rfl rfl) rfl ?_
    refine RL.val (O.assign rfl) rfl ?_
    refine RL.val (O.assign rfl) rfl ?_
    refine RL.nil ?_
    refine KQ.then_n ?_
    refine KC.seq ?_
    refine KC.seq ?_
    refine KC.region ?_
    refine RL.val (O.move rfl) rfl ?_
    refine RL.val (O.shr rfl rfl (by decide)) rfl ?_
    refine RL.val (O.neq rfl rfl) rfl ?_
    refine RL.nil ?_
    refine KQ.then_n ?_
    refine KC.cond rfl (fun hc => ?_) (fun hc => ?_)
    · rw [if_pos hc] at hF
      refine KC.seq ?_
      refine KC.region ?_
      refine RL.val (O.bld (cs := [.int .u8 0, .int .u32 0, .int .u16 0, .int .u8 0, .int .u8 0, .int .u8 (List.getD (List.replicate 16 0) 0 0), .int .u8 (List.getD (List.replicate 16 0) 1 0), .int .u8 (List.getD (List.replicate 16 0) 2 0), .int .u8 (List.getD (List.replicate 16 0) 3 0), .int .u8 (List.getD (List.replicate 16 0) 4 0), .int .u8 (List.getD (List.replicate 16 0) 5 0), .int .u8 (List.getD (List.replicate 16 0) 6 0), .int .u8 (List.getD (List.replicate 16 0) 7 0), .int .u8 (List.getD (List.replicate 16 0) 8 0), .int .u8 (List.getD (List.replicate 16 0) 9 0), .int .u8 (List.getD (List.replicate 16 0) 10 0), .int .u8 (List.getD (List.replicate 16 0) 11 0), .int .u8 (List.getD (List.replicate 16 0) 12 0), .int .u8 (List.getD (List.replicate 16 0) 13 0), .int .u8 (List.getD (List.replicate 16 0) 14 0), .int .u8 (List.getD (List.replicate 16 0) 15 0), .int .u8 (List.getD (List.replicate 16 0) 0 0), .int .u8 (List.getD (List.replicate 16 0) 1 0), .int .u8 (List.getD (List.replicate 16 0) 2 0), .int .u8 (List.getD (List.replicate 16 0) 3 0), .int .u8 (List.getD (List.replicate 16 0) 4 0), .int .u8 (List.getD (List.replicate 16 0) 5 0), .int .u8 (List.getD (List.replicate 16 0) 6 0), .int .u8 (List.getD (List.replicate 16 0) 7 0), .int .u8 (List.getD (List.replicate 16 0) 8 0), .int .u8 (List.getD (List.replicate 16 0) 9 0), .int .u8 (List.getD (List.replicate 16 0) 10 0), .int .u8 (List.getD (List.replicate 16 0) 11 0), .int .u8 (List.getD (List.replicate 16 0) 12 0), .int .u8 (List.getD (List.replicate 16 0) 13 0), .int .u8 (List.getD (List.replicate 16 0) 14 0), .int .u8 (List.getD (List.replicate 16 0) 15 0)]) bt52 rfl (by kernel_rfl)) rfl ?_
      refine RL.effs (E.stB (j := 0) (off := 0) (vs := [.int .u8 0, .int .u32 0, .int .u16 0, .int .u8 0, .int .u8 0, .int .u8 (List.getD (List.replicate 16 0) 0 0), .int .u8 (List.getD (List.replicate 16 0) 1 0), .int .u8 (List.getD (List.replicate 16 0) 2 0), .int .u8 (List.getD (List.replicate 16 0) 3 0), .int .u8 (List.getD (List.replicate 16 0) 4 0), .int .u8 (List.getD (List.replicate 16 0) 5 0), .int .u8 (List.getD (List.replicate 16 0) 6 0), .int .u8 (List.getD (List.replicate 16 0) 7 0), .int .u8 (List.getD (List.replicate 16 0) 8 0), .int .u8 (List.getD (List.replicate 16 0) 9 0), .int .u8 (List.getD (List.replicate 16 0) 10 0), .int .u8 (List.getD (List.replicate 16 0) 11 0), .int .u8 (List.getD (List.replicate 16 0) 12 0), .int .u8 (List.getD (List.replicate 16 0) 13 0), .int .u8 (List.getD (List.replicate 16 0) 14 0), .int .u8 (List.getD (List.replicate 16 0) 15 0), .int .u8 (List.getD (List.replicate 16 0) 0 0), .int .u8 (List.getD (List.replicate 16 0) 1 0), .int .u8 (List.getD (List.replicate 16 0) 2 0), .int .u8 (List.getD (List.replicate 16 0) 3 0), .int .u8 (List.getD (List.replicate 16 0) 4 0), .int .u8 (List.getD (List.replicate 16 0) 5 0), .int .u8 (List.getD (List.replicate 16 0) 6 0), .int .u8 (List.getD (List.replicate 16 0) 7 0), .int .u8 (List.getD (List.replicate 16 0) 8 0), .int .u8 (List.getD (List.replicate 16 0) 9 0), .int .u8 (List.getD (List.replicate 16 0) 10 0), .int .u8 (List.getD (List.replicate 16 0) 11 0), .int .u8 (List.getD (List.replicate 16 0) 12 0), .int .u8 (List.getD (List.replicate 16 0) 13 0), .int .u8 (List.getD (List.replicate 16 0) 14 0), .int .u8 (List.getD (List.replicate 16 0) 15 0)]) (cs' := [.int .u8 0, .int .u32 0, .int .u16 0, .int .u8 0, .int .u8 0, .int .u8 (List.getD (List.replicate 16 0) 0 0), .int .u8 (List.getD (List.replicate 16 0) 1 0), .int .u8 (List.getD (List.replicate 16 0) 2 0), .int .u8 (List.getD (List.replicate 16 0) 3 0), .int .u8 (List.getD (List.replicate 16 0) 4 0), .int .u8 (List.getD (List.replicate 16 0) 5 0), .int .u8 (List.getD (List.replicate 16 0) 6 0), .int .u8 (List.getD (List.replicate 16 0) 7 0), .int .u8 (List.getD (List.replicate 16 0) 8 0), .int .u8 (List.getD (List.replicate 16 0) 9 0), .int .u8 (List.getD (List.replicate 16 0) 10 0), .int .u8 (List.getD (List.replicate 16 0) 11 0), .int .u8 (List.getD (List.replicate 16 0) 12 0), .int .u8 (List.getD (List.replicate 16 0) 13 0), .int .u8 (List.getD (List.replicate 16 0) 14 0), .int .u8 (List.getD (List.replicate 16 0) 15 0), .int .u8 (List.getD (List.replicate 16 0) 0 0), .int .u8 (List.getD (List.replicate 16 0) 1 0), .int .u8 (List.getD (List.replicate 16 0) 2 0), .int .u8 (List.getD (List.replicate 16 0) 3 0), .int .u8 (List.getD (List.replicate 16 0) 4 0), .int .u8 (List.getD (List.replicate 16 0) 5 0), .int .u8 (List.getD (List.replicate 16 0) 6 0), .int .u8 (List.getD (List.replicate 16 0) 7 0), .int .u8 (List.getD (List.replicate 16 0) 8 0), .int .u8 (List.getD (List.replicate 16 0) 9 0), .int .u8 (List.getD (List.replicate 16 0) 10 0), .int .u8 (List.getD (List.replicate 16 0) 11 0), .int .u8 (List.getD (List.replicate 16 0) 12 0), .int .u8 (List.getD (List.replicate 16 0) 13 0), .int .u8 (List.getD (List.replicate 16 0) 14 0), .int .u8 (List.getD (List.replicate 16 0) 15 0)]) hM rfl sz52 rfl (adds_eq [] rfl) rfl rfl (One.all rfl) rfl rfl) fun w18 hM1 => ?_
      clear hM
      have hM := hM1
      clear hM1
      refine RL.val (O.assign rfl) rfl ?_
      refine RL.nil ?_
      refine KQ.then_n ?_
      refine KC.ret ?_
      refine KQ.then_r ?_
      obtain rfl := Option.some.inj hF
      have hb19 := hM.bx (i := 0) rfl
      replace hM := hM.pick [] rfl (by decide)
      refine KQ.rets Try.results30 (RVs.cons (RV.cN (cs := [.int .u8 0, .int .u32 0, .int .u16 0, .int .u8 0, .int .u8 0, .int .u8 (List.getD (List.replicate 16 0) 0 0), .int .u8 (List.getD (List.replicate 16 0) 1 0), .int .u8 (List.getD (List.replicate 16 0) 2 0), .int .u8 (List.getD (List.replicate 16 0) 3 0), .int .u8 (List.getD (List.replicate 16 0) 4 0), .int .u8 (List.getD (List.replicate 16 0) 5 0), .int .u8 (List.getD (List.replicate 16 0) 6 0), .int .u8 (List.getD (List.replicate 16 0) 7 0), .int .u8 (List.getD (List.replicate 16 0) 8 0), .int .u8 (List.getD (List.replicate 16 0) 9 0), .int .u8 (List.getD (List.replicate 16 0) 10 0), .int .u8 (List.getD (List.replicate 16 0) 11 0), .int .u8 (List.getD (List.replicate 16 0) 12 0), .int .u8 (List.getD (List.replicate 16 0) 13 0), .int .u8 (List.getD (List.replicate 16 0) 14 0), .int .u8 (List.getD (List.replicate 16 0) 15 0), .int .u8 (List.getD (List.replicate 16 0) 0 0), .int .u8 (List.getD (List.replicate 16 0) 1 0), .int .u8 (List.getD (List.replicate 16 0) 2 0), .int .u8 (List.getD (List.replicate 16 0) 3 0), .int .u8 (List.getD (List.replicate 16 0) 4 0), .int .u8 (List.getD (List.replicate 16 0) 5 0), .int .u8 (List.getD (List.replicate 16 0) 6 0), .int .u8 (List.getD (List.replicate 16 0) 7 0), .int .u8 (List.getD (List.replicate 16 0) 8 0), .int .u8 (List.getD (List.replicate 16 0) 9 0), .int .u8 (List.getD (List.replicate 16 0) 10 0), .int .u8 (List.getD (List.replicate 16 0) 11 0), .int .u8 (List.getD (List.replicate 16 0) 12 0), .int .u8 (List.getD (List.replicate 16 0) 13 0), .int .u8 (List.getD (List.replicate 16 0) 14 0), .int .u8 (List.getD (List.replicate 16 0) 15 0)]) rfl ag52 hb19) (RVs.cons (RV.tm rfl) RVs.nil)) ?_
      exact ⟨_, rfl, rfl, hM⟩
    · rw [if_neg (ne_true hc)] at hF
      refine KC.skip ?_
      refine KQ.then_n ?_
      refine KC.seq ?_
      replace hM := hM.drewN 1
      refine KC.draw [] [23] [23] [0, 1, 2, 3, 4, 5, 6, 7, 8, 11, 14, 15, 18, 19, 24] (.ofList [0, 1, 2, 3, 4, 5, 6, 7, 8, 9, 10, 11, 12, 13, 14, 15, 16, 17, 18, 19, 20, 21, 22, 23, 24]) moP (by kernel_rfl) ?_
      refine RD.p rfl rfl rfl rfl (fun w' => O.move rfl) ?_
      refine RD.p rfl rfl rfl rfl (fun w' => O.shr rfl rfl (by decide)) ?_
      refine RD.p rfl rfl rfl rfl (fun w' => O.conv un81 Try.underlying5 rfl) ?_
      refine RD.p rfl rfl rfl rfl (fun w' => O.move rfl) ?_
      refine RD.p rfl rfl rfl rfl (fun w' => O.and rfl rfl) ?_
      refine RD.p rfl rfl rfl rfl (fun w' => O.conv un81 Try.underlying37 rfl) ?_
      refine RD.p rfl rfl rfl rfl (fun w' => O.move rfl) ?_
      refine RD.p rfl rfl rfl rfl (fun w' => O.conv un81 Try.underlying36 rfl) ?_
      refine RD.p rfl rfl rfl rfl (fun w' => O.move rfl) ?_
      refine obindE hF fun xv22 hx21 hF => ?_
      have hA20 := Rd.atN (f := (eI .u8)) (s := 1) (fun _ => rfl) (by decide) (hM.inp hr4 Off.nil) hx21
      refine RD.q rfl rfl rfl rfl (fun w' hf => O.idxA sl31 (hA20.fut hf) rfl rfl) ?_
      refine RD.q rfl rfl rfl rfl (fun w' hf => O.load sc5 rfl (hA20.fut hf).cells.at0) ?_
      refine RD.p rfl rfl rfl rfl (fun w' => O.move rfl) ?_
      refine obindE hF fun xv25 hx24 hF => ?_
      have hA23 := Rd.atN (f := (eI .u8)) (s := 1) (fun _ => rfl) (by decide) (hM.inp hr4 Off.nil) hx24
      refine RD.q rfl rfl rfl rfl (fun w' hf => O.idxA sl31 (hA23.fut hf) rfl rfl) ?_
      refine RD.q rfl rfl rfl rfl (fun w' hf => O.load sc5 rfl (hA23.fut hf).cells.at0) ?_
      refine RD.p rfl rfl rfl rfl (fun w' => O.move rfl) ?_
      refine obindE hF fun cut26 hy27 hF => ?_
      obtain ⟨A28, c29, eA31, ec32⟩ := cutN A2 c3 (Int.toNat 8) 1
      have hr30 := Rd.cutT (enc := (eI .u8)) (s := 1) (fun _ => rfl) hr4 hy27 (m := c3) (by have := hr4.cap; have := (gcut_some hy27).2.2.1; omega) (Nat.le_refl _)
      rw [← eA31, ← ec32] at hr30
      refine RD.p (v := .slice A28 (cut26).length c29) rfl rfl rfl rfl (fun w' => (by rw [eA31, ec32]; exact O.cutT sl31 (hM.inp hr4 Off.nil) hy27 rfl rfl rfl)) ?_
      refine cut_someE hF fun hq33 hF => ?_
      refine RD.q rfl rfl rfl rfl (fun w' hf => O.s2a Try.underlying50 (of_decide_eq_true hq33) rfl) ?_
      refine RD.q rfl rfl rfl rfl (fun w' hf => O.loadNs (cs := [.int .u8 (List.getD (arrL 16 cut26) 0 0), .int .u8 (List.getD (arrL 16 cut26) 1 0), .int .u8 (List.getD (arrL 16 cut26) 2 0), .int .u8 (List.getD (arrL 16 cut26) 3 0), .int .u8 (List.getD (arrL 16 cut26) 4 0), .int .u8 (List.getD (arrL 16 cut26) 5 0), .int .u8 (List.getD (arrL 16 cut26) 6 0), .int .u8 (List.getD (arrL 16 cut26) 7 0), .int .u8 (List.getD (arrL 16 cut26) 8 0), .int .u8 (List.getD (arrL 16 cut26) 9 0), .int .u8 (List.getD (arrL 16 cut26) 10 0), .int .u8 (List.getD (arrL 16 cut26) 11 0), .int .u8 (List.getD (arrL 16 cut26) 12 0), .int .u8 (List.getD (arrL 16 cut26) 13 0), .int .u8 (List.getD (arrL 16 cut26) 14 0), .int .u8 (List.getD (arrL 16 cut26) 15 0)]) (Rd.isSome (hM.inp hr30 Off.nil) (Nat.lt_of_lt_of_le (by decide) (of_decide_eq_true hq33))) ag50 rfl (Rd.arrCs (n := 16) (k := .u8) ((hM.inp hr30 Off.nil).fut hf) (of_decide_eq_true hq33))) ?_
      refine RD.p rfl rfl rfl rfl (fun w' => O.move rfl) ?_
      refine obindE hF fun cut34 hy35 hF => ?_
      obtain ⟨A36, c37, eA39, ec40⟩ := cutN A2 c3 (Int.toNat 24) 1
      have hr38 := Rd.cutT (enc := (eI .u8)) (s := 1) (fun _ => rfl) hr4 hy35 (m := c3) (by have := hr4.cap; have := (gcut_some hy35).2.2.1; omega) (Nat.le_refl _)
      rw [← eA39, ← ec40] at hr38
      refine RD.p (v := .slice A36 (cut34).length c37) rfl rfl rfl rfl (fun w' => (by rw [eA39, ec40]; exact O.cutT sl31 (hM.inp hr4 Off.nil) hy35 rfl rfl rfl)) ?_
      refine cut_someE hF fun hq41 hF => ?_
      refine RD.q rfl rfl rfl rfl (fun w' hf => O.s2a Try.underlying50 (of_decide_eq_true hq41) rfl) ?_
      refine RD.q rfl rfl rfl rfl (fun w' hf => O.loadNs (cs := [.int .u8 (List.getD (arrL 16 cut34) 0 0), .int .u8 (List.getD (arrL 16 cut34) 1 0), .int .u8 (List.getD (arrL 16 cut34) 2 0), .int .u8 (List.getD (arrL 16 cut34) 3 0), .int .u8 (List.getD (arrL 16 cut34) 4 0), .int .u8 (List.getD (arrL 16 cut34) 5 0), .int .u8 (List.getD (arrL 16 cut34) 6 0), .int .u8 (List.getD (arrL 16 cut34) 7 0), .int .u8 (List.getD (arrL 16 cut34) 8 0), .int .u8 (List.getD (arrL 16 cut34) 9 0), .int .u8 (List.getD (arrL 16 cut34) 10 0), .int .u8 (List.getD (arrL 16 cut34) 11 0), .int .u8 (List.getD (arrL 16 cut34) 12 0), .int .u8 (List.getD (arrL 16 cut34) 13 0), .int .u8 (List.getD (arrL 16 cut34) 14 0), .int .u8 (List.getD (arrL 16 cut34) 15 0)]) (Rd.isSome (hM.inp hr38 Off.nil) (Nat.lt_of_lt_of_le (by decide) (of_decide_eq_true hq41))) ag50 rfl (Rd.arrCs (n := 16) (k := .u8) ((hM.inp hr38 Off.nil).fut hf) (of_decide_eq_true hq41))) ?_
      refine RD.q rfl rfl rfl rfl (fun w' hf => O.bld (cs := [.int .u8 (IntKind.u8.wrap (Ox.shr .u64 y10.1 20)), .int .u32 (IntKind.u32.wrap (bits .and .u64 y10.1 1048575)), .int .u16 (IntKind.u16.wrap y14.1), .int .u8 xv22, .int .u8 xv25, .int .u8 (List.getD (arrL 16 cut26) 0 0), .int .u8 (List.getD (arrL 16 cut26) 1 0), .int .u8 (List.getD (arrL 16 cut26) 2 0), .int .u8 (List.getD (arrL 16 cut26) 3 0), .int .u8 (List.getD (arrL 16 cut26) 4 0), .int .u8 (List.getD (arrL 16 cut26) 5 0), .int .u8 (List.getD (arrL 16 cut26) 6 0), .int .u8 (List.getD (arrL 16 cut26) 7 0), .int .u8 (List.getD (arrL 16 cut26) 8 0), .int .u8 (List.getD (arrL 16 cut26) 9 0), .int .u8 (List.getD (arrL 16 cut26) 10 0), .int .u8 (List.getD (arrL 16 cut26) 11 0), .int .u8 (List.getD (arrL 16 cut26) 12 0), .int .u8 (List.getD (arrL 16 cut26) 13 0), .int .u8 (List.getD (arrL 16 cut26) 14 0), .int .u8 (List.getD (arrL 16 cut26) 15 0), .int .u8 (List.getD (arrL 16 cut34) 0 0), .int .u8 (List.getD (arrL 16 cut34) 1 0), .int .u8 (List.getD (arrL 16 cut34) 2 0), .int .u8 (List.getD (arrL 16 cut34) 3 0), .int .u8 (List.getD (arrL 16 cut34) 4 0), .int .u8 (List.getD (arrL 16 cut34) 5 0), .int .u8 (List.getD (arrL 16 cut34) 6 0), .int .u8 (List.getD (arrL 16 cut34) 7 0), .int .u8 (List.getD (arrL 16 cut34) 8 0), .int .u8 (List.getD (arrL 16 cut34) 9 0), .int .u8 (List.getD (arrL 16 cut34) 10 0), .int .u8 (List.getD (arrL 16 cut34) 11 0), .int .u8 (List.getD (arrL 16 cut34) 12 0), .int .u8 (List.getD (arrL 16 cut34) 13 0), .int .u8 (List.getD (arrL 16 cut34) 14 0), .int .u8 (List.getD (arrL 16 cut34) 15 0)]) bt52 rfl (by kernel_rfl)) ?_
      refine RD.meffs rfl rfl rfl (E.stB (j := 0) (off := 0) (vs := [.int .u8 (IntKind.u8.wrap (Ox.shr .u64 y10.1 20)), .int .u32 (IntKind.u32.wrap (bits .and .u64 y10.1 1048575)), .int .u16 (IntKind.u16.wrap y14.1), .int .u8 xv22, .int .u8 xv25, .int .u8 (List.getD (arrL 16 cut26) 0 0), .int .u8 (List.getD (arrL 16 cut26) 1 0), .int .u8 (List.getD (arrL 16 cut26) 2 0), .int .u8 (List.getD (arrL 16 cut26) 3 0), .int .u8 (List.getD (arrL 16 cut26) 4 0), .int .u8 (List.getD (arrL 16 cut26) 5 0), .int .u8 (List.getD (arrL 16 cut26) 6 0), .int .u8 (List.getD (arrL 16 cut26) 7 0), .int .u8 (List.getD (arrL 16 cut26) 8 0), .int .u8 (List.getD (arrL 16 cut26) 9 0), .int .u8 (List.getD (arrL 16 cut26) 10 0), .int .u8 (List.getD (arrL 16 cut26) 11 0), .int .u8 (List.getD (arrL 16 cut26) 12 0), .int .u8 (List.getD (arrL 16 cut26) 13 0), .int .u8 (List.getD (arrL 16 cut26) 14 0), .int .u8 (List.getD (arrL 16 cut26) 15 0), .int .u8 (List.getD (arrL 16 cut34) 0 0), .int .u8 (List.getD (arrL 16 cut34) 1 0), .int .u8 (List.getD (arrL 16 cut34) 2 0), .int .u8 (List.getD (arrL 16 cut34) 3 0), .int .u8 (List.getD (arrL 16 cut34) 4 0), .int .u8 (List.getD (arrL 16 cut34) 5 0), .int .u8 (List.getD (arrL 16 cut34) 6 0), .int .u8 (List.getD (arrL 16 cut34) 7 0), .int .u8 (List.getD (arrL 16 cut34) 8 0), .int .u8 (List.getD (arrL 16 cut34) 9 0), .int .u8 (List.getD (arrL 16 cut34) 10 0), .int .u8 (List.getD (arrL 16 cut34) 11 0), .int .u8 (List.getD (arrL 16 cut34) 12 0), .int .u8 (List.getD (arrL 16 cut34) 13 0), .int .u8 (List.getD (arrL 16 cut34) 14 0), .int .u8 (List.getD (arrL 16 cut34) 15 0)]) (cs' := [.int .u8 (IntKind.u8.wrap (Ox.shr .u64 y10.1 20)), .int .u32 (IntKind.u32.wrap (bits .and .u64 y10.1 1048575)), .int .u16 (IntKind.u16.wrap y14.1), .int .u8 xv22, .int .u8 xv25, .int .u8 (List.getD (arrL 16 cut26) 0 0), .int .u8 (List.getD (arrL 16 cut26) 1 0), .int .u8 (List.getD (arrL 16 cut26) 2 0), .int .u8 (List.getD (arrL 16 cut26) 3 0), .int .u8 (List.getD (arrL 16 cut26) 4 0), .int .u8 (List.getD (arrL 16 cut26) 5 0), .int .u8 (List.getD (arrL 16 cut26) 6 0), .int .u8 (List.getD (arrL 16 cut26) 7 0), .int .u8 (List.getD (arrL 16 cut26) 8 0), .int .u8 (List.getD (arrL 16 cut26) 9 0), .int .u8 (List.getD (arrL 16 cut26) 10 0), .int .u8 (List.getD (arrL 16 cut26) 11 0), .int .u8 (List.getD (arrL 16 cut26) 12 0), .int .u8 (List.getD (arrL 16 cut26) 13 0), .int .u8 (List.getD (arrL 16 cut26) 14 0), .int .u8 (List.getD (arrL 16 cut26) 15 0), .int .u8 (List.getD (arrL 16 cut34) 0 0), .int .u8 (List.getD (arrL 16 cut34) 1 0), .int .u8 (List.getD (arrL 16 cut34) 2 0), .int .u8 (List.getD (arrL 16 cut34) 3 0), .int .u8 (List.getD (arrL 16 cut34) 4 0), .int .u8 (List.getD (arrL 16 cut34) 5 0), .int .u8 (List.getD (arrL 16 cut34) 6 0), .int .u8 (List.getD (arrL 16 cut34) 7 0), .int .u8 (List.getD (arrL 16 cut34) 8 0), .int .u8 (List.getD (arrL 16 cut34) 9 0), .int .u8 (List.getD (arrL 16 cut34) 10 0), .int .u8 (List.getD (arrL 16 cut34) 11 0), .int .u8 (List.getD (arrL 16 cut34) 12 0), .int .u8 (List.getD (arrL 16 cut34) 13 0), .int .u8 (List.getD (arrL 16 cut34) 14 0), .int .u8 (List.getD (arrL 16 cut34) 15 0)]) hM rfl sz52 rfl (adds_eq [] rfl) rfl rfl (One.all rfl) rfl rfl) fun w42 hM1 => ?_
      clear hM
      have hM := hM1
      clear hM1
      refine RD.p rfl rfl rfl rfl (fun w' => O.assign rfl) ?_
      refine RD.nil ?_
      refine KQ.then_n ?_
      refine KC.ret ?_
      obtain rfl := Option.some.inj hF
      have hb43 := hM.bx (i := 0) rfl
      replace hM := hM.pick [] rfl (by decide)
      refine KQ.rets Try.results30 (RVs.cons (RV.cN (cs := [.int .u8 (IntKind.u8.wrap (Ox.shr .u64 y10.1 20)), .int .u32 (IntKind.u32.wrap (bits .and .u64 y10.1 1048575)), .int .u16 (IntKind.u16.wrap y14.1), .int .u8 xv22, .int .u8 xv25, .int .u8 (List.getD (arrL 16 cut26) 0 0), .int .u8 (List.getD (arrL 16 cut26) 1 0), .int .u8 (List.getD (arrL 16 cut26) 2 0), .int .u8 (List.getD (arrL 16 cut26) 3 0), .int .u8 (List.getD (arrL 16 cut26) 4 0), .int .u8 (List.getD (arrL 16 cut26) 5 0), .int .u8 (List.getD (arrL 16 cut26) 6 0), .int .u8 (List.getD (arrL 16 cut26) 7 0), .int .u8 (List.getD (arrL 16 cut26) 8 0), .int .u8 (List.getD (arrL 16 cut26) 9 0), .int .u8 (List.getD (arrL 16 cut26) 10 0), .int .u8 (List.getD (arrL 16 cut26) 11 0), .int .u8 (List.getD (arrL 16 cut26) 12 0), .int .u8 (List.getD (arrL 16 cut26) 13 0), .int .u8 (List.getD (arrL 16 cut26) 14 0), .int .u8 (List.getD (arrL 16 cut26) 15 0), .int .u8 (List.getD (arrL 16 cut34) 0 0), .int .u8 (List.getD (arrL 16 cut34) 1 0), .int .u8 (List.getD (arrL 16 cut34) 2 0), .int .u8 (List.getD (arrL 16 cut34) 3 0), .int .u8 (List.getD (arrL 16 cut34) 4 0), .int .u8 (List.getD (arrL 16 cut34) 5 0), .int .u8 (List.getD (arrL 16 cut34) 6 0), .int .u8 (List.getD (arrL 16 cut34) 7 0), .int .u8 (List.getD (arrL 16 cut34) 8 0), .int .u8 (List.getD (arrL 16 cut34) 9 0), .int .u8 (List.getD (arrL 16 cut34) 10 0), .int .u8 (List.getD (arrL 16 cut34) 11 0), .int .u8 (List.getD (arrL 16 cut34) 12 0), .int .u8 (List.getD (arrL 16 cut34) 13 0), .int .u8 (List.getD (arrL 16 cut34) 14 0), .int .u8 (List.getD (arrL 16 cut34) 15 0)]) rfl ag52 hb43) (RVs.cons (RV.tm rfl) RVs.nil)) ?_
      exact ⟨_, rfl, rfl, hM⟩
end Go.Proofs.Ytikjomacnbemhaa
