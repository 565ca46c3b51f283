/- Printed by a program of this claim: each call returns what the plain function of its name gives. -/
import Derived.Test.YtikjomacnbemhaaW4
set_option linter.unusedVariables false
namespace Go.Proofs.Ytikjomacnbemhaa
open Go Go.Ox Go.RowKit
set_option maxRecDepth 100000 in
set_option maxHeartbeats 40000000 in
theorem c_ref06_ParseChain (w : World) (first1 : Int) (A3 : Option Addr) (c4 : Nat) (b2 : List Int) (hr5 : Rd w A3 c4 1 b2.length (b2.flatMap (eI .u8))) (r : T_ref06_Chain × Int × Int) (hF : F_ref06_ParseChain first1 b2 = some r) :
    CallsR Try.prog 22 [.int .u8 first1, .slice A3 (b2).length c4] w (fun v w' => ∃ (A0 : Option Addr) (c0 : Nat), v = .tuple #[.agg #[.slice A0 (r.1.f_Exts).length c0, .int .u8 r.1.f_Proto], .int .i64 r.2.1, .int .i64 r.2.2] ∧ Mem w [] w' [.row A0 c0 76 2 r.1.f_Exts.length (r.1.f_Exts.flatMap e_ref06_Ext)]) := by
  refine calls_KC Try.func22 rfl Try.ntmps22 rfl ?_
  have hM := Mem.init w
  unfold F_ref06_ParseChain at hF
  refine KC.seq ?_
  refine KC.region ?_
  refine RL.eff (E.alloc hM ze29) rfl fun v w7 hv => ?_
  clear hM
  obtain ⟨g6, rfl, hM, hf⟩ := hv
  refine RL.val (O.assign rfl) rfl ?_
  refine RL.val (O.assign rfl) rfl ?_
  refine RL.nil ?_
  refine KQ.then_n ?_
  refine KC.seq ?_
  refine KC.region ?_
  refine RL.eff (E.alloc hM ze29) rfl fun v w10 hv => ?_
  clear hM
  obtain ⟨g9, rfl, hM, hf⟩ := hv
  refine RL.nil ?_
  refine KQ.then_n ?_
  refine KC.seq ?_
  refine KC.region ?_
  refine RL.val (O.assign rfl) rfl ?_
  refine RL.nil ?_
  refine KQ.then_n ?_
  refine KC.seq ?_
  refine KC.region ?_
  refine RL.val (O.assign rfl) rfl ?_
  refine RL.nil ?_
  refine KQ.then_n ?_
  refine KC.seq ?_
  refine KC.block ?_
  refine KC.loop (fun k160 a w158 => ∃ (A153 : Option Addr) (c154 : Nat) (first149 : Int) (out155 : List T_ref06_Ext) (atv156 : Int) (stop157 : Bool), Kn 101 [(0, .int .u8 first149), (1, .slice A3 (b2).length c4), (4, .pointer (some ⟨g6, 0, none⟩)), (7, .pointer (some ⟨g9, 0, none⟩)), (8, .int .i64 atv156), (9, .bool stop157)] a ∧ Mem w [] w158 [.box g6 29 [.slice none 0 0, .int .u8 0], .row A153 c154 76 2 (out155).length ((out155).flatMap e_ref06_Ext), .box g9 29 [.slice A153 (out155).length c154, .int .u8 0]] ∧ F_ref06_ParseChain_L1 b2 k160 first149 out155 atv156 stop157 = some r) ?_ ?_
  · replace hM := hM.nilrow 76 2
    replace hM := hM.pick [0, 2, 1] rfl (by decide)
    exact fun a ha => ⟨fuel0, none, 0, first1, ([]), 0, false, ha.less (less_cons rfl (less_cons rfl (less_cons rfl (less_cons rfl (less_cons rfl (less_cons rfl less_nil)))))), hM, hF⟩
  · rintro k160 a w158 ⟨A153, c154, first149, out155, atv156, stop157, ha, hM, hF⟩
    refine KC.app ha ?_
    clear ha
    cases k160 with
    | zero => exact (none_some hF).elim
    | succ k160 =>
    have hF : F_ref06_ParseChain_l1 (F_ref06_ParseChain_L1 b2 k160) b2 first149 out155 atv156 stop157 = some r := hF
    unfold F_ref06_ParseChain_l1 at hF
    refine KC.seq ?_
    refine KC.cut (fun a w169 => ∃ (t168 : Bool), Kn 101 [(0, .int .u8 first149), (1, .slice A3 (b2).length c4), (4, .pointer (some ⟨g6, 0, none⟩)), (7, .pointer (some ⟨g9, 0, none⟩)), (8, .int .i64 atv156), (17, .bool t168)] a ∧ Mem w [] w169 [.box g6 29 [.slice none 0 0, .int .u8 0], .row A153 c154 76 2 (out155).length ((out155).flatMap e_ref06_Ext), .box g9 29 [.slice A153 (out155).length c154, .int .u8 0]] ∧ F_ref06_ParseChain_j1 b2 first149 out155 atv156 (F_ref06_ParseChain_L1 b2 k160) t168 = some r) ?_ ?_
    · refine KC.region ?_
      refine RL.val (O.move rfl) rfl ?_
      obtain ⟨y161, hx162, hF⟩ := obind hF
      refine RL.call Try.func44 bd44 rfl rfl (c_ref06_kind _ first149 _ hx162) fun v w163 hv => ?_
      obtain ⟨rfl, hN164⟩ := hv
      replace hM := hM.call0 hN164
      refine RL.val (O.move rfl) rfl ?_
      refine RL.bcase (t := 14) rfl (fun hc => ?_) (fun hc => ?_)
      · rw [if_pos hc] at hF
        refine RL.gval rfl rfl (O.move rfl) rfl ?_
        refine RL.gval rfl rfl (O.not rfl) rfl ?_
        refine RL.val (O.pickt rfl rfl) rfl ?_
        refine RL.nil ?_
        refine KQ.then_k ?_
        exact fun a ha => ⟨(!stop157), ha.less (less_cons rfl (less_cons rfl (less_cons rfl (less_cons rfl (less_cons rfl (less_cons rfl less_nil)))))), hM, hF⟩
      · rw [if_neg (ne_true hc)] at hF
        refine RL.gskip rfl rfl rfl rfl ?_
        refine RL.gskip rfl rfl rfl rfl ?_
        refine RL.val (O.pickf rfl rfl) rfl ?_
        refine RL.nil ?_
        refine KQ.then_k ?_
        exact fun a ha => ⟨false, ha.less (less_cons rfl (less_cons rfl (less_cons rfl (less_cons rfl (less_cons rfl (less_cons rfl less_nil)))))), hM, hF⟩
    · rintro a w169 ⟨t168, ha, hM, hF⟩
      refine KC.app ha ?_
      clear ha
      unfold F_ref06_ParseChain_j1 at hF
      refine KC.cond rfl (fun hc => ?_) (fun hc => ?_)
      · rw [if_pos hc] at hF
        refine KC.skip ?_
        refine KQ.then_n ?_
        refine KC.block ?_
        refine KC.seq ?_
        refine KC.cut (fun a w174 => ∃ (t173 : Bool), Kn 101 [(0, .int .u8 first149), (1, .slice A3 (b2).length c4), (4, .pointer (some ⟨g6, 0, none⟩)), (7, .pointer (some ⟨g9, 0, none⟩)), (8, .int .i64 atv156), (31, .bool t173)] a ∧ Mem w [] w174 [.box g6 29 [.slice none 0 0, .int .u8 0], .row A153 c154 76 2 (out155).length ((out155).flatMap e_ref06_Ext), .box g9 29 [.slice A153 (out155).length c154, .int .u8 0]] ∧ F_ref06_ParseChain_j2 b2 first149 out155 atv156 (F_ref06_ParseChain_L1 b2 k160) t173 = some r) ?_ ?_
        · refine KC.region ?_
          refine RL.val (O.fldA fl29_0 (by decide) rfl) rfl ?_
          refine RL.val (O.load sc27 rfl (Cs.adds [0] ((hM.bx (i := 2) rfl)) rfl)) rfl ?_
          refine RL.val (O.len sl27 rfl) rfl ?_
          refine RL.val (O.eql rfl rfl) rfl ?_
          refine RL.val (O.move rfl) rfl ?_
          refine RL.bcase (t := 22) rfl (fun hc => ?_) (fun hc => ?_)
          · rw [if_pos hc] at hF
            refine RL.gskip rfl rfl rfl rfl ?_
            refine RL.gskip rfl rfl rfl rfl ?_
            refine RL.gskip rfl rfl rfl rfl ?_
            refine RL.gskip' rfl rfl rfl ?_
            refine RL.gskip' rfl rfl rfl ?_
            refine RL.gskip' rfl rfl rfl ?_
            refine RL.gskip' rfl rfl rfl ?_
            refine RL.gskip rfl rfl rfl rfl ?_
            refine RL.val (O.pickt rfl rfl) rfl ?_
            refine RL.nil ?_
            refine KQ.then_k ?_
            exact fun a ha => ⟨true, ha.less (less_cons rfl (less_cons rfl (less_cons rfl (less_cons rfl (less_cons rfl (less_cons rfl less_nil)))))), hM, hF⟩
          · rw [if_neg (ne_true hc)] at hF
            refine RL.gval rfl rfl (O.move rfl) rfl ?_
            refine RL.gval rfl rfl (O.eql rfl rfl) rfl ?_
            refine RL.gval rfl rfl (O.move rfl) rfl ?_
            refine RL.bcase (t := 25) rfl (fun hc => ?_) (fun hc => ?_)
            · rw [if_pos hc] at hF
              refine RL.gval rfl rfl (O.fldA fl29_0 (by decide) rfl) rfl ?_
              refine RL.gval rfl rfl (O.load sc27 rfl (Cs.adds [0] ((hM.bx (i := 2) rfl)) rfl)) rfl ?_
              refine RL.gval rfl rfl (O.len sl27 rfl) rfl ?_
              refine RL.gval rfl rfl (O.gtr rfl rfl) rfl ?_
              refine RL.gval rfl rfl (O.pickt rfl rfl) rfl ?_
              refine RL.val (O.pickf rfl rfl) rfl ?_
              refine RL.nil ?_
              refine KQ.then_k ?_
              exact fun a ha => ⟨(decide (0 < (out155.length : Int))), ha.less (less_cons rfl (less_cons rfl (less_cons rfl (less_cons rfl (less_cons rfl (less_cons rfl less_nil)))))), hM, hF⟩
            · rw [if_neg (ne_true hc)] at hF
              refine RL.gskip rfl rfl rfl rfl ?_
              refine RL.gskip rfl rfl rfl rfl ?_
              refine RL.gskip rfl rfl rfl rfl ?_
              refine RL.gskip rfl rfl rfl rfl ?_
              refine RL.gval rfl rfl (O.pickf rfl rfl) rfl ?_
              refine RL.val (O.pickf rfl rfl) rfl ?_
              refine RL.nil ?_
              refine KQ.then_k ?_
              exact fun a ha => ⟨false, ha.less (less_cons rfl (less_cons rfl (less_cons rfl (less_cons rfl (less_cons rfl (less_cons rfl less_nil)))))), hM, hF⟩
        · rintro a w174 ⟨t173, ha, hM, hF⟩
          refine KC.app ha ?_
          clear ha
          unfold F_ref06_ParseChain_j2 at hF
          refine KC.cond rfl (fun hc => ?_) (fun hc => ?_)
          · rw [if_pos hc] at hF
            refine KC.seq ?_
            refine KC.region ?_
            refine RL.val (O.bld (cs := [.slice none 0 0, .int .u8 0]) bt29 rfl (by kernel_rfl)) rfl ?_
            refine RL.effs (E.stB (j := 0) (off := 0) (vs := [.slice none 0 0, .int .u8 0]) (cs' := [.slice none 0 0, .int .u8 0]) hM rfl sz29 rfl (adds_eq [] rfl) rfl rfl (One.all rfl) rfl rfl) fun w175 hM1 => ?_
            clear hM
            have hM := hM1
            clear hM1
            refine RL.val (O.assign rfl) rfl ?_
            refine RL.val (O.assign rfl) rfl ?_
            refine RL.nil ?_
            refine KQ.then_n ?_
            refine KC.ret ?_
            refine KQ.then_r ?_
            refine KQ.blk_r ?_
            refine KQ.then_r ?_
            refine KQ.blk_r ?_
            refine KQ.then_r ?_
            obtain rfl := Option.some.inj hF
            have hb176 := hM.bx (i := 0) rfl
            replace hM := hM.nilrow 76 2
            replace hM := hM.pick [3] rfl (by decide)
            refine KQ.rets Try.results22 (RVs.cons (RV.cN (cs := [.slice none 0 0, .int .u8 0]) rfl ag29 hb176) (RVs.cons (RV.tm rfl) (RVs.cons (RV.tm rfl) RVs.nil))) ?_
            exact ⟨_, rfl, none, 0, rfl, hM⟩
          · rw [if_neg (ne_true hc)] at hF
            refine KC.skip ?_
            refine KQ.then_n ?_
            refine KC.seq ?_
            refine KC.seq ?_
            refine KC.region ?_
            refine RL.val (O.move rfl) rfl ?_
            refine RL.val (O.add rfl rfl) rfl ?_
            refine RL.val (O.move rfl) rfl ?_
            refine RL.val (O.len sl31 rfl) rfl ?_
            refine RL.val (O.gtr rfl rfl) rfl ?_
            refine RL.nil ?_
            refine KQ.then_n ?_
            refine KC.cond rfl (fun hc => ?_) (fun hc => ?_)
            · rw [if_pos hc] at hF
              refine KC.seq ?_
              refine KC.region ?_
              refine RL.val (O.bld (cs := [.slice none 0 0, .int .u8 0]) bt29 rfl (by kernel_rfl)) rfl ?_
              refine RL.effs (E.stB (j := 0) (off := 0) (vs := [.slice none 0 0, .int .u8 0]) (cs' := [.slice none 0 0, .int .u8 0]) hM rfl sz29 rfl (adds_eq [] rfl) rfl rfl (One.all rfl) rfl rfl) fun w177 hM1 => ?_
              clear hM
              have hM := hM1
              clear hM1
              refine RL.val (O.assign rfl) rfl ?_
              refine RL.val (O.assign rfl) rfl ?_
              refine RL.nil ?_
              refine KQ.then_n ?_
              refine KC.ret ?_
              refine KQ.then_r ?_
              refine KQ.blk_r ?_
              refine KQ.then_r ?_
              refine KQ.blk_r ?_
              refine KQ.then_r ?_
              obtain rfl := Option.some.inj hF
              have hb178 := hM.bx (i := 0) rfl
              replace hM := hM.nilrow 76 2
              replace hM := hM.pick [3] rfl (by decide)
              refine KQ.rets Try.results22 (RVs.cons (RV.cN (cs := [.slice none 0 0, .int .u8 0]) rfl ag29 hb178) (RVs.cons (RV.tm rfl) (RVs.cons (RV.tm rfl) RVs.nil))) ?_
              exact ⟨_, rfl, none, 0, rfl, hM⟩
            · rw [if_neg (ne_true hc)] at hF
              refine KC.skip ?_
              refine KQ.then_n ?_
              refine KC.seq ?_
              refine KC.region ?_
              refine RL.val (O.move rfl) rfl ?_
              refine RL.val (O.move rfl) rfl ?_
              refine RL.val (O.add rfl rfl) rfl ?_
              obtain ⟨xv181, hx180, hF⟩ := obind hF
              have hA179 := Rd.atN (f := (eI .u8)) (s := 1) (fun _ => rfl) (by decide) (hM.inp hr5 Off.nil) hx180
              refine RL.val (O.idxA sl31 (hA179) rfl rfl) rfl ?_
              refine RL.val (O.load sc5 rfl (hA179).cells.at0) rfl ?_
              refine RL.val (O.conv un5 Try.underlying3 rfl) rfl ?_
              refine RL.val (O.add rfl rfl) rfl ?_
              refine RL.val (O.mul rfl rfl) rfl ?_
              refine RL.val (O.assign rfl) rfl ?_
              refine RL.nil ?_
              refine KQ.then_n ?_
              refine KC.cut (fun a w186 => ∃ (nv185 : Int), Kn 101 [(0, .int .u8 first149), (1, .slice A3 (b2).length c4), (4, .pointer (some ⟨g6, 0, none⟩)), (7, .pointer (some ⟨g9, 0, none⟩)), (8, .int .i64 atv156), (10, .int .i64 nv185)] a ∧ Mem w [] w186 [.box g6 29 [.slice none 0 0, .int .u8 0], .row A153 c154 76 2 (out155).length ((out155).flatMap e_ref06_Ext), .box g9 29 [.slice A153 (out155).length c154, .int .u8 0]] ∧ F_ref06_ParseChain_j3 b2 first149 out155 atv156 (F_ref06_ParseChain_L1 b2 k160) nv185 = some r) ?_ ?_
              · refine KC.seq ?_
                refine KC.region ?_
                refine RL.val (O.move rfl) rfl ?_
                refine RL.val (O.eql rfl rfl) rfl ?_
                refine RL.nil ?_
                refine KQ.then_n ?_
                refine KC.cond rfl (fun hc => ?_) (fun hc => ?_)
                · rw [if_pos hc] at hF
                  refine KC.region ?_
                  refine RL.val (O.assign rfl) rfl ?_
                  refine RL.nil ?_
                  refine KQ.then_k ?_
                  exact fun a ha => ⟨8, ha.less (less_cons rfl (less_cons rfl (less_cons rfl (less_cons rfl (less_cons rfl (less_cons rfl less_nil)))))), hM, hF⟩
                · rw [if_neg (ne_true hc)] at hF
                  refine KC.skip ?_
                  refine KQ.then_k ?_
                  exact fun a ha => ⟨(IntKind.i64.wrap (8 * (IntKind.i64.wrap ((IntKind.i64.wrap xv181) + 1)))), ha.less (less_cons rfl (less_cons rfl (less_cons rfl (less_cons rfl (less_cons rfl (less_cons rfl less_nil)))))), hM, hF⟩
              · rintro a w186 ⟨nv185, ha, hM, hF⟩
                refine KC.app ha ?_
                clear ha
                unfold F_ref06_ParseChain_j3 at hF
                refine KC.seq ?_
                refine KC.seq ?_
                refine KC.region ?_
                refine RL.val (O.move rfl) rfl ?_
                refine RL.val (O.move rfl) rfl ?_
                refine RL.val (O.add rfl rfl) rfl ?_
                refine RL.val (O.move rfl) rfl ?_
                refine RL.val (O.len sl31 rfl) rfl ?_
                refine RL.val (O.gtr rfl rfl) rfl ?_
                refine RL.nil ?_
                refine KQ.then_n ?_
                refine KC.cond rfl (fun hc => ?_) (fun hc => ?_)
                · rw [if_pos hc] at hF
                  refine KC.seq ?_
                  refine KC.region ?_
                  refine RL.val (O.bld (cs := [.slice none 0 0, .int .u8 0]) bt29 rfl (by kernel_rfl)) rfl ?_
                  refine RL.effs (E.stB (j := 0) (off := 0) (vs := [.slice none 0 0, .int .u8 0]) (cs' := [.slice none 0 0, .int .u8 0]) hM rfl sz29 rfl (adds_eq [] rfl) rfl rfl (One.all rfl) rfl rfl) fun w187 hM1 => ?_
                  clear hM
                  have hM := hM1
                  clear hM1
                  refine RL.val (O.assign rfl) rfl ?_
                  refine RL.val (O.assign rfl) rfl ?_
                  refine RL.nil ?_
                  refine KQ.then_n ?_
                  refine KC.ret ?_
                  refine KQ.then_r ?_
                  refine KQ.blk_r ?_
                  refine KQ.then_r ?_
                  refine KQ.blk_r ?_
                  refine KQ.then_r ?_
                  obtain rfl := Option.some.inj hF
                  have hb188 := hM.bx (i := 0) rfl
                  replace hM := hM.nilrow 76 2
                  replace hM := hM.pick [3] rfl (by decide)
                  refine KQ.rets Try.results22 (RVs.cons (RV.cN (cs := [.slice none 0 0, .int .u8 0]) rfl ag29 hb188) (RVs.cons (RV.tm rfl) (RVs.cons (RV.tm rfl) RVs.nil))) ?_
                  exact ⟨_, rfl, none, 0, rfl, hM⟩
                · rw [if_neg (ne_true hc)] at hF
                  refine KC.skip ?_
                  refine KQ.then_n ?_
                  refine KC.seq ?_
                  refine KC.region ?_
                  refine RL.val (O.move rfl) rfl ?_
                  refine RL.val (O.move rfl) rfl ?_
                  refine RL.val (O.move rfl) rfl ?_
                  refine RL.val (O.add rfl rfl) rfl ?_
                  refine RL.val (O.move rfl) rfl ?_
                  refine RL.val (O.move rfl) rfl ?_
                  refine RL.val (O.add rfl rfl) rfl ?_
                  obtain ⟨cut189, hy190, hF⟩ := obind hF
                  obtain ⟨A191, c192, eA194, ec195⟩ := cutN A3 c4 (Int.toNat (IntKind.i64.wrap (atv156 + 2))) 1
                  have hr193 := Rd.cutT (enc := (eI .u8)) (s := 1) (fun _ => rfl) hr5 hy190 (m := c4) (by have := hr5.cap; have := (gcut_some hy190).2.2.1; omega) (Nat.le_refl _)
                  rw [← eA194, ← ec195] at hr193
                  refine RL.val (v := .slice A191 (cut189).length c192) (by rw [eA194, ec195]; exact O.cutT sl31 (hM.inp hr5 Off.nil) hy190 rfl rfl rfl) rfl ?_
                  refine RL.val (O.b2s sl31 Try.underlying5 Try.underlying9 rfl ((hM.inp hr193 Off.nil))) rfl ?_
                  refine RL.val (O.bld (cs := [.int .u8 first149, .string (strOfNums cut189)]) bt76 rfl (by kernel_rfl)) rfl ?_
                  refine RL.eff (E.alloc hM ze76) rfl fun v w197 hv => ?_
                  clear hM
                  obtain ⟨g196, rfl, hM, hf⟩ := hv
                  refine RL.effs (E.stB (j := 3) (off := 0) (vs := [.int .u8 first149, .string (strOfNums cut189)]) (cs' := [.int .u8 first149, .string (strOfNums cut189)]) hM rfl sz76 rfl (adds_eq [] rfl) rfl rfl (One.all rfl) rfl rfl) fun w199 hM1 => ?_
                  clear hM
                  have hM := hM1
                  clear hM1
                  refine RL.nil ?_
                  refine KQ.then_n ?_
                  refine KC.seq ?_
                  refine KC.cut (fun a w212 => ∃ (t211 : Bool), Kn 101 [(1, .slice A3 (b2).length c4), (4, .pointer (some ⟨g6, 0, none⟩)), (7, .pointer (some ⟨g9, 0, none⟩)), (8, .int .i64 atv156), (10, .int .i64 nv185), (11, .pointer (some ⟨g196, 0, none⟩)), (80, .bool t211)] a ∧ Mem w [] w212 [.box g6 29 [.slice none 0 0, .int .u8 0], .row A153 c154 76 2 (out155).length ((out155).flatMap e_ref06_Ext), .box g9 29 [.slice A153 (out155).length c154, .int .u8 0], .box g196 76 [.int .u8 first149, .string (strOfNums cut189)]] ∧ F_ref06_ParseChain_j4 b2 first149 out155 atv156 (F_ref06_ParseChain_L1 b2 k160) nv185 cut189 t211 = some r) ?_ ?_
                  · refine KC.region ?_
                    refine RL.val (O.move rfl) rfl ?_
                    refine RL.val (O.eql rfl rfl) rfl ?_
                    refine RL.val (O.move rfl) rfl ?_
                    refine RL.bcase (t := 68) rfl (fun hc => ?_) (fun hc => ?_)
                    · rw [if_pos hc] at hF
                      refine RL.gval rfl rfl (O.move rfl) rfl ?_
                      refine RL.gval rfl rfl (O.move rfl) rfl ?_
                      refine RL.gval rfl rfl (O.add rfl rfl) rfl ?_
                      obtain ⟨xv202, hx201, hF⟩ := obind hF
                      have hA200 := Rd.atN (f := (eI .u8)) (s := 1) (fun _ => rfl) (by decide) (hM.inp hr5 Off.nil) hx201
                      refine RL.gval rfl rfl (O.idxA sl31 (hA200) rfl rfl) rfl ?_
                      refine RL.gval rfl rfl (O.load sc5 rfl (hA200).cells.at0) rfl ?_
                      refine RL.gval rfl rfl (O.neq rfl rfl) rfl ?_
                      refine RL.gval rfl rfl (O.move rfl) rfl ?_
                      refine RL.bcase (t := 75) rfl (fun hc => ?_) (fun hc => ?_)
                      · rw [if_pos hc] at hF
                        refine RL.gskip rfl rfl rfl rfl ?_
                        refine RL.gskip rfl rfl rfl rfl ?_
                        refine RL.gskip rfl rfl rfl rfl ?_
                        refine RL.gval rfl rfl (O.pickt rfl rfl) rfl ?_
                        refine RL.val (O.pickt rfl rfl) rfl ?_
                        refine RL.nil ?_
                        refine KQ.then_k ?_
                        exact fun a ha => ⟨true, ha.less (less_cons rfl (less_cons rfl (less_cons rfl (less_cons rfl (less_cons rfl (less_cons rfl (less_cons rfl less_nil))))))), hM, hF⟩
                      · rw [if_neg (ne_true hc)] at hF
                        refine RL.gval rfl rfl (O.loadN (cs := [.int .u8 first149, .string (strOfNums cut189)]) ag76 rfl (Cs.addsN [] ((hM.bx (i := 3) rfl)) rfl)) rfl ?_
                        obtain ⟨y203, hx204, hF⟩ := obind hF
                        refine RL.gcall rfl rfl Try.func42 bd42 rfl rfl (c_ref06_rightExt _ (T_ref06_Ext.mk first149 (strOfNums cut189)) _ hx204) fun v w205 hv => ?_
                        obtain ⟨rfl, hN206⟩ := hv
                        replace hM := hM.call0 hN206
                        refine RL.gval rfl rfl (O.not rfl) rfl ?_
                        refine RL.gval rfl rfl (O.pickf rfl rfl) rfl ?_
                        refine RL.val (O.pickt rfl rfl) rfl ?_
                        refine RL.nil ?_
                        refine KQ.then_k ?_
                        exact fun a ha => ⟨(!y203), ha.less (less_cons rfl (less_cons rfl (less_cons rfl (less_cons rfl (less_cons rfl (less_cons rfl (less_cons rfl less_nil))))))), hM, hF⟩
                    · rw [if_neg (ne_true hc)] at hF
                      refine RL.gskip rfl rfl rfl rfl ?_
                      refine RL.gskip rfl rfl rfl rfl ?_
                      refine RL.gskip rfl rfl rfl rfl ?_
                      refine RL.gskip rfl rfl rfl rfl ?_
                      refine RL.gskip rfl rfl rfl rfl ?_
                      refine RL.gskip rfl rfl rfl rfl ?_
                      refine RL.gskip rfl rfl rfl rfl ?_
                      refine RL.gskip' rfl rfl rfl ?_
                      refine RL.gskip' rfl rfl rfl ?_
                      refine RL.gskip' rfl rfl rfl ?_
                      refine RL.gskip rfl rfl rfl rfl ?_
                      refine RL.val (O.pickf rfl rfl) rfl ?_
                      refine RL.nil ?_
                      refine KQ.then_k ?_
                      exact fun a ha => ⟨false, ha.less (less_cons rfl (less_cons rfl (less_cons rfl (less_cons rfl (less_cons rfl (less_cons rfl (less_cons rfl less_nil))))))), hM, hF⟩
                  · rintro a w212 ⟨t211, ha, hM, hF⟩
                    refine KC.app ha ?_
                    clear ha
                    unfold F_ref06_ParseChain_j4 at hF
                    refine KC.cond rfl (fun hc => ?_) (fun hc => ?_)
                    · rw [if_pos hc] at hF
                      refine KC.seq ?_
                      refine KC.region ?_
                      refine RL.val (O.bld (cs := [.slice none 0 0, .int .u8 0]) bt29 rfl (by kernel_rfl)) rfl ?_
                      refine RL.effs (E.stB (j := 0) (off := 0) (vs := [.slice none 0 0, .int .u8 0]) (cs' := [.slice none 0 0, .int .u8 0]) hM rfl sz29 rfl (adds_eq [] rfl) rfl rfl (One.all rfl) rfl rfl) fun w213 hM1 => ?_
                      clear hM
                      have hM := hM1
                      clear hM1
                      refine RL.val (O.assign rfl) rfl ?_
                      refine RL.val (O.assign rfl) rfl ?_
                      refine RL.nil ?_
                      refine KQ.then_n ?_
                      refine KC.ret ?_
                      refine KQ.then_r ?_
                      refine KQ.blk_r ?_
                      refine KQ.then_r ?_
                      refine KQ.blk_r ?_
                      refine KQ.then_r ?_
                      obtain rfl := Option.some.inj hF
                      have hb214 := hM.bx (i := 0) rfl
                      replace hM := hM.nilrow 76 2
                      replace hM := hM.pick [4] rfl (by decide)
                      refine KQ.rets Try.results22 (RVs.cons (RV.cN (cs := [.slice none 0 0, .int .u8 0]) rfl ag29 hb214) (RVs.cons (RV.tm rfl) (RVs.cons (RV.tm rfl) RVs.nil))) ?_
                      exact ⟨_, rfl, none, 0, rfl, hM⟩
                    · rw [if_neg (ne_true hc)] at hF
                      refine KC.skip ?_
                      refine KQ.then_n ?_
                      refine KC.seq ?_
                      refine KC.region ?_
                      refine RL.val (O.fldA fl29_0 (by decide) rfl) rfl ?_
                      refine RL.val (O.load sc27 rfl (Cs.adds [0] ((hM.bx (i := 2) rfl)) rfl)) rfl ?_
                      refine RL.val (O.loadN (cs := [.int .u8 first149, .string (strOfNums cut189)]) ag76 rfl (Cs.addsN [] ((hM.bx (i := 3) rfl)) rfl)) rfl ?_
                      refine RL.eff (E.bsl (enc := e_ref06_Ext) (xs := [(T_ref06_Ext.mk first149 (strOfNums cut189))]) hM sl27 ze76 rfl rfl rfl (fun _ => rfl) rfl rfl rfl) rfl fun v w215 hv => ?_
                      clear hM
                      obtain ⟨A216, rfl, hM, hf⟩ := hv
                      obtain ⟨hq221, hF⟩ := cut_some hF
                      refine RL.eff (E.app (enc := e_ref06_Ext) (xs := out155) (ys := [(T_ref06_Ext.mk first149 (strOfNums cut189))]) (j := 1) hM rfl sl27 ze76 rfl rfl rfl rfl rfl (hM.rd (i := 4) rfl) (fun _ => One.all rfl) (of_decide_eq_true hq221)) rfl fun v w220 hv => ?_
                      clear hM
                      obtain ⟨A218, c219, rfl, hM, hf⟩ := hv
                      refine RL.val (O.fldA fl29_0 (by decide) rfl) rfl ?_
                      refine RL.effs (E.stB (j := 2) (off := 0) (vs := [.slice A218 ((out155 ++ [(T_ref06_Ext.mk first149 (strOfNums cut189))])).length c219]) (cs' := [.slice A218 ((out155 ++ [(T_ref06_Ext.mk first149 (strOfNums cut189))])).length c219, .int .u8 0]) hM rfl sz27 rfl (adds_eq [0] rfl) rfl rfl (One.all rfl) rfl rfl) fun w223 hM1 => ?_
                      clear hM
                      have hM := hM1
                      clear hM1
                      refine RL.nil ?_
                      refine KQ.then_n ?_
                      refine KC.seq ?_
                      refine KC.region ?_
                      refine RL.val (O.loadN (cs := [.int .u8 first149, .string (strOfNums cut189)]) ag76 rfl (Cs.addsN [] ((hM.bx (i := 3) rfl)) rfl)) rfl ?_
                      obtain ⟨y224, hx225, hF⟩ := obind hF
                      refine RL.call Try.func43 bd43 rfl rfl (c_ref06_later _ (T_ref06_Ext.mk first149 (strOfNums cut189)) _ hx225) fun v w226 hv => ?_
                      obtain ⟨rfl, hN227⟩ := hv
                      replace hM := hM.call0 hN227
                      refine RL.val (O.assign rfl) rfl ?_
                      refine RL.nil ?_
                      refine KQ.then_n ?_
                      refine KC.seq ?_
                      refine KC.region ?_
                      refine RL.val (O.move rfl) rfl ?_
                      refine RL.val (O.move rfl) rfl ?_
                      obtain ⟨xv230, hx229, hF⟩ := obind hF
                      have hA228 := Rd.atN (f := (eI .u8)) (s := 1) (fun _ => rfl) (by decide) (hM.inp hr5 Off.nil) hx229
                      refine RL.val (O.idxA sl31 (hA228) rfl rfl) rfl ?_
                      refine RL.val (O.load sc5 rfl (hA228).cells.at0) rfl ?_
                      refine RL.val (O.assign rfl) rfl ?_
                      refine RL.nil ?_
                      refine KQ.then_n ?_
                      refine KC.region ?_
                      refine RL.val (O.move rfl) rfl ?_
                      refine RL.val (O.move rfl) rfl ?_
                      refine RL.val (O.add rfl rfl) rfl ?_
                      refine RL.val (O.assign rfl) rfl ?_
                      refine RL.nil ?_
                      refine KQ.blk_n ?_
                      refine KQ.then_k ?_
                      replace hM := hM.pick [0, 1, 2] rfl (by decide)
                      exact fun a ha => ⟨k160, Nat.lt_succ_self k160, A218, c219, xv230, (out155 ++ [(T_ref06_Ext.mk first149 (strOfNums cut189))]), (IntKind.i64.wrap (atv156 + nv185)), y224, ha.less (less_cons rfl (less_cons rfl (less_cons rfl (less_cons rfl (less_cons rfl (less_cons rfl less_nil)))))), hM, hF⟩
      · rw [if_neg (ne_true hc)] at hF
        refine KC.exit ?_
        refine KQ.then_x ?_
        refine KQ.then_x ?_
        refine KQ.blk_x ?_
        refine KQ.then_n ?_
        refine KC.seq ?_
        refine KC.region ?_
        refine RL.val (O.move rfl) rfl ?_
        refine RL.val (O.fldA fl29_1 (by decide) rfl) rfl ?_
        refine RL.effs (E.stB (j := 2) (off := 1) (vs := [.int .u8 first149]) (cs' := [.slice A153 (out155).length c154, .int .u8 first149]) hM rfl sz5 rfl (adds_eq [1] rfl) rfl rfl (One.all rfl) rfl rfl) fun w231 hM1 => ?_
        clear hM
        have hM := hM1
        clear hM1
        refine RL.nil ?_
        refine KQ.then_n ?_
        refine KC.seq ?_
        refine KC.region ?_
        refine RL.val (O.loadN (cs := [.slice A153 (out155).length c154, .int .u8 first149]) ag29 rfl (Cs.addsN [] ((hM.bx (i := 2) rfl)) rfl)) rfl ?_
        refine RL.val (O.move rfl) rfl ?_
        refine RL.effs (E.stB (j := 0) (off := 0) (vs := [.slice A153 (out155).length c154, .int .u8 first149]) (cs' := [.slice A153 (out155).length c154, .int .u8 first149]) hM rfl sz29 rfl (adds_eq [] rfl) rfl rfl (One.all rfl) rfl rfl) fun w232 hM1 => ?_
        clear hM
        have hM := hM1
        clear hM1
        refine RL.val (O.assign rfl) rfl ?_
        refine RL.val (O.assign rfl) rfl ?_
        refine RL.nil ?_
        refine KQ.then_n ?_
        refine KC.ret ?_
        obtain rfl := Option.some.inj hF
        have hb233 := hM.bx (i := 0) rfl
        replace hM := hM.pick [1] rfl (by decide)
        refine KQ.rets Try.results22 (RVs.cons (RV.cN (cs := [.slice A153 (out155).length c154, .int .u8 first149]) rfl ag29 hb233) (RVs.cons (RV.tm rfl) (RVs.cons (RV.tm rfl) RVs.nil))) ?_
        exact ⟨_, rfl, A153, c154, rfl, hM⟩
set_option maxRecDepth 100000 in
set_option maxHeartbeats 40000000 in
theorem c_docs_Chain (w : World) (cv1 : T_ipsix_Chain) (A2 : Option Addr) (c3 : Nat) (hr4 : RdD R_ipsix_Ext [] w A2 c3 2 cv1.f_Exts) (r : T_ref06_Chain) (hF : F_docs_Chain cv1 = some r) :
    CallsR Try.prog 10 [.agg #[.slice A2 (cv1.f_Exts).length c3, .int .u8 cv1.f_Proto]] w (fun v w' => ∃ (A0 : Option Addr) (c0 : Nat), v = .agg #[.slice A0 (r.f_Exts).length c0, .int .u8 r.f_Proto] ∧ Mem w [] w' [.row A0 c0 76 2 r.f_Exts.length (r.f_Exts.flatMap e_ref06_Ext)]) := by
  refine calls_KC Try.func10 rfl Try.ntmps10 rfl ?_
  have hM := Mem.init w
  unfold F_docs_Chain at hF
  refine KC.seq ?_
  refine KC.region ?_
  refine RL.eff (E.box (vs := [.slice A2 (cv1.f_Exts).length c3, .int .u8 cv1.f_Proto]) hM rfl rfl) rfl fun v w6 hv => ?_
  clear hM
  obtain ⟨g5, rfl, hM, hf⟩ := hv
  refine RL.eff (E.alloc hM ze29) rfl fun v w9 hv => ?_
  clear hM
  obtain ⟨g8, rfl, hM, hf⟩ := hv
  refine RL.nil ?_
  refine KQ.then_n ?_
  refine KC.seq ?_
  refine KC.region ?_
  refine RL.val (O.fldA fl24_1 (by decide) rfl) rfl ?_
  refine RL.val (O.load sc5 rfl (Cs.adds [1] ((hM.bx (i := 0) rfl)) rfl)) rfl ?_
  refine RL.val (O.bld (cs := [.slice none 0 0, .int .u8 cv1.f_Proto]) bt29 rfl (by kernel_rfl)) rfl ?_
  refine RL.eff (E.alloc hM ze29) rfl fun v w12 hv => ?_
  clear hM
  obtain ⟨g11, rfl, hM, hf⟩ := hv
  refine RL.effs (E.stB (j := 2) (off := 0) (vs := [.slice none 0 0, .int .u8 cv1.f_Proto]) (cs' := [.slice none 0 0, .int .u8 cv1.f_Proto]) hM rfl sz29 rfl (adds_eq [] rfl) rfl rfl (One.all rfl) rfl rfl) fun w14 hM1 => ?_
  clear hM
  have hM := hM1
  clear hM1
  refine RL.nil ?_
  refine KQ.then_n ?_
  refine KC.seq ?_
  refine KC.seq ?_
  refine KC.region ?_
  refine RL.val (O.assign rfl) rfl ?_
  refine RL.nil ?_
  refine KQ.then_n ?_
  refine KC.block ?_
  refine KC.loop (fun k91 a w89 => ∃ (A85 : Option Addr) (c86 : Nat) (out87 : List T_ref06_Ext) (i88 : Int), Kn 35 [(1, .pointer (some ⟨g5, 0, none⟩)), (2, .pointer (some ⟨g8, 0, none⟩)), (3, .pointer (some ⟨g11, 0, none⟩)), (4, .int .i64 i88)] a ∧ Mem w [] w89 [.box g5 24 [.slice A2 (cv1.f_Exts).length c3, .int .u8 cv1.f_Proto], .box g8 29 [.slice none 0 0, .int .u8 0], .row A85 c86 76 2 (out87).length ((out87).flatMap e_ref06_Ext), .box g11 29 [.slice A85 (out87).length c86, .int .u8 cv1.f_Proto]] ∧ F_docs_Chain_L1 cv1 k91 out87 i88 = some r) ?_ ?_
  · replace hM := hM.nilrow 76 2
    replace hM := hM.pick [0, 1, 3, 2] rfl (by decide)
    exact fun a ha => ⟨fuel0, none, 0, ([]), 0, ha.less (less_cons rfl (less_cons rfl (less_cons rfl (less_cons rfl less_nil)))), hM, hF⟩
  · rintro k91 a w89 ⟨A85, c86, out87, i88, ha, hM, hF⟩
    refine KC.app ha ?_
    clear ha
    cases k91 with
    | zero => exact (none_some hF).elim
    | succ k91 =>
    have hF : F_docs_Chain_l1 (F_docs_Chain_L1 cv1 k91) cv1 out87 i88 = some r := hF
    unfold F_docs_Chain_l1 at hF
    refine KC.seq ?_
    refine KC.seq ?_
    refine KC.region ?_
    refine RL.val (O.move rfl) rfl ?_
    refine RL.val (O.fldA fl24_0 (by decide) rfl) rfl ?_
    refine RL.val (O.load sc22 rfl (Cs.adds [0] ((hM.bx (i := 0) rfl)) rfl)) rfl ?_
    refine RL.val (O.len sl22 rfl) rfl ?_
    refine RL.val (O.lss rfl rfl) rfl ?_
    refine RL.nil ?_
    refine KQ.then_n ?_
    refine KC.cond rfl (fun hc => ?_) (fun hc => ?_)
    · rw [if_pos hc] at hF
      refine KC.skip ?_
      refine KQ.then_n ?_
      refine KC.seq ?_
      refine KC.block ?_
      replace hM := hM.drewN 1
      refine KC.draw [] [17, 19] [16, 17, 19] [0, 2, 4, 6, 8, 10, 12, 18] (.ofList [0, 1, 2, 3, 4, 5, 6, 7, 8, 9, 10, 11, 12, 13, 14, 15, 16, 17, 18, 19]) moP (by kernel_rfl) ?_
      refine RD.p rfl rfl rfl rfl (fun w' => O.fldA fl29_0 (by decide) rfl) ?_
      refine RD.q rfl rfl rfl rfl (fun w' hf => O.load sc27 rfl (Cs.adds [0] ((hM.bx (i := 3) rfl).fut hf) rfl)) ?_
      refine RD.p rfl rfl rfl rfl (fun w' => O.fldA fl24_0 (by decide) rfl) ?_
      refine RD.q rfl rfl rfl rfl (fun w' hf => O.load sc22 rfl (Cs.adds [0] ((hM.bx (i := 0) rfl).fut hf) rfl)) ?_
      refine RD.p rfl rfl rfl rfl (fun w' => O.move rfl) ?_
      obtain ⟨xv94, hx93, hF⟩ := obind hF
      obtain ⟨cs97, hA92, hR95, hO96⟩ := RdD.at hr4 hx93
      obtain ⟨A98, c99, rfl, hr100, ho101⟩ := hR95
      have hA92 := hA92.chg hM.chg hO96
      refine RD.q rfl rfl rfl rfl (fun w' hf => O.idxA sl22 (hA92.fut hf) rfl rfl) ?_
      refine RD.p rfl rfl rfl rfl (fun w' => O.fldA fl63_0 (by decide) rfl) ?_
      refine RD.q rfl rfl rfl rfl (fun w' hf => O.load sc5 rfl (Cs.adds [0] (hA92.fut hf).cells rfl)) ?_
      refine RD.p rfl rfl rfl rfl (fun w' => O.fldA fl24_0 (by decide) rfl) ?_
      refine RD.q rfl rfl rfl rfl (fun w' hf => O.load sc22 rfl (Cs.adds [0] ((hM.bx (i := 0) rfl).fut hf) rfl)) ?_
      refine RD.p rfl rfl rfl rfl (fun w' => O.move rfl) ?_
      obtain ⟨xv104, hx103, hF⟩ := obind hF
      obtain ⟨cs107, hA102, hR105, hO106⟩ := RdD.at hr4 hx103
      obtain ⟨A108, c109, rfl, hr110, ho111⟩ := hR105
      have hA102 := hA102.chg hM.chg hO106
      refine RD.q rfl rfl rfl rfl (fun w' hf => O.idxA sl22 (hA102.fut hf) rfl rfl) ?_
      refine RD.p rfl rfl rfl rfl (fun w' => O.fldA fl63_1 (by decide) rfl) ?_
      refine RD.q rfl rfl rfl rfl (fun w' hf => O.load sc31 rfl (Cs.adds [1] (hA102.fut hf).cells rfl)) ?_
      refine RD.q rfl rfl rfl rfl (fun w' hf => O.b2s sl31 Try.underlying5 Try.underlying9 rfl ((hM.inp hr110 Off.nil).fut hf)) ?_
      refine RD.q rfl rfl rfl rfl (fun w' hf => O.bld (cs := [.int .u8 xv94.f_Kind, .string (strOfNums xv104.f_Data)]) bt76 rfl (by kernel_rfl)) ?_
      refine RD.meff rfl rfl (E.bsl (enc := e_ref06_Ext) (xs := [(T_ref06_Ext.mk xv94.f_Kind (strOfNums xv104.f_Data))]) hM sl27 ze76 rfl rfl rfl (fun _ => rfl) rfl rfl rfl) rfl fun v w112 hv => ?_
      clear hM
      obtain ⟨A113, rfl, hM, hf⟩ := hv
      refine ⟨fun _ => hf, ?_⟩
      obtain ⟨hq118, hF⟩ := cut_some hF
      refine RD.meff rfl rfl (E.app (enc := e_ref06_Ext) (xs := out87) (ys := [(T_ref06_Ext.mk xv94.f_Kind (strOfNums xv104.f_Data))]) (j := 2) hM rfl sl27 ze76 rfl rfl rfl rfl rfl (hM.rd (i := 4) rfl) (fun _ => One.all rfl) (of_decide_eq_true hq118)) rfl fun v w117 hv => ?_
      clear hM
      obtain ⟨A115, c116, rfl, hM, hf⟩ := hv
      refine ⟨fun h => (by cases h), ?_⟩
      refine RD.p rfl rfl rfl rfl (fun w' => O.fldA fl29_0 (by decide) rfl) ?_
      refine RD.meffs rfl rfl rfl (E.stB (j := 3) (off := 0) (vs := [.slice A115 ((out87 ++ [(T_ref06_Ext.mk xv94.f_Kind (strOfNums xv104.f_Data))])).length c116]) (cs' := [.slice A115 ((out87 ++ [(T_ref06_Ext.mk xv94.f_Kind (strOfNums xv104.f_Data))])).length c116, .int .u8 cv1.f_Proto]) hM rfl sz27 rfl (adds_eq [0] rfl) rfl rfl (One.all rfl) rfl rfl) fun w120 hM1 => ?_
      clear hM
      have hM := hM1
      clear hM1
      refine RD.nil ?_
      refine KQ.blk_n ?_
      refine KQ.then_n ?_
      refine KC.region ?_
      refine RL.val (O.move rfl) rfl ?_
      refine RL.val (O.add rfl rfl) rfl ?_
      refine RL.val (O.assign rfl) rfl ?_
      refine RL.nil ?_
      refine KQ.then_k ?_
      replace hM := hM.pick [0, 1, 2, 3] rfl (by decide)
      exact fun a ha => ⟨k91, Nat.lt_succ_self k91, A115, c116, (out87 ++ [(T_ref06_Ext.mk xv94.f_Kind (strOfNums xv104.f_Data))]), (IntKind.i64.wrap (i88 + 1)), ha.less (less_cons rfl (less_cons rfl (less_cons rfl (less_cons rfl less_nil)))), hM, hF⟩
    · rw [if_neg (ne_true hc)] at hF
      refine KC.exit ?_
      refine KQ.then_x ?_
      refine KQ.then_x ?_
      refine KQ.blk_x ?_
      refine KQ.then_n ?_
      refine KC.seq ?_
      refine KC.region ?_
      refine RL.val (O.loadN (cs := [.slice A85 (out87).length c86, .int .u8 cv1.f_Proto]) ag29 rfl (Cs.addsN [] ((hM.bx (i := 3) rfl)) rfl)) rfl ?_
      refine RL.effs (E.stB (j := 1) (off := 0) (vs := [.slice A85 (out87).length c86, .int .u8 cv1.f_Proto]) (cs' := [.slice A85 (out87).length c86, .int .u8 cv1.f_Proto]) hM rfl sz29 rfl (adds_eq [] rfl) rfl rfl (One.all rfl) rfl rfl) fun w121 hM1 => ?_
      clear hM
      have hM := hM1
      clear hM1
      refine RL.nil ?_
      refine KQ.then_n ?_
      refine KC.ret ?_
      obtain rfl := Option.some.inj hF
      have hb122 := hM.bx (i := 1) rfl
      replace hM := hM.pick [2] rfl (by decide)
      refine KQ.rets Try.results10 (RVs.cons (RV.cN (cs := [.slice A85 (out87).length c86, .int .u8 cv1.f_Proto]) rfl ag29 hb122) RVs.nil) ?_
      exact ⟨_, rfl, A85, c86, rfl, hM⟩
set_option maxRecDepth 100000 in
set_option maxHeartbeats 40000000 in
theorem c_ref06_Same (w : World) (av1 : T_ref06_Chain) (A2 : Option Addr) (c3 : Nat) (hr4 : Rd w A2 c3 2 av1.f_Exts.length (av1.f_Exts.flatMap e_ref06_Ext)) (b5 : T_ref06_Chain) (A6 : Option Addr) (c7 : Nat) (hr8 : Rd w A6 c7 2 b5.f_Exts.length (b5.f_Exts.flatMap e_ref06_Ext)) (r : Bool) (hF : F_ref06_Same av1 b5 = some r) :
    CallsR Try.prog 19 [.agg #[.slice A2 (av1.f_Exts).length c3, .int .u8 av1.f_Proto], .agg #[.slice A6 (b5.f_Exts).length c7, .int .u8 b5.f_Proto]] w (fun v w' => v = .bool r ∧ Mem w [] w' []) := by
  refine calls_KC Try.func19 rfl Try.ntmps19 rfl ?_
  have hM := Mem.init w
  unfold F_ref06_Same at hF
  refine KC.seq ?_
  refine KC.region ?_
  refine RL.eff (E.box (vs := [.slice A2 (av1.f_Exts).length c3, .int .u8 av1.f_Proto]) hM rfl rfl) rfl fun v w10 hv => ?_
  clear hM
  obtain ⟨g9, rfl, hM, hf⟩ := hv
  refine RL.eff (E.box (vs := [.slice A6 (b5.f_Exts).length c7, .int .u8 b5.f_Proto]) hM rfl rfl) rfl fun v w13 hv => ?_
  clear hM
  obtain ⟨g12, rfl, hM, hf⟩ := hv
  refine RL.val (O.assign rfl) rfl ?_
  refine RL.nil ?_
  refine KQ.then_n ?_
  refine KC.seq ?_
  refine KC.seq ?_
  refine KC.region ?_
  refine RL.val (O.fldA fl29_0 (by decide) rfl) rfl ?_
  refine RL.val (O.load sc27 rfl (Cs.adds [0] ((hM.bx (i := 0) rfl)) rfl)) rfl ?_
  refine RL.val (O.len sl27 rfl) rfl ?_
  refine RL.val (O.fldA fl29_0 (by decide) rfl) rfl ?_
  refine RL.val (O.load sc27 rfl (Cs.adds [0] ((hM.bx (i := 1) rfl)) rfl)) rfl ?_
  refine RL.val (O.len sl27 rfl) rfl ?_
  refine RL.val (O.neq rfl rfl) rfl ?_
  refine RL.nil ?_
  refine KQ.then_n ?_
  refine KC.cond rfl (fun hc => ?_) (fun hc => ?_)
  · rw [if_pos hc] at hF
    refine KC.seq ?_
    refine KC.region ?_
    refine RL.val (O.assign rfl) rfl ?_
    refine RL.nil ?_
    refine KQ.then_n ?_
    refine KC.ret ?_
    refine KQ.then_r ?_
    obtain rfl := Option.some.inj hF
    replace hM := hM.pick [] rfl (by decide)
    refine KQ.rets Try.results19 (RVs.cons (RV.tm rfl) RVs.nil) ?_
    exact ⟨_, rfl, rfl, hM⟩
  · rw [if_neg (ne_true hc)] at hF
    refine KC.skip ?_
    refine KQ.then_n ?_
    refine KC.seq ?_
    refine KC.seq ?_
    refine KC.region ?_
    refine RL.val (O.assign rfl) rfl ?_
    refine RL.nil ?_
    refine KQ.then_n ?_
    refine KC.block ?_
    refine KC.loop (fun k35 a w33 => ∃ (i32 : Int), Kn 36 [(2, .pointer (some ⟨g9, 0, none⟩)), (3, .pointer (some ⟨g12, 0, none⟩)), (5, .int .i64 i32)] a ∧ Mem w [] w33 [.box g9 29 [.slice A2 (av1.f_Exts).length c3, .int .u8 av1.f_Proto], .box g12 29 [.slice A6 (b5.f_Exts).length c7, .int .u8 b5.f_Proto]] ∧ F_ref06_Same_L1 av1 b5 k35 i32 = some r) ?_ ?_
    · exact fun a ha => ⟨fuel0, 0, ha.less (less_cons rfl (less_cons rfl (less_cons rfl less_nil))), hM, hF⟩
    · rintro k35 a w33 ⟨i32, ha, hM, hF⟩
      refine KC.app ha ?_
      clear ha
      cases k35 with
      | zero => exact (none_some hF).elim
      | succ k35 =>
      have hF : F_ref06_Same_l1 (F_ref06_Same_L1 av1 b5 k35) av1 b5 i32 = some r := hF
      unfold F_ref06_Same_l1 at hF
      refine KC.seq ?_
      refine KC.seq ?_
      refine KC.region ?_
      refine RL.val (O.move rfl) rfl ?_
      refine RL.val (O.fldA fl29_0 (by decide) rfl) rfl ?_
      refine RL.val (O.load sc27 rfl (Cs.adds [0] ((hM.bx (i := 0) rfl)) rfl)) rfl ?_
      refine RL.val (O.len sl27 rfl) rfl ?_
      refine RL.val (O.lss rfl rfl) rfl ?_
      refine RL.nil ?_
      refine KQ.then_n ?_
      refine KC.cond rfl (fun hc => ?_) (fun hc => ?_)
      · rw [if_pos hc] at hF
        refine KC.skip ?_
        refine KQ.then_n ?_
        refine KC.seq ?_
        refine KC.block ?_
        refine KC.seq ?_
        replace hM := hM.drewN 1
        refine KC.draw [] [] [] [0, 2, 5, 7, 10] (.ofList [0, 1, 2, 3, 4, 5, 6, 7, 8, 9, 10]) moP (by kernel_rfl) ?_
        refine RD.p rfl rfl rfl rfl (fun w' => O.fldA fl29_0 (by decide) rfl) ?_
        refine RD.q rfl rfl rfl rfl (fun w' hf => O.load sc27 rfl (Cs.adds [0] ((hM.bx (i := 0) rfl).fut hf) rfl)) ?_
        refine RD.p rfl rfl rfl rfl (fun w' => O.move rfl) ?_
        obtain ⟨xv38, hx37, hF⟩ := obind hF
        have hA36 := Rd.atN (f := e_ref06_Ext) (s := 2) (fun _ => rfl) (by decide) (hM.inp hr4 Off.nil) hx37
        refine RD.q rfl rfl rfl rfl (fun w' hf => O.idxA sl27 (hA36.fut hf) rfl rfl) ?_
        refine RD.q rfl rfl rfl rfl (fun w' hf => O.loadN (cs := [.int .u8 xv38.f_Kind, .string xv38.f_Data]) ag76 rfl (hA36.fut hf).cells) ?_
        refine RD.p rfl rfl rfl rfl (fun w' => O.fldA fl29_0 (by decide) rfl) ?_
        refine RD.q rfl rfl rfl rfl (fun w' hf => O.load sc27 rfl (Cs.adds [0] ((hM.bx (i := 1) rfl).fut hf) rfl)) ?_
        refine RD.p rfl rfl rfl rfl (fun w' => O.move rfl) ?_
        obtain ⟨xv41, hx40, hF⟩ := obind hF
        have hA39 := Rd.atN (f := e_ref06_Ext) (s := 2) (fun _ => rfl) (by decide) (hM.inp hr8 Off.nil) hx40
        refine RD.q rfl rfl rfl rfl (fun w' hf => O.idxA sl27 (hA39.fut hf) rfl rfl) ?_
        refine RD.q rfl rfl rfl rfl (fun w' hf => O.loadN (cs := [.int .u8 xv41.f_Kind, .string xv41.f_Data]) ag76 rfl (hA39.fut hf).cells) ?_
        refine RD.p rfl rfl rfl rfl (fun w' => O.stne (cs := [.int .u8 xv38.f_Kind, .string xv38.f_Data]) (cs' := [.int .u8 xv41.f_Kind, .string xv41.f_Data]) (by kernel_rfl) rfl rfl (Q76t xv38 xv41 _ rfl rfl)) ?_
        refine RD.nil ?_
        refine KQ.then_n ?_
        refine KC.cond rfl (fun hc => ?_) (fun hc => ?_)
        · rw [if_pos hc] at hF
          refine KC.seq ?_
          refine KC.region ?_
          refine RL.val (O.assign rfl) rfl ?_
          refine RL.nil ?_
          refine KQ.then_n ?_
          refine KC.ret ?_
          refine KQ.blk_r ?_
          refine KQ.then_r ?_
          refine KQ.then_r ?_
          refine KQ.blk_r ?_
          refine KQ.then_r ?_
          obtain rfl := Option.some.inj hF
          replace hM := hM.pick [] rfl (by decide)
          refine KQ.rets Try.results19 (RVs.cons (RV.tm rfl) RVs.nil) ?_
          exact ⟨_, rfl, rfl, hM⟩
        · rw [if_neg (ne_true hc)] at hF
          refine KC.skip ?_
          refine KQ.blk_n ?_
          refine KQ.then_n ?_
          refine KC.region ?_
          refine RL.val (O.move rfl) rfl ?_
          refine RL.val (O.add rfl rfl) rfl ?_
          refine RL.val (O.assign rfl) rfl ?_
          refine RL.nil ?_
          refine KQ.then_k ?_
          exact fun a ha => ⟨k35, Nat.lt_succ_self k35, (IntKind.i64.wrap (i32 + 1)), ha.less (less_cons rfl (less_cons rfl (less_cons rfl less_nil))), hM, hF⟩
      · rw [if_neg (ne_true hc)] at hF
        refine KC.exit ?_
        refine KQ.then_x ?_
        refine KQ.then_x ?_
        refine KQ.blk_x ?_
        refine KQ.then_n ?_
        refine KC.seq ?_
        refine KC.region ?_
        refine RL.val (O.fldA fl29_1 (by decide) rfl) rfl ?_
        refine RL.val (O.load sc5 rfl (Cs.adds [1] ((hM.bx (i := 0) rfl)) rfl)) rfl ?_
        refine RL.val (O.fldA fl29_1 (by decide) rfl) rfl ?_
        refine RL.val (O.load sc5 rfl (Cs.adds [1] ((hM.bx (i := 1) rfl)) rfl)) rfl ?_
        refine RL.val (O.eql rfl rfl) rfl ?_
        refine RL.val (O.assign rfl) rfl ?_
        refine RL.nil ?_
        refine KQ.then_n ?_
        refine KC.ret ?_
        obtain rfl := Option.some.inj hF
        replace hM := hM.pick [] rfl (by decide)
        refine KQ.rets Try.results19 (RVs.cons (RV.tm rfl) RVs.nil) ?_
        exact ⟨_, rfl, rfl, hM⟩
end Go.Proofs.Ytikjomacnbemhaa
