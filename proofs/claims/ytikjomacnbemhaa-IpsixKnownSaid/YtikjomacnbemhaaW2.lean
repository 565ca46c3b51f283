/- Printed by a program of this claim: each call returns what the plain function of its name gives. -/
import Derived.Test.YtikjomacnbemhaaW1
set_option linter.unusedVariables false
namespace Go.Proofs.Ytikjomacnbemhaa
open Go Go.Ox Go.RowKit
set_option maxRecDepth 100000 in
set_option maxHeartbeats 40000000 in
theorem c_slices_ContainsFunc_ipsix_Ext_ipsix_Ext_fipsix_Right_1 (w : World) (A2 : Option Addr) (c3 : Nat) (s1 : List T_ipsix_Ext) (hr4 : RdD R_ipsix_Ext [] w A2 c3 2 s1) (r : Bool) (hF : F_slices_ContainsFunc_ipsix_Ext_ipsix_Ext_fipsix_Right_1 s1 = some r) :
    CallsR Try.prog 37 [.slice A2 (s1).length c3, .func (.func 38) #[] #[]] w (fun v w' => v = .bool r ∧ Mem w [] w' []) := by
  refine calls_KC Try.func37 rfl Try.ntmps37 rfl ?_
  have hM := Mem.init w
  unfold F_slices_ContainsFunc_ipsix_Ext_ipsix_Ext_fipsix_Right_1 at hF
  refine KC.seq ?_
  refine KC.region ?_
  refine RL.val (O.assign rfl) rfl ?_
  refine RL.nil ?_
  refine KQ.then_n ?_
  refine KC.seq ?_
  refine KC.region ?_
  refine RL.val (O.move rfl) rfl ?_
  refine RL.val (O.move rfl) rfl ?_
  refine obindE hF fun y5 hx6 hF => ?_
  refine RL.call Try.func32 bd32 rfl rfl (c_slices_IndexFunc_ipsix_Ext_ipsix_Ext_fipsix_Right_1 _ _ _ s1 (hr4.chg mv_ipsix_Ext hM.chg) _ hx6) fun v w7 hv => ?_
  obtain ⟨rfl, hN8⟩ := hv
  replace hM := hM.call0 hN8
  refine RL.val (O.geq rfl rfl) rfl ?_
  refine RL.val (O.assign rfl) rfl ?_
  refine RL.nil ?_
  refine KQ.then_n ?_
  refine KC.ret ?_
  obtain rfl := Option.some.inj hF
  refine KQ.rets Try.results37 (RVs.cons (RV.tm rfl) RVs.nil) ?_
  exact ⟨_, rfl, rfl, hM⟩
set_option maxRecDepth 100000 in
set_option maxHeartbeats 40000000 in
theorem c_ipsix_Ext_later (w : World) (xv1 : T_ipsix_Ext) (A2 : Option Addr) (c3 : Nat) (hr4 : Rd w A2 c3 1 xv1.f_Data.length (xv1.f_Data.flatMap (eI .u8))) (r : Bool) (hF : F_ipsix_Ext_later xv1 = some r) :
    CallsR Try.prog 40 [.agg #[.int .u8 xv1.f_Kind, .slice A2 (xv1.f_Data).length c3]] w (fun v w' => v = .bool r ∧ Mem w [] w' []) := by
  refine calls_KC Try.func40 rfl Try.ntmps40 rfl ?_
  have hM := Mem.init w
  unfold F_ipsix_Ext_later at hF
  refine KC.seq ?_
  refine KC.region ?_
  refine RL.eff (E.box (vs := [.int .u8 xv1.f_Kind, .slice A2 (xv1.f_Data).length c3]) hM rfl rfl) rfl fun v w6 hv => ?_
  clear hM
  obtain ⟨g5, rfl, hM, hf⟩ := hv
  refine RL.val (O.assign rfl) rfl ?_
  refine RL.nil ?_
  refine KQ.then_n ?_
  refine KC.seq ?_
  refine KC.region ?_
  refine RL.val (O.loadN (cs := [.int .u8 xv1.f_Kind, .slice A2 (xv1.f_Data).length c3]) ag63 rfl (Cs.addsN [] ((hM.bx (i := 0) rfl)) rfl)) rfl ?_
  refine obindE hF fun y8 hx9 hF => ?_
  refine RL.call Try.func34 bd34 rfl rfl (c_ipsix_Ext_says _ xv1 _ _ (hM.inp hr4 Off.nil) _ hx9) fun v w10 hv => ?_
  obtain ⟨rfl, hN11⟩ := hv
  replace hM := hM.call0 hN11
  refine RL.val (O.move rfl) rfl ?_
  refine RL.val (O.ext rfl rfl) rfl ?_
  refine RL.val (O.ext rfl rfl) rfl ?_
  refine RL.val (O.ext rfl rfl) rfl ?_
  refine RL.val (O.assign rfl) rfl ?_
  refine RL.val (O.assign rfl) rfl ?_
  refine RL.val (O.assign rfl) rfl ?_
  refine RL.nil ?_
  refine KQ.then_n ?_
  refine KC.cut (fun a w13 => ∃ (t12 : Bool), Kn 19 [(2, .bool t12)] a ∧ Mem w [] w13 [] ∧ F_ipsix_Ext_later_j1 t12 = some r) ?_ ?_
  · refine KC.region ?_
    refine RL.val (O.fldA fl63_0 (by decide) rfl) rfl ?_
    refine RL.val (O.load sc5 rfl (Cs.adds [0] ((hM.bx (i := 0) rfl)) rfl)) rfl ?_
    refine RL.val (O.eql rfl rfl) rfl ?_
    refine RL.val (O.move rfl) rfl ?_
    refine RL.bcase (t := 15) rfl (fun hc => ?_) (fun hc => ?_)
    · rw [if_pos hc] at hF
      refine RL.gval rfl rfl (O.move rfl) rfl ?_
      refine RL.gval rfl rfl (O.gtr rfl rfl) rfl ?_
      refine RL.val (O.pickt rfl rfl) rfl ?_
      refine RL.val (O.assign rfl) rfl ?_
      refine RL.nil ?_
      refine KQ.then_k ?_
      replace hM := hM.pick [] rfl (by decide)
      exact fun a ha => ⟨(decide (0 < y8.1)), ha.less (less_cons rfl less_nil), hM, hF⟩
    · rw [if_neg (ne_true hc)] at hF
      refine RL.gskip rfl rfl rfl rfl ?_
      refine RL.gskip rfl rfl rfl rfl ?_
      refine RL.val (O.pickf rfl rfl) rfl ?_
      refine RL.val (O.assign rfl) rfl ?_
      refine RL.nil ?_
      refine KQ.then_k ?_
      replace hM := hM.pick [] rfl (by decide)
      exact fun a ha => ⟨false, ha.less (less_cons rfl less_nil), hM, hF⟩
  · rintro a w13 ⟨t12, ha, hM, hF⟩
    refine KC.app ha ?_
    clear ha
    unfold F_ipsix_Ext_later_j1 at hF
    refine KC.ret ?_
    obtain rfl := Option.some.inj hF
    refine KQ.rets Try.results40 (RVs.cons (RV.tm rfl) RVs.nil) ?_
    exact ⟨_, rfl, rfl, hM⟩
set_option maxRecDepth 100000 in
set_option maxHeartbeats 40000000 in
theorem c_ipsix_Right (w : World) (cv1 : T_ipsix_Chain) (A2 : Option Addr) (c3 : Nat) (hr4 : RdD R_ipsix_Ext [] w A2 c3 2 cv1.f_Exts) (r : Bool) (hF : F_ipsix_Right cv1 = some r) :
    CallsR Try.prog 16 [.agg #[.slice A2 (cv1.f_Exts).length c3, .int .u8 cv1.f_Proto]] w (fun v w' => v = .bool r ∧ Mem w [] w' []) := by
  refine calls_KC Try.func16 rfl Try.ntmps16 rfl ?_
  have hM := Mem.init w
  unfold F_ipsix_Right at hF
  refine KC.seq ?_
  refine KC.region ?_
  refine RL.eff (E.box (vs := [.slice A2 (cv1.f_Exts).length c3, .int .u8 cv1.f_Proto]) hM rfl rfl) rfl fun v w6 hv => ?_
  clear hM
  obtain ⟨g5, rfl, hM, hf⟩ := hv
  refine RL.val (O.assign rfl) rfl ?_
  refine RL.nil ?_
  refine KQ.then_n ?_
  refine KC.seq ?_
  refine KC.cut (fun a w14 => ∃ (t13 : Bool), Kn 60 [(1, .pointer (some ⟨g5, 0, none⟩)), (14, .bool t13)] a ∧ Mem w [] w14 [.box g5 24 [.slice A2 (cv1.f_Exts).length c3, .int .u8 cv1.f_Proto]] ∧ F_ipsix_Right_j1 cv1 t13 = some r) ?_ ?_
  · refine KC.region ?_
    refine RL.val (O.fldA fl24_0 (by decide) rfl) rfl ?_
    refine RL.val (O.load sc22 rfl (Cs.adds [0] ((hM.bx (i := 0) rfl)) rfl)) rfl ?_
    refine RL.val (O.len sl22 rfl) rfl ?_
    refine RL.val (O.gtr rfl rfl) rfl ?_
    refine RL.val (O.move rfl) rfl ?_
    refine RL.bcase (t := 10) rfl (fun hc => ?_) (fun hc => ?_)
    · rw [if_pos hc] at hF
      refine RL.brun1 4 14 true (by kernel_rfl) ?_
      refine RL.nil ?_
      refine KQ.then_k ?_
      exact fun a ha => ⟨true, ha.less (less_cons rfl (less_cons rfl less_nil)), hM, hF⟩
    · rw [if_neg (ne_true hc)] at hF
      refine RL.gval rfl rfl (O.fldA fl24_0 (by decide) rfl) rfl ?_
      refine RL.gval rfl rfl (O.load sc22 rfl (Cs.adds [0] ((hM.bx (i := 0) rfl)) rfl)) rfl ?_
      refine obindE hF fun y8 hx9 hF => ?_
      refine RL.gcall rfl rfl Try.func37 bd37 rfl rfl (c_slices_ContainsFunc_ipsix_Ext_ipsix_Ext_fipsix_Right_1 _ _ _ cv1.f_Exts (hr4.chg mv_ipsix_Ext hM.chg) _ hx9) fun v w10 hv => ?_
      obtain ⟨rfl, hN11⟩ := hv
      replace hM := hM.call0 hN11
      refine RL.val (O.pickf rfl rfl) rfl ?_
      refine RL.nil ?_
      refine KQ.then_k ?_
      exact fun a ha => ⟨y8, ha.less (less_cons rfl (less_cons rfl less_nil)), hM, hF⟩
  · rintro a w14 ⟨t13, ha, hM, hF⟩
    refine KC.app ha ?_
    clear ha
    unfold F_ipsix_Right_j1 at hF
    refine KC.cond rfl (fun hc => ?_) (fun hc => ?_)
    · rw [if_pos hc] at hF
      refine KC.seq ?_
      refine KC.region ?_
      refine RL.val (O.assign rfl) rfl ?_
      refine RL.nil ?_
      refine KQ.then_n ?_
      refine KC.ret ?_
      refine KQ.then_r ?_
      obtain rfl := Option.some.inj hF
      replace hM := hM.pick [] rfl (by decide)
      refine KQ.rets Try.results16 (RVs.cons (RV.tm rfl) RVs.nil) ?_
      exact ⟨_, rfl, rfl, hM⟩
    · rw [if_neg (ne_true hc)] at hF
      refine KC.skip ?_
      refine KQ.then_n ?_
      refine KC.seq ?_
      refine KC.region ?_
      refine RL.val (O.fldA fl24_0 (by decide) rfl) rfl ?_
      refine RL.val (O.load sc22 rfl (Cs.adds [0] ((hM.bx (i := 0) rfl)) rfl)) rfl ?_
      refine RL.val (O.len sl22 rfl) rfl ?_
      refine RL.val (O.sub rfl rfl) rfl ?_
      refine RL.val (O.assign rfl) rfl ?_
      refine RL.nil ?_
      refine KQ.then_n ?_
      refine KC.seq ?_
      refine KC.seq ?_
      refine KC.region ?_
      refine RL.val (O.fldA fl24_0 (by decide) rfl) rfl ?_
      refine RL.val (O.load sc22 rfl (Cs.adds [0] ((hM.bx (i := 0) rfl)) rfl)) rfl ?_
      refine RL.val (O.len sl22 rfl) rfl ?_
      refine RL.val (O.move rfl) rfl ?_
      refine RL.nil ?_
      refine KQ.then_n ?_
      refine KC.block ?_
      refine KC.loop (fun k71 a w69 => ∃ (t68 : Int), Kn 60 [(1, .pointer (some ⟨g5, 0, none⟩)), (3, .int .i64 (IntKind.i64.wrap ((cv1.f_Exts.length : Int) - 1))), (20, .slice A2 (cv1.f_Exts).length c3), (21, .int .i64 (cv1.f_Exts.length : Int)), (22, .int .i64 t68)] a ∧ Mem w [] w69 [.box g5 24 [.slice A2 (cv1.f_Exts).length c3, .int .u8 cv1.f_Proto]] ∧ F_ipsix_Right_L1 cv1 k71 t68 = some r) ?_ ?_
      · exact fun a ha => ⟨fuel0, 0, ha.less (less_cons rfl (less_cons rfl (less_cons rfl (less_cons rfl (less_cons rfl less_nil))))), hM, hF⟩
      · rintro k71 a w69 ⟨t68, ha, hM, hF⟩
        refine KC.app ha ?_
        clear ha
        cases k71 with
        | zero => exact (none_some hF).elim
        | succ k71 =>
        have hF : F_ipsix_Right_l1 (F_ipsix_Right_L1 cv1 k71) cv1 t68 = some r := hF
        unfold F_ipsix_Right_l1 at hF
        refine KC.seq ?_
        refine KC.region ?_
        refine RL.val (O.lss rfl rfl) rfl ?_
        refine RL.nil ?_
        refine KQ.then_n ?_
        refine KC.seq ?_
        refine KC.cond rfl (fun hc => ?_) (fun hc => ?_)
        · rw [if_pos hc] at hF
          refine KC.skip ?_
          refine KQ.then_n ?_
          refine KC.seq ?_
          refine KC.block ?_
          refine KC.seq ?_
          refine KC.region ?_
          refine RL.val (O.move rfl) rfl ?_
          refine obindE hF fun xv74 hx73 hF => ?_
          obtain ⟨cs77, hA72, hR75, hO76⟩ := RdD.at hr4 hx73
          obtain ⟨A78, c79, rfl, hr80, ho81⟩ := hR75
          have hA72 := hA72.chg hM.chg hO76
          refine RL.val (O.idxA sl22 (hA72) rfl rfl) rfl ?_
          refine RL.val (O.loadN (cs := [.int .u8 xv74.f_Kind, .slice A78 (xv74.f_Data).length c79]) ag63 rfl (hA72).cells) rfl ?_
          refine RL.eff (E.alloc hM ze63) rfl fun v w83 hv => ?_
          clear hM
          obtain ⟨g82, rfl, hM, hf⟩ := hv
          refine RL.val (O.assign rfl) rfl ?_
          refine RL.effs (E.stB (j := 1) (off := 0) (vs := [.int .u8 xv74.f_Kind, .slice A78 (xv74.f_Data).length c79]) (cs' := [.int .u8 xv74.f_Kind, .slice A78 (xv74.f_Data).length c79]) hM rfl sz63 rfl (adds_eq [] rfl) rfl rfl (One.all rfl) rfl rfl) fun w85 hM1 => ?_
          clear hM
          have hM := hM1
          clear hM1
          refine RL.nil ?_
          refine KQ.then_n ?_
          refine KC.cut (fun a w96 => ∃ (t95 : Bool), Kn 60 [(1, .pointer (some ⟨g5, 0, none⟩)), (3, .int .i64 (IntKind.i64.wrap ((cv1.f_Exts.length : Int) - 1))), (20, .slice A2 (cv1.f_Exts).length c3), (21, .int .i64 (cv1.f_Exts.length : Int)), (22, .int .i64 t68), (42, .bool t95)] a ∧ Mem w [] w96 [.box g5 24 [.slice A2 (cv1.f_Exts).length c3, .int .u8 cv1.f_Proto]] ∧ F_ipsix_Right_j2 t68 (F_ipsix_Right_L1 cv1 k71) t95 = some r) ?_ ?_
          · refine KC.region ?_
            refine RL.val (O.fldA fl63_0 (by decide) rfl) rfl ?_
            refine RL.val (O.load sc5 rfl (Cs.adds [0] ((hM.bx (i := 1) rfl)) rfl)) rfl ?_
            refine RL.val (O.eql rfl rfl) rfl ?_
            refine RL.val (O.move rfl) rfl ?_
            refine RL.bcase (t := 30) rfl (fun hc => ?_) (fun hc => ?_)
            · rw [if_pos hc] at hF
              refine RL.gval rfl rfl (O.move rfl) rfl ?_
              refine RL.gval rfl rfl (O.gtr rfl rfl) rfl ?_
              refine RL.val (O.pickt rfl rfl) rfl ?_
              refine RL.val (O.move rfl) rfl ?_
              refine RL.bcase (t := 34) rfl (fun hc => ?_) (fun hc => ?_)
              · rw [if_pos hc] at hF
                refine RL.gskip rfl rfl rfl rfl ?_
                refine RL.gskip rfl rfl rfl rfl ?_
                refine RL.gskip rfl rfl rfl rfl ?_
                refine RL.gskip' rfl rfl rfl ?_
                refine RL.gskip' rfl rfl rfl ?_
                refine RL.gskip' rfl rfl rfl ?_
                refine RL.gskip rfl rfl rfl rfl ?_
                refine RL.val (O.pickt rfl rfl) rfl ?_
                refine RL.nil ?_
                refine KQ.then_k ?_
                replace hM := hM.pick [0] rfl (by decide)
                exact fun a ha => ⟨true, ha.less (less_cons rfl (less_cons rfl (less_cons rfl (less_cons rfl (less_cons rfl (less_cons rfl less_nil)))))), hM, hF⟩
              · rw [if_neg (ne_true hc)] at hF
                refine RL.gval rfl rfl (O.loadN (cs := [.int .u8 xv74.f_Kind, .slice A78 (xv74.f_Data).length c79]) ag63 rfl (Cs.addsN [] ((hM.bx (i := 1) rfl)) rfl)) rfl ?_
                refine obindE hF fun y86 hx87 hF => ?_
                refine RL.gcall rfl rfl Try.func40 bd40 rfl rfl (c_ipsix_Ext_later _ xv74 _ _ (hM.inp hr80 Off.nil) _ hx87) fun v w88 hv => ?_
                obtain ⟨rfl, hN89⟩ := hv
                replace hM := hM.call0 hN89
                refine RL.gval rfl rfl (O.move rfl) rfl ?_
                refine RL.bcase (t := 37) rfl (fun hc => ?_) (fun hc => ?_)
                · rw [if_pos hc] at hF
                  refine RL.gval rfl rfl (O.move rfl) rfl ?_
                  refine RL.gval rfl rfl (O.move rfl) rfl ?_
                  refine RL.gval rfl rfl (O.lss rfl rfl) rfl ?_
                  refine RL.gval rfl rfl (O.pickt rfl rfl) rfl ?_
                  refine RL.val (O.pickf rfl rfl) rfl ?_
                  refine RL.nil ?_
                  refine KQ.then_k ?_
                  replace hM := hM.pick [0] rfl (by decide)
                  exact fun a ha => ⟨(decide (t68 < (IntKind.i64.wrap ((cv1.f_Exts.length : Int) - 1)))), ha.less (less_cons rfl (less_cons rfl (less_cons rfl (less_cons rfl (less_cons rfl (less_cons rfl less_nil)))))), hM, hF⟩
                · rw [if_neg (ne_true hc)] at hF
                  refine RL.gskip rfl rfl rfl rfl ?_
                  refine RL.gskip rfl rfl rfl rfl ?_
                  refine RL.gskip rfl rfl rfl rfl ?_
                  refine RL.gval rfl rfl (O.pickf rfl rfl) rfl ?_
                  refine RL.val (O.pickf rfl rfl) rfl ?_
                  refine RL.nil ?_
                  refine KQ.then_k ?_
                  replace hM := hM.pick [0] rfl (by decide)
                  exact fun a ha => ⟨false, ha.less (less_cons rfl (less_cons rfl (less_cons rfl (less_cons rfl (less_cons rfl (less_cons rfl less_nil)))))), hM, hF⟩
            · rw [if_neg (ne_true hc)] at hF
              refine RL.gskip rfl rfl rfl rfl ?_
              refine RL.gskip rfl rfl rfl rfl ?_
              refine RL.val (O.pickf rfl rfl) rfl ?_
              refine RL.val (O.move rfl) rfl ?_
              refine RL.gval rfl rfl (O.loadN (cs := [.int .u8 xv74.f_Kind, .slice A78 (xv74.f_Data).length c79]) ag63 rfl (Cs.addsN [] ((hM.bx (i := 1) rfl)) rfl)) rfl ?_
              refine obindE hF fun y90 hx91 hF => ?_
              refine RL.gcall rfl rfl Try.func40 bd40 rfl rfl (c_ipsix_Ext_later _ xv74 _ _ (hM.inp hr80 Off.nil) _ hx91) fun v w92 hv => ?_
              obtain ⟨rfl, hN93⟩ := hv
              replace hM := hM.call0 hN93
              refine RL.gval rfl rfl (O.move rfl) rfl ?_
              refine RL.bcase (t := 37) rfl (fun hc => ?_) (fun hc => ?_)
              · rw [if_pos hc] at hF
                refine RL.gval rfl rfl (O.move rfl) rfl ?_
                refine RL.gval rfl rfl (O.move rfl) rfl ?_
                refine RL.gval rfl rfl (O.lss rfl rfl) rfl ?_
                refine RL.gval rfl rfl (O.pickt rfl rfl) rfl ?_
                refine RL.val (O.pickf rfl rfl) rfl ?_
                refine RL.nil ?_
                refine KQ.then_k ?_
                replace hM := hM.pick [0] rfl (by decide)
                exact fun a ha => ⟨(decide (t68 < (IntKind.i64.wrap ((cv1.f_Exts.length : Int) - 1)))), ha.less (less_cons rfl (less_cons rfl (less_cons rfl (less_cons rfl (less_cons rfl (less_cons rfl less_nil)))))), hM, hF⟩
              · rw [if_neg (ne_true hc)] at hF
                refine RL.gskip rfl rfl rfl rfl ?_
                refine RL.gskip rfl rfl rfl rfl ?_
                refine RL.gskip rfl rfl rfl rfl ?_
                refine RL.gval rfl rfl (O.pickf rfl rfl) rfl ?_
                refine RL.val (O.pickf rfl rfl) rfl ?_
                refine RL.nil ?_
                refine KQ.then_k ?_
                replace hM := hM.pick [0] rfl (by decide)
                exact fun a ha => ⟨false, ha.less (less_cons rfl (less_cons rfl (less_cons rfl (less_cons rfl (less_cons rfl (less_cons rfl less_nil)))))), hM, hF⟩
          · rintro a w96 ⟨t95, ha, hM, hF⟩
            refine KC.app ha ?_
            clear ha
            unfold F_ipsix_Right_j2 at hF
            refine KC.cond rfl (fun hc => ?_) (fun hc => ?_)
            · rw [if_pos hc] at hF
              refine KC.seq ?_
              refine KC.region ?_
              refine RL.val (O.assign rfl) rfl ?_
              refine RL.nil ?_
              refine KQ.then_n ?_
              refine KC.ret ?_
              refine KQ.blk_r ?_
              refine KQ.then_r ?_
              refine KQ.then_r ?_
              refine KQ.blk_r ?_
              refine KQ.then_r ?_
              obtain rfl := Option.some.inj hF
              replace hM := hM.pick [] rfl (by decide)
              refine KQ.rets Try.results16 (RVs.cons (RV.tm rfl) RVs.nil) ?_
              exact ⟨_, rfl, rfl, hM⟩
            · rw [if_neg (ne_true hc)] at hF
              refine KC.skip ?_
              refine KQ.blk_n ?_
              refine KQ.then_n ?_
              refine KC.region ?_
              refine RL.val (O.add rfl rfl) rfl ?_
              refine RL.val (O.move rfl) rfl ?_
              refine RL.nil ?_
              refine KQ.then_k ?_
              exact fun a ha => ⟨k71, Nat.lt_succ_self k71, (IntKind.i64.wrap (t68 + 1)), ha.less (less_cons rfl (less_cons rfl (less_cons rfl (less_cons rfl (less_cons rfl less_nil))))), hM, hF⟩
        · rw [if_neg (ne_true hc)] at hF
          refine KC.exit ?_
          refine KQ.then_x ?_
          refine KQ.then_x ?_
          refine KQ.blk_x ?_
          refine KQ.then_n ?_
          refine KC.cut (fun a w116 => ∃ (t115 : Bool), Kn 60 [(2, .bool t115)] a ∧ Mem w [] w116 [] ∧ F_ipsix_Right_j3 t115 = some r) ?_ ?_
          · refine KC.region ?_
            refine RL.val (O.fldA fl24_1 (by decide) rfl) rfl ?_
            refine RL.val (O.load sc5 rfl (Cs.adds [1] ((hM.bx (i := 0) rfl)) rfl)) rfl ?_
            refine obindE hF fun y97 hx98 hF => ?_
            refine RL.call Try.func41 bd41 rfl rfl (c_ipsix_behind _ cv1.f_Proto _ hx98) fun v w99 hv => ?_
            obtain ⟨rfl, hN100⟩ := hv
            replace hM := hM.call0 hN100
            refine RL.val (O.not rfl) rfl ?_
            refine RL.val (O.move rfl) rfl ?_
            refine RL.bcase (t := 48) rfl (fun hc => ?_) (fun hc => ?_)
            · rw [if_pos hc] at hF
              refine RL.brun1 11 59 true (by kernel_rfl) ?_
              refine RL.val (O.assign rfl) rfl ?_
              refine RL.nil ?_
              refine KQ.then_k ?_
              replace hM := hM.pick [] rfl (by decide)
              exact fun a ha => ⟨true, ha.less (less_cons rfl less_nil), hM, hF⟩
            · rw [if_neg (ne_true hc)] at hF
              refine RL.gval rfl rfl (O.move rfl) rfl ?_
              refine RL.gval rfl rfl (O.geq rfl rfl) rfl ?_
              refine RL.gval rfl rfl (O.move rfl) rfl ?_
              refine RL.bcase (t := 51) rfl (fun hc => ?_) (fun hc => ?_)
              · rw [if_pos hc] at hF
                refine RL.gval rfl rfl (O.fldA fl24_0 (by decide) rfl) rfl ?_
                refine RL.gval rfl rfl (O.load sc22 rfl (Cs.adds [0] ((hM.bx (i := 0) rfl)) rfl)) rfl ?_
                refine RL.gval rfl rfl (O.move rfl) rfl ?_
                refine obindE hF fun xv103 hx102 hF => ?_
                obtain ⟨cs106, hA101, hR104, hO105⟩ := RdD.at hr4 hx102
                obtain ⟨A107, c108, rfl, hr109, ho110⟩ := hR104
                have hA101 := hA101.chg hM.chg hO105
                refine RL.gval rfl rfl (O.idxA sl22 (hA101) rfl rfl) rfl ?_
                refine RL.gval rfl rfl (O.loadN (cs := [.int .u8 xv103.f_Kind, .slice A107 (xv103.f_Data).length c108]) ag63 rfl (hA101).cells) rfl ?_
                refine obindE hF fun y111 hx112 hF => ?_
                refine RL.gcall rfl rfl Try.func40 bd40 rfl rfl (c_ipsix_Ext_later _ xv103 _ _ (hM.inp hr109 Off.nil) _ hx112) fun v w113 hv => ?_
                obtain ⟨rfl, hN114⟩ := hv
                replace hM := hM.call0 hN114
                refine RL.gval rfl rfl (O.pickt rfl rfl) rfl ?_
                refine RL.val (O.pickf rfl rfl) rfl ?_
                refine RL.val (O.assign rfl) rfl ?_
                refine RL.nil ?_
                refine KQ.then_k ?_
                replace hM := hM.pick [] rfl (by decide)
                exact fun a ha => ⟨y111, ha.less (less_cons rfl less_nil), hM, hF⟩
              · rw [if_neg (ne_true hc)] at hF
                refine RL.gskip rfl rfl rfl rfl ?_
                refine RL.gskip rfl rfl rfl rfl ?_
                refine RL.gskip rfl rfl rfl rfl ?_
                refine RL.gskip rfl rfl rfl rfl ?_
                refine RL.gskip rfl rfl rfl rfl ?_
                refine RL.gskip rfl rfl rfl rfl ?_
                refine RL.gval rfl rfl (O.pickf rfl rfl) rfl ?_
                refine RL.val (O.pickf rfl rfl) rfl ?_
                refine RL.val (O.assign rfl) rfl ?_
                refine RL.nil ?_
                refine KQ.then_k ?_
                replace hM := hM.pick [] rfl (by decide)
                exact fun a ha => ⟨false, ha.less (less_cons rfl less_nil), hM, hF⟩
          · rintro a w116 ⟨t115, ha, hM, hF⟩
            refine KC.app ha ?_
            clear ha
            unfold F_ipsix_Right_j3 at hF
            refine KC.ret ?_
            obtain rfl := Option.some.inj hF
            refine KQ.rets Try.results16 (RVs.cons (RV.tm rfl) RVs.nil) ?_
            exact ⟨_, rfl, rfl, hM⟩
set_option maxRecDepth 100000 in
set_option maxHeartbeats 40000000 in
theorem c_ipsix_PutChain (w : World) (cv1 : T_ipsix_Chain) (A2 : Option Addr) (c3 : Nat) (hr4 : RdD R_ipsix_Ext [] w A2 c3 2 cv1.f_Exts) (r : (List Int) × Int × Int) (hF : F_ipsix_PutChain cv1 = some r) :
    CallsR Try.prog 11 [.agg #[.slice A2 (cv1.f_Exts).length c3, .int .u8 cv1.f_Proto]] w (fun v w' => ∃ (A0 : Option Addr) (c0 : Nat), v = .tuple #[.slice A0 (r.1).length c0, .int .u8 r.2.1, .int .i64 r.2.2] ∧ Mem w [] w' [.row A0 c0 5 1 r.1.length (r.1.flatMap (eI .u8))]) := by
  refine calls_KC Try.func11 rfl Try.ntmps11 rfl ?_
  have hM := Mem.init w
  unfold F_ipsix_PutChain at hF
  refine KC.seq ?_
  refine KC.region ?_
  refine RL.eff (E.box (vs := [.slice A2 (cv1.f_Exts).length c3, .int .u8 cv1.f_Proto]) hM rfl rfl) rfl fun v w6 hv => ?_
  clear hM
  obtain ⟨g5, rfl, hM, hf⟩ := hv
  refine RL.val (O.assign rfl) rfl ?_
  refine RL.val (O.assign rfl) rfl ?_
  refine RL.val (O.assign rfl) rfl ?_
  refine RL.nil ?_
  refine KQ.then_n ?_
  refine KC.seq ?_
  refine KC.seq ?_
  refine KC.region ?_
  refine RL.val (O.loadN (cs := [.slice A2 (cv1.f_Exts).length c3, .int .u8 cv1.f_Proto]) ag24 rfl (Cs.addsN [] ((hM.bx (i := 0) rfl)) rfl)) rfl ?_
  refine obindE hF fun y8 hx9 hF => ?_
  refine RL.call Try.func16 bd16 rfl rfl (c_ipsix_Right _ cv1 _ _ (hr4.chg mv_ipsix_Ext hM.chg) _ hx9) fun v w10 hv => ?_
  obtain ⟨rfl, hN11⟩ := hv
  replace hM := hM.call0 hN11
  refine RL.val (O.not rfl) rfl ?_
  refine RL.nil ?_
  refine KQ.then_n ?_
  refine KC.cond rfl (fun hc => ?_) (fun hc => ?_)
  · rw [if_pos hc] at hF
    refine KC.seq ?_
    refine KC.region ?_
    refine RL.val (O.assign rfl) rfl ?_
    refine RL.val (O.assign rfl) rfl ?_
    refine RL.val (O.assign rfl) rfl ?_
    refine RL.nil ?_
    refine KQ.then_n ?_
    refine KC.ret ?_
    refine KQ.then_r ?_
    obtain rfl := Option.some.inj hF
    replace hM := hM.nilrow 5 1
    replace hM := hM.pick [1] rfl (by decide)
    refine KQ.rets Try.results11 (RVs.cons (RV.tm rfl) (RVs.cons (RV.tm rfl) (RVs.cons (RV.tm rfl) RVs.nil))) ?_
    exact ⟨_, rfl, none, 0, rfl, hM⟩
  · rw [if_neg (ne_true hc)] at hF
    refine KC.skip ?_
    refine KQ.then_n ?_
    refine KC.seq ?_
    refine KC.region ?_
    refine RL.eff (E.bsl0 hM sl31) rfl fun v w12 hv => ?_
    clear hM
    obtain ⟨A13, rfl, hM, hf⟩ := hv
    refine RL.val (O.assign rfl) rfl ?_
    refine RL.nil ?_
    refine KQ.then_n ?_
    refine KC.seq ?_
    refine KC.seq ?_
    refine KC.region ?_
    refine RL.val (O.fldA fl24_0 (by decide) rfl) rfl ?_
    refine RL.val (O.load sc22 rfl (Cs.adds [0] ((hM.bx (i := 0) rfl)) rfl)) rfl ?_
    refine RL.val (O.len sl22 rfl) rfl ?_
    refine RL.val (O.move rfl) rfl ?_
    refine RL.nil ?_
    refine KQ.then_n ?_
    refine KC.block ?_
    refine KC.loop (fun k73 a w71 => ∃ (A67 : Option Addr) (c68 : Nat) (kinds69 : List Int) (t70 : Int), Kn 64 [(1, .pointer (some ⟨g5, 0, none⟩)), (2, .slice none 0 0), (5, .slice A67 (kinds69).length c68), (15, .slice A2 (cv1.f_Exts).length c3), (16, .int .i64 (cv1.f_Exts.length : Int)), (17, .int .i64 t70)] a ∧ Mem w [] w71 [.box g5 24 [.slice A2 (cv1.f_Exts).length c3, .int .u8 cv1.f_Proto], .row A67 c68 5 1 (kinds69).length ((kinds69).flatMap (eI .u8))] ∧ F_ipsix_PutChain_L1 cv1 k73 kinds69 t70 = some r) ?_ ?_
    · exact fun a ha => ⟨fuel0, A13, 0, ([] : List Int), 0, ha.less (less_cons rfl (less_cons rfl (less_cons rfl (less_cons rfl (less_cons rfl (less_cons rfl less_nil)))))), hM, hF⟩
    · rintro k73 a w71 ⟨A67, c68, kinds69, t70, ha, hM, hF⟩
      refine KC.app ha ?_
      clear ha
      cases k73 with
      | zero => exact (none_some hF).elim
      | succ k73 =>
      have hF : F_ipsix_PutChain_l1 (F_ipsix_PutChain_L1 cv1 k73) cv1 kinds69 t70 = some r := hF
      unfold F_ipsix_PutChain_l1 at hF
      refine KC.seq ?_
      refine KC.region ?_
      refine RL.val (O.lss rfl rfl) rfl ?_
      refine RL.nil ?_
      refine KQ.then_n ?_
      refine KC.seq ?_
      refine KC.cond rfl (fun hc => ?_) (fun hc => ?_)
      · rw [if_pos hc] at hF
        refine KC.skip ?_
        refine KQ.then_n ?_
        refine KC.seq ?_
        refine KC.block ?_
        refine KC.seq ?_
        refine KC.region ?_
        refine obindE hF fun xv76 hx75 hF => ?_
        obtain ⟨cs79, hA74, hR77, hO78⟩ := RdD.at hr4 hx75
        obtain ⟨A80, c81, rfl, hr82, ho83⟩ := hR77
        have hA74 := hA74.chg hM.chg hO78
        refine RL.val (O.idxA sl22 (hA74) rfl rfl) rfl ?_
        refine RL.val (O.loadN (cs := [.int .u8 xv76.f_Kind, .slice A80 (xv76.f_Data).length c81]) ag63 rfl (hA74).cells) rfl ?_
        refine RL.eff (E.alloc hM ze63) rfl fun v w85 hv => ?_
        clear hM
        obtain ⟨g84, rfl, hM, hf⟩ := hv
        refine RL.effs (E.stB (j := 2) (off := 0) (vs := [.int .u8 xv76.f_Kind, .slice A80 (xv76.f_Data).length c81]) (cs' := [.int .u8 xv76.f_Kind, .slice A80 (xv76.f_Data).length c81]) hM rfl sz63 rfl (adds_eq [] rfl) rfl rfl (One.all rfl) rfl rfl) fun w87 hM1 => ?_
        clear hM
        have hM := hM1
        clear hM1
        refine RL.nil ?_
        refine KQ.then_n ?_
        refine KC.region ?_
        refine RL.val (O.move rfl) rfl ?_
        refine RL.val (O.fldA fl63_0 (by decide) rfl) rfl ?_
        refine RL.val (O.load sc5 rfl (Cs.adds [0] ((hM.bx (i := 2) rfl)) rfl)) rfl ?_
        refine RL.eff (E.bsl (enc := (eI .u8)) (xs := ([xv76.f_Kind] : List Int)) hM sl31 ze5 rfl rfl rfl (fun _ => rfl) rfl (by kernel_rfl) rfl) rfl fun v w88 hv => ?_
        clear hM
        obtain ⟨A89, rfl, hM, hf⟩ := hv
        refine cut_someE hF fun hq94 hF => ?_
        refine RL.eff (E.app (enc := (eI .u8)) (xs := kinds69) (ys := ([xv76.f_Kind] : List Int)) (j := 1) hM rfl sl31 ze5 rfl rfl rfl rfl rfl (hM.rd (i := 3) rfl) (fun _ => One.all rfl) (of_decide_eq_true hq94)) rfl fun v w93 hv => ?_
        clear hM
        obtain ⟨A91, c92, rfl, hM, hf⟩ := hv
        refine RL.val (O.assign rfl) rfl ?_
        refine RL.nil ?_
        refine KQ.blk_n ?_
        refine KQ.then_n ?_
        refine KC.region ?_
        refine RL.val (O.add rfl rfl) rfl ?_
        refine RL.val (O.move rfl) rfl ?_
        refine RL.nil ?_
        refine KQ.then_k ?_
        replace hM := hM.pick [0, 1] rfl (by decide)
        exact fun a ha => ⟨k73, Nat.lt_succ_self k73, A91, c92, (kinds69 ++ ([xv76.f_Kind] : List Int)), (IntKind.i64.wrap (t70 + 1)), ha.less (less_cons rfl (less_cons rfl (less_cons rfl (less_cons rfl (less_cons rfl (less_cons rfl less_nil)))))), hM, hF⟩
      · rw [if_neg (ne_true hc)] at hF
        refine KC.exit ?_
        refine KQ.then_x ?_
        refine KQ.then_x ?_
        refine KQ.blk_x ?_
        refine KQ.then_n ?_
        refine KC.seq ?_
        refine KC.region ?_
        refine RL.val (O.move rfl) rfl ?_
        refine RL.val (O.fldA fl24_1 (by decide) rfl) rfl ?_
        refine RL.val (O.load sc5 rfl (Cs.adds [1] ((hM.bx (i := 0) rfl)) rfl)) rfl ?_
        refine RL.eff (E.bsl (enc := (eI .u8)) (xs := ([cv1.f_Proto] : List Int)) hM sl31 ze5 rfl rfl rfl (fun _ => rfl) rfl (by kernel_rfl) rfl) rfl fun v w96 hv => ?_
        clear hM
        obtain ⟨A97, rfl, hM, hf⟩ := hv
        refine cut_someE hF fun hq102 hF => ?_
        refine RL.eff (E.app (enc := (eI .u8)) (xs := kinds69) (ys := ([cv1.f_Proto] : List Int)) (j := 1) hM rfl sl31 ze5 rfl rfl rfl rfl rfl (hM.rd (i := 2) rfl) (fun _ => One.all rfl) (of_decide_eq_true hq102)) rfl fun v w101 hv => ?_
        clear hM
        obtain ⟨A99, c100, rfl, hM, hf⟩ := hv
        refine RL.val (O.assign rfl) rfl ?_
        refine RL.nil ?_
        refine KQ.then_n ?_
        refine KC.seq ?_
        refine KC.seq ?_
        refine KC.region ?_
        refine RL.val (O.fldA fl24_0 (by decide) rfl) rfl ?_
        refine RL.val (O.load sc22 rfl (Cs.adds [0] ((hM.bx (i := 0) rfl)) rfl)) rfl ?_
        refine RL.val (O.len sl22 rfl) rfl ?_
        refine RL.val (O.move rfl) rfl ?_
        refine RL.nil ?_
        refine KQ.then_n ?_
        refine KC.block ?_
        refine KC.loop (fun k178 a w176 => ∃ (A171 : Option Addr) (c172 : Nat) (b173 : List Int) (t175 : Int), Kn 64 [(2, .slice A171 (b173).length c172), (5, .slice A99 ((kinds69 ++ ([cv1.f_Proto] : List Int))).length c100), (33, .slice A2 (cv1.f_Exts).length c3), (34, .int .i64 (cv1.f_Exts.length : Int)), (35, .int .i64 t175)] a ∧ Mem w [] w176 [.row A171 c172 5 1 (b173).length ((b173).flatMap (eI .u8)), .row A99 c100 5 1 ((kinds69 ++ ([cv1.f_Proto] : List Int))).length (((kinds69 ++ ([cv1.f_Proto] : List Int))).flatMap (eI .u8))] ∧ F_ipsix_PutChain_L2 cv1 kinds69 k178 b173 t175 = some r) ?_ ?_
        · replace hM := hM.nilrow 5 1
          replace hM := hM.pick [3, 1] rfl (by decide)
          exact fun a ha => ⟨fuel0, none, 0, ([]), 0, ha.less (less_cons rfl (less_cons rfl (less_cons rfl (less_cons rfl (less_cons rfl less_nil))))), hM, hF⟩
        · rintro k178 a w176 ⟨A171, c172, b173, t175, ha, hM, hF⟩
          refine KC.app ha ?_
          clear ha
          cases k178 with
          | zero => exact (none_some hF).elim
          | succ k178 =>
          have hF : F_ipsix_PutChain_l2 (F_ipsix_PutChain_L2 cv1 kinds69 k178) cv1 kinds69 b173 t175 = some r := hF
          unfold F_ipsix_PutChain_l2 at hF
          refine KC.seq ?_
          refine KC.region ?_
          refine RL.val (O.lss rfl rfl) rfl ?_
          refine RL.nil ?_
          refine KQ.then_n ?_
          refine KC.seq ?_
          refine KC.cond rfl (fun hc => ?_) (fun hc => ?_)
          · rw [if_pos hc] at hF
            refine KC.skip ?_
            refine KQ.then_n ?_
            refine KC.seq ?_
            refine KC.block ?_
            refine KC.seq ?_
            refine KC.region ?_
            refine RL.val (O.move rfl) rfl ?_
            refine obindE hF fun xv181 hx180 hF => ?_
            obtain ⟨cs184, hA179, hR182, hO183⟩ := RdD.at hr4 hx180
            obtain ⟨A185, c186, rfl, hr187, ho188⟩ := hR182
            have hA179 := hA179.chg hM.chg hO183
            refine RL.val (O.idxA sl22 (hA179) rfl rfl) rfl ?_
            refine RL.val (O.loadN (cs := [.int .u8 xv181.f_Kind, .slice A185 (xv181.f_Data).length c186]) ag63 rfl (hA179).cells) rfl ?_
            refine RL.eff (E.alloc hM ze63) rfl fun v w190 hv => ?_
            clear hM
            obtain ⟨g189, rfl, hM, hf⟩ := hv
            refine RL.val (O.assign rfl) rfl ?_
            refine RL.effs (E.stB (j := 2) (off := 0) (vs := [.int .u8 xv181.f_Kind, .slice A185 (xv181.f_Data).length c186]) (cs' := [.int .u8 xv181.f_Kind, .slice A185 (xv181.f_Data).length c186]) hM rfl sz63 rfl (adds_eq [] rfl) rfl rfl (One.all rfl) rfl rfl) fun w192 hM1 => ?_
            clear hM
            have hM := hM1
            clear hM1
            refine RL.nil ?_
            refine KQ.then_n ?_
            refine KC.seq ?_
            replace hM := hM.drewN 1
            refine KC.draw [] [14] [13, 14] [0, 1, 2, 3, 6, 8, 9, 10, 11, 12, 15] (.ofList [0, 1, 2, 3, 4, 5, 6, 7, 8, 9, 10, 11, 12, 13, 14, 15]) moP (by kernel_rfl) ?_
            refine RD.p rfl rfl rfl rfl (fun w' => O.move rfl) ?_
            refine RD.p rfl rfl rfl rfl (fun w' => O.move rfl) ?_
            refine RD.p rfl rfl rfl rfl (fun w' => O.move rfl) ?_
            refine RD.p rfl rfl rfl rfl (fun w' => O.add rfl rfl) ?_
            refine obindE hF fun xv195 hx194 hF => ?_
            have hA193 := Rd.atN (f := (eI .u8)) (s := 1) (fun _ => rfl) (by decide) (hM.rd (i := 1) rfl) hx194
            refine RD.q rfl rfl rfl rfl (fun w' hf => O.idxA sl31 (hA193.fut hf) rfl rfl) ?_
            refine RD.q rfl rfl rfl rfl (fun w' hf => O.load sc5 rfl (hA193.fut hf).cells.at0) ?_
            refine RD.p rfl rfl rfl rfl (fun w' => O.fldA fl63_1 (by decide) rfl) ?_
            refine RD.q rfl rfl rfl rfl (fun w' hf => O.load sc31 rfl (Cs.adds [1] ((hM.bx (i := 2) rfl).fut hf) rfl)) ?_
            refine RD.p rfl rfl rfl rfl (fun w' => O.len sl31 rfl) ?_
            refine RD.p rfl rfl rfl rfl (fun w' => O.add rfl rfl) ?_
            refine RD.p rfl rfl rfl rfl (fun w' => O.quo rfl rfl (by decide)) ?_
            refine RD.p rfl rfl rfl rfl (fun w' => O.sub rfl rfl) ?_
            refine RD.p rfl rfl rfl rfl (fun w' => O.conv un3 Try.underlying5 rfl) ?_
            refine RD.meff rfl rfl (E.bsl (enc := (eI .u8)) (xs := ([xv195, (IntKind.u8.wrap (IntKind.i64.wrap ((IntKind.i64.wrap (Int.tdiv (IntKind.i64.wrap ((xv181.f_Data.length : Int) + 2)) 8)) - 1)))] : List Int)) hM sl31 ze5 rfl rfl rfl (fun _ => rfl) rfl (by kernel_rfl) rfl) rfl fun v w196 hv => ?_
            clear hM
            obtain ⟨A197, rfl, hM, hf⟩ := hv
            refine ⟨fun _ => hf, ?_⟩
            refine cut_someE hF fun hq202 hF => ?_
            refine RD.meff rfl rfl (E.app (enc := (eI .u8)) (xs := b173) (ys := ([xv195, (IntKind.u8.wrap (IntKind.i64.wrap ((IntKind.i64.wrap (Int.tdiv (IntKind.i64.wrap ((xv181.f_Data.length : Int) + 2)) 8)) - 1)))] : List Int)) (j := 0) hM rfl sl31 ze5 rfl rfl rfl rfl rfl (hM.rd (i := 3) rfl) (fun _ => One.all rfl) (of_decide_eq_true hq202)) rfl fun v w201 hv => ?_
            clear hM
            obtain ⟨A199, c200, rfl, hM, hf⟩ := hv
            refine ⟨fun h => (by cases h), ?_⟩
            refine RD.p rfl rfl rfl rfl (fun w' => O.assign rfl) ?_
            refine RD.nil ?_
            refine KQ.then_n ?_
            refine KC.region ?_
            refine RL.val (O.move rfl) rfl ?_
            refine RL.val (O.fldA fl63_1 (by decide) rfl) rfl ?_
            refine RL.val (O.load sc31 rfl (Cs.adds [1] ((hM.bx (i := 2) rfl)) rfl)) rfl ?_
            refine cut_someE hF fun hq207 hF => ?_
            refine RL.eff (E.app (enc := (eI .u8)) (xs := (b173 ++ ([xv195, (IntKind.u8.wrap (IntKind.i64.wrap ((IntKind.i64.wrap (Int.tdiv (IntKind.i64.wrap ((xv181.f_Data.length : Int) + 2)) 8)) - 1)))] : List Int))) (ys := xv181.f_Data) (j := 0) hM rfl sl31 ze5 rfl rfl rfl rfl rfl (hM.inp hr187 Off.nil) (fun _ => One.all rfl) (of_decide_eq_true hq207)) rfl fun v w206 hv => ?_
            clear hM
            obtain ⟨A204, c205, rfl, hM, hf⟩ := hv
            refine RL.val (O.assign rfl) rfl ?_
            refine RL.nil ?_
            refine KQ.blk_n ?_
            refine KQ.then_n ?_
            refine KC.region ?_
            refine RL.val (O.add rfl rfl) rfl ?_
            refine RL.val (O.move rfl) rfl ?_
            refine RL.nil ?_
            refine KQ.then_k ?_
            replace hM := hM.pick [0, 1] rfl (by decide)
            exact fun a ha => ⟨k178, Nat.lt_succ_self k178, A204, c205, ((b173 ++ ([xv195, (IntKind.u8.wrap (IntKind.i64.wrap ((IntKind.i64.wrap (Int.tdiv (IntKind.i64.wrap ((xv181.f_Data.length : Int) + 2)) 8)) - 1)))] : List Int)) ++ xv181.f_Data), (IntKind.i64.wrap (t175 + 1)), ha.less (less_cons rfl (less_cons rfl (less_cons rfl (less_cons rfl (less_cons rfl less_nil))))), hM, hF⟩
          · rw [if_neg (ne_true hc)] at hF
            refine KC.exit ?_
            refine KQ.then_x ?_
            refine KQ.then_x ?_
            refine KQ.blk_x ?_
            refine KQ.then_n ?_
            refine KC.seq ?_
            replace hM := hM.drewN 1
            refine KC.draw [] [] [] [0, 1, 4, 5, 6] (.ofList [0, 1, 2, 3, 4, 5, 6]) moP (by kernel_rfl) ?_
            refine RD.p rfl rfl rfl rfl (fun w' => O.move rfl) ?_
            refine RD.p rfl rfl rfl rfl (fun w' => O.move rfl) ?_
            refine obindE hF fun xv211 hx210 hF => ?_
            have hA209 := Rd.atN (f := (eI .u8)) (s := 1) (fun _ => rfl) (by decide) (hM.rd (i := 1) rfl) hx210
            refine RD.q rfl rfl rfl rfl (fun w' hf => O.idxA sl31 (hA209.fut hf) rfl rfl) ?_
            refine RD.q rfl rfl rfl rfl (fun w' hf => O.load sc5 rfl (hA209.fut hf).cells.at0) ?_
            refine RD.p rfl rfl rfl rfl (fun w' => O.assign rfl) ?_
            refine RD.p rfl rfl rfl rfl (fun w' => O.assign rfl) ?_
            refine RD.p rfl rfl rfl rfl (fun w' => O.assign rfl) ?_
            refine RD.nil ?_
            refine KQ.then_n ?_
            refine KC.ret ?_
            obtain rfl := Option.some.inj hF
            replace hM := hM.pick [0] rfl (by decide)
            refine KQ.rets Try.results11 (RVs.cons (RV.tm rfl) (RVs.cons (RV.tm rfl) (RVs.cons (RV.tm rfl) RVs.nil))) ?_
            exact ⟨_, rfl, A171, c172, rfl, hM⟩
set_option maxRecDepth 100000 in
set_option maxHeartbeats 40000000 in
theorem c_bytes_Clone (w : World) (A2 : Option Addr) (c3 : Nat) (b1 : List Int) (hr4 : Rd w A2 c3 1 b1.length (b1.flatMap (eI .u8))) (r : (List Int)) (hF : F_bytes_Clone b1 = some r) :
    CallsR Try.prog 49 [.slice A2 (b1).length c3] w (fun v w' => ∃ (A0 : Option Addr) (c0 : Nat), v = .slice A0 (r).length c0 ∧ Mem w [] w' [.row A0 c0 5 1 r.length (r.flatMap (eI .u8))]) := by
  refine calls_KC Try.func49 rfl Try.ntmps49 rfl ?_
  have hM := Mem.init w
  unfold F_bytes_Clone at hF
  refine KC.seq ?_
  refine KC.region ?_
  refine RL.val (O.assign rfl) rfl ?_
  refine RL.nil ?_
  refine KQ.then_n ?_
  refine KC.seq ?_
  refine KC.seq ?_
  refine KC.region ?_
  refine RL.val (O.move rfl) rfl ?_
  refine RL.val (O.sleqn sl31 rfl rfl) rfl ?_
  refine RL.nil ?_
  refine KQ.then_n ?_
  refine KC.cond rfl (fun hc => ?_) (fun hc => ?_)
  · have hz5 := Rd.none_nil (hM.inp hr4 Off.nil) (hc)
    have hF : (some ([])) = some r := by (rw [hz5] at hF; simpa [lim] using hF)
    refine KC.seq ?_
    refine KC.region ?_
    refine RL.val (O.assign rfl) rfl ?_
    refine RL.nil ?_
    refine KQ.then_n ?_
    refine KC.ret ?_
    refine KQ.then_r ?_
    obtain rfl := Option.some.inj hF
    replace hM := hM.nilrow 5 1
    refine KQ.rets Try.results49 (RVs.cons (RV.tm rfl) RVs.nil) ?_
    exact ⟨_, rfl, none, 0, rfl, hM⟩
  · refine KC.skip ?_
    refine KQ.then_n ?_
    refine KC.seq ?_
    refine KC.region ?_
    refine RL.eff (E.bsl0 hM sl31) rfl fun v w6 hv => ?_
    clear hM
    obtain ⟨A7, rfl, hM, hf⟩ := hv
    refine RL.val (O.move rfl) rfl ?_
    refine cut_someE hF fun hq12 hF => ?_
    refine RL.eff (E.app (enc := (eI .u8)) (xs := ([] : List Int)) (ys := b1) (j := 0) hM rfl sl31 ze5 rfl rfl rfl rfl rfl (hM.inp hr4 Off.nil) (fun _ => One.all rfl) (of_decide_eq_true hq12)) rfl fun v w11 hv => ?_
    clear hM
    obtain ⟨A9, c10, rfl, hM, hf⟩ := hv
    refine RL.val (O.assign rfl) rfl ?_
    refine RL.nil ?_
    refine KQ.then_n ?_
    refine KC.ret ?_
    obtain rfl := Option.some.inj hF
    refine KQ.rets Try.results49 (RVs.cons (RV.tm rfl) RVs.nil) ?_
    exact ⟨_, rfl, A9, c10, rfl, hM⟩
end Go.Proofs.Ytikjomacnbemhaa
