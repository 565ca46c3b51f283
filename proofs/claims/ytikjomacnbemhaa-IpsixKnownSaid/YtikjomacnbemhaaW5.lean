/- Printed by a program of this claim: each call returns what the plain function of its name gives. -/
import Derived.Test.YtikjomacnbemhaaW4
set_option linter.unusedVariables false
namespace Go.Proofs.Ytikjomacnbemhaa
open Go Go.Ox Go.RowKit
set_option maxRecDepth 100000 in
set_option maxHeartbeats 40000000 in
theorem c_ref06_PutChain (w : World) (cv1 : T_ref06_Chain) (A2 : Option Addr) (c3 : Nat) (hr4 : Rd w A2 c3 2 cv1.f_Exts.length (cv1.f_Exts.flatMap e_ref06_Ext)) (r : (List Int) × Int × Int) (hF : F_ref06_PutChain cv1 = some r) :
    CallsR Try.prog 12 [.agg #[.slice A2 (cv1.f_Exts).length c3, .int .u8 cv1.f_Proto]] w (fun v w' => ∃ (A0 : Option Addr) (c0 : Nat), v = .tuple #[.slice A0 (r.1).length c0, .int .u8 r.2.1, .int .i64 r.2.2] ∧ Mem w [] w' [.row A0 c0 5 1 r.1.length (r.1.flatMap (eI .u8))]) := by
  refine calls_KC Try.func12 rfl Try.ntmps12 rfl ?_
  have hM := Mem.init w
  unfold F_ref06_PutChain at hF
  refine KC.seq ?_
  refine KC.region ?_
  refine RL.eff (E.box (vs := [.slice A2 (cv1.f_Exts).length c3, .int .u8 cv1.f_Proto]) hM rfl rfl) rfl fun v w6 hv => ?_
  clear hM
  obtain ⟨g5, rfl, hM, hf⟩ := hv
  refine RL.val (O.assign rfl) rfl ?_
  refine RL.val (O.assign rfl) rfl ?_
  refine RL.val (O.assign rfl) rfl ?_
  refine RL.nil ?_
  refine KQ.then_n ?_
  refine KC.seq ?_
  refine KC.seq ?_
  refine KC.region ?_
  refine RL.val (O.loadN (cs := [.slice A2 (cv1.f_Exts).length c3, .int .u8 cv1.f_Proto]) ag29 rfl (Cs.addsN [] ((hM.bx (i := 0) rfl)) rfl)) rfl ?_
  refine obindE hF fun y8 hx9 hF => ?_
  refine RL.call Try.func17 bd17 rfl rfl (c_ref06_Right _ cv1 _ _ (hM.inp hr4 Off.nil) _ hx9) fun v w10 hv => ?_
  obtain ⟨rfl, hN11⟩ := hv
  replace hM := hM.call0 hN11
  refine RL.val (O.not rfl) rfl ?_
  refine RL.nil ?_
  refine KQ.then_n ?_
  refine KC.cond rfl (fun hc => ?_) (fun hc => ?_)
  · rw [if_pos hc] at hF
    refine KC.seq ?_
    refine KC.region ?_
    refine RL.val (O.assign rfl) rfl ?_
    refine RL.val (O.assign rfl) rfl ?_
    refine RL.val (O.assign rfl) rfl ?_
    refine RL.nil ?_
    refine KQ.then_n ?_
    refine KC.ret ?_
    refine KQ.then_r ?_
    obtain rfl := Option.some.inj hF
    replace hM := hM.nilrow 5 1
    replace hM := hM.pick [1] rfl (by decide)
    refine KQ.rets Try.results12 (RVs.cons (RV.tm rfl) (RVs.cons (RV.tm rfl) (RVs.cons (RV.tm rfl) RVs.nil))) ?_
    exact ⟨_, rfl, none, 0, rfl, hM⟩
  · rw [if_neg (ne_true hc)] at hF
    refine KC.skip ?_
    refine KQ.then_n ?_
    refine KC.seq ?_
    refine KC.region ?_
    refine RL.val (O.assign rfl) rfl ?_
    refine RL.nil ?_
    refine KQ.then_n ?_
    refine KC.seq ?_
    refine KC.region ?_
    refine RL.val (O.fldA fl29_1 (by decide) rfl) rfl ?_
    refine RL.val (O.load sc5 rfl (Cs.adds [1] ((hM.bx (i := 0) rfl)) rfl)) rfl ?_
    refine RL.val (O.assign rfl) rfl ?_
    refine RL.nil ?_
    refine KQ.then_n ?_
    refine KC.seq ?_
    refine KC.seq ?_
    refine KC.region ?_
    refine RL.val (O.fldA fl29_0 (by decide) rfl) rfl ?_
    refine RL.val (O.load sc27 rfl (Cs.adds [0] ((hM.bx (i := 0) rfl)) rfl)) rfl ?_
    refine RL.val (O.len sl27 rfl) rfl ?_
    refine RL.val (O.sub rfl rfl) rfl ?_
    refine RL.val (O.assign rfl) rfl ?_
    refine RL.nil ?_
    refine KQ.then_n ?_
    refine KC.block ?_
    refine KC.loop (fun k80 a w78 => ∃ (A73 : Option Addr) (c74 : Nat) (out75 : List Int) (first76 : Int) (i77 : Int), Kn 49 [(1, .pointer (some ⟨g5, 0, none⟩)), (5, .slice A73 (out75).length c74), (6, .int .u8 first76), (7, .int .i64 i77)] a ∧ Mem w [] w78 [.box g5 29 [.slice A2 (cv1.f_Exts).length c3, .int .u8 cv1.f_Proto], .row A73 c74 5 1 (out75).length ((out75).flatMap (eI .u8))] ∧ F_ref06_PutChain_L1 cv1 k80 out75 first76 i77 = some r) ?_ ?_
    · replace hM := hM.nilrow 5 1
      exact fun a ha => ⟨fuel0, none, 0, ([]), cv1.f_Proto, (IntKind.i64.wrap ((cv1.f_Exts.length : Int) - 1)), ha.less (less_cons rfl (less_cons rfl (less_cons rfl (less_cons rfl less_nil)))), hM, hF⟩
    · rintro k80 a w78 ⟨A73, c74, out75, first76, i77, ha, hM, hF⟩
      refine KC.app ha ?_
      clear ha
      cases k80 with
      | zero => exact (none_some hF).elim
      | succ k80 =>
      have hF : F_ref06_PutChain_l1 (F_ref06_PutChain_L1 cv1 k80) cv1 out75 first76 i77 = some r := hF
      unfold F_ref06_PutChain_l1 at hF
      refine KC.seq ?_
      refine KC.seq ?_
      refine KC.region ?_
      refine RL.val (O.move rfl) rfl ?_
      refine RL.val (O.geq rfl rfl) rfl ?_
      refine RL.nil ?_
      refine KQ.then_n ?_
      refine KC.cond rfl (fun hc => ?_) (fun hc => ?_)
      · rw [if_pos hc] at hF
        refine KC.skip ?_
        refine KQ.then_n ?_
        refine KC.seq ?_
        refine KC.block ?_
        refine KC.seq ?_
        refine KC.region ?_
        refine RL.val (O.fldA fl29_0 (by decide) rfl) rfl ?_
        refine RL.val (O.load sc27 rfl (Cs.adds [0] ((hM.bx (i := 0) rfl)) rfl)) rfl ?_
        refine RL.val (O.move rfl) rfl ?_
        refine obindE hF fun xv83 hx82 hF => ?_
        have hA81 := Rd.atN (f := e_ref06_Ext) (s := 2) (fun _ => rfl) (by decide) (hM.inp hr4 Off.nil) hx82
        refine RL.val (O.idxA sl27 (hA81) rfl rfl) rfl ?_
        refine RL.val (O.loadN (cs := [.int .u8 xv83.f_Kind, .string xv83.f_Data]) ag76 rfl (hA81).cells) rfl ?_
        refine RL.eff (E.alloc hM ze76) rfl fun v w85 hv => ?_
        clear hM
        obtain ⟨g84, rfl, hM, hf⟩ := hv
        refine RL.effs (E.stB (j := 2) (off := 0) (vs := [.int .u8 xv83.f_Kind, .string xv83.f_Data]) (cs' := [.int .u8 xv83.f_Kind, .string xv83.f_Data]) hM rfl sz76 rfl (adds_eq [] rfl) rfl rfl (One.all rfl) rfl rfl) fun w87 hM1 => ?_
        clear hM
        have hM := hM1
        clear hM1
        refine RL.nil ?_
        refine KQ.then_n ?_
        refine KC.seq ?_
        refine KC.region ?_
        refine RL.val (O.move rfl) rfl ?_
        refine RL.val (O.fldA fl76_1 (by decide) rfl) rfl ?_
        refine RL.val (O.load sc9 rfl (Cs.adds [1] ((hM.bx (i := 2) rfl)) rfl)) rfl ?_
        refine RL.val (O.lens Try.underlying9 rfl) rfl ?_
        refine RL.val (O.add rfl rfl) rfl ?_
        refine RL.val (O.quo rfl rfl (by decide)) rfl ?_
        refine RL.val (O.sub rfl rfl) rfl ?_
        refine RL.val (O.conv un3 Try.underlying5 rfl) rfl ?_
        refine RL.eff (E.bsl (enc := (eI .u8)) (xs := ([first76, (IntKind.u8.wrap (IntKind.i64.wrap ((IntKind.i64.wrap (Int.tdiv (IntKind.i64.wrap ((xv83.f_Data.size : Int) + 2)) 8)) - 1)))] : List Int)) hM sl31 ze5 rfl rfl rfl (fun _ => rfl) rfl (by kernel_rfl) rfl) rfl fun v w88 hv => ?_
        clear hM
        obtain ⟨A89, rfl, hM, hf⟩ := hv
        refine RL.val (O.assign rfl) rfl ?_
        refine RL.nil ?_
        refine KQ.then_n ?_
        refine KC.seq ?_
        refine KC.region ?_
        refine RL.val (O.move rfl) rfl ?_
        refine RL.val (O.fldA fl76_1 (by decide) rfl) rfl ?_
        refine RL.val (O.load sc9 rfl (Cs.adds [1] ((hM.bx (i := 2) rfl)) rfl)) rfl ?_
        refine cut_someE hF fun hq94 hF => ?_
        refine RL.eff (E.s2b hM Try.underlying9 sl31 Try.underlying5 rfl (of_decide_eq_true hq94)) rfl fun v w93 hv => ?_
        clear hM
        obtain ⟨A91, c92, Z95, rfl, hM, hf⟩ := hv
        refine cut_someE hF fun hq100 hF => ?_
        refine RL.eff (E.app (enc := (eI .u8)) (xs := ([first76, (IntKind.u8.wrap (IntKind.i64.wrap ((IntKind.i64.wrap (Int.tdiv (IntKind.i64.wrap ((xv83.f_Data.size : Int) + 2)) 8)) - 1)))] : List Int)) (ys := (numsOfStr xv83.f_Data)) (j := 3) hM rfl sl31 ze5 rfl rfl rfl rfl rfl (hM.rdP (i := 4) rfl) (fun _ => One.all rfl) (of_decide_eq_true hq100)) rfl fun v w99 hv => ?_
        clear hM
        obtain ⟨A97, c98, rfl, hM, hf⟩ := hv
        refine RL.val (O.assign rfl) rfl ?_
        refine RL.nil ?_
        refine KQ.then_n ?_
        refine KC.seq ?_
        refine KC.region ?_
        refine RL.val (O.move rfl) rfl ?_
        refine RL.val (O.move rfl) rfl ?_
        refine cut_someE hF fun hq105 hF => ?_
        refine RL.eff (E.app (enc := (eI .u8)) (xs := (([first76, (IntKind.u8.wrap (IntKind.i64.wrap ((IntKind.i64.wrap (Int.tdiv (IntKind.i64.wrap ((xv83.f_Data.size : Int) + 2)) 8)) - 1)))] : List Int) ++ (numsOfStr xv83.f_Data))) (ys := out75) (j := 3) hM rfl sl31 ze5 rfl rfl rfl rfl rfl (hM.rd (i := 1) rfl) (fun _ => One.all rfl) (of_decide_eq_true hq105)) rfl fun v w104 hv => ?_
        clear hM
        obtain ⟨A102, c103, rfl, hM, hf⟩ := hv
        refine RL.val (O.assign rfl) rfl ?_
        refine RL.nil ?_
        refine KQ.then_n ?_
        refine KC.region ?_
        refine RL.val (O.fldA fl76_0 (by decide) rfl) rfl ?_
        refine RL.val (O.load sc5 rfl (Cs.adds [0] ((hM.bx (i := 2) rfl)) rfl)) rfl ?_
        refine RL.val (O.assign rfl) rfl ?_
        refine RL.nil ?_
        refine KQ.blk_n ?_
        refine KQ.then_n ?_
        refine KC.region ?_
        refine RL.val (O.move rfl) rfl ?_
        refine RL.val (O.sub rfl rfl) rfl ?_
        refine RL.val (O.assign rfl) rfl ?_
        refine RL.nil ?_
        refine KQ.then_k ?_
        replace hM := hM.pick [0, 3] rfl (by decide)
        exact fun a ha => ⟨k80, Nat.lt_succ_self k80, A102, c103, ((([first76, (IntKind.u8.wrap (IntKind.i64.wrap ((IntKind.i64.wrap (Int.tdiv (IntKind.i64.wrap ((xv83.f_Data.size : Int) + 2)) 8)) - 1)))] : List Int) ++ (numsOfStr xv83.f_Data)) ++ out75), xv83.f_Kind, (IntKind.i64.wrap (i77 - 1)), ha.less (less_cons rfl (less_cons rfl (less_cons rfl (less_cons rfl less_nil)))), hM, hF⟩
      · rw [if_neg (ne_true hc)] at hF
        refine KC.exit ?_
        refine KQ.then_x ?_
        refine KQ.then_x ?_
        refine KQ.blk_x ?_
        refine KQ.then_n ?_
        refine KC.seq ?_
        refine KC.region ?_
        refine RL.val (O.move rfl) rfl ?_
        refine RL.val (O.move rfl) rfl ?_
        refine RL.val (O.assign rfl) rfl ?_
        refine RL.val (O.assign rfl) rfl ?_
        refine RL.val (O.assign rfl) rfl ?_
        refine RL.nil ?_
        refine KQ.then_n ?_
        refine KC.ret ?_
        obtain rfl := Option.some.inj hF
        replace hM := hM.pick [1] rfl (by decide)
        refine KQ.rets Try.results12 (RVs.cons (RV.tm rfl) (RVs.cons (RV.tm rfl) (RVs.cons (RV.tm rfl) RVs.nil))) ?_
        exact ⟨_, rfl, A73, c74, rfl, hM⟩
set_option maxRecDepth 100000 in
set_option maxHeartbeats 40000000 in
theorem c_ref01_Get (w : World) (A2 : Option Addr) (c3 : Nat) (b1 : List Int) (hr4 : Rd w A2 c3 1 b1.length (b1.flatMap (eI .u8))) (atv5 : Int) (size6 : Int) (r : Int × Int) (hF : F_ref01_Get b1 atv5 size6 = some r) :
    CallsR Try.prog 36 [.slice A2 (b1).length c3, .int .i64 atv5, .int .i64 size6] w (fun v w' => v = .tuple #[.int .u64 r.1, .int .i64 r.2] ∧ Mem w [] w' []) := by
  refine calls_KC Try.func36 rfl Try.ntmps36 rfl ?_
  have hM := Mem.init w
  unfold F_ref01_Get at hF
  refine KC.seq ?_
  refine KC.region ?_
  refine RL.val (O.assign rfl) rfl ?_
  refine RL.val (O.assign rfl) rfl ?_
  refine RL.nil ?_
  refine KQ.then_n ?_
  refine KC.seq ?_
  refine KC.cut (fun a w8 => ∃ (t7 : Bool), Kn 48 [(0, .slice A2 (b1).length c3), (1, .int .i64 atv5), (2, .int .i64 size6), (19, .bool t7)] a ∧ Mem w [] w8 [] ∧ F_ref01_Get_j1 b1 atv5 size6 t7 = some r) ?_ ?_
  · refine KC.region ?_
    refine RL.val (O.move rfl) rfl ?_
    refine RL.val (O.lss rfl rfl) rfl ?_
    refine RL.val (O.move rfl) rfl ?_
    refine RL.bcase (t := 12) rfl (fun hc => ?_) (fun hc => ?_)
    · rw [if_pos hc] at hF
      refine RL.brun1 7 19 true (by kernel_rfl) ?_
      refine RL.nil ?_
      refine KQ.then_k ?_
      exact fun a ha => ⟨true, ha.less (less_cons rfl (less_cons rfl (less_cons rfl (less_cons rfl less_nil)))), hM, hF⟩
    · rw [if_neg (ne_true hc)] at hF
      refine RL.gval rfl rfl (O.move rfl) rfl ?_
      refine RL.gval rfl rfl (O.gtr rfl rfl) rfl ?_
      refine RL.val (O.pickf rfl rfl) rfl ?_
      refine RL.val (O.move rfl) rfl ?_
      refine RL.bcase (t := 16) rfl (fun hc => ?_) (fun hc => ?_)
      · rw [if_pos hc] at hF
        refine RL.gskip rfl rfl rfl rfl ?_
        refine RL.gskip rfl rfl rfl rfl ?_
        refine RL.val (O.pickt rfl rfl) rfl ?_
        refine RL.nil ?_
        refine KQ.then_k ?_
        exact fun a ha => ⟨true, ha.less (less_cons rfl (less_cons rfl (less_cons rfl (less_cons rfl less_nil)))), hM, hF⟩
      · rw [if_neg (ne_true hc)] at hF
        refine RL.gval rfl rfl (O.move rfl) rfl ?_
        refine RL.gval rfl rfl (O.lss rfl rfl) rfl ?_
        refine RL.val (O.pickf rfl rfl) rfl ?_
        refine RL.nil ?_
        refine KQ.then_k ?_
        exact fun a ha => ⟨(decide (atv5 < 0)), ha.less (less_cons rfl (less_cons rfl (less_cons rfl (less_cons rfl less_nil)))), hM, hF⟩
  · rintro a w8 ⟨t7, ha, hM, hF⟩
    refine KC.app ha ?_
    clear ha
    unfold F_ref01_Get_j1 at hF
    refine KC.cond rfl (fun hc => ?_) (fun hc => ?_)
    · rw [if_pos hc] at hF
      refine KC.seq ?_
      refine KC.region ?_
      refine RL.val (O.assign rfl) rfl ?_
      refine RL.val (O.assign rfl) rfl ?_
      refine RL.nil ?_
      refine KQ.then_n ?_
      refine KC.ret ?_
      refine KQ.then_r ?_
      obtain rfl := Option.some.inj hF
      refine KQ.rets Try.results36 (RVs.cons (RV.tm rfl) (RVs.cons (RV.tm rfl) RVs.nil)) ?_
      exact ⟨_, rfl, rfl, hM⟩
    · rw [if_neg (ne_true hc)] at hF
      refine KC.skip ?_
      refine KQ.then_n ?_
      refine KC.seq ?_
      refine KC.region ?_
      refine RL.val (O.assign rfl) rfl ?_
      refine RL.nil ?_
      refine KQ.then_n ?_
      refine KC.seq ?_
      refine KC.seq ?_
      refine KC.region ?_
      refine RL.val (O.assign rfl) rfl ?_
      refine RL.nil ?_
      refine KQ.then_n ?_
      refine KC.block ?_
      refine KC.loop (fun k25 a w23 => ∃ (v21 : Int) (i22 : Int), Kn 48 [(0, .slice A2 (b1).length c3), (1, .int .i64 atv5), (2, .int .i64 size6), (8, .int .u64 v21), (9, .int .i64 i22)] a ∧ Mem w [] w23 [] ∧ F_ref01_Get_L1 b1 atv5 size6 k25 v21 i22 = some r) ?_ ?_
      · exact fun a ha => ⟨fuel0, 0, 0, ha.less (less_cons rfl (less_cons rfl (less_cons rfl (less_cons rfl (less_cons rfl less_nil))))), hM, hF⟩
      · rintro k25 a w23 ⟨v21, i22, ha, hM, hF⟩
        refine KC.app ha ?_
        clear ha
        cases k25 with
        | zero => exact (none_some hF).elim
        | succ k25 =>
        have hF : F_ref01_Get_l1 (F_ref01_Get_L1 b1 atv5 size6 k25) b1 atv5 size6 v21 i22 = some r := hF
        unfold F_ref01_Get_l1 at hF
        refine KC.seq ?_
        refine KC.seq ?_
        refine KC.region ?_
        refine RL.val (O.move rfl) rfl ?_
        refine RL.val (O.move rfl) rfl ?_
        refine RL.val (O.lss rfl rfl) rfl ?_
        refine RL.nil ?_
        refine KQ.then_n ?_
        refine KC.cond rfl (fun hc => ?_) (fun hc => ?_)
        · rw [if_pos hc] at hF
          refine KC.skip ?_
          refine KQ.then_n ?_
          refine KC.seq ?_
          refine KC.block ?_
          refine KC.seq ?_
          refine KC.cut (fun a w27 => ∃ (t26 : Bool), Kn 48 [(0, .slice A2 (b1).length c3), (1, .int .i64 atv5), (2, .int .i64 size6), (8, .int .u64 v21), (9, .int .i64 i22), (36, .bool t26)] a ∧ Mem w [] w27 [] ∧ F_ref01_Get_j2 b1 atv5 v21 i22 (F_ref01_Get_L1 b1 atv5 size6 k25) t26 = some r) ?_ ?_
          · refine KC.region ?_
            refine RL.val (O.move rfl) rfl ?_
            refine RL.val (O.move rfl) rfl ?_
            refine RL.val (O.len sl31 rfl) rfl ?_
            refine RL.val (O.gtr rfl rfl) rfl ?_
            refine RL.val (O.move rfl) rfl ?_
            refine RL.bcase (t := 29) rfl (fun hc => ?_) (fun hc => ?_)
            · rw [if_pos hc] at hF
              refine RL.gskip rfl rfl rfl rfl ?_
              refine RL.gskip rfl rfl rfl rfl ?_
              refine RL.gskip rfl rfl rfl rfl ?_
              refine RL.gskip rfl rfl rfl rfl ?_
              refine RL.gskip rfl rfl rfl rfl ?_
              refine RL.gskip rfl rfl rfl rfl ?_
              refine RL.val (O.pickt rfl rfl) rfl ?_
              refine RL.nil ?_
              refine KQ.then_k ?_
              exact fun a ha => ⟨true, ha.less (less_cons rfl (less_cons rfl (less_cons rfl (less_cons rfl (less_cons rfl (less_cons rfl less_nil)))))), hM, hF⟩
            · rw [if_neg (ne_true hc)] at hF
              refine RL.gval rfl rfl (O.move rfl) rfl ?_
              refine RL.gval rfl rfl (O.move rfl) rfl ?_
              refine RL.gval rfl rfl (O.add rfl rfl) rfl ?_
              refine RL.gval rfl rfl (O.move rfl) rfl ?_
              refine RL.gval rfl rfl (O.len sl31 rfl) rfl ?_
              refine RL.gval rfl rfl (O.geq rfl rfl) rfl ?_
              refine RL.val (O.pickf rfl rfl) rfl ?_
              refine RL.nil ?_
              refine KQ.then_k ?_
              exact fun a ha => ⟨(decide ((b1.length : Int) ≤ (IntKind.i64.wrap (atv5 + i22)))), ha.less (less_cons rfl (less_cons rfl (less_cons rfl (less_cons rfl (less_cons rfl (less_cons rfl less_nil)))))), hM, hF⟩
          · rintro a w27 ⟨t26, ha, hM, hF⟩
            refine KC.app ha ?_
            clear ha
            unfold F_ref01_Get_j2 at hF
            refine KC.cond rfl (fun hc => ?_) (fun hc => ?_)
            · rw [if_pos hc] at hF
              refine KC.seq ?_
              refine KC.region ?_
              refine RL.val (O.assign rfl) rfl ?_
              refine RL.val (O.assign rfl) rfl ?_
              refine RL.nil ?_
              refine KQ.then_n ?_
              refine KC.ret ?_
              refine KQ.then_r ?_
              refine KQ.blk_r ?_
              refine KQ.then_r ?_
              refine KQ.then_r ?_
              refine KQ.blk_r ?_
              refine KQ.then_r ?_
              obtain rfl := Option.some.inj hF
              refine KQ.rets Try.results36 (RVs.cons (RV.tm rfl) (RVs.cons (RV.tm rfl) RVs.nil)) ?_
              exact ⟨_, rfl, rfl, hM⟩
            · rw [if_neg (ne_true hc)] at hF
              refine KC.skip ?_
              refine KQ.then_n ?_
              refine KC.region ?_
              refine RL.val (O.move rfl) rfl ?_
              refine RL.val (O.mul rfl rfl) rfl ?_
              refine RL.val (O.move rfl) rfl ?_
              refine RL.val (O.move rfl) rfl ?_
              refine RL.val (O.move rfl) rfl ?_
              refine RL.val (O.add rfl rfl) rfl ?_
              refine obindE hF fun xv30 hx29 hF => ?_
              have hA28 := Rd.atN (f := (eI .u8)) (s := 1) (fun _ => rfl) (by decide) (hM.inp hr4 Off.nil) hx29
              refine RL.val (O.idxA sl31 (hA28) rfl rfl) rfl ?_
              refine RL.val (O.load sc5 rfl (hA28).cells.at0) rfl ?_
              refine RL.val (O.conv un5 Try.underlying81 rfl) rfl ?_
              refine RL.val (O.add rfl rfl) rfl ?_
              refine RL.val (O.assign rfl) rfl ?_
              refine RL.nil ?_
              refine KQ.blk_n ?_
              refine KQ.then_n ?_
              refine KC.region ?_
              refine RL.val (O.move rfl) rfl ?_
              refine RL.val (O.add rfl rfl) rfl ?_
              refine RL.val (O.assign rfl) rfl ?_
              refine RL.nil ?_
              refine KQ.then_k ?_
              exact fun a ha => ⟨k25, Nat.lt_succ_self k25, (IntKind.u64.wrap ((IntKind.u64.wrap (v21 * 256)) + (IntKind.u64.wrap xv30))), (IntKind.i64.wrap (i22 + 1)), ha.less (less_cons rfl (less_cons rfl (less_cons rfl (less_cons rfl (less_cons rfl less_nil))))), hM, hF⟩
        · rw [if_neg (ne_true hc)] at hF
          refine KC.exit ?_
          refine KQ.then_x ?_
          refine KQ.then_x ?_
          refine KQ.blk_x ?_
          refine KQ.then_n ?_
          refine KC.seq ?_
          refine KC.region ?_
          refine RL.val (O.move rfl) rfl ?_
          refine RL.val (O.assign rfl) rfl ?_
          refine RL.val (O.assign rfl) rfl ?_
          refine RL.nil ?_
          refine KQ.then_n ?_
          refine KC.ret ?_
          obtain rfl := Option.some.inj hF
          refine KQ.rets Try.results36 (RVs.cons (RV.tm rfl) (RVs.cons (RV.tm rfl) RVs.nil)) ?_
          exact ⟨_, rfl, rfl, hM⟩
set_option maxRecDepth 100000 in
set_option maxHeartbeats 40000000 in
theorem c_ref06_Frag (w : World) (cv1 : T_ref06_Chain) (A2 : Option Addr) (c3 : Nat) (hr4 : Rd w A2 c3 2 cv1.f_Exts.length (cv1.f_Exts.flatMap e_ref06_Ext)) (r : Int × Bool × Int × Bool) (hF : F_ref06_Frag cv1 = some r) :
    CallsR Try.prog 14 [.agg #[.slice A2 (cv1.f_Exts).length c3, .int .u8 cv1.f_Proto]] w (fun v w' => v = .tuple #[.int .u16 r.1, .bool r.2.1, .int .u32 r.2.2.1, .bool r.2.2.2] ∧ Mem w [] w' []) := by
  refine calls_KC Try.func14 rfl Try.ntmps14 rfl ?_
  have hM := Mem.init w
  unfold F_ref06_Frag at hF
  refine KC.seq ?_
  refine KC.region ?_
  refine RL.eff (E.box (vs := [.slice A2 (cv1.f_Exts).length c3, .int .u8 cv1.f_Proto]) hM rfl rfl) rfl fun v w6 hv => ?_
  clear hM
  obtain ⟨g5, rfl, hM, hf⟩ := hv
  refine RL.val (O.assign rfl) rfl ?_
  refine RL.val (O.assign rfl) rfl ?_
  refine RL.val (O.assign rfl) rfl ?_
  refine RL.val (O.assign rfl) rfl ?_
  refine RL.nil ?_
  refine KQ.then_n ?_
  refine KC.seq ?_
  refine KC.seq ?_
  refine KC.region ?_
  refine RL.val (O.assign rfl) rfl ?_
  refine RL.nil ?_
  refine KQ.then_n ?_
  refine KC.block ?_
  refine KC.loop (fun k68 a w66 => ∃ (i65 : Int), Kn 55 [(1, .pointer (some ⟨g5, 0, none⟩)), (6, .int .i64 i65)] a ∧ Mem w [] w66 [.box g5 29 [.slice A2 (cv1.f_Exts).length c3, .int .u8 cv1.f_Proto]] ∧ F_ref06_Frag_L1 cv1 k68 i65 = some r) ?_ ?_
  · exact fun a ha => ⟨fuel0, 0, ha.less (less_cons rfl (less_cons rfl less_nil)), hM, hF⟩
  · rintro k68 a w66 ⟨i65, ha, hM, hF⟩
    refine KC.app ha ?_
    clear ha
    cases k68 with
    | zero => exact (none_some hF).elim
    | succ k68 =>
    have hF : F_ref06_Frag_l1 (F_ref06_Frag_L1 cv1 k68) cv1 i65 = some r := hF
    unfold F_ref06_Frag_l1 at hF
    refine KC.seq ?_
    refine KC.cut (fun a w75 => ∃ (t74 : Bool), Kn 55 [(1, .pointer (some ⟨g5, 0, none⟩)), (6, .int .i64 i65), (20, .bool t74)] a ∧ Mem w [] w75 [.box g5 29 [.slice A2 (cv1.f_Exts).length c3, .int .u8 cv1.f_Proto]] ∧ F_ref06_Frag_j1 cv1 i65 (F_ref06_Frag_L1 cv1 k68) t74 = some r) ?_ ?_
    · refine KC.region ?_
      refine RL.val (O.move rfl) rfl ?_
      refine RL.val (O.fldA fl29_0 (by decide) rfl) rfl ?_
      refine RL.val (O.load sc27 rfl (Cs.adds [0] ((hM.bx (i := 0) rfl)) rfl)) rfl ?_
      refine RL.val (O.len sl27 rfl) rfl ?_
      refine RL.val (O.lss rfl rfl) rfl ?_
      refine RL.val (O.move rfl) rfl ?_
      refine RL.bcase (t := 17) rfl (fun hc => ?_) (fun hc => ?_)
      · rw [if_pos hc] at hF
        refine RL.gval rfl rfl (O.loadN (cs := [.slice A2 (cv1.f_Exts).length c3, .int .u8 cv1.f_Proto]) ag29 rfl (Cs.addsN [] ((hM.bx (i := 0) rfl)) rfl)) rfl ?_
        refine obindE hF fun y69 hx70 hF => ?_
        refine RL.gcall rfl rfl Try.func17 bd17 rfl rfl (c_ref06_Right _ cv1 _ _ (hM.inp hr4 Off.nil) _ hx70) fun v w71 hv => ?_
        obtain ⟨rfl, hN72⟩ := hv
        replace hM := hM.call0 hN72
        refine RL.val (O.pickt rfl rfl) rfl ?_
        refine RL.nil ?_
        refine KQ.then_k ?_
        exact fun a ha => ⟨y69, ha.less (less_cons rfl (less_cons rfl (less_cons rfl less_nil))), hM, hF⟩
      · rw [if_neg (ne_true hc)] at hF
        refine RL.gskip rfl rfl rfl rfl ?_
        refine RL.gskip rfl rfl rfl rfl ?_
        refine RL.val (O.pickf rfl rfl) rfl ?_
        refine RL.nil ?_
        refine KQ.then_k ?_
        exact fun a ha => ⟨false, ha.less (less_cons rfl (less_cons rfl (less_cons rfl less_nil))), hM, hF⟩
    · rintro a w75 ⟨t74, ha, hM, hF⟩
      refine KC.app ha ?_
      clear ha
      unfold F_ref06_Frag_j1 at hF
      refine KC.cond rfl (fun hc => ?_) (fun hc => ?_)
      · rw [if_pos hc] at hF
        refine KC.skip ?_
        refine KQ.then_n ?_
        refine KC.seq ?_
        refine KC.block ?_
        refine KC.seq ?_
        refine KC.region ?_
        refine RL.val (O.fldA fl29_0 (by decide) rfl) rfl ?_
        refine RL.val (O.load sc27 rfl (Cs.adds [0] ((hM.bx (i := 0) rfl)) rfl)) rfl ?_
        refine RL.val (O.move rfl) rfl ?_
        refine obindE hF fun xv78 hx77 hF => ?_
        have hA76 := Rd.atN (f := e_ref06_Ext) (s := 2) (fun _ => rfl) (by decide) (hM.inp hr4 Off.nil) hx77
        refine RL.val (O.idxA sl27 (hA76) rfl rfl) rfl ?_
        refine RL.val (O.fldA fl76_0 (by decide) rfl) rfl ?_
        refine RL.val (O.load sc5 rfl (Cs.adds [0] (hA76).cells rfl)) rfl ?_
        refine RL.val (O.eql rfl rfl) rfl ?_
        refine RL.nil ?_
        refine KQ.then_n ?_
        refine KC.cond rfl (fun hc => ?_) (fun hc => ?_)
        · rw [if_pos hc] at hF
          refine KC.seq ?_
          refine KC.region ?_
          refine RL.val (O.fldA fl29_0 (by decide) rfl) rfl ?_
          refine RL.val (O.load sc27 rfl (Cs.adds [0] ((hM.bx (i := 0) rfl)) rfl)) rfl ?_
          refine RL.val (O.move rfl) rfl ?_
          refine obindE hF fun xv81 hx80 hF => ?_
          have hA79 := Rd.atN (f := e_ref06_Ext) (s := 2) (fun _ => rfl) (by decide) (hM.inp hr4 Off.nil) hx80
          refine RL.val (O.idxA sl27 (hA79) rfl rfl) rfl ?_
          refine RL.val (O.fldA fl76_1 (by decide) rfl) rfl ?_
          refine RL.val (O.load sc9 rfl (Cs.adds [1] (hA79).cells rfl)) rfl ?_
          refine cut_someE hF fun hq85 hF => ?_
          refine RL.eff (E.s2b hM Try.underlying9 sl31 Try.underlying5 rfl (of_decide_eq_true hq85)) rfl fun v w84 hv => ?_
          clear hM
          obtain ⟨A82, c83, Z86, rfl, hM, hf⟩ := hv
          refine RL.val (O.assign rfl) rfl ?_
          refine RL.nil ?_
          refine KQ.then_n ?_
          refine KC.seq ?_
          refine KC.region ?_
          refine RL.val (O.move rfl) rfl ?_
          refine obindE hF fun y88 hx89 hF => ?_
          refine RL.call Try.func36 bd36 rfl rfl (c_ref01_Get _ _ _ (numsOfStr xv81.f_Data) (hM.rdP (i := 1) rfl) 0 2 _ hx89) fun v w90 hv => ?_
          obtain ⟨rfl, hN91⟩ := hv
          replace hM := hM.call0 hN91
          refine RL.val (O.move rfl) rfl ?_
          refine RL.val (O.ext rfl rfl) rfl ?_
          refine RL.val (O.ext rfl rfl) rfl ?_
          refine RL.val (O.assign rfl) rfl ?_
          refine RL.val (O.assign rfl) rfl ?_
          refine RL.nil ?_
          refine KQ.then_n ?_
          refine KC.seq ?_
          refine KC.region ?_
          refine RL.val (O.move rfl) rfl ?_
          refine obindE hF fun y92 hx93 hF => ?_
          refine RL.call Try.func36 bd36 rfl rfl (c_ref01_Get _ _ _ (numsOfStr xv81.f_Data) (hM.rdP (i := 1) rfl) 2 4 _ hx93) fun v w94 hv => ?_
          obtain ⟨rfl, hN95⟩ := hv
          replace hM := hM.call0 hN95
          refine RL.val (O.move rfl) rfl ?_
          refine RL.val (O.ext rfl rfl) rfl ?_
          refine RL.val (O.ext rfl rfl) rfl ?_
          refine RL.val (O.assign rfl) rfl ?_
          refine RL.val (O.assign rfl) rfl ?_
          refine RL.nil ?_
          refine KQ.then_n ?_
          refine KC.seq ?_
          refine KC.region ?_
          refine RL.val (O.move rfl) rfl ?_
          refine RL.val (O.quo rfl rfl (by decide)) rfl ?_
          refine RL.val (O.conv un81 Try.underlying36 rfl) rfl ?_
          refine RL.val (O.move rfl) rfl ?_
          refine RL.val (O.rem rfl rfl (by decide)) rfl ?_
          refine RL.val (O.eql rfl rfl) rfl ?_
          refine RL.val (O.move rfl) rfl ?_
          refine RL.val (O.conv un81 Try.underlying37 rfl) rfl ?_
          refine RL.val (O.assign rfl) rfl ?_
          refine RL.val (O.assign rfl) rfl ?_
          refine RL.val (O.assign rfl) rfl ?_
          refine RL.val (O.assign rfl) rfl ?_
          refine RL.nil ?_
          refine KQ.then_n ?_
          refine KC.ret ?_
          refine KQ.blk_r ?_
          refine KQ.then_r ?_
          refine KQ.then_r ?_
          refine KQ.blk_r ?_
          refine KQ.then_r ?_
          obtain rfl := Option.some.inj hF
          replace hM := hM.pick [] rfl (by decide)
          refine KQ.rets Try.results14 (RVs.cons (RV.tm rfl) (RVs.cons (RV.tm rfl) (RVs.cons (RV.tm rfl) (RVs.cons (RV.tm rfl) RVs.nil)))) ?_
          exact ⟨_, rfl, rfl, hM⟩
        · rw [if_neg (ne_true hc)] at hF
          refine KC.skip ?_
          refine KQ.blk_n ?_
          refine KQ.then_n ?_
          refine KC.region ?_
          refine RL.val (O.move rfl) rfl ?_
          refine RL.val (O.add rfl rfl) rfl ?_
          refine RL.val (O.assign rfl) rfl ?_
          refine RL.nil ?_
          refine KQ.then_k ?_
          exact fun a ha => ⟨k68, Nat.lt_succ_self k68, (IntKind.i64.wrap (i65 + 1)), ha.less (less_cons rfl (less_cons rfl less_nil)), hM, hF⟩
      · rw [if_neg (ne_true hc)] at hF
        refine KC.exit ?_
        refine KQ.then_x ?_
        refine KQ.then_x ?_
        refine KQ.blk_x ?_
        refine KQ.then_n ?_
        refine KC.seq ?_
        refine KC.region ?_
        refine RL.val (O.assign rfl) rfl ?_
        refine RL.val (O.assign rfl) rfl ?_
        refine RL.val (O.assign rfl) rfl ?_
        refine RL.val (O.assign rfl) rfl ?_
        refine RL.nil ?_
        refine KQ.then_n ?_
        refine KC.ret ?_
        obtain rfl := Option.some.inj hF
        replace hM := hM.pick [] rfl (by decide)
        refine KQ.rets Try.results14 (RVs.cons (RV.tm rfl) (RVs.cons (RV.tm rfl) (RVs.cons (RV.tm rfl) (RVs.cons (RV.tm rfl) RVs.nil)))) ?_
        exact ⟨_, rfl, rfl, hM⟩
set_option maxRecDepth 100000 in
set_option maxHeartbeats 40000000 in
theorem c_bytes_Equal (w : World) (A2 : Option Addr) (c3 : Nat) (av1 : List Int) (hr4 : Rd w A2 c3 1 av1.length (av1.flatMap (eI .u8))) (A6 : Option Addr) (c7 : Nat) (b5 : List Int) (hr8 : Rd w A6 c7 1 b5.length (b5.flatMap (eI .u8))) (r : Bool) (hF : F_bytes_Equal av1 b5 = some r) :
    CallsR Try.prog 46 [.slice A2 (av1).length c3, .slice A6 (b5).length c7] w (fun v w' => v = .bool r ∧ Mem w [] w' []) := by
  refine calls_KC Try.func46 rfl Try.ntmps46 rfl ?_
  have hM := Mem.init w
  unfold F_bytes_Equal at hF
  refine KC.seq ?_
  refine KC.region ?_
  refine RL.val (O.assign rfl) rfl ?_
  refine RL.nil ?_
  refine KQ.then_n ?_
  refine KC.seq ?_
  refine KC.region ?_
  refine RL.val (O.move rfl) rfl ?_
  refine RL.val (O.b2s sl31 Try.underlying5 Try.underlying9 rfl ((hM.inp hr4 Off.nil))) rfl ?_
  refine RL.val (O.move rfl) rfl ?_
  refine RL.val (O.b2s sl31 Try.underlying5 Try.underlying9 rfl ((hM.inp hr8 Off.nil))) rfl ?_
  refine RL.val (O.streq rfl rfl) rfl ?_
  refine RL.val (O.assign rfl) rfl ?_
  refine RL.nil ?_
  refine KQ.then_n ?_
  refine KC.ret ?_
  obtain rfl := Option.some.inj hF
  refine KQ.rets Try.results46 (RVs.cons (RV.tm rfl) RVs.nil) ?_
  exact ⟨_, rfl, rfl, hM⟩
set_option maxRecDepth 100000 in
set_option maxHeartbeats 40000000 in
theorem c_ipsix_Same_1 (w : World) (xv1 : T_ipsix_Ext) (A2 : Option Addr) (c3 : Nat) (hr4 : Rd w A2 c3 1 xv1.f_Data.length (xv1.f_Data.flatMap (eI .u8))) (y5 : T_ipsix_Ext) (A6 : Option Addr) (c7 : Nat) (hr8 : Rd w A6 c7 1 y5.f_Data.length (y5.f_Data.flatMap (eI .u8))) (r : Bool) (hF : F_ipsix_Same_1 xv1 y5 = some r) :
    CallsR Try.prog 45 [.agg #[.int .u8 xv1.f_Kind, .slice A2 (xv1.f_Data).length c3], .agg #[.int .u8 y5.f_Kind, .slice A6 (y5.f_Data).length c7]] w (fun v w' => v = .bool r ∧ Mem w [] w' []) := by
  refine calls_KC Try.func45 rfl Try.ntmps45 rfl ?_
  have hM := Mem.init w
  unfold F_ipsix_Same_1 at hF
  refine KC.seq ?_
  refine KC.region ?_
  refine RL.eff (E.box (vs := [.int .u8 xv1.f_Kind, .slice A2 (xv1.f_Data).length c3]) hM rfl rfl) rfl fun v w10 hv => ?_
  clear hM
  obtain ⟨g9, rfl, hM, hf⟩ := hv
  refine RL.eff (E.box (vs := [.int .u8 y5.f_Kind, .slice A6 (y5.f_Data).length c7]) hM rfl rfl) rfl fun v w13 hv => ?_
  clear hM
  obtain ⟨g12, rfl, hM, hf⟩ := hv
  refine RL.val (O.assign rfl) rfl ?_
  refine RL.nil ?_
  refine KQ.then_n ?_
  refine KC.cut (fun a w20 => ∃ (t19 : Bool), Kn 17 [(4, .bool t19)] a ∧ Mem w [] w20 [] ∧ F_ipsix_Same_1_j1 t19 = some r) ?_ ?_
  · refine KC.region ?_
    refine RL.val (O.fldA fl63_0 (by decide) rfl) rfl ?_
    refine RL.val (O.load sc5 rfl (Cs.adds [0] ((hM.bx (i := 0) rfl)) rfl)) rfl ?_
    refine RL.val (O.fldA fl63_0 (by decide) rfl) rfl ?_
    refine RL.val (O.load sc5 rfl (Cs.adds [0] ((hM.bx (i := 1) rfl)) rfl)) rfl ?_
    refine RL.val (O.eql rfl rfl) rfl ?_
    refine RL.val (O.move rfl) rfl ?_
    refine RL.bcase (t := 10) rfl (fun hc => ?_) (fun hc => ?_)
    · rw [if_pos hc] at hF
      refine RL.gval rfl rfl (O.fldA fl63_1 (by decide) rfl) rfl ?_
      refine RL.gval rfl rfl (O.load sc31 rfl (Cs.adds [1] ((hM.bx (i := 0) rfl)) rfl)) rfl ?_
      refine RL.gval rfl rfl (O.fldA fl63_1 (by decide) rfl) rfl ?_
      refine RL.gval rfl rfl (O.load sc31 rfl (Cs.adds [1] ((hM.bx (i := 1) rfl)) rfl)) rfl ?_
      refine obindE hF fun y15 hx16 hF => ?_
      refine RL.gcall rfl rfl Try.func46 bd46 rfl rfl (c_bytes_Equal _ _ _ xv1.f_Data (hM.inp hr4 Off.nil) _ _ y5.f_Data (hM.inp hr8 Off.nil) _ hx16) fun v w17 hv => ?_
      obtain ⟨rfl, hN18⟩ := hv
      replace hM := hM.call0 hN18
      refine RL.val (O.pickt rfl rfl) rfl ?_
      refine RL.val (O.assign rfl) rfl ?_
      refine RL.nil ?_
      refine KQ.then_k ?_
      replace hM := hM.pick [] rfl (by decide)
      exact fun a ha => ⟨y15, ha.less (less_cons rfl less_nil), hM, hF⟩
    · rw [if_neg (ne_true hc)] at hF
      refine RL.brun1 6 16 false (by kernel_rfl) ?_
      refine RL.val (O.assign rfl) rfl ?_
      refine RL.nil ?_
      refine KQ.then_k ?_
      replace hM := hM.pick [] rfl (by decide)
      exact fun a ha => ⟨false, ha.less (less_cons rfl less_nil), hM, hF⟩
  · rintro a w20 ⟨t19, ha, hM, hF⟩
    refine KC.app ha ?_
    clear ha
    unfold F_ipsix_Same_1_j1 at hF
    refine KC.ret ?_
    obtain rfl := Option.some.inj hF
    refine KQ.rets Try.results45 (RVs.cons (RV.tm rfl) RVs.nil) ?_
    exact ⟨_, rfl, rfl, hM⟩
set_option maxRecDepth 100000 in
set_option maxHeartbeats 40000000 in
theorem c_slices_EqualFunc_ipsix_Ext_ipsix_Ext_ipsix_Ext_ipsix_Ext_fipsix_Same_1 (w : World) (A2 : Option Addr) (c3 : Nat) (s1 : List T_ipsix_Ext) (hr4 : RdD R_ipsix_Ext [] w A2 c3 2 s1) (A6 : Option Addr) (c7 : Nat) (s5 : List T_ipsix_Ext) (hr8 : RdD R_ipsix_Ext [] w A6 c7 2 s5) (r : Bool) (hF : F_slices_EqualFunc_ipsix_Ext_ipsix_Ext_ipsix_Ext_ipsix_Ext_fipsix_Same_1 s1 s5 = some r) :
    CallsR Try.prog 47 [.slice A2 (s1).length c3, .slice A6 (s5).length c7, .func (.func 45) #[] #[]] w (fun v w' => v = .bool r ∧ Mem w [] w' []) := by
  refine calls_KC Try.func47 rfl Try.ntmps47 rfl ?_
  have hM := Mem.init w
  unfold F_slices_EqualFunc_ipsix_Ext_ipsix_Ext_ipsix_Ext_ipsix_Ext_fipsix_Same_1 at hF
  refine KC.seq ?_
  refine KC.region ?_
  refine RL.val (O.assign rfl) rfl ?_
  refine RL.nil ?_
  refine KQ.then_n ?_
  refine KC.seq ?_
  refine KC.seq ?_
  refine KC.region ?_
  refine RL.val (O.move rfl) rfl ?_
  refine RL.val (O.len sl22 rfl) rfl ?_
  refine RL.val (O.move rfl) rfl ?_
  refine RL.val (O.len sl22 rfl) rfl ?_
  refine RL.val (O.neq rfl rfl) rfl ?_
  refine RL.nil ?_
  refine KQ.then_n ?_
  refine KC.cond rfl (fun hc => ?_) (fun hc => ?_)
  · rw [if_pos hc] at hF
    refine KC.seq ?_
    refine KC.region ?_
    refine RL.val (O.assign rfl) rfl ?_
    refine RL.nil ?_
    refine KQ.then_n ?_
    refine KC.ret ?_
    refine KQ.then_r ?_
    obtain rfl := Option.some.inj hF
    refine KQ.rets Try.results47 (RVs.cons (RV.tm rfl) RVs.nil) ?_
    exact ⟨_, rfl, rfl, hM⟩
  · rw [if_neg (ne_true hc)] at hF
    refine KC.skip ?_
    refine KQ.then_n ?_
    refine KC.seq ?_
    refine KC.seq ?_
    refine KC.region ?_
    refine RL.val (O.move rfl) rfl ?_
    refine RL.val (O.len sl22 rfl) rfl ?_
    refine RL.val (O.move rfl) rfl ?_
    refine RL.nil ?_
    refine KQ.then_n ?_
    refine KC.block ?_
    refine KC.loop (fun k77 a w75 => ∃ (t74 : Int), Kn 32 [(1, .slice A6 (s5).length c7), (2, .func (.func 45) #[] #[]), (15, .slice A2 (s1).length c3), (16, .int .i64 (s1.length : Int)), (17, .int .i64 t74)] a ∧ Mem w [] w75 [] ∧ F_slices_EqualFunc_ipsix_Ext_ipsix_Ext_ipsix_Ext_ipsix_Ext_fipsix_Same_1_L1 s1 s5 k77 t74 = some r) ?_ ?_
    · exact fun a ha => ⟨fuel0, 0, ha.less (less_cons rfl (less_cons rfl (less_cons rfl (less_cons rfl (less_cons rfl less_nil))))), hM, hF⟩
    · rintro k77 a w75 ⟨t74, ha, hM, hF⟩
      refine KC.app ha ?_
      clear ha
      cases k77 with
      | zero => exact (none_some hF).elim
      | succ k77 =>
      have hF : F_slices_EqualFunc_ipsix_Ext_ipsix_Ext_ipsix_Ext_ipsix_Ext_fipsix_Same_1_l1 (F_slices_EqualFunc_ipsix_Ext_ipsix_Ext_ipsix_Ext_ipsix_Ext_fipsix_Same_1_L1 s1 s5 k77) s1 s5 t74 = some r := hF
      unfold F_slices_EqualFunc_ipsix_Ext_ipsix_Ext_ipsix_Ext_ipsix_Ext_fipsix_Same_1_l1 at hF
      refine KC.seq ?_
      refine KC.region ?_
      refine RL.val (O.lss rfl rfl) rfl ?_
      refine RL.nil ?_
      refine KQ.then_n ?_
      refine KC.seq ?_
      refine KC.cond rfl (fun hc => ?_) (fun hc => ?_)
      · rw [if_pos hc] at hF
        refine KC.skip ?_
        refine KQ.then_n ?_
        refine KC.seq ?_
        refine KC.block ?_
        refine KC.seq ?_
        refine KC.region ?_
        refine RL.val (O.move rfl) rfl ?_
        refine obindE hF fun xv80 hx79 hF => ?_
        obtain ⟨cs83, hA78, hR81, hO82⟩ := RdD.at hr4 hx79
        obtain ⟨A84, c85, rfl, hr86, ho87⟩ := hR81
        have hA78 := hA78.chg hM.chg hO82
        refine RL.val (O.idxA sl22 (hA78) rfl rfl) rfl ?_
        refine RL.val (O.loadN (cs := [.int .u8 xv80.f_Kind, .slice A84 (xv80.f_Data).length c85]) ag63 rfl (hA78).cells) rfl ?_
        refine RL.eff (E.alloc hM ze63) rfl fun v w89 hv => ?_
        clear hM
        obtain ⟨g88, rfl, hM, hf⟩ := hv
        refine RL.val (O.assign rfl) rfl ?_
        refine RL.effs (E.stB (j := 0) (off := 0) (vs := [.int .u8 xv80.f_Kind, .slice A84 (xv80.f_Data).length c85]) (cs' := [.int .u8 xv80.f_Kind, .slice A84 (xv80.f_Data).length c85]) hM rfl sz63 rfl (adds_eq [] rfl) rfl rfl (One.all rfl) rfl rfl) fun w91 hM1 => ?_
        clear hM
        have hM := hM1
        clear hM1
        refine RL.nil ?_
        refine KQ.then_n ?_
        refine KC.seq ?_
        refine KC.region ?_
        refine RL.val (O.move rfl) rfl ?_
        refine RL.val (O.move rfl) rfl ?_
        refine obindE hF fun xv94 hx93 hF => ?_
        obtain ⟨cs97, hA92, hR95, hO96⟩ := RdD.at hr8 hx93
        obtain ⟨A98, c99, rfl, hr100, ho101⟩ := hR95
        have hA92 := hA92.chg hM.chg hO96
        refine RL.val (O.idxA sl22 (hA92) rfl rfl) rfl ?_
        refine RL.val (O.loadN (cs := [.int .u8 xv94.f_Kind, .slice A98 (xv94.f_Data).length c99]) ag63 rfl (hA92).cells) rfl ?_
        refine RL.eff (E.alloc hM ze63) rfl fun v w103 hv => ?_
        clear hM
        obtain ⟨g102, rfl, hM, hf⟩ := hv
        refine RL.effs (E.stB (j := 1) (off := 0) (vs := [.int .u8 xv94.f_Kind, .slice A98 (xv94.f_Data).length c99]) (cs' := [.int .u8 xv94.f_Kind, .slice A98 (xv94.f_Data).length c99]) hM rfl sz63 rfl (adds_eq [] rfl) rfl rfl (One.all rfl) rfl rfl) fun w105 hM1 => ?_
        clear hM
        have hM := hM1
        clear hM1
        refine RL.nil ?_
        refine KQ.then_n ?_
        refine KC.seq ?_
        refine KC.region ?_
        refine RL.val (O.move rfl) rfl ?_
        refine RL.val (O.loadN (cs := [.int .u8 xv80.f_Kind, .slice A84 (xv80.f_Data).length c85]) ag63 rfl (Cs.addsN [] ((hM.bx (i := 0) rfl)) rfl)) rfl ?_
        refine RL.val (O.loadN (cs := [.int .u8 xv94.f_Kind, .slice A98 (xv94.f_Data).length c99]) ag63 rfl (Cs.addsN [] ((hM.bx (i := 1) rfl)) rfl)) rfl ?_
        refine obindE hF fun y106 hx107 hF => ?_
        refine RL.callv (first := []) (captured := []) rfl Try.func45 bd45 rfl rfl (c_ipsix_Same_1 _ xv80 _ _ (hM.inp hr86 Off.nil) xv94 _ _ (hM.inp hr100 Off.nil) _ hx107) fun v w108 hv => ?_
        obtain ⟨rfl, hN109⟩ := hv
        replace hM := hM.call0 hN109
        refine RL.val (O.not rfl) rfl ?_
        refine RL.nil ?_
        refine KQ.then_n ?_
        refine KC.cond rfl (fun hc => ?_) (fun hc => ?_)
        · rw [if_pos hc] at hF
          refine KC.seq ?_
          refine KC.region ?_
          refine RL.val (O.assign rfl) rfl ?_
          refine RL.nil ?_
          refine KQ.then_n ?_
          refine KC.ret ?_
          refine KQ.blk_r ?_
          refine KQ.then_r ?_
          refine KQ.then_r ?_
          refine KQ.blk_r ?_
          refine KQ.then_r ?_
          obtain rfl := Option.some.inj hF
          replace hM := hM.pick [] rfl (by decide)
          refine KQ.rets Try.results47 (RVs.cons (RV.tm rfl) RVs.nil) ?_
          exact ⟨_, rfl, rfl, hM⟩
        · rw [if_neg (ne_true hc)] at hF
          refine KC.skip ?_
          refine KQ.blk_n ?_
          refine KQ.then_n ?_
          refine KC.region ?_
          refine RL.val (O.add rfl rfl) rfl ?_
          refine RL.val (O.move rfl) rfl ?_
          refine RL.nil ?_
          refine KQ.then_k ?_
          replace hM := hM.pick [] rfl (by decide)
          exact fun a ha => ⟨k77, Nat.lt_succ_self k77, (IntKind.i64.wrap (t74 + 1)), ha.less (less_cons rfl (less_cons rfl (less_cons rfl (less_cons rfl (less_cons rfl less_nil))))), hM, hF⟩
      · rw [if_neg (ne_true hc)] at hF
        refine KC.exit ?_
        refine KQ.then_x ?_
        refine KQ.then_x ?_
        refine KQ.blk_x ?_
        refine KQ.then_n ?_
        refine KC.seq ?_
        refine KC.region ?_
        refine RL.val (O.assign rfl) rfl ?_
        refine RL.nil ?_
        refine KQ.then_n ?_
        refine KC.ret ?_
        obtain rfl := Option.some.inj hF
        refine KQ.rets Try.results47 (RVs.cons (RV.tm rfl) RVs.nil) ?_
        exact ⟨_, rfl, rfl, hM⟩
set_option maxRecDepth 100000 in
set_option maxHeartbeats 40000000 in
theorem c_ipsix_Same (w : World) (av1 : T_ipsix_Chain) (A2 : Option Addr) (c3 : Nat) (hr4 : RdD R_ipsix_Ext [] w A2 c3 2 av1.f_Exts) (b5 : T_ipsix_Chain) (A6 : Option Addr) (c7 : Nat) (hr8 : RdD R_ipsix_Ext [] w A6 c7 2 b5.f_Exts) (r : Bool) (hF : F_ipsix_Same av1 b5 = some r) :
    CallsR Try.prog 18 [.agg #[.slice A2 (av1.f_Exts).length c3, .int .u8 av1.f_Proto], .agg #[.slice A6 (b5.f_Exts).length c7, .int .u8 b5.f_Proto]] w (fun v w' => v = .bool r ∧ Mem w [] w' []) := by
  refine calls_KC Try.func18 rfl Try.ntmps18 rfl ?_
  have hM := Mem.init w
  unfold F_ipsix_Same at hF
  refine KC.seq ?_
  refine KC.region ?_
  refine RL.eff (E.box (vs := [.slice A2 (av1.f_Exts).length c3, .int .u8 av1.f_Proto]) hM rfl rfl) rfl fun v w10 hv => ?_
  clear hM
  obtain ⟨g9, rfl, hM, hf⟩ := hv
  refine RL.eff (E.box (vs := [.slice A6 (b5.f_Exts).length c7, .int .u8 b5.f_Proto]) hM rfl rfl) rfl fun v w13 hv => ?_
  clear hM
  obtain ⟨g12, rfl, hM, hf⟩ := hv
  refine RL.val (O.assign rfl) rfl ?_
  refine RL.nil ?_
  refine KQ.then_n ?_
  refine KC.seq ?_
  refine KC.region ?_
  refine RL.val (O.assign rfl) rfl ?_
  refine RL.nil ?_
  refine KQ.then_n ?_
  refine KC.cut (fun a w20 => ∃ (t19 : Bool), Kn 19 [(4, .bool t19)] a ∧ Mem w [] w20 [] ∧ F_ipsix_Same_j1 t19 = some r) ?_ ?_
  · refine KC.region ?_
    refine RL.val (O.fldA fl24_1 (by decide) rfl) rfl ?_
    refine RL.val (O.load sc5 rfl (Cs.adds [1] ((hM.bx (i := 0) rfl)) rfl)) rfl ?_
    refine RL.val (O.fldA fl24_1 (by decide) rfl) rfl ?_
    refine RL.val (O.load sc5 rfl (Cs.adds [1] ((hM.bx (i := 1) rfl)) rfl)) rfl ?_
    refine RL.val (O.eql rfl rfl) rfl ?_
    refine RL.val (O.move rfl) rfl ?_
    refine RL.bcase (t := 11) rfl (fun hc => ?_) (fun hc => ?_)
    · rw [if_pos hc] at hF
      refine RL.gval rfl rfl (O.fldA fl24_0 (by decide) rfl) rfl ?_
      refine RL.gval rfl rfl (O.load sc22 rfl (Cs.adds [0] ((hM.bx (i := 0) rfl)) rfl)) rfl ?_
      refine RL.gval rfl rfl (O.fldA fl24_0 (by decide) rfl) rfl ?_
      refine RL.gval rfl rfl (O.load sc22 rfl (Cs.adds [0] ((hM.bx (i := 1) rfl)) rfl)) rfl ?_
      refine RL.gval rfl rfl (O.move rfl) rfl ?_
      refine obindE hF fun y15 hx16 hF => ?_
      refine RL.gcall rfl rfl Try.func47 bd47 rfl rfl (c_slices_EqualFunc_ipsix_Ext_ipsix_Ext_ipsix_Ext_ipsix_Ext_fipsix_Same_1 _ _ _ av1.f_Exts (hr4.chg mv_ipsix_Ext hM.chg) _ _ b5.f_Exts (hr8.chg mv_ipsix_Ext hM.chg) _ hx16) fun v w17 hv => ?_
      obtain ⟨rfl, hN18⟩ := hv
      replace hM := hM.call0 hN18
      refine RL.val (O.pickt rfl rfl) rfl ?_
      refine RL.val (O.assign rfl) rfl ?_
      refine RL.nil ?_
      refine KQ.then_k ?_
      replace hM := hM.pick [] rfl (by decide)
      exact fun a ha => ⟨y15, ha.less (less_cons rfl less_nil), hM, hF⟩
    · rw [if_neg (ne_true hc)] at hF
      refine RL.brun1 7 18 false (by kernel_rfl) ?_
      refine RL.val (O.assign rfl) rfl ?_
      refine RL.nil ?_
      refine KQ.then_k ?_
      replace hM := hM.pick [] rfl (by decide)
      exact fun a ha => ⟨false, ha.less (less_cons rfl less_nil), hM, hF⟩
  · rintro a w20 ⟨t19, ha, hM, hF⟩
    refine KC.app ha ?_
    clear ha
    unfold F_ipsix_Same_j1 at hF
    refine KC.ret ?_
    obtain rfl := Option.some.inj hF
    refine KQ.rets Try.results18 (RVs.cons (RV.tm rfl) RVs.nil) ?_
    exact ⟨_, rfl, rfl, hM⟩
set_option maxRecDepth 100000 in
set_option maxHeartbeats 40000000 in
theorem c_ref06_Same (w : World) (av1 : T_ref06_Chain) (A2 : Option Addr) (c3 : Nat) (hr4 : Rd w A2 c3 2 av1.f_Exts.length (av1.f_Exts.flatMap e_ref06_Ext)) (b5 : T_ref06_Chain) (A6 : Option Addr) (c7 : Nat) (hr8 : Rd w A6 c7 2 b5.f_Exts.length (b5.f_Exts.flatMap e_ref06_Ext)) (r : Bool) (hF : F_ref06_Same av1 b5 = some r) :
    CallsR Try.prog 19 [.agg #[.slice A2 (av1.f_Exts).length c3, .int .u8 av1.f_Proto], .agg #[.slice A6 (b5.f_Exts).length c7, .int .u8 b5.f_Proto]] w (fun v w' => v = .bool r ∧ Mem w [] w' []) := by
  refine calls_KC Try.func19 rfl Try.ntmps19 rfl ?_
  have hM := Mem.init w
  unfold F_ref06_Same at hF
  refine KC.seq ?_
  refine KC.region ?_
  refine RL.eff (E.box (vs := [.slice A2 (av1.f_Exts).length c3, .int .u8 av1.f_Proto]) hM rfl rfl) rfl fun v w10 hv => ?_
  clear hM
  obtain ⟨g9, rfl, hM, hf⟩ := hv
  refine RL.eff (E.box (vs := [.slice A6 (b5.f_Exts).length c7, .int .u8 b5.f_Proto]) hM rfl rfl) rfl fun v w13 hv => ?_
  clear hM
  obtain ⟨g12, rfl, hM, hf⟩ := hv
  refine RL.val (O.assign rfl) rfl ?_
  refine RL.nil ?_
  refine KQ.then_n ?_
  refine KC.seq ?_
  refine KC.seq ?_
  refine KC.region ?_
  refine RL.val (O.fldA fl29_0 (by decide) rfl) rfl ?_
  refine RL.val (O.load sc27 rfl (Cs.adds [0] ((hM.bx (i := 0) rfl)) rfl)) rfl ?_
  refine RL.val (O.len sl27 rfl) rfl ?_
  refine RL.val (O.fldA fl29_0 (by decide) rfl) rfl ?_
  refine RL.val (O.load sc27 rfl (Cs.adds [0] ((hM.bx (i := 1) rfl)) rfl)) rfl ?_
  refine RL.val (O.len sl27 rfl) rfl ?_
  refine RL.val (O.neq rfl rfl) rfl ?_
  refine RL.nil ?_
  refine KQ.then_n ?_
  refine KC.cond rfl (fun hc => ?_) (fun hc => ?_)
  · rw [if_pos hc] at hF
    refine KC.seq ?_
    refine KC.region ?_
    refine RL.val (O.assign rfl) rfl ?_
    refine RL.nil ?_
    refine KQ.then_n ?_
    refine KC.ret ?_
    refine KQ.then_r ?_
    obtain rfl := Option.some.inj hF
    replace hM := hM.pick [] rfl (by decide)
    refine KQ.rets Try.results19 (RVs.cons (RV.tm rfl) RVs.nil) ?_
    exact ⟨_, rfl, rfl, hM⟩
  · rw [if_neg (ne_true hc)] at hF
    refine KC.skip ?_
    refine KQ.then_n ?_
    refine KC.seq ?_
    refine KC.seq ?_
    refine KC.region ?_
    refine RL.val (O.assign rfl) rfl ?_
    refine RL.nil ?_
    refine KQ.then_n ?_
    refine KC.block ?_
    refine KC.loop (fun k35 a w33 => ∃ (i32 : Int), Kn 36 [(2, .pointer (some ⟨g9, 0, none⟩)), (3, .pointer (some ⟨g12, 0, none⟩)), (5, .int .i64 i32)] a ∧ Mem w [] w33 [.box g9 29 [.slice A2 (av1.f_Exts).length c3, .int .u8 av1.f_Proto], .box g12 29 [.slice A6 (b5.f_Exts).length c7, .int .u8 b5.f_Proto]] ∧ F_ref06_Same_L1 av1 b5 k35 i32 = some r) ?_ ?_
    · exact fun a ha => ⟨fuel0, 0, ha.less (less_cons rfl (less_cons rfl (less_cons rfl less_nil))), hM, hF⟩
    · rintro k35 a w33 ⟨i32, ha, hM, hF⟩
      refine KC.app ha ?_
      clear ha
      cases k35 with
      | zero => exact (none_some hF).elim
      | succ k35 =>
      have hF : F_ref06_Same_l1 (F_ref06_Same_L1 av1 b5 k35) av1 b5 i32 = some r := hF
      unfold F_ref06_Same_l1 at hF
      refine KC.seq ?_
      refine KC.seq ?_
      refine KC.region ?_
      refine RL.val (O.move rfl) rfl ?_
      refine RL.val (O.fldA fl29_0 (by decide) rfl) rfl ?_
      refine RL.val (O.load sc27 rfl (Cs.adds [0] ((hM.bx (i := 0) rfl)) rfl)) rfl ?_
      refine RL.val (O.len sl27 rfl) rfl ?_
      refine RL.val (O.lss rfl rfl) rfl ?_
      refine RL.nil ?_
      refine KQ.then_n ?_
      refine KC.cond rfl (fun hc => ?_) (fun hc => ?_)
      · rw [if_pos hc] at hF
        refine KC.skip ?_
        refine KQ.then_n ?_
        refine KC.seq ?_
        refine KC.block ?_
        refine KC.seq ?_
        replace hM := hM.drewN 1
        refine KC.draw [] [] [] [0, 2, 5, 7, 10] (.ofList [0, 1, 2, 3, 4, 5, 6, 7, 8, 9, 10]) moP (by kernel_rfl) ?_
        refine RD.p rfl rfl rfl rfl (fun w' => O.fldA fl29_0 (by decide) rfl) ?_
        refine RD.q rfl rfl rfl rfl (fun w' hf => O.load sc27 rfl (Cs.adds [0] ((hM.bx (i := 0) rfl).fut hf) rfl)) ?_
        refine RD.p rfl rfl rfl rfl (fun w' => O.move rfl) ?_
        refine obindE hF fun xv38 hx37 hF => ?_
        have hA36 := Rd.atN (f := e_ref06_Ext) (s := 2) (fun _ => rfl) (by decide) (hM.inp hr4 Off.nil) hx37
        refine RD.q rfl rfl rfl rfl (fun w' hf => O.idxA sl27 (hA36.fut hf) rfl rfl) ?_
        refine RD.q rfl rfl rfl rfl (fun w' hf => O.loadN (cs := [.int .u8 xv38.f_Kind, .string xv38.f_Data]) ag76 rfl (hA36.fut hf).cells) ?_
        refine RD.p rfl rfl rfl rfl (fun w' => O.fldA fl29_0 (by decide) rfl) ?_
        refine RD.q rfl rfl rfl rfl (fun w' hf => O.load sc27 rfl (Cs.adds [0] ((hM.bx (i := 1) rfl).fut hf) rfl)) ?_
        refine RD.p rfl rfl rfl rfl (fun w' => O.move rfl) ?_
        refine obindE hF fun xv41 hx40 hF => ?_
        have hA39 := Rd.atN (f := e_ref06_Ext) (s := 2) (fun _ => rfl) (by decide) (hM.inp hr8 Off.nil) hx40
        refine RD.q rfl rfl rfl rfl (fun w' hf => O.idxA sl27 (hA39.fut hf) rfl rfl) ?_
        refine RD.q rfl rfl rfl rfl (fun w' hf => O.loadN (cs := [.int .u8 xv41.f_Kind, .string xv41.f_Data]) ag76 rfl (hA39.fut hf).cells) ?_
        refine RD.p rfl rfl rfl rfl (fun w' => O.stne (cs := [.int .u8 xv38.f_Kind, .string xv38.f_Data]) (cs' := [.int .u8 xv41.f_Kind, .string xv41.f_Data]) (by kernel_rfl) rfl rfl (Q76t xv38 xv41 _ rfl rfl)) ?_
        refine RD.nil ?_
        refine KQ.then_n ?_
        refine KC.cond rfl (fun hc => ?_) (fun hc => ?_)
        · rw [if_pos hc] at hF
          refine KC.seq ?_
          refine KC.region ?_
          refine RL.val (O.assign rfl) rfl ?_
          refine RL.nil ?_
          refine KQ.then_n ?_
          refine KC.ret ?_
          refine KQ.blk_r ?_
          refine KQ.then_r ?_
          refine KQ.then_r ?_
          refine KQ.blk_r ?_
          refine KQ.then_r ?_
          obtain rfl := Option.some.inj hF
          replace hM := hM.pick [] rfl (by decide)
          refine KQ.rets Try.results19 (RVs.cons (RV.tm rfl) RVs.nil) ?_
          exact ⟨_, rfl, rfl, hM⟩
        · rw [if_neg (ne_true hc)] at hF
          refine KC.skip ?_
          refine KQ.blk_n ?_
          refine KQ.then_n ?_
          refine KC.region ?_
          refine RL.val (O.move rfl) rfl ?_
          refine RL.val (O.add rfl rfl) rfl ?_
          refine RL.val (O.assign rfl) rfl ?_
          refine RL.nil ?_
          refine KQ.then_k ?_
          exact fun a ha => ⟨k35, Nat.lt_succ_self k35, (IntKind.i64.wrap (i32 + 1)), ha.less (less_cons rfl (less_cons rfl (less_cons rfl less_nil))), hM, hF⟩
      · rw [if_neg (ne_true hc)] at hF
        refine KC.exit ?_
        refine KQ.then_x ?_
        refine KQ.then_x ?_
        refine KQ.blk_x ?_
        refine KQ.then_n ?_
        refine KC.seq ?_
        refine KC.region ?_
        refine RL.val (O.fldA fl29_1 (by decide) rfl) rfl ?_
        refine RL.val (O.load sc5 rfl (Cs.adds [1] ((hM.bx (i := 0) rfl)) rfl)) rfl ?_
        refine RL.val (O.fldA fl29_1 (by decide) rfl) rfl ?_
        refine RL.val (O.load sc5 rfl (Cs.adds [1] ((hM.bx (i := 1) rfl)) rfl)) rfl ?_
        refine RL.val (O.eql rfl rfl) rfl ?_
        refine RL.val (O.assign rfl) rfl ?_
        refine RL.nil ?_
        refine KQ.then_n ?_
        refine KC.ret ?_
        obtain rfl := Option.some.inj hF
        replace hM := hM.pick [] rfl (by decide)
        refine KQ.rets Try.results19 (RVs.cons (RV.tm rfl) RVs.nil) ?_
        exact ⟨_, rfl, rfl, hM⟩
end Go.Proofs.Ytikjomacnbemhaa
