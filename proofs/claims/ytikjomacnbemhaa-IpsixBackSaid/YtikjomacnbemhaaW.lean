/- Printed by a program of this claim: each call returns what the plain function of its name gives. -/
import Derived.Test.YtikjomacnbemhaaW11
set_option linter.unusedVariables false
namespace Go.Proofs.Ytikjomacnbemhaa
open Go Go.Ox Go.RowKit
set_option maxRecDepth 100000 in
set_option maxHeartbeats 40000000 in
theorem c_ref06_Right (w : World) (cv1 : T_ref06_Chain) (A2 : Option Addr) (c3 : Nat) (hr4 : Rd w A2 c3 2 cv1.f_Exts.length (cv1.f_Exts.flatMap e_ref06_Ext)) (r : Bool) (hF : F_ref06_Right cv1 = some r) :
    CallsR Try.prog 17 [.agg #[.slice A2 (cv1.f_Exts).length c3, .int .u8 cv1.f_Proto]] w (fun v w' => v = .bool r ∧ Mem w [] w' []) := by
  refine calls_KC Try.func17 rfl Try.ntmps17 rfl ?_
  have hM := Mem.init w
  unfold F_ref06_Right at hF
  refine KC.seq ?_
  refine KC.region ?_
  refine RL.eff (E.box (vs := [.slice A2 (cv1.f_Exts).length c3, .int .u8 cv1.f_Proto]) hM rfl rfl) rfl fun v w6 hv => ?_
  clear hM
  obtain ⟨g5, rfl, hM, hf⟩ := hv
  refine RL.val (O.assign rfl) rfl ?_
  refine RL.nil ?_
  refine KQ.then_n ?_
  refine KC.seq ?_
  refine KC.seq ?_
  refine KC.region ?_
  refine RL.val (O.fldA fl29_0 (by decide) rfl) rfl ?_
  refine RL.val (O.load sc27 rfl (Cs.adds [0] ((hM.bx (i := 0) rfl)) rfl)) rfl ?_
  refine RL.val (O.len sl27 rfl) rfl ?_
  refine RL.val (O.gtr rfl rfl) rfl ?_
  refine RL.nil ?_
  refine KQ.then_n ?_
  refine KC.cond rfl (fun hc => ?_) (fun hc => ?_)
  · rw [if_pos hc] at hF
    refine KC.seq ?_
    refine KC.region ?_
    refine RL.val (O.assign rfl) rfl ?_
    refine RL.nil ?_
    refine KQ.then_n ?_
    refine KC.ret ?_
    refine KQ.then_r ?_
    obtain rfl := Option.some.inj hF
    replace hM := hM.pick [] rfl (by decide)
    refine KQ.rets Try.results17 (RVs.cons (RV.tm rfl) RVs.nil) ?_
    exact ⟨_, rfl, rfl, hM⟩
  · rw [if_neg (ne_true hc)] at hF
    refine KC.skip ?_
    refine KQ.then_n ?_
    refine KC.seq ?_
    refine KC.region ?_
    refine RL.val (O.assign rfl) rfl ?_
    refine RL.nil ?_
    refine KQ.then_n ?_
    refine KC.seq ?_
    refine KC.seq ?_
    refine KC.region ?_
    refine RL.val (O.assign rfl) rfl ?_
    refine RL.nil ?_
    refine KQ.then_n ?_
    refine KC.block ?_
    refine KC.loop (fun k54 a w52 => ∃ (last50 : Bool) (i51 : Int), Kn 46 [(1, .pointer (some ⟨g5, 0, none⟩)), (3, .bool last50), (4, .int .i64 i51)] a ∧ Mem w [] w52 [.box g5 29 [.slice A2 (cv1.f_Exts).length c3, .int .u8 cv1.f_Proto]] ∧ F_ref06_Right_L1 cv1 k54 last50 i51 = some r) ?_ ?_
    · exact fun a ha => ⟨fuel0, false, 0, ha.less (less_cons rfl (less_cons rfl (less_cons rfl less_nil))), hM, hF⟩
    · rintro k54 a w52 ⟨last50, i51, ha, hM, hF⟩
      refine KC.app ha ?_
      clear ha
      cases k54 with
      | zero => exact (none_some hF).elim
      | succ k54 =>
      have hF : F_ref06_Right_l1 (F_ref06_Right_L1 cv1 k54) cv1 last50 i51 = some r := hF
      unfold F_ref06_Right_l1 at hF
      refine KC.seq ?_
      refine KC.seq ?_
      refine KC.region ?_
      refine RL.val (O.move rfl) rfl ?_
      refine RL.val (O.fldA fl29_0 (by decide) rfl) rfl ?_
      refine RL.val (O.load sc27 rfl (Cs.adds [0] ((hM.bx (i := 0) rfl)) rfl)) rfl ?_
      refine RL.val (O.len sl27 rfl) rfl ?_
      refine RL.val (O.lss rfl rfl) rfl ?_
      refine RL.nil ?_
      refine KQ.then_n ?_
      refine KC.cond rfl (fun hc => ?_) (fun hc => ?_)
      · rw [if_pos hc] at hF
        refine KC.skip ?_
        refine KQ.then_n ?_
        refine KC.seq ?_
        refine KC.block ?_
        refine KC.seq ?_
        refine KC.region ?_
        refine RL.val (O.fldA fl29_0 (by decide) rfl) rfl ?_
        refine RL.val (O.load sc27 rfl (Cs.adds [0] ((hM.bx (i := 0) rfl)) rfl)) rfl ?_
        refine RL.val (O.move rfl) rfl ?_
        obtain ⟨xv57, hx56, hF⟩ := obind hF
        have hA55 := Rd.atN (f := e_ref06_Ext) (s := 2) (fun _ => rfl) (by decide) (hM.inp hr4 Off.nil) hx56
        refine RL.val (O.idxA sl27 (hA55) rfl rfl) rfl ?_
        refine RL.val (O.loadN (cs := [.int .u8 xv57.f_Kind, .string xv57.f_Data]) ag76 rfl (hA55).cells) rfl ?_
        refine RL.eff (E.alloc hM ze76) rfl fun v w59 hv => ?_
        clear hM
        obtain ⟨g58, rfl, hM, hf⟩ := hv
        refine RL.effs (E.stB (j := 1) (off := 0) (vs := [.int .u8 xv57.f_Kind, .string xv57.f_Data]) (cs' := [.int .u8 xv57.f_Kind, .string xv57.f_Data]) hM rfl sz76 rfl (adds_eq [] rfl) rfl rfl (One.all rfl) rfl rfl) fun w61 hM1 => ?_
        clear hM
        have hM := hM1
        clear hM1
        refine RL.nil ?_
        refine KQ.then_n ?_
        refine KC.seq ?_
        refine KC.cut (fun a w69 => ∃ (t68 : Bool), Kn 46 [(1, .pointer (some ⟨g5, 0, none⟩)), (4, .int .i64 i51), (5, .pointer (some ⟨g58, 0, none⟩)), (36, .bool t68)] a ∧ Mem w [] w69 [.box g5 29 [.slice A2 (cv1.f_Exts).length c3, .int .u8 cv1.f_Proto], .box g58 76 [.int .u8 xv57.f_Kind, .string xv57.f_Data]] ∧ F_ref06_Right_j1 i51 (F_ref06_Right_L1 cv1 k54) xv57 t68 = some r) ?_ ?_
        · refine KC.region ?_
          refine RL.val (O.loadN (cs := [.int .u8 xv57.f_Kind, .string xv57.f_Data]) ag76 rfl (Cs.addsN [] ((hM.bx (i := 1) rfl)) rfl)) rfl ?_
          obtain ⟨y62, hx63, hF⟩ := obind hF
          refine RL.call Try.func42 bd42 rfl rfl (c_ref06_rightExt _ xv57 _ hx63) fun v w64 hv => ?_
          obtain ⟨rfl, hN65⟩ := hv
          replace hM := hM.call0 hN65
          refine RL.val (O.not rfl) rfl ?_
          refine RL.val (O.move rfl) rfl ?_
          refine RL.bcase (t := 25) rfl (fun hc => ?_) (fun hc => ?_)
          · rw [if_pos hc] at hF
            refine RL.gskip rfl rfl rfl rfl ?_
            refine RL.gskip rfl rfl rfl rfl ?_
            refine RL.gskip rfl rfl rfl rfl ?_
            refine RL.gskip rfl rfl rfl rfl ?_
            refine RL.gskip' rfl rfl rfl ?_
            refine RL.gskip' rfl rfl rfl ?_
            refine RL.gskip rfl rfl rfl rfl ?_
            refine RL.val (O.pickt rfl rfl) rfl ?_
            refine RL.val (O.move rfl) rfl ?_
            refine RL.gskip rfl rfl rfl rfl ?_
            refine RL.val (O.pickt rfl rfl) rfl ?_
            refine RL.nil ?_
            refine KQ.then_k ?_
            exact fun a ha => ⟨true, ha.less (less_cons rfl (less_cons rfl (less_cons rfl (less_cons rfl less_nil)))), hM, hF⟩
          · rw [if_neg (ne_true hc)] at hF
            refine RL.gval rfl rfl (O.fldA fl76_0 (by decide) rfl) rfl ?_
            refine RL.gval rfl rfl (O.load sc5 rfl (Cs.adds [0] ((hM.bx (i := 1) rfl)) rfl)) rfl ?_
            refine RL.gval rfl rfl (O.eql rfl rfl) rfl ?_
            refine RL.gval rfl rfl (O.move rfl) rfl ?_
            refine RL.bcase (t := 29) rfl (fun hc => ?_) (fun hc => ?_)
            · rw [if_pos hc] at hF
              refine RL.gval rfl rfl (O.move rfl) rfl ?_
              refine RL.gval rfl rfl (O.gtr rfl rfl) rfl ?_
              refine RL.gval rfl rfl (O.pickt rfl rfl) rfl ?_
              refine RL.val (O.pickf rfl rfl) rfl ?_
              refine RL.val (O.move rfl) rfl ?_
              refine RL.bcase (t := 34) rfl (fun hc => ?_) (fun hc => ?_)
              · rw [if_pos hc] at hF
                refine RL.gskip rfl rfl rfl rfl ?_
                refine RL.val (O.pickt rfl rfl) rfl ?_
                refine RL.nil ?_
                refine KQ.then_k ?_
                exact fun a ha => ⟨true, ha.less (less_cons rfl (less_cons rfl (less_cons rfl (less_cons rfl less_nil)))), hM, hF⟩
              · rw [if_neg (ne_true hc)] at hF
                refine RL.gval rfl rfl (O.move rfl) rfl ?_
                refine RL.val (O.pickf rfl rfl) rfl ?_
                refine RL.nil ?_
                refine KQ.then_k ?_
                exact fun a ha => ⟨last50, ha.less (less_cons rfl (less_cons rfl (less_cons rfl (less_cons rfl less_nil)))), hM, hF⟩
            · rw [if_neg (ne_true hc)] at hF
              refine RL.gskip rfl rfl rfl rfl ?_
              refine RL.gskip rfl rfl rfl rfl ?_
              refine RL.gval rfl rfl (O.pickf rfl rfl) rfl ?_
              refine RL.val (O.pickf rfl rfl) rfl ?_
              refine RL.val (O.move rfl) rfl ?_
              refine RL.gval rfl rfl (O.move rfl) rfl ?_
              refine RL.val (O.pickf rfl rfl) rfl ?_
              refine RL.nil ?_
              refine KQ.then_k ?_
              exact fun a ha => ⟨last50, ha.less (less_cons rfl (less_cons rfl (less_cons rfl (less_cons rfl less_nil)))), hM, hF⟩
        · rintro a w69 ⟨t68, ha, hM, hF⟩
          refine KC.app ha ?_
          clear ha
          unfold F_ref06_Right_j1 at hF
          refine KC.cond rfl (fun hc => ?_) (fun hc => ?_)
          · rw [if_pos hc] at hF
            refine KC.seq ?_
            refine KC.region ?_
            refine RL.val (O.assign rfl) rfl ?_
            refine RL.nil ?_
            refine KQ.then_n ?_
            refine KC.ret ?_
            refine KQ.then_r ?_
            refine KQ.blk_r ?_
            refine KQ.then_r ?_
            refine KQ.then_r ?_
            refine KQ.blk_r ?_
            refine KQ.then_r ?_
            obtain rfl := Option.some.inj hF
            replace hM := hM.pick [] rfl (by decide)
            refine KQ.rets Try.results17 (RVs.cons (RV.tm rfl) RVs.nil) ?_
            exact ⟨_, rfl, rfl, hM⟩
          · rw [if_neg (ne_true hc)] at hF
            refine KC.skip ?_
            refine KQ.then_n ?_
            refine KC.region ?_
            refine RL.val (O.loadN (cs := [.int .u8 xv57.f_Kind, .string xv57.f_Data]) ag76 rfl (Cs.addsN [] ((hM.bx (i := 1) rfl)) rfl)) rfl ?_
            obtain ⟨y70, hx71, hF⟩ := obind hF
            refine RL.call Try.func43 bd43 rfl rfl (c_ref06_later _ xv57 _ hx71) fun v w72 hv => ?_
            obtain ⟨rfl, hN73⟩ := hv
            replace hM := hM.call0 hN73
            refine RL.val (O.assign rfl) rfl ?_
            refine RL.nil ?_
            refine KQ.blk_n ?_
            refine KQ.then_n ?_
            refine KC.region ?_
            refine RL.val (O.move rfl) rfl ?_
            refine RL.val (O.add rfl rfl) rfl ?_
            refine RL.val (O.assign rfl) rfl ?_
            refine RL.nil ?_
            refine KQ.then_k ?_
            replace hM := hM.pick [0] rfl (by decide)
            exact fun a ha => ⟨k54, Nat.lt_succ_self k54, y70, (IntKind.i64.wrap (i51 + 1)), ha.less (less_cons rfl (less_cons rfl (less_cons rfl less_nil))), hM, hF⟩
      · rw [if_neg (ne_true hc)] at hF
        refine KC.exit ?_
        refine KQ.then_x ?_
        refine KQ.then_x ?_
        refine KQ.blk_x ?_
        refine KQ.then_n ?_
        refine KC.cut (fun a w79 => ∃ (t78 : Bool), Kn 46 [(2, .bool t78)] a ∧ Mem w [] w79 [] ∧ F_ref06_Right_j2 t78 = some r) ?_ ?_
        · refine KC.region ?_
          refine RL.val (O.move rfl) rfl ?_
          refine RL.val (O.move rfl) rfl ?_
          refine RL.bcase (t := 40) rfl (fun hc => ?_) (fun hc => ?_)
          · rw [if_pos hc] at hF
            refine RL.brun1 5 45 true (by kernel_rfl) ?_
            refine RL.val (O.assign rfl) rfl ?_
            refine RL.nil ?_
            refine KQ.then_k ?_
            replace hM := hM.pick [] rfl (by decide)
            exact fun a ha => ⟨true, ha.less (less_cons rfl less_nil), hM, hF⟩
          · rw [if_neg (ne_true hc)] at hF
            refine RL.gval rfl rfl (O.fldA fl29_1 (by decide) rfl) rfl ?_
            refine RL.gval rfl rfl (O.load sc5 rfl (Cs.adds [1] ((hM.bx (i := 0) rfl)) rfl)) rfl ?_
            obtain ⟨y74, hx75, hF⟩ := obind hF
            refine RL.gcall rfl rfl Try.func44 bd44 rfl rfl (c_ref06_kind _ cv1.f_Proto _ hx75) fun v w76 hv => ?_
            obtain ⟨rfl, hN77⟩ := hv
            replace hM := hM.call0 hN77
            refine RL.gval rfl rfl (O.not rfl) rfl ?_
            refine RL.val (O.pickf rfl rfl) rfl ?_
            refine RL.val (O.assign rfl) rfl ?_
            refine RL.nil ?_
            refine KQ.then_k ?_
            replace hM := hM.pick [] rfl (by decide)
            exact fun a ha => ⟨(!y74), ha.less (less_cons rfl less_nil), hM, hF⟩
        · rintro a w79 ⟨t78, ha, hM, hF⟩
          refine KC.app ha ?_
          clear ha
          unfold F_ref06_Right_j2 at hF
          refine KC.ret ?_
          obtain rfl := Option.some.inj hF
          refine KQ.rets Try.results17 (RVs.cons (RV.tm rfl) RVs.nil) ?_
          exact ⟨_, rfl, rfl, hM⟩
set_option maxRecDepth 100000 in
set_option maxHeartbeats 40000000 in
theorem c_ref06_PutChain (w : World) (cv1 : T_ref06_Chain) (A2 : Option Addr) (c3 : Nat) (hr4 : Rd w A2 c3 2 cv1.f_Exts.length (cv1.f_Exts.flatMap e_ref06_Ext)) (r : (List Int) × Int × Int) (hF : F_ref06_PutChain cv1 = some r) :
    CallsR Try.prog 12 [.agg #[.slice A2 (cv1.f_Exts).length c3, .int .u8 cv1.f_Proto]] w (fun v w' => ∃ (A0 : Option Addr) (c0 : Nat), v = .tuple #[.slice A0 (r.1).length c0, .int .u8 r.2.1, .int .i64 r.2.2] ∧ Mem w [] w' [.row A0 c0 5 1 r.1.length (r.1.flatMap (eI .u8))]) := by
  refine calls_KC Try.func12 rfl Try.ntmps12 rfl ?_
  have hM := Mem.init w
  unfold F_ref06_PutChain at hF
  refine KC.seq ?_
  refine KC.region ?_
  refine RL.eff (E.box (vs := [.slice A2 (cv1.f_Exts).length c3, .int .u8 cv1.f_Proto]) hM rfl rfl) rfl fun v w6 hv => ?_
  clear hM
  obtain ⟨g5, rfl, hM, hf⟩ := hv
  refine RL.val (O.assign rfl) rfl ?_
  refine RL.val (O.assign rfl) rfl ?_
  refine RL.val (O.assign rfl) rfl ?_
  refine RL.nil ?_
  refine KQ.then_n ?_
  refine KC.seq ?_
  refine KC.seq ?_
  refine KC.region ?_
  refine RL.val (O.loadN (cs := [.slice A2 (cv1.f_Exts).length c3, .int .u8 cv1.f_Proto]) ag29 rfl (Cs.addsN [] ((hM.bx (i := 0) rfl)) rfl)) rfl ?_
  obtain ⟨y8, hx9, hF⟩ := obind hF
  refine RL.call Try.func17 bd17 rfl rfl (c_ref06_Right _ cv1 _ _ (hM.inp hr4 Off.nil) _ hx9) fun v w10 hv => ?_
  obtain ⟨rfl, hN11⟩ := hv
  replace hM := hM.call0 hN11
  refine RL.val (O.not rfl) rfl ?_
  refine RL.nil ?_
  refine KQ.then_n ?_
  refine KC.cond rfl (fun hc => ?_) (fun hc => ?_)
  · rw [if_pos hc] at hF
    refine KC.seq ?_
    refine KC.region ?_
    refine RL.val (O.assign rfl) rfl ?_
    refine RL.val (O.assign rfl) rfl ?_
    refine RL.val (O.assign rfl) rfl ?_
    refine RL.nil ?_
    refine KQ.then_n ?_
    refine KC.ret ?_
    refine KQ.then_r ?_
    obtain rfl := Option.some.inj hF
    replace hM := hM.nilrow 5 1
    replace hM := hM.pick [1] rfl (by decide)
    refine KQ.rets Try.results12 (RVs.cons (RV.tm rfl) (RVs.cons (RV.tm rfl) (RVs.cons (RV.tm rfl) RVs.nil))) ?_
    exact ⟨_, rfl, none, 0, rfl, hM⟩
  · rw [if_neg (ne_true hc)] at hF
    refine KC.skip ?_
    refine KQ.then_n ?_
    refine KC.seq ?_
    refine KC.region ?_
    refine RL.val (O.assign rfl) rfl ?_
    refine RL.nil ?_
    refine KQ.then_n ?_
    refine KC.seq ?_
    refine KC.region ?_
    refine RL.val (O.fldA fl29_1 (by decide) rfl) rfl ?_
    refine RL.val (O.load sc5 rfl (Cs.adds [1] ((hM.bx (i := 0) rfl)) rfl)) rfl ?_
    refine RL.val (O.assign rfl) rfl ?_
    refine RL.nil ?_
    refine KQ.then_n ?_
    refine KC.seq ?_
    refine KC.seq ?_
    refine KC.region ?_
    refine RL.val (O.fldA fl29_0 (by decide) rfl) rfl ?_
    refine RL.val (O.load sc27 rfl (Cs.adds [0] ((hM.bx (i := 0) rfl)) rfl)) rfl ?_
    refine RL.val (O.len sl27 rfl) rfl ?_
    refine RL.val (O.sub rfl rfl) rfl ?_
    refine RL.val (O.assign rfl) rfl ?_
    refine RL.nil ?_
    refine KQ.then_n ?_
    refine KC.block ?_
    refine KC.loop (fun k80 a w78 => ∃ (A73 : Option Addr) (c74 : Nat) (out75 : List Int) (first76 : Int) (i77 : Int), Kn 49 [(1, .pointer (some ⟨g5, 0, none⟩)), (5, .slice A73 (out75).length c74), (6, .int .u8 first76), (7, .int .i64 i77)] a ∧ Mem w [] w78 [.box g5 29 [.slice A2 (cv1.f_Exts).length c3, .int .u8 cv1.f_Proto], .row A73 c74 5 1 (out75).length ((out75).flatMap (eI .u8))] ∧ F_ref06_PutChain_L1 cv1 k80 out75 first76 i77 = some r) ?_ ?_
    · replace hM := hM.nilrow 5 1
      exact fun a ha => ⟨fuel0, none, 0, ([]), cv1.f_Proto, (IntKind.i64.wrap ((cv1.f_Exts.length : Int) - 1)), ha.less (less_cons rfl (less_cons rfl (less_cons rfl (less_cons rfl less_nil)))), hM, hF⟩
    · rintro k80 a w78 ⟨A73, c74, out75, first76, i77, ha, hM, hF⟩
      refine KC.app ha ?_
      clear ha
      cases k80 with
      | zero => exact (none_some hF).elim
      | succ k80 =>
      have hF : F_ref06_PutChain_l1 (F_ref06_PutChain_L1 cv1 k80) cv1 out75 first76 i77 = some r := hF
      unfold F_ref06_PutChain_l1 at hF
      refine KC.seq ?_
      refine KC.seq ?_
      refine KC.region ?_
      refine RL.val (O.move rfl) rfl ?_
      refine RL.val (O.geq rfl rfl) rfl ?_
      refine RL.nil ?_
      refine KQ.then_n ?_
      refine KC.cond rfl (fun hc => ?_) (fun hc => ?_)
      · rw [if_pos hc] at hF
        refine KC.skip ?_
        refine KQ.then_n ?_
        refine KC.seq ?_
        refine KC.block ?_
        refine KC.seq ?_
        refine KC.region ?_
        refine RL.val (O.fldA fl29_0 (by decide) rfl) rfl ?_
        refine RL.val (O.load sc27 rfl (Cs.adds [0] ((hM.bx (i := 0) rfl)) rfl)) rfl ?_
        refine RL.val (O.move rfl) rfl ?_
        obtain ⟨xv83, hx82, hF⟩ := obind hF
        have hA81 := Rd.atN (f := e_ref06_Ext) (s := 2) (fun _ => rfl) (by decide) (hM.inp hr4 Off.nil) hx82
        refine RL.val (O.idxA sl27 (hA81) rfl rfl) rfl ?_
        refine RL.val (O.loadN (cs := [.int .u8 xv83.f_Kind, .string xv83.f_Data]) ag76 rfl (hA81).cells) rfl ?_
        refine RL.eff (E.alloc hM ze76) rfl fun v w85 hv => ?_
        clear hM
        obtain ⟨g84, rfl, hM, hf⟩ := hv
        refine RL.effs (E.stB (j := 2) (off := 0) (vs := [.int .u8 xv83.f_Kind, .string xv83.f_Data]) (cs' := [.int .u8 xv83.f_Kind, .string xv83.f_Data]) hM rfl sz76 rfl (adds_eq [] rfl) rfl rfl (One.all rfl) rfl rfl) fun w87 hM1 => ?_
        clear hM
        have hM := hM1
        clear hM1
        refine RL.nil ?_
        refine KQ.then_n ?_
        refine KC.seq ?_
        refine KC.region ?_
        refine RL.val (O.move rfl) rfl ?_
        refine RL.val (O.fldA fl76_1 (by decide) rfl) rfl ?_
        refine RL.val (O.load sc9 rfl (Cs.adds [1] ((hM.bx (i := 2) rfl)) rfl)) rfl ?_
        refine RL.val (O.lens Try.underlying9 rfl) rfl ?_
        refine RL.val (O.add rfl rfl) rfl ?_
        refine RL.val (O.quo rfl rfl (by decide)) rfl ?_
        refine RL.val (O.sub rfl rfl) rfl ?_
        refine RL.val (O.conv un3 Try.underlying5 rfl) rfl ?_
        refine RL.eff (E.bsl (enc := (eI .u8)) (xs := [first76, (IntKind.u8.wrap (IntKind.i64.wrap ((IntKind.i64.wrap (Int.tdiv (IntKind.i64.wrap ((xv83.f_Data.size : Int) + 2)) 8)) - 1)))]) hM sl31 ze5 rfl rfl rfl (fun _ => rfl) rfl rfl rfl) rfl fun v w88 hv => ?_
        clear hM
        obtain ⟨A89, rfl, hM, hf⟩ := hv
        refine RL.val (O.assign rfl) rfl ?_
        refine RL.nil ?_
        refine KQ.then_n ?_
        refine KC.seq ?_
        refine KC.region ?_
        refine RL.val (O.move rfl) rfl ?_
        refine RL.val (O.fldA fl76_1 (by decide) rfl) rfl ?_
        refine RL.val (O.load sc9 rfl (Cs.adds [1] ((hM.bx (i := 2) rfl)) rfl)) rfl ?_
        obtain ⟨hq94, hF⟩ := cut_some hF
        refine RL.eff (E.s2b hM Try.underlying9 sl31 Try.underlying5 rfl (of_decide_eq_true hq94)) rfl fun v w93 hv => ?_
        clear hM
        obtain ⟨A91, c92, Z95, rfl, hM, hf⟩ := hv
        obtain ⟨hq100, hF⟩ := cut_some hF
        refine RL.eff (E.app (enc := (eI .u8)) (xs := [first76, (IntKind.u8.wrap (IntKind.i64.wrap ((IntKind.i64.wrap (Int.tdiv (IntKind.i64.wrap ((xv83.f_Data.size : Int) + 2)) 8)) - 1)))]) (ys := (numsOfStr xv83.f_Data)) (j := 3) hM rfl sl31 ze5 rfl rfl rfl rfl rfl (hM.rdP (i := 4) rfl) (fun _ => One.all rfl) (of_decide_eq_true hq100)) rfl fun v w99 hv => ?_
        clear hM
        obtain ⟨A97, c98, rfl, hM, hf⟩ := hv
        refine RL.val (O.assign rfl) rfl ?_
        refine RL.nil ?_
        refine KQ.then_n ?_
        refine KC.seq ?_
        refine KC.region ?_
        refine RL.val (O.move rfl) rfl ?_
        refine RL.val (O.move rfl) rfl ?_
        obtain ⟨hq105, hF⟩ := cut_some hF
        refine RL.eff (E.app (enc := (eI .u8)) (xs := ([first76, (IntKind.u8.wrap (IntKind.i64.wrap ((IntKind.i64.wrap (Int.tdiv (IntKind.i64.wrap ((xv83.f_Data.size : Int) + 2)) 8)) - 1)))] ++ (numsOfStr xv83.f_Data))) (ys := out75) (j := 3) hM rfl sl31 ze5 rfl rfl rfl rfl rfl (hM.rd (i := 1) rfl) (fun _ => One.all rfl) (of_decide_eq_true hq105)) rfl fun v w104 hv => ?_
        clear hM
        obtain ⟨A102, c103, rfl, hM, hf⟩ := hv
        refine RL.val (O.assign rfl) rfl ?_
        refine RL.nil ?_
        refine KQ.then_n ?_
        refine KC.region ?_
        refine RL.val (O.fldA fl76_0 (by decide) rfl) rfl ?_
        refine RL.val (O.load sc5 rfl (Cs.adds [0] ((hM.bx (i := 2) rfl)) rfl)) rfl ?_
        refine RL.val (O.assign rfl) rfl ?_
        refine RL.nil ?_
        refine KQ.blk_n ?_
        refine KQ.then_n ?_
        refine KC.region ?_
        refine RL.val (O.move rfl) rfl ?_
        refine RL.val (O.sub rfl rfl) rfl ?_
        refine RL.val (O.assign rfl) rfl ?_
        refine RL.nil ?_
        refine KQ.then_k ?_
        replace hM := hM.pick [0, 3] rfl (by decide)
        exact fun a ha => ⟨k80, Nat.lt_succ_self k80, A102, c103, (([first76, (IntKind.u8.wrap (IntKind.i64.wrap ((IntKind.i64.wrap (Int.tdiv (IntKind.i64.wrap ((xv83.f_Data.size : Int) + 2)) 8)) - 1)))] ++ (numsOfStr xv83.f_Data)) ++ out75), xv83.f_Kind, (IntKind.i64.wrap (i77 - 1)), ha.less (less_cons rfl (less_cons rfl (less_cons rfl (less_cons rfl less_nil)))), hM, hF⟩
      · rw [if_neg (ne_true hc)] at hF
        refine KC.exit ?_
        refine KQ.then_x ?_
        refine KQ.then_x ?_
        refine KQ.blk_x ?_
        refine KQ.then_n ?_
        refine KC.seq ?_
        refine KC.region ?_
        refine RL.val (O.move rfl) rfl ?_
        refine RL.val (O.move rfl) rfl ?_
        refine RL.val (O.assign rfl) rfl ?_
        refine RL.val (O.assign rfl) rfl ?_
        refine RL.val (O.assign rfl) rfl ?_
        refine RL.nil ?_
        refine KQ.then_n ?_
        refine KC.ret ?_
        obtain rfl := Option.some.inj hF
        replace hM := hM.pick [1] rfl (by decide)
        refine KQ.rets Try.results12 (RVs.cons (RV.tm rfl) (RVs.cons (RV.tm rfl) (RVs.cons (RV.tm rfl) RVs.nil))) ?_
        exact ⟨_, rfl, A73, c74, rfl, hM⟩
set_option maxRecDepth 100000 in
set_option maxHeartbeats 40000000 in
theorem c_ref06_Frag (w : World) (cv1 : T_ref06_Chain) (A2 : Option Addr) (c3 : Nat) (hr4 : Rd w A2 c3 2 cv1.f_Exts.length (cv1.f_Exts.flatMap e_ref06_Ext)) (r : Int × Bool × Int × Bool) (hF : F_ref06_Frag cv1 = some r) :
    CallsR Try.prog 14 [.agg #[.slice A2 (cv1.f_Exts).length c3, .int .u8 cv1.f_Proto]] w (fun v w' => v = .tuple #[.int .u16 r.1, .bool r.2.1, .int .u32 r.2.2.1, .bool r.2.2.2] ∧ Mem w [] w' []) := by
  refine calls_KC Try.func14 rfl Try.ntmps14 rfl ?_
  have hM := Mem.init w
  unfold F_ref06_Frag at hF
  refine KC.seq ?_
  refine KC.region ?_
  refine RL.eff (E.box (vs := [.slice A2 (cv1.f_Exts).length c3, .int .u8 cv1.f_Proto]) hM rfl rfl) rfl fun v w6 hv => ?_
  clear hM
  obtain ⟨g5, rfl, hM, hf⟩ := hv
  refine RL.val (O.assign rfl) rfl ?_
  refine RL.val (O.assign rfl) rfl ?_
  refine RL.val (O.assign rfl) rfl ?_
  refine RL.val (O.assign rfl) rfl ?_
  refine RL.nil ?_
  refine KQ.then_n ?_
  refine KC.seq ?_
  refine KC.seq ?_
  refine KC.region ?_
  refine RL.val (O.assign rfl) rfl ?_
  refine RL.nil ?_
  refine KQ.then_n ?_
  refine KC.block ?_
  refine KC.loop (fun k68 a w66 => ∃ (i65 : Int), Kn 55 [(1, .pointer (some ⟨g5, 0, none⟩)), (6, .int .i64 i65)] a ∧ Mem w [] w66 [.box g5 29 [.slice A2 (cv1.f_Exts).length c3, .int .u8 cv1.f_Proto]] ∧ F_ref06_Frag_L1 cv1 k68 i65 = some r) ?_ ?_
  · exact fun a ha => ⟨fuel0, 0, ha.less (less_cons rfl (less_cons rfl less_nil)), hM, hF⟩
  · rintro k68 a w66 ⟨i65, ha, hM, hF⟩
    refine KC.app ha ?_
    clear ha
    cases k68 with
    | zero => exact (none_some hF).elim
    | succ k68 =>
    have hF : F_ref06_Frag_l1 (F_ref06_Frag_L1 cv1 k68) cv1 i65 = some r := hF
    unfold F_ref06_Frag_l1 at hF
    refine KC.seq ?_
    refine KC.cut (fun a w75 => ∃ (t74 : Bool), Kn 55 [(1, .pointer (some ⟨g5, 0, none⟩)), (6, .int .i64 i65), (20, .bool t74)] a ∧ Mem w [] w75 [.box g5 29 [.slice A2 (cv1.f_Exts).length c3, .int .u8 cv1.f_Proto]] ∧ F_ref06_Frag_j1 cv1 i65 (F_ref06_Frag_L1 cv1 k68) t74 = some r) ?_ ?_
    · refine KC.region ?_
      refine RL.val (O.move rfl) rfl ?_
      refine RL.val (O.fldA fl29_0 (by decide) rfl) rfl ?_
      refine RL.val (O.load sc27 rfl (Cs.adds [0] ((hM.bx (i := 0) rfl)) rfl)) rfl ?_
      refine RL.val (O.len sl27 rfl) rfl ?_
      refine RL.val (O.lss rfl rfl) rfl ?_
      refine RL.val (O.move rfl) rfl ?_
      refine RL.bcase (t := 17) rfl (fun hc => ?_) (fun hc => ?_)
      · rw [if_pos hc] at hF
        refine RL.gval rfl rfl (O.loadN (cs := [.slice A2 (cv1.f_Exts).length c3, .int .u8 cv1.f_Proto]) ag29 rfl (Cs.addsN [] ((hM.bx (i := 0) rfl)) rfl)) rfl ?_
        obtain ⟨y69, hx70, hF⟩ := obind hF
        refine RL.gcall rfl rfl Try.func17 bd17 rfl rfl (c_ref06_Right _ cv1 _ _ (hM.inp hr4 Off.nil) _ hx70) fun v w71 hv => ?_
        obtain ⟨rfl, hN72⟩ := hv
        replace hM := hM.call0 hN72
        refine RL.val (O.pickt rfl rfl) rfl ?_
        refine RL.nil ?_
        refine KQ.then_k ?_
        exact fun a ha => ⟨y69, ha.less (less_cons rfl (less_cons rfl (less_cons rfl less_nil))), hM, hF⟩
      · rw [if_neg (ne_true hc)] at hF
        refine RL.gskip rfl rfl rfl rfl ?_
        refine RL.gskip rfl rfl rfl rfl ?_
        refine RL.val (O.pickf rfl rfl) rfl ?_
        refine RL.nil ?_
        refine KQ.then_k ?_
        exact fun a ha => ⟨false, ha.less (less_cons rfl (less_cons rfl (less_cons rfl less_nil))), hM, hF⟩
    · rintro a w75 ⟨t74, ha, hM, hF⟩
      refine KC.app ha ?_
      clear ha
      unfold F_ref06_Frag_j1 at hF
      refine KC.cond rfl (fun hc => ?_) (fun hc => ?_)
      · rw [if_pos hc] at hF
        refine KC.skip ?_
        refine KQ.then_n ?_
        refine KC.seq ?_
        refine KC.block ?_
        refine KC.seq ?_
        refine KC.region ?_
        refine RL.val (O.fldA fl29_0 (by decide) rfl) rfl ?_
        refine RL.val (O.load sc27 rfl (Cs.adds [0] ((hM.bx (i := 0) rfl)) rfl)) rfl ?_
        refine RL.val (O.move rfl) rfl ?_
        obtain ⟨xv78, hx77, hF⟩ := obind hF
        have hA76 := Rd.atN (f := e_ref06_Ext) (s := 2) (fun _ => rfl) (by decide) (hM.inp hr4 Off.nil) hx77
        refine RL.val (O.idxA sl27 (hA76) rfl rfl) rfl ?_
        refine RL.val (O.fldA fl76_0 (by decide) rfl) rfl ?_
        refine RL.val (O.load sc5 rfl (Cs.adds [0] (hA76).cells rfl)) rfl ?_
        refine RL.val (O.eql rfl rfl) rfl ?_
        refine RL.nil ?_
        refine KQ.then_n ?_
        refine KC.cond rfl (fun hc => ?_) (fun hc => ?_)
        · rw [if_pos hc] at hF
          refine KC.seq ?_
          refine KC.region ?_
          refine RL.val (O.fldA fl29_0 (by decide) rfl) rfl ?_
          refine RL.val (O.load sc27 rfl (Cs.adds [0] ((hM.bx (i := 0) rfl)) rfl)) rfl ?_
          refine RL.val (O.move rfl) rfl ?_
          obtain ⟨xv81, hx80, hF⟩ := obind hF
          have hA79 := Rd.atN (f := e_ref06_Ext) (s := 2) (fun _ => rfl) (by decide) (hM.inp hr4 Off.nil) hx80
          refine RL.val (O.idxA sl27 (hA79) rfl rfl) rfl ?_
          refine RL.val (O.fldA fl76_1 (by decide) rfl) rfl ?_
          refine RL.val (O.load sc9 rfl (Cs.adds [1] (hA79).cells rfl)) rfl ?_
          obtain ⟨hq85, hF⟩ := cut_some hF
          refine RL.eff (E.s2b hM Try.underlying9 sl31 Try.underlying5 rfl (of_decide_eq_true hq85)) rfl fun v w84 hv => ?_
          clear hM
          obtain ⟨A82, c83, Z86, rfl, hM, hf⟩ := hv
          refine RL.val (O.assign rfl) rfl ?_
          refine RL.nil ?_
          refine KQ.then_n ?_
          refine KC.seq ?_
          refine KC.region ?_
          refine RL.val (O.move rfl) rfl ?_
          obtain ⟨y88, hx89, hF⟩ := obind hF
          refine RL.call Try.func36 bd36 rfl rfl (c_ref01_Get _ _ _ (numsOfStr xv81.f_Data) (hM.rdP (i := 1) rfl) 0 2 _ hx89) fun v w90 hv => ?_
          obtain ⟨rfl, hN91⟩ := hv
          replace hM := hM.call0 hN91
          refine RL.val (O.move rfl) rfl ?_
          refine RL.val (O.ext rfl rfl) rfl ?_
          refine RL.val (O.ext rfl rfl) rfl ?_
          refine RL.val (O.assign rfl) rfl ?_
          refine RL.val (O.assign rfl) rfl ?_
          refine RL.nil ?_
          refine KQ.then_n ?_
          refine KC.seq ?_
          refine KC.region ?_
          refine RL.val (O.move rfl) rfl ?_
          obtain ⟨y92, hx93, hF⟩ := obind hF
          refine RL.call Try.func36 bd36 rfl rfl (c_ref01_Get _ _ _ (numsOfStr xv81.f_Data) (hM.rdP (i := 1) rfl) 2 4 _ hx93) fun v w94 hv => ?_
          obtain ⟨rfl, hN95⟩ := hv
          replace hM := hM.call0 hN95
          refine RL.val (O.move rfl) rfl ?_
          refine RL.val (O.ext rfl rfl) rfl ?_
          refine RL.val (O.ext rfl rfl) rfl ?_
          refine RL.val (O.assign rfl) rfl ?_
          refine RL.val (O.assign rfl) rfl ?_
          refine RL.nil ?_
          refine KQ.then_n ?_
          refine KC.seq ?_
          refine KC.region ?_
          refine RL.val (O.move rfl) rfl ?_
          refine RL.val (O.quo rfl rfl (by decide)) rfl ?_
          refine RL.val (O.conv un81 Try.underlying36 rfl) rfl ?_
          refine RL.val (O.move rfl) rfl ?_
          refine RL.val (O.rem rfl rfl (by decide)) rfl ?_
          refine RL.val (O.eql rfl rfl) rfl ?_
          refine RL.val (O.move rfl) rfl ?_
          refine RL.val (O.conv un81 Try.underlying37 rfl) rfl ?_
          refine RL.val (O.assign rfl) rfl ?_
          refine RL.val (O.assign rfl) rfl ?_
          refine RL.val (O.assign rfl) rfl ?_
          refine RL.val (O.assign rfl) rfl ?_
          refine RL.nil ?_
          refine KQ.then_n ?_
          refine KC.ret ?_
          refine KQ.blk_r ?_
          refine KQ.then_r ?_
          refine KQ.then_r ?_
          refine KQ.blk_r ?_
          refine KQ.then_r ?_
          obtain rfl := Option.some.inj hF
          replace hM := hM.pick [] rfl (by decide)
          refine KQ.rets Try.results14 (RVs.cons (RV.tm rfl) (RVs.cons (RV.tm rfl) (RVs.cons (RV.tm rfl) (RVs.cons (RV.tm rfl) RVs.nil)))) ?_
          exact ⟨_, rfl, rfl, hM⟩
        · rw [if_neg (ne_true hc)] at hF
          refine KC.skip ?_
          refine KQ.blk_n ?_
          refine KQ.then_n ?_
          refine KC.region ?_
          refine RL.val (O.move rfl) rfl ?_
          refine RL.val (O.add rfl rfl) rfl ?_
          refine RL.val (O.assign rfl) rfl ?_
          refine RL.nil ?_
          refine KQ.then_k ?_
          exact fun a ha => ⟨k68, Nat.lt_succ_self k68, (IntKind.i64.wrap (i65 + 1)), ha.less (less_cons rfl (less_cons rfl less_nil)), hM, hF⟩
      · rw [if_neg (ne_true hc)] at hF
        refine KC.exit ?_
        refine KQ.then_x ?_
        refine KQ.then_x ?_
        refine KQ.blk_x ?_
        refine KQ.then_n ?_
        refine KC.seq ?_
        refine KC.region ?_
        refine RL.val (O.assign rfl) rfl ?_
        refine RL.val (O.assign rfl) rfl ?_
        refine RL.val (O.assign rfl) rfl ?_
        refine RL.val (O.assign rfl) rfl ?_
        refine RL.nil ?_
        refine KQ.then_n ?_
        refine KC.ret ?_
        obtain rfl := Option.some.inj hF
        replace hM := hM.pick [] rfl (by decide)
        refine KQ.rets Try.results14 (RVs.cons (RV.tm rfl) (RVs.cons (RV.tm rfl) (RVs.cons (RV.tm rfl) (RVs.cons (RV.tm rfl) RVs.nil)))) ?_
        exact ⟨_, rfl, rfl, hM⟩
end Go.Proofs.Ytikjomacnbemhaa
