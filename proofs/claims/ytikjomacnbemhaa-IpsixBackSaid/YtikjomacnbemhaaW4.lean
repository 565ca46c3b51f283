/- Printed by a program of this claim: each call returns what the plain function of its name gives. -/
import Derived.Test.YtikjomacnbemhaaW3
set_option linter.unusedVariables false
namespace Go.Proofs.Ytikjomacnbemhaa
open Go Go.Ox Go.RowKit
set_option maxRecDepth 100000 in
set_option maxHeartbeats 40000000 in
theorem c_kit_SameBytes (w : World) (A2 : Option Addr) (c3 : Nat) (av1 : List Int) (hr4 : Rd w A2 c3 1 av1.length (av1.flatMap (eI .u8))) (A6 : Option Addr) (c7 : Nat) (b5 : List Int) (hr8 : Rd w A6 c7 1 b5.length (b5.flatMap (eI .u8))) (r : Bool) (hF : F_kit_SameBytes av1 b5 = some r) :
    CallsR Try.prog 15 [.slice A2 (av1).length c3, .slice A6 (b5).length c7] w (fun v w' => v = .bool r ∧ Mem w [] w' []) := by
  refine calls_KC Try.func15 rfl Try.ntmps15 rfl ?_
  have hM := Mem.init w
  unfold F_kit_SameBytes at hF
  refine KC.seq ?_
  refine KC.region ?_
  refine RL.val (O.assign rfl) rfl ?_
  refine RL.nil ?_
  refine KQ.then_n ?_
  refine KC.seq ?_
  refine KC.seq ?_
  refine KC.region ?_
  refine RL.val (O.move rfl) rfl ?_
  refine RL.val (O.len sl31 rfl) rfl ?_
  refine RL.val (O.move rfl) rfl ?_
  refine RL.val (O.len sl31 rfl) rfl ?_
  refine RL.val (O.neq rfl rfl) rfl ?_
  refine RL.nil ?_
  refine KQ.then_n ?_
  refine KC.cond rfl (fun hc => ?_) (fun hc => ?_)
  · rw [if_pos hc] at hF
    refine KC.seq ?_
    refine KC.region ?_
    refine RL.val (O.assign rfl) rfl ?_
    refine RL.nil ?_
    refine KQ.then_n ?_
    refine KC.ret ?_
    refine KQ.then_r ?_
    obtain rfl := Option.some.inj hF
    refine KQ.rets Try.results15 (RVs.cons (RV.tm rfl) RVs.nil) ?_
    exact ⟨_, rfl, rfl, hM⟩
  · rw [if_neg (ne_true hc)] at hF
    refine KC.skip ?_
    refine KQ.then_n ?_
    refine KC.seq ?_
    refine KC.seq ?_
    refine KC.region ?_
    refine RL.val (O.assign rfl) rfl ?_
    refine RL.nil ?_
    refine KQ.then_n ?_
    refine KC.block ?_
    refine KC.loop (fun k25 a w23 => ∃ (i22 : Int), Kn 26 [(0, .slice A2 (av1).length c3), (1, .slice A6 (b5).length c7), (5, .int .i64 i22)] a ∧ Mem w [] w23 [] ∧ F_kit_SameBytes_L1 av1 b5 k25 i22 = some r) ?_ ?_
    · exact fun a ha => ⟨fuel0, 0, ha.less (less_cons rfl (less_cons rfl (less_cons rfl less_nil))), hM, hF⟩
    · rintro k25 a w23 ⟨i22, ha, hM, hF⟩
      refine KC.app ha ?_
      clear ha
      cases k25 with
      | zero => exact (none_some hF).elim
      | succ k25 =>
      have hF : F_kit_SameBytes_l1 (F_kit_SameBytes_L1 av1 b5 k25) av1 b5 i22 = some r := hF
      unfold F_kit_SameBytes_l1 at hF
      refine KC.seq ?_
      refine KC.seq ?_
      refine KC.region ?_
      refine RL.val (O.move rfl) rfl ?_
      refine RL.val (O.move rfl) rfl ?_
      refine RL.val (O.len sl31 rfl) rfl ?_
      refine RL.val (O.lss rfl rfl) rfl ?_
      refine RL.nil ?_
      refine KQ.then_n ?_
      refine KC.cond rfl (fun hc => ?_) (fun hc => ?_)
      · rw [if_pos hc] at hF
        refine KC.skip ?_
        refine KQ.then_n ?_
        refine KC.seq ?_
        refine KC.block ?_
        refine KC.seq ?_
        replace hM := hM.drewN 1
        refine KC.draw [] [] [] [0, 1, 4, 5, 8] (.ofList [0, 1, 2, 3, 4, 5, 6, 7, 8]) moP (by kernel_rfl) ?_
        refine RD.p rfl rfl rfl rfl (fun w' => O.move rfl) ?_
        refine RD.p rfl rfl rfl rfl (fun w' => O.move rfl) ?_
        obtain ⟨xv28, hx27, hF⟩ := obind hF
        have hA26 := Rd.atN (f := (eI .u8)) (s := 1) (fun _ => rfl) (by decide) (hM.inp hr4 Off.nil) hx27
        refine RD.q rfl rfl rfl rfl (fun w' hf => O.idxA sl31 (hA26.fut hf) rfl rfl) ?_
        refine RD.q rfl rfl rfl rfl (fun w' hf => O.load sc5 rfl (hA26.fut hf).cells.at0) ?_
        refine RD.p rfl rfl rfl rfl (fun w' => O.move rfl) ?_
        refine RD.p rfl rfl rfl rfl (fun w' => O.move rfl) ?_
        obtain ⟨xv31, hx30, hF⟩ := obind hF
        have hA29 := Rd.atN (f := (eI .u8)) (s := 1) (fun _ => rfl) (by decide) (hM.inp hr8 Off.nil) hx30
        refine RD.q rfl rfl rfl rfl (fun w' hf => O.idxA sl31 (hA29.fut hf) rfl rfl) ?_
        refine RD.q rfl rfl rfl rfl (fun w' hf => O.load sc5 rfl (hA29.fut hf).cells.at0) ?_
        refine RD.p rfl rfl rfl rfl (fun w' => O.neq rfl rfl) ?_
        refine RD.nil ?_
        refine KQ.then_n ?_
        refine KC.cond rfl (fun hc => ?_) (fun hc => ?_)
        · rw [if_pos hc] at hF
          refine KC.seq ?_
          refine KC.region ?_
          refine RL.val (O.assign rfl) rfl ?_
          refine RL.nil ?_
          refine KQ.then_n ?_
          refine KC.ret ?_
          refine KQ.blk_r ?_
          refine KQ.then_r ?_
          refine KQ.then_r ?_
          refine KQ.blk_r ?_
          refine KQ.then_r ?_
          obtain rfl := Option.some.inj hF
          refine KQ.rets Try.results15 (RVs.cons (RV.tm rfl) RVs.nil) ?_
          exact ⟨_, rfl, rfl, hM⟩
        · rw [if_neg (ne_true hc)] at hF
          refine KC.skip ?_
          refine KQ.blk_n ?_
          refine KQ.then_n ?_
          refine KC.region ?_
          refine RL.val (O.move rfl) rfl ?_
          refine RL.val (O.add rfl rfl) rfl ?_
          refine RL.val (O.assign rfl) rfl ?_
          refine RL.nil ?_
          refine KQ.then_k ?_
          exact fun a ha => ⟨k25, Nat.lt_succ_self k25, (IntKind.i64.wrap (i22 + 1)), ha.less (less_cons rfl (less_cons rfl (less_cons rfl less_nil))), hM, hF⟩
      · rw [if_neg (ne_true hc)] at hF
        refine KC.exit ?_
        refine KQ.then_x ?_
        refine KQ.then_x ?_
        refine KQ.blk_x ?_
        refine KQ.then_n ?_
        refine KC.seq ?_
        refine KC.region ?_
        refine RL.val (O.assign rfl) rfl ?_
        refine RL.nil ?_
        refine KQ.then_n ?_
        refine KC.ret ?_
        obtain rfl := Option.some.inj hF
        refine KQ.rets Try.results15 (RVs.cons (RV.tm rfl) RVs.nil) ?_
        exact ⟨_, rfl, rfl, hM⟩
set_option maxRecDepth 100000 in
set_option maxHeartbeats 40000000 in
theorem c_law06_works (w : World) (r : Bool) (hF : F_law06_works = some r) :
    CallsR Try.prog 9 [] w (fun v w' => v = .bool r ∧ Mem w [] w' []) := by
  refine calls_KC Try.func9 rfl Try.ntmps9 rfl ?_
  have hM := Mem.init w
  unfold F_law06_works at hF
  refine KC.seq ?_
  refine KC.region ?_
  refine RL.val (O.assign rfl) rfl ?_
  refine RL.nil ?_
  refine KQ.then_n ?_
  refine KC.seq ?_
  refine KC.region ?_
  obtain ⟨hq3, hF⟩ := cut_some hF
  refine RL.eff (E.mks (enc := (eI .u8)) (zr := 0) hM sl31 ze5 rfl rfl (fun _ => rfl) rfl rfl rfl (of_decide_eq_true hq3)) rfl fun v w2 hv => ?_
  clear hM
  obtain ⟨A1, rfl, hM, hf⟩ := hv
  refine RL.val (O.bld (cs := [.int .u8 60, .slice A1 ((List.replicate (Int.toNat 6) 0)).length (Int.toNat 6)]) bt63 rfl (by kernel_rfl)) rfl ?_
  refine RL.eff (E.bslD (css := [[.int .u8 60, .slice A1 ((List.replicate (Int.toNat 6) 0)).length (Int.toNat 6)]]) hM sl22 ze63 rfl rfl rfl rfl rfl rfl rfl) rfl fun v w5 hv => ?_
  clear hM
  obtain ⟨A6, rfl, hM, hf⟩ := hv
  obtain ⟨Z7, hM⟩ := hM.glue [0] [1] rfl rfl (by decide) rfl (Els R_ipsix_Ext 2 [(T_ipsix_Ext.mk 60 (List.replicate (Int.toNat 6) 0))] [[.int .u8 60, .slice A1 ((List.replicate (Int.toNat 6) 0)).length (Int.toNat 6)]]) (fun Z w1 ho hz => (Els.cons rfl (fun S hS => ⟨A1, (Int.toNat 6), rfl, Ob.rd (ho 0 _ rfl), Off.ofZ (ho 0 _ rfl) (fun g => hz 0 _ g rfl) hS⟩) Els.nil))
  refine RL.val (O.bld (cs := [.slice A6 ([(T_ipsix_Ext.mk 60 (List.replicate (Int.toNat 6) 0))]).length 1, .int .u8 6]) bt24 rfl (by kernel_rfl)) rfl ?_
  obtain ⟨y10, hx11, hF⟩ := obind hF
  refine RL.call Try.func11 bd11 rfl rfl (c_ipsix_PutChain _ (T_ipsix_Chain.mk ([(T_ipsix_Ext.mk 60 (List.replicate (Int.toNat 6) 0))]) 6) _ _ (hM.rdD (i := 0) (j := 1) rfl rfl) _ hx11) fun v w12 hv => ?_
  obtain ⟨A14, c15, rfl, hN13⟩ := hv
  replace hM := hM.call hN13
  refine RL.val (O.move rfl) rfl ?_
  refine RL.val (O.ext rfl rfl) rfl ?_
  refine RL.val (O.ext rfl rfl) rfl ?_
  refine RL.val (O.ext rfl rfl) rfl ?_
  refine RL.val (O.assign rfl) rfl ?_
  refine RL.val (O.assign rfl) rfl ?_
  refine RL.val (O.assign rfl) rfl ?_
  refine RL.nil ?_
  refine KQ.then_n ?_
  refine KC.seq ?_
  refine KC.region ?_
  refine RL.eff (E.bsl (enc := (eI .u8)) (xs := [17, 0, 0, 9, 0, 0, 0, 5]) hM sl31 ze5 rfl rfl rfl (fun _ => rfl) rfl rfl rfl) rfl fun v w17 hv => ?_
  clear hM
  obtain ⟨A18, rfl, hM, hf⟩ := hv
  obtain ⟨y20, hx21, hF⟩ := obind hF
  refine RL.call Try.func21 bd21 rfl rfl (c_ipsix_ParseChain _ 44 _ _ ([17, 0, 0, 9, 0, 0, 0, 5]) (hM.rd (i := 3) rfl) _ hx21) fun v w22 hv => ?_
  obtain ⟨A24, c25, css27, Z28, rfl, hN23⟩ := hv
  replace hM := hM.call hN23
  refine RL.val (O.move rfl) rfl ?_
  refine RL.val (O.ext rfl rfl) rfl ?_
  refine RL.val (O.ext rfl rfl) rfl ?_
  refine RL.val (O.ext rfl rfl) rfl ?_
  refine RL.eff (E.alloc hM ze24) rfl fun v w31 hv => ?_
  clear hM
  obtain ⟨g30, rfl, hM, hf⟩ := hv
  refine RL.effs (E.stB (j := 6) (off := 0) (vs := [.slice A24 (y20.1.f_Exts).length c25, .int .u8 y20.1.f_Proto]) (cs' := [.slice A24 (y20.1.f_Exts).length c25, .int .u8 y20.1.f_Proto]) hM rfl sz24 rfl (adds_eq [] rfl) rfl rfl (One.all rfl) rfl rfl) fun w33 hM1 => ?_
  clear hM
  have hM := hM1
  clear hM1
  refine RL.val (O.assign rfl) rfl ?_
  refine RL.val (O.assign rfl) rfl ?_
  refine RL.nil ?_
  refine KQ.then_n ?_
  refine KC.seq ?_
  refine KC.region ?_
  refine RL.val (O.loadN (cs := [.slice A24 (y20.1.f_Exts).length c25, .int .u8 y20.1.f_Proto]) ag24 rfl (Cs.addsN [] ((hM.bx (i := 6) rfl)) rfl)) rfl ?_
  obtain ⟨y34, hx35, hF⟩ := obind hF
  refine RL.call Try.func13 bd13 rfl rfl (c_ipsix_Frag _ y20.1 _ _ (hM.rdD (i := 4) (j := 5) rfl rfl) _ hx35) fun v w36 hv => ?_
  obtain ⟨rfl, hN37⟩ := hv
  replace hM := hM.call0 hN37
  refine RL.val (O.move rfl) rfl ?_
  refine RL.val (O.ext rfl rfl) rfl ?_
  refine RL.val (O.ext rfl rfl) rfl ?_
  refine RL.val (O.ext rfl rfl) rfl ?_
  refine RL.val (O.ext rfl rfl) rfl ?_
  refine RL.val (O.assign rfl) rfl ?_
  refine RL.val (O.assign rfl) rfl ?_
  refine RL.val (O.assign rfl) rfl ?_
  refine RL.val (O.assign rfl) rfl ?_
  refine RL.nil ?_
  refine KQ.then_n ?_
  refine KC.seq ?_
  refine KC.region ?_
  obtain ⟨y38, hx39, hF⟩ := obind hF
  refine RL.call Try.func21 bd21 rfl rfl (c_ipsix_ParseChain _ 6 none 0 [] Rd.nilr _ hx39) fun v w40 hv => ?_
  obtain ⟨A42, c43, css45, Z46, rfl, hN41⟩ := hv
  replace hM := hM.call hN41
  refine RL.val (O.move rfl) rfl ?_
  refine RL.val (O.ext rfl rfl) rfl ?_
  refine RL.val (O.ext rfl rfl) rfl ?_
  refine RL.val (O.ext rfl rfl) rfl ?_
  refine RL.eff (E.alloc hM ze24) rfl fun v w49 hv => ?_
  clear hM
  obtain ⟨g48, rfl, hM, hf⟩ := hv
  refine RL.effs (E.stB (j := 9) (off := 0) (vs := [.slice A42 (y38.1.f_Exts).length c43, .int .u8 y38.1.f_Proto]) (cs' := [.slice A42 (y38.1.f_Exts).length c43, .int .u8 y38.1.f_Proto]) hM rfl sz24 rfl (adds_eq [] rfl) rfl rfl (One.all rfl) rfl rfl) fun w51 hM1 => ?_
  clear hM
  have hM := hM1
  clear hM1
  refine RL.val (O.assign rfl) rfl ?_
  refine RL.val (O.assign rfl) rfl ?_
  refine RL.nil ?_
  refine KQ.then_n ?_
  refine KC.seq ?_
  refine KC.region ?_
  obtain ⟨hq54, hF⟩ := cut_some hF
  refine RL.eff (E.mks (enc := (eI .u8)) (zr := 0) hM sl31 ze5 rfl rfl (fun _ => rfl) rfl rfl rfl (of_decide_eq_true hq54)) rfl fun v w53 hv => ?_
  clear hM
  obtain ⟨A52, rfl, hM, hf⟩ := hv
  obtain ⟨y56, hx57, hF⟩ := obind hF
  refine RL.call Try.func21 bd21 rfl rfl (c_ipsix_ParseChain _ 60 _ _ (List.replicate (Int.toNat 8) 0) (hM.rd (i := 10) rfl) _ hx57) fun v w58 hv => ?_
  obtain ⟨A60, c61, css63, Z64, rfl, hN59⟩ := hv
  replace hM := hM.call hN59
  refine RL.val (O.move rfl) rfl ?_
  refine RL.val (O.ext rfl rfl) rfl ?_
  refine RL.val (O.ext rfl rfl) rfl ?_
  refine RL.val (O.ext rfl rfl) rfl ?_
  refine RL.eff (E.alloc hM ze24) rfl fun v w67 hv => ?_
  clear hM
  obtain ⟨g66, rfl, hM, hf⟩ := hv
  refine RL.effs (E.stB (j := 13) (off := 0) (vs := [.slice A60 (y56.1.f_Exts).length c61, .int .u8 y56.1.f_Proto]) (cs' := [.slice A60 (y56.1.f_Exts).length c61, .int .u8 y56.1.f_Proto]) hM rfl sz24 rfl (adds_eq [] rfl) rfl rfl (One.all rfl) rfl rfl) fun w69 hM1 => ?_
  clear hM
  have hM := hM1
  clear hM1
  refine RL.val (O.assign rfl) rfl ?_
  refine RL.val (O.assign rfl) rfl ?_
  refine RL.nil ?_
  refine KQ.then_n ?_
  refine KC.cut (fun a w78 => ∃ (t77 : Bool), Kn 106 [(0, .bool t77)] a ∧ Mem w [] w78 [] ∧ F_law06_works_j1 t77 = some r) ?_ ?_
  · refine KC.region ?_
    refine RL.val (O.move rfl) rfl ?_
    refine RL.val (O.eql rfl rfl) rfl ?_
    refine RL.val (O.move rfl) rfl ?_
    refine RL.bcase (t := 52) rfl (fun hc => ?_) (fun hc => ?_)
    · rw [if_pos hc] at hF
      refine RL.gval rfl rfl (O.move rfl) rfl ?_
      refine RL.gval rfl rfl (O.eql rfl rfl) rfl ?_
      refine RL.val (O.pickt rfl rfl) rfl ?_
      refine RL.val (O.move rfl) rfl ?_
      refine RL.bcase (t := 56) rfl (fun hc => ?_) (fun hc => ?_)
      · rw [if_pos hc] at hF
        refine RL.gval rfl rfl (O.move rfl) rfl ?_
        refine RL.geff rfl rfl (E.bsl (enc := (eI .u8)) (xs := [6, 0, 0, 0, 0, 0, 0, 0]) hM sl31 ze5 rfl rfl rfl (fun _ => rfl) rfl rfl rfl) rfl fun v w70 hv => ?_
        clear hM
        obtain ⟨A71, rfl, hM, hf⟩ := hv
        obtain ⟨y73, hx74, hF⟩ := obind hF
        refine RL.gcall rfl rfl Try.func15 bd15 rfl rfl (c_kit_SameBytes _ _ _ y10.1 (hM.rd (i := 2) rfl) _ _ ([6, 0, 0, 0, 0, 0, 0, 0]) (hM.rd (i := 14) rfl) _ hx74) fun v w75 hv => ?_
        obtain ⟨rfl, hN76⟩ := hv
        replace hM := hM.call0 hN76
        refine RL.val (O.pickt rfl rfl) rfl ?_
        refine RL.val (O.move rfl) rfl ?_
        refine RL.bcase (t := 61) rfl (fun hc => ?_) (fun hc => ?_)
        · rw [if_pos hc] at hF
          refine RL.gval rfl rfl (O.move rfl) rfl ?_
          refine RL.gval rfl rfl (O.eql rfl rfl) rfl ?_
          refine RL.val (O.pickt rfl rfl) rfl ?_
          refine RL.val (O.move rfl) rfl ?_
          refine RL.bcase (t := 65) rfl (fun hc => ?_) (fun hc => ?_)
          · rw [if_pos hc] at hF
            refine RL.gval rfl rfl (O.move rfl) rfl ?_
            refine RL.gval rfl rfl (O.eql rfl rfl) rfl ?_
            refine RL.val (O.pickt rfl rfl) rfl ?_
            refine RL.val (O.move rfl) rfl ?_
            refine RL.bcase (t := 69) rfl (fun hc => ?_) (fun hc => ?_)
            · rw [if_pos hc] at hF
              refine RL.gval rfl rfl (O.fldA fl24_1 (by decide) rfl) rfl ?_
              refine RL.gval rfl rfl (O.load sc5 rfl (Cs.adds [1] ((hM.bx (i := 6) rfl)) rfl)) rfl ?_
              refine RL.gval rfl rfl (O.eql rfl rfl) rfl ?_
              refine RL.val (O.pickt rfl rfl) rfl ?_
              refine RL.val (O.move rfl) rfl ?_
              refine RL.bcase (t := 74) rfl (fun hc => ?_) (fun hc => ?_)
              · rw [if_pos hc] at hF
                refine RL.gval rfl rfl (O.move rfl) rfl ?_
                refine RL.gval rfl rfl (O.eql rfl rfl) rfl ?_
                refine RL.val (O.pickt rfl rfl) rfl ?_
                refine RL.val (O.move rfl) rfl ?_
                refine RL.bcase (t := 78) rfl (fun hc => ?_) (fun hc => ?_)
                · rw [if_pos hc] at hF
                  refine RL.gval rfl rfl (O.move rfl) rfl ?_
                  refine RL.val (O.pickt rfl rfl) rfl ?_
                  refine RL.val (O.move rfl) rfl ?_
                  refine RL.bcase (t := 81) rfl (fun hc => ?_) (fun hc => ?_)
                  · rw [if_pos hc] at hF
                    refine RL.gval rfl rfl (O.move rfl) rfl ?_
                    refine RL.gval rfl rfl (O.eql rfl rfl) rfl ?_
                    refine RL.val (O.pickt rfl rfl) rfl ?_
                    refine RL.val (O.move rfl) rfl ?_
                    refine RL.bcase (t := 85) rfl (fun hc => ?_) (fun hc => ?_)
                    · rw [if_pos hc] at hF
                      refine RL.gval rfl rfl (O.move rfl) rfl ?_
                      refine RL.val (O.pickt rfl rfl) rfl ?_
                      refine RL.val (O.move rfl) rfl ?_
                      refine RL.bcase (t := 88) rfl (fun hc => ?_) (fun hc => ?_)
                      · rw [if_pos hc] at hF
                        refine RL.gval rfl rfl (O.move rfl) rfl ?_
                        refine RL.gval rfl rfl (O.eql rfl rfl) rfl ?_
                        refine RL.val (O.pickt rfl rfl) rfl ?_
                        refine RL.val (O.move rfl) rfl ?_
                        refine RL.bcase (t := 92) rfl (fun hc => ?_) (fun hc => ?_)
                        · rw [if_pos hc] at hF
                          refine RL.gval rfl rfl (O.move rfl) rfl ?_
                          refine RL.gval rfl rfl (O.eql rfl rfl) rfl ?_
                          refine RL.val (O.pickt rfl rfl) rfl ?_
                          refine RL.val (O.move rfl) rfl ?_
                          refine RL.bcase (t := 96) rfl (fun hc => ?_) (fun hc => ?_)
                          · rw [if_pos hc] at hF
                            refine RL.gval rfl rfl (O.fldA fl24_0 (by decide) rfl) rfl ?_
                            refine RL.gval rfl rfl (O.load sc22 rfl (Cs.adds [0] ((hM.bx (i := 9) rfl)) rfl)) rfl ?_
                            refine RL.gval rfl rfl (O.len sl22 rfl) rfl ?_
                            refine RL.gval rfl rfl (O.eql rfl rfl) rfl ?_
                            refine RL.val (O.pickt rfl rfl) rfl ?_
                            refine RL.val (O.move rfl) rfl ?_
                            refine RL.bcase (t := 102) rfl (fun hc => ?_) (fun hc => ?_)
                            · rw [if_pos hc] at hF
                              refine RL.gval rfl rfl (O.move rfl) rfl ?_
                              refine RL.gval rfl rfl (O.eql rfl rfl) rfl ?_
                              refine RL.val (O.pickt rfl rfl) rfl ?_
                              refine RL.val (O.assign rfl) rfl ?_
                              refine RL.nil ?_
                              refine KQ.then_k ?_
                              replace hM := hM.pick [] rfl (by decide)
                              exact fun a ha => ⟨(y56.2.2 == 60), ha.less (less_cons rfl less_nil), hM, hF⟩
                            · rw [if_neg (ne_true hc)] at hF
                              refine RL.gskip rfl rfl rfl rfl ?_
                              refine RL.gskip rfl rfl rfl rfl ?_
                              refine RL.val (O.pickf rfl rfl) rfl ?_
                              refine RL.val (O.assign rfl) rfl ?_
                              refine RL.nil ?_
                              refine KQ.then_k ?_
                              replace hM := hM.pick [] rfl (by decide)
                              exact fun a ha => ⟨false, ha.less (less_cons rfl less_nil), hM, hF⟩
                          · rw [if_neg (ne_true hc)] at hF
                            refine RL.brun1 9 105 false (by kernel_rfl) ?_
                            refine RL.val (O.assign rfl) rfl ?_
                            refine RL.nil ?_
                            refine KQ.then_k ?_
                            replace hM := hM.pick [] rfl (by decide)
                            exact fun a ha => ⟨false, ha.less (less_cons rfl less_nil), hM, hF⟩
                        · rw [if_neg (ne_true hc)] at hF
                          refine RL.brun1 13 105 false (by kernel_rfl) ?_
                          refine RL.val (O.assign rfl) rfl ?_
                          refine RL.nil ?_
                          refine KQ.then_k ?_
                          replace hM := hM.pick [] rfl (by decide)
                          exact fun a ha => ⟨false, ha.less (less_cons rfl less_nil), hM, hF⟩
                      · rw [if_neg (ne_true hc)] at hF
                        refine RL.brun1 17 105 false (by kernel_rfl) ?_
                        refine RL.val (O.assign rfl) rfl ?_
                        refine RL.nil ?_
                        refine KQ.then_k ?_
                        replace hM := hM.pick [] rfl (by decide)
                        exact fun a ha => ⟨false, ha.less (less_cons rfl less_nil), hM, hF⟩
                    · rw [if_neg (ne_true hc)] at hF
                      refine RL.brun1 20 105 false (by kernel_rfl) ?_
                      refine RL.val (O.assign rfl) rfl ?_
                      refine RL.nil ?_
                      refine KQ.then_k ?_
                      replace hM := hM.pick [] rfl (by decide)
                      exact fun a ha => ⟨false, ha.less (less_cons rfl less_nil), hM, hF⟩
                  · rw [if_neg (ne_true hc)] at hF
                    refine RL.brun1 24 105 false (by kernel_rfl) ?_
                    refine RL.val (O.assign rfl) rfl ?_
                    refine RL.nil ?_
                    refine KQ.then_k ?_
                    replace hM := hM.pick [] rfl (by decide)
                    exact fun a ha => ⟨false, ha.less (less_cons rfl less_nil), hM, hF⟩
                · rw [if_neg (ne_true hc)] at hF
                  refine RL.brun1 27 105 false (by kernel_rfl) ?_
                  refine RL.val (O.assign rfl) rfl ?_
                  refine RL.nil ?_
                  refine KQ.then_k ?_
                  replace hM := hM.pick [] rfl (by decide)
                  exact fun a ha => ⟨false, ha.less (less_cons rfl less_nil), hM, hF⟩
              · rw [if_neg (ne_true hc)] at hF
                refine RL.brun1 31 105 false (by kernel_rfl) ?_
                refine RL.val (O.assign rfl) rfl ?_
                refine RL.nil ?_
                refine KQ.then_k ?_
                replace hM := hM.pick [] rfl (by decide)
                exact fun a ha => ⟨false, ha.less (less_cons rfl less_nil), hM, hF⟩
            · rw [if_neg (ne_true hc)] at hF
              refine RL.brun1 36 105 false (by kernel_rfl) ?_
              refine RL.val (O.assign rfl) rfl ?_
              refine RL.nil ?_
              refine KQ.then_k ?_
              replace hM := hM.pick [] rfl (by decide)
              exact fun a ha => ⟨false, ha.less (less_cons rfl less_nil), hM, hF⟩
          · rw [if_neg (ne_true hc)] at hF
            refine RL.brun1 40 105 false (by kernel_rfl) ?_
            refine RL.val (O.assign rfl) rfl ?_
            refine RL.nil ?_
            refine KQ.then_k ?_
            replace hM := hM.pick [] rfl (by decide)
            exact fun a ha => ⟨false, ha.less (less_cons rfl less_nil), hM, hF⟩
        · rw [if_neg (ne_true hc)] at hF
          refine RL.brun1 44 105 false (by kernel_rfl) ?_
          refine RL.val (O.assign rfl) rfl ?_
          refine RL.nil ?_
          refine KQ.then_k ?_
          replace hM := hM.pick [] rfl (by decide)
          exact fun a ha => ⟨false, ha.less (less_cons rfl less_nil), hM, hF⟩
      · rw [if_neg (ne_true hc)] at hF
        refine RL.brun1 49 105 false (by kernel_rfl) ?_
        refine RL.val (O.assign rfl) rfl ?_
        refine RL.nil ?_
        refine KQ.then_k ?_
        replace hM := hM.pick [] rfl (by decide)
        exact fun a ha => ⟨false, ha.less (less_cons rfl less_nil), hM, hF⟩
    · rw [if_neg (ne_true hc)] at hF
      refine RL.brun1 53 105 false (by kernel_rfl) ?_
      refine RL.val (O.assign rfl) rfl ?_
      refine RL.nil ?_
      refine KQ.then_k ?_
      replace hM := hM.pick [] rfl (by decide)
      exact fun a ha => ⟨false, ha.less (less_cons rfl less_nil), hM, hF⟩
  · rintro a w78 ⟨t77, ha, hM, hF⟩
    refine KC.app ha ?_
    clear ha
    unfold F_law06_works_j1 at hF
    refine KC.ret ?_
    obtain rfl := Option.some.inj hF
    refine KQ.rets Try.results9 (RVs.cons (RV.tm rfl) RVs.nil) ?_
    exact ⟨_, rfl, rfl, hM⟩
set_option maxRecDepth 100000 in
set_option maxHeartbeats 40000000 in
theorem c_kit_Own (w : World) (A2 : Option Addr) (c3 : Nat) (b1 : List Int) (hr4 : Rd w A2 c3 1 b1.length (b1.flatMap (eI .u8))) (r : (List Int)) (hF : F_kit_Own b1 = some r) :
    CallsR Try.prog 20 [.slice A2 (b1).length c3] w (fun v w' => ∃ (A0 : Option Addr) (c0 : Nat), v = .slice A0 (r).length c0 ∧ Mem w [] w' [.row A0 c0 5 1 r.length (r.flatMap (eI .u8))]) := by
  refine calls_KC Try.func20 rfl Try.ntmps20 rfl ?_
  have hM := Mem.init w
  unfold F_kit_Own at hF
  refine KC.seq ?_
  refine KC.region ?_
  refine RL.val (O.assign rfl) rfl ?_
  refine RL.nil ?_
  refine KQ.then_n ?_
  refine KC.seq ?_
  refine KC.region ?_
  refine RL.val (O.assign rfl) rfl ?_
  refine RL.nil ?_
  refine KQ.then_n ?_
  refine KC.seq ?_
  refine KC.region ?_
  refine RL.val (O.move rfl) rfl ?_
  refine RL.val (O.move rfl) rfl ?_
  obtain ⟨hq8, hF⟩ := cut_some hF
  refine RL.eff (E.app0 (enc := (eI .u8)) (ys := b1) hM sl31 ze5 rfl rfl rfl rfl rfl (hM.inp hr4 Off.nil) (fun _ => One.all rfl) (of_decide_eq_true hq8)) rfl fun v w7 hv => ?_
  clear hM
  obtain ⟨A5, c6, rfl, hM, hf⟩ := hv
  refine RL.val (O.assign rfl) rfl ?_
  refine RL.nil ?_
  refine KQ.then_n ?_
  refine KC.ret ?_
  obtain rfl := Option.some.inj hF
  refine KQ.rets Try.results20 (RVs.cons (RV.tm rfl) RVs.nil) ?_
  exact ⟨_, rfl, A5, c6, rfl, hM⟩
set_option maxRecDepth 100000 in
set_option maxHeartbeats 40000000 in
theorem c_ref06_kind (w : World) (kv1 : Int) (r : Bool) (hF : F_ref06_kind kv1 = some r) :
    CallsR Try.prog 44 [.int .u8 kv1] w (fun v w' => v = .bool r ∧ Mem w [] w' []) := by
  refine calls_KC Try.func44 rfl Try.ntmps44 rfl ?_
  have hM := Mem.init w
  unfold F_ref06_kind at hF
  refine KC.seq ?_
  refine KC.region ?_
  refine RL.val (O.assign rfl) rfl ?_
  refine RL.nil ?_
  refine KQ.then_n ?_
  refine KC.cut (fun a w3 => ∃ (t2 : Bool), Kn 17 [(2, .bool t2)] a ∧ Mem w [] w3 [] ∧ F_ref06_kind_j1 t2 = some r) ?_ ?_
  · refine KC.region ?_
    refine RL.val (O.move rfl) rfl ?_
    refine RL.val (O.eql rfl rfl) rfl ?_
    refine RL.val (O.move rfl) rfl ?_
    refine RL.bcase (t := 5) rfl (fun hc => ?_) (fun hc => ?_)
    · rw [if_pos hc] at hF
      refine RL.brun1 11 16 true (by kernel_rfl) ?_
      refine RL.val (O.assign rfl) rfl ?_
      refine RL.nil ?_
      refine KQ.then_k ?_
      exact fun a ha => ⟨true, ha.less (less_cons rfl less_nil), hM, hF⟩
    · rw [if_neg (ne_true hc)] at hF
      refine RL.gval rfl rfl (O.move rfl) rfl ?_
      refine RL.gval rfl rfl (O.eql rfl rfl) rfl ?_
      refine RL.val (O.pickf rfl rfl) rfl ?_
      refine RL.val (O.move rfl) rfl ?_
      refine RL.bcase (t := 9) rfl (fun hc => ?_) (fun hc => ?_)
      · rw [if_pos hc] at hF
        refine RL.brun1 7 16 true (by kernel_rfl) ?_
        refine RL.val (O.assign rfl) rfl ?_
        refine RL.nil ?_
        refine KQ.then_k ?_
        exact fun a ha => ⟨true, ha.less (less_cons rfl less_nil), hM, hF⟩
      · rw [if_neg (ne_true hc)] at hF
        refine RL.gval rfl rfl (O.move rfl) rfl ?_
        refine RL.gval rfl rfl (O.eql rfl rfl) rfl ?_
        refine RL.val (O.pickf rfl rfl) rfl ?_
        refine RL.val (O.move rfl) rfl ?_
        refine RL.bcase (t := 13) rfl (fun hc => ?_) (fun hc => ?_)
        · rw [if_pos hc] at hF
          refine RL.gskip rfl rfl rfl rfl ?_
          refine RL.gskip rfl rfl rfl rfl ?_
          refine RL.val (O.pickt rfl rfl) rfl ?_
          refine RL.val (O.assign rfl) rfl ?_
          refine RL.nil ?_
          refine KQ.then_k ?_
          exact fun a ha => ⟨true, ha.less (less_cons rfl less_nil), hM, hF⟩
        · rw [if_neg (ne_true hc)] at hF
          refine RL.gval rfl rfl (O.move rfl) rfl ?_
          refine RL.gval rfl rfl (O.eql rfl rfl) rfl ?_
          refine RL.val (O.pickf rfl rfl) rfl ?_
          refine RL.val (O.assign rfl) rfl ?_
          refine RL.nil ?_
          refine KQ.then_k ?_
          exact fun a ha => ⟨(kv1 == 60), ha.less (less_cons rfl less_nil), hM, hF⟩
  · rintro a w3 ⟨t2, ha, hM, hF⟩
    refine KC.app ha ?_
    clear ha
    unfold F_ref06_kind_j1 at hF
    refine KC.ret ?_
    obtain rfl := Option.some.inj hF
    refine KQ.rets Try.results44 (RVs.cons (RV.tm rfl) RVs.nil) ?_
    exact ⟨_, rfl, rfl, hM⟩
set_option maxRecDepth 100000 in
set_option maxHeartbeats 40000000 in
theorem c_ref06_rightExt (w : World) (xv1 : T_ref06_Ext) (r : Bool) (hF : F_ref06_rightExt xv1 = some r) :
    CallsR Try.prog 42 [.agg #[.int .u8 xv1.f_Kind, .string xv1.f_Data]] w (fun v w' => v = .bool r ∧ Mem w [] w' []) := by
  refine calls_KC Try.func42 rfl Try.ntmps42 rfl ?_
  have hM := Mem.init w
  unfold F_ref06_rightExt at hF
  refine KC.seq ?_
  refine KC.region ?_
  refine RL.eff (E.box (vs := [.int .u8 xv1.f_Kind, .string xv1.f_Data]) hM rfl rfl) rfl fun v w3 hv => ?_
  clear hM
  obtain ⟨g2, rfl, hM, hf⟩ := hv
  refine RL.val (O.assign rfl) rfl ?_
  refine RL.nil ?_
  refine KQ.then_n ?_
  refine KC.seq ?_
  refine KC.region ?_
  refine RL.val (O.fldA fl76_1 (by decide) rfl) rfl ?_
  refine RL.val (O.load sc9 rfl (Cs.adds [1] ((hM.bx (i := 0) rfl)) rfl)) rfl ?_
  refine RL.val (O.lens Try.underlying9 rfl) rfl ?_
  refine RL.val (O.assign rfl) rfl ?_
  refine RL.nil ?_
  refine KQ.then_n ?_
  refine KC.seq ?_
  refine KC.seq ?_
  refine KC.region ?_
  refine RL.val (O.fldA fl76_0 (by decide) rfl) rfl ?_
  refine RL.val (O.load sc5 rfl (Cs.adds [0] ((hM.bx (i := 0) rfl)) rfl)) rfl ?_
  refine RL.val (O.eql rfl rfl) rfl ?_
  refine RL.nil ?_
  refine KQ.then_n ?_
  refine KC.cond rfl (fun hc => ?_) (fun hc => ?_)
  · rw [if_pos hc] at hF
    refine KC.cut (fun a w8 => ∃ (t7 : Bool), Kn 32 [(2, .bool t7)] a ∧ Mem w [] w8 [] ∧ F_ref06_rightExt_j1 t7 = some r) ?_ ?_
    · refine KC.region ?_
      refine RL.val (O.move rfl) rfl ?_
      refine RL.val (O.eql rfl rfl) rfl ?_
      refine RL.val (O.move rfl) rfl ?_
      refine RL.bcase (t := 12) rfl (fun hc => ?_) (fun hc => ?_)
      · rw [if_pos hc] at hF
        refine RL.gval rfl rfl (O.fldA fl76_1 (by decide) rfl) rfl ?_
        refine RL.gval rfl rfl (O.load sc9 rfl (Cs.adds [1] ((hM.bx (i := 0) rfl)) rfl)) rfl ?_
        obtain ⟨xv5, hx6, hF⟩ := obind hF
        refine RL.gval rfl rfl (O.idxS Try.underlying9 hx6 rfl rfl) rfl ?_
        refine RL.gval rfl rfl (O.quo rfl rfl (by decide)) rfl ?_
        refine RL.gval rfl rfl (O.rem rfl rfl (by decide)) rfl ?_
        refine RL.gval rfl rfl (O.eql rfl rfl) rfl ?_
        refine RL.val (O.pickt rfl rfl) rfl ?_
        refine RL.val (O.assign rfl) rfl ?_
        refine RL.nil ?_
        refine KQ.then_k ?_
        replace hM := hM.pick [] rfl (by decide)
        exact fun a ha => ⟨((Int.tmod (IntKind.u8.wrap (Int.tdiv xv5 2)) 4) == 0), ha.less (less_cons rfl less_nil), hM, hF⟩
      · rw [if_neg (ne_true hc)] at hF
        refine RL.brun1 7 19 false (by kernel_rfl) ?_
        refine RL.val (O.assign rfl) rfl ?_
        refine RL.nil ?_
        refine KQ.then_k ?_
        replace hM := hM.pick [] rfl (by decide)
        exact fun a ha => ⟨false, ha.less (less_cons rfl less_nil), hM, hF⟩
    · rintro a w8 ⟨t7, ha, hM, hF⟩
      refine KC.app ha ?_
      clear ha
      unfold F_ref06_rightExt_j1 at hF
      refine KC.ret ?_
      refine KQ.then_r ?_
      obtain rfl := Option.some.inj hF
      refine KQ.rets Try.results42 (RVs.cons (RV.tm rfl) RVs.nil) ?_
      exact ⟨_, rfl, rfl, hM⟩
  · rw [if_neg (ne_true hc)] at hF
    refine KC.skip ?_
    refine KQ.then_n ?_
    refine KC.cut (fun a w14 => ∃ (t13 : Bool), Kn 32 [(2, .bool t13)] a ∧ Mem w [] w14 [] ∧ F_ref06_rightExt_j2 t13 = some r) ?_ ?_
    · refine KC.region ?_
      refine RL.val (O.fldA fl76_0 (by decide) rfl) rfl ?_
      refine RL.val (O.load sc5 rfl (Cs.adds [0] ((hM.bx (i := 0) rfl)) rfl)) rfl ?_
      obtain ⟨y9, hx10, hF⟩ := obind hF
      refine RL.call Try.func44 bd44 rfl rfl (c_ref06_kind _ xv1.f_Kind _ hx10) fun v w11 hv => ?_
      obtain ⟨rfl, hN12⟩ := hv
      replace hM := hM.call0 hN12
      refine RL.val (O.move rfl) rfl ?_
      refine RL.bcase (t := 23) rfl (fun hc => ?_) (fun hc => ?_)
      · rw [if_pos hc] at hF
        refine RL.gval rfl rfl (O.move rfl) rfl ?_
        refine RL.gval rfl rfl (O.rem rfl rfl (by decide)) rfl ?_
        refine RL.gval rfl rfl (O.eql rfl rfl) rfl ?_
        refine RL.val (O.pickt rfl rfl) rfl ?_
        refine RL.val (O.move rfl) rfl ?_
        refine RL.bcase (t := 28) rfl (fun hc => ?_) (fun hc => ?_)
        · rw [if_pos hc] at hF
          refine RL.gval rfl rfl (O.move rfl) rfl ?_
          refine RL.gval rfl rfl (O.leq rfl rfl) rfl ?_
          refine RL.val (O.pickt rfl rfl) rfl ?_
          refine RL.val (O.assign rfl) rfl ?_
          refine RL.nil ?_
          refine KQ.then_k ?_
          replace hM := hM.pick [] rfl (by decide)
          exact fun a ha => ⟨(decide ((xv1.f_Data.size : Int) ≤ 2046)), ha.less (less_cons rfl less_nil), hM, hF⟩
        · rw [if_neg (ne_true hc)] at hF
          refine RL.gskip rfl rfl rfl rfl ?_
          refine RL.gskip rfl rfl rfl rfl ?_
          refine RL.val (O.pickf rfl rfl) rfl ?_
          refine RL.val (O.assign rfl) rfl ?_
          refine RL.nil ?_
          refine KQ.then_k ?_
          replace hM := hM.pick [] rfl (by decide)
          exact fun a ha => ⟨false, ha.less (less_cons rfl less_nil), hM, hF⟩
      · rw [if_neg (ne_true hc)] at hF
        refine RL.brun1 8 31 false (by kernel_rfl) ?_
        refine RL.val (O.assign rfl) rfl ?_
        refine RL.nil ?_
        refine KQ.then_k ?_
        replace hM := hM.pick [] rfl (by decide)
        exact fun a ha => ⟨false, ha.less (less_cons rfl less_nil), hM, hF⟩
    · rintro a w14 ⟨t13, ha, hM, hF⟩
      refine KC.app ha ?_
      clear ha
      unfold F_ref06_rightExt_j2 at hF
      refine KC.ret ?_
      obtain rfl := Option.some.inj hF
      refine KQ.rets Try.results42 (RVs.cons (RV.tm rfl) RVs.nil) ?_
      exact ⟨_, rfl, rfl, hM⟩
set_option maxRecDepth 100000 in
set_option maxHeartbeats 40000000 in
theorem c_ref06_later (w : World) (xv1 : T_ref06_Ext) (r : Bool) (hF : F_ref06_later xv1 = some r) :
    CallsR Try.prog 43 [.agg #[.int .u8 xv1.f_Kind, .string xv1.f_Data]] w (fun v w' => v = .bool r ∧ Mem w [] w' []) := by
  refine calls_KC Try.func43 rfl Try.ntmps43 rfl ?_
  have hM := Mem.init w
  unfold F_ref06_later at hF
  refine KC.seq ?_
  refine KC.region ?_
  refine RL.eff (E.box (vs := [.int .u8 xv1.f_Kind, .string xv1.f_Data]) hM rfl rfl) rfl fun v w3 hv => ?_
  clear hM
  obtain ⟨g2, rfl, hM, hf⟩ := hv
  refine RL.val (O.assign rfl) rfl ?_
  refine RL.nil ?_
  refine KQ.then_n ?_
  refine KC.cut (fun a w10 => ∃ (t9 : Bool), Kn 24 [(2, .bool t9)] a ∧ Mem w [] w10 [] ∧ F_ref06_later_j1 t9 = some r) ?_ ?_
  · refine KC.region ?_
    refine RL.val (O.fldA fl76_0 (by decide) rfl) rfl ?_
    refine RL.val (O.load sc5 rfl (Cs.adds [0] ((hM.bx (i := 0) rfl)) rfl)) rfl ?_
    refine RL.val (O.eql rfl rfl) rfl ?_
    refine RL.val (O.move rfl) rfl ?_
    refine RL.bcase (t := 6) rfl (fun hc => ?_) (fun hc => ?_)
    · rw [if_pos hc] at hF
      refine RL.gval rfl rfl (O.fldA fl76_1 (by decide) rfl) rfl ?_
      refine RL.gval rfl rfl (O.load sc9 rfl (Cs.adds [1] ((hM.bx (i := 0) rfl)) rfl)) rfl ?_
      refine RL.gval rfl rfl (O.lens Try.underlying9 rfl) rfl ?_
      refine RL.gval rfl rfl (O.gtr rfl rfl) rfl ?_
      refine RL.val (O.pickt rfl rfl) rfl ?_
      refine RL.val (O.move rfl) rfl ?_
      refine RL.bcase (t := 12) rfl (fun hc => ?_) (fun hc => ?_)
      · rw [if_pos hc] at hF
        refine RL.gval rfl rfl (O.fldA fl76_1 (by decide) rfl) rfl ?_
        refine RL.gval rfl rfl (O.load sc9 rfl (Cs.adds [1] ((hM.bx (i := 0) rfl)) rfl)) rfl ?_
        obtain ⟨xv5, hx6, hF⟩ := obind hF
        refine RL.gval rfl rfl (O.idxS Try.underlying9 hx6 rfl rfl) rfl ?_
        refine RL.gval rfl rfl (O.gtr rfl rfl) rfl ?_
        refine RL.gval rfl rfl (O.move rfl) rfl ?_
        refine RL.bcase (t := 17) rfl (fun hc => ?_) (fun hc => ?_)
        · rw [if_pos hc] at hF
          refine RL.gskip rfl rfl rfl rfl ?_
          refine RL.gskip rfl rfl rfl rfl ?_
          refine RL.gskip rfl rfl rfl rfl ?_
          refine RL.gskip rfl rfl rfl rfl ?_
          refine RL.gval rfl rfl (O.pickt rfl rfl) rfl ?_
          refine RL.val (O.pickt rfl rfl) rfl ?_
          refine RL.val (O.assign rfl) rfl ?_
          refine RL.nil ?_
          refine KQ.then_k ?_
          replace hM := hM.pick [] rfl (by decide)
          exact fun a ha => ⟨true, ha.less (less_cons rfl less_nil), hM, hF⟩
        · rw [if_neg (ne_true hc)] at hF
          refine RL.gval rfl rfl (O.fldA fl76_1 (by decide) rfl) rfl ?_
          refine RL.gval rfl rfl (O.load sc9 rfl (Cs.adds [1] ((hM.bx (i := 0) rfl)) rfl)) rfl ?_
          obtain ⟨xv7, hx8, hF⟩ := obind hF
          refine RL.gval rfl rfl (O.idxS Try.underlying9 hx8 rfl rfl) rfl ?_
          refine RL.gval rfl rfl (O.geq rfl rfl) rfl ?_
          refine RL.gval rfl rfl (O.pickf rfl rfl) rfl ?_
          refine RL.val (O.pickt rfl rfl) rfl ?_
          refine RL.val (O.assign rfl) rfl ?_
          refine RL.nil ?_
          refine KQ.then_k ?_
          replace hM := hM.pick [] rfl (by decide)
          exact fun a ha => ⟨(decide (8 ≤ xv7)), ha.less (less_cons rfl less_nil), hM, hF⟩
      · rw [if_neg (ne_true hc)] at hF
        refine RL.brun1 11 23 false (by kernel_rfl) ?_
        refine RL.val (O.assign rfl) rfl ?_
        refine RL.nil ?_
        refine KQ.then_k ?_
        replace hM := hM.pick [] rfl (by decide)
        exact fun a ha => ⟨false, ha.less (less_cons rfl less_nil), hM, hF⟩
    · rw [if_neg (ne_true hc)] at hF
      refine RL.brun1 17 23 false (by kernel_rfl) ?_
      refine RL.val (O.assign rfl) rfl ?_
      refine RL.nil ?_
      refine KQ.then_k ?_
      replace hM := hM.pick [] rfl (by decide)
      exact fun a ha => ⟨false, ha.less (less_cons rfl less_nil), hM, hF⟩
  · rintro a w10 ⟨t9, ha, hM, hF⟩
    refine KC.app ha ?_
    clear ha
    unfold F_ref06_later_j1 at hF
    refine KC.ret ?_
    obtain rfl := Option.some.inj hF
    refine KQ.rets Try.results43 (RVs.cons (RV.tm rfl) RVs.nil) ?_
    exact ⟨_, rfl, rfl, hM⟩
end Go.Proofs.Ytikjomacnbemhaa
