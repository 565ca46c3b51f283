/- Printed by a program of this claim: each call returns what the plain function of its name gives. -/
import Derived.Test.YtikjomacnbemhaaW3
set_option linter.unusedVariables false
namespace Go.Proofs.Ytikjomacnbemhaa
open Go Go.Ox Go.RowKit
set_option maxRecDepth 100000 in
set_option maxHeartbeats 40000000 in
theorem c_kit_SameBytes (w : World) (A2 : Option Addr) (c3 : Nat) (av1 : List Int) (hr4 : Rd w A2 c3 1 av1.length (av1.flatMap (eI .u8))) (A6 : Option Addr) (c7 : Nat) (b5 : List Int) (hr8 : Rd w A6 c7 1 b5.length (b5.flatMap (eI .u8))) (r : Bool) (hF : F_kit_SameBytes av1 b5 = some r) :
    CallsR Try.prog 15 [.slice A2 (av1).length c3, .slice A6 (b5).length c7] w (fun v w' => v = .bool r ∧ Mem w [] w' []) := by
  refine calls_KC Try.func15 rfl Try.ntmps15 rfl ?_
  have hM := Mem.init w
  unfold F_kit_SameBytes at hF
  refine KC.seq ?_
  refine KC.region ?_
  refine RL.val (O.assign rfl) rfl ?_
  refine RL.nil ?_
  refine KQ.then_n ?_
  refine KC.seq ?_
  refine KC.seq ?_
  refine KC.region ?_
  refine RL.val (O.move rfl) rfl ?_
  refine RL.val (O.len sl31 rfl) rfl ?_
  refine RL.val (O.move rfl) rfl ?_
  refine RL.val (O.len sl31 rfl) rfl ?_
  refine RL.val (O.neq rfl rfl) rfl ?_
  refine RL.nil ?_
  refine KQ.then_n ?_
  refine KC.cond rfl (fun hc => ?_) (fun hc => ?_)
  · rw [if_pos hc] at hF
    refine KC.seq ?_
    refine KC.region ?_
    refine RL.val (O.assign rfl) rfl ?_
    refine RL.nil ?_
    refine KQ.then_n ?_
    refine KC.ret ?_
    refine KQ.then_r ?_
    obtain rfl := Option.some.inj hF
    refine KQ.rets Try.results15 (RVs.cons (RV.tm rfl) RVs.nil) ?_
    exact ⟨_, rfl, rfl, hM⟩
  · rw [if_neg (ne_true hc)] at hF
    refine KC.skip ?_
    refine KQ.then_n ?_
    refine KC.seq ?_
    refine KC.seq ?_
    refine KC.region ?_
    refine RL.val (O.assign rfl) rfl ?_
    refine RL.nil ?_
    refine KQ.then_n ?_
    refine KC.block ?_
    refine KC.loop (fun k25 a w23 => ∃ (i22 : Int), Kn 26 [(0, .slice A2 (av1).length c3), (1, .slice A6 (b5).length c7), (5, .int .i64 i22)] a ∧ Mem w [] w23 [] ∧ F_kit_SameBytes_L1 av1 b5 k25 i22 = some r) ?_ ?_
    · exact fun a ha => ⟨fuel0, 0, ha.less (less_cons rfl (less_cons rfl (less_cons rfl less_nil))), hM, hF⟩
    · rintro k25 a w23 ⟨i22, ha, hM, hF⟩
      refine KC.app ha ?_
      clear ha
      cases k25 with
      | zero => exact (none_some hF).elim
      | succ k25 =>
      have hF : F_kit_SameBytes_l1 (F_kit_SameBytes_L1 av1 b5 k25) av1 b5 i22 = some r := hF
      unfold F_kit_SameBytes_l1 at hF
      refine KC.seq ?_
      refine KC.seq ?_
      refine KC.region ?_
      refine RL.val (O.move rfl) rfl ?_
      refine RL.val (O.move rfl) rfl ?_
      refine RL.val (O.len sl31 rfl) rfl ?_
      refine RL.val (O.lss rfl rfl) rfl ?_
      refine RL.nil ?_
      refine KQ.then_n ?_
      refine KC.cond rfl (fun hc => ?_) (fun hc => ?_)
      · rw [if_pos hc] at hF
        refine KC.skip ?_
        refine KQ.then_n ?_
        refine KC.seq ?_
        refine KC.block ?_
        refine KC.seq ?_
        replace hM := hM.drewN 1
        refine KC.draw [] [] [] [0, 1, 4, 5, 8] (.ofList [0, 1, 2, 3, 4, 5, 6, 7, 8]) moP (by kernel_rfl) ?_
        refine RD.p rfl rfl rfl rfl (fun w' => O.move rfl) ?_
        refine RD.p rfl rfl rfl rfl (fun w' => O.move rfl) ?_
        refine obindE hF fun xv28 hx27 hF => ?_
        have hA26 := Rd.atN (f := (eI .u8)) (s := 1) (fun _ => rfl) (by decide) (hM.inp hr4 Off.nil) hx27
        refine RD.q rfl rfl rfl rfl (fun w' hf => O.idxA sl31 (hA26.fut hf) rfl rfl) ?_
        refine RD.q rfl rfl rfl rfl (fun w' hf => O.load sc5 rfl (hA26.fut hf).cells.at0) ?_
        refine RD.p rfl rfl rfl rfl (fun w' => O.move rfl) ?_
        refine RD.p rfl rfl rfl rfl (fun w' => O.move rfl) ?_
        refine obindE hF fun xv31 hx30 hF => ?_
        have hA29 := Rd.atN (f := (eI .u8)) (s := 1) (fun _ => rfl) (by decide) (hM.inp hr8 Off.nil) hx30
        refine RD.q rfl rfl rfl rfl (fun w' hf => O.idxA sl31 (hA29.fut hf) rfl rfl) ?_
        refine RD.q rfl rfl rfl rfl (fun w' hf => O.load sc5 rfl (hA29.fut hf).cells.at0) ?_
        refine RD.p rfl rfl rfl rfl (fun w' => O.neq rfl rfl) ?_
        refine RD.nil ?_
        refine KQ.then_n ?_
        refine KC.cond rfl (fun hc => ?_) (fun hc => ?_)
        · rw [if_pos hc] at hF
          refine KC.seq ?_
          refine KC.region ?_
          refine RL.val (O.assign rfl) rfl ?_
          refine RL.nil ?_
          refine KQ.then_n ?_
          refine KC.ret ?_
          refine KQ.blk_r ?_
          refine KQ.then_r ?_
          refine KQ.then_r ?_
          refine KQ.blk_r ?_
          refine KQ.then_r ?_
          obtain rfl := Option.some.inj hF
          refine KQ.rets Try.results15 (RVs.cons (RV.tm rfl) RVs.nil) ?_
          exact ⟨_, rfl, rfl, hM⟩
        · rw [if_neg (ne_true hc)] at hF
          refine KC.skip ?_
          refine KQ.blk_n ?_
          refine KQ.then_n ?_
          refine KC.region ?_
          refine RL.val (O.move rfl) rfl ?_
          refine RL.val (O.add rfl rfl) rfl ?_
          refine RL.val (O.assign rfl) rfl ?_
          refine RL.nil ?_
          refine KQ.then_k ?_
          exact fun a ha => ⟨k25, Nat.lt_succ_self k25, (IntKind.i64.wrap (i22 + 1)), ha.less (less_cons rfl (less_cons rfl (less_cons rfl less_nil))), hM, hF⟩
      · rw [if_neg (ne_true hc)] at hF
        refine KC.exit ?_
        refine KQ.then_x ?_
        refine KQ.then_x ?_
        refine KQ.blk_x ?_
        refine KQ.then_n ?_
        refine KC.seq ?_
        refine KC.region ?_
        refine RL.val (O.assign rfl) rfl ?_
        refine RL.nil ?_
        refine KQ.then_n ?_
        refine KC.ret ?_
        obtain rfl := Option.some.inj hF
        refine KQ.rets Try.results15 (RVs.cons (RV.tm rfl) RVs.nil) ?_
        exact ⟨_, rfl, rfl, hM⟩
set_option maxRecDepth 100000 in
set_option maxHeartbeats 40000000 in
theorem c_law06_works (w : World) (r : Bool) (hF : F_law06_works = some r) :
    CallsR Try.prog 9 [] w (fun v w' => v = .bool r ∧ Mem w [] w' []) := by
  refine calls_KC Try.func9 rfl Try.ntmps9 rfl ?_
  have hM := Mem.init w
  unfold F_law06_works at hF
  refine KC.seq ?_
  refine KC.region ?_
  refine RL.val (O.assign rfl) rfl ?_
  refine RL.nil ?_
  refine KQ.then_n ?_
  refine KC.seq ?_
  refine KC.region ?_
  refine cut_someE hF fun hq3 hF => ?_
  refine RL.eff (E.mks (enc := (eI .u8)) (zr := 0) hM sl31 ze5 rfl rfl (fun _ => rfl) rfl rfl rfl (of_decide_eq_true hq3)) rfl fun v w2 hv => ?_
  clear hM
  obtain ⟨A1, rfl, hM, hf⟩ := hv
  refine RL.val (O.bld (cs := [.int .u8 60, .slice A1 ((List.replicate (Int.toNat 6) (0 : Int))).length (Int.toNat 6)]) bt63 rfl (by kernel_rfl)) rfl ?_
  refine RL.eff (E.bslD (css := ([[.int .u8 60, .slice A1 ((List.replicate (Int.toNat 6) (0 : Int))).length (Int.toNat 6)]] : List (List Value))) hM sl22 ze63 rfl rfl rfl rfl rfl (by kernel_rfl) rfl) rfl fun v w5 hv => ?_
  clear hM
  obtain ⟨A6, rfl, hM, hf⟩ := hv
  have hp10 := (hM.pick [0] rfl (by decide)).sep
  obtain ⟨Z7, hM⟩ := hM.glue [0] [1] rfl rfl (by decide) rfl (Els RO_ipsix_Ext 2 [(T_ipsix_Ext.mk 60 (List.replicate (Int.toNat 6) (0 : Int)))] ([[.int .u8 60, .slice A1 ((List.replicate (Int.toNat 6) (0 : Int))).length (Int.toNat 6)]] : List (List Value))) (fun Z w1 ho hz => Els.lit (El3.cons rfl ⟨A1, (Int.toNat 6), rfl, rfl⟩ El3.nil) rfl ho hz hp10)
  refine RL.val (O.bld (cs := [.slice A6 ([(T_ipsix_Ext.mk 60 (List.replicate (Int.toNat 6) (0 : Int)))]).length 1, .int .u8 6]) bt24 rfl (by kernel_rfl)) rfl ?_
  refine obindE hF fun y11 hx12 hF => ?_
  refine RL.call Try.func11 bd11 rfl rfl (c_ipsix_PutChain _ (T_ipsix_Chain.mk ([(T_ipsix_Ext.mk 60 (List.replicate (Int.toNat 6) (0 : Int)))]) 6) _ _ (hM.rdD (i := 0) (j := 1) uo_ipsix_Ext rfl rfl) _ hx12) fun v w13 hv => ?_
  obtain ⟨A15, c16, rfl, hN14⟩ := hv
  replace hM := hM.call hN14
  refine RL.val (O.move rfl) rfl ?_
  refine RL.val (O.ext rfl rfl) rfl ?_
  refine RL.val (O.ext rfl rfl) rfl ?_
  refine RL.val (O.ext rfl rfl) rfl ?_
  refine RL.val (O.assign rfl) rfl ?_
  refine RL.val (O.assign rfl) rfl ?_
  refine RL.val (O.assign rfl) rfl ?_
  refine RL.nil ?_
  refine KQ.then_n ?_
  refine KC.seq ?_
  refine KC.region ?_
  refine RL.eff (E.bsl (enc := (eI .u8)) (xs := ([17, 0, 0, 9, 0, 0, 0, 5] : List Int)) hM sl31 ze5 rfl rfl rfl (fun _ => rfl) rfl (by kernel_rfl) rfl) rfl fun v w18 hv => ?_
  clear hM
  obtain ⟨A19, rfl, hM, hf⟩ := hv
  refine obindE hF fun y21 hx22 hF => ?_
  refine RL.call Try.func21 bd21 rfl rfl (c_ipsix_ParseChain _ 44 _ _ ([17, 0, 0, 9, 0, 0, 0, 5] : List Int) (hM.rd (i := 3) rfl) _ hx22) fun v w23 hv => ?_
  obtain ⟨A25, c26, css28, Z29, rfl, hN24⟩ := hv
  replace hM := hM.call hN24
  refine RL.val (O.move rfl) rfl ?_
  refine RL.val (O.ext rfl rfl) rfl ?_
  refine RL.val (O.ext rfl rfl) rfl ?_
  refine RL.val (O.ext rfl rfl) rfl ?_
  refine RL.eff (E.alloc hM ze24) rfl fun v w32 hv => ?_
  clear hM
  obtain ⟨g31, rfl, hM, hf⟩ := hv
  refine RL.effs (E.stB (j := 6) (off := 0) (vs := [.slice A25 (y21.1.f_Exts).length c26, .int .u8 y21.1.f_Proto]) (cs' := [.slice A25 (y21.1.f_Exts).length c26, .int .u8 y21.1.f_Proto]) hM rfl sz24 rfl (adds_eq [] rfl) rfl rfl (One.all rfl) rfl rfl) fun w34 hM1 => ?_
  clear hM
  have hM := hM1
  clear hM1
  refine RL.val (O.assign rfl) rfl ?_
  refine RL.val (O.assign rfl) rfl ?_
  refine RL.nil ?_
  refine KQ.then_n ?_
  refine KC.seq ?_
  refine KC.region ?_
  refine RL.val (O.loadN (cs := [.slice A25 (y21.1.f_Exts).length c26, .int .u8 y21.1.f_Proto]) ag24 rfl (Cs.addsN [] ((hM.bx (i := 6) rfl)) rfl)) rfl ?_
  refine obindE hF fun y35 hx36 hF => ?_
  refine RL.call Try.func13 bd13 rfl rfl (c_ipsix_Frag _ y21.1 _ _ (hM.rdD (i := 4) (j := 5) uo_ipsix_Ext rfl rfl) _ hx36) fun v w37 hv => ?_
  obtain ⟨rfl, hN38⟩ := hv
  replace hM := hM.call0 hN38
  refine RL.val (O.move rfl) rfl ?_
  refine RL.val (O.ext rfl rfl) rfl ?_
  refine RL.val (O.ext rfl rfl) rfl ?_
  refine RL.val (O.ext rfl rfl) rfl ?_
  refine RL.val (O.ext rfl rfl) rfl ?_
  refine RL.val (O.assign rfl) rfl ?_
  refine RL.val (O.assign rfl) rfl ?_
  refine RL.val (O.assign rfl) rfl ?_
  refine RL.val (O.assign rfl) rfl ?_
  refine RL.nil ?_
  refine KQ.then_n ?_
  refine KC.seq ?_
  refine KC.region ?_
  refine obindE hF fun y39 hx40 hF => ?_
  refine RL.call Try.func21 bd21 rfl rfl (c_ipsix_ParseChain _ 6 none 0 [] Rd.nilr _ hx40) fun v w41 hv => ?_
  obtain ⟨A43, c44, css46, Z47, rfl, hN42⟩ := hv
  replace hM := hM.call hN42
  refine RL.val (O.move rfl) rfl ?_
  refine RL.val (O.ext rfl rfl) rfl ?_
  refine RL.val (O.ext rfl rfl) rfl ?_
  refine RL.val (O.ext rfl rfl) rfl ?_
  refine RL.eff (E.alloc hM ze24) rfl fun v w50 hv => ?_
  clear hM
  obtain ⟨g49, rfl, hM, hf⟩ := hv
  refine RL.effs (E.stB (j := 9) (off := 0) (vs := [.slice A43 (y39.1.f_Exts).length c44, .int .u8 y39.1.f_Proto]) (cs' := [.slice A43 (y39.1.f_Exts).length c44, .int .u8 y39.1.f_Proto]) hM rfl sz24 rfl (adds_eq [] rfl) rfl rfl (One.all rfl) rfl rfl) fun w52 hM1 => ?_
  clear hM
  have hM := hM1
  clear hM1
  refine RL.val (O.assign rfl) rfl ?_
  refine RL.val (O.assign rfl) rfl ?_
  refine RL.nil ?_
  refine KQ.then_n ?_
  refine KC.seq ?_
  refine KC.region ?_
  refine cut_someE hF fun hq55 hF => ?_
  refine RL.eff (E.mks (enc := (eI .u8)) (zr := 0) hM sl31 ze5 rfl rfl (fun _ => rfl) rfl rfl rfl (of_decide_eq_true hq55)) rfl fun v w54 hv => ?_
  clear hM
  obtain ⟨A53, rfl, hM, hf⟩ := hv
  refine obindE hF fun y57 hx58 hF => ?_
  refine RL.call Try.func21 bd21 rfl rfl (c_ipsix_ParseChain _ 60 _ _ (List.replicate (Int.toNat 8) (0 : Int)) (hM.rd (i := 10) rfl) _ hx58) fun v w59 hv => ?_
  obtain ⟨A61, c62, css64, Z65, rfl, hN60⟩ := hv
  replace hM := hM.call hN60
  refine RL.val (O.move rfl) rfl ?_
  refine RL.val (O.ext rfl rfl) rfl ?_
  refine RL.val (O.ext rfl rfl) rfl ?_
  refine RL.val (O.ext rfl rfl) rfl ?_
  refine RL.eff (E.alloc hM ze24) rfl fun v w68 hv => ?_
  clear hM
  obtain ⟨g67, rfl, hM, hf⟩ := hv
  refine RL.effs (E.stB (j := 13) (off := 0) (vs := [.slice A61 (y57.1.f_Exts).length c62, .int .u8 y57.1.f_Proto]) (cs' := [.slice A61 (y57.1.f_Exts).length c62, .int .u8 y57.1.f_Proto]) hM rfl sz24 rfl (adds_eq [] rfl) rfl rfl (One.all rfl) rfl rfl) fun w70 hM1 => ?_
  clear hM
  have hM := hM1
  clear hM1
  refine RL.val (O.assign rfl) rfl ?_
  refine RL.val (O.assign rfl) rfl ?_
  refine RL.nil ?_
  refine KQ.then_n ?_
  refine KC.cut (fun a w79 => ∃ (t78 : Bool), Kn 106 [(0, .bool t78)] a ∧ Mem w [] w79 [] ∧ F_law06_works_j1 t78 = some r) ?_ ?_
  · refine KC.region ?_
    refine RL.val (O.move rfl) rfl ?_
    refine RL.val (O.eql rfl rfl) rfl ?_
    refine RL.val (O.move rfl) rfl ?_
    refine RL.bcase (t := 52) rfl (fun hc => ?_) (fun hc => ?_)
    · rw [if_pos hc] at hF
      refine RL.gval rfl rfl (O.move rfl) rfl ?_
      refine RL.gval rfl rfl (O.eql rfl rfl) rfl ?_
      refine RL.val (O.pickt rfl rfl) rfl ?_
      refine RL.val (O.move rfl) rfl ?_
      refine RL.bcase (t := 56) rfl (fun hc => ?_) (fun hc => ?_)
      · rw [if_pos hc] at hF
        refine RL.gval rfl rfl (O.move rfl) rfl ?_
        refine RL.geff rfl rfl (E.bsl (enc := (eI .u8)) (xs := ([6, 0, 0, 0, 0, 0, 0, 0] : List Int)) hM sl31 ze5 rfl rfl rfl (fun _ => rfl) rfl (by kernel_rfl) rfl) rfl fun v w71 hv => ?_
        clear hM
        obtain ⟨A72, rfl, hM, hf⟩ := hv
        refine obindE hF fun y74 hx75 hF => ?_
        refine RL.gcall rfl rfl Try.func15 bd15 rfl rfl (c_kit_SameBytes _ _ _ y11.1 (hM.rd (i := 2) rfl) _ _ ([6, 0, 0, 0, 0, 0, 0, 0] : List Int) (hM.rd (i := 14) rfl) _ hx75) fun v w76 hv => ?_
        obtain ⟨rfl, hN77⟩ := hv
        replace hM := hM.call0 hN77
        refine RL.val (O.pickt rfl rfl) rfl ?_
        refine RL.val (O.move rfl) rfl ?_
        refine RL.bcase (t := 61) rfl (fun hc => ?_) (fun hc => ?_)
        · rw [if_pos hc] at hF
          refine RL.gval rfl rfl (O.move rfl) rfl ?_
          refine RL.gval rfl rfl (O.eql rfl rfl) rfl ?_
          refine RL.val (O.pickt rfl rfl) rfl ?_
          refine RL.val (O.move rfl) rfl ?_
          refine RL.bcase (t := 65) rfl (fun hc => ?_) (fun hc => ?_)
          · rw [if_pos hc] at hF
            refine RL.gval rfl rfl (O.move rfl) rfl ?_
            refine RL.gval rfl rfl (O.eql rfl rfl) rfl ?_
            refine RL.val (O.pickt rfl rfl) rfl ?_
            refine RL.val (O.move rfl) rfl ?_
            refine RL.bcase (t := 69) rfl (fun hc => ?_) (fun hc => ?_)
            · rw [if_pos hc] at hF
              refine RL.gval rfl rfl (O.fldA fl24_1 (by decide) rfl) rfl ?_
              refine RL.gval rfl rfl (O.load sc5 rfl (Cs.adds [1] ((hM.bx (i := 6) rfl)) rfl)) rfl ?_
              refine RL.gval rfl rfl (O.eql rfl rfl) rfl ?_
              refine RL.val (O.pickt rfl rfl) rfl ?_
              refine RL.val (O.move rfl) rfl ?_
              refine RL.bcase (t := 74) rfl (fun hc => ?_) (fun hc => ?_)
              · rw [if_pos hc] at hF
                refine RL.gval rfl rfl (O.move rfl) rfl ?_
                refine RL.gval rfl rfl (O.eql rfl rfl) rfl ?_
                refine RL.val (O.pickt rfl rfl) rfl ?_
                refine RL.val (O.move rfl) rfl ?_
                refine RL.bcase (t := 78) rfl (fun hc => ?_) (fun hc => ?_)
                · rw [if_pos hc] at hF
                  refine RL.gval rfl rfl (O.move rfl) rfl ?_
                  refine RL.val (O.pickt rfl rfl) rfl ?_
                  refine RL.val (O.move rfl) rfl ?_
                  refine RL.bcase (t := 81) rfl (fun hc => ?_) (fun hc => ?_)
                  · rw [if_pos hc] at hF
                    refine RL.gval rfl rfl (O.move rfl) rfl ?_
                    refine RL.gval rfl rfl (O.eql rfl rfl) rfl ?_
                    refine RL.val (O.pickt rfl rfl) rfl ?_
                    refine RL.val (O.move rfl) rfl ?_
                    refine RL.bcase (t := 85) rfl (fun hc => ?_) (fun hc => ?_)
                    · rw [if_pos hc] at hF
                      refine RL.gval rfl rfl (O.move rfl) rfl ?_
                      refine RL.val (O.pickt rfl rfl) rfl ?_
                      refine RL.val (O.move rfl) rfl ?_
                      refine RL.bcase (t := 88) rfl (fun hc => ?_) (fun hc => ?_)
                      · rw [if_pos hc] at hF
                        refine RL.gval rfl rfl (O.move rfl) rfl ?_
                        refine RL.gval rfl rfl (O.eql rfl rfl) rfl ?_
                        refine RL.val (O.pickt rfl rfl) rfl ?_
                        refine RL.val (O.move rfl) rfl ?_
                        refine RL.bcase (t := 92) rfl (fun hc => ?_) (fun hc => ?_)
                        · rw [if_pos hc] at hF
                          refine RL.gval rfl rfl (O.move rfl) rfl ?_
                          refine RL.gval rfl rfl (O.eql rfl rfl) rfl ?_
                          refine RL.val (O.pickt rfl rfl) rfl ?_
                          refine RL.val (O.move rfl) rfl ?_
                          refine RL.bcase (t := 96) rfl (fun hc => ?_) (fun hc => ?_)
                          · rw [if_pos hc] at hF
                            refine RL.gval rfl rfl (O.fldA fl24_0 (by decide) rfl) rfl ?_
                            refine RL.gval rfl rfl (O.load sc22 rfl (Cs.adds [0] ((hM.bx (i := 9) rfl)) rfl)) rfl ?_
                            refine RL.gval rfl rfl (O.len sl22 rfl) rfl ?_
                            refine RL.gval rfl rfl (O.eql rfl rfl) rfl ?_
                            refine RL.val (O.pickt rfl rfl) rfl ?_
                            refine RL.val (O.move rfl) rfl ?_
                            refine RL.bcase (t := 102) rfl (fun hc => ?_) (fun hc => ?_)
                            · rw [if_pos hc] at hF
                              refine RL.gval rfl rfl (O.move rfl) rfl ?_
                              refine RL.gval rfl rfl (O.eql rfl rfl) rfl ?_
                              refine RL.val (O.pickt rfl rfl) rfl ?_
                              refine RL.val (O.assign rfl) rfl ?_
                              refine RL.nil ?_
                              refine KQ.then_k ?_
                              replace hM := hM.pick [] rfl (by decide)
                              exact fun a ha => ⟨(y57.2.2 == 60), ha.less (less_cons rfl less_nil), hM, hF⟩
                            · rw [if_neg (ne_true hc)] at hF
                              refine RL.gskip rfl rfl rfl rfl ?_
                              refine RL.gskip rfl rfl rfl rfl ?_
                              refine RL.val (O.pickf rfl rfl) rfl ?_
                              refine RL.val (O.assign rfl) rfl ?_
                              refine RL.nil ?_
                              refine KQ.then_k ?_
                              replace hM := hM.pick [] rfl (by decide)
                              exact fun a ha => ⟨false, ha.less (less_cons rfl less_nil), hM, hF⟩
                          · rw [if_neg (ne_true hc)] at hF
                            refine RL.brun1 9 105 false (by kernel_rfl) ?_
                            refine RL.val (O.assign rfl) rfl ?_
                            refine RL.nil ?_
                            refine KQ.then_k ?_
                            replace hM := hM.pick [] rfl (by decide)
                            exact fun a ha => ⟨false, ha.less (less_cons rfl less_nil), hM, hF⟩
                        · rw [if_neg (ne_true hc)] at hF
                          refine RL.brun1 13 105 false (by kernel_rfl) ?_
                          refine RL.val (O.assign rfl) rfl ?_
                          refine RL.nil ?_
                          refine KQ.then_k ?_
                          replace hM := hM.pick [] rfl (by decide)
                          exact fun a ha => ⟨false, ha.less (less_cons rfl less_nil), hM, hF⟩
                      · rw [if_neg (ne_true hc)] at hF
                        refine RL.brun1 17 105 false (by kernel_rfl) ?_
                        refine RL.val (O.assign rfl) rfl ?_
                        refine RL.nil ?_
                        refine KQ.then_k ?_
                        replace hM := hM.pick [] rfl (by decide)
                        exact fun a ha => ⟨false, ha.less (less_cons rfl less_nil), hM, hF⟩
                    · rw [if_neg (ne_true hc)] at hF
                      refine RL.brun1 20 105 false (by kernel_rfl) ?_
                      refine RL.val (O.assign rfl) rfl ?_
                      refine RL.nil ?_
                      refine KQ.then_k ?_
                      replace hM := hM.pick [] rfl (by decide)
                      exact fun a ha => ⟨false, ha.less (less_cons rfl less_nil), hM, hF⟩
                  · rw [if_neg (ne_true hc)] at hF
                    refine RL.brun1 24 105 false (by kernel_rfl) ?_
                    refine RL.val (O.assign rfl) rfl ?_
                    refine RL.nil ?_
                    refine KQ.then_k ?_
                    replace hM := hM.pick [] rfl (by decide)
                    exact fun a ha => ⟨false, ha.less (less_cons rfl less_nil), hM, hF⟩
                · rw [if_neg (ne_true hc)] at hF
                  refine RL.brun1 27 105 false (by kernel_rfl) ?_
                  refine RL.val (O.assign rfl) rfl ?_
                  refine RL.nil ?_
                  refine KQ.then_k ?_
                  replace hM := hM.pick [] rfl (by decide)
                  exact fun a ha => ⟨false, ha.less (less_cons rfl less_nil), hM, hF⟩
              · rw [if_neg (ne_true hc)] at hF
                refine RL.brun1 31 105 false (by kernel_rfl) ?_
                refine RL.val (O.assign rfl) rfl ?_
                refine RL.nil ?_
                refine KQ.then_k ?_
                replace hM := hM.pick [] rfl (by decide)
                exact fun a ha => ⟨false, ha.less (less_cons rfl less_nil), hM, hF⟩
            · rw [if_neg (ne_true hc)] at hF
              refine RL.brun1 36 105 false (by kernel_rfl) ?_
              refine RL.val (O.assign rfl) rfl ?_
              refine RL.nil ?_
              refine KQ.then_k ?_
              replace hM := hM.pick [] rfl (by decide)
              exact fun a ha => ⟨false, ha.less (less_cons rfl less_nil), hM, hF⟩
          · rw [if_neg (ne_true hc)] at hF
            refine RL.brun1 40 105 false (by kernel_rfl) ?_
            refine RL.val (O.assign rfl) rfl ?_
            refine RL.nil ?_
            refine KQ.then_k ?_
            replace hM := hM.pick [] rfl (by decide)
            exact fun a ha => ⟨false, ha.less (less_cons rfl less_nil), hM, hF⟩
        · rw [if_neg (ne_true hc)] at hF
          refine RL.brun1 44 105 false (by kernel_rfl) ?_
          refine RL.val (O.assign rfl) rfl ?_
          refine RL.nil ?_
          refine KQ.then_k ?_
          replace hM := hM.pick [] rfl (by decide)
          exact fun a ha => ⟨false, ha.less (less_cons rfl less_nil), hM, hF⟩
      · rw [if_neg (ne_true hc)] at hF
        refine RL.brun1 49 105 false (by kernel_rfl) ?_
        refine RL.val (O.assign rfl) rfl ?_
        refine RL.nil ?_
        refine KQ.then_k ?_
        replace hM := hM.pick [] rfl (by decide)
        exact fun a ha => ⟨false, ha.less (less_cons rfl less_nil), hM, hF⟩
    · rw [if_neg (ne_true hc)] at hF
      refine RL.brun1 53 105 false (by kernel_rfl) ?_
      refine RL.val (O.assign rfl) rfl ?_
      refine RL.nil ?_
      refine KQ.then_k ?_
      replace hM := hM.pick [] rfl (by decide)
      exact fun a ha => ⟨false, ha.less (less_cons rfl less_nil), hM, hF⟩
  · rintro a w79 ⟨t78, ha, hM, hF⟩
    refine KC.app ha ?_
    clear ha
    unfold F_law06_works_j1 at hF
    refine KC.ret ?_
    obtain rfl := Option.some.inj hF
    refine KQ.rets Try.results9 (RVs.cons (RV.tm rfl) RVs.nil) ?_
    exact ⟨_, rfl, rfl, hM⟩
set_option maxRecDepth 100000 in
set_option maxHeartbeats 40000000 in
theorem c_docs_Chain (w : World) (cv1 : T_ipsix_Chain) (A2 : Option Addr) (c3 : Nat) (hr4 : RdD R_ipsix_Ext [] w A2 c3 2 cv1.f_Exts) (r : T_ref06_Chain) (hF : F_docs_Chain cv1 = some r) :
    CallsR Try.prog 10 [.agg #[.slice A2 (cv1.f_Exts).length c3, .int .u8 cv1.f_Proto]] w (fun v w' => ∃ (A0 : Option Addr) (c0 : Nat), v = .agg #[.slice A0 (r.f_Exts).length c0, .int .u8 r.f_Proto] ∧ Mem w [] w' [.row A0 c0 76 2 r.f_Exts.length (r.f_Exts.flatMap e_ref06_Ext)]) := by
  refine calls_KC Try.func10 rfl Try.ntmps10 rfl ?_
  have hM := Mem.init w
  unfold F_docs_Chain at hF
  refine KC.seq ?_
  refine KC.region ?_
  refine RL.eff (E.box (vs := [.slice A2 (cv1.f_Exts).length c3, .int .u8 cv1.f_Proto]) hM rfl rfl) rfl fun v w6 hv => ?_
  clear hM
  obtain ⟨g5, rfl, hM, hf⟩ := hv
  refine RL.eff (E.alloc hM ze29) rfl fun v w9 hv => ?_
  clear hM
  obtain ⟨g8, rfl, hM, hf⟩ := hv
  refine RL.nil ?_
  refine KQ.then_n ?_
  refine KC.seq ?_
  refine KC.region ?_
  refine RL.val (O.fldA fl24_1 (by decide) rfl) rfl ?_
  refine RL.val (O.load sc5 rfl (Cs.adds [1] ((hM.bx (i := 0) rfl)) rfl)) rfl ?_
  refine RL.val (O.bld (cs := [.slice none 0 0, .int .u8 cv1.f_Proto]) bt29 rfl (by kernel_rfl)) rfl ?_
  refine RL.eff (E.alloc hM ze29) rfl fun v w12 hv => ?_
  clear hM
  obtain ⟨g11, rfl, hM, hf⟩ := hv
  refine RL.effs (E.stB (j := 2) (off := 0) (vs := [.slice none 0 0, .int .u8 cv1.f_Proto]) (cs' := [.slice none 0 0, .int .u8 cv1.f_Proto]) hM rfl sz29 rfl (adds_eq [] rfl) rfl rfl (One.all rfl) rfl rfl) fun w14 hM1 => ?_
  clear hM
  have hM := hM1
  clear hM1
  refine RL.nil ?_
  refine KQ.then_n ?_
  refine KC.seq ?_
  refine KC.seq ?_
  refine KC.region ?_
  refine RL.val (O.assign rfl) rfl ?_
  refine RL.nil ?_
  refine KQ.then_n ?_
  refine KC.block ?_
  refine KC.loop (fun k91 a w89 => ∃ (A85 : Option Addr) (c86 : Nat) (out87 : List T_ref06_Ext) (i88 : Int), Kn 35 [(1, .pointer (some ⟨g5, 0, none⟩)), (2, .pointer (some ⟨g8, 0, none⟩)), (3, .pointer (some ⟨g11, 0, none⟩)), (4, .int .i64 i88)] a ∧ Mem w [] w89 [.box g5 24 [.slice A2 (cv1.f_Exts).length c3, .int .u8 cv1.f_Proto], .box g8 29 [.slice none 0 0, .int .u8 0], .row A85 c86 76 2 (out87).length ((out87).flatMap e_ref06_Ext), .box g11 29 [.slice A85 (out87).length c86, .int .u8 cv1.f_Proto]] ∧ F_docs_Chain_L1 cv1 k91 out87 i88 = some r) ?_ ?_
  · replace hM := hM.nilrow 76 2
    replace hM := hM.pick [0, 1, 3, 2] rfl (by decide)
    exact fun a ha => ⟨fuel0, none, 0, ([]), 0, ha.less (less_cons rfl (less_cons rfl (less_cons rfl (less_cons rfl less_nil)))), hM, hF⟩
  · rintro k91 a w89 ⟨A85, c86, out87, i88, ha, hM, hF⟩
    refine KC.app ha ?_
    clear ha
    cases k91 with
    | zero => exact (none_some hF).elim
    | succ k91 =>
    have hF : F_docs_Chain_l1 (F_docs_Chain_L1 cv1 k91) cv1 out87 i88 = some r := hF
    unfold F_docs_Chain_l1 at hF
    refine KC.seq ?_
    refine KC.seq ?_
    refine KC.region ?_
    refine RL.val (O.move rfl) rfl ?_
    refine RL.val (O.fldA fl24_0 (by decide) rfl) rfl ?_
    refine RL.val (O.load sc22 rfl (Cs.adds [0] ((hM.bx (i := 0) rfl)) rfl)) rfl ?_
    refine RL.val (O.len sl22 rfl) rfl ?_
    refine RL.val (O.lss rfl rfl) rfl ?_
    refine RL.nil ?_
    refine KQ.then_n ?_
    refine KC.cond rfl (fun hc => ?_) (fun hc => ?_)
    · rw [if_pos hc] at hF
      refine KC.skip ?_
      refine KQ.then_n ?_
      refine KC.seq ?_
      refine KC.block ?_
      replace hM := hM.drewN 1
      refine KC.draw [] [17, 19] [16, 17, 19] [0, 2, 4, 6, 8, 10, 12, 18] (.ofList [0, 1, 2, 3, 4, 5, 6, 7, 8, 9, 10, 11, 12, 13, 14, 15, 16, 17, 18, 19]) moP (by kernel_rfl) ?_
      refine RD.p rfl rfl rfl rfl (fun w' => O.fldA fl29_0 (by decide) rfl) ?_
      refine RD.q rfl rfl rfl rfl (fun w' hf => O.load sc27 rfl (Cs.adds [0] ((hM.bx (i := 3) rfl).fut hf) rfl)) ?_
      refine RD.p rfl rfl rfl rfl (fun w' => O.fldA fl24_0 (by decide) rfl) ?_
      refine RD.q rfl rfl rfl rfl (fun w' hf => O.load sc22 rfl (Cs.adds [0] ((hM.bx (i := 0) rfl).fut hf) rfl)) ?_
      refine RD.p rfl rfl rfl rfl (fun w' => O.move rfl) ?_
      refine obindE hF fun xv94 hx93 hF => ?_
      obtain ⟨cs97, hA92, hR95, hO96⟩ := RdD.at hr4 hx93
      obtain ⟨A98, c99, rfl, hr100, ho101⟩ := hR95
      have hA92 := hA92.chg hM.chg hO96
      refine RD.q rfl rfl rfl rfl (fun w' hf => O.idxA sl22 (hA92.fut hf) rfl rfl) ?_
      refine RD.p rfl rfl rfl rfl (fun w' => O.fldA fl63_0 (by decide) rfl) ?_
      refine RD.q rfl rfl rfl rfl (fun w' hf => O.load sc5 rfl (Cs.adds [0] (hA92.fut hf).cells rfl)) ?_
      refine RD.p rfl rfl rfl rfl (fun w' => O.fldA fl24_0 (by decide) rfl) ?_
      refine RD.q rfl rfl rfl rfl (fun w' hf => O.load sc22 rfl (Cs.adds [0] ((hM.bx (i := 0) rfl).fut hf) rfl)) ?_
      refine RD.p rfl rfl rfl rfl (fun w' => O.move rfl) ?_
      refine obindE hF fun xv104 hx103 hF => ?_
      obtain ⟨cs107, hA102, hR105, hO106⟩ := RdD.at hr4 hx103
      obtain ⟨A108, c109, rfl, hr110, ho111⟩ := hR105
      have hA102 := hA102.chg hM.chg hO106
      refine RD.q rfl rfl rfl rfl (fun w' hf => O.idxA sl22 (hA102.fut hf) rfl rfl) ?_
      refine RD.p rfl rfl rfl rfl (fun w' => O.fldA fl63_1 (by decide) rfl) ?_
      refine RD.q rfl rfl rfl rfl (fun w' hf => O.load sc31 rfl (Cs.adds [1] (hA102.fut hf).cells rfl)) ?_
      refine RD.q rfl rfl rfl rfl (fun w' hf => O.b2s sl31 Try.underlying5 Try.underlying9 rfl ((hM.inp hr110 Off.nil).fut hf)) ?_
      refine RD.q rfl rfl rfl rfl (fun w' hf => O.bld (cs := [.int .u8 xv94.f_Kind, .string (strOfNums xv104.f_Data)]) bt76 rfl (by kernel_rfl)) ?_
      refine RD.meff rfl rfl (E.bsl (enc := e_ref06_Ext) (xs := ([(T_ref06_Ext.mk xv94.f_Kind (strOfNums xv104.f_Data))] : List T_ref06_Ext)) hM sl27 ze76 rfl rfl rfl (fun _ => rfl) rfl (by kernel_rfl) rfl) rfl fun v w112 hv => ?_
      clear hM
      obtain ⟨A113, rfl, hM, hf⟩ := hv
      refine ⟨fun _ => hf, ?_⟩
      refine cut_someE hF fun hq118 hF => ?_
      refine RD.meff rfl rfl (E.app (enc := e_ref06_Ext) (xs := out87) (ys := ([(T_ref06_Ext.mk xv94.f_Kind (strOfNums xv104.f_Data))] : List T_ref06_Ext)) (j := 2) hM rfl sl27 ze76 rfl rfl rfl rfl rfl (hM.rd (i := 4) rfl) (fun _ => One.all rfl) (of_decide_eq_true hq118)) rfl fun v w117 hv => ?_
      clear hM
      obtain ⟨A115, c116, rfl, hM, hf⟩ := hv
      refine ⟨fun h => (by cases h), ?_⟩
      refine RD.p rfl rfl rfl rfl (fun w' => O.fldA fl29_0 (by decide) rfl) ?_
      refine RD.meffs rfl rfl rfl (E.stB (j := 3) (off := 0) (vs := [.slice A115 ((out87 ++ ([(T_ref06_Ext.mk xv94.f_Kind (strOfNums xv104.f_Data))] : List T_ref06_Ext))).length c116]) (cs' := [.slice A115 ((out87 ++ ([(T_ref06_Ext.mk xv94.f_Kind (strOfNums xv104.f_Data))] : List T_ref06_Ext))).length c116, .int .u8 cv1.f_Proto]) hM rfl sz27 rfl (adds_eq [0] rfl) rfl rfl (One.all rfl) rfl rfl) fun w120 hM1 => ?_
      clear hM
      have hM := hM1
      clear hM1
      refine RD.nil ?_
      refine KQ.blk_n ?_
      refine KQ.then_n ?_
      refine KC.region ?_
      refine RL.val (O.move rfl) rfl ?_
      refine RL.val (O.add rfl rfl) rfl ?_
      refine RL.val (O.assign rfl) rfl ?_
      refine RL.nil ?_
      refine KQ.then_k ?_
      replace hM := hM.pick [0, 1, 2, 3] rfl (by decide)
      exact fun a ha => ⟨k91, Nat.lt_succ_self k91, A115, c116, (out87 ++ ([(T_ref06_Ext.mk xv94.f_Kind (strOfNums xv104.f_Data))] : List T_ref06_Ext)), (IntKind.i64.wrap (i88 + 1)), ha.less (less_cons rfl (less_cons rfl (less_cons rfl (less_cons rfl less_nil)))), hM, hF⟩
    · rw [if_neg (ne_true hc)] at hF
      refine KC.exit ?_
      refine KQ.then_x ?_
      refine KQ.then_x ?_
      refine KQ.blk_x ?_
      refine KQ.then_n ?_
      refine KC.seq ?_
      refine KC.region ?_
      refine RL.val (O.loadN (cs := [.slice A85 (out87).length c86, .int .u8 cv1.f_Proto]) ag29 rfl (Cs.addsN [] ((hM.bx (i := 3) rfl)) rfl)) rfl ?_
      refine RL.effs (E.stB (j := 1) (off := 0) (vs := [.slice A85 (out87).length c86, .int .u8 cv1.f_Proto]) (cs' := [.slice A85 (out87).length c86, .int .u8 cv1.f_Proto]) hM rfl sz29 rfl (adds_eq [] rfl) rfl rfl (One.all rfl) rfl rfl) fun w121 hM1 => ?_
      clear hM
      have hM := hM1
      clear hM1
      refine RL.nil ?_
      refine KQ.then_n ?_
      refine KC.ret ?_
      obtain rfl := Option.some.inj hF
      have hb122 := hM.bx (i := 1) rfl
      replace hM := hM.pick [2] rfl (by decide)
      refine KQ.rets Try.results10 (RVs.cons (RV.cN (cs := [.slice A85 (out87).length c86, .int .u8 cv1.f_Proto]) rfl ag29 hb122) RVs.nil) ?_
      exact ⟨_, rfl, A85, c86, rfl, hM⟩
set_option maxRecDepth 100000 in
set_option maxHeartbeats 40000000 in
theorem c_ref06_kind (w : World) (kv1 : Int) (r : Bool) (hF : F_ref06_kind kv1 = some r) :
    CallsR Try.prog 44 [.int .u8 kv1] w (fun v w' => v = .bool r ∧ Mem w [] w' []) := by
  refine calls_KC Try.func44 rfl Try.ntmps44 rfl ?_
  have hM := Mem.init w
  unfold F_ref06_kind at hF
  refine KC.seq ?_
  refine KC.region ?_
  refine RL.val (O.assign rfl) rfl ?_
  refine RL.nil ?_
  refine KQ.then_n ?_
  refine KC.cut (fun a w3 => ∃ (t2 : Bool), Kn 17 [(2, .bool t2)] a ∧ Mem w [] w3 [] ∧ F_ref06_kind_j1 t2 = some r) ?_ ?_
  · refine KC.region ?_
    refine RL.val (O.move rfl) rfl ?_
    refine RL.val (O.eql rfl rfl) rfl ?_
    refine RL.val (O.move rfl) rfl ?_
    refine RL.bcase (t := 5) rfl (fun hc => ?_) (fun hc => ?_)
    · rw [if_pos hc] at hF
      refine RL.brun1 11 16 true (by kernel_rfl) ?_
      refine RL.val (O.assign rfl) rfl ?_
      refine RL.nil ?_
      refine KQ.then_k ?_
      exact fun a ha => ⟨true, ha.less (less_cons rfl less_nil), hM, hF⟩
    · rw [if_neg (ne_true hc)] at hF
      refine RL.gval rfl rfl (O.move rfl) rfl ?_
      refine RL.gval rfl rfl (O.eql rfl rfl) rfl ?_
      refine RL.val (O.pickf rfl rfl) rfl ?_
      refine RL.val (O.move rfl) rfl ?_
      refine RL.bcase (t := 9) rfl (fun hc => ?_) (fun hc => ?_)
      · rw [if_pos hc] at hF
        refine RL.brun1 7 16 true (by kernel_rfl) ?_
        refine RL.val (O.assign rfl) rfl ?_
        refine RL.nil ?_
        refine KQ.then_k ?_
        exact fun a ha => ⟨true, ha.less (less_cons rfl less_nil), hM, hF⟩
      · rw [if_neg (ne_true hc)] at hF
        refine RL.gval rfl rfl (O.move rfl) rfl ?_
        refine RL.gval rfl rfl (O.eql rfl rfl) rfl ?_
        refine RL.val (O.pickf rfl rfl) rfl ?_
        refine RL.val (O.move rfl) rfl ?_
        refine RL.bcase (t := 13) rfl (fun hc => ?_) (fun hc => ?_)
        · rw [if_pos hc] at hF
          refine RL.gskip rfl rfl rfl rfl ?_
          refine RL.gskip rfl rfl rfl rfl ?_
          refine RL.val (O.pickt rfl rfl) rfl ?_
          refine RL.val (O.assign rfl) rfl ?_
          refine RL.nil ?_
          refine KQ.then_k ?_
          exact fun a ha => ⟨true, ha.less (less_cons rfl less_nil), hM, hF⟩
        · rw [if_neg (ne_true hc)] at hF
          refine RL.gval rfl rfl (O.move rfl) rfl ?_
          refine RL.gval rfl rfl (O.eql rfl rfl) rfl ?_
          refine RL.val (O.pickf rfl rfl) rfl ?_
          refine RL.val (O.assign rfl) rfl ?_
          refine RL.nil ?_
          refine KQ.then_k ?_
          exact fun a ha => ⟨(kv1 == 60), ha.less (less_cons rfl less_nil), hM, hF⟩
  · rintro a w3 ⟨t2, ha, hM, hF⟩
    refine KC.app ha ?_
    clear ha
    unfold F_ref06_kind_j1 at hF
    refine KC.ret ?_
    obtain rfl := Option.some.inj hF
    refine KQ.rets Try.results44 (RVs.cons (RV.tm rfl) RVs.nil) ?_
    exact ⟨_, rfl, rfl, hM⟩
set_option maxRecDepth 100000 in
set_option maxHeartbeats 40000000 in
theorem c_ref06_rightExt (w : World) (xv1 : T_ref06_Ext) (r : Bool) (hF : F_ref06_rightExt xv1 = some r) :
    CallsR Try.prog 42 [.agg #[.int .u8 xv1.f_Kind, .string xv1.f_Data]] w (fun v w' => v = .bool r ∧ Mem w [] w' []) := by
  refine calls_KC Try.func42 rfl Try.ntmps42 rfl ?_
  have hM := Mem.init w
  unfold F_ref06_rightExt at hF
  refine KC.seq ?_
  refine KC.region ?_
  refine RL.eff (E.box (vs := [.int .u8 xv1.f_Kind, .string xv1.f_Data]) hM rfl rfl) rfl fun v w3 hv => ?_
  clear hM
  obtain ⟨g2, rfl, hM, hf⟩ := hv
  refine RL.val (O.assign rfl) rfl ?_
  refine RL.nil ?_
  refine KQ.then_n ?_
  refine KC.seq ?_
  refine KC.region ?_
  refine RL.val (O.fldA fl76_1 (by decide) rfl) rfl ?_
  refine RL.val (O.load sc9 rfl (Cs.adds [1] ((hM.bx (i := 0) rfl)) rfl)) rfl ?_
  refine RL.val (O.lens Try.underlying9 rfl) rfl ?_
  refine RL.val (O.assign rfl) rfl ?_
  refine RL.nil ?_
  refine KQ.then_n ?_
  refine KC.seq ?_
  refine KC.seq ?_
  refine KC.region ?_
  refine RL.val (O.fldA fl76_0 (by decide) rfl) rfl ?_
  refine RL.val (O.load sc5 rfl (Cs.adds [0] ((hM.bx (i := 0) rfl)) rfl)) rfl ?_
  refine RL.val (O.eql rfl rfl) rfl ?_
  refine RL.nil ?_
  refine KQ.then_n ?_
  refine KC.cond rfl (fun hc => ?_) (fun hc => ?_)
  · rw [if_pos hc] at hF
    refine KC.cut (fun a w8 => ∃ (t7 : Bool), Kn 32 [(2, .bool t7)] a ∧ Mem w [] w8 [] ∧ F_ref06_rightExt_j1 t7 = some r) ?_ ?_
    · refine KC.region ?_
      refine RL.val (O.move rfl) rfl ?_
      refine RL.val (O.eql rfl rfl) rfl ?_
      refine RL.val (O.move rfl) rfl ?_
      refine RL.bcase (t := 12) rfl (fun hc => ?_) (fun hc => ?_)
      · rw [if_pos hc] at hF
        refine RL.gval rfl rfl (O.fldA fl76_1 (by decide) rfl) rfl ?_
        refine RL.gval rfl rfl (O.load sc9 rfl (Cs.adds [1] ((hM.bx (i := 0) rfl)) rfl)) rfl ?_
        refine obindE hF fun xv5 hx6 hF => ?_
        refine RL.gval rfl rfl (O.idxS Try.underlying9 hx6 rfl rfl) rfl ?_
        refine RL.gval rfl rfl (O.quo rfl rfl (by decide)) rfl ?_
        refine RL.gval rfl rfl (O.rem rfl rfl (by decide)) rfl ?_
        refine RL.gval rfl rfl (O.eql rfl rfl) rfl ?_
        refine RL.val (O.pickt rfl rfl) rfl ?_
        refine RL.val (O.assign rfl) rfl ?_
        refine RL.nil ?_
        refine KQ.then_k ?_
        replace hM := hM.pick [] rfl (by decide)
        exact fun a ha => ⟨((Int.tmod (IntKind.u8.wrap (Int.tdiv xv5 2)) 4) == 0), ha.less (less_cons rfl less_nil), hM, hF⟩
      · rw [if_neg (ne_true hc)] at hF
        refine RL.brun1 7 19 false (by kernel_rfl) ?_
        refine RL.val (O.assign rfl) rfl ?_
        refine RL.nil ?_
        refine KQ.then_k ?_
        replace hM := hM.pick [] rfl (by decide)
        exact fun a ha => ⟨false, ha.less (less_cons rfl less_nil), hM, hF⟩
    · rintro a w8 ⟨t7, ha, hM, hF⟩
      refine KC.app ha ?_
      clear ha
      unfold F_ref06_rightExt_j1 at hF
      refine KC.ret ?_
      refine KQ.then_r ?_
      obtain rfl := Option.some.inj hF
      refine KQ.rets Try.results42 (RVs.cons (RV.tm rfl) RVs.nil) ?_
      exact ⟨_, rfl, rfl, hM⟩
  · rw [if_neg (ne_true hc)] at hF
    refine KC.skip ?_
    refine KQ.then_n ?_
    refine KC.cut (fun a w14 => ∃ (t13 : Bool), Kn 32 [(2, .bool t13)] a ∧ Mem w [] w14 [] ∧ F_ref06_rightExt_j2 t13 = some r) ?_ ?_
    · refine KC.region ?_
      refine RL.val (O.fldA fl76_0 (by decide) rfl) rfl ?_
      refine RL.val (O.load sc5 rfl (Cs.adds [0] ((hM.bx (i := 0) rfl)) rfl)) rfl ?_
      refine obindE hF fun y9 hx10 hF => ?_
      refine RL.call Try.func44 bd44 rfl rfl (c_ref06_kind _ xv1.f_Kind _ hx10) fun v w11 hv => ?_
      obtain ⟨rfl, hN12⟩ := hv
      replace hM := hM.call0 hN12
      refine RL.val (O.move rfl) rfl ?_
      refine RL.bcase (t := 23) rfl (fun hc => ?_) (fun hc => ?_)
      · rw [if_pos hc] at hF
        refine RL.gval rfl rfl (O.move rfl) rfl ?_
        refine RL.gval rfl rfl (O.rem rfl rfl (by decide)) rfl ?_
        refine RL.gval rfl rfl (O.eql rfl rfl) rfl ?_
        refine RL.val (O.pickt rfl rfl) rfl ?_
        refine RL.val (O.move rfl) rfl ?_
        refine RL.bcase (t := 28) rfl (fun hc => ?_) (fun hc => ?_)
        · rw [if_pos hc] at hF
          refine RL.gval rfl rfl (O.move rfl) rfl ?_
          refine RL.gval rfl rfl (O.leq rfl rfl) rfl ?_
          refine RL.val (O.pickt rfl rfl) rfl ?_
          refine RL.val (O.assign rfl) rfl ?_
          refine RL.nil ?_
          refine KQ.then_k ?_
          replace hM := hM.pick [] rfl (by decide)
          exact fun a ha => ⟨(decide ((xv1.f_Data.size : Int) ≤ 2046)), ha.less (less_cons rfl less_nil), hM, hF⟩
        · rw [if_neg (ne_true hc)] at hF
          refine RL.gskip rfl rfl rfl rfl ?_
          refine RL.gskip rfl rfl rfl rfl ?_
          refine RL.val (O.pickf rfl rfl) rfl ?_
          refine RL.val (O.assign rfl) rfl ?_
          refine RL.nil ?_
          refine KQ.then_k ?_
          replace hM := hM.pick [] rfl (by decide)
          exact fun a ha => ⟨false, ha.less (less_cons rfl less_nil), hM, hF⟩
      · rw [if_neg (ne_true hc)] at hF
        refine RL.brun1 8 31 false (by kernel_rfl) ?_
        refine RL.val (O.assign rfl) rfl ?_
        refine RL.nil ?_
        refine KQ.then_k ?_
        replace hM := hM.pick [] rfl (by decide)
        exact fun a ha => ⟨false, ha.less (less_cons rfl less_nil), hM, hF⟩
    · rintro a w14 ⟨t13, ha, hM, hF⟩
      refine KC.app ha ?_
      clear ha
      unfold F_ref06_rightExt_j2 at hF
      refine KC.ret ?_
      obtain rfl := Option.some.inj hF
      refine KQ.rets Try.results42 (RVs.cons (RV.tm rfl) RVs.nil) ?_
      exact ⟨_, rfl, rfl, hM⟩
set_option maxRecDepth 100000 in
set_option maxHeartbeats 40000000 in
theorem c_ref06_later (w : World) (xv1 : T_ref06_Ext) (r : Bool) (hF : F_ref06_later xv1 = some r) :
    CallsR Try.prog 43 [.agg #[.int .u8 xv1.f_Kind, .string xv1.f_Data]] w (fun v w' => v = .bool r ∧ Mem w [] w' []) := by
  refine calls_KC Try.func43 rfl Try.ntmps43 rfl ?_
  have hM := Mem.init w
  unfold F_ref06_later at hF
  refine KC.seq ?_
  refine KC.region ?_
  refine RL.eff (E.box (vs := [.int .u8 xv1.f_Kind, .string xv1.f_Data]) hM rfl rfl) rfl fun v w3 hv => ?_
  clear hM
  obtain ⟨g2, rfl, hM, hf⟩ := hv
  refine RL.val (O.assign rfl) rfl ?_
  refine RL.nil ?_
  refine KQ.then_n ?_
  refine KC.cut (fun a w10 => ∃ (t9 : Bool), Kn 24 [(2, .bool t9)] a ∧ Mem w [] w10 [] ∧ F_ref06_later_j1 t9 = some r) ?_ ?_
  · refine KC.region ?_
    refine RL.val (O.fldA fl76_0 (by decide) rfl) rfl ?_
    refine RL.val (O.load sc5 rfl (Cs.adds [0] ((hM.bx (i := 0) rfl)) rfl)) rfl ?_
    refine RL.val (O.eql rfl rfl) rfl ?_
    refine RL.val (O.move rfl) rfl ?_
    refine RL.bcase (t := 6) rfl (fun hc => ?_) (fun hc => ?_)
    · rw [if_pos hc] at hF
      refine RL.gval rfl rfl (O.fldA fl76_1 (by decide) rfl) rfl ?_
      refine RL.gval rfl rfl (O.load sc9 rfl (Cs.adds [1] ((hM.bx (i := 0) rfl)) rfl)) rfl ?_
      refine RL.gval rfl rfl (O.lens Try.underlying9 rfl) rfl ?_
      refine RL.gval rfl rfl (O.gtr rfl rfl) rfl ?_
      refine RL.val (O.pickt rfl rfl) rfl ?_
      refine RL.val (O.move rfl) rfl ?_
      refine RL.bcase (t := 12) rfl (fun hc => ?_) (fun hc => ?_)
      · rw [if_pos hc] at hF
        refine RL.gval rfl rfl (O.fldA fl76_1 (by decide) rfl) rfl ?_
        refine RL.gval rfl rfl (O.load sc9 rfl (Cs.adds [1] ((hM.bx (i := 0) rfl)) rfl)) rfl ?_
        refine obindE hF fun xv5 hx6 hF => ?_
        refine RL.gval rfl rfl (O.idxS Try.underlying9 hx6 rfl rfl) rfl ?_
        refine RL.gval rfl rfl (O.gtr rfl rfl) rfl ?_
        refine RL.gval rfl rfl (O.move rfl) rfl ?_
        refine RL.bcase (t := 17) rfl (fun hc => ?_) (fun hc => ?_)
        · rw [if_pos hc] at hF
          refine RL.gskip rfl rfl rfl rfl ?_
          refine RL.gskip rfl rfl rfl rfl ?_
          refine RL.gskip rfl rfl rfl rfl ?_
          refine RL.gskip rfl rfl rfl rfl ?_
          refine RL.gval rfl rfl (O.pickt rfl rfl) rfl ?_
          refine RL.val (O.pickt rfl rfl) rfl ?_
          refine RL.val (O.assign rfl) rfl ?_
          refine RL.nil ?_
          refine KQ.then_k ?_
          replace hM := hM.pick [] rfl (by decide)
          exact fun a ha => ⟨true, ha.less (less_cons rfl less_nil), hM, hF⟩
        · rw [if_neg (ne_true hc)] at hF
          refine RL.gval rfl rfl (O.fldA fl76_1 (by decide) rfl) rfl ?_
          refine RL.gval rfl rfl (O.load sc9 rfl (Cs.adds [1] ((hM.bx (i := 0) rfl)) rfl)) rfl ?_
          refine obindE hF fun xv7 hx8 hF => ?_
          refine RL.gval rfl rfl (O.idxS Try.underlying9 hx8 rfl rfl) rfl ?_
          refine RL.gval rfl rfl (O.geq rfl rfl) rfl ?_
          refine RL.gval rfl rfl (O.pickf rfl rfl) rfl ?_
          refine RL.val (O.pickt rfl rfl) rfl ?_
          refine RL.val (O.assign rfl) rfl ?_
          refine RL.nil ?_
          refine KQ.then_k ?_
          replace hM := hM.pick [] rfl (by decide)
          exact fun a ha => ⟨(decide (8 ≤ xv7)), ha.less (less_cons rfl less_nil), hM, hF⟩
      · rw [if_neg (ne_true hc)] at hF
        refine RL.brun1 11 23 false (by kernel_rfl) ?_
        refine RL.val (O.assign rfl) rfl ?_
        refine RL.nil ?_
        refine KQ.then_k ?_
        replace hM := hM.pick [] rfl (by decide)
        exact fun a ha => ⟨false, ha.less (less_cons rfl less_nil), hM, hF⟩
    · rw [if_neg (ne_true hc)] at hF
      refine RL.brun1 17 23 false (by kernel_rfl) ?_
      refine RL.val (O.assign rfl) rfl ?_
      refine RL.nil ?_
      refine KQ.then_k ?_
      replace hM := hM.pick [] rfl (by decide)
      exact fun a ha => ⟨false, ha.less (less_cons rfl less_nil), hM, hF⟩
  · rintro a w10 ⟨t9, ha, hM, hF⟩
    refine KC.app ha ?_
    clear ha
    unfold F_ref06_later_j1 at hF
    refine KC.ret ?_
    obtain rfl := Option.some.inj hF
    refine KQ.rets Try.results43 (RVs.cons (RV.tm rfl) RVs.nil) ?_
    exact ⟨_, rfl, rfl, hM⟩
set_option maxRecDepth 100000 in
set_option maxHeartbeats 40000000 in
theorem c_ref06_Right (w : World) (cv1 : T_ref06_Chain) (A2 : Option Addr) (c3 : Nat) (hr4 : Rd w A2 c3 2 cv1.f_Exts.length (cv1.f_Exts.flatMap e_ref06_Ext)) (r : Bool) (hF : F_ref06_Right cv1 = some r) :
    CallsR Try.prog 17 [.agg #[.slice A2 (cv1.f_Exts).length c3, .int .u8 cv1.f_Proto]] w (fun v w' => v = .bool r ∧ Mem w [] w' []) := by
  refine calls_KC Try.func17 rfl Try.ntmps17 rfl ?_
  have hM := Mem.init w
  unfold F_ref06_Right at hF
  refine KC.seq ?_
  refine KC.region ?_
  refine RL.eff (E.box (vs := [.slice A2 (cv1.f_Exts).length c3, .int .u8 cv1.f_Proto]) hM rfl rfl) rfl fun v w6 hv => ?_
  clear hM
  obtain ⟨g5, rfl, hM, hf⟩ := hv
  refine RL.val (O.assign rfl) rfl ?_
  refine RL.nil ?_
  refine KQ.then_n ?_
  refine KC.seq ?_
  refine KC.seq ?_
  refine KC.region ?_
  refine RL.val (O.fldA fl29_0 (by decide) rfl) rfl ?_
  refine RL.val (O.load sc27 rfl (Cs.adds [0] ((hM.bx (i := 0) rfl)) rfl)) rfl ?_
  refine RL.val (O.len sl27 rfl) rfl ?_
  refine RL.val (O.gtr rfl rfl) rfl ?_
  refine RL.nil ?_
  refine KQ.then_n ?_
  refine KC.cond rfl (fun hc => ?_) (fun hc => ?_)
  · rw [if_pos hc] at hF
    refine KC.seq ?_
    refine KC.region ?_
    refine RL.val (O.assign rfl) rfl ?_
    refine RL.nil ?_
    refine KQ.then_n ?_
    refine KC.ret ?_
    refine KQ.then_r ?_
    obtain rfl := Option.some.inj hF
    replace hM := hM.pick [] rfl (by decide)
    refine KQ.rets Try.results17 (RVs.cons (RV.tm rfl) RVs.nil) ?_
    exact ⟨_, rfl, rfl, hM⟩
  · rw [if_neg (ne_true hc)] at hF
    refine KC.skip ?_
    refine KQ.then_n ?_
    refine KC.seq ?_
    refine KC.region ?_
    refine RL.val (O.assign rfl) rfl ?_
    refine RL.nil ?_
    refine KQ.then_n ?_
    refine KC.seq ?_
    refine KC.seq ?_
    refine KC.region ?_
    refine RL.val (O.assign rfl) rfl ?_
    refine RL.nil ?_
    refine KQ.then_n ?_
    refine KC.block ?_
    refine KC.loop (fun k54 a w52 => ∃ (last50 : Bool) (i51 : Int), Kn 46 [(1, .pointer (some ⟨g5, 0, none⟩)), (3, .bool last50), (4, .int .i64 i51)] a ∧ Mem w [] w52 [.box g5 29 [.slice A2 (cv1.f_Exts).length c3, .int .u8 cv1.f_Proto]] ∧ F_ref06_Right_L1 cv1 k54 last50 i51 = some r) ?_ ?_
    · exact fun a ha => ⟨fuel0, false, 0, ha.less (less_cons rfl (less_cons rfl (less_cons rfl less_nil))), hM, hF⟩
    · rintro k54 a w52 ⟨last50, i51, ha, hM, hF⟩
      refine KC.app ha ?_
      clear ha
      cases k54 with
      | zero => exact (none_some hF).elim
      | succ k54 =>
      have hF : F_ref06_Right_l1 (F_ref06_Right_L1 cv1 k54) cv1 last50 i51 = some r := hF
      unfold F_ref06_Right_l1 at hF
      refine KC.seq ?_
      refine KC.seq ?_
      refine KC.region ?_
      refine RL.val (O.move rfl) rfl ?_
      refine RL.val (O.fldA fl29_0 (by decide) rfl) rfl ?_
      refine RL.val (O.load sc27 rfl (Cs.adds [0] ((hM.bx (i := 0) rfl)) rfl)) rfl ?_
      refine RL.val (O.len sl27 rfl) rfl ?_
      refine RL.val (O.lss rfl rfl) rfl ?_
      refine RL.nil ?_
      refine KQ.then_n ?_
      refine KC.cond rfl (fun hc => ?_) (fun hc => ?_)
      · rw [if_pos hc] at hF
        refine KC.skip ?_
        refine KQ.then_n ?_
        refine KC.seq ?_
        refine KC.block ?_
        refine KC.seq ?_
        refine KC.region ?_
        refine RL.val (O.fldA fl29_0 (by decide) rfl) rfl ?_
        refine RL.val (O.load sc27 rfl (Cs.adds [0] ((hM.bx (i := 0) rfl)) rfl)) rfl ?_
        refine RL.val (O.move rfl) rfl ?_
        refine obindE hF fun xv57 hx56 hF => ?_
        have hA55 := Rd.atN (f := e_ref06_Ext) (s := 2) (fun _ => rfl) (by decide) (hM.inp hr4 Off.nil) hx56
        refine RL.val (O.idxA sl27 (hA55) rfl rfl) rfl ?_
        refine RL.val (O.loadN (cs := [.int .u8 xv57.f_Kind, .string xv57.f_Data]) ag76 rfl (hA55).cells) rfl ?_
        refine RL.eff (E.alloc hM ze76) rfl fun v w59 hv => ?_
        clear hM
        obtain ⟨g58, rfl, hM, hf⟩ := hv
        refine RL.effs (E.stB (j := 1) (off := 0) (vs := [.int .u8 xv57.f_Kind, .string xv57.f_Data]) (cs' := [.int .u8 xv57.f_Kind, .string xv57.f_Data]) hM rfl sz76 rfl (adds_eq [] rfl) rfl rfl (One.all rfl) rfl rfl) fun w61 hM1 => ?_
        clear hM
        have hM := hM1
        clear hM1
        refine RL.nil ?_
        refine KQ.then_n ?_
        refine KC.seq ?_
        refine KC.cut (fun a w69 => ∃ (t68 : Bool), Kn 46 [(1, .pointer (some ⟨g5, 0, none⟩)), (4, .int .i64 i51), (5, .pointer (some ⟨g58, 0, none⟩)), (36, .bool t68)] a ∧ Mem w [] w69 [.box g5 29 [.slice A2 (cv1.f_Exts).length c3, .int .u8 cv1.f_Proto], .box g58 76 [.int .u8 xv57.f_Kind, .string xv57.f_Data]] ∧ F_ref06_Right_j1 i51 (F_ref06_Right_L1 cv1 k54) xv57 t68 = some r) ?_ ?_
        · refine KC.region ?_
          refine RL.val (O.loadN (cs := [.int .u8 xv57.f_Kind, .string xv57.f_Data]) ag76 rfl (Cs.addsN [] ((hM.bx (i := 1) rfl)) rfl)) rfl ?_
          refine obindE hF fun y62 hx63 hF => ?_
          refine RL.call Try.func42 bd42 rfl rfl (c_ref06_rightExt _ xv57 _ hx63) fun v w64 hv => ?_
          obtain ⟨rfl, hN65⟩ := hv
          replace hM := hM.call0 hN65
          refine RL.val (O.not rfl) rfl ?_
          refine RL.val (O.move rfl) rfl ?_
          refine RL.bcase (t := 25) rfl (fun hc => ?_) (fun hc => ?_)
          · rw [if_pos hc] at hF
            refine RL.gskip rfl rfl rfl rfl ?_
            refine RL.gskip rfl rfl rfl rfl ?_
            refine RL.gskip rfl rfl rfl rfl ?_
            refine RL.gskip rfl rfl rfl rfl ?_
            refine RL.gskip' rfl rfl rfl ?_
            refine RL.gskip' rfl rfl rfl ?_
            refine RL.gskip rfl rfl rfl rfl ?_
            refine RL.val (O.pickt rfl rfl) rfl ?_
            refine RL.val (O.move rfl) rfl ?_
            refine RL.gskip rfl rfl rfl rfl ?_
            refine RL.val (O.pickt rfl rfl) rfl ?_
            refine RL.nil ?_
            refine KQ.then_k ?_
            exact fun a ha => ⟨true, ha.less (less_cons rfl (less_cons rfl (less_cons rfl (less_cons rfl less_nil)))), hM, hF⟩
          · rw [if_neg (ne_true hc)] at hF
            refine RL.gval rfl rfl (O.fldA fl76_0 (by decide) rfl) rfl ?_
            refine RL.gval rfl rfl (O.load sc5 rfl (Cs.adds [0] ((hM.bx (i := 1) rfl)) rfl)) rfl ?_
            refine RL.gval rfl rfl (O.eql rfl rfl) rfl ?_
            refine RL.gval rfl rfl (O.move rfl) rfl ?_
            refine RL.bcase (t := 29) rfl (fun hc => ?_) (fun hc => ?_)
            · rw [if_pos hc] at hF
              refine RL.gval rfl rfl (O.move rfl) rfl ?_
              refine RL.gval rfl rfl (O.gtr rfl rfl) rfl ?_
              refine RL.gval rfl rfl (O.pickt rfl rfl) rfl ?_
              refine RL.val (O.pickf rfl rfl) rfl ?_
              refine RL.val (O.move rfl) rfl ?_
              refine RL.bcase (t := 34) rfl (fun hc => ?_) (fun hc => ?_)
              · rw [if_pos hc] at hF
                refine RL.gskip rfl rfl rfl rfl ?_
                refine RL.val (O.pickt rfl rfl) rfl ?_
                refine RL.nil ?_
                refine KQ.then_k ?_
                exact fun a ha => ⟨true, ha.less (less_cons rfl (less_cons rfl (less_cons rfl (less_cons rfl less_nil)))), hM, hF⟩
              · rw [if_neg (ne_true hc)] at hF
                refine RL.gval rfl rfl (O.move rfl) rfl ?_
                refine RL.val (O.pickf rfl rfl) rfl ?_
                refine RL.nil ?_
                refine KQ.then_k ?_
                exact fun a ha => ⟨last50, ha.less (less_cons rfl (less_cons rfl (less_cons rfl (less_cons rfl less_nil)))), hM, hF⟩
            · rw [if_neg (ne_true hc)] at hF
              refine RL.gskip rfl rfl rfl rfl ?_
              refine RL.gskip rfl rfl rfl rfl ?_
              refine RL.gval rfl rfl (O.pickf rfl rfl) rfl ?_
              refine RL.val (O.pickf rfl rfl) rfl ?_
              refine RL.val (O.move rfl) rfl ?_
              refine RL.gval rfl rfl (O.move rfl) rfl ?_
              refine RL.val (O.pickf rfl rfl) rfl ?_
              refine RL.nil ?_
              refine KQ.then_k ?_
              exact fun a ha => ⟨last50, ha.less (less_cons rfl (less_cons rfl (less_cons rfl (less_cons rfl less_nil)))), hM, hF⟩
        · rintro a w69 ⟨t68, ha, hM, hF⟩
          refine KC.app ha ?_
          clear ha
          unfold F_ref06_Right_j1 at hF
          refine KC.cond rfl (fun hc => ?_) (fun hc => ?_)
          · rw [if_pos hc] at hF
            refine KC.seq ?_
            refine KC.region ?_
            refine RL.val (O.assign rfl) rfl ?_
            refine RL.nil ?_
            refine KQ.then_n ?_
            refine KC.ret ?_
            refine KQ.then_r ?_
            refine KQ.blk_r ?_
            refine KQ.then_r ?_
            refine KQ.then_r ?_
            refine KQ.blk_r ?_
            refine KQ.then_r ?_
            obtain rfl := Option.some.inj hF
            replace hM := hM.pick [] rfl (by decide)
            refine KQ.rets Try.results17 (RVs.cons (RV.tm rfl) RVs.nil) ?_
            exact ⟨_, rfl, rfl, hM⟩
          · rw [if_neg (ne_true hc)] at hF
            refine KC.skip ?_
            refine KQ.then_n ?_
            refine KC.region ?_
            refine RL.val (O.loadN (cs := [.int .u8 xv57.f_Kind, .string xv57.f_Data]) ag76 rfl (Cs.addsN [] ((hM.bx (i := 1) rfl)) rfl)) rfl ?_
            refine obindE hF fun y70 hx71 hF => ?_
            refine RL.call Try.func43 bd43 rfl rfl (c_ref06_later _ xv57 _ hx71) fun v w72 hv => ?_
            obtain ⟨rfl, hN73⟩ := hv
            replace hM := hM.call0 hN73
            refine RL.val (O.assign rfl) rfl ?_
            refine RL.nil ?_
            refine KQ.blk_n ?_
            refine KQ.then_n ?_
            refine KC.region ?_
            refine RL.val (O.move rfl) rfl ?_
            refine RL.val (O.add rfl rfl) rfl ?_
            refine RL.val (O.assign rfl) rfl ?_
            refine RL.nil ?_
            refine KQ.then_k ?_
            replace hM := hM.pick [0] rfl (by decide)
            exact fun a ha => ⟨k54, Nat.lt_succ_self k54, y70, (IntKind.i64.wrap (i51 + 1)), ha.less (less_cons rfl (less_cons rfl (less_cons rfl less_nil))), hM, hF⟩
      · rw [if_neg (ne_true hc)] at hF
        refine KC.exit ?_
        refine KQ.then_x ?_
        refine KQ.then_x ?_
        refine KQ.blk_x ?_
        refine KQ.then_n ?_
        refine KC.cut (fun a w79 => ∃ (t78 : Bool), Kn 46 [(2, .bool t78)] a ∧ Mem w [] w79 [] ∧ F_ref06_Right_j2 t78 = some r) ?_ ?_
        · refine KC.region ?_
          refine RL.val (O.move rfl) rfl ?_
          refine RL.val (O.move rfl) rfl ?_
          refine RL.bcase (t := 40) rfl (fun hc => ?_) (fun hc => ?_)
          · rw [if_pos hc] at hF
            refine RL.brun1 5 45 true (by kernel_rfl) ?_
            refine RL.val (O.assign rfl) rfl ?_
            refine RL.nil ?_
            refine KQ.then_k ?_
            replace hM := hM.pick [] rfl (by decide)
            exact fun a ha => ⟨true, ha.less (less_cons rfl less_nil), hM, hF⟩
          · rw [if_neg (ne_true hc)] at hF
            refine RL.gval rfl rfl (O.fldA fl29_1 (by decide) rfl) rfl ?_
            refine RL.gval rfl rfl (O.load sc5 rfl (Cs.adds [1] ((hM.bx (i := 0) rfl)) rfl)) rfl ?_
            refine obindE hF fun y74 hx75 hF => ?_
            refine RL.gcall rfl rfl Try.func44 bd44 rfl rfl (c_ref06_kind _ cv1.f_Proto _ hx75) fun v w76 hv => ?_
            obtain ⟨rfl, hN77⟩ := hv
            replace hM := hM.call0 hN77
            refine RL.gval rfl rfl (O.not rfl) rfl ?_
            refine RL.val (O.pickf rfl rfl) rfl ?_
            refine RL.val (O.assign rfl) rfl ?_
            refine RL.nil ?_
            refine KQ.then_k ?_
            replace hM := hM.pick [] rfl (by decide)
            exact fun a ha => ⟨(!y74), ha.less (less_cons rfl less_nil), hM, hF⟩
        · rintro a w79 ⟨t78, ha, hM, hF⟩
          refine KC.app ha ?_
          clear ha
          unfold F_ref06_Right_j2 at hF
          refine KC.ret ?_
          obtain rfl := Option.some.inj hF
          refine KQ.rets Try.results17 (RVs.cons (RV.tm rfl) RVs.nil) ?_
          exact ⟨_, rfl, rfl, hM⟩
end Go.Proofs.Ytikjomacnbemhaa
