/- Printed by a program of this claim: each call returns what the plain function of its name gives. -/
import Derived.Test.YtikjomacnbemhaaW5
set_option linter.unusedVariables false
namespace Go.Proofs.Ytikjomacnbemhaa
open Go Go.Ox Go.RowKit
set_option maxRecDepth 100000 in
set_option maxHeartbeats 40000000 in
theorem c_law06_IpsixChains (w : World) (cv1 : T_ipsix_Chain) (A2 : Option Addr) (c3 : Nat) (hr4 : RdD R_ipsix_Ext [] w A2 c3 2 cv1.f_Exts) (other5 : T_ipsix_Chain) (A6 : Option Addr) (c7 : Nat) (hr8 : RdD R_ipsix_Ext [] w A6 c7 2 other5.f_Exts) (r : Bool) (hF : F_law06_IpsixChains cv1 other5 = some r) :
    CallsR Try.prog 3 [.agg #[.slice A2 (cv1.f_Exts).length c3, .int .u8 cv1.f_Proto], .agg #[.slice A6 (other5.f_Exts).length c7, .int .u8 other5.f_Proto]] w (fun v w' => v = .bool r ∧ Mem w [] w' []) := by
  refine calls_KC Try.func3 rfl Try.ntmps3 rfl ?_
  have hM := Mem.init w
  unfold F_law06_IpsixChains at hF
  refine KC.seq ?_
  refine KC.region ?_
  refine RL.eff (E.box (vs := [.slice A2 (cv1.f_Exts).length c3, .int .u8 cv1.f_Proto]) hM rfl rfl) rfl fun v w10 hv => ?_
  clear hM
  obtain ⟨g9, rfl, hM, hf⟩ := hv
  refine RL.eff (E.box (vs := [.slice A6 (other5.f_Exts).length c7, .int .u8 other5.f_Proto]) hM rfl rfl) rfl fun v w13 hv => ?_
  clear hM
  obtain ⟨g12, rfl, hM, hf⟩ := hv
  refine RL.val (O.assign rfl) rfl ?_
  refine RL.nil ?_
  refine KQ.then_n ?_
  refine KC.seq ?_
  refine KC.cut (fun a w26 => ∃ (t25 : Bool), Kn 123 [(2, .pointer (some ⟨g9, 0, none⟩)), (3, .pointer (some ⟨g12, 0, none⟩)), (28, .bool t25)] a ∧ Mem w [] w26 [.box g9 24 [.slice A2 (cv1.f_Exts).length c3, .int .u8 cv1.f_Proto], .box g12 24 [.slice A6 (other5.f_Exts).length c7, .int .u8 other5.f_Proto]] ∧ F_law06_IpsixChains_j1 cv1 other5 t25 = some r) ?_ ?_
  · refine KC.region ?_
    refine RL.val (O.loadN (cs := [.slice A2 (cv1.f_Exts).length c3, .int .u8 cv1.f_Proto]) ag24 rfl (Cs.addsN [] ((hM.bx (i := 0) rfl)) rfl)) rfl ?_
    refine obindE hF fun y15 hx16 hF => ?_
    refine RL.call Try.func8 bd8 rfl rfl (c_law06_few _ cv1 _ _ (hr4.chg mv_ipsix_Ext hM.chg) _ hx16) fun v w17 hv => ?_
    obtain ⟨rfl, hN18⟩ := hv
    replace hM := hM.call0 hN18
    refine RL.val (O.not rfl) rfl ?_
    refine RL.val (O.move rfl) rfl ?_
    refine RL.bcase (t := 24) rfl (fun hc => ?_) (fun hc => ?_)
    · rw [if_pos hc] at hF
      refine RL.brun1 4 28 true (by kernel_rfl) ?_
      refine RL.nil ?_
      refine KQ.then_k ?_
      exact fun a ha => ⟨true, ha.less (less_cons rfl (less_cons rfl (less_cons rfl less_nil))), hM, hF⟩
    · rw [if_neg (ne_true hc)] at hF
      refine RL.gval rfl rfl (O.loadN (cs := [.slice A6 (other5.f_Exts).length c7, .int .u8 other5.f_Proto]) ag24 rfl (Cs.addsN [] ((hM.bx (i := 1) rfl)) rfl)) rfl ?_
      refine obindE hF fun y19 hx20 hF => ?_
      refine RL.gcall rfl rfl Try.func8 bd8 rfl rfl (c_law06_few _ other5 _ _ (hr8.chg mv_ipsix_Ext hM.chg) _ hx20) fun v w21 hv => ?_
      obtain ⟨rfl, hN22⟩ := hv
      replace hM := hM.call0 hN22
      refine RL.gval rfl rfl (O.not rfl) rfl ?_
      refine RL.val (O.pickf rfl rfl) rfl ?_
      refine RL.nil ?_
      refine KQ.then_k ?_
      exact fun a ha => ⟨(!y19), ha.less (less_cons rfl (less_cons rfl (less_cons rfl less_nil))), hM, hF⟩
  · rintro a w26 ⟨t25, ha, hM, hF⟩
    refine KC.app ha ?_
    clear ha
    unfold F_law06_IpsixChains_j1 at hF
    refine KC.cond rfl (fun hc => ?_) (fun hc => ?_)
    · rw [if_pos hc] at hF
      refine KC.seq ?_
      refine KC.region ?_
      refine obindE hF fun y27 hx28 hF => ?_
      refine RL.call Try.func9 bd9 rfl rfl (c_law06_works _ _ hx28) fun v w29 hv => ?_
      obtain ⟨rfl, hN30⟩ := hv
      replace hM := hM.call0 hN30
      refine RL.val (O.assign rfl) rfl ?_
      refine RL.nil ?_
      refine KQ.then_n ?_
      refine KC.ret ?_
      refine KQ.then_r ?_
      obtain rfl := Option.some.inj hF
      replace hM := hM.pick [] rfl (by decide)
      refine KQ.rets Try.results3 (RVs.cons (RV.tm rfl) RVs.nil) ?_
      exact ⟨_, rfl, rfl, hM⟩
    · rw [if_neg (ne_true hc)] at hF
      refine KC.skip ?_
      refine KQ.then_n ?_
      refine KC.cut (fun a w237 => ∃ (g224 : Nat) (A226 : Option Addr) (c227 : Nat) (g231 : Nat) (A233 : Option Addr) (c234 : Nat) (rv228 : List T_ref06_Ext) (rv229 : Int) (o235 : List T_ref06_Ext) (o236 : Int), Kn 123 [(2, .pointer (some ⟨g9, 0, none⟩)), (3, .pointer (some ⟨g12, 0, none⟩)), (5, .pointer (some ⟨g224, 0, none⟩)), (6, .pointer (some ⟨g231, 0, none⟩))] a ∧ Mem w [] w237 [.box g9 24 [.slice A2 (cv1.f_Exts).length c3, .int .u8 cv1.f_Proto], .box g12 24 [.slice A6 (other5.f_Exts).length c7, .int .u8 other5.f_Proto], .row A226 c227 76 2 (rv228).length ((rv228).flatMap e_ref06_Ext), .box g224 29 [.slice A226 (rv228).length c227, .int .u8 rv229], .row A233 c234 76 2 (o235).length ((o235).flatMap e_ref06_Ext), .box g231 29 [.slice A233 (o235).length c234, .int .u8 o236]] ∧ F_law06_IpsixChains_j2 cv1 other5 rv228 rv229 o235 o236 = some r) ?_ ?_
      · replace hM := hM.drewN 1
        refine KC.draw [] [6, 7] [1, 3, 4, 5, 6, 7] [] (.cons 0 (.cons 2 (.alt3 1 (.alt3 3 (.alt 4 (.ofList [5, 6, 7]) 5 (.ofList [4, 6, 7])) 4 (.alt 3 (.ofList [5, 6, 7]) 5 (.ofList [3, 6, 7])) 5 (.alt 3 (.ofList [4, 6, 7]) 4 (.ofList [3, 6, 7]))) 4 (.alt 1 (.alt 3 (.ofList [5, 6, 7]) 5 (.ofList [3, 6, 7])) 5 (.ofList [1, 3, 6, 7])) 5 (.alt 1 (.alt 3 (.ofList [4, 6, 7]) 4 (.ofList [3, 6, 7])) 4 (.ofList [1, 3, 6, 7]))))) moP (by kernel_rfl) ?_
        refine RD.q rfl rfl rfl rfl (fun w' hf => O.loadN (cs := [.slice A2 (cv1.f_Exts).length c3, .int .u8 cv1.f_Proto]) ag24 rfl (Cs.addsN [] ((hM.bx (i := 0) rfl).fut hf) rfl)) ?_
        refine RD.q rfl rfl rfl rfl (fun w' hf => O.loadN (cs := [.slice A6 (other5.f_Exts).length c7, .int .u8 other5.f_Proto]) ag24 rfl (Cs.addsN [] ((hM.bx (i := 1) rfl).fut hf) rfl)) ?_
        refine RD.alt3 ?_ ?_ ?_
        · refine obindE hF fun y31 hx32 hF => ?_
          refine RD.mcall rfl rfl trivial Try.func10 bd10 rfl rfl (c_docs_Chain _ cv1 _ _ (hr4.chg mv_ipsix_Ext hM.chg) _ hx32) fun v w33 hv => ?_
          obtain ⟨A35, c36, rfl, hN34⟩ := hv
          refine ⟨fun _ => hN34.fut, ?_⟩
          replace hM := hM.call hN34
          refine RD.alt3 ?_ ?_ ?_
          · refine obindE hF fun y38 hx39 hF => ?_
            refine RD.mcall rfl rfl trivial Try.func10 bd10 rfl rfl (c_docs_Chain _ other5 _ _ (hr8.chg mv_ipsix_Ext hM.chg) _ hx39) fun v w40 hv => ?_
            obtain ⟨A42, c43, rfl, hN41⟩ := hv
            refine ⟨fun _ => hN41.fut, ?_⟩
            replace hM := hM.call hN41
            refine RD.alt ?_ ?_
            · refine RD.meff rfl rfl (E.alloc hM ze29) rfl fun v w46 hv => ?_
              clear hM
              obtain ⟨g45, rfl, hM, hf⟩ := hv
              refine ⟨fun _ => hf, ?_⟩
              refine RD.meff rfl rfl (E.alloc hM ze29) rfl fun v w49 hv => ?_
              clear hM
              obtain ⟨g48, rfl, hM, hf⟩ := hv
              refine ⟨fun _ => hf, ?_⟩
              refine RD.meffs rfl rfl rfl (E.stB (j := 4) (off := 0) (vs := [.slice A35 (y31.f_Exts).length c36, .int .u8 y31.f_Proto]) (cs' := [.slice A35 (y31.f_Exts).length c36, .int .u8 y31.f_Proto]) hM rfl sz29 rfl (adds_eq [] rfl) rfl rfl (One.all rfl) rfl rfl) fun w51 hM1 => ?_
              clear hM
              have hM := hM1
              clear hM1
              refine RD.meffs rfl rfl rfl (E.stB (j := 5) (off := 0) (vs := [.slice A42 (y38.f_Exts).length c43, .int .u8 y38.f_Proto]) (cs' := [.slice A42 (y38.f_Exts).length c43, .int .u8 y38.f_Proto]) hM rfl sz29 rfl (adds_eq [] rfl) rfl rfl (One.all rfl) rfl rfl) fun w52 hM1 => ?_
              clear hM
              have hM := hM1
              clear hM1
              refine RD.nil ?_
              refine KQ.then_k ?_
              replace hM := hM.pick [0, 1, 2, 4, 3, 5] rfl (by decide)
              exact fun a ha => ⟨g45, A35, c36, g48, A42, c43, y31.f_Exts, y31.f_Proto, y38.f_Exts, y38.f_Proto, ha.less (less_cons rfl (less_cons rfl (less_cons rfl (less_cons rfl less_nil)))), hM, hF⟩
            · refine RD.meff rfl rfl (E.alloc hM ze29) rfl fun v w54 hv => ?_
              clear hM
              obtain ⟨g53, rfl, hM, hf⟩ := hv
              refine ⟨fun _ => hf, ?_⟩
              refine RD.meff rfl rfl (E.alloc hM ze29) rfl fun v w57 hv => ?_
              clear hM
              obtain ⟨g56, rfl, hM, hf⟩ := hv
              refine ⟨fun _ => hf, ?_⟩
              refine RD.meffs rfl rfl rfl (E.stB (j := 5) (off := 0) (vs := [.slice A35 (y31.f_Exts).length c36, .int .u8 y31.f_Proto]) (cs' := [.slice A35 (y31.f_Exts).length c36, .int .u8 y31.f_Proto]) hM rfl sz29 rfl (adds_eq [] rfl) rfl rfl (One.all rfl) rfl rfl) fun w59 hM1 => ?_
              clear hM
              have hM := hM1
              clear hM1
              refine RD.meffs rfl rfl rfl (E.stB (j := 4) (off := 0) (vs := [.slice A42 (y38.f_Exts).length c43, .int .u8 y38.f_Proto]) (cs' := [.slice A42 (y38.f_Exts).length c43, .int .u8 y38.f_Proto]) hM rfl sz29 rfl (adds_eq [] rfl) rfl rfl (One.all rfl) rfl rfl) fun w60 hM1 => ?_
              clear hM
              have hM := hM1
              clear hM1
              refine RD.nil ?_
              refine KQ.then_k ?_
              replace hM := hM.pick [0, 1, 2, 5, 3, 4] rfl (by decide)
              exact fun a ha => ⟨g56, A35, c36, g53, A42, c43, y31.f_Exts, y31.f_Proto, y38.f_Exts, y38.f_Proto, ha.less (less_cons rfl (less_cons rfl (less_cons rfl (less_cons rfl less_nil)))), hM, hF⟩
          · refine RD.meff rfl rfl (E.alloc hM ze29) rfl fun v w62 hv => ?_
            clear hM
            obtain ⟨g61, rfl, hM, hf⟩ := hv
            refine ⟨fun _ => hf, ?_⟩
            refine RD.alt ?_ ?_
            · refine obindE hF fun y64 hx65 hF => ?_
              refine RD.mcall rfl rfl trivial Try.func10 bd10 rfl rfl (c_docs_Chain _ other5 _ _ (hr8.chg mv_ipsix_Ext hM.chg) _ hx65) fun v w66 hv => ?_
              obtain ⟨A68, c69, rfl, hN67⟩ := hv
              refine ⟨fun _ => hN67.fut, ?_⟩
              replace hM := hM.call hN67
              refine RD.meff rfl rfl (E.alloc hM ze29) rfl fun v w72 hv => ?_
              clear hM
              obtain ⟨g71, rfl, hM, hf⟩ := hv
              refine ⟨fun _ => hf, ?_⟩
              refine RD.meffs rfl rfl rfl (E.stB (j := 3) (off := 0) (vs := [.slice A35 (y31.f_Exts).length c36, .int .u8 y31.f_Proto]) (cs' := [.slice A35 (y31.f_Exts).length c36, .int .u8 y31.f_Proto]) hM rfl sz29 rfl (adds_eq [] rfl) rfl rfl (One.all rfl) rfl rfl) fun w74 hM1 => ?_
              clear hM
              have hM := hM1
              clear hM1
              refine RD.meffs rfl rfl rfl (E.stB (j := 5) (off := 0) (vs := [.slice A68 (y64.f_Exts).length c69, .int .u8 y64.f_Proto]) (cs' := [.slice A68 (y64.f_Exts).length c69, .int .u8 y64.f_Proto]) hM rfl sz29 rfl (adds_eq [] rfl) rfl rfl (One.all rfl) rfl rfl) fun w75 hM1 => ?_
              clear hM
              have hM := hM1
              clear hM1
              refine RD.nil ?_
              refine KQ.then_k ?_
              exact fun a ha => ⟨g61, A35, c36, g71, A68, c69, y31.f_Exts, y31.f_Proto, y64.f_Exts, y64.f_Proto, ha.less (less_cons rfl (less_cons rfl (less_cons rfl (less_cons rfl less_nil)))), hM, hF⟩
            · refine RD.meff rfl rfl (E.alloc hM ze29) rfl fun v w77 hv => ?_
              clear hM
              obtain ⟨g76, rfl, hM, hf⟩ := hv
              refine ⟨fun _ => hf, ?_⟩
              refine obindE hF fun y79 hx80 hF => ?_
              refine RD.mcall rfl rfl trivial Try.func10 bd10 rfl rfl (c_docs_Chain _ other5 _ _ (hr8.chg mv_ipsix_Ext hM.chg) _ hx80) fun v w81 hv => ?_
              obtain ⟨A83, c84, rfl, hN82⟩ := hv
              refine ⟨fun _ => hN82.fut, ?_⟩
              replace hM := hM.call hN82
              refine RD.meffs rfl rfl rfl (E.stB (j := 3) (off := 0) (vs := [.slice A35 (y31.f_Exts).length c36, .int .u8 y31.f_Proto]) (cs' := [.slice A35 (y31.f_Exts).length c36, .int .u8 y31.f_Proto]) hM rfl sz29 rfl (adds_eq [] rfl) rfl rfl (One.all rfl) rfl rfl) fun w86 hM1 => ?_
              clear hM
              have hM := hM1
              clear hM1
              refine RD.meffs rfl rfl rfl (E.stB (j := 4) (off := 0) (vs := [.slice A83 (y79.f_Exts).length c84, .int .u8 y79.f_Proto]) (cs' := [.slice A83 (y79.f_Exts).length c84, .int .u8 y79.f_Proto]) hM rfl sz29 rfl (adds_eq [] rfl) rfl rfl (One.all rfl) rfl rfl) fun w87 hM1 => ?_
              clear hM
              have hM := hM1
              clear hM1
              refine RD.nil ?_
              refine KQ.then_k ?_
              replace hM := hM.pick [0, 1, 2, 3, 5, 4] rfl (by decide)
              exact fun a ha => ⟨g61, A35, c36, g76, A83, c84, y31.f_Exts, y31.f_Proto, y79.f_Exts, y79.f_Proto, ha.less (less_cons rfl (less_cons rfl (less_cons rfl (less_cons rfl less_nil)))), hM, hF⟩
          · refine RD.meff rfl rfl (E.alloc hM ze29) rfl fun v w89 hv => ?_
            clear hM
            obtain ⟨g88, rfl, hM, hf⟩ := hv
            refine ⟨fun _ => hf, ?_⟩
            refine RD.alt ?_ ?_
            · refine obindE hF fun y91 hx92 hF => ?_
              refine RD.mcall rfl rfl trivial Try.func10 bd10 rfl rfl (c_docs_Chain _ other5 _ _ (hr8.chg mv_ipsix_Ext hM.chg) _ hx92) fun v w93 hv => ?_
              obtain ⟨A95, c96, rfl, hN94⟩ := hv
              refine ⟨fun _ => hN94.fut, ?_⟩
              replace hM := hM.call hN94
              refine RD.meff rfl rfl (E.alloc hM ze29) rfl fun v w99 hv => ?_
              clear hM
              obtain ⟨g98, rfl, hM, hf⟩ := hv
              refine ⟨fun _ => hf, ?_⟩
              refine RD.meffs rfl rfl rfl (E.stB (j := 5) (off := 0) (vs := [.slice A35 (y31.f_Exts).length c36, .int .u8 y31.f_Proto]) (cs' := [.slice A35 (y31.f_Exts).length c36, .int .u8 y31.f_Proto]) hM rfl sz29 rfl (adds_eq [] rfl) rfl rfl (One.all rfl) rfl rfl) fun w101 hM1 => ?_
              clear hM
              have hM := hM1
              clear hM1
              refine RD.meffs rfl rfl rfl (E.stB (j := 3) (off := 0) (vs := [.slice A95 (y91.f_Exts).length c96, .int .u8 y91.f_Proto]) (cs' := [.slice A95 (y91.f_Exts).length c96, .int .u8 y91.f_Proto]) hM rfl sz29 rfl (adds_eq [] rfl) rfl rfl (One.all rfl) rfl rfl) fun w102 hM1 => ?_
              clear hM
              have hM := hM1
              clear hM1
              refine RD.nil ?_
              refine KQ.then_k ?_
              replace hM := hM.pick [0, 1, 2, 5, 4, 3] rfl (by decide)
              exact fun a ha => ⟨g98, A35, c36, g88, A95, c96, y31.f_Exts, y31.f_Proto, y91.f_Exts, y91.f_Proto, ha.less (less_cons rfl (less_cons rfl (less_cons rfl (less_cons rfl less_nil)))), hM, hF⟩
            · refine RD.meff rfl rfl (E.alloc hM ze29) rfl fun v w104 hv => ?_
              clear hM
              obtain ⟨g103, rfl, hM, hf⟩ := hv
              refine ⟨fun _ => hf, ?_⟩
              refine obindE hF fun y106 hx107 hF => ?_
              refine RD.mcall rfl rfl trivial Try.func10 bd10 rfl rfl (c_docs_Chain _ other5 _ _ (hr8.chg mv_ipsix_Ext hM.chg) _ hx107) fun v w108 hv => ?_
              obtain ⟨A110, c111, rfl, hN109⟩ := hv
              refine ⟨fun _ => hN109.fut, ?_⟩
              replace hM := hM.call hN109
              refine RD.meffs rfl rfl rfl (E.stB (j := 4) (off := 0) (vs := [.slice A35 (y31.f_Exts).length c36, .int .u8 y31.f_Proto]) (cs' := [.slice A35 (y31.f_Exts).length c36, .int .u8 y31.f_Proto]) hM rfl sz29 rfl (adds_eq [] rfl) rfl rfl (One.all rfl) rfl rfl) fun w113 hM1 => ?_
              clear hM
              have hM := hM1
              clear hM1
              refine RD.meffs rfl rfl rfl (E.stB (j := 3) (off := 0) (vs := [.slice A110 (y106.f_Exts).length c111, .int .u8 y106.f_Proto]) (cs' := [.slice A110 (y106.f_Exts).length c111, .int .u8 y106.f_Proto]) hM rfl sz29 rfl (adds_eq [] rfl) rfl rfl (One.all rfl) rfl rfl) fun w114 hM1 => ?_
              clear hM
              have hM := hM1
              clear hM1
              refine RD.nil ?_
              refine KQ.then_k ?_
              replace hM := hM.pick [0, 1, 2, 4, 5, 3] rfl (by decide)
              exact fun a ha => ⟨g103, A35, c36, g88, A110, c111, y31.f_Exts, y31.f_Proto, y106.f_Exts, y106.f_Proto, ha.less (less_cons rfl (less_cons rfl (less_cons rfl (less_cons rfl less_nil)))), hM, hF⟩
        · refine RD.meff rfl rfl (E.alloc hM ze29) rfl fun v w116 hv => ?_
          clear hM
          obtain ⟨g115, rfl, hM, hf⟩ := hv
          refine ⟨fun _ => hf, ?_⟩
          refine RD.alt ?_ ?_
          · refine obindE hF fun y118 hx119 hF => ?_
            refine RD.mcall rfl rfl trivial Try.func10 bd10 rfl rfl (c_docs_Chain _ cv1 _ _ (hr4.chg mv_ipsix_Ext hM.chg) _ hx119) fun v w120 hv => ?_
            obtain ⟨A122, c123, rfl, hN121⟩ := hv
            refine ⟨fun _ => hN121.fut, ?_⟩
            replace hM := hM.call hN121
            refine RD.alt ?_ ?_
            · refine obindE hF fun y125 hx126 hF => ?_
              refine RD.mcall rfl rfl trivial Try.func10 bd10 rfl rfl (c_docs_Chain _ other5 _ _ (hr8.chg mv_ipsix_Ext hM.chg) _ hx126) fun v w127 hv => ?_
              obtain ⟨A129, c130, rfl, hN128⟩ := hv
              refine ⟨fun _ => hN128.fut, ?_⟩
              replace hM := hM.call hN128
              refine RD.meff rfl rfl (E.alloc hM ze29) rfl fun v w133 hv => ?_
              clear hM
              obtain ⟨g132, rfl, hM, hf⟩ := hv
              refine ⟨fun _ => hf, ?_⟩
              refine RD.meffs rfl rfl rfl (E.stB (j := 2) (off := 0) (vs := [.slice A122 (y118.f_Exts).length c123, .int .u8 y118.f_Proto]) (cs' := [.slice A122 (y118.f_Exts).length c123, .int .u8 y118.f_Proto]) hM rfl sz29 rfl (adds_eq [] rfl) rfl rfl (One.all rfl) rfl rfl) fun w135 hM1 => ?_
              clear hM
              have hM := hM1
              clear hM1
              refine RD.meffs rfl rfl rfl (E.stB (j := 5) (off := 0) (vs := [.slice A129 (y125.f_Exts).length c130, .int .u8 y125.f_Proto]) (cs' := [.slice A129 (y125.f_Exts).length c130, .int .u8 y125.f_Proto]) hM rfl sz29 rfl (adds_eq [] rfl) rfl rfl (One.all rfl) rfl rfl) fun w136 hM1 => ?_
              clear hM
              have hM := hM1
              clear hM1
              refine RD.nil ?_
              refine KQ.then_k ?_
              replace hM := hM.pick [0, 1, 3, 2, 4, 5] rfl (by decide)
              exact fun a ha => ⟨g115, A122, c123, g132, A129, c130, y118.f_Exts, y118.f_Proto, y125.f_Exts, y125.f_Proto, ha.less (less_cons rfl (less_cons rfl (less_cons rfl (less_cons rfl less_nil)))), hM, hF⟩
            · refine RD.meff rfl rfl (E.alloc hM ze29) rfl fun v w138 hv => ?_
              clear hM
              obtain ⟨g137, rfl, hM, hf⟩ := hv
              refine ⟨fun _ => hf, ?_⟩
              refine obindE hF fun y140 hx141 hF => ?_
              refine RD.mcall rfl rfl trivial Try.func10 bd10 rfl rfl (c_docs_Chain _ other5 _ _ (hr8.chg mv_ipsix_Ext hM.chg) _ hx141) fun v w142 hv => ?_
              obtain ⟨A144, c145, rfl, hN143⟩ := hv
              refine ⟨fun _ => hN143.fut, ?_⟩
              replace hM := hM.call hN143
              refine RD.meffs rfl rfl rfl (E.stB (j := 2) (off := 0) (vs := [.slice A122 (y118.f_Exts).length c123, .int .u8 y118.f_Proto]) (cs' := [.slice A122 (y118.f_Exts).length c123, .int .u8 y118.f_Proto]) hM rfl sz29 rfl (adds_eq [] rfl) rfl rfl (One.all rfl) rfl rfl) fun w147 hM1 => ?_
              clear hM
              have hM := hM1
              clear hM1
              refine RD.meffs rfl rfl rfl (E.stB (j := 4) (off := 0) (vs := [.slice A144 (y140.f_Exts).length c145, .int .u8 y140.f_Proto]) (cs' := [.slice A144 (y140.f_Exts).length c145, .int .u8 y140.f_Proto]) hM rfl sz29 rfl (adds_eq [] rfl) rfl rfl (One.all rfl) rfl rfl) fun w148 hM1 => ?_
              clear hM
              have hM := hM1
              clear hM1
              refine RD.nil ?_
              refine KQ.then_k ?_
              replace hM := hM.pick [0, 1, 3, 2, 5, 4] rfl (by decide)
              exact fun a ha => ⟨g115, A122, c123, g137, A144, c145, y118.f_Exts, y118.f_Proto, y140.f_Exts, y140.f_Proto, ha.less (less_cons rfl (less_cons rfl (less_cons rfl (less_cons rfl less_nil)))), hM, hF⟩
          · refine RD.meff rfl rfl (E.alloc hM ze29) rfl fun v w150 hv => ?_
            clear hM
            obtain ⟨g149, rfl, hM, hf⟩ := hv
            refine ⟨fun _ => hf, ?_⟩
            refine obindE hF fun y152 hx153 hF => ?_
            refine RD.mcall rfl rfl trivial Try.func10 bd10 rfl rfl (c_docs_Chain _ cv1 _ _ (hr4.chg mv_ipsix_Ext hM.chg) _ hx153) fun v w154 hv => ?_
            obtain ⟨A156, c157, rfl, hN155⟩ := hv
            refine ⟨fun _ => hN155.fut, ?_⟩
            replace hM := hM.call hN155
            refine obindE hF fun y159 hx160 hF => ?_
            refine RD.mcall rfl rfl trivial Try.func10 bd10 rfl rfl (c_docs_Chain _ other5 _ _ (hr8.chg mv_ipsix_Ext hM.chg) _ hx160) fun v w161 hv => ?_
            obtain ⟨A163, c164, rfl, hN162⟩ := hv
            refine ⟨fun _ => hN162.fut, ?_⟩
            replace hM := hM.call hN162
            refine RD.meffs rfl rfl rfl (E.stB (j := 2) (off := 0) (vs := [.slice A156 (y152.f_Exts).length c157, .int .u8 y152.f_Proto]) (cs' := [.slice A156 (y152.f_Exts).length c157, .int .u8 y152.f_Proto]) hM rfl sz29 rfl (adds_eq [] rfl) rfl rfl (One.all rfl) rfl rfl) fun w166 hM1 => ?_
            clear hM
            have hM := hM1
            clear hM1
            refine RD.meffs rfl rfl rfl (E.stB (j := 3) (off := 0) (vs := [.slice A163 (y159.f_Exts).length c164, .int .u8 y159.f_Proto]) (cs' := [.slice A163 (y159.f_Exts).length c164, .int .u8 y159.f_Proto]) hM rfl sz29 rfl (adds_eq [] rfl) rfl rfl (One.all rfl) rfl rfl) fun w167 hM1 => ?_
            clear hM
            have hM := hM1
            clear hM1
            refine RD.nil ?_
            refine KQ.then_k ?_
            replace hM := hM.pick [0, 1, 4, 2, 5, 3] rfl (by decide)
            exact fun a ha => ⟨g115, A156, c157, g149, A163, c164, y152.f_Exts, y152.f_Proto, y159.f_Exts, y159.f_Proto, ha.less (less_cons rfl (less_cons rfl (less_cons rfl (less_cons rfl less_nil)))), hM, hF⟩
        · refine RD.meff rfl rfl (E.alloc hM ze29) rfl fun v w169 hv => ?_
          clear hM
          obtain ⟨g168, rfl, hM, hf⟩ := hv
          refine ⟨fun _ => hf, ?_⟩
          refine RD.alt ?_ ?_
          · refine obindE hF fun y171 hx172 hF => ?_
            refine RD.mcall rfl rfl trivial Try.func10 bd10 rfl rfl (c_docs_Chain _ cv1 _ _ (hr4.chg mv_ipsix_Ext hM.chg) _ hx172) fun v w173 hv => ?_
            obtain ⟨A175, c176, rfl, hN174⟩ := hv
            refine ⟨fun _ => hN174.fut, ?_⟩
            replace hM := hM.call hN174
            refine RD.alt ?_ ?_
            · refine obindE hF fun y178 hx179 hF => ?_
              refine RD.mcall rfl rfl trivial Try.func10 bd10 rfl rfl (c_docs_Chain _ other5 _ _ (hr8.chg mv_ipsix_Ext hM.chg) _ hx179) fun v w180 hv => ?_
              obtain ⟨A182, c183, rfl, hN181⟩ := hv
              refine ⟨fun _ => hN181.fut, ?_⟩
              replace hM := hM.call hN181
              refine RD.meff rfl rfl (E.alloc hM ze29) rfl fun v w186 hv => ?_
              clear hM
              obtain ⟨g185, rfl, hM, hf⟩ := hv
              refine ⟨fun _ => hf, ?_⟩
              refine RD.meffs rfl rfl rfl (E.stB (j := 5) (off := 0) (vs := [.slice A175 (y171.f_Exts).length c176, .int .u8 y171.f_Proto]) (cs' := [.slice A175 (y171.f_Exts).length c176, .int .u8 y171.f_Proto]) hM rfl sz29 rfl (adds_eq [] rfl) rfl rfl (One.all rfl) rfl rfl) fun w188 hM1 => ?_
              clear hM
              have hM := hM1
              clear hM1
              refine RD.meffs rfl rfl rfl (E.stB (j := 2) (off := 0) (vs := [.slice A182 (y178.f_Exts).length c183, .int .u8 y178.f_Proto]) (cs' := [.slice A182 (y178.f_Exts).length c183, .int .u8 y178.f_Proto]) hM rfl sz29 rfl (adds_eq [] rfl) rfl rfl (One.all rfl) rfl rfl) fun w189 hM1 => ?_
              clear hM
              have hM := hM1
              clear hM1
              refine RD.nil ?_
              refine KQ.then_k ?_
              replace hM := hM.pick [0, 1, 3, 5, 4, 2] rfl (by decide)
              exact fun a ha => ⟨g185, A175, c176, g168, A182, c183, y171.f_Exts, y171.f_Proto, y178.f_Exts, y178.f_Proto, ha.less (less_cons rfl (less_cons rfl (less_cons rfl (less_cons rfl less_nil)))), hM, hF⟩
            · refine RD.meff rfl rfl (E.alloc hM ze29) rfl fun v w191 hv => ?_
              clear hM
              obtain ⟨g190, rfl, hM, hf⟩ := hv
              refine ⟨fun _ => hf, ?_⟩
              refine obindE hF fun y193 hx194 hF => ?_
              refine RD.mcall rfl rfl trivial Try.func10 bd10 rfl rfl (c_docs_Chain _ other5 _ _ (hr8.chg mv_ipsix_Ext hM.chg) _ hx194) fun v w195 hv => ?_
              obtain ⟨A197, c198, rfl, hN196⟩ := hv
              refine ⟨fun _ => hN196.fut, ?_⟩
              replace hM := hM.call hN196
              refine RD.meffs rfl rfl rfl (E.stB (j := 4) (off := 0) (vs := [.slice A175 (y171.f_Exts).length c176, .int .u8 y171.f_Proto]) (cs' := [.slice A175 (y171.f_Exts).length c176, .int .u8 y171.f_Proto]) hM rfl sz29 rfl (adds_eq [] rfl) rfl rfl (One.all rfl) rfl rfl) fun w200 hM1 => ?_
              clear hM
              have hM := hM1
              clear hM1
              refine RD.meffs rfl rfl rfl (E.stB (j := 2) (off := 0) (vs := [.slice A197 (y193.f_Exts).length c198, .int .u8 y193.f_Proto]) (cs' := [.slice A197 (y193.f_Exts).length c198, .int .u8 y193.f_Proto]) hM rfl sz29 rfl (adds_eq [] rfl) rfl rfl (One.all rfl) rfl rfl) fun w201 hM1 => ?_
              clear hM
              have hM := hM1
              clear hM1
              refine RD.nil ?_
              refine KQ.then_k ?_
              replace hM := hM.pick [0, 1, 3, 4, 5, 2] rfl (by decide)
              exact fun a ha => ⟨g190, A175, c176, g168, A197, c198, y171.f_Exts, y171.f_Proto, y193.f_Exts, y193.f_Proto, ha.less (less_cons rfl (less_cons rfl (less_cons rfl (less_cons rfl less_nil)))), hM, hF⟩
          · refine RD.meff rfl rfl (E.alloc hM ze29) rfl fun v w203 hv => ?_
            clear hM
            obtain ⟨g202, rfl, hM, hf⟩ := hv
            refine ⟨fun _ => hf, ?_⟩
            refine obindE hF fun y205 hx206 hF => ?_
            refine RD.mcall rfl rfl trivial Try.func10 bd10 rfl rfl (c_docs_Chain _ cv1 _ _ (hr4.chg mv_ipsix_Ext hM.chg) _ hx206) fun v w207 hv => ?_
            obtain ⟨A209, c210, rfl, hN208⟩ := hv
            refine ⟨fun _ => hN208.fut, ?_⟩
            replace hM := hM.call hN208
            refine obindE hF fun y212 hx213 hF => ?_
            refine RD.mcall rfl rfl trivial Try.func10 bd10 rfl rfl (c_docs_Chain _ other5 _ _ (hr8.chg mv_ipsix_Ext hM.chg) _ hx213) fun v w214 hv => ?_
            obtain ⟨A216, c217, rfl, hN215⟩ := hv
            refine ⟨fun _ => hN215.fut, ?_⟩
            replace hM := hM.call hN215
            refine RD.meffs rfl rfl rfl (E.stB (j := 3) (off := 0) (vs := [.slice A209 (y205.f_Exts).length c210, .int .u8 y205.f_Proto]) (cs' := [.slice A209 (y205.f_Exts).length c210, .int .u8 y205.f_Proto]) hM rfl sz29 rfl (adds_eq [] rfl) rfl rfl (One.all rfl) rfl rfl) fun w219 hM1 => ?_
            clear hM
            have hM := hM1
            clear hM1
            refine RD.meffs rfl rfl rfl (E.stB (j := 2) (off := 0) (vs := [.slice A216 (y212.f_Exts).length c217, .int .u8 y212.f_Proto]) (cs' := [.slice A216 (y212.f_Exts).length c217, .int .u8 y212.f_Proto]) hM rfl sz29 rfl (adds_eq [] rfl) rfl rfl (One.all rfl) rfl rfl) fun w220 hM1 => ?_
            clear hM
            have hM := hM1
            clear hM1
            refine RD.nil ?_
            refine KQ.then_k ?_
            replace hM := hM.pick [0, 1, 4, 3, 5, 2] rfl (by decide)
            exact fun a ha => ⟨g202, A209, c210, g168, A216, c217, y205.f_Exts, y205.f_Proto, y212.f_Exts, y212.f_Proto, ha.less (less_cons rfl (less_cons rfl (less_cons rfl (less_cons rfl less_nil)))), hM, hF⟩
      · rintro a w237 ⟨g224, A226, c227, g231, A233, c234, rv228, rv229, o235, o236, ha, hM, hF⟩
        refine KC.app ha ?_
        clear ha
        unfold F_law06_IpsixChains_j2 at hF
        refine KC.seq ?_
        refine KC.region ?_
        refine RL.val (O.loadN (cs := [.slice A2 (cv1.f_Exts).length c3, .int .u8 cv1.f_Proto]) ag24 rfl (Cs.addsN [] ((hM.bx (i := 0) rfl)) rfl)) rfl ?_
        refine obindE hF fun y238 hx239 hF => ?_
        refine RL.call Try.func11 bd11 rfl rfl (c_ipsix_PutChain _ cv1 _ _ (hr4.chg mv_ipsix_Ext hM.chg) _ hx239) fun v w240 hv => ?_
        obtain ⟨A242, c243, rfl, hN241⟩ := hv
        replace hM := hM.call hN241
        refine RL.val (O.move rfl) rfl ?_
        refine RL.val (O.ext rfl rfl) rfl ?_
        refine RL.val (O.ext rfl rfl) rfl ?_
        refine RL.val (O.ext rfl rfl) rfl ?_
        refine RL.val (O.assign rfl) rfl ?_
        refine RL.val (O.assign rfl) rfl ?_
        refine RL.val (O.assign rfl) rfl ?_
        refine RL.nil ?_
        refine KQ.then_n ?_
        refine KC.seq ?_
        refine KC.region ?_
        refine RL.val (O.loadN (cs := [.slice A226 (rv228).length c227, .int .u8 rv229]) ag29 rfl (Cs.addsN [] ((hM.bx (i := 3) rfl)) rfl)) rfl ?_
        refine obindE hF fun y245 hx246 hF => ?_
        refine RL.call Try.func12 bd12 rfl rfl (c_ref06_PutChain _ (T_ref06_Chain.mk rv228 rv229) _ _ (hM.rd (i := 2) rfl) _ hx246) fun v w247 hv => ?_
        obtain ⟨A249, c250, rfl, hN248⟩ := hv
        replace hM := hM.call hN248
        refine RL.val (O.move rfl) rfl ?_
        refine RL.val (O.ext rfl rfl) rfl ?_
        refine RL.val (O.ext rfl rfl) rfl ?_
        refine RL.val (O.ext rfl rfl) rfl ?_
        refine RL.val (O.assign rfl) rfl ?_
        refine RL.val (O.assign rfl) rfl ?_
        refine RL.val (O.assign rfl) rfl ?_
        refine RL.nil ?_
        refine KQ.then_n ?_
        refine KC.seq ?_
        refine KC.region ?_
        refine RL.val (O.loadN (cs := [.slice A2 (cv1.f_Exts).length c3, .int .u8 cv1.f_Proto]) ag24 rfl (Cs.addsN [] ((hM.bx (i := 0) rfl)) rfl)) rfl ?_
        refine obindE hF fun y252 hx253 hF => ?_
        refine RL.call Try.func13 bd13 rfl rfl (c_ipsix_Frag _ cv1 _ _ (hr4.chg mv_ipsix_Ext hM.chg) _ hx253) fun v w254 hv => ?_
        obtain ⟨rfl, hN255⟩ := hv
        replace hM := hM.call0 hN255
        refine RL.val (O.move rfl) rfl ?_
        refine RL.val (O.ext rfl rfl) rfl ?_
        refine RL.val (O.ext rfl rfl) rfl ?_
        refine RL.val (O.ext rfl rfl) rfl ?_
        refine RL.val (O.ext rfl rfl) rfl ?_
        refine RL.val (O.assign rfl) rfl ?_
        refine RL.val (O.assign rfl) rfl ?_
        refine RL.val (O.assign rfl) rfl ?_
        refine RL.val (O.assign rfl) rfl ?_
        refine RL.nil ?_
        refine KQ.then_n ?_
        refine KC.seq ?_
        refine KC.region ?_
        refine RL.val (O.loadN (cs := [.slice A226 (rv228).length c227, .int .u8 rv229]) ag29 rfl (Cs.addsN [] ((hM.bx (i := 3) rfl)) rfl)) rfl ?_
        refine obindE hF fun y256 hx257 hF => ?_
        refine RL.call Try.func14 bd14 rfl rfl (c_ref06_Frag _ (T_ref06_Chain.mk rv228 rv229) _ _ (hM.rd (i := 2) rfl) _ hx257) fun v w258 hv => ?_
        obtain ⟨rfl, hN259⟩ := hv
        replace hM := hM.call0 hN259
        refine RL.val (O.move rfl) rfl ?_
        refine RL.val (O.ext rfl rfl) rfl ?_
        refine RL.val (O.ext rfl rfl) rfl ?_
        refine RL.val (O.ext rfl rfl) rfl ?_
        refine RL.val (O.ext rfl rfl) rfl ?_
        refine RL.val (O.assign rfl) rfl ?_
        refine RL.val (O.assign rfl) rfl ?_
        refine RL.val (O.assign rfl) rfl ?_
        refine RL.val (O.assign rfl) rfl ?_
        refine RL.nil ?_
        refine KQ.then_n ?_
        refine KC.cut (fun a w300 => ∃ (t299 : Bool), Kn 123 [(4, .bool t299)] a ∧ Mem w [] w300 [] ∧ F_law06_IpsixChains_j3 t299 = some r) ?_ ?_
        · replace hM := hM.drewN 1
          refine KC.draw [] [] [11, 35, 37, 43, 46, 52, 56, 58, 61] [0, 1, 2, 3, 4, 5, 6, 7, 8, 9, 10, 12, 13, 14, 15, 16, 17, 18, 19, 20, 21, 22, 23, 24, 25, 26, 27, 28, 29, 30, 31, 32, 33, 38, 39, 40, 47, 48, 49, 53, 54, 59, 60, 62, 63] (.ofList [0, 1, 2, 3, 4, 5, 6, 7, 8, 9, 10, 11, 12, 13, 14, 15, 16, 17, 18, 19, 20, 21, 22, 23, 24, 25, 26, 27, 28, 29, 30, 31, 32, 33, 34, 36, 35, 37, 38, 39, 40, 41, 42, 44, 45, 43, 46, 47, 48, 49, 50, 51, 52, 53, 54, 55, 57, 56, 58, 59, 60, 61, 62, 63]) moP (by kernel_rfl) ?_
          refine RD.p rfl rfl rfl rfl (fun w' => O.move rfl) ?_
          refine RD.p rfl rfl rfl rfl (fun w' => O.move rfl) ?_
          refine RD.p rfl rfl rfl rfl (fun w' => O.eql rfl rfl) ?_
          refine RD.p rfl rfl rfl rfl (fun w' => O.move rfl) ?_
          refine RD.bcase (t := 63) rfl (fun hc => ?_) (fun hc => ?_)
          · rw [if_pos hc] at hF
            refine RD.gp rfl rfl rfl rfl rfl rfl (fun w' => O.move rfl) ?_
            refine RD.gp rfl rfl rfl rfl rfl rfl (fun w' => O.move rfl) ?_
            refine RD.gp rfl rfl rfl rfl rfl rfl (fun w' => O.eql rfl rfl) ?_
            refine RD.p rfl rfl rfl rfl (fun w' => O.pickt rfl rfl) ?_
            refine RD.p rfl rfl rfl rfl (fun w' => O.move rfl) ?_
            refine RD.bcase (t := 68) rfl (fun hc => ?_) (fun hc => ?_)
            · rw [if_pos hc] at hF
              refine RD.gp rfl rfl rfl rfl rfl rfl (fun w' => O.move rfl) ?_
              refine RD.gp rfl rfl rfl rfl rfl rfl (fun w' => O.move rfl) ?_
              refine obindE hF fun y260 hx261 hF => ?_
              refine RD.mcall rfl rfl ⟨rfl, rfl⟩ Try.func15 bd15 rfl rfl (c_kit_SameBytes _ _ _ y238.1 (hM.rd (i := 6) rfl) _ _ y245.1 (hM.rd (i := 7) rfl) _ hx261) fun v w262 hv => ?_
              obtain ⟨rfl, hN263⟩ := hv
              refine ⟨fun _ => hN263.fut, ?_⟩
              replace hM := hM.call0 hN263
              refine RD.p rfl rfl rfl rfl (fun w' => O.pickt rfl rfl) ?_
              refine RD.p rfl rfl rfl rfl (fun w' => O.move rfl) ?_
              refine RD.bcase (t := 73) rfl (fun hc => ?_) (fun hc => ?_)
              · rw [if_pos hc] at hF
                refine RD.gp rfl rfl rfl rfl rfl rfl (fun w' => O.move rfl) ?_
                refine RD.gp rfl rfl rfl rfl rfl rfl (fun w' => O.move rfl) ?_
                refine RD.gp rfl rfl rfl rfl rfl rfl (fun w' => O.eql rfl rfl) ?_
                refine RD.p rfl rfl rfl rfl (fun w' => O.pickt rfl rfl) ?_
                refine RD.p rfl rfl rfl rfl (fun w' => O.move rfl) ?_
                refine RD.bcase (t := 78) rfl (fun hc => ?_) (fun hc => ?_)
                · rw [if_pos hc] at hF
                  refine RD.gp rfl rfl rfl rfl rfl rfl (fun w' => O.move rfl) ?_
                  refine RD.gp rfl rfl rfl rfl rfl rfl (fun w' => O.move rfl) ?_
                  refine RD.gp rfl rfl rfl rfl rfl rfl (fun w' => O.eqlb Try.underlying4 rfl rfl) ?_
                  refine RD.p rfl rfl rfl rfl (fun w' => O.pickt rfl rfl) ?_
                  refine RD.p rfl rfl rfl rfl (fun w' => O.move rfl) ?_
                  refine RD.bcase (t := 83) rfl (fun hc => ?_) (fun hc => ?_)
                  · rw [if_pos hc] at hF
                    refine RD.gp rfl rfl rfl rfl rfl rfl (fun w' => O.move rfl) ?_
                    refine RD.gp rfl rfl rfl rfl rfl rfl (fun w' => O.move rfl) ?_
                    refine RD.gp rfl rfl rfl rfl rfl rfl (fun w' => O.eql rfl rfl) ?_
                    refine RD.p rfl rfl rfl rfl (fun w' => O.pickt rfl rfl) ?_
                    refine RD.p rfl rfl rfl rfl (fun w' => O.move rfl) ?_
                    refine RD.bcase (t := 88) rfl (fun hc => ?_) (fun hc => ?_)
                    · rw [if_pos hc] at hF
                      refine RD.gp rfl rfl rfl rfl rfl rfl (fun w' => O.move rfl) ?_
                      refine RD.gp rfl rfl rfl rfl rfl rfl (fun w' => O.move rfl) ?_
                      refine RD.gp rfl rfl rfl rfl rfl rfl (fun w' => O.eqlb Try.underlying4 rfl rfl) ?_
                      refine RD.p rfl rfl rfl rfl (fun w' => O.pickt rfl rfl) ?_
                      refine RD.p rfl rfl rfl rfl (fun w' => O.move rfl) ?_
                      refine RD.bcase (t := 93) rfl (fun hc => ?_) (fun hc => ?_)
                      · rw [if_pos hc] at hF
                        refine RD.gq rfl rfl rfl rfl rfl rfl (fun w' hf => O.loadN (cs := [.slice A2 (cv1.f_Exts).length c3, .int .u8 cv1.f_Proto]) ag24 rfl (Cs.addsN [] ((hM.bx (i := 0) rfl).fut hf) rfl)) ?_
                        refine RD.gq rfl rfl rfl rfl rfl rfl (fun w' hf => O.loadN (cs := [.slice A226 (rv228).length c227, .int .u8 rv229]) ag29 rfl (Cs.addsN [] ((hM.bx (i := 3) rfl).fut hf) rfl)) ?_
                        refine obindE hF fun y264 hx265 hF => ?_
                        refine RD.mcall rfl rfl ⟨rfl, rfl⟩ Try.func16 bd16 rfl rfl (c_ipsix_Right _ cv1 _ _ (hr4.chg mv_ipsix_Ext hM.chg) _ hx265) fun v w266 hv => ?_
                        obtain ⟨rfl, hN267⟩ := hv
                        refine ⟨fun _ => hN267.fut, ?_⟩
                        replace hM := hM.call0 hN267
                        refine obindE hF fun y268 hx269 hF => ?_
                        refine RD.mcall rfl rfl ⟨rfl, rfl⟩ Try.func17 bd17 rfl rfl (c_ref06_Right _ (T_ref06_Chain.mk rv228 rv229) _ _ (hM.rd (i := 2) rfl) _ hx269) fun v w270 hv => ?_
                        obtain ⟨rfl, hN271⟩ := hv
                        refine ⟨fun _ => hN271.fut, ?_⟩
                        replace hM := hM.call0 hN271
                        refine RD.gp rfl rfl rfl rfl rfl rfl (fun w' => O.eqlb Try.underlying4 rfl rfl) ?_
                        refine RD.p rfl rfl rfl rfl (fun w' => O.pickt rfl rfl) ?_
                        refine RD.p rfl rfl rfl rfl (fun w' => O.move rfl) ?_
                        refine RD.bcase (t := 100) rfl (fun hc => ?_) (fun hc => ?_)
                        · rw [if_pos hc] at hF
                          refine RD.gq rfl rfl rfl rfl rfl rfl (fun w' hf => O.loadN (cs := [.slice A2 (cv1.f_Exts).length c3, .int .u8 cv1.f_Proto]) ag24 rfl (Cs.addsN [] ((hM.bx (i := 0) rfl).fut hf) rfl)) ?_
                          refine RD.gq rfl rfl rfl rfl rfl rfl (fun w' hf => O.loadN (cs := [.slice A6 (other5.f_Exts).length c7, .int .u8 other5.f_Proto]) ag24 rfl (Cs.addsN [] ((hM.bx (i := 1) rfl).fut hf) rfl)) ?_
                          refine RD.gq rfl rfl rfl rfl rfl rfl (fun w' hf => O.loadN (cs := [.slice A226 (rv228).length c227, .int .u8 rv229]) ag29 rfl (Cs.addsN [] ((hM.bx (i := 3) rfl).fut hf) rfl)) ?_
                          refine RD.gq rfl rfl rfl rfl rfl rfl (fun w' hf => O.loadN (cs := [.slice A233 (o235).length c234, .int .u8 o236]) ag29 rfl (Cs.addsN [] ((hM.bx (i := 5) rfl).fut hf) rfl)) ?_
                          refine obindE hF fun y272 hx273 hF => ?_
                          refine RD.mcall rfl rfl ⟨rfl, rfl⟩ Try.func18 bd18 rfl rfl (c_ipsix_Same _ cv1 _ _ (hr4.chg mv_ipsix_Ext hM.chg) other5 _ _ (hr8.chg mv_ipsix_Ext hM.chg) _ hx273) fun v w274 hv => ?_
                          obtain ⟨rfl, hN275⟩ := hv
                          refine ⟨fun _ => hN275.fut, ?_⟩
                          replace hM := hM.call0 hN275
                          refine obindE hF fun y276 hx277 hF => ?_
                          refine RD.mcall rfl rfl ⟨rfl, rfl⟩ Try.func19 bd19 rfl rfl (c_ref06_Same _ (T_ref06_Chain.mk rv228 rv229) _ _ (hM.rd (i := 2) rfl) (T_ref06_Chain.mk o235 o236) _ _ (hM.rd (i := 4) rfl) _ hx277) fun v w278 hv => ?_
                          obtain ⟨rfl, hN279⟩ := hv
                          refine ⟨fun _ => hN279.fut, ?_⟩
                          replace hM := hM.call0 hN279
                          refine RD.gp rfl rfl rfl rfl rfl rfl (fun w' => O.eqlb Try.underlying4 rfl rfl) ?_
                          refine RD.p rfl rfl rfl rfl (fun w' => O.pickt rfl rfl) ?_
                          refine RD.p rfl rfl rfl rfl (fun w' => O.move rfl) ?_
                          refine RD.bcase (t := 109) rfl (fun hc => ?_) (fun hc => ?_)
                          · rw [if_pos hc] at hF
                            refine RD.gq rfl rfl rfl rfl rfl rfl (fun w' hf => O.loadN (cs := [.slice A2 (cv1.f_Exts).length c3, .int .u8 cv1.f_Proto]) ag24 rfl (Cs.addsN [] ((hM.bx (i := 0) rfl).fut hf) rfl)) ?_
                            refine RD.gq rfl rfl rfl rfl rfl rfl (fun w' hf => O.loadN (cs := [.slice A2 (cv1.f_Exts).length c3, .int .u8 cv1.f_Proto]) ag24 rfl (Cs.addsN [] ((hM.bx (i := 0) rfl).fut hf) rfl)) ?_
                            refine obindE hF fun y280 hx281 hF => ?_
                            refine RD.mcall rfl rfl ⟨rfl, rfl⟩ Try.func18 bd18 rfl rfl (c_ipsix_Same _ cv1 _ _ (hr4.chg mv_ipsix_Ext hM.chg) cv1 _ _ (hr4.chg mv_ipsix_Ext hM.chg) _ hx281) fun v w282 hv => ?_
                            obtain ⟨rfl, hN283⟩ := hv
                            refine ⟨fun _ => hN283.fut, ?_⟩
                            replace hM := hM.call0 hN283
                            refine RD.p rfl rfl rfl rfl (fun w' => O.pickt rfl rfl) ?_
                            refine RD.p rfl rfl rfl rfl (fun w' => O.move rfl) ?_
                            refine RD.bcase (t := 114) rfl (fun hc => ?_) (fun hc => ?_)
                            · rw [if_pos hc] at hF
                              refine RD.gq rfl rfl rfl rfl rfl rfl (fun w' hf => O.loadN (cs := [.slice A2 (cv1.f_Exts).length c3, .int .u8 cv1.f_Proto]) ag24 rfl (Cs.addsN [] ((hM.bx (i := 0) rfl).fut hf) rfl)) ?_
                              refine RD.gq rfl rfl rfl rfl rfl rfl (fun w' hf => O.loadN (cs := [.slice A226 (rv228).length c227, .int .u8 rv229]) ag29 rfl (Cs.addsN [] ((hM.bx (i := 3) rfl).fut hf) rfl)) ?_
                              refine obindE hF fun y284 hx285 hF => ?_
                              refine RD.mcall rfl rfl ⟨rfl, rfl⟩ Try.func10 bd10 rfl rfl (c_docs_Chain _ cv1 _ _ (hr4.chg mv_ipsix_Ext hM.chg) _ hx285) fun v w286 hv => ?_
                              obtain ⟨A288, c289, rfl, hN287⟩ := hv
                              refine ⟨fun _ => hN287.fut, ?_⟩
                              replace hM := hM.call hN287
                              refine obindE hF fun y291 hx292 hF => ?_
                              refine RD.mcall rfl rfl ⟨rfl, rfl⟩ Try.func19 bd19 rfl rfl (c_ref06_Same _ y284 _ _ (hM.rd (i := 8) rfl) (T_ref06_Chain.mk rv228 rv229) _ _ (hM.rd (i := 2) rfl) _ hx292) fun v w293 hv => ?_
                              obtain ⟨rfl, hN294⟩ := hv
                              refine ⟨fun _ => hN294.fut, ?_⟩
                              replace hM := hM.call0 hN294
                              refine RD.p rfl rfl rfl rfl (fun w' => O.pickt rfl rfl) ?_
                              refine RD.p rfl rfl rfl rfl (fun w' => O.move rfl) ?_
                              refine RD.bcase (t := 120) rfl (fun hc => ?_) (fun hc => ?_)
                              · rw [if_pos hc] at hF
                                refine obindE hF fun y295 hx296 hF => ?_
                                refine RD.mcall rfl rfl ⟨rfl, rfl⟩ Try.func9 bd9 rfl rfl (c_law06_works _ _ hx296) fun v w297 hv => ?_
                                obtain ⟨rfl, hN298⟩ := hv
                                refine ⟨fun _ => hN298.fut, ?_⟩
                                replace hM := hM.call0 hN298
                                refine RD.p rfl rfl rfl rfl (fun w' => O.pickt rfl rfl) ?_
                                refine RD.p rfl rfl rfl rfl (fun w' => O.assign rfl) ?_
                                refine RD.nil ?_
                                refine KQ.then_k ?_
                                replace hM := hM.pick [] rfl (by decide)
                                exact fun a ha => ⟨y295, ha.less (less_cons rfl less_nil), hM, hF⟩
                              · rw [if_neg (ne_true hc)] at hF
                                refine RD.gskip rfl rfl rfl rfl rfl ?_
                                refine RD.p rfl rfl rfl rfl (fun w' => O.pickf rfl rfl) ?_
                                refine RD.p rfl rfl rfl rfl (fun w' => O.assign rfl) ?_
                                refine RD.nil ?_
                                refine KQ.then_k ?_
                                replace hM := hM.pick [] rfl (by decide)
                                exact fun a ha => ⟨false, ha.less (less_cons rfl less_nil), hM, hF⟩
                            · rw [if_neg (ne_true hc)] at hF
                              refine RD.brun1 [55, 57, 56, 58, 59, 60, 61, 62] 122 false (by kernel_rfl) ?_
                              refine RD.p rfl rfl rfl rfl (fun w' => O.assign rfl) ?_
                              refine RD.nil ?_
                              refine KQ.then_k ?_
                              replace hM := hM.pick [] rfl (by decide)
                              exact fun a ha => ⟨false, ha.less (less_cons rfl less_nil), hM, hF⟩
                          · rw [if_neg (ne_true hc)] at hF
                            refine RD.brun1 [50, 51, 52, 53, 54, 55, 57, 56, 58, 59, 60, 61, 62] 122 false (by kernel_rfl) ?_
                            refine RD.p rfl rfl rfl rfl (fun w' => O.assign rfl) ?_
                            refine RD.nil ?_
                            refine KQ.then_k ?_
                            replace hM := hM.pick [] rfl (by decide)
                            exact fun a ha => ⟨false, ha.less (less_cons rfl less_nil), hM, hF⟩
                        · rw [if_neg (ne_true hc)] at hF
                          refine RD.brun1 [41, 42, 44, 45, 43, 46, 47, 48, 49, 50, 51, 52, 53, 54, 55, 57, 56, 58, 59, 60, 61, 62] 122 false (by kernel_rfl) ?_
                          refine RD.p rfl rfl rfl rfl (fun w' => O.assign rfl) ?_
                          refine RD.nil ?_
                          refine KQ.then_k ?_
                          replace hM := hM.pick [] rfl (by decide)
                          exact fun a ha => ⟨false, ha.less (less_cons rfl less_nil), hM, hF⟩
                      · rw [if_neg (ne_true hc)] at hF
                        refine RD.brun1 [34, 36, 35, 37, 38, 39, 40, 41, 42, 44, 45, 43, 46, 47, 48, 49, 50, 51, 52, 53, 54, 55, 57, 56, 58, 59, 60, 61, 62] 122 false (by kernel_rfl) ?_
                        refine RD.p rfl rfl rfl rfl (fun w' => O.assign rfl) ?_
                        refine RD.nil ?_
                        refine KQ.then_k ?_
                        replace hM := hM.pick [] rfl (by decide)
                        exact fun a ha => ⟨false, ha.less (less_cons rfl less_nil), hM, hF⟩
                    · rw [if_neg (ne_true hc)] at hF
                      refine RD.brun1 [29, 30, 31, 32, 33, 34, 36, 35, 37, 38, 39, 40, 41, 42, 44, 45, 43, 46, 47, 48, 49, 50, 51, 52, 53, 54, 55, 57, 56, 58, 59, 60, 61, 62] 122 false (by kernel_rfl) ?_
                      refine RD.p rfl rfl rfl rfl (fun w' => O.assign rfl) ?_
                      refine RD.nil ?_
                      refine KQ.then_k ?_
                      replace hM := hM.pick [] rfl (by decide)
                      exact fun a ha => ⟨false, ha.less (less_cons rfl less_nil), hM, hF⟩
                  · rw [if_neg (ne_true hc)] at hF
                    refine RD.brun1 [24, 25, 26, 27, 28, 29, 30, 31, 32, 33, 34, 36, 35, 37, 38, 39, 40, 41, 42, 44, 45, 43, 46, 47, 48, 49, 50, 51, 52, 53, 54, 55, 57, 56, 58, 59, 60, 61, 62] 122 false (by kernel_rfl) ?_
                    refine RD.p rfl rfl rfl rfl (fun w' => O.assign rfl) ?_
                    refine RD.nil ?_
                    refine KQ.then_k ?_
                    replace hM := hM.pick [] rfl (by decide)
                    exact fun a ha => ⟨false, ha.less (less_cons rfl less_nil), hM, hF⟩
                · rw [if_neg (ne_true hc)] at hF
                  refine RD.brun1 [19, 20, 21, 22, 23, 24, 25, 26, 27, 28, 29, 30, 31, 32, 33, 34, 36, 35, 37, 38, 39, 40, 41, 42, 44, 45, 43, 46, 47, 48, 49, 50, 51, 52, 53, 54, 55, 57, 56, 58, 59, 60, 61, 62] 122 false (by kernel_rfl) ?_
                  refine RD.p rfl rfl rfl rfl (fun w' => O.assign rfl) ?_
                  refine RD.nil ?_
                  refine KQ.then_k ?_
                  replace hM := hM.pick [] rfl (by decide)
                  exact fun a ha => ⟨false, ha.less (less_cons rfl less_nil), hM, hF⟩
              · rw [if_neg (ne_true hc)] at hF
                refine RD.brun1 [14, 15, 16, 17, 18, 19, 20, 21, 22, 23, 24, 25, 26, 27, 28, 29, 30, 31, 32, 33, 34, 36, 35, 37, 38, 39, 40, 41, 42, 44, 45, 43, 46, 47, 48, 49, 50, 51, 52, 53, 54, 55, 57, 56, 58, 59, 60, 61, 62] 122 false (by kernel_rfl) ?_
                refine RD.p rfl rfl rfl rfl (fun w' => O.assign rfl) ?_
                refine RD.nil ?_
                refine KQ.then_k ?_
                replace hM := hM.pick [] rfl (by decide)
                exact fun a ha => ⟨false, ha.less (less_cons rfl less_nil), hM, hF⟩
            · rw [if_neg (ne_true hc)] at hF
              refine RD.brun1 [9, 10, 11, 12, 13, 14, 15, 16, 17, 18, 19, 20, 21, 22, 23, 24, 25, 26, 27, 28, 29, 30, 31, 32, 33, 34, 36, 35, 37, 38, 39, 40, 41, 42, 44, 45, 43, 46, 47, 48, 49, 50, 51, 52, 53, 54, 55, 57, 56, 58, 59, 60, 61, 62] 122 false (by kernel_rfl) ?_
              refine RD.p rfl rfl rfl rfl (fun w' => O.assign rfl) ?_
              refine RD.nil ?_
              refine KQ.then_k ?_
              replace hM := hM.pick [] rfl (by decide)
              exact fun a ha => ⟨false, ha.less (less_cons rfl less_nil), hM, hF⟩
          · rw [if_neg (ne_true hc)] at hF
            refine RD.brun1 [4, 5, 6, 7, 8, 9, 10, 11, 12, 13, 14, 15, 16, 17, 18, 19, 20, 21, 22, 23, 24, 25, 26, 27, 28, 29, 30, 31, 32, 33, 34, 36, 35, 37, 38, 39, 40, 41, 42, 44, 45, 43, 46, 47, 48, 49, 50, 51, 52, 53, 54, 55, 57, 56, 58, 59, 60, 61, 62] 122 false (by kernel_rfl) ?_
            refine RD.p rfl rfl rfl rfl (fun w' => O.assign rfl) ?_
            refine RD.nil ?_
            refine KQ.then_k ?_
            replace hM := hM.pick [] rfl (by decide)
            exact fun a ha => ⟨false, ha.less (less_cons rfl less_nil), hM, hF⟩
        · rintro a w300 ⟨t299, ha, hM, hF⟩
          refine KC.app ha ?_
          clear ha
          unfold F_law06_IpsixChains_j3 at hF
          refine KC.ret ?_
          obtain rfl := Option.some.inj hF
          refine KQ.rets Try.results3 (RVs.cons (RV.tm rfl) RVs.nil) ?_
          exact ⟨_, rfl, rfl, hM⟩
set_option maxRecDepth 100000 in
set_option maxHeartbeats 40000000 in
theorem c_kit_Own (w : World) (A2 : Option Addr) (c3 : Nat) (b1 : List Int) (hr4 : Rd w A2 c3 1 b1.length (b1.flatMap (eI .u8))) (r : (List Int)) (hF : F_kit_Own b1 = some r) :
    CallsR Try.prog 20 [.slice A2 (b1).length c3] w (fun v w' => ∃ (A0 : Option Addr) (c0 : Nat), v = .slice A0 (r).length c0 ∧ Mem w [] w' [.row A0 c0 5 1 r.length (r.flatMap (eI .u8))]) := by
  refine calls_KC Try.func20 rfl Try.ntmps20 rfl ?_
  have hM := Mem.init w
  unfold F_kit_Own at hF
  refine KC.seq ?_
  refine KC.region ?_
  refine RL.val (O.assign rfl) rfl ?_
  refine RL.nil ?_
  refine KQ.then_n ?_
  refine KC.seq ?_
  refine KC.region ?_
  refine RL.val (O.assign rfl) rfl ?_
  refine RL.nil ?_
  refine KQ.then_n ?_
  refine KC.seq ?_
  refine KC.region ?_
  refine RL.val (O.move rfl) rfl ?_
  refine RL.val (O.move rfl) rfl ?_
  refine cut_someE hF fun hq8 hF => ?_
  refine RL.eff (E.app0 (enc := (eI .u8)) (ys := b1) hM sl31 ze5 rfl rfl rfl rfl rfl (hM.inp hr4 Off.nil) (fun _ => One.all rfl) (of_decide_eq_true hq8)) rfl fun v w7 hv => ?_
  clear hM
  obtain ⟨A5, c6, rfl, hM, hf⟩ := hv
  refine RL.val (O.assign rfl) rfl ?_
  refine RL.nil ?_
  refine KQ.then_n ?_
  refine KC.ret ?_
  obtain rfl := Option.some.inj hF
  refine KQ.rets Try.results20 (RVs.cons (RV.tm rfl) RVs.nil) ?_
  exact ⟨_, rfl, A5, c6, rfl, hM⟩
end Go.Proofs.Ytikjomacnbemhaa
