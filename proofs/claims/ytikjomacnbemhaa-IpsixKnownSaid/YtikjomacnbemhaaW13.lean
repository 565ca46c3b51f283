/- Printed by a program of this claim: each call returns what the plain function of its name gives. -/
import Derived.Test.YtikjomacnbemhaaW12
set_option linter.unusedVariables false
namespace Go.Proofs.Ytikjomacnbemhaa
open Go Go.Ox Go.RowKit
set_option maxRecDepth 100000 in
set_option maxHeartbeats 40000000 in
theorem c_law06_IpsixBack (w : World) (h1 : T_ipsix_Header) (cv2 : T_ipsix_Chain) (A3 : Option Addr) (c4 : Nat) (hr5 : RdD R_ipsix_Ext [] w A3 c4 2 cv2.f_Exts) (A7 : Option Addr) (c8 : Nat) (behind6 : List Int) (hr9 : Rd w A7 c8 1 behind6.length (behind6.flatMap (eI .u8))) (first10 : Int) (A12 : Option Addr) (c13 : Nat) (b11 : List Int) (hr14 : Rd w A12 c13 1 b11.length (b11.flatMap (eI .u8))) (r : Bool) (hF : F_law06_IpsixBack h1 cv2 behind6 first10 b11 = some r) :
    CallsR Try.prog 6 [.agg #[.int .u8 h1.f_Class, .int .u32 h1.f_Flow, .int .u16 h1.f_Length, .int .u8 h1.f_Next, .int .u8 h1.f_Hops, .int .u8 (List.getD h1.f_Src 0 0), .int .u8 (List.getD h1.f_Src 1 0), .int .u8 (List.getD h1.f_Src 2 0), .int .u8 (List.getD h1.f_Src 3 0), .int .u8 (List.getD h1.f_Src 4 0), .int .u8 (List.getD h1.f_Src 5 0), .int .u8 (List.getD h1.f_Src 6 0), .int .u8 (List.getD h1.f_Src 7 0), .int .u8 (List.getD h1.f_Src 8 0), .int .u8 (List.getD h1.f_Src 9 0), .int .u8 (List.getD h1.f_Src 10 0), .int .u8 (List.getD h1.f_Src 11 0), .int .u8 (List.getD h1.f_Src 12 0), .int .u8 (List.getD h1.f_Src 13 0), .int .u8 (List.getD h1.f_Src 14 0), .int .u8 (List.getD h1.f_Src 15 0), .int .u8 (List.getD h1.f_Dst 0 0), .int .u8 (List.getD h1.f_Dst 1 0), .int .u8 (List.getD h1.f_Dst 2 0), .int .u8 (List.getD h1.f_Dst 3 0), .int .u8 (List.getD h1.f_Dst 4 0), .int .u8 (List.getD h1.f_Dst 5 0), .int .u8 (List.getD h1.f_Dst 6 0), .int .u8 (List.getD h1.f_Dst 7 0), .int .u8 (List.getD h1.f_Dst 8 0), .int .u8 (List.getD h1.f_Dst 9 0), .int .u8 (List.getD h1.f_Dst 10 0), .int .u8 (List.getD h1.f_Dst 11 0), .int .u8 (List.getD h1.f_Dst 12 0), .int .u8 (List.getD h1.f_Dst 13 0), .int .u8 (List.getD h1.f_Dst 14 0), .int .u8 (List.getD h1.f_Dst 15 0)], .agg #[.slice A3 (cv2.f_Exts).length c4, .int .u8 cv2.f_Proto], .slice A7 (behind6).length c8, .int .u8 first10, .slice A12 (b11).length c13] w (fun v w' => v = .bool r ∧ Mem w [] w' []) := by
  refine calls_KC Try.func6 rfl Try.ntmps6 rfl ?_
  have hM := Mem.init w
  unfold F_law06_IpsixBack at hF
  refine KC.seq ?_
  refine KC.region ?_
  refine RL.eff (E.box (vs := [.int .u8 h1.f_Class, .int .u32 h1.f_Flow, .int .u16 h1.f_Length, .int .u8 h1.f_Next, .int .u8 h1.f_Hops, .int .u8 (List.getD h1.f_Src 0 0), .int .u8 (List.getD h1.f_Src 1 0), .int .u8 (List.getD h1.f_Src 2 0), .int .u8 (List.getD h1.f_Src 3 0), .int .u8 (List.getD h1.f_Src 4 0), .int .u8 (List.getD h1.f_Src 5 0), .int .u8 (List.getD h1.f_Src 6 0), .int .u8 (List.getD h1.f_Src 7 0), .int .u8 (List.getD h1.f_Src 8 0), .int .u8 (List.getD h1.f_Src 9 0), .int .u8 (List.getD h1.f_Src 10 0), .int .u8 (List.getD h1.f_Src 11 0), .int .u8 (List.getD h1.f_Src 12 0), .int .u8 (List.getD h1.f_Src 13 0), .int .u8 (List.getD h1.f_Src 14 0), .int .u8 (List.getD h1.f_Src 15 0), .int .u8 (List.getD h1.f_Dst 0 0), .int .u8 (List.getD h1.f_Dst 1 0), .int .u8 (List.getD h1.f_Dst 2 0), .int .u8 (List.getD h1.f_Dst 3 0), .int .u8 (List.getD h1.f_Dst 4 0), .int .u8 (List.getD h1.f_Dst 5 0), .int .u8 (List.getD h1.f_Dst 6 0), .int .u8 (List.getD h1.f_Dst 7 0), .int .u8 (List.getD h1.f_Dst 8 0), .int .u8 (List.getD h1.f_Dst 9 0), .int .u8 (List.getD h1.f_Dst 10 0), .int .u8 (List.getD h1.f_Dst 11 0), .int .u8 (List.getD h1.f_Dst 12 0), .int .u8 (List.getD h1.f_Dst 13 0), .int .u8 (List.getD h1.f_Dst 14 0), .int .u8 (List.getD h1.f_Dst 15 0)]) hM rfl rfl) rfl fun v w16 hv => ?_
  clear hM
  obtain ⟨g15, rfl, hM, hf⟩ := hv
  refine RL.eff (E.box (vs := [.slice A3 (cv2.f_Exts).length c4, .int .u8 cv2.f_Proto]) hM rfl rfl) rfl fun v w19 hv => ?_
  clear hM
  obtain ⟨g18, rfl, hM, hf⟩ := hv
  refine RL.val (O.assign rfl) rfl ?_
  refine RL.nil ?_
  refine KQ.then_n ?_
  refine KC.seq ?_
  refine KC.cut (fun a w28 => ∃ (t27 : Bool), Kn 188 [(2, .slice A7 (behind6).length c8), (3, .int .u8 first10), (4, .slice A12 (b11).length c13), (5, .pointer (some ⟨g15, 0, none⟩)), (6, .pointer (some ⟨g18, 0, none⟩)), (41, .bool t27)] a ∧ Mem w [] w28 [.box g15 52 [.int .u8 h1.f_Class, .int .u32 h1.f_Flow, .int .u16 h1.f_Length, .int .u8 h1.f_Next, .int .u8 h1.f_Hops, .int .u8 (List.getD h1.f_Src 0 0), .int .u8 (List.getD h1.f_Src 1 0), .int .u8 (List.getD h1.f_Src 2 0), .int .u8 (List.getD h1.f_Src 3 0), .int .u8 (List.getD h1.f_Src 4 0), .int .u8 (List.getD h1.f_Src 5 0), .int .u8 (List.getD h1.f_Src 6 0), .int .u8 (List.getD h1.f_Src 7 0), .int .u8 (List.getD h1.f_Src 8 0), .int .u8 (List.getD h1.f_Src 9 0), .int .u8 (List.getD h1.f_Src 10 0), .int .u8 (List.getD h1.f_Src 11 0), .int .u8 (List.getD h1.f_Src 12 0), .int .u8 (List.getD h1.f_Src 13 0), .int .u8 (List.getD h1.f_Src 14 0), .int .u8 (List.getD h1.f_Src 15 0), .int .u8 (List.getD h1.f_Dst 0 0), .int .u8 (List.getD h1.f_Dst 1 0), .int .u8 (List.getD h1.f_Dst 2 0), .int .u8 (List.getD h1.f_Dst 3 0), .int .u8 (List.getD h1.f_Dst 4 0), .int .u8 (List.getD h1.f_Dst 5 0), .int .u8 (List.getD h1.f_Dst 6 0), .int .u8 (List.getD h1.f_Dst 7 0), .int .u8 (List.getD h1.f_Dst 8 0), .int .u8 (List.getD h1.f_Dst 9 0), .int .u8 (List.getD h1.f_Dst 10 0), .int .u8 (List.getD h1.f_Dst 11 0), .int .u8 (List.getD h1.f_Dst 12 0), .int .u8 (List.getD h1.f_Dst 13 0), .int .u8 (List.getD h1.f_Dst 14 0), .int .u8 (List.getD h1.f_Dst 15 0)], .box g18 24 [.slice A3 (cv2.f_Exts).length c4, .int .u8 cv2.f_Proto]] ∧ F_law06_IpsixBack_j1 h1 cv2 behind6 first10 b11 t27 = some r) ?_ ?_
  · refine KC.region ?_
    refine RL.val (O.loadN (cs := [.slice A3 (cv2.f_Exts).length c4, .int .u8 cv2.f_Proto]) ag24 rfl (Cs.addsN [] ((hM.bx (i := 1) rfl)) rfl)) rfl ?_
    refine obindE hF fun y21 hx22 hF => ?_
    refine RL.call Try.func8 bd8 rfl rfl (c_law06_few _ cv2 _ _ (hr5.chg mv_ipsix_Ext hM.chg) _ hx22) fun v w23 hv => ?_
    obtain ⟨rfl, hN24⟩ := hv
    replace hM := hM.call0 hN24
    refine RL.val (O.not rfl) rfl ?_
    refine RL.val (O.move rfl) rfl ?_
    refine RL.bcase (t := 32) rfl (fun hc => ?_) (fun hc => ?_)
    · rw [if_pos hc] at hF
      refine RL.brun1 9 41 true (by kernel_rfl) ?_
      refine RL.nil ?_
      refine KQ.then_k ?_
      exact fun a ha => ⟨true, ha.less (less_cons rfl (less_cons rfl (less_cons rfl (less_cons rfl (less_cons rfl (less_cons rfl less_nil)))))), hM, hF⟩
    · rw [if_neg (ne_true hc)] at hF
      refine RL.gval rfl rfl (O.move rfl) rfl ?_
      refine RL.gval rfl rfl (O.len sl31 rfl) rfl ?_
      refine RL.gval rfl rfl (O.gtr rfl rfl) rfl ?_
      refine RL.val (O.pickf rfl rfl) rfl ?_
      refine RL.val (O.move rfl) rfl ?_
      refine RL.bcase (t := 37) rfl (fun hc => ?_) (fun hc => ?_)
      · rw [if_pos hc] at hF
        refine RL.brun1 4 41 true (by kernel_rfl) ?_
        refine RL.nil ?_
        refine KQ.then_k ?_
        exact fun a ha => ⟨true, ha.less (less_cons rfl (less_cons rfl (less_cons rfl (less_cons rfl (less_cons rfl (less_cons rfl less_nil)))))), hM, hF⟩
      · rw [if_neg (ne_true hc)] at hF
        refine RL.gval rfl rfl (O.move rfl) rfl ?_
        refine RL.gval rfl rfl (O.len sl31 rfl) rfl ?_
        refine RL.gval rfl rfl (O.gtr rfl rfl) rfl ?_
        refine RL.val (O.pickf rfl rfl) rfl ?_
        refine RL.nil ?_
        refine KQ.then_k ?_
        exact fun a ha => ⟨(decide (3000 < (b11.length : Int))), ha.less (less_cons rfl (less_cons rfl (less_cons rfl (less_cons rfl (less_cons rfl (less_cons rfl less_nil)))))), hM, hF⟩
  · rintro a w28 ⟨t27, ha, hM, hF⟩
    refine KC.app ha ?_
    clear ha
    unfold F_law06_IpsixBack_j1 at hF
    refine KC.cond rfl (fun hc => ?_) (fun hc => ?_)
    · rw [if_pos hc] at hF
      refine KC.seq ?_
      refine KC.region ?_
      refine obindE hF fun y29 hx30 hF => ?_
      refine RL.call Try.func9 bd9 rfl rfl (c_law06_works _ _ hx30) fun v w31 hv => ?_
      obtain ⟨rfl, hN32⟩ := hv
      replace hM := hM.call0 hN32
      refine RL.val (O.assign rfl) rfl ?_
      refine RL.nil ?_
      refine KQ.then_n ?_
      refine KC.ret ?_
      refine KQ.then_r ?_
      obtain rfl := Option.some.inj hF
      replace hM := hM.pick [] rfl (by decide)
      refine KQ.rets Try.results6 (RVs.cons (RV.tm rfl) RVs.nil) ?_
      exact ⟨_, rfl, rfl, hM⟩
    · rw [if_neg (ne_true hc)] at hF
      refine KC.skip ?_
      refine KQ.then_n ?_
      refine KC.seq ?_
      refine KC.region ?_
      refine RL.val (O.loadN (cs := [.slice A3 (cv2.f_Exts).length c4, .int .u8 cv2.f_Proto]) ag24 rfl (Cs.addsN [] ((hM.bx (i := 1) rfl)) rfl)) rfl ?_
      refine obindE hF fun y33 hx34 hF => ?_
      refine RL.call Try.func11 bd11 rfl rfl (c_ipsix_PutChain _ cv2 _ _ (hr5.chg mv_ipsix_Ext hM.chg) _ hx34) fun v w35 hv => ?_
      obtain ⟨A37, c38, rfl, hN36⟩ := hv
      replace hM := hM.call hN36
      refine RL.val (O.move rfl) rfl ?_
      refine RL.val (O.ext rfl rfl) rfl ?_
      refine RL.val (O.ext rfl rfl) rfl ?_
      refine RL.val (O.ext rfl rfl) rfl ?_
      refine RL.val (O.assign rfl) rfl ?_
      refine RL.val (O.assign rfl) rfl ?_
      refine RL.val (O.assign rfl) rfl ?_
      refine RL.nil ?_
      refine KQ.then_n ?_
      refine KC.cut (fun a w134 => Kn 188 [(3, .int .u8 first10), (4, .slice A12 (b11).length c13)] a ∧ Mem w [] w134 [] ∧ F_law06_IpsixBack_j2 first10 b11 = some r) ?_ ?_
      · refine KC.seq ?_
        refine KC.region ?_
        refine RL.val (O.move rfl) rfl ?_
        refine RL.val (O.eql rfl rfl) rfl ?_
        refine RL.nil ?_
        refine KQ.then_n ?_
        refine KC.cond rfl (fun hc => ?_) (fun hc => ?_)
        · rw [if_pos hc] at hF
          refine KC.seq ?_
          refine KC.region ?_
          refine RL.val (O.move rfl) rfl ?_
          refine RL.val (O.move rfl) rfl ?_
          refine obindE hF fun y40 hx41 hF => ?_
          refine RL.call Try.func20 bd20 rfl rfl (c_kit_Own _ _ _ y33.1 (hM.rd (i := 2) rfl) _ hx41) fun v w42 hv => ?_
          obtain ⟨A44, c45, rfl, hN43⟩ := hv
          replace hM := hM.call hN43
          refine RL.val (O.move rfl) rfl ?_
          refine cut_someE hF fun hq50 hF => ?_
          refine RL.eff (E.app (enc := (eI .u8)) (xs := y40) (ys := behind6) (j := 3) hM rfl sl31 ze5 rfl rfl rfl rfl rfl (hM.inp hr9 Off.nil) (fun _ => One.all rfl) (of_decide_eq_true hq50)) rfl fun v w49 hv => ?_
          clear hM
          obtain ⟨A47, c48, rfl, hM, hf⟩ := hv
          refine obindE hF fun y52 hx53 hF => ?_
          refine RL.call Try.func21 bd21 rfl rfl (c_ipsix_ParseChain _ y33.2.1 _ _ (y40 ++ behind6) (hM.rd (i := 3) rfl) _ hx53) fun v w54 hv => ?_
          obtain ⟨A56, c57, css59, Z60, rfl, hN55⟩ := hv
          replace hM := hM.call hN55
          refine RL.val (O.move rfl) rfl ?_
          refine RL.val (O.ext rfl rfl) rfl ?_
          refine RL.val (O.ext rfl rfl) rfl ?_
          refine RL.val (O.ext rfl rfl) rfl ?_
          refine RL.eff (E.alloc hM ze24) rfl fun v w63 hv => ?_
          clear hM
          obtain ⟨g62, rfl, hM, hf⟩ := hv
          refine RL.effs (E.stB (j := 6) (off := 0) (vs := [.slice A56 (y52.1.f_Exts).length c57, .int .u8 y52.1.f_Proto]) (cs' := [.slice A56 (y52.1.f_Exts).length c57, .int .u8 y52.1.f_Proto]) hM rfl sz24 rfl (adds_eq [] rfl) rfl rfl (One.all rfl) rfl rfl) fun w65 hM1 => ?_
          clear hM
          have hM := hM1
          clear hM1
          refine RL.val (O.assign rfl) rfl ?_
          refine RL.val (O.assign rfl) rfl ?_
          refine RL.nil ?_
          refine KQ.then_n ?_
          refine KC.seq ?_
          refine KC.cut (fun a w74 => ∃ (t73 : Bool), Kn 188 [(2, .slice A7 (behind6).length c8), (3, .int .u8 first10), (4, .slice A12 (b11).length c13), (5, .pointer (some ⟨g15, 0, none⟩)), (6, .pointer (some ⟨g18, 0, none⟩)), (11, .slice A37 (y33.1).length c38), (12, .int .u8 y33.2.1), (74, .bool t73)] a ∧ Mem w [] w74 [.box g15 52 [.int .u8 h1.f_Class, .int .u32 h1.f_Flow, .int .u16 h1.f_Length, .int .u8 h1.f_Next, .int .u8 h1.f_Hops, .int .u8 (List.getD h1.f_Src 0 0), .int .u8 (List.getD h1.f_Src 1 0), .int .u8 (List.getD h1.f_Src 2 0), .int .u8 (List.getD h1.f_Src 3 0), .int .u8 (List.getD h1.f_Src 4 0), .int .u8 (List.getD h1.f_Src 5 0), .int .u8 (List.getD h1.f_Src 6 0), .int .u8 (List.getD h1.f_Src 7 0), .int .u8 (List.getD h1.f_Src 8 0), .int .u8 (List.getD h1.f_Src 9 0), .int .u8 (List.getD h1.f_Src 10 0), .int .u8 (List.getD h1.f_Src 11 0), .int .u8 (List.getD h1.f_Src 12 0), .int .u8 (List.getD h1.f_Src 13 0), .int .u8 (List.getD h1.f_Src 14 0), .int .u8 (List.getD h1.f_Src 15 0), .int .u8 (List.getD h1.f_Dst 0 0), .int .u8 (List.getD h1.f_Dst 1 0), .int .u8 (List.getD h1.f_Dst 2 0), .int .u8 (List.getD h1.f_Dst 3 0), .int .u8 (List.getD h1.f_Dst 4 0), .int .u8 (List.getD h1.f_Dst 5 0), .int .u8 (List.getD h1.f_Dst 6 0), .int .u8 (List.getD h1.f_Dst 7 0), .int .u8 (List.getD h1.f_Dst 8 0), .int .u8 (List.getD h1.f_Dst 9 0), .int .u8 (List.getD h1.f_Dst 10 0), .int .u8 (List.getD h1.f_Dst 11 0), .int .u8 (List.getD h1.f_Dst 12 0), .int .u8 (List.getD h1.f_Dst 13 0), .int .u8 (List.getD h1.f_Dst 14 0), .int .u8 (List.getD h1.f_Dst 15 0)], .box g18 24 [.slice A3 (cv2.f_Exts).length c4, .int .u8 cv2.f_Proto], .row A37 c38 5 1 (y33.1).length ((y33.1).flatMap (eI .u8))] ∧ F_law06_IpsixBack_j5 h1 cv2 behind6 first10 b11 y33 t73 = some r) ?_ ?_
          · refine KC.region ?_
            refine RL.val (O.move rfl) rfl ?_
            refine RL.val (O.neq rfl rfl) rfl ?_
            refine RL.val (O.move rfl) rfl ?_
            refine RL.bcase (t := 63) rfl (fun hc => ?_) (fun hc => ?_)
            · rw [if_pos hc] at hF
              refine RL.brun1 11 74 true (by kernel_rfl) ?_
              refine RL.nil ?_
              refine KQ.then_k ?_
              replace hM := hM.pick [0, 1, 2] rfl (by decide)
              exact fun a ha => ⟨true, ha.less (less_cons rfl (less_cons rfl (less_cons rfl (less_cons rfl (less_cons rfl (less_cons rfl (less_cons rfl (less_cons rfl less_nil)))))))), hM, hF⟩
            · rw [if_neg (ne_true hc)] at hF
              refine RL.gval rfl rfl (O.move rfl) rfl ?_
              refine RL.gval rfl rfl (O.move rfl) rfl ?_
              refine RL.gval rfl rfl (O.len sl31 rfl) rfl ?_
              refine RL.gval rfl rfl (O.neq rfl rfl) rfl ?_
              refine RL.val (O.pickf rfl rfl) rfl ?_
              refine RL.val (O.move rfl) rfl ?_
              refine RL.bcase (t := 69) rfl (fun hc => ?_) (fun hc => ?_)
              · rw [if_pos hc] at hF
                refine RL.brun1 5 74 true (by kernel_rfl) ?_
                refine RL.nil ?_
                refine KQ.then_k ?_
                replace hM := hM.pick [0, 1, 2] rfl (by decide)
                exact fun a ha => ⟨true, ha.less (less_cons rfl (less_cons rfl (less_cons rfl (less_cons rfl (less_cons rfl (less_cons rfl (less_cons rfl (less_cons rfl less_nil)))))))), hM, hF⟩
              · rw [if_neg (ne_true hc)] at hF
                refine RL.gval rfl rfl (O.loadN (cs := [.slice A56 (y52.1.f_Exts).length c57, .int .u8 y52.1.f_Proto]) ag24 rfl (Cs.addsN [] ((hM.bx (i := 6) rfl)) rfl)) rfl ?_
                refine RL.gval rfl rfl (O.loadN (cs := [.slice A3 (cv2.f_Exts).length c4, .int .u8 cv2.f_Proto]) ag24 rfl (Cs.addsN [] ((hM.bx (i := 1) rfl)) rfl)) rfl ?_
                refine obindE hF fun y66 hx67 hF => ?_
                refine RL.gcall rfl rfl Try.func18 bd18 rfl rfl (c_ipsix_Same _ y52.1 _ _ (hM.rdD (i := 4) (j := 5) uo_ipsix_Ext rfl rfl) cv2 _ _ (hr5.chg mv_ipsix_Ext hM.chg) _ hx67) fun v w68 hv => ?_
                obtain ⟨rfl, hN69⟩ := hv
                replace hM := hM.call0 hN69
                refine RL.gval rfl rfl (O.not rfl) rfl ?_
                refine RL.val (O.pickf rfl rfl) rfl ?_
                refine RL.nil ?_
                refine KQ.then_k ?_
                replace hM := hM.pick [0, 1, 2] rfl (by decide)
                exact fun a ha => ⟨(!y66), ha.less (less_cons rfl (less_cons rfl (less_cons rfl (less_cons rfl (less_cons rfl (less_cons rfl (less_cons rfl (less_cons rfl less_nil)))))))), hM, hF⟩
          · rintro a w74 ⟨t73, ha, hM, hF⟩
            refine KC.app ha ?_
            clear ha
            unfold F_law06_IpsixBack_j5 at hF
            refine KC.cond rfl (fun hc => ?_) (fun hc => ?_)
            · rw [if_pos hc] at hF
              refine KC.seq ?_
              refine KC.region ?_
              refine RL.val (O.assign rfl) rfl ?_
              refine RL.nil ?_
              refine KQ.then_n ?_
              refine KC.ret ?_
              refine KQ.then_r ?_
              refine KQ.then_r ?_
              obtain rfl := Option.some.inj hF
              replace hM := hM.pick [] rfl (by decide)
              refine KQ.rets Try.results6 (RVs.cons (RV.tm rfl) RVs.nil) ?_
              exact ⟨_, rfl, rfl, hM⟩
            · rw [if_neg (ne_true hc)] at hF
              refine KC.skip ?_
              refine KQ.then_n ?_
              refine KC.seq ?_
              refine KC.region ?_
              refine RL.val (O.fldA fl52_1 (by decide) rfl) rfl ?_
              refine RL.val (O.load sc37 rfl (Cs.adds [1] ((hM.bx (i := 0) rfl)) rfl)) rfl ?_
              refine RL.val (O.rem rfl rfl (by decide)) rfl ?_
              refine RL.val (O.fldA fl52_1 (by decide) rfl) rfl ?_
              refine RL.effs (E.stB (j := 0) (off := 1) (vs := [.int .u32 (Int.tmod h1.f_Flow 1048576)]) (cs' := [.int .u8 h1.f_Class, .int .u32 (Int.tmod h1.f_Flow 1048576), .int .u16 h1.f_Length, .int .u8 h1.f_Next, .int .u8 h1.f_Hops, .int .u8 (List.getD h1.f_Src 0 0), .int .u8 (List.getD h1.f_Src 1 0), .int .u8 (List.getD h1.f_Src 2 0), .int .u8 (List.getD h1.f_Src 3 0), .int .u8 (List.getD h1.f_Src 4 0), .int .u8 (List.getD h1.f_Src 5 0), .int .u8 (List.getD h1.f_Src 6 0), .int .u8 (List.getD h1.f_Src 7 0), .int .u8 (List.getD h1.f_Src 8 0), .int .u8 (List.getD h1.f_Src 9 0), .int .u8 (List.getD h1.f_Src 10 0), .int .u8 (List.getD h1.f_Src 11 0), .int .u8 (List.getD h1.f_Src 12 0), .int .u8 (List.getD h1.f_Src 13 0), .int .u8 (List.getD h1.f_Src 14 0), .int .u8 (List.getD h1.f_Src 15 0), .int .u8 (List.getD h1.f_Dst 0 0), .int .u8 (List.getD h1.f_Dst 1 0), .int .u8 (List.getD h1.f_Dst 2 0), .int .u8 (List.getD h1.f_Dst 3 0), .int .u8 (List.getD h1.f_Dst 4 0), .int .u8 (List.getD h1.f_Dst 5 0), .int .u8 (List.getD h1.f_Dst 6 0), .int .u8 (List.getD h1.f_Dst 7 0), .int .u8 (List.getD h1.f_Dst 8 0), .int .u8 (List.getD h1.f_Dst 9 0), .int .u8 (List.getD h1.f_Dst 10 0), .int .u8 (List.getD h1.f_Dst 11 0), .int .u8 (List.getD h1.f_Dst 12 0), .int .u8 (List.getD h1.f_Dst 13 0), .int .u8 (List.getD h1.f_Dst 14 0), .int .u8 (List.getD h1.f_Dst 15 0)]) hM rfl sz37 rfl (adds_eq [1] rfl) rfl rfl (One.all rfl) rfl rfl) fun w75 hM1 => ?_
              clear hM
              have hM := hM1
              clear hM1
              refine RL.nil ?_
              refine KQ.then_n ?_
              refine KC.seq ?_
              refine KC.region ?_
              refine RL.val (O.move rfl) rfl ?_
              refine RL.val (O.fldA fl52_3 (by decide) rfl) rfl ?_
              refine RL.effs (E.stB (j := 0) (off := 3) (vs := [.int .u8 y33.2.1]) (cs' := [.int .u8 h1.f_Class, .int .u32 (Int.tmod h1.f_Flow 1048576), .int .u16 h1.f_Length, .int .u8 y33.2.1, .int .u8 h1.f_Hops, .int .u8 (List.getD h1.f_Src 0 0), .int .u8 (List.getD h1.f_Src 1 0), .int .u8 (List.getD h1.f_Src 2 0), .int .u8 (List.getD h1.f_Src 3 0), .int .u8 (List.getD h1.f_Src 4 0), .int .u8 (List.getD h1.f_Src 5 0), .int .u8 (List.getD h1.f_Src 6 0), .int .u8 (List.getD h1.f_Src 7 0), .int .u8 (List.getD h1.f_Src 8 0), .int .u8 (List.getD h1.f_Src 9 0), .int .u8 (List.getD h1.f_Src 10 0), .int .u8 (List.getD h1.f_Src 11 0), .int .u8 (List.getD h1.f_Src 12 0), .int .u8 (List.getD h1.f_Src 13 0), .int .u8 (List.getD h1.f_Src 14 0), .int .u8 (List.getD h1.f_Src 15 0), .int .u8 (List.getD h1.f_Dst 0 0), .int .u8 (List.getD h1.f_Dst 1 0), .int .u8 (List.getD h1.f_Dst 2 0), .int .u8 (List.getD h1.f_Dst 3 0), .int .u8 (List.getD h1.f_Dst 4 0), .int .u8 (List.getD h1.f_Dst 5 0), .int .u8 (List.getD h1.f_Dst 6 0), .int .u8 (List.getD h1.f_Dst 7 0), .int .u8 (List.getD h1.f_Dst 8 0), .int .u8 (List.getD h1.f_Dst 9 0), .int .u8 (List.getD h1.f_Dst 10 0), .int .u8 (List.getD h1.f_Dst 11 0), .int .u8 (List.getD h1.f_Dst 12 0), .int .u8 (List.getD h1.f_Dst 13 0), .int .u8 (List.getD h1.f_Dst 14 0), .int .u8 (List.getD h1.f_Dst 15 0)]) hM rfl sz5 rfl (adds_eq [3] rfl) rfl rfl (One.all rfl) rfl rfl) fun w76 hM1 => ?_
              clear hM
              have hM := hM1
              clear hM1
              refine RL.nil ?_
              refine KQ.then_n ?_
              refine KC.seq ?_
              refine KC.region ?_
              refine RL.val (O.move rfl) rfl ?_
              refine RL.val (O.len sl31 rfl) rfl ?_
              refine RL.val (O.move rfl) rfl ?_
              refine RL.val (O.len sl31 rfl) rfl ?_
              refine RL.val (O.add rfl rfl) rfl ?_
              refine RL.val (O.min2 rfl rfl) rfl ?_
              refine RL.val (O.conv un3 Try.underlying36 rfl) rfl ?_
              refine RL.val (O.fldA fl52_2 (by decide) rfl) rfl ?_
              refine RL.effs (E.stB (j := 0) (off := 2) (vs := [.int .u16 (IntKind.u16.wrap (gmin 65535 (IntKind.i64.wrap ((y33.1.length : Int) + (behind6.length : Int)))))]) (cs' := [.int .u8 h1.f_Class, .int .u32 (Int.tmod h1.f_Flow 1048576), .int .u16 (IntKind.u16.wrap (gmin 65535 (IntKind.i64.wrap ((y33.1.length : Int) + (behind6.length : Int))))), .int .u8 y33.2.1, .int .u8 h1.f_Hops, .int .u8 (List.getD h1.f_Src 0 0), .int .u8 (List.getD h1.f_Src 1 0), .int .u8 (List.getD h1.f_Src 2 0), .int .u8 (List.getD h1.f_Src 3 0), .int .u8 (List.getD h1.f_Src 4 0), .int .u8 (List.getD h1.f_Src 5 0), .int .u8 (List.getD h1.f_Src 6 0), .int .u8 (List.getD h1.f_Src 7 0), .int .u8 (List.getD h1.f_Src 8 0), .int .u8 (List.getD h1.f_Src 9 0), .int .u8 (List.getD h1.f_Src 10 0), .int .u8 (List.getD h1.f_Src 11 0), .int .u8 (List.getD h1.f_Src 12 0), .int .u8 (List.getD h1.f_Src 13 0), .int .u8 (List.getD h1.f_Src 14 0), .int .u8 (List.getD h1.f_Src 15 0), .int .u8 (List.getD h1.f_Dst 0 0), .int .u8 (List.getD h1.f_Dst 1 0), .int .u8 (List.getD h1.f_Dst 2 0), .int .u8 (List.getD h1.f_Dst 3 0), .int .u8 (List.getD h1.f_Dst 4 0), .int .u8 (List.getD h1.f_Dst 5 0), .int .u8 (List.getD h1.f_Dst 6 0), .int .u8 (List.getD h1.f_Dst 7 0), .int .u8 (List.getD h1.f_Dst 8 0), .int .u8 (List.getD h1.f_Dst 9 0), .int .u8 (List.getD h1.f_Dst 10 0), .int .u8 (List.getD h1.f_Dst 11 0), .int .u8 (List.getD h1.f_Dst 12 0), .int .u8 (List.getD h1.f_Dst 13 0), .int .u8 (List.getD h1.f_Dst 14 0), .int .u8 (List.getD h1.f_Dst 15 0)]) hM rfl sz36 rfl (adds_eq [2] rfl) rfl rfl (One.all rfl) rfl rfl) fun w77 hM1 => ?_
              clear hM
              have hM := hM1
              clear hM1
              refine RL.nil ?_
              refine KQ.then_n ?_
              refine KC.seq ?_
              refine KC.region ?_
              refine RL.val (O.loadN (cs := [.int .u8 h1.f_Class, .int .u32 (Int.tmod h1.f_Flow 1048576), .int .u16 (IntKind.u16.wrap (gmin 65535 (IntKind.i64.wrap ((y33.1.length : Int) + (behind6.length : Int))))), .int .u8 y33.2.1, .int .u8 h1.f_Hops, .int .u8 (List.getD h1.f_Src 0 0), .int .u8 (List.getD h1.f_Src 1 0), .int .u8 (List.getD h1.f_Src 2 0), .int .u8 (List.getD h1.f_Src 3 0), .int .u8 (List.getD h1.f_Src 4 0), .int .u8 (List.getD h1.f_Src 5 0), .int .u8 (List.getD h1.f_Src 6 0), .int .u8 (List.getD h1.f_Src 7 0), .int .u8 (List.getD h1.f_Src 8 0), .int .u8 (List.getD h1.f_Src 9 0), .int .u8 (List.getD h1.f_Src 10 0), .int .u8 (List.getD h1.f_Src 11 0), .int .u8 (List.getD h1.f_Src 12 0), .int .u8 (List.getD h1.f_Src 13 0), .int .u8 (List.getD h1.f_Src 14 0), .int .u8 (List.getD h1.f_Src 15 0), .int .u8 (List.getD h1.f_Dst 0 0), .int .u8 (List.getD h1.f_Dst 1 0), .int .u8 (List.getD h1.f_Dst 2 0), .int .u8 (List.getD h1.f_Dst 3 0), .int .u8 (List.getD h1.f_Dst 4 0), .int .u8 (List.getD h1.f_Dst 5 0), .int .u8 (List.getD h1.f_Dst 6 0), .int .u8 (List.getD h1.f_Dst 7 0), .int .u8 (List.getD h1.f_Dst 8 0), .int .u8 (List.getD h1.f_Dst 9 0), .int .u8 (List.getD h1.f_Dst 10 0), .int .u8 (List.getD h1.f_Dst 11 0), .int .u8 (List.getD h1.f_Dst 12 0), .int .u8 (List.getD h1.f_Dst 13 0), .int .u8 (List.getD h1.f_Dst 14 0), .int .u8 (List.getD h1.f_Dst 15 0)]) ag52 rfl (Cs.addsN [] ((hM.bx (i := 0) rfl)) rfl)) rfl ?_
              refine obindE hF fun y78 hx79 hF => ?_
              refine RL.call Try.func28 bd28 rfl rfl (c_ipsix_Put _ (T_ipsix_Header.mk h1.f_Class (Int.tmod h1.f_Flow 1048576) (IntKind.u16.wrap (gmin 65535 (IntKind.i64.wrap ((y33.1.length : Int) + (behind6.length : Int))))) y33.2.1 h1.f_Hops h1.f_Src h1.f_Dst) _ hx79) fun v w80 hv => ?_
              obtain ⟨A82, c83, rfl, hN81⟩ := hv
              replace hM := hM.call hN81
              refine RL.val (O.move rfl) rfl ?_
              refine RL.val (O.ext rfl rfl) rfl ?_
              refine RL.val (O.ext rfl rfl) rfl ?_
              refine RL.val (O.assign rfl) rfl ?_
              refine RL.val (O.assign rfl) rfl ?_
              refine RL.nil ?_
              refine KQ.then_n ?_
              refine KC.seq ?_
              refine KC.region ?_
              refine RL.val (O.move rfl) rfl ?_
              refine RL.val (O.move rfl) rfl ?_
              refine cut_someE hF fun hq88 hF => ?_
              refine RL.eff (E.app (enc := (eI .u8)) (xs := y78.1) (ys := y33.1) (j := 3) hM rfl sl31 ze5 rfl rfl rfl rfl rfl (hM.rd (i := 2) rfl) (fun _ => One.all rfl) (of_decide_eq_true hq88)) rfl fun v w87 hv => ?_
              clear hM
              obtain ⟨A85, c86, rfl, hM, hf⟩ := hv
              refine RL.val (O.move rfl) rfl ?_
              refine cut_someE hF fun hq93 hF => ?_
              refine RL.eff (E.app (enc := (eI .u8)) (xs := (y78.1 ++ y33.1)) (ys := behind6) (j := 3) hM rfl sl31 ze5 rfl rfl rfl rfl rfl (hM.inp hr9 Off.nil) (fun _ => One.all rfl) (of_decide_eq_true hq93)) rfl fun v w92 hv => ?_
              clear hM
              obtain ⟨A90, c91, rfl, hM, hf⟩ := hv
              refine RL.eff (E.bsl (enc := (eI .u8)) (xs := ([1, 2, 3] : List Int)) hM sl31 ze5 rfl rfl rfl (fun _ => rfl) rfl (by kernel_rfl) rfl) rfl fun v w95 hv => ?_
              clear hM
              obtain ⟨A96, rfl, hM, hf⟩ := hv
              refine cut_someE hF fun hq101 hF => ?_
              refine RL.eff (E.app (enc := (eI .u8)) (xs := ((y78.1 ++ y33.1) ++ behind6)) (ys := ([1, 2, 3] : List Int)) (j := 3) hM rfl sl31 ze5 rfl rfl rfl rfl rfl (hM.rd (i := 4) rfl) (fun _ => One.all rfl) (of_decide_eq_true hq101)) rfl fun v w100 hv => ?_
              clear hM
              obtain ⟨A98, c99, rfl, hM, hf⟩ := hv
              refine obindE hF fun y103 hx104 hF => ?_
              refine RL.call Try.func23 bd23 rfl rfl (c_ipsix_Body _ _ _ (((y78.1 ++ y33.1) ++ behind6) ++ ([1, 2, 3] : List Int)) (hM.rd (i := 3) rfl) _ hx104) fun v w105 hv => ?_
              obtain ⟨A107, c108, css110, Z111, A113, c114, rfl, hN106⟩ := hv
              replace hM := hM.call hN106
              refine RL.val (O.move rfl) rfl ?_
              refine RL.val (O.ext rfl rfl) rfl ?_
              refine RL.val (O.ext rfl rfl) rfl ?_
              refine RL.val (O.ext rfl rfl) rfl ?_
              refine RL.val (O.ext rfl rfl) rfl ?_
              refine RL.eff (E.alloc hM ze52) rfl fun v w117 hv => ?_
              clear hM
              obtain ⟨g116, rfl, hM, hf⟩ := hv
              refine RL.eff (E.alloc hM ze24) rfl fun v w120 hv => ?_
              clear hM
              obtain ⟨g119, rfl, hM, hf⟩ := hv
              refine RL.effs (E.stB (j := 8) (off := 0) (vs := [.int .u8 y103.1.f_Class, .int .u32 y103.1.f_Flow, .int .u16 y103.1.f_Length, .int .u8 y103.1.f_Next, .int .u8 y103.1.f_Hops, .int .u8 (List.getD y103.1.f_Src 0 0), .int .u8 (List.getD y103.1.f_Src 1 0), .int .u8 (List.getD y103.1.f_Src 2 0), .int .u8 (List.getD y103.1.f_Src 3 0), .int .u8 (List.getD y103.1.f_Src 4 0), .int .u8 (List.getD y103.1.f_Src 5 0), .int .u8 (List.getD y103.1.f_Src 6 0), .int .u8 (List.getD y103.1.f_Src 7 0), .int .u8 (List.getD y103.1.f_Src 8 0), .int .u8 (List.getD y103.1.f_Src 9 0), .int .u8 (List.getD y103.1.f_Src 10 0), .int .u8 (List.getD y103.1.f_Src 11 0), .int .u8 (List.getD y103.1.f_Src 12 0), .int .u8 (List.getD y103.1.f_Src 13 0), .int .u8 (List.getD y103.1.f_Src 14 0), .int .u8 (List.getD y103.1.f_Src 15 0), .int .u8 (List.getD y103.1.f_Dst 0 0), .int .u8 (List.getD y103.1.f_Dst 1 0), .int .u8 (List.getD y103.1.f_Dst 2 0), .int .u8 (List.getD y103.1.f_Dst 3 0), .int .u8 (List.getD y103.1.f_Dst 4 0), .int .u8 (List.getD y103.1.f_Dst 5 0), .int .u8 (List.getD y103.1.f_Dst 6 0), .int .u8 (List.getD y103.1.f_Dst 7 0), .int .u8 (List.getD y103.1.f_Dst 8 0), .int .u8 (List.getD y103.1.f_Dst 9 0), .int .u8 (List.getD y103.1.f_Dst 10 0), .int .u8 (List.getD y103.1.f_Dst 11 0), .int .u8 (List.getD y103.1.f_Dst 12 0), .int .u8 (List.getD y103.1.f_Dst 13 0), .int .u8 (List.getD y103.1.f_Dst 14 0), .int .u8 (List.getD y103.1.f_Dst 15 0)]) (cs' := [.int .u8 y103.1.f_Class, .int .u32 y103.1.f_Flow, .int .u16 y103.1.f_Length, .int .u8 y103.1.f_Next, .int .u8 y103.1.f_Hops, .int .u8 (List.getD y103.1.f_Src 0 0), .int .u8 (List.getD y103.1.f_Src 1 0), .int .u8 (List.getD y103.1.f_Src 2 0), .int .u8 (List.getD y103.1.f_Src 3 0), .int .u8 (List.getD y103.1.f_Src 4 0), .int .u8 (List.getD y103.1.f_Src 5 0), .int .u8 (List.getD y103.1.f_Src 6 0), .int .u8 (List.getD y103.1.f_Src 7 0), .int .u8 (List.getD y103.1.f_Src 8 0), .int .u8 (List.getD y103.1.f_Src 9 0), .int .u8 (List.getD y103.1.f_Src 10 0), .int .u8 (List.getD y103.1.f_Src 11 0), .int .u8 (List.getD y103.1.f_Src 12 0), .int .u8 (List.getD y103.1.f_Src 13 0), .int .u8 (List.getD y103.1.f_Src 14 0), .int .u8 (List.getD y103.1.f_Src 15 0), .int .u8 (List.getD y103.1.f_Dst 0 0), .int .u8 (List.getD y103.1.f_Dst 1 0), .int .u8 (List.getD y103.1.f_Dst 2 0), .int .u8 (List.getD y103.1.f_Dst 3 0), .int .u8 (List.getD y103.1.f_Dst 4 0), .int .u8 (List.getD y103.1.f_Dst 5 0), .int .u8 (List.getD y103.1.f_Dst 6 0), .int .u8 (List.getD y103.1.f_Dst 7 0), .int .u8 (List.getD y103.1.f_Dst 8 0), .int .u8 (List.getD y103.1.f_Dst 9 0), .int .u8 (List.getD y103.1.f_Dst 10 0), .int .u8 (List.getD y103.1.f_Dst 11 0), .int .u8 (List.getD y103.1.f_Dst 12 0), .int .u8 (List.getD y103.1.f_Dst 13 0), .int .u8 (List.getD y103.1.f_Dst 14 0), .int .u8 (List.getD y103.1.f_Dst 15 0)]) hM rfl sz52 rfl (adds_eq [] rfl) rfl rfl (One.all rfl) rfl rfl) fun w122 hM1 => ?_
              clear hM
              have hM := hM1
              clear hM1
              refine RL.effs (E.stB (j := 9) (off := 0) (vs := [.slice A107 (y103.2.1.f_Exts).length c108, .int .u8 y103.2.1.f_Proto]) (cs' := [.slice A107 (y103.2.1.f_Exts).length c108, .int .u8 y103.2.1.f_Proto]) hM rfl sz24 rfl (adds_eq [] rfl) rfl rfl (One.all rfl) rfl rfl) fun w123 hM1 => ?_
              clear hM
              have hM := hM1
              clear hM1
              refine RL.val (O.assign rfl) rfl ?_
              refine RL.val (O.assign rfl) rfl ?_
              refine RL.nil ?_
              refine KQ.then_n ?_
              refine KC.cut (fun a w133 => ∃ (t132 : Bool), Kn 188 [(3, .int .u8 first10), (4, .slice A12 (b11).length c13), (134, .bool t132)] a ∧ Mem w [] w133 [] ∧ F_law06_IpsixBack_j6 first10 b11 t132 = some r) ?_ ?_
              · refine KC.region ?_
                refine RL.val (O.move rfl) rfl ?_
                refine RL.val (O.neq rfl rfl) rfl ?_
                refine RL.val (O.move rfl) rfl ?_
                refine RL.bcase (t := 109) rfl (fun hc => ?_) (fun hc => ?_)
                · rw [if_pos hc] at hF
                  refine RL.brun1 25 134 true (by kernel_rfl) ?_
                  refine RL.nil ?_
                  refine KQ.then_k ?_
                  replace hM := hM.pick [] rfl (by decide)
                  exact fun a ha => ⟨true, ha.less (less_cons rfl (less_cons rfl (less_cons rfl less_nil))), hM, hF⟩
                · rw [if_neg (ne_true hc)] at hF
                  refine RL.gval rfl rfl (O.move rfl) rfl ?_
                  refine RL.gval rfl rfl (O.len sl31 rfl) rfl ?_
                  refine RL.gval rfl rfl (O.leq rfl rfl) rfl ?_
                  refine RL.gval rfl rfl (O.move rfl) rfl ?_
                  refine RL.bcase (t := 113) rfl (fun hc => ?_) (fun hc => ?_)
                  · rw [if_pos hc] at hF
                    refine RL.gval rfl rfl (O.move rfl) rfl ?_
                    refine RL.gval rfl rfl (O.neq rfl rfl) rfl ?_
                    refine RL.gval rfl rfl (O.move rfl) rfl ?_
                    refine RL.bcase (t := 116) rfl (fun hc => ?_) (fun hc => ?_)
                    · rw [if_pos hc] at hF
                      refine RL.gskip rfl rfl rfl rfl ?_
                      refine RL.gskip rfl rfl rfl rfl ?_
                      refine RL.gskip rfl rfl rfl rfl ?_
                      refine RL.gval rfl rfl (O.pickt rfl rfl) rfl ?_
                      refine RL.gval rfl rfl (O.move rfl) rfl ?_
                      refine RL.gskip rfl rfl rfl rfl ?_
                      refine RL.gskip rfl rfl rfl rfl ?_
                      refine RL.gskip rfl rfl rfl rfl ?_
                      refine RL.gskip rfl rfl rfl rfl ?_
                      refine RL.gval rfl rfl (O.pickt rfl rfl) rfl ?_
                      refine RL.gval rfl rfl (O.move rfl) rfl ?_
                      refine RL.gskip rfl rfl rfl rfl ?_
                      refine RL.gskip rfl rfl rfl rfl ?_
                      refine RL.gskip rfl rfl rfl rfl ?_
                      refine RL.gskip rfl rfl rfl rfl ?_
                      refine RL.gval rfl rfl (O.pickt rfl rfl) rfl ?_
                      refine RL.gval rfl rfl (O.pickt rfl rfl) rfl ?_
                      refine RL.val (O.pickf rfl rfl) rfl ?_
                      refine RL.nil ?_
                      refine KQ.then_k ?_
                      replace hM := hM.pick [] rfl (by decide)
                      exact fun a ha => ⟨true, ha.less (less_cons rfl (less_cons rfl (less_cons rfl less_nil))), hM, hF⟩
                    · rw [if_neg (ne_true hc)] at hF
                      refine RL.gval rfl rfl (O.loadN (cs := [.int .u8 y103.1.f_Class, .int .u32 y103.1.f_Flow, .int .u16 y103.1.f_Length, .int .u8 y103.1.f_Next, .int .u8 y103.1.f_Hops, .int .u8 (List.getD y103.1.f_Src 0 0), .int .u8 (List.getD y103.1.f_Src 1 0), .int .u8 (List.getD y103.1.f_Src 2 0), .int .u8 (List.getD y103.1.f_Src 3 0), .int .u8 (List.getD y103.1.f_Src 4 0), .int .u8 (List.getD y103.1.f_Src 5 0), .int .u8 (List.getD y103.1.f_Src 6 0), .int .u8 (List.getD y103.1.f_Src 7 0), .int .u8 (List.getD y103.1.f_Src 8 0), .int .u8 (List.getD y103.1.f_Src 9 0), .int .u8 (List.getD y103.1.f_Src 10 0), .int .u8 (List.getD y103.1.f_Src 11 0), .int .u8 (List.getD y103.1.f_Src 12 0), .int .u8 (List.getD y103.1.f_Src 13 0), .int .u8 (List.getD y103.1.f_Src 14 0), .int .u8 (List.getD y103.1.f_Src 15 0), .int .u8 (List.getD y103.1.f_Dst 0 0), .int .u8 (List.getD y103.1.f_Dst 1 0), .int .u8 (List.getD y103.1.f_Dst 2 0), .int .u8 (List.getD y103.1.f_Dst 3 0), .int .u8 (List.getD y103.1.f_Dst 4 0), .int .u8 (List.getD y103.1.f_Dst 5 0), .int .u8 (List.getD y103.1.f_Dst 6 0), .int .u8 (List.getD y103.1.f_Dst 7 0), .int .u8 (List.getD y103.1.f_Dst 8 0), .int .u8 (List.getD y103.1.f_Dst 9 0), .int .u8 (List.getD y103.1.f_Dst 10 0), .int .u8 (List.getD y103.1.f_Dst 11 0), .int .u8 (List.getD y103.1.f_Dst 12 0), .int .u8 (List.getD y103.1.f_Dst 13 0), .int .u8 (List.getD y103.1.f_Dst 14 0), .int .u8 (List.getD y103.1.f_Dst 15 0)]) ag52 rfl (Cs.addsN [] ((hM.bx (i := 8) rfl)) rfl)) rfl ?_
                      refine RL.gval rfl rfl (O.loadN (cs := [.int .u8 h1.f_Class, .int .u32 (Int.tmod h1.f_Flow 1048576), .int .u16 (IntKind.u16.wrap (gmin 65535 (IntKind.i64.wrap ((y33.1.length : Int) + (behind6.length : Int))))), .int .u8 y33.2.1, .int .u8 h1.f_Hops, .int .u8 (List.getD h1.f_Src 0 0), .int .u8 (List.getD h1.f_Src 1 0), .int .u8 (List.getD h1.f_Src 2 0), .int .u8 (List.getD h1.f_Src 3 0), .int .u8 (List.getD h1.f_Src 4 0), .int .u8 (List.getD h1.f_Src 5 0), .int .u8 (List.getD h1.f_Src 6 0), .int .u8 (List.getD h1.f_Src 7 0), .int .u8 (List.getD h1.f_Src 8 0), .int .u8 (List.getD h1.f_Src 9 0), .int .u8 (List.getD h1.f_Src 10 0), .int .u8 (List.getD h1.f_Src 11 0), .int .u8 (List.getD h1.f_Src 12 0), .int .u8 (List.getD h1.f_Src 13 0), .int .u8 (List.getD h1.f_Src 14 0), .int .u8 (List.getD h1.f_Src 15 0), .int .u8 (List.getD h1.f_Dst 0 0), .int .u8 (List.getD h1.f_Dst 1 0), .int .u8 (List.getD h1.f_Dst 2 0), .int .u8 (List.getD h1.f_Dst 3 0), .int .u8 (List.getD h1.f_Dst 4 0), .int .u8 (List.getD h1.f_Dst 5 0), .int .u8 (List.getD h1.f_Dst 6 0), .int .u8 (List.getD h1.f_Dst 7 0), .int .u8 (List.getD h1.f_Dst 8 0), .int .u8 (List.getD h1.f_Dst 9 0), .int .u8 (List.getD h1.f_Dst 10 0), .int .u8 (List.getD h1.f_Dst 11 0), .int .u8 (List.getD h1.f_Dst 12 0), .int .u8 (List.getD h1.f_Dst 13 0), .int .u8 (List.getD h1.f_Dst 14 0), .int .u8 (List.getD h1.f_Dst 15 0)]) ag52 rfl (Cs.addsN [] ((hM.bx (i := 0) rfl)) rfl)) rfl ?_
                      refine RL.gval rfl rfl (O.stne (cs := [.int .u8 y103.1.f_Class, .int .u32 y103.1.f_Flow, .int .u16 y103.1.f_Length, .int .u8 y103.1.f_Next, .int .u8 y103.1.f_Hops, .int .u8 (List.getD y103.1.f_Src 0 0), .int .u8 (List.getD y103.1.f_Src 1 0), .int .u8 (List.getD y103.1.f_Src 2 0), .int .u8 (List.getD y103.1.f_Src 3 0), .int .u8 (List.getD y103.1.f_Src 4 0), .int .u8 (List.getD y103.1.f_Src 5 0), .int .u8 (List.getD y103.1.f_Src 6 0), .int .u8 (List.getD y103.1.f_Src 7 0), .int .u8 (List.getD y103.1.f_Src 8 0), .int .u8 (List.getD y103.1.f_Src 9 0), .int .u8 (List.getD y103.1.f_Src 10 0), .int .u8 (List.getD y103.1.f_Src 11 0), .int .u8 (List.getD y103.1.f_Src 12 0), .int .u8 (List.getD y103.1.f_Src 13 0), .int .u8 (List.getD y103.1.f_Src 14 0), .int .u8 (List.getD y103.1.f_Src 15 0), .int .u8 (List.getD y103.1.f_Dst 0 0), .int .u8 (List.getD y103.1.f_Dst 1 0), .int .u8 (List.getD y103.1.f_Dst 2 0), .int .u8 (List.getD y103.1.f_Dst 3 0), .int .u8 (List.getD y103.1.f_Dst 4 0), .int .u8 (List.getD y103.1.f_Dst 5 0), .int .u8 (List.getD y103.1.f_Dst 6 0), .int .u8 (List.getD y103.1.f_Dst 7 0), .int .u8 (List.getD y103.1.f_Dst 8 0), .int .u8 (List.getD y103.1.f_Dst 9 0), .int .u8 (List.getD y103.1.f_Dst 10 0), .int .u8 (List.getD y103.1.f_Dst 11 0), .int .u8 (List.getD y103.1.f_Dst 12 0), .int .u8 (List.getD y103.1.f_Dst 13 0), .int .u8 (List.getD y103.1.f_Dst 14 0), .int .u8 (List.getD y103.1.f_Dst 15 0)]) (cs' := [.int .u8 h1.f_Class, .int .u32 (Int.tmod h1.f_Flow 1048576), .int .u16 (IntKind.u16.wrap (gmin 65535 (IntKind.i64.wrap ((y33.1.length : Int) + (behind6.length : Int))))), .int .u8 y33.2.1, .int .u8 h1.f_Hops, .int .u8 (List.getD h1.f_Src 0 0), .int .u8 (List.getD h1.f_Src 1 0), .int .u8 (List.getD h1.f_Src 2 0), .int .u8 (List.getD h1.f_Src 3 0), .int .u8 (List.getD h1.f_Src 4 0), .int .u8 (List.getD h1.f_Src 5 0), .int .u8 (List.getD h1.f_Src 6 0), .int .u8 (List.getD h1.f_Src 7 0), .int .u8 (List.getD h1.f_Src 8 0), .int .u8 (List.getD h1.f_Src 9 0), .int .u8 (List.getD h1.f_Src 10 0), .int .u8 (List.getD h1.f_Src 11 0), .int .u8 (List.getD h1.f_Src 12 0), .int .u8 (List.getD h1.f_Src 13 0), .int .u8 (List.getD h1.f_Src 14 0), .int .u8 (List.getD h1.f_Src 15 0), .int .u8 (List.getD h1.f_Dst 0 0), .int .u8 (List.getD h1.f_Dst 1 0), .int .u8 (List.getD h1.f_Dst 2 0), .int .u8 (List.getD h1.f_Dst 3 0), .int .u8 (List.getD h1.f_Dst 4 0), .int .u8 (List.getD h1.f_Dst 5 0), .int .u8 (List.getD h1.f_Dst 6 0), .int .u8 (List.getD h1.f_Dst 7 0), .int .u8 (List.getD h1.f_Dst 8 0), .int .u8 (List.getD h1.f_Dst 9 0), .int .u8 (List.getD h1.f_Dst 10 0), .int .u8 (List.getD h1.f_Dst 11 0), .int .u8 (List.getD h1.f_Dst 12 0), .int .u8 (List.getD h1.f_Dst 13 0), .int .u8 (List.getD h1.f_Dst 14 0), .int .u8 (List.getD h1.f_Dst 15 0)]) (by kernel_rfl) rfl rfl (Q52t y103.1 (T_ipsix_Header.mk h1.f_Class (Int.tmod h1.f_Flow 1048576) (IntKind.u16.wrap (gmin 65535 (IntKind.i64.wrap ((y33.1.length : Int) + (behind6.length : Int))))) y33.2.1 h1.f_Hops h1.f_Src h1.f_Dst) _ rfl rfl)) rfl ?_
                      refine RL.gval rfl rfl (O.pickf rfl rfl) rfl ?_
                      refine RL.gval rfl rfl (O.move rfl) rfl ?_
                      refine RL.bcase (t := 121) rfl (fun hc => ?_) (fun hc => ?_)
                      · rw [if_pos hc] at hF
                        refine RL.gskip rfl rfl rfl rfl ?_
                        refine RL.gskip rfl rfl rfl rfl ?_
                        refine RL.gskip rfl rfl rfl rfl ?_
                        refine RL.gskip rfl rfl rfl rfl ?_
                        refine RL.gval rfl rfl (O.pickt rfl rfl) rfl ?_
                        refine RL.gval rfl rfl (O.move rfl) rfl ?_
                        refine RL.gskip rfl rfl rfl rfl ?_
                        refine RL.gskip rfl rfl rfl rfl ?_
                        refine RL.gskip rfl rfl rfl rfl ?_
                        refine RL.gskip rfl rfl rfl rfl ?_
                        refine RL.gval rfl rfl (O.pickt rfl rfl) rfl ?_
                        refine RL.gval rfl rfl (O.pickt rfl rfl) rfl ?_
                        refine RL.val (O.pickf rfl rfl) rfl ?_
                        refine RL.nil ?_
                        refine KQ.then_k ?_
                        replace hM := hM.pick [] rfl (by decide)
                        exact fun a ha => ⟨true, ha.less (less_cons rfl (less_cons rfl (less_cons rfl less_nil))), hM, hF⟩
                      · rw [if_neg (ne_true hc)] at hF
                        refine RL.gval rfl rfl (O.loadN (cs := [.slice A107 (y103.2.1.f_Exts).length c108, .int .u8 y103.2.1.f_Proto]) ag24 rfl (Cs.addsN [] ((hM.bx (i := 9) rfl)) rfl)) rfl ?_
                        refine RL.gval rfl rfl (O.loadN (cs := [.slice A3 (cv2.f_Exts).length c4, .int .u8 cv2.f_Proto]) ag24 rfl (Cs.addsN [] ((hM.bx (i := 1) rfl)) rfl)) rfl ?_
                        refine obindE hF fun y124 hx125 hF => ?_
                        refine RL.gcall rfl rfl Try.func18 bd18 rfl rfl (c_ipsix_Same _ y103.2.1 _ _ (hM.rdD (i := 5) (j := 6) uo_ipsix_Ext rfl rfl) cv2 _ _ (hr5.chg mv_ipsix_Ext hM.chg) _ hx125) fun v w126 hv => ?_
                        obtain ⟨rfl, hN127⟩ := hv
                        replace hM := hM.call0 hN127
                        refine RL.gval rfl rfl (O.not rfl) rfl ?_
                        refine RL.gval rfl rfl (O.pickf rfl rfl) rfl ?_
                        refine RL.gval rfl rfl (O.move rfl) rfl ?_
                        refine RL.bcase (t := 127) rfl (fun hc => ?_) (fun hc => ?_)
                        · rw [if_pos hc] at hF
                          refine RL.gskip rfl rfl rfl rfl ?_
                          refine RL.gskip rfl rfl rfl rfl ?_
                          refine RL.gskip rfl rfl rfl rfl ?_
                          refine RL.gskip rfl rfl rfl rfl ?_
                          refine RL.gval rfl rfl (O.pickt rfl rfl) rfl ?_
                          refine RL.gval rfl rfl (O.pickt rfl rfl) rfl ?_
                          refine RL.val (O.pickf rfl rfl) rfl ?_
                          refine RL.nil ?_
                          refine KQ.then_k ?_
                          replace hM := hM.pick [] rfl (by decide)
                          exact fun a ha => ⟨true, ha.less (less_cons rfl (less_cons rfl (less_cons rfl less_nil))), hM, hF⟩
                        · rw [if_neg (ne_true hc)] at hF
                          refine RL.gval rfl rfl (O.move rfl) rfl ?_
                          refine RL.gval rfl rfl (O.move rfl) rfl ?_
                          refine obindE hF fun y128 hx129 hF => ?_
                          refine RL.gcall rfl rfl Try.func15 bd15 rfl rfl (c_kit_SameBytes _ _ _ y103.2.2.1 (hM.rd (i := 7) rfl) _ _ behind6 (hM.inp hr9 Off.nil) _ hx129) fun v w130 hv => ?_
                          obtain ⟨rfl, hN131⟩ := hv
                          replace hM := hM.call0 hN131
                          refine RL.gval rfl rfl (O.not rfl) rfl ?_
                          refine RL.gval rfl rfl (O.pickf rfl rfl) rfl ?_
                          refine RL.gval rfl rfl (O.pickt rfl rfl) rfl ?_
                          refine RL.val (O.pickf rfl rfl) rfl ?_
                          refine RL.nil ?_
                          refine KQ.then_k ?_
                          replace hM := hM.pick [] rfl (by decide)
                          exact fun a ha => ⟨(!y128), ha.less (less_cons rfl (less_cons rfl (less_cons rfl less_nil))), hM, hF⟩
                  · rw [if_neg (ne_true hc)] at hF
                    refine RL.gskip rfl rfl rfl rfl ?_
                    refine RL.gskip rfl rfl rfl rfl ?_
                    refine RL.gskip rfl rfl rfl rfl ?_
                    refine RL.gskip' rfl rfl rfl ?_
                    refine RL.gskip' rfl rfl rfl ?_
                    refine RL.gskip' rfl rfl rfl ?_
                    refine RL.gskip rfl rfl rfl rfl ?_
                    refine RL.gskip rfl rfl rfl rfl ?_
                    refine RL.gskip' rfl rfl rfl ?_
                    refine RL.gskip' rfl rfl rfl ?_
                    refine RL.gskip' rfl rfl rfl ?_
                    refine RL.gskip' rfl rfl rfl ?_
                    refine RL.gskip rfl rfl rfl rfl ?_
                    refine RL.gskip rfl rfl rfl rfl ?_
                    refine RL.gskip' rfl rfl rfl ?_
                    refine RL.gskip' rfl rfl rfl ?_
                    refine RL.gskip' rfl rfl rfl ?_
                    refine RL.gskip' rfl rfl rfl ?_
                    refine RL.gskip rfl rfl rfl rfl ?_
                    refine RL.gval rfl rfl (O.pickf rfl rfl) rfl ?_
                    refine RL.val (O.pickf rfl rfl) rfl ?_
                    refine RL.nil ?_
                    refine KQ.then_k ?_
                    replace hM := hM.pick [] rfl (by decide)
                    exact fun a ha => ⟨false, ha.less (less_cons rfl (less_cons rfl (less_cons rfl less_nil))), hM, hF⟩
              · rintro a w133 ⟨t132, ha, hM, hF⟩
                refine KC.app ha ?_
                clear ha
                unfold F_law06_IpsixBack_j6 at hF
                refine KC.cond rfl (fun hc => ?_) (fun hc => ?_)
                · rw [if_pos hc] at hF
                  refine KC.seq ?_
                  refine KC.region ?_
                  refine RL.val (O.assign rfl) rfl ?_
                  refine RL.nil ?_
                  refine KQ.then_n ?_
                  refine KC.ret ?_
                  refine KQ.then_r ?_
                  obtain rfl := Option.some.inj hF
                  refine KQ.rets Try.results6 (RVs.cons (RV.tm rfl) RVs.nil) ?_
                  exact ⟨_, rfl, rfl, hM⟩
                · rw [if_neg (ne_true hc)] at hF
                  refine KC.skip ?_
                  refine KQ.then_k ?_
                  exact fun a ha => ⟨ha.less (less_cons rfl (less_cons rfl less_nil)), hM, hF⟩
        · rw [if_neg (ne_true hc)] at hF
          refine KC.skip ?_
          refine KQ.then_k ?_
          replace hM := hM.pick [] rfl (by decide)
          exact fun a ha => ⟨ha.less (less_cons rfl (less_cons rfl less_nil)), hM, hF⟩
      · rintro a w134 ⟨ha, hM, hF⟩
        refine KC.app ha ?_
        clear ha
        unfold F_law06_IpsixBack_j2 at hF
        refine KC.seq ?_
        refine KC.region ?_
        refine RL.val (O.move rfl) rfl ?_
        refine RL.val (O.move rfl) rfl ?_
        refine obindE hF fun y135 hx136 hF => ?_
        refine RL.call Try.func21 bd21 rfl rfl (c_ipsix_ParseChain _ first10 _ _ b11 (hM.inp hr14 Off.nil) _ hx136) fun v w137 hv => ?_
        obtain ⟨A139, c140, css142, Z143, rfl, hN138⟩ := hv
        replace hM := hM.call hN138
        refine RL.val (O.move rfl) rfl ?_
        refine RL.val (O.ext rfl rfl) rfl ?_
        refine RL.val (O.ext rfl rfl) rfl ?_
        refine RL.val (O.ext rfl rfl) rfl ?_
        refine RL.eff (E.alloc hM ze24) rfl fun v w146 hv => ?_
        clear hM
        obtain ⟨g145, rfl, hM, hf⟩ := hv
        refine RL.effs (E.stB (j := 2) (off := 0) (vs := [.slice A139 (y135.1.f_Exts).length c140, .int .u8 y135.1.f_Proto]) (cs' := [.slice A139 (y135.1.f_Exts).length c140, .int .u8 y135.1.f_Proto]) hM rfl sz24 rfl (adds_eq [] rfl) rfl rfl (One.all rfl) rfl rfl) fun w148 hM1 => ?_
        clear hM
        have hM := hM1
        clear hM1
        refine RL.val (O.assign rfl) rfl ?_
        refine RL.val (O.assign rfl) rfl ?_
        refine RL.nil ?_
        refine KQ.then_n ?_
        refine KC.seq ?_
        refine KC.seq ?_
        refine KC.region ?_
        refine RL.val (O.move rfl) rfl ?_
        refine RL.val (O.neq rfl rfl) rfl ?_
        refine RL.nil ?_
        refine KQ.then_n ?_
        refine KC.cond rfl (fun hc => ?_) (fun hc => ?_)
        · rw [if_pos hc] at hF
          refine KC.cut (fun a w154 => ∃ (t153 : Bool), Kn 188 [(10, .bool t153)] a ∧ Mem w [] w154 [] ∧ F_law06_IpsixBack_j3 t153 = some r) ?_ ?_
          · refine KC.region ?_
            refine RL.val (O.move rfl) rfl ?_
            refine RL.val (O.eql rfl rfl) rfl ?_
            refine RL.val (O.move rfl) rfl ?_
            refine RL.bcase (t := 146) rfl (fun hc => ?_) (fun hc => ?_)
            · rw [if_pos hc] at hF
              refine RL.gval rfl rfl (O.fldA fl24_0 (by decide) rfl) rfl ?_
              refine RL.gval rfl rfl (O.load sc22 rfl (Cs.adds [0] ((hM.bx (i := 2) rfl)) rfl)) rfl ?_
              refine RL.gval rfl rfl (O.len sl22 rfl) rfl ?_
              refine RL.gval rfl rfl (O.eql rfl rfl) rfl ?_
              refine RL.val (O.pickt rfl rfl) rfl ?_
              refine RL.val (O.move rfl) rfl ?_
              refine RL.bcase (t := 152) rfl (fun hc => ?_) (fun hc => ?_)
              · rw [if_pos hc] at hF
                refine obindE hF fun y149 hx150 hF => ?_
                refine RL.gcall rfl rfl Try.func9 bd9 rfl rfl (c_law06_works _ _ hx150) fun v w151 hv => ?_
                obtain ⟨rfl, hN152⟩ := hv
                replace hM := hM.call0 hN152
                refine RL.val (O.pickt rfl rfl) rfl ?_
                refine RL.val (O.assign rfl) rfl ?_
                refine RL.nil ?_
                refine KQ.then_k ?_
                replace hM := hM.pick [] rfl (by decide)
                exact fun a ha => ⟨y149, ha.less (less_cons rfl less_nil), hM, hF⟩
              · rw [if_neg (ne_true hc)] at hF
                refine RL.gskip rfl rfl rfl rfl ?_
                refine RL.val (O.pickf rfl rfl) rfl ?_
                refine RL.val (O.assign rfl) rfl ?_
                refine RL.nil ?_
                refine KQ.then_k ?_
                replace hM := hM.pick [] rfl (by decide)
                exact fun a ha => ⟨false, ha.less (less_cons rfl less_nil), hM, hF⟩
            · rw [if_neg (ne_true hc)] at hF
              refine RL.brun1 8 154 false (by kernel_rfl) ?_
              refine RL.val (O.assign rfl) rfl ?_
              refine RL.nil ?_
              refine KQ.then_k ?_
              replace hM := hM.pick [] rfl (by decide)
              exact fun a ha => ⟨false, ha.less (less_cons rfl less_nil), hM, hF⟩
          · rintro a w154 ⟨t153, ha, hM, hF⟩
            refine KC.app ha ?_
            clear ha
            unfold F_law06_IpsixBack_j3 at hF
            refine KC.ret ?_
            refine KQ.then_r ?_
            obtain rfl := Option.some.inj hF
            refine KQ.rets Try.results6 (RVs.cons (RV.tm rfl) RVs.nil) ?_
            exact ⟨_, rfl, rfl, hM⟩
        · rw [if_neg (ne_true hc)] at hF
          refine KC.skip ?_
          refine KQ.then_n ?_
          refine KC.seq ?_
          refine KC.region ?_
          refine RL.val (O.loadN (cs := [.slice A139 (y135.1.f_Exts).length c140, .int .u8 y135.1.f_Proto]) ag24 rfl (Cs.addsN [] ((hM.bx (i := 2) rfl)) rfl)) rfl ?_
          refine obindE hF fun y155 hx156 hF => ?_
          refine RL.call Try.func11 bd11 rfl rfl (c_ipsix_PutChain _ y135.1 _ _ (hM.rdD (i := 0) (j := 1) uo_ipsix_Ext rfl rfl) _ hx156) fun v w157 hv => ?_
          obtain ⟨A159, c160, rfl, hN158⟩ := hv
          replace hM := hM.call hN158
          refine RL.val (O.move rfl) rfl ?_
          refine RL.val (O.ext rfl rfl) rfl ?_
          refine RL.val (O.ext rfl rfl) rfl ?_
          refine RL.val (O.ext rfl rfl) rfl ?_
          refine RL.val (O.assign rfl) rfl ?_
          refine RL.val (O.assign rfl) rfl ?_
          refine RL.val (O.assign rfl) rfl ?_
          refine RL.nil ?_
          refine KQ.then_n ?_
          refine KC.cut (fun a w182 => ∃ (t181 : Bool), Kn 188 [(10, .bool t181)] a ∧ Mem w [] w182 [] ∧ F_law06_IpsixBack_j4 t181 = some r) ?_ ?_
          · refine KC.region ?_
            refine RL.val (O.loadN (cs := [.slice A139 (y135.1.f_Exts).length c140, .int .u8 y135.1.f_Proto]) ag24 rfl (Cs.addsN [] ((hM.bx (i := 2) rfl)) rfl)) rfl ?_
            refine obindE hF fun y162 hx163 hF => ?_
            refine RL.call Try.func16 bd16 rfl rfl (c_ipsix_Right _ y135.1 _ _ (hM.rdD (i := 0) (j := 1) uo_ipsix_Ext rfl rfl) _ hx163) fun v w164 hv => ?_
            obtain ⟨rfl, hN165⟩ := hv
            replace hM := hM.call0 hN165
            refine RL.val (O.move rfl) rfl ?_
            refine RL.bcase (t := 163) rfl (fun hc => ?_) (fun hc => ?_)
            · rw [if_pos hc] at hF
              refine RL.gval rfl rfl (O.move rfl) rfl ?_
              refine RL.gval rfl rfl (O.eql rfl rfl) rfl ?_
              refine RL.val (O.pickt rfl rfl) rfl ?_
              refine RL.val (O.move rfl) rfl ?_
              refine RL.bcase (t := 167) rfl (fun hc => ?_) (fun hc => ?_)
              · rw [if_pos hc] at hF
                refine RL.gval rfl rfl (O.move rfl) rfl ?_
                refine RL.gval rfl rfl (O.move rfl) rfl ?_
                refine RL.gval rfl rfl (O.eql rfl rfl) rfl ?_
                refine RL.val (O.pickt rfl rfl) rfl ?_
                refine RL.val (O.move rfl) rfl ?_
                refine RL.bcase (t := 172) rfl (fun hc => ?_) (fun hc => ?_)
                · rw [if_pos hc] at hF
                  refine RL.gval rfl rfl (O.move rfl) rfl ?_
                  refine RL.gval rfl rfl (O.move rfl) rfl ?_
                  refine RL.gval rfl rfl (O.len sl31 rfl) rfl ?_
                  refine RL.gval rfl rfl (O.leq rfl rfl) rfl ?_
                  refine RL.val (O.pickt rfl rfl) rfl ?_
                  refine RL.val (O.move rfl) rfl ?_
                  refine RL.bcase (t := 178) rfl (fun hc => ?_) (fun hc => ?_)
                  · rw [if_pos hc] at hF
                    refine RL.gval rfl rfl (O.move rfl) rfl ?_
                    refine RL.gval rfl rfl (O.move rfl) rfl ?_
                    refine RL.gval rfl rfl (O.move rfl) rfl ?_
                    refine obindE hF fun cut166 hy167 hF => ?_
                    obtain ⟨A168, c169, eA171, ec172⟩ := cutN A12 c13 (Int.toNat 0) 1
                    have hr170 := Rd.cutT (enc := (eI .u8)) (s := 1) (fun _ => rfl) hr14 hy167 (m := c13) (by have := hr14.cap; have := (gcut_some hy167).2.2.1; omega) (Nat.le_refl _)
                    rw [← eA171, ← ec172] at hr170
                    refine RL.gval (v := .slice A168 (cut166).length c169) rfl rfl (by rw [eA171, ec172]; exact O.cuthT sl31 (hM.inp hr14 Off.nil) hy167 rfl rfl) rfl ?_
                    refine obindE hF fun y173 hx174 hF => ?_
                    refine RL.gcall rfl rfl Try.func15 bd15 rfl rfl (c_kit_SameBytes _ _ _ y155.1 (hM.rd (i := 3) rfl) _ _ cut166 (hM.inp hr170 Off.nil) _ hx174) fun v w175 hv => ?_
                    obtain ⟨rfl, hN176⟩ := hv
                    replace hM := hM.call0 hN176
                    refine RL.val (O.pickt rfl rfl) rfl ?_
                    refine RL.val (O.move rfl) rfl ?_
                    refine RL.bcase (t := 185) rfl (fun hc => ?_) (fun hc => ?_)
                    · rw [if_pos hc] at hF
                      refine obindE hF fun y177 hx178 hF => ?_
                      refine RL.gcall rfl rfl Try.func9 bd9 rfl rfl (c_law06_works _ _ hx178) fun v w179 hv => ?_
                      obtain ⟨rfl, hN180⟩ := hv
                      replace hM := hM.call0 hN180
                      refine RL.val (O.pickt rfl rfl) rfl ?_
                      refine RL.val (O.assign rfl) rfl ?_
                      refine RL.nil ?_
                      refine KQ.then_k ?_
                      replace hM := hM.pick [] rfl (by decide)
                      exact fun a ha => ⟨y177, ha.less (less_cons rfl less_nil), hM, hF⟩
                    · rw [if_neg (ne_true hc)] at hF
                      refine RL.gskip rfl rfl rfl rfl ?_
                      refine RL.val (O.pickf rfl rfl) rfl ?_
                      refine RL.val (O.assign rfl) rfl ?_
                      refine RL.nil ?_
                      refine KQ.then_k ?_
                      replace hM := hM.pick [] rfl (by decide)
                      exact fun a ha => ⟨false, ha.less (less_cons rfl less_nil), hM, hF⟩
                  · rw [if_neg (ne_true hc)] at hF
                    refine RL.brun1 9 187 false (by kernel_rfl) ?_
                    refine RL.val (O.assign rfl) rfl ?_
                    refine RL.nil ?_
                    refine KQ.then_k ?_
                    replace hM := hM.pick [] rfl (by decide)
                    exact fun a ha => ⟨false, ha.less (less_cons rfl less_nil), hM, hF⟩
                · rw [if_neg (ne_true hc)] at hF
                  refine RL.brun1 15 187 false (by kernel_rfl) ?_
                  refine RL.val (O.assign rfl) rfl ?_
                  refine RL.nil ?_
                  refine KQ.then_k ?_
                  replace hM := hM.pick [] rfl (by decide)
                  exact fun a ha => ⟨false, ha.less (less_cons rfl less_nil), hM, hF⟩
              · rw [if_neg (ne_true hc)] at hF
                refine RL.brun1 20 187 false (by kernel_rfl) ?_
                refine RL.val (O.assign rfl) rfl ?_
                refine RL.nil ?_
                refine KQ.then_k ?_
                replace hM := hM.pick [] rfl (by decide)
                exact fun a ha => ⟨false, ha.less (less_cons rfl less_nil), hM, hF⟩
            · rw [if_neg (ne_true hc)] at hF
              refine RL.brun1 24 187 false (by kernel_rfl) ?_
              refine RL.val (O.assign rfl) rfl ?_
              refine RL.nil ?_
              refine KQ.then_k ?_
              replace hM := hM.pick [] rfl (by decide)
              exact fun a ha => ⟨false, ha.less (less_cons rfl less_nil), hM, hF⟩
          · rintro a w182 ⟨t181, ha, hM, hF⟩
            refine KC.app ha ?_
            clear ha
            unfold F_law06_IpsixBack_j4 at hF
            refine KC.ret ?_
            obtain rfl := Option.some.inj hF
            refine KQ.rets Try.results6 (RVs.cons (RV.tm rfl) RVs.nil) ?_
            exact ⟨_, rfl, rfl, hM⟩
end Go.Proofs.Ytikjomacnbemhaa
