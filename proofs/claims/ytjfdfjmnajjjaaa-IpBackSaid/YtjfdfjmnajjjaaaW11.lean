/- Printed by a program of this claim: each call returns what the plain function of its name gives. -/
import Derived.Test.YtjfdfjmnajjjaaaW1
import Derived.Test.YtjfdfjmnajjjaaaW3
import Derived.Test.YtjfdfjmnajjjaaaW6
import Derived.Test.YtjfdfjmnajjjaaaW7
import Derived.Test.YtjfdfjmnajjjaaaW8
import Derived.Test.YtjfdfjmnajjjaaaW9
import Derived.Test.YtjfdfjmnajjjaaaW10
set_option linter.unusedVariables false
namespace Go.Proofs.Ytjfdfjmnajjjaaa
open Go Go.Ox Go.RowKit
set_option maxRecDepth 100000 in
set_option maxHeartbeats 40000000 in
theorem c_law05_IpPuts (w : World) (h1 : T_ip_Header) (A2 : Option Addr) (c3 : Nat) (hr4 : Rd w A2 c3 1 h1.f_Options.length (h1.f_Options.flatMap (eI .u8))) (other5 : T_ip_Header) (A6 : Option Addr) (c7 : Nat) (hr8 : Rd w A6 c7 1 other5.f_Options.length (other5.f_Options.flatMap (eI .u8))) (r : Bool) (hF : F_law05_IpPuts h1 other5 = some r) :
    CallsR Try.prog 4 [.agg #[.int .u8 h1.f_TOS, .int .u16 h1.f_Total, .int .u16 h1.f_ID, .bool h1.f_DF, .bool h1.f_MF, .int .u16 h1.f_Frag, .int .u8 h1.f_TTL, .int .u8 h1.f_Proto, .int .u8 (List.getD h1.f_Src 0 0), .int .u8 (List.getD h1.f_Src 1 0), .int .u8 (List.getD h1.f_Src 2 0), .int .u8 (List.getD h1.f_Src 3 0), .int .u8 (List.getD h1.f_Dst 0 0), .int .u8 (List.getD h1.f_Dst 1 0), .int .u8 (List.getD h1.f_Dst 2 0), .int .u8 (List.getD h1.f_Dst 3 0), .slice A2 (h1.f_Options).length c3], .agg #[.int .u8 other5.f_TOS, .int .u16 other5.f_Total, .int .u16 other5.f_ID, .bool other5.f_DF, .bool other5.f_MF, .int .u16 other5.f_Frag, .int .u8 other5.f_TTL, .int .u8 other5.f_Proto, .int .u8 (List.getD other5.f_Src 0 0), .int .u8 (List.getD other5.f_Src 1 0), .int .u8 (List.getD other5.f_Src 2 0), .int .u8 (List.getD other5.f_Src 3 0), .int .u8 (List.getD other5.f_Dst 0 0), .int .u8 (List.getD other5.f_Dst 1 0), .int .u8 (List.getD other5.f_Dst 2 0), .int .u8 (List.getD other5.f_Dst 3 0), .slice A6 (other5.f_Options).length c7]] w (fun v w' => v = .bool r ∧ Mem w [] w' []) := by
  refine calls_KC Try.func4 rfl Try.ntmps4 rfl ?_
  have hM := Mem.init w
  unfold F_law05_IpPuts at hF
  refine KC.seq ?_
  refine KC.region ?_
  refine RL.eff (E.box (vs := [.int .u8 h1.f_TOS, .int .u16 h1.f_Total, .int .u16 h1.f_ID, .bool h1.f_DF, .bool h1.f_MF, .int .u16 h1.f_Frag, .int .u8 h1.f_TTL, .int .u8 h1.f_Proto, .int .u8 (List.getD h1.f_Src 0 0), .int .u8 (List.getD h1.f_Src 1 0), .int .u8 (List.getD h1.f_Src 2 0), .int .u8 (List.getD h1.f_Src 3 0), .int .u8 (List.getD h1.f_Dst 0 0), .int .u8 (List.getD h1.f_Dst 1 0), .int .u8 (List.getD h1.f_Dst 2 0), .int .u8 (List.getD h1.f_Dst 3 0), .slice A2 (h1.f_Options).length c3]) hM rfl rfl) rfl fun v w10 hv => ?_
  clear hM
  obtain ⟨g9, rfl, hM, hf⟩ := hv
  refine RL.eff (E.box (vs := [.int .u8 other5.f_TOS, .int .u16 other5.f_Total, .int .u16 other5.f_ID, .bool other5.f_DF, .bool other5.f_MF, .int .u16 other5.f_Frag, .int .u8 other5.f_TTL, .int .u8 other5.f_Proto, .int .u8 (List.getD other5.f_Src 0 0), .int .u8 (List.getD other5.f_Src 1 0), .int .u8 (List.getD other5.f_Src 2 0), .int .u8 (List.getD other5.f_Src 3 0), .int .u8 (List.getD other5.f_Dst 0 0), .int .u8 (List.getD other5.f_Dst 1 0), .int .u8 (List.getD other5.f_Dst 2 0), .int .u8 (List.getD other5.f_Dst 3 0), .slice A6 (other5.f_Options).length c7]) hM rfl rfl) rfl fun v w13 hv => ?_
  clear hM
  obtain ⟨g12, rfl, hM, hf⟩ := hv
  refine RL.val (O.assign rfl) rfl ?_
  refine RL.nil ?_
  refine KQ.then_n ?_
  refine KC.seq ?_
  refine KC.cut (fun a w18 => ∃ (t17 : Bool), Kn 89 [(2, .pointer (some ⟨g9, 0, none⟩)), (3, .pointer (some ⟨g12, 0, none⟩)), (21, .bool t17)] a ∧ Mem w [] w18 [.box g9 39 [.int .u8 h1.f_TOS, .int .u16 h1.f_Total, .int .u16 h1.f_ID, .bool h1.f_DF, .bool h1.f_MF, .int .u16 h1.f_Frag, .int .u8 h1.f_TTL, .int .u8 h1.f_Proto, .int .u8 (List.getD h1.f_Src 0 0), .int .u8 (List.getD h1.f_Src 1 0), .int .u8 (List.getD h1.f_Src 2 0), .int .u8 (List.getD h1.f_Src 3 0), .int .u8 (List.getD h1.f_Dst 0 0), .int .u8 (List.getD h1.f_Dst 1 0), .int .u8 (List.getD h1.f_Dst 2 0), .int .u8 (List.getD h1.f_Dst 3 0), .slice A2 (h1.f_Options).length c3], .box g12 39 [.int .u8 other5.f_TOS, .int .u16 other5.f_Total, .int .u16 other5.f_ID, .bool other5.f_DF, .bool other5.f_MF, .int .u16 other5.f_Frag, .int .u8 other5.f_TTL, .int .u8 other5.f_Proto, .int .u8 (List.getD other5.f_Src 0 0), .int .u8 (List.getD other5.f_Src 1 0), .int .u8 (List.getD other5.f_Src 2 0), .int .u8 (List.getD other5.f_Src 3 0), .int .u8 (List.getD other5.f_Dst 0 0), .int .u8 (List.getD other5.f_Dst 1 0), .int .u8 (List.getD other5.f_Dst 2 0), .int .u8 (List.getD other5.f_Dst 3 0), .slice A6 (other5.f_Options).length c7]] ∧ F_law05_IpPuts_j1 h1 other5 t17 = some r) ?_ ?_
  · refine KC.region ?_
    refine RL.val (O.fldA fl39_10 (by decide) rfl) rfl ?_
    refine RL.val (O.load sc22 rfl (Cs.adds [16] ((hM.bx (i := 0) rfl)) rfl)) rfl ?_
    refine RL.val (O.len sl22 rfl) rfl ?_
    refine RL.val (O.gtr rfl rfl) rfl ?_
    refine RL.val (O.move rfl) rfl ?_
    refine RL.bcase (t := 16) rfl (fun hc => ?_) (fun hc => ?_)
    · rw [if_pos hc] at hF
      refine RL.brun1 5 21 true (by kernel_rfl) ?_
      refine RL.nil ?_
      refine KQ.then_k ?_
      exact fun a ha => ⟨true, ha.less (less_cons rfl (less_cons rfl (less_cons rfl less_nil))), hM, hF⟩
    · rw [if_neg (ne_true hc)] at hF
      refine RL.gval rfl rfl (O.fldA fl39_10 (by decide) rfl) rfl ?_
      refine RL.gval rfl rfl (O.load sc22 rfl (Cs.adds [16] ((hM.bx (i := 1) rfl)) rfl)) rfl ?_
      refine RL.gval rfl rfl (O.len sl22 rfl) rfl ?_
      refine RL.gval rfl rfl (O.gtr rfl rfl) rfl ?_
      refine RL.val (O.pickf rfl rfl) rfl ?_
      refine RL.nil ?_
      refine KQ.then_k ?_
      exact fun a ha => ⟨(decide (100 < (other5.f_Options.length : Int))), ha.less (less_cons rfl (less_cons rfl (less_cons rfl less_nil))), hM, hF⟩
  · rintro a w18 ⟨t17, ha, hM, hF⟩
    refine KC.app ha ?_
    clear ha
    unfold F_law05_IpPuts_j1 at hF
    refine KC.cond rfl (fun hc => ?_) (fun hc => ?_)
    · rw [if_pos hc] at hF
      refine KC.seq ?_
      refine KC.region ?_
      refine obindE hF fun y19 hx20 hF => ?_
      refine RL.call Try.func8 bd8 rfl rfl (c_law05_works _ _ hx20) fun v w21 hv => ?_
      obtain ⟨rfl, hN22⟩ := hv
      replace hM := hM.call0 hN22
      refine RL.val (O.assign rfl) rfl ?_
      refine RL.nil ?_
      refine KQ.then_n ?_
      refine KC.ret ?_
      refine KQ.then_r ?_
      have hE := Option.some.inj hF
      clear hF
      subst hE
      replace hM := hM.pick [] rfl (by decide)
      refine KQ.rets Try.results4 (RVs.cons (RV.tm rfl) RVs.nil) ?_
      exact ⟨_, rfl, rfl, hM⟩
    · rw [if_neg (ne_true hc)] at hF
      refine KC.skip ?_
      refine KQ.then_n ?_
      refine KC.seq ?_
      refine KC.region ?_
      refine RL.val (O.loadN (cs := [.int .u8 h1.f_TOS, .int .u16 h1.f_Total, .int .u16 h1.f_ID, .bool h1.f_DF, .bool h1.f_MF, .int .u16 h1.f_Frag, .int .u8 h1.f_TTL, .int .u8 h1.f_Proto, .int .u8 (List.getD h1.f_Src 0 0), .int .u8 (List.getD h1.f_Src 1 0), .int .u8 (List.getD h1.f_Src 2 0), .int .u8 (List.getD h1.f_Src 3 0), .int .u8 (List.getD h1.f_Dst 0 0), .int .u8 (List.getD h1.f_Dst 1 0), .int .u8 (List.getD h1.f_Dst 2 0), .int .u8 (List.getD h1.f_Dst 3 0), .slice A2 (h1.f_Options).length c3]) ag39 rfl (Cs.addsN [] ((hM.bx (i := 0) rfl)) rfl)) rfl ?_
      refine obindE hF fun y23 hx24 hF => ?_
      refine RL.call Try.func11 bd11 rfl rfl (c_docs_Ip _ h1 _ _ (hM.inp hr4 Off.nil) _ hx24) fun v w25 hv => ?_
      obtain ⟨rfl, hN26⟩ := hv
      replace hM := hM.call0 hN26
      refine RL.eff (E.alloc hM ze41) rfl fun v w28 hv => ?_
      clear hM
      obtain ⟨g27, rfl, hM, hf⟩ := hv
      refine RL.effs (E.stB (j := 2) (off := 0) (vs := [.int .u8 y23.f_TOS, .int .u16 y23.f_Total, .int .u16 y23.f_ID, .bool y23.f_DF, .bool y23.f_MF, .int .u16 y23.f_Frag, .int .u8 y23.f_TTL, .int .u8 y23.f_Proto, .string y23.f_Src, .string y23.f_Dst, .string y23.f_Options]) (cs' := [.int .u8 y23.f_TOS, .int .u16 y23.f_Total, .int .u16 y23.f_ID, .bool y23.f_DF, .bool y23.f_MF, .int .u16 y23.f_Frag, .int .u8 y23.f_TTL, .int .u8 y23.f_Proto, .string y23.f_Src, .string y23.f_Dst, .string y23.f_Options]) hM rfl sz41 rfl (adds_eq [] rfl) rfl rfl (One.all rfl) rfl rfl) fun w30 hM1 => ?_
      clear hM
      have hM := hM1
      clear hM1
      refine RL.nil ?_
      refine KQ.then_n ?_
      refine KC.seq ?_
      refine KC.region ?_
      refine RL.val (O.loadN (cs := [.int .u8 y23.f_TOS, .int .u16 y23.f_Total, .int .u16 y23.f_ID, .bool y23.f_DF, .bool y23.f_MF, .int .u16 y23.f_Frag, .int .u8 y23.f_TTL, .int .u8 y23.f_Proto, .string y23.f_Src, .string y23.f_Dst, .string y23.f_Options]) ag41 rfl (Cs.addsN [] ((hM.bx (i := 2) rfl)) rfl)) rfl ?_
      refine obindE hF fun y31 hx32 hF => ?_
      refine RL.call Try.func12 bd12 rfl rfl (c_ref05_Put _ y23 _ hx32) fun v w33 hv => ?_
      obtain ⟨A35, c36, rfl, hN34⟩ := hv
      replace hM := hM.call hN34
      refine RL.val (O.move rfl) rfl ?_
      refine RL.val (O.ext rfl rfl) rfl ?_
      refine RL.val (O.ext rfl rfl) rfl ?_
      refine RL.val (O.assign rfl) rfl ?_
      refine RL.val (O.assign rfl) rfl ?_
      refine RL.nil ?_
      refine KQ.then_n ?_
      refine KC.seq ?_
      refine KC.seq ?_
      refine KC.region ?_
      refine RL.val (O.assign rfl) rfl ?_
      refine RL.nil ?_
      refine KQ.then_n ?_
      refine KC.block ?_
      refine KC.loop (fun k176 a w174 => ∃ (t173 : Int), Kn 89 [(2, .pointer (some ⟨g9, 0, none⟩)), (3, .pointer (some ⟨g12, 0, none⟩)), (5, .pointer (some ⟨g27, 0, none⟩)), (6, .slice A35 (y31.1).length c36), (7, .int .i64 y31.2), (8, .int .i64 t173)] a ∧ Mem w [] w174 [.box g9 39 [.int .u8 h1.f_TOS, .int .u16 h1.f_Total, .int .u16 h1.f_ID, .bool h1.f_DF, .bool h1.f_MF, .int .u16 h1.f_Frag, .int .u8 h1.f_TTL, .int .u8 h1.f_Proto, .int .u8 (List.getD h1.f_Src 0 0), .int .u8 (List.getD h1.f_Src 1 0), .int .u8 (List.getD h1.f_Src 2 0), .int .u8 (List.getD h1.f_Src 3 0), .int .u8 (List.getD h1.f_Dst 0 0), .int .u8 (List.getD h1.f_Dst 1 0), .int .u8 (List.getD h1.f_Dst 2 0), .int .u8 (List.getD h1.f_Dst 3 0), .slice A2 (h1.f_Options).length c3], .box g12 39 [.int .u8 other5.f_TOS, .int .u16 other5.f_Total, .int .u16 other5.f_ID, .bool other5.f_DF, .bool other5.f_MF, .int .u16 other5.f_Frag, .int .u8 other5.f_TTL, .int .u8 other5.f_Proto, .int .u8 (List.getD other5.f_Src 0 0), .int .u8 (List.getD other5.f_Src 1 0), .int .u8 (List.getD other5.f_Src 2 0), .int .u8 (List.getD other5.f_Src 3 0), .int .u8 (List.getD other5.f_Dst 0 0), .int .u8 (List.getD other5.f_Dst 1 0), .int .u8 (List.getD other5.f_Dst 2 0), .int .u8 (List.getD other5.f_Dst 3 0), .slice A6 (other5.f_Options).length c7], .box g27 41 [.int .u8 y23.f_TOS, .int .u16 y23.f_Total, .int .u16 y23.f_ID, .bool y23.f_DF, .bool y23.f_MF, .int .u16 y23.f_Frag, .int .u8 y23.f_TTL, .int .u8 y23.f_Proto, .string y23.f_Src, .string y23.f_Dst, .string y23.f_Options], .row A35 c36 5 1 (y31.1).length ((y31.1).flatMap (eI .u8))] ∧ F_law05_IpPuts_L1 h1 other5 y23 y31 k176 t173 = some r) ?_ ?_
      · exact fun a ha => ⟨fuel0, 0, ha.less (less_cons rfl (less_cons rfl (less_cons rfl (less_cons rfl (less_cons rfl (less_cons rfl less_nil)))))), hM, hF⟩
      · rintro k176 a w174 ⟨t173, ha, hM, hF⟩
        refine KC.app ha ?_
        clear ha
        cases k176 with
        | zero => exact (none_some hF).elim
        | succ k176 =>
        have hF : F_law05_IpPuts_l1 (F_law05_IpPuts_L1 h1 other5 y23 y31 k176) h1 other5 y23 y31 t173 = some r := hF
        unfold F_law05_IpPuts_l1 at hF
        refine KC.seq ?_
        refine KC.seq ?_
        refine KC.region ?_
        refine RL.val (O.move rfl) rfl ?_
        refine RL.val (O.lss rfl rfl) rfl ?_
        refine RL.nil ?_
        refine KQ.then_n ?_
        refine KC.cond rfl (fun hc => ?_) (fun hc => ?_)
        · rw [if_pos hc] at hF
          refine KC.skip ?_
          refine KQ.then_n ?_
          refine KC.seq ?_
          refine KC.block ?_
          refine KC.seq ?_
          refine KC.region ?_
          refine RL.val (O.loadN (cs := [.int .u8 h1.f_TOS, .int .u16 h1.f_Total, .int .u16 h1.f_ID, .bool h1.f_DF, .bool h1.f_MF, .int .u16 h1.f_Frag, .int .u8 h1.f_TTL, .int .u8 h1.f_Proto, .int .u8 (List.getD h1.f_Src 0 0), .int .u8 (List.getD h1.f_Src 1 0), .int .u8 (List.getD h1.f_Src 2 0), .int .u8 (List.getD h1.f_Src 3 0), .int .u8 (List.getD h1.f_Dst 0 0), .int .u8 (List.getD h1.f_Dst 1 0), .int .u8 (List.getD h1.f_Dst 2 0), .int .u8 (List.getD h1.f_Dst 3 0), .slice A2 (h1.f_Options).length c3]) ag39 rfl (Cs.addsN [] ((hM.bx (i := 0) rfl)) rfl)) rfl ?_
          refine obindE hF fun y177 hx178 hF => ?_
          refine RL.call Try.func13 bd13 rfl rfl (c_ip_Put _ h1 _ _ (hM.inp hr4 Off.nil) _ hx178) fun v w179 hv => ?_
          obtain ⟨A181, c182, rfl, hN180⟩ := hv
          replace hM := hM.call hN180
          refine RL.val (O.move rfl) rfl ?_
          refine RL.val (O.ext rfl rfl) rfl ?_
          refine RL.val (O.ext rfl rfl) rfl ?_
          refine RL.val (O.assign rfl) rfl ?_
          refine RL.val (O.assign rfl) rfl ?_
          refine RL.nil ?_
          refine KQ.then_n ?_
          refine KC.seq ?_
          refine KC.cut (fun a w194 => ∃ (t193 : Bool), Kn 89 [(2, .pointer (some ⟨g9, 0, none⟩)), (3, .pointer (some ⟨g12, 0, none⟩)), (5, .pointer (some ⟨g27, 0, none⟩)), (6, .slice A35 (y31.1).length c36), (7, .int .i64 y31.2), (8, .int .i64 t173), (9, .slice A181 (y177.1).length c182), (47, .bool t193)] a ∧ Mem w [] w194 [.box g9 39 [.int .u8 h1.f_TOS, .int .u16 h1.f_Total, .int .u16 h1.f_ID, .bool h1.f_DF, .bool h1.f_MF, .int .u16 h1.f_Frag, .int .u8 h1.f_TTL, .int .u8 h1.f_Proto, .int .u8 (List.getD h1.f_Src 0 0), .int .u8 (List.getD h1.f_Src 1 0), .int .u8 (List.getD h1.f_Src 2 0), .int .u8 (List.getD h1.f_Src 3 0), .int .u8 (List.getD h1.f_Dst 0 0), .int .u8 (List.getD h1.f_Dst 1 0), .int .u8 (List.getD h1.f_Dst 2 0), .int .u8 (List.getD h1.f_Dst 3 0), .slice A2 (h1.f_Options).length c3], .box g12 39 [.int .u8 other5.f_TOS, .int .u16 other5.f_Total, .int .u16 other5.f_ID, .bool other5.f_DF, .bool other5.f_MF, .int .u16 other5.f_Frag, .int .u8 other5.f_TTL, .int .u8 other5.f_Proto, .int .u8 (List.getD other5.f_Src 0 0), .int .u8 (List.getD other5.f_Src 1 0), .int .u8 (List.getD other5.f_Src 2 0), .int .u8 (List.getD other5.f_Src 3 0), .int .u8 (List.getD other5.f_Dst 0 0), .int .u8 (List.getD other5.f_Dst 1 0), .int .u8 (List.getD other5.f_Dst 2 0), .int .u8 (List.getD other5.f_Dst 3 0), .slice A6 (other5.f_Options).length c7], .box g27 41 [.int .u8 y23.f_TOS, .int .u16 y23.f_Total, .int .u16 y23.f_ID, .bool y23.f_DF, .bool y23.f_MF, .int .u16 y23.f_Frag, .int .u8 y23.f_TTL, .int .u8 y23.f_Proto, .string y23.f_Src, .string y23.f_Dst, .string y23.f_Options], .row A35 c36 5 1 (y31.1).length ((y31.1).flatMap (eI .u8)), .row A181 c182 5 1 (y177.1).length ((y177.1).flatMap (eI .u8))] ∧ F_law05_IpPuts_j2 t173 (F_law05_IpPuts_L1 h1 other5 y23 y31 k176) y177 t193 = some r) ?_ ?_
          · refine KC.region ?_
            refine RL.val (O.move rfl) rfl ?_
            refine RL.val (O.move rfl) rfl ?_
            refine RL.val (O.neq rfl rfl) rfl ?_
            refine RL.val (O.move rfl) rfl ?_
            refine RL.bcase (t := 42) rfl (fun hc => ?_) (fun hc => ?_)
            · rw [if_pos hc] at hF
              refine RL.gskip rfl rfl rfl rfl ?_
              refine RL.gskip rfl rfl rfl rfl ?_
              refine RL.gskip rfl rfl rfl rfl ?_
              refine RL.gskip rfl rfl rfl rfl ?_
              refine RL.val (O.pickt rfl rfl) rfl ?_
              refine RL.nil ?_
              refine KQ.then_k ?_
              exact fun a ha => ⟨true, ha.less (less_cons rfl (less_cons rfl (less_cons rfl (less_cons rfl (less_cons rfl (less_cons rfl (less_cons rfl (less_cons rfl less_nil)))))))), hM, hF⟩
            · rw [if_neg (ne_true hc)] at hF
              refine RL.gval rfl rfl (O.move rfl) rfl ?_
              refine RL.gval rfl rfl (O.move rfl) rfl ?_
              refine obindE hF fun y184 hx185 hF => ?_
              refine RL.gcall rfl rfl Try.func14 bd14 rfl rfl (c_ref01_Same _ _ _ y177.1 (hM.rd (i := 4) rfl) _ _ y31.1 (hM.rd (i := 3) rfl) _ hx185) fun v w186 hv => ?_
              obtain ⟨rfl, hN187⟩ := hv
              replace hM := hM.call0 hN187
              refine RL.gval rfl rfl (O.not rfl) rfl ?_
              refine RL.val (O.pickf rfl rfl) rfl ?_
              refine RL.nil ?_
              refine KQ.then_k ?_
              exact fun a ha => ⟨(!y184), ha.less (less_cons rfl (less_cons rfl (less_cons rfl (less_cons rfl (less_cons rfl (less_cons rfl (less_cons rfl (less_cons rfl less_nil)))))))), hM, hF⟩
          · rintro a w194 ⟨t193, ha, hM, hF⟩
            refine KC.app ha ?_
            clear ha
            unfold F_law05_IpPuts_j2 at hF
            refine KC.cond rfl (fun hc => ?_) (fun hc => ?_)
            · rw [if_pos hc] at hF
              refine KC.seq ?_
              refine KC.region ?_
              refine RL.val (O.assign rfl) rfl ?_
              refine RL.nil ?_
              refine KQ.then_n ?_
              refine KC.ret ?_
              refine KQ.then_r ?_
              refine KQ.blk_r ?_
              refine KQ.then_r ?_
              refine KQ.then_r ?_
              refine KQ.blk_r ?_
              refine KQ.then_r ?_
              have hE := Option.some.inj hF
              clear hF
              subst hE
              replace hM := hM.pick [] rfl (by decide)
              refine KQ.rets Try.results4 (RVs.cons (RV.tm rfl) RVs.nil) ?_
              exact ⟨_, rfl, rfl, hM⟩
            · rw [if_neg (ne_true hc)] at hF
              refine KC.skip ?_
              refine KQ.then_n ?_
              refine KC.seq ?_
              refine KC.region ?_
              refine RL.val (O.assign rfl) rfl ?_
              refine RL.nil ?_
              refine KQ.then_n ?_
              refine KC.block ?_
              refine KC.loop (fun k231 a w229 => ∃ (A225 : Option Addr) (c226 : Nat) (b227 : List Int) (i228 : Int), Kn 89 [(2, .pointer (some ⟨g9, 0, none⟩)), (3, .pointer (some ⟨g12, 0, none⟩)), (5, .pointer (some ⟨g27, 0, none⟩)), (6, .slice A35 (y31.1).length c36), (7, .int .i64 y31.2), (8, .int .i64 t173), (9, .slice A225 (b227).length c226), (11, .int .i64 i228)] a ∧ Mem w [] w229 [.box g9 39 [.int .u8 h1.f_TOS, .int .u16 h1.f_Total, .int .u16 h1.f_ID, .bool h1.f_DF, .bool h1.f_MF, .int .u16 h1.f_Frag, .int .u8 h1.f_TTL, .int .u8 h1.f_Proto, .int .u8 (List.getD h1.f_Src 0 0), .int .u8 (List.getD h1.f_Src 1 0), .int .u8 (List.getD h1.f_Src 2 0), .int .u8 (List.getD h1.f_Src 3 0), .int .u8 (List.getD h1.f_Dst 0 0), .int .u8 (List.getD h1.f_Dst 1 0), .int .u8 (List.getD h1.f_Dst 2 0), .int .u8 (List.getD h1.f_Dst 3 0), .slice A2 (h1.f_Options).length c3], .box g12 39 [.int .u8 other5.f_TOS, .int .u16 other5.f_Total, .int .u16 other5.f_ID, .bool other5.f_DF, .bool other5.f_MF, .int .u16 other5.f_Frag, .int .u8 other5.f_TTL, .int .u8 other5.f_Proto, .int .u8 (List.getD other5.f_Src 0 0), .int .u8 (List.getD other5.f_Src 1 0), .int .u8 (List.getD other5.f_Src 2 0), .int .u8 (List.getD other5.f_Src 3 0), .int .u8 (List.getD other5.f_Dst 0 0), .int .u8 (List.getD other5.f_Dst 1 0), .int .u8 (List.getD other5.f_Dst 2 0), .int .u8 (List.getD other5.f_Dst 3 0), .slice A6 (other5.f_Options).length c7], .box g27 41 [.int .u8 y23.f_TOS, .int .u16 y23.f_Total, .int .u16 y23.f_ID, .bool y23.f_DF, .bool y23.f_MF, .int .u16 y23.f_Frag, .int .u8 y23.f_TTL, .int .u8 y23.f_Proto, .string y23.f_Src, .string y23.f_Dst, .string y23.f_Options], .row A35 c36 5 1 (y31.1).length ((y31.1).flatMap (eI .u8)), .row A225 c226 5 1 (b227).length ((b227).flatMap (eI .u8))] ∧ F_law05_IpPuts_L2 t173 (F_law05_IpPuts_L1 h1 other5 y23 y31 k176) k231 b227 i228 = some r) ?_ ?_
              · exact fun a ha => ⟨fuel0, A181, c182, y177.1, 0, ha.less (less_cons rfl (less_cons rfl (less_cons rfl (less_cons rfl (less_cons rfl (less_cons rfl (less_cons rfl (less_cons rfl less_nil)))))))), hM, hF⟩
              · rintro k231 a w229 ⟨A225, c226, b227, i228, ha, hM, hF⟩
                refine KC.app ha ?_
                clear ha
                cases k231 with
                | zero => exact (none_some hF).elim
                | succ k231 =>
                have hF : F_law05_IpPuts_l2 (F_law05_IpPuts_L2 t173 (F_law05_IpPuts_L1 h1 other5 y23 y31 k176) k231) t173 (F_law05_IpPuts_L1 h1 other5 y23 y31 k176) b227 i228 = some r := hF
                unfold F_law05_IpPuts_l2 at hF
                refine KC.seq ?_
                refine KC.seq ?_
                refine KC.region ?_
                refine RL.val (O.move rfl) rfl ?_
                refine RL.val (O.move rfl) rfl ?_
                refine RL.val (O.len sl22 rfl) rfl ?_
                refine RL.val (O.lss rfl rfl) rfl ?_
                refine RL.nil ?_
                refine KQ.then_n ?_
                refine KC.cond rfl (fun hc => ?_) (fun hc => ?_)
                · rw [if_pos hc] at hF
                  refine KC.skip ?_
                  refine KQ.then_n ?_
                  refine KC.seq ?_
                  refine KC.block ?_
                  refine KC.region ?_
                  refine RL.val (O.move rfl) rfl ?_
                  refine RL.val (O.move rfl) rfl ?_
                  refine obindE hF fun xv234 hx233 hF => ?_
                  have hA232 := Rd.atN (f := (eI .u8)) (s := 1) (fun _ => rfl) (by decide) (hM.rd (i := 4) rfl) hx233
                  refine RL.val (O.idxA sl22 (hA232) rfl rfl) rfl ?_
                  refine RL.val (O.load sc5 rfl (hA232).cells.at0) rfl ?_
                  refine RL.val (O.add rfl rfl) rfl ?_
                  refine obindE hF fun xv237 hx236 hF => ?_
                  have hA235 := Rd.atN (f := (eI .u8)) (s := 1) (fun _ => rfl) (by decide) (hM.rd (i := 4) rfl) hx236
                  refine RL.val (O.idxA sl22 (hA235) rfl rfl) rfl ?_
                  refine RL.effs (E.stR (enc := (eI .u8)) (j := 4) (off := 0) (vs := [.int .u8 (IntKind.u8.wrap (xv234 + 1))]) (x' := (IntKind.u8.wrap (xv234 + 1))) hM rfl (fun _ => rfl) hx236 sz5 rfl (addsR_eq [] rfl) rfl rfl (One.all rfl) rfl rfl) fun w238 hM1 => ?_
                  clear hM
                  obtain ⟨hM, hn239⟩ := hM1
                  refine RL.reslot (t := 9) rfl hn239 ?_
                  refine RL.reslot (t := 54) rfl hn239 ?_
                  refine RL.nil ?_
                  refine KQ.blk_n ?_
                  refine KQ.then_n ?_
                  refine KC.region ?_
                  refine RL.val (O.move rfl) rfl ?_
                  refine RL.val (O.add rfl rfl) rfl ?_
                  refine RL.val (O.assign rfl) rfl ?_
                  refine RL.nil ?_
                  refine KQ.then_k ?_
                  exact fun a ha => ⟨k231, Nat.lt_succ_self k231, A225, c226, (b227.set (i228 : Int).toNat (IntKind.u8.wrap (xv234 + 1))), (IntKind.i64.wrap (i228 + 1)), ha.less (less_cons rfl (less_cons rfl (less_cons rfl (less_cons rfl (less_cons rfl (less_cons rfl (less_cons rfl (less_cons rfl less_nil)))))))), hM, hF⟩
                · rw [if_neg (ne_true hc)] at hF
                  refine KC.exit ?_
                  refine KQ.then_x ?_
                  refine KQ.then_x ?_
                  refine KQ.blk_x ?_
                  refine KQ.blk_n ?_
                  refine KQ.then_n ?_
                  replace hM := hM.pick [0, 1, 2, 3] rfl (by decide)
                  refine KC.region ?_
                  refine RL.val (O.move rfl) rfl ?_
                  refine RL.val (O.add rfl rfl) rfl ?_
                  refine RL.val (O.assign rfl) rfl ?_
                  refine RL.nil ?_
                  refine KQ.then_k ?_
                  exact fun a ha => ⟨k176, Nat.lt_succ_self k176, (IntKind.i64.wrap (t173 + 1)), ha.less (less_cons rfl (less_cons rfl (less_cons rfl (less_cons rfl (less_cons rfl (less_cons rfl less_nil)))))), hM, hF⟩
        · rw [if_neg (ne_true hc)] at hF
          refine KC.exit ?_
          refine KQ.then_x ?_
          refine KQ.then_x ?_
          refine KQ.blk_x ?_
          refine KQ.then_n ?_
          replace hM := hM.pick [0, 1, 2] rfl (by decide)
          refine KC.cut (fun a w269 => ∃ (t268 : Bool), Kn 89 [(4, .bool t268)] a ∧ Mem w [] w269 [] ∧ F_law05_IpPuts_j3 t268 = some r) ?_ ?_
          · replace hM := hM.drewN 1
            refine KC.draw [] [] [1, 3, 8, 11, 18, 22, 27] [4, 5, 12, 13, 14, 15, 19, 20, 24, 25, 26, 28, 29] (.ofList [0, 2, 1, 3, 4, 5, 6, 7, 9, 10, 8, 11, 12, 13, 14, 15, 16, 17, 18, 19, 20, 21, 23, 22, 24, 25, 26, 27, 28, 29]) moP (by kernel_rfl) ?_
            refine RD.q rfl rfl rfl rfl (fun w' hf => O.loadN (cs := [.int .u8 h1.f_TOS, .int .u16 h1.f_Total, .int .u16 h1.f_ID, .bool h1.f_DF, .bool h1.f_MF, .int .u16 h1.f_Frag, .int .u8 h1.f_TTL, .int .u8 h1.f_Proto, .int .u8 (List.getD h1.f_Src 0 0), .int .u8 (List.getD h1.f_Src 1 0), .int .u8 (List.getD h1.f_Src 2 0), .int .u8 (List.getD h1.f_Src 3 0), .int .u8 (List.getD h1.f_Dst 0 0), .int .u8 (List.getD h1.f_Dst 1 0), .int .u8 (List.getD h1.f_Dst 2 0), .int .u8 (List.getD h1.f_Dst 3 0), .slice A2 (h1.f_Options).length c3]) ag39 rfl (Cs.addsN [] ((hM.bx (i := 0) rfl).fut hf) rfl)) ?_
            refine RD.q rfl rfl rfl rfl (fun w' hf => O.loadN (cs := [.int .u8 y23.f_TOS, .int .u16 y23.f_Total, .int .u16 y23.f_ID, .bool y23.f_DF, .bool y23.f_MF, .int .u16 y23.f_Frag, .int .u8 y23.f_TTL, .int .u8 y23.f_Proto, .string y23.f_Src, .string y23.f_Dst, .string y23.f_Options]) ag41 rfl (Cs.addsN [] ((hM.bx (i := 2) rfl).fut hf) rfl)) ?_
            refine obindE hF fun y240 hx241 hF => ?_
            refine RD.mcall rfl rfl trivial Try.func15 bd15 rfl rfl (c_ip_Right _ h1 _ _ (hM.inp hr4 Off.nil) _ hx241) fun v w242 hv => ?_
            obtain ⟨rfl, hN243⟩ := hv
            refine ⟨fun _ => hN243.fut, ?_⟩
            replace hM := hM.call0 hN243
            refine obindE hF fun y244 hx245 hF => ?_
            refine RD.mcall rfl rfl trivial Try.func16 bd16 rfl rfl (c_ref05_Right _ y23 _ hx245) fun v w246 hv => ?_
            obtain ⟨rfl, hN247⟩ := hv
            refine ⟨fun _ => hN247.fut, ?_⟩
            replace hM := hM.call0 hN247
            refine RD.p rfl rfl rfl rfl (fun w' => O.eqlb Try.underlying4 rfl rfl) ?_
            refine RD.p rfl rfl rfl rfl (fun w' => O.move rfl) ?_
            refine RD.bcase (t := 65) rfl (fun hc => ?_) (fun hc => ?_)
            · rw [if_pos hc] at hF
              refine RD.gq rfl rfl rfl rfl rfl rfl (fun w' hf => O.loadN (cs := [.int .u8 h1.f_TOS, .int .u16 h1.f_Total, .int .u16 h1.f_ID, .bool h1.f_DF, .bool h1.f_MF, .int .u16 h1.f_Frag, .int .u8 h1.f_TTL, .int .u8 h1.f_Proto, .int .u8 (List.getD h1.f_Src 0 0), .int .u8 (List.getD h1.f_Src 1 0), .int .u8 (List.getD h1.f_Src 2 0), .int .u8 (List.getD h1.f_Src 3 0), .int .u8 (List.getD h1.f_Dst 0 0), .int .u8 (List.getD h1.f_Dst 1 0), .int .u8 (List.getD h1.f_Dst 2 0), .int .u8 (List.getD h1.f_Dst 3 0), .slice A2 (h1.f_Options).length c3]) ag39 rfl (Cs.addsN [] ((hM.bx (i := 0) rfl).fut hf) rfl)) ?_
              refine RD.gq rfl rfl rfl rfl rfl rfl (fun w' hf => O.loadN (cs := [.int .u8 other5.f_TOS, .int .u16 other5.f_Total, .int .u16 other5.f_ID, .bool other5.f_DF, .bool other5.f_MF, .int .u16 other5.f_Frag, .int .u8 other5.f_TTL, .int .u8 other5.f_Proto, .int .u8 (List.getD other5.f_Src 0 0), .int .u8 (List.getD other5.f_Src 1 0), .int .u8 (List.getD other5.f_Src 2 0), .int .u8 (List.getD other5.f_Src 3 0), .int .u8 (List.getD other5.f_Dst 0 0), .int .u8 (List.getD other5.f_Dst 1 0), .int .u8 (List.getD other5.f_Dst 2 0), .int .u8 (List.getD other5.f_Dst 3 0), .slice A6 (other5.f_Options).length c7]) ag39 rfl (Cs.addsN [] ((hM.bx (i := 1) rfl).fut hf) rfl)) ?_
              refine RD.gq rfl rfl rfl rfl rfl rfl (fun w' hf => O.loadN (cs := [.int .u8 y23.f_TOS, .int .u16 y23.f_Total, .int .u16 y23.f_ID, .bool y23.f_DF, .bool y23.f_MF, .int .u16 y23.f_Frag, .int .u8 y23.f_TTL, .int .u8 y23.f_Proto, .string y23.f_Src, .string y23.f_Dst, .string y23.f_Options]) ag41 rfl (Cs.addsN [] ((hM.bx (i := 2) rfl).fut hf) rfl)) ?_
              refine RD.gq rfl rfl rfl rfl rfl rfl (fun w' hf => O.loadN (cs := [.int .u8 other5.f_TOS, .int .u16 other5.f_Total, .int .u16 other5.f_ID, .bool other5.f_DF, .bool other5.f_MF, .int .u16 other5.f_Frag, .int .u8 other5.f_TTL, .int .u8 other5.f_Proto, .int .u8 (List.getD other5.f_Src 0 0), .int .u8 (List.getD other5.f_Src 1 0), .int .u8 (List.getD other5.f_Src 2 0), .int .u8 (List.getD other5.f_Src 3 0), .int .u8 (List.getD other5.f_Dst 0 0), .int .u8 (List.getD other5.f_Dst 1 0), .int .u8 (List.getD other5.f_Dst 2 0), .int .u8 (List.getD other5.f_Dst 3 0), .slice A6 (other5.f_Options).length c7]) ag39 rfl (Cs.addsN [] ((hM.bx (i := 1) rfl).fut hf) rfl)) ?_
              refine obindE hF fun y248 hx249 hF => ?_
              refine RD.mcall rfl rfl ⟨rfl, rfl⟩ Try.func17 bd17 rfl rfl (c_ip_Same _ h1 _ _ (hM.inp hr4 Off.nil) other5 _ _ (hM.inp hr8 Off.nil) _ hx249) fun v w250 hv => ?_
              obtain ⟨rfl, hN251⟩ := hv
              refine ⟨fun _ => hN251.fut, ?_⟩
              replace hM := hM.call0 hN251
              refine obindE hF fun y252 hx253 hF => ?_
              refine RD.mcall rfl rfl ⟨rfl, rfl⟩ Try.func11 bd11 rfl rfl (c_docs_Ip _ other5 _ _ (hM.inp hr8 Off.nil) _ hx253) fun v w254 hv => ?_
              obtain ⟨rfl, hN255⟩ := hv
              refine ⟨fun _ => hN255.fut, ?_⟩
              replace hM := hM.call0 hN255
              refine RD.gp rfl rfl rfl rfl rfl rfl (fun w' => O.steq (cs := [.int .u8 y23.f_TOS, .int .u16 y23.f_Total, .int .u16 y23.f_ID, .bool y23.f_DF, .bool y23.f_MF, .int .u16 y23.f_Frag, .int .u8 y23.f_TTL, .int .u8 y23.f_Proto, .string y23.f_Src, .string y23.f_Dst, .string y23.f_Options]) (cs' := [.int .u8 y252.f_TOS, .int .u16 y252.f_Total, .int .u16 y252.f_ID, .bool y252.f_DF, .bool y252.f_MF, .int .u16 y252.f_Frag, .int .u8 y252.f_TTL, .int .u8 y252.f_Proto, .string y252.f_Src, .string y252.f_Dst, .string y252.f_Options]) (by kernel_rfl) rfl rfl (Q41t y23 y252 _ rfl rfl)) ?_
              refine RD.gp rfl rfl rfl rfl rfl rfl (fun w' => O.eqlb Try.underlying4 rfl rfl) ?_
              refine RD.p rfl rfl rfl rfl (fun w' => O.pickt rfl rfl) ?_
              refine RD.p rfl rfl rfl rfl (fun w' => O.move rfl) ?_
              refine RD.bcase (t := 75) rfl (fun hc => ?_) (fun hc => ?_)
              · rw [if_pos hc] at hF
                refine RD.gq rfl rfl rfl rfl rfl rfl (fun w' hf => O.loadN (cs := [.int .u8 h1.f_TOS, .int .u16 h1.f_Total, .int .u16 h1.f_ID, .bool h1.f_DF, .bool h1.f_MF, .int .u16 h1.f_Frag, .int .u8 h1.f_TTL, .int .u8 h1.f_Proto, .int .u8 (List.getD h1.f_Src 0 0), .int .u8 (List.getD h1.f_Src 1 0), .int .u8 (List.getD h1.f_Src 2 0), .int .u8 (List.getD h1.f_Src 3 0), .int .u8 (List.getD h1.f_Dst 0 0), .int .u8 (List.getD h1.f_Dst 1 0), .int .u8 (List.getD h1.f_Dst 2 0), .int .u8 (List.getD h1.f_Dst 3 0), .slice A2 (h1.f_Options).length c3]) ag39 rfl (Cs.addsN [] ((hM.bx (i := 0) rfl).fut hf) rfl)) ?_
                refine RD.gq rfl rfl rfl rfl rfl rfl (fun w' hf => O.loadN (cs := [.int .u8 h1.f_TOS, .int .u16 h1.f_Total, .int .u16 h1.f_ID, .bool h1.f_DF, .bool h1.f_MF, .int .u16 h1.f_Frag, .int .u8 h1.f_TTL, .int .u8 h1.f_Proto, .int .u8 (List.getD h1.f_Src 0 0), .int .u8 (List.getD h1.f_Src 1 0), .int .u8 (List.getD h1.f_Src 2 0), .int .u8 (List.getD h1.f_Src 3 0), .int .u8 (List.getD h1.f_Dst 0 0), .int .u8 (List.getD h1.f_Dst 1 0), .int .u8 (List.getD h1.f_Dst 2 0), .int .u8 (List.getD h1.f_Dst 3 0), .slice A2 (h1.f_Options).length c3]) ag39 rfl (Cs.addsN [] ((hM.bx (i := 0) rfl).fut hf) rfl)) ?_
                refine obindE hF fun y256 hx257 hF => ?_
                refine RD.mcall rfl rfl ⟨rfl, rfl⟩ Try.func17 bd17 rfl rfl (c_ip_Same _ h1 _ _ (hM.inp hr4 Off.nil) h1 _ _ (hM.inp hr4 Off.nil) _ hx257) fun v w258 hv => ?_
                obtain ⟨rfl, hN259⟩ := hv
                refine ⟨fun _ => hN259.fut, ?_⟩
                replace hM := hM.call0 hN259
                refine RD.p rfl rfl rfl rfl (fun w' => O.pickt rfl rfl) ?_
                refine RD.p rfl rfl rfl rfl (fun w' => O.move rfl) ?_
                refine RD.bcase (t := 80) rfl (fun hc => ?_) (fun hc => ?_)
                · rw [if_pos hc] at hF
                  refine RD.gq rfl rfl rfl rfl rfl rfl (fun w' hf => O.loadN (cs := [.int .u8 h1.f_TOS, .int .u16 h1.f_Total, .int .u16 h1.f_ID, .bool h1.f_DF, .bool h1.f_MF, .int .u16 h1.f_Frag, .int .u8 h1.f_TTL, .int .u8 h1.f_Proto, .int .u8 (List.getD h1.f_Src 0 0), .int .u8 (List.getD h1.f_Src 1 0), .int .u8 (List.getD h1.f_Src 2 0), .int .u8 (List.getD h1.f_Src 3 0), .int .u8 (List.getD h1.f_Dst 0 0), .int .u8 (List.getD h1.f_Dst 1 0), .int .u8 (List.getD h1.f_Dst 2 0), .int .u8 (List.getD h1.f_Dst 3 0), .slice A2 (h1.f_Options).length c3]) ag39 rfl (Cs.addsN [] ((hM.bx (i := 0) rfl).fut hf) rfl)) ?_
                  refine RD.gq rfl rfl rfl rfl rfl rfl (fun w' hf => O.loadN (cs := [.int .u8 y23.f_TOS, .int .u16 y23.f_Total, .int .u16 y23.f_ID, .bool y23.f_DF, .bool y23.f_MF, .int .u16 y23.f_Frag, .int .u8 y23.f_TTL, .int .u8 y23.f_Proto, .string y23.f_Src, .string y23.f_Dst, .string y23.f_Options]) ag41 rfl (Cs.addsN [] ((hM.bx (i := 2) rfl).fut hf) rfl)) ?_
                  refine obindE hF fun y260 hx261 hF => ?_
                  refine RD.mcall rfl rfl ⟨rfl, rfl⟩ Try.func11 bd11 rfl rfl (c_docs_Ip _ h1 _ _ (hM.inp hr4 Off.nil) _ hx261) fun v w262 hv => ?_
                  obtain ⟨rfl, hN263⟩ := hv
                  refine ⟨fun _ => hN263.fut, ?_⟩
                  replace hM := hM.call0 hN263
                  refine RD.gp rfl rfl rfl rfl rfl rfl (fun w' => O.steq (cs := [.int .u8 y260.f_TOS, .int .u16 y260.f_Total, .int .u16 y260.f_ID, .bool y260.f_DF, .bool y260.f_MF, .int .u16 y260.f_Frag, .int .u8 y260.f_TTL, .int .u8 y260.f_Proto, .string y260.f_Src, .string y260.f_Dst, .string y260.f_Options]) (cs' := [.int .u8 y23.f_TOS, .int .u16 y23.f_Total, .int .u16 y23.f_ID, .bool y23.f_DF, .bool y23.f_MF, .int .u16 y23.f_Frag, .int .u8 y23.f_TTL, .int .u8 y23.f_Proto, .string y23.f_Src, .string y23.f_Dst, .string y23.f_Options]) (by kernel_rfl) rfl rfl (Q41t y260 y23 _ rfl rfl)) ?_
                  refine RD.p rfl rfl rfl rfl (fun w' => O.pickt rfl rfl) ?_
                  refine RD.p rfl rfl rfl rfl (fun w' => O.move rfl) ?_
                  refine RD.bcase (t := 86) rfl (fun hc => ?_) (fun hc => ?_)
                  · rw [if_pos hc] at hF
                    refine obindE hF fun y264 hx265 hF => ?_
                    refine RD.mcall rfl rfl ⟨rfl, rfl⟩ Try.func8 bd8 rfl rfl (c_law05_works _ _ hx265) fun v w266 hv => ?_
                    obtain ⟨rfl, hN267⟩ := hv
                    refine ⟨fun _ => hN267.fut, ?_⟩
                    replace hM := hM.call0 hN267
                    refine RD.p rfl rfl rfl rfl (fun w' => O.pickt rfl rfl) ?_
                    refine RD.p rfl rfl rfl rfl (fun w' => O.assign rfl) ?_
                    refine RD.nil ?_
                    refine KQ.then_k ?_
                    replace hM := hM.pick [] rfl (by decide)
                    exact fun a ha => ⟨y264, ha.less (less_cons rfl less_nil), hM, hF⟩
                  · rw [if_neg (ne_true hc)] at hF
                    refine RD.gskip rfl rfl rfl rfl rfl ?_
                    refine RD.p rfl rfl rfl rfl (fun w' => O.pickf rfl rfl) ?_
                    refine RD.p rfl rfl rfl rfl (fun w' => O.assign rfl) ?_
                    refine RD.nil ?_
                    refine KQ.then_k ?_
                    replace hM := hM.pick [] rfl (by decide)
                    exact fun a ha => ⟨false, ha.less (less_cons rfl less_nil), hM, hF⟩
                · rw [if_neg (ne_true hc)] at hF
                  refine RD.brun1 [21, 23, 22, 24, 25, 26, 27, 28] 88 false (by kernel_rfl) ?_
                  refine RD.p rfl rfl rfl rfl (fun w' => O.assign rfl) ?_
                  refine RD.nil ?_
                  refine KQ.then_k ?_
                  replace hM := hM.pick [] rfl (by decide)
                  exact fun a ha => ⟨false, ha.less (less_cons rfl less_nil), hM, hF⟩
              · rw [if_neg (ne_true hc)] at hF
                refine RD.brun1 [16, 17, 18, 19, 20, 21, 23, 22, 24, 25, 26, 27, 28] 88 false (by kernel_rfl) ?_
                refine RD.p rfl rfl rfl rfl (fun w' => O.assign rfl) ?_
                refine RD.nil ?_
                refine KQ.then_k ?_
                replace hM := hM.pick [] rfl (by decide)
                exact fun a ha => ⟨false, ha.less (less_cons rfl less_nil), hM, hF⟩
            · rw [if_neg (ne_true hc)] at hF
              refine RD.brun1 [6, 7, 9, 10, 8, 11, 12, 13, 14, 15, 16, 17, 18, 19, 20, 21, 23, 22, 24, 25, 26, 27, 28] 88 false (by kernel_rfl) ?_
              refine RD.p rfl rfl rfl rfl (fun w' => O.assign rfl) ?_
              refine RD.nil ?_
              refine KQ.then_k ?_
              replace hM := hM.pick [] rfl (by decide)
              exact fun a ha => ⟨false, ha.less (less_cons rfl less_nil), hM, hF⟩
          · rintro a w269 ⟨t268, ha, hM, hF⟩
            refine KC.app ha ?_
            clear ha
            unfold F_law05_IpPuts_j3 at hF
            refine KC.ret ?_
            have hE := Option.some.inj hF
            clear hF
            subst hE
            refine KQ.rets Try.results4 (RVs.cons (RV.tm rfl) RVs.nil) ?_
            exact ⟨_, rfl, rfl, hM⟩
set_option maxRecDepth 100000 in
set_option maxHeartbeats 40000000 in
theorem c_kit_Pick (w : World) (i1 : Int) (nv2 : Int) (r : Int) (hF : F_kit_Pick i1 nv2 = some r) :
    CallsR Try.prog 20 [.int .i64 i1, .int .i64 nv2] w (fun v w' => v = .int .i64 r ∧ Mem w [] w' []) := by
  refine calls_KC Try.func20 rfl Try.ntmps20 rfl ?_
  have hM := Mem.init w
  unfold F_kit_Pick at hF
  refine KC.seq ?_
  refine KC.region ?_
  refine RL.val (O.assign rfl) rfl ?_
  refine RL.nil ?_
  refine KQ.then_n ?_
  refine KC.seq ?_
  refine KC.seq ?_
  refine KC.region ?_
  refine RL.val (O.move rfl) rfl ?_
  refine RL.val (O.leq rfl rfl) rfl ?_
  refine RL.nil ?_
  refine KQ.then_n ?_
  refine KC.cond rfl (fun hc => ?_) (fun hc => ?_)
  · rw [if_pos hc] at hF
    refine KC.seq ?_
    refine KC.region ?_
    refine RL.val (O.assign rfl) rfl ?_
    refine RL.nil ?_
    refine KQ.then_n ?_
    refine KC.ret ?_
    refine KQ.then_r ?_
    have hE := Option.some.inj hF
    clear hF
    subst hE
    refine KQ.rets Try.results20 (RVs.cons (RV.tm rfl) RVs.nil) ?_
    exact ⟨_, rfl, rfl, hM⟩
  · rw [if_neg (ne_true hc)] at hF
    refine KC.skip ?_
    refine KQ.then_n ?_
    refine KC.seq ?_
    refine KC.region ?_
    refine RL.val (O.move rfl) rfl ?_
    refine RL.val (O.move rfl) rfl ?_
    refine cut_someE hF fun hq3 hF => ?_
    refine RL.val (O.rem rfl rfl (of_decide_eq_true hq3)) rfl ?_
    refine RL.val (O.move rfl) rfl ?_
    refine RL.val (O.add rfl rfl) rfl ?_
    refine RL.val (O.move rfl) rfl ?_
    refine cut_someE hF fun hq4 hF => ?_
    refine RL.val (O.rem rfl rfl (of_decide_eq_true hq4)) rfl ?_
    refine RL.val (O.assign rfl) rfl ?_
    refine RL.nil ?_
    refine KQ.then_n ?_
    refine KC.ret ?_
    have hE := Option.some.inj hF
    clear hF
    subst hE
    refine KQ.rets Try.results20 (RVs.cons (RV.tm rfl) RVs.nil) ?_
    exact ⟨_, rfl, rfl, hM⟩
end Go.Proofs.Ytjfdfjmnajjjaaa
