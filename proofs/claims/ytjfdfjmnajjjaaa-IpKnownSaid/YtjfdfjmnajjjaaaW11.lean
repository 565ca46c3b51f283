/- Printed by a program of this claim: each call returns what the plain function of its name gives. -/
import Derived.Test.YtjfdfjmnajjjaaaW1
import Derived.Test.YtjfdfjmnajjjaaaW4
import Derived.Test.YtjfdfjmnajjjaaaW6
import Derived.Test.YtjfdfjmnajjjaaaW7
import Derived.Test.YtjfdfjmnajjjaaaW8
import Derived.Test.YtjfdfjmnajjjaaaW9
import Derived.Test.YtjfdfjmnajjjaaaW10
set_option linter.unusedVariables false
namespace Go.Proofs.Ytjfdfjmnajjjaaa
open Go Go.Ox Go.RowKit
set_option maxRecDepth 100000 in
set_option maxHeartbeats 40000000 in
theorem c_law05_IpPuts (w : World) (h1 : T_ip_Header) (A2 : Option Addr) (c3 : Nat) (hr4 : Rd w A2 c3 1 h1.f_Options.length (h1.f_Options.flatMap (eI .u8))) (other5 : T_ip_Header) (A6 : Option Addr) (c7 : Nat) (hr8 : Rd w A6 c7 1 other5.f_Options.length (other5.f_Options.flatMap (eI .u8))) (r : Bool) (hF : F_law05_IpPuts h1 other5 = some r) :
    CallsR Try.prog 4 [.agg #[.int .u8 h1.f_TOS, .int .u16 h1.f_Total, .int .u16 h1.f_ID, .bool h1.f_DF, .bool h1.f_MF, .int .u16 h1.f_Frag, .int .u8 h1.f_TTL, .int .u8 h1.f_Proto, .int .u8 (List.getD h1.f_Src 0 0), .int .u8 (List.getD h1.f_Src 1 0), .int .u8 (List.getD h1.f_Src 2 0), .int .u8 (List.getD h1.f_Src 3 0), .int .u8 (List.getD h1.f_Dst 0 0), .int .u8 (List.getD h1.f_Dst 1 0), .int .u8 (List.getD h1.f_Dst 2 0), .int .u8 (List.getD h1.f_Dst 3 0), .slice A2 (h1.f_Options).length c3], .agg #[.int .u8 other5.f_TOS, .int .u16 other5.f_Total, .int .u16 other5.f_ID, .bool other5.f_DF, .bool other5.f_MF, .int .u16 other5.f_Frag, .int .u8 other5.f_TTL, .int .u8 other5.f_Proto, .int .u8 (List.getD other5.f_Src 0 0), .int .u8 (List.getD other5.f_Src 1 0), .int .u8 (List.getD other5.f_Src 2 0), .int .u8 (List.getD other5.f_Src 3 0), .int .u8 (List.getD other5.f_Dst 0 0), .int .u8 (List.getD other5.f_Dst 1 0), .int .u8 (List.getD other5.f_Dst 2 0), .int .u8 (List.getD other5.f_Dst 3 0), .slice A6 (other5.f_Options).length c7]] w (fun v w' => v = .bool r ∧ Mem w [] w' []) := by
  refine calls_KC Try.func4 rfl Try.ntmps4 rfl ?_
  have hM := Mem.init w
  unfold F_law05_IpPuts at hF
  refine KC.seqH fun Q9 hQ9 => ?_
  refine KC.region ?_
  refine RL.eff (E.box (vs := [.int .u8 h1.f_TOS, .int .u16 h1.f_Total, .int .u16 h1.f_ID, .bool h1.f_DF, .bool h1.f_MF, .int .u16 h1.f_Frag, .int .u8 h1.f_TTL, .int .u8 h1.f_Proto, .int .u8 (List.getD h1.f_Src 0 0), .int .u8 (List.getD h1.f_Src 1 0), .int .u8 (List.getD h1.f_Src 2 0), .int .u8 (List.getD h1.f_Src 3 0), .int .u8 (List.getD h1.f_Dst 0 0), .int .u8 (List.getD h1.f_Dst 1 0), .int .u8 (List.getD h1.f_Dst 2 0), .int .u8 (List.getD h1.f_Dst 3 0), .slice A2 (h1.f_Options).length c3]) hM rfl rfl) rfl fun v w11 hv => ?_
  clear hM
  obtain ⟨g10, rfl, hM, hf⟩ := hv
  refine RL.eff (E.box (vs := [.int .u8 other5.f_TOS, .int .u16 other5.f_Total, .int .u16 other5.f_ID, .bool other5.f_DF, .bool other5.f_MF, .int .u16 other5.f_Frag, .int .u8 other5.f_TTL, .int .u8 other5.f_Proto, .int .u8 (List.getD other5.f_Src 0 0), .int .u8 (List.getD other5.f_Src 1 0), .int .u8 (List.getD other5.f_Src 2 0), .int .u8 (List.getD other5.f_Src 3 0), .int .u8 (List.getD other5.f_Dst 0 0), .int .u8 (List.getD other5.f_Dst 1 0), .int .u8 (List.getD other5.f_Dst 2 0), .int .u8 (List.getD other5.f_Dst 3 0), .slice A6 (other5.f_Options).length c7]) hM rfl rfl) rfl fun v w14 hv => ?_
  clear hM
  obtain ⟨g13, rfl, hM, hf⟩ := hv
  refine RL.val (O.assign rfl) rfl ?_
  refine RL.nil ?_
  refine KQ.thn hQ9 ?_
  clear hQ9 Q9
  refine KC.seqH fun Q16 hQ16 => ?_
  refine KC.cut (fun a w20 => ∃ (t19 : Bool), Kn 89 [(2, .pointer (some ⟨g10, 0, none⟩)), (3, .pointer (some ⟨g13, 0, none⟩)), (21, .bool t19)] a ∧ Mem w [] w20 [.box g10 39 [.int .u8 h1.f_TOS, .int .u16 h1.f_Total, .int .u16 h1.f_ID, .bool h1.f_DF, .bool h1.f_MF, .int .u16 h1.f_Frag, .int .u8 h1.f_TTL, .int .u8 h1.f_Proto, .int .u8 (List.getD h1.f_Src 0 0), .int .u8 (List.getD h1.f_Src 1 0), .int .u8 (List.getD h1.f_Src 2 0), .int .u8 (List.getD h1.f_Src 3 0), .int .u8 (List.getD h1.f_Dst 0 0), .int .u8 (List.getD h1.f_Dst 1 0), .int .u8 (List.getD h1.f_Dst 2 0), .int .u8 (List.getD h1.f_Dst 3 0), .slice A2 (h1.f_Options).length c3], .box g13 39 [.int .u8 other5.f_TOS, .int .u16 other5.f_Total, .int .u16 other5.f_ID, .bool other5.f_DF, .bool other5.f_MF, .int .u16 other5.f_Frag, .int .u8 other5.f_TTL, .int .u8 other5.f_Proto, .int .u8 (List.getD other5.f_Src 0 0), .int .u8 (List.getD other5.f_Src 1 0), .int .u8 (List.getD other5.f_Src 2 0), .int .u8 (List.getD other5.f_Src 3 0), .int .u8 (List.getD other5.f_Dst 0 0), .int .u8 (List.getD other5.f_Dst 1 0), .int .u8 (List.getD other5.f_Dst 2 0), .int .u8 (List.getD other5.f_Dst 3 0), .slice A6 (other5.f_Options).length c7]] ∧ F_law05_IpPuts_j1 h1 other5 t19 = some r) ?_ ?_
  · refine KC.region ?_
    refine RL.val (O.fldA fl39_10 (by decide) rfl) rfl ?_
    refine RL.val (O.load sc22 rfl (Cs.adds [16] ((hM.bx (i := 0) rfl)) rfl)) rfl ?_
    refine RL.val (O.len sl22 rfl) rfl ?_
    refine RL.val (O.gtr rfl rfl) rfl ?_
    refine RL.val (O.move rfl) rfl ?_
    refine RL.bcase (t := 16) rfl (fun hc => ?_) (fun hc => ?_)
    · rw [if_pos hc] at hF
      refine RL.brun1 5 21 true (by kernel_rfl) ?_
      refine RL.nil ?_
      refine KQ.then_k ?_
      exact fun a ha => ⟨true, ha.less (less_cons rfl (less_cons rfl (less_cons rfl less_nil))), hM, hF⟩
    · rw [if_neg (ne_true hc)] at hF
      refine RL.gval rfl rfl (O.fldA fl39_10 (by decide) rfl) rfl ?_
      refine RL.gval rfl rfl (O.load sc22 rfl (Cs.adds [16] ((hM.bx (i := 1) rfl)) rfl)) rfl ?_
      refine RL.gval rfl rfl (O.len sl22 rfl) rfl ?_
      refine RL.gval rfl rfl (O.gtr rfl rfl) rfl ?_
      refine RL.val (O.pickf rfl rfl) rfl ?_
      refine RL.nil ?_
      refine KQ.then_k ?_
      exact fun a ha => ⟨(decide (100 < (other5.f_Options.length : Int))), ha.less (less_cons rfl (less_cons rfl (less_cons rfl less_nil))), hM, hF⟩
  · rintro a w20 ⟨t19, ha, hM, hF⟩
    refine KC.app ha ?_
    clear ha
    unfold F_law05_IpPuts_j1 at hF
    refine KC.cond rfl (fun hc => ?_) (fun hc => ?_)
    · rw [if_pos hc] at hF
      refine KC.seqH fun Q21 hQ21 => ?_
      refine KC.region ?_
      refine obindE hF fun y22 hx23 hF => ?_
      refine RL.call Try.func8 bd8 rfl rfl (c_law05_works _ _ hx23) fun v w24 hv => ?_
      obtain ⟨rfl, hN25⟩ := hv
      replace hM := hM.call0 hN25
      refine RL.val (O.assign rfl) rfl ?_
      refine RL.nil ?_
      refine KQ.thn hQ21 ?_
      clear hQ21 Q21
      refine KC.ret ?_
      refine KQ.thr hQ16 ?_
      clear hQ16 Q16
      have hE := Option.some.inj hF
      clear hF
      subst hE
      replace hM := hM.pick [] rfl (by decide)
      refine KQ.rets Try.results4 (RVs.cons (RV.tm rfl) RVs.nil) ?_
      exact ⟨_, rfl, rfl, hM⟩
    · rw [if_neg (ne_true hc)] at hF
      refine KC.skip ?_
      refine KQ.thn hQ16 ?_
      clear hQ16 Q16
      refine KC.seqH fun Q26 hQ26 => ?_
      refine KC.region ?_
      refine RL.val (O.loadN (cs := [.int .u8 h1.f_TOS, .int .u16 h1.f_Total, .int .u16 h1.f_ID, .bool h1.f_DF, .bool h1.f_MF, .int .u16 h1.f_Frag, .int .u8 h1.f_TTL, .int .u8 h1.f_Proto, .int .u8 (List.getD h1.f_Src 0 0), .int .u8 (List.getD h1.f_Src 1 0), .int .u8 (List.getD h1.f_Src 2 0), .int .u8 (List.getD h1.f_Src 3 0), .int .u8 (List.getD h1.f_Dst 0 0), .int .u8 (List.getD h1.f_Dst 1 0), .int .u8 (List.getD h1.f_Dst 2 0), .int .u8 (List.getD h1.f_Dst 3 0), .slice A2 (h1.f_Options).length c3]) ag39 rfl (Cs.addsN [] ((hM.bx (i := 0) rfl)) rfl)) rfl ?_
      refine obindE hF fun y27 hx28 hF => ?_
      refine RL.call Try.func11 bd11 rfl rfl (c_docs_Ip _ h1 _ _ (hM.inp hr4 Off.nil) _ hx28) fun v w29 hv => ?_
      obtain ⟨rfl, hN30⟩ := hv
      replace hM := hM.call0 hN30
      refine RL.eff (E.alloc hM ze41) rfl fun v w32 hv => ?_
      clear hM
      obtain ⟨g31, rfl, hM, hf⟩ := hv
      refine RL.effs (E.stB (j := 2) (off := 0) (vs := [.int .u8 y27.f_TOS, .int .u16 y27.f_Total, .int .u16 y27.f_ID, .bool y27.f_DF, .bool y27.f_MF, .int .u16 y27.f_Frag, .int .u8 y27.f_TTL, .int .u8 y27.f_Proto, .string y27.f_Src, .string y27.f_Dst, .string y27.f_Options]) (cs' := [.int .u8 y27.f_TOS, .int .u16 y27.f_Total, .int .u16 y27.f_ID, .bool y27.f_DF, .bool y27.f_MF, .int .u16 y27.f_Frag, .int .u8 y27.f_TTL, .int .u8 y27.f_Proto, .string y27.f_Src, .string y27.f_Dst, .string y27.f_Options]) hM rfl sz41 rfl (adds_eq [] rfl) rfl rfl (One.all rfl) rfl rfl) fun w34 hM1 => ?_
      clear hM
      have hM := hM1
      clear hM1
      refine RL.nil ?_
      refine KQ.thn hQ26 ?_
      clear hQ26 Q26
      refine KC.seqH fun Q35 hQ35 => ?_
      refine KC.region ?_
      refine RL.val (O.loadN (cs := [.int .u8 y27.f_TOS, .int .u16 y27.f_Total, .int .u16 y27.f_ID, .bool y27.f_DF, .bool y27.f_MF, .int .u16 y27.f_Frag, .int .u8 y27.f_TTL, .int .u8 y27.f_Proto, .string y27.f_Src, .string y27.f_Dst, .string y27.f_Options]) ag41 rfl (Cs.addsN [] ((hM.bx (i := 2) rfl)) rfl)) rfl ?_
      refine obindE hF fun y36 hx37 hF => ?_
      refine RL.call Try.func12 bd12 rfl rfl (c_ref05_Put _ y27 _ hx37) fun v w38 hv => ?_
      obtain ⟨A40, c41, rfl, hN39⟩ := hv
      replace hM := hM.call hN39
      refine RL.val (O.move rfl) rfl ?_
      refine RL.val (O.ext rfl rfl) rfl ?_
      refine RL.val (O.ext rfl rfl) rfl ?_
      refine RL.val (O.assign rfl) rfl ?_
      refine RL.val (O.assign rfl) rfl ?_
      refine RL.nil ?_
      refine KQ.thn hQ35 ?_
      clear hQ35 Q35
      refine KC.seqH fun Q43 hQ43 => ?_
      refine KC.seqH fun Q44 hQ44 => ?_
      refine KC.region ?_
      refine RL.val (O.assign rfl) rfl ?_
      refine RL.nil ?_
      refine KQ.thn hQ44 ?_
      clear hQ44 Q44
      refine KC.block ?_
      refine KC.loop (fun k215 a w213 => ∃ (t212 : Int), Kn 89 [(2, .pointer (some ⟨g10, 0, none⟩)), (3, .pointer (some ⟨g13, 0, none⟩)), (5, .pointer (some ⟨g31, 0, none⟩)), (6, .slice A40 (y36.1).length c41), (7, .int .i64 y36.2), (8, .int .i64 t212)] a ∧ Mem w [] w213 [.box g10 39 [.int .u8 h1.f_TOS, .int .u16 h1.f_Total, .int .u16 h1.f_ID, .bool h1.f_DF, .bool h1.f_MF, .int .u16 h1.f_Frag, .int .u8 h1.f_TTL, .int .u8 h1.f_Proto, .int .u8 (List.getD h1.f_Src 0 0), .int .u8 (List.getD h1.f_Src 1 0), .int .u8 (List.getD h1.f_Src 2 0), .int .u8 (List.getD h1.f_Src 3 0), .int .u8 (List.getD h1.f_Dst 0 0), .int .u8 (List.getD h1.f_Dst 1 0), .int .u8 (List.getD h1.f_Dst 2 0), .int .u8 (List.getD h1.f_Dst 3 0), .slice A2 (h1.f_Options).length c3], .box g13 39 [.int .u8 other5.f_TOS, .int .u16 other5.f_Total, .int .u16 other5.f_ID, .bool other5.f_DF, .bool other5.f_MF, .int .u16 other5.f_Frag, .int .u8 other5.f_TTL, .int .u8 other5.f_Proto, .int .u8 (List.getD other5.f_Src 0 0), .int .u8 (List.getD other5.f_Src 1 0), .int .u8 (List.getD other5.f_Src 2 0), .int .u8 (List.getD other5.f_Src 3 0), .int .u8 (List.getD other5.f_Dst 0 0), .int .u8 (List.getD other5.f_Dst 1 0), .int .u8 (List.getD other5.f_Dst 2 0), .int .u8 (List.getD other5.f_Dst 3 0), .slice A6 (other5.f_Options).length c7], .box g31 41 [.int .u8 y27.f_TOS, .int .u16 y27.f_Total, .int .u16 y27.f_ID, .bool y27.f_DF, .bool y27.f_MF, .int .u16 y27.f_Frag, .int .u8 y27.f_TTL, .int .u8 y27.f_Proto, .string y27.f_Src, .string y27.f_Dst, .string y27.f_Options], .row A40 c41 5 1 (y36.1).length ((y36.1).flatMap (eI .u8))] ∧ F_law05_IpPuts_L1 h1 other5 y27 y36 k215 t212 = some r) ?_ ?_
      · exact fun a ha => ⟨fuel0, 0, ha.less (less_cons rfl (less_cons rfl (less_cons rfl (less_cons rfl (less_cons rfl (less_cons rfl less_nil)))))), hM, hF⟩
      · rintro k215 a w213 ⟨t212, ha, hM, hF⟩
        refine KC.app ha ?_
        clear ha
        cases k215 with
        | zero => exact (none_some hF).elim
        | succ k215 =>
        have hF : F_law05_IpPuts_l1 (F_law05_IpPuts_L1 h1 other5 y27 y36 k215) h1 other5 y27 y36 t212 = some r := hF
        unfold F_law05_IpPuts_l1 at hF
        refine KC.seqH fun Q216 hQ216 => ?_
        refine KC.seqH fun Q217 hQ217 => ?_
        refine KC.region ?_
        refine RL.val (O.move rfl) rfl ?_
        refine RL.val (O.lss rfl rfl) rfl ?_
        refine RL.nil ?_
        refine KQ.thn hQ217 ?_
        clear hQ217 Q217
        refine KC.cond rfl (fun hc => ?_) (fun hc => ?_)
        · rw [if_pos hc] at hF
          refine KC.skip ?_
          refine KQ.thn hQ216 ?_
          clear hQ216 Q216
          refine KC.seqH fun Q218 hQ218 => ?_
          refine KC.block ?_
          refine KC.seqH fun Q219 hQ219 => ?_
          refine KC.region ?_
          refine RL.val (O.loadN (cs := [.int .u8 h1.f_TOS, .int .u16 h1.f_Total, .int .u16 h1.f_ID, .bool h1.f_DF, .bool h1.f_MF, .int .u16 h1.f_Frag, .int .u8 h1.f_TTL, .int .u8 h1.f_Proto, .int .u8 (List.getD h1.f_Src 0 0), .int .u8 (List.getD h1.f_Src 1 0), .int .u8 (List.getD h1.f_Src 2 0), .int .u8 (List.getD h1.f_Src 3 0), .int .u8 (List.getD h1.f_Dst 0 0), .int .u8 (List.getD h1.f_Dst 1 0), .int .u8 (List.getD h1.f_Dst 2 0), .int .u8 (List.getD h1.f_Dst 3 0), .slice A2 (h1.f_Options).length c3]) ag39 rfl (Cs.addsN [] ((hM.bx (i := 0) rfl)) rfl)) rfl ?_
          refine obindE hF fun y220 hx221 hF => ?_
          refine RL.call Try.func13 bd13 rfl rfl (c_ip_Put _ h1 _ _ (hM.inp hr4 Off.nil) _ hx221) fun v w222 hv => ?_
          obtain ⟨A224, c225, rfl, hN223⟩ := hv
          replace hM := hM.call hN223
          refine RL.val (O.move rfl) rfl ?_
          refine RL.val (O.ext rfl rfl) rfl ?_
          refine RL.val (O.ext rfl rfl) rfl ?_
          refine RL.val (O.assign rfl) rfl ?_
          refine RL.val (O.assign rfl) rfl ?_
          refine RL.nil ?_
          refine KQ.thn hQ219 ?_
          clear hQ219 Q219
          refine KC.seqH fun Q227 hQ227 => ?_
          refine KC.cut (fun a w238 => ∃ (t237 : Bool), Kn 89 [(2, .pointer (some ⟨g10, 0, none⟩)), (3, .pointer (some ⟨g13, 0, none⟩)), (5, .pointer (some ⟨g31, 0, none⟩)), (6, .slice A40 (y36.1).length c41), (7, .int .i64 y36.2), (8, .int .i64 t212), (9, .slice A224 (y220.1).length c225), (47, .bool t237)] a ∧ Mem w [] w238 [.box g10 39 [.int .u8 h1.f_TOS, .int .u16 h1.f_Total, .int .u16 h1.f_ID, .bool h1.f_DF, .bool h1.f_MF, .int .u16 h1.f_Frag, .int .u8 h1.f_TTL, .int .u8 h1.f_Proto, .int .u8 (List.getD h1.f_Src 0 0), .int .u8 (List.getD h1.f_Src 1 0), .int .u8 (List.getD h1.f_Src 2 0), .int .u8 (List.getD h1.f_Src 3 0), .int .u8 (List.getD h1.f_Dst 0 0), .int .u8 (List.getD h1.f_Dst 1 0), .int .u8 (List.getD h1.f_Dst 2 0), .int .u8 (List.getD h1.f_Dst 3 0), .slice A2 (h1.f_Options).length c3], .box g13 39 [.int .u8 other5.f_TOS, .int .u16 other5.f_Total, .int .u16 other5.f_ID, .bool other5.f_DF, .bool other5.f_MF, .int .u16 other5.f_Frag, .int .u8 other5.f_TTL, .int .u8 other5.f_Proto, .int .u8 (List.getD other5.f_Src 0 0), .int .u8 (List.getD other5.f_Src 1 0), .int .u8 (List.getD other5.f_Src 2 0), .int .u8 (List.getD other5.f_Src 3 0), .int .u8 (List.getD other5.f_Dst 0 0), .int .u8 (List.getD other5.f_Dst 1 0), .int .u8 (List.getD other5.f_Dst 2 0), .int .u8 (List.getD other5.f_Dst 3 0), .slice A6 (other5.f_Options).length c7], .box g31 41 [.int .u8 y27.f_TOS, .int .u16 y27.f_Total, .int .u16 y27.f_ID, .bool y27.f_DF, .bool y27.f_MF, .int .u16 y27.f_Frag, .int .u8 y27.f_TTL, .int .u8 y27.f_Proto, .string y27.f_Src, .string y27.f_Dst, .string y27.f_Options], .row A40 c41 5 1 (y36.1).length ((y36.1).flatMap (eI .u8)), .row A224 c225 5 1 (y220.1).length ((y220.1).flatMap (eI .u8))] ∧ F_law05_IpPuts_j2 t212 (F_law05_IpPuts_L1 h1 other5 y27 y36 k215) y220 t237 = some r) ?_ ?_
          · refine KC.region ?_
            refine RL.val (O.move rfl) rfl ?_
            refine RL.val (O.move rfl) rfl ?_
            refine RL.val (O.neq rfl rfl) rfl ?_
            refine RL.val (O.move rfl) rfl ?_
            refine RL.bcase (t := 42) rfl (fun hc => ?_) (fun hc => ?_)
            · rw [if_pos hc] at hF
              refine RL.gskip rfl rfl rfl rfl ?_
              refine RL.gskip rfl rfl rfl rfl ?_
              refine RL.gskip rfl rfl rfl rfl ?_
              refine RL.gskip rfl rfl rfl rfl ?_
              refine RL.val (O.pickt rfl rfl) rfl ?_
              refine RL.nil ?_
              refine KQ.then_k ?_
              exact fun a ha => ⟨true, ha.less (less_cons rfl (less_cons rfl (less_cons rfl (less_cons rfl (less_cons rfl (less_cons rfl (less_cons rfl (less_cons rfl less_nil)))))))), hM, hF⟩
            · rw [if_neg (ne_true hc)] at hF
              refine RL.gval rfl rfl (O.move rfl) rfl ?_
              refine RL.gval rfl rfl (O.move rfl) rfl ?_
              refine obindE hF fun y228 hx229 hF => ?_
              refine RL.gcall rfl rfl Try.func14 bd14 rfl rfl (c_ref01_Same _ _ _ y220.1 (hM.rd (i := 4) rfl) _ _ y36.1 (hM.rd (i := 3) rfl) _ hx229) fun v w230 hv => ?_
              obtain ⟨rfl, hN231⟩ := hv
              replace hM := hM.call0 hN231
              refine RL.gval rfl rfl (O.not rfl) rfl ?_
              refine RL.val (O.pickf rfl rfl) rfl ?_
              refine RL.nil ?_
              refine KQ.then_k ?_
              exact fun a ha => ⟨(!y228), ha.less (less_cons rfl (less_cons rfl (less_cons rfl (less_cons rfl (less_cons rfl (less_cons rfl (less_cons rfl (less_cons rfl less_nil)))))))), hM, hF⟩
          · rintro a w238 ⟨t237, ha, hM, hF⟩
            refine KC.app ha ?_
            clear ha
            unfold F_law05_IpPuts_j2 at hF
            refine KC.cond rfl (fun hc => ?_) (fun hc => ?_)
            · rw [if_pos hc] at hF
              refine KC.seqH fun Q239 hQ239 => ?_
              refine KC.region ?_
              refine RL.val (O.assign rfl) rfl ?_
              refine RL.nil ?_
              refine KQ.thn hQ239 ?_
              clear hQ239 Q239
              refine KC.ret ?_
              refine KQ.thr hQ227 ?_
              clear hQ227 Q227
              refine KQ.blk_r ?_
              refine KQ.thr hQ218 ?_
              clear hQ218 Q218
              refine KQ.then_r ?_
              refine KQ.blk_r ?_
              refine KQ.thr hQ43 ?_
              clear hQ43 Q43
              have hE := Option.some.inj hF
              clear hF
              subst hE
              replace hM := hM.pick [] rfl (by decide)
              refine KQ.rets Try.results4 (RVs.cons (RV.tm rfl) RVs.nil) ?_
              exact ⟨_, rfl, rfl, hM⟩
            · rw [if_neg (ne_true hc)] at hF
              refine KC.skip ?_
              refine KQ.thn hQ227 ?_
              clear hQ227 Q227
              refine KC.seqH fun Q240 hQ240 => ?_
              refine KC.region ?_
              refine RL.val (O.assign rfl) rfl ?_
              refine RL.nil ?_
              refine KQ.thn hQ240 ?_
              clear hQ240 Q240
              refine KC.block ?_
              refine KC.loop (fun k283 a w281 => ∃ (A277 : Option Addr) (c278 : Nat) (b279 : List Int) (i280 : Int), Kn 89 [(2, .pointer (some ⟨g10, 0, none⟩)), (3, .pointer (some ⟨g13, 0, none⟩)), (5, .pointer (some ⟨g31, 0, none⟩)), (6, .slice A40 (y36.1).length c41), (7, .int .i64 y36.2), (8, .int .i64 t212), (9, .slice A277 (b279).length c278), (11, .int .i64 i280)] a ∧ Mem w [] w281 [.box g10 39 [.int .u8 h1.f_TOS, .int .u16 h1.f_Total, .int .u16 h1.f_ID, .bool h1.f_DF, .bool h1.f_MF, .int .u16 h1.f_Frag, .int .u8 h1.f_TTL, .int .u8 h1.f_Proto, .int .u8 (List.getD h1.f_Src 0 0), .int .u8 (List.getD h1.f_Src 1 0), .int .u8 (List.getD h1.f_Src 2 0), .int .u8 (List.getD h1.f_Src 3 0), .int .u8 (List.getD h1.f_Dst 0 0), .int .u8 (List.getD h1.f_Dst 1 0), .int .u8 (List.getD h1.f_Dst 2 0), .int .u8 (List.getD h1.f_Dst 3 0), .slice A2 (h1.f_Options).length c3], .box g13 39 [.int .u8 other5.f_TOS, .int .u16 other5.f_Total, .int .u16 other5.f_ID, .bool other5.f_DF, .bool other5.f_MF, .int .u16 other5.f_Frag, .int .u8 other5.f_TTL, .int .u8 other5.f_Proto, .int .u8 (List.getD other5.f_Src 0 0), .int .u8 (List.getD other5.f_Src 1 0), .int .u8 (List.getD other5.f_Src 2 0), .int .u8 (List.getD other5.f_Src 3 0), .int .u8 (List.getD other5.f_Dst 0 0), .int .u8 (List.getD other5.f_Dst 1 0), .int .u8 (List.getD other5.f_Dst 2 0), .int .u8 (List.getD other5.f_Dst 3 0), .slice A6 (other5.f_Options).length c7], .box g31 41 [.int .u8 y27.f_TOS, .int .u16 y27.f_Total, .int .u16 y27.f_ID, .bool y27.f_DF, .bool y27.f_MF, .int .u16 y27.f_Frag, .int .u8 y27.f_TTL, .int .u8 y27.f_Proto, .string y27.f_Src, .string y27.f_Dst, .string y27.f_Options], .row A40 c41 5 1 (y36.1).length ((y36.1).flatMap (eI .u8)), .row A277 c278 5 1 (b279).length ((b279).flatMap (eI .u8))] ∧ F_law05_IpPuts_L2 t212 (F_law05_IpPuts_L1 h1 other5 y27 y36 k215) k283 b279 i280 = some r) ?_ ?_
              · exact fun a ha => ⟨fuel0, A224, c225, y220.1, 0, ha.less (less_cons rfl (less_cons rfl (less_cons rfl (less_cons rfl (less_cons rfl (less_cons rfl (less_cons rfl (less_cons rfl less_nil)))))))), hM, hF⟩
              · rintro k283 a w281 ⟨A277, c278, b279, i280, ha, hM, hF⟩
                refine KC.app ha ?_
                clear ha
                cases k283 with
                | zero => exact (none_some hF).elim
                | succ k283 =>
                have hF : F_law05_IpPuts_l2 (F_law05_IpPuts_L2 t212 (F_law05_IpPuts_L1 h1 other5 y27 y36 k215) k283) t212 (F_law05_IpPuts_L1 h1 other5 y27 y36 k215) b279 i280 = some r := hF
                unfold F_law05_IpPuts_l2 at hF
                refine KC.seqH fun Q284 hQ284 => ?_
                refine KC.seqH fun Q285 hQ285 => ?_
                refine KC.region ?_
                refine RL.val (O.move rfl) rfl ?_
                refine RL.val (O.move rfl) rfl ?_
                refine RL.val (O.len sl22 rfl) rfl ?_
                refine RL.val (O.lss rfl rfl) rfl ?_
                refine RL.nil ?_
                refine KQ.thn hQ285 ?_
                clear hQ285 Q285
                refine KC.cond rfl (fun hc => ?_) (fun hc => ?_)
                · rw [if_pos hc] at hF
                  refine KC.skip ?_
                  refine KQ.thn hQ284 ?_
                  clear hQ284 Q284
                  refine KC.seqH fun Q286 hQ286 => ?_
                  refine KC.block ?_
                  refine KC.region ?_
                  refine RL.val (O.move rfl) rfl ?_
                  refine RL.val (O.move rfl) rfl ?_
                  refine obindE hF fun xv289 hx288 hF => ?_
                  have hA287 := Rd.atN (f := (eI .u8)) (s := 1) (fun _ => rfl) (by decide) (hM.rd (i := 4) rfl) hx288
                  refine RL.val (O.idxA sl22 (hA287) rfl rfl) rfl ?_
                  refine RL.val (O.load sc5 rfl (hA287).cells.at0) rfl ?_
                  refine RL.val (O.add rfl rfl) rfl ?_
                  refine obindE hF fun xv292 hx291 hF => ?_
                  have hA290 := Rd.atN (f := (eI .u8)) (s := 1) (fun _ => rfl) (by decide) (hM.rd (i := 4) rfl) hx291
                  refine RL.val (O.idxA sl22 (hA290) rfl rfl) rfl ?_
                  refine RL.effs (E.stR (enc := (eI .u8)) (j := 4) (off := 0) (vs := [.int .u8 (IntKind.u8.wrap (xv289 + 1))]) (x' := (IntKind.u8.wrap (xv289 + 1))) hM rfl (fun _ => rfl) hx291 sz5 rfl (addsR_eq [] rfl) rfl rfl (One.all rfl) rfl rfl) fun w293 hM1 => ?_
                  clear hM
                  obtain ⟨hM, hn294⟩ := hM1
                  refine RL.reslot (t := 9) rfl hn294 ?_
                  refine RL.reslot (t := 54) rfl hn294 ?_
                  refine RL.nil ?_
                  refine KQ.blk_n ?_
                  refine KQ.thn hQ286 ?_
                  clear hQ286 Q286
                  refine KC.region ?_
                  refine RL.val (O.move rfl) rfl ?_
                  refine RL.val (O.add rfl rfl) rfl ?_
                  refine RL.val (O.assign rfl) rfl ?_
                  refine RL.nil ?_
                  refine KQ.then_k ?_
                  exact fun a ha => ⟨k283, Nat.lt_succ_self k283, A277, c278, (b279.set (i280 : Int).toNat (IntKind.u8.wrap (xv289 + 1))), (IntKind.i64.wrap (i280 + 1)), ha.less (less_cons rfl (less_cons rfl (less_cons rfl (less_cons rfl (less_cons rfl (less_cons rfl (less_cons rfl (less_cons rfl less_nil)))))))), hM, hF⟩
                · rw [if_neg (ne_true hc)] at hF
                  refine KC.exit ?_
                  refine KQ.thx hQ284 ?_
                  clear hQ284 Q284
                  refine KQ.then_x ?_
                  refine KQ.blk_x ?_
                  refine KQ.blk_n ?_
                  refine KQ.thn hQ218 ?_
                  clear hQ218 Q218
                  replace hM := hM.pick [0, 1, 2, 3] rfl (by decide)
                  refine KC.region ?_
                  refine RL.val (O.move rfl) rfl ?_
                  refine RL.val (O.add rfl rfl) rfl ?_
                  refine RL.val (O.assign rfl) rfl ?_
                  refine RL.nil ?_
                  refine KQ.then_k ?_
                  exact fun a ha => ⟨k215, Nat.lt_succ_self k215, (IntKind.i64.wrap (t212 + 1)), ha.less (less_cons rfl (less_cons rfl (less_cons rfl (less_cons rfl (less_cons rfl (less_cons rfl less_nil)))))), hM, hF⟩
        · rw [if_neg (ne_true hc)] at hF
          refine KC.exit ?_
          refine KQ.thx hQ216 ?_
          clear hQ216 Q216
          refine KQ.then_x ?_
          refine KQ.blk_x ?_
          refine KQ.thn hQ43 ?_
          clear hQ43 Q43
          replace hM := hM.pick [0, 1, 2] rfl (by decide)
          refine KC.cut (fun a w324 => ∃ (t323 : Bool), Kn 89 [(4, .bool t323)] a ∧ Mem w [] w324 [] ∧ F_law05_IpPuts_j3 t323 = some r) ?_ ?_
          · replace hM := hM.drewN 1
            refine KC.draw [] [] [1, 3, 8, 11, 18, 22, 27] [4, 5, 12, 13, 14, 15, 19, 20, 24, 25, 26, 28, 29] (.ofList [0, 2, 1, 3, 4, 5, 6, 7, 9, 10, 8, 11, 12, 13, 14, 15, 16, 17, 18, 19, 20, 21, 23, 22, 24, 25, 26, 27, 28, 29]) moP (by kernel_rfl) ?_
            refine RD.q rfl rfl rfl rfl (fun w' hf => O.loadN (cs := [.int .u8 h1.f_TOS, .int .u16 h1.f_Total, .int .u16 h1.f_ID, .bool h1.f_DF, .bool h1.f_MF, .int .u16 h1.f_Frag, .int .u8 h1.f_TTL, .int .u8 h1.f_Proto, .int .u8 (List.getD h1.f_Src 0 0), .int .u8 (List.getD h1.f_Src 1 0), .int .u8 (List.getD h1.f_Src 2 0), .int .u8 (List.getD h1.f_Src 3 0), .int .u8 (List.getD h1.f_Dst 0 0), .int .u8 (List.getD h1.f_Dst 1 0), .int .u8 (List.getD h1.f_Dst 2 0), .int .u8 (List.getD h1.f_Dst 3 0), .slice A2 (h1.f_Options).length c3]) ag39 rfl (Cs.addsN [] ((hM.bx (i := 0) rfl).fut hf) rfl)) ?_
            refine RD.q rfl rfl rfl rfl (fun w' hf => O.loadN (cs := [.int .u8 y27.f_TOS, .int .u16 y27.f_Total, .int .u16 y27.f_ID, .bool y27.f_DF, .bool y27.f_MF, .int .u16 y27.f_Frag, .int .u8 y27.f_TTL, .int .u8 y27.f_Proto, .string y27.f_Src, .string y27.f_Dst, .string y27.f_Options]) ag41 rfl (Cs.addsN [] ((hM.bx (i := 2) rfl).fut hf) rfl)) ?_
            refine obindE hF fun y295 hx296 hF => ?_
            refine RD.mcall rfl rfl trivial Try.func15 bd15 rfl rfl (c_ip_Right _ h1 _ _ (hM.inp hr4 Off.nil) _ hx296) fun v w297 hv => ?_
            obtain ⟨rfl, hN298⟩ := hv
            refine ⟨fun _ => hN298.fut, ?_⟩
            replace hM := hM.call0 hN298
            refine obindE hF fun y299 hx300 hF => ?_
            refine RD.mcall rfl rfl trivial Try.func16 bd16 rfl rfl (c_ref05_Right _ y27 _ hx300) fun v w301 hv => ?_
            obtain ⟨rfl, hN302⟩ := hv
            refine ⟨fun _ => hN302.fut, ?_⟩
            replace hM := hM.call0 hN302
            refine RD.p rfl rfl rfl rfl (fun w' => O.eqlb Try.underlying4 rfl rfl) ?_
            refine RD.p rfl rfl rfl rfl (fun w' => O.move rfl) ?_
            refine RD.bcase (t := 65) rfl (fun hc => ?_) (fun hc => ?_)
            · rw [if_pos hc] at hF
              refine RD.gq rfl rfl rfl rfl rfl rfl (fun w' hf => O.loadN (cs := [.int .u8 h1.f_TOS, .int .u16 h1.f_Total, .int .u16 h1.f_ID, .bool h1.f_DF, .bool h1.f_MF, .int .u16 h1.f_Frag, .int .u8 h1.f_TTL, .int .u8 h1.f_Proto, .int .u8 (List.getD h1.f_Src 0 0), .int .u8 (List.getD h1.f_Src 1 0), .int .u8 (List.getD h1.f_Src 2 0), .int .u8 (List.getD h1.f_Src 3 0), .int .u8 (List.getD h1.f_Dst 0 0), .int .u8 (List.getD h1.f_Dst 1 0), .int .u8 (List.getD h1.f_Dst 2 0), .int .u8 (List.getD h1.f_Dst 3 0), .slice A2 (h1.f_Options).length c3]) ag39 rfl (Cs.addsN [] ((hM.bx (i := 0) rfl).fut hf) rfl)) ?_
              refine RD.gq rfl rfl rfl rfl rfl rfl (fun w' hf => O.loadN (cs := [.int .u8 other5.f_TOS, .int .u16 other5.f_Total, .int .u16 other5.f_ID, .bool other5.f_DF, .bool other5.f_MF, .int .u16 other5.f_Frag, .int .u8 other5.f_TTL, .int .u8 other5.f_Proto, .int .u8 (List.getD other5.f_Src 0 0), .int .u8 (List.getD other5.f_Src 1 0), .int .u8 (List.getD other5.f_Src 2 0), .int .u8 (List.getD other5.f_Src 3 0), .int .u8 (List.getD other5.f_Dst 0 0), .int .u8 (List.getD other5.f_Dst 1 0), .int .u8 (List.getD other5.f_Dst 2 0), .int .u8 (List.getD other5.f_Dst 3 0), .slice A6 (other5.f_Options).length c7]) ag39 rfl (Cs.addsN [] ((hM.bx (i := 1) rfl).fut hf) rfl)) ?_
              refine RD.gq rfl rfl rfl rfl rfl rfl (fun w' hf => O.loadN (cs := [.int .u8 y27.f_TOS, .int .u16 y27.f_Total, .int .u16 y27.f_ID, .bool y27.f_DF, .bool y27.f_MF, .int .u16 y27.f_Frag, .int .u8 y27.f_TTL, .int .u8 y27.f_Proto, .string y27.f_Src, .string y27.f_Dst, .string y27.f_Options]) ag41 rfl (Cs.addsN [] ((hM.bx (i := 2) rfl).fut hf) rfl)) ?_
              refine RD.gq rfl rfl rfl rfl rfl rfl (fun w' hf => O.loadN (cs := [.int .u8 other5.f_TOS, .int .u16 other5.f_Total, .int .u16 other5.f_ID, .bool other5.f_DF, .bool other5.f_MF, .int .u16 other5.f_Frag, .int .u8 other5.f_TTL, .int .u8 other5.f_Proto, .int .u8 (List.getD other5.f_Src 0 0), .int .u8 (List.getD other5.f_Src 1 0), .int .u8 (List.getD other5.f_Src 2 0), .int .u8 (List.getD other5.f_Src 3 0), .int .u8 (List.getD other5.f_Dst 0 0), .int .u8 (List.getD other5.f_Dst 1 0), .int .u8 (List.getD other5.f_Dst 2 0), .int .u8 (List.getD other5.f_Dst 3 0), .slice A6 (other5.f_Options).length c7]) ag39 rfl (Cs.addsN [] ((hM.bx (i := 1) rfl).fut hf) rfl)) ?_
              refine obindE hF fun y303 hx304 hF => ?_
              refine RD.mcall rfl rfl ⟨rfl, rfl⟩ Try.func17 bd17 rfl rfl (c_ip_Same _ h1 _ _ (hM.inp hr4 Off.nil) other5 _ _ (hM.inp hr8 Off.nil) _ hx304) fun v w305 hv => ?_
              obtain ⟨rfl, hN306⟩ := hv
              refine ⟨fun _ => hN306.fut, ?_⟩
              replace hM := hM.call0 hN306
              refine obindE hF fun y307 hx308 hF => ?_
              refine RD.mcall rfl rfl ⟨rfl, rfl⟩ Try.func11 bd11 rfl rfl (c_docs_Ip _ other5 _ _ (hM.inp hr8 Off.nil) _ hx308) fun v w309 hv => ?_
              obtain ⟨rfl, hN310⟩ := hv
              refine ⟨fun _ => hN310.fut, ?_⟩
              replace hM := hM.call0 hN310
              refine RD.gp rfl rfl rfl rfl rfl rfl (fun w' => O.steq (cs := [.int .u8 y27.f_TOS, .int .u16 y27.f_Total, .int .u16 y27.f_ID, .bool y27.f_DF, .bool y27.f_MF, .int .u16 y27.f_Frag, .int .u8 y27.f_TTL, .int .u8 y27.f_Proto, .string y27.f_Src, .string y27.f_Dst, .string y27.f_Options]) (cs' := [.int .u8 y307.f_TOS, .int .u16 y307.f_Total, .int .u16 y307.f_ID, .bool y307.f_DF, .bool y307.f_MF, .int .u16 y307.f_Frag, .int .u8 y307.f_TTL, .int .u8 y307.f_Proto, .string y307.f_Src, .string y307.f_Dst, .string y307.f_Options]) (by kernel_rfl) rfl rfl (Q41t y27 y307 _ rfl rfl)) ?_
              refine RD.gp rfl rfl rfl rfl rfl rfl (fun w' => O.eqlb Try.underlying4 rfl rfl) ?_
              refine RD.p rfl rfl rfl rfl (fun w' => O.pickt rfl rfl) ?_
              refine RD.p rfl rfl rfl rfl (fun w' => O.move rfl) ?_
              refine RD.bcase (t := 75) rfl (fun hc => ?_) (fun hc => ?_)
              · rw [if_pos hc] at hF
                refine RD.gq rfl rfl rfl rfl rfl rfl (fun w' hf => O.loadN (cs := [.int .u8 h1.f_TOS, .int .u16 h1.f_Total, .int .u16 h1.f_ID, .bool h1.f_DF, .bool h1.f_MF, .int .u16 h1.f_Frag, .int .u8 h1.f_TTL, .int .u8 h1.f_Proto, .int .u8 (List.getD h1.f_Src 0 0), .int .u8 (List.getD h1.f_Src 1 0), .int .u8 (List.getD h1.f_Src 2 0), .int .u8 (List.getD h1.f_Src 3 0), .int .u8 (List.getD h1.f_Dst 0 0), .int .u8 (List.getD h1.f_Dst 1 0), .int .u8 (List.getD h1.f_Dst 2 0), .int .u8 (List.getD h1.f_Dst 3 0), .slice A2 (h1.f_Options).length c3]) ag39 rfl (Cs.addsN [] ((hM.bx (i := 0) rfl).fut hf) rfl)) ?_
                refine RD.gq rfl rfl rfl rfl rfl rfl (fun w' hf => O.loadN (cs := [.int .u8 h1.f_TOS, .int .u16 h1.f_Total, .int .u16 h1.f_ID, .bool h1.f_DF, .bool h1.f_MF, .int .u16 h1.f_Frag, .int .u8 h1.f_TTL, .int .u8 h1.f_Proto, .int .u8 (List.getD h1.f_Src 0 0), .int .u8 (List.getD h1.f_Src 1 0), .int .u8 (List.getD h1.f_Src 2 0), .int .u8 (List.getD h1.f_Src 3 0), .int .u8 (List.getD h1.f_Dst 0 0), .int .u8 (List.getD h1.f_Dst 1 0), .int .u8 (List.getD h1.f_Dst 2 0), .int .u8 (List.getD h1.f_Dst 3 0), .slice A2 (h1.f_Options).length c3]) ag39 rfl (Cs.addsN [] ((hM.bx (i := 0) rfl).fut hf) rfl)) ?_
                refine obindE hF fun y311 hx312 hF => ?_
                refine RD.mcall rfl rfl ⟨rfl, rfl⟩ Try.func17 bd17 rfl rfl (c_ip_Same _ h1 _ _ (hM.inp hr4 Off.nil) h1 _ _ (hM.inp hr4 Off.nil) _ hx312) fun v w313 hv => ?_
                obtain ⟨rfl, hN314⟩ := hv
                refine ⟨fun _ => hN314.fut, ?_⟩
                replace hM := hM.call0 hN314
                refine RD.p rfl rfl rfl rfl (fun w' => O.pickt rfl rfl) ?_
                refine RD.p rfl rfl rfl rfl (fun w' => O.move rfl) ?_
                refine RD.bcase (t := 80) rfl (fun hc => ?_) (fun hc => ?_)
                · rw [if_pos hc] at hF
                  refine RD.gq rfl rfl rfl rfl rfl rfl (fun w' hf => O.loadN (cs := [.int .u8 h1.f_TOS, .int .u16 h1.f_Total, .int .u16 h1.f_ID, .bool h1.f_DF, .bool h1.f_MF, .int .u16 h1.f_Frag, .int .u8 h1.f_TTL, .int .u8 h1.f_Proto, .int .u8 (List.getD h1.f_Src 0 0), .int .u8 (List.getD h1.f_Src 1 0), .int .u8 (List.getD h1.f_Src 2 0), .int .u8 (List.getD h1.f_Src 3 0), .int .u8 (List.getD h1.f_Dst 0 0), .int .u8 (List.getD h1.f_Dst 1 0), .int .u8 (List.getD h1.f_Dst 2 0), .int .u8 (List.getD h1.f_Dst 3 0), .slice A2 (h1.f_Options).length c3]) ag39 rfl (Cs.addsN [] ((hM.bx (i := 0) rfl).fut hf) rfl)) ?_
                  refine RD.gq rfl rfl rfl rfl rfl rfl (fun w' hf => O.loadN (cs := [.int .u8 y27.f_TOS, .int .u16 y27.f_Total, .int .u16 y27.f_ID, .bool y27.f_DF, .bool y27.f_MF, .int .u16 y27.f_Frag, .int .u8 y27.f_TTL, .int .u8 y27.f_Proto, .string y27.f_Src, .string y27.f_Dst, .string y27.f_Options]) ag41 rfl (Cs.addsN [] ((hM.bx (i := 2) rfl).fut hf) rfl)) ?_
                  refine obindE hF fun y315 hx316 hF => ?_
                  refine RD.mcall rfl rfl ⟨rfl, rfl⟩ Try.func11 bd11 rfl rfl (c_docs_Ip _ h1 _ _ (hM.inp hr4 Off.nil) _ hx316) fun v w317 hv => ?_
                  obtain ⟨rfl, hN318⟩ := hv
                  refine ⟨fun _ => hN318.fut, ?_⟩
                  replace hM := hM.call0 hN318
                  refine RD.gp rfl rfl rfl rfl rfl rfl (fun w' => O.steq (cs := [.int .u8 y315.f_TOS, .int .u16 y315.f_Total, .int .u16 y315.f_ID, .bool y315.f_DF, .bool y315.f_MF, .int .u16 y315.f_Frag, .int .u8 y315.f_TTL, .int .u8 y315.f_Proto, .string y315.f_Src, .string y315.f_Dst, .string y315.f_Options]) (cs' := [.int .u8 y27.f_TOS, .int .u16 y27.f_Total, .int .u16 y27.f_ID, .bool y27.f_DF, .bool y27.f_MF, .int .u16 y27.f_Frag, .int .u8 y27.f_TTL, .int .u8 y27.f_Proto, .string y27.f_Src, .string y27.f_Dst, .string y27.f_Options]) (by kernel_rfl) rfl rfl (Q41t y315 y27 _ rfl rfl)) ?_
                  refine RD.p rfl rfl rfl rfl (fun w' => O.pickt rfl rfl) ?_
                  refine RD.p rfl rfl rfl rfl (fun w' => O.move rfl) ?_
                  refine RD.bcase (t := 86) rfl (fun hc => ?_) (fun hc => ?_)
                  · rw [if_pos hc] at hF
                    refine obindE hF fun y319 hx320 hF => ?_
                    refine RD.mcall rfl rfl ⟨rfl, rfl⟩ Try.func8 bd8 rfl rfl (c_law05_works _ _ hx320) fun v w321 hv => ?_
                    obtain ⟨rfl, hN322⟩ := hv
                    refine ⟨fun _ => hN322.fut, ?_⟩
                    replace hM := hM.call0 hN322
                    refine RD.p rfl rfl rfl rfl (fun w' => O.pickt rfl rfl) ?_
                    refine RD.p rfl rfl rfl rfl (fun w' => O.assign rfl) ?_
                    refine RD.nil ?_
                    refine KQ.then_k ?_
                    replace hM := hM.pick [] rfl (by decide)
                    exact fun a ha => ⟨y319, ha.less (less_cons rfl less_nil), hM, hF⟩
                  · rw [if_neg (ne_true hc)] at hF
                    refine RD.gskip rfl rfl rfl rfl rfl ?_
                    refine RD.p rfl rfl rfl rfl (fun w' => O.pickf rfl rfl) ?_
                    refine RD.p rfl rfl rfl rfl (fun w' => O.assign rfl) ?_
                    refine RD.nil ?_
                    refine KQ.then_k ?_
                    replace hM := hM.pick [] rfl (by decide)
                    exact fun a ha => ⟨false, ha.less (less_cons rfl less_nil), hM, hF⟩
                · rw [if_neg (ne_true hc)] at hF
                  refine RD.brun1 [21, 23, 22, 24, 25, 26, 27, 28] 88 false (by kernel_rfl) ?_
                  refine RD.p rfl rfl rfl rfl (fun w' => O.assign rfl) ?_
                  refine RD.nil ?_
                  refine KQ.then_k ?_
                  replace hM := hM.pick [] rfl (by decide)
                  exact fun a ha => ⟨false, ha.less (less_cons rfl less_nil), hM, hF⟩
              · rw [if_neg (ne_true hc)] at hF
                refine RD.brun1 [16, 17, 18, 19, 20, 21, 23, 22, 24, 25, 26, 27, 28] 88 false (by kernel_rfl) ?_
                refine RD.p rfl rfl rfl rfl (fun w' => O.assign rfl) ?_
                refine RD.nil ?_
                refine KQ.then_k ?_
                replace hM := hM.pick [] rfl (by decide)
                exact fun a ha => ⟨false, ha.less (less_cons rfl less_nil), hM, hF⟩
            · rw [if_neg (ne_true hc)] at hF
              refine RD.brun1 [6, 7, 9, 10, 8, 11, 12, 13, 14, 15, 16, 17, 18, 19, 20, 21, 23, 22, 24, 25, 26, 27, 28] 88 false (by kernel_rfl) ?_
              refine RD.p rfl rfl rfl rfl (fun w' => O.assign rfl) ?_
              refine RD.nil ?_
              refine KQ.then_k ?_
              replace hM := hM.pick [] rfl (by decide)
              exact fun a ha => ⟨false, ha.less (less_cons rfl less_nil), hM, hF⟩
          · rintro a w324 ⟨t323, ha, hM, hF⟩
            refine KC.app ha ?_
            clear ha
            unfold F_law05_IpPuts_j3 at hF
            refine KC.ret ?_
            have hE := Option.some.inj hF
            clear hF
            subst hE
            refine KQ.rets Try.results4 (RVs.cons (RV.tm rfl) RVs.nil) ?_
            exact ⟨_, rfl, rfl, hM⟩
set_option maxRecDepth 100000 in
set_option maxHeartbeats 40000000 in
theorem c_kit_Pick (w : World) (i1 : Int) (nv2 : Int) (r : Int) (hF : F_kit_Pick i1 nv2 = some r) :
    CallsR Try.prog 20 [.int .i64 i1, .int .i64 nv2] w (fun v w' => v = .int .i64 r ∧ Mem w [] w' []) := by
  refine calls_KC Try.func20 rfl Try.ntmps20 rfl ?_
  have hM := Mem.init w
  unfold F_kit_Pick at hF
  refine KC.seqH fun Q3 hQ3 => ?_
  refine KC.region ?_
  refine RL.val (O.assign rfl) rfl ?_
  refine RL.nil ?_
  refine KQ.thn hQ3 ?_
  clear hQ3 Q3
  refine KC.seqH fun Q4 hQ4 => ?_
  refine KC.seqH fun Q5 hQ5 => ?_
  refine KC.region ?_
  refine RL.val (O.move rfl) rfl ?_
  refine RL.val (O.leq rfl rfl) rfl ?_
  refine RL.nil ?_
  refine KQ.thn hQ5 ?_
  clear hQ5 Q5
  refine KC.cond rfl (fun hc => ?_) (fun hc => ?_)
  · rw [if_pos hc] at hF
    refine KC.seqH fun Q6 hQ6 => ?_
    refine KC.region ?_
    refine RL.val (O.assign rfl) rfl ?_
    refine RL.nil ?_
    refine KQ.thn hQ6 ?_
    clear hQ6 Q6
    refine KC.ret ?_
    refine KQ.thr hQ4 ?_
    clear hQ4 Q4
    have hE := Option.some.inj hF
    clear hF
    subst hE
    refine KQ.rets Try.results20 (RVs.cons (RV.tm rfl) RVs.nil) ?_
    exact ⟨_, rfl, rfl, hM⟩
  · rw [if_neg (ne_true hc)] at hF
    refine KC.skip ?_
    refine KQ.thn hQ4 ?_
    clear hQ4 Q4
    refine KC.seqH fun Q7 hQ7 => ?_
    refine KC.region ?_
    refine RL.val (O.move rfl) rfl ?_
    refine RL.val (O.move rfl) rfl ?_
    refine cut_someE hF fun hq8 hF => ?_
    refine RL.val (O.rem rfl rfl (of_decide_eq_true hq8)) rfl ?_
    refine RL.val (O.move rfl) rfl ?_
    refine RL.val (O.add rfl rfl) rfl ?_
    refine RL.val (O.move rfl) rfl ?_
    refine cut_someE hF fun hq9 hF => ?_
    refine RL.val (O.rem rfl rfl (of_decide_eq_true hq9)) rfl ?_
    refine RL.val (O.assign rfl) rfl ?_
    refine RL.nil ?_
    refine KQ.thn hQ7 ?_
    clear hQ7 Q7
    refine KC.ret ?_
    have hE := Option.some.inj hF
    clear hF
    subst hE
    refine KQ.rets Try.results20 (RVs.cons (RV.tm rfl) RVs.nil) ?_
    exact ⟨_, rfl, rfl, hM⟩
end Go.Proofs.Ytjfdfjmnajjjaaa
