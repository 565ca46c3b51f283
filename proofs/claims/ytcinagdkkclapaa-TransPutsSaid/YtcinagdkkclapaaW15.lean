/- Printed by a program of this claim: each call returns what the plain function of its name gives. -/
import Derived.Test.YtcinagdkkclapaaW1
import Derived.Test.YtcinagdkkclapaaW2
import Derived.Test.YtcinagdkkclapaaW3
import Derived.Test.YtcinagdkkclapaaW7
import Derived.Test.YtcinagdkkclapaaW11
import Derived.Test.YtcinagdkkclapaaW12
import Derived.Test.YtcinagdkkclapaaW14
set_option linter.unusedVariables false
namespace Go.Proofs.Ytcinagdkkclapaa
open Go Go.Ox Go.RowKit
set_option maxRecDepth 100000 in
set_option maxHeartbeats 40000000 in
theorem c_law07_TransPuts (w : World) (s1 : T_trans_Segment) (A2 : Option Addr) (c3 : Nat) (hr4 : Rd w A2 c3 1 s1.f_Options.length (s1.f_Options.flatMap (eI .u8))) (A5 : Option Addr) (c6 : Nat) (hr7 : Rd w A5 c6 1 s1.f_Data.length (s1.f_Data.flatMap (eI .u8))) (other8 : T_trans_Segment) (A9 : Option Addr) (c10 : Nat) (hr11 : Rd w A9 c10 1 other8.f_Options.length (other8.f_Options.flatMap (eI .u8))) (A12 : Option Addr) (c13 : Nat) (hr14 : Rd w A12 c13 1 other8.f_Data.length (other8.f_Data.flatMap (eI .u8))) (A16 : Option Addr) (c17 : Nat) (src15 : List Int) (hr18 : Rd w A16 c17 1 src15.length (src15.flatMap (eI .u8))) (A20 : Option Addr) (c21 : Nat) (dst19 : List Int) (hr22 : Rd w A20 c21 1 dst19.length (dst19.flatMap (eI .u8))) (f23 : Int) (r : Bool) (hF : F_law07_TransPuts s1 other8 src15 dst19 f23 = some r) :
  CallsR Try.prog 3 [.agg #[v8 s1.f_Proto, v16 s1.f_Src, v16 s1.f_Dst, v32 s1.f_Seq, v32 s1.f_Ack, v8 s1.f_Flags, v16 s1.f_Window, v16 s1.f_Urgent, .slice A2 (s1.f_Options).length c3, v8 s1.f_Type, v8 s1.f_Code, .slice A5 (s1.f_Data).length c6], .agg #[v8 other8.f_Proto, v16 other8.f_Src, v16 other8.f_Dst, v32 other8.f_Seq, v32 other8.f_Ack, v8 other8.f_Flags, v16 other8.f_Window, v16 other8.f_Urgent, .slice A9 (other8.f_Options).length c10, v8 other8.f_Type, v8 other8.f_Code, .slice A12 (other8.f_Data).length c13], .slice A16 (src15).length c17, .slice A20 (dst19).length c21, v8 f23] w (fun v w' => v = vB r ∧ Mem w [] w' []) := by
 refine calls_KC Try.func3 rfl Try.ntmps3 rfl ?_
 have hM := Mem.init w
 unfold F_law07_TransPuts at hF
 refine sr fun Q24 hQ24 => ?_
 refine RL.eff (E.box (vs := [v8 s1.f_Proto, v16 s1.f_Src, v16 s1.f_Dst, v32 s1.f_Seq, v32 s1.f_Ack, v8 s1.f_Flags, v16 s1.f_Window, v16 s1.f_Urgent, .slice A2 (s1.f_Options).length c3, v8 s1.f_Type, v8 s1.f_Code, .slice A5 (s1.f_Data).length c6]) hM rfl rfl) rfl fun v w26 hv => ?_
 clear hM
 obtain ⟨g25, rfl, hM, hf⟩ := hv
 refine RL.eff (E.box (vs := [v8 other8.f_Proto, v16 other8.f_Src, v16 other8.f_Dst, v32 other8.f_Seq, v32 other8.f_Ack, v8 other8.f_Flags, v16 other8.f_Window, v16 other8.f_Urgent, .slice A9 (other8.f_Options).length c10, v8 other8.f_Type, v8 other8.f_Code, .slice A12 (other8.f_Data).length c13]) hM rfl rfl) rfl fun v w29 hv => ?_
 clear hM
 obtain ⟨g28, rfl, hM, hf⟩ := hv
 refine va rfl rfl ?_
 refine nt hQ24 ?_
 clear hQ24 Q24
 refine KC.seqH fun Q31 hQ31 => ?_
 refine KC.cut (fun a w43 => ∃ (t42 : Bool), Kn 116 [(2, .slice A16 (src15).length c17), (3, .slice A20 (dst19).length c21), (4, v8 f23), (5, .pointer (some ⟨g25, 0, none⟩)), (6, .pointer (some ⟨g28, 0, none⟩)), (35, vB t42)] a ∧ Mem w [] w43 [.box g25 26 [v8 s1.f_Proto, v16 s1.f_Src, v16 s1.f_Dst, v32 s1.f_Seq, v32 s1.f_Ack, v8 s1.f_Flags, v16 s1.f_Window, v16 s1.f_Urgent, .slice A2 (s1.f_Options).length c3, v8 s1.f_Type, v8 s1.f_Code, .slice A5 (s1.f_Data).length c6], .box g28 26 [v8 other8.f_Proto, v16 other8.f_Src, v16 other8.f_Dst, v32 other8.f_Seq, v32 other8.f_Ack, v8 other8.f_Flags, v16 other8.f_Window, v16 other8.f_Urgent, .slice A9 (other8.f_Options).length c10, v8 other8.f_Type, v8 other8.f_Code, .slice A12 (other8.f_Data).length c13]] ∧ F_law07_TransPuts_j1 s1 other8 src15 dst19 f23 t42 = some r) ?_ ?_
 ·refine KC.region ?_
  refine RL.val (O.loadN (cs := [v8 s1.f_Proto, v16 s1.f_Src, v16 s1.f_Dst, v32 s1.f_Seq, v32 s1.f_Ack, v8 s1.f_Flags, v16 s1.f_Window, v16 s1.f_Urgent, .slice A2 (s1.f_Options).length c3, v8 s1.f_Type, v8 s1.f_Code, .slice A5 (s1.f_Data).length c6]) ag26 rfl (Cs.addsN [] ((hM.bx (i := 0) rfl)) rfl)) rfl ?_
  refine obindE hF fun y32 hx33 hF => ?_
  refine RL.call Try.func7 bd7 rfl rfl (c_law07_few _ s1 _ _ (hM.inp hr4 Off.nil) _ _ (hM.inp hr7 Off.nil) _ hx33) fun v w34 hv => ?_
  obtain ⟨rfl, hN35⟩ := hv
  replace hM := hM.call0 hN35
  refine RL.val (O.not rfl) rfl ?_
  refine vm rfl rfl ?_
  refine RL.bcase (t := 21) rfl (fun hc => ?_) (fun hc => ?_)
  ·rw [if_pos hc] at hF
   refine RL.brun1 14 35 true (by kernel_rfl) ?_
   refine RL.nil ?_
   refine KQ.then_k ?_
   exact fun a ha => ⟨true, ha.less (less_cons rfl (less_cons rfl (less_cons rfl (less_cons rfl (less_cons rfl (less_cons rfl less_nil)))))), hM, hF⟩
  rw [if_neg (ne_true hc)] at hF
  refine RL.gval rfl rfl (O.loadN (cs := [v8 other8.f_Proto, v16 other8.f_Src, v16 other8.f_Dst, v32 other8.f_Seq, v32 other8.f_Ack, v8 other8.f_Flags, v16 other8.f_Window, v16 other8.f_Urgent, .slice A9 (other8.f_Options).length c10, v8 other8.f_Type, v8 other8.f_Code, .slice A12 (other8.f_Data).length c13]) ag26 rfl (Cs.addsN [] ((hM.bx (i := 1) rfl)) rfl)) rfl ?_
  refine obindE hF fun y36 hx37 hF => ?_
  refine RL.gcall rfl rfl Try.func7 bd7 rfl rfl (c_law07_few _ other8 _ _ (hM.inp hr11 Off.nil) _ _ (hM.inp hr14 Off.nil) _ hx37) fun v w38 hv => ?_
  obtain ⟨rfl, hN39⟩ := hv
  replace hM := hM.call0 hN39
  refine RL.gval rfl rfl (O.not rfl) rfl ?_
  refine RL.val (O.pickf rfl rfl) rfl ?_
  refine vm rfl rfl ?_
  refine RL.bcase (t := 26) rfl (fun hc => ?_) (fun hc => ?_)
  ·rw [if_pos hc] at hF
   refine RL.brun1 9 35 true (by kernel_rfl) ?_
   refine RL.nil ?_
   refine KQ.then_k ?_
   exact fun a ha => ⟨true, ha.less (less_cons rfl (less_cons rfl (less_cons rfl (less_cons rfl (less_cons rfl (less_cons rfl less_nil)))))), hM, hF⟩
  rw [if_neg (ne_true hc)] at hF
  refine RL.gval rfl rfl (O.move rfl) rfl ?_
  refine RL.gval rfl rfl (O.len sl24 rfl) rfl ?_
  refine RL.gval rfl rfl (O.gtr rfl rfl) rfl ?_
  refine RL.val (O.pickf rfl rfl) rfl ?_
  refine vm rfl rfl ?_
  refine RL.bcase (t := 31) rfl (fun hc => ?_) (fun hc => ?_)
  ·rw [if_pos hc] at hF
   refine RL.brun1 4 35 true (by kernel_rfl) ?_
   refine RL.nil ?_
   refine KQ.then_k ?_
   exact fun a ha => ⟨true, ha.less (less_cons rfl (less_cons rfl (less_cons rfl (less_cons rfl (less_cons rfl (less_cons rfl less_nil)))))), hM, hF⟩
  rw [if_neg (ne_true hc)] at hF
  refine RL.gval rfl rfl (O.move rfl) rfl ?_
  refine RL.gval rfl rfl (O.len sl24 rfl) rfl ?_
  refine RL.gval rfl rfl (O.gtr rfl rfl) rfl ?_
  refine RL.val (O.pickf rfl rfl) rfl ?_
  refine RL.nil ?_
  refine KQ.then_k ?_
  exact fun a ha => ⟨(decide (40 < (dst19.length : Int))), ha.less (less_cons rfl (less_cons rfl (less_cons rfl (less_cons rfl (less_cons rfl (less_cons rfl less_nil)))))), hM, hF⟩
 rintro a w43 ⟨t42, ha, hM, hF⟩
 refine KC.app ha ?_
 clear ha
 unfold F_law07_TransPuts_j1 at hF
 refine KC.cond rfl (fun hc => ?_) (fun hc => ?_)
 ·rw [if_pos hc] at hF
  refine sr fun Q44 hQ44 => ?_
  refine obindE hF fun y45 hx46 hF => ?_
  refine RL.call Try.func8 bd8 rfl rfl (c_law07_works _ _ hx46) fun v w47 hv => ?_
  obtain ⟨rfl, hN48⟩ := hv
  replace hM := hM.call0 hN48
  refine va rfl rfl ?_
  refine nt hQ44 ?_
  clear hQ44 Q44
  refine KC.ret ?_
  refine KQ.thr hQ31 ?_
  clear hQ31 Q31
  have hE := Option.some.inj hF
  clear hF
  subst hE
  replace hM := hM.pick [] rfl (by decide)
  refine KQ.rets Try.results3 (RVs.cons (RV.tm rfl) RVs.nil) ?_
  exact ⟨_, rfl, rfl, hM⟩
 rw [if_neg (ne_true hc)] at hF
 refine KC.skip ?_
 refine KQ.thn hQ31 ?_
 clear hQ31 Q31
 refine sr fun Q49 hQ49 => ?_
 refine RL.val (O.loadN (cs := [v8 s1.f_Proto, v16 s1.f_Src, v16 s1.f_Dst, v32 s1.f_Seq, v32 s1.f_Ack, v8 s1.f_Flags, v16 s1.f_Window, v16 s1.f_Urgent, .slice A2 (s1.f_Options).length c3, v8 s1.f_Type, v8 s1.f_Code, .slice A5 (s1.f_Data).length c6]) ag26 rfl (Cs.addsN [] ((hM.bx (i := 0) rfl)) rfl)) rfl ?_
 refine obindE hF fun y50 hx51 hF => ?_
 refine RL.call Try.func9 bd9 rfl rfl (c_docs_Trans _ s1 _ _ (hM.inp hr4 Off.nil) _ _ (hM.inp hr7 Off.nil) _ hx51) fun v w52 hv => ?_
 obtain ⟨rfl, hN53⟩ := hv
 replace hM := hM.call0 hN53
 refine RL.eff (E.alloc hM ze30) rfl fun v w55 hv => ?_
 clear hM
 obtain ⟨g54, rfl, hM, hf⟩ := hv
 refine RL.effs (E.stB (j := 2) (off := 0) (vs := [v8 y50.f_Proto, v16 y50.f_Src, v16 y50.f_Dst, v32 y50.f_Seq, v32 y50.f_Ack, v8 y50.f_Flags, v16 y50.f_Window, v16 y50.f_Urgent, Value.string y50.f_Options, v8 y50.f_Type, v8 y50.f_Code, Value.string y50.f_Data]) (cs' := [v8 y50.f_Proto, v16 y50.f_Src, v16 y50.f_Dst, v32 y50.f_Seq, v32 y50.f_Ack, v8 y50.f_Flags, v16 y50.f_Window, v16 y50.f_Urgent, Value.string y50.f_Options, v8 y50.f_Type, v8 y50.f_Code, Value.string y50.f_Data]) hM rfl sz30 rfl (adds_eq [] rfl) rfl rfl (One.all rfl) rfl rfl) fun w57 hM1 => ?_
 clear hM
 have hM := hM1
 clear hM1
 refine nt hQ49 ?_
 clear hQ49 Q49
 refine sr fun Q58 hQ58 => ?_
 refine RL.val (O.loadN (cs := [v8 y50.f_Proto, v16 y50.f_Src, v16 y50.f_Dst, v32 y50.f_Seq, v32 y50.f_Ack, v8 y50.f_Flags, v16 y50.f_Window, v16 y50.f_Urgent, Value.string y50.f_Options, v8 y50.f_Type, v8 y50.f_Code, Value.string y50.f_Data]) ag30 rfl (Cs.addsN [] ((hM.bx (i := 2) rfl)) rfl)) rfl ?_
 refine vm rfl rfl ?_
 refine RL.val (O.b2s sl24 Try.underlying5 Try.underlying9 rfl ((hM.inp hr18 Off.nil))) rfl ?_
 refine vm rfl rfl ?_
 refine RL.val (O.b2s sl24 Try.underlying5 Try.underlying9 rfl ((hM.inp hr22 Off.nil))) rfl ?_
 refine obindE hF fun y59 hx60 hF => ?_
 refine RL.call Try.func10 bd10 rfl rfl (c_ref07_Put _ y50 (strOfNums src15) (strOfNums dst19) _ hx60) fun v w61 hv => ?_
 obtain ⟨A63, c64, Z65, rfl, hN62⟩ := hv
 replace hM := hM.call hN62
 refine vm rfl rfl ?_
 refine RL.val (O.ext rfl rfl) rfl ?_
 refine RL.val (O.ext rfl rfl) rfl ?_
 refine va rfl rfl ?_
 refine va rfl rfl ?_
 refine nt hQ58 ?_
 clear hQ58 Q58
 refine KC.seqH fun Q67 hQ67 => ?_
 refine sr fun Q68 hQ68 => ?_
 refine va rfl rfl ?_
 refine nt hQ68 ?_
 clear hQ68 Q68
 refine KC.block ?_
 refine KC.loop (fun k241 a w239 => ∃ (t238 : Int), Kn 116 [(2, .slice A16 (src15).length c17), (3, .slice A20 (dst19).length c21), (4, v8 f23), (5, .pointer (some ⟨g25, 0, none⟩)), (6, .pointer (some ⟨g28, 0, none⟩)), (11, .pointer (some ⟨g54, 0, none⟩)), (12, .slice A63 (y59.1).length c64), (13, vI y59.2), (14, vI t238)] a ∧ Mem w [] w239 [.box g25 26 [v8 s1.f_Proto, v16 s1.f_Src, v16 s1.f_Dst, v32 s1.f_Seq, v32 s1.f_Ack, v8 s1.f_Flags, v16 s1.f_Window, v16 s1.f_Urgent, .slice A2 (s1.f_Options).length c3, v8 s1.f_Type, v8 s1.f_Code, .slice A5 (s1.f_Data).length c6], .box g28 26 [v8 other8.f_Proto, v16 other8.f_Src, v16 other8.f_Dst, v32 other8.f_Seq, v32 other8.f_Ack, v8 other8.f_Flags, v16 other8.f_Window, v16 other8.f_Urgent, .slice A9 (other8.f_Options).length c10, v8 other8.f_Type, v8 other8.f_Code, .slice A12 (other8.f_Data).length c13], .box g54 30 [v8 y50.f_Proto, v16 y50.f_Src, v16 y50.f_Dst, v32 y50.f_Seq, v32 y50.f_Ack, v8 y50.f_Flags, v16 y50.f_Window, v16 y50.f_Urgent, Value.string y50.f_Options, v8 y50.f_Type, v8 y50.f_Code, Value.string y50.f_Data], .res Z65 (RdP A63 c64 1 (y59.1).length ((y59.1).flatMap (eI .u8)))] ∧ F_law07_TransPuts_L1 s1 other8 src15 dst19 f23 y50 y59 k241 t238 = some r) ?_ ?_
 ·exact fun a ha => ⟨fuel0, 0, ha.less (less_cons rfl (less_cons rfl (less_cons rfl (less_cons rfl (less_cons rfl (less_cons rfl (less_cons rfl (less_cons rfl (less_cons rfl less_nil))))))))), hM, hF⟩
 rintro k241 a w239 ⟨t238, ha, hM, hF⟩
 refine KC.app ha ?_
 clear ha
 cases k241 with
 | zero => exact (none_some hF).elim
 | succ k241 =>
 have hF : F_law07_TransPuts_l1 (F_law07_TransPuts_L1 s1 other8 src15 dst19 f23 y50 y59 k241) s1 other8 src15 dst19 f23 y50 y59 t238 = some r := hF
 unfold F_law07_TransPuts_l1 at hF
 refine KC.seqH fun Q242 hQ242 => ?_
 refine sr fun Q243 hQ243 => ?_
 refine vm rfl rfl ?_
 refine RL.val (O.lss rfl rfl) rfl ?_
 refine nt hQ243 ?_
 clear hQ243 Q243
 refine KC.cond rfl (fun hc => ?_) (fun hc => ?_)
 ·rw [if_pos hc] at hF
  refine KC.skip ?_
  refine KQ.thn hQ242 ?_
  clear hQ242 Q242
  refine KC.seqH fun Q244 hQ244 => ?_
  refine KC.block ?_
  refine sr fun Q245 hQ245 => ?_
  refine RL.val (O.loadN (cs := [v8 s1.f_Proto, v16 s1.f_Src, v16 s1.f_Dst, v32 s1.f_Seq, v32 s1.f_Ack, v8 s1.f_Flags, v16 s1.f_Window, v16 s1.f_Urgent, .slice A2 (s1.f_Options).length c3, v8 s1.f_Type, v8 s1.f_Code, .slice A5 (s1.f_Data).length c6]) ag26 rfl (Cs.addsN [] ((hM.bx (i := 0) rfl)) rfl)) rfl ?_
  refine vm rfl rfl ?_
  refine vm rfl rfl ?_
  refine obindE hF fun y246 hx247 hF => ?_
  refine RL.call Try.func11 bd11 rfl rfl (c_trans_Put _ s1 _ _ (hM.inp hr4 Off.nil) _ _ (hM.inp hr7 Off.nil) _ _ src15 (hM.inp hr18 Off.nil) _ _ dst19 (hM.inp hr22 Off.nil) _ hx247) fun v w248 hv => ?_
  obtain ⟨A250, c251, rfl, hN249⟩ := hv
  replace hM := hM.call hN249
  refine vm rfl rfl ?_
  refine RL.val (O.ext rfl rfl) rfl ?_
  refine RL.val (O.ext rfl rfl) rfl ?_
  refine va rfl rfl ?_
  refine va rfl rfl ?_
  refine nt hQ245 ?_
  clear hQ245 Q245
  refine KC.seqH fun Q253 hQ253 => ?_
  refine KC.cut (fun a w264 => ∃ (t263 : Bool), Kn 116 [(2, .slice A16 (src15).length c17), (3, .slice A20 (dst19).length c21), (4, v8 f23), (5, .pointer (some ⟨g25, 0, none⟩)), (6, .pointer (some ⟨g28, 0, none⟩)), (11, .pointer (some ⟨g54, 0, none⟩)), (12, .slice A63 (y59.1).length c64), (13, vI y59.2), (14, vI t238), (15, .slice A250 (y246.1).length c251), (67, vB t263)] a ∧ Mem w [] w264 [.box g25 26 [v8 s1.f_Proto, v16 s1.f_Src, v16 s1.f_Dst, v32 s1.f_Seq, v32 s1.f_Ack, v8 s1.f_Flags, v16 s1.f_Window, v16 s1.f_Urgent, .slice A2 (s1.f_Options).length c3, v8 s1.f_Type, v8 s1.f_Code, .slice A5 (s1.f_Data).length c6], .box g28 26 [v8 other8.f_Proto, v16 other8.f_Src, v16 other8.f_Dst, v32 other8.f_Seq, v32 other8.f_Ack, v8 other8.f_Flags, v16 other8.f_Window, v16 other8.f_Urgent, .slice A9 (other8.f_Options).length c10, v8 other8.f_Type, v8 other8.f_Code, .slice A12 (other8.f_Data).length c13], .box g54 30 [v8 y50.f_Proto, v16 y50.f_Src, v16 y50.f_Dst, v32 y50.f_Seq, v32 y50.f_Ack, v8 y50.f_Flags, v16 y50.f_Window, v16 y50.f_Urgent, Value.string y50.f_Options, v8 y50.f_Type, v8 y50.f_Code, Value.string y50.f_Data], .res Z65 (RdP A63 c64 1 (y59.1).length ((y59.1).flatMap (eI .u8))), .row A250 c251 5 1 (y246.1).length ((y246.1).flatMap (eI .u8))] ∧ F_law07_TransPuts_j2 t238 (F_law07_TransPuts_L1 s1 other8 src15 dst19 f23 y50 y59 k241) y246 t263 = some r) ?_ ?_
  ·refine KC.region ?_
   refine vm rfl rfl ?_
   refine vm rfl rfl ?_
   refine RL.val (O.neq rfl rfl) rfl ?_
   refine vm rfl rfl ?_
   refine RL.bcase (t := 62) rfl (fun hc => ?_) (fun hc => ?_)
   ·rw [if_pos hc] at hF
    refine RL.gskip rfl rfl rfl rfl ?_
    refine RL.gskip rfl rfl rfl rfl ?_
    refine RL.gskip rfl rfl rfl rfl ?_
    refine RL.gskip rfl rfl rfl rfl ?_
    refine RL.val (O.pickt rfl rfl) rfl ?_
    refine RL.nil ?_
    refine KQ.then_k ?_
    exact fun a ha => ⟨true, ha.less (less_cons rfl (less_cons rfl (less_cons rfl (less_cons rfl (less_cons rfl (less_cons rfl (less_cons rfl (less_cons rfl (less_cons rfl (less_cons rfl (less_cons rfl less_nil))))))))))), hM, hF⟩
   rw [if_neg (ne_true hc)] at hF
   refine RL.gval rfl rfl (O.move rfl) rfl ?_
   refine RL.gval rfl rfl (O.move rfl) rfl ?_
   refine obindE hF fun y255 hx256 hF => ?_
   refine RL.gcall rfl rfl Try.func12 bd12 rfl rfl (c_ref01_Same _ _ _ y246.1 (hM.rd (i := 4) rfl) _ _ y59.1 (hM.rdP (i := 3) rfl) _ hx256) fun v w257 hv => ?_
   obtain ⟨rfl, hN258⟩ := hv
   replace hM := hM.call0 hN258
   refine RL.gval rfl rfl (O.not rfl) rfl ?_
   refine RL.val (O.pickf rfl rfl) rfl ?_
   refine RL.nil ?_
   refine KQ.then_k ?_
   exact fun a ha => ⟨(!y255), ha.less (less_cons rfl (less_cons rfl (less_cons rfl (less_cons rfl (less_cons rfl (less_cons rfl (less_cons rfl (less_cons rfl (less_cons rfl (less_cons rfl (less_cons rfl less_nil))))))))))), hM, hF⟩
  rintro a w264 ⟨t263, ha, hM, hF⟩
  refine KC.app ha ?_
  clear ha
  unfold F_law07_TransPuts_j2 at hF
  refine KC.cond rfl (fun hc => ?_) (fun hc => ?_)
  ·rw [if_pos hc] at hF
   refine sr fun Q265 hQ265 => ?_
   refine va rfl rfl ?_
   refine nt hQ265 ?_
   clear hQ265 Q265
   refine KC.ret ?_
   refine KQ.thr hQ253 ?_
   clear hQ253 Q253
   refine KQ.blk_r ?_
   refine KQ.thr hQ244 ?_
   clear hQ244 Q244
   refine KQ.then_r ?_
   refine KQ.blk_r ?_
   refine KQ.thr hQ67 ?_
   clear hQ67 Q67
   have hE := Option.some.inj hF
   clear hF
   subst hE
   replace hM := hM.pick [] rfl (by decide)
   refine KQ.rets Try.results3 (RVs.cons (RV.tm rfl) RVs.nil) ?_
   exact ⟨_, rfl, rfl, hM⟩
  rw [if_neg (ne_true hc)] at hF
  refine KC.skip ?_
  refine KQ.thn hQ253 ?_
  clear hQ253 Q253
  refine sr fun Q266 hQ266 => ?_
  refine va rfl rfl ?_
  refine nt hQ266 ?_
  clear hQ266 Q266
  refine KC.block ?_
  refine KC.loop (fun k309 a w307 => ∃ (A303 : Option Addr) (c304 : Nat) (b305 : List Int) (i306 : Int), Kn 116 [(2, .slice A16 (src15).length c17), (3, .slice A20 (dst19).length c21), (4, v8 f23), (5, .pointer (some ⟨g25, 0, none⟩)), (6, .pointer (some ⟨g28, 0, none⟩)), (11, .pointer (some ⟨g54, 0, none⟩)), (12, .slice A63 (y59.1).length c64), (13, vI y59.2), (14, vI t238), (15, .slice A303 (b305).length c304), (17, vI i306)] a ∧ Mem w [] w307 [.box g25 26 [v8 s1.f_Proto, v16 s1.f_Src, v16 s1.f_Dst, v32 s1.f_Seq, v32 s1.f_Ack, v8 s1.f_Flags, v16 s1.f_Window, v16 s1.f_Urgent, .slice A2 (s1.f_Options).length c3, v8 s1.f_Type, v8 s1.f_Code, .slice A5 (s1.f_Data).length c6], .box g28 26 [v8 other8.f_Proto, v16 other8.f_Src, v16 other8.f_Dst, v32 other8.f_Seq, v32 other8.f_Ack, v8 other8.f_Flags, v16 other8.f_Window, v16 other8.f_Urgent, .slice A9 (other8.f_Options).length c10, v8 other8.f_Type, v8 other8.f_Code, .slice A12 (other8.f_Data).length c13], .box g54 30 [v8 y50.f_Proto, v16 y50.f_Src, v16 y50.f_Dst, v32 y50.f_Seq, v32 y50.f_Ack, v8 y50.f_Flags, v16 y50.f_Window, v16 y50.f_Urgent, Value.string y50.f_Options, v8 y50.f_Type, v8 y50.f_Code, Value.string y50.f_Data], .res Z65 (RdP A63 c64 1 (y59.1).length ((y59.1).flatMap (eI .u8))), .row A303 c304 5 1 (b305).length ((b305).flatMap (eI .u8))] ∧ F_law07_TransPuts_L2 t238 (F_law07_TransPuts_L1 s1 other8 src15 dst19 f23 y50 y59 k241) k309 b305 i306 = some r) ?_ ?_
  ·exact fun a ha => ⟨fuel0, A250, c251, y246.1, 0, ha.less (less_cons rfl (less_cons rfl (less_cons rfl (less_cons rfl (less_cons rfl (less_cons rfl (less_cons rfl (less_cons rfl (less_cons rfl (less_cons rfl (less_cons rfl less_nil))))))))))), hM, hF⟩
  rintro k309 a w307 ⟨A303, c304, b305, i306, ha, hM, hF⟩
  refine KC.app ha ?_
  clear ha
  cases k309 with
  | zero => exact (none_some hF).elim
  | succ k309 =>
  have hF : F_law07_TransPuts_l2 (F_law07_TransPuts_L2 t238 (F_law07_TransPuts_L1 s1 other8 src15 dst19 f23 y50 y59 k241) k309) t238 (F_law07_TransPuts_L1 s1 other8 src15 dst19 f23 y50 y59 k241) b305 i306 = some r := hF
  unfold F_law07_TransPuts_l2 at hF
  refine KC.seqH fun Q310 hQ310 => ?_
  refine sr fun Q311 hQ311 => ?_
  refine vm rfl rfl ?_
  refine vm rfl rfl ?_
  refine RL.val (O.len sl24 rfl) rfl ?_
  refine RL.val (O.lss rfl rfl) rfl ?_
  refine nt hQ311 ?_
  clear hQ311 Q311
  refine KC.cond rfl (fun hc => ?_) (fun hc => ?_)
  ·rw [if_pos hc] at hF
   refine KC.skip ?_
   refine KQ.thn hQ310 ?_
   clear hQ310 Q310
   refine KC.seqH fun Q312 hQ312 => ?_
   refine KC.block ?_
   refine KC.region ?_
   refine vm rfl rfl ?_
   refine vm rfl rfl ?_
   refine obindE hF fun xv315 hx314 hF => ?_
   have hA313 := Rd.atN (f := (eI .u8)) (s := 1) (fun _ => rfl) (by decide) (hM.rd (i := 4) rfl) hx314
   refine RL.val (O.idxA sl24 (hA313) rfl rfl) rfl ?_
   refine RL.val (O.load sc5 rfl (hA313).cells.at0) rfl ?_
   refine RL.val (O.add rfl rfl) rfl ?_
   refine obindE hF fun xv318 hx317 hF => ?_
   have hA316 := Rd.atN (f := (eI .u8)) (s := 1) (fun _ => rfl) (by decide) (hM.rd (i := 4) rfl) hx317
   refine RL.val (O.idxA sl24 (hA316) rfl rfl) rfl ?_
   refine RL.effs (E.stR (enc := (eI .u8)) (j := 4) (off := 0) (vs := [v8 (IntKind.u8.wrap (xv315 + 1))]) (x' := (IntKind.u8.wrap (xv315 + 1))) hM rfl (fun _ => rfl) hx317 sz5 rfl (addsR_eq [] rfl) rfl rfl (One.all rfl) rfl rfl) fun w319 hM1 => ?_
   clear hM
   obtain ⟨hM, hn320⟩ := hM1
   refine RL.reslot (t := 15) rfl hn320 ?_
   refine RL.reslot (t := 74) rfl hn320 ?_
   refine RL.nil ?_
   refine KQ.blk_n ?_
   refine KQ.thn hQ312 ?_
   clear hQ312 Q312
   refine KC.region ?_
   refine vm rfl rfl ?_
   refine RL.val (O.add rfl rfl) rfl ?_
   refine va rfl rfl ?_
   refine RL.nil ?_
   refine KQ.then_k ?_
   exact fun a ha => ⟨k309, Nat.lt_succ_self k309, A303, c304, (b305.set (i306 : Int).toNat (IntKind.u8.wrap (xv315 + 1))), (IntKind.i64.wrap (i306 + 1)), ha.less (less_cons rfl (less_cons rfl (less_cons rfl (less_cons rfl (less_cons rfl (less_cons rfl (less_cons rfl (less_cons rfl (less_cons rfl (less_cons rfl (less_cons rfl less_nil))))))))))), hM, hF⟩
  rw [if_neg (ne_true hc)] at hF
  refine KC.exit ?_
  refine KQ.thx hQ310 ?_
  clear hQ310 Q310
  refine KQ.then_x ?_
  refine KQ.blk_x ?_
  refine KQ.blk_n ?_
  refine KQ.thn hQ244 ?_
  clear hQ244 Q244
  replace hM := hM.pick [0, 1, 2, 3] rfl (by decide)
  refine KC.region ?_
  refine vm rfl rfl ?_
  refine RL.val (O.add rfl rfl) rfl ?_
  refine va rfl rfl ?_
  refine RL.nil ?_
  refine KQ.then_k ?_
  exact fun a ha => ⟨k241, Nat.lt_succ_self k241, (IntKind.i64.wrap (t238 + 1)), ha.less (less_cons rfl (less_cons rfl (less_cons rfl (less_cons rfl (less_cons rfl (less_cons rfl (less_cons rfl (less_cons rfl (less_cons rfl less_nil))))))))), hM, hF⟩
 rw [if_neg (ne_true hc)] at hF
 refine KC.exit ?_
 refine KQ.thx hQ242 ?_
 clear hQ242 Q242
 refine KQ.then_x ?_
 refine KQ.blk_x ?_
 refine KQ.thn hQ67 ?_
 clear hQ67 Q67
 replace hM := hM.pick [0, 1, 2] rfl (by decide)
 refine KC.cut (fun a w361 => ∃ (t360 : Bool), Kn 116 [(10, vB t360)] a ∧ Mem w [] w361 [] ∧ F_law07_TransPuts_j3 t360 = some r) ?_ ?_
 ·replace hM := hM.drewN 1
  refine KC.draw [] [] [1, 3, 8, 11, 18, 22, 28, 30, 34] [4, 5, 12, 13, 14, 15, 19, 20, 24, 25, 26, 27, 29, 31, 32, 33, 35, 36] (.ofList [0, 2, 1, 3, 4, 5, 6, 7, 9, 10, 8, 11, 12, 13, 14, 15, 16, 17, 18, 19, 20, 21, 23, 22, 24, 25, 26, 27, 29, 28, 30, 31, 32, 33, 34, 35, 36]) moP (by kernel_rfl) ?_
  refine RD.q rfl rfl rfl rfl (fun w' hf => O.loadN (cs := [v8 s1.f_Proto, v16 s1.f_Src, v16 s1.f_Dst, v32 s1.f_Seq, v32 s1.f_Ack, v8 s1.f_Flags, v16 s1.f_Window, v16 s1.f_Urgent, .slice A2 (s1.f_Options).length c3, v8 s1.f_Type, v8 s1.f_Code, .slice A5 (s1.f_Data).length c6]) ag26 rfl (Cs.addsN [] ((hM.bx (i := 0) rfl).fut hf) rfl)) ?_
  refine RD.q rfl rfl rfl rfl (fun w' hf => O.loadN (cs := [v8 y50.f_Proto, v16 y50.f_Src, v16 y50.f_Dst, v32 y50.f_Seq, v32 y50.f_Ack, v8 y50.f_Flags, v16 y50.f_Window, v16 y50.f_Urgent, Value.string y50.f_Options, v8 y50.f_Type, v8 y50.f_Code, Value.string y50.f_Data]) ag30 rfl (Cs.addsN [] ((hM.bx (i := 2) rfl).fut hf) rfl)) ?_
  refine obindE hF fun y324 hx325 hF => ?_
  refine RD.mcall rfl rfl trivial Try.func13 bd13 rfl rfl (c_trans_Right _ s1 _ _ (hM.inp hr4 Off.nil) _ _ (hM.inp hr7 Off.nil) _ hx325) fun v w326 hv => ?_
  obtain ⟨rfl, hN327⟩ := hv
  refine ⟨fun _ => hN327.fut, ?_⟩
  replace hM := hM.call0 hN327
  refine obindE hF fun y328 hx329 hF => ?_
  refine RD.mcall rfl rfl trivial Try.func14 bd14 rfl rfl (c_ref07_Right _ y50 _ hx329) fun v w330 hv => ?_
  obtain ⟨rfl, hN331⟩ := hv
  refine ⟨fun _ => hN331.fut, ?_⟩
  replace hM := hM.call0 hN331
  refine RD.p rfl rfl rfl rfl (fun w' => O.eqlb Try.underlying4 rfl rfl) ?_
  refine RD.p rfl rfl rfl rfl (fun w' => O.move rfl) ?_
  refine RD.bcase (t := 85) rfl (fun hc => ?_) (fun hc => ?_)
  ·rw [if_pos hc] at hF
   refine RD.gq rfl rfl rfl rfl rfl rfl (fun w' hf => O.loadN (cs := [v8 s1.f_Proto, v16 s1.f_Src, v16 s1.f_Dst, v32 s1.f_Seq, v32 s1.f_Ack, v8 s1.f_Flags, v16 s1.f_Window, v16 s1.f_Urgent, .slice A2 (s1.f_Options).length c3, v8 s1.f_Type, v8 s1.f_Code, .slice A5 (s1.f_Data).length c6]) ag26 rfl (Cs.addsN [] ((hM.bx (i := 0) rfl).fut hf) rfl)) ?_
   refine RD.gq rfl rfl rfl rfl rfl rfl (fun w' hf => O.loadN (cs := [v8 other8.f_Proto, v16 other8.f_Src, v16 other8.f_Dst, v32 other8.f_Seq, v32 other8.f_Ack, v8 other8.f_Flags, v16 other8.f_Window, v16 other8.f_Urgent, .slice A9 (other8.f_Options).length c10, v8 other8.f_Type, v8 other8.f_Code, .slice A12 (other8.f_Data).length c13]) ag26 rfl (Cs.addsN [] ((hM.bx (i := 1) rfl).fut hf) rfl)) ?_
   refine RD.gq rfl rfl rfl rfl rfl rfl (fun w' hf => O.loadN (cs := [v8 y50.f_Proto, v16 y50.f_Src, v16 y50.f_Dst, v32 y50.f_Seq, v32 y50.f_Ack, v8 y50.f_Flags, v16 y50.f_Window, v16 y50.f_Urgent, Value.string y50.f_Options, v8 y50.f_Type, v8 y50.f_Code, Value.string y50.f_Data]) ag30 rfl (Cs.addsN [] ((hM.bx (i := 2) rfl).fut hf) rfl)) ?_
   refine RD.gq rfl rfl rfl rfl rfl rfl (fun w' hf => O.loadN (cs := [v8 other8.f_Proto, v16 other8.f_Src, v16 other8.f_Dst, v32 other8.f_Seq, v32 other8.f_Ack, v8 other8.f_Flags, v16 other8.f_Window, v16 other8.f_Urgent, .slice A9 (other8.f_Options).length c10, v8 other8.f_Type, v8 other8.f_Code, .slice A12 (other8.f_Data).length c13]) ag26 rfl (Cs.addsN [] ((hM.bx (i := 1) rfl).fut hf) rfl)) ?_
   refine obindE hF fun y332 hx333 hF => ?_
   refine RD.mcall rfl rfl ⟨rfl, rfl⟩ Try.func15 bd15 rfl rfl (c_trans_Same _ s1 _ _ (hM.inp hr4 Off.nil) _ _ (hM.inp hr7 Off.nil) other8 _ _ (hM.inp hr11 Off.nil) _ _ (hM.inp hr14 Off.nil) _ hx333) fun v w334 hv => ?_
   obtain ⟨rfl, hN335⟩ := hv
   refine ⟨fun _ => hN335.fut, ?_⟩
   replace hM := hM.call0 hN335
   refine obindE hF fun y336 hx337 hF => ?_
   refine RD.mcall rfl rfl ⟨rfl, rfl⟩ Try.func9 bd9 rfl rfl (c_docs_Trans _ other8 _ _ (hM.inp hr11 Off.nil) _ _ (hM.inp hr14 Off.nil) _ hx337) fun v w338 hv => ?_
   obtain ⟨rfl, hN339⟩ := hv
   refine ⟨fun _ => hN339.fut, ?_⟩
   replace hM := hM.call0 hN339
   refine RD.gp rfl rfl rfl rfl rfl rfl (fun w' => O.steq (cs := [v8 y50.f_Proto, v16 y50.f_Src, v16 y50.f_Dst, v32 y50.f_Seq, v32 y50.f_Ack, v8 y50.f_Flags, v16 y50.f_Window, v16 y50.f_Urgent, Value.string y50.f_Options, v8 y50.f_Type, v8 y50.f_Code, Value.string y50.f_Data]) (cs' := [v8 y336.f_Proto, v16 y336.f_Src, v16 y336.f_Dst, v32 y336.f_Seq, v32 y336.f_Ack, v8 y336.f_Flags, v16 y336.f_Window, v16 y336.f_Urgent, Value.string y336.f_Options, v8 y336.f_Type, v8 y336.f_Code, Value.string y336.f_Data]) (by kernel_rfl) rfl rfl (Q30t y50 y336 _ rfl rfl)) ?_
   refine RD.gp rfl rfl rfl rfl rfl rfl (fun w' => O.eqlb Try.underlying4 rfl rfl) ?_
   refine RD.p rfl rfl rfl rfl (fun w' => O.pickt rfl rfl) ?_
   refine RD.p rfl rfl rfl rfl (fun w' => O.move rfl) ?_
   refine RD.bcase (t := 95) rfl (fun hc => ?_) (fun hc => ?_)
   ·rw [if_pos hc] at hF
    refine RD.gq rfl rfl rfl rfl rfl rfl (fun w' hf => O.loadN (cs := [v8 s1.f_Proto, v16 s1.f_Src, v16 s1.f_Dst, v32 s1.f_Seq, v32 s1.f_Ack, v8 s1.f_Flags, v16 s1.f_Window, v16 s1.f_Urgent, .slice A2 (s1.f_Options).length c3, v8 s1.f_Type, v8 s1.f_Code, .slice A5 (s1.f_Data).length c6]) ag26 rfl (Cs.addsN [] ((hM.bx (i := 0) rfl).fut hf) rfl)) ?_
    refine RD.gq rfl rfl rfl rfl rfl rfl (fun w' hf => O.loadN (cs := [v8 s1.f_Proto, v16 s1.f_Src, v16 s1.f_Dst, v32 s1.f_Seq, v32 s1.f_Ack, v8 s1.f_Flags, v16 s1.f_Window, v16 s1.f_Urgent, .slice A2 (s1.f_Options).length c3, v8 s1.f_Type, v8 s1.f_Code, .slice A5 (s1.f_Data).length c6]) ag26 rfl (Cs.addsN [] ((hM.bx (i := 0) rfl).fut hf) rfl)) ?_
    refine obindE hF fun y340 hx341 hF => ?_
    refine RD.mcall rfl rfl ⟨rfl, rfl⟩ Try.func15 bd15 rfl rfl (c_trans_Same _ s1 _ _ (hM.inp hr4 Off.nil) _ _ (hM.inp hr7 Off.nil) s1 _ _ (hM.inp hr4 Off.nil) _ _ (hM.inp hr7 Off.nil) _ hx341) fun v w342 hv => ?_
    obtain ⟨rfl, hN343⟩ := hv
    refine ⟨fun _ => hN343.fut, ?_⟩
    replace hM := hM.call0 hN343
    refine RD.p rfl rfl rfl rfl (fun w' => O.pickt rfl rfl) ?_
    refine RD.p rfl rfl rfl rfl (fun w' => O.move rfl) ?_
    refine RD.bcase (t := 100) rfl (fun hc => ?_) (fun hc => ?_)
    ·rw [if_pos hc] at hF
     refine RD.gq rfl rfl rfl rfl rfl rfl (fun w' hf => O.loadN (cs := [v8 s1.f_Proto, v16 s1.f_Src, v16 s1.f_Dst, v32 s1.f_Seq, v32 s1.f_Ack, v8 s1.f_Flags, v16 s1.f_Window, v16 s1.f_Urgent, .slice A2 (s1.f_Options).length c3, v8 s1.f_Type, v8 s1.f_Code, .slice A5 (s1.f_Data).length c6]) ag26 rfl (Cs.addsN [] ((hM.bx (i := 0) rfl).fut hf) rfl)) ?_
     refine RD.gq rfl rfl rfl rfl rfl rfl (fun w' hf => O.loadN (cs := [v8 y50.f_Proto, v16 y50.f_Src, v16 y50.f_Dst, v32 y50.f_Seq, v32 y50.f_Ack, v8 y50.f_Flags, v16 y50.f_Window, v16 y50.f_Urgent, Value.string y50.f_Options, v8 y50.f_Type, v8 y50.f_Code, Value.string y50.f_Data]) ag30 rfl (Cs.addsN [] ((hM.bx (i := 2) rfl).fut hf) rfl)) ?_
     refine obindE hF fun y344 hx345 hF => ?_
     refine RD.mcall rfl rfl ⟨rfl, rfl⟩ Try.func9 bd9 rfl rfl (c_docs_Trans _ s1 _ _ (hM.inp hr4 Off.nil) _ _ (hM.inp hr7 Off.nil) _ hx345) fun v w346 hv => ?_
     obtain ⟨rfl, hN347⟩ := hv
     refine ⟨fun _ => hN347.fut, ?_⟩
     replace hM := hM.call0 hN347
     refine RD.gp rfl rfl rfl rfl rfl rfl (fun w' => O.steq (cs := [v8 y344.f_Proto, v16 y344.f_Src, v16 y344.f_Dst, v32 y344.f_Seq, v32 y344.f_Ack, v8 y344.f_Flags, v16 y344.f_Window, v16 y344.f_Urgent, Value.string y344.f_Options, v8 y344.f_Type, v8 y344.f_Code, Value.string y344.f_Data]) (cs' := [v8 y50.f_Proto, v16 y50.f_Src, v16 y50.f_Dst, v32 y50.f_Seq, v32 y50.f_Ack, v8 y50.f_Flags, v16 y50.f_Window, v16 y50.f_Urgent, Value.string y50.f_Options, v8 y50.f_Type, v8 y50.f_Code, Value.string y50.f_Data]) (by kernel_rfl) rfl rfl (Q30t y344 y50 _ rfl rfl)) ?_
     refine RD.p rfl rfl rfl rfl (fun w' => O.pickt rfl rfl) ?_
     refine RD.p rfl rfl rfl rfl (fun w' => O.move rfl) ?_
     refine RD.bcase (t := 106) rfl (fun hc => ?_) (fun hc => ?_)
     ·rw [if_pos hc] at hF
      refine RD.gp rfl rfl rfl rfl rfl rfl (fun w' => O.move rfl) ?_
      refine RD.gp rfl rfl rfl rfl rfl rfl (fun w' => O.move rfl) ?_
      refine obindE hF fun y348 hx349 hF => ?_
      refine RD.mcall rfl rfl ⟨rfl, rfl⟩ Try.func16 bd16 rfl rfl (c_trans_Flags _ f23 _ hx349) fun v w350 hv => ?_
      obtain ⟨rfl, hN351⟩ := hv
      refine ⟨fun _ => hN351.fut, ?_⟩
      replace hM := hM.call0 hN351
      refine obindE hF fun y352 hx353 hF => ?_
      refine RD.mcall rfl rfl ⟨rfl, rfl⟩ Try.func17 bd17 rfl rfl (c_ref07_Flags _ f23 _ hx353) fun v w354 hv => ?_
      obtain ⟨rfl, hN355⟩ := hv
      refine ⟨fun _ => hN355.fut, ?_⟩
      replace hM := hM.call0 hN355
      refine RD.gp rfl rfl rfl rfl rfl rfl (fun w' => O.streq rfl rfl) ?_
      refine RD.p rfl rfl rfl rfl (fun w' => O.pickt rfl rfl) ?_
      refine RD.p rfl rfl rfl rfl (fun w' => O.move rfl) ?_
      refine RD.bcase (t := 113) rfl (fun hc => ?_) (fun hc => ?_)
      ·rw [if_pos hc] at hF
       refine obindE hF fun y356 hx357 hF => ?_
       refine RD.mcall rfl rfl ⟨rfl, rfl⟩ Try.func8 bd8 rfl rfl (c_law07_works _ _ hx357) fun v w358 hv => ?_
       obtain ⟨rfl, hN359⟩ := hv
       refine ⟨fun _ => hN359.fut, ?_⟩
       replace hM := hM.call0 hN359
       refine RD.p rfl rfl rfl rfl (fun w' => O.pickt rfl rfl) ?_
       refine RD.p rfl rfl rfl rfl (fun w' => O.assign rfl) ?_
       refine RD.nil ?_
       refine KQ.then_k ?_
       replace hM := hM.pick [] rfl (by decide)
       exact fun a ha => ⟨y356, ha.less (less_cons rfl less_nil), hM, hF⟩
      rw [if_neg (ne_true hc)] at hF
      refine RD.gskip rfl rfl rfl rfl rfl ?_
      refine RD.p rfl rfl rfl rfl (fun w' => O.pickf rfl rfl) ?_
      refine RD.p rfl rfl rfl rfl (fun w' => O.assign rfl) ?_
      refine RD.nil ?_
      refine KQ.then_k ?_
      replace hM := hM.pick [] rfl (by decide)
      exact fun a ha => ⟨false, ha.less (less_cons rfl less_nil), hM, hF⟩
     rw [if_neg (ne_true hc)] at hF
     refine RD.brun1 [27, 29, 28, 30, 31, 32, 33, 34, 35] 115 false (by kernel_rfl) ?_
     refine RD.p rfl rfl rfl rfl (fun w' => O.assign rfl) ?_
     refine RD.nil ?_
     refine KQ.then_k ?_
     replace hM := hM.pick [] rfl (by decide)
     exact fun a ha => ⟨false, ha.less (less_cons rfl less_nil), hM, hF⟩
    rw [if_neg (ne_true hc)] at hF
    refine RD.brun1 [21, 23, 22, 24, 25, 26, 27, 29, 28, 30, 31, 32, 33, 34, 35] 115 false (by kernel_rfl) ?_
    refine RD.p rfl rfl rfl rfl (fun w' => O.assign rfl) ?_
    refine RD.nil ?_
    refine KQ.then_k ?_
    replace hM := hM.pick [] rfl (by decide)
    exact fun a ha => ⟨false, ha.less (less_cons rfl less_nil), hM, hF⟩
   rw [if_neg (ne_true hc)] at hF
   refine RD.brun1 [16, 17, 18, 19, 20, 21, 23, 22, 24, 25, 26, 27, 29, 28, 30, 31, 32, 33, 34, 35] 115 false (by kernel_rfl) ?_
   refine RD.p rfl rfl rfl rfl (fun w' => O.assign rfl) ?_
   refine RD.nil ?_
   refine KQ.then_k ?_
   replace hM := hM.pick [] rfl (by decide)
   exact fun a ha => ⟨false, ha.less (less_cons rfl less_nil), hM, hF⟩
  rw [if_neg (ne_true hc)] at hF
  refine RD.brun1 [6, 7, 9, 10, 8, 11, 12, 13, 14, 15, 16, 17, 18, 19, 20, 21, 23, 22, 24, 25, 26, 27, 29, 28, 30, 31, 32, 33, 34, 35] 115 false (by kernel_rfl) ?_
  refine RD.p rfl rfl rfl rfl (fun w' => O.assign rfl) ?_
  refine RD.nil ?_
  refine KQ.then_k ?_
  replace hM := hM.pick [] rfl (by decide)
  exact fun a ha => ⟨false, ha.less (less_cons rfl less_nil), hM, hF⟩
 rintro a w361 ⟨t360, ha, hM, hF⟩
 refine KC.app ha ?_
 clear ha
 unfold F_law07_TransPuts_j3 at hF
 refine KC.ret ?_
 have hE := Option.some.inj hF
 clear hF
 subst hE
 refine KQ.rets Try.results3 (RVs.cons (RV.tm rfl) RVs.nil) ?_
 exact ⟨_, rfl, rfl, hM⟩
end Go.Proofs.Ytcinagdkkclapaa
