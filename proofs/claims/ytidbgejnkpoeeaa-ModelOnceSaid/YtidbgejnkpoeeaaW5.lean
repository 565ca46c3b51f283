/- Printed by a program of this claim: each call returns what the plain function of its name gives. -/
import Derived.Test.YtidbgejnkpoeeaaW1
import Derived.Test.YtidbgejnkpoeeaaW3
set_option linter.unusedVariables false
namespace Go.Proofs.Ytidbgejnkpoeeaa
open Go Go.Ox Go.RowKit
set_option maxRecDepth 100000 in
set_option maxHeartbeats 40000000 in
theorem c_flow_Record_Right (w : World) (rv1 : T_flow_Record) (r : Bool) (hF : F_flow_Record_Right rv1 = some r) :
  CallsR Try.prog 57 [.agg #[vB rv1.f_Key.f_Src.f_Six, o8 rv1.f_Key.f_Src.f_B 0, o8 rv1.f_Key.f_Src.f_B 1, o8 rv1.f_Key.f_Src.f_B 2, o8 rv1.f_Key.f_Src.f_B 3, o8 rv1.f_Key.f_Src.f_B 4, o8 rv1.f_Key.f_Src.f_B 5, o8 rv1.f_Key.f_Src.f_B 6, o8 rv1.f_Key.f_Src.f_B 7, o8 rv1.f_Key.f_Src.f_B 8, o8 rv1.f_Key.f_Src.f_B 9, o8 rv1.f_Key.f_Src.f_B 10, o8 rv1.f_Key.f_Src.f_B 11, o8 rv1.f_Key.f_Src.f_B 12, o8 rv1.f_Key.f_Src.f_B 13, o8 rv1.f_Key.f_Src.f_B 14, o8 rv1.f_Key.f_Src.f_B 15, vB rv1.f_Key.f_Dst.f_Six, o8 rv1.f_Key.f_Dst.f_B 0, o8 rv1.f_Key.f_Dst.f_B 1, o8 rv1.f_Key.f_Dst.f_B 2, o8 rv1.f_Key.f_Dst.f_B 3, o8 rv1.f_Key.f_Dst.f_B 4, o8 rv1.f_Key.f_Dst.f_B 5, o8 rv1.f_Key.f_Dst.f_B 6, o8 rv1.f_Key.f_Dst.f_B 7, o8 rv1.f_Key.f_Dst.f_B 8, o8 rv1.f_Key.f_Dst.f_B 9, o8 rv1.f_Key.f_Dst.f_B 10, o8 rv1.f_Key.f_Dst.f_B 11, o8 rv1.f_Key.f_Dst.f_B 12, o8 rv1.f_Key.f_Dst.f_B 13, o8 rv1.f_Key.f_Dst.f_B 14, o8 rv1.f_Key.f_Dst.f_B 15, v8 rv1.f_Key.f_Proto, v16 rv1.f_Key.f_SrcPort, v16 rv1.f_Key.f_DstPort, v64 rv1.f_Packets, v64 rv1.f_Bytes, v64 rv1.f_First, v64 rv1.f_Last, v8 rv1.f_Flags, v8 rv1.f_Reason, v8 rv1.f_Class]] w (fun v w' => v = vB r ∧ Mem w [] w' []) := by
 refine calls_KC Try.func57 rfl Try.ntmps57 rfl ?_
 have hM := Mem.init w
 unfold F_flow_Record_Right at hF
 refine sr fun Q2 hQ2 => ?_
 refine RL.eff (E.box (vs := [vB rv1.f_Key.f_Src.f_Six, o8 rv1.f_Key.f_Src.f_B 0, o8 rv1.f_Key.f_Src.f_B 1, o8 rv1.f_Key.f_Src.f_B 2, o8 rv1.f_Key.f_Src.f_B 3, o8 rv1.f_Key.f_Src.f_B 4, o8 rv1.f_Key.f_Src.f_B 5, o8 rv1.f_Key.f_Src.f_B 6, o8 rv1.f_Key.f_Src.f_B 7, o8 rv1.f_Key.f_Src.f_B 8, o8 rv1.f_Key.f_Src.f_B 9, o8 rv1.f_Key.f_Src.f_B 10, o8 rv1.f_Key.f_Src.f_B 11, o8 rv1.f_Key.f_Src.f_B 12, o8 rv1.f_Key.f_Src.f_B 13, o8 rv1.f_Key.f_Src.f_B 14, o8 rv1.f_Key.f_Src.f_B 15, vB rv1.f_Key.f_Dst.f_Six, o8 rv1.f_Key.f_Dst.f_B 0, o8 rv1.f_Key.f_Dst.f_B 1, o8 rv1.f_Key.f_Dst.f_B 2, o8 rv1.f_Key.f_Dst.f_B 3, o8 rv1.f_Key.f_Dst.f_B 4, o8 rv1.f_Key.f_Dst.f_B 5, o8 rv1.f_Key.f_Dst.f_B 6, o8 rv1.f_Key.f_Dst.f_B 7, o8 rv1.f_Key.f_Dst.f_B 8, o8 rv1.f_Key.f_Dst.f_B 9, o8 rv1.f_Key.f_Dst.f_B 10, o8 rv1.f_Key.f_Dst.f_B 11, o8 rv1.f_Key.f_Dst.f_B 12, o8 rv1.f_Key.f_Dst.f_B 13, o8 rv1.f_Key.f_Dst.f_B 14, o8 rv1.f_Key.f_Dst.f_B 15, v8 rv1.f_Key.f_Proto, v16 rv1.f_Key.f_SrcPort, v16 rv1.f_Key.f_DstPort, v64 rv1.f_Packets, v64 rv1.f_Bytes, v64 rv1.f_First, v64 rv1.f_Last, v8 rv1.f_Flags, v8 rv1.f_Reason, v8 rv1.f_Class]) hM rfl rfl) rfl fun v w4 hv => ?_
 clear hM
 obtain ⟨g3, rfl, hM, hf⟩ := hv
 refine va rfl rfl ?_
 refine nt hQ2 ?_
 clear hQ2 Q2
 refine KC.cut (fun a w11 => ∃ (t10 : Bool), Kn 28 [(2, vB t10)] a ∧ Mem w [] w11 [] ∧ F_flow_Record_Right_j1 t10 = some r) ?_ ?_
 ·refine KC.region ?_
  refine RL.val (O.fldA fl50_0 (by decide) rfl) rfl ?_
  refine RL.val (O.loadN (cs := [vB rv1.f_Key.f_Src.f_Six, o8 rv1.f_Key.f_Src.f_B 0, o8 rv1.f_Key.f_Src.f_B 1, o8 rv1.f_Key.f_Src.f_B 2, o8 rv1.f_Key.f_Src.f_B 3, o8 rv1.f_Key.f_Src.f_B 4, o8 rv1.f_Key.f_Src.f_B 5, o8 rv1.f_Key.f_Src.f_B 6, o8 rv1.f_Key.f_Src.f_B 7, o8 rv1.f_Key.f_Src.f_B 8, o8 rv1.f_Key.f_Src.f_B 9, o8 rv1.f_Key.f_Src.f_B 10, o8 rv1.f_Key.f_Src.f_B 11, o8 rv1.f_Key.f_Src.f_B 12, o8 rv1.f_Key.f_Src.f_B 13, o8 rv1.f_Key.f_Src.f_B 14, o8 rv1.f_Key.f_Src.f_B 15, vB rv1.f_Key.f_Dst.f_Six, o8 rv1.f_Key.f_Dst.f_B 0, o8 rv1.f_Key.f_Dst.f_B 1, o8 rv1.f_Key.f_Dst.f_B 2, o8 rv1.f_Key.f_Dst.f_B 3, o8 rv1.f_Key.f_Dst.f_B 4, o8 rv1.f_Key.f_Dst.f_B 5, o8 rv1.f_Key.f_Dst.f_B 6, o8 rv1.f_Key.f_Dst.f_B 7, o8 rv1.f_Key.f_Dst.f_B 8, o8 rv1.f_Key.f_Dst.f_B 9, o8 rv1.f_Key.f_Dst.f_B 10, o8 rv1.f_Key.f_Dst.f_B 11, o8 rv1.f_Key.f_Dst.f_B 12, o8 rv1.f_Key.f_Dst.f_B 13, o8 rv1.f_Key.f_Dst.f_B 14, o8 rv1.f_Key.f_Dst.f_B 15, v8 rv1.f_Key.f_Proto, v16 rv1.f_Key.f_SrcPort, v16 rv1.f_Key.f_DstPort]) ag34 rfl (Cs.addsN [0] ((hM.bx (i := 0) rfl)) rfl)) rfl ?_
  refine obindE hF fun y6 hx7 hF => ?_
  refine RL.call Try.func36 bd36 rfl rfl (c_packet_Key_Right _ rv1.f_Key _ hx7) fun v w8 hv => ?_
  obtain ⟨rfl, hN9⟩ := hv
  replace hM := hM.call0 hN9
  refine vm rfl rfl ?_
  refine RL.bcase (t := 6) rfl (fun hc => ?_) (fun hc => ?_)
  ·rw [if_pos hc] at hF
   refine RL.gval rfl rfl (O.fldA fl50_1 (by decide) rfl) rfl ?_
   refine RL.gval rfl rfl (O.load sc35 rfl (Cs.adds [37] ((hM.bx (i := 0) rfl)) rfl)) rfl ?_
   refine RL.gval rfl rfl (O.gtr rfl rfl) rfl ?_
   refine RL.val (O.pickt rfl rfl) rfl ?_
   refine vm rfl rfl ?_
   refine RL.bcase (t := 11) rfl (fun hc => ?_) (fun hc => ?_)
   ·rw [if_pos hc] at hF
    refine RL.gval rfl rfl (O.fldA fl50_3 (by decide) rfl) rfl ?_
    refine RL.gval rfl rfl (O.load sc35 rfl (Cs.adds [39] ((hM.bx (i := 0) rfl)) rfl)) rfl ?_
    refine RL.gval rfl rfl (O.fldA fl50_4 (by decide) rfl) rfl ?_
    refine RL.gval rfl rfl (O.load sc35 rfl (Cs.adds [40] ((hM.bx (i := 0) rfl)) rfl)) rfl ?_
    refine RL.gval rfl rfl (O.leq rfl rfl) rfl ?_
    refine RL.val (O.pickt rfl rfl) rfl ?_
    refine vm rfl rfl ?_
    refine RL.bcase (t := 18) rfl (fun hc => ?_) (fun hc => ?_)
    ·rw [if_pos hc] at hF
     refine RL.gval rfl rfl (O.fldA fl50_6 (by decide) rfl) rfl ?_
     refine RL.gval rfl rfl (O.load sc5 rfl (Cs.adds [42] ((hM.bx (i := 0) rfl)) rfl)) rfl ?_
     refine RL.gval rfl rfl (O.geq rfl rfl) rfl ?_
     refine RL.val (O.pickt rfl rfl) rfl ?_
     refine vm rfl rfl ?_
     refine RL.bcase (t := 23) rfl (fun hc => ?_) (fun hc => ?_)
     ·rw [if_pos hc] at hF
      refine RL.gval rfl rfl (O.fldA fl50_6 (by decide) rfl) rfl ?_
      refine RL.gval rfl rfl (O.load sc5 rfl (Cs.adds [42] ((hM.bx (i := 0) rfl)) rfl)) rfl ?_
      refine RL.gval rfl rfl (O.leq rfl rfl) rfl ?_
      refine RL.val (O.pickt rfl rfl) rfl ?_
      refine va rfl rfl ?_
      refine RL.nil ?_
      refine KQ.then_k ?_
      replace hM := hM.pick [] rfl (by decide)
      exact fun a ha => ⟨(decide (rv1.f_Reason ≤ 5)), ha.less (less_cons rfl less_nil), hM, hF⟩
     rw [if_neg (ne_true hc)] at hF
     refine RL.brun1 4 27 false (by kernel_rfl) ?_
     refine va rfl rfl ?_
     refine RL.nil ?_
     refine KQ.then_k ?_
     replace hM := hM.pick [] rfl (by decide)
     exact fun a ha => ⟨false, ha.less (less_cons rfl less_nil), hM, hF⟩
    rw [if_neg (ne_true hc)] at hF
    refine RL.brun1 9 27 false (by kernel_rfl) ?_
    refine va rfl rfl ?_
    refine RL.nil ?_
    refine KQ.then_k ?_
    replace hM := hM.pick [] rfl (by decide)
    exact fun a ha => ⟨false, ha.less (less_cons rfl less_nil), hM, hF⟩
   rw [if_neg (ne_true hc)] at hF
   refine RL.brun1 16 27 false (by kernel_rfl) ?_
   refine va rfl rfl ?_
   refine RL.nil ?_
   refine KQ.then_k ?_
   replace hM := hM.pick [] rfl (by decide)
   exact fun a ha => ⟨false, ha.less (less_cons rfl less_nil), hM, hF⟩
  rw [if_neg (ne_true hc)] at hF
  refine RL.brun1 21 27 false (by kernel_rfl) ?_
  refine va rfl rfl ?_
  refine RL.nil ?_
  refine KQ.then_k ?_
  replace hM := hM.pick [] rfl (by decide)
  exact fun a ha => ⟨false, ha.less (less_cons rfl less_nil), hM, hF⟩
 rintro a w11 ⟨t10, ha, hM, hF⟩
 refine KC.app ha ?_
 clear ha
 unfold F_flow_Record_Right_j1 at hF
 refine KC.ret ?_
 have hE := Option.some.inj hF
 clear hF
 subst hE
 refine KQ.rets Try.results57 (RVs.cons (RV.tm rfl) RVs.nil) ?_
 exact ⟨_, rfl, rfl, hM⟩
set_option maxRecDepth 100000 in
set_option maxHeartbeats 40000000 in
theorem c_model_Model_next (w : World) (m4 : T_model_Model) (g5 : Nat) (hm6 : MR62 g5 m4.f_forwarded w) (g7 : Nat) (hm8 : MR62 g7 m4.f_cached w) (g9 : Nat) (hm10 : MR62 g9 m4.f_lost w) (A11 : Option Addr) (c12 : Nat) (hr13 : RdD R_model_Entry [] w A11 c12 6 m4.f_entries) (A14 : Option Addr) (c15 : Nat) (hr16 : Rd w A14 c15 1 m4.f_line.length (m4.f_line.flatMap (eI .i64))) (g1 : Nat) (hC2 : Cs w ⟨g1, 0, none⟩ [.map (some g5), .map (some g7), .map (some g9), .slice A11 (m4.f_entries).length c12, .slice A14 (m4.f_line).length c15, v64 m4.f_first, v32 m4.f_boot]) (r : Int) (hF : F_model_Model_next m4 = some r) :
  CallsR Try.prog 33 [.pointer (some ⟨g1, 0, none⟩)] w (fun v w' => v = v64 r ∧ Mem w [] w' []) := by
 refine calls_KC Try.func33 rfl Try.ntmps33 rfl ?_
 have hM := Mem.init w
 unfold F_model_Model_next at hF
 refine sr fun Q17 hQ17 => ?_
 refine va rfl rfl ?_
 refine nt hQ17 ?_
 clear hQ17 Q17
 refine sr fun Q18 hQ18 => ?_
 refine vm rfl rfl ?_
 refine RL.val (O.nilp rfl) rfl ?_
 refine RL.val (O.fldA fl65_4 (by decide) rfl) rfl ?_
 refine RL.val (O.load sc63 rfl (Cs.adds [4] ((hC2.fut hM.chg)) rfl)) rfl ?_
 refine RL.val (O.len sl63 rfl) rfl ?_
 refine RL.val (O.conv un3 Try.underlying35 rfl) rfl ?_
 refine va rfl rfl ?_
 refine nt hQ18 ?_
 clear hQ18 Q18
 refine KC.ret ?_
 have hE := Option.some.inj hF
 clear hF
 subst hE
 refine KQ.rets Try.results33 (RVs.cons (RV.tm rfl) RVs.nil) ?_
 exact ⟨_, rfl, rfl, hM⟩
set_option maxRecDepth 100000 in
set_option maxHeartbeats 40000000 in
theorem c_slices_Clone_flow_Record_flow_Record (w : World) (A2 : Option Addr) (c3 : Nat) (s1 : List T_flow_Record) (hr4 : Rd w A2 c3 44 s1.length (s1.flatMap e_flow_Record)) (r : (List T_flow_Record)) (hF : F_slices_Clone_flow_Record_flow_Record s1 = some r) :
  CallsR Try.prog 46 [.slice A2 (s1).length c3] w (fun v w' => ∃ (Ar0 : Option Addr) (cr0 : Nat), v = .slice Ar0 (r).length cr0 ∧ Mem w [] w' [.row Ar0 cr0 50 44 r.length (r.flatMap e_flow_Record)]) := by
 refine calls_KC Try.func46 rfl Try.ntmps46 rfl ?_
 have hM := Mem.init w
 unfold F_slices_Clone_flow_Record_flow_Record at hF
 refine sr fun Q5 hQ5 => ?_
 refine va rfl rfl ?_
 refine nt hQ5 ?_
 clear hQ5 Q5
 refine KC.seqH fun Q6 hQ6 => ?_
 refine sr fun Q7 hQ7 => ?_
 refine vm rfl rfl ?_
 refine RL.val (O.sleqn sl38 rfl rfl) rfl ?_
 refine nt hQ7 ?_
 clear hQ7 Q7
 refine KC.cond rfl (fun hc => ?_) (fun hc => ?_)
 ·have hz8 := Rd.none_nil (hM.inp hr4 Off.nil) (hc)
  have hF : (some ([])) = some r := by (rw [hz8] at hF; simpa [lim] using hF)
  refine sr fun Q9 hQ9 => ?_
  refine va rfl rfl ?_
  refine nt hQ9 ?_
  clear hQ9 Q9
  refine KC.ret ?_
  refine KQ.thr hQ6 ?_
  clear hQ6 Q6
  have hE := Option.some.inj hF
  clear hF
  subst hE
  replace hM := hM.nilrow 50 44
  refine KQ.rets Try.results46 (RVs.cons (RV.tm rfl) RVs.nil) ?_
  exact ⟨_, rfl, none, 0, rfl, hM⟩
 refine KC.skip ?_
 refine KQ.thn hQ6 ?_
 clear hQ6 Q6
 refine sr fun Q10 hQ10 => ?_
 refine RL.eff (E.bsl0 hM sl38) rfl fun v w11 hv => ?_
 clear hM
 obtain ⟨A12, rfl, hM, hf⟩ := hv
 refine vm rfl rfl ?_
 refine cut_someE hF fun hq17 hF => ?_
 refine RL.eff (E.app (enc := e_flow_Record) (xs := ([] : List T_flow_Record)) (ys := s1) (j := 0) hM rfl sl38 ze50 rfl rfl rfl rfl rfl (hM.inp hr4 Off.nil) (fun _ => One.all rfl) (of_decide_eq_true hq17)) rfl fun v w16 hv => ?_
 clear hM
 obtain ⟨A14, c15, rfl, hM, hf⟩ := hv
 refine va rfl rfl ?_
 refine nt hQ10 ?_
 clear hQ10 Q10
 refine KC.ret ?_
 have hE := Option.some.inj hF
 clear hF
 subst hE
 refine KQ.rets Try.results46 (RVs.cons (RV.tm rfl) RVs.nil) ?_
 exact ⟨_, rfl, A14, c15, rfl, hM⟩
set_option maxRecDepth 100000 in
set_option maxHeartbeats 40000000 in
theorem c_model_Entry_copied (w : World) (ev1 : T_model_Entry) (A2 : Option Addr) (c3 : Nat) (hr4 : Rd w A2 c3 44 ev1.f_Records.length (ev1.f_Records.flatMap e_flow_Record)) (r : T_model_Entry) (hF : F_model_Entry_copied ev1 = some r) :
  CallsR Try.prog 27 [.agg #[v32 ev1.f_Epoch, v64 ev1.f_N, .slice A2 (ev1.f_Records).length c3, vB ev1.f_There, vB ev1.f_Synced, vB ev1.f_Credited]] w (fun v w' => ∃ (Ar0 : Option Addr) (cr0 : Nat), v = .agg #[v32 r.f_Epoch, v64 r.f_N, .slice Ar0 (r.f_Records).length cr0, vB r.f_There, vB r.f_Synced, vB r.f_Credited] ∧ Mem w [] w' [.row Ar0 cr0 50 44 r.f_Records.length (r.f_Records.flatMap e_flow_Record)]) := by
 refine calls_KC Try.func27 rfl Try.ntmps27 rfl ?_
 have hM := Mem.init w
 unfold F_model_Entry_copied at hF
 refine sr fun Q5 hQ5 => ?_
 refine RL.eff (E.box (vs := [v32 ev1.f_Epoch, v64 ev1.f_N, .slice A2 (ev1.f_Records).length c3, vB ev1.f_There, vB ev1.f_Synced, vB ev1.f_Credited]) hM rfl rfl) rfl fun v w7 hv => ?_
 clear hM
 obtain ⟨g6, rfl, hM, hf⟩ := hv
 refine RL.eff (E.alloc hM ze47) rfl fun v w10 hv => ?_
 clear hM
 obtain ⟨g9, rfl, hM, hf⟩ := hv
 refine nt hQ5 ?_
 clear hQ5 Q5
 refine sr fun Q12 hQ12 => ?_
 refine RL.val (O.fldA fl47_2 (by decide) rfl) rfl ?_
 refine RL.val (O.load sc38 rfl (Cs.adds [2] ((hM.bx (i := 0) rfl)) rfl)) rfl ?_
 refine obindE hF fun y13 hx14 hF => ?_
 refine RL.call Try.func46 bd46 rfl rfl (c_slices_Clone_flow_Record_flow_Record _ _ _ ev1.f_Records (hM.inp hr4 Off.nil) _ hx14) fun v w15 hv => ?_
 obtain ⟨A17, c18, rfl, hN16⟩ := hv
 replace hM := hM.call hN16
 refine RL.val (O.fldA fl47_2 (by decide) rfl) rfl ?_
 refine RL.effs (E.stB (j := 0) (off := 2) (vs := [.slice A17 (y13).length c18]) (cs' := [v32 ev1.f_Epoch, v64 ev1.f_N, .slice A17 (y13).length c18, vB ev1.f_There, vB ev1.f_Synced, vB ev1.f_Credited]) hM rfl sz38 rfl (adds_eq [2] rfl) rfl rfl (One.all rfl) rfl rfl) fun w20 hM1 => ?_
 clear hM
 have hM := hM1
 clear hM1
 refine nt hQ12 ?_
 clear hQ12 Q12
 refine sr fun Q21 hQ21 => ?_
 refine RL.val (O.loadN (cs := [v32 ev1.f_Epoch, v64 ev1.f_N, .slice A17 (y13).length c18, vB ev1.f_There, vB ev1.f_Synced, vB ev1.f_Credited]) ag47 rfl (Cs.addsN [] ((hM.bx (i := 0) rfl)) rfl)) rfl ?_
 refine RL.effs (E.stB (j := 1) (off := 0) (vs := [v32 ev1.f_Epoch, v64 ev1.f_N, .slice A17 (y13).length c18, vB ev1.f_There, vB ev1.f_Synced, vB ev1.f_Credited]) (cs' := [v32 ev1.f_Epoch, v64 ev1.f_N, .slice A17 (y13).length c18, vB ev1.f_There, vB ev1.f_Synced, vB ev1.f_Credited]) hM rfl sz47 rfl (adds_eq [] rfl) rfl rfl (One.all rfl) rfl rfl) fun w22 hM1 => ?_
 clear hM
 have hM := hM1
 clear hM1
 refine nt hQ21 ?_
 clear hQ21 Q21
 refine KC.ret ?_
 have hE := Option.some.inj hF
 clear hF
 subst hE
 have hb23 := hM.bx (i := 1) rfl
 replace hM := hM.pick [2] rfl (by decide)
 refine KQ.rets Try.results27 (RVs.cons (RV.cN (cs := [v32 ev1.f_Epoch, v64 ev1.f_N, .slice A17 (y13).length c18, vB ev1.f_There, vB ev1.f_Synced, vB ev1.f_Credited]) rfl ag47 hb23) RVs.nil) ?_
 exact ⟨_, rfl, A17, c18, rfl, hM⟩
end Go.Proofs.Ytidbgejnkpoeeaa
