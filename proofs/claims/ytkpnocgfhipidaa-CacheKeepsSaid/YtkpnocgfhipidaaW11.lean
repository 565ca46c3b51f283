/- Printed by a program of this claim: each call returns what the plain function of its name gives. -/
import Derived.Test.YtkpnocgfhipidaaW1
import Derived.Test.YtkpnocgfhipidaaW3
import Derived.Test.YtkpnocgfhipidaaW5
import Derived.Test.YtkpnocgfhipidaaW8
import Derived.Test.YtkpnocgfhipidaaSrt
set_option linter.unusedVariables false
namespace Go.Proofs.Ytkpnocgfhipidaa
open Go Go.Ox Go.RowKit
set_option maxRecDepth 100000 in
set_option maxHeartbeats 40000000 in
theorem c_kit_Pick (w : World) (i1 : Int) (nv2 : Int) (r : Int) (hF : F_kit_Pick i1 nv2 = some r) :
  CallsR Try.prog 10 [vI i1, vI nv2] w (fun v w' => v = vI r ∧ Mem w [] w' []) := by
 refine calls_KC Try.func10 rfl Try.ntmps10 rfl ?_
 have hM := Mem.init w
 unfold F_kit_Pick at hF
 refine sr fun Q3 hQ3 => ?_
 refine va rfl rfl ?_
 refine nt hQ3 ?_
 clear hQ3 Q3
 refine KC.seqH fun Q4 hQ4 => ?_
 refine sr fun Q5 hQ5 => ?_
 refine vm rfl rfl ?_
 refine RL.val (O.leq rfl rfl) rfl ?_
 refine nt hQ5 ?_
 clear hQ5 Q5
 refine KC.cond rfl (fun hc => ?_) (fun hc => ?_)
 ·rw [if_pos hc] at hF
  refine sr fun Q6 hQ6 => ?_
  refine va rfl rfl ?_
  refine nt hQ6 ?_
  clear hQ6 Q6
  refine KC.ret ?_
  refine KQ.thr hQ4 ?_
  clear hQ4 Q4
  have hE := Option.some.inj hF
  clear hF
  subst hE
  refine KQ.rets Try.results10 (RVs.cons (RV.tm rfl) RVs.nil) ?_
  exact ⟨_, rfl, rfl, hM⟩
 rw [if_neg (ne_true hc)] at hF
 refine KC.skip ?_
 refine KQ.thn hQ4 ?_
 clear hQ4 Q4
 refine sr fun Q7 hQ7 => ?_
 refine vm rfl rfl ?_
 refine vm rfl rfl ?_
 refine cut_someE hF fun hq8 hF => ?_
 refine RL.val (O.rem rfl rfl (of_decide_eq_true hq8)) rfl ?_
 refine vm rfl rfl ?_
 refine RL.val (O.add rfl rfl) rfl ?_
 refine vm rfl rfl ?_
 refine cut_someE hF fun hq9 hF => ?_
 refine RL.val (O.rem rfl rfl (of_decide_eq_true hq9)) rfl ?_
 refine va rfl rfl ?_
 refine nt hQ7 ?_
 clear hQ7 Q7
 refine KC.ret ?_
 have hE := Option.some.inj hF
 clear hF
 subst hE
 refine KQ.rets Try.results10 (RVs.cons (RV.tm rfl) RVs.nil) ?_
 exact ⟨_, rfl, rfl, hM⟩
set_option maxRecDepth 100000 in
set_option maxHeartbeats 40000000 in
theorem c_slices_AppendSeq_flow_Record_flow_Record_Zfslices_Values_flow_Record_flow_Record_1 (w : World) (g2 : Nat) (tg8 : TypeId) (seq1 : List T_flow_Record) (A4 : Option Addr) (c5 : Nat) (hL9 : Lent w [.box g2 tg8 [.slice A4 (seq1).length c5]]) (hr6 : Rd w A4 c5 44 seq1.length (seq1.flatMap e_flow_Record)) (ho7 : Off [some g2] seq1.length A4) (r : (List T_flow_Record) × (List T_flow_Record)) (hF : F_slices_AppendSeq_flow_Record_flow_Record_Zfslices_Values_flow_Record_flow_Record_1 seq1 = some r) :
  CallsR Try.prog 77 [.slice none 0 0, .func (.func 63) #[] #[.pointer (some ⟨g2, 0, none⟩)]] w (fun v w' => ∃ (A1 : Option Addr) (c1 : Nat), v = .slice A1 (r.1).length c1 ∧ (r.2 = seq1) ∧ Mem w [some g2] w' [.box g2 tg8 [.slice A4 (r.2).length c5], .row A1 c1 46 44 r.1.length (r.1.flatMap e_flow_Record)]) := by
 refine calls_KCM Try.func77 rfl Try.ntmps77 rfl ?_
 have hM : Mem w [some g2] w [.box g2 tg8 [.slice A4 (seq1).length c5]] := Mem.lendN hL9
 unfold F_slices_AppendSeq_flow_Record_flow_Record_Zfslices_Values_flow_Record_flow_Record_1 at hF
 refine sr fun Q10 hQ10 => ?_
 refine RL.eff (E.box (vs := [.slice none 0 0]) hM rfl rfl) rfl fun v w12 hv => ?_
 clear hM
 obtain ⟨g11, rfl, hM, hf⟩ := hv
 refine va rfl rfl ?_
 refine nt hQ10 ?_
 clear hQ10 Q10
 refine KC.seqH fun Q14 hQ14 => ?_
 refine sr fun Q15 hQ15 => ?_
 refine vm rfl rfl ?_
 refine nt hQ15 ?_
 clear hQ15 Q15
 refine KC.block ?_
 refine KC.range (lb := [.pointer (some ⟨g2, 0, none⟩)]) hM rfl Try.func63 bd63 rfl Try.ntmps63 rfl fun a16 rc18 l20 D21 w22 ha17 hrc19 hM1 hf23 => ?_
 clear hM
 have hM := hM1
 clear hM1
 refine sr fun Q26 hQ26 => ?_
 refine RL.val (O.load sc41 rfl (Cs.adds [] ((hM.bx (i := 0) rfl)) rfl)) rfl ?_
 refine RL.val (O.len sl41 rfl) rfl ?_
 refine vm rfl rfl ?_
 refine nt hQ26 ?_
 clear hQ26 Q26
 refine KC.block ?_
 refine KC.loop (fun k105 a w103 => ∃ (A100 : Option Addr) (c101 : Nat) (t97 : Int) (t102 : List T_flow_Record), Kn 16 [(0, .func (.yield l20) #[] #[]), (5, .slice A4 (seq1).length c5), (6, vI (seq1.length : Int)), (7, vI t97)] a ∧ Mem w [some g2] w103 [.box g2 tg8 [.slice A4 (seq1).length c5], .res [D21] (DefAt D21), .res [l20] (LoopAt l20 rc18 .ready none), .row A100 c101 46 44 (t102).length ((t102).flatMap e_flow_Record), .box g11 41 [.slice A100 (t102).length c101]] ∧ F_slices_AppendSeq_flow_Record_flow_Record_Zfslices_Values_flow_Record_flow_Record_1_L1 seq1 k105 t97 t102 = some r) ?_ ?_
 ·replace hM := hM.nilrow 46 44
  replace hM := hM.pick [0, 2, 3, 4, 1] rfl (by decide)
  exact fun a ha => ⟨fuel0, none, 0, 0, ([]), ha.less (less_cons rfl (less_cons rfl (less_cons rfl (less_cons rfl less_nil)))), hM, hF⟩
 rintro k105 a w103 ⟨A100, c101, t97, t102, ha, hM, hF⟩
 refine KC.app ha ?_
 clear ha
 cases k105 with
 | zero => exact (none_some hF).elim
 | succ k105 =>
 have hF : F_slices_AppendSeq_flow_Record_flow_Record_Zfslices_Values_flow_Record_flow_Record_1_l1 (F_slices_AppendSeq_flow_Record_flow_Record_Zfslices_Values_flow_Record_flow_Record_1_L1 seq1 k105) seq1 t97 t102 = some r := hF
 unfold F_slices_AppendSeq_flow_Record_flow_Record_Zfslices_Values_flow_Record_flow_Record_1_l1 at hF
 refine sr fun Q106 hQ106 => ?_
 refine RL.val (O.lss rfl rfl) rfl ?_
 refine nt hQ106 ?_
 clear hQ106 Q106
 refine KC.seqH fun Q107 hQ107 => ?_
 refine KC.cond rfl (fun hc => ?_) (fun hc => ?_)
 ·rw [if_pos hc] at hF
  refine KC.skip ?_
  refine KQ.thn hQ107 ?_
  clear hQ107 Q107
  refine KC.seqH fun Q108 hQ108 => ?_
  refine KC.block ?_
  refine sr fun Q109 hQ109 => ?_
  refine obindE hF fun xv112 hx111 hF => ?_
  have hA110 := Rd.atN (f := e_flow_Record) (s := 44) (fun _ => rfl) (by decide) (hM.inp hr6 ho7) hx111
  refine RL.val (O.idxA sl41 (hA110) rfl rfl) rfl ?_
  refine RL.val (O.loadN (cs := [vB xv112.f_Key.f_Src.f_Six, o8 xv112.f_Key.f_Src.f_B 0, o8 xv112.f_Key.f_Src.f_B 1, o8 xv112.f_Key.f_Src.f_B 2, o8 xv112.f_Key.f_Src.f_B 3, o8 xv112.f_Key.f_Src.f_B 4, o8 xv112.f_Key.f_Src.f_B 5, o8 xv112.f_Key.f_Src.f_B 6, o8 xv112.f_Key.f_Src.f_B 7, o8 xv112.f_Key.f_Src.f_B 8, o8 xv112.f_Key.f_Src.f_B 9, o8 xv112.f_Key.f_Src.f_B 10, o8 xv112.f_Key.f_Src.f_B 11, o8 xv112.f_Key.f_Src.f_B 12, o8 xv112.f_Key.f_Src.f_B 13, o8 xv112.f_Key.f_Src.f_B 14, o8 xv112.f_Key.f_Src.f_B 15, vB xv112.f_Key.f_Dst.f_Six, o8 xv112.f_Key.f_Dst.f_B 0, o8 xv112.f_Key.f_Dst.f_B 1, o8 xv112.f_Key.f_Dst.f_B 2, o8 xv112.f_Key.f_Dst.f_B 3, o8 xv112.f_Key.f_Dst.f_B 4, o8 xv112.f_Key.f_Dst.f_B 5, o8 xv112.f_Key.f_Dst.f_B 6, o8 xv112.f_Key.f_Dst.f_B 7, o8 xv112.f_Key.f_Dst.f_B 8, o8 xv112.f_Key.f_Dst.f_B 9, o8 xv112.f_Key.f_Dst.f_B 10, o8 xv112.f_Key.f_Dst.f_B 11, o8 xv112.f_Key.f_Dst.f_B 12, o8 xv112.f_Key.f_Dst.f_B 13, o8 xv112.f_Key.f_Dst.f_B 14, o8 xv112.f_Key.f_Dst.f_B 15, v8 xv112.f_Key.f_Proto, v16 xv112.f_Key.f_SrcPort, v16 xv112.f_Key.f_DstPort, v64 xv112.f_Packets, v64 xv112.f_Bytes, v64 xv112.f_First, v64 xv112.f_Last, v8 xv112.f_Flags, v8 xv112.f_Reason, v8 xv112.f_Class]) ag46 rfl (hA110).cells) rfl ?_
  refine RL.eff (E.alloc hM ze46) rfl fun v w114 hv => ?_
  clear hM
  obtain ⟨g113, rfl, hM, hf⟩ := hv
  refine RL.effs (E.stB (j := 5) (off := 0) (vs := [vB xv112.f_Key.f_Src.f_Six, o8 xv112.f_Key.f_Src.f_B 0, o8 xv112.f_Key.f_Src.f_B 1, o8 xv112.f_Key.f_Src.f_B 2, o8 xv112.f_Key.f_Src.f_B 3, o8 xv112.f_Key.f_Src.f_B 4, o8 xv112.f_Key.f_Src.f_B 5, o8 xv112.f_Key.f_Src.f_B 6, o8 xv112.f_Key.f_Src.f_B 7, o8 xv112.f_Key.f_Src.f_B 8, o8 xv112.f_Key.f_Src.f_B 9, o8 xv112.f_Key.f_Src.f_B 10, o8 xv112.f_Key.f_Src.f_B 11, o8 xv112.f_Key.f_Src.f_B 12, o8 xv112.f_Key.f_Src.f_B 13, o8 xv112.f_Key.f_Src.f_B 14, o8 xv112.f_Key.f_Src.f_B 15, vB xv112.f_Key.f_Dst.f_Six, o8 xv112.f_Key.f_Dst.f_B 0, o8 xv112.f_Key.f_Dst.f_B 1, o8 xv112.f_Key.f_Dst.f_B 2, o8 xv112.f_Key.f_Dst.f_B 3, o8 xv112.f_Key.f_Dst.f_B 4, o8 xv112.f_Key.f_Dst.f_B 5, o8 xv112.f_Key.f_Dst.f_B 6, o8 xv112.f_Key.f_Dst.f_B 7, o8 xv112.f_Key.f_Dst.f_B 8, o8 xv112.f_Key.f_Dst.f_B 9, o8 xv112.f_Key.f_Dst.f_B 10, o8 xv112.f_Key.f_Dst.f_B 11, o8 xv112.f_Key.f_Dst.f_B 12, o8 xv112.f_Key.f_Dst.f_B 13, o8 xv112.f_Key.f_Dst.f_B 14, o8 xv112.f_Key.f_Dst.f_B 15, v8 xv112.f_Key.f_Proto, v16 xv112.f_Key.f_SrcPort, v16 xv112.f_Key.f_DstPort, v64 xv112.f_Packets, v64 xv112.f_Bytes, v64 xv112.f_First, v64 xv112.f_Last, v8 xv112.f_Flags, v8 xv112.f_Reason, v8 xv112.f_Class]) (cs' := [vB xv112.f_Key.f_Src.f_Six, o8 xv112.f_Key.f_Src.f_B 0, o8 xv112.f_Key.f_Src.f_B 1, o8 xv112.f_Key.f_Src.f_B 2, o8 xv112.f_Key.f_Src.f_B 3, o8 xv112.f_Key.f_Src.f_B 4, o8 xv112.f_Key.f_Src.f_B 5, o8 xv112.f_Key.f_Src.f_B 6, o8 xv112.f_Key.f_Src.f_B 7, o8 xv112.f_Key.f_Src.f_B 8, o8 xv112.f_Key.f_Src.f_B 9, o8 xv112.f_Key.f_Src.f_B 10, o8 xv112.f_Key.f_Src.f_B 11, o8 xv112.f_Key.f_Src.f_B 12, o8 xv112.f_Key.f_Src.f_B 13, o8 xv112.f_Key.f_Src.f_B 14, o8 xv112.f_Key.f_Src.f_B 15, vB xv112.f_Key.f_Dst.f_Six, o8 xv112.f_Key.f_Dst.f_B 0, o8 xv112.f_Key.f_Dst.f_B 1, o8 xv112.f_Key.f_Dst.f_B 2, o8 xv112.f_Key.f_Dst.f_B 3, o8 xv112.f_Key.f_Dst.f_B 4, o8 xv112.f_Key.f_Dst.f_B 5, o8 xv112.f_Key.f_Dst.f_B 6, o8 xv112.f_Key.f_Dst.f_B 7, o8 xv112.f_Key.f_Dst.f_B 8, o8 xv112.f_Key.f_Dst.f_B 9, o8 xv112.f_Key.f_Dst.f_B 10, o8 xv112.f_Key.f_Dst.f_B 11, o8 xv112.f_Key.f_Dst.f_B 12, o8 xv112.f_Key.f_Dst.f_B 13, o8 xv112.f_Key.f_Dst.f_B 14, o8 xv112.f_Key.f_Dst.f_B 15, v8 xv112.f_Key.f_Proto, v16 xv112.f_Key.f_SrcPort, v16 xv112.f_Key.f_DstPort, v64 xv112.f_Packets, v64 xv112.f_Bytes, v64 xv112.f_First, v64 xv112.f_Last, v8 xv112.f_Flags, v8 xv112.f_Reason, v8 xv112.f_Class]) hM rfl sz46 rfl (adds_eq [] rfl) rfl rfl (One.all rfl) rfl rfl) fun w116 hM1 => ?_
  clear hM
  have hM := hM1
  clear hM1
  refine nt hQ109 ?_
  clear hQ109 Q109
  refine sr fun Q117 hQ117 => ?_
  refine vm rfl rfl ?_
  refine RL.val (O.loadN (cs := [vB xv112.f_Key.f_Src.f_Six, o8 xv112.f_Key.f_Src.f_B 0, o8 xv112.f_Key.f_Src.f_B 1, o8 xv112.f_Key.f_Src.f_B 2, o8 xv112.f_Key.f_Src.f_B 3, o8 xv112.f_Key.f_Src.f_B 4, o8 xv112.f_Key.f_Src.f_B 5, o8 xv112.f_Key.f_Src.f_B 6, o8 xv112.f_Key.f_Src.f_B 7, o8 xv112.f_Key.f_Src.f_B 8, o8 xv112.f_Key.f_Src.f_B 9, o8 xv112.f_Key.f_Src.f_B 10, o8 xv112.f_Key.f_Src.f_B 11, o8 xv112.f_Key.f_Src.f_B 12, o8 xv112.f_Key.f_Src.f_B 13, o8 xv112.f_Key.f_Src.f_B 14, o8 xv112.f_Key.f_Src.f_B 15, vB xv112.f_Key.f_Dst.f_Six, o8 xv112.f_Key.f_Dst.f_B 0, o8 xv112.f_Key.f_Dst.f_B 1, o8 xv112.f_Key.f_Dst.f_B 2, o8 xv112.f_Key.f_Dst.f_B 3, o8 xv112.f_Key.f_Dst.f_B 4, o8 xv112.f_Key.f_Dst.f_B 5, o8 xv112.f_Key.f_Dst.f_B 6, o8 xv112.f_Key.f_Dst.f_B 7, o8 xv112.f_Key.f_Dst.f_B 8, o8 xv112.f_Key.f_Dst.f_B 9, o8 xv112.f_Key.f_Dst.f_B 10, o8 xv112.f_Key.f_Dst.f_B 11, o8 xv112.f_Key.f_Dst.f_B 12, o8 xv112.f_Key.f_Dst.f_B 13, o8 xv112.f_Key.f_Dst.f_B 14, o8 xv112.f_Key.f_Dst.f_B 15, v8 xv112.f_Key.f_Proto, v16 xv112.f_Key.f_SrcPort, v16 xv112.f_Key.f_DstPort, v64 xv112.f_Packets, v64 xv112.f_Bytes, v64 xv112.f_First, v64 xv112.f_Last, v8 xv112.f_Flags, v8 xv112.f_Reason, v8 xv112.f_Class]) ag46 rfl (Cs.addsN [] ((hM.bx (i := 5) rfl)) rfl)) rfl ?_
  refine RL.yield hM (i := 2) rfl ha17 hrc19 rfl rfl rfl rfl rfl ?_
  refine KC.region ?_
  refine RL.eff (E.alloc hM ze46) rfl fun v w119 hv => ?_
  clear hM
  obtain ⟨g118, rfl, hM, hf⟩ := hv
  refine RL.effs (E.stB (j := 6) (off := 0) (vs := [vB xv112.f_Key.f_Src.f_Six, o8 xv112.f_Key.f_Src.f_B 0, o8 xv112.f_Key.f_Src.f_B 1, o8 xv112.f_Key.f_Src.f_B 2, o8 xv112.f_Key.f_Src.f_B 3, o8 xv112.f_Key.f_Src.f_B 4, o8 xv112.f_Key.f_Src.f_B 5, o8 xv112.f_Key.f_Src.f_B 6, o8 xv112.f_Key.f_Src.f_B 7, o8 xv112.f_Key.f_Src.f_B 8, o8 xv112.f_Key.f_Src.f_B 9, o8 xv112.f_Key.f_Src.f_B 10, o8 xv112.f_Key.f_Src.f_B 11, o8 xv112.f_Key.f_Src.f_B 12, o8 xv112.f_Key.f_Src.f_B 13, o8 xv112.f_Key.f_Src.f_B 14, o8 xv112.f_Key.f_Src.f_B 15, vB xv112.f_Key.f_Dst.f_Six, o8 xv112.f_Key.f_Dst.f_B 0, o8 xv112.f_Key.f_Dst.f_B 1, o8 xv112.f_Key.f_Dst.f_B 2, o8 xv112.f_Key.f_Dst.f_B 3, o8 xv112.f_Key.f_Dst.f_B 4, o8 xv112.f_Key.f_Dst.f_B 5, o8 xv112.f_Key.f_Dst.f_B 6, o8 xv112.f_Key.f_Dst.f_B 7, o8 xv112.f_Key.f_Dst.f_B 8, o8 xv112.f_Key.f_Dst.f_B 9, o8 xv112.f_Key.f_Dst.f_B 10, o8 xv112.f_Key.f_Dst.f_B 11, o8 xv112.f_Key.f_Dst.f_B 12, o8 xv112.f_Key.f_Dst.f_B 13, o8 xv112.f_Key.f_Dst.f_B 14, o8 xv112.f_Key.f_Dst.f_B 15, v8 xv112.f_Key.f_Proto, v16 xv112.f_Key.f_SrcPort, v16 xv112.f_Key.f_DstPort, v64 xv112.f_Packets, v64 xv112.f_Bytes, v64 xv112.f_First, v64 xv112.f_Last, v8 xv112.f_Flags, v8 xv112.f_Reason, v8 xv112.f_Class]) (cs' := [vB xv112.f_Key.f_Src.f_Six, o8 xv112.f_Key.f_Src.f_B 0, o8 xv112.f_Key.f_Src.f_B 1, o8 xv112.f_Key.f_Src.f_B 2, o8 xv112.f_Key.f_Src.f_B 3, o8 xv112.f_Key.f_Src.f_B 4, o8 xv112.f_Key.f_Src.f_B 5, o8 xv112.f_Key.f_Src.f_B 6, o8 xv112.f_Key.f_Src.f_B 7, o8 xv112.f_Key.f_Src.f_B 8, o8 xv112.f_Key.f_Src.f_B 9, o8 xv112.f_Key.f_Src.f_B 10, o8 xv112.f_Key.f_Src.f_B 11, o8 xv112.f_Key.f_Src.f_B 12, o8 xv112.f_Key.f_Src.f_B 13, o8 xv112.f_Key.f_Src.f_B 14, o8 xv112.f_Key.f_Src.f_B 15, vB xv112.f_Key.f_Dst.f_Six, o8 xv112.f_Key.f_Dst.f_B 0, o8 xv112.f_Key.f_Dst.f_B 1, o8 xv112.f_Key.f_Dst.f_B 2, o8 xv112.f_Key.f_Dst.f_B 3, o8 xv112.f_Key.f_Dst.f_B 4, o8 xv112.f_Key.f_Dst.f_B 5, o8 xv112.f_Key.f_Dst.f_B 6, o8 xv112.f_Key.f_Dst.f_B 7, o8 xv112.f_Key.f_Dst.f_B 8, o8 xv112.f_Key.f_Dst.f_B 9, o8 xv112.f_Key.f_Dst.f_B 10, o8 xv112.f_Key.f_Dst.f_B 11, o8 xv112.f_Key.f_Dst.f_B 12, o8 xv112.f_Key.f_Dst.f_B 13, o8 xv112.f_Key.f_Dst.f_B 14, o8 xv112.f_Key.f_Dst.f_B 15, v8 xv112.f_Key.f_Proto, v16 xv112.f_Key.f_SrcPort, v16 xv112.f_Key.f_DstPort, v64 xv112.f_Packets, v64 xv112.f_Bytes, v64 xv112.f_First, v64 xv112.f_Last, v8 xv112.f_Flags, v8 xv112.f_Reason, v8 xv112.f_Class]) hM rfl sz46 rfl (adds_eq [] rfl) rfl rfl (One.all rfl) rfl rfl) fun w121 hM1 => ?_
  clear hM
  have hM := hM1
  clear hM1
  refine RL.nil ?_
  refine KQ.begin hM (i := 2) rfl fun w122 hM1 hf123 => ?_
  clear hM
  have hM := hM1
  clear hM1
  refine KC.block ?_
  refine KC.region ?_
  refine RL.val (O.load sc41 rfl (Cs.adds [] ((hM.bx (i := 4) rfl)) rfl)) rfl ?_
  refine RL.val (O.loadN (cs := [vB xv112.f_Key.f_Src.f_Six, o8 xv112.f_Key.f_Src.f_B 0, o8 xv112.f_Key.f_Src.f_B 1, o8 xv112.f_Key.f_Src.f_B 2, o8 xv112.f_Key.f_Src.f_B 3, o8 xv112.f_Key.f_Src.f_B 4, o8 xv112.f_Key.f_Src.f_B 5, o8 xv112.f_Key.f_Src.f_B 6, o8 xv112.f_Key.f_Src.f_B 7, o8 xv112.f_Key.f_Src.f_B 8, o8 xv112.f_Key.f_Src.f_B 9, o8 xv112.f_Key.f_Src.f_B 10, o8 xv112.f_Key.f_Src.f_B 11, o8 xv112.f_Key.f_Src.f_B 12, o8 xv112.f_Key.f_Src.f_B 13, o8 xv112.f_Key.f_Src.f_B 14, o8 xv112.f_Key.f_Src.f_B 15, vB xv112.f_Key.f_Dst.f_Six, o8 xv112.f_Key.f_Dst.f_B 0, o8 xv112.f_Key.f_Dst.f_B 1, o8 xv112.f_Key.f_Dst.f_B 2, o8 xv112.f_Key.f_Dst.f_B 3, o8 xv112.f_Key.f_Dst.f_B 4, o8 xv112.f_Key.f_Dst.f_B 5, o8 xv112.f_Key.f_Dst.f_B 6, o8 xv112.f_Key.f_Dst.f_B 7, o8 xv112.f_Key.f_Dst.f_B 8, o8 xv112.f_Key.f_Dst.f_B 9, o8 xv112.f_Key.f_Dst.f_B 10, o8 xv112.f_Key.f_Dst.f_B 11, o8 xv112.f_Key.f_Dst.f_B 12, o8 xv112.f_Key.f_Dst.f_B 13, o8 xv112.f_Key.f_Dst.f_B 14, o8 xv112.f_Key.f_Dst.f_B 15, v8 xv112.f_Key.f_Proto, v16 xv112.f_Key.f_SrcPort, v16 xv112.f_Key.f_DstPort, v64 xv112.f_Packets, v64 xv112.f_Bytes, v64 xv112.f_First, v64 xv112.f_Last, v8 xv112.f_Flags, v8 xv112.f_Reason, v8 xv112.f_Class]) ag46 rfl (Cs.addsN [] ((hM.bx (i := 6) rfl)) rfl)) rfl ?_
  refine RL.eff (E.bsl (enc := e_flow_Record) (xs := ([xv112] : List T_flow_Record)) hM sl41 ze46 rfl rfl rfl (fun _ => rfl) rfl (by kernel_rfl) rfl) rfl fun v w124 hv => ?_
  clear hM
  obtain ⟨A125, rfl, hM, hf⟩ := hv
  refine cut_someE hF fun hq130 hF => ?_
  refine RL.eff (E.app (enc := e_flow_Record) (xs := t102) (ys := ([xv112] : List T_flow_Record)) (j := 3) hM rfl sl41 ze46 rfl rfl rfl rfl rfl (hM.rd (i := 7) rfl) (fun _ => One.all rfl) (of_decide_eq_true hq130)) rfl fun v w129 hv => ?_
  clear hM
  obtain ⟨A127, c128, rfl, hM, hf⟩ := hv
  refine RL.effs (E.stB (j := 4) (off := 0) (vs := [.slice A127 ((t102 ++ ([xv112] : List T_flow_Record))).length c128]) (cs' := [.slice A127 ((t102 ++ ([xv112] : List T_flow_Record))).length c128]) hM rfl sz41 rfl (adds_eq [] rfl) rfl rfl (One.all rfl) rfl rfl) fun w132 hM1 => ?_
  clear hM
  have hM := hM1
  clear hM1
  refine RL.nil ?_
  refine KQ.blk_n ?_
  refine KQ.rnorm hM (i := 2) rfl fun w133 hM1 hf134 => ?_
  clear hM
  have hM := hM1
  clear hM1
  refine RL.val (O.not rfl) rfl ?_
  refine nt hQ117 ?_
  clear hQ117 Q117
  replace hM := hM.pick [0, 1, 2, 3, 4] rfl (by decide)
  refine KC.condF rfl ?_
  refine KC.skip ?_
  refine KQ.blk_n ?_
  refine KQ.thn hQ108 ?_
  clear hQ108 Q108
  refine KC.region ?_
  refine RL.val (O.add rfl rfl) rfl ?_
  refine vm rfl rfl ?_
  refine RL.nil ?_
  refine KQ.then_k ?_
  exact fun a ha => ⟨k105, Nat.lt_succ_self k105, A127, c128, (IntKind.i64.wrap (t97 + 1)), (t102 ++ ([xv112] : List T_flow_Record)), ha.less (less_cons rfl (less_cons rfl (less_cons rfl (less_cons rfl less_nil)))), hM, hF⟩
 rw [if_neg (ne_true hc)] at hF
 refine KC.exit ?_
 refine KQ.thx hQ107 ?_
 clear hQ107 Q107
 refine KQ.then_x ?_
 refine KQ.blk_x ?_
 refine KQ.rendN Try.results63 hM (i := 2) rfl (fun h => by cases h) ha17 fun w135 hM1 hf136 => ?_
 clear hM
 have hM := hM1
 clear hM1
 replace hM := hM.pick [0, 1, 3, 4] rfl (by decide)
 refine KQ.blk_n ?_
 refine KQ.thn hQ14 ?_
 clear hQ14 Q14
 refine sr fun Q137 hQ137 => ?_
 refine RL.val (O.load sc41 rfl (Cs.adds [] ((hM.bx (i := 3) rfl)) rfl)) rfl ?_
 refine va rfl rfl ?_
 refine nt hQ137 ?_
 clear hQ137 Q137
 refine KC.ret ?_
 have hE := Option.some.inj hF
 clear hF
 subst hE
 refine KQ.unmark hM (i := 1) rfl fun w138 hM1 => ?_
 clear hM
 have hM := hM1
 clear hM1
 replace hM := hM.pick [0, 2, 3] rfl (by decide)
 replace hM := hM.pick [0, 1] rfl (by decide)
 refine KQ.retsM Try.results77 (RVs.cons (RV.tm rfl) RVs.nil) ?_
 exact ⟨_, rfl, A100, c101, rfl, rfl, hM⟩
set_option maxRecDepth 100000 in
set_option maxHeartbeats 40000000 in
theorem c_slices_Collect_flow_Record_fslices_Values_flow_Record_flow_Record_1 (w : World) (g2 : Nat) (tg8 : TypeId) (seq1 : List T_flow_Record) (A4 : Option Addr) (c5 : Nat) (hL9 : Lent w [.box g2 tg8 [.slice A4 (seq1).length c5]]) (hr6 : Rd w A4 c5 44 seq1.length (seq1.flatMap e_flow_Record)) (ho7 : Off [some g2] seq1.length A4) (r : (List T_flow_Record) × (List T_flow_Record)) (hF : F_slices_Collect_flow_Record_fslices_Values_flow_Record_flow_Record_1 seq1 = some r) :
  CallsR Try.prog 62 [.func (.func 63) #[] #[.pointer (some ⟨g2, 0, none⟩)]] w (fun v w' => ∃ (A1 : Option Addr) (c1 : Nat), v = .slice A1 (r.1).length c1 ∧ (r.2 = seq1) ∧ Mem w [some g2] w' [.box g2 tg8 [.slice A4 (r.2).length c5], .row A1 c1 46 44 r.1.length (r.1.flatMap e_flow_Record)]) := by
 refine calls_KC Try.func62 rfl Try.ntmps62 rfl ?_
 have hM : Mem w [some g2] w [.box g2 tg8 [.slice A4 (seq1).length c5]] := Mem.lendN hL9
 unfold F_slices_Collect_flow_Record_fslices_Values_flow_Record_flow_Record_1 at hF
 refine sr fun Q10 hQ10 => ?_
 refine va rfl rfl ?_
 refine nt hQ10 ?_
 clear hQ10 Q10
 refine sr fun Q11 hQ11 => ?_
 refine vm rfl rfl ?_
 refine obindE hF fun y12 hx13 hF => ?_
 refine RL.call Try.func77 bd77 rfl rfl (c_slices_AppendSeq_flow_Record_flow_Record_Zfslices_Values_flow_Record_flow_Record_1 _ _ _ seq1 _ _ (hM.lent [0] rfl (by decide)) (hM.inp hr6 ho7) (hM.offI [0] rfl hr6 (ho7)) _ hx13) fun v w14 hv => ?_
 obtain ⟨A17, c18, rfl, hE16, hN15⟩ := hv
 replace hM := hM.callL [0] [] rfl rfl (by decide) rfl hN15
 replace hM := hM.rebox (i := 0) (cs' := [.slice A4 (seq1).length c5]) rfl (by rw [hE16])
 refine va rfl rfl ?_
 refine nt hQ11 ?_
 clear hQ11 Q11
 refine KC.ret ?_
 have hE := Option.some.inj hF
 clear hF
 subst hE
 refine KQ.rets Try.results62 (RVs.cons (RV.tm rfl) RVs.nil) ?_
 exact ⟨_, rfl, A17, c18, rfl, rfl, hM⟩
set_option maxRecDepth 100000 in
set_option maxHeartbeats 40000000 in
theorem c_slices_SortFunc_flow_Record_flow_Record_cache_byKey (w : World) (A : Option Addr) (c : Nat) (xs : List T_flow_Record) (hL : Lent w [.row A c 46 44 xs.length (xs.flatMap e_flow_Record)]) (r : List T_flow_Record) (hF : F_slices_SortFunc_flow_Record_flow_Record_cache_byKey xs = some r) :
  CallsR Try.prog 32 [.slice A xs.length c, .func (.func 36) #[] #[]] w (fun v w' => v = .tuple #[] ∧ (xs.length = r.length) ∧ Mem w [rblk A c] w' [.row A c 46 44 r.length (r.flatMap e_flow_Record)]) := by
 unfold F_slices_SortFunc_flow_Record_flow_Record_cache_byKey at hF
 refine cut_someE hF fun hn hF => ?_
 have hE := Option.some.inj hF
 subst hE
 exact c_srt (e := 46) lsort32 ag46 (fun _ => rfl) (fun _ => One.all rfl) rfl swo_cache_byKey Try.func36 bd36 (cb := []) hL (of_decide_eq_true hn) (fun w1 _ _ x y => c_cache_byKey w1 x y _ (tot_cache_byKey x y))
set_option maxRecDepth 100000 in
set_option maxHeartbeats 40000000 in
theorem c_slices_SortedFunc_flow_Record_fslices_Values_flow_Record_flow_Record_1fcache_byKey (w : World) (g2 : Nat) (tg8 : TypeId) (seq1 : List T_flow_Record) (A4 : Option Addr) (c5 : Nat) (hL9 : Lent w [.box g2 tg8 [.slice A4 (seq1).length c5]]) (hr6 : Rd w A4 c5 44 seq1.length (seq1.flatMap e_flow_Record)) (ho7 : Off [some g2] seq1.length A4) (r : (List T_flow_Record) × (List T_flow_Record)) (hF : F_slices_SortedFunc_flow_Record_fslices_Values_flow_Record_flow_Record_1fcache_byKey seq1 = some r) :
  CallsR Try.prog 45 [.func (.func 63) #[] #[.pointer (some ⟨g2, 0, none⟩)], .func (.func 36) #[] #[]] w (fun v w' => ∃ (A1 : Option Addr) (c1 : Nat), v = .slice A1 (r.1).length c1 ∧ (r.2 = seq1) ∧ Mem w [some g2] w' [.box g2 tg8 [.slice A4 (r.2).length c5], .row A1 c1 46 44 r.1.length (r.1.flatMap e_flow_Record)]) := by
 refine calls_KC Try.func45 rfl Try.ntmps45 rfl ?_
 have hM : Mem w [some g2] w [.box g2 tg8 [.slice A4 (seq1).length c5]] := Mem.lendN hL9
 unfold F_slices_SortedFunc_flow_Record_fslices_Values_flow_Record_flow_Record_1fcache_byKey at hF
 refine sr fun Q10 hQ10 => ?_
 refine va rfl rfl ?_
 refine nt hQ10 ?_
 clear hQ10 Q10
 refine sr fun Q11 hQ11 => ?_
 refine vm rfl rfl ?_
 refine obindE hF fun y12 hx13 hF => ?_
 refine RL.call Try.func62 bd62 rfl rfl (c_slices_Collect_flow_Record_fslices_Values_flow_Record_flow_Record_1 _ _ _ seq1 _ _ (hM.lent [0] rfl (by decide)) (hM.inp hr6 ho7) (hM.offI [0] rfl hr6 (ho7)) _ hx13) fun v w14 hv => ?_
 obtain ⟨A17, c18, rfl, hE16, hN15⟩ := hv
 replace hM := hM.callL [0] [] rfl rfl (by decide) rfl hN15
 replace hM := hM.rebox (i := 0) (cs' := [.slice A4 (seq1).length c5]) rfl (by rw [hE16])
 refine va rfl rfl ?_
 refine nt hQ11 ?_
 clear hQ11 Q11
 refine sr fun Q20 hQ20 => ?_
 refine vm rfl rfl ?_
 refine vm rfl rfl ?_
 refine obindE hF fun y21 hx22 hF => ?_
 refine RL.call Try.func32 bd32 rfl rfl (c_slices_SortFunc_flow_Record_flow_Record_cache_byKey _ _ _ y12.1 (hM.lent [1] rfl (by decide)) _ hx22) fun v w23 hv => ?_
 obtain ⟨rfl, hw25, hN24⟩ := hv
 replace hM := hM.callL [1] [0] rfl rfl (by decide) rfl hN24
 refine RL.reslot (t := 5) rfl hw25 ?_
 refine RL.reslot (t := 8) rfl hw25 ?_
 refine nt hQ20 ?_
 clear hQ20 Q20
 refine sr fun Q26 hQ26 => ?_
 refine vm rfl rfl ?_
 refine va rfl rfl ?_
 refine nt hQ26 ?_
 clear hQ26 Q26
 refine KC.ret ?_
 have hE := Option.some.inj hF
 clear hF
 subst hE
 refine KQ.rets Try.results45 (RVs.cons (RV.tm rfl) RVs.nil) ?_
 exact ⟨_, rfl, A17, c18, rfl, rfl, hM⟩
set_option maxRecDepth 100000 in
set_option maxHeartbeats 40000000 in
theorem c_cache_Cache_All (w : World) (g2 : Nat) (tg12 : TypeId) (cv1 : T_cache_Cache) (g4 : Nat) (A6 : Option Addr) (c7 : Nat) (A9 : Option Addr) (c10 : Nat) (hL13 : Lent w [.box g2 tg12 [v64 cv1.f_tick, vI cv1.f_bounds.f_Flows, v64 cv1.f_bounds.f_Idle, v64 cv1.f_bounds.f_Active, v64 cv1.f_bounds.f_Packets, v64 cv1.f_bounds.f_Bytes, .pointer (some ⟨g4, 0, none⟩), .slice A9 (cv1.f_flows).length c10], .box g4 96 [.slice A6 (cv1.f_places.f_slots).length c7, vI cv1.f_places.f_many], .row A6 c7 102 39 (cv1.f_places.f_slots).length ((cv1.f_places.f_slots).flatMap e_table_Slot), .row A9 c10 46 44 (cv1.f_flows).length ((cv1.f_flows).flatMap e_flow_Record)]) (r : (List T_flow_Record) × T_cache_Cache) (hF : F_cache_Cache_All cv1 = some r) :
  CallsR Try.prog 17 [.pointer (some ⟨g2, 0, none⟩)] w (fun v w' => ∃ (g0 : Nat) (A1 : Option Addr) (c1 : Nat) (A2 : Option Addr) (c2 : Nat) (A3 : Option Addr) (c3 : Nat), v = .slice A3 (r.1).length c3 ∧ Mem w [some g2, some g4, rblk A6 c7, rblk A9 c10] w' [.box g2 tg12 [v64 r.2.f_tick, vI r.2.f_bounds.f_Flows, v64 r.2.f_bounds.f_Idle, v64 r.2.f_bounds.f_Active, v64 r.2.f_bounds.f_Packets, v64 r.2.f_bounds.f_Bytes, .pointer (some ⟨g0, 0, none⟩), .slice A2 (r.2.f_flows).length c2], .box g0 96 [.slice A1 (r.2.f_places.f_slots).length c1, vI r.2.f_places.f_many], .row A1 c1 102 39 r.2.f_places.f_slots.length (r.2.f_places.f_slots.flatMap e_table_Slot), .row A2 c2 46 44 r.2.f_flows.length (r.2.f_flows.flatMap e_flow_Record), .row A3 c3 46 44 r.1.length (r.1.flatMap e_flow_Record)]) := by
 refine calls_KC Try.func17 rfl Try.ntmps17 rfl ?_
 have hM : Mem w [some g2, some g4, rblk A6 c7, rblk A9 c10] w [.box g2 tg12 [v64 cv1.f_tick, vI cv1.f_bounds.f_Flows, v64 cv1.f_bounds.f_Idle, v64 cv1.f_bounds.f_Active, v64 cv1.f_bounds.f_Packets, v64 cv1.f_bounds.f_Bytes, .pointer (some ⟨g4, 0, none⟩), .slice A9 (cv1.f_flows).length c10], .box g4 96 [.slice A6 (cv1.f_places.f_slots).length c7, vI cv1.f_places.f_many], .row A6 c7 102 39 (cv1.f_places.f_slots).length ((cv1.f_places.f_slots).flatMap e_table_Slot), .row A9 c10 46 44 (cv1.f_flows).length ((cv1.f_flows).flatMap e_flow_Record)] := Mem.lendN hL13
 unfold F_cache_Cache_All at hF
 refine sr fun Q14 hQ14 => ?_
 refine va rfl rfl ?_
 refine nt hQ14 ?_
 clear hQ14 Q14
 refine KC.seqH fun Q15 hQ15 => ?_
 refine sr fun Q16 hQ16 => ?_
 refine vm rfl rfl ?_
 refine RL.val (O.peqn Try.underlying27 rfl rfl) rfl ?_
 refine nt hQ16 ?_
 clear hQ16 Q16
 refine KC.condF rfl ?_
 refine KC.skip ?_
 refine KQ.thn hQ15 ?_
 clear hQ15 Q15
 refine sr fun Q17 hQ17 => ?_
 refine vm rfl rfl ?_
 refine RL.val (O.nilp rfl) rfl ?_
 refine RL.val (O.fldA fl74_3 (by decide) rfl) rfl ?_
 refine RL.val (O.load sc41 rfl (Cs.adds [7] ((hM.bx (i := 0) rfl)) rfl)) rfl ?_
 refine RL.icall Try.func46 bd46 rfl rfl rfl Try.ntmps46 rfl ?_
 refine sr fun Q18 hQ18 => ?_
 refine RL.eff (E.box (vs := [.slice A9 (cv1.f_flows).length c10]) hM rfl rfl) rfl fun v w20 hv => ?_
 clear hM
 obtain ⟨g19, rfl, hM, hf⟩ := hv
 refine va rfl rfl ?_
 refine nt hQ18 ?_
 clear hQ18 Q18
 refine sr fun Q22 hQ22 => ?_
 refine RL.val (O.mkf rfl rfl) rfl ?_
 refine va rfl rfl ?_
 refine nt hQ22 ?_
 clear hQ22 Q22
 refine KC.ret ?_
 refine KQ.rets Try.results46 (RVs.cons (RV.tm rfl) RVs.nil) ?_
 refine ⟨.func (.func 63) #[] #[.pointer (some ⟨g19, 0, none⟩)], rfl, ?_⟩
 refine obindE hF fun y23 hx24 hF => ?_
 refine RL.call Try.func45 bd45 rfl rfl (c_slices_SortedFunc_flow_Record_fslices_Values_flow_Record_flow_Record_1fcache_byKey _ _ _ cv1.f_flows _ _ (hM.lent [4] rfl (by decide)) (hM.rd (i := 3) rfl) (hM.offR [4] rfl (i := 3) rfl rfl) _ hx24) fun v w25 hv => ?_
 obtain ⟨A28, c29, rfl, hE27, hN26⟩ := hv
 replace hM := hM.callL [4] [0, 1, 2, 3] rfl rfl (by decide) rfl hN26
 replace hM := hM.rebox (i := 4) (cs' := [.slice A9 (cv1.f_flows).length c10]) rfl (by rw [hE27])
 refine va rfl rfl ?_
 refine nt hQ17 ?_
 clear hQ17 Q17
 refine KC.ret ?_
 have hE := Option.some.inj hF
 clear hF
 subst hE
 replace hM := hM.pick [0, 1, 2, 3, 5] rfl (by decide)
 refine KQ.rets Try.results17 (RVs.cons (RV.tm rfl) RVs.nil) ?_
 exact ⟨_, rfl, g4, A6, c7, A9, c10, A28, c29, rfl, hM⟩
set_option maxRecDepth 100000 in
set_option maxHeartbeats 40000000 in
theorem c_cache_forced (w : World) (t1 : T_flow_Record) (r : Int) (hF : F_cache_forced t1 = some r) :
  CallsR Try.prog 40 [.agg #[vB t1.f_Key.f_Src.f_Six, o8 t1.f_Key.f_Src.f_B 0, o8 t1.f_Key.f_Src.f_B 1, o8 t1.f_Key.f_Src.f_B 2, o8 t1.f_Key.f_Src.f_B 3, o8 t1.f_Key.f_Src.f_B 4, o8 t1.f_Key.f_Src.f_B 5, o8 t1.f_Key.f_Src.f_B 6, o8 t1.f_Key.f_Src.f_B 7, o8 t1.f_Key.f_Src.f_B 8, o8 t1.f_Key.f_Src.f_B 9, o8 t1.f_Key.f_Src.f_B 10, o8 t1.f_Key.f_Src.f_B 11, o8 t1.f_Key.f_Src.f_B 12, o8 t1.f_Key.f_Src.f_B 13, o8 t1.f_Key.f_Src.f_B 14, o8 t1.f_Key.f_Src.f_B 15, vB t1.f_Key.f_Dst.f_Six, o8 t1.f_Key.f_Dst.f_B 0, o8 t1.f_Key.f_Dst.f_B 1, o8 t1.f_Key.f_Dst.f_B 2, o8 t1.f_Key.f_Dst.f_B 3, o8 t1.f_Key.f_Dst.f_B 4, o8 t1.f_Key.f_Dst.f_B 5, o8 t1.f_Key.f_Dst.f_B 6, o8 t1.f_Key.f_Dst.f_B 7, o8 t1.f_Key.f_Dst.f_B 8, o8 t1.f_Key.f_Dst.f_B 9, o8 t1.f_Key.f_Dst.f_B 10, o8 t1.f_Key.f_Dst.f_B 11, o8 t1.f_Key.f_Dst.f_B 12, o8 t1.f_Key.f_Dst.f_B 13, o8 t1.f_Key.f_Dst.f_B 14, o8 t1.f_Key.f_Dst.f_B 15, v8 t1.f_Key.f_Proto, v16 t1.f_Key.f_SrcPort, v16 t1.f_Key.f_DstPort, v64 t1.f_Packets, v64 t1.f_Bytes, v64 t1.f_First, v64 t1.f_Last, v8 t1.f_Flags, v8 t1.f_Reason, v8 t1.f_Class]] w (fun v w' => v = v8 r ∧ Mem w [] w' []) := by
 refine calls_KC Try.func40 rfl Try.ntmps40 rfl ?_
 have hM := Mem.init w
 unfold F_cache_forced at hF
 refine sr fun Q2 hQ2 => ?_
 refine RL.eff (E.box (vs := [vB t1.f_Key.f_Src.f_Six, o8 t1.f_Key.f_Src.f_B 0, o8 t1.f_Key.f_Src.f_B 1, o8 t1.f_Key.f_Src.f_B 2, o8 t1.f_Key.f_Src.f_B 3, o8 t1.f_Key.f_Src.f_B 4, o8 t1.f_Key.f_Src.f_B 5, o8 t1.f_Key.f_Src.f_B 6, o8 t1.f_Key.f_Src.f_B 7, o8 t1.f_Key.f_Src.f_B 8, o8 t1.f_Key.f_Src.f_B 9, o8 t1.f_Key.f_Src.f_B 10, o8 t1.f_Key.f_Src.f_B 11, o8 t1.f_Key.f_Src.f_B 12, o8 t1.f_Key.f_Src.f_B 13, o8 t1.f_Key.f_Src.f_B 14, o8 t1.f_Key.f_Src.f_B 15, vB t1.f_Key.f_Dst.f_Six, o8 t1.f_Key.f_Dst.f_B 0, o8 t1.f_Key.f_Dst.f_B 1, o8 t1.f_Key.f_Dst.f_B 2, o8 t1.f_Key.f_Dst.f_B 3, o8 t1.f_Key.f_Dst.f_B 4, o8 t1.f_Key.f_Dst.f_B 5, o8 t1.f_Key.f_Dst.f_B 6, o8 t1.f_Key.f_Dst.f_B 7, o8 t1.f_Key.f_Dst.f_B 8, o8 t1.f_Key.f_Dst.f_B 9, o8 t1.f_Key.f_Dst.f_B 10, o8 t1.f_Key.f_Dst.f_B 11, o8 t1.f_Key.f_Dst.f_B 12, o8 t1.f_Key.f_Dst.f_B 13, o8 t1.f_Key.f_Dst.f_B 14, o8 t1.f_Key.f_Dst.f_B 15, v8 t1.f_Key.f_Proto, v16 t1.f_Key.f_SrcPort, v16 t1.f_Key.f_DstPort, v64 t1.f_Packets, v64 t1.f_Bytes, v64 t1.f_First, v64 t1.f_Last, v8 t1.f_Flags, v8 t1.f_Reason, v8 t1.f_Class]) hM rfl rfl) rfl fun v w4 hv => ?_
 clear hM
 obtain ⟨g3, rfl, hM, hf⟩ := hv
 refine va rfl rfl ?_
 refine nt hQ2 ?_
 clear hQ2 Q2
 refine sr fun Q6 hQ6 => ?_
 refine va rfl rfl ?_
 refine nt hQ6 ?_
 clear hQ6 Q6
 refine KC.ret ?_
 have hE := Option.some.inj hF
 clear hF
 subst hE
 replace hM := hM.pick [] rfl (by decide)
 refine KQ.rets Try.results40 (RVs.cons (RV.tm rfl) RVs.nil) ?_
 exact ⟨_, rfl, rfl, hM⟩
set_option maxRecDepth 100000 in
set_option maxHeartbeats 40000000 in
theorem c_cache_Cache_ends_fcache_forced (w : World) (g2 : Nat) (tg12 : TypeId) (cv1 : T_cache_Cache) (g4 : Nat) (A6 : Option Addr) (c7 : Nat) (A9 : Option Addr) (c10 : Nat) (hL18 : Lent w [.box g2 tg12 [v64 cv1.f_tick, vI cv1.f_bounds.f_Flows, v64 cv1.f_bounds.f_Idle, v64 cv1.f_bounds.f_Active, v64 cv1.f_bounds.f_Packets, v64 cv1.f_bounds.f_Bytes, .pointer (some ⟨g4, 0, none⟩), .slice A9 (cv1.f_flows).length c10], .box g4 96 [.slice A6 (cv1.f_places.f_slots).length c7, vI cv1.f_places.f_many], .row A6 c7 102 39 (cv1.f_places.f_slots).length ((cv1.f_places.f_slots).flatMap e_table_Slot), .row A9 c10 46 44 (cv1.f_flows).length ((cv1.f_flows).flatMap e_flow_Record)]) (A14 : Option Addr) (c15 : Nat) (lv13 : List T_flow_Record) (hr16 : Rd w A14 c15 44 lv13.length (lv13.flatMap e_flow_Record)) (ho17 : Off [some g2, some g4, rblk A6 c7, rblk A9 c10] lv13.length A14) (r : (List T_flow_Record) × T_cache_Cache) (hF : F_cache_Cache_ends_fcache_forced cv1 lv13 = some r) :
  CallsR Try.prog 37 [.pointer (some ⟨g2, 0, none⟩), .func (.func 40) #[] #[], .slice A14 (lv13).length c15] w (fun v w' => ∃ (g0 : Nat) (A1 : Option Addr) (c1 : Nat) (A2 : Option Addr) (c2 : Nat) (A3 : Option Addr) (c3 : Nat), v = .slice A3 (r.1).length c3 ∧ Mem w [some g2, some g4, rblk A6 c7, rblk A9 c10] w' [.box g2 tg12 [v64 r.2.f_tick, vI r.2.f_bounds.f_Flows, v64 r.2.f_bounds.f_Idle, v64 r.2.f_bounds.f_Active, v64 r.2.f_bounds.f_Packets, v64 r.2.f_bounds.f_Bytes, .pointer (some ⟨g0, 0, none⟩), .slice A2 (r.2.f_flows).length c2], .box g0 96 [.slice A1 (r.2.f_places.f_slots).length c1, vI r.2.f_places.f_many], .row A1 c1 102 39 r.2.f_places.f_slots.length (r.2.f_places.f_slots.flatMap e_table_Slot), .row A2 c2 46 44 r.2.f_flows.length (r.2.f_flows.flatMap e_flow_Record), .row A3 c3 46 44 r.1.length (r.1.flatMap e_flow_Record)]) := by
 refine calls_KC Try.func37 rfl Try.ntmps37 rfl ?_
 have hM : Mem w [some g2, some g4, rblk A6 c7, rblk A9 c10] w [.box g2 tg12 [v64 cv1.f_tick, vI cv1.f_bounds.f_Flows, v64 cv1.f_bounds.f_Idle, v64 cv1.f_bounds.f_Active, v64 cv1.f_bounds.f_Packets, v64 cv1.f_bounds.f_Bytes, .pointer (some ⟨g4, 0, none⟩), .slice A9 (cv1.f_flows).length c10], .box g4 96 [.slice A6 (cv1.f_places.f_slots).length c7, vI cv1.f_places.f_many], .row A6 c7 102 39 (cv1.f_places.f_slots).length ((cv1.f_places.f_slots).flatMap e_table_Slot), .row A9 c10 46 44 (cv1.f_flows).length ((cv1.f_flows).flatMap e_flow_Record)] := Mem.lendN hL18
 unfold F_cache_Cache_ends_fcache_forced at hF
 refine sr fun Q19 hQ19 => ?_
 refine va rfl rfl ?_
 refine nt hQ19 ?_
 clear hQ19 Q19
 refine KC.seqH fun Q20 hQ20 => ?_
 refine sr fun Q21 hQ21 => ?_
 refine vm rfl rfl ?_
 refine RL.val (O.len sl41 rfl) rfl ?_
 refine vm rfl rfl ?_
 refine nt hQ21 ?_
 clear hQ21 Q21
 refine KC.block ?_
 refine KC.loop (fun k188 a w186 => ∃ (g171 : Nat) (A173 : Option Addr) (c174 : Nat) (A178 : Option Addr) (c179 : Nat) (A182 : Option Addr) (c183 : Nat) (p164 : Int) (p165 : Int) (p166 : Int) (p167 : Int) (p168 : Int) (p169 : Int) (p175 : List T_table_Slot) (p176 : Int) (p180 : List T_flow_Record) (out184 : List T_flow_Record) (t185 : Int), Kn 27 [(0, .pointer (some ⟨g2, 0, none⟩)), (1, .func (.func 40) #[] #[]), (6, .slice A182 (out184).length c183), (9, .slice A14 (lv13).length c15), (10, vI (lv13.length : Int)), (11, vI t185)] a ∧ Mem w [some g2, some g4, rblk A6 c7, rblk A9 c10] w186 [.row A173 c174 102 39 (p175).length ((p175).flatMap e_table_Slot), .box g171 96 [.slice A173 (p175).length c174, vI p176], .row A178 c179 46 44 (p180).length ((p180).flatMap e_flow_Record), .box g2 tg12 [v64 p164, vI p165, v64 p166, v64 p167, v64 p168, v64 p169, .pointer (some ⟨g171, 0, none⟩), .slice A178 (p180).length c179], .row A182 c183 46 44 (out184).length ((out184).flatMap e_flow_Record)] ∧ F_cache_Cache_ends_fcache_forced_L1 lv13 k188 p164 p165 p166 p167 p168 p169 p175 p176 p180 out184 t185 = some r) ?_ ?_
 ·replace hM := hM.nilrow 46 44
  replace hM := hM.pick [2, 1, 3, 0, 4] rfl (by decide)
  exact fun a ha => ⟨fuel0, g4, A6, c7, A9, c10, none, 0, cv1.f_tick, cv1.f_bounds.f_Flows, cv1.f_bounds.f_Idle, cv1.f_bounds.f_Active, cv1.f_bounds.f_Packets, cv1.f_bounds.f_Bytes, cv1.f_places.f_slots, cv1.f_places.f_many, cv1.f_flows, ([]), 0, ha.less (less_cons rfl (less_cons rfl (less_cons rfl (less_cons rfl (less_cons rfl (less_cons rfl less_nil)))))), hM, hF⟩
 rintro k188 a w186 ⟨g171, A173, c174, A178, c179, A182, c183, p164, p165, p166, p167, p168, p169, p175, p176, p180, out184, t185, ha, hM, hF⟩
 refine KC.app ha ?_
 clear ha
 cases k188 with
 | zero => exact (none_some hF).elim
 | succ k188 =>
 have hF : F_cache_Cache_ends_fcache_forced_l1 (F_cache_Cache_ends_fcache_forced_L1 lv13 k188) lv13 p164 p165 p166 p167 p168 p169 p175 p176 p180 out184 t185 = some r := hF
 unfold F_cache_Cache_ends_fcache_forced_l1 at hF
 refine sr fun Q189 hQ189 => ?_
 refine RL.val (O.lss rfl rfl) rfl ?_
 refine nt hQ189 ?_
 clear hQ189 Q189
 refine KC.seqH fun Q190 hQ190 => ?_
 refine KC.cond rfl (fun hc => ?_) (fun hc => ?_)
 ·rw [if_pos hc] at hF
  refine KC.skip ?_
  refine KQ.thn hQ190 ?_
  clear hQ190 Q190
  refine KC.seqH fun Q191 hQ191 => ?_
  refine KC.block ?_
  refine sr fun Q192 hQ192 => ?_
  refine obindE hF fun xv195 hx194 hF => ?_
  have hA193 := Rd.atN (f := e_flow_Record) (s := 44) (fun _ => rfl) (by decide) (hM.inp hr16 ho17) hx194
  refine RL.val (O.idxA sl41 (hA193) rfl rfl) rfl ?_
  refine RL.val (O.loadN (cs := [vB xv195.f_Key.f_Src.f_Six, o8 xv195.f_Key.f_Src.f_B 0, o8 xv195.f_Key.f_Src.f_B 1, o8 xv195.f_Key.f_Src.f_B 2, o8 xv195.f_Key.f_Src.f_B 3, o8 xv195.f_Key.f_Src.f_B 4, o8 xv195.f_Key.f_Src.f_B 5, o8 xv195.f_Key.f_Src.f_B 6, o8 xv195.f_Key.f_Src.f_B 7, o8 xv195.f_Key.f_Src.f_B 8, o8 xv195.f_Key.f_Src.f_B 9, o8 xv195.f_Key.f_Src.f_B 10, o8 xv195.f_Key.f_Src.f_B 11, o8 xv195.f_Key.f_Src.f_B 12, o8 xv195.f_Key.f_Src.f_B 13, o8 xv195.f_Key.f_Src.f_B 14, o8 xv195.f_Key.f_Src.f_B 15, vB xv195.f_Key.f_Dst.f_Six, o8 xv195.f_Key.f_Dst.f_B 0, o8 xv195.f_Key.f_Dst.f_B 1, o8 xv195.f_Key.f_Dst.f_B 2, o8 xv195.f_Key.f_Dst.f_B 3, o8 xv195.f_Key.f_Dst.f_B 4, o8 xv195.f_Key.f_Dst.f_B 5, o8 xv195.f_Key.f_Dst.f_B 6, o8 xv195.f_Key.f_Dst.f_B 7, o8 xv195.f_Key.f_Dst.f_B 8, o8 xv195.f_Key.f_Dst.f_B 9, o8 xv195.f_Key.f_Dst.f_B 10, o8 xv195.f_Key.f_Dst.f_B 11, o8 xv195.f_Key.f_Dst.f_B 12, o8 xv195.f_Key.f_Dst.f_B 13, o8 xv195.f_Key.f_Dst.f_B 14, o8 xv195.f_Key.f_Dst.f_B 15, v8 xv195.f_Key.f_Proto, v16 xv195.f_Key.f_SrcPort, v16 xv195.f_Key.f_DstPort, v64 xv195.f_Packets, v64 xv195.f_Bytes, v64 xv195.f_First, v64 xv195.f_Last, v8 xv195.f_Flags, v8 xv195.f_Reason, v8 xv195.f_Class]) ag46 rfl (hA193).cells) rfl ?_
  refine RL.eff (E.alloc hM ze46) rfl fun v w197 hv => ?_
  clear hM
  obtain ⟨g196, rfl, hM, hf⟩ := hv
  refine RL.effs (E.stB (j := 5) (off := 0) (vs := [vB xv195.f_Key.f_Src.f_Six, o8 xv195.f_Key.f_Src.f_B 0, o8 xv195.f_Key.f_Src.f_B 1, o8 xv195.f_Key.f_Src.f_B 2, o8 xv195.f_Key.f_Src.f_B 3, o8 xv195.f_Key.f_Src.f_B 4, o8 xv195.f_Key.f_Src.f_B 5, o8 xv195.f_Key.f_Src.f_B 6, o8 xv195.f_Key.f_Src.f_B 7, o8 xv195.f_Key.f_Src.f_B 8, o8 xv195.f_Key.f_Src.f_B 9, o8 xv195.f_Key.f_Src.f_B 10, o8 xv195.f_Key.f_Src.f_B 11, o8 xv195.f_Key.f_Src.f_B 12, o8 xv195.f_Key.f_Src.f_B 13, o8 xv195.f_Key.f_Src.f_B 14, o8 xv195.f_Key.f_Src.f_B 15, vB xv195.f_Key.f_Dst.f_Six, o8 xv195.f_Key.f_Dst.f_B 0, o8 xv195.f_Key.f_Dst.f_B 1, o8 xv195.f_Key.f_Dst.f_B 2, o8 xv195.f_Key.f_Dst.f_B 3, o8 xv195.f_Key.f_Dst.f_B 4, o8 xv195.f_Key.f_Dst.f_B 5, o8 xv195.f_Key.f_Dst.f_B 6, o8 xv195.f_Key.f_Dst.f_B 7, o8 xv195.f_Key.f_Dst.f_B 8, o8 xv195.f_Key.f_Dst.f_B 9, o8 xv195.f_Key.f_Dst.f_B 10, o8 xv195.f_Key.f_Dst.f_B 11, o8 xv195.f_Key.f_Dst.f_B 12, o8 xv195.f_Key.f_Dst.f_B 13, o8 xv195.f_Key.f_Dst.f_B 14, o8 xv195.f_Key.f_Dst.f_B 15, v8 xv195.f_Key.f_Proto, v16 xv195.f_Key.f_SrcPort, v16 xv195.f_Key.f_DstPort, v64 xv195.f_Packets, v64 xv195.f_Bytes, v64 xv195.f_First, v64 xv195.f_Last, v8 xv195.f_Flags, v8 xv195.f_Reason, v8 xv195.f_Class]) (cs' := [vB xv195.f_Key.f_Src.f_Six, o8 xv195.f_Key.f_Src.f_B 0, o8 xv195.f_Key.f_Src.f_B 1, o8 xv195.f_Key.f_Src.f_B 2, o8 xv195.f_Key.f_Src.f_B 3, o8 xv195.f_Key.f_Src.f_B 4, o8 xv195.f_Key.f_Src.f_B 5, o8 xv195.f_Key.f_Src.f_B 6, o8 xv195.f_Key.f_Src.f_B 7, o8 xv195.f_Key.f_Src.f_B 8, o8 xv195.f_Key.f_Src.f_B 9, o8 xv195.f_Key.f_Src.f_B 10, o8 xv195.f_Key.f_Src.f_B 11, o8 xv195.f_Key.f_Src.f_B 12, o8 xv195.f_Key.f_Src.f_B 13, o8 xv195.f_Key.f_Src.f_B 14, o8 xv195.f_Key.f_Src.f_B 15, vB xv195.f_Key.f_Dst.f_Six, o8 xv195.f_Key.f_Dst.f_B 0, o8 xv195.f_Key.f_Dst.f_B 1, o8 xv195.f_Key.f_Dst.f_B 2, o8 xv195.f_Key.f_Dst.f_B 3, o8 xv195.f_Key.f_Dst.f_B 4, o8 xv195.f_Key.f_Dst.f_B 5, o8 xv195.f_Key.f_Dst.f_B 6, o8 xv195.f_Key.f_Dst.f_B 7, o8 xv195.f_Key.f_Dst.f_B 8, o8 xv195.f_Key.f_Dst.f_B 9, o8 xv195.f_Key.f_Dst.f_B 10, o8 xv195.f_Key.f_Dst.f_B 11, o8 xv195.f_Key.f_Dst.f_B 12, o8 xv195.f_Key.f_Dst.f_B 13, o8 xv195.f_Key.f_Dst.f_B 14, o8 xv195.f_Key.f_Dst.f_B 15, v8 xv195.f_Key.f_Proto, v16 xv195.f_Key.f_SrcPort, v16 xv195.f_Key.f_DstPort, v64 xv195.f_Packets, v64 xv195.f_Bytes, v64 xv195.f_First, v64 xv195.f_Last, v8 xv195.f_Flags, v8 xv195.f_Reason, v8 xv195.f_Class]) hM rfl sz46 rfl (adds_eq [] rfl) rfl rfl (One.all rfl) rfl rfl) fun w199 hM1 => ?_
  clear hM
  have hM := hM1
  clear hM1
  refine nt hQ192 ?_
  clear hQ192 Q192
  replace hM := hM.drewN 1
  refine KC.draw [] [6, 7, 9] [3, 6, 7, 8, 9] [0, 1, 2, 4, 10] (.cons 0 (.cons 1 (.cons 2 (.cons 4 (.cons 5 (.alt 3 (.ofList [6, 7, 8, 9, 10]) 6 (.ofList [3, 7, 8, 9, 10]))))))) moP (by kernel_rfl) ?_
  refine RD.p rfl rfl rfl rfl (fun w' => O.move rfl) ?_
  refine RD.p rfl rfl rfl rfl (fun w' => O.move rfl) ?_
  refine RD.p rfl rfl rfl rfl (fun w' => O.fldA fl46_0 (by decide) rfl) ?_
  refine RD.p rfl rfl rfl rfl (fun w' => O.move rfl) ?_
  refine RD.q rfl rfl rfl rfl (fun w' hf => O.loadN (cs := [vB xv195.f_Key.f_Src.f_Six, o8 xv195.f_Key.f_Src.f_B 0, o8 xv195.f_Key.f_Src.f_B 1, o8 xv195.f_Key.f_Src.f_B 2, o8 xv195.f_Key.f_Src.f_B 3, o8 xv195.f_Key.f_Src.f_B 4, o8 xv195.f_Key.f_Src.f_B 5, o8 xv195.f_Key.f_Src.f_B 6, o8 xv195.f_Key.f_Src.f_B 7, o8 xv195.f_Key.f_Src.f_B 8, o8 xv195.f_Key.f_Src.f_B 9, o8 xv195.f_Key.f_Src.f_B 10, o8 xv195.f_Key.f_Src.f_B 11, o8 xv195.f_Key.f_Src.f_B 12, o8 xv195.f_Key.f_Src.f_B 13, o8 xv195.f_Key.f_Src.f_B 14, o8 xv195.f_Key.f_Src.f_B 15, vB xv195.f_Key.f_Dst.f_Six, o8 xv195.f_Key.f_Dst.f_B 0, o8 xv195.f_Key.f_Dst.f_B 1, o8 xv195.f_Key.f_Dst.f_B 2, o8 xv195.f_Key.f_Dst.f_B 3, o8 xv195.f_Key.f_Dst.f_B 4, o8 xv195.f_Key.f_Dst.f_B 5, o8 xv195.f_Key.f_Dst.f_B 6, o8 xv195.f_Key.f_Dst.f_B 7, o8 xv195.f_Key.f_Dst.f_B 8, o8 xv195.f_Key.f_Dst.f_B 9, o8 xv195.f_Key.f_Dst.f_B 10, o8 xv195.f_Key.f_Dst.f_B 11, o8 xv195.f_Key.f_Dst.f_B 12, o8 xv195.f_Key.f_Dst.f_B 13, o8 xv195.f_Key.f_Dst.f_B 14, o8 xv195.f_Key.f_Dst.f_B 15, v8 xv195.f_Key.f_Proto, v16 xv195.f_Key.f_SrcPort, v16 xv195.f_Key.f_DstPort, v64 xv195.f_Packets, v64 xv195.f_Bytes, v64 xv195.f_First, v64 xv195.f_Last, v8 xv195.f_Flags, v8 xv195.f_Reason, v8 xv195.f_Class]) ag46 rfl (Cs.addsN [] ((hM.bx (i := 5) rfl).fut hf) rfl)) ?_
  refine RD.alt ?_ ?_
  ·refine RD.mq rfl rfl (O.loadN (cs := [vB xv195.f_Key.f_Src.f_Six, o8 xv195.f_Key.f_Src.f_B 0, o8 xv195.f_Key.f_Src.f_B 1, o8 xv195.f_Key.f_Src.f_B 2, o8 xv195.f_Key.f_Src.f_B 3, o8 xv195.f_Key.f_Src.f_B 4, o8 xv195.f_Key.f_Src.f_B 5, o8 xv195.f_Key.f_Src.f_B 6, o8 xv195.f_Key.f_Src.f_B 7, o8 xv195.f_Key.f_Src.f_B 8, o8 xv195.f_Key.f_Src.f_B 9, o8 xv195.f_Key.f_Src.f_B 10, o8 xv195.f_Key.f_Src.f_B 11, o8 xv195.f_Key.f_Src.f_B 12, o8 xv195.f_Key.f_Src.f_B 13, o8 xv195.f_Key.f_Src.f_B 14, o8 xv195.f_Key.f_Src.f_B 15, vB xv195.f_Key.f_Dst.f_Six, o8 xv195.f_Key.f_Dst.f_B 0, o8 xv195.f_Key.f_Dst.f_B 1, o8 xv195.f_Key.f_Dst.f_B 2, o8 xv195.f_Key.f_Dst.f_B 3, o8 xv195.f_Key.f_Dst.f_B 4, o8 xv195.f_Key.f_Dst.f_B 5, o8 xv195.f_Key.f_Dst.f_B 6, o8 xv195.f_Key.f_Dst.f_B 7, o8 xv195.f_Key.f_Dst.f_B 8, o8 xv195.f_Key.f_Dst.f_B 9, o8 xv195.f_Key.f_Dst.f_B 10, o8 xv195.f_Key.f_Dst.f_B 11, o8 xv195.f_Key.f_Dst.f_B 12, o8 xv195.f_Key.f_Dst.f_B 13, o8 xv195.f_Key.f_Dst.f_B 14, o8 xv195.f_Key.f_Dst.f_B 15, v8 xv195.f_Key.f_Proto, v16 xv195.f_Key.f_SrcPort, v16 xv195.f_Key.f_DstPort]) ag36 rfl (Cs.addsN [0] ((hM.bx (i := 5) rfl)) rfl)) rfl ?_
   refine obindE hF fun y200 hx201 hF => ?_
   refine RD.mcallv rfl rfl trivial (first := []) (captured := []) rfl Try.func40 bd40 rfl rfl (c_cache_forced _ xv195 _ hx201) fun v w202 hv => ?_
   obtain ⟨rfl, hN203⟩ := hv
   refine ⟨fun _ => hN203.fut, ?_⟩
   replace hM := hM.call0 hN203
   refine obindE hF fun y204 hx205 hF => ?_
   refine RD.mcall rfl rfl trivial Try.func30 bd30 rfl rfl (c_cache_Cache_end _ _ _ (T_cache_Cache.mk p164 (T_cache_Bounds.mk p165 p166 p167 p168 p169) (T_table_Table.mk p175 p176) p180) _ _ _ _ _ (hM.lent [3, 1, 0, 2] rfl (by decide)) xv195.f_Key y200 _ hx205) fun v w206 hv => ?_
   obtain ⟨g208, A210, c211, A213, c214, rfl, hN207⟩ := hv
   refine ⟨fun h => (by cases h), ?_⟩
   replace hM := hM.callL [3, 1, 0, 2] [4, 5] rfl rfl (by decide) rfl hN207
   refine RD.meff rfl rfl (E.bsl (enc := e_flow_Record) (xs := ([y204.1] : List T_flow_Record)) hM sl41 ze46 rfl rfl rfl (fun _ => rfl) rfl (by kernel_rfl) rfl) rfl fun v w216 hv => ?_
   clear hM
   obtain ⟨A217, rfl, hM, hf⟩ := hv
   refine ⟨fun _ => hf, ?_⟩
   refine cut_someE hF fun hq222 hF => ?_
   refine RD.meff rfl rfl (E.app (enc := e_flow_Record) (xs := out184) (ys := ([y204.1] : List T_flow_Record)) (j := 0) hM rfl sl41 ze46 rfl rfl rfl rfl rfl (hM.rd (i := 6) rfl) (fun _ => One.all rfl) (of_decide_eq_true hq222)) rfl fun v w221 hv => ?_
   clear hM
   obtain ⟨A219, c220, rfl, hM, hf⟩ := hv
   refine ⟨fun h => (by cases h), ?_⟩
   refine RD.p rfl rfl rfl rfl (fun w' => O.assign rfl) ?_
   refine RD.nil ?_
   refine KQ.blk_n ?_
   refine KQ.thn hQ191 ?_
   clear hQ191 Q191
   replace hM := hM.pick [0, 2, 3, 4, 5] rfl (by decide)
   refine KC.region ?_
   refine RL.val (O.add rfl rfl) rfl ?_
   refine vm rfl rfl ?_
   refine RL.nil ?_
   refine KQ.then_k ?_
   replace hM := hM.pick [3, 2, 4, 1, 0] rfl (by decide)
   exact fun a ha => ⟨k188, Nat.lt_succ_self k188, g208, A210, c211, A213, c214, A219, c220, y204.2.f_tick, y204.2.f_bounds.f_Flows, y204.2.f_bounds.f_Idle, y204.2.f_bounds.f_Active, y204.2.f_bounds.f_Packets, y204.2.f_bounds.f_Bytes, y204.2.f_places.f_slots, y204.2.f_places.f_many, y204.2.f_flows, (out184 ++ ([y204.1] : List T_flow_Record)), (IntKind.i64.wrap (t185 + 1)), ha.less (less_cons rfl (less_cons rfl (less_cons rfl (less_cons rfl (less_cons rfl (less_cons rfl less_nil)))))), hM, hF⟩
  refine obindE hF fun y224 hx225 hF => ?_
  refine RD.mcallv rfl rfl trivial (first := []) (captured := []) rfl Try.func40 bd40 rfl rfl (c_cache_forced _ xv195 _ hx225) fun v w226 hv => ?_
  obtain ⟨rfl, hN227⟩ := hv
  refine ⟨fun _ => hN227.fut, ?_⟩
  replace hM := hM.call0 hN227
  refine RD.mq rfl rfl (O.loadN (cs := [vB xv195.f_Key.f_Src.f_Six, o8 xv195.f_Key.f_Src.f_B 0, o8 xv195.f_Key.f_Src.f_B 1, o8 xv195.f_Key.f_Src.f_B 2, o8 xv195.f_Key.f_Src.f_B 3, o8 xv195.f_Key.f_Src.f_B 4, o8 xv195.f_Key.f_Src.f_B 5, o8 xv195.f_Key.f_Src.f_B 6, o8 xv195.f_Key.f_Src.f_B 7, o8 xv195.f_Key.f_Src.f_B 8, o8 xv195.f_Key.f_Src.f_B 9, o8 xv195.f_Key.f_Src.f_B 10, o8 xv195.f_Key.f_Src.f_B 11, o8 xv195.f_Key.f_Src.f_B 12, o8 xv195.f_Key.f_Src.f_B 13, o8 xv195.f_Key.f_Src.f_B 14, o8 xv195.f_Key.f_Src.f_B 15, vB xv195.f_Key.f_Dst.f_Six, o8 xv195.f_Key.f_Dst.f_B 0, o8 xv195.f_Key.f_Dst.f_B 1, o8 xv195.f_Key.f_Dst.f_B 2, o8 xv195.f_Key.f_Dst.f_B 3, o8 xv195.f_Key.f_Dst.f_B 4, o8 xv195.f_Key.f_Dst.f_B 5, o8 xv195.f_Key.f_Dst.f_B 6, o8 xv195.f_Key.f_Dst.f_B 7, o8 xv195.f_Key.f_Dst.f_B 8, o8 xv195.f_Key.f_Dst.f_B 9, o8 xv195.f_Key.f_Dst.f_B 10, o8 xv195.f_Key.f_Dst.f_B 11, o8 xv195.f_Key.f_Dst.f_B 12, o8 xv195.f_Key.f_Dst.f_B 13, o8 xv195.f_Key.f_Dst.f_B 14, o8 xv195.f_Key.f_Dst.f_B 15, v8 xv195.f_Key.f_Proto, v16 xv195.f_Key.f_SrcPort, v16 xv195.f_Key.f_DstPort]) ag36 rfl (Cs.addsN [0] ((hM.bx (i := 5) rfl)) rfl)) rfl ?_
  refine obindE hF fun y228 hx229 hF => ?_
  refine RD.mcall rfl rfl trivial Try.func30 bd30 rfl rfl (c_cache_Cache_end _ _ _ (T_cache_Cache.mk p164 (T_cache_Bounds.mk p165 p166 p167 p168 p169) (T_table_Table.mk p175 p176) p180) _ _ _ _ _ (hM.lent [3, 1, 0, 2] rfl (by decide)) xv195.f_Key y224 _ hx229) fun v w230 hv => ?_
  obtain ⟨g232, A234, c235, A237, c238, rfl, hN231⟩ := hv
  refine ⟨fun h => (by cases h), ?_⟩
  replace hM := hM.callL [3, 1, 0, 2] [4, 5] rfl rfl (by decide) rfl hN231
  refine RD.meff rfl rfl (E.bsl (enc := e_flow_Record) (xs := ([y228.1] : List T_flow_Record)) hM sl41 ze46 rfl rfl rfl (fun _ => rfl) rfl (by kernel_rfl) rfl) rfl fun v w240 hv => ?_
  clear hM
  obtain ⟨A241, rfl, hM, hf⟩ := hv
  refine ⟨fun _ => hf, ?_⟩
  refine cut_someE hF fun hq246 hF => ?_
  refine RD.meff rfl rfl (E.app (enc := e_flow_Record) (xs := out184) (ys := ([y228.1] : List T_flow_Record)) (j := 0) hM rfl sl41 ze46 rfl rfl rfl rfl rfl (hM.rd (i := 6) rfl) (fun _ => One.all rfl) (of_decide_eq_true hq246)) rfl fun v w245 hv => ?_
  clear hM
  obtain ⟨A243, c244, rfl, hM, hf⟩ := hv
  refine ⟨fun h => (by cases h), ?_⟩
  refine RD.p rfl rfl rfl rfl (fun w' => O.assign rfl) ?_
  refine RD.nil ?_
  refine KQ.blk_n ?_
  refine KQ.thn hQ191 ?_
  clear hQ191 Q191
  replace hM := hM.pick [0, 2, 3, 4, 5] rfl (by decide)
  refine KC.region ?_
  refine RL.val (O.add rfl rfl) rfl ?_
  refine vm rfl rfl ?_
  refine RL.nil ?_
  refine KQ.then_k ?_
  replace hM := hM.pick [3, 2, 4, 1, 0] rfl (by decide)
  exact fun a ha => ⟨k188, Nat.lt_succ_self k188, g232, A234, c235, A237, c238, A243, c244, y228.2.f_tick, y228.2.f_bounds.f_Flows, y228.2.f_bounds.f_Idle, y228.2.f_bounds.f_Active, y228.2.f_bounds.f_Packets, y228.2.f_bounds.f_Bytes, y228.2.f_places.f_slots, y228.2.f_places.f_many, y228.2.f_flows, (out184 ++ ([y228.1] : List T_flow_Record)), (IntKind.i64.wrap (t185 + 1)), ha.less (less_cons rfl (less_cons rfl (less_cons rfl (less_cons rfl (less_cons rfl (less_cons rfl less_nil)))))), hM, hF⟩
 rw [if_neg (ne_true hc)] at hF
 refine KC.exit ?_
 refine KQ.thx hQ190 ?_
 clear hQ190 Q190
 refine KQ.then_x ?_
 refine KQ.blk_x ?_
 refine KQ.thn hQ20 ?_
 clear hQ20 Q20
 refine sr fun Q248 hQ248 => ?_
 refine vm rfl rfl ?_
 refine va rfl rfl ?_
 refine nt hQ248 ?_
 clear hQ248 Q248
 refine KC.ret ?_
 have hE := Option.some.inj hF
 clear hF
 subst hE
 replace hM := hM.pick [3, 1, 0, 2, 4] rfl (by decide)
 refine KQ.rets Try.results37 (RVs.cons (RV.tm rfl) RVs.nil) ?_
 exact ⟨_, rfl, g171, A173, c174, A178, c179, A182, c183, rfl, hM⟩
set_option maxRecDepth 100000 in
set_option maxHeartbeats 40000000 in
theorem c_cache_Cache_Flush (w : World) (g2 : Nat) (tg12 : TypeId) (cv1 : T_cache_Cache) (g4 : Nat) (A6 : Option Addr) (c7 : Nat) (A9 : Option Addr) (c10 : Nat) (hL13 : Lent w [.box g2 tg12 [v64 cv1.f_tick, vI cv1.f_bounds.f_Flows, v64 cv1.f_bounds.f_Idle, v64 cv1.f_bounds.f_Active, v64 cv1.f_bounds.f_Packets, v64 cv1.f_bounds.f_Bytes, .pointer (some ⟨g4, 0, none⟩), .slice A9 (cv1.f_flows).length c10], .box g4 96 [.slice A6 (cv1.f_places.f_slots).length c7, vI cv1.f_places.f_many], .row A6 c7 102 39 (cv1.f_places.f_slots).length ((cv1.f_places.f_slots).flatMap e_table_Slot), .row A9 c10 46 44 (cv1.f_flows).length ((cv1.f_flows).flatMap e_flow_Record)]) (r : (List T_flow_Record) × T_cache_Cache) (hF : F_cache_Cache_Flush cv1 = some r) :
  CallsR Try.prog 11 [.pointer (some ⟨g2, 0, none⟩)] w (fun v w' => ∃ (g0 : Nat) (A1 : Option Addr) (c1 : Nat) (A2 : Option Addr) (c2 : Nat) (A3 : Option Addr) (c3 : Nat), v = .slice A3 (r.1).length c3 ∧ Mem w [some g2, some g4, rblk A6 c7, rblk A9 c10] w' [.box g2 tg12 [v64 r.2.f_tick, vI r.2.f_bounds.f_Flows, v64 r.2.f_bounds.f_Idle, v64 r.2.f_bounds.f_Active, v64 r.2.f_bounds.f_Packets, v64 r.2.f_bounds.f_Bytes, .pointer (some ⟨g0, 0, none⟩), .slice A2 (r.2.f_flows).length c2], .box g0 96 [.slice A1 (r.2.f_places.f_slots).length c1, vI r.2.f_places.f_many], .row A1 c1 102 39 r.2.f_places.f_slots.length (r.2.f_places.f_slots.flatMap e_table_Slot), .row A2 c2 46 44 r.2.f_flows.length (r.2.f_flows.flatMap e_flow_Record), .row A3 c3 46 44 r.1.length (r.1.flatMap e_flow_Record)]) := by
 refine calls_KC Try.func11 rfl Try.ntmps11 rfl ?_
 have hM : Mem w [some g2, some g4, rblk A6 c7, rblk A9 c10] w [.box g2 tg12 [v64 cv1.f_tick, vI cv1.f_bounds.f_Flows, v64 cv1.f_bounds.f_Idle, v64 cv1.f_bounds.f_Active, v64 cv1.f_bounds.f_Packets, v64 cv1.f_bounds.f_Bytes, .pointer (some ⟨g4, 0, none⟩), .slice A9 (cv1.f_flows).length c10], .box g4 96 [.slice A6 (cv1.f_places.f_slots).length c7, vI cv1.f_places.f_many], .row A6 c7 102 39 (cv1.f_places.f_slots).length ((cv1.f_places.f_slots).flatMap e_table_Slot), .row A9 c10 46 44 (cv1.f_flows).length ((cv1.f_flows).flatMap e_flow_Record)] := Mem.lendN hL13
 unfold F_cache_Cache_Flush at hF
 refine sr fun Q14 hQ14 => ?_
 refine va rfl rfl ?_
 refine nt hQ14 ?_
 clear hQ14 Q14
 refine KC.seqH fun Q15 hQ15 => ?_
 refine sr fun Q16 hQ16 => ?_
 refine vm rfl rfl ?_
 refine RL.val (O.peqn Try.underlying27 rfl rfl) rfl ?_
 refine nt hQ16 ?_
 clear hQ16 Q16
 refine KC.condF rfl ?_
 refine KC.skip ?_
 refine KQ.thn hQ15 ?_
 clear hQ15 Q15
 refine sr fun Q17 hQ17 => ?_
 refine vm rfl rfl ?_
 refine vm rfl rfl ?_
 refine obindE hF fun y18 hx19 hF => ?_
 refine RL.call Try.func17 bd17 rfl rfl (c_cache_Cache_All _ _ _ cv1 _ _ _ _ _ (hM.lent [0, 1, 2, 3] rfl (by decide)) _ hx19) fun v w20 hv => ?_
 obtain ⟨g22, A24, c25, A27, c28, A30, c31, rfl, hN21⟩ := hv
 replace hM := hM.callL [0, 1, 2, 3] [] rfl rfl (by decide) rfl hN21
 refine obindE hF fun y33 hx34 hF => ?_
 refine RL.call Try.func37 bd37 rfl rfl (c_cache_Cache_ends_fcache_forced _ _ _ y18.2 _ _ _ _ _ (hM.lent [0, 1, 2, 3] rfl (by decide)) _ _ y18.1 (hM.rd (i := 4) rfl) (hM.offR [0, 1, 2, 3] rfl (i := 4) rfl rfl) _ hx34) fun v w35 hv => ?_
 obtain ⟨g37, A39, c40, A42, c43, A45, c46, rfl, hN36⟩ := hv
 replace hM := hM.callL [0, 1, 2, 3] [4] rfl rfl (by decide) rfl hN36
 refine va rfl rfl ?_
 refine nt hQ17 ?_
 clear hQ17 Q17
 refine KC.ret ?_
 have hE := Option.some.inj hF
 clear hF
 subst hE
 replace hM := hM.pick [1, 2, 3, 4, 5] rfl (by decide)
 refine KQ.rets Try.results11 (RVs.cons (RV.tm rfl) RVs.nil) ?_
 exact ⟨_, rfl, g37, A39, c40, A42, c43, A45, c46, rfl, hM⟩
set_option maxRecDepth 100000 in
set_option maxHeartbeats 40000000 in
theorem c_cache_Cache_Tick_B (w : World) (g2 : Nat) (tg6 : TypeId) (cv1 : T_cache_Cache) (vo4 : Value) (vo5 : Value) (hL7 : Lent w [.box g2 tg6 [v64 cv1.f_tick, vI cv1.f_bounds.f_Flows, v64 cv1.f_bounds.f_Idle, v64 cv1.f_bounds.f_Active, v64 cv1.f_bounds.f_Packets, v64 cv1.f_bounds.f_Bytes, vo4, vo5]]) (r : Int) (hF : F_cache_Cache_Tick cv1 = some r) :
  CallsR Try.prog 12 [.pointer (some ⟨g2, 0, none⟩)] w (fun v w' => v = v64 r ∧ Mem w [some g2] w' [.box g2 tg6 [v64 cv1.f_tick, vI cv1.f_bounds.f_Flows, v64 cv1.f_bounds.f_Idle, v64 cv1.f_bounds.f_Active, v64 cv1.f_bounds.f_Packets, v64 cv1.f_bounds.f_Bytes, vo4, vo5]]) := by
 refine calls_KC Try.func12 rfl Try.ntmps12 rfl ?_
 have hM : Mem w [some g2] w [.box g2 tg6 [v64 cv1.f_tick, vI cv1.f_bounds.f_Flows, v64 cv1.f_bounds.f_Idle, v64 cv1.f_bounds.f_Active, v64 cv1.f_bounds.f_Packets, v64 cv1.f_bounds.f_Bytes, vo4, vo5]] := Mem.lendN hL7
 unfold F_cache_Cache_Tick at hF
 refine sr fun Q8 hQ8 => ?_
 refine va rfl rfl ?_
 refine nt hQ8 ?_
 clear hQ8 Q8
 refine KC.seqH fun Q9 hQ9 => ?_
 refine sr fun Q10 hQ10 => ?_
 refine vm rfl rfl ?_
 refine RL.val (O.peqn Try.underlying27 rfl rfl) rfl ?_
 refine nt hQ10 ?_
 clear hQ10 Q10
 refine KC.condF rfl ?_
 refine KC.skip ?_
 refine KQ.thn hQ9 ?_
 clear hQ9 Q9
 refine sr fun Q11 hQ11 => ?_
 refine vm rfl rfl ?_
 refine RL.val (O.nilp rfl) rfl ?_
 refine RL.val (O.fldA fl74_0 (by decide) rfl) rfl ?_
 refine RL.val (O.load sc22 rfl (Cs.adds [0] ((hM.bx (i := 0) rfl)) rfl)) rfl ?_
 refine va rfl rfl ?_
 refine nt hQ11 ?_
 clear hQ11 Q11
 refine KC.ret ?_
 have hE := Option.some.inj hF
 clear hF
 subst hE
 refine KQ.rets Try.results12 (RVs.cons (RV.tm rfl) RVs.nil) ?_
 exact ⟨_, rfl, rfl, hM⟩
theorem c_cache_Cache_Tick (w : World) (g2 : Nat) (tg6 : TypeId) (cv1 : T_cache_Cache) (vo4 : Value) (vo5 : Value) (hL7 : Lent w [.box g2 tg6 [v64 cv1.f_tick, vI cv1.f_bounds.f_Flows, v64 cv1.f_bounds.f_Idle, v64 cv1.f_bounds.f_Active, v64 cv1.f_bounds.f_Packets, v64 cv1.f_bounds.f_Bytes, vo4, vo5]]) (r : Int) (hF : F_cache_Cache_Tick cv1 = some r) :
  CallsR Try.prog 12 [.pointer (some ⟨g2, 0, none⟩)] w (fun v w' => v = v64 r ∧ Mem w [] w' []) := Calls.mono (c_cache_Cache_Tick_B w g2 tg6 cv1 vo4 vo5 hL7 r hF) fun e w1 ⟨v, he, hv, hm⟩ => ⟨v, he, hv, hm.still hL7 rfl rfl⟩
set_option maxRecDepth 100000 in
set_option maxHeartbeats 40000000 in
theorem c_law24_young (w : World) (g2 : Nat) (tg12 : TypeId) (cv1 : T_cache_Cache) (g4 : Nat) (A6 : Option Addr) (c7 : Nat) (A9 : Option Addr) (c10 : Nat) (hL14 : Lent w [.box g2 tg12 [v64 cv1.f_tick, vI cv1.f_bounds.f_Flows, v64 cv1.f_bounds.f_Idle, v64 cv1.f_bounds.f_Active, v64 cv1.f_bounds.f_Packets, v64 cv1.f_bounds.f_Bytes, .pointer (some ⟨g4, 0, none⟩), .slice A9 (cv1.f_flows).length c10], .box g4 96 [.slice A6 (cv1.f_places.f_slots).length c7, vI cv1.f_places.f_many], .row A6 c7 102 39 (cv1.f_places.f_slots).length ((cv1.f_places.f_slots).flatMap e_table_Slot), .row A9 c10 46 44 (cv1.f_flows).length ((cv1.f_flows).flatMap e_flow_Record)]) (b13 : T_cache_Bounds) (r : Bool × T_cache_Cache) (hF : F_law24_young cv1 b13 = some r) :
  CallsR Try.prog 13 [.pointer (some ⟨g2, 0, none⟩), .agg #[vI b13.f_Flows, v64 b13.f_Idle, v64 b13.f_Active, v64 b13.f_Packets, v64 b13.f_Bytes]] w (fun v w' => ∃ (g0 : Nat) (A1 : Option Addr) (c1 : Nat) (A2 : Option Addr) (c2 : Nat), v = vB r.1 ∧ Mem w [some g2, some g4, rblk A6 c7, rblk A9 c10] w' [.box g2 tg12 [v64 r.2.f_tick, vI r.2.f_bounds.f_Flows, v64 r.2.f_bounds.f_Idle, v64 r.2.f_bounds.f_Active, v64 r.2.f_bounds.f_Packets, v64 r.2.f_bounds.f_Bytes, .pointer (some ⟨g0, 0, none⟩), .slice A2 (r.2.f_flows).length c2], .box g0 96 [.slice A1 (r.2.f_places.f_slots).length c1, vI r.2.f_places.f_many], .row A1 c1 102 39 r.2.f_places.f_slots.length (r.2.f_places.f_slots.flatMap e_table_Slot), .row A2 c2 46 44 r.2.f_flows.length (r.2.f_flows.flatMap e_flow_Record)]) := by
 refine calls_KC Try.func13 rfl Try.ntmps13 rfl ?_
 have hM : Mem w [some g2, some g4, rblk A6 c7, rblk A9 c10] w [.box g2 tg12 [v64 cv1.f_tick, vI cv1.f_bounds.f_Flows, v64 cv1.f_bounds.f_Idle, v64 cv1.f_bounds.f_Active, v64 cv1.f_bounds.f_Packets, v64 cv1.f_bounds.f_Bytes, .pointer (some ⟨g4, 0, none⟩), .slice A9 (cv1.f_flows).length c10], .box g4 96 [.slice A6 (cv1.f_places.f_slots).length c7, vI cv1.f_places.f_many], .row A6 c7 102 39 (cv1.f_places.f_slots).length ((cv1.f_places.f_slots).flatMap e_table_Slot), .row A9 c10 46 44 (cv1.f_flows).length ((cv1.f_flows).flatMap e_flow_Record)] := Mem.lendN hL14
 unfold F_law24_young at hF
 refine sr fun Q15 hQ15 => ?_
 refine RL.eff (E.box (vs := [vI b13.f_Flows, v64 b13.f_Idle, v64 b13.f_Active, v64 b13.f_Packets, v64 b13.f_Bytes]) hM rfl rfl) rfl fun v w17 hv => ?_
 clear hM
 obtain ⟨g16, rfl, hM, hf⟩ := hv
 refine va rfl rfl ?_
 refine nt hQ15 ?_
 clear hQ15 Q15
 refine sr fun Q19 hQ19 => ?_
 refine vm rfl rfl ?_
 refine obindE hF fun y20 hx21 hF => ?_
 refine RL.call Try.func20 bd20 rfl rfl (c_cache_Cache_Next _ _ _ cv1 _ _ _ _ _ (hM.lent [0, 1, 2, 3] rfl (by decide)) _ hx21) fun v w22 hv => ?_
 obtain ⟨g24, A26, c27, A29, c30, rfl, hN23⟩ := hv
 replace hM := hM.callL [0, 1, 2, 3] [4] rfl rfl (by decide) rfl hN23
 refine vm rfl rfl ?_
 refine RL.val (O.ext rfl rfl) rfl ?_
 refine RL.val (O.ext rfl rfl) rfl ?_
 refine va rfl rfl ?_
 refine va rfl rfl ?_
 refine nt hQ19 ?_
 clear hQ19 Q19
 refine KC.seqH fun Q32 hQ32 => ?_
 refine KC.cut (fun a w43 => ∃ (t42 : Bool), Kn 53 [(0, .pointer (some ⟨g2, 0, none⟩)), (3, .pointer (some ⟨g16, 0, none⟩)), (20, vB t42)] a ∧ Mem w [some g2, some g4, rblk A6 c7, rblk A9 c10] w43 [.row A26 c27 102 39 (y20.2.2.f_places.f_slots).length ((y20.2.2.f_places.f_slots).flatMap e_table_Slot), .box g24 96 [.slice A26 (y20.2.2.f_places.f_slots).length c27, vI y20.2.2.f_places.f_many], .row A29 c30 46 44 (y20.2.2.f_flows).length ((y20.2.2.f_flows).flatMap e_flow_Record), .box g2 tg12 [v64 y20.2.2.f_tick, vI y20.2.2.f_bounds.f_Flows, v64 y20.2.2.f_bounds.f_Idle, v64 y20.2.2.f_bounds.f_Active, v64 y20.2.2.f_bounds.f_Packets, v64 y20.2.2.f_bounds.f_Bytes, .pointer (some ⟨g24, 0, none⟩), .slice A29 (y20.2.2.f_flows).length c30], .box g16 24 [vI b13.f_Flows, v64 b13.f_Idle, v64 b13.f_Active, v64 b13.f_Packets, v64 b13.f_Bytes]] ∧ F_law24_young_j1 b13 y20 t42 = some r) ?_ ?_
 ·refine KC.region ?_
  refine vm rfl rfl ?_
  refine vm rfl rfl ?_
  refine RL.bcase (t := 15) rfl (fun hc => ?_) (fun hc => ?_)
  ·rw [if_pos hc] at hF
   refine RL.gval rfl rfl (O.move rfl) rfl ?_
   refine RL.gval rfl rfl (O.move rfl) rfl ?_
   refine obindE hF fun y33 hx34 hF => ?_
   refine RL.gcall rfl rfl Try.func12 bd12 rfl rfl (c_cache_Cache_Tick _ _ _ y20.2.2 _ _ (hM.lent [1] rfl (by decide)) _ hx34) fun v w35 hv => ?_
   obtain ⟨rfl, hN36⟩ := hv
   replace hM := hM.call0 hN36
   refine RL.gval rfl rfl (O.leq rfl rfl) rfl ?_
   refine RL.val (O.pickt rfl rfl) rfl ?_
   refine RL.nil ?_
   refine KQ.then_k ?_
   replace hM := hM.pick [3, 2, 4, 1, 0] rfl (by decide)
   exact fun a ha => ⟨(decide (y20.1 ≤ y33)), ha.less (less_cons rfl (less_cons rfl (less_cons rfl less_nil))), hM, hF⟩
  rw [if_neg (ne_true hc)] at hF
  refine RL.brun1 5 20 false (by kernel_rfl) ?_
  refine RL.nil ?_
  refine KQ.then_k ?_
  replace hM := hM.pick [3, 2, 4, 1, 0] rfl (by decide)
  exact fun a ha => ⟨false, ha.less (less_cons rfl (less_cons rfl (less_cons rfl less_nil))), hM, hF⟩
 rintro a w43 ⟨t42, ha, hM, hF⟩
 refine KC.app ha ?_
 clear ha
 unfold F_law24_young_j1 at hF
 refine KC.cond rfl (fun hc => ?_) (fun hc => ?_)
 ·rw [if_pos hc] at hF
  refine sr fun Q44 hQ44 => ?_
  refine va rfl rfl ?_
  refine nt hQ44 ?_
  clear hQ44 Q44
  refine KC.ret ?_
  refine KQ.thr hQ32 ?_
  clear hQ32 Q32
  have hE := Option.some.inj hF
  clear hF
  subst hE
  replace hM := hM.pick [3, 1, 0, 2] rfl (by decide)
  refine KQ.rets Try.results13 (RVs.cons (RV.tm rfl) RVs.nil) ?_
  exact ⟨_, rfl, g24, A26, c27, A29, c30, rfl, hM⟩
 rw [if_neg (ne_true hc)] at hF
 refine KC.skip ?_
 refine KQ.thn hQ32 ?_
 clear hQ32 Q32
 refine sr fun Q45 hQ45 => ?_
 refine vm rfl rfl ?_
 refine obindE hF fun y46 hx47 hF => ?_
 refine RL.call Try.func17 bd17 rfl rfl (c_cache_Cache_All _ _ _ y20.2.2 _ _ _ _ _ (hM.lent [3, 1, 0, 2] rfl (by decide)) _ hx47) fun v w48 hv => ?_
 obtain ⟨g50, A52, c53, A55, c56, A58, c59, rfl, hN49⟩ := hv
 replace hM := hM.callL [3, 1, 0, 2] [4] rfl rfl (by decide) rfl hN49
 refine va rfl rfl ?_
 refine nt hQ45 ?_
 clear hQ45 Q45
 refine KC.seqH fun Q61 hQ61 => ?_
 refine sr fun Q62 hQ62 => ?_
 refine va rfl rfl ?_
 refine nt hQ62 ?_
 clear hQ62 Q62
 refine KC.block ?_
 refine KC.loop (fun k131 a w129 => ∃ (i128 : Int), Kn 53 [(0, .pointer (some ⟨g2, 0, none⟩)), (3, .pointer (some ⟨g16, 0, none⟩)), (7, .slice A58 (y46.1).length c59), (8, vI i128)] a ∧ Mem w [some g2, some g4, rblk A6 c7, rblk A9 c10] w129 [.row A52 c53 102 39 (y46.2.f_places.f_slots).length ((y46.2.f_places.f_slots).flatMap e_table_Slot), .box g50 96 [.slice A52 (y46.2.f_places.f_slots).length c53, vI y46.2.f_places.f_many], .row A55 c56 46 44 (y46.2.f_flows).length ((y46.2.f_flows).flatMap e_flow_Record), .box g2 tg12 [v64 y46.2.f_tick, vI y46.2.f_bounds.f_Flows, v64 y46.2.f_bounds.f_Idle, v64 y46.2.f_bounds.f_Active, v64 y46.2.f_bounds.f_Packets, v64 y46.2.f_bounds.f_Bytes, .pointer (some ⟨g50, 0, none⟩), .slice A55 (y46.2.f_flows).length c56], .box g16 24 [vI b13.f_Flows, v64 b13.f_Idle, v64 b13.f_Active, v64 b13.f_Packets, v64 b13.f_Bytes], .row A58 c59 46 44 (y46.1).length ((y46.1).flatMap e_flow_Record)] ∧ F_law24_young_L1 b13 y46 k131 i128 = some r) ?_ ?_
 ·replace hM := hM.pick [3, 2, 4, 1, 0, 5] rfl (by decide)
  exact fun a ha => ⟨fuel0, 0, ha.less (less_cons rfl (less_cons rfl (less_cons rfl (less_cons rfl less_nil)))), hM, hF⟩
 rintro k131 a w129 ⟨i128, ha, hM, hF⟩
 refine KC.app ha ?_
 clear ha
 cases k131 with
 | zero => exact (none_some hF).elim
 | succ k131 =>
 have hF : F_law24_young_l1 (F_law24_young_L1 b13 y46 k131) b13 y46 i128 = some r := hF
 unfold F_law24_young_l1 at hF
 refine KC.seqH fun Q132 hQ132 => ?_
 refine sr fun Q133 hQ133 => ?_
 refine vm rfl rfl ?_
 refine vm rfl rfl ?_
 refine RL.val (O.len sl41 rfl) rfl ?_
 refine RL.val (O.lss rfl rfl) rfl ?_
 refine nt hQ133 ?_
 clear hQ133 Q133
 refine KC.cond rfl (fun hc => ?_) (fun hc => ?_)
 ·rw [if_pos hc] at hF
  refine KC.skip ?_
  refine KQ.thn hQ132 ?_
  clear hQ132 Q132
  refine KC.seqH fun Q134 hQ134 => ?_
  refine KC.block ?_
  refine KC.cut (fun a w156 => ∃ (t155 : Bool), Kn 53 [(0, .pointer (some ⟨g2, 0, none⟩)), (3, .pointer (some ⟨g16, 0, none⟩)), (7, .slice A58 (y46.1).length c59), (8, vI i128), (52, vB t155)] a ∧ Mem w [some g2, some g4, rblk A6 c7, rblk A9 c10] w156 [.row A52 c53 102 39 (y46.2.f_places.f_slots).length ((y46.2.f_places.f_slots).flatMap e_table_Slot), .box g50 96 [.slice A52 (y46.2.f_places.f_slots).length c53, vI y46.2.f_places.f_many], .row A55 c56 46 44 (y46.2.f_flows).length ((y46.2.f_flows).flatMap e_flow_Record), .box g2 tg12 [v64 y46.2.f_tick, vI y46.2.f_bounds.f_Flows, v64 y46.2.f_bounds.f_Idle, v64 y46.2.f_bounds.f_Active, v64 y46.2.f_bounds.f_Packets, v64 y46.2.f_bounds.f_Bytes, .pointer (some ⟨g50, 0, none⟩), .slice A55 (y46.2.f_flows).length c56], .box g16 24 [vI b13.f_Flows, v64 b13.f_Idle, v64 b13.f_Active, v64 b13.f_Packets, v64 b13.f_Bytes], .row A58 c59 46 44 (y46.1).length ((y46.1).flatMap e_flow_Record)] ∧ F_law24_young_j2 y46 i128 (F_law24_young_L1 b13 y46 k131) t155 = some r) ?_ ?_
  ·replace hM := hM.drewN 1
   refine KC.draw [] [] [1, 13] [0, 2, 3, 5, 7, 8, 10, 11, 12, 14, 15, 17, 19, 20, 22, 23] (.ofList [0, 2, 3, 4, 5, 6, 8, 9, 1, 7, 10, 11, 12, 14, 15, 16, 17, 18, 20, 21, 13, 19, 22, 23]) moP (by kernel_rfl) ?_
   refine RD.p rfl rfl rfl rfl (fun w' => O.move rfl) ?_
   refine RD.p rfl rfl rfl rfl (fun w' => O.move rfl) ?_
   refine RD.p rfl rfl rfl rfl (fun w' => O.move rfl) ?_
   refine obindE hF fun xv137 hx136 hF => ?_
   have hA135 := Rd.atN (f := e_flow_Record) (s := 44) (fun _ => rfl) (by decide) (hM.rd (i := 5) rfl) hx136
   refine RD.q rfl rfl rfl rfl (fun w' hf => O.idxA sl41 (hA135.fut hf) rfl rfl) ?_
   refine RD.p rfl rfl rfl rfl (fun w' => O.fldA fl46_3 (by decide) rfl) ?_
   refine RD.q rfl rfl rfl rfl (fun w' hf => O.load sc22 rfl (Cs.adds [39] (hA135.fut hf).cells rfl)) ?_
   refine RD.p rfl rfl rfl rfl (fun w' => O.fldA fl24_2 (by decide) rfl) ?_
   refine RD.q rfl rfl rfl rfl (fun w' hf => O.load sc22 rfl (Cs.adds [2] ((hM.bx (i := 4) rfl).fut hf) rfl)) ?_
   refine obindE hF fun y138 hx139 hF => ?_
   refine RD.mcall rfl rfl trivial Try.func12 bd12 rfl rfl (c_cache_Cache_Tick _ _ _ y46.2 _ _ (hM.lent [3] rfl (by decide)) _ hx139) fun v w140 hv => ?_
   obtain ⟨rfl, hN141⟩ := hv
   refine ⟨fun _ => hN141.fut, ?_⟩
   replace hM := hM.call0 hN141
   refine RD.p rfl rfl rfl rfl (fun w' => O.sub rfl rfl) ?_
   refine RD.p rfl rfl rfl rfl (fun w' => O.geq rfl rfl) ?_
   refine RD.p rfl rfl rfl rfl (fun w' => O.move rfl) ?_
   refine RD.bcase (t := 40) rfl (fun hc => ?_) (fun hc => ?_)
   ·rw [if_pos hc] at hF
    refine RD.gskip rfl rfl rfl rfl rfl ?_
    refine RD.gskip rfl rfl rfl rfl rfl ?_
    refine RD.gskip rfl rfl rfl rfl rfl ?_
    refine RD.gskip rfl rfl rfl rfl rfl ?_
    refine RD.gskip rfl rfl rfl rfl rfl ?_
    refine RD.gskip rfl rfl rfl rfl rfl ?_
    refine RD.gskip rfl rfl rfl rfl rfl ?_
    refine RD.gskip rfl rfl rfl rfl rfl ?_
    refine RD.gskip rfl rfl rfl rfl rfl ?_
    refine RD.gskip rfl rfl rfl rfl rfl ?_
    refine RD.gskip rfl rfl rfl rfl rfl ?_
    refine RD.p rfl rfl rfl rfl (fun w' => O.pickt rfl rfl) ?_
    refine RD.nil ?_
    refine KQ.then_k ?_
    exact fun a ha => ⟨true, ha.less (less_cons rfl (less_cons rfl (less_cons rfl (less_cons rfl (less_cons rfl less_nil))))), hM, hF⟩
   rw [if_neg (ne_true hc)] at hF
   refine RD.gp rfl rfl rfl rfl rfl rfl (fun w' => O.move rfl) ?_
   refine RD.gp rfl rfl rfl rfl rfl rfl (fun w' => O.move rfl) ?_
   refine RD.gp rfl rfl rfl rfl rfl rfl (fun w' => O.move rfl) ?_
   refine obindE hF fun xv144 hx143 hF => ?_
   have hA142 := Rd.atN (f := e_flow_Record) (s := 44) (fun _ => rfl) (by decide) (hM.rd (i := 5) rfl) hx143
   refine RD.gq rfl rfl rfl rfl rfl rfl (fun w' hf => O.idxA sl41 (hA142.fut hf) rfl rfl) ?_
   refine RD.gp rfl rfl rfl rfl rfl rfl (fun w' => O.fldA fl46_4 (by decide) rfl) ?_
   refine RD.gq rfl rfl rfl rfl rfl rfl (fun w' hf => O.load sc22 rfl (Cs.adds [40] (hA142.fut hf).cells rfl)) ?_
   refine RD.gp rfl rfl rfl rfl rfl rfl (fun w' => O.fldA fl24_1 (by decide) rfl) ?_
   refine RD.gq rfl rfl rfl rfl rfl rfl (fun w' hf => O.load sc22 rfl (Cs.adds [1] ((hM.bx (i := 4) rfl).fut hf) rfl)) ?_
   refine obindE hF fun y145 hx146 hF => ?_
   refine RD.mcall rfl rfl ⟨rfl, rfl⟩ Try.func12 bd12 rfl rfl (c_cache_Cache_Tick _ _ _ y46.2 _ _ (hM.lent [3] rfl (by decide)) _ hx146) fun v w147 hv => ?_
   obtain ⟨rfl, hN148⟩ := hv
   refine ⟨fun _ => hN148.fut, ?_⟩
   replace hM := hM.call0 hN148
   refine RD.gp rfl rfl rfl rfl rfl rfl (fun w' => O.sub rfl rfl) ?_
   refine RD.gp rfl rfl rfl rfl rfl rfl (fun w' => O.geq rfl rfl) ?_
   refine RD.p rfl rfl rfl rfl (fun w' => O.pickf rfl rfl) ?_
   refine RD.nil ?_
   refine KQ.then_k ?_
   exact fun a ha => ⟨(decide (b13.f_Idle ≤ (IntKind.u64.wrap (y145 - xv144.f_Last)))), ha.less (less_cons rfl (less_cons rfl (less_cons rfl (less_cons rfl (less_cons rfl less_nil))))), hM, hF⟩
  rintro a w156 ⟨t155, ha, hM, hF⟩
  refine KC.app ha ?_
  clear ha
  unfold F_law24_young_j2 at hF
  refine KC.cond rfl (fun hc => ?_) (fun hc => ?_)
  ·rw [if_pos hc] at hF
   refine sr fun Q157 hQ157 => ?_
   refine va rfl rfl ?_
   refine nt hQ157 ?_
   clear hQ157 Q157
   refine KC.ret ?_
   refine KQ.blk_r ?_
   refine KQ.thr hQ134 ?_
   clear hQ134 Q134
   refine KQ.then_r ?_
   refine KQ.blk_r ?_
   refine KQ.thr hQ61 ?_
   clear hQ61 Q61
   have hE := Option.some.inj hF
   clear hF
   subst hE
   replace hM := hM.pick [3, 1, 0, 2] rfl (by decide)
   refine KQ.rets Try.results13 (RVs.cons (RV.tm rfl) RVs.nil) ?_
   exact ⟨_, rfl, g50, A52, c53, A55, c56, rfl, hM⟩
  rw [if_neg (ne_true hc)] at hF
  refine KC.skip ?_
  refine KQ.blk_n ?_
  refine KQ.thn hQ134 ?_
  clear hQ134 Q134
  refine KC.region ?_
  refine vm rfl rfl ?_
  refine RL.val (O.add rfl rfl) rfl ?_
  refine va rfl rfl ?_
  refine RL.nil ?_
  refine KQ.then_k ?_
  exact fun a ha => ⟨k131, Nat.lt_succ_self k131, (IntKind.i64.wrap (i128 + 1)), ha.less (less_cons rfl (less_cons rfl (less_cons rfl (less_cons rfl less_nil)))), hM, hF⟩
 rw [if_neg (ne_true hc)] at hF
 refine KC.exit ?_
 refine KQ.thx hQ132 ?_
 clear hQ132 Q132
 refine KQ.then_x ?_
 refine KQ.blk_x ?_
 refine KQ.thn hQ61 ?_
 clear hQ61 Q61
 replace hM := hM.pick [0, 1, 2, 3] rfl (by decide)
 refine sr fun Q158 hQ158 => ?_
 refine va rfl rfl ?_
 refine nt hQ158 ?_
 clear hQ158 Q158
 refine KC.ret ?_
 have hE := Option.some.inj hF
 clear hF
 subst hE
 replace hM := hM.pick [3, 1, 0, 2] rfl (by decide)
 refine KQ.rets Try.results13 (RVs.cons (RV.tm rfl) RVs.nil) ?_
 exact ⟨_, rfl, g50, A52, c53, A55, c56, rfl, hM⟩
end Go.Proofs.Ytkpnocgfhipidaa
