/- Printed by a program of this claim: each call returns what the plain function of its name gives. -/
import Derived.Test.YtkpnocgfhipidaaW1
import Derived.Test.YtkpnocgfhipidaaW2
set_option linter.unusedVariables false
namespace Go.Proofs.Ytkpnocgfhipidaa
open Go Go.Ox Go.RowKit
set_option maxRecDepth 100000 in
set_option maxHeartbeats 40000000 in
theorem c_packet_Key_Right (w : World) (kv1 : T_packet_Key) (r : Bool) (hF : F_packet_Key_Right kv1 = some r) :
  CallsR Try.prog 14 [.agg #[vB kv1.f_Src.f_Six, o8 kv1.f_Src.f_B 0, o8 kv1.f_Src.f_B 1, o8 kv1.f_Src.f_B 2, o8 kv1.f_Src.f_B 3, o8 kv1.f_Src.f_B 4, o8 kv1.f_Src.f_B 5, o8 kv1.f_Src.f_B 6, o8 kv1.f_Src.f_B 7, o8 kv1.f_Src.f_B 8, o8 kv1.f_Src.f_B 9, o8 kv1.f_Src.f_B 10, o8 kv1.f_Src.f_B 11, o8 kv1.f_Src.f_B 12, o8 kv1.f_Src.f_B 13, o8 kv1.f_Src.f_B 14, o8 kv1.f_Src.f_B 15, vB kv1.f_Dst.f_Six, o8 kv1.f_Dst.f_B 0, o8 kv1.f_Dst.f_B 1, o8 kv1.f_Dst.f_B 2, o8 kv1.f_Dst.f_B 3, o8 kv1.f_Dst.f_B 4, o8 kv1.f_Dst.f_B 5, o8 kv1.f_Dst.f_B 6, o8 kv1.f_Dst.f_B 7, o8 kv1.f_Dst.f_B 8, o8 kv1.f_Dst.f_B 9, o8 kv1.f_Dst.f_B 10, o8 kv1.f_Dst.f_B 11, o8 kv1.f_Dst.f_B 12, o8 kv1.f_Dst.f_B 13, o8 kv1.f_Dst.f_B 14, o8 kv1.f_Dst.f_B 15, v8 kv1.f_Proto, v16 kv1.f_SrcPort, v16 kv1.f_DstPort]] w (fun v w' => v = vB r ∧ Mem w [] w' []) := by
 refine calls_KC Try.func14 rfl Try.ntmps14 rfl ?_
 have hM := Mem.init w
 unfold F_packet_Key_Right at hF
 refine sr fun Q2 hQ2 => ?_
 refine RL.eff (E.box (vs := [vB kv1.f_Src.f_Six, o8 kv1.f_Src.f_B 0, o8 kv1.f_Src.f_B 1, o8 kv1.f_Src.f_B 2, o8 kv1.f_Src.f_B 3, o8 kv1.f_Src.f_B 4, o8 kv1.f_Src.f_B 5, o8 kv1.f_Src.f_B 6, o8 kv1.f_Src.f_B 7, o8 kv1.f_Src.f_B 8, o8 kv1.f_Src.f_B 9, o8 kv1.f_Src.f_B 10, o8 kv1.f_Src.f_B 11, o8 kv1.f_Src.f_B 12, o8 kv1.f_Src.f_B 13, o8 kv1.f_Src.f_B 14, o8 kv1.f_Src.f_B 15, vB kv1.f_Dst.f_Six, o8 kv1.f_Dst.f_B 0, o8 kv1.f_Dst.f_B 1, o8 kv1.f_Dst.f_B 2, o8 kv1.f_Dst.f_B 3, o8 kv1.f_Dst.f_B 4, o8 kv1.f_Dst.f_B 5, o8 kv1.f_Dst.f_B 6, o8 kv1.f_Dst.f_B 7, o8 kv1.f_Dst.f_B 8, o8 kv1.f_Dst.f_B 9, o8 kv1.f_Dst.f_B 10, o8 kv1.f_Dst.f_B 11, o8 kv1.f_Dst.f_B 12, o8 kv1.f_Dst.f_B 13, o8 kv1.f_Dst.f_B 14, o8 kv1.f_Dst.f_B 15, v8 kv1.f_Proto, v16 kv1.f_SrcPort, v16 kv1.f_DstPort]) hM rfl rfl) rfl fun v w4 hv => ?_
 clear hM
 obtain ⟨g3, rfl, hM, hf⟩ := hv
 refine va rfl rfl ?_
 refine nt hQ2 ?_
 clear hQ2 Q2
 refine sr fun Q6 hQ6 => ?_
 refine RL.val (O.loadN (cs := [vB kv1.f_Src.f_Six, o8 kv1.f_Src.f_B 0, o8 kv1.f_Src.f_B 1, o8 kv1.f_Src.f_B 2, o8 kv1.f_Src.f_B 3, o8 kv1.f_Src.f_B 4, o8 kv1.f_Src.f_B 5, o8 kv1.f_Src.f_B 6, o8 kv1.f_Src.f_B 7, o8 kv1.f_Src.f_B 8, o8 kv1.f_Src.f_B 9, o8 kv1.f_Src.f_B 10, o8 kv1.f_Src.f_B 11, o8 kv1.f_Src.f_B 12, o8 kv1.f_Src.f_B 13, o8 kv1.f_Src.f_B 14, o8 kv1.f_Src.f_B 15, vB kv1.f_Dst.f_Six, o8 kv1.f_Dst.f_B 0, o8 kv1.f_Dst.f_B 1, o8 kv1.f_Dst.f_B 2, o8 kv1.f_Dst.f_B 3, o8 kv1.f_Dst.f_B 4, o8 kv1.f_Dst.f_B 5, o8 kv1.f_Dst.f_B 6, o8 kv1.f_Dst.f_B 7, o8 kv1.f_Dst.f_B 8, o8 kv1.f_Dst.f_B 9, o8 kv1.f_Dst.f_B 10, o8 kv1.f_Dst.f_B 11, o8 kv1.f_Dst.f_B 12, o8 kv1.f_Dst.f_B 13, o8 kv1.f_Dst.f_B 14, o8 kv1.f_Dst.f_B 15, v8 kv1.f_Proto, v16 kv1.f_SrcPort, v16 kv1.f_DstPort]) ag36 rfl (Cs.addsN [] ((hM.bx (i := 0) rfl)) rfl)) rfl ?_
 refine RL.eff (E.alloc hM ze36) rfl fun v w8 hv => ?_
 clear hM
 obtain ⟨g7, rfl, hM, hf⟩ := hv
 refine RL.effs (E.stB (j := 1) (off := 0) (vs := [vB kv1.f_Src.f_Six, o8 kv1.f_Src.f_B 0, o8 kv1.f_Src.f_B 1, o8 kv1.f_Src.f_B 2, o8 kv1.f_Src.f_B 3, o8 kv1.f_Src.f_B 4, o8 kv1.f_Src.f_B 5, o8 kv1.f_Src.f_B 6, o8 kv1.f_Src.f_B 7, o8 kv1.f_Src.f_B 8, o8 kv1.f_Src.f_B 9, o8 kv1.f_Src.f_B 10, o8 kv1.f_Src.f_B 11, o8 kv1.f_Src.f_B 12, o8 kv1.f_Src.f_B 13, o8 kv1.f_Src.f_B 14, o8 kv1.f_Src.f_B 15, vB kv1.f_Dst.f_Six, o8 kv1.f_Dst.f_B 0, o8 kv1.f_Dst.f_B 1, o8 kv1.f_Dst.f_B 2, o8 kv1.f_Dst.f_B 3, o8 kv1.f_Dst.f_B 4, o8 kv1.f_Dst.f_B 5, o8 kv1.f_Dst.f_B 6, o8 kv1.f_Dst.f_B 7, o8 kv1.f_Dst.f_B 8, o8 kv1.f_Dst.f_B 9, o8 kv1.f_Dst.f_B 10, o8 kv1.f_Dst.f_B 11, o8 kv1.f_Dst.f_B 12, o8 kv1.f_Dst.f_B 13, o8 kv1.f_Dst.f_B 14, o8 kv1.f_Dst.f_B 15, v8 kv1.f_Proto, v16 kv1.f_SrcPort, v16 kv1.f_DstPort]) (cs' := [vB kv1.f_Src.f_Six, o8 kv1.f_Src.f_B 0, o8 kv1.f_Src.f_B 1, o8 kv1.f_Src.f_B 2, o8 kv1.f_Src.f_B 3, o8 kv1.f_Src.f_B 4, o8 kv1.f_Src.f_B 5, o8 kv1.f_Src.f_B 6, o8 kv1.f_Src.f_B 7, o8 kv1.f_Src.f_B 8, o8 kv1.f_Src.f_B 9, o8 kv1.f_Src.f_B 10, o8 kv1.f_Src.f_B 11, o8 kv1.f_Src.f_B 12, o8 kv1.f_Src.f_B 13, o8 kv1.f_Src.f_B 14, o8 kv1.f_Src.f_B 15, vB kv1.f_Dst.f_Six, o8 kv1.f_Dst.f_B 0, o8 kv1.f_Dst.f_B 1, o8 kv1.f_Dst.f_B 2, o8 kv1.f_Dst.f_B 3, o8 kv1.f_Dst.f_B 4, o8 kv1.f_Dst.f_B 5, o8 kv1.f_Dst.f_B 6, o8 kv1.f_Dst.f_B 7, o8 kv1.f_Dst.f_B 8, o8 kv1.f_Dst.f_B 9, o8 kv1.f_Dst.f_B 10, o8 kv1.f_Dst.f_B 11, o8 kv1.f_Dst.f_B 12, o8 kv1.f_Dst.f_B 13, o8 kv1.f_Dst.f_B 14, o8 kv1.f_Dst.f_B 15, v8 kv1.f_Proto, v16 kv1.f_SrcPort, v16 kv1.f_DstPort]) hM rfl sz36 rfl (adds_eq [] rfl) rfl rfl (One.all rfl) rfl rfl) fun w10 hM1 => ?_
 clear hM
 have hM := hM1
 clear hM1
 refine nt hQ6 ?_
 clear hQ6 Q6
 refine KC.cut (fun a w28 => ∃ (plain26 : Int) (plain27 : Int), Kn 37 [(1, .pointer (some ⟨g3, 0, none⟩)), (3, .pointer (some ⟨g7, 0, none⟩))] a ∧ Mem w [] w28 [.box g3 36 [vB kv1.f_Src.f_Six, o8 kv1.f_Src.f_B 0, o8 kv1.f_Src.f_B 1, o8 kv1.f_Src.f_B 2, o8 kv1.f_Src.f_B 3, o8 kv1.f_Src.f_B 4, o8 kv1.f_Src.f_B 5, o8 kv1.f_Src.f_B 6, o8 kv1.f_Src.f_B 7, o8 kv1.f_Src.f_B 8, o8 kv1.f_Src.f_B 9, o8 kv1.f_Src.f_B 10, o8 kv1.f_Src.f_B 11, o8 kv1.f_Src.f_B 12, o8 kv1.f_Src.f_B 13, o8 kv1.f_Src.f_B 14, o8 kv1.f_Src.f_B 15, vB kv1.f_Dst.f_Six, o8 kv1.f_Dst.f_B 0, o8 kv1.f_Dst.f_B 1, o8 kv1.f_Dst.f_B 2, o8 kv1.f_Dst.f_B 3, o8 kv1.f_Dst.f_B 4, o8 kv1.f_Dst.f_B 5, o8 kv1.f_Dst.f_B 6, o8 kv1.f_Dst.f_B 7, o8 kv1.f_Dst.f_B 8, o8 kv1.f_Dst.f_B 9, o8 kv1.f_Dst.f_B 10, o8 kv1.f_Dst.f_B 11, o8 kv1.f_Dst.f_B 12, o8 kv1.f_Dst.f_B 13, o8 kv1.f_Dst.f_B 14, o8 kv1.f_Dst.f_B 15, v8 kv1.f_Proto, v16 kv1.f_SrcPort, v16 kv1.f_DstPort], .box g7 36 [vB kv1.f_Src.f_Six, o8 kv1.f_Src.f_B 0, o8 kv1.f_Src.f_B 1, o8 kv1.f_Src.f_B 2, o8 kv1.f_Src.f_B 3, o8 kv1.f_Src.f_B 4, o8 kv1.f_Src.f_B 5, o8 kv1.f_Src.f_B 6, o8 kv1.f_Src.f_B 7, o8 kv1.f_Src.f_B 8, o8 kv1.f_Src.f_B 9, o8 kv1.f_Src.f_B 10, o8 kv1.f_Src.f_B 11, o8 kv1.f_Src.f_B 12, o8 kv1.f_Src.f_B 13, o8 kv1.f_Src.f_B 14, o8 kv1.f_Src.f_B 15, vB kv1.f_Dst.f_Six, o8 kv1.f_Dst.f_B 0, o8 kv1.f_Dst.f_B 1, o8 kv1.f_Dst.f_B 2, o8 kv1.f_Dst.f_B 3, o8 kv1.f_Dst.f_B 4, o8 kv1.f_Dst.f_B 5, o8 kv1.f_Dst.f_B 6, o8 kv1.f_Dst.f_B 7, o8 kv1.f_Dst.f_B 8, o8 kv1.f_Dst.f_B 9, o8 kv1.f_Dst.f_B 10, o8 kv1.f_Dst.f_B 11, o8 kv1.f_Dst.f_B 12, o8 kv1.f_Dst.f_B 13, o8 kv1.f_Dst.f_B 14, o8 kv1.f_Dst.f_B 15, v8 kv1.f_Proto, v16 plain26, v16 plain27]] ∧ F_packet_Key_Right_j1 kv1 plain26 plain27 = some r) ?_ ?_
 ·refine sr fun Q11 hQ11 => ?_
  refine RL.val (O.fldA fl36_2 (by decide) rfl) rfl ?_
  refine RL.val (O.load sc5 rfl (Cs.adds [34] ((hM.bx (i := 0) rfl)) rfl)) rfl ?_
  refine obindE hF fun y12 hx13 hF => ?_
  refine RL.call Try.func41 bd41 rfl rfl (c_packet_ports _ kv1.f_Proto _ hx13) fun v w14 hv => ?_
  obtain ⟨rfl, hN15⟩ := hv
  replace hM := hM.call0 hN15
  refine RL.val (O.not rfl) rfl ?_
  refine nt hQ11 ?_
  clear hQ11 Q11
  refine KC.cond rfl (fun hc => ?_) (fun hc => ?_)
  ·rw [if_pos hc] at hF
   refine sr fun Q16 hQ16 => ?_
   refine RL.val (O.fldA fl36_3 (by decide) rfl) rfl ?_
   refine RL.effs (E.stB (j := 1) (off := 35) (vs := [v16 0]) (cs' := [vB kv1.f_Src.f_Six, o8 kv1.f_Src.f_B 0, o8 kv1.f_Src.f_B 1, o8 kv1.f_Src.f_B 2, o8 kv1.f_Src.f_B 3, o8 kv1.f_Src.f_B 4, o8 kv1.f_Src.f_B 5, o8 kv1.f_Src.f_B 6, o8 kv1.f_Src.f_B 7, o8 kv1.f_Src.f_B 8, o8 kv1.f_Src.f_B 9, o8 kv1.f_Src.f_B 10, o8 kv1.f_Src.f_B 11, o8 kv1.f_Src.f_B 12, o8 kv1.f_Src.f_B 13, o8 kv1.f_Src.f_B 14, o8 kv1.f_Src.f_B 15, vB kv1.f_Dst.f_Six, o8 kv1.f_Dst.f_B 0, o8 kv1.f_Dst.f_B 1, o8 kv1.f_Dst.f_B 2, o8 kv1.f_Dst.f_B 3, o8 kv1.f_Dst.f_B 4, o8 kv1.f_Dst.f_B 5, o8 kv1.f_Dst.f_B 6, o8 kv1.f_Dst.f_B 7, o8 kv1.f_Dst.f_B 8, o8 kv1.f_Dst.f_B 9, o8 kv1.f_Dst.f_B 10, o8 kv1.f_Dst.f_B 11, o8 kv1.f_Dst.f_B 12, o8 kv1.f_Dst.f_B 13, o8 kv1.f_Dst.f_B 14, o8 kv1.f_Dst.f_B 15, v8 kv1.f_Proto, v16 0, v16 kv1.f_DstPort]) hM rfl sz34 rfl (adds_eq [35] rfl) rfl rfl (One.all rfl) rfl rfl) fun w17 hM1 => ?_
   clear hM
   have hM := hM1
   clear hM1
   refine nt hQ16 ?_
   clear hQ16 Q16
   refine sr fun Q18 hQ18 => ?_
   refine RL.val (O.fldA fl36_2 (by decide) rfl) rfl ?_
   refine RL.val (O.load sc5 rfl (Cs.adds [34] ((hM.bx (i := 0) rfl)) rfl)) rfl ?_
   refine obindE hF fun y19 hx20 hF => ?_
   refine RL.call Try.func42 bd42 rfl rfl (c_packet_icmp _ kv1.f_Proto _ hx20) fun v w21 hv => ?_
   obtain ⟨rfl, hN22⟩ := hv
   replace hM := hM.call0 hN22
   refine RL.val (O.not rfl) rfl ?_
   refine nt hQ18 ?_
   clear hQ18 Q18
   refine KC.cond rfl (fun hc => ?_) (fun hc => ?_)
   ·rw [if_pos hc] at hF
    refine KC.region ?_
    refine RL.val (O.fldA fl36_4 (by decide) rfl) rfl ?_
    refine RL.effs (E.stB (j := 1) (off := 36) (vs := [v16 0]) (cs' := [vB kv1.f_Src.f_Six, o8 kv1.f_Src.f_B 0, o8 kv1.f_Src.f_B 1, o8 kv1.f_Src.f_B 2, o8 kv1.f_Src.f_B 3, o8 kv1.f_Src.f_B 4, o8 kv1.f_Src.f_B 5, o8 kv1.f_Src.f_B 6, o8 kv1.f_Src.f_B 7, o8 kv1.f_Src.f_B 8, o8 kv1.f_Src.f_B 9, o8 kv1.f_Src.f_B 10, o8 kv1.f_Src.f_B 11, o8 kv1.f_Src.f_B 12, o8 kv1.f_Src.f_B 13, o8 kv1.f_Src.f_B 14, o8 kv1.f_Src.f_B 15, vB kv1.f_Dst.f_Six, o8 kv1.f_Dst.f_B 0, o8 kv1.f_Dst.f_B 1, o8 kv1.f_Dst.f_B 2, o8 kv1.f_Dst.f_B 3, o8 kv1.f_Dst.f_B 4, o8 kv1.f_Dst.f_B 5, o8 kv1.f_Dst.f_B 6, o8 kv1.f_Dst.f_B 7, o8 kv1.f_Dst.f_B 8, o8 kv1.f_Dst.f_B 9, o8 kv1.f_Dst.f_B 10, o8 kv1.f_Dst.f_B 11, o8 kv1.f_Dst.f_B 12, o8 kv1.f_Dst.f_B 13, o8 kv1.f_Dst.f_B 14, o8 kv1.f_Dst.f_B 15, v8 kv1.f_Proto, v16 0, v16 0]) hM rfl sz34 rfl (adds_eq [36] rfl) rfl rfl (One.all rfl) rfl rfl) fun w23 hM1 => ?_
    clear hM
    have hM := hM1
    clear hM1
    refine RL.nil ?_
    refine KQ.then_k ?_
    exact fun a ha => ⟨0, 0, ha.less (less_cons rfl (less_cons rfl less_nil)), hM, hF⟩
   rw [if_neg (ne_true hc)] at hF
   refine KC.skip ?_
   refine KQ.then_k ?_
   exact fun a ha => ⟨0, kv1.f_DstPort, ha.less (less_cons rfl (less_cons rfl less_nil)), hM, hF⟩
  rw [if_neg (ne_true hc)] at hF
  refine KC.skip ?_
  refine KQ.then_k ?_
  exact fun a ha => ⟨kv1.f_SrcPort, kv1.f_DstPort, ha.less (less_cons rfl (less_cons rfl less_nil)), hM, hF⟩
 rintro a w28 ⟨plain26, plain27, ha, hM, hF⟩
 refine KC.app ha ?_
 clear ha
 unfold F_packet_Key_Right_j1 at hF
 refine KC.cut (fun a w38 => ∃ (t37 : Bool), Kn 37 [(2, vB t37)] a ∧ Mem w [] w38 [] ∧ F_packet_Key_Right_j2 t37 = some r) ?_ ?_
 ·refine KC.region ?_
  refine RL.val (O.fldA fl36_0 (by decide) rfl) rfl ?_
  refine RL.val (O.loadN (cs := [vB kv1.f_Src.f_Six, o8 kv1.f_Src.f_B 0, o8 kv1.f_Src.f_B 1, o8 kv1.f_Src.f_B 2, o8 kv1.f_Src.f_B 3, o8 kv1.f_Src.f_B 4, o8 kv1.f_Src.f_B 5, o8 kv1.f_Src.f_B 6, o8 kv1.f_Src.f_B 7, o8 kv1.f_Src.f_B 8, o8 kv1.f_Src.f_B 9, o8 kv1.f_Src.f_B 10, o8 kv1.f_Src.f_B 11, o8 kv1.f_Src.f_B 12, o8 kv1.f_Src.f_B 13, o8 kv1.f_Src.f_B 14, o8 kv1.f_Src.f_B 15]) ag33 rfl (Cs.addsN [0] ((hM.bx (i := 0) rfl)) rfl)) rfl ?_
  refine obindE hF fun y29 hx30 hF => ?_
  refine RL.call Try.func43 bd43 rfl rfl (c_addr_Addr_Right _ kv1.f_Src _ hx30) fun v w31 hv => ?_
  obtain ⟨rfl, hN32⟩ := hv
  replace hM := hM.call0 hN32
  refine vm rfl rfl ?_
  refine RL.bcase (t := 18) rfl (fun hc => ?_) (fun hc => ?_)
  ·rw [if_pos hc] at hF
   refine RL.gval rfl rfl (O.fldA fl36_1 (by decide) rfl) rfl ?_
   refine RL.gval rfl rfl (O.loadN (cs := [vB kv1.f_Dst.f_Six, o8 kv1.f_Dst.f_B 0, o8 kv1.f_Dst.f_B 1, o8 kv1.f_Dst.f_B 2, o8 kv1.f_Dst.f_B 3, o8 kv1.f_Dst.f_B 4, o8 kv1.f_Dst.f_B 5, o8 kv1.f_Dst.f_B 6, o8 kv1.f_Dst.f_B 7, o8 kv1.f_Dst.f_B 8, o8 kv1.f_Dst.f_B 9, o8 kv1.f_Dst.f_B 10, o8 kv1.f_Dst.f_B 11, o8 kv1.f_Dst.f_B 12, o8 kv1.f_Dst.f_B 13, o8 kv1.f_Dst.f_B 14, o8 kv1.f_Dst.f_B 15]) ag33 rfl (Cs.addsN [17] ((hM.bx (i := 0) rfl)) rfl)) rfl ?_
   refine obindE hF fun y33 hx34 hF => ?_
   refine RL.gcall rfl rfl Try.func43 bd43 rfl rfl (c_addr_Addr_Right _ kv1.f_Dst _ hx34) fun v w35 hv => ?_
   obtain ⟨rfl, hN36⟩ := hv
   replace hM := hM.call0 hN36
   refine RL.val (O.pickt rfl rfl) rfl ?_
   refine vm rfl rfl ?_
   refine RL.bcase (t := 23) rfl (fun hc => ?_) (fun hc => ?_)
   ·rw [if_pos hc] at hF
    refine RL.gval rfl rfl (O.fldA fl36_0 (by decide) rfl) rfl ?_
    refine RL.gval rfl rfl (O.fldA fl33_0 (by decide) rfl) rfl ?_
    refine RL.gval rfl rfl (O.load sc4 rfl (Cs.adds [0, 0] ((hM.bx (i := 0) rfl)) rfl)) rfl ?_
    refine RL.gval rfl rfl (O.fldA fl36_1 (by decide) rfl) rfl ?_
    refine RL.gval rfl rfl (O.fldA fl33_0 (by decide) rfl) rfl ?_
    refine RL.gval rfl rfl (O.load sc4 rfl (Cs.adds [17, 0] ((hM.bx (i := 0) rfl)) rfl)) rfl ?_
    refine RL.gval rfl rfl (O.eqlb Try.underlying4 rfl rfl) rfl ?_
    refine RL.val (O.pickt rfl rfl) rfl ?_
    refine vm rfl rfl ?_
    refine RL.bcase (t := 32) rfl (fun hc => ?_) (fun hc => ?_)
    ·rw [if_pos hc] at hF
     refine RL.gval rfl rfl (O.loadN (cs := [vB kv1.f_Src.f_Six, o8 kv1.f_Src.f_B 0, o8 kv1.f_Src.f_B 1, o8 kv1.f_Src.f_B 2, o8 kv1.f_Src.f_B 3, o8 kv1.f_Src.f_B 4, o8 kv1.f_Src.f_B 5, o8 kv1.f_Src.f_B 6, o8 kv1.f_Src.f_B 7, o8 kv1.f_Src.f_B 8, o8 kv1.f_Src.f_B 9, o8 kv1.f_Src.f_B 10, o8 kv1.f_Src.f_B 11, o8 kv1.f_Src.f_B 12, o8 kv1.f_Src.f_B 13, o8 kv1.f_Src.f_B 14, o8 kv1.f_Src.f_B 15, vB kv1.f_Dst.f_Six, o8 kv1.f_Dst.f_B 0, o8 kv1.f_Dst.f_B 1, o8 kv1.f_Dst.f_B 2, o8 kv1.f_Dst.f_B 3, o8 kv1.f_Dst.f_B 4, o8 kv1.f_Dst.f_B 5, o8 kv1.f_Dst.f_B 6, o8 kv1.f_Dst.f_B 7, o8 kv1.f_Dst.f_B 8, o8 kv1.f_Dst.f_B 9, o8 kv1.f_Dst.f_B 10, o8 kv1.f_Dst.f_B 11, o8 kv1.f_Dst.f_B 12, o8 kv1.f_Dst.f_B 13, o8 kv1.f_Dst.f_B 14, o8 kv1.f_Dst.f_B 15, v8 kv1.f_Proto, v16 kv1.f_SrcPort, v16 kv1.f_DstPort]) ag36 rfl (Cs.addsN [] ((hM.bx (i := 0) rfl)) rfl)) rfl ?_
     refine RL.gval rfl rfl (O.loadN (cs := [vB kv1.f_Src.f_Six, o8 kv1.f_Src.f_B 0, o8 kv1.f_Src.f_B 1, o8 kv1.f_Src.f_B 2, o8 kv1.f_Src.f_B 3, o8 kv1.f_Src.f_B 4, o8 kv1.f_Src.f_B 5, o8 kv1.f_Src.f_B 6, o8 kv1.f_Src.f_B 7, o8 kv1.f_Src.f_B 8, o8 kv1.f_Src.f_B 9, o8 kv1.f_Src.f_B 10, o8 kv1.f_Src.f_B 11, o8 kv1.f_Src.f_B 12, o8 kv1.f_Src.f_B 13, o8 kv1.f_Src.f_B 14, o8 kv1.f_Src.f_B 15, vB kv1.f_Dst.f_Six, o8 kv1.f_Dst.f_B 0, o8 kv1.f_Dst.f_B 1, o8 kv1.f_Dst.f_B 2, o8 kv1.f_Dst.f_B 3, o8 kv1.f_Dst.f_B 4, o8 kv1.f_Dst.f_B 5, o8 kv1.f_Dst.f_B 6, o8 kv1.f_Dst.f_B 7, o8 kv1.f_Dst.f_B 8, o8 kv1.f_Dst.f_B 9, o8 kv1.f_Dst.f_B 10, o8 kv1.f_Dst.f_B 11, o8 kv1.f_Dst.f_B 12, o8 kv1.f_Dst.f_B 13, o8 kv1.f_Dst.f_B 14, o8 kv1.f_Dst.f_B 15, v8 kv1.f_Proto, v16 plain26, v16 plain27]) ag36 rfl (Cs.addsN [] ((hM.bx (i := 1) rfl)) rfl)) rfl ?_
     refine RL.gval rfl rfl (O.steq (cs := [vB kv1.f_Src.f_Six, o8 kv1.f_Src.f_B 0, o8 kv1.f_Src.f_B 1, o8 kv1.f_Src.f_B 2, o8 kv1.f_Src.f_B 3, o8 kv1.f_Src.f_B 4, o8 kv1.f_Src.f_B 5, o8 kv1.f_Src.f_B 6, o8 kv1.f_Src.f_B 7, o8 kv1.f_Src.f_B 8, o8 kv1.f_Src.f_B 9, o8 kv1.f_Src.f_B 10, o8 kv1.f_Src.f_B 11, o8 kv1.f_Src.f_B 12, o8 kv1.f_Src.f_B 13, o8 kv1.f_Src.f_B 14, o8 kv1.f_Src.f_B 15, vB kv1.f_Dst.f_Six, o8 kv1.f_Dst.f_B 0, o8 kv1.f_Dst.f_B 1, o8 kv1.f_Dst.f_B 2, o8 kv1.f_Dst.f_B 3, o8 kv1.f_Dst.f_B 4, o8 kv1.f_Dst.f_B 5, o8 kv1.f_Dst.f_B 6, o8 kv1.f_Dst.f_B 7, o8 kv1.f_Dst.f_B 8, o8 kv1.f_Dst.f_B 9, o8 kv1.f_Dst.f_B 10, o8 kv1.f_Dst.f_B 11, o8 kv1.f_Dst.f_B 12, o8 kv1.f_Dst.f_B 13, o8 kv1.f_Dst.f_B 14, o8 kv1.f_Dst.f_B 15, v8 kv1.f_Proto, v16 kv1.f_SrcPort, v16 kv1.f_DstPort]) (cs' := [vB kv1.f_Src.f_Six, o8 kv1.f_Src.f_B 0, o8 kv1.f_Src.f_B 1, o8 kv1.f_Src.f_B 2, o8 kv1.f_Src.f_B 3, o8 kv1.f_Src.f_B 4, o8 kv1.f_Src.f_B 5, o8 kv1.f_Src.f_B 6, o8 kv1.f_Src.f_B 7, o8 kv1.f_Src.f_B 8, o8 kv1.f_Src.f_B 9, o8 kv1.f_Src.f_B 10, o8 kv1.f_Src.f_B 11, o8 kv1.f_Src.f_B 12, o8 kv1.f_Src.f_B 13, o8 kv1.f_Src.f_B 14, o8 kv1.f_Src.f_B 15, vB kv1.f_Dst.f_Six, o8 kv1.f_Dst.f_B 0, o8 kv1.f_Dst.f_B 1, o8 kv1.f_Dst.f_B 2, o8 kv1.f_Dst.f_B 3, o8 kv1.f_Dst.f_B 4, o8 kv1.f_Dst.f_B 5, o8 kv1.f_Dst.f_B 6, o8 kv1.f_Dst.f_B 7, o8 kv1.f_Dst.f_B 8, o8 kv1.f_Dst.f_B 9, o8 kv1.f_Dst.f_B 10, o8 kv1.f_Dst.f_B 11, o8 kv1.f_Dst.f_B 12, o8 kv1.f_Dst.f_B 13, o8 kv1.f_Dst.f_B 14, o8 kv1.f_Dst.f_B 15, v8 kv1.f_Proto, v16 plain26, v16 plain27]) (by kernel_rfl) rfl rfl (Q36t kv1 (T_packet_Key.mk kv1.f_Src kv1.f_Dst kv1.f_Proto plain26 plain27) _ rfl rfl)) rfl ?_
     refine RL.val (O.pickt rfl rfl) rfl ?_
     refine va rfl rfl ?_
     refine RL.nil ?_
     refine KQ.then_k ?_
     replace hM := hM.pick [] rfl (by decide)
     exact fun a ha => ⟨(q_packet_Key kv1 (T_packet_Key.mk kv1.f_Src kv1.f_Dst kv1.f_Proto plain26 plain27)), ha.less (less_cons rfl less_nil), hM, hF⟩
    rw [if_neg (ne_true hc)] at hF
    refine RL.brun1 4 36 false (by kernel_rfl) ?_
    refine va rfl rfl ?_
    refine RL.nil ?_
    refine KQ.then_k ?_
    replace hM := hM.pick [] rfl (by decide)
    exact fun a ha => ⟨false, ha.less (less_cons rfl less_nil), hM, hF⟩
   rw [if_neg (ne_true hc)] at hF
   refine RL.brun1 13 36 false (by kernel_rfl) ?_
   refine va rfl rfl ?_
   refine RL.nil ?_
   refine KQ.then_k ?_
   replace hM := hM.pick [] rfl (by decide)
   exact fun a ha => ⟨false, ha.less (less_cons rfl less_nil), hM, hF⟩
  rw [if_neg (ne_true hc)] at hF
  refine RL.brun1 18 36 false (by kernel_rfl) ?_
  refine va rfl rfl ?_
  refine RL.nil ?_
  refine KQ.then_k ?_
  replace hM := hM.pick [] rfl (by decide)
  exact fun a ha => ⟨false, ha.less (less_cons rfl less_nil), hM, hF⟩
 rintro a w38 ⟨t37, ha, hM, hF⟩
 refine KC.app ha ?_
 clear ha
 unfold F_packet_Key_Right_j2 at hF
 refine KC.ret ?_
 have hE := Option.some.inj hF
 clear hF
 subst hE
 refine KQ.rets Try.results14 (RVs.cons (RV.tm rfl) RVs.nil) ?_
 exact ⟨_, rfl, rfl, hM⟩
set_option maxRecDepth 100000 in
set_option maxHeartbeats 40000000 in
theorem c_cache_plus (w : World) (av1 : Int) (b2 : Int) (r : Int) (hF : F_cache_plus av1 b2 = some r) :
  CallsR Try.prog 57 [v64 av1, v64 b2] w (fun v w' => v = v64 r ∧ Mem w [] w' []) := by
 refine calls_KC Try.func57 rfl Try.ntmps57 rfl ?_
 have hM := Mem.init w
 unfold F_cache_plus at hF
 refine sr fun Q3 hQ3 => ?_
 refine va rfl rfl ?_
 refine nt hQ3 ?_
 clear hQ3 Q3
 refine sr fun Q4 hQ4 => ?_
 refine vm rfl rfl ?_
 refine vm rfl rfl ?_
 refine RL.val (O.add64 Try.func66 (by kernel_rfl) (by kernel_rfl) (by kernel_rfl) (by kernel_rfl) rfl rfl rfl) rfl ?_
 refine vm rfl rfl ?_
 refine RL.val (O.ext rfl rfl) rfl ?_
 refine RL.val (O.ext rfl rfl) rfl ?_
 refine va rfl rfl ?_
 refine va rfl rfl ?_
 refine nt hQ4 ?_
 clear hQ4 Q4
 refine KC.seqH fun Q5 hQ5 => ?_
 refine sr fun Q6 hQ6 => ?_
 refine vm rfl rfl ?_
 refine RL.val (O.gtr rfl rfl) rfl ?_
 refine nt hQ6 ?_
 clear hQ6 Q6
 refine KC.cond rfl (fun hc => ?_) (fun hc => ?_)
 ·rw [if_pos hc] at hF
  refine sr fun Q7 hQ7 => ?_
  refine va rfl rfl ?_
  refine nt hQ7 ?_
  clear hQ7 Q7
  refine KC.ret ?_
  refine KQ.thr hQ5 ?_
  clear hQ5 Q5
  have hE := Option.some.inj hF
  clear hF
  subst hE
  refine KQ.rets Try.results57 (RVs.cons (RV.tm rfl) RVs.nil) ?_
  exact ⟨_, rfl, rfl, hM⟩
 rw [if_neg (ne_true hc)] at hF
 refine KC.skip ?_
 refine KQ.thn hQ5 ?_
 clear hQ5 Q5
 refine sr fun Q8 hQ8 => ?_
 refine vm rfl rfl ?_
 refine va rfl rfl ?_
 refine nt hQ8 ?_
 clear hQ8 Q8
 refine KC.ret ?_
 have hE := Option.some.inj hF
 clear hF
 subst hE
 refine KQ.rets Try.results57 (RVs.cons (RV.tm rfl) RVs.nil) ?_
 exact ⟨_, rfl, rfl, hM⟩
set_option maxRecDepth 100000 in
set_option maxHeartbeats 40000000 in
theorem c_cache_Cache_idle_B (w : World) (g2 : Nat) (tg6 : TypeId) (cv1 : T_cache_Cache) (vo4 : Value) (vo5 : Value) (hL8 : Lent w [.box g2 tg6 [v64 cv1.f_tick, vI cv1.f_bounds.f_Flows, v64 cv1.f_bounds.f_Idle, v64 cv1.f_bounds.f_Active, v64 cv1.f_bounds.f_Packets, v64 cv1.f_bounds.f_Bytes, vo4, vo5]]) (rv7 : T_flow_Record) (r : Int) (hF : F_cache_Cache_idle cv1 rv7 = some r) :
  CallsR Try.prog 39 [.pointer (some ⟨g2, 0, none⟩), .agg #[vB rv7.f_Key.f_Src.f_Six, o8 rv7.f_Key.f_Src.f_B 0, o8 rv7.f_Key.f_Src.f_B 1, o8 rv7.f_Key.f_Src.f_B 2, o8 rv7.f_Key.f_Src.f_B 3, o8 rv7.f_Key.f_Src.f_B 4, o8 rv7.f_Key.f_Src.f_B 5, o8 rv7.f_Key.f_Src.f_B 6, o8 rv7.f_Key.f_Src.f_B 7, o8 rv7.f_Key.f_Src.f_B 8, o8 rv7.f_Key.f_Src.f_B 9, o8 rv7.f_Key.f_Src.f_B 10, o8 rv7.f_Key.f_Src.f_B 11, o8 rv7.f_Key.f_Src.f_B 12, o8 rv7.f_Key.f_Src.f_B 13, o8 rv7.f_Key.f_Src.f_B 14, o8 rv7.f_Key.f_Src.f_B 15, vB rv7.f_Key.f_Dst.f_Six, o8 rv7.f_Key.f_Dst.f_B 0, o8 rv7.f_Key.f_Dst.f_B 1, o8 rv7.f_Key.f_Dst.f_B 2, o8 rv7.f_Key.f_Dst.f_B 3, o8 rv7.f_Key.f_Dst.f_B 4, o8 rv7.f_Key.f_Dst.f_B 5, o8 rv7.f_Key.f_Dst.f_B 6, o8 rv7.f_Key.f_Dst.f_B 7, o8 rv7.f_Key.f_Dst.f_B 8, o8 rv7.f_Key.f_Dst.f_B 9, o8 rv7.f_Key.f_Dst.f_B 10, o8 rv7.f_Key.f_Dst.f_B 11, o8 rv7.f_Key.f_Dst.f_B 12, o8 rv7.f_Key.f_Dst.f_B 13, o8 rv7.f_Key.f_Dst.f_B 14, o8 rv7.f_Key.f_Dst.f_B 15, v8 rv7.f_Key.f_Proto, v16 rv7.f_Key.f_SrcPort, v16 rv7.f_Key.f_DstPort, v64 rv7.f_Packets, v64 rv7.f_Bytes, v64 rv7.f_First, v64 rv7.f_Last, v8 rv7.f_Flags, v8 rv7.f_Reason, v8 rv7.f_Class]] w (fun v w' => v = v64 r ∧ Mem w [some g2] w' [.box g2 tg6 [v64 cv1.f_tick, vI cv1.f_bounds.f_Flows, v64 cv1.f_bounds.f_Idle, v64 cv1.f_bounds.f_Active, v64 cv1.f_bounds.f_Packets, v64 cv1.f_bounds.f_Bytes, vo4, vo5]]) := by
 refine calls_KC Try.func39 rfl Try.ntmps39 rfl ?_
 have hM : Mem w [some g2] w [.box g2 tg6 [v64 cv1.f_tick, vI cv1.f_bounds.f_Flows, v64 cv1.f_bounds.f_Idle, v64 cv1.f_bounds.f_Active, v64 cv1.f_bounds.f_Packets, v64 cv1.f_bounds.f_Bytes, vo4, vo5]] := Mem.lendN hL8
 unfold F_cache_Cache_idle at hF
 refine sr fun Q9 hQ9 => ?_
 refine RL.eff (E.box (vs := [vB rv7.f_Key.f_Src.f_Six, o8 rv7.f_Key.f_Src.f_B 0, o8 rv7.f_Key.f_Src.f_B 1, o8 rv7.f_Key.f_Src.f_B 2, o8 rv7.f_Key.f_Src.f_B 3, o8 rv7.f_Key.f_Src.f_B 4, o8 rv7.f_Key.f_Src.f_B 5, o8 rv7.f_Key.f_Src.f_B 6, o8 rv7.f_Key.f_Src.f_B 7, o8 rv7.f_Key.f_Src.f_B 8, o8 rv7.f_Key.f_Src.f_B 9, o8 rv7.f_Key.f_Src.f_B 10, o8 rv7.f_Key.f_Src.f_B 11, o8 rv7.f_Key.f_Src.f_B 12, o8 rv7.f_Key.f_Src.f_B 13, o8 rv7.f_Key.f_Src.f_B 14, o8 rv7.f_Key.f_Src.f_B 15, vB rv7.f_Key.f_Dst.f_Six, o8 rv7.f_Key.f_Dst.f_B 0, o8 rv7.f_Key.f_Dst.f_B 1, o8 rv7.f_Key.f_Dst.f_B 2, o8 rv7.f_Key.f_Dst.f_B 3, o8 rv7.f_Key.f_Dst.f_B 4, o8 rv7.f_Key.f_Dst.f_B 5, o8 rv7.f_Key.f_Dst.f_B 6, o8 rv7.f_Key.f_Dst.f_B 7, o8 rv7.f_Key.f_Dst.f_B 8, o8 rv7.f_Key.f_Dst.f_B 9, o8 rv7.f_Key.f_Dst.f_B 10, o8 rv7.f_Key.f_Dst.f_B 11, o8 rv7.f_Key.f_Dst.f_B 12, o8 rv7.f_Key.f_Dst.f_B 13, o8 rv7.f_Key.f_Dst.f_B 14, o8 rv7.f_Key.f_Dst.f_B 15, v8 rv7.f_Key.f_Proto, v16 rv7.f_Key.f_SrcPort, v16 rv7.f_Key.f_DstPort, v64 rv7.f_Packets, v64 rv7.f_Bytes, v64 rv7.f_First, v64 rv7.f_Last, v8 rv7.f_Flags, v8 rv7.f_Reason, v8 rv7.f_Class]) hM rfl rfl) rfl fun v w11 hv => ?_
 clear hM
 obtain ⟨g10, rfl, hM, hf⟩ := hv
 refine va rfl rfl ?_
 refine nt hQ9 ?_
 clear hQ9 Q9
 refine KC.seqH fun Q13 hQ13 => ?_
 replace hM := hM.drewN 1
 refine KC.draw [] [] [7] [0, 2, 3, 4, 5, 8] (.ofList [0, 1, 2, 3, 4, 5, 6, 7, 8]) moP (by kernel_rfl) ?_
 refine RD.p rfl rfl rfl rfl (fun w' => O.fldA fl46_4 (by decide) rfl) ?_
 refine RD.q rfl rfl rfl rfl (fun w' hf => O.load sc22 rfl (Cs.adds [40] ((hM.bx (i := 1) rfl).fut hf) rfl)) ?_
 refine RD.p rfl rfl rfl rfl (fun w' => O.move rfl) ?_
 refine RD.p rfl rfl rfl rfl (fun w' => O.nilp rfl) ?_
 refine RD.p rfl rfl rfl rfl (fun w' => O.fldA fl74_1 (by decide) rfl) ?_
 refine RD.p rfl rfl rfl rfl (fun w' => O.fldA fl24_1 (by decide) rfl) ?_
 refine RD.q rfl rfl rfl rfl (fun w' hf => O.load sc22 rfl (Cs.adds [1, 1] ((hM.bx (i := 0) rfl).fut hf) rfl)) ?_
 refine obindE hF fun y14 hx15 hF => ?_
 refine RD.mcall rfl rfl trivial Try.func57 bd57 rfl rfl (c_cache_plus _ rv7.f_Last cv1.f_bounds.f_Idle _ hx15) fun v w16 hv => ?_
 obtain ⟨rfl, hN17⟩ := hv
 refine ⟨fun _ => hN17.fut, ?_⟩
 replace hM := hM.call0 hN17
 refine RD.p rfl rfl rfl rfl (fun w' => O.assign rfl) ?_
 refine RD.nil ?_
 refine KQ.thn hQ13 ?_
 clear hQ13 Q13
 refine KC.ret ?_
 have hE := Option.some.inj hF
 clear hF
 subst hE
 replace hM := hM.pick [0] rfl (by decide)
 refine KQ.rets Try.results39 (RVs.cons (RV.tm rfl) RVs.nil) ?_
 exact ⟨_, rfl, rfl, hM⟩
theorem c_cache_Cache_idle (w : World) (g2 : Nat) (tg6 : TypeId) (cv1 : T_cache_Cache) (vo4 : Value) (vo5 : Value) (hL8 : Lent w [.box g2 tg6 [v64 cv1.f_tick, vI cv1.f_bounds.f_Flows, v64 cv1.f_bounds.f_Idle, v64 cv1.f_bounds.f_Active, v64 cv1.f_bounds.f_Packets, v64 cv1.f_bounds.f_Bytes, vo4, vo5]]) (rv7 : T_flow_Record) (r : Int) (hF : F_cache_Cache_idle cv1 rv7 = some r) :
  CallsR Try.prog 39 [.pointer (some ⟨g2, 0, none⟩), .agg #[vB rv7.f_Key.f_Src.f_Six, o8 rv7.f_Key.f_Src.f_B 0, o8 rv7.f_Key.f_Src.f_B 1, o8 rv7.f_Key.f_Src.f_B 2, o8 rv7.f_Key.f_Src.f_B 3, o8 rv7.f_Key.f_Src.f_B 4, o8 rv7.f_Key.f_Src.f_B 5, o8 rv7.f_Key.f_Src.f_B 6, o8 rv7.f_Key.f_Src.f_B 7, o8 rv7.f_Key.f_Src.f_B 8, o8 rv7.f_Key.f_Src.f_B 9, o8 rv7.f_Key.f_Src.f_B 10, o8 rv7.f_Key.f_Src.f_B 11, o8 rv7.f_Key.f_Src.f_B 12, o8 rv7.f_Key.f_Src.f_B 13, o8 rv7.f_Key.f_Src.f_B 14, o8 rv7.f_Key.f_Src.f_B 15, vB rv7.f_Key.f_Dst.f_Six, o8 rv7.f_Key.f_Dst.f_B 0, o8 rv7.f_Key.f_Dst.f_B 1, o8 rv7.f_Key.f_Dst.f_B 2, o8 rv7.f_Key.f_Dst.f_B 3, o8 rv7.f_Key.f_Dst.f_B 4, o8 rv7.f_Key.f_Dst.f_B 5, o8 rv7.f_Key.f_Dst.f_B 6, o8 rv7.f_Key.f_Dst.f_B 7, o8 rv7.f_Key.f_Dst.f_B 8, o8 rv7.f_Key.f_Dst.f_B 9, o8 rv7.f_Key.f_Dst.f_B 10, o8 rv7.f_Key.f_Dst.f_B 11, o8 rv7.f_Key.f_Dst.f_B 12, o8 rv7.f_Key.f_Dst.f_B 13, o8 rv7.f_Key.f_Dst.f_B 14, o8 rv7.f_Key.f_Dst.f_B 15, v8 rv7.f_Key.f_Proto, v16 rv7.f_Key.f_SrcPort, v16 rv7.f_Key.f_DstPort, v64 rv7.f_Packets, v64 rv7.f_Bytes, v64 rv7.f_First, v64 rv7.f_Last, v8 rv7.f_Flags, v8 rv7.f_Reason, v8 rv7.f_Class]] w (fun v w' => v = v64 r ∧ Mem w [] w' []) := Calls.mono (c_cache_Cache_idle_B w g2 tg6 cv1 vo4 vo5 hL8 rv7 r hF) fun e w1 ⟨v, he, hv, hm⟩ => ⟨v, he, hv, hm.still hL8 rfl rfl⟩
end Go.Proofs.Ytkpnocgfhipidaa
