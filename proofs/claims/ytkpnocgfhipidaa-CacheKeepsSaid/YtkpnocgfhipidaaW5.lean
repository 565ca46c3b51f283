/- Printed by a program of this claim: each call returns what the plain function of its name gives. -/
import Derived.Test.YtkpnocgfhipidaaW1
import Derived.Test.YtkpnocgfhipidaaW2
import Derived.Test.YtkpnocgfhipidaaW4
set_option linter.unusedVariables false
namespace Go.Proofs.Ytkpnocgfhipidaa
open Go Go.Ox Go.RowKit
set_option maxRecDepth 100000 in
set_option maxHeartbeats 40000000 in
theorem c_table_Table_Put (w : World) (g2 : Nat) (tg7 : TypeId) (t1 : T_table_Table) (A4 : Option Addr) (c5 : Nat) (hL10 : Lent w [.box g2 tg7 [.slice A4 (t1.f_slots).length c5, vI t1.f_many], .row A4 c5 102 39 (t1.f_slots).length ((t1.f_slots).flatMap e_table_Slot)]) (kv8 : T_packet_Key) (nv9 : Int) (r : Int × T_table_Table) (hF : F_table_Table_Put t1 kv8 nv9 = some r) :
  CallsR Try.prog 53 [.pointer (some ⟨g2, 0, none⟩), .agg #[vB kv8.f_Src.f_Six, o8 kv8.f_Src.f_B 0, o8 kv8.f_Src.f_B 1, o8 kv8.f_Src.f_B 2, o8 kv8.f_Src.f_B 3, o8 kv8.f_Src.f_B 4, o8 kv8.f_Src.f_B 5, o8 kv8.f_Src.f_B 6, o8 kv8.f_Src.f_B 7, o8 kv8.f_Src.f_B 8, o8 kv8.f_Src.f_B 9, o8 kv8.f_Src.f_B 10, o8 kv8.f_Src.f_B 11, o8 kv8.f_Src.f_B 12, o8 kv8.f_Src.f_B 13, o8 kv8.f_Src.f_B 14, o8 kv8.f_Src.f_B 15, vB kv8.f_Dst.f_Six, o8 kv8.f_Dst.f_B 0, o8 kv8.f_Dst.f_B 1, o8 kv8.f_Dst.f_B 2, o8 kv8.f_Dst.f_B 3, o8 kv8.f_Dst.f_B 4, o8 kv8.f_Dst.f_B 5, o8 kv8.f_Dst.f_B 6, o8 kv8.f_Dst.f_B 7, o8 kv8.f_Dst.f_B 8, o8 kv8.f_Dst.f_B 9, o8 kv8.f_Dst.f_B 10, o8 kv8.f_Dst.f_B 11, o8 kv8.f_Dst.f_B 12, o8 kv8.f_Dst.f_B 13, o8 kv8.f_Dst.f_B 14, o8 kv8.f_Dst.f_B 15, v8 kv8.f_Proto, v16 kv8.f_SrcPort, v16 kv8.f_DstPort], v64 nv9] w (fun v w' => ∃ (A0 : Option Addr) (c0 : Nat), v = vI r.1 ∧ Mem w [some g2, rblk A4 c5] w' [.box g2 tg7 [.slice A0 (r.2.f_slots).length c0, vI r.2.f_many], .row A0 c0 102 39 r.2.f_slots.length (r.2.f_slots.flatMap e_table_Slot)]) := by
 refine calls_KC Try.func53 rfl Try.ntmps53 rfl ?_
 have hM : Mem w [some g2, rblk A4 c5] w [.box g2 tg7 [.slice A4 (t1.f_slots).length c5, vI t1.f_many], .row A4 c5 102 39 (t1.f_slots).length ((t1.f_slots).flatMap e_table_Slot)] := Mem.lendN hL10
 unfold F_table_Table_Put at hF
 refine sr fun Q11 hQ11 => ?_
 refine RL.eff (E.box (vs := [vB kv8.f_Src.f_Six, o8 kv8.f_Src.f_B 0, o8 kv8.f_Src.f_B 1, o8 kv8.f_Src.f_B 2, o8 kv8.f_Src.f_B 3, o8 kv8.f_Src.f_B 4, o8 kv8.f_Src.f_B 5, o8 kv8.f_Src.f_B 6, o8 kv8.f_Src.f_B 7, o8 kv8.f_Src.f_B 8, o8 kv8.f_Src.f_B 9, o8 kv8.f_Src.f_B 10, o8 kv8.f_Src.f_B 11, o8 kv8.f_Src.f_B 12, o8 kv8.f_Src.f_B 13, o8 kv8.f_Src.f_B 14, o8 kv8.f_Src.f_B 15, vB kv8.f_Dst.f_Six, o8 kv8.f_Dst.f_B 0, o8 kv8.f_Dst.f_B 1, o8 kv8.f_Dst.f_B 2, o8 kv8.f_Dst.f_B 3, o8 kv8.f_Dst.f_B 4, o8 kv8.f_Dst.f_B 5, o8 kv8.f_Dst.f_B 6, o8 kv8.f_Dst.f_B 7, o8 kv8.f_Dst.f_B 8, o8 kv8.f_Dst.f_B 9, o8 kv8.f_Dst.f_B 10, o8 kv8.f_Dst.f_B 11, o8 kv8.f_Dst.f_B 12, o8 kv8.f_Dst.f_B 13, o8 kv8.f_Dst.f_B 14, o8 kv8.f_Dst.f_B 15, v8 kv8.f_Proto, v16 kv8.f_SrcPort, v16 kv8.f_DstPort]) hM rfl rfl) rfl fun v w13 hv => ?_
 clear hM
 obtain ⟨g12, rfl, hM, hf⟩ := hv
 refine va rfl rfl ?_
 refine nt hQ11 ?_
 clear hQ11 Q11
 refine sr fun Q15 hQ15 => ?_
 refine vm rfl rfl ?_
 refine RL.val (O.loadN (cs := [vB kv8.f_Src.f_Six, o8 kv8.f_Src.f_B 0, o8 kv8.f_Src.f_B 1, o8 kv8.f_Src.f_B 2, o8 kv8.f_Src.f_B 3, o8 kv8.f_Src.f_B 4, o8 kv8.f_Src.f_B 5, o8 kv8.f_Src.f_B 6, o8 kv8.f_Src.f_B 7, o8 kv8.f_Src.f_B 8, o8 kv8.f_Src.f_B 9, o8 kv8.f_Src.f_B 10, o8 kv8.f_Src.f_B 11, o8 kv8.f_Src.f_B 12, o8 kv8.f_Src.f_B 13, o8 kv8.f_Src.f_B 14, o8 kv8.f_Src.f_B 15, vB kv8.f_Dst.f_Six, o8 kv8.f_Dst.f_B 0, o8 kv8.f_Dst.f_B 1, o8 kv8.f_Dst.f_B 2, o8 kv8.f_Dst.f_B 3, o8 kv8.f_Dst.f_B 4, o8 kv8.f_Dst.f_B 5, o8 kv8.f_Dst.f_B 6, o8 kv8.f_Dst.f_B 7, o8 kv8.f_Dst.f_B 8, o8 kv8.f_Dst.f_B 9, o8 kv8.f_Dst.f_B 10, o8 kv8.f_Dst.f_B 11, o8 kv8.f_Dst.f_B 12, o8 kv8.f_Dst.f_B 13, o8 kv8.f_Dst.f_B 14, o8 kv8.f_Dst.f_B 15, v8 kv8.f_Proto, v16 kv8.f_SrcPort, v16 kv8.f_DstPort]) ag36 rfl (Cs.addsN [] ((hM.bx (i := 2) rfl)) rfl)) rfl ?_
 refine obindE hF fun y16 hx17 hF => ?_
 refine RL.call Try.func64 bd64 rfl rfl (c_table_Table_find _ _ _ t1 _ _ (hM.lent [0, 1] rfl (by decide)) kv8 _ hx17) fun v w18 hv => ?_
 obtain ⟨A20, c21, rfl, hN19⟩ := hv
 replace hM := hM.callL [0, 1] [2] rfl rfl (by decide) rfl hN19
 refine vm rfl rfl ?_
 refine RL.val (O.ext rfl rfl) rfl ?_
 refine RL.val (O.ext rfl rfl) rfl ?_
 refine va rfl rfl ?_
 refine va rfl rfl ?_
 refine nt hQ15 ?_
 clear hQ15 Q15
 refine KC.cut (fun a w41 => ∃ (p39 : Int), Kn 51 [(0, .pointer (some ⟨g2, 0, none⟩)), (2, v64 nv9), (4, .pointer (some ⟨g12, 0, none⟩)), (7, vI y16.1)] a ∧ Mem w [some g2, rblk A4 c5] w41 [.row A20 c21 102 39 (y16.2.2.f_slots).length ((y16.2.2.f_slots).flatMap e_table_Slot), .box g2 tg7 [.slice A20 (y16.2.2.f_slots).length c21, vI p39], .box g12 36 [vB kv8.f_Src.f_Six, o8 kv8.f_Src.f_B 0, o8 kv8.f_Src.f_B 1, o8 kv8.f_Src.f_B 2, o8 kv8.f_Src.f_B 3, o8 kv8.f_Src.f_B 4, o8 kv8.f_Src.f_B 5, o8 kv8.f_Src.f_B 6, o8 kv8.f_Src.f_B 7, o8 kv8.f_Src.f_B 8, o8 kv8.f_Src.f_B 9, o8 kv8.f_Src.f_B 10, o8 kv8.f_Src.f_B 11, o8 kv8.f_Src.f_B 12, o8 kv8.f_Src.f_B 13, o8 kv8.f_Src.f_B 14, o8 kv8.f_Src.f_B 15, vB kv8.f_Dst.f_Six, o8 kv8.f_Dst.f_B 0, o8 kv8.f_Dst.f_B 1, o8 kv8.f_Dst.f_B 2, o8 kv8.f_Dst.f_B 3, o8 kv8.f_Dst.f_B 4, o8 kv8.f_Dst.f_B 5, o8 kv8.f_Dst.f_B 6, o8 kv8.f_Dst.f_B 7, o8 kv8.f_Dst.f_B 8, o8 kv8.f_Dst.f_B 9, o8 kv8.f_Dst.f_B 10, o8 kv8.f_Dst.f_B 11, o8 kv8.f_Dst.f_B 12, o8 kv8.f_Dst.f_B 13, o8 kv8.f_Dst.f_B 14, o8 kv8.f_Dst.f_B 15, v8 kv8.f_Proto, v16 kv8.f_SrcPort, v16 kv8.f_DstPort]] ∧ F_table_Table_Put_j1 kv8 nv9 y16 p39 = some r) ?_ ?_
 ·refine KC.block ?_
  refine sr fun Q23 hQ23 => ?_
  refine vm rfl rfl ?_
  refine RL.val (O.peqn Try.underlying68 rfl rfl) rfl ?_
  refine va rfl rfl ?_
  refine nt hQ23 ?_
  clear hQ23 Q23
  refine KC.condF rfl ?_
  refine sr fun Q24 hQ24 => ?_
  refine RL.val (O.loadN (cs := [vB kv8.f_Src.f_Six, o8 kv8.f_Src.f_B 0, o8 kv8.f_Src.f_B 1, o8 kv8.f_Src.f_B 2, o8 kv8.f_Src.f_B 3, o8 kv8.f_Src.f_B 4, o8 kv8.f_Src.f_B 5, o8 kv8.f_Src.f_B 6, o8 kv8.f_Src.f_B 7, o8 kv8.f_Src.f_B 8, o8 kv8.f_Src.f_B 9, o8 kv8.f_Src.f_B 10, o8 kv8.f_Src.f_B 11, o8 kv8.f_Src.f_B 12, o8 kv8.f_Src.f_B 13, o8 kv8.f_Src.f_B 14, o8 kv8.f_Src.f_B 15, vB kv8.f_Dst.f_Six, o8 kv8.f_Dst.f_B 0, o8 kv8.f_Dst.f_B 1, o8 kv8.f_Dst.f_B 2, o8 kv8.f_Dst.f_B 3, o8 kv8.f_Dst.f_B 4, o8 kv8.f_Dst.f_B 5, o8 kv8.f_Dst.f_B 6, o8 kv8.f_Dst.f_B 7, o8 kv8.f_Dst.f_B 8, o8 kv8.f_Dst.f_B 9, o8 kv8.f_Dst.f_B 10, o8 kv8.f_Dst.f_B 11, o8 kv8.f_Dst.f_B 12, o8 kv8.f_Dst.f_B 13, o8 kv8.f_Dst.f_B 14, o8 kv8.f_Dst.f_B 15, v8 kv8.f_Proto, v16 kv8.f_SrcPort, v16 kv8.f_DstPort]) ag36 rfl (Cs.addsN [] ((hM.bx (i := 0) rfl)) rfl)) rfl ?_
  refine obindE hF fun y25 hx26 hF => ?_
  refine RL.call Try.func14 bd14 rfl rfl (c_packet_Key_Right _ kv8 _ hx26) fun v w27 hv => ?_
  obtain ⟨rfl, hN28⟩ := hv
  replace hM := hM.call0 hN28
  refine RL.val (O.not rfl) rfl ?_
  refine va rfl rfl ?_
  refine nt hQ24 ?_
  clear hQ24 Q24
  refine KC.cond rfl (fun hc => ?_) (fun hc => ?_)
  ·rw [if_pos hc] at hF
   refine sr fun Q29 hQ29 => ?_
   refine va rfl rfl ?_
   refine nt hQ29 ?_
   clear hQ29 Q29
   refine KC.ret ?_
   refine KQ.blk_r ?_
   refine KQ.then_r ?_
   have hE := Option.some.inj hF
   clear hF
   subst hE
   replace hM := hM.pick [1, 2] rfl (by decide)
   refine KQ.rets Try.results53 (RVs.cons (RV.tm rfl) RVs.nil) ?_
   exact ⟨_, rfl, A20, c21, rfl, hM⟩
  rw [if_neg (ne_true hc)] at hF
  refine sr fun Q30 hQ30 => ?_
  refine vm rfl rfl ?_
  refine RL.val (O.lss rfl rfl) rfl ?_
  refine va rfl rfl ?_
  refine nt hQ30 ?_
  clear hQ30 Q30
  refine KC.cond rfl (fun hc => ?_) (fun hc => ?_)
  ·rw [if_pos hc] at hF
   refine sr fun Q31 hQ31 => ?_
   refine va rfl rfl ?_
   refine nt hQ31 ?_
   clear hQ31 Q31
   refine KC.ret ?_
   refine KQ.blk_r ?_
   refine KQ.then_r ?_
   have hE := Option.some.inj hF
   clear hF
   subst hE
   replace hM := hM.pick [1, 2] rfl (by decide)
   refine KQ.rets Try.results53 (RVs.cons (RV.tm rfl) RVs.nil) ?_
   exact ⟨_, rfl, A20, c21, rfl, hM⟩
  rw [if_neg (ne_true hc)] at hF
  refine sr fun Q32 hQ32 => ?_
  refine vm rfl rfl ?_
  refine RL.val (O.nilp rfl) rfl ?_
  refine RL.val (O.fldA fl96_0 (by decide) rfl) rfl ?_
  refine RL.val (O.load sc94 rfl (Cs.adds [0] ((hM.bx (i := 1) rfl)) rfl)) rfl ?_
  refine vm rfl rfl ?_
  refine obindE hF fun xv35 hx34 hF => ?_
  have hA33 := Rd.atN (f := e_table_Slot) (s := 39) (fun _ => rfl) (by decide) (hM.rd (i := 2) rfl) hx34
  refine RL.val (O.idxA sl94 (hA33) rfl rfl) rfl ?_
  refine RL.val (O.fldA fl102_0 (by decide) rfl) rfl ?_
  refine RL.val (O.load sc4 rfl (Cs.adds [0] (hA33).cells rfl)) rfl ?_
  refine RL.val (O.not rfl) rfl ?_
  refine va rfl rfl ?_
  refine nt hQ32 ?_
  clear hQ32 Q32
  refine KC.cond rfl (fun hc => ?_) (fun hc => ?_)
  ·rw [if_pos hc] at hF
   refine KC.region ?_
   refine vm rfl rfl ?_
   refine RL.val (O.nilp rfl) rfl ?_
   refine RL.val (O.fldA fl96_1 (by decide) rfl) rfl ?_
   refine RL.val (O.load sc3 rfl (Cs.adds [1] ((hM.bx (i := 1) rfl)) rfl)) rfl ?_
   refine RL.val (O.add rfl rfl) rfl ?_
   refine RL.val (O.nilp rfl) rfl ?_
   refine RL.val (O.fldA fl96_1 (by decide) rfl) rfl ?_
   refine RL.effs (E.stB (j := 1) (off := 1) (vs := [vI (IntKind.i64.wrap (y16.2.2.f_many + 1))]) (cs' := [.slice A20 (y16.2.2.f_slots).length c21, vI (IntKind.i64.wrap (y16.2.2.f_many + 1))]) hM rfl sz3 rfl (adds_eq [1] rfl) rfl rfl (One.all rfl) rfl rfl) fun w36 hM1 => ?_
   clear hM
   have hM := hM1
   clear hM1
   refine RL.nil ?_
   refine KQ.blk_n ?_
   refine KQ.then_k ?_
   replace hM := hM.pick [2, 1, 0] rfl (by decide)
   exact fun a ha => ⟨(IntKind.i64.wrap (y16.2.2.f_many + 1)), ha.less (less_cons rfl (less_cons rfl (less_cons rfl (less_cons rfl less_nil)))), hM, hF⟩
  rw [if_neg (ne_true hc)] at hF
  refine KC.skip ?_
  refine KQ.blk_n ?_
  refine KQ.then_k ?_
  replace hM := hM.pick [2, 1, 0] rfl (by decide)
  exact fun a ha => ⟨y16.2.2.f_many, ha.less (less_cons rfl (less_cons rfl (less_cons rfl (less_cons rfl less_nil)))), hM, hF⟩
 rintro a w41 ⟨p39, ha, hM, hF⟩
 refine KC.app ha ?_
 clear ha
 unfold F_table_Table_Put_j1 at hF
 refine KC.seqH fun Q42 hQ42 => ?_
 replace hM := hM.drewN 1
 refine KC.draw [] [9] [9] [0, 1, 2, 4, 6] (.ofList [0, 1, 2, 3, 4, 5, 6, 7, 8, 9]) moP (by kernel_rfl) ?_
 refine RD.p rfl rfl rfl rfl (fun w' => O.move rfl) ?_
 refine RD.p rfl rfl rfl rfl (fun w' => O.nilp rfl) ?_
 refine RD.p rfl rfl rfl rfl (fun w' => O.fldA fl96_0 (by decide) rfl) ?_
 refine RD.q rfl rfl rfl rfl (fun w' hf => O.load sc94 rfl (Cs.adds [0] ((hM.bx (i := 1) rfl).fut hf) rfl)) ?_
 refine RD.p rfl rfl rfl rfl (fun w' => O.move rfl) ?_
 refine RD.q rfl rfl rfl rfl (fun w' hf => O.loadN (cs := [vB kv8.f_Src.f_Six, o8 kv8.f_Src.f_B 0, o8 kv8.f_Src.f_B 1, o8 kv8.f_Src.f_B 2, o8 kv8.f_Src.f_B 3, o8 kv8.f_Src.f_B 4, o8 kv8.f_Src.f_B 5, o8 kv8.f_Src.f_B 6, o8 kv8.f_Src.f_B 7, o8 kv8.f_Src.f_B 8, o8 kv8.f_Src.f_B 9, o8 kv8.f_Src.f_B 10, o8 kv8.f_Src.f_B 11, o8 kv8.f_Src.f_B 12, o8 kv8.f_Src.f_B 13, o8 kv8.f_Src.f_B 14, o8 kv8.f_Src.f_B 15, vB kv8.f_Dst.f_Six, o8 kv8.f_Dst.f_B 0, o8 kv8.f_Dst.f_B 1, o8 kv8.f_Dst.f_B 2, o8 kv8.f_Dst.f_B 3, o8 kv8.f_Dst.f_B 4, o8 kv8.f_Dst.f_B 5, o8 kv8.f_Dst.f_B 6, o8 kv8.f_Dst.f_B 7, o8 kv8.f_Dst.f_B 8, o8 kv8.f_Dst.f_B 9, o8 kv8.f_Dst.f_B 10, o8 kv8.f_Dst.f_B 11, o8 kv8.f_Dst.f_B 12, o8 kv8.f_Dst.f_B 13, o8 kv8.f_Dst.f_B 14, o8 kv8.f_Dst.f_B 15, v8 kv8.f_Proto, v16 kv8.f_SrcPort, v16 kv8.f_DstPort]) ag36 rfl (Cs.addsN [] ((hM.bx (i := 2) rfl).fut hf) rfl)) ?_
 refine RD.p rfl rfl rfl rfl (fun w' => O.move rfl) ?_
 refine RD.q rfl rfl rfl rfl (fun w' hf => O.bld (cs := [vB true, vB kv8.f_Src.f_Six, o8 kv8.f_Src.f_B 0, o8 kv8.f_Src.f_B 1, o8 kv8.f_Src.f_B 2, o8 kv8.f_Src.f_B 3, o8 kv8.f_Src.f_B 4, o8 kv8.f_Src.f_B 5, o8 kv8.f_Src.f_B 6, o8 kv8.f_Src.f_B 7, o8 kv8.f_Src.f_B 8, o8 kv8.f_Src.f_B 9, o8 kv8.f_Src.f_B 10, o8 kv8.f_Src.f_B 11, o8 kv8.f_Src.f_B 12, o8 kv8.f_Src.f_B 13, o8 kv8.f_Src.f_B 14, o8 kv8.f_Src.f_B 15, vB kv8.f_Dst.f_Six, o8 kv8.f_Dst.f_B 0, o8 kv8.f_Dst.f_B 1, o8 kv8.f_Dst.f_B 2, o8 kv8.f_Dst.f_B 3, o8 kv8.f_Dst.f_B 4, o8 kv8.f_Dst.f_B 5, o8 kv8.f_Dst.f_B 6, o8 kv8.f_Dst.f_B 7, o8 kv8.f_Dst.f_B 8, o8 kv8.f_Dst.f_B 9, o8 kv8.f_Dst.f_B 10, o8 kv8.f_Dst.f_B 11, o8 kv8.f_Dst.f_B 12, o8 kv8.f_Dst.f_B 13, o8 kv8.f_Dst.f_B 14, o8 kv8.f_Dst.f_B 15, v8 kv8.f_Proto, v16 kv8.f_SrcPort, v16 kv8.f_DstPort, v64 nv9]) bt102 rfl (by kernel_rfl)) ?_
 refine obindE hF fun xv45 hx44 hF => ?_
 have hA43 := Rd.atN (f := e_table_Slot) (s := 39) (fun _ => rfl) (by decide) (hM.rd (i := 0) rfl) hx44
 refine RD.q rfl rfl rfl rfl (fun w' hf => O.idxA sl94 (hA43.fut hf) rfl rfl) ?_
 refine RD.meffs rfl rfl rfl (E.stR (enc := e_table_Slot) (j := 0) (off := 0) (vs := [vB true, vB kv8.f_Src.f_Six, o8 kv8.f_Src.f_B 0, o8 kv8.f_Src.f_B 1, o8 kv8.f_Src.f_B 2, o8 kv8.f_Src.f_B 3, o8 kv8.f_Src.f_B 4, o8 kv8.f_Src.f_B 5, o8 kv8.f_Src.f_B 6, o8 kv8.f_Src.f_B 7, o8 kv8.f_Src.f_B 8, o8 kv8.f_Src.f_B 9, o8 kv8.f_Src.f_B 10, o8 kv8.f_Src.f_B 11, o8 kv8.f_Src.f_B 12, o8 kv8.f_Src.f_B 13, o8 kv8.f_Src.f_B 14, o8 kv8.f_Src.f_B 15, vB kv8.f_Dst.f_Six, o8 kv8.f_Dst.f_B 0, o8 kv8.f_Dst.f_B 1, o8 kv8.f_Dst.f_B 2, o8 kv8.f_Dst.f_B 3, o8 kv8.f_Dst.f_B 4, o8 kv8.f_Dst.f_B 5, o8 kv8.f_Dst.f_B 6, o8 kv8.f_Dst.f_B 7, o8 kv8.f_Dst.f_B 8, o8 kv8.f_Dst.f_B 9, o8 kv8.f_Dst.f_B 10, o8 kv8.f_Dst.f_B 11, o8 kv8.f_Dst.f_B 12, o8 kv8.f_Dst.f_B 13, o8 kv8.f_Dst.f_B 14, o8 kv8.f_Dst.f_B 15, v8 kv8.f_Proto, v16 kv8.f_SrcPort, v16 kv8.f_DstPort, v64 nv9]) (x' := (T_table_Slot.mk true kv8 nv9)) hM rfl (fun _ => rfl) hx44 sz102 rfl (addsR_eq [] rfl) rfl rfl (One.all rfl) rfl rfl) fun w46 hM1 => ?_
 clear hM
 obtain ⟨hM, hn47⟩ := hM1
 refine RD.reslot (t := 45) rfl hn47 ?_
 replace hM := hM.rebox (i := 1) (cs' := [.slice A20 ((y16.2.2.f_slots.set (y16.1 : Int).toNat (T_table_Slot.mk true kv8 nv9))).length c21, vI p39]) rfl (by rw [← hn47])
 refine RD.nil ?_
 refine KQ.thn hQ42 ?_
 clear hQ42 Q42
 refine sr fun Q48 hQ48 => ?_
 refine va rfl rfl ?_
 refine nt hQ48 ?_
 clear hQ48 Q48
 refine KC.ret ?_
 have hE := Option.some.inj hF
 clear hF
 subst hE
 replace hM := hM.pick [1, 0] rfl (by decide)
 refine KQ.rets Try.results53 (RVs.cons (RV.tm rfl) RVs.nil) ?_
 exact ⟨_, rfl, A20, c21, rfl, hM⟩
set_option maxRecDepth 100000 in
set_option maxHeartbeats 40000000 in
theorem c_cache_Cache_end (w : World) (g2 : Nat) (tg12 : TypeId) (cv1 : T_cache_Cache) (g4 : Nat) (A6 : Option Addr) (c7 : Nat) (A9 : Option Addr) (c10 : Nat) (hL15 : Lent w [.box g2 tg12 [v64 cv1.f_tick, vI cv1.f_bounds.f_Flows, v64 cv1.f_bounds.f_Idle, v64 cv1.f_bounds.f_Active, v64 cv1.f_bounds.f_Packets, v64 cv1.f_bounds.f_Bytes, .pointer (some ⟨g4, 0, none⟩), .slice A9 (cv1.f_flows).length c10], .box g4 96 [.slice A6 (cv1.f_places.f_slots).length c7, vI cv1.f_places.f_many], .row A6 c7 102 39 (cv1.f_places.f_slots).length ((cv1.f_places.f_slots).flatMap e_table_Slot), .row A9 c10 46 44 (cv1.f_flows).length ((cv1.f_flows).flatMap e_flow_Record)]) (kv13 : T_packet_Key) (reason14 : Int) (r : T_flow_Record × T_cache_Cache) (hF : F_cache_Cache_end cv1 kv13 reason14 = some r) :
  CallsR Try.prog 30 [.pointer (some ⟨g2, 0, none⟩), .agg #[vB kv13.f_Src.f_Six, o8 kv13.f_Src.f_B 0, o8 kv13.f_Src.f_B 1, o8 kv13.f_Src.f_B 2, o8 kv13.f_Src.f_B 3, o8 kv13.f_Src.f_B 4, o8 kv13.f_Src.f_B 5, o8 kv13.f_Src.f_B 6, o8 kv13.f_Src.f_B 7, o8 kv13.f_Src.f_B 8, o8 kv13.f_Src.f_B 9, o8 kv13.f_Src.f_B 10, o8 kv13.f_Src.f_B 11, o8 kv13.f_Src.f_B 12, o8 kv13.f_Src.f_B 13, o8 kv13.f_Src.f_B 14, o8 kv13.f_Src.f_B 15, vB kv13.f_Dst.f_Six, o8 kv13.f_Dst.f_B 0, o8 kv13.f_Dst.f_B 1, o8 kv13.f_Dst.f_B 2, o8 kv13.f_Dst.f_B 3, o8 kv13.f_Dst.f_B 4, o8 kv13.f_Dst.f_B 5, o8 kv13.f_Dst.f_B 6, o8 kv13.f_Dst.f_B 7, o8 kv13.f_Dst.f_B 8, o8 kv13.f_Dst.f_B 9, o8 kv13.f_Dst.f_B 10, o8 kv13.f_Dst.f_B 11, o8 kv13.f_Dst.f_B 12, o8 kv13.f_Dst.f_B 13, o8 kv13.f_Dst.f_B 14, o8 kv13.f_Dst.f_B 15, v8 kv13.f_Proto, v16 kv13.f_SrcPort, v16 kv13.f_DstPort], v8 reason14] w (fun v w' => ∃ (g0 : Nat) (A1 : Option Addr) (c1 : Nat) (A2 : Option Addr) (c2 : Nat), v = .agg #[vB r.1.f_Key.f_Src.f_Six, o8 r.1.f_Key.f_Src.f_B 0, o8 r.1.f_Key.f_Src.f_B 1, o8 r.1.f_Key.f_Src.f_B 2, o8 r.1.f_Key.f_Src.f_B 3, o8 r.1.f_Key.f_Src.f_B 4, o8 r.1.f_Key.f_Src.f_B 5, o8 r.1.f_Key.f_Src.f_B 6, o8 r.1.f_Key.f_Src.f_B 7, o8 r.1.f_Key.f_Src.f_B 8, o8 r.1.f_Key.f_Src.f_B 9, o8 r.1.f_Key.f_Src.f_B 10, o8 r.1.f_Key.f_Src.f_B 11, o8 r.1.f_Key.f_Src.f_B 12, o8 r.1.f_Key.f_Src.f_B 13, o8 r.1.f_Key.f_Src.f_B 14, o8 r.1.f_Key.f_Src.f_B 15, vB r.1.f_Key.f_Dst.f_Six, o8 r.1.f_Key.f_Dst.f_B 0, o8 r.1.f_Key.f_Dst.f_B 1, o8 r.1.f_Key.f_Dst.f_B 2, o8 r.1.f_Key.f_Dst.f_B 3, o8 r.1.f_Key.f_Dst.f_B 4, o8 r.1.f_Key.f_Dst.f_B 5, o8 r.1.f_Key.f_Dst.f_B 6, o8 r.1.f_Key.f_Dst.f_B 7, o8 r.1.f_Key.f_Dst.f_B 8, o8 r.1.f_Key.f_Dst.f_B 9, o8 r.1.f_Key.f_Dst.f_B 10, o8 r.1.f_Key.f_Dst.f_B 11, o8 r.1.f_Key.f_Dst.f_B 12, o8 r.1.f_Key.f_Dst.f_B 13, o8 r.1.f_Key.f_Dst.f_B 14, o8 r.1.f_Key.f_Dst.f_B 15, v8 r.1.f_Key.f_Proto, v16 r.1.f_Key.f_SrcPort, v16 r.1.f_Key.f_DstPort, v64 r.1.f_Packets, v64 r.1.f_Bytes, v64 r.1.f_First, v64 r.1.f_Last, v8 r.1.f_Flags, v8 r.1.f_Reason, v8 r.1.f_Class] ∧ Mem w [some g2, some g4, rblk A6 c7, rblk A9 c10] w' [.box g2 tg12 [v64 r.2.f_tick, vI r.2.f_bounds.f_Flows, v64 r.2.f_bounds.f_Idle, v64 r.2.f_bounds.f_Active, v64 r.2.f_bounds.f_Packets, v64 r.2.f_bounds.f_Bytes, .pointer (some ⟨g0, 0, none⟩), .slice A2 (r.2.f_flows).length c2], .box g0 96 [.slice A1 (r.2.f_places.f_slots).length c1, vI r.2.f_places.f_many], .row A1 c1 102 39 r.2.f_places.f_slots.length (r.2.f_places.f_slots.flatMap e_table_Slot), .row A2 c2 46 44 r.2.f_flows.length (r.2.f_flows.flatMap e_flow_Record)]) := by
 refine calls_KC Try.func30 rfl Try.ntmps30 rfl ?_
 have hM : Mem w [some g2, some g4, rblk A6 c7, rblk A9 c10] w [.box g2 tg12 [v64 cv1.f_tick, vI cv1.f_bounds.f_Flows, v64 cv1.f_bounds.f_Idle, v64 cv1.f_bounds.f_Active, v64 cv1.f_bounds.f_Packets, v64 cv1.f_bounds.f_Bytes, .pointer (some ⟨g4, 0, none⟩), .slice A9 (cv1.f_flows).length c10], .box g4 96 [.slice A6 (cv1.f_places.f_slots).length c7, vI cv1.f_places.f_many], .row A6 c7 102 39 (cv1.f_places.f_slots).length ((cv1.f_places.f_slots).flatMap e_table_Slot), .row A9 c10 46 44 (cv1.f_flows).length ((cv1.f_flows).flatMap e_flow_Record)] := Mem.lendN hL15
 unfold F_cache_Cache_end at hF
 refine sr fun Q16 hQ16 => ?_
 refine RL.eff (E.box (vs := [vB kv13.f_Src.f_Six, o8 kv13.f_Src.f_B 0, o8 kv13.f_Src.f_B 1, o8 kv13.f_Src.f_B 2, o8 kv13.f_Src.f_B 3, o8 kv13.f_Src.f_B 4, o8 kv13.f_Src.f_B 5, o8 kv13.f_Src.f_B 6, o8 kv13.f_Src.f_B 7, o8 kv13.f_Src.f_B 8, o8 kv13.f_Src.f_B 9, o8 kv13.f_Src.f_B 10, o8 kv13.f_Src.f_B 11, o8 kv13.f_Src.f_B 12, o8 kv13.f_Src.f_B 13, o8 kv13.f_Src.f_B 14, o8 kv13.f_Src.f_B 15, vB kv13.f_Dst.f_Six, o8 kv13.f_Dst.f_B 0, o8 kv13.f_Dst.f_B 1, o8 kv13.f_Dst.f_B 2, o8 kv13.f_Dst.f_B 3, o8 kv13.f_Dst.f_B 4, o8 kv13.f_Dst.f_B 5, o8 kv13.f_Dst.f_B 6, o8 kv13.f_Dst.f_B 7, o8 kv13.f_Dst.f_B 8, o8 kv13.f_Dst.f_B 9, o8 kv13.f_Dst.f_B 10, o8 kv13.f_Dst.f_B 11, o8 kv13.f_Dst.f_B 12, o8 kv13.f_Dst.f_B 13, o8 kv13.f_Dst.f_B 14, o8 kv13.f_Dst.f_B 15, v8 kv13.f_Proto, v16 kv13.f_SrcPort, v16 kv13.f_DstPort]) hM rfl rfl) rfl fun v w18 hv => ?_
 clear hM
 obtain ⟨g17, rfl, hM, hf⟩ := hv
 refine RL.eff (E.alloc hM ze46) rfl fun v w21 hv => ?_
 clear hM
 obtain ⟨g20, rfl, hM, hf⟩ := hv
 refine nt hQ16 ?_
 clear hQ16 Q16
 refine KC.seqH fun Q23 hQ23 => ?_
 replace hM := hM.drewN 1
 refine KC.draw [] [5] [5] [0, 1, 2, 6, 7, 8, 9, 10] (.ofList [0, 1, 2, 3, 4, 5, 6, 7, 8, 9, 10]) moP (by kernel_rfl) ?_
 refine RD.p rfl rfl rfl rfl (fun w' => O.move rfl) ?_
 refine RD.p rfl rfl rfl rfl (fun w' => O.nilp rfl) ?_
 refine RD.p rfl rfl rfl rfl (fun w' => O.fldA fl74_2 (by decide) rfl) ?_
 refine RD.q rfl rfl rfl rfl (fun w' hf => O.load sc68 rfl (Cs.adds [6] ((hM.bx (i := 0) rfl).fut hf) rfl)) ?_
 refine RD.q rfl rfl rfl rfl (fun w' hf => O.loadN (cs := [vB kv13.f_Src.f_Six, o8 kv13.f_Src.f_B 0, o8 kv13.f_Src.f_B 1, o8 kv13.f_Src.f_B 2, o8 kv13.f_Src.f_B 3, o8 kv13.f_Src.f_B 4, o8 kv13.f_Src.f_B 5, o8 kv13.f_Src.f_B 6, o8 kv13.f_Src.f_B 7, o8 kv13.f_Src.f_B 8, o8 kv13.f_Src.f_B 9, o8 kv13.f_Src.f_B 10, o8 kv13.f_Src.f_B 11, o8 kv13.f_Src.f_B 12, o8 kv13.f_Src.f_B 13, o8 kv13.f_Src.f_B 14, o8 kv13.f_Src.f_B 15, vB kv13.f_Dst.f_Six, o8 kv13.f_Dst.f_B 0, o8 kv13.f_Dst.f_B 1, o8 kv13.f_Dst.f_B 2, o8 kv13.f_Dst.f_B 3, o8 kv13.f_Dst.f_B 4, o8 kv13.f_Dst.f_B 5, o8 kv13.f_Dst.f_B 6, o8 kv13.f_Dst.f_B 7, o8 kv13.f_Dst.f_B 8, o8 kv13.f_Dst.f_B 9, o8 kv13.f_Dst.f_B 10, o8 kv13.f_Dst.f_B 11, o8 kv13.f_Dst.f_B 12, o8 kv13.f_Dst.f_B 13, o8 kv13.f_Dst.f_B 14, o8 kv13.f_Dst.f_B 15, v8 kv13.f_Proto, v16 kv13.f_SrcPort, v16 kv13.f_DstPort]) ag36 rfl (Cs.addsN [] ((hM.bx (i := 4) rfl).fut hf) rfl)) ?_
 refine obindE hF fun y24 hx25 hF => ?_
 refine RD.mcall rfl rfl trivial Try.func26 bd26 rfl rfl (c_table_Table_Get _ _ _ cv1.f_places _ _ (hM.lent [1, 2] rfl (by decide)) kv13 _ hx25) fun v w26 hv => ?_
 obtain ⟨A28, c29, rfl, hN27⟩ := hv
 refine ⟨fun h => (by cases h), ?_⟩
 replace hM := hM.callL [1, 2] [0, 3, 4, 5] rfl rfl (by decide) rfl hN27
 refine RD.p rfl rfl rfl rfl (fun w' => O.move rfl) ?_
 refine RD.p rfl rfl rfl rfl (fun w' => O.ext rfl rfl) ?_
 refine RD.p rfl rfl rfl rfl (fun w' => O.ext rfl rfl) ?_
 refine RD.p rfl rfl rfl rfl (fun w' => O.assign rfl) ?_
 refine RD.p rfl rfl rfl rfl (fun w' => O.assign rfl) ?_
 refine RD.nil ?_
 refine KQ.thn hQ23 ?_
 clear hQ23 Q23
 refine sr fun Q31 hQ31 => ?_
 refine vm rfl rfl ?_
 refine RL.val (O.nilp rfl) rfl ?_
 refine RL.val (O.fldA fl74_3 (by decide) rfl) rfl ?_
 refine RL.val (O.load sc41 rfl (Cs.adds [7] ((hM.bx (i := 0) rfl)) rfl)) rfl ?_
 refine vm rfl rfl ?_
 refine obindE hF fun xv34 hx33 hF => ?_
 have hA32 := Rd.atN (f := e_flow_Record) (s := 44) (fun _ => rfl) (by decide) (hM.rd (i := 1) rfl) hx33
 refine RL.val (O.idxA sl41 (hA32) rfl rfl) rfl ?_
 refine RL.val (O.loadN (cs := [vB xv34.f_Key.f_Src.f_Six, o8 xv34.f_Key.f_Src.f_B 0, o8 xv34.f_Key.f_Src.f_B 1, o8 xv34.f_Key.f_Src.f_B 2, o8 xv34.f_Key.f_Src.f_B 3, o8 xv34.f_Key.f_Src.f_B 4, o8 xv34.f_Key.f_Src.f_B 5, o8 xv34.f_Key.f_Src.f_B 6, o8 xv34.f_Key.f_Src.f_B 7, o8 xv34.f_Key.f_Src.f_B 8, o8 xv34.f_Key.f_Src.f_B 9, o8 xv34.f_Key.f_Src.f_B 10, o8 xv34.f_Key.f_Src.f_B 11, o8 xv34.f_Key.f_Src.f_B 12, o8 xv34.f_Key.f_Src.f_B 13, o8 xv34.f_Key.f_Src.f_B 14, o8 xv34.f_Key.f_Src.f_B 15, vB xv34.f_Key.f_Dst.f_Six, o8 xv34.f_Key.f_Dst.f_B 0, o8 xv34.f_Key.f_Dst.f_B 1, o8 xv34.f_Key.f_Dst.f_B 2, o8 xv34.f_Key.f_Dst.f_B 3, o8 xv34.f_Key.f_Dst.f_B 4, o8 xv34.f_Key.f_Dst.f_B 5, o8 xv34.f_Key.f_Dst.f_B 6, o8 xv34.f_Key.f_Dst.f_B 7, o8 xv34.f_Key.f_Dst.f_B 8, o8 xv34.f_Key.f_Dst.f_B 9, o8 xv34.f_Key.f_Dst.f_B 10, o8 xv34.f_Key.f_Dst.f_B 11, o8 xv34.f_Key.f_Dst.f_B 12, o8 xv34.f_Key.f_Dst.f_B 13, o8 xv34.f_Key.f_Dst.f_B 14, o8 xv34.f_Key.f_Dst.f_B 15, v8 xv34.f_Key.f_Proto, v16 xv34.f_Key.f_SrcPort, v16 xv34.f_Key.f_DstPort, v64 xv34.f_Packets, v64 xv34.f_Bytes, v64 xv34.f_First, v64 xv34.f_Last, v8 xv34.f_Flags, v8 xv34.f_Reason, v8 xv34.f_Class]) ag46 rfl (hA32).cells) rfl ?_
 refine RL.eff (E.alloc hM ze46) rfl fun v w36 hv => ?_
 clear hM
 obtain ⟨g35, rfl, hM, hf⟩ := hv
 refine RL.effs (E.stB (j := 6) (off := 0) (vs := [vB xv34.f_Key.f_Src.f_Six, o8 xv34.f_Key.f_Src.f_B 0, o8 xv34.f_Key.f_Src.f_B 1, o8 xv34.f_Key.f_Src.f_B 2, o8 xv34.f_Key.f_Src.f_B 3, o8 xv34.f_Key.f_Src.f_B 4, o8 xv34.f_Key.f_Src.f_B 5, o8 xv34.f_Key.f_Src.f_B 6, o8 xv34.f_Key.f_Src.f_B 7, o8 xv34.f_Key.f_Src.f_B 8, o8 xv34.f_Key.f_Src.f_B 9, o8 xv34.f_Key.f_Src.f_B 10, o8 xv34.f_Key.f_Src.f_B 11, o8 xv34.f_Key.f_Src.f_B 12, o8 xv34.f_Key.f_Src.f_B 13, o8 xv34.f_Key.f_Src.f_B 14, o8 xv34.f_Key.f_Src.f_B 15, vB xv34.f_Key.f_Dst.f_Six, o8 xv34.f_Key.f_Dst.f_B 0, o8 xv34.f_Key.f_Dst.f_B 1, o8 xv34.f_Key.f_Dst.f_B 2, o8 xv34.f_Key.f_Dst.f_B 3, o8 xv34.f_Key.f_Dst.f_B 4, o8 xv34.f_Key.f_Dst.f_B 5, o8 xv34.f_Key.f_Dst.f_B 6, o8 xv34.f_Key.f_Dst.f_B 7, o8 xv34.f_Key.f_Dst.f_B 8, o8 xv34.f_Key.f_Dst.f_B 9, o8 xv34.f_Key.f_Dst.f_B 10, o8 xv34.f_Key.f_Dst.f_B 11, o8 xv34.f_Key.f_Dst.f_B 12, o8 xv34.f_Key.f_Dst.f_B 13, o8 xv34.f_Key.f_Dst.f_B 14, o8 xv34.f_Key.f_Dst.f_B 15, v8 xv34.f_Key.f_Proto, v16 xv34.f_Key.f_SrcPort, v16 xv34.f_Key.f_DstPort, v64 xv34.f_Packets, v64 xv34.f_Bytes, v64 xv34.f_First, v64 xv34.f_Last, v8 xv34.f_Flags, v8 xv34.f_Reason, v8 xv34.f_Class]) (cs' := [vB xv34.f_Key.f_Src.f_Six, o8 xv34.f_Key.f_Src.f_B 0, o8 xv34.f_Key.f_Src.f_B 1, o8 xv34.f_Key.f_Src.f_B 2, o8 xv34.f_Key.f_Src.f_B 3, o8 xv34.f_Key.f_Src.f_B 4, o8 xv34.f_Key.f_Src.f_B 5, o8 xv34.f_Key.f_Src.f_B 6, o8 xv34.f_Key.f_Src.f_B 7, o8 xv34.f_Key.f_Src.f_B 8, o8 xv34.f_Key.f_Src.f_B 9, o8 xv34.f_Key.f_Src.f_B 10, o8 xv34.f_Key.f_Src.f_B 11, o8 xv34.f_Key.f_Src.f_B 12, o8 xv34.f_Key.f_Src.f_B 13, o8 xv34.f_Key.f_Src.f_B 14, o8 xv34.f_Key.f_Src.f_B 15, vB xv34.f_Key.f_Dst.f_Six, o8 xv34.f_Key.f_Dst.f_B 0, o8 xv34.f_Key.f_Dst.f_B 1, o8 xv34.f_Key.f_Dst.f_B 2, o8 xv34.f_Key.f_Dst.f_B 3, o8 xv34.f_Key.f_Dst.f_B 4, o8 xv34.f_Key.f_Dst.f_B 5, o8 xv34.f_Key.f_Dst.f_B 6, o8 xv34.f_Key.f_Dst.f_B 7, o8 xv34.f_Key.f_Dst.f_B 8, o8 xv34.f_Key.f_Dst.f_B 9, o8 xv34.f_Key.f_Dst.f_B 10, o8 xv34.f_Key.f_Dst.f_B 11, o8 xv34.f_Key.f_Dst.f_B 12, o8 xv34.f_Key.f_Dst.f_B 13, o8 xv34.f_Key.f_Dst.f_B 14, o8 xv34.f_Key.f_Dst.f_B 15, v8 xv34.f_Key.f_Proto, v16 xv34.f_Key.f_SrcPort, v16 xv34.f_Key.f_DstPort, v64 xv34.f_Packets, v64 xv34.f_Bytes, v64 xv34.f_First, v64 xv34.f_Last, v8 xv34.f_Flags, v8 xv34.f_Reason, v8 xv34.f_Class]) hM rfl sz46 rfl (adds_eq [] rfl) rfl rfl (One.all rfl) rfl rfl) fun w38 hM1 => ?_
 clear hM
 have hM := hM1
 clear hM1
 refine nt hQ31 ?_
 clear hQ31 Q31
 refine sr fun Q39 hQ39 => ?_
 refine vm rfl rfl ?_
 refine RL.val (O.nilp rfl) rfl ?_
 refine RL.val (O.fldA fl74_3 (by decide) rfl) rfl ?_
 refine RL.val (O.load sc41 rfl (Cs.adds [7] ((hM.bx (i := 0) rfl)) rfl)) rfl ?_
 refine RL.val (O.len sl41 rfl) rfl ?_
 refine RL.val (O.sub rfl rfl) rfl ?_
 refine va rfl rfl ?_
 refine nt hQ39 ?_
 clear hQ39 Q39
 refine KC.seqH fun Q40 hQ40 => ?_
 replace hM := hM.drewN 1
 refine KC.draw [] [5] [5] [0, 1, 2] (.ofList [0, 1, 2, 3, 4, 5]) moP (by kernel_rfl) ?_
 refine RD.p rfl rfl rfl rfl (fun w' => O.move rfl) ?_
 refine RD.p rfl rfl rfl rfl (fun w' => O.nilp rfl) ?_
 refine RD.p rfl rfl rfl rfl (fun w' => O.fldA fl74_2 (by decide) rfl) ?_
 refine RD.q rfl rfl rfl rfl (fun w' hf => O.load sc68 rfl (Cs.adds [6] ((hM.bx (i := 0) rfl).fut hf) rfl)) ?_
 refine RD.q rfl rfl rfl rfl (fun w' hf => O.loadN (cs := [vB kv13.f_Src.f_Six, o8 kv13.f_Src.f_B 0, o8 kv13.f_Src.f_B 1, o8 kv13.f_Src.f_B 2, o8 kv13.f_Src.f_B 3, o8 kv13.f_Src.f_B 4, o8 kv13.f_Src.f_B 5, o8 kv13.f_Src.f_B 6, o8 kv13.f_Src.f_B 7, o8 kv13.f_Src.f_B 8, o8 kv13.f_Src.f_B 9, o8 kv13.f_Src.f_B 10, o8 kv13.f_Src.f_B 11, o8 kv13.f_Src.f_B 12, o8 kv13.f_Src.f_B 13, o8 kv13.f_Src.f_B 14, o8 kv13.f_Src.f_B 15, vB kv13.f_Dst.f_Six, o8 kv13.f_Dst.f_B 0, o8 kv13.f_Dst.f_B 1, o8 kv13.f_Dst.f_B 2, o8 kv13.f_Dst.f_B 3, o8 kv13.f_Dst.f_B 4, o8 kv13.f_Dst.f_B 5, o8 kv13.f_Dst.f_B 6, o8 kv13.f_Dst.f_B 7, o8 kv13.f_Dst.f_B 8, o8 kv13.f_Dst.f_B 9, o8 kv13.f_Dst.f_B 10, o8 kv13.f_Dst.f_B 11, o8 kv13.f_Dst.f_B 12, o8 kv13.f_Dst.f_B 13, o8 kv13.f_Dst.f_B 14, o8 kv13.f_Dst.f_B 15, v8 kv13.f_Proto, v16 kv13.f_SrcPort, v16 kv13.f_DstPort]) ag36 rfl (Cs.addsN [] ((hM.bx (i := 2) rfl).fut hf) rfl)) ?_
 refine obindE hF fun y41 hx42 hF => ?_
 refine RD.mcall rfl rfl trivial Try.func56 bd56 rfl rfl (c_table_Table_Delete _ _ _ y24.2.2 _ _ (hM.lent [4, 5] rfl (by decide)) kv13 _ hx42) fun v w43 hv => ?_
 obtain ⟨A45, c46, rfl, hN44⟩ := hv
 refine ⟨fun h => (by cases h), ?_⟩
 replace hM := hM.callL [4, 5] [0, 1, 2, 3, 6] rfl rfl (by decide) rfl hN44
 refine RD.nil ?_
 refine KQ.thn hQ40 ?_
 clear hQ40 Q40
 replace hM := hM.pick [0, 1, 3, 4, 5, 6] rfl (by decide)
 refine KC.cut (fun a w83 => ∃ (A73 : Option Addr) (c74 : Nat) (A78 : Option Addr) (c79 : Nat) (p75 : List T_table_Slot) (p76 : Int) (p80 : List T_flow_Record), Kn 78 [(0, .pointer (some ⟨g2, 0, none⟩)), (2, v8 reason14), (6, .pointer (some ⟨g20, 0, none⟩)), (9, .pointer (some ⟨g35, 0, none⟩)), (10, vI (IntKind.i64.wrap ((cv1.f_flows.length : Int) - 1)))] a ∧ Mem w [some g2, some g4, rblk A6 c7, rblk A9 c10] w83 [.row A73 c74 102 39 (p75).length ((p75).flatMap e_table_Slot), .box g4 96 [.slice A73 (p75).length c74, vI p76], .row A78 c79 46 44 (p80).length ((p80).flatMap e_flow_Record), .box g2 tg12 [v64 cv1.f_tick, vI cv1.f_bounds.f_Flows, v64 cv1.f_bounds.f_Idle, v64 cv1.f_bounds.f_Active, v64 cv1.f_bounds.f_Packets, v64 cv1.f_bounds.f_Bytes, .pointer (some ⟨g4, 0, none⟩), .slice A78 (p80).length c79], .box g20 46 [vB false, o8 (List.replicate 16 0) 0, o8 (List.replicate 16 0) 1, o8 (List.replicate 16 0) 2, o8 (List.replicate 16 0) 3, o8 (List.replicate 16 0) 4, o8 (List.replicate 16 0) 5, o8 (List.replicate 16 0) 6, o8 (List.replicate 16 0) 7, o8 (List.replicate 16 0) 8, o8 (List.replicate 16 0) 9, o8 (List.replicate 16 0) 10, o8 (List.replicate 16 0) 11, o8 (List.replicate 16 0) 12, o8 (List.replicate 16 0) 13, o8 (List.replicate 16 0) 14, o8 (List.replicate 16 0) 15, vB false, o8 (List.replicate 16 0) 0, o8 (List.replicate 16 0) 1, o8 (List.replicate 16 0) 2, o8 (List.replicate 16 0) 3, o8 (List.replicate 16 0) 4, o8 (List.replicate 16 0) 5, o8 (List.replicate 16 0) 6, o8 (List.replicate 16 0) 7, o8 (List.replicate 16 0) 8, o8 (List.replicate 16 0) 9, o8 (List.replicate 16 0) 10, o8 (List.replicate 16 0) 11, o8 (List.replicate 16 0) 12, o8 (List.replicate 16 0) 13, o8 (List.replicate 16 0) 14, o8 (List.replicate 16 0) 15, v8 0, v16 0, v16 0, v64 0, v64 0, v64 0, v64 0, v8 0, v8 0, v8 0], .box g35 46 [vB xv34.f_Key.f_Src.f_Six, o8 xv34.f_Key.f_Src.f_B 0, o8 xv34.f_Key.f_Src.f_B 1, o8 xv34.f_Key.f_Src.f_B 2, o8 xv34.f_Key.f_Src.f_B 3, o8 xv34.f_Key.f_Src.f_B 4, o8 xv34.f_Key.f_Src.f_B 5, o8 xv34.f_Key.f_Src.f_B 6, o8 xv34.f_Key.f_Src.f_B 7, o8 xv34.f_Key.f_Src.f_B 8, o8 xv34.f_Key.f_Src.f_B 9, o8 xv34.f_Key.f_Src.f_B 10, o8 xv34.f_Key.f_Src.f_B 11, o8 xv34.f_Key.f_Src.f_B 12, o8 xv34.f_Key.f_Src.f_B 13, o8 xv34.f_Key.f_Src.f_B 14, o8 xv34.f_Key.f_Src.f_B 15, vB xv34.f_Key.f_Dst.f_Six, o8 xv34.f_Key.f_Dst.f_B 0, o8 xv34.f_Key.f_Dst.f_B 1, o8 xv34.f_Key.f_Dst.f_B 2, o8 xv34.f_Key.f_Dst.f_B 3, o8 xv34.f_Key.f_Dst.f_B 4, o8 xv34.f_Key.f_Dst.f_B 5, o8 xv34.f_Key.f_Dst.f_B 6, o8 xv34.f_Key.f_Dst.f_B 7, o8 xv34.f_Key.f_Dst.f_B 8, o8 xv34.f_Key.f_Dst.f_B 9, o8 xv34.f_Key.f_Dst.f_B 10, o8 xv34.f_Key.f_Dst.f_B 11, o8 xv34.f_Key.f_Dst.f_B 12, o8 xv34.f_Key.f_Dst.f_B 13, o8 xv34.f_Key.f_Dst.f_B 14, o8 xv34.f_Key.f_Dst.f_B 15, v8 xv34.f_Key.f_Proto, v16 xv34.f_Key.f_SrcPort, v16 xv34.f_Key.f_DstPort, v64 xv34.f_Packets, v64 xv34.f_Bytes, v64 xv34.f_First, v64 xv34.f_Last, v8 xv34.f_Flags, v8 xv34.f_Reason, v8 xv34.f_Class]] ∧ F_cache_Cache_end_j1 cv1 reason14 xv34 p75 p76 p80 = some r) ?_ ?_
 ·refine sr fun Q48 hQ48 => ?_
  refine vm rfl rfl ?_
  refine RL.val (O.nilp rfl) rfl ?_
  refine RL.val (O.fldA fl74_3 (by decide) rfl) rfl ?_
  refine RL.val (O.load sc41 rfl (Cs.adds [7] ((hM.bx (i := 0) rfl)) rfl)) rfl ?_
  refine vm rfl rfl ?_
  refine obindE hF fun xv51 hx50 hF => ?_
  have hA49 := Rd.atN (f := e_flow_Record) (s := 44) (fun _ => rfl) (by decide) (hM.rd (i := 1) rfl) hx50
  refine RL.val (O.idxA sl41 (hA49) rfl rfl) rfl ?_
  refine RL.val (O.loadN (cs := [vB xv51.f_Key.f_Src.f_Six, o8 xv51.f_Key.f_Src.f_B 0, o8 xv51.f_Key.f_Src.f_B 1, o8 xv51.f_Key.f_Src.f_B 2, o8 xv51.f_Key.f_Src.f_B 3, o8 xv51.f_Key.f_Src.f_B 4, o8 xv51.f_Key.f_Src.f_B 5, o8 xv51.f_Key.f_Src.f_B 6, o8 xv51.f_Key.f_Src.f_B 7, o8 xv51.f_Key.f_Src.f_B 8, o8 xv51.f_Key.f_Src.f_B 9, o8 xv51.f_Key.f_Src.f_B 10, o8 xv51.f_Key.f_Src.f_B 11, o8 xv51.f_Key.f_Src.f_B 12, o8 xv51.f_Key.f_Src.f_B 13, o8 xv51.f_Key.f_Src.f_B 14, o8 xv51.f_Key.f_Src.f_B 15, vB xv51.f_Key.f_Dst.f_Six, o8 xv51.f_Key.f_Dst.f_B 0, o8 xv51.f_Key.f_Dst.f_B 1, o8 xv51.f_Key.f_Dst.f_B 2, o8 xv51.f_Key.f_Dst.f_B 3, o8 xv51.f_Key.f_Dst.f_B 4, o8 xv51.f_Key.f_Dst.f_B 5, o8 xv51.f_Key.f_Dst.f_B 6, o8 xv51.f_Key.f_Dst.f_B 7, o8 xv51.f_Key.f_Dst.f_B 8, o8 xv51.f_Key.f_Dst.f_B 9, o8 xv51.f_Key.f_Dst.f_B 10, o8 xv51.f_Key.f_Dst.f_B 11, o8 xv51.f_Key.f_Dst.f_B 12, o8 xv51.f_Key.f_Dst.f_B 13, o8 xv51.f_Key.f_Dst.f_B 14, o8 xv51.f_Key.f_Dst.f_B 15, v8 xv51.f_Key.f_Proto, v16 xv51.f_Key.f_SrcPort, v16 xv51.f_Key.f_DstPort, v64 xv51.f_Packets, v64 xv51.f_Bytes, v64 xv51.f_First, v64 xv51.f_Last, v8 xv51.f_Flags, v8 xv51.f_Reason, v8 xv51.f_Class]) ag46 rfl (hA49).cells) rfl ?_
  refine RL.eff (E.alloc hM ze46) rfl fun v w53 hv => ?_
  clear hM
  obtain ⟨g52, rfl, hM, hf⟩ := hv
  refine RL.effs (E.stB (j := 6) (off := 0) (vs := [vB xv51.f_Key.f_Src.f_Six, o8 xv51.f_Key.f_Src.f_B 0, o8 xv51.f_Key.f_Src.f_B 1, o8 xv51.f_Key.f_Src.f_B 2, o8 xv51.f_Key.f_Src.f_B 3, o8 xv51.f_Key.f_Src.f_B 4, o8 xv51.f_Key.f_Src.f_B 5, o8 xv51.f_Key.f_Src.f_B 6, o8 xv51.f_Key.f_Src.f_B 7, o8 xv51.f_Key.f_Src.f_B 8, o8 xv51.f_Key.f_Src.f_B 9, o8 xv51.f_Key.f_Src.f_B 10, o8 xv51.f_Key.f_Src.f_B 11, o8 xv51.f_Key.f_Src.f_B 12, o8 xv51.f_Key.f_Src.f_B 13, o8 xv51.f_Key.f_Src.f_B 14, o8 xv51.f_Key.f_Src.f_B 15, vB xv51.f_Key.f_Dst.f_Six, o8 xv51.f_Key.f_Dst.f_B 0, o8 xv51.f_Key.f_Dst.f_B 1, o8 xv51.f_Key.f_Dst.f_B 2, o8 xv51.f_Key.f_Dst.f_B 3, o8 xv51.f_Key.f_Dst.f_B 4, o8 xv51.f_Key.f_Dst.f_B 5, o8 xv51.f_Key.f_Dst.f_B 6, o8 xv51.f_Key.f_Dst.f_B 7, o8 xv51.f_Key.f_Dst.f_B 8, o8 xv51.f_Key.f_Dst.f_B 9, o8 xv51.f_Key.f_Dst.f_B 10, o8 xv51.f_Key.f_Dst.f_B 11, o8 xv51.f_Key.f_Dst.f_B 12, o8 xv51.f_Key.f_Dst.f_B 13, o8 xv51.f_Key.f_Dst.f_B 14, o8 xv51.f_Key.f_Dst.f_B 15, v8 xv51.f_Key.f_Proto, v16 xv51.f_Key.f_SrcPort, v16 xv51.f_Key.f_DstPort, v64 xv51.f_Packets, v64 xv51.f_Bytes, v64 xv51.f_First, v64 xv51.f_Last, v8 xv51.f_Flags, v8 xv51.f_Reason, v8 xv51.f_Class]) (cs' := [vB xv51.f_Key.f_Src.f_Six, o8 xv51.f_Key.f_Src.f_B 0, o8 xv51.f_Key.f_Src.f_B 1, o8 xv51.f_Key.f_Src.f_B 2, o8 xv51.f_Key.f_Src.f_B 3, o8 xv51.f_Key.f_Src.f_B 4, o8 xv51.f_Key.f_Src.f_B 5, o8 xv51.f_Key.f_Src.f_B 6, o8 xv51.f_Key.f_Src.f_B 7, o8 xv51.f_Key.f_Src.f_B 8, o8 xv51.f_Key.f_Src.f_B 9, o8 xv51.f_Key.f_Src.f_B 10, o8 xv51.f_Key.f_Src.f_B 11, o8 xv51.f_Key.f_Src.f_B 12, o8 xv51.f_Key.f_Src.f_B 13, o8 xv51.f_Key.f_Src.f_B 14, o8 xv51.f_Key.f_Src.f_B 15, vB xv51.f_Key.f_Dst.f_Six, o8 xv51.f_Key.f_Dst.f_B 0, o8 xv51.f_Key.f_Dst.f_B 1, o8 xv51.f_Key.f_Dst.f_B 2, o8 xv51.f_Key.f_Dst.f_B 3, o8 xv51.f_Key.f_Dst.f_B 4, o8 xv51.f_Key.f_Dst.f_B 5, o8 xv51.f_Key.f_Dst.f_B 6, o8 xv51.f_Key.f_Dst.f_B 7, o8 xv51.f_Key.f_Dst.f_B 8, o8 xv51.f_Key.f_Dst.f_B 9, o8 xv51.f_Key.f_Dst.f_B 10, o8 xv51.f_Key.f_Dst.f_B 11, o8 xv51.f_Key.f_Dst.f_B 12, o8 xv51.f_Key.f_Dst.f_B 13, o8 xv51.f_Key.f_Dst.f_B 14, o8 xv51.f_Key.f_Dst.f_B 15, v8 xv51.f_Key.f_Proto, v16 xv51.f_Key.f_SrcPort, v16 xv51.f_Key.f_DstPort, v64 xv51.f_Packets, v64 xv51.f_Bytes, v64 xv51.f_First, v64 xv51.f_Last, v8 xv51.f_Flags, v8 xv51.f_Reason, v8 xv51.f_Class]) hM rfl sz46 rfl (adds_eq [] rfl) rfl rfl (One.all rfl) rfl rfl) fun w55 hM1 => ?_
  clear hM
  have hM := hM1
  clear hM1
  refine nt hQ48 ?_
  clear hQ48 Q48
  refine sr fun Q56 hQ56 => ?_
  refine vm rfl rfl ?_
  refine RL.val (O.conv un3 Try.underlying22 rfl) rfl ?_
  refine vm rfl rfl ?_
  refine RL.val (O.neq rfl rfl) rfl ?_
  refine nt hQ56 ?_
  clear hQ56 Q56
  refine KC.cond rfl (fun hc => ?_) (fun hc => ?_)
  ·rw [if_pos hc] at hF
   refine KC.seqH fun Q57 hQ57 => ?_
   replace hM := hM.drewN 1
   refine KC.draw [] [7] [7] [0, 1, 2, 4] (.ofList [0, 1, 2, 3, 4, 5, 6, 7]) moP (by kernel_rfl) ?_
   refine RD.p rfl rfl rfl rfl (fun w' => O.move rfl) ?_
   refine RD.p rfl rfl rfl rfl (fun w' => O.nilp rfl) ?_
   refine RD.p rfl rfl rfl rfl (fun w' => O.fldA fl74_3 (by decide) rfl) ?_
   refine RD.q rfl rfl rfl rfl (fun w' hf => O.load sc41 rfl (Cs.adds [7] ((hM.bx (i := 0) rfl).fut hf) rfl)) ?_
   refine RD.p rfl rfl rfl rfl (fun w' => O.move rfl) ?_
   refine RD.q rfl rfl rfl rfl (fun w' hf => O.loadN (cs := [vB xv51.f_Key.f_Src.f_Six, o8 xv51.f_Key.f_Src.f_B 0, o8 xv51.f_Key.f_Src.f_B 1, o8 xv51.f_Key.f_Src.f_B 2, o8 xv51.f_Key.f_Src.f_B 3, o8 xv51.f_Key.f_Src.f_B 4, o8 xv51.f_Key.f_Src.f_B 5, o8 xv51.f_Key.f_Src.f_B 6, o8 xv51.f_Key.f_Src.f_B 7, o8 xv51.f_Key.f_Src.f_B 8, o8 xv51.f_Key.f_Src.f_B 9, o8 xv51.f_Key.f_Src.f_B 10, o8 xv51.f_Key.f_Src.f_B 11, o8 xv51.f_Key.f_Src.f_B 12, o8 xv51.f_Key.f_Src.f_B 13, o8 xv51.f_Key.f_Src.f_B 14, o8 xv51.f_Key.f_Src.f_B 15, vB xv51.f_Key.f_Dst.f_Six, o8 xv51.f_Key.f_Dst.f_B 0, o8 xv51.f_Key.f_Dst.f_B 1, o8 xv51.f_Key.f_Dst.f_B 2, o8 xv51.f_Key.f_Dst.f_B 3, o8 xv51.f_Key.f_Dst.f_B 4, o8 xv51.f_Key.f_Dst.f_B 5, o8 xv51.f_Key.f_Dst.f_B 6, o8 xv51.f_Key.f_Dst.f_B 7, o8 xv51.f_Key.f_Dst.f_B 8, o8 xv51.f_Key.f_Dst.f_B 9, o8 xv51.f_Key.f_Dst.f_B 10, o8 xv51.f_Key.f_Dst.f_B 11, o8 xv51.f_Key.f_Dst.f_B 12, o8 xv51.f_Key.f_Dst.f_B 13, o8 xv51.f_Key.f_Dst.f_B 14, o8 xv51.f_Key.f_Dst.f_B 15, v8 xv51.f_Key.f_Proto, v16 xv51.f_Key.f_SrcPort, v16 xv51.f_Key.f_DstPort, v64 xv51.f_Packets, v64 xv51.f_Bytes, v64 xv51.f_First, v64 xv51.f_Last, v8 xv51.f_Flags, v8 xv51.f_Reason, v8 xv51.f_Class]) ag46 rfl (Cs.addsN [] ((hM.bx (i := 6) rfl).fut hf) rfl)) ?_
   refine obindE hF fun xv60 hx59 hF => ?_
   have hA58 := Rd.atN (f := e_flow_Record) (s := 44) (fun _ => rfl) (by decide) (hM.rd (i := 1) rfl) hx59
   refine RD.q rfl rfl rfl rfl (fun w' hf => O.idxA sl41 (hA58.fut hf) rfl rfl) ?_
   refine RD.meffs rfl rfl rfl (E.stR (enc := e_flow_Record) (j := 1) (off := 0) (vs := [vB xv51.f_Key.f_Src.f_Six, o8 xv51.f_Key.f_Src.f_B 0, o8 xv51.f_Key.f_Src.f_B 1, o8 xv51.f_Key.f_Src.f_B 2, o8 xv51.f_Key.f_Src.f_B 3, o8 xv51.f_Key.f_Src.f_B 4, o8 xv51.f_Key.f_Src.f_B 5, o8 xv51.f_Key.f_Src.f_B 6, o8 xv51.f_Key.f_Src.f_B 7, o8 xv51.f_Key.f_Src.f_B 8, o8 xv51.f_Key.f_Src.f_B 9, o8 xv51.f_Key.f_Src.f_B 10, o8 xv51.f_Key.f_Src.f_B 11, o8 xv51.f_Key.f_Src.f_B 12, o8 xv51.f_Key.f_Src.f_B 13, o8 xv51.f_Key.f_Src.f_B 14, o8 xv51.f_Key.f_Src.f_B 15, vB xv51.f_Key.f_Dst.f_Six, o8 xv51.f_Key.f_Dst.f_B 0, o8 xv51.f_Key.f_Dst.f_B 1, o8 xv51.f_Key.f_Dst.f_B 2, o8 xv51.f_Key.f_Dst.f_B 3, o8 xv51.f_Key.f_Dst.f_B 4, o8 xv51.f_Key.f_Dst.f_B 5, o8 xv51.f_Key.f_Dst.f_B 6, o8 xv51.f_Key.f_Dst.f_B 7, o8 xv51.f_Key.f_Dst.f_B 8, o8 xv51.f_Key.f_Dst.f_B 9, o8 xv51.f_Key.f_Dst.f_B 10, o8 xv51.f_Key.f_Dst.f_B 11, o8 xv51.f_Key.f_Dst.f_B 12, o8 xv51.f_Key.f_Dst.f_B 13, o8 xv51.f_Key.f_Dst.f_B 14, o8 xv51.f_Key.f_Dst.f_B 15, v8 xv51.f_Key.f_Proto, v16 xv51.f_Key.f_SrcPort, v16 xv51.f_Key.f_DstPort, v64 xv51.f_Packets, v64 xv51.f_Bytes, v64 xv51.f_First, v64 xv51.f_Last, v8 xv51.f_Flags, v8 xv51.f_Reason, v8 xv51.f_Class]) (x' := xv51) hM rfl (fun _ => rfl) hx59 sz46 rfl (addsR_eq [] rfl) rfl rfl (One.all rfl) rfl rfl) fun w61 hM1 => ?_
   clear hM
   obtain ⟨hM, hn62⟩ := hM1
   refine RD.reslot (t := 54) rfl hn62 ?_
   replace hM := hM.rebox (i := 0) (cs' := [v64 cv1.f_tick, vI cv1.f_bounds.f_Flows, v64 cv1.f_bounds.f_Idle, v64 cv1.f_bounds.f_Active, v64 cv1.f_bounds.f_Packets, v64 cv1.f_bounds.f_Bytes, .pointer (some ⟨g4, 0, none⟩), .slice A9 ((cv1.f_flows.set (y24.1 : Int).toNat xv51)).length c10]) rfl (by rw [← hn62])
   refine RD.nil ?_
   refine KQ.thn hQ57 ?_
   clear hQ57 Q57
   replace hM := hM.drewN 1
   refine KC.draw [] [7] [7] [0, 1, 2, 4, 6] (.ofList [0, 1, 2, 3, 4, 5, 6, 7]) moP (by kernel_rfl) ?_
   refine RD.p rfl rfl rfl rfl (fun w' => O.move rfl) ?_
   refine RD.p rfl rfl rfl rfl (fun w' => O.nilp rfl) ?_
   refine RD.p rfl rfl rfl rfl (fun w' => O.fldA fl74_2 (by decide) rfl) ?_
   refine RD.q rfl rfl rfl rfl (fun w' hf => O.load sc68 rfl (Cs.adds [6] ((hM.bx (i := 0) rfl).fut hf) rfl)) ?_
   refine RD.p rfl rfl rfl rfl (fun w' => O.fldA fl46_0 (by decide) rfl) ?_
   refine RD.q rfl rfl rfl rfl (fun w' hf => O.loadN (cs := [vB xv51.f_Key.f_Src.f_Six, o8 xv51.f_Key.f_Src.f_B 0, o8 xv51.f_Key.f_Src.f_B 1, o8 xv51.f_Key.f_Src.f_B 2, o8 xv51.f_Key.f_Src.f_B 3, o8 xv51.f_Key.f_Src.f_B 4, o8 xv51.f_Key.f_Src.f_B 5, o8 xv51.f_Key.f_Src.f_B 6, o8 xv51.f_Key.f_Src.f_B 7, o8 xv51.f_Key.f_Src.f_B 8, o8 xv51.f_Key.f_Src.f_B 9, o8 xv51.f_Key.f_Src.f_B 10, o8 xv51.f_Key.f_Src.f_B 11, o8 xv51.f_Key.f_Src.f_B 12, o8 xv51.f_Key.f_Src.f_B 13, o8 xv51.f_Key.f_Src.f_B 14, o8 xv51.f_Key.f_Src.f_B 15, vB xv51.f_Key.f_Dst.f_Six, o8 xv51.f_Key.f_Dst.f_B 0, o8 xv51.f_Key.f_Dst.f_B 1, o8 xv51.f_Key.f_Dst.f_B 2, o8 xv51.f_Key.f_Dst.f_B 3, o8 xv51.f_Key.f_Dst.f_B 4, o8 xv51.f_Key.f_Dst.f_B 5, o8 xv51.f_Key.f_Dst.f_B 6, o8 xv51.f_Key.f_Dst.f_B 7, o8 xv51.f_Key.f_Dst.f_B 8, o8 xv51.f_Key.f_Dst.f_B 9, o8 xv51.f_Key.f_Dst.f_B 10, o8 xv51.f_Key.f_Dst.f_B 11, o8 xv51.f_Key.f_Dst.f_B 12, o8 xv51.f_Key.f_Dst.f_B 13, o8 xv51.f_Key.f_Dst.f_B 14, o8 xv51.f_Key.f_Dst.f_B 15, v8 xv51.f_Key.f_Proto, v16 xv51.f_Key.f_SrcPort, v16 xv51.f_Key.f_DstPort]) ag36 rfl (Cs.addsN [0] ((hM.bx (i := 6) rfl).fut hf) rfl)) ?_
   refine RD.p rfl rfl rfl rfl (fun w' => O.move rfl) ?_
   refine obindE hF fun y63 hx64 hF => ?_
   refine RD.mcall rfl rfl trivial Try.func53 bd53 rfl rfl (c_table_Table_Put _ _ _ y41.2 _ _ (hM.lent [4, 5] rfl (by decide)) xv51.f_Key y24.1 _ hx64) fun v w65 hv => ?_
   obtain ⟨A67, c68, rfl, hN66⟩ := hv
   refine ⟨fun h => (by cases h), ?_⟩
   replace hM := hM.callL [4, 5] [0, 1, 2, 3, 6] rfl rfl (by decide) rfl hN66
   refine RD.nil ?_
   refine KQ.then_k ?_
   replace hM := hM.pick [6, 5, 1, 0, 2, 3] rfl (by decide)
   exact fun a ha => ⟨A67, c68, A9, c10, y63.2.f_slots, y63.2.f_many, (cv1.f_flows.set (y24.1 : Int).toNat xv51), ha.less (less_cons rfl (less_cons rfl (less_cons rfl (less_cons rfl (less_cons rfl less_nil))))), hM, hF⟩
  rw [if_neg (ne_true hc)] at hF
  refine KC.skip ?_
  refine KQ.then_k ?_
  replace hM := hM.pick [5, 4, 1, 0, 2, 3] rfl (by decide)
  exact fun a ha => ⟨A45, c46, A9, c10, y41.2.f_slots, y41.2.f_many, cv1.f_flows, ha.less (less_cons rfl (less_cons rfl (less_cons rfl (less_cons rfl (less_cons rfl less_nil))))), hM, hF⟩
 rintro a w83 ⟨A73, c74, A78, c79, p75, p76, p80, ha, hM, hF⟩
 refine KC.app ha ?_
 clear ha
 unfold F_cache_Cache_end_j1 at hF
 refine sr fun Q84 hQ84 => ?_
 refine vm rfl rfl ?_
 refine vm rfl rfl ?_
 refine RL.val (O.nilp rfl) rfl ?_
 refine RL.val (O.fldA fl74_3 (by decide) rfl) rfl ?_
 refine RL.val (O.load sc41 rfl (Cs.adds [7] ((hM.bx (i := 3) rfl)) rfl)) rfl ?_
 refine vm rfl rfl ?_
 refine obindE hF fun cut85 hy86 hF => ?_
 have hrd := (hM.rd (i := 2) rfl)
 replace hM := hM.short (enc := e_flow_Record) (fun _ => rfl) (i := 2) rfl hy86
 refine RL.val (O.short (A := A78) (c := c79) (xs := p80) (ys := cut85) sl41 hrd.cap hy86 rfl rfl) rfl ?_
 refine RL.val (O.nilp rfl) rfl ?_
 refine RL.val (O.fldA fl74_3 (by decide) rfl) rfl ?_
 refine RL.effs (E.stB (j := 3) (off := 7) (vs := [.slice A78 (cut85).length c79]) (cs' := [v64 cv1.f_tick, vI cv1.f_bounds.f_Flows, v64 cv1.f_bounds.f_Idle, v64 cv1.f_bounds.f_Active, v64 cv1.f_bounds.f_Packets, v64 cv1.f_bounds.f_Bytes, .pointer (some ⟨g4, 0, none⟩), .slice A78 (cut85).length c79]) hM rfl sz41 rfl (adds_eq [7] rfl) rfl rfl (One.all rfl) rfl rfl) fun w88 hM1 => ?_
 clear hM
 have hM := hM1
 clear hM1
 refine nt hQ84 ?_
 clear hQ84 Q84
 refine sr fun Q89 hQ89 => ?_
 refine vm rfl rfl ?_
 refine RL.val (O.fldA fl46_6 (by decide) rfl) rfl ?_
 refine RL.effs (E.stB (j := 5) (off := 42) (vs := [v8 reason14]) (cs' := [vB xv34.f_Key.f_Src.f_Six, o8 xv34.f_Key.f_Src.f_B 0, o8 xv34.f_Key.f_Src.f_B 1, o8 xv34.f_Key.f_Src.f_B 2, o8 xv34.f_Key.f_Src.f_B 3, o8 xv34.f_Key.f_Src.f_B 4, o8 xv34.f_Key.f_Src.f_B 5, o8 xv34.f_Key.f_Src.f_B 6, o8 xv34.f_Key.f_Src.f_B 7, o8 xv34.f_Key.f_Src.f_B 8, o8 xv34.f_Key.f_Src.f_B 9, o8 xv34.f_Key.f_Src.f_B 10, o8 xv34.f_Key.f_Src.f_B 11, o8 xv34.f_Key.f_Src.f_B 12, o8 xv34.f_Key.f_Src.f_B 13, o8 xv34.f_Key.f_Src.f_B 14, o8 xv34.f_Key.f_Src.f_B 15, vB xv34.f_Key.f_Dst.f_Six, o8 xv34.f_Key.f_Dst.f_B 0, o8 xv34.f_Key.f_Dst.f_B 1, o8 xv34.f_Key.f_Dst.f_B 2, o8 xv34.f_Key.f_Dst.f_B 3, o8 xv34.f_Key.f_Dst.f_B 4, o8 xv34.f_Key.f_Dst.f_B 5, o8 xv34.f_Key.f_Dst.f_B 6, o8 xv34.f_Key.f_Dst.f_B 7, o8 xv34.f_Key.f_Dst.f_B 8, o8 xv34.f_Key.f_Dst.f_B 9, o8 xv34.f_Key.f_Dst.f_B 10, o8 xv34.f_Key.f_Dst.f_B 11, o8 xv34.f_Key.f_Dst.f_B 12, o8 xv34.f_Key.f_Dst.f_B 13, o8 xv34.f_Key.f_Dst.f_B 14, o8 xv34.f_Key.f_Dst.f_B 15, v8 xv34.f_Key.f_Proto, v16 xv34.f_Key.f_SrcPort, v16 xv34.f_Key.f_DstPort, v64 xv34.f_Packets, v64 xv34.f_Bytes, v64 xv34.f_First, v64 xv34.f_Last, v8 xv34.f_Flags, v8 reason14, v8 xv34.f_Class]) hM rfl sz5 rfl (adds_eq [42] rfl) rfl rfl (One.all rfl) rfl rfl) fun w90 hM1 => ?_
 clear hM
 have hM := hM1
 clear hM1
 refine nt hQ89 ?_
 clear hQ89 Q89
 refine sr fun Q91 hQ91 => ?_
 refine RL.val (O.loadN (cs := [vB xv34.f_Key.f_Src.f_Six, o8 xv34.f_Key.f_Src.f_B 0, o8 xv34.f_Key.f_Src.f_B 1, o8 xv34.f_Key.f_Src.f_B 2, o8 xv34.f_Key.f_Src.f_B 3, o8 xv34.f_Key.f_Src.f_B 4, o8 xv34.f_Key.f_Src.f_B 5, o8 xv34.f_Key.f_Src.f_B 6, o8 xv34.f_Key.f_Src.f_B 7, o8 xv34.f_Key.f_Src.f_B 8, o8 xv34.f_Key.f_Src.f_B 9, o8 xv34.f_Key.f_Src.f_B 10, o8 xv34.f_Key.f_Src.f_B 11, o8 xv34.f_Key.f_Src.f_B 12, o8 xv34.f_Key.f_Src.f_B 13, o8 xv34.f_Key.f_Src.f_B 14, o8 xv34.f_Key.f_Src.f_B 15, vB xv34.f_Key.f_Dst.f_Six, o8 xv34.f_Key.f_Dst.f_B 0, o8 xv34.f_Key.f_Dst.f_B 1, o8 xv34.f_Key.f_Dst.f_B 2, o8 xv34.f_Key.f_Dst.f_B 3, o8 xv34.f_Key.f_Dst.f_B 4, o8 xv34.f_Key.f_Dst.f_B 5, o8 xv34.f_Key.f_Dst.f_B 6, o8 xv34.f_Key.f_Dst.f_B 7, o8 xv34.f_Key.f_Dst.f_B 8, o8 xv34.f_Key.f_Dst.f_B 9, o8 xv34.f_Key.f_Dst.f_B 10, o8 xv34.f_Key.f_Dst.f_B 11, o8 xv34.f_Key.f_Dst.f_B 12, o8 xv34.f_Key.f_Dst.f_B 13, o8 xv34.f_Key.f_Dst.f_B 14, o8 xv34.f_Key.f_Dst.f_B 15, v8 xv34.f_Key.f_Proto, v16 xv34.f_Key.f_SrcPort, v16 xv34.f_Key.f_DstPort, v64 xv34.f_Packets, v64 xv34.f_Bytes, v64 xv34.f_First, v64 xv34.f_Last, v8 xv34.f_Flags, v8 reason14, v8 xv34.f_Class]) ag46 rfl (Cs.addsN [] ((hM.bx (i := 5) rfl)) rfl)) rfl ?_
 refine RL.effs (E.stB (j := 4) (off := 0) (vs := [vB xv34.f_Key.f_Src.f_Six, o8 xv34.f_Key.f_Src.f_B 0, o8 xv34.f_Key.f_Src.f_B 1, o8 xv34.f_Key.f_Src.f_B 2, o8 xv34.f_Key.f_Src.f_B 3, o8 xv34.f_Key.f_Src.f_B 4, o8 xv34.f_Key.f_Src.f_B 5, o8 xv34.f_Key.f_Src.f_B 6, o8 xv34.f_Key.f_Src.f_B 7, o8 xv34.f_Key.f_Src.f_B 8, o8 xv34.f_Key.f_Src.f_B 9, o8 xv34.f_Key.f_Src.f_B 10, o8 xv34.f_Key.f_Src.f_B 11, o8 xv34.f_Key.f_Src.f_B 12, o8 xv34.f_Key.f_Src.f_B 13, o8 xv34.f_Key.f_Src.f_B 14, o8 xv34.f_Key.f_Src.f_B 15, vB xv34.f_Key.f_Dst.f_Six, o8 xv34.f_Key.f_Dst.f_B 0, o8 xv34.f_Key.f_Dst.f_B 1, o8 xv34.f_Key.f_Dst.f_B 2, o8 xv34.f_Key.f_Dst.f_B 3, o8 xv34.f_Key.f_Dst.f_B 4, o8 xv34.f_Key.f_Dst.f_B 5, o8 xv34.f_Key.f_Dst.f_B 6, o8 xv34.f_Key.f_Dst.f_B 7, o8 xv34.f_Key.f_Dst.f_B 8, o8 xv34.f_Key.f_Dst.f_B 9, o8 xv34.f_Key.f_Dst.f_B 10, o8 xv34.f_Key.f_Dst.f_B 11, o8 xv34.f_Key.f_Dst.f_B 12, o8 xv34.f_Key.f_Dst.f_B 13, o8 xv34.f_Key.f_Dst.f_B 14, o8 xv34.f_Key.f_Dst.f_B 15, v8 xv34.f_Key.f_Proto, v16 xv34.f_Key.f_SrcPort, v16 xv34.f_Key.f_DstPort, v64 xv34.f_Packets, v64 xv34.f_Bytes, v64 xv34.f_First, v64 xv34.f_Last, v8 xv34.f_Flags, v8 reason14, v8 xv34.f_Class]) (cs' := [vB xv34.f_Key.f_Src.f_Six, o8 xv34.f_Key.f_Src.f_B 0, o8 xv34.f_Key.f_Src.f_B 1, o8 xv34.f_Key.f_Src.f_B 2, o8 xv34.f_Key.f_Src.f_B 3, o8 xv34.f_Key.f_Src.f_B 4, o8 xv34.f_Key.f_Src.f_B 5, o8 xv34.f_Key.f_Src.f_B 6, o8 xv34.f_Key.f_Src.f_B 7, o8 xv34.f_Key.f_Src.f_B 8, o8 xv34.f_Key.f_Src.f_B 9, o8 xv34.f_Key.f_Src.f_B 10, o8 xv34.f_Key.f_Src.f_B 11, o8 xv34.f_Key.f_Src.f_B 12, o8 xv34.f_Key.f_Src.f_B 13, o8 xv34.f_Key.f_Src.f_B 14, o8 xv34.f_Key.f_Src.f_B 15, vB xv34.f_Key.f_Dst.f_Six, o8 xv34.f_Key.f_Dst.f_B 0, o8 xv34.f_Key.f_Dst.f_B 1, o8 xv34.f_Key.f_Dst.f_B 2, o8 xv34.f_Key.f_Dst.f_B 3, o8 xv34.f_Key.f_Dst.f_B 4, o8 xv34.f_Key.f_Dst.f_B 5, o8 xv34.f_Key.f_Dst.f_B 6, o8 xv34.f_Key.f_Dst.f_B 7, o8 xv34.f_Key.f_Dst.f_B 8, o8 xv34.f_Key.f_Dst.f_B 9, o8 xv34.f_Key.f_Dst.f_B 10, o8 xv34.f_Key.f_Dst.f_B 11, o8 xv34.f_Key.f_Dst.f_B 12, o8 xv34.f_Key.f_Dst.f_B 13, o8 xv34.f_Key.f_Dst.f_B 14, o8 xv34.f_Key.f_Dst.f_B 15, v8 xv34.f_Key.f_Proto, v16 xv34.f_Key.f_SrcPort, v16 xv34.f_Key.f_DstPort, v64 xv34.f_Packets, v64 xv34.f_Bytes, v64 xv34.f_First, v64 xv34.f_Last, v8 xv34.f_Flags, v8 reason14, v8 xv34.f_Class]) hM rfl sz46 rfl (adds_eq [] rfl) rfl rfl (One.all rfl) rfl rfl) fun w92 hM1 => ?_
 clear hM
 have hM := hM1
 clear hM1
 refine nt hQ91 ?_
 clear hQ91 Q91
 refine KC.ret ?_
 have hE := Option.some.inj hF
 clear hF
 subst hE
 have hb93 := hM.bx (i := 4) rfl
 replace hM := hM.pick [3, 1, 0, 2] rfl (by decide)
 refine KQ.rets Try.results30 (RVs.cons (RV.cN (cs := [vB xv34.f_Key.f_Src.f_Six, o8 xv34.f_Key.f_Src.f_B 0, o8 xv34.f_Key.f_Src.f_B 1, o8 xv34.f_Key.f_Src.f_B 2, o8 xv34.f_Key.f_Src.f_B 3, o8 xv34.f_Key.f_Src.f_B 4, o8 xv34.f_Key.f_Src.f_B 5, o8 xv34.f_Key.f_Src.f_B 6, o8 xv34.f_Key.f_Src.f_B 7, o8 xv34.f_Key.f_Src.f_B 8, o8 xv34.f_Key.f_Src.f_B 9, o8 xv34.f_Key.f_Src.f_B 10, o8 xv34.f_Key.f_Src.f_B 11, o8 xv34.f_Key.f_Src.f_B 12, o8 xv34.f_Key.f_Src.f_B 13, o8 xv34.f_Key.f_Src.f_B 14, o8 xv34.f_Key.f_Src.f_B 15, vB xv34.f_Key.f_Dst.f_Six, o8 xv34.f_Key.f_Dst.f_B 0, o8 xv34.f_Key.f_Dst.f_B 1, o8 xv34.f_Key.f_Dst.f_B 2, o8 xv34.f_Key.f_Dst.f_B 3, o8 xv34.f_Key.f_Dst.f_B 4, o8 xv34.f_Key.f_Dst.f_B 5, o8 xv34.f_Key.f_Dst.f_B 6, o8 xv34.f_Key.f_Dst.f_B 7, o8 xv34.f_Key.f_Dst.f_B 8, o8 xv34.f_Key.f_Dst.f_B 9, o8 xv34.f_Key.f_Dst.f_B 10, o8 xv34.f_Key.f_Dst.f_B 11, o8 xv34.f_Key.f_Dst.f_B 12, o8 xv34.f_Key.f_Dst.f_B 13, o8 xv34.f_Key.f_Dst.f_B 14, o8 xv34.f_Key.f_Dst.f_B 15, v8 xv34.f_Key.f_Proto, v16 xv34.f_Key.f_SrcPort, v16 xv34.f_Key.f_DstPort, v64 xv34.f_Packets, v64 xv34.f_Bytes, v64 xv34.f_First, v64 xv34.f_Last, v8 xv34.f_Flags, v8 reason14, v8 xv34.f_Class]) rfl ag46 hb93) RVs.nil) ?_
 exact ⟨_, rfl, g4, A73, c74, A78, c79, rfl, hM⟩
end Go.Proofs.Ytkpnocgfhipidaa
