/- Printed by a program of this claim: each call returns what the plain function of its name gives. -/
import Derived.Test.YtkpnocgfhipidaaW1
import Derived.Test.YtkpnocgfhipidaaW3
import Derived.Test.YtkpnocgfhipidaaW8
set_option linter.unusedVariables false
namespace Go.Proofs.Ytkpnocgfhipidaa
open Go Go.Ox Go.RowKit
set_option maxRecDepth 100000 in
set_option maxHeartbeats 40000000 in
theorem c_table_Table_Put (w : World) (g2 : Nat) (tg7 : TypeId) (t1 : T_table_Table) (A4 : Option Addr) (c5 : Nat) (hL10 : Lent w [.box g2 tg7 [.slice A4 (t1.f_slots).length c5, vI t1.f_many], .row A4 c5 102 39 (t1.f_slots).length ((t1.f_slots).flatMap e_table_Slot)]) (kv8 : T_packet_Key) (nv9 : Int) (r : Int × T_table_Table) (hF : F_table_Table_Put t1 kv8 nv9 = some r) :
  CallsR Try.prog 53 [.pointer (some ⟨g2, 0, none⟩), .agg #[vB kv8.f_Src.f_Six, o8 kv8.f_Src.f_B 0, o8 kv8.f_Src.f_B 1, o8 kv8.f_Src.f_B 2, o8 kv8.f_Src.f_B 3, o8 kv8.f_Src.f_B 4, o8 kv8.f_Src.f_B 5, o8 kv8.f_Src.f_B 6, o8 kv8.f_Src.f_B 7, o8 kv8.f_Src.f_B 8, o8 kv8.f_Src.f_B 9, o8 kv8.f_Src.f_B 10, o8 kv8.f_Src.f_B 11, o8 kv8.f_Src.f_B 12, o8 kv8.f_Src.f_B 13, o8 kv8.f_Src.f_B 14, o8 kv8.f_Src.f_B 15, vB kv8.f_Dst.f_Six, o8 kv8.f_Dst.f_B 0, o8 kv8.f_Dst.f_B 1, o8 kv8.f_Dst.f_B 2, o8 kv8.f_Dst.f_B 3, o8 kv8.f_Dst.f_B 4, o8 kv8.f_Dst.f_B 5, o8 kv8.f_Dst.f_B 6, o8 kv8.f_Dst.f_B 7, o8 kv8.f_Dst.f_B 8, o8 kv8.f_Dst.f_B 9, o8 kv8.f_Dst.f_B 10, o8 kv8.f_Dst.f_B 11, o8 kv8.f_Dst.f_B 12, o8 kv8.f_Dst.f_B 13, o8 kv8.f_Dst.f_B 14, o8 kv8.f_Dst.f_B 15, v8 kv8.f_Proto, v16 kv8.f_SrcPort, v16 kv8.f_DstPort], v64 nv9] w (fun v w' => ∃ (A0 : Option Addr) (c0 : Nat), v = vI r.1 ∧ Mem w [some g2, rblk A4 c5] w' [.box g2 tg7 [.slice A0 (r.2.f_slots).length c0, vI r.2.f_many], .row A0 c0 102 39 r.2.f_slots.length (r.2.f_slots.flatMap e_table_Slot)]) := by
 refine calls_KC Try.func53 rfl Try.ntmps53 rfl ?_
 have hM : Mem w [some g2, rblk A4 c5] w [.box g2 tg7 [.slice A4 (t1.f_slots).length c5, vI t1.f_many], .row A4 c5 102 39 (t1.f_slots).length ((t1.f_slots).flatMap e_table_Slot)] := Mem.lendN hL10
 unfold F_table_Table_Put at hF
 refine sr fun Q11 hQ11 => ?_
 refine RL.eff (E.box (vs := [vB kv8.f_Src.f_Six, o8 kv8.f_Src.f_B 0, o8 kv8.f_Src.f_B 1, o8 kv8.f_Src.f_B 2, o8 kv8.f_Src.f_B 3, o8 kv8.f_Src.f_B 4, o8 kv8.f_Src.f_B 5, o8 kv8.f_Src.f_B 6, o8 kv8.f_Src.f_B 7, o8 kv8.f_Src.f_B 8, o8 kv8.f_Src.f_B 9, o8 kv8.f_Src.f_B 10, o8 kv8.f_Src.f_B 11, o8 kv8.f_Src.f_B 12, o8 kv8.f_Src.f_B 13, o8 kv8.f_Src.f_B 14, o8 kv8.f_Src.f_B 15, vB kv8.f_Dst.f_Six, o8 kv8.f_Dst.f_B 0, o8 kv8.f_Dst.f_B 1, o8 kv8.f_Dst.f_B 2, o8 kv8.f_Dst.f_B 3, o8 kv8.f_Dst.f_B 4, o8 kv8.f_Dst.f_B 5, o8 kv8.f_Dst.f_B 6, o8 kv8.f_Dst.f_B 7, o8 kv8.f_Dst.f_B 8, o8 kv8.f_Dst.f_B 9, o8 kv8.f_Dst.f_B 10, o8 kv8.f_Dst.f_B 11, o8 kv8.f_Dst.f_B 12, o8 kv8.f_Dst.f_B 13, o8 kv8.f_Dst.f_B 14, o8 kv8.f_Dst.f_B 15, v8 kv8.f_Proto, v16 kv8.f_SrcPort, v16 kv8.f_DstPort]) hM rfl rfl) rfl fun v w13 hv => ?_
 clear hM
 obtain ⟨g12, rfl, hM, hf⟩ := hv
 refine va rfl rfl ?_
 refine nt hQ11 ?_
 clear hQ11 Q11
 refine sr fun Q15 hQ15 => ?_
 refine vm rfl rfl ?_
 refine RL.val (O.loadN (cs := [vB kv8.f_Src.f_Six, o8 kv8.f_Src.f_B 0, o8 kv8.f_Src.f_B 1, o8 kv8.f_Src.f_B 2, o8 kv8.f_Src.f_B 3, o8 kv8.f_Src.f_B 4, o8 kv8.f_Src.f_B 5, o8 kv8.f_Src.f_B 6, o8 kv8.f_Src.f_B 7, o8 kv8.f_Src.f_B 8, o8 kv8.f_Src.f_B 9, o8 kv8.f_Src.f_B 10, o8 kv8.f_Src.f_B 11, o8 kv8.f_Src.f_B 12, o8 kv8.f_Src.f_B 13, o8 kv8.f_Src.f_B 14, o8 kv8.f_Src.f_B 15, vB kv8.f_Dst.f_Six, o8 kv8.f_Dst.f_B 0, o8 kv8.f_Dst.f_B 1, o8 kv8.f_Dst.f_B 2, o8 kv8.f_Dst.f_B 3, o8 kv8.f_Dst.f_B 4, o8 kv8.f_Dst.f_B 5, o8 kv8.f_Dst.f_B 6, o8 kv8.f_Dst.f_B 7, o8 kv8.f_Dst.f_B 8, o8 kv8.f_Dst.f_B 9, o8 kv8.f_Dst.f_B 10, o8 kv8.f_Dst.f_B 11, o8 kv8.f_Dst.f_B 12, o8 kv8.f_Dst.f_B 13, o8 kv8.f_Dst.f_B 14, o8 kv8.f_Dst.f_B 15, v8 kv8.f_Proto, v16 kv8.f_SrcPort, v16 kv8.f_DstPort]) ag36 rfl (Cs.addsN [] ((hM.bx (i := 2) rfl)) rfl)) rfl ?_
 refine obindE hF fun y16 hx17 hF => ?_
 refine RL.call Try.func64 bd64 rfl rfl (c_table_Table_find _ _ _ t1 _ _ (hM.lent [0, 1] rfl (by decide)) kv8 _ hx17) fun v w18 hv => ?_
 obtain ⟨A20, c21, rfl, hN19⟩ := hv
 replace hM := hM.callL [0, 1] [2] rfl rfl (by decide) rfl hN19
 refine vm rfl rfl ?_
 refine RL.val (O.ext rfl rfl) rfl ?_
 refine RL.val (O.ext rfl rfl) rfl ?_
 refine va rfl rfl ?_
 refine va rfl rfl ?_
 refine nt hQ15 ?_
 clear hQ15 Q15
 refine KC.cut (fun a w41 => ∃ (p39 : Int), Kn 51 [(0, .pointer (some ⟨g2, 0, none⟩)), (2, v64 nv9), (4, .pointer (some ⟨g12, 0, none⟩)), (7, vI y16.1)] a ∧ Mem w [some g2, rblk A4 c5] w41 [.row A20 c21 102 39 (y16.2.2.f_slots).length ((y16.2.2.f_slots).flatMap e_table_Slot), .box g2 tg7 [.slice A20 (y16.2.2.f_slots).length c21, vI p39], .box g12 36 [vB kv8.f_Src.f_Six, o8 kv8.f_Src.f_B 0, o8 kv8.f_Src.f_B 1, o8 kv8.f_Src.f_B 2, o8 kv8.f_Src.f_B 3, o8 kv8.f_Src.f_B 4, o8 kv8.f_Src.f_B 5, o8 kv8.f_Src.f_B 6, o8 kv8.f_Src.f_B 7, o8 kv8.f_Src.f_B 8, o8 kv8.f_Src.f_B 9, o8 kv8.f_Src.f_B 10, o8 kv8.f_Src.f_B 11, o8 kv8.f_Src.f_B 12, o8 kv8.f_Src.f_B 13, o8 kv8.f_Src.f_B 14, o8 kv8.f_Src.f_B 15, vB kv8.f_Dst.f_Six, o8 kv8.f_Dst.f_B 0, o8 kv8.f_Dst.f_B 1, o8 kv8.f_Dst.f_B 2, o8 kv8.f_Dst.f_B 3, o8 kv8.f_Dst.f_B 4, o8 kv8.f_Dst.f_B 5, o8 kv8.f_Dst.f_B 6, o8 kv8.f_Dst.f_B 7, o8 kv8.f_Dst.f_B 8, o8 kv8.f_Dst.f_B 9, o8 kv8.f_Dst.f_B 10, o8 kv8.f_Dst.f_B 11, o8 kv8.f_Dst.f_B 12, o8 kv8.f_Dst.f_B 13, o8 kv8.f_Dst.f_B 14, o8 kv8.f_Dst.f_B 15, v8 kv8.f_Proto, v16 kv8.f_SrcPort, v16 kv8.f_DstPort]] ∧ F_table_Table_Put_j1 kv8 nv9 y16 p39 = some r) ?_ ?_
 ·refine KC.block ?_
  refine sr fun Q23 hQ23 => ?_
  refine vm rfl rfl ?_
  refine RL.val (O.peqn Try.underlying68 rfl rfl) rfl ?_
  refine va rfl rfl ?_
  refine nt hQ23 ?_
  clear hQ23 Q23
  refine KC.condF rfl ?_
  refine sr fun Q24 hQ24 => ?_
  refine RL.val (O.loadN (cs := [vB kv8.f_Src.f_Six, o8 kv8.f_Src.f_B 0, o8 kv8.f_Src.f_B 1, o8 kv8.f_Src.f_B 2, o8 kv8.f_Src.f_B 3, o8 kv8.f_Src.f_B 4, o8 kv8.f_Src.f_B 5, o8 kv8.f_Src.f_B 6, o8 kv8.f_Src.f_B 7, o8 kv8.f_Src.f_B 8, o8 kv8.f_Src.f_B 9, o8 kv8.f_Src.f_B 10, o8 kv8.f_Src.f_B 11, o8 kv8.f_Src.f_B 12, o8 kv8.f_Src.f_B 13, o8 kv8.f_Src.f_B 14, o8 kv8.f_Src.f_B 15, vB kv8.f_Dst.f_Six, o8 kv8.f_Dst.f_B 0, o8 kv8.f_Dst.f_B 1, o8 kv8.f_Dst.f_B 2, o8 kv8.f_Dst.f_B 3, o8 kv8.f_Dst.f_B 4, o8 kv8.f_Dst.f_B 5, o8 kv8.f_Dst.f_B 6, o8 kv8.f_Dst.f_B 7, o8 kv8.f_Dst.f_B 8, o8 kv8.f_Dst.f_B 9, o8 kv8.f_Dst.f_B 10, o8 kv8.f_Dst.f_B 11, o8 kv8.f_Dst.f_B 12, o8 kv8.f_Dst.f_B 13, o8 kv8.f_Dst.f_B 14, o8 kv8.f_Dst.f_B 15, v8 kv8.f_Proto, v16 kv8.f_SrcPort, v16 kv8.f_DstPort]) ag36 rfl (Cs.addsN [] ((hM.bx (i := 0) rfl)) rfl)) rfl ?_
  refine obindE hF fun y25 hx26 hF => ?_
  refine RL.call Try.func14 bd14 rfl rfl (c_packet_Key_Right _ kv8 _ hx26) fun v w27 hv => ?_
  obtain ⟨rfl, hN28⟩ := hv
  replace hM := hM.call0 hN28
  refine RL.val (O.not rfl) rfl ?_
  refine va rfl rfl ?_
  refine nt hQ24 ?_
  clear hQ24 Q24
  refine KC.cond rfl (fun hc => ?_) (fun hc => ?_)
  ·rw [if_pos hc] at hF
   refine sr fun Q29 hQ29 => ?_
   refine va rfl rfl ?_
   refine nt hQ29 ?_
   clear hQ29 Q29
   refine KC.ret ?_
   refine KQ.blk_r ?_
   refine KQ.then_r ?_
   have hE := Option.some.inj hF
   clear hF
   subst hE
   replace hM := hM.pick [1, 2] rfl (by decide)
   refine KQ.rets Try.results53 (RVs.cons (RV.tm rfl) RVs.nil) ?_
   exact ⟨_, rfl, A20, c21, rfl, hM⟩
  rw [if_neg (ne_true hc)] at hF
  refine sr fun Q30 hQ30 => ?_
  refine vm rfl rfl ?_
  refine RL.val (O.lss rfl rfl) rfl ?_
  refine va rfl rfl ?_
  refine nt hQ30 ?_
  clear hQ30 Q30
  refine KC.cond rfl (fun hc => ?_) (fun hc => ?_)
  ·rw [if_pos hc] at hF
   refine sr fun Q31 hQ31 => ?_
   refine va rfl rfl ?_
   refine nt hQ31 ?_
   clear hQ31 Q31
   refine KC.ret ?_
   refine KQ.blk_r ?_
   refine KQ.then_r ?_
   have hE := Option.some.inj hF
   clear hF
   subst hE
   replace hM := hM.pick [1, 2] rfl (by decide)
   refine KQ.rets Try.results53 (RVs.cons (RV.tm rfl) RVs.nil) ?_
   exact ⟨_, rfl, A20, c21, rfl, hM⟩
  rw [if_neg (ne_true hc)] at hF
  refine sr fun Q32 hQ32 => ?_
  refine vm rfl rfl ?_
  refine RL.val (O.nilp rfl) rfl ?_
  refine RL.val (O.fldA fl96_0 (by decide) rfl) rfl ?_
  refine RL.val (O.load sc94 rfl (Cs.adds [0] ((hM.bx (i := 1) rfl)) rfl)) rfl ?_
  refine vm rfl rfl ?_
  refine obindE hF fun xv35 hx34 hF => ?_
  have hA33 := Rd.atN (f := e_table_Slot) (s := 39) (fun _ => rfl) (by decide) (hM.rd (i := 2) rfl) hx34
  refine RL.val (O.idxA sl94 (hA33) rfl rfl) rfl ?_
  refine RL.val (O.fldA fl102_0 (by decide) rfl) rfl ?_
  refine RL.val (O.load sc4 rfl (Cs.adds [0] (hA33).cells rfl)) rfl ?_
  refine RL.val (O.not rfl) rfl ?_
  refine va rfl rfl ?_
  refine nt hQ32 ?_
  clear hQ32 Q32
  refine KC.cond rfl (fun hc => ?_) (fun hc => ?_)
  ·rw [if_pos hc] at hF
   refine KC.region ?_
   refine vm rfl rfl ?_
   refine RL.val (O.nilp rfl) rfl ?_
   refine RL.val (O.fldA fl96_1 (by decide) rfl) rfl ?_
   refine RL.val (O.load sc3 rfl (Cs.adds [1] ((hM.bx (i := 1) rfl)) rfl)) rfl ?_
   refine RL.val (O.add rfl rfl) rfl ?_
   refine RL.val (O.nilp rfl) rfl ?_
   refine RL.val (O.fldA fl96_1 (by decide) rfl) rfl ?_
   refine RL.effs (E.stB (j := 1) (off := 1) (vs := [vI (IntKind.i64.wrap (y16.2.2.f_many + 1))]) (cs' := [.slice A20 (y16.2.2.f_slots).length c21, vI (IntKind.i64.wrap (y16.2.2.f_many + 1))]) hM rfl sz3 rfl (adds_eq [1] rfl) rfl rfl (One.all rfl) rfl rfl) fun w36 hM1 => ?_
   clear hM
   have hM := hM1
   clear hM1
   refine RL.nil ?_
   refine KQ.blk_n ?_
   refine KQ.then_k ?_
   replace hM := hM.pick [2, 1, 0] rfl (by decide)
   exact fun a ha => ⟨(IntKind.i64.wrap (y16.2.2.f_many + 1)), ha.less (less_cons rfl (less_cons rfl (less_cons rfl (less_cons rfl less_nil)))), hM, hF⟩
  rw [if_neg (ne_true hc)] at hF
  refine KC.skip ?_
  refine KQ.blk_n ?_
  refine KQ.then_k ?_
  replace hM := hM.pick [2, 1, 0] rfl (by decide)
  exact fun a ha => ⟨y16.2.2.f_many, ha.less (less_cons rfl (less_cons rfl (less_cons rfl (less_cons rfl less_nil)))), hM, hF⟩
 rintro a w41 ⟨p39, ha, hM, hF⟩
 refine KC.app ha ?_
 clear ha
 unfold F_table_Table_Put_j1 at hF
 refine KC.seqH fun Q42 hQ42 => ?_
 replace hM := hM.drewN 1
 refine KC.draw [] [9] [9] [0, 1, 2, 4, 6] (.ofList [0, 1, 2, 3, 4, 5, 6, 7, 8, 9]) moP (by kernel_rfl) ?_
 refine RD.p rfl rfl rfl rfl (fun w' => O.move rfl) ?_
 refine RD.p rfl rfl rfl rfl (fun w' => O.nilp rfl) ?_
 refine RD.p rfl rfl rfl rfl (fun w' => O.fldA fl96_0 (by decide) rfl) ?_
 refine RD.q rfl rfl rfl rfl (fun w' hf => O.load sc94 rfl (Cs.adds [0] ((hM.bx (i := 1) rfl).fut hf) rfl)) ?_
 refine RD.p rfl rfl rfl rfl (fun w' => O.move rfl) ?_
 refine RD.q rfl rfl rfl rfl (fun w' hf => O.loadN (cs := [vB kv8.f_Src.f_Six, o8 kv8.f_Src.f_B 0, o8 kv8.f_Src.f_B 1, o8 kv8.f_Src.f_B 2, o8 kv8.f_Src.f_B 3, o8 kv8.f_Src.f_B 4, o8 kv8.f_Src.f_B 5, o8 kv8.f_Src.f_B 6, o8 kv8.f_Src.f_B 7, o8 kv8.f_Src.f_B 8, o8 kv8.f_Src.f_B 9, o8 kv8.f_Src.f_B 10, o8 kv8.f_Src.f_B 11, o8 kv8.f_Src.f_B 12, o8 kv8.f_Src.f_B 13, o8 kv8.f_Src.f_B 14, o8 kv8.f_Src.f_B 15, vB kv8.f_Dst.f_Six, o8 kv8.f_Dst.f_B 0, o8 kv8.f_Dst.f_B 1, o8 kv8.f_Dst.f_B 2, o8 kv8.f_Dst.f_B 3, o8 kv8.f_Dst.f_B 4, o8 kv8.f_Dst.f_B 5, o8 kv8.f_Dst.f_B 6, o8 kv8.f_Dst.f_B 7, o8 kv8.f_Dst.f_B 8, o8 kv8.f_Dst.f_B 9, o8 kv8.f_Dst.f_B 10, o8 kv8.f_Dst.f_B 11, o8 kv8.f_Dst.f_B 12, o8 kv8.f_Dst.f_B 13, o8 kv8.f_Dst.f_B 14, o8 kv8.f_Dst.f_B 15, v8 kv8.f_Proto, v16 kv8.f_SrcPort, v16 kv8.f_DstPort]) ag36 rfl (Cs.addsN [] ((hM.bx (i := 2) rfl).fut hf) rfl)) ?_
 refine RD.p rfl rfl rfl rfl (fun w' => O.move rfl) ?_
 refine RD.q rfl rfl rfl rfl (fun w' hf => O.bld (cs := [vB true, vB kv8.f_Src.f_Six, o8 kv8.f_Src.f_B 0, o8 kv8.f_Src.f_B 1, o8 kv8.f_Src.f_B 2, o8 kv8.f_Src.f_B 3, o8 kv8.f_Src.f_B 4, o8 kv8.f_Src.f_B 5, o8 kv8.f_Src.f_B 6, o8 kv8.f_Src.f_B 7, o8 kv8.f_Src.f_B 8, o8 kv8.f_Src.f_B 9, o8 kv8.f_Src.f_B 10, o8 kv8.f_Src.f_B 11, o8 kv8.f_Src.f_B 12, o8 kv8.f_Src.f_B 13, o8 kv8.f_Src.f_B 14, o8 kv8.f_Src.f_B 15, vB kv8.f_Dst.f_Six, o8 kv8.f_Dst.f_B 0, o8 kv8.f_Dst.f_B 1, o8 kv8.f_Dst.f_B 2, o8 kv8.f_Dst.f_B 3, o8 kv8.f_Dst.f_B 4, o8 kv8.f_Dst.f_B 5, o8 kv8.f_Dst.f_B 6, o8 kv8.f_Dst.f_B 7, o8 kv8.f_Dst.f_B 8, o8 kv8.f_Dst.f_B 9, o8 kv8.f_Dst.f_B 10, o8 kv8.f_Dst.f_B 11, o8 kv8.f_Dst.f_B 12, o8 kv8.f_Dst.f_B 13, o8 kv8.f_Dst.f_B 14, o8 kv8.f_Dst.f_B 15, v8 kv8.f_Proto, v16 kv8.f_SrcPort, v16 kv8.f_DstPort, v64 nv9]) bt102 rfl (by kernel_rfl)) ?_
 refine obindE hF fun xv45 hx44 hF => ?_
 have hA43 := Rd.atN (f := e_table_Slot) (s := 39) (fun _ => rfl) (by decide) (hM.rd (i := 0) rfl) hx44
 refine RD.q rfl rfl rfl rfl (fun w' hf => O.idxA sl94 (hA43.fut hf) rfl rfl) ?_
 refine RD.meffs rfl rfl rfl (E.stR (enc := e_table_Slot) (j := 0) (off := 0) (vs := [vB true, vB kv8.f_Src.f_Six, o8 kv8.f_Src.f_B 0, o8 kv8.f_Src.f_B 1, o8 kv8.f_Src.f_B 2, o8 kv8.f_Src.f_B 3, o8 kv8.f_Src.f_B 4, o8 kv8.f_Src.f_B 5, o8 kv8.f_Src.f_B 6, o8 kv8.f_Src.f_B 7, o8 kv8.f_Src.f_B 8, o8 kv8.f_Src.f_B 9, o8 kv8.f_Src.f_B 10, o8 kv8.f_Src.f_B 11, o8 kv8.f_Src.f_B 12, o8 kv8.f_Src.f_B 13, o8 kv8.f_Src.f_B 14, o8 kv8.f_Src.f_B 15, vB kv8.f_Dst.f_Six, o8 kv8.f_Dst.f_B 0, o8 kv8.f_Dst.f_B 1, o8 kv8.f_Dst.f_B 2, o8 kv8.f_Dst.f_B 3, o8 kv8.f_Dst.f_B 4, o8 kv8.f_Dst.f_B 5, o8 kv8.f_Dst.f_B 6, o8 kv8.f_Dst.f_B 7, o8 kv8.f_Dst.f_B 8, o8 kv8.f_Dst.f_B 9, o8 kv8.f_Dst.f_B 10, o8 kv8.f_Dst.f_B 11, o8 kv8.f_Dst.f_B 12, o8 kv8.f_Dst.f_B 13, o8 kv8.f_Dst.f_B 14, o8 kv8.f_Dst.f_B 15, v8 kv8.f_Proto, v16 kv8.f_SrcPort, v16 kv8.f_DstPort, v64 nv9]) (x' := (T_table_Slot.mk true kv8 nv9)) hM rfl (fun _ => rfl) hx44 sz102 rfl (addsR_eq [] rfl) rfl rfl (One.all rfl) rfl rfl) fun w46 hM1 => ?_
 clear hM
 obtain ⟨hM, hn47⟩ := hM1
 refine RD.reslot (t := 45) rfl hn47 ?_
 replace hM := hM.rebox (i := 1) (cs' := [.slice A20 ((y16.2.2.f_slots.set (y16.1 : Int).toNat (T_table_Slot.mk true kv8 nv9))).length c21, vI p39]) rfl (by rw [← hn47])
 refine RD.nil ?_
 refine KQ.thn hQ42 ?_
 clear hQ42 Q42
 refine sr fun Q48 hQ48 => ?_
 refine va rfl rfl ?_
 refine nt hQ48 ?_
 clear hQ48 Q48
 refine KC.ret ?_
 have hE := Option.some.inj hF
 clear hF
 subst hE
 replace hM := hM.pick [1, 0] rfl (by decide)
 refine KQ.rets Try.results53 (RVs.cons (RV.tm rfl) RVs.nil) ?_
 exact ⟨_, rfl, A20, c21, rfl, hM⟩
end Go.Proofs.Ytkpnocgfhipidaa
