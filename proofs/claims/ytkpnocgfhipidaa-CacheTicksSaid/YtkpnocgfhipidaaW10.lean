/- Printed by a program of this claim: each call returns what the plain function of its name gives. -/
import Derived.Test.YtkpnocgfhipidaaW1
import Derived.Test.YtkpnocgfhipidaaW8
import Derived.Test.YtkpnocgfhipidaaW9
set_option linter.unusedVariables false
namespace Go.Proofs.Ytkpnocgfhipidaa
open Go Go.Ox Go.RowKit
set_option maxRecDepth 100000 in
set_option maxHeartbeats 40000000 in
theorem c_table_Table_Delete (w : World) (g2 : Nat) (tg7 : TypeId) (t1 : T_table_Table) (A4 : Option Addr) (c5 : Nat) (hL9 : Lent w [.box g2 tg7 [.slice A4 (t1.f_slots).length c5, vI t1.f_many], .row A4 c5 102 39 (t1.f_slots).length ((t1.f_slots).flatMap e_table_Slot)]) (kv8 : T_packet_Key) (r : Bool × T_table_Table) (hF : F_table_Table_Delete t1 kv8 = some r) :
  CallsR Try.prog 56 [.pointer (some ⟨g2, 0, none⟩), .agg #[vB kv8.f_Src.f_Six, o8 kv8.f_Src.f_B 0, o8 kv8.f_Src.f_B 1, o8 kv8.f_Src.f_B 2, o8 kv8.f_Src.f_B 3, o8 kv8.f_Src.f_B 4, o8 kv8.f_Src.f_B 5, o8 kv8.f_Src.f_B 6, o8 kv8.f_Src.f_B 7, o8 kv8.f_Src.f_B 8, o8 kv8.f_Src.f_B 9, o8 kv8.f_Src.f_B 10, o8 kv8.f_Src.f_B 11, o8 kv8.f_Src.f_B 12, o8 kv8.f_Src.f_B 13, o8 kv8.f_Src.f_B 14, o8 kv8.f_Src.f_B 15, vB kv8.f_Dst.f_Six, o8 kv8.f_Dst.f_B 0, o8 kv8.f_Dst.f_B 1, o8 kv8.f_Dst.f_B 2, o8 kv8.f_Dst.f_B 3, o8 kv8.f_Dst.f_B 4, o8 kv8.f_Dst.f_B 5, o8 kv8.f_Dst.f_B 6, o8 kv8.f_Dst.f_B 7, o8 kv8.f_Dst.f_B 8, o8 kv8.f_Dst.f_B 9, o8 kv8.f_Dst.f_B 10, o8 kv8.f_Dst.f_B 11, o8 kv8.f_Dst.f_B 12, o8 kv8.f_Dst.f_B 13, o8 kv8.f_Dst.f_B 14, o8 kv8.f_Dst.f_B 15, v8 kv8.f_Proto, v16 kv8.f_SrcPort, v16 kv8.f_DstPort]] w (fun v w' => ∃ (A0 : Option Addr) (c0 : Nat), v = vB r.1 ∧ Mem w [some g2, rblk A4 c5] w' [.box g2 tg7 [.slice A0 (r.2.f_slots).length c0, vI r.2.f_many], .row A0 c0 102 39 r.2.f_slots.length (r.2.f_slots.flatMap e_table_Slot)]) := by
 refine calls_KC Try.func56 rfl Try.ntmps56 rfl ?_
 have hM : Mem w [some g2, rblk A4 c5] w [.box g2 tg7 [.slice A4 (t1.f_slots).length c5, vI t1.f_many], .row A4 c5 102 39 (t1.f_slots).length ((t1.f_slots).flatMap e_table_Slot)] := Mem.lendN hL9
 unfold F_table_Table_Delete at hF
 refine sr fun Q10 hQ10 => ?_
 refine RL.eff (E.box (vs := [vB kv8.f_Src.f_Six, o8 kv8.f_Src.f_B 0, o8 kv8.f_Src.f_B 1, o8 kv8.f_Src.f_B 2, o8 kv8.f_Src.f_B 3, o8 kv8.f_Src.f_B 4, o8 kv8.f_Src.f_B 5, o8 kv8.f_Src.f_B 6, o8 kv8.f_Src.f_B 7, o8 kv8.f_Src.f_B 8, o8 kv8.f_Src.f_B 9, o8 kv8.f_Src.f_B 10, o8 kv8.f_Src.f_B 11, o8 kv8.f_Src.f_B 12, o8 kv8.f_Src.f_B 13, o8 kv8.f_Src.f_B 14, o8 kv8.f_Src.f_B 15, vB kv8.f_Dst.f_Six, o8 kv8.f_Dst.f_B 0, o8 kv8.f_Dst.f_B 1, o8 kv8.f_Dst.f_B 2, o8 kv8.f_Dst.f_B 3, o8 kv8.f_Dst.f_B 4, o8 kv8.f_Dst.f_B 5, o8 kv8.f_Dst.f_B 6, o8 kv8.f_Dst.f_B 7, o8 kv8.f_Dst.f_B 8, o8 kv8.f_Dst.f_B 9, o8 kv8.f_Dst.f_B 10, o8 kv8.f_Dst.f_B 11, o8 kv8.f_Dst.f_B 12, o8 kv8.f_Dst.f_B 13, o8 kv8.f_Dst.f_B 14, o8 kv8.f_Dst.f_B 15, v8 kv8.f_Proto, v16 kv8.f_SrcPort, v16 kv8.f_DstPort]) hM rfl rfl) rfl fun v w12 hv => ?_
 clear hM
 obtain ⟨g11, rfl, hM, hf⟩ := hv
 refine va rfl rfl ?_
 refine nt hQ10 ?_
 clear hQ10 Q10
 refine sr fun Q14 hQ14 => ?_
 refine vm rfl rfl ?_
 refine RL.val (O.loadN (cs := [vB kv8.f_Src.f_Six, o8 kv8.f_Src.f_B 0, o8 kv8.f_Src.f_B 1, o8 kv8.f_Src.f_B 2, o8 kv8.f_Src.f_B 3, o8 kv8.f_Src.f_B 4, o8 kv8.f_Src.f_B 5, o8 kv8.f_Src.f_B 6, o8 kv8.f_Src.f_B 7, o8 kv8.f_Src.f_B 8, o8 kv8.f_Src.f_B 9, o8 kv8.f_Src.f_B 10, o8 kv8.f_Src.f_B 11, o8 kv8.f_Src.f_B 12, o8 kv8.f_Src.f_B 13, o8 kv8.f_Src.f_B 14, o8 kv8.f_Src.f_B 15, vB kv8.f_Dst.f_Six, o8 kv8.f_Dst.f_B 0, o8 kv8.f_Dst.f_B 1, o8 kv8.f_Dst.f_B 2, o8 kv8.f_Dst.f_B 3, o8 kv8.f_Dst.f_B 4, o8 kv8.f_Dst.f_B 5, o8 kv8.f_Dst.f_B 6, o8 kv8.f_Dst.f_B 7, o8 kv8.f_Dst.f_B 8, o8 kv8.f_Dst.f_B 9, o8 kv8.f_Dst.f_B 10, o8 kv8.f_Dst.f_B 11, o8 kv8.f_Dst.f_B 12, o8 kv8.f_Dst.f_B 13, o8 kv8.f_Dst.f_B 14, o8 kv8.f_Dst.f_B 15, v8 kv8.f_Proto, v16 kv8.f_SrcPort, v16 kv8.f_DstPort]) ag36 rfl (Cs.addsN [] ((hM.bx (i := 2) rfl)) rfl)) rfl ?_
 refine obindE hF fun y15 hx16 hF => ?_
 refine RL.call Try.func50 bd50 rfl rfl (c_table_Table_has _ _ _ t1 _ _ (hM.lent [0, 1] rfl (by decide)) kv8 _ hx16) fun v w17 hv => ?_
 obtain ⟨A19, c20, rfl, hN18⟩ := hv
 replace hM := hM.callL [0, 1] [2] rfl rfl (by decide) rfl hN18
 refine va rfl rfl ?_
 refine nt hQ14 ?_
 clear hQ14 Q14
 refine KC.seqH fun Q22 hQ22 => ?_
 refine sr fun Q23 hQ23 => ?_
 refine vm rfl rfl ?_
 refine RL.val (O.lss rfl rfl) rfl ?_
 refine nt hQ23 ?_
 clear hQ23 Q23
 refine KC.cond rfl (fun hc => ?_) (fun hc => ?_)
 ·rw [if_pos hc] at hF
  refine sr fun Q24 hQ24 => ?_
  refine va rfl rfl ?_
  refine nt hQ24 ?_
  clear hQ24 Q24
  refine KC.ret ?_
  refine KQ.thr hQ22 ?_
  clear hQ22 Q22
  have hE := Option.some.inj hF
  clear hF
  subst hE
  replace hM := hM.pick [1, 2] rfl (by decide)
  refine KQ.rets Try.results56 (RVs.cons (RV.tm rfl) RVs.nil) ?_
  exact ⟨_, rfl, A19, c20, rfl, hM⟩
 rw [if_neg (ne_true hc)] at hF
 refine KC.skip ?_
 refine KQ.thn hQ22 ?_
 clear hQ22 Q22
 refine sr fun Q25 hQ25 => ?_
 refine vm rfl rfl ?_
 refine RL.val (O.nilp rfl) rfl ?_
 refine RL.val (O.fldA fl96_0 (by decide) rfl) rfl ?_
 refine RL.val (O.load sc94 rfl (Cs.adds [0] ((hM.bx (i := 1) rfl)) rfl)) rfl ?_
 refine RL.val (O.len sl94 rfl) rfl ?_
 refine va rfl rfl ?_
 refine nt hQ25 ?_
 clear hQ25 Q25
 refine KC.seqH fun Q26 hQ26 => ?_
 replace hM := hM.drewN 1
 refine KC.draw [] [13, 16] [13, 16] [0, 1, 2, 4, 5, 7, 8, 9, 11, 14, 15] (.ofList [0, 1, 2, 3, 4, 5, 6, 7, 8, 9, 10, 11, 12, 13, 14, 15, 16]) moP (by kernel_rfl) ?_
 refine RD.p rfl rfl rfl rfl (fun w' => O.move rfl) ?_
 refine RD.p rfl rfl rfl rfl (fun w' => O.nilp rfl) ?_
 refine RD.p rfl rfl rfl rfl (fun w' => O.fldA fl96_0 (by decide) rfl) ?_
 refine RD.q rfl rfl rfl rfl (fun w' hf => O.load sc94 rfl (Cs.adds [0] ((hM.bx (i := 1) rfl).fut hf) rfl)) ?_
 refine RD.p rfl rfl rfl rfl (fun w' => O.move rfl) ?_
 refine RD.p rfl rfl rfl rfl (fun w' => O.move rfl) ?_
 refine RD.q rfl rfl rfl rfl (fun w' hf => O.bld (cs := [vB false, vB false, o8 (List.replicate 16 0) 0, o8 (List.replicate 16 0) 1, o8 (List.replicate 16 0) 2, o8 (List.replicate 16 0) 3, o8 (List.replicate 16 0) 4, o8 (List.replicate 16 0) 5, o8 (List.replicate 16 0) 6, o8 (List.replicate 16 0) 7, o8 (List.replicate 16 0) 8, o8 (List.replicate 16 0) 9, o8 (List.replicate 16 0) 10, o8 (List.replicate 16 0) 11, o8 (List.replicate 16 0) 12, o8 (List.replicate 16 0) 13, o8 (List.replicate 16 0) 14, o8 (List.replicate 16 0) 15, vB false, o8 (List.replicate 16 0) 0, o8 (List.replicate 16 0) 1, o8 (List.replicate 16 0) 2, o8 (List.replicate 16 0) 3, o8 (List.replicate 16 0) 4, o8 (List.replicate 16 0) 5, o8 (List.replicate 16 0) 6, o8 (List.replicate 16 0) 7, o8 (List.replicate 16 0) 8, o8 (List.replicate 16 0) 9, o8 (List.replicate 16 0) 10, o8 (List.replicate 16 0) 11, o8 (List.replicate 16 0) 12, o8 (List.replicate 16 0) 13, o8 (List.replicate 16 0) 14, o8 (List.replicate 16 0) 15, v8 0, v16 0, v16 0, v64 0]) bt102 rfl (by kernel_rfl)) ?_
 refine RD.p rfl rfl rfl rfl (fun w' => O.move rfl) ?_
 refine RD.p rfl rfl rfl rfl (fun w' => O.nilp rfl) ?_
 refine RD.p rfl rfl rfl rfl (fun w' => O.fldA fl96_1 (by decide) rfl) ?_
 refine RD.q rfl rfl rfl rfl (fun w' hf => O.load sc3 rfl (Cs.adds [1] ((hM.bx (i := 1) rfl).fut hf) rfl)) ?_
 refine RD.p rfl rfl rfl rfl (fun w' => O.sub rfl rfl) ?_
 refine obindE hF fun xv29 hx28 hF => ?_
 have hA27 := Rd.atN (f := e_table_Slot) (s := 39) (fun _ => rfl) (by decide) (hM.rd (i := 2) rfl) hx28
 refine RD.q rfl rfl rfl rfl (fun w' hf => O.idxA sl94 (hA27.fut hf) rfl rfl) ?_
 refine RD.meffs rfl rfl rfl (E.stR (enc := e_table_Slot) (j := 2) (off := 0) (vs := [vB false, vB false, o8 (List.replicate 16 0) 0, o8 (List.replicate 16 0) 1, o8 (List.replicate 16 0) 2, o8 (List.replicate 16 0) 3, o8 (List.replicate 16 0) 4, o8 (List.replicate 16 0) 5, o8 (List.replicate 16 0) 6, o8 (List.replicate 16 0) 7, o8 (List.replicate 16 0) 8, o8 (List.replicate 16 0) 9, o8 (List.replicate 16 0) 10, o8 (List.replicate 16 0) 11, o8 (List.replicate 16 0) 12, o8 (List.replicate 16 0) 13, o8 (List.replicate 16 0) 14, o8 (List.replicate 16 0) 15, vB false, o8 (List.replicate 16 0) 0, o8 (List.replicate 16 0) 1, o8 (List.replicate 16 0) 2, o8 (List.replicate 16 0) 3, o8 (List.replicate 16 0) 4, o8 (List.replicate 16 0) 5, o8 (List.replicate 16 0) 6, o8 (List.replicate 16 0) 7, o8 (List.replicate 16 0) 8, o8 (List.replicate 16 0) 9, o8 (List.replicate 16 0) 10, o8 (List.replicate 16 0) 11, o8 (List.replicate 16 0) 12, o8 (List.replicate 16 0) 13, o8 (List.replicate 16 0) 14, o8 (List.replicate 16 0) 15, v8 0, v16 0, v16 0, v64 0]) (x' := (T_table_Slot.mk false (T_packet_Key.mk (T_addr_Addr.mk false (List.replicate 16 0)) (T_addr_Addr.mk false (List.replicate 16 0)) 0 0 0) 0)) hM rfl (fun _ => rfl) hx28 sz102 rfl (addsR_eq [] rfl) rfl rfl (One.all rfl) rfl rfl) fun w30 hM1 => ?_
 clear hM
 obtain ⟨hM, hn31⟩ := hM1
 refine RD.reslot (t := 25) rfl hn31 ?_
 replace hM := hM.rebox (i := 1) (cs' := [.slice A19 ((y15.2.f_slots.set (y15.1 : Int).toNat (T_table_Slot.mk false (T_packet_Key.mk (T_addr_Addr.mk false (List.replicate 16 0)) (T_addr_Addr.mk false (List.replicate 16 0)) 0 0 0) 0))).length c20, vI y15.2.f_many]) rfl (by rw [← hn31])
 refine RD.p rfl rfl rfl rfl (fun w' => O.nilp rfl) ?_
 refine RD.p rfl rfl rfl rfl (fun w' => O.fldA fl96_1 (by decide) rfl) ?_
 refine RD.meffs rfl rfl rfl (E.stB (j := 1) (off := 1) (vs := [vI (IntKind.i64.wrap (y15.2.f_many - 1))]) (cs' := [.slice A19 ((y15.2.f_slots.set (y15.1 : Int).toNat (T_table_Slot.mk false (T_packet_Key.mk (T_addr_Addr.mk false (List.replicate 16 0)) (T_addr_Addr.mk false (List.replicate 16 0)) 0 0 0) 0))).length c20, vI (IntKind.i64.wrap (y15.2.f_many - 1))]) hM rfl sz3 rfl (adds_eq [1] rfl) rfl rfl (One.all rfl) rfl rfl) fun w32 hM1 => ?_
 clear hM
 have hM := hM1
 clear hM1
 refine RD.nil ?_
 refine KQ.thn hQ26 ?_
 clear hQ26 Q26
 refine KC.cut (fun a w162 => ∃ (A158 : Option Addr) (c159 : Nat) (p160 : List T_table_Slot) (p161 : Int), Kn 80 [] a ∧ Mem w [some g2, rblk A4 c5] w162 [.row A158 c159 102 39 (p160).length ((p160).flatMap e_table_Slot), .box g2 tg7 [.slice A158 (p160).length c159, vI p161]] ∧ F_table_Table_Delete_j1 p160 p161 = some r) ?_ ?_
 ·refine sr fun Q33 hQ33 => ?_
  refine vm rfl rfl ?_
  refine RL.val (O.sub rfl rfl) rfl ?_
  refine vm rfl rfl ?_
  refine nt hQ33 ?_
  clear hQ33 Q33
  refine KC.block ?_
  refine KC.loop (fun k120 a w118 => ∃ (A113 : Option Addr) (c114 : Nat) (p115 : List T_table_Slot) (p116 : Int) (t117 : Int), Kn 80 [(0, .pointer (some ⟨g2, 0, none⟩)), (5, vI y15.1), (6, vI (y15.2.f_slots.length : Int)), (38, vI (IntKind.i64.wrap ((y15.2.f_slots.length : Int) - 1))), (39, vI t117)] a ∧ Mem w [some g2, rblk A4 c5] w118 [.row A113 c114 102 39 (p115).length ((p115).flatMap e_table_Slot), .box g2 tg7 [.slice A113 (p115).length c114, vI p116]] ∧ F_table_Table_Delete_L1 y15 k120 p115 p116 t117 = some r) ?_ ?_
  ·replace hM := hM.pick [2, 1] rfl (by decide)
   exact fun a ha => ⟨fuel0, A19, c20, (y15.2.f_slots.set (y15.1 : Int).toNat (T_table_Slot.mk false (T_packet_Key.mk (T_addr_Addr.mk false (List.replicate 16 0)) (T_addr_Addr.mk false (List.replicate 16 0)) 0 0 0) 0)), (IntKind.i64.wrap (y15.2.f_many - 1)), 0, ha.less (less_cons rfl (less_cons rfl (less_cons rfl (less_cons rfl (less_cons rfl less_nil))))), hM, hF⟩
  rintro k120 a w118 ⟨A113, c114, p115, p116, t117, ha, hM, hF⟩
  refine KC.app ha ?_
  clear ha
  cases k120 with
  | zero => exact (none_some hF).elim
  | succ k120 =>
  have hF : F_table_Table_Delete_l1 (F_table_Table_Delete_L1 y15 k120) y15 p115 p116 t117 = some r := hF
  unfold F_table_Table_Delete_l1 at hF
  refine sr fun Q121 hQ121 => ?_
  refine RL.val (O.lss rfl rfl) rfl ?_
  refine nt hQ121 ?_
  clear hQ121 Q121
  refine KC.seqH fun Q122 hQ122 => ?_
  refine KC.cond rfl (fun hc => ?_) (fun hc => ?_)
  ·rw [if_pos hc] at hF
   refine KC.skip ?_
   refine KQ.thn hQ122 ?_
   clear hQ122 Q122
   refine KC.seqH fun Q123 hQ123 => ?_
   refine KC.block ?_
   refine sr fun Q124 hQ124 => ?_
   refine vm rfl rfl ?_
   refine va rfl rfl ?_
   refine nt hQ124 ?_
   clear hQ124 Q124
   refine sr fun Q125 hQ125 => ?_
   refine vm rfl rfl ?_
   refine RL.val (O.add rfl rfl) rfl ?_
   refine vm rfl rfl ?_
   refine RL.val (O.add rfl rfl) rfl ?_
   refine vm rfl rfl ?_
   refine cut_someE hF fun hq126 hF => ?_
   refine RL.val (O.rem rfl rfl (of_decide_eq_true hq126)) rfl ?_
   refine va rfl rfl ?_
   refine nt hQ125 ?_
   clear hQ125 Q125
   refine sr fun Q127 hQ127 => ?_
   refine vm rfl rfl ?_
   refine RL.val (O.nilp rfl) rfl ?_
   refine RL.val (O.fldA fl96_0 (by decide) rfl) rfl ?_
   refine RL.val (O.load sc94 rfl (Cs.adds [0] ((hM.bx (i := 1) rfl)) rfl)) rfl ?_
   refine vm rfl rfl ?_
   refine obindE hF fun xv130 hx129 hF => ?_
   have hA128 := Rd.atN (f := e_table_Slot) (s := 39) (fun _ => rfl) (by decide) (hM.rd (i := 0) rfl) hx129
   refine RL.val (O.idxA sl94 (hA128) rfl rfl) rfl ?_
   refine RL.val (O.loadN (cs := [vB xv130.f_Used, vB xv130.f_Key.f_Src.f_Six, o8 xv130.f_Key.f_Src.f_B 0, o8 xv130.f_Key.f_Src.f_B 1, o8 xv130.f_Key.f_Src.f_B 2, o8 xv130.f_Key.f_Src.f_B 3, o8 xv130.f_Key.f_Src.f_B 4, o8 xv130.f_Key.f_Src.f_B 5, o8 xv130.f_Key.f_Src.f_B 6, o8 xv130.f_Key.f_Src.f_B 7, o8 xv130.f_Key.f_Src.f_B 8, o8 xv130.f_Key.f_Src.f_B 9, o8 xv130.f_Key.f_Src.f_B 10, o8 xv130.f_Key.f_Src.f_B 11, o8 xv130.f_Key.f_Src.f_B 12, o8 xv130.f_Key.f_Src.f_B 13, o8 xv130.f_Key.f_Src.f_B 14, o8 xv130.f_Key.f_Src.f_B 15, vB xv130.f_Key.f_Dst.f_Six, o8 xv130.f_Key.f_Dst.f_B 0, o8 xv130.f_Key.f_Dst.f_B 1, o8 xv130.f_Key.f_Dst.f_B 2, o8 xv130.f_Key.f_Dst.f_B 3, o8 xv130.f_Key.f_Dst.f_B 4, o8 xv130.f_Key.f_Dst.f_B 5, o8 xv130.f_Key.f_Dst.f_B 6, o8 xv130.f_Key.f_Dst.f_B 7, o8 xv130.f_Key.f_Dst.f_B 8, o8 xv130.f_Key.f_Dst.f_B 9, o8 xv130.f_Key.f_Dst.f_B 10, o8 xv130.f_Key.f_Dst.f_B 11, o8 xv130.f_Key.f_Dst.f_B 12, o8 xv130.f_Key.f_Dst.f_B 13, o8 xv130.f_Key.f_Dst.f_B 14, o8 xv130.f_Key.f_Dst.f_B 15, v8 xv130.f_Key.f_Proto, v16 xv130.f_Key.f_SrcPort, v16 xv130.f_Key.f_DstPort, v64 xv130.f_N]) ag102 rfl (hA128).cells) rfl ?_
   refine RL.eff (E.alloc hM ze102) rfl fun v w132 hv => ?_
   clear hM
   obtain ⟨g131, rfl, hM, hf⟩ := hv
   refine RL.effs (E.stB (j := 2) (off := 0) (vs := [vB xv130.f_Used, vB xv130.f_Key.f_Src.f_Six, o8 xv130.f_Key.f_Src.f_B 0, o8 xv130.f_Key.f_Src.f_B 1, o8 xv130.f_Key.f_Src.f_B 2, o8 xv130.f_Key.f_Src.f_B 3, o8 xv130.f_Key.f_Src.f_B 4, o8 xv130.f_Key.f_Src.f_B 5, o8 xv130.f_Key.f_Src.f_B 6, o8 xv130.f_Key.f_Src.f_B 7, o8 xv130.f_Key.f_Src.f_B 8, o8 xv130.f_Key.f_Src.f_B 9, o8 xv130.f_Key.f_Src.f_B 10, o8 xv130.f_Key.f_Src.f_B 11, o8 xv130.f_Key.f_Src.f_B 12, o8 xv130.f_Key.f_Src.f_B 13, o8 xv130.f_Key.f_Src.f_B 14, o8 xv130.f_Key.f_Src.f_B 15, vB xv130.f_Key.f_Dst.f_Six, o8 xv130.f_Key.f_Dst.f_B 0, o8 xv130.f_Key.f_Dst.f_B 1, o8 xv130.f_Key.f_Dst.f_B 2, o8 xv130.f_Key.f_Dst.f_B 3, o8 xv130.f_Key.f_Dst.f_B 4, o8 xv130.f_Key.f_Dst.f_B 5, o8 xv130.f_Key.f_Dst.f_B 6, o8 xv130.f_Key.f_Dst.f_B 7, o8 xv130.f_Key.f_Dst.f_B 8, o8 xv130.f_Key.f_Dst.f_B 9, o8 xv130.f_Key.f_Dst.f_B 10, o8 xv130.f_Key.f_Dst.f_B 11, o8 xv130.f_Key.f_Dst.f_B 12, o8 xv130.f_Key.f_Dst.f_B 13, o8 xv130.f_Key.f_Dst.f_B 14, o8 xv130.f_Key.f_Dst.f_B 15, v8 xv130.f_Key.f_Proto, v16 xv130.f_Key.f_SrcPort, v16 xv130.f_Key.f_DstPort, v64 xv130.f_N]) (cs' := [vB xv130.f_Used, vB xv130.f_Key.f_Src.f_Six, o8 xv130.f_Key.f_Src.f_B 0, o8 xv130.f_Key.f_Src.f_B 1, o8 xv130.f_Key.f_Src.f_B 2, o8 xv130.f_Key.f_Src.f_B 3, o8 xv130.f_Key.f_Src.f_B 4, o8 xv130.f_Key.f_Src.f_B 5, o8 xv130.f_Key.f_Src.f_B 6, o8 xv130.f_Key.f_Src.f_B 7, o8 xv130.f_Key.f_Src.f_B 8, o8 xv130.f_Key.f_Src.f_B 9, o8 xv130.f_Key.f_Src.f_B 10, o8 xv130.f_Key.f_Src.f_B 11, o8 xv130.f_Key.f_Src.f_B 12, o8 xv130.f_Key.f_Src.f_B 13, o8 xv130.f_Key.f_Src.f_B 14, o8 xv130.f_Key.f_Src.f_B 15, vB xv130.f_Key.f_Dst.f_Six, o8 xv130.f_Key.f_Dst.f_B 0, o8 xv130.f_Key.f_Dst.f_B 1, o8 xv130.f_Key.f_Dst.f_B 2, o8 xv130.f_Key.f_Dst.f_B 3, o8 xv130.f_Key.f_Dst.f_B 4, o8 xv130.f_Key.f_Dst.f_B 5, o8 xv130.f_Key.f_Dst.f_B 6, o8 xv130.f_Key.f_Dst.f_B 7, o8 xv130.f_Key.f_Dst.f_B 8, o8 xv130.f_Key.f_Dst.f_B 9, o8 xv130.f_Key.f_Dst.f_B 10, o8 xv130.f_Key.f_Dst.f_B 11, o8 xv130.f_Key.f_Dst.f_B 12, o8 xv130.f_Key.f_Dst.f_B 13, o8 xv130.f_Key.f_Dst.f_B 14, o8 xv130.f_Key.f_Dst.f_B 15, v8 xv130.f_Key.f_Proto, v16 xv130.f_Key.f_SrcPort, v16 xv130.f_Key.f_DstPort, v64 xv130.f_N]) hM rfl sz102 rfl (adds_eq [] rfl) rfl rfl (One.all rfl) rfl rfl) fun w134 hM1 => ?_
   clear hM
   have hM := hM1
   clear hM1
   refine nt hQ127 ?_
   clear hQ127 Q127
   refine KC.seqH fun Q135 hQ135 => ?_
   refine sr fun Q136 hQ136 => ?_
   refine RL.val (O.fldA fl102_0 (by decide) rfl) rfl ?_
   refine RL.val (O.load sc4 rfl (Cs.adds [0] ((hM.bx (i := 2) rfl)) rfl)) rfl ?_
   refine RL.val (O.not rfl) rfl ?_
   refine nt hQ136 ?_
   clear hQ136 Q136
   refine KC.cond rfl (fun hc => ?_) (fun hc => ?_)
   ·rw [if_pos hc] at hF
    refine KC.exit ?_
    refine KQ.thx hQ135 ?_
    clear hQ135 Q135
    refine KQ.blk_y rfl ?_
    refine KQ.thx hQ123 ?_
    clear hQ123 Q123
    refine KQ.then_x ?_
    refine KQ.blk_x ?_
    refine KQ.then_k ?_
    replace hM := hM.pick [0, 1] rfl (by decide)
    exact fun a ha => ⟨A113, c114, p115, p116, ha.less less_nil, hM, hF⟩
   rw [if_neg (ne_true hc)] at hF
   refine KC.skip ?_
   refine KQ.thn hQ135 ?_
   clear hQ135 Q135
   refine sr fun Q137 hQ137 => ?_
   refine vm rfl rfl ?_
   refine RL.val (O.nilp rfl) rfl ?_
   refine RL.val (O.fldA fl96_0 (by decide) rfl) rfl ?_
   refine RL.val (O.load sc94 rfl (Cs.adds [0] ((hM.bx (i := 1) rfl)) rfl)) rfl ?_
   refine vm rfl rfl ?_
   refine RL.val (O.bld (cs := [vB false, vB false, o8 (List.replicate 16 0) 0, o8 (List.replicate 16 0) 1, o8 (List.replicate 16 0) 2, o8 (List.replicate 16 0) 3, o8 (List.replicate 16 0) 4, o8 (List.replicate 16 0) 5, o8 (List.replicate 16 0) 6, o8 (List.replicate 16 0) 7, o8 (List.replicate 16 0) 8, o8 (List.replicate 16 0) 9, o8 (List.replicate 16 0) 10, o8 (List.replicate 16 0) 11, o8 (List.replicate 16 0) 12, o8 (List.replicate 16 0) 13, o8 (List.replicate 16 0) 14, o8 (List.replicate 16 0) 15, vB false, o8 (List.replicate 16 0) 0, o8 (List.replicate 16 0) 1, o8 (List.replicate 16 0) 2, o8 (List.replicate 16 0) 3, o8 (List.replicate 16 0) 4, o8 (List.replicate 16 0) 5, o8 (List.replicate 16 0) 6, o8 (List.replicate 16 0) 7, o8 (List.replicate 16 0) 8, o8 (List.replicate 16 0) 9, o8 (List.replicate 16 0) 10, o8 (List.replicate 16 0) 11, o8 (List.replicate 16 0) 12, o8 (List.replicate 16 0) 13, o8 (List.replicate 16 0) 14, o8 (List.replicate 16 0) 15, v8 0, v16 0, v16 0, v64 0]) bt102 rfl (by kernel_rfl)) rfl ?_
   refine obindE hF fun xv140 hx139 hF => ?_
   have hA138 := Rd.atN (f := e_table_Slot) (s := 39) (fun _ => rfl) (by decide) (hM.rd (i := 0) rfl) hx139
   refine RL.val (O.idxA sl94 (hA138) rfl rfl) rfl ?_
   refine RL.effs (E.stR (enc := e_table_Slot) (j := 0) (off := 0) (vs := [vB false, vB false, o8 (List.replicate 16 0) 0, o8 (List.replicate 16 0) 1, o8 (List.replicate 16 0) 2, o8 (List.replicate 16 0) 3, o8 (List.replicate 16 0) 4, o8 (List.replicate 16 0) 5, o8 (List.replicate 16 0) 6, o8 (List.replicate 16 0) 7, o8 (List.replicate 16 0) 8, o8 (List.replicate 16 0) 9, o8 (List.replicate 16 0) 10, o8 (List.replicate 16 0) 11, o8 (List.replicate 16 0) 12, o8 (List.replicate 16 0) 13, o8 (List.replicate 16 0) 14, o8 (List.replicate 16 0) 15, vB false, o8 (List.replicate 16 0) 0, o8 (List.replicate 16 0) 1, o8 (List.replicate 16 0) 2, o8 (List.replicate 16 0) 3, o8 (List.replicate 16 0) 4, o8 (List.replicate 16 0) 5, o8 (List.replicate 16 0) 6, o8 (List.replicate 16 0) 7, o8 (List.replicate 16 0) 8, o8 (List.replicate 16 0) 9, o8 (List.replicate 16 0) 10, o8 (List.replicate 16 0) 11, o8 (List.replicate 16 0) 12, o8 (List.replicate 16 0) 13, o8 (List.replicate 16 0) 14, o8 (List.replicate 16 0) 15, v8 0, v16 0, v16 0, v64 0]) (x' := (T_table_Slot.mk false (T_packet_Key.mk (T_addr_Addr.mk false (List.replicate 16 0)) (T_addr_Addr.mk false (List.replicate 16 0)) 0 0 0) 0)) hM rfl (fun _ => rfl) hx139 sz102 rfl (addsR_eq [] rfl) rfl rfl (One.all rfl) rfl rfl) fun w141 hM1 => ?_
   clear hM
   obtain ⟨hM, hn142⟩ := hM1
   refine RL.reslot (t := 61) rfl hn142 ?_
   replace hM := hM.rebox (i := 1) (cs' := [.slice A113 ((p115.set ((Int.tmod (IntKind.i64.wrap ((IntKind.i64.wrap (y15.1 + 1)) + t117)) (y15.2.f_slots.length : Int)) : Int).toNat (T_table_Slot.mk false (T_packet_Key.mk (T_addr_Addr.mk false (List.replicate 16 0)) (T_addr_Addr.mk false (List.replicate 16 0)) 0 0 0) 0))).length c114, vI p116]) rfl (by rw [← hn142])
   refine nt hQ137 ?_
   clear hQ137 Q137
   refine sr fun Q143 hQ143 => ?_
   refine vm rfl rfl ?_
   refine RL.val (O.fldA fl102_1 (by decide) rfl) rfl ?_
   refine RL.val (O.loadN (cs := [vB xv130.f_Key.f_Src.f_Six, o8 xv130.f_Key.f_Src.f_B 0, o8 xv130.f_Key.f_Src.f_B 1, o8 xv130.f_Key.f_Src.f_B 2, o8 xv130.f_Key.f_Src.f_B 3, o8 xv130.f_Key.f_Src.f_B 4, o8 xv130.f_Key.f_Src.f_B 5, o8 xv130.f_Key.f_Src.f_B 6, o8 xv130.f_Key.f_Src.f_B 7, o8 xv130.f_Key.f_Src.f_B 8, o8 xv130.f_Key.f_Src.f_B 9, o8 xv130.f_Key.f_Src.f_B 10, o8 xv130.f_Key.f_Src.f_B 11, o8 xv130.f_Key.f_Src.f_B 12, o8 xv130.f_Key.f_Src.f_B 13, o8 xv130.f_Key.f_Src.f_B 14, o8 xv130.f_Key.f_Src.f_B 15, vB xv130.f_Key.f_Dst.f_Six, o8 xv130.f_Key.f_Dst.f_B 0, o8 xv130.f_Key.f_Dst.f_B 1, o8 xv130.f_Key.f_Dst.f_B 2, o8 xv130.f_Key.f_Dst.f_B 3, o8 xv130.f_Key.f_Dst.f_B 4, o8 xv130.f_Key.f_Dst.f_B 5, o8 xv130.f_Key.f_Dst.f_B 6, o8 xv130.f_Key.f_Dst.f_B 7, o8 xv130.f_Key.f_Dst.f_B 8, o8 xv130.f_Key.f_Dst.f_B 9, o8 xv130.f_Key.f_Dst.f_B 10, o8 xv130.f_Key.f_Dst.f_B 11, o8 xv130.f_Key.f_Dst.f_B 12, o8 xv130.f_Key.f_Dst.f_B 13, o8 xv130.f_Key.f_Dst.f_B 14, o8 xv130.f_Key.f_Dst.f_B 15, v8 xv130.f_Key.f_Proto, v16 xv130.f_Key.f_SrcPort, v16 xv130.f_Key.f_DstPort]) ag36 rfl (Cs.addsN [1] ((hM.bx (i := 2) rfl)) rfl)) rfl ?_
   refine obindE hF fun y144 hx145 hF => ?_
   refine RL.call Try.func64 bd64 rfl rfl (c_table_Table_find _ _ _ (T_table_Table.mk (p115.set ((Int.tmod (IntKind.i64.wrap ((IntKind.i64.wrap (y15.1 + 1)) + t117)) (y15.2.f_slots.length : Int)) : Int).toNat (T_table_Slot.mk false (T_packet_Key.mk (T_addr_Addr.mk false (List.replicate 16 0)) (T_addr_Addr.mk false (List.replicate 16 0)) 0 0 0) 0)) p116) _ _ (hM.lent [1, 0] rfl (by decide)) xv130.f_Key _ hx145) fun v w146 hv => ?_
   obtain ⟨A148, c149, rfl, hN147⟩ := hv
   replace hM := hM.callL [1, 0] [2] rfl rfl (by decide) rfl hN147
   refine vm rfl rfl ?_
   refine RL.val (O.ext rfl rfl) rfl ?_
   refine RL.val (O.ext rfl rfl) rfl ?_
   refine va rfl rfl ?_
   refine va rfl rfl ?_
   refine nt hQ143 ?_
   clear hQ143 Q143
   replace hM := hM.drewN 1
   refine KC.draw [] [7] [7] [0, 1, 2, 4] (.ofList [0, 1, 2, 3, 4, 5, 6, 7]) moP (by kernel_rfl) ?_
   refine RD.p rfl rfl rfl rfl (fun w' => O.move rfl) ?_
   refine RD.p rfl rfl rfl rfl (fun w' => O.nilp rfl) ?_
   refine RD.p rfl rfl rfl rfl (fun w' => O.fldA fl96_0 (by decide) rfl) ?_
   refine RD.q rfl rfl rfl rfl (fun w' hf => O.load sc94 rfl (Cs.adds [0] ((hM.bx (i := 1) rfl).fut hf) rfl)) ?_
   refine RD.p rfl rfl rfl rfl (fun w' => O.move rfl) ?_
   refine RD.q rfl rfl rfl rfl (fun w' hf => O.loadN (cs := [vB xv130.f_Used, vB xv130.f_Key.f_Src.f_Six, o8 xv130.f_Key.f_Src.f_B 0, o8 xv130.f_Key.f_Src.f_B 1, o8 xv130.f_Key.f_Src.f_B 2, o8 xv130.f_Key.f_Src.f_B 3, o8 xv130.f_Key.f_Src.f_B 4, o8 xv130.f_Key.f_Src.f_B 5, o8 xv130.f_Key.f_Src.f_B 6, o8 xv130.f_Key.f_Src.f_B 7, o8 xv130.f_Key.f_Src.f_B 8, o8 xv130.f_Key.f_Src.f_B 9, o8 xv130.f_Key.f_Src.f_B 10, o8 xv130.f_Key.f_Src.f_B 11, o8 xv130.f_Key.f_Src.f_B 12, o8 xv130.f_Key.f_Src.f_B 13, o8 xv130.f_Key.f_Src.f_B 14, o8 xv130.f_Key.f_Src.f_B 15, vB xv130.f_Key.f_Dst.f_Six, o8 xv130.f_Key.f_Dst.f_B 0, o8 xv130.f_Key.f_Dst.f_B 1, o8 xv130.f_Key.f_Dst.f_B 2, o8 xv130.f_Key.f_Dst.f_B 3, o8 xv130.f_Key.f_Dst.f_B 4, o8 xv130.f_Key.f_Dst.f_B 5, o8 xv130.f_Key.f_Dst.f_B 6, o8 xv130.f_Key.f_Dst.f_B 7, o8 xv130.f_Key.f_Dst.f_B 8, o8 xv130.f_Key.f_Dst.f_B 9, o8 xv130.f_Key.f_Dst.f_B 10, o8 xv130.f_Key.f_Dst.f_B 11, o8 xv130.f_Key.f_Dst.f_B 12, o8 xv130.f_Key.f_Dst.f_B 13, o8 xv130.f_Key.f_Dst.f_B 14, o8 xv130.f_Key.f_Dst.f_B 15, v8 xv130.f_Key.f_Proto, v16 xv130.f_Key.f_SrcPort, v16 xv130.f_Key.f_DstPort, v64 xv130.f_N]) ag102 rfl (Cs.addsN [] ((hM.bx (i := 0) rfl).fut hf) rfl)) ?_
   refine obindE hF fun xv153 hx152 hF => ?_
   have hA151 := Rd.atN (f := e_table_Slot) (s := 39) (fun _ => rfl) (by decide) (hM.rd (i := 2) rfl) hx152
   refine RD.q rfl rfl rfl rfl (fun w' hf => O.idxA sl94 (hA151.fut hf) rfl rfl) ?_
   refine RD.meffs rfl rfl rfl (E.stR (enc := e_table_Slot) (j := 2) (off := 0) (vs := [vB xv130.f_Used, vB xv130.f_Key.f_Src.f_Six, o8 xv130.f_Key.f_Src.f_B 0, o8 xv130.f_Key.f_Src.f_B 1, o8 xv130.f_Key.f_Src.f_B 2, o8 xv130.f_Key.f_Src.f_B 3, o8 xv130.f_Key.f_Src.f_B 4, o8 xv130.f_Key.f_Src.f_B 5, o8 xv130.f_Key.f_Src.f_B 6, o8 xv130.f_Key.f_Src.f_B 7, o8 xv130.f_Key.f_Src.f_B 8, o8 xv130.f_Key.f_Src.f_B 9, o8 xv130.f_Key.f_Src.f_B 10, o8 xv130.f_Key.f_Src.f_B 11, o8 xv130.f_Key.f_Src.f_B 12, o8 xv130.f_Key.f_Src.f_B 13, o8 xv130.f_Key.f_Src.f_B 14, o8 xv130.f_Key.f_Src.f_B 15, vB xv130.f_Key.f_Dst.f_Six, o8 xv130.f_Key.f_Dst.f_B 0, o8 xv130.f_Key.f_Dst.f_B 1, o8 xv130.f_Key.f_Dst.f_B 2, o8 xv130.f_Key.f_Dst.f_B 3, o8 xv130.f_Key.f_Dst.f_B 4, o8 xv130.f_Key.f_Dst.f_B 5, o8 xv130.f_Key.f_Dst.f_B 6, o8 xv130.f_Key.f_Dst.f_B 7, o8 xv130.f_Key.f_Dst.f_B 8, o8 xv130.f_Key.f_Dst.f_B 9, o8 xv130.f_Key.f_Dst.f_B 10, o8 xv130.f_Key.f_Dst.f_B 11, o8 xv130.f_Key.f_Dst.f_B 12, o8 xv130.f_Key.f_Dst.f_B 13, o8 xv130.f_Key.f_Dst.f_B 14, o8 xv130.f_Key.f_Dst.f_B 15, v8 xv130.f_Key.f_Proto, v16 xv130.f_Key.f_SrcPort, v16 xv130.f_Key.f_DstPort, v64 xv130.f_N]) (x' := xv130) hM rfl (fun _ => rfl) hx152 sz102 rfl (addsR_eq [] rfl) rfl rfl (One.all rfl) rfl rfl) fun w154 hM1 => ?_
   clear hM
   obtain ⟨hM, hn155⟩ := hM1
   refine RD.reslot (t := 75) rfl hn155 ?_
   replace hM := hM.rebox (i := 1) (cs' := [.slice A148 ((y144.2.2.f_slots.set (y144.1 : Int).toNat xv130)).length c149, vI y144.2.2.f_many]) rfl (by rw [← hn155])
   refine RD.nil ?_
   refine KQ.blk_n ?_
   refine KQ.thn hQ123 ?_
   clear hQ123 Q123
   refine KC.region ?_
   refine RL.val (O.add rfl rfl) rfl ?_
   refine vm rfl rfl ?_
   refine RL.nil ?_
   refine KQ.then_k ?_
   replace hM := hM.pick [2, 1] rfl (by decide)
   exact fun a ha => ⟨k120, Nat.lt_succ_self k120, A148, c149, (y144.2.2.f_slots.set (y144.1 : Int).toNat xv130), y144.2.2.f_many, (IntKind.i64.wrap (t117 + 1)), ha.less (less_cons rfl (less_cons rfl (less_cons rfl (less_cons rfl (less_cons rfl less_nil))))), hM, hF⟩
  rw [if_neg (ne_true hc)] at hF
  refine KC.exit ?_
  refine KQ.thx hQ122 ?_
  clear hQ122 Q122
  refine KQ.then_x ?_
  refine KQ.blk_x ?_
  refine KQ.then_k ?_
  exact fun a ha => ⟨A113, c114, p115, p116, ha.less less_nil, hM, hF⟩
 rintro a w162 ⟨A158, c159, p160, p161, ha, hM, hF⟩
 refine KC.app ha ?_
 clear ha
 unfold F_table_Table_Delete_j1 at hF
 refine sr fun Q163 hQ163 => ?_
 refine va rfl rfl ?_
 refine nt hQ163 ?_
 clear hQ163 Q163
 refine KC.ret ?_
 have hE := Option.some.inj hF
 clear hF
 subst hE
 replace hM := hM.pick [1, 0] rfl (by decide)
 refine KQ.rets Try.results56 (RVs.cons (RV.tm rfl) RVs.nil) ?_
 exact ⟨_, rfl, A158, c159, rfl, hM⟩
end Go.Proofs.Ytkpnocgfhipidaa
