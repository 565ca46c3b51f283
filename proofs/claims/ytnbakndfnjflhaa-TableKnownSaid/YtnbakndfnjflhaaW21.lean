/- Printed by a program of this claim: each call returns what the plain function of its name gives. -/
import Derived.Test.YtnbakndfnjflhaaW1
import Derived.Test.YtnbakndfnjflhaaW3
import Derived.Test.YtnbakndfnjflhaaW10
import Derived.Test.YtnbakndfnjflhaaW12
import Derived.Test.YtnbakndfnjflhaaW14
import Derived.Test.YtnbakndfnjflhaaW19
import Derived.Test.YtnbakndfnjflhaaW20
set_option linter.unusedVariables false
namespace Go.Proofs.Ytnbakndfnjflhaa
open Go Go.Ox Go.RowKit
set_option maxRecDepth 100000 in
set_option maxHeartbeats 40000000 in
theorem c_law23_is (w : World) (g2 : Nat) (tg7 : TypeId) (t1 : T_table_Table) (A4 : Option Addr) (c5 : Nat) (hL13 : Lent w [.box g2 tg7 [.slice A4 (t1.f_slots).length c5, Value.int .i64 t1.f_many], .row A4 c5 74 39 (t1.f_slots).length ((t1.f_slots).flatMap e_table_Slot)]) (A9 : Option Addr) (c10 : Nat) (rv8 : List T_ref23_Slot) (hr11 : Rd w A9 c10 39 rv8.length (rv8.flatMap e_ref23_Slot)) (ho12 : Off [some g2, rblk A4 c5] rv8.length A9) (r : Bool × T_table_Table) (hF : F_law23_is t1 rv8 = some r) :
  CallsR Try.prog 26 [.pointer (some ⟨g2, 0, none⟩), .slice A9 (rv8).length c10] w (fun v w' => ∃ (A0 : Option Addr) (c0 : Nat), v = Value.bool r.1 ∧ Mem w [some g2, rblk A4 c5] w' [.box g2 tg7 [.slice A0 (r.2.f_slots).length c0, Value.int .i64 r.2.f_many], .row A0 c0 74 39 r.2.f_slots.length (r.2.f_slots.flatMap e_table_Slot)]) := by
 refine calls_KC Try.func26 rfl Try.ntmps26 rfl ?_
 have hM : Mem w [some g2, rblk A4 c5] w [.box g2 tg7 [.slice A4 (t1.f_slots).length c5, Value.int .i64 t1.f_many], .row A4 c5 74 39 (t1.f_slots).length ((t1.f_slots).flatMap e_table_Slot)] := Mem.lendN hL13
 unfold F_law23_is at hF
 refine KC.seqH fun Q14 hQ14 => ?_
 refine KC.region ?_
 refine RL.val (O.assign rfl) rfl ?_
 refine RL.nil ?_
 refine KQ.thn hQ14 ?_
 clear hQ14 Q14
 refine KC.seqH fun Q15 hQ15 => ?_
 refine KC.region ?_
 refine RL.val (O.move rfl) rfl ?_
 refine obindE hF fun y16 hx17 hF => ?_
 refine RL.call Try.func28 bd28 rfl rfl (c_table_Table_Slots _ _ _ t1 _ _ (hM.lent [0, 1] rfl (by decide)) _ hx17) fun v w18 hv => ?_
 obtain ⟨A20, c21, A23, c24, rfl, hN19⟩ := hv
 replace hM := hM.callL [0, 1] [] rfl rfl (by decide) rfl hN19
 refine RL.val (O.assign rfl) rfl ?_
 refine RL.nil ?_
 refine KQ.thn hQ15 ?_
 clear hQ15 Q15
 refine KC.seqH fun Q26 hQ26 => ?_
 refine KC.cut (fun a w53 => ∃ (A47 : Option Addr) (c48 : Nat) (p49 : List T_table_Slot) (p50 : Int) (t52 : Bool), Kn 122 [(0, .pointer (some ⟨g2, 0, none⟩)), (1, .slice A9 (rv8).length c10), (5, .slice A23 (y16.1).length c24), (31, Value.bool t52)] a ∧ Mem w [some g2, rblk A4 c5] w53 [.row A47 c48 74 39 (p49).length ((p49).flatMap e_table_Slot), .box g2 tg7 [.slice A47 (p49).length c48, Value.int .i64 p50], .row A23 c24 74 39 (y16.1).length ((y16.1).flatMap e_table_Slot)] ∧ F_law23_is_j1 rv8 y16 p49 p50 t52 = some r) ?_ ?_
 ·refine KC.region ?_
  refine RL.val (O.move rfl) rfl ?_
  refine RL.val (O.len sl65 rfl) rfl ?_
  refine RL.val (O.move rfl) rfl ?_
  refine RL.val (O.len sl49 rfl) rfl ?_
  refine RL.val (O.neq rfl rfl) rfl ?_
  refine RL.val (O.move rfl) rfl ?_
  refine RL.bcase (t := 18) rfl (fun hc => ?_) (fun hc => ?_)
  ·rw [if_pos hc] at hF
   refine RL.brun1 13 31 true (by kernel_rfl) ?_
   refine RL.nil ?_
   refine KQ.then_k ?_
   replace hM := hM.pick [1, 0, 2] rfl (by decide)
   exact fun a ha => ⟨A20, c21, y16.2.f_slots, y16.2.f_many, true, ha.less (less_cons rfl (less_cons rfl (less_cons rfl (less_cons rfl less_nil)))), hM, hF⟩
  ·rw [if_neg (ne_true hc)] at hF
   refine RL.gval rfl rfl (O.move rfl) rfl ?_
   refine obindE hF fun y27 hx28 hF => ?_
   refine RL.gcall rfl rfl Try.func27 bd27 rfl rfl (c_table_Table_Size _ _ _ y16.2 _ _ (hM.lent [0, 1] rfl (by decide)) _ hx28) fun v w29 hv => ?_
   obtain ⟨A31, c32, rfl, hN30⟩ := hv
   replace hM := hM.callL [0, 1] [2] rfl rfl (by decide) rfl hN30
   refine RL.gval rfl rfl (O.move rfl) rfl ?_
   refine RL.gval rfl rfl (O.len sl49 rfl) rfl ?_
   refine RL.gval rfl rfl (O.neq rfl rfl) rfl ?_
   refine RL.val (O.pickf rfl rfl) rfl ?_
   refine RL.val (O.move rfl) rfl ?_
   refine RL.bcase (t := 25) rfl (fun hc => ?_) (fun hc => ?_)
   ·rw [if_pos hc] at hF
    refine RL.brun1 6 31 true (by kernel_rfl) ?_
    refine RL.nil ?_
    refine KQ.then_k ?_
    replace hM := hM.pick [2, 1, 0] rfl (by decide)
    exact fun a ha => ⟨A31, c32, y27.2.f_slots, y27.2.f_many, true, ha.less (less_cons rfl (less_cons rfl (less_cons rfl (less_cons rfl less_nil)))), hM, hF⟩
   ·rw [if_neg (ne_true hc)] at hF
    refine RL.gval rfl rfl (O.move rfl) rfl ?_
    refine obindE hF fun y34 hx35 hF => ?_
    refine RL.gcall rfl rfl Try.func14 bd14 rfl rfl (c_table_Table_Len _ _ _ y27.2 _ _ (hM.lent [1, 2] rfl (by decide)) _ hx35) fun v w36 hv => ?_
    obtain ⟨A38, c39, rfl, hN37⟩ := hv
    replace hM := hM.callL [1, 2] [0] rfl rfl (by decide) rfl hN37
    refine RL.gval rfl rfl (O.move rfl) rfl ?_
    refine obindE hF fun y41 hx42 hF => ?_
    refine RL.gcall rfl rfl Try.func41 bd41 rfl rfl (c_ref23_Len _ _ _ rv8 (hM.inp hr11 ho12) _ hx42) fun v w43 hv => ?_
    obtain ⟨rfl, hN44⟩ := hv
    replace hM := hM.call0 hN44
    refine RL.gval rfl rfl (O.neq rfl rfl) rfl ?_
    refine RL.val (O.pickf rfl rfl) rfl ?_
    refine RL.nil ?_
    refine KQ.then_k ?_
    replace hM := hM.pick [2, 1, 0] rfl (by decide)
    exact fun a ha => ⟨A38, c39, y34.2.f_slots, y34.2.f_many, (y34.1 != y41), ha.less (less_cons rfl (less_cons rfl (less_cons rfl (less_cons rfl less_nil)))), hM, hF⟩
 ·rintro a w53 ⟨A47, c48, p49, p50, t52, ha, hM, hF⟩
  refine KC.app ha ?_
  clear ha
  unfold F_law23_is_j1 at hF
  refine KC.cond rfl (fun hc => ?_) (fun hc => ?_)
  ·rw [if_pos hc] at hF
   refine KC.seqH fun Q54 hQ54 => ?_
   refine KC.region ?_
   refine RL.val (O.assign rfl) rfl ?_
   refine RL.nil ?_
   refine KQ.thn hQ54 ?_
   clear hQ54 Q54
   refine KC.ret ?_
   refine KQ.thr hQ26 ?_
   clear hQ26 Q26
   have hE := Option.some.inj hF
   clear hF
   subst hE
   replace hM := hM.pick [1, 0] rfl (by decide)
   refine KQ.rets Try.results26 (RVs.cons (RV.tm rfl) RVs.nil) ?_
   exact ⟨_, rfl, A47, c48, rfl, hM⟩
  ·rw [if_neg (ne_true hc)] at hF
   refine KC.skip ?_
   refine KQ.thn hQ26 ?_
   clear hQ26 Q26
   refine KC.seqH fun Q55 hQ55 => ?_
   refine KC.seqH fun Q56 hQ56 => ?_
   refine KC.region ?_
   refine RL.val (O.assign rfl) rfl ?_
   refine RL.nil ?_
   refine KQ.thn hQ56 ?_
   clear hQ56 Q56
   refine KC.block ?_
   refine KC.loop (fun k147 a w145 => ∃ (A141 : Option Addr) (c142 : Nat) (lv143 : List T_table_Slot) (i144 : Int), Kn 122 [(0, .pointer (some ⟨g2, 0, none⟩)), (1, .slice A9 (rv8).length c10), (5, .slice A141 (lv143).length c142), (6, Value.int .i64 i144)] a ∧ Mem w [some g2, rblk A4 c5] w145 [.row A47 c48 74 39 (p49).length ((p49).flatMap e_table_Slot), .box g2 tg7 [.slice A47 (p49).length c48, Value.int .i64 p50], .row A141 c142 74 39 (lv143).length ((lv143).flatMap e_table_Slot)] ∧ F_law23_is_L1 rv8 p49 p50 k147 lv143 i144 = some r) ?_ ?_
   ·exact fun a ha => ⟨fuel0, A23, c24, y16.1, 0, ha.less (less_cons rfl (less_cons rfl (less_cons rfl (less_cons rfl less_nil)))), hM, hF⟩
   ·rintro k147 a w145 ⟨A141, c142, lv143, i144, ha, hM, hF⟩
    refine KC.app ha ?_
    clear ha
    cases k147 with
    | zero => exact (none_some hF).elim
    | succ k147 =>
    have hF : F_law23_is_l1 (F_law23_is_L1 rv8 p49 p50 k147) rv8 p49 p50 lv143 i144 = some r := hF
    unfold F_law23_is_l1 at hF
    refine KC.seqH fun Q148 hQ148 => ?_
    refine KC.seqH fun Q149 hQ149 => ?_
    refine KC.region ?_
    refine RL.val (O.move rfl) rfl ?_
    refine RL.val (O.move rfl) rfl ?_
    refine RL.val (O.len sl65 rfl) rfl ?_
    refine RL.val (O.lss rfl rfl) rfl ?_
    refine RL.nil ?_
    refine KQ.thn hQ149 ?_
    clear hQ149 Q149
    refine KC.cond rfl (fun hc => ?_) (fun hc => ?_)
    ·rw [if_pos hc] at hF
     refine KC.skip ?_
     refine KQ.thn hQ148 ?_
     clear hQ148 Q148
     refine KC.seqH fun Q150 hQ150 => ?_
     refine KC.block ?_
     refine KC.seqH fun Q151 hQ151 => ?_
     refine KC.cut (fun a w178 => ∃ (t177 : Bool), Kn 122 [(0, .pointer (some ⟨g2, 0, none⟩)), (1, .slice A9 (rv8).length c10), (5, .slice A141 (lv143).length c142), (6, Value.int .i64 i144), (75, Value.bool t177)] a ∧ Mem w [some g2, rblk A4 c5] w178 [.row A47 c48 74 39 (p49).length ((p49).flatMap e_table_Slot), .box g2 tg7 [.slice A47 (p49).length c48, Value.int .i64 p50], .row A141 c142 74 39 (lv143).length ((lv143).flatMap e_table_Slot)] ∧ F_law23_is_j2 p49 p50 lv143 i144 (F_law23_is_L1 rv8 p49 p50 k147) t177 = some r) ?_ ?_
     ·replace hM := hM.drewN 1
      refine KC.draw [] [] [17] [0, 1, 3, 5, 6, 8, 10, 11, 12, 13, 15, 18, 19, 21, 23, 24, 25, 26, 27, 29, 31, 32, 34, 36, 37] (.ofList [0, 1, 2, 3, 4, 5, 6, 7, 8, 9, 10, 11, 12, 13, 14, 15, 16, 18, 19, 20, 21, 22, 17, 23, 24, 25, 26, 27, 28, 29, 30, 31, 32, 33, 34, 35, 36, 37]) moP (by kernel_rfl) ?_
      refine RD.p rfl rfl rfl rfl (fun w' => O.move rfl) ?_
      refine RD.p rfl rfl rfl rfl (fun w' => O.move rfl) ?_
      refine obindE hF fun xv154 hx153 hF => ?_
      have hA152 := Rd.atN (f := e_table_Slot) (s := 39) (fun _ => rfl) (by decide) (hM.rd (i := 2) rfl) hx153
      refine RD.q rfl rfl rfl rfl (fun w' hf => O.idxA sl65 (hA152.fut hf) rfl rfl) ?_
      refine RD.p rfl rfl rfl rfl (fun w' => O.fldA fl74_0 (by decide) rfl) ?_
      refine RD.q rfl rfl rfl rfl (fun w' hf => O.load sc4 rfl (Cs.adds [0] (hA152.fut hf).cells rfl)) ?_
      refine RD.p rfl rfl rfl rfl (fun w' => O.move rfl) ?_
      refine RD.p rfl rfl rfl rfl (fun w' => O.move rfl) ?_
      refine obindE hF fun xv157 hx156 hF => ?_
      have hA155 := Rd.atN (f := e_ref23_Slot) (s := 39) (fun _ => rfl) (by decide) (hM.inp hr11 ho12) hx156
      refine RD.q rfl rfl rfl rfl (fun w' hf => O.idxA sl49 (hA155.fut hf) rfl rfl) ?_
      refine RD.p rfl rfl rfl rfl (fun w' => O.fldA fl78_0 (by decide) rfl) ?_
      refine RD.q rfl rfl rfl rfl (fun w' hf => O.load sc4 rfl (Cs.adds [0] (hA155.fut hf).cells rfl)) ?_
      refine RD.p rfl rfl rfl rfl (fun w' => O.neqb Try.underlying4 rfl rfl) ?_
      refine RD.p rfl rfl rfl rfl (fun w' => O.move rfl) ?_
      refine RD.bcase (t := 49) rfl (fun hc => ?_) (fun hc => ?_)
      ·rw [if_pos hc] at hF
       refine RD.gskip rfl rfl rfl rfl rfl ?_
       refine RD.gskip rfl rfl rfl rfl rfl ?_
       refine RD.gskip rfl rfl rfl rfl rfl ?_
       refine RD.gskip rfl rfl rfl rfl rfl ?_
       refine RD.gskip rfl rfl rfl rfl rfl ?_
       refine RD.gskip rfl rfl rfl rfl rfl ?_
       refine RD.gskip rfl rfl rfl rfl rfl ?_
       refine RD.gskip rfl rfl rfl rfl rfl ?_
       refine RD.gskip rfl rfl rfl rfl rfl ?_
       refine RD.gskip rfl rfl rfl rfl rfl ?_
       refine RD.gskip rfl rfl rfl rfl rfl ?_
       refine RD.gskip rfl rfl rfl rfl rfl ?_
       refine RD.p rfl rfl rfl rfl (fun w' => O.pickt rfl rfl) ?_
       refine RD.p rfl rfl rfl rfl (fun w' => O.move rfl) ?_
       refine RD.gskip rfl rfl rfl rfl rfl ?_
       refine RD.gskip rfl rfl rfl rfl rfl ?_
       refine RD.gskip rfl rfl rfl rfl rfl ?_
       refine RD.gskip rfl rfl rfl rfl rfl ?_
       refine RD.gskip rfl rfl rfl rfl rfl ?_
       refine RD.gskip rfl rfl rfl rfl rfl ?_
       refine RD.gskip rfl rfl rfl rfl rfl ?_
       refine RD.gskip rfl rfl rfl rfl rfl ?_
       refine RD.gskip rfl rfl rfl rfl rfl ?_
       refine RD.gskip rfl rfl rfl rfl rfl ?_
       refine RD.gskip rfl rfl rfl rfl rfl ?_
       refine RD.p rfl rfl rfl rfl (fun w' => O.pickt rfl rfl) ?_
       refine RD.nil ?_
       refine KQ.then_k ?_
       exact fun a ha => ⟨true, ha.less (less_cons rfl (less_cons rfl (less_cons rfl (less_cons rfl (less_cons rfl less_nil))))), hM, hF⟩
      ·rw [if_neg (ne_true hc)] at hF
       refine RD.gp rfl rfl rfl rfl rfl rfl (fun w' => O.move rfl) ?_
       refine RD.gp rfl rfl rfl rfl rfl rfl (fun w' => O.move rfl) ?_
       refine obindE hF fun xv160 hx159 hF => ?_
       have hA158 := Rd.atN (f := e_table_Slot) (s := 39) (fun _ => rfl) (by decide) (hM.rd (i := 2) rfl) hx159
       refine RD.gq rfl rfl rfl rfl rfl rfl (fun w' hf => O.idxA sl65 (hA158.fut hf) rfl rfl) ?_
       refine RD.gp rfl rfl rfl rfl rfl rfl (fun w' => O.fldA fl74_1 (by decide) rfl) ?_
       refine RD.gq rfl rfl rfl rfl rfl rfl (fun w' hf => O.loadN (cs := [Value.bool xv160.f_Key.f_Src.f_Six, o8 xv160.f_Key.f_Src.f_B 0, o8 xv160.f_Key.f_Src.f_B 1, o8 xv160.f_Key.f_Src.f_B 2, o8 xv160.f_Key.f_Src.f_B 3, o8 xv160.f_Key.f_Src.f_B 4, o8 xv160.f_Key.f_Src.f_B 5, o8 xv160.f_Key.f_Src.f_B 6, o8 xv160.f_Key.f_Src.f_B 7, o8 xv160.f_Key.f_Src.f_B 8, o8 xv160.f_Key.f_Src.f_B 9, o8 xv160.f_Key.f_Src.f_B 10, o8 xv160.f_Key.f_Src.f_B 11, o8 xv160.f_Key.f_Src.f_B 12, o8 xv160.f_Key.f_Src.f_B 13, o8 xv160.f_Key.f_Src.f_B 14, o8 xv160.f_Key.f_Src.f_B 15, Value.bool xv160.f_Key.f_Dst.f_Six, o8 xv160.f_Key.f_Dst.f_B 0, o8 xv160.f_Key.f_Dst.f_B 1, o8 xv160.f_Key.f_Dst.f_B 2, o8 xv160.f_Key.f_Dst.f_B 3, o8 xv160.f_Key.f_Dst.f_B 4, o8 xv160.f_Key.f_Dst.f_B 5, o8 xv160.f_Key.f_Dst.f_B 6, o8 xv160.f_Key.f_Dst.f_B 7, o8 xv160.f_Key.f_Dst.f_B 8, o8 xv160.f_Key.f_Dst.f_B 9, o8 xv160.f_Key.f_Dst.f_B 10, o8 xv160.f_Key.f_Dst.f_B 11, o8 xv160.f_Key.f_Dst.f_B 12, o8 xv160.f_Key.f_Dst.f_B 13, o8 xv160.f_Key.f_Dst.f_B 14, o8 xv160.f_Key.f_Dst.f_B 15, Value.int .u8 xv160.f_Key.f_Proto, Value.int .u16 xv160.f_Key.f_SrcPort, Value.int .u16 xv160.f_Key.f_DstPort]) ag35 rfl (Cs.addsN [1] (hA158.fut hf).cells rfl)) ?_
       refine RD.gp rfl rfl rfl rfl rfl rfl (fun w' => O.move rfl) ?_
       refine RD.gp rfl rfl rfl rfl rfl rfl (fun w' => O.move rfl) ?_
       refine obindE hF fun xv163 hx162 hF => ?_
       have hA161 := Rd.atN (f := e_ref23_Slot) (s := 39) (fun _ => rfl) (by decide) (hM.inp hr11 ho12) hx162
       refine RD.gq rfl rfl rfl rfl rfl rfl (fun w' hf => O.idxA sl49 (hA161.fut hf) rfl rfl) ?_
       refine RD.gp rfl rfl rfl rfl rfl rfl (fun w' => O.fldA fl78_1 (by decide) rfl) ?_
       refine RD.gq rfl rfl rfl rfl rfl rfl (fun w' hf => O.loadN (cs := [Value.bool xv163.f_Key.f_Src.f_Six, o8 xv163.f_Key.f_Src.f_B 0, o8 xv163.f_Key.f_Src.f_B 1, o8 xv163.f_Key.f_Src.f_B 2, o8 xv163.f_Key.f_Src.f_B 3, o8 xv163.f_Key.f_Src.f_B 4, o8 xv163.f_Key.f_Src.f_B 5, o8 xv163.f_Key.f_Src.f_B 6, o8 xv163.f_Key.f_Src.f_B 7, o8 xv163.f_Key.f_Src.f_B 8, o8 xv163.f_Key.f_Src.f_B 9, o8 xv163.f_Key.f_Src.f_B 10, o8 xv163.f_Key.f_Src.f_B 11, o8 xv163.f_Key.f_Src.f_B 12, o8 xv163.f_Key.f_Src.f_B 13, o8 xv163.f_Key.f_Src.f_B 14, o8 xv163.f_Key.f_Src.f_B 15, Value.bool xv163.f_Key.f_Dst.f_Six, o8 xv163.f_Key.f_Dst.f_B 0, o8 xv163.f_Key.f_Dst.f_B 1, o8 xv163.f_Key.f_Dst.f_B 2, o8 xv163.f_Key.f_Dst.f_B 3, o8 xv163.f_Key.f_Dst.f_B 4, o8 xv163.f_Key.f_Dst.f_B 5, o8 xv163.f_Key.f_Dst.f_B 6, o8 xv163.f_Key.f_Dst.f_B 7, o8 xv163.f_Key.f_Dst.f_B 8, o8 xv163.f_Key.f_Dst.f_B 9, o8 xv163.f_Key.f_Dst.f_B 10, o8 xv163.f_Key.f_Dst.f_B 11, o8 xv163.f_Key.f_Dst.f_B 12, o8 xv163.f_Key.f_Dst.f_B 13, o8 xv163.f_Key.f_Dst.f_B 14, o8 xv163.f_Key.f_Dst.f_B 15, Value.int .u8 xv163.f_Key.f_Proto, Value.int .u16 xv163.f_Key.f_SrcPort, Value.int .u16 xv163.f_Key.f_DstPort]) ag54 rfl (Cs.addsN [1] (hA161.fut hf).cells rfl)) ?_
       refine obindE hF fun y164 hx165 hF => ?_
       refine RD.mcall rfl rfl ⟨rfl, rfl⟩ Try.func18 bd18 rfl rfl (c_docs_Key _ xv160.f_Key _ hx165) fun v w166 hv => ?_
       obtain ⟨rfl, hN167⟩ := hv
       refine ⟨fun _ => hN167.fut, ?_⟩
       replace hM := hM.call0 hN167
       refine RD.gp rfl rfl rfl rfl rfl rfl (fun w' => O.stne (cs := [Value.bool y164.f_Src.f_Six, o8 y164.f_Src.f_B 0, o8 y164.f_Src.f_B 1, o8 y164.f_Src.f_B 2, o8 y164.f_Src.f_B 3, o8 y164.f_Src.f_B 4, o8 y164.f_Src.f_B 5, o8 y164.f_Src.f_B 6, o8 y164.f_Src.f_B 7, o8 y164.f_Src.f_B 8, o8 y164.f_Src.f_B 9, o8 y164.f_Src.f_B 10, o8 y164.f_Src.f_B 11, o8 y164.f_Src.f_B 12, o8 y164.f_Src.f_B 13, o8 y164.f_Src.f_B 14, o8 y164.f_Src.f_B 15, Value.bool y164.f_Dst.f_Six, o8 y164.f_Dst.f_B 0, o8 y164.f_Dst.f_B 1, o8 y164.f_Dst.f_B 2, o8 y164.f_Dst.f_B 3, o8 y164.f_Dst.f_B 4, o8 y164.f_Dst.f_B 5, o8 y164.f_Dst.f_B 6, o8 y164.f_Dst.f_B 7, o8 y164.f_Dst.f_B 8, o8 y164.f_Dst.f_B 9, o8 y164.f_Dst.f_B 10, o8 y164.f_Dst.f_B 11, o8 y164.f_Dst.f_B 12, o8 y164.f_Dst.f_B 13, o8 y164.f_Dst.f_B 14, o8 y164.f_Dst.f_B 15, Value.int .u8 y164.f_Proto, Value.int .u16 y164.f_SrcPort, Value.int .u16 y164.f_DstPort]) (cs' := [Value.bool xv163.f_Key.f_Src.f_Six, o8 xv163.f_Key.f_Src.f_B 0, o8 xv163.f_Key.f_Src.f_B 1, o8 xv163.f_Key.f_Src.f_B 2, o8 xv163.f_Key.f_Src.f_B 3, o8 xv163.f_Key.f_Src.f_B 4, o8 xv163.f_Key.f_Src.f_B 5, o8 xv163.f_Key.f_Src.f_B 6, o8 xv163.f_Key.f_Src.f_B 7, o8 xv163.f_Key.f_Src.f_B 8, o8 xv163.f_Key.f_Src.f_B 9, o8 xv163.f_Key.f_Src.f_B 10, o8 xv163.f_Key.f_Src.f_B 11, o8 xv163.f_Key.f_Src.f_B 12, o8 xv163.f_Key.f_Src.f_B 13, o8 xv163.f_Key.f_Src.f_B 14, o8 xv163.f_Key.f_Src.f_B 15, Value.bool xv163.f_Key.f_Dst.f_Six, o8 xv163.f_Key.f_Dst.f_B 0, o8 xv163.f_Key.f_Dst.f_B 1, o8 xv163.f_Key.f_Dst.f_B 2, o8 xv163.f_Key.f_Dst.f_B 3, o8 xv163.f_Key.f_Dst.f_B 4, o8 xv163.f_Key.f_Dst.f_B 5, o8 xv163.f_Key.f_Dst.f_B 6, o8 xv163.f_Key.f_Dst.f_B 7, o8 xv163.f_Key.f_Dst.f_B 8, o8 xv163.f_Key.f_Dst.f_B 9, o8 xv163.f_Key.f_Dst.f_B 10, o8 xv163.f_Key.f_Dst.f_B 11, o8 xv163.f_Key.f_Dst.f_B 12, o8 xv163.f_Key.f_Dst.f_B 13, o8 xv163.f_Key.f_Dst.f_B 14, o8 xv163.f_Key.f_Dst.f_B 15, Value.int .u8 xv163.f_Key.f_Proto, Value.int .u16 xv163.f_Key.f_SrcPort, Value.int .u16 xv163.f_Key.f_DstPort]) (by kernel_rfl) rfl rfl (Q54t y164 xv163.f_Key _ rfl rfl)) ?_
       refine RD.p rfl rfl rfl rfl (fun w' => O.pickf rfl rfl) ?_
       refine RD.p rfl rfl rfl rfl (fun w' => O.move rfl) ?_
       refine RD.bcase (t := 63) rfl (fun hc => ?_) (fun hc => ?_)
       ·rw [if_pos hc] at hF
        refine RD.gskip rfl rfl rfl rfl rfl ?_
        refine RD.gskip rfl rfl rfl rfl rfl ?_
        refine RD.gskip rfl rfl rfl rfl rfl ?_
        refine RD.gskip rfl rfl rfl rfl rfl ?_
        refine RD.gskip rfl rfl rfl rfl rfl ?_
        refine RD.gskip rfl rfl rfl rfl rfl ?_
        refine RD.gskip rfl rfl rfl rfl rfl ?_
        refine RD.gskip rfl rfl rfl rfl rfl ?_
        refine RD.gskip rfl rfl rfl rfl rfl ?_
        refine RD.gskip rfl rfl rfl rfl rfl ?_
        refine RD.gskip rfl rfl rfl rfl rfl ?_
        refine RD.p rfl rfl rfl rfl (fun w' => O.pickt rfl rfl) ?_
        refine RD.nil ?_
        refine KQ.then_k ?_
        exact fun a ha => ⟨true, ha.less (less_cons rfl (less_cons rfl (less_cons rfl (less_cons rfl (less_cons rfl less_nil))))), hM, hF⟩
       ·rw [if_neg (ne_true hc)] at hF
        refine RD.gp rfl rfl rfl rfl rfl rfl (fun w' => O.move rfl) ?_
        refine RD.gp rfl rfl rfl rfl rfl rfl (fun w' => O.move rfl) ?_
        refine obindE hF fun xv170 hx169 hF => ?_
        have hA168 := Rd.atN (f := e_table_Slot) (s := 39) (fun _ => rfl) (by decide) (hM.rd (i := 2) rfl) hx169
        refine RD.gq rfl rfl rfl rfl rfl rfl (fun w' hf => O.idxA sl65 (hA168.fut hf) rfl rfl) ?_
        refine RD.gp rfl rfl rfl rfl rfl rfl (fun w' => O.fldA fl74_2 (by decide) rfl) ?_
        refine RD.gq rfl rfl rfl rfl rfl rfl (fun w' hf => O.load sc36 rfl (Cs.adds [38] (hA168.fut hf).cells rfl)) ?_
        refine RD.gp rfl rfl rfl rfl rfl rfl (fun w' => O.move rfl) ?_
        refine RD.gp rfl rfl rfl rfl rfl rfl (fun w' => O.move rfl) ?_
        refine obindE hF fun xv173 hx172 hF => ?_
        have hA171 := Rd.atN (f := e_ref23_Slot) (s := 39) (fun _ => rfl) (by decide) (hM.inp hr11 ho12) hx172
        refine RD.gq rfl rfl rfl rfl rfl rfl (fun w' hf => O.idxA sl49 (hA171.fut hf) rfl rfl) ?_
        refine RD.gp rfl rfl rfl rfl rfl rfl (fun w' => O.fldA fl78_2 (by decide) rfl) ?_
        refine RD.gq rfl rfl rfl rfl rfl rfl (fun w' hf => O.load sc36 rfl (Cs.adds [38] (hA171.fut hf).cells rfl)) ?_
        refine RD.gp rfl rfl rfl rfl rfl rfl (fun w' => O.neq rfl rfl) ?_
        refine RD.p rfl rfl rfl rfl (fun w' => O.pickf rfl rfl) ?_
        refine RD.nil ?_
        refine KQ.then_k ?_
        exact fun a ha => ⟨(xv170.f_N != xv173.f_N), ha.less (less_cons rfl (less_cons rfl (less_cons rfl (less_cons rfl (less_cons rfl less_nil))))), hM, hF⟩
     ·rintro a w178 ⟨t177, ha, hM, hF⟩
      refine KC.app ha ?_
      clear ha
      unfold F_law23_is_j2 at hF
      refine KC.cond rfl (fun hc => ?_) (fun hc => ?_)
      ·rw [if_pos hc] at hF
       refine KC.seqH fun Q179 hQ179 => ?_
       refine KC.region ?_
       refine RL.val (O.assign rfl) rfl ?_
       refine RL.nil ?_
       refine KQ.thn hQ179 ?_
       clear hQ179 Q179
       refine KC.ret ?_
       refine KQ.thr hQ151 ?_
       clear hQ151 Q151
       refine KQ.blk_r ?_
       refine KQ.thr hQ150 ?_
       clear hQ150 Q150
       refine KQ.then_r ?_
       refine KQ.blk_r ?_
       refine KQ.thr hQ55 ?_
       clear hQ55 Q55
       have hE := Option.some.inj hF
       clear hF
       subst hE
       replace hM := hM.pick [1, 0] rfl (by decide)
       refine KQ.rets Try.results26 (RVs.cons (RV.tm rfl) RVs.nil) ?_
       exact ⟨_, rfl, A47, c48, rfl, hM⟩
      ·rw [if_neg (ne_true hc)] at hF
       refine KC.skip ?_
       refine KQ.thn hQ151 ?_
       clear hQ151 Q151
       refine KC.region ?_
       refine RL.val (O.move rfl) rfl ?_
       refine RL.val (O.move rfl) rfl ?_
       refine obindE hF fun xv182 hx181 hF => ?_
       have hA180 := Rd.atN (f := e_table_Slot) (s := 39) (fun _ => rfl) (by decide) (hM.rd (i := 2) rfl) hx181
       refine RL.val (O.idxA sl65 (hA180) rfl rfl) rfl ?_
       refine RL.val (O.fldA fl74_0 (by decide) rfl) rfl ?_
       refine RL.effs (E.stR (enc := e_table_Slot) (j := 2) (off := 0) (vs := [Value.bool false]) (x' := (T_table_Slot.mk false xv182.f_Key xv182.f_N)) hM rfl (fun _ => rfl) hx181 sz4 rfl (addsR_eq [0] rfl) rfl rfl (One.all rfl) rfl rfl) fun w183 hM1 => ?_
       clear hM
       obtain ⟨hM, hn184⟩ := hM1
       refine RL.reslot (t := 5) rfl hn184 ?_
       refine RL.reslot (t := 76) rfl hn184 ?_
       refine RL.nil ?_
       refine KQ.blk_n ?_
       refine KQ.thn hQ150 ?_
       clear hQ150 Q150
       refine KC.region ?_
       refine RL.val (O.move rfl) rfl ?_
       refine RL.val (O.add rfl rfl) rfl ?_
       refine RL.val (O.assign rfl) rfl ?_
       refine RL.nil ?_
       refine KQ.then_k ?_
       exact fun a ha => ⟨k147, Nat.lt_succ_self k147, A141, c142, (lv143.set (i144 : Int).toNat (T_table_Slot.mk false xv182.f_Key xv182.f_N)), (IntKind.i64.wrap (i144 + 1)), ha.less (less_cons rfl (less_cons rfl (less_cons rfl (less_cons rfl less_nil)))), hM, hF⟩
    ·rw [if_neg (ne_true hc)] at hF
     refine KC.exit ?_
     refine KQ.thx hQ148 ?_
     clear hQ148 Q148
     refine KQ.then_x ?_
     refine KQ.blk_x ?_
     refine KQ.thn hQ55 ?_
     clear hQ55 Q55
     refine KC.seqH fun Q185 hQ185 => ?_
     refine KC.region ?_
     refine RL.val (O.move rfl) rfl ?_
     refine obindE hF fun y186 hx187 hF => ?_
     refine RL.call Try.func29 bd29 rfl rfl (c_table_Table_Keys _ _ _ (T_table_Table.mk p49 p50) _ _ (hM.lent [1, 0] rfl (by decide)) _ hx187) fun v w188 hv => ?_
     obtain ⟨A190, c191, A193, c194, rfl, hN189⟩ := hv
     replace hM := hM.callL [1, 0] [2] rfl rfl (by decide) rfl hN189
     refine RL.val (O.assign rfl) rfl ?_
     refine RL.nil ?_
     refine KQ.thn hQ185 ?_
     clear hQ185 Q185
     replace hM := hM.pick [1, 2, 3] rfl (by decide)
     refine KC.seqH fun Q196 hQ196 => ?_
     refine KC.seqH fun Q197 hQ197 => ?_
     refine KC.region ?_
     refine RL.val (O.move rfl) rfl ?_
     refine RL.val (O.len sl28 rfl) rfl ?_
     refine RL.val (O.move rfl) rfl ?_
     refine obindE hF fun y198 hx199 hF => ?_
     refine RL.call Try.func41 bd41 rfl rfl (c_ref23_Len _ _ _ rv8 (hM.inp hr11 ho12) _ hx199) fun v w200 hv => ?_
     obtain ⟨rfl, hN201⟩ := hv
     replace hM := hM.call0 hN201
     refine RL.val (O.neq rfl rfl) rfl ?_
     refine RL.nil ?_
     refine KQ.thn hQ197 ?_
     clear hQ197 Q197
     refine KC.cond rfl (fun hc => ?_) (fun hc => ?_)
     ·rw [if_pos hc] at hF
      refine KC.seqH fun Q202 hQ202 => ?_
      refine KC.region ?_
      refine RL.val (O.assign rfl) rfl ?_
      refine RL.nil ?_
      refine KQ.thn hQ202 ?_
      clear hQ202 Q202
      refine KC.ret ?_
      refine KQ.thr hQ196 ?_
      clear hQ196 Q196
      have hE := Option.some.inj hF
      clear hF
      subst hE
      replace hM := hM.pick [0, 1] rfl (by decide)
      refine KQ.rets Try.results26 (RVs.cons (RV.tm rfl) RVs.nil) ?_
      exact ⟨_, rfl, A190, c191, rfl, hM⟩
     ·rw [if_neg (ne_true hc)] at hF
      refine KC.skip ?_
      refine KQ.thn hQ196 ?_
      clear hQ196 Q196
      refine KC.seqH fun Q203 hQ203 => ?_
      refine KC.seqH fun Q204 hQ204 => ?_
      refine KC.region ?_
      refine RL.val (O.assign rfl) rfl ?_
      refine RL.nil ?_
      refine KQ.thn hQ204 ?_
      clear hQ204 Q204
      refine KC.block ?_
      refine KC.loop (fun k279 a w277 => ∃ (i276 : Int), Kn 122 [(1, .slice A9 (rv8).length c10), (7, .slice A193 (y186.1).length c194), (8, Value.int .i64 i276)] a ∧ Mem w [some g2, rblk A4 c5] w277 [.row A190 c191 74 39 (y186.2.f_slots).length ((y186.2.f_slots).flatMap e_table_Slot), .box g2 tg7 [.slice A190 (y186.2.f_slots).length c191, Value.int .i64 y186.2.f_many], .row A193 c194 35 37 (y186.1).length ((y186.1).flatMap e_packet_Key)] ∧ F_law23_is_L2 rv8 y186 k279 i276 = some r) ?_ ?_
      ·replace hM := hM.pick [1, 0, 2] rfl (by decide)
       exact fun a ha => ⟨fuel0, 0, ha.less (less_cons rfl (less_cons rfl (less_cons rfl less_nil))), hM, hF⟩
      ·rintro k279 a w277 ⟨i276, ha, hM, hF⟩
       refine KC.app ha ?_
       clear ha
       cases k279 with
       | zero => exact (none_some hF).elim
       | succ k279 =>
       have hF : F_law23_is_l2 (F_law23_is_L2 rv8 y186 k279) rv8 y186 i276 = some r := hF
       unfold F_law23_is_l2 at hF
       refine KC.seqH fun Q280 hQ280 => ?_
       refine KC.seqH fun Q281 hQ281 => ?_
       refine KC.region ?_
       refine RL.val (O.move rfl) rfl ?_
       refine RL.val (O.move rfl) rfl ?_
       refine RL.val (O.len sl28 rfl) rfl ?_
       refine RL.val (O.lss rfl rfl) rfl ?_
       refine RL.nil ?_
       refine KQ.thn hQ281 ?_
       clear hQ281 Q281
       refine KC.cond rfl (fun hc => ?_) (fun hc => ?_)
       ·rw [if_pos hc] at hF
        refine KC.skip ?_
        refine KQ.thn hQ280 ?_
        clear hQ280 Q280
        refine KC.seqH fun Q282 hQ282 => ?_
        refine KC.block ?_
        refine KC.seqH fun Q283 hQ283 => ?_
        refine KC.cut (fun a w306 => ∃ (t305 : Bool), Kn 122 [(1, .slice A9 (rv8).length c10), (7, .slice A193 (y186.1).length c194), (8, Value.int .i64 i276), (109, Value.bool t305)] a ∧ Mem w [some g2, rblk A4 c5] w306 [.row A190 c191 74 39 (y186.2.f_slots).length ((y186.2.f_slots).flatMap e_table_Slot), .box g2 tg7 [.slice A190 (y186.2.f_slots).length c191, Value.int .i64 y186.2.f_many], .row A193 c194 35 37 (y186.1).length ((y186.1).flatMap e_packet_Key)] ∧ F_law23_is_j3 rv8 y186 i276 (F_law23_is_L2 rv8 y186 k279) t305 = some r) ?_ ?_
        ·replace hM := hM.drewN 1
         refine KC.draw [] [] [8, 13, 14] [0, 1, 2, 3, 4, 5, 9, 10, 15, 16] (.ofList [0, 1, 2, 3, 4, 5, 6, 7, 9, 10, 11, 12, 8, 13, 14, 15, 16]) moP (by kernel_rfl) ?_
         refine RD.p rfl rfl rfl rfl (fun w' => O.move rfl) ?_
         refine RD.p rfl rfl rfl rfl (fun w' => O.gtr rfl rfl) ?_
         refine RD.p rfl rfl rfl rfl (fun w' => O.move rfl) ?_
         refine RD.bcase (t := 95) rfl (fun hc => ?_) (fun hc => ?_)
         ·rw [if_pos hc] at hF
          refine RD.gp rfl rfl rfl rfl rfl rfl (fun w' => O.move rfl) ?_
          refine RD.gp rfl rfl rfl rfl rfl rfl (fun w' => O.move rfl) ?_
          refine RD.gp rfl rfl rfl rfl rfl rfl (fun w' => O.sub rfl rfl) ?_
          refine obindE hF fun xv286 hx285 hF => ?_
          have hA284 := Rd.atN (f := e_packet_Key) (s := 37) (fun _ => rfl) (by decide) (hM.rd (i := 2) rfl) hx285
          refine RD.gq rfl rfl rfl rfl rfl rfl (fun w' hf => O.idxA sl28 (hA284.fut hf) rfl rfl) ?_
          refine RD.gq rfl rfl rfl rfl rfl rfl (fun w' hf => O.loadN (cs := [Value.bool xv286.f_Src.f_Six, o8 xv286.f_Src.f_B 0, o8 xv286.f_Src.f_B 1, o8 xv286.f_Src.f_B 2, o8 xv286.f_Src.f_B 3, o8 xv286.f_Src.f_B 4, o8 xv286.f_Src.f_B 5, o8 xv286.f_Src.f_B 6, o8 xv286.f_Src.f_B 7, o8 xv286.f_Src.f_B 8, o8 xv286.f_Src.f_B 9, o8 xv286.f_Src.f_B 10, o8 xv286.f_Src.f_B 11, o8 xv286.f_Src.f_B 12, o8 xv286.f_Src.f_B 13, o8 xv286.f_Src.f_B 14, o8 xv286.f_Src.f_B 15, Value.bool xv286.f_Dst.f_Six, o8 xv286.f_Dst.f_B 0, o8 xv286.f_Dst.f_B 1, o8 xv286.f_Dst.f_B 2, o8 xv286.f_Dst.f_B 3, o8 xv286.f_Dst.f_B 4, o8 xv286.f_Dst.f_B 5, o8 xv286.f_Dst.f_B 6, o8 xv286.f_Dst.f_B 7, o8 xv286.f_Dst.f_B 8, o8 xv286.f_Dst.f_B 9, o8 xv286.f_Dst.f_B 10, o8 xv286.f_Dst.f_B 11, o8 xv286.f_Dst.f_B 12, o8 xv286.f_Dst.f_B 13, o8 xv286.f_Dst.f_B 14, o8 xv286.f_Dst.f_B 15, Value.int .u8 xv286.f_Proto, Value.int .u16 xv286.f_SrcPort, Value.int .u16 xv286.f_DstPort]) ag35 rfl (hA284.fut hf).cells) ?_
          refine RD.gp rfl rfl rfl rfl rfl rfl (fun w' => O.move rfl) ?_
          refine RD.gp rfl rfl rfl rfl rfl rfl (fun w' => O.move rfl) ?_
          refine obindE hF fun xv289 hx288 hF => ?_
          have hA287 := Rd.atN (f := e_packet_Key) (s := 37) (fun _ => rfl) (by decide) (hM.rd (i := 2) rfl) hx288
          refine RD.gq rfl rfl rfl rfl rfl rfl (fun w' hf => O.idxA sl28 (hA287.fut hf) rfl rfl) ?_
          refine RD.gq rfl rfl rfl rfl rfl rfl (fun w' hf => O.loadN (cs := [Value.bool xv289.f_Src.f_Six, o8 xv289.f_Src.f_B 0, o8 xv289.f_Src.f_B 1, o8 xv289.f_Src.f_B 2, o8 xv289.f_Src.f_B 3, o8 xv289.f_Src.f_B 4, o8 xv289.f_Src.f_B 5, o8 xv289.f_Src.f_B 6, o8 xv289.f_Src.f_B 7, o8 xv289.f_Src.f_B 8, o8 xv289.f_Src.f_B 9, o8 xv289.f_Src.f_B 10, o8 xv289.f_Src.f_B 11, o8 xv289.f_Src.f_B 12, o8 xv289.f_Src.f_B 13, o8 xv289.f_Src.f_B 14, o8 xv289.f_Src.f_B 15, Value.bool xv289.f_Dst.f_Six, o8 xv289.f_Dst.f_B 0, o8 xv289.f_Dst.f_B 1, o8 xv289.f_Dst.f_B 2, o8 xv289.f_Dst.f_B 3, o8 xv289.f_Dst.f_B 4, o8 xv289.f_Dst.f_B 5, o8 xv289.f_Dst.f_B 6, o8 xv289.f_Dst.f_B 7, o8 xv289.f_Dst.f_B 8, o8 xv289.f_Dst.f_B 9, o8 xv289.f_Dst.f_B 10, o8 xv289.f_Dst.f_B 11, o8 xv289.f_Dst.f_B 12, o8 xv289.f_Dst.f_B 13, o8 xv289.f_Dst.f_B 14, o8 xv289.f_Dst.f_B 15, Value.int .u8 xv289.f_Proto, Value.int .u16 xv289.f_SrcPort, Value.int .u16 xv289.f_DstPort]) ag35 rfl (hA287.fut hf).cells) ?_
          refine obindE hF fun y290 hx291 hF => ?_
          refine RD.mcall rfl rfl ⟨rfl, rfl⟩ Try.func18 bd18 rfl rfl (c_docs_Key _ xv286 _ hx291) fun v w292 hv => ?_
          obtain ⟨rfl, hN293⟩ := hv
          refine ⟨fun _ => hN293.fut, ?_⟩
          replace hM := hM.call0 hN293
          refine obindE hF fun y294 hx295 hF => ?_
          refine RD.mcall rfl rfl ⟨rfl, rfl⟩ Try.func18 bd18 rfl rfl (c_docs_Key _ xv289 _ hx295) fun v w296 hv => ?_
          obtain ⟨rfl, hN297⟩ := hv
          refine ⟨fun _ => hN297.fut, ?_⟩
          replace hM := hM.call0 hN297
          refine obindE hF fun y298 hx299 hF => ?_
          refine RD.mcall rfl rfl ⟨rfl, rfl⟩ Try.func42 bd42 rfl rfl (c_ref08_Cmp _ y290 y294 _ hx299) fun v w300 hv => ?_
          obtain ⟨rfl, hN301⟩ := hv
          refine ⟨fun _ => hN301.fut, ?_⟩
          replace hM := hM.call0 hN301
          refine RD.gp rfl rfl rfl rfl rfl rfl (fun w' => O.geq rfl rfl) ?_
          refine RD.p rfl rfl rfl rfl (fun w' => O.pickt rfl rfl) ?_
          refine RD.nil ?_
          refine KQ.then_k ?_
          exact fun a ha => ⟨(decide (0 ≤ y298)), ha.less (less_cons rfl (less_cons rfl (less_cons rfl (less_cons rfl less_nil)))), hM, hF⟩
         ·rw [if_neg (ne_true hc)] at hF
          refine RD.gskip rfl rfl rfl rfl rfl ?_
          refine RD.gskip rfl rfl rfl rfl rfl ?_
          refine RD.gskip rfl rfl rfl rfl rfl ?_
          refine RD.gskip rfl rfl rfl rfl rfl ?_
          refine RD.gskip rfl rfl rfl rfl rfl ?_
          refine RD.gskip rfl rfl rfl rfl rfl ?_
          refine RD.gskip rfl rfl rfl rfl rfl ?_
          refine RD.gskip rfl rfl rfl rfl rfl ?_
          refine RD.gskip rfl rfl rfl rfl rfl ?_
          refine RD.gskip rfl rfl rfl rfl rfl ?_
          refine RD.gskip rfl rfl rfl rfl rfl ?_
          refine RD.gskip rfl rfl rfl rfl rfl ?_
          refine RD.gskip rfl rfl rfl rfl rfl ?_
          refine RD.p rfl rfl rfl rfl (fun w' => O.pickf rfl rfl) ?_
          refine RD.nil ?_
          refine KQ.then_k ?_
          exact fun a ha => ⟨false, ha.less (less_cons rfl (less_cons rfl (less_cons rfl (less_cons rfl less_nil)))), hM, hF⟩
        ·rintro a w306 ⟨t305, ha, hM, hF⟩
         refine KC.app ha ?_
         clear ha
         unfold F_law23_is_j3 at hF
         refine KC.cond rfl (fun hc => ?_) (fun hc => ?_)
         ·rw [if_pos hc] at hF
          refine KC.seqH fun Q307 hQ307 => ?_
          refine KC.region ?_
          refine RL.val (O.assign rfl) rfl ?_
          refine RL.nil ?_
          refine KQ.thn hQ307 ?_
          clear hQ307 Q307
          refine KC.ret ?_
          refine KQ.thr hQ283 ?_
          clear hQ283 Q283
          refine KQ.blk_r ?_
          refine KQ.thr hQ282 ?_
          clear hQ282 Q282
          refine KQ.then_r ?_
          refine KQ.blk_r ?_
          refine KQ.thr hQ203 ?_
          clear hQ203 Q203
          have hE := Option.some.inj hF
          clear hF
          subst hE
          replace hM := hM.pick [1, 0] rfl (by decide)
          refine KQ.rets Try.results26 (RVs.cons (RV.tm rfl) RVs.nil) ?_
          exact ⟨_, rfl, A190, c191, rfl, hM⟩
         ·rw [if_neg (ne_true hc)] at hF
          refine KC.skip ?_
          refine KQ.thn hQ283 ?_
          clear hQ283 Q283
          refine KC.seqH fun Q308 hQ308 => ?_
          refine KC.region ?_
          refine RL.val (O.move rfl) rfl ?_
          refine RL.val (O.move rfl) rfl ?_
          refine RL.val (O.move rfl) rfl ?_
          refine obindE hF fun xv311 hx310 hF => ?_
          have hA309 := Rd.atN (f := e_packet_Key) (s := 37) (fun _ => rfl) (by decide) (hM.rd (i := 2) rfl) hx310
          refine RL.val (O.idxA sl28 (hA309) rfl rfl) rfl ?_
          refine RL.val (O.loadN (cs := [Value.bool xv311.f_Src.f_Six, o8 xv311.f_Src.f_B 0, o8 xv311.f_Src.f_B 1, o8 xv311.f_Src.f_B 2, o8 xv311.f_Src.f_B 3, o8 xv311.f_Src.f_B 4, o8 xv311.f_Src.f_B 5, o8 xv311.f_Src.f_B 6, o8 xv311.f_Src.f_B 7, o8 xv311.f_Src.f_B 8, o8 xv311.f_Src.f_B 9, o8 xv311.f_Src.f_B 10, o8 xv311.f_Src.f_B 11, o8 xv311.f_Src.f_B 12, o8 xv311.f_Src.f_B 13, o8 xv311.f_Src.f_B 14, o8 xv311.f_Src.f_B 15, Value.bool xv311.f_Dst.f_Six, o8 xv311.f_Dst.f_B 0, o8 xv311.f_Dst.f_B 1, o8 xv311.f_Dst.f_B 2, o8 xv311.f_Dst.f_B 3, o8 xv311.f_Dst.f_B 4, o8 xv311.f_Dst.f_B 5, o8 xv311.f_Dst.f_B 6, o8 xv311.f_Dst.f_B 7, o8 xv311.f_Dst.f_B 8, o8 xv311.f_Dst.f_B 9, o8 xv311.f_Dst.f_B 10, o8 xv311.f_Dst.f_B 11, o8 xv311.f_Dst.f_B 12, o8 xv311.f_Dst.f_B 13, o8 xv311.f_Dst.f_B 14, o8 xv311.f_Dst.f_B 15, Value.int .u8 xv311.f_Proto, Value.int .u16 xv311.f_SrcPort, Value.int .u16 xv311.f_DstPort]) ag35 rfl (hA309).cells) rfl ?_
          refine obindE hF fun y312 hx313 hF => ?_
          refine RL.call Try.func18 bd18 rfl rfl (c_docs_Key _ xv311 _ hx313) fun v w314 hv => ?_
          obtain ⟨rfl, hN315⟩ := hv
          replace hM := hM.call0 hN315
          refine obindE hF fun y316 hx317 hF => ?_
          refine RL.call Try.func22 bd22 rfl rfl (c_ref23_Get _ _ _ rv8 (hM.inp hr11 ho12) y312 _ hx317) fun v w318 hv => ?_
          obtain ⟨rfl, hN319⟩ := hv
          replace hM := hM.call0 hN319
          refine RL.val (O.move rfl) rfl ?_
          refine RL.val (O.ext rfl rfl) rfl ?_
          refine RL.val (O.ext rfl rfl) rfl ?_
          refine RL.val (O.assign rfl) rfl ?_
          refine RL.val (O.assign rfl) rfl ?_
          refine RL.nil ?_
          refine KQ.thn hQ308 ?_
          clear hQ308 Q308
          refine KC.seqH fun Q320 hQ320 => ?_
          refine KC.region ?_
          refine RL.val (O.move rfl) rfl ?_
          refine RL.val (O.not rfl) rfl ?_
          refine RL.nil ?_
          refine KQ.thn hQ320 ?_
          clear hQ320 Q320
          refine KC.cond rfl (fun hc => ?_) (fun hc => ?_)
          ·rw [if_pos hc] at hF
           refine KC.seqH fun Q321 hQ321 => ?_
           refine KC.region ?_
           refine RL.val (O.assign rfl) rfl ?_
           refine RL.nil ?_
           refine KQ.thn hQ321 ?_
           clear hQ321 Q321
           refine KC.ret ?_
           refine KQ.blk_r ?_
           refine KQ.thr hQ282 ?_
           clear hQ282 Q282
           refine KQ.then_r ?_
           refine KQ.blk_r ?_
           refine KQ.thr hQ203 ?_
           clear hQ203 Q203
           have hE := Option.some.inj hF
           clear hF
           subst hE
           replace hM := hM.pick [1, 0] rfl (by decide)
           refine KQ.rets Try.results26 (RVs.cons (RV.tm rfl) RVs.nil) ?_
           exact ⟨_, rfl, A190, c191, rfl, hM⟩
          ·rw [if_neg (ne_true hc)] at hF
           refine KC.skip ?_
           refine KQ.blk_n ?_
           refine KQ.thn hQ282 ?_
           clear hQ282 Q282
           refine KC.region ?_
           refine RL.val (O.move rfl) rfl ?_
           refine RL.val (O.add rfl rfl) rfl ?_
           refine RL.val (O.assign rfl) rfl ?_
           refine RL.nil ?_
           refine KQ.then_k ?_
           exact fun a ha => ⟨k279, Nat.lt_succ_self k279, (IntKind.i64.wrap (i276 + 1)), ha.less (less_cons rfl (less_cons rfl (less_cons rfl less_nil))), hM, hF⟩
       ·rw [if_neg (ne_true hc)] at hF
        refine KC.exit ?_
        refine KQ.thx hQ280 ?_
        clear hQ280 Q280
        refine KQ.then_x ?_
        refine KQ.blk_x ?_
        refine KQ.thn hQ203 ?_
        clear hQ203 Q203
        refine KC.seqH fun Q322 hQ322 => ?_
        refine KC.region ?_
        refine RL.val (O.assign rfl) rfl ?_
        refine RL.nil ?_
        refine KQ.thn hQ322 ?_
        clear hQ322 Q322
        refine KC.ret ?_
        have hE := Option.some.inj hF
        clear hF
        subst hE
        replace hM := hM.pick [1, 0] rfl (by decide)
        refine KQ.rets Try.results26 (RVs.cons (RV.tm rfl) RVs.nil) ?_
        exact ⟨_, rfl, A190, c191, rfl, hM⟩
end Go.Proofs.Ytnbakndfnjflhaa
