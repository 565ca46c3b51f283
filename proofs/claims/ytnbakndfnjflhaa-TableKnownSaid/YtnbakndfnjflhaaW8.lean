/- Printed by a program of this claim: each call returns what the plain function of its name gives. -/
import Derived.Test.YtnbakndfnjflhaaW1
import Derived.Test.YtnbakndfnjflhaaW4
import Derived.Test.YtnbakndfnjflhaaW7
set_option linter.unusedVariables false
namespace Go.Proofs.Ytnbakndfnjflhaa
open Go Go.Ox Go.RowKit
set_option maxRecDepth 100000 in
set_option maxHeartbeats 40000000 in
theorem c_table_Table_Put (w : World) (g2 : Nat) (tg7 : TypeId) (t1 : T_table_Table) (A4 : Option Addr) (c5 : Nat) (hL10 : Lent w [.box g2 tg7 [.slice A4 (t1.f_slots).length c5, Value.int .i64 t1.f_many], .row A4 c5 74 39 (t1.f_slots).length ((t1.f_slots).flatMap e_table_Slot)]) (kv8 : T_packet_Key) (nv9 : Int) (r : Int × T_table_Table) (hF : F_table_Table_Put t1 kv8 nv9 = some r) :
  CallsR Try.prog 11 [.pointer (some ⟨g2, 0, none⟩), .agg #[Value.bool kv8.f_Src.f_Six, o8 kv8.f_Src.f_B 0, o8 kv8.f_Src.f_B 1, o8 kv8.f_Src.f_B 2, o8 kv8.f_Src.f_B 3, o8 kv8.f_Src.f_B 4, o8 kv8.f_Src.f_B 5, o8 kv8.f_Src.f_B 6, o8 kv8.f_Src.f_B 7, o8 kv8.f_Src.f_B 8, o8 kv8.f_Src.f_B 9, o8 kv8.f_Src.f_B 10, o8 kv8.f_Src.f_B 11, o8 kv8.f_Src.f_B 12, o8 kv8.f_Src.f_B 13, o8 kv8.f_Src.f_B 14, o8 kv8.f_Src.f_B 15, Value.bool kv8.f_Dst.f_Six, o8 kv8.f_Dst.f_B 0, o8 kv8.f_Dst.f_B 1, o8 kv8.f_Dst.f_B 2, o8 kv8.f_Dst.f_B 3, o8 kv8.f_Dst.f_B 4, o8 kv8.f_Dst.f_B 5, o8 kv8.f_Dst.f_B 6, o8 kv8.f_Dst.f_B 7, o8 kv8.f_Dst.f_B 8, o8 kv8.f_Dst.f_B 9, o8 kv8.f_Dst.f_B 10, o8 kv8.f_Dst.f_B 11, o8 kv8.f_Dst.f_B 12, o8 kv8.f_Dst.f_B 13, o8 kv8.f_Dst.f_B 14, o8 kv8.f_Dst.f_B 15, Value.int .u8 kv8.f_Proto, Value.int .u16 kv8.f_SrcPort, Value.int .u16 kv8.f_DstPort], Value.int .u64 nv9] w (fun v w' => ∃ (A0 : Option Addr) (c0 : Nat), v = Value.int .i64 r.1 ∧ Mem w [some g2, rblk A4 c5] w' [.box g2 tg7 [.slice A0 (r.2.f_slots).length c0, Value.int .i64 r.2.f_many], .row A0 c0 74 39 r.2.f_slots.length (r.2.f_slots.flatMap e_table_Slot)]) := by
 refine calls_KC Try.func11 rfl Try.ntmps11 rfl ?_
 have hM : Mem w [some g2, rblk A4 c5] w [.box g2 tg7 [.slice A4 (t1.f_slots).length c5, Value.int .i64 t1.f_many], .row A4 c5 74 39 (t1.f_slots).length ((t1.f_slots).flatMap e_table_Slot)] := Mem.lendN hL10
 unfold F_table_Table_Put at hF
 refine KC.seqH fun Q11 hQ11 => ?_
 refine KC.region ?_
 refine RL.eff (E.box (vs := [Value.bool kv8.f_Src.f_Six, o8 kv8.f_Src.f_B 0, o8 kv8.f_Src.f_B 1, o8 kv8.f_Src.f_B 2, o8 kv8.f_Src.f_B 3, o8 kv8.f_Src.f_B 4, o8 kv8.f_Src.f_B 5, o8 kv8.f_Src.f_B 6, o8 kv8.f_Src.f_B 7, o8 kv8.f_Src.f_B 8, o8 kv8.f_Src.f_B 9, o8 kv8.f_Src.f_B 10, o8 kv8.f_Src.f_B 11, o8 kv8.f_Src.f_B 12, o8 kv8.f_Src.f_B 13, o8 kv8.f_Src.f_B 14, o8 kv8.f_Src.f_B 15, Value.bool kv8.f_Dst.f_Six, o8 kv8.f_Dst.f_B 0, o8 kv8.f_Dst.f_B 1, o8 kv8.f_Dst.f_B 2, o8 kv8.f_Dst.f_B 3, o8 kv8.f_Dst.f_B 4, o8 kv8.f_Dst.f_B 5, o8 kv8.f_Dst.f_B 6, o8 kv8.f_Dst.f_B 7, o8 kv8.f_Dst.f_B 8, o8 kv8.f_Dst.f_B 9, o8 kv8.f_Dst.f_B 10, o8 kv8.f_Dst.f_B 11, o8 kv8.f_Dst.f_B 12, o8 kv8.f_Dst.f_B 13, o8 kv8.f_Dst.f_B 14, o8 kv8.f_Dst.f_B 15, Value.int .u8 kv8.f_Proto, Value.int .u16 kv8.f_SrcPort, Value.int .u16 kv8.f_DstPort]) hM rfl rfl) rfl fun v w13 hv => ?_
 clear hM
 obtain ⟨g12, rfl, hM, hf⟩ := hv
 refine RL.val (O.assign rfl) rfl ?_
 refine RL.nil ?_
 refine KQ.thn hQ11 ?_
 clear hQ11 Q11
 refine KC.seqH fun Q15 hQ15 => ?_
 refine KC.region ?_
 refine RL.val (O.move rfl) rfl ?_
 refine RL.val (O.loadN (cs := [Value.bool kv8.f_Src.f_Six, o8 kv8.f_Src.f_B 0, o8 kv8.f_Src.f_B 1, o8 kv8.f_Src.f_B 2, o8 kv8.f_Src.f_B 3, o8 kv8.f_Src.f_B 4, o8 kv8.f_Src.f_B 5, o8 kv8.f_Src.f_B 6, o8 kv8.f_Src.f_B 7, o8 kv8.f_Src.f_B 8, o8 kv8.f_Src.f_B 9, o8 kv8.f_Src.f_B 10, o8 kv8.f_Src.f_B 11, o8 kv8.f_Src.f_B 12, o8 kv8.f_Src.f_B 13, o8 kv8.f_Src.f_B 14, o8 kv8.f_Src.f_B 15, Value.bool kv8.f_Dst.f_Six, o8 kv8.f_Dst.f_B 0, o8 kv8.f_Dst.f_B 1, o8 kv8.f_Dst.f_B 2, o8 kv8.f_Dst.f_B 3, o8 kv8.f_Dst.f_B 4, o8 kv8.f_Dst.f_B 5, o8 kv8.f_Dst.f_B 6, o8 kv8.f_Dst.f_B 7, o8 kv8.f_Dst.f_B 8, o8 kv8.f_Dst.f_B 9, o8 kv8.f_Dst.f_B 10, o8 kv8.f_Dst.f_B 11, o8 kv8.f_Dst.f_B 12, o8 kv8.f_Dst.f_B 13, o8 kv8.f_Dst.f_B 14, o8 kv8.f_Dst.f_B 15, Value.int .u8 kv8.f_Proto, Value.int .u16 kv8.f_SrcPort, Value.int .u16 kv8.f_DstPort]) ag35 rfl (Cs.addsN [] ((hM.bx (i := 2) rfl)) rfl)) rfl ?_
 refine obindE hF fun y16 hx17 hF => ?_
 refine RL.call Try.func31 bd31 rfl rfl (c_table_Table_find _ _ _ t1 _ _ (hM.lent [0, 1] rfl (by decide)) kv8 _ hx17) fun v w18 hv => ?_
 obtain ⟨A20, c21, rfl, hN19⟩ := hv
 replace hM := hM.callL [0, 1] [2] rfl rfl (by decide) rfl hN19
 refine RL.val (O.move rfl) rfl ?_
 refine RL.val (O.ext rfl rfl) rfl ?_
 refine RL.val (O.ext rfl rfl) rfl ?_
 refine RL.val (O.assign rfl) rfl ?_
 refine RL.val (O.assign rfl) rfl ?_
 refine RL.nil ?_
 refine KQ.thn hQ15 ?_
 clear hQ15 Q15
 refine KC.cut (fun a w41 => ∃ (p39 : Int), Kn 51 [(0, .pointer (some ⟨g2, 0, none⟩)), (2, Value.int .u64 nv9), (4, .pointer (some ⟨g12, 0, none⟩)), (7, Value.int .i64 y16.1)] a ∧ Mem w [some g2, rblk A4 c5] w41 [.row A20 c21 74 39 (y16.2.2.f_slots).length ((y16.2.2.f_slots).flatMap e_table_Slot), .box g2 tg7 [.slice A20 (y16.2.2.f_slots).length c21, Value.int .i64 p39], .box g12 35 [Value.bool kv8.f_Src.f_Six, o8 kv8.f_Src.f_B 0, o8 kv8.f_Src.f_B 1, o8 kv8.f_Src.f_B 2, o8 kv8.f_Src.f_B 3, o8 kv8.f_Src.f_B 4, o8 kv8.f_Src.f_B 5, o8 kv8.f_Src.f_B 6, o8 kv8.f_Src.f_B 7, o8 kv8.f_Src.f_B 8, o8 kv8.f_Src.f_B 9, o8 kv8.f_Src.f_B 10, o8 kv8.f_Src.f_B 11, o8 kv8.f_Src.f_B 12, o8 kv8.f_Src.f_B 13, o8 kv8.f_Src.f_B 14, o8 kv8.f_Src.f_B 15, Value.bool kv8.f_Dst.f_Six, o8 kv8.f_Dst.f_B 0, o8 kv8.f_Dst.f_B 1, o8 kv8.f_Dst.f_B 2, o8 kv8.f_Dst.f_B 3, o8 kv8.f_Dst.f_B 4, o8 kv8.f_Dst.f_B 5, o8 kv8.f_Dst.f_B 6, o8 kv8.f_Dst.f_B 7, o8 kv8.f_Dst.f_B 8, o8 kv8.f_Dst.f_B 9, o8 kv8.f_Dst.f_B 10, o8 kv8.f_Dst.f_B 11, o8 kv8.f_Dst.f_B 12, o8 kv8.f_Dst.f_B 13, o8 kv8.f_Dst.f_B 14, o8 kv8.f_Dst.f_B 15, Value.int .u8 kv8.f_Proto, Value.int .u16 kv8.f_SrcPort, Value.int .u16 kv8.f_DstPort]] ∧ F_table_Table_Put_j1 kv8 nv9 y16 p39 = some r) ?_ ?_
 ·refine KC.block ?_
  refine KC.seqH fun Q23 hQ23 => ?_
  refine KC.region ?_
  refine RL.val (O.move rfl) rfl ?_
  refine RL.val (O.peqn Try.underlying24 rfl rfl) rfl ?_
  refine RL.val (O.assign rfl) rfl ?_
  refine RL.nil ?_
  refine KQ.thn hQ23 ?_
  clear hQ23 Q23
  refine KC.condF rfl ?_
  refine KC.seqH fun Q24 hQ24 => ?_
  refine KC.region ?_
  refine RL.val (O.loadN (cs := [Value.bool kv8.f_Src.f_Six, o8 kv8.f_Src.f_B 0, o8 kv8.f_Src.f_B 1, o8 kv8.f_Src.f_B 2, o8 kv8.f_Src.f_B 3, o8 kv8.f_Src.f_B 4, o8 kv8.f_Src.f_B 5, o8 kv8.f_Src.f_B 6, o8 kv8.f_Src.f_B 7, o8 kv8.f_Src.f_B 8, o8 kv8.f_Src.f_B 9, o8 kv8.f_Src.f_B 10, o8 kv8.f_Src.f_B 11, o8 kv8.f_Src.f_B 12, o8 kv8.f_Src.f_B 13, o8 kv8.f_Src.f_B 14, o8 kv8.f_Src.f_B 15, Value.bool kv8.f_Dst.f_Six, o8 kv8.f_Dst.f_B 0, o8 kv8.f_Dst.f_B 1, o8 kv8.f_Dst.f_B 2, o8 kv8.f_Dst.f_B 3, o8 kv8.f_Dst.f_B 4, o8 kv8.f_Dst.f_B 5, o8 kv8.f_Dst.f_B 6, o8 kv8.f_Dst.f_B 7, o8 kv8.f_Dst.f_B 8, o8 kv8.f_Dst.f_B 9, o8 kv8.f_Dst.f_B 10, o8 kv8.f_Dst.f_B 11, o8 kv8.f_Dst.f_B 12, o8 kv8.f_Dst.f_B 13, o8 kv8.f_Dst.f_B 14, o8 kv8.f_Dst.f_B 15, Value.int .u8 kv8.f_Proto, Value.int .u16 kv8.f_SrcPort, Value.int .u16 kv8.f_DstPort]) ag35 rfl (Cs.addsN [] ((hM.bx (i := 0) rfl)) rfl)) rfl ?_
  refine obindE hF fun y25 hx26 hF => ?_
  refine RL.call Try.func12 bd12 rfl rfl (c_packet_Key_Right _ kv8 _ hx26) fun v w27 hv => ?_
  obtain ⟨rfl, hN28⟩ := hv
  replace hM := hM.call0 hN28
  refine RL.val (O.not rfl) rfl ?_
  refine RL.val (O.assign rfl) rfl ?_
  refine RL.nil ?_
  refine KQ.thn hQ24 ?_
  clear hQ24 Q24
  refine KC.cond rfl (fun hc => ?_) (fun hc => ?_)
  ·rw [if_pos hc] at hF
   refine KC.seqH fun Q29 hQ29 => ?_
   refine KC.region ?_
   refine RL.val (O.assign rfl) rfl ?_
   refine RL.nil ?_
   refine KQ.thn hQ29 ?_
   clear hQ29 Q29
   refine KC.ret ?_
   refine KQ.blk_r ?_
   refine KQ.then_r ?_
   have hE := Option.some.inj hF
   clear hF
   subst hE
   replace hM := hM.pick [1, 2] rfl (by decide)
   refine KQ.rets Try.results11 (RVs.cons (RV.tm rfl) RVs.nil) ?_
   exact ⟨_, rfl, A20, c21, rfl, hM⟩
  ·rw [if_neg (ne_true hc)] at hF
   refine KC.seqH fun Q30 hQ30 => ?_
   refine KC.region ?_
   refine RL.val (O.move rfl) rfl ?_
   refine RL.val (O.lss rfl rfl) rfl ?_
   refine RL.val (O.assign rfl) rfl ?_
   refine RL.nil ?_
   refine KQ.thn hQ30 ?_
   clear hQ30 Q30
   refine KC.cond rfl (fun hc => ?_) (fun hc => ?_)
   ·rw [if_pos hc] at hF
    refine KC.seqH fun Q31 hQ31 => ?_
    refine KC.region ?_
    refine RL.val (O.assign rfl) rfl ?_
    refine RL.nil ?_
    refine KQ.thn hQ31 ?_
    clear hQ31 Q31
    refine KC.ret ?_
    refine KQ.blk_r ?_
    refine KQ.then_r ?_
    have hE := Option.some.inj hF
    clear hF
    subst hE
    replace hM := hM.pick [1, 2] rfl (by decide)
    refine KQ.rets Try.results11 (RVs.cons (RV.tm rfl) RVs.nil) ?_
    exact ⟨_, rfl, A20, c21, rfl, hM⟩
   ·rw [if_neg (ne_true hc)] at hF
    refine KC.seqH fun Q32 hQ32 => ?_
    refine KC.region ?_
    refine RL.val (O.move rfl) rfl ?_
    refine RL.val (O.nilp rfl) rfl ?_
    refine RL.val (O.fldA fl71_0 (by decide) rfl) rfl ?_
    refine RL.val (O.load sc65 rfl (Cs.adds [0] ((hM.bx (i := 1) rfl)) rfl)) rfl ?_
    refine RL.val (O.move rfl) rfl ?_
    refine obindE hF fun xv35 hx34 hF => ?_
    have hA33 := Rd.atN (f := e_table_Slot) (s := 39) (fun _ => rfl) (by decide) (hM.rd (i := 2) rfl) hx34
    refine RL.val (O.idxA sl65 (hA33) rfl rfl) rfl ?_
    refine RL.val (O.fldA fl74_0 (by decide) rfl) rfl ?_
    refine RL.val (O.load sc4 rfl (Cs.adds [0] (hA33).cells rfl)) rfl ?_
    refine RL.val (O.not rfl) rfl ?_
    refine RL.val (O.assign rfl) rfl ?_
    refine RL.nil ?_
    refine KQ.thn hQ32 ?_
    clear hQ32 Q32
    refine KC.cond rfl (fun hc => ?_) (fun hc => ?_)
    ·rw [if_pos hc] at hF
     refine KC.region ?_
     refine RL.val (O.move rfl) rfl ?_
     refine RL.val (O.nilp rfl) rfl ?_
     refine RL.val (O.fldA fl71_1 (by decide) rfl) rfl ?_
     refine RL.val (O.load sc3 rfl (Cs.adds [1] ((hM.bx (i := 1) rfl)) rfl)) rfl ?_
     refine RL.val (O.add rfl rfl) rfl ?_
     refine RL.val (O.nilp rfl) rfl ?_
     refine RL.val (O.fldA fl71_1 (by decide) rfl) rfl ?_
     refine RL.effs (E.stB (j := 1) (off := 1) (vs := [Value.int .i64 (IntKind.i64.wrap (y16.2.2.f_many + 1))]) (cs' := [.slice A20 (y16.2.2.f_slots).length c21, Value.int .i64 (IntKind.i64.wrap (y16.2.2.f_many + 1))]) hM rfl sz3 rfl (adds_eq [1] rfl) rfl rfl (One.all rfl) rfl rfl) fun w36 hM1 => ?_
     clear hM
     have hM := hM1
     clear hM1
     refine RL.nil ?_
     refine KQ.blk_n ?_
     refine KQ.then_k ?_
     replace hM := hM.pick [2, 1, 0] rfl (by decide)
     exact fun a ha => ⟨(IntKind.i64.wrap (y16.2.2.f_many + 1)), ha.less (less_cons rfl (less_cons rfl (less_cons rfl (less_cons rfl less_nil)))), hM, hF⟩
    ·rw [if_neg (ne_true hc)] at hF
     refine KC.skip ?_
     refine KQ.blk_n ?_
     refine KQ.then_k ?_
     replace hM := hM.pick [2, 1, 0] rfl (by decide)
     exact fun a ha => ⟨y16.2.2.f_many, ha.less (less_cons rfl (less_cons rfl (less_cons rfl (less_cons rfl less_nil)))), hM, hF⟩
 ·rintro a w41 ⟨p39, ha, hM, hF⟩
  refine KC.app ha ?_
  clear ha
  unfold F_table_Table_Put_j1 at hF
  refine KC.seqH fun Q42 hQ42 => ?_
  replace hM := hM.drewN 1
  refine KC.draw [] [9] [9] [0, 1, 2, 4, 6] (.ofList [0, 1, 2, 3, 4, 5, 6, 7, 8, 9]) moP (by kernel_rfl) ?_
  refine RD.p rfl rfl rfl rfl (fun w' => O.move rfl) ?_
  refine RD.p rfl rfl rfl rfl (fun w' => O.nilp rfl) ?_
  refine RD.p rfl rfl rfl rfl (fun w' => O.fldA fl71_0 (by decide) rfl) ?_
  refine RD.q rfl rfl rfl rfl (fun w' hf => O.load sc65 rfl (Cs.adds [0] ((hM.bx (i := 1) rfl).fut hf) rfl)) ?_
  refine RD.p rfl rfl rfl rfl (fun w' => O.move rfl) ?_
  refine RD.q rfl rfl rfl rfl (fun w' hf => O.loadN (cs := [Value.bool kv8.f_Src.f_Six, o8 kv8.f_Src.f_B 0, o8 kv8.f_Src.f_B 1, o8 kv8.f_Src.f_B 2, o8 kv8.f_Src.f_B 3, o8 kv8.f_Src.f_B 4, o8 kv8.f_Src.f_B 5, o8 kv8.f_Src.f_B 6, o8 kv8.f_Src.f_B 7, o8 kv8.f_Src.f_B 8, o8 kv8.f_Src.f_B 9, o8 kv8.f_Src.f_B 10, o8 kv8.f_Src.f_B 11, o8 kv8.f_Src.f_B 12, o8 kv8.f_Src.f_B 13, o8 kv8.f_Src.f_B 14, o8 kv8.f_Src.f_B 15, Value.bool kv8.f_Dst.f_Six, o8 kv8.f_Dst.f_B 0, o8 kv8.f_Dst.f_B 1, o8 kv8.f_Dst.f_B 2, o8 kv8.f_Dst.f_B 3, o8 kv8.f_Dst.f_B 4, o8 kv8.f_Dst.f_B 5, o8 kv8.f_Dst.f_B 6, o8 kv8.f_Dst.f_B 7, o8 kv8.f_Dst.f_B 8, o8 kv8.f_Dst.f_B 9, o8 kv8.f_Dst.f_B 10, o8 kv8.f_Dst.f_B 11, o8 kv8.f_Dst.f_B 12, o8 kv8.f_Dst.f_B 13, o8 kv8.f_Dst.f_B 14, o8 kv8.f_Dst.f_B 15, Value.int .u8 kv8.f_Proto, Value.int .u16 kv8.f_SrcPort, Value.int .u16 kv8.f_DstPort]) ag35 rfl (Cs.addsN [] ((hM.bx (i := 2) rfl).fut hf) rfl)) ?_
  refine RD.p rfl rfl rfl rfl (fun w' => O.move rfl) ?_
  refine RD.q rfl rfl rfl rfl (fun w' hf => O.bld (cs := [Value.bool true, Value.bool kv8.f_Src.f_Six, o8 kv8.f_Src.f_B 0, o8 kv8.f_Src.f_B 1, o8 kv8.f_Src.f_B 2, o8 kv8.f_Src.f_B 3, o8 kv8.f_Src.f_B 4, o8 kv8.f_Src.f_B 5, o8 kv8.f_Src.f_B 6, o8 kv8.f_Src.f_B 7, o8 kv8.f_Src.f_B 8, o8 kv8.f_Src.f_B 9, o8 kv8.f_Src.f_B 10, o8 kv8.f_Src.f_B 11, o8 kv8.f_Src.f_B 12, o8 kv8.f_Src.f_B 13, o8 kv8.f_Src.f_B 14, o8 kv8.f_Src.f_B 15, Value.bool kv8.f_Dst.f_Six, o8 kv8.f_Dst.f_B 0, o8 kv8.f_Dst.f_B 1, o8 kv8.f_Dst.f_B 2, o8 kv8.f_Dst.f_B 3, o8 kv8.f_Dst.f_B 4, o8 kv8.f_Dst.f_B 5, o8 kv8.f_Dst.f_B 6, o8 kv8.f_Dst.f_B 7, o8 kv8.f_Dst.f_B 8, o8 kv8.f_Dst.f_B 9, o8 kv8.f_Dst.f_B 10, o8 kv8.f_Dst.f_B 11, o8 kv8.f_Dst.f_B 12, o8 kv8.f_Dst.f_B 13, o8 kv8.f_Dst.f_B 14, o8 kv8.f_Dst.f_B 15, Value.int .u8 kv8.f_Proto, Value.int .u16 kv8.f_SrcPort, Value.int .u16 kv8.f_DstPort, Value.int .u64 nv9]) bt74 rfl (by kernel_rfl)) ?_
  refine obindE hF fun xv45 hx44 hF => ?_
  have hA43 := Rd.atN (f := e_table_Slot) (s := 39) (fun _ => rfl) (by decide) (hM.rd (i := 0) rfl) hx44
  refine RD.q rfl rfl rfl rfl (fun w' hf => O.idxA sl65 (hA43.fut hf) rfl rfl) ?_
  refine RD.meffs rfl rfl rfl (E.stR (enc := e_table_Slot) (j := 0) (off := 0) (vs := [Value.bool true, Value.bool kv8.f_Src.f_Six, o8 kv8.f_Src.f_B 0, o8 kv8.f_Src.f_B 1, o8 kv8.f_Src.f_B 2, o8 kv8.f_Src.f_B 3, o8 kv8.f_Src.f_B 4, o8 kv8.f_Src.f_B 5, o8 kv8.f_Src.f_B 6, o8 kv8.f_Src.f_B 7, o8 kv8.f_Src.f_B 8, o8 kv8.f_Src.f_B 9, o8 kv8.f_Src.f_B 10, o8 kv8.f_Src.f_B 11, o8 kv8.f_Src.f_B 12, o8 kv8.f_Src.f_B 13, o8 kv8.f_Src.f_B 14, o8 kv8.f_Src.f_B 15, Value.bool kv8.f_Dst.f_Six, o8 kv8.f_Dst.f_B 0, o8 kv8.f_Dst.f_B 1, o8 kv8.f_Dst.f_B 2, o8 kv8.f_Dst.f_B 3, o8 kv8.f_Dst.f_B 4, o8 kv8.f_Dst.f_B 5, o8 kv8.f_Dst.f_B 6, o8 kv8.f_Dst.f_B 7, o8 kv8.f_Dst.f_B 8, o8 kv8.f_Dst.f_B 9, o8 kv8.f_Dst.f_B 10, o8 kv8.f_Dst.f_B 11, o8 kv8.f_Dst.f_B 12, o8 kv8.f_Dst.f_B 13, o8 kv8.f_Dst.f_B 14, o8 kv8.f_Dst.f_B 15, Value.int .u8 kv8.f_Proto, Value.int .u16 kv8.f_SrcPort, Value.int .u16 kv8.f_DstPort, Value.int .u64 nv9]) (x' := (T_table_Slot.mk true kv8 nv9)) hM rfl (fun _ => rfl) hx44 sz74 rfl (addsR_eq [] rfl) rfl rfl (One.all rfl) rfl rfl) fun w46 hM1 => ?_
  clear hM
  obtain ⟨hM, hn47⟩ := hM1
  refine RD.reslot (t := 45) rfl hn47 ?_
  replace hM := hM.rebox (i := 1) (cs' := [.slice A20 ((y16.2.2.f_slots.set (y16.1 : Int).toNat (T_table_Slot.mk true kv8 nv9))).length c21, Value.int .i64 p39]) rfl (by rw [← hn47])
  refine RD.nil ?_
  refine KQ.thn hQ42 ?_
  clear hQ42 Q42
  refine KC.seqH fun Q48 hQ48 => ?_
  refine KC.region ?_
  refine RL.val (O.assign rfl) rfl ?_
  refine RL.nil ?_
  refine KQ.thn hQ48 ?_
  clear hQ48 Q48
  refine KC.ret ?_
  have hE := Option.some.inj hF
  clear hF
  subst hE
  replace hM := hM.pick [1, 0] rfl (by decide)
  refine KQ.rets Try.results11 (RVs.cons (RV.tm rfl) RVs.nil) ?_
  exact ⟨_, rfl, A20, c21, rfl, hM⟩
set_option maxRecDepth 100000 in
set_option maxHeartbeats 40000000 in
theorem c_table_Table_has (w : World) (g2 : Nat) (tg7 : TypeId) (t1 : T_table_Table) (A4 : Option Addr) (c5 : Nat) (hL9 : Lent w [.box g2 tg7 [.slice A4 (t1.f_slots).length c5, Value.int .i64 t1.f_many], .row A4 c5 74 39 (t1.f_slots).length ((t1.f_slots).flatMap e_table_Slot)]) (kv8 : T_packet_Key) (r : Int × T_table_Table) (hF : F_table_Table_has t1 kv8 = some r) :
  CallsR Try.prog 35 [.pointer (some ⟨g2, 0, none⟩), .agg #[Value.bool kv8.f_Src.f_Six, o8 kv8.f_Src.f_B 0, o8 kv8.f_Src.f_B 1, o8 kv8.f_Src.f_B 2, o8 kv8.f_Src.f_B 3, o8 kv8.f_Src.f_B 4, o8 kv8.f_Src.f_B 5, o8 kv8.f_Src.f_B 6, o8 kv8.f_Src.f_B 7, o8 kv8.f_Src.f_B 8, o8 kv8.f_Src.f_B 9, o8 kv8.f_Src.f_B 10, o8 kv8.f_Src.f_B 11, o8 kv8.f_Src.f_B 12, o8 kv8.f_Src.f_B 13, o8 kv8.f_Src.f_B 14, o8 kv8.f_Src.f_B 15, Value.bool kv8.f_Dst.f_Six, o8 kv8.f_Dst.f_B 0, o8 kv8.f_Dst.f_B 1, o8 kv8.f_Dst.f_B 2, o8 kv8.f_Dst.f_B 3, o8 kv8.f_Dst.f_B 4, o8 kv8.f_Dst.f_B 5, o8 kv8.f_Dst.f_B 6, o8 kv8.f_Dst.f_B 7, o8 kv8.f_Dst.f_B 8, o8 kv8.f_Dst.f_B 9, o8 kv8.f_Dst.f_B 10, o8 kv8.f_Dst.f_B 11, o8 kv8.f_Dst.f_B 12, o8 kv8.f_Dst.f_B 13, o8 kv8.f_Dst.f_B 14, o8 kv8.f_Dst.f_B 15, Value.int .u8 kv8.f_Proto, Value.int .u16 kv8.f_SrcPort, Value.int .u16 kv8.f_DstPort]] w (fun v w' => ∃ (A0 : Option Addr) (c0 : Nat), v = Value.int .i64 r.1 ∧ Mem w [some g2, rblk A4 c5] w' [.box g2 tg7 [.slice A0 (r.2.f_slots).length c0, Value.int .i64 r.2.f_many], .row A0 c0 74 39 r.2.f_slots.length (r.2.f_slots.flatMap e_table_Slot)]) := by
 refine calls_KC Try.func35 rfl Try.ntmps35 rfl ?_
 have hM : Mem w [some g2, rblk A4 c5] w [.box g2 tg7 [.slice A4 (t1.f_slots).length c5, Value.int .i64 t1.f_many], .row A4 c5 74 39 (t1.f_slots).length ((t1.f_slots).flatMap e_table_Slot)] := Mem.lendN hL9
 unfold F_table_Table_has at hF
 refine KC.seqH fun Q10 hQ10 => ?_
 refine KC.region ?_
 refine RL.eff (E.box (vs := [Value.bool kv8.f_Src.f_Six, o8 kv8.f_Src.f_B 0, o8 kv8.f_Src.f_B 1, o8 kv8.f_Src.f_B 2, o8 kv8.f_Src.f_B 3, o8 kv8.f_Src.f_B 4, o8 kv8.f_Src.f_B 5, o8 kv8.f_Src.f_B 6, o8 kv8.f_Src.f_B 7, o8 kv8.f_Src.f_B 8, o8 kv8.f_Src.f_B 9, o8 kv8.f_Src.f_B 10, o8 kv8.f_Src.f_B 11, o8 kv8.f_Src.f_B 12, o8 kv8.f_Src.f_B 13, o8 kv8.f_Src.f_B 14, o8 kv8.f_Src.f_B 15, Value.bool kv8.f_Dst.f_Six, o8 kv8.f_Dst.f_B 0, o8 kv8.f_Dst.f_B 1, o8 kv8.f_Dst.f_B 2, o8 kv8.f_Dst.f_B 3, o8 kv8.f_Dst.f_B 4, o8 kv8.f_Dst.f_B 5, o8 kv8.f_Dst.f_B 6, o8 kv8.f_Dst.f_B 7, o8 kv8.f_Dst.f_B 8, o8 kv8.f_Dst.f_B 9, o8 kv8.f_Dst.f_B 10, o8 kv8.f_Dst.f_B 11, o8 kv8.f_Dst.f_B 12, o8 kv8.f_Dst.f_B 13, o8 kv8.f_Dst.f_B 14, o8 kv8.f_Dst.f_B 15, Value.int .u8 kv8.f_Proto, Value.int .u16 kv8.f_SrcPort, Value.int .u16 kv8.f_DstPort]) hM rfl rfl) rfl fun v w12 hv => ?_
 clear hM
 obtain ⟨g11, rfl, hM, hf⟩ := hv
 refine RL.val (O.assign rfl) rfl ?_
 refine RL.nil ?_
 refine KQ.thn hQ10 ?_
 clear hQ10 Q10
 refine KC.seqH fun Q14 hQ14 => ?_
 refine KC.region ?_
 refine RL.val (O.move rfl) rfl ?_
 refine RL.val (O.loadN (cs := [Value.bool kv8.f_Src.f_Six, o8 kv8.f_Src.f_B 0, o8 kv8.f_Src.f_B 1, o8 kv8.f_Src.f_B 2, o8 kv8.f_Src.f_B 3, o8 kv8.f_Src.f_B 4, o8 kv8.f_Src.f_B 5, o8 kv8.f_Src.f_B 6, o8 kv8.f_Src.f_B 7, o8 kv8.f_Src.f_B 8, o8 kv8.f_Src.f_B 9, o8 kv8.f_Src.f_B 10, o8 kv8.f_Src.f_B 11, o8 kv8.f_Src.f_B 12, o8 kv8.f_Src.f_B 13, o8 kv8.f_Src.f_B 14, o8 kv8.f_Src.f_B 15, Value.bool kv8.f_Dst.f_Six, o8 kv8.f_Dst.f_B 0, o8 kv8.f_Dst.f_B 1, o8 kv8.f_Dst.f_B 2, o8 kv8.f_Dst.f_B 3, o8 kv8.f_Dst.f_B 4, o8 kv8.f_Dst.f_B 5, o8 kv8.f_Dst.f_B 6, o8 kv8.f_Dst.f_B 7, o8 kv8.f_Dst.f_B 8, o8 kv8.f_Dst.f_B 9, o8 kv8.f_Dst.f_B 10, o8 kv8.f_Dst.f_B 11, o8 kv8.f_Dst.f_B 12, o8 kv8.f_Dst.f_B 13, o8 kv8.f_Dst.f_B 14, o8 kv8.f_Dst.f_B 15, Value.int .u8 kv8.f_Proto, Value.int .u16 kv8.f_SrcPort, Value.int .u16 kv8.f_DstPort]) ag35 rfl (Cs.addsN [] ((hM.bx (i := 2) rfl)) rfl)) rfl ?_
 refine obindE hF fun y15 hx16 hF => ?_
 refine RL.call Try.func31 bd31 rfl rfl (c_table_Table_find _ _ _ t1 _ _ (hM.lent [0, 1] rfl (by decide)) kv8 _ hx16) fun v w17 hv => ?_
 obtain ⟨A19, c20, rfl, hN18⟩ := hv
 replace hM := hM.callL [0, 1] [2] rfl rfl (by decide) rfl hN18
 refine RL.val (O.move rfl) rfl ?_
 refine RL.val (O.ext rfl rfl) rfl ?_
 refine RL.val (O.ext rfl rfl) rfl ?_
 refine RL.val (O.assign rfl) rfl ?_
 refine RL.val (O.assign rfl) rfl ?_
 refine RL.nil ?_
 refine KQ.thn hQ14 ?_
 clear hQ14 Q14
 refine KC.seqH fun Q22 hQ22 => ?_
 refine KC.cut (fun a w29 => ∃ (t28 : Bool), Kn 27 [(5, Value.int .i64 y15.1), (25, Value.bool t28)] a ∧ Mem w [some g2, rblk A4 c5] w29 [.row A19 c20 74 39 (y15.2.2.f_slots).length ((y15.2.2.f_slots).flatMap e_table_Slot), .box g2 tg7 [.slice A19 (y15.2.2.f_slots).length c20, Value.int .i64 y15.2.2.f_many]] ∧ F_table_Table_has_j1 y15 t28 = some r) ?_ ?_
 ·refine KC.region ?_
  refine RL.val (O.move rfl) rfl ?_
  refine RL.val (O.geq rfl rfl) rfl ?_
  refine RL.val (O.move rfl) rfl ?_
  refine RL.bcase (t := 15) rfl (fun hc => ?_) (fun hc => ?_)
  ·rw [if_pos hc] at hF
   refine RL.gval rfl rfl (O.move rfl) rfl ?_
   refine RL.gval rfl rfl (O.nilp rfl) rfl ?_
   refine RL.gval rfl rfl (O.fldA fl71_0 (by decide) rfl) rfl ?_
   refine RL.gval rfl rfl (O.load sc65 rfl (Cs.adds [0] ((hM.bx (i := 1) rfl)) rfl)) rfl ?_
   refine RL.gval rfl rfl (O.move rfl) rfl ?_
   refine obindE hF fun xv25 hx24 hF => ?_
   have hA23 := Rd.atN (f := e_table_Slot) (s := 39) (fun _ => rfl) (by decide) (hM.rd (i := 2) rfl) hx24
   refine RL.gval rfl rfl (O.idxA sl65 (hA23) rfl rfl) rfl ?_
   refine RL.gval rfl rfl (O.fldA fl74_0 (by decide) rfl) rfl ?_
   refine RL.gval rfl rfl (O.load sc4 rfl (Cs.adds [0] (hA23).cells rfl)) rfl ?_
   refine RL.gval rfl rfl (O.not rfl) rfl ?_
   refine RL.val (O.pickt rfl rfl) rfl ?_
   refine RL.nil ?_
   refine KQ.then_k ?_
   replace hM := hM.pick [2, 1] rfl (by decide)
   exact fun a ha => ⟨(!xv25.f_Used), ha.less (less_cons rfl (less_cons rfl less_nil)), hM, hF⟩
  ·rw [if_neg (ne_true hc)] at hF
   refine RL.brun1 10 25 false (by kernel_rfl) ?_
   refine RL.nil ?_
   refine KQ.then_k ?_
   replace hM := hM.pick [2, 1] rfl (by decide)
   exact fun a ha => ⟨false, ha.less (less_cons rfl (less_cons rfl less_nil)), hM, hF⟩
 ·rintro a w29 ⟨t28, ha, hM, hF⟩
  refine KC.app ha ?_
  clear ha
  unfold F_table_Table_has_j1 at hF
  refine KC.cond rfl (fun hc => ?_) (fun hc => ?_)
  ·rw [if_pos hc] at hF
   refine KC.seqH fun Q30 hQ30 => ?_
   refine KC.region ?_
   refine RL.val (O.assign rfl) rfl ?_
   refine RL.nil ?_
   refine KQ.thn hQ30 ?_
   clear hQ30 Q30
   refine KC.ret ?_
   refine KQ.thr hQ22 ?_
   clear hQ22 Q22
   have hE := Option.some.inj hF
   clear hF
   subst hE
   replace hM := hM.pick [1, 0] rfl (by decide)
   refine KQ.rets Try.results35 (RVs.cons (RV.tm rfl) RVs.nil) ?_
   exact ⟨_, rfl, A19, c20, rfl, hM⟩
  ·rw [if_neg (ne_true hc)] at hF
   refine KC.skip ?_
   refine KQ.thn hQ22 ?_
   clear hQ22 Q22
   refine KC.seqH fun Q31 hQ31 => ?_
   refine KC.region ?_
   refine RL.val (O.move rfl) rfl ?_
   refine RL.val (O.assign rfl) rfl ?_
   refine RL.nil ?_
   refine KQ.thn hQ31 ?_
   clear hQ31 Q31
   refine KC.ret ?_
   have hE := Option.some.inj hF
   clear hF
   subst hE
   replace hM := hM.pick [1, 0] rfl (by decide)
   refine KQ.rets Try.results35 (RVs.cons (RV.tm rfl) RVs.nil) ?_
   exact ⟨_, rfl, A19, c20, rfl, hM⟩
set_option maxRecDepth 100000 in
set_option maxHeartbeats 40000000 in
theorem c_table_Table_Get (w : World) (g2 : Nat) (tg7 : TypeId) (t1 : T_table_Table) (A4 : Option Addr) (c5 : Nat) (hL9 : Lent w [.box g2 tg7 [.slice A4 (t1.f_slots).length c5, Value.int .i64 t1.f_many], .row A4 c5 74 39 (t1.f_slots).length ((t1.f_slots).flatMap e_table_Slot)]) (kv8 : T_packet_Key) (r : Int × Bool × T_table_Table) (hF : F_table_Table_Get t1 kv8 = some r) :
  CallsR Try.prog 15 [.pointer (some ⟨g2, 0, none⟩), .agg #[Value.bool kv8.f_Src.f_Six, o8 kv8.f_Src.f_B 0, o8 kv8.f_Src.f_B 1, o8 kv8.f_Src.f_B 2, o8 kv8.f_Src.f_B 3, o8 kv8.f_Src.f_B 4, o8 kv8.f_Src.f_B 5, o8 kv8.f_Src.f_B 6, o8 kv8.f_Src.f_B 7, o8 kv8.f_Src.f_B 8, o8 kv8.f_Src.f_B 9, o8 kv8.f_Src.f_B 10, o8 kv8.f_Src.f_B 11, o8 kv8.f_Src.f_B 12, o8 kv8.f_Src.f_B 13, o8 kv8.f_Src.f_B 14, o8 kv8.f_Src.f_B 15, Value.bool kv8.f_Dst.f_Six, o8 kv8.f_Dst.f_B 0, o8 kv8.f_Dst.f_B 1, o8 kv8.f_Dst.f_B 2, o8 kv8.f_Dst.f_B 3, o8 kv8.f_Dst.f_B 4, o8 kv8.f_Dst.f_B 5, o8 kv8.f_Dst.f_B 6, o8 kv8.f_Dst.f_B 7, o8 kv8.f_Dst.f_B 8, o8 kv8.f_Dst.f_B 9, o8 kv8.f_Dst.f_B 10, o8 kv8.f_Dst.f_B 11, o8 kv8.f_Dst.f_B 12, o8 kv8.f_Dst.f_B 13, o8 kv8.f_Dst.f_B 14, o8 kv8.f_Dst.f_B 15, Value.int .u8 kv8.f_Proto, Value.int .u16 kv8.f_SrcPort, Value.int .u16 kv8.f_DstPort]] w (fun v w' => ∃ (A0 : Option Addr) (c0 : Nat), v = .tuple #[Value.int .u64 r.1, Value.bool r.2.1] ∧ Mem w [some g2, rblk A4 c5] w' [.box g2 tg7 [.slice A0 (r.2.2.f_slots).length c0, Value.int .i64 r.2.2.f_many], .row A0 c0 74 39 r.2.2.f_slots.length (r.2.2.f_slots.flatMap e_table_Slot)]) := by
 refine calls_KC Try.func15 rfl Try.ntmps15 rfl ?_
 have hM : Mem w [some g2, rblk A4 c5] w [.box g2 tg7 [.slice A4 (t1.f_slots).length c5, Value.int .i64 t1.f_many], .row A4 c5 74 39 (t1.f_slots).length ((t1.f_slots).flatMap e_table_Slot)] := Mem.lendN hL9
 unfold F_table_Table_Get at hF
 refine KC.seqH fun Q10 hQ10 => ?_
 refine KC.region ?_
 refine RL.eff (E.box (vs := [Value.bool kv8.f_Src.f_Six, o8 kv8.f_Src.f_B 0, o8 kv8.f_Src.f_B 1, o8 kv8.f_Src.f_B 2, o8 kv8.f_Src.f_B 3, o8 kv8.f_Src.f_B 4, o8 kv8.f_Src.f_B 5, o8 kv8.f_Src.f_B 6, o8 kv8.f_Src.f_B 7, o8 kv8.f_Src.f_B 8, o8 kv8.f_Src.f_B 9, o8 kv8.f_Src.f_B 10, o8 kv8.f_Src.f_B 11, o8 kv8.f_Src.f_B 12, o8 kv8.f_Src.f_B 13, o8 kv8.f_Src.f_B 14, o8 kv8.f_Src.f_B 15, Value.bool kv8.f_Dst.f_Six, o8 kv8.f_Dst.f_B 0, o8 kv8.f_Dst.f_B 1, o8 kv8.f_Dst.f_B 2, o8 kv8.f_Dst.f_B 3, o8 kv8.f_Dst.f_B 4, o8 kv8.f_Dst.f_B 5, o8 kv8.f_Dst.f_B 6, o8 kv8.f_Dst.f_B 7, o8 kv8.f_Dst.f_B 8, o8 kv8.f_Dst.f_B 9, o8 kv8.f_Dst.f_B 10, o8 kv8.f_Dst.f_B 11, o8 kv8.f_Dst.f_B 12, o8 kv8.f_Dst.f_B 13, o8 kv8.f_Dst.f_B 14, o8 kv8.f_Dst.f_B 15, Value.int .u8 kv8.f_Proto, Value.int .u16 kv8.f_SrcPort, Value.int .u16 kv8.f_DstPort]) hM rfl rfl) rfl fun v w12 hv => ?_
 clear hM
 obtain ⟨g11, rfl, hM, hf⟩ := hv
 refine RL.val (O.assign rfl) rfl ?_
 refine RL.val (O.assign rfl) rfl ?_
 refine RL.nil ?_
 refine KQ.thn hQ10 ?_
 clear hQ10 Q10
 refine KC.seqH fun Q14 hQ14 => ?_
 refine KC.region ?_
 refine RL.val (O.move rfl) rfl ?_
 refine RL.val (O.loadN (cs := [Value.bool kv8.f_Src.f_Six, o8 kv8.f_Src.f_B 0, o8 kv8.f_Src.f_B 1, o8 kv8.f_Src.f_B 2, o8 kv8.f_Src.f_B 3, o8 kv8.f_Src.f_B 4, o8 kv8.f_Src.f_B 5, o8 kv8.f_Src.f_B 6, o8 kv8.f_Src.f_B 7, o8 kv8.f_Src.f_B 8, o8 kv8.f_Src.f_B 9, o8 kv8.f_Src.f_B 10, o8 kv8.f_Src.f_B 11, o8 kv8.f_Src.f_B 12, o8 kv8.f_Src.f_B 13, o8 kv8.f_Src.f_B 14, o8 kv8.f_Src.f_B 15, Value.bool kv8.f_Dst.f_Six, o8 kv8.f_Dst.f_B 0, o8 kv8.f_Dst.f_B 1, o8 kv8.f_Dst.f_B 2, o8 kv8.f_Dst.f_B 3, o8 kv8.f_Dst.f_B 4, o8 kv8.f_Dst.f_B 5, o8 kv8.f_Dst.f_B 6, o8 kv8.f_Dst.f_B 7, o8 kv8.f_Dst.f_B 8, o8 kv8.f_Dst.f_B 9, o8 kv8.f_Dst.f_B 10, o8 kv8.f_Dst.f_B 11, o8 kv8.f_Dst.f_B 12, o8 kv8.f_Dst.f_B 13, o8 kv8.f_Dst.f_B 14, o8 kv8.f_Dst.f_B 15, Value.int .u8 kv8.f_Proto, Value.int .u16 kv8.f_SrcPort, Value.int .u16 kv8.f_DstPort]) ag35 rfl (Cs.addsN [] ((hM.bx (i := 2) rfl)) rfl)) rfl ?_
 refine obindE hF fun y15 hx16 hF => ?_
 refine RL.call Try.func35 bd35 rfl rfl (c_table_Table_has _ _ _ t1 _ _ (hM.lent [0, 1] rfl (by decide)) kv8 _ hx16) fun v w17 hv => ?_
 obtain ⟨A19, c20, rfl, hN18⟩ := hv
 replace hM := hM.callL [0, 1] [2] rfl rfl (by decide) rfl hN18
 refine RL.val (O.assign rfl) rfl ?_
 refine RL.nil ?_
 refine KQ.thn hQ14 ?_
 clear hQ14 Q14
 refine KC.seqH fun Q22 hQ22 => ?_
 refine KC.seqH fun Q23 hQ23 => ?_
 refine KC.region ?_
 refine RL.val (O.move rfl) rfl ?_
 refine RL.val (O.lss rfl rfl) rfl ?_
 refine RL.nil ?_
 refine KQ.thn hQ23 ?_
 clear hQ23 Q23
 refine KC.cond rfl (fun hc => ?_) (fun hc => ?_)
 ·rw [if_pos hc] at hF
  refine KC.seqH fun Q24 hQ24 => ?_
  refine KC.region ?_
  refine RL.val (O.assign rfl) rfl ?_
  refine RL.val (O.assign rfl) rfl ?_
  refine RL.nil ?_
  refine KQ.thn hQ24 ?_
  clear hQ24 Q24
  refine KC.ret ?_
  refine KQ.thr hQ22 ?_
  clear hQ22 Q22
  have hE := Option.some.inj hF
  clear hF
  subst hE
  replace hM := hM.pick [1, 2] rfl (by decide)
  refine KQ.rets Try.results15 (RVs.cons (RV.tm rfl) (RVs.cons (RV.tm rfl) RVs.nil)) ?_
  exact ⟨_, rfl, A19, c20, rfl, hM⟩
 ·rw [if_neg (ne_true hc)] at hF
  refine KC.skip ?_
  refine KQ.thn hQ22 ?_
  clear hQ22 Q22
  refine KC.seqH fun Q25 hQ25 => ?_
  refine KC.region ?_
  refine RL.val (O.move rfl) rfl ?_
  refine RL.val (O.nilp rfl) rfl ?_
  refine RL.val (O.fldA fl71_0 (by decide) rfl) rfl ?_
  refine RL.val (O.load sc65 rfl (Cs.adds [0] ((hM.bx (i := 1) rfl)) rfl)) rfl ?_
  refine RL.val (O.move rfl) rfl ?_
  refine obindE hF fun xv28 hx27 hF => ?_
  have hA26 := Rd.atN (f := e_table_Slot) (s := 39) (fun _ => rfl) (by decide) (hM.rd (i := 2) rfl) hx27
  refine RL.val (O.idxA sl65 (hA26) rfl rfl) rfl ?_
  refine RL.val (O.fldA fl74_2 (by decide) rfl) rfl ?_
  refine RL.val (O.load sc36 rfl (Cs.adds [38] (hA26).cells rfl)) rfl ?_
  refine RL.val (O.assign rfl) rfl ?_
  refine RL.val (O.assign rfl) rfl ?_
  refine RL.nil ?_
  refine KQ.thn hQ25 ?_
  clear hQ25 Q25
  refine KC.ret ?_
  have hE := Option.some.inj hF
  clear hF
  subst hE
  replace hM := hM.pick [1, 2] rfl (by decide)
  refine KQ.rets Try.results15 (RVs.cons (RV.tm rfl) (RVs.cons (RV.tm rfl) RVs.nil)) ?_
  exact ⟨_, rfl, A19, c20, rfl, hM⟩
end Go.Proofs.Ytnbakndfnjflhaa
