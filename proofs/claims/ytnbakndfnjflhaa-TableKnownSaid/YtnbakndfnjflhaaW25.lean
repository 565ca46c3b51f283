/- Printed by a program of this claim: each call returns what the plain function of its name gives. -/
import Derived.Test.YtnbakndfnjflhaaW1
import Derived.Test.YtnbakndfnjflhaaW2
import Derived.Test.YtnbakndfnjflhaaW11
import Derived.Test.YtnbakndfnjflhaaW13
import Derived.Test.YtnbakndfnjflhaaW22
import Derived.Test.YtnbakndfnjflhaaW24
set_option linter.unusedVariables false
namespace Go.Proofs.Ytnbakndfnjflhaa
open Go Go.Ox Go.RowKit
set_option maxRecDepth 100000 in
set_option maxHeartbeats 40000000 in
theorem c_law23_TableKnown (w : World) (r : Bool) (hF : F_law23_TableKnown = some r) :
  CallsR Try.prog 6 [] w (fun v w' => v = Value.bool r ∧ Mem w [] w' []) := by
 refine calls_KC Try.func6 rfl Try.ntmps6 rfl ?_
 have hM := Mem.init w
 unfold F_law23_TableKnown at hF
 refine KC.seqH fun Q1 hQ1 => ?_
 refine KC.region ?_
 refine RL.val (O.assign rfl) rfl ?_
 refine RL.nil ?_
 refine KQ.thn hQ1 ?_
 clear hQ1 Q1
 refine KC.seqH fun Q2 hQ2 => ?_
 refine KC.seqH fun Q3 hQ3 => ?_
 refine KC.region ?_
 refine RL.val (O.assign rfl) rfl ?_
 refine RL.nil ?_
 refine KQ.thn hQ3 ?_
 clear hQ3 Q3
 refine KC.block ?_
 refine KC.loop (fun k586 a w584 => ∃ (i583 : Int), Kn 135 [(1, Value.int .i64 i583)] a ∧ Mem w [] w584 [] ∧ F_law23_TableKnown_L1 k586 i583 = some r) ?_ ?_
 ·exact fun a ha => ⟨fuel0, 0, ha.less (less_cons rfl less_nil), hM, hF⟩
 ·rintro k586 a w584 ⟨i583, ha, hM, hF⟩
  refine KC.app ha ?_
  clear ha
  cases k586 with
  | zero => exact (none_some hF).elim
  | succ k586 =>
  have hF : F_law23_TableKnown_l1 (F_law23_TableKnown_L1 k586) i583 = some r := hF
  unfold F_law23_TableKnown_l1 at hF
  refine KC.seqH fun Q587 hQ587 => ?_
  refine KC.seqH fun Q588 hQ588 => ?_
  refine KC.region ?_
  refine RL.val (O.move rfl) rfl ?_
  refine RL.val (O.lss rfl rfl) rfl ?_
  refine RL.nil ?_
  refine KQ.thn hQ588 ?_
  clear hQ588 Q588
  refine KC.cond rfl (fun hc => ?_) (fun hc => ?_)
  ·rw [if_pos hc] at hF
   refine KC.skip ?_
   refine KQ.thn hQ587 ?_
   clear hQ587 Q587
   refine KC.seqH fun Q589 hQ589 => ?_
   refine KC.block ?_
   refine KC.seqH fun Q590 hQ590 => ?_
   refine KC.region ?_
   refine RL.val (O.assign rfl) rfl ?_
   refine RL.nil ?_
   refine KQ.thn hQ590 ?_
   clear hQ590 Q590
   refine KC.seqH fun Q591 hQ591 => ?_
   refine KC.region ?_
   refine RL.val (O.move rfl) rfl ?_
   refine RL.val (O.assign rfl) rfl ?_
   refine RL.nil ?_
   refine KQ.thn hQ591 ?_
   clear hQ591 Q591
   refine KC.seqH fun Q592 hQ592 => ?_
   refine KC.seqH fun Q593 hQ593 => ?_
   refine KC.region ?_
   refine RL.val (O.assign rfl) rfl ?_
   refine RL.nil ?_
   refine KQ.thn hQ593 ?_
   clear hQ593 Q593
   refine KC.block ?_
   refine KC.loop (fun k667 a w665 => ∃ (A660 : Option Addr) (c661 : Nat) (lv662 : List T_law23_Act) (kv663 : Int) (nv664 : Int), Kn 135 [(1, Value.int .i64 i583), (2, .slice A660 (lv662).length c661), (3, Value.int .i64 kv663), (4, Value.int .i64 nv664)] a ∧ Mem w [] w665 [.row A660 c661 38 39 (lv662).length ((lv662).flatMap e_law23_Act)] ∧ F_law23_TableKnown_L2 i583 (F_law23_TableKnown_L1 k586) k667 lv662 kv663 nv664 = some r) ?_ ?_
   ·replace hM := hM.nilrow 38 39
    exact fun a ha => ⟨fuel0, none, 0, ([]), i583, 0, ha.less (less_cons rfl (less_cons rfl (less_cons rfl (less_cons rfl less_nil)))), hM, hF⟩
   ·rintro k667 a w665 ⟨A660, c661, lv662, kv663, nv664, ha, hM, hF⟩
    refine KC.app ha ?_
    clear ha
    cases k667 with
    | zero => exact (none_some hF).elim
    | succ k667 =>
    have hF : F_law23_TableKnown_l2 (F_law23_TableKnown_L2 i583 (F_law23_TableKnown_L1 k586) k667) i583 (F_law23_TableKnown_L1 k586) lv662 kv663 nv664 = some r := hF
    unfold F_law23_TableKnown_l2 at hF
    refine KC.seqH fun Q668 hQ668 => ?_
    refine KC.seqH fun Q669 hQ669 => ?_
    refine KC.region ?_
    refine RL.val (O.move rfl) rfl ?_
    refine RL.val (O.lss rfl rfl) rfl ?_
    refine RL.nil ?_
    refine KQ.thn hQ669 ?_
    clear hQ669 Q669
    refine KC.cond rfl (fun hc => ?_) (fun hc => ?_)
    ·rw [if_pos hc] at hF
     refine KC.skip ?_
     refine KQ.thn hQ668 ?_
     clear hQ668 Q668
     refine KC.seqH fun Q670 hQ670 => ?_
     refine KC.block ?_
     refine KC.seqH fun Q671 hQ671 => ?_
     refine KC.region ?_
     refine RL.val (O.move rfl) rfl ?_
     refine RL.val (O.quo rfl rfl (by decide)) rfl ?_
     refine RL.val (O.move rfl) rfl ?_
     refine RL.val (O.add rfl rfl) rfl ?_
     refine cut_someE hF fun hq672 hF => ?_
     refine RL.val (O.rem rfl rfl (of_decide_eq_true hq672)) rfl ?_
     refine obindE hF fun y673 hx674 hF => ?_
     refine RL.call Try.func30 bd30 rfl rfl (c_law23_key _ (Int.tmod (IntKind.i64.wrap (Int.tdiv kv663 8)) (IntKind.i64.wrap (5 + i583))) _ hx674) fun v w675 hv => ?_
     obtain ⟨rfl, hN676⟩ := hv
     replace hM := hM.call0 hN676
     refine RL.eff (E.alloc hM ze35) rfl fun v w678 hv => ?_
     clear hM
     obtain ⟨g677, rfl, hM, hf⟩ := hv
     refine RL.effs (E.stB (j := 1) (off := 0) (vs := [Value.bool y673.f_Src.f_Six, o8 y673.f_Src.f_B 0, o8 y673.f_Src.f_B 1, o8 y673.f_Src.f_B 2, o8 y673.f_Src.f_B 3, o8 y673.f_Src.f_B 4, o8 y673.f_Src.f_B 5, o8 y673.f_Src.f_B 6, o8 y673.f_Src.f_B 7, o8 y673.f_Src.f_B 8, o8 y673.f_Src.f_B 9, o8 y673.f_Src.f_B 10, o8 y673.f_Src.f_B 11, o8 y673.f_Src.f_B 12, o8 y673.f_Src.f_B 13, o8 y673.f_Src.f_B 14, o8 y673.f_Src.f_B 15, Value.bool y673.f_Dst.f_Six, o8 y673.f_Dst.f_B 0, o8 y673.f_Dst.f_B 1, o8 y673.f_Dst.f_B 2, o8 y673.f_Dst.f_B 3, o8 y673.f_Dst.f_B 4, o8 y673.f_Dst.f_B 5, o8 y673.f_Dst.f_B 6, o8 y673.f_Dst.f_B 7, o8 y673.f_Dst.f_B 8, o8 y673.f_Dst.f_B 9, o8 y673.f_Dst.f_B 10, o8 y673.f_Dst.f_B 11, o8 y673.f_Dst.f_B 12, o8 y673.f_Dst.f_B 13, o8 y673.f_Dst.f_B 14, o8 y673.f_Dst.f_B 15, Value.int .u8 y673.f_Proto, Value.int .u16 y673.f_SrcPort, Value.int .u16 y673.f_DstPort]) (cs' := [Value.bool y673.f_Src.f_Six, o8 y673.f_Src.f_B 0, o8 y673.f_Src.f_B 1, o8 y673.f_Src.f_B 2, o8 y673.f_Src.f_B 3, o8 y673.f_Src.f_B 4, o8 y673.f_Src.f_B 5, o8 y673.f_Src.f_B 6, o8 y673.f_Src.f_B 7, o8 y673.f_Src.f_B 8, o8 y673.f_Src.f_B 9, o8 y673.f_Src.f_B 10, o8 y673.f_Src.f_B 11, o8 y673.f_Src.f_B 12, o8 y673.f_Src.f_B 13, o8 y673.f_Src.f_B 14, o8 y673.f_Src.f_B 15, Value.bool y673.f_Dst.f_Six, o8 y673.f_Dst.f_B 0, o8 y673.f_Dst.f_B 1, o8 y673.f_Dst.f_B 2, o8 y673.f_Dst.f_B 3, o8 y673.f_Dst.f_B 4, o8 y673.f_Dst.f_B 5, o8 y673.f_Dst.f_B 6, o8 y673.f_Dst.f_B 7, o8 y673.f_Dst.f_B 8, o8 y673.f_Dst.f_B 9, o8 y673.f_Dst.f_B 10, o8 y673.f_Dst.f_B 11, o8 y673.f_Dst.f_B 12, o8 y673.f_Dst.f_B 13, o8 y673.f_Dst.f_B 14, o8 y673.f_Dst.f_B 15, Value.int .u8 y673.f_Proto, Value.int .u16 y673.f_SrcPort, Value.int .u16 y673.f_DstPort]) hM rfl sz35 rfl (adds_eq [] rfl) rfl rfl (One.all rfl) rfl rfl) fun w680 hM1 => ?_
     clear hM
     have hM := hM1
     clear hM1
     refine RL.nil ?_
     refine KQ.thn hQ671 ?_
     clear hQ671 Q671
     refine KC.cut (fun a w688 => ∃ (xv687 : List Int), Kn 135 [(1, Value.int .i64 i583), (2, .slice A660 (lv662).length c661), (3, Value.int .i64 kv663), (4, Value.int .i64 nv664), (5, .pointer (some ⟨g677, 0, none⟩))] a ∧ Mem w [] w688 [.row A660 c661 38 39 (lv662).length ((lv662).flatMap e_law23_Act), .box g677 35 [Value.bool y673.f_Src.f_Six, o8 xv687 0, o8 xv687 1, o8 xv687 2, o8 xv687 3, o8 xv687 4, o8 xv687 5, o8 xv687 6, o8 xv687 7, o8 xv687 8, o8 xv687 9, o8 xv687 10, o8 xv687 11, o8 xv687 12, o8 xv687 13, o8 xv687 14, o8 xv687 15, Value.bool y673.f_Dst.f_Six, o8 y673.f_Dst.f_B 0, o8 y673.f_Dst.f_B 1, o8 y673.f_Dst.f_B 2, o8 y673.f_Dst.f_B 3, o8 y673.f_Dst.f_B 4, o8 y673.f_Dst.f_B 5, o8 y673.f_Dst.f_B 6, o8 y673.f_Dst.f_B 7, o8 y673.f_Dst.f_B 8, o8 y673.f_Dst.f_B 9, o8 y673.f_Dst.f_B 10, o8 y673.f_Dst.f_B 11, o8 y673.f_Dst.f_B 12, o8 y673.f_Dst.f_B 13, o8 y673.f_Dst.f_B 14, o8 y673.f_Dst.f_B 15, Value.int .u8 y673.f_Proto, Value.int .u16 y673.f_SrcPort, Value.int .u16 y673.f_DstPort]] ∧ F_law23_TableKnown_j1 lv662 kv663 nv664 (F_law23_TableKnown_L2 i583 (F_law23_TableKnown_L1 k586) k667) y673 xv687 = some r) ?_ ?_
     ·refine KC.seqH fun Q681 hQ681 => ?_
      refine KC.region ?_
      refine RL.val (O.move rfl) rfl ?_
      refine RL.val (O.rem rfl rfl (by decide)) rfl ?_
      refine RL.val (O.eql rfl rfl) rfl ?_
      refine RL.nil ?_
      refine KQ.thn hQ681 ?_
      clear hQ681 Q681
      refine KC.cond rfl (fun hc => ?_) (fun hc => ?_)
      ·rw [if_pos hc] at hF
       refine KC.region ?_
       refine RL.val (O.fldA fl35_0 (by decide) rfl) rfl ?_
       refine RL.val (O.fldA fl32_1 (by decide) rfl) rfl ?_
       refine obindE hF fun xv683 hx682 hF => ?_
       refine RL.val (O.idxP Try.underlying30 sz5 hx682 rfl rfl) rfl ?_
       refine RL.effs (E.stA (j := 1) (off := 1) (nn := 16) (p := 9) (u := 1) (k := .u8) (xs := y673.f_Src.f_B) (cs' := [Value.bool y673.f_Src.f_Six, o8 (setA 16 y673.f_Src.f_B 9 1) 0, o8 (setA 16 y673.f_Src.f_B 9 1) 1, o8 (setA 16 y673.f_Src.f_B 9 1) 2, o8 (setA 16 y673.f_Src.f_B 9 1) 3, o8 (setA 16 y673.f_Src.f_B 9 1) 4, o8 (setA 16 y673.f_Src.f_B 9 1) 5, o8 (setA 16 y673.f_Src.f_B 9 1) 6, o8 (setA 16 y673.f_Src.f_B 9 1) 7, o8 (setA 16 y673.f_Src.f_B 9 1) 8, o8 (setA 16 y673.f_Src.f_B 9 1) 9, o8 (setA 16 y673.f_Src.f_B 9 1) 10, o8 (setA 16 y673.f_Src.f_B 9 1) 11, o8 (setA 16 y673.f_Src.f_B 9 1) 12, o8 (setA 16 y673.f_Src.f_B 9 1) 13, o8 (setA 16 y673.f_Src.f_B 9 1) 14, o8 (setA 16 y673.f_Src.f_B 9 1) 15, Value.bool y673.f_Dst.f_Six, o8 y673.f_Dst.f_B 0, o8 y673.f_Dst.f_B 1, o8 y673.f_Dst.f_B 2, o8 y673.f_Dst.f_B 3, o8 y673.f_Dst.f_B 4, o8 y673.f_Dst.f_B 5, o8 y673.f_Dst.f_B 6, o8 y673.f_Dst.f_B 7, o8 y673.f_Dst.f_B 8, o8 y673.f_Dst.f_B 9, o8 y673.f_Dst.f_B 10, o8 y673.f_Dst.f_B 11, o8 y673.f_Dst.f_B 12, o8 y673.f_Dst.f_B 13, o8 y673.f_Dst.f_B 14, o8 y673.f_Dst.f_B 15, Value.int .u8 y673.f_Proto, Value.int .u16 y673.f_SrcPort, Value.int .u16 y673.f_DstPort]) hM rfl sz5 rfl (congrArg (fun q => Addr.add q (Int.toNat 9 * 1)) (adds_eq [0, 1] rfl)) rfl hx682 rfl rfl rfl) fun w684 hM1 => ?_
       clear hM
       have hM := hM1
       clear hM1
       refine RL.nil ?_
       refine KQ.then_k ?_
       exact fun a ha => ⟨(setA 16 y673.f_Src.f_B 9 1), ha.less (less_cons rfl (less_cons rfl (less_cons rfl (less_cons rfl (less_cons rfl less_nil))))), hM, hF⟩
      ·rw [if_neg (ne_true hc)] at hF
       refine KC.skip ?_
       refine KQ.then_k ?_
       exact fun a ha => ⟨y673.f_Src.f_B, ha.less (less_cons rfl (less_cons rfl (less_cons rfl (less_cons rfl (less_cons rfl less_nil))))), hM, hF⟩
     ·rintro a w688 ⟨xv687, ha, hM, hF⟩
      refine KC.app ha ?_
      clear ha
      unfold F_law23_TableKnown_j1 at hF
      refine KC.seqH fun Q689 hQ689 => ?_
      refine KC.region ?_
      refine RL.val (O.move rfl) rfl ?_
      refine RL.val (O.move rfl) rfl ?_
      refine RL.val (O.rem rfl rfl (by decide)) rfl ?_
      refine RL.val (O.loadN (cs := [Value.bool y673.f_Src.f_Six, o8 xv687 0, o8 xv687 1, o8 xv687 2, o8 xv687 3, o8 xv687 4, o8 xv687 5, o8 xv687 6, o8 xv687 7, o8 xv687 8, o8 xv687 9, o8 xv687 10, o8 xv687 11, o8 xv687 12, o8 xv687 13, o8 xv687 14, o8 xv687 15, Value.bool y673.f_Dst.f_Six, o8 y673.f_Dst.f_B 0, o8 y673.f_Dst.f_B 1, o8 y673.f_Dst.f_B 2, o8 y673.f_Dst.f_B 3, o8 y673.f_Dst.f_B 4, o8 y673.f_Dst.f_B 5, o8 y673.f_Dst.f_B 6, o8 y673.f_Dst.f_B 7, o8 y673.f_Dst.f_B 8, o8 y673.f_Dst.f_B 9, o8 y673.f_Dst.f_B 10, o8 y673.f_Dst.f_B 11, o8 y673.f_Dst.f_B 12, o8 y673.f_Dst.f_B 13, o8 y673.f_Dst.f_B 14, o8 y673.f_Dst.f_B 15, Value.int .u8 y673.f_Proto, Value.int .u16 y673.f_SrcPort, Value.int .u16 y673.f_DstPort]) ag35 rfl (Cs.addsN [] ((hM.bx (i := 1) rfl)) rfl)) rfl ?_
      refine RL.val (O.move rfl) rfl ?_
      refine RL.val (O.rem rfl rfl (by decide)) rfl ?_
      refine RL.val (O.conv un3 Try.underlying36 rfl) rfl ?_
      refine RL.val (O.bld (cs := [Value.int .i64 (Int.tmod kv663 8), Value.bool y673.f_Src.f_Six, o8 xv687 0, o8 xv687 1, o8 xv687 2, o8 xv687 3, o8 xv687 4, o8 xv687 5, o8 xv687 6, o8 xv687 7, o8 xv687 8, o8 xv687 9, o8 xv687 10, o8 xv687 11, o8 xv687 12, o8 xv687 13, o8 xv687 14, o8 xv687 15, Value.bool y673.f_Dst.f_Six, o8 y673.f_Dst.f_B 0, o8 y673.f_Dst.f_B 1, o8 y673.f_Dst.f_B 2, o8 y673.f_Dst.f_B 3, o8 y673.f_Dst.f_B 4, o8 y673.f_Dst.f_B 5, o8 y673.f_Dst.f_B 6, o8 y673.f_Dst.f_B 7, o8 y673.f_Dst.f_B 8, o8 y673.f_Dst.f_B 9, o8 y673.f_Dst.f_B 10, o8 y673.f_Dst.f_B 11, o8 y673.f_Dst.f_B 12, o8 y673.f_Dst.f_B 13, o8 y673.f_Dst.f_B 14, o8 y673.f_Dst.f_B 15, Value.int .u8 y673.f_Proto, Value.int .u16 y673.f_SrcPort, Value.int .u16 y673.f_DstPort, Value.int .u64 (IntKind.u64.wrap (Int.tmod kv663 50))]) bt38 rfl (by kernel_rfl)) rfl ?_
      refine RL.eff (E.bsl (enc := e_law23_Act) (xs := ([(T_law23_Act.mk (Int.tmod kv663 8) (T_packet_Key.mk (T_addr_Addr.mk y673.f_Src.f_Six xv687) y673.f_Dst y673.f_Proto y673.f_SrcPort y673.f_DstPort) (IntKind.u64.wrap (Int.tmod kv663 50)))] : List T_law23_Act)) hM sl22 ze38 rfl rfl rfl (fun _ => rfl) rfl (by kernel_rfl) rfl) rfl fun v w690 hv => ?_
      clear hM
      obtain ⟨A691, rfl, hM, hf⟩ := hv
      refine cut_someE hF fun hq696 hF => ?_
      refine RL.eff (E.app (enc := e_law23_Act) (xs := lv662) (ys := ([(T_law23_Act.mk (Int.tmod kv663 8) (T_packet_Key.mk (T_addr_Addr.mk y673.f_Src.f_Six xv687) y673.f_Dst y673.f_Proto y673.f_SrcPort y673.f_DstPort) (IntKind.u64.wrap (Int.tmod kv663 50)))] : List T_law23_Act)) (j := 0) hM rfl sl22 ze38 rfl rfl rfl rfl rfl (hM.rd (i := 2) rfl) (fun _ => One.all rfl) (of_decide_eq_true hq696)) rfl fun v w695 hv => ?_
      clear hM
      obtain ⟨A693, c694, rfl, hM, hf⟩ := hv
      refine RL.val (O.assign rfl) rfl ?_
      refine RL.nil ?_
      refine KQ.thn hQ689 ?_
      clear hQ689 Q689
      replace hM := hM.pick [0] rfl (by decide)
      refine KC.region ?_
      refine RL.val (O.move rfl) rfl ?_
      refine RL.val (O.mul rfl rfl) rfl ?_
      refine RL.val (O.move rfl) rfl ?_
      refine RL.val (O.mul rfl rfl) rfl ?_
      refine RL.val (O.add rfl rfl) rfl ?_
      refine RL.val (O.add rfl rfl) rfl ?_
      refine RL.val (O.rem rfl rfl (by decide)) rfl ?_
      refine RL.val (O.assign rfl) rfl ?_
      refine RL.nil ?_
      refine KQ.blk_n ?_
      refine KQ.thn hQ670 ?_
      clear hQ670 Q670
      refine KC.region ?_
      refine RL.val (O.move rfl) rfl ?_
      refine RL.val (O.add rfl rfl) rfl ?_
      refine RL.val (O.assign rfl) rfl ?_
      refine RL.nil ?_
      refine KQ.then_k ?_
      exact fun a ha => ⟨k667, Nat.lt_succ_self k667, A693, c694, (lv662 ++ ([(T_law23_Act.mk (Int.tmod kv663 8) (T_packet_Key.mk (T_addr_Addr.mk y673.f_Src.f_Six xv687) y673.f_Dst y673.f_Proto y673.f_SrcPort y673.f_DstPort) (IntKind.u64.wrap (Int.tmod kv663 50)))] : List T_law23_Act)), (Int.tmod (IntKind.i64.wrap ((IntKind.i64.wrap ((IntKind.i64.wrap (kv663 * 31)) + (IntKind.i64.wrap (7 * nv664)))) + 11)) 100003), (IntKind.i64.wrap (nv664 + 1)), ha.less (less_cons rfl (less_cons rfl (less_cons rfl (less_cons rfl less_nil)))), hM, hF⟩
    ·rw [if_neg (ne_true hc)] at hF
     refine KC.exit ?_
     refine KQ.thx hQ668 ?_
     clear hQ668 Q668
     refine KQ.then_x ?_
     refine KQ.blk_x ?_
     refine KQ.thn hQ592 ?_
     clear hQ592 Q592
     refine KC.seqH fun Q698 hQ698 => ?_
     refine KC.region ?_
     refine RL.eff (E.bsl (enc := (eI .i64)) (xs := ([1, 2, 4, 8, 16, 32, 64, 3] : List Int)) hM sl39 ze3 rfl rfl rfl (fun _ => rfl) rfl (by kernel_rfl) rfl) rfl fun v w699 hv => ?_
     clear hM
     obtain ⟨A700, rfl, hM, hf⟩ := hv
     refine RL.val (O.move rfl) rfl ?_
     refine RL.val (O.rem rfl rfl (by decide)) rfl ?_
     refine obindE hF fun xv704 hx703 hF => ?_
     have hA702 := Rd.atN (f := (eI .i64)) (s := 1) (fun _ => rfl) (by decide) (hM.rd (i := 1) rfl) hx703
     refine RL.val (O.idxA sl39 (hA702) rfl rfl) rfl ?_
     refine RL.val (O.load sc3 rfl (hA702).cells.at0) rfl ?_
     refine RL.val (O.assign rfl) rfl ?_
     refine RL.nil ?_
     refine KQ.thn hQ698 ?_
     clear hQ698 Q698
     refine KC.seqH fun Q705 hQ705 => ?_
     refine KC.cut (fun a w722 => ∃ (t721 : Bool), Kn 135 [(1, Value.int .i64 i583), (71, Value.bool t721)] a ∧ Mem w [] w722 [] ∧ F_law23_TableKnown_j2 i583 (F_law23_TableKnown_L1 k586) t721 = some r) ?_ ?_
     ·refine KC.region ?_
      refine RL.val (O.move rfl) rfl ?_
      refine RL.val (O.move rfl) rfl ?_
      refine obindE hF fun y706 hx707 hF => ?_
      refine RL.call Try.func4 bd4 rfl rfl (c_law23_TablePlays _ xv704 _ _ lv662 (hM.rd (i := 0) rfl) _ hx707) fun v w708 hv => ?_
      obtain ⟨rfl, hN709⟩ := hv
      replace hM := hM.call0 hN709
      refine RL.val (O.not rfl) rfl ?_
      refine RL.val (O.move rfl) rfl ?_
      refine RL.bcase (t := 57) rfl (fun hc => ?_) (fun hc => ?_)
      ·rw [if_pos hc] at hF
       refine RL.gskip rfl rfl rfl rfl ?_
       refine RL.gskip rfl rfl rfl rfl ?_
       refine RL.gskip rfl rfl rfl rfl ?_
       refine RL.gskip rfl rfl rfl rfl ?_
       refine RL.val (O.pickt rfl rfl) rfl ?_
       refine RL.val (O.move rfl) rfl ?_
       refine RL.gskip rfl rfl rfl rfl ?_
       refine RL.gskip rfl rfl rfl rfl ?_
       refine RL.gskip rfl rfl rfl rfl ?_
       refine RL.gskip rfl rfl rfl rfl ?_
       refine RL.gskip rfl rfl rfl rfl ?_
       refine RL.gskip rfl rfl rfl rfl ?_
       refine RL.gskip rfl rfl rfl rfl ?_
       refine RL.val (O.pickt rfl rfl) rfl ?_
       refine RL.nil ?_
       refine KQ.then_k ?_
       replace hM := hM.pick [] rfl (by decide)
       exact fun a ha => ⟨true, ha.less (less_cons rfl (less_cons rfl less_nil)), hM, hF⟩
      ·rw [if_neg (ne_true hc)] at hF
       refine RL.gval rfl rfl (O.move rfl) rfl ?_
       refine RL.gval rfl rfl (O.move rfl) rfl ?_
       refine obindE hF fun y710 hx711 hF => ?_
       refine RL.gcall rfl rfl Try.func3 bd3 rfl rfl (c_law23_TableKeeps _ xv704 _ _ lv662 (hM.rd (i := 0) rfl) _ hx711) fun v w712 hv => ?_
       obtain ⟨rfl, hN713⟩ := hv
       replace hM := hM.call0 hN713
       refine RL.gval rfl rfl (O.not rfl) rfl ?_
       refine RL.val (O.pickf rfl rfl) rfl ?_
       refine RL.val (O.move rfl) rfl ?_
       refine RL.bcase (t := 63) rfl (fun hc => ?_) (fun hc => ?_)
       ·rw [if_pos hc] at hF
        refine RL.gskip rfl rfl rfl rfl ?_
        refine RL.gskip rfl rfl rfl rfl ?_
        refine RL.gskip rfl rfl rfl rfl ?_
        refine RL.gskip rfl rfl rfl rfl ?_
        refine RL.gskip rfl rfl rfl rfl ?_
        refine RL.gskip rfl rfl rfl rfl ?_
        refine RL.gskip rfl rfl rfl rfl ?_
        refine RL.val (O.pickt rfl rfl) rfl ?_
        refine RL.nil ?_
        refine KQ.then_k ?_
        replace hM := hM.pick [] rfl (by decide)
        exact fun a ha => ⟨true, ha.less (less_cons rfl (less_cons rfl less_nil)), hM, hF⟩
       ·rw [if_neg (ne_true hc)] at hF
        refine RL.gval rfl rfl (O.move rfl) rfl ?_
        refine RL.gval rfl rfl (O.move rfl) rfl ?_
        refine obindE hF fun xv716 hx715 hF => ?_
        have hA714 := Rd.atN (f := e_law23_Act) (s := 39) (fun _ => rfl) (by decide) (hM.rd (i := 0) rfl) hx715
        refine RL.gval rfl rfl (O.idxA sl22 (hA714) rfl rfl) rfl ?_
        refine RL.gval rfl rfl (O.fldA fl38_1 (by decide) rfl) rfl ?_
        refine RL.gval rfl rfl (O.loadN (cs := [Value.bool xv716.f_K.f_Src.f_Six, o8 xv716.f_K.f_Src.f_B 0, o8 xv716.f_K.f_Src.f_B 1, o8 xv716.f_K.f_Src.f_B 2, o8 xv716.f_K.f_Src.f_B 3, o8 xv716.f_K.f_Src.f_B 4, o8 xv716.f_K.f_Src.f_B 5, o8 xv716.f_K.f_Src.f_B 6, o8 xv716.f_K.f_Src.f_B 7, o8 xv716.f_K.f_Src.f_B 8, o8 xv716.f_K.f_Src.f_B 9, o8 xv716.f_K.f_Src.f_B 10, o8 xv716.f_K.f_Src.f_B 11, o8 xv716.f_K.f_Src.f_B 12, o8 xv716.f_K.f_Src.f_B 13, o8 xv716.f_K.f_Src.f_B 14, o8 xv716.f_K.f_Src.f_B 15, Value.bool xv716.f_K.f_Dst.f_Six, o8 xv716.f_K.f_Dst.f_B 0, o8 xv716.f_K.f_Dst.f_B 1, o8 xv716.f_K.f_Dst.f_B 2, o8 xv716.f_K.f_Dst.f_B 3, o8 xv716.f_K.f_Dst.f_B 4, o8 xv716.f_K.f_Dst.f_B 5, o8 xv716.f_K.f_Dst.f_B 6, o8 xv716.f_K.f_Dst.f_B 7, o8 xv716.f_K.f_Dst.f_B 8, o8 xv716.f_K.f_Dst.f_B 9, o8 xv716.f_K.f_Dst.f_B 10, o8 xv716.f_K.f_Dst.f_B 11, o8 xv716.f_K.f_Dst.f_B 12, o8 xv716.f_K.f_Dst.f_B 13, o8 xv716.f_K.f_Dst.f_B 14, o8 xv716.f_K.f_Dst.f_B 15, Value.int .u8 xv716.f_K.f_Proto, Value.int .u16 xv716.f_K.f_SrcPort, Value.int .u16 xv716.f_K.f_DstPort]) ag35 rfl (Cs.addsN [1] (hA714).cells rfl)) rfl ?_
        refine obindE hF fun y717 hx718 hF => ?_
        refine RL.gcall rfl rfl Try.func5 bd5 rfl rfl (c_law23_TableNone _ xv716.f_K 5 _ hx718) fun v w719 hv => ?_
        obtain ⟨rfl, hN720⟩ := hv
        replace hM := hM.call0 hN720
        refine RL.gval rfl rfl (O.not rfl) rfl ?_
        refine RL.val (O.pickf rfl rfl) rfl ?_
        refine RL.nil ?_
        refine KQ.then_k ?_
        replace hM := hM.pick [] rfl (by decide)
        exact fun a ha => ⟨(!y717), ha.less (less_cons rfl (less_cons rfl less_nil)), hM, hF⟩
     ·rintro a w722 ⟨t721, ha, hM, hF⟩
      refine KC.app ha ?_
      clear ha
      unfold F_law23_TableKnown_j2 at hF
      refine KC.cond rfl (fun hc => ?_) (fun hc => ?_)
      ·rw [if_pos hc] at hF
       refine KC.seqH fun Q723 hQ723 => ?_
       refine KC.region ?_
       refine RL.val (O.assign rfl) rfl ?_
       refine RL.nil ?_
       refine KQ.thn hQ723 ?_
       clear hQ723 Q723
       refine KC.ret ?_
       refine KQ.thr hQ705 ?_
       clear hQ705 Q705
       refine KQ.blk_r ?_
       refine KQ.thr hQ589 ?_
       clear hQ589 Q589
       refine KQ.then_r ?_
       refine KQ.blk_r ?_
       refine KQ.thr hQ2 ?_
       clear hQ2 Q2
       have hE := Option.some.inj hF
       clear hF
       subst hE
       refine KQ.rets Try.results6 (RVs.cons (RV.tm rfl) RVs.nil) ?_
       exact ⟨_, rfl, rfl, hM⟩
      ·rw [if_neg (ne_true hc)] at hF
       refine KC.skip ?_
       refine KQ.thn hQ705 ?_
       clear hQ705 Q705
       refine KC.seqH fun Q724 hQ724 => ?_
       refine KC.region ?_
       refine RL.val (O.assign rfl) rfl ?_
       refine RL.nil ?_
       refine KQ.thn hQ724 ?_
       clear hQ724 Q724
       refine KC.seqH fun Q725 hQ725 => ?_
       refine KC.seqH fun Q726 hQ726 => ?_
       refine KC.region ?_
       refine RL.val (O.assign rfl) rfl ?_
       refine RL.nil ?_
       refine KQ.thn hQ726 ?_
       clear hQ726 Q726
       refine KC.block ?_
       refine KC.loop (fun k769 a w767 => ∃ (A763 : Option Addr) (c764 : Nat) (full765 : List T_law23_Act) (nv766 : Int), Kn 135 [(1, Value.int .i64 i583), (7, .slice A763 (full765).length c764), (8, Value.int .i64 nv766)] a ∧ Mem w [] w767 [.row A763 c764 38 39 (full765).length ((full765).flatMap e_law23_Act)] ∧ F_law23_TableKnown_L3 i583 (F_law23_TableKnown_L1 k586) k769 full765 nv766 = some r) ?_ ?_
       ·replace hM := hM.nilrow 38 39
        exact fun a ha => ⟨fuel0, none, 0, ([]), 0, ha.less (less_cons rfl (less_cons rfl (less_cons rfl less_nil))), hM, hF⟩
       ·rintro k769 a w767 ⟨A763, c764, full765, nv766, ha, hM, hF⟩
        refine KC.app ha ?_
        clear ha
        cases k769 with
        | zero => exact (none_some hF).elim
        | succ k769 =>
        have hF : F_law23_TableKnown_l3 (F_law23_TableKnown_L3 i583 (F_law23_TableKnown_L1 k586) k769) i583 (F_law23_TableKnown_L1 k586) full765 nv766 = some r := hF
        unfold F_law23_TableKnown_l3 at hF
        refine KC.seqH fun Q770 hQ770 => ?_
        refine KC.seqH fun Q771 hQ771 => ?_
        refine KC.region ?_
        refine RL.val (O.move rfl) rfl ?_
        refine RL.val (O.lss rfl rfl) rfl ?_
        refine RL.nil ?_
        refine KQ.thn hQ771 ?_
        clear hQ771 Q771
        refine KC.cond rfl (fun hc => ?_) (fun hc => ?_)
        ·rw [if_pos hc] at hF
         refine KC.skip ?_
         refine KQ.thn hQ770 ?_
         clear hQ770 Q770
         refine KC.seqH fun Q772 hQ772 => ?_
         refine KC.block ?_
         refine KC.region ?_
         refine RL.val (O.move rfl) rfl ?_
         refine RL.val (O.move rfl) rfl ?_
         refine RL.val (O.mul rfl rfl) rfl ?_
         refine RL.val (O.move rfl) rfl ?_
         refine RL.val (O.add rfl rfl) rfl ?_
         refine obindE hF fun y773 hx774 hF => ?_
         refine RL.call Try.func30 bd30 rfl rfl (c_law23_key _ (IntKind.i64.wrap ((IntKind.i64.wrap (i583 * 20)) + nv766)) _ hx774) fun v w775 hv => ?_
         obtain ⟨rfl, hN776⟩ := hv
         replace hM := hM.call0 hN776
         refine RL.val (O.move rfl) rfl ?_
         refine RL.val (O.conv un3 Try.underlying36 rfl) rfl ?_
         refine RL.val (O.bld (cs := [Value.int .i64 0, Value.bool y773.f_Src.f_Six, o8 y773.f_Src.f_B 0, o8 y773.f_Src.f_B 1, o8 y773.f_Src.f_B 2, o8 y773.f_Src.f_B 3, o8 y773.f_Src.f_B 4, o8 y773.f_Src.f_B 5, o8 y773.f_Src.f_B 6, o8 y773.f_Src.f_B 7, o8 y773.f_Src.f_B 8, o8 y773.f_Src.f_B 9, o8 y773.f_Src.f_B 10, o8 y773.f_Src.f_B 11, o8 y773.f_Src.f_B 12, o8 y773.f_Src.f_B 13, o8 y773.f_Src.f_B 14, o8 y773.f_Src.f_B 15, Value.bool y773.f_Dst.f_Six, o8 y773.f_Dst.f_B 0, o8 y773.f_Dst.f_B 1, o8 y773.f_Dst.f_B 2, o8 y773.f_Dst.f_B 3, o8 y773.f_Dst.f_B 4, o8 y773.f_Dst.f_B 5, o8 y773.f_Dst.f_B 6, o8 y773.f_Dst.f_B 7, o8 y773.f_Dst.f_B 8, o8 y773.f_Dst.f_B 9, o8 y773.f_Dst.f_B 10, o8 y773.f_Dst.f_B 11, o8 y773.f_Dst.f_B 12, o8 y773.f_Dst.f_B 13, o8 y773.f_Dst.f_B 14, o8 y773.f_Dst.f_B 15, Value.int .u8 y773.f_Proto, Value.int .u16 y773.f_SrcPort, Value.int .u16 y773.f_DstPort, Value.int .u64 (IntKind.u64.wrap nv766)]) bt38 rfl (by kernel_rfl)) rfl ?_
         refine RL.eff (E.bsl (enc := e_law23_Act) (xs := ([(T_law23_Act.mk 0 y773 (IntKind.u64.wrap nv766))] : List T_law23_Act)) hM sl22 ze38 rfl rfl rfl (fun _ => rfl) rfl (by kernel_rfl) rfl) rfl fun v w777 hv => ?_
         clear hM
         obtain ⟨A778, rfl, hM, hf⟩ := hv
         refine cut_someE hF fun hq783 hF => ?_
         refine RL.eff (E.app (enc := e_law23_Act) (xs := full765) (ys := ([(T_law23_Act.mk 0 y773 (IntKind.u64.wrap nv766))] : List T_law23_Act)) (j := 0) hM rfl sl22 ze38 rfl rfl rfl rfl rfl (hM.rd (i := 1) rfl) (fun _ => One.all rfl) (of_decide_eq_true hq783)) rfl fun v w782 hv => ?_
         clear hM
         obtain ⟨A780, c781, rfl, hM, hf⟩ := hv
         refine RL.val (O.assign rfl) rfl ?_
         refine RL.nil ?_
         refine KQ.blk_n ?_
         refine KQ.thn hQ772 ?_
         clear hQ772 Q772
         refine KC.region ?_
         refine RL.val (O.move rfl) rfl ?_
         refine RL.val (O.add rfl rfl) rfl ?_
         refine RL.val (O.assign rfl) rfl ?_
         refine RL.nil ?_
         refine KQ.then_k ?_
         replace hM := hM.pick [0] rfl (by decide)
         exact fun a ha => ⟨k769, Nat.lt_succ_self k769, A780, c781, (full765 ++ ([(T_law23_Act.mk 0 y773 (IntKind.u64.wrap nv766))] : List T_law23_Act)), (IntKind.i64.wrap (nv766 + 1)), ha.less (less_cons rfl (less_cons rfl (less_cons rfl less_nil))), hM, hF⟩
        ·rw [if_neg (ne_true hc)] at hF
         refine KC.exit ?_
         refine KQ.thx hQ770 ?_
         clear hQ770 Q770
         refine KQ.then_x ?_
         refine KQ.blk_x ?_
         refine KQ.thn hQ725 ?_
         clear hQ725 Q725
         refine KC.seqH fun Q785 hQ785 => ?_
         refine KC.seqH fun Q786 hQ786 => ?_
         refine KC.region ?_
         refine RL.val (O.assign rfl) rfl ?_
         refine RL.nil ?_
         refine KQ.thn hQ786 ?_
         clear hQ786 Q786
         refine KC.block ?_
         refine KC.loop (fun k837 a w835 => ∃ (A831 : Option Addr) (c832 : Nat) (full833 : List T_law23_Act) (nv834 : Int), Kn 135 [(1, Value.int .i64 i583), (7, .slice A831 (full833).length c832), (9, Value.int .i64 nv834)] a ∧ Mem w [] w835 [.row A831 c832 38 39 (full833).length ((full833).flatMap e_law23_Act)] ∧ F_law23_TableKnown_L4 i583 (F_law23_TableKnown_L1 k586) k837 full833 nv834 = some r) ?_ ?_
         ·exact fun a ha => ⟨fuel0, A763, c764, full765, 0, ha.less (less_cons rfl (less_cons rfl (less_cons rfl less_nil))), hM, hF⟩
         ·rintro k837 a w835 ⟨A831, c832, full833, nv834, ha, hM, hF⟩
          refine KC.app ha ?_
          clear ha
          cases k837 with
          | zero => exact (none_some hF).elim
          | succ k837 =>
          have hF : F_law23_TableKnown_l4 (F_law23_TableKnown_L4 i583 (F_law23_TableKnown_L1 k586) k837) i583 (F_law23_TableKnown_L1 k586) full833 nv834 = some r := hF
          unfold F_law23_TableKnown_l4 at hF
          refine KC.seqH fun Q838 hQ838 => ?_
          refine KC.seqH fun Q839 hQ839 => ?_
          refine KC.region ?_
          refine RL.val (O.move rfl) rfl ?_
          refine RL.val (O.lss rfl rfl) rfl ?_
          refine RL.nil ?_
          refine KQ.thn hQ839 ?_
          clear hQ839 Q839
          refine KC.cond rfl (fun hc => ?_) (fun hc => ?_)
          ·rw [if_pos hc] at hF
           refine KC.skip ?_
           refine KQ.thn hQ838 ?_
           clear hQ838 Q838
           refine KC.seqH fun Q840 hQ840 => ?_
           refine KC.block ?_
           refine KC.region ?_
           refine RL.val (O.move rfl) rfl ?_
           refine RL.val (O.move rfl) rfl ?_
           refine RL.val (O.mul rfl rfl) rfl ?_
           refine RL.val (O.move rfl) rfl ?_
           refine RL.val (O.mul rfl rfl) rfl ?_
           refine RL.val (O.rem rfl rfl (by decide)) rfl ?_
           refine RL.val (O.add rfl rfl) rfl ?_
           refine obindE hF fun y841 hx842 hF => ?_
           refine RL.call Try.func30 bd30 rfl rfl (c_law23_key _ (IntKind.i64.wrap ((IntKind.i64.wrap (i583 * 20)) + (Int.tmod (IntKind.i64.wrap (nv834 * 7)) 20))) _ hx842) fun v w843 hv => ?_
           obtain ⟨rfl, hN844⟩ := hv
           replace hM := hM.call0 hN844
           refine RL.val (O.bld (cs := [Value.int .i64 4, Value.bool y841.f_Src.f_Six, o8 y841.f_Src.f_B 0, o8 y841.f_Src.f_B 1, o8 y841.f_Src.f_B 2, o8 y841.f_Src.f_B 3, o8 y841.f_Src.f_B 4, o8 y841.f_Src.f_B 5, o8 y841.f_Src.f_B 6, o8 y841.f_Src.f_B 7, o8 y841.f_Src.f_B 8, o8 y841.f_Src.f_B 9, o8 y841.f_Src.f_B 10, o8 y841.f_Src.f_B 11, o8 y841.f_Src.f_B 12, o8 y841.f_Src.f_B 13, o8 y841.f_Src.f_B 14, o8 y841.f_Src.f_B 15, Value.bool y841.f_Dst.f_Six, o8 y841.f_Dst.f_B 0, o8 y841.f_Dst.f_B 1, o8 y841.f_Dst.f_B 2, o8 y841.f_Dst.f_B 3, o8 y841.f_Dst.f_B 4, o8 y841.f_Dst.f_B 5, o8 y841.f_Dst.f_B 6, o8 y841.f_Dst.f_B 7, o8 y841.f_Dst.f_B 8, o8 y841.f_Dst.f_B 9, o8 y841.f_Dst.f_B 10, o8 y841.f_Dst.f_B 11, o8 y841.f_Dst.f_B 12, o8 y841.f_Dst.f_B 13, o8 y841.f_Dst.f_B 14, o8 y841.f_Dst.f_B 15, Value.int .u8 y841.f_Proto, Value.int .u16 y841.f_SrcPort, Value.int .u16 y841.f_DstPort, Value.int .u64 0]) bt38 rfl (by kernel_rfl)) rfl ?_
           refine RL.val (O.move rfl) rfl ?_
           refine RL.val (O.move rfl) rfl ?_
           refine RL.val (O.add rfl rfl) rfl ?_
           refine obindE hF fun y845 hx846 hF => ?_
           refine RL.call Try.func30 bd30 rfl rfl (c_law23_key _ (IntKind.i64.wrap (i583 + nv834)) _ hx846) fun v w847 hv => ?_
           obtain ⟨rfl, hN848⟩ := hv
           replace hM := hM.call0 hN848
           refine RL.val (O.bld (cs := [Value.int .i64 0, Value.bool y845.f_Src.f_Six, o8 y845.f_Src.f_B 0, o8 y845.f_Src.f_B 1, o8 y845.f_Src.f_B 2, o8 y845.f_Src.f_B 3, o8 y845.f_Src.f_B 4, o8 y845.f_Src.f_B 5, o8 y845.f_Src.f_B 6, o8 y845.f_Src.f_B 7, o8 y845.f_Src.f_B 8, o8 y845.f_Src.f_B 9, o8 y845.f_Src.f_B 10, o8 y845.f_Src.f_B 11, o8 y845.f_Src.f_B 12, o8 y845.f_Src.f_B 13, o8 y845.f_Src.f_B 14, o8 y845.f_Src.f_B 15, Value.bool y845.f_Dst.f_Six, o8 y845.f_Dst.f_B 0, o8 y845.f_Dst.f_B 1, o8 y845.f_Dst.f_B 2, o8 y845.f_Dst.f_B 3, o8 y845.f_Dst.f_B 4, o8 y845.f_Dst.f_B 5, o8 y845.f_Dst.f_B 6, o8 y845.f_Dst.f_B 7, o8 y845.f_Dst.f_B 8, o8 y845.f_Dst.f_B 9, o8 y845.f_Dst.f_B 10, o8 y845.f_Dst.f_B 11, o8 y845.f_Dst.f_B 12, o8 y845.f_Dst.f_B 13, o8 y845.f_Dst.f_B 14, o8 y845.f_Dst.f_B 15, Value.int .u8 y845.f_Proto, Value.int .u16 y845.f_SrcPort, Value.int .u16 y845.f_DstPort, Value.int .u64 1]) bt38 rfl (by kernel_rfl)) rfl ?_
           refine RL.eff (E.bsl (enc := e_law23_Act) (xs := ([(T_law23_Act.mk 4 y841 0), (T_law23_Act.mk 0 y845 1)] : List T_law23_Act)) hM sl22 ze38 rfl rfl rfl (fun _ => rfl) rfl (by kernel_rfl) rfl) rfl fun v w849 hv => ?_
           clear hM
           obtain ⟨A850, rfl, hM, hf⟩ := hv
           refine cut_someE hF fun hq855 hF => ?_
           refine RL.eff (E.app (enc := e_law23_Act) (xs := full833) (ys := ([(T_law23_Act.mk 4 y841 0), (T_law23_Act.mk 0 y845 1)] : List T_law23_Act)) (j := 0) hM rfl sl22 ze38 rfl rfl rfl rfl rfl (hM.rd (i := 1) rfl) (fun _ => One.all rfl) (of_decide_eq_true hq855)) rfl fun v w854 hv => ?_
           clear hM
           obtain ⟨A852, c853, rfl, hM, hf⟩ := hv
           refine RL.val (O.assign rfl) rfl ?_
           refine RL.nil ?_
           refine KQ.blk_n ?_
           refine KQ.thn hQ840 ?_
           clear hQ840 Q840
           refine KC.region ?_
           refine RL.val (O.move rfl) rfl ?_
           refine RL.val (O.add rfl rfl) rfl ?_
           refine RL.val (O.assign rfl) rfl ?_
           refine RL.nil ?_
           refine KQ.then_k ?_
           replace hM := hM.pick [0] rfl (by decide)
           exact fun a ha => ⟨k837, Nat.lt_succ_self k837, A852, c853, (full833 ++ ([(T_law23_Act.mk 4 y841 0), (T_law23_Act.mk 0 y845 1)] : List T_law23_Act)), (IntKind.i64.wrap (nv834 + 1)), ha.less (less_cons rfl (less_cons rfl (less_cons rfl less_nil))), hM, hF⟩
          ·rw [if_neg (ne_true hc)] at hF
           refine KC.exit ?_
           refine KQ.thx hQ838 ?_
           clear hQ838 Q838
           refine KQ.then_x ?_
           refine KQ.blk_x ?_
           refine KQ.thn hQ785 ?_
           clear hQ785 Q785
           refine KC.cut (fun a w874 => ∃ (t873 : Bool), Kn 135 [(1, Value.int .i64 i583), (124, Value.bool t873)] a ∧ Mem w [] w874 [] ∧ F_law23_TableKnown_j3 i583 (F_law23_TableKnown_L1 k586) t873 = some r) ?_ ?_
           ·refine KC.region ?_
            refine RL.val (O.move rfl) rfl ?_
            refine obindE hF fun y857 hx858 hF => ?_
            refine RL.call Try.func4 bd4 rfl rfl (c_law23_TablePlays _ 16 _ _ full833 (hM.rd (i := 0) rfl) _ hx858) fun v w859 hv => ?_
            obtain ⟨rfl, hN860⟩ := hv
            replace hM := hM.call0 hN860
            refine RL.val (O.not rfl) rfl ?_
            refine RL.val (O.move rfl) rfl ?_
            refine RL.bcase (t := 110) rfl (fun hc => ?_) (fun hc => ?_)
            ·rw [if_pos hc] at hF
             refine RL.gskip rfl rfl rfl rfl ?_
             refine RL.gskip rfl rfl rfl rfl ?_
             refine RL.gskip rfl rfl rfl rfl ?_
             refine RL.val (O.pickt rfl rfl) rfl ?_
             refine RL.val (O.move rfl) rfl ?_
             refine RL.gskip rfl rfl rfl rfl ?_
             refine RL.gskip rfl rfl rfl rfl ?_
             refine RL.gskip rfl rfl rfl rfl ?_
             refine RL.val (O.pickt rfl rfl) rfl ?_
             refine RL.val (O.move rfl) rfl ?_
             refine RL.gskip rfl rfl rfl rfl ?_
             refine RL.gskip rfl rfl rfl rfl ?_
             refine RL.gskip rfl rfl rfl rfl ?_
             refine RL.val (O.pickt rfl rfl) rfl ?_
             refine RL.nil ?_
             refine KQ.then_k ?_
             replace hM := hM.pick [] rfl (by decide)
             exact fun a ha => ⟨true, ha.less (less_cons rfl (less_cons rfl less_nil)), hM, hF⟩
            ·rw [if_neg (ne_true hc)] at hF
             refine RL.gval rfl rfl (O.move rfl) rfl ?_
             refine obindE hF fun y861 hx862 hF => ?_
             refine RL.gcall rfl rfl Try.func3 bd3 rfl rfl (c_law23_TableKeeps _ 16 _ _ full833 (hM.rd (i := 0) rfl) _ hx862) fun v w863 hv => ?_
             obtain ⟨rfl, hN864⟩ := hv
             replace hM := hM.call0 hN864
             refine RL.gval rfl rfl (O.not rfl) rfl ?_
             refine RL.val (O.pickf rfl rfl) rfl ?_
             refine RL.val (O.move rfl) rfl ?_
             refine RL.bcase (t := 115) rfl (fun hc => ?_) (fun hc => ?_)
             ·rw [if_pos hc] at hF
              refine RL.gskip rfl rfl rfl rfl ?_
              refine RL.gskip rfl rfl rfl rfl ?_
              refine RL.gskip rfl rfl rfl rfl ?_
              refine RL.val (O.pickt rfl rfl) rfl ?_
              refine RL.val (O.move rfl) rfl ?_
              refine RL.gskip rfl rfl rfl rfl ?_
              refine RL.gskip rfl rfl rfl rfl ?_
              refine RL.gskip rfl rfl rfl rfl ?_
              refine RL.val (O.pickt rfl rfl) rfl ?_
              refine RL.nil ?_
              refine KQ.then_k ?_
              replace hM := hM.pick [] rfl (by decide)
              exact fun a ha => ⟨true, ha.less (less_cons rfl (less_cons rfl less_nil)), hM, hF⟩
             ·rw [if_neg (ne_true hc)] at hF
              refine RL.gval rfl rfl (O.move rfl) rfl ?_
              refine obindE hF fun y865 hx866 hF => ?_
              refine RL.gcall rfl rfl Try.func4 bd4 rfl rfl (c_law23_TablePlays _ 8 _ _ full833 (hM.rd (i := 0) rfl) _ hx866) fun v w867 hv => ?_
              obtain ⟨rfl, hN868⟩ := hv
              replace hM := hM.call0 hN868
              refine RL.gval rfl rfl (O.not rfl) rfl ?_
              refine RL.val (O.pickf rfl rfl) rfl ?_
              refine RL.val (O.move rfl) rfl ?_
              refine RL.bcase (t := 120) rfl (fun hc => ?_) (fun hc => ?_)
              ·rw [if_pos hc] at hF
               refine RL.gskip rfl rfl rfl rfl ?_
               refine RL.gskip rfl rfl rfl rfl ?_
               refine RL.gskip rfl rfl rfl rfl ?_
               refine RL.val (O.pickt rfl rfl) rfl ?_
               refine RL.nil ?_
               refine KQ.then_k ?_
               replace hM := hM.pick [] rfl (by decide)
               exact fun a ha => ⟨true, ha.less (less_cons rfl (less_cons rfl less_nil)), hM, hF⟩
              ·rw [if_neg (ne_true hc)] at hF
               refine RL.gval rfl rfl (O.move rfl) rfl ?_
               refine obindE hF fun y869 hx870 hF => ?_
               refine RL.gcall rfl rfl Try.func3 bd3 rfl rfl (c_law23_TableKeeps _ 4 _ _ full833 (hM.rd (i := 0) rfl) _ hx870) fun v w871 hv => ?_
               obtain ⟨rfl, hN872⟩ := hv
               replace hM := hM.call0 hN872
               refine RL.gval rfl rfl (O.not rfl) rfl ?_
               refine RL.val (O.pickf rfl rfl) rfl ?_
               refine RL.nil ?_
               refine KQ.then_k ?_
               replace hM := hM.pick [] rfl (by decide)
               exact fun a ha => ⟨(!y869), ha.less (less_cons rfl (less_cons rfl less_nil)), hM, hF⟩
           ·rintro a w874 ⟨t873, ha, hM, hF⟩
            refine KC.app ha ?_
            clear ha
            unfold F_law23_TableKnown_j3 at hF
            refine KC.cond rfl (fun hc => ?_) (fun hc => ?_)
            ·rw [if_pos hc] at hF
             refine KC.seqH fun Q875 hQ875 => ?_
             refine KC.region ?_
             refine RL.val (O.assign rfl) rfl ?_
             refine RL.nil ?_
             refine KQ.thn hQ875 ?_
             clear hQ875 Q875
             refine KC.ret ?_
             refine KQ.blk_r ?_
             refine KQ.thr hQ589 ?_
             clear hQ589 Q589
             refine KQ.then_r ?_
             refine KQ.blk_r ?_
             refine KQ.thr hQ2 ?_
             clear hQ2 Q2
             have hE := Option.some.inj hF
             clear hF
             subst hE
             refine KQ.rets Try.results6 (RVs.cons (RV.tm rfl) RVs.nil) ?_
             exact ⟨_, rfl, rfl, hM⟩
            ·rw [if_neg (ne_true hc)] at hF
             refine KC.skip ?_
             refine KQ.blk_n ?_
             refine KQ.thn hQ589 ?_
             clear hQ589 Q589
             refine KC.region ?_
             refine RL.val (O.move rfl) rfl ?_
             refine RL.val (O.add rfl rfl) rfl ?_
             refine RL.val (O.assign rfl) rfl ?_
             refine RL.nil ?_
             refine KQ.then_k ?_
             exact fun a ha => ⟨k586, Nat.lt_succ_self k586, (IntKind.i64.wrap (i583 + 1)), ha.less (less_cons rfl less_nil), hM, hF⟩
  ·rw [if_neg (ne_true hc)] at hF
   refine KC.exit ?_
   refine KQ.thx hQ587 ?_
   clear hQ587 Q587
   refine KQ.then_x ?_
   refine KQ.blk_x ?_
   refine KQ.thn hQ2 ?_
   clear hQ2 Q2
   refine KC.cut (fun a w893 => ∃ (t892 : Bool), Kn 135 [(0, Value.bool t892)] a ∧ Mem w [] w893 [] ∧ F_law23_TableKnown_j4 t892 = some r) ?_ ?_
   ·refine KC.region ?_
    refine obindE hF fun y876 hx877 hF => ?_
    refine RL.call Try.func4 bd4 rfl rfl (c_law23_TablePlays _ (-4) none 0 [] Rd.nilr _ hx877) fun v w878 hv => ?_
    obtain ⟨rfl, hN879⟩ := hv
    replace hM := hM.call0 hN879
    refine RL.val (O.move rfl) rfl ?_
    refine RL.bcase (t := 126) rfl (fun hc => ?_) (fun hc => ?_)
    ·rw [if_pos hc] at hF
     refine obindE hF fun y880 hx881 hF => ?_
     refine RL.gcall rfl rfl Try.func4 bd4 rfl rfl (c_law23_TablePlays _ 131072 none 0 [] Rd.nilr _ hx881) fun v w882 hv => ?_
     obtain ⟨rfl, hN883⟩ := hv
     replace hM := hM.call0 hN883
     refine RL.val (O.pickt rfl rfl) rfl ?_
     refine RL.val (O.move rfl) rfl ?_
     refine RL.bcase (t := 129) rfl (fun hc => ?_) (fun hc => ?_)
     ·rw [if_pos hc] at hF
      refine obindE hF fun y884 hx885 hF => ?_
      refine RL.gcall rfl rfl Try.func4 bd4 rfl rfl (c_law23_TablePlays _ 65537 none 0 [] Rd.nilr _ hx885) fun v w886 hv => ?_
      obtain ⟨rfl, hN887⟩ := hv
      replace hM := hM.call0 hN887
      refine RL.val (O.pickt rfl rfl) rfl ?_
      refine RL.val (O.move rfl) rfl ?_
      refine RL.bcase (t := 132) rfl (fun hc => ?_) (fun hc => ?_)
      ·rw [if_pos hc] at hF
       refine obindE hF fun y888 hx889 hF => ?_
       refine RL.gcall rfl rfl Try.func7 bd7 rfl rfl (c_law23_works _ _ hx889) fun v w890 hv => ?_
       obtain ⟨rfl, hN891⟩ := hv
       replace hM := hM.call0 hN891
       refine RL.val (O.pickt rfl rfl) rfl ?_
       refine RL.val (O.assign rfl) rfl ?_
       refine RL.nil ?_
       refine KQ.then_k ?_
       exact fun a ha => ⟨y888, ha.less (less_cons rfl less_nil), hM, hF⟩
      ·rw [if_neg (ne_true hc)] at hF
       refine RL.gskip rfl rfl rfl rfl ?_
       refine RL.val (O.pickf rfl rfl) rfl ?_
       refine RL.val (O.assign rfl) rfl ?_
       refine RL.nil ?_
       refine KQ.then_k ?_
       exact fun a ha => ⟨false, ha.less (less_cons rfl less_nil), hM, hF⟩
     ·rw [if_neg (ne_true hc)] at hF
      refine RL.brun1 5 134 false (by kernel_rfl) ?_
      refine RL.val (O.assign rfl) rfl ?_
      refine RL.nil ?_
      refine KQ.then_k ?_
      exact fun a ha => ⟨false, ha.less (less_cons rfl less_nil), hM, hF⟩
    ·rw [if_neg (ne_true hc)] at hF
     refine RL.brun1 8 134 false (by kernel_rfl) ?_
     refine RL.val (O.assign rfl) rfl ?_
     refine RL.nil ?_
     refine KQ.then_k ?_
     exact fun a ha => ⟨false, ha.less (less_cons rfl less_nil), hM, hF⟩
   ·rintro a w893 ⟨t892, ha, hM, hF⟩
    refine KC.app ha ?_
    clear ha
    unfold F_law23_TableKnown_j4 at hF
    refine KC.ret ?_
    have hE := Option.some.inj hF
    clear hF
    subst hE
    refine KQ.rets Try.results6 (RVs.cons (RV.tm rfl) RVs.nil) ?_
    exact ⟨_, rfl, rfl, hM⟩
end Go.Proofs.Ytnbakndfnjflhaa
