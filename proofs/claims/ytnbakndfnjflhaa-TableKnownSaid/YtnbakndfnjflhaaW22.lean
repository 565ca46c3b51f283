/- Printed by a program of this claim: each call returns what the plain function of its name gives. -/
import Derived.Test.YtnbakndfnjflhaaW1
import Derived.Test.YtnbakndfnjflhaaW6
import Derived.Test.YtnbakndfnjflhaaW8
import Derived.Test.YtnbakndfnjflhaaW9
import Derived.Test.YtnbakndfnjflhaaW11
import Derived.Test.YtnbakndfnjflhaaW12
import Derived.Test.YtnbakndfnjflhaaW14
import Derived.Test.YtnbakndfnjflhaaW16
import Derived.Test.YtnbakndfnjflhaaW17
import Derived.Test.YtnbakndfnjflhaaW18
import Derived.Test.YtnbakndfnjflhaaW19
import Derived.Test.YtnbakndfnjflhaaW21
set_option linter.unusedVariables false
namespace Go.Proofs.Ytnbakndfnjflhaa
open Go Go.Ox Go.RowKit
set_option maxRecDepth 100000 in
set_option maxHeartbeats 40000000 in
theorem c_law23_TablePlays (w : World) (size1 : Int) (A3 : Option Addr) (c4 : Nat) (lv2 : List T_law23_Act) (hr5 : Rd w A3 c4 39 lv2.length (lv2.flatMap e_law23_Act)) (r : Bool) (hF : F_law23_TablePlays size1 lv2 = some r) :
  CallsR Try.prog 4 [Value.int .i64 size1, .slice A3 (lv2).length c4] w (fun v w' => v = Value.bool r ∧ Mem w [] w' []) := by
 refine calls_KC Try.func4 rfl Try.ntmps4 rfl ?_
 have hM := Mem.init w
 unfold F_law23_TablePlays at hF
 refine KC.seqH fun Q6 hQ6 => ?_
 refine KC.region ?_
 refine RL.val (O.assign rfl) rfl ?_
 refine RL.nil ?_
 refine KQ.thn hQ6 ?_
 clear hQ6 Q6
 refine KC.seqH fun Q7 hQ7 => ?_
 refine KC.cut (fun a w9 => ∃ (t8 : Bool), Kn 171 [(0, Value.int .i64 size1), (1, .slice A3 (lv2).length c4), (32, Value.bool t8)] a ∧ Mem w [] w9 [] ∧ F_law23_TablePlays_j1 size1 lv2 t8 = some r) ?_ ?_
 ·refine KC.region ?_
  refine RL.val (O.move rfl) rfl ?_
  refine RL.val (O.gtr rfl rfl) rfl ?_
  refine RL.val (O.move rfl) rfl ?_
  refine RL.bcase (t := 24) rfl (fun hc => ?_) (fun hc => ?_)
  ·rw [if_pos hc] at hF
   refine RL.gval rfl rfl (O.move rfl) rfl ?_
   refine RL.gval rfl rfl (O.leq rfl rfl) rfl ?_
   refine RL.val (O.pickt rfl rfl) rfl ?_
   refine RL.val (O.move rfl) rfl ?_
   refine RL.bcase (t := 28) rfl (fun hc => ?_) (fun hc => ?_)
   ·rw [if_pos hc] at hF
    refine RL.brun1 4 32 true (by kernel_rfl) ?_
    refine RL.nil ?_
    refine KQ.then_k ?_
    exact fun a ha => ⟨true, ha.less (less_cons rfl (less_cons rfl (less_cons rfl less_nil))), hM, hF⟩
   ·rw [if_neg (ne_true hc)] at hF
    refine RL.gval rfl rfl (O.move rfl) rfl ?_
    refine RL.gval rfl rfl (O.len sl22 rfl) rfl ?_
    refine RL.gval rfl rfl (O.gtr rfl rfl) rfl ?_
    refine RL.val (O.pickf rfl rfl) rfl ?_
    refine RL.nil ?_
    refine KQ.then_k ?_
    exact fun a ha => ⟨(decide (60 < (lv2.length : Int))), ha.less (less_cons rfl (less_cons rfl (less_cons rfl less_nil))), hM, hF⟩
  ·rw [if_neg (ne_true hc)] at hF
   refine RL.brun1 4 28 false (by kernel_rfl) ?_
   refine RL.gval rfl rfl (O.move rfl) rfl ?_
   refine RL.gval rfl rfl (O.len sl22 rfl) rfl ?_
   refine RL.gval rfl rfl (O.gtr rfl rfl) rfl ?_
   refine RL.val (O.pickf rfl rfl) rfl ?_
   refine RL.nil ?_
   refine KQ.then_k ?_
   exact fun a ha => ⟨(decide (60 < (lv2.length : Int))), ha.less (less_cons rfl (less_cons rfl (less_cons rfl less_nil))), hM, hF⟩
 ·rintro a w9 ⟨t8, ha, hM, hF⟩
  refine KC.app ha ?_
  clear ha
  unfold F_law23_TablePlays_j1 at hF
  refine KC.cond rfl (fun hc => ?_) (fun hc => ?_)
  ·rw [if_pos hc] at hF
   refine KC.seqH fun Q10 hQ10 => ?_
   refine KC.region ?_
   refine obindE hF fun y11 hx12 hF => ?_
   refine RL.call Try.func7 bd7 rfl rfl (c_law23_works _ _ hx12) fun v w13 hv => ?_
   obtain ⟨rfl, hN14⟩ := hv
   replace hM := hM.call0 hN14
   refine RL.val (O.assign rfl) rfl ?_
   refine RL.nil ?_
   refine KQ.thn hQ10 ?_
   clear hQ10 Q10
   refine KC.ret ?_
   refine KQ.thr hQ7 ?_
   clear hQ7 Q7
   have hE := Option.some.inj hF
   clear hF
   subst hE
   refine KQ.rets Try.results4 (RVs.cons (RV.tm rfl) RVs.nil) ?_
   exact ⟨_, rfl, rfl, hM⟩
  ·rw [if_neg (ne_true hc)] at hF
   refine KC.skip ?_
   refine KQ.thn hQ7 ?_
   clear hQ7 Q7
   refine KC.seqH fun Q15 hQ15 => ?_
   refine KC.region ?_
   refine RL.val (O.move rfl) rfl ?_
   refine RL.icall Try.func8 bd8 rfl rfl rfl Try.ntmps8 rfl ?_
   refine KC.seqH fun Q16 hQ16 => ?_
   refine KC.region ?_
   refine RL.val (O.assign rfl) rfl ?_
   refine RL.val (O.assign rfl) rfl ?_
   refine RL.nil ?_
   refine KQ.thn hQ16 ?_
   clear hQ16 Q16
   refine KC.seqH fun Q17 hQ17 => ?_
   refine KC.cut (fun a w19 => ∃ (nv18 : Bool), Kn 21 [(0, Value.int .i64 size1), (16, Value.bool nv18)] a ∧ Mem w [] w19 [] ∧ F_law23_TablePlays_j2 size1 lv2 nv18 = some r) ?_ ?_
   ·refine KC.region ?_
    refine RL.val (O.move rfl) rfl ?_
    refine RL.val (O.lss rfl rfl) rfl ?_
    refine RL.val (O.move rfl) rfl ?_
    refine RL.bcase (t := 6) rfl (fun hc => ?_) (fun hc => ?_)
    ·rw [if_pos hc] at hF
     refine RL.brun1 10 16 true (by kernel_rfl) ?_
     refine RL.nil ?_
     refine KQ.then_k ?_
     exact fun a ha => ⟨true, ha.less (less_cons rfl (less_cons rfl less_nil)), hM, hF⟩
    ·rw [if_neg (ne_true hc)] at hF
     refine RL.gval rfl rfl (O.move rfl) rfl ?_
     refine RL.gval rfl rfl (O.gtr rfl rfl) rfl ?_
     refine RL.val (O.pickf rfl rfl) rfl ?_
     refine RL.val (O.move rfl) rfl ?_
     refine RL.bcase (t := 10) rfl (fun hc => ?_) (fun hc => ?_)
     ·rw [if_pos hc] at hF
      refine RL.brun1 6 16 true (by kernel_rfl) ?_
      refine RL.nil ?_
      refine KQ.then_k ?_
      exact fun a ha => ⟨true, ha.less (less_cons rfl (less_cons rfl less_nil)), hM, hF⟩
     ·rw [if_neg (ne_true hc)] at hF
      refine RL.gval rfl rfl (O.move rfl) rfl ?_
      refine RL.gval rfl rfl (O.move rfl) rfl ?_
      refine RL.gval rfl rfl (O.sub rfl rfl) rfl ?_
      refine RL.gval rfl rfl (O.and rfl rfl) rfl ?_
      refine RL.gval rfl rfl (O.neq rfl rfl) rfl ?_
      refine RL.val (O.pickf rfl rfl) rfl ?_
      refine RL.nil ?_
      refine KQ.then_k ?_
      exact fun a ha => ⟨((bits .and .i64 size1 (IntKind.i64.wrap (size1 - 1))) != 0), ha.less (less_cons rfl (less_cons rfl less_nil)), hM, hF⟩
   ·rintro a w19 ⟨nv18, ha, hM, hF⟩
    refine KC.app ha ?_
    clear ha
    unfold F_law23_TablePlays_j2 at hF
    refine KC.cond rfl (fun hc => ?_) (fun hc => ?_)
    ·rw [if_pos hc] at hF
     refine KC.seqH fun Q20 hQ20 => ?_
     refine KC.region ?_
     refine RL.val (O.assign rfl) rfl ?_
     refine RL.val (O.assign rfl) rfl ?_
     refine RL.nil ?_
     refine KQ.thn hQ20 ?_
     clear hQ20 Q20
     refine KC.ret ?_
     refine KQ.thr hQ17 ?_
     clear hQ17 Q17
     refine KQ.rets Try.results8 (RVs.cons (RV.tm rfl) (RVs.cons (RV.tm rfl) RVs.nil)) ?_
     refine ⟨.tuple #[.pointer none, Value.int .i64 2], rfl, ?_⟩
     refine RL.val (O.move rfl) rfl ?_
     refine RL.val (O.ext rfl rfl) rfl ?_
     refine RL.val (O.ext rfl rfl) rfl ?_
     refine RL.val (O.assign rfl) rfl ?_
     refine RL.val (O.assign rfl) rfl ?_
     refine RL.nil ?_
     refine KQ.thn hQ15 ?_
     clear hQ15 Q15
     refine KC.seqH fun Q21 hQ21 => ?_
     refine KC.region ?_
     refine RL.val (O.move rfl) rfl ?_
     refine obindE hF fun y22 hx23 hF => ?_
     refine RL.call Try.func17 bd17 rfl rfl (c_ref23_New _ size1 _ hx23) fun v w24 hv => ?_
     obtain ⟨A26, c27, rfl, hN25⟩ := hv
     replace hM := hM.call hN25
     refine RL.val (O.move rfl) rfl ?_
     refine RL.val (O.ext rfl rfl) rfl ?_
     refine RL.val (O.ext rfl rfl) rfl ?_
     refine RL.val (O.assign rfl) rfl ?_
     refine RL.val (O.assign rfl) rfl ?_
     refine RL.nil ?_
     refine KQ.thn hQ21 ?_
     clear hQ21 Q21
     refine KC.seqH fun Q29 hQ29 => ?_
     refine KC.cut (fun a w32 => ∃ (t31 : Bool), Kn 171 [(0, Value.int .i64 size1), (1, .slice A3 (lv2).length c4), (5, .pointer none), (6, Value.int .i64 2), (7, .slice A26 (y22.1).length c27), (53, Value.bool t31)] a ∧ Mem w [] w32 [.row A26 c27 78 39 (y22.1).length ((y22.1).flatMap e_ref23_Slot)] ∧ F_law23_TablePlays_j3 t31 = some r) ?_ ?_
     ·refine KC.region ?_
      refine RL.val (O.move rfl) rfl ?_
      refine RL.val (O.move rfl) rfl ?_
      refine RL.val (O.neq rfl rfl) rfl ?_
      refine RL.val (O.move rfl) rfl ?_
      refine RL.bcase (t := 47) rfl (fun hc => ?_) (fun hc => ?_)
      ·rw [if_pos hc] at hF
       refine RL.brun1 6 53 true (by kernel_rfl) ?_
       refine RL.nil ?_
       refine KQ.then_k ?_
       exact fun a ha => ⟨true, ha.less (less_cons rfl (less_cons rfl (less_cons rfl (less_cons rfl (less_cons rfl (less_cons rfl less_nil)))))), hM, hF⟩
      ·rw [if_neg (ne_true hc)] at hF
       refine RL.gval rfl rfl (O.move rfl) rfl ?_
       refine RL.gval rfl rfl (O.peqn Try.underlying24 rfl rfl) rfl ?_
       refine RL.gval rfl rfl (O.move rfl) rfl ?_
       refine RL.gval rfl rfl (O.neq rfl rfl) rfl ?_
       refine RL.gval rfl rfl (O.neqb Try.underlying4 rfl rfl) rfl ?_
       refine RL.val (O.pickf rfl rfl) rfl ?_
       refine RL.nil ?_
       refine KQ.then_k ?_
       exact fun a ha => ⟨(!(true == true)), ha.less (less_cons rfl (less_cons rfl (less_cons rfl (less_cons rfl (less_cons rfl (less_cons rfl less_nil)))))), hM, hF⟩
     ·rintro a w32 ⟨t31, ha, hM, hF⟩
      refine KC.app ha ?_
      clear ha
      unfold F_law23_TablePlays_j3 at hF
      refine KC.cond rfl (fun hc => ?_) (fun hc => ?_)
      ·rw [if_pos hc] at hF
       refine KC.seqH fun Q33 hQ33 => ?_
       refine KC.region ?_
       refine RL.val (O.assign rfl) rfl ?_
       refine RL.nil ?_
       refine KQ.thn hQ33 ?_
       clear hQ33 Q33
       refine KC.ret ?_
       refine KQ.thr hQ29 ?_
       clear hQ29 Q29
       have hE := Option.some.inj hF
       clear hF
       subst hE
       replace hM := hM.pick [] rfl (by decide)
       refine KQ.rets Try.results4 (RVs.cons (RV.tm rfl) RVs.nil) ?_
       exact ⟨_, rfl, rfl, hM⟩
      ·rw [if_neg (ne_true hc)] at hF
       refine KC.skip ?_
       refine KQ.thn hQ29 ?_
       clear hQ29 Q29
       refine KC.seqH fun Q34 hQ34 => ?_
       refine KC.seqH fun Q35 hQ35 => ?_
       refine KC.region ?_
       refine RL.val (O.move rfl) rfl ?_
       refine RL.val (O.neq rfl rfl) rfl ?_
       refine RL.nil ?_
       refine KQ.thn hQ35 ?_
       clear hQ35 Q35
       refine KC.condT rfl ?_
       refine KC.seqH fun Q36 hQ36 => ?_
       refine KC.region ?_
       refine obindE hF fun y37 hx38 hF => ?_
       refine RL.call Try.func7 bd7 rfl rfl (c_law23_works _ _ hx38) fun v w39 hv => ?_
       obtain ⟨rfl, hN40⟩ := hv
       replace hM := hM.call0 hN40
       refine RL.val (O.assign rfl) rfl ?_
       refine RL.nil ?_
       refine KQ.thn hQ36 ?_
       clear hQ36 Q36
       refine KC.ret ?_
       refine KQ.thr hQ34 ?_
       clear hQ34 Q34
       have hE := Option.some.inj hF
       clear hF
       subst hE
       replace hM := hM.pick [] rfl (by decide)
       refine KQ.rets Try.results4 (RVs.cons (RV.tm rfl) RVs.nil) ?_
       exact ⟨_, rfl, rfl, hM⟩
    ·rw [if_neg (ne_true hc)] at hF
     refine KC.skip ?_
     refine KQ.thn hQ17 ?_
     clear hQ17 Q17
     refine KC.seqH fun Q41 hQ41 => ?_
     refine KC.region ?_
     refine RL.val (O.move rfl) rfl ?_
     refine cut_someE hF fun hq44 hF => ?_
     refine RL.eff (E.mks (enc := e_table_Slot) (zr := (T_table_Slot.mk false (T_packet_Key.mk (T_addr_Addr.mk false (List.replicate 16 0)) (T_addr_Addr.mk false (List.replicate 16 0)) 0 0 0) 0)) hM sl65 ze74 rfl rfl (fun _ => rfl) rfl rfl rfl (of_decide_eq_true hq44)) rfl fun v w43 hv => ?_
     clear hM
     obtain ⟨A42, rfl, hM, hf⟩ := hv
     refine RL.val (O.bld (cs := [.slice A42 ((List.replicate (Int.toNat size1) ((T_table_Slot.mk false (T_packet_Key.mk (T_addr_Addr.mk false (List.replicate 16 0)) (T_addr_Addr.mk false (List.replicate 16 0)) 0 0 0) 0) : T_table_Slot))).length (Int.toNat size1), Value.int .i64 0]) bt71 rfl (by kernel_rfl)) rfl ?_
     refine RL.eff (E.box (vs := [.slice A42 ((List.replicate (Int.toNat size1) ((T_table_Slot.mk false (T_packet_Key.mk (T_addr_Addr.mk false (List.replicate 16 0)) (T_addr_Addr.mk false (List.replicate 16 0)) 0 0 0) 0) : T_table_Slot))).length (Int.toNat size1), Value.int .i64 0]) hM rfl rfl) rfl fun v w47 hv => ?_
     clear hM
     obtain ⟨g46, rfl, hM, hf⟩ := hv
     refine RL.val (O.assign rfl) rfl ?_
     refine RL.val (O.assign rfl) rfl ?_
     refine RL.nil ?_
     refine KQ.thn hQ41 ?_
     clear hQ41 Q41
     refine KC.ret ?_
     refine KQ.rets Try.results8 (RVs.cons (RV.tm rfl) (RVs.cons (RV.tm rfl) RVs.nil)) ?_
     refine ⟨.tuple #[.pointer (some ⟨g46, 0, none⟩), Value.int .i64 0], rfl, ?_⟩
     refine RL.val (O.move rfl) rfl ?_
     refine RL.val (O.ext rfl rfl) rfl ?_
     refine RL.val (O.ext rfl rfl) rfl ?_
     refine RL.val (O.assign rfl) rfl ?_
     refine RL.val (O.assign rfl) rfl ?_
     refine RL.nil ?_
     refine KQ.thn hQ15 ?_
     clear hQ15 Q15
     refine KC.seqH fun Q49 hQ49 => ?_
     refine KC.region ?_
     refine RL.val (O.move rfl) rfl ?_
     refine obindE hF fun y50 hx51 hF => ?_
     refine RL.call Try.func17 bd17 rfl rfl (c_ref23_New _ size1 _ hx51) fun v w52 hv => ?_
     obtain ⟨A54, c55, rfl, hN53⟩ := hv
     replace hM := hM.call hN53
     refine RL.val (O.move rfl) rfl ?_
     refine RL.val (O.ext rfl rfl) rfl ?_
     refine RL.val (O.ext rfl rfl) rfl ?_
     refine RL.val (O.assign rfl) rfl ?_
     refine RL.val (O.assign rfl) rfl ?_
     refine RL.nil ?_
     refine KQ.thn hQ49 ?_
     clear hQ49 Q49
     refine KC.seqH fun Q57 hQ57 => ?_
     refine KC.cut (fun a w62 => ∃ (t61 : Bool), Kn 171 [(0, Value.int .i64 size1), (1, .slice A3 (lv2).length c4), (5, .pointer (some ⟨g46, 0, none⟩)), (6, Value.int .i64 0), (7, .slice A54 (y50.1).length c55), (53, Value.bool t61)] a ∧ Mem w [] w62 [.row A42 (Int.toNat size1) 74 39 ((List.replicate (Int.toNat size1) ((T_table_Slot.mk false (T_packet_Key.mk (T_addr_Addr.mk false (List.replicate 16 0)) (T_addr_Addr.mk false (List.replicate 16 0)) 0 0 0) 0) : T_table_Slot))).length (((List.replicate (Int.toNat size1) ((T_table_Slot.mk false (T_packet_Key.mk (T_addr_Addr.mk false (List.replicate 16 0)) (T_addr_Addr.mk false (List.replicate 16 0)) 0 0 0) 0) : T_table_Slot))).flatMap e_table_Slot), .box g46 71 [.slice A42 ((List.replicate (Int.toNat size1) ((T_table_Slot.mk false (T_packet_Key.mk (T_addr_Addr.mk false (List.replicate 16 0)) (T_addr_Addr.mk false (List.replicate 16 0)) 0 0 0) 0) : T_table_Slot))).length (Int.toNat size1), Value.int .i64 0], .row A54 c55 78 39 (y50.1).length ((y50.1).flatMap e_ref23_Slot)] ∧ F_law23_TablePlays_j4 size1 lv2 y50 t61 = some r) ?_ ?_
     ·refine KC.region ?_
      refine RL.val (O.move rfl) rfl ?_
      refine RL.val (O.move rfl) rfl ?_
      refine RL.val (O.neq rfl rfl) rfl ?_
      refine RL.val (O.move rfl) rfl ?_
      refine RL.bcase (t := 47) rfl (fun hc => ?_) (fun hc => ?_)
      ·rw [if_pos hc] at hF
       refine RL.brun1 6 53 true (by kernel_rfl) ?_
       refine RL.nil ?_
       refine KQ.then_k ?_
       exact fun a ha => ⟨true, ha.less (less_cons rfl (less_cons rfl (less_cons rfl (less_cons rfl (less_cons rfl (less_cons rfl less_nil)))))), hM, hF⟩
      ·rw [if_neg (ne_true hc)] at hF
       refine RL.gval rfl rfl (O.move rfl) rfl ?_
       refine RL.gval rfl rfl (O.peqn Try.underlying24 rfl rfl) rfl ?_
       refine RL.gval rfl rfl (O.move rfl) rfl ?_
       refine RL.gval rfl rfl (O.neq rfl rfl) rfl ?_
       refine RL.gval rfl rfl (O.neqb Try.underlying4 rfl rfl) rfl ?_
       refine RL.val (O.pickf rfl rfl) rfl ?_
       refine RL.nil ?_
       refine KQ.then_k ?_
       exact fun a ha => ⟨(!(false == false)), ha.less (less_cons rfl (less_cons rfl (less_cons rfl (less_cons rfl (less_cons rfl (less_cons rfl less_nil)))))), hM, hF⟩
     ·rintro a w62 ⟨t61, ha, hM, hF⟩
      refine KC.app ha ?_
      clear ha
      unfold F_law23_TablePlays_j4 at hF
      refine KC.cond rfl (fun hc => ?_) (fun hc => ?_)
      ·rw [if_pos hc] at hF
       refine KC.seqH fun Q63 hQ63 => ?_
       refine KC.region ?_
       refine RL.val (O.assign rfl) rfl ?_
       refine RL.nil ?_
       refine KQ.thn hQ63 ?_
       clear hQ63 Q63
       refine KC.ret ?_
       refine KQ.thr hQ57 ?_
       clear hQ57 Q57
       have hE := Option.some.inj hF
       clear hF
       subst hE
       replace hM := hM.pick [] rfl (by decide)
       refine KQ.rets Try.results4 (RVs.cons (RV.tm rfl) RVs.nil) ?_
       exact ⟨_, rfl, rfl, hM⟩
      ·rw [if_neg (ne_true hc)] at hF
       refine KC.skip ?_
       refine KQ.thn hQ57 ?_
       clear hQ57 Q57
       refine KC.seqH fun Q64 hQ64 => ?_
       refine KC.seqH fun Q65 hQ65 => ?_
       refine KC.region ?_
       refine RL.val (O.move rfl) rfl ?_
       refine RL.val (O.neq rfl rfl) rfl ?_
       refine RL.nil ?_
       refine KQ.thn hQ65 ?_
       clear hQ65 Q65
       refine KC.condF rfl ?_
       refine KC.skip ?_
       refine KQ.thn hQ64 ?_
       clear hQ64 Q64
       refine KC.seqH fun Q66 hQ66 => ?_
       refine KC.seqH fun Q67 hQ67 => ?_
       refine KC.region ?_
       refine RL.val (O.assign rfl) rfl ?_
       refine RL.nil ?_
       refine KQ.thn hQ67 ?_
       clear hQ67 Q67
       refine KC.block ?_
       refine KC.loop (fun k402 a w400 => ∃ (A390 : Option Addr) (c391 : Nat) (A395 : Option Addr) (c396 : Nat) (Z397 : List Nat) (t392 : List T_table_Slot) (t393 : Int) (rv398 : List T_ref23_Slot) (i399 : Int), Kn 171 [(0, Value.int .i64 size1), (1, .slice A3 (lv2).length c4), (5, .pointer (some ⟨g46, 0, none⟩)), (7, .slice A395 (rv398).length c396), (9, Value.int .i64 i399)] a ∧ Mem w [] w400 [.row A390 c391 74 39 (t392).length ((t392).flatMap e_table_Slot), .box g46 71 [.slice A390 (t392).length c391, Value.int .i64 t393], .res Z397 (RdP A395 c396 39 (rv398).length ((rv398).flatMap e_ref23_Slot))] ∧ F_law23_TablePlays_L1 size1 lv2 k402 t392 t393 rv398 i399 = some r) ?_ ?_
       ·obtain ⟨Z562, hM⟩ := hM.toRo (i := 2) rfl [0, 1] rfl (by decide) (by decide)
        exact fun a ha => ⟨fuel0, A42, (Int.toNat size1), A54, c55, Z562, (List.replicate (Int.toNat size1) ((T_table_Slot.mk false (T_packet_Key.mk (T_addr_Addr.mk false (List.replicate 16 0)) (T_addr_Addr.mk false (List.replicate 16 0)) 0 0 0) 0) : T_table_Slot)), 0, y50.1, 0, ha.less (less_cons rfl (less_cons rfl (less_cons rfl (less_cons rfl (less_cons rfl less_nil))))), hM, hF⟩
       ·rintro k402 a w400 ⟨A390, c391, A395, c396, Z397, t392, t393, rv398, i399, ha, hM, hF⟩
        refine KC.app ha ?_
        clear ha
        cases k402 with
        | zero => exact (none_some hF).elim
        | succ k402 =>
        have hF : F_law23_TablePlays_l1 (F_law23_TablePlays_L1 size1 lv2 k402) size1 lv2 t392 t393 rv398 i399 = some r := hF
        unfold F_law23_TablePlays_l1 at hF
        refine KC.seqH fun Q403 hQ403 => ?_
        refine KC.seqH fun Q404 hQ404 => ?_
        refine KC.region ?_
        refine RL.val (O.move rfl) rfl ?_
        refine RL.val (O.move rfl) rfl ?_
        refine RL.val (O.len sl22 rfl) rfl ?_
        refine RL.val (O.lss rfl rfl) rfl ?_
        refine RL.nil ?_
        refine KQ.thn hQ404 ?_
        clear hQ404 Q404
        refine KC.cond rfl (fun hc => ?_) (fun hc => ?_)
        ·rw [if_pos hc] at hF
         refine KC.skip ?_
         refine KQ.thn hQ403 ?_
         clear hQ403 Q403
         refine KC.seqH fun Q405 hQ405 => ?_
         refine KC.block ?_
         refine KC.seqH fun Q406 hQ406 => ?_
         refine KC.region ?_
         refine RL.val (O.move rfl) rfl ?_
         refine RL.val (O.move rfl) rfl ?_
         refine obindE hF fun xv409 hx408 hF => ?_
         have hA407 := Rd.atN (f := e_law23_Act) (s := 39) (fun _ => rfl) (by decide) (hM.inp hr5 Off.nil) hx408
         refine RL.val (O.idxA sl22 (hA407) rfl rfl) rfl ?_
         refine RL.val (O.loadN (cs := [Value.int .i64 xv409.f_Do, Value.bool xv409.f_K.f_Src.f_Six, o8 xv409.f_K.f_Src.f_B 0, o8 xv409.f_K.f_Src.f_B 1, o8 xv409.f_K.f_Src.f_B 2, o8 xv409.f_K.f_Src.f_B 3, o8 xv409.f_K.f_Src.f_B 4, o8 xv409.f_K.f_Src.f_B 5, o8 xv409.f_K.f_Src.f_B 6, o8 xv409.f_K.f_Src.f_B 7, o8 xv409.f_K.f_Src.f_B 8, o8 xv409.f_K.f_Src.f_B 9, o8 xv409.f_K.f_Src.f_B 10, o8 xv409.f_K.f_Src.f_B 11, o8 xv409.f_K.f_Src.f_B 12, o8 xv409.f_K.f_Src.f_B 13, o8 xv409.f_K.f_Src.f_B 14, o8 xv409.f_K.f_Src.f_B 15, Value.bool xv409.f_K.f_Dst.f_Six, o8 xv409.f_K.f_Dst.f_B 0, o8 xv409.f_K.f_Dst.f_B 1, o8 xv409.f_K.f_Dst.f_B 2, o8 xv409.f_K.f_Dst.f_B 3, o8 xv409.f_K.f_Dst.f_B 4, o8 xv409.f_K.f_Dst.f_B 5, o8 xv409.f_K.f_Dst.f_B 6, o8 xv409.f_K.f_Dst.f_B 7, o8 xv409.f_K.f_Dst.f_B 8, o8 xv409.f_K.f_Dst.f_B 9, o8 xv409.f_K.f_Dst.f_B 10, o8 xv409.f_K.f_Dst.f_B 11, o8 xv409.f_K.f_Dst.f_B 12, o8 xv409.f_K.f_Dst.f_B 13, o8 xv409.f_K.f_Dst.f_B 14, o8 xv409.f_K.f_Dst.f_B 15, Value.int .u8 xv409.f_K.f_Proto, Value.int .u16 xv409.f_K.f_SrcPort, Value.int .u16 xv409.f_K.f_DstPort, Value.int .u64 xv409.f_N]) ag38 rfl (hA407).cells) rfl ?_
         refine RL.eff (E.alloc hM ze38) rfl fun v w411 hv => ?_
         clear hM
         obtain ⟨g410, rfl, hM, hf⟩ := hv
         refine RL.effs (E.stB (j := 3) (off := 0) (vs := [Value.int .i64 xv409.f_Do, Value.bool xv409.f_K.f_Src.f_Six, o8 xv409.f_K.f_Src.f_B 0, o8 xv409.f_K.f_Src.f_B 1, o8 xv409.f_K.f_Src.f_B 2, o8 xv409.f_K.f_Src.f_B 3, o8 xv409.f_K.f_Src.f_B 4, o8 xv409.f_K.f_Src.f_B 5, o8 xv409.f_K.f_Src.f_B 6, o8 xv409.f_K.f_Src.f_B 7, o8 xv409.f_K.f_Src.f_B 8, o8 xv409.f_K.f_Src.f_B 9, o8 xv409.f_K.f_Src.f_B 10, o8 xv409.f_K.f_Src.f_B 11, o8 xv409.f_K.f_Src.f_B 12, o8 xv409.f_K.f_Src.f_B 13, o8 xv409.f_K.f_Src.f_B 14, o8 xv409.f_K.f_Src.f_B 15, Value.bool xv409.f_K.f_Dst.f_Six, o8 xv409.f_K.f_Dst.f_B 0, o8 xv409.f_K.f_Dst.f_B 1, o8 xv409.f_K.f_Dst.f_B 2, o8 xv409.f_K.f_Dst.f_B 3, o8 xv409.f_K.f_Dst.f_B 4, o8 xv409.f_K.f_Dst.f_B 5, o8 xv409.f_K.f_Dst.f_B 6, o8 xv409.f_K.f_Dst.f_B 7, o8 xv409.f_K.f_Dst.f_B 8, o8 xv409.f_K.f_Dst.f_B 9, o8 xv409.f_K.f_Dst.f_B 10, o8 xv409.f_K.f_Dst.f_B 11, o8 xv409.f_K.f_Dst.f_B 12, o8 xv409.f_K.f_Dst.f_B 13, o8 xv409.f_K.f_Dst.f_B 14, o8 xv409.f_K.f_Dst.f_B 15, Value.int .u8 xv409.f_K.f_Proto, Value.int .u16 xv409.f_K.f_SrcPort, Value.int .u16 xv409.f_K.f_DstPort, Value.int .u64 xv409.f_N]) (cs' := [Value.int .i64 xv409.f_Do, Value.bool xv409.f_K.f_Src.f_Six, o8 xv409.f_K.f_Src.f_B 0, o8 xv409.f_K.f_Src.f_B 1, o8 xv409.f_K.f_Src.f_B 2, o8 xv409.f_K.f_Src.f_B 3, o8 xv409.f_K.f_Src.f_B 4, o8 xv409.f_K.f_Src.f_B 5, o8 xv409.f_K.f_Src.f_B 6, o8 xv409.f_K.f_Src.f_B 7, o8 xv409.f_K.f_Src.f_B 8, o8 xv409.f_K.f_Src.f_B 9, o8 xv409.f_K.f_Src.f_B 10, o8 xv409.f_K.f_Src.f_B 11, o8 xv409.f_K.f_Src.f_B 12, o8 xv409.f_K.f_Src.f_B 13, o8 xv409.f_K.f_Src.f_B 14, o8 xv409.f_K.f_Src.f_B 15, Value.bool xv409.f_K.f_Dst.f_Six, o8 xv409.f_K.f_Dst.f_B 0, o8 xv409.f_K.f_Dst.f_B 1, o8 xv409.f_K.f_Dst.f_B 2, o8 xv409.f_K.f_Dst.f_B 3, o8 xv409.f_K.f_Dst.f_B 4, o8 xv409.f_K.f_Dst.f_B 5, o8 xv409.f_K.f_Dst.f_B 6, o8 xv409.f_K.f_Dst.f_B 7, o8 xv409.f_K.f_Dst.f_B 8, o8 xv409.f_K.f_Dst.f_B 9, o8 xv409.f_K.f_Dst.f_B 10, o8 xv409.f_K.f_Dst.f_B 11, o8 xv409.f_K.f_Dst.f_B 12, o8 xv409.f_K.f_Dst.f_B 13, o8 xv409.f_K.f_Dst.f_B 14, o8 xv409.f_K.f_Dst.f_B 15, Value.int .u8 xv409.f_K.f_Proto, Value.int .u16 xv409.f_K.f_SrcPort, Value.int .u16 xv409.f_K.f_DstPort, Value.int .u64 xv409.f_N]) hM rfl sz38 rfl (adds_eq [] rfl) rfl rfl (One.all rfl) rfl rfl) fun w413 hM1 => ?_
         clear hM
         have hM := hM1
         clear hM1
         refine RL.nil ?_
         refine KQ.thn hQ406 ?_
         clear hQ406 Q406
         refine KC.seqH fun Q414 hQ414 => ?_
         refine KC.region ?_
         refine RL.val (O.fldA fl38_1 (by decide) rfl) rfl ?_
         refine RL.val (O.loadN (cs := [Value.bool xv409.f_K.f_Src.f_Six, o8 xv409.f_K.f_Src.f_B 0, o8 xv409.f_K.f_Src.f_B 1, o8 xv409.f_K.f_Src.f_B 2, o8 xv409.f_K.f_Src.f_B 3, o8 xv409.f_K.f_Src.f_B 4, o8 xv409.f_K.f_Src.f_B 5, o8 xv409.f_K.f_Src.f_B 6, o8 xv409.f_K.f_Src.f_B 7, o8 xv409.f_K.f_Src.f_B 8, o8 xv409.f_K.f_Src.f_B 9, o8 xv409.f_K.f_Src.f_B 10, o8 xv409.f_K.f_Src.f_B 11, o8 xv409.f_K.f_Src.f_B 12, o8 xv409.f_K.f_Src.f_B 13, o8 xv409.f_K.f_Src.f_B 14, o8 xv409.f_K.f_Src.f_B 15, Value.bool xv409.f_K.f_Dst.f_Six, o8 xv409.f_K.f_Dst.f_B 0, o8 xv409.f_K.f_Dst.f_B 1, o8 xv409.f_K.f_Dst.f_B 2, o8 xv409.f_K.f_Dst.f_B 3, o8 xv409.f_K.f_Dst.f_B 4, o8 xv409.f_K.f_Dst.f_B 5, o8 xv409.f_K.f_Dst.f_B 6, o8 xv409.f_K.f_Dst.f_B 7, o8 xv409.f_K.f_Dst.f_B 8, o8 xv409.f_K.f_Dst.f_B 9, o8 xv409.f_K.f_Dst.f_B 10, o8 xv409.f_K.f_Dst.f_B 11, o8 xv409.f_K.f_Dst.f_B 12, o8 xv409.f_K.f_Dst.f_B 13, o8 xv409.f_K.f_Dst.f_B 14, o8 xv409.f_K.f_Dst.f_B 15, Value.int .u8 xv409.f_K.f_Proto, Value.int .u16 xv409.f_K.f_SrcPort, Value.int .u16 xv409.f_K.f_DstPort]) ag35 rfl (Cs.addsN [1] ((hM.bx (i := 3) rfl)) rfl)) rfl ?_
         refine obindE hF fun y415 hx416 hF => ?_
         refine RL.call Try.func18 bd18 rfl rfl (c_docs_Key _ xv409.f_K _ hx416) fun v w417 hv => ?_
         obtain ⟨rfl, hN418⟩ := hv
         replace hM := hM.call0 hN418
         refine RL.eff (E.alloc hM ze54) rfl fun v w420 hv => ?_
         clear hM
         obtain ⟨g419, rfl, hM, hf⟩ := hv
         refine RL.effs (E.stB (j := 4) (off := 0) (vs := [Value.bool y415.f_Src.f_Six, o8 y415.f_Src.f_B 0, o8 y415.f_Src.f_B 1, o8 y415.f_Src.f_B 2, o8 y415.f_Src.f_B 3, o8 y415.f_Src.f_B 4, o8 y415.f_Src.f_B 5, o8 y415.f_Src.f_B 6, o8 y415.f_Src.f_B 7, o8 y415.f_Src.f_B 8, o8 y415.f_Src.f_B 9, o8 y415.f_Src.f_B 10, o8 y415.f_Src.f_B 11, o8 y415.f_Src.f_B 12, o8 y415.f_Src.f_B 13, o8 y415.f_Src.f_B 14, o8 y415.f_Src.f_B 15, Value.bool y415.f_Dst.f_Six, o8 y415.f_Dst.f_B 0, o8 y415.f_Dst.f_B 1, o8 y415.f_Dst.f_B 2, o8 y415.f_Dst.f_B 3, o8 y415.f_Dst.f_B 4, o8 y415.f_Dst.f_B 5, o8 y415.f_Dst.f_B 6, o8 y415.f_Dst.f_B 7, o8 y415.f_Dst.f_B 8, o8 y415.f_Dst.f_B 9, o8 y415.f_Dst.f_B 10, o8 y415.f_Dst.f_B 11, o8 y415.f_Dst.f_B 12, o8 y415.f_Dst.f_B 13, o8 y415.f_Dst.f_B 14, o8 y415.f_Dst.f_B 15, Value.int .u8 y415.f_Proto, Value.int .u16 y415.f_SrcPort, Value.int .u16 y415.f_DstPort]) (cs' := [Value.bool y415.f_Src.f_Six, o8 y415.f_Src.f_B 0, o8 y415.f_Src.f_B 1, o8 y415.f_Src.f_B 2, o8 y415.f_Src.f_B 3, o8 y415.f_Src.f_B 4, o8 y415.f_Src.f_B 5, o8 y415.f_Src.f_B 6, o8 y415.f_Src.f_B 7, o8 y415.f_Src.f_B 8, o8 y415.f_Src.f_B 9, o8 y415.f_Src.f_B 10, o8 y415.f_Src.f_B 11, o8 y415.f_Src.f_B 12, o8 y415.f_Src.f_B 13, o8 y415.f_Src.f_B 14, o8 y415.f_Src.f_B 15, Value.bool y415.f_Dst.f_Six, o8 y415.f_Dst.f_B 0, o8 y415.f_Dst.f_B 1, o8 y415.f_Dst.f_B 2, o8 y415.f_Dst.f_B 3, o8 y415.f_Dst.f_B 4, o8 y415.f_Dst.f_B 5, o8 y415.f_Dst.f_B 6, o8 y415.f_Dst.f_B 7, o8 y415.f_Dst.f_B 8, o8 y415.f_Dst.f_B 9, o8 y415.f_Dst.f_B 10, o8 y415.f_Dst.f_B 11, o8 y415.f_Dst.f_B 12, o8 y415.f_Dst.f_B 13, o8 y415.f_Dst.f_B 14, o8 y415.f_Dst.f_B 15, Value.int .u8 y415.f_Proto, Value.int .u16 y415.f_SrcPort, Value.int .u16 y415.f_DstPort]) hM rfl sz54 rfl (adds_eq [] rfl) rfl rfl (One.all rfl) rfl rfl) fun w422 hM1 => ?_
         clear hM
         have hM := hM1
         clear hM1
         refine RL.nil ?_
         refine KQ.thn hQ414 ?_
         clear hQ414 Q414
         refine KC.cut (fun a w505 => ∃ (A494 : Option Addr) (c495 : Nat) (A499 : Option Addr) (c500 : Nat) (Z501 : List Nat) (t496 : List T_table_Slot) (t497 : Int) (rv502 : List T_ref23_Slot), Kn 171 [(0, Value.int .i64 size1), (1, .slice A3 (lv2).length c4), (5, .pointer (some ⟨g46, 0, none⟩)), (7, .slice A499 (rv502).length c500), (9, Value.int .i64 i399), (10, .pointer (some ⟨g410, 0, none⟩)), (11, .pointer (some ⟨g419, 0, none⟩))] a ∧ Mem w [] w505 [.row A494 c495 74 39 (t496).length ((t496).flatMap e_table_Slot), .box g46 71 [.slice A494 (t496).length c495, Value.int .i64 t497], .res Z501 (RdP A499 c500 39 (rv502).length ((rv502).flatMap e_ref23_Slot)), .box g410 38 [Value.int .i64 xv409.f_Do, Value.bool xv409.f_K.f_Src.f_Six, o8 xv409.f_K.f_Src.f_B 0, o8 xv409.f_K.f_Src.f_B 1, o8 xv409.f_K.f_Src.f_B 2, o8 xv409.f_K.f_Src.f_B 3, o8 xv409.f_K.f_Src.f_B 4, o8 xv409.f_K.f_Src.f_B 5, o8 xv409.f_K.f_Src.f_B 6, o8 xv409.f_K.f_Src.f_B 7, o8 xv409.f_K.f_Src.f_B 8, o8 xv409.f_K.f_Src.f_B 9, o8 xv409.f_K.f_Src.f_B 10, o8 xv409.f_K.f_Src.f_B 11, o8 xv409.f_K.f_Src.f_B 12, o8 xv409.f_K.f_Src.f_B 13, o8 xv409.f_K.f_Src.f_B 14, o8 xv409.f_K.f_Src.f_B 15, Value.bool xv409.f_K.f_Dst.f_Six, o8 xv409.f_K.f_Dst.f_B 0, o8 xv409.f_K.f_Dst.f_B 1, o8 xv409.f_K.f_Dst.f_B 2, o8 xv409.f_K.f_Dst.f_B 3, o8 xv409.f_K.f_Dst.f_B 4, o8 xv409.f_K.f_Dst.f_B 5, o8 xv409.f_K.f_Dst.f_B 6, o8 xv409.f_K.f_Dst.f_B 7, o8 xv409.f_K.f_Dst.f_B 8, o8 xv409.f_K.f_Dst.f_B 9, o8 xv409.f_K.f_Dst.f_B 10, o8 xv409.f_K.f_Dst.f_B 11, o8 xv409.f_K.f_Dst.f_B 12, o8 xv409.f_K.f_Dst.f_B 13, o8 xv409.f_K.f_Dst.f_B 14, o8 xv409.f_K.f_Dst.f_B 15, Value.int .u8 xv409.f_K.f_Proto, Value.int .u16 xv409.f_K.f_SrcPort, Value.int .u16 xv409.f_K.f_DstPort, Value.int .u64 xv409.f_N], .box g419 54 [Value.bool y415.f_Src.f_Six, o8 y415.f_Src.f_B 0, o8 y415.f_Src.f_B 1, o8 y415.f_Src.f_B 2, o8 y415.f_Src.f_B 3, o8 y415.f_Src.f_B 4, o8 y415.f_Src.f_B 5, o8 y415.f_Src.f_B 6, o8 y415.f_Src.f_B 7, o8 y415.f_Src.f_B 8, o8 y415.f_Src.f_B 9, o8 y415.f_Src.f_B 10, o8 y415.f_Src.f_B 11, o8 y415.f_Src.f_B 12, o8 y415.f_Src.f_B 13, o8 y415.f_Src.f_B 14, o8 y415.f_Src.f_B 15, Value.bool y415.f_Dst.f_Six, o8 y415.f_Dst.f_B 0, o8 y415.f_Dst.f_B 1, o8 y415.f_Dst.f_B 2, o8 y415.f_Dst.f_B 3, o8 y415.f_Dst.f_B 4, o8 y415.f_Dst.f_B 5, o8 y415.f_Dst.f_B 6, o8 y415.f_Dst.f_B 7, o8 y415.f_Dst.f_B 8, o8 y415.f_Dst.f_B 9, o8 y415.f_Dst.f_B 10, o8 y415.f_Dst.f_B 11, o8 y415.f_Dst.f_B 12, o8 y415.f_Dst.f_B 13, o8 y415.f_Dst.f_B 14, o8 y415.f_Dst.f_B 15, Value.int .u8 y415.f_Proto, Value.int .u16 y415.f_SrcPort, Value.int .u16 y415.f_DstPort]] ∧ F_law23_TablePlays_j5 i399 (F_law23_TablePlays_L1 size1 lv2 k402) xv409 y415 t496 t497 rv502 = some r) ?_ ?_
         ·refine KC.seqH fun Q423 hQ423 => ?_
          refine KC.region ?_
          refine RL.val (O.fldA fl38_0 (by decide) rfl) rfl ?_
          refine RL.val (O.load sc3 rfl (Cs.adds [0] ((hM.bx (i := 3) rfl)) rfl)) rfl ?_
          refine obindE hF fun y424 hx425 hF => ?_
          refine RL.call Try.func10 bd10 rfl rfl (c_kit_Pick _ xv409.f_Do 8 _ hx425) fun v w426 hv => ?_
          obtain ⟨rfl, hN427⟩ := hv
          replace hM := hM.call0 hN427
          refine RL.nil ?_
          refine KQ.thn hQ423 ?_
          clear hQ423 Q423
          refine KC.block ?_
          refine KC.cut (fun a w435 => ∃ (t434 : Bool), Kn 171 [(0, Value.int .i64 size1), (1, .slice A3 (lv2).length c4), (5, .pointer (some ⟨g46, 0, none⟩)), (7, .slice A395 (rv398).length c396), (9, Value.int .i64 i399), (10, .pointer (some ⟨g410, 0, none⟩)), (11, .pointer (some ⟨g419, 0, none⟩)), (72, Value.int .i64 y424), (90, Value.bool t434)] a ∧ Mem w [] w435 [.row A390 c391 74 39 (t392).length ((t392).flatMap e_table_Slot), .box g46 71 [.slice A390 (t392).length c391, Value.int .i64 t393], .res Z397 (RdP A395 c396 39 (rv398).length ((rv398).flatMap e_ref23_Slot)), .box g410 38 [Value.int .i64 xv409.f_Do, Value.bool xv409.f_K.f_Src.f_Six, o8 xv409.f_K.f_Src.f_B 0, o8 xv409.f_K.f_Src.f_B 1, o8 xv409.f_K.f_Src.f_B 2, o8 xv409.f_K.f_Src.f_B 3, o8 xv409.f_K.f_Src.f_B 4, o8 xv409.f_K.f_Src.f_B 5, o8 xv409.f_K.f_Src.f_B 6, o8 xv409.f_K.f_Src.f_B 7, o8 xv409.f_K.f_Src.f_B 8, o8 xv409.f_K.f_Src.f_B 9, o8 xv409.f_K.f_Src.f_B 10, o8 xv409.f_K.f_Src.f_B 11, o8 xv409.f_K.f_Src.f_B 12, o8 xv409.f_K.f_Src.f_B 13, o8 xv409.f_K.f_Src.f_B 14, o8 xv409.f_K.f_Src.f_B 15, Value.bool xv409.f_K.f_Dst.f_Six, o8 xv409.f_K.f_Dst.f_B 0, o8 xv409.f_K.f_Dst.f_B 1, o8 xv409.f_K.f_Dst.f_B 2, o8 xv409.f_K.f_Dst.f_B 3, o8 xv409.f_K.f_Dst.f_B 4, o8 xv409.f_K.f_Dst.f_B 5, o8 xv409.f_K.f_Dst.f_B 6, o8 xv409.f_K.f_Dst.f_B 7, o8 xv409.f_K.f_Dst.f_B 8, o8 xv409.f_K.f_Dst.f_B 9, o8 xv409.f_K.f_Dst.f_B 10, o8 xv409.f_K.f_Dst.f_B 11, o8 xv409.f_K.f_Dst.f_B 12, o8 xv409.f_K.f_Dst.f_B 13, o8 xv409.f_K.f_Dst.f_B 14, o8 xv409.f_K.f_Dst.f_B 15, Value.int .u8 xv409.f_K.f_Proto, Value.int .u16 xv409.f_K.f_SrcPort, Value.int .u16 xv409.f_K.f_DstPort, Value.int .u64 xv409.f_N], .box g419 54 [Value.bool y415.f_Src.f_Six, o8 y415.f_Src.f_B 0, o8 y415.f_Src.f_B 1, o8 y415.f_Src.f_B 2, o8 y415.f_Src.f_B 3, o8 y415.f_Src.f_B 4, o8 y415.f_Src.f_B 5, o8 y415.f_Src.f_B 6, o8 y415.f_Src.f_B 7, o8 y415.f_Src.f_B 8, o8 y415.f_Src.f_B 9, o8 y415.f_Src.f_B 10, o8 y415.f_Src.f_B 11, o8 y415.f_Src.f_B 12, o8 y415.f_Src.f_B 13, o8 y415.f_Src.f_B 14, o8 y415.f_Src.f_B 15, Value.bool y415.f_Dst.f_Six, o8 y415.f_Dst.f_B 0, o8 y415.f_Dst.f_B 1, o8 y415.f_Dst.f_B 2, o8 y415.f_Dst.f_B 3, o8 y415.f_Dst.f_B 4, o8 y415.f_Dst.f_B 5, o8 y415.f_Dst.f_B 6, o8 y415.f_Dst.f_B 7, o8 y415.f_Dst.f_B 8, o8 y415.f_Dst.f_B 9, o8 y415.f_Dst.f_B 10, o8 y415.f_Dst.f_B 11, o8 y415.f_Dst.f_B 12, o8 y415.f_Dst.f_B 13, o8 y415.f_Dst.f_B 14, o8 y415.f_Dst.f_B 15, Value.int .u8 y415.f_Proto, Value.int .u16 y415.f_SrcPort, Value.int .u16 y415.f_DstPort]] ∧ F_law23_TablePlays_j7 size1 t392 t393 rv398 i399 (F_law23_TablePlays_L1 size1 lv2 k402) xv409 y415 y424 t434 = some r) ?_ ?_
          ·refine KC.seqH fun Q428 hQ428 => ?_
           refine KC.region ?_
           refine RL.val (O.eql rfl rfl) rfl ?_
           refine RL.val (O.assign rfl) rfl ?_
           refine RL.nil ?_
           refine KQ.thn hQ428 ?_
           clear hQ428 Q428
           refine KC.cond rfl (fun hc => ?_) (fun hc => ?_)
           ·rw [if_pos hc] at hF
            refine KC.skip ?_
            refine KQ.then_k ?_
            exact fun a ha => ⟨(y424 == 4), ha.less (less_cons rfl (less_cons rfl (less_cons rfl (less_cons rfl (less_cons rfl (less_cons rfl (less_cons rfl (less_cons rfl (less_cons rfl less_nil))))))))), hM, hF⟩
           ·rw [if_neg (ne_true hc)] at hF
            refine KC.region ?_
            refine RL.val (O.eql rfl rfl) rfl ?_
            refine RL.val (O.assign rfl) rfl ?_
            refine RL.nil ?_
            refine KQ.then_k ?_
            exact fun a ha => ⟨(y424 == 5), ha.less (less_cons rfl (less_cons rfl (less_cons rfl (less_cons rfl (less_cons rfl (less_cons rfl (less_cons rfl (less_cons rfl (less_cons rfl less_nil))))))))), hM, hF⟩
          ·rintro a w435 ⟨t434, ha, hM, hF⟩
           refine KC.app ha ?_
           clear ha
           unfold F_law23_TablePlays_j7 at hF
           refine KC.cond rfl (fun hc => ?_) (fun hc => ?_)
           ·rw [if_pos hc] at hF
            refine KC.seqH fun Q436 hQ436 => ?_
            refine KC.region ?_
            refine RL.val (O.move rfl) rfl ?_
            refine RL.val (O.loadN (cs := [Value.bool y415.f_Src.f_Six, o8 y415.f_Src.f_B 0, o8 y415.f_Src.f_B 1, o8 y415.f_Src.f_B 2, o8 y415.f_Src.f_B 3, o8 y415.f_Src.f_B 4, o8 y415.f_Src.f_B 5, o8 y415.f_Src.f_B 6, o8 y415.f_Src.f_B 7, o8 y415.f_Src.f_B 8, o8 y415.f_Src.f_B 9, o8 y415.f_Src.f_B 10, o8 y415.f_Src.f_B 11, o8 y415.f_Src.f_B 12, o8 y415.f_Src.f_B 13, o8 y415.f_Src.f_B 14, o8 y415.f_Src.f_B 15, Value.bool y415.f_Dst.f_Six, o8 y415.f_Dst.f_B 0, o8 y415.f_Dst.f_B 1, o8 y415.f_Dst.f_B 2, o8 y415.f_Dst.f_B 3, o8 y415.f_Dst.f_B 4, o8 y415.f_Dst.f_B 5, o8 y415.f_Dst.f_B 6, o8 y415.f_Dst.f_B 7, o8 y415.f_Dst.f_B 8, o8 y415.f_Dst.f_B 9, o8 y415.f_Dst.f_B 10, o8 y415.f_Dst.f_B 11, o8 y415.f_Dst.f_B 12, o8 y415.f_Dst.f_B 13, o8 y415.f_Dst.f_B 14, o8 y415.f_Dst.f_B 15, Value.int .u8 y415.f_Proto, Value.int .u16 y415.f_SrcPort, Value.int .u16 y415.f_DstPort]) ag54 rfl (Cs.addsN [] ((hM.bx (i := 4) rfl)) rfl)) rfl ?_
            refine obindE hF fun y437 hx438 hF => ?_
            refine RL.call Try.func19 bd19 rfl rfl (c_ref23_Delete _ _ _ _ rv398 (hM.lent [2] rfl (by decide)) y415 _ hx438) fun v w439 hv => ?_
            obtain ⟨A441, c442, Z443, rfl, hN440⟩ := hv
            replace hM := hM.callL [2] [0, 1, 3, 4] rfl rfl (by decide) rfl hN440
            refine RL.val (O.move rfl) rfl ?_
            refine RL.val (O.ext rfl rfl) rfl ?_
            refine RL.val (O.ext rfl rfl) rfl ?_
            refine RL.val (O.assign rfl) rfl ?_
            refine RL.val (O.assign rfl) rfl ?_
            refine RL.nil ?_
            refine KQ.thn hQ436 ?_
            clear hQ436 Q436
            refine KC.seqH fun Q445 hQ445 => ?_
            refine KC.seqH fun Q446 hQ446 => ?_
            refine KC.region ?_
            refine RL.val (O.move rfl) rfl ?_
            refine RL.val (O.fldA fl38_1 (by decide) rfl) rfl ?_
            refine RL.val (O.loadN (cs := [Value.bool xv409.f_K.f_Src.f_Six, o8 xv409.f_K.f_Src.f_B 0, o8 xv409.f_K.f_Src.f_B 1, o8 xv409.f_K.f_Src.f_B 2, o8 xv409.f_K.f_Src.f_B 3, o8 xv409.f_K.f_Src.f_B 4, o8 xv409.f_K.f_Src.f_B 5, o8 xv409.f_K.f_Src.f_B 6, o8 xv409.f_K.f_Src.f_B 7, o8 xv409.f_K.f_Src.f_B 8, o8 xv409.f_K.f_Src.f_B 9, o8 xv409.f_K.f_Src.f_B 10, o8 xv409.f_K.f_Src.f_B 11, o8 xv409.f_K.f_Src.f_B 12, o8 xv409.f_K.f_Src.f_B 13, o8 xv409.f_K.f_Src.f_B 14, o8 xv409.f_K.f_Src.f_B 15, Value.bool xv409.f_K.f_Dst.f_Six, o8 xv409.f_K.f_Dst.f_B 0, o8 xv409.f_K.f_Dst.f_B 1, o8 xv409.f_K.f_Dst.f_B 2, o8 xv409.f_K.f_Dst.f_B 3, o8 xv409.f_K.f_Dst.f_B 4, o8 xv409.f_K.f_Dst.f_B 5, o8 xv409.f_K.f_Dst.f_B 6, o8 xv409.f_K.f_Dst.f_B 7, o8 xv409.f_K.f_Dst.f_B 8, o8 xv409.f_K.f_Dst.f_B 9, o8 xv409.f_K.f_Dst.f_B 10, o8 xv409.f_K.f_Dst.f_B 11, o8 xv409.f_K.f_Dst.f_B 12, o8 xv409.f_K.f_Dst.f_B 13, o8 xv409.f_K.f_Dst.f_B 14, o8 xv409.f_K.f_Dst.f_B 15, Value.int .u8 xv409.f_K.f_Proto, Value.int .u16 xv409.f_K.f_SrcPort, Value.int .u16 xv409.f_K.f_DstPort]) ag35 rfl (Cs.addsN [1] ((hM.bx (i := 2) rfl)) rfl)) rfl ?_
            refine obindE hF fun y447 hx448 hF => ?_
            refine RL.call Try.func13 bd13 rfl rfl (c_table_Table_Delete _ _ _ (T_table_Table.mk t392 t393) _ _ (hM.lent [1, 0] rfl (by decide)) xv409.f_K _ hx448) fun v w449 hv => ?_
            obtain ⟨A451, c452, rfl, hN450⟩ := hv
            replace hM := hM.callL [1, 0] [2, 3, 4] rfl rfl (by decide) rfl hN450
            refine RL.val (O.move rfl) rfl ?_
            refine RL.val (O.neqb Try.underlying4 rfl rfl) rfl ?_
            refine RL.nil ?_
            refine KQ.thn hQ446 ?_
            clear hQ446 Q446
            refine KC.cond rfl (fun hc => ?_) (fun hc => ?_)
            ·rw [if_pos hc] at hF
             refine KC.seqH fun Q454 hQ454 => ?_
             refine KC.region ?_
             refine RL.val (O.assign rfl) rfl ?_
             refine RL.nil ?_
             refine KQ.thn hQ454 ?_
             clear hQ454 Q454
             refine KC.ret ?_
             refine KQ.thr hQ445 ?_
             clear hQ445 Q445
             refine KQ.blk_r ?_
             refine KQ.then_r ?_
             refine KQ.blk_r ?_
             refine KQ.thr hQ405 ?_
             clear hQ405 Q405
             refine KQ.then_r ?_
             refine KQ.blk_r ?_
             refine KQ.thr hQ66 ?_
             clear hQ66 Q66
             have hE := Option.some.inj hF
             clear hF
             subst hE
             replace hM := hM.pick [] rfl (by decide)
             refine KQ.rets Try.results4 (RVs.cons (RV.tm rfl) RVs.nil) ?_
             exact ⟨_, rfl, rfl, hM⟩
            ·rw [if_neg (ne_true hc)] at hF
             refine KC.skip ?_
             refine KQ.thn hQ445 ?_
             clear hQ445 Q445
             refine KC.region ?_
             refine RL.val (O.move rfl) rfl ?_
             refine RL.val (O.assign rfl) rfl ?_
             refine RL.nil ?_
             refine KQ.blk_n ?_
             refine KQ.then_k ?_
             replace hM := hM.pick [4, 3, 2, 0, 1] rfl (by decide)
             exact fun a ha => ⟨A451, c452, A441, c442, Z443, y447.2.f_slots, y447.2.f_many, y437.1, ha.less (less_cons rfl (less_cons rfl (less_cons rfl (less_cons rfl (less_cons rfl (less_cons rfl (less_cons rfl less_nil))))))), hM, hF⟩
           ·rw [if_neg (ne_true hc)] at hF
            refine KC.seqH fun Q456 hQ456 => ?_
            refine KC.region ?_
            refine RL.val (O.eql rfl rfl) rfl ?_
            refine RL.val (O.assign rfl) rfl ?_
            refine RL.nil ?_
            refine KQ.thn hQ456 ?_
            clear hQ456 Q456
            refine KC.cond rfl (fun hc => ?_) (fun hc => ?_)
            ·rw [if_pos hc] at hF
             refine KC.skip ?_
             refine KQ.blk_n ?_
             refine KQ.then_k ?_
             exact fun a ha => ⟨A390, c391, A395, c396, Z397, t392, t393, rv398, ha.less (less_cons rfl (less_cons rfl (less_cons rfl (less_cons rfl (less_cons rfl (less_cons rfl (less_cons rfl less_nil))))))), hM, hF⟩
            ·rw [if_neg (ne_true hc)] at hF
             refine KC.seqH fun Q458 hQ458 => ?_
             refine KC.region ?_
             refine RL.val (O.eql rfl rfl) rfl ?_
             refine RL.val (O.assign rfl) rfl ?_
             refine RL.nil ?_
             refine KQ.thn hQ458 ?_
             clear hQ458 Q458
             refine KC.cond rfl (fun hc => ?_) (fun hc => ?_)
             ·rw [if_pos hc] at hF
              refine KC.seqH fun Q459 hQ459 => ?_
              refine KC.region ?_
              refine RL.val (O.fldA fl38_2 (by decide) rfl) rfl ?_
              refine RL.val (O.load sc36 rfl (Cs.adds [38] ((hM.bx (i := 3) rfl)) rfl)) rfl ?_
              refine RL.val (O.rem rfl rfl (by decide)) rfl ?_
              refine RL.val (O.eql rfl rfl) rfl ?_
              refine RL.nil ?_
              refine KQ.thn hQ459 ?_
              clear hQ459 Q459
              refine KC.cond rfl (fun hc => ?_) (fun hc => ?_)
              ·rw [if_pos hc] at hF
               refine KC.seqH fun Q460 hQ460 => ?_
               refine KC.region ?_
               refine RL.val (O.move rfl) rfl ?_
               refine obindE hF fun y461 hx462 hF => ?_
               refine RL.call Try.func20 bd20 rfl rfl (c_table_Table_Clear _ _ _ (T_table_Table.mk t392 t393) _ _ (hM.lent [1, 0] rfl (by decide)) _ hx462) fun v w463 hv => ?_
               obtain ⟨A465, c466, rfl, hN464⟩ := hv
               replace hM := hM.callL [1, 0] [2, 3, 4] rfl rfl (by decide) rfl hN464
               refine RL.nil ?_
               refine KQ.thn hQ460 ?_
               clear hQ460 Q460
               replace hM := hM.pick [1, 2, 3, 4] rfl (by decide)
               refine KC.region ?_
               refine RL.val (O.move rfl) rfl ?_
               refine obindE hF fun y468 hx469 hF => ?_
               refine RL.call Try.func17 bd17 rfl rfl (c_ref23_New _ size1 _ hx469) fun v w470 hv => ?_
               obtain ⟨A472, c473, rfl, hN471⟩ := hv
               replace hM := hM.call hN471
               refine RL.val (O.move rfl) rfl ?_
               refine RL.val (O.ext rfl rfl) rfl ?_
               refine RL.val (O.ext rfl rfl) rfl ?_
               refine RL.val (O.assign rfl) rfl ?_
               refine RL.nil ?_
               refine KQ.blk_n ?_
               refine KQ.then_k ?_
               obtain ⟨Z475, hM⟩ := hM.toRo (i := 4) rfl [0, 1, 2, 3] rfl (by decide) (by decide)
               replace hM := hM.pick [3, 2, 4, 0, 1] rfl (by decide)
               exact fun a ha => ⟨A465, c466, A472, c473, Z475, y461.f_slots, y461.f_many, y468.1, ha.less (less_cons rfl (less_cons rfl (less_cons rfl (less_cons rfl (less_cons rfl (less_cons rfl (less_cons rfl less_nil))))))), hM, hF⟩
              ·rw [if_neg (ne_true hc)] at hF
               refine KC.skip ?_
               refine KQ.blk_n ?_
               refine KQ.then_k ?_
               exact fun a ha => ⟨A390, c391, A395, c396, Z397, t392, t393, rv398, ha.less (less_cons rfl (less_cons rfl (less_cons rfl (less_cons rfl (less_cons rfl (less_cons rfl (less_cons rfl less_nil))))))), hM, hF⟩
             ·rw [if_neg (ne_true hc)] at hF
              refine KC.seqH fun Q477 hQ477 => ?_
              refine KC.region ?_
              refine RL.val (O.move rfl) rfl ?_
              refine RL.val (O.loadN (cs := [Value.bool y415.f_Src.f_Six, o8 y415.f_Src.f_B 0, o8 y415.f_Src.f_B 1, o8 y415.f_Src.f_B 2, o8 y415.f_Src.f_B 3, o8 y415.f_Src.f_B 4, o8 y415.f_Src.f_B 5, o8 y415.f_Src.f_B 6, o8 y415.f_Src.f_B 7, o8 y415.f_Src.f_B 8, o8 y415.f_Src.f_B 9, o8 y415.f_Src.f_B 10, o8 y415.f_Src.f_B 11, o8 y415.f_Src.f_B 12, o8 y415.f_Src.f_B 13, o8 y415.f_Src.f_B 14, o8 y415.f_Src.f_B 15, Value.bool y415.f_Dst.f_Six, o8 y415.f_Dst.f_B 0, o8 y415.f_Dst.f_B 1, o8 y415.f_Dst.f_B 2, o8 y415.f_Dst.f_B 3, o8 y415.f_Dst.f_B 4, o8 y415.f_Dst.f_B 5, o8 y415.f_Dst.f_B 6, o8 y415.f_Dst.f_B 7, o8 y415.f_Dst.f_B 8, o8 y415.f_Dst.f_B 9, o8 y415.f_Dst.f_B 10, o8 y415.f_Dst.f_B 11, o8 y415.f_Dst.f_B 12, o8 y415.f_Dst.f_B 13, o8 y415.f_Dst.f_B 14, o8 y415.f_Dst.f_B 15, Value.int .u8 y415.f_Proto, Value.int .u16 y415.f_SrcPort, Value.int .u16 y415.f_DstPort]) ag54 rfl (Cs.addsN [] ((hM.bx (i := 4) rfl)) rfl)) rfl ?_
              refine RL.val (O.fldA fl38_2 (by decide) rfl) rfl ?_
              refine RL.val (O.load sc36 rfl (Cs.adds [38] ((hM.bx (i := 3) rfl)) rfl)) rfl ?_
              refine obindE hF fun y478 hx479 hF => ?_
              refine RL.call Try.func21 bd21 rfl rfl (c_ref23_Put _ _ _ _ rv398 (hM.lent [2] rfl (by decide)) y415 xv409.f_N _ hx479) fun v w480 hv => ?_
              obtain ⟨A482, c483, Z484, rfl, hN481⟩ := hv
              replace hM := hM.callL [2] [0, 1, 3, 4] rfl rfl (by decide) rfl hN481
              refine RL.val (O.move rfl) rfl ?_
              refine RL.val (O.ext rfl rfl) rfl ?_
              refine RL.val (O.ext rfl rfl) rfl ?_
              refine RL.val (O.assign rfl) rfl ?_
              refine RL.val (O.assign rfl) rfl ?_
              refine RL.nil ?_
              refine KQ.thn hQ477 ?_
              clear hQ477 Q477
              refine KC.seqH fun Q486 hQ486 => ?_
              refine KC.seqH fun Q487 hQ487 => ?_
              refine KC.region ?_
              refine RL.val (O.move rfl) rfl ?_
              refine RL.val (O.fldA fl38_1 (by decide) rfl) rfl ?_
              refine RL.val (O.loadN (cs := [Value.bool xv409.f_K.f_Src.f_Six, o8 xv409.f_K.f_Src.f_B 0, o8 xv409.f_K.f_Src.f_B 1, o8 xv409.f_K.f_Src.f_B 2, o8 xv409.f_K.f_Src.f_B 3, o8 xv409.f_K.f_Src.f_B 4, o8 xv409.f_K.f_Src.f_B 5, o8 xv409.f_K.f_Src.f_B 6, o8 xv409.f_K.f_Src.f_B 7, o8 xv409.f_K.f_Src.f_B 8, o8 xv409.f_K.f_Src.f_B 9, o8 xv409.f_K.f_Src.f_B 10, o8 xv409.f_K.f_Src.f_B 11, o8 xv409.f_K.f_Src.f_B 12, o8 xv409.f_K.f_Src.f_B 13, o8 xv409.f_K.f_Src.f_B 14, o8 xv409.f_K.f_Src.f_B 15, Value.bool xv409.f_K.f_Dst.f_Six, o8 xv409.f_K.f_Dst.f_B 0, o8 xv409.f_K.f_Dst.f_B 1, o8 xv409.f_K.f_Dst.f_B 2, o8 xv409.f_K.f_Dst.f_B 3, o8 xv409.f_K.f_Dst.f_B 4, o8 xv409.f_K.f_Dst.f_B 5, o8 xv409.f_K.f_Dst.f_B 6, o8 xv409.f_K.f_Dst.f_B 7, o8 xv409.f_K.f_Dst.f_B 8, o8 xv409.f_K.f_Dst.f_B 9, o8 xv409.f_K.f_Dst.f_B 10, o8 xv409.f_K.f_Dst.f_B 11, o8 xv409.f_K.f_Dst.f_B 12, o8 xv409.f_K.f_Dst.f_B 13, o8 xv409.f_K.f_Dst.f_B 14, o8 xv409.f_K.f_Dst.f_B 15, Value.int .u8 xv409.f_K.f_Proto, Value.int .u16 xv409.f_K.f_SrcPort, Value.int .u16 xv409.f_K.f_DstPort]) ag35 rfl (Cs.addsN [1] ((hM.bx (i := 2) rfl)) rfl)) rfl ?_
              refine RL.val (O.fldA fl38_2 (by decide) rfl) rfl ?_
              refine RL.val (O.load sc36 rfl (Cs.adds [38] ((hM.bx (i := 2) rfl)) rfl)) rfl ?_
              refine obindE hF fun y488 hx489 hF => ?_
              refine RL.call Try.func11 bd11 rfl rfl (c_table_Table_Put _ _ _ (T_table_Table.mk t392 t393) _ _ (hM.lent [1, 0] rfl (by decide)) xv409.f_K xv409.f_N _ hx489) fun v w490 hv => ?_
              obtain ⟨A492, c493, rfl, hN491⟩ := hv
              replace hM := hM.callL [1, 0] [2, 3, 4] rfl rfl (by decide) rfl hN491
              refine RL.val (O.move rfl) rfl ?_
              refine RL.val (O.neq rfl rfl) rfl ?_
              refine RL.nil ?_
              refine KQ.thn hQ487 ?_
              clear hQ487 Q487
              refine KC.cond rfl (fun hc => ?_) (fun hc => ?_)
              ·rw [if_pos hc] at hF
               refine KC.seqH fun Q495 hQ495 => ?_
               refine KC.region ?_
               refine RL.val (O.assign rfl) rfl ?_
               refine RL.nil ?_
               refine KQ.thn hQ495 ?_
               clear hQ495 Q495
               refine KC.ret ?_
               refine KQ.thr hQ486 ?_
               clear hQ486 Q486
               refine KQ.blk_r ?_
               refine KQ.then_r ?_
               refine KQ.blk_r ?_
               refine KQ.thr hQ405 ?_
               clear hQ405 Q405
               refine KQ.then_r ?_
               refine KQ.blk_r ?_
               refine KQ.thr hQ66 ?_
               clear hQ66 Q66
               have hE := Option.some.inj hF
               clear hF
               subst hE
               replace hM := hM.pick [] rfl (by decide)
               refine KQ.rets Try.results4 (RVs.cons (RV.tm rfl) RVs.nil) ?_
               exact ⟨_, rfl, rfl, hM⟩
              ·rw [if_neg (ne_true hc)] at hF
               refine KC.skip ?_
               refine KQ.thn hQ486 ?_
               clear hQ486 Q486
               refine KC.region ?_
               refine RL.val (O.move rfl) rfl ?_
               refine RL.val (O.assign rfl) rfl ?_
               refine RL.nil ?_
               refine KQ.blk_n ?_
               refine KQ.then_k ?_
               replace hM := hM.pick [4, 3, 2, 0, 1] rfl (by decide)
               exact fun a ha => ⟨A492, c493, A482, c483, Z484, y488.2.f_slots, y488.2.f_many, y478.1, ha.less (less_cons rfl (less_cons rfl (less_cons rfl (less_cons rfl (less_cons rfl (less_cons rfl (less_cons rfl less_nil))))))), hM, hF⟩
         ·rintro a w505 ⟨A494, c495, A499, c500, Z501, t496, t497, rv502, ha, hM, hF⟩
          refine KC.app ha ?_
          clear ha
          unfold F_law23_TablePlays_j5 at hF
          refine KC.seqH fun Q506 hQ506 => ?_
          refine KC.region ?_
          refine RL.val (O.move rfl) rfl ?_
          refine RL.val (O.fldA fl38_1 (by decide) rfl) rfl ?_
          refine RL.val (O.loadN (cs := [Value.bool xv409.f_K.f_Src.f_Six, o8 xv409.f_K.f_Src.f_B 0, o8 xv409.f_K.f_Src.f_B 1, o8 xv409.f_K.f_Src.f_B 2, o8 xv409.f_K.f_Src.f_B 3, o8 xv409.f_K.f_Src.f_B 4, o8 xv409.f_K.f_Src.f_B 5, o8 xv409.f_K.f_Src.f_B 6, o8 xv409.f_K.f_Src.f_B 7, o8 xv409.f_K.f_Src.f_B 8, o8 xv409.f_K.f_Src.f_B 9, o8 xv409.f_K.f_Src.f_B 10, o8 xv409.f_K.f_Src.f_B 11, o8 xv409.f_K.f_Src.f_B 12, o8 xv409.f_K.f_Src.f_B 13, o8 xv409.f_K.f_Src.f_B 14, o8 xv409.f_K.f_Src.f_B 15, Value.bool xv409.f_K.f_Dst.f_Six, o8 xv409.f_K.f_Dst.f_B 0, o8 xv409.f_K.f_Dst.f_B 1, o8 xv409.f_K.f_Dst.f_B 2, o8 xv409.f_K.f_Dst.f_B 3, o8 xv409.f_K.f_Dst.f_B 4, o8 xv409.f_K.f_Dst.f_B 5, o8 xv409.f_K.f_Dst.f_B 6, o8 xv409.f_K.f_Dst.f_B 7, o8 xv409.f_K.f_Dst.f_B 8, o8 xv409.f_K.f_Dst.f_B 9, o8 xv409.f_K.f_Dst.f_B 10, o8 xv409.f_K.f_Dst.f_B 11, o8 xv409.f_K.f_Dst.f_B 12, o8 xv409.f_K.f_Dst.f_B 13, o8 xv409.f_K.f_Dst.f_B 14, o8 xv409.f_K.f_Dst.f_B 15, Value.int .u8 xv409.f_K.f_Proto, Value.int .u16 xv409.f_K.f_SrcPort, Value.int .u16 xv409.f_K.f_DstPort]) ag35 rfl (Cs.addsN [1] ((hM.bx (i := 3) rfl)) rfl)) rfl ?_
          refine obindE hF fun y507 hx508 hF => ?_
          refine RL.call Try.func15 bd15 rfl rfl (c_table_Table_Get _ _ _ (T_table_Table.mk t496 t497) _ _ (hM.lent [1, 0] rfl (by decide)) xv409.f_K _ hx508) fun v w509 hv => ?_
          obtain ⟨A511, c512, rfl, hN510⟩ := hv
          replace hM := hM.callL [1, 0] [2, 3, 4] rfl rfl (by decide) rfl hN510
          refine RL.val (O.move rfl) rfl ?_
          refine RL.val (O.ext rfl rfl) rfl ?_
          refine RL.val (O.ext rfl rfl) rfl ?_
          refine RL.val (O.assign rfl) rfl ?_
          refine RL.val (O.assign rfl) rfl ?_
          refine RL.nil ?_
          refine KQ.thn hQ506 ?_
          clear hQ506 Q506
          refine KC.seqH fun Q514 hQ514 => ?_
          refine KC.region ?_
          refine RL.val (O.move rfl) rfl ?_
          refine RL.val (O.loadN (cs := [Value.bool y415.f_Src.f_Six, o8 y415.f_Src.f_B 0, o8 y415.f_Src.f_B 1, o8 y415.f_Src.f_B 2, o8 y415.f_Src.f_B 3, o8 y415.f_Src.f_B 4, o8 y415.f_Src.f_B 5, o8 y415.f_Src.f_B 6, o8 y415.f_Src.f_B 7, o8 y415.f_Src.f_B 8, o8 y415.f_Src.f_B 9, o8 y415.f_Src.f_B 10, o8 y415.f_Src.f_B 11, o8 y415.f_Src.f_B 12, o8 y415.f_Src.f_B 13, o8 y415.f_Src.f_B 14, o8 y415.f_Src.f_B 15, Value.bool y415.f_Dst.f_Six, o8 y415.f_Dst.f_B 0, o8 y415.f_Dst.f_B 1, o8 y415.f_Dst.f_B 2, o8 y415.f_Dst.f_B 3, o8 y415.f_Dst.f_B 4, o8 y415.f_Dst.f_B 5, o8 y415.f_Dst.f_B 6, o8 y415.f_Dst.f_B 7, o8 y415.f_Dst.f_B 8, o8 y415.f_Dst.f_B 9, o8 y415.f_Dst.f_B 10, o8 y415.f_Dst.f_B 11, o8 y415.f_Dst.f_B 12, o8 y415.f_Dst.f_B 13, o8 y415.f_Dst.f_B 14, o8 y415.f_Dst.f_B 15, Value.int .u8 y415.f_Proto, Value.int .u16 y415.f_SrcPort, Value.int .u16 y415.f_DstPort]) ag54 rfl (Cs.addsN [] ((hM.bx (i := 2) rfl)) rfl)) rfl ?_
          refine obindE hF fun y515 hx516 hF => ?_
          refine RL.call Try.func22 bd22 rfl rfl (c_ref23_Get _ _ _ rv502 (hM.rdP (i := 0) rfl) y415 _ hx516) fun v w517 hv => ?_
          obtain ⟨rfl, hN518⟩ := hv
          replace hM := hM.call0 hN518
          refine RL.val (O.move rfl) rfl ?_
          refine RL.val (O.ext rfl rfl) rfl ?_
          refine RL.val (O.ext rfl rfl) rfl ?_
          refine RL.val (O.assign rfl) rfl ?_
          refine RL.val (O.assign rfl) rfl ?_
          refine RL.nil ?_
          refine KQ.thn hQ514 ?_
          clear hQ514 Q514
          refine KC.seqH fun Q519 hQ519 => ?_
          refine KC.region ?_
          refine RL.val (O.move rfl) rfl ?_
          refine RL.val (O.loadN (cs := [Value.bool y415.f_Src.f_Six, o8 y415.f_Src.f_B 0, o8 y415.f_Src.f_B 1, o8 y415.f_Src.f_B 2, o8 y415.f_Src.f_B 3, o8 y415.f_Src.f_B 4, o8 y415.f_Src.f_B 5, o8 y415.f_Src.f_B 6, o8 y415.f_Src.f_B 7, o8 y415.f_Src.f_B 8, o8 y415.f_Src.f_B 9, o8 y415.f_Src.f_B 10, o8 y415.f_Src.f_B 11, o8 y415.f_Src.f_B 12, o8 y415.f_Src.f_B 13, o8 y415.f_Src.f_B 14, o8 y415.f_Src.f_B 15, Value.bool y415.f_Dst.f_Six, o8 y415.f_Dst.f_B 0, o8 y415.f_Dst.f_B 1, o8 y415.f_Dst.f_B 2, o8 y415.f_Dst.f_B 3, o8 y415.f_Dst.f_B 4, o8 y415.f_Dst.f_B 5, o8 y415.f_Dst.f_B 6, o8 y415.f_Dst.f_B 7, o8 y415.f_Dst.f_B 8, o8 y415.f_Dst.f_B 9, o8 y415.f_Dst.f_B 10, o8 y415.f_Dst.f_B 11, o8 y415.f_Dst.f_B 12, o8 y415.f_Dst.f_B 13, o8 y415.f_Dst.f_B 14, o8 y415.f_Dst.f_B 15, Value.int .u8 y415.f_Proto, Value.int .u16 y415.f_SrcPort, Value.int .u16 y415.f_DstPort]) ag54 rfl (Cs.addsN [] ((hM.bx (i := 2) rfl)) rfl)) rfl ?_
          refine obindE hF fun y520 hx521 hF => ?_
          refine RL.call Try.func23 bd23 rfl rfl (c_ref23_Find _ _ _ rv502 (hM.rdP (i := 0) rfl) y415 _ hx521) fun v w522 hv => ?_
          obtain ⟨rfl, hN523⟩ := hv
          replace hM := hM.call0 hN523
          refine RL.val (O.move rfl) rfl ?_
          refine RL.val (O.ext rfl rfl) rfl ?_
          refine RL.val (O.ext rfl rfl) rfl ?_
          refine RL.val (O.assign rfl) rfl ?_
          refine RL.val (O.assign rfl) rfl ?_
          refine RL.nil ?_
          refine KQ.thn hQ519 ?_
          clear hQ519 Q519
          refine KC.cut (fun a w554 => ∃ (A548 : Option Addr) (c549 : Nat) (t550 : List T_table_Slot) (t551 : Int) (t553 : Bool), Kn 171 [(0, Value.int .i64 size1), (1, .slice A3 (lv2).length c4), (5, .pointer (some ⟨g46, 0, none⟩)), (7, .slice A499 (rv502).length c500), (9, Value.int .i64 i399), (169, Value.bool t553)] a ∧ Mem w [] w554 [.row A548 c549 74 39 (t550).length ((t550).flatMap e_table_Slot), .box g46 71 [.slice A548 (t550).length c549, Value.int .i64 t551], .res Z501 (RdP A499 c500 39 (rv502).length ((rv502).flatMap e_ref23_Slot))] ∧ F_law23_TablePlays_j6 i399 (F_law23_TablePlays_L1 size1 lv2 k402) rv502 t550 t551 t553 = some r) ?_ ?_
          ·replace hM := hM.drewN 1
           refine KC.draw [] [12, 27] [12, 19, 21, 27] [0, 1, 2, 3, 4, 5, 6, 7, 8, 9, 10, 13, 14, 15, 16, 17, 22, 23, 24, 25, 26, 28, 29] (.ofList [0, 1, 2, 3, 4, 5, 6, 7, 8, 9, 10, 11, 13, 12, 14, 15, 16, 17, 18, 20, 19, 21, 22, 23, 24, 25, 26, 27, 28, 29]) moP (by kernel_rfl) ?_
           refine RD.p rfl rfl rfl rfl (fun w' => O.move rfl) ?_
           refine RD.p rfl rfl rfl rfl (fun w' => O.move rfl) ?_
           refine RD.p rfl rfl rfl rfl (fun w' => O.neq rfl rfl) ?_
           refine RD.p rfl rfl rfl rfl (fun w' => O.move rfl) ?_
           refine RD.bcase (t := 143) rfl (fun hc => ?_) (fun hc => ?_)
           ·rw [if_pos hc] at hF
            refine RD.gskip rfl rfl rfl rfl rfl ?_
            refine RD.gskip rfl rfl rfl rfl rfl ?_
            refine RD.gskip rfl rfl rfl rfl rfl ?_
            refine RD.p rfl rfl rfl rfl (fun w' => O.pickt rfl rfl) ?_
            refine RD.p rfl rfl rfl rfl (fun w' => O.move rfl) ?_
            refine RD.gskip rfl rfl rfl rfl rfl ?_
            refine RD.gskip rfl rfl rfl rfl rfl ?_
            refine RD.gskip rfl rfl rfl rfl rfl ?_
            refine RD.gskip rfl rfl rfl rfl rfl ?_
            refine RD.gskip rfl rfl rfl rfl rfl ?_
            refine RD.gskip rfl rfl rfl rfl rfl ?_
            refine RD.p rfl rfl rfl rfl (fun w' => O.pickt rfl rfl) ?_
            refine RD.p rfl rfl rfl rfl (fun w' => O.move rfl) ?_
            refine RD.gskip rfl rfl rfl rfl rfl ?_
            refine RD.gskip rfl rfl rfl rfl rfl ?_
            refine RD.gskip rfl rfl rfl rfl rfl ?_
            refine RD.gskip rfl rfl rfl rfl rfl ?_
            refine RD.gskip rfl rfl rfl rfl rfl ?_
            refine RD.gskip rfl rfl rfl rfl rfl ?_
            refine RD.p rfl rfl rfl rfl (fun w' => O.pickt rfl rfl) ?_
            refine RD.p rfl rfl rfl rfl (fun w' => O.move rfl) ?_
            refine RD.gskip rfl rfl rfl rfl rfl ?_
            refine RD.gskip rfl rfl rfl rfl rfl ?_
            refine RD.gskip rfl rfl rfl rfl rfl ?_
            refine RD.gskip rfl rfl rfl rfl rfl ?_
            refine RD.p rfl rfl rfl rfl (fun w' => O.pickt rfl rfl) ?_
            refine RD.nil ?_
            refine KQ.then_k ?_
            replace hM := hM.pick [4, 3, 0] rfl (by decide)
            exact fun a ha => ⟨A511, c512, y507.2.2.f_slots, y507.2.2.f_many, true, ha.less (less_cons rfl (less_cons rfl (less_cons rfl (less_cons rfl (less_cons rfl (less_cons rfl less_nil)))))), hM, hF⟩
           ·rw [if_neg (ne_true hc)] at hF
            refine RD.gp rfl rfl rfl rfl rfl rfl (fun w' => O.move rfl) ?_
            refine RD.gp rfl rfl rfl rfl rfl rfl (fun w' => O.move rfl) ?_
            refine RD.gp rfl rfl rfl rfl rfl rfl (fun w' => O.neqb Try.underlying4 rfl rfl) ?_
            refine RD.p rfl rfl rfl rfl (fun w' => O.pickf rfl rfl) ?_
            refine RD.p rfl rfl rfl rfl (fun w' => O.move rfl) ?_
            refine RD.bcase (t := 148) rfl (fun hc => ?_) (fun hc => ?_)
            ·rw [if_pos hc] at hF
             refine RD.gskip rfl rfl rfl rfl rfl ?_
             refine RD.gskip rfl rfl rfl rfl rfl ?_
             refine RD.gskip rfl rfl rfl rfl rfl ?_
             refine RD.gskip rfl rfl rfl rfl rfl ?_
             refine RD.gskip rfl rfl rfl rfl rfl ?_
             refine RD.gskip rfl rfl rfl rfl rfl ?_
             refine RD.p rfl rfl rfl rfl (fun w' => O.pickt rfl rfl) ?_
             refine RD.p rfl rfl rfl rfl (fun w' => O.move rfl) ?_
             refine RD.gskip rfl rfl rfl rfl rfl ?_
             refine RD.gskip rfl rfl rfl rfl rfl ?_
             refine RD.gskip rfl rfl rfl rfl rfl ?_
             refine RD.gskip rfl rfl rfl rfl rfl ?_
             refine RD.gskip rfl rfl rfl rfl rfl ?_
             refine RD.gskip rfl rfl rfl rfl rfl ?_
             refine RD.p rfl rfl rfl rfl (fun w' => O.pickt rfl rfl) ?_
             refine RD.p rfl rfl rfl rfl (fun w' => O.move rfl) ?_
             refine RD.gskip rfl rfl rfl rfl rfl ?_
             refine RD.gskip rfl rfl rfl rfl rfl ?_
             refine RD.gskip rfl rfl rfl rfl rfl ?_
             refine RD.gskip rfl rfl rfl rfl rfl ?_
             refine RD.p rfl rfl rfl rfl (fun w' => O.pickt rfl rfl) ?_
             refine RD.nil ?_
             refine KQ.then_k ?_
             replace hM := hM.pick [4, 3, 0] rfl (by decide)
             exact fun a ha => ⟨A511, c512, y507.2.2.f_slots, y507.2.2.f_many, true, ha.less (less_cons rfl (less_cons rfl (less_cons rfl (less_cons rfl (less_cons rfl (less_cons rfl less_nil)))))), hM, hF⟩
            ·rw [if_neg (ne_true hc)] at hF
             refine RD.gp rfl rfl rfl rfl rfl rfl (fun w' => O.move rfl) ?_
             refine RD.gp rfl rfl rfl rfl rfl rfl (fun w' => O.fldA fl38_1 (by decide) rfl) ?_
             refine RD.gq rfl rfl rfl rfl rfl rfl (fun w' hf => O.loadN (cs := [Value.bool xv409.f_K.f_Src.f_Six, o8 xv409.f_K.f_Src.f_B 0, o8 xv409.f_K.f_Src.f_B 1, o8 xv409.f_K.f_Src.f_B 2, o8 xv409.f_K.f_Src.f_B 3, o8 xv409.f_K.f_Src.f_B 4, o8 xv409.f_K.f_Src.f_B 5, o8 xv409.f_K.f_Src.f_B 6, o8 xv409.f_K.f_Src.f_B 7, o8 xv409.f_K.f_Src.f_B 8, o8 xv409.f_K.f_Src.f_B 9, o8 xv409.f_K.f_Src.f_B 10, o8 xv409.f_K.f_Src.f_B 11, o8 xv409.f_K.f_Src.f_B 12, o8 xv409.f_K.f_Src.f_B 13, o8 xv409.f_K.f_Src.f_B 14, o8 xv409.f_K.f_Src.f_B 15, Value.bool xv409.f_K.f_Dst.f_Six, o8 xv409.f_K.f_Dst.f_B 0, o8 xv409.f_K.f_Dst.f_B 1, o8 xv409.f_K.f_Dst.f_B 2, o8 xv409.f_K.f_Dst.f_B 3, o8 xv409.f_K.f_Dst.f_B 4, o8 xv409.f_K.f_Dst.f_B 5, o8 xv409.f_K.f_Dst.f_B 6, o8 xv409.f_K.f_Dst.f_B 7, o8 xv409.f_K.f_Dst.f_B 8, o8 xv409.f_K.f_Dst.f_B 9, o8 xv409.f_K.f_Dst.f_B 10, o8 xv409.f_K.f_Dst.f_B 11, o8 xv409.f_K.f_Dst.f_B 12, o8 xv409.f_K.f_Dst.f_B 13, o8 xv409.f_K.f_Dst.f_B 14, o8 xv409.f_K.f_Dst.f_B 15, Value.int .u8 xv409.f_K.f_Proto, Value.int .u16 xv409.f_K.f_SrcPort, Value.int .u16 xv409.f_K.f_DstPort]) ag35 rfl (Cs.addsN [1] ((hM.bx (i := 1) rfl).fut hf) rfl)) ?_
             refine RD.gp rfl rfl rfl rfl rfl rfl (fun w' => O.move rfl) ?_
             refine obindE hF fun y526 hx527 hF => ?_
             refine RD.mcall rfl rfl ⟨rfl, rfl⟩ Try.func9 bd9 rfl rfl (c_table_Table_Probes _ _ _ y507.2.2 _ _ (hM.lent [3, 4] rfl (by decide)) xv409.f_K _ hx527) fun v w528 hv => ?_
             obtain ⟨A530, c531, rfl, hN529⟩ := hv
             refine ⟨fun h => (by cases h), ?_⟩
             replace hM := hM.callL [3, 4] [0, 1, 2] rfl rfl (by decide) rfl hN529
             refine RD.gp rfl rfl rfl rfl rfl rfl (fun w' => O.neq rfl rfl) ?_
             refine RD.p rfl rfl rfl rfl (fun w' => O.pickf rfl rfl) ?_
             refine RD.p rfl rfl rfl rfl (fun w' => O.move rfl) ?_
             refine RD.bcase (t := 156) rfl (fun hc => ?_) (fun hc => ?_)
             ·rw [if_pos hc] at hF
              refine RD.gskip rfl rfl rfl rfl rfl ?_
              refine RD.gskip rfl rfl rfl rfl rfl ?_
              refine RD.gskip rfl rfl rfl rfl rfl ?_
              refine RD.gskip rfl rfl rfl rfl rfl ?_
              refine RD.gskip rfl rfl rfl rfl rfl ?_
              refine RD.gskip rfl rfl rfl rfl rfl ?_
              refine RD.p rfl rfl rfl rfl (fun w' => O.pickt rfl rfl) ?_
              refine RD.p rfl rfl rfl rfl (fun w' => O.move rfl) ?_
              refine RD.gskip rfl rfl rfl rfl rfl ?_
              refine RD.gskip rfl rfl rfl rfl rfl ?_
              refine RD.gskip rfl rfl rfl rfl rfl ?_
              refine RD.gskip rfl rfl rfl rfl rfl ?_
              refine RD.p rfl rfl rfl rfl (fun w' => O.pickt rfl rfl) ?_
              refine RD.nil ?_
              refine KQ.then_k ?_
              replace hM := hM.pick [4, 3, 0] rfl (by decide)
              exact fun a ha => ⟨A530, c531, y526.2.f_slots, y526.2.f_many, true, ha.less (less_cons rfl (less_cons rfl (less_cons rfl (less_cons rfl (less_cons rfl (less_cons rfl less_nil)))))), hM, hF⟩
             ·rw [if_neg (ne_true hc)] at hF
              refine RD.gp rfl rfl rfl rfl rfl rfl (fun w' => O.fldA fl38_1 (by decide) rfl) ?_
              refine RD.gq rfl rfl rfl rfl rfl rfl (fun w' hf => O.loadN (cs := [Value.bool xv409.f_K.f_Src.f_Six, o8 xv409.f_K.f_Src.f_B 0, o8 xv409.f_K.f_Src.f_B 1, o8 xv409.f_K.f_Src.f_B 2, o8 xv409.f_K.f_Src.f_B 3, o8 xv409.f_K.f_Src.f_B 4, o8 xv409.f_K.f_Src.f_B 5, o8 xv409.f_K.f_Src.f_B 6, o8 xv409.f_K.f_Src.f_B 7, o8 xv409.f_K.f_Src.f_B 8, o8 xv409.f_K.f_Src.f_B 9, o8 xv409.f_K.f_Src.f_B 10, o8 xv409.f_K.f_Src.f_B 11, o8 xv409.f_K.f_Src.f_B 12, o8 xv409.f_K.f_Src.f_B 13, o8 xv409.f_K.f_Src.f_B 14, o8 xv409.f_K.f_Src.f_B 15, Value.bool xv409.f_K.f_Dst.f_Six, o8 xv409.f_K.f_Dst.f_B 0, o8 xv409.f_K.f_Dst.f_B 1, o8 xv409.f_K.f_Dst.f_B 2, o8 xv409.f_K.f_Dst.f_B 3, o8 xv409.f_K.f_Dst.f_B 4, o8 xv409.f_K.f_Dst.f_B 5, o8 xv409.f_K.f_Dst.f_B 6, o8 xv409.f_K.f_Dst.f_B 7, o8 xv409.f_K.f_Dst.f_B 8, o8 xv409.f_K.f_Dst.f_B 9, o8 xv409.f_K.f_Dst.f_B 10, o8 xv409.f_K.f_Dst.f_B 11, o8 xv409.f_K.f_Dst.f_B 12, o8 xv409.f_K.f_Dst.f_B 13, o8 xv409.f_K.f_Dst.f_B 14, o8 xv409.f_K.f_Dst.f_B 15, Value.int .u8 xv409.f_K.f_Proto, Value.int .u16 xv409.f_K.f_SrcPort, Value.int .u16 xv409.f_K.f_DstPort]) ag35 rfl (Cs.addsN [1] ((hM.bx (i := 1) rfl).fut hf) rfl)) ?_
              refine RD.gq rfl rfl rfl rfl rfl rfl (fun w' hf => O.loadN (cs := [Value.bool y415.f_Src.f_Six, o8 y415.f_Src.f_B 0, o8 y415.f_Src.f_B 1, o8 y415.f_Src.f_B 2, o8 y415.f_Src.f_B 3, o8 y415.f_Src.f_B 4, o8 y415.f_Src.f_B 5, o8 y415.f_Src.f_B 6, o8 y415.f_Src.f_B 7, o8 y415.f_Src.f_B 8, o8 y415.f_Src.f_B 9, o8 y415.f_Src.f_B 10, o8 y415.f_Src.f_B 11, o8 y415.f_Src.f_B 12, o8 y415.f_Src.f_B 13, o8 y415.f_Src.f_B 14, o8 y415.f_Src.f_B 15, Value.bool y415.f_Dst.f_Six, o8 y415.f_Dst.f_B 0, o8 y415.f_Dst.f_B 1, o8 y415.f_Dst.f_B 2, o8 y415.f_Dst.f_B 3, o8 y415.f_Dst.f_B 4, o8 y415.f_Dst.f_B 5, o8 y415.f_Dst.f_B 6, o8 y415.f_Dst.f_B 7, o8 y415.f_Dst.f_B 8, o8 y415.f_Dst.f_B 9, o8 y415.f_Dst.f_B 10, o8 y415.f_Dst.f_B 11, o8 y415.f_Dst.f_B 12, o8 y415.f_Dst.f_B 13, o8 y415.f_Dst.f_B 14, o8 y415.f_Dst.f_B 15, Value.int .u8 y415.f_Proto, Value.int .u16 y415.f_SrcPort, Value.int .u16 y415.f_DstPort]) ag54 rfl (Cs.addsN [] ((hM.bx (i := 2) rfl).fut hf) rfl)) ?_
              refine obindE hF fun y534 hx535 hF => ?_
              refine RD.mcall rfl rfl ⟨rfl, rfl⟩ Try.func24 bd24 rfl rfl (c_table_Hash _ xv409.f_K _ hx535) fun v w536 hv => ?_
              obtain ⟨rfl, hN537⟩ := hv
              refine ⟨fun _ => hN537.fut, ?_⟩
              replace hM := hM.call0 hN537
              refine obindE hF fun y538 hx539 hF => ?_
              refine RD.mcall rfl rfl ⟨rfl, rfl⟩ Try.func25 bd25 rfl rfl (c_ref23_Hash _ y415 _ hx539) fun v w540 hv => ?_
              obtain ⟨rfl, hN541⟩ := hv
              refine ⟨fun _ => hN541.fut, ?_⟩
              replace hM := hM.call0 hN541
              refine RD.gp rfl rfl rfl rfl rfl rfl (fun w' => O.neq rfl rfl) ?_
              refine RD.p rfl rfl rfl rfl (fun w' => O.pickf rfl rfl) ?_
              refine RD.p rfl rfl rfl rfl (fun w' => O.move rfl) ?_
              refine RD.bcase (t := 164) rfl (fun hc => ?_) (fun hc => ?_)
              ·rw [if_pos hc] at hF
               refine RD.gskip rfl rfl rfl rfl rfl ?_
               refine RD.gskip rfl rfl rfl rfl rfl ?_
               refine RD.gskip rfl rfl rfl rfl rfl ?_
               refine RD.gskip rfl rfl rfl rfl rfl ?_
               refine RD.p rfl rfl rfl rfl (fun w' => O.pickt rfl rfl) ?_
               refine RD.nil ?_
               refine KQ.then_k ?_
               replace hM := hM.pick [4, 3, 0] rfl (by decide)
               exact fun a ha => ⟨A530, c531, y526.2.f_slots, y526.2.f_many, true, ha.less (less_cons rfl (less_cons rfl (less_cons rfl (less_cons rfl (less_cons rfl (less_cons rfl less_nil)))))), hM, hF⟩
              ·rw [if_neg (ne_true hc)] at hF
               refine RD.gp rfl rfl rfl rfl rfl rfl (fun w' => O.move rfl) ?_
               refine RD.gp rfl rfl rfl rfl rfl rfl (fun w' => O.move rfl) ?_
               refine obindE hF fun y543 hx544 hF => ?_
               refine RD.mcall rfl rfl ⟨rfl, rfl⟩ Try.func26 bd26 rfl rfl (c_law23_is _ _ _ y526.2 _ _ (hM.lent [3, 4] rfl (by decide)) _ _ rv502 (hM.rdP (i := 0) rfl) (hM.offRo [3, 4] rfl (i := 0) rfl rfl (by decide)) _ hx544) fun v w545 hv => ?_
               obtain ⟨A547, c548, rfl, hN546⟩ := hv
               refine ⟨fun h => (by cases h), ?_⟩
               replace hM := hM.callL [3, 4] [0, 1, 2] rfl rfl (by decide) rfl hN546
               refine RD.gp rfl rfl rfl rfl rfl rfl (fun w' => O.not rfl) ?_
               refine RD.p rfl rfl rfl rfl (fun w' => O.pickf rfl rfl) ?_
               refine RD.nil ?_
               refine KQ.then_k ?_
               replace hM := hM.pick [4, 3, 0] rfl (by decide)
               exact fun a ha => ⟨A547, c548, y543.2.f_slots, y543.2.f_many, (!y543.1), ha.less (less_cons rfl (less_cons rfl (less_cons rfl (less_cons rfl (less_cons rfl (less_cons rfl less_nil)))))), hM, hF⟩
          ·rintro a w554 ⟨A548, c549, t550, t551, t553, ha, hM, hF⟩
           refine KC.app ha ?_
           clear ha
           unfold F_law23_TablePlays_j6 at hF
           refine KC.cond rfl (fun hc => ?_) (fun hc => ?_)
           ·rw [if_pos hc] at hF
            refine KC.seqH fun Q555 hQ555 => ?_
            refine KC.region ?_
            refine RL.val (O.assign rfl) rfl ?_
            refine RL.nil ?_
            refine KQ.thn hQ555 ?_
            clear hQ555 Q555
            refine KC.ret ?_
            refine KQ.blk_r ?_
            refine KQ.thr hQ405 ?_
            clear hQ405 Q405
            refine KQ.then_r ?_
            refine KQ.blk_r ?_
            refine KQ.thr hQ66 ?_
            clear hQ66 Q66
            have hE := Option.some.inj hF
            clear hF
            subst hE
            replace hM := hM.pick [] rfl (by decide)
            refine KQ.rets Try.results4 (RVs.cons (RV.tm rfl) RVs.nil) ?_
            exact ⟨_, rfl, rfl, hM⟩
           ·rw [if_neg (ne_true hc)] at hF
            refine KC.skip ?_
            refine KQ.blk_n ?_
            refine KQ.thn hQ405 ?_
            clear hQ405 Q405
            refine KC.region ?_
            refine RL.val (O.move rfl) rfl ?_
            refine RL.val (O.add rfl rfl) rfl ?_
            refine RL.val (O.assign rfl) rfl ?_
            refine RL.nil ?_
            refine KQ.then_k ?_
            exact fun a ha => ⟨k402, Nat.lt_succ_self k402, A548, c549, A499, c500, Z501, t550, t551, rv502, (IntKind.i64.wrap (i399 + 1)), ha.less (less_cons rfl (less_cons rfl (less_cons rfl (less_cons rfl (less_cons rfl less_nil))))), hM, hF⟩
        ·rw [if_neg (ne_true hc)] at hF
         refine KC.exit ?_
         refine KQ.thx hQ403 ?_
         clear hQ403 Q403
         refine KQ.then_x ?_
         refine KQ.blk_x ?_
         refine KQ.thn hQ66 ?_
         clear hQ66 Q66
         replace hM := hM.pick [] rfl (by decide)
         refine KC.seqH fun Q557 hQ557 => ?_
         refine KC.region ?_
         refine obindE hF fun y558 hx559 hF => ?_
         refine RL.call Try.func7 bd7 rfl rfl (c_law23_works _ _ hx559) fun v w560 hv => ?_
         obtain ⟨rfl, hN561⟩ := hv
         replace hM := hM.call0 hN561
         refine RL.val (O.assign rfl) rfl ?_
         refine RL.nil ?_
         refine KQ.thn hQ557 ?_
         clear hQ557 Q557
         refine KC.ret ?_
         have hE := Option.some.inj hF
         clear hF
         subst hE
         refine KQ.rets Try.results4 (RVs.cons (RV.tm rfl) RVs.nil) ?_
         exact ⟨_, rfl, rfl, hM⟩
end Go.Proofs.Ytnbakndfnjflhaa
