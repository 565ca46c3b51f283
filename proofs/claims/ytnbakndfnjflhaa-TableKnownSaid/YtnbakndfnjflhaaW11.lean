/- Printed by a program of this claim: each call returns what the plain function of its name gives. -/
import Derived.Test.YtnbakndfnjflhaaW1
import Derived.Test.YtnbakndfnjflhaaW2
import Derived.Test.YtnbakndfnjflhaaW3
import Derived.Test.YtnbakndfnjflhaaW8
import Derived.Test.YtnbakndfnjflhaaW9
import Derived.Test.YtnbakndfnjflhaaW10
set_option linter.unusedVariables false
namespace Go.Proofs.Ytnbakndfnjflhaa
open Go Go.Ox Go.RowKit
set_option maxRecDepth 100000 in
set_option maxHeartbeats 40000000 in
theorem c_law23_works (w : World) (r : Bool) (hF : F_law23_works = some r) :
  CallsR Try.prog 7 [] w (fun v w' => v = Value.bool r ∧ Mem w [] w' []) := by
 refine calls_KC Try.func7 rfl Try.ntmps7 rfl ?_
 have hM := Mem.init w
 unfold F_law23_works at hF
 refine KC.seqH fun Q1 hQ1 => ?_
 refine KC.region ?_
 refine RL.val (O.assign rfl) rfl ?_
 refine RL.nil ?_
 refine KQ.thn hQ1 ?_
 clear hQ1 Q1
 refine KC.seqH fun Q2 hQ2 => ?_
 refine KC.region ?_
 refine RL.icall Try.func8 bd8 rfl rfl rfl Try.ntmps8 rfl ?_
 refine KC.seqH fun Q3 hQ3 => ?_
 refine KC.region ?_
 refine RL.val (O.assign rfl) rfl ?_
 refine RL.val (O.assign rfl) rfl ?_
 refine RL.nil ?_
 refine KQ.thn hQ3 ?_
 clear hQ3 Q3
 refine KC.seqH fun Q4 hQ4 => ?_
 refine KC.cut (fun a w5 => Kn 21 [(0, Value.int .i64 3), (16, Value.bool ((bits .and .i64 3 (IntKind.i64.wrap (3 - 1))) != 0))] a ∧ Mem w [] w5 [] ∧ F_law23_works_j1 = some r) ?_ ?_
 ·refine KC.region ?_
  refine RL.val (O.move rfl) rfl ?_
  refine RL.val (O.lss rfl rfl) rfl ?_
  refine RL.val (O.move rfl) rfl ?_
  refine RL.gval rfl rfl (O.move rfl) rfl ?_
  refine RL.gval rfl rfl (O.gtr rfl rfl) rfl ?_
  refine RL.val (O.pickf rfl rfl) rfl ?_
  refine RL.val (O.move rfl) rfl ?_
  refine RL.gval rfl rfl (O.move rfl) rfl ?_
  refine RL.gval rfl rfl (O.move rfl) rfl ?_
  refine RL.gval rfl rfl (O.sub rfl rfl) rfl ?_
  refine RL.gval rfl rfl (O.and rfl rfl) rfl ?_
  refine RL.gval rfl rfl (O.neq rfl rfl) rfl ?_
  refine RL.val (O.pickf rfl rfl) rfl ?_
  refine RL.nil ?_
  refine KQ.then_k ?_
  exact fun a ha => ⟨ha.less (less_cons rfl (less_cons rfl less_nil)), hM, hF⟩
 ·rintro a w5 ⟨ha, hM, hF⟩
  refine KC.app ha ?_
  clear ha
  unfold F_law23_works_j1 at hF
  refine KC.cond rfl (fun hc => ?_) (fun hc => ?_)
  ·rw [if_pos hc] at hF
   refine KC.seqH fun Q6 hQ6 => ?_
   refine KC.region ?_
   refine RL.val (O.assign rfl) rfl ?_
   refine RL.val (O.assign rfl) rfl ?_
   refine RL.nil ?_
   refine KQ.thn hQ6 ?_
   clear hQ6 Q6
   refine KC.ret ?_
   refine KQ.thr hQ4 ?_
   clear hQ4 Q4
   refine KQ.rets Try.results8 (RVs.cons (RV.tm rfl) (RVs.cons (RV.tm rfl) RVs.nil)) ?_
   refine ⟨.tuple #[.pointer none, Value.int .i64 2], rfl, ?_⟩
   refine RL.val (O.move rfl) rfl ?_
   refine RL.val (O.ext rfl rfl) rfl ?_
   refine RL.val (O.ext rfl rfl) rfl ?_
   refine RL.val (O.assign rfl) rfl ?_
   refine RL.val (O.assign rfl) rfl ?_
   refine RL.nil ?_
   refine KQ.thn hQ2 ?_
   clear hQ2 Q2
   refine KC.seqH fun Q7 hQ7 => ?_
   refine KC.region ?_
   refine RL.icall Try.func8 bd8 rfl rfl rfl Try.ntmps8 rfl ?_
   refine KC.seqH fun Q8 hQ8 => ?_
   refine KC.region ?_
   refine RL.val (O.assign rfl) rfl ?_
   refine RL.val (O.assign rfl) rfl ?_
   refine RL.nil ?_
   refine KQ.thn hQ8 ?_
   clear hQ8 Q8
   refine KC.seqH fun Q9 hQ9 => ?_
   refine KC.cut (fun a w10 => Kn 21 [(0, Value.int .i64 0), (16, Value.bool true)] a ∧ Mem w [] w10 [] ∧ F_law23_works_j2 = some r) ?_ ?_
   ·refine KC.region ?_
    refine RL.val (O.move rfl) rfl ?_
    refine RL.val (O.lss rfl rfl) rfl ?_
    refine RL.brun1 11 16 true (by kernel_rfl) ?_
    refine RL.nil ?_
    refine KQ.then_k ?_
    exact fun a ha => ⟨ha.less (less_cons rfl (less_cons rfl less_nil)), hM, hF⟩
   ·rintro a w10 ⟨ha, hM, hF⟩
    refine KC.app ha ?_
    clear ha
    unfold F_law23_works_j2 at hF
    refine KC.condT rfl ?_
    refine KC.seqH fun Q11 hQ11 => ?_
    refine KC.region ?_
    refine RL.val (O.assign rfl) rfl ?_
    refine RL.val (O.assign rfl) rfl ?_
    refine RL.nil ?_
    refine KQ.thn hQ11 ?_
    clear hQ11 Q11
    refine KC.ret ?_
    refine KQ.thr hQ9 ?_
    clear hQ9 Q9
    refine KQ.rets Try.results8 (RVs.cons (RV.tm rfl) (RVs.cons (RV.tm rfl) RVs.nil)) ?_
    refine ⟨.tuple #[.pointer none, Value.int .i64 2], rfl, ?_⟩
    refine RL.val (O.move rfl) rfl ?_
    refine RL.val (O.ext rfl rfl) rfl ?_
    refine RL.val (O.ext rfl rfl) rfl ?_
    refine RL.val (O.assign rfl) rfl ?_
    refine RL.val (O.assign rfl) rfl ?_
    refine RL.nil ?_
    refine KQ.thn hQ7 ?_
    clear hQ7 Q7
    refine KC.seqH fun Q12 hQ12 => ?_
    refine KC.region ?_
    refine RL.icall Try.func8 bd8 rfl rfl rfl Try.ntmps8 rfl ?_
    refine KC.seqH fun Q13 hQ13 => ?_
    refine KC.region ?_
    refine RL.val (O.assign rfl) rfl ?_
    refine RL.val (O.assign rfl) rfl ?_
    refine RL.nil ?_
    refine KQ.thn hQ13 ?_
    clear hQ13 Q13
    refine KC.seqH fun Q14 hQ14 => ?_
    refine KC.cut (fun a w15 => Kn 21 [(0, Value.int .i64 1), (16, Value.bool ((bits .and .i64 1 (IntKind.i64.wrap (1 - 1))) != 0))] a ∧ Mem w [] w15 [] ∧ F_law23_works_j3 = some r) ?_ ?_
    ·refine KC.region ?_
     refine RL.val (O.move rfl) rfl ?_
     refine RL.val (O.lss rfl rfl) rfl ?_
     refine RL.val (O.move rfl) rfl ?_
     refine RL.gval rfl rfl (O.move rfl) rfl ?_
     refine RL.gval rfl rfl (O.gtr rfl rfl) rfl ?_
     refine RL.val (O.pickf rfl rfl) rfl ?_
     refine RL.val (O.move rfl) rfl ?_
     refine RL.gval rfl rfl (O.move rfl) rfl ?_
     refine RL.gval rfl rfl (O.move rfl) rfl ?_
     refine RL.gval rfl rfl (O.sub rfl rfl) rfl ?_
     refine RL.gval rfl rfl (O.and rfl rfl) rfl ?_
     refine RL.gval rfl rfl (O.neq rfl rfl) rfl ?_
     refine RL.val (O.pickf rfl rfl) rfl ?_
     refine RL.nil ?_
     refine KQ.then_k ?_
     exact fun a ha => ⟨ha.less (less_cons rfl (less_cons rfl less_nil)), hM, hF⟩
    ·rintro a w15 ⟨ha, hM, hF⟩
     refine KC.app ha ?_
     clear ha
     unfold F_law23_works_j3 at hF
     refine KC.cond rfl (fun hc => ?_) (fun hc => ?_)
     ·rw [if_pos hc] at hF
      refine KC.seqH fun Q16 hQ16 => ?_
      refine KC.region ?_
      refine RL.val (O.assign rfl) rfl ?_
      refine RL.val (O.assign rfl) rfl ?_
      refine RL.nil ?_
      refine KQ.thn hQ16 ?_
      clear hQ16 Q16
      refine KC.ret ?_
      refine KQ.thr hQ14 ?_
      clear hQ14 Q14
      refine KQ.rets Try.results8 (RVs.cons (RV.tm rfl) (RVs.cons (RV.tm rfl) RVs.nil)) ?_
      refine ⟨.tuple #[.pointer none, Value.int .i64 2], rfl, ?_⟩
      refine RL.val (O.move rfl) rfl ?_
      refine RL.val (O.ext rfl rfl) rfl ?_
      refine RL.val (O.ext rfl rfl) rfl ?_
      refine RL.val (O.assign rfl) rfl ?_
      refine RL.val (O.assign rfl) rfl ?_
      refine RL.nil ?_
      refine KQ.thn hQ12 ?_
      clear hQ12 Q12
      refine KC.seqH fun Q17 hQ17 => ?_
      refine KC.region ?_
      refine RL.val (O.move rfl) rfl ?_
      refine obindE hF fun y18 hx19 hF => ?_
      refine RL.call Try.func30 bd30 rfl rfl (c_law23_key _ 1 _ hx19) fun v w20 hv => ?_
      obtain ⟨rfl, hN21⟩ := hv
      replace hM := hM.call0 hN21
      refine obindE hF fun y22 hx23 hF => ?_
      refine RL.call Try.func11 bd11 rfl rfl (c_table_Table_Put_N _ y18 5 _ hx23) fun v w24 hv => ?_
      obtain ⟨rfl, hN25⟩ := hv
      replace hM := hM.call0 hN25
      refine RL.val (O.assign rfl) rfl ?_
      refine RL.nil ?_
      refine KQ.thn hQ17 ?_
      clear hQ17 Q17
      refine KC.seqH fun Q26 hQ26 => ?_
      refine KC.region ?_
      refine RL.val (O.move rfl) rfl ?_
      refine obindE hF fun y27 hx28 hF => ?_
      refine RL.call Try.func30 bd30 rfl rfl (c_law23_key _ 2 _ hx28) fun v w29 hv => ?_
      obtain ⟨rfl, hN30⟩ := hv
      replace hM := hM.call0 hN30
      refine obindE hF fun y31 hx32 hF => ?_
      refine RL.call Try.func11 bd11 rfl rfl (c_table_Table_Put_N _ y27 6 _ hx32) fun v w33 hv => ?_
      obtain ⟨rfl, hN34⟩ := hv
      replace hM := hM.call0 hN34
      refine RL.val (O.assign rfl) rfl ?_
      refine RL.nil ?_
      refine KQ.thn hQ26 ?_
      clear hQ26 Q26
      refine KC.seqH fun Q35 hQ35 => ?_
      refine KC.region ?_
      refine RL.val (O.move rfl) rfl ?_
      refine obindE hF fun y36 hx37 hF => ?_
      refine RL.call Try.func30 bd30 rfl rfl (c_law23_key _ 1 _ hx37) fun v w38 hv => ?_
      obtain ⟨rfl, hN39⟩ := hv
      replace hM := hM.call0 hN39
      refine obindE hF fun y40 hx41 hF => ?_
      refine RL.call Try.func11 bd11 rfl rfl (c_table_Table_Put_N _ y36 7 _ hx41) fun v w42 hv => ?_
      obtain ⟨rfl, hN43⟩ := hv
      replace hM := hM.call0 hN43
      refine RL.val (O.assign rfl) rfl ?_
      refine RL.nil ?_
      refine KQ.thn hQ35 ?_
      clear hQ35 Q35
      refine KC.seqH fun Q44 hQ44 => ?_
      refine KC.region ?_
      refine RL.val (O.move rfl) rfl ?_
      refine obindE hF fun y45 hx46 hF => ?_
      refine RL.call Try.func30 bd30 rfl rfl (c_law23_key _ 1 _ hx46) fun v w47 hv => ?_
      obtain ⟨rfl, hN48⟩ := hv
      replace hM := hM.call0 hN48
      refine obindE hF fun y49 hx50 hF => ?_
      refine RL.call Try.func15 bd15 rfl rfl (c_table_Table_Get_N _ y45 _ hx50) fun v w51 hv => ?_
      obtain ⟨rfl, hN52⟩ := hv
      replace hM := hM.call0 hN52
      refine RL.val (O.move rfl) rfl ?_
      refine RL.val (O.ext rfl rfl) rfl ?_
      refine RL.val (O.ext rfl rfl) rfl ?_
      refine RL.val (O.assign rfl) rfl ?_
      refine RL.val (O.assign rfl) rfl ?_
      refine RL.nil ?_
      refine KQ.thn hQ44 ?_
      clear hQ44 Q44
      refine KC.cut (fun a w53 => Kn 84 [(0, Value.bool false)] a ∧ Mem w [] w53 [] ∧ F_law23_works_j4 = some r) ?_ ?_
      ·refine KC.region ?_
       refine RL.val (O.move rfl) rfl ?_
       refine RL.val (O.eql rfl rfl) rfl ?_
       refine RL.val (O.move rfl) rfl ?_
       refine RL.gval rfl rfl (O.move rfl) rfl ?_
       refine RL.gval rfl rfl (O.eql rfl rfl) rfl ?_
       refine RL.val (O.pickt rfl rfl) rfl ?_
       refine RL.val (O.move rfl) rfl ?_
       refine RL.gval rfl rfl (O.move rfl) rfl ?_
       refine RL.gval rfl rfl (O.eql rfl rfl) rfl ?_
       refine RL.brun1 36 83 false (by kernel_rfl) ?_
       refine RL.val (O.assign rfl) rfl ?_
       refine RL.nil ?_
       refine KQ.then_k ?_
       exact fun a ha => ⟨ha.less (less_cons rfl less_nil), hM, hF⟩
      ·rintro a w53 ⟨ha, hM, hF⟩
       refine KC.app ha ?_
       clear ha
       unfold F_law23_works_j4 at hF
       refine KC.ret ?_
       have hE := Option.some.inj hF
       clear hF
       subst hE
       refine KQ.rets Try.results7 (RVs.cons (RV.tm rfl) RVs.nil) ?_
       exact ⟨_, rfl, rfl, hM⟩
     ·rw [if_neg (ne_true hc)] at hF
      refine KC.skip ?_
      refine KQ.thn hQ14 ?_
      clear hQ14 Q14
      refine KC.seqH fun Q54 hQ54 => ?_
      refine KC.region ?_
      refine RL.val (O.move rfl) rfl ?_
      refine cut_someE hF fun hq57 hF => ?_
      refine RL.eff (E.mks (enc := e_table_Slot) (zr := (T_table_Slot.mk false (T_packet_Key.mk (T_addr_Addr.mk false (List.replicate 16 0)) (T_addr_Addr.mk false (List.replicate 16 0)) 0 0 0) 0)) hM sl65 ze74 rfl rfl (fun _ => rfl) rfl rfl rfl (of_decide_eq_true hq57)) rfl fun v w56 hv => ?_
      clear hM
      obtain ⟨A55, rfl, hM, hf⟩ := hv
      refine RL.val (O.bld (cs := [.slice A55 ((List.replicate (Int.toNat 1) ((T_table_Slot.mk false (T_packet_Key.mk (T_addr_Addr.mk false (List.replicate 16 0)) (T_addr_Addr.mk false (List.replicate 16 0)) 0 0 0) 0) : T_table_Slot))).length (Int.toNat 1), Value.int .i64 0]) bt71 rfl (by kernel_rfl)) rfl ?_
      refine RL.eff (E.box (vs := [.slice A55 ((List.replicate (Int.toNat 1) ((T_table_Slot.mk false (T_packet_Key.mk (T_addr_Addr.mk false (List.replicate 16 0)) (T_addr_Addr.mk false (List.replicate 16 0)) 0 0 0) 0) : T_table_Slot))).length (Int.toNat 1), Value.int .i64 0]) hM rfl rfl) rfl fun v w60 hv => ?_
      clear hM
      obtain ⟨g59, rfl, hM, hf⟩ := hv
      refine RL.val (O.assign rfl) rfl ?_
      refine RL.val (O.assign rfl) rfl ?_
      refine RL.nil ?_
      refine KQ.thn hQ54 ?_
      clear hQ54 Q54
      refine KC.ret ?_
      refine KQ.rets Try.results8 (RVs.cons (RV.tm rfl) (RVs.cons (RV.tm rfl) RVs.nil)) ?_
      refine ⟨.tuple #[.pointer (some ⟨g59, 0, none⟩), Value.int .i64 0], rfl, ?_⟩
      refine RL.val (O.move rfl) rfl ?_
      refine RL.val (O.ext rfl rfl) rfl ?_
      refine RL.val (O.ext rfl rfl) rfl ?_
      refine RL.val (O.assign rfl) rfl ?_
      refine RL.val (O.assign rfl) rfl ?_
      refine RL.nil ?_
      refine KQ.thn hQ12 ?_
      clear hQ12 Q12
      refine KC.seqH fun Q62 hQ62 => ?_
      refine KC.region ?_
      refine RL.val (O.move rfl) rfl ?_
      refine obindE hF fun y63 hx64 hF => ?_
      refine RL.call Try.func30 bd30 rfl rfl (c_law23_key _ 1 _ hx64) fun v w65 hv => ?_
      obtain ⟨rfl, hN66⟩ := hv
      replace hM := hM.call0 hN66
      refine obindE hF fun y67 hx68 hF => ?_
      refine RL.call Try.func11 bd11 rfl rfl (c_table_Table_Put _ _ _ (T_table_Table.mk (List.replicate (Int.toNat 1) ((T_table_Slot.mk false (T_packet_Key.mk (T_addr_Addr.mk false (List.replicate 16 0)) (T_addr_Addr.mk false (List.replicate 16 0)) 0 0 0) 0) : T_table_Slot)) 0) _ _ (hM.lent [1, 0] rfl (by decide)) y63 5 _ hx68) fun v w69 hv => ?_
      obtain ⟨A71, c72, rfl, hN70⟩ := hv
      replace hM := hM.callL [1, 0] [] rfl rfl (by decide) rfl hN70
      refine RL.val (O.assign rfl) rfl ?_
      refine RL.nil ?_
      refine KQ.thn hQ62 ?_
      clear hQ62 Q62
      refine KC.seqH fun Q74 hQ74 => ?_
      refine KC.region ?_
      refine RL.val (O.move rfl) rfl ?_
      refine obindE hF fun y75 hx76 hF => ?_
      refine RL.call Try.func30 bd30 rfl rfl (c_law23_key _ 2 _ hx76) fun v w77 hv => ?_
      obtain ⟨rfl, hN78⟩ := hv
      replace hM := hM.call0 hN78
      refine obindE hF fun y79 hx80 hF => ?_
      refine RL.call Try.func11 bd11 rfl rfl (c_table_Table_Put _ _ _ y67.2 _ _ (hM.lent [0, 1] rfl (by decide)) y75 6 _ hx80) fun v w81 hv => ?_
      obtain ⟨A83, c84, rfl, hN82⟩ := hv
      replace hM := hM.callL [0, 1] [] rfl rfl (by decide) rfl hN82
      refine RL.val (O.assign rfl) rfl ?_
      refine RL.nil ?_
      refine KQ.thn hQ74 ?_
      clear hQ74 Q74
      refine KC.seqH fun Q86 hQ86 => ?_
      refine KC.region ?_
      refine RL.val (O.move rfl) rfl ?_
      refine obindE hF fun y87 hx88 hF => ?_
      refine RL.call Try.func30 bd30 rfl rfl (c_law23_key _ 1 _ hx88) fun v w89 hv => ?_
      obtain ⟨rfl, hN90⟩ := hv
      replace hM := hM.call0 hN90
      refine obindE hF fun y91 hx92 hF => ?_
      refine RL.call Try.func11 bd11 rfl rfl (c_table_Table_Put _ _ _ y79.2 _ _ (hM.lent [0, 1] rfl (by decide)) y87 7 _ hx92) fun v w93 hv => ?_
      obtain ⟨A95, c96, rfl, hN94⟩ := hv
      replace hM := hM.callL [0, 1] [] rfl rfl (by decide) rfl hN94
      refine RL.val (O.assign rfl) rfl ?_
      refine RL.nil ?_
      refine KQ.thn hQ86 ?_
      clear hQ86 Q86
      refine KC.seqH fun Q98 hQ98 => ?_
      refine KC.region ?_
      refine RL.val (O.move rfl) rfl ?_
      refine obindE hF fun y99 hx100 hF => ?_
      refine RL.call Try.func30 bd30 rfl rfl (c_law23_key _ 1 _ hx100) fun v w101 hv => ?_
      obtain ⟨rfl, hN102⟩ := hv
      replace hM := hM.call0 hN102
      refine obindE hF fun y103 hx104 hF => ?_
      refine RL.call Try.func15 bd15 rfl rfl (c_table_Table_Get _ _ _ y91.2 _ _ (hM.lent [0, 1] rfl (by decide)) y99 _ hx104) fun v w105 hv => ?_
      obtain ⟨A107, c108, rfl, hN106⟩ := hv
      replace hM := hM.callL [0, 1] [] rfl rfl (by decide) rfl hN106
      refine RL.val (O.move rfl) rfl ?_
      refine RL.val (O.ext rfl rfl) rfl ?_
      refine RL.val (O.ext rfl rfl) rfl ?_
      refine RL.val (O.assign rfl) rfl ?_
      refine RL.val (O.assign rfl) rfl ?_
      refine RL.nil ?_
      refine KQ.thn hQ98 ?_
      clear hQ98 Q98
      refine KC.cut (fun a w140 => ∃ (t139 : Bool), Kn 84 [(0, Value.bool t139)] a ∧ Mem w [] w140 [] ∧ F_law23_works_j5 t139 = some r) ?_ ?_
      ·refine KC.region ?_
       refine RL.val (O.move rfl) rfl ?_
       refine RL.val (O.eql rfl rfl) rfl ?_
       refine RL.val (O.move rfl) rfl ?_
       refine RL.gval rfl rfl (O.move rfl) rfl ?_
       refine RL.gval rfl rfl (O.eql rfl rfl) rfl ?_
       refine RL.val (O.pickt rfl rfl) rfl ?_
       refine RL.val (O.move rfl) rfl ?_
       refine RL.gval rfl rfl (O.move rfl) rfl ?_
       refine RL.gval rfl rfl (O.eql rfl rfl) rfl ?_
       refine RL.val (O.pickt rfl rfl) rfl ?_
       refine RL.val (O.move rfl) rfl ?_
       refine RL.gval rfl rfl (O.move rfl) rfl ?_
       refine RL.gval rfl rfl (O.eql rfl rfl) rfl ?_
       refine RL.val (O.pickt rfl rfl) rfl ?_
       refine RL.val (O.move rfl) rfl ?_
       refine RL.bcase (t := 53) rfl (fun hc => ?_) (fun hc => ?_)
       ·rw [if_pos hc] at hF
        refine RL.gval rfl rfl (O.move rfl) rfl ?_
        refine RL.gval rfl rfl (O.eql rfl rfl) rfl ?_
        refine RL.val (O.pickt rfl rfl) rfl ?_
        refine RL.val (O.move rfl) rfl ?_
        refine RL.bcase (t := 57) rfl (fun hc => ?_) (fun hc => ?_)
        ·rw [if_pos hc] at hF
         refine RL.gval rfl rfl (O.move rfl) rfl ?_
         refine RL.gval rfl rfl (O.eql rfl rfl) rfl ?_
         refine RL.val (O.pickt rfl rfl) rfl ?_
         refine RL.val (O.move rfl) rfl ?_
         refine RL.bcase (t := 61) rfl (fun hc => ?_) (fun hc => ?_)
         ·rw [if_pos hc] at hF
          refine RL.gval rfl rfl (O.move rfl) rfl ?_
          refine RL.val (O.pickt rfl rfl) rfl ?_
          refine RL.val (O.move rfl) rfl ?_
          refine RL.bcase (t := 64) rfl (fun hc => ?_) (fun hc => ?_)
          ·rw [if_pos hc] at hF
           refine RL.gval rfl rfl (O.move rfl) rfl ?_
           refine RL.gval rfl rfl (O.eql rfl rfl) rfl ?_
           refine RL.val (O.pickt rfl rfl) rfl ?_
           refine RL.val (O.move rfl) rfl ?_
           refine RL.bcase (t := 68) rfl (fun hc => ?_) (fun hc => ?_)
           ·rw [if_pos hc] at hF
            refine RL.gval rfl rfl (O.move rfl) rfl ?_
            refine obindE hF fun y110 hx111 hF => ?_
            refine RL.gcall rfl rfl Try.func30 bd30 rfl rfl (c_law23_key _ 2 _ hx111) fun v w112 hv => ?_
            obtain ⟨rfl, hN113⟩ := hv
            replace hM := hM.call0 hN113
            refine obindE hF fun y114 hx115 hF => ?_
            refine RL.gcall rfl rfl Try.func13 bd13 rfl rfl (c_table_Table_Delete _ _ _ y103.2.2 _ _ (hM.lent [0, 1] rfl (by decide)) y110 _ hx115) fun v w116 hv => ?_
            obtain ⟨A118, c119, rfl, hN117⟩ := hv
            replace hM := hM.callL [0, 1] [] rfl rfl (by decide) rfl hN117
            refine RL.gval rfl rfl (O.not rfl) rfl ?_
            refine RL.val (O.pickt rfl rfl) rfl ?_
            refine RL.val (O.move rfl) rfl ?_
            refine RL.bcase (t := 74) rfl (fun hc => ?_) (fun hc => ?_)
            ·rw [if_pos hc] at hF
             refine RL.gval rfl rfl (O.move rfl) rfl ?_
             refine obindE hF fun y121 hx122 hF => ?_
             refine RL.gcall rfl rfl Try.func30 bd30 rfl rfl (c_law23_key _ 1 _ hx122) fun v w123 hv => ?_
             obtain ⟨rfl, hN124⟩ := hv
             replace hM := hM.call0 hN124
             refine obindE hF fun y125 hx126 hF => ?_
             refine RL.gcall rfl rfl Try.func13 bd13 rfl rfl (c_table_Table_Delete _ _ _ y114.2 _ _ (hM.lent [0, 1] rfl (by decide)) y121 _ hx126) fun v w127 hv => ?_
             obtain ⟨A129, c130, rfl, hN128⟩ := hv
             replace hM := hM.callL [0, 1] [] rfl rfl (by decide) rfl hN128
             refine RL.val (O.pickt rfl rfl) rfl ?_
             refine RL.val (O.move rfl) rfl ?_
             refine RL.bcase (t := 79) rfl (fun hc => ?_) (fun hc => ?_)
             ·rw [if_pos hc] at hF
              refine RL.gval rfl rfl (O.move rfl) rfl ?_
              refine obindE hF fun y132 hx133 hF => ?_
              refine RL.gcall rfl rfl Try.func14 bd14 rfl rfl (c_table_Table_Len _ _ _ y125.2 _ _ (hM.lent [0, 1] rfl (by decide)) _ hx133) fun v w134 hv => ?_
              obtain ⟨A136, c137, rfl, hN135⟩ := hv
              replace hM := hM.callL [0, 1] [] rfl rfl (by decide) rfl hN135
              refine RL.gval rfl rfl (O.eql rfl rfl) rfl ?_
              refine RL.val (O.pickt rfl rfl) rfl ?_
              refine RL.val (O.assign rfl) rfl ?_
              refine RL.nil ?_
              refine KQ.then_k ?_
              replace hM := hM.pick [] rfl (by decide)
              exact fun a ha => ⟨(y132.1 == 0), ha.less (less_cons rfl less_nil), hM, hF⟩
             ·rw [if_neg (ne_true hc)] at hF
              refine RL.brun1 4 83 false (by kernel_rfl) ?_
              refine RL.val (O.assign rfl) rfl ?_
              refine RL.nil ?_
              refine KQ.then_k ?_
              replace hM := hM.pick [] rfl (by decide)
              exact fun a ha => ⟨false, ha.less (less_cons rfl less_nil), hM, hF⟩
            ·rw [if_neg (ne_true hc)] at hF
             refine RL.brun1 9 83 false (by kernel_rfl) ?_
             refine RL.val (O.assign rfl) rfl ?_
             refine RL.nil ?_
             refine KQ.then_k ?_
             replace hM := hM.pick [] rfl (by decide)
             exact fun a ha => ⟨false, ha.less (less_cons rfl less_nil), hM, hF⟩
           ·rw [if_neg (ne_true hc)] at hF
            refine RL.brun1 15 83 false (by kernel_rfl) ?_
            refine RL.val (O.assign rfl) rfl ?_
            refine RL.nil ?_
            refine KQ.then_k ?_
            replace hM := hM.pick [] rfl (by decide)
            exact fun a ha => ⟨false, ha.less (less_cons rfl less_nil), hM, hF⟩
          ·rw [if_neg (ne_true hc)] at hF
           refine RL.brun1 19 83 false (by kernel_rfl) ?_
           refine RL.val (O.assign rfl) rfl ?_
           refine RL.nil ?_
           refine KQ.then_k ?_
           replace hM := hM.pick [] rfl (by decide)
           exact fun a ha => ⟨false, ha.less (less_cons rfl less_nil), hM, hF⟩
         ·rw [if_neg (ne_true hc)] at hF
          refine RL.brun1 22 83 false (by kernel_rfl) ?_
          refine RL.val (O.assign rfl) rfl ?_
          refine RL.nil ?_
          refine KQ.then_k ?_
          replace hM := hM.pick [] rfl (by decide)
          exact fun a ha => ⟨false, ha.less (less_cons rfl less_nil), hM, hF⟩
        ·rw [if_neg (ne_true hc)] at hF
         refine RL.brun1 26 83 false (by kernel_rfl) ?_
         refine RL.val (O.assign rfl) rfl ?_
         refine RL.nil ?_
         refine KQ.then_k ?_
         replace hM := hM.pick [] rfl (by decide)
         exact fun a ha => ⟨false, ha.less (less_cons rfl less_nil), hM, hF⟩
       ·rw [if_neg (ne_true hc)] at hF
        refine RL.brun1 30 83 false (by kernel_rfl) ?_
        refine RL.val (O.assign rfl) rfl ?_
        refine RL.nil ?_
        refine KQ.then_k ?_
        replace hM := hM.pick [] rfl (by decide)
        exact fun a ha => ⟨false, ha.less (less_cons rfl less_nil), hM, hF⟩
      ·rintro a w140 ⟨t139, ha, hM, hF⟩
       refine KC.app ha ?_
       clear ha
       unfold F_law23_works_j5 at hF
       refine KC.ret ?_
       have hE := Option.some.inj hF
       clear hF
       subst hE
       refine KQ.rets Try.results7 (RVs.cons (RV.tm rfl) RVs.nil) ?_
       exact ⟨_, rfl, rfl, hM⟩
  ·rw [if_neg (ne_true hc)] at hF
   refine KC.skip ?_
   refine KQ.thn hQ4 ?_
   clear hQ4 Q4
   refine KC.seqH fun Q141 hQ141 => ?_
   refine KC.region ?_
   refine RL.val (O.move rfl) rfl ?_
   refine cut_someE hF fun hq144 hF => ?_
   refine RL.eff (E.mks (enc := e_table_Slot) (zr := (T_table_Slot.mk false (T_packet_Key.mk (T_addr_Addr.mk false (List.replicate 16 0)) (T_addr_Addr.mk false (List.replicate 16 0)) 0 0 0) 0)) hM sl65 ze74 rfl rfl (fun _ => rfl) rfl rfl rfl (of_decide_eq_true hq144)) rfl fun v w143 hv => ?_
   clear hM
   obtain ⟨A142, rfl, hM, hf⟩ := hv
   refine RL.val (O.bld (cs := [.slice A142 ((List.replicate (Int.toNat 3) ((T_table_Slot.mk false (T_packet_Key.mk (T_addr_Addr.mk false (List.replicate 16 0)) (T_addr_Addr.mk false (List.replicate 16 0)) 0 0 0) 0) : T_table_Slot))).length (Int.toNat 3), Value.int .i64 0]) bt71 rfl (by kernel_rfl)) rfl ?_
   refine RL.eff (E.box (vs := [.slice A142 ((List.replicate (Int.toNat 3) ((T_table_Slot.mk false (T_packet_Key.mk (T_addr_Addr.mk false (List.replicate 16 0)) (T_addr_Addr.mk false (List.replicate 16 0)) 0 0 0) 0) : T_table_Slot))).length (Int.toNat 3), Value.int .i64 0]) hM rfl rfl) rfl fun v w147 hv => ?_
   clear hM
   obtain ⟨g146, rfl, hM, hf⟩ := hv
   refine RL.val (O.assign rfl) rfl ?_
   refine RL.val (O.assign rfl) rfl ?_
   refine RL.nil ?_
   refine KQ.thn hQ141 ?_
   clear hQ141 Q141
   refine KC.ret ?_
   refine KQ.rets Try.results8 (RVs.cons (RV.tm rfl) (RVs.cons (RV.tm rfl) RVs.nil)) ?_
   refine ⟨.tuple #[.pointer (some ⟨g146, 0, none⟩), Value.int .i64 0], rfl, ?_⟩
   refine RL.val (O.move rfl) rfl ?_
   refine RL.val (O.ext rfl rfl) rfl ?_
   refine RL.val (O.ext rfl rfl) rfl ?_
   refine RL.val (O.assign rfl) rfl ?_
   refine RL.val (O.assign rfl) rfl ?_
   refine RL.nil ?_
   refine KQ.thn hQ2 ?_
   clear hQ2 Q2
   replace hM := hM.pick [] rfl (by decide)
   refine KC.seqH fun Q149 hQ149 => ?_
   refine KC.region ?_
   refine RL.icall Try.func8 bd8 rfl rfl rfl Try.ntmps8 rfl ?_
   refine KC.seqH fun Q150 hQ150 => ?_
   refine KC.region ?_
   refine RL.val (O.assign rfl) rfl ?_
   refine RL.val (O.assign rfl) rfl ?_
   refine RL.nil ?_
   refine KQ.thn hQ150 ?_
   clear hQ150 Q150
   refine KC.seqH fun Q151 hQ151 => ?_
   refine KC.cut (fun a w152 => Kn 21 [(0, Value.int .i64 0), (16, Value.bool true)] a ∧ Mem w [] w152 [] ∧ F_law23_works_j6 = some r) ?_ ?_
   ·refine KC.region ?_
    refine RL.val (O.move rfl) rfl ?_
    refine RL.val (O.lss rfl rfl) rfl ?_
    refine RL.brun1 11 16 true (by kernel_rfl) ?_
    refine RL.nil ?_
    refine KQ.then_k ?_
    exact fun a ha => ⟨ha.less (less_cons rfl (less_cons rfl less_nil)), hM, hF⟩
   ·rintro a w152 ⟨ha, hM, hF⟩
    refine KC.app ha ?_
    clear ha
    unfold F_law23_works_j6 at hF
    refine KC.condT rfl ?_
    refine KC.seqH fun Q153 hQ153 => ?_
    refine KC.region ?_
    refine RL.val (O.assign rfl) rfl ?_
    refine RL.val (O.assign rfl) rfl ?_
    refine RL.nil ?_
    refine KQ.thn hQ153 ?_
    clear hQ153 Q153
    refine KC.ret ?_
    refine KQ.thr hQ151 ?_
    clear hQ151 Q151
    refine KQ.rets Try.results8 (RVs.cons (RV.tm rfl) (RVs.cons (RV.tm rfl) RVs.nil)) ?_
    refine ⟨.tuple #[.pointer none, Value.int .i64 2], rfl, ?_⟩
    refine RL.val (O.move rfl) rfl ?_
    refine RL.val (O.ext rfl rfl) rfl ?_
    refine RL.val (O.ext rfl rfl) rfl ?_
    refine RL.val (O.assign rfl) rfl ?_
    refine RL.val (O.assign rfl) rfl ?_
    refine RL.nil ?_
    refine KQ.thn hQ149 ?_
    clear hQ149 Q149
    refine KC.seqH fun Q154 hQ154 => ?_
    refine KC.region ?_
    refine RL.icall Try.func8 bd8 rfl rfl rfl Try.ntmps8 rfl ?_
    refine KC.seqH fun Q155 hQ155 => ?_
    refine KC.region ?_
    refine RL.val (O.assign rfl) rfl ?_
    refine RL.val (O.assign rfl) rfl ?_
    refine RL.nil ?_
    refine KQ.thn hQ155 ?_
    clear hQ155 Q155
    refine KC.seqH fun Q156 hQ156 => ?_
    refine KC.cut (fun a w157 => Kn 21 [(0, Value.int .i64 1), (16, Value.bool ((bits .and .i64 1 (IntKind.i64.wrap (1 - 1))) != 0))] a ∧ Mem w [] w157 [] ∧ F_law23_works_j7 = some r) ?_ ?_
    ·refine KC.region ?_
     refine RL.val (O.move rfl) rfl ?_
     refine RL.val (O.lss rfl rfl) rfl ?_
     refine RL.val (O.move rfl) rfl ?_
     refine RL.gval rfl rfl (O.move rfl) rfl ?_
     refine RL.gval rfl rfl (O.gtr rfl rfl) rfl ?_
     refine RL.val (O.pickf rfl rfl) rfl ?_
     refine RL.val (O.move rfl) rfl ?_
     refine RL.gval rfl rfl (O.move rfl) rfl ?_
     refine RL.gval rfl rfl (O.move rfl) rfl ?_
     refine RL.gval rfl rfl (O.sub rfl rfl) rfl ?_
     refine RL.gval rfl rfl (O.and rfl rfl) rfl ?_
     refine RL.gval rfl rfl (O.neq rfl rfl) rfl ?_
     refine RL.val (O.pickf rfl rfl) rfl ?_
     refine RL.nil ?_
     refine KQ.then_k ?_
     exact fun a ha => ⟨ha.less (less_cons rfl (less_cons rfl less_nil)), hM, hF⟩
    ·rintro a w157 ⟨ha, hM, hF⟩
     refine KC.app ha ?_
     clear ha
     unfold F_law23_works_j7 at hF
     refine KC.cond rfl (fun hc => ?_) (fun hc => ?_)
     ·rw [if_pos hc] at hF
      refine KC.seqH fun Q158 hQ158 => ?_
      refine KC.region ?_
      refine RL.val (O.assign rfl) rfl ?_
      refine RL.val (O.assign rfl) rfl ?_
      refine RL.nil ?_
      refine KQ.thn hQ158 ?_
      clear hQ158 Q158
      refine KC.ret ?_
      refine KQ.thr hQ156 ?_
      clear hQ156 Q156
      refine KQ.rets Try.results8 (RVs.cons (RV.tm rfl) (RVs.cons (RV.tm rfl) RVs.nil)) ?_
      refine ⟨.tuple #[.pointer none, Value.int .i64 2], rfl, ?_⟩
      refine RL.val (O.move rfl) rfl ?_
      refine RL.val (O.ext rfl rfl) rfl ?_
      refine RL.val (O.ext rfl rfl) rfl ?_
      refine RL.val (O.assign rfl) rfl ?_
      refine RL.val (O.assign rfl) rfl ?_
      refine RL.nil ?_
      refine KQ.thn hQ154 ?_
      clear hQ154 Q154
      refine KC.seqH fun Q159 hQ159 => ?_
      refine KC.region ?_
      refine RL.val (O.move rfl) rfl ?_
      refine obindE hF fun y160 hx161 hF => ?_
      refine RL.call Try.func30 bd30 rfl rfl (c_law23_key _ 1 _ hx161) fun v w162 hv => ?_
      obtain ⟨rfl, hN163⟩ := hv
      replace hM := hM.call0 hN163
      refine obindE hF fun y164 hx165 hF => ?_
      refine RL.call Try.func11 bd11 rfl rfl (c_table_Table_Put_N _ y160 5 _ hx165) fun v w166 hv => ?_
      obtain ⟨rfl, hN167⟩ := hv
      replace hM := hM.call0 hN167
      refine RL.val (O.assign rfl) rfl ?_
      refine RL.nil ?_
      refine KQ.thn hQ159 ?_
      clear hQ159 Q159
      refine KC.seqH fun Q168 hQ168 => ?_
      refine KC.region ?_
      refine RL.val (O.move rfl) rfl ?_
      refine obindE hF fun y169 hx170 hF => ?_
      refine RL.call Try.func30 bd30 rfl rfl (c_law23_key _ 2 _ hx170) fun v w171 hv => ?_
      obtain ⟨rfl, hN172⟩ := hv
      replace hM := hM.call0 hN172
      refine obindE hF fun y173 hx174 hF => ?_
      refine RL.call Try.func11 bd11 rfl rfl (c_table_Table_Put_N _ y169 6 _ hx174) fun v w175 hv => ?_
      obtain ⟨rfl, hN176⟩ := hv
      replace hM := hM.call0 hN176
      refine RL.val (O.assign rfl) rfl ?_
      refine RL.nil ?_
      refine KQ.thn hQ168 ?_
      clear hQ168 Q168
      refine KC.seqH fun Q177 hQ177 => ?_
      refine KC.region ?_
      refine RL.val (O.move rfl) rfl ?_
      refine obindE hF fun y178 hx179 hF => ?_
      refine RL.call Try.func30 bd30 rfl rfl (c_law23_key _ 1 _ hx179) fun v w180 hv => ?_
      obtain ⟨rfl, hN181⟩ := hv
      replace hM := hM.call0 hN181
      refine obindE hF fun y182 hx183 hF => ?_
      refine RL.call Try.func11 bd11 rfl rfl (c_table_Table_Put_N _ y178 7 _ hx183) fun v w184 hv => ?_
      obtain ⟨rfl, hN185⟩ := hv
      replace hM := hM.call0 hN185
      refine RL.val (O.assign rfl) rfl ?_
      refine RL.nil ?_
      refine KQ.thn hQ177 ?_
      clear hQ177 Q177
      refine KC.seqH fun Q186 hQ186 => ?_
      refine KC.region ?_
      refine RL.val (O.move rfl) rfl ?_
      refine obindE hF fun y187 hx188 hF => ?_
      refine RL.call Try.func30 bd30 rfl rfl (c_law23_key _ 1 _ hx188) fun v w189 hv => ?_
      obtain ⟨rfl, hN190⟩ := hv
      replace hM := hM.call0 hN190
      refine obindE hF fun y191 hx192 hF => ?_
      refine RL.call Try.func15 bd15 rfl rfl (c_table_Table_Get_N _ y187 _ hx192) fun v w193 hv => ?_
      obtain ⟨rfl, hN194⟩ := hv
      replace hM := hM.call0 hN194
      refine RL.val (O.move rfl) rfl ?_
      refine RL.val (O.ext rfl rfl) rfl ?_
      refine RL.val (O.ext rfl rfl) rfl ?_
      refine RL.val (O.assign rfl) rfl ?_
      refine RL.val (O.assign rfl) rfl ?_
      refine RL.nil ?_
      refine KQ.thn hQ186 ?_
      clear hQ186 Q186
      refine KC.cut (fun a w195 => Kn 84 [(0, Value.bool false)] a ∧ Mem w [] w195 [] ∧ F_law23_works_j8 = some r) ?_ ?_
      ·refine KC.region ?_
       refine RL.val (O.move rfl) rfl ?_
       refine RL.val (O.eql rfl rfl) rfl ?_
       refine RL.brun1 43 83 false (by kernel_rfl) ?_
       refine RL.val (O.assign rfl) rfl ?_
       refine RL.nil ?_
       refine KQ.then_k ?_
       exact fun a ha => ⟨ha.less (less_cons rfl less_nil), hM, hF⟩
      ·rintro a w195 ⟨ha, hM, hF⟩
       refine KC.app ha ?_
       clear ha
       unfold F_law23_works_j8 at hF
       refine KC.ret ?_
       have hE := Option.some.inj hF
       clear hF
       subst hE
       refine KQ.rets Try.results7 (RVs.cons (RV.tm rfl) RVs.nil) ?_
       exact ⟨_, rfl, rfl, hM⟩
     ·rw [if_neg (ne_true hc)] at hF
      refine KC.skip ?_
      refine KQ.thn hQ156 ?_
      clear hQ156 Q156
      refine KC.seqH fun Q196 hQ196 => ?_
      refine KC.region ?_
      refine RL.val (O.move rfl) rfl ?_
      refine cut_someE hF fun hq199 hF => ?_
      refine RL.eff (E.mks (enc := e_table_Slot) (zr := (T_table_Slot.mk false (T_packet_Key.mk (T_addr_Addr.mk false (List.replicate 16 0)) (T_addr_Addr.mk false (List.replicate 16 0)) 0 0 0) 0)) hM sl65 ze74 rfl rfl (fun _ => rfl) rfl rfl rfl (of_decide_eq_true hq199)) rfl fun v w198 hv => ?_
      clear hM
      obtain ⟨A197, rfl, hM, hf⟩ := hv
      refine RL.val (O.bld (cs := [.slice A197 ((List.replicate (Int.toNat 1) ((T_table_Slot.mk false (T_packet_Key.mk (T_addr_Addr.mk false (List.replicate 16 0)) (T_addr_Addr.mk false (List.replicate 16 0)) 0 0 0) 0) : T_table_Slot))).length (Int.toNat 1), Value.int .i64 0]) bt71 rfl (by kernel_rfl)) rfl ?_
      refine RL.eff (E.box (vs := [.slice A197 ((List.replicate (Int.toNat 1) ((T_table_Slot.mk false (T_packet_Key.mk (T_addr_Addr.mk false (List.replicate 16 0)) (T_addr_Addr.mk false (List.replicate 16 0)) 0 0 0) 0) : T_table_Slot))).length (Int.toNat 1), Value.int .i64 0]) hM rfl rfl) rfl fun v w202 hv => ?_
      clear hM
      obtain ⟨g201, rfl, hM, hf⟩ := hv
      refine RL.val (O.assign rfl) rfl ?_
      refine RL.val (O.assign rfl) rfl ?_
      refine RL.nil ?_
      refine KQ.thn hQ196 ?_
      clear hQ196 Q196
      refine KC.ret ?_
      refine KQ.rets Try.results8 (RVs.cons (RV.tm rfl) (RVs.cons (RV.tm rfl) RVs.nil)) ?_
      refine ⟨.tuple #[.pointer (some ⟨g201, 0, none⟩), Value.int .i64 0], rfl, ?_⟩
      refine RL.val (O.move rfl) rfl ?_
      refine RL.val (O.ext rfl rfl) rfl ?_
      refine RL.val (O.ext rfl rfl) rfl ?_
      refine RL.val (O.assign rfl) rfl ?_
      refine RL.val (O.assign rfl) rfl ?_
      refine RL.nil ?_
      refine KQ.thn hQ154 ?_
      clear hQ154 Q154
      refine KC.seqH fun Q204 hQ204 => ?_
      refine KC.region ?_
      refine RL.val (O.move rfl) rfl ?_
      refine obindE hF fun y205 hx206 hF => ?_
      refine RL.call Try.func30 bd30 rfl rfl (c_law23_key _ 1 _ hx206) fun v w207 hv => ?_
      obtain ⟨rfl, hN208⟩ := hv
      replace hM := hM.call0 hN208
      refine obindE hF fun y209 hx210 hF => ?_
      refine RL.call Try.func11 bd11 rfl rfl (c_table_Table_Put _ _ _ (T_table_Table.mk (List.replicate (Int.toNat 1) ((T_table_Slot.mk false (T_packet_Key.mk (T_addr_Addr.mk false (List.replicate 16 0)) (T_addr_Addr.mk false (List.replicate 16 0)) 0 0 0) 0) : T_table_Slot)) 0) _ _ (hM.lent [1, 0] rfl (by decide)) y205 5 _ hx210) fun v w211 hv => ?_
      obtain ⟨A213, c214, rfl, hN212⟩ := hv
      replace hM := hM.callL [1, 0] [] rfl rfl (by decide) rfl hN212
      refine RL.val (O.assign rfl) rfl ?_
      refine RL.nil ?_
      refine KQ.thn hQ204 ?_
      clear hQ204 Q204
      refine KC.seqH fun Q216 hQ216 => ?_
      refine KC.region ?_
      refine RL.val (O.move rfl) rfl ?_
      refine obindE hF fun y217 hx218 hF => ?_
      refine RL.call Try.func30 bd30 rfl rfl (c_law23_key _ 2 _ hx218) fun v w219 hv => ?_
      obtain ⟨rfl, hN220⟩ := hv
      replace hM := hM.call0 hN220
      refine obindE hF fun y221 hx222 hF => ?_
      refine RL.call Try.func11 bd11 rfl rfl (c_table_Table_Put _ _ _ y209.2 _ _ (hM.lent [0, 1] rfl (by decide)) y217 6 _ hx222) fun v w223 hv => ?_
      obtain ⟨A225, c226, rfl, hN224⟩ := hv
      replace hM := hM.callL [0, 1] [] rfl rfl (by decide) rfl hN224
      refine RL.val (O.assign rfl) rfl ?_
      refine RL.nil ?_
      refine KQ.thn hQ216 ?_
      clear hQ216 Q216
      refine KC.seqH fun Q228 hQ228 => ?_
      refine KC.region ?_
      refine RL.val (O.move rfl) rfl ?_
      refine obindE hF fun y229 hx230 hF => ?_
      refine RL.call Try.func30 bd30 rfl rfl (c_law23_key _ 1 _ hx230) fun v w231 hv => ?_
      obtain ⟨rfl, hN232⟩ := hv
      replace hM := hM.call0 hN232
      refine obindE hF fun y233 hx234 hF => ?_
      refine RL.call Try.func11 bd11 rfl rfl (c_table_Table_Put _ _ _ y221.2 _ _ (hM.lent [0, 1] rfl (by decide)) y229 7 _ hx234) fun v w235 hv => ?_
      obtain ⟨A237, c238, rfl, hN236⟩ := hv
      replace hM := hM.callL [0, 1] [] rfl rfl (by decide) rfl hN236
      refine RL.val (O.assign rfl) rfl ?_
      refine RL.nil ?_
      refine KQ.thn hQ228 ?_
      clear hQ228 Q228
      refine KC.seqH fun Q240 hQ240 => ?_
      refine KC.region ?_
      refine RL.val (O.move rfl) rfl ?_
      refine obindE hF fun y241 hx242 hF => ?_
      refine RL.call Try.func30 bd30 rfl rfl (c_law23_key _ 1 _ hx242) fun v w243 hv => ?_
      obtain ⟨rfl, hN244⟩ := hv
      replace hM := hM.call0 hN244
      refine obindE hF fun y245 hx246 hF => ?_
      refine RL.call Try.func15 bd15 rfl rfl (c_table_Table_Get _ _ _ y233.2 _ _ (hM.lent [0, 1] rfl (by decide)) y241 _ hx246) fun v w247 hv => ?_
      obtain ⟨A249, c250, rfl, hN248⟩ := hv
      replace hM := hM.callL [0, 1] [] rfl rfl (by decide) rfl hN248
      refine RL.val (O.move rfl) rfl ?_
      refine RL.val (O.ext rfl rfl) rfl ?_
      refine RL.val (O.ext rfl rfl) rfl ?_
      refine RL.val (O.assign rfl) rfl ?_
      refine RL.val (O.assign rfl) rfl ?_
      refine RL.nil ?_
      refine KQ.thn hQ240 ?_
      clear hQ240 Q240
      refine KC.cut (fun a w252 => Kn 84 [(0, Value.bool false)] a ∧ Mem w [] w252 [] ∧ F_law23_works_j9 = some r) ?_ ?_
      ·refine KC.region ?_
       refine RL.val (O.move rfl) rfl ?_
       refine RL.val (O.eql rfl rfl) rfl ?_
       refine RL.brun1 43 83 false (by kernel_rfl) ?_
       refine RL.val (O.assign rfl) rfl ?_
       refine RL.nil ?_
       refine KQ.then_k ?_
       replace hM := hM.pick [] rfl (by decide)
       exact fun a ha => ⟨ha.less (less_cons rfl less_nil), hM, hF⟩
      ·rintro a w252 ⟨ha, hM, hF⟩
       refine KC.app ha ?_
       clear ha
       unfold F_law23_works_j9 at hF
       refine KC.ret ?_
       have hE := Option.some.inj hF
       clear hF
       subst hE
       refine KQ.rets Try.results7 (RVs.cons (RV.tm rfl) RVs.nil) ?_
       exact ⟨_, rfl, rfl, hM⟩
end Go.Proofs.Ytnbakndfnjflhaa
