/- Printed by a program of this claim: each call returns what the plain function of its name gives. -/
import Derived.Test.YtkpnocgfhipidaaW1
import Derived.Test.YtkpnocgfhipidaaW3
set_option linter.unusedVariables false
namespace Go.Proofs.Ytkpnocgfhipidaa
open Go Go.Ox Go.RowKit
set_option maxRecDepth 100000 in
set_option maxHeartbeats 40000000 in
theorem c_table_Table_find (w : World) (g2 : Nat) (tg7 : TypeId) (t1 : T_table_Table) (A4 : Option Addr) (c5 : Nat) (hL9 : Lent w [.box g2 tg7 [.slice A4 (t1.f_slots).length c5, vI t1.f_many], .row A4 c5 102 39 (t1.f_slots).length ((t1.f_slots).flatMap e_table_Slot)]) (kv8 : T_packet_Key) (r : Int × Int × T_table_Table) (hF : F_table_Table_find t1 kv8 = some r) :
  CallsR Try.prog 64 [.pointer (some ⟨g2, 0, none⟩), .agg #[vB kv8.f_Src.f_Six, o8 kv8.f_Src.f_B 0, o8 kv8.f_Src.f_B 1, o8 kv8.f_Src.f_B 2, o8 kv8.f_Src.f_B 3, o8 kv8.f_Src.f_B 4, o8 kv8.f_Src.f_B 5, o8 kv8.f_Src.f_B 6, o8 kv8.f_Src.f_B 7, o8 kv8.f_Src.f_B 8, o8 kv8.f_Src.f_B 9, o8 kv8.f_Src.f_B 10, o8 kv8.f_Src.f_B 11, o8 kv8.f_Src.f_B 12, o8 kv8.f_Src.f_B 13, o8 kv8.f_Src.f_B 14, o8 kv8.f_Src.f_B 15, vB kv8.f_Dst.f_Six, o8 kv8.f_Dst.f_B 0, o8 kv8.f_Dst.f_B 1, o8 kv8.f_Dst.f_B 2, o8 kv8.f_Dst.f_B 3, o8 kv8.f_Dst.f_B 4, o8 kv8.f_Dst.f_B 5, o8 kv8.f_Dst.f_B 6, o8 kv8.f_Dst.f_B 7, o8 kv8.f_Dst.f_B 8, o8 kv8.f_Dst.f_B 9, o8 kv8.f_Dst.f_B 10, o8 kv8.f_Dst.f_B 11, o8 kv8.f_Dst.f_B 12, o8 kv8.f_Dst.f_B 13, o8 kv8.f_Dst.f_B 14, o8 kv8.f_Dst.f_B 15, v8 kv8.f_Proto, v16 kv8.f_SrcPort, v16 kv8.f_DstPort]] w (fun v w' => ∃ (A0 : Option Addr) (c0 : Nat), v = .tuple #[vI r.1, vI r.2.1] ∧ Mem w [some g2, rblk A4 c5] w' [.box g2 tg7 [.slice A0 (r.2.2.f_slots).length c0, vI r.2.2.f_many], .row A0 c0 102 39 r.2.2.f_slots.length (r.2.2.f_slots.flatMap e_table_Slot)]) := by
 refine calls_KCM Try.func64 rfl Try.ntmps64 rfl ?_
 have hM : Mem w [some g2, rblk A4 c5] w [.box g2 tg7 [.slice A4 (t1.f_slots).length c5, vI t1.f_many], .row A4 c5 102 39 (t1.f_slots).length ((t1.f_slots).flatMap e_table_Slot)] := Mem.lendN hL9
 unfold F_table_Table_find at hF
 refine sr fun Q10 hQ10 => ?_
 refine RL.eff (E.box (vs := [.pointer (some ⟨g2, 0, none⟩)]) hM rfl rfl) rfl fun v w12 hv => ?_
 clear hM
 obtain ⟨g11, rfl, hM, hf⟩ := hv
 refine RL.eff (E.box (vs := [vB kv8.f_Src.f_Six, o8 kv8.f_Src.f_B 0, o8 kv8.f_Src.f_B 1, o8 kv8.f_Src.f_B 2, o8 kv8.f_Src.f_B 3, o8 kv8.f_Src.f_B 4, o8 kv8.f_Src.f_B 5, o8 kv8.f_Src.f_B 6, o8 kv8.f_Src.f_B 7, o8 kv8.f_Src.f_B 8, o8 kv8.f_Src.f_B 9, o8 kv8.f_Src.f_B 10, o8 kv8.f_Src.f_B 11, o8 kv8.f_Src.f_B 12, o8 kv8.f_Src.f_B 13, o8 kv8.f_Src.f_B 14, o8 kv8.f_Src.f_B 15, vB kv8.f_Dst.f_Six, o8 kv8.f_Dst.f_B 0, o8 kv8.f_Dst.f_B 1, o8 kv8.f_Dst.f_B 2, o8 kv8.f_Dst.f_B 3, o8 kv8.f_Dst.f_B 4, o8 kv8.f_Dst.f_B 5, o8 kv8.f_Dst.f_B 6, o8 kv8.f_Dst.f_B 7, o8 kv8.f_Dst.f_B 8, o8 kv8.f_Dst.f_B 9, o8 kv8.f_Dst.f_B 10, o8 kv8.f_Dst.f_B 11, o8 kv8.f_Dst.f_B 12, o8 kv8.f_Dst.f_B 13, o8 kv8.f_Dst.f_B 14, o8 kv8.f_Dst.f_B 15, v8 kv8.f_Proto, v16 kv8.f_SrcPort, v16 kv8.f_DstPort]) hM rfl rfl) rfl fun v w15 hv => ?_
 clear hM
 obtain ⟨g14, rfl, hM, hf⟩ := hv
 refine RL.eff (E.alloc hM ze3) rfl fun v w18 hv => ?_
 clear hM
 obtain ⟨g17, rfl, hM, hf⟩ := hv
 refine RL.eff (E.alloc hM ze3) rfl fun v w21 hv => ?_
 clear hM
 obtain ⟨g20, rfl, hM, hf⟩ := hv
 refine nt hQ10 ?_
 clear hQ10 Q10
 refine KC.seqH fun Q23 hQ23 => ?_
 refine sr fun Q24 hQ24 => ?_
 refine RL.val (O.load sc68 rfl (Cs.adds [] ((hM.bx (i := 2) rfl)) rfl)) rfl ?_
 refine RL.val (O.peqn Try.underlying68 rfl rfl) rfl ?_
 refine nt hQ24 ?_
 clear hQ24 Q24
 refine KC.condF rfl ?_
 refine KC.skip ?_
 refine KQ.thn hQ23 ?_
 clear hQ23 Q23
 refine KC.seqH fun Q25 hQ25 => ?_
 refine sr fun Q26 hQ26 => ?_
 refine RL.val (O.load sc68 rfl (Cs.adds [] ((hM.bx (i := 2) rfl)) rfl)) rfl ?_
 refine RL.val (O.loadN (cs := [vB kv8.f_Src.f_Six, o8 kv8.f_Src.f_B 0, o8 kv8.f_Src.f_B 1, o8 kv8.f_Src.f_B 2, o8 kv8.f_Src.f_B 3, o8 kv8.f_Src.f_B 4, o8 kv8.f_Src.f_B 5, o8 kv8.f_Src.f_B 6, o8 kv8.f_Src.f_B 7, o8 kv8.f_Src.f_B 8, o8 kv8.f_Src.f_B 9, o8 kv8.f_Src.f_B 10, o8 kv8.f_Src.f_B 11, o8 kv8.f_Src.f_B 12, o8 kv8.f_Src.f_B 13, o8 kv8.f_Src.f_B 14, o8 kv8.f_Src.f_B 15, vB kv8.f_Dst.f_Six, o8 kv8.f_Dst.f_B 0, o8 kv8.f_Dst.f_B 1, o8 kv8.f_Dst.f_B 2, o8 kv8.f_Dst.f_B 3, o8 kv8.f_Dst.f_B 4, o8 kv8.f_Dst.f_B 5, o8 kv8.f_Dst.f_B 6, o8 kv8.f_Dst.f_B 7, o8 kv8.f_Dst.f_B 8, o8 kv8.f_Dst.f_B 9, o8 kv8.f_Dst.f_B 10, o8 kv8.f_Dst.f_B 11, o8 kv8.f_Dst.f_B 12, o8 kv8.f_Dst.f_B 13, o8 kv8.f_Dst.f_B 14, o8 kv8.f_Dst.f_B 15, v8 kv8.f_Proto, v16 kv8.f_SrcPort, v16 kv8.f_DstPort]) ag36 rfl (Cs.addsN [] ((hM.bx (i := 3) rfl)) rfl)) rfl ?_
 refine RL.icall Try.func78 bd78 rfl rfl rfl Try.ntmps78 rfl ?_
 refine sr fun Q27 hQ27 => ?_
 refine RL.eff (E.box (vs := [.pointer (some ⟨g2, 0, none⟩)]) hM rfl rfl) rfl fun v w29 hv => ?_
 clear hM
 obtain ⟨g28, rfl, hM, hf⟩ := hv
 refine RL.eff (E.box (vs := [vB kv8.f_Src.f_Six, o8 kv8.f_Src.f_B 0, o8 kv8.f_Src.f_B 1, o8 kv8.f_Src.f_B 2, o8 kv8.f_Src.f_B 3, o8 kv8.f_Src.f_B 4, o8 kv8.f_Src.f_B 5, o8 kv8.f_Src.f_B 6, o8 kv8.f_Src.f_B 7, o8 kv8.f_Src.f_B 8, o8 kv8.f_Src.f_B 9, o8 kv8.f_Src.f_B 10, o8 kv8.f_Src.f_B 11, o8 kv8.f_Src.f_B 12, o8 kv8.f_Src.f_B 13, o8 kv8.f_Src.f_B 14, o8 kv8.f_Src.f_B 15, vB kv8.f_Dst.f_Six, o8 kv8.f_Dst.f_B 0, o8 kv8.f_Dst.f_B 1, o8 kv8.f_Dst.f_B 2, o8 kv8.f_Dst.f_B 3, o8 kv8.f_Dst.f_B 4, o8 kv8.f_Dst.f_B 5, o8 kv8.f_Dst.f_B 6, o8 kv8.f_Dst.f_B 7, o8 kv8.f_Dst.f_B 8, o8 kv8.f_Dst.f_B 9, o8 kv8.f_Dst.f_B 10, o8 kv8.f_Dst.f_B 11, o8 kv8.f_Dst.f_B 12, o8 kv8.f_Dst.f_B 13, o8 kv8.f_Dst.f_B 14, o8 kv8.f_Dst.f_B 15, v8 kv8.f_Proto, v16 kv8.f_SrcPort, v16 kv8.f_DstPort]) hM rfl rfl) rfl fun v w32 hv => ?_
 clear hM
 obtain ⟨g31, rfl, hM, hf⟩ := hv
 refine va rfl rfl ?_
 refine nt hQ27 ?_
 clear hQ27 Q27
 refine sr fun Q34 hQ34 => ?_
 refine RL.val (O.mkf rfl rfl) rfl ?_
 refine va rfl rfl ?_
 refine nt hQ34 ?_
 clear hQ34 Q34
 refine KC.ret ?_
 refine KQ.rets Try.results78 (RVs.cons (RV.tm rfl) RVs.nil) ?_
 refine ⟨.func (.func 89) #[] #[.pointer (some ⟨g28, 0, none⟩), .pointer (some ⟨g31, 0, none⟩)], rfl, ?_⟩
 refine nt hQ26 ?_
 clear hQ26 Q26
 refine KC.block ?_
 refine KC.range (lb := [.pointer (some ⟨g28, 0, none⟩), .pointer (some ⟨g31, 0, none⟩)]) hM rfl Try.func89 bd89 rfl Try.ntmps89 rfl fun a35 rc37 l39 D40 w41 ha36 hrc38 hM1 hf42 => ?_
 clear hM
 have hM := hM1
 clear hM1
 refine sr fun Q45 hQ45 => ?_
 refine RL.val (O.load sc68 rfl (Cs.adds [] ((hM.bx (i := 6) rfl)) rfl)) rfl ?_
 refine obindE hF fun y46 hx47 hF => ?_
 refine RL.call Try.func90 bd90 rfl rfl (c_table_Table_Size _ _ _ t1 _ _ (hM.lent [0, 1] rfl (by decide)) _ hx47) fun v w48 hv => ?_
 obtain ⟨A50, c51, rfl, hN49⟩ := hv
 replace hM := hM.callL [0, 1] [2, 3, 4, 5, 6, 7, 8, 9] rfl rfl (by decide) rfl hN49
 refine RL.val (O.conv un3 Try.underlying22 rfl) rfl ?_
 refine va rfl rfl ?_
 refine nt hQ45 ?_
 clear hQ45 Q45
 refine sr fun Q53 hQ53 => ?_
 refine vm rfl rfl ?_
 refine vm rfl rfl ?_
 refine nt hQ53 ?_
 clear hQ53 Q53
 refine KC.block ?_
 refine KC.loop (fun k182 a w180 => ∃ (t173 : Int) (t178 : Int), Kn 24 [(0, .func (.yield l39) #[] #[]), (2, .pointer (some ⟨g31, 0, none⟩)), (4, v64 (IntKind.u64.wrap y46.1)), (9, v64 (IntKind.u64.wrap y46.1)), (10, v64 t173)] a ∧ Mem w [some g2, rblk A4 c5] w180 [.res [D40] (DefAt D40), .res [l39] (LoopAt l39 rc37 .ready none), .row A50 c51 102 39 (y46.2.f_slots).length ((y46.2.f_slots).flatMap e_table_Slot), .box g2 tg7 [.slice A50 (y46.2.f_slots).length c51, vI y46.2.f_many], .box g31 36 [vB kv8.f_Src.f_Six, o8 kv8.f_Src.f_B 0, o8 kv8.f_Src.f_B 1, o8 kv8.f_Src.f_B 2, o8 kv8.f_Src.f_B 3, o8 kv8.f_Src.f_B 4, o8 kv8.f_Src.f_B 5, o8 kv8.f_Src.f_B 6, o8 kv8.f_Src.f_B 7, o8 kv8.f_Src.f_B 8, o8 kv8.f_Src.f_B 9, o8 kv8.f_Src.f_B 10, o8 kv8.f_Src.f_B 11, o8 kv8.f_Src.f_B 12, o8 kv8.f_Src.f_B 13, o8 kv8.f_Src.f_B 14, o8 kv8.f_Src.f_B 15, vB kv8.f_Dst.f_Six, o8 kv8.f_Dst.f_B 0, o8 kv8.f_Dst.f_B 1, o8 kv8.f_Dst.f_B 2, o8 kv8.f_Dst.f_B 3, o8 kv8.f_Dst.f_B 4, o8 kv8.f_Dst.f_B 5, o8 kv8.f_Dst.f_B 6, o8 kv8.f_Dst.f_B 7, o8 kv8.f_Dst.f_B 8, o8 kv8.f_Dst.f_B 9, o8 kv8.f_Dst.f_B 10, o8 kv8.f_Dst.f_B 11, o8 kv8.f_Dst.f_B 12, o8 kv8.f_Dst.f_B 13, o8 kv8.f_Dst.f_B 14, o8 kv8.f_Dst.f_B 15, v8 kv8.f_Proto, v16 kv8.f_SrcPort, v16 kv8.f_DstPort], .box g11 68 [.pointer (some ⟨g2, 0, none⟩)], .box g14 36 [vB kv8.f_Src.f_Six, o8 kv8.f_Src.f_B 0, o8 kv8.f_Src.f_B 1, o8 kv8.f_Src.f_B 2, o8 kv8.f_Src.f_B 3, o8 kv8.f_Src.f_B 4, o8 kv8.f_Src.f_B 5, o8 kv8.f_Src.f_B 6, o8 kv8.f_Src.f_B 7, o8 kv8.f_Src.f_B 8, o8 kv8.f_Src.f_B 9, o8 kv8.f_Src.f_B 10, o8 kv8.f_Src.f_B 11, o8 kv8.f_Src.f_B 12, o8 kv8.f_Src.f_B 13, o8 kv8.f_Src.f_B 14, o8 kv8.f_Src.f_B 15, vB kv8.f_Dst.f_Six, o8 kv8.f_Dst.f_B 0, o8 kv8.f_Dst.f_B 1, o8 kv8.f_Dst.f_B 2, o8 kv8.f_Dst.f_B 3, o8 kv8.f_Dst.f_B 4, o8 kv8.f_Dst.f_B 5, o8 kv8.f_Dst.f_B 6, o8 kv8.f_Dst.f_B 7, o8 kv8.f_Dst.f_B 8, o8 kv8.f_Dst.f_B 9, o8 kv8.f_Dst.f_B 10, o8 kv8.f_Dst.f_B 11, o8 kv8.f_Dst.f_B 12, o8 kv8.f_Dst.f_B 13, o8 kv8.f_Dst.f_B 14, o8 kv8.f_Dst.f_B 15, v8 kv8.f_Proto, v16 kv8.f_SrcPort, v16 kv8.f_DstPort], .box g17 3 [vI 0], .box g20 3 [vI t178], .box g28 68 [.pointer (some ⟨g2, 0, none⟩)]] ∧ F_table_Table_find_L1 kv8 y46 k182 t173 t178 = some r) ?_ ?_
 ·replace hM := hM.pick [6, 7, 9, 8, 5, 0, 1, 2, 3, 4] rfl (by decide)
  exact fun a ha => ⟨fuel0, 0, 0, ha.less (less_cons rfl (less_cons rfl (less_cons rfl (less_cons rfl (less_cons rfl less_nil))))), hM, hF⟩
 rintro k182 a w180 ⟨t173, t178, ha, hM, hF⟩
 refine KC.app ha ?_
 clear ha
 cases k182 with
 | zero => exact (none_some hF).elim
 | succ k182 =>
 have hF : F_table_Table_find_l1 (F_table_Table_find_L1 kv8 y46 k182) kv8 y46 t173 t178 = some r := hF
 unfold F_table_Table_find_l1 at hF
 refine sr fun Q183 hQ183 => ?_
 refine RL.val (O.lss rfl rfl) rfl ?_
 refine nt hQ183 ?_
 clear hQ183 Q183
 refine KC.seqH fun Q184 hQ184 => ?_
 refine KC.cond rfl (fun hc => ?_) (fun hc => ?_)
 ·rw [if_pos hc] at hF
  refine KC.skip ?_
  refine KQ.thn hQ184 ?_
  clear hQ184 Q184
  refine KC.seqH fun Q185 hQ185 => ?_
  refine KC.block ?_
  refine sr fun Q186 hQ186 => ?_
  refine vm rfl rfl ?_
  refine va rfl rfl ?_
  refine nt hQ186 ?_
  clear hQ186 Q186
  refine sr fun Q187 hQ187 => ?_
  refine vm rfl rfl ?_
  refine RL.val (O.loadN (cs := [vB kv8.f_Src.f_Six, o8 kv8.f_Src.f_B 0, o8 kv8.f_Src.f_B 1, o8 kv8.f_Src.f_B 2, o8 kv8.f_Src.f_B 3, o8 kv8.f_Src.f_B 4, o8 kv8.f_Src.f_B 5, o8 kv8.f_Src.f_B 6, o8 kv8.f_Src.f_B 7, o8 kv8.f_Src.f_B 8, o8 kv8.f_Src.f_B 9, o8 kv8.f_Src.f_B 10, o8 kv8.f_Src.f_B 11, o8 kv8.f_Src.f_B 12, o8 kv8.f_Src.f_B 13, o8 kv8.f_Src.f_B 14, o8 kv8.f_Src.f_B 15, vB kv8.f_Dst.f_Six, o8 kv8.f_Dst.f_B 0, o8 kv8.f_Dst.f_B 1, o8 kv8.f_Dst.f_B 2, o8 kv8.f_Dst.f_B 3, o8 kv8.f_Dst.f_B 4, o8 kv8.f_Dst.f_B 5, o8 kv8.f_Dst.f_B 6, o8 kv8.f_Dst.f_B 7, o8 kv8.f_Dst.f_B 8, o8 kv8.f_Dst.f_B 9, o8 kv8.f_Dst.f_B 10, o8 kv8.f_Dst.f_B 11, o8 kv8.f_Dst.f_B 12, o8 kv8.f_Dst.f_B 13, o8 kv8.f_Dst.f_B 14, o8 kv8.f_Dst.f_B 15, v8 kv8.f_Proto, v16 kv8.f_SrcPort, v16 kv8.f_DstPort]) ag36 rfl (Cs.addsN [] ((hM.bx (i := 4) rfl)) rfl)) rfl ?_
  refine obindE hF fun y188 hx189 hF => ?_
  refine RL.call Try.func91 bd91 rfl rfl (c_table_Hash _ kv8 _ hx189) fun v w190 hv => ?_
  obtain ⟨rfl, hN191⟩ := hv
  replace hM := hM.call0 hN191
  refine vm rfl rfl ?_
  refine RL.val (O.add rfl rfl) rfl ?_
  refine vm rfl rfl ?_
  refine cut_someE hF fun hq192 hF => ?_
  refine RL.val (O.rem rfl rfl (of_decide_eq_true hq192)) rfl ?_
  refine RL.val (O.conv un22 Try.underlying3 rfl) rfl ?_
  refine RL.yield hM (i := 1) rfl ha36 hrc38 rfl rfl rfl rfl rfl ?_
  refine KC.region ?_
  refine va rfl rfl ?_
  refine RL.nil ?_
  refine KQ.begin hM (i := 1) rfl fun w193 hM1 hf194 => ?_
  clear hM
  have hM := hM1
  clear hM1
  refine KC.block ?_
  refine sr fun Q195 hQ195 => ?_
  refine RL.val (O.load sc3 rfl (Cs.adds [] ((hM.bx (i := 8) rfl)) rfl)) rfl ?_
  refine RL.val (O.add rfl rfl) rfl ?_
  refine RL.effs (E.stB (j := 8) (off := 0) (vs := [vI (IntKind.i64.wrap (t178 + 1))]) (cs' := [vI (IntKind.i64.wrap (t178 + 1))]) hM rfl sz3 rfl (adds_eq [] rfl) rfl rfl (One.all rfl) rfl rfl) fun w196 hM1 => ?_
  clear hM
  have hM := hM1
  clear hM1
  refine nt hQ195 ?_
  clear hQ195 Q195
  refine KC.cut (fun a w214 => ∃ (t209 : Bool), Kn 39 [(4, .pointer (some ⟨g17, 0, none⟩)), (5, .pointer (some ⟨g20, 0, none⟩)), (6, vI (IntKind.i64.wrap (Int.tmod (IntKind.u64.wrap (y188 + t173)) (IntKind.u64.wrap y46.1)))), (35, vB t209)] a ∧ Mem w [some g2, rblk A4 c5] w214 [.res [D40] (DefAt D40), .res [l39] (LoopAt l39 rc37 .busy none), .row A50 c51 102 39 (y46.2.f_slots).length ((y46.2.f_slots).flatMap e_table_Slot), .box g2 tg7 [.slice A50 (y46.2.f_slots).length c51, vI y46.2.f_many], .box g17 3 [vI 0], .box g20 3 [vI (IntKind.i64.wrap (t178 + 1))], .box g11 68 [.pointer (some ⟨g2, 0, none⟩)], .box g14 36 [vB kv8.f_Src.f_Six, o8 kv8.f_Src.f_B 0, o8 kv8.f_Src.f_B 1, o8 kv8.f_Src.f_B 2, o8 kv8.f_Src.f_B 3, o8 kv8.f_Src.f_B 4, o8 kv8.f_Src.f_B 5, o8 kv8.f_Src.f_B 6, o8 kv8.f_Src.f_B 7, o8 kv8.f_Src.f_B 8, o8 kv8.f_Src.f_B 9, o8 kv8.f_Src.f_B 10, o8 kv8.f_Src.f_B 11, o8 kv8.f_Src.f_B 12, o8 kv8.f_Src.f_B 13, o8 kv8.f_Src.f_B 14, o8 kv8.f_Src.f_B 15, vB kv8.f_Dst.f_Six, o8 kv8.f_Dst.f_B 0, o8 kv8.f_Dst.f_B 1, o8 kv8.f_Dst.f_B 2, o8 kv8.f_Dst.f_B 3, o8 kv8.f_Dst.f_B 4, o8 kv8.f_Dst.f_B 5, o8 kv8.f_Dst.f_B 6, o8 kv8.f_Dst.f_B 7, o8 kv8.f_Dst.f_B 8, o8 kv8.f_Dst.f_B 9, o8 kv8.f_Dst.f_B 10, o8 kv8.f_Dst.f_B 11, o8 kv8.f_Dst.f_B 12, o8 kv8.f_Dst.f_B 13, o8 kv8.f_Dst.f_B 14, o8 kv8.f_Dst.f_B 15, v8 kv8.f_Proto, v16 kv8.f_SrcPort, v16 kv8.f_DstPort], .box g28 68 [.pointer (some ⟨g2, 0, none⟩)], .box g31 36 [vB kv8.f_Src.f_Six, o8 kv8.f_Src.f_B 0, o8 kv8.f_Src.f_B 1, o8 kv8.f_Src.f_B 2, o8 kv8.f_Src.f_B 3, o8 kv8.f_Src.f_B 4, o8 kv8.f_Src.f_B 5, o8 kv8.f_Src.f_B 6, o8 kv8.f_Src.f_B 7, o8 kv8.f_Src.f_B 8, o8 kv8.f_Src.f_B 9, o8 kv8.f_Src.f_B 10, o8 kv8.f_Src.f_B 11, o8 kv8.f_Src.f_B 12, o8 kv8.f_Src.f_B 13, o8 kv8.f_Src.f_B 14, o8 kv8.f_Src.f_B 15, vB kv8.f_Dst.f_Six, o8 kv8.f_Dst.f_B 0, o8 kv8.f_Dst.f_B 1, o8 kv8.f_Dst.f_B 2, o8 kv8.f_Dst.f_B 3, o8 kv8.f_Dst.f_B 4, o8 kv8.f_Dst.f_B 5, o8 kv8.f_Dst.f_B 6, o8 kv8.f_Dst.f_B 7, o8 kv8.f_Dst.f_B 8, o8 kv8.f_Dst.f_B 9, o8 kv8.f_Dst.f_B 10, o8 kv8.f_Dst.f_B 11, o8 kv8.f_Dst.f_B 12, o8 kv8.f_Dst.f_B 13, o8 kv8.f_Dst.f_B 14, o8 kv8.f_Dst.f_B 15, v8 kv8.f_Proto, v16 kv8.f_SrcPort, v16 kv8.f_DstPort]] ∧ F_table_Table_find_j1 y46 t173 t178 (F_table_Table_find_L1 kv8 y46 k182) y188 t209 = some r) ?_ ?_
  ·replace hM := hM.drewN 1
   refine KC.draw [] [] [] [1, 2, 4, 6, 8, 9, 11, 12, 14, 16, 19, 20] (.ofList [0, 1, 2, 3, 4, 5, 6, 7, 8, 9, 10, 11, 12, 13, 14, 15, 16, 17, 18, 19, 20]) moP (by kernel_rfl) ?_
   refine RD.q rfl rfl rfl rfl (fun w' hf => O.load sc68 rfl (Cs.adds [] ((hM.bx (i := 5) rfl).fut hf) rfl)) ?_
   refine RD.p rfl rfl rfl rfl (fun w' => O.nilp rfl) ?_
   refine RD.p rfl rfl rfl rfl (fun w' => O.fldA fl96_0 (by decide) rfl) ?_
   refine RD.q rfl rfl rfl rfl (fun w' hf => O.load sc94 rfl (Cs.adds [0] ((hM.bx (i := 3) rfl).fut hf) rfl)) ?_
   refine RD.p rfl rfl rfl rfl (fun w' => O.move rfl) ?_
   refine obindE hF fun xv199 hx198 hF => ?_
   have hA197 := Rd.atN (f := e_table_Slot) (s := 39) (fun _ => rfl) (by decide) (hM.rd (i := 2) rfl) hx198
   refine RD.q rfl rfl rfl rfl (fun w' hf => O.idxA sl94 (hA197.fut hf) rfl rfl) ?_
   refine RD.p rfl rfl rfl rfl (fun w' => O.fldA fl102_0 (by decide) rfl) ?_
   refine RD.q rfl rfl rfl rfl (fun w' hf => O.load sc4 rfl (Cs.adds [0] (hA197.fut hf).cells rfl)) ?_
   refine RD.p rfl rfl rfl rfl (fun w' => O.not rfl) ?_
   refine RD.p rfl rfl rfl rfl (fun w' => O.move rfl) ?_
   refine RD.bcase (t := 24) rfl (fun hc => ?_) (fun hc => ?_)
   ·rw [if_pos hc] at hF
    refine RD.brun1 [10, 11, 12, 13, 14, 15, 16, 17, 18, 19, 20] 35 true (by kernel_rfl) ?_
    refine RD.nil ?_
    refine KQ.then_k ?_
    replace hM := hM.pick [0, 1, 2, 3, 7, 8, 5, 6, 9, 4] rfl (by decide)
    exact fun a ha => ⟨true, ha.less (less_cons rfl (less_cons rfl (less_cons rfl (less_cons rfl less_nil)))), hM, hF⟩
   rw [if_neg (ne_true hc)] at hF
   refine RD.gq rfl rfl rfl rfl rfl rfl (fun w' hf => O.load sc68 rfl (Cs.adds [] ((hM.bx (i := 5) rfl).fut hf) rfl)) ?_
   refine RD.gp rfl rfl rfl rfl rfl rfl (fun w' => O.nilp rfl) ?_
   refine RD.gp rfl rfl rfl rfl rfl rfl (fun w' => O.fldA fl96_0 (by decide) rfl) ?_
   refine RD.gq rfl rfl rfl rfl rfl rfl (fun w' hf => O.load sc94 rfl (Cs.adds [0] ((hM.bx (i := 3) rfl).fut hf) rfl)) ?_
   refine RD.gp rfl rfl rfl rfl rfl rfl (fun w' => O.move rfl) ?_
   refine obindE hF fun xv202 hx201 hF => ?_
   have hA200 := Rd.atN (f := e_table_Slot) (s := 39) (fun _ => rfl) (by decide) (hM.rd (i := 2) rfl) hx201
   refine RD.gq rfl rfl rfl rfl rfl rfl (fun w' hf => O.idxA sl94 (hA200.fut hf) rfl rfl) ?_
   refine RD.gp rfl rfl rfl rfl rfl rfl (fun w' => O.fldA fl102_1 (by decide) rfl) ?_
   refine RD.gq rfl rfl rfl rfl rfl rfl (fun w' hf => O.loadN (cs := [vB xv202.f_Key.f_Src.f_Six, o8 xv202.f_Key.f_Src.f_B 0, o8 xv202.f_Key.f_Src.f_B 1, o8 xv202.f_Key.f_Src.f_B 2, o8 xv202.f_Key.f_Src.f_B 3, o8 xv202.f_Key.f_Src.f_B 4, o8 xv202.f_Key.f_Src.f_B 5, o8 xv202.f_Key.f_Src.f_B 6, o8 xv202.f_Key.f_Src.f_B 7, o8 xv202.f_Key.f_Src.f_B 8, o8 xv202.f_Key.f_Src.f_B 9, o8 xv202.f_Key.f_Src.f_B 10, o8 xv202.f_Key.f_Src.f_B 11, o8 xv202.f_Key.f_Src.f_B 12, o8 xv202.f_Key.f_Src.f_B 13, o8 xv202.f_Key.f_Src.f_B 14, o8 xv202.f_Key.f_Src.f_B 15, vB xv202.f_Key.f_Dst.f_Six, o8 xv202.f_Key.f_Dst.f_B 0, o8 xv202.f_Key.f_Dst.f_B 1, o8 xv202.f_Key.f_Dst.f_B 2, o8 xv202.f_Key.f_Dst.f_B 3, o8 xv202.f_Key.f_Dst.f_B 4, o8 xv202.f_Key.f_Dst.f_B 5, o8 xv202.f_Key.f_Dst.f_B 6, o8 xv202.f_Key.f_Dst.f_B 7, o8 xv202.f_Key.f_Dst.f_B 8, o8 xv202.f_Key.f_Dst.f_B 9, o8 xv202.f_Key.f_Dst.f_B 10, o8 xv202.f_Key.f_Dst.f_B 11, o8 xv202.f_Key.f_Dst.f_B 12, o8 xv202.f_Key.f_Dst.f_B 13, o8 xv202.f_Key.f_Dst.f_B 14, o8 xv202.f_Key.f_Dst.f_B 15, v8 xv202.f_Key.f_Proto, v16 xv202.f_Key.f_SrcPort, v16 xv202.f_Key.f_DstPort]) ag36 rfl (Cs.addsN [1] (hA200.fut hf).cells rfl)) ?_
   refine RD.gq rfl rfl rfl rfl rfl rfl (fun w' hf => O.loadN (cs := [vB kv8.f_Src.f_Six, o8 kv8.f_Src.f_B 0, o8 kv8.f_Src.f_B 1, o8 kv8.f_Src.f_B 2, o8 kv8.f_Src.f_B 3, o8 kv8.f_Src.f_B 4, o8 kv8.f_Src.f_B 5, o8 kv8.f_Src.f_B 6, o8 kv8.f_Src.f_B 7, o8 kv8.f_Src.f_B 8, o8 kv8.f_Src.f_B 9, o8 kv8.f_Src.f_B 10, o8 kv8.f_Src.f_B 11, o8 kv8.f_Src.f_B 12, o8 kv8.f_Src.f_B 13, o8 kv8.f_Src.f_B 14, o8 kv8.f_Src.f_B 15, vB kv8.f_Dst.f_Six, o8 kv8.f_Dst.f_B 0, o8 kv8.f_Dst.f_B 1, o8 kv8.f_Dst.f_B 2, o8 kv8.f_Dst.f_B 3, o8 kv8.f_Dst.f_B 4, o8 kv8.f_Dst.f_B 5, o8 kv8.f_Dst.f_B 6, o8 kv8.f_Dst.f_B 7, o8 kv8.f_Dst.f_B 8, o8 kv8.f_Dst.f_B 9, o8 kv8.f_Dst.f_B 10, o8 kv8.f_Dst.f_B 11, o8 kv8.f_Dst.f_B 12, o8 kv8.f_Dst.f_B 13, o8 kv8.f_Dst.f_B 14, o8 kv8.f_Dst.f_B 15, v8 kv8.f_Proto, v16 kv8.f_SrcPort, v16 kv8.f_DstPort]) ag36 rfl (Cs.addsN [] ((hM.bx (i := 6) rfl).fut hf) rfl)) ?_
   refine RD.gp rfl rfl rfl rfl rfl rfl (fun w' => O.steq (cs := [vB xv202.f_Key.f_Src.f_Six, o8 xv202.f_Key.f_Src.f_B 0, o8 xv202.f_Key.f_Src.f_B 1, o8 xv202.f_Key.f_Src.f_B 2, o8 xv202.f_Key.f_Src.f_B 3, o8 xv202.f_Key.f_Src.f_B 4, o8 xv202.f_Key.f_Src.f_B 5, o8 xv202.f_Key.f_Src.f_B 6, o8 xv202.f_Key.f_Src.f_B 7, o8 xv202.f_Key.f_Src.f_B 8, o8 xv202.f_Key.f_Src.f_B 9, o8 xv202.f_Key.f_Src.f_B 10, o8 xv202.f_Key.f_Src.f_B 11, o8 xv202.f_Key.f_Src.f_B 12, o8 xv202.f_Key.f_Src.f_B 13, o8 xv202.f_Key.f_Src.f_B 14, o8 xv202.f_Key.f_Src.f_B 15, vB xv202.f_Key.f_Dst.f_Six, o8 xv202.f_Key.f_Dst.f_B 0, o8 xv202.f_Key.f_Dst.f_B 1, o8 xv202.f_Key.f_Dst.f_B 2, o8 xv202.f_Key.f_Dst.f_B 3, o8 xv202.f_Key.f_Dst.f_B 4, o8 xv202.f_Key.f_Dst.f_B 5, o8 xv202.f_Key.f_Dst.f_B 6, o8 xv202.f_Key.f_Dst.f_B 7, o8 xv202.f_Key.f_Dst.f_B 8, o8 xv202.f_Key.f_Dst.f_B 9, o8 xv202.f_Key.f_Dst.f_B 10, o8 xv202.f_Key.f_Dst.f_B 11, o8 xv202.f_Key.f_Dst.f_B 12, o8 xv202.f_Key.f_Dst.f_B 13, o8 xv202.f_Key.f_Dst.f_B 14, o8 xv202.f_Key.f_Dst.f_B 15, v8 xv202.f_Key.f_Proto, v16 xv202.f_Key.f_SrcPort, v16 xv202.f_Key.f_DstPort]) (cs' := [vB kv8.f_Src.f_Six, o8 kv8.f_Src.f_B 0, o8 kv8.f_Src.f_B 1, o8 kv8.f_Src.f_B 2, o8 kv8.f_Src.f_B 3, o8 kv8.f_Src.f_B 4, o8 kv8.f_Src.f_B 5, o8 kv8.f_Src.f_B 6, o8 kv8.f_Src.f_B 7, o8 kv8.f_Src.f_B 8, o8 kv8.f_Src.f_B 9, o8 kv8.f_Src.f_B 10, o8 kv8.f_Src.f_B 11, o8 kv8.f_Src.f_B 12, o8 kv8.f_Src.f_B 13, o8 kv8.f_Src.f_B 14, o8 kv8.f_Src.f_B 15, vB kv8.f_Dst.f_Six, o8 kv8.f_Dst.f_B 0, o8 kv8.f_Dst.f_B 1, o8 kv8.f_Dst.f_B 2, o8 kv8.f_Dst.f_B 3, o8 kv8.f_Dst.f_B 4, o8 kv8.f_Dst.f_B 5, o8 kv8.f_Dst.f_B 6, o8 kv8.f_Dst.f_B 7, o8 kv8.f_Dst.f_B 8, o8 kv8.f_Dst.f_B 9, o8 kv8.f_Dst.f_B 10, o8 kv8.f_Dst.f_B 11, o8 kv8.f_Dst.f_B 12, o8 kv8.f_Dst.f_B 13, o8 kv8.f_Dst.f_B 14, o8 kv8.f_Dst.f_B 15, v8 kv8.f_Proto, v16 kv8.f_SrcPort, v16 kv8.f_DstPort]) (by kernel_rfl) rfl rfl (Q36t xv202.f_Key kv8 _ rfl rfl)) ?_
   refine RD.p rfl rfl rfl rfl (fun w' => O.pickf rfl rfl) ?_
   refine RD.nil ?_
   refine KQ.then_k ?_
   replace hM := hM.pick [0, 1, 2, 3, 7, 8, 5, 6, 9, 4] rfl (by decide)
   exact fun a ha => ⟨(q_packet_Key xv202.f_Key kv8), ha.less (less_cons rfl (less_cons rfl (less_cons rfl (less_cons rfl less_nil)))), hM, hF⟩
  rintro a w214 ⟨t209, ha, hM, hF⟩
  refine KC.app ha ?_
  clear ha
  unfold F_table_Table_find_j1 at hF
  refine KC.cond rfl (fun hc => ?_) (fun hc => ?_)
  ·rw [if_pos hc] at hF
   refine KC.cut (fun a w229 => Kn 39 [] a ∧ Mem w [some g2, rblk A4 c5] w229 [.res [D40] (DefAt D40), .res [l39] (LoopAt l39 rc37 .busy none), .row A50 c51 102 39 (y46.2.f_slots).length ((y46.2.f_slots).flatMap e_table_Slot), .box g2 tg7 [.slice A50 (y46.2.f_slots).length c51, vI y46.2.f_many], .box g11 68 [.pointer (some ⟨g2, 0, none⟩)], .box g14 36 [vB kv8.f_Src.f_Six, o8 kv8.f_Src.f_B 0, o8 kv8.f_Src.f_B 1, o8 kv8.f_Src.f_B 2, o8 kv8.f_Src.f_B 3, o8 kv8.f_Src.f_B 4, o8 kv8.f_Src.f_B 5, o8 kv8.f_Src.f_B 6, o8 kv8.f_Src.f_B 7, o8 kv8.f_Src.f_B 8, o8 kv8.f_Src.f_B 9, o8 kv8.f_Src.f_B 10, o8 kv8.f_Src.f_B 11, o8 kv8.f_Src.f_B 12, o8 kv8.f_Src.f_B 13, o8 kv8.f_Src.f_B 14, o8 kv8.f_Src.f_B 15, vB kv8.f_Dst.f_Six, o8 kv8.f_Dst.f_B 0, o8 kv8.f_Dst.f_B 1, o8 kv8.f_Dst.f_B 2, o8 kv8.f_Dst.f_B 3, o8 kv8.f_Dst.f_B 4, o8 kv8.f_Dst.f_B 5, o8 kv8.f_Dst.f_B 6, o8 kv8.f_Dst.f_B 7, o8 kv8.f_Dst.f_B 8, o8 kv8.f_Dst.f_B 9, o8 kv8.f_Dst.f_B 10, o8 kv8.f_Dst.f_B 11, o8 kv8.f_Dst.f_B 12, o8 kv8.f_Dst.f_B 13, o8 kv8.f_Dst.f_B 14, o8 kv8.f_Dst.f_B 15, v8 kv8.f_Proto, v16 kv8.f_SrcPort, v16 kv8.f_DstPort], .box g17 3 [vI (IntKind.i64.wrap (Int.tmod (IntKind.u64.wrap (y188 + t173)) (IntKind.u64.wrap y46.1)))], .box g20 3 [vI (IntKind.i64.wrap (t178 + 1))], .box g28 68 [.pointer (some ⟨g2, 0, none⟩)], .box g31 36 [vB kv8.f_Src.f_Six, o8 kv8.f_Src.f_B 0, o8 kv8.f_Src.f_B 1, o8 kv8.f_Src.f_B 2, o8 kv8.f_Src.f_B 3, o8 kv8.f_Src.f_B 4, o8 kv8.f_Src.f_B 5, o8 kv8.f_Src.f_B 6, o8 kv8.f_Src.f_B 7, o8 kv8.f_Src.f_B 8, o8 kv8.f_Src.f_B 9, o8 kv8.f_Src.f_B 10, o8 kv8.f_Src.f_B 11, o8 kv8.f_Src.f_B 12, o8 kv8.f_Src.f_B 13, o8 kv8.f_Src.f_B 14, o8 kv8.f_Src.f_B 15, vB kv8.f_Dst.f_Six, o8 kv8.f_Dst.f_B 0, o8 kv8.f_Dst.f_B 1, o8 kv8.f_Dst.f_B 2, o8 kv8.f_Dst.f_B 3, o8 kv8.f_Dst.f_B 4, o8 kv8.f_Dst.f_B 5, o8 kv8.f_Dst.f_B 6, o8 kv8.f_Dst.f_B 7, o8 kv8.f_Dst.f_B 8, o8 kv8.f_Dst.f_B 9, o8 kv8.f_Dst.f_B 10, o8 kv8.f_Dst.f_B 11, o8 kv8.f_Dst.f_B 12, o8 kv8.f_Dst.f_B 13, o8 kv8.f_Dst.f_B 14, o8 kv8.f_Dst.f_B 15, v8 kv8.f_Proto, v16 kv8.f_SrcPort, v16 kv8.f_DstPort]] ∧ F_table_Table_find_j2 y46 t173 t178 y188 = some r) ?_ ?_
   ·replace hM := hM.drewN 1
    refine KC.draw [] [2, 3] [1, 2, 3] [0] (.cons 0 (.alt 1 (.ofList [2, 3]) 2 (.ofList [1, 3]))) moP (by kernel_rfl) ?_
    refine RD.p rfl rfl rfl rfl (fun w' => O.move rfl) ?_
    refine RD.alt ?_ ?_
    ·refine RD.mq rfl rfl (O.load sc3 rfl (Cs.adds [] ((hM.bx (i := 5) rfl)) rfl)) rfl ?_
     refine RD.meffs rfl rfl rfl (E.stB (j := 4) (off := 0) (vs := [vI (IntKind.i64.wrap (Int.tmod (IntKind.u64.wrap (y188 + t173)) (IntKind.u64.wrap y46.1)))]) (cs' := [vI (IntKind.i64.wrap (Int.tmod (IntKind.u64.wrap (y188 + t173)) (IntKind.u64.wrap y46.1)))]) hM rfl sz3 rfl (adds_eq [] rfl) rfl rfl (One.all rfl) rfl rfl) fun w215 hM1 => ?_
     clear hM
     have hM := hM1
     clear hM1
     refine RD.meffs rfl rfl rfl (E.stB (j := 5) (off := 0) (vs := [vI (IntKind.i64.wrap (t178 + 1))]) (cs' := [vI (IntKind.i64.wrap (t178 + 1))]) hM rfl sz3 rfl (adds_eq [] rfl) rfl rfl (One.all rfl) rfl rfl) fun w216 hM1 => ?_
     clear hM
     have hM := hM1
     clear hM1
     refine RD.nil ?_
     refine KQ.then_k ?_
     replace hM := hM.pick [0, 1, 2, 3, 6, 7, 4, 5, 8, 9] rfl (by decide)
     exact fun a ha => ⟨ha.less less_nil, hM, hF⟩
    refine RD.meffs rfl rfl rfl (E.stB (j := 4) (off := 0) (vs := [vI (IntKind.i64.wrap (Int.tmod (IntKind.u64.wrap (y188 + t173)) (IntKind.u64.wrap y46.1)))]) (cs' := [vI (IntKind.i64.wrap (Int.tmod (IntKind.u64.wrap (y188 + t173)) (IntKind.u64.wrap y46.1)))]) hM rfl sz3 rfl (adds_eq [] rfl) rfl rfl (One.all rfl) rfl rfl) fun w217 hM1 => ?_
    clear hM
    have hM := hM1
    clear hM1
    refine RD.mq rfl rfl (O.load sc3 rfl (Cs.adds [] ((hM.bx (i := 5) rfl)) rfl)) rfl ?_
    refine RD.meffs rfl rfl rfl (E.stB (j := 5) (off := 0) (vs := [vI (IntKind.i64.wrap (t178 + 1))]) (cs' := [vI (IntKind.i64.wrap (t178 + 1))]) hM rfl sz3 rfl (adds_eq [] rfl) rfl rfl (One.all rfl) rfl rfl) fun w218 hM1 => ?_
    clear hM
    have hM := hM1
    clear hM1
    refine RD.nil ?_
    refine KQ.then_k ?_
    replace hM := hM.pick [0, 1, 2, 3, 6, 7, 4, 5, 8, 9] rfl (by decide)
    exact fun a ha => ⟨ha.less less_nil, hM, hF⟩
   rintro a w229 ⟨ha, hM, hF⟩
   refine KC.app ha ?_
   clear ha
   unfold F_table_Table_find_j2 at hF
   refine KC.ret ?_
   refine KQ.blk_r ?_
   refine KQ.rret hM (i := 1) rfl fun w230 hM1 hf231 => ?_
   clear hM
   have hM := hM1
   clear hM1
   refine RL.val (O.not rfl) rfl ?_
   refine nt hQ187 ?_
   clear hQ187 Q187
   refine KC.condT rfl ?_
   refine KC.ret ?_
   refine KQ.blk_r ?_
   refine KQ.thr hQ185 ?_
   clear hQ185 Q185
   refine KQ.then_r ?_
   refine KQ.blk_r ?_
   refine KQ.rendRC Try.results89 hM (i := 1) rfl (fun h => by cases h) ha36 fun w232 hM1 hf233 => ?_
   clear hM
   have hM := hM1
   clear hM1
   replace hM := hM.pick [0, 2, 3, 4, 5, 6, 7, 8, 9] rfl (by decide)
   refine KC.ret ?_
   refine KQ.blk_r ?_
   refine KQ.thr hQ25 ?_
   clear hQ25 Q25
   have hE := Option.some.inj hF
   clear hF
   subst hE
   refine KQ.unmark hM (i := 0) rfl fun w234 hM1 => ?_
   clear hM
   have hM := hM1
   clear hM1
   replace hM := hM.pick [1, 2, 3, 4, 5, 6, 7, 8] rfl (by decide)
   have hb235 := hM.bx (i := 4) rfl
   have hb236 := hM.bx (i := 5) rfl
   replace hM := hM.pick [1, 0] rfl (by decide)
   refine KQ.retsM Try.results64 (RVs.cons (RV.c1 rfl sc3 hb235.at0) (RVs.cons (RV.c1 rfl sc3 hb236.at0) RVs.nil)) ?_
   exact ⟨_, rfl, A50, c51, rfl, hM⟩
  rw [if_neg (ne_true hc)] at hF
  refine KC.skip ?_
  refine KQ.blk_n ?_
  refine KQ.rnorm hM (i := 1) rfl fun w237 hM1 hf238 => ?_
  clear hM
  have hM := hM1
  clear hM1
  refine RL.val (O.not rfl) rfl ?_
  refine nt hQ187 ?_
  clear hQ187 Q187
  refine KC.condF rfl ?_
  refine KC.skip ?_
  refine KQ.blk_n ?_
  refine KQ.thn hQ185 ?_
  clear hQ185 Q185
  refine KC.region ?_
  refine RL.val (O.add rfl rfl) rfl ?_
  refine vm rfl rfl ?_
  refine RL.nil ?_
  refine KQ.then_k ?_
  replace hM := hM.pick [0, 1, 2, 3, 9, 6, 7, 4, 5, 8] rfl (by decide)
  exact fun a ha => ⟨k182, Nat.lt_succ_self k182, (IntKind.u64.wrap (t173 + 1)), (IntKind.i64.wrap (t178 + 1)), ha.less (less_cons rfl (less_cons rfl (less_cons rfl (less_cons rfl (less_cons rfl less_nil))))), hM, hF⟩
 rw [if_neg (ne_true hc)] at hF
 refine KC.exit ?_
 refine KQ.thx hQ184 ?_
 clear hQ184 Q184
 refine KQ.then_x ?_
 refine KQ.blk_x ?_
 refine KQ.rendN Try.results89 hM (i := 1) rfl (fun h => by cases h) ha36 fun w239 hM1 hf240 => ?_
 clear hM
 have hM := hM1
 clear hM1
 replace hM := hM.pick [0, 2, 3, 4, 5, 6, 7, 8, 9] rfl (by decide)
 refine KQ.blk_n ?_
 refine KQ.thn hQ25 ?_
 clear hQ25 Q25
 replace hM := hM.pick [0, 1, 2, 6, 7] rfl (by decide)
 refine KC.cut (fun a w250 => Kn (Fr.mk 39 [Go.Ox.mark D40]) [(4, .pointer (some ⟨g17, 0, none⟩)), (5, .pointer (some ⟨g20, 0, none⟩))] a ∧ Mem w [some g2, rblk A4 c5] w250 [.res [D40] (DefAt D40), .row A50 c51 102 39 (y46.2.f_slots).length ((y46.2.f_slots).flatMap e_table_Slot), .box g2 tg7 [.slice A50 (y46.2.f_slots).length c51, vI y46.2.f_many], .box g17 3 [vI (-1)], .box g20 3 [vI t178]] ∧ F_table_Table_find_j3 y46 t178 = some r) ?_ ?_
 ·replace hM := hM.drewN 1
  refine KC.draw [] [1, 2] [0, 1, 2] [] (.alt 0 (.ofList [1, 2]) 1 (.ofList [0, 2])) moP (by kernel_rfl) ?_
  refine RD.alt ?_ ?_
  ·refine RD.mq rfl rfl (O.load sc3 rfl (Cs.adds [] ((hM.bx (i := 4) rfl)) rfl)) rfl ?_
   refine RD.meffs rfl rfl rfl (E.stB (j := 3) (off := 0) (vs := [vI (-1)]) (cs' := [vI (-1)]) hM rfl sz3 rfl (adds_eq [] rfl) rfl rfl (One.all rfl) rfl rfl) fun w241 hM1 => ?_
   clear hM
   have hM := hM1
   clear hM1
   refine RD.meffs rfl rfl rfl (E.stB (j := 4) (off := 0) (vs := [vI t178]) (cs' := [vI t178]) hM rfl sz3 rfl (adds_eq [] rfl) rfl rfl (One.all rfl) rfl rfl) fun w242 hM1 => ?_
   clear hM
   have hM := hM1
   clear hM1
   refine RD.nil ?_
   refine KQ.then_k ?_
   exact fun a ha => ⟨ha.less (less_cons rfl (less_cons rfl less_nil)), hM, hF⟩
  refine RD.meffs rfl rfl rfl (E.stB (j := 3) (off := 0) (vs := [vI (-1)]) (cs' := [vI (-1)]) hM rfl sz3 rfl (adds_eq [] rfl) rfl rfl (One.all rfl) rfl rfl) fun w243 hM1 => ?_
  clear hM
  have hM := hM1
  clear hM1
  refine RD.mq rfl rfl (O.load sc3 rfl (Cs.adds [] ((hM.bx (i := 4) rfl)) rfl)) rfl ?_
  refine RD.meffs rfl rfl rfl (E.stB (j := 4) (off := 0) (vs := [vI t178]) (cs' := [vI t178]) hM rfl sz3 rfl (adds_eq [] rfl) rfl rfl (One.all rfl) rfl rfl) fun w244 hM1 => ?_
  clear hM
  have hM := hM1
  clear hM1
  refine RD.nil ?_
  refine KQ.then_k ?_
  exact fun a ha => ⟨ha.less (less_cons rfl (less_cons rfl less_nil)), hM, hF⟩
 rintro a w250 ⟨ha, hM, hF⟩
 refine KC.app ha ?_
 clear ha
 unfold F_table_Table_find_j3 at hF
 refine KC.ret ?_
 have hE := Option.some.inj hF
 clear hF
 subst hE
 refine KQ.unmark hM (i := 0) rfl fun w251 hM1 => ?_
 clear hM
 have hM := hM1
 clear hM1
 replace hM := hM.pick [1, 2, 3, 4] rfl (by decide)
 have hb252 := hM.bx (i := 2) rfl
 have hb253 := hM.bx (i := 3) rfl
 replace hM := hM.pick [1, 0] rfl (by decide)
 refine KQ.retsM Try.results64 (RVs.cons (RV.c1 rfl sc3 hb252.at0) (RVs.cons (RV.c1 rfl sc3 hb253.at0) RVs.nil)) ?_
 exact ⟨_, rfl, A50, c51, rfl, hM⟩
set_option maxRecDepth 100000 in
set_option maxHeartbeats 40000000 in
theorem c_table_Table_has (w : World) (g2 : Nat) (tg7 : TypeId) (t1 : T_table_Table) (A4 : Option Addr) (c5 : Nat) (hL9 : Lent w [.box g2 tg7 [.slice A4 (t1.f_slots).length c5, vI t1.f_many], .row A4 c5 102 39 (t1.f_slots).length ((t1.f_slots).flatMap e_table_Slot)]) (kv8 : T_packet_Key) (r : Int × T_table_Table) (hF : F_table_Table_has t1 kv8 = some r) :
  CallsR Try.prog 50 [.pointer (some ⟨g2, 0, none⟩), .agg #[vB kv8.f_Src.f_Six, o8 kv8.f_Src.f_B 0, o8 kv8.f_Src.f_B 1, o8 kv8.f_Src.f_B 2, o8 kv8.f_Src.f_B 3, o8 kv8.f_Src.f_B 4, o8 kv8.f_Src.f_B 5, o8 kv8.f_Src.f_B 6, o8 kv8.f_Src.f_B 7, o8 kv8.f_Src.f_B 8, o8 kv8.f_Src.f_B 9, o8 kv8.f_Src.f_B 10, o8 kv8.f_Src.f_B 11, o8 kv8.f_Src.f_B 12, o8 kv8.f_Src.f_B 13, o8 kv8.f_Src.f_B 14, o8 kv8.f_Src.f_B 15, vB kv8.f_Dst.f_Six, o8 kv8.f_Dst.f_B 0, o8 kv8.f_Dst.f_B 1, o8 kv8.f_Dst.f_B 2, o8 kv8.f_Dst.f_B 3, o8 kv8.f_Dst.f_B 4, o8 kv8.f_Dst.f_B 5, o8 kv8.f_Dst.f_B 6, o8 kv8.f_Dst.f_B 7, o8 kv8.f_Dst.f_B 8, o8 kv8.f_Dst.f_B 9, o8 kv8.f_Dst.f_B 10, o8 kv8.f_Dst.f_B 11, o8 kv8.f_Dst.f_B 12, o8 kv8.f_Dst.f_B 13, o8 kv8.f_Dst.f_B 14, o8 kv8.f_Dst.f_B 15, v8 kv8.f_Proto, v16 kv8.f_SrcPort, v16 kv8.f_DstPort]] w (fun v w' => ∃ (A0 : Option Addr) (c0 : Nat), v = vI r.1 ∧ Mem w [some g2, rblk A4 c5] w' [.box g2 tg7 [.slice A0 (r.2.f_slots).length c0, vI r.2.f_many], .row A0 c0 102 39 r.2.f_slots.length (r.2.f_slots.flatMap e_table_Slot)]) := by
 refine calls_KC Try.func50 rfl Try.ntmps50 rfl ?_
 have hM : Mem w [some g2, rblk A4 c5] w [.box g2 tg7 [.slice A4 (t1.f_slots).length c5, vI t1.f_many], .row A4 c5 102 39 (t1.f_slots).length ((t1.f_slots).flatMap e_table_Slot)] := Mem.lendN hL9
 unfold F_table_Table_has at hF
 refine sr fun Q10 hQ10 => ?_
 refine RL.eff (E.box (vs := [vB kv8.f_Src.f_Six, o8 kv8.f_Src.f_B 0, o8 kv8.f_Src.f_B 1, o8 kv8.f_Src.f_B 2, o8 kv8.f_Src.f_B 3, o8 kv8.f_Src.f_B 4, o8 kv8.f_Src.f_B 5, o8 kv8.f_Src.f_B 6, o8 kv8.f_Src.f_B 7, o8 kv8.f_Src.f_B 8, o8 kv8.f_Src.f_B 9, o8 kv8.f_Src.f_B 10, o8 kv8.f_Src.f_B 11, o8 kv8.f_Src.f_B 12, o8 kv8.f_Src.f_B 13, o8 kv8.f_Src.f_B 14, o8 kv8.f_Src.f_B 15, vB kv8.f_Dst.f_Six, o8 kv8.f_Dst.f_B 0, o8 kv8.f_Dst.f_B 1, o8 kv8.f_Dst.f_B 2, o8 kv8.f_Dst.f_B 3, o8 kv8.f_Dst.f_B 4, o8 kv8.f_Dst.f_B 5, o8 kv8.f_Dst.f_B 6, o8 kv8.f_Dst.f_B 7, o8 kv8.f_Dst.f_B 8, o8 kv8.f_Dst.f_B 9, o8 kv8.f_Dst.f_B 10, o8 kv8.f_Dst.f_B 11, o8 kv8.f_Dst.f_B 12, o8 kv8.f_Dst.f_B 13, o8 kv8.f_Dst.f_B 14, o8 kv8.f_Dst.f_B 15, v8 kv8.f_Proto, v16 kv8.f_SrcPort, v16 kv8.f_DstPort]) hM rfl rfl) rfl fun v w12 hv => ?_
 clear hM
 obtain ⟨g11, rfl, hM, hf⟩ := hv
 refine va rfl rfl ?_
 refine nt hQ10 ?_
 clear hQ10 Q10
 refine sr fun Q14 hQ14 => ?_
 refine vm rfl rfl ?_
 refine RL.val (O.loadN (cs := [vB kv8.f_Src.f_Six, o8 kv8.f_Src.f_B 0, o8 kv8.f_Src.f_B 1, o8 kv8.f_Src.f_B 2, o8 kv8.f_Src.f_B 3, o8 kv8.f_Src.f_B 4, o8 kv8.f_Src.f_B 5, o8 kv8.f_Src.f_B 6, o8 kv8.f_Src.f_B 7, o8 kv8.f_Src.f_B 8, o8 kv8.f_Src.f_B 9, o8 kv8.f_Src.f_B 10, o8 kv8.f_Src.f_B 11, o8 kv8.f_Src.f_B 12, o8 kv8.f_Src.f_B 13, o8 kv8.f_Src.f_B 14, o8 kv8.f_Src.f_B 15, vB kv8.f_Dst.f_Six, o8 kv8.f_Dst.f_B 0, o8 kv8.f_Dst.f_B 1, o8 kv8.f_Dst.f_B 2, o8 kv8.f_Dst.f_B 3, o8 kv8.f_Dst.f_B 4, o8 kv8.f_Dst.f_B 5, o8 kv8.f_Dst.f_B 6, o8 kv8.f_Dst.f_B 7, o8 kv8.f_Dst.f_B 8, o8 kv8.f_Dst.f_B 9, o8 kv8.f_Dst.f_B 10, o8 kv8.f_Dst.f_B 11, o8 kv8.f_Dst.f_B 12, o8 kv8.f_Dst.f_B 13, o8 kv8.f_Dst.f_B 14, o8 kv8.f_Dst.f_B 15, v8 kv8.f_Proto, v16 kv8.f_SrcPort, v16 kv8.f_DstPort]) ag36 rfl (Cs.addsN [] ((hM.bx (i := 2) rfl)) rfl)) rfl ?_
 refine obindE hF fun y15 hx16 hF => ?_
 refine RL.call Try.func64 bd64 rfl rfl (c_table_Table_find _ _ _ t1 _ _ (hM.lent [0, 1] rfl (by decide)) kv8 _ hx16) fun v w17 hv => ?_
 obtain ⟨A19, c20, rfl, hN18⟩ := hv
 replace hM := hM.callL [0, 1] [2] rfl rfl (by decide) rfl hN18
 refine vm rfl rfl ?_
 refine RL.val (O.ext rfl rfl) rfl ?_
 refine RL.val (O.ext rfl rfl) rfl ?_
 refine va rfl rfl ?_
 refine va rfl rfl ?_
 refine nt hQ14 ?_
 clear hQ14 Q14
 refine KC.seqH fun Q22 hQ22 => ?_
 refine KC.cut (fun a w29 => ∃ (t28 : Bool), Kn 27 [(5, vI y15.1), (25, vB t28)] a ∧ Mem w [some g2, rblk A4 c5] w29 [.row A19 c20 102 39 (y15.2.2.f_slots).length ((y15.2.2.f_slots).flatMap e_table_Slot), .box g2 tg7 [.slice A19 (y15.2.2.f_slots).length c20, vI y15.2.2.f_many]] ∧ F_table_Table_has_j1 y15 t28 = some r) ?_ ?_
 ·refine KC.region ?_
  refine vm rfl rfl ?_
  refine RL.val (O.geq rfl rfl) rfl ?_
  refine vm rfl rfl ?_
  refine RL.bcase (t := 15) rfl (fun hc => ?_) (fun hc => ?_)
  ·rw [if_pos hc] at hF
   refine RL.gval rfl rfl (O.move rfl) rfl ?_
   refine RL.gval rfl rfl (O.nilp rfl) rfl ?_
   refine RL.gval rfl rfl (O.fldA fl96_0 (by decide) rfl) rfl ?_
   refine RL.gval rfl rfl (O.load sc94 rfl (Cs.adds [0] ((hM.bx (i := 1) rfl)) rfl)) rfl ?_
   refine RL.gval rfl rfl (O.move rfl) rfl ?_
   refine obindE hF fun xv25 hx24 hF => ?_
   have hA23 := Rd.atN (f := e_table_Slot) (s := 39) (fun _ => rfl) (by decide) (hM.rd (i := 2) rfl) hx24
   refine RL.gval rfl rfl (O.idxA sl94 (hA23) rfl rfl) rfl ?_
   refine RL.gval rfl rfl (O.fldA fl102_0 (by decide) rfl) rfl ?_
   refine RL.gval rfl rfl (O.load sc4 rfl (Cs.adds [0] (hA23).cells rfl)) rfl ?_
   refine RL.gval rfl rfl (O.not rfl) rfl ?_
   refine RL.val (O.pickt rfl rfl) rfl ?_
   refine RL.nil ?_
   refine KQ.then_k ?_
   replace hM := hM.pick [2, 1] rfl (by decide)
   exact fun a ha => ⟨(!xv25.f_Used), ha.less (less_cons rfl (less_cons rfl less_nil)), hM, hF⟩
  rw [if_neg (ne_true hc)] at hF
  refine RL.brun1 10 25 false (by kernel_rfl) ?_
  refine RL.nil ?_
  refine KQ.then_k ?_
  replace hM := hM.pick [2, 1] rfl (by decide)
  exact fun a ha => ⟨false, ha.less (less_cons rfl (less_cons rfl less_nil)), hM, hF⟩
 rintro a w29 ⟨t28, ha, hM, hF⟩
 refine KC.app ha ?_
 clear ha
 unfold F_table_Table_has_j1 at hF
 refine KC.cond rfl (fun hc => ?_) (fun hc => ?_)
 ·rw [if_pos hc] at hF
  refine sr fun Q30 hQ30 => ?_
  refine va rfl rfl ?_
  refine nt hQ30 ?_
  clear hQ30 Q30
  refine KC.ret ?_
  refine KQ.thr hQ22 ?_
  clear hQ22 Q22
  have hE := Option.some.inj hF
  clear hF
  subst hE
  replace hM := hM.pick [1, 0] rfl (by decide)
  refine KQ.rets Try.results50 (RVs.cons (RV.tm rfl) RVs.nil) ?_
  exact ⟨_, rfl, A19, c20, rfl, hM⟩
 rw [if_neg (ne_true hc)] at hF
 refine KC.skip ?_
 refine KQ.thn hQ22 ?_
 clear hQ22 Q22
 refine sr fun Q31 hQ31 => ?_
 refine vm rfl rfl ?_
 refine va rfl rfl ?_
 refine nt hQ31 ?_
 clear hQ31 Q31
 refine KC.ret ?_
 have hE := Option.some.inj hF
 clear hF
 subst hE
 replace hM := hM.pick [1, 0] rfl (by decide)
 refine KQ.rets Try.results50 (RVs.cons (RV.tm rfl) RVs.nil) ?_
 exact ⟨_, rfl, A19, c20, rfl, hM⟩
set_option maxRecDepth 100000 in
set_option maxHeartbeats 40000000 in
theorem c_table_Table_Get (w : World) (g2 : Nat) (tg7 : TypeId) (t1 : T_table_Table) (A4 : Option Addr) (c5 : Nat) (hL9 : Lent w [.box g2 tg7 [.slice A4 (t1.f_slots).length c5, vI t1.f_many], .row A4 c5 102 39 (t1.f_slots).length ((t1.f_slots).flatMap e_table_Slot)]) (kv8 : T_packet_Key) (r : Int × Bool × T_table_Table) (hF : F_table_Table_Get t1 kv8 = some r) :
  CallsR Try.prog 26 [.pointer (some ⟨g2, 0, none⟩), .agg #[vB kv8.f_Src.f_Six, o8 kv8.f_Src.f_B 0, o8 kv8.f_Src.f_B 1, o8 kv8.f_Src.f_B 2, o8 kv8.f_Src.f_B 3, o8 kv8.f_Src.f_B 4, o8 kv8.f_Src.f_B 5, o8 kv8.f_Src.f_B 6, o8 kv8.f_Src.f_B 7, o8 kv8.f_Src.f_B 8, o8 kv8.f_Src.f_B 9, o8 kv8.f_Src.f_B 10, o8 kv8.f_Src.f_B 11, o8 kv8.f_Src.f_B 12, o8 kv8.f_Src.f_B 13, o8 kv8.f_Src.f_B 14, o8 kv8.f_Src.f_B 15, vB kv8.f_Dst.f_Six, o8 kv8.f_Dst.f_B 0, o8 kv8.f_Dst.f_B 1, o8 kv8.f_Dst.f_B 2, o8 kv8.f_Dst.f_B 3, o8 kv8.f_Dst.f_B 4, o8 kv8.f_Dst.f_B 5, o8 kv8.f_Dst.f_B 6, o8 kv8.f_Dst.f_B 7, o8 kv8.f_Dst.f_B 8, o8 kv8.f_Dst.f_B 9, o8 kv8.f_Dst.f_B 10, o8 kv8.f_Dst.f_B 11, o8 kv8.f_Dst.f_B 12, o8 kv8.f_Dst.f_B 13, o8 kv8.f_Dst.f_B 14, o8 kv8.f_Dst.f_B 15, v8 kv8.f_Proto, v16 kv8.f_SrcPort, v16 kv8.f_DstPort]] w (fun v w' => ∃ (A0 : Option Addr) (c0 : Nat), v = .tuple #[v64 r.1, vB r.2.1] ∧ Mem w [some g2, rblk A4 c5] w' [.box g2 tg7 [.slice A0 (r.2.2.f_slots).length c0, vI r.2.2.f_many], .row A0 c0 102 39 r.2.2.f_slots.length (r.2.2.f_slots.flatMap e_table_Slot)]) := by
 refine calls_KC Try.func26 rfl Try.ntmps26 rfl ?_
 have hM : Mem w [some g2, rblk A4 c5] w [.box g2 tg7 [.slice A4 (t1.f_slots).length c5, vI t1.f_many], .row A4 c5 102 39 (t1.f_slots).length ((t1.f_slots).flatMap e_table_Slot)] := Mem.lendN hL9
 unfold F_table_Table_Get at hF
 refine sr fun Q10 hQ10 => ?_
 refine RL.eff (E.box (vs := [vB kv8.f_Src.f_Six, o8 kv8.f_Src.f_B 0, o8 kv8.f_Src.f_B 1, o8 kv8.f_Src.f_B 2, o8 kv8.f_Src.f_B 3, o8 kv8.f_Src.f_B 4, o8 kv8.f_Src.f_B 5, o8 kv8.f_Src.f_B 6, o8 kv8.f_Src.f_B 7, o8 kv8.f_Src.f_B 8, o8 kv8.f_Src.f_B 9, o8 kv8.f_Src.f_B 10, o8 kv8.f_Src.f_B 11, o8 kv8.f_Src.f_B 12, o8 kv8.f_Src.f_B 13, o8 kv8.f_Src.f_B 14, o8 kv8.f_Src.f_B 15, vB kv8.f_Dst.f_Six, o8 kv8.f_Dst.f_B 0, o8 kv8.f_Dst.f_B 1, o8 kv8.f_Dst.f_B 2, o8 kv8.f_Dst.f_B 3, o8 kv8.f_Dst.f_B 4, o8 kv8.f_Dst.f_B 5, o8 kv8.f_Dst.f_B 6, o8 kv8.f_Dst.f_B 7, o8 kv8.f_Dst.f_B 8, o8 kv8.f_Dst.f_B 9, o8 kv8.f_Dst.f_B 10, o8 kv8.f_Dst.f_B 11, o8 kv8.f_Dst.f_B 12, o8 kv8.f_Dst.f_B 13, o8 kv8.f_Dst.f_B 14, o8 kv8.f_Dst.f_B 15, v8 kv8.f_Proto, v16 kv8.f_SrcPort, v16 kv8.f_DstPort]) hM rfl rfl) rfl fun v w12 hv => ?_
 clear hM
 obtain ⟨g11, rfl, hM, hf⟩ := hv
 refine va rfl rfl ?_
 refine va rfl rfl ?_
 refine nt hQ10 ?_
 clear hQ10 Q10
 refine sr fun Q14 hQ14 => ?_
 refine vm rfl rfl ?_
 refine RL.val (O.loadN (cs := [vB kv8.f_Src.f_Six, o8 kv8.f_Src.f_B 0, o8 kv8.f_Src.f_B 1, o8 kv8.f_Src.f_B 2, o8 kv8.f_Src.f_B 3, o8 kv8.f_Src.f_B 4, o8 kv8.f_Src.f_B 5, o8 kv8.f_Src.f_B 6, o8 kv8.f_Src.f_B 7, o8 kv8.f_Src.f_B 8, o8 kv8.f_Src.f_B 9, o8 kv8.f_Src.f_B 10, o8 kv8.f_Src.f_B 11, o8 kv8.f_Src.f_B 12, o8 kv8.f_Src.f_B 13, o8 kv8.f_Src.f_B 14, o8 kv8.f_Src.f_B 15, vB kv8.f_Dst.f_Six, o8 kv8.f_Dst.f_B 0, o8 kv8.f_Dst.f_B 1, o8 kv8.f_Dst.f_B 2, o8 kv8.f_Dst.f_B 3, o8 kv8.f_Dst.f_B 4, o8 kv8.f_Dst.f_B 5, o8 kv8.f_Dst.f_B 6, o8 kv8.f_Dst.f_B 7, o8 kv8.f_Dst.f_B 8, o8 kv8.f_Dst.f_B 9, o8 kv8.f_Dst.f_B 10, o8 kv8.f_Dst.f_B 11, o8 kv8.f_Dst.f_B 12, o8 kv8.f_Dst.f_B 13, o8 kv8.f_Dst.f_B 14, o8 kv8.f_Dst.f_B 15, v8 kv8.f_Proto, v16 kv8.f_SrcPort, v16 kv8.f_DstPort]) ag36 rfl (Cs.addsN [] ((hM.bx (i := 2) rfl)) rfl)) rfl ?_
 refine obindE hF fun y15 hx16 hF => ?_
 refine RL.call Try.func50 bd50 rfl rfl (c_table_Table_has _ _ _ t1 _ _ (hM.lent [0, 1] rfl (by decide)) kv8 _ hx16) fun v w17 hv => ?_
 obtain ⟨A19, c20, rfl, hN18⟩ := hv
 replace hM := hM.callL [0, 1] [2] rfl rfl (by decide) rfl hN18
 refine va rfl rfl ?_
 refine nt hQ14 ?_
 clear hQ14 Q14
 refine KC.seqH fun Q22 hQ22 => ?_
 refine sr fun Q23 hQ23 => ?_
 refine vm rfl rfl ?_
 refine RL.val (O.lss rfl rfl) rfl ?_
 refine nt hQ23 ?_
 clear hQ23 Q23
 refine KC.cond rfl (fun hc => ?_) (fun hc => ?_)
 ·rw [if_pos hc] at hF
  refine sr fun Q24 hQ24 => ?_
  refine va rfl rfl ?_
  refine va rfl rfl ?_
  refine nt hQ24 ?_
  clear hQ24 Q24
  refine KC.ret ?_
  refine KQ.thr hQ22 ?_
  clear hQ22 Q22
  have hE := Option.some.inj hF
  clear hF
  subst hE
  replace hM := hM.pick [1, 2] rfl (by decide)
  refine KQ.rets Try.results26 (RVs.cons (RV.tm rfl) (RVs.cons (RV.tm rfl) RVs.nil)) ?_
  exact ⟨_, rfl, A19, c20, rfl, hM⟩
 rw [if_neg (ne_true hc)] at hF
 refine KC.skip ?_
 refine KQ.thn hQ22 ?_
 clear hQ22 Q22
 refine sr fun Q25 hQ25 => ?_
 refine vm rfl rfl ?_
 refine RL.val (O.nilp rfl) rfl ?_
 refine RL.val (O.fldA fl96_0 (by decide) rfl) rfl ?_
 refine RL.val (O.load sc94 rfl (Cs.adds [0] ((hM.bx (i := 1) rfl)) rfl)) rfl ?_
 refine vm rfl rfl ?_
 refine obindE hF fun xv28 hx27 hF => ?_
 have hA26 := Rd.atN (f := e_table_Slot) (s := 39) (fun _ => rfl) (by decide) (hM.rd (i := 2) rfl) hx27
 refine RL.val (O.idxA sl94 (hA26) rfl rfl) rfl ?_
 refine RL.val (O.fldA fl102_2 (by decide) rfl) rfl ?_
 refine RL.val (O.load sc22 rfl (Cs.adds [38] (hA26).cells rfl)) rfl ?_
 refine va rfl rfl ?_
 refine va rfl rfl ?_
 refine nt hQ25 ?_
 clear hQ25 Q25
 refine KC.ret ?_
 have hE := Option.some.inj hF
 clear hF
 subst hE
 replace hM := hM.pick [1, 2] rfl (by decide)
 refine KQ.rets Try.results26 (RVs.cons (RV.tm rfl) (RVs.cons (RV.tm rfl) RVs.nil)) ?_
 exact ⟨_, rfl, A19, c20, rfl, hM⟩
set_option maxRecDepth 100000 in
set_option maxHeartbeats 40000000 in
theorem c_table_Table_Delete (w : World) (g2 : Nat) (tg7 : TypeId) (t1 : T_table_Table) (A4 : Option Addr) (c5 : Nat) (hL9 : Lent w [.box g2 tg7 [.slice A4 (t1.f_slots).length c5, vI t1.f_many], .row A4 c5 102 39 (t1.f_slots).length ((t1.f_slots).flatMap e_table_Slot)]) (kv8 : T_packet_Key) (r : Bool × T_table_Table) (hF : F_table_Table_Delete t1 kv8 = some r) :
  CallsR Try.prog 56 [.pointer (some ⟨g2, 0, none⟩), .agg #[vB kv8.f_Src.f_Six, o8 kv8.f_Src.f_B 0, o8 kv8.f_Src.f_B 1, o8 kv8.f_Src.f_B 2, o8 kv8.f_Src.f_B 3, o8 kv8.f_Src.f_B 4, o8 kv8.f_Src.f_B 5, o8 kv8.f_Src.f_B 6, o8 kv8.f_Src.f_B 7, o8 kv8.f_Src.f_B 8, o8 kv8.f_Src.f_B 9, o8 kv8.f_Src.f_B 10, o8 kv8.f_Src.f_B 11, o8 kv8.f_Src.f_B 12, o8 kv8.f_Src.f_B 13, o8 kv8.f_Src.f_B 14, o8 kv8.f_Src.f_B 15, vB kv8.f_Dst.f_Six, o8 kv8.f_Dst.f_B 0, o8 kv8.f_Dst.f_B 1, o8 kv8.f_Dst.f_B 2, o8 kv8.f_Dst.f_B 3, o8 kv8.f_Dst.f_B 4, o8 kv8.f_Dst.f_B 5, o8 kv8.f_Dst.f_B 6, o8 kv8.f_Dst.f_B 7, o8 kv8.f_Dst.f_B 8, o8 kv8.f_Dst.f_B 9, o8 kv8.f_Dst.f_B 10, o8 kv8.f_Dst.f_B 11, o8 kv8.f_Dst.f_B 12, o8 kv8.f_Dst.f_B 13, o8 kv8.f_Dst.f_B 14, o8 kv8.f_Dst.f_B 15, v8 kv8.f_Proto, v16 kv8.f_SrcPort, v16 kv8.f_DstPort]] w (fun v w' => ∃ (A0 : Option Addr) (c0 : Nat), v = vB r.1 ∧ Mem w [some g2, rblk A4 c5] w' [.box g2 tg7 [.slice A0 (r.2.f_slots).length c0, vI r.2.f_many], .row A0 c0 102 39 r.2.f_slots.length (r.2.f_slots.flatMap e_table_Slot)]) := by
 refine calls_KC Try.func56 rfl Try.ntmps56 rfl ?_
 have hM : Mem w [some g2, rblk A4 c5] w [.box g2 tg7 [.slice A4 (t1.f_slots).length c5, vI t1.f_many], .row A4 c5 102 39 (t1.f_slots).length ((t1.f_slots).flatMap e_table_Slot)] := Mem.lendN hL9
 unfold F_table_Table_Delete at hF
 refine sr fun Q10 hQ10 => ?_
 refine RL.eff (E.box (vs := [vB kv8.f_Src.f_Six, o8 kv8.f_Src.f_B 0, o8 kv8.f_Src.f_B 1, o8 kv8.f_Src.f_B 2, o8 kv8.f_Src.f_B 3, o8 kv8.f_Src.f_B 4, o8 kv8.f_Src.f_B 5, o8 kv8.f_Src.f_B 6, o8 kv8.f_Src.f_B 7, o8 kv8.f_Src.f_B 8, o8 kv8.f_Src.f_B 9, o8 kv8.f_Src.f_B 10, o8 kv8.f_Src.f_B 11, o8 kv8.f_Src.f_B 12, o8 kv8.f_Src.f_B 13, o8 kv8.f_Src.f_B 14, o8 kv8.f_Src.f_B 15, vB kv8.f_Dst.f_Six, o8 kv8.f_Dst.f_B 0, o8 kv8.f_Dst.f_B 1, o8 kv8.f_Dst.f_B 2, o8 kv8.f_Dst.f_B 3, o8 kv8.f_Dst.f_B 4, o8 kv8.f_Dst.f_B 5, o8 kv8.f_Dst.f_B 6, o8 kv8.f_Dst.f_B 7, o8 kv8.f_Dst.f_B 8, o8 kv8.f_Dst.f_B 9, o8 kv8.f_Dst.f_B 10, o8 kv8.f_Dst.f_B 11, o8 kv8.f_Dst.f_B 12, o8 kv8.f_Dst.f_B 13, o8 kv8.f_Dst.f_B 14, o8 kv8.f_Dst.f_B 15, v8 kv8.f_Proto, v16 kv8.f_SrcPort, v16 kv8.f_DstPort]) hM rfl rfl) rfl fun v w12 hv => ?_
 clear hM
 obtain ⟨g11, rfl, hM, hf⟩ := hv
 refine va rfl rfl ?_
 refine nt hQ10 ?_
 clear hQ10 Q10
 refine sr fun Q14 hQ14 => ?_
 refine vm rfl rfl ?_
 refine RL.val (O.loadN (cs := [vB kv8.f_Src.f_Six, o8 kv8.f_Src.f_B 0, o8 kv8.f_Src.f_B 1, o8 kv8.f_Src.f_B 2, o8 kv8.f_Src.f_B 3, o8 kv8.f_Src.f_B 4, o8 kv8.f_Src.f_B 5, o8 kv8.f_Src.f_B 6, o8 kv8.f_Src.f_B 7, o8 kv8.f_Src.f_B 8, o8 kv8.f_Src.f_B 9, o8 kv8.f_Src.f_B 10, o8 kv8.f_Src.f_B 11, o8 kv8.f_Src.f_B 12, o8 kv8.f_Src.f_B 13, o8 kv8.f_Src.f_B 14, o8 kv8.f_Src.f_B 15, vB kv8.f_Dst.f_Six, o8 kv8.f_Dst.f_B 0, o8 kv8.f_Dst.f_B 1, o8 kv8.f_Dst.f_B 2, o8 kv8.f_Dst.f_B 3, o8 kv8.f_Dst.f_B 4, o8 kv8.f_Dst.f_B 5, o8 kv8.f_Dst.f_B 6, o8 kv8.f_Dst.f_B 7, o8 kv8.f_Dst.f_B 8, o8 kv8.f_Dst.f_B 9, o8 kv8.f_Dst.f_B 10, o8 kv8.f_Dst.f_B 11, o8 kv8.f_Dst.f_B 12, o8 kv8.f_Dst.f_B 13, o8 kv8.f_Dst.f_B 14, o8 kv8.f_Dst.f_B 15, v8 kv8.f_Proto, v16 kv8.f_SrcPort, v16 kv8.f_DstPort]) ag36 rfl (Cs.addsN [] ((hM.bx (i := 2) rfl)) rfl)) rfl ?_
 refine obindE hF fun y15 hx16 hF => ?_
 refine RL.call Try.func50 bd50 rfl rfl (c_table_Table_has _ _ _ t1 _ _ (hM.lent [0, 1] rfl (by decide)) kv8 _ hx16) fun v w17 hv => ?_
 obtain ⟨A19, c20, rfl, hN18⟩ := hv
 replace hM := hM.callL [0, 1] [2] rfl rfl (by decide) rfl hN18
 refine va rfl rfl ?_
 refine nt hQ14 ?_
 clear hQ14 Q14
 refine KC.seqH fun Q22 hQ22 => ?_
 refine sr fun Q23 hQ23 => ?_
 refine vm rfl rfl ?_
 refine RL.val (O.lss rfl rfl) rfl ?_
 refine nt hQ23 ?_
 clear hQ23 Q23
 refine KC.cond rfl (fun hc => ?_) (fun hc => ?_)
 ·rw [if_pos hc] at hF
  refine sr fun Q24 hQ24 => ?_
  refine va rfl rfl ?_
  refine nt hQ24 ?_
  clear hQ24 Q24
  refine KC.ret ?_
  refine KQ.thr hQ22 ?_
  clear hQ22 Q22
  have hE := Option.some.inj hF
  clear hF
  subst hE
  replace hM := hM.pick [1, 2] rfl (by decide)
  refine KQ.rets Try.results56 (RVs.cons (RV.tm rfl) RVs.nil) ?_
  exact ⟨_, rfl, A19, c20, rfl, hM⟩
 rw [if_neg (ne_true hc)] at hF
 refine KC.skip ?_
 refine KQ.thn hQ22 ?_
 clear hQ22 Q22
 refine sr fun Q25 hQ25 => ?_
 refine vm rfl rfl ?_
 refine RL.val (O.nilp rfl) rfl ?_
 refine RL.val (O.fldA fl96_0 (by decide) rfl) rfl ?_
 refine RL.val (O.load sc94 rfl (Cs.adds [0] ((hM.bx (i := 1) rfl)) rfl)) rfl ?_
 refine RL.val (O.len sl94 rfl) rfl ?_
 refine va rfl rfl ?_
 refine nt hQ25 ?_
 clear hQ25 Q25
 refine KC.seqH fun Q26 hQ26 => ?_
 replace hM := hM.drewN 1
 refine KC.draw [] [13, 16] [13, 16] [0, 1, 2, 4, 5, 7, 8, 9, 11, 14, 15] (.ofList [0, 1, 2, 3, 4, 5, 6, 7, 8, 9, 10, 11, 12, 13, 14, 15, 16]) moP (by kernel_rfl) ?_
 refine RD.p rfl rfl rfl rfl (fun w' => O.move rfl) ?_
 refine RD.p rfl rfl rfl rfl (fun w' => O.nilp rfl) ?_
 refine RD.p rfl rfl rfl rfl (fun w' => O.fldA fl96_0 (by decide) rfl) ?_
 refine RD.q rfl rfl rfl rfl (fun w' hf => O.load sc94 rfl (Cs.adds [0] ((hM.bx (i := 1) rfl).fut hf) rfl)) ?_
 refine RD.p rfl rfl rfl rfl (fun w' => O.move rfl) ?_
 refine RD.p rfl rfl rfl rfl (fun w' => O.move rfl) ?_
 refine RD.q rfl rfl rfl rfl (fun w' hf => O.bld (cs := [vB false, vB false, o8 (List.replicate 16 0) 0, o8 (List.replicate 16 0) 1, o8 (List.replicate 16 0) 2, o8 (List.replicate 16 0) 3, o8 (List.replicate 16 0) 4, o8 (List.replicate 16 0) 5, o8 (List.replicate 16 0) 6, o8 (List.replicate 16 0) 7, o8 (List.replicate 16 0) 8, o8 (List.replicate 16 0) 9, o8 (List.replicate 16 0) 10, o8 (List.replicate 16 0) 11, o8 (List.replicate 16 0) 12, o8 (List.replicate 16 0) 13, o8 (List.replicate 16 0) 14, o8 (List.replicate 16 0) 15, vB false, o8 (List.replicate 16 0) 0, o8 (List.replicate 16 0) 1, o8 (List.replicate 16 0) 2, o8 (List.replicate 16 0) 3, o8 (List.replicate 16 0) 4, o8 (List.replicate 16 0) 5, o8 (List.replicate 16 0) 6, o8 (List.replicate 16 0) 7, o8 (List.replicate 16 0) 8, o8 (List.replicate 16 0) 9, o8 (List.replicate 16 0) 10, o8 (List.replicate 16 0) 11, o8 (List.replicate 16 0) 12, o8 (List.replicate 16 0) 13, o8 (List.replicate 16 0) 14, o8 (List.replicate 16 0) 15, v8 0, v16 0, v16 0, v64 0]) bt102 rfl (by kernel_rfl)) ?_
 refine RD.p rfl rfl rfl rfl (fun w' => O.move rfl) ?_
 refine RD.p rfl rfl rfl rfl (fun w' => O.nilp rfl) ?_
 refine RD.p rfl rfl rfl rfl (fun w' => O.fldA fl96_1 (by decide) rfl) ?_
 refine RD.q rfl rfl rfl rfl (fun w' hf => O.load sc3 rfl (Cs.adds [1] ((hM.bx (i := 1) rfl).fut hf) rfl)) ?_
 refine RD.p rfl rfl rfl rfl (fun w' => O.sub rfl rfl) ?_
 refine obindE hF fun xv29 hx28 hF => ?_
 have hA27 := Rd.atN (f := e_table_Slot) (s := 39) (fun _ => rfl) (by decide) (hM.rd (i := 2) rfl) hx28
 refine RD.q rfl rfl rfl rfl (fun w' hf => O.idxA sl94 (hA27.fut hf) rfl rfl) ?_
 refine RD.meffs rfl rfl rfl (E.stR (enc := e_table_Slot) (j := 2) (off := 0) (vs := [vB false, vB false, o8 (List.replicate 16 0) 0, o8 (List.replicate 16 0) 1, o8 (List.replicate 16 0) 2, o8 (List.replicate 16 0) 3, o8 (List.replicate 16 0) 4, o8 (List.replicate 16 0) 5, o8 (List.replicate 16 0) 6, o8 (List.replicate 16 0) 7, o8 (List.replicate 16 0) 8, o8 (List.replicate 16 0) 9, o8 (List.replicate 16 0) 10, o8 (List.replicate 16 0) 11, o8 (List.replicate 16 0) 12, o8 (List.replicate 16 0) 13, o8 (List.replicate 16 0) 14, o8 (List.replicate 16 0) 15, vB false, o8 (List.replicate 16 0) 0, o8 (List.replicate 16 0) 1, o8 (List.replicate 16 0) 2, o8 (List.replicate 16 0) 3, o8 (List.replicate 16 0) 4, o8 (List.replicate 16 0) 5, o8 (List.replicate 16 0) 6, o8 (List.replicate 16 0) 7, o8 (List.replicate 16 0) 8, o8 (List.replicate 16 0) 9, o8 (List.replicate 16 0) 10, o8 (List.replicate 16 0) 11, o8 (List.replicate 16 0) 12, o8 (List.replicate 16 0) 13, o8 (List.replicate 16 0) 14, o8 (List.replicate 16 0) 15, v8 0, v16 0, v16 0, v64 0]) (x' := (T_table_Slot.mk false (T_packet_Key.mk (T_addr_Addr.mk false (List.replicate 16 0)) (T_addr_Addr.mk false (List.replicate 16 0)) 0 0 0) 0)) hM rfl (fun _ => rfl) hx28 sz102 rfl (addsR_eq [] rfl) rfl rfl (One.all rfl) rfl rfl) fun w30 hM1 => ?_
 clear hM
 obtain ⟨hM, hn31⟩ := hM1
 refine RD.reslot (t := 25) rfl hn31 ?_
 replace hM := hM.rebox (i := 1) (cs' := [.slice A19 ((y15.2.f_slots.set (y15.1 : Int).toNat (T_table_Slot.mk false (T_packet_Key.mk (T_addr_Addr.mk false (List.replicate 16 0)) (T_addr_Addr.mk false (List.replicate 16 0)) 0 0 0) 0))).length c20, vI y15.2.f_many]) rfl (by rw [← hn31])
 refine RD.p rfl rfl rfl rfl (fun w' => O.nilp rfl) ?_
 refine RD.p rfl rfl rfl rfl (fun w' => O.fldA fl96_1 (by decide) rfl) ?_
 refine RD.meffs rfl rfl rfl (E.stB (j := 1) (off := 1) (vs := [vI (IntKind.i64.wrap (y15.2.f_many - 1))]) (cs' := [.slice A19 ((y15.2.f_slots.set (y15.1 : Int).toNat (T_table_Slot.mk false (T_packet_Key.mk (T_addr_Addr.mk false (List.replicate 16 0)) (T_addr_Addr.mk false (List.replicate 16 0)) 0 0 0) 0))).length c20, vI (IntKind.i64.wrap (y15.2.f_many - 1))]) hM rfl sz3 rfl (adds_eq [1] rfl) rfl rfl (One.all rfl) rfl rfl) fun w32 hM1 => ?_
 clear hM
 have hM := hM1
 clear hM1
 refine RD.nil ?_
 refine KQ.thn hQ26 ?_
 clear hQ26 Q26
 refine KC.cut (fun a w162 => ∃ (A158 : Option Addr) (c159 : Nat) (p160 : List T_table_Slot) (p161 : Int), Kn 80 [] a ∧ Mem w [some g2, rblk A4 c5] w162 [.row A158 c159 102 39 (p160).length ((p160).flatMap e_table_Slot), .box g2 tg7 [.slice A158 (p160).length c159, vI p161]] ∧ F_table_Table_Delete_j1 p160 p161 = some r) ?_ ?_
 ·refine sr fun Q33 hQ33 => ?_
  refine vm rfl rfl ?_
  refine RL.val (O.sub rfl rfl) rfl ?_
  refine vm rfl rfl ?_
  refine nt hQ33 ?_
  clear hQ33 Q33
  refine KC.block ?_
  refine KC.loop (fun k120 a w118 => ∃ (A113 : Option Addr) (c114 : Nat) (p115 : List T_table_Slot) (p116 : Int) (t117 : Int), Kn 80 [(0, .pointer (some ⟨g2, 0, none⟩)), (5, vI y15.1), (6, vI (y15.2.f_slots.length : Int)), (38, vI (IntKind.i64.wrap ((y15.2.f_slots.length : Int) - 1))), (39, vI t117)] a ∧ Mem w [some g2, rblk A4 c5] w118 [.row A113 c114 102 39 (p115).length ((p115).flatMap e_table_Slot), .box g2 tg7 [.slice A113 (p115).length c114, vI p116]] ∧ F_table_Table_Delete_L1 y15 k120 p115 p116 t117 = some r) ?_ ?_
  ·replace hM := hM.pick [2, 1] rfl (by decide)
   exact fun a ha => ⟨fuel0, A19, c20, (y15.2.f_slots.set (y15.1 : Int).toNat (T_table_Slot.mk false (T_packet_Key.mk (T_addr_Addr.mk false (List.replicate 16 0)) (T_addr_Addr.mk false (List.replicate 16 0)) 0 0 0) 0)), (IntKind.i64.wrap (y15.2.f_many - 1)), 0, ha.less (less_cons rfl (less_cons rfl (less_cons rfl (less_cons rfl (less_cons rfl less_nil))))), hM, hF⟩
  rintro k120 a w118 ⟨A113, c114, p115, p116, t117, ha, hM, hF⟩
  refine KC.app ha ?_
  clear ha
  cases k120 with
  | zero => exact (none_some hF).elim
  | succ k120 =>
  have hF : F_table_Table_Delete_l1 (F_table_Table_Delete_L1 y15 k120) y15 p115 p116 t117 = some r := hF
  unfold F_table_Table_Delete_l1 at hF
  refine sr fun Q121 hQ121 => ?_
  refine RL.val (O.lss rfl rfl) rfl ?_
  refine nt hQ121 ?_
  clear hQ121 Q121
  refine KC.seqH fun Q122 hQ122 => ?_
  refine KC.cond rfl (fun hc => ?_) (fun hc => ?_)
  ·rw [if_pos hc] at hF
   refine KC.skip ?_
   refine KQ.thn hQ122 ?_
   clear hQ122 Q122
   refine KC.seqH fun Q123 hQ123 => ?_
   refine KC.block ?_
   refine sr fun Q124 hQ124 => ?_
   refine vm rfl rfl ?_
   refine va rfl rfl ?_
   refine nt hQ124 ?_
   clear hQ124 Q124
   refine sr fun Q125 hQ125 => ?_
   refine vm rfl rfl ?_
   refine RL.val (O.add rfl rfl) rfl ?_
   refine vm rfl rfl ?_
   refine RL.val (O.add rfl rfl) rfl ?_
   refine vm rfl rfl ?_
   refine cut_someE hF fun hq126 hF => ?_
   refine RL.val (O.rem rfl rfl (of_decide_eq_true hq126)) rfl ?_
   refine va rfl rfl ?_
   refine nt hQ125 ?_
   clear hQ125 Q125
   refine sr fun Q127 hQ127 => ?_
   refine vm rfl rfl ?_
   refine RL.val (O.nilp rfl) rfl ?_
   refine RL.val (O.fldA fl96_0 (by decide) rfl) rfl ?_
   refine RL.val (O.load sc94 rfl (Cs.adds [0] ((hM.bx (i := 1) rfl)) rfl)) rfl ?_
   refine vm rfl rfl ?_
   refine obindE hF fun xv130 hx129 hF => ?_
   have hA128 := Rd.atN (f := e_table_Slot) (s := 39) (fun _ => rfl) (by decide) (hM.rd (i := 0) rfl) hx129
   refine RL.val (O.idxA sl94 (hA128) rfl rfl) rfl ?_
   refine RL.val (O.loadN (cs := [vB xv130.f_Used, vB xv130.f_Key.f_Src.f_Six, o8 xv130.f_Key.f_Src.f_B 0, o8 xv130.f_Key.f_Src.f_B 1, o8 xv130.f_Key.f_Src.f_B 2, o8 xv130.f_Key.f_Src.f_B 3, o8 xv130.f_Key.f_Src.f_B 4, o8 xv130.f_Key.f_Src.f_B 5, o8 xv130.f_Key.f_Src.f_B 6, o8 xv130.f_Key.f_Src.f_B 7, o8 xv130.f_Key.f_Src.f_B 8, o8 xv130.f_Key.f_Src.f_B 9, o8 xv130.f_Key.f_Src.f_B 10, o8 xv130.f_Key.f_Src.f_B 11, o8 xv130.f_Key.f_Src.f_B 12, o8 xv130.f_Key.f_Src.f_B 13, o8 xv130.f_Key.f_Src.f_B 14, o8 xv130.f_Key.f_Src.f_B 15, vB xv130.f_Key.f_Dst.f_Six, o8 xv130.f_Key.f_Dst.f_B 0, o8 xv130.f_Key.f_Dst.f_B 1, o8 xv130.f_Key.f_Dst.f_B 2, o8 xv130.f_Key.f_Dst.f_B 3, o8 xv130.f_Key.f_Dst.f_B 4, o8 xv130.f_Key.f_Dst.f_B 5, o8 xv130.f_Key.f_Dst.f_B 6, o8 xv130.f_Key.f_Dst.f_B 7, o8 xv130.f_Key.f_Dst.f_B 8, o8 xv130.f_Key.f_Dst.f_B 9, o8 xv130.f_Key.f_Dst.f_B 10, o8 xv130.f_Key.f_Dst.f_B 11, o8 xv130.f_Key.f_Dst.f_B 12, o8 xv130.f_Key.f_Dst.f_B 13, o8 xv130.f_Key.f_Dst.f_B 14, o8 xv130.f_Key.f_Dst.f_B 15, v8 xv130.f_Key.f_Proto, v16 xv130.f_Key.f_SrcPort, v16 xv130.f_Key.f_DstPort, v64 xv130.f_N]) ag102 rfl (hA128).cells) rfl ?_
   refine RL.eff (E.alloc hM ze102) rfl fun v w132 hv => ?_
   clear hM
   obtain ⟨g131, rfl, hM, hf⟩ := hv
   refine RL.effs (E.stB (j := 2) (off := 0) (vs := [vB xv130.f_Used, vB xv130.f_Key.f_Src.f_Six, o8 xv130.f_Key.f_Src.f_B 0, o8 xv130.f_Key.f_Src.f_B 1, o8 xv130.f_Key.f_Src.f_B 2, o8 xv130.f_Key.f_Src.f_B 3, o8 xv130.f_Key.f_Src.f_B 4, o8 xv130.f_Key.f_Src.f_B 5, o8 xv130.f_Key.f_Src.f_B 6, o8 xv130.f_Key.f_Src.f_B 7, o8 xv130.f_Key.f_Src.f_B 8, o8 xv130.f_Key.f_Src.f_B 9, o8 xv130.f_Key.f_Src.f_B 10, o8 xv130.f_Key.f_Src.f_B 11, o8 xv130.f_Key.f_Src.f_B 12, o8 xv130.f_Key.f_Src.f_B 13, o8 xv130.f_Key.f_Src.f_B 14, o8 xv130.f_Key.f_Src.f_B 15, vB xv130.f_Key.f_Dst.f_Six, o8 xv130.f_Key.f_Dst.f_B 0, o8 xv130.f_Key.f_Dst.f_B 1, o8 xv130.f_Key.f_Dst.f_B 2, o8 xv130.f_Key.f_Dst.f_B 3, o8 xv130.f_Key.f_Dst.f_B 4, o8 xv130.f_Key.f_Dst.f_B 5, o8 xv130.f_Key.f_Dst.f_B 6, o8 xv130.f_Key.f_Dst.f_B 7, o8 xv130.f_Key.f_Dst.f_B 8, o8 xv130.f_Key.f_Dst.f_B 9, o8 xv130.f_Key.f_Dst.f_B 10, o8 xv130.f_Key.f_Dst.f_B 11, o8 xv130.f_Key.f_Dst.f_B 12, o8 xv130.f_Key.f_Dst.f_B 13, o8 xv130.f_Key.f_Dst.f_B 14, o8 xv130.f_Key.f_Dst.f_B 15, v8 xv130.f_Key.f_Proto, v16 xv130.f_Key.f_SrcPort, v16 xv130.f_Key.f_DstPort, v64 xv130.f_N]) (cs' := [vB xv130.f_Used, vB xv130.f_Key.f_Src.f_Six, o8 xv130.f_Key.f_Src.f_B 0, o8 xv130.f_Key.f_Src.f_B 1, o8 xv130.f_Key.f_Src.f_B 2, o8 xv130.f_Key.f_Src.f_B 3, o8 xv130.f_Key.f_Src.f_B 4, o8 xv130.f_Key.f_Src.f_B 5, o8 xv130.f_Key.f_Src.f_B 6, o8 xv130.f_Key.f_Src.f_B 7, o8 xv130.f_Key.f_Src.f_B 8, o8 xv130.f_Key.f_Src.f_B 9, o8 xv130.f_Key.f_Src.f_B 10, o8 xv130.f_Key.f_Src.f_B 11, o8 xv130.f_Key.f_Src.f_B 12, o8 xv130.f_Key.f_Src.f_B 13, o8 xv130.f_Key.f_Src.f_B 14, o8 xv130.f_Key.f_Src.f_B 15, vB xv130.f_Key.f_Dst.f_Six, o8 xv130.f_Key.f_Dst.f_B 0, o8 xv130.f_Key.f_Dst.f_B 1, o8 xv130.f_Key.f_Dst.f_B 2, o8 xv130.f_Key.f_Dst.f_B 3, o8 xv130.f_Key.f_Dst.f_B 4, o8 xv130.f_Key.f_Dst.f_B 5, o8 xv130.f_Key.f_Dst.f_B 6, o8 xv130.f_Key.f_Dst.f_B 7, o8 xv130.f_Key.f_Dst.f_B 8, o8 xv130.f_Key.f_Dst.f_B 9, o8 xv130.f_Key.f_Dst.f_B 10, o8 xv130.f_Key.f_Dst.f_B 11, o8 xv130.f_Key.f_Dst.f_B 12, o8 xv130.f_Key.f_Dst.f_B 13, o8 xv130.f_Key.f_Dst.f_B 14, o8 xv130.f_Key.f_Dst.f_B 15, v8 xv130.f_Key.f_Proto, v16 xv130.f_Key.f_SrcPort, v16 xv130.f_Key.f_DstPort, v64 xv130.f_N]) hM rfl sz102 rfl (adds_eq [] rfl) rfl rfl (One.all rfl) rfl rfl) fun w134 hM1 => ?_
   clear hM
   have hM := hM1
   clear hM1
   refine nt hQ127 ?_
   clear hQ127 Q127
   refine KC.seqH fun Q135 hQ135 => ?_
   refine sr fun Q136 hQ136 => ?_
   refine RL.val (O.fldA fl102_0 (by decide) rfl) rfl ?_
   refine RL.val (O.load sc4 rfl (Cs.adds [0] ((hM.bx (i := 2) rfl)) rfl)) rfl ?_
   refine RL.val (O.not rfl) rfl ?_
   refine nt hQ136 ?_
   clear hQ136 Q136
   refine KC.cond rfl (fun hc => ?_) (fun hc => ?_)
   ·rw [if_pos hc] at hF
    refine KC.exit ?_
    refine KQ.thx hQ135 ?_
    clear hQ135 Q135
    refine KQ.blk_y rfl ?_
    refine KQ.thx hQ123 ?_
    clear hQ123 Q123
    refine KQ.then_x ?_
    refine KQ.blk_x ?_
    refine KQ.then_k ?_
    replace hM := hM.pick [0, 1] rfl (by decide)
    exact fun a ha => ⟨A113, c114, p115, p116, ha.less less_nil, hM, hF⟩
   rw [if_neg (ne_true hc)] at hF
   refine KC.skip ?_
   refine KQ.thn hQ135 ?_
   clear hQ135 Q135
   refine sr fun Q137 hQ137 => ?_
   refine vm rfl rfl ?_
   refine RL.val (O.nilp rfl) rfl ?_
   refine RL.val (O.fldA fl96_0 (by decide) rfl) rfl ?_
   refine RL.val (O.load sc94 rfl (Cs.adds [0] ((hM.bx (i := 1) rfl)) rfl)) rfl ?_
   refine vm rfl rfl ?_
   refine RL.val (O.bld (cs := [vB false, vB false, o8 (List.replicate 16 0) 0, o8 (List.replicate 16 0) 1, o8 (List.replicate 16 0) 2, o8 (List.replicate 16 0) 3, o8 (List.replicate 16 0) 4, o8 (List.replicate 16 0) 5, o8 (List.replicate 16 0) 6, o8 (List.replicate 16 0) 7, o8 (List.replicate 16 0) 8, o8 (List.replicate 16 0) 9, o8 (List.replicate 16 0) 10, o8 (List.replicate 16 0) 11, o8 (List.replicate 16 0) 12, o8 (List.replicate 16 0) 13, o8 (List.replicate 16 0) 14, o8 (List.replicate 16 0) 15, vB false, o8 (List.replicate 16 0) 0, o8 (List.replicate 16 0) 1, o8 (List.replicate 16 0) 2, o8 (List.replicate 16 0) 3, o8 (List.replicate 16 0) 4, o8 (List.replicate 16 0) 5, o8 (List.replicate 16 0) 6, o8 (List.replicate 16 0) 7, o8 (List.replicate 16 0) 8, o8 (List.replicate 16 0) 9, o8 (List.replicate 16 0) 10, o8 (List.replicate 16 0) 11, o8 (List.replicate 16 0) 12, o8 (List.replicate 16 0) 13, o8 (List.replicate 16 0) 14, o8 (List.replicate 16 0) 15, v8 0, v16 0, v16 0, v64 0]) bt102 rfl (by kernel_rfl)) rfl ?_
   refine obindE hF fun xv140 hx139 hF => ?_
   have hA138 := Rd.atN (f := e_table_Slot) (s := 39) (fun _ => rfl) (by decide) (hM.rd (i := 0) rfl) hx139
   refine RL.val (O.idxA sl94 (hA138) rfl rfl) rfl ?_
   refine RL.effs (E.stR (enc := e_table_Slot) (j := 0) (off := 0) (vs := [vB false, vB false, o8 (List.replicate 16 0) 0, o8 (List.replicate 16 0) 1, o8 (List.replicate 16 0) 2, o8 (List.replicate 16 0) 3, o8 (List.replicate 16 0) 4, o8 (List.replicate 16 0) 5, o8 (List.replicate 16 0) 6, o8 (List.replicate 16 0) 7, o8 (List.replicate 16 0) 8, o8 (List.replicate 16 0) 9, o8 (List.replicate 16 0) 10, o8 (List.replicate 16 0) 11, o8 (List.replicate 16 0) 12, o8 (List.replicate 16 0) 13, o8 (List.replicate 16 0) 14, o8 (List.replicate 16 0) 15, vB false, o8 (List.replicate 16 0) 0, o8 (List.replicate 16 0) 1, o8 (List.replicate 16 0) 2, o8 (List.replicate 16 0) 3, o8 (List.replicate 16 0) 4, o8 (List.replicate 16 0) 5, o8 (List.replicate 16 0) 6, o8 (List.replicate 16 0) 7, o8 (List.replicate 16 0) 8, o8 (List.replicate 16 0) 9, o8 (List.replicate 16 0) 10, o8 (List.replicate 16 0) 11, o8 (List.replicate 16 0) 12, o8 (List.replicate 16 0) 13, o8 (List.replicate 16 0) 14, o8 (List.replicate 16 0) 15, v8 0, v16 0, v16 0, v64 0]) (x' := (T_table_Slot.mk false (T_packet_Key.mk (T_addr_Addr.mk false (List.replicate 16 0)) (T_addr_Addr.mk false (List.replicate 16 0)) 0 0 0) 0)) hM rfl (fun _ => rfl) hx139 sz102 rfl (addsR_eq [] rfl) rfl rfl (One.all rfl) rfl rfl) fun w141 hM1 => ?_
   clear hM
   obtain ⟨hM, hn142⟩ := hM1
   refine RL.reslot (t := 61) rfl hn142 ?_
   replace hM := hM.rebox (i := 1) (cs' := [.slice A113 ((p115.set ((Int.tmod (IntKind.i64.wrap ((IntKind.i64.wrap (y15.1 + 1)) + t117)) (y15.2.f_slots.length : Int)) : Int).toNat (T_table_Slot.mk false (T_packet_Key.mk (T_addr_Addr.mk false (List.replicate 16 0)) (T_addr_Addr.mk false (List.replicate 16 0)) 0 0 0) 0))).length c114, vI p116]) rfl (by rw [← hn142])
   refine nt hQ137 ?_
   clear hQ137 Q137
   refine sr fun Q143 hQ143 => ?_
   refine vm rfl rfl ?_
   refine RL.val (O.fldA fl102_1 (by decide) rfl) rfl ?_
   refine RL.val (O.loadN (cs := [vB xv130.f_Key.f_Src.f_Six, o8 xv130.f_Key.f_Src.f_B 0, o8 xv130.f_Key.f_Src.f_B 1, o8 xv130.f_Key.f_Src.f_B 2, o8 xv130.f_Key.f_Src.f_B 3, o8 xv130.f_Key.f_Src.f_B 4, o8 xv130.f_Key.f_Src.f_B 5, o8 xv130.f_Key.f_Src.f_B 6, o8 xv130.f_Key.f_Src.f_B 7, o8 xv130.f_Key.f_Src.f_B 8, o8 xv130.f_Key.f_Src.f_B 9, o8 xv130.f_Key.f_Src.f_B 10, o8 xv130.f_Key.f_Src.f_B 11, o8 xv130.f_Key.f_Src.f_B 12, o8 xv130.f_Key.f_Src.f_B 13, o8 xv130.f_Key.f_Src.f_B 14, o8 xv130.f_Key.f_Src.f_B 15, vB xv130.f_Key.f_Dst.f_Six, o8 xv130.f_Key.f_Dst.f_B 0, o8 xv130.f_Key.f_Dst.f_B 1, o8 xv130.f_Key.f_Dst.f_B 2, o8 xv130.f_Key.f_Dst.f_B 3, o8 xv130.f_Key.f_Dst.f_B 4, o8 xv130.f_Key.f_Dst.f_B 5, o8 xv130.f_Key.f_Dst.f_B 6, o8 xv130.f_Key.f_Dst.f_B 7, o8 xv130.f_Key.f_Dst.f_B 8, o8 xv130.f_Key.f_Dst.f_B 9, o8 xv130.f_Key.f_Dst.f_B 10, o8 xv130.f_Key.f_Dst.f_B 11, o8 xv130.f_Key.f_Dst.f_B 12, o8 xv130.f_Key.f_Dst.f_B 13, o8 xv130.f_Key.f_Dst.f_B 14, o8 xv130.f_Key.f_Dst.f_B 15, v8 xv130.f_Key.f_Proto, v16 xv130.f_Key.f_SrcPort, v16 xv130.f_Key.f_DstPort]) ag36 rfl (Cs.addsN [1] ((hM.bx (i := 2) rfl)) rfl)) rfl ?_
   refine obindE hF fun y144 hx145 hF => ?_
   refine RL.call Try.func64 bd64 rfl rfl (c_table_Table_find _ _ _ (T_table_Table.mk (p115.set ((Int.tmod (IntKind.i64.wrap ((IntKind.i64.wrap (y15.1 + 1)) + t117)) (y15.2.f_slots.length : Int)) : Int).toNat (T_table_Slot.mk false (T_packet_Key.mk (T_addr_Addr.mk false (List.replicate 16 0)) (T_addr_Addr.mk false (List.replicate 16 0)) 0 0 0) 0)) p116) _ _ (hM.lent [1, 0] rfl (by decide)) xv130.f_Key _ hx145) fun v w146 hv => ?_
   obtain ⟨A148, c149, rfl, hN147⟩ := hv
   replace hM := hM.callL [1, 0] [2] rfl rfl (by decide) rfl hN147
   refine vm rfl rfl ?_
   refine RL.val (O.ext rfl rfl) rfl ?_
   refine RL.val (O.ext rfl rfl) rfl ?_
   refine va rfl rfl ?_
   refine va rfl rfl ?_
   refine nt hQ143 ?_
   clear hQ143 Q143
   replace hM := hM.drewN 1
   refine KC.draw [] [7] [7] [0, 1, 2, 4] (.ofList [0, 1, 2, 3, 4, 5, 6, 7]) moP (by kernel_rfl) ?_
   refine RD.p rfl rfl rfl rfl (fun w' => O.move rfl) ?_
   refine RD.p rfl rfl rfl rfl (fun w' => O.nilp rfl) ?_
   refine RD.p rfl rfl rfl rfl (fun w' => O.fldA fl96_0 (by decide) rfl) ?_
   refine RD.q rfl rfl rfl rfl (fun w' hf => O.load sc94 rfl (Cs.adds [0] ((hM.bx (i := 1) rfl).fut hf) rfl)) ?_
   refine RD.p rfl rfl rfl rfl (fun w' => O.move rfl) ?_
   refine RD.q rfl rfl rfl rfl (fun w' hf => O.loadN (cs := [vB xv130.f_Used, vB xv130.f_Key.f_Src.f_Six, o8 xv130.f_Key.f_Src.f_B 0, o8 xv130.f_Key.f_Src.f_B 1, o8 xv130.f_Key.f_Src.f_B 2, o8 xv130.f_Key.f_Src.f_B 3, o8 xv130.f_Key.f_Src.f_B 4, o8 xv130.f_Key.f_Src.f_B 5, o8 xv130.f_Key.f_Src.f_B 6, o8 xv130.f_Key.f_Src.f_B 7, o8 xv130.f_Key.f_Src.f_B 8, o8 xv130.f_Key.f_Src.f_B 9, o8 xv130.f_Key.f_Src.f_B 10, o8 xv130.f_Key.f_Src.f_B 11, o8 xv130.f_Key.f_Src.f_B 12, o8 xv130.f_Key.f_Src.f_B 13, o8 xv130.f_Key.f_Src.f_B 14, o8 xv130.f_Key.f_Src.f_B 15, vB xv130.f_Key.f_Dst.f_Six, o8 xv130.f_Key.f_Dst.f_B 0, o8 xv130.f_Key.f_Dst.f_B 1, o8 xv130.f_Key.f_Dst.f_B 2, o8 xv130.f_Key.f_Dst.f_B 3, o8 xv130.f_Key.f_Dst.f_B 4, o8 xv130.f_Key.f_Dst.f_B 5, o8 xv130.f_Key.f_Dst.f_B 6, o8 xv130.f_Key.f_Dst.f_B 7, o8 xv130.f_Key.f_Dst.f_B 8, o8 xv130.f_Key.f_Dst.f_B 9, o8 xv130.f_Key.f_Dst.f_B 10, o8 xv130.f_Key.f_Dst.f_B 11, o8 xv130.f_Key.f_Dst.f_B 12, o8 xv130.f_Key.f_Dst.f_B 13, o8 xv130.f_Key.f_Dst.f_B 14, o8 xv130.f_Key.f_Dst.f_B 15, v8 xv130.f_Key.f_Proto, v16 xv130.f_Key.f_SrcPort, v16 xv130.f_Key.f_DstPort, v64 xv130.f_N]) ag102 rfl (Cs.addsN [] ((hM.bx (i := 0) rfl).fut hf) rfl)) ?_
   refine obindE hF fun xv153 hx152 hF => ?_
   have hA151 := Rd.atN (f := e_table_Slot) (s := 39) (fun _ => rfl) (by decide) (hM.rd (i := 2) rfl) hx152
   refine RD.q rfl rfl rfl rfl (fun w' hf => O.idxA sl94 (hA151.fut hf) rfl rfl) ?_
   refine RD.meffs rfl rfl rfl (E.stR (enc := e_table_Slot) (j := 2) (off := 0) (vs := [vB xv130.f_Used, vB xv130.f_Key.f_Src.f_Six, o8 xv130.f_Key.f_Src.f_B 0, o8 xv130.f_Key.f_Src.f_B 1, o8 xv130.f_Key.f_Src.f_B 2, o8 xv130.f_Key.f_Src.f_B 3, o8 xv130.f_Key.f_Src.f_B 4, o8 xv130.f_Key.f_Src.f_B 5, o8 xv130.f_Key.f_Src.f_B 6, o8 xv130.f_Key.f_Src.f_B 7, o8 xv130.f_Key.f_Src.f_B 8, o8 xv130.f_Key.f_Src.f_B 9, o8 xv130.f_Key.f_Src.f_B 10, o8 xv130.f_Key.f_Src.f_B 11, o8 xv130.f_Key.f_Src.f_B 12, o8 xv130.f_Key.f_Src.f_B 13, o8 xv130.f_Key.f_Src.f_B 14, o8 xv130.f_Key.f_Src.f_B 15, vB xv130.f_Key.f_Dst.f_Six, o8 xv130.f_Key.f_Dst.f_B 0, o8 xv130.f_Key.f_Dst.f_B 1, o8 xv130.f_Key.f_Dst.f_B 2, o8 xv130.f_Key.f_Dst.f_B 3, o8 xv130.f_Key.f_Dst.f_B 4, o8 xv130.f_Key.f_Dst.f_B 5, o8 xv130.f_Key.f_Dst.f_B 6, o8 xv130.f_Key.f_Dst.f_B 7, o8 xv130.f_Key.f_Dst.f_B 8, o8 xv130.f_Key.f_Dst.f_B 9, o8 xv130.f_Key.f_Dst.f_B 10, o8 xv130.f_Key.f_Dst.f_B 11, o8 xv130.f_Key.f_Dst.f_B 12, o8 xv130.f_Key.f_Dst.f_B 13, o8 xv130.f_Key.f_Dst.f_B 14, o8 xv130.f_Key.f_Dst.f_B 15, v8 xv130.f_Key.f_Proto, v16 xv130.f_Key.f_SrcPort, v16 xv130.f_Key.f_DstPort, v64 xv130.f_N]) (x' := xv130) hM rfl (fun _ => rfl) hx152 sz102 rfl (addsR_eq [] rfl) rfl rfl (One.all rfl) rfl rfl) fun w154 hM1 => ?_
   clear hM
   obtain ⟨hM, hn155⟩ := hM1
   refine RD.reslot (t := 75) rfl hn155 ?_
   replace hM := hM.rebox (i := 1) (cs' := [.slice A148 ((y144.2.2.f_slots.set (y144.1 : Int).toNat xv130)).length c149, vI y144.2.2.f_many]) rfl (by rw [← hn155])
   refine RD.nil ?_
   refine KQ.blk_n ?_
   refine KQ.thn hQ123 ?_
   clear hQ123 Q123
   refine KC.region ?_
   refine RL.val (O.add rfl rfl) rfl ?_
   refine vm rfl rfl ?_
   refine RL.nil ?_
   refine KQ.then_k ?_
   replace hM := hM.pick [2, 1] rfl (by decide)
   exact fun a ha => ⟨k120, Nat.lt_succ_self k120, A148, c149, (y144.2.2.f_slots.set (y144.1 : Int).toNat xv130), y144.2.2.f_many, (IntKind.i64.wrap (t117 + 1)), ha.less (less_cons rfl (less_cons rfl (less_cons rfl (less_cons rfl (less_cons rfl less_nil))))), hM, hF⟩
  rw [if_neg (ne_true hc)] at hF
  refine KC.exit ?_
  refine KQ.thx hQ122 ?_
  clear hQ122 Q122
  refine KQ.then_x ?_
  refine KQ.blk_x ?_
  refine KQ.then_k ?_
  exact fun a ha => ⟨A113, c114, p115, p116, ha.less less_nil, hM, hF⟩
 rintro a w162 ⟨A158, c159, p160, p161, ha, hM, hF⟩
 refine KC.app ha ?_
 clear ha
 unfold F_table_Table_Delete_j1 at hF
 refine sr fun Q163 hQ163 => ?_
 refine va rfl rfl ?_
 refine nt hQ163 ?_
 clear hQ163 Q163
 refine KC.ret ?_
 have hE := Option.some.inj hF
 clear hF
 subst hE
 replace hM := hM.pick [1, 0] rfl (by decide)
 refine KQ.rets Try.results56 (RVs.cons (RV.tm rfl) RVs.nil) ?_
 exact ⟨_, rfl, A158, c159, rfl, hM⟩
end Go.Proofs.Ytkpnocgfhipidaa
