/- Printed by a program of this claim: each call returns what the plain function of its name gives. -/
import Derived.Test.YtnbakndfnjflhaaW1
import Derived.Test.YtnbakndfnjflhaaW2
import Derived.Test.YtnbakndfnjflhaaW20
set_option linter.unusedVariables false
namespace Go.Proofs.Ytnbakndfnjflhaa
open Go Go.Ox Go.RowKit
set_option maxRecDepth 100000 in
set_option maxHeartbeats 40000000 in
theorem c_table_Table_Clear_N (w : World) (r : Unit) (hF : F_table_Table_Clear_N = some r) :
  CallsR Try.prog 20 [.pointer none] w (fun v w' => v = .tuple #[] ∧ Mem w [] w' []) := by
 refine calls_KC Try.func20 rfl Try.ntmps20 rfl ?_
 have hM := Mem.init w
 unfold F_table_Table_Clear_N at hF
 refine KC.seqH fun Q1 hQ1 => ?_
 refine KC.region ?_
 refine RL.val (O.move rfl) rfl ?_
 refine RL.val (O.pnen Try.underlying24 rfl rfl) rfl ?_
 refine RL.nil ?_
 refine KQ.thn hQ1 ?_
 clear hQ1 Q1
 refine KC.condF rfl ?_
 refine KC.skip ?_
 have hE := Option.some.inj hF
 clear hF
 subst hE
 refine KQ.endr Try.results20 RVs.nil ?_
 exact ⟨_, rfl, rfl, hM⟩
set_option maxRecDepth 100000 in
set_option maxHeartbeats 40000000 in
theorem c_table_Table_Delete_N (w : World) (kv1 : T_packet_Key) (r : Bool) (hF : F_table_Table_Delete_N kv1 = some r) :
  CallsR Try.prog 13 [.pointer none, .agg #[Value.bool kv1.f_Src.f_Six, o8 kv1.f_Src.f_B 0, o8 kv1.f_Src.f_B 1, o8 kv1.f_Src.f_B 2, o8 kv1.f_Src.f_B 3, o8 kv1.f_Src.f_B 4, o8 kv1.f_Src.f_B 5, o8 kv1.f_Src.f_B 6, o8 kv1.f_Src.f_B 7, o8 kv1.f_Src.f_B 8, o8 kv1.f_Src.f_B 9, o8 kv1.f_Src.f_B 10, o8 kv1.f_Src.f_B 11, o8 kv1.f_Src.f_B 12, o8 kv1.f_Src.f_B 13, o8 kv1.f_Src.f_B 14, o8 kv1.f_Src.f_B 15, Value.bool kv1.f_Dst.f_Six, o8 kv1.f_Dst.f_B 0, o8 kv1.f_Dst.f_B 1, o8 kv1.f_Dst.f_B 2, o8 kv1.f_Dst.f_B 3, o8 kv1.f_Dst.f_B 4, o8 kv1.f_Dst.f_B 5, o8 kv1.f_Dst.f_B 6, o8 kv1.f_Dst.f_B 7, o8 kv1.f_Dst.f_B 8, o8 kv1.f_Dst.f_B 9, o8 kv1.f_Dst.f_B 10, o8 kv1.f_Dst.f_B 11, o8 kv1.f_Dst.f_B 12, o8 kv1.f_Dst.f_B 13, o8 kv1.f_Dst.f_B 14, o8 kv1.f_Dst.f_B 15, Value.int .u8 kv1.f_Proto, Value.int .u16 kv1.f_SrcPort, Value.int .u16 kv1.f_DstPort]] w (fun v w' => v = Value.bool r ∧ Mem w [] w' []) := by
 refine calls_KC Try.func13 rfl Try.ntmps13 rfl ?_
 have hM := Mem.init w
 unfold F_table_Table_Delete_N at hF
 refine KC.seqH fun Q2 hQ2 => ?_
 refine KC.region ?_
 refine RL.eff (E.box (vs := [Value.bool kv1.f_Src.f_Six, o8 kv1.f_Src.f_B 0, o8 kv1.f_Src.f_B 1, o8 kv1.f_Src.f_B 2, o8 kv1.f_Src.f_B 3, o8 kv1.f_Src.f_B 4, o8 kv1.f_Src.f_B 5, o8 kv1.f_Src.f_B 6, o8 kv1.f_Src.f_B 7, o8 kv1.f_Src.f_B 8, o8 kv1.f_Src.f_B 9, o8 kv1.f_Src.f_B 10, o8 kv1.f_Src.f_B 11, o8 kv1.f_Src.f_B 12, o8 kv1.f_Src.f_B 13, o8 kv1.f_Src.f_B 14, o8 kv1.f_Src.f_B 15, Value.bool kv1.f_Dst.f_Six, o8 kv1.f_Dst.f_B 0, o8 kv1.f_Dst.f_B 1, o8 kv1.f_Dst.f_B 2, o8 kv1.f_Dst.f_B 3, o8 kv1.f_Dst.f_B 4, o8 kv1.f_Dst.f_B 5, o8 kv1.f_Dst.f_B 6, o8 kv1.f_Dst.f_B 7, o8 kv1.f_Dst.f_B 8, o8 kv1.f_Dst.f_B 9, o8 kv1.f_Dst.f_B 10, o8 kv1.f_Dst.f_B 11, o8 kv1.f_Dst.f_B 12, o8 kv1.f_Dst.f_B 13, o8 kv1.f_Dst.f_B 14, o8 kv1.f_Dst.f_B 15, Value.int .u8 kv1.f_Proto, Value.int .u16 kv1.f_SrcPort, Value.int .u16 kv1.f_DstPort]) hM rfl rfl) rfl fun v w4 hv => ?_
 clear hM
 obtain ⟨g3, rfl, hM, hf⟩ := hv
 refine RL.val (O.assign rfl) rfl ?_
 refine RL.nil ?_
 refine KQ.thn hQ2 ?_
 clear hQ2 Q2
 refine KC.seqH fun Q6 hQ6 => ?_
 refine KC.region ?_
 refine RL.val (O.move rfl) rfl ?_
 refine RL.val (O.loadN (cs := [Value.bool kv1.f_Src.f_Six, o8 kv1.f_Src.f_B 0, o8 kv1.f_Src.f_B 1, o8 kv1.f_Src.f_B 2, o8 kv1.f_Src.f_B 3, o8 kv1.f_Src.f_B 4, o8 kv1.f_Src.f_B 5, o8 kv1.f_Src.f_B 6, o8 kv1.f_Src.f_B 7, o8 kv1.f_Src.f_B 8, o8 kv1.f_Src.f_B 9, o8 kv1.f_Src.f_B 10, o8 kv1.f_Src.f_B 11, o8 kv1.f_Src.f_B 12, o8 kv1.f_Src.f_B 13, o8 kv1.f_Src.f_B 14, o8 kv1.f_Src.f_B 15, Value.bool kv1.f_Dst.f_Six, o8 kv1.f_Dst.f_B 0, o8 kv1.f_Dst.f_B 1, o8 kv1.f_Dst.f_B 2, o8 kv1.f_Dst.f_B 3, o8 kv1.f_Dst.f_B 4, o8 kv1.f_Dst.f_B 5, o8 kv1.f_Dst.f_B 6, o8 kv1.f_Dst.f_B 7, o8 kv1.f_Dst.f_B 8, o8 kv1.f_Dst.f_B 9, o8 kv1.f_Dst.f_B 10, o8 kv1.f_Dst.f_B 11, o8 kv1.f_Dst.f_B 12, o8 kv1.f_Dst.f_B 13, o8 kv1.f_Dst.f_B 14, o8 kv1.f_Dst.f_B 15, Value.int .u8 kv1.f_Proto, Value.int .u16 kv1.f_SrcPort, Value.int .u16 kv1.f_DstPort]) ag35 rfl (Cs.addsN [] ((hM.bx (i := 0) rfl)) rfl)) rfl ?_
 refine obindE hF fun y7 hx8 hF => ?_
 refine RL.call Try.func35 bd35 rfl rfl (c_table_Table_has_N _ kv1 _ hx8) fun v w9 hv => ?_
 obtain ⟨rfl, hN10⟩ := hv
 replace hM := hM.call0 hN10
 refine RL.val (O.assign rfl) rfl ?_
 refine RL.nil ?_
 refine KQ.thn hQ6 ?_
 clear hQ6 Q6
 refine KC.seqH fun Q11 hQ11 => ?_
 refine KC.seqH fun Q12 hQ12 => ?_
 refine KC.region ?_
 refine RL.val (O.move rfl) rfl ?_
 refine RL.val (O.lss rfl rfl) rfl ?_
 refine RL.nil ?_
 refine KQ.thn hQ12 ?_
 clear hQ12 Q12
 refine KC.cond rfl (fun hc => ?_) (fun hc => ?_)
 ·rw [if_pos hc] at hF
  refine KC.seqH fun Q13 hQ13 => ?_
  refine KC.region ?_
  refine RL.val (O.assign rfl) rfl ?_
  refine RL.nil ?_
  refine KQ.thn hQ13 ?_
  clear hQ13 Q13
  refine KC.ret ?_
  refine KQ.thr hQ11 ?_
  clear hQ11 Q11
  have hE := Option.some.inj hF
  clear hF
  subst hE
  replace hM := hM.pick [] rfl (by decide)
  refine KQ.rets Try.results13 (RVs.cons (RV.tm rfl) RVs.nil) ?_
  exact ⟨_, rfl, rfl, hM⟩
 ·rw [if_neg (ne_true hc)] at hF
  refine KC.skip ?_
  refine KQ.thn hQ11 ?_
  clear hQ11 Q11
  refine KC.seqH fun Q14 hQ14 => ?_
  refine KC.region ?_
  refine RL.val (O.move rfl) rfl ?_
  exact (none_some hF).elim
set_option maxRecDepth 100000 in
set_option maxHeartbeats 40000000 in
theorem c_table_Table_Probes_N (w : World) (kv1 : T_packet_Key) (r : Int) (hF : F_table_Table_Probes_N kv1 = some r) :
  CallsR Try.prog 9 [.pointer none, .agg #[Value.bool kv1.f_Src.f_Six, o8 kv1.f_Src.f_B 0, o8 kv1.f_Src.f_B 1, o8 kv1.f_Src.f_B 2, o8 kv1.f_Src.f_B 3, o8 kv1.f_Src.f_B 4, o8 kv1.f_Src.f_B 5, o8 kv1.f_Src.f_B 6, o8 kv1.f_Src.f_B 7, o8 kv1.f_Src.f_B 8, o8 kv1.f_Src.f_B 9, o8 kv1.f_Src.f_B 10, o8 kv1.f_Src.f_B 11, o8 kv1.f_Src.f_B 12, o8 kv1.f_Src.f_B 13, o8 kv1.f_Src.f_B 14, o8 kv1.f_Src.f_B 15, Value.bool kv1.f_Dst.f_Six, o8 kv1.f_Dst.f_B 0, o8 kv1.f_Dst.f_B 1, o8 kv1.f_Dst.f_B 2, o8 kv1.f_Dst.f_B 3, o8 kv1.f_Dst.f_B 4, o8 kv1.f_Dst.f_B 5, o8 kv1.f_Dst.f_B 6, o8 kv1.f_Dst.f_B 7, o8 kv1.f_Dst.f_B 8, o8 kv1.f_Dst.f_B 9, o8 kv1.f_Dst.f_B 10, o8 kv1.f_Dst.f_B 11, o8 kv1.f_Dst.f_B 12, o8 kv1.f_Dst.f_B 13, o8 kv1.f_Dst.f_B 14, o8 kv1.f_Dst.f_B 15, Value.int .u8 kv1.f_Proto, Value.int .u16 kv1.f_SrcPort, Value.int .u16 kv1.f_DstPort]] w (fun v w' => v = Value.int .i64 r ∧ Mem w [] w' []) := by
 refine calls_KC Try.func9 rfl Try.ntmps9 rfl ?_
 have hM := Mem.init w
 unfold F_table_Table_Probes_N at hF
 refine KC.seqH fun Q2 hQ2 => ?_
 refine KC.region ?_
 refine RL.eff (E.box (vs := [Value.bool kv1.f_Src.f_Six, o8 kv1.f_Src.f_B 0, o8 kv1.f_Src.f_B 1, o8 kv1.f_Src.f_B 2, o8 kv1.f_Src.f_B 3, o8 kv1.f_Src.f_B 4, o8 kv1.f_Src.f_B 5, o8 kv1.f_Src.f_B 6, o8 kv1.f_Src.f_B 7, o8 kv1.f_Src.f_B 8, o8 kv1.f_Src.f_B 9, o8 kv1.f_Src.f_B 10, o8 kv1.f_Src.f_B 11, o8 kv1.f_Src.f_B 12, o8 kv1.f_Src.f_B 13, o8 kv1.f_Src.f_B 14, o8 kv1.f_Src.f_B 15, Value.bool kv1.f_Dst.f_Six, o8 kv1.f_Dst.f_B 0, o8 kv1.f_Dst.f_B 1, o8 kv1.f_Dst.f_B 2, o8 kv1.f_Dst.f_B 3, o8 kv1.f_Dst.f_B 4, o8 kv1.f_Dst.f_B 5, o8 kv1.f_Dst.f_B 6, o8 kv1.f_Dst.f_B 7, o8 kv1.f_Dst.f_B 8, o8 kv1.f_Dst.f_B 9, o8 kv1.f_Dst.f_B 10, o8 kv1.f_Dst.f_B 11, o8 kv1.f_Dst.f_B 12, o8 kv1.f_Dst.f_B 13, o8 kv1.f_Dst.f_B 14, o8 kv1.f_Dst.f_B 15, Value.int .u8 kv1.f_Proto, Value.int .u16 kv1.f_SrcPort, Value.int .u16 kv1.f_DstPort]) hM rfl rfl) rfl fun v w4 hv => ?_
 clear hM
 obtain ⟨g3, rfl, hM, hf⟩ := hv
 refine RL.val (O.assign rfl) rfl ?_
 refine RL.nil ?_
 refine KQ.thn hQ2 ?_
 clear hQ2 Q2
 refine KC.seqH fun Q6 hQ6 => ?_
 refine KC.region ?_
 refine RL.val (O.move rfl) rfl ?_
 refine RL.val (O.loadN (cs := [Value.bool kv1.f_Src.f_Six, o8 kv1.f_Src.f_B 0, o8 kv1.f_Src.f_B 1, o8 kv1.f_Src.f_B 2, o8 kv1.f_Src.f_B 3, o8 kv1.f_Src.f_B 4, o8 kv1.f_Src.f_B 5, o8 kv1.f_Src.f_B 6, o8 kv1.f_Src.f_B 7, o8 kv1.f_Src.f_B 8, o8 kv1.f_Src.f_B 9, o8 kv1.f_Src.f_B 10, o8 kv1.f_Src.f_B 11, o8 kv1.f_Src.f_B 12, o8 kv1.f_Src.f_B 13, o8 kv1.f_Src.f_B 14, o8 kv1.f_Src.f_B 15, Value.bool kv1.f_Dst.f_Six, o8 kv1.f_Dst.f_B 0, o8 kv1.f_Dst.f_B 1, o8 kv1.f_Dst.f_B 2, o8 kv1.f_Dst.f_B 3, o8 kv1.f_Dst.f_B 4, o8 kv1.f_Dst.f_B 5, o8 kv1.f_Dst.f_B 6, o8 kv1.f_Dst.f_B 7, o8 kv1.f_Dst.f_B 8, o8 kv1.f_Dst.f_B 9, o8 kv1.f_Dst.f_B 10, o8 kv1.f_Dst.f_B 11, o8 kv1.f_Dst.f_B 12, o8 kv1.f_Dst.f_B 13, o8 kv1.f_Dst.f_B 14, o8 kv1.f_Dst.f_B 15, Value.int .u8 kv1.f_Proto, Value.int .u16 kv1.f_SrcPort, Value.int .u16 kv1.f_DstPort]) ag35 rfl (Cs.addsN [] ((hM.bx (i := 0) rfl)) rfl)) rfl ?_
 refine obindE hF fun y7 hx8 hF => ?_
 refine RL.call Try.func31 bd31 rfl rfl (c_table_Table_find_N _ kv1 _ hx8) fun v w9 hv => ?_
 obtain ⟨rfl, hN10⟩ := hv
 replace hM := hM.call0 hN10
 refine RL.val (O.move rfl) rfl ?_
 refine RL.val (O.ext rfl rfl) rfl ?_
 refine RL.val (O.ext rfl rfl) rfl ?_
 refine RL.val (O.assign rfl) rfl ?_
 refine RL.val (O.assign rfl) rfl ?_
 refine RL.nil ?_
 refine KQ.thn hQ6 ?_
 clear hQ6 Q6
 refine KC.seqH fun Q11 hQ11 => ?_
 refine KC.region ?_
 refine RL.val (O.move rfl) rfl ?_
 refine RL.val (O.assign rfl) rfl ?_
 refine RL.nil ?_
 refine KQ.thn hQ11 ?_
 clear hQ11 Q11
 refine KC.ret ?_
 have hE := Option.some.inj hF
 clear hF
 subst hE
 replace hM := hM.pick [] rfl (by decide)
 refine KQ.rets Try.results9 (RVs.cons (RV.tm rfl) RVs.nil) ?_
 exact ⟨_, rfl, rfl, hM⟩
set_option maxRecDepth 100000 in
set_option maxHeartbeats 40000000 in
theorem c_table_Table_Len_N (w : World) (r : Int) (hF : F_table_Table_Len_N = some r) :
  CallsR Try.prog 14 [.pointer none] w (fun v w' => v = Value.int .i64 r ∧ Mem w [] w' []) := by
 refine calls_KC Try.func14 rfl Try.ntmps14 rfl ?_
 have hM := Mem.init w
 unfold F_table_Table_Len_N at hF
 refine KC.seqH fun Q1 hQ1 => ?_
 refine KC.region ?_
 refine RL.val (O.assign rfl) rfl ?_
 refine RL.nil ?_
 refine KQ.thn hQ1 ?_
 clear hQ1 Q1
 refine KC.seqH fun Q2 hQ2 => ?_
 refine KC.seqH fun Q3 hQ3 => ?_
 refine KC.region ?_
 refine RL.val (O.move rfl) rfl ?_
 refine RL.val (O.peqn Try.underlying24 rfl rfl) rfl ?_
 refine RL.nil ?_
 refine KQ.thn hQ3 ?_
 clear hQ3 Q3
 refine KC.condT rfl ?_
 refine KC.seqH fun Q4 hQ4 => ?_
 refine KC.region ?_
 refine RL.val (O.assign rfl) rfl ?_
 refine RL.nil ?_
 refine KQ.thn hQ4 ?_
 clear hQ4 Q4
 refine KC.ret ?_
 refine KQ.thr hQ2 ?_
 clear hQ2 Q2
 have hE := Option.some.inj hF
 clear hF
 subst hE
 refine KQ.rets Try.results14 (RVs.cons (RV.tm rfl) RVs.nil) ?_
 exact ⟨_, rfl, rfl, hM⟩
set_option maxRecDepth 100000 in
set_option maxHeartbeats 40000000 in
theorem c_table_Table_Size_N (w : World) (r : Int) (hF : F_table_Table_Size_N = some r) :
  CallsR Try.prog 27 [.pointer none] w (fun v w' => v = Value.int .i64 r ∧ Mem w [] w' []) := by
 refine calls_KC Try.func27 rfl Try.ntmps27 rfl ?_
 have hM := Mem.init w
 unfold F_table_Table_Size_N at hF
 refine KC.seqH fun Q1 hQ1 => ?_
 refine KC.region ?_
 refine RL.val (O.assign rfl) rfl ?_
 refine RL.nil ?_
 refine KQ.thn hQ1 ?_
 clear hQ1 Q1
 refine KC.seqH fun Q2 hQ2 => ?_
 refine KC.seqH fun Q3 hQ3 => ?_
 refine KC.region ?_
 refine RL.val (O.move rfl) rfl ?_
 refine RL.val (O.peqn Try.underlying24 rfl rfl) rfl ?_
 refine RL.nil ?_
 refine KQ.thn hQ3 ?_
 clear hQ3 Q3
 refine KC.condT rfl ?_
 refine KC.seqH fun Q4 hQ4 => ?_
 refine KC.region ?_
 refine RL.val (O.assign rfl) rfl ?_
 refine RL.nil ?_
 refine KQ.thn hQ4 ?_
 clear hQ4 Q4
 refine KC.ret ?_
 refine KQ.thr hQ2 ?_
 clear hQ2 Q2
 have hE := Option.some.inj hF
 clear hF
 subst hE
 refine KQ.rets Try.results27 (RVs.cons (RV.tm rfl) RVs.nil) ?_
 exact ⟨_, rfl, rfl, hM⟩
set_option maxRecDepth 100000 in
set_option maxHeartbeats 40000000 in
theorem c_table_Table_Slots_N (w : World) (r : (List T_table_Slot)) (hF : F_table_Table_Slots_N = some r) :
  CallsR Try.prog 28 [.pointer none] w (fun v w' => ∃ (A0 : Option Addr) (c0 : Nat), v = .slice A0 (r).length c0 ∧ Mem w [] w' [.row A0 c0 74 39 r.length (r.flatMap e_table_Slot)]) := by
 refine calls_KC Try.func28 rfl Try.ntmps28 rfl ?_
 have hM := Mem.init w
 unfold F_table_Table_Slots_N at hF
 refine KC.seqH fun Q1 hQ1 => ?_
 refine KC.region ?_
 refine RL.val (O.assign rfl) rfl ?_
 refine RL.nil ?_
 refine KQ.thn hQ1 ?_
 clear hQ1 Q1
 refine KC.seqH fun Q2 hQ2 => ?_
 refine KC.seqH fun Q3 hQ3 => ?_
 refine KC.region ?_
 refine RL.val (O.move rfl) rfl ?_
 refine RL.val (O.peqn Try.underlying24 rfl rfl) rfl ?_
 refine RL.nil ?_
 refine KQ.thn hQ3 ?_
 clear hQ3 Q3
 refine KC.condT rfl ?_
 refine KC.seqH fun Q4 hQ4 => ?_
 refine KC.region ?_
 refine RL.val (O.assign rfl) rfl ?_
 refine RL.nil ?_
 refine KQ.thn hQ4 ?_
 clear hQ4 Q4
 refine KC.ret ?_
 refine KQ.thr hQ2 ?_
 clear hQ2 Q2
 have hE := Option.some.inj hF
 clear hF
 subst hE
 replace hM := hM.nilrow 74 39
 refine KQ.rets Try.results28 (RVs.cons (RV.tm rfl) RVs.nil) ?_
 exact ⟨_, rfl, none, 0, rfl, hM⟩
set_option maxRecDepth 100000 in
set_option maxHeartbeats 40000000 in
theorem c_table_Table_Keys_N (w : World) (r : (List T_packet_Key)) (hF : F_table_Table_Keys_N = some r) :
  CallsR Try.prog 29 [.pointer none] w (fun v w' => ∃ (A0 : Option Addr) (c0 : Nat), v = .slice A0 (r).length c0 ∧ Mem w [] w' [.row A0 c0 35 37 r.length (r.flatMap e_packet_Key)]) := by
 refine calls_KC Try.func29 rfl Try.ntmps29 rfl ?_
 have hM := Mem.init w
 unfold F_table_Table_Keys_N at hF
 refine KC.seqH fun Q1 hQ1 => ?_
 refine KC.region ?_
 refine RL.val (O.assign rfl) rfl ?_
 refine RL.nil ?_
 refine KQ.thn hQ1 ?_
 clear hQ1 Q1
 refine KC.seqH fun Q2 hQ2 => ?_
 refine KC.region ?_
 refine RL.val (O.move rfl) rfl ?_
 refine RL.val (O.mkf rfl rfl) rfl ?_
 refine RL.val (O.assign rfl) rfl ?_
 refine RL.nil ?_
 refine KQ.thn hQ2 ?_
 clear hQ2 Q2
 refine KC.seqH fun Q3 hQ3 => ?_
 refine KC.seqH fun Q4 hQ4 => ?_
 refine KC.region ?_
 refine RL.val (O.move rfl) rfl ?_
 refine obindE hF fun y5 hx6 hF => ?_
 refine RL.callv (first := [.pointer none]) (captured := []) rfl Try.func28 bd28 rfl rfl (c_table_Table_Slots_N _ _ hx6) fun v w7 hv => ?_
 obtain ⟨A9, c10, rfl, hN8⟩ := hv
 replace hM := hM.call hN8
 refine RL.val (O.len sl65 rfl) rfl ?_
 refine RL.val (O.move rfl) rfl ?_
 refine RL.nil ?_
 refine KQ.thn hQ4 ?_
 clear hQ4 Q4
 refine KC.block ?_
 refine KC.loop (fun k76 a w74 => ∃ (A69 : Option Addr) (c70 : Nat) (lv71 : List T_packet_Key) (t73 : Int), Kn 26 [(2, .slice A69 (lv71).length c70), (9, .slice A9 (y5).length c10), (10, Value.int .i64 (y5.length : Int)), (11, Value.int .i64 t73)] a ∧ Mem w [] w74 [.row A69 c70 35 37 (lv71).length ((lv71).flatMap e_packet_Key), .row A9 c10 74 39 (y5).length ((y5).flatMap e_table_Slot)] ∧ F_table_Table_Keys_N_L1 y5 k76 lv71 t73 = some r) ?_ ?_
 ·replace hM := hM.nilrow 35 37
  replace hM := hM.pick [1, 0] rfl (by decide)
  exact fun a ha => ⟨fuel0, none, 0, ([]), 0, ha.less (less_cons rfl (less_cons rfl (less_cons rfl (less_cons rfl less_nil)))), hM, hF⟩
 ·rintro k76 a w74 ⟨A69, c70, lv71, t73, ha, hM, hF⟩
  refine KC.app ha ?_
  clear ha
  cases k76 with
  | zero => exact (none_some hF).elim
  | succ k76 =>
  have hF : F_table_Table_Keys_N_l1 (F_table_Table_Keys_N_L1 y5 k76) y5 lv71 t73 = some r := hF
  unfold F_table_Table_Keys_N_l1 at hF
  refine KC.seqH fun Q77 hQ77 => ?_
  refine KC.region ?_
  refine RL.val (O.lss rfl rfl) rfl ?_
  refine RL.nil ?_
  refine KQ.thn hQ77 ?_
  clear hQ77 Q77
  refine KC.seqH fun Q78 hQ78 => ?_
  refine KC.cond rfl (fun hc => ?_) (fun hc => ?_)
  ·rw [if_pos hc] at hF
   refine KC.skip ?_
   refine KQ.thn hQ78 ?_
   clear hQ78 Q78
   refine KC.cut (fun a w101 => ∃ (A97 : Option Addr) (c98 : Nat) (lv99 : List T_packet_Key), Kn 26 [(2, .slice A97 (lv99).length c98), (9, .slice A9 (y5).length c10), (10, Value.int .i64 (y5.length : Int)), (11, Value.int .i64 t73)] a ∧ Mem w [] w101 [.row A97 c98 35 37 (lv99).length ((lv99).flatMap e_packet_Key), .row A9 c10 74 39 (y5).length ((y5).flatMap e_table_Slot)] ∧ F_table_Table_Keys_N_j1 t73 (F_table_Table_Keys_N_L1 y5 k76) lv99 = some r) ?_ ?_
   ·refine KC.block ?_
    refine KC.seqH fun Q79 hQ79 => ?_
    refine KC.region ?_
    refine obindE hF fun xv82 hx81 hF => ?_
    have hA80 := Rd.atN (f := e_table_Slot) (s := 39) (fun _ => rfl) (by decide) (hM.rd (i := 1) rfl) hx81
    refine RL.val (O.idxA sl65 (hA80) rfl rfl) rfl ?_
    refine RL.val (O.loadN (cs := [Value.bool xv82.f_Used, Value.bool xv82.f_Key.f_Src.f_Six, o8 xv82.f_Key.f_Src.f_B 0, o8 xv82.f_Key.f_Src.f_B 1, o8 xv82.f_Key.f_Src.f_B 2, o8 xv82.f_Key.f_Src.f_B 3, o8 xv82.f_Key.f_Src.f_B 4, o8 xv82.f_Key.f_Src.f_B 5, o8 xv82.f_Key.f_Src.f_B 6, o8 xv82.f_Key.f_Src.f_B 7, o8 xv82.f_Key.f_Src.f_B 8, o8 xv82.f_Key.f_Src.f_B 9, o8 xv82.f_Key.f_Src.f_B 10, o8 xv82.f_Key.f_Src.f_B 11, o8 xv82.f_Key.f_Src.f_B 12, o8 xv82.f_Key.f_Src.f_B 13, o8 xv82.f_Key.f_Src.f_B 14, o8 xv82.f_Key.f_Src.f_B 15, Value.bool xv82.f_Key.f_Dst.f_Six, o8 xv82.f_Key.f_Dst.f_B 0, o8 xv82.f_Key.f_Dst.f_B 1, o8 xv82.f_Key.f_Dst.f_B 2, o8 xv82.f_Key.f_Dst.f_B 3, o8 xv82.f_Key.f_Dst.f_B 4, o8 xv82.f_Key.f_Dst.f_B 5, o8 xv82.f_Key.f_Dst.f_B 6, o8 xv82.f_Key.f_Dst.f_B 7, o8 xv82.f_Key.f_Dst.f_B 8, o8 xv82.f_Key.f_Dst.f_B 9, o8 xv82.f_Key.f_Dst.f_B 10, o8 xv82.f_Key.f_Dst.f_B 11, o8 xv82.f_Key.f_Dst.f_B 12, o8 xv82.f_Key.f_Dst.f_B 13, o8 xv82.f_Key.f_Dst.f_B 14, o8 xv82.f_Key.f_Dst.f_B 15, Value.int .u8 xv82.f_Key.f_Proto, Value.int .u16 xv82.f_Key.f_SrcPort, Value.int .u16 xv82.f_Key.f_DstPort, Value.int .u64 xv82.f_N]) ag74 rfl (hA80).cells) rfl ?_
    refine RL.eff (E.alloc hM ze74) rfl fun v w84 hv => ?_
    clear hM
    obtain ⟨g83, rfl, hM, hf⟩ := hv
    refine RL.effs (E.stB (j := 2) (off := 0) (vs := [Value.bool xv82.f_Used, Value.bool xv82.f_Key.f_Src.f_Six, o8 xv82.f_Key.f_Src.f_B 0, o8 xv82.f_Key.f_Src.f_B 1, o8 xv82.f_Key.f_Src.f_B 2, o8 xv82.f_Key.f_Src.f_B 3, o8 xv82.f_Key.f_Src.f_B 4, o8 xv82.f_Key.f_Src.f_B 5, o8 xv82.f_Key.f_Src.f_B 6, o8 xv82.f_Key.f_Src.f_B 7, o8 xv82.f_Key.f_Src.f_B 8, o8 xv82.f_Key.f_Src.f_B 9, o8 xv82.f_Key.f_Src.f_B 10, o8 xv82.f_Key.f_Src.f_B 11, o8 xv82.f_Key.f_Src.f_B 12, o8 xv82.f_Key.f_Src.f_B 13, o8 xv82.f_Key.f_Src.f_B 14, o8 xv82.f_Key.f_Src.f_B 15, Value.bool xv82.f_Key.f_Dst.f_Six, o8 xv82.f_Key.f_Dst.f_B 0, o8 xv82.f_Key.f_Dst.f_B 1, o8 xv82.f_Key.f_Dst.f_B 2, o8 xv82.f_Key.f_Dst.f_B 3, o8 xv82.f_Key.f_Dst.f_B 4, o8 xv82.f_Key.f_Dst.f_B 5, o8 xv82.f_Key.f_Dst.f_B 6, o8 xv82.f_Key.f_Dst.f_B 7, o8 xv82.f_Key.f_Dst.f_B 8, o8 xv82.f_Key.f_Dst.f_B 9, o8 xv82.f_Key.f_Dst.f_B 10, o8 xv82.f_Key.f_Dst.f_B 11, o8 xv82.f_Key.f_Dst.f_B 12, o8 xv82.f_Key.f_Dst.f_B 13, o8 xv82.f_Key.f_Dst.f_B 14, o8 xv82.f_Key.f_Dst.f_B 15, Value.int .u8 xv82.f_Key.f_Proto, Value.int .u16 xv82.f_Key.f_SrcPort, Value.int .u16 xv82.f_Key.f_DstPort, Value.int .u64 xv82.f_N]) (cs' := [Value.bool xv82.f_Used, Value.bool xv82.f_Key.f_Src.f_Six, o8 xv82.f_Key.f_Src.f_B 0, o8 xv82.f_Key.f_Src.f_B 1, o8 xv82.f_Key.f_Src.f_B 2, o8 xv82.f_Key.f_Src.f_B 3, o8 xv82.f_Key.f_Src.f_B 4, o8 xv82.f_Key.f_Src.f_B 5, o8 xv82.f_Key.f_Src.f_B 6, o8 xv82.f_Key.f_Src.f_B 7, o8 xv82.f_Key.f_Src.f_B 8, o8 xv82.f_Key.f_Src.f_B 9, o8 xv82.f_Key.f_Src.f_B 10, o8 xv82.f_Key.f_Src.f_B 11, o8 xv82.f_Key.f_Src.f_B 12, o8 xv82.f_Key.f_Src.f_B 13, o8 xv82.f_Key.f_Src.f_B 14, o8 xv82.f_Key.f_Src.f_B 15, Value.bool xv82.f_Key.f_Dst.f_Six, o8 xv82.f_Key.f_Dst.f_B 0, o8 xv82.f_Key.f_Dst.f_B 1, o8 xv82.f_Key.f_Dst.f_B 2, o8 xv82.f_Key.f_Dst.f_B 3, o8 xv82.f_Key.f_Dst.f_B 4, o8 xv82.f_Key.f_Dst.f_B 5, o8 xv82.f_Key.f_Dst.f_B 6, o8 xv82.f_Key.f_Dst.f_B 7, o8 xv82.f_Key.f_Dst.f_B 8, o8 xv82.f_Key.f_Dst.f_B 9, o8 xv82.f_Key.f_Dst.f_B 10, o8 xv82.f_Key.f_Dst.f_B 11, o8 xv82.f_Key.f_Dst.f_B 12, o8 xv82.f_Key.f_Dst.f_B 13, o8 xv82.f_Key.f_Dst.f_B 14, o8 xv82.f_Key.f_Dst.f_B 15, Value.int .u8 xv82.f_Key.f_Proto, Value.int .u16 xv82.f_Key.f_SrcPort, Value.int .u16 xv82.f_Key.f_DstPort, Value.int .u64 xv82.f_N]) hM rfl sz74 rfl (adds_eq [] rfl) rfl rfl (One.all rfl) rfl rfl) fun w86 hM1 => ?_
    clear hM
    have hM := hM1
    clear hM1
    refine RL.nil ?_
    refine KQ.thn hQ79 ?_
    clear hQ79 Q79
    refine KC.seqH fun Q87 hQ87 => ?_
    refine KC.region ?_
    refine RL.val (O.fldA fl74_0 (by decide) rfl) rfl ?_
    refine RL.val (O.load sc4 rfl (Cs.adds [0] ((hM.bx (i := 2) rfl)) rfl)) rfl ?_
    refine RL.nil ?_
    refine KQ.thn hQ87 ?_
    clear hQ87 Q87
    refine KC.cond rfl (fun hc => ?_) (fun hc => ?_)
    ·rw [if_pos hc] at hF
     refine KC.region ?_
     refine RL.val (O.move rfl) rfl ?_
     refine RL.val (O.fldA fl74_1 (by decide) rfl) rfl ?_
     refine RL.val (O.loadN (cs := [Value.bool xv82.f_Key.f_Src.f_Six, o8 xv82.f_Key.f_Src.f_B 0, o8 xv82.f_Key.f_Src.f_B 1, o8 xv82.f_Key.f_Src.f_B 2, o8 xv82.f_Key.f_Src.f_B 3, o8 xv82.f_Key.f_Src.f_B 4, o8 xv82.f_Key.f_Src.f_B 5, o8 xv82.f_Key.f_Src.f_B 6, o8 xv82.f_Key.f_Src.f_B 7, o8 xv82.f_Key.f_Src.f_B 8, o8 xv82.f_Key.f_Src.f_B 9, o8 xv82.f_Key.f_Src.f_B 10, o8 xv82.f_Key.f_Src.f_B 11, o8 xv82.f_Key.f_Src.f_B 12, o8 xv82.f_Key.f_Src.f_B 13, o8 xv82.f_Key.f_Src.f_B 14, o8 xv82.f_Key.f_Src.f_B 15, Value.bool xv82.f_Key.f_Dst.f_Six, o8 xv82.f_Key.f_Dst.f_B 0, o8 xv82.f_Key.f_Dst.f_B 1, o8 xv82.f_Key.f_Dst.f_B 2, o8 xv82.f_Key.f_Dst.f_B 3, o8 xv82.f_Key.f_Dst.f_B 4, o8 xv82.f_Key.f_Dst.f_B 5, o8 xv82.f_Key.f_Dst.f_B 6, o8 xv82.f_Key.f_Dst.f_B 7, o8 xv82.f_Key.f_Dst.f_B 8, o8 xv82.f_Key.f_Dst.f_B 9, o8 xv82.f_Key.f_Dst.f_B 10, o8 xv82.f_Key.f_Dst.f_B 11, o8 xv82.f_Key.f_Dst.f_B 12, o8 xv82.f_Key.f_Dst.f_B 13, o8 xv82.f_Key.f_Dst.f_B 14, o8 xv82.f_Key.f_Dst.f_B 15, Value.int .u8 xv82.f_Key.f_Proto, Value.int .u16 xv82.f_Key.f_SrcPort, Value.int .u16 xv82.f_Key.f_DstPort]) ag35 rfl (Cs.addsN [1] ((hM.bx (i := 2) rfl)) rfl)) rfl ?_
     refine RL.eff (E.bsl (enc := e_packet_Key) (xs := ([xv82.f_Key] : List T_packet_Key)) hM sl28 ze35 rfl rfl rfl (fun _ => rfl) rfl (by kernel_rfl) rfl) rfl fun v w88 hv => ?_
     clear hM
     obtain ⟨A89, rfl, hM, hf⟩ := hv
     refine cut_someE hF fun hq94 hF => ?_
     refine RL.eff (E.app (enc := e_packet_Key) (xs := lv71) (ys := ([xv82.f_Key] : List T_packet_Key)) (j := 0) hM rfl sl28 ze35 rfl rfl rfl rfl rfl (hM.rd (i := 3) rfl) (fun _ => One.all rfl) (of_decide_eq_true hq94)) rfl fun v w93 hv => ?_
     clear hM
     obtain ⟨A91, c92, rfl, hM, hf⟩ := hv
     refine RL.val (O.assign rfl) rfl ?_
     refine RL.nil ?_
     refine KQ.blk_n ?_
     refine KQ.then_k ?_
     replace hM := hM.pick [0, 1] rfl (by decide)
     exact fun a ha => ⟨A91, c92, (lv71 ++ ([xv82.f_Key] : List T_packet_Key)), ha.less (less_cons rfl (less_cons rfl (less_cons rfl (less_cons rfl less_nil)))), hM, hF⟩
    ·rw [if_neg (ne_true hc)] at hF
     refine KC.skip ?_
     refine KQ.blk_n ?_
     refine KQ.then_k ?_
     replace hM := hM.pick [0, 1] rfl (by decide)
     exact fun a ha => ⟨A69, c70, lv71, ha.less (less_cons rfl (less_cons rfl (less_cons rfl (less_cons rfl less_nil)))), hM, hF⟩
   ·rintro a w101 ⟨A97, c98, lv99, ha, hM, hF⟩
    refine KC.app ha ?_
    clear ha
    unfold F_table_Table_Keys_N_j1 at hF
    refine KC.region ?_
    refine RL.val (O.add rfl rfl) rfl ?_
    refine RL.val (O.move rfl) rfl ?_
    refine RL.nil ?_
    refine KQ.then_k ?_
    exact fun a ha => ⟨k76, Nat.lt_succ_self k76, A97, c98, lv99, (IntKind.i64.wrap (t73 + 1)), ha.less (less_cons rfl (less_cons rfl (less_cons rfl (less_cons rfl less_nil)))), hM, hF⟩
  ·rw [if_neg (ne_true hc)] at hF
   refine KC.exit ?_
   refine KQ.thx hQ78 ?_
   clear hQ78 Q78
   refine KQ.then_x ?_
   refine KQ.blk_x ?_
   refine KQ.thn hQ3 ?_
   clear hQ3 Q3
   refine KC.seqH fun Q102 hQ102 => ?_
   refine KC.region ?_
   refine RL.val (O.move rfl) rfl ?_
   refine obindE hF fun y103 hx104 hF => ?_
   refine RL.call Try.func44 bd44 rfl rfl (c_slices_SortFunc_packet_Key_packet_Key_packet_Cmp _ _ _ lv71 (hM.lent [0] rfl (by decide)) _ hx104) fun v w105 hv => ?_
   obtain ⟨rfl, hw107, hN106⟩ := hv
   replace hM := hM.callL [0] [1] rfl rfl (by decide) rfl hN106
   refine RL.reslot (t := 2) rfl hw107 ?_
   refine RL.reslot (t := 23) rfl hw107 ?_
   refine RL.nil ?_
   refine KQ.thn hQ102 ?_
   clear hQ102 Q102
   refine KC.seqH fun Q108 hQ108 => ?_
   refine KC.region ?_
   refine RL.val (O.move rfl) rfl ?_
   refine RL.val (O.assign rfl) rfl ?_
   refine RL.nil ?_
   refine KQ.thn hQ108 ?_
   clear hQ108 Q108
   refine KC.ret ?_
   have hE := Option.some.inj hF
   clear hF
   subst hE
   replace hM := hM.pick [1] rfl (by decide)
   refine KQ.rets Try.results29 (RVs.cons (RV.tm rfl) RVs.nil) ?_
   exact ⟨_, rfl, A69, c70, rfl, hM⟩
end Go.Proofs.Ytnbakndfnjflhaa
