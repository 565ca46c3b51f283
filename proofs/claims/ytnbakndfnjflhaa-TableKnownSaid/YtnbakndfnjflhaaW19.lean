/- Printed by a program of this claim: each call returns what the plain function of its name gives. -/
import Derived.Test.YtnbakndfnjflhaaW1
import Derived.Test.YtnbakndfnjflhaaW5
import Derived.Test.YtnbakndfnjflhaaW15
import Derived.Test.YtnbakndfnjflhaaW17
set_option linter.unusedVariables false
namespace Go.Proofs.Ytnbakndfnjflhaa
open Go Go.Ox Go.RowKit
set_option maxRecDepth 100000 in
set_option maxHeartbeats 40000000 in
theorem c_ref23_Put (w : World) (A2 : Option Addr) (c3 : Nat) (Z4 : List Nat) (t1 : List T_ref23_Slot) (hL8 : Lent w [.res Z4 (RdP A2 c3 39 (t1).length ((t1).flatMap e_ref23_Slot))]) (kv6 : T_ref08_Key) (nv7 : Int) (r : (List T_ref23_Slot) × Int) (hF : F_ref23_Put t1 kv6 nv7 = some r) :
  CallsR Try.prog 21 [.slice A2 (t1).length c3, .agg #[Value.bool kv6.f_Src.f_Six, o8 kv6.f_Src.f_B 0, o8 kv6.f_Src.f_B 1, o8 kv6.f_Src.f_B 2, o8 kv6.f_Src.f_B 3, o8 kv6.f_Src.f_B 4, o8 kv6.f_Src.f_B 5, o8 kv6.f_Src.f_B 6, o8 kv6.f_Src.f_B 7, o8 kv6.f_Src.f_B 8, o8 kv6.f_Src.f_B 9, o8 kv6.f_Src.f_B 10, o8 kv6.f_Src.f_B 11, o8 kv6.f_Src.f_B 12, o8 kv6.f_Src.f_B 13, o8 kv6.f_Src.f_B 14, o8 kv6.f_Src.f_B 15, Value.bool kv6.f_Dst.f_Six, o8 kv6.f_Dst.f_B 0, o8 kv6.f_Dst.f_B 1, o8 kv6.f_Dst.f_B 2, o8 kv6.f_Dst.f_B 3, o8 kv6.f_Dst.f_B 4, o8 kv6.f_Dst.f_B 5, o8 kv6.f_Dst.f_B 6, o8 kv6.f_Dst.f_B 7, o8 kv6.f_Dst.f_B 8, o8 kv6.f_Dst.f_B 9, o8 kv6.f_Dst.f_B 10, o8 kv6.f_Dst.f_B 11, o8 kv6.f_Dst.f_B 12, o8 kv6.f_Dst.f_B 13, o8 kv6.f_Dst.f_B 14, o8 kv6.f_Dst.f_B 15, Value.int .u8 kv6.f_Proto, Value.int .u16 kv6.f_SrcPort, Value.int .u16 kv6.f_DstPort], Value.int .u64 nv7] w (fun v w' => ∃ (A0 : Option Addr) (c0 : Nat) (Z0 : List Nat), v = .tuple #[.slice A0 (r.1).length c0, Value.int .i64 r.2] ∧ Mem w (Z4.map some ++ []) w' [.res Z0 (RdP A0 c0 39 (r.1).length ((r.1).flatMap e_ref23_Slot))]) := by
 refine calls_KC Try.func21 rfl Try.ntmps21 rfl ?_
 have hM : Mem w (Z4.map some ++ []) w [.res Z4 (RdP A2 c3 39 (t1).length ((t1).flatMap e_ref23_Slot))] := Mem.lendN hL8
 unfold F_ref23_Put at hF
 refine KC.seqH fun Q9 hQ9 => ?_
 refine KC.region ?_
 refine RL.eff (E.box (vs := [Value.bool kv6.f_Src.f_Six, o8 kv6.f_Src.f_B 0, o8 kv6.f_Src.f_B 1, o8 kv6.f_Src.f_B 2, o8 kv6.f_Src.f_B 3, o8 kv6.f_Src.f_B 4, o8 kv6.f_Src.f_B 5, o8 kv6.f_Src.f_B 6, o8 kv6.f_Src.f_B 7, o8 kv6.f_Src.f_B 8, o8 kv6.f_Src.f_B 9, o8 kv6.f_Src.f_B 10, o8 kv6.f_Src.f_B 11, o8 kv6.f_Src.f_B 12, o8 kv6.f_Src.f_B 13, o8 kv6.f_Src.f_B 14, o8 kv6.f_Src.f_B 15, Value.bool kv6.f_Dst.f_Six, o8 kv6.f_Dst.f_B 0, o8 kv6.f_Dst.f_B 1, o8 kv6.f_Dst.f_B 2, o8 kv6.f_Dst.f_B 3, o8 kv6.f_Dst.f_B 4, o8 kv6.f_Dst.f_B 5, o8 kv6.f_Dst.f_B 6, o8 kv6.f_Dst.f_B 7, o8 kv6.f_Dst.f_B 8, o8 kv6.f_Dst.f_B 9, o8 kv6.f_Dst.f_B 10, o8 kv6.f_Dst.f_B 11, o8 kv6.f_Dst.f_B 12, o8 kv6.f_Dst.f_B 13, o8 kv6.f_Dst.f_B 14, o8 kv6.f_Dst.f_B 15, Value.int .u8 kv6.f_Proto, Value.int .u16 kv6.f_SrcPort, Value.int .u16 kv6.f_DstPort]) hM rfl rfl) rfl fun v w11 hv => ?_
 clear hM
 obtain ⟨g10, rfl, hM, hf⟩ := hv
 refine RL.val (O.assign rfl) rfl ?_
 refine RL.val (O.assign rfl) rfl ?_
 refine RL.nil ?_
 refine KQ.thn hQ9 ?_
 clear hQ9 Q9
 refine KC.seqH fun Q13 hQ13 => ?_
 refine KC.seqH fun Q14 hQ14 => ?_
 refine KC.region ?_
 refine RL.val (O.loadN (cs := [Value.bool kv6.f_Src.f_Six, o8 kv6.f_Src.f_B 0, o8 kv6.f_Src.f_B 1, o8 kv6.f_Src.f_B 2, o8 kv6.f_Src.f_B 3, o8 kv6.f_Src.f_B 4, o8 kv6.f_Src.f_B 5, o8 kv6.f_Src.f_B 6, o8 kv6.f_Src.f_B 7, o8 kv6.f_Src.f_B 8, o8 kv6.f_Src.f_B 9, o8 kv6.f_Src.f_B 10, o8 kv6.f_Src.f_B 11, o8 kv6.f_Src.f_B 12, o8 kv6.f_Src.f_B 13, o8 kv6.f_Src.f_B 14, o8 kv6.f_Src.f_B 15, Value.bool kv6.f_Dst.f_Six, o8 kv6.f_Dst.f_B 0, o8 kv6.f_Dst.f_B 1, o8 kv6.f_Dst.f_B 2, o8 kv6.f_Dst.f_B 3, o8 kv6.f_Dst.f_B 4, o8 kv6.f_Dst.f_B 5, o8 kv6.f_Dst.f_B 6, o8 kv6.f_Dst.f_B 7, o8 kv6.f_Dst.f_B 8, o8 kv6.f_Dst.f_B 9, o8 kv6.f_Dst.f_B 10, o8 kv6.f_Dst.f_B 11, o8 kv6.f_Dst.f_B 12, o8 kv6.f_Dst.f_B 13, o8 kv6.f_Dst.f_B 14, o8 kv6.f_Dst.f_B 15, Value.int .u8 kv6.f_Proto, Value.int .u16 kv6.f_SrcPort, Value.int .u16 kv6.f_DstPort]) ag54 rfl (Cs.addsN [] ((hM.bx (i := 1) rfl)) rfl)) rfl ?_
 refine obindE hF fun y15 hx16 hF => ?_
 refine RL.call Try.func38 bd38 rfl rfl (c_ref08_Right _ kv6 _ hx16) fun v w17 hv => ?_
 obtain ⟨rfl, hN18⟩ := hv
 replace hM := hM.call0 hN18
 refine RL.val (O.not rfl) rfl ?_
 refine RL.nil ?_
 refine KQ.thn hQ14 ?_
 clear hQ14 Q14
 refine KC.cond rfl (fun hc => ?_) (fun hc => ?_)
 ·rw [if_pos hc] at hF
  refine KC.seqH fun Q19 hQ19 => ?_
  refine KC.region ?_
  refine RL.val (O.move rfl) rfl ?_
  refine RL.val (O.assign rfl) rfl ?_
  refine RL.val (O.assign rfl) rfl ?_
  refine RL.nil ?_
  refine KQ.thn hQ19 ?_
  clear hQ19 Q19
  refine KC.ret ?_
  refine KQ.thr hQ13 ?_
  clear hQ13 Q13
  have hE := Option.some.inj hF
  clear hF
  subst hE
  replace hM := hM.pick [0] rfl (by decide)
  refine KQ.rets Try.results21 (RVs.cons (RV.tm rfl) (RVs.cons (RV.tm rfl) RVs.nil)) ?_
  exact ⟨_, rfl, A2, c3, Z4, rfl, hM⟩
 ·rw [if_neg (ne_true hc)] at hF
  refine KC.skip ?_
  refine KQ.thn hQ13 ?_
  clear hQ13 Q13
  refine KC.seqH fun Q20 hQ20 => ?_
  refine KC.region ?_
  refine RL.val (O.move rfl) rfl ?_
  refine RL.val (O.loadN (cs := [Value.bool kv6.f_Src.f_Six, o8 kv6.f_Src.f_B 0, o8 kv6.f_Src.f_B 1, o8 kv6.f_Src.f_B 2, o8 kv6.f_Src.f_B 3, o8 kv6.f_Src.f_B 4, o8 kv6.f_Src.f_B 5, o8 kv6.f_Src.f_B 6, o8 kv6.f_Src.f_B 7, o8 kv6.f_Src.f_B 8, o8 kv6.f_Src.f_B 9, o8 kv6.f_Src.f_B 10, o8 kv6.f_Src.f_B 11, o8 kv6.f_Src.f_B 12, o8 kv6.f_Src.f_B 13, o8 kv6.f_Src.f_B 14, o8 kv6.f_Src.f_B 15, Value.bool kv6.f_Dst.f_Six, o8 kv6.f_Dst.f_B 0, o8 kv6.f_Dst.f_B 1, o8 kv6.f_Dst.f_B 2, o8 kv6.f_Dst.f_B 3, o8 kv6.f_Dst.f_B 4, o8 kv6.f_Dst.f_B 5, o8 kv6.f_Dst.f_B 6, o8 kv6.f_Dst.f_B 7, o8 kv6.f_Dst.f_B 8, o8 kv6.f_Dst.f_B 9, o8 kv6.f_Dst.f_B 10, o8 kv6.f_Dst.f_B 11, o8 kv6.f_Dst.f_B 12, o8 kv6.f_Dst.f_B 13, o8 kv6.f_Dst.f_B 14, o8 kv6.f_Dst.f_B 15, Value.int .u8 kv6.f_Proto, Value.int .u16 kv6.f_SrcPort, Value.int .u16 kv6.f_DstPort]) ag54 rfl (Cs.addsN [] ((hM.bx (i := 1) rfl)) rfl)) rfl ?_
  refine obindE hF fun y21 hx22 hF => ?_
  refine RL.call Try.func23 bd23 rfl rfl (c_ref23_Find _ _ _ t1 (hM.rdP (i := 0) rfl) kv6 _ hx22) fun v w23 hv => ?_
  obtain ⟨rfl, hN24⟩ := hv
  replace hM := hM.call0 hN24
  refine RL.val (O.move rfl) rfl ?_
  refine RL.val (O.ext rfl rfl) rfl ?_
  refine RL.val (O.ext rfl rfl) rfl ?_
  refine RL.val (O.assign rfl) rfl ?_
  refine RL.val (O.assign rfl) rfl ?_
  refine RL.nil ?_
  refine KQ.thn hQ20 ?_
  clear hQ20 Q20
  refine KC.seqH fun Q25 hQ25 => ?_
  refine KC.seqH fun Q26 hQ26 => ?_
  refine KC.region ?_
  refine RL.val (O.move rfl) rfl ?_
  refine RL.val (O.lss rfl rfl) rfl ?_
  refine RL.nil ?_
  refine KQ.thn hQ26 ?_
  clear hQ26 Q26
  refine KC.cond rfl (fun hc => ?_) (fun hc => ?_)
  ·rw [if_pos hc] at hF
   refine KC.seqH fun Q27 hQ27 => ?_
   refine KC.region ?_
   refine RL.val (O.move rfl) rfl ?_
   refine RL.val (O.assign rfl) rfl ?_
   refine RL.val (O.assign rfl) rfl ?_
   refine RL.nil ?_
   refine KQ.thn hQ27 ?_
   clear hQ27 Q27
   refine KC.ret ?_
   refine KQ.thr hQ25 ?_
   clear hQ25 Q25
   have hE := Option.some.inj hF
   clear hF
   subst hE
   replace hM := hM.pick [0] rfl (by decide)
   refine KQ.rets Try.results21 (RVs.cons (RV.tm rfl) (RVs.cons (RV.tm rfl) RVs.nil)) ?_
   exact ⟨_, rfl, A2, c3, Z4, rfl, hM⟩
  ·rw [if_neg (ne_true hc)] at hF
   refine KC.skip ?_
   refine KQ.thn hQ25 ?_
   clear hQ25 Q25
   refine KC.seqH fun Q28 hQ28 => ?_
   refine KC.region ?_
   refine RL.val (O.move rfl) rfl ?_
   refine RL.val (O.move rfl) rfl ?_
   refine RL.val (O.loadN (cs := [Value.bool kv6.f_Src.f_Six, o8 kv6.f_Src.f_B 0, o8 kv6.f_Src.f_B 1, o8 kv6.f_Src.f_B 2, o8 kv6.f_Src.f_B 3, o8 kv6.f_Src.f_B 4, o8 kv6.f_Src.f_B 5, o8 kv6.f_Src.f_B 6, o8 kv6.f_Src.f_B 7, o8 kv6.f_Src.f_B 8, o8 kv6.f_Src.f_B 9, o8 kv6.f_Src.f_B 10, o8 kv6.f_Src.f_B 11, o8 kv6.f_Src.f_B 12, o8 kv6.f_Src.f_B 13, o8 kv6.f_Src.f_B 14, o8 kv6.f_Src.f_B 15, Value.bool kv6.f_Dst.f_Six, o8 kv6.f_Dst.f_B 0, o8 kv6.f_Dst.f_B 1, o8 kv6.f_Dst.f_B 2, o8 kv6.f_Dst.f_B 3, o8 kv6.f_Dst.f_B 4, o8 kv6.f_Dst.f_B 5, o8 kv6.f_Dst.f_B 6, o8 kv6.f_Dst.f_B 7, o8 kv6.f_Dst.f_B 8, o8 kv6.f_Dst.f_B 9, o8 kv6.f_Dst.f_B 10, o8 kv6.f_Dst.f_B 11, o8 kv6.f_Dst.f_B 12, o8 kv6.f_Dst.f_B 13, o8 kv6.f_Dst.f_B 14, o8 kv6.f_Dst.f_B 15, Value.int .u8 kv6.f_Proto, Value.int .u16 kv6.f_SrcPort, Value.int .u16 kv6.f_DstPort]) ag54 rfl (Cs.addsN [] ((hM.bx (i := 1) rfl)) rfl)) rfl ?_
   refine RL.val (O.move rfl) rfl ?_
   refine RL.val (O.bld (cs := [Value.bool true, Value.bool kv6.f_Src.f_Six, o8 kv6.f_Src.f_B 0, o8 kv6.f_Src.f_B 1, o8 kv6.f_Src.f_B 2, o8 kv6.f_Src.f_B 3, o8 kv6.f_Src.f_B 4, o8 kv6.f_Src.f_B 5, o8 kv6.f_Src.f_B 6, o8 kv6.f_Src.f_B 7, o8 kv6.f_Src.f_B 8, o8 kv6.f_Src.f_B 9, o8 kv6.f_Src.f_B 10, o8 kv6.f_Src.f_B 11, o8 kv6.f_Src.f_B 12, o8 kv6.f_Src.f_B 13, o8 kv6.f_Src.f_B 14, o8 kv6.f_Src.f_B 15, Value.bool kv6.f_Dst.f_Six, o8 kv6.f_Dst.f_B 0, o8 kv6.f_Dst.f_B 1, o8 kv6.f_Dst.f_B 2, o8 kv6.f_Dst.f_B 3, o8 kv6.f_Dst.f_B 4, o8 kv6.f_Dst.f_B 5, o8 kv6.f_Dst.f_B 6, o8 kv6.f_Dst.f_B 7, o8 kv6.f_Dst.f_B 8, o8 kv6.f_Dst.f_B 9, o8 kv6.f_Dst.f_B 10, o8 kv6.f_Dst.f_B 11, o8 kv6.f_Dst.f_B 12, o8 kv6.f_Dst.f_B 13, o8 kv6.f_Dst.f_B 14, o8 kv6.f_Dst.f_B 15, Value.int .u8 kv6.f_Proto, Value.int .u16 kv6.f_SrcPort, Value.int .u16 kv6.f_DstPort, Value.int .u64 nv7]) bt78 rfl (by kernel_rfl)) rfl ?_
   refine obindE hF fun y29 hx30 hF => ?_
   refine RL.call Try.func37 bd37 rfl rfl (c_ref23_with _ _ _ t1 (hM.rdP (i := 0) rfl) y21.1 (T_ref23_Slot.mk true kv6 nv7) _ hx30) fun v w31 hv => ?_
   obtain ⟨A33, c34, rfl, hN32⟩ := hv
   replace hM := hM.call hN32
   refine RL.val (O.assign rfl) rfl ?_
   refine RL.val (O.assign rfl) rfl ?_
   refine RL.nil ?_
   refine KQ.thn hQ28 ?_
   clear hQ28 Q28
   refine KC.ret ?_
   have hE := Option.some.inj hF
   clear hF
   subst hE
   obtain ⟨Z36, hM⟩ := hM.toRo (i := 2) rfl [0, 1] rfl (by decide) (by decide)
   replace hM := hM.pick [2] rfl (by decide)
   refine KQ.rets Try.results21 (RVs.cons (RV.tm rfl) (RVs.cons (RV.tm rfl) RVs.nil)) ?_
   exact ⟨_, rfl, A33, c34, Z36, rfl, hM⟩
set_option maxRecDepth 100000 in
set_option maxHeartbeats 40000000 in
theorem c_ref23_Get (w : World) (A2 : Option Addr) (c3 : Nat) (t1 : List T_ref23_Slot) (hr4 : Rd w A2 c3 39 t1.length (t1.flatMap e_ref23_Slot)) (kv5 : T_ref08_Key) (r : Int × Bool) (hF : F_ref23_Get t1 kv5 = some r) :
  CallsR Try.prog 22 [.slice A2 (t1).length c3, .agg #[Value.bool kv5.f_Src.f_Six, o8 kv5.f_Src.f_B 0, o8 kv5.f_Src.f_B 1, o8 kv5.f_Src.f_B 2, o8 kv5.f_Src.f_B 3, o8 kv5.f_Src.f_B 4, o8 kv5.f_Src.f_B 5, o8 kv5.f_Src.f_B 6, o8 kv5.f_Src.f_B 7, o8 kv5.f_Src.f_B 8, o8 kv5.f_Src.f_B 9, o8 kv5.f_Src.f_B 10, o8 kv5.f_Src.f_B 11, o8 kv5.f_Src.f_B 12, o8 kv5.f_Src.f_B 13, o8 kv5.f_Src.f_B 14, o8 kv5.f_Src.f_B 15, Value.bool kv5.f_Dst.f_Six, o8 kv5.f_Dst.f_B 0, o8 kv5.f_Dst.f_B 1, o8 kv5.f_Dst.f_B 2, o8 kv5.f_Dst.f_B 3, o8 kv5.f_Dst.f_B 4, o8 kv5.f_Dst.f_B 5, o8 kv5.f_Dst.f_B 6, o8 kv5.f_Dst.f_B 7, o8 kv5.f_Dst.f_B 8, o8 kv5.f_Dst.f_B 9, o8 kv5.f_Dst.f_B 10, o8 kv5.f_Dst.f_B 11, o8 kv5.f_Dst.f_B 12, o8 kv5.f_Dst.f_B 13, o8 kv5.f_Dst.f_B 14, o8 kv5.f_Dst.f_B 15, Value.int .u8 kv5.f_Proto, Value.int .u16 kv5.f_SrcPort, Value.int .u16 kv5.f_DstPort]] w (fun v w' => v = .tuple #[Value.int .u64 r.1, Value.bool r.2] ∧ Mem w [] w' []) := by
 refine calls_KC Try.func22 rfl Try.ntmps22 rfl ?_
 have hM := Mem.init w
 unfold F_ref23_Get at hF
 refine KC.seqH fun Q6 hQ6 => ?_
 refine KC.region ?_
 refine RL.eff (E.box (vs := [Value.bool kv5.f_Src.f_Six, o8 kv5.f_Src.f_B 0, o8 kv5.f_Src.f_B 1, o8 kv5.f_Src.f_B 2, o8 kv5.f_Src.f_B 3, o8 kv5.f_Src.f_B 4, o8 kv5.f_Src.f_B 5, o8 kv5.f_Src.f_B 6, o8 kv5.f_Src.f_B 7, o8 kv5.f_Src.f_B 8, o8 kv5.f_Src.f_B 9, o8 kv5.f_Src.f_B 10, o8 kv5.f_Src.f_B 11, o8 kv5.f_Src.f_B 12, o8 kv5.f_Src.f_B 13, o8 kv5.f_Src.f_B 14, o8 kv5.f_Src.f_B 15, Value.bool kv5.f_Dst.f_Six, o8 kv5.f_Dst.f_B 0, o8 kv5.f_Dst.f_B 1, o8 kv5.f_Dst.f_B 2, o8 kv5.f_Dst.f_B 3, o8 kv5.f_Dst.f_B 4, o8 kv5.f_Dst.f_B 5, o8 kv5.f_Dst.f_B 6, o8 kv5.f_Dst.f_B 7, o8 kv5.f_Dst.f_B 8, o8 kv5.f_Dst.f_B 9, o8 kv5.f_Dst.f_B 10, o8 kv5.f_Dst.f_B 11, o8 kv5.f_Dst.f_B 12, o8 kv5.f_Dst.f_B 13, o8 kv5.f_Dst.f_B 14, o8 kv5.f_Dst.f_B 15, Value.int .u8 kv5.f_Proto, Value.int .u16 kv5.f_SrcPort, Value.int .u16 kv5.f_DstPort]) hM rfl rfl) rfl fun v w8 hv => ?_
 clear hM
 obtain ⟨g7, rfl, hM, hf⟩ := hv
 refine RL.val (O.assign rfl) rfl ?_
 refine RL.val (O.assign rfl) rfl ?_
 refine RL.nil ?_
 refine KQ.thn hQ6 ?_
 clear hQ6 Q6
 refine KC.seqH fun Q10 hQ10 => ?_
 refine KC.region ?_
 refine RL.val (O.move rfl) rfl ?_
 refine RL.val (O.loadN (cs := [Value.bool kv5.f_Src.f_Six, o8 kv5.f_Src.f_B 0, o8 kv5.f_Src.f_B 1, o8 kv5.f_Src.f_B 2, o8 kv5.f_Src.f_B 3, o8 kv5.f_Src.f_B 4, o8 kv5.f_Src.f_B 5, o8 kv5.f_Src.f_B 6, o8 kv5.f_Src.f_B 7, o8 kv5.f_Src.f_B 8, o8 kv5.f_Src.f_B 9, o8 kv5.f_Src.f_B 10, o8 kv5.f_Src.f_B 11, o8 kv5.f_Src.f_B 12, o8 kv5.f_Src.f_B 13, o8 kv5.f_Src.f_B 14, o8 kv5.f_Src.f_B 15, Value.bool kv5.f_Dst.f_Six, o8 kv5.f_Dst.f_B 0, o8 kv5.f_Dst.f_B 1, o8 kv5.f_Dst.f_B 2, o8 kv5.f_Dst.f_B 3, o8 kv5.f_Dst.f_B 4, o8 kv5.f_Dst.f_B 5, o8 kv5.f_Dst.f_B 6, o8 kv5.f_Dst.f_B 7, o8 kv5.f_Dst.f_B 8, o8 kv5.f_Dst.f_B 9, o8 kv5.f_Dst.f_B 10, o8 kv5.f_Dst.f_B 11, o8 kv5.f_Dst.f_B 12, o8 kv5.f_Dst.f_B 13, o8 kv5.f_Dst.f_B 14, o8 kv5.f_Dst.f_B 15, Value.int .u8 kv5.f_Proto, Value.int .u16 kv5.f_SrcPort, Value.int .u16 kv5.f_DstPort]) ag54 rfl (Cs.addsN [] ((hM.bx (i := 0) rfl)) rfl)) rfl ?_
 refine obindE hF fun y11 hx12 hF => ?_
 refine RL.call Try.func23 bd23 rfl rfl (c_ref23_Find _ _ _ t1 (hM.inp hr4 Off.nil) kv5 _ hx12) fun v w13 hv => ?_
 obtain ⟨rfl, hN14⟩ := hv
 replace hM := hM.call0 hN14
 refine RL.val (O.move rfl) rfl ?_
 refine RL.val (O.ext rfl rfl) rfl ?_
 refine RL.val (O.ext rfl rfl) rfl ?_
 refine RL.val (O.assign rfl) rfl ?_
 refine RL.val (O.assign rfl) rfl ?_
 refine RL.nil ?_
 refine KQ.thn hQ10 ?_
 clear hQ10 Q10
 refine KC.seqH fun Q15 hQ15 => ?_
 refine KC.cut (fun a w20 => ∃ (t19 : Bool), Kn 29 [(0, .slice A2 (t1).length c3), (6, Value.int .i64 y11.1), (23, Value.bool t19)] a ∧ Mem w [] w20 [] ∧ F_ref23_Get_j1 t1 y11 t19 = some r) ?_ ?_
 ·refine KC.region ?_
  refine RL.val (O.move rfl) rfl ?_
  refine RL.val (O.lss rfl rfl) rfl ?_
  refine RL.val (O.move rfl) rfl ?_
  refine RL.bcase (t := 16) rfl (fun hc => ?_) (fun hc => ?_)
  ·rw [if_pos hc] at hF
   refine RL.brun1 7 23 true (by kernel_rfl) ?_
   refine RL.nil ?_
   refine KQ.then_k ?_
   replace hM := hM.pick [] rfl (by decide)
   exact fun a ha => ⟨true, ha.less (less_cons rfl (less_cons rfl (less_cons rfl less_nil))), hM, hF⟩
  ·rw [if_neg (ne_true hc)] at hF
   refine RL.gval rfl rfl (O.move rfl) rfl ?_
   refine RL.gval rfl rfl (O.move rfl) rfl ?_
   refine obindE hF fun xv18 hx17 hF => ?_
   have hA16 := Rd.atN (f := e_ref23_Slot) (s := 39) (fun _ => rfl) (by decide) (hM.inp hr4 Off.nil) hx17
   refine RL.gval rfl rfl (O.idxA sl49 (hA16) rfl rfl) rfl ?_
   refine RL.gval rfl rfl (O.fldA fl78_0 (by decide) rfl) rfl ?_
   refine RL.gval rfl rfl (O.load sc4 rfl (Cs.adds [0] (hA16).cells rfl)) rfl ?_
   refine RL.gval rfl rfl (O.not rfl) rfl ?_
   refine RL.val (O.pickf rfl rfl) rfl ?_
   refine RL.nil ?_
   refine KQ.then_k ?_
   replace hM := hM.pick [] rfl (by decide)
   exact fun a ha => ⟨(!xv18.f_Used), ha.less (less_cons rfl (less_cons rfl (less_cons rfl less_nil))), hM, hF⟩
 ·rintro a w20 ⟨t19, ha, hM, hF⟩
  refine KC.app ha ?_
  clear ha
  unfold F_ref23_Get_j1 at hF
  refine KC.cond rfl (fun hc => ?_) (fun hc => ?_)
  ·rw [if_pos hc] at hF
   refine KC.seqH fun Q21 hQ21 => ?_
   refine KC.region ?_
   refine RL.val (O.assign rfl) rfl ?_
   refine RL.val (O.assign rfl) rfl ?_
   refine RL.nil ?_
   refine KQ.thn hQ21 ?_
   clear hQ21 Q21
   refine KC.ret ?_
   refine KQ.thr hQ15 ?_
   clear hQ15 Q15
   have hE := Option.some.inj hF
   clear hF
   subst hE
   refine KQ.rets Try.results22 (RVs.cons (RV.tm rfl) (RVs.cons (RV.tm rfl) RVs.nil)) ?_
   exact ⟨_, rfl, rfl, hM⟩
  ·rw [if_neg (ne_true hc)] at hF
   refine KC.skip ?_
   refine KQ.thn hQ15 ?_
   clear hQ15 Q15
   refine KC.seqH fun Q22 hQ22 => ?_
   refine KC.region ?_
   refine RL.val (O.move rfl) rfl ?_
   refine RL.val (O.move rfl) rfl ?_
   refine obindE hF fun xv25 hx24 hF => ?_
   have hA23 := Rd.atN (f := e_ref23_Slot) (s := 39) (fun _ => rfl) (by decide) (hM.inp hr4 Off.nil) hx24
   refine RL.val (O.idxA sl49 (hA23) rfl rfl) rfl ?_
   refine RL.val (O.fldA fl78_2 (by decide) rfl) rfl ?_
   refine RL.val (O.load sc36 rfl (Cs.adds [38] (hA23).cells rfl)) rfl ?_
   refine RL.val (O.assign rfl) rfl ?_
   refine RL.val (O.assign rfl) rfl ?_
   refine RL.nil ?_
   refine KQ.thn hQ22 ?_
   clear hQ22 Q22
   refine KC.ret ?_
   have hE := Option.some.inj hF
   clear hF
   subst hE
   refine KQ.rets Try.results22 (RVs.cons (RV.tm rfl) (RVs.cons (RV.tm rfl) RVs.nil)) ?_
   exact ⟨_, rfl, rfl, hM⟩
set_option maxRecDepth 100000 in
set_option maxHeartbeats 40000000 in
theorem c_ref23_Len (w : World) (A2 : Option Addr) (c3 : Nat) (t1 : List T_ref23_Slot) (hr4 : Rd w A2 c3 39 t1.length (t1.flatMap e_ref23_Slot)) (r : Int) (hF : F_ref23_Len t1 = some r) :
  CallsR Try.prog 41 [.slice A2 (t1).length c3] w (fun v w' => v = Value.int .i64 r ∧ Mem w [] w' []) := by
 refine calls_KC Try.func41 rfl Try.ntmps41 rfl ?_
 have hM := Mem.init w
 unfold F_ref23_Len at hF
 refine KC.seqH fun Q5 hQ5 => ?_
 refine KC.region ?_
 refine RL.val (O.assign rfl) rfl ?_
 refine RL.nil ?_
 refine KQ.thn hQ5 ?_
 clear hQ5 Q5
 refine KC.seqH fun Q6 hQ6 => ?_
 refine KC.region ?_
 refine RL.val (O.assign rfl) rfl ?_
 refine RL.nil ?_
 refine KQ.thn hQ6 ?_
 clear hQ6 Q6
 refine KC.seqH fun Q7 hQ7 => ?_
 refine KC.seqH fun Q8 hQ8 => ?_
 refine KC.region ?_
 refine RL.val (O.assign rfl) rfl ?_
 refine RL.nil ?_
 refine KQ.thn hQ8 ?_
 clear hQ8 Q8
 refine KC.block ?_
 refine KC.loop (fun k31 a w29 => ∃ (nv27 : Int) (i28 : Int), Kn 19 [(0, .slice A2 (t1).length c3), (3, Value.int .i64 nv27), (4, Value.int .i64 i28)] a ∧ Mem w [] w29 [] ∧ F_ref23_Len_L1 t1 k31 nv27 i28 = some r) ?_ ?_
 ·exact fun a ha => ⟨fuel0, 0, 0, ha.less (less_cons rfl (less_cons rfl (less_cons rfl less_nil))), hM, hF⟩
 ·rintro k31 a w29 ⟨nv27, i28, ha, hM, hF⟩
  refine KC.app ha ?_
  clear ha
  cases k31 with
  | zero => exact (none_some hF).elim
  | succ k31 =>
  have hF : F_ref23_Len_l1 (F_ref23_Len_L1 t1 k31) t1 nv27 i28 = some r := hF
  unfold F_ref23_Len_l1 at hF
  refine KC.seqH fun Q32 hQ32 => ?_
  refine KC.seqH fun Q33 hQ33 => ?_
  refine KC.region ?_
  refine RL.val (O.move rfl) rfl ?_
  refine RL.val (O.move rfl) rfl ?_
  refine RL.val (O.len sl49 rfl) rfl ?_
  refine RL.val (O.lss rfl rfl) rfl ?_
  refine RL.nil ?_
  refine KQ.thn hQ33 ?_
  clear hQ33 Q33
  refine KC.cond rfl (fun hc => ?_) (fun hc => ?_)
  ·rw [if_pos hc] at hF
   refine KC.skip ?_
   refine KQ.thn hQ32 ?_
   clear hQ32 Q32
   refine KC.cut (fun a w39 => ∃ (nv38 : Int), Kn 19 [(0, .slice A2 (t1).length c3), (3, Value.int .i64 nv38), (4, Value.int .i64 i28)] a ∧ Mem w [] w39 [] ∧ F_ref23_Len_j1 i28 (F_ref23_Len_L1 t1 k31) nv38 = some r) ?_ ?_
   ·refine KC.block ?_
    refine KC.seqH fun Q34 hQ34 => ?_
    refine KC.region ?_
    refine RL.val (O.move rfl) rfl ?_
    refine RL.val (O.move rfl) rfl ?_
    refine obindE hF fun xv37 hx36 hF => ?_
    have hA35 := Rd.atN (f := e_ref23_Slot) (s := 39) (fun _ => rfl) (by decide) (hM.inp hr4 Off.nil) hx36
    refine RL.val (O.idxA sl49 (hA35) rfl rfl) rfl ?_
    refine RL.val (O.fldA fl78_0 (by decide) rfl) rfl ?_
    refine RL.val (O.load sc4 rfl (Cs.adds [0] (hA35).cells rfl)) rfl ?_
    refine RL.nil ?_
    refine KQ.thn hQ34 ?_
    clear hQ34 Q34
    refine KC.cond rfl (fun hc => ?_) (fun hc => ?_)
    ·rw [if_pos hc] at hF
     refine KC.region ?_
     refine RL.val (O.move rfl) rfl ?_
     refine RL.val (O.add rfl rfl) rfl ?_
     refine RL.val (O.assign rfl) rfl ?_
     refine RL.nil ?_
     refine KQ.blk_n ?_
     refine KQ.then_k ?_
     exact fun a ha => ⟨(IntKind.i64.wrap (nv27 + 1)), ha.less (less_cons rfl (less_cons rfl (less_cons rfl less_nil))), hM, hF⟩
    ·rw [if_neg (ne_true hc)] at hF
     refine KC.skip ?_
     refine KQ.blk_n ?_
     refine KQ.then_k ?_
     exact fun a ha => ⟨nv27, ha.less (less_cons rfl (less_cons rfl (less_cons rfl less_nil))), hM, hF⟩
   ·rintro a w39 ⟨nv38, ha, hM, hF⟩
    refine KC.app ha ?_
    clear ha
    unfold F_ref23_Len_j1 at hF
    refine KC.region ?_
    refine RL.val (O.move rfl) rfl ?_
    refine RL.val (O.add rfl rfl) rfl ?_
    refine RL.val (O.assign rfl) rfl ?_
    refine RL.nil ?_
    refine KQ.then_k ?_
    exact fun a ha => ⟨k31, Nat.lt_succ_self k31, nv38, (IntKind.i64.wrap (i28 + 1)), ha.less (less_cons rfl (less_cons rfl (less_cons rfl less_nil))), hM, hF⟩
  ·rw [if_neg (ne_true hc)] at hF
   refine KC.exit ?_
   refine KQ.thx hQ32 ?_
   clear hQ32 Q32
   refine KQ.then_x ?_
   refine KQ.blk_x ?_
   refine KQ.thn hQ7 ?_
   clear hQ7 Q7
   refine KC.seqH fun Q40 hQ40 => ?_
   refine KC.region ?_
   refine RL.val (O.move rfl) rfl ?_
   refine RL.val (O.assign rfl) rfl ?_
   refine RL.nil ?_
   refine KQ.thn hQ40 ?_
   clear hQ40 Q40
   refine KC.ret ?_
   have hE := Option.some.inj hF
   clear hF
   subst hE
   refine KQ.rets Try.results41 (RVs.cons (RV.tm rfl) RVs.nil) ?_
   exact ⟨_, rfl, rfl, hM⟩
set_option maxRecDepth 100000 in
set_option maxHeartbeats 40000000 in
theorem c_bytes_Compare (w : World) (A2 : Option Addr) (c3 : Nat) (av1 : List Int) (hr4 : Rd w A2 c3 1 av1.length (av1.flatMap (eI .u8))) (A6 : Option Addr) (c7 : Nat) (b5 : List Int) (hr8 : Rd w A6 c7 1 b5.length (b5.flatMap (eI .u8))) (r : Int) (hF : F_bytes_Compare av1 b5 = some r) :
  CallsR Try.prog 59 [.slice A2 (av1).length c3, .slice A6 (b5).length c7] w (fun v w' => v = Value.int .i64 r ∧ Mem w [] w' []) := by
 refine calls_KC Try.func59 rfl Try.ntmps59 rfl ?_
 have hM := Mem.init w
 unfold F_bytes_Compare at hF
 refine KC.seqH fun Q9 hQ9 => ?_
 refine KC.region ?_
 refine RL.val (O.assign rfl) rfl ?_
 refine RL.nil ?_
 refine KQ.thn hQ9 ?_
 clear hQ9 Q9
 refine KC.seqH fun Q10 hQ10 => ?_
 refine KC.region ?_
 refine RL.val (O.move rfl) rfl ?_
 refine RL.val (O.move rfl) rfl ?_
 refine RL.val (O.bcmp (xs := av1) (ys := b5) Try.func76 (by kernel_rfl) (by kernel_rfl) (by kernel_rfl) (by kernel_rfl) rfl rfl (hM.inp hr4 Off.nil) (hM.inp hr8 Off.nil)) rfl ?_
 refine RL.val (O.assign rfl) rfl ?_
 refine RL.nil ?_
 refine KQ.thn hQ10 ?_
 clear hQ10 Q10
 refine KC.ret ?_
 have hE := Option.some.inj hF
 clear hF
 subst hE
 refine KQ.rets Try.results59 (RVs.cons (RV.tm rfl) RVs.nil) ?_
 exact ⟨_, rfl, rfl, hM⟩
set_option maxRecDepth 100000 in
set_option maxHeartbeats 40000000 in
theorem c_packet_Cmp (w : World) (av1 : T_packet_Key) (b2 : T_packet_Key) (r : Int) (hF : F_packet_Cmp av1 b2 = some r) :
  CallsR Try.prog 45 [.agg #[Value.bool av1.f_Src.f_Six, o8 av1.f_Src.f_B 0, o8 av1.f_Src.f_B 1, o8 av1.f_Src.f_B 2, o8 av1.f_Src.f_B 3, o8 av1.f_Src.f_B 4, o8 av1.f_Src.f_B 5, o8 av1.f_Src.f_B 6, o8 av1.f_Src.f_B 7, o8 av1.f_Src.f_B 8, o8 av1.f_Src.f_B 9, o8 av1.f_Src.f_B 10, o8 av1.f_Src.f_B 11, o8 av1.f_Src.f_B 12, o8 av1.f_Src.f_B 13, o8 av1.f_Src.f_B 14, o8 av1.f_Src.f_B 15, Value.bool av1.f_Dst.f_Six, o8 av1.f_Dst.f_B 0, o8 av1.f_Dst.f_B 1, o8 av1.f_Dst.f_B 2, o8 av1.f_Dst.f_B 3, o8 av1.f_Dst.f_B 4, o8 av1.f_Dst.f_B 5, o8 av1.f_Dst.f_B 6, o8 av1.f_Dst.f_B 7, o8 av1.f_Dst.f_B 8, o8 av1.f_Dst.f_B 9, o8 av1.f_Dst.f_B 10, o8 av1.f_Dst.f_B 11, o8 av1.f_Dst.f_B 12, o8 av1.f_Dst.f_B 13, o8 av1.f_Dst.f_B 14, o8 av1.f_Dst.f_B 15, Value.int .u8 av1.f_Proto, Value.int .u16 av1.f_SrcPort, Value.int .u16 av1.f_DstPort], .agg #[Value.bool b2.f_Src.f_Six, o8 b2.f_Src.f_B 0, o8 b2.f_Src.f_B 1, o8 b2.f_Src.f_B 2, o8 b2.f_Src.f_B 3, o8 b2.f_Src.f_B 4, o8 b2.f_Src.f_B 5, o8 b2.f_Src.f_B 6, o8 b2.f_Src.f_B 7, o8 b2.f_Src.f_B 8, o8 b2.f_Src.f_B 9, o8 b2.f_Src.f_B 10, o8 b2.f_Src.f_B 11, o8 b2.f_Src.f_B 12, o8 b2.f_Src.f_B 13, o8 b2.f_Src.f_B 14, o8 b2.f_Src.f_B 15, Value.bool b2.f_Dst.f_Six, o8 b2.f_Dst.f_B 0, o8 b2.f_Dst.f_B 1, o8 b2.f_Dst.f_B 2, o8 b2.f_Dst.f_B 3, o8 b2.f_Dst.f_B 4, o8 b2.f_Dst.f_B 5, o8 b2.f_Dst.f_B 6, o8 b2.f_Dst.f_B 7, o8 b2.f_Dst.f_B 8, o8 b2.f_Dst.f_B 9, o8 b2.f_Dst.f_B 10, o8 b2.f_Dst.f_B 11, o8 b2.f_Dst.f_B 12, o8 b2.f_Dst.f_B 13, o8 b2.f_Dst.f_B 14, o8 b2.f_Dst.f_B 15, Value.int .u8 b2.f_Proto, Value.int .u16 b2.f_SrcPort, Value.int .u16 b2.f_DstPort]] w (fun v w' => v = Value.int .i64 r ∧ Mem w [] w' []) := by
 refine calls_KC Try.func45 rfl Try.ntmps45 rfl ?_
 have hM := Mem.init w
 unfold F_packet_Cmp at hF
 refine KC.seqH fun Q3 hQ3 => ?_
 refine KC.region ?_
 refine RL.eff (E.box (vs := [Value.bool av1.f_Src.f_Six, o8 av1.f_Src.f_B 0, o8 av1.f_Src.f_B 1, o8 av1.f_Src.f_B 2, o8 av1.f_Src.f_B 3, o8 av1.f_Src.f_B 4, o8 av1.f_Src.f_B 5, o8 av1.f_Src.f_B 6, o8 av1.f_Src.f_B 7, o8 av1.f_Src.f_B 8, o8 av1.f_Src.f_B 9, o8 av1.f_Src.f_B 10, o8 av1.f_Src.f_B 11, o8 av1.f_Src.f_B 12, o8 av1.f_Src.f_B 13, o8 av1.f_Src.f_B 14, o8 av1.f_Src.f_B 15, Value.bool av1.f_Dst.f_Six, o8 av1.f_Dst.f_B 0, o8 av1.f_Dst.f_B 1, o8 av1.f_Dst.f_B 2, o8 av1.f_Dst.f_B 3, o8 av1.f_Dst.f_B 4, o8 av1.f_Dst.f_B 5, o8 av1.f_Dst.f_B 6, o8 av1.f_Dst.f_B 7, o8 av1.f_Dst.f_B 8, o8 av1.f_Dst.f_B 9, o8 av1.f_Dst.f_B 10, o8 av1.f_Dst.f_B 11, o8 av1.f_Dst.f_B 12, o8 av1.f_Dst.f_B 13, o8 av1.f_Dst.f_B 14, o8 av1.f_Dst.f_B 15, Value.int .u8 av1.f_Proto, Value.int .u16 av1.f_SrcPort, Value.int .u16 av1.f_DstPort]) hM rfl rfl) rfl fun v w5 hv => ?_
 clear hM
 obtain ⟨g4, rfl, hM, hf⟩ := hv
 refine RL.eff (E.box (vs := [Value.bool b2.f_Src.f_Six, o8 b2.f_Src.f_B 0, o8 b2.f_Src.f_B 1, o8 b2.f_Src.f_B 2, o8 b2.f_Src.f_B 3, o8 b2.f_Src.f_B 4, o8 b2.f_Src.f_B 5, o8 b2.f_Src.f_B 6, o8 b2.f_Src.f_B 7, o8 b2.f_Src.f_B 8, o8 b2.f_Src.f_B 9, o8 b2.f_Src.f_B 10, o8 b2.f_Src.f_B 11, o8 b2.f_Src.f_B 12, o8 b2.f_Src.f_B 13, o8 b2.f_Src.f_B 14, o8 b2.f_Src.f_B 15, Value.bool b2.f_Dst.f_Six, o8 b2.f_Dst.f_B 0, o8 b2.f_Dst.f_B 1, o8 b2.f_Dst.f_B 2, o8 b2.f_Dst.f_B 3, o8 b2.f_Dst.f_B 4, o8 b2.f_Dst.f_B 5, o8 b2.f_Dst.f_B 6, o8 b2.f_Dst.f_B 7, o8 b2.f_Dst.f_B 8, o8 b2.f_Dst.f_B 9, o8 b2.f_Dst.f_B 10, o8 b2.f_Dst.f_B 11, o8 b2.f_Dst.f_B 12, o8 b2.f_Dst.f_B 13, o8 b2.f_Dst.f_B 14, o8 b2.f_Dst.f_B 15, Value.int .u8 b2.f_Proto, Value.int .u16 b2.f_SrcPort, Value.int .u16 b2.f_DstPort]) hM rfl rfl) rfl fun v w8 hv => ?_
 clear hM
 obtain ⟨g7, rfl, hM, hf⟩ := hv
 refine RL.val (O.assign rfl) rfl ?_
 refine RL.nil ?_
 refine KQ.thn hQ3 ?_
 clear hQ3 Q3
 refine KC.seqH fun Q10 hQ10 => ?_
 replace hM := hM.drewN 1
 refine KC.draw [] [] [1, 3, 4] [5] (.ofList [0, 2, 1, 3, 4, 5]) moP (by kernel_rfl) ?_
 refine RD.q rfl rfl rfl rfl (fun w' hf => O.loadN (cs := [Value.bool av1.f_Src.f_Six, o8 av1.f_Src.f_B 0, o8 av1.f_Src.f_B 1, o8 av1.f_Src.f_B 2, o8 av1.f_Src.f_B 3, o8 av1.f_Src.f_B 4, o8 av1.f_Src.f_B 5, o8 av1.f_Src.f_B 6, o8 av1.f_Src.f_B 7, o8 av1.f_Src.f_B 8, o8 av1.f_Src.f_B 9, o8 av1.f_Src.f_B 10, o8 av1.f_Src.f_B 11, o8 av1.f_Src.f_B 12, o8 av1.f_Src.f_B 13, o8 av1.f_Src.f_B 14, o8 av1.f_Src.f_B 15, Value.bool av1.f_Dst.f_Six, o8 av1.f_Dst.f_B 0, o8 av1.f_Dst.f_B 1, o8 av1.f_Dst.f_B 2, o8 av1.f_Dst.f_B 3, o8 av1.f_Dst.f_B 4, o8 av1.f_Dst.f_B 5, o8 av1.f_Dst.f_B 6, o8 av1.f_Dst.f_B 7, o8 av1.f_Dst.f_B 8, o8 av1.f_Dst.f_B 9, o8 av1.f_Dst.f_B 10, o8 av1.f_Dst.f_B 11, o8 av1.f_Dst.f_B 12, o8 av1.f_Dst.f_B 13, o8 av1.f_Dst.f_B 14, o8 av1.f_Dst.f_B 15, Value.int .u8 av1.f_Proto, Value.int .u16 av1.f_SrcPort, Value.int .u16 av1.f_DstPort]) ag35 rfl (Cs.addsN [] ((hM.bx (i := 0) rfl).fut hf) rfl)) ?_
 refine RD.q rfl rfl rfl rfl (fun w' hf => O.loadN (cs := [Value.bool b2.f_Src.f_Six, o8 b2.f_Src.f_B 0, o8 b2.f_Src.f_B 1, o8 b2.f_Src.f_B 2, o8 b2.f_Src.f_B 3, o8 b2.f_Src.f_B 4, o8 b2.f_Src.f_B 5, o8 b2.f_Src.f_B 6, o8 b2.f_Src.f_B 7, o8 b2.f_Src.f_B 8, o8 b2.f_Src.f_B 9, o8 b2.f_Src.f_B 10, o8 b2.f_Src.f_B 11, o8 b2.f_Src.f_B 12, o8 b2.f_Src.f_B 13, o8 b2.f_Src.f_B 14, o8 b2.f_Src.f_B 15, Value.bool b2.f_Dst.f_Six, o8 b2.f_Dst.f_B 0, o8 b2.f_Dst.f_B 1, o8 b2.f_Dst.f_B 2, o8 b2.f_Dst.f_B 3, o8 b2.f_Dst.f_B 4, o8 b2.f_Dst.f_B 5, o8 b2.f_Dst.f_B 6, o8 b2.f_Dst.f_B 7, o8 b2.f_Dst.f_B 8, o8 b2.f_Dst.f_B 9, o8 b2.f_Dst.f_B 10, o8 b2.f_Dst.f_B 11, o8 b2.f_Dst.f_B 12, o8 b2.f_Dst.f_B 13, o8 b2.f_Dst.f_B 14, o8 b2.f_Dst.f_B 15, Value.int .u8 b2.f_Proto, Value.int .u16 b2.f_SrcPort, Value.int .u16 b2.f_DstPort]) ag35 rfl (Cs.addsN [] ((hM.bx (i := 1) rfl).fut hf) rfl)) ?_
 refine obindE hF fun y11 hx12 hF => ?_
 refine RD.mcall rfl rfl trivial Try.func39 bd39 rfl rfl (c_packet_Key_Bytes _ av1 _ hx12) fun v w13 hv => ?_
 obtain ⟨A15, c16, rfl, hN14⟩ := hv
 refine ⟨fun _ => hN14.fut, ?_⟩
 replace hM := hM.call hN14
 refine obindE hF fun y18 hx19 hF => ?_
 refine RD.mcall rfl rfl trivial Try.func39 bd39 rfl rfl (c_packet_Key_Bytes _ b2 _ hx19) fun v w20 hv => ?_
 obtain ⟨A22, c23, rfl, hN21⟩ := hv
 refine ⟨fun _ => hN21.fut, ?_⟩
 replace hM := hM.call hN21
 refine obindE hF fun y25 hx26 hF => ?_
 refine RD.mcall rfl rfl trivial Try.func59 bd59 rfl rfl (c_bytes_Compare _ _ _ y11 (hM.rd (i := 2) rfl) _ _ y18 (hM.rd (i := 3) rfl) _ hx26) fun v w27 hv => ?_
 obtain ⟨rfl, hN28⟩ := hv
 refine ⟨fun _ => hN28.fut, ?_⟩
 replace hM := hM.call0 hN28
 refine RD.p rfl rfl rfl rfl (fun w' => O.assign rfl) ?_
 refine RD.nil ?_
 refine KQ.thn hQ10 ?_
 clear hQ10 Q10
 refine KC.ret ?_
 have hE := Option.some.inj hF
 clear hF
 subst hE
 replace hM := hM.pick [] rfl (by decide)
 refine KQ.rets Try.results45 (RVs.cons (RV.tm rfl) RVs.nil) ?_
 exact ⟨_, rfl, rfl, hM⟩
end Go.Proofs.Ytnbakndfnjflhaa
