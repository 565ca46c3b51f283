/- Printed by a program of this claim: each call returns what the plain function of its name gives. -/
import Derived.Test.YtkpnocgfhipidaaW1
import Derived.Test.YtkpnocgfhipidaaW4
import Derived.Test.YtkpnocgfhipidaaW5
set_option linter.unusedVariables false
namespace Go.Proofs.Ytkpnocgfhipidaa
open Go Go.Ox Go.RowKit
set_option maxRecDepth 100000 in
set_option maxHeartbeats 40000000 in
theorem c_cache_byKey (w : World) (av1 : T_flow_Record) (b2 : T_flow_Record) (r : Int) (hF : F_cache_byKey av1 b2 = some r) :
  CallsR Try.prog 36 [.agg #[vB av1.f_Key.f_Src.f_Six, o8 av1.f_Key.f_Src.f_B 0, o8 av1.f_Key.f_Src.f_B 1, o8 av1.f_Key.f_Src.f_B 2, o8 av1.f_Key.f_Src.f_B 3, o8 av1.f_Key.f_Src.f_B 4, o8 av1.f_Key.f_Src.f_B 5, o8 av1.f_Key.f_Src.f_B 6, o8 av1.f_Key.f_Src.f_B 7, o8 av1.f_Key.f_Src.f_B 8, o8 av1.f_Key.f_Src.f_B 9, o8 av1.f_Key.f_Src.f_B 10, o8 av1.f_Key.f_Src.f_B 11, o8 av1.f_Key.f_Src.f_B 12, o8 av1.f_Key.f_Src.f_B 13, o8 av1.f_Key.f_Src.f_B 14, o8 av1.f_Key.f_Src.f_B 15, vB av1.f_Key.f_Dst.f_Six, o8 av1.f_Key.f_Dst.f_B 0, o8 av1.f_Key.f_Dst.f_B 1, o8 av1.f_Key.f_Dst.f_B 2, o8 av1.f_Key.f_Dst.f_B 3, o8 av1.f_Key.f_Dst.f_B 4, o8 av1.f_Key.f_Dst.f_B 5, o8 av1.f_Key.f_Dst.f_B 6, o8 av1.f_Key.f_Dst.f_B 7, o8 av1.f_Key.f_Dst.f_B 8, o8 av1.f_Key.f_Dst.f_B 9, o8 av1.f_Key.f_Dst.f_B 10, o8 av1.f_Key.f_Dst.f_B 11, o8 av1.f_Key.f_Dst.f_B 12, o8 av1.f_Key.f_Dst.f_B 13, o8 av1.f_Key.f_Dst.f_B 14, o8 av1.f_Key.f_Dst.f_B 15, v8 av1.f_Key.f_Proto, v16 av1.f_Key.f_SrcPort, v16 av1.f_Key.f_DstPort, v64 av1.f_Packets, v64 av1.f_Bytes, v64 av1.f_First, v64 av1.f_Last, v8 av1.f_Flags, v8 av1.f_Reason, v8 av1.f_Class], .agg #[vB b2.f_Key.f_Src.f_Six, o8 b2.f_Key.f_Src.f_B 0, o8 b2.f_Key.f_Src.f_B 1, o8 b2.f_Key.f_Src.f_B 2, o8 b2.f_Key.f_Src.f_B 3, o8 b2.f_Key.f_Src.f_B 4, o8 b2.f_Key.f_Src.f_B 5, o8 b2.f_Key.f_Src.f_B 6, o8 b2.f_Key.f_Src.f_B 7, o8 b2.f_Key.f_Src.f_B 8, o8 b2.f_Key.f_Src.f_B 9, o8 b2.f_Key.f_Src.f_B 10, o8 b2.f_Key.f_Src.f_B 11, o8 b2.f_Key.f_Src.f_B 12, o8 b2.f_Key.f_Src.f_B 13, o8 b2.f_Key.f_Src.f_B 14, o8 b2.f_Key.f_Src.f_B 15, vB b2.f_Key.f_Dst.f_Six, o8 b2.f_Key.f_Dst.f_B 0, o8 b2.f_Key.f_Dst.f_B 1, o8 b2.f_Key.f_Dst.f_B 2, o8 b2.f_Key.f_Dst.f_B 3, o8 b2.f_Key.f_Dst.f_B 4, o8 b2.f_Key.f_Dst.f_B 5, o8 b2.f_Key.f_Dst.f_B 6, o8 b2.f_Key.f_Dst.f_B 7, o8 b2.f_Key.f_Dst.f_B 8, o8 b2.f_Key.f_Dst.f_B 9, o8 b2.f_Key.f_Dst.f_B 10, o8 b2.f_Key.f_Dst.f_B 11, o8 b2.f_Key.f_Dst.f_B 12, o8 b2.f_Key.f_Dst.f_B 13, o8 b2.f_Key.f_Dst.f_B 14, o8 b2.f_Key.f_Dst.f_B 15, v8 b2.f_Key.f_Proto, v16 b2.f_Key.f_SrcPort, v16 b2.f_Key.f_DstPort, v64 b2.f_Packets, v64 b2.f_Bytes, v64 b2.f_First, v64 b2.f_Last, v8 b2.f_Flags, v8 b2.f_Reason, v8 b2.f_Class]] w (fun v w' => v = vI r ∧ Mem w [] w' []) := by
 refine calls_KC Try.func36 rfl Try.ntmps36 rfl ?_
 have hM := Mem.init w
 unfold F_cache_byKey at hF
 refine sr fun Q3 hQ3 => ?_
 refine RL.eff (E.box (vs := [vB av1.f_Key.f_Src.f_Six, o8 av1.f_Key.f_Src.f_B 0, o8 av1.f_Key.f_Src.f_B 1, o8 av1.f_Key.f_Src.f_B 2, o8 av1.f_Key.f_Src.f_B 3, o8 av1.f_Key.f_Src.f_B 4, o8 av1.f_Key.f_Src.f_B 5, o8 av1.f_Key.f_Src.f_B 6, o8 av1.f_Key.f_Src.f_B 7, o8 av1.f_Key.f_Src.f_B 8, o8 av1.f_Key.f_Src.f_B 9, o8 av1.f_Key.f_Src.f_B 10, o8 av1.f_Key.f_Src.f_B 11, o8 av1.f_Key.f_Src.f_B 12, o8 av1.f_Key.f_Src.f_B 13, o8 av1.f_Key.f_Src.f_B 14, o8 av1.f_Key.f_Src.f_B 15, vB av1.f_Key.f_Dst.f_Six, o8 av1.f_Key.f_Dst.f_B 0, o8 av1.f_Key.f_Dst.f_B 1, o8 av1.f_Key.f_Dst.f_B 2, o8 av1.f_Key.f_Dst.f_B 3, o8 av1.f_Key.f_Dst.f_B 4, o8 av1.f_Key.f_Dst.f_B 5, o8 av1.f_Key.f_Dst.f_B 6, o8 av1.f_Key.f_Dst.f_B 7, o8 av1.f_Key.f_Dst.f_B 8, o8 av1.f_Key.f_Dst.f_B 9, o8 av1.f_Key.f_Dst.f_B 10, o8 av1.f_Key.f_Dst.f_B 11, o8 av1.f_Key.f_Dst.f_B 12, o8 av1.f_Key.f_Dst.f_B 13, o8 av1.f_Key.f_Dst.f_B 14, o8 av1.f_Key.f_Dst.f_B 15, v8 av1.f_Key.f_Proto, v16 av1.f_Key.f_SrcPort, v16 av1.f_Key.f_DstPort, v64 av1.f_Packets, v64 av1.f_Bytes, v64 av1.f_First, v64 av1.f_Last, v8 av1.f_Flags, v8 av1.f_Reason, v8 av1.f_Class]) hM rfl rfl) rfl fun v w5 hv => ?_
 clear hM
 obtain ⟨g4, rfl, hM, hf⟩ := hv
 refine RL.eff (E.box (vs := [vB b2.f_Key.f_Src.f_Six, o8 b2.f_Key.f_Src.f_B 0, o8 b2.f_Key.f_Src.f_B 1, o8 b2.f_Key.f_Src.f_B 2, o8 b2.f_Key.f_Src.f_B 3, o8 b2.f_Key.f_Src.f_B 4, o8 b2.f_Key.f_Src.f_B 5, o8 b2.f_Key.f_Src.f_B 6, o8 b2.f_Key.f_Src.f_B 7, o8 b2.f_Key.f_Src.f_B 8, o8 b2.f_Key.f_Src.f_B 9, o8 b2.f_Key.f_Src.f_B 10, o8 b2.f_Key.f_Src.f_B 11, o8 b2.f_Key.f_Src.f_B 12, o8 b2.f_Key.f_Src.f_B 13, o8 b2.f_Key.f_Src.f_B 14, o8 b2.f_Key.f_Src.f_B 15, vB b2.f_Key.f_Dst.f_Six, o8 b2.f_Key.f_Dst.f_B 0, o8 b2.f_Key.f_Dst.f_B 1, o8 b2.f_Key.f_Dst.f_B 2, o8 b2.f_Key.f_Dst.f_B 3, o8 b2.f_Key.f_Dst.f_B 4, o8 b2.f_Key.f_Dst.f_B 5, o8 b2.f_Key.f_Dst.f_B 6, o8 b2.f_Key.f_Dst.f_B 7, o8 b2.f_Key.f_Dst.f_B 8, o8 b2.f_Key.f_Dst.f_B 9, o8 b2.f_Key.f_Dst.f_B 10, o8 b2.f_Key.f_Dst.f_B 11, o8 b2.f_Key.f_Dst.f_B 12, o8 b2.f_Key.f_Dst.f_B 13, o8 b2.f_Key.f_Dst.f_B 14, o8 b2.f_Key.f_Dst.f_B 15, v8 b2.f_Key.f_Proto, v16 b2.f_Key.f_SrcPort, v16 b2.f_Key.f_DstPort, v64 b2.f_Packets, v64 b2.f_Bytes, v64 b2.f_First, v64 b2.f_Last, v8 b2.f_Flags, v8 b2.f_Reason, v8 b2.f_Class]) hM rfl rfl) rfl fun v w8 hv => ?_
 clear hM
 obtain ⟨g7, rfl, hM, hf⟩ := hv
 refine va rfl rfl ?_
 refine nt hQ3 ?_
 clear hQ3 Q3
 refine sr fun Q10 hQ10 => ?_
 refine RL.val (O.fldA fl46_0 (by decide) rfl) rfl ?_
 refine RL.val (O.loadN (cs := [vB av1.f_Key.f_Src.f_Six, o8 av1.f_Key.f_Src.f_B 0, o8 av1.f_Key.f_Src.f_B 1, o8 av1.f_Key.f_Src.f_B 2, o8 av1.f_Key.f_Src.f_B 3, o8 av1.f_Key.f_Src.f_B 4, o8 av1.f_Key.f_Src.f_B 5, o8 av1.f_Key.f_Src.f_B 6, o8 av1.f_Key.f_Src.f_B 7, o8 av1.f_Key.f_Src.f_B 8, o8 av1.f_Key.f_Src.f_B 9, o8 av1.f_Key.f_Src.f_B 10, o8 av1.f_Key.f_Src.f_B 11, o8 av1.f_Key.f_Src.f_B 12, o8 av1.f_Key.f_Src.f_B 13, o8 av1.f_Key.f_Src.f_B 14, o8 av1.f_Key.f_Src.f_B 15, vB av1.f_Key.f_Dst.f_Six, o8 av1.f_Key.f_Dst.f_B 0, o8 av1.f_Key.f_Dst.f_B 1, o8 av1.f_Key.f_Dst.f_B 2, o8 av1.f_Key.f_Dst.f_B 3, o8 av1.f_Key.f_Dst.f_B 4, o8 av1.f_Key.f_Dst.f_B 5, o8 av1.f_Key.f_Dst.f_B 6, o8 av1.f_Key.f_Dst.f_B 7, o8 av1.f_Key.f_Dst.f_B 8, o8 av1.f_Key.f_Dst.f_B 9, o8 av1.f_Key.f_Dst.f_B 10, o8 av1.f_Key.f_Dst.f_B 11, o8 av1.f_Key.f_Dst.f_B 12, o8 av1.f_Key.f_Dst.f_B 13, o8 av1.f_Key.f_Dst.f_B 14, o8 av1.f_Key.f_Dst.f_B 15, v8 av1.f_Key.f_Proto, v16 av1.f_Key.f_SrcPort, v16 av1.f_Key.f_DstPort]) ag36 rfl (Cs.addsN [0] ((hM.bx (i := 0) rfl)) rfl)) rfl ?_
 refine RL.val (O.fldA fl46_0 (by decide) rfl) rfl ?_
 refine RL.val (O.loadN (cs := [vB b2.f_Key.f_Src.f_Six, o8 b2.f_Key.f_Src.f_B 0, o8 b2.f_Key.f_Src.f_B 1, o8 b2.f_Key.f_Src.f_B 2, o8 b2.f_Key.f_Src.f_B 3, o8 b2.f_Key.f_Src.f_B 4, o8 b2.f_Key.f_Src.f_B 5, o8 b2.f_Key.f_Src.f_B 6, o8 b2.f_Key.f_Src.f_B 7, o8 b2.f_Key.f_Src.f_B 8, o8 b2.f_Key.f_Src.f_B 9, o8 b2.f_Key.f_Src.f_B 10, o8 b2.f_Key.f_Src.f_B 11, o8 b2.f_Key.f_Src.f_B 12, o8 b2.f_Key.f_Src.f_B 13, o8 b2.f_Key.f_Src.f_B 14, o8 b2.f_Key.f_Src.f_B 15, vB b2.f_Key.f_Dst.f_Six, o8 b2.f_Key.f_Dst.f_B 0, o8 b2.f_Key.f_Dst.f_B 1, o8 b2.f_Key.f_Dst.f_B 2, o8 b2.f_Key.f_Dst.f_B 3, o8 b2.f_Key.f_Dst.f_B 4, o8 b2.f_Key.f_Dst.f_B 5, o8 b2.f_Key.f_Dst.f_B 6, o8 b2.f_Key.f_Dst.f_B 7, o8 b2.f_Key.f_Dst.f_B 8, o8 b2.f_Key.f_Dst.f_B 9, o8 b2.f_Key.f_Dst.f_B 10, o8 b2.f_Key.f_Dst.f_B 11, o8 b2.f_Key.f_Dst.f_B 12, o8 b2.f_Key.f_Dst.f_B 13, o8 b2.f_Key.f_Dst.f_B 14, o8 b2.f_Key.f_Dst.f_B 15, v8 b2.f_Key.f_Proto, v16 b2.f_Key.f_SrcPort, v16 b2.f_Key.f_DstPort]) ag36 rfl (Cs.addsN [0] ((hM.bx (i := 1) rfl)) rfl)) rfl ?_
 refine obindE hF fun y11 hx12 hF => ?_
 refine RL.call Try.func60 bd60 rfl rfl (c_packet_Cmp _ av1.f_Key b2.f_Key _ hx12) fun v w13 hv => ?_
 obtain ⟨rfl, hN14⟩ := hv
 replace hM := hM.call0 hN14
 refine va rfl rfl ?_
 refine nt hQ10 ?_
 clear hQ10 Q10
 refine KC.ret ?_
 have hE := Option.some.inj hF
 clear hF
 subst hE
 replace hM := hM.pick [] rfl (by decide)
 refine KQ.rets Try.results36 (RVs.cons (RV.tm rfl) RVs.nil) ?_
 exact ⟨_, rfl, rfl, hM⟩
set_option maxRecDepth 100000 in
set_option maxHeartbeats 40000000 in
theorem c_cmp_Or_int (w : World) (A2 : Option Addr) (c3 : Nat) (vals1 : List Int) (hr4 : Rd w A2 c3 1 vals1.length (vals1.flatMap (eI .i64))) (r : Int) (hF : F_cmp_Or_int vals1 = some r) :
  CallsR Try.prog 34 [.slice A2 (vals1).length c3] w (fun v w' => v = vI r ∧ Mem w [] w' []) := by
 refine calls_KC Try.func34 rfl Try.ntmps34 rfl ?_
 have hM := Mem.init w
 unfold F_cmp_Or_int at hF
 refine sr fun Q5 hQ5 => ?_
 refine va rfl rfl ?_
 refine nt hQ5 ?_
 clear hQ5 Q5
 refine sr fun Q6 hQ6 => ?_
 refine va rfl rfl ?_
 refine nt hQ6 ?_
 clear hQ6 Q6
 refine KC.seqH fun Q7 hQ7 => ?_
 refine sr fun Q8 hQ8 => ?_
 refine vm rfl rfl ?_
 refine RL.val (O.len sl110 rfl) rfl ?_
 refine vm rfl rfl ?_
 refine nt hQ8 ?_
 clear hQ8 Q8
 refine KC.block ?_
 refine KC.loop (fun k31 a w29 => ∃ (t28 : Int), Kn 18 [(3, vI 0), (6, .slice A2 (vals1).length c3), (7, vI (vals1.length : Int)), (8, vI t28)] a ∧ Mem w [] w29 [] ∧ F_cmp_Or_int_L1 vals1 k31 t28 = some r) ?_ ?_
 ·exact fun a ha => ⟨fuel0, 0, ha.less (less_cons rfl (less_cons rfl (less_cons rfl (less_cons rfl less_nil)))), hM, hF⟩
 rintro k31 a w29 ⟨t28, ha, hM, hF⟩
 refine KC.app ha ?_
 clear ha
 cases k31 with
 | zero => exact (none_some hF).elim
 | succ k31 =>
 have hF : F_cmp_Or_int_l1 (F_cmp_Or_int_L1 vals1 k31) vals1 t28 = some r := hF
 unfold F_cmp_Or_int_l1 at hF
 refine sr fun Q32 hQ32 => ?_
 refine RL.val (O.lss rfl rfl) rfl ?_
 refine nt hQ32 ?_
 clear hQ32 Q32
 refine KC.seqH fun Q33 hQ33 => ?_
 refine KC.cond rfl (fun hc => ?_) (fun hc => ?_)
 ·rw [if_pos hc] at hF
  refine KC.skip ?_
  refine KQ.thn hQ33 ?_
  clear hQ33 Q33
  refine KC.seqH fun Q34 hQ34 => ?_
  refine KC.block ?_
  refine sr fun Q35 hQ35 => ?_
  refine obindE hF fun xv38 hx37 hF => ?_
  have hA36 := Rd.atN (f := (eI .i64)) (s := 1) (fun _ => rfl) (by decide) (hM.inp hr4 Off.nil) hx37
  refine RL.val (O.idxA sl110 (hA36) rfl rfl) rfl ?_
  refine RL.val (O.load sc3 rfl (hA36).cells.at0) rfl ?_
  refine va rfl rfl ?_
  refine nt hQ35 ?_
  clear hQ35 Q35
  refine sr fun Q39 hQ39 => ?_
  refine vm rfl rfl ?_
  refine vm rfl rfl ?_
  refine RL.val (O.neq rfl rfl) rfl ?_
  refine nt hQ39 ?_
  clear hQ39 Q39
  refine KC.cond rfl (fun hc => ?_) (fun hc => ?_)
  ·rw [if_pos hc] at hF
   refine sr fun Q40 hQ40 => ?_
   refine vm rfl rfl ?_
   refine va rfl rfl ?_
   refine nt hQ40 ?_
   clear hQ40 Q40
   refine KC.ret ?_
   refine KQ.blk_r ?_
   refine KQ.thr hQ34 ?_
   clear hQ34 Q34
   refine KQ.then_r ?_
   refine KQ.blk_r ?_
   refine KQ.thr hQ7 ?_
   clear hQ7 Q7
   have hE := Option.some.inj hF
   clear hF
   subst hE
   refine KQ.rets Try.results34 (RVs.cons (RV.tm rfl) RVs.nil) ?_
   exact ⟨_, rfl, rfl, hM⟩
  rw [if_neg (ne_true hc)] at hF
  refine KC.skip ?_
  refine KQ.blk_n ?_
  refine KQ.thn hQ34 ?_
  clear hQ34 Q34
  refine KC.region ?_
  refine RL.val (O.add rfl rfl) rfl ?_
  refine vm rfl rfl ?_
  refine RL.nil ?_
  refine KQ.then_k ?_
  exact fun a ha => ⟨k31, Nat.lt_succ_self k31, (IntKind.i64.wrap (t28 + 1)), ha.less (less_cons rfl (less_cons rfl (less_cons rfl (less_cons rfl less_nil)))), hM, hF⟩
 rw [if_neg (ne_true hc)] at hF
 refine KC.exit ?_
 refine KQ.thx hQ33 ?_
 clear hQ33 Q33
 refine KQ.then_x ?_
 refine KQ.blk_x ?_
 refine KQ.thn hQ7 ?_
 clear hQ7 Q7
 refine sr fun Q41 hQ41 => ?_
 refine vm rfl rfl ?_
 refine va rfl rfl ?_
 refine nt hQ41 ?_
 clear hQ41 Q41
 refine KC.ret ?_
 have hE := Option.some.inj hF
 clear hF
 subst hE
 refine KQ.rets Try.results34 (RVs.cons (RV.tm rfl) RVs.nil) ?_
 exact ⟨_, rfl, rfl, hM⟩
set_option maxRecDepth 100000 in
set_option maxHeartbeats 40000000 in
theorem c_cache_Cache_Advance_1_B (w : World) (g4 : Nat) (tg11 : TypeId) (cv3 : T_cache_Cache) (g6 : Nat) (tg8 : TypeId) (vo9 : Value) (vo10 : Value) (hL12 : Lent w [.box g4 tg11 [.pointer (some ⟨g6, 0, none⟩)], .box g6 tg8 [v64 cv3.f_tick, vI cv3.f_bounds.f_Flows, v64 cv3.f_bounds.f_Idle, v64 cv3.f_bounds.f_Active, v64 cv3.f_bounds.f_Packets, v64 cv3.f_bounds.f_Bytes, vo9, vo10]]) (av1 : T_flow_Record) (b2 : T_flow_Record) (r : Int) (hF : F_cache_Cache_Advance_1 av1 b2 cv3 = some r) :
  CallsR Try.prog 33 [.agg #[vB av1.f_Key.f_Src.f_Six, o8 av1.f_Key.f_Src.f_B 0, o8 av1.f_Key.f_Src.f_B 1, o8 av1.f_Key.f_Src.f_B 2, o8 av1.f_Key.f_Src.f_B 3, o8 av1.f_Key.f_Src.f_B 4, o8 av1.f_Key.f_Src.f_B 5, o8 av1.f_Key.f_Src.f_B 6, o8 av1.f_Key.f_Src.f_B 7, o8 av1.f_Key.f_Src.f_B 8, o8 av1.f_Key.f_Src.f_B 9, o8 av1.f_Key.f_Src.f_B 10, o8 av1.f_Key.f_Src.f_B 11, o8 av1.f_Key.f_Src.f_B 12, o8 av1.f_Key.f_Src.f_B 13, o8 av1.f_Key.f_Src.f_B 14, o8 av1.f_Key.f_Src.f_B 15, vB av1.f_Key.f_Dst.f_Six, o8 av1.f_Key.f_Dst.f_B 0, o8 av1.f_Key.f_Dst.f_B 1, o8 av1.f_Key.f_Dst.f_B 2, o8 av1.f_Key.f_Dst.f_B 3, o8 av1.f_Key.f_Dst.f_B 4, o8 av1.f_Key.f_Dst.f_B 5, o8 av1.f_Key.f_Dst.f_B 6, o8 av1.f_Key.f_Dst.f_B 7, o8 av1.f_Key.f_Dst.f_B 8, o8 av1.f_Key.f_Dst.f_B 9, o8 av1.f_Key.f_Dst.f_B 10, o8 av1.f_Key.f_Dst.f_B 11, o8 av1.f_Key.f_Dst.f_B 12, o8 av1.f_Key.f_Dst.f_B 13, o8 av1.f_Key.f_Dst.f_B 14, o8 av1.f_Key.f_Dst.f_B 15, v8 av1.f_Key.f_Proto, v16 av1.f_Key.f_SrcPort, v16 av1.f_Key.f_DstPort, v64 av1.f_Packets, v64 av1.f_Bytes, v64 av1.f_First, v64 av1.f_Last, v8 av1.f_Flags, v8 av1.f_Reason, v8 av1.f_Class], .agg #[vB b2.f_Key.f_Src.f_Six, o8 b2.f_Key.f_Src.f_B 0, o8 b2.f_Key.f_Src.f_B 1, o8 b2.f_Key.f_Src.f_B 2, o8 b2.f_Key.f_Src.f_B 3, o8 b2.f_Key.f_Src.f_B 4, o8 b2.f_Key.f_Src.f_B 5, o8 b2.f_Key.f_Src.f_B 6, o8 b2.f_Key.f_Src.f_B 7, o8 b2.f_Key.f_Src.f_B 8, o8 b2.f_Key.f_Src.f_B 9, o8 b2.f_Key.f_Src.f_B 10, o8 b2.f_Key.f_Src.f_B 11, o8 b2.f_Key.f_Src.f_B 12, o8 b2.f_Key.f_Src.f_B 13, o8 b2.f_Key.f_Src.f_B 14, o8 b2.f_Key.f_Src.f_B 15, vB b2.f_Key.f_Dst.f_Six, o8 b2.f_Key.f_Dst.f_B 0, o8 b2.f_Key.f_Dst.f_B 1, o8 b2.f_Key.f_Dst.f_B 2, o8 b2.f_Key.f_Dst.f_B 3, o8 b2.f_Key.f_Dst.f_B 4, o8 b2.f_Key.f_Dst.f_B 5, o8 b2.f_Key.f_Dst.f_B 6, o8 b2.f_Key.f_Dst.f_B 7, o8 b2.f_Key.f_Dst.f_B 8, o8 b2.f_Key.f_Dst.f_B 9, o8 b2.f_Key.f_Dst.f_B 10, o8 b2.f_Key.f_Dst.f_B 11, o8 b2.f_Key.f_Dst.f_B 12, o8 b2.f_Key.f_Dst.f_B 13, o8 b2.f_Key.f_Dst.f_B 14, o8 b2.f_Key.f_Dst.f_B 15, v8 b2.f_Key.f_Proto, v16 b2.f_Key.f_SrcPort, v16 b2.f_Key.f_DstPort, v64 b2.f_Packets, v64 b2.f_Bytes, v64 b2.f_First, v64 b2.f_Last, v8 b2.f_Flags, v8 b2.f_Reason, v8 b2.f_Class], .pointer (some ⟨g4, 0, none⟩)] w (fun v w' => v = vI r ∧ Mem w [some g4, some g6] w' [.box g4 tg11 [.pointer (some ⟨g6, 0, none⟩)], .box g6 tg8 [v64 cv3.f_tick, vI cv3.f_bounds.f_Flows, v64 cv3.f_bounds.f_Idle, v64 cv3.f_bounds.f_Active, v64 cv3.f_bounds.f_Packets, v64 cv3.f_bounds.f_Bytes, vo9, vo10]]) := by
 refine calls_KC Try.func33 rfl Try.ntmps33 rfl ?_
 have hM : Mem w [some g4, some g6] w [.box g4 tg11 [.pointer (some ⟨g6, 0, none⟩)], .box g6 tg8 [v64 cv3.f_tick, vI cv3.f_bounds.f_Flows, v64 cv3.f_bounds.f_Idle, v64 cv3.f_bounds.f_Active, v64 cv3.f_bounds.f_Packets, v64 cv3.f_bounds.f_Bytes, vo9, vo10]] := Mem.lendN hL12
 unfold F_cache_Cache_Advance_1 at hF
 refine sr fun Q13 hQ13 => ?_
 refine RL.eff (E.box (vs := [vB av1.f_Key.f_Src.f_Six, o8 av1.f_Key.f_Src.f_B 0, o8 av1.f_Key.f_Src.f_B 1, o8 av1.f_Key.f_Src.f_B 2, o8 av1.f_Key.f_Src.f_B 3, o8 av1.f_Key.f_Src.f_B 4, o8 av1.f_Key.f_Src.f_B 5, o8 av1.f_Key.f_Src.f_B 6, o8 av1.f_Key.f_Src.f_B 7, o8 av1.f_Key.f_Src.f_B 8, o8 av1.f_Key.f_Src.f_B 9, o8 av1.f_Key.f_Src.f_B 10, o8 av1.f_Key.f_Src.f_B 11, o8 av1.f_Key.f_Src.f_B 12, o8 av1.f_Key.f_Src.f_B 13, o8 av1.f_Key.f_Src.f_B 14, o8 av1.f_Key.f_Src.f_B 15, vB av1.f_Key.f_Dst.f_Six, o8 av1.f_Key.f_Dst.f_B 0, o8 av1.f_Key.f_Dst.f_B 1, o8 av1.f_Key.f_Dst.f_B 2, o8 av1.f_Key.f_Dst.f_B 3, o8 av1.f_Key.f_Dst.f_B 4, o8 av1.f_Key.f_Dst.f_B 5, o8 av1.f_Key.f_Dst.f_B 6, o8 av1.f_Key.f_Dst.f_B 7, o8 av1.f_Key.f_Dst.f_B 8, o8 av1.f_Key.f_Dst.f_B 9, o8 av1.f_Key.f_Dst.f_B 10, o8 av1.f_Key.f_Dst.f_B 11, o8 av1.f_Key.f_Dst.f_B 12, o8 av1.f_Key.f_Dst.f_B 13, o8 av1.f_Key.f_Dst.f_B 14, o8 av1.f_Key.f_Dst.f_B 15, v8 av1.f_Key.f_Proto, v16 av1.f_Key.f_SrcPort, v16 av1.f_Key.f_DstPort, v64 av1.f_Packets, v64 av1.f_Bytes, v64 av1.f_First, v64 av1.f_Last, v8 av1.f_Flags, v8 av1.f_Reason, v8 av1.f_Class]) hM rfl rfl) rfl fun v w15 hv => ?_
 clear hM
 obtain ⟨g14, rfl, hM, hf⟩ := hv
 refine RL.eff (E.box (vs := [vB b2.f_Key.f_Src.f_Six, o8 b2.f_Key.f_Src.f_B 0, o8 b2.f_Key.f_Src.f_B 1, o8 b2.f_Key.f_Src.f_B 2, o8 b2.f_Key.f_Src.f_B 3, o8 b2.f_Key.f_Src.f_B 4, o8 b2.f_Key.f_Src.f_B 5, o8 b2.f_Key.f_Src.f_B 6, o8 b2.f_Key.f_Src.f_B 7, o8 b2.f_Key.f_Src.f_B 8, o8 b2.f_Key.f_Src.f_B 9, o8 b2.f_Key.f_Src.f_B 10, o8 b2.f_Key.f_Src.f_B 11, o8 b2.f_Key.f_Src.f_B 12, o8 b2.f_Key.f_Src.f_B 13, o8 b2.f_Key.f_Src.f_B 14, o8 b2.f_Key.f_Src.f_B 15, vB b2.f_Key.f_Dst.f_Six, o8 b2.f_Key.f_Dst.f_B 0, o8 b2.f_Key.f_Dst.f_B 1, o8 b2.f_Key.f_Dst.f_B 2, o8 b2.f_Key.f_Dst.f_B 3, o8 b2.f_Key.f_Dst.f_B 4, o8 b2.f_Key.f_Dst.f_B 5, o8 b2.f_Key.f_Dst.f_B 6, o8 b2.f_Key.f_Dst.f_B 7, o8 b2.f_Key.f_Dst.f_B 8, o8 b2.f_Key.f_Dst.f_B 9, o8 b2.f_Key.f_Dst.f_B 10, o8 b2.f_Key.f_Dst.f_B 11, o8 b2.f_Key.f_Dst.f_B 12, o8 b2.f_Key.f_Dst.f_B 13, o8 b2.f_Key.f_Dst.f_B 14, o8 b2.f_Key.f_Dst.f_B 15, v8 b2.f_Key.f_Proto, v16 b2.f_Key.f_SrcPort, v16 b2.f_Key.f_DstPort, v64 b2.f_Packets, v64 b2.f_Bytes, v64 b2.f_First, v64 b2.f_Last, v8 b2.f_Flags, v8 b2.f_Reason, v8 b2.f_Class]) hM rfl rfl) rfl fun v w18 hv => ?_
 clear hM
 obtain ⟨g17, rfl, hM, hf⟩ := hv
 refine va rfl rfl ?_
 refine nt hQ13 ?_
 clear hQ13 Q13
 refine KC.seqH fun Q20 hQ20 => ?_
 replace hM := hM.drewN 1
 refine KC.draw [] [] [2, 5, 6, 9, 10, 11] [12] (.ofList [0, 1, 3, 4, 7, 8, 2, 5, 6, 9, 10, 11, 12]) moP (by kernel_rfl) ?_
 refine RD.q rfl rfl rfl rfl (fun w' hf => O.load sc27 rfl (Cs.adds [] ((hM.bx (i := 0) rfl).fut hf) rfl)) ?_
 refine RD.q rfl rfl rfl rfl (fun w' hf => O.loadN (cs := [vB av1.f_Key.f_Src.f_Six, o8 av1.f_Key.f_Src.f_B 0, o8 av1.f_Key.f_Src.f_B 1, o8 av1.f_Key.f_Src.f_B 2, o8 av1.f_Key.f_Src.f_B 3, o8 av1.f_Key.f_Src.f_B 4, o8 av1.f_Key.f_Src.f_B 5, o8 av1.f_Key.f_Src.f_B 6, o8 av1.f_Key.f_Src.f_B 7, o8 av1.f_Key.f_Src.f_B 8, o8 av1.f_Key.f_Src.f_B 9, o8 av1.f_Key.f_Src.f_B 10, o8 av1.f_Key.f_Src.f_B 11, o8 av1.f_Key.f_Src.f_B 12, o8 av1.f_Key.f_Src.f_B 13, o8 av1.f_Key.f_Src.f_B 14, o8 av1.f_Key.f_Src.f_B 15, vB av1.f_Key.f_Dst.f_Six, o8 av1.f_Key.f_Dst.f_B 0, o8 av1.f_Key.f_Dst.f_B 1, o8 av1.f_Key.f_Dst.f_B 2, o8 av1.f_Key.f_Dst.f_B 3, o8 av1.f_Key.f_Dst.f_B 4, o8 av1.f_Key.f_Dst.f_B 5, o8 av1.f_Key.f_Dst.f_B 6, o8 av1.f_Key.f_Dst.f_B 7, o8 av1.f_Key.f_Dst.f_B 8, o8 av1.f_Key.f_Dst.f_B 9, o8 av1.f_Key.f_Dst.f_B 10, o8 av1.f_Key.f_Dst.f_B 11, o8 av1.f_Key.f_Dst.f_B 12, o8 av1.f_Key.f_Dst.f_B 13, o8 av1.f_Key.f_Dst.f_B 14, o8 av1.f_Key.f_Dst.f_B 15, v8 av1.f_Key.f_Proto, v16 av1.f_Key.f_SrcPort, v16 av1.f_Key.f_DstPort, v64 av1.f_Packets, v64 av1.f_Bytes, v64 av1.f_First, v64 av1.f_Last, v8 av1.f_Flags, v8 av1.f_Reason, v8 av1.f_Class]) ag46 rfl (Cs.addsN [] ((hM.bx (i := 2) rfl).fut hf) rfl)) ?_
 refine RD.q rfl rfl rfl rfl (fun w' hf => O.load sc27 rfl (Cs.adds [] ((hM.bx (i := 0) rfl).fut hf) rfl)) ?_
 refine RD.q rfl rfl rfl rfl (fun w' hf => O.loadN (cs := [vB b2.f_Key.f_Src.f_Six, o8 b2.f_Key.f_Src.f_B 0, o8 b2.f_Key.f_Src.f_B 1, o8 b2.f_Key.f_Src.f_B 2, o8 b2.f_Key.f_Src.f_B 3, o8 b2.f_Key.f_Src.f_B 4, o8 b2.f_Key.f_Src.f_B 5, o8 b2.f_Key.f_Src.f_B 6, o8 b2.f_Key.f_Src.f_B 7, o8 b2.f_Key.f_Src.f_B 8, o8 b2.f_Key.f_Src.f_B 9, o8 b2.f_Key.f_Src.f_B 10, o8 b2.f_Key.f_Src.f_B 11, o8 b2.f_Key.f_Src.f_B 12, o8 b2.f_Key.f_Src.f_B 13, o8 b2.f_Key.f_Src.f_B 14, o8 b2.f_Key.f_Src.f_B 15, vB b2.f_Key.f_Dst.f_Six, o8 b2.f_Key.f_Dst.f_B 0, o8 b2.f_Key.f_Dst.f_B 1, o8 b2.f_Key.f_Dst.f_B 2, o8 b2.f_Key.f_Dst.f_B 3, o8 b2.f_Key.f_Dst.f_B 4, o8 b2.f_Key.f_Dst.f_B 5, o8 b2.f_Key.f_Dst.f_B 6, o8 b2.f_Key.f_Dst.f_B 7, o8 b2.f_Key.f_Dst.f_B 8, o8 b2.f_Key.f_Dst.f_B 9, o8 b2.f_Key.f_Dst.f_B 10, o8 b2.f_Key.f_Dst.f_B 11, o8 b2.f_Key.f_Dst.f_B 12, o8 b2.f_Key.f_Dst.f_B 13, o8 b2.f_Key.f_Dst.f_B 14, o8 b2.f_Key.f_Dst.f_B 15, v8 b2.f_Key.f_Proto, v16 b2.f_Key.f_SrcPort, v16 b2.f_Key.f_DstPort, v64 b2.f_Packets, v64 b2.f_Bytes, v64 b2.f_First, v64 b2.f_Last, v8 b2.f_Flags, v8 b2.f_Reason, v8 b2.f_Class]) ag46 rfl (Cs.addsN [] ((hM.bx (i := 3) rfl).fut hf) rfl)) ?_
 refine RD.q rfl rfl rfl rfl (fun w' hf => O.loadN (cs := [vB av1.f_Key.f_Src.f_Six, o8 av1.f_Key.f_Src.f_B 0, o8 av1.f_Key.f_Src.f_B 1, o8 av1.f_Key.f_Src.f_B 2, o8 av1.f_Key.f_Src.f_B 3, o8 av1.f_Key.f_Src.f_B 4, o8 av1.f_Key.f_Src.f_B 5, o8 av1.f_Key.f_Src.f_B 6, o8 av1.f_Key.f_Src.f_B 7, o8 av1.f_Key.f_Src.f_B 8, o8 av1.f_Key.f_Src.f_B 9, o8 av1.f_Key.f_Src.f_B 10, o8 av1.f_Key.f_Src.f_B 11, o8 av1.f_Key.f_Src.f_B 12, o8 av1.f_Key.f_Src.f_B 13, o8 av1.f_Key.f_Src.f_B 14, o8 av1.f_Key.f_Src.f_B 15, vB av1.f_Key.f_Dst.f_Six, o8 av1.f_Key.f_Dst.f_B 0, o8 av1.f_Key.f_Dst.f_B 1, o8 av1.f_Key.f_Dst.f_B 2, o8 av1.f_Key.f_Dst.f_B 3, o8 av1.f_Key.f_Dst.f_B 4, o8 av1.f_Key.f_Dst.f_B 5, o8 av1.f_Key.f_Dst.f_B 6, o8 av1.f_Key.f_Dst.f_B 7, o8 av1.f_Key.f_Dst.f_B 8, o8 av1.f_Key.f_Dst.f_B 9, o8 av1.f_Key.f_Dst.f_B 10, o8 av1.f_Key.f_Dst.f_B 11, o8 av1.f_Key.f_Dst.f_B 12, o8 av1.f_Key.f_Dst.f_B 13, o8 av1.f_Key.f_Dst.f_B 14, o8 av1.f_Key.f_Dst.f_B 15, v8 av1.f_Key.f_Proto, v16 av1.f_Key.f_SrcPort, v16 av1.f_Key.f_DstPort, v64 av1.f_Packets, v64 av1.f_Bytes, v64 av1.f_First, v64 av1.f_Last, v8 av1.f_Flags, v8 av1.f_Reason, v8 av1.f_Class]) ag46 rfl (Cs.addsN [] ((hM.bx (i := 2) rfl).fut hf) rfl)) ?_
 refine RD.q rfl rfl rfl rfl (fun w' hf => O.loadN (cs := [vB b2.f_Key.f_Src.f_Six, o8 b2.f_Key.f_Src.f_B 0, o8 b2.f_Key.f_Src.f_B 1, o8 b2.f_Key.f_Src.f_B 2, o8 b2.f_Key.f_Src.f_B 3, o8 b2.f_Key.f_Src.f_B 4, o8 b2.f_Key.f_Src.f_B 5, o8 b2.f_Key.f_Src.f_B 6, o8 b2.f_Key.f_Src.f_B 7, o8 b2.f_Key.f_Src.f_B 8, o8 b2.f_Key.f_Src.f_B 9, o8 b2.f_Key.f_Src.f_B 10, o8 b2.f_Key.f_Src.f_B 11, o8 b2.f_Key.f_Src.f_B 12, o8 b2.f_Key.f_Src.f_B 13, o8 b2.f_Key.f_Src.f_B 14, o8 b2.f_Key.f_Src.f_B 15, vB b2.f_Key.f_Dst.f_Six, o8 b2.f_Key.f_Dst.f_B 0, o8 b2.f_Key.f_Dst.f_B 1, o8 b2.f_Key.f_Dst.f_B 2, o8 b2.f_Key.f_Dst.f_B 3, o8 b2.f_Key.f_Dst.f_B 4, o8 b2.f_Key.f_Dst.f_B 5, o8 b2.f_Key.f_Dst.f_B 6, o8 b2.f_Key.f_Dst.f_B 7, o8 b2.f_Key.f_Dst.f_B 8, o8 b2.f_Key.f_Dst.f_B 9, o8 b2.f_Key.f_Dst.f_B 10, o8 b2.f_Key.f_Dst.f_B 11, o8 b2.f_Key.f_Dst.f_B 12, o8 b2.f_Key.f_Dst.f_B 13, o8 b2.f_Key.f_Dst.f_B 14, o8 b2.f_Key.f_Dst.f_B 15, v8 b2.f_Key.f_Proto, v16 b2.f_Key.f_SrcPort, v16 b2.f_Key.f_DstPort, v64 b2.f_Packets, v64 b2.f_Bytes, v64 b2.f_First, v64 b2.f_Last, v8 b2.f_Flags, v8 b2.f_Reason, v8 b2.f_Class]) ag46 rfl (Cs.addsN [] ((hM.bx (i := 3) rfl).fut hf) rfl)) ?_
 refine obindE hF fun y21 hx22 hF => ?_
 refine RD.mcall rfl rfl trivial Try.func31 bd31 rfl rfl (c_cache_Cache_due _ _ _ cv3 _ _ (hM.lent [1] rfl (by decide)) av1 _ hx22) fun v w23 hv => ?_
 obtain ⟨rfl, hN24⟩ := hv
 refine ⟨fun _ => hN24.fut, ?_⟩
 replace hM := hM.call0 hN24
 refine obindE hF fun y25 hx26 hF => ?_
 refine RD.mcall rfl rfl trivial Try.func31 bd31 rfl rfl (c_cache_Cache_due _ _ _ cv3 _ _ (hM.lent [1] rfl (by decide)) b2 _ hx26) fun v w27 hv => ?_
 obtain ⟨rfl, hN28⟩ := hv
 refine ⟨fun _ => hN28.fut, ?_⟩
 replace hM := hM.call0 hN28
 refine obindE hF fun y29 hx30 hF => ?_
 refine RD.mcall rfl rfl trivial Try.func35 bd35 rfl rfl (c_cmp_Compare_uint64 _ y21 y25 _ hx30) fun v w31 hv => ?_
 obtain ⟨rfl, hN32⟩ := hv
 refine ⟨fun _ => hN32.fut, ?_⟩
 replace hM := hM.call0 hN32
 refine obindE hF fun y33 hx34 hF => ?_
 refine RD.mcall rfl rfl trivial Try.func36 bd36 rfl rfl (c_cache_byKey _ av1 b2 _ hx34) fun v w35 hv => ?_
 obtain ⟨rfl, hN36⟩ := hv
 refine ⟨fun _ => hN36.fut, ?_⟩
 replace hM := hM.call0 hN36
 refine RD.meff rfl rfl (E.bsl (enc := (eI .i64)) (xs := ([y29, y33] : List Int)) hM sl110 ze3 rfl rfl rfl (fun _ => rfl) rfl (by kernel_rfl) rfl) rfl fun v w37 hv => ?_
 clear hM
 obtain ⟨A38, rfl, hM, hf⟩ := hv
 refine ⟨fun _ => hf, ?_⟩
 refine obindE hF fun y40 hx41 hF => ?_
 refine RD.mcall rfl rfl trivial Try.func34 bd34 rfl rfl (c_cmp_Or_int _ _ _ ([y29, y33] : List Int) (hM.rd (i := 4) rfl) _ hx41) fun v w42 hv => ?_
 obtain ⟨rfl, hN43⟩ := hv
 refine ⟨fun _ => hN43.fut, ?_⟩
 replace hM := hM.call0 hN43
 refine RD.p rfl rfl rfl rfl (fun w' => O.assign rfl) ?_
 refine RD.nil ?_
 refine KQ.thn hQ20 ?_
 clear hQ20 Q20
 refine KC.ret ?_
 have hE := Option.some.inj hF
 clear hF
 subst hE
 replace hM := hM.pick [0, 1] rfl (by decide)
 refine KQ.rets Try.results33 (RVs.cons (RV.tm rfl) RVs.nil) ?_
 exact ⟨_, rfl, rfl, hM⟩
theorem c_cache_Cache_Advance_1 (w : World) (g4 : Nat) (tg11 : TypeId) (cv3 : T_cache_Cache) (g6 : Nat) (tg8 : TypeId) (vo9 : Value) (vo10 : Value) (hL12 : Lent w [.box g4 tg11 [.pointer (some ⟨g6, 0, none⟩)], .box g6 tg8 [v64 cv3.f_tick, vI cv3.f_bounds.f_Flows, v64 cv3.f_bounds.f_Idle, v64 cv3.f_bounds.f_Active, v64 cv3.f_bounds.f_Packets, v64 cv3.f_bounds.f_Bytes, vo9, vo10]]) (av1 : T_flow_Record) (b2 : T_flow_Record) (r : Int) (hF : F_cache_Cache_Advance_1 av1 b2 cv3 = some r) :
  CallsR Try.prog 33 [.agg #[vB av1.f_Key.f_Src.f_Six, o8 av1.f_Key.f_Src.f_B 0, o8 av1.f_Key.f_Src.f_B 1, o8 av1.f_Key.f_Src.f_B 2, o8 av1.f_Key.f_Src.f_B 3, o8 av1.f_Key.f_Src.f_B 4, o8 av1.f_Key.f_Src.f_B 5, o8 av1.f_Key.f_Src.f_B 6, o8 av1.f_Key.f_Src.f_B 7, o8 av1.f_Key.f_Src.f_B 8, o8 av1.f_Key.f_Src.f_B 9, o8 av1.f_Key.f_Src.f_B 10, o8 av1.f_Key.f_Src.f_B 11, o8 av1.f_Key.f_Src.f_B 12, o8 av1.f_Key.f_Src.f_B 13, o8 av1.f_Key.f_Src.f_B 14, o8 av1.f_Key.f_Src.f_B 15, vB av1.f_Key.f_Dst.f_Six, o8 av1.f_Key.f_Dst.f_B 0, o8 av1.f_Key.f_Dst.f_B 1, o8 av1.f_Key.f_Dst.f_B 2, o8 av1.f_Key.f_Dst.f_B 3, o8 av1.f_Key.f_Dst.f_B 4, o8 av1.f_Key.f_Dst.f_B 5, o8 av1.f_Key.f_Dst.f_B 6, o8 av1.f_Key.f_Dst.f_B 7, o8 av1.f_Key.f_Dst.f_B 8, o8 av1.f_Key.f_Dst.f_B 9, o8 av1.f_Key.f_Dst.f_B 10, o8 av1.f_Key.f_Dst.f_B 11, o8 av1.f_Key.f_Dst.f_B 12, o8 av1.f_Key.f_Dst.f_B 13, o8 av1.f_Key.f_Dst.f_B 14, o8 av1.f_Key.f_Dst.f_B 15, v8 av1.f_Key.f_Proto, v16 av1.f_Key.f_SrcPort, v16 av1.f_Key.f_DstPort, v64 av1.f_Packets, v64 av1.f_Bytes, v64 av1.f_First, v64 av1.f_Last, v8 av1.f_Flags, v8 av1.f_Reason, v8 av1.f_Class], .agg #[vB b2.f_Key.f_Src.f_Six, o8 b2.f_Key.f_Src.f_B 0, o8 b2.f_Key.f_Src.f_B 1, o8 b2.f_Key.f_Src.f_B 2, o8 b2.f_Key.f_Src.f_B 3, o8 b2.f_Key.f_Src.f_B 4, o8 b2.f_Key.f_Src.f_B 5, o8 b2.f_Key.f_Src.f_B 6, o8 b2.f_Key.f_Src.f_B 7, o8 b2.f_Key.f_Src.f_B 8, o8 b2.f_Key.f_Src.f_B 9, o8 b2.f_Key.f_Src.f_B 10, o8 b2.f_Key.f_Src.f_B 11, o8 b2.f_Key.f_Src.f_B 12, o8 b2.f_Key.f_Src.f_B 13, o8 b2.f_Key.f_Src.f_B 14, o8 b2.f_Key.f_Src.f_B 15, vB b2.f_Key.f_Dst.f_Six, o8 b2.f_Key.f_Dst.f_B 0, o8 b2.f_Key.f_Dst.f_B 1, o8 b2.f_Key.f_Dst.f_B 2, o8 b2.f_Key.f_Dst.f_B 3, o8 b2.f_Key.f_Dst.f_B 4, o8 b2.f_Key.f_Dst.f_B 5, o8 b2.f_Key.f_Dst.f_B 6, o8 b2.f_Key.f_Dst.f_B 7, o8 b2.f_Key.f_Dst.f_B 8, o8 b2.f_Key.f_Dst.f_B 9, o8 b2.f_Key.f_Dst.f_B 10, o8 b2.f_Key.f_Dst.f_B 11, o8 b2.f_Key.f_Dst.f_B 12, o8 b2.f_Key.f_Dst.f_B 13, o8 b2.f_Key.f_Dst.f_B 14, o8 b2.f_Key.f_Dst.f_B 15, v8 b2.f_Key.f_Proto, v16 b2.f_Key.f_SrcPort, v16 b2.f_Key.f_DstPort, v64 b2.f_Packets, v64 b2.f_Bytes, v64 b2.f_First, v64 b2.f_Last, v8 b2.f_Flags, v8 b2.f_Reason, v8 b2.f_Class], .pointer (some ⟨g4, 0, none⟩)] w (fun v w' => v = vI r ∧ Mem w [] w' []) := Calls.mono (c_cache_Cache_Advance_1_B w g4 tg11 cv3 g6 tg8 vo9 vo10 hL12 av1 b2 r hF) fun e w1 ⟨v, he, hv, hm⟩ => ⟨v, he, hv, hm.still hL12 rfl rfl⟩
end Go.Proofs.Ytkpnocgfhipidaa
