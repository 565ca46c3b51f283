/- Printed by a program of this claim: each call returns what the plain function of its name gives. -/
import Derived.Test.YtkpnocgfhipidaaW1
set_option linter.unusedVariables false
namespace Go.Proofs.Ytkpnocgfhipidaa
open Go Go.Ox Go.RowKit
set_option maxRecDepth 100000 in
set_option maxHeartbeats 40000000 in
theorem c_cache_Cache_Account_N (w : World) (p1 : T_packet_Packet) (class2 : Int) (tick3 : Int) (r : (List T_flow_Record) × Int) (hF : F_cache_Cache_Account_N p1 class2 tick3 = some r) :
  CallsR Try.prog 8 [.pointer none, .agg #[vB p1.f_Key.f_Src.f_Six, o8 p1.f_Key.f_Src.f_B 0, o8 p1.f_Key.f_Src.f_B 1, o8 p1.f_Key.f_Src.f_B 2, o8 p1.f_Key.f_Src.f_B 3, o8 p1.f_Key.f_Src.f_B 4, o8 p1.f_Key.f_Src.f_B 5, o8 p1.f_Key.f_Src.f_B 6, o8 p1.f_Key.f_Src.f_B 7, o8 p1.f_Key.f_Src.f_B 8, o8 p1.f_Key.f_Src.f_B 9, o8 p1.f_Key.f_Src.f_B 10, o8 p1.f_Key.f_Src.f_B 11, o8 p1.f_Key.f_Src.f_B 12, o8 p1.f_Key.f_Src.f_B 13, o8 p1.f_Key.f_Src.f_B 14, o8 p1.f_Key.f_Src.f_B 15, vB p1.f_Key.f_Dst.f_Six, o8 p1.f_Key.f_Dst.f_B 0, o8 p1.f_Key.f_Dst.f_B 1, o8 p1.f_Key.f_Dst.f_B 2, o8 p1.f_Key.f_Dst.f_B 3, o8 p1.f_Key.f_Dst.f_B 4, o8 p1.f_Key.f_Dst.f_B 5, o8 p1.f_Key.f_Dst.f_B 6, o8 p1.f_Key.f_Dst.f_B 7, o8 p1.f_Key.f_Dst.f_B 8, o8 p1.f_Key.f_Dst.f_B 9, o8 p1.f_Key.f_Dst.f_B 10, o8 p1.f_Key.f_Dst.f_B 11, o8 p1.f_Key.f_Dst.f_B 12, o8 p1.f_Key.f_Dst.f_B 13, o8 p1.f_Key.f_Dst.f_B 14, o8 p1.f_Key.f_Dst.f_B 15, v8 p1.f_Key.f_Proto, v16 p1.f_Key.f_SrcPort, v16 p1.f_Key.f_DstPort, vI p1.f_Length, v8 p1.f_Flags, vB p1.f_Fragment], v8 class2, v64 tick3] w (fun v w' => ∃ (A0 : Option Addr) (c0 : Nat), v = .tuple #[.slice A0 (r.1).length c0, vI r.2] ∧ Mem w [] w' [.row A0 c0 46 44 r.1.length (r.1.flatMap e_flow_Record)]) := by
 refine calls_KC Try.func8 rfl Try.ntmps8 rfl ?_
 have hM := Mem.init w
 unfold F_cache_Cache_Account_N at hF
 refine sr fun Q4 hQ4 => ?_
 refine RL.eff (E.box (vs := [vB p1.f_Key.f_Src.f_Six, o8 p1.f_Key.f_Src.f_B 0, o8 p1.f_Key.f_Src.f_B 1, o8 p1.f_Key.f_Src.f_B 2, o8 p1.f_Key.f_Src.f_B 3, o8 p1.f_Key.f_Src.f_B 4, o8 p1.f_Key.f_Src.f_B 5, o8 p1.f_Key.f_Src.f_B 6, o8 p1.f_Key.f_Src.f_B 7, o8 p1.f_Key.f_Src.f_B 8, o8 p1.f_Key.f_Src.f_B 9, o8 p1.f_Key.f_Src.f_B 10, o8 p1.f_Key.f_Src.f_B 11, o8 p1.f_Key.f_Src.f_B 12, o8 p1.f_Key.f_Src.f_B 13, o8 p1.f_Key.f_Src.f_B 14, o8 p1.f_Key.f_Src.f_B 15, vB p1.f_Key.f_Dst.f_Six, o8 p1.f_Key.f_Dst.f_B 0, o8 p1.f_Key.f_Dst.f_B 1, o8 p1.f_Key.f_Dst.f_B 2, o8 p1.f_Key.f_Dst.f_B 3, o8 p1.f_Key.f_Dst.f_B 4, o8 p1.f_Key.f_Dst.f_B 5, o8 p1.f_Key.f_Dst.f_B 6, o8 p1.f_Key.f_Dst.f_B 7, o8 p1.f_Key.f_Dst.f_B 8, o8 p1.f_Key.f_Dst.f_B 9, o8 p1.f_Key.f_Dst.f_B 10, o8 p1.f_Key.f_Dst.f_B 11, o8 p1.f_Key.f_Dst.f_B 12, o8 p1.f_Key.f_Dst.f_B 13, o8 p1.f_Key.f_Dst.f_B 14, o8 p1.f_Key.f_Dst.f_B 15, v8 p1.f_Key.f_Proto, v16 p1.f_Key.f_SrcPort, v16 p1.f_Key.f_DstPort, vI p1.f_Length, v8 p1.f_Flags, vB p1.f_Fragment]) hM rfl rfl) rfl fun v w6 hv => ?_
 clear hM
 obtain ⟨g5, rfl, hM, hf⟩ := hv
 refine va rfl rfl ?_
 refine va rfl rfl ?_
 refine nt hQ4 ?_
 clear hQ4 Q4
 refine KC.seqH fun Q8 hQ8 => ?_
 refine KC.block ?_
 refine sr fun Q9 hQ9 => ?_
 refine vm rfl rfl ?_
 refine RL.val (O.peqn Try.underlying27 rfl rfl) rfl ?_
 refine va rfl rfl ?_
 refine nt hQ9 ?_
 clear hQ9 Q9
 refine KC.condT rfl ?_
 refine sr fun Q10 hQ10 => ?_
 refine va rfl rfl ?_
 refine va rfl rfl ?_
 refine nt hQ10 ?_
 clear hQ10 Q10
 refine KC.ret ?_
 refine KQ.blk_r ?_
 refine KQ.thr hQ8 ?_
 clear hQ8 Q8
 have hE := Option.some.inj hF
 clear hF
 subst hE
 replace hM := hM.nilrow 46 44
 replace hM := hM.pick [1] rfl (by decide)
 refine KQ.rets Try.results8 (RVs.cons (RV.tm rfl) (RVs.cons (RV.tm rfl) RVs.nil)) ?_
 exact ⟨_, rfl, none, 0, rfl, hM⟩
set_option maxRecDepth 100000 in
set_option maxHeartbeats 40000000 in
theorem c_cache_Cache_Next_N (w : World) (r : Int × Bool) (hF : F_cache_Cache_Next_N = some r) :
  CallsR Try.prog 20 [.pointer none] w (fun v w' => v = .tuple #[v64 r.1, vB r.2] ∧ Mem w [] w' []) := by
 refine calls_KC Try.func20 rfl Try.ntmps20 rfl ?_
 have hM := Mem.init w
 unfold F_cache_Cache_Next_N at hF
 refine sr fun Q1 hQ1 => ?_
 refine va rfl rfl ?_
 refine va rfl rfl ?_
 refine nt hQ1 ?_
 clear hQ1 Q1
 refine KC.seqH fun Q2 hQ2 => ?_
 refine sr fun Q3 hQ3 => ?_
 refine vm rfl rfl ?_
 refine RL.val (O.peqn Try.underlying27 rfl rfl) rfl ?_
 refine nt hQ3 ?_
 clear hQ3 Q3
 refine KC.condT rfl ?_
 refine sr fun Q4 hQ4 => ?_
 refine va rfl rfl ?_
 refine va rfl rfl ?_
 refine nt hQ4 ?_
 clear hQ4 Q4
 refine KC.ret ?_
 refine KQ.thr hQ2 ?_
 clear hQ2 Q2
 have hE := Option.some.inj hF
 clear hF
 subst hE
 refine KQ.rets Try.results20 (RVs.cons (RV.tm rfl) (RVs.cons (RV.tm rfl) RVs.nil)) ?_
 exact ⟨_, rfl, rfl, hM⟩
set_option maxRecDepth 100000 in
set_option maxHeartbeats 40000000 in
theorem c_cache_Cache_Get_N (w : World) (kv1 : T_packet_Key) (r : T_flow_Record × Bool) (hF : F_cache_Cache_Get_N kv1 = some r) :
  CallsR Try.prog 21 [.pointer none, .agg #[vB kv1.f_Src.f_Six, o8 kv1.f_Src.f_B 0, o8 kv1.f_Src.f_B 1, o8 kv1.f_Src.f_B 2, o8 kv1.f_Src.f_B 3, o8 kv1.f_Src.f_B 4, o8 kv1.f_Src.f_B 5, o8 kv1.f_Src.f_B 6, o8 kv1.f_Src.f_B 7, o8 kv1.f_Src.f_B 8, o8 kv1.f_Src.f_B 9, o8 kv1.f_Src.f_B 10, o8 kv1.f_Src.f_B 11, o8 kv1.f_Src.f_B 12, o8 kv1.f_Src.f_B 13, o8 kv1.f_Src.f_B 14, o8 kv1.f_Src.f_B 15, vB kv1.f_Dst.f_Six, o8 kv1.f_Dst.f_B 0, o8 kv1.f_Dst.f_B 1, o8 kv1.f_Dst.f_B 2, o8 kv1.f_Dst.f_B 3, o8 kv1.f_Dst.f_B 4, o8 kv1.f_Dst.f_B 5, o8 kv1.f_Dst.f_B 6, o8 kv1.f_Dst.f_B 7, o8 kv1.f_Dst.f_B 8, o8 kv1.f_Dst.f_B 9, o8 kv1.f_Dst.f_B 10, o8 kv1.f_Dst.f_B 11, o8 kv1.f_Dst.f_B 12, o8 kv1.f_Dst.f_B 13, o8 kv1.f_Dst.f_B 14, o8 kv1.f_Dst.f_B 15, v8 kv1.f_Proto, v16 kv1.f_SrcPort, v16 kv1.f_DstPort]] w (fun v w' => v = .tuple #[.agg #[vB r.1.f_Key.f_Src.f_Six, o8 r.1.f_Key.f_Src.f_B 0, o8 r.1.f_Key.f_Src.f_B 1, o8 r.1.f_Key.f_Src.f_B 2, o8 r.1.f_Key.f_Src.f_B 3, o8 r.1.f_Key.f_Src.f_B 4, o8 r.1.f_Key.f_Src.f_B 5, o8 r.1.f_Key.f_Src.f_B 6, o8 r.1.f_Key.f_Src.f_B 7, o8 r.1.f_Key.f_Src.f_B 8, o8 r.1.f_Key.f_Src.f_B 9, o8 r.1.f_Key.f_Src.f_B 10, o8 r.1.f_Key.f_Src.f_B 11, o8 r.1.f_Key.f_Src.f_B 12, o8 r.1.f_Key.f_Src.f_B 13, o8 r.1.f_Key.f_Src.f_B 14, o8 r.1.f_Key.f_Src.f_B 15, vB r.1.f_Key.f_Dst.f_Six, o8 r.1.f_Key.f_Dst.f_B 0, o8 r.1.f_Key.f_Dst.f_B 1, o8 r.1.f_Key.f_Dst.f_B 2, o8 r.1.f_Key.f_Dst.f_B 3, o8 r.1.f_Key.f_Dst.f_B 4, o8 r.1.f_Key.f_Dst.f_B 5, o8 r.1.f_Key.f_Dst.f_B 6, o8 r.1.f_Key.f_Dst.f_B 7, o8 r.1.f_Key.f_Dst.f_B 8, o8 r.1.f_Key.f_Dst.f_B 9, o8 r.1.f_Key.f_Dst.f_B 10, o8 r.1.f_Key.f_Dst.f_B 11, o8 r.1.f_Key.f_Dst.f_B 12, o8 r.1.f_Key.f_Dst.f_B 13, o8 r.1.f_Key.f_Dst.f_B 14, o8 r.1.f_Key.f_Dst.f_B 15, v8 r.1.f_Key.f_Proto, v16 r.1.f_Key.f_SrcPort, v16 r.1.f_Key.f_DstPort, v64 r.1.f_Packets, v64 r.1.f_Bytes, v64 r.1.f_First, v64 r.1.f_Last, v8 r.1.f_Flags, v8 r.1.f_Reason, v8 r.1.f_Class], vB r.2] ∧ Mem w [] w' []) := by
 refine calls_KC Try.func21 rfl Try.ntmps21 rfl ?_
 have hM := Mem.init w
 unfold F_cache_Cache_Get_N at hF
 refine sr fun Q2 hQ2 => ?_
 refine RL.eff (E.box (vs := [vB kv1.f_Src.f_Six, o8 kv1.f_Src.f_B 0, o8 kv1.f_Src.f_B 1, o8 kv1.f_Src.f_B 2, o8 kv1.f_Src.f_B 3, o8 kv1.f_Src.f_B 4, o8 kv1.f_Src.f_B 5, o8 kv1.f_Src.f_B 6, o8 kv1.f_Src.f_B 7, o8 kv1.f_Src.f_B 8, o8 kv1.f_Src.f_B 9, o8 kv1.f_Src.f_B 10, o8 kv1.f_Src.f_B 11, o8 kv1.f_Src.f_B 12, o8 kv1.f_Src.f_B 13, o8 kv1.f_Src.f_B 14, o8 kv1.f_Src.f_B 15, vB kv1.f_Dst.f_Six, o8 kv1.f_Dst.f_B 0, o8 kv1.f_Dst.f_B 1, o8 kv1.f_Dst.f_B 2, o8 kv1.f_Dst.f_B 3, o8 kv1.f_Dst.f_B 4, o8 kv1.f_Dst.f_B 5, o8 kv1.f_Dst.f_B 6, o8 kv1.f_Dst.f_B 7, o8 kv1.f_Dst.f_B 8, o8 kv1.f_Dst.f_B 9, o8 kv1.f_Dst.f_B 10, o8 kv1.f_Dst.f_B 11, o8 kv1.f_Dst.f_B 12, o8 kv1.f_Dst.f_B 13, o8 kv1.f_Dst.f_B 14, o8 kv1.f_Dst.f_B 15, v8 kv1.f_Proto, v16 kv1.f_SrcPort, v16 kv1.f_DstPort]) hM rfl rfl) rfl fun v w4 hv => ?_
 clear hM
 obtain ⟨g3, rfl, hM, hf⟩ := hv
 refine RL.eff (E.alloc hM ze46) rfl fun v w7 hv => ?_
 clear hM
 obtain ⟨g6, rfl, hM, hf⟩ := hv
 refine va rfl rfl ?_
 refine nt hQ2 ?_
 clear hQ2 Q2
 refine KC.seqH fun Q9 hQ9 => ?_
 refine sr fun Q10 hQ10 => ?_
 refine vm rfl rfl ?_
 refine RL.val (O.peqn Try.underlying27 rfl rfl) rfl ?_
 refine nt hQ10 ?_
 clear hQ10 Q10
 refine KC.condT rfl ?_
 refine sr fun Q11 hQ11 => ?_
 refine RL.val (O.bld (cs := [vB false, o8 (List.replicate 16 0) 0, o8 (List.replicate 16 0) 1, o8 (List.replicate 16 0) 2, o8 (List.replicate 16 0) 3, o8 (List.replicate 16 0) 4, o8 (List.replicate 16 0) 5, o8 (List.replicate 16 0) 6, o8 (List.replicate 16 0) 7, o8 (List.replicate 16 0) 8, o8 (List.replicate 16 0) 9, o8 (List.replicate 16 0) 10, o8 (List.replicate 16 0) 11, o8 (List.replicate 16 0) 12, o8 (List.replicate 16 0) 13, o8 (List.replicate 16 0) 14, o8 (List.replicate 16 0) 15, vB false, o8 (List.replicate 16 0) 0, o8 (List.replicate 16 0) 1, o8 (List.replicate 16 0) 2, o8 (List.replicate 16 0) 3, o8 (List.replicate 16 0) 4, o8 (List.replicate 16 0) 5, o8 (List.replicate 16 0) 6, o8 (List.replicate 16 0) 7, o8 (List.replicate 16 0) 8, o8 (List.replicate 16 0) 9, o8 (List.replicate 16 0) 10, o8 (List.replicate 16 0) 11, o8 (List.replicate 16 0) 12, o8 (List.replicate 16 0) 13, o8 (List.replicate 16 0) 14, o8 (List.replicate 16 0) 15, v8 0, v16 0, v16 0, v64 0, v64 0, v64 0, v64 0, v8 0, v8 0, v8 0]) bt46 rfl (by kernel_rfl)) rfl ?_
 refine RL.effs (E.stB (j := 1) (off := 0) (vs := [vB false, o8 (List.replicate 16 0) 0, o8 (List.replicate 16 0) 1, o8 (List.replicate 16 0) 2, o8 (List.replicate 16 0) 3, o8 (List.replicate 16 0) 4, o8 (List.replicate 16 0) 5, o8 (List.replicate 16 0) 6, o8 (List.replicate 16 0) 7, o8 (List.replicate 16 0) 8, o8 (List.replicate 16 0) 9, o8 (List.replicate 16 0) 10, o8 (List.replicate 16 0) 11, o8 (List.replicate 16 0) 12, o8 (List.replicate 16 0) 13, o8 (List.replicate 16 0) 14, o8 (List.replicate 16 0) 15, vB false, o8 (List.replicate 16 0) 0, o8 (List.replicate 16 0) 1, o8 (List.replicate 16 0) 2, o8 (List.replicate 16 0) 3, o8 (List.replicate 16 0) 4, o8 (List.replicate 16 0) 5, o8 (List.replicate 16 0) 6, o8 (List.replicate 16 0) 7, o8 (List.replicate 16 0) 8, o8 (List.replicate 16 0) 9, o8 (List.replicate 16 0) 10, o8 (List.replicate 16 0) 11, o8 (List.replicate 16 0) 12, o8 (List.replicate 16 0) 13, o8 (List.replicate 16 0) 14, o8 (List.replicate 16 0) 15, v8 0, v16 0, v16 0, v64 0, v64 0, v64 0, v64 0, v8 0, v8 0, v8 0]) (cs' := [vB false, o8 (List.replicate 16 0) 0, o8 (List.replicate 16 0) 1, o8 (List.replicate 16 0) 2, o8 (List.replicate 16 0) 3, o8 (List.replicate 16 0) 4, o8 (List.replicate 16 0) 5, o8 (List.replicate 16 0) 6, o8 (List.replicate 16 0) 7, o8 (List.replicate 16 0) 8, o8 (List.replicate 16 0) 9, o8 (List.replicate 16 0) 10, o8 (List.replicate 16 0) 11, o8 (List.replicate 16 0) 12, o8 (List.replicate 16 0) 13, o8 (List.replicate 16 0) 14, o8 (List.replicate 16 0) 15, vB false, o8 (List.replicate 16 0) 0, o8 (List.replicate 16 0) 1, o8 (List.replicate 16 0) 2, o8 (List.replicate 16 0) 3, o8 (List.replicate 16 0) 4, o8 (List.replicate 16 0) 5, o8 (List.replicate 16 0) 6, o8 (List.replicate 16 0) 7, o8 (List.replicate 16 0) 8, o8 (List.replicate 16 0) 9, o8 (List.replicate 16 0) 10, o8 (List.replicate 16 0) 11, o8 (List.replicate 16 0) 12, o8 (List.replicate 16 0) 13, o8 (List.replicate 16 0) 14, o8 (List.replicate 16 0) 15, v8 0, v16 0, v16 0, v64 0, v64 0, v64 0, v64 0, v8 0, v8 0, v8 0]) hM rfl sz46 rfl (adds_eq [] rfl) rfl rfl (One.all rfl) rfl rfl) fun w12 hM1 => ?_
 clear hM
 have hM := hM1
 clear hM1
 refine va rfl rfl ?_
 refine nt hQ11 ?_
 clear hQ11 Q11
 refine KC.ret ?_
 refine KQ.thr hQ9 ?_
 clear hQ9 Q9
 have hE := Option.some.inj hF
 clear hF
 subst hE
 have hb13 := hM.bx (i := 1) rfl
 replace hM := hM.pick [] rfl (by decide)
 refine KQ.rets Try.results21 (RVs.cons (RV.cN (cs := [vB false, o8 (List.replicate 16 0) 0, o8 (List.replicate 16 0) 1, o8 (List.replicate 16 0) 2, o8 (List.replicate 16 0) 3, o8 (List.replicate 16 0) 4, o8 (List.replicate 16 0) 5, o8 (List.replicate 16 0) 6, o8 (List.replicate 16 0) 7, o8 (List.replicate 16 0) 8, o8 (List.replicate 16 0) 9, o8 (List.replicate 16 0) 10, o8 (List.replicate 16 0) 11, o8 (List.replicate 16 0) 12, o8 (List.replicate 16 0) 13, o8 (List.replicate 16 0) 14, o8 (List.replicate 16 0) 15, vB false, o8 (List.replicate 16 0) 0, o8 (List.replicate 16 0) 1, o8 (List.replicate 16 0) 2, o8 (List.replicate 16 0) 3, o8 (List.replicate 16 0) 4, o8 (List.replicate 16 0) 5, o8 (List.replicate 16 0) 6, o8 (List.replicate 16 0) 7, o8 (List.replicate 16 0) 8, o8 (List.replicate 16 0) 9, o8 (List.replicate 16 0) 10, o8 (List.replicate 16 0) 11, o8 (List.replicate 16 0) 12, o8 (List.replicate 16 0) 13, o8 (List.replicate 16 0) 14, o8 (List.replicate 16 0) 15, v8 0, v16 0, v16 0, v64 0, v64 0, v64 0, v64 0, v8 0, v8 0, v8 0]) rfl ag46 hb13) (RVs.cons (RV.tm rfl) RVs.nil)) ?_
 exact ⟨_, rfl, rfl, hM⟩
set_option maxRecDepth 100000 in
set_option maxHeartbeats 40000000 in
theorem c_cache_Cache_Advance_N (w : World) (tick1 : Int) (r : (List T_flow_Record)) (hF : F_cache_Cache_Advance_N tick1 = some r) :
  CallsR Try.prog 9 [.pointer none, v64 tick1] w (fun v w' => ∃ (A0 : Option Addr) (c0 : Nat), v = .slice A0 (r).length c0 ∧ Mem w [] w' [.row A0 c0 46 44 r.length (r.flatMap e_flow_Record)]) := by
 refine calls_KC Try.func9 rfl Try.ntmps9 rfl ?_
 have hM := Mem.init w
 unfold F_cache_Cache_Advance_N at hF
 refine sr fun Q2 hQ2 => ?_
 refine RL.eff (E.box (vs := [.pointer none]) hM rfl rfl) rfl fun v w4 hv => ?_
 clear hM
 obtain ⟨g3, rfl, hM, hf⟩ := hv
 refine va rfl rfl ?_
 refine nt hQ2 ?_
 clear hQ2 Q2
 refine KC.seqH fun Q6 hQ6 => ?_
 refine KC.cut (fun a w8 => Kn 48 [(1, v64 tick1), (2, .pointer (some ⟨g3, 0, none⟩)), (17, vB true)] a ∧ Mem w [] w8 [.box g3 27 [.pointer none]] ∧ F_cache_Cache_Advance_N_j1 = some r) ?_ ?_
 ·refine KC.region ?_
  refine RL.val (O.load sc27 rfl (Cs.adds [] ((hM.bx (i := 0) rfl)) rfl)) rfl ?_
  refine RL.val (O.peqn Try.underlying27 rfl rfl) rfl ?_
  refine RL.brun1 8 17 true (by kernel_rfl) ?_
  refine RL.nil ?_
  refine KQ.then_k ?_
  exact fun a ha => ⟨ha.less (less_cons rfl (less_cons rfl (less_cons rfl less_nil))), hM, hF⟩
 rintro a w8 ⟨ha, hM, hF⟩
 refine KC.app ha ?_
 clear ha
 unfold F_cache_Cache_Advance_N_j1 at hF
 refine KC.condT rfl ?_
 refine sr fun Q9 hQ9 => ?_
 refine va rfl rfl ?_
 refine nt hQ9 ?_
 clear hQ9 Q9
 refine KC.ret ?_
 refine KQ.thr hQ6 ?_
 clear hQ6 Q6
 have hE := Option.some.inj hF
 clear hF
 subst hE
 replace hM := hM.nilrow 46 44
 replace hM := hM.pick [1] rfl (by decide)
 refine KQ.rets Try.results9 (RVs.cons (RV.tm rfl) RVs.nil) ?_
 exact ⟨_, rfl, none, 0, rfl, hM⟩
set_option maxRecDepth 100000 in
set_option maxHeartbeats 40000000 in
theorem c_cache_Cache_Flush_N (w : World) (r : (List T_flow_Record)) (hF : F_cache_Cache_Flush_N = some r) :
  CallsR Try.prog 11 [.pointer none] w (fun v w' => ∃ (A0 : Option Addr) (c0 : Nat), v = .slice A0 (r).length c0 ∧ Mem w [] w' [.row A0 c0 46 44 r.length (r.flatMap e_flow_Record)]) := by
 refine calls_KC Try.func11 rfl Try.ntmps11 rfl ?_
 have hM := Mem.init w
 unfold F_cache_Cache_Flush_N at hF
 refine sr fun Q1 hQ1 => ?_
 refine va rfl rfl ?_
 refine nt hQ1 ?_
 clear hQ1 Q1
 refine KC.seqH fun Q2 hQ2 => ?_
 refine sr fun Q3 hQ3 => ?_
 refine vm rfl rfl ?_
 refine RL.val (O.peqn Try.underlying27 rfl rfl) rfl ?_
 refine nt hQ3 ?_
 clear hQ3 Q3
 refine KC.condT rfl ?_
 refine sr fun Q4 hQ4 => ?_
 refine va rfl rfl ?_
 refine nt hQ4 ?_
 clear hQ4 Q4
 refine KC.ret ?_
 refine KQ.thr hQ2 ?_
 clear hQ2 Q2
 have hE := Option.some.inj hF
 clear hF
 subst hE
 replace hM := hM.nilrow 46 44
 refine KQ.rets Try.results11 (RVs.cons (RV.tm rfl) RVs.nil) ?_
 exact ⟨_, rfl, none, 0, rfl, hM⟩
set_option maxRecDepth 100000 in
set_option maxHeartbeats 40000000 in
theorem c_cache_Cache_All_N (w : World) (r : (List T_flow_Record)) (hF : F_cache_Cache_All_N = some r) :
  CallsR Try.prog 17 [.pointer none] w (fun v w' => ∃ (A0 : Option Addr) (c0 : Nat), v = .slice A0 (r).length c0 ∧ Mem w [] w' [.row A0 c0 46 44 r.length (r.flatMap e_flow_Record)]) := by
 refine calls_KC Try.func17 rfl Try.ntmps17 rfl ?_
 have hM := Mem.init w
 unfold F_cache_Cache_All_N at hF
 refine sr fun Q1 hQ1 => ?_
 refine va rfl rfl ?_
 refine nt hQ1 ?_
 clear hQ1 Q1
 refine KC.seqH fun Q2 hQ2 => ?_
 refine sr fun Q3 hQ3 => ?_
 refine vm rfl rfl ?_
 refine RL.val (O.peqn Try.underlying27 rfl rfl) rfl ?_
 refine nt hQ3 ?_
 clear hQ3 Q3
 refine KC.condT rfl ?_
 refine sr fun Q4 hQ4 => ?_
 refine va rfl rfl ?_
 refine nt hQ4 ?_
 clear hQ4 Q4
 refine KC.ret ?_
 refine KQ.thr hQ2 ?_
 clear hQ2 Q2
 have hE := Option.some.inj hF
 clear hF
 subst hE
 replace hM := hM.nilrow 46 44
 refine KQ.rets Try.results17 (RVs.cons (RV.tm rfl) RVs.nil) ?_
 exact ⟨_, rfl, none, 0, rfl, hM⟩
set_option maxRecDepth 100000 in
set_option maxHeartbeats 40000000 in
theorem c_cache_Cache_Tick_N (w : World) (r : Int) (hF : F_cache_Cache_Tick_N = some r) :
  CallsR Try.prog 12 [.pointer none] w (fun v w' => v = v64 r ∧ Mem w [] w' []) := by
 refine calls_KC Try.func12 rfl Try.ntmps12 rfl ?_
 have hM := Mem.init w
 unfold F_cache_Cache_Tick_N at hF
 refine sr fun Q1 hQ1 => ?_
 refine va rfl rfl ?_
 refine nt hQ1 ?_
 clear hQ1 Q1
 refine KC.seqH fun Q2 hQ2 => ?_
 refine sr fun Q3 hQ3 => ?_
 refine vm rfl rfl ?_
 refine RL.val (O.peqn Try.underlying27 rfl rfl) rfl ?_
 refine nt hQ3 ?_
 clear hQ3 Q3
 refine KC.condT rfl ?_
 refine sr fun Q4 hQ4 => ?_
 refine va rfl rfl ?_
 refine nt hQ4 ?_
 clear hQ4 Q4
 refine KC.ret ?_
 refine KQ.thr hQ2 ?_
 clear hQ2 Q2
 have hE := Option.some.inj hF
 clear hF
 subst hE
 refine KQ.rets Try.results12 (RVs.cons (RV.tm rfl) RVs.nil) ?_
 exact ⟨_, rfl, rfl, hM⟩
set_option maxRecDepth 100000 in
set_option maxHeartbeats 40000000 in
theorem c_cache_Cache_Clear_N (w : World) (r : Int) (hF : F_cache_Cache_Clear_N = some r) :
  CallsR Try.prog 22 [.pointer none] w (fun v w' => v = vI r ∧ Mem w [] w' []) := by
 refine calls_KC Try.func22 rfl Try.ntmps22 rfl ?_
 have hM := Mem.init w
 unfold F_cache_Cache_Clear_N at hF
 refine sr fun Q1 hQ1 => ?_
 refine va rfl rfl ?_
 refine nt hQ1 ?_
 clear hQ1 Q1
 refine KC.seqH fun Q2 hQ2 => ?_
 refine sr fun Q3 hQ3 => ?_
 refine vm rfl rfl ?_
 refine RL.val (O.peqn Try.underlying27 rfl rfl) rfl ?_
 refine nt hQ3 ?_
 clear hQ3 Q3
 refine KC.condT rfl ?_
 refine sr fun Q4 hQ4 => ?_
 refine va rfl rfl ?_
 refine nt hQ4 ?_
 clear hQ4 Q4
 refine KC.ret ?_
 refine KQ.thr hQ2 ?_
 clear hQ2 Q2
 have hE := Option.some.inj hF
 clear hF
 subst hE
 refine KQ.rets Try.results22 (RVs.cons (RV.tm rfl) RVs.nil) ?_
 exact ⟨_, rfl, rfl, hM⟩
end Go.Proofs.Ytkpnocgfhipidaa
