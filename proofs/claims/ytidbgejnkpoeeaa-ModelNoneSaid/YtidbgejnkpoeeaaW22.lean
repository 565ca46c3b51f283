/- Printed by a program of this claim: each call returns what the plain function of its name gives. -/
import Derived.Test.YtidbgejnkpoeeaaW1
import Derived.Test.YtidbgejnkpoeeaaW5
import Derived.Test.YtidbgejnkpoeeaaW17
set_option linter.unusedVariables false
namespace Go.Proofs.Ytidbgejnkpoeeaa
open Go Go.Ox Go.RowKit
set_option maxRecDepth 100000 in
set_option maxHeartbeats 40000000 in
theorem c_model_Model_Span_N (w : World) (r : Int × Int) (hF : F_model_Model_Span_N = some r) :
  CallsR Try.prog 15 [.pointer none] w (fun v w' => v = .tuple #[v64 r.1, v64 r.2] ∧ Mem w [] w' []) := by
 refine calls_KC Try.func15 rfl Try.ntmps15 rfl ?_
 have hM := Mem.init w
 unfold F_model_Model_Span_N at hF
 refine sr fun Q1 hQ1 => ?_
 refine va rfl rfl ?_
 refine va rfl rfl ?_
 refine nt hQ1 ?_
 clear hQ1 Q1
 refine KC.seqH fun Q2 hQ2 => ?_
 refine sr fun Q3 hQ3 => ?_
 refine vm rfl rfl ?_
 refine RL.val (O.peqn Try.underlying25 rfl rfl) rfl ?_
 refine nt hQ3 ?_
 clear hQ3 Q3
 refine KC.condT rfl ?_
 refine sr fun Q4 hQ4 => ?_
 refine va rfl rfl ?_
 refine va rfl rfl ?_
 refine nt hQ4 ?_
 clear hQ4 Q4
 refine KC.ret ?_
 refine KQ.thr hQ2 ?_
 clear hQ2 Q2
 have hE := Option.some.inj hF
 clear hF
 subst hE
 refine KQ.rets Try.results15 (RVs.cons (RV.tm rfl) (RVs.cons (RV.tm rfl) RVs.nil)) ?_
 exact ⟨_, rfl, rfl, hM⟩
set_option maxRecDepth 100000 in
set_option maxHeartbeats 40000000 in
theorem c_model_Model_Step_N (w : World) (nv1 : T_model_Note) (A2 : Option Addr) (c3 : Nat) (hr4 : Rd w A2 c3 44 nv1.f_Records.length (nv1.f_Records.flatMap e_flow_Record)) (r : Int) (hF : F_model_Model_Step_N nv1 = some r) :
  CallsR Try.prog 8 [.pointer none, .agg #[vI nv1.f_Kind, vB nv1.f_Key.f_Src.f_Six, o8 nv1.f_Key.f_Src.f_B 0, o8 nv1.f_Key.f_Src.f_B 1, o8 nv1.f_Key.f_Src.f_B 2, o8 nv1.f_Key.f_Src.f_B 3, o8 nv1.f_Key.f_Src.f_B 4, o8 nv1.f_Key.f_Src.f_B 5, o8 nv1.f_Key.f_Src.f_B 6, o8 nv1.f_Key.f_Src.f_B 7, o8 nv1.f_Key.f_Src.f_B 8, o8 nv1.f_Key.f_Src.f_B 9, o8 nv1.f_Key.f_Src.f_B 10, o8 nv1.f_Key.f_Src.f_B 11, o8 nv1.f_Key.f_Src.f_B 12, o8 nv1.f_Key.f_Src.f_B 13, o8 nv1.f_Key.f_Src.f_B 14, o8 nv1.f_Key.f_Src.f_B 15, vB nv1.f_Key.f_Dst.f_Six, o8 nv1.f_Key.f_Dst.f_B 0, o8 nv1.f_Key.f_Dst.f_B 1, o8 nv1.f_Key.f_Dst.f_B 2, o8 nv1.f_Key.f_Dst.f_B 3, o8 nv1.f_Key.f_Dst.f_B 4, o8 nv1.f_Key.f_Dst.f_B 5, o8 nv1.f_Key.f_Dst.f_B 6, o8 nv1.f_Key.f_Dst.f_B 7, o8 nv1.f_Key.f_Dst.f_B 8, o8 nv1.f_Key.f_Dst.f_B 9, o8 nv1.f_Key.f_Dst.f_B 10, o8 nv1.f_Key.f_Dst.f_B 11, o8 nv1.f_Key.f_Dst.f_B 12, o8 nv1.f_Key.f_Dst.f_B 13, o8 nv1.f_Key.f_Dst.f_B 14, o8 nv1.f_Key.f_Dst.f_B 15, v8 nv1.f_Key.f_Proto, v16 nv1.f_Key.f_SrcPort, v16 nv1.f_Key.f_DstPort, v64 nv1.f_Total.f_Packets, v64 nv1.f_Total.f_Bytes, .slice A2 (nv1.f_Records).length c3, v32 nv1.f_Epoch, v64 nv1.f_N, v64 nv1.f_First, v64 nv1.f_Next]] w (fun v w' => v = vI r ∧ Mem w [] w' []) := by
 refine calls_KC Try.func8 rfl Try.ntmps8 rfl ?_
 have hM := Mem.init w
 unfold F_model_Model_Step_N at hF
 refine sr fun Q5 hQ5 => ?_
 refine RL.eff (E.box (vs := [vI nv1.f_Kind, vB nv1.f_Key.f_Src.f_Six, o8 nv1.f_Key.f_Src.f_B 0, o8 nv1.f_Key.f_Src.f_B 1, o8 nv1.f_Key.f_Src.f_B 2, o8 nv1.f_Key.f_Src.f_B 3, o8 nv1.f_Key.f_Src.f_B 4, o8 nv1.f_Key.f_Src.f_B 5, o8 nv1.f_Key.f_Src.f_B 6, o8 nv1.f_Key.f_Src.f_B 7, o8 nv1.f_Key.f_Src.f_B 8, o8 nv1.f_Key.f_Src.f_B 9, o8 nv1.f_Key.f_Src.f_B 10, o8 nv1.f_Key.f_Src.f_B 11, o8 nv1.f_Key.f_Src.f_B 12, o8 nv1.f_Key.f_Src.f_B 13, o8 nv1.f_Key.f_Src.f_B 14, o8 nv1.f_Key.f_Src.f_B 15, vB nv1.f_Key.f_Dst.f_Six, o8 nv1.f_Key.f_Dst.f_B 0, o8 nv1.f_Key.f_Dst.f_B 1, o8 nv1.f_Key.f_Dst.f_B 2, o8 nv1.f_Key.f_Dst.f_B 3, o8 nv1.f_Key.f_Dst.f_B 4, o8 nv1.f_Key.f_Dst.f_B 5, o8 nv1.f_Key.f_Dst.f_B 6, o8 nv1.f_Key.f_Dst.f_B 7, o8 nv1.f_Key.f_Dst.f_B 8, o8 nv1.f_Key.f_Dst.f_B 9, o8 nv1.f_Key.f_Dst.f_B 10, o8 nv1.f_Key.f_Dst.f_B 11, o8 nv1.f_Key.f_Dst.f_B 12, o8 nv1.f_Key.f_Dst.f_B 13, o8 nv1.f_Key.f_Dst.f_B 14, o8 nv1.f_Key.f_Dst.f_B 15, v8 nv1.f_Key.f_Proto, v16 nv1.f_Key.f_SrcPort, v16 nv1.f_Key.f_DstPort, v64 nv1.f_Total.f_Packets, v64 nv1.f_Total.f_Bytes, .slice A2 (nv1.f_Records).length c3, v32 nv1.f_Epoch, v64 nv1.f_N, v64 nv1.f_First, v64 nv1.f_Next]) hM rfl rfl) rfl fun v w7 hv => ?_
 clear hM
 obtain ⟨g6, rfl, hM, hf⟩ := hv
 refine va rfl rfl ?_
 refine nt hQ5 ?_
 clear hQ5 Q5
 refine KC.seqH fun Q9 hQ9 => ?_
 refine sr fun Q10 hQ10 => ?_
 refine vm rfl rfl ?_
 refine RL.val (O.peqn Try.underlying25 rfl rfl) rfl ?_
 refine nt hQ10 ?_
 clear hQ10 Q10
 refine KC.condT rfl ?_
 refine sr fun Q11 hQ11 => ?_
 refine va rfl rfl ?_
 refine nt hQ11 ?_
 clear hQ11 Q11
 refine KC.ret ?_
 refine KQ.thr hQ9 ?_
 clear hQ9 Q9
 have hE := Option.some.inj hF
 clear hF
 subst hE
 replace hM := hM.pick [] rfl (by decide)
 refine KQ.rets Try.results8 (RVs.cons (RV.tm rfl) RVs.nil) ?_
 exact ⟨_, rfl, rfl, hM⟩
set_option maxRecDepth 100000 in
set_option maxHeartbeats 40000000 in
theorem c_model_Model_Of_N (w : World) (kv1 : T_packet_Key) (r : T_model_Parts) (hF : F_model_Model_Of_N kv1 = some r) :
  CallsR Try.prog 14 [.pointer none, .agg #[vB kv1.f_Src.f_Six, o8 kv1.f_Src.f_B 0, o8 kv1.f_Src.f_B 1, o8 kv1.f_Src.f_B 2, o8 kv1.f_Src.f_B 3, o8 kv1.f_Src.f_B 4, o8 kv1.f_Src.f_B 5, o8 kv1.f_Src.f_B 6, o8 kv1.f_Src.f_B 7, o8 kv1.f_Src.f_B 8, o8 kv1.f_Src.f_B 9, o8 kv1.f_Src.f_B 10, o8 kv1.f_Src.f_B 11, o8 kv1.f_Src.f_B 12, o8 kv1.f_Src.f_B 13, o8 kv1.f_Src.f_B 14, o8 kv1.f_Src.f_B 15, vB kv1.f_Dst.f_Six, o8 kv1.f_Dst.f_B 0, o8 kv1.f_Dst.f_B 1, o8 kv1.f_Dst.f_B 2, o8 kv1.f_Dst.f_B 3, o8 kv1.f_Dst.f_B 4, o8 kv1.f_Dst.f_B 5, o8 kv1.f_Dst.f_B 6, o8 kv1.f_Dst.f_B 7, o8 kv1.f_Dst.f_B 8, o8 kv1.f_Dst.f_B 9, o8 kv1.f_Dst.f_B 10, o8 kv1.f_Dst.f_B 11, o8 kv1.f_Dst.f_B 12, o8 kv1.f_Dst.f_B 13, o8 kv1.f_Dst.f_B 14, o8 kv1.f_Dst.f_B 15, v8 kv1.f_Proto, v16 kv1.f_SrcPort, v16 kv1.f_DstPort]] w (fun v w' => v = .agg #[v64 r.f_Forwarded.f_Packets, v64 r.f_Forwarded.f_Bytes, v64 r.f_Cached.f_Packets, v64 r.f_Cached.f_Bytes, v64 r.f_Volatile.f_Packets, v64 r.f_Volatile.f_Bytes, v64 r.f_Durable.f_Packets, v64 r.f_Durable.f_Bytes, v64 r.f_Lost.f_Packets, v64 r.f_Lost.f_Bytes, v64 r.f_Credited.f_Packets, v64 r.f_Credited.f_Bytes] ∧ Mem w [] w' []) := by
 refine calls_KC Try.func14 rfl Try.ntmps14 rfl ?_
 have hM := Mem.init w
 unfold F_model_Model_Of_N at hF
 refine sr fun Q2 hQ2 => ?_
 refine RL.eff (E.box (vs := [vB kv1.f_Src.f_Six, o8 kv1.f_Src.f_B 0, o8 kv1.f_Src.f_B 1, o8 kv1.f_Src.f_B 2, o8 kv1.f_Src.f_B 3, o8 kv1.f_Src.f_B 4, o8 kv1.f_Src.f_B 5, o8 kv1.f_Src.f_B 6, o8 kv1.f_Src.f_B 7, o8 kv1.f_Src.f_B 8, o8 kv1.f_Src.f_B 9, o8 kv1.f_Src.f_B 10, o8 kv1.f_Src.f_B 11, o8 kv1.f_Src.f_B 12, o8 kv1.f_Src.f_B 13, o8 kv1.f_Src.f_B 14, o8 kv1.f_Src.f_B 15, vB kv1.f_Dst.f_Six, o8 kv1.f_Dst.f_B 0, o8 kv1.f_Dst.f_B 1, o8 kv1.f_Dst.f_B 2, o8 kv1.f_Dst.f_B 3, o8 kv1.f_Dst.f_B 4, o8 kv1.f_Dst.f_B 5, o8 kv1.f_Dst.f_B 6, o8 kv1.f_Dst.f_B 7, o8 kv1.f_Dst.f_B 8, o8 kv1.f_Dst.f_B 9, o8 kv1.f_Dst.f_B 10, o8 kv1.f_Dst.f_B 11, o8 kv1.f_Dst.f_B 12, o8 kv1.f_Dst.f_B 13, o8 kv1.f_Dst.f_B 14, o8 kv1.f_Dst.f_B 15, v8 kv1.f_Proto, v16 kv1.f_SrcPort, v16 kv1.f_DstPort]) hM rfl rfl) rfl fun v w4 hv => ?_
 clear hM
 obtain ⟨g3, rfl, hM, hf⟩ := hv
 refine RL.eff (E.alloc hM ze54) rfl fun v w7 hv => ?_
 clear hM
 obtain ⟨g6, rfl, hM, hf⟩ := hv
 refine nt hQ2 ?_
 clear hQ2 Q2
 refine KC.seqH fun Q9 hQ9 => ?_
 refine sr fun Q10 hQ10 => ?_
 refine vm rfl rfl ?_
 refine RL.val (O.peqn Try.underlying25 rfl rfl) rfl ?_
 refine nt hQ10 ?_
 clear hQ10 Q10
 refine KC.condT rfl ?_
 refine sr fun Q11 hQ11 => ?_
 refine RL.val (O.loadN (cs := [v64 0, v64 0, v64 0, v64 0, v64 0, v64 0, v64 0, v64 0, v64 0, v64 0, v64 0, v64 0]) ag54 rfl (Cs.addsN [] ((hM.bx (i := 1) rfl)) rfl)) rfl ?_
 refine RL.effs (E.stB (j := 1) (off := 0) (vs := [v64 0, v64 0, v64 0, v64 0, v64 0, v64 0, v64 0, v64 0, v64 0, v64 0, v64 0, v64 0]) (cs' := [v64 0, v64 0, v64 0, v64 0, v64 0, v64 0, v64 0, v64 0, v64 0, v64 0, v64 0, v64 0]) hM rfl sz54 rfl (adds_eq [] rfl) rfl rfl (One.all rfl) rfl rfl) fun w12 hM1 => ?_
 clear hM
 have hM := hM1
 clear hM1
 refine nt hQ11 ?_
 clear hQ11 Q11
 refine KC.ret ?_
 refine KQ.thr hQ9 ?_
 clear hQ9 Q9
 have hE := Option.some.inj hF
 clear hF
 subst hE
 have hb13 := hM.bx (i := 1) rfl
 replace hM := hM.pick [] rfl (by decide)
 refine KQ.rets Try.results14 (RVs.cons (RV.cN (cs := [v64 0, v64 0, v64 0, v64 0, v64 0, v64 0, v64 0, v64 0, v64 0, v64 0, v64 0, v64 0]) rfl ag54 hb13) RVs.nil) ?_
 exact ⟨_, rfl, rfl, hM⟩
set_option maxRecDepth 100000 in
set_option maxHeartbeats 40000000 in
theorem c_model_Model_Keys_N (w : World) (r : (List T_packet_Key)) (hF : F_model_Model_Keys_N = some r) :
  CallsR Try.prog 10 [.pointer none] w (fun v w' => ∃ (Ar0 : Option Addr) (cr0 : Nat), v = .slice Ar0 (r).length cr0 ∧ Mem w [] w' [.row Ar0 cr0 34 37 r.length (r.flatMap e_packet_Key)]) := by
 refine calls_KC Try.func10 rfl Try.ntmps10 rfl ?_
 have hM := Mem.init w
 unfold F_model_Model_Keys_N at hF
 refine sr fun Q1 hQ1 => ?_
 refine va rfl rfl ?_
 refine nt hQ1 ?_
 clear hQ1 Q1
 refine KC.seqH fun Q2 hQ2 => ?_
 refine sr fun Q3 hQ3 => ?_
 refine vm rfl rfl ?_
 refine RL.val (O.peqn Try.underlying25 rfl rfl) rfl ?_
 refine nt hQ3 ?_
 clear hQ3 Q3
 refine KC.condT rfl ?_
 refine sr fun Q4 hQ4 => ?_
 refine va rfl rfl ?_
 refine nt hQ4 ?_
 clear hQ4 Q4
 refine KC.ret ?_
 refine KQ.thr hQ2 ?_
 clear hQ2 Q2
 have hE := Option.some.inj hF
 clear hF
 subst hE
 replace hM := hM.nilrow 34 37
 refine KQ.rets Try.results10 (RVs.cons (RV.tm rfl) RVs.nil) ?_
 exact ⟨_, rfl, none, 0, rfl, hM⟩
set_option maxRecDepth 100000 in
set_option maxHeartbeats 40000000 in
theorem c_model_Model_Entries_N (w : World) (r : (List T_model_Entry)) (hF : F_model_Model_Entries_N = some r) :
  CallsR Try.prog 9 [.pointer none] w (fun v w' => ∃ (Ar0 : Option Addr) (cr0 : Nat) (cssr1 : List (List Value)) (Zr1 : List Nat), v = .slice Ar0 (r).length cr0 ∧ Mem w [] w' [.row Ar0 cr0 47 6 r.length cssr1.flatten, .res Zr1 (Els RO_model_Entry 6 r cssr1 Zr1)]) := by
 refine calls_KC Try.func9 rfl Try.ntmps9 rfl ?_
 have hM := Mem.init w
 unfold F_model_Model_Entries_N at hF
 refine sr fun Q1 hQ1 => ?_
 refine va rfl rfl ?_
 refine nt hQ1 ?_
 clear hQ1 Q1
 refine KC.seqH fun Q2 hQ2 => ?_
 refine sr fun Q3 hQ3 => ?_
 refine vm rfl rfl ?_
 refine RL.val (O.peqn Try.underlying25 rfl rfl) rfl ?_
 refine nt hQ3 ?_
 clear hQ3 Q3
 refine KC.condT rfl ?_
 refine sr fun Q4 hQ4 => ?_
 refine va rfl rfl ?_
 refine nt hQ4 ?_
 clear hQ4 Q4
 refine KC.ret ?_
 refine KQ.thr hQ2 ?_
 clear hQ2 Q2
 have hE := Option.some.inj hF
 clear hF
 subst hE
 replace hM := hM.nilrow 47 6
 obtain ⟨Z5, hM⟩ := hM.glue [] [0] rfl rfl (by decide) rfl (Els RO_model_Entry 6 ([] : List T_model_Entry) []) (fun Z w1 _ _ => Els.nil)
 refine KQ.rets Try.results9 (RVs.cons (RV.tm rfl) RVs.nil) ?_
 exact ⟨_, rfl, none, 0, [], Z5, rfl, hM⟩
set_option maxRecDepth 100000 in
set_option maxHeartbeats 40000000 in
theorem c_model_Model_Boot_N (w : World) (r : Int) (hF : F_model_Model_Boot_N = some r) :
  CallsR Try.prog 11 [.pointer none] w (fun v w' => v = v32 r ∧ Mem w [] w' []) := by
 refine calls_KC Try.func11 rfl Try.ntmps11 rfl ?_
 have hM := Mem.init w
 unfold F_model_Model_Boot_N at hF
 refine sr fun Q1 hQ1 => ?_
 refine va rfl rfl ?_
 refine nt hQ1 ?_
 clear hQ1 Q1
 refine KC.seqH fun Q2 hQ2 => ?_
 refine sr fun Q3 hQ3 => ?_
 refine vm rfl rfl ?_
 refine RL.val (O.peqn Try.underlying25 rfl rfl) rfl ?_
 refine nt hQ3 ?_
 clear hQ3 Q3
 refine KC.condT rfl ?_
 refine sr fun Q4 hQ4 => ?_
 refine va rfl rfl ?_
 refine nt hQ4 ?_
 clear hQ4 Q4
 refine KC.ret ?_
 refine KQ.thr hQ2 ?_
 clear hQ2 Q2
 have hE := Option.some.inj hF
 clear hF
 subst hE
 refine KQ.rets Try.results11 (RVs.cons (RV.tm rfl) RVs.nil) ?_
 exact ⟨_, rfl, rfl, hM⟩
set_option maxRecDepth 100000 in
set_option maxHeartbeats 40000000 in
theorem c_model_Model_Copy_N (w : World) (r : Unit) (hF : F_model_Model_Copy_N = some r) :
  CallsR Try.prog 16 [.pointer none] w (fun v w' => v = .pointer none ∧ Mem w [] w' []) := by
 refine calls_KC Try.func16 rfl Try.ntmps16 rfl ?_
 have hM := Mem.init w
 unfold F_model_Model_Copy_N at hF
 refine sr fun Q1 hQ1 => ?_
 refine va rfl rfl ?_
 refine nt hQ1 ?_
 clear hQ1 Q1
 refine KC.seqH fun Q2 hQ2 => ?_
 refine sr fun Q3 hQ3 => ?_
 refine vm rfl rfl ?_
 refine RL.val (O.peqn Try.underlying25 rfl rfl) rfl ?_
 refine nt hQ3 ?_
 clear hQ3 Q3
 refine KC.condT rfl ?_
 refine sr fun Q4 hQ4 => ?_
 refine va rfl rfl ?_
 refine nt hQ4 ?_
 clear hQ4 Q4
 refine KC.ret ?_
 refine KQ.thr hQ2 ?_
 clear hQ2 Q2
 have hE := Option.some.inj hF
 clear hF
 subst hE
 refine KQ.rets Try.results16 (RVs.cons (RV.tm rfl) RVs.nil) ?_
 exact ⟨_, rfl, rfl, hM⟩
set_option maxRecDepth 100000 in
set_option maxHeartbeats 40000000 in
theorem c_law30_ModelNone (w : World) (nv1 : T_model_Note) (A2 : Option Addr) (c3 : Nat) (hr4 : Rd w A2 c3 44 nv1.f_Records.length (nv1.f_Records.flatMap e_flow_Record)) (r : Bool) (hF : F_law30_ModelNone nv1 = some r) :
  CallsR Try.prog 4 [.agg #[vI nv1.f_Kind, vB nv1.f_Key.f_Src.f_Six, o8 nv1.f_Key.f_Src.f_B 0, o8 nv1.f_Key.f_Src.f_B 1, o8 nv1.f_Key.f_Src.f_B 2, o8 nv1.f_Key.f_Src.f_B 3, o8 nv1.f_Key.f_Src.f_B 4, o8 nv1.f_Key.f_Src.f_B 5, o8 nv1.f_Key.f_Src.f_B 6, o8 nv1.f_Key.f_Src.f_B 7, o8 nv1.f_Key.f_Src.f_B 8, o8 nv1.f_Key.f_Src.f_B 9, o8 nv1.f_Key.f_Src.f_B 10, o8 nv1.f_Key.f_Src.f_B 11, o8 nv1.f_Key.f_Src.f_B 12, o8 nv1.f_Key.f_Src.f_B 13, o8 nv1.f_Key.f_Src.f_B 14, o8 nv1.f_Key.f_Src.f_B 15, vB nv1.f_Key.f_Dst.f_Six, o8 nv1.f_Key.f_Dst.f_B 0, o8 nv1.f_Key.f_Dst.f_B 1, o8 nv1.f_Key.f_Dst.f_B 2, o8 nv1.f_Key.f_Dst.f_B 3, o8 nv1.f_Key.f_Dst.f_B 4, o8 nv1.f_Key.f_Dst.f_B 5, o8 nv1.f_Key.f_Dst.f_B 6, o8 nv1.f_Key.f_Dst.f_B 7, o8 nv1.f_Key.f_Dst.f_B 8, o8 nv1.f_Key.f_Dst.f_B 9, o8 nv1.f_Key.f_Dst.f_B 10, o8 nv1.f_Key.f_Dst.f_B 11, o8 nv1.f_Key.f_Dst.f_B 12, o8 nv1.f_Key.f_Dst.f_B 13, o8 nv1.f_Key.f_Dst.f_B 14, o8 nv1.f_Key.f_Dst.f_B 15, v8 nv1.f_Key.f_Proto, v16 nv1.f_Key.f_SrcPort, v16 nv1.f_Key.f_DstPort, v64 nv1.f_Total.f_Packets, v64 nv1.f_Total.f_Bytes, .slice A2 (nv1.f_Records).length c3, v32 nv1.f_Epoch, v64 nv1.f_N, v64 nv1.f_First, v64 nv1.f_Next]] w (fun v w' => v = vB r ∧ Mem w [] w' []) := by
 refine calls_KC Try.func4 rfl Try.ntmps4 rfl ?_
 have hM := Mem.init w
 unfold F_law30_ModelNone at hF
 refine sr fun Q5 hQ5 => ?_
 refine RL.eff (E.box (vs := [vI nv1.f_Kind, vB nv1.f_Key.f_Src.f_Six, o8 nv1.f_Key.f_Src.f_B 0, o8 nv1.f_Key.f_Src.f_B 1, o8 nv1.f_Key.f_Src.f_B 2, o8 nv1.f_Key.f_Src.f_B 3, o8 nv1.f_Key.f_Src.f_B 4, o8 nv1.f_Key.f_Src.f_B 5, o8 nv1.f_Key.f_Src.f_B 6, o8 nv1.f_Key.f_Src.f_B 7, o8 nv1.f_Key.f_Src.f_B 8, o8 nv1.f_Key.f_Src.f_B 9, o8 nv1.f_Key.f_Src.f_B 10, o8 nv1.f_Key.f_Src.f_B 11, o8 nv1.f_Key.f_Src.f_B 12, o8 nv1.f_Key.f_Src.f_B 13, o8 nv1.f_Key.f_Src.f_B 14, o8 nv1.f_Key.f_Src.f_B 15, vB nv1.f_Key.f_Dst.f_Six, o8 nv1.f_Key.f_Dst.f_B 0, o8 nv1.f_Key.f_Dst.f_B 1, o8 nv1.f_Key.f_Dst.f_B 2, o8 nv1.f_Key.f_Dst.f_B 3, o8 nv1.f_Key.f_Dst.f_B 4, o8 nv1.f_Key.f_Dst.f_B 5, o8 nv1.f_Key.f_Dst.f_B 6, o8 nv1.f_Key.f_Dst.f_B 7, o8 nv1.f_Key.f_Dst.f_B 8, o8 nv1.f_Key.f_Dst.f_B 9, o8 nv1.f_Key.f_Dst.f_B 10, o8 nv1.f_Key.f_Dst.f_B 11, o8 nv1.f_Key.f_Dst.f_B 12, o8 nv1.f_Key.f_Dst.f_B 13, o8 nv1.f_Key.f_Dst.f_B 14, o8 nv1.f_Key.f_Dst.f_B 15, v8 nv1.f_Key.f_Proto, v16 nv1.f_Key.f_SrcPort, v16 nv1.f_Key.f_DstPort, v64 nv1.f_Total.f_Packets, v64 nv1.f_Total.f_Bytes, .slice A2 (nv1.f_Records).length c3, v32 nv1.f_Epoch, v64 nv1.f_N, v64 nv1.f_First, v64 nv1.f_Next]) hM rfl rfl) rfl fun v w7 hv => ?_
 clear hM
 obtain ⟨g6, rfl, hM, hf⟩ := hv
 refine va rfl rfl ?_
 refine nt hQ5 ?_
 clear hQ5 Q5
 refine KC.seqH fun Q9 hQ9 => ?_
 refine sr fun Q10 hQ10 => ?_
 refine RL.val (O.fldA fl41_3 (by decide) rfl) rfl ?_
 refine RL.val (O.load sc38 rfl (Cs.adds [40] ((hM.bx (i := 0) rfl)) rfl)) rfl ?_
 refine RL.val (O.len sl38 rfl) rfl ?_
 refine RL.val (O.gtr rfl rfl) rfl ?_
 refine nt hQ10 ?_
 clear hQ10 Q10
 refine KC.cond rfl (fun hc => ?_) (fun hc => ?_)
 ·rw [if_pos hc] at hF
  refine sr fun Q11 hQ11 => ?_
  refine obindE hF fun y12 hx13 hF => ?_
  refine RL.call Try.func6 bd6 rfl rfl (c_law30_works _ _ hx13) fun v w14 hv => ?_
  obtain ⟨rfl, hN15⟩ := hv
  replace hM := hM.call0 hN15
  refine va rfl rfl ?_
  refine nt hQ11 ?_
  clear hQ11 Q11
  refine KC.ret ?_
  refine KQ.thr hQ9 ?_
  clear hQ9 Q9
  have hE := Option.some.inj hF
  clear hF
  subst hE
  replace hM := hM.pick [] rfl (by decide)
  refine KQ.rets Try.results4 (RVs.cons (RV.tm rfl) RVs.nil) ?_
  exact ⟨_, rfl, rfl, hM⟩
 rw [if_neg (ne_true hc)] at hF
 refine KC.skip ?_
 refine KQ.thn hQ9 ?_
 clear hQ9 Q9
 refine sr fun Q16 hQ16 => ?_
 refine va rfl rfl ?_
 refine nt hQ16 ?_
 clear hQ16 Q16
 refine sr fun Q17 hQ17 => ?_
 refine vm rfl rfl ?_
 refine obindE hF fun y18 hx19 hF => ?_
 refine RL.call Try.func15 bd15 rfl rfl (c_model_Model_Span_N _ _ hx19) fun v w20 hv => ?_
 obtain ⟨rfl, hN21⟩ := hv
 replace hM := hM.call0 hN21
 refine vm rfl rfl ?_
 refine RL.val (O.ext rfl rfl) rfl ?_
 refine RL.val (O.ext rfl rfl) rfl ?_
 refine va rfl rfl ?_
 refine va rfl rfl ?_
 refine nt hQ17 ?_
 clear hQ17 Q17
 refine KC.cut (fun a w60 => ∃ (t59 : Bool), Kn 61 [(2, vB t59)] a ∧ Mem w [] w60 [] ∧ F_law30_ModelNone_j1 t59 = some r) ?_ ?_
 ·refine KC.region ?_
  refine vm rfl rfl ?_
  refine RL.val (O.loadN (cs := [vI nv1.f_Kind, vB nv1.f_Key.f_Src.f_Six, o8 nv1.f_Key.f_Src.f_B 0, o8 nv1.f_Key.f_Src.f_B 1, o8 nv1.f_Key.f_Src.f_B 2, o8 nv1.f_Key.f_Src.f_B 3, o8 nv1.f_Key.f_Src.f_B 4, o8 nv1.f_Key.f_Src.f_B 5, o8 nv1.f_Key.f_Src.f_B 6, o8 nv1.f_Key.f_Src.f_B 7, o8 nv1.f_Key.f_Src.f_B 8, o8 nv1.f_Key.f_Src.f_B 9, o8 nv1.f_Key.f_Src.f_B 10, o8 nv1.f_Key.f_Src.f_B 11, o8 nv1.f_Key.f_Src.f_B 12, o8 nv1.f_Key.f_Src.f_B 13, o8 nv1.f_Key.f_Src.f_B 14, o8 nv1.f_Key.f_Src.f_B 15, vB nv1.f_Key.f_Dst.f_Six, o8 nv1.f_Key.f_Dst.f_B 0, o8 nv1.f_Key.f_Dst.f_B 1, o8 nv1.f_Key.f_Dst.f_B 2, o8 nv1.f_Key.f_Dst.f_B 3, o8 nv1.f_Key.f_Dst.f_B 4, o8 nv1.f_Key.f_Dst.f_B 5, o8 nv1.f_Key.f_Dst.f_B 6, o8 nv1.f_Key.f_Dst.f_B 7, o8 nv1.f_Key.f_Dst.f_B 8, o8 nv1.f_Key.f_Dst.f_B 9, o8 nv1.f_Key.f_Dst.f_B 10, o8 nv1.f_Key.f_Dst.f_B 11, o8 nv1.f_Key.f_Dst.f_B 12, o8 nv1.f_Key.f_Dst.f_B 13, o8 nv1.f_Key.f_Dst.f_B 14, o8 nv1.f_Key.f_Dst.f_B 15, v8 nv1.f_Key.f_Proto, v16 nv1.f_Key.f_SrcPort, v16 nv1.f_Key.f_DstPort, v64 nv1.f_Total.f_Packets, v64 nv1.f_Total.f_Bytes, .slice A2 (nv1.f_Records).length c3, v32 nv1.f_Epoch, v64 nv1.f_N, v64 nv1.f_First, v64 nv1.f_Next]) ag41 rfl (Cs.addsN [] ((hM.bx (i := 0) rfl)) rfl)) rfl ?_
  refine obindE hF fun y22 hx23 hF => ?_
  refine RL.call Try.func8 bd8 rfl rfl (c_model_Model_Step_N _ nv1 _ _ (hM.inp hr4 Off.nil) _ hx23) fun v w24 hv => ?_
  obtain ⟨rfl, hN25⟩ := hv
  replace hM := hM.call0 hN25
  refine RL.val (O.eql rfl rfl) rfl ?_
  refine vm rfl rfl ?_
  refine RL.bcase (t := 20) rfl (fun hc => ?_) (fun hc => ?_)
  ·rw [if_pos hc] at hF
   refine RL.gval rfl rfl (O.move rfl) rfl ?_
   refine RL.gval rfl rfl (O.fldA fl41_1 (by decide) rfl) rfl ?_
   refine RL.gval rfl rfl (O.loadN (cs := [vB nv1.f_Key.f_Src.f_Six, o8 nv1.f_Key.f_Src.f_B 0, o8 nv1.f_Key.f_Src.f_B 1, o8 nv1.f_Key.f_Src.f_B 2, o8 nv1.f_Key.f_Src.f_B 3, o8 nv1.f_Key.f_Src.f_B 4, o8 nv1.f_Key.f_Src.f_B 5, o8 nv1.f_Key.f_Src.f_B 6, o8 nv1.f_Key.f_Src.f_B 7, o8 nv1.f_Key.f_Src.f_B 8, o8 nv1.f_Key.f_Src.f_B 9, o8 nv1.f_Key.f_Src.f_B 10, o8 nv1.f_Key.f_Src.f_B 11, o8 nv1.f_Key.f_Src.f_B 12, o8 nv1.f_Key.f_Src.f_B 13, o8 nv1.f_Key.f_Src.f_B 14, o8 nv1.f_Key.f_Src.f_B 15, vB nv1.f_Key.f_Dst.f_Six, o8 nv1.f_Key.f_Dst.f_B 0, o8 nv1.f_Key.f_Dst.f_B 1, o8 nv1.f_Key.f_Dst.f_B 2, o8 nv1.f_Key.f_Dst.f_B 3, o8 nv1.f_Key.f_Dst.f_B 4, o8 nv1.f_Key.f_Dst.f_B 5, o8 nv1.f_Key.f_Dst.f_B 6, o8 nv1.f_Key.f_Dst.f_B 7, o8 nv1.f_Key.f_Dst.f_B 8, o8 nv1.f_Key.f_Dst.f_B 9, o8 nv1.f_Key.f_Dst.f_B 10, o8 nv1.f_Key.f_Dst.f_B 11, o8 nv1.f_Key.f_Dst.f_B 12, o8 nv1.f_Key.f_Dst.f_B 13, o8 nv1.f_Key.f_Dst.f_B 14, o8 nv1.f_Key.f_Dst.f_B 15, v8 nv1.f_Key.f_Proto, v16 nv1.f_Key.f_SrcPort, v16 nv1.f_Key.f_DstPort]) ag34 rfl (Cs.addsN [1] ((hM.bx (i := 0) rfl)) rfl)) rfl ?_
   refine obindE hF fun y26 hx27 hF => ?_
   refine RL.gcall rfl rfl Try.func14 bd14 rfl rfl (c_model_Model_Of_N _ nv1.f_Key _ hx27) fun v w28 hv => ?_
   obtain ⟨rfl, hN29⟩ := hv
   replace hM := hM.call0 hN29
   refine RL.gval rfl rfl (O.bld (cs := [v64 0, v64 0, v64 0, v64 0, v64 0, v64 0, v64 0, v64 0, v64 0, v64 0, v64 0, v64 0]) bt54 rfl (by kernel_rfl)) rfl ?_
   refine RL.gval rfl rfl (O.steq (cs := [v64 y26.f_Forwarded.f_Packets, v64 y26.f_Forwarded.f_Bytes, v64 y26.f_Cached.f_Packets, v64 y26.f_Cached.f_Bytes, v64 y26.f_Volatile.f_Packets, v64 y26.f_Volatile.f_Bytes, v64 y26.f_Durable.f_Packets, v64 y26.f_Durable.f_Bytes, v64 y26.f_Lost.f_Packets, v64 y26.f_Lost.f_Bytes, v64 y26.f_Credited.f_Packets, v64 y26.f_Credited.f_Bytes]) (cs' := [v64 0, v64 0, v64 0, v64 0, v64 0, v64 0, v64 0, v64 0, v64 0, v64 0, v64 0, v64 0]) (by kernel_rfl) rfl rfl (Q54t y26 (T_model_Parts.mk (T_flow_Total.mk 0 0) (T_flow_Total.mk 0 0) (T_flow_Total.mk 0 0) (T_flow_Total.mk 0 0) (T_flow_Total.mk 0 0) (T_flow_Total.mk 0 0)) _ rfl rfl)) rfl ?_
   refine RL.val (O.pickt rfl rfl) rfl ?_
   refine vm rfl rfl ?_
   refine RL.bcase (t := 28) rfl (fun hc => ?_) (fun hc => ?_)
   ·rw [if_pos hc] at hF
    refine RL.gval rfl rfl (O.move rfl) rfl ?_
    refine obindE hF fun y30 hx31 hF => ?_
    refine RL.gcall rfl rfl Try.func10 bd10 rfl rfl (c_model_Model_Keys_N _ _ hx31) fun v w32 hv => ?_
    obtain ⟨A34, c35, rfl, hN33⟩ := hv
    replace hM := hM.call hN33
    refine RL.gval rfl rfl (O.len sl44 rfl) rfl ?_
    refine RL.gval rfl rfl (O.eql rfl rfl) rfl ?_
    refine RL.val (O.pickt rfl rfl) rfl ?_
    refine vm rfl rfl ?_
    refine RL.bcase (t := 34) rfl (fun hc => ?_) (fun hc => ?_)
    ·rw [if_pos hc] at hF
     refine RL.gval rfl rfl (O.move rfl) rfl ?_
     refine obindE hF fun y37 hx38 hF => ?_
     refine RL.gcall rfl rfl Try.func9 bd9 rfl rfl (c_model_Model_Entries_N _ _ hx38) fun v w39 hv => ?_
     obtain ⟨A41, c42, css44, Z45, rfl, hN40⟩ := hv
     replace hM := hM.call hN40
     refine RL.gval rfl rfl (O.len sl42 rfl) rfl ?_
     refine RL.gval rfl rfl (O.eql rfl rfl) rfl ?_
     refine RL.val (O.pickt rfl rfl) rfl ?_
     refine vm rfl rfl ?_
     refine RL.bcase (t := 40) rfl (fun hc => ?_) (fun hc => ?_)
     ·rw [if_pos hc] at hF
      refine RL.gval rfl rfl (O.move rfl) rfl ?_
      refine RL.gval rfl rfl (O.eql rfl rfl) rfl ?_
      refine RL.val (O.pickt rfl rfl) rfl ?_
      refine vm rfl rfl ?_
      refine RL.bcase (t := 44) rfl (fun hc => ?_) (fun hc => ?_)
      ·rw [if_pos hc] at hF
       refine RL.gval rfl rfl (O.move rfl) rfl ?_
       refine RL.gval rfl rfl (O.eql rfl rfl) rfl ?_
       refine RL.val (O.pickt rfl rfl) rfl ?_
       refine vm rfl rfl ?_
       refine RL.bcase (t := 48) rfl (fun hc => ?_) (fun hc => ?_)
       ·rw [if_pos hc] at hF
        refine RL.gval rfl rfl (O.move rfl) rfl ?_
        refine obindE hF fun y47 hx48 hF => ?_
        refine RL.gcall rfl rfl Try.func11 bd11 rfl rfl (c_model_Model_Boot_N _ _ hx48) fun v w49 hv => ?_
        obtain ⟨rfl, hN50⟩ := hv
        replace hM := hM.call0 hN50
        refine RL.gval rfl rfl (O.eql rfl rfl) rfl ?_
        refine RL.val (O.pickt rfl rfl) rfl ?_
        refine vm rfl rfl ?_
        refine RL.bcase (t := 53) rfl (fun hc => ?_) (fun hc => ?_)
        ·rw [if_pos hc] at hF
         refine RL.gval rfl rfl (O.move rfl) rfl ?_
         refine obindE hF fun y51 hx52 hF => ?_
         refine RL.gcall rfl rfl Try.func16 bd16 rfl rfl (c_model_Model_Copy_N _ _ hx52) fun v w53 hv => ?_
         obtain ⟨rfl, hN54⟩ := hv
         replace hM := hM.call0 hN54
         refine RL.gval rfl rfl (O.peqn Try.underlying25 rfl rfl) rfl ?_
         refine RL.val (O.pickt rfl rfl) rfl ?_
         refine vm rfl rfl ?_
         refine obindE hF fun y55 hx56 hF => ?_
         refine RL.gcall rfl rfl Try.func6 bd6 rfl rfl (c_law30_works _ _ hx56) fun v w57 hv => ?_
         obtain ⟨rfl, hN58⟩ := hv
         replace hM := hM.call0 hN58
         refine RL.val (O.pickt rfl rfl) rfl ?_
         refine va rfl rfl ?_
         refine RL.nil ?_
         refine KQ.then_k ?_
         replace hM := hM.pick [] rfl (by decide)
         exact fun a ha => ⟨y55, ha.less (less_cons rfl less_nil), hM, hF⟩
        rw [if_neg (ne_true hc)] at hF
        refine RL.brun1 7 60 false (by kernel_rfl) ?_
        refine va rfl rfl ?_
        refine RL.nil ?_
        refine KQ.then_k ?_
        replace hM := hM.pick [] rfl (by decide)
        exact fun a ha => ⟨false, ha.less (less_cons rfl less_nil), hM, hF⟩
       rw [if_neg (ne_true hc)] at hF
       refine RL.brun1 12 60 false (by kernel_rfl) ?_
       refine va rfl rfl ?_
       refine RL.nil ?_
       refine KQ.then_k ?_
       replace hM := hM.pick [] rfl (by decide)
       exact fun a ha => ⟨false, ha.less (less_cons rfl less_nil), hM, hF⟩
      rw [if_neg (ne_true hc)] at hF
      refine RL.brun1 16 60 false (by kernel_rfl) ?_
      refine va rfl rfl ?_
      refine RL.nil ?_
      refine KQ.then_k ?_
      replace hM := hM.pick [] rfl (by decide)
      exact fun a ha => ⟨false, ha.less (less_cons rfl less_nil), hM, hF⟩
     rw [if_neg (ne_true hc)] at hF
     refine RL.brun1 20 60 false (by kernel_rfl) ?_
     refine va rfl rfl ?_
     refine RL.nil ?_
     refine KQ.then_k ?_
     replace hM := hM.pick [] rfl (by decide)
     exact fun a ha => ⟨false, ha.less (less_cons rfl less_nil), hM, hF⟩
    rw [if_neg (ne_true hc)] at hF
    refine RL.brun1 26 60 false (by kernel_rfl) ?_
    refine va rfl rfl ?_
    refine RL.nil ?_
    refine KQ.then_k ?_
    replace hM := hM.pick [] rfl (by decide)
    exact fun a ha => ⟨false, ha.less (less_cons rfl less_nil), hM, hF⟩
   rw [if_neg (ne_true hc)] at hF
   refine RL.brun1 32 60 false (by kernel_rfl) ?_
   refine va rfl rfl ?_
   refine RL.nil ?_
   refine KQ.then_k ?_
   replace hM := hM.pick [] rfl (by decide)
   exact fun a ha => ⟨false, ha.less (less_cons rfl less_nil), hM, hF⟩
  rw [if_neg (ne_true hc)] at hF
  refine RL.brun1 40 60 false (by kernel_rfl) ?_
  refine va rfl rfl ?_
  refine RL.nil ?_
  refine KQ.then_k ?_
  replace hM := hM.pick [] rfl (by decide)
  exact fun a ha => ⟨false, ha.less (less_cons rfl less_nil), hM, hF⟩
 rintro a w60 ⟨t59, ha, hM, hF⟩
 refine KC.app ha ?_
 clear ha
 unfold F_law30_ModelNone_j1 at hF
 refine KC.ret ?_
 have hE := Option.some.inj hF
 clear hF
 subst hE
 refine KQ.rets Try.results4 (RVs.cons (RV.tm rfl) RVs.nil) ?_
 exact ⟨_, rfl, rfl, hM⟩
set_option maxRecDepth 100000 in
set_option maxHeartbeats 40000000 in
theorem c_model_Model_Span (w : World) (m4 : T_model_Model) (g5 : Nat) (hm6 : MR62 g5 m4.f_forwarded w) (g7 : Nat) (hm8 : MR62 g7 m4.f_cached w) (g9 : Nat) (hm10 : MR62 g9 m4.f_lost w) (A11 : Option Addr) (c12 : Nat) (hr13 : RdD R_model_Entry [] w A11 c12 6 m4.f_entries) (A14 : Option Addr) (c15 : Nat) (hr16 : Rd w A14 c15 1 m4.f_line.length (m4.f_line.flatMap (eI .i64))) (g1 : Nat) (hC2 : Cs w ⟨g1, 0, none⟩ [.map (some g5), .map (some g7), .map (some g9), .slice A11 (m4.f_entries).length c12, .slice A14 (m4.f_line).length c15, v64 m4.f_first, v32 m4.f_boot]) (r : Int × Int) (hF : F_model_Model_Span m4 = some r) :
  CallsR Try.prog 15 [.pointer (some ⟨g1, 0, none⟩)] w (fun v w' => v = .tuple #[v64 r.1, v64 r.2] ∧ Mem w [] w' []) := by
 refine calls_KC Try.func15 rfl Try.ntmps15 rfl ?_
 have hM := Mem.init w
 unfold F_model_Model_Span at hF
 refine sr fun Q17 hQ17 => ?_
 refine va rfl rfl ?_
 refine va rfl rfl ?_
 refine nt hQ17 ?_
 clear hQ17 Q17
 refine KC.seqH fun Q18 hQ18 => ?_
 refine sr fun Q19 hQ19 => ?_
 refine vm rfl rfl ?_
 refine RL.val (O.peqn Try.underlying25 rfl rfl) rfl ?_
 refine nt hQ19 ?_
 clear hQ19 Q19
 refine KC.condF rfl ?_
 refine KC.skip ?_
 refine KQ.thn hQ18 ?_
 clear hQ18 Q18
 refine KC.seqH fun Q20 hQ20 => ?_
 replace hM := hM.drewN 1
 refine KC.draw [] [] [5] [0, 1, 2, 4, 6, 7] (.ofList [0, 1, 2, 3, 4, 5, 6, 7]) moP (by kernel_rfl) ?_
 refine RD.p rfl rfl rfl rfl (fun w' => O.move rfl) ?_
 refine RD.p rfl rfl rfl rfl (fun w' => O.nilp rfl) ?_
 refine RD.p rfl rfl rfl rfl (fun w' => O.fldA fl65_5 (by decide) rfl) ?_
 refine RD.q rfl rfl rfl rfl (fun w' hf => O.load sc35 rfl (Cs.adds [5] ((hC2.fut hM.chg).fut hf) rfl)) ?_
 refine RD.p rfl rfl rfl rfl (fun w' => O.move rfl) ?_
 refine obindE hF fun y21 hx22 hF => ?_
 refine RD.mcall rfl rfl trivial Try.func33 bd33 rfl rfl (c_model_Model_next _ m4 _ (hm6.fut hM.chg) _ (hm8.fut hM.chg) _ (hm10.fut hM.chg) _ _ (hr13.chg mv_model_Entry hM.chg) _ _ (hM.inp hr16 Off.nil) _ (hC2.fut hM.chg) _ hx22) fun v w23 hv => ?_
 obtain ⟨rfl, hN24⟩ := hv
 refine ⟨fun _ => hN24.fut, ?_⟩
 replace hM := hM.call0 hN24
 refine RD.p rfl rfl rfl rfl (fun w' => O.assign rfl) ?_
 refine RD.p rfl rfl rfl rfl (fun w' => O.assign rfl) ?_
 refine RD.nil ?_
 refine KQ.thn hQ20 ?_
 clear hQ20 Q20
 refine KC.ret ?_
 have hE := Option.some.inj hF
 clear hF
 subst hE
 refine KQ.rets Try.results15 (RVs.cons (RV.tm rfl) (RVs.cons (RV.tm rfl) RVs.nil)) ?_
 exact ⟨_, rfl, rfl, hM⟩
end Go.Proofs.Ytidbgejnkpoeeaa
