/- Printed by a program of this claim: each call returns what the plain function of its name gives. -/
import Derived.Test.YtnbakndfnjflhaaW1
set_option linter.unusedVariables false
namespace Go.Proofs.Ytnbakndfnjflhaa
open Go Go.Ox Go.RowKit
set_option maxRecDepth 100000 in
set_option maxHeartbeats 40000000 in
theorem c_law23_key (w : World) (nv1 : Int) (r : T_packet_Key) (hF : F_law23_key nv1 = some r) :
  CallsR Try.prog 30 [Value.int .i64 nv1] w (fun v w' => v = .agg #[Value.bool r.f_Src.f_Six, o8 r.f_Src.f_B 0, o8 r.f_Src.f_B 1, o8 r.f_Src.f_B 2, o8 r.f_Src.f_B 3, o8 r.f_Src.f_B 4, o8 r.f_Src.f_B 5, o8 r.f_Src.f_B 6, o8 r.f_Src.f_B 7, o8 r.f_Src.f_B 8, o8 r.f_Src.f_B 9, o8 r.f_Src.f_B 10, o8 r.f_Src.f_B 11, o8 r.f_Src.f_B 12, o8 r.f_Src.f_B 13, o8 r.f_Src.f_B 14, o8 r.f_Src.f_B 15, Value.bool r.f_Dst.f_Six, o8 r.f_Dst.f_B 0, o8 r.f_Dst.f_B 1, o8 r.f_Dst.f_B 2, o8 r.f_Dst.f_B 3, o8 r.f_Dst.f_B 4, o8 r.f_Dst.f_B 5, o8 r.f_Dst.f_B 6, o8 r.f_Dst.f_B 7, o8 r.f_Dst.f_B 8, o8 r.f_Dst.f_B 9, o8 r.f_Dst.f_B 10, o8 r.f_Dst.f_B 11, o8 r.f_Dst.f_B 12, o8 r.f_Dst.f_B 13, o8 r.f_Dst.f_B 14, o8 r.f_Dst.f_B 15, Value.int .u8 r.f_Proto, Value.int .u16 r.f_SrcPort, Value.int .u16 r.f_DstPort] ∧ Mem w [] w' []) := by
 refine calls_KC Try.func30 rfl Try.ntmps30 rfl ?_
 have hM := Mem.init w
 unfold F_law23_key at hF
 refine KC.seqH fun Q2 hQ2 => ?_
 refine KC.region ?_
 refine RL.eff (E.alloc hM ze35) rfl fun v w4 hv => ?_
 clear hM
 obtain ⟨g3, rfl, hM, hf⟩ := hv
 refine RL.nil ?_
 refine KQ.thn hQ2 ?_
 clear hQ2 Q2
 refine KC.seqH fun Q6 hQ6 => ?_
 refine KC.region ?_
 refine RL.val (O.move rfl) rfl ?_
 refine RL.val (O.conv un3 Try.underlying33 rfl) rfl ?_
 refine RL.val (O.bld (cs := [Value.bool false, o8 (List.replicate 16 0) 0, o8 (List.replicate 16 0) 1, o8 (List.replicate 16 0) 2, o8 (List.replicate 16 0) 3, o8 (List.replicate 16 0) 4, o8 (List.replicate 16 0) 5, o8 (List.replicate 16 0) 6, o8 (List.replicate 16 0) 7, o8 (List.replicate 16 0) 8, o8 (List.replicate 16 0) 9, o8 (List.replicate 16 0) 10, o8 (List.replicate 16 0) 11, o8 (List.replicate 16 0) 12, o8 (List.replicate 16 0) 13, o8 (List.replicate 16 0) 14, o8 (List.replicate 16 0) 15, Value.bool false, o8 (List.replicate 16 0) 0, o8 (List.replicate 16 0) 1, o8 (List.replicate 16 0) 2, o8 (List.replicate 16 0) 3, o8 (List.replicate 16 0) 4, o8 (List.replicate 16 0) 5, o8 (List.replicate 16 0) 6, o8 (List.replicate 16 0) 7, o8 (List.replicate 16 0) 8, o8 (List.replicate 16 0) 9, o8 (List.replicate 16 0) 10, o8 (List.replicate 16 0) 11, o8 (List.replicate 16 0) 12, o8 (List.replicate 16 0) 13, o8 (List.replicate 16 0) 14, o8 (List.replicate 16 0) 15, Value.int .u8 17, Value.int .u16 (IntKind.u16.wrap nv1), Value.int .u16 53]) bt35 rfl (by kernel_rfl)) rfl ?_
 refine RL.eff (E.alloc hM ze35) rfl fun v w8 hv => ?_
 clear hM
 obtain ⟨g7, rfl, hM, hf⟩ := hv
 refine RL.effs (E.stB (j := 1) (off := 0) (vs := [Value.bool false, o8 (List.replicate 16 0) 0, o8 (List.replicate 16 0) 1, o8 (List.replicate 16 0) 2, o8 (List.replicate 16 0) 3, o8 (List.replicate 16 0) 4, o8 (List.replicate 16 0) 5, o8 (List.replicate 16 0) 6, o8 (List.replicate 16 0) 7, o8 (List.replicate 16 0) 8, o8 (List.replicate 16 0) 9, o8 (List.replicate 16 0) 10, o8 (List.replicate 16 0) 11, o8 (List.replicate 16 0) 12, o8 (List.replicate 16 0) 13, o8 (List.replicate 16 0) 14, o8 (List.replicate 16 0) 15, Value.bool false, o8 (List.replicate 16 0) 0, o8 (List.replicate 16 0) 1, o8 (List.replicate 16 0) 2, o8 (List.replicate 16 0) 3, o8 (List.replicate 16 0) 4, o8 (List.replicate 16 0) 5, o8 (List.replicate 16 0) 6, o8 (List.replicate 16 0) 7, o8 (List.replicate 16 0) 8, o8 (List.replicate 16 0) 9, o8 (List.replicate 16 0) 10, o8 (List.replicate 16 0) 11, o8 (List.replicate 16 0) 12, o8 (List.replicate 16 0) 13, o8 (List.replicate 16 0) 14, o8 (List.replicate 16 0) 15, Value.int .u8 17, Value.int .u16 (IntKind.u16.wrap nv1), Value.int .u16 53]) (cs' := [Value.bool false, o8 (List.replicate 16 0) 0, o8 (List.replicate 16 0) 1, o8 (List.replicate 16 0) 2, o8 (List.replicate 16 0) 3, o8 (List.replicate 16 0) 4, o8 (List.replicate 16 0) 5, o8 (List.replicate 16 0) 6, o8 (List.replicate 16 0) 7, o8 (List.replicate 16 0) 8, o8 (List.replicate 16 0) 9, o8 (List.replicate 16 0) 10, o8 (List.replicate 16 0) 11, o8 (List.replicate 16 0) 12, o8 (List.replicate 16 0) 13, o8 (List.replicate 16 0) 14, o8 (List.replicate 16 0) 15, Value.bool false, o8 (List.replicate 16 0) 0, o8 (List.replicate 16 0) 1, o8 (List.replicate 16 0) 2, o8 (List.replicate 16 0) 3, o8 (List.replicate 16 0) 4, o8 (List.replicate 16 0) 5, o8 (List.replicate 16 0) 6, o8 (List.replicate 16 0) 7, o8 (List.replicate 16 0) 8, o8 (List.replicate 16 0) 9, o8 (List.replicate 16 0) 10, o8 (List.replicate 16 0) 11, o8 (List.replicate 16 0) 12, o8 (List.replicate 16 0) 13, o8 (List.replicate 16 0) 14, o8 (List.replicate 16 0) 15, Value.int .u8 17, Value.int .u16 (IntKind.u16.wrap nv1), Value.int .u16 53]) hM rfl sz35 rfl (adds_eq [] rfl) rfl rfl (One.all rfl) rfl rfl) fun w10 hM1 => ?_
 clear hM
 have hM := hM1
 clear hM1
 refine RL.nil ?_
 refine KQ.thn hQ6 ?_
 clear hQ6 Q6
 refine KC.seqH fun Q11 hQ11 => ?_
 refine KC.region ?_
 refine RL.val (O.fldA fl35_0 (by decide) rfl) rfl ?_
 refine RL.val (O.fldA fl32_1 (by decide) rfl) rfl ?_
 refine obindE hF fun xv13 hx12 hF => ?_
 refine RL.val (O.idxP Try.underlying30 sz5 hx12 rfl rfl) rfl ?_
 refine RL.effs (E.stA (j := 1) (off := 1) (nn := 16) (p := 0) (u := 10) (k := .u8) (xs := (List.replicate 16 0)) (cs' := [Value.bool false, o8 (setA 16 (List.replicate 16 0) 0 10) 0, o8 (setA 16 (List.replicate 16 0) 0 10) 1, o8 (setA 16 (List.replicate 16 0) 0 10) 2, o8 (setA 16 (List.replicate 16 0) 0 10) 3, o8 (setA 16 (List.replicate 16 0) 0 10) 4, o8 (setA 16 (List.replicate 16 0) 0 10) 5, o8 (setA 16 (List.replicate 16 0) 0 10) 6, o8 (setA 16 (List.replicate 16 0) 0 10) 7, o8 (setA 16 (List.replicate 16 0) 0 10) 8, o8 (setA 16 (List.replicate 16 0) 0 10) 9, o8 (setA 16 (List.replicate 16 0) 0 10) 10, o8 (setA 16 (List.replicate 16 0) 0 10) 11, o8 (setA 16 (List.replicate 16 0) 0 10) 12, o8 (setA 16 (List.replicate 16 0) 0 10) 13, o8 (setA 16 (List.replicate 16 0) 0 10) 14, o8 (setA 16 (List.replicate 16 0) 0 10) 15, Value.bool false, o8 (List.replicate 16 0) 0, o8 (List.replicate 16 0) 1, o8 (List.replicate 16 0) 2, o8 (List.replicate 16 0) 3, o8 (List.replicate 16 0) 4, o8 (List.replicate 16 0) 5, o8 (List.replicate 16 0) 6, o8 (List.replicate 16 0) 7, o8 (List.replicate 16 0) 8, o8 (List.replicate 16 0) 9, o8 (List.replicate 16 0) 10, o8 (List.replicate 16 0) 11, o8 (List.replicate 16 0) 12, o8 (List.replicate 16 0) 13, o8 (List.replicate 16 0) 14, o8 (List.replicate 16 0) 15, Value.int .u8 17, Value.int .u16 (IntKind.u16.wrap nv1), Value.int .u16 53]) hM rfl sz5 rfl (congrArg (fun q => Addr.add q (Int.toNat 0 * 1)) (adds_eq [0, 1] rfl)) rfl hx12 rfl rfl rfl) fun w14 hM1 => ?_
 clear hM
 have hM := hM1
 clear hM1
 refine RL.nil ?_
 refine KQ.thn hQ11 ?_
 clear hQ11 Q11
 refine KC.seqH fun Q15 hQ15 => ?_
 refine KC.region ?_
 refine RL.val (O.loadN (cs := [Value.bool false, o8 (setA 16 (List.replicate 16 0) 0 10) 0, o8 (setA 16 (List.replicate 16 0) 0 10) 1, o8 (setA 16 (List.replicate 16 0) 0 10) 2, o8 (setA 16 (List.replicate 16 0) 0 10) 3, o8 (setA 16 (List.replicate 16 0) 0 10) 4, o8 (setA 16 (List.replicate 16 0) 0 10) 5, o8 (setA 16 (List.replicate 16 0) 0 10) 6, o8 (setA 16 (List.replicate 16 0) 0 10) 7, o8 (setA 16 (List.replicate 16 0) 0 10) 8, o8 (setA 16 (List.replicate 16 0) 0 10) 9, o8 (setA 16 (List.replicate 16 0) 0 10) 10, o8 (setA 16 (List.replicate 16 0) 0 10) 11, o8 (setA 16 (List.replicate 16 0) 0 10) 12, o8 (setA 16 (List.replicate 16 0) 0 10) 13, o8 (setA 16 (List.replicate 16 0) 0 10) 14, o8 (setA 16 (List.replicate 16 0) 0 10) 15, Value.bool false, o8 (List.replicate 16 0) 0, o8 (List.replicate 16 0) 1, o8 (List.replicate 16 0) 2, o8 (List.replicate 16 0) 3, o8 (List.replicate 16 0) 4, o8 (List.replicate 16 0) 5, o8 (List.replicate 16 0) 6, o8 (List.replicate 16 0) 7, o8 (List.replicate 16 0) 8, o8 (List.replicate 16 0) 9, o8 (List.replicate 16 0) 10, o8 (List.replicate 16 0) 11, o8 (List.replicate 16 0) 12, o8 (List.replicate 16 0) 13, o8 (List.replicate 16 0) 14, o8 (List.replicate 16 0) 15, Value.int .u8 17, Value.int .u16 (IntKind.u16.wrap nv1), Value.int .u16 53]) ag35 rfl (Cs.addsN [] ((hM.bx (i := 1) rfl)) rfl)) rfl ?_
 refine RL.effs (E.stB (j := 0) (off := 0) (vs := [Value.bool false, o8 (setA 16 (List.replicate 16 0) 0 10) 0, o8 (setA 16 (List.replicate 16 0) 0 10) 1, o8 (setA 16 (List.replicate 16 0) 0 10) 2, o8 (setA 16 (List.replicate 16 0) 0 10) 3, o8 (setA 16 (List.replicate 16 0) 0 10) 4, o8 (setA 16 (List.replicate 16 0) 0 10) 5, o8 (setA 16 (List.replicate 16 0) 0 10) 6, o8 (setA 16 (List.replicate 16 0) 0 10) 7, o8 (setA 16 (List.replicate 16 0) 0 10) 8, o8 (setA 16 (List.replicate 16 0) 0 10) 9, o8 (setA 16 (List.replicate 16 0) 0 10) 10, o8 (setA 16 (List.replicate 16 0) 0 10) 11, o8 (setA 16 (List.replicate 16 0) 0 10) 12, o8 (setA 16 (List.replicate 16 0) 0 10) 13, o8 (setA 16 (List.replicate 16 0) 0 10) 14, o8 (setA 16 (List.replicate 16 0) 0 10) 15, Value.bool false, o8 (List.replicate 16 0) 0, o8 (List.replicate 16 0) 1, o8 (List.replicate 16 0) 2, o8 (List.replicate 16 0) 3, o8 (List.replicate 16 0) 4, o8 (List.replicate 16 0) 5, o8 (List.replicate 16 0) 6, o8 (List.replicate 16 0) 7, o8 (List.replicate 16 0) 8, o8 (List.replicate 16 0) 9, o8 (List.replicate 16 0) 10, o8 (List.replicate 16 0) 11, o8 (List.replicate 16 0) 12, o8 (List.replicate 16 0) 13, o8 (List.replicate 16 0) 14, o8 (List.replicate 16 0) 15, Value.int .u8 17, Value.int .u16 (IntKind.u16.wrap nv1), Value.int .u16 53]) (cs' := [Value.bool false, o8 (setA 16 (List.replicate 16 0) 0 10) 0, o8 (setA 16 (List.replicate 16 0) 0 10) 1, o8 (setA 16 (List.replicate 16 0) 0 10) 2, o8 (setA 16 (List.replicate 16 0) 0 10) 3, o8 (setA 16 (List.replicate 16 0) 0 10) 4, o8 (setA 16 (List.replicate 16 0) 0 10) 5, o8 (setA 16 (List.replicate 16 0) 0 10) 6, o8 (setA 16 (List.replicate 16 0) 0 10) 7, o8 (setA 16 (List.replicate 16 0) 0 10) 8, o8 (setA 16 (List.replicate 16 0) 0 10) 9, o8 (setA 16 (List.replicate 16 0) 0 10) 10, o8 (setA 16 (List.replicate 16 0) 0 10) 11, o8 (setA 16 (List.replicate 16 0) 0 10) 12, o8 (setA 16 (List.replicate 16 0) 0 10) 13, o8 (setA 16 (List.replicate 16 0) 0 10) 14, o8 (setA 16 (List.replicate 16 0) 0 10) 15, Value.bool false, o8 (List.replicate 16 0) 0, o8 (List.replicate 16 0) 1, o8 (List.replicate 16 0) 2, o8 (List.replicate 16 0) 3, o8 (List.replicate 16 0) 4, o8 (List.replicate 16 0) 5, o8 (List.replicate 16 0) 6, o8 (List.replicate 16 0) 7, o8 (List.replicate 16 0) 8, o8 (List.replicate 16 0) 9, o8 (List.replicate 16 0) 10, o8 (List.replicate 16 0) 11, o8 (List.replicate 16 0) 12, o8 (List.replicate 16 0) 13, o8 (List.replicate 16 0) 14, o8 (List.replicate 16 0) 15, Value.int .u8 17, Value.int .u16 (IntKind.u16.wrap nv1), Value.int .u16 53]) hM rfl sz35 rfl (adds_eq [] rfl) rfl rfl (One.all rfl) rfl rfl) fun w16 hM1 => ?_
 clear hM
 have hM := hM1
 clear hM1
 refine RL.nil ?_
 refine KQ.thn hQ15 ?_
 clear hQ15 Q15
 refine KC.ret ?_
 have hE := Option.some.inj hF
 clear hF
 subst hE
 have hb17 := hM.bx (i := 0) rfl
 replace hM := hM.pick [] rfl (by decide)
 refine KQ.rets Try.results30 (RVs.cons (RV.cN (cs := [Value.bool false, o8 (setA 16 (List.replicate 16 0) 0 10) 0, o8 (setA 16 (List.replicate 16 0) 0 10) 1, o8 (setA 16 (List.replicate 16 0) 0 10) 2, o8 (setA 16 (List.replicate 16 0) 0 10) 3, o8 (setA 16 (List.replicate 16 0) 0 10) 4, o8 (setA 16 (List.replicate 16 0) 0 10) 5, o8 (setA 16 (List.replicate 16 0) 0 10) 6, o8 (setA 16 (List.replicate 16 0) 0 10) 7, o8 (setA 16 (List.replicate 16 0) 0 10) 8, o8 (setA 16 (List.replicate 16 0) 0 10) 9, o8 (setA 16 (List.replicate 16 0) 0 10) 10, o8 (setA 16 (List.replicate 16 0) 0 10) 11, o8 (setA 16 (List.replicate 16 0) 0 10) 12, o8 (setA 16 (List.replicate 16 0) 0 10) 13, o8 (setA 16 (List.replicate 16 0) 0 10) 14, o8 (setA 16 (List.replicate 16 0) 0 10) 15, Value.bool false, o8 (List.replicate 16 0) 0, o8 (List.replicate 16 0) 1, o8 (List.replicate 16 0) 2, o8 (List.replicate 16 0) 3, o8 (List.replicate 16 0) 4, o8 (List.replicate 16 0) 5, o8 (List.replicate 16 0) 6, o8 (List.replicate 16 0) 7, o8 (List.replicate 16 0) 8, o8 (List.replicate 16 0) 9, o8 (List.replicate 16 0) 10, o8 (List.replicate 16 0) 11, o8 (List.replicate 16 0) 12, o8 (List.replicate 16 0) 13, o8 (List.replicate 16 0) 14, o8 (List.replicate 16 0) 15, Value.int .u8 17, Value.int .u16 (IntKind.u16.wrap nv1), Value.int .u16 53]) rfl ag35 hb17) RVs.nil) ?_
 exact ⟨_, rfl, rfl, hM⟩
set_option maxRecDepth 100000 in
set_option maxHeartbeats 40000000 in
theorem c_table_Table_find_N (w : World) (kv1 : T_packet_Key) (r : Int × Int) (hF : F_table_Table_find_N kv1 = some r) :
  CallsR Try.prog 31 [.pointer none, .agg #[Value.bool kv1.f_Src.f_Six, o8 kv1.f_Src.f_B 0, o8 kv1.f_Src.f_B 1, o8 kv1.f_Src.f_B 2, o8 kv1.f_Src.f_B 3, o8 kv1.f_Src.f_B 4, o8 kv1.f_Src.f_B 5, o8 kv1.f_Src.f_B 6, o8 kv1.f_Src.f_B 7, o8 kv1.f_Src.f_B 8, o8 kv1.f_Src.f_B 9, o8 kv1.f_Src.f_B 10, o8 kv1.f_Src.f_B 11, o8 kv1.f_Src.f_B 12, o8 kv1.f_Src.f_B 13, o8 kv1.f_Src.f_B 14, o8 kv1.f_Src.f_B 15, Value.bool kv1.f_Dst.f_Six, o8 kv1.f_Dst.f_B 0, o8 kv1.f_Dst.f_B 1, o8 kv1.f_Dst.f_B 2, o8 kv1.f_Dst.f_B 3, o8 kv1.f_Dst.f_B 4, o8 kv1.f_Dst.f_B 5, o8 kv1.f_Dst.f_B 6, o8 kv1.f_Dst.f_B 7, o8 kv1.f_Dst.f_B 8, o8 kv1.f_Dst.f_B 9, o8 kv1.f_Dst.f_B 10, o8 kv1.f_Dst.f_B 11, o8 kv1.f_Dst.f_B 12, o8 kv1.f_Dst.f_B 13, o8 kv1.f_Dst.f_B 14, o8 kv1.f_Dst.f_B 15, Value.int .u8 kv1.f_Proto, Value.int .u16 kv1.f_SrcPort, Value.int .u16 kv1.f_DstPort]] w (fun v w' => v = .tuple #[Value.int .i64 r.1, Value.int .i64 r.2] ∧ Mem w [] w' []) := by
 refine calls_KCM Try.func31 rfl Try.ntmps31 rfl ?_
 have hM := Mem.init w
 unfold F_table_Table_find_N at hF
 refine KC.seqH fun Q2 hQ2 => ?_
 refine KC.region ?_
 refine RL.eff (E.box (vs := [.pointer none]) hM rfl rfl) rfl fun v w4 hv => ?_
 clear hM
 obtain ⟨g3, rfl, hM, hf⟩ := hv
 refine RL.eff (E.box (vs := [Value.bool kv1.f_Src.f_Six, o8 kv1.f_Src.f_B 0, o8 kv1.f_Src.f_B 1, o8 kv1.f_Src.f_B 2, o8 kv1.f_Src.f_B 3, o8 kv1.f_Src.f_B 4, o8 kv1.f_Src.f_B 5, o8 kv1.f_Src.f_B 6, o8 kv1.f_Src.f_B 7, o8 kv1.f_Src.f_B 8, o8 kv1.f_Src.f_B 9, o8 kv1.f_Src.f_B 10, o8 kv1.f_Src.f_B 11, o8 kv1.f_Src.f_B 12, o8 kv1.f_Src.f_B 13, o8 kv1.f_Src.f_B 14, o8 kv1.f_Src.f_B 15, Value.bool kv1.f_Dst.f_Six, o8 kv1.f_Dst.f_B 0, o8 kv1.f_Dst.f_B 1, o8 kv1.f_Dst.f_B 2, o8 kv1.f_Dst.f_B 3, o8 kv1.f_Dst.f_B 4, o8 kv1.f_Dst.f_B 5, o8 kv1.f_Dst.f_B 6, o8 kv1.f_Dst.f_B 7, o8 kv1.f_Dst.f_B 8, o8 kv1.f_Dst.f_B 9, o8 kv1.f_Dst.f_B 10, o8 kv1.f_Dst.f_B 11, o8 kv1.f_Dst.f_B 12, o8 kv1.f_Dst.f_B 13, o8 kv1.f_Dst.f_B 14, o8 kv1.f_Dst.f_B 15, Value.int .u8 kv1.f_Proto, Value.int .u16 kv1.f_SrcPort, Value.int .u16 kv1.f_DstPort]) hM rfl rfl) rfl fun v w7 hv => ?_
 clear hM
 obtain ⟨g6, rfl, hM, hf⟩ := hv
 refine RL.eff (E.alloc hM ze3) rfl fun v w10 hv => ?_
 clear hM
 obtain ⟨g9, rfl, hM, hf⟩ := hv
 refine RL.eff (E.alloc hM ze3) rfl fun v w13 hv => ?_
 clear hM
 obtain ⟨g12, rfl, hM, hf⟩ := hv
 refine RL.nil ?_
 refine KQ.thn hQ2 ?_
 clear hQ2 Q2
 refine KC.seqH fun Q15 hQ15 => ?_
 refine KC.seqH fun Q16 hQ16 => ?_
 refine KC.region ?_
 refine RL.val (O.load sc24 rfl (Cs.adds [] ((hM.bx (i := 0) rfl)) rfl)) rfl ?_
 refine RL.val (O.peqn Try.underlying24 rfl rfl) rfl ?_
 refine RL.nil ?_
 refine KQ.thn hQ16 ?_
 clear hQ16 Q16
 refine KC.condT rfl ?_
 refine KC.seqH fun Q17 hQ17 => ?_
 refine KC.region ?_
 refine RL.effs (E.stB (j := 2) (off := 0) (vs := [Value.int .i64 (-1)]) (cs' := [Value.int .i64 (-1)]) hM rfl sz3 rfl (adds_eq [] rfl) rfl rfl (One.all rfl) rfl rfl) fun w18 hM1 => ?_
 clear hM
 have hM := hM1
 clear hM1
 refine RL.effs (E.stB (j := 3) (off := 0) (vs := [Value.int .i64 0]) (cs' := [Value.int .i64 0]) hM rfl sz3 rfl (adds_eq [] rfl) rfl rfl (One.all rfl) rfl rfl) fun w19 hM1 => ?_
 clear hM
 have hM := hM1
 clear hM1
 refine RL.nil ?_
 refine KQ.thn hQ17 ?_
 clear hQ17 Q17
 refine KC.ret ?_
 refine KQ.thr hQ15 ?_
 clear hQ15 Q15
 have hE := Option.some.inj hF
 clear hF
 subst hE
 have hb20 := hM.bx (i := 2) rfl
 have hb21 := hM.bx (i := 3) rfl
 replace hM := hM.pick [] rfl (by decide)
 refine KQ.retsM Try.results31 (RVs.cons (RV.c1 rfl sc3 hb20.at0) (RVs.cons (RV.c1 rfl sc3 hb21.at0) RVs.nil)) ?_
 exact ⟨_, rfl, rfl, hM⟩
set_option maxRecDepth 100000 in
set_option maxHeartbeats 40000000 in
theorem c_table_Table_Put_N (w : World) (kv1 : T_packet_Key) (nv2 : Int) (r : Int) (hF : F_table_Table_Put_N kv1 nv2 = some r) :
  CallsR Try.prog 11 [.pointer none, .agg #[Value.bool kv1.f_Src.f_Six, o8 kv1.f_Src.f_B 0, o8 kv1.f_Src.f_B 1, o8 kv1.f_Src.f_B 2, o8 kv1.f_Src.f_B 3, o8 kv1.f_Src.f_B 4, o8 kv1.f_Src.f_B 5, o8 kv1.f_Src.f_B 6, o8 kv1.f_Src.f_B 7, o8 kv1.f_Src.f_B 8, o8 kv1.f_Src.f_B 9, o8 kv1.f_Src.f_B 10, o8 kv1.f_Src.f_B 11, o8 kv1.f_Src.f_B 12, o8 kv1.f_Src.f_B 13, o8 kv1.f_Src.f_B 14, o8 kv1.f_Src.f_B 15, Value.bool kv1.f_Dst.f_Six, o8 kv1.f_Dst.f_B 0, o8 kv1.f_Dst.f_B 1, o8 kv1.f_Dst.f_B 2, o8 kv1.f_Dst.f_B 3, o8 kv1.f_Dst.f_B 4, o8 kv1.f_Dst.f_B 5, o8 kv1.f_Dst.f_B 6, o8 kv1.f_Dst.f_B 7, o8 kv1.f_Dst.f_B 8, o8 kv1.f_Dst.f_B 9, o8 kv1.f_Dst.f_B 10, o8 kv1.f_Dst.f_B 11, o8 kv1.f_Dst.f_B 12, o8 kv1.f_Dst.f_B 13, o8 kv1.f_Dst.f_B 14, o8 kv1.f_Dst.f_B 15, Value.int .u8 kv1.f_Proto, Value.int .u16 kv1.f_SrcPort, Value.int .u16 kv1.f_DstPort], Value.int .u64 nv2] w (fun v w' => v = Value.int .i64 r ∧ Mem w [] w' []) := by
 refine calls_KC Try.func11 rfl Try.ntmps11 rfl ?_
 have hM := Mem.init w
 unfold F_table_Table_Put_N at hF
 refine KC.seqH fun Q3 hQ3 => ?_
 refine KC.region ?_
 refine RL.eff (E.box (vs := [Value.bool kv1.f_Src.f_Six, o8 kv1.f_Src.f_B 0, o8 kv1.f_Src.f_B 1, o8 kv1.f_Src.f_B 2, o8 kv1.f_Src.f_B 3, o8 kv1.f_Src.f_B 4, o8 kv1.f_Src.f_B 5, o8 kv1.f_Src.f_B 6, o8 kv1.f_Src.f_B 7, o8 kv1.f_Src.f_B 8, o8 kv1.f_Src.f_B 9, o8 kv1.f_Src.f_B 10, o8 kv1.f_Src.f_B 11, o8 kv1.f_Src.f_B 12, o8 kv1.f_Src.f_B 13, o8 kv1.f_Src.f_B 14, o8 kv1.f_Src.f_B 15, Value.bool kv1.f_Dst.f_Six, o8 kv1.f_Dst.f_B 0, o8 kv1.f_Dst.f_B 1, o8 kv1.f_Dst.f_B 2, o8 kv1.f_Dst.f_B 3, o8 kv1.f_Dst.f_B 4, o8 kv1.f_Dst.f_B 5, o8 kv1.f_Dst.f_B 6, o8 kv1.f_Dst.f_B 7, o8 kv1.f_Dst.f_B 8, o8 kv1.f_Dst.f_B 9, o8 kv1.f_Dst.f_B 10, o8 kv1.f_Dst.f_B 11, o8 kv1.f_Dst.f_B 12, o8 kv1.f_Dst.f_B 13, o8 kv1.f_Dst.f_B 14, o8 kv1.f_Dst.f_B 15, Value.int .u8 kv1.f_Proto, Value.int .u16 kv1.f_SrcPort, Value.int .u16 kv1.f_DstPort]) hM rfl rfl) rfl fun v w5 hv => ?_
 clear hM
 obtain ⟨g4, rfl, hM, hf⟩ := hv
 refine RL.val (O.assign rfl) rfl ?_
 refine RL.nil ?_
 refine KQ.thn hQ3 ?_
 clear hQ3 Q3
 refine KC.seqH fun Q7 hQ7 => ?_
 refine KC.region ?_
 refine RL.val (O.move rfl) rfl ?_
 refine RL.val (O.loadN (cs := [Value.bool kv1.f_Src.f_Six, o8 kv1.f_Src.f_B 0, o8 kv1.f_Src.f_B 1, o8 kv1.f_Src.f_B 2, o8 kv1.f_Src.f_B 3, o8 kv1.f_Src.f_B 4, o8 kv1.f_Src.f_B 5, o8 kv1.f_Src.f_B 6, o8 kv1.f_Src.f_B 7, o8 kv1.f_Src.f_B 8, o8 kv1.f_Src.f_B 9, o8 kv1.f_Src.f_B 10, o8 kv1.f_Src.f_B 11, o8 kv1.f_Src.f_B 12, o8 kv1.f_Src.f_B 13, o8 kv1.f_Src.f_B 14, o8 kv1.f_Src.f_B 15, Value.bool kv1.f_Dst.f_Six, o8 kv1.f_Dst.f_B 0, o8 kv1.f_Dst.f_B 1, o8 kv1.f_Dst.f_B 2, o8 kv1.f_Dst.f_B 3, o8 kv1.f_Dst.f_B 4, o8 kv1.f_Dst.f_B 5, o8 kv1.f_Dst.f_B 6, o8 kv1.f_Dst.f_B 7, o8 kv1.f_Dst.f_B 8, o8 kv1.f_Dst.f_B 9, o8 kv1.f_Dst.f_B 10, o8 kv1.f_Dst.f_B 11, o8 kv1.f_Dst.f_B 12, o8 kv1.f_Dst.f_B 13, o8 kv1.f_Dst.f_B 14, o8 kv1.f_Dst.f_B 15, Value.int .u8 kv1.f_Proto, Value.int .u16 kv1.f_SrcPort, Value.int .u16 kv1.f_DstPort]) ag35 rfl (Cs.addsN [] ((hM.bx (i := 0) rfl)) rfl)) rfl ?_
 refine obindE hF fun y8 hx9 hF => ?_
 refine RL.call Try.func31 bd31 rfl rfl (c_table_Table_find_N _ kv1 _ hx9) fun v w10 hv => ?_
 obtain ⟨rfl, hN11⟩ := hv
 replace hM := hM.call0 hN11
 refine RL.val (O.move rfl) rfl ?_
 refine RL.val (O.ext rfl rfl) rfl ?_
 refine RL.val (O.ext rfl rfl) rfl ?_
 refine RL.val (O.assign rfl) rfl ?_
 refine RL.val (O.assign rfl) rfl ?_
 refine RL.nil ?_
 refine KQ.thn hQ7 ?_
 clear hQ7 Q7
 refine KC.seqH fun Q14 hQ14 => ?_
 refine KC.block ?_
 refine KC.seqH fun Q15 hQ15 => ?_
 refine KC.region ?_
 refine RL.val (O.move rfl) rfl ?_
 refine RL.val (O.peqn Try.underlying24 rfl rfl) rfl ?_
 refine RL.val (O.assign rfl) rfl ?_
 refine RL.nil ?_
 refine KQ.thn hQ15 ?_
 clear hQ15 Q15
 refine KC.condT rfl ?_
 refine KC.seqH fun Q16 hQ16 => ?_
 refine KC.region ?_
 refine RL.val (O.assign rfl) rfl ?_
 refine RL.nil ?_
 refine KQ.thn hQ16 ?_
 clear hQ16 Q16
 refine KC.ret ?_
 refine KQ.blk_r ?_
 refine KQ.thr hQ14 ?_
 clear hQ14 Q14
 have hE := Option.some.inj hF
 clear hF
 subst hE
 replace hM := hM.pick [] rfl (by decide)
 refine KQ.rets Try.results11 (RVs.cons (RV.tm rfl) RVs.nil) ?_
 exact ⟨_, rfl, rfl, hM⟩
set_option maxRecDepth 100000 in
set_option maxHeartbeats 40000000 in
theorem c_table_Table_has_N (w : World) (kv1 : T_packet_Key) (r : Int) (hF : F_table_Table_has_N kv1 = some r) :
  CallsR Try.prog 35 [.pointer none, .agg #[Value.bool kv1.f_Src.f_Six, o8 kv1.f_Src.f_B 0, o8 kv1.f_Src.f_B 1, o8 kv1.f_Src.f_B 2, o8 kv1.f_Src.f_B 3, o8 kv1.f_Src.f_B 4, o8 kv1.f_Src.f_B 5, o8 kv1.f_Src.f_B 6, o8 kv1.f_Src.f_B 7, o8 kv1.f_Src.f_B 8, o8 kv1.f_Src.f_B 9, o8 kv1.f_Src.f_B 10, o8 kv1.f_Src.f_B 11, o8 kv1.f_Src.f_B 12, o8 kv1.f_Src.f_B 13, o8 kv1.f_Src.f_B 14, o8 kv1.f_Src.f_B 15, Value.bool kv1.f_Dst.f_Six, o8 kv1.f_Dst.f_B 0, o8 kv1.f_Dst.f_B 1, o8 kv1.f_Dst.f_B 2, o8 kv1.f_Dst.f_B 3, o8 kv1.f_Dst.f_B 4, o8 kv1.f_Dst.f_B 5, o8 kv1.f_Dst.f_B 6, o8 kv1.f_Dst.f_B 7, o8 kv1.f_Dst.f_B 8, o8 kv1.f_Dst.f_B 9, o8 kv1.f_Dst.f_B 10, o8 kv1.f_Dst.f_B 11, o8 kv1.f_Dst.f_B 12, o8 kv1.f_Dst.f_B 13, o8 kv1.f_Dst.f_B 14, o8 kv1.f_Dst.f_B 15, Value.int .u8 kv1.f_Proto, Value.int .u16 kv1.f_SrcPort, Value.int .u16 kv1.f_DstPort]] w (fun v w' => v = Value.int .i64 r ∧ Mem w [] w' []) := by
 refine calls_KC Try.func35 rfl Try.ntmps35 rfl ?_
 have hM := Mem.init w
 unfold F_table_Table_has_N at hF
 refine KC.seqH fun Q2 hQ2 => ?_
 refine KC.region ?_
 refine RL.eff (E.box (vs := [Value.bool kv1.f_Src.f_Six, o8 kv1.f_Src.f_B 0, o8 kv1.f_Src.f_B 1, o8 kv1.f_Src.f_B 2, o8 kv1.f_Src.f_B 3, o8 kv1.f_Src.f_B 4, o8 kv1.f_Src.f_B 5, o8 kv1.f_Src.f_B 6, o8 kv1.f_Src.f_B 7, o8 kv1.f_Src.f_B 8, o8 kv1.f_Src.f_B 9, o8 kv1.f_Src.f_B 10, o8 kv1.f_Src.f_B 11, o8 kv1.f_Src.f_B 12, o8 kv1.f_Src.f_B 13, o8 kv1.f_Src.f_B 14, o8 kv1.f_Src.f_B 15, Value.bool kv1.f_Dst.f_Six, o8 kv1.f_Dst.f_B 0, o8 kv1.f_Dst.f_B 1, o8 kv1.f_Dst.f_B 2, o8 kv1.f_Dst.f_B 3, o8 kv1.f_Dst.f_B 4, o8 kv1.f_Dst.f_B 5, o8 kv1.f_Dst.f_B 6, o8 kv1.f_Dst.f_B 7, o8 kv1.f_Dst.f_B 8, o8 kv1.f_Dst.f_B 9, o8 kv1.f_Dst.f_B 10, o8 kv1.f_Dst.f_B 11, o8 kv1.f_Dst.f_B 12, o8 kv1.f_Dst.f_B 13, o8 kv1.f_Dst.f_B 14, o8 kv1.f_Dst.f_B 15, Value.int .u8 kv1.f_Proto, Value.int .u16 kv1.f_SrcPort, Value.int .u16 kv1.f_DstPort]) hM rfl rfl) rfl fun v w4 hv => ?_
 clear hM
 obtain ⟨g3, rfl, hM, hf⟩ := hv
 refine RL.val (O.assign rfl) rfl ?_
 refine RL.nil ?_
 refine KQ.thn hQ2 ?_
 clear hQ2 Q2
 refine KC.seqH fun Q6 hQ6 => ?_
 refine KC.region ?_
 refine RL.val (O.move rfl) rfl ?_
 refine RL.val (O.loadN (cs := [Value.bool kv1.f_Src.f_Six, o8 kv1.f_Src.f_B 0, o8 kv1.f_Src.f_B 1, o8 kv1.f_Src.f_B 2, o8 kv1.f_Src.f_B 3, o8 kv1.f_Src.f_B 4, o8 kv1.f_Src.f_B 5, o8 kv1.f_Src.f_B 6, o8 kv1.f_Src.f_B 7, o8 kv1.f_Src.f_B 8, o8 kv1.f_Src.f_B 9, o8 kv1.f_Src.f_B 10, o8 kv1.f_Src.f_B 11, o8 kv1.f_Src.f_B 12, o8 kv1.f_Src.f_B 13, o8 kv1.f_Src.f_B 14, o8 kv1.f_Src.f_B 15, Value.bool kv1.f_Dst.f_Six, o8 kv1.f_Dst.f_B 0, o8 kv1.f_Dst.f_B 1, o8 kv1.f_Dst.f_B 2, o8 kv1.f_Dst.f_B 3, o8 kv1.f_Dst.f_B 4, o8 kv1.f_Dst.f_B 5, o8 kv1.f_Dst.f_B 6, o8 kv1.f_Dst.f_B 7, o8 kv1.f_Dst.f_B 8, o8 kv1.f_Dst.f_B 9, o8 kv1.f_Dst.f_B 10, o8 kv1.f_Dst.f_B 11, o8 kv1.f_Dst.f_B 12, o8 kv1.f_Dst.f_B 13, o8 kv1.f_Dst.f_B 14, o8 kv1.f_Dst.f_B 15, Value.int .u8 kv1.f_Proto, Value.int .u16 kv1.f_SrcPort, Value.int .u16 kv1.f_DstPort]) ag35 rfl (Cs.addsN [] ((hM.bx (i := 0) rfl)) rfl)) rfl ?_
 refine obindE hF fun y7 hx8 hF => ?_
 refine RL.call Try.func31 bd31 rfl rfl (c_table_Table_find_N _ kv1 _ hx8) fun v w9 hv => ?_
 obtain ⟨rfl, hN10⟩ := hv
 replace hM := hM.call0 hN10
 refine RL.val (O.move rfl) rfl ?_
 refine RL.val (O.ext rfl rfl) rfl ?_
 refine RL.val (O.ext rfl rfl) rfl ?_
 refine RL.val (O.assign rfl) rfl ?_
 refine RL.val (O.assign rfl) rfl ?_
 refine RL.nil ?_
 refine KQ.thn hQ6 ?_
 clear hQ6 Q6
 refine KC.seqH fun Q11 hQ11 => ?_
 refine KC.cut (fun a w12 => Kn 27 [(5, Value.int .i64 y7.1), (25, Value.bool false)] a ∧ Mem w [] w12 [] ∧ F_table_Table_has_N_j1 y7 = some r) ?_ ?_
 ·refine KC.region ?_
  refine RL.val (O.move rfl) rfl ?_
  refine RL.val (O.geq rfl rfl) rfl ?_
  refine RL.val (O.move rfl) rfl ?_
  refine RL.bcase (t := 15) rfl (fun hc => ?_) (fun hc => ?_)
  ·rw [if_pos hc] at hF
   refine RL.gval rfl rfl (O.move rfl) rfl ?_
   exact (none_some hF).elim
  ·rw [if_neg (ne_true hc)] at hF
   refine RL.brun1 10 25 false (by kernel_rfl) ?_
   refine RL.nil ?_
   refine KQ.then_k ?_
   replace hM := hM.pick [] rfl (by decide)
   exact fun a ha => ⟨ha.less (less_cons rfl (less_cons rfl less_nil)), hM, hF⟩
 ·rintro a w12 ⟨ha, hM, hF⟩
  refine KC.app ha ?_
  clear ha
  unfold F_table_Table_has_N_j1 at hF
  refine KC.condF rfl ?_
  refine KC.skip ?_
  refine KQ.thn hQ11 ?_
  clear hQ11 Q11
  refine KC.seqH fun Q13 hQ13 => ?_
  refine KC.region ?_
  refine RL.val (O.move rfl) rfl ?_
  refine RL.val (O.assign rfl) rfl ?_
  refine RL.nil ?_
  refine KQ.thn hQ13 ?_
  clear hQ13 Q13
  refine KC.ret ?_
  have hE := Option.some.inj hF
  clear hF
  subst hE
  refine KQ.rets Try.results35 (RVs.cons (RV.tm rfl) RVs.nil) ?_
  exact ⟨_, rfl, rfl, hM⟩
end Go.Proofs.Ytnbakndfnjflhaa
