/- Printed by a program of this claim: each call returns what the plain function of its name gives. -/
import Derived.Test.YtidbgejnkpoeeaaW1
import Derived.Test.YtidbgejnkpoeeaaW4
import Derived.Test.YtidbgejnkpoeeaaW5
import Derived.Test.YtidbgejnkpoeeaaW12
set_option linter.unusedVariables false
namespace Go.Proofs.Ytidbgejnkpoeeaa
open Go Go.Ox Go.RowKit
set_option maxRecDepth 100000 in
set_option maxHeartbeats 40000000 in
theorem c_law30_record (w : World) (kv1 : T_packet_Key) (packets2 : Int) (bytes3 : Int) (r : T_flow_Record) (hF : F_law30_record kv1 packets2 bytes3 = some r) :
  CallsR Try.prog 18 [.agg #[vB kv1.f_Src.f_Six, o8 kv1.f_Src.f_B 0, o8 kv1.f_Src.f_B 1, o8 kv1.f_Src.f_B 2, o8 kv1.f_Src.f_B 3, o8 kv1.f_Src.f_B 4, o8 kv1.f_Src.f_B 5, o8 kv1.f_Src.f_B 6, o8 kv1.f_Src.f_B 7, o8 kv1.f_Src.f_B 8, o8 kv1.f_Src.f_B 9, o8 kv1.f_Src.f_B 10, o8 kv1.f_Src.f_B 11, o8 kv1.f_Src.f_B 12, o8 kv1.f_Src.f_B 13, o8 kv1.f_Src.f_B 14, o8 kv1.f_Src.f_B 15, vB kv1.f_Dst.f_Six, o8 kv1.f_Dst.f_B 0, o8 kv1.f_Dst.f_B 1, o8 kv1.f_Dst.f_B 2, o8 kv1.f_Dst.f_B 3, o8 kv1.f_Dst.f_B 4, o8 kv1.f_Dst.f_B 5, o8 kv1.f_Dst.f_B 6, o8 kv1.f_Dst.f_B 7, o8 kv1.f_Dst.f_B 8, o8 kv1.f_Dst.f_B 9, o8 kv1.f_Dst.f_B 10, o8 kv1.f_Dst.f_B 11, o8 kv1.f_Dst.f_B 12, o8 kv1.f_Dst.f_B 13, o8 kv1.f_Dst.f_B 14, o8 kv1.f_Dst.f_B 15, v8 kv1.f_Proto, v16 kv1.f_SrcPort, v16 kv1.f_DstPort], v64 packets2, v64 bytes3] w (fun v w' => v = .agg #[vB r.f_Key.f_Src.f_Six, o8 r.f_Key.f_Src.f_B 0, o8 r.f_Key.f_Src.f_B 1, o8 r.f_Key.f_Src.f_B 2, o8 r.f_Key.f_Src.f_B 3, o8 r.f_Key.f_Src.f_B 4, o8 r.f_Key.f_Src.f_B 5, o8 r.f_Key.f_Src.f_B 6, o8 r.f_Key.f_Src.f_B 7, o8 r.f_Key.f_Src.f_B 8, o8 r.f_Key.f_Src.f_B 9, o8 r.f_Key.f_Src.f_B 10, o8 r.f_Key.f_Src.f_B 11, o8 r.f_Key.f_Src.f_B 12, o8 r.f_Key.f_Src.f_B 13, o8 r.f_Key.f_Src.f_B 14, o8 r.f_Key.f_Src.f_B 15, vB r.f_Key.f_Dst.f_Six, o8 r.f_Key.f_Dst.f_B 0, o8 r.f_Key.f_Dst.f_B 1, o8 r.f_Key.f_Dst.f_B 2, o8 r.f_Key.f_Dst.f_B 3, o8 r.f_Key.f_Dst.f_B 4, o8 r.f_Key.f_Dst.f_B 5, o8 r.f_Key.f_Dst.f_B 6, o8 r.f_Key.f_Dst.f_B 7, o8 r.f_Key.f_Dst.f_B 8, o8 r.f_Key.f_Dst.f_B 9, o8 r.f_Key.f_Dst.f_B 10, o8 r.f_Key.f_Dst.f_B 11, o8 r.f_Key.f_Dst.f_B 12, o8 r.f_Key.f_Dst.f_B 13, o8 r.f_Key.f_Dst.f_B 14, o8 r.f_Key.f_Dst.f_B 15, v8 r.f_Key.f_Proto, v16 r.f_Key.f_SrcPort, v16 r.f_Key.f_DstPort, v64 r.f_Packets, v64 r.f_Bytes, v64 r.f_First, v64 r.f_Last, v8 r.f_Flags, v8 r.f_Reason, v8 r.f_Class] ∧ Mem w [] w' []) := by
 refine calls_KC Try.func18 rfl Try.ntmps18 rfl ?_
 have hM := Mem.init w
 unfold F_law30_record at hF
 refine sr fun Q4 hQ4 => ?_
 refine RL.eff (E.box (vs := [vB kv1.f_Src.f_Six, o8 kv1.f_Src.f_B 0, o8 kv1.f_Src.f_B 1, o8 kv1.f_Src.f_B 2, o8 kv1.f_Src.f_B 3, o8 kv1.f_Src.f_B 4, o8 kv1.f_Src.f_B 5, o8 kv1.f_Src.f_B 6, o8 kv1.f_Src.f_B 7, o8 kv1.f_Src.f_B 8, o8 kv1.f_Src.f_B 9, o8 kv1.f_Src.f_B 10, o8 kv1.f_Src.f_B 11, o8 kv1.f_Src.f_B 12, o8 kv1.f_Src.f_B 13, o8 kv1.f_Src.f_B 14, o8 kv1.f_Src.f_B 15, vB kv1.f_Dst.f_Six, o8 kv1.f_Dst.f_B 0, o8 kv1.f_Dst.f_B 1, o8 kv1.f_Dst.f_B 2, o8 kv1.f_Dst.f_B 3, o8 kv1.f_Dst.f_B 4, o8 kv1.f_Dst.f_B 5, o8 kv1.f_Dst.f_B 6, o8 kv1.f_Dst.f_B 7, o8 kv1.f_Dst.f_B 8, o8 kv1.f_Dst.f_B 9, o8 kv1.f_Dst.f_B 10, o8 kv1.f_Dst.f_B 11, o8 kv1.f_Dst.f_B 12, o8 kv1.f_Dst.f_B 13, o8 kv1.f_Dst.f_B 14, o8 kv1.f_Dst.f_B 15, v8 kv1.f_Proto, v16 kv1.f_SrcPort, v16 kv1.f_DstPort]) hM rfl rfl) rfl fun v w6 hv => ?_
 clear hM
 obtain ⟨g5, rfl, hM, hf⟩ := hv
 refine RL.eff (E.alloc hM ze50) rfl fun v w9 hv => ?_
 clear hM
 obtain ⟨g8, rfl, hM, hf⟩ := hv
 refine nt hQ4 ?_
 clear hQ4 Q4
 refine sr fun Q11 hQ11 => ?_
 refine RL.val (O.loadN (cs := [vB kv1.f_Src.f_Six, o8 kv1.f_Src.f_B 0, o8 kv1.f_Src.f_B 1, o8 kv1.f_Src.f_B 2, o8 kv1.f_Src.f_B 3, o8 kv1.f_Src.f_B 4, o8 kv1.f_Src.f_B 5, o8 kv1.f_Src.f_B 6, o8 kv1.f_Src.f_B 7, o8 kv1.f_Src.f_B 8, o8 kv1.f_Src.f_B 9, o8 kv1.f_Src.f_B 10, o8 kv1.f_Src.f_B 11, o8 kv1.f_Src.f_B 12, o8 kv1.f_Src.f_B 13, o8 kv1.f_Src.f_B 14, o8 kv1.f_Src.f_B 15, vB kv1.f_Dst.f_Six, o8 kv1.f_Dst.f_B 0, o8 kv1.f_Dst.f_B 1, o8 kv1.f_Dst.f_B 2, o8 kv1.f_Dst.f_B 3, o8 kv1.f_Dst.f_B 4, o8 kv1.f_Dst.f_B 5, o8 kv1.f_Dst.f_B 6, o8 kv1.f_Dst.f_B 7, o8 kv1.f_Dst.f_B 8, o8 kv1.f_Dst.f_B 9, o8 kv1.f_Dst.f_B 10, o8 kv1.f_Dst.f_B 11, o8 kv1.f_Dst.f_B 12, o8 kv1.f_Dst.f_B 13, o8 kv1.f_Dst.f_B 14, o8 kv1.f_Dst.f_B 15, v8 kv1.f_Proto, v16 kv1.f_SrcPort, v16 kv1.f_DstPort]) ag34 rfl (Cs.addsN [] ((hM.bx (i := 0) rfl)) rfl)) rfl ?_
 refine vm rfl rfl ?_
 refine vm rfl rfl ?_
 refine RL.val (O.bld (cs := [vB kv1.f_Src.f_Six, o8 kv1.f_Src.f_B 0, o8 kv1.f_Src.f_B 1, o8 kv1.f_Src.f_B 2, o8 kv1.f_Src.f_B 3, o8 kv1.f_Src.f_B 4, o8 kv1.f_Src.f_B 5, o8 kv1.f_Src.f_B 6, o8 kv1.f_Src.f_B 7, o8 kv1.f_Src.f_B 8, o8 kv1.f_Src.f_B 9, o8 kv1.f_Src.f_B 10, o8 kv1.f_Src.f_B 11, o8 kv1.f_Src.f_B 12, o8 kv1.f_Src.f_B 13, o8 kv1.f_Src.f_B 14, o8 kv1.f_Src.f_B 15, vB kv1.f_Dst.f_Six, o8 kv1.f_Dst.f_B 0, o8 kv1.f_Dst.f_B 1, o8 kv1.f_Dst.f_B 2, o8 kv1.f_Dst.f_B 3, o8 kv1.f_Dst.f_B 4, o8 kv1.f_Dst.f_B 5, o8 kv1.f_Dst.f_B 6, o8 kv1.f_Dst.f_B 7, o8 kv1.f_Dst.f_B 8, o8 kv1.f_Dst.f_B 9, o8 kv1.f_Dst.f_B 10, o8 kv1.f_Dst.f_B 11, o8 kv1.f_Dst.f_B 12, o8 kv1.f_Dst.f_B 13, o8 kv1.f_Dst.f_B 14, o8 kv1.f_Dst.f_B 15, v8 kv1.f_Proto, v16 kv1.f_SrcPort, v16 kv1.f_DstPort, v64 packets2, v64 bytes3, v64 1, v64 2, v8 0, v8 1, v8 0]) bt50 rfl (by kernel_rfl)) rfl ?_
 refine RL.effs (E.stB (j := 1) (off := 0) (vs := [vB kv1.f_Src.f_Six, o8 kv1.f_Src.f_B 0, o8 kv1.f_Src.f_B 1, o8 kv1.f_Src.f_B 2, o8 kv1.f_Src.f_B 3, o8 kv1.f_Src.f_B 4, o8 kv1.f_Src.f_B 5, o8 kv1.f_Src.f_B 6, o8 kv1.f_Src.f_B 7, o8 kv1.f_Src.f_B 8, o8 kv1.f_Src.f_B 9, o8 kv1.f_Src.f_B 10, o8 kv1.f_Src.f_B 11, o8 kv1.f_Src.f_B 12, o8 kv1.f_Src.f_B 13, o8 kv1.f_Src.f_B 14, o8 kv1.f_Src.f_B 15, vB kv1.f_Dst.f_Six, o8 kv1.f_Dst.f_B 0, o8 kv1.f_Dst.f_B 1, o8 kv1.f_Dst.f_B 2, o8 kv1.f_Dst.f_B 3, o8 kv1.f_Dst.f_B 4, o8 kv1.f_Dst.f_B 5, o8 kv1.f_Dst.f_B 6, o8 kv1.f_Dst.f_B 7, o8 kv1.f_Dst.f_B 8, o8 kv1.f_Dst.f_B 9, o8 kv1.f_Dst.f_B 10, o8 kv1.f_Dst.f_B 11, o8 kv1.f_Dst.f_B 12, o8 kv1.f_Dst.f_B 13, o8 kv1.f_Dst.f_B 14, o8 kv1.f_Dst.f_B 15, v8 kv1.f_Proto, v16 kv1.f_SrcPort, v16 kv1.f_DstPort, v64 packets2, v64 bytes3, v64 1, v64 2, v8 0, v8 1, v8 0]) (cs' := [vB kv1.f_Src.f_Six, o8 kv1.f_Src.f_B 0, o8 kv1.f_Src.f_B 1, o8 kv1.f_Src.f_B 2, o8 kv1.f_Src.f_B 3, o8 kv1.f_Src.f_B 4, o8 kv1.f_Src.f_B 5, o8 kv1.f_Src.f_B 6, o8 kv1.f_Src.f_B 7, o8 kv1.f_Src.f_B 8, o8 kv1.f_Src.f_B 9, o8 kv1.f_Src.f_B 10, o8 kv1.f_Src.f_B 11, o8 kv1.f_Src.f_B 12, o8 kv1.f_Src.f_B 13, o8 kv1.f_Src.f_B 14, o8 kv1.f_Src.f_B 15, vB kv1.f_Dst.f_Six, o8 kv1.f_Dst.f_B 0, o8 kv1.f_Dst.f_B 1, o8 kv1.f_Dst.f_B 2, o8 kv1.f_Dst.f_B 3, o8 kv1.f_Dst.f_B 4, o8 kv1.f_Dst.f_B 5, o8 kv1.f_Dst.f_B 6, o8 kv1.f_Dst.f_B 7, o8 kv1.f_Dst.f_B 8, o8 kv1.f_Dst.f_B 9, o8 kv1.f_Dst.f_B 10, o8 kv1.f_Dst.f_B 11, o8 kv1.f_Dst.f_B 12, o8 kv1.f_Dst.f_B 13, o8 kv1.f_Dst.f_B 14, o8 kv1.f_Dst.f_B 15, v8 kv1.f_Proto, v16 kv1.f_SrcPort, v16 kv1.f_DstPort, v64 packets2, v64 bytes3, v64 1, v64 2, v8 0, v8 1, v8 0]) hM rfl sz50 rfl (adds_eq [] rfl) rfl rfl (One.all rfl) rfl rfl) fun w12 hM1 => ?_
 clear hM
 have hM := hM1
 clear hM1
 refine nt hQ11 ?_
 clear hQ11 Q11
 refine KC.ret ?_
 have hE := Option.some.inj hF
 clear hF
 subst hE
 have hb13 := hM.bx (i := 1) rfl
 replace hM := hM.pick [] rfl (by decide)
 refine KQ.rets Try.results18 (RVs.cons (RV.cN (cs := [vB kv1.f_Src.f_Six, o8 kv1.f_Src.f_B 0, o8 kv1.f_Src.f_B 1, o8 kv1.f_Src.f_B 2, o8 kv1.f_Src.f_B 3, o8 kv1.f_Src.f_B 4, o8 kv1.f_Src.f_B 5, o8 kv1.f_Src.f_B 6, o8 kv1.f_Src.f_B 7, o8 kv1.f_Src.f_B 8, o8 kv1.f_Src.f_B 9, o8 kv1.f_Src.f_B 10, o8 kv1.f_Src.f_B 11, o8 kv1.f_Src.f_B 12, o8 kv1.f_Src.f_B 13, o8 kv1.f_Src.f_B 14, o8 kv1.f_Src.f_B 15, vB kv1.f_Dst.f_Six, o8 kv1.f_Dst.f_B 0, o8 kv1.f_Dst.f_B 1, o8 kv1.f_Dst.f_B 2, o8 kv1.f_Dst.f_B 3, o8 kv1.f_Dst.f_B 4, o8 kv1.f_Dst.f_B 5, o8 kv1.f_Dst.f_B 6, o8 kv1.f_Dst.f_B 7, o8 kv1.f_Dst.f_B 8, o8 kv1.f_Dst.f_B 9, o8 kv1.f_Dst.f_B 10, o8 kv1.f_Dst.f_B 11, o8 kv1.f_Dst.f_B 12, o8 kv1.f_Dst.f_B 13, o8 kv1.f_Dst.f_B 14, o8 kv1.f_Dst.f_B 15, v8 kv1.f_Proto, v16 kv1.f_SrcPort, v16 kv1.f_DstPort, v64 packets2, v64 bytes3, v64 1, v64 2, v8 0, v8 1, v8 0]) rfl ag50 hb13) RVs.nil) ?_
 exact ⟨_, rfl, rfl, hM⟩
set_option maxRecDepth 100000 in
set_option maxHeartbeats 40000000 in
theorem c_model_Model_Entries (w : World) (m4 : T_model_Model) (g5 : Nat) (hm6 : MR62 g5 m4.f_forwarded w) (g7 : Nat) (hm8 : MR62 g7 m4.f_cached w) (g9 : Nat) (hm10 : MR62 g9 m4.f_lost w) (A11 : Option Addr) (c12 : Nat) (hr13 : RdD R_model_Entry [] w A11 c12 6 m4.f_entries) (A14 : Option Addr) (c15 : Nat) (hr16 : Rd w A14 c15 1 m4.f_line.length (m4.f_line.flatMap (eI .i64))) (g1 : Nat) (hC2 : Cs w ⟨g1, 0, none⟩ [.map (some g5), .map (some g7), .map (some g9), .slice A11 (m4.f_entries).length c12, .slice A14 (m4.f_line).length c15, v64 m4.f_first, v32 m4.f_boot]) (r : (List T_model_Entry)) (hF : F_model_Model_Entries m4 = some r) :
  CallsR Try.prog 9 [.pointer (some ⟨g1, 0, none⟩)] w (fun v w' => ∃ (Ar0 : Option Addr) (cr0 : Nat) (cssr1 : List (List Value)) (Zr1 : List Nat), v = .slice Ar0 (r).length cr0 ∧ Mem w [] w' [.row Ar0 cr0 47 6 r.length cssr1.flatten, .res Zr1 (Els RO_model_Entry 6 r cssr1 Zr1)]) := by
 refine calls_KC Try.func9 rfl Try.ntmps9 rfl ?_
 have hM := Mem.init w
 unfold F_model_Model_Entries at hF
 refine sr fun Q17 hQ17 => ?_
 refine va rfl rfl ?_
 refine nt hQ17 ?_
 clear hQ17 Q17
 refine KC.seqH fun Q18 hQ18 => ?_
 refine sr fun Q19 hQ19 => ?_
 refine vm rfl rfl ?_
 refine RL.val (O.peqn Try.underlying25 rfl rfl) rfl ?_
 refine nt hQ19 ?_
 clear hQ19 Q19
 refine KC.condF rfl ?_
 refine KC.skip ?_
 refine KQ.thn hQ18 ?_
 clear hQ18 Q18
 refine KC.seqH fun Q20 hQ20 => ?_
 refine sr fun Q21 hQ21 => ?_
 refine vm rfl rfl ?_
 refine RL.val (O.nilp rfl) rfl ?_
 refine RL.val (O.fldA fl65_3 (by decide) rfl) rfl ?_
 refine RL.val (O.load sc42 rfl (Cs.adds [3] ((hC2.fut hM.chg)) rfl)) rfl ?_
 refine RL.val (O.len sl42 rfl) rfl ?_
 refine vm rfl rfl ?_
 refine nt hQ21 ?_
 clear hQ21 Q21
 refine KC.block ?_
 refine KC.loop (fun k121 a w119 => ∃ (A112 : Option Addr) (c113 : Nat) (css114 : List (List Value)) (Z115 : List Nat) (lv117 : List T_model_Entry) (t118 : Int), Kn 23 [(2, .slice A112 (lv117).length c113), (10, .slice A11 (m4.f_entries).length c12), (11, vI (m4.f_entries.length : Int)), (12, vI t118)] a ∧ Mem w [] w119 [.row A112 c113 47 6 (lv117).length (css114).flatten, .res Z115 (Els RO_model_Entry 6 lv117 css114 Z115)] ∧ F_model_Model_Entries_L1 m4 k121 lv117 t118 = some r) ?_ ?_
 ·replace hM := hM.nilrow 47 6
  obtain ⟨Z162, hM⟩ := hM.glue [] [0] rfl rfl (by decide) rfl (Els RO_model_Entry 6 ([] : List T_model_Entry) []) (fun Z w1 _ _ => Els.nil)
  exact fun a ha => ⟨fuel0, none, 0, [], Z162, ([]), 0, ha.less (less_cons rfl (less_cons rfl (less_cons rfl (less_cons rfl less_nil)))), hM, hF⟩
 rintro k121 a w119 ⟨A112, c113, css114, Z115, lv117, t118, ha, hM, hF⟩
 refine KC.app ha ?_
 clear ha
 cases k121 with
 | zero => exact (none_some hF).elim
 | succ k121 =>
 have hF : F_model_Model_Entries_l1 (F_model_Model_Entries_L1 m4 k121) m4 lv117 t118 = some r := hF
 unfold F_model_Model_Entries_l1 at hF
 refine sr fun Q122 hQ122 => ?_
 refine RL.val (O.lss rfl rfl) rfl ?_
 refine nt hQ122 ?_
 clear hQ122 Q122
 refine KC.seqH fun Q123 hQ123 => ?_
 refine KC.cond rfl (fun hc => ?_) (fun hc => ?_)
 ·rw [if_pos hc] at hF
  refine KC.skip ?_
  refine KQ.thn hQ123 ?_
  clear hQ123 Q123
  refine KC.seqH fun Q124 hQ124 => ?_
  refine KC.block ?_
  refine sr fun Q125 hQ125 => ?_
  refine obindE hF fun xv128 hx127 hF => ?_
  obtain ⟨cs131, hA126, hR129, hO130⟩ := RdD.at hr13 hx127
  obtain ⟨A132, c133, rfl, hr134, ho135⟩ := hR129
  have hA126 := hA126.chg hM.chg hO130
  refine RL.val (O.idxA sl42 (hA126) rfl rfl) rfl ?_
  refine RL.val (O.loadN (cs := [v32 xv128.f_Epoch, v64 xv128.f_N, .slice A132 (xv128.f_Records).length c133, vB xv128.f_There, vB xv128.f_Synced, vB xv128.f_Credited]) ag47 rfl (hA126).cells) rfl ?_
  refine RL.eff (E.alloc hM ze47) rfl fun v w137 hv => ?_
  clear hM
  obtain ⟨g136, rfl, hM, hf⟩ := hv
  refine RL.effs (E.stB (j := 2) (off := 0) (vs := [v32 xv128.f_Epoch, v64 xv128.f_N, .slice A132 (xv128.f_Records).length c133, vB xv128.f_There, vB xv128.f_Synced, vB xv128.f_Credited]) (cs' := [v32 xv128.f_Epoch, v64 xv128.f_N, .slice A132 (xv128.f_Records).length c133, vB xv128.f_There, vB xv128.f_Synced, vB xv128.f_Credited]) hM rfl sz47 rfl (adds_eq [] rfl) rfl rfl (One.all rfl) rfl rfl) fun w139 hM1 => ?_
  clear hM
  have hM := hM1
  clear hM1
  refine nt hQ125 ?_
  clear hQ125 Q125
  refine KC.region ?_
  refine vm rfl rfl ?_
  refine RL.val (O.loadN (cs := [v32 xv128.f_Epoch, v64 xv128.f_N, .slice A132 (xv128.f_Records).length c133, vB xv128.f_There, vB xv128.f_Synced, vB xv128.f_Credited]) ag47 rfl (Cs.addsN [] ((hM.bx (i := 2) rfl)) rfl)) rfl ?_
  refine obindE hF fun y140 hx141 hF => ?_
  refine RL.call Try.func27 bd27 rfl rfl (c_model_Entry_copied _ xv128 _ _ (hM.inp hr134 Off.nil) _ hx141) fun v w142 hv => ?_
  obtain ⟨A144, c145, rfl, hN143⟩ := hv
  replace hM := hM.call hN143
  refine RL.eff (E.bslD (css := ([[v32 y140.f_Epoch, v64 y140.f_N, .slice A144 (y140.f_Records).length c145, vB y140.f_There, vB y140.f_Synced, vB y140.f_Credited]] : List (List Value))) hM sl42 ze47 rfl rfl rfl rfl rfl (by kernel_rfl) rfl) rfl fun v w147 hv => ?_
  clear hM
  obtain ⟨A148, rfl, hM, hf⟩ := hv
  have hp152 := (hM.pick [3] rfl (by decide)).sep
  obtain ⟨Z149, hM⟩ := hM.glue [3] [0, 1, 2, 4] rfl rfl (by decide) rfl (Els RO_model_Entry 6 [y140] ([[v32 y140.f_Epoch, v64 y140.f_N, .slice A144 (y140.f_Records).length c145, vB y140.f_There, vB y140.f_Synced, vB y140.f_Credited]] : List (List Value))) (fun Z w1 ho hz => Els.lit (El3.cons rfl ⟨A144, c145, rfl, rfl⟩ El3.nil) rfl ho hz hp152)
  refine cut_someE hF fun hq156 hF => ?_
  refine RL.eff (E.appD (xs := lv117) (ys := [y140]) (css := css114) (cs2 := ([[v32 y140.f_Epoch, v64 y140.f_N, .slice A144 (y140.f_Records).length c145, vB y140.f_There, vB y140.f_Synced, vB y140.f_Credited]] : List (List Value))) (j := 0) hM rfl sl42 ze47 rfl rfl rfl rfl rfl (hM.rd (i := 3) rfl) (One.all rfl) (of_decide_eq_true hq156)) rfl fun v w155 hv => ?_
  clear hM
  obtain ⟨A153, c154, rfl, hM, hf⟩ := hv
  have hp158 := hM.sep
  obtain ⟨Z157, hM⟩ := hM.glue [1, 4] [0, 2] rfl rfl (by decide) rfl (Els RO_model_Entry 6 (lv117 ++ [y140]) (css114 ++ ([[v32 y140.f_Epoch, v64 y140.f_N, .slice A144 (y140.f_Records).length c145, vB y140.f_There, vB y140.f_Synced, vB y140.f_Credited]] : List (List Value)))) (fun Z w1 ho hz => Els.app (Ob.res_φ (ho 0 _ rfl)) (Ob.res_φ (ho 1 _ rfl)) (fun g hg => hz 0 _ g rfl (Ob.has_res.2 hg)) (fun g hg => hz 1 _ g rfl (Ob.has_res.2 hg)) (fun g h1 h2 => absurd (hp158 1 4 _ _ g rfl rfl (Ob.has_res.2 h1) (Ob.has_res.2 h2)) (by decide)))
  refine va rfl rfl ?_
  refine RL.nil ?_
  refine KQ.blk_n ?_
  refine KQ.thn hQ124 ?_
  clear hQ124 Q124
  refine KC.region ?_
  refine RL.val (O.add rfl rfl) rfl ?_
  refine vm rfl rfl ?_
  refine RL.nil ?_
  refine KQ.then_k ?_
  replace hM := hM.pick [0, 2] rfl (by decide)
  exact fun a ha => ⟨k121, Nat.lt_succ_self k121, A153, c154, (css114 ++ ([[v32 y140.f_Epoch, v64 y140.f_N, .slice A144 (y140.f_Records).length c145, vB y140.f_There, vB y140.f_Synced, vB y140.f_Credited]] : List (List Value))), Z157, (lv117 ++ [y140]), (IntKind.i64.wrap (t118 + 1)), ha.less (less_cons rfl (less_cons rfl (less_cons rfl (less_cons rfl less_nil)))), hM, hF⟩
 rw [if_neg (ne_true hc)] at hF
 refine KC.exit ?_
 refine KQ.thx hQ123 ?_
 clear hQ123 Q123
 refine KQ.then_x ?_
 refine KQ.blk_x ?_
 refine KQ.thn hQ20 ?_
 clear hQ20 Q20
 refine sr fun Q161 hQ161 => ?_
 refine vm rfl rfl ?_
 refine va rfl rfl ?_
 refine nt hQ161 ?_
 clear hQ161 Q161
 refine KC.ret ?_
 have hE := Option.some.inj hF
 clear hF
 subst hE
 refine KQ.rets Try.results9 (RVs.cons (RV.tm rfl) RVs.nil) ?_
 exact ⟨_, rfl, A112, c113, css114, Z115, rfl, hM⟩
set_option maxRecDepth 100000 in
set_option maxHeartbeats 40000000 in
theorem c_model_Model_Copy (w : World) (m4 : T_model_Model) (g5 : Nat) (hm6 : MR62 g5 m4.f_forwarded w) (g7 : Nat) (hm8 : MR62 g7 m4.f_cached w) (g9 : Nat) (hm10 : MR62 g9 m4.f_lost w) (A11 : Option Addr) (c12 : Nat) (hr13 : RdD R_model_Entry [] w A11 c12 6 m4.f_entries) (A14 : Option Addr) (c15 : Nat) (hr16 : Rd w A14 c15 1 m4.f_line.length (m4.f_line.flatMap (eI .i64))) (g1 : Nat) (hC2 : Cs w ⟨g1, 0, none⟩ [.map (some g5), .map (some g7), .map (some g9), .slice A11 (m4.f_entries).length c12, .slice A14 (m4.f_line).length c15, v64 m4.f_first, v32 m4.f_boot]) (r : T_model_Model) (hF : F_model_Model_Copy m4 = some r) :
  CallsR Try.prog 16 [.pointer (some ⟨g1, 0, none⟩)] w (fun v w' => ∃ (gr0 : Nat) (gr1 : Nat) (gr2 : Nat) (gr3 : Nat) (Ar4 : Option Addr) (cr4 : Nat) (cssr5 : List (List Value)) (Zr5 : List Nat) (Ar5 : Option Addr) (cr5 : Nat), v = .pointer (some ⟨gr0, 0, none⟩) ∧ Mem w [] w' [.box gr0 65 [.map (some gr1), .map (some gr2), .map (some gr3), .slice Ar4 (r.f_entries).length cr4, .slice Ar5 (r.f_line).length cr5, v64 r.f_first, v32 r.f_boot], .res [gr1] (MR62 gr1 r.f_forwarded), .res [gr2] (MR62 gr2 r.f_cached), .res [gr3] (MR62 gr3 r.f_lost), .row Ar4 cr4 47 6 r.f_entries.length cssr5.flatten, .res Zr5 (Els RO_model_Entry 6 r.f_entries cssr5 Zr5), .row Ar5 cr5 3 1 r.f_line.length (r.f_line.flatMap (eI .i64))]) := by
 refine calls_KC Try.func16 rfl Try.ntmps16 rfl ?_
 have hM := Mem.init w
 unfold F_model_Model_Copy at hF
 refine sr fun Q17 hQ17 => ?_
 refine va rfl rfl ?_
 refine nt hQ17 ?_
 clear hQ17 Q17
 refine KC.seqH fun Q18 hQ18 => ?_
 refine sr fun Q19 hQ19 => ?_
 refine vm rfl rfl ?_
 refine RL.val (O.peqn Try.underlying25 rfl rfl) rfl ?_
 refine nt hQ19 ?_
 clear hQ19 Q19
 refine KC.condF rfl ?_
 refine KC.skip ?_
 refine KQ.thn hQ18 ?_
 clear hQ18 Q18
 refine KC.seqH fun Q20 hQ20 => ?_
 replace hM := hM.drewN 1
 refine KC.draw [] [] [4, 9, 14, 16, 21, 31] [0, 1, 2, 5, 6, 7, 10, 11, 12, 15, 17, 18, 19, 22, 23, 24, 26, 27, 28, 32] (.ofList [0, 1, 2, 3, 5, 6, 7, 8, 10, 11, 12, 13, 15, 17, 18, 19, 20, 22, 23, 24, 25, 26, 27, 28, 29, 4, 9, 14, 16, 21, 30, 31, 32]) moP (by kernel_rfl) ?_
 refine RD.p rfl rfl rfl rfl (fun w' => O.move rfl) ?_
 refine RD.p rfl rfl rfl rfl (fun w' => O.nilp rfl) ?_
 refine RD.p rfl rfl rfl rfl (fun w' => O.fldA fl65_0 (by decide) rfl) ?_
 refine RD.q rfl rfl rfl rfl (fun w' hf => O.load sc62 rfl (Cs.adds [0] ((hC2.fut hM.chg).fut hf) rfl)) ?_
 refine RD.p rfl rfl rfl rfl (fun w' => O.move rfl) ?_
 refine RD.p rfl rfl rfl rfl (fun w' => O.nilp rfl) ?_
 refine RD.p rfl rfl rfl rfl (fun w' => O.fldA fl65_1 (by decide) rfl) ?_
 refine RD.q rfl rfl rfl rfl (fun w' hf => O.load sc62 rfl (Cs.adds [1] ((hC2.fut hM.chg).fut hf) rfl)) ?_
 refine RD.p rfl rfl rfl rfl (fun w' => O.move rfl) ?_
 refine RD.p rfl rfl rfl rfl (fun w' => O.nilp rfl) ?_
 refine RD.p rfl rfl rfl rfl (fun w' => O.fldA fl65_2 (by decide) rfl) ?_
 refine RD.q rfl rfl rfl rfl (fun w' hf => O.load sc62 rfl (Cs.adds [2] ((hC2.fut hM.chg).fut hf) rfl)) ?_
 refine RD.p rfl rfl rfl rfl (fun w' => O.move rfl) ?_
 refine RD.p rfl rfl rfl rfl (fun w' => O.move rfl) ?_
 refine RD.p rfl rfl rfl rfl (fun w' => O.nilp rfl) ?_
 refine RD.p rfl rfl rfl rfl (fun w' => O.fldA fl65_4 (by decide) rfl) ?_
 refine RD.q rfl rfl rfl rfl (fun w' hf => O.load sc63 rfl (Cs.adds [4] ((hC2.fut hM.chg).fut hf) rfl)) ?_
 refine RD.p rfl rfl rfl rfl (fun w' => O.move rfl) ?_
 refine RD.p rfl rfl rfl rfl (fun w' => O.nilp rfl) ?_
 refine RD.p rfl rfl rfl rfl (fun w' => O.fldA fl65_5 (by decide) rfl) ?_
 refine RD.q rfl rfl rfl rfl (fun w' hf => O.load sc35 rfl (Cs.adds [5] ((hC2.fut hM.chg).fut hf) rfl)) ?_
 refine RD.p rfl rfl rfl rfl (fun w' => O.move rfl) ?_
 refine RD.p rfl rfl rfl rfl (fun w' => O.nilp rfl) ?_
 refine RD.p rfl rfl rfl rfl (fun w' => O.fldA fl65_6 (by decide) rfl) ?_
 refine RD.q rfl rfl rfl rfl (fun w' hf => O.load sc39 rfl (Cs.adds [6] ((hC2.fut hM.chg).fut hf) rfl)) ?_
 refine obindE hF fun y21 hx22 hF => ?_
 refine RD.mcall rfl rfl trivial Try.func34 bd34 rfl rfl (c_maps_Clone_model_totals_packet_Key_flow_Total _ m4.f_forwarded _ (hm6.fut hM.chg) _ hx22) fun v w23 hv => ?_
 obtain ⟨g25, rfl, hN24⟩ := hv
 refine ⟨fun _ => hN24.fut, ?_⟩
 replace hM := hM.call hN24
 refine obindE hF fun y27 hx28 hF => ?_
 refine RD.mcall rfl rfl trivial Try.func34 bd34 rfl rfl (c_maps_Clone_model_totals_packet_Key_flow_Total _ m4.f_cached _ (hm8.fut hM.chg) _ hx28) fun v w29 hv => ?_
 obtain ⟨g31, rfl, hN30⟩ := hv
 refine ⟨fun _ => hN30.fut, ?_⟩
 replace hM := hM.call hN30
 refine obindE hF fun y33 hx34 hF => ?_
 refine RD.mcall rfl rfl trivial Try.func34 bd34 rfl rfl (c_maps_Clone_model_totals_packet_Key_flow_Total _ m4.f_lost _ (hm10.fut hM.chg) _ hx34) fun v w35 hv => ?_
 obtain ⟨g37, rfl, hN36⟩ := hv
 refine ⟨fun _ => hN36.fut, ?_⟩
 replace hM := hM.call hN36
 refine obindE hF fun y39 hx40 hF => ?_
 refine RD.mcall rfl rfl trivial Try.func9 bd9 rfl rfl (c_model_Model_Entries _ m4 _ (hm6.fut hM.chg) _ (hm8.fut hM.chg) _ (hm10.fut hM.chg) _ _ (hr13.chg mv_model_Entry hM.chg) _ _ (hM.inp hr16 Off.nil) _ (hC2.fut hM.chg) _ hx40) fun v w41 hv => ?_
 obtain ⟨A43, c44, css46, Z47, rfl, hN42⟩ := hv
 refine ⟨fun _ => hN42.fut, ?_⟩
 replace hM := hM.call hN42
 refine obindE hF fun y49 hx50 hF => ?_
 refine RD.mcall rfl rfl trivial Try.func35 bd35 rfl rfl (c_slices_Clone_int_int _ _ _ m4.f_line (hM.inp hr16 Off.nil) _ hx50) fun v w51 hv => ?_
 obtain ⟨A53, c54, rfl, hN52⟩ := hv
 refine ⟨fun _ => hN52.fut, ?_⟩
 replace hM := hM.call hN52
 refine RD.q rfl rfl rfl rfl (fun w' hf => O.bld (cs := [.map (some g25), .map (some g31), .map (some g37), .slice A43 (y39).length c44, .slice A53 (y49).length c54, v64 m4.f_first, v32 m4.f_boot]) bt65 rfl (by kernel_rfl)) ?_
 refine RD.meff rfl rfl (E.box (vs := [.map (some g25), .map (some g31), .map (some g37), .slice A43 (y39).length c44, .slice A53 (y49).length c54, v64 m4.f_first, v32 m4.f_boot]) hM rfl rfl) rfl fun v w57 hv => ?_
 clear hM
 obtain ⟨g56, rfl, hM, hf⟩ := hv
 refine ⟨fun _ => hf, ?_⟩
 refine RD.p rfl rfl rfl rfl (fun w' => O.assign rfl) ?_
 refine RD.nil ?_
 refine KQ.thn hQ20 ?_
 clear hQ20 Q20
 refine KC.ret ?_
 have hE := Option.some.inj hF
 clear hF
 subst hE
 replace hM := hM.pick [6, 0, 1, 2, 3, 4, 5] rfl (by decide)
 refine KQ.rets Try.results16 (RVs.cons (RV.tm rfl) RVs.nil) ?_
 exact ⟨_, rfl, g56, g25, g31, g37, A43, c44, css46, Z47, A53, c54, rfl, hM⟩
set_option maxRecDepth 100000 in
set_option maxHeartbeats 40000000 in
theorem c_model_Parts_Whole (w : World) (p1 : T_model_Parts) (r : Bool) (hF : F_model_Parts_Whole p1 = some r) :
  CallsR Try.prog 19 [.agg #[v64 p1.f_Forwarded.f_Packets, v64 p1.f_Forwarded.f_Bytes, v64 p1.f_Cached.f_Packets, v64 p1.f_Cached.f_Bytes, v64 p1.f_Volatile.f_Packets, v64 p1.f_Volatile.f_Bytes, v64 p1.f_Durable.f_Packets, v64 p1.f_Durable.f_Bytes, v64 p1.f_Lost.f_Packets, v64 p1.f_Lost.f_Bytes, v64 p1.f_Credited.f_Packets, v64 p1.f_Credited.f_Bytes]] w (fun v w' => v = vB r ∧ Mem w [] w' []) := by
 refine calls_KC Try.func19 rfl Try.ntmps19 rfl ?_
 have hM := Mem.init w
 unfold F_model_Parts_Whole at hF
 refine sr fun Q2 hQ2 => ?_
 refine RL.eff (E.box (vs := [v64 p1.f_Forwarded.f_Packets, v64 p1.f_Forwarded.f_Bytes, v64 p1.f_Cached.f_Packets, v64 p1.f_Cached.f_Bytes, v64 p1.f_Volatile.f_Packets, v64 p1.f_Volatile.f_Bytes, v64 p1.f_Durable.f_Packets, v64 p1.f_Durable.f_Bytes, v64 p1.f_Lost.f_Packets, v64 p1.f_Lost.f_Bytes, v64 p1.f_Credited.f_Packets, v64 p1.f_Credited.f_Bytes]) hM rfl rfl) rfl fun v w4 hv => ?_
 clear hM
 obtain ⟨g3, rfl, hM, hf⟩ := hv
 refine va rfl rfl ?_
 refine nt hQ2 ?_
 clear hQ2 Q2
 refine KC.seqH fun Q6 hQ6 => ?_
 replace hM := hM.drewN 1
 refine KC.draw [] [] [6, 9, 12, 15] [0, 2, 4, 7, 10, 13, 16, 17] (.ofList [0, 1, 2, 3, 4, 5, 7, 8, 10, 11, 13, 14, 6, 9, 12, 15, 16, 17]) moP (by kernel_rfl) ?_
 refine RD.p rfl rfl rfl rfl (fun w' => O.fldA fl54_0 (by decide) rfl) ?_
 refine RD.q rfl rfl rfl rfl (fun w' hf => O.loadN (cs := [v64 p1.f_Forwarded.f_Packets, v64 p1.f_Forwarded.f_Bytes]) ag37 rfl (Cs.addsN [0] ((hM.bx (i := 0) rfl).fut hf) rfl)) ?_
 refine RD.p rfl rfl rfl rfl (fun w' => O.fldA fl54_1 (by decide) rfl) ?_
 refine RD.q rfl rfl rfl rfl (fun w' hf => O.loadN (cs := [v64 p1.f_Cached.f_Packets, v64 p1.f_Cached.f_Bytes]) ag37 rfl (Cs.addsN [2] ((hM.bx (i := 0) rfl).fut hf) rfl)) ?_
 refine RD.p rfl rfl rfl rfl (fun w' => O.fldA fl54_2 (by decide) rfl) ?_
 refine RD.q rfl rfl rfl rfl (fun w' hf => O.loadN (cs := [v64 p1.f_Volatile.f_Packets, v64 p1.f_Volatile.f_Bytes]) ag37 rfl (Cs.addsN [4] ((hM.bx (i := 0) rfl).fut hf) rfl)) ?_
 refine RD.p rfl rfl rfl rfl (fun w' => O.fldA fl54_3 (by decide) rfl) ?_
 refine RD.q rfl rfl rfl rfl (fun w' hf => O.loadN (cs := [v64 p1.f_Durable.f_Packets, v64 p1.f_Durable.f_Bytes]) ag37 rfl (Cs.addsN [6] ((hM.bx (i := 0) rfl).fut hf) rfl)) ?_
 refine RD.p rfl rfl rfl rfl (fun w' => O.fldA fl54_4 (by decide) rfl) ?_
 refine RD.q rfl rfl rfl rfl (fun w' hf => O.loadN (cs := [v64 p1.f_Lost.f_Packets, v64 p1.f_Lost.f_Bytes]) ag37 rfl (Cs.addsN [8] ((hM.bx (i := 0) rfl).fut hf) rfl)) ?_
 refine RD.p rfl rfl rfl rfl (fun w' => O.fldA fl54_5 (by decide) rfl) ?_
 refine RD.q rfl rfl rfl rfl (fun w' hf => O.loadN (cs := [v64 p1.f_Credited.f_Packets, v64 p1.f_Credited.f_Bytes]) ag37 rfl (Cs.addsN [10] ((hM.bx (i := 0) rfl).fut hf) rfl)) ?_
 refine obindE hF fun y7 hx8 hF => ?_
 refine RD.mcall rfl rfl trivial Try.func12 bd12 rfl rfl (c_flow_Total_Plus _ p1.f_Cached p1.f_Volatile _ hx8) fun v w9 hv => ?_
 obtain ⟨rfl, hN10⟩ := hv
 refine ⟨fun _ => hN10.fut, ?_⟩
 replace hM := hM.call0 hN10
 refine obindE hF fun y11 hx12 hF => ?_
 refine RD.mcall rfl rfl trivial Try.func12 bd12 rfl rfl (c_flow_Total_Plus _ y7 p1.f_Durable _ hx12) fun v w13 hv => ?_
 obtain ⟨rfl, hN14⟩ := hv
 refine ⟨fun _ => hN14.fut, ?_⟩
 replace hM := hM.call0 hN14
 refine obindE hF fun y15 hx16 hF => ?_
 refine RD.mcall rfl rfl trivial Try.func12 bd12 rfl rfl (c_flow_Total_Plus _ y11 p1.f_Lost _ hx16) fun v w17 hv => ?_
 obtain ⟨rfl, hN18⟩ := hv
 refine ⟨fun _ => hN18.fut, ?_⟩
 replace hM := hM.call0 hN18
 refine obindE hF fun y19 hx20 hF => ?_
 refine RD.mcall rfl rfl trivial Try.func12 bd12 rfl rfl (c_flow_Total_Plus _ y15 p1.f_Credited _ hx20) fun v w21 hv => ?_
 obtain ⟨rfl, hN22⟩ := hv
 refine ⟨fun _ => hN22.fut, ?_⟩
 replace hM := hM.call0 hN22
 refine RD.p rfl rfl rfl rfl (fun w' => O.steq (cs := [v64 p1.f_Forwarded.f_Packets, v64 p1.f_Forwarded.f_Bytes]) (cs' := [v64 y19.f_Packets, v64 y19.f_Bytes]) (by kernel_rfl) rfl rfl (Q37t p1.f_Forwarded y19 _ rfl rfl)) ?_
 refine RD.p rfl rfl rfl rfl (fun w' => O.assign rfl) ?_
 refine RD.nil ?_
 refine KQ.thn hQ6 ?_
 clear hQ6 Q6
 refine KC.ret ?_
 have hE := Option.some.inj hF
 clear hF
 subst hE
 replace hM := hM.pick [] rfl (by decide)
 refine KQ.rets Try.results19 (RVs.cons (RV.tm rfl) RVs.nil) ?_
 exact ⟨_, rfl, rfl, hM⟩
end Go.Proofs.Ytidbgejnkpoeeaa
