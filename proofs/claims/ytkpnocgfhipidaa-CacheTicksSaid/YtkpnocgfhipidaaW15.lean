/- Printed by a program of this claim: each call returns what the plain function of its name gives. -/
import Derived.Test.YtkpnocgfhipidaaW1
import Derived.Test.YtkpnocgfhipidaaW14
set_option linter.unusedVariables false
namespace Go.Proofs.Ytkpnocgfhipidaa
open Go Go.Ox Go.RowKit
set_option maxRecDepth 100000 in
set_option maxHeartbeats 40000000 in
theorem c_slices_MinFunc_flow_Record_flow_Record_fcache_Cache_begin_1 (w : World) (A2 : Option Addr) (c3 : Nat) (xv1 : List T_flow_Record) (hr4 : Rd w A2 c3 44 xv1.length (xv1.flatMap e_flow_Record)) (r : T_flow_Record) (hF : F_slices_MinFunc_flow_Record_flow_Record_fcache_Cache_begin_1 xv1 = some r) :
  CallsR Try.prog 51 [.slice A2 (xv1).length c3, .func (.func 52) #[] #[]] w (fun v w' => v = .agg #[vB r.f_Key.f_Src.f_Six, o8 r.f_Key.f_Src.f_B 0, o8 r.f_Key.f_Src.f_B 1, o8 r.f_Key.f_Src.f_B 2, o8 r.f_Key.f_Src.f_B 3, o8 r.f_Key.f_Src.f_B 4, o8 r.f_Key.f_Src.f_B 5, o8 r.f_Key.f_Src.f_B 6, o8 r.f_Key.f_Src.f_B 7, o8 r.f_Key.f_Src.f_B 8, o8 r.f_Key.f_Src.f_B 9, o8 r.f_Key.f_Src.f_B 10, o8 r.f_Key.f_Src.f_B 11, o8 r.f_Key.f_Src.f_B 12, o8 r.f_Key.f_Src.f_B 13, o8 r.f_Key.f_Src.f_B 14, o8 r.f_Key.f_Src.f_B 15, vB r.f_Key.f_Dst.f_Six, o8 r.f_Key.f_Dst.f_B 0, o8 r.f_Key.f_Dst.f_B 1, o8 r.f_Key.f_Dst.f_B 2, o8 r.f_Key.f_Dst.f_B 3, o8 r.f_Key.f_Dst.f_B 4, o8 r.f_Key.f_Dst.f_B 5, o8 r.f_Key.f_Dst.f_B 6, o8 r.f_Key.f_Dst.f_B 7, o8 r.f_Key.f_Dst.f_B 8, o8 r.f_Key.f_Dst.f_B 9, o8 r.f_Key.f_Dst.f_B 10, o8 r.f_Key.f_Dst.f_B 11, o8 r.f_Key.f_Dst.f_B 12, o8 r.f_Key.f_Dst.f_B 13, o8 r.f_Key.f_Dst.f_B 14, o8 r.f_Key.f_Dst.f_B 15, v8 r.f_Key.f_Proto, v16 r.f_Key.f_SrcPort, v16 r.f_Key.f_DstPort, v64 r.f_Packets, v64 r.f_Bytes, v64 r.f_First, v64 r.f_Last, v8 r.f_Flags, v8 r.f_Reason, v8 r.f_Class] ∧ Mem w [] w' []) := by
 refine calls_KC Try.func51 rfl Try.ntmps51 rfl ?_
 have hM := Mem.init w
 unfold F_slices_MinFunc_flow_Record_flow_Record_fcache_Cache_begin_1 at hF
 refine sr fun Q5 hQ5 => ?_
 refine RL.eff (E.alloc hM ze46) rfl fun v w7 hv => ?_
 clear hM
 obtain ⟨g6, rfl, hM, hf⟩ := hv
 refine nt hQ5 ?_
 clear hQ5 Q5
 refine KC.cut (fun a w11 => Kn 33 [(0, .slice A2 (xv1).length c3), (1, .func (.func 52) #[] #[]), (4, .pointer (some ⟨g6, 0, none⟩))] a ∧ Mem w [] w11 [.box g6 46 [vB false, o8 (List.replicate 16 0) 0, o8 (List.replicate 16 0) 1, o8 (List.replicate 16 0) 2, o8 (List.replicate 16 0) 3, o8 (List.replicate 16 0) 4, o8 (List.replicate 16 0) 5, o8 (List.replicate 16 0) 6, o8 (List.replicate 16 0) 7, o8 (List.replicate 16 0) 8, o8 (List.replicate 16 0) 9, o8 (List.replicate 16 0) 10, o8 (List.replicate 16 0) 11, o8 (List.replicate 16 0) 12, o8 (List.replicate 16 0) 13, o8 (List.replicate 16 0) 14, o8 (List.replicate 16 0) 15, vB false, o8 (List.replicate 16 0) 0, o8 (List.replicate 16 0) 1, o8 (List.replicate 16 0) 2, o8 (List.replicate 16 0) 3, o8 (List.replicate 16 0) 4, o8 (List.replicate 16 0) 5, o8 (List.replicate 16 0) 6, o8 (List.replicate 16 0) 7, o8 (List.replicate 16 0) 8, o8 (List.replicate 16 0) 9, o8 (List.replicate 16 0) 10, o8 (List.replicate 16 0) 11, o8 (List.replicate 16 0) 12, o8 (List.replicate 16 0) 13, o8 (List.replicate 16 0) 14, o8 (List.replicate 16 0) 15, v8 0, v16 0, v16 0, v64 0, v64 0, v64 0, v64 0, v8 0, v8 0, v8 0]] ∧ F_slices_MinFunc_flow_Record_flow_Record_fcache_Cache_begin_1_j1 xv1 = some r) ?_ ?_
 ·refine sr fun Q9 hQ9 => ?_
  refine vm rfl rfl ?_
  refine RL.val (O.len sl41 rfl) rfl ?_
  refine RL.val (O.lss rfl rfl) rfl ?_
  refine nt hQ9 ?_
  clear hQ9 Q9
  refine KC.cond rfl (fun hc => ?_) (fun hc => ?_)
  ·rw [if_pos hc] at hF
   refine KC.region ?_
   exact (none_some hF).elim
  rw [if_neg (ne_true hc)] at hF
  refine KC.skip ?_
  refine KQ.then_k ?_
  exact fun a ha => ⟨ha.less (less_cons rfl (less_cons rfl (less_cons rfl less_nil))), hM, hF⟩
 rintro a w11 ⟨ha, hM, hF⟩
 refine KC.app ha ?_
 clear ha
 unfold F_slices_MinFunc_flow_Record_flow_Record_fcache_Cache_begin_1_j1 at hF
 refine sr fun Q12 hQ12 => ?_
 refine vm rfl rfl ?_
 refine obindE hF fun xv15 hx14 hF => ?_
 have hA13 := Rd.atN (f := e_flow_Record) (s := 44) (fun _ => rfl) (by decide) (hM.inp hr4 Off.nil) hx14
 refine RL.val (O.idxA sl41 (hA13) rfl rfl) rfl ?_
 refine RL.val (O.loadN (cs := [vB xv15.f_Key.f_Src.f_Six, o8 xv15.f_Key.f_Src.f_B 0, o8 xv15.f_Key.f_Src.f_B 1, o8 xv15.f_Key.f_Src.f_B 2, o8 xv15.f_Key.f_Src.f_B 3, o8 xv15.f_Key.f_Src.f_B 4, o8 xv15.f_Key.f_Src.f_B 5, o8 xv15.f_Key.f_Src.f_B 6, o8 xv15.f_Key.f_Src.f_B 7, o8 xv15.f_Key.f_Src.f_B 8, o8 xv15.f_Key.f_Src.f_B 9, o8 xv15.f_Key.f_Src.f_B 10, o8 xv15.f_Key.f_Src.f_B 11, o8 xv15.f_Key.f_Src.f_B 12, o8 xv15.f_Key.f_Src.f_B 13, o8 xv15.f_Key.f_Src.f_B 14, o8 xv15.f_Key.f_Src.f_B 15, vB xv15.f_Key.f_Dst.f_Six, o8 xv15.f_Key.f_Dst.f_B 0, o8 xv15.f_Key.f_Dst.f_B 1, o8 xv15.f_Key.f_Dst.f_B 2, o8 xv15.f_Key.f_Dst.f_B 3, o8 xv15.f_Key.f_Dst.f_B 4, o8 xv15.f_Key.f_Dst.f_B 5, o8 xv15.f_Key.f_Dst.f_B 6, o8 xv15.f_Key.f_Dst.f_B 7, o8 xv15.f_Key.f_Dst.f_B 8, o8 xv15.f_Key.f_Dst.f_B 9, o8 xv15.f_Key.f_Dst.f_B 10, o8 xv15.f_Key.f_Dst.f_B 11, o8 xv15.f_Key.f_Dst.f_B 12, o8 xv15.f_Key.f_Dst.f_B 13, o8 xv15.f_Key.f_Dst.f_B 14, o8 xv15.f_Key.f_Dst.f_B 15, v8 xv15.f_Key.f_Proto, v16 xv15.f_Key.f_SrcPort, v16 xv15.f_Key.f_DstPort, v64 xv15.f_Packets, v64 xv15.f_Bytes, v64 xv15.f_First, v64 xv15.f_Last, v8 xv15.f_Flags, v8 xv15.f_Reason, v8 xv15.f_Class]) ag46 rfl (hA13).cells) rfl ?_
 refine RL.eff (E.alloc hM ze46) rfl fun v w17 hv => ?_
 clear hM
 obtain ⟨g16, rfl, hM, hf⟩ := hv
 refine RL.effs (E.stB (j := 1) (off := 0) (vs := [vB xv15.f_Key.f_Src.f_Six, o8 xv15.f_Key.f_Src.f_B 0, o8 xv15.f_Key.f_Src.f_B 1, o8 xv15.f_Key.f_Src.f_B 2, o8 xv15.f_Key.f_Src.f_B 3, o8 xv15.f_Key.f_Src.f_B 4, o8 xv15.f_Key.f_Src.f_B 5, o8 xv15.f_Key.f_Src.f_B 6, o8 xv15.f_Key.f_Src.f_B 7, o8 xv15.f_Key.f_Src.f_B 8, o8 xv15.f_Key.f_Src.f_B 9, o8 xv15.f_Key.f_Src.f_B 10, o8 xv15.f_Key.f_Src.f_B 11, o8 xv15.f_Key.f_Src.f_B 12, o8 xv15.f_Key.f_Src.f_B 13, o8 xv15.f_Key.f_Src.f_B 14, o8 xv15.f_Key.f_Src.f_B 15, vB xv15.f_Key.f_Dst.f_Six, o8 xv15.f_Key.f_Dst.f_B 0, o8 xv15.f_Key.f_Dst.f_B 1, o8 xv15.f_Key.f_Dst.f_B 2, o8 xv15.f_Key.f_Dst.f_B 3, o8 xv15.f_Key.f_Dst.f_B 4, o8 xv15.f_Key.f_Dst.f_B 5, o8 xv15.f_Key.f_Dst.f_B 6, o8 xv15.f_Key.f_Dst.f_B 7, o8 xv15.f_Key.f_Dst.f_B 8, o8 xv15.f_Key.f_Dst.f_B 9, o8 xv15.f_Key.f_Dst.f_B 10, o8 xv15.f_Key.f_Dst.f_B 11, o8 xv15.f_Key.f_Dst.f_B 12, o8 xv15.f_Key.f_Dst.f_B 13, o8 xv15.f_Key.f_Dst.f_B 14, o8 xv15.f_Key.f_Dst.f_B 15, v8 xv15.f_Key.f_Proto, v16 xv15.f_Key.f_SrcPort, v16 xv15.f_Key.f_DstPort, v64 xv15.f_Packets, v64 xv15.f_Bytes, v64 xv15.f_First, v64 xv15.f_Last, v8 xv15.f_Flags, v8 xv15.f_Reason, v8 xv15.f_Class]) (cs' := [vB xv15.f_Key.f_Src.f_Six, o8 xv15.f_Key.f_Src.f_B 0, o8 xv15.f_Key.f_Src.f_B 1, o8 xv15.f_Key.f_Src.f_B 2, o8 xv15.f_Key.f_Src.f_B 3, o8 xv15.f_Key.f_Src.f_B 4, o8 xv15.f_Key.f_Src.f_B 5, o8 xv15.f_Key.f_Src.f_B 6, o8 xv15.f_Key.f_Src.f_B 7, o8 xv15.f_Key.f_Src.f_B 8, o8 xv15.f_Key.f_Src.f_B 9, o8 xv15.f_Key.f_Src.f_B 10, o8 xv15.f_Key.f_Src.f_B 11, o8 xv15.f_Key.f_Src.f_B 12, o8 xv15.f_Key.f_Src.f_B 13, o8 xv15.f_Key.f_Src.f_B 14, o8 xv15.f_Key.f_Src.f_B 15, vB xv15.f_Key.f_Dst.f_Six, o8 xv15.f_Key.f_Dst.f_B 0, o8 xv15.f_Key.f_Dst.f_B 1, o8 xv15.f_Key.f_Dst.f_B 2, o8 xv15.f_Key.f_Dst.f_B 3, o8 xv15.f_Key.f_Dst.f_B 4, o8 xv15.f_Key.f_Dst.f_B 5, o8 xv15.f_Key.f_Dst.f_B 6, o8 xv15.f_Key.f_Dst.f_B 7, o8 xv15.f_Key.f_Dst.f_B 8, o8 xv15.f_Key.f_Dst.f_B 9, o8 xv15.f_Key.f_Dst.f_B 10, o8 xv15.f_Key.f_Dst.f_B 11, o8 xv15.f_Key.f_Dst.f_B 12, o8 xv15.f_Key.f_Dst.f_B 13, o8 xv15.f_Key.f_Dst.f_B 14, o8 xv15.f_Key.f_Dst.f_B 15, v8 xv15.f_Key.f_Proto, v16 xv15.f_Key.f_SrcPort, v16 xv15.f_Key.f_DstPort, v64 xv15.f_Packets, v64 xv15.f_Bytes, v64 xv15.f_First, v64 xv15.f_Last, v8 xv15.f_Flags, v8 xv15.f_Reason, v8 xv15.f_Class]) hM rfl sz46 rfl (adds_eq [] rfl) rfl rfl (One.all rfl) rfl rfl) fun w19 hM1 => ?_
 clear hM
 have hM := hM1
 clear hM1
 refine nt hQ12 ?_
 clear hQ12 Q12
 refine KC.seqH fun Q20 hQ20 => ?_
 refine sr fun Q21 hQ21 => ?_
 refine va rfl rfl ?_
 refine nt hQ21 ?_
 clear hQ21 Q21
 refine KC.block ?_
 refine KC.loop (fun k120 a w118 => ∃ (m103 : Bool) (m104 : List Int) (m105 : Bool) (m106 : List Int) (m107 : Int) (m108 : Int) (m109 : Int) (m110 : Int) (m111 : Int) (m112 : Int) (m113 : Int) (m114 : Int) (m115 : Int) (m116 : Int) (i117 : Int), Kn 33 [(0, .slice A2 (xv1).length c3), (1, .func (.func 52) #[] #[]), (4, .pointer (some ⟨g6, 0, none⟩)), (5, .pointer (some ⟨g16, 0, none⟩)), (6, vI i117)] a ∧ Mem w [] w118 [.box g6 46 [vB false, o8 (List.replicate 16 0) 0, o8 (List.replicate 16 0) 1, o8 (List.replicate 16 0) 2, o8 (List.replicate 16 0) 3, o8 (List.replicate 16 0) 4, o8 (List.replicate 16 0) 5, o8 (List.replicate 16 0) 6, o8 (List.replicate 16 0) 7, o8 (List.replicate 16 0) 8, o8 (List.replicate 16 0) 9, o8 (List.replicate 16 0) 10, o8 (List.replicate 16 0) 11, o8 (List.replicate 16 0) 12, o8 (List.replicate 16 0) 13, o8 (List.replicate 16 0) 14, o8 (List.replicate 16 0) 15, vB false, o8 (List.replicate 16 0) 0, o8 (List.replicate 16 0) 1, o8 (List.replicate 16 0) 2, o8 (List.replicate 16 0) 3, o8 (List.replicate 16 0) 4, o8 (List.replicate 16 0) 5, o8 (List.replicate 16 0) 6, o8 (List.replicate 16 0) 7, o8 (List.replicate 16 0) 8, o8 (List.replicate 16 0) 9, o8 (List.replicate 16 0) 10, o8 (List.replicate 16 0) 11, o8 (List.replicate 16 0) 12, o8 (List.replicate 16 0) 13, o8 (List.replicate 16 0) 14, o8 (List.replicate 16 0) 15, v8 0, v16 0, v16 0, v64 0, v64 0, v64 0, v64 0, v8 0, v8 0, v8 0], .box g16 46 [vB m103, o8 m104 0, o8 m104 1, o8 m104 2, o8 m104 3, o8 m104 4, o8 m104 5, o8 m104 6, o8 m104 7, o8 m104 8, o8 m104 9, o8 m104 10, o8 m104 11, o8 m104 12, o8 m104 13, o8 m104 14, o8 m104 15, vB m105, o8 m106 0, o8 m106 1, o8 m106 2, o8 m106 3, o8 m106 4, o8 m106 5, o8 m106 6, o8 m106 7, o8 m106 8, o8 m106 9, o8 m106 10, o8 m106 11, o8 m106 12, o8 m106 13, o8 m106 14, o8 m106 15, v8 m107, v16 m108, v16 m109, v64 m110, v64 m111, v64 m112, v64 m113, v8 m114, v8 m115, v8 m116]] ∧ F_slices_MinFunc_flow_Record_flow_Record_fcache_Cache_begin_1_L1 xv1 k120 m103 m104 m105 m106 m107 m108 m109 m110 m111 m112 m113 m114 m115 m116 i117 = some r) ?_ ?_
 ·exact fun a ha => ⟨fuel0, xv15.f_Key.f_Src.f_Six, xv15.f_Key.f_Src.f_B, xv15.f_Key.f_Dst.f_Six, xv15.f_Key.f_Dst.f_B, xv15.f_Key.f_Proto, xv15.f_Key.f_SrcPort, xv15.f_Key.f_DstPort, xv15.f_Packets, xv15.f_Bytes, xv15.f_First, xv15.f_Last, xv15.f_Flags, xv15.f_Reason, xv15.f_Class, 1, ha.less (less_cons rfl (less_cons rfl (less_cons rfl (less_cons rfl (less_cons rfl less_nil))))), hM, hF⟩
 rintro k120 a w118 ⟨m103, m104, m105, m106, m107, m108, m109, m110, m111, m112, m113, m114, m115, m116, i117, ha, hM, hF⟩
 refine KC.app ha ?_
 clear ha
 cases k120 with
 | zero => exact (none_some hF).elim
 | succ k120 =>
 have hF : F_slices_MinFunc_flow_Record_flow_Record_fcache_Cache_begin_1_l1 (F_slices_MinFunc_flow_Record_flow_Record_fcache_Cache_begin_1_L1 xv1 k120) xv1 m103 m104 m105 m106 m107 m108 m109 m110 m111 m112 m113 m114 m115 m116 i117 = some r := hF
 unfold F_slices_MinFunc_flow_Record_flow_Record_fcache_Cache_begin_1_l1 at hF
 refine KC.seqH fun Q121 hQ121 => ?_
 refine sr fun Q122 hQ122 => ?_
 refine vm rfl rfl ?_
 refine vm rfl rfl ?_
 refine RL.val (O.len sl41 rfl) rfl ?_
 refine RL.val (O.lss rfl rfl) rfl ?_
 refine nt hQ122 ?_
 clear hQ122 Q122
 refine KC.cond rfl (fun hc => ?_) (fun hc => ?_)
 ·rw [if_pos hc] at hF
  refine KC.skip ?_
  refine KQ.thn hQ121 ?_
  clear hQ121 Q121
  refine KC.cut (fun a w151 => ∃ (m137 : Bool) (m138 : List Int) (m139 : Bool) (m140 : List Int) (m141 : Int) (m142 : Int) (m143 : Int) (m144 : Int) (m145 : Int) (m146 : Int) (m147 : Int) (m148 : Int) (m149 : Int) (m150 : Int), Kn 33 [(0, .slice A2 (xv1).length c3), (1, .func (.func 52) #[] #[]), (4, .pointer (some ⟨g6, 0, none⟩)), (5, .pointer (some ⟨g16, 0, none⟩)), (6, vI i117)] a ∧ Mem w [] w151 [.box g6 46 [vB false, o8 (List.replicate 16 0) 0, o8 (List.replicate 16 0) 1, o8 (List.replicate 16 0) 2, o8 (List.replicate 16 0) 3, o8 (List.replicate 16 0) 4, o8 (List.replicate 16 0) 5, o8 (List.replicate 16 0) 6, o8 (List.replicate 16 0) 7, o8 (List.replicate 16 0) 8, o8 (List.replicate 16 0) 9, o8 (List.replicate 16 0) 10, o8 (List.replicate 16 0) 11, o8 (List.replicate 16 0) 12, o8 (List.replicate 16 0) 13, o8 (List.replicate 16 0) 14, o8 (List.replicate 16 0) 15, vB false, o8 (List.replicate 16 0) 0, o8 (List.replicate 16 0) 1, o8 (List.replicate 16 0) 2, o8 (List.replicate 16 0) 3, o8 (List.replicate 16 0) 4, o8 (List.replicate 16 0) 5, o8 (List.replicate 16 0) 6, o8 (List.replicate 16 0) 7, o8 (List.replicate 16 0) 8, o8 (List.replicate 16 0) 9, o8 (List.replicate 16 0) 10, o8 (List.replicate 16 0) 11, o8 (List.replicate 16 0) 12, o8 (List.replicate 16 0) 13, o8 (List.replicate 16 0) 14, o8 (List.replicate 16 0) 15, v8 0, v16 0, v16 0, v64 0, v64 0, v64 0, v64 0, v8 0, v8 0, v8 0], .box g16 46 [vB m137, o8 m138 0, o8 m138 1, o8 m138 2, o8 m138 3, o8 m138 4, o8 m138 5, o8 m138 6, o8 m138 7, o8 m138 8, o8 m138 9, o8 m138 10, o8 m138 11, o8 m138 12, o8 m138 13, o8 m138 14, o8 m138 15, vB m139, o8 m140 0, o8 m140 1, o8 m140 2, o8 m140 3, o8 m140 4, o8 m140 5, o8 m140 6, o8 m140 7, o8 m140 8, o8 m140 9, o8 m140 10, o8 m140 11, o8 m140 12, o8 m140 13, o8 m140 14, o8 m140 15, v8 m141, v16 m142, v16 m143, v64 m144, v64 m145, v64 m146, v64 m147, v8 m148, v8 m149, v8 m150]] ∧ F_slices_MinFunc_flow_Record_flow_Record_fcache_Cache_begin_1_j2 i117 (F_slices_MinFunc_flow_Record_flow_Record_fcache_Cache_begin_1_L1 xv1 k120) m137 m138 m139 m140 m141 m142 m143 m144 m145 m146 m147 m148 m149 m150 = some r) ?_ ?_
  ·refine KC.block ?_
   refine KC.seqH fun Q123 hQ123 => ?_
   replace hM := hM.drewN 1
   refine KC.draw [] [6] [6] [0, 1, 2, 7] (.ofList [0, 1, 2, 3, 4, 5, 6, 7]) moP (by kernel_rfl) ?_
   refine RD.p rfl rfl rfl rfl (fun w' => O.move rfl) ?_
   refine RD.p rfl rfl rfl rfl (fun w' => O.move rfl) ?_
   refine RD.p rfl rfl rfl rfl (fun w' => O.move rfl) ?_
   refine obindE hF fun xv126 hx125 hF => ?_
   have hA124 := Rd.atN (f := e_flow_Record) (s := 44) (fun _ => rfl) (by decide) (hM.inp hr4 Off.nil) hx125
   refine RD.q rfl rfl rfl rfl (fun w' hf => O.idxA sl41 (hA124.fut hf) rfl rfl) ?_
   refine RD.q rfl rfl rfl rfl (fun w' hf => O.loadN (cs := [vB xv126.f_Key.f_Src.f_Six, o8 xv126.f_Key.f_Src.f_B 0, o8 xv126.f_Key.f_Src.f_B 1, o8 xv126.f_Key.f_Src.f_B 2, o8 xv126.f_Key.f_Src.f_B 3, o8 xv126.f_Key.f_Src.f_B 4, o8 xv126.f_Key.f_Src.f_B 5, o8 xv126.f_Key.f_Src.f_B 6, o8 xv126.f_Key.f_Src.f_B 7, o8 xv126.f_Key.f_Src.f_B 8, o8 xv126.f_Key.f_Src.f_B 9, o8 xv126.f_Key.f_Src.f_B 10, o8 xv126.f_Key.f_Src.f_B 11, o8 xv126.f_Key.f_Src.f_B 12, o8 xv126.f_Key.f_Src.f_B 13, o8 xv126.f_Key.f_Src.f_B 14, o8 xv126.f_Key.f_Src.f_B 15, vB xv126.f_Key.f_Dst.f_Six, o8 xv126.f_Key.f_Dst.f_B 0, o8 xv126.f_Key.f_Dst.f_B 1, o8 xv126.f_Key.f_Dst.f_B 2, o8 xv126.f_Key.f_Dst.f_B 3, o8 xv126.f_Key.f_Dst.f_B 4, o8 xv126.f_Key.f_Dst.f_B 5, o8 xv126.f_Key.f_Dst.f_B 6, o8 xv126.f_Key.f_Dst.f_B 7, o8 xv126.f_Key.f_Dst.f_B 8, o8 xv126.f_Key.f_Dst.f_B 9, o8 xv126.f_Key.f_Dst.f_B 10, o8 xv126.f_Key.f_Dst.f_B 11, o8 xv126.f_Key.f_Dst.f_B 12, o8 xv126.f_Key.f_Dst.f_B 13, o8 xv126.f_Key.f_Dst.f_B 14, o8 xv126.f_Key.f_Dst.f_B 15, v8 xv126.f_Key.f_Proto, v16 xv126.f_Key.f_SrcPort, v16 xv126.f_Key.f_DstPort, v64 xv126.f_Packets, v64 xv126.f_Bytes, v64 xv126.f_First, v64 xv126.f_Last, v8 xv126.f_Flags, v8 xv126.f_Reason, v8 xv126.f_Class]) ag46 rfl (hA124.fut hf).cells) ?_
   refine RD.q rfl rfl rfl rfl (fun w' hf => O.loadN (cs := [vB m103, o8 m104 0, o8 m104 1, o8 m104 2, o8 m104 3, o8 m104 4, o8 m104 5, o8 m104 6, o8 m104 7, o8 m104 8, o8 m104 9, o8 m104 10, o8 m104 11, o8 m104 12, o8 m104 13, o8 m104 14, o8 m104 15, vB m105, o8 m106 0, o8 m106 1, o8 m106 2, o8 m106 3, o8 m106 4, o8 m106 5, o8 m106 6, o8 m106 7, o8 m106 8, o8 m106 9, o8 m106 10, o8 m106 11, o8 m106 12, o8 m106 13, o8 m106 14, o8 m106 15, v8 m107, v16 m108, v16 m109, v64 m110, v64 m111, v64 m112, v64 m113, v8 m114, v8 m115, v8 m116]) ag46 rfl (Cs.addsN [] ((hM.bx (i := 1) rfl).fut hf) rfl)) ?_
   refine obindE hF fun y127 hx128 hF => ?_
   refine RD.mcallv rfl rfl trivial (first := []) (captured := []) rfl Try.func52 bd52 rfl rfl (c_cache_Cache_begin_1 _ xv126 (T_flow_Record.mk (T_packet_Key.mk (T_addr_Addr.mk m103 m104) (T_addr_Addr.mk m105 m106) m107 m108 m109) m110 m111 m112 m113 m114 m115 m116) _ hx128) fun v w129 hv => ?_
   obtain ⟨rfl, hN130⟩ := hv
   refine ⟨fun _ => hN130.fut, ?_⟩
   replace hM := hM.call0 hN130
   refine RD.p rfl rfl rfl rfl (fun w' => O.lss rfl rfl) ?_
   refine RD.nil ?_
   refine KQ.thn hQ123 ?_
   clear hQ123 Q123
   refine KC.cond rfl (fun hc => ?_) (fun hc => ?_)
   ·rw [if_pos hc] at hF
    refine KC.region ?_
    refine vm rfl rfl ?_
    refine vm rfl rfl ?_
    refine obindE hF fun xv133 hx132 hF => ?_
    have hA131 := Rd.atN (f := e_flow_Record) (s := 44) (fun _ => rfl) (by decide) (hM.inp hr4 Off.nil) hx132
    refine RL.val (O.idxA sl41 (hA131) rfl rfl) rfl ?_
    refine RL.val (O.loadN (cs := [vB xv133.f_Key.f_Src.f_Six, o8 xv133.f_Key.f_Src.f_B 0, o8 xv133.f_Key.f_Src.f_B 1, o8 xv133.f_Key.f_Src.f_B 2, o8 xv133.f_Key.f_Src.f_B 3, o8 xv133.f_Key.f_Src.f_B 4, o8 xv133.f_Key.f_Src.f_B 5, o8 xv133.f_Key.f_Src.f_B 6, o8 xv133.f_Key.f_Src.f_B 7, o8 xv133.f_Key.f_Src.f_B 8, o8 xv133.f_Key.f_Src.f_B 9, o8 xv133.f_Key.f_Src.f_B 10, o8 xv133.f_Key.f_Src.f_B 11, o8 xv133.f_Key.f_Src.f_B 12, o8 xv133.f_Key.f_Src.f_B 13, o8 xv133.f_Key.f_Src.f_B 14, o8 xv133.f_Key.f_Src.f_B 15, vB xv133.f_Key.f_Dst.f_Six, o8 xv133.f_Key.f_Dst.f_B 0, o8 xv133.f_Key.f_Dst.f_B 1, o8 xv133.f_Key.f_Dst.f_B 2, o8 xv133.f_Key.f_Dst.f_B 3, o8 xv133.f_Key.f_Dst.f_B 4, o8 xv133.f_Key.f_Dst.f_B 5, o8 xv133.f_Key.f_Dst.f_B 6, o8 xv133.f_Key.f_Dst.f_B 7, o8 xv133.f_Key.f_Dst.f_B 8, o8 xv133.f_Key.f_Dst.f_B 9, o8 xv133.f_Key.f_Dst.f_B 10, o8 xv133.f_Key.f_Dst.f_B 11, o8 xv133.f_Key.f_Dst.f_B 12, o8 xv133.f_Key.f_Dst.f_B 13, o8 xv133.f_Key.f_Dst.f_B 14, o8 xv133.f_Key.f_Dst.f_B 15, v8 xv133.f_Key.f_Proto, v16 xv133.f_Key.f_SrcPort, v16 xv133.f_Key.f_DstPort, v64 xv133.f_Packets, v64 xv133.f_Bytes, v64 xv133.f_First, v64 xv133.f_Last, v8 xv133.f_Flags, v8 xv133.f_Reason, v8 xv133.f_Class]) ag46 rfl (hA131).cells) rfl ?_
    refine RL.effs (E.stB (j := 1) (off := 0) (vs := [vB xv133.f_Key.f_Src.f_Six, o8 xv133.f_Key.f_Src.f_B 0, o8 xv133.f_Key.f_Src.f_B 1, o8 xv133.f_Key.f_Src.f_B 2, o8 xv133.f_Key.f_Src.f_B 3, o8 xv133.f_Key.f_Src.f_B 4, o8 xv133.f_Key.f_Src.f_B 5, o8 xv133.f_Key.f_Src.f_B 6, o8 xv133.f_Key.f_Src.f_B 7, o8 xv133.f_Key.f_Src.f_B 8, o8 xv133.f_Key.f_Src.f_B 9, o8 xv133.f_Key.f_Src.f_B 10, o8 xv133.f_Key.f_Src.f_B 11, o8 xv133.f_Key.f_Src.f_B 12, o8 xv133.f_Key.f_Src.f_B 13, o8 xv133.f_Key.f_Src.f_B 14, o8 xv133.f_Key.f_Src.f_B 15, vB xv133.f_Key.f_Dst.f_Six, o8 xv133.f_Key.f_Dst.f_B 0, o8 xv133.f_Key.f_Dst.f_B 1, o8 xv133.f_Key.f_Dst.f_B 2, o8 xv133.f_Key.f_Dst.f_B 3, o8 xv133.f_Key.f_Dst.f_B 4, o8 xv133.f_Key.f_Dst.f_B 5, o8 xv133.f_Key.f_Dst.f_B 6, o8 xv133.f_Key.f_Dst.f_B 7, o8 xv133.f_Key.f_Dst.f_B 8, o8 xv133.f_Key.f_Dst.f_B 9, o8 xv133.f_Key.f_Dst.f_B 10, o8 xv133.f_Key.f_Dst.f_B 11, o8 xv133.f_Key.f_Dst.f_B 12, o8 xv133.f_Key.f_Dst.f_B 13, o8 xv133.f_Key.f_Dst.f_B 14, o8 xv133.f_Key.f_Dst.f_B 15, v8 xv133.f_Key.f_Proto, v16 xv133.f_Key.f_SrcPort, v16 xv133.f_Key.f_DstPort, v64 xv133.f_Packets, v64 xv133.f_Bytes, v64 xv133.f_First, v64 xv133.f_Last, v8 xv133.f_Flags, v8 xv133.f_Reason, v8 xv133.f_Class]) (cs' := [vB xv133.f_Key.f_Src.f_Six, o8 xv133.f_Key.f_Src.f_B 0, o8 xv133.f_Key.f_Src.f_B 1, o8 xv133.f_Key.f_Src.f_B 2, o8 xv133.f_Key.f_Src.f_B 3, o8 xv133.f_Key.f_Src.f_B 4, o8 xv133.f_Key.f_Src.f_B 5, o8 xv133.f_Key.f_Src.f_B 6, o8 xv133.f_Key.f_Src.f_B 7, o8 xv133.f_Key.f_Src.f_B 8, o8 xv133.f_Key.f_Src.f_B 9, o8 xv133.f_Key.f_Src.f_B 10, o8 xv133.f_Key.f_Src.f_B 11, o8 xv133.f_Key.f_Src.f_B 12, o8 xv133.f_Key.f_Src.f_B 13, o8 xv133.f_Key.f_Src.f_B 14, o8 xv133.f_Key.f_Src.f_B 15, vB xv133.f_Key.f_Dst.f_Six, o8 xv133.f_Key.f_Dst.f_B 0, o8 xv133.f_Key.f_Dst.f_B 1, o8 xv133.f_Key.f_Dst.f_B 2, o8 xv133.f_Key.f_Dst.f_B 3, o8 xv133.f_Key.f_Dst.f_B 4, o8 xv133.f_Key.f_Dst.f_B 5, o8 xv133.f_Key.f_Dst.f_B 6, o8 xv133.f_Key.f_Dst.f_B 7, o8 xv133.f_Key.f_Dst.f_B 8, o8 xv133.f_Key.f_Dst.f_B 9, o8 xv133.f_Key.f_Dst.f_B 10, o8 xv133.f_Key.f_Dst.f_B 11, o8 xv133.f_Key.f_Dst.f_B 12, o8 xv133.f_Key.f_Dst.f_B 13, o8 xv133.f_Key.f_Dst.f_B 14, o8 xv133.f_Key.f_Dst.f_B 15, v8 xv133.f_Key.f_Proto, v16 xv133.f_Key.f_SrcPort, v16 xv133.f_Key.f_DstPort, v64 xv133.f_Packets, v64 xv133.f_Bytes, v64 xv133.f_First, v64 xv133.f_Last, v8 xv133.f_Flags, v8 xv133.f_Reason, v8 xv133.f_Class]) hM rfl sz46 rfl (adds_eq [] rfl) rfl rfl (One.all rfl) rfl rfl) fun w134 hM1 => ?_
    clear hM
    have hM := hM1
    clear hM1
    refine RL.nil ?_
    refine KQ.blk_n ?_
    refine KQ.then_k ?_
    exact fun a ha => ⟨xv133.f_Key.f_Src.f_Six, xv133.f_Key.f_Src.f_B, xv133.f_Key.f_Dst.f_Six, xv133.f_Key.f_Dst.f_B, xv133.f_Key.f_Proto, xv133.f_Key.f_SrcPort, xv133.f_Key.f_DstPort, xv133.f_Packets, xv133.f_Bytes, xv133.f_First, xv133.f_Last, xv133.f_Flags, xv133.f_Reason, xv133.f_Class, ha.less (less_cons rfl (less_cons rfl (less_cons rfl (less_cons rfl (less_cons rfl less_nil))))), hM, hF⟩
   rw [if_neg (ne_true hc)] at hF
   refine KC.skip ?_
   refine KQ.blk_n ?_
   refine KQ.then_k ?_
   exact fun a ha => ⟨m103, m104, m105, m106, m107, m108, m109, m110, m111, m112, m113, m114, m115, m116, ha.less (less_cons rfl (less_cons rfl (less_cons rfl (less_cons rfl (less_cons rfl less_nil))))), hM, hF⟩
  rintro a w151 ⟨m137, m138, m139, m140, m141, m142, m143, m144, m145, m146, m147, m148, m149, m150, ha, hM, hF⟩
  refine KC.app ha ?_
  clear ha
  unfold F_slices_MinFunc_flow_Record_flow_Record_fcache_Cache_begin_1_j2 at hF
  refine KC.region ?_
  refine vm rfl rfl ?_
  refine RL.val (O.add rfl rfl) rfl ?_
  refine va rfl rfl ?_
  refine RL.nil ?_
  refine KQ.then_k ?_
  exact fun a ha => ⟨k120, Nat.lt_succ_self k120, m137, m138, m139, m140, m141, m142, m143, m144, m145, m146, m147, m148, m149, m150, (IntKind.i64.wrap (i117 + 1)), ha.less (less_cons rfl (less_cons rfl (less_cons rfl (less_cons rfl (less_cons rfl less_nil))))), hM, hF⟩
 rw [if_neg (ne_true hc)] at hF
 refine KC.exit ?_
 refine KQ.thx hQ121 ?_
 clear hQ121 Q121
 refine KQ.then_x ?_
 refine KQ.blk_x ?_
 refine KQ.thn hQ20 ?_
 clear hQ20 Q20
 refine sr fun Q152 hQ152 => ?_
 refine RL.val (O.loadN (cs := [vB m103, o8 m104 0, o8 m104 1, o8 m104 2, o8 m104 3, o8 m104 4, o8 m104 5, o8 m104 6, o8 m104 7, o8 m104 8, o8 m104 9, o8 m104 10, o8 m104 11, o8 m104 12, o8 m104 13, o8 m104 14, o8 m104 15, vB m105, o8 m106 0, o8 m106 1, o8 m106 2, o8 m106 3, o8 m106 4, o8 m106 5, o8 m106 6, o8 m106 7, o8 m106 8, o8 m106 9, o8 m106 10, o8 m106 11, o8 m106 12, o8 m106 13, o8 m106 14, o8 m106 15, v8 m107, v16 m108, v16 m109, v64 m110, v64 m111, v64 m112, v64 m113, v8 m114, v8 m115, v8 m116]) ag46 rfl (Cs.addsN [] ((hM.bx (i := 1) rfl)) rfl)) rfl ?_
 refine RL.effs (E.stB (j := 0) (off := 0) (vs := [vB m103, o8 m104 0, o8 m104 1, o8 m104 2, o8 m104 3, o8 m104 4, o8 m104 5, o8 m104 6, o8 m104 7, o8 m104 8, o8 m104 9, o8 m104 10, o8 m104 11, o8 m104 12, o8 m104 13, o8 m104 14, o8 m104 15, vB m105, o8 m106 0, o8 m106 1, o8 m106 2, o8 m106 3, o8 m106 4, o8 m106 5, o8 m106 6, o8 m106 7, o8 m106 8, o8 m106 9, o8 m106 10, o8 m106 11, o8 m106 12, o8 m106 13, o8 m106 14, o8 m106 15, v8 m107, v16 m108, v16 m109, v64 m110, v64 m111, v64 m112, v64 m113, v8 m114, v8 m115, v8 m116]) (cs' := [vB m103, o8 m104 0, o8 m104 1, o8 m104 2, o8 m104 3, o8 m104 4, o8 m104 5, o8 m104 6, o8 m104 7, o8 m104 8, o8 m104 9, o8 m104 10, o8 m104 11, o8 m104 12, o8 m104 13, o8 m104 14, o8 m104 15, vB m105, o8 m106 0, o8 m106 1, o8 m106 2, o8 m106 3, o8 m106 4, o8 m106 5, o8 m106 6, o8 m106 7, o8 m106 8, o8 m106 9, o8 m106 10, o8 m106 11, o8 m106 12, o8 m106 13, o8 m106 14, o8 m106 15, v8 m107, v16 m108, v16 m109, v64 m110, v64 m111, v64 m112, v64 m113, v8 m114, v8 m115, v8 m116]) hM rfl sz46 rfl (adds_eq [] rfl) rfl rfl (One.all rfl) rfl rfl) fun w153 hM1 => ?_
 clear hM
 have hM := hM1
 clear hM1
 refine nt hQ152 ?_
 clear hQ152 Q152
 refine KC.ret ?_
 have hE := Option.some.inj hF
 clear hF
 subst hE
 have hb154 := hM.bx (i := 0) rfl
 replace hM := hM.pick [] rfl (by decide)
 refine KQ.rets Try.results51 (RVs.cons (RV.cN (cs := [vB m103, o8 m104 0, o8 m104 1, o8 m104 2, o8 m104 3, o8 m104 4, o8 m104 5, o8 m104 6, o8 m104 7, o8 m104 8, o8 m104 9, o8 m104 10, o8 m104 11, o8 m104 12, o8 m104 13, o8 m104 14, o8 m104 15, vB m105, o8 m106 0, o8 m106 1, o8 m106 2, o8 m106 3, o8 m106 4, o8 m106 5, o8 m106 6, o8 m106 7, o8 m106 8, o8 m106 9, o8 m106 10, o8 m106 11, o8 m106 12, o8 m106 13, o8 m106 14, o8 m106 15, v8 m107, v16 m108, v16 m109, v64 m110, v64 m111, v64 m112, v64 m113, v8 m114, v8 m115, v8 m116]) rfl ag46 hb154) RVs.nil) ?_
 exact ⟨_, rfl, rfl, hM⟩
end Go.Proofs.Ytkpnocgfhipidaa
