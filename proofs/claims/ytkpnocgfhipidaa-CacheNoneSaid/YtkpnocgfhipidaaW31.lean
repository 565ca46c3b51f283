/- Printed by a program of this claim: each call returns what the plain function of its name gives. -/
import Derived.Test.YtkpnocgfhipidaaW1
import Derived.Test.YtkpnocgfhipidaaW22
import Derived.Test.YtkpnocgfhipidaaW30
set_option linter.unusedVariables false
namespace Go.Proofs.Ytkpnocgfhipidaa
open Go Go.Ox Go.RowKit
set_option maxRecDepth 100000 in
set_option maxHeartbeats 40000000 in
theorem c_law24_CacheNone (w : World) (av1 : T_law24_Act) (r : Bool) (hF : F_law24_CacheNone av1 = some r) :
  CallsR Try.prog 5 [.agg #[vI av1.f_Do, vB av1.f_Packet.f_Key.f_Src.f_Six, o8 av1.f_Packet.f_Key.f_Src.f_B 0, o8 av1.f_Packet.f_Key.f_Src.f_B 1, o8 av1.f_Packet.f_Key.f_Src.f_B 2, o8 av1.f_Packet.f_Key.f_Src.f_B 3, o8 av1.f_Packet.f_Key.f_Src.f_B 4, o8 av1.f_Packet.f_Key.f_Src.f_B 5, o8 av1.f_Packet.f_Key.f_Src.f_B 6, o8 av1.f_Packet.f_Key.f_Src.f_B 7, o8 av1.f_Packet.f_Key.f_Src.f_B 8, o8 av1.f_Packet.f_Key.f_Src.f_B 9, o8 av1.f_Packet.f_Key.f_Src.f_B 10, o8 av1.f_Packet.f_Key.f_Src.f_B 11, o8 av1.f_Packet.f_Key.f_Src.f_B 12, o8 av1.f_Packet.f_Key.f_Src.f_B 13, o8 av1.f_Packet.f_Key.f_Src.f_B 14, o8 av1.f_Packet.f_Key.f_Src.f_B 15, vB av1.f_Packet.f_Key.f_Dst.f_Six, o8 av1.f_Packet.f_Key.f_Dst.f_B 0, o8 av1.f_Packet.f_Key.f_Dst.f_B 1, o8 av1.f_Packet.f_Key.f_Dst.f_B 2, o8 av1.f_Packet.f_Key.f_Dst.f_B 3, o8 av1.f_Packet.f_Key.f_Dst.f_B 4, o8 av1.f_Packet.f_Key.f_Dst.f_B 5, o8 av1.f_Packet.f_Key.f_Dst.f_B 6, o8 av1.f_Packet.f_Key.f_Dst.f_B 7, o8 av1.f_Packet.f_Key.f_Dst.f_B 8, o8 av1.f_Packet.f_Key.f_Dst.f_B 9, o8 av1.f_Packet.f_Key.f_Dst.f_B 10, o8 av1.f_Packet.f_Key.f_Dst.f_B 11, o8 av1.f_Packet.f_Key.f_Dst.f_B 12, o8 av1.f_Packet.f_Key.f_Dst.f_B 13, o8 av1.f_Packet.f_Key.f_Dst.f_B 14, o8 av1.f_Packet.f_Key.f_Dst.f_B 15, v8 av1.f_Packet.f_Key.f_Proto, v16 av1.f_Packet.f_Key.f_SrcPort, v16 av1.f_Packet.f_Key.f_DstPort, vI av1.f_Packet.f_Length, v8 av1.f_Packet.f_Flags, vB av1.f_Packet.f_Fragment, v8 av1.f_Class, v64 av1.f_Tick]] w (fun v w' => v = vB r ∧ Mem w [] w' []) := by
 refine calls_KC Try.func5 rfl Try.ntmps5 rfl ?_
 have hM := Mem.init w
 unfold F_law24_CacheNone at hF
 refine sr fun Q2 hQ2 => ?_
 refine RL.eff (E.box (vs := [vI av1.f_Do, vB av1.f_Packet.f_Key.f_Src.f_Six, o8 av1.f_Packet.f_Key.f_Src.f_B 0, o8 av1.f_Packet.f_Key.f_Src.f_B 1, o8 av1.f_Packet.f_Key.f_Src.f_B 2, o8 av1.f_Packet.f_Key.f_Src.f_B 3, o8 av1.f_Packet.f_Key.f_Src.f_B 4, o8 av1.f_Packet.f_Key.f_Src.f_B 5, o8 av1.f_Packet.f_Key.f_Src.f_B 6, o8 av1.f_Packet.f_Key.f_Src.f_B 7, o8 av1.f_Packet.f_Key.f_Src.f_B 8, o8 av1.f_Packet.f_Key.f_Src.f_B 9, o8 av1.f_Packet.f_Key.f_Src.f_B 10, o8 av1.f_Packet.f_Key.f_Src.f_B 11, o8 av1.f_Packet.f_Key.f_Src.f_B 12, o8 av1.f_Packet.f_Key.f_Src.f_B 13, o8 av1.f_Packet.f_Key.f_Src.f_B 14, o8 av1.f_Packet.f_Key.f_Src.f_B 15, vB av1.f_Packet.f_Key.f_Dst.f_Six, o8 av1.f_Packet.f_Key.f_Dst.f_B 0, o8 av1.f_Packet.f_Key.f_Dst.f_B 1, o8 av1.f_Packet.f_Key.f_Dst.f_B 2, o8 av1.f_Packet.f_Key.f_Dst.f_B 3, o8 av1.f_Packet.f_Key.f_Dst.f_B 4, o8 av1.f_Packet.f_Key.f_Dst.f_B 5, o8 av1.f_Packet.f_Key.f_Dst.f_B 6, o8 av1.f_Packet.f_Key.f_Dst.f_B 7, o8 av1.f_Packet.f_Key.f_Dst.f_B 8, o8 av1.f_Packet.f_Key.f_Dst.f_B 9, o8 av1.f_Packet.f_Key.f_Dst.f_B 10, o8 av1.f_Packet.f_Key.f_Dst.f_B 11, o8 av1.f_Packet.f_Key.f_Dst.f_B 12, o8 av1.f_Packet.f_Key.f_Dst.f_B 13, o8 av1.f_Packet.f_Key.f_Dst.f_B 14, o8 av1.f_Packet.f_Key.f_Dst.f_B 15, v8 av1.f_Packet.f_Key.f_Proto, v16 av1.f_Packet.f_Key.f_SrcPort, v16 av1.f_Packet.f_Key.f_DstPort, vI av1.f_Packet.f_Length, v8 av1.f_Packet.f_Flags, vB av1.f_Packet.f_Fragment, v8 av1.f_Class, v64 av1.f_Tick]) hM rfl rfl) rfl fun v w4 hv => ?_
 clear hM
 obtain ⟨g3, rfl, hM, hf⟩ := hv
 refine va rfl rfl ?_
 refine nt hQ2 ?_
 clear hQ2 Q2
 refine sr fun Q6 hQ6 => ?_
 refine va rfl rfl ?_
 refine nt hQ6 ?_
 clear hQ6 Q6
 refine sr fun Q7 hQ7 => ?_
 refine vm rfl rfl ?_
 refine RL.val (O.fldA fl40_1 (by decide) rfl) rfl ?_
 refine RL.val (O.loadN (cs := [vB av1.f_Packet.f_Key.f_Src.f_Six, o8 av1.f_Packet.f_Key.f_Src.f_B 0, o8 av1.f_Packet.f_Key.f_Src.f_B 1, o8 av1.f_Packet.f_Key.f_Src.f_B 2, o8 av1.f_Packet.f_Key.f_Src.f_B 3, o8 av1.f_Packet.f_Key.f_Src.f_B 4, o8 av1.f_Packet.f_Key.f_Src.f_B 5, o8 av1.f_Packet.f_Key.f_Src.f_B 6, o8 av1.f_Packet.f_Key.f_Src.f_B 7, o8 av1.f_Packet.f_Key.f_Src.f_B 8, o8 av1.f_Packet.f_Key.f_Src.f_B 9, o8 av1.f_Packet.f_Key.f_Src.f_B 10, o8 av1.f_Packet.f_Key.f_Src.f_B 11, o8 av1.f_Packet.f_Key.f_Src.f_B 12, o8 av1.f_Packet.f_Key.f_Src.f_B 13, o8 av1.f_Packet.f_Key.f_Src.f_B 14, o8 av1.f_Packet.f_Key.f_Src.f_B 15, vB av1.f_Packet.f_Key.f_Dst.f_Six, o8 av1.f_Packet.f_Key.f_Dst.f_B 0, o8 av1.f_Packet.f_Key.f_Dst.f_B 1, o8 av1.f_Packet.f_Key.f_Dst.f_B 2, o8 av1.f_Packet.f_Key.f_Dst.f_B 3, o8 av1.f_Packet.f_Key.f_Dst.f_B 4, o8 av1.f_Packet.f_Key.f_Dst.f_B 5, o8 av1.f_Packet.f_Key.f_Dst.f_B 6, o8 av1.f_Packet.f_Key.f_Dst.f_B 7, o8 av1.f_Packet.f_Key.f_Dst.f_B 8, o8 av1.f_Packet.f_Key.f_Dst.f_B 9, o8 av1.f_Packet.f_Key.f_Dst.f_B 10, o8 av1.f_Packet.f_Key.f_Dst.f_B 11, o8 av1.f_Packet.f_Key.f_Dst.f_B 12, o8 av1.f_Packet.f_Key.f_Dst.f_B 13, o8 av1.f_Packet.f_Key.f_Dst.f_B 14, o8 av1.f_Packet.f_Key.f_Dst.f_B 15, v8 av1.f_Packet.f_Key.f_Proto, v16 av1.f_Packet.f_Key.f_SrcPort, v16 av1.f_Packet.f_Key.f_DstPort, vI av1.f_Packet.f_Length, v8 av1.f_Packet.f_Flags, vB av1.f_Packet.f_Fragment]) ag38 rfl (Cs.addsN [1] ((hM.bx (i := 0) rfl)) rfl)) rfl ?_
 refine RL.val (O.fldA fl40_2 (by decide) rfl) rfl ?_
 refine RL.val (O.load sc5 rfl (Cs.adds [41] ((hM.bx (i := 0) rfl)) rfl)) rfl ?_
 refine RL.val (O.fldA fl40_3 (by decide) rfl) rfl ?_
 refine RL.val (O.load sc22 rfl (Cs.adds [42] ((hM.bx (i := 0) rfl)) rfl)) rfl ?_
 refine obindE hF fun y8 hx9 hF => ?_
 refine RL.call Try.func8 bd8 rfl rfl (c_cache_Cache_Account_N _ av1.f_Packet av1.f_Class av1.f_Tick _ hx9) fun v w10 hv => ?_
 obtain ⟨A12, c13, rfl, hN11⟩ := hv
 replace hM := hM.call hN11
 refine vm rfl rfl ?_
 refine RL.val (O.ext rfl rfl) rfl ?_
 refine RL.val (O.ext rfl rfl) rfl ?_
 refine va rfl rfl ?_
 refine va rfl rfl ?_
 refine nt hQ7 ?_
 clear hQ7 Q7
 refine sr fun Q15 hQ15 => ?_
 refine vm rfl rfl ?_
 refine obindE hF fun y16 hx17 hF => ?_
 refine RL.call Try.func20 bd20 rfl rfl (c_cache_Cache_Next_N _ _ hx17) fun v w18 hv => ?_
 obtain ⟨rfl, hN19⟩ := hv
 replace hM := hM.call0 hN19
 refine vm rfl rfl ?_
 refine RL.val (O.ext rfl rfl) rfl ?_
 refine RL.val (O.ext rfl rfl) rfl ?_
 refine va rfl rfl ?_
 refine va rfl rfl ?_
 refine nt hQ15 ?_
 clear hQ15 Q15
 refine sr fun Q20 hQ20 => ?_
 refine vm rfl rfl ?_
 refine RL.val (O.fldA fl40_1 (by decide) rfl) rfl ?_
 refine RL.val (O.fldA fl38_0 (by decide) rfl) rfl ?_
 refine RL.val (O.loadN (cs := [vB av1.f_Packet.f_Key.f_Src.f_Six, o8 av1.f_Packet.f_Key.f_Src.f_B 0, o8 av1.f_Packet.f_Key.f_Src.f_B 1, o8 av1.f_Packet.f_Key.f_Src.f_B 2, o8 av1.f_Packet.f_Key.f_Src.f_B 3, o8 av1.f_Packet.f_Key.f_Src.f_B 4, o8 av1.f_Packet.f_Key.f_Src.f_B 5, o8 av1.f_Packet.f_Key.f_Src.f_B 6, o8 av1.f_Packet.f_Key.f_Src.f_B 7, o8 av1.f_Packet.f_Key.f_Src.f_B 8, o8 av1.f_Packet.f_Key.f_Src.f_B 9, o8 av1.f_Packet.f_Key.f_Src.f_B 10, o8 av1.f_Packet.f_Key.f_Src.f_B 11, o8 av1.f_Packet.f_Key.f_Src.f_B 12, o8 av1.f_Packet.f_Key.f_Src.f_B 13, o8 av1.f_Packet.f_Key.f_Src.f_B 14, o8 av1.f_Packet.f_Key.f_Src.f_B 15, vB av1.f_Packet.f_Key.f_Dst.f_Six, o8 av1.f_Packet.f_Key.f_Dst.f_B 0, o8 av1.f_Packet.f_Key.f_Dst.f_B 1, o8 av1.f_Packet.f_Key.f_Dst.f_B 2, o8 av1.f_Packet.f_Key.f_Dst.f_B 3, o8 av1.f_Packet.f_Key.f_Dst.f_B 4, o8 av1.f_Packet.f_Key.f_Dst.f_B 5, o8 av1.f_Packet.f_Key.f_Dst.f_B 6, o8 av1.f_Packet.f_Key.f_Dst.f_B 7, o8 av1.f_Packet.f_Key.f_Dst.f_B 8, o8 av1.f_Packet.f_Key.f_Dst.f_B 9, o8 av1.f_Packet.f_Key.f_Dst.f_B 10, o8 av1.f_Packet.f_Key.f_Dst.f_B 11, o8 av1.f_Packet.f_Key.f_Dst.f_B 12, o8 av1.f_Packet.f_Key.f_Dst.f_B 13, o8 av1.f_Packet.f_Key.f_Dst.f_B 14, o8 av1.f_Packet.f_Key.f_Dst.f_B 15, v8 av1.f_Packet.f_Key.f_Proto, v16 av1.f_Packet.f_Key.f_SrcPort, v16 av1.f_Packet.f_Key.f_DstPort]) ag36 rfl (Cs.addsN [1, 0] ((hM.bx (i := 0) rfl)) rfl)) rfl ?_
 refine obindE hF fun y21 hx22 hF => ?_
 refine RL.call Try.func21 bd21 rfl rfl (c_cache_Cache_Get_N _ av1.f_Packet.f_Key _ hx22) fun v w23 hv => ?_
 obtain ⟨rfl, hN24⟩ := hv
 replace hM := hM.call0 hN24
 refine vm rfl rfl ?_
 refine RL.val (O.ext rfl rfl) rfl ?_
 refine RL.val (O.ext rfl rfl) rfl ?_
 refine RL.eff (E.alloc hM ze46) rfl fun v w26 hv => ?_
 clear hM
 obtain ⟨g25, rfl, hM, hf⟩ := hv
 refine RL.effs (E.stB (j := 2) (off := 0) (vs := [vB y21.1.f_Key.f_Src.f_Six, o8 y21.1.f_Key.f_Src.f_B 0, o8 y21.1.f_Key.f_Src.f_B 1, o8 y21.1.f_Key.f_Src.f_B 2, o8 y21.1.f_Key.f_Src.f_B 3, o8 y21.1.f_Key.f_Src.f_B 4, o8 y21.1.f_Key.f_Src.f_B 5, o8 y21.1.f_Key.f_Src.f_B 6, o8 y21.1.f_Key.f_Src.f_B 7, o8 y21.1.f_Key.f_Src.f_B 8, o8 y21.1.f_Key.f_Src.f_B 9, o8 y21.1.f_Key.f_Src.f_B 10, o8 y21.1.f_Key.f_Src.f_B 11, o8 y21.1.f_Key.f_Src.f_B 12, o8 y21.1.f_Key.f_Src.f_B 13, o8 y21.1.f_Key.f_Src.f_B 14, o8 y21.1.f_Key.f_Src.f_B 15, vB y21.1.f_Key.f_Dst.f_Six, o8 y21.1.f_Key.f_Dst.f_B 0, o8 y21.1.f_Key.f_Dst.f_B 1, o8 y21.1.f_Key.f_Dst.f_B 2, o8 y21.1.f_Key.f_Dst.f_B 3, o8 y21.1.f_Key.f_Dst.f_B 4, o8 y21.1.f_Key.f_Dst.f_B 5, o8 y21.1.f_Key.f_Dst.f_B 6, o8 y21.1.f_Key.f_Dst.f_B 7, o8 y21.1.f_Key.f_Dst.f_B 8, o8 y21.1.f_Key.f_Dst.f_B 9, o8 y21.1.f_Key.f_Dst.f_B 10, o8 y21.1.f_Key.f_Dst.f_B 11, o8 y21.1.f_Key.f_Dst.f_B 12, o8 y21.1.f_Key.f_Dst.f_B 13, o8 y21.1.f_Key.f_Dst.f_B 14, o8 y21.1.f_Key.f_Dst.f_B 15, v8 y21.1.f_Key.f_Proto, v16 y21.1.f_Key.f_SrcPort, v16 y21.1.f_Key.f_DstPort, v64 y21.1.f_Packets, v64 y21.1.f_Bytes, v64 y21.1.f_First, v64 y21.1.f_Last, v8 y21.1.f_Flags, v8 y21.1.f_Reason, v8 y21.1.f_Class]) (cs' := [vB y21.1.f_Key.f_Src.f_Six, o8 y21.1.f_Key.f_Src.f_B 0, o8 y21.1.f_Key.f_Src.f_B 1, o8 y21.1.f_Key.f_Src.f_B 2, o8 y21.1.f_Key.f_Src.f_B 3, o8 y21.1.f_Key.f_Src.f_B 4, o8 y21.1.f_Key.f_Src.f_B 5, o8 y21.1.f_Key.f_Src.f_B 6, o8 y21.1.f_Key.f_Src.f_B 7, o8 y21.1.f_Key.f_Src.f_B 8, o8 y21.1.f_Key.f_Src.f_B 9, o8 y21.1.f_Key.f_Src.f_B 10, o8 y21.1.f_Key.f_Src.f_B 11, o8 y21.1.f_Key.f_Src.f_B 12, o8 y21.1.f_Key.f_Src.f_B 13, o8 y21.1.f_Key.f_Src.f_B 14, o8 y21.1.f_Key.f_Src.f_B 15, vB y21.1.f_Key.f_Dst.f_Six, o8 y21.1.f_Key.f_Dst.f_B 0, o8 y21.1.f_Key.f_Dst.f_B 1, o8 y21.1.f_Key.f_Dst.f_B 2, o8 y21.1.f_Key.f_Dst.f_B 3, o8 y21.1.f_Key.f_Dst.f_B 4, o8 y21.1.f_Key.f_Dst.f_B 5, o8 y21.1.f_Key.f_Dst.f_B 6, o8 y21.1.f_Key.f_Dst.f_B 7, o8 y21.1.f_Key.f_Dst.f_B 8, o8 y21.1.f_Key.f_Dst.f_B 9, o8 y21.1.f_Key.f_Dst.f_B 10, o8 y21.1.f_Key.f_Dst.f_B 11, o8 y21.1.f_Key.f_Dst.f_B 12, o8 y21.1.f_Key.f_Dst.f_B 13, o8 y21.1.f_Key.f_Dst.f_B 14, o8 y21.1.f_Key.f_Dst.f_B 15, v8 y21.1.f_Key.f_Proto, v16 y21.1.f_Key.f_SrcPort, v16 y21.1.f_Key.f_DstPort, v64 y21.1.f_Packets, v64 y21.1.f_Bytes, v64 y21.1.f_First, v64 y21.1.f_Last, v8 y21.1.f_Flags, v8 y21.1.f_Reason, v8 y21.1.f_Class]) hM rfl sz46 rfl (adds_eq [] rfl) rfl rfl (One.all rfl) rfl rfl) fun w28 hM1 => ?_
 clear hM
 have hM := hM1
 clear hM1
 refine va rfl rfl ?_
 refine nt hQ20 ?_
 clear hQ20 Q20
 refine KC.cut (fun a w63 => ∃ (t62 : Bool), Kn 91 [(2, vB t62)] a ∧ Mem w [] w63 [] ∧ F_law24_CacheNone_j1 t62 = some r) ?_ ?_
 ·refine KC.region ?_
  refine vm rfl rfl ?_
  refine RL.val (O.len sl41 rfl) rfl ?_
  refine RL.val (O.eql rfl rfl) rfl ?_
  refine vm rfl rfl ?_
  refine RL.bcase (t := 37) rfl (fun hc => ?_) (fun hc => ?_)
  ·rw [if_pos hc] at hF
   refine RL.gval rfl rfl (O.move rfl) rfl ?_
   refine RL.gval rfl rfl (O.eql rfl rfl) rfl ?_
   refine RL.val (O.pickt rfl rfl) rfl ?_
   refine vm rfl rfl ?_
   refine RL.bcase (t := 41) rfl (fun hc => ?_) (fun hc => ?_)
   ·rw [if_pos hc] at hF
    refine RL.gval rfl rfl (O.move rfl) rfl ?_
    refine RL.gval rfl rfl (O.fldA fl40_3 (by decide) rfl) rfl ?_
    refine RL.gval rfl rfl (O.load sc22 rfl (Cs.adds [42] ((hM.bx (i := 0) rfl)) rfl)) rfl ?_
    refine obindE hF fun y29 hx30 hF => ?_
    refine RL.gcall rfl rfl Try.func9 bd9 rfl rfl (c_cache_Cache_Advance_N _ av1.f_Tick _ hx30) fun v w31 hv => ?_
    obtain ⟨A33, c34, rfl, hN32⟩ := hv
    replace hM := hM.call hN32
    refine RL.gval rfl rfl (O.len sl41 rfl) rfl ?_
    refine RL.gval rfl rfl (O.eql rfl rfl) rfl ?_
    refine RL.val (O.pickt rfl rfl) rfl ?_
    refine vm rfl rfl ?_
    refine RL.bcase (t := 49) rfl (fun hc => ?_) (fun hc => ?_)
    ·rw [if_pos hc] at hF
     refine RL.gval rfl rfl (O.move rfl) rfl ?_
     refine obindE hF fun y36 hx37 hF => ?_
     refine RL.gcall rfl rfl Try.func11 bd11 rfl rfl (c_cache_Cache_Flush_N _ _ hx37) fun v w38 hv => ?_
     obtain ⟨A40, c41, rfl, hN39⟩ := hv
     replace hM := hM.call hN39
     refine RL.gval rfl rfl (O.len sl41 rfl) rfl ?_
     refine RL.gval rfl rfl (O.eql rfl rfl) rfl ?_
     refine RL.val (O.pickt rfl rfl) rfl ?_
     refine vm rfl rfl ?_
     refine RL.bcase (t := 55) rfl (fun hc => ?_) (fun hc => ?_)
     ·rw [if_pos hc] at hF
      refine RL.gval rfl rfl (O.move rfl) rfl ?_
      refine RL.gval rfl rfl (O.eql rfl rfl) rfl ?_
      refine RL.val (O.pickt rfl rfl) rfl ?_
      refine vm rfl rfl ?_
      refine RL.bcase (t := 59) rfl (fun hc => ?_) (fun hc => ?_)
      ·rw [if_pos hc] at hF
       refine RL.gval rfl rfl (O.move rfl) rfl ?_
       refine RL.gval rfl rfl (O.not rfl) rfl ?_
       refine RL.val (O.pickt rfl rfl) rfl ?_
       refine vm rfl rfl ?_
       refine RL.bcase (t := 63) rfl (fun hc => ?_) (fun hc => ?_)
       ·rw [if_pos hc] at hF
        refine RL.gval rfl rfl (O.move rfl) rfl ?_
        refine obindE hF fun y43 hx44 hF => ?_
        refine RL.gcall rfl rfl Try.func17 bd17 rfl rfl (c_cache_Cache_All_N _ _ hx44) fun v w45 hv => ?_
        obtain ⟨A47, c48, rfl, hN46⟩ := hv
        replace hM := hM.call hN46
        refine RL.gval rfl rfl (O.len sl41 rfl) rfl ?_
        refine RL.gval rfl rfl (O.eql rfl rfl) rfl ?_
        refine RL.val (O.pickt rfl rfl) rfl ?_
        refine vm rfl rfl ?_
        refine RL.bcase (t := 69) rfl (fun hc => ?_) (fun hc => ?_)
        ·rw [if_pos hc] at hF
         refine RL.gval rfl rfl (O.loadN (cs := [vB y21.1.f_Key.f_Src.f_Six, o8 y21.1.f_Key.f_Src.f_B 0, o8 y21.1.f_Key.f_Src.f_B 1, o8 y21.1.f_Key.f_Src.f_B 2, o8 y21.1.f_Key.f_Src.f_B 3, o8 y21.1.f_Key.f_Src.f_B 4, o8 y21.1.f_Key.f_Src.f_B 5, o8 y21.1.f_Key.f_Src.f_B 6, o8 y21.1.f_Key.f_Src.f_B 7, o8 y21.1.f_Key.f_Src.f_B 8, o8 y21.1.f_Key.f_Src.f_B 9, o8 y21.1.f_Key.f_Src.f_B 10, o8 y21.1.f_Key.f_Src.f_B 11, o8 y21.1.f_Key.f_Src.f_B 12, o8 y21.1.f_Key.f_Src.f_B 13, o8 y21.1.f_Key.f_Src.f_B 14, o8 y21.1.f_Key.f_Src.f_B 15, vB y21.1.f_Key.f_Dst.f_Six, o8 y21.1.f_Key.f_Dst.f_B 0, o8 y21.1.f_Key.f_Dst.f_B 1, o8 y21.1.f_Key.f_Dst.f_B 2, o8 y21.1.f_Key.f_Dst.f_B 3, o8 y21.1.f_Key.f_Dst.f_B 4, o8 y21.1.f_Key.f_Dst.f_B 5, o8 y21.1.f_Key.f_Dst.f_B 6, o8 y21.1.f_Key.f_Dst.f_B 7, o8 y21.1.f_Key.f_Dst.f_B 8, o8 y21.1.f_Key.f_Dst.f_B 9, o8 y21.1.f_Key.f_Dst.f_B 10, o8 y21.1.f_Key.f_Dst.f_B 11, o8 y21.1.f_Key.f_Dst.f_B 12, o8 y21.1.f_Key.f_Dst.f_B 13, o8 y21.1.f_Key.f_Dst.f_B 14, o8 y21.1.f_Key.f_Dst.f_B 15, v8 y21.1.f_Key.f_Proto, v16 y21.1.f_Key.f_SrcPort, v16 y21.1.f_Key.f_DstPort, v64 y21.1.f_Packets, v64 y21.1.f_Bytes, v64 y21.1.f_First, v64 y21.1.f_Last, v8 y21.1.f_Flags, v8 y21.1.f_Reason, v8 y21.1.f_Class]) ag46 rfl (Cs.addsN [] ((hM.bx (i := 2) rfl)) rfl)) rfl ?_
         refine RL.gval rfl rfl (O.bld (cs := [vB false, o8 (List.replicate 16 0) 0, o8 (List.replicate 16 0) 1, o8 (List.replicate 16 0) 2, o8 (List.replicate 16 0) 3, o8 (List.replicate 16 0) 4, o8 (List.replicate 16 0) 5, o8 (List.replicate 16 0) 6, o8 (List.replicate 16 0) 7, o8 (List.replicate 16 0) 8, o8 (List.replicate 16 0) 9, o8 (List.replicate 16 0) 10, o8 (List.replicate 16 0) 11, o8 (List.replicate 16 0) 12, o8 (List.replicate 16 0) 13, o8 (List.replicate 16 0) 14, o8 (List.replicate 16 0) 15, vB false, o8 (List.replicate 16 0) 0, o8 (List.replicate 16 0) 1, o8 (List.replicate 16 0) 2, o8 (List.replicate 16 0) 3, o8 (List.replicate 16 0) 4, o8 (List.replicate 16 0) 5, o8 (List.replicate 16 0) 6, o8 (List.replicate 16 0) 7, o8 (List.replicate 16 0) 8, o8 (List.replicate 16 0) 9, o8 (List.replicate 16 0) 10, o8 (List.replicate 16 0) 11, o8 (List.replicate 16 0) 12, o8 (List.replicate 16 0) 13, o8 (List.replicate 16 0) 14, o8 (List.replicate 16 0) 15, v8 0, v16 0, v16 0, v64 0, v64 0, v64 0, v64 0, v8 0, v8 0, v8 0]) bt46 rfl (by kernel_rfl)) rfl ?_
         refine RL.gval rfl rfl (O.steq (cs := [vB y21.1.f_Key.f_Src.f_Six, o8 y21.1.f_Key.f_Src.f_B 0, o8 y21.1.f_Key.f_Src.f_B 1, o8 y21.1.f_Key.f_Src.f_B 2, o8 y21.1.f_Key.f_Src.f_B 3, o8 y21.1.f_Key.f_Src.f_B 4, o8 y21.1.f_Key.f_Src.f_B 5, o8 y21.1.f_Key.f_Src.f_B 6, o8 y21.1.f_Key.f_Src.f_B 7, o8 y21.1.f_Key.f_Src.f_B 8, o8 y21.1.f_Key.f_Src.f_B 9, o8 y21.1.f_Key.f_Src.f_B 10, o8 y21.1.f_Key.f_Src.f_B 11, o8 y21.1.f_Key.f_Src.f_B 12, o8 y21.1.f_Key.f_Src.f_B 13, o8 y21.1.f_Key.f_Src.f_B 14, o8 y21.1.f_Key.f_Src.f_B 15, vB y21.1.f_Key.f_Dst.f_Six, o8 y21.1.f_Key.f_Dst.f_B 0, o8 y21.1.f_Key.f_Dst.f_B 1, o8 y21.1.f_Key.f_Dst.f_B 2, o8 y21.1.f_Key.f_Dst.f_B 3, o8 y21.1.f_Key.f_Dst.f_B 4, o8 y21.1.f_Key.f_Dst.f_B 5, o8 y21.1.f_Key.f_Dst.f_B 6, o8 y21.1.f_Key.f_Dst.f_B 7, o8 y21.1.f_Key.f_Dst.f_B 8, o8 y21.1.f_Key.f_Dst.f_B 9, o8 y21.1.f_Key.f_Dst.f_B 10, o8 y21.1.f_Key.f_Dst.f_B 11, o8 y21.1.f_Key.f_Dst.f_B 12, o8 y21.1.f_Key.f_Dst.f_B 13, o8 y21.1.f_Key.f_Dst.f_B 14, o8 y21.1.f_Key.f_Dst.f_B 15, v8 y21.1.f_Key.f_Proto, v16 y21.1.f_Key.f_SrcPort, v16 y21.1.f_Key.f_DstPort, v64 y21.1.f_Packets, v64 y21.1.f_Bytes, v64 y21.1.f_First, v64 y21.1.f_Last, v8 y21.1.f_Flags, v8 y21.1.f_Reason, v8 y21.1.f_Class]) (cs' := [vB false, o8 (List.replicate 16 0) 0, o8 (List.replicate 16 0) 1, o8 (List.replicate 16 0) 2, o8 (List.replicate 16 0) 3, o8 (List.replicate 16 0) 4, o8 (List.replicate 16 0) 5, o8 (List.replicate 16 0) 6, o8 (List.replicate 16 0) 7, o8 (List.replicate 16 0) 8, o8 (List.replicate 16 0) 9, o8 (List.replicate 16 0) 10, o8 (List.replicate 16 0) 11, o8 (List.replicate 16 0) 12, o8 (List.replicate 16 0) 13, o8 (List.replicate 16 0) 14, o8 (List.replicate 16 0) 15, vB false, o8 (List.replicate 16 0) 0, o8 (List.replicate 16 0) 1, o8 (List.replicate 16 0) 2, o8 (List.replicate 16 0) 3, o8 (List.replicate 16 0) 4, o8 (List.replicate 16 0) 5, o8 (List.replicate 16 0) 6, o8 (List.replicate 16 0) 7, o8 (List.replicate 16 0) 8, o8 (List.replicate 16 0) 9, o8 (List.replicate 16 0) 10, o8 (List.replicate 16 0) 11, o8 (List.replicate 16 0) 12, o8 (List.replicate 16 0) 13, o8 (List.replicate 16 0) 14, o8 (List.replicate 16 0) 15, v8 0, v16 0, v16 0, v64 0, v64 0, v64 0, v64 0, v8 0, v8 0, v8 0]) (by kernel_rfl) rfl rfl (Q46t y21.1 (T_flow_Record.mk (T_packet_Key.mk (T_addr_Addr.mk false (List.replicate 16 0)) (T_addr_Addr.mk false (List.replicate 16 0)) 0 0 0) 0 0 0 0 0 0 0) _ rfl rfl)) rfl ?_
         refine RL.val (O.pickt rfl rfl) rfl ?_
         refine vm rfl rfl ?_
         refine RL.bcase (t := 74) rfl (fun hc => ?_) (fun hc => ?_)
         ·rw [if_pos hc] at hF
          refine RL.gval rfl rfl (O.move rfl) rfl ?_
          refine RL.gval rfl rfl (O.not rfl) rfl ?_
          refine RL.val (O.pickt rfl rfl) rfl ?_
          refine vm rfl rfl ?_
          refine RL.bcase (t := 78) rfl (fun hc => ?_) (fun hc => ?_)
          ·rw [if_pos hc] at hF
           refine RL.gval rfl rfl (O.move rfl) rfl ?_
           refine obindE hF fun y50 hx51 hF => ?_
           refine RL.gcall rfl rfl Try.func12 bd12 rfl rfl (c_cache_Cache_Tick_N _ _ hx51) fun v w52 hv => ?_
           obtain ⟨rfl, hN53⟩ := hv
           replace hM := hM.call0 hN53
           refine RL.gval rfl rfl (O.eql rfl rfl) rfl ?_
           refine RL.val (O.pickt rfl rfl) rfl ?_
           refine vm rfl rfl ?_
           refine RL.bcase (t := 83) rfl (fun hc => ?_) (fun hc => ?_)
           ·rw [if_pos hc] at hF
            refine RL.gval rfl rfl (O.move rfl) rfl ?_
            refine obindE hF fun y54 hx55 hF => ?_
            refine RL.gcall rfl rfl Try.func22 bd22 rfl rfl (c_cache_Cache_Clear_N _ _ hx55) fun v w56 hv => ?_
            obtain ⟨rfl, hN57⟩ := hv
            replace hM := hM.call0 hN57
            refine RL.gval rfl rfl (O.eql rfl rfl) rfl ?_
            refine RL.val (O.pickt rfl rfl) rfl ?_
            refine vm rfl rfl ?_
            refine RL.bcase (t := 88) rfl (fun hc => ?_) (fun hc => ?_)
            ·rw [if_pos hc] at hF
             refine obindE hF fun y58 hx59 hF => ?_
             refine RL.gcall rfl rfl Try.func6 bd6 rfl rfl (c_law24_works _ _ hx59) fun v w60 hv => ?_
             obtain ⟨rfl, hN61⟩ := hv
             replace hM := hM.call0 hN61
             refine RL.val (O.pickt rfl rfl) rfl ?_
             refine va rfl rfl ?_
             refine RL.nil ?_
             refine KQ.then_k ?_
             replace hM := hM.pick [] rfl (by decide)
             exact fun a ha => ⟨y58, ha.less (less_cons rfl less_nil), hM, hF⟩
            rw [if_neg (ne_true hc)] at hF
            refine RL.gskip rfl rfl rfl rfl ?_
            refine RL.val (O.pickf rfl rfl) rfl ?_
            refine va rfl rfl ?_
            refine RL.nil ?_
            refine KQ.then_k ?_
            replace hM := hM.pick [] rfl (by decide)
            exact fun a ha => ⟨false, ha.less (less_cons rfl less_nil), hM, hF⟩
           rw [if_neg (ne_true hc)] at hF
           refine RL.brun1 7 90 false (by kernel_rfl) ?_
           refine va rfl rfl ?_
           refine RL.nil ?_
           refine KQ.then_k ?_
           replace hM := hM.pick [] rfl (by decide)
           exact fun a ha => ⟨false, ha.less (less_cons rfl less_nil), hM, hF⟩
          rw [if_neg (ne_true hc)] at hF
          refine RL.brun1 12 90 false (by kernel_rfl) ?_
          refine va rfl rfl ?_
          refine RL.nil ?_
          refine KQ.then_k ?_
          replace hM := hM.pick [] rfl (by decide)
          exact fun a ha => ⟨false, ha.less (less_cons rfl less_nil), hM, hF⟩
         rw [if_neg (ne_true hc)] at hF
         refine RL.brun1 16 90 false (by kernel_rfl) ?_
         refine va rfl rfl ?_
         refine RL.nil ?_
         refine KQ.then_k ?_
         replace hM := hM.pick [] rfl (by decide)
         exact fun a ha => ⟨false, ha.less (less_cons rfl less_nil), hM, hF⟩
        rw [if_neg (ne_true hc)] at hF
        refine RL.brun1 21 90 false (by kernel_rfl) ?_
        refine va rfl rfl ?_
        refine RL.nil ?_
        refine KQ.then_k ?_
        replace hM := hM.pick [] rfl (by decide)
        exact fun a ha => ⟨false, ha.less (less_cons rfl less_nil), hM, hF⟩
       rw [if_neg (ne_true hc)] at hF
       refine RL.brun1 27 90 false (by kernel_rfl) ?_
       refine va rfl rfl ?_
       refine RL.nil ?_
       refine KQ.then_k ?_
       replace hM := hM.pick [] rfl (by decide)
       exact fun a ha => ⟨false, ha.less (less_cons rfl less_nil), hM, hF⟩
      rw [if_neg (ne_true hc)] at hF
      refine RL.brun1 31 90 false (by kernel_rfl) ?_
      refine va rfl rfl ?_
      refine RL.nil ?_
      refine KQ.then_k ?_
      replace hM := hM.pick [] rfl (by decide)
      exact fun a ha => ⟨false, ha.less (less_cons rfl less_nil), hM, hF⟩
     rw [if_neg (ne_true hc)] at hF
     refine RL.brun1 35 90 false (by kernel_rfl) ?_
     refine va rfl rfl ?_
     refine RL.nil ?_
     refine KQ.then_k ?_
     replace hM := hM.pick [] rfl (by decide)
     exact fun a ha => ⟨false, ha.less (less_cons rfl less_nil), hM, hF⟩
    rw [if_neg (ne_true hc)] at hF
    refine RL.brun1 41 90 false (by kernel_rfl) ?_
    refine va rfl rfl ?_
    refine RL.nil ?_
    refine KQ.then_k ?_
    replace hM := hM.pick [] rfl (by decide)
    exact fun a ha => ⟨false, ha.less (less_cons rfl less_nil), hM, hF⟩
   rw [if_neg (ne_true hc)] at hF
   refine RL.brun1 49 90 false (by kernel_rfl) ?_
   refine va rfl rfl ?_
   refine RL.nil ?_
   refine KQ.then_k ?_
   replace hM := hM.pick [] rfl (by decide)
   exact fun a ha => ⟨false, ha.less (less_cons rfl less_nil), hM, hF⟩
  rw [if_neg (ne_true hc)] at hF
  refine RL.brun1 53 90 false (by kernel_rfl) ?_
  refine va rfl rfl ?_
  refine RL.nil ?_
  refine KQ.then_k ?_
  replace hM := hM.pick [] rfl (by decide)
  exact fun a ha => ⟨false, ha.less (less_cons rfl less_nil), hM, hF⟩
 rintro a w63 ⟨t62, ha, hM, hF⟩
 refine KC.app ha ?_
 clear ha
 unfold F_law24_CacheNone_j1 at hF
 refine KC.ret ?_
 have hE := Option.some.inj hF
 clear hF
 subst hE
 refine KQ.rets Try.results5 (RVs.cons (RV.tm rfl) RVs.nil) ?_
 exact ⟨_, rfl, rfl, hM⟩
end Go.Proofs.Ytkpnocgfhipidaa
