/- Printed by a program of this claim: each call returns what the plain function of its name gives. -/
import Derived.Test.YtkpnocgfhipidaaW1
import Derived.Test.YtkpnocgfhipidaaW4
import Derived.Test.YtkpnocgfhipidaaW6
set_option linter.unusedVariables false
namespace Go.Proofs.Ytkpnocgfhipidaa
open Go Go.Ox Go.RowKit
set_option maxRecDepth 100000 in
set_option maxHeartbeats 40000000 in
theorem c_cache_Cache_begin_1 (w : World) (av1 : T_flow_Record) (b2 : T_flow_Record) (r : Int) (hF : F_cache_Cache_begin_1 av1 b2 = some r) :
  CallsR Try.prog 52 [.agg #[vB av1.f_Key.f_Src.f_Six, o8 av1.f_Key.f_Src.f_B 0, o8 av1.f_Key.f_Src.f_B 1, o8 av1.f_Key.f_Src.f_B 2, o8 av1.f_Key.f_Src.f_B 3, o8 av1.f_Key.f_Src.f_B 4, o8 av1.f_Key.f_Src.f_B 5, o8 av1.f_Key.f_Src.f_B 6, o8 av1.f_Key.f_Src.f_B 7, o8 av1.f_Key.f_Src.f_B 8, o8 av1.f_Key.f_Src.f_B 9, o8 av1.f_Key.f_Src.f_B 10, o8 av1.f_Key.f_Src.f_B 11, o8 av1.f_Key.f_Src.f_B 12, o8 av1.f_Key.f_Src.f_B 13, o8 av1.f_Key.f_Src.f_B 14, o8 av1.f_Key.f_Src.f_B 15, vB av1.f_Key.f_Dst.f_Six, o8 av1.f_Key.f_Dst.f_B 0, o8 av1.f_Key.f_Dst.f_B 1, o8 av1.f_Key.f_Dst.f_B 2, o8 av1.f_Key.f_Dst.f_B 3, o8 av1.f_Key.f_Dst.f_B 4, o8 av1.f_Key.f_Dst.f_B 5, o8 av1.f_Key.f_Dst.f_B 6, o8 av1.f_Key.f_Dst.f_B 7, o8 av1.f_Key.f_Dst.f_B 8, o8 av1.f_Key.f_Dst.f_B 9, o8 av1.f_Key.f_Dst.f_B 10, o8 av1.f_Key.f_Dst.f_B 11, o8 av1.f_Key.f_Dst.f_B 12, o8 av1.f_Key.f_Dst.f_B 13, o8 av1.f_Key.f_Dst.f_B 14, o8 av1.f_Key.f_Dst.f_B 15, v8 av1.f_Key.f_Proto, v16 av1.f_Key.f_SrcPort, v16 av1.f_Key.f_DstPort, v64 av1.f_Packets, v64 av1.f_Bytes, v64 av1.f_First, v64 av1.f_Last, v8 av1.f_Flags, v8 av1.f_Reason, v8 av1.f_Class], .agg #[vB b2.f_Key.f_Src.f_Six, o8 b2.f_Key.f_Src.f_B 0, o8 b2.f_Key.f_Src.f_B 1, o8 b2.f_Key.f_Src.f_B 2, o8 b2.f_Key.f_Src.f_B 3, o8 b2.f_Key.f_Src.f_B 4, o8 b2.f_Key.f_Src.f_B 5, o8 b2.f_Key.f_Src.f_B 6, o8 b2.f_Key.f_Src.f_B 7, o8 b2.f_Key.f_Src.f_B 8, o8 b2.f_Key.f_Src.f_B 9, o8 b2.f_Key.f_Src.f_B 10, o8 b2.f_Key.f_Src.f_B 11, o8 b2.f_Key.f_Src.f_B 12, o8 b2.f_Key.f_Src.f_B 13, o8 b2.f_Key.f_Src.f_B 14, o8 b2.f_Key.f_Src.f_B 15, vB b2.f_Key.f_Dst.f_Six, o8 b2.f_Key.f_Dst.f_B 0, o8 b2.f_Key.f_Dst.f_B 1, o8 b2.f_Key.f_Dst.f_B 2, o8 b2.f_Key.f_Dst.f_B 3, o8 b2.f_Key.f_Dst.f_B 4, o8 b2.f_Key.f_Dst.f_B 5, o8 b2.f_Key.f_Dst.f_B 6, o8 b2.f_Key.f_Dst.f_B 7, o8 b2.f_Key.f_Dst.f_B 8, o8 b2.f_Key.f_Dst.f_B 9, o8 b2.f_Key.f_Dst.f_B 10, o8 b2.f_Key.f_Dst.f_B 11, o8 b2.f_Key.f_Dst.f_B 12, o8 b2.f_Key.f_Dst.f_B 13, o8 b2.f_Key.f_Dst.f_B 14, o8 b2.f_Key.f_Dst.f_B 15, v8 b2.f_Key.f_Proto, v16 b2.f_Key.f_SrcPort, v16 b2.f_Key.f_DstPort, v64 b2.f_Packets, v64 b2.f_Bytes, v64 b2.f_First, v64 b2.f_Last, v8 b2.f_Flags, v8 b2.f_Reason, v8 b2.f_Class]] w (fun v w' => v = vI r ∧ Mem w [] w' []) := by
 refine calls_KC Try.func52 rfl Try.ntmps52 rfl ?_
 have hM := Mem.init w
 unfold F_cache_Cache_begin_1 at hF
 refine sr fun Q3 hQ3 => ?_
 refine RL.eff (E.box (vs := [vB av1.f_Key.f_Src.f_Six, o8 av1.f_Key.f_Src.f_B 0, o8 av1.f_Key.f_Src.f_B 1, o8 av1.f_Key.f_Src.f_B 2, o8 av1.f_Key.f_Src.f_B 3, o8 av1.f_Key.f_Src.f_B 4, o8 av1.f_Key.f_Src.f_B 5, o8 av1.f_Key.f_Src.f_B 6, o8 av1.f_Key.f_Src.f_B 7, o8 av1.f_Key.f_Src.f_B 8, o8 av1.f_Key.f_Src.f_B 9, o8 av1.f_Key.f_Src.f_B 10, o8 av1.f_Key.f_Src.f_B 11, o8 av1.f_Key.f_Src.f_B 12, o8 av1.f_Key.f_Src.f_B 13, o8 av1.f_Key.f_Src.f_B 14, o8 av1.f_Key.f_Src.f_B 15, vB av1.f_Key.f_Dst.f_Six, o8 av1.f_Key.f_Dst.f_B 0, o8 av1.f_Key.f_Dst.f_B 1, o8 av1.f_Key.f_Dst.f_B 2, o8 av1.f_Key.f_Dst.f_B 3, o8 av1.f_Key.f_Dst.f_B 4, o8 av1.f_Key.f_Dst.f_B 5, o8 av1.f_Key.f_Dst.f_B 6, o8 av1.f_Key.f_Dst.f_B 7, o8 av1.f_Key.f_Dst.f_B 8, o8 av1.f_Key.f_Dst.f_B 9, o8 av1.f_Key.f_Dst.f_B 10, o8 av1.f_Key.f_Dst.f_B 11, o8 av1.f_Key.f_Dst.f_B 12, o8 av1.f_Key.f_Dst.f_B 13, o8 av1.f_Key.f_Dst.f_B 14, o8 av1.f_Key.f_Dst.f_B 15, v8 av1.f_Key.f_Proto, v16 av1.f_Key.f_SrcPort, v16 av1.f_Key.f_DstPort, v64 av1.f_Packets, v64 av1.f_Bytes, v64 av1.f_First, v64 av1.f_Last, v8 av1.f_Flags, v8 av1.f_Reason, v8 av1.f_Class]) hM rfl rfl) rfl fun v w5 hv => ?_
 clear hM
 obtain ⟨g4, rfl, hM, hf⟩ := hv
 refine RL.eff (E.box (vs := [vB b2.f_Key.f_Src.f_Six, o8 b2.f_Key.f_Src.f_B 0, o8 b2.f_Key.f_Src.f_B 1, o8 b2.f_Key.f_Src.f_B 2, o8 b2.f_Key.f_Src.f_B 3, o8 b2.f_Key.f_Src.f_B 4, o8 b2.f_Key.f_Src.f_B 5, o8 b2.f_Key.f_Src.f_B 6, o8 b2.f_Key.f_Src.f_B 7, o8 b2.f_Key.f_Src.f_B 8, o8 b2.f_Key.f_Src.f_B 9, o8 b2.f_Key.f_Src.f_B 10, o8 b2.f_Key.f_Src.f_B 11, o8 b2.f_Key.f_Src.f_B 12, o8 b2.f_Key.f_Src.f_B 13, o8 b2.f_Key.f_Src.f_B 14, o8 b2.f_Key.f_Src.f_B 15, vB b2.f_Key.f_Dst.f_Six, o8 b2.f_Key.f_Dst.f_B 0, o8 b2.f_Key.f_Dst.f_B 1, o8 b2.f_Key.f_Dst.f_B 2, o8 b2.f_Key.f_Dst.f_B 3, o8 b2.f_Key.f_Dst.f_B 4, o8 b2.f_Key.f_Dst.f_B 5, o8 b2.f_Key.f_Dst.f_B 6, o8 b2.f_Key.f_Dst.f_B 7, o8 b2.f_Key.f_Dst.f_B 8, o8 b2.f_Key.f_Dst.f_B 9, o8 b2.f_Key.f_Dst.f_B 10, o8 b2.f_Key.f_Dst.f_B 11, o8 b2.f_Key.f_Dst.f_B 12, o8 b2.f_Key.f_Dst.f_B 13, o8 b2.f_Key.f_Dst.f_B 14, o8 b2.f_Key.f_Dst.f_B 15, v8 b2.f_Key.f_Proto, v16 b2.f_Key.f_SrcPort, v16 b2.f_Key.f_DstPort, v64 b2.f_Packets, v64 b2.f_Bytes, v64 b2.f_First, v64 b2.f_Last, v8 b2.f_Flags, v8 b2.f_Reason, v8 b2.f_Class]) hM rfl rfl) rfl fun v w8 hv => ?_
 clear hM
 obtain ⟨g7, rfl, hM, hf⟩ := hv
 refine va rfl rfl ?_
 refine nt hQ3 ?_
 clear hQ3 Q3
 refine KC.seqH fun Q10 hQ10 => ?_
 replace hM := hM.drewN 1
 refine KC.draw [] [] [4, 7, 8, 9] [0, 2, 10] (.ofList [0, 1, 2, 3, 5, 6, 4, 7, 8, 9, 10]) moP (by kernel_rfl) ?_
 refine RD.p rfl rfl rfl rfl (fun w' => O.fldA fl46_4 (by decide) rfl) ?_
 refine RD.q rfl rfl rfl rfl (fun w' hf => O.load sc22 rfl (Cs.adds [40] ((hM.bx (i := 0) rfl).fut hf) rfl)) ?_
 refine RD.p rfl rfl rfl rfl (fun w' => O.fldA fl46_4 (by decide) rfl) ?_
 refine RD.q rfl rfl rfl rfl (fun w' hf => O.load sc22 rfl (Cs.adds [40] ((hM.bx (i := 1) rfl).fut hf) rfl)) ?_
 refine RD.q rfl rfl rfl rfl (fun w' hf => O.loadN (cs := [vB av1.f_Key.f_Src.f_Six, o8 av1.f_Key.f_Src.f_B 0, o8 av1.f_Key.f_Src.f_B 1, o8 av1.f_Key.f_Src.f_B 2, o8 av1.f_Key.f_Src.f_B 3, o8 av1.f_Key.f_Src.f_B 4, o8 av1.f_Key.f_Src.f_B 5, o8 av1.f_Key.f_Src.f_B 6, o8 av1.f_Key.f_Src.f_B 7, o8 av1.f_Key.f_Src.f_B 8, o8 av1.f_Key.f_Src.f_B 9, o8 av1.f_Key.f_Src.f_B 10, o8 av1.f_Key.f_Src.f_B 11, o8 av1.f_Key.f_Src.f_B 12, o8 av1.f_Key.f_Src.f_B 13, o8 av1.f_Key.f_Src.f_B 14, o8 av1.f_Key.f_Src.f_B 15, vB av1.f_Key.f_Dst.f_Six, o8 av1.f_Key.f_Dst.f_B 0, o8 av1.f_Key.f_Dst.f_B 1, o8 av1.f_Key.f_Dst.f_B 2, o8 av1.f_Key.f_Dst.f_B 3, o8 av1.f_Key.f_Dst.f_B 4, o8 av1.f_Key.f_Dst.f_B 5, o8 av1.f_Key.f_Dst.f_B 6, o8 av1.f_Key.f_Dst.f_B 7, o8 av1.f_Key.f_Dst.f_B 8, o8 av1.f_Key.f_Dst.f_B 9, o8 av1.f_Key.f_Dst.f_B 10, o8 av1.f_Key.f_Dst.f_B 11, o8 av1.f_Key.f_Dst.f_B 12, o8 av1.f_Key.f_Dst.f_B 13, o8 av1.f_Key.f_Dst.f_B 14, o8 av1.f_Key.f_Dst.f_B 15, v8 av1.f_Key.f_Proto, v16 av1.f_Key.f_SrcPort, v16 av1.f_Key.f_DstPort, v64 av1.f_Packets, v64 av1.f_Bytes, v64 av1.f_First, v64 av1.f_Last, v8 av1.f_Flags, v8 av1.f_Reason, v8 av1.f_Class]) ag46 rfl (Cs.addsN [] ((hM.bx (i := 0) rfl).fut hf) rfl)) ?_
 refine RD.q rfl rfl rfl rfl (fun w' hf => O.loadN (cs := [vB b2.f_Key.f_Src.f_Six, o8 b2.f_Key.f_Src.f_B 0, o8 b2.f_Key.f_Src.f_B 1, o8 b2.f_Key.f_Src.f_B 2, o8 b2.f_Key.f_Src.f_B 3, o8 b2.f_Key.f_Src.f_B 4, o8 b2.f_Key.f_Src.f_B 5, o8 b2.f_Key.f_Src.f_B 6, o8 b2.f_Key.f_Src.f_B 7, o8 b2.f_Key.f_Src.f_B 8, o8 b2.f_Key.f_Src.f_B 9, o8 b2.f_Key.f_Src.f_B 10, o8 b2.f_Key.f_Src.f_B 11, o8 b2.f_Key.f_Src.f_B 12, o8 b2.f_Key.f_Src.f_B 13, o8 b2.f_Key.f_Src.f_B 14, o8 b2.f_Key.f_Src.f_B 15, vB b2.f_Key.f_Dst.f_Six, o8 b2.f_Key.f_Dst.f_B 0, o8 b2.f_Key.f_Dst.f_B 1, o8 b2.f_Key.f_Dst.f_B 2, o8 b2.f_Key.f_Dst.f_B 3, o8 b2.f_Key.f_Dst.f_B 4, o8 b2.f_Key.f_Dst.f_B 5, o8 b2.f_Key.f_Dst.f_B 6, o8 b2.f_Key.f_Dst.f_B 7, o8 b2.f_Key.f_Dst.f_B 8, o8 b2.f_Key.f_Dst.f_B 9, o8 b2.f_Key.f_Dst.f_B 10, o8 b2.f_Key.f_Dst.f_B 11, o8 b2.f_Key.f_Dst.f_B 12, o8 b2.f_Key.f_Dst.f_B 13, o8 b2.f_Key.f_Dst.f_B 14, o8 b2.f_Key.f_Dst.f_B 15, v8 b2.f_Key.f_Proto, v16 b2.f_Key.f_SrcPort, v16 b2.f_Key.f_DstPort, v64 b2.f_Packets, v64 b2.f_Bytes, v64 b2.f_First, v64 b2.f_Last, v8 b2.f_Flags, v8 b2.f_Reason, v8 b2.f_Class]) ag46 rfl (Cs.addsN [] ((hM.bx (i := 1) rfl).fut hf) rfl)) ?_
 refine obindE hF fun y11 hx12 hF => ?_
 refine RD.mcall rfl rfl trivial Try.func35 bd35 rfl rfl (c_cmp_Compare_uint64 _ av1.f_Last b2.f_Last _ hx12) fun v w13 hv => ?_
 obtain ⟨rfl, hN14⟩ := hv
 refine ⟨fun _ => hN14.fut, ?_⟩
 replace hM := hM.call0 hN14
 refine obindE hF fun y15 hx16 hF => ?_
 refine RD.mcall rfl rfl trivial Try.func36 bd36 rfl rfl (c_cache_byKey _ av1 b2 _ hx16) fun v w17 hv => ?_
 obtain ⟨rfl, hN18⟩ := hv
 refine ⟨fun _ => hN18.fut, ?_⟩
 replace hM := hM.call0 hN18
 refine RD.meff rfl rfl (E.bsl (enc := (eI .i64)) (xs := ([y11, y15] : List Int)) hM sl110 ze3 rfl rfl rfl (fun _ => rfl) rfl (by kernel_rfl) rfl) rfl fun v w19 hv => ?_
 clear hM
 obtain ⟨A20, rfl, hM, hf⟩ := hv
 refine ⟨fun _ => hf, ?_⟩
 refine obindE hF fun y22 hx23 hF => ?_
 refine RD.mcall rfl rfl trivial Try.func34 bd34 rfl rfl (c_cmp_Or_int _ _ _ ([y11, y15] : List Int) (hM.rd (i := 2) rfl) _ hx23) fun v w24 hv => ?_
 obtain ⟨rfl, hN25⟩ := hv
 refine ⟨fun _ => hN25.fut, ?_⟩
 replace hM := hM.call0 hN25
 refine RD.p rfl rfl rfl rfl (fun w' => O.assign rfl) ?_
 refine RD.nil ?_
 refine KQ.thn hQ10 ?_
 clear hQ10 Q10
 refine KC.ret ?_
 have hE := Option.some.inj hF
 clear hF
 subst hE
 replace hM := hM.pick [] rfl (by decide)
 refine KQ.rets Try.results52 (RVs.cons (RV.tm rfl) RVs.nil) ?_
 exact ⟨_, rfl, rfl, hM⟩
end Go.Proofs.Ytkpnocgfhipidaa
