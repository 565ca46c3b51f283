/- Printed by a program of this claim: each call returns what the plain function of its name gives. -/
import Derived.Test.YteafnfoponjoeaaVW1
set_option linter.unusedVariables false
namespace Go.Proofs.Yteafnfoponjoeaa
open Go Go.Ox Go.RowKit
set_option maxRecDepth 100000 in
set_option maxHeartbeats 40000000 in
theorem c_docs_Key (w : World) (kv1 : T_packet_Key) (r : T_ref08_Key) (hF : F_docs_Key kv1 = some r) :
    CallsR Try.prog 15 [.agg #[.bool kv1.f_Src.f_Six, .int .u8 (List.getD kv1.f_Src.f_B 0 0), .int .u8 (List.getD kv1.f_Src.f_B 1 0), .int .u8 (List.getD kv1.f_Src.f_B 2 0), .int .u8 (List.getD kv1.f_Src.f_B 3 0), .int .u8 (List.getD kv1.f_Src.f_B 4 0), .int .u8 (List.getD kv1.f_Src.f_B 5 0), .int .u8 (List.getD kv1.f_Src.f_B 6 0), .int .u8 (List.getD kv1.f_Src.f_B 7 0), .int .u8 (List.getD kv1.f_Src.f_B 8 0), .int .u8 (List.getD kv1.f_Src.f_B 9 0), .int .u8 (List.getD kv1.f_Src.f_B 10 0), .int .u8 (List.getD kv1.f_Src.f_B 11 0), .int .u8 (List.getD kv1.f_Src.f_B 12 0), .int .u8 (List.getD kv1.f_Src.f_B 13 0), .int .u8 (List.getD kv1.f_Src.f_B 14 0), .int .u8 (List.getD kv1.f_Src.f_B 15 0), .bool kv1.f_Dst.f_Six, .int .u8 (List.getD kv1.f_Dst.f_B 0 0), .int .u8 (List.getD kv1.f_Dst.f_B 1 0), .int .u8 (List.getD kv1.f_Dst.f_B 2 0), .int .u8 (List.getD kv1.f_Dst.f_B 3 0), .int .u8 (List.getD kv1.f_Dst.f_B 4 0), .int .u8 (List.getD kv1.f_Dst.f_B 5 0), .int .u8 (List.getD kv1.f_Dst.f_B 6 0), .int .u8 (List.getD kv1.f_Dst.f_B 7 0), .int .u8 (List.getD kv1.f_Dst.f_B 8 0), .int .u8 (List.getD kv1.f_Dst.f_B 9 0), .int .u8 (List.getD kv1.f_Dst.f_B 10 0), .int .u8 (List.getD kv1.f_Dst.f_B 11 0), .int .u8 (List.getD kv1.f_Dst.f_B 12 0), .int .u8 (List.getD kv1.f_Dst.f_B 13 0), .int .u8 (List.getD kv1.f_Dst.f_B 14 0), .int .u8 (List.getD kv1.f_Dst.f_B 15 0), .int .u8 kv1.f_Proto, .int .u16 kv1.f_SrcPort, .int .u16 kv1.f_DstPort]] w (fun v w' => v = .agg #[.bool r.f_Src.f_Six, .int .u8 (List.getD r.f_Src.f_B 0 0), .int .u8 (List.getD r.f_Src.f_B 1 0), .int .u8 (List.getD r.f_Src.f_B 2 0), .int .u8 (List.getD r.f_Src.f_B 3 0), .int .u8 (List.getD r.f_Src.f_B 4 0), .int .u8 (List.getD r.f_Src.f_B 5 0), .int .u8 (List.getD r.f_Src.f_B 6 0), .int .u8 (List.getD r.f_Src.f_B 7 0), .int .u8 (List.getD r.f_Src.f_B 8 0), .int .u8 (List.getD r.f_Src.f_B 9 0), .int .u8 (List.getD r.f_Src.f_B 10 0), .int .u8 (List.getD r.f_Src.f_B 11 0), .int .u8 (List.getD r.f_Src.f_B 12 0), .int .u8 (List.getD r.f_Src.f_B 13 0), .int .u8 (List.getD r.f_Src.f_B 14 0), .int .u8 (List.getD r.f_Src.f_B 15 0), .bool r.f_Dst.f_Six, .int .u8 (List.getD r.f_Dst.f_B 0 0), .int .u8 (List.getD r.f_Dst.f_B 1 0), .int .u8 (List.getD r.f_Dst.f_B 2 0), .int .u8 (List.getD r.f_Dst.f_B 3 0), .int .u8 (List.getD r.f_Dst.f_B 4 0), .int .u8 (List.getD r.f_Dst.f_B 5 0), .int .u8 (List.getD r.f_Dst.f_B 6 0), .int .u8 (List.getD r.f_Dst.f_B 7 0), .int .u8 (List.getD r.f_Dst.f_B 8 0), .int .u8 (List.getD r.f_Dst.f_B 9 0), .int .u8 (List.getD r.f_Dst.f_B 10 0), .int .u8 (List.getD r.f_Dst.f_B 11 0), .int .u8 (List.getD r.f_Dst.f_B 12 0), .int .u8 (List.getD r.f_Dst.f_B 13 0), .int .u8 (List.getD r.f_Dst.f_B 14 0), .int .u8 (List.getD r.f_Dst.f_B 15 0), .int .u8 r.f_Proto, .int .u16 r.f_SrcPort, .int .u16 r.f_DstPort] ∧ Mem w [] w' []) := by
  refine calls_KC Try.func15 rfl Try.ntmps15 rfl ?_
  have hM := Mem.init w
  unfold F_docs_Key at hF
  refine KC.seq ?_
  refine KC.region ?_
  refine RL.eff (E.box (vs := [.bool kv1.f_Src.f_Six, .int .u8 (List.getD kv1.f_Src.f_B 0 0), .int .u8 (List.getD kv1.f_Src.f_B 1 0), .int .u8 (List.getD kv1.f_Src.f_B 2 0), .int .u8 (List.getD kv1.f_Src.f_B 3 0), .int .u8 (List.getD kv1.f_Src.f_B 4 0), .int .u8 (List.getD kv1.f_Src.f_B 5 0), .int .u8 (List.getD kv1.f_Src.f_B 6 0), .int .u8 (List.getD kv1.f_Src.f_B 7 0), .int .u8 (List.getD kv1.f_Src.f_B 8 0), .int .u8 (List.getD kv1.f_Src.f_B 9 0), .int .u8 (List.getD kv1.f_Src.f_B 10 0), .int .u8 (List.getD kv1.f_Src.f_B 11 0), .int .u8 (List.getD kv1.f_Src.f_B 12 0), .int .u8 (List.getD kv1.f_Src.f_B 13 0), .int .u8 (List.getD kv1.f_Src.f_B 14 0), .int .u8 (List.getD kv1.f_Src.f_B 15 0), .bool kv1.f_Dst.f_Six, .int .u8 (List.getD kv1.f_Dst.f_B 0 0), .int .u8 (List.getD kv1.f_Dst.f_B 1 0), .int .u8 (List.getD kv1.f_Dst.f_B 2 0), .int .u8 (List.getD kv1.f_Dst.f_B 3 0), .int .u8 (List.getD kv1.f_Dst.f_B 4 0), .int .u8 (List.getD kv1.f_Dst.f_B 5 0), .int .u8 (List.getD kv1.f_Dst.f_B 6 0), .int .u8 (List.getD kv1.f_Dst.f_B 7 0), .int .u8 (List.getD kv1.f_Dst.f_B 8 0), .int .u8 (List.getD kv1.f_Dst.f_B 9 0), .int .u8 (List.getD kv1.f_Dst.f_B 10 0), .int .u8 (List.getD kv1.f_Dst.f_B 11 0), .int .u8 (List.getD kv1.f_Dst.f_B 12 0), .int .u8 (List.getD kv1.f_Dst.f_B 13 0), .int .u8 (List.getD kv1.f_Dst.f_B 14 0), .int .u8 (List.getD kv1.f_Dst.f_B 15 0), .int .u8 kv1.f_Proto, .int .u16 kv1.f_SrcPort, .int .u16 kv1.f_DstPort]) hM rfl rfl) rfl fun v w3 hv => ?_
  clear hM
  obtain ⟨g2, rfl, hM, hf⟩ := hv
  refine RL.eff (E.alloc hM ze45) rfl fun v w6 hv => ?_
  clear hM
  obtain ⟨g5, rfl, hM, hf⟩ := hv
  refine RL.nil ?_
  refine KQ.then_n ?_
  refine KC.seq ?_
  replace hM := hM.drewN 1
  refine KC.draw [] [13] [2, 5, 13] [0, 3, 6, 8, 10] (.ofList [0, 1, 3, 4, 6, 7, 8, 9, 10, 11, 2, 5, 12, 13]) moP (by kernel_rfl) ?_
  refine RD.p rfl rfl rfl rfl (fun w' => O.fldA fl27_0 (by decide) rfl) ?_
  refine RD.q rfl rfl rfl rfl (fun w' hf => O.loadN (cs := [.bool kv1.f_Src.f_Six, .int .u8 (List.getD kv1.f_Src.f_B 0 0), .int .u8 (List.getD kv1.f_Src.f_B 1 0), .int .u8 (List.getD kv1.f_Src.f_B 2 0), .int .u8 (List.getD kv1.f_Src.f_B 3 0), .int .u8 (List.getD kv1.f_Src.f_B 4 0), .int .u8 (List.getD kv1.f_Src.f_B 5 0), .int .u8 (List.getD kv1.f_Src.f_B 6 0), .int .u8 (List.getD kv1.f_Src.f_B 7 0), .int .u8 (List.getD kv1.f_Src.f_B 8 0), .int .u8 (List.getD kv1.f_Src.f_B 9 0), .int .u8 (List.getD kv1.f_Src.f_B 10 0), .int .u8 (List.getD kv1.f_Src.f_B 11 0), .int .u8 (List.getD kv1.f_Src.f_B 12 0), .int .u8 (List.getD kv1.f_Src.f_B 13 0), .int .u8 (List.getD kv1.f_Src.f_B 14 0), .int .u8 (List.getD kv1.f_Src.f_B 15 0)]) ag24 rfl (Cs.addsN [0] ((hM.bx (i := 0) rfl).fut hf) rfl)) ?_
  refine RD.p rfl rfl rfl rfl (fun w' => O.fldA fl27_1 (by decide) rfl) ?_
  refine RD.q rfl rfl rfl rfl (fun w' hf => O.loadN (cs := [.bool kv1.f_Dst.f_Six, .int .u8 (List.getD kv1.f_Dst.f_B 0 0), .int .u8 (List.getD kv1.f_Dst.f_B 1 0), .int .u8 (List.getD kv1.f_Dst.f_B 2 0), .int .u8 (List.getD kv1.f_Dst.f_B 3 0), .int .u8 (List.getD kv1.f_Dst.f_B 4 0), .int .u8 (List.getD kv1.f_Dst.f_B 5 0), .int .u8 (List.getD kv1.f_Dst.f_B 6 0), .int .u8 (List.getD kv1.f_Dst.f_B 7 0), .int .u8 (List.getD kv1.f_Dst.f_B 8 0), .int .u8 (List.getD kv1.f_Dst.f_B 9 0), .int .u8 (List.getD kv1.f_Dst.f_B 10 0), .int .u8 (List.getD kv1.f_Dst.f_B 11 0), .int .u8 (List.getD kv1.f_Dst.f_B 12 0), .int .u8 (List.getD kv1.f_Dst.f_B 13 0), .int .u8 (List.getD kv1.f_Dst.f_B 14 0), .int .u8 (List.getD kv1.f_Dst.f_B 15 0)]) ag24 rfl (Cs.addsN [17] ((hM.bx (i := 0) rfl).fut hf) rfl)) ?_
  refine RD.p rfl rfl rfl rfl (fun w' => O.fldA fl27_2 (by decide) rfl) ?_
  refine RD.q rfl rfl rfl rfl (fun w' hf => O.load sc5 rfl (Cs.adds [34] ((hM.bx (i := 0) rfl).fut hf) rfl)) ?_
  refine RD.p rfl rfl rfl rfl (fun w' => O.fldA fl27_3 (by decide) rfl) ?_
  refine RD.q rfl rfl rfl rfl (fun w' hf => O.load sc25 rfl (Cs.adds [35] ((hM.bx (i := 0) rfl).fut hf) rfl)) ?_
  refine RD.p rfl rfl rfl rfl (fun w' => O.fldA fl27_4 (by decide) rfl) ?_
  refine RD.q rfl rfl rfl rfl (fun w' hf => O.load sc25 rfl (Cs.adds [36] ((hM.bx (i := 0) rfl).fut hf) rfl)) ?_
  refine obindE hF fun y8 hx9 hF => ?_
  refine RD.mcall rfl rfl trivial Try.func32 bd32 rfl rfl (c_docs_Addr _ kv1.f_Src _ hx9) fun v w10 hv => ?_
  obtain ⟨rfl, hN11⟩ := hv
  refine ⟨fun _ => hN11.fut, ?_⟩
  replace hM := hM.call0 hN11
  refine obindE hF fun y12 hx13 hF => ?_
  refine RD.mcall rfl rfl trivial Try.func32 bd32 rfl rfl (c_docs_Addr _ kv1.f_Dst _ hx13) fun v w14 hv => ?_
  obtain ⟨rfl, hN15⟩ := hv
  refine ⟨fun _ => hN15.fut, ?_⟩
  replace hM := hM.call0 hN15
  refine RD.q rfl rfl rfl rfl (fun w' hf => O.bld (cs := [.bool y8.f_Six, .int .u8 (List.getD y8.f_B 0 0), .int .u8 (List.getD y8.f_B 1 0), .int .u8 (List.getD y8.f_B 2 0), .int .u8 (List.getD y8.f_B 3 0), .int .u8 (List.getD y8.f_B 4 0), .int .u8 (List.getD y8.f_B 5 0), .int .u8 (List.getD y8.f_B 6 0), .int .u8 (List.getD y8.f_B 7 0), .int .u8 (List.getD y8.f_B 8 0), .int .u8 (List.getD y8.f_B 9 0), .int .u8 (List.getD y8.f_B 10 0), .int .u8 (List.getD y8.f_B 11 0), .int .u8 (List.getD y8.f_B 12 0), .int .u8 (List.getD y8.f_B 13 0), .int .u8 (List.getD y8.f_B 14 0), .int .u8 (List.getD y8.f_B 15 0), .bool y12.f_Six, .int .u8 (List.getD y12.f_B 0 0), .int .u8 (List.getD y12.f_B 1 0), .int .u8 (List.getD y12.f_B 2 0), .int .u8 (List.getD y12.f_B 3 0), .int .u8 (List.getD y12.f_B 4 0), .int .u8 (List.getD y12.f_B 5 0), .int .u8 (List.getD y12.f_B 6 0), .int .u8 (List.getD y12.f_B 7 0), .int .u8 (List.getD y12.f_B 8 0), .int .u8 (List.getD y12.f_B 9 0), .int .u8 (List.getD y12.f_B 10 0), .int .u8 (List.getD y12.f_B 11 0), .int .u8 (List.getD y12.f_B 12 0), .int .u8 (List.getD y12.f_B 13 0), .int .u8 (List.getD y12.f_B 14 0), .int .u8 (List.getD y12.f_B 15 0), .int .u8 kv1.f_Proto, .int .u16 kv1.f_SrcPort, .int .u16 kv1.f_DstPort]) bt45 rfl (by kernel_rfl)) ?_
  refine RD.meffs rfl rfl rfl (E.stB (j := 1) (off := 0) (vs := [.bool y8.f_Six, .int .u8 (List.getD y8.f_B 0 0), .int .u8 (List.getD y8.f_B 1 0), .int .u8 (List.getD y8.f_B 2 0), .int .u8 (List.getD y8.f_B 3 0), .int .u8 (List.getD y8.f_B 4 0), .int .u8 (List.getD y8.f_B 5 0), .int .u8 (List.getD y8.f_B 6 0), .int .u8 (List.getD y8.f_B 7 0), .int .u8 (List.getD y8.f_B 8 0), .int .u8 (List.getD y8.f_B 9 0), .int .u8 (List.getD y8.f_B 10 0), .int .u8 (List.getD y8.f_B 11 0), .int .u8 (List.getD y8.f_B 12 0), .int .u8 (List.getD y8.f_B 13 0), .int .u8 (List.getD y8.f_B 14 0), .int .u8 (List.getD y8.f_B 15 0), .bool y12.f_Six, .int .u8 (List.getD y12.f_B 0 0), .int .u8 (List.getD y12.f_B 1 0), .int .u8 (List.getD y12.f_B 2 0), .int .u8 (List.getD y12.f_B 3 0), .int .u8 (List.getD y12.f_B 4 0), .int .u8 (List.getD y12.f_B 5 0), .int .u8 (List.getD y12.f_B 6 0), .int .u8 (List.getD y12.f_B 7 0), .int .u8 (List.getD y12.f_B 8 0), .int .u8 (List.getD y12.f_B 9 0), .int .u8 (List.getD y12.f_B 10 0), .int .u8 (List.getD y12.f_B 11 0), .int .u8 (List.getD y12.f_B 12 0), .int .u8 (List.getD y12.f_B 13 0), .int .u8 (List.getD y12.f_B 14 0), .int .u8 (List.getD y12.f_B 15 0), .int .u8 kv1.f_Proto, .int .u16 kv1.f_SrcPort, .int .u16 kv1.f_DstPort]) (cs' := [.bool y8.f_Six, .int .u8 (List.getD y8.f_B 0 0), .int .u8 (List.getD y8.f_B 1 0), .int .u8 (List.getD y8.f_B 2 0), .int .u8 (List.getD y8.f_B 3 0), .int .u8 (List.getD y8.f_B 4 0), .int .u8 (List.getD y8.f_B 5 0), .int .u8 (List.getD y8.f_B 6 0), .int .u8 (List.getD y8.f_B 7 0), .int .u8 (List.getD y8.f_B 8 0), .int .u8 (List.getD y8.f_B 9 0), .int .u8 (List.getD y8.f_B 10 0), .int .u8 (List.getD y8.f_B 11 0), .int .u8 (List.getD y8.f_B 12 0), .int .u8 (List.getD y8.f_B 13 0), .int .u8 (List.getD y8.f_B 14 0), .int .u8 (List.getD y8.f_B 15 0), .bool y12.f_Six, .int .u8 (List.getD y12.f_B 0 0), .int .u8 (List.getD y12.f_B 1 0), .int .u8 (List.getD y12.f_B 2 0), .int .u8 (List.getD y12.f_B 3 0), .int .u8 (List.getD y12.f_B 4 0), .int .u8 (List.getD y12.f_B 5 0), .int .u8 (List.getD y12.f_B 6 0), .int .u8 (List.getD y12.f_B 7 0), .int .u8 (List.getD y12.f_B 8 0), .int .u8 (List.getD y12.f_B 9 0), .int .u8 (List.getD y12.f_B 10 0), .int .u8 (List.getD y12.f_B 11 0), .int .u8 (List.getD y12.f_B 12 0), .int .u8 (List.getD y12.f_B 13 0), .int .u8 (List.getD y12.f_B 14 0), .int .u8 (List.getD y12.f_B 15 0), .int .u8 kv1.f_Proto, .int .u16 kv1.f_SrcPort, .int .u16 kv1.f_DstPort]) hM rfl sz45 rfl (adds_eq [] rfl) rfl rfl (One.all rfl) rfl rfl) fun w16 hM1 => ?_
  clear hM
  have hM := hM1
  clear hM1
  refine RD.nil ?_
  refine KQ.then_n ?_
  refine KC.ret ?_
  obtain rfl := Option.some.inj hF
  have hb17 := hM.bx (i := 1) rfl
  replace hM := hM.pick [] rfl (by decide)
  refine KQ.rets Try.results15 (RVs.cons (RV.cN (cs := [.bool y8.f_Six, .int .u8 (List.getD y8.f_B 0 0), .int .u8 (List.getD y8.f_B 1 0), .int .u8 (List.getD y8.f_B 2 0), .int .u8 (List.getD y8.f_B 3 0), .int .u8 (List.getD y8.f_B 4 0), .int .u8 (List.getD y8.f_B 5 0), .int .u8 (List.getD y8.f_B 6 0), .int .u8 (List.getD y8.f_B 7 0), .int .u8 (List.getD y8.f_B 8 0), .int .u8 (List.getD y8.f_B 9 0), .int .u8 (List.getD y8.f_B 10 0), .int .u8 (List.getD y8.f_B 11 0), .int .u8 (List.getD y8.f_B 12 0), .int .u8 (List.getD y8.f_B 13 0), .int .u8 (List.getD y8.f_B 14 0), .int .u8 (List.getD y8.f_B 15 0), .bool y12.f_Six, .int .u8 (List.getD y12.f_B 0 0), .int .u8 (List.getD y12.f_B 1 0), .int .u8 (List.getD y12.f_B 2 0), .int .u8 (List.getD y12.f_B 3 0), .int .u8 (List.getD y12.f_B 4 0), .int .u8 (List.getD y12.f_B 5 0), .int .u8 (List.getD y12.f_B 6 0), .int .u8 (List.getD y12.f_B 7 0), .int .u8 (List.getD y12.f_B 8 0), .int .u8 (List.getD y12.f_B 9 0), .int .u8 (List.getD y12.f_B 10 0), .int .u8 (List.getD y12.f_B 11 0), .int .u8 (List.getD y12.f_B 12 0), .int .u8 (List.getD y12.f_B 13 0), .int .u8 (List.getD y12.f_B 14 0), .int .u8 (List.getD y12.f_B 15 0), .int .u8 kv1.f_Proto, .int .u16 kv1.f_SrcPort, .int .u16 kv1.f_DstPort]) rfl ag45 hb17) RVs.nil) ?_
  exact ⟨_, rfl, rfl, hM⟩
set_option maxRecDepth 100000 in
set_option maxHeartbeats 40000000 in
theorem c_docs_Record (w : World) (rv1 : T_flow_Record) (r : T_ref22_Record) (hF : F_docs_Record rv1 = some r) :
    CallsR Try.prog 11 [.agg #[.bool rv1.f_Key.f_Src.f_Six, .int .u8 (List.getD rv1.f_Key.f_Src.f_B 0 0), .int .u8 (List.getD rv1.f_Key.f_Src.f_B 1 0), .int .u8 (List.getD rv1.f_Key.f_Src.f_B 2 0), .int .u8 (List.getD rv1.f_Key.f_Src.f_B 3 0), .int .u8 (List.getD rv1.f_Key.f_Src.f_B 4 0), .int .u8 (List.getD rv1.f_Key.f_Src.f_B 5 0), .int .u8 (List.getD rv1.f_Key.f_Src.f_B 6 0), .int .u8 (List.getD rv1.f_Key.f_Src.f_B 7 0), .int .u8 (List.getD rv1.f_Key.f_Src.f_B 8 0), .int .u8 (List.getD rv1.f_Key.f_Src.f_B 9 0), .int .u8 (List.getD rv1.f_Key.f_Src.f_B 10 0), .int .u8 (List.getD rv1.f_Key.f_Src.f_B 11 0), .int .u8 (List.getD rv1.f_Key.f_Src.f_B 12 0), .int .u8 (List.getD rv1.f_Key.f_Src.f_B 13 0), .int .u8 (List.getD rv1.f_Key.f_Src.f_B 14 0), .int .u8 (List.getD rv1.f_Key.f_Src.f_B 15 0), .bool rv1.f_Key.f_Dst.f_Six, .int .u8 (List.getD rv1.f_Key.f_Dst.f_B 0 0), .int .u8 (List.getD rv1.f_Key.f_Dst.f_B 1 0), .int .u8 (List.getD rv1.f_Key.f_Dst.f_B 2 0), .int .u8 (List.getD rv1.f_Key.f_Dst.f_B 3 0), .int .u8 (List.getD rv1.f_Key.f_Dst.f_B 4 0), .int .u8 (List.getD rv1.f_Key.f_Dst.f_B 5 0), .int .u8 (List.getD rv1.f_Key.f_Dst.f_B 6 0), .int .u8 (List.getD rv1.f_Key.f_Dst.f_B 7 0), .int .u8 (List.getD rv1.f_Key.f_Dst.f_B 8 0), .int .u8 (List.getD rv1.f_Key.f_Dst.f_B 9 0), .int .u8 (List.getD rv1.f_Key.f_Dst.f_B 10 0), .int .u8 (List.getD rv1.f_Key.f_Dst.f_B 11 0), .int .u8 (List.getD rv1.f_Key.f_Dst.f_B 12 0), .int .u8 (List.getD rv1.f_Key.f_Dst.f_B 13 0), .int .u8 (List.getD rv1.f_Key.f_Dst.f_B 14 0), .int .u8 (List.getD rv1.f_Key.f_Dst.f_B 15 0), .int .u8 rv1.f_Key.f_Proto, .int .u16 rv1.f_Key.f_SrcPort, .int .u16 rv1.f_Key.f_DstPort, .int .u64 rv1.f_Packets, .int .u64 rv1.f_Bytes, .int .u64 rv1.f_First, .int .u64 rv1.f_Last, .int .u8 rv1.f_Flags, .int .u8 rv1.f_Reason, .int .u8 rv1.f_Class]] w (fun v w' => v = .agg #[.bool r.f_Key.f_Src.f_Six, .int .u8 (List.getD r.f_Key.f_Src.f_B 0 0), .int .u8 (List.getD r.f_Key.f_Src.f_B 1 0), .int .u8 (List.getD r.f_Key.f_Src.f_B 2 0), .int .u8 (List.getD r.f_Key.f_Src.f_B 3 0), .int .u8 (List.getD r.f_Key.f_Src.f_B 4 0), .int .u8 (List.getD r.f_Key.f_Src.f_B 5 0), .int .u8 (List.getD r.f_Key.f_Src.f_B 6 0), .int .u8 (List.getD r.f_Key.f_Src.f_B 7 0), .int .u8 (List.getD r.f_Key.f_Src.f_B 8 0), .int .u8 (List.getD r.f_Key.f_Src.f_B 9 0), .int .u8 (List.getD r.f_Key.f_Src.f_B 10 0), .int .u8 (List.getD r.f_Key.f_Src.f_B 11 0), .int .u8 (List.getD r.f_Key.f_Src.f_B 12 0), .int .u8 (List.getD r.f_Key.f_Src.f_B 13 0), .int .u8 (List.getD r.f_Key.f_Src.f_B 14 0), .int .u8 (List.getD r.f_Key.f_Src.f_B 15 0), .bool r.f_Key.f_Dst.f_Six, .int .u8 (List.getD r.f_Key.f_Dst.f_B 0 0), .int .u8 (List.getD r.f_Key.f_Dst.f_B 1 0), .int .u8 (List.getD r.f_Key.f_Dst.f_B 2 0), .int .u8 (List.getD r.f_Key.f_Dst.f_B 3 0), .int .u8 (List.getD r.f_Key.f_Dst.f_B 4 0), .int .u8 (List.getD r.f_Key.f_Dst.f_B 5 0), .int .u8 (List.getD r.f_Key.f_Dst.f_B 6 0), .int .u8 (List.getD r.f_Key.f_Dst.f_B 7 0), .int .u8 (List.getD r.f_Key.f_Dst.f_B 8 0), .int .u8 (List.getD r.f_Key.f_Dst.f_B 9 0), .int .u8 (List.getD r.f_Key.f_Dst.f_B 10 0), .int .u8 (List.getD r.f_Key.f_Dst.f_B 11 0), .int .u8 (List.getD r.f_Key.f_Dst.f_B 12 0), .int .u8 (List.getD r.f_Key.f_Dst.f_B 13 0), .int .u8 (List.getD r.f_Key.f_Dst.f_B 14 0), .int .u8 (List.getD r.f_Key.f_Dst.f_B 15 0), .int .u8 r.f_Key.f_Proto, .int .u16 r.f_Key.f_SrcPort, .int .u16 r.f_Key.f_DstPort, .int .u64 r.f_Packets, .int .u64 r.f_Bytes, .int .u64 r.f_First, .int .u64 r.f_Last, .int .u8 r.f_Flags, .int .u8 r.f_Reason, .int .u8 r.f_Class] ∧ Mem w [] w' []) := by
  refine calls_KC Try.func11 rfl Try.ntmps11 rfl ?_
  have hM := Mem.init w
  unfold F_docs_Record at hF
  refine KC.seq ?_
  refine KC.region ?_
  refine RL.eff (E.box (vs := [.bool rv1.f_Key.f_Src.f_Six, .int .u8 (List.getD rv1.f_Key.f_Src.f_B 0 0), .int .u8 (List.getD rv1.f_Key.f_Src.f_B 1 0), .int .u8 (List.getD rv1.f_Key.f_Src.f_B 2 0), .int .u8 (List.getD rv1.f_Key.f_Src.f_B 3 0), .int .u8 (List.getD rv1.f_Key.f_Src.f_B 4 0), .int .u8 (List.getD rv1.f_Key.f_Src.f_B 5 0), .int .u8 (List.getD rv1.f_Key.f_Src.f_B 6 0), .int .u8 (List.getD rv1.f_Key.f_Src.f_B 7 0), .int .u8 (List.getD rv1.f_Key.f_Src.f_B 8 0), .int .u8 (List.getD rv1.f_Key.f_Src.f_B 9 0), .int .u8 (List.getD rv1.f_Key.f_Src.f_B 10 0), .int .u8 (List.getD rv1.f_Key.f_Src.f_B 11 0), .int .u8 (List.getD rv1.f_Key.f_Src.f_B 12 0), .int .u8 (List.getD rv1.f_Key.f_Src.f_B 13 0), .int .u8 (List.getD rv1.f_Key.f_Src.f_B 14 0), .int .u8 (List.getD rv1.f_Key.f_Src.f_B 15 0), .bool rv1.f_Key.f_Dst.f_Six, .int .u8 (List.getD rv1.f_Key.f_Dst.f_B 0 0), .int .u8 (List.getD rv1.f_Key.f_Dst.f_B 1 0), .int .u8 (List.getD rv1.f_Key.f_Dst.f_B 2 0), .int .u8 (List.getD rv1.f_Key.f_Dst.f_B 3 0), .int .u8 (List.getD rv1.f_Key.f_Dst.f_B 4 0), .int .u8 (List.getD rv1.f_Key.f_Dst.f_B 5 0), .int .u8 (List.getD rv1.f_Key.f_Dst.f_B 6 0), .int .u8 (List.getD rv1.f_Key.f_Dst.f_B 7 0), .int .u8 (List.getD rv1.f_Key.f_Dst.f_B 8 0), .int .u8 (List.getD rv1.f_Key.f_Dst.f_B 9 0), .int .u8 (List.getD rv1.f_Key.f_Dst.f_B 10 0), .int .u8 (List.getD rv1.f_Key.f_Dst.f_B 11 0), .int .u8 (List.getD rv1.f_Key.f_Dst.f_B 12 0), .int .u8 (List.getD rv1.f_Key.f_Dst.f_B 13 0), .int .u8 (List.getD rv1.f_Key.f_Dst.f_B 14 0), .int .u8 (List.getD rv1.f_Key.f_Dst.f_B 15 0), .int .u8 rv1.f_Key.f_Proto, .int .u16 rv1.f_Key.f_SrcPort, .int .u16 rv1.f_Key.f_DstPort, .int .u64 rv1.f_Packets, .int .u64 rv1.f_Bytes, .int .u64 rv1.f_First, .int .u64 rv1.f_Last, .int .u8 rv1.f_Flags, .int .u8 rv1.f_Reason, .int .u8 rv1.f_Class]) hM rfl rfl) rfl fun v w3 hv => ?_
  clear hM
  obtain ⟨g2, rfl, hM, hf⟩ := hv
  refine RL.eff (E.alloc hM ze47) rfl fun v w6 hv => ?_
  clear hM
  obtain ⟨g5, rfl, hM, hf⟩ := hv
  refine RL.nil ?_
  refine KQ.then_n ?_
  refine KC.seq ?_
  replace hM := hM.drewN 1
  refine KC.draw [] [18] [2, 18] [0, 3, 5, 7, 9, 11, 13, 15] (.ofList [0, 1, 3, 4, 5, 6, 7, 8, 9, 10, 11, 12, 13, 14, 15, 16, 2, 17, 18]) moP (by kernel_rfl) ?_
  refine RD.p rfl rfl rfl rfl (fun w' => O.fldA fl35_0 (by decide) rfl) ?_
  refine RD.q rfl rfl rfl rfl (fun w' hf => O.loadN (cs := [.bool rv1.f_Key.f_Src.f_Six, .int .u8 (List.getD rv1.f_Key.f_Src.f_B 0 0), .int .u8 (List.getD rv1.f_Key.f_Src.f_B 1 0), .int .u8 (List.getD rv1.f_Key.f_Src.f_B 2 0), .int .u8 (List.getD rv1.f_Key.f_Src.f_B 3 0), .int .u8 (List.getD rv1.f_Key.f_Src.f_B 4 0), .int .u8 (List.getD rv1.f_Key.f_Src.f_B 5 0), .int .u8 (List.getD rv1.f_Key.f_Src.f_B 6 0), .int .u8 (List.getD rv1.f_Key.f_Src.f_B 7 0), .int .u8 (List.getD rv1.f_Key.f_Src.f_B 8 0), .int .u8 (List.getD rv1.f_Key.f_Src.f_B 9 0), .int .u8 (List.getD rv1.f_Key.f_Src.f_B 10 0), .int .u8 (List.getD rv1.f_Key.f_Src.f_B 11 0), .int .u8 (List.getD rv1.f_Key.f_Src.f_B 12 0), .int .u8 (List.getD rv1.f_Key.f_Src.f_B 13 0), .int .u8 (List.getD rv1.f_Key.f_Src.f_B 14 0), .int .u8 (List.getD rv1.f_Key.f_Src.f_B 15 0), .bool rv1.f_Key.f_Dst.f_Six, .int .u8 (List.getD rv1.f_Key.f_Dst.f_B 0 0), .int .u8 (List.getD rv1.f_Key.f_Dst.f_B 1 0), .int .u8 (List.getD rv1.f_Key.f_Dst.f_B 2 0), .int .u8 (List.getD rv1.f_Key.f_Dst.f_B 3 0), .int .u8 (List.getD rv1.f_Key.f_Dst.f_B 4 0), .int .u8 (List.getD rv1.f_Key.f_Dst.f_B 5 0), .int .u8 (List.getD rv1.f_Key.f_Dst.f_B 6 0), .int .u8 (List.getD rv1.f_Key.f_Dst.f_B 7 0), .int .u8 (List.getD rv1.f_Key.f_Dst.f_B 8 0), .int .u8 (List.getD rv1.f_Key.f_Dst.f_B 9 0), .int .u8 (List.getD rv1.f_Key.f_Dst.f_B 10 0), .int .u8 (List.getD rv1.f_Key.f_Dst.f_B 11 0), .int .u8 (List.getD rv1.f_Key.f_Dst.f_B 12 0), .int .u8 (List.getD rv1.f_Key.f_Dst.f_B 13 0), .int .u8 (List.getD rv1.f_Key.f_Dst.f_B 14 0), .int .u8 (List.getD rv1.f_Key.f_Dst.f_B 15 0), .int .u8 rv1.f_Key.f_Proto, .int .u16 rv1.f_Key.f_SrcPort, .int .u16 rv1.f_Key.f_DstPort]) ag27 rfl (Cs.addsN [0] ((hM.bx (i := 0) rfl).fut hf) rfl)) ?_
  refine RD.p rfl rfl rfl rfl (fun w' => O.fldA fl35_1 (by decide) rfl) ?_
  refine RD.q rfl rfl rfl rfl (fun w' hf => O.load sc30 rfl (Cs.adds [37] ((hM.bx (i := 0) rfl).fut hf) rfl)) ?_
  refine RD.p rfl rfl rfl rfl (fun w' => O.fldA fl35_2 (by decide) rfl) ?_
  refine RD.q rfl rfl rfl rfl (fun w' hf => O.load sc30 rfl (Cs.adds [38] ((hM.bx (i := 0) rfl).fut hf) rfl)) ?_
  refine RD.p rfl rfl rfl rfl (fun w' => O.fldA fl35_3 (by decide) rfl) ?_
  refine RD.q rfl rfl rfl rfl (fun w' hf => O.load sc30 rfl (Cs.adds [39] ((hM.bx (i := 0) rfl).fut hf) rfl)) ?_
  refine RD.p rfl rfl rfl rfl (fun w' => O.fldA fl35_4 (by decide) rfl) ?_
  refine RD.q rfl rfl rfl rfl (fun w' hf => O.load sc30 rfl (Cs.adds [40] ((hM.bx (i := 0) rfl).fut hf) rfl)) ?_
  refine RD.p rfl rfl rfl rfl (fun w' => O.fldA fl35_5 (by decide) rfl) ?_
  refine RD.q rfl rfl rfl rfl (fun w' hf => O.load sc5 rfl (Cs.adds [41] ((hM.bx (i := 0) rfl).fut hf) rfl)) ?_
  refine RD.p rfl rfl rfl rfl (fun w' => O.fldA fl35_6 (by decide) rfl) ?_
  refine RD.q rfl rfl rfl rfl (fun w' hf => O.load sc5 rfl (Cs.adds [42] ((hM.bx (i := 0) rfl).fut hf) rfl)) ?_
  refine RD.p rfl rfl rfl rfl (fun w' => O.fldA fl35_7 (by decide) rfl) ?_
  refine RD.q rfl rfl rfl rfl (fun w' hf => O.load sc5 rfl (Cs.adds [43] ((hM.bx (i := 0) rfl).fut hf) rfl)) ?_
  refine obindE hF fun y8 hx9 hF => ?_
  refine RD.mcall rfl rfl trivial Try.func15 bd15 rfl rfl (c_docs_Key _ rv1.f_Key _ hx9) fun v w10 hv => ?_
  obtain ⟨rfl, hN11⟩ := hv
  refine ⟨fun _ => hN11.fut, ?_⟩
  replace hM := hM.call0 hN11
  refine RD.q rfl rfl rfl rfl (fun w' hf => O.bld (cs := [.bool y8.f_Src.f_Six, .int .u8 (List.getD y8.f_Src.f_B 0 0), .int .u8 (List.getD y8.f_Src.f_B 1 0), .int .u8 (List.getD y8.f_Src.f_B 2 0), .int .u8 (List.getD y8.f_Src.f_B 3 0), .int .u8 (List.getD y8.f_Src.f_B 4 0), .int .u8 (List.getD y8.f_Src.f_B 5 0), .int .u8 (List.getD y8.f_Src.f_B 6 0), .int .u8 (List.getD y8.f_Src.f_B 7 0), .int .u8 (List.getD y8.f_Src.f_B 8 0), .int .u8 (List.getD y8.f_Src.f_B 9 0), .int .u8 (List.getD y8.f_Src.f_B 10 0), .int .u8 (List.getD y8.f_Src.f_B 11 0), .int .u8 (List.getD y8.f_Src.f_B 12 0), .int .u8 (List.getD y8.f_Src.f_B 13 0), .int .u8 (List.getD y8.f_Src.f_B 14 0), .int .u8 (List.getD y8.f_Src.f_B 15 0), .bool y8.f_Dst.f_Six, .int .u8 (List.getD y8.f_Dst.f_B 0 0), .int .u8 (List.getD y8.f_Dst.f_B 1 0), .int .u8 (List.getD y8.f_Dst.f_B 2 0), .int .u8 (List.getD y8.f_Dst.f_B 3 0), .int .u8 (List.getD y8.f_Dst.f_B 4 0), .int .u8 (List.getD y8.f_Dst.f_B 5 0), .int .u8 (List.getD y8.f_Dst.f_B 6 0), .int .u8 (List.getD y8.f_Dst.f_B 7 0), .int .u8 (List.getD y8.f_Dst.f_B 8 0), .int .u8 (List.getD y8.f_Dst.f_B 9 0), .int .u8 (List.getD y8.f_Dst.f_B 10 0), .int .u8 (List.getD y8.f_Dst.f_B 11 0), .int .u8 (List.getD y8.f_Dst.f_B 12 0), .int .u8 (List.getD y8.f_Dst.f_B 13 0), .int .u8 (List.getD y8.f_Dst.f_B 14 0), .int .u8 (List.getD y8.f_Dst.f_B 15 0), .int .u8 y8.f_Proto, .int .u16 y8.f_SrcPort, .int .u16 y8.f_DstPort, .int .u64 rv1.f_Packets, .int .u64 rv1.f_Bytes, .int .u64 rv1.f_First, .int .u64 rv1.f_Last, .int .u8 rv1.f_Flags, .int .u8 rv1.f_Reason, .int .u8 rv1.f_Class]) bt47 rfl (by kernel_rfl)) ?_
  refine RD.meffs rfl rfl rfl (E.stB (j := 1) (off := 0) (vs := [.bool y8.f_Src.f_Six, .int .u8 (List.getD y8.f_Src.f_B 0 0), .int .u8 (List.getD y8.f_Src.f_B 1 0), .int .u8 (List.getD y8.f_Src.f_B 2 0), .int .u8 (List.getD y8.f_Src.f_B 3 0), .int .u8 (List.getD y8.f_Src.f_B 4 0), .int .u8 (List.getD y8.f_Src.f_B 5 0), .int .u8 (List.getD y8.f_Src.f_B 6 0), .int .u8 (List.getD y8.f_Src.f_B 7 0), .int .u8 (List.getD y8.f_Src.f_B 8 0), .int .u8 (List.getD y8.f_Src.f_B 9 0), .int .u8 (List.getD y8.f_Src.f_B 10 0), .int .u8 (List.getD y8.f_Src.f_B 11 0), .int .u8 (List.getD y8.f_Src.f_B 12 0), .int .u8 (List.getD y8.f_Src.f_B 13 0), .int .u8 (List.getD y8.f_Src.f_B 14 0), .int .u8 (List.getD y8.f_Src.f_B 15 0), .bool y8.f_Dst.f_Six, .int .u8 (List.getD y8.f_Dst.f_B 0 0), .int .u8 (List.getD y8.f_Dst.f_B 1 0), .int .u8 (List.getD y8.f_Dst.f_B 2 0), .int .u8 (List.getD y8.f_Dst.f_B 3 0), .int .u8 (List.getD y8.f_Dst.f_B 4 0), .int .u8 (List.getD y8.f_Dst.f_B 5 0), .int .u8 (List.getD y8.f_Dst.f_B 6 0), .int .u8 (List.getD y8.f_Dst.f_B 7 0), .int .u8 (List.getD y8.f_Dst.f_B 8 0), .int .u8 (List.getD y8.f_Dst.f_B 9 0), .int .u8 (List.getD y8.f_Dst.f_B 10 0), .int .u8 (List.getD y8.f_Dst.f_B 11 0), .int .u8 (List.getD y8.f_Dst.f_B 12 0), .int .u8 (List.getD y8.f_Dst.f_B 13 0), .int .u8 (List.getD y8.f_Dst.f_B 14 0), .int .u8 (List.getD y8.f_Dst.f_B 15 0), .int .u8 y8.f_Proto, .int .u16 y8.f_SrcPort, .int .u16 y8.f_DstPort, .int .u64 rv1.f_Packets, .int .u64 rv1.f_Bytes, .int .u64 rv1.f_First, .int .u64 rv1.f_Last, .int .u8 rv1.f_Flags, .int .u8 rv1.f_Reason, .int .u8 rv1.f_Class]) (cs' := [.bool y8.f_Src.f_Six, .int .u8 (List.getD y8.f_Src.f_B 0 0), .int .u8 (List.getD y8.f_Src.f_B 1 0), .int .u8 (List.getD y8.f_Src.f_B 2 0), .int .u8 (List.getD y8.f_Src.f_B 3 0), .int .u8 (List.getD y8.f_Src.f_B 4 0), .int .u8 (List.getD y8.f_Src.f_B 5 0), .int .u8 (List.getD y8.f_Src.f_B 6 0), .int .u8 (List.getD y8.f_Src.f_B 7 0), .int .u8 (List.getD y8.f_Src.f_B 8 0), .int .u8 (List.getD y8.f_Src.f_B 9 0), .int .u8 (List.getD y8.f_Src.f_B 10 0), .int .u8 (List.getD y8.f_Src.f_B 11 0), .int .u8 (List.getD y8.f_Src.f_B 12 0), .int .u8 (List.getD y8.f_Src.f_B 13 0), .int .u8 (List.getD y8.f_Src.f_B 14 0), .int .u8 (List.getD y8.f_Src.f_B 15 0), .bool y8.f_Dst.f_Six, .int .u8 (List.getD y8.f_Dst.f_B 0 0), .int .u8 (List.getD y8.f_Dst.f_B 1 0), .int .u8 (List.getD y8.f_Dst.f_B 2 0), .int .u8 (List.getD y8.f_Dst.f_B 3 0), .int .u8 (List.getD y8.f_Dst.f_B 4 0), .int .u8 (List.getD y8.f_Dst.f_B 5 0), .int .u8 (List.getD y8.f_Dst.f_B 6 0), .int .u8 (List.getD y8.f_Dst.f_B 7 0), .int .u8 (List.getD y8.f_Dst.f_B 8 0), .int .u8 (List.getD y8.f_Dst.f_B 9 0), .int .u8 (List.getD y8.f_Dst.f_B 10 0), .int .u8 (List.getD y8.f_Dst.f_B 11 0), .int .u8 (List.getD y8.f_Dst.f_B 12 0), .int .u8 (List.getD y8.f_Dst.f_B 13 0), .int .u8 (List.getD y8.f_Dst.f_B 14 0), .int .u8 (List.getD y8.f_Dst.f_B 15 0), .int .u8 y8.f_Proto, .int .u16 y8.f_SrcPort, .int .u16 y8.f_DstPort, .int .u64 rv1.f_Packets, .int .u64 rv1.f_Bytes, .int .u64 rv1.f_First, .int .u64 rv1.f_Last, .int .u8 rv1.f_Flags, .int .u8 rv1.f_Reason, .int .u8 rv1.f_Class]) hM rfl sz47 rfl (adds_eq [] rfl) rfl rfl (One.all rfl) rfl rfl) fun w12 hM1 => ?_
  clear hM
  have hM := hM1
  clear hM1
  refine RD.nil ?_
  refine KQ.then_n ?_
  refine KC.ret ?_
  obtain rfl := Option.some.inj hF
  have hb13 := hM.bx (i := 1) rfl
  replace hM := hM.pick [] rfl (by decide)
  refine KQ.rets Try.results11 (RVs.cons (RV.cN (cs := [.bool y8.f_Src.f_Six, .int .u8 (List.getD y8.f_Src.f_B 0 0), .int .u8 (List.getD y8.f_Src.f_B 1 0), .int .u8 (List.getD y8.f_Src.f_B 2 0), .int .u8 (List.getD y8.f_Src.f_B 3 0), .int .u8 (List.getD y8.f_Src.f_B 4 0), .int .u8 (List.getD y8.f_Src.f_B 5 0), .int .u8 (List.getD y8.f_Src.f_B 6 0), .int .u8 (List.getD y8.f_Src.f_B 7 0), .int .u8 (List.getD y8.f_Src.f_B 8 0), .int .u8 (List.getD y8.f_Src.f_B 9 0), .int .u8 (List.getD y8.f_Src.f_B 10 0), .int .u8 (List.getD y8.f_Src.f_B 11 0), .int .u8 (List.getD y8.f_Src.f_B 12 0), .int .u8 (List.getD y8.f_Src.f_B 13 0), .int .u8 (List.getD y8.f_Src.f_B 14 0), .int .u8 (List.getD y8.f_Src.f_B 15 0), .bool y8.f_Dst.f_Six, .int .u8 (List.getD y8.f_Dst.f_B 0 0), .int .u8 (List.getD y8.f_Dst.f_B 1 0), .int .u8 (List.getD y8.f_Dst.f_B 2 0), .int .u8 (List.getD y8.f_Dst.f_B 3 0), .int .u8 (List.getD y8.f_Dst.f_B 4 0), .int .u8 (List.getD y8.f_Dst.f_B 5 0), .int .u8 (List.getD y8.f_Dst.f_B 6 0), .int .u8 (List.getD y8.f_Dst.f_B 7 0), .int .u8 (List.getD y8.f_Dst.f_B 8 0), .int .u8 (List.getD y8.f_Dst.f_B 9 0), .int .u8 (List.getD y8.f_Dst.f_B 10 0), .int .u8 (List.getD y8.f_Dst.f_B 11 0), .int .u8 (List.getD y8.f_Dst.f_B 12 0), .int .u8 (List.getD y8.f_Dst.f_B 13 0), .int .u8 (List.getD y8.f_Dst.f_B 14 0), .int .u8 (List.getD y8.f_Dst.f_B 15 0), .int .u8 y8.f_Proto, .int .u16 y8.f_SrcPort, .int .u16 y8.f_DstPort, .int .u64 rv1.f_Packets, .int .u64 rv1.f_Bytes, .int .u64 rv1.f_First, .int .u64 rv1.f_Last, .int .u8 rv1.f_Flags, .int .u8 rv1.f_Reason, .int .u8 rv1.f_Class]) rfl ag47 hb13) RVs.nil) ?_
  exact ⟨_, rfl, rfl, hM⟩
set_option maxRecDepth 100000 in
set_option maxHeartbeats 40000000 in
theorem c_ref04_Right (w : World) (av1 : T_addr_Addr) (r : Bool) (hF : F_ref04_Right av1 = some r) :
    CallsR Try.prog 42 [.agg #[.bool av1.f_Six, .int .u8 (List.getD av1.f_B 0 0), .int .u8 (List.getD av1.f_B 1 0), .int .u8 (List.getD av1.f_B 2 0), .int .u8 (List.getD av1.f_B 3 0), .int .u8 (List.getD av1.f_B 4 0), .int .u8 (List.getD av1.f_B 5 0), .int .u8 (List.getD av1.f_B 6 0), .int .u8 (List.getD av1.f_B 7 0), .int .u8 (List.getD av1.f_B 8 0), .int .u8 (List.getD av1.f_B 9 0), .int .u8 (List.getD av1.f_B 10 0), .int .u8 (List.getD av1.f_B 11 0), .int .u8 (List.getD av1.f_B 12 0), .int .u8 (List.getD av1.f_B 13 0), .int .u8 (List.getD av1.f_B 14 0), .int .u8 (List.getD av1.f_B 15 0)]] w (fun v w' => v = .bool r ∧ Mem w [] w' []) := by
  refine calls_KC Try.func42 rfl Try.ntmps42 rfl ?_
  have hM := Mem.init w
  unfold F_ref04_Right at hF
  refine KC.seq ?_
  refine KC.region ?_
  refine RL.eff (E.box (vs := [.bool av1.f_Six, .int .u8 (List.getD av1.f_B 0 0), .int .u8 (List.getD av1.f_B 1 0), .int .u8 (List.getD av1.f_B 2 0), .int .u8 (List.getD av1.f_B 3 0), .int .u8 (List.getD av1.f_B 4 0), .int .u8 (List.getD av1.f_B 5 0), .int .u8 (List.getD av1.f_B 6 0), .int .u8 (List.getD av1.f_B 7 0), .int .u8 (List.getD av1.f_B 8 0), .int .u8 (List.getD av1.f_B 9 0), .int .u8 (List.getD av1.f_B 10 0), .int .u8 (List.getD av1.f_B 11 0), .int .u8 (List.getD av1.f_B 12 0), .int .u8 (List.getD av1.f_B 13 0), .int .u8 (List.getD av1.f_B 14 0), .int .u8 (List.getD av1.f_B 15 0)]) hM rfl rfl) rfl fun v w3 hv => ?_
  clear hM
  obtain ⟨g2, rfl, hM, hf⟩ := hv
  refine RL.val (O.assign rfl) rfl ?_
  refine RL.nil ?_
  refine KQ.then_n ?_
  refine KC.seq ?_
  refine KC.seq ?_
  refine KC.region ?_
  refine RL.val (O.assign rfl) rfl ?_
  refine RL.nil ?_
  refine KQ.then_n ?_
  refine KC.block ?_
  refine KC.loop (fun k21 a w19 => ∃ (i18 : Int), Kn 18 [(1, .pointer (some ⟨g2, 0, none⟩)), (3, .int .i64 i18)] a ∧ Mem w [] w19 [.box g2 43 [.bool av1.f_Six, .int .u8 (List.getD av1.f_B 0 0), .int .u8 (List.getD av1.f_B 1 0), .int .u8 (List.getD av1.f_B 2 0), .int .u8 (List.getD av1.f_B 3 0), .int .u8 (List.getD av1.f_B 4 0), .int .u8 (List.getD av1.f_B 5 0), .int .u8 (List.getD av1.f_B 6 0), .int .u8 (List.getD av1.f_B 7 0), .int .u8 (List.getD av1.f_B 8 0), .int .u8 (List.getD av1.f_B 9 0), .int .u8 (List.getD av1.f_B 10 0), .int .u8 (List.getD av1.f_B 11 0), .int .u8 (List.getD av1.f_B 12 0), .int .u8 (List.getD av1.f_B 13 0), .int .u8 (List.getD av1.f_B 14 0), .int .u8 (List.getD av1.f_B 15 0)]] ∧ F_ref04_Right_L1 av1 k21 i18 = some r) ?_ ?_
  · exact fun a ha => ⟨fuel0, 4, ha.less (less_cons rfl (less_cons rfl less_nil)), hM, hF⟩
  · rintro k21 a w19 ⟨i18, ha, hM, hF⟩
    refine KC.app ha ?_
    clear ha
    cases k21 with
    | zero => exact (none_some hF).elim
    | succ k21 =>
    have hF : F_ref04_Right_l1 (F_ref04_Right_L1 av1 k21) av1 i18 = some r := hF
    unfold F_ref04_Right_l1 at hF
    refine KC.seq ?_
    refine KC.seq ?_
    refine KC.region ?_
    refine RL.val (O.move rfl) rfl ?_
    refine RL.val (O.lss rfl rfl) rfl ?_
    refine RL.nil ?_
    refine KQ.then_n ?_
    refine KC.cond rfl (fun hc => ?_) (fun hc => ?_)
    · rw [if_pos hc] at hF
      refine KC.skip ?_
      refine KQ.then_n ?_
      refine KC.seq ?_
      refine KC.block ?_
      refine KC.cut (fun a w26 => ∃ (t25 : Bool), Kn 18 [(1, .pointer (some ⟨g2, 0, none⟩)), (3, .int .i64 i18), (17, .bool t25)] a ∧ Mem w [] w26 [.box g2 43 [.bool av1.f_Six, .int .u8 (List.getD av1.f_B 0 0), .int .u8 (List.getD av1.f_B 1 0), .int .u8 (List.getD av1.f_B 2 0), .int .u8 (List.getD av1.f_B 3 0), .int .u8 (List.getD av1.f_B 4 0), .int .u8 (List.getD av1.f_B 5 0), .int .u8 (List.getD av1.f_B 6 0), .int .u8 (List.getD av1.f_B 7 0), .int .u8 (List.getD av1.f_B 8 0), .int .u8 (List.getD av1.f_B 9 0), .int .u8 (List.getD av1.f_B 10 0), .int .u8 (List.getD av1.f_B 11 0), .int .u8 (List.getD av1.f_B 12 0), .int .u8 (List.getD av1.f_B 13 0), .int .u8 (List.getD av1.f_B 14 0), .int .u8 (List.getD av1.f_B 15 0)]] ∧ F_ref04_Right_j1 i18 (F_ref04_Right_L1 av1 k21) t25 = some r) ?_ ?_
      · refine KC.region ?_
        refine RL.val (O.fldA fl43_0 (by decide) rfl) rfl ?_
        refine RL.val (O.load sc4 rfl (Cs.adds [0] ((hM.bx (i := 0) rfl)) rfl)) rfl ?_
        refine RL.val (O.not rfl) rfl ?_
        refine RL.val (O.move rfl) rfl ?_
        refine RL.bcase (t := 11) rfl (fun hc => ?_) (fun hc => ?_)
        · rw [if_pos hc] at hF
          refine RL.gval rfl rfl (O.move rfl) rfl ?_
          refine RL.gval rfl rfl (O.fldA fl43_1 (by decide) rfl) rfl ?_
          refine obindE hF fun xv23 hx22 hF => ?_
          refine RL.gval rfl rfl (O.idxP Try.underlying22 sz5 hx22 rfl rfl) rfl ?_
          refine RL.gval rfl rfl (O.load sc5 rfl (Cs.arrAt [1] ((hM.bx (i := 0) rfl)) rfl hx22)) rfl ?_
          refine RL.gval rfl rfl (O.neq rfl rfl) rfl ?_
          refine RL.val (O.pickt rfl rfl) rfl ?_
          refine RL.nil ?_
          refine KQ.then_k ?_
          exact fun a ha => ⟨(xv23 != 0), ha.less (less_cons rfl (less_cons rfl (less_cons rfl less_nil))), hM, hF⟩
        · rw [if_neg (ne_true hc)] at hF
          refine RL.gskip rfl rfl rfl rfl ?_
          refine RL.gskip rfl rfl rfl rfl ?_
          refine RL.gskip rfl rfl rfl rfl ?_
          refine RL.gskip rfl rfl rfl rfl ?_
          refine RL.gskip rfl rfl rfl rfl ?_
          refine RL.val (O.pickf rfl rfl) rfl ?_
          refine RL.nil ?_
          refine KQ.then_k ?_
          exact fun a ha => ⟨false, ha.less (less_cons rfl (less_cons rfl (less_cons rfl less_nil))), hM, hF⟩
      · rintro a w26 ⟨t25, ha, hM, hF⟩
        refine KC.app ha ?_
        clear ha
        unfold F_ref04_Right_j1 at hF
        refine KC.cond rfl (fun hc => ?_) (fun hc => ?_)
        · rw [if_pos hc] at hF
          refine KC.seq ?_
          refine KC.region ?_
          refine RL.val (O.assign rfl) rfl ?_
          refine RL.nil ?_
          refine KQ.then_n ?_
          refine KC.ret ?_
          refine KQ.blk_r ?_
          refine KQ.then_r ?_
          refine KQ.then_r ?_
          refine KQ.blk_r ?_
          refine KQ.then_r ?_
          obtain rfl := Option.some.inj hF
          replace hM := hM.pick [] rfl (by decide)
          refine KQ.rets Try.results42 (RVs.cons (RV.tm rfl) RVs.nil) ?_
          exact ⟨_, rfl, rfl, hM⟩
        · rw [if_neg (ne_true hc)] at hF
          refine KC.skip ?_
          refine KQ.blk_n ?_
          refine KQ.then_n ?_
          refine KC.region ?_
          refine RL.val (O.move rfl) rfl ?_
          refine RL.val (O.add rfl rfl) rfl ?_
          refine RL.val (O.assign rfl) rfl ?_
          refine RL.nil ?_
          refine KQ.then_k ?_
          exact fun a ha => ⟨k21, Nat.lt_succ_self k21, (IntKind.i64.wrap (i18 + 1)), ha.less (less_cons rfl (less_cons rfl less_nil)), hM, hF⟩
    · rw [if_neg (ne_true hc)] at hF
      refine KC.exit ?_
      refine KQ.then_x ?_
      refine KQ.then_x ?_
      refine KQ.blk_x ?_
      refine KQ.then_n ?_
      refine KC.seq ?_
      refine KC.region ?_
      refine RL.val (O.assign rfl) rfl ?_
      refine RL.nil ?_
      refine KQ.then_n ?_
      refine KC.ret ?_
      obtain rfl := Option.some.inj hF
      replace hM := hM.pick [] rfl (by decide)
      refine KQ.rets Try.results42 (RVs.cons (RV.tm rfl) RVs.nil) ?_
      exact ⟨_, rfl, rfl, hM⟩
set_option maxRecDepth 100000 in
set_option maxHeartbeats 40000000 in
theorem c_ref08_ports (w : World) (proto1 : Int) (r : Bool) (hF : F_ref08_ports proto1 = some r) :
    CallsR Try.prog 43 [.int .u8 proto1] w (fun v w' => v = .bool r ∧ Mem w [] w' []) := by
  refine calls_KC Try.func43 rfl Try.ntmps43 rfl ?_
  have hM := Mem.init w
  unfold F_ref08_ports at hF
  refine KC.seq ?_
  refine KC.region ?_
  refine RL.val (O.assign rfl) rfl ?_
  refine RL.nil ?_
  refine KQ.then_n ?_
  refine KC.cut (fun a w3 => ∃ (t2 : Bool), Kn 9 [(2, .bool t2)] a ∧ Mem w [] w3 [] ∧ F_ref08_ports_j1 t2 = some r) ?_ ?_
  · refine KC.region ?_
    refine RL.val (O.move rfl) rfl ?_
    refine RL.val (O.eql rfl rfl) rfl ?_
    refine RL.val (O.move rfl) rfl ?_
    refine RL.bcase (t := 5) rfl (fun hc => ?_) (fun hc => ?_)
    · rw [if_pos hc] at hF
      refine RL.gskip rfl rfl rfl rfl ?_
      refine RL.gskip rfl rfl rfl rfl ?_
      refine RL.val (O.pickt rfl rfl) rfl ?_
      refine RL.val (O.assign rfl) rfl ?_
      refine RL.nil ?_
      refine KQ.then_k ?_
      exact fun a ha => ⟨true, ha.less (less_cons rfl less_nil), hM, hF⟩
    · rw [if_neg (ne_true hc)] at hF
      refine RL.gval rfl rfl (O.move rfl) rfl ?_
      refine RL.gval rfl rfl (O.eql rfl rfl) rfl ?_
      refine RL.val (O.pickf rfl rfl) rfl ?_
      refine RL.val (O.assign rfl) rfl ?_
      refine RL.nil ?_
      refine KQ.then_k ?_
      exact fun a ha => ⟨(proto1 == 17), ha.less (less_cons rfl less_nil), hM, hF⟩
  · rintro a w3 ⟨t2, ha, hM, hF⟩
    refine KC.app ha ?_
    clear ha
    unfold F_ref08_ports_j1 at hF
    refine KC.ret ?_
    obtain rfl := Option.some.inj hF
    refine KQ.rets Try.results43 (RVs.cons (RV.tm rfl) RVs.nil) ?_
    exact ⟨_, rfl, rfl, hM⟩
set_option maxRecDepth 100000 in
set_option maxHeartbeats 40000000 in
theorem c_ref08_icmp (w : World) (proto1 : Int) (r : Bool) (hF : F_ref08_icmp proto1 = some r) :
    CallsR Try.prog 44 [.int .u8 proto1] w (fun v w' => v = .bool r ∧ Mem w [] w' []) := by
  refine calls_KC Try.func44 rfl Try.ntmps44 rfl ?_
  have hM := Mem.init w
  unfold F_ref08_icmp at hF
  refine KC.seq ?_
  refine KC.region ?_
  refine RL.val (O.assign rfl) rfl ?_
  refine RL.nil ?_
  refine KQ.then_n ?_
  refine KC.cut (fun a w3 => ∃ (t2 : Bool), Kn 9 [(2, .bool t2)] a ∧ Mem w [] w3 [] ∧ F_ref08_icmp_j1 t2 = some r) ?_ ?_
  · refine KC.region ?_
    refine RL.val (O.move rfl) rfl ?_
    refine RL.val (O.eql rfl rfl) rfl ?_
    refine RL.val (O.move rfl) rfl ?_
    refine RL.bcase (t := 5) rfl (fun hc => ?_) (fun hc => ?_)
    · rw [if_pos hc] at hF
      refine RL.gskip rfl rfl rfl rfl ?_
      refine RL.gskip rfl rfl rfl rfl ?_
      refine RL.val (O.pickt rfl rfl) rfl ?_
      refine RL.val (O.assign rfl) rfl ?_
      refine RL.nil ?_
      refine KQ.then_k ?_
      exact fun a ha => ⟨true, ha.less (less_cons rfl less_nil), hM, hF⟩
    · rw [if_neg (ne_true hc)] at hF
      refine RL.gval rfl rfl (O.move rfl) rfl ?_
      refine RL.gval rfl rfl (O.eql rfl rfl) rfl ?_
      refine RL.val (O.pickf rfl rfl) rfl ?_
      refine RL.val (O.assign rfl) rfl ?_
      refine RL.nil ?_
      refine KQ.then_k ?_
      exact fun a ha => ⟨(proto1 == 58), ha.less (less_cons rfl less_nil), hM, hF⟩
  · rintro a w3 ⟨t2, ha, hM, hF⟩
    refine KC.app ha ?_
    clear ha
    unfold F_ref08_icmp_j1 at hF
    refine KC.ret ?_
    obtain rfl := Option.some.inj hF
    refine KQ.rets Try.results44 (RVs.cons (RV.tm rfl) RVs.nil) ?_
    exact ⟨_, rfl, rfl, hM⟩
set_option maxRecDepth 100000 in
set_option maxHeartbeats 40000000 in
theorem c_ref08_Right (w : World) (kv1 : T_ref08_Key) (r : Bool) (hF : F_ref08_Right kv1 = some r) :
    CallsR Try.prog 31 [.agg #[.bool kv1.f_Src.f_Six, .int .u8 (List.getD kv1.f_Src.f_B 0 0), .int .u8 (List.getD kv1.f_Src.f_B 1 0), .int .u8 (List.getD kv1.f_Src.f_B 2 0), .int .u8 (List.getD kv1.f_Src.f_B 3 0), .int .u8 (List.getD kv1.f_Src.f_B 4 0), .int .u8 (List.getD kv1.f_Src.f_B 5 0), .int .u8 (List.getD kv1.f_Src.f_B 6 0), .int .u8 (List.getD kv1.f_Src.f_B 7 0), .int .u8 (List.getD kv1.f_Src.f_B 8 0), .int .u8 (List.getD kv1.f_Src.f_B 9 0), .int .u8 (List.getD kv1.f_Src.f_B 10 0), .int .u8 (List.getD kv1.f_Src.f_B 11 0), .int .u8 (List.getD kv1.f_Src.f_B 12 0), .int .u8 (List.getD kv1.f_Src.f_B 13 0), .int .u8 (List.getD kv1.f_Src.f_B 14 0), .int .u8 (List.getD kv1.f_Src.f_B 15 0), .bool kv1.f_Dst.f_Six, .int .u8 (List.getD kv1.f_Dst.f_B 0 0), .int .u8 (List.getD kv1.f_Dst.f_B 1 0), .int .u8 (List.getD kv1.f_Dst.f_B 2 0), .int .u8 (List.getD kv1.f_Dst.f_B 3 0), .int .u8 (List.getD kv1.f_Dst.f_B 4 0), .int .u8 (List.getD kv1.f_Dst.f_B 5 0), .int .u8 (List.getD kv1.f_Dst.f_B 6 0), .int .u8 (List.getD kv1.f_Dst.f_B 7 0), .int .u8 (List.getD kv1.f_Dst.f_B 8 0), .int .u8 (List.getD kv1.f_Dst.f_B 9 0), .int .u8 (List.getD kv1.f_Dst.f_B 10 0), .int .u8 (List.getD kv1.f_Dst.f_B 11 0), .int .u8 (List.getD kv1.f_Dst.f_B 12 0), .int .u8 (List.getD kv1.f_Dst.f_B 13 0), .int .u8 (List.getD kv1.f_Dst.f_B 14 0), .int .u8 (List.getD kv1.f_Dst.f_B 15 0), .int .u8 kv1.f_Proto, .int .u16 kv1.f_SrcPort, .int .u16 kv1.f_DstPort]] w (fun v w' => v = .bool r ∧ Mem w [] w' []) := by
  refine calls_KC Try.func31 rfl Try.ntmps31 rfl ?_
  have hM := Mem.init w
  unfold F_ref08_Right at hF
  refine KC.seq ?_
  refine KC.region ?_
  refine RL.eff (E.box (vs := [.bool kv1.f_Src.f_Six, .int .u8 (List.getD kv1.f_Src.f_B 0 0), .int .u8 (List.getD kv1.f_Src.f_B 1 0), .int .u8 (List.getD kv1.f_Src.f_B 2 0), .int .u8 (List.getD kv1.f_Src.f_B 3 0), .int .u8 (List.getD kv1.f_Src.f_B 4 0), .int .u8 (List.getD kv1.f_Src.f_B 5 0), .int .u8 (List.getD kv1.f_Src.f_B 6 0), .int .u8 (List.getD kv1.f_Src.f_B 7 0), .int .u8 (List.getD kv1.f_Src.f_B 8 0), .int .u8 (List.getD kv1.f_Src.f_B 9 0), .int .u8 (List.getD kv1.f_Src.f_B 10 0), .int .u8 (List.getD kv1.f_Src.f_B 11 0), .int .u8 (List.getD kv1.f_Src.f_B 12 0), .int .u8 (List.getD kv1.f_Src.f_B 13 0), .int .u8 (List.getD kv1.f_Src.f_B 14 0), .int .u8 (List.getD kv1.f_Src.f_B 15 0), .bool kv1.f_Dst.f_Six, .int .u8 (List.getD kv1.f_Dst.f_B 0 0), .int .u8 (List.getD kv1.f_Dst.f_B 1 0), .int .u8 (List.getD kv1.f_Dst.f_B 2 0), .int .u8 (List.getD kv1.f_Dst.f_B 3 0), .int .u8 (List.getD kv1.f_Dst.f_B 4 0), .int .u8 (List.getD kv1.f_Dst.f_B 5 0), .int .u8 (List.getD kv1.f_Dst.f_B 6 0), .int .u8 (List.getD kv1.f_Dst.f_B 7 0), .int .u8 (List.getD kv1.f_Dst.f_B 8 0), .int .u8 (List.getD kv1.f_Dst.f_B 9 0), .int .u8 (List.getD kv1.f_Dst.f_B 10 0), .int .u8 (List.getD kv1.f_Dst.f_B 11 0), .int .u8 (List.getD kv1.f_Dst.f_B 12 0), .int .u8 (List.getD kv1.f_Dst.f_B 13 0), .int .u8 (List.getD kv1.f_Dst.f_B 14 0), .int .u8 (List.getD kv1.f_Dst.f_B 15 0), .int .u8 kv1.f_Proto, .int .u16 kv1.f_SrcPort, .int .u16 kv1.f_DstPort]) hM rfl rfl) rfl fun v w3 hv => ?_
  clear hM
  obtain ⟨g2, rfl, hM, hf⟩ := hv
  refine RL.val (O.assign rfl) rfl ?_
  refine RL.nil ?_
  refine KQ.then_n ?_
  refine KC.seq ?_
  refine KC.cut (fun a w15 => ∃ (t14 : Bool), Kn 40 [(1, .pointer (some ⟨g2, 0, none⟩)), (21, .bool t14)] a ∧ Mem w [] w15 [.box g2 45 [.bool kv1.f_Src.f_Six, .int .u8 (List.getD kv1.f_Src.f_B 0 0), .int .u8 (List.getD kv1.f_Src.f_B 1 0), .int .u8 (List.getD kv1.f_Src.f_B 2 0), .int .u8 (List.getD kv1.f_Src.f_B 3 0), .int .u8 (List.getD kv1.f_Src.f_B 4 0), .int .u8 (List.getD kv1.f_Src.f_B 5 0), .int .u8 (List.getD kv1.f_Src.f_B 6 0), .int .u8 (List.getD kv1.f_Src.f_B 7 0), .int .u8 (List.getD kv1.f_Src.f_B 8 0), .int .u8 (List.getD kv1.f_Src.f_B 9 0), .int .u8 (List.getD kv1.f_Src.f_B 10 0), .int .u8 (List.getD kv1.f_Src.f_B 11 0), .int .u8 (List.getD kv1.f_Src.f_B 12 0), .int .u8 (List.getD kv1.f_Src.f_B 13 0), .int .u8 (List.getD kv1.f_Src.f_B 14 0), .int .u8 (List.getD kv1.f_Src.f_B 15 0), .bool kv1.f_Dst.f_Six, .int .u8 (List.getD kv1.f_Dst.f_B 0 0), .int .u8 (List.getD kv1.f_Dst.f_B 1 0), .int .u8 (List.getD kv1.f_Dst.f_B 2 0), .int .u8 (List.getD kv1.f_Dst.f_B 3 0), .int .u8 (List.getD kv1.f_Dst.f_B 4 0), .int .u8 (List.getD kv1.f_Dst.f_B 5 0), .int .u8 (List.getD kv1.f_Dst.f_B 6 0), .int .u8 (List.getD kv1.f_Dst.f_B 7 0), .int .u8 (List.getD kv1.f_Dst.f_B 8 0), .int .u8 (List.getD kv1.f_Dst.f_B 9 0), .int .u8 (List.getD kv1.f_Dst.f_B 10 0), .int .u8 (List.getD kv1.f_Dst.f_B 11 0), .int .u8 (List.getD kv1.f_Dst.f_B 12 0), .int .u8 (List.getD kv1.f_Dst.f_B 13 0), .int .u8 (List.getD kv1.f_Dst.f_B 14 0), .int .u8 (List.getD kv1.f_Dst.f_B 15 0), .int .u8 kv1.f_Proto, .int .u16 kv1.f_SrcPort, .int .u16 kv1.f_DstPort]] ∧ F_ref08_Right_j1 kv1 t14 = some r) ?_ ?_
  · refine KC.region ?_
    refine RL.val (O.fldA fl45_0 (by decide) rfl) rfl ?_
    refine RL.val (O.loadN (cs := [.bool kv1.f_Src.f_Six, .int .u8 (List.getD kv1.f_Src.f_B 0 0), .int .u8 (List.getD kv1.f_Src.f_B 1 0), .int .u8 (List.getD kv1.f_Src.f_B 2 0), .int .u8 (List.getD kv1.f_Src.f_B 3 0), .int .u8 (List.getD kv1.f_Src.f_B 4 0), .int .u8 (List.getD kv1.f_Src.f_B 5 0), .int .u8 (List.getD kv1.f_Src.f_B 6 0), .int .u8 (List.getD kv1.f_Src.f_B 7 0), .int .u8 (List.getD kv1.f_Src.f_B 8 0), .int .u8 (List.getD kv1.f_Src.f_B 9 0), .int .u8 (List.getD kv1.f_Src.f_B 10 0), .int .u8 (List.getD kv1.f_Src.f_B 11 0), .int .u8 (List.getD kv1.f_Src.f_B 12 0), .int .u8 (List.getD kv1.f_Src.f_B 13 0), .int .u8 (List.getD kv1.f_Src.f_B 14 0), .int .u8 (List.getD kv1.f_Src.f_B 15 0)]) ag43 rfl (Cs.addsN [0] ((hM.bx (i := 0) rfl)) rfl)) rfl ?_
    refine obindE hF fun y5 hx6 hF => ?_
    refine RL.call Try.func42 bd42 rfl rfl (c_ref04_Right _ kv1.f_Src _ hx6) fun v w7 hv => ?_
    obtain ⟨rfl, hN8⟩ := hv
    replace hM := hM.call0 hN8
    refine RL.val (O.not rfl) rfl ?_
    refine RL.val (O.move rfl) rfl ?_
    refine RL.bcase (t := 7) rfl (fun hc => ?_) (fun hc => ?_)
    · rw [if_pos hc] at hF
      refine RL.brun1 14 21 true (by kernel_rfl) ?_
      refine RL.nil ?_
      refine KQ.then_k ?_
      exact fun a ha => ⟨true, ha.less (less_cons rfl (less_cons rfl less_nil)), hM, hF⟩
    · rw [if_neg (ne_true hc)] at hF
      refine RL.gval rfl rfl (O.fldA fl45_1 (by decide) rfl) rfl ?_
      refine RL.gval rfl rfl (O.loadN (cs := [.bool kv1.f_Dst.f_Six, .int .u8 (List.getD kv1.f_Dst.f_B 0 0), .int .u8 (List.getD kv1.f_Dst.f_B 1 0), .int .u8 (List.getD kv1.f_Dst.f_B 2 0), .int .u8 (List.getD kv1.f_Dst.f_B 3 0), .int .u8 (List.getD kv1.f_Dst.f_B 4 0), .int .u8 (List.getD kv1.f_Dst.f_B 5 0), .int .u8 (List.getD kv1.f_Dst.f_B 6 0), .int .u8 (List.getD kv1.f_Dst.f_B 7 0), .int .u8 (List.getD kv1.f_Dst.f_B 8 0), .int .u8 (List.getD kv1.f_Dst.f_B 9 0), .int .u8 (List.getD kv1.f_Dst.f_B 10 0), .int .u8 (List.getD kv1.f_Dst.f_B 11 0), .int .u8 (List.getD kv1.f_Dst.f_B 12 0), .int .u8 (List.getD kv1.f_Dst.f_B 13 0), .int .u8 (List.getD kv1.f_Dst.f_B 14 0), .int .u8 (List.getD kv1.f_Dst.f_B 15 0)]) ag43 rfl (Cs.addsN [17] ((hM.bx (i := 0) rfl)) rfl)) rfl ?_
      refine obindE hF fun y9 hx10 hF => ?_
      refine RL.gcall rfl rfl Try.func42 bd42 rfl rfl (c_ref04_Right _ kv1.f_Dst _ hx10) fun v w11 hv => ?_
      obtain ⟨rfl, hN12⟩ := hv
      replace hM := hM.call0 hN12
      refine RL.gval rfl rfl (O.not rfl) rfl ?_
      refine RL.val (O.pickf rfl rfl) rfl ?_
      refine RL.val (O.move rfl) rfl ?_
      refine RL.bcase (t := 13) rfl (fun hc => ?_) (fun hc => ?_)
      · rw [if_pos hc] at hF
        refine RL.brun1 8 21 true (by kernel_rfl) ?_
        refine RL.nil ?_
        refine KQ.then_k ?_
        exact fun a ha => ⟨true, ha.less (less_cons rfl (less_cons rfl less_nil)), hM, hF⟩
      · rw [if_neg (ne_true hc)] at hF
        refine RL.gval rfl rfl (O.fldA fl45_0 (by decide) rfl) rfl ?_
        refine RL.gval rfl rfl (O.fldA fl43_0 (by decide) rfl) rfl ?_
        refine RL.gval rfl rfl (O.load sc4 rfl (Cs.adds [0, 0] ((hM.bx (i := 0) rfl)) rfl)) rfl ?_
        refine RL.gval rfl rfl (O.fldA fl45_1 (by decide) rfl) rfl ?_
        refine RL.gval rfl rfl (O.fldA fl43_0 (by decide) rfl) rfl ?_
        refine RL.gval rfl rfl (O.load sc4 rfl (Cs.adds [17, 0] ((hM.bx (i := 0) rfl)) rfl)) rfl ?_
        refine RL.gval rfl rfl (O.neqb Try.underlying4 rfl rfl) rfl ?_
        refine RL.val (O.pickf rfl rfl) rfl ?_
        refine RL.nil ?_
        refine KQ.then_k ?_
        exact fun a ha => ⟨(!(kv1.f_Src.f_Six == kv1.f_Dst.f_Six)), ha.less (less_cons rfl (less_cons rfl less_nil)), hM, hF⟩
  · rintro a w15 ⟨t14, ha, hM, hF⟩
    refine KC.app ha ?_
    clear ha
    unfold F_ref08_Right_j1 at hF
    refine KC.cond rfl (fun hc => ?_) (fun hc => ?_)
    · rw [if_pos hc] at hF
      refine KC.seq ?_
      refine KC.region ?_
      refine RL.val (O.assign rfl) rfl ?_
      refine RL.nil ?_
      refine KQ.then_n ?_
      refine KC.ret ?_
      refine KQ.then_r ?_
      obtain rfl := Option.some.inj hF
      replace hM := hM.pick [] rfl (by decide)
      refine KQ.rets Try.results31 (RVs.cons (RV.tm rfl) RVs.nil) ?_
      exact ⟨_, rfl, rfl, hM⟩
    · rw [if_neg (ne_true hc)] at hF
      refine KC.skip ?_
      refine KQ.then_n ?_
      refine KC.cut (fun a w25 => ∃ (t24 : Bool), Kn 40 [(2, .bool t24)] a ∧ Mem w [] w25 [] ∧ F_ref08_Right_j2 t24 = some r) ?_ ?_
      · refine KC.region ?_
        refine RL.val (O.fldA fl45_2 (by decide) rfl) rfl ?_
        refine RL.val (O.load sc5 rfl (Cs.adds [34] ((hM.bx (i := 0) rfl)) rfl)) rfl ?_
        refine obindE hF fun y16 hx17 hF => ?_
        refine RL.call Try.func43 bd43 rfl rfl (c_ref08_ports _ kv1.f_Proto _ hx17) fun v w18 hv => ?_
        obtain ⟨rfl, hN19⟩ := hv
        replace hM := hM.call0 hN19
        refine RL.val (O.move rfl) rfl ?_
        refine RL.bcase (t := 25) rfl (fun hc => ?_) (fun hc => ?_)
        · rw [if_pos hc] at hF
          refine RL.brun1 14 39 true (by kernel_rfl) ?_
          refine RL.val (O.assign rfl) rfl ?_
          refine RL.nil ?_
          refine KQ.then_k ?_
          replace hM := hM.pick [] rfl (by decide)
          exact fun a ha => ⟨true, ha.less (less_cons rfl less_nil), hM, hF⟩
        · rw [if_neg (ne_true hc)] at hF
          refine RL.gval rfl rfl (O.fldA fl45_3 (by decide) rfl) rfl ?_
          refine RL.gval rfl rfl (O.load sc25 rfl (Cs.adds [35] ((hM.bx (i := 0) rfl)) rfl)) rfl ?_
          refine RL.gval rfl rfl (O.eql rfl rfl) rfl ?_
          refine RL.gval rfl rfl (O.move rfl) rfl ?_
          refine RL.bcase (t := 29) rfl (fun hc => ?_) (fun hc => ?_)
          · rw [if_pos hc] at hF
            refine RL.gval rfl rfl (O.fldA fl45_2 (by decide) rfl) rfl ?_
            refine RL.gval rfl rfl (O.load sc5 rfl (Cs.adds [34] ((hM.bx (i := 0) rfl)) rfl)) rfl ?_
            refine obindE hF fun y20 hx21 hF => ?_
            refine RL.gcall rfl rfl Try.func44 bd44 rfl rfl (c_ref08_icmp _ kv1.f_Proto _ hx21) fun v w22 hv => ?_
            obtain ⟨rfl, hN23⟩ := hv
            replace hM := hM.call0 hN23
            refine RL.gval rfl rfl (O.move rfl) rfl ?_
            refine RL.bcase (t := 33) rfl (fun hc => ?_) (fun hc => ?_)
            · rw [if_pos hc] at hF
              refine RL.gskip rfl rfl rfl rfl ?_
              refine RL.gskip rfl rfl rfl rfl ?_
              refine RL.gskip rfl rfl rfl rfl ?_
              refine RL.gval rfl rfl (O.pickt rfl rfl) rfl ?_
              refine RL.gval rfl rfl (O.pickt rfl rfl) rfl ?_
              refine RL.val (O.pickf rfl rfl) rfl ?_
              refine RL.val (O.assign rfl) rfl ?_
              refine RL.nil ?_
              refine KQ.then_k ?_
              replace hM := hM.pick [] rfl (by decide)
              exact fun a ha => ⟨true, ha.less (less_cons rfl less_nil), hM, hF⟩
            · rw [if_neg (ne_true hc)] at hF
              refine RL.gval rfl rfl (O.fldA fl45_4 (by decide) rfl) rfl ?_
              refine RL.gval rfl rfl (O.load sc25 rfl (Cs.adds [36] ((hM.bx (i := 0) rfl)) rfl)) rfl ?_
              refine RL.gval rfl rfl (O.eql rfl rfl) rfl ?_
              refine RL.gval rfl rfl (O.pickf rfl rfl) rfl ?_
              refine RL.gval rfl rfl (O.pickt rfl rfl) rfl ?_
              refine RL.val (O.pickf rfl rfl) rfl ?_
              refine RL.val (O.assign rfl) rfl ?_
              refine RL.nil ?_
              refine KQ.then_k ?_
              replace hM := hM.pick [] rfl (by decide)
              exact fun a ha => ⟨(kv1.f_DstPort == 0), ha.less (less_cons rfl less_nil), hM, hF⟩
          · rw [if_neg (ne_true hc)] at hF
            refine RL.gskip rfl rfl rfl rfl ?_
            refine RL.gskip rfl rfl rfl rfl ?_
            refine RL.gskip rfl rfl rfl rfl ?_
            refine RL.gskip rfl rfl rfl rfl ?_
            refine RL.gskip' rfl rfl rfl ?_
            refine RL.gskip' rfl rfl rfl ?_
            refine RL.gskip' rfl rfl rfl ?_
            refine RL.gskip rfl rfl rfl rfl ?_
            refine RL.gval rfl rfl (O.pickf rfl rfl) rfl ?_
            refine RL.val (O.pickf rfl rfl) rfl ?_
            refine RL.val (O.assign rfl) rfl ?_
            refine RL.nil ?_
            refine KQ.then_k ?_
            replace hM := hM.pick [] rfl (by decide)
            exact fun a ha => ⟨false, ha.less (less_cons rfl less_nil), hM, hF⟩
      · rintro a w25 ⟨t24, ha, hM, hF⟩
        refine KC.app ha ?_
        clear ha
        unfold F_ref08_Right_j2 at hF
        refine KC.ret ?_
        obtain rfl := Option.some.inj hF
        refine KQ.rets Try.results31 (RVs.cons (RV.tm rfl) RVs.nil) ?_
        exact ⟨_, rfl, rfl, hM⟩
end Go.Proofs.Yteafnfoponjoeaa
