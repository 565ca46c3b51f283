/- Printed by a program of this claim: each call returns what the plain function of its name gives. -/
import Derived.Test.YteafnfoponjoeaaRW1
set_option linter.unusedVariables false
namespace Go.Proofs.Yteafnfoponjoeaa
open Go Go.Ox Go.RowKit
set_option maxRecDepth 100000 in
set_option maxHeartbeats 40000000 in
theorem c_docs_Addr (w : World) (av1 : T_addr_Addr) (r : T_addr_Addr) (hF : F_docs_Addr av1 = some r) :
    CallsR Try.prog 32 [.agg #[.bool av1.f_Six, .int .u8 (List.getD av1.f_B 0 0), .int .u8 (List.getD av1.f_B 1 0), .int .u8 (List.getD av1.f_B 2 0), .int .u8 (List.getD av1.f_B 3 0), .int .u8 (List.getD av1.f_B 4 0), .int .u8 (List.getD av1.f_B 5 0), .int .u8 (List.getD av1.f_B 6 0), .int .u8 (List.getD av1.f_B 7 0), .int .u8 (List.getD av1.f_B 8 0), .int .u8 (List.getD av1.f_B 9 0), .int .u8 (List.getD av1.f_B 10 0), .int .u8 (List.getD av1.f_B 11 0), .int .u8 (List.getD av1.f_B 12 0), .int .u8 (List.getD av1.f_B 13 0), .int .u8 (List.getD av1.f_B 14 0), .int .u8 (List.getD av1.f_B 15 0)]] w (fun v w' => v = .agg #[.bool r.f_Six, .int .u8 (List.getD r.f_B 0 0), .int .u8 (List.getD r.f_B 1 0), .int .u8 (List.getD r.f_B 2 0), .int .u8 (List.getD r.f_B 3 0), .int .u8 (List.getD r.f_B 4 0), .int .u8 (List.getD r.f_B 5 0), .int .u8 (List.getD r.f_B 6 0), .int .u8 (List.getD r.f_B 7 0), .int .u8 (List.getD r.f_B 8 0), .int .u8 (List.getD r.f_B 9 0), .int .u8 (List.getD r.f_B 10 0), .int .u8 (List.getD r.f_B 11 0), .int .u8 (List.getD r.f_B 12 0), .int .u8 (List.getD r.f_B 13 0), .int .u8 (List.getD r.f_B 14 0), .int .u8 (List.getD r.f_B 15 0)] ∧ Mem w [] w' []) := by
  refine calls_KC Try.func32 rfl Try.ntmps32 rfl ?_
  have hM := Mem.init w
  unfold F_docs_Addr at hF
  refine KC.seq ?_
  refine KC.region ?_
  refine RL.eff (E.box (vs := [.bool av1.f_Six, .int .u8 (List.getD av1.f_B 0 0), .int .u8 (List.getD av1.f_B 1 0), .int .u8 (List.getD av1.f_B 2 0), .int .u8 (List.getD av1.f_B 3 0), .int .u8 (List.getD av1.f_B 4 0), .int .u8 (List.getD av1.f_B 5 0), .int .u8 (List.getD av1.f_B 6 0), .int .u8 (List.getD av1.f_B 7 0), .int .u8 (List.getD av1.f_B 8 0), .int .u8 (List.getD av1.f_B 9 0), .int .u8 (List.getD av1.f_B 10 0), .int .u8 (List.getD av1.f_B 11 0), .int .u8 (List.getD av1.f_B 12 0), .int .u8 (List.getD av1.f_B 13 0), .int .u8 (List.getD av1.f_B 14 0), .int .u8 (List.getD av1.f_B 15 0)]) hM rfl rfl) rfl fun v w3 hv => ?_
  clear hM
  obtain ⟨g2, rfl, hM, hf⟩ := hv
  refine RL.eff (E.alloc hM ze43) rfl fun v w6 hv => ?_
  clear hM
  obtain ⟨g5, rfl, hM, hf⟩ := hv
  refine RL.nil ?_
  refine KQ.then_n ?_
  refine KC.seq ?_
  refine KC.region ?_
  refine RL.val (O.fldA fl24_0 (by decide) rfl) rfl ?_
  refine RL.val (O.load sc4 rfl (Cs.adds [0] ((hM.bx (i := 0) rfl)) rfl)) rfl ?_
  refine RL.val (O.fldA fl24_1 (by decide) rfl) rfl ?_
  refine RL.val (O.loadN (cs := [.int .u8 (List.getD av1.f_B 0 0), .int .u8 (List.getD av1.f_B 1 0), .int .u8 (List.getD av1.f_B 2 0), .int .u8 (List.getD av1.f_B 3 0), .int .u8 (List.getD av1.f_B 4 0), .int .u8 (List.getD av1.f_B 5 0), .int .u8 (List.getD av1.f_B 6 0), .int .u8 (List.getD av1.f_B 7 0), .int .u8 (List.getD av1.f_B 8 0), .int .u8 (List.getD av1.f_B 9 0), .int .u8 (List.getD av1.f_B 10 0), .int .u8 (List.getD av1.f_B 11 0), .int .u8 (List.getD av1.f_B 12 0), .int .u8 (List.getD av1.f_B 13 0), .int .u8 (List.getD av1.f_B 14 0), .int .u8 (List.getD av1.f_B 15 0)]) ag22 rfl (Cs.addsN [1] ((hM.bx (i := 0) rfl)) rfl)) rfl ?_
  refine RL.val (O.bld (cs := [.bool av1.f_Six, .int .u8 (List.getD av1.f_B 0 0), .int .u8 (List.getD av1.f_B 1 0), .int .u8 (List.getD av1.f_B 2 0), .int .u8 (List.getD av1.f_B 3 0), .int .u8 (List.getD av1.f_B 4 0), .int .u8 (List.getD av1.f_B 5 0), .int .u8 (List.getD av1.f_B 6 0), .int .u8 (List.getD av1.f_B 7 0), .int .u8 (List.getD av1.f_B 8 0), .int .u8 (List.getD av1.f_B 9 0), .int .u8 (List.getD av1.f_B 10 0), .int .u8 (List.getD av1.f_B 11 0), .int .u8 (List.getD av1.f_B 12 0), .int .u8 (List.getD av1.f_B 13 0), .int .u8 (List.getD av1.f_B 14 0), .int .u8 (List.getD av1.f_B 15 0)]) bt43 rfl (by kernel_rfl)) rfl ?_
  refine RL.effs (E.stB (j := 1) (off := 0) (vs := [.bool av1.f_Six, .int .u8 (List.getD av1.f_B 0 0), .int .u8 (List.getD av1.f_B 1 0), .int .u8 (List.getD av1.f_B 2 0), .int .u8 (List.getD av1.f_B 3 0), .int .u8 (List.getD av1.f_B 4 0), .int .u8 (List.getD av1.f_B 5 0), .int .u8 (List.getD av1.f_B 6 0), .int .u8 (List.getD av1.f_B 7 0), .int .u8 (List.getD av1.f_B 8 0), .int .u8 (List.getD av1.f_B 9 0), .int .u8 (List.getD av1.f_B 10 0), .int .u8 (List.getD av1.f_B 11 0), .int .u8 (List.getD av1.f_B 12 0), .int .u8 (List.getD av1.f_B 13 0), .int .u8 (List.getD av1.f_B 14 0), .int .u8 (List.getD av1.f_B 15 0)]) (cs' := [.bool av1.f_Six, .int .u8 (List.getD av1.f_B 0 0), .int .u8 (List.getD av1.f_B 1 0), .int .u8 (List.getD av1.f_B 2 0), .int .u8 (List.getD av1.f_B 3 0), .int .u8 (List.getD av1.f_B 4 0), .int .u8 (List.getD av1.f_B 5 0), .int .u8 (List.getD av1.f_B 6 0), .int .u8 (List.getD av1.f_B 7 0), .int .u8 (List.getD av1.f_B 8 0), .int .u8 (List.getD av1.f_B 9 0), .int .u8 (List.getD av1.f_B 10 0), .int .u8 (List.getD av1.f_B 11 0), .int .u8 (List.getD av1.f_B 12 0), .int .u8 (List.getD av1.f_B 13 0), .int .u8 (List.getD av1.f_B 14 0), .int .u8 (List.getD av1.f_B 15 0)]) hM rfl sz43 rfl (adds_eq [] rfl) rfl rfl (One.all rfl) rfl rfl) fun w8 hM1 => ?_
  clear hM
  have hM := hM1
  clear hM1
  refine RL.nil ?_
  refine KQ.then_n ?_
  refine KC.ret ?_
  obtain rfl := Option.some.inj hF
  have hb9 := hM.bx (i := 1) rfl
  replace hM := hM.pick [] rfl (by decide)
  refine KQ.rets Try.results32 (RVs.cons (RV.cN (cs := [.bool av1.f_Six, .int .u8 (List.getD av1.f_B 0 0), .int .u8 (List.getD av1.f_B 1 0), .int .u8 (List.getD av1.f_B 2 0), .int .u8 (List.getD av1.f_B 3 0), .int .u8 (List.getD av1.f_B 4 0), .int .u8 (List.getD av1.f_B 5 0), .int .u8 (List.getD av1.f_B 6 0), .int .u8 (List.getD av1.f_B 7 0), .int .u8 (List.getD av1.f_B 8 0), .int .u8 (List.getD av1.f_B 9 0), .int .u8 (List.getD av1.f_B 10 0), .int .u8 (List.getD av1.f_B 11 0), .int .u8 (List.getD av1.f_B 12 0), .int .u8 (List.getD av1.f_B 13 0), .int .u8 (List.getD av1.f_B 14 0), .int .u8 (List.getD av1.f_B 15 0)]) rfl ag43 hb9) RVs.nil) ?_
  exact ⟨_, rfl, rfl, hM⟩
set_option maxRecDepth 100000 in
set_option maxHeartbeats 40000000 in
theorem c_docs_Key (w : World) (kv1 : T_packet_Key) (r : T_ref08_Key) (hF : F_docs_Key kv1 = some r) :
    CallsR Try.prog 15 [.agg #[.bool kv1.f_Src.f_Six, .int .u8 (List.getD kv1.f_Src.f_B 0 0), .int .u8 (List.getD kv1.f_Src.f_B 1 0), .int .u8 (List.getD kv1.f_Src.f_B 2 0), .int .u8 (List.getD kv1.f_Src.f_B 3 0), .int .u8 (List.getD kv1.f_Src.f_B 4 0), .int .u8 (List.getD kv1.f_Src.f_B 5 0), .int .u8 (List.getD kv1.f_Src.f_B 6 0), .int .u8 (List.getD kv1.f_Src.f_B 7 0), .int .u8 (List.getD kv1.f_Src.f_B 8 0), .int .u8 (List.getD kv1.f_Src.f_B 9 0), .int .u8 (List.getD kv1.f_Src.f_B 10 0), .int .u8 (List.getD kv1.f_Src.f_B 11 0), .int .u8 (List.getD kv1.f_Src.f_B 12 0), .int .u8 (List.getD kv1.f_Src.f_B 13 0), .int .u8 (List.getD kv1.f_Src.f_B 14 0), .int .u8 (List.getD kv1.f_Src.f_B 15 0), .bool kv1.f_Dst.f_Six, .int .u8 (List.getD kv1.f_Dst.f_B 0 0), .int .u8 (List.getD kv1.f_Dst.f_B 1 0), .int .u8 (List.getD kv1.f_Dst.f_B 2 0), .int .u8 (List.getD kv1.f_Dst.f_B 3 0), .int .u8 (List.getD kv1.f_Dst.f_B 4 0), .int .u8 (List.getD kv1.f_Dst.f_B 5 0), .int .u8 (List.getD kv1.f_Dst.f_B 6 0), .int .u8 (List.getD kv1.f_Dst.f_B 7 0), .int .u8 (List.getD kv1.f_Dst.f_B 8 0), .int .u8 (List.getD kv1.f_Dst.f_B 9 0), .int .u8 (List.getD kv1.f_Dst.f_B 10 0), .int .u8 (List.getD kv1.f_Dst.f_B 11 0), .int .u8 (List.getD kv1.f_Dst.f_B 12 0), .int .u8 (List.getD kv1.f_Dst.f_B 13 0), .int .u8 (List.getD kv1.f_Dst.f_B 14 0), .int .u8 (List.getD kv1.f_Dst.f_B 15 0), .int .u8 kv1.f_Proto, .int .u16 kv1.f_SrcPort, .int .u16 kv1.f_DstPort]] w (fun v w' => v = .agg #[.bool r.f_Src.f_Six, .int .u8 (List.getD r.f_Src.f_B 0 0), .int .u8 (List.getD r.f_Src.f_B 1 0), .int .u8 (List.getD r.f_Src.f_B 2 0), .int .u8 (List.getD r.f_Src.f_B 3 0), .int .u8 (List.getD r.f_Src.f_B 4 0), .int .u8 (List.getD r.f_Src.f_B 5 0), .int .u8 (List.getD r.f_Src.f_B 6 0), .int .u8 (List.getD r.f_Src.f_B 7 0), .int .u8 (List.getD r.f_Src.f_B 8 0), .int .u8 (List.getD r.f_Src.f_B 9 0), .int .u8 (List.getD r.f_Src.f_B 10 0), .int .u8 (List.getD r.f_Src.f_B 11 0), .int .u8 (List.getD r.f_Src.f_B 12 0), .int .u8 (List.getD r.f_Src.f_B 13 0), .int .u8 (List.getD r.f_Src.f_B 14 0), .int .u8 (List.getD r.f_Src.f_B 15 0), .bool r.f_Dst.f_Six, .int .u8 (List.getD r.f_Dst.f_B 0 0), .int .u8 (List.getD r.f_Dst.f_B 1 0), .int .u8 (List.getD r.f_Dst.f_B 2 0), .int .u8 (List.getD r.f_Dst.f_B 3 0), .int .u8 (List.getD r.f_Dst.f_B 4 0), .int .u8 (List.getD r.f_Dst.f_B 5 0), .int .u8 (List.getD r.f_Dst.f_B 6 0), .int .u8 (List.getD r.f_Dst.f_B 7 0), .int .u8 (List.getD r.f_Dst.f_B 8 0), .int .u8 (List.getD r.f_Dst.f_B 9 0), .int .u8 (List.getD r.f_Dst.f_B 10 0), .int .u8 (List.getD r.f_Dst.f_B 11 0), .int .u8 (List.getD r.f_Dst.f_B 12 0), .int .u8 (List.getD r.f_Dst.f_B 13 0), .int .u8 (List.getD r.f_Dst.f_B 14 0), .int .u8 (List.getD r.f_Dst.f_B 15 0), .int .u8 r.f_Proto, .int .u16 r.f_SrcPort, .int .u16 r.f_DstPort] ∧ Mem w [] w' []) := by
  refine calls_KC Try.func15 rfl Try.ntmps15 rfl ?_
  have hM := Mem.init w
  unfold F_docs_Key at hF
  refine KC.seq ?_
  refine KC.region ?_
  refine RL.eff (E.box (vs := [.bool kv1.f_Src.f_Six, .int .u8 (List.getD kv1.f_Src.f_B 0 0), .int .u8 (List.getD kv1.f_Src.f_B 1 0), .int .u8 (List.getD kv1.f_Src.f_B 2 0), .int .u8 (List.getD kv1.f_Src.f_B 3 0), .int .u8 (List.getD kv1.f_Src.f_B 4 0), .int .u8 (List.getD kv1.f_Src.f_B 5 0), .int .u8 (List.getD kv1.f_Src.f_B 6 0), .int .u8 (List.getD kv1.f_Src.f_B 7 0), .int .u8 (List.getD kv1.f_Src.f_B 8 0), .int .u8 (List.getD kv1.f_Src.f_B 9 0), .int .u8 (List.getD kv1.f_Src.f_B 10 0), .int .u8 (List.getD kv1.f_Src.f_B 11 0), .int .u8 (List.getD kv1.f_Src.f_B 12 0), .int .u8 (List.getD kv1.f_Src.f_B 13 0), .int .u8 (List.getD kv1.f_Src.f_B 14 0), .int .u8 (List.getD kv1.f_Src.f_B 15 0), .bool kv1.f_Dst.f_Six, .int .u8 (List.getD kv1.f_Dst.f_B 0 0), .int .u8 (List.getD kv1.f_Dst.f_B 1 0), .int .u8 (List.getD kv1.f_Dst.f_B 2 0), .int .u8 (List.getD kv1.f_Dst.f_B 3 0), .int .u8 (List.getD kv1.f_Dst.f_B 4 0), .int .u8 (List.getD kv1.f_Dst.f_B 5 0), .int .u8 (List.getD kv1.f_Dst.f_B 6 0), .int .u8 (List.getD kv1.f_Dst.f_B 7 0), .int .u8 (List.getD kv1.f_Dst.f_B 8 0), .int .u8 (List.getD kv1.f_Dst.f_B 9 0), .int .u8 (List.getD kv1.f_Dst.f_B 10 0), .int .u8 (List.getD kv1.f_Dst.f_B 11 0), .int .u8 (List.getD kv1.f_Dst.f_B 12 0), .int .u8 (List.getD kv1.f_Dst.f_B 13 0), .int .u8 (List.getD kv1.f_Dst.f_B 14 0), .int .u8 (List.getD kv1.f_Dst.f_B 15 0), .int .u8 kv1.f_Proto, .int .u16 kv1.f_SrcPort, .int .u16 kv1.f_DstPort]) hM rfl rfl) rfl fun v w3 hv => ?_
  clear hM
  obtain ⟨g2, rfl, hM, hf⟩ := hv
  refine RL.eff (E.alloc hM ze45) rfl fun v w6 hv => ?_
  clear hM
  obtain ⟨g5, rfl, hM, hf⟩ := hv
  refine RL.nil ?_
  refine KQ.then_n ?_
  refine KC.seq ?_
  replace hM := hM.drewN 1
  refine KC.draw [] [13] [2, 5, 13] [0, 3, 6, 8, 10] (.ofList [0, 1, 3, 4, 6, 7, 8, 9, 10, 11, 2, 5, 12, 13]) moP (by kernel_rfl) ?_
  refine RD.p rfl rfl rfl rfl (fun w' => O.fldA fl27_0 (by decide) rfl) ?_
  refine RD.q rfl rfl rfl rfl (fun w' hf => O.loadN (cs := [.bool kv1.f_Src.f_Six, .int .u8 (List.getD kv1.f_Src.f_B 0 0), .int .u8 (List.getD kv1.f_Src.f_B 1 0), .int .u8 (List.getD kv1.f_Src.f_B 2 0), .int .u8 (List.getD kv1.f_Src.f_B 3 0), .int .u8 (List.getD kv1.f_Src.f_B 4 0), .int .u8 (List.getD kv1.f_Src.f_B 5 0), .int .u8 (List.getD kv1.f_Src.f_B 6 0), .int .u8 (List.getD kv1.f_Src.f_B 7 0), .int .u8 (List.getD kv1.f_Src.f_B 8 0), .int .u8 (List.getD kv1.f_Src.f_B 9 0), .int .u8 (List.getD kv1.f_Src.f_B 10 0), .int .u8 (List.getD kv1.f_Src.f_B 11 0), .int .u8 (List.getD kv1.f_Src.f_B 12 0), .int .u8 (List.getD kv1.f_Src.f_B 13 0), .int .u8 (List.getD kv1.f_Src.f_B 14 0), .int .u8 (List.getD kv1.f_Src.f_B 15 0)]) ag24 rfl (Cs.addsN [0] ((hM.bx (i := 0) rfl).fut hf) rfl)) ?_
  refine RD.p rfl rfl rfl rfl (fun w' => O.fldA fl27_1 (by decide) rfl) ?_
  refine RD.q rfl rfl rfl rfl (fun w' hf => O.loadN (cs := [.bool kv1.f_Dst.f_Six, .int .u8 (List.getD kv1.f_Dst.f_B 0 0), .int .u8 (List.getD kv1.f_Dst.f_B 1 0), .int .u8 (List.getD kv1.f_Dst.f_B 2 0), .int .u8 (List.getD kv1.f_Dst.f_B 3 0), .int .u8 (List.getD kv1.f_Dst.f_B 4 0), .int .u8 (List.getD kv1.f_Dst.f_B 5 0), .int .u8 (List.getD kv1.f_Dst.f_B 6 0), .int .u8 (List.getD kv1.f_Dst.f_B 7 0), .int .u8 (List.getD kv1.f_Dst.f_B 8 0), .int .u8 (List.getD kv1.f_Dst.f_B 9 0), .int .u8 (List.getD kv1.f_Dst.f_B 10 0), .int .u8 (List.getD kv1.f_Dst.f_B 11 0), .int .u8 (List.getD kv1.f_Dst.f_B 12 0), .int .u8 (List.getD kv1.f_Dst.f_B 13 0), .int .u8 (List.getD kv1.f_Dst.f_B 14 0), .int .u8 (List.getD kv1.f_Dst.f_B 15 0)]) ag24 rfl (Cs.addsN [17] ((hM.bx (i := 0) rfl).fut hf) rfl)) ?_
  refine RD.p rfl rfl rfl rfl (fun w' => O.fldA fl27_2 (by decide) rfl) ?_
  refine RD.q rfl rfl rfl rfl (fun w' hf => O.load sc5 rfl (Cs.adds [34] ((hM.bx (i := 0) rfl).fut hf) rfl)) ?_
  refine RD.p rfl rfl rfl rfl (fun w' => O.fldA fl27_3 (by decide) rfl) ?_
  refine RD.q rfl rfl rfl rfl (fun w' hf => O.load sc25 rfl (Cs.adds [35] ((hM.bx (i := 0) rfl).fut hf) rfl)) ?_
  refine RD.p rfl rfl rfl rfl (fun w' => O.fldA fl27_4 (by decide) rfl) ?_
  refine RD.q rfl rfl rfl rfl (fun w' hf => O.load sc25 rfl (Cs.adds [36] ((hM.bx (i := 0) rfl).fut hf) rfl)) ?_
  refine obindE hF fun y8 hx9 hF => ?_
  refine RD.mcall rfl rfl trivial Try.func32 bd32 rfl rfl (c_docs_Addr _ kv1.f_Src _ hx9) fun v w10 hv => ?_
  obtain ⟨rfl, hN11⟩ := hv
  refine ⟨fun _ => hN11.fut, ?_⟩
  replace hM := hM.call0 hN11
  refine obindE hF fun y12 hx13 hF => ?_
  refine RD.mcall rfl rfl trivial Try.func32 bd32 rfl rfl (c_docs_Addr _ kv1.f_Dst _ hx13) fun v w14 hv => ?_
  obtain ⟨rfl, hN15⟩ := hv
  refine ⟨fun _ => hN15.fut, ?_⟩
  replace hM := hM.call0 hN15
  refine RD.q rfl rfl rfl rfl (fun w' hf => O.bld (cs := [.bool y8.f_Six, .int .u8 (List.getD y8.f_B 0 0), .int .u8 (List.getD y8.f_B 1 0), .int .u8 (List.getD y8.f_B 2 0), .int .u8 (List.getD y8.f_B 3 0), .int .u8 (List.getD y8.f_B 4 0), .int .u8 (List.getD y8.f_B 5 0), .int .u8 (List.getD y8.f_B 6 0), .int .u8 (List.getD y8.f_B 7 0), .int .u8 (List.getD y8.f_B 8 0), .int .u8 (List.getD y8.f_B 9 0), .int .u8 (List.getD y8.f_B 10 0), .int .u8 (List.getD y8.f_B 11 0), .int .u8 (List.getD y8.f_B 12 0), .int .u8 (List.getD y8.f_B 13 0), .int .u8 (List.getD y8.f_B 14 0), .int .u8 (List.getD y8.f_B 15 0), .bool y12.f_Six, .int .u8 (List.getD y12.f_B 0 0), .int .u8 (List.getD y12.f_B 1 0), .int .u8 (List.getD y12.f_B 2 0), .int .u8 (List.getD y12.f_B 3 0), .int .u8 (List.getD y12.f_B 4 0), .int .u8 (List.getD y12.f_B 5 0), .int .u8 (List.getD y12.f_B 6 0), .int .u8 (List.getD y12.f_B 7 0), .int .u8 (List.getD y12.f_B 8 0), .int .u8 (List.getD y12.f_B 9 0), .int .u8 (List.getD y12.f_B 10 0), .int .u8 (List.getD y12.f_B 11 0), .int .u8 (List.getD y12.f_B 12 0), .int .u8 (List.getD y12.f_B 13 0), .int .u8 (List.getD y12.f_B 14 0), .int .u8 (List.getD y12.f_B 15 0), .int .u8 kv1.f_Proto, .int .u16 kv1.f_SrcPort, .int .u16 kv1.f_DstPort]) bt45 rfl (by kernel_rfl)) ?_
  refine RD.meffs rfl rfl rfl (E.stB (j := 1) (off := 0) (vs := [.bool y8.f_Six, .int .u8 (List.getD y8.f_B 0 0), .int .u8 (List.getD y8.f_B 1 0), .int .u8 (List.getD y8.f_B 2 0), .int .u8 (List.getD y8.f_B 3 0), .int .u8 (List.getD y8.f_B 4 0), .int .u8 (List.getD y8.f_B 5 0), .int .u8 (List.getD y8.f_B 6 0), .int .u8 (List.getD y8.f_B 7 0), .int .u8 (List.getD y8.f_B 8 0), .int .u8 (List.getD y8.f_B 9 0), .int .u8 (List.getD y8.f_B 10 0), .int .u8 (List.getD y8.f_B 11 0), .int .u8 (List.getD y8.f_B 12 0), .int .u8 (List.getD y8.f_B 13 0), .int .u8 (List.getD y8.f_B 14 0), .int .u8 (List.getD y8.f_B 15 0), .bool y12.f_Six, .int .u8 (List.getD y12.f_B 0 0), .int .u8 (List.getD y12.f_B 1 0), .int .u8 (List.getD y12.f_B 2 0), .int .u8 (List.getD y12.f_B 3 0), .int .u8 (List.getD y12.f_B 4 0), .int .u8 (List.getD y12.f_B 5 0), .int .u8 (List.getD y12.f_B 6 0), .int .u8 (List.getD y12.f_B 7 0), .int .u8 (List.getD y12.f_B 8 0), .int .u8 (List.getD y12.f_B 9 0), .int .u8 (List.getD y12.f_B 10 0), .int .u8 (List.getD y12.f_B 11 0), .int .u8 (List.getD y12.f_B 12 0), .int .u8 (List.getD y12.f_B 13 0), .int .u8 (List.getD y12.f_B 14 0), .int .u8 (List.getD y12.f_B 15 0), .int .u8 kv1.f_Proto, .int .u16 kv1.f_SrcPort, .int .u16 kv1.f_DstPort]) (cs' := [.bool y8.f_Six, .int .u8 (List.getD y8.f_B 0 0), .int .u8 (List.getD y8.f_B 1 0), .int .u8 (List.getD y8.f_B 2 0), .int .u8 (List.getD y8.f_B 3 0), .int .u8 (List.getD y8.f_B 4 0), .int .u8 (List.getD y8.f_B 5 0), .int .u8 (List.getD y8.f_B 6 0), .int .u8 (List.getD y8.f_B 7 0), .int .u8 (List.getD y8.f_B 8 0), .int .u8 (List.getD y8.f_B 9 0), .int .u8 (List.getD y8.f_B 10 0), .int .u8 (List.getD y8.f_B 11 0), .int .u8 (List.getD y8.f_B 12 0), .int .u8 (List.getD y8.f_B 13 0), .int .u8 (List.getD y8.f_B 14 0), .int .u8 (List.getD y8.f_B 15 0), .bool y12.f_Six, .int .u8 (List.getD y12.f_B 0 0), .int .u8 (List.getD y12.f_B 1 0), .int .u8 (List.getD y12.f_B 2 0), .int .u8 (List.getD y12.f_B 3 0), .int .u8 (List.getD y12.f_B 4 0), .int .u8 (List.getD y12.f_B 5 0), .int .u8 (List.getD y12.f_B 6 0), .int .u8 (List.getD y12.f_B 7 0), .int .u8 (List.getD y12.f_B 8 0), .int .u8 (List.getD y12.f_B 9 0), .int .u8 (List.getD y12.f_B 10 0), .int .u8 (List.getD y12.f_B 11 0), .int .u8 (List.getD y12.f_B 12 0), .int .u8 (List.getD y12.f_B 13 0), .int .u8 (List.getD y12.f_B 14 0), .int .u8 (List.getD y12.f_B 15 0), .int .u8 kv1.f_Proto, .int .u16 kv1.f_SrcPort, .int .u16 kv1.f_DstPort]) hM rfl sz45 rfl (adds_eq [] rfl) rfl rfl (One.all rfl) rfl rfl) fun w16 hM1 => ?_
  clear hM
  have hM := hM1
  clear hM1
  refine RD.nil ?_
  refine KQ.then_n ?_
  refine KC.ret ?_
  obtain rfl := Option.some.inj hF
  have hb17 := hM.bx (i := 1) rfl
  replace hM := hM.pick [] rfl (by decide)
  refine KQ.rets Try.results15 (RVs.cons (RV.cN (cs := [.bool y8.f_Six, .int .u8 (List.getD y8.f_B 0 0), .int .u8 (List.getD y8.f_B 1 0), .int .u8 (List.getD y8.f_B 2 0), .int .u8 (List.getD y8.f_B 3 0), .int .u8 (List.getD y8.f_B 4 0), .int .u8 (List.getD y8.f_B 5 0), .int .u8 (List.getD y8.f_B 6 0), .int .u8 (List.getD y8.f_B 7 0), .int .u8 (List.getD y8.f_B 8 0), .int .u8 (List.getD y8.f_B 9 0), .int .u8 (List.getD y8.f_B 10 0), .int .u8 (List.getD y8.f_B 11 0), .int .u8 (List.getD y8.f_B 12 0), .int .u8 (List.getD y8.f_B 13 0), .int .u8 (List.getD y8.f_B 14 0), .int .u8 (List.getD y8.f_B 15 0), .bool y12.f_Six, .int .u8 (List.getD y12.f_B 0 0), .int .u8 (List.getD y12.f_B 1 0), .int .u8 (List.getD y12.f_B 2 0), .int .u8 (List.getD y12.f_B 3 0), .int .u8 (List.getD y12.f_B 4 0), .int .u8 (List.getD y12.f_B 5 0), .int .u8 (List.getD y12.f_B 6 0), .int .u8 (List.getD y12.f_B 7 0), .int .u8 (List.getD y12.f_B 8 0), .int .u8 (List.getD y12.f_B 9 0), .int .u8 (List.getD y12.f_B 10 0), .int .u8 (List.getD y12.f_B 11 0), .int .u8 (List.getD y12.f_B 12 0), .int .u8 (List.getD y12.f_B 13 0), .int .u8 (List.getD y12.f_B 14 0), .int .u8 (List.getD y12.f_B 15 0), .int .u8 kv1.f_Proto, .int .u16 kv1.f_SrcPort, .int .u16 kv1.f_DstPort]) rfl ag45 hb17) RVs.nil) ?_
  exact ⟨_, rfl, rfl, hM⟩
set_option maxRecDepth 100000 in
set_option maxHeartbeats 40000000 in
theorem c_docs_Record (w : World) (rv1 : T_flow_Record) (r : T_ref22_Record) (hF : F_docs_Record rv1 = some r) :
    CallsR Try.prog 11 [.agg #[.bool rv1.f_Key.f_Src.f_Six, .int .u8 (List.getD rv1.f_Key.f_Src.f_B 0 0), .int .u8 (List.getD rv1.f_Key.f_Src.f_B 1 0), .int .u8 (List.getD rv1.f_Key.f_Src.f_B 2 0), .int .u8 (List.getD rv1.f_Key.f_Src.f_B 3 0), .int .u8 (List.getD rv1.f_Key.f_Src.f_B 4 0), .int .u8 (List.getD rv1.f_Key.f_Src.f_B 5 0), .int .u8 (List.getD rv1.f_Key.f_Src.f_B 6 0), .int .u8 (List.getD rv1.f_Key.f_Src.f_B 7 0), .int .u8 (List.getD rv1.f_Key.f_Src.f_B 8 0), .int .u8 (List.getD rv1.f_Key.f_Src.f_B 9 0), .int .u8 (List.getD rv1.f_Key.f_Src.f_B 10 0), .int .u8 (List.getD rv1.f_Key.f_Src.f_B 11 0), .int .u8 (List.getD rv1.f_Key.f_Src.f_B 12 0), .int .u8 (List.getD rv1.f_Key.f_Src.f_B 13 0), .int .u8 (List.getD rv1.f_Key.f_Src.f_B 14 0), .int .u8 (List.getD rv1.f_Key.f_Src.f_B 15 0), .bool rv1.f_Key.f_Dst.f_Six, .int .u8 (List.getD rv1.f_Key.f_Dst.f_B 0 0), .int .u8 (List.getD rv1.f_Key.f_Dst.f_B 1 0), .int .u8 (List.getD rv1.f_Key.f_Dst.f_B 2 0), .int .u8 (List.getD rv1.f_Key.f_Dst.f_B 3 0), .int .u8 (List.getD rv1.f_Key.f_Dst.f_B 4 0), .int .u8 (List.getD rv1.f_Key.f_Dst.f_B 5 0), .int .u8 (List.getD rv1.f_Key.f_Dst.f_B 6 0), .int .u8 (List.getD rv1.f_Key.f_Dst.f_B 7 0), .int .u8 (List.getD rv1.f_Key.f_Dst.f_B 8 0), .int .u8 (List.getD rv1.f_Key.f_Dst.f_B 9 0), .int .u8 (List.getD rv1.f_Key.f_Dst.f_B 10 0), .int .u8 (List.getD rv1.f_Key.f_Dst.f_B 11 0), .int .u8 (List.getD rv1.f_Key.f_Dst.f_B 12 0), .int .u8 (List.getD rv1.f_Key.f_Dst.f_B 13 0), .int .u8 (List.getD rv1.f_Key.f_Dst.f_B 14 0), .int .u8 (List.getD rv1.f_Key.f_Dst.f_B 15 0), .int .u8 rv1.f_Key.f_Proto, .int .u16 rv1.f_Key.f_SrcPort, .int .u16 rv1.f_Key.f_DstPort, .int .u64 rv1.f_Packets, .int .u64 rv1.f_Bytes, .int .u64 rv1.f_First, .int .u64 rv1.f_Last, .int .u8 rv1.f_Flags, .int .u8 rv1.f_Reason, .int .u8 rv1.f_Class]] w (fun v w' => v = .agg #[.bool r.f_Key.f_Src.f_Six, .int .u8 (List.getD r.f_Key.f_Src.f_B 0 0), .int .u8 (List.getD r.f_Key.f_Src.f_B 1 0), .int .u8 (List.getD r.f_Key.f_Src.f_B 2 0), .int .u8 (List.getD r.f_Key.f_Src.f_B 3 0), .int .u8 (List.getD r.f_Key.f_Src.f_B 4 0), .int .u8 (List.getD r.f_Key.f_Src.f_B 5 0), .int .u8 (List.getD r.f_Key.f_Src.f_B 6 0), .int .u8 (List.getD r.f_Key.f_Src.f_B 7 0), .int .u8 (List.getD r.f_Key.f_Src.f_B 8 0), .int .u8 (List.getD r.f_Key.f_Src.f_B 9 0), .int .u8 (List.getD r.f_Key.f_Src.f_B 10 0), .int .u8 (List.getD r.f_Key.f_Src.f_B 11 0), .int .u8 (List.getD r.f_Key.f_Src.f_B 12 0), .int .u8 (List.getD r.f_Key.f_Src.f_B 13 0), .int .u8 (List.getD r.f_Key.f_Src.f_B 14 0), .int .u8 (List.getD r.f_Key.f_Src.f_B 15 0), .bool r.f_Key.f_Dst.f_Six, .int .u8 (List.getD r.f_Key.f_Dst.f_B 0 0), .int .u8 (List.getD r.f_Key.f_Dst.f_B 1 0), .int .u8 (List.getD r.f_Key.f_Dst.f_B 2 0), .int .u8 (List.getD r.f_Key.f_Dst.f_B 3 0), .int .u8 (List.getD r.f_Key.f_Dst.f_B 4 0), .int .u8 (List.getD r.f_Key.f_Dst.f_B 5 0), .int .u8 (List.getD r.f_Key.f_Dst.f_B 6 0), .int .u8 (List.getD r.f_Key.f_Dst.f_B 7 0), .int .u8 (List.getD r.f_Key.f_Dst.f_B 8 0), .int .u8 (List.getD r.f_Key.f_Dst.f_B 9 0), .int .u8 (List.getD r.f_Key.f_Dst.f_B 10 0), .int .u8 (List.getD r.f_Key.f_Dst.f_B 11 0), .int .u8 (List.getD r.f_Key.f_Dst.f_B 12 0), .int .u8 (List.getD r.f_Key.f_Dst.f_B 13 0), .int .u8 (List.getD r.f_Key.f_Dst.f_B 14 0), .int .u8 (List.getD r.f_Key.f_Dst.f_B 15 0), .int .u8 r.f_Key.f_Proto, .int .u16 r.f_Key.f_SrcPort, .int .u16 r.f_Key.f_DstPort, .int .u64 r.f_Packets, .int .u64 r.f_Bytes, .int .u64 r.f_First, .int .u64 r.f_Last, .int .u8 r.f_Flags, .int .u8 r.f_Reason, .int .u8 r.f_Class] ∧ Mem w [] w' []) := by
  refine calls_KC Try.func11 rfl Try.ntmps11 rfl ?_
  have hM := Mem.init w
  unfold F_docs_Record at hF
  refine KC.seq ?_
  refine KC.region ?_
  refine RL.eff (E.box (vs := [.bool rv1.f_Key.f_Src.f_Six, .int .u8 (List.getD rv1.f_Key.f_Src.f_B 0 0), .int .u8 (List.getD rv1.f_Key.f_Src.f_B 1 0), .int .u8 (List.getD rv1.f_Key.f_Src.f_B 2 0), .int .u8 (List.getD rv1.f_Key.f_Src.f_B 3 0), .int .u8 (List.getD rv1.f_Key.f_Src.f_B 4 0), .int .u8 (List.getD rv1.f_Key.f_Src.f_B 5 0), .int .u8 (List.getD rv1.f_Key.f_Src.f_B 6 0), .int .u8 (List.getD rv1.f_Key.f_Src.f_B 7 0), .int .u8 (List.getD rv1.f_Key.f_Src.f_B 8 0), .int .u8 (List.getD rv1.f_Key.f_Src.f_B 9 0), .int .u8 (List.getD rv1.f_Key.f_Src.f_B 10 0), .int .u8 (List.getD rv1.f_Key.f_Src.f_B 11 0), .int .u8 (List.getD rv1.f_Key.f_Src.f_B 12 0), .int .u8 (List.getD rv1.f_Key.f_Src.f_B 13 0), .int .u8 (List.getD rv1.f_Key.f_Src.f_B 14 0), .int .u8 (List.getD rv1.f_Key.f_Src.f_B 15 0), .bool rv1.f_Key.f_Dst.f_Six, .int .u8 (List.getD rv1.f_Key.f_Dst.f_B 0 0), .int .u8 (List.getD rv1.f_Key.f_Dst.f_B 1 0), .int .u8 (List.getD rv1.f_Key.f_Dst.f_B 2 0), .int .u8 (List.getD rv1.f_Key.f_Dst.f_B 3 0), .int .u8 (List.getD rv1.f_Key.f_Dst.f_B 4 0), .int .u8 (List.getD rv1.f_Key.f_Dst.f_B 5 0), .int .u8 (List.getD rv1.f_Key.f_Dst.f_B 6 0), .int .u8 (List.getD rv1.f_Key.f_Dst.f_B 7 0), .int .u8 (List.getD rv1.f_Key.f_Dst.f_B 8 0), .int .u8 (List.getD rv1.f_Key.f_Dst.f_B 9 0), .int .u8 (List.getD rv1.f_Key.f_Dst.f_B 10 0), .int .u8 (List.getD rv1.f_Key.f_Dst.f_B 11 0), .int .u8 (List.getD rv1.f_Key.f_Dst.f_B 12 0), .int .u8 (List.getD rv1.f_Key.f_Dst.f_B 13 0), .int .u8 (List.getD rv1.f_Key.f_Dst.f_B 14 0), .int .u8 (List.getD rv1.f_Key.f_Dst.f_B 15 0), .int .u8 rv1.f_Key.f_Proto, .int .u16 rv1.f_Key.f_SrcPort, .int .u16 rv1.f_Key.f_DstPort, .int .u64 rv1.f_Packets, .int .u64 rv1.f_Bytes, .int .u64 rv1.f_First, .int .u64 rv1.f_Last, .int .u8 rv1.f_Flags, .int .u8 rv1.f_Reason, .int .u8 rv1.f_Class]) hM rfl rfl) rfl fun v w3 hv => ?_
  clear hM
  obtain ⟨g2, rfl, hM, hf⟩ := hv
  refine RL.eff (E.alloc hM ze47) rfl fun v w6 hv => ?_
  clear hM
  obtain ⟨g5, rfl, hM, hf⟩ := hv
  refine RL.nil ?_
  refine KQ.then_n ?_
  refine KC.seq ?_
  replace hM := hM.drewN 1
  refine KC.draw [] [18] [2, 18] [0, 3, 5, 7, 9, 11, 13, 15] (.ofList [0, 1, 3, 4, 5, 6, 7, 8, 9, 10, 11, 12, 13, 14, 15, 16, 2, 17, 18]) moP (by kernel_rfl) ?_
  refine RD.p rfl rfl rfl rfl (fun w' => O.fldA fl35_0 (by decide) rfl) ?_
  refine RD.q rfl rfl rfl rfl (fun w' hf => O.loadN (cs := [.bool rv1.f_Key.f_Src.f_Six, .int .u8 (List.getD rv1.f_Key.f_Src.f_B 0 0), .int .u8 (List.getD rv1.f_Key.f_Src.f_B 1 0), .int .u8 (List.getD rv1.f_Key.f_Src.f_B 2 0), .int .u8 (List.getD rv1.f_Key.f_Src.f_B 3 0), .int .u8 (List.getD rv1.f_Key.f_Src.f_B 4 0), .int .u8 (List.getD rv1.f_Key.f_Src.f_B 5 0), .int .u8 (List.getD rv1.f_Key.f_Src.f_B 6 0), .int .u8 (List.getD rv1.f_Key.f_Src.f_B 7 0), .int .u8 (List.getD rv1.f_Key.f_Src.f_B 8 0), .int .u8 (List.getD rv1.f_Key.f_Src.f_B 9 0), .int .u8 (List.getD rv1.f_Key.f_Src.f_B 10 0), .int .u8 (List.getD rv1.f_Key.f_Src.f_B 11 0), .int .u8 (List.getD rv1.f_Key.f_Src.f_B 12 0), .int .u8 (List.getD rv1.f_Key.f_Src.f_B 13 0), .int .u8 (List.getD rv1.f_Key.f_Src.f_B 14 0), .int .u8 (List.getD rv1.f_Key.f_Src.f_B 15 0), .bool rv1.f_Key.f_Dst.f_Six, .int .u8 (List.getD rv1.f_Key.f_Dst.f_B 0 0), .int .u8 (List.getD rv1.f_Key.f_Dst.f_B 1 0), .int .u8 (List.getD rv1.f_Key.f_Dst.f_B 2 0), .int .u8 (List.getD rv1.f_Key.f_Dst.f_B 3 0), .int .u8 (List.getD rv1.f_Key.f_Dst.f_B 4 0), .int .u8 (List.getD rv1.f_Key.f_Dst.f_B 5 0), .int .u8 (List.getD rv1.f_Key.f_Dst.f_B 6 0), .int .u8 (List.getD rv1.f_Key.f_Dst.f_B 7 0), .int .u8 (List.getD rv1.f_Key.f_Dst.f_B 8 0), .int .u8 (List.getD rv1.f_Key.f_Dst.f_B 9 0), .int .u8 (List.getD rv1.f_Key.f_Dst.f_B 10 0), .int .u8 (List.getD rv1.f_Key.f_Dst.f_B 11 0), .int .u8 (List.getD rv1.f_Key.f_Dst.f_B 12 0), .int .u8 (List.getD rv1.f_Key.f_Dst.f_B 13 0), .int .u8 (List.getD rv1.f_Key.f_Dst.f_B 14 0), .int .u8 (List.getD rv1.f_Key.f_Dst.f_B 15 0), .int .u8 rv1.f_Key.f_Proto, .int .u16 rv1.f_Key.f_SrcPort, .int .u16 rv1.f_Key.f_DstPort]) ag27 rfl (Cs.addsN [0] ((hM.bx (i := 0) rfl).fut hf) rfl)) ?_
  refine RD.p rfl rfl rfl rfl (fun w' => O.fldA fl35_1 (by decide) rfl) ?_
  refine RD.q rfl rfl rfl rfl (fun w' hf => O.load sc30 rfl (Cs.adds [37] ((hM.bx (i := 0) rfl).fut hf) rfl)) ?_
  refine RD.p rfl rfl rfl rfl (fun w' => O.fldA fl35_2 (by decide) rfl) ?_
  refine RD.q rfl rfl rfl rfl (fun w' hf => O.load sc30 rfl (Cs.adds [38] ((hM.bx (i := 0) rfl).fut hf) rfl)) ?_
  refine RD.p rfl rfl rfl rfl (fun w' => O.fldA fl35_3 (by decide) rfl) ?_
  refine RD.q rfl rfl rfl rfl (fun w' hf => O.load sc30 rfl (Cs.adds [39] ((hM.bx (i := 0) rfl).fut hf) rfl)) ?_
  refine RD.p rfl rfl rfl rfl (fun w' => O.fldA fl35_4 (by decide) rfl) ?_
  refine RD.q rfl rfl rfl rfl (fun w' hf => O.load sc30 rfl (Cs.adds [40] ((hM.bx (i := 0) rfl).fut hf) rfl)) ?_
  refine RD.p rfl rfl rfl rfl (fun w' => O.fldA fl35_5 (by decide) rfl) ?_
  refine RD.q rfl rfl rfl rfl (fun w' hf => O.load sc5 rfl (Cs.adds [41] ((hM.bx (i := 0) rfl).fut hf) rfl)) ?_
  refine RD.p rfl rfl rfl rfl (fun w' => O.fldA fl35_6 (by decide) rfl) ?_
  refine RD.q rfl rfl rfl rfl (fun w' hf => O.load sc5 rfl (Cs.adds [42] ((hM.bx (i := 0) rfl).fut hf) rfl)) ?_
  refine RD.p rfl rfl rfl rfl (fun w' => O.fldA fl35_7 (by decide) rfl) ?_
  refine RD.q rfl rfl rfl rfl (fun w' hf => O.load sc5 rfl (Cs.adds [43] ((hM.bx (i := 0) rfl).fut hf) rfl)) ?_
  refine obindE hF fun y8 hx9 hF => ?_
  refine RD.mcall rfl rfl trivial Try.func15 bd15 rfl rfl (c_docs_Key _ rv1.f_Key _ hx9) fun v w10 hv => ?_
  obtain ⟨rfl, hN11⟩ := hv
  refine ⟨fun _ => hN11.fut, ?_⟩
  replace hM := hM.call0 hN11
  refine RD.q rfl rfl rfl rfl (fun w' hf => O.bld (cs := [.bool y8.f_Src.f_Six, .int .u8 (List.getD y8.f_Src.f_B 0 0), .int .u8 (List.getD y8.f_Src.f_B 1 0), .int .u8 (List.getD y8.f_Src.f_B 2 0), .int .u8 (List.getD y8.f_Src.f_B 3 0), .int .u8 (List.getD y8.f_Src.f_B 4 0), .int .u8 (List.getD y8.f_Src.f_B 5 0), .int .u8 (List.getD y8.f_Src.f_B 6 0), .int .u8 (List.getD y8.f_Src.f_B 7 0), .int .u8 (List.getD y8.f_Src.f_B 8 0), .int .u8 (List.getD y8.f_Src.f_B 9 0), .int .u8 (List.getD y8.f_Src.f_B 10 0), .int .u8 (List.getD y8.f_Src.f_B 11 0), .int .u8 (List.getD y8.f_Src.f_B 12 0), .int .u8 (List.getD y8.f_Src.f_B 13 0), .int .u8 (List.getD y8.f_Src.f_B 14 0), .int .u8 (List.getD y8.f_Src.f_B 15 0), .bool y8.f_Dst.f_Six, .int .u8 (List.getD y8.f_Dst.f_B 0 0), .int .u8 (List.getD y8.f_Dst.f_B 1 0), .int .u8 (List.getD y8.f_Dst.f_B 2 0), .int .u8 (List.getD y8.f_Dst.f_B 3 0), .int .u8 (List.getD y8.f_Dst.f_B 4 0), .int .u8 (List.getD y8.f_Dst.f_B 5 0), .int .u8 (List.getD y8.f_Dst.f_B 6 0), .int .u8 (List.getD y8.f_Dst.f_B 7 0), .int .u8 (List.getD y8.f_Dst.f_B 8 0), .int .u8 (List.getD y8.f_Dst.f_B 9 0), .int .u8 (List.getD y8.f_Dst.f_B 10 0), .int .u8 (List.getD y8.f_Dst.f_B 11 0), .int .u8 (List.getD y8.f_Dst.f_B 12 0), .int .u8 (List.getD y8.f_Dst.f_B 13 0), .int .u8 (List.getD y8.f_Dst.f_B 14 0), .int .u8 (List.getD y8.f_Dst.f_B 15 0), .int .u8 y8.f_Proto, .int .u16 y8.f_SrcPort, .int .u16 y8.f_DstPort, .int .u64 rv1.f_Packets, .int .u64 rv1.f_Bytes, .int .u64 rv1.f_First, .int .u64 rv1.f_Last, .int .u8 rv1.f_Flags, .int .u8 rv1.f_Reason, .int .u8 rv1.f_Class]) bt47 rfl (by kernel_rfl)) ?_
  refine RD.meffs rfl rfl rfl (E.stB (j := 1) (off := 0) (vs := [.bool y8.f_Src.f_Six, .int .u8 (List.getD y8.f_Src.f_B 0 0), .int .u8 (List.getD y8.f_Src.f_B 1 0), .int .u8 (List.getD y8.f_Src.f_B 2 0), .int .u8 (List.getD y8.f_Src.f_B 3 0), .int .u8 (List.getD y8.f_Src.f_B 4 0), .int .u8 (List.getD y8.f_Src.f_B 5 0), .int .u8 (List.getD y8.f_Src.f_B 6 0), .int .u8 (List.getD y8.f_Src.f_B 7 0), .int .u8 (List.getD y8.f_Src.f_B 8 0), .int .u8 (List.getD y8.f_Src.f_B 9 0), .int .u8 (List.getD y8.f_Src.f_B 10 0), .int .u8 (List.getD y8.f_Src.f_B 11 0), .int .u8 (List.getD y8.f_Src.f_B 12 0), .int .u8 (List.getD y8.f_Src.f_B 13 0), .int .u8 (List.getD y8.f_Src.f_B 14 0), .int .u8 (List.getD y8.f_Src.f_B 15 0), .bool y8.f_Dst.f_Six, .int .u8 (List.getD y8.f_Dst.f_B 0 0), .int .u8 (List.getD y8.f_Dst.f_B 1 0), .int .u8 (List.getD y8.f_Dst.f_B 2 0), .int .u8 (List.getD y8.f_Dst.f_B 3 0), .int .u8 (List.getD y8.f_Dst.f_B 4 0), .int .u8 (List.getD y8.f_Dst.f_B 5 0), .int .u8 (List.getD y8.f_Dst.f_B 6 0), .int .u8 (List.getD y8.f_Dst.f_B 7 0), .int .u8 (List.getD y8.f_Dst.f_B 8 0), .int .u8 (List.getD y8.f_Dst.f_B 9 0), .int .u8 (List.getD y8.f_Dst.f_B 10 0), .int .u8 (List.getD y8.f_Dst.f_B 11 0), .int .u8 (List.getD y8.f_Dst.f_B 12 0), .int .u8 (List.getD y8.f_Dst.f_B 13 0), .int .u8 (List.getD y8.f_Dst.f_B 14 0), .int .u8 (List.getD y8.f_Dst.f_B 15 0), .int .u8 y8.f_Proto, .int .u16 y8.f_SrcPort, .int .u16 y8.f_DstPort, .int .u64 rv1.f_Packets, .int .u64 rv1.f_Bytes, .int .u64 rv1.f_First, .int .u64 rv1.f_Last, .int .u8 rv1.f_Flags, .int .u8 rv1.f_Reason, .int .u8 rv1.f_Class]) (cs' := [.bool y8.f_Src.f_Six, .int .u8 (List.getD y8.f_Src.f_B 0 0), .int .u8 (List.getD y8.f_Src.f_B 1 0), .int .u8 (List.getD y8.f_Src.f_B 2 0), .int .u8 (List.getD y8.f_Src.f_B 3 0), .int .u8 (List.getD y8.f_Src.f_B 4 0), .int .u8 (List.getD y8.f_Src.f_B 5 0), .int .u8 (List.getD y8.f_Src.f_B 6 0), .int .u8 (List.getD y8.f_Src.f_B 7 0), .int .u8 (List.getD y8.f_Src.f_B 8 0), .int .u8 (List.getD y8.f_Src.f_B 9 0), .int .u8 (List.getD y8.f_Src.f_B 10 0), .int .u8 (List.getD y8.f_Src.f_B 11 0), .int .u8 (List.getD y8.f_Src.f_B 12 0), .int .u8 (List.getD y8.f_Src.f_B 13 0), .int .u8 (List.getD y8.f_Src.f_B 14 0), .int .u8 (List.getD y8.f_Src.f_B 15 0), .bool y8.f_Dst.f_Six, .int .u8 (List.getD y8.f_Dst.f_B 0 0), .int .u8 (List.getD y8.f_Dst.f_B 1 0), .int .u8 (List.getD y8.f_Dst.f_B 2 0), .int .u8 (List.getD y8.f_Dst.f_B 3 0), .int .u8 (List.getD y8.f_Dst.f_B 4 0), .int .u8 (List.getD y8.f_Dst.f_B 5 0), .int .u8 (List.getD y8.f_Dst.f_B 6 0), .int .u8 (List.getD y8.f_Dst.f_B 7 0), .int .u8 (List.getD y8.f_Dst.f_B 8 0), .int .u8 (List.getD y8.f_Dst.f_B 9 0), .int .u8 (List.getD y8.f_Dst.f_B 10 0), .int .u8 (List.getD y8.f_Dst.f_B 11 0), .int .u8 (List.getD y8.f_Dst.f_B 12 0), .int .u8 (List.getD y8.f_Dst.f_B 13 0), .int .u8 (List.getD y8.f_Dst.f_B 14 0), .int .u8 (List.getD y8.f_Dst.f_B 15 0), .int .u8 y8.f_Proto, .int .u16 y8.f_SrcPort, .int .u16 y8.f_DstPort, .int .u64 rv1.f_Packets, .int .u64 rv1.f_Bytes, .int .u64 rv1.f_First, .int .u64 rv1.f_Last, .int .u8 rv1.f_Flags, .int .u8 rv1.f_Reason, .int .u8 rv1.f_Class]) hM rfl sz47 rfl (adds_eq [] rfl) rfl rfl (One.all rfl) rfl rfl) fun w12 hM1 => ?_
  clear hM
  have hM := hM1
  clear hM1
  refine RD.nil ?_
  refine KQ.then_n ?_
  refine KC.ret ?_
  obtain rfl := Option.some.inj hF
  have hb13 := hM.bx (i := 1) rfl
  replace hM := hM.pick [] rfl (by decide)
  refine KQ.rets Try.results11 (RVs.cons (RV.cN (cs := [.bool y8.f_Src.f_Six, .int .u8 (List.getD y8.f_Src.f_B 0 0), .int .u8 (List.getD y8.f_Src.f_B 1 0), .int .u8 (List.getD y8.f_Src.f_B 2 0), .int .u8 (List.getD y8.f_Src.f_B 3 0), .int .u8 (List.getD y8.f_Src.f_B 4 0), .int .u8 (List.getD y8.f_Src.f_B 5 0), .int .u8 (List.getD y8.f_Src.f_B 6 0), .int .u8 (List.getD y8.f_Src.f_B 7 0), .int .u8 (List.getD y8.f_Src.f_B 8 0), .int .u8 (List.getD y8.f_Src.f_B 9 0), .int .u8 (List.getD y8.f_Src.f_B 10 0), .int .u8 (List.getD y8.f_Src.f_B 11 0), .int .u8 (List.getD y8.f_Src.f_B 12 0), .int .u8 (List.getD y8.f_Src.f_B 13 0), .int .u8 (List.getD y8.f_Src.f_B 14 0), .int .u8 (List.getD y8.f_Src.f_B 15 0), .bool y8.f_Dst.f_Six, .int .u8 (List.getD y8.f_Dst.f_B 0 0), .int .u8 (List.getD y8.f_Dst.f_B 1 0), .int .u8 (List.getD y8.f_Dst.f_B 2 0), .int .u8 (List.getD y8.f_Dst.f_B 3 0), .int .u8 (List.getD y8.f_Dst.f_B 4 0), .int .u8 (List.getD y8.f_Dst.f_B 5 0), .int .u8 (List.getD y8.f_Dst.f_B 6 0), .int .u8 (List.getD y8.f_Dst.f_B 7 0), .int .u8 (List.getD y8.f_Dst.f_B 8 0), .int .u8 (List.getD y8.f_Dst.f_B 9 0), .int .u8 (List.getD y8.f_Dst.f_B 10 0), .int .u8 (List.getD y8.f_Dst.f_B 11 0), .int .u8 (List.getD y8.f_Dst.f_B 12 0), .int .u8 (List.getD y8.f_Dst.f_B 13 0), .int .u8 (List.getD y8.f_Dst.f_B 14 0), .int .u8 (List.getD y8.f_Dst.f_B 15 0), .int .u8 y8.f_Proto, .int .u16 y8.f_SrcPort, .int .u16 y8.f_DstPort, .int .u64 rv1.f_Packets, .int .u64 rv1.f_Bytes, .int .u64 rv1.f_First, .int .u64 rv1.f_Last, .int .u8 rv1.f_Flags, .int .u8 rv1.f_Reason, .int .u8 rv1.f_Class]) rfl ag47 hb13) RVs.nil) ?_
  exact ⟨_, rfl, rfl, hM⟩
set_option maxRecDepth 100000 in
set_option maxHeartbeats 40000000 in
theorem c_flow_Start (w : World) (kv1 : T_packet_Key) (class2 : Int) (tick3 : Int) (r : T_flow_Record) (hF : F_flow_Start kv1 class2 tick3 = some r) :
    CallsR Try.prog 7 [.agg #[.bool kv1.f_Src.f_Six, .int .u8 (List.getD kv1.f_Src.f_B 0 0), .int .u8 (List.getD kv1.f_Src.f_B 1 0), .int .u8 (List.getD kv1.f_Src.f_B 2 0), .int .u8 (List.getD kv1.f_Src.f_B 3 0), .int .u8 (List.getD kv1.f_Src.f_B 4 0), .int .u8 (List.getD kv1.f_Src.f_B 5 0), .int .u8 (List.getD kv1.f_Src.f_B 6 0), .int .u8 (List.getD kv1.f_Src.f_B 7 0), .int .u8 (List.getD kv1.f_Src.f_B 8 0), .int .u8 (List.getD kv1.f_Src.f_B 9 0), .int .u8 (List.getD kv1.f_Src.f_B 10 0), .int .u8 (List.getD kv1.f_Src.f_B 11 0), .int .u8 (List.getD kv1.f_Src.f_B 12 0), .int .u8 (List.getD kv1.f_Src.f_B 13 0), .int .u8 (List.getD kv1.f_Src.f_B 14 0), .int .u8 (List.getD kv1.f_Src.f_B 15 0), .bool kv1.f_Dst.f_Six, .int .u8 (List.getD kv1.f_Dst.f_B 0 0), .int .u8 (List.getD kv1.f_Dst.f_B 1 0), .int .u8 (List.getD kv1.f_Dst.f_B 2 0), .int .u8 (List.getD kv1.f_Dst.f_B 3 0), .int .u8 (List.getD kv1.f_Dst.f_B 4 0), .int .u8 (List.getD kv1.f_Dst.f_B 5 0), .int .u8 (List.getD kv1.f_Dst.f_B 6 0), .int .u8 (List.getD kv1.f_Dst.f_B 7 0), .int .u8 (List.getD kv1.f_Dst.f_B 8 0), .int .u8 (List.getD kv1.f_Dst.f_B 9 0), .int .u8 (List.getD kv1.f_Dst.f_B 10 0), .int .u8 (List.getD kv1.f_Dst.f_B 11 0), .int .u8 (List.getD kv1.f_Dst.f_B 12 0), .int .u8 (List.getD kv1.f_Dst.f_B 13 0), .int .u8 (List.getD kv1.f_Dst.f_B 14 0), .int .u8 (List.getD kv1.f_Dst.f_B 15 0), .int .u8 kv1.f_Proto, .int .u16 kv1.f_SrcPort, .int .u16 kv1.f_DstPort], .int .u8 class2, .int .u64 tick3] w (fun v w' => v = .agg #[.bool r.f_Key.f_Src.f_Six, .int .u8 (List.getD r.f_Key.f_Src.f_B 0 0), .int .u8 (List.getD r.f_Key.f_Src.f_B 1 0), .int .u8 (List.getD r.f_Key.f_Src.f_B 2 0), .int .u8 (List.getD r.f_Key.f_Src.f_B 3 0), .int .u8 (List.getD r.f_Key.f_Src.f_B 4 0), .int .u8 (List.getD r.f_Key.f_Src.f_B 5 0), .int .u8 (List.getD r.f_Key.f_Src.f_B 6 0), .int .u8 (List.getD r.f_Key.f_Src.f_B 7 0), .int .u8 (List.getD r.f_Key.f_Src.f_B 8 0), .int .u8 (List.getD r.f_Key.f_Src.f_B 9 0), .int .u8 (List.getD r.f_Key.f_Src.f_B 10 0), .int .u8 (List.getD r.f_Key.f_Src.f_B 11 0), .int .u8 (List.getD r.f_Key.f_Src.f_B 12 0), .int .u8 (List.getD r.f_Key.f_Src.f_B 13 0), .int .u8 (List.getD r.f_Key.f_Src.f_B 14 0), .int .u8 (List.getD r.f_Key.f_Src.f_B 15 0), .bool r.f_Key.f_Dst.f_Six, .int .u8 (List.getD r.f_Key.f_Dst.f_B 0 0), .int .u8 (List.getD r.f_Key.f_Dst.f_B 1 0), .int .u8 (List.getD r.f_Key.f_Dst.f_B 2 0), .int .u8 (List.getD r.f_Key.f_Dst.f_B 3 0), .int .u8 (List.getD r.f_Key.f_Dst.f_B 4 0), .int .u8 (List.getD r.f_Key.f_Dst.f_B 5 0), .int .u8 (List.getD r.f_Key.f_Dst.f_B 6 0), .int .u8 (List.getD r.f_Key.f_Dst.f_B 7 0), .int .u8 (List.getD r.f_Key.f_Dst.f_B 8 0), .int .u8 (List.getD r.f_Key.f_Dst.f_B 9 0), .int .u8 (List.getD r.f_Key.f_Dst.f_B 10 0), .int .u8 (List.getD r.f_Key.f_Dst.f_B 11 0), .int .u8 (List.getD r.f_Key.f_Dst.f_B 12 0), .int .u8 (List.getD r.f_Key.f_Dst.f_B 13 0), .int .u8 (List.getD r.f_Key.f_Dst.f_B 14 0), .int .u8 (List.getD r.f_Key.f_Dst.f_B 15 0), .int .u8 r.f_Key.f_Proto, .int .u16 r.f_Key.f_SrcPort, .int .u16 r.f_Key.f_DstPort, .int .u64 r.f_Packets, .int .u64 r.f_Bytes, .int .u64 r.f_First, .int .u64 r.f_Last, .int .u8 r.f_Flags, .int .u8 r.f_Reason, .int .u8 r.f_Class] ∧ Mem w [] w' []) := by
  refine calls_KC Try.func7 rfl Try.ntmps7 rfl ?_
  have hM := Mem.init w
  unfold F_flow_Start at hF
  refine KC.seq ?_
  refine KC.region ?_
  refine RL.eff (E.box (vs := [.bool kv1.f_Src.f_Six, .int .u8 (List.getD kv1.f_Src.f_B 0 0), .int .u8 (List.getD kv1.f_Src.f_B 1 0), .int .u8 (List.getD kv1.f_Src.f_B 2 0), .int .u8 (List.getD kv1.f_Src.f_B 3 0), .int .u8 (List.getD kv1.f_Src.f_B 4 0), .int .u8 (List.getD kv1.f_Src.f_B 5 0), .int .u8 (List.getD kv1.f_Src.f_B 6 0), .int .u8 (List.getD kv1.f_Src.f_B 7 0), .int .u8 (List.getD kv1.f_Src.f_B 8 0), .int .u8 (List.getD kv1.f_Src.f_B 9 0), .int .u8 (List.getD kv1.f_Src.f_B 10 0), .int .u8 (List.getD kv1.f_Src.f_B 11 0), .int .u8 (List.getD kv1.f_Src.f_B 12 0), .int .u8 (List.getD kv1.f_Src.f_B 13 0), .int .u8 (List.getD kv1.f_Src.f_B 14 0), .int .u8 (List.getD kv1.f_Src.f_B 15 0), .bool kv1.f_Dst.f_Six, .int .u8 (List.getD kv1.f_Dst.f_B 0 0), .int .u8 (List.getD kv1.f_Dst.f_B 1 0), .int .u8 (List.getD kv1.f_Dst.f_B 2 0), .int .u8 (List.getD kv1.f_Dst.f_B 3 0), .int .u8 (List.getD kv1.f_Dst.f_B 4 0), .int .u8 (List.getD kv1.f_Dst.f_B 5 0), .int .u8 (List.getD kv1.f_Dst.f_B 6 0), .int .u8 (List.getD kv1.f_Dst.f_B 7 0), .int .u8 (List.getD kv1.f_Dst.f_B 8 0), .int .u8 (List.getD kv1.f_Dst.f_B 9 0), .int .u8 (List.getD kv1.f_Dst.f_B 10 0), .int .u8 (List.getD kv1.f_Dst.f_B 11 0), .int .u8 (List.getD kv1.f_Dst.f_B 12 0), .int .u8 (List.getD kv1.f_Dst.f_B 13 0), .int .u8 (List.getD kv1.f_Dst.f_B 14 0), .int .u8 (List.getD kv1.f_Dst.f_B 15 0), .int .u8 kv1.f_Proto, .int .u16 kv1.f_SrcPort, .int .u16 kv1.f_DstPort]) hM rfl rfl) rfl fun v w5 hv => ?_
  clear hM
  obtain ⟨g4, rfl, hM, hf⟩ := hv
  refine RL.eff (E.alloc hM ze35) rfl fun v w8 hv => ?_
  clear hM
  obtain ⟨g7, rfl, hM, hf⟩ := hv
  refine RL.nil ?_
  refine KQ.then_n ?_
  refine KC.seq ?_
  refine KC.region ?_
  refine RL.val (O.loadN (cs := [.bool kv1.f_Src.f_Six, .int .u8 (List.getD kv1.f_Src.f_B 0 0), .int .u8 (List.getD kv1.f_Src.f_B 1 0), .int .u8 (List.getD kv1.f_Src.f_B 2 0), .int .u8 (List.getD kv1.f_Src.f_B 3 0), .int .u8 (List.getD kv1.f_Src.f_B 4 0), .int .u8 (List.getD kv1.f_Src.f_B 5 0), .int .u8 (List.getD kv1.f_Src.f_B 6 0), .int .u8 (List.getD kv1.f_Src.f_B 7 0), .int .u8 (List.getD kv1.f_Src.f_B 8 0), .int .u8 (List.getD kv1.f_Src.f_B 9 0), .int .u8 (List.getD kv1.f_Src.f_B 10 0), .int .u8 (List.getD kv1.f_Src.f_B 11 0), .int .u8 (List.getD kv1.f_Src.f_B 12 0), .int .u8 (List.getD kv1.f_Src.f_B 13 0), .int .u8 (List.getD kv1.f_Src.f_B 14 0), .int .u8 (List.getD kv1.f_Src.f_B 15 0), .bool kv1.f_Dst.f_Six, .int .u8 (List.getD kv1.f_Dst.f_B 0 0), .int .u8 (List.getD kv1.f_Dst.f_B 1 0), .int .u8 (List.getD kv1.f_Dst.f_B 2 0), .int .u8 (List.getD kv1.f_Dst.f_B 3 0), .int .u8 (List.getD kv1.f_Dst.f_B 4 0), .int .u8 (List.getD kv1.f_Dst.f_B 5 0), .int .u8 (List.getD kv1.f_Dst.f_B 6 0), .int .u8 (List.getD kv1.f_Dst.f_B 7 0), .int .u8 (List.getD kv1.f_Dst.f_B 8 0), .int .u8 (List.getD kv1.f_Dst.f_B 9 0), .int .u8 (List.getD kv1.f_Dst.f_B 10 0), .int .u8 (List.getD kv1.f_Dst.f_B 11 0), .int .u8 (List.getD kv1.f_Dst.f_B 12 0), .int .u8 (List.getD kv1.f_Dst.f_B 13 0), .int .u8 (List.getD kv1.f_Dst.f_B 14 0), .int .u8 (List.getD kv1.f_Dst.f_B 15 0), .int .u8 kv1.f_Proto, .int .u16 kv1.f_SrcPort, .int .u16 kv1.f_DstPort]) ag27 rfl (Cs.addsN [] ((hM.bx (i := 0) rfl)) rfl)) rfl ?_
  refine RL.val (O.move rfl) rfl ?_
  refine RL.val (O.move rfl) rfl ?_
  refine RL.val (O.move rfl) rfl ?_
  refine RL.val (O.bld (cs := [.bool kv1.f_Src.f_Six, .int .u8 (List.getD kv1.f_Src.f_B 0 0), .int .u8 (List.getD kv1.f_Src.f_B 1 0), .int .u8 (List.getD kv1.f_Src.f_B 2 0), .int .u8 (List.getD kv1.f_Src.f_B 3 0), .int .u8 (List.getD kv1.f_Src.f_B 4 0), .int .u8 (List.getD kv1.f_Src.f_B 5 0), .int .u8 (List.getD kv1.f_Src.f_B 6 0), .int .u8 (List.getD kv1.f_Src.f_B 7 0), .int .u8 (List.getD kv1.f_Src.f_B 8 0), .int .u8 (List.getD kv1.f_Src.f_B 9 0), .int .u8 (List.getD kv1.f_Src.f_B 10 0), .int .u8 (List.getD kv1.f_Src.f_B 11 0), .int .u8 (List.getD kv1.f_Src.f_B 12 0), .int .u8 (List.getD kv1.f_Src.f_B 13 0), .int .u8 (List.getD kv1.f_Src.f_B 14 0), .int .u8 (List.getD kv1.f_Src.f_B 15 0), .bool kv1.f_Dst.f_Six, .int .u8 (List.getD kv1.f_Dst.f_B 0 0), .int .u8 (List.getD kv1.f_Dst.f_B 1 0), .int .u8 (List.getD kv1.f_Dst.f_B 2 0), .int .u8 (List.getD kv1.f_Dst.f_B 3 0), .int .u8 (List.getD kv1.f_Dst.f_B 4 0), .int .u8 (List.getD kv1.f_Dst.f_B 5 0), .int .u8 (List.getD kv1.f_Dst.f_B 6 0), .int .u8 (List.getD kv1.f_Dst.f_B 7 0), .int .u8 (List.getD kv1.f_Dst.f_B 8 0), .int .u8 (List.getD kv1.f_Dst.f_B 9 0), .int .u8 (List.getD kv1.f_Dst.f_B 10 0), .int .u8 (List.getD kv1.f_Dst.f_B 11 0), .int .u8 (List.getD kv1.f_Dst.f_B 12 0), .int .u8 (List.getD kv1.f_Dst.f_B 13 0), .int .u8 (List.getD kv1.f_Dst.f_B 14 0), .int .u8 (List.getD kv1.f_Dst.f_B 15 0), .int .u8 kv1.f_Proto, .int .u16 kv1.f_SrcPort, .int .u16 kv1.f_DstPort, .int .u64 0, .int .u64 0, .int .u64 tick3, .int .u64 tick3, .int .u8 0, .int .u8 0, .int .u8 class2]) bt35 rfl (by kernel_rfl)) rfl ?_
  refine RL.effs (E.stB (j := 1) (off := 0) (vs := [.bool kv1.f_Src.f_Six, .int .u8 (List.getD kv1.f_Src.f_B 0 0), .int .u8 (List.getD kv1.f_Src.f_B 1 0), .int .u8 (List.getD kv1.f_Src.f_B 2 0), .int .u8 (List.getD kv1.f_Src.f_B 3 0), .int .u8 (List.getD kv1.f_Src.f_B 4 0), .int .u8 (List.getD kv1.f_Src.f_B 5 0), .int .u8 (List.getD kv1.f_Src.f_B 6 0), .int .u8 (List.getD kv1.f_Src.f_B 7 0), .int .u8 (List.getD kv1.f_Src.f_B 8 0), .int .u8 (List.getD kv1.f_Src.f_B 9 0), .int .u8 (List.getD kv1.f_Src.f_B 10 0), .int .u8 (List.getD kv1.f_Src.f_B 11 0), .int .u8 (List.getD kv1.f_Src.f_B 12 0), .int .u8 (List.getD kv1.f_Src.f_B 13 0), .int .u8 (List.getD kv1.f_Src.f_B 14 0), .int .u8 (List.getD kv1.f_Src.f_B 15 0), .bool kv1.f_Dst.f_Six, .int .u8 (List.getD kv1.f_Dst.f_B 0 0), .int .u8 (List.getD kv1.f_Dst.f_B 1 0), .int .u8 (List.getD kv1.f_Dst.f_B 2 0), .int .u8 (List.getD kv1.f_Dst.f_B 3 0), .int .u8 (List.getD kv1.f_Dst.f_B 4 0), .int .u8 (List.getD kv1.f_Dst.f_B 5 0), .int .u8 (List.getD kv1.f_Dst.f_B 6 0), .int .u8 (List.getD kv1.f_Dst.f_B 7 0), .int .u8 (List.getD kv1.f_Dst.f_B 8 0), .int .u8 (List.getD kv1.f_Dst.f_B 9 0), .int .u8 (List.getD kv1.f_Dst.f_B 10 0), .int .u8 (List.getD kv1.f_Dst.f_B 11 0), .int .u8 (List.getD kv1.f_Dst.f_B 12 0), .int .u8 (List.getD kv1.f_Dst.f_B 13 0), .int .u8 (List.getD kv1.f_Dst.f_B 14 0), .int .u8 (List.getD kv1.f_Dst.f_B 15 0), .int .u8 kv1.f_Proto, .int .u16 kv1.f_SrcPort, .int .u16 kv1.f_DstPort, .int .u64 0, .int .u64 0, .int .u64 tick3, .int .u64 tick3, .int .u8 0, .int .u8 0, .int .u8 class2]) (cs' := [.bool kv1.f_Src.f_Six, .int .u8 (List.getD kv1.f_Src.f_B 0 0), .int .u8 (List.getD kv1.f_Src.f_B 1 0), .int .u8 (List.getD kv1.f_Src.f_B 2 0), .int .u8 (List.getD kv1.f_Src.f_B 3 0), .int .u8 (List.getD kv1.f_Src.f_B 4 0), .int .u8 (List.getD kv1.f_Src.f_B 5 0), .int .u8 (List.getD kv1.f_Src.f_B 6 0), .int .u8 (List.getD kv1.f_Src.f_B 7 0), .int .u8 (List.getD kv1.f_Src.f_B 8 0), .int .u8 (List.getD kv1.f_Src.f_B 9 0), .int .u8 (List.getD kv1.f_Src.f_B 10 0), .int .u8 (List.getD kv1.f_Src.f_B 11 0), .int .u8 (List.getD kv1.f_Src.f_B 12 0), .int .u8 (List.getD kv1.f_Src.f_B 13 0), .int .u8 (List.getD kv1.f_Src.f_B 14 0), .int .u8 (List.getD kv1.f_Src.f_B 15 0), .bool kv1.f_Dst.f_Six, .int .u8 (List.getD kv1.f_Dst.f_B 0 0), .int .u8 (List.getD kv1.f_Dst.f_B 1 0), .int .u8 (List.getD kv1.f_Dst.f_B 2 0), .int .u8 (List.getD kv1.f_Dst.f_B 3 0), .int .u8 (List.getD kv1.f_Dst.f_B 4 0), .int .u8 (List.getD kv1.f_Dst.f_B 5 0), .int .u8 (List.getD kv1.f_Dst.f_B 6 0), .int .u8 (List.getD kv1.f_Dst.f_B 7 0), .int .u8 (List.getD kv1.f_Dst.f_B 8 0), .int .u8 (List.getD kv1.f_Dst.f_B 9 0), .int .u8 (List.getD kv1.f_Dst.f_B 10 0), .int .u8 (List.getD kv1.f_Dst.f_B 11 0), .int .u8 (List.getD kv1.f_Dst.f_B 12 0), .int .u8 (List.getD kv1.f_Dst.f_B 13 0), .int .u8 (List.getD kv1.f_Dst.f_B 14 0), .int .u8 (List.getD kv1.f_Dst.f_B 15 0), .int .u8 kv1.f_Proto, .int .u16 kv1.f_SrcPort, .int .u16 kv1.f_DstPort, .int .u64 0, .int .u64 0, .int .u64 tick3, .int .u64 tick3, .int .u8 0, .int .u8 0, .int .u8 class2]) hM rfl sz35 rfl (adds_eq [] rfl) rfl rfl (One.all rfl) rfl rfl) fun w10 hM1 => ?_
  clear hM
  have hM := hM1
  clear hM1
  refine RL.nil ?_
  refine KQ.then_n ?_
  refine KC.ret ?_
  obtain rfl := Option.some.inj hF
  have hb11 := hM.bx (i := 1) rfl
  replace hM := hM.pick [] rfl (by decide)
  refine KQ.rets Try.results7 (RVs.cons (RV.cN (cs := [.bool kv1.f_Src.f_Six, .int .u8 (List.getD kv1.f_Src.f_B 0 0), .int .u8 (List.getD kv1.f_Src.f_B 1 0), .int .u8 (List.getD kv1.f_Src.f_B 2 0), .int .u8 (List.getD kv1.f_Src.f_B 3 0), .int .u8 (List.getD kv1.f_Src.f_B 4 0), .int .u8 (List.getD kv1.f_Src.f_B 5 0), .int .u8 (List.getD kv1.f_Src.f_B 6 0), .int .u8 (List.getD kv1.f_Src.f_B 7 0), .int .u8 (List.getD kv1.f_Src.f_B 8 0), .int .u8 (List.getD kv1.f_Src.f_B 9 0), .int .u8 (List.getD kv1.f_Src.f_B 10 0), .int .u8 (List.getD kv1.f_Src.f_B 11 0), .int .u8 (List.getD kv1.f_Src.f_B 12 0), .int .u8 (List.getD kv1.f_Src.f_B 13 0), .int .u8 (List.getD kv1.f_Src.f_B 14 0), .int .u8 (List.getD kv1.f_Src.f_B 15 0), .bool kv1.f_Dst.f_Six, .int .u8 (List.getD kv1.f_Dst.f_B 0 0), .int .u8 (List.getD kv1.f_Dst.f_B 1 0), .int .u8 (List.getD kv1.f_Dst.f_B 2 0), .int .u8 (List.getD kv1.f_Dst.f_B 3 0), .int .u8 (List.getD kv1.f_Dst.f_B 4 0), .int .u8 (List.getD kv1.f_Dst.f_B 5 0), .int .u8 (List.getD kv1.f_Dst.f_B 6 0), .int .u8 (List.getD kv1.f_Dst.f_B 7 0), .int .u8 (List.getD kv1.f_Dst.f_B 8 0), .int .u8 (List.getD kv1.f_Dst.f_B 9 0), .int .u8 (List.getD kv1.f_Dst.f_B 10 0), .int .u8 (List.getD kv1.f_Dst.f_B 11 0), .int .u8 (List.getD kv1.f_Dst.f_B 12 0), .int .u8 (List.getD kv1.f_Dst.f_B 13 0), .int .u8 (List.getD kv1.f_Dst.f_B 14 0), .int .u8 (List.getD kv1.f_Dst.f_B 15 0), .int .u8 kv1.f_Proto, .int .u16 kv1.f_SrcPort, .int .u16 kv1.f_DstPort, .int .u64 0, .int .u64 0, .int .u64 tick3, .int .u64 tick3, .int .u8 0, .int .u8 0, .int .u8 class2]) rfl ag35 hb11) RVs.nil) ?_
  exact ⟨_, rfl, rfl, hM⟩
set_option maxRecDepth 100000 in
set_option maxHeartbeats 40000000 in
theorem c_flow_Record_Total (w : World) (rv1 : T_flow_Record) (r : T_flow_Total) (hF : F_flow_Record_Total rv1 = some r) :
    CallsR Try.prog 9 [.agg #[.bool rv1.f_Key.f_Src.f_Six, .int .u8 (List.getD rv1.f_Key.f_Src.f_B 0 0), .int .u8 (List.getD rv1.f_Key.f_Src.f_B 1 0), .int .u8 (List.getD rv1.f_Key.f_Src.f_B 2 0), .int .u8 (List.getD rv1.f_Key.f_Src.f_B 3 0), .int .u8 (List.getD rv1.f_Key.f_Src.f_B 4 0), .int .u8 (List.getD rv1.f_Key.f_Src.f_B 5 0), .int .u8 (List.getD rv1.f_Key.f_Src.f_B 6 0), .int .u8 (List.getD rv1.f_Key.f_Src.f_B 7 0), .int .u8 (List.getD rv1.f_Key.f_Src.f_B 8 0), .int .u8 (List.getD rv1.f_Key.f_Src.f_B 9 0), .int .u8 (List.getD rv1.f_Key.f_Src.f_B 10 0), .int .u8 (List.getD rv1.f_Key.f_Src.f_B 11 0), .int .u8 (List.getD rv1.f_Key.f_Src.f_B 12 0), .int .u8 (List.getD rv1.f_Key.f_Src.f_B 13 0), .int .u8 (List.getD rv1.f_Key.f_Src.f_B 14 0), .int .u8 (List.getD rv1.f_Key.f_Src.f_B 15 0), .bool rv1.f_Key.f_Dst.f_Six, .int .u8 (List.getD rv1.f_Key.f_Dst.f_B 0 0), .int .u8 (List.getD rv1.f_Key.f_Dst.f_B 1 0), .int .u8 (List.getD rv1.f_Key.f_Dst.f_B 2 0), .int .u8 (List.getD rv1.f_Key.f_Dst.f_B 3 0), .int .u8 (List.getD rv1.f_Key.f_Dst.f_B 4 0), .int .u8 (List.getD rv1.f_Key.f_Dst.f_B 5 0), .int .u8 (List.getD rv1.f_Key.f_Dst.f_B 6 0), .int .u8 (List.getD rv1.f_Key.f_Dst.f_B 7 0), .int .u8 (List.getD rv1.f_Key.f_Dst.f_B 8 0), .int .u8 (List.getD rv1.f_Key.f_Dst.f_B 9 0), .int .u8 (List.getD rv1.f_Key.f_Dst.f_B 10 0), .int .u8 (List.getD rv1.f_Key.f_Dst.f_B 11 0), .int .u8 (List.getD rv1.f_Key.f_Dst.f_B 12 0), .int .u8 (List.getD rv1.f_Key.f_Dst.f_B 13 0), .int .u8 (List.getD rv1.f_Key.f_Dst.f_B 14 0), .int .u8 (List.getD rv1.f_Key.f_Dst.f_B 15 0), .int .u8 rv1.f_Key.f_Proto, .int .u16 rv1.f_Key.f_SrcPort, .int .u16 rv1.f_Key.f_DstPort, .int .u64 rv1.f_Packets, .int .u64 rv1.f_Bytes, .int .u64 rv1.f_First, .int .u64 rv1.f_Last, .int .u8 rv1.f_Flags, .int .u8 rv1.f_Reason, .int .u8 rv1.f_Class]] w (fun v w' => v = .agg #[.int .u64 r.f_Packets, .int .u64 r.f_Bytes] ∧ Mem w [] w' []) := by
  refine calls_KC Try.func9 rfl Try.ntmps9 rfl ?_
  have hM := Mem.init w
  unfold F_flow_Record_Total at hF
  refine KC.seq ?_
  refine KC.region ?_
  refine RL.eff (E.box (vs := [.bool rv1.f_Key.f_Src.f_Six, .int .u8 (List.getD rv1.f_Key.f_Src.f_B 0 0), .int .u8 (List.getD rv1.f_Key.f_Src.f_B 1 0), .int .u8 (List.getD rv1.f_Key.f_Src.f_B 2 0), .int .u8 (List.getD rv1.f_Key.f_Src.f_B 3 0), .int .u8 (List.getD rv1.f_Key.f_Src.f_B 4 0), .int .u8 (List.getD rv1.f_Key.f_Src.f_B 5 0), .int .u8 (List.getD rv1.f_Key.f_Src.f_B 6 0), .int .u8 (List.getD rv1.f_Key.f_Src.f_B 7 0), .int .u8 (List.getD rv1.f_Key.f_Src.f_B 8 0), .int .u8 (List.getD rv1.f_Key.f_Src.f_B 9 0), .int .u8 (List.getD rv1.f_Key.f_Src.f_B 10 0), .int .u8 (List.getD rv1.f_Key.f_Src.f_B 11 0), .int .u8 (List.getD rv1.f_Key.f_Src.f_B 12 0), .int .u8 (List.getD rv1.f_Key.f_Src.f_B 13 0), .int .u8 (List.getD rv1.f_Key.f_Src.f_B 14 0), .int .u8 (List.getD rv1.f_Key.f_Src.f_B 15 0), .bool rv1.f_Key.f_Dst.f_Six, .int .u8 (List.getD rv1.f_Key.f_Dst.f_B 0 0), .int .u8 (List.getD rv1.f_Key.f_Dst.f_B 1 0), .int .u8 (List.getD rv1.f_Key.f_Dst.f_B 2 0), .int .u8 (List.getD rv1.f_Key.f_Dst.f_B 3 0), .int .u8 (List.getD rv1.f_Key.f_Dst.f_B 4 0), .int .u8 (List.getD rv1.f_Key.f_Dst.f_B 5 0), .int .u8 (List.getD rv1.f_Key.f_Dst.f_B 6 0), .int .u8 (List.getD rv1.f_Key.f_Dst.f_B 7 0), .int .u8 (List.getD rv1.f_Key.f_Dst.f_B 8 0), .int .u8 (List.getD rv1.f_Key.f_Dst.f_B 9 0), .int .u8 (List.getD rv1.f_Key.f_Dst.f_B 10 0), .int .u8 (List.getD rv1.f_Key.f_Dst.f_B 11 0), .int .u8 (List.getD rv1.f_Key.f_Dst.f_B 12 0), .int .u8 (List.getD rv1.f_Key.f_Dst.f_B 13 0), .int .u8 (List.getD rv1.f_Key.f_Dst.f_B 14 0), .int .u8 (List.getD rv1.f_Key.f_Dst.f_B 15 0), .int .u8 rv1.f_Key.f_Proto, .int .u16 rv1.f_Key.f_SrcPort, .int .u16 rv1.f_Key.f_DstPort, .int .u64 rv1.f_Packets, .int .u64 rv1.f_Bytes, .int .u64 rv1.f_First, .int .u64 rv1.f_Last, .int .u8 rv1.f_Flags, .int .u8 rv1.f_Reason, .int .u8 rv1.f_Class]) hM rfl rfl) rfl fun v w3 hv => ?_
  clear hM
  obtain ⟨g2, rfl, hM, hf⟩ := hv
  refine RL.eff (E.alloc hM ze32) rfl fun v w6 hv => ?_
  clear hM
  obtain ⟨g5, rfl, hM, hf⟩ := hv
  refine RL.nil ?_
  refine KQ.then_n ?_
  refine KC.seq ?_
  refine KC.region ?_
  refine RL.val (O.fldA fl35_1 (by decide) rfl) rfl ?_
  refine RL.val (O.load sc30 rfl (Cs.adds [37] ((hM.bx (i := 0) rfl)) rfl)) rfl ?_
  refine RL.val (O.fldA fl35_2 (by decide) rfl) rfl ?_
  refine RL.val (O.load sc30 rfl (Cs.adds [38] ((hM.bx (i := 0) rfl)) rfl)) rfl ?_
  refine RL.val (O.bld (cs := [.int .u64 rv1.f_Packets, .int .u64 rv1.f_Bytes]) bt32 rfl (by kernel_rfl)) rfl ?_
  refine RL.effs (E.stB (j := 1) (off := 0) (vs := [.int .u64 rv1.f_Packets, .int .u64 rv1.f_Bytes]) (cs' := [.int .u64 rv1.f_Packets, .int .u64 rv1.f_Bytes]) hM rfl sz32 rfl (adds_eq [] rfl) rfl rfl (One.all rfl) rfl rfl) fun w8 hM1 => ?_
  clear hM
  have hM := hM1
  clear hM1
  refine RL.nil ?_
  refine KQ.then_n ?_
  refine KC.ret ?_
  obtain rfl := Option.some.inj hF
  have hb9 := hM.bx (i := 1) rfl
  replace hM := hM.pick [] rfl (by decide)
  refine KQ.rets Try.results9 (RVs.cons (RV.cN (cs := [.int .u64 rv1.f_Packets, .int .u64 rv1.f_Bytes]) rfl ag32 hb9) RVs.nil) ?_
  exact ⟨_, rfl, rfl, hM⟩
set_option maxRecDepth 100000 in
set_option maxHeartbeats 40000000 in
theorem c_flow_plus (w : World) (av1 : Int) (b2 : Int) (r : Int) (hF : F_flow_plus av1 b2 = some r) :
    CallsR Try.prog 29 [.int .u64 av1, .int .u64 b2] w (fun v w' => v = .int .u64 r ∧ Mem w [] w' []) := by
  refine calls_KC Try.func29 rfl Try.ntmps29 rfl ?_
  have hM := Mem.init w
  unfold F_flow_plus at hF
  refine KC.seq ?_
  refine KC.region ?_
  refine RL.val (O.assign rfl) rfl ?_
  refine RL.nil ?_
  refine KQ.then_n ?_
  refine KC.seq ?_
  refine KC.region ?_
  refine RL.val (O.move rfl) rfl ?_
  refine RL.val (O.move rfl) rfl ?_
  refine RL.val (O.add64 Try.func38 (by kernel_rfl) (by kernel_rfl) (by kernel_rfl) (by kernel_rfl) rfl rfl rfl) rfl ?_
  refine RL.val (O.move rfl) rfl ?_
  refine RL.val (O.ext rfl rfl) rfl ?_
  refine RL.val (O.ext rfl rfl) rfl ?_
  refine RL.val (O.assign rfl) rfl ?_
  refine RL.val (O.assign rfl) rfl ?_
  refine RL.nil ?_
  refine KQ.then_n ?_
  refine KC.seq ?_
  refine KC.seq ?_
  refine KC.region ?_
  refine RL.val (O.move rfl) rfl ?_
  refine RL.val (O.gtr rfl rfl) rfl ?_
  refine RL.nil ?_
  refine KQ.then_n ?_
  refine KC.cond rfl (fun hc => ?_) (fun hc => ?_)
  · rw [if_pos hc] at hF
    refine KC.seq ?_
    refine KC.region ?_
    refine RL.val (O.assign rfl) rfl ?_
    refine RL.nil ?_
    refine KQ.then_n ?_
    refine KC.ret ?_
    refine KQ.then_r ?_
    obtain rfl := Option.some.inj hF
    refine KQ.rets Try.results29 (RVs.cons (RV.tm rfl) RVs.nil) ?_
    exact ⟨_, rfl, rfl, hM⟩
  · rw [if_neg (ne_true hc)] at hF
    refine KC.skip ?_
    refine KQ.then_n ?_
    refine KC.seq ?_
    refine KC.region ?_
    refine RL.val (O.move rfl) rfl ?_
    refine RL.val (O.assign rfl) rfl ?_
    refine RL.nil ?_
    refine KQ.then_n ?_
    refine KC.ret ?_
    obtain rfl := Option.some.inj hF
    refine KQ.rets Try.results29 (RVs.cons (RV.tm rfl) RVs.nil) ?_
    exact ⟨_, rfl, rfl, hM⟩
set_option maxRecDepth 100000 in
set_option maxHeartbeats 40000000 in
theorem c_flow_Total_Plus (w : World) (t1 : T_flow_Total) (u2 : T_flow_Total) (r : T_flow_Total) (hF : F_flow_Total_Plus t1 u2 = some r) :
    CallsR Try.prog 10 [.agg #[.int .u64 t1.f_Packets, .int .u64 t1.f_Bytes], .agg #[.int .u64 u2.f_Packets, .int .u64 u2.f_Bytes]] w (fun v w' => v = .agg #[.int .u64 r.f_Packets, .int .u64 r.f_Bytes] ∧ Mem w [] w' []) := by
  refine calls_KC Try.func10 rfl Try.ntmps10 rfl ?_
  have hM := Mem.init w
  unfold F_flow_Total_Plus at hF
  refine KC.seq ?_
  refine KC.region ?_
  refine RL.eff (E.box (vs := [.int .u64 t1.f_Packets, .int .u64 t1.f_Bytes]) hM rfl rfl) rfl fun v w4 hv => ?_
  clear hM
  obtain ⟨g3, rfl, hM, hf⟩ := hv
  refine RL.eff (E.box (vs := [.int .u64 u2.f_Packets, .int .u64 u2.f_Bytes]) hM rfl rfl) rfl fun v w7 hv => ?_
  clear hM
  obtain ⟨g6, rfl, hM, hf⟩ := hv
  refine RL.eff (E.alloc hM ze32) rfl fun v w10 hv => ?_
  clear hM
  obtain ⟨g9, rfl, hM, hf⟩ := hv
  refine RL.nil ?_
  refine KQ.then_n ?_
  refine KC.seq ?_
  replace hM := hM.drewN 1
  refine KC.draw [] [11] [4, 9, 11] [0, 2, 5, 7] (.ofList [0, 1, 2, 3, 5, 6, 7, 8, 4, 9, 10, 11]) moP (by kernel_rfl) ?_
  refine RD.p rfl rfl rfl rfl (fun w' => O.fldA fl32_0 (by decide) rfl) ?_
  refine RD.q rfl rfl rfl rfl (fun w' hf => O.load sc30 rfl (Cs.adds [0] ((hM.bx (i := 0) rfl).fut hf) rfl)) ?_
  refine RD.p rfl rfl rfl rfl (fun w' => O.fldA fl32_0 (by decide) rfl) ?_
  refine RD.q rfl rfl rfl rfl (fun w' hf => O.load sc30 rfl (Cs.adds [0] ((hM.bx (i := 1) rfl).fut hf) rfl)) ?_
  refine RD.p rfl rfl rfl rfl (fun w' => O.fldA fl32_1 (by decide) rfl) ?_
  refine RD.q rfl rfl rfl rfl (fun w' hf => O.load sc30 rfl (Cs.adds [1] ((hM.bx (i := 0) rfl).fut hf) rfl)) ?_
  refine RD.p rfl rfl rfl rfl (fun w' => O.fldA fl32_1 (by decide) rfl) ?_
  refine RD.q rfl rfl rfl rfl (fun w' hf => O.load sc30 rfl (Cs.adds [1] ((hM.bx (i := 1) rfl).fut hf) rfl)) ?_
  refine obindE hF fun y12 hx13 hF => ?_
  refine RD.mcall rfl rfl trivial Try.func29 bd29 rfl rfl (c_flow_plus _ t1.f_Packets u2.f_Packets _ hx13) fun v w14 hv => ?_
  obtain ⟨rfl, hN15⟩ := hv
  refine ⟨fun _ => hN15.fut, ?_⟩
  replace hM := hM.call0 hN15
  refine obindE hF fun y16 hx17 hF => ?_
  refine RD.mcall rfl rfl trivial Try.func29 bd29 rfl rfl (c_flow_plus _ t1.f_Bytes u2.f_Bytes _ hx17) fun v w18 hv => ?_
  obtain ⟨rfl, hN19⟩ := hv
  refine ⟨fun _ => hN19.fut, ?_⟩
  replace hM := hM.call0 hN19
  refine RD.q rfl rfl rfl rfl (fun w' hf => O.bld (cs := [.int .u64 y12, .int .u64 y16]) bt32 rfl (by kernel_rfl)) ?_
  refine RD.meffs rfl rfl rfl (E.stB (j := 2) (off := 0) (vs := [.int .u64 y12, .int .u64 y16]) (cs' := [.int .u64 y12, .int .u64 y16]) hM rfl sz32 rfl (adds_eq [] rfl) rfl rfl (One.all rfl) rfl rfl) fun w20 hM1 => ?_
  clear hM
  have hM := hM1
  clear hM1
  refine RD.nil ?_
  refine KQ.then_n ?_
  refine KC.ret ?_
  obtain rfl := Option.some.inj hF
  have hb21 := hM.bx (i := 2) rfl
  replace hM := hM.pick [] rfl (by decide)
  refine KQ.rets Try.results10 (RVs.cons (RV.cN (cs := [.int .u64 y12, .int .u64 y16]) rfl ag32 hb21) RVs.nil) ?_
  exact ⟨_, rfl, rfl, hM⟩
end Go.Proofs.Yteafnfoponjoeaa
