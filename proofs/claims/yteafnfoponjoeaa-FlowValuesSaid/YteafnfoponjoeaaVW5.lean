/- Printed by a program of this claim: each call returns what the plain function of its name gives. -/
import Derived.Test.YteafnfoponjoeaaVW4
set_option linter.unusedVariables false
namespace Go.Proofs.Yteafnfoponjoeaa
open Go Go.Ox Go.RowKit
set_option maxRecDepth 100000 in
set_option maxHeartbeats 40000000 in
theorem c_flow_Values (w : World) (rv1 : T_flow_Record) (r : (List T_field_Value) × Int) (hF : F_flow_Values rv1 = some r) :
    CallsR Try.prog 21 [.agg #[.bool rv1.f_Key.f_Src.f_Six, .int .u8 (List.getD rv1.f_Key.f_Src.f_B 0 0), .int .u8 (List.getD rv1.f_Key.f_Src.f_B 1 0), .int .u8 (List.getD rv1.f_Key.f_Src.f_B 2 0), .int .u8 (List.getD rv1.f_Key.f_Src.f_B 3 0), .int .u8 (List.getD rv1.f_Key.f_Src.f_B 4 0), .int .u8 (List.getD rv1.f_Key.f_Src.f_B 5 0), .int .u8 (List.getD rv1.f_Key.f_Src.f_B 6 0), .int .u8 (List.getD rv1.f_Key.f_Src.f_B 7 0), .int .u8 (List.getD rv1.f_Key.f_Src.f_B 8 0), .int .u8 (List.getD rv1.f_Key.f_Src.f_B 9 0), .int .u8 (List.getD rv1.f_Key.f_Src.f_B 10 0), .int .u8 (List.getD rv1.f_Key.f_Src.f_B 11 0), .int .u8 (List.getD rv1.f_Key.f_Src.f_B 12 0), .int .u8 (List.getD rv1.f_Key.f_Src.f_B 13 0), .int .u8 (List.getD rv1.f_Key.f_Src.f_B 14 0), .int .u8 (List.getD rv1.f_Key.f_Src.f_B 15 0), .bool rv1.f_Key.f_Dst.f_Six, .int .u8 (List.getD rv1.f_Key.f_Dst.f_B 0 0), .int .u8 (List.getD rv1.f_Key.f_Dst.f_B 1 0), .int .u8 (List.getD rv1.f_Key.f_Dst.f_B 2 0), .int .u8 (List.getD rv1.f_Key.f_Dst.f_B 3 0), .int .u8 (List.getD rv1.f_Key.f_Dst.f_B 4 0), .int .u8 (List.getD rv1.f_Key.f_Dst.f_B 5 0), .int .u8 (List.getD rv1.f_Key.f_Dst.f_B 6 0), .int .u8 (List.getD rv1.f_Key.f_Dst.f_B 7 0), .int .u8 (List.getD rv1.f_Key.f_Dst.f_B 8 0), .int .u8 (List.getD rv1.f_Key.f_Dst.f_B 9 0), .int .u8 (List.getD rv1.f_Key.f_Dst.f_B 10 0), .int .u8 (List.getD rv1.f_Key.f_Dst.f_B 11 0), .int .u8 (List.getD rv1.f_Key.f_Dst.f_B 12 0), .int .u8 (List.getD rv1.f_Key.f_Dst.f_B 13 0), .int .u8 (List.getD rv1.f_Key.f_Dst.f_B 14 0), .int .u8 (List.getD rv1.f_Key.f_Dst.f_B 15 0), .int .u8 rv1.f_Key.f_Proto, .int .u16 rv1.f_Key.f_SrcPort, .int .u16 rv1.f_Key.f_DstPort, .int .u64 rv1.f_Packets, .int .u64 rv1.f_Bytes, .int .u64 rv1.f_First, .int .u64 rv1.f_Last, .int .u8 rv1.f_Flags, .int .u8 rv1.f_Reason, .int .u8 rv1.f_Class]] w (fun v w' => ∃ (A0 : Option Addr) (c0 : Nat) (css1 : List (List Value)) (Z1 : List Nat), v = .tuple #[.slice A0 (r.1).length c0, .int .i64 r.2] ∧ Mem w [] w' [.row A0 c0 76 2 r.1.length css1.flatten, .res Z1 (Els RO_field_Value 2 r.1 css1 Z1)]) := by
  refine calls_KC Try.func21 rfl Try.ntmps21 rfl ?_
  have hM := Mem.init w
  unfold F_flow_Values at hF
  refine KC.seq ?_
  refine KC.region ?_
  refine RL.eff (E.box (vs := [.bool rv1.f_Key.f_Src.f_Six, .int .u8 (List.getD rv1.f_Key.f_Src.f_B 0 0), .int .u8 (List.getD rv1.f_Key.f_Src.f_B 1 0), .int .u8 (List.getD rv1.f_Key.f_Src.f_B 2 0), .int .u8 (List.getD rv1.f_Key.f_Src.f_B 3 0), .int .u8 (List.getD rv1.f_Key.f_Src.f_B 4 0), .int .u8 (List.getD rv1.f_Key.f_Src.f_B 5 0), .int .u8 (List.getD rv1.f_Key.f_Src.f_B 6 0), .int .u8 (List.getD rv1.f_Key.f_Src.f_B 7 0), .int .u8 (List.getD rv1.f_Key.f_Src.f_B 8 0), .int .u8 (List.getD rv1.f_Key.f_Src.f_B 9 0), .int .u8 (List.getD rv1.f_Key.f_Src.f_B 10 0), .int .u8 (List.getD rv1.f_Key.f_Src.f_B 11 0), .int .u8 (List.getD rv1.f_Key.f_Src.f_B 12 0), .int .u8 (List.getD rv1.f_Key.f_Src.f_B 13 0), .int .u8 (List.getD rv1.f_Key.f_Src.f_B 14 0), .int .u8 (List.getD rv1.f_Key.f_Src.f_B 15 0), .bool rv1.f_Key.f_Dst.f_Six, .int .u8 (List.getD rv1.f_Key.f_Dst.f_B 0 0), .int .u8 (List.getD rv1.f_Key.f_Dst.f_B 1 0), .int .u8 (List.getD rv1.f_Key.f_Dst.f_B 2 0), .int .u8 (List.getD rv1.f_Key.f_Dst.f_B 3 0), .int .u8 (List.getD rv1.f_Key.f_Dst.f_B 4 0), .int .u8 (List.getD rv1.f_Key.f_Dst.f_B 5 0), .int .u8 (List.getD rv1.f_Key.f_Dst.f_B 6 0), .int .u8 (List.getD rv1.f_Key.f_Dst.f_B 7 0), .int .u8 (List.getD rv1.f_Key.f_Dst.f_B 8 0), .int .u8 (List.getD rv1.f_Key.f_Dst.f_B 9 0), .int .u8 (List.getD rv1.f_Key.f_Dst.f_B 10 0), .int .u8 (List.getD rv1.f_Key.f_Dst.f_B 11 0), .int .u8 (List.getD rv1.f_Key.f_Dst.f_B 12 0), .int .u8 (List.getD rv1.f_Key.f_Dst.f_B 13 0), .int .u8 (List.getD rv1.f_Key.f_Dst.f_B 14 0), .int .u8 (List.getD rv1.f_Key.f_Dst.f_B 15 0), .int .u8 rv1.f_Key.f_Proto, .int .u16 rv1.f_Key.f_SrcPort, .int .u16 rv1.f_Key.f_DstPort, .int .u64 rv1.f_Packets, .int .u64 rv1.f_Bytes, .int .u64 rv1.f_First, .int .u64 rv1.f_Last, .int .u8 rv1.f_Flags, .int .u8 rv1.f_Reason, .int .u8 rv1.f_Class]) hM rfl rfl) rfl fun v w3 hv => ?_
  clear hM
  obtain ⟨g2, rfl, hM, hf⟩ := hv
  refine RL.val (O.assign rfl) rfl ?_
  refine RL.val (O.assign rfl) rfl ?_
  refine RL.nil ?_
  refine KQ.then_n ?_
  refine KC.seq ?_
  refine KC.seq ?_
  refine KC.region ?_
  refine RL.val (O.loadN (cs := [.bool rv1.f_Key.f_Src.f_Six, .int .u8 (List.getD rv1.f_Key.f_Src.f_B 0 0), .int .u8 (List.getD rv1.f_Key.f_Src.f_B 1 0), .int .u8 (List.getD rv1.f_Key.f_Src.f_B 2 0), .int .u8 (List.getD rv1.f_Key.f_Src.f_B 3 0), .int .u8 (List.getD rv1.f_Key.f_Src.f_B 4 0), .int .u8 (List.getD rv1.f_Key.f_Src.f_B 5 0), .int .u8 (List.getD rv1.f_Key.f_Src.f_B 6 0), .int .u8 (List.getD rv1.f_Key.f_Src.f_B 7 0), .int .u8 (List.getD rv1.f_Key.f_Src.f_B 8 0), .int .u8 (List.getD rv1.f_Key.f_Src.f_B 9 0), .int .u8 (List.getD rv1.f_Key.f_Src.f_B 10 0), .int .u8 (List.getD rv1.f_Key.f_Src.f_B 11 0), .int .u8 (List.getD rv1.f_Key.f_Src.f_B 12 0), .int .u8 (List.getD rv1.f_Key.f_Src.f_B 13 0), .int .u8 (List.getD rv1.f_Key.f_Src.f_B 14 0), .int .u8 (List.getD rv1.f_Key.f_Src.f_B 15 0), .bool rv1.f_Key.f_Dst.f_Six, .int .u8 (List.getD rv1.f_Key.f_Dst.f_B 0 0), .int .u8 (List.getD rv1.f_Key.f_Dst.f_B 1 0), .int .u8 (List.getD rv1.f_Key.f_Dst.f_B 2 0), .int .u8 (List.getD rv1.f_Key.f_Dst.f_B 3 0), .int .u8 (List.getD rv1.f_Key.f_Dst.f_B 4 0), .int .u8 (List.getD rv1.f_Key.f_Dst.f_B 5 0), .int .u8 (List.getD rv1.f_Key.f_Dst.f_B 6 0), .int .u8 (List.getD rv1.f_Key.f_Dst.f_B 7 0), .int .u8 (List.getD rv1.f_Key.f_Dst.f_B 8 0), .int .u8 (List.getD rv1.f_Key.f_Dst.f_B 9 0), .int .u8 (List.getD rv1.f_Key.f_Dst.f_B 10 0), .int .u8 (List.getD rv1.f_Key.f_Dst.f_B 11 0), .int .u8 (List.getD rv1.f_Key.f_Dst.f_B 12 0), .int .u8 (List.getD rv1.f_Key.f_Dst.f_B 13 0), .int .u8 (List.getD rv1.f_Key.f_Dst.f_B 14 0), .int .u8 (List.getD rv1.f_Key.f_Dst.f_B 15 0), .int .u8 rv1.f_Key.f_Proto, .int .u16 rv1.f_Key.f_SrcPort, .int .u16 rv1.f_Key.f_DstPort, .int .u64 rv1.f_Packets, .int .u64 rv1.f_Bytes, .int .u64 rv1.f_First, .int .u64 rv1.f_Last, .int .u8 rv1.f_Flags, .int .u8 rv1.f_Reason, .int .u8 rv1.f_Class]) ag35 rfl (Cs.addsN [] ((hM.bx (i := 0) rfl)) rfl)) rfl ?_
  refine obindE hF fun y5 hx6 hF => ?_
  refine RL.call Try.func12 bd12 rfl rfl (c_flow_Record_Right _ rv1 _ hx6) fun v w7 hv => ?_
  obtain ⟨rfl, hN8⟩ := hv
  replace hM := hM.call0 hN8
  refine RL.val (O.not rfl) rfl ?_
  refine RL.nil ?_
  refine KQ.then_n ?_
  refine KC.cond rfl (fun hc => ?_) (fun hc => ?_)
  · rw [if_pos hc] at hF
    refine KC.seq ?_
    refine KC.region ?_
    refine RL.val (O.assign rfl) rfl ?_
    refine RL.val (O.assign rfl) rfl ?_
    refine RL.nil ?_
    refine KQ.then_n ?_
    refine KC.ret ?_
    refine KQ.then_r ?_
    obtain rfl := Option.some.inj hF
    replace hM := hM.nilrow 76 2
    obtain ⟨Z9, hM⟩ := hM.glue [] [0, 1] rfl rfl (by decide) rfl (Els RO_field_Value 2 ([] : List T_field_Value) []) (fun Z w1 _ _ => Els.nil)
    replace hM := hM.pick [1, 2] rfl (by decide)
    refine KQ.rets Try.results21 (RVs.cons (RV.tm rfl) (RVs.cons (RV.tm rfl) RVs.nil)) ?_
    exact ⟨_, rfl, none, 0, [], Z9, rfl, hM⟩
  · rw [if_neg (ne_true hc)] at hF
    refine KC.skip ?_
    refine KQ.then_n ?_
    refine KC.seq ?_
    replace hM := hM.drewN 1
    refine KC.draw [] [] [3, 8, 10] [0, 1, 5, 6, 11] (.ofList [0, 1, 2, 5, 6, 7, 3, 4, 8, 9, 10, 11]) moP (by kernel_rfl) ?_
    refine RD.p rfl rfl rfl rfl (fun w' => O.fldA fl35_0 (by decide) rfl) ?_
    refine RD.p rfl rfl rfl rfl (fun w' => O.fldA fl27_0 (by decide) rfl) ?_
    refine RD.q rfl rfl rfl rfl (fun w' hf => O.loadN (cs := [.bool rv1.f_Key.f_Src.f_Six, .int .u8 (List.getD rv1.f_Key.f_Src.f_B 0 0), .int .u8 (List.getD rv1.f_Key.f_Src.f_B 1 0), .int .u8 (List.getD rv1.f_Key.f_Src.f_B 2 0), .int .u8 (List.getD rv1.f_Key.f_Src.f_B 3 0), .int .u8 (List.getD rv1.f_Key.f_Src.f_B 4 0), .int .u8 (List.getD rv1.f_Key.f_Src.f_B 5 0), .int .u8 (List.getD rv1.f_Key.f_Src.f_B 6 0), .int .u8 (List.getD rv1.f_Key.f_Src.f_B 7 0), .int .u8 (List.getD rv1.f_Key.f_Src.f_B 8 0), .int .u8 (List.getD rv1.f_Key.f_Src.f_B 9 0), .int .u8 (List.getD rv1.f_Key.f_Src.f_B 10 0), .int .u8 (List.getD rv1.f_Key.f_Src.f_B 11 0), .int .u8 (List.getD rv1.f_Key.f_Src.f_B 12 0), .int .u8 (List.getD rv1.f_Key.f_Src.f_B 13 0), .int .u8 (List.getD rv1.f_Key.f_Src.f_B 14 0), .int .u8 (List.getD rv1.f_Key.f_Src.f_B 15 0)]) ag24 rfl (Cs.addsN [0, 0] ((hM.bx (i := 0) rfl).fut hf) rfl)) ?_
    refine RD.p rfl rfl rfl rfl (fun w' => O.fldA fl35_0 (by decide) rfl) ?_
    refine RD.p rfl rfl rfl rfl (fun w' => O.fldA fl27_1 (by decide) rfl) ?_
    refine RD.q rfl rfl rfl rfl (fun w' hf => O.loadN (cs := [.bool rv1.f_Key.f_Dst.f_Six, .int .u8 (List.getD rv1.f_Key.f_Dst.f_B 0 0), .int .u8 (List.getD rv1.f_Key.f_Dst.f_B 1 0), .int .u8 (List.getD rv1.f_Key.f_Dst.f_B 2 0), .int .u8 (List.getD rv1.f_Key.f_Dst.f_B 3 0), .int .u8 (List.getD rv1.f_Key.f_Dst.f_B 4 0), .int .u8 (List.getD rv1.f_Key.f_Dst.f_B 5 0), .int .u8 (List.getD rv1.f_Key.f_Dst.f_B 6 0), .int .u8 (List.getD rv1.f_Key.f_Dst.f_B 7 0), .int .u8 (List.getD rv1.f_Key.f_Dst.f_B 8 0), .int .u8 (List.getD rv1.f_Key.f_Dst.f_B 9 0), .int .u8 (List.getD rv1.f_Key.f_Dst.f_B 10 0), .int .u8 (List.getD rv1.f_Key.f_Dst.f_B 11 0), .int .u8 (List.getD rv1.f_Key.f_Dst.f_B 12 0), .int .u8 (List.getD rv1.f_Key.f_Dst.f_B 13 0), .int .u8 (List.getD rv1.f_Key.f_Dst.f_B 14 0), .int .u8 (List.getD rv1.f_Key.f_Dst.f_B 15 0)]) ag24 rfl (Cs.addsN [0, 17] ((hM.bx (i := 0) rfl).fut hf) rfl)) ?_
    refine obindE hF fun y10 hx11 hF => ?_
    refine RD.mcall rfl rfl trivial Try.func35 bd35 rfl rfl (c_addr_Addr_Bytes _ rv1.f_Key.f_Src _ hx11) fun v w12 hv => ?_
    obtain ⟨A14, c15, rfl, hN13⟩ := hv
    refine ⟨fun _ => hN13.fut, ?_⟩
    replace hM := hM.call hN13
    refine RD.q rfl rfl rfl rfl (fun w' hf => O.bld (cs := [.int .u64 0, .slice A14 (y10).length c15]) bt76 rfl (by kernel_rfl)) ?_
    refine obindE hF fun y17 hx18 hF => ?_
    refine RD.mcall rfl rfl trivial Try.func35 bd35 rfl rfl (c_addr_Addr_Bytes _ rv1.f_Key.f_Dst _ hx18) fun v w19 hv => ?_
    obtain ⟨A21, c22, rfl, hN20⟩ := hv
    refine ⟨fun _ => hN20.fut, ?_⟩
    replace hM := hM.call hN20
    refine RD.q rfl rfl rfl rfl (fun w' hf => O.bld (cs := [.int .u64 0, .slice A21 (y17).length c22]) bt76 rfl (by kernel_rfl)) ?_
    refine RD.meff rfl rfl (E.bslD (css := ([[.int .u64 0, .slice A14 (y10).length c15], [.int .u64 0, .slice A21 (y17).length c22]] : List (List Value))) hM sl64 ze76 rfl rfl rfl rfl rfl (by kernel_rfl) rfl) rfl fun v w24 hv => ?_
    clear hM
    obtain ⟨A25, rfl, hM, hf⟩ := hv
    refine ⟨fun _ => hf, ?_⟩
    have hp29 := (hM.pick [1, 2] rfl (by decide)).sep
    obtain ⟨Z26, hM⟩ := hM.glue [1, 2] [0, 3] rfl rfl (by decide) rfl (Els RO_field_Value 2 [(T_field_Value.mk 0 y10), (T_field_Value.mk 0 y17)] ([[.int .u64 0, .slice A14 (y10).length c15], [.int .u64 0, .slice A21 (y17).length c22]] : List (List Value))) (fun Z w1 ho hz => Els.lit (El3.cons rfl ⟨A14, c15, rfl, rfl⟩ (El3.cons rfl ⟨A21, c22, rfl, rfl⟩ El3.nil)) rfl ho hz hp29)
    refine RD.p rfl rfl rfl rfl (fun w' => O.assign rfl) ?_
    refine RD.nil ?_
    refine KQ.then_n ?_
    refine KC.seq ?_
    refine KC.seq ?_
    refine KC.region ?_
    refine RL.val (O.fldA fl35_0 (by decide) rfl) rfl ?_
    refine RL.val (O.fldA fl27_2 (by decide) rfl) rfl ?_
    refine RL.val (O.load sc5 rfl (Cs.adds [0, 34] ((hM.bx (i := 0) rfl)) rfl)) rfl ?_
    refine RL.val (O.conv un5 Try.underlying30 rfl) rfl ?_
    refine RL.val (O.fldA fl35_0 (by decide) rfl) rfl ?_
    refine RL.val (O.fldA fl27_3 (by decide) rfl) rfl ?_
    refine RL.val (O.load sc25 rfl (Cs.adds [0, 35] ((hM.bx (i := 0) rfl)) rfl)) rfl ?_
    refine RL.val (O.conv un25 Try.underlying30 rfl) rfl ?_
    refine RL.val (O.fldA fl35_0 (by decide) rfl) rfl ?_
    refine RL.val (O.fldA fl27_4 (by decide) rfl) rfl ?_
    refine RL.val (O.load sc25 rfl (Cs.adds [0, 36] ((hM.bx (i := 0) rfl)) rfl)) rfl ?_
    refine RL.val (O.conv un25 Try.underlying30 rfl) rfl ?_
    refine RL.val (O.fldA fl35_2 (by decide) rfl) rfl ?_
    refine RL.val (O.load sc30 rfl (Cs.adds [38] ((hM.bx (i := 0) rfl)) rfl)) rfl ?_
    refine RL.val (O.fldA fl35_1 (by decide) rfl) rfl ?_
    refine RL.val (O.load sc30 rfl (Cs.adds [37] ((hM.bx (i := 0) rfl)) rfl)) rfl ?_
    refine RL.val (O.fldA fl35_3 (by decide) rfl) rfl ?_
    refine RL.val (O.load sc30 rfl (Cs.adds [39] ((hM.bx (i := 0) rfl)) rfl)) rfl ?_
    refine RL.val (O.fldA fl35_4 (by decide) rfl) rfl ?_
    refine RL.val (O.load sc30 rfl (Cs.adds [40] ((hM.bx (i := 0) rfl)) rfl)) rfl ?_
    refine RL.val (O.fldA fl35_5 (by decide) rfl) rfl ?_
    refine RL.val (O.load sc5 rfl (Cs.adds [41] ((hM.bx (i := 0) rfl)) rfl)) rfl ?_
    refine RL.val (O.conv un5 Try.underlying30 rfl) rfl ?_
    refine RL.val (O.fldA fl35_6 (by decide) rfl) rfl ?_
    refine RL.val (O.load sc5 rfl (Cs.adds [42] ((hM.bx (i := 0) rfl)) rfl)) rfl ?_
    refine RL.val (O.conv un5 Try.underlying30 rfl) rfl ?_
    refine RL.val (O.fldA fl35_7 (by decide) rfl) rfl ?_
    refine RL.val (O.load sc5 rfl (Cs.adds [43] ((hM.bx (i := 0) rfl)) rfl)) rfl ?_
    refine RL.val (O.conv un5 Try.underlying30 rfl) rfl ?_
    refine RL.val (O.bldA (cs := [.int .u64 (List.getD [(IntKind.u64.wrap rv1.f_Key.f_Proto), (IntKind.u64.wrap rv1.f_Key.f_SrcPort), (IntKind.u64.wrap rv1.f_Key.f_DstPort), rv1.f_Bytes, rv1.f_Packets, rv1.f_First, rv1.f_Last, (IntKind.u64.wrap rv1.f_Flags), (IntKind.u64.wrap rv1.f_Reason), (IntKind.u64.wrap rv1.f_Class)] 0 0), .int .u64 (List.getD [(IntKind.u64.wrap rv1.f_Key.f_Proto), (IntKind.u64.wrap rv1.f_Key.f_SrcPort), (IntKind.u64.wrap rv1.f_Key.f_DstPort), rv1.f_Bytes, rv1.f_Packets, rv1.f_First, rv1.f_Last, (IntKind.u64.wrap rv1.f_Flags), (IntKind.u64.wrap rv1.f_Reason), (IntKind.u64.wrap rv1.f_Class)] 1 0), .int .u64 (List.getD [(IntKind.u64.wrap rv1.f_Key.f_Proto), (IntKind.u64.wrap rv1.f_Key.f_SrcPort), (IntKind.u64.wrap rv1.f_Key.f_DstPort), rv1.f_Bytes, rv1.f_Packets, rv1.f_First, rv1.f_Last, (IntKind.u64.wrap rv1.f_Flags), (IntKind.u64.wrap rv1.f_Reason), (IntKind.u64.wrap rv1.f_Class)] 2 0), .int .u64 (List.getD [(IntKind.u64.wrap rv1.f_Key.f_Proto), (IntKind.u64.wrap rv1.f_Key.f_SrcPort), (IntKind.u64.wrap rv1.f_Key.f_DstPort), rv1.f_Bytes, rv1.f_Packets, rv1.f_First, rv1.f_Last, (IntKind.u64.wrap rv1.f_Flags), (IntKind.u64.wrap rv1.f_Reason), (IntKind.u64.wrap rv1.f_Class)] 3 0), .int .u64 (List.getD [(IntKind.u64.wrap rv1.f_Key.f_Proto), (IntKind.u64.wrap rv1.f_Key.f_SrcPort), (IntKind.u64.wrap rv1.f_Key.f_DstPort), rv1.f_Bytes, rv1.f_Packets, rv1.f_First, rv1.f_Last, (IntKind.u64.wrap rv1.f_Flags), (IntKind.u64.wrap rv1.f_Reason), (IntKind.u64.wrap rv1.f_Class)] 4 0), .int .u64 (List.getD [(IntKind.u64.wrap rv1.f_Key.f_Proto), (IntKind.u64.wrap rv1.f_Key.f_SrcPort), (IntKind.u64.wrap rv1.f_Key.f_DstPort), rv1.f_Bytes, rv1.f_Packets, rv1.f_First, rv1.f_Last, (IntKind.u64.wrap rv1.f_Flags), (IntKind.u64.wrap rv1.f_Reason), (IntKind.u64.wrap rv1.f_Class)] 5 0), .int .u64 (List.getD [(IntKind.u64.wrap rv1.f_Key.f_Proto), (IntKind.u64.wrap rv1.f_Key.f_SrcPort), (IntKind.u64.wrap rv1.f_Key.f_DstPort), rv1.f_Bytes, rv1.f_Packets, rv1.f_First, rv1.f_Last, (IntKind.u64.wrap rv1.f_Flags), (IntKind.u64.wrap rv1.f_Reason), (IntKind.u64.wrap rv1.f_Class)] 6 0), .int .u64 (List.getD [(IntKind.u64.wrap rv1.f_Key.f_Proto), (IntKind.u64.wrap rv1.f_Key.f_SrcPort), (IntKind.u64.wrap rv1.f_Key.f_DstPort), rv1.f_Bytes, rv1.f_Packets, rv1.f_First, rv1.f_Last, (IntKind.u64.wrap rv1.f_Flags), (IntKind.u64.wrap rv1.f_Reason), (IntKind.u64.wrap rv1.f_Class)] 7 0), .int .u64 (List.getD [(IntKind.u64.wrap rv1.f_Key.f_Proto), (IntKind.u64.wrap rv1.f_Key.f_SrcPort), (IntKind.u64.wrap rv1.f_Key.f_DstPort), rv1.f_Bytes, rv1.f_Packets, rv1.f_First, rv1.f_Last, (IntKind.u64.wrap rv1.f_Flags), (IntKind.u64.wrap rv1.f_Reason), (IntKind.u64.wrap rv1.f_Class)] 8 0), .int .u64 (List.getD [(IntKind.u64.wrap rv1.f_Key.f_Proto), (IntKind.u64.wrap rv1.f_Key.f_SrcPort), (IntKind.u64.wrap rv1.f_Key.f_DstPort), rv1.f_Bytes, rv1.f_Packets, rv1.f_First, rv1.f_Last, (IntKind.u64.wrap rv1.f_Flags), (IntKind.u64.wrap rv1.f_Reason), (IntKind.u64.wrap rv1.f_Class)] 9 0)]) Try.underlying89 sz30 ze89 rfl (by kernel_rfl)) rfl ?_
    refine RL.val (O.move rfl) rfl ?_
    refine RL.nil ?_
    refine KQ.then_n ?_
    refine KC.block ?_
    refine KC.loop (fun k82 a w80 => ∃ (A73 : Option Addr) (c74 : Nat) (css75 : List (List Value)) (Z76 : List Nat) (lv78 : List T_field_Value) (t79 : Int), Kn 61 [(4, .slice A73 (lv78).length c74), (50, .agg #[.int .u64 (List.getD [(IntKind.u64.wrap rv1.f_Key.f_Proto), (IntKind.u64.wrap rv1.f_Key.f_SrcPort), (IntKind.u64.wrap rv1.f_Key.f_DstPort), rv1.f_Bytes, rv1.f_Packets, rv1.f_First, rv1.f_Last, (IntKind.u64.wrap rv1.f_Flags), (IntKind.u64.wrap rv1.f_Reason), (IntKind.u64.wrap rv1.f_Class)] 0 0), .int .u64 (List.getD [(IntKind.u64.wrap rv1.f_Key.f_Proto), (IntKind.u64.wrap rv1.f_Key.f_SrcPort), (IntKind.u64.wrap rv1.f_Key.f_DstPort), rv1.f_Bytes, rv1.f_Packets, rv1.f_First, rv1.f_Last, (IntKind.u64.wrap rv1.f_Flags), (IntKind.u64.wrap rv1.f_Reason), (IntKind.u64.wrap rv1.f_Class)] 1 0), .int .u64 (List.getD [(IntKind.u64.wrap rv1.f_Key.f_Proto), (IntKind.u64.wrap rv1.f_Key.f_SrcPort), (IntKind.u64.wrap rv1.f_Key.f_DstPort), rv1.f_Bytes, rv1.f_Packets, rv1.f_First, rv1.f_Last, (IntKind.u64.wrap rv1.f_Flags), (IntKind.u64.wrap rv1.f_Reason), (IntKind.u64.wrap rv1.f_Class)] 2 0), .int .u64 (List.getD [(IntKind.u64.wrap rv1.f_Key.f_Proto), (IntKind.u64.wrap rv1.f_Key.f_SrcPort), (IntKind.u64.wrap rv1.f_Key.f_DstPort), rv1.f_Bytes, rv1.f_Packets, rv1.f_First, rv1.f_Last, (IntKind.u64.wrap rv1.f_Flags), (IntKind.u64.wrap rv1.f_Reason), (IntKind.u64.wrap rv1.f_Class)] 3 0), .int .u64 (List.getD [(IntKind.u64.wrap rv1.f_Key.f_Proto), (IntKind.u64.wrap rv1.f_Key.f_SrcPort), (IntKind.u64.wrap rv1.f_Key.f_DstPort), rv1.f_Bytes, rv1.f_Packets, rv1.f_First, rv1.f_Last, (IntKind.u64.wrap rv1.f_Flags), (IntKind.u64.wrap rv1.f_Reason), (IntKind.u64.wrap rv1.f_Class)] 4 0), .int .u64 (List.getD [(IntKind.u64.wrap rv1.f_Key.f_Proto), (IntKind.u64.wrap rv1.f_Key.f_SrcPort), (IntKind.u64.wrap rv1.f_Key.f_DstPort), rv1.f_Bytes, rv1.f_Packets, rv1.f_First, rv1.f_Last, (IntKind.u64.wrap rv1.f_Flags), (IntKind.u64.wrap rv1.f_Reason), (IntKind.u64.wrap rv1.f_Class)] 5 0), .int .u64 (List.getD [(IntKind.u64.wrap rv1.f_Key.f_Proto), (IntKind.u64.wrap rv1.f_Key.f_SrcPort), (IntKind.u64.wrap rv1.f_Key.f_DstPort), rv1.f_Bytes, rv1.f_Packets, rv1.f_First, rv1.f_Last, (IntKind.u64.wrap rv1.f_Flags), (IntKind.u64.wrap rv1.f_Reason), (IntKind.u64.wrap rv1.f_Class)] 6 0), .int .u64 (List.getD [(IntKind.u64.wrap rv1.f_Key.f_Proto), (IntKind.u64.wrap rv1.f_Key.f_SrcPort), (IntKind.u64.wrap rv1.f_Key.f_DstPort), rv1.f_Bytes, rv1.f_Packets, rv1.f_First, rv1.f_Last, (IntKind.u64.wrap rv1.f_Flags), (IntKind.u64.wrap rv1.f_Reason), (IntKind.u64.wrap rv1.f_Class)] 7 0), .int .u64 (List.getD [(IntKind.u64.wrap rv1.f_Key.f_Proto), (IntKind.u64.wrap rv1.f_Key.f_SrcPort), (IntKind.u64.wrap rv1.f_Key.f_DstPort), rv1.f_Bytes, rv1.f_Packets, rv1.f_First, rv1.f_Last, (IntKind.u64.wrap rv1.f_Flags), (IntKind.u64.wrap rv1.f_Reason), (IntKind.u64.wrap rv1.f_Class)] 8 0), .int .u64 (List.getD [(IntKind.u64.wrap rv1.f_Key.f_Proto), (IntKind.u64.wrap rv1.f_Key.f_SrcPort), (IntKind.u64.wrap rv1.f_Key.f_DstPort), rv1.f_Bytes, rv1.f_Packets, rv1.f_First, rv1.f_Last, (IntKind.u64.wrap rv1.f_Flags), (IntKind.u64.wrap rv1.f_Reason), (IntKind.u64.wrap rv1.f_Class)] 9 0)]), (51, .int .i64 t79)] a ∧ Mem w [] w80 [.row A73 c74 76 2 (lv78).length (css75).flatten, .res Z76 (Els RO_field_Value 2 lv78 css75 Z76)] ∧ F_flow_Values_L1 rv1 k82 lv78 t79 = some r) ?_ ?_
    · replace hM := hM.pick [1, 2] rfl (by decide)
      exact fun a ha => ⟨fuel0, A25, 2, ([[.int .u64 0, .slice A14 (y10).length c15], [.int .u64 0, .slice A21 (y17).length c22]] : List (List Value)), Z26, ([(T_field_Value.mk 0 y10), (T_field_Value.mk 0 y17)]), 0, ha.less (less_cons rfl (less_cons rfl (less_cons rfl less_nil))), hM, hF⟩
    · rintro k82 a w80 ⟨A73, c74, css75, Z76, lv78, t79, ha, hM, hF⟩
      refine KC.app ha ?_
      clear ha
      cases k82 with
      | zero => exact (none_some hF).elim
      | succ k82 =>
      have hF : F_flow_Values_l1 (F_flow_Values_L1 rv1 k82) rv1 lv78 t79 = some r := hF
      unfold F_flow_Values_l1 at hF
      refine KC.seq ?_
      refine KC.region ?_
      refine RL.val (O.lss rfl rfl) rfl ?_
      refine RL.nil ?_
      refine KQ.then_n ?_
      refine KC.seq ?_
      refine KC.cond rfl (fun hc => ?_) (fun hc => ?_)
      · rw [if_pos hc] at hF
        refine KC.skip ?_
        refine KQ.then_n ?_
        refine KC.seq ?_
        refine KC.block ?_
        refine KC.seq ?_
        refine KC.region ?_
        refine obindE hF fun xv83 hx84 hF => ?_
        refine RL.val (O.idxAr (cs := [.int .u64 (List.getD [(IntKind.u64.wrap rv1.f_Key.f_Proto), (IntKind.u64.wrap rv1.f_Key.f_SrcPort), (IntKind.u64.wrap rv1.f_Key.f_DstPort), rv1.f_Bytes, rv1.f_Packets, rv1.f_First, rv1.f_Last, (IntKind.u64.wrap rv1.f_Flags), (IntKind.u64.wrap rv1.f_Reason), (IntKind.u64.wrap rv1.f_Class)] 0 0), .int .u64 (List.getD [(IntKind.u64.wrap rv1.f_Key.f_Proto), (IntKind.u64.wrap rv1.f_Key.f_SrcPort), (IntKind.u64.wrap rv1.f_Key.f_DstPort), rv1.f_Bytes, rv1.f_Packets, rv1.f_First, rv1.f_Last, (IntKind.u64.wrap rv1.f_Flags), (IntKind.u64.wrap rv1.f_Reason), (IntKind.u64.wrap rv1.f_Class)] 1 0), .int .u64 (List.getD [(IntKind.u64.wrap rv1.f_Key.f_Proto), (IntKind.u64.wrap rv1.f_Key.f_SrcPort), (IntKind.u64.wrap rv1.f_Key.f_DstPort), rv1.f_Bytes, rv1.f_Packets, rv1.f_First, rv1.f_Last, (IntKind.u64.wrap rv1.f_Flags), (IntKind.u64.wrap rv1.f_Reason), (IntKind.u64.wrap rv1.f_Class)] 2 0), .int .u64 (List.getD [(IntKind.u64.wrap rv1.f_Key.f_Proto), (IntKind.u64.wrap rv1.f_Key.f_SrcPort), (IntKind.u64.wrap rv1.f_Key.f_DstPort), rv1.f_Bytes, rv1.f_Packets, rv1.f_First, rv1.f_Last, (IntKind.u64.wrap rv1.f_Flags), (IntKind.u64.wrap rv1.f_Reason), (IntKind.u64.wrap rv1.f_Class)] 3 0), .int .u64 (List.getD [(IntKind.u64.wrap rv1.f_Key.f_Proto), (IntKind.u64.wrap rv1.f_Key.f_SrcPort), (IntKind.u64.wrap rv1.f_Key.f_DstPort), rv1.f_Bytes, rv1.f_Packets, rv1.f_First, rv1.f_Last, (IntKind.u64.wrap rv1.f_Flags), (IntKind.u64.wrap rv1.f_Reason), (IntKind.u64.wrap rv1.f_Class)] 4 0), .int .u64 (List.getD [(IntKind.u64.wrap rv1.f_Key.f_Proto), (IntKind.u64.wrap rv1.f_Key.f_SrcPort), (IntKind.u64.wrap rv1.f_Key.f_DstPort), rv1.f_Bytes, rv1.f_Packets, rv1.f_First, rv1.f_Last, (IntKind.u64.wrap rv1.f_Flags), (IntKind.u64.wrap rv1.f_Reason), (IntKind.u64.wrap rv1.f_Class)] 5 0), .int .u64 (List.getD [(IntKind.u64.wrap rv1.f_Key.f_Proto), (IntKind.u64.wrap rv1.f_Key.f_SrcPort), (IntKind.u64.wrap rv1.f_Key.f_DstPort), rv1.f_Bytes, rv1.f_Packets, rv1.f_First, rv1.f_Last, (IntKind.u64.wrap rv1.f_Flags), (IntKind.u64.wrap rv1.f_Reason), (IntKind.u64.wrap rv1.f_Class)] 6 0), .int .u64 (List.getD [(IntKind.u64.wrap rv1.f_Key.f_Proto), (IntKind.u64.wrap rv1.f_Key.f_SrcPort), (IntKind.u64.wrap rv1.f_Key.f_DstPort), rv1.f_Bytes, rv1.f_Packets, rv1.f_First, rv1.f_Last, (IntKind.u64.wrap rv1.f_Flags), (IntKind.u64.wrap rv1.f_Reason), (IntKind.u64.wrap rv1.f_Class)] 7 0), .int .u64 (List.getD [(IntKind.u64.wrap rv1.f_Key.f_Proto), (IntKind.u64.wrap rv1.f_Key.f_SrcPort), (IntKind.u64.wrap rv1.f_Key.f_DstPort), rv1.f_Bytes, rv1.f_Packets, rv1.f_First, rv1.f_Last, (IntKind.u64.wrap rv1.f_Flags), (IntKind.u64.wrap rv1.f_Reason), (IntKind.u64.wrap rv1.f_Class)] 8 0), .int .u64 (List.getD [(IntKind.u64.wrap rv1.f_Key.f_Proto), (IntKind.u64.wrap rv1.f_Key.f_SrcPort), (IntKind.u64.wrap rv1.f_Key.f_DstPort), rv1.f_Bytes, rv1.f_Packets, rv1.f_First, rv1.f_Last, (IntKind.u64.wrap rv1.f_Flags), (IntKind.u64.wrap rv1.f_Reason), (IntKind.u64.wrap rv1.f_Class)] 9 0)]) Try.underlying89 sz30 sc30 hx84 rfl rfl rfl) rfl ?_
        refine RL.val (O.assign rfl) rfl ?_
        refine RL.nil ?_
        refine KQ.then_n ?_
        refine KC.region ?_
        refine RL.val (O.move rfl) rfl ?_
        refine RL.val (O.move rfl) rfl ?_
        refine RL.val (O.bld (cs := [.int .u64 xv83, .slice none 0 0]) bt76 rfl (by kernel_rfl)) rfl ?_
        replace hM := hM.nilrow 5 1
        refine RL.eff (E.bslD (css := ([[.int .u64 xv83, .slice none (([] : List Int)).length 0]] : List (List Value))) hM sl64 ze76 rfl rfl rfl rfl rfl (by kernel_rfl) rfl) rfl fun v w85 hv => ?_
        clear hM
        obtain ⟨A86, rfl, hM, hf⟩ := hv
        have hp91 := (hM.pick [2] rfl (by decide)).sep
        obtain ⟨Z88, hM⟩ := hM.glue [2] [0, 1, 3] rfl rfl (by decide) rfl (Els RO_field_Value 2 [(T_field_Value.mk xv83 ([]))] ([[.int .u64 xv83, .slice none (([] : List Int)).length 0]] : List (List Value))) (fun Z w1 ho hz => Els.lit (El3.cons rfl ⟨none, 0, rfl, rfl⟩ El3.nil) rfl ho hz hp91)
        refine cut_someE hF fun hq95 hF => ?_
        refine RL.eff (E.appD (xs := lv78) (ys := [(T_field_Value.mk xv83 ([]))]) (css := css75) (cs2 := ([[.int .u64 xv83, .slice none (([] : List Int)).length 0]] : List (List Value))) (j := 0) hM rfl sl64 ze76 rfl rfl rfl rfl rfl (hM.rd (i := 2) rfl) (One.all rfl) (of_decide_eq_true hq95)) rfl fun v w94 hv => ?_
        clear hM
        obtain ⟨A92, c93, rfl, hM, hf⟩ := hv
        have hp97 := hM.sep
        obtain ⟨Z96, hM⟩ := hM.glue [1, 3] [0] rfl rfl (by decide) rfl (Els RO_field_Value 2 (lv78 ++ [(T_field_Value.mk xv83 ([]))]) (css75 ++ ([[.int .u64 xv83, .slice none (([] : List Int)).length 0]] : List (List Value)))) (fun Z w1 ho hz => Els.app (Ob.res_φ (ho 0 _ rfl)) (Ob.res_φ (ho 1 _ rfl)) (fun g hg => hz 0 _ g rfl (Ob.has_res.2 hg)) (fun g hg => hz 1 _ g rfl (Ob.has_res.2 hg)) (fun g h1 h2 => absurd (hp97 1 3 _ _ g rfl rfl (Ob.has_res.2 h1) (Ob.has_res.2 h2)) (by decide)))
        refine RL.val (O.assign rfl) rfl ?_
        refine RL.nil ?_
        refine KQ.blk_n ?_
        refine KQ.then_n ?_
        refine KC.region ?_
        refine RL.val (O.add rfl rfl) rfl ?_
        refine RL.val (O.move rfl) rfl ?_
        refine RL.nil ?_
        refine KQ.then_k ?_
        exact fun a ha => ⟨k82, Nat.lt_succ_self k82, A92, c93, (css75 ++ ([[.int .u64 xv83, .slice none (([] : List Int)).length 0]] : List (List Value))), Z96, (lv78 ++ [(T_field_Value.mk xv83 ([]))]), (IntKind.i64.wrap (t79 + 1)), ha.less (less_cons rfl (less_cons rfl (less_cons rfl less_nil))), hM, hF⟩
      · rw [if_neg (ne_true hc)] at hF
        refine KC.exit ?_
        refine KQ.then_x ?_
        refine KQ.then_x ?_
        refine KQ.blk_x ?_
        refine KQ.then_n ?_
        refine KC.seq ?_
        refine KC.region ?_
        refine RL.val (O.move rfl) rfl ?_
        refine RL.val (O.assign rfl) rfl ?_
        refine RL.val (O.assign rfl) rfl ?_
        refine RL.nil ?_
        refine KQ.then_n ?_
        refine KC.ret ?_
        obtain rfl := Option.some.inj hF
        refine KQ.rets Try.results21 (RVs.cons (RV.tm rfl) (RVs.cons (RV.tm rfl) RVs.nil)) ?_
        exact ⟨_, rfl, A73, c74, css75, Z76, rfl, hM⟩
set_option maxRecDepth 100000 in
set_option maxHeartbeats 40000000 in
theorem c_flow_Specs (w : World) (long1 : Bool) (r : (List T_field_Spec)) (hF : F_flow_Specs long1 = some r) :
    CallsR Try.prog 22 [.bool long1] w (fun v w' => ∃ (A0 : Option Addr) (c0 : Nat), v = .slice A0 (r).length c0 ∧ Mem w [] w' [.row A0 c0 79 3 r.length (r.flatMap e_field_Spec)]) := by
  refine calls_KC Try.func22 rfl Try.ntmps22 rfl ?_
  have hM := Mem.init w
  unfold F_flow_Specs at hF
  refine KC.seq ?_
  refine KC.region ?_
  refine RL.val (O.assign rfl) rfl ?_
  refine RL.nil ?_
  refine KQ.then_n ?_
  refine KC.seq ?_
  refine KC.region ?_
  refine RL.val (O.bld (cs := [.int .u16 8, .int .u32 0, .int .u16 4]) bt79 rfl (by kernel_rfl)) rfl ?_
  refine RL.val (O.bld (cs := [.int .u16 12, .int .u32 0, .int .u16 4]) bt79 rfl (by kernel_rfl)) rfl ?_
  refine RL.eff (E.bsl (enc := e_field_Spec) (xs := [(T_field_Spec.mk 8 0 4), (T_field_Spec.mk 12 0 4)]) hM sl67 ze79 rfl rfl rfl (fun _ => rfl) rfl (by kernel_rfl) rfl) rfl fun v w2 hv => ?_
  clear hM
  obtain ⟨A3, rfl, hM, hf⟩ := hv
  refine RL.val (O.assign rfl) rfl ?_
  refine RL.nil ?_
  refine KQ.then_n ?_
  refine KC.cut (fun a w12 => ∃ (A9 : Option Addr) (c10 : Nat) (lv11 : List T_field_Spec), Kn 24 [(3, .slice A9 (lv11).length c10)] a ∧ Mem w [] w12 [.row A9 c10 79 3 (lv11).length ((lv11).flatMap e_field_Spec)] ∧ F_flow_Specs_j1 lv11 = some r) ?_ ?_
  · refine KC.seq ?_
    refine KC.region ?_
    refine RL.val (O.move rfl) rfl ?_
    refine RL.nil ?_
    refine KQ.then_n ?_
    refine KC.cond rfl (fun hc => ?_) (fun hc => ?_)
    · rw [if_pos hc] at hF
      refine KC.region ?_
      refine RL.val (O.bld (cs := [.int .u16 27, .int .u32 0, .int .u16 16]) bt79 rfl (by kernel_rfl)) rfl ?_
      refine RL.val (O.bld (cs := [.int .u16 28, .int .u32 0, .int .u16 16]) bt79 rfl (by kernel_rfl)) rfl ?_
      refine RL.eff (E.bsl (enc := e_field_Spec) (xs := [(T_field_Spec.mk 27 0 16), (T_field_Spec.mk 28 0 16)]) hM sl67 ze79 rfl rfl rfl (fun _ => rfl) rfl (by kernel_rfl) rfl) rfl fun v w5 hv => ?_
      clear hM
      obtain ⟨A6, rfl, hM, hf⟩ := hv
      refine RL.val (O.assign rfl) rfl ?_
      refine RL.nil ?_
      refine KQ.then_k ?_
      replace hM := hM.pick [1] rfl (by decide)
      exact fun a ha => ⟨A6, 2, ([(T_field_Spec.mk 27 0 16), (T_field_Spec.mk 28 0 16)]), ha.less (less_cons rfl less_nil), hM, hF⟩
    · rw [if_neg (ne_true hc)] at hF
      refine KC.skip ?_
      refine KQ.then_k ?_
      exact fun a ha => ⟨A3, 2, ([(T_field_Spec.mk 8 0 4), (T_field_Spec.mk 12 0 4)]), ha.less (less_cons rfl less_nil), hM, hF⟩
  · rintro a w12 ⟨A9, c10, lv11, ha, hM, hF⟩
    refine KC.app ha ?_
    clear ha
    unfold F_flow_Specs_j1 at hF
    refine KC.seq ?_
    refine KC.region ?_
    refine RL.val (O.move rfl) rfl ?_
    refine RL.val (O.bld (cs := [.int .u16 4, .int .u32 0, .int .u16 1]) bt79 rfl (by kernel_rfl)) rfl ?_
    refine RL.val (O.bld (cs := [.int .u16 7, .int .u32 0, .int .u16 2]) bt79 rfl (by kernel_rfl)) rfl ?_
    refine RL.val (O.bld (cs := [.int .u16 11, .int .u32 0, .int .u16 2]) bt79 rfl (by kernel_rfl)) rfl ?_
    refine RL.val (O.bld (cs := [.int .u16 1, .int .u32 0, .int .u16 8]) bt79 rfl (by kernel_rfl)) rfl ?_
    refine RL.val (O.bld (cs := [.int .u16 2, .int .u32 0, .int .u16 8]) bt79 rfl (by kernel_rfl)) rfl ?_
    refine RL.val (O.bld (cs := [.int .u16 152, .int .u32 0, .int .u16 8]) bt79 rfl (by kernel_rfl)) rfl ?_
    refine RL.val (O.bld (cs := [.int .u16 153, .int .u32 0, .int .u16 8]) bt79 rfl (by kernel_rfl)) rfl ?_
    refine RL.val (O.bld (cs := [.int .u16 6, .int .u32 0, .int .u16 1]) bt79 rfl (by kernel_rfl)) rfl ?_
    refine RL.val (O.bld (cs := [.int .u16 136, .int .u32 0, .int .u16 1]) bt79 rfl (by kernel_rfl)) rfl ?_
    refine RL.val (O.bld (cs := [.int .u16 1, .int .u32 32473, .int .u16 1]) bt79 rfl (by kernel_rfl)) rfl ?_
    refine RL.eff (E.bsl (enc := e_field_Spec) (xs := [(T_field_Spec.mk 4 0 1), (T_field_Spec.mk 7 0 2), (T_field_Spec.mk 11 0 2), (T_field_Spec.mk 1 0 8), (T_field_Spec.mk 2 0 8), (T_field_Spec.mk 152 0 8), (T_field_Spec.mk 153 0 8), (T_field_Spec.mk 6 0 1), (T_field_Spec.mk 136 0 1), (T_field_Spec.mk 1 32473 1)]) hM sl67 ze79 rfl rfl rfl (fun _ => rfl) rfl (by kernel_rfl) rfl) rfl fun v w13 hv => ?_
    clear hM
    obtain ⟨A14, rfl, hM, hf⟩ := hv
    refine cut_someE hF fun hq19 hF => ?_
    refine RL.eff (E.app (enc := e_field_Spec) (xs := lv11) (ys := [(T_field_Spec.mk 4 0 1), (T_field_Spec.mk 7 0 2), (T_field_Spec.mk 11 0 2), (T_field_Spec.mk 1 0 8), (T_field_Spec.mk 2 0 8), (T_field_Spec.mk 152 0 8), (T_field_Spec.mk 153 0 8), (T_field_Spec.mk 6 0 1), (T_field_Spec.mk 136 0 1), (T_field_Spec.mk 1 32473 1)]) (j := 0) hM rfl sl67 ze79 rfl rfl rfl rfl rfl (hM.rd (i := 1) rfl) (fun _ => One.all rfl) (of_decide_eq_true hq19)) rfl fun v w18 hv => ?_
    clear hM
    obtain ⟨A16, c17, rfl, hM, hf⟩ := hv
    refine RL.val (O.assign rfl) rfl ?_
    refine RL.nil ?_
    refine KQ.then_n ?_
    refine KC.ret ?_
    obtain rfl := Option.some.inj hF
    replace hM := hM.pick [0] rfl (by decide)
    refine KQ.rets Try.results22 (RVs.cons (RV.tm rfl) RVs.nil) ?_
    exact ⟨_, rfl, A16, c17, rfl, hM⟩
set_option maxRecDepth 100000 in
set_option maxHeartbeats 40000000 in
theorem c_docs_FieldValue (w : World) (v1 : T_field_Value) (A2 : Option Addr) (c3 : Nat) (hr4 : Rd w A2 c3 1 v1.f_B.length (v1.f_B.flatMap (eI .u8))) (r : T_ref18_Value) (hF : F_docs_FieldValue v1 = some r) :
    CallsR Try.prog 36 [.agg #[.int .u64 v1.f_N, .slice A2 (v1.f_B).length c3]] w (fun v w' => v = .agg #[.int .u64 r.f_N, .string r.f_B] ∧ Mem w [] w' []) := by
  refine calls_KC Try.func36 rfl Try.ntmps36 rfl ?_
  have hM := Mem.init w
  unfold F_docs_FieldValue at hF
  refine KC.seq ?_
  refine KC.region ?_
  refine RL.eff (E.box (vs := [.int .u64 v1.f_N, .slice A2 (v1.f_B).length c3]) hM rfl rfl) rfl fun v w6 hv => ?_
  clear hM
  obtain ⟨g5, rfl, hM, hf⟩ := hv
  refine RL.eff (E.alloc hM ze87) rfl fun v w9 hv => ?_
  clear hM
  obtain ⟨g8, rfl, hM, hf⟩ := hv
  refine RL.nil ?_
  refine KQ.then_n ?_
  refine KC.seq ?_
  refine KC.region ?_
  refine RL.val (O.fldA fl76_0 (by decide) rfl) rfl ?_
  refine RL.val (O.load sc30 rfl (Cs.adds [0] ((hM.bx (i := 0) rfl)) rfl)) rfl ?_
  refine RL.val (O.fldA fl76_1 (by decide) rfl) rfl ?_
  refine RL.val (O.load sc74 rfl (Cs.adds [1] ((hM.bx (i := 0) rfl)) rfl)) rfl ?_
  refine RL.val (O.b2s sl74 Try.underlying5 Try.underlying9 rfl ((hM.inp hr4 Off.nil))) rfl ?_
  refine RL.val (O.bld (cs := [.int .u64 v1.f_N, .string (strOfNums v1.f_B)]) bt87 rfl (by kernel_rfl)) rfl ?_
  refine RL.effs (E.stB (j := 1) (off := 0) (vs := [.int .u64 v1.f_N, .string (strOfNums v1.f_B)]) (cs' := [.int .u64 v1.f_N, .string (strOfNums v1.f_B)]) hM rfl sz87 rfl (adds_eq [] rfl) rfl rfl (One.all rfl) rfl rfl) fun w11 hM1 => ?_
  clear hM
  have hM := hM1
  clear hM1
  refine RL.nil ?_
  refine KQ.then_n ?_
  refine KC.ret ?_
  obtain rfl := Option.some.inj hF
  have hb12 := hM.bx (i := 1) rfl
  replace hM := hM.pick [] rfl (by decide)
  refine KQ.rets Try.results36 (RVs.cons (RV.cN (cs := [.int .u64 v1.f_N, .string (strOfNums v1.f_B)]) rfl ag87 hb12) RVs.nil) ?_
  exact ⟨_, rfl, rfl, hM⟩
set_option maxRecDepth 100000 in
set_option maxHeartbeats 40000000 in
theorem c_docs_SameValues (w : World) (A2 : Option Addr) (c3 : Nat) (lv1 : List T_field_Value) (hr4 : RdD R_field_Value [] w A2 c3 2 lv1) (A6 : Option Addr) (c7 : Nat) (rv5 : List T_ref18_Value) (hr8 : Rd w A6 c7 2 rv5.length (rv5.flatMap e_ref18_Value)) (r : Bool) (hF : F_docs_SameValues lv1 rv5 = some r) :
    CallsR Try.prog 23 [.slice A2 (lv1).length c3, .slice A6 (rv5).length c7] w (fun v w' => v = .bool r ∧ Mem w [] w' []) := by
  refine calls_KC Try.func23 rfl Try.ntmps23 rfl ?_
  have hM := Mem.init w
  unfold F_docs_SameValues at hF
  refine KC.seq ?_
  refine KC.region ?_
  refine RL.val (O.assign rfl) rfl ?_
  refine RL.nil ?_
  refine KQ.then_n ?_
  refine KC.seq ?_
  refine KC.seq ?_
  refine KC.region ?_
  refine RL.val (O.move rfl) rfl ?_
  refine RL.val (O.len sl64 rfl) rfl ?_
  refine RL.val (O.move rfl) rfl ?_
  refine RL.val (O.len sl60 rfl) rfl ?_
  refine RL.val (O.neq rfl rfl) rfl ?_
  refine RL.nil ?_
  refine KQ.then_n ?_
  refine KC.cond rfl (fun hc => ?_) (fun hc => ?_)
  · rw [if_pos hc] at hF
    refine KC.seq ?_
    refine KC.region ?_
    refine RL.val (O.assign rfl) rfl ?_
    refine RL.nil ?_
    refine KQ.then_n ?_
    refine KC.ret ?_
    refine KQ.then_r ?_
    obtain rfl := Option.some.inj hF
    refine KQ.rets Try.results23 (RVs.cons (RV.tm rfl) RVs.nil) ?_
    exact ⟨_, rfl, rfl, hM⟩
  · rw [if_neg (ne_true hc)] at hF
    refine KC.skip ?_
    refine KQ.then_n ?_
    refine KC.seq ?_
    refine KC.seq ?_
    refine KC.region ?_
    refine RL.val (O.assign rfl) rfl ?_
    refine RL.nil ?_
    refine KQ.then_n ?_
    refine KC.block ?_
    refine KC.loop (fun k47 a w45 => ∃ (i44 : Int), Kn 27 [(0, .slice A2 (lv1).length c3), (1, .slice A6 (rv5).length c7), (5, .int .i64 i44)] a ∧ Mem w [] w45 [] ∧ F_docs_SameValues_L1 lv1 rv5 k47 i44 = some r) ?_ ?_
    · exact fun a ha => ⟨fuel0, 0, ha.less (less_cons rfl (less_cons rfl (less_cons rfl less_nil))), hM, hF⟩
    · rintro k47 a w45 ⟨i44, ha, hM, hF⟩
      refine KC.app ha ?_
      clear ha
      cases k47 with
      | zero => exact (none_some hF).elim
      | succ k47 =>
      have hF : F_docs_SameValues_l1 (F_docs_SameValues_L1 lv1 rv5 k47) lv1 rv5 i44 = some r := hF
      unfold F_docs_SameValues_l1 at hF
      refine KC.seq ?_
      refine KC.seq ?_
      refine KC.region ?_
      refine RL.val (O.move rfl) rfl ?_
      refine RL.val (O.move rfl) rfl ?_
      refine RL.val (O.len sl64 rfl) rfl ?_
      refine RL.val (O.lss rfl rfl) rfl ?_
      refine RL.nil ?_
      refine KQ.then_n ?_
      refine KC.cond rfl (fun hc => ?_) (fun hc => ?_)
      · rw [if_pos hc] at hF
        refine KC.skip ?_
        refine KQ.then_n ?_
        refine KC.seq ?_
        refine KC.block ?_
        refine KC.seq ?_
        replace hM := hM.drewN 1
        refine KC.draw [] [] [4] [0, 1, 5, 6, 9] (.ofList [0, 1, 2, 3, 5, 6, 7, 8, 4, 9]) moP (by kernel_rfl) ?_
        refine RD.p rfl rfl rfl rfl (fun w' => O.move rfl) ?_
        refine RD.p rfl rfl rfl rfl (fun w' => O.move rfl) ?_
        refine obindE hF fun xv50 hx49 hF => ?_
        obtain ⟨cs53, hA48, hR51, hO52⟩ := RdD.at hr4 hx49
        obtain ⟨A54, c55, rfl, hr56, ho57⟩ := hR51
        have hA48 := hA48.chg hM.chg hO52
        refine RD.q rfl rfl rfl rfl (fun w' hf => O.idxA sl64 (hA48.fut hf) rfl rfl) ?_
        refine RD.q rfl rfl rfl rfl (fun w' hf => O.loadN (cs := [.int .u64 xv50.f_N, .slice A54 (xv50.f_B).length c55]) ag76 rfl (hA48.fut hf).cells) ?_
        refine RD.p rfl rfl rfl rfl (fun w' => O.move rfl) ?_
        refine RD.p rfl rfl rfl rfl (fun w' => O.move rfl) ?_
        refine obindE hF fun xv60 hx59 hF => ?_
        have hA58 := Rd.atN (f := e_ref18_Value) (s := 2) (fun _ => rfl) (by decide) (hM.inp hr8 Off.nil) hx59
        refine RD.q rfl rfl rfl rfl (fun w' hf => O.idxA sl60 (hA58.fut hf) rfl rfl) ?_
        refine RD.q rfl rfl rfl rfl (fun w' hf => O.loadN (cs := [.int .u64 xv60.f_N, .string xv60.f_B]) ag87 rfl (hA58.fut hf).cells) ?_
        refine obindE hF fun y61 hx62 hF => ?_
        refine RD.mcall rfl rfl trivial Try.func36 bd36 rfl rfl (c_docs_FieldValue _ xv50 _ _ (hM.inp hr56 Off.nil) _ hx62) fun v w63 hv => ?_
        obtain ⟨rfl, hN64⟩ := hv
        refine ⟨fun _ => hN64.fut, ?_⟩
        replace hM := hM.call0 hN64
        refine RD.p rfl rfl rfl rfl (fun w' => O.stne (cs := [.int .u64 y61.f_N, .string y61.f_B]) (cs' := [.int .u64 xv60.f_N, .string xv60.f_B]) (by kernel_rfl) rfl rfl (Q87t y61 xv60 _ rfl rfl)) ?_
        refine RD.nil ?_
        refine KQ.then_n ?_
        refine KC.cond rfl (fun hc => ?_) (fun hc => ?_)
        · rw [if_pos hc] at hF
          refine KC.seq ?_
          refine KC.region ?_
          refine RL.val (O.assign rfl) rfl ?_
          refine RL.nil ?_
          refine KQ.then_n ?_
          refine KC.ret ?_
          refine KQ.blk_r ?_
          refine KQ.then_r ?_
          refine KQ.then_r ?_
          refine KQ.blk_r ?_
          refine KQ.then_r ?_
          obtain rfl := Option.some.inj hF
          refine KQ.rets Try.results23 (RVs.cons (RV.tm rfl) RVs.nil) ?_
          exact ⟨_, rfl, rfl, hM⟩
        · rw [if_neg (ne_true hc)] at hF
          refine KC.skip ?_
          refine KQ.blk_n ?_
          refine KQ.then_n ?_
          refine KC.region ?_
          refine RL.val (O.move rfl) rfl ?_
          refine RL.val (O.add rfl rfl) rfl ?_
          refine RL.val (O.assign rfl) rfl ?_
          refine RL.nil ?_
          refine KQ.then_k ?_
          exact fun a ha => ⟨k47, Nat.lt_succ_self k47, (IntKind.i64.wrap (i44 + 1)), ha.less (less_cons rfl (less_cons rfl (less_cons rfl less_nil))), hM, hF⟩
      · rw [if_neg (ne_true hc)] at hF
        refine KC.exit ?_
        refine KQ.then_x ?_
        refine KQ.then_x ?_
        refine KQ.blk_x ?_
        refine KQ.then_n ?_
        refine KC.seq ?_
        refine KC.region ?_
        refine RL.val (O.assign rfl) rfl ?_
        refine RL.nil ?_
        refine KQ.then_n ?_
        refine KC.ret ?_
        obtain rfl := Option.some.inj hF
        refine KQ.rets Try.results23 (RVs.cons (RV.tm rfl) RVs.nil) ?_
        exact ⟨_, rfl, rfl, hM⟩
set_option maxRecDepth 100000 in
set_option maxHeartbeats 40000000 in
theorem c_ref22_Specs (w : World) (six1 : Bool) (r : (List T_field_Spec)) (hF : F_ref22_Specs six1 = some r) :
    CallsR Try.prog 25 [.bool six1] w (fun v w' => ∃ (A0 : Option Addr) (c0 : Nat), v = .slice A0 (r).length c0 ∧ Mem w [] w' [.row A0 c0 91 3 r.length (r.flatMap e_field_Spec)]) := by
  refine calls_KC Try.func25 rfl Try.ntmps25 rfl ?_
  have hM := Mem.init w
  unfold F_ref22_Specs at hF
  refine KC.seq ?_
  refine KC.region ?_
  refine RL.val (O.assign rfl) rfl ?_
  refine RL.nil ?_
  refine KQ.then_n ?_
  refine KC.seq ?_
  refine KC.region ?_
  refine RL.val (O.bld (cs := [.int .u16 8, .int .u32 0, .int .u16 4]) bt91 rfl (by kernel_rfl)) rfl ?_
  refine RL.val (O.bld (cs := [.int .u16 12, .int .u32 0, .int .u16 4]) bt91 rfl (by kernel_rfl)) rfl ?_
  refine RL.eff (E.bsl (enc := e_field_Spec) (xs := [(T_field_Spec.mk 8 0 4), (T_field_Spec.mk 12 0 4)]) hM sl71 ze91 rfl rfl rfl (fun _ => rfl) rfl (by kernel_rfl) rfl) rfl fun v w2 hv => ?_
  clear hM
  obtain ⟨A3, rfl, hM, hf⟩ := hv
  refine RL.val (O.assign rfl) rfl ?_
  refine RL.nil ?_
  refine KQ.then_n ?_
  refine KC.cut (fun a w12 => ∃ (A9 : Option Addr) (c10 : Nat) (lv11 : List T_field_Spec), Kn 24 [(3, .slice A9 (lv11).length c10)] a ∧ Mem w [] w12 [.row A9 c10 91 3 (lv11).length ((lv11).flatMap e_field_Spec)] ∧ F_ref22_Specs_j1 lv11 = some r) ?_ ?_
  · refine KC.seq ?_
    refine KC.region ?_
    refine RL.val (O.move rfl) rfl ?_
    refine RL.nil ?_
    refine KQ.then_n ?_
    refine KC.cond rfl (fun hc => ?_) (fun hc => ?_)
    · rw [if_pos hc] at hF
      refine KC.region ?_
      refine RL.val (O.bld (cs := [.int .u16 27, .int .u32 0, .int .u16 16]) bt91 rfl (by kernel_rfl)) rfl ?_
      refine RL.val (O.bld (cs := [.int .u16 28, .int .u32 0, .int .u16 16]) bt91 rfl (by kernel_rfl)) rfl ?_
      refine RL.eff (E.bsl (enc := e_field_Spec) (xs := [(T_field_Spec.mk 27 0 16), (T_field_Spec.mk 28 0 16)]) hM sl71 ze91 rfl rfl rfl (fun _ => rfl) rfl (by kernel_rfl) rfl) rfl fun v w5 hv => ?_
      clear hM
      obtain ⟨A6, rfl, hM, hf⟩ := hv
      refine RL.val (O.assign rfl) rfl ?_
      refine RL.nil ?_
      refine KQ.then_k ?_
      replace hM := hM.pick [1] rfl (by decide)
      exact fun a ha => ⟨A6, 2, ([(T_field_Spec.mk 27 0 16), (T_field_Spec.mk 28 0 16)]), ha.less (less_cons rfl less_nil), hM, hF⟩
    · rw [if_neg (ne_true hc)] at hF
      refine KC.skip ?_
      refine KQ.then_k ?_
      exact fun a ha => ⟨A3, 2, ([(T_field_Spec.mk 8 0 4), (T_field_Spec.mk 12 0 4)]), ha.less (less_cons rfl less_nil), hM, hF⟩
  · rintro a w12 ⟨A9, c10, lv11, ha, hM, hF⟩
    refine KC.app ha ?_
    clear ha
    unfold F_ref22_Specs_j1 at hF
    refine KC.seq ?_
    refine KC.region ?_
    refine RL.val (O.move rfl) rfl ?_
    refine RL.val (O.bld (cs := [.int .u16 4, .int .u32 0, .int .u16 1]) bt91 rfl (by kernel_rfl)) rfl ?_
    refine RL.val (O.bld (cs := [.int .u16 7, .int .u32 0, .int .u16 2]) bt91 rfl (by kernel_rfl)) rfl ?_
    refine RL.val (O.bld (cs := [.int .u16 11, .int .u32 0, .int .u16 2]) bt91 rfl (by kernel_rfl)) rfl ?_
    refine RL.val (O.bld (cs := [.int .u16 1, .int .u32 0, .int .u16 8]) bt91 rfl (by kernel_rfl)) rfl ?_
    refine RL.val (O.bld (cs := [.int .u16 2, .int .u32 0, .int .u16 8]) bt91 rfl (by kernel_rfl)) rfl ?_
    refine RL.val (O.bld (cs := [.int .u16 152, .int .u32 0, .int .u16 8]) bt91 rfl (by kernel_rfl)) rfl ?_
    refine RL.val (O.bld (cs := [.int .u16 153, .int .u32 0, .int .u16 8]) bt91 rfl (by kernel_rfl)) rfl ?_
    refine RL.val (O.bld (cs := [.int .u16 6, .int .u32 0, .int .u16 1]) bt91 rfl (by kernel_rfl)) rfl ?_
    refine RL.val (O.bld (cs := [.int .u16 136, .int .u32 0, .int .u16 1]) bt91 rfl (by kernel_rfl)) rfl ?_
    refine RL.val (O.bld (cs := [.int .u16 1, .int .u32 32473, .int .u16 1]) bt91 rfl (by kernel_rfl)) rfl ?_
    refine RL.eff (E.bsl (enc := e_field_Spec) (xs := [(T_field_Spec.mk 4 0 1), (T_field_Spec.mk 7 0 2), (T_field_Spec.mk 11 0 2), (T_field_Spec.mk 1 0 8), (T_field_Spec.mk 2 0 8), (T_field_Spec.mk 152 0 8), (T_field_Spec.mk 153 0 8), (T_field_Spec.mk 6 0 1), (T_field_Spec.mk 136 0 1), (T_field_Spec.mk 1 32473 1)]) hM sl71 ze91 rfl rfl rfl (fun _ => rfl) rfl (by kernel_rfl) rfl) rfl fun v w13 hv => ?_
    clear hM
    obtain ⟨A14, rfl, hM, hf⟩ := hv
    refine cut_someE hF fun hq19 hF => ?_
    refine RL.eff (E.app (enc := e_field_Spec) (xs := lv11) (ys := [(T_field_Spec.mk 4 0 1), (T_field_Spec.mk 7 0 2), (T_field_Spec.mk 11 0 2), (T_field_Spec.mk 1 0 8), (T_field_Spec.mk 2 0 8), (T_field_Spec.mk 152 0 8), (T_field_Spec.mk 153 0 8), (T_field_Spec.mk 6 0 1), (T_field_Spec.mk 136 0 1), (T_field_Spec.mk 1 32473 1)]) (j := 0) hM rfl sl71 ze91 rfl rfl rfl rfl rfl (hM.rd (i := 1) rfl) (fun _ => One.all rfl) (of_decide_eq_true hq19)) rfl fun v w18 hv => ?_
    clear hM
    obtain ⟨A16, c17, rfl, hM, hf⟩ := hv
    refine RL.val (O.assign rfl) rfl ?_
    refine RL.nil ?_
    refine KQ.then_n ?_
    refine KC.ret ?_
    obtain rfl := Option.some.inj hF
    replace hM := hM.pick [0] rfl (by decide)
    refine KQ.rets Try.results25 (RVs.cons (RV.tm rfl) RVs.nil) ?_
    exact ⟨_, rfl, A16, c17, rfl, hM⟩
set_option maxRecDepth 100000 in
set_option maxHeartbeats 40000000 in
theorem c_docs_FieldSpec (w : World) (s1 : T_field_Spec) (r : T_field_Spec) (hF : F_docs_FieldSpec s1 = some r) :
    CallsR Try.prog 37 [.agg #[.int .u16 s1.f_ID, .int .u32 s1.f_PEN, .int .u16 s1.f_Len]] w (fun v w' => v = .agg #[.int .u16 r.f_ID, .int .u32 r.f_PEN, .int .u16 r.f_Len] ∧ Mem w [] w' []) := by
  refine calls_KC Try.func37 rfl Try.ntmps37 rfl ?_
  have hM := Mem.init w
  unfold F_docs_FieldSpec at hF
  refine KC.seq ?_
  refine KC.region ?_
  refine RL.eff (E.box (vs := [.int .u16 s1.f_ID, .int .u32 s1.f_PEN, .int .u16 s1.f_Len]) hM rfl rfl) rfl fun v w3 hv => ?_
  clear hM
  obtain ⟨g2, rfl, hM, hf⟩ := hv
  refine RL.eff (E.alloc hM ze91) rfl fun v w6 hv => ?_
  clear hM
  obtain ⟨g5, rfl, hM, hf⟩ := hv
  refine RL.nil ?_
  refine KQ.then_n ?_
  refine KC.seq ?_
  refine KC.region ?_
  refine RL.val (O.fldA fl79_0 (by decide) rfl) rfl ?_
  refine RL.val (O.load sc25 rfl (Cs.adds [0] ((hM.bx (i := 0) rfl)) rfl)) rfl ?_
  refine RL.val (O.fldA fl79_1 (by decide) rfl) rfl ?_
  refine RL.val (O.load sc77 rfl (Cs.adds [1] ((hM.bx (i := 0) rfl)) rfl)) rfl ?_
  refine RL.val (O.fldA fl79_2 (by decide) rfl) rfl ?_
  refine RL.val (O.load sc25 rfl (Cs.adds [2] ((hM.bx (i := 0) rfl)) rfl)) rfl ?_
  refine RL.val (O.bld (cs := [.int .u16 s1.f_ID, .int .u32 s1.f_PEN, .int .u16 s1.f_Len]) bt91 rfl (by kernel_rfl)) rfl ?_
  refine RL.effs (E.stB (j := 1) (off := 0) (vs := [.int .u16 s1.f_ID, .int .u32 s1.f_PEN, .int .u16 s1.f_Len]) (cs' := [.int .u16 s1.f_ID, .int .u32 s1.f_PEN, .int .u16 s1.f_Len]) hM rfl sz91 rfl (adds_eq [] rfl) rfl rfl (One.all rfl) rfl rfl) fun w8 hM1 => ?_
  clear hM
  have hM := hM1
  clear hM1
  refine RL.nil ?_
  refine KQ.then_n ?_
  refine KC.ret ?_
  obtain rfl := Option.some.inj hF
  have hb9 := hM.bx (i := 1) rfl
  replace hM := hM.pick [] rfl (by decide)
  refine KQ.rets Try.results37 (RVs.cons (RV.cN (cs := [.int .u16 s1.f_ID, .int .u32 s1.f_PEN, .int .u16 s1.f_Len]) rfl ag91 hb9) RVs.nil) ?_
  exact ⟨_, rfl, rfl, hM⟩
set_option maxRecDepth 100000 in
set_option maxHeartbeats 40000000 in
theorem c_docs_SameSpecs (w : World) (A2 : Option Addr) (c3 : Nat) (lv1 : List T_field_Spec) (hr4 : Rd w A2 c3 3 lv1.length (lv1.flatMap e_field_Spec)) (A6 : Option Addr) (c7 : Nat) (rv5 : List T_field_Spec) (hr8 : Rd w A6 c7 3 rv5.length (rv5.flatMap e_field_Spec)) (r : Bool) (hF : F_docs_SameSpecs lv1 rv5 = some r) :
    CallsR Try.prog 24 [.slice A2 (lv1).length c3, .slice A6 (rv5).length c7] w (fun v w' => v = .bool r ∧ Mem w [] w' []) := by
  refine calls_KC Try.func24 rfl Try.ntmps24 rfl ?_
  have hM := Mem.init w
  unfold F_docs_SameSpecs at hF
  refine KC.seq ?_
  refine KC.region ?_
  refine RL.val (O.assign rfl) rfl ?_
  refine RL.nil ?_
  refine KQ.then_n ?_
  refine KC.seq ?_
  refine KC.seq ?_
  refine KC.region ?_
  refine RL.val (O.move rfl) rfl ?_
  refine RL.val (O.len sl67 rfl) rfl ?_
  refine RL.val (O.move rfl) rfl ?_
  refine RL.val (O.len sl71 rfl) rfl ?_
  refine RL.val (O.neq rfl rfl) rfl ?_
  refine RL.nil ?_
  refine KQ.then_n ?_
  refine KC.cond rfl (fun hc => ?_) (fun hc => ?_)
  · rw [if_pos hc] at hF
    refine KC.seq ?_
    refine KC.region ?_
    refine RL.val (O.assign rfl) rfl ?_
    refine RL.nil ?_
    refine KQ.then_n ?_
    refine KC.ret ?_
    refine KQ.then_r ?_
    obtain rfl := Option.some.inj hF
    refine KQ.rets Try.results24 (RVs.cons (RV.tm rfl) RVs.nil) ?_
    exact ⟨_, rfl, rfl, hM⟩
  · rw [if_neg (ne_true hc)] at hF
    refine KC.skip ?_
    refine KQ.then_n ?_
    refine KC.seq ?_
    refine KC.seq ?_
    refine KC.region ?_
    refine RL.val (O.assign rfl) rfl ?_
    refine RL.nil ?_
    refine KQ.then_n ?_
    refine KC.block ?_
    refine KC.loop (fun k33 a w31 => ∃ (i30 : Int), Kn 27 [(0, .slice A2 (lv1).length c3), (1, .slice A6 (rv5).length c7), (5, .int .i64 i30)] a ∧ Mem w [] w31 [] ∧ F_docs_SameSpecs_L1 lv1 rv5 k33 i30 = some r) ?_ ?_
    · exact fun a ha => ⟨fuel0, 0, ha.less (less_cons rfl (less_cons rfl (less_cons rfl less_nil))), hM, hF⟩
    · rintro k33 a w31 ⟨i30, ha, hM, hF⟩
      refine KC.app ha ?_
      clear ha
      cases k33 with
      | zero => exact (none_some hF).elim
      | succ k33 =>
      have hF : F_docs_SameSpecs_l1 (F_docs_SameSpecs_L1 lv1 rv5 k33) lv1 rv5 i30 = some r := hF
      unfold F_docs_SameSpecs_l1 at hF
      refine KC.seq ?_
      refine KC.seq ?_
      refine KC.region ?_
      refine RL.val (O.move rfl) rfl ?_
      refine RL.val (O.move rfl) rfl ?_
      refine RL.val (O.len sl67 rfl) rfl ?_
      refine RL.val (O.lss rfl rfl) rfl ?_
      refine RL.nil ?_
      refine KQ.then_n ?_
      refine KC.cond rfl (fun hc => ?_) (fun hc => ?_)
      · rw [if_pos hc] at hF
        refine KC.skip ?_
        refine KQ.then_n ?_
        refine KC.seq ?_
        refine KC.block ?_
        refine KC.seq ?_
        replace hM := hM.drewN 1
        refine KC.draw [] [] [4] [0, 1, 5, 6, 9] (.ofList [0, 1, 2, 3, 5, 6, 7, 8, 4, 9]) moP (by kernel_rfl) ?_
        refine RD.p rfl rfl rfl rfl (fun w' => O.move rfl) ?_
        refine RD.p rfl rfl rfl rfl (fun w' => O.move rfl) ?_
        refine obindE hF fun xv36 hx35 hF => ?_
        have hA34 := Rd.atN (f := e_field_Spec) (s := 3) (fun _ => rfl) (by decide) (hM.inp hr4 Off.nil) hx35
        refine RD.q rfl rfl rfl rfl (fun w' hf => O.idxA sl67 (hA34.fut hf) rfl rfl) ?_
        refine RD.q rfl rfl rfl rfl (fun w' hf => O.loadN (cs := [.int .u16 xv36.f_ID, .int .u32 xv36.f_PEN, .int .u16 xv36.f_Len]) ag79 rfl (hA34.fut hf).cells) ?_
        refine RD.p rfl rfl rfl rfl (fun w' => O.move rfl) ?_
        refine RD.p rfl rfl rfl rfl (fun w' => O.move rfl) ?_
        refine obindE hF fun xv39 hx38 hF => ?_
        have hA37 := Rd.atN (f := e_field_Spec) (s := 3) (fun _ => rfl) (by decide) (hM.inp hr8 Off.nil) hx38
        refine RD.q rfl rfl rfl rfl (fun w' hf => O.idxA sl71 (hA37.fut hf) rfl rfl) ?_
        refine RD.q rfl rfl rfl rfl (fun w' hf => O.loadN (cs := [.int .u16 xv39.f_ID, .int .u32 xv39.f_PEN, .int .u16 xv39.f_Len]) ag91 rfl (hA37.fut hf).cells) ?_
        refine obindE hF fun y40 hx41 hF => ?_
        refine RD.mcall rfl rfl trivial Try.func37 bd37 rfl rfl (c_docs_FieldSpec _ xv36 _ hx41) fun v w42 hv => ?_
        obtain ⟨rfl, hN43⟩ := hv
        refine ⟨fun _ => hN43.fut, ?_⟩
        replace hM := hM.call0 hN43
        refine RD.p rfl rfl rfl rfl (fun w' => O.stne (cs := [.int .u16 y40.f_ID, .int .u32 y40.f_PEN, .int .u16 y40.f_Len]) (cs' := [.int .u16 xv39.f_ID, .int .u32 xv39.f_PEN, .int .u16 xv39.f_Len]) (by kernel_rfl) rfl rfl (Q91t y40 xv39 _ rfl rfl)) ?_
        refine RD.nil ?_
        refine KQ.then_n ?_
        refine KC.cond rfl (fun hc => ?_) (fun hc => ?_)
        · rw [if_pos hc] at hF
          refine KC.seq ?_
          refine KC.region ?_
          refine RL.val (O.assign rfl) rfl ?_
          refine RL.nil ?_
          refine KQ.then_n ?_
          refine KC.ret ?_
          refine KQ.blk_r ?_
          refine KQ.then_r ?_
          refine KQ.then_r ?_
          refine KQ.blk_r ?_
          refine KQ.then_r ?_
          obtain rfl := Option.some.inj hF
          refine KQ.rets Try.results24 (RVs.cons (RV.tm rfl) RVs.nil) ?_
          exact ⟨_, rfl, rfl, hM⟩
        · rw [if_neg (ne_true hc)] at hF
          refine KC.skip ?_
          refine KQ.blk_n ?_
          refine KQ.then_n ?_
          refine KC.region ?_
          refine RL.val (O.move rfl) rfl ?_
          refine RL.val (O.add rfl rfl) rfl ?_
          refine RL.val (O.assign rfl) rfl ?_
          refine RL.nil ?_
          refine KQ.then_k ?_
          exact fun a ha => ⟨k33, Nat.lt_succ_self k33, (IntKind.i64.wrap (i30 + 1)), ha.less (less_cons rfl (less_cons rfl (less_cons rfl less_nil))), hM, hF⟩
      · rw [if_neg (ne_true hc)] at hF
        refine KC.exit ?_
        refine KQ.then_x ?_
        refine KQ.then_x ?_
        refine KQ.blk_x ?_
        refine KQ.then_n ?_
        refine KC.seq ?_
        refine KC.region ?_
        refine RL.val (O.assign rfl) rfl ?_
        refine RL.nil ?_
        refine KQ.then_n ?_
        refine KC.ret ?_
        obtain rfl := Option.some.inj hF
        refine KQ.rets Try.results24 (RVs.cons (RV.tm rfl) RVs.nil) ?_
        exact ⟨_, rfl, rfl, hM⟩
set_option maxRecDepth 100000 in
set_option maxHeartbeats 40000000 in
theorem c_kit_Spoil (w : World) (A2 : Option Addr) (c3 : Nat) (b1 : List Int) (hL5 : Lent w [.row A2 c3 5 1 (b1).length ((b1).flatMap (eI .u8))]) (r : (List Int)) (hF : F_kit_Spoil b1 = some r) :
    CallsR Try.prog 26 [.slice A2 (b1).length c3] w (fun v w' => v = .tuple #[] ∧ (b1.length = r.length) ∧ Mem w [rblk A2 c3] w' [.row A2 c3 5 1 r.length (r.flatMap (eI .u8))]) := by
  refine calls_KC Try.func26 rfl Try.ntmps26 rfl ?_
  have hM : Mem w [rblk A2 c3] w [.row A2 c3 5 1 (b1).length ((b1).flatMap (eI .u8))] := Mem.lendN hL5
  unfold F_kit_Spoil at hF
  refine KC.seq ?_
  refine KC.region ?_
  refine RL.val (O.assign rfl) rfl ?_
  refine RL.nil ?_
  refine KQ.then_n ?_
  refine KC.block ?_
  refine KC.loop (fun k26 a w24 => ∃ (p21 : List Int) (i23 : Int), Kn 12 [(0, .slice A2 (p21).length c3), (2, .int .i64 i23)] a ∧ Mem w [rblk A2 c3] w24 [.row A2 c3 5 1 (p21).length ((p21).flatMap (eI .u8))] ∧ (p21).length = (b1).length ∧ F_kit_Spoil_L1 k26 p21 i23 = some r) ?_ ?_
  · exact fun a ha => ⟨fuel0, b1, 0, ha.less (less_cons rfl (less_cons rfl less_nil)), hM, rfl, hF⟩
  · rintro k26 a w24 ⟨p21, i23, ha, hM, hl22, hF⟩
    refine KC.app ha ?_
    clear ha
    cases k26 with
    | zero => exact (none_some hF).elim
    | succ k26 =>
    have hF : F_kit_Spoil_l1 (F_kit_Spoil_L1 k26) p21 i23 = some r := hF
    unfold F_kit_Spoil_l1 at hF
    refine KC.seq ?_
    refine KC.seq ?_
    refine KC.region ?_
    refine RL.val (O.move rfl) rfl ?_
    refine RL.val (O.move rfl) rfl ?_
    refine RL.val (O.len sl74 rfl) rfl ?_
    refine RL.val (O.lss rfl rfl) rfl ?_
    refine RL.nil ?_
    refine KQ.then_n ?_
    refine KC.cond rfl (fun hc => ?_) (fun hc => ?_)
    · rw [if_pos hc] at hF
      refine KC.skip ?_
      refine KQ.then_n ?_
      refine KC.seq ?_
      refine KC.block ?_
      refine KC.region ?_
      refine RL.val (O.move rfl) rfl ?_
      refine RL.val (O.move rfl) rfl ?_
      refine obindE hF fun xv29 hx28 hF => ?_
      have hA27 := Rd.atN (f := (eI .u8)) (s := 1) (fun _ => rfl) (by decide) (hM.rd (i := 0) rfl) hx28
      refine RL.val (O.idxA sl74 (hA27) rfl rfl) rfl ?_
      refine RL.effs (E.stR (enc := (eI .u8)) (j := 0) (off := 0) (vs := [.int .u8 165]) (x' := 165) hM rfl (fun _ => rfl) hx28 sz5 rfl (addsR_eq [] rfl) rfl rfl (One.all rfl) rfl rfl) fun w30 hM1 => ?_
      clear hM
      obtain ⟨hM, hn31⟩ := hM1
      refine RL.reslot (t := 0) rfl hn31 ?_
      refine RL.reslot (t := 4) rfl hn31 ?_
      refine RL.reslot (t := 9) rfl hn31 ?_
      refine RL.nil ?_
      refine KQ.blk_n ?_
      refine KQ.then_n ?_
      refine KC.region ?_
      refine RL.val (O.move rfl) rfl ?_
      refine RL.val (O.add rfl rfl) rfl ?_
      refine RL.val (O.assign rfl) rfl ?_
      refine RL.nil ?_
      refine KQ.then_k ?_
      exact fun a ha => ⟨k26, Nat.lt_succ_self k26, (p21.set (i23).toNat 165), (IntKind.i64.wrap (i23 + 1)), ha.less (less_cons rfl (less_cons rfl less_nil)), hM, (List.length_set.trans hl22), hF⟩
    · rw [if_neg (ne_true hc)] at hF
      refine KC.exit ?_
      refine KQ.then_x ?_
      refine KQ.then_x ?_
      refine KQ.blk_x ?_
      obtain rfl := Option.some.inj hF
      refine KQ.endr Try.results26 RVs.nil ?_
      exact ⟨_, rfl, rfl, (hl22).symm, hM⟩
set_option maxRecDepth 100000 in
set_option maxHeartbeats 40000000 in
theorem c_flow_Number (w : World) (long1 : Bool) (r : Int) (hF : F_flow_Number long1 = some r) :
    CallsR Try.prog 27 [.bool long1] w (fun v w' => v = .int .u16 r ∧ Mem w [] w' []) := by
  refine calls_KC Try.func27 rfl Try.ntmps27 rfl ?_
  have hM := Mem.init w
  unfold F_flow_Number at hF
  refine KC.seq ?_
  refine KC.region ?_
  refine RL.val (O.assign rfl) rfl ?_
  refine RL.nil ?_
  refine KQ.then_n ?_
  refine KC.seq ?_
  refine KC.seq ?_
  refine KC.region ?_
  refine RL.val (O.move rfl) rfl ?_
  refine RL.nil ?_
  refine KQ.then_n ?_
  refine KC.cond rfl (fun hc => ?_) (fun hc => ?_)
  · rw [if_pos hc] at hF
    refine KC.seq ?_
    refine KC.region ?_
    refine RL.val (O.assign rfl) rfl ?_
    refine RL.nil ?_
    refine KQ.then_n ?_
    refine KC.ret ?_
    refine KQ.then_r ?_
    obtain rfl := Option.some.inj hF
    refine KQ.rets Try.results27 (RVs.cons (RV.tm rfl) RVs.nil) ?_
    exact ⟨_, rfl, rfl, hM⟩
  · rw [if_neg (ne_true hc)] at hF
    refine KC.skip ?_
    refine KQ.then_n ?_
    refine KC.seq ?_
    refine KC.region ?_
    refine RL.val (O.assign rfl) rfl ?_
    refine RL.nil ?_
    refine KQ.then_n ?_
    refine KC.ret ?_
    obtain rfl := Option.some.inj hF
    refine KQ.rets Try.results27 (RVs.cons (RV.tm rfl) RVs.nil) ?_
    exact ⟨_, rfl, rfl, hM⟩
set_option maxRecDepth 100000 in
set_option maxHeartbeats 40000000 in
theorem c_ref22_Number (w : World) (six1 : Bool) (r : Int) (hF : F_ref22_Number six1 = some r) :
    CallsR Try.prog 28 [.bool six1] w (fun v w' => v = .int .u16 r ∧ Mem w [] w' []) := by
  refine calls_KC Try.func28 rfl Try.ntmps28 rfl ?_
  have hM := Mem.init w
  unfold F_ref22_Number at hF
  refine KC.seq ?_
  refine KC.region ?_
  refine RL.val (O.assign rfl) rfl ?_
  refine RL.nil ?_
  refine KQ.then_n ?_
  refine KC.seq ?_
  refine KC.seq ?_
  refine KC.region ?_
  refine RL.val (O.move rfl) rfl ?_
  refine RL.nil ?_
  refine KQ.then_n ?_
  refine KC.cond rfl (fun hc => ?_) (fun hc => ?_)
  · rw [if_pos hc] at hF
    refine KC.seq ?_
    refine KC.region ?_
    refine RL.val (O.assign rfl) rfl ?_
    refine RL.nil ?_
    refine KQ.then_n ?_
    refine KC.ret ?_
    refine KQ.then_r ?_
    obtain rfl := Option.some.inj hF
    refine KQ.rets Try.results28 (RVs.cons (RV.tm rfl) RVs.nil) ?_
    exact ⟨_, rfl, rfl, hM⟩
  · rw [if_neg (ne_true hc)] at hF
    refine KC.skip ?_
    refine KQ.then_n ?_
    refine KC.seq ?_
    refine KC.region ?_
    refine RL.val (O.assign rfl) rfl ?_
    refine RL.nil ?_
    refine KQ.then_n ?_
    refine KC.ret ?_
    obtain rfl := Option.some.inj hF
    refine KQ.rets Try.results28 (RVs.cons (RV.tm rfl) RVs.nil) ?_
    exact ⟨_, rfl, rfl, hM⟩
end Go.Proofs.Yteafnfoponjoeaa
