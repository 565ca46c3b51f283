/- Printed by a program of this claim: each call returns what the plain function of its name gives. -/
import Derived.Test.YtnbakndfnjflhaaW1
import Derived.Test.YtnbakndfnjflhaaW16
set_option linter.unusedVariables false
namespace Go.Proofs.Ytnbakndfnjflhaa
open Go Go.Ox Go.RowKit
set_option maxRecDepth 100000 in
set_option maxHeartbeats 40000000 in
theorem c_ref23_Find (w : World) (A2 : Option Addr) (c3 : Nat) (t1 : List T_ref23_Slot) (hr4 : Rd w A2 c3 39 t1.length (t1.flatMap e_ref23_Slot)) (kv5 : T_ref08_Key) (r : Int × Int) (hF : F_ref23_Find t1 kv5 = some r) :
  CallsR Try.prog 23 [.slice A2 (t1).length c3, .agg #[Value.bool kv5.f_Src.f_Six, o8 kv5.f_Src.f_B 0, o8 kv5.f_Src.f_B 1, o8 kv5.f_Src.f_B 2, o8 kv5.f_Src.f_B 3, o8 kv5.f_Src.f_B 4, o8 kv5.f_Src.f_B 5, o8 kv5.f_Src.f_B 6, o8 kv5.f_Src.f_B 7, o8 kv5.f_Src.f_B 8, o8 kv5.f_Src.f_B 9, o8 kv5.f_Src.f_B 10, o8 kv5.f_Src.f_B 11, o8 kv5.f_Src.f_B 12, o8 kv5.f_Src.f_B 13, o8 kv5.f_Src.f_B 14, o8 kv5.f_Src.f_B 15, Value.bool kv5.f_Dst.f_Six, o8 kv5.f_Dst.f_B 0, o8 kv5.f_Dst.f_B 1, o8 kv5.f_Dst.f_B 2, o8 kv5.f_Dst.f_B 3, o8 kv5.f_Dst.f_B 4, o8 kv5.f_Dst.f_B 5, o8 kv5.f_Dst.f_B 6, o8 kv5.f_Dst.f_B 7, o8 kv5.f_Dst.f_B 8, o8 kv5.f_Dst.f_B 9, o8 kv5.f_Dst.f_B 10, o8 kv5.f_Dst.f_B 11, o8 kv5.f_Dst.f_B 12, o8 kv5.f_Dst.f_B 13, o8 kv5.f_Dst.f_B 14, o8 kv5.f_Dst.f_B 15, Value.int .u8 kv5.f_Proto, Value.int .u16 kv5.f_SrcPort, Value.int .u16 kv5.f_DstPort]] w (fun v w' => v = .tuple #[Value.int .i64 r.1, Value.int .i64 r.2] ∧ Mem w [] w' []) := by
 refine calls_KC Try.func23 rfl Try.ntmps23 rfl ?_
 have hM := Mem.init w
 unfold F_ref23_Find at hF
 refine KC.seqH fun Q6 hQ6 => ?_
 refine KC.region ?_
 refine RL.eff (E.box (vs := [Value.bool kv5.f_Src.f_Six, o8 kv5.f_Src.f_B 0, o8 kv5.f_Src.f_B 1, o8 kv5.f_Src.f_B 2, o8 kv5.f_Src.f_B 3, o8 kv5.f_Src.f_B 4, o8 kv5.f_Src.f_B 5, o8 kv5.f_Src.f_B 6, o8 kv5.f_Src.f_B 7, o8 kv5.f_Src.f_B 8, o8 kv5.f_Src.f_B 9, o8 kv5.f_Src.f_B 10, o8 kv5.f_Src.f_B 11, o8 kv5.f_Src.f_B 12, o8 kv5.f_Src.f_B 13, o8 kv5.f_Src.f_B 14, o8 kv5.f_Src.f_B 15, Value.bool kv5.f_Dst.f_Six, o8 kv5.f_Dst.f_B 0, o8 kv5.f_Dst.f_B 1, o8 kv5.f_Dst.f_B 2, o8 kv5.f_Dst.f_B 3, o8 kv5.f_Dst.f_B 4, o8 kv5.f_Dst.f_B 5, o8 kv5.f_Dst.f_B 6, o8 kv5.f_Dst.f_B 7, o8 kv5.f_Dst.f_B 8, o8 kv5.f_Dst.f_B 9, o8 kv5.f_Dst.f_B 10, o8 kv5.f_Dst.f_B 11, o8 kv5.f_Dst.f_B 12, o8 kv5.f_Dst.f_B 13, o8 kv5.f_Dst.f_B 14, o8 kv5.f_Dst.f_B 15, Value.int .u8 kv5.f_Proto, Value.int .u16 kv5.f_SrcPort, Value.int .u16 kv5.f_DstPort]) hM rfl rfl) rfl fun v w8 hv => ?_
 clear hM
 obtain ⟨g7, rfl, hM, hf⟩ := hv
 refine RL.val (O.assign rfl) rfl ?_
 refine RL.val (O.assign rfl) rfl ?_
 refine RL.nil ?_
 refine KQ.thn hQ6 ?_
 clear hQ6 Q6
 refine KC.seqH fun Q10 hQ10 => ?_
 refine KC.region ?_
 refine RL.val (O.loadN (cs := [Value.bool kv5.f_Src.f_Six, o8 kv5.f_Src.f_B 0, o8 kv5.f_Src.f_B 1, o8 kv5.f_Src.f_B 2, o8 kv5.f_Src.f_B 3, o8 kv5.f_Src.f_B 4, o8 kv5.f_Src.f_B 5, o8 kv5.f_Src.f_B 6, o8 kv5.f_Src.f_B 7, o8 kv5.f_Src.f_B 8, o8 kv5.f_Src.f_B 9, o8 kv5.f_Src.f_B 10, o8 kv5.f_Src.f_B 11, o8 kv5.f_Src.f_B 12, o8 kv5.f_Src.f_B 13, o8 kv5.f_Src.f_B 14, o8 kv5.f_Src.f_B 15, Value.bool kv5.f_Dst.f_Six, o8 kv5.f_Dst.f_B 0, o8 kv5.f_Dst.f_B 1, o8 kv5.f_Dst.f_B 2, o8 kv5.f_Dst.f_B 3, o8 kv5.f_Dst.f_B 4, o8 kv5.f_Dst.f_B 5, o8 kv5.f_Dst.f_B 6, o8 kv5.f_Dst.f_B 7, o8 kv5.f_Dst.f_B 8, o8 kv5.f_Dst.f_B 9, o8 kv5.f_Dst.f_B 10, o8 kv5.f_Dst.f_B 11, o8 kv5.f_Dst.f_B 12, o8 kv5.f_Dst.f_B 13, o8 kv5.f_Dst.f_B 14, o8 kv5.f_Dst.f_B 15, Value.int .u8 kv5.f_Proto, Value.int .u16 kv5.f_SrcPort, Value.int .u16 kv5.f_DstPort]) ag54 rfl (Cs.addsN [] ((hM.bx (i := 0) rfl)) rfl)) rfl ?_
 refine obindE hF fun y11 hx12 hF => ?_
 refine RL.call Try.func25 bd25 rfl rfl (c_ref23_Hash _ kv5 _ hx12) fun v w13 hv => ?_
 obtain ⟨rfl, hN14⟩ := hv
 replace hM := hM.call0 hN14
 refine RL.val (O.move rfl) rfl ?_
 refine RL.val (O.len sl49 rfl) rfl ?_
 refine RL.val (O.conv un3 Try.underlying36 rfl) rfl ?_
 refine cut_someE hF fun hq15 hF => ?_
 refine RL.val (O.rem rfl rfl (of_decide_eq_true hq15)) rfl ?_
 refine RL.val (O.conv un36 Try.underlying3 rfl) rfl ?_
 refine RL.val (O.assign rfl) rfl ?_
 refine RL.nil ?_
 refine KQ.thn hQ10 ?_
 clear hQ10 Q10
 refine KC.seqH fun Q16 hQ16 => ?_
 refine KC.seqH fun Q17 hQ17 => ?_
 refine KC.region ?_
 refine RL.val (O.assign rfl) rfl ?_
 refine RL.nil ?_
 refine KQ.thn hQ17 ?_
 clear hQ17 Q17
 refine KC.block ?_
 refine KC.loop (fun k56 a w54 => ∃ (atv52 : Int) (i53 : Int), Kn 46 [(0, .slice A2 (t1).length c3), (3, .pointer (some ⟨g7, 0, none⟩)), (6, Value.int .i64 atv52), (7, Value.int .i64 i53)] a ∧ Mem w [] w54 [.box g7 54 [Value.bool kv5.f_Src.f_Six, o8 kv5.f_Src.f_B 0, o8 kv5.f_Src.f_B 1, o8 kv5.f_Src.f_B 2, o8 kv5.f_Src.f_B 3, o8 kv5.f_Src.f_B 4, o8 kv5.f_Src.f_B 5, o8 kv5.f_Src.f_B 6, o8 kv5.f_Src.f_B 7, o8 kv5.f_Src.f_B 8, o8 kv5.f_Src.f_B 9, o8 kv5.f_Src.f_B 10, o8 kv5.f_Src.f_B 11, o8 kv5.f_Src.f_B 12, o8 kv5.f_Src.f_B 13, o8 kv5.f_Src.f_B 14, o8 kv5.f_Src.f_B 15, Value.bool kv5.f_Dst.f_Six, o8 kv5.f_Dst.f_B 0, o8 kv5.f_Dst.f_B 1, o8 kv5.f_Dst.f_B 2, o8 kv5.f_Dst.f_B 3, o8 kv5.f_Dst.f_B 4, o8 kv5.f_Dst.f_B 5, o8 kv5.f_Dst.f_B 6, o8 kv5.f_Dst.f_B 7, o8 kv5.f_Dst.f_B 8, o8 kv5.f_Dst.f_B 9, o8 kv5.f_Dst.f_B 10, o8 kv5.f_Dst.f_B 11, o8 kv5.f_Dst.f_B 12, o8 kv5.f_Dst.f_B 13, o8 kv5.f_Dst.f_B 14, o8 kv5.f_Dst.f_B 15, Value.int .u8 kv5.f_Proto, Value.int .u16 kv5.f_SrcPort, Value.int .u16 kv5.f_DstPort]] ∧ F_ref23_Find_L1 t1 kv5 k56 atv52 i53 = some r) ?_ ?_
 ·exact fun a ha => ⟨fuel0, (IntKind.i64.wrap (Int.tmod y11 (IntKind.u64.wrap (t1.length : Int)))), 0, ha.less (less_cons rfl (less_cons rfl (less_cons rfl (less_cons rfl less_nil)))), hM, hF⟩
 ·rintro k56 a w54 ⟨atv52, i53, ha, hM, hF⟩
  refine KC.app ha ?_
  clear ha
  cases k56 with
  | zero => exact (none_some hF).elim
  | succ k56 =>
  have hF : F_ref23_Find_l1 (F_ref23_Find_L1 t1 kv5 k56) t1 kv5 atv52 i53 = some r := hF
  unfold F_ref23_Find_l1 at hF
  refine KC.seqH fun Q57 hQ57 => ?_
  refine KC.seqH fun Q58 hQ58 => ?_
  refine KC.region ?_
  refine RL.val (O.move rfl) rfl ?_
  refine RL.val (O.move rfl) rfl ?_
  refine RL.val (O.len sl49 rfl) rfl ?_
  refine RL.val (O.lss rfl rfl) rfl ?_
  refine RL.nil ?_
  refine KQ.thn hQ58 ?_
  clear hQ58 Q58
  refine KC.cond rfl (fun hc => ?_) (fun hc => ?_)
  ·rw [if_pos hc] at hF
   refine KC.skip ?_
   refine KQ.thn hQ57 ?_
   clear hQ57 Q57
   refine KC.seqH fun Q59 hQ59 => ?_
   refine KC.block ?_
   refine KC.seqH fun Q60 hQ60 => ?_
   refine KC.cut (fun a w69 => ∃ (t68 : Bool), Kn 46 [(0, .slice A2 (t1).length c3), (3, .pointer (some ⟨g7, 0, none⟩)), (6, Value.int .i64 atv52), (7, Value.int .i64 i53), (35, Value.bool t68)] a ∧ Mem w [] w69 [.box g7 54 [Value.bool kv5.f_Src.f_Six, o8 kv5.f_Src.f_B 0, o8 kv5.f_Src.f_B 1, o8 kv5.f_Src.f_B 2, o8 kv5.f_Src.f_B 3, o8 kv5.f_Src.f_B 4, o8 kv5.f_Src.f_B 5, o8 kv5.f_Src.f_B 6, o8 kv5.f_Src.f_B 7, o8 kv5.f_Src.f_B 8, o8 kv5.f_Src.f_B 9, o8 kv5.f_Src.f_B 10, o8 kv5.f_Src.f_B 11, o8 kv5.f_Src.f_B 12, o8 kv5.f_Src.f_B 13, o8 kv5.f_Src.f_B 14, o8 kv5.f_Src.f_B 15, Value.bool kv5.f_Dst.f_Six, o8 kv5.f_Dst.f_B 0, o8 kv5.f_Dst.f_B 1, o8 kv5.f_Dst.f_B 2, o8 kv5.f_Dst.f_B 3, o8 kv5.f_Dst.f_B 4, o8 kv5.f_Dst.f_B 5, o8 kv5.f_Dst.f_B 6, o8 kv5.f_Dst.f_B 7, o8 kv5.f_Dst.f_B 8, o8 kv5.f_Dst.f_B 9, o8 kv5.f_Dst.f_B 10, o8 kv5.f_Dst.f_B 11, o8 kv5.f_Dst.f_B 12, o8 kv5.f_Dst.f_B 13, o8 kv5.f_Dst.f_B 14, o8 kv5.f_Dst.f_B 15, Value.int .u8 kv5.f_Proto, Value.int .u16 kv5.f_SrcPort, Value.int .u16 kv5.f_DstPort]] ∧ F_ref23_Find_j1 t1 atv52 i53 (F_ref23_Find_L1 t1 kv5 k56) t68 = some r) ?_ ?_
   ·replace hM := hM.drewN 1
    refine KC.draw [] [] [] [0, 1, 3, 5, 6, 7, 8, 10, 13, 14] (.ofList [0, 1, 2, 3, 4, 5, 6, 7, 8, 9, 10, 11, 12, 13, 14]) moP (by kernel_rfl) ?_
    refine RD.p rfl rfl rfl rfl (fun w' => O.move rfl) ?_
    refine RD.p rfl rfl rfl rfl (fun w' => O.move rfl) ?_
    refine obindE hF fun xv63 hx62 hF => ?_
    have hA61 := Rd.atN (f := e_ref23_Slot) (s := 39) (fun _ => rfl) (by decide) (hM.inp hr4 Off.nil) hx62
    refine RD.q rfl rfl rfl rfl (fun w' hf => O.idxA sl49 (hA61.fut hf) rfl rfl) ?_
    refine RD.p rfl rfl rfl rfl (fun w' => O.fldA fl78_0 (by decide) rfl) ?_
    refine RD.q rfl rfl rfl rfl (fun w' hf => O.load sc4 rfl (Cs.adds [0] (hA61.fut hf).cells rfl)) ?_
    refine RD.p rfl rfl rfl rfl (fun w' => O.not rfl) ?_
    refine RD.p rfl rfl rfl rfl (fun w' => O.move rfl) ?_
    refine RD.bcase (t := 27) rfl (fun hc => ?_) (fun hc => ?_)
    ·rw [if_pos hc] at hF
     refine RD.gskip rfl rfl rfl rfl rfl ?_
     refine RD.gskip rfl rfl rfl rfl rfl ?_
     refine RD.gskip rfl rfl rfl rfl rfl ?_
     refine RD.gskip rfl rfl rfl rfl rfl ?_
     refine RD.gskip rfl rfl rfl rfl rfl ?_
     refine RD.gskip rfl rfl rfl rfl rfl ?_
     refine RD.gskip rfl rfl rfl rfl rfl ?_
     refine RD.p rfl rfl rfl rfl (fun w' => O.pickt rfl rfl) ?_
     refine RD.nil ?_
     refine KQ.then_k ?_
     exact fun a ha => ⟨true, ha.less (less_cons rfl (less_cons rfl (less_cons rfl (less_cons rfl (less_cons rfl less_nil))))), hM, hF⟩
    ·rw [if_neg (ne_true hc)] at hF
     refine RD.gp rfl rfl rfl rfl rfl rfl (fun w' => O.move rfl) ?_
     refine RD.gp rfl rfl rfl rfl rfl rfl (fun w' => O.move rfl) ?_
     refine obindE hF fun xv66 hx65 hF => ?_
     have hA64 := Rd.atN (f := e_ref23_Slot) (s := 39) (fun _ => rfl) (by decide) (hM.inp hr4 Off.nil) hx65
     refine RD.gq rfl rfl rfl rfl rfl rfl (fun w' hf => O.idxA sl49 (hA64.fut hf) rfl rfl) ?_
     refine RD.gp rfl rfl rfl rfl rfl rfl (fun w' => O.fldA fl78_1 (by decide) rfl) ?_
     refine RD.gq rfl rfl rfl rfl rfl rfl (fun w' hf => O.loadN (cs := [Value.bool xv66.f_Key.f_Src.f_Six, o8 xv66.f_Key.f_Src.f_B 0, o8 xv66.f_Key.f_Src.f_B 1, o8 xv66.f_Key.f_Src.f_B 2, o8 xv66.f_Key.f_Src.f_B 3, o8 xv66.f_Key.f_Src.f_B 4, o8 xv66.f_Key.f_Src.f_B 5, o8 xv66.f_Key.f_Src.f_B 6, o8 xv66.f_Key.f_Src.f_B 7, o8 xv66.f_Key.f_Src.f_B 8, o8 xv66.f_Key.f_Src.f_B 9, o8 xv66.f_Key.f_Src.f_B 10, o8 xv66.f_Key.f_Src.f_B 11, o8 xv66.f_Key.f_Src.f_B 12, o8 xv66.f_Key.f_Src.f_B 13, o8 xv66.f_Key.f_Src.f_B 14, o8 xv66.f_Key.f_Src.f_B 15, Value.bool xv66.f_Key.f_Dst.f_Six, o8 xv66.f_Key.f_Dst.f_B 0, o8 xv66.f_Key.f_Dst.f_B 1, o8 xv66.f_Key.f_Dst.f_B 2, o8 xv66.f_Key.f_Dst.f_B 3, o8 xv66.f_Key.f_Dst.f_B 4, o8 xv66.f_Key.f_Dst.f_B 5, o8 xv66.f_Key.f_Dst.f_B 6, o8 xv66.f_Key.f_Dst.f_B 7, o8 xv66.f_Key.f_Dst.f_B 8, o8 xv66.f_Key.f_Dst.f_B 9, o8 xv66.f_Key.f_Dst.f_B 10, o8 xv66.f_Key.f_Dst.f_B 11, o8 xv66.f_Key.f_Dst.f_B 12, o8 xv66.f_Key.f_Dst.f_B 13, o8 xv66.f_Key.f_Dst.f_B 14, o8 xv66.f_Key.f_Dst.f_B 15, Value.int .u8 xv66.f_Key.f_Proto, Value.int .u16 xv66.f_Key.f_SrcPort, Value.int .u16 xv66.f_Key.f_DstPort]) ag54 rfl (Cs.addsN [1] (hA64.fut hf).cells rfl)) ?_
     refine RD.gq rfl rfl rfl rfl rfl rfl (fun w' hf => O.loadN (cs := [Value.bool kv5.f_Src.f_Six, o8 kv5.f_Src.f_B 0, o8 kv5.f_Src.f_B 1, o8 kv5.f_Src.f_B 2, o8 kv5.f_Src.f_B 3, o8 kv5.f_Src.f_B 4, o8 kv5.f_Src.f_B 5, o8 kv5.f_Src.f_B 6, o8 kv5.f_Src.f_B 7, o8 kv5.f_Src.f_B 8, o8 kv5.f_Src.f_B 9, o8 kv5.f_Src.f_B 10, o8 kv5.f_Src.f_B 11, o8 kv5.f_Src.f_B 12, o8 kv5.f_Src.f_B 13, o8 kv5.f_Src.f_B 14, o8 kv5.f_Src.f_B 15, Value.bool kv5.f_Dst.f_Six, o8 kv5.f_Dst.f_B 0, o8 kv5.f_Dst.f_B 1, o8 kv5.f_Dst.f_B 2, o8 kv5.f_Dst.f_B 3, o8 kv5.f_Dst.f_B 4, o8 kv5.f_Dst.f_B 5, o8 kv5.f_Dst.f_B 6, o8 kv5.f_Dst.f_B 7, o8 kv5.f_Dst.f_B 8, o8 kv5.f_Dst.f_B 9, o8 kv5.f_Dst.f_B 10, o8 kv5.f_Dst.f_B 11, o8 kv5.f_Dst.f_B 12, o8 kv5.f_Dst.f_B 13, o8 kv5.f_Dst.f_B 14, o8 kv5.f_Dst.f_B 15, Value.int .u8 kv5.f_Proto, Value.int .u16 kv5.f_SrcPort, Value.int .u16 kv5.f_DstPort]) ag54 rfl (Cs.addsN [] ((hM.bx (i := 0) rfl).fut hf) rfl)) ?_
     refine RD.gp rfl rfl rfl rfl rfl rfl (fun w' => O.steq (cs := [Value.bool xv66.f_Key.f_Src.f_Six, o8 xv66.f_Key.f_Src.f_B 0, o8 xv66.f_Key.f_Src.f_B 1, o8 xv66.f_Key.f_Src.f_B 2, o8 xv66.f_Key.f_Src.f_B 3, o8 xv66.f_Key.f_Src.f_B 4, o8 xv66.f_Key.f_Src.f_B 5, o8 xv66.f_Key.f_Src.f_B 6, o8 xv66.f_Key.f_Src.f_B 7, o8 xv66.f_Key.f_Src.f_B 8, o8 xv66.f_Key.f_Src.f_B 9, o8 xv66.f_Key.f_Src.f_B 10, o8 xv66.f_Key.f_Src.f_B 11, o8 xv66.f_Key.f_Src.f_B 12, o8 xv66.f_Key.f_Src.f_B 13, o8 xv66.f_Key.f_Src.f_B 14, o8 xv66.f_Key.f_Src.f_B 15, Value.bool xv66.f_Key.f_Dst.f_Six, o8 xv66.f_Key.f_Dst.f_B 0, o8 xv66.f_Key.f_Dst.f_B 1, o8 xv66.f_Key.f_Dst.f_B 2, o8 xv66.f_Key.f_Dst.f_B 3, o8 xv66.f_Key.f_Dst.f_B 4, o8 xv66.f_Key.f_Dst.f_B 5, o8 xv66.f_Key.f_Dst.f_B 6, o8 xv66.f_Key.f_Dst.f_B 7, o8 xv66.f_Key.f_Dst.f_B 8, o8 xv66.f_Key.f_Dst.f_B 9, o8 xv66.f_Key.f_Dst.f_B 10, o8 xv66.f_Key.f_Dst.f_B 11, o8 xv66.f_Key.f_Dst.f_B 12, o8 xv66.f_Key.f_Dst.f_B 13, o8 xv66.f_Key.f_Dst.f_B 14, o8 xv66.f_Key.f_Dst.f_B 15, Value.int .u8 xv66.f_Key.f_Proto, Value.int .u16 xv66.f_Key.f_SrcPort, Value.int .u16 xv66.f_Key.f_DstPort]) (cs' := [Value.bool kv5.f_Src.f_Six, o8 kv5.f_Src.f_B 0, o8 kv5.f_Src.f_B 1, o8 kv5.f_Src.f_B 2, o8 kv5.f_Src.f_B 3, o8 kv5.f_Src.f_B 4, o8 kv5.f_Src.f_B 5, o8 kv5.f_Src.f_B 6, o8 kv5.f_Src.f_B 7, o8 kv5.f_Src.f_B 8, o8 kv5.f_Src.f_B 9, o8 kv5.f_Src.f_B 10, o8 kv5.f_Src.f_B 11, o8 kv5.f_Src.f_B 12, o8 kv5.f_Src.f_B 13, o8 kv5.f_Src.f_B 14, o8 kv5.f_Src.f_B 15, Value.bool kv5.f_Dst.f_Six, o8 kv5.f_Dst.f_B 0, o8 kv5.f_Dst.f_B 1, o8 kv5.f_Dst.f_B 2, o8 kv5.f_Dst.f_B 3, o8 kv5.f_Dst.f_B 4, o8 kv5.f_Dst.f_B 5, o8 kv5.f_Dst.f_B 6, o8 kv5.f_Dst.f_B 7, o8 kv5.f_Dst.f_B 8, o8 kv5.f_Dst.f_B 9, o8 kv5.f_Dst.f_B 10, o8 kv5.f_Dst.f_B 11, o8 kv5.f_Dst.f_B 12, o8 kv5.f_Dst.f_B 13, o8 kv5.f_Dst.f_B 14, o8 kv5.f_Dst.f_B 15, Value.int .u8 kv5.f_Proto, Value.int .u16 kv5.f_SrcPort, Value.int .u16 kv5.f_DstPort]) (by kernel_rfl) rfl rfl (Q54t xv66.f_Key kv5 _ rfl rfl)) ?_
     refine RD.p rfl rfl rfl rfl (fun w' => O.pickf rfl rfl) ?_
     refine RD.nil ?_
     refine KQ.then_k ?_
     exact fun a ha => ⟨(q_ref08_Key xv66.f_Key kv5), ha.less (less_cons rfl (less_cons rfl (less_cons rfl (less_cons rfl (less_cons rfl less_nil))))), hM, hF⟩
   ·rintro a w69 ⟨t68, ha, hM, hF⟩
    refine KC.app ha ?_
    clear ha
    unfold F_ref23_Find_j1 at hF
    refine KC.cond rfl (fun hc => ?_) (fun hc => ?_)
    ·rw [if_pos hc] at hF
     refine KC.seqH fun Q70 hQ70 => ?_
     refine KC.region ?_
     refine RL.val (O.move rfl) rfl ?_
     refine RL.val (O.move rfl) rfl ?_
     refine RL.val (O.add rfl rfl) rfl ?_
     refine RL.val (O.assign rfl) rfl ?_
     refine RL.val (O.assign rfl) rfl ?_
     refine RL.nil ?_
     refine KQ.thn hQ70 ?_
     clear hQ70 Q70
     refine KC.ret ?_
     refine KQ.thr hQ60 ?_
     clear hQ60 Q60
     refine KQ.blk_r ?_
     refine KQ.thr hQ59 ?_
     clear hQ59 Q59
     refine KQ.then_r ?_
     refine KQ.blk_r ?_
     refine KQ.thr hQ16 ?_
     clear hQ16 Q16
     have hE := Option.some.inj hF
     clear hF
     subst hE
     replace hM := hM.pick [] rfl (by decide)
     refine KQ.rets Try.results23 (RVs.cons (RV.tm rfl) (RVs.cons (RV.tm rfl) RVs.nil)) ?_
     exact ⟨_, rfl, rfl, hM⟩
    ·rw [if_neg (ne_true hc)] at hF
     refine KC.skip ?_
     refine KQ.thn hQ60 ?_
     clear hQ60 Q60
     refine KC.region ?_
     refine RL.val (O.move rfl) rfl ?_
     refine RL.val (O.add rfl rfl) rfl ?_
     refine RL.val (O.move rfl) rfl ?_
     refine RL.val (O.len sl49 rfl) rfl ?_
     refine cut_someE hF fun hq71 hF => ?_
     refine RL.val (O.rem rfl rfl (of_decide_eq_true hq71)) rfl ?_
     refine RL.val (O.assign rfl) rfl ?_
     refine RL.nil ?_
     refine KQ.blk_n ?_
     refine KQ.thn hQ59 ?_
     clear hQ59 Q59
     refine KC.region ?_
     refine RL.val (O.move rfl) rfl ?_
     refine RL.val (O.add rfl rfl) rfl ?_
     refine RL.val (O.assign rfl) rfl ?_
     refine RL.nil ?_
     refine KQ.then_k ?_
     exact fun a ha => ⟨k56, Nat.lt_succ_self k56, (Int.tmod (IntKind.i64.wrap (atv52 + 1)) (t1.length : Int)), (IntKind.i64.wrap (i53 + 1)), ha.less (less_cons rfl (less_cons rfl (less_cons rfl (less_cons rfl less_nil)))), hM, hF⟩
  ·rw [if_neg (ne_true hc)] at hF
   refine KC.exit ?_
   refine KQ.thx hQ57 ?_
   clear hQ57 Q57
   refine KQ.then_x ?_
   refine KQ.blk_x ?_
   refine KQ.thn hQ16 ?_
   clear hQ16 Q16
   refine KC.seqH fun Q72 hQ72 => ?_
   refine KC.region ?_
   refine RL.val (O.move rfl) rfl ?_
   refine RL.val (O.len sl49 rfl) rfl ?_
   refine RL.val (O.assign rfl) rfl ?_
   refine RL.val (O.assign rfl) rfl ?_
   refine RL.nil ?_
   refine KQ.thn hQ72 ?_
   clear hQ72 Q72
   refine KC.ret ?_
   have hE := Option.some.inj hF
   clear hF
   subst hE
   replace hM := hM.pick [] rfl (by decide)
   refine KQ.rets Try.results23 (RVs.cons (RV.tm rfl) (RVs.cons (RV.tm rfl) RVs.nil)) ?_
   exact ⟨_, rfl, rfl, hM⟩
set_option maxRecDepth 100000 in
set_option maxHeartbeats 40000000 in
theorem c_ref23_with (w : World) (A2 : Option Addr) (c3 : Nat) (t1 : List T_ref23_Slot) (hr4 : Rd w A2 c3 39 t1.length (t1.flatMap e_ref23_Slot)) (atv5 : Int) (xv6 : T_ref23_Slot) (r : (List T_ref23_Slot)) (hF : F_ref23_with t1 atv5 xv6 = some r) :
  CallsR Try.prog 37 [.slice A2 (t1).length c3, Value.int .i64 atv5, .agg #[Value.bool xv6.f_Used, Value.bool xv6.f_Key.f_Src.f_Six, o8 xv6.f_Key.f_Src.f_B 0, o8 xv6.f_Key.f_Src.f_B 1, o8 xv6.f_Key.f_Src.f_B 2, o8 xv6.f_Key.f_Src.f_B 3, o8 xv6.f_Key.f_Src.f_B 4, o8 xv6.f_Key.f_Src.f_B 5, o8 xv6.f_Key.f_Src.f_B 6, o8 xv6.f_Key.f_Src.f_B 7, o8 xv6.f_Key.f_Src.f_B 8, o8 xv6.f_Key.f_Src.f_B 9, o8 xv6.f_Key.f_Src.f_B 10, o8 xv6.f_Key.f_Src.f_B 11, o8 xv6.f_Key.f_Src.f_B 12, o8 xv6.f_Key.f_Src.f_B 13, o8 xv6.f_Key.f_Src.f_B 14, o8 xv6.f_Key.f_Src.f_B 15, Value.bool xv6.f_Key.f_Dst.f_Six, o8 xv6.f_Key.f_Dst.f_B 0, o8 xv6.f_Key.f_Dst.f_B 1, o8 xv6.f_Key.f_Dst.f_B 2, o8 xv6.f_Key.f_Dst.f_B 3, o8 xv6.f_Key.f_Dst.f_B 4, o8 xv6.f_Key.f_Dst.f_B 5, o8 xv6.f_Key.f_Dst.f_B 6, o8 xv6.f_Key.f_Dst.f_B 7, o8 xv6.f_Key.f_Dst.f_B 8, o8 xv6.f_Key.f_Dst.f_B 9, o8 xv6.f_Key.f_Dst.f_B 10, o8 xv6.f_Key.f_Dst.f_B 11, o8 xv6.f_Key.f_Dst.f_B 12, o8 xv6.f_Key.f_Dst.f_B 13, o8 xv6.f_Key.f_Dst.f_B 14, o8 xv6.f_Key.f_Dst.f_B 15, Value.int .u8 xv6.f_Key.f_Proto, Value.int .u16 xv6.f_Key.f_SrcPort, Value.int .u16 xv6.f_Key.f_DstPort, Value.int .u64 xv6.f_N]] w (fun v w' => ∃ (A0 : Option Addr) (c0 : Nat), v = .slice A0 (r).length c0 ∧ Mem w [] w' [.row A0 c0 78 39 r.length (r.flatMap e_ref23_Slot)]) := by
 refine calls_KC Try.func37 rfl Try.ntmps37 rfl ?_
 have hM := Mem.init w
 unfold F_ref23_with at hF
 refine KC.seqH fun Q7 hQ7 => ?_
 refine KC.region ?_
 refine RL.eff (E.box (vs := [Value.bool xv6.f_Used, Value.bool xv6.f_Key.f_Src.f_Six, o8 xv6.f_Key.f_Src.f_B 0, o8 xv6.f_Key.f_Src.f_B 1, o8 xv6.f_Key.f_Src.f_B 2, o8 xv6.f_Key.f_Src.f_B 3, o8 xv6.f_Key.f_Src.f_B 4, o8 xv6.f_Key.f_Src.f_B 5, o8 xv6.f_Key.f_Src.f_B 6, o8 xv6.f_Key.f_Src.f_B 7, o8 xv6.f_Key.f_Src.f_B 8, o8 xv6.f_Key.f_Src.f_B 9, o8 xv6.f_Key.f_Src.f_B 10, o8 xv6.f_Key.f_Src.f_B 11, o8 xv6.f_Key.f_Src.f_B 12, o8 xv6.f_Key.f_Src.f_B 13, o8 xv6.f_Key.f_Src.f_B 14, o8 xv6.f_Key.f_Src.f_B 15, Value.bool xv6.f_Key.f_Dst.f_Six, o8 xv6.f_Key.f_Dst.f_B 0, o8 xv6.f_Key.f_Dst.f_B 1, o8 xv6.f_Key.f_Dst.f_B 2, o8 xv6.f_Key.f_Dst.f_B 3, o8 xv6.f_Key.f_Dst.f_B 4, o8 xv6.f_Key.f_Dst.f_B 5, o8 xv6.f_Key.f_Dst.f_B 6, o8 xv6.f_Key.f_Dst.f_B 7, o8 xv6.f_Key.f_Dst.f_B 8, o8 xv6.f_Key.f_Dst.f_B 9, o8 xv6.f_Key.f_Dst.f_B 10, o8 xv6.f_Key.f_Dst.f_B 11, o8 xv6.f_Key.f_Dst.f_B 12, o8 xv6.f_Key.f_Dst.f_B 13, o8 xv6.f_Key.f_Dst.f_B 14, o8 xv6.f_Key.f_Dst.f_B 15, Value.int .u8 xv6.f_Key.f_Proto, Value.int .u16 xv6.f_Key.f_SrcPort, Value.int .u16 xv6.f_Key.f_DstPort, Value.int .u64 xv6.f_N]) hM rfl rfl) rfl fun v w9 hv => ?_
 clear hM
 obtain ⟨g8, rfl, hM, hf⟩ := hv
 refine RL.val (O.assign rfl) rfl ?_
 refine RL.nil ?_
 refine KQ.thn hQ7 ?_
 clear hQ7 Q7
 refine KC.seqH fun Q11 hQ11 => ?_
 refine KC.region ?_
 refine RL.val (O.assign rfl) rfl ?_
 refine RL.nil ?_
 refine KQ.thn hQ11 ?_
 clear hQ11 Q11
 refine KC.seqH fun Q12 hQ12 => ?_
 refine KC.region ?_
 refine RL.val (O.move rfl) rfl ?_
 refine RL.val (O.move rfl) rfl ?_
 refine cut_someE hF fun hq16 hF => ?_
 refine RL.eff (E.app0 (enc := e_ref23_Slot) (ys := t1) hM sl49 ze78 rfl rfl rfl rfl rfl (hM.inp hr4 Off.nil) (fun _ => One.all rfl) (of_decide_eq_true hq16)) rfl fun v w15 hv => ?_
 clear hM
 obtain ⟨A13, c14, rfl, hM, hf⟩ := hv
 refine RL.val (O.assign rfl) rfl ?_
 refine RL.nil ?_
 refine KQ.thn hQ12 ?_
 clear hQ12 Q12
 refine KC.seqH fun Q18 hQ18 => ?_
 refine KC.region ?_
 refine RL.val (O.move rfl) rfl ?_
 refine RL.val (O.move rfl) rfl ?_
 refine RL.val (O.loadN (cs := [Value.bool xv6.f_Used, Value.bool xv6.f_Key.f_Src.f_Six, o8 xv6.f_Key.f_Src.f_B 0, o8 xv6.f_Key.f_Src.f_B 1, o8 xv6.f_Key.f_Src.f_B 2, o8 xv6.f_Key.f_Src.f_B 3, o8 xv6.f_Key.f_Src.f_B 4, o8 xv6.f_Key.f_Src.f_B 5, o8 xv6.f_Key.f_Src.f_B 6, o8 xv6.f_Key.f_Src.f_B 7, o8 xv6.f_Key.f_Src.f_B 8, o8 xv6.f_Key.f_Src.f_B 9, o8 xv6.f_Key.f_Src.f_B 10, o8 xv6.f_Key.f_Src.f_B 11, o8 xv6.f_Key.f_Src.f_B 12, o8 xv6.f_Key.f_Src.f_B 13, o8 xv6.f_Key.f_Src.f_B 14, o8 xv6.f_Key.f_Src.f_B 15, Value.bool xv6.f_Key.f_Dst.f_Six, o8 xv6.f_Key.f_Dst.f_B 0, o8 xv6.f_Key.f_Dst.f_B 1, o8 xv6.f_Key.f_Dst.f_B 2, o8 xv6.f_Key.f_Dst.f_B 3, o8 xv6.f_Key.f_Dst.f_B 4, o8 xv6.f_Key.f_Dst.f_B 5, o8 xv6.f_Key.f_Dst.f_B 6, o8 xv6.f_Key.f_Dst.f_B 7, o8 xv6.f_Key.f_Dst.f_B 8, o8 xv6.f_Key.f_Dst.f_B 9, o8 xv6.f_Key.f_Dst.f_B 10, o8 xv6.f_Key.f_Dst.f_B 11, o8 xv6.f_Key.f_Dst.f_B 12, o8 xv6.f_Key.f_Dst.f_B 13, o8 xv6.f_Key.f_Dst.f_B 14, o8 xv6.f_Key.f_Dst.f_B 15, Value.int .u8 xv6.f_Key.f_Proto, Value.int .u16 xv6.f_Key.f_SrcPort, Value.int .u16 xv6.f_Key.f_DstPort, Value.int .u64 xv6.f_N]) ag78 rfl (Cs.addsN [] ((hM.bx (i := 0) rfl)) rfl)) rfl ?_
 refine obindE hF fun xv21 hx20 hF => ?_
 have hA19 := Rd.atN (f := e_ref23_Slot) (s := 39) (fun _ => rfl) (by decide) (hM.rd (i := 1) rfl) hx20
 refine RL.val (O.idxA sl49 (hA19) rfl rfl) rfl ?_
 refine RL.effs (E.stR (enc := e_ref23_Slot) (j := 1) (off := 0) (vs := [Value.bool xv6.f_Used, Value.bool xv6.f_Key.f_Src.f_Six, o8 xv6.f_Key.f_Src.f_B 0, o8 xv6.f_Key.f_Src.f_B 1, o8 xv6.f_Key.f_Src.f_B 2, o8 xv6.f_Key.f_Src.f_B 3, o8 xv6.f_Key.f_Src.f_B 4, o8 xv6.f_Key.f_Src.f_B 5, o8 xv6.f_Key.f_Src.f_B 6, o8 xv6.f_Key.f_Src.f_B 7, o8 xv6.f_Key.f_Src.f_B 8, o8 xv6.f_Key.f_Src.f_B 9, o8 xv6.f_Key.f_Src.f_B 10, o8 xv6.f_Key.f_Src.f_B 11, o8 xv6.f_Key.f_Src.f_B 12, o8 xv6.f_Key.f_Src.f_B 13, o8 xv6.f_Key.f_Src.f_B 14, o8 xv6.f_Key.f_Src.f_B 15, Value.bool xv6.f_Key.f_Dst.f_Six, o8 xv6.f_Key.f_Dst.f_B 0, o8 xv6.f_Key.f_Dst.f_B 1, o8 xv6.f_Key.f_Dst.f_B 2, o8 xv6.f_Key.f_Dst.f_B 3, o8 xv6.f_Key.f_Dst.f_B 4, o8 xv6.f_Key.f_Dst.f_B 5, o8 xv6.f_Key.f_Dst.f_B 6, o8 xv6.f_Key.f_Dst.f_B 7, o8 xv6.f_Key.f_Dst.f_B 8, o8 xv6.f_Key.f_Dst.f_B 9, o8 xv6.f_Key.f_Dst.f_B 10, o8 xv6.f_Key.f_Dst.f_B 11, o8 xv6.f_Key.f_Dst.f_B 12, o8 xv6.f_Key.f_Dst.f_B 13, o8 xv6.f_Key.f_Dst.f_B 14, o8 xv6.f_Key.f_Dst.f_B 15, Value.int .u8 xv6.f_Key.f_Proto, Value.int .u16 xv6.f_Key.f_SrcPort, Value.int .u16 xv6.f_Key.f_DstPort, Value.int .u64 xv6.f_N]) (x' := xv6) hM rfl (fun _ => rfl) hx20 sz78 rfl (addsR_eq [] rfl) rfl rfl (One.all rfl) rfl rfl) fun w22 hM1 => ?_
 clear hM
 obtain ⟨hM, hn23⟩ := hM1
 refine RL.reslot (t := 7) rfl hn23 ?_
 refine RL.reslot (t := 11) rfl hn23 ?_
 refine RL.nil ?_
 refine KQ.thn hQ18 ?_
 clear hQ18 Q18
 refine KC.seqH fun Q24 hQ24 => ?_
 refine KC.region ?_
 refine RL.val (O.move rfl) rfl ?_
 refine RL.val (O.assign rfl) rfl ?_
 refine RL.nil ?_
 refine KQ.thn hQ24 ?_
 clear hQ24 Q24
 refine KC.ret ?_
 have hE := Option.some.inj hF
 clear hF
 subst hE
 replace hM := hM.pick [1] rfl (by decide)
 refine KQ.rets Try.results37 (RVs.cons (RV.tm rfl) RVs.nil) ?_
 exact ⟨_, rfl, A13, c14, rfl, hM⟩
end Go.Proofs.Ytnbakndfnjflhaa
