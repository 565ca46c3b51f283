/- Printed by a program of this claim: each call returns what the plain function of its name gives. -/
import Derived.Test.YtidbgejnkpoeeaaW1
import Derived.Test.YtidbgejnkpoeeaaW4
import Derived.Test.YtidbgejnkpoeeaaW5
import Derived.Test.YtidbgejnkpoeeaaW11
import Derived.Test.YtidbgejnkpoeeaaW12
set_option linter.unusedVariables false
namespace Go.Proofs.Ytidbgejnkpoeeaa
open Go Go.Ox Go.RowKit
set_option maxRecDepth 100000 in
set_option maxHeartbeats 40000000 in
theorem c_model_Model_crash (w : World) (g2 : Nat) (tg19 : TypeId) (m1 : T_model_Model) (g4 : Nat) (g6 : Nat) (g8 : Nat) (A10 : Option Addr) (c11 : Nat) (css13 : List (List Value)) (Z14 : List Nat) (A16 : Option Addr) (c17 : Nat) (hL25 : Lent w [.box g2 tg19 [.map (some g4), .map (some g6), .map (some g8), .slice A10 (m1.f_entries).length c11, .slice A16 (m1.f_line).length c17, v64 m1.f_first, v32 m1.f_boot], .res [g4] (MR62 g4 m1.f_forwarded), .res [g6] (MR62 g6 m1.f_cached), .res [g8] (MR62 g8 m1.f_lost), .row A10 c11 47 6 (m1.f_entries).length (css13).flatten, .res Z14 (Els RO_model_Entry 6 m1.f_entries css13 Z14), .row A16 c17 3 1 (m1.f_line).length ((m1.f_line).flatMap (eI .i64))]) (nv20 : T_model_Note) (A21 : Option Addr) (c22 : Nat) (hr23 : Rd w A21 c22 44 nv20.f_Records.length (nv20.f_Records.flatMap e_flow_Record)) (ho24 : Off ([some g2] ++ ([some g4] ++ ([some g6] ++ ([some g8] ++ ([rblk A10 c11] ++ (Z14.map some ++ ([rblk A16 c17] ++ ([])))))))) nv20.f_Records.length A21) (r : Bool × T_model_Model) (hF : F_model_Model_crash m1 nv20 = some r) :
  CallsR Try.prog 26 [.pointer (some ⟨g2, 0, none⟩), .agg #[vI nv20.f_Kind, vB nv20.f_Key.f_Src.f_Six, o8 nv20.f_Key.f_Src.f_B 0, o8 nv20.f_Key.f_Src.f_B 1, o8 nv20.f_Key.f_Src.f_B 2, o8 nv20.f_Key.f_Src.f_B 3, o8 nv20.f_Key.f_Src.f_B 4, o8 nv20.f_Key.f_Src.f_B 5, o8 nv20.f_Key.f_Src.f_B 6, o8 nv20.f_Key.f_Src.f_B 7, o8 nv20.f_Key.f_Src.f_B 8, o8 nv20.f_Key.f_Src.f_B 9, o8 nv20.f_Key.f_Src.f_B 10, o8 nv20.f_Key.f_Src.f_B 11, o8 nv20.f_Key.f_Src.f_B 12, o8 nv20.f_Key.f_Src.f_B 13, o8 nv20.f_Key.f_Src.f_B 14, o8 nv20.f_Key.f_Src.f_B 15, vB nv20.f_Key.f_Dst.f_Six, o8 nv20.f_Key.f_Dst.f_B 0, o8 nv20.f_Key.f_Dst.f_B 1, o8 nv20.f_Key.f_Dst.f_B 2, o8 nv20.f_Key.f_Dst.f_B 3, o8 nv20.f_Key.f_Dst.f_B 4, o8 nv20.f_Key.f_Dst.f_B 5, o8 nv20.f_Key.f_Dst.f_B 6, o8 nv20.f_Key.f_Dst.f_B 7, o8 nv20.f_Key.f_Dst.f_B 8, o8 nv20.f_Key.f_Dst.f_B 9, o8 nv20.f_Key.f_Dst.f_B 10, o8 nv20.f_Key.f_Dst.f_B 11, o8 nv20.f_Key.f_Dst.f_B 12, o8 nv20.f_Key.f_Dst.f_B 13, o8 nv20.f_Key.f_Dst.f_B 14, o8 nv20.f_Key.f_Dst.f_B 15, v8 nv20.f_Key.f_Proto, v16 nv20.f_Key.f_SrcPort, v16 nv20.f_Key.f_DstPort, v64 nv20.f_Total.f_Packets, v64 nv20.f_Total.f_Bytes, .slice A21 (nv20.f_Records).length c22, v32 nv20.f_Epoch, v64 nv20.f_N, v64 nv20.f_First, v64 nv20.f_Next]] w (fun v w' => ∃ (gr0 : Nat) (gr1 : Nat) (gr2 : Nat) (Ar3 : Option Addr) (cr3 : Nat) (cssr4 : List (List Value)) (Zr4 : List Nat) (Ar4 : Option Addr) (cr4 : Nat), v = vB r.1 ∧ Mem w ([some g2] ++ ([some g4] ++ ([some g6] ++ ([some g8] ++ ([rblk A10 c11] ++ (Z14.map some ++ ([rblk A16 c17] ++ ([])))))))) w' [.box g2 tg19 [.map (some gr0), .map (some gr1), .map (some gr2), .slice Ar3 (r.2.f_entries).length cr3, .slice Ar4 (r.2.f_line).length cr4, v64 r.2.f_first, v32 r.2.f_boot], .res [gr0] (MR62 gr0 r.2.f_forwarded), .res [gr1] (MR62 gr1 r.2.f_cached), .res [gr2] (MR62 gr2 r.2.f_lost), .row Ar3 cr3 47 6 r.2.f_entries.length cssr4.flatten, .res Zr4 (Els RO_model_Entry 6 r.2.f_entries cssr4 Zr4), .row Ar4 cr4 3 1 r.2.f_line.length (r.2.f_line.flatMap (eI .i64))]) := by
 refine calls_KC Try.func26 rfl Try.ntmps26 rfl ?_
 have hM : Mem w ([some g2] ++ ([some g4] ++ ([some g6] ++ ([some g8] ++ ([rblk A10 c11] ++ (Z14.map some ++ ([rblk A16 c17] ++ ([])))))))) w [.box g2 tg19 [.map (some g4), .map (some g6), .map (some g8), .slice A10 (m1.f_entries).length c11, .slice A16 (m1.f_line).length c17, v64 m1.f_first, v32 m1.f_boot], .res [g4] (MR62 g4 m1.f_forwarded), .res [g6] (MR62 g6 m1.f_cached), .res [g8] (MR62 g8 m1.f_lost), .row A10 c11 47 6 (m1.f_entries).length (css13).flatten, .res Z14 (Els RO_model_Entry 6 m1.f_entries css13 Z14), .row A16 c17 3 1 (m1.f_line).length ((m1.f_line).flatMap (eI .i64))] := Mem.lendN hL25
 unfold F_model_Model_crash at hF
 refine sr fun Q26 hQ26 => ?_
 refine RL.eff (E.box (vs := [vI nv20.f_Kind, vB nv20.f_Key.f_Src.f_Six, o8 nv20.f_Key.f_Src.f_B 0, o8 nv20.f_Key.f_Src.f_B 1, o8 nv20.f_Key.f_Src.f_B 2, o8 nv20.f_Key.f_Src.f_B 3, o8 nv20.f_Key.f_Src.f_B 4, o8 nv20.f_Key.f_Src.f_B 5, o8 nv20.f_Key.f_Src.f_B 6, o8 nv20.f_Key.f_Src.f_B 7, o8 nv20.f_Key.f_Src.f_B 8, o8 nv20.f_Key.f_Src.f_B 9, o8 nv20.f_Key.f_Src.f_B 10, o8 nv20.f_Key.f_Src.f_B 11, o8 nv20.f_Key.f_Src.f_B 12, o8 nv20.f_Key.f_Src.f_B 13, o8 nv20.f_Key.f_Src.f_B 14, o8 nv20.f_Key.f_Src.f_B 15, vB nv20.f_Key.f_Dst.f_Six, o8 nv20.f_Key.f_Dst.f_B 0, o8 nv20.f_Key.f_Dst.f_B 1, o8 nv20.f_Key.f_Dst.f_B 2, o8 nv20.f_Key.f_Dst.f_B 3, o8 nv20.f_Key.f_Dst.f_B 4, o8 nv20.f_Key.f_Dst.f_B 5, o8 nv20.f_Key.f_Dst.f_B 6, o8 nv20.f_Key.f_Dst.f_B 7, o8 nv20.f_Key.f_Dst.f_B 8, o8 nv20.f_Key.f_Dst.f_B 9, o8 nv20.f_Key.f_Dst.f_B 10, o8 nv20.f_Key.f_Dst.f_B 11, o8 nv20.f_Key.f_Dst.f_B 12, o8 nv20.f_Key.f_Dst.f_B 13, o8 nv20.f_Key.f_Dst.f_B 14, o8 nv20.f_Key.f_Dst.f_B 15, v8 nv20.f_Key.f_Proto, v16 nv20.f_Key.f_SrcPort, v16 nv20.f_Key.f_DstPort, v64 nv20.f_Total.f_Packets, v64 nv20.f_Total.f_Bytes, .slice A21 (nv20.f_Records).length c22, v32 nv20.f_Epoch, v64 nv20.f_N, v64 nv20.f_First, v64 nv20.f_Next]) hM rfl rfl) rfl fun v w28 hv => ?_
 clear hM
 obtain ⟨g27, rfl, hM, hf⟩ := hv
 refine va rfl rfl ?_
 refine nt hQ26 ?_
 clear hQ26 Q26
 refine sr fun Q30 hQ30 => ?_
 refine vm rfl rfl ?_
 refine RL.val (O.nilp rfl) rfl ?_
 refine RL.val (O.fldA fl65_3 (by decide) rfl) rfl ?_
 refine RL.val (O.load sc42 rfl (Cs.adds [3] ((hM.bx (i := 0) rfl)) rfl)) rfl ?_
 refine RL.val (O.mkf rfl rfl) rfl ?_
 refine obindE hF fun y31 hx32 hF => ?_
 refine RL.call Try.func42 bd42 rfl rfl (c_slices_ContainsFunc_model_Entry_model_Entry_fmodel_Model_crash_1 _ _ _ m1.f_entries (hM.rdD (i := 4) (j := 5) uo_model_Entry rfl rfl) nv20 _ _ (hM.inp hr23 ho24) _ (hM.bx (i := 7) rfl) _ hx32) fun v w33 hv => ?_
 obtain ⟨rfl, hN34⟩ := hv
 replace hM := hM.call0 hN34
 refine RL.val (O.not rfl) rfl ?_
 refine va rfl rfl ?_
 refine nt hQ30 ?_
 clear hQ30 Q30
 refine KC.seqH fun Q35 hQ35 => ?_
 refine KC.cut (fun a w49 => ∃ (t48 : Bool), Kn 138 [(0, .pointer (some ⟨g2, 0, none⟩)), (3, .pointer (some ⟨g27, 0, none⟩)), (38, vB t48)] a ∧ Mem w ([some g2] ++ ([some g4] ++ ([some g6] ++ ([some g8] ++ ([rblk A10 c11] ++ (Z14.map some ++ ([rblk A16 c17] ++ ([])))))))) w49 [.res [g4] (MR62 g4 m1.f_forwarded), .res [g6] (MR62 g6 m1.f_cached), .res [g8] (MR62 g8 m1.f_lost), .row A10 c11 47 6 (m1.f_entries).length (css13).flatten, .res Z14 (Els RO_model_Entry 6 m1.f_entries css13 Z14), .row A16 c17 3 1 (m1.f_line).length ((m1.f_line).flatMap (eI .i64)), .box g2 tg19 [.map (some g4), .map (some g6), .map (some g8), .slice A10 (m1.f_entries).length c11, .slice A16 (m1.f_line).length c17, v64 m1.f_first, v32 m1.f_boot], .box g27 41 [vI nv20.f_Kind, vB nv20.f_Key.f_Src.f_Six, o8 nv20.f_Key.f_Src.f_B 0, o8 nv20.f_Key.f_Src.f_B 1, o8 nv20.f_Key.f_Src.f_B 2, o8 nv20.f_Key.f_Src.f_B 3, o8 nv20.f_Key.f_Src.f_B 4, o8 nv20.f_Key.f_Src.f_B 5, o8 nv20.f_Key.f_Src.f_B 6, o8 nv20.f_Key.f_Src.f_B 7, o8 nv20.f_Key.f_Src.f_B 8, o8 nv20.f_Key.f_Src.f_B 9, o8 nv20.f_Key.f_Src.f_B 10, o8 nv20.f_Key.f_Src.f_B 11, o8 nv20.f_Key.f_Src.f_B 12, o8 nv20.f_Key.f_Src.f_B 13, o8 nv20.f_Key.f_Src.f_B 14, o8 nv20.f_Key.f_Src.f_B 15, vB nv20.f_Key.f_Dst.f_Six, o8 nv20.f_Key.f_Dst.f_B 0, o8 nv20.f_Key.f_Dst.f_B 1, o8 nv20.f_Key.f_Dst.f_B 2, o8 nv20.f_Key.f_Dst.f_B 3, o8 nv20.f_Key.f_Dst.f_B 4, o8 nv20.f_Key.f_Dst.f_B 5, o8 nv20.f_Key.f_Dst.f_B 6, o8 nv20.f_Key.f_Dst.f_B 7, o8 nv20.f_Key.f_Dst.f_B 8, o8 nv20.f_Key.f_Dst.f_B 9, o8 nv20.f_Key.f_Dst.f_B 10, o8 nv20.f_Key.f_Dst.f_B 11, o8 nv20.f_Key.f_Dst.f_B 12, o8 nv20.f_Key.f_Dst.f_B 13, o8 nv20.f_Key.f_Dst.f_B 14, o8 nv20.f_Key.f_Dst.f_B 15, v8 nv20.f_Key.f_Proto, v16 nv20.f_Key.f_SrcPort, v16 nv20.f_Key.f_DstPort, v64 nv20.f_Total.f_Packets, v64 nv20.f_Total.f_Bytes, .slice A21 (nv20.f_Records).length c22, v32 nv20.f_Epoch, v64 nv20.f_N, v64 nv20.f_First, v64 nv20.f_Next]] ∧ F_model_Model_crash_j1 m1 nv20 t48 = some r) ?_ ?_
 ·replace hM := hM.drewN 1
  refine KC.draw [] [] [18] [0, 1, 2, 3, 5, 6, 7, 8, 10, 12, 13, 14, 15, 17, 19, 20] (.ofList [0, 1, 2, 3, 4, 5, 6, 7, 8, 9, 10, 11, 12, 13, 14, 15, 16, 17, 18, 19, 20]) moP (by kernel_rfl) ?_
  refine RD.p rfl rfl rfl rfl (fun w' => O.move rfl) ?_
  refine RD.p rfl rfl rfl rfl (fun w' => O.not rfl) ?_
  refine RD.p rfl rfl rfl rfl (fun w' => O.move rfl) ?_
  refine RD.bcase (t := 20) rfl (fun hc => ?_) (fun hc => ?_)
  ·rw [if_pos hc] at hF
   refine RD.brun1 [3, 4, 5, 6, 7, 8, 9, 10, 11, 12, 13, 14, 15, 16, 17, 18, 19, 20] 38 true (by kernel_rfl) ?_
   refine RD.nil ?_
   refine KQ.then_k ?_
   replace hM := hM.pick [1, 2, 3, 4, 5, 6, 0, 7] rfl (by decide)
   exact fun a ha => ⟨true, ha.less (less_cons rfl (less_cons rfl (less_cons rfl less_nil))), hM, hF⟩
  rw [if_neg (ne_true hc)] at hF
  refine RD.gp rfl rfl rfl rfl rfl rfl (fun w' => O.fldA fl41_4 (by decide) rfl) ?_
  refine RD.gq rfl rfl rfl rfl rfl rfl (fun w' hf => O.load sc39 rfl (Cs.adds [41] ((hM.bx (i := 7) rfl).fut hf) rfl)) ?_
  refine RD.gp rfl rfl rfl rfl rfl rfl (fun w' => O.eql rfl rfl) ?_
  refine RD.p rfl rfl rfl rfl (fun w' => O.pickf rfl rfl) ?_
  refine RD.p rfl rfl rfl rfl (fun w' => O.move rfl) ?_
  refine RD.bcase (t := 25) rfl (fun hc => ?_) (fun hc => ?_)
  ·rw [if_pos hc] at hF
   refine RD.brun1 [8, 9, 10, 11, 12, 13, 14, 15, 16, 17, 18, 19, 20] 38 true (by kernel_rfl) ?_
   refine RD.nil ?_
   refine KQ.then_k ?_
   replace hM := hM.pick [1, 2, 3, 4, 5, 6, 0, 7] rfl (by decide)
   exact fun a ha => ⟨true, ha.less (less_cons rfl (less_cons rfl (less_cons rfl less_nil))), hM, hF⟩
  rw [if_neg (ne_true hc)] at hF
  refine RD.gp rfl rfl rfl rfl rfl rfl (fun w' => O.fldA fl41_6 (by decide) rfl) ?_
  refine RD.gq rfl rfl rfl rfl rfl rfl (fun w' hf => O.load sc35 rfl (Cs.adds [43] ((hM.bx (i := 7) rfl).fut hf) rfl)) ?_
  refine RD.gp rfl rfl rfl rfl rfl rfl (fun w' => O.fldA fl41_7 (by decide) rfl) ?_
  refine RD.gq rfl rfl rfl rfl rfl rfl (fun w' hf => O.load sc35 rfl (Cs.adds [44] ((hM.bx (i := 7) rfl).fut hf) rfl)) ?_
  refine RD.gp rfl rfl rfl rfl rfl rfl (fun w' => O.gtr rfl rfl) ?_
  refine RD.p rfl rfl rfl rfl (fun w' => O.pickf rfl rfl) ?_
  refine RD.p rfl rfl rfl rfl (fun w' => O.move rfl) ?_
  refine RD.bcase (t := 32) rfl (fun hc => ?_) (fun hc => ?_)
  ·rw [if_pos hc] at hF
   refine RD.brun1 [15, 16, 17, 18, 19, 20] 38 true (by kernel_rfl) ?_
   refine RD.nil ?_
   refine KQ.then_k ?_
   replace hM := hM.pick [1, 2, 3, 4, 5, 6, 0, 7] rfl (by decide)
   exact fun a ha => ⟨true, ha.less (less_cons rfl (less_cons rfl (less_cons rfl less_nil))), hM, hF⟩
  rw [if_neg (ne_true hc)] at hF
  refine RD.gp rfl rfl rfl rfl rfl rfl (fun w' => O.fldA fl41_7 (by decide) rfl) ?_
  refine RD.gq rfl rfl rfl rfl rfl rfl (fun w' hf => O.load sc35 rfl (Cs.adds [44] ((hM.bx (i := 7) rfl).fut hf) rfl)) ?_
  refine RD.gp rfl rfl rfl rfl rfl rfl (fun w' => O.move rfl) ?_
  refine obindE hF fun y36 hx37 hF => ?_
  refine RD.mcall rfl rfl ⟨rfl, rfl⟩ Try.func33 bd33 rfl rfl (c_model_Model_next _ m1 _ (hM.mapR (i := 1) rfl) _ (hM.mapR (i := 2) rfl) _ (hM.mapR (i := 3) rfl) _ _ (hM.rdD (i := 4) (j := 5) uo_model_Entry rfl rfl) _ _ (hM.rd (i := 6) rfl) _ (hM.bx (i := 0) rfl) _ hx37) fun v w38 hv => ?_
  obtain ⟨rfl, hN39⟩ := hv
  refine ⟨fun _ => hN39.fut, ?_⟩
  replace hM := hM.call0 hN39
  refine RD.gp rfl rfl rfl rfl rfl rfl (fun w' => O.gtr rfl rfl) ?_
  refine RD.p rfl rfl rfl rfl (fun w' => O.pickf rfl rfl) ?_
  refine RD.nil ?_
  refine KQ.then_k ?_
  replace hM := hM.pick [1, 2, 3, 4, 5, 6, 0, 7] rfl (by decide)
  exact fun a ha => ⟨(decide (y36 < nv20.f_Next)), ha.less (less_cons rfl (less_cons rfl (less_cons rfl less_nil))), hM, hF⟩
 rintro a w49 ⟨t48, ha, hM, hF⟩
 refine KC.app ha ?_
 clear ha
 unfold F_model_Model_crash_j1 at hF
 refine KC.cond rfl (fun hc => ?_) (fun hc => ?_)
 ·rw [if_pos hc] at hF
  refine sr fun Q50 hQ50 => ?_
  refine va rfl rfl ?_
  refine nt hQ50 ?_
  clear hQ50 Q50
  refine KC.ret ?_
  refine KQ.thr hQ35 ?_
  clear hQ35 Q35
  have hE := Option.some.inj hF
  clear hF
  subst hE
  replace hM := hM.pick [6, 0, 1, 2, 3, 4, 5] rfl (by decide)
  refine KQ.rets Try.results26 (RVs.cons (RV.tm rfl) RVs.nil) ?_
  exact ⟨_, rfl, g4, g6, g8, A10, c11, css13, Z14, A16, c17, rfl, hM⟩
 rw [if_neg (ne_true hc)] at hF
 refine KC.skip ?_
 refine KQ.thn hQ35 ?_
 clear hQ35 Q35
 refine KC.seqH fun Q51 hQ51 => ?_
 refine KC.cut (fun a w73 => ∃ (t72 : Bool), Kn 138 [(0, .pointer (some ⟨g2, 0, none⟩)), (3, .pointer (some ⟨g27, 0, none⟩)), (52, vB t72)] a ∧ Mem w ([some g2] ++ ([some g4] ++ ([some g6] ++ ([some g8] ++ ([rblk A10 c11] ++ (Z14.map some ++ ([rblk A16 c17] ++ ([])))))))) w73 [.res [g4] (MR62 g4 m1.f_forwarded), .res [g6] (MR62 g6 m1.f_cached), .res [g8] (MR62 g8 m1.f_lost), .row A10 c11 47 6 (m1.f_entries).length (css13).flatten, .res Z14 (Els RO_model_Entry 6 m1.f_entries css13 Z14), .row A16 c17 3 1 (m1.f_line).length ((m1.f_line).flatMap (eI .i64)), .box g2 tg19 [.map (some g4), .map (some g6), .map (some g8), .slice A10 (m1.f_entries).length c11, .slice A16 (m1.f_line).length c17, v64 m1.f_first, v32 m1.f_boot], .box g27 41 [vI nv20.f_Kind, vB nv20.f_Key.f_Src.f_Six, o8 nv20.f_Key.f_Src.f_B 0, o8 nv20.f_Key.f_Src.f_B 1, o8 nv20.f_Key.f_Src.f_B 2, o8 nv20.f_Key.f_Src.f_B 3, o8 nv20.f_Key.f_Src.f_B 4, o8 nv20.f_Key.f_Src.f_B 5, o8 nv20.f_Key.f_Src.f_B 6, o8 nv20.f_Key.f_Src.f_B 7, o8 nv20.f_Key.f_Src.f_B 8, o8 nv20.f_Key.f_Src.f_B 9, o8 nv20.f_Key.f_Src.f_B 10, o8 nv20.f_Key.f_Src.f_B 11, o8 nv20.f_Key.f_Src.f_B 12, o8 nv20.f_Key.f_Src.f_B 13, o8 nv20.f_Key.f_Src.f_B 14, o8 nv20.f_Key.f_Src.f_B 15, vB nv20.f_Key.f_Dst.f_Six, o8 nv20.f_Key.f_Dst.f_B 0, o8 nv20.f_Key.f_Dst.f_B 1, o8 nv20.f_Key.f_Dst.f_B 2, o8 nv20.f_Key.f_Dst.f_B 3, o8 nv20.f_Key.f_Dst.f_B 4, o8 nv20.f_Key.f_Dst.f_B 5, o8 nv20.f_Key.f_Dst.f_B 6, o8 nv20.f_Key.f_Dst.f_B 7, o8 nv20.f_Key.f_Dst.f_B 8, o8 nv20.f_Key.f_Dst.f_B 9, o8 nv20.f_Key.f_Dst.f_B 10, o8 nv20.f_Key.f_Dst.f_B 11, o8 nv20.f_Key.f_Dst.f_B 12, o8 nv20.f_Key.f_Dst.f_B 13, o8 nv20.f_Key.f_Dst.f_B 14, o8 nv20.f_Key.f_Dst.f_B 15, v8 nv20.f_Key.f_Proto, v16 nv20.f_Key.f_SrcPort, v16 nv20.f_Key.f_DstPort, v64 nv20.f_Total.f_Packets, v64 nv20.f_Total.f_Bytes, .slice A21 (nv20.f_Records).length c22, v32 nv20.f_Epoch, v64 nv20.f_N, v64 nv20.f_First, v64 nv20.f_Next]] ∧ F_model_Model_crash_j2 m1 nv20 t72 = some r) ?_ ?_
 ·replace hM := hM.drewN 1
  refine KC.draw [] [] [3, 10, 11] [0, 1, 4, 5, 6, 7, 9, 12, 13] (.ofList [0, 1, 2, 3, 4, 5, 6, 7, 8, 9, 10, 11, 12, 13]) moP (by kernel_rfl) ?_
  refine RD.p rfl rfl rfl rfl (fun w' => O.move rfl) ?_
  refine RD.p rfl rfl rfl rfl (fun w' => O.fldA fl41_6 (by decide) rfl) ?_
  refine RD.q rfl rfl rfl rfl (fun w' hf => O.load sc35 rfl (Cs.adds [43] ((hM.bx (i := 7) rfl).fut hf) rfl)) ?_
  refine obindE hF fun y52 hx53 hF => ?_
  refine RD.mcall rfl rfl trivial Try.func39 bd39 rfl rfl (c_model_Model_all_fmodel_Model_crash_2 _ m1 _ (hM.mapR (i := 0) rfl) _ (hM.mapR (i := 1) rfl) _ (hM.mapR (i := 2) rfl) _ _ (hM.rdD (i := 3) (j := 4) uo_model_Entry rfl rfl) _ _ (hM.rd (i := 5) rfl) _ (hM.bx (i := 6) rfl) 0 nv20.f_First _ hx53) fun v w54 hv => ?_
  obtain ⟨rfl, hN55⟩ := hv
  refine ⟨fun _ => hN55.fut, ?_⟩
  replace hM := hM.call0 hN55
  refine RD.p rfl rfl rfl rfl (fun w' => O.not rfl) ?_
  refine RD.p rfl rfl rfl rfl (fun w' => O.move rfl) ?_
  refine RD.bcase (t := 44) rfl (fun hc => ?_) (fun hc => ?_)
  ·rw [if_pos hc] at hF
   refine RD.brun1 [6, 7, 8, 9, 10, 11, 12, 13] 52 true (by kernel_rfl) ?_
   refine RD.nil ?_
   refine KQ.then_k ?_
   exact fun a ha => ⟨true, ha.less (less_cons rfl (less_cons rfl (less_cons rfl less_nil))), hM, hF⟩
  rw [if_neg (ne_true hc)] at hF
  refine RD.gp rfl rfl rfl rfl rfl rfl (fun w' => O.move rfl) ?_
  refine RD.gp rfl rfl rfl rfl rfl rfl (fun w' => O.fldA fl41_7 (by decide) rfl) ?_
  refine RD.gq rfl rfl rfl rfl rfl rfl (fun w' hf => O.load sc35 rfl (Cs.adds [44] ((hM.bx (i := 7) rfl).fut hf) rfl)) ?_
  refine RD.gp rfl rfl rfl rfl rfl rfl (fun w' => O.move rfl) ?_
  refine obindE hF fun y56 hx57 hF => ?_
  refine RD.mcall rfl rfl ⟨rfl, rfl⟩ Try.func33 bd33 rfl rfl (c_model_Model_next _ m1 _ (hM.mapR (i := 0) rfl) _ (hM.mapR (i := 1) rfl) _ (hM.mapR (i := 2) rfl) _ _ (hM.rdD (i := 3) (j := 4) uo_model_Entry rfl rfl) _ _ (hM.rd (i := 5) rfl) _ (hM.bx (i := 6) rfl) _ hx57) fun v w58 hv => ?_
  obtain ⟨rfl, hN59⟩ := hv
  refine ⟨fun _ => hN59.fut, ?_⟩
  replace hM := hM.call0 hN59
  refine obindE hF fun y60 hx61 hF => ?_
  refine RD.mcall rfl rfl ⟨rfl, rfl⟩ Try.func39 bd39 rfl rfl (c_model_Model_all_fmodel_Model_crash_3 _ m1 _ (hM.mapR (i := 0) rfl) _ (hM.mapR (i := 1) rfl) _ (hM.mapR (i := 2) rfl) _ _ (hM.rdD (i := 3) (j := 4) uo_model_Entry rfl rfl) _ _ (hM.rd (i := 5) rfl) _ (hM.bx (i := 6) rfl) nv20.f_Next y56 _ hx61) fun v w62 hv => ?_
  obtain ⟨rfl, hN63⟩ := hv
  refine ⟨fun _ => hN63.fut, ?_⟩
  replace hM := hM.call0 hN63
  refine RD.gp rfl rfl rfl rfl rfl rfl (fun w' => O.not rfl) ?_
  refine RD.p rfl rfl rfl rfl (fun w' => O.pickf rfl rfl) ?_
  refine RD.nil ?_
  refine KQ.then_k ?_
  exact fun a ha => ⟨(!y60), ha.less (less_cons rfl (less_cons rfl (less_cons rfl less_nil))), hM, hF⟩
 rintro a w73 ⟨t72, ha, hM, hF⟩
 refine KC.app ha ?_
 clear ha
 unfold F_model_Model_crash_j2 at hF
 refine KC.cond rfl (fun hc => ?_) (fun hc => ?_)
 ·rw [if_pos hc] at hF
  refine sr fun Q74 hQ74 => ?_
  refine va rfl rfl ?_
  refine nt hQ74 ?_
  clear hQ74 Q74
  refine KC.ret ?_
  refine KQ.thr hQ51 ?_
  clear hQ51 Q51
  have hE := Option.some.inj hF
  clear hF
  subst hE
  replace hM := hM.pick [6, 0, 1, 2, 3, 4, 5] rfl (by decide)
  refine KQ.rets Try.results26 (RVs.cons (RV.tm rfl) RVs.nil) ?_
  exact ⟨_, rfl, g4, g6, g8, A10, c11, css13, Z14, A16, c17, rfl, hM⟩
 rw [if_neg (ne_true hc)] at hF
 refine KC.skip ?_
 refine KQ.thn hQ51 ?_
 clear hQ51 Q51
 refine KC.cut (fun a w116 => ∃ (A112 : Option Addr) (c113 : Nat) (p114 : List Int), Kn 138 [(0, .pointer (some ⟨g2, 0, none⟩)), (3, .pointer (some ⟨g27, 0, none⟩))] a ∧ Mem w ([some g2] ++ ([some g4] ++ ([some g6] ++ ([some g8] ++ ([rblk A10 c11] ++ (Z14.map some ++ ([rblk A16 c17] ++ ([])))))))) w116 [.res [g4] (MR62 g4 m1.f_forwarded), .res [g6] (MR62 g6 m1.f_cached), .res [g8] (MR62 g8 m1.f_lost), .row A10 c11 47 6 (m1.f_entries).length (css13).flatten, .res Z14 (Els RO_model_Entry 6 m1.f_entries css13 Z14), .row A112 c113 3 1 (p114).length ((p114).flatMap (eI .i64)), .box g2 tg19 [.map (some g4), .map (some g6), .map (some g8), .slice A10 (m1.f_entries).length c11, .slice A112 (p114).length c113, v64 nv20.f_First, v32 nv20.f_Epoch], .box g27 41 [vI nv20.f_Kind, vB nv20.f_Key.f_Src.f_Six, o8 nv20.f_Key.f_Src.f_B 0, o8 nv20.f_Key.f_Src.f_B 1, o8 nv20.f_Key.f_Src.f_B 2, o8 nv20.f_Key.f_Src.f_B 3, o8 nv20.f_Key.f_Src.f_B 4, o8 nv20.f_Key.f_Src.f_B 5, o8 nv20.f_Key.f_Src.f_B 6, o8 nv20.f_Key.f_Src.f_B 7, o8 nv20.f_Key.f_Src.f_B 8, o8 nv20.f_Key.f_Src.f_B 9, o8 nv20.f_Key.f_Src.f_B 10, o8 nv20.f_Key.f_Src.f_B 11, o8 nv20.f_Key.f_Src.f_B 12, o8 nv20.f_Key.f_Src.f_B 13, o8 nv20.f_Key.f_Src.f_B 14, o8 nv20.f_Key.f_Src.f_B 15, vB nv20.f_Key.f_Dst.f_Six, o8 nv20.f_Key.f_Dst.f_B 0, o8 nv20.f_Key.f_Dst.f_B 1, o8 nv20.f_Key.f_Dst.f_B 2, o8 nv20.f_Key.f_Dst.f_B 3, o8 nv20.f_Key.f_Dst.f_B 4, o8 nv20.f_Key.f_Dst.f_B 5, o8 nv20.f_Key.f_Dst.f_B 6, o8 nv20.f_Key.f_Dst.f_B 7, o8 nv20.f_Key.f_Dst.f_B 8, o8 nv20.f_Key.f_Dst.f_B 9, o8 nv20.f_Key.f_Dst.f_B 10, o8 nv20.f_Key.f_Dst.f_B 11, o8 nv20.f_Key.f_Dst.f_B 12, o8 nv20.f_Key.f_Dst.f_B 13, o8 nv20.f_Key.f_Dst.f_B 14, o8 nv20.f_Key.f_Dst.f_B 15, v8 nv20.f_Key.f_Proto, v16 nv20.f_Key.f_SrcPort, v16 nv20.f_Key.f_DstPort, v64 nv20.f_Total.f_Packets, v64 nv20.f_Total.f_Bytes, .slice A21 (nv20.f_Records).length c22, v32 nv20.f_Epoch, v64 nv20.f_N, v64 nv20.f_First, v64 nv20.f_Next]] ∧ F_model_Model_crash_j3 m1 nv20 p114 = some r) ?_ ?_
 ·replace hM := hM.drewN 1
  refine KC.draw [] [17, 20, 23] [6, 14, 17, 20, 23] [0, 1, 2, 3, 5, 7, 8, 9, 11, 13, 15, 16, 18, 19, 21, 22] (.cons 0 (.cons 1 (.cons 2 (.cons 3 (.cons 4 (.cons 5 (.cons 7 (.cons 8 (.cons 9 (.cons 10 (.cons 11 (.cons 12 (.cons 13 (.alt 6 (.ofList [14, 15, 16, 17, 18, 19, 20, 21, 22, 23]) 14 (.cons 15 (.cons 16 (.alt 6 (.ofList [17, 18, 19, 20, 21, 22, 23]) 17 (.ofList [6, 18, 19, 20, 21, 22, 23])))))))))))))))))) moP (by kernel_rfl) ?_
  refine RD.p rfl rfl rfl rfl (fun w' => O.move rfl) ?_
  refine RD.p rfl rfl rfl rfl (fun w' => O.move rfl) ?_
  refine RD.p rfl rfl rfl rfl (fun w' => O.move rfl) ?_
  refine RD.p rfl rfl rfl rfl (fun w' => O.fldA fl41_4 (by decide) rfl) ?_
  refine RD.q rfl rfl rfl rfl (fun w' hf => O.load sc39 rfl (Cs.adds [41] ((hM.bx (i := 7) rfl).fut hf) rfl)) ?_
  refine RD.p rfl rfl rfl rfl (fun w' => O.fldA fl41_6 (by decide) rfl) ?_
  refine RD.p rfl rfl rfl rfl (fun w' => O.move rfl) ?_
  refine RD.p rfl rfl rfl rfl (fun w' => O.nilp rfl) ?_
  refine RD.p rfl rfl rfl rfl (fun w' => O.fldA fl65_4 (by decide) rfl) ?_
  refine RD.q rfl rfl rfl rfl (fun w' hf => O.load sc63 rfl (Cs.adds [4] ((hM.bx (i := 6) rfl).fut hf) rfl)) ?_
  refine RD.p rfl rfl rfl rfl (fun w' => O.fldA fl41_7 (by decide) rfl) ?_
  refine RD.q rfl rfl rfl rfl (fun w' hf => O.load sc35 rfl (Cs.adds [44] ((hM.bx (i := 7) rfl).fut hf) rfl)) ?_
  refine obindE hF fun cut75 hy76 hF => ?_
  refine cutNE A16 c17 (Int.toNat 0) 1 fun A77 c78 eA80 ec81 => ?_
  have hr79 := Rd.cutT (enc := (eI .i64)) (s := 1) (fun _ => rfl) (hM.rd (i := 5) rfl) hy76 (m := c17) (by have := (hM.rd (i := 5) rfl).cap; have := (gcut_some hy76).2.2.1; omega) (Nat.le_refl _)
  rw [← eA80, ← ec81] at hr79
  refine RD.p (v := .slice A77 (cut75).length c78) rfl rfl rfl rfl (fun w' => (by rw [eA80, ec81]; exact O.cuthT sl63 (hM.rd (i := 5) rfl) hy76 rfl rfl)) ?_
  refine RD.alt ?_ ?_
  ·refine RD.mq rfl rfl (O.load sc35 rfl (Cs.adds [43] ((hM.bx (i := 7) rfl)) rfl)) rfl ?_
   refine obindE hF fun y82 hx83 hF => ?_
   refine RD.mcall rfl rfl trivial Try.func35 bd35 rfl rfl (c_slices_Clone_int_int _ _ _ cut75 hr79 _ hx83) fun v w84 hv => ?_
   obtain ⟨A86, c87, rfl, hN85⟩ := hv
   refine ⟨fun _ => hN85.fut, ?_⟩
   have hr79 := hr79.fut hN85.fut
   replace hM := hM.call hN85
   refine RD.p rfl rfl rfl rfl (fun w' => O.nilp rfl) ?_
   refine RD.p rfl rfl rfl rfl (fun w' => O.fldA fl65_6 (by decide) rfl) ?_
   refine RD.meffs rfl rfl rfl (E.stB (j := 6) (off := 6) (vs := [v32 nv20.f_Epoch]) (cs' := [.map (some g4), .map (some g6), .map (some g8), .slice A10 (m1.f_entries).length c11, .slice A16 (m1.f_line).length c17, v64 m1.f_first, v32 nv20.f_Epoch]) hM rfl sz39 rfl (adds_eq [6] rfl) rfl rfl (One.all rfl) rfl rfl) fun w89 hM1 => ?_
   clear hM
   have hM := hM1
   clear hM1
   have hr79 := Rd.cutT (enc := (eI .i64)) (s := 1) (fun _ => rfl) (hM.rd (i := 5) rfl) hy76 (m := c17) (by have := (hM.rd (i := 5) rfl).cap; have := (gcut_some hy76).2.2.1; omega) (Nat.le_refl _)
   rw [← eA80, ← ec81] at hr79
   refine RD.p rfl rfl rfl rfl (fun w' => O.nilp rfl) ?_
   refine RD.p rfl rfl rfl rfl (fun w' => O.fldA fl65_5 (by decide) rfl) ?_
   refine RD.meffs rfl rfl rfl (E.stB (j := 6) (off := 5) (vs := [v64 nv20.f_First]) (cs' := [.map (some g4), .map (some g6), .map (some g8), .slice A10 (m1.f_entries).length c11, .slice A16 (m1.f_line).length c17, v64 nv20.f_First, v32 nv20.f_Epoch]) hM rfl sz35 rfl (adds_eq [5] rfl) rfl rfl (One.all rfl) rfl rfl) fun w90 hM1 => ?_
   clear hM
   have hM := hM1
   clear hM1
   have hr79 := Rd.cutT (enc := (eI .i64)) (s := 1) (fun _ => rfl) (hM.rd (i := 5) rfl) hy76 (m := c17) (by have := (hM.rd (i := 5) rfl).cap; have := (gcut_some hy76).2.2.1; omega) (Nat.le_refl _)
   rw [← eA80, ← ec81] at hr79
   refine RD.p rfl rfl rfl rfl (fun w' => O.nilp rfl) ?_
   refine RD.p rfl rfl rfl rfl (fun w' => O.fldA fl65_4 (by decide) rfl) ?_
   refine RD.meffs rfl rfl rfl (E.stB (j := 6) (off := 4) (vs := [.slice A86 (y82).length c87]) (cs' := [.map (some g4), .map (some g6), .map (some g8), .slice A10 (m1.f_entries).length c11, .slice A86 (y82).length c87, v64 nv20.f_First, v32 nv20.f_Epoch]) hM rfl sz63 rfl (adds_eq [4] rfl) rfl rfl (One.all rfl) rfl rfl) fun w91 hM1 => ?_
   clear hM
   have hM := hM1
   clear hM1
   have hr79 := Rd.cutT (enc := (eI .i64)) (s := 1) (fun _ => rfl) (hM.rd (i := 5) rfl) hy76 (m := c17) (by have := (hM.rd (i := 5) rfl).cap; have := (gcut_some hy76).2.2.1; omega) (Nat.le_refl _)
   rw [← eA80, ← ec81] at hr79
   refine RD.nil ?_
   refine KQ.then_k ?_
   replace hM := hM.pick [0, 1, 2, 3, 4, 8, 6, 7] rfl (by decide)
   exact fun a ha => ⟨A86, c87, y82, ha.less (less_cons rfl (less_cons rfl less_nil)), hM, hF⟩
  refine obindE hF fun y92 hx93 hF => ?_
  refine RD.mcall rfl rfl trivial Try.func35 bd35 rfl rfl (c_slices_Clone_int_int _ _ _ cut75 hr79 _ hx93) fun v w94 hv => ?_
  obtain ⟨A96, c97, rfl, hN95⟩ := hv
  refine ⟨fun _ => hN95.fut, ?_⟩
  have hr79 := hr79.fut hN95.fut
  replace hM := hM.call hN95
  refine RD.p rfl rfl rfl rfl (fun w' => O.nilp rfl) ?_
  refine RD.p rfl rfl rfl rfl (fun w' => O.fldA fl65_6 (by decide) rfl) ?_
  refine RD.alt ?_ ?_
  ·refine RD.mq rfl rfl (O.load sc35 rfl (Cs.adds [43] ((hM.bx (i := 7) rfl)) rfl)) rfl ?_
   refine RD.meffs rfl rfl rfl (E.stB (j := 6) (off := 6) (vs := [v32 nv20.f_Epoch]) (cs' := [.map (some g4), .map (some g6), .map (some g8), .slice A10 (m1.f_entries).length c11, .slice A16 (m1.f_line).length c17, v64 m1.f_first, v32 nv20.f_Epoch]) hM rfl sz39 rfl (adds_eq [6] rfl) rfl rfl (One.all rfl) rfl rfl) fun w99 hM1 => ?_
   clear hM
   have hM := hM1
   clear hM1
   have hr79 := Rd.cutT (enc := (eI .i64)) (s := 1) (fun _ => rfl) (hM.rd (i := 5) rfl) hy76 (m := c17) (by have := (hM.rd (i := 5) rfl).cap; have := (gcut_some hy76).2.2.1; omega) (Nat.le_refl _)
   rw [← eA80, ← ec81] at hr79
   refine RD.p rfl rfl rfl rfl (fun w' => O.nilp rfl) ?_
   refine RD.p rfl rfl rfl rfl (fun w' => O.fldA fl65_5 (by decide) rfl) ?_
   refine RD.meffs rfl rfl rfl (E.stB (j := 6) (off := 5) (vs := [v64 nv20.f_First]) (cs' := [.map (some g4), .map (some g6), .map (some g8), .slice A10 (m1.f_entries).length c11, .slice A16 (m1.f_line).length c17, v64 nv20.f_First, v32 nv20.f_Epoch]) hM rfl sz35 rfl (adds_eq [5] rfl) rfl rfl (One.all rfl) rfl rfl) fun w100 hM1 => ?_
   clear hM
   have hM := hM1
   clear hM1
   have hr79 := Rd.cutT (enc := (eI .i64)) (s := 1) (fun _ => rfl) (hM.rd (i := 5) rfl) hy76 (m := c17) (by have := (hM.rd (i := 5) rfl).cap; have := (gcut_some hy76).2.2.1; omega) (Nat.le_refl _)
   rw [← eA80, ← ec81] at hr79
   refine RD.p rfl rfl rfl rfl (fun w' => O.nilp rfl) ?_
   refine RD.p rfl rfl rfl rfl (fun w' => O.fldA fl65_4 (by decide) rfl) ?_
   refine RD.meffs rfl rfl rfl (E.stB (j := 6) (off := 4) (vs := [.slice A96 (y92).length c97]) (cs' := [.map (some g4), .map (some g6), .map (some g8), .slice A10 (m1.f_entries).length c11, .slice A96 (y92).length c97, v64 nv20.f_First, v32 nv20.f_Epoch]) hM rfl sz63 rfl (adds_eq [4] rfl) rfl rfl (One.all rfl) rfl rfl) fun w101 hM1 => ?_
   clear hM
   have hM := hM1
   clear hM1
   have hr79 := Rd.cutT (enc := (eI .i64)) (s := 1) (fun _ => rfl) (hM.rd (i := 5) rfl) hy76 (m := c17) (by have := (hM.rd (i := 5) rfl).cap; have := (gcut_some hy76).2.2.1; omega) (Nat.le_refl _)
   rw [← eA80, ← ec81] at hr79
   refine RD.nil ?_
   refine KQ.then_k ?_
   replace hM := hM.pick [0, 1, 2, 3, 4, 8, 6, 7] rfl (by decide)
   exact fun a ha => ⟨A96, c97, y92, ha.less (less_cons rfl (less_cons rfl less_nil)), hM, hF⟩
  refine RD.meffs rfl rfl rfl (E.stB (j := 6) (off := 6) (vs := [v32 nv20.f_Epoch]) (cs' := [.map (some g4), .map (some g6), .map (some g8), .slice A10 (m1.f_entries).length c11, .slice A16 (m1.f_line).length c17, v64 m1.f_first, v32 nv20.f_Epoch]) hM rfl sz39 rfl (adds_eq [6] rfl) rfl rfl (One.all rfl) rfl rfl) fun w102 hM1 => ?_
  clear hM
  have hM := hM1
  clear hM1
  have hr79 := Rd.cutT (enc := (eI .i64)) (s := 1) (fun _ => rfl) (hM.rd (i := 5) rfl) hy76 (m := c17) (by have := (hM.rd (i := 5) rfl).cap; have := (gcut_some hy76).2.2.1; omega) (Nat.le_refl _)
  rw [← eA80, ← ec81] at hr79
  refine RD.mq rfl rfl (O.load sc35 rfl (Cs.adds [43] ((hM.bx (i := 7) rfl)) rfl)) rfl ?_
  refine RD.p rfl rfl rfl rfl (fun w' => O.nilp rfl) ?_
  refine RD.p rfl rfl rfl rfl (fun w' => O.fldA fl65_5 (by decide) rfl) ?_
  refine RD.meffs rfl rfl rfl (E.stB (j := 6) (off := 5) (vs := [v64 nv20.f_First]) (cs' := [.map (some g4), .map (some g6), .map (some g8), .slice A10 (m1.f_entries).length c11, .slice A16 (m1.f_line).length c17, v64 nv20.f_First, v32 nv20.f_Epoch]) hM rfl sz35 rfl (adds_eq [5] rfl) rfl rfl (One.all rfl) rfl rfl) fun w103 hM1 => ?_
  clear hM
  have hM := hM1
  clear hM1
  have hr79 := Rd.cutT (enc := (eI .i64)) (s := 1) (fun _ => rfl) (hM.rd (i := 5) rfl) hy76 (m := c17) (by have := (hM.rd (i := 5) rfl).cap; have := (gcut_some hy76).2.2.1; omega) (Nat.le_refl _)
  rw [← eA80, ← ec81] at hr79
  refine RD.p rfl rfl rfl rfl (fun w' => O.nilp rfl) ?_
  refine RD.p rfl rfl rfl rfl (fun w' => O.fldA fl65_4 (by decide) rfl) ?_
  refine RD.meffs rfl rfl rfl (E.stB (j := 6) (off := 4) (vs := [.slice A96 (y92).length c97]) (cs' := [.map (some g4), .map (some g6), .map (some g8), .slice A10 (m1.f_entries).length c11, .slice A96 (y92).length c97, v64 nv20.f_First, v32 nv20.f_Epoch]) hM rfl sz63 rfl (adds_eq [4] rfl) rfl rfl (One.all rfl) rfl rfl) fun w104 hM1 => ?_
  clear hM
  have hM := hM1
  clear hM1
  have hr79 := Rd.cutT (enc := (eI .i64)) (s := 1) (fun _ => rfl) (hM.rd (i := 5) rfl) hy76 (m := c17) (by have := (hM.rd (i := 5) rfl).cap; have := (gcut_some hy76).2.2.1; omega) (Nat.le_refl _)
  rw [← eA80, ← ec81] at hr79
  refine RD.nil ?_
  refine KQ.then_k ?_
  replace hM := hM.pick [0, 1, 2, 3, 4, 8, 6, 7] rfl (by decide)
  exact fun a ha => ⟨A96, c97, y92, ha.less (less_cons rfl (less_cons rfl less_nil)), hM, hF⟩
 rintro a w116 ⟨A112, c113, p114, ha, hM, hF⟩
 refine KC.app ha ?_
 clear ha
 unfold F_model_Model_crash_j3 at hF
 refine KC.seqH fun Q117 hQ117 => ?_
 refine sr fun Q118 hQ118 => ?_
 refine vm rfl rfl ?_
 refine RL.val (O.nilp rfl) rfl ?_
 refine RL.val (O.fldA fl65_3 (by decide) rfl) rfl ?_
 refine RL.val (O.load sc42 rfl (Cs.adds [3] ((hM.bx (i := 6) rfl)) rfl)) rfl ?_
 refine RL.val (O.len sl42 rfl) rfl ?_
 refine vm rfl rfl ?_
 refine nt hQ118 ?_
 clear hQ118 Q118
 refine KC.block ?_
 refine KC.loop (fun k185 a w183 => ∃ (A174 : Option Addr) (c175 : Nat) (css176 : List (List Value)) (Z177 : List Nat) (p179 : List T_model_Entry) (t182 : Int), Kn 138 [(0, .pointer (some ⟨g2, 0, none⟩)), (3, .pointer (some ⟨g27, 0, none⟩)), (78, vI (m1.f_entries.length : Int)), (79, vI t182)] a ∧ Mem w ([some g2] ++ ([some g4] ++ ([some g6] ++ ([some g8] ++ ([rblk A10 c11] ++ (Z14.map some ++ ([rblk A16 c17] ++ ([])))))))) w183 [.res [g4] (MR62 g4 m1.f_forwarded), .res [g6] (MR62 g6 m1.f_cached), .res [g8] (MR62 g8 m1.f_lost), .row A174 c175 47 6 (p179).length (css176).flatten, .res Z177 (Els RO_model_Entry 6 p179 css176 Z177), .row A112 c113 3 1 (p114).length ((p114).flatMap (eI .i64)), .box g2 tg19 [.map (some g4), .map (some g6), .map (some g8), .slice A174 (p179).length c175, .slice A112 (p114).length c113, v64 nv20.f_First, v32 nv20.f_Epoch], .box g27 41 [vI nv20.f_Kind, vB nv20.f_Key.f_Src.f_Six, o8 nv20.f_Key.f_Src.f_B 0, o8 nv20.f_Key.f_Src.f_B 1, o8 nv20.f_Key.f_Src.f_B 2, o8 nv20.f_Key.f_Src.f_B 3, o8 nv20.f_Key.f_Src.f_B 4, o8 nv20.f_Key.f_Src.f_B 5, o8 nv20.f_Key.f_Src.f_B 6, o8 nv20.f_Key.f_Src.f_B 7, o8 nv20.f_Key.f_Src.f_B 8, o8 nv20.f_Key.f_Src.f_B 9, o8 nv20.f_Key.f_Src.f_B 10, o8 nv20.f_Key.f_Src.f_B 11, o8 nv20.f_Key.f_Src.f_B 12, o8 nv20.f_Key.f_Src.f_B 13, o8 nv20.f_Key.f_Src.f_B 14, o8 nv20.f_Key.f_Src.f_B 15, vB nv20.f_Key.f_Dst.f_Six, o8 nv20.f_Key.f_Dst.f_B 0, o8 nv20.f_Key.f_Dst.f_B 1, o8 nv20.f_Key.f_Dst.f_B 2, o8 nv20.f_Key.f_Dst.f_B 3, o8 nv20.f_Key.f_Dst.f_B 4, o8 nv20.f_Key.f_Dst.f_B 5, o8 nv20.f_Key.f_Dst.f_B 6, o8 nv20.f_Key.f_Dst.f_B 7, o8 nv20.f_Key.f_Dst.f_B 8, o8 nv20.f_Key.f_Dst.f_B 9, o8 nv20.f_Key.f_Dst.f_B 10, o8 nv20.f_Key.f_Dst.f_B 11, o8 nv20.f_Key.f_Dst.f_B 12, o8 nv20.f_Key.f_Dst.f_B 13, o8 nv20.f_Key.f_Dst.f_B 14, o8 nv20.f_Key.f_Dst.f_B 15, v8 nv20.f_Key.f_Proto, v16 nv20.f_Key.f_SrcPort, v16 nv20.f_Key.f_DstPort, v64 nv20.f_Total.f_Packets, v64 nv20.f_Total.f_Bytes, .slice A21 (nv20.f_Records).length c22, v32 nv20.f_Epoch, v64 nv20.f_N, v64 nv20.f_First, v64 nv20.f_Next]] ∧ F_model_Model_crash_L1 m1 nv20 p114 k185 p179 t182 = some r) ?_ ?_
 ·exact fun a ha => ⟨fuel0, A10, c11, css13, Z14, m1.f_entries, 0, ha.less (less_cons rfl (less_cons rfl (less_cons rfl (less_cons rfl less_nil)))), hM, hF⟩
 rintro k185 a w183 ⟨A174, c175, css176, Z177, p179, t182, ha, hM, hF⟩
 refine KC.app ha ?_
 clear ha
 cases k185 with
 | zero => exact (none_some hF).elim
 | succ k185 =>
 have hF : F_model_Model_crash_l1 (F_model_Model_crash_L1 m1 nv20 p114 k185) m1 nv20 p114 p179 t182 = some r := hF
 unfold F_model_Model_crash_l1 at hF
 refine sr fun Q186 hQ186 => ?_
 refine RL.val (O.lss rfl rfl) rfl ?_
 refine nt hQ186 ?_
 clear hQ186 Q186
 refine KC.seqH fun Q187 hQ187 => ?_
 refine KC.cond rfl (fun hc => ?_) (fun hc => ?_)
 ·rw [if_pos hc] at hF
  refine KC.skip ?_
  refine KQ.thn hQ187 ?_
  clear hQ187 Q187
  refine KC.seqH fun Q188 hQ188 => ?_
  refine KC.block ?_
  refine sr fun Q189 hQ189 => ?_
  refine vm rfl rfl ?_
  refine va rfl rfl ?_
  refine nt hQ189 ?_
  clear hQ189 Q189
  refine KC.region ?_
  refine vm rfl rfl ?_
  refine RL.val (O.nilp rfl) rfl ?_
  refine RL.val (O.fldA fl65_3 (by decide) rfl) rfl ?_
  refine RL.val (O.load sc42 rfl (Cs.adds [3] ((hM.bx (i := 6) rfl)) rfl)) rfl ?_
  refine vm rfl rfl ?_
  refine obindE hF fun xv192 hx194 hF => ?_
  obtain ⟨cs197, hA193, hC196, hR195⟩ := hM.atD (i := 3) (j := 4) uo_model_Entry rfl rfl hx194
  obtain ⟨A198, c199, rfl, hr200, ho201⟩ := hR195
  refine RL.val (O.idxA sl42 (hA193) rfl rfl) rfl ?_
  refine RL.val (O.fldA fl47_3 (by decide) rfl) rfl ?_
  refine RL.effs (E.stD (i := 3) (j := 4) (off := 3) (vs := [vB false]) (cs' := [v32 xv192.f_Epoch, v64 xv192.f_N, .slice A198 (xv192.f_Records).length c199, vB false, vB xv192.f_Synced, vB xv192.f_Credited]) (u' := (T_model_Entry.mk xv192.f_Epoch xv192.f_N xv192.f_Records false xv192.f_Synced xv192.f_Credited)) hM rfl rfl rfl hC196 hx194 sz4 rfl (addsR_eq [3] rfl) rfl rfl (One.all rfl) rfl rfl (fun o h => by obtain ⟨A0', c0', h1, h2⟩ := h; cases h1; exact ⟨_, _, rfl, h2⟩)) fun w202 hM1 => ?_
  clear hM
  obtain ⟨hM, hn203⟩ := hM1
  refine RL.reslot (t := 85) rfl hn203 ?_
  replace hM := hM.rebox (i := 6) (cs' := [.map (some g4), .map (some g6), .map (some g8), .slice A174 ((p179.set (t182 : Int).toNat (T_model_Entry.mk xv192.f_Epoch xv192.f_N xv192.f_Records false xv192.f_Synced xv192.f_Credited))).length c175, .slice A112 (p114).length c113, v64 nv20.f_First, v32 nv20.f_Epoch]) rfl (by rw [← hn203])
  refine RL.nil ?_
  refine KQ.blk_n ?_
  refine KQ.thn hQ188 ?_
  clear hQ188 Q188
  refine KC.region ?_
  refine RL.val (O.add rfl rfl) rfl ?_
  refine vm rfl rfl ?_
  refine RL.nil ?_
  refine KQ.then_k ?_
  exact fun a ha => ⟨k185, Nat.lt_succ_self k185, A174, c175, (css176.set (t182 : Int).toNat [v32 xv192.f_Epoch, v64 xv192.f_N, .slice A198 (xv192.f_Records).length c199, vB false, vB xv192.f_Synced, vB xv192.f_Credited]), Z177, (p179.set (t182 : Int).toNat (T_model_Entry.mk xv192.f_Epoch xv192.f_N xv192.f_Records false xv192.f_Synced xv192.f_Credited)), (IntKind.i64.wrap (t182 + 1)), ha.less (less_cons rfl (less_cons rfl (less_cons rfl (less_cons rfl less_nil)))), hM, hF⟩
 rw [if_neg (ne_true hc)] at hF
 refine KC.exit ?_
 refine KQ.thx hQ187 ?_
 clear hQ187 Q187
 refine KQ.then_x ?_
 refine KQ.blk_x ?_
 refine KQ.thn hQ117 ?_
 clear hQ117 Q117
 refine KC.seqH fun Q204 hQ204 => ?_
 refine KC.seqH fun Q205 hQ205 => ?_
 replace hM := hM.drewN 1
 refine KC.draw [] [] [] [0, 1, 2, 4, 6, 7, 8] (.ofList [0, 1, 2, 3, 4, 5, 6, 7, 8]) moP (by kernel_rfl) ?_
 refine RD.p rfl rfl rfl rfl (fun w' => O.move rfl) ?_
 refine RD.p rfl rfl rfl rfl (fun w' => O.nilp rfl) ?_
 refine RD.p rfl rfl rfl rfl (fun w' => O.fldA fl65_4 (by decide) rfl) ?_
 refine RD.q rfl rfl rfl rfl (fun w' hf => O.load sc63 rfl (Cs.adds [4] ((hM.bx (i := 6) rfl).fut hf) rfl)) ?_
 refine RD.p rfl rfl rfl rfl (fun w' => O.fldA fl41_6 (by decide) rfl) ?_
 refine RD.q rfl rfl rfl rfl (fun w' hf => O.load sc35 rfl (Cs.adds [43] ((hM.bx (i := 7) rfl).fut hf) rfl)) ?_
 refine obindE hF fun cut206 hy207 hF => ?_
 refine cutNE A112 c113 (Int.toNat nv20.f_First) 1 fun A208 c209 eA211 ec212 => ?_
 have hr210 := Rd.cutT (enc := (eI .i64)) (s := 1) (fun _ => rfl) (hM.rd (i := 5) rfl) hy207 (m := c113) (by have := (hM.rd (i := 5) rfl).cap; have := (gcut_some hy207).2.2.1; omega) (Nat.le_refl _)
 rw [← eA211, ← ec212] at hr210
 refine RD.p (v := .slice A208 (cut206).length c209) rfl rfl rfl rfl (fun w' => (by rw [eA211, ec212]; exact O.cutlT sl63 (hM.rd (i := 5) rfl) hy207 rfl rfl)) ?_
 refine RD.p rfl rfl rfl rfl (fun w' => O.len sl63 rfl) ?_
 refine RD.p rfl rfl rfl rfl (fun w' => O.move rfl) ?_
 refine RD.nil ?_
 refine KQ.thn hQ205 ?_
 clear hQ205 Q205
 replace hM := hM.pick [0, 1, 2, 3, 4, 5, 6] rfl (by decide)
 refine KC.block ?_
 refine KC.loop (fun k313 a w311 => ∃ (A302 : Option Addr) (c303 : Nat) (css304 : List (List Value)) (Z305 : List Nat) (p307 : List T_model_Entry) (t310 : Int), Kn 138 [(0, .pointer (some ⟨g2, 0, none⟩)), (96, .slice A208 (cut206).length c209), (97, vI (cut206.length : Int)), (98, vI t310)] a ∧ Mem w ([some g2] ++ ([some g4] ++ ([some g6] ++ ([some g8] ++ ([rblk A10 c11] ++ (Z14.map some ++ ([rblk A16 c17] ++ ([])))))))) w311 [.res [g4] (MR62 g4 m1.f_forwarded), .res [g6] (MR62 g6 m1.f_cached), .res [g8] (MR62 g8 m1.f_lost), .row A302 c303 47 6 (p307).length (css304).flatten, .res Z305 (Els RO_model_Entry 6 p307 css304 Z305), .row A112 c113 3 1 (p114).length ((p114).flatMap (eI .i64)), .box g2 tg19 [.map (some g4), .map (some g6), .map (some g8), .slice A302 (p307).length c303, .slice A112 (p114).length c113, v64 nv20.f_First, v32 nv20.f_Epoch]] ∧ (∀ w2, Rd w2 A112 c113 1 p114.length (p114.flatMap (eI .i64)) → Rd w2 A208 c209 1 cut206.length (cut206.flatMap (eI .i64))) ∧ F_model_Model_crash_L2 m1 nv20 p114 cut206 k313 p307 t310 = some r) ?_ ?_
 ·exact fun a ha => ⟨fuel0, A174, c175, css176, Z177, p179, 0, ha.less (less_cons rfl (less_cons rfl (less_cons rfl (less_cons rfl less_nil)))), hM, (fun w2 h0 => by (have g0 := Rd.cutT (enc := (eI .i64)) (s := 1) (fun _ => rfl) h0 hy207 (m := c113) (by have := h0.cap; have := (gcut_some hy207).2.2.1; omega) (Nat.le_refl _); rw [← eA211, ← ec212] at g0; exact g0)), hF⟩
 rintro k313 a w311 ⟨A302, c303, css304, Z305, p307, t310, ha, hM, hr309, hF⟩
 refine KC.app ha ?_
 clear ha
 cases k313 with
 | zero => exact (none_some hF).elim
 | succ k313 =>
 have hF : F_model_Model_crash_l2 (F_model_Model_crash_L2 m1 nv20 p114 cut206 k313) m1 nv20 p114 cut206 p307 t310 = some r := hF
 unfold F_model_Model_crash_l2 at hF
 have hr309r := hr309 _ (hM.rd (i := 5) rfl)
 refine sr fun Q314 hQ314 => ?_
 refine RL.val (O.lss rfl rfl) rfl ?_
 refine nt hQ314 ?_
 clear hQ314 Q314
 refine KC.seqH fun Q315 hQ315 => ?_
 refine KC.cond rfl (fun hc => ?_) (fun hc => ?_)
 ·rw [if_pos hc] at hF
  refine KC.skip ?_
  refine KQ.thn hQ315 ?_
  clear hQ315 Q315
  refine KC.seqH fun Q316 hQ316 => ?_
  refine KC.block ?_
  refine sr fun Q317 hQ317 => ?_
  refine obindE hF fun xv320 hx319 hF => ?_
  have hA318 := Rd.atN (f := (eI .i64)) (s := 1) (fun _ => rfl) (by decide) hr309r hx319
  refine RL.val (O.idxA sl63 (hA318) rfl rfl) rfl ?_
  refine RL.val (O.load sc3 rfl (hA318).cells.at0) rfl ?_
  refine va rfl rfl ?_
  refine nt hQ317 ?_
  clear hQ317 Q317
  replace hM := hM.drewN 1
  have hr309r := hr309r.fut (fut_drewN _ 1)
  refine KC.draw [] [12, 15] [12, 15] [0, 1, 2, 4, 5, 6, 7, 9, 11, 14] (.ofList [0, 1, 2, 3, 4, 5, 6, 7, 8, 9, 10, 11, 12, 13, 14, 15]) moP (by kernel_rfl) ?_
  refine RD.p rfl rfl rfl rfl (fun w' => O.move rfl) ?_
  refine RD.p rfl rfl rfl rfl (fun w' => O.nilp rfl) ?_
  refine RD.p rfl rfl rfl rfl (fun w' => O.fldA fl65_3 (by decide) rfl) ?_
  refine RD.q rfl rfl rfl rfl (fun w' hf => O.load sc42 rfl (Cs.adds [3] ((hM.bx (i := 6) rfl).fut hf) rfl)) ?_
  refine RD.p rfl rfl rfl rfl (fun w' => O.move rfl) ?_
  refine RD.p rfl rfl rfl rfl (fun w' => O.move rfl) ?_
  refine RD.p rfl rfl rfl rfl (fun w' => O.nilp rfl) ?_
  refine RD.p rfl rfl rfl rfl (fun w' => O.fldA fl65_3 (by decide) rfl) ?_
  refine RD.q rfl rfl rfl rfl (fun w' hf => O.load sc42 rfl (Cs.adds [3] ((hM.bx (i := 6) rfl).fut hf) rfl)) ?_
  refine RD.p rfl rfl rfl rfl (fun w' => O.move rfl) ?_
  refine obindE hF fun xv323 hx325 hF => ?_
  obtain ⟨cs328, hA324, hC327, hR326⟩ := hM.atD (i := 3) (j := 4) uo_model_Entry rfl rfl hx325
  obtain ⟨A329, c330, rfl, hr331, ho332⟩ := hR326
  refine RD.q rfl rfl rfl rfl (fun w' hf => O.idxA sl42 (hA324.fut hf) rfl rfl) ?_
  refine RD.p rfl rfl rfl rfl (fun w' => O.fldA fl47_3 (by decide) rfl) ?_
  refine RD.meffs rfl rfl rfl (E.stD (i := 3) (j := 4) (off := 3) (vs := [vB true]) (cs' := [v32 xv323.f_Epoch, v64 xv323.f_N, .slice A329 (xv323.f_Records).length c330, vB true, vB xv323.f_Synced, vB xv323.f_Credited]) (u' := (T_model_Entry.mk xv323.f_Epoch xv323.f_N xv323.f_Records true xv323.f_Synced xv323.f_Credited)) hM rfl rfl rfl hC327 hx325 sz4 rfl (addsR_eq [3] rfl) rfl rfl (One.all rfl) rfl rfl (fun o h => by obtain ⟨A0', c0', h1, h2⟩ := h; cases h1; exact ⟨_, _, rfl, h2⟩)) fun w333 hM1 => ?_
  clear hM
  obtain ⟨hM, hn334⟩ := hM1
  refine RD.reslot (t := 105) rfl hn334 ?_
  refine RD.reslot (t := 110) rfl hn334 ?_
  replace hM := hM.rebox (i := 6) (cs' := [.map (some g4), .map (some g6), .map (some g8), .slice A302 ((p307.set (xv320 : Int).toNat (T_model_Entry.mk xv323.f_Epoch xv323.f_N xv323.f_Records true xv323.f_Synced xv323.f_Credited))).length c303, .slice A112 (p114).length c113, v64 nv20.f_First, v32 nv20.f_Epoch]) rfl (by rw [← hn334])
  have hr309r := hr309 _ (hM.rd (i := 5) rfl)
  refine obindE hF fun xv337 hx339 hF => ?_
  obtain ⟨cs342, hA338, hC341, hR340⟩ := hM.atD (i := 3) (j := 4) uo_model_Entry rfl rfl hx339
  obtain ⟨A343, c344, rfl, hr345, ho346⟩ := hR340
  refine RD.q rfl rfl rfl rfl (fun w' hf => O.idxA sl42 (hA338.fut hf) rfl rfl) ?_
  refine RD.p rfl rfl rfl rfl (fun w' => O.fldA fl47_4 (by decide) rfl) ?_
  refine RD.meffs rfl rfl rfl (E.stD (i := 3) (j := 4) (off := 4) (vs := [vB true]) (cs' := [v32 xv337.f_Epoch, v64 xv337.f_N, .slice A343 (xv337.f_Records).length c344, vB xv337.f_There, vB true, vB xv337.f_Credited]) (u' := (T_model_Entry.mk xv337.f_Epoch xv337.f_N xv337.f_Records xv337.f_There true xv337.f_Credited)) hM rfl rfl rfl hC341 hx339 sz4 rfl (addsR_eq [4] rfl) rfl rfl (One.all rfl) rfl rfl (fun o h => by obtain ⟨A0', c0', h1, h2⟩ := h; cases h1; exact ⟨_, _, rfl, h2⟩)) fun w347 hM1 => ?_
  clear hM
  obtain ⟨hM, hn348⟩ := hM1
  refine RD.reslot (t := 105) rfl hn348 ?_
  refine RD.reslot (t := 110) rfl hn348 ?_
  replace hM := hM.rebox (i := 6) (cs' := [.map (some g4), .map (some g6), .map (some g8), .slice A302 (((p307.set (xv320 : Int).toNat (T_model_Entry.mk xv323.f_Epoch xv323.f_N xv323.f_Records true xv323.f_Synced xv323.f_Credited)).set (xv320 : Int).toNat (T_model_Entry.mk xv337.f_Epoch xv337.f_N xv337.f_Records xv337.f_There true xv337.f_Credited))).length c303, .slice A112 (p114).length c113, v64 nv20.f_First, v32 nv20.f_Epoch]) rfl (by rw [← hn348])
  have hr309r := hr309 _ (hM.rd (i := 5) rfl)
  refine RD.nil ?_
  refine KQ.blk_n ?_
  refine KQ.thn hQ316 ?_
  clear hQ316 Q316
  refine KC.region ?_
  refine RL.val (O.add rfl rfl) rfl ?_
  refine vm rfl rfl ?_
  refine RL.nil ?_
  refine KQ.then_k ?_
  exact fun a ha => ⟨k313, Nat.lt_succ_self k313, A302, c303, ((css304.set (xv320 : Int).toNat [v32 xv323.f_Epoch, v64 xv323.f_N, .slice A329 (xv323.f_Records).length c330, vB true, vB xv323.f_Synced, vB xv323.f_Credited]).set (xv320 : Int).toNat [v32 xv337.f_Epoch, v64 xv337.f_N, .slice A343 (xv337.f_Records).length c344, vB xv337.f_There, vB true, vB xv337.f_Credited]), Z305, ((p307.set (xv320 : Int).toNat (T_model_Entry.mk xv323.f_Epoch xv323.f_N xv323.f_Records true xv323.f_Synced xv323.f_Credited)).set (xv320 : Int).toNat (T_model_Entry.mk xv337.f_Epoch xv337.f_N xv337.f_Records xv337.f_There true xv337.f_Credited)), (IntKind.i64.wrap (t310 + 1)), ha.less (less_cons rfl (less_cons rfl (less_cons rfl (less_cons rfl less_nil)))), hM, (fun w2 h0 => by (have g0 := hr309 _ h0; exact g0)), hF⟩
 rw [if_neg (ne_true hc)] at hF
 refine KC.exit ?_
 refine KQ.thx hQ315 ?_
 clear hQ315 Q315
 refine KQ.then_x ?_
 refine KQ.blk_x ?_
 refine KQ.thn hQ204 ?_
 clear hQ204 Q204
 refine KC.seqH fun Q349 hQ349 => ?_
 refine sr fun Q350 hQ350 => ?_
 refine vm rfl rfl ?_
 refine RL.val (O.nilp rfl) rfl ?_
 refine RL.val (O.fldA fl65_1 (by decide) rfl) rfl ?_
 refine RL.val (O.load sc62 rfl (Cs.adds [1] ((hM.bx (i := 6) rfl)) rfl)) rfl ?_
 obtain ⟨E351, ck352, hM⟩ := hM.toE (i := 1) rfl
 have hfit357 := (hM.mapE (i := 1) rfl).2
 refine RL.eff (E.rangeR hM (hM.mapE (i := 1) rfl) Try.underlying62 rfl) rfl fun v w355 hv => ?_
 clear hM
 obtain ⟨g354, rfl, hM, hf⟩ := hv
 refine nt hQ350 ?_
 clear hQ350 Q350
 refine KC.block ?_
 have hD420 := theOne_some hF
 have hrs425 := (hM.mapR (i := 2) rfl).resp mt62
 refine KC.loop (fun k419 a w418 => ∃ (s417 : List Nat) (p412 : FM62), Kn 138 [(0, .pointer (some ⟨g2, 0, none⟩)), (121, .pointer (some ⟨g354, 0, none⟩))] a ∧ Mem w ([some g2] ++ ([some g4] ++ ([some g6] ++ ([some g8] ++ ([rblk A10 c11] ++ (Z14.map some ++ ([rblk A16 c17] ++ ([])))))))) w418 [.res [g4] (MR62 g4 m1.f_forwarded), .res [g6] (ME62 g6 E351 ck352 m1.f_cached), .res [g8] (MR62 g8 p412), .row A302 c303 47 6 (p307).length (css304).flatten, .res Z305 (Els RO_model_Entry 6 p307 css304 Z305), .row A112 c113 3 1 (p114).length ((p114).flatMap (eI .i64)), .box g2 tg19 [.map (some g4), .map (some g6), .map (some g8), .slice A302 (p307).length c303, .slice A112 (p114).length c113, v64 nv20.f_First, v32 nv20.f_Epoch], .res [g354] (IterAt g354 g6 ck352 s417)] ∧ leftN E351 s417 ≤ k419 ∧ leftN E351 s417 + s417.length = E351.length ∧ (p412 = mergeS q_packet_Key plusT (T_flow_Total.mk 0 0) E351 s417 m1.f_lost ∧ True)) ?_ ?_
 ·exact fun a ha => ⟨leftN E351 [], [], m1.f_lost, ha.less (less_cons rfl (less_cons rfl less_nil)), hM, Nat.le_refl _, leftN_nil, ⟨mergeS_nil.symm, trivial⟩⟩
 rintro k419 a w418 ⟨s417, p412, ha, hM, hms421, hsl422, hinv423⟩
 refine KC.app ha ?_
 clear ha
 refine sr fun Q426 hQ426 => ?_
 refine RL.nextR hM (hM.mapE (i := 1) rfl) (j := 7) rfl rfl rfl (fun w430 hall hM1 => ?_) (fun w430 ev427 he428 hn429 hM1 => ?_)
 ·clear hM
  have hM := hM1
  clear hM1
  replace hM := hM.toR (i := 1) rfl
  have hF := hD420 p412 (hinv423.1.trans (mergeS_all mt62 hfit357 hall))
  refine RL.val (O.ext rfl rfl) rfl ?_
  refine nt hQ426 ?_
  clear hQ426 Q426
  refine KC.seqH fun Q445 hQ445 => ?_
  refine KC.condF rfl ?_
  refine KC.exit ?_
  refine KQ.thx hQ445 ?_
  clear hQ445 Q445
  refine KQ.then_x ?_
  refine KQ.blk_x ?_
  refine KQ.thn hQ349 ?_
  clear hQ349 Q349
  replace hM := hM.pick [0, 1, 2, 3, 4, 5, 6] rfl (by decide)
  refine sr fun Q446 hQ446 => ?_
  refine vm rfl rfl ?_
  refine RL.val (O.nilp rfl) rfl ?_
  refine RL.val (O.fldA fl65_1 (by decide) rfl) rfl ?_
  refine RL.val (O.load sc62 rfl (Cs.adds [1] ((hM.bx (i := 6) rfl)) rfl)) rfl ?_
  refine RL.eff0 (E.clearR mt62 hM (j := 1) rfl rfl) fun v w447 hM1 => ?_
  clear hM
  have hM := hM1
  clear hM1
  refine nt hQ446 ?_
  clear hQ446 Q446
  refine sr fun Q448 hQ448 => ?_
  refine va rfl rfl ?_
  refine nt hQ448 ?_
  clear hQ448 Q448
  refine KC.ret ?_
  have hE := Option.some.inj hF
  clear hF
  subst hE
  replace hM := hM.pick [6, 0, 1, 2, 3, 4, 5] rfl (by decide)
  refine KQ.rets Try.results26 (RVs.cons (RV.tm rfl) RVs.nil) ?_
  exact ⟨_, rfl, g4, g6, g8, A302, c303, css304, Z305, A112, c113, rfl, hM⟩
 clear hM
 have hM := hM1
 clear hM1
 have hF : ((F_model_totals_add p412 ev427.1 ev427.2.1).bind fun y441 => some ()) = some () := by simp only [F_flow_Total_Plus, F_flow_plus, F_model_totals_add]; split <;> split <;> rfl
 refine RL.val (O.ext rfl rfl) rfl ?_
 refine nt hQ426 ?_
 clear hQ426 Q426
 refine KC.seqH fun Q431 hQ431 => ?_
 refine KC.condT rfl ?_
 refine KC.skip ?_
 refine KQ.thn hQ431 ?_
 clear hQ431 Q431
 refine KC.block ?_
 refine sr fun Q432 hQ432 => ?_
 refine RL.val (O.entryR (ks := [vB ev427.1.f_Src.f_Six, o8 ev427.1.f_Src.f_B 0, o8 ev427.1.f_Src.f_B 1, o8 ev427.1.f_Src.f_B 2, o8 ev427.1.f_Src.f_B 3, o8 ev427.1.f_Src.f_B 4, o8 ev427.1.f_Src.f_B 5, o8 ev427.1.f_Src.f_B 6, o8 ev427.1.f_Src.f_B 7, o8 ev427.1.f_Src.f_B 8, o8 ev427.1.f_Src.f_B 9, o8 ev427.1.f_Src.f_B 10, o8 ev427.1.f_Src.f_B 11, o8 ev427.1.f_Src.f_B 12, o8 ev427.1.f_Src.f_B 13, o8 ev427.1.f_Src.f_B 14, o8 ev427.1.f_Src.f_B 15, vB ev427.1.f_Dst.f_Six, o8 ev427.1.f_Dst.f_B 0, o8 ev427.1.f_Dst.f_B 1, o8 ev427.1.f_Dst.f_B 2, o8 ev427.1.f_Dst.f_B 3, o8 ev427.1.f_Dst.f_B 4, o8 ev427.1.f_Dst.f_B 5, o8 ev427.1.f_Dst.f_B 6, o8 ev427.1.f_Dst.f_B 7, o8 ev427.1.f_Dst.f_B 8, o8 ev427.1.f_Dst.f_B 9, o8 ev427.1.f_Dst.f_B 10, o8 ev427.1.f_Dst.f_B 11, o8 ev427.1.f_Dst.f_B 12, o8 ev427.1.f_Dst.f_B 13, o8 ev427.1.f_Dst.f_B 14, o8 ev427.1.f_Dst.f_B 15, v8 ev427.1.f_Proto, v16 ev427.1.f_SrcPort, v16 ev427.1.f_DstPort]) (vs := [v64 ev427.2.1.f_Packets, v64 ev427.2.1.f_Bytes]) (hM.mapE (i := 1) rfl) (hM.iterAt (i := 7) rfl) he428 rfl rfl rfl) rfl ?_
 refine RL.val (O.ext rfl rfl) rfl ?_
 refine RL.val (O.ext rfl rfl) rfl ?_
 refine RL.eff (E.alloc hM ze34) rfl fun v w434 hv => ?_
 clear hM
 obtain ⟨g433, rfl, hM, hf⟩ := hv
 refine RL.eff (E.alloc hM ze37) rfl fun v w437 hv => ?_
 clear hM
 obtain ⟨g436, rfl, hM, hf⟩ := hv
 refine RL.effs (E.stB (j := 8) (off := 0) (vs := [vB ev427.1.f_Src.f_Six, o8 ev427.1.f_Src.f_B 0, o8 ev427.1.f_Src.f_B 1, o8 ev427.1.f_Src.f_B 2, o8 ev427.1.f_Src.f_B 3, o8 ev427.1.f_Src.f_B 4, o8 ev427.1.f_Src.f_B 5, o8 ev427.1.f_Src.f_B 6, o8 ev427.1.f_Src.f_B 7, o8 ev427.1.f_Src.f_B 8, o8 ev427.1.f_Src.f_B 9, o8 ev427.1.f_Src.f_B 10, o8 ev427.1.f_Src.f_B 11, o8 ev427.1.f_Src.f_B 12, o8 ev427.1.f_Src.f_B 13, o8 ev427.1.f_Src.f_B 14, o8 ev427.1.f_Src.f_B 15, vB ev427.1.f_Dst.f_Six, o8 ev427.1.f_Dst.f_B 0, o8 ev427.1.f_Dst.f_B 1, o8 ev427.1.f_Dst.f_B 2, o8 ev427.1.f_Dst.f_B 3, o8 ev427.1.f_Dst.f_B 4, o8 ev427.1.f_Dst.f_B 5, o8 ev427.1.f_Dst.f_B 6, o8 ev427.1.f_Dst.f_B 7, o8 ev427.1.f_Dst.f_B 8, o8 ev427.1.f_Dst.f_B 9, o8 ev427.1.f_Dst.f_B 10, o8 ev427.1.f_Dst.f_B 11, o8 ev427.1.f_Dst.f_B 12, o8 ev427.1.f_Dst.f_B 13, o8 ev427.1.f_Dst.f_B 14, o8 ev427.1.f_Dst.f_B 15, v8 ev427.1.f_Proto, v16 ev427.1.f_SrcPort, v16 ev427.1.f_DstPort]) (cs' := [vB ev427.1.f_Src.f_Six, o8 ev427.1.f_Src.f_B 0, o8 ev427.1.f_Src.f_B 1, o8 ev427.1.f_Src.f_B 2, o8 ev427.1.f_Src.f_B 3, o8 ev427.1.f_Src.f_B 4, o8 ev427.1.f_Src.f_B 5, o8 ev427.1.f_Src.f_B 6, o8 ev427.1.f_Src.f_B 7, o8 ev427.1.f_Src.f_B 8, o8 ev427.1.f_Src.f_B 9, o8 ev427.1.f_Src.f_B 10, o8 ev427.1.f_Src.f_B 11, o8 ev427.1.f_Src.f_B 12, o8 ev427.1.f_Src.f_B 13, o8 ev427.1.f_Src.f_B 14, o8 ev427.1.f_Src.f_B 15, vB ev427.1.f_Dst.f_Six, o8 ev427.1.f_Dst.f_B 0, o8 ev427.1.f_Dst.f_B 1, o8 ev427.1.f_Dst.f_B 2, o8 ev427.1.f_Dst.f_B 3, o8 ev427.1.f_Dst.f_B 4, o8 ev427.1.f_Dst.f_B 5, o8 ev427.1.f_Dst.f_B 6, o8 ev427.1.f_Dst.f_B 7, o8 ev427.1.f_Dst.f_B 8, o8 ev427.1.f_Dst.f_B 9, o8 ev427.1.f_Dst.f_B 10, o8 ev427.1.f_Dst.f_B 11, o8 ev427.1.f_Dst.f_B 12, o8 ev427.1.f_Dst.f_B 13, o8 ev427.1.f_Dst.f_B 14, o8 ev427.1.f_Dst.f_B 15, v8 ev427.1.f_Proto, v16 ev427.1.f_SrcPort, v16 ev427.1.f_DstPort]) hM rfl sz34 rfl (adds_eq [] rfl) rfl rfl (One.all rfl) rfl rfl) fun w439 hM1 => ?_
 clear hM
 have hM := hM1
 clear hM1
 refine RL.effs (E.stB (j := 9) (off := 0) (vs := [v64 ev427.2.1.f_Packets, v64 ev427.2.1.f_Bytes]) (cs' := [v64 ev427.2.1.f_Packets, v64 ev427.2.1.f_Bytes]) hM rfl sz37 rfl (adds_eq [] rfl) rfl rfl (One.all rfl) rfl rfl) fun w440 hM1 => ?_
 clear hM
 have hM := hM1
 clear hM1
 refine nt hQ432 ?_
 clear hQ432 Q432
 replace hM := hM.drewN 1
 refine KC.draw [] [6] [6] [0, 1, 2] (.ofList [0, 1, 2, 3, 4, 5, 6]) moP (by kernel_rfl) ?_
 refine RD.p rfl rfl rfl rfl (fun w' => O.move rfl) ?_
 refine RD.p rfl rfl rfl rfl (fun w' => O.nilp rfl) ?_
 refine RD.p rfl rfl rfl rfl (fun w' => O.fldA fl65_2 (by decide) rfl) ?_
 refine RD.q rfl rfl rfl rfl (fun w' hf => O.load sc62 rfl (Cs.adds [2] ((hM.bx (i := 6) rfl).fut hf) rfl)) ?_
 refine RD.q rfl rfl rfl rfl (fun w' hf => O.loadN (cs := [vB ev427.1.f_Src.f_Six, o8 ev427.1.f_Src.f_B 0, o8 ev427.1.f_Src.f_B 1, o8 ev427.1.f_Src.f_B 2, o8 ev427.1.f_Src.f_B 3, o8 ev427.1.f_Src.f_B 4, o8 ev427.1.f_Src.f_B 5, o8 ev427.1.f_Src.f_B 6, o8 ev427.1.f_Src.f_B 7, o8 ev427.1.f_Src.f_B 8, o8 ev427.1.f_Src.f_B 9, o8 ev427.1.f_Src.f_B 10, o8 ev427.1.f_Src.f_B 11, o8 ev427.1.f_Src.f_B 12, o8 ev427.1.f_Src.f_B 13, o8 ev427.1.f_Src.f_B 14, o8 ev427.1.f_Src.f_B 15, vB ev427.1.f_Dst.f_Six, o8 ev427.1.f_Dst.f_B 0, o8 ev427.1.f_Dst.f_B 1, o8 ev427.1.f_Dst.f_B 2, o8 ev427.1.f_Dst.f_B 3, o8 ev427.1.f_Dst.f_B 4, o8 ev427.1.f_Dst.f_B 5, o8 ev427.1.f_Dst.f_B 6, o8 ev427.1.f_Dst.f_B 7, o8 ev427.1.f_Dst.f_B 8, o8 ev427.1.f_Dst.f_B 9, o8 ev427.1.f_Dst.f_B 10, o8 ev427.1.f_Dst.f_B 11, o8 ev427.1.f_Dst.f_B 12, o8 ev427.1.f_Dst.f_B 13, o8 ev427.1.f_Dst.f_B 14, o8 ev427.1.f_Dst.f_B 15, v8 ev427.1.f_Proto, v16 ev427.1.f_SrcPort, v16 ev427.1.f_DstPort]) ag34 rfl (Cs.addsN [] ((hM.bx (i := 8) rfl).fut hf) rfl)) ?_
 refine RD.q rfl rfl rfl rfl (fun w' hf => O.loadN (cs := [v64 ev427.2.1.f_Packets, v64 ev427.2.1.f_Bytes]) ag37 rfl (Cs.addsN [] ((hM.bx (i := 9) rfl).fut hf) rfl)) ?_
 refine obindE hF fun y441 hx442 hF => ?_
 refine RD.mcall rfl rfl trivial Try.func37 bd37 rfl rfl (c_model_totals_add _ _ p412 (hM.lent [2] rfl (by decide)) ev427.1 ev427.2.1 _ hx442) fun v w443 hv => ?_
 obtain ⟨rfl, hN444⟩ := hv
 refine ⟨fun h => (by cases h), ?_⟩
 replace hM := hM.callL [2] [0, 1, 3, 4, 5, 6, 7, 8, 9] rfl rfl (by decide) rfl hN444
 refine RD.nil ?_
 refine KQ.blk_n ?_
 refine KQ.then_k ?_
 replace hM := hM.pick [0, 1, 9, 2, 3, 4, 5, 6] rfl (by decide)
 exact fun a ha => ⟨_, leftN_lt (hfit357).nd he428 hn429 hms421, (s417 ++ [ev427.2.2]), y441, ha.less (less_cons rfl (less_cons rfl less_nil)), hM, Nat.le_refl _, leftN_sum (hfit357).nd he428 hn429 hsl422, ⟨mergeS_step mt62 hfit357 hrs425 he428 hn429 hinv423.1 (add_inv (by assumption)), trivial⟩⟩
end Go.Proofs.Ytidbgejnkpoeeaa
