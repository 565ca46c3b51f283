/- Printed by a program of this claim: each call returns what the plain function of its name gives. -/
import Derived.Test.YtidbgejnkpoeeaaW1
import Derived.Test.YtidbgejnkpoeeaaW5
import Derived.Test.YtidbgejnkpoeeaaW8
set_option linter.unusedVariables false
namespace Go.Proofs.Ytidbgejnkpoeeaa
open Go Go.Ox Go.RowKit
set_option maxRecDepth 100000 in
set_option maxHeartbeats 40000000 in
theorem c_model_Model_truncate (w : World) (g2 : Nat) (tg19 : TypeId) (m1 : T_model_Model) (g4 : Nat) (g6 : Nat) (g8 : Nat) (A10 : Option Addr) (c11 : Nat) (css13 : List (List Value)) (Z14 : List Nat) (A16 : Option Addr) (c17 : Nat) (hL25 : Lent w [.box g2 tg19 [.map (some g4), .map (some g6), .map (some g8), .slice A10 (m1.f_entries).length c11, .slice A16 (m1.f_line).length c17, v64 m1.f_first, v32 m1.f_boot], .res [g4] (MR62 g4 m1.f_forwarded), .res [g6] (MR62 g6 m1.f_cached), .res [g8] (MR62 g8 m1.f_lost), .row A10 c11 47 6 (m1.f_entries).length (css13).flatten, .res Z14 (Els RO_model_Entry 6 m1.f_entries css13 Z14), .row A16 c17 3 1 (m1.f_line).length ((m1.f_line).flatMap (eI .i64))]) (nv20 : T_model_Note) (A21 : Option Addr) (c22 : Nat) (hr23 : Rd w A21 c22 44 nv20.f_Records.length (nv20.f_Records.flatMap e_flow_Record)) (ho24 : Off ([some g2] ++ ([some g4] ++ ([some g6] ++ ([some g8] ++ ([rblk A10 c11] ++ (Z14.map some ++ ([rblk A16 c17] ++ ([])))))))) nv20.f_Records.length A21) (r : Bool × T_model_Model) (hF : F_model_Model_truncate m1 nv20 = some r) :
  CallsR Try.prog 24 [.pointer (some ⟨g2, 0, none⟩), .agg #[vI nv20.f_Kind, vB nv20.f_Key.f_Src.f_Six, o8 nv20.f_Key.f_Src.f_B 0, o8 nv20.f_Key.f_Src.f_B 1, o8 nv20.f_Key.f_Src.f_B 2, o8 nv20.f_Key.f_Src.f_B 3, o8 nv20.f_Key.f_Src.f_B 4, o8 nv20.f_Key.f_Src.f_B 5, o8 nv20.f_Key.f_Src.f_B 6, o8 nv20.f_Key.f_Src.f_B 7, o8 nv20.f_Key.f_Src.f_B 8, o8 nv20.f_Key.f_Src.f_B 9, o8 nv20.f_Key.f_Src.f_B 10, o8 nv20.f_Key.f_Src.f_B 11, o8 nv20.f_Key.f_Src.f_B 12, o8 nv20.f_Key.f_Src.f_B 13, o8 nv20.f_Key.f_Src.f_B 14, o8 nv20.f_Key.f_Src.f_B 15, vB nv20.f_Key.f_Dst.f_Six, o8 nv20.f_Key.f_Dst.f_B 0, o8 nv20.f_Key.f_Dst.f_B 1, o8 nv20.f_Key.f_Dst.f_B 2, o8 nv20.f_Key.f_Dst.f_B 3, o8 nv20.f_Key.f_Dst.f_B 4, o8 nv20.f_Key.f_Dst.f_B 5, o8 nv20.f_Key.f_Dst.f_B 6, o8 nv20.f_Key.f_Dst.f_B 7, o8 nv20.f_Key.f_Dst.f_B 8, o8 nv20.f_Key.f_Dst.f_B 9, o8 nv20.f_Key.f_Dst.f_B 10, o8 nv20.f_Key.f_Dst.f_B 11, o8 nv20.f_Key.f_Dst.f_B 12, o8 nv20.f_Key.f_Dst.f_B 13, o8 nv20.f_Key.f_Dst.f_B 14, o8 nv20.f_Key.f_Dst.f_B 15, v8 nv20.f_Key.f_Proto, v16 nv20.f_Key.f_SrcPort, v16 nv20.f_Key.f_DstPort, v64 nv20.f_Total.f_Packets, v64 nv20.f_Total.f_Bytes, .slice A21 (nv20.f_Records).length c22, v32 nv20.f_Epoch, v64 nv20.f_N, v64 nv20.f_First, v64 nv20.f_Next]] w (fun v w' => ∃ (gr0 : Nat) (gr1 : Nat) (gr2 : Nat) (Ar3 : Option Addr) (cr3 : Nat) (cssr4 : List (List Value)) (Zr4 : List Nat) (Ar4 : Option Addr) (cr4 : Nat), v = vB r.1 ∧ Mem w ([some g2] ++ ([some g4] ++ ([some g6] ++ ([some g8] ++ ([rblk A10 c11] ++ (Z14.map some ++ ([rblk A16 c17] ++ ([])))))))) w' [.box g2 tg19 [.map (some gr0), .map (some gr1), .map (some gr2), .slice Ar3 (r.2.f_entries).length cr3, .slice Ar4 (r.2.f_line).length cr4, v64 r.2.f_first, v32 r.2.f_boot], .res [gr0] (MR62 gr0 r.2.f_forwarded), .res [gr1] (MR62 gr1 r.2.f_cached), .res [gr2] (MR62 gr2 r.2.f_lost), .row Ar3 cr3 47 6 r.2.f_entries.length cssr4.flatten, .res Zr4 (Els RO_model_Entry 6 r.2.f_entries cssr4 Zr4), .row Ar4 cr4 3 1 r.2.f_line.length (r.2.f_line.flatMap (eI .i64))]) := by
 refine calls_KC Try.func24 rfl Try.ntmps24 rfl ?_
 have hM : Mem w ([some g2] ++ ([some g4] ++ ([some g6] ++ ([some g8] ++ ([rblk A10 c11] ++ (Z14.map some ++ ([rblk A16 c17] ++ ([])))))))) w [.box g2 tg19 [.map (some g4), .map (some g6), .map (some g8), .slice A10 (m1.f_entries).length c11, .slice A16 (m1.f_line).length c17, v64 m1.f_first, v32 m1.f_boot], .res [g4] (MR62 g4 m1.f_forwarded), .res [g6] (MR62 g6 m1.f_cached), .res [g8] (MR62 g8 m1.f_lost), .row A10 c11 47 6 (m1.f_entries).length (css13).flatten, .res Z14 (Els RO_model_Entry 6 m1.f_entries css13 Z14), .row A16 c17 3 1 (m1.f_line).length ((m1.f_line).flatMap (eI .i64))] := Mem.lendN hL25
 unfold F_model_Model_truncate at hF
 refine sr fun Q26 hQ26 => ?_
 refine RL.eff (E.box (vs := [vI nv20.f_Kind, vB nv20.f_Key.f_Src.f_Six, o8 nv20.f_Key.f_Src.f_B 0, o8 nv20.f_Key.f_Src.f_B 1, o8 nv20.f_Key.f_Src.f_B 2, o8 nv20.f_Key.f_Src.f_B 3, o8 nv20.f_Key.f_Src.f_B 4, o8 nv20.f_Key.f_Src.f_B 5, o8 nv20.f_Key.f_Src.f_B 6, o8 nv20.f_Key.f_Src.f_B 7, o8 nv20.f_Key.f_Src.f_B 8, o8 nv20.f_Key.f_Src.f_B 9, o8 nv20.f_Key.f_Src.f_B 10, o8 nv20.f_Key.f_Src.f_B 11, o8 nv20.f_Key.f_Src.f_B 12, o8 nv20.f_Key.f_Src.f_B 13, o8 nv20.f_Key.f_Src.f_B 14, o8 nv20.f_Key.f_Src.f_B 15, vB nv20.f_Key.f_Dst.f_Six, o8 nv20.f_Key.f_Dst.f_B 0, o8 nv20.f_Key.f_Dst.f_B 1, o8 nv20.f_Key.f_Dst.f_B 2, o8 nv20.f_Key.f_Dst.f_B 3, o8 nv20.f_Key.f_Dst.f_B 4, o8 nv20.f_Key.f_Dst.f_B 5, o8 nv20.f_Key.f_Dst.f_B 6, o8 nv20.f_Key.f_Dst.f_B 7, o8 nv20.f_Key.f_Dst.f_B 8, o8 nv20.f_Key.f_Dst.f_B 9, o8 nv20.f_Key.f_Dst.f_B 10, o8 nv20.f_Key.f_Dst.f_B 11, o8 nv20.f_Key.f_Dst.f_B 12, o8 nv20.f_Key.f_Dst.f_B 13, o8 nv20.f_Key.f_Dst.f_B 14, o8 nv20.f_Key.f_Dst.f_B 15, v8 nv20.f_Key.f_Proto, v16 nv20.f_Key.f_SrcPort, v16 nv20.f_Key.f_DstPort, v64 nv20.f_Total.f_Packets, v64 nv20.f_Total.f_Bytes, .slice A21 (nv20.f_Records).length c22, v32 nv20.f_Epoch, v64 nv20.f_N, v64 nv20.f_First, v64 nv20.f_Next]) hM rfl rfl) rfl fun v w28 hv => ?_
 clear hM
 obtain ⟨g27, rfl, hM, hf⟩ := hv
 refine va rfl rfl ?_
 refine nt hQ26 ?_
 clear hQ26 Q26
 refine KC.seqH fun Q30 hQ30 => ?_
 refine KC.cut (fun a w48 => ∃ (t47 : Bool), Kn 53 [(0, .pointer (some ⟨g2, 0, none⟩)), (3, .pointer (some ⟨g27, 0, none⟩)), (27, vB t47)] a ∧ Mem w ([some g2] ++ ([some g4] ++ ([some g6] ++ ([some g8] ++ ([rblk A10 c11] ++ (Z14.map some ++ ([rblk A16 c17] ++ ([])))))))) w48 [.res [g4] (MR62 g4 m1.f_forwarded), .res [g6] (MR62 g6 m1.f_cached), .res [g8] (MR62 g8 m1.f_lost), .row A10 c11 47 6 (m1.f_entries).length (css13).flatten, .res Z14 (Els RO_model_Entry 6 m1.f_entries css13 Z14), .row A16 c17 3 1 (m1.f_line).length ((m1.f_line).flatMap (eI .i64)), .box g2 tg19 [.map (some g4), .map (some g6), .map (some g8), .slice A10 (m1.f_entries).length c11, .slice A16 (m1.f_line).length c17, v64 m1.f_first, v32 m1.f_boot], .box g27 41 [vI nv20.f_Kind, vB nv20.f_Key.f_Src.f_Six, o8 nv20.f_Key.f_Src.f_B 0, o8 nv20.f_Key.f_Src.f_B 1, o8 nv20.f_Key.f_Src.f_B 2, o8 nv20.f_Key.f_Src.f_B 3, o8 nv20.f_Key.f_Src.f_B 4, o8 nv20.f_Key.f_Src.f_B 5, o8 nv20.f_Key.f_Src.f_B 6, o8 nv20.f_Key.f_Src.f_B 7, o8 nv20.f_Key.f_Src.f_B 8, o8 nv20.f_Key.f_Src.f_B 9, o8 nv20.f_Key.f_Src.f_B 10, o8 nv20.f_Key.f_Src.f_B 11, o8 nv20.f_Key.f_Src.f_B 12, o8 nv20.f_Key.f_Src.f_B 13, o8 nv20.f_Key.f_Src.f_B 14, o8 nv20.f_Key.f_Src.f_B 15, vB nv20.f_Key.f_Dst.f_Six, o8 nv20.f_Key.f_Dst.f_B 0, o8 nv20.f_Key.f_Dst.f_B 1, o8 nv20.f_Key.f_Dst.f_B 2, o8 nv20.f_Key.f_Dst.f_B 3, o8 nv20.f_Key.f_Dst.f_B 4, o8 nv20.f_Key.f_Dst.f_B 5, o8 nv20.f_Key.f_Dst.f_B 6, o8 nv20.f_Key.f_Dst.f_B 7, o8 nv20.f_Key.f_Dst.f_B 8, o8 nv20.f_Key.f_Dst.f_B 9, o8 nv20.f_Key.f_Dst.f_B 10, o8 nv20.f_Key.f_Dst.f_B 11, o8 nv20.f_Key.f_Dst.f_B 12, o8 nv20.f_Key.f_Dst.f_B 13, o8 nv20.f_Key.f_Dst.f_B 14, o8 nv20.f_Key.f_Dst.f_B 15, v8 nv20.f_Key.f_Proto, v16 nv20.f_Key.f_SrcPort, v16 nv20.f_Key.f_DstPort, v64 nv20.f_Total.f_Packets, v64 nv20.f_Total.f_Bytes, .slice A21 (nv20.f_Records).length c22, v32 nv20.f_Epoch, v64 nv20.f_N, v64 nv20.f_First, v64 nv20.f_Next]] ∧ F_model_Model_truncate_j1 m1 nv20 t47 = some r) ?_ ?_
 ·replace hM := hM.drewN 1
  refine KC.draw [] [] [11, 18] [0, 2, 3, 4, 6, 7, 8, 10, 12, 13, 14, 15, 16, 19, 20] (.ofList [0, 1, 2, 3, 4, 5, 6, 7, 8, 9, 10, 11, 12, 13, 14, 15, 16, 17, 18, 19, 20]) moP (by kernel_rfl) ?_
  refine RD.p rfl rfl rfl rfl (fun w' => O.fldA fl41_6 (by decide) rfl) ?_
  refine RD.q rfl rfl rfl rfl (fun w' hf => O.load sc35 rfl (Cs.adds [43] ((hM.bx (i := 7) rfl).fut hf) rfl)) ?_
  refine RD.p rfl rfl rfl rfl (fun w' => O.move rfl) ?_
  refine RD.p rfl rfl rfl rfl (fun w' => O.nilp rfl) ?_
  refine RD.p rfl rfl rfl rfl (fun w' => O.fldA fl65_5 (by decide) rfl) ?_
  refine RD.q rfl rfl rfl rfl (fun w' hf => O.load sc35 rfl (Cs.adds [5] ((hM.bx (i := 0) rfl).fut hf) rfl)) ?_
  refine RD.p rfl rfl rfl rfl (fun w' => O.lss rfl rfl) ?_
  refine RD.p rfl rfl rfl rfl (fun w' => O.move rfl) ?_
  refine RD.bcase (t := 14) rfl (fun hc => ?_) (fun hc => ?_)
  ·rw [if_pos hc] at hF
   refine RD.brun1 [8, 9, 10, 11, 12, 13, 14, 15, 16, 17, 18, 19, 20] 27 true (by kernel_rfl) ?_
   refine RD.nil ?_
   refine KQ.then_k ?_
   replace hM := hM.pick [1, 2, 3, 4, 5, 6, 0, 7] rfl (by decide)
   exact fun a ha => ⟨true, ha.less (less_cons rfl (less_cons rfl (less_cons rfl less_nil))), hM, hF⟩
  rw [if_neg (ne_true hc)] at hF
  refine RD.gp rfl rfl rfl rfl rfl rfl (fun w' => O.fldA fl41_6 (by decide) rfl) ?_
  refine RD.gq rfl rfl rfl rfl rfl rfl (fun w' hf => O.load sc35 rfl (Cs.adds [43] ((hM.bx (i := 7) rfl).fut hf) rfl)) ?_
  refine RD.gp rfl rfl rfl rfl rfl rfl (fun w' => O.move rfl) ?_
  refine obindE hF fun y31 hx32 hF => ?_
  refine RD.mcall rfl rfl ⟨rfl, rfl⟩ Try.func33 bd33 rfl rfl (c_model_Model_next _ m1 _ (hM.mapR (i := 1) rfl) _ (hM.mapR (i := 2) rfl) _ (hM.mapR (i := 3) rfl) _ _ (hM.rdD (i := 4) (j := 5) uo_model_Entry rfl rfl) _ _ (hM.rd (i := 6) rfl) _ (hM.bx (i := 0) rfl) _ hx32) fun v w33 hv => ?_
  obtain ⟨rfl, hN34⟩ := hv
  refine ⟨fun _ => hN34.fut, ?_⟩
  replace hM := hM.call0 hN34
  refine RD.gp rfl rfl rfl rfl rfl rfl (fun w' => O.gtr rfl rfl) ?_
  refine RD.p rfl rfl rfl rfl (fun w' => O.pickf rfl rfl) ?_
  refine RD.p rfl rfl rfl rfl (fun w' => O.move rfl) ?_
  refine RD.bcase (t := 21) rfl (fun hc => ?_) (fun hc => ?_)
  ·rw [if_pos hc] at hF
   refine RD.brun1 [15, 16, 17, 18, 19, 20] 27 true (by kernel_rfl) ?_
   refine RD.nil ?_
   refine KQ.then_k ?_
   replace hM := hM.pick [1, 2, 3, 4, 5, 6, 0, 7] rfl (by decide)
   exact fun a ha => ⟨true, ha.less (less_cons rfl (less_cons rfl (less_cons rfl less_nil))), hM, hF⟩
  rw [if_neg (ne_true hc)] at hF
  refine RD.gp rfl rfl rfl rfl rfl rfl (fun w' => O.move rfl) ?_
  refine RD.gp rfl rfl rfl rfl rfl rfl (fun w' => O.fldA fl41_6 (by decide) rfl) ?_
  refine RD.gq rfl rfl rfl rfl rfl rfl (fun w' hf => O.load sc35 rfl (Cs.adds [43] ((hM.bx (i := 7) rfl).fut hf) rfl)) ?_
  refine obindE hF fun y35 hx36 hF => ?_
  refine RD.mcall rfl rfl ⟨rfl, rfl⟩ Try.func39 bd39 rfl rfl (c_model_Model_all_fmodel_Model_truncate_1 _ m1 _ (hM.mapR (i := 1) rfl) _ (hM.mapR (i := 2) rfl) _ (hM.mapR (i := 3) rfl) _ _ (hM.rdD (i := 4) (j := 5) uo_model_Entry rfl rfl) _ _ (hM.rd (i := 6) rfl) _ (hM.bx (i := 0) rfl) 0 nv20.f_First _ hx36) fun v w37 hv => ?_
  obtain ⟨rfl, hN38⟩ := hv
  refine ⟨fun _ => hN38.fut, ?_⟩
  replace hM := hM.call0 hN38
  refine RD.gp rfl rfl rfl rfl rfl rfl (fun w' => O.not rfl) ?_
  refine RD.p rfl rfl rfl rfl (fun w' => O.pickf rfl rfl) ?_
  refine RD.nil ?_
  refine KQ.then_k ?_
  replace hM := hM.pick [1, 2, 3, 4, 5, 6, 0, 7] rfl (by decide)
  exact fun a ha => ⟨(!y35), ha.less (less_cons rfl (less_cons rfl (less_cons rfl less_nil))), hM, hF⟩
 rintro a w48 ⟨t47, ha, hM, hF⟩
 refine KC.app ha ?_
 clear ha
 unfold F_model_Model_truncate_j1 at hF
 refine KC.cond rfl (fun hc => ?_) (fun hc => ?_)
 ·rw [if_pos hc] at hF
  refine sr fun Q49 hQ49 => ?_
  refine va rfl rfl ?_
  refine nt hQ49 ?_
  clear hQ49 Q49
  refine KC.ret ?_
  refine KQ.thr hQ30 ?_
  clear hQ30 Q30
  have hE := Option.some.inj hF
  clear hF
  subst hE
  replace hM := hM.pick [6, 0, 1, 2, 3, 4, 5] rfl (by decide)
  refine KQ.rets Try.results24 (RVs.cons (RV.tm rfl) RVs.nil) ?_
  exact ⟨_, rfl, g4, g6, g8, A10, c11, css13, Z14, A16, c17, rfl, hM⟩
 rw [if_neg (ne_true hc)] at hF
 refine KC.skip ?_
 refine KQ.thn hQ30 ?_
 clear hQ30 Q30
 refine sr fun Q50 hQ50 => ?_
 refine vm rfl rfl ?_
 refine RL.val (O.fldA fl41_6 (by decide) rfl) rfl ?_
 refine RL.val (O.load sc35 rfl (Cs.adds [43] ((hM.bx (i := 7) rfl)) rfl)) rfl ?_
 refine RL.val (O.nilp rfl) rfl ?_
 refine RL.val (O.fldA fl65_5 (by decide) rfl) rfl ?_
 refine RL.effs (E.stB (j := 6) (off := 5) (vs := [v64 nv20.f_First]) (cs' := [.map (some g4), .map (some g6), .map (some g8), .slice A10 (m1.f_entries).length c11, .slice A16 (m1.f_line).length c17, v64 nv20.f_First, v32 m1.f_boot]) hM rfl sz35 rfl (adds_eq [5] rfl) rfl rfl (One.all rfl) rfl rfl) fun w51 hM1 => ?_
 clear hM
 have hM := hM1
 clear hM1
 refine nt hQ50 ?_
 clear hQ50 Q50
 refine KC.seqH fun Q52 hQ52 => ?_
 refine KC.seqH fun Q53 hQ53 => ?_
 replace hM := hM.drewN 1
 refine KC.draw [] [] [] [0, 1, 2, 4, 6, 7, 8] (.ofList [0, 1, 2, 3, 4, 5, 6, 7, 8]) moP (by kernel_rfl) ?_
 refine RD.p rfl rfl rfl rfl (fun w' => O.move rfl) ?_
 refine RD.p rfl rfl rfl rfl (fun w' => O.nilp rfl) ?_
 refine RD.p rfl rfl rfl rfl (fun w' => O.fldA fl65_4 (by decide) rfl) ?_
 refine RD.q rfl rfl rfl rfl (fun w' hf => O.load sc63 rfl (Cs.adds [4] ((hM.bx (i := 6) rfl).fut hf) rfl)) ?_
 refine RD.p rfl rfl rfl rfl (fun w' => O.fldA fl41_6 (by decide) rfl) ?_
 refine RD.q rfl rfl rfl rfl (fun w' hf => O.load sc35 rfl (Cs.adds [43] ((hM.bx (i := 7) rfl).fut hf) rfl)) ?_
 refine obindE hF fun cut54 hy55 hF => ?_
 refine cutNE A16 c17 (Int.toNat 0) 1 fun A56 c57 eA59 ec60 => ?_
 have hr58 := Rd.cutT (enc := (eI .i64)) (s := 1) (fun _ => rfl) (hM.rd (i := 5) rfl) hy55 (m := c17) (by have := (hM.rd (i := 5) rfl).cap; have := (gcut_some hy55).2.2.1; omega) (Nat.le_refl _)
 rw [← eA59, ← ec60] at hr58
 refine RD.p (v := .slice A56 (cut54).length c57) rfl rfl rfl rfl (fun w' => (by rw [eA59, ec60]; exact O.cuthT sl63 (hM.rd (i := 5) rfl) hy55 rfl rfl)) ?_
 refine RD.p rfl rfl rfl rfl (fun w' => O.len sl63 rfl) ?_
 refine RD.p rfl rfl rfl rfl (fun w' => O.move rfl) ?_
 refine RD.nil ?_
 refine KQ.thn hQ53 ?_
 clear hQ53 Q53
 replace hM := hM.pick [0, 1, 2, 3, 4, 5, 6] rfl (by decide)
 refine KC.block ?_
 refine KC.loop (fun k133 a w131 => ∃ (A122 : Option Addr) (c123 : Nat) (css124 : List (List Value)) (Z125 : List Nat) (p127 : List T_model_Entry) (t130 : Int), Kn 53 [(0, .pointer (some ⟨g2, 0, none⟩)), (39, .slice A56 (cut54).length c57), (40, vI (cut54.length : Int)), (41, vI t130)] a ∧ Mem w ([some g2] ++ ([some g4] ++ ([some g6] ++ ([some g8] ++ ([rblk A10 c11] ++ (Z14.map some ++ ([rblk A16 c17] ++ ([])))))))) w131 [.res [g4] (MR62 g4 m1.f_forwarded), .res [g6] (MR62 g6 m1.f_cached), .res [g8] (MR62 g8 m1.f_lost), .row A122 c123 47 6 (p127).length (css124).flatten, .res Z125 (Els RO_model_Entry 6 p127 css124 Z125), .row A16 c17 3 1 (m1.f_line).length ((m1.f_line).flatMap (eI .i64)), .box g2 tg19 [.map (some g4), .map (some g6), .map (some g8), .slice A122 (p127).length c123, .slice A16 (m1.f_line).length c17, v64 nv20.f_First, v32 m1.f_boot]] ∧ (∀ w2, Rd w2 A16 c17 1 m1.f_line.length (m1.f_line.flatMap (eI .i64)) → Rd w2 A56 c57 1 cut54.length (cut54.flatMap (eI .i64))) ∧ F_model_Model_truncate_L1 m1 nv20 cut54 k133 p127 t130 = some r) ?_ ?_
 ·exact fun a ha => ⟨fuel0, A10, c11, css13, Z14, m1.f_entries, 0, ha.less (less_cons rfl (less_cons rfl (less_cons rfl (less_cons rfl less_nil)))), hM, (fun w2 h0 => by (have g0 := Rd.cutT (enc := (eI .i64)) (s := 1) (fun _ => rfl) h0 hy55 (m := c17) (by have := h0.cap; have := (gcut_some hy55).2.2.1; omega) (Nat.le_refl _); rw [← eA59, ← ec60] at g0; exact g0)), hF⟩
 rintro k133 a w131 ⟨A122, c123, css124, Z125, p127, t130, ha, hM, hr129, hF⟩
 refine KC.app ha ?_
 clear ha
 cases k133 with
 | zero => exact (none_some hF).elim
 | succ k133 =>
 have hF : F_model_Model_truncate_l1 (F_model_Model_truncate_L1 m1 nv20 cut54 k133) m1 nv20 cut54 p127 t130 = some r := hF
 unfold F_model_Model_truncate_l1 at hF
 have hr129r := hr129 _ (hM.rd (i := 5) rfl)
 refine sr fun Q134 hQ134 => ?_
 refine RL.val (O.lss rfl rfl) rfl ?_
 refine nt hQ134 ?_
 clear hQ134 Q134
 refine KC.seqH fun Q135 hQ135 => ?_
 refine KC.cond rfl (fun hc => ?_) (fun hc => ?_)
 ·rw [if_pos hc] at hF
  refine KC.skip ?_
  refine KQ.thn hQ135 ?_
  clear hQ135 Q135
  refine KC.seqH fun Q136 hQ136 => ?_
  refine KC.block ?_
  refine sr fun Q137 hQ137 => ?_
  refine obindE hF fun xv140 hx139 hF => ?_
  have hA138 := Rd.atN (f := (eI .i64)) (s := 1) (fun _ => rfl) (by decide) hr129r hx139
  refine RL.val (O.idxA sl63 (hA138) rfl rfl) rfl ?_
  refine RL.val (O.load sc3 rfl (hA138).cells.at0) rfl ?_
  refine va rfl rfl ?_
  refine nt hQ137 ?_
  clear hQ137 Q137
  refine KC.region ?_
  refine vm rfl rfl ?_
  refine RL.val (O.nilp rfl) rfl ?_
  refine RL.val (O.fldA fl65_3 (by decide) rfl) rfl ?_
  refine RL.val (O.load sc42 rfl (Cs.adds [3] ((hM.bx (i := 6) rfl)) rfl)) rfl ?_
  refine vm rfl rfl ?_
  refine obindE hF fun xv143 hx145 hF => ?_
  obtain ⟨cs148, hA144, hC147, hR146⟩ := hM.atD (i := 3) (j := 4) uo_model_Entry rfl rfl hx145
  obtain ⟨A149, c150, rfl, hr151, ho152⟩ := hR146
  refine RL.val (O.idxA sl42 (hA144) rfl rfl) rfl ?_
  refine RL.val (O.fldA fl47_3 (by decide) rfl) rfl ?_
  refine RL.effs (E.stD (i := 3) (j := 4) (off := 3) (vs := [vB false]) (cs' := [v32 xv143.f_Epoch, v64 xv143.f_N, .slice A149 (xv143.f_Records).length c150, vB false, vB xv143.f_Synced, vB xv143.f_Credited]) (u' := (T_model_Entry.mk xv143.f_Epoch xv143.f_N xv143.f_Records false xv143.f_Synced xv143.f_Credited)) hM rfl rfl rfl hC147 hx145 sz4 rfl (addsR_eq [3] rfl) rfl rfl (One.all rfl) rfl rfl (fun o h => by obtain ⟨A0', c0', h1, h2⟩ := h; cases h1; exact ⟨_, _, rfl, h2⟩)) fun w153 hM1 => ?_
  clear hM
  obtain ⟨hM, hn154⟩ := hM1
  refine RL.reslot (t := 48) rfl hn154 ?_
  replace hM := hM.rebox (i := 6) (cs' := [.map (some g4), .map (some g6), .map (some g8), .slice A122 ((p127.set (xv140 : Int).toNat (T_model_Entry.mk xv143.f_Epoch xv143.f_N xv143.f_Records false xv143.f_Synced xv143.f_Credited))).length c123, .slice A16 (m1.f_line).length c17, v64 nv20.f_First, v32 m1.f_boot]) rfl (by rw [← hn154])
  have hr129r := hr129 _ (hM.rd (i := 5) rfl)
  refine RL.nil ?_
  refine KQ.blk_n ?_
  refine KQ.thn hQ136 ?_
  clear hQ136 Q136
  refine KC.region ?_
  refine RL.val (O.add rfl rfl) rfl ?_
  refine vm rfl rfl ?_
  refine RL.nil ?_
  refine KQ.then_k ?_
  exact fun a ha => ⟨k133, Nat.lt_succ_self k133, A122, c123, (css124.set (xv140 : Int).toNat [v32 xv143.f_Epoch, v64 xv143.f_N, .slice A149 (xv143.f_Records).length c150, vB false, vB xv143.f_Synced, vB xv143.f_Credited]), Z125, (p127.set (xv140 : Int).toNat (T_model_Entry.mk xv143.f_Epoch xv143.f_N xv143.f_Records false xv143.f_Synced xv143.f_Credited)), (IntKind.i64.wrap (t130 + 1)), ha.less (less_cons rfl (less_cons rfl (less_cons rfl (less_cons rfl less_nil)))), hM, (fun w2 h0 => by (have g0 := hr129 _ h0; exact g0)), hF⟩
 rw [if_neg (ne_true hc)] at hF
 refine KC.exit ?_
 refine KQ.thx hQ135 ?_
 clear hQ135 Q135
 refine KQ.then_x ?_
 refine KQ.blk_x ?_
 refine KQ.thn hQ52 ?_
 clear hQ52 Q52
 refine sr fun Q155 hQ155 => ?_
 refine va rfl rfl ?_
 refine nt hQ155 ?_
 clear hQ155 Q155
 refine KC.ret ?_
 have hE := Option.some.inj hF
 clear hF
 subst hE
 replace hM := hM.pick [6, 0, 1, 2, 3, 4, 5] rfl (by decide)
 refine KQ.rets Try.results24 (RVs.cons (RV.tm rfl) RVs.nil) ?_
 exact ⟨_, rfl, g4, g6, g8, A122, c123, css124, Z125, A16, c17, rfl, hM⟩
end Go.Proofs.Ytidbgejnkpoeeaa
