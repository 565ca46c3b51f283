/- Printed by a program of this claim: each call returns what the plain function of its name gives. -/
import Derived.Test.YtidbgejnkpoeeaaW1
set_option linter.unusedVariables false
namespace Go.Proofs.Ytidbgejnkpoeeaa
open Go Go.Ox Go.RowKit
set_option maxRecDepth 100000 in
set_option maxHeartbeats 40000000 in
theorem c_model_Model_sync (w : World) (g2 : Nat) (tg19 : TypeId) (m1 : T_model_Model) (g4 : Nat) (g6 : Nat) (g8 : Nat) (A10 : Option Addr) (c11 : Nat) (css13 : List (List Value)) (Z14 : List Nat) (A16 : Option Addr) (c17 : Nat) (hL25 : Lent w [.box g2 tg19 [.map (some g4), .map (some g6), .map (some g8), .slice A10 (m1.f_entries).length c11, .slice A16 (m1.f_line).length c17, v64 m1.f_first, v32 m1.f_boot], .res [g4] (MR62 g4 m1.f_forwarded), .res [g6] (MR62 g6 m1.f_cached), .res [g8] (MR62 g8 m1.f_lost), .row A10 c11 47 6 (m1.f_entries).length (css13).flatten, .res Z14 (Els RO_model_Entry 6 m1.f_entries css13 Z14), .row A16 c17 3 1 (m1.f_line).length ((m1.f_line).flatMap (eI .i64))]) (t20 : T_model_Note) (A21 : Option Addr) (c22 : Nat) (hr23 : Rd w A21 c22 44 t20.f_Records.length (t20.f_Records.flatMap e_flow_Record)) (ho24 : Off ([some g2] ++ ([some g4] ++ ([some g6] ++ ([some g8] ++ ([rblk A10 c11] ++ (Z14.map some ++ ([rblk A16 c17] ++ ([])))))))) t20.f_Records.length A21) (r : Bool × T_model_Model) (hF : F_model_Model_sync m1 t20 = some r) :
  CallsR Try.prog 23 [.pointer (some ⟨g2, 0, none⟩), .agg #[vI t20.f_Kind, vB t20.f_Key.f_Src.f_Six, o8 t20.f_Key.f_Src.f_B 0, o8 t20.f_Key.f_Src.f_B 1, o8 t20.f_Key.f_Src.f_B 2, o8 t20.f_Key.f_Src.f_B 3, o8 t20.f_Key.f_Src.f_B 4, o8 t20.f_Key.f_Src.f_B 5, o8 t20.f_Key.f_Src.f_B 6, o8 t20.f_Key.f_Src.f_B 7, o8 t20.f_Key.f_Src.f_B 8, o8 t20.f_Key.f_Src.f_B 9, o8 t20.f_Key.f_Src.f_B 10, o8 t20.f_Key.f_Src.f_B 11, o8 t20.f_Key.f_Src.f_B 12, o8 t20.f_Key.f_Src.f_B 13, o8 t20.f_Key.f_Src.f_B 14, o8 t20.f_Key.f_Src.f_B 15, vB t20.f_Key.f_Dst.f_Six, o8 t20.f_Key.f_Dst.f_B 0, o8 t20.f_Key.f_Dst.f_B 1, o8 t20.f_Key.f_Dst.f_B 2, o8 t20.f_Key.f_Dst.f_B 3, o8 t20.f_Key.f_Dst.f_B 4, o8 t20.f_Key.f_Dst.f_B 5, o8 t20.f_Key.f_Dst.f_B 6, o8 t20.f_Key.f_Dst.f_B 7, o8 t20.f_Key.f_Dst.f_B 8, o8 t20.f_Key.f_Dst.f_B 9, o8 t20.f_Key.f_Dst.f_B 10, o8 t20.f_Key.f_Dst.f_B 11, o8 t20.f_Key.f_Dst.f_B 12, o8 t20.f_Key.f_Dst.f_B 13, o8 t20.f_Key.f_Dst.f_B 14, o8 t20.f_Key.f_Dst.f_B 15, v8 t20.f_Key.f_Proto, v16 t20.f_Key.f_SrcPort, v16 t20.f_Key.f_DstPort, v64 t20.f_Total.f_Packets, v64 t20.f_Total.f_Bytes, .slice A21 (t20.f_Records).length c22, v32 t20.f_Epoch, v64 t20.f_N, v64 t20.f_First, v64 t20.f_Next]] w (fun v w' => ∃ (gr0 : Nat) (gr1 : Nat) (gr2 : Nat) (Ar3 : Option Addr) (cr3 : Nat) (cssr4 : List (List Value)) (Zr4 : List Nat) (Ar4 : Option Addr) (cr4 : Nat), v = vB r.1 ∧ Mem w ([some g2] ++ ([some g4] ++ ([some g6] ++ ([some g8] ++ ([rblk A10 c11] ++ (Z14.map some ++ ([rblk A16 c17] ++ ([])))))))) w' [.box g2 tg19 [.map (some gr0), .map (some gr1), .map (some gr2), .slice Ar3 (r.2.f_entries).length cr3, .slice Ar4 (r.2.f_line).length cr4, v64 r.2.f_first, v32 r.2.f_boot], .res [gr0] (MR62 gr0 r.2.f_forwarded), .res [gr1] (MR62 gr1 r.2.f_cached), .res [gr2] (MR62 gr2 r.2.f_lost), .row Ar3 cr3 47 6 r.2.f_entries.length cssr4.flatten, .res Zr4 (Els RO_model_Entry 6 r.2.f_entries cssr4 Zr4), .row Ar4 cr4 3 1 r.2.f_line.length (r.2.f_line.flatMap (eI .i64))]) := by
 refine calls_KC Try.func23 rfl Try.ntmps23 rfl ?_
 have hM : Mem w ([some g2] ++ ([some g4] ++ ([some g6] ++ ([some g8] ++ ([rblk A10 c11] ++ (Z14.map some ++ ([rblk A16 c17] ++ ([])))))))) w [.box g2 tg19 [.map (some g4), .map (some g6), .map (some g8), .slice A10 (m1.f_entries).length c11, .slice A16 (m1.f_line).length c17, v64 m1.f_first, v32 m1.f_boot], .res [g4] (MR62 g4 m1.f_forwarded), .res [g6] (MR62 g6 m1.f_cached), .res [g8] (MR62 g8 m1.f_lost), .row A10 c11 47 6 (m1.f_entries).length (css13).flatten, .res Z14 (Els RO_model_Entry 6 m1.f_entries css13 Z14), .row A16 c17 3 1 (m1.f_line).length ((m1.f_line).flatMap (eI .i64))] := Mem.lendN hL25
 unfold F_model_Model_sync at hF
 refine sr fun Q26 hQ26 => ?_
 refine RL.eff (E.box (vs := [vI t20.f_Kind, vB t20.f_Key.f_Src.f_Six, o8 t20.f_Key.f_Src.f_B 0, o8 t20.f_Key.f_Src.f_B 1, o8 t20.f_Key.f_Src.f_B 2, o8 t20.f_Key.f_Src.f_B 3, o8 t20.f_Key.f_Src.f_B 4, o8 t20.f_Key.f_Src.f_B 5, o8 t20.f_Key.f_Src.f_B 6, o8 t20.f_Key.f_Src.f_B 7, o8 t20.f_Key.f_Src.f_B 8, o8 t20.f_Key.f_Src.f_B 9, o8 t20.f_Key.f_Src.f_B 10, o8 t20.f_Key.f_Src.f_B 11, o8 t20.f_Key.f_Src.f_B 12, o8 t20.f_Key.f_Src.f_B 13, o8 t20.f_Key.f_Src.f_B 14, o8 t20.f_Key.f_Src.f_B 15, vB t20.f_Key.f_Dst.f_Six, o8 t20.f_Key.f_Dst.f_B 0, o8 t20.f_Key.f_Dst.f_B 1, o8 t20.f_Key.f_Dst.f_B 2, o8 t20.f_Key.f_Dst.f_B 3, o8 t20.f_Key.f_Dst.f_B 4, o8 t20.f_Key.f_Dst.f_B 5, o8 t20.f_Key.f_Dst.f_B 6, o8 t20.f_Key.f_Dst.f_B 7, o8 t20.f_Key.f_Dst.f_B 8, o8 t20.f_Key.f_Dst.f_B 9, o8 t20.f_Key.f_Dst.f_B 10, o8 t20.f_Key.f_Dst.f_B 11, o8 t20.f_Key.f_Dst.f_B 12, o8 t20.f_Key.f_Dst.f_B 13, o8 t20.f_Key.f_Dst.f_B 14, o8 t20.f_Key.f_Dst.f_B 15, v8 t20.f_Key.f_Proto, v16 t20.f_Key.f_SrcPort, v16 t20.f_Key.f_DstPort, v64 t20.f_Total.f_Packets, v64 t20.f_Total.f_Bytes, .slice A21 (t20.f_Records).length c22, v32 t20.f_Epoch, v64 t20.f_N, v64 t20.f_First, v64 t20.f_Next]) hM rfl rfl) rfl fun v w28 hv => ?_
 clear hM
 obtain ⟨g27, rfl, hM, hf⟩ := hv
 refine va rfl rfl ?_
 refine nt hQ26 ?_
 clear hQ26 Q26
 replace hM := hM.pick [0, 1, 2, 3, 4, 5, 6] rfl (by decide)
 refine KC.seqH fun Q30 hQ30 => ?_
 refine sr fun Q31 hQ31 => ?_
 refine vm rfl rfl ?_
 refine RL.val (O.nilp rfl) rfl ?_
 refine RL.val (O.fldA fl65_3 (by decide) rfl) rfl ?_
 refine RL.val (O.load sc42 rfl (Cs.adds [3] ((hM.bx (i := 0) rfl)) rfl)) rfl ?_
 refine RL.val (O.len sl42 rfl) rfl ?_
 refine vm rfl rfl ?_
 refine nt hQ31 ?_
 clear hQ31 Q31
 refine KC.block ?_
 refine KC.loop (fun k196 a w194 => ∃ (A186 : Option Addr) (c187 : Nat) (css188 : List (List Value)) (Z189 : List Nat) (p191 : List T_model_Entry) (t193 : Int), Kn 45 [(0, .pointer (some ⟨g2, 0, none⟩)), (10, vI (m1.f_entries.length : Int)), (11, vI t193)] a ∧ Mem w ([some g2] ++ ([some g4] ++ ([some g6] ++ ([some g8] ++ ([rblk A10 c11] ++ (Z14.map some ++ ([rblk A16 c17] ++ ([])))))))) w194 [.res [g4] (MR62 g4 m1.f_forwarded), .res [g6] (MR62 g6 m1.f_cached), .res [g8] (MR62 g8 m1.f_lost), .row A186 c187 47 6 (p191).length (css188).flatten, .res Z189 (Els RO_model_Entry 6 p191 css188 Z189), .row A16 c17 3 1 (m1.f_line).length ((m1.f_line).flatMap (eI .i64)), .box g2 tg19 [.map (some g4), .map (some g6), .map (some g8), .slice A186 (p191).length c187, .slice A16 (m1.f_line).length c17, v64 m1.f_first, v32 m1.f_boot]] ∧ F_model_Model_sync_L1 m1 k196 p191 t193 = some r) ?_ ?_
 ·replace hM := hM.pick [1, 2, 3, 4, 5, 6, 0] rfl (by decide)
  exact fun a ha => ⟨fuel0, A10, c11, css13, Z14, m1.f_entries, 0, ha.less (less_cons rfl (less_cons rfl (less_cons rfl less_nil))), hM, hF⟩
 rintro k196 a w194 ⟨A186, c187, css188, Z189, p191, t193, ha, hM, hF⟩
 refine KC.app ha ?_
 clear ha
 cases k196 with
 | zero => exact (none_some hF).elim
 | succ k196 =>
 have hF : F_model_Model_sync_l1 (F_model_Model_sync_L1 m1 k196) m1 p191 t193 = some r := hF
 unfold F_model_Model_sync_l1 at hF
 refine sr fun Q197 hQ197 => ?_
 refine RL.val (O.lss rfl rfl) rfl ?_
 refine nt hQ197 ?_
 clear hQ197 Q197
 refine KC.seqH fun Q198 hQ198 => ?_
 refine KC.cond rfl (fun hc => ?_) (fun hc => ?_)
 ·rw [if_pos hc] at hF
  refine KC.skip ?_
  refine KQ.thn hQ198 ?_
  clear hQ198 Q198
  refine KC.cut (fun a w264 => ∃ (A257 : Option Addr) (c258 : Nat) (css259 : List (List Value)) (Z260 : List Nat) (p262 : List T_model_Entry), Kn 45 [(0, .pointer (some ⟨g2, 0, none⟩)), (10, vI (m1.f_entries.length : Int)), (11, vI t193)] a ∧ Mem w ([some g2] ++ ([some g4] ++ ([some g6] ++ ([some g8] ++ ([rblk A10 c11] ++ (Z14.map some ++ ([rblk A16 c17] ++ ([])))))))) w264 [.res [g4] (MR62 g4 m1.f_forwarded), .res [g6] (MR62 g6 m1.f_cached), .res [g8] (MR62 g8 m1.f_lost), .row A257 c258 47 6 (p262).length (css259).flatten, .res Z260 (Els RO_model_Entry 6 p262 css259 Z260), .row A16 c17 3 1 (m1.f_line).length ((m1.f_line).flatMap (eI .i64)), .box g2 tg19 [.map (some g4), .map (some g6), .map (some g8), .slice A257 (p262).length c258, .slice A16 (m1.f_line).length c17, v64 m1.f_first, v32 m1.f_boot]] ∧ F_model_Model_sync_j1 t193 (F_model_Model_sync_L1 m1 k196) p262 = some r) ?_ ?_
  ·refine KC.block ?_
   refine sr fun Q199 hQ199 => ?_
   refine vm rfl rfl ?_
   refine va rfl rfl ?_
   refine nt hQ199 ?_
   clear hQ199 Q199
   replace hM := hM.drewN 1
   refine KC.draw [] [25] [25] [0, 1, 2, 4, 5, 6, 7, 9, 11, 13, 14, 15, 16, 18, 20, 22, 24] (.ofList [0, 1, 2, 3, 4, 5, 6, 7, 8, 9, 10, 11, 12, 13, 14, 15, 16, 17, 18, 19, 20, 21, 22, 23, 24, 25]) moP (by kernel_rfl) ?_
   refine RD.p rfl rfl rfl rfl (fun w' => O.move rfl) ?_
   refine RD.p rfl rfl rfl rfl (fun w' => O.nilp rfl) ?_
   refine RD.p rfl rfl rfl rfl (fun w' => O.fldA fl65_3 (by decide) rfl) ?_
   refine RD.q rfl rfl rfl rfl (fun w' hf => O.load sc42 rfl (Cs.adds [3] ((hM.bx (i := 6) rfl).fut hf) rfl)) ?_
   refine RD.p rfl rfl rfl rfl (fun w' => O.move rfl) ?_
   refine RD.p rfl rfl rfl rfl (fun w' => O.move rfl) ?_
   refine RD.p rfl rfl rfl rfl (fun w' => O.nilp rfl) ?_
   refine RD.p rfl rfl rfl rfl (fun w' => O.fldA fl65_3 (by decide) rfl) ?_
   refine RD.q rfl rfl rfl rfl (fun w' hf => O.load sc42 rfl (Cs.adds [3] ((hM.bx (i := 6) rfl).fut hf) rfl)) ?_
   refine RD.p rfl rfl rfl rfl (fun w' => O.move rfl) ?_
   refine obindE hF fun xv202 hx204 hF => ?_
   obtain ⟨cs207, hA203, hC206, hR205⟩ := hM.atD (i := 3) (j := 4) uo_model_Entry rfl rfl hx204
   obtain ⟨A208, c209, rfl, hr210, ho211⟩ := hR205
   refine RD.q rfl rfl rfl rfl (fun w' hf => O.idxA sl42 (hA203.fut hf) rfl rfl) ?_
   refine RD.p rfl rfl rfl rfl (fun w' => O.fldA fl47_4 (by decide) rfl) ?_
   refine RD.q rfl rfl rfl rfl (fun w' hf => O.load sc4 rfl (Cs.adds [4] (hA203.fut hf).cells rfl)) ?_
   refine RD.p rfl rfl rfl rfl (fun w' => O.move rfl) ?_
   refine RD.bcase (t := 27) rfl (fun hc => ?_) (fun hc => ?_)
   ·rw [if_pos hc] at hF
    refine RD.gskip rfl rfl rfl rfl rfl ?_
    refine RD.gskip rfl rfl rfl rfl rfl ?_
    refine RD.gskip rfl rfl rfl rfl rfl ?_
    refine RD.gskip rfl rfl rfl rfl rfl ?_
    refine RD.gskip rfl rfl rfl rfl rfl ?_
    refine RD.gskip rfl rfl rfl rfl rfl ?_
    refine RD.gskip rfl rfl rfl rfl rfl ?_
    refine RD.gskip rfl rfl rfl rfl rfl ?_
    refine RD.p rfl rfl rfl rfl (fun w' => O.pickt rfl rfl) ?_
    refine obindE hF fun xv214 hx216 hF => ?_
    obtain ⟨cs219, hA215, hC218, hR217⟩ := hM.atD (i := 3) (j := 4) uo_model_Entry rfl rfl hx216
    obtain ⟨A220, c221, rfl, hr222, ho223⟩ := hR217
    refine RD.q rfl rfl rfl rfl (fun w' hf => O.idxA sl42 (hA215.fut hf) rfl rfl) ?_
    refine RD.p rfl rfl rfl rfl (fun w' => O.fldA fl47_4 (by decide) rfl) ?_
    refine RD.meffs rfl rfl rfl (E.stD (i := 3) (j := 4) (off := 4) (vs := [vB true]) (cs' := [v32 xv214.f_Epoch, v64 xv214.f_N, .slice A220 (xv214.f_Records).length c221, vB xv214.f_There, vB true, vB xv214.f_Credited]) (u' := (T_model_Entry.mk xv214.f_Epoch xv214.f_N xv214.f_Records xv214.f_There true xv214.f_Credited)) hM rfl rfl rfl hC218 hx216 sz4 rfl (addsR_eq [4] rfl) rfl rfl (One.all rfl) rfl rfl (fun o h => by obtain ⟨A0', c0', h1, h2⟩ := h; cases h1; exact ⟨_, _, rfl, h2⟩)) fun w224 hM1 => ?_
    clear hM
    obtain ⟨hM, hn225⟩ := hM1
    refine RD.reslot (t := 17) rfl hn225 ?_
    refine RD.reslot (t := 22) rfl hn225 ?_
    replace hM := hM.rebox (i := 6) (cs' := [.map (some g4), .map (some g6), .map (some g8), .slice A186 ((p191.set (t193 : Int).toNat (T_model_Entry.mk xv214.f_Epoch xv214.f_N xv214.f_Records xv214.f_There true xv214.f_Credited))).length c187, .slice A16 (m1.f_line).length c17, v64 m1.f_first, v32 m1.f_boot]) rfl (by rw [← hn225])
    refine RD.nil ?_
    refine KQ.blk_n ?_
    refine KQ.then_k ?_
    exact fun a ha => ⟨A186, c187, (css188.set (t193 : Int).toNat [v32 xv214.f_Epoch, v64 xv214.f_N, .slice A220 (xv214.f_Records).length c221, vB xv214.f_There, vB true, vB xv214.f_Credited]), Z189, (p191.set (t193 : Int).toNat (T_model_Entry.mk xv214.f_Epoch xv214.f_N xv214.f_Records xv214.f_There true xv214.f_Credited)), ha.less (less_cons rfl (less_cons rfl (less_cons rfl less_nil))), hM, hF⟩
   rw [if_neg (ne_true hc)] at hF
   refine RD.gp rfl rfl rfl rfl rfl rfl (fun w' => O.move rfl) ?_
   refine RD.gp rfl rfl rfl rfl rfl rfl (fun w' => O.nilp rfl) ?_
   refine RD.gp rfl rfl rfl rfl rfl rfl (fun w' => O.fldA fl65_3 (by decide) rfl) ?_
   refine RD.gq rfl rfl rfl rfl rfl rfl (fun w' hf => O.load sc42 rfl (Cs.adds [3] ((hM.bx (i := 6) rfl).fut hf) rfl)) ?_
   refine RD.gp rfl rfl rfl rfl rfl rfl (fun w' => O.move rfl) ?_
   refine obindE hF fun xv228 hx230 hF => ?_
   obtain ⟨cs233, hA229, hC232, hR231⟩ := hM.atD (i := 3) (j := 4) uo_model_Entry rfl rfl hx230
   obtain ⟨A234, c235, rfl, hr236, ho237⟩ := hR231
   refine RD.gq rfl rfl rfl rfl rfl rfl (fun w' hf => O.idxA sl42 (hA229.fut hf) rfl rfl) ?_
   refine RD.gp rfl rfl rfl rfl rfl rfl (fun w' => O.fldA fl47_3 (by decide) rfl) ?_
   refine RD.gq rfl rfl rfl rfl rfl rfl (fun w' hf => O.load sc4 rfl (Cs.adds [3] (hA229.fut hf).cells rfl)) ?_
   refine RD.p rfl rfl rfl rfl (fun w' => O.pickf rfl rfl) ?_
   refine obindE hF fun xv240 hx242 hF => ?_
   obtain ⟨cs245, hA241, hC244, hR243⟩ := hM.atD (i := 3) (j := 4) uo_model_Entry rfl rfl hx242
   obtain ⟨A246, c247, rfl, hr248, ho249⟩ := hR243
   refine RD.q rfl rfl rfl rfl (fun w' hf => O.idxA sl42 (hA241.fut hf) rfl rfl) ?_
   refine RD.p rfl rfl rfl rfl (fun w' => O.fldA fl47_4 (by decide) rfl) ?_
   refine RD.meffs rfl rfl rfl (E.stD (i := 3) (j := 4) (off := 4) (vs := [vB xv228.f_There]) (cs' := [v32 xv240.f_Epoch, v64 xv240.f_N, .slice A246 (xv240.f_Records).length c247, vB xv240.f_There, vB xv228.f_There, vB xv240.f_Credited]) (u' := (T_model_Entry.mk xv240.f_Epoch xv240.f_N xv240.f_Records xv240.f_There xv228.f_There xv240.f_Credited)) hM rfl rfl rfl hC244 hx242 sz4 rfl (addsR_eq [4] rfl) rfl rfl (One.all rfl) rfl rfl (fun o h => by obtain ⟨A0', c0', h1, h2⟩ := h; cases h1; exact ⟨_, _, rfl, h2⟩)) fun w250 hM1 => ?_
   clear hM
   obtain ⟨hM, hn251⟩ := hM1
   refine RD.reslot (t := 17) rfl hn251 ?_
   refine RD.reslot (t := 22) rfl hn251 ?_
   refine RD.reslot (t := 31) rfl hn251 ?_
   replace hM := hM.rebox (i := 6) (cs' := [.map (some g4), .map (some g6), .map (some g8), .slice A186 ((p191.set (t193 : Int).toNat (T_model_Entry.mk xv240.f_Epoch xv240.f_N xv240.f_Records xv240.f_There xv228.f_There xv240.f_Credited))).length c187, .slice A16 (m1.f_line).length c17, v64 m1.f_first, v32 m1.f_boot]) rfl (by rw [← hn251])
   refine RD.nil ?_
   refine KQ.blk_n ?_
   refine KQ.then_k ?_
   exact fun a ha => ⟨A186, c187, (css188.set (t193 : Int).toNat [v32 xv240.f_Epoch, v64 xv240.f_N, .slice A246 (xv240.f_Records).length c247, vB xv240.f_There, vB xv228.f_There, vB xv240.f_Credited]), Z189, (p191.set (t193 : Int).toNat (T_model_Entry.mk xv240.f_Epoch xv240.f_N xv240.f_Records xv240.f_There xv228.f_There xv240.f_Credited)), ha.less (less_cons rfl (less_cons rfl (less_cons rfl less_nil))), hM, hF⟩
  rintro a w264 ⟨A257, c258, css259, Z260, p262, ha, hM, hF⟩
  refine KC.app ha ?_
  clear ha
  unfold F_model_Model_sync_j1 at hF
  refine KC.region ?_
  refine RL.val (O.add rfl rfl) rfl ?_
  refine vm rfl rfl ?_
  refine RL.nil ?_
  refine KQ.then_k ?_
  exact fun a ha => ⟨k196, Nat.lt_succ_self k196, A257, c258, css259, Z260, p262, (IntKind.i64.wrap (t193 + 1)), ha.less (less_cons rfl (less_cons rfl (less_cons rfl less_nil))), hM, hF⟩
 rw [if_neg (ne_true hc)] at hF
 refine KC.exit ?_
 refine KQ.thx hQ198 ?_
 clear hQ198 Q198
 refine KQ.then_x ?_
 refine KQ.blk_x ?_
 refine KQ.thn hQ30 ?_
 clear hQ30 Q30
 refine sr fun Q265 hQ265 => ?_
 refine vm rfl rfl ?_
 refine RL.val (O.nilp rfl) rfl ?_
 refine RL.val (O.fldA fl65_6 (by decide) rfl) rfl ?_
 refine RL.val (O.load sc39 rfl (Cs.adds [6] ((hM.bx (i := 6) rfl)) rfl)) rfl ?_
 refine RL.val (O.gtr rfl rfl) rfl ?_
 refine va rfl rfl ?_
 refine nt hQ265 ?_
 clear hQ265 Q265
 refine KC.ret ?_
 have hE := Option.some.inj hF
 clear hF
 subst hE
 replace hM := hM.pick [6, 0, 1, 2, 3, 4, 5] rfl (by decide)
 refine KQ.rets Try.results23 (RVs.cons (RV.tm rfl) RVs.nil) ?_
 exact ⟨_, rfl, g4, g6, g8, A186, c187, css188, Z189, A16, c17, rfl, hM⟩
set_option maxRecDepth 100000 in
set_option maxHeartbeats 40000000 in
theorem c_model_Model_truncate_1 (w : World) (ev1 : T_model_Entry) (A2 : Option Addr) (c3 : Nat) (hr4 : Rd w A2 c3 44 ev1.f_Records.length (ev1.f_Records.flatMap e_flow_Record)) (r : Bool) (hF : F_model_Model_truncate_1 ev1 = some r) :
  CallsR Try.prog 40 [.agg #[v32 ev1.f_Epoch, v64 ev1.f_N, .slice A2 (ev1.f_Records).length c3, vB ev1.f_There, vB ev1.f_Synced, vB ev1.f_Credited]] w (fun v w' => v = vB r ∧ Mem w [] w' []) := by
 refine calls_KC Try.func40 rfl Try.ntmps40 rfl ?_
 have hM := Mem.init w
 unfold F_model_Model_truncate_1 at hF
 refine sr fun Q5 hQ5 => ?_
 refine RL.eff (E.box (vs := [v32 ev1.f_Epoch, v64 ev1.f_N, .slice A2 (ev1.f_Records).length c3, vB ev1.f_There, vB ev1.f_Synced, vB ev1.f_Credited]) hM rfl rfl) rfl fun v w7 hv => ?_
 clear hM
 obtain ⟨g6, rfl, hM, hf⟩ := hv
 refine va rfl rfl ?_
 refine nt hQ5 ?_
 clear hQ5 Q5
 refine sr fun Q9 hQ9 => ?_
 refine RL.val (O.fldA fl47_5 (by decide) rfl) rfl ?_
 refine RL.val (O.load sc4 rfl (Cs.adds [5] ((hM.bx (i := 0) rfl)) rfl)) rfl ?_
 refine va rfl rfl ?_
 refine nt hQ9 ?_
 clear hQ9 Q9
 refine KC.ret ?_
 have hE := Option.some.inj hF
 clear hF
 subst hE
 replace hM := hM.pick [] rfl (by decide)
 refine KQ.rets Try.results40 (RVs.cons (RV.tm rfl) RVs.nil) ?_
 exact ⟨_, rfl, rfl, hM⟩
set_option maxRecDepth 100000 in
set_option maxHeartbeats 40000000 in
theorem c_model_Model_all_1_hmodel_Model_truncate_1 (w : World) (i1 : Int) (g2 : Nat) (hC3 : Cs w ⟨g2, 0, none⟩ [.func (.func 40) #[] #[]]) (cv11 : T_model_Model) (g12 : Nat) (hm13 : MR62 g12 cv11.f_forwarded w) (g14 : Nat) (hm15 : MR62 g14 cv11.f_cached w) (g16 : Nat) (hm17 : MR62 g16 cv11.f_lost w) (A18 : Option Addr) (c19 : Nat) (hr20 : RdD R_model_Entry [] w A18 c19 6 cv11.f_entries) (A21 : Option Addr) (c22 : Nat) (hr23 : Rd w A21 c22 1 cv11.f_line.length (cv11.f_line.flatMap (eI .i64))) (g8 : Nat) (hC9 : Cs w ⟨g8, 0, none⟩ [.map (some g12), .map (some g14), .map (some g16), .slice A18 (cv11.f_entries).length c19, .slice A21 (cv11.f_line).length c22, v64 cv11.f_first, v32 cv11.f_boot]) (g5 : Nat) (hC6 : Cs w ⟨g5, 0, none⟩ [.pointer (some ⟨g8, 0, none⟩)]) (r : Bool) (hF : F_model_Model_all_1_hmodel_Model_truncate_1 i1 cv11 = some r) :
  CallsR Try.prog 59 [vI i1, .pointer (some ⟨g2, 0, none⟩), .pointer (some ⟨g5, 0, none⟩)] w (fun v w' => v = vB r ∧ Mem w [] w' []) := by
 refine calls_KC Try.func59 rfl Try.ntmps59 rfl ?_
 have hM := Mem.init w
 unfold F_model_Model_all_1_hmodel_Model_truncate_1 at hF
 refine sr fun Q24 hQ24 => ?_
 refine va rfl rfl ?_
 refine nt hQ24 ?_
 clear hQ24 Q24
 refine KC.seqH fun Q25 hQ25 => ?_
 replace hM := hM.drewN 1
 refine KC.draw [] [8] [8] [2, 3, 5, 9, 10] (.ofList [0, 1, 2, 3, 4, 5, 6, 7, 8, 9, 10]) moP (by kernel_rfl) ?_
 refine RD.q rfl rfl rfl rfl (fun w' hf => O.load sc84 rfl (Cs.adds [] ((hC3.fut hM.chg).fut hf) rfl)) ?_
 refine RD.q rfl rfl rfl rfl (fun w' hf => O.load sc25 rfl (Cs.adds [] ((hC6.fut hM.chg).fut hf) rfl)) ?_
 refine RD.p rfl rfl rfl rfl (fun w' => O.nilp rfl) ?_
 refine RD.p rfl rfl rfl rfl (fun w' => O.fldA fl65_3 (by decide) rfl) ?_
 refine RD.q rfl rfl rfl rfl (fun w' hf => O.load sc42 rfl (Cs.adds [3] ((hC9.fut hM.chg).fut hf) rfl)) ?_
 refine RD.p rfl rfl rfl rfl (fun w' => O.move rfl) ?_
 refine obindE hF fun xv28 hx27 hF => ?_
 obtain ⟨cs31, hA26, hR29, hO30⟩ := RdD.at hr20 hx27
 obtain ⟨A32, c33, rfl, hr34, ho35⟩ := hR29
 have hA26 := hA26.chg hM.chg hO30
 refine RD.q rfl rfl rfl rfl (fun w' hf => O.idxA sl42 (hA26.fut hf) rfl rfl) ?_
 refine RD.q rfl rfl rfl rfl (fun w' hf => O.loadN (cs := [v32 xv28.f_Epoch, v64 xv28.f_N, .slice A32 (xv28.f_Records).length c33, vB xv28.f_There, vB xv28.f_Synced, vB xv28.f_Credited]) ag47 rfl (hA26.fut hf).cells) ?_
 refine obindE hF fun y36 hx37 hF => ?_
 refine RD.mcallv rfl rfl trivial (first := []) (captured := []) rfl Try.func40 bd40 rfl rfl (c_model_Model_truncate_1 _ xv28 _ _ (hM.inp hr34 Off.nil) _ hx37) fun v w38 hv => ?_
 obtain ⟨rfl, hN39⟩ := hv
 refine ⟨fun _ => hN39.fut, ?_⟩
 replace hM := hM.call0 hN39
 refine RD.p rfl rfl rfl rfl (fun w' => O.not rfl) ?_
 refine RD.p rfl rfl rfl rfl (fun w' => O.assign rfl) ?_
 refine RD.nil ?_
 refine KQ.thn hQ25 ?_
 clear hQ25 Q25
 refine KC.ret ?_
 have hE := Option.some.inj hF
 clear hF
 subst hE
 refine KQ.rets Try.results59 (RVs.cons (RV.tm rfl) RVs.nil) ?_
 exact ⟨_, rfl, rfl, hM⟩
set_option maxRecDepth 100000 in
set_option maxHeartbeats 40000000 in
theorem c_slices_IndexFunc_int_int_fmodel_Model_all_1hmodel_Model_truncate_1 (w : World) (A2 : Option Addr) (c3 : Nat) (s1 : List Int) (hr4 : Rd w A2 c3 1 s1.length (s1.flatMap (eI .i64))) (g5 : Nat) (hC6 : Cs w ⟨g5, 0, none⟩ [.func (.func 40) #[] #[]]) (f14 : T_model_Model) (g15 : Nat) (hm16 : MR62 g15 f14.f_forwarded w) (g17 : Nat) (hm18 : MR62 g17 f14.f_cached w) (g19 : Nat) (hm20 : MR62 g19 f14.f_lost w) (A21 : Option Addr) (c22 : Nat) (hr23 : RdD R_model_Entry [] w A21 c22 6 f14.f_entries) (A24 : Option Addr) (c25 : Nat) (hr26 : Rd w A24 c25 1 f14.f_line.length (f14.f_line.flatMap (eI .i64))) (g11 : Nat) (hC12 : Cs w ⟨g11, 0, none⟩ [.map (some g15), .map (some g17), .map (some g19), .slice A21 (f14.f_entries).length c22, .slice A24 (f14.f_line).length c25, v64 f14.f_first, v32 f14.f_boot]) (g8 : Nat) (hC9 : Cs w ⟨g8, 0, none⟩ [.pointer (some ⟨g11, 0, none⟩)]) (r : Int) (hF : F_slices_IndexFunc_int_int_fmodel_Model_all_1hmodel_Model_truncate_1 s1 f14 = some r) :
  CallsR Try.prog 71 [.slice A2 (s1).length c3, .func (.func 59) #[] #[.pointer (some ⟨g5, 0, none⟩), .pointer (some ⟨g8, 0, none⟩)]] w (fun v w' => v = vI r ∧ Mem w [] w' []) := by
 refine calls_KC Try.func71 rfl Try.ntmps71 rfl ?_
 have hM := Mem.init w
 unfold F_slices_IndexFunc_int_int_fmodel_Model_all_1hmodel_Model_truncate_1 at hF
 refine sr fun Q27 hQ27 => ?_
 refine va rfl rfl ?_
 refine nt hQ27 ?_
 clear hQ27 Q27
 refine KC.seqH fun Q28 hQ28 => ?_
 refine sr fun Q29 hQ29 => ?_
 refine vm rfl rfl ?_
 refine RL.val (O.len sl63 rfl) rfl ?_
 refine vm rfl rfl ?_
 refine nt hQ29 ?_
 clear hQ29 Q29
 refine KC.block ?_
 refine KC.loop (fun k60 a w58 => ∃ (t57 : Int), Kn 19 [(0, .slice A2 (s1).length c3), (1, .func (.func 59) #[] #[.pointer (some ⟨g5, 0, none⟩), .pointer (some ⟨g8, 0, none⟩)]), (7, vI (s1.length : Int)), (8, vI t57)] a ∧ Mem w [] w58 [] ∧ F_slices_IndexFunc_int_int_fmodel_Model_all_1hmodel_Model_truncate_1_L1 s1 f14 k60 t57 = some r) ?_ ?_
 ·exact fun a ha => ⟨fuel0, 0, ha.less (less_cons rfl (less_cons rfl (less_cons rfl (less_cons rfl less_nil)))), hM, hF⟩
 rintro k60 a w58 ⟨t57, ha, hM, hF⟩
 refine KC.app ha ?_
 clear ha
 cases k60 with
 | zero => exact (none_some hF).elim
 | succ k60 =>
 have hF : F_slices_IndexFunc_int_int_fmodel_Model_all_1hmodel_Model_truncate_1_l1 (F_slices_IndexFunc_int_int_fmodel_Model_all_1hmodel_Model_truncate_1_L1 s1 f14 k60) s1 f14 t57 = some r := hF
 unfold F_slices_IndexFunc_int_int_fmodel_Model_all_1hmodel_Model_truncate_1_l1 at hF
 refine sr fun Q61 hQ61 => ?_
 refine RL.val (O.lss rfl rfl) rfl ?_
 refine nt hQ61 ?_
 clear hQ61 Q61
 refine KC.seqH fun Q62 hQ62 => ?_
 refine KC.cond rfl (fun hc => ?_) (fun hc => ?_)
 ·rw [if_pos hc] at hF
  refine KC.skip ?_
  refine KQ.thn hQ62 ?_
  clear hQ62 Q62
  refine KC.seqH fun Q63 hQ63 => ?_
  refine KC.block ?_
  refine sr fun Q64 hQ64 => ?_
  refine vm rfl rfl ?_
  refine va rfl rfl ?_
  refine nt hQ64 ?_
  clear hQ64 Q64
  refine sr fun Q65 hQ65 => ?_
  refine vm rfl rfl ?_
  refine vm rfl rfl ?_
  refine vm rfl rfl ?_
  refine obindE hF fun xv68 hx67 hF => ?_
  have hA66 := Rd.atN (f := (eI .i64)) (s := 1) (fun _ => rfl) (by decide) (hM.inp hr4 Off.nil) hx67
  refine RL.val (O.idxA sl63 (hA66) rfl rfl) rfl ?_
  refine RL.val (O.load sc3 rfl (hA66).cells.at0) rfl ?_
  refine obindE hF fun y69 hx70 hF => ?_
  refine RL.callv (first := []) (captured := [.pointer (some ⟨g5, 0, none⟩), .pointer (some ⟨g8, 0, none⟩)]) rfl Try.func59 bd59 rfl rfl (c_model_Model_all_1_hmodel_Model_truncate_1 _ xv68 _ (hC6.fut hM.chg) f14 _ (hm16.fut hM.chg) _ (hm18.fut hM.chg) _ (hm20.fut hM.chg) _ _ (hr23.chg mv_model_Entry hM.chg) _ _ (hM.inp hr26 Off.nil) _ (hC12.fut hM.chg) _ (hC9.fut hM.chg) _ hx70) fun v w71 hv => ?_
  obtain ⟨rfl, hN72⟩ := hv
  replace hM := hM.call0 hN72
  refine nt hQ65 ?_
  clear hQ65 Q65
  refine KC.cond rfl (fun hc => ?_) (fun hc => ?_)
  ·rw [if_pos hc] at hF
   refine sr fun Q73 hQ73 => ?_
   refine vm rfl rfl ?_
   refine va rfl rfl ?_
   refine nt hQ73 ?_
   clear hQ73 Q73
   refine KC.ret ?_
   refine KQ.blk_r ?_
   refine KQ.thr hQ63 ?_
   clear hQ63 Q63
   refine KQ.then_r ?_
   refine KQ.blk_r ?_
   refine KQ.thr hQ28 ?_
   clear hQ28 Q28
   have hE := Option.some.inj hF
   clear hF
   subst hE
   refine KQ.rets Try.results71 (RVs.cons (RV.tm rfl) RVs.nil) ?_
   exact ⟨_, rfl, rfl, hM⟩
  rw [if_neg (ne_true hc)] at hF
  refine KC.skip ?_
  refine KQ.blk_n ?_
  refine KQ.thn hQ63 ?_
  clear hQ63 Q63
  refine KC.region ?_
  refine RL.val (O.add rfl rfl) rfl ?_
  refine vm rfl rfl ?_
  refine RL.nil ?_
  refine KQ.then_k ?_
  exact fun a ha => ⟨k60, Nat.lt_succ_self k60, (IntKind.i64.wrap (t57 + 1)), ha.less (less_cons rfl (less_cons rfl (less_cons rfl (less_cons rfl less_nil)))), hM, hF⟩
 rw [if_neg (ne_true hc)] at hF
 refine KC.exit ?_
 refine KQ.thx hQ62 ?_
 clear hQ62 Q62
 refine KQ.then_x ?_
 refine KQ.blk_x ?_
 refine KQ.thn hQ28 ?_
 clear hQ28 Q28
 refine sr fun Q74 hQ74 => ?_
 refine va rfl rfl ?_
 refine nt hQ74 ?_
 clear hQ74 Q74
 refine KC.ret ?_
 have hE := Option.some.inj hF
 clear hF
 subst hE
 refine KQ.rets Try.results71 (RVs.cons (RV.tm rfl) RVs.nil) ?_
 exact ⟨_, rfl, rfl, hM⟩
set_option maxRecDepth 100000 in
set_option maxHeartbeats 40000000 in
theorem c_slices_ContainsFunc_int_int_fmodel_Model_all_1hmodel_Model_truncate_1 (w : World) (A2 : Option Addr) (c3 : Nat) (s1 : List Int) (hr4 : Rd w A2 c3 1 s1.length (s1.flatMap (eI .i64))) (g5 : Nat) (hC6 : Cs w ⟨g5, 0, none⟩ [.func (.func 40) #[] #[]]) (f14 : T_model_Model) (g15 : Nat) (hm16 : MR62 g15 f14.f_forwarded w) (g17 : Nat) (hm18 : MR62 g17 f14.f_cached w) (g19 : Nat) (hm20 : MR62 g19 f14.f_lost w) (A21 : Option Addr) (c22 : Nat) (hr23 : RdD R_model_Entry [] w A21 c22 6 f14.f_entries) (A24 : Option Addr) (c25 : Nat) (hr26 : Rd w A24 c25 1 f14.f_line.length (f14.f_line.flatMap (eI .i64))) (g11 : Nat) (hC12 : Cs w ⟨g11, 0, none⟩ [.map (some g15), .map (some g17), .map (some g19), .slice A21 (f14.f_entries).length c22, .slice A24 (f14.f_line).length c25, v64 f14.f_first, v32 f14.f_boot]) (g8 : Nat) (hC9 : Cs w ⟨g8, 0, none⟩ [.pointer (some ⟨g11, 0, none⟩)]) (r : Bool) (hF : F_slices_ContainsFunc_int_int_fmodel_Model_all_1hmodel_Model_truncate_1 s1 f14 = some r) :
  CallsR Try.prog 58 [.slice A2 (s1).length c3, .func (.func 59) #[] #[.pointer (some ⟨g5, 0, none⟩), .pointer (some ⟨g8, 0, none⟩)]] w (fun v w' => v = vB r ∧ Mem w [] w' []) := by
 refine calls_KC Try.func58 rfl Try.ntmps58 rfl ?_
 have hM := Mem.init w
 unfold F_slices_ContainsFunc_int_int_fmodel_Model_all_1hmodel_Model_truncate_1 at hF
 refine sr fun Q27 hQ27 => ?_
 refine va rfl rfl ?_
 refine nt hQ27 ?_
 clear hQ27 Q27
 refine sr fun Q28 hQ28 => ?_
 refine vm rfl rfl ?_
 refine vm rfl rfl ?_
 refine obindE hF fun y29 hx30 hF => ?_
 refine RL.call Try.func71 bd71 rfl rfl (c_slices_IndexFunc_int_int_fmodel_Model_all_1hmodel_Model_truncate_1 _ _ _ s1 (hM.inp hr4 Off.nil) _ (hC6.fut hM.chg) f14 _ (hm16.fut hM.chg) _ (hm18.fut hM.chg) _ (hm20.fut hM.chg) _ _ (hr23.chg mv_model_Entry hM.chg) _ _ (hM.inp hr26 Off.nil) _ (hC12.fut hM.chg) _ (hC9.fut hM.chg) _ hx30) fun v w31 hv => ?_
 obtain ⟨rfl, hN32⟩ := hv
 replace hM := hM.call0 hN32
 refine RL.val (O.geq rfl rfl) rfl ?_
 refine va rfl rfl ?_
 refine nt hQ28 ?_
 clear hQ28 Q28
 refine KC.ret ?_
 have hE := Option.some.inj hF
 clear hF
 subst hE
 refine KQ.rets Try.results58 (RVs.cons (RV.tm rfl) RVs.nil) ?_
 exact ⟨_, rfl, rfl, hM⟩
set_option maxRecDepth 100000 in
set_option maxHeartbeats 40000000 in
theorem c_model_Model_all_fmodel_Model_truncate_1 (w : World) (m4 : T_model_Model) (g5 : Nat) (hm6 : MR62 g5 m4.f_forwarded w) (g7 : Nat) (hm8 : MR62 g7 m4.f_cached w) (g9 : Nat) (hm10 : MR62 g9 m4.f_lost w) (A11 : Option Addr) (c12 : Nat) (hr13 : RdD R_model_Entry [] w A11 c12 6 m4.f_entries) (A14 : Option Addr) (c15 : Nat) (hr16 : Rd w A14 c15 1 m4.f_line.length (m4.f_line.flatMap (eI .i64))) (g1 : Nat) (hC2 : Cs w ⟨g1, 0, none⟩ [.map (some g5), .map (some g7), .map (some g9), .slice A11 (m4.f_entries).length c12, .slice A14 (m4.f_line).length c15, v64 m4.f_first, v32 m4.f_boot]) (fromv17 : Int) (tov18 : Int) (r : Bool) (hF : F_model_Model_all_fmodel_Model_truncate_1 m4 fromv17 tov18 = some r) :
  CallsR Try.prog 39 [.pointer (some ⟨g1, 0, none⟩), v64 fromv17, v64 tov18, .func (.func 40) #[] #[]] w (fun v w' => v = vB r ∧ Mem w [] w' []) := by
 refine calls_KC Try.func39 rfl Try.ntmps39 rfl ?_
 have hM := Mem.init w
 unfold F_model_Model_all_fmodel_Model_truncate_1 at hF
 refine sr fun Q19 hQ19 => ?_
 refine RL.eff (E.box (vs := [.pointer (some ⟨g1, 0, none⟩)]) hM rfl rfl) rfl fun v w21 hv => ?_
 clear hM
 obtain ⟨g20, rfl, hM, hf⟩ := hv
 refine RL.eff (E.box (vs := [.func (.func 40) #[] #[]]) hM rfl rfl) rfl fun v w24 hv => ?_
 clear hM
 obtain ⟨g23, rfl, hM, hf⟩ := hv
 refine va rfl rfl ?_
 refine nt hQ19 ?_
 clear hQ19 Q19
 refine sr fun Q26 hQ26 => ?_
 refine RL.val (O.load sc25 rfl (Cs.adds [] ((hM.bx (i := 0) rfl)) rfl)) rfl ?_
 refine RL.val (O.nilp rfl) rfl ?_
 refine RL.val (O.fldA fl65_4 (by decide) rfl) rfl ?_
 refine RL.val (O.load sc63 rfl (Cs.adds [4] ((hC2.fut hM.chg)) rfl)) rfl ?_
 refine vm rfl rfl ?_
 refine vm rfl rfl ?_
 refine obindE hF fun cut27 hy28 hF => ?_
 refine cutNE A14 c15 (Int.toNat fromv17) 1 fun A29 c30 eA32 ec33 => ?_
 have hr31 := Rd.cutT (enc := (eI .i64)) (s := 1) (fun _ => rfl) hr16 hy28 (m := c15) (by have := hr16.cap; have := (gcut_some hy28).2.2.1; omega) (Nat.le_refl _)
 rw [← eA32, ← ec33] at hr31
 refine RL.val (v := .slice A29 (cut27).length c30) (by rw [eA32, ec33]; exact O.cutT sl63 (hM.inp hr16 Off.nil) hy28 rfl rfl rfl) rfl ?_
 refine RL.val (O.mkf rfl rfl) rfl ?_
 refine obindE hF fun y34 hx35 hF => ?_
 refine RL.call Try.func58 bd58 rfl rfl (c_slices_ContainsFunc_int_int_fmodel_Model_all_1hmodel_Model_truncate_1 _ _ _ cut27 (hM.inp hr31 Off.nil) _ (hM.bx (i := 1) rfl) m4 _ (hm6.fut hM.chg) _ (hm8.fut hM.chg) _ (hm10.fut hM.chg) _ _ (hr13.chg mv_model_Entry hM.chg) _ _ (hM.inp hr16 Off.nil) _ (hC2.fut hM.chg) _ (hM.bx (i := 0) rfl) _ hx35) fun v w36 hv => ?_
 obtain ⟨rfl, hN37⟩ := hv
 replace hM := hM.call0 hN37
 refine RL.val (O.not rfl) rfl ?_
 refine va rfl rfl ?_
 refine nt hQ26 ?_
 clear hQ26 Q26
 refine KC.ret ?_
 have hE := Option.some.inj hF
 clear hF
 subst hE
 replace hM := hM.pick [] rfl (by decide)
 refine KQ.rets Try.results39 (RVs.cons (RV.tm rfl) RVs.nil) ?_
 exact ⟨_, rfl, rfl, hM⟩
end Go.Proofs.Ytidbgejnkpoeeaa
