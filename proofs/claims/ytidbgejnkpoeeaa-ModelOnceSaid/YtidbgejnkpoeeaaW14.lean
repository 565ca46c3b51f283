/- Printed by a program of this claim: each call returns what the plain function of its name gives. -/
import Derived.Test.YtidbgejnkpoeeaaW1
import Derived.Test.YtidbgejnkpoeeaaW4
import Derived.Test.YtidbgejnkpoeeaaW6
import Derived.Test.YtidbgejnkpoeeaaW7
import Derived.Test.YtidbgejnkpoeeaaW8
import Derived.Test.YtidbgejnkpoeeaaW9
import Derived.Test.YtidbgejnkpoeeaaW10
import Derived.Test.YtidbgejnkpoeeaaW13
set_option linter.unusedVariables false
namespace Go.Proofs.Ytidbgejnkpoeeaa
open Go Go.Ox Go.RowKit
set_option maxRecDepth 100000 in
set_option maxHeartbeats 40000000 in
theorem c_model_Model_Step (w : World) (g2 : Nat) (tg19 : TypeId) (m1 : T_model_Model) (g4 : Nat) (g6 : Nat) (g8 : Nat) (A10 : Option Addr) (c11 : Nat) (css13 : List (List Value)) (Z14 : List Nat) (A16 : Option Addr) (c17 : Nat) (hL25 : Lent w [.box g2 tg19 [.map (some g4), .map (some g6), .map (some g8), .slice A10 (m1.f_entries).length c11, .slice A16 (m1.f_line).length c17, v64 m1.f_first, v32 m1.f_boot], .res [g4] (MR62 g4 m1.f_forwarded), .res [g6] (MR62 g6 m1.f_cached), .res [g8] (MR62 g8 m1.f_lost), .row A10 c11 47 6 (m1.f_entries).length (css13).flatten, .res Z14 (Els RO_model_Entry 6 m1.f_entries css13 Z14), .row A16 c17 3 1 (m1.f_line).length ((m1.f_line).flatMap (eI .i64))]) (nv20 : T_model_Note) (A21 : Option Addr) (c22 : Nat) (hr23 : Rd w A21 c22 44 nv20.f_Records.length (nv20.f_Records.flatMap e_flow_Record)) (ho24 : Off ([some g2] ++ ([some g4] ++ ([some g6] ++ ([some g8] ++ ([rblk A10 c11] ++ (Z14.map some ++ ([rblk A16 c17] ++ ([])))))))) nv20.f_Records.length A21) (r : Int × T_model_Model) (hF : F_model_Model_Step m1 nv20 = some r) :
  CallsR Try.prog 8 [.pointer (some ⟨g2, 0, none⟩), .agg #[vI nv20.f_Kind, vB nv20.f_Key.f_Src.f_Six, o8 nv20.f_Key.f_Src.f_B 0, o8 nv20.f_Key.f_Src.f_B 1, o8 nv20.f_Key.f_Src.f_B 2, o8 nv20.f_Key.f_Src.f_B 3, o8 nv20.f_Key.f_Src.f_B 4, o8 nv20.f_Key.f_Src.f_B 5, o8 nv20.f_Key.f_Src.f_B 6, o8 nv20.f_Key.f_Src.f_B 7, o8 nv20.f_Key.f_Src.f_B 8, o8 nv20.f_Key.f_Src.f_B 9, o8 nv20.f_Key.f_Src.f_B 10, o8 nv20.f_Key.f_Src.f_B 11, o8 nv20.f_Key.f_Src.f_B 12, o8 nv20.f_Key.f_Src.f_B 13, o8 nv20.f_Key.f_Src.f_B 14, o8 nv20.f_Key.f_Src.f_B 15, vB nv20.f_Key.f_Dst.f_Six, o8 nv20.f_Key.f_Dst.f_B 0, o8 nv20.f_Key.f_Dst.f_B 1, o8 nv20.f_Key.f_Dst.f_B 2, o8 nv20.f_Key.f_Dst.f_B 3, o8 nv20.f_Key.f_Dst.f_B 4, o8 nv20.f_Key.f_Dst.f_B 5, o8 nv20.f_Key.f_Dst.f_B 6, o8 nv20.f_Key.f_Dst.f_B 7, o8 nv20.f_Key.f_Dst.f_B 8, o8 nv20.f_Key.f_Dst.f_B 9, o8 nv20.f_Key.f_Dst.f_B 10, o8 nv20.f_Key.f_Dst.f_B 11, o8 nv20.f_Key.f_Dst.f_B 12, o8 nv20.f_Key.f_Dst.f_B 13, o8 nv20.f_Key.f_Dst.f_B 14, o8 nv20.f_Key.f_Dst.f_B 15, v8 nv20.f_Key.f_Proto, v16 nv20.f_Key.f_SrcPort, v16 nv20.f_Key.f_DstPort, v64 nv20.f_Total.f_Packets, v64 nv20.f_Total.f_Bytes, .slice A21 (nv20.f_Records).length c22, v32 nv20.f_Epoch, v64 nv20.f_N, v64 nv20.f_First, v64 nv20.f_Next]] w (fun v w' => ∃ (gr0 : Nat) (gr1 : Nat) (gr2 : Nat) (Ar3 : Option Addr) (cr3 : Nat) (cssr4 : List (List Value)) (Zr4 : List Nat) (Ar4 : Option Addr) (cr4 : Nat), v = vI r.1 ∧ Mem w ([some g2] ++ ([some g4] ++ ([some g6] ++ ([some g8] ++ ([rblk A10 c11] ++ (Z14.map some ++ ([rblk A16 c17] ++ ([])))))))) w' [.box g2 tg19 [.map (some gr0), .map (some gr1), .map (some gr2), .slice Ar3 (r.2.f_entries).length cr3, .slice Ar4 (r.2.f_line).length cr4, v64 r.2.f_first, v32 r.2.f_boot], .res [gr0] (MR62 gr0 r.2.f_forwarded), .res [gr1] (MR62 gr1 r.2.f_cached), .res [gr2] (MR62 gr2 r.2.f_lost), .row Ar3 cr3 47 6 r.2.f_entries.length cssr4.flatten, .res Zr4 (Els RO_model_Entry 6 r.2.f_entries cssr4 Zr4), .row Ar4 cr4 3 1 r.2.f_line.length (r.2.f_line.flatMap (eI .i64))]) := by
 refine calls_KC Try.func8 rfl Try.ntmps8 rfl ?_
 have hM : Mem w ([some g2] ++ ([some g4] ++ ([some g6] ++ ([some g8] ++ ([rblk A10 c11] ++ (Z14.map some ++ ([rblk A16 c17] ++ ([])))))))) w [.box g2 tg19 [.map (some g4), .map (some g6), .map (some g8), .slice A10 (m1.f_entries).length c11, .slice A16 (m1.f_line).length c17, v64 m1.f_first, v32 m1.f_boot], .res [g4] (MR62 g4 m1.f_forwarded), .res [g6] (MR62 g6 m1.f_cached), .res [g8] (MR62 g8 m1.f_lost), .row A10 c11 47 6 (m1.f_entries).length (css13).flatten, .res Z14 (Els RO_model_Entry 6 m1.f_entries css13 Z14), .row A16 c17 3 1 (m1.f_line).length ((m1.f_line).flatMap (eI .i64))] := Mem.lendN hL25
 unfold F_model_Model_Step at hF
 refine sr fun Q26 hQ26 => ?_
 refine RL.eff (E.box (vs := [vI nv20.f_Kind, vB nv20.f_Key.f_Src.f_Six, o8 nv20.f_Key.f_Src.f_B 0, o8 nv20.f_Key.f_Src.f_B 1, o8 nv20.f_Key.f_Src.f_B 2, o8 nv20.f_Key.f_Src.f_B 3, o8 nv20.f_Key.f_Src.f_B 4, o8 nv20.f_Key.f_Src.f_B 5, o8 nv20.f_Key.f_Src.f_B 6, o8 nv20.f_Key.f_Src.f_B 7, o8 nv20.f_Key.f_Src.f_B 8, o8 nv20.f_Key.f_Src.f_B 9, o8 nv20.f_Key.f_Src.f_B 10, o8 nv20.f_Key.f_Src.f_B 11, o8 nv20.f_Key.f_Src.f_B 12, o8 nv20.f_Key.f_Src.f_B 13, o8 nv20.f_Key.f_Src.f_B 14, o8 nv20.f_Key.f_Src.f_B 15, vB nv20.f_Key.f_Dst.f_Six, o8 nv20.f_Key.f_Dst.f_B 0, o8 nv20.f_Key.f_Dst.f_B 1, o8 nv20.f_Key.f_Dst.f_B 2, o8 nv20.f_Key.f_Dst.f_B 3, o8 nv20.f_Key.f_Dst.f_B 4, o8 nv20.f_Key.f_Dst.f_B 5, o8 nv20.f_Key.f_Dst.f_B 6, o8 nv20.f_Key.f_Dst.f_B 7, o8 nv20.f_Key.f_Dst.f_B 8, o8 nv20.f_Key.f_Dst.f_B 9, o8 nv20.f_Key.f_Dst.f_B 10, o8 nv20.f_Key.f_Dst.f_B 11, o8 nv20.f_Key.f_Dst.f_B 12, o8 nv20.f_Key.f_Dst.f_B 13, o8 nv20.f_Key.f_Dst.f_B 14, o8 nv20.f_Key.f_Dst.f_B 15, v8 nv20.f_Key.f_Proto, v16 nv20.f_Key.f_SrcPort, v16 nv20.f_Key.f_DstPort, v64 nv20.f_Total.f_Packets, v64 nv20.f_Total.f_Bytes, .slice A21 (nv20.f_Records).length c22, v32 nv20.f_Epoch, v64 nv20.f_N, v64 nv20.f_First, v64 nv20.f_Next]) hM rfl rfl) rfl fun v w28 hv => ?_
 clear hM
 obtain ⟨g27, rfl, hM, hf⟩ := hv
 refine va rfl rfl ?_
 refine nt hQ26 ?_
 clear hQ26 Q26
 refine KC.seqH fun Q30 hQ30 => ?_
 refine sr fun Q31 hQ31 => ?_
 refine vm rfl rfl ?_
 refine RL.val (O.peqn Try.underlying25 rfl rfl) rfl ?_
 refine nt hQ31 ?_
 clear hQ31 Q31
 refine KC.condF rfl ?_
 refine KC.skip ?_
 refine KQ.thn hQ30 ?_
 clear hQ30 Q30
 refine sr fun Q32 hQ32 => ?_
 refine RL.val (O.bldA (cs := [Value.nilFunc, .func (.func 20) #[] #[], .func (.func 21) #[] #[], .func (.func 22) #[] #[], .func (.func 23) #[] #[], .func (.func 24) #[] #[], .func (.func 25) #[] #[], .func (.func 26) #[] #[]]) Try.underlying67 sz66 ze67 rfl (by kernel_rfl)) rfl ?_
 refine RL.eff (E.alloc hM ze67) rfl fun v w34 hv => ?_
 clear hM
 obtain ⟨g33, rfl, hM, hf⟩ := hv
 refine RL.effs (E.stB (j := 8) (off := 0) (vs := [Value.nilFunc, .func (.func 20) #[] #[], .func (.func 21) #[] #[], .func (.func 22) #[] #[], .func (.func 23) #[] #[], .func (.func 24) #[] #[], .func (.func 25) #[] #[], .func (.func 26) #[] #[]]) (cs' := [Value.nilFunc, .func (.func 20) #[] #[], .func (.func 21) #[] #[], .func (.func 22) #[] #[], .func (.func 23) #[] #[], .func (.func 24) #[] #[], .func (.func 25) #[] #[], .func (.func 26) #[] #[]]) hM rfl sz67 rfl (adds_eq [] rfl) rfl rfl (One.all rfl) rfl rfl) fun w36 hM1 => ?_
 clear hM
 have hM := hM1
 clear hM1
 refine nt hQ32 ?_
 clear hQ32 Q32
 refine KC.seqH fun Q37 hQ37 => ?_
 refine KC.cut (fun a w202 => ∃ (g180 : Nat) (g183 : Nat) (g186 : Nat) (A189 : Option Addr) (c190 : Nat) (css191 : List (List Value)) (Z192 : List Nat) (A196 : Option Addr) (c197 : Nat) (p181 : FM62) (p184 : FM62) (p187 : FM62) (p194 : List T_model_Entry) (p198 : List Int) (p199 : Int) (p200 : Int) (t201 : Bool), Kn 27 [(26, vB t201)] a ∧ Mem w ([some g2] ++ ([some g4] ++ ([some g6] ++ ([some g8] ++ ([rblk A10 c11] ++ (Z14.map some ++ ([rblk A16 c17] ++ ([])))))))) w202 [.res [g180] (MR62 g180 p181), .res [g183] (MR62 g183 p184), .res [g186] (MR62 g186 p187), .row A189 c190 47 6 (p194).length (css191).flatten, .res Z192 (Els RO_model_Entry 6 p194 css191 Z192), .row A196 c197 3 1 (p198).length ((p198).flatMap (eI .i64)), .box g2 tg19 [.map (some g180), .map (some g183), .map (some g186), .slice A189 (p194).length c190, .slice A196 (p198).length c197, v64 p199, v32 p200]] ∧ F_model_Model_Step_j1 p181 p184 p187 p194 p198 p199 p200 t201 = some r) ?_ ?_
 ·replace hM := hM.drewN 1
  refine KC.draw [] [15] [15] [0, 2, 3, 4, 6, 7, 8, 9, 13, 16, 17] (.ofList [0, 1, 2, 3, 4, 5, 6, 7, 8, 9, 10, 11, 12, 13, 14, 15, 16, 17]) moP (by kernel_rfl) ?_
  refine RD.p rfl rfl rfl rfl (fun w' => O.fldA fl41_0 (by decide) rfl) ?_
  refine RD.q rfl rfl rfl rfl (fun w' hf => O.load sc3 rfl (Cs.adds [0] ((hM.bx (i := 7) rfl).fut hf) rfl)) ?_
  refine RD.p rfl rfl rfl rfl (fun w' => O.lss rfl rfl) ?_
  refine RD.p rfl rfl rfl rfl (fun w' => O.move rfl) ?_
  refine RD.bcase (t := 12) rfl (fun hc => ?_) (fun hc => ?_)
  ·rw [if_pos hc] at hF
   refine RD.brun1 [4, 5, 6, 7, 8, 9, 10, 11, 12, 13, 14, 15, 16, 17] 26 true (by kernel_rfl) ?_
   refine RD.nil ?_
   refine KQ.then_k ?_
   replace hM := hM.pick [1, 2, 3, 4, 5, 6, 0] rfl (by decide)
   exact fun a ha => ⟨g4, g6, g8, A10, c11, css13, Z14, A16, c17, m1.f_forwarded, m1.f_cached, m1.f_lost, m1.f_entries, m1.f_line, m1.f_first, m1.f_boot, true, ha.less (less_cons rfl less_nil), hM, hF⟩
  rw [if_neg (ne_true hc)] at hF
  refine RD.gp rfl rfl rfl rfl rfl rfl (fun w' => O.fldA fl41_0 (by decide) rfl) ?_
  refine RD.gq rfl rfl rfl rfl rfl rfl (fun w' hf => O.load sc3 rfl (Cs.adds [0] ((hM.bx (i := 7) rfl).fut hf) rfl)) ?_
  refine RD.gp rfl rfl rfl rfl rfl rfl (fun w' => O.geq rfl rfl) ?_
  refine RD.p rfl rfl rfl rfl (fun w' => O.pickf rfl rfl) ?_
  refine RD.p rfl rfl rfl rfl (fun w' => O.move rfl) ?_
  refine RD.bcase (t := 17) rfl (fun hc => ?_) (fun hc => ?_)
  ·rw [if_pos hc] at hF
   refine RD.brun1 [9, 10, 11, 12, 13, 14, 15, 16, 17] 26 true (by kernel_rfl) ?_
   refine RD.nil ?_
   refine KQ.then_k ?_
   replace hM := hM.pick [1, 2, 3, 4, 5, 6, 0] rfl (by decide)
   exact fun a ha => ⟨g4, g6, g8, A10, c11, css13, Z14, A16, c17, m1.f_forwarded, m1.f_cached, m1.f_lost, m1.f_entries, m1.f_line, m1.f_first, m1.f_boot, true, ha.less (less_cons rfl less_nil), hM, hF⟩
  rw [if_neg (ne_true hc)] at hF
  refine RD.gp rfl rfl rfl rfl rfl rfl (fun w' => O.fldA fl41_0 (by decide) rfl) ?_
  refine RD.gq rfl rfl rfl rfl rfl rfl (fun w' hf => O.load sc3 rfl (Cs.adds [0] ((hM.bx (i := 7) rfl).fut hf) rfl)) ?_
  by_cases hk38 : (nv20.f_Kind == 1) = true
  ·rw [if_pos hk38] at hF
   refine RD.gq rfl rfl rfl rfl rfl rfl (fun w' hf => O.idxF (j := 1) Try.underlying67 sz66 hk38 rfl rfl rfl) ?_
   refine RD.gq rfl rfl rfl rfl rfl rfl (fun w' hf => O.load sc66 rfl (Cs.adds [1] ((hM.bx (i := 8) rfl).fut hf) rfl)) ?_
   refine RD.gp rfl rfl rfl rfl rfl rfl (fun w' => O.move rfl) ?_
   refine RD.gq rfl rfl rfl rfl rfl rfl (fun w' hf => O.loadN (cs := [vI nv20.f_Kind, vB nv20.f_Key.f_Src.f_Six, o8 nv20.f_Key.f_Src.f_B 0, o8 nv20.f_Key.f_Src.f_B 1, o8 nv20.f_Key.f_Src.f_B 2, o8 nv20.f_Key.f_Src.f_B 3, o8 nv20.f_Key.f_Src.f_B 4, o8 nv20.f_Key.f_Src.f_B 5, o8 nv20.f_Key.f_Src.f_B 6, o8 nv20.f_Key.f_Src.f_B 7, o8 nv20.f_Key.f_Src.f_B 8, o8 nv20.f_Key.f_Src.f_B 9, o8 nv20.f_Key.f_Src.f_B 10, o8 nv20.f_Key.f_Src.f_B 11, o8 nv20.f_Key.f_Src.f_B 12, o8 nv20.f_Key.f_Src.f_B 13, o8 nv20.f_Key.f_Src.f_B 14, o8 nv20.f_Key.f_Src.f_B 15, vB nv20.f_Key.f_Dst.f_Six, o8 nv20.f_Key.f_Dst.f_B 0, o8 nv20.f_Key.f_Dst.f_B 1, o8 nv20.f_Key.f_Dst.f_B 2, o8 nv20.f_Key.f_Dst.f_B 3, o8 nv20.f_Key.f_Dst.f_B 4, o8 nv20.f_Key.f_Dst.f_B 5, o8 nv20.f_Key.f_Dst.f_B 6, o8 nv20.f_Key.f_Dst.f_B 7, o8 nv20.f_Key.f_Dst.f_B 8, o8 nv20.f_Key.f_Dst.f_B 9, o8 nv20.f_Key.f_Dst.f_B 10, o8 nv20.f_Key.f_Dst.f_B 11, o8 nv20.f_Key.f_Dst.f_B 12, o8 nv20.f_Key.f_Dst.f_B 13, o8 nv20.f_Key.f_Dst.f_B 14, o8 nv20.f_Key.f_Dst.f_B 15, v8 nv20.f_Key.f_Proto, v16 nv20.f_Key.f_SrcPort, v16 nv20.f_Key.f_DstPort, v64 nv20.f_Total.f_Packets, v64 nv20.f_Total.f_Bytes, .slice A21 (nv20.f_Records).length c22, v32 nv20.f_Epoch, v64 nv20.f_N, v64 nv20.f_First, v64 nv20.f_Next]) ag41 rfl (Cs.addsN [] ((hM.bx (i := 7) rfl).fut hf) rfl)) ?_
   refine obindE hF fun y39 hx40 hF => ?_
   refine RD.mcallv rfl rfl ⟨rfl, rfl⟩ (first := []) (captured := []) rfl Try.func20 bd20 rfl rfl (c_model_Model_forward _ _ _ m1 _ _ _ _ _ _ _ _ _ (hM.lent [0, 1, 2, 3, 4, 5, 6] rfl (by decide)) nv20 _ _ (hM.inp hr23 ho24) (hM.offI [0, 1, 2, 3, 4, 5, 6] rfl hr23 (ho24)) _ hx40) fun v w41 hv => ?_
   obtain ⟨g43, g45, g47, A49, c50, css52, Z53, A55, c56, rfl, hN42⟩ := hv
   refine ⟨fun h => (by cases h), ?_⟩
   replace hM := hM.callL [0, 1, 2, 3, 4, 5, 6] [7, 8] rfl rfl (by decide) rfl hN42
   refine RD.gp rfl rfl rfl rfl rfl rfl (fun w' => O.not rfl) ?_
   refine RD.p rfl rfl rfl rfl (fun w' => O.pickf rfl rfl) ?_
   refine RD.nil ?_
   refine KQ.then_k ?_
   replace hM := hM.pick [3, 4, 5, 6, 7, 8, 2] rfl (by decide)
   exact fun a ha => ⟨g43, g45, g47, A49, c50, css52, Z53, A55, c56, y39.2.f_forwarded, y39.2.f_cached, y39.2.f_lost, y39.2.f_entries, y39.2.f_line, y39.2.f_first, y39.2.f_boot, (!y39.1), ha.less (less_cons rfl less_nil), hM, hF⟩
  rw [if_neg hk38] at hF
  by_cases hk58 : (nv20.f_Kind == 2) = true
  ·rw [if_pos hk58] at hF
   refine RD.gq rfl rfl rfl rfl rfl rfl (fun w' hf => O.idxF (j := 2) Try.underlying67 sz66 hk58 rfl rfl rfl) ?_
   refine RD.gq rfl rfl rfl rfl rfl rfl (fun w' hf => O.load sc66 rfl (Cs.adds [2] ((hM.bx (i := 8) rfl).fut hf) rfl)) ?_
   refine RD.gp rfl rfl rfl rfl rfl rfl (fun w' => O.move rfl) ?_
   refine RD.gq rfl rfl rfl rfl rfl rfl (fun w' hf => O.loadN (cs := [vI nv20.f_Kind, vB nv20.f_Key.f_Src.f_Six, o8 nv20.f_Key.f_Src.f_B 0, o8 nv20.f_Key.f_Src.f_B 1, o8 nv20.f_Key.f_Src.f_B 2, o8 nv20.f_Key.f_Src.f_B 3, o8 nv20.f_Key.f_Src.f_B 4, o8 nv20.f_Key.f_Src.f_B 5, o8 nv20.f_Key.f_Src.f_B 6, o8 nv20.f_Key.f_Src.f_B 7, o8 nv20.f_Key.f_Src.f_B 8, o8 nv20.f_Key.f_Src.f_B 9, o8 nv20.f_Key.f_Src.f_B 10, o8 nv20.f_Key.f_Src.f_B 11, o8 nv20.f_Key.f_Src.f_B 12, o8 nv20.f_Key.f_Src.f_B 13, o8 nv20.f_Key.f_Src.f_B 14, o8 nv20.f_Key.f_Src.f_B 15, vB nv20.f_Key.f_Dst.f_Six, o8 nv20.f_Key.f_Dst.f_B 0, o8 nv20.f_Key.f_Dst.f_B 1, o8 nv20.f_Key.f_Dst.f_B 2, o8 nv20.f_Key.f_Dst.f_B 3, o8 nv20.f_Key.f_Dst.f_B 4, o8 nv20.f_Key.f_Dst.f_B 5, o8 nv20.f_Key.f_Dst.f_B 6, o8 nv20.f_Key.f_Dst.f_B 7, o8 nv20.f_Key.f_Dst.f_B 8, o8 nv20.f_Key.f_Dst.f_B 9, o8 nv20.f_Key.f_Dst.f_B 10, o8 nv20.f_Key.f_Dst.f_B 11, o8 nv20.f_Key.f_Dst.f_B 12, o8 nv20.f_Key.f_Dst.f_B 13, o8 nv20.f_Key.f_Dst.f_B 14, o8 nv20.f_Key.f_Dst.f_B 15, v8 nv20.f_Key.f_Proto, v16 nv20.f_Key.f_SrcPort, v16 nv20.f_Key.f_DstPort, v64 nv20.f_Total.f_Packets, v64 nv20.f_Total.f_Bytes, .slice A21 (nv20.f_Records).length c22, v32 nv20.f_Epoch, v64 nv20.f_N, v64 nv20.f_First, v64 nv20.f_Next]) ag41 rfl (Cs.addsN [] ((hM.bx (i := 7) rfl).fut hf) rfl)) ?_
   refine obindE hF fun y59 hx60 hF => ?_
   refine RD.mcallv rfl rfl ⟨rfl, rfl⟩ (first := []) (captured := []) rfl Try.func21 bd21 rfl rfl (c_model_Model_pack _ _ _ m1 _ _ _ _ _ _ _ _ _ (hM.lent [0, 1, 2, 3, 4, 5, 6] rfl (by decide)) nv20 _ _ (hM.inp hr23 ho24) (hM.offI [0, 1, 2, 3, 4, 5, 6] rfl hr23 (ho24)) _ hx60) fun v w61 hv => ?_
   obtain ⟨g63, g65, g67, A69, c70, css72, Z73, A75, c76, rfl, hN62⟩ := hv
   refine ⟨fun h => (by cases h), ?_⟩
   replace hM := hM.callL [0, 1, 2, 3, 4, 5, 6] [7, 8] rfl rfl (by decide) rfl hN62
   refine RD.gp rfl rfl rfl rfl rfl rfl (fun w' => O.not rfl) ?_
   refine RD.p rfl rfl rfl rfl (fun w' => O.pickf rfl rfl) ?_
   refine RD.nil ?_
   refine KQ.then_k ?_
   replace hM := hM.pick [3, 4, 5, 6, 7, 8, 2] rfl (by decide)
   exact fun a ha => ⟨g63, g65, g67, A69, c70, css72, Z73, A75, c76, y59.2.f_forwarded, y59.2.f_cached, y59.2.f_lost, y59.2.f_entries, y59.2.f_line, y59.2.f_first, y59.2.f_boot, (!y59.1), ha.less (less_cons rfl less_nil), hM, hF⟩
  rw [if_neg hk58] at hF
  by_cases hk78 : (nv20.f_Kind == 3) = true
  ·rw [if_pos hk78] at hF
   refine RD.gq rfl rfl rfl rfl rfl rfl (fun w' hf => O.idxF (j := 3) Try.underlying67 sz66 hk78 rfl rfl rfl) ?_
   refine RD.gq rfl rfl rfl rfl rfl rfl (fun w' hf => O.load sc66 rfl (Cs.adds [3] ((hM.bx (i := 8) rfl).fut hf) rfl)) ?_
   refine RD.gp rfl rfl rfl rfl rfl rfl (fun w' => O.move rfl) ?_
   refine RD.gq rfl rfl rfl rfl rfl rfl (fun w' hf => O.loadN (cs := [vI nv20.f_Kind, vB nv20.f_Key.f_Src.f_Six, o8 nv20.f_Key.f_Src.f_B 0, o8 nv20.f_Key.f_Src.f_B 1, o8 nv20.f_Key.f_Src.f_B 2, o8 nv20.f_Key.f_Src.f_B 3, o8 nv20.f_Key.f_Src.f_B 4, o8 nv20.f_Key.f_Src.f_B 5, o8 nv20.f_Key.f_Src.f_B 6, o8 nv20.f_Key.f_Src.f_B 7, o8 nv20.f_Key.f_Src.f_B 8, o8 nv20.f_Key.f_Src.f_B 9, o8 nv20.f_Key.f_Src.f_B 10, o8 nv20.f_Key.f_Src.f_B 11, o8 nv20.f_Key.f_Src.f_B 12, o8 nv20.f_Key.f_Src.f_B 13, o8 nv20.f_Key.f_Src.f_B 14, o8 nv20.f_Key.f_Src.f_B 15, vB nv20.f_Key.f_Dst.f_Six, o8 nv20.f_Key.f_Dst.f_B 0, o8 nv20.f_Key.f_Dst.f_B 1, o8 nv20.f_Key.f_Dst.f_B 2, o8 nv20.f_Key.f_Dst.f_B 3, o8 nv20.f_Key.f_Dst.f_B 4, o8 nv20.f_Key.f_Dst.f_B 5, o8 nv20.f_Key.f_Dst.f_B 6, o8 nv20.f_Key.f_Dst.f_B 7, o8 nv20.f_Key.f_Dst.f_B 8, o8 nv20.f_Key.f_Dst.f_B 9, o8 nv20.f_Key.f_Dst.f_B 10, o8 nv20.f_Key.f_Dst.f_B 11, o8 nv20.f_Key.f_Dst.f_B 12, o8 nv20.f_Key.f_Dst.f_B 13, o8 nv20.f_Key.f_Dst.f_B 14, o8 nv20.f_Key.f_Dst.f_B 15, v8 nv20.f_Key.f_Proto, v16 nv20.f_Key.f_SrcPort, v16 nv20.f_Key.f_DstPort, v64 nv20.f_Total.f_Packets, v64 nv20.f_Total.f_Bytes, .slice A21 (nv20.f_Records).length c22, v32 nv20.f_Epoch, v64 nv20.f_N, v64 nv20.f_First, v64 nv20.f_Next]) ag41 rfl (Cs.addsN [] ((hM.bx (i := 7) rfl).fut hf) rfl)) ?_
   refine obindE hF fun y79 hx80 hF => ?_
   refine RD.mcallv rfl rfl ⟨rfl, rfl⟩ (first := []) (captured := []) rfl Try.func22 bd22 rfl rfl (c_model_Model_refuse _ _ _ m1 _ _ _ _ _ _ _ _ _ (hM.lent [0, 1, 2, 3, 4, 5, 6] rfl (by decide)) nv20 _ _ (hM.inp hr23 ho24) (hM.offI [0, 1, 2, 3, 4, 5, 6] rfl hr23 (ho24)) _ hx80) fun v w81 hv => ?_
   obtain ⟨g83, g85, g87, A89, c90, css92, Z93, A95, c96, rfl, hN82⟩ := hv
   refine ⟨fun h => (by cases h), ?_⟩
   replace hM := hM.callL [0, 1, 2, 3, 4, 5, 6] [7, 8] rfl rfl (by decide) rfl hN82
   refine RD.gp rfl rfl rfl rfl rfl rfl (fun w' => O.not rfl) ?_
   refine RD.p rfl rfl rfl rfl (fun w' => O.pickf rfl rfl) ?_
   refine RD.nil ?_
   refine KQ.then_k ?_
   replace hM := hM.pick [3, 4, 5, 6, 7, 8, 2] rfl (by decide)
   exact fun a ha => ⟨g83, g85, g87, A89, c90, css92, Z93, A95, c96, y79.2.f_forwarded, y79.2.f_cached, y79.2.f_lost, y79.2.f_entries, y79.2.f_line, y79.2.f_first, y79.2.f_boot, (!y79.1), ha.less (less_cons rfl less_nil), hM, hF⟩
  rw [if_neg hk78] at hF
  by_cases hk98 : (nv20.f_Kind == 4) = true
  ·rw [if_pos hk98] at hF
   refine RD.gq rfl rfl rfl rfl rfl rfl (fun w' hf => O.idxF (j := 4) Try.underlying67 sz66 hk98 rfl rfl rfl) ?_
   refine RD.gq rfl rfl rfl rfl rfl rfl (fun w' hf => O.load sc66 rfl (Cs.adds [4] ((hM.bx (i := 8) rfl).fut hf) rfl)) ?_
   refine RD.gp rfl rfl rfl rfl rfl rfl (fun w' => O.move rfl) ?_
   refine RD.gq rfl rfl rfl rfl rfl rfl (fun w' hf => O.loadN (cs := [vI nv20.f_Kind, vB nv20.f_Key.f_Src.f_Six, o8 nv20.f_Key.f_Src.f_B 0, o8 nv20.f_Key.f_Src.f_B 1, o8 nv20.f_Key.f_Src.f_B 2, o8 nv20.f_Key.f_Src.f_B 3, o8 nv20.f_Key.f_Src.f_B 4, o8 nv20.f_Key.f_Src.f_B 5, o8 nv20.f_Key.f_Src.f_B 6, o8 nv20.f_Key.f_Src.f_B 7, o8 nv20.f_Key.f_Src.f_B 8, o8 nv20.f_Key.f_Src.f_B 9, o8 nv20.f_Key.f_Src.f_B 10, o8 nv20.f_Key.f_Src.f_B 11, o8 nv20.f_Key.f_Src.f_B 12, o8 nv20.f_Key.f_Src.f_B 13, o8 nv20.f_Key.f_Src.f_B 14, o8 nv20.f_Key.f_Src.f_B 15, vB nv20.f_Key.f_Dst.f_Six, o8 nv20.f_Key.f_Dst.f_B 0, o8 nv20.f_Key.f_Dst.f_B 1, o8 nv20.f_Key.f_Dst.f_B 2, o8 nv20.f_Key.f_Dst.f_B 3, o8 nv20.f_Key.f_Dst.f_B 4, o8 nv20.f_Key.f_Dst.f_B 5, o8 nv20.f_Key.f_Dst.f_B 6, o8 nv20.f_Key.f_Dst.f_B 7, o8 nv20.f_Key.f_Dst.f_B 8, o8 nv20.f_Key.f_Dst.f_B 9, o8 nv20.f_Key.f_Dst.f_B 10, o8 nv20.f_Key.f_Dst.f_B 11, o8 nv20.f_Key.f_Dst.f_B 12, o8 nv20.f_Key.f_Dst.f_B 13, o8 nv20.f_Key.f_Dst.f_B 14, o8 nv20.f_Key.f_Dst.f_B 15, v8 nv20.f_Key.f_Proto, v16 nv20.f_Key.f_SrcPort, v16 nv20.f_Key.f_DstPort, v64 nv20.f_Total.f_Packets, v64 nv20.f_Total.f_Bytes, .slice A21 (nv20.f_Records).length c22, v32 nv20.f_Epoch, v64 nv20.f_N, v64 nv20.f_First, v64 nv20.f_Next]) ag41 rfl (Cs.addsN [] ((hM.bx (i := 7) rfl).fut hf) rfl)) ?_
   refine obindE hF fun y99 hx100 hF => ?_
   refine RD.mcallv rfl rfl ⟨rfl, rfl⟩ (first := []) (captured := []) rfl Try.func23 bd23 rfl rfl (c_model_Model_sync _ _ _ m1 _ _ _ _ _ _ _ _ _ (hM.lent [0, 1, 2, 3, 4, 5, 6] rfl (by decide)) nv20 _ _ (hM.inp hr23 ho24) (hM.offI [0, 1, 2, 3, 4, 5, 6] rfl hr23 (ho24)) _ hx100) fun v w101 hv => ?_
   obtain ⟨g103, g105, g107, A109, c110, css112, Z113, A115, c116, rfl, hN102⟩ := hv
   refine ⟨fun h => (by cases h), ?_⟩
   replace hM := hM.callL [0, 1, 2, 3, 4, 5, 6] [7, 8] rfl rfl (by decide) rfl hN102
   refine RD.gp rfl rfl rfl rfl rfl rfl (fun w' => O.not rfl) ?_
   refine RD.p rfl rfl rfl rfl (fun w' => O.pickf rfl rfl) ?_
   refine RD.nil ?_
   refine KQ.then_k ?_
   replace hM := hM.pick [3, 4, 5, 6, 7, 8, 2] rfl (by decide)
   exact fun a ha => ⟨g103, g105, g107, A109, c110, css112, Z113, A115, c116, y99.2.f_forwarded, y99.2.f_cached, y99.2.f_lost, y99.2.f_entries, y99.2.f_line, y99.2.f_first, y99.2.f_boot, (!y99.1), ha.less (less_cons rfl less_nil), hM, hF⟩
  rw [if_neg hk98] at hF
  by_cases hk118 : (nv20.f_Kind == 5) = true
  ·rw [if_pos hk118] at hF
   refine RD.gq rfl rfl rfl rfl rfl rfl (fun w' hf => O.idxF (j := 5) Try.underlying67 sz66 hk118 rfl rfl rfl) ?_
   refine RD.gq rfl rfl rfl rfl rfl rfl (fun w' hf => O.load sc66 rfl (Cs.adds [5] ((hM.bx (i := 8) rfl).fut hf) rfl)) ?_
   refine RD.gp rfl rfl rfl rfl rfl rfl (fun w' => O.move rfl) ?_
   refine RD.gq rfl rfl rfl rfl rfl rfl (fun w' hf => O.loadN (cs := [vI nv20.f_Kind, vB nv20.f_Key.f_Src.f_Six, o8 nv20.f_Key.f_Src.f_B 0, o8 nv20.f_Key.f_Src.f_B 1, o8 nv20.f_Key.f_Src.f_B 2, o8 nv20.f_Key.f_Src.f_B 3, o8 nv20.f_Key.f_Src.f_B 4, o8 nv20.f_Key.f_Src.f_B 5, o8 nv20.f_Key.f_Src.f_B 6, o8 nv20.f_Key.f_Src.f_B 7, o8 nv20.f_Key.f_Src.f_B 8, o8 nv20.f_Key.f_Src.f_B 9, o8 nv20.f_Key.f_Src.f_B 10, o8 nv20.f_Key.f_Src.f_B 11, o8 nv20.f_Key.f_Src.f_B 12, o8 nv20.f_Key.f_Src.f_B 13, o8 nv20.f_Key.f_Src.f_B 14, o8 nv20.f_Key.f_Src.f_B 15, vB nv20.f_Key.f_Dst.f_Six, o8 nv20.f_Key.f_Dst.f_B 0, o8 nv20.f_Key.f_Dst.f_B 1, o8 nv20.f_Key.f_Dst.f_B 2, o8 nv20.f_Key.f_Dst.f_B 3, o8 nv20.f_Key.f_Dst.f_B 4, o8 nv20.f_Key.f_Dst.f_B 5, o8 nv20.f_Key.f_Dst.f_B 6, o8 nv20.f_Key.f_Dst.f_B 7, o8 nv20.f_Key.f_Dst.f_B 8, o8 nv20.f_Key.f_Dst.f_B 9, o8 nv20.f_Key.f_Dst.f_B 10, o8 nv20.f_Key.f_Dst.f_B 11, o8 nv20.f_Key.f_Dst.f_B 12, o8 nv20.f_Key.f_Dst.f_B 13, o8 nv20.f_Key.f_Dst.f_B 14, o8 nv20.f_Key.f_Dst.f_B 15, v8 nv20.f_Key.f_Proto, v16 nv20.f_Key.f_SrcPort, v16 nv20.f_Key.f_DstPort, v64 nv20.f_Total.f_Packets, v64 nv20.f_Total.f_Bytes, .slice A21 (nv20.f_Records).length c22, v32 nv20.f_Epoch, v64 nv20.f_N, v64 nv20.f_First, v64 nv20.f_Next]) ag41 rfl (Cs.addsN [] ((hM.bx (i := 7) rfl).fut hf) rfl)) ?_
   refine obindE hF fun y119 hx120 hF => ?_
   refine RD.mcallv rfl rfl ⟨rfl, rfl⟩ (first := []) (captured := []) rfl Try.func24 bd24 rfl rfl (c_model_Model_truncate _ _ _ m1 _ _ _ _ _ _ _ _ _ (hM.lent [0, 1, 2, 3, 4, 5, 6] rfl (by decide)) nv20 _ _ (hM.inp hr23 ho24) (hM.offI [0, 1, 2, 3, 4, 5, 6] rfl hr23 (ho24)) _ hx120) fun v w121 hv => ?_
   obtain ⟨g123, g125, g127, A129, c130, css132, Z133, A135, c136, rfl, hN122⟩ := hv
   refine ⟨fun h => (by cases h), ?_⟩
   replace hM := hM.callL [0, 1, 2, 3, 4, 5, 6] [7, 8] rfl rfl (by decide) rfl hN122
   refine RD.gp rfl rfl rfl rfl rfl rfl (fun w' => O.not rfl) ?_
   refine RD.p rfl rfl rfl rfl (fun w' => O.pickf rfl rfl) ?_
   refine RD.nil ?_
   refine KQ.then_k ?_
   replace hM := hM.pick [3, 4, 5, 6, 7, 8, 2] rfl (by decide)
   exact fun a ha => ⟨g123, g125, g127, A129, c130, css132, Z133, A135, c136, y119.2.f_forwarded, y119.2.f_cached, y119.2.f_lost, y119.2.f_entries, y119.2.f_line, y119.2.f_first, y119.2.f_boot, (!y119.1), ha.less (less_cons rfl less_nil), hM, hF⟩
  rw [if_neg hk118] at hF
  by_cases hk138 : (nv20.f_Kind == 6) = true
  ·rw [if_pos hk138] at hF
   refine RD.gq rfl rfl rfl rfl rfl rfl (fun w' hf => O.idxF (j := 6) Try.underlying67 sz66 hk138 rfl rfl rfl) ?_
   refine RD.gq rfl rfl rfl rfl rfl rfl (fun w' hf => O.load sc66 rfl (Cs.adds [6] ((hM.bx (i := 8) rfl).fut hf) rfl)) ?_
   refine RD.gp rfl rfl rfl rfl rfl rfl (fun w' => O.move rfl) ?_
   refine RD.gq rfl rfl rfl rfl rfl rfl (fun w' hf => O.loadN (cs := [vI nv20.f_Kind, vB nv20.f_Key.f_Src.f_Six, o8 nv20.f_Key.f_Src.f_B 0, o8 nv20.f_Key.f_Src.f_B 1, o8 nv20.f_Key.f_Src.f_B 2, o8 nv20.f_Key.f_Src.f_B 3, o8 nv20.f_Key.f_Src.f_B 4, o8 nv20.f_Key.f_Src.f_B 5, o8 nv20.f_Key.f_Src.f_B 6, o8 nv20.f_Key.f_Src.f_B 7, o8 nv20.f_Key.f_Src.f_B 8, o8 nv20.f_Key.f_Src.f_B 9, o8 nv20.f_Key.f_Src.f_B 10, o8 nv20.f_Key.f_Src.f_B 11, o8 nv20.f_Key.f_Src.f_B 12, o8 nv20.f_Key.f_Src.f_B 13, o8 nv20.f_Key.f_Src.f_B 14, o8 nv20.f_Key.f_Src.f_B 15, vB nv20.f_Key.f_Dst.f_Six, o8 nv20.f_Key.f_Dst.f_B 0, o8 nv20.f_Key.f_Dst.f_B 1, o8 nv20.f_Key.f_Dst.f_B 2, o8 nv20.f_Key.f_Dst.f_B 3, o8 nv20.f_Key.f_Dst.f_B 4, o8 nv20.f_Key.f_Dst.f_B 5, o8 nv20.f_Key.f_Dst.f_B 6, o8 nv20.f_Key.f_Dst.f_B 7, o8 nv20.f_Key.f_Dst.f_B 8, o8 nv20.f_Key.f_Dst.f_B 9, o8 nv20.f_Key.f_Dst.f_B 10, o8 nv20.f_Key.f_Dst.f_B 11, o8 nv20.f_Key.f_Dst.f_B 12, o8 nv20.f_Key.f_Dst.f_B 13, o8 nv20.f_Key.f_Dst.f_B 14, o8 nv20.f_Key.f_Dst.f_B 15, v8 nv20.f_Key.f_Proto, v16 nv20.f_Key.f_SrcPort, v16 nv20.f_Key.f_DstPort, v64 nv20.f_Total.f_Packets, v64 nv20.f_Total.f_Bytes, .slice A21 (nv20.f_Records).length c22, v32 nv20.f_Epoch, v64 nv20.f_N, v64 nv20.f_First, v64 nv20.f_Next]) ag41 rfl (Cs.addsN [] ((hM.bx (i := 7) rfl).fut hf) rfl)) ?_
   refine obindE hF fun y139 hx140 hF => ?_
   refine RD.mcallv rfl rfl ⟨rfl, rfl⟩ (first := []) (captured := []) rfl Try.func25 bd25 rfl rfl (c_model_Model_credit _ _ _ m1 _ _ _ _ _ _ _ _ _ (hM.lent [0, 1, 2, 3, 4, 5, 6] rfl (by decide)) nv20 _ _ (hM.inp hr23 ho24) (hM.offI [0, 1, 2, 3, 4, 5, 6] rfl hr23 (ho24)) _ hx140) fun v w141 hv => ?_
   obtain ⟨g143, g145, g147, A149, c150, css152, Z153, A155, c156, rfl, hN142⟩ := hv
   refine ⟨fun h => (by cases h), ?_⟩
   replace hM := hM.callL [0, 1, 2, 3, 4, 5, 6] [7, 8] rfl rfl (by decide) rfl hN142
   refine RD.gp rfl rfl rfl rfl rfl rfl (fun w' => O.not rfl) ?_
   refine RD.p rfl rfl rfl rfl (fun w' => O.pickf rfl rfl) ?_
   refine RD.nil ?_
   refine KQ.then_k ?_
   replace hM := hM.pick [3, 4, 5, 6, 7, 8, 2] rfl (by decide)
   exact fun a ha => ⟨g143, g145, g147, A149, c150, css152, Z153, A155, c156, y139.2.f_forwarded, y139.2.f_cached, y139.2.f_lost, y139.2.f_entries, y139.2.f_line, y139.2.f_first, y139.2.f_boot, (!y139.1), ha.less (less_cons rfl less_nil), hM, hF⟩
  rw [if_neg hk138] at hF
  by_cases hk158 : (nv20.f_Kind == 7) = true
  ·rw [if_pos hk158] at hF
   refine RD.gq rfl rfl rfl rfl rfl rfl (fun w' hf => O.idxF (j := 7) Try.underlying67 sz66 hk158 rfl rfl rfl) ?_
   refine RD.gq rfl rfl rfl rfl rfl rfl (fun w' hf => O.load sc66 rfl (Cs.adds [7] ((hM.bx (i := 8) rfl).fut hf) rfl)) ?_
   refine RD.gp rfl rfl rfl rfl rfl rfl (fun w' => O.move rfl) ?_
   refine RD.gq rfl rfl rfl rfl rfl rfl (fun w' hf => O.loadN (cs := [vI nv20.f_Kind, vB nv20.f_Key.f_Src.f_Six, o8 nv20.f_Key.f_Src.f_B 0, o8 nv20.f_Key.f_Src.f_B 1, o8 nv20.f_Key.f_Src.f_B 2, o8 nv20.f_Key.f_Src.f_B 3, o8 nv20.f_Key.f_Src.f_B 4, o8 nv20.f_Key.f_Src.f_B 5, o8 nv20.f_Key.f_Src.f_B 6, o8 nv20.f_Key.f_Src.f_B 7, o8 nv20.f_Key.f_Src.f_B 8, o8 nv20.f_Key.f_Src.f_B 9, o8 nv20.f_Key.f_Src.f_B 10, o8 nv20.f_Key.f_Src.f_B 11, o8 nv20.f_Key.f_Src.f_B 12, o8 nv20.f_Key.f_Src.f_B 13, o8 nv20.f_Key.f_Src.f_B 14, o8 nv20.f_Key.f_Src.f_B 15, vB nv20.f_Key.f_Dst.f_Six, o8 nv20.f_Key.f_Dst.f_B 0, o8 nv20.f_Key.f_Dst.f_B 1, o8 nv20.f_Key.f_Dst.f_B 2, o8 nv20.f_Key.f_Dst.f_B 3, o8 nv20.f_Key.f_Dst.f_B 4, o8 nv20.f_Key.f_Dst.f_B 5, o8 nv20.f_Key.f_Dst.f_B 6, o8 nv20.f_Key.f_Dst.f_B 7, o8 nv20.f_Key.f_Dst.f_B 8, o8 nv20.f_Key.f_Dst.f_B 9, o8 nv20.f_Key.f_Dst.f_B 10, o8 nv20.f_Key.f_Dst.f_B 11, o8 nv20.f_Key.f_Dst.f_B 12, o8 nv20.f_Key.f_Dst.f_B 13, o8 nv20.f_Key.f_Dst.f_B 14, o8 nv20.f_Key.f_Dst.f_B 15, v8 nv20.f_Key.f_Proto, v16 nv20.f_Key.f_SrcPort, v16 nv20.f_Key.f_DstPort, v64 nv20.f_Total.f_Packets, v64 nv20.f_Total.f_Bytes, .slice A21 (nv20.f_Records).length c22, v32 nv20.f_Epoch, v64 nv20.f_N, v64 nv20.f_First, v64 nv20.f_Next]) ag41 rfl (Cs.addsN [] ((hM.bx (i := 7) rfl).fut hf) rfl)) ?_
   refine obindE hF fun y159 hx160 hF => ?_
   refine RD.mcallv rfl rfl ⟨rfl, rfl⟩ (first := []) (captured := []) rfl Try.func26 bd26 rfl rfl (c_model_Model_crash _ _ _ m1 _ _ _ _ _ _ _ _ _ (hM.lent [0, 1, 2, 3, 4, 5, 6] rfl (by decide)) nv20 _ _ (hM.inp hr23 ho24) (hM.offI [0, 1, 2, 3, 4, 5, 6] rfl hr23 (ho24)) _ hx160) fun v w161 hv => ?_
   obtain ⟨g163, g165, g167, A169, c170, css172, Z173, A175, c176, rfl, hN162⟩ := hv
   refine ⟨fun h => (by cases h), ?_⟩
   replace hM := hM.callL [0, 1, 2, 3, 4, 5, 6] [7, 8] rfl rfl (by decide) rfl hN162
   refine RD.gp rfl rfl rfl rfl rfl rfl (fun w' => O.not rfl) ?_
   refine RD.p rfl rfl rfl rfl (fun w' => O.pickf rfl rfl) ?_
   refine RD.nil ?_
   refine KQ.then_k ?_
   replace hM := hM.pick [3, 4, 5, 6, 7, 8, 2] rfl (by decide)
   exact fun a ha => ⟨g163, g165, g167, A169, c170, css172, Z173, A175, c176, y159.2.f_forwarded, y159.2.f_cached, y159.2.f_lost, y159.2.f_entries, y159.2.f_line, y159.2.f_first, y159.2.f_boot, (!y159.1), ha.less (less_cons rfl less_nil), hM, hF⟩
  rw [if_neg hk158] at hF
  exact (none_some hF).elim
 rintro a w202 ⟨g180, g183, g186, A189, c190, css191, Z192, A196, c197, p181, p184, p187, p194, p198, p199, p200, t201, ha, hM, hF⟩
 refine KC.app ha ?_
 clear ha
 unfold F_model_Model_Step_j1 at hF
 refine KC.cond rfl (fun hc => ?_) (fun hc => ?_)
 ·rw [if_pos hc] at hF
  refine sr fun Q203 hQ203 => ?_
  refine va rfl rfl ?_
  refine nt hQ203 ?_
  clear hQ203 Q203
  refine KC.ret ?_
  refine KQ.thr hQ37 ?_
  clear hQ37 Q37
  have hE := Option.some.inj hF
  clear hF
  subst hE
  replace hM := hM.pick [6, 0, 1, 2, 3, 4, 5] rfl (by decide)
  refine KQ.rets Try.results8 (RVs.cons (RV.tm rfl) RVs.nil) ?_
  exact ⟨_, rfl, g180, g183, g186, A189, c190, css191, Z192, A196, c197, rfl, hM⟩
 rw [if_neg (ne_true hc)] at hF
 refine KC.skip ?_
 refine KQ.thn hQ37 ?_
 clear hQ37 Q37
 refine sr fun Q204 hQ204 => ?_
 refine va rfl rfl ?_
 refine nt hQ204 ?_
 clear hQ204 Q204
 refine KC.ret ?_
 have hE := Option.some.inj hF
 clear hF
 subst hE
 replace hM := hM.pick [6, 0, 1, 2, 3, 4, 5] rfl (by decide)
 refine KQ.rets Try.results8 (RVs.cons (RV.tm rfl) RVs.nil) ?_
 exact ⟨_, rfl, g180, g183, g186, A189, c190, css191, Z192, A196, c197, rfl, hM⟩
end Go.Proofs.Ytidbgejnkpoeeaa
