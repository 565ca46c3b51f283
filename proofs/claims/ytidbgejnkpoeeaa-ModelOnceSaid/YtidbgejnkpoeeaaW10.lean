/- Printed by a program of this claim: each call returns what the plain function of its name gives. -/
import Derived.Test.YtidbgejnkpoeeaaW1
set_option linter.unusedVariables false
namespace Go.Proofs.Ytidbgejnkpoeeaa
open Go Go.Ox Go.RowKit
set_option maxRecDepth 100000 in
set_option maxHeartbeats 40000000 in
theorem c_model_Model_credit (w : World) (g2 : Nat) (tg19 : TypeId) (m1 : T_model_Model) (g4 : Nat) (g6 : Nat) (g8 : Nat) (A10 : Option Addr) (c11 : Nat) (css13 : List (List Value)) (Z14 : List Nat) (A16 : Option Addr) (c17 : Nat) (hL25 : Lent w [.box g2 tg19 [.map (some g4), .map (some g6), .map (some g8), .slice A10 (m1.f_entries).length c11, .slice A16 (m1.f_line).length c17, v64 m1.f_first, v32 m1.f_boot], .res [g4] (MR62 g4 m1.f_forwarded), .res [g6] (MR62 g6 m1.f_cached), .res [g8] (MR62 g8 m1.f_lost), .row A10 c11 47 6 (m1.f_entries).length (css13).flatten, .res Z14 (Els RO_model_Entry 6 m1.f_entries css13 Z14), .row A16 c17 3 1 (m1.f_line).length ((m1.f_line).flatMap (eI .i64))]) (nv20 : T_model_Note) (A21 : Option Addr) (c22 : Nat) (hr23 : Rd w A21 c22 44 nv20.f_Records.length (nv20.f_Records.flatMap e_flow_Record)) (ho24 : Off ([some g2] ++ ([some g4] ++ ([some g6] ++ ([some g8] ++ ([rblk A10 c11] ++ (Z14.map some ++ ([rblk A16 c17] ++ ([])))))))) nv20.f_Records.length A21) (r : Bool × T_model_Model) (hF : F_model_Model_credit m1 nv20 = some r) :
  CallsR Try.prog 25 [.pointer (some ⟨g2, 0, none⟩), .agg #[vI nv20.f_Kind, vB nv20.f_Key.f_Src.f_Six, o8 nv20.f_Key.f_Src.f_B 0, o8 nv20.f_Key.f_Src.f_B 1, o8 nv20.f_Key.f_Src.f_B 2, o8 nv20.f_Key.f_Src.f_B 3, o8 nv20.f_Key.f_Src.f_B 4, o8 nv20.f_Key.f_Src.f_B 5, o8 nv20.f_Key.f_Src.f_B 6, o8 nv20.f_Key.f_Src.f_B 7, o8 nv20.f_Key.f_Src.f_B 8, o8 nv20.f_Key.f_Src.f_B 9, o8 nv20.f_Key.f_Src.f_B 10, o8 nv20.f_Key.f_Src.f_B 11, o8 nv20.f_Key.f_Src.f_B 12, o8 nv20.f_Key.f_Src.f_B 13, o8 nv20.f_Key.f_Src.f_B 14, o8 nv20.f_Key.f_Src.f_B 15, vB nv20.f_Key.f_Dst.f_Six, o8 nv20.f_Key.f_Dst.f_B 0, o8 nv20.f_Key.f_Dst.f_B 1, o8 nv20.f_Key.f_Dst.f_B 2, o8 nv20.f_Key.f_Dst.f_B 3, o8 nv20.f_Key.f_Dst.f_B 4, o8 nv20.f_Key.f_Dst.f_B 5, o8 nv20.f_Key.f_Dst.f_B 6, o8 nv20.f_Key.f_Dst.f_B 7, o8 nv20.f_Key.f_Dst.f_B 8, o8 nv20.f_Key.f_Dst.f_B 9, o8 nv20.f_Key.f_Dst.f_B 10, o8 nv20.f_Key.f_Dst.f_B 11, o8 nv20.f_Key.f_Dst.f_B 12, o8 nv20.f_Key.f_Dst.f_B 13, o8 nv20.f_Key.f_Dst.f_B 14, o8 nv20.f_Key.f_Dst.f_B 15, v8 nv20.f_Key.f_Proto, v16 nv20.f_Key.f_SrcPort, v16 nv20.f_Key.f_DstPort, v64 nv20.f_Total.f_Packets, v64 nv20.f_Total.f_Bytes, .slice A21 (nv20.f_Records).length c22, v32 nv20.f_Epoch, v64 nv20.f_N, v64 nv20.f_First, v64 nv20.f_Next]] w (fun v w' => ∃ (gr0 : Nat) (gr1 : Nat) (gr2 : Nat) (Ar3 : Option Addr) (cr3 : Nat) (cssr4 : List (List Value)) (Zr4 : List Nat) (Ar4 : Option Addr) (cr4 : Nat), v = vB r.1 ∧ Mem w ([some g2] ++ ([some g4] ++ ([some g6] ++ ([some g8] ++ ([rblk A10 c11] ++ (Z14.map some ++ ([rblk A16 c17] ++ ([])))))))) w' [.box g2 tg19 [.map (some gr0), .map (some gr1), .map (some gr2), .slice Ar3 (r.2.f_entries).length cr3, .slice Ar4 (r.2.f_line).length cr4, v64 r.2.f_first, v32 r.2.f_boot], .res [gr0] (MR62 gr0 r.2.f_forwarded), .res [gr1] (MR62 gr1 r.2.f_cached), .res [gr2] (MR62 gr2 r.2.f_lost), .row Ar3 cr3 47 6 r.2.f_entries.length cssr4.flatten, .res Zr4 (Els RO_model_Entry 6 r.2.f_entries cssr4 Zr4), .row Ar4 cr4 3 1 r.2.f_line.length (r.2.f_line.flatMap (eI .i64))]) := by
 refine calls_KCM Try.func25 rfl Try.ntmps25 rfl ?_
 have hM : Mem w ([some g2] ++ ([some g4] ++ ([some g6] ++ ([some g8] ++ ([rblk A10 c11] ++ (Z14.map some ++ ([rblk A16 c17] ++ ([])))))))) w [.box g2 tg19 [.map (some g4), .map (some g6), .map (some g8), .slice A10 (m1.f_entries).length c11, .slice A16 (m1.f_line).length c17, v64 m1.f_first, v32 m1.f_boot], .res [g4] (MR62 g4 m1.f_forwarded), .res [g6] (MR62 g6 m1.f_cached), .res [g8] (MR62 g8 m1.f_lost), .row A10 c11 47 6 (m1.f_entries).length (css13).flatten, .res Z14 (Els RO_model_Entry 6 m1.f_entries css13 Z14), .row A16 c17 3 1 (m1.f_line).length ((m1.f_line).flatMap (eI .i64))] := Mem.lendN hL25
 unfold F_model_Model_credit at hF
 refine sr fun Q26 hQ26 => ?_
 refine RL.eff (E.box (vs := [.pointer (some ⟨g2, 0, none⟩)]) hM rfl rfl) rfl fun v w28 hv => ?_
 clear hM
 obtain ⟨g27, rfl, hM, hf⟩ := hv
 refine RL.eff (E.box (vs := [vI nv20.f_Kind, vB nv20.f_Key.f_Src.f_Six, o8 nv20.f_Key.f_Src.f_B 0, o8 nv20.f_Key.f_Src.f_B 1, o8 nv20.f_Key.f_Src.f_B 2, o8 nv20.f_Key.f_Src.f_B 3, o8 nv20.f_Key.f_Src.f_B 4, o8 nv20.f_Key.f_Src.f_B 5, o8 nv20.f_Key.f_Src.f_B 6, o8 nv20.f_Key.f_Src.f_B 7, o8 nv20.f_Key.f_Src.f_B 8, o8 nv20.f_Key.f_Src.f_B 9, o8 nv20.f_Key.f_Src.f_B 10, o8 nv20.f_Key.f_Src.f_B 11, o8 nv20.f_Key.f_Src.f_B 12, o8 nv20.f_Key.f_Src.f_B 13, o8 nv20.f_Key.f_Src.f_B 14, o8 nv20.f_Key.f_Src.f_B 15, vB nv20.f_Key.f_Dst.f_Six, o8 nv20.f_Key.f_Dst.f_B 0, o8 nv20.f_Key.f_Dst.f_B 1, o8 nv20.f_Key.f_Dst.f_B 2, o8 nv20.f_Key.f_Dst.f_B 3, o8 nv20.f_Key.f_Dst.f_B 4, o8 nv20.f_Key.f_Dst.f_B 5, o8 nv20.f_Key.f_Dst.f_B 6, o8 nv20.f_Key.f_Dst.f_B 7, o8 nv20.f_Key.f_Dst.f_B 8, o8 nv20.f_Key.f_Dst.f_B 9, o8 nv20.f_Key.f_Dst.f_B 10, o8 nv20.f_Key.f_Dst.f_B 11, o8 nv20.f_Key.f_Dst.f_B 12, o8 nv20.f_Key.f_Dst.f_B 13, o8 nv20.f_Key.f_Dst.f_B 14, o8 nv20.f_Key.f_Dst.f_B 15, v8 nv20.f_Key.f_Proto, v16 nv20.f_Key.f_SrcPort, v16 nv20.f_Key.f_DstPort, v64 nv20.f_Total.f_Packets, v64 nv20.f_Total.f_Bytes, .slice A21 (nv20.f_Records).length c22, v32 nv20.f_Epoch, v64 nv20.f_N, v64 nv20.f_First, v64 nv20.f_Next]) hM rfl rfl) rfl fun v w31 hv => ?_
 clear hM
 obtain ⟨g30, rfl, hM, hf⟩ := hv
 refine RL.eff (E.alloc hM ze4) rfl fun v w34 hv => ?_
 clear hM
 obtain ⟨g33, rfl, hM, hf⟩ := hv
 refine nt hQ26 ?_
 clear hQ26 Q26
 refine KC.seqH fun Q36 hQ36 => ?_
 refine sr fun Q37 hQ37 => ?_
 refine RL.val (O.load sc25 rfl (Cs.adds [] ((hM.bx (i := 7) rfl)) rfl)) rfl ?_
 refine RL.val (O.nilp rfl) rfl ?_
 refine RL.val (O.fldA fl65_3 (by decide) rfl) rfl ?_
 refine RL.val (O.load sc42 rfl (Cs.adds [3] ((hM.bx (i := 0) rfl)) rfl)) rfl ?_
 refine RL.icall Try.func41 bd41 rfl rfl rfl Try.ntmps41 rfl ?_
 refine sr fun Q38 hQ38 => ?_
 refine RL.eff (E.box (vs := [.slice A10 (m1.f_entries).length c11]) hM rfl rfl) rfl fun v w40 hv => ?_
 clear hM
 obtain ⟨g39, rfl, hM, hf⟩ := hv
 refine va rfl rfl ?_
 refine nt hQ38 ?_
 clear hQ38 Q38
 refine sr fun Q42 hQ42 => ?_
 refine RL.val (O.mkf rfl rfl) rfl ?_
 refine va rfl rfl ?_
 refine nt hQ42 ?_
 clear hQ42 Q42
 refine KC.ret ?_
 refine KQ.rets Try.results41 (RVs.cons (RV.tm rfl) RVs.nil) ?_
 refine ⟨.func (.func 60) #[] #[.pointer (some ⟨g39, 0, none⟩)], rfl, ?_⟩
 refine nt hQ37 ?_
 clear hQ37 Q37
 refine KC.block ?_
 refine KC.range (lb := [.pointer (some ⟨g39, 0, none⟩)]) hM rfl Try.func60 bd60 rfl Try.ntmps60 rfl fun a43 rc45 l47 D48 w49 ha44 hrc46 hM1 hf50 => ?_
 clear hM
 have hM := hM1
 clear hM1
 refine sr fun Q53 hQ53 => ?_
 refine RL.val (O.load sc42 rfl (Cs.adds [] ((hM.bx (i := 10) rfl)) rfl)) rfl ?_
 refine RL.val (O.len sl42 rfl) rfl ?_
 refine RL.val (O.sub rfl rfl) rfl ?_
 refine va rfl rfl ?_
 refine nt hQ53 ?_
 clear hQ53 Q53
 refine KC.block ?_
 refine KC.loop (fun k206 a w204 => ∃ (nv200 : Int), Kn 19 [(0, .func (.yield l47) #[] #[]), (1, .pointer (some ⟨g39, 0, none⟩)), (3, vI nv200)] a ∧ Mem w ([some g2] ++ ([some g4] ++ ([some g6] ++ ([some g8] ++ ([rblk A10 c11] ++ (Z14.map some ++ ([rblk A16 c17] ++ ([])))))))) w204 [.res [g4] (MR62 g4 m1.f_forwarded), .res [g6] (MR62 g6 m1.f_cached), .res [g8] (MR62 g8 m1.f_lost), .row A10 c11 47 6 (m1.f_entries).length (css13).flatten, .res Z14 (Els RO_model_Entry 6 m1.f_entries css13 Z14), .row A16 c17 3 1 (m1.f_line).length ((m1.f_line).flatMap (eI .i64)), .box g2 tg19 [.map (some g4), .map (some g6), .map (some g8), .slice A10 (m1.f_entries).length c11, .slice A16 (m1.f_line).length c17, v64 m1.f_first, v32 m1.f_boot], .res [D48] (DefAt D48), .res [l47] (LoopAt l47 rc45 .ready none), .box g39 42 [.slice A10 (m1.f_entries).length c11], .box g27 25 [.pointer (some ⟨g2, 0, none⟩)], .box g30 41 [vI nv20.f_Kind, vB nv20.f_Key.f_Src.f_Six, o8 nv20.f_Key.f_Src.f_B 0, o8 nv20.f_Key.f_Src.f_B 1, o8 nv20.f_Key.f_Src.f_B 2, o8 nv20.f_Key.f_Src.f_B 3, o8 nv20.f_Key.f_Src.f_B 4, o8 nv20.f_Key.f_Src.f_B 5, o8 nv20.f_Key.f_Src.f_B 6, o8 nv20.f_Key.f_Src.f_B 7, o8 nv20.f_Key.f_Src.f_B 8, o8 nv20.f_Key.f_Src.f_B 9, o8 nv20.f_Key.f_Src.f_B 10, o8 nv20.f_Key.f_Src.f_B 11, o8 nv20.f_Key.f_Src.f_B 12, o8 nv20.f_Key.f_Src.f_B 13, o8 nv20.f_Key.f_Src.f_B 14, o8 nv20.f_Key.f_Src.f_B 15, vB nv20.f_Key.f_Dst.f_Six, o8 nv20.f_Key.f_Dst.f_B 0, o8 nv20.f_Key.f_Dst.f_B 1, o8 nv20.f_Key.f_Dst.f_B 2, o8 nv20.f_Key.f_Dst.f_B 3, o8 nv20.f_Key.f_Dst.f_B 4, o8 nv20.f_Key.f_Dst.f_B 5, o8 nv20.f_Key.f_Dst.f_B 6, o8 nv20.f_Key.f_Dst.f_B 7, o8 nv20.f_Key.f_Dst.f_B 8, o8 nv20.f_Key.f_Dst.f_B 9, o8 nv20.f_Key.f_Dst.f_B 10, o8 nv20.f_Key.f_Dst.f_B 11, o8 nv20.f_Key.f_Dst.f_B 12, o8 nv20.f_Key.f_Dst.f_B 13, o8 nv20.f_Key.f_Dst.f_B 14, o8 nv20.f_Key.f_Dst.f_B 15, v8 nv20.f_Key.f_Proto, v16 nv20.f_Key.f_SrcPort, v16 nv20.f_Key.f_DstPort, v64 nv20.f_Total.f_Packets, v64 nv20.f_Total.f_Bytes, .slice A21 (nv20.f_Records).length c22, v32 nv20.f_Epoch, v64 nv20.f_N, v64 nv20.f_First, v64 nv20.f_Next], .box g33 4 [vB false]] ∧ F_model_Model_credit_L1 m1 nv20 k206 nv200 = some r) ?_ ?_
 ·replace hM := hM.pick [1, 2, 3, 4, 5, 6, 0, 11, 12, 10, 7, 8, 9] rfl (by decide)
  exact fun a ha => ⟨fuel0, (IntKind.i64.wrap ((m1.f_entries.length : Int) - 1)), ha.less (less_cons rfl (less_cons rfl (less_cons rfl less_nil))), hM, hF⟩
 rintro k206 a w204 ⟨nv200, ha, hM, hF⟩
 refine KC.app ha ?_
 clear ha
 cases k206 with
 | zero => exact (none_some hF).elim
 | succ k206 =>
 have hF : F_model_Model_credit_l1 (F_model_Model_credit_L1 m1 nv20 k206) m1 nv20 nv200 = some r := hF
 unfold F_model_Model_credit_l1 at hF
 refine KC.seqH fun Q207 hQ207 => ?_
 refine sr fun Q208 hQ208 => ?_
 refine vm rfl rfl ?_
 refine RL.val (O.geq rfl rfl) rfl ?_
 refine nt hQ208 ?_
 clear hQ208 Q208
 refine KC.cond rfl (fun hc => ?_) (fun hc => ?_)
 ·rw [if_pos hc] at hF
  refine KC.skip ?_
  refine KQ.thn hQ207 ?_
  clear hQ207 Q207
  refine KC.seqH fun Q209 hQ209 => ?_
  refine KC.block ?_
  refine sr fun Q210 hQ210 => ?_
  refine vm rfl rfl ?_
  refine vm rfl rfl ?_
  refine RL.val (O.load sc42 rfl (Cs.adds [] ((hM.bx (i := 9) rfl)) rfl)) rfl ?_
  refine vm rfl rfl ?_
  refine obindE hF fun xv213 hx215 hF => ?_
  obtain ⟨cs218, hA214, hC217, hR216⟩ := hM.atD (i := 3) (j := 4) uo_model_Entry rfl rfl hx215
  obtain ⟨A219, c220, rfl, hr221, ho222⟩ := hR216
  refine RL.val (O.idxA sl42 (hA214) rfl rfl) rfl ?_
  refine RL.val (O.loadN (cs := [v32 xv213.f_Epoch, v64 xv213.f_N, .slice A219 (xv213.f_Records).length c220, vB xv213.f_There, vB xv213.f_Synced, vB xv213.f_Credited]) ag47 rfl (hA214).cells) rfl ?_
  refine RL.yield hM (i := 8) rfl ha44 hrc46 rfl rfl rfl rfl rfl ?_
  refine sr fun Q223 hQ223 => ?_
  refine va rfl rfl ?_
  refine nt hQ223 ?_
  clear hQ223 Q223
  refine KC.region ?_
  refine RL.eff (E.alloc hM ze47) rfl fun v w225 hv => ?_
  clear hM
  obtain ⟨g224, rfl, hM, hf⟩ := hv
  have hr221 := hr221.fut hf
  refine RL.effs (E.stB (j := 13) (off := 0) (vs := [v32 xv213.f_Epoch, v64 xv213.f_N, .slice A219 (xv213.f_Records).length c220, vB xv213.f_There, vB xv213.f_Synced, vB xv213.f_Credited]) (cs' := [v32 xv213.f_Epoch, v64 xv213.f_N, .slice A219 (xv213.f_Records).length c220, vB xv213.f_There, vB xv213.f_Synced, vB xv213.f_Credited]) hM rfl sz47 rfl (adds_eq [] rfl) rfl rfl (One.all rfl) rfl rfl) fun w227 hM1 => ?_
  clear hM
  have hM := hM1
  clear hM1
  have hr221 := (un_model_Entry (hM.elAt (j := 4) uo_model_Entry rfl hC217 hx215)).1
  refine RL.nil ?_
  refine KQ.begin hM (i := 8) rfl fun w228 hM1 hf229 => ?_
  clear hM
  have hM := hM1
  clear hM1
  have hr221 := (un_model_Entry (hM.elAt (j := 4) uo_model_Entry rfl hC217 hx215)).1
  refine KC.block ?_
  refine KC.cut (fun a w246 => ∃ (t243 : Bool), Kn 36 [(2, .pointer (some ⟨g27, 0, none⟩)), (4, .pointer (some ⟨g33, 0, none⟩)), (5, vI nv200), (6, .pointer (some ⟨g224, 0, none⟩)), (25, vB t243)] a ∧ Mem w ([some g2] ++ ([some g4] ++ ([some g6] ++ ([some g8] ++ ([rblk A10 c11] ++ (Z14.map some ++ ([rblk A16 c17] ++ ([])))))))) w246 [.res [g4] (MR62 g4 m1.f_forwarded), .res [g6] (MR62 g6 m1.f_cached), .res [g8] (MR62 g8 m1.f_lost), .row A10 c11 47 6 (m1.f_entries).length (css13).flatten, .res Z14 (Els RO_model_Entry 6 m1.f_entries css13 Z14), .row A16 c17 3 1 (m1.f_line).length ((m1.f_line).flatMap (eI .i64)), .box g2 tg19 [.map (some g4), .map (some g6), .map (some g8), .slice A10 (m1.f_entries).length c11, .slice A16 (m1.f_line).length c17, v64 m1.f_first, v32 m1.f_boot], .res [D48] (DefAt D48), .res [l47] (LoopAt l47 rc45 .busy none), .box g27 25 [.pointer (some ⟨g2, 0, none⟩)], .box g33 4 [vB false], .box g224 47 [v32 xv213.f_Epoch, v64 xv213.f_N, .slice A219 (xv213.f_Records).length c220, vB xv213.f_There, vB xv213.f_Synced, vB xv213.f_Credited], .box g30 41 [vI nv20.f_Kind, vB nv20.f_Key.f_Src.f_Six, o8 nv20.f_Key.f_Src.f_B 0, o8 nv20.f_Key.f_Src.f_B 1, o8 nv20.f_Key.f_Src.f_B 2, o8 nv20.f_Key.f_Src.f_B 3, o8 nv20.f_Key.f_Src.f_B 4, o8 nv20.f_Key.f_Src.f_B 5, o8 nv20.f_Key.f_Src.f_B 6, o8 nv20.f_Key.f_Src.f_B 7, o8 nv20.f_Key.f_Src.f_B 8, o8 nv20.f_Key.f_Src.f_B 9, o8 nv20.f_Key.f_Src.f_B 10, o8 nv20.f_Key.f_Src.f_B 11, o8 nv20.f_Key.f_Src.f_B 12, o8 nv20.f_Key.f_Src.f_B 13, o8 nv20.f_Key.f_Src.f_B 14, o8 nv20.f_Key.f_Src.f_B 15, vB nv20.f_Key.f_Dst.f_Six, o8 nv20.f_Key.f_Dst.f_B 0, o8 nv20.f_Key.f_Dst.f_B 1, o8 nv20.f_Key.f_Dst.f_B 2, o8 nv20.f_Key.f_Dst.f_B 3, o8 nv20.f_Key.f_Dst.f_B 4, o8 nv20.f_Key.f_Dst.f_B 5, o8 nv20.f_Key.f_Dst.f_B 6, o8 nv20.f_Key.f_Dst.f_B 7, o8 nv20.f_Key.f_Dst.f_B 8, o8 nv20.f_Key.f_Dst.f_B 9, o8 nv20.f_Key.f_Dst.f_B 10, o8 nv20.f_Key.f_Dst.f_B 11, o8 nv20.f_Key.f_Dst.f_B 12, o8 nv20.f_Key.f_Dst.f_B 13, o8 nv20.f_Key.f_Dst.f_B 14, o8 nv20.f_Key.f_Dst.f_B 15, v8 nv20.f_Key.f_Proto, v16 nv20.f_Key.f_SrcPort, v16 nv20.f_Key.f_DstPort, v64 nv20.f_Total.f_Packets, v64 nv20.f_Total.f_Bytes, .slice A21 (nv20.f_Records).length c22, v32 nv20.f_Epoch, v64 nv20.f_N, v64 nv20.f_First, v64 nv20.f_Next], .box g39 42 [.slice A10 (m1.f_entries).length c11]] ∧ Rd w246 A219 c220 44 (xv213.f_Records).length ((xv213.f_Records).flatMap e_flow_Record) ∧ F_model_Model_credit_j1 m1 nv200 (F_model_Model_credit_L1 m1 nv20 k206) xv213 t243 = some r) ?_ ?_
  ·refine KC.region ?_
   refine RL.val (O.fldA fl47_0 (by decide) rfl) rfl ?_
   refine RL.val (O.load sc39 rfl (Cs.adds [0] ((hM.bx (i := 13) rfl)) rfl)) rfl ?_
   refine RL.val (O.fldA fl41_4 (by decide) rfl) rfl ?_
   refine RL.val (O.load sc39 rfl (Cs.adds [41] ((hM.bx (i := 11) rfl)) rfl)) rfl ?_
   refine RL.val (O.eql rfl rfl) rfl ?_
   refine vm rfl rfl ?_
   refine RL.bcase (t := 19) rfl (fun hc => ?_) (fun hc => ?_)
   ·rw [if_pos hc] at hF
    refine RL.gval rfl rfl (O.fldA fl47_1 (by decide) rfl) rfl ?_
    refine RL.gval rfl rfl (O.load sc35 rfl (Cs.adds [1] ((hM.bx (i := 13) rfl)) rfl)) rfl ?_
    refine RL.gval rfl rfl (O.fldA fl41_5 (by decide) rfl) rfl ?_
    refine RL.gval rfl rfl (O.load sc35 rfl (Cs.adds [42] ((hM.bx (i := 11) rfl)) rfl)) rfl ?_
    refine RL.gval rfl rfl (O.eql rfl rfl) rfl ?_
    refine RL.val (O.pickt rfl rfl) rfl ?_
    refine RL.nil ?_
    refine KQ.then_k ?_
    replace hM := hM.pick [0, 1, 2, 3, 4, 5, 6, 7, 8, 10, 12, 13, 11, 9] rfl (by decide)
    exact fun a ha => ⟨(xv213.f_N == nv20.f_N), ha.less (less_cons rfl (less_cons rfl (less_cons rfl (less_cons rfl (less_cons rfl less_nil))))), hM, hr221, hF⟩
   rw [if_neg (ne_true hc)] at hF
   refine RL.brun1 6 25 false (by kernel_rfl) ?_
   refine RL.nil ?_
   refine KQ.then_k ?_
   replace hM := hM.pick [0, 1, 2, 3, 4, 5, 6, 7, 8, 10, 12, 13, 11, 9] rfl (by decide)
   exact fun a ha => ⟨false, ha.less (less_cons rfl (less_cons rfl (less_cons rfl (less_cons rfl (less_cons rfl less_nil))))), hM, hr221, hF⟩
  rintro a w246 ⟨t243, ha, hM, hr242, hF⟩
  refine KC.app ha ?_
  clear ha
  unfold F_model_Model_credit_j1 at hF
  refine KC.cond rfl (fun hc => ?_) (fun hc => ?_)
  ·rw [if_pos hc] at hF
   refine sr fun Q247 hQ247 => ?_
   refine RL.val (O.load sc25 rfl (Cs.adds [] ((hM.bx (i := 9) rfl)) rfl)) rfl ?_
   refine RL.val (O.nilp rfl) rfl ?_
   refine RL.val (O.fldA fl65_3 (by decide) rfl) rfl ?_
   refine RL.val (O.load sc42 rfl (Cs.adds [3] ((hM.bx (i := 6) rfl)) rfl)) rfl ?_
   refine vm rfl rfl ?_
   refine obindE hF fun xv250 hx252 hF => ?_
   obtain ⟨cs255, hA251, hC254, hR253⟩ := hM.atD (i := 3) (j := 4) uo_model_Entry rfl rfl hx252
   obtain ⟨A256, c257, rfl, hr258, ho259⟩ := hR253
   refine RL.val (O.idxA sl42 (hA251) rfl rfl) rfl ?_
   refine RL.val (O.fldA fl47_5 (by decide) rfl) rfl ?_
   refine RL.effs (E.stD (i := 3) (j := 4) (off := 5) (vs := [vB true]) (cs' := [v32 xv250.f_Epoch, v64 xv250.f_N, .slice A256 (xv250.f_Records).length c257, vB xv250.f_There, vB xv250.f_Synced, vB true]) (u' := (T_model_Entry.mk xv250.f_Epoch xv250.f_N xv250.f_Records xv250.f_There xv250.f_Synced true)) hM rfl rfl rfl hC254 hx252 sz4 rfl (addsR_eq [5] rfl) rfl rfl (One.all rfl) rfl rfl (fun o h => by obtain ⟨A0', c0', h1, h2⟩ := h; cases h1; exact ⟨_, _, rfl, h2⟩)) fun w260 hM1 => ?_
   clear hM
   obtain ⟨hM, hn261⟩ := hM1
   refine RL.reslot (t := 29) rfl hn261 ?_
   replace hM := hM.rebox (i := 6) (cs' := [.map (some g4), .map (some g6), .map (some g8), .slice A10 ((m1.f_entries.set (nv200 : Int).toNat (T_model_Entry.mk xv250.f_Epoch xv250.f_N xv250.f_Records xv250.f_There xv250.f_Synced true))).length c11, .slice A16 (m1.f_line).length c17, v64 m1.f_first, v32 m1.f_boot]) rfl (by rw [← hn261])
   replace hM := hM.rebox (i := 13) (cs' := [.slice A10 ((m1.f_entries.set (nv200 : Int).toNat (T_model_Entry.mk xv250.f_Epoch xv250.f_N xv250.f_Records xv250.f_There xv250.f_Synced true))).length c11]) rfl (by rw [← hn261])
   refine nt hQ247 ?_
   clear hQ247 Q247
   refine sr fun Q262 hQ262 => ?_
   refine RL.val (O.fldA fl47_5 (by decide) rfl) rfl ?_
   refine RL.val (O.load sc4 rfl (Cs.adds [5] ((hM.bx (i := 11) rfl)) rfl)) rfl ?_
   refine RL.val (O.not rfl) rfl ?_
   refine RL.effs (E.stB (j := 10) (off := 0) (vs := [vB (!xv213.f_Credited)]) (cs' := [vB (!xv213.f_Credited)]) hM rfl sz4 rfl (adds_eq [] rfl) rfl rfl (One.all rfl) rfl rfl) fun w263 hM1 => ?_
   clear hM
   have hM := hM1
   clear hM1
   refine nt hQ262 ?_
   clear hQ262 Q262
   refine KC.ret ?_
   refine KQ.blk_r ?_
   refine KQ.rret hM (i := 8) rfl fun w264 hM1 hf265 => ?_
   clear hM
   have hM := hM1
   clear hM1
   refine RL.val (O.not rfl) rfl ?_
   refine nt hQ210 ?_
   clear hQ210 Q210
   replace hM := hM.pick [0, 1, 2, 3, 4, 5, 6, 7, 8, 9, 10, 12, 13] rfl (by decide)
   refine KC.condT rfl ?_
   refine KC.ret ?_
   refine KQ.blk_r ?_
   refine KQ.thr hQ209 ?_
   clear hQ209 Q209
   refine KQ.then_r ?_
   refine KQ.blk_r ?_
   refine KQ.rendRC Try.results60 hM (i := 8) rfl (fun h => by cases h) ha44 fun w266 hM1 hf267 => ?_
   clear hM
   have hM := hM1
   clear hM1
   replace hM := hM.pick [0, 1, 2, 3, 4, 5, 6, 7, 9, 10, 11, 12] rfl (by decide)
   refine KC.ret ?_
   refine KQ.blk_r ?_
   refine KQ.thr hQ36 ?_
   clear hQ36 Q36
   have hE := Option.some.inj hF
   clear hF
   subst hE
   refine KQ.unmark hM (i := 7) rfl fun w268 hM1 => ?_
   clear hM
   have hM := hM1
   clear hM1
   replace hM := hM.pick [0, 1, 2, 3, 4, 5, 6, 8, 9, 10, 11] rfl (by decide)
   have hb269 := hM.bx (i := 8) rfl
   replace hM := hM.pick [6, 0, 1, 2, 3, 4, 5] rfl (by decide)
   refine KQ.retsM Try.results25 (RVs.cons (RV.c1 rfl sc4 hb269.at0) RVs.nil) ?_
   exact ⟨_, rfl, g4, g6, g8, A10, c11, (css13.set (nv200 : Int).toNat [v32 xv250.f_Epoch, v64 xv250.f_N, .slice A256 (xv250.f_Records).length c257, vB xv250.f_There, vB xv250.f_Synced, vB true]), Z14, A16, c17, rfl, hM⟩
  rw [if_neg (ne_true hc)] at hF
  refine KC.skip ?_
  refine KQ.blk_n ?_
  refine KQ.rnorm hM (i := 8) rfl fun w270 hM1 hf271 => ?_
  clear hM
  have hM := hM1
  clear hM1
  refine RL.val (O.not rfl) rfl ?_
  refine nt hQ210 ?_
  clear hQ210 Q210
  replace hM := hM.pick [0, 1, 2, 3, 4, 5, 6, 7, 8, 9, 10, 12, 13] rfl (by decide)
  refine KC.condF rfl ?_
  refine KC.skip ?_
  refine KQ.blk_n ?_
  refine KQ.thn hQ209 ?_
  clear hQ209 Q209
  refine KC.region ?_
  refine vm rfl rfl ?_
  refine RL.val (O.sub rfl rfl) rfl ?_
  refine va rfl rfl ?_
  refine RL.nil ?_
  refine KQ.then_k ?_
  replace hM := hM.pick [0, 1, 2, 3, 4, 5, 6, 7, 8, 12, 9, 11, 10] rfl (by decide)
  exact fun a ha => ⟨k206, Nat.lt_succ_self k206, (IntKind.i64.wrap (nv200 - 1)), ha.less (less_cons rfl (less_cons rfl (less_cons rfl less_nil))), hM, hF⟩
 rw [if_neg (ne_true hc)] at hF
 refine KC.exit ?_
 refine KQ.thx hQ207 ?_
 clear hQ207 Q207
 refine KQ.then_x ?_
 refine KQ.blk_x ?_
 refine KQ.rendN Try.results60 hM (i := 8) rfl (fun h => by cases h) ha44 fun w272 hM1 hf273 => ?_
 clear hM
 have hM := hM1
 clear hM1
 replace hM := hM.pick [0, 1, 2, 3, 4, 5, 6, 7, 9, 10, 11, 12] rfl (by decide)
 refine KQ.blk_n ?_
 refine KQ.thn hQ36 ?_
 clear hQ36 Q36
 replace hM := hM.pick [0, 1, 2, 3, 4, 5, 6, 7, 11] rfl (by decide)
 refine sr fun Q274 hQ274 => ?_
 refine RL.effs (E.stB (j := 8) (off := 0) (vs := [vB false]) (cs' := [vB false]) hM rfl sz4 rfl (adds_eq [] rfl) rfl rfl (One.all rfl) rfl rfl) fun w275 hM1 => ?_
 clear hM
 have hM := hM1
 clear hM1
 refine nt hQ274 ?_
 clear hQ274 Q274
 refine KC.ret ?_
 have hE := Option.some.inj hF
 clear hF
 subst hE
 refine KQ.unmark hM (i := 7) rfl fun w276 hM1 => ?_
 clear hM
 have hM := hM1
 clear hM1
 replace hM := hM.pick [0, 1, 2, 3, 4, 5, 6, 8] rfl (by decide)
 have hb277 := hM.bx (i := 7) rfl
 replace hM := hM.pick [6, 0, 1, 2, 3, 4, 5] rfl (by decide)
 refine KQ.retsM Try.results25 (RVs.cons (RV.c1 rfl sc4 hb277.at0) RVs.nil) ?_
 exact ⟨_, rfl, g4, g6, g8, A10, c11, css13, Z14, A16, c17, rfl, hM⟩
set_option maxRecDepth 100000 in
set_option maxHeartbeats 40000000 in
theorem c_model_Model_crash_1 (w : World) (ev1 : T_model_Entry) (A2 : Option Addr) (c3 : Nat) (hr4 : Rd w A2 c3 44 ev1.f_Records.length (ev1.f_Records.flatMap e_flow_Record)) (cv8 : T_model_Note) (A9 : Option Addr) (c10 : Nat) (hr11 : Rd w A9 c10 44 cv8.f_Records.length (cv8.f_Records.flatMap e_flow_Record)) (g5 : Nat) (hC6 : Cs w ⟨g5, 0, none⟩ [vI cv8.f_Kind, vB cv8.f_Key.f_Src.f_Six, o8 cv8.f_Key.f_Src.f_B 0, o8 cv8.f_Key.f_Src.f_B 1, o8 cv8.f_Key.f_Src.f_B 2, o8 cv8.f_Key.f_Src.f_B 3, o8 cv8.f_Key.f_Src.f_B 4, o8 cv8.f_Key.f_Src.f_B 5, o8 cv8.f_Key.f_Src.f_B 6, o8 cv8.f_Key.f_Src.f_B 7, o8 cv8.f_Key.f_Src.f_B 8, o8 cv8.f_Key.f_Src.f_B 9, o8 cv8.f_Key.f_Src.f_B 10, o8 cv8.f_Key.f_Src.f_B 11, o8 cv8.f_Key.f_Src.f_B 12, o8 cv8.f_Key.f_Src.f_B 13, o8 cv8.f_Key.f_Src.f_B 14, o8 cv8.f_Key.f_Src.f_B 15, vB cv8.f_Key.f_Dst.f_Six, o8 cv8.f_Key.f_Dst.f_B 0, o8 cv8.f_Key.f_Dst.f_B 1, o8 cv8.f_Key.f_Dst.f_B 2, o8 cv8.f_Key.f_Dst.f_B 3, o8 cv8.f_Key.f_Dst.f_B 4, o8 cv8.f_Key.f_Dst.f_B 5, o8 cv8.f_Key.f_Dst.f_B 6, o8 cv8.f_Key.f_Dst.f_B 7, o8 cv8.f_Key.f_Dst.f_B 8, o8 cv8.f_Key.f_Dst.f_B 9, o8 cv8.f_Key.f_Dst.f_B 10, o8 cv8.f_Key.f_Dst.f_B 11, o8 cv8.f_Key.f_Dst.f_B 12, o8 cv8.f_Key.f_Dst.f_B 13, o8 cv8.f_Key.f_Dst.f_B 14, o8 cv8.f_Key.f_Dst.f_B 15, v8 cv8.f_Key.f_Proto, v16 cv8.f_Key.f_SrcPort, v16 cv8.f_Key.f_DstPort, v64 cv8.f_Total.f_Packets, v64 cv8.f_Total.f_Bytes, .slice A9 (cv8.f_Records).length c10, v32 cv8.f_Epoch, v64 cv8.f_N, v64 cv8.f_First, v64 cv8.f_Next]) (r : Bool) (hF : F_model_Model_crash_1 ev1 cv8 = some r) :
  CallsR Try.prog 43 [.agg #[v32 ev1.f_Epoch, v64 ev1.f_N, .slice A2 (ev1.f_Records).length c3, vB ev1.f_There, vB ev1.f_Synced, vB ev1.f_Credited], .pointer (some ⟨g5, 0, none⟩)] w (fun v w' => v = vB r ∧ Mem w [] w' []) := by
 refine calls_KC Try.func43 rfl Try.ntmps43 rfl ?_
 have hM := Mem.init w
 unfold F_model_Model_crash_1 at hF
 refine sr fun Q12 hQ12 => ?_
 refine RL.eff (E.box (vs := [v32 ev1.f_Epoch, v64 ev1.f_N, .slice A2 (ev1.f_Records).length c3, vB ev1.f_There, vB ev1.f_Synced, vB ev1.f_Credited]) hM rfl rfl) rfl fun v w14 hv => ?_
 clear hM
 obtain ⟨g13, rfl, hM, hf⟩ := hv
 refine va rfl rfl ?_
 refine nt hQ12 ?_
 clear hQ12 Q12
 refine sr fun Q16 hQ16 => ?_
 refine RL.val (O.fldA fl47_0 (by decide) rfl) rfl ?_
 refine RL.val (O.load sc39 rfl (Cs.adds [0] ((hM.bx (i := 0) rfl)) rfl)) rfl ?_
 refine RL.val (O.fldA fl41_4 (by decide) rfl) rfl ?_
 refine RL.val (O.load sc39 rfl (Cs.adds [41] ((hC6.fut hM.chg)) rfl)) rfl ?_
 refine RL.val (O.geq rfl rfl) rfl ?_
 refine va rfl rfl ?_
 refine nt hQ16 ?_
 clear hQ16 Q16
 refine KC.ret ?_
 have hE := Option.some.inj hF
 clear hF
 subst hE
 replace hM := hM.pick [] rfl (by decide)
 refine KQ.rets Try.results43 (RVs.cons (RV.tm rfl) RVs.nil) ?_
 exact ⟨_, rfl, rfl, hM⟩
set_option maxRecDepth 100000 in
set_option maxHeartbeats 40000000 in
theorem c_slices_IndexFunc_model_Entry_model_Entry_fmodel_Model_crash_1 (w : World) (A2 : Option Addr) (c3 : Nat) (s1 : List T_model_Entry) (hr4 : RdD R_model_Entry [] w A2 c3 6 s1) (f8 : T_model_Note) (A9 : Option Addr) (c10 : Nat) (hr11 : Rd w A9 c10 44 f8.f_Records.length (f8.f_Records.flatMap e_flow_Record)) (g5 : Nat) (hC6 : Cs w ⟨g5, 0, none⟩ [vI f8.f_Kind, vB f8.f_Key.f_Src.f_Six, o8 f8.f_Key.f_Src.f_B 0, o8 f8.f_Key.f_Src.f_B 1, o8 f8.f_Key.f_Src.f_B 2, o8 f8.f_Key.f_Src.f_B 3, o8 f8.f_Key.f_Src.f_B 4, o8 f8.f_Key.f_Src.f_B 5, o8 f8.f_Key.f_Src.f_B 6, o8 f8.f_Key.f_Src.f_B 7, o8 f8.f_Key.f_Src.f_B 8, o8 f8.f_Key.f_Src.f_B 9, o8 f8.f_Key.f_Src.f_B 10, o8 f8.f_Key.f_Src.f_B 11, o8 f8.f_Key.f_Src.f_B 12, o8 f8.f_Key.f_Src.f_B 13, o8 f8.f_Key.f_Src.f_B 14, o8 f8.f_Key.f_Src.f_B 15, vB f8.f_Key.f_Dst.f_Six, o8 f8.f_Key.f_Dst.f_B 0, o8 f8.f_Key.f_Dst.f_B 1, o8 f8.f_Key.f_Dst.f_B 2, o8 f8.f_Key.f_Dst.f_B 3, o8 f8.f_Key.f_Dst.f_B 4, o8 f8.f_Key.f_Dst.f_B 5, o8 f8.f_Key.f_Dst.f_B 6, o8 f8.f_Key.f_Dst.f_B 7, o8 f8.f_Key.f_Dst.f_B 8, o8 f8.f_Key.f_Dst.f_B 9, o8 f8.f_Key.f_Dst.f_B 10, o8 f8.f_Key.f_Dst.f_B 11, o8 f8.f_Key.f_Dst.f_B 12, o8 f8.f_Key.f_Dst.f_B 13, o8 f8.f_Key.f_Dst.f_B 14, o8 f8.f_Key.f_Dst.f_B 15, v8 f8.f_Key.f_Proto, v16 f8.f_Key.f_SrcPort, v16 f8.f_Key.f_DstPort, v64 f8.f_Total.f_Packets, v64 f8.f_Total.f_Bytes, .slice A9 (f8.f_Records).length c10, v32 f8.f_Epoch, v64 f8.f_N, v64 f8.f_First, v64 f8.f_Next]) (r : Int) (hF : F_slices_IndexFunc_model_Entry_model_Entry_fmodel_Model_crash_1 s1 f8 = some r) :
  CallsR Try.prog 61 [.slice A2 (s1).length c3, .func (.func 43) #[] #[.pointer (some ⟨g5, 0, none⟩)]] w (fun v w' => v = vI r ∧ Mem w [] w' []) := by
 refine calls_KC Try.func61 rfl Try.ntmps61 rfl ?_
 have hM := Mem.init w
 unfold F_slices_IndexFunc_model_Entry_model_Entry_fmodel_Model_crash_1 at hF
 refine sr fun Q12 hQ12 => ?_
 refine va rfl rfl ?_
 refine nt hQ12 ?_
 clear hQ12 Q12
 refine KC.seqH fun Q13 hQ13 => ?_
 refine sr fun Q14 hQ14 => ?_
 refine vm rfl rfl ?_
 refine RL.val (O.len sl42 rfl) rfl ?_
 refine vm rfl rfl ?_
 refine nt hQ14 ?_
 clear hQ14 Q14
 refine KC.block ?_
 refine KC.loop (fun k59 a w57 => ∃ (t56 : Int), Kn 19 [(0, .slice A2 (s1).length c3), (1, .func (.func 43) #[] #[.pointer (some ⟨g5, 0, none⟩)]), (7, vI (s1.length : Int)), (8, vI t56)] a ∧ Mem w [] w57 [] ∧ F_slices_IndexFunc_model_Entry_model_Entry_fmodel_Model_crash_1_L1 s1 f8 k59 t56 = some r) ?_ ?_
 ·exact fun a ha => ⟨fuel0, 0, ha.less (less_cons rfl (less_cons rfl (less_cons rfl (less_cons rfl less_nil)))), hM, hF⟩
 rintro k59 a w57 ⟨t56, ha, hM, hF⟩
 refine KC.app ha ?_
 clear ha
 cases k59 with
 | zero => exact (none_some hF).elim
 | succ k59 =>
 have hF : F_slices_IndexFunc_model_Entry_model_Entry_fmodel_Model_crash_1_l1 (F_slices_IndexFunc_model_Entry_model_Entry_fmodel_Model_crash_1_L1 s1 f8 k59) s1 f8 t56 = some r := hF
 unfold F_slices_IndexFunc_model_Entry_model_Entry_fmodel_Model_crash_1_l1 at hF
 refine sr fun Q60 hQ60 => ?_
 refine RL.val (O.lss rfl rfl) rfl ?_
 refine nt hQ60 ?_
 clear hQ60 Q60
 refine KC.seqH fun Q61 hQ61 => ?_
 refine KC.cond rfl (fun hc => ?_) (fun hc => ?_)
 ·rw [if_pos hc] at hF
  refine KC.skip ?_
  refine KQ.thn hQ61 ?_
  clear hQ61 Q61
  refine KC.seqH fun Q62 hQ62 => ?_
  refine KC.block ?_
  refine sr fun Q63 hQ63 => ?_
  refine vm rfl rfl ?_
  refine va rfl rfl ?_
  refine nt hQ63 ?_
  clear hQ63 Q63
  refine sr fun Q64 hQ64 => ?_
  refine vm rfl rfl ?_
  refine vm rfl rfl ?_
  refine vm rfl rfl ?_
  refine obindE hF fun xv67 hx66 hF => ?_
  obtain ⟨cs70, hA65, hR68, hO69⟩ := RdD.at hr4 hx66
  obtain ⟨A71, c72, rfl, hr73, ho74⟩ := hR68
  have hA65 := hA65.chg hM.chg hO69
  refine RL.val (O.idxA sl42 (hA65) rfl rfl) rfl ?_
  refine RL.val (O.loadN (cs := [v32 xv67.f_Epoch, v64 xv67.f_N, .slice A71 (xv67.f_Records).length c72, vB xv67.f_There, vB xv67.f_Synced, vB xv67.f_Credited]) ag47 rfl (hA65).cells) rfl ?_
  refine obindE hF fun y75 hx76 hF => ?_
  refine RL.callv (first := []) (captured := [.pointer (some ⟨g5, 0, none⟩)]) rfl Try.func43 bd43 rfl rfl (c_model_Model_crash_1 _ xv67 _ _ (hM.inp hr73 Off.nil) f8 _ _ (hM.inp hr11 Off.nil) _ (hC6.fut hM.chg) _ hx76) fun v w77 hv => ?_
  obtain ⟨rfl, hN78⟩ := hv
  replace hM := hM.call0 hN78
  refine nt hQ64 ?_
  clear hQ64 Q64
  refine KC.cond rfl (fun hc => ?_) (fun hc => ?_)
  ·rw [if_pos hc] at hF
   refine sr fun Q79 hQ79 => ?_
   refine vm rfl rfl ?_
   refine va rfl rfl ?_
   refine nt hQ79 ?_
   clear hQ79 Q79
   refine KC.ret ?_
   refine KQ.blk_r ?_
   refine KQ.thr hQ62 ?_
   clear hQ62 Q62
   refine KQ.then_r ?_
   refine KQ.blk_r ?_
   refine KQ.thr hQ13 ?_
   clear hQ13 Q13
   have hE := Option.some.inj hF
   clear hF
   subst hE
   refine KQ.rets Try.results61 (RVs.cons (RV.tm rfl) RVs.nil) ?_
   exact ⟨_, rfl, rfl, hM⟩
  rw [if_neg (ne_true hc)] at hF
  refine KC.skip ?_
  refine KQ.blk_n ?_
  refine KQ.thn hQ62 ?_
  clear hQ62 Q62
  refine KC.region ?_
  refine RL.val (O.add rfl rfl) rfl ?_
  refine vm rfl rfl ?_
  refine RL.nil ?_
  refine KQ.then_k ?_
  exact fun a ha => ⟨k59, Nat.lt_succ_self k59, (IntKind.i64.wrap (t56 + 1)), ha.less (less_cons rfl (less_cons rfl (less_cons rfl (less_cons rfl less_nil)))), hM, hF⟩
 rw [if_neg (ne_true hc)] at hF
 refine KC.exit ?_
 refine KQ.thx hQ61 ?_
 clear hQ61 Q61
 refine KQ.then_x ?_
 refine KQ.blk_x ?_
 refine KQ.thn hQ13 ?_
 clear hQ13 Q13
 refine sr fun Q80 hQ80 => ?_
 refine va rfl rfl ?_
 refine nt hQ80 ?_
 clear hQ80 Q80
 refine KC.ret ?_
 have hE := Option.some.inj hF
 clear hF
 subst hE
 refine KQ.rets Try.results61 (RVs.cons (RV.tm rfl) RVs.nil) ?_
 exact ⟨_, rfl, rfl, hM⟩
end Go.Proofs.Ytidbgejnkpoeeaa
