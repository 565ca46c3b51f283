/- Printed by a program of this claim: each call returns what the plain function of its name gives. -/
import Derived.Test.YtidbgejnkpoeeaaW1
import Derived.Test.YtidbgejnkpoeeaaW4
import Derived.Test.YtidbgejnkpoeeaaW5
set_option linter.unusedVariables false
namespace Go.Proofs.Ytidbgejnkpoeeaa
open Go Go.Ox Go.RowKit
set_option maxRecDepth 100000 in
set_option maxHeartbeats 40000000 in
theorem c_model_Model_pack (w : World) (g2 : Nat) (tg19 : TypeId) (m1 : T_model_Model) (g4 : Nat) (g6 : Nat) (g8 : Nat) (A10 : Option Addr) (c11 : Nat) (css13 : List (List Value)) (Z14 : List Nat) (A16 : Option Addr) (c17 : Nat) (hL25 : Lent w [.box g2 tg19 [.map (some g4), .map (some g6), .map (some g8), .slice A10 (m1.f_entries).length c11, .slice A16 (m1.f_line).length c17, v64 m1.f_first, v32 m1.f_boot], .res [g4] (MR62 g4 m1.f_forwarded), .res [g6] (MR62 g6 m1.f_cached), .res [g8] (MR62 g8 m1.f_lost), .row A10 c11 47 6 (m1.f_entries).length (css13).flatten, .res Z14 (Els RO_model_Entry 6 m1.f_entries css13 Z14), .row A16 c17 3 1 (m1.f_line).length ((m1.f_line).flatMap (eI .i64))]) (nv20 : T_model_Note) (A21 : Option Addr) (c22 : Nat) (hr23 : Rd w A21 c22 44 nv20.f_Records.length (nv20.f_Records.flatMap e_flow_Record)) (ho24 : Off ([some g2] ++ ([some g4] ++ ([some g6] ++ ([some g8] ++ ([rblk A10 c11] ++ (Z14.map some ++ ([rblk A16 c17] ++ ([])))))))) nv20.f_Records.length A21) (r : Bool × T_model_Model) (hF : F_model_Model_pack m1 nv20 = some r) :
  CallsR Try.prog 21 [.pointer (some ⟨g2, 0, none⟩), .agg #[vI nv20.f_Kind, vB nv20.f_Key.f_Src.f_Six, o8 nv20.f_Key.f_Src.f_B 0, o8 nv20.f_Key.f_Src.f_B 1, o8 nv20.f_Key.f_Src.f_B 2, o8 nv20.f_Key.f_Src.f_B 3, o8 nv20.f_Key.f_Src.f_B 4, o8 nv20.f_Key.f_Src.f_B 5, o8 nv20.f_Key.f_Src.f_B 6, o8 nv20.f_Key.f_Src.f_B 7, o8 nv20.f_Key.f_Src.f_B 8, o8 nv20.f_Key.f_Src.f_B 9, o8 nv20.f_Key.f_Src.f_B 10, o8 nv20.f_Key.f_Src.f_B 11, o8 nv20.f_Key.f_Src.f_B 12, o8 nv20.f_Key.f_Src.f_B 13, o8 nv20.f_Key.f_Src.f_B 14, o8 nv20.f_Key.f_Src.f_B 15, vB nv20.f_Key.f_Dst.f_Six, o8 nv20.f_Key.f_Dst.f_B 0, o8 nv20.f_Key.f_Dst.f_B 1, o8 nv20.f_Key.f_Dst.f_B 2, o8 nv20.f_Key.f_Dst.f_B 3, o8 nv20.f_Key.f_Dst.f_B 4, o8 nv20.f_Key.f_Dst.f_B 5, o8 nv20.f_Key.f_Dst.f_B 6, o8 nv20.f_Key.f_Dst.f_B 7, o8 nv20.f_Key.f_Dst.f_B 8, o8 nv20.f_Key.f_Dst.f_B 9, o8 nv20.f_Key.f_Dst.f_B 10, o8 nv20.f_Key.f_Dst.f_B 11, o8 nv20.f_Key.f_Dst.f_B 12, o8 nv20.f_Key.f_Dst.f_B 13, o8 nv20.f_Key.f_Dst.f_B 14, o8 nv20.f_Key.f_Dst.f_B 15, v8 nv20.f_Key.f_Proto, v16 nv20.f_Key.f_SrcPort, v16 nv20.f_Key.f_DstPort, v64 nv20.f_Total.f_Packets, v64 nv20.f_Total.f_Bytes, .slice A21 (nv20.f_Records).length c22, v32 nv20.f_Epoch, v64 nv20.f_N, v64 nv20.f_First, v64 nv20.f_Next]] w (fun v w' => ∃ (gr0 : Nat) (gr1 : Nat) (gr2 : Nat) (Ar3 : Option Addr) (cr3 : Nat) (cssr4 : List (List Value)) (Zr4 : List Nat) (Ar4 : Option Addr) (cr4 : Nat), v = vB r.1 ∧ Mem w ([some g2] ++ ([some g4] ++ ([some g6] ++ ([some g8] ++ ([rblk A10 c11] ++ (Z14.map some ++ ([rblk A16 c17] ++ ([])))))))) w' [.box g2 tg19 [.map (some gr0), .map (some gr1), .map (some gr2), .slice Ar3 (r.2.f_entries).length cr3, .slice Ar4 (r.2.f_line).length cr4, v64 r.2.f_first, v32 r.2.f_boot], .res [gr0] (MR62 gr0 r.2.f_forwarded), .res [gr1] (MR62 gr1 r.2.f_cached), .res [gr2] (MR62 gr2 r.2.f_lost), .row Ar3 cr3 47 6 r.2.f_entries.length cssr4.flatten, .res Zr4 (Els RO_model_Entry 6 r.2.f_entries cssr4 Zr4), .row Ar4 cr4 3 1 r.2.f_line.length (r.2.f_line.flatMap (eI .i64))]) := by
 refine calls_KC Try.func21 rfl Try.ntmps21 rfl ?_
 have hM : Mem w ([some g2] ++ ([some g4] ++ ([some g6] ++ ([some g8] ++ ([rblk A10 c11] ++ (Z14.map some ++ ([rblk A16 c17] ++ ([])))))))) w [.box g2 tg19 [.map (some g4), .map (some g6), .map (some g8), .slice A10 (m1.f_entries).length c11, .slice A16 (m1.f_line).length c17, v64 m1.f_first, v32 m1.f_boot], .res [g4] (MR62 g4 m1.f_forwarded), .res [g6] (MR62 g6 m1.f_cached), .res [g8] (MR62 g8 m1.f_lost), .row A10 c11 47 6 (m1.f_entries).length (css13).flatten, .res Z14 (Els RO_model_Entry 6 m1.f_entries css13 Z14), .row A16 c17 3 1 (m1.f_line).length ((m1.f_line).flatMap (eI .i64))] := Mem.lendN hL25
 unfold F_model_Model_pack at hF
 refine sr fun Q26 hQ26 => ?_
 refine RL.eff (E.box (vs := [vI nv20.f_Kind, vB nv20.f_Key.f_Src.f_Six, o8 nv20.f_Key.f_Src.f_B 0, o8 nv20.f_Key.f_Src.f_B 1, o8 nv20.f_Key.f_Src.f_B 2, o8 nv20.f_Key.f_Src.f_B 3, o8 nv20.f_Key.f_Src.f_B 4, o8 nv20.f_Key.f_Src.f_B 5, o8 nv20.f_Key.f_Src.f_B 6, o8 nv20.f_Key.f_Src.f_B 7, o8 nv20.f_Key.f_Src.f_B 8, o8 nv20.f_Key.f_Src.f_B 9, o8 nv20.f_Key.f_Src.f_B 10, o8 nv20.f_Key.f_Src.f_B 11, o8 nv20.f_Key.f_Src.f_B 12, o8 nv20.f_Key.f_Src.f_B 13, o8 nv20.f_Key.f_Src.f_B 14, o8 nv20.f_Key.f_Src.f_B 15, vB nv20.f_Key.f_Dst.f_Six, o8 nv20.f_Key.f_Dst.f_B 0, o8 nv20.f_Key.f_Dst.f_B 1, o8 nv20.f_Key.f_Dst.f_B 2, o8 nv20.f_Key.f_Dst.f_B 3, o8 nv20.f_Key.f_Dst.f_B 4, o8 nv20.f_Key.f_Dst.f_B 5, o8 nv20.f_Key.f_Dst.f_B 6, o8 nv20.f_Key.f_Dst.f_B 7, o8 nv20.f_Key.f_Dst.f_B 8, o8 nv20.f_Key.f_Dst.f_B 9, o8 nv20.f_Key.f_Dst.f_B 10, o8 nv20.f_Key.f_Dst.f_B 11, o8 nv20.f_Key.f_Dst.f_B 12, o8 nv20.f_Key.f_Dst.f_B 13, o8 nv20.f_Key.f_Dst.f_B 14, o8 nv20.f_Key.f_Dst.f_B 15, v8 nv20.f_Key.f_Proto, v16 nv20.f_Key.f_SrcPort, v16 nv20.f_Key.f_DstPort, v64 nv20.f_Total.f_Packets, v64 nv20.f_Total.f_Bytes, .slice A21 (nv20.f_Records).length c22, v32 nv20.f_Epoch, v64 nv20.f_N, v64 nv20.f_First, v64 nv20.f_Next]) hM rfl rfl) rfl fun v w28 hv => ?_
 clear hM
 obtain ⟨g27, rfl, hM, hf⟩ := hv
 refine va rfl rfl ?_
 refine nt hQ26 ?_
 clear hQ26 Q26
 refine KC.seqH fun Q30 hQ30 => ?_
 replace hM := hM.drewN 1
 refine KC.draw [] [6] [6] [0, 1, 2, 4, 7, 8, 9, 10, 11] (.ofList [0, 1, 2, 3, 4, 5, 6, 7, 8, 9, 10, 11]) moP (by kernel_rfl) ?_
 refine RD.p rfl rfl rfl rfl (fun w' => O.move rfl) ?_
 refine RD.p rfl rfl rfl rfl (fun w' => O.nilp rfl) ?_
 refine RD.p rfl rfl rfl rfl (fun w' => O.fldA fl65_1 (by decide) rfl) ?_
 refine RD.q rfl rfl rfl rfl (fun w' hf => O.load sc62 rfl (Cs.adds [1] ((hM.bx (i := 0) rfl).fut hf) rfl)) ?_
 refine RD.p rfl rfl rfl rfl (fun w' => O.fldA fl41_3 (by decide) rfl) ?_
 refine RD.q rfl rfl rfl rfl (fun w' hf => O.load sc38 rfl (Cs.adds [40] ((hM.bx (i := 7) rfl).fut hf) rfl)) ?_
 refine RD.micall rfl rfl rfl Try.func38 bd38 rfl rfl rfl Try.ntmps38 rfl ?_
 refine sr fun Q31 hQ31 => ?_
 refine va rfl rfl ?_
 refine va rfl rfl ?_
 refine nt hQ31 ?_
 clear hQ31 Q31
 refine sr fun Q32 hQ32 => ?_
 refine vm rfl rfl ?_
 refine obindE hF fun y33 hx34 hF => ?_
 refine RL.call Try.func34 bd34 rfl rfl (c_maps_Clone_model_totals_packet_Key_flow_Total _ m1.f_cached _ (hM.mapR (i := 2) rfl) _ hx34) fun v w35 hv => ?_
 obtain ⟨g37, rfl, hN36⟩ := hv
 replace hM := hM.call hN36
 refine va rfl rfl ?_
 refine nt hQ32 ?_
 clear hQ32 Q32
 refine KC.seqH fun Q39 hQ39 => ?_
 refine sr fun Q40 hQ40 => ?_
 refine vm rfl rfl ?_
 refine RL.val (O.len sl38 rfl) rfl ?_
 refine vm rfl rfl ?_
 refine nt hQ40 ?_
 clear hQ40 Q40
 refine KC.block ?_
 refine KC.loop (fun k465 a w463 => ∃ (m460 : FM62) (t461 : Int), Kn 60 [(0, .map (some g37)), (1, .slice A21 (nv20.f_Records).length c22), (12, .slice A21 (nv20.f_Records).length c22), (13, vI (nv20.f_Records.length : Int)), (14, vI t461)] a ∧ Mem w ([some g2] ++ ([some g4] ++ ([some g6] ++ ([some g8] ++ ([rblk A10 c11] ++ (Z14.map some ++ ([rblk A16 c17] ++ ([])))))))) w463 [.res [g4] (MR62 g4 m1.f_forwarded), .res [g6] (MR62 g6 m1.f_cached), .res [g8] (MR62 g8 m1.f_lost), .row A10 c11 47 6 (m1.f_entries).length (css13).flatten, .res Z14 (Els RO_model_Entry 6 m1.f_entries css13 Z14), .row A16 c17 3 1 (m1.f_line).length ((m1.f_line).flatMap (eI .i64)), .box g2 tg19 [.map (some g4), .map (some g6), .map (some g8), .slice A10 (m1.f_entries).length c11, .slice A16 (m1.f_line).length c17, v64 m1.f_first, v32 m1.f_boot], .res [g37] (MR62 g37 m460), .box g27 41 [vI nv20.f_Kind, vB nv20.f_Key.f_Src.f_Six, o8 nv20.f_Key.f_Src.f_B 0, o8 nv20.f_Key.f_Src.f_B 1, o8 nv20.f_Key.f_Src.f_B 2, o8 nv20.f_Key.f_Src.f_B 3, o8 nv20.f_Key.f_Src.f_B 4, o8 nv20.f_Key.f_Src.f_B 5, o8 nv20.f_Key.f_Src.f_B 6, o8 nv20.f_Key.f_Src.f_B 7, o8 nv20.f_Key.f_Src.f_B 8, o8 nv20.f_Key.f_Src.f_B 9, o8 nv20.f_Key.f_Src.f_B 10, o8 nv20.f_Key.f_Src.f_B 11, o8 nv20.f_Key.f_Src.f_B 12, o8 nv20.f_Key.f_Src.f_B 13, o8 nv20.f_Key.f_Src.f_B 14, o8 nv20.f_Key.f_Src.f_B 15, vB nv20.f_Key.f_Dst.f_Six, o8 nv20.f_Key.f_Dst.f_B 0, o8 nv20.f_Key.f_Dst.f_B 1, o8 nv20.f_Key.f_Dst.f_B 2, o8 nv20.f_Key.f_Dst.f_B 3, o8 nv20.f_Key.f_Dst.f_B 4, o8 nv20.f_Key.f_Dst.f_B 5, o8 nv20.f_Key.f_Dst.f_B 6, o8 nv20.f_Key.f_Dst.f_B 7, o8 nv20.f_Key.f_Dst.f_B 8, o8 nv20.f_Key.f_Dst.f_B 9, o8 nv20.f_Key.f_Dst.f_B 10, o8 nv20.f_Key.f_Dst.f_B 11, o8 nv20.f_Key.f_Dst.f_B 12, o8 nv20.f_Key.f_Dst.f_B 13, o8 nv20.f_Key.f_Dst.f_B 14, o8 nv20.f_Key.f_Dst.f_B 15, v8 nv20.f_Key.f_Proto, v16 nv20.f_Key.f_SrcPort, v16 nv20.f_Key.f_DstPort, v64 nv20.f_Total.f_Packets, v64 nv20.f_Total.f_Bytes, .slice A21 (nv20.f_Records).length c22, v32 nv20.f_Epoch, v64 nv20.f_N, v64 nv20.f_First, v64 nv20.f_Next]] ∧ F_model_Model_pack_L1 m1 nv20 k465 m460 t461 = some r) ?_ ?_
 ·replace hM := hM.pick [1, 2, 3, 4, 5, 6, 0, 8, 7] rfl (by decide)
  exact fun a ha => ⟨fuel0, y33, 0, ha.less (less_cons rfl (less_cons rfl (less_cons rfl (less_cons rfl (less_cons rfl less_nil))))), hM, hF⟩
 rintro k465 a w463 ⟨m460, t461, ha, hM, hF⟩
 refine KC.app ha ?_
 clear ha
 cases k465 with
 | zero => exact (none_some hF).elim
 | succ k465 =>
 have hF : F_model_Model_pack_l1 (F_model_Model_pack_L1 m1 nv20 k465) m1 nv20 m460 t461 = some r := hF
 unfold F_model_Model_pack_l1 at hF
 refine sr fun Q466 hQ466 => ?_
 refine RL.val (O.lss rfl rfl) rfl ?_
 refine nt hQ466 ?_
 clear hQ466 Q466
 refine KC.seqH fun Q467 hQ467 => ?_
 refine KC.cond rfl (fun hc => ?_) (fun hc => ?_)
 ·rw [if_pos hc] at hF
  refine KC.skip ?_
  refine KQ.thn hQ467 ?_
  clear hQ467 Q467
  refine KC.seqH fun Q468 hQ468 => ?_
  refine KC.block ?_
  refine sr fun Q469 hQ469 => ?_
  refine obindE hF fun xv472 hx471 hF => ?_
  have hA470 := Rd.atN (f := e_flow_Record) (s := 44) (fun _ => rfl) (by decide) (hM.inp hr23 ho24) hx471
  refine RL.val (O.idxA sl38 (hA470) rfl rfl) rfl ?_
  refine RL.val (O.loadN (cs := [vB xv472.f_Key.f_Src.f_Six, o8 xv472.f_Key.f_Src.f_B 0, o8 xv472.f_Key.f_Src.f_B 1, o8 xv472.f_Key.f_Src.f_B 2, o8 xv472.f_Key.f_Src.f_B 3, o8 xv472.f_Key.f_Src.f_B 4, o8 xv472.f_Key.f_Src.f_B 5, o8 xv472.f_Key.f_Src.f_B 6, o8 xv472.f_Key.f_Src.f_B 7, o8 xv472.f_Key.f_Src.f_B 8, o8 xv472.f_Key.f_Src.f_B 9, o8 xv472.f_Key.f_Src.f_B 10, o8 xv472.f_Key.f_Src.f_B 11, o8 xv472.f_Key.f_Src.f_B 12, o8 xv472.f_Key.f_Src.f_B 13, o8 xv472.f_Key.f_Src.f_B 14, o8 xv472.f_Key.f_Src.f_B 15, vB xv472.f_Key.f_Dst.f_Six, o8 xv472.f_Key.f_Dst.f_B 0, o8 xv472.f_Key.f_Dst.f_B 1, o8 xv472.f_Key.f_Dst.f_B 2, o8 xv472.f_Key.f_Dst.f_B 3, o8 xv472.f_Key.f_Dst.f_B 4, o8 xv472.f_Key.f_Dst.f_B 5, o8 xv472.f_Key.f_Dst.f_B 6, o8 xv472.f_Key.f_Dst.f_B 7, o8 xv472.f_Key.f_Dst.f_B 8, o8 xv472.f_Key.f_Dst.f_B 9, o8 xv472.f_Key.f_Dst.f_B 10, o8 xv472.f_Key.f_Dst.f_B 11, o8 xv472.f_Key.f_Dst.f_B 12, o8 xv472.f_Key.f_Dst.f_B 13, o8 xv472.f_Key.f_Dst.f_B 14, o8 xv472.f_Key.f_Dst.f_B 15, v8 xv472.f_Key.f_Proto, v16 xv472.f_Key.f_SrcPort, v16 xv472.f_Key.f_DstPort, v64 xv472.f_Packets, v64 xv472.f_Bytes, v64 xv472.f_First, v64 xv472.f_Last, v8 xv472.f_Flags, v8 xv472.f_Reason, v8 xv472.f_Class]) ag50 rfl (hA470).cells) rfl ?_
  refine RL.eff (E.alloc hM ze50) rfl fun v w474 hv => ?_
  clear hM
  obtain ⟨g473, rfl, hM, hf⟩ := hv
  refine RL.effs (E.stB (j := 9) (off := 0) (vs := [vB xv472.f_Key.f_Src.f_Six, o8 xv472.f_Key.f_Src.f_B 0, o8 xv472.f_Key.f_Src.f_B 1, o8 xv472.f_Key.f_Src.f_B 2, o8 xv472.f_Key.f_Src.f_B 3, o8 xv472.f_Key.f_Src.f_B 4, o8 xv472.f_Key.f_Src.f_B 5, o8 xv472.f_Key.f_Src.f_B 6, o8 xv472.f_Key.f_Src.f_B 7, o8 xv472.f_Key.f_Src.f_B 8, o8 xv472.f_Key.f_Src.f_B 9, o8 xv472.f_Key.f_Src.f_B 10, o8 xv472.f_Key.f_Src.f_B 11, o8 xv472.f_Key.f_Src.f_B 12, o8 xv472.f_Key.f_Src.f_B 13, o8 xv472.f_Key.f_Src.f_B 14, o8 xv472.f_Key.f_Src.f_B 15, vB xv472.f_Key.f_Dst.f_Six, o8 xv472.f_Key.f_Dst.f_B 0, o8 xv472.f_Key.f_Dst.f_B 1, o8 xv472.f_Key.f_Dst.f_B 2, o8 xv472.f_Key.f_Dst.f_B 3, o8 xv472.f_Key.f_Dst.f_B 4, o8 xv472.f_Key.f_Dst.f_B 5, o8 xv472.f_Key.f_Dst.f_B 6, o8 xv472.f_Key.f_Dst.f_B 7, o8 xv472.f_Key.f_Dst.f_B 8, o8 xv472.f_Key.f_Dst.f_B 9, o8 xv472.f_Key.f_Dst.f_B 10, o8 xv472.f_Key.f_Dst.f_B 11, o8 xv472.f_Key.f_Dst.f_B 12, o8 xv472.f_Key.f_Dst.f_B 13, o8 xv472.f_Key.f_Dst.f_B 14, o8 xv472.f_Key.f_Dst.f_B 15, v8 xv472.f_Key.f_Proto, v16 xv472.f_Key.f_SrcPort, v16 xv472.f_Key.f_DstPort, v64 xv472.f_Packets, v64 xv472.f_Bytes, v64 xv472.f_First, v64 xv472.f_Last, v8 xv472.f_Flags, v8 xv472.f_Reason, v8 xv472.f_Class]) (cs' := [vB xv472.f_Key.f_Src.f_Six, o8 xv472.f_Key.f_Src.f_B 0, o8 xv472.f_Key.f_Src.f_B 1, o8 xv472.f_Key.f_Src.f_B 2, o8 xv472.f_Key.f_Src.f_B 3, o8 xv472.f_Key.f_Src.f_B 4, o8 xv472.f_Key.f_Src.f_B 5, o8 xv472.f_Key.f_Src.f_B 6, o8 xv472.f_Key.f_Src.f_B 7, o8 xv472.f_Key.f_Src.f_B 8, o8 xv472.f_Key.f_Src.f_B 9, o8 xv472.f_Key.f_Src.f_B 10, o8 xv472.f_Key.f_Src.f_B 11, o8 xv472.f_Key.f_Src.f_B 12, o8 xv472.f_Key.f_Src.f_B 13, o8 xv472.f_Key.f_Src.f_B 14, o8 xv472.f_Key.f_Src.f_B 15, vB xv472.f_Key.f_Dst.f_Six, o8 xv472.f_Key.f_Dst.f_B 0, o8 xv472.f_Key.f_Dst.f_B 1, o8 xv472.f_Key.f_Dst.f_B 2, o8 xv472.f_Key.f_Dst.f_B 3, o8 xv472.f_Key.f_Dst.f_B 4, o8 xv472.f_Key.f_Dst.f_B 5, o8 xv472.f_Key.f_Dst.f_B 6, o8 xv472.f_Key.f_Dst.f_B 7, o8 xv472.f_Key.f_Dst.f_B 8, o8 xv472.f_Key.f_Dst.f_B 9, o8 xv472.f_Key.f_Dst.f_B 10, o8 xv472.f_Key.f_Dst.f_B 11, o8 xv472.f_Key.f_Dst.f_B 12, o8 xv472.f_Key.f_Dst.f_B 13, o8 xv472.f_Key.f_Dst.f_B 14, o8 xv472.f_Key.f_Dst.f_B 15, v8 xv472.f_Key.f_Proto, v16 xv472.f_Key.f_SrcPort, v16 xv472.f_Key.f_DstPort, v64 xv472.f_Packets, v64 xv472.f_Bytes, v64 xv472.f_First, v64 xv472.f_Last, v8 xv472.f_Flags, v8 xv472.f_Reason, v8 xv472.f_Class]) hM rfl sz50 rfl (adds_eq [] rfl) rfl rfl (One.all rfl) rfl rfl) fun w476 hM1 => ?_
  clear hM
  have hM := hM1
  clear hM1
  refine nt hQ469 ?_
  clear hQ469 Q469
  refine KC.seqH fun Q477 hQ477 => ?_
  replace hM := hM.drewN 1
  refine KC.draw [] [8, 9] [5, 6, 7, 8, 9] [0, 1] (.cons 0 (.cons 1 (.cons 2 (.cons 3 (.cons 4 (.alt3 5 (.alt 6 (.ofList [7, 8, 9]) 7 (.ofList [6, 8, 9])) 6 (.alt 5 (.ofList [7, 8, 9]) 7 (.ofList [5, 8, 9])) 7 (.alt 5 (.ofList [6, 8, 9]) 6 (.ofList [5, 8, 9])))))))) moP (by kernel_rfl) ?_
  refine RD.p rfl rfl rfl rfl (fun w' => O.move rfl) ?_
  refine RD.p rfl rfl rfl rfl (fun w' => O.fldA fl50_0 (by decide) rfl) ?_
  refine RD.q rfl rfl rfl rfl (fun w' hf => O.loadN (cs := [vB xv472.f_Key.f_Src.f_Six, o8 xv472.f_Key.f_Src.f_B 0, o8 xv472.f_Key.f_Src.f_B 1, o8 xv472.f_Key.f_Src.f_B 2, o8 xv472.f_Key.f_Src.f_B 3, o8 xv472.f_Key.f_Src.f_B 4, o8 xv472.f_Key.f_Src.f_B 5, o8 xv472.f_Key.f_Src.f_B 6, o8 xv472.f_Key.f_Src.f_B 7, o8 xv472.f_Key.f_Src.f_B 8, o8 xv472.f_Key.f_Src.f_B 9, o8 xv472.f_Key.f_Src.f_B 10, o8 xv472.f_Key.f_Src.f_B 11, o8 xv472.f_Key.f_Src.f_B 12, o8 xv472.f_Key.f_Src.f_B 13, o8 xv472.f_Key.f_Src.f_B 14, o8 xv472.f_Key.f_Src.f_B 15, vB xv472.f_Key.f_Dst.f_Six, o8 xv472.f_Key.f_Dst.f_B 0, o8 xv472.f_Key.f_Dst.f_B 1, o8 xv472.f_Key.f_Dst.f_B 2, o8 xv472.f_Key.f_Dst.f_B 3, o8 xv472.f_Key.f_Dst.f_B 4, o8 xv472.f_Key.f_Dst.f_B 5, o8 xv472.f_Key.f_Dst.f_B 6, o8 xv472.f_Key.f_Dst.f_B 7, o8 xv472.f_Key.f_Dst.f_B 8, o8 xv472.f_Key.f_Dst.f_B 9, o8 xv472.f_Key.f_Dst.f_B 10, o8 xv472.f_Key.f_Dst.f_B 11, o8 xv472.f_Key.f_Dst.f_B 12, o8 xv472.f_Key.f_Dst.f_B 13, o8 xv472.f_Key.f_Dst.f_B 14, o8 xv472.f_Key.f_Dst.f_B 15, v8 xv472.f_Key.f_Proto, v16 xv472.f_Key.f_SrcPort, v16 xv472.f_Key.f_DstPort]) ag34 rfl (Cs.addsN [0] ((hM.bx (i := 9) rfl).fut hf) rfl)) ?_
  refine RD.q rfl rfl rfl rfl (fun w' hf => O.lkR (k := xv472.f_Key) (ks := [vB xv472.f_Key.f_Src.f_Six, o8 xv472.f_Key.f_Src.f_B 0, o8 xv472.f_Key.f_Src.f_B 1, o8 xv472.f_Key.f_Src.f_B 2, o8 xv472.f_Key.f_Src.f_B 3, o8 xv472.f_Key.f_Src.f_B 4, o8 xv472.f_Key.f_Src.f_B 5, o8 xv472.f_Key.f_Src.f_B 6, o8 xv472.f_Key.f_Src.f_B 7, o8 xv472.f_Key.f_Src.f_B 8, o8 xv472.f_Key.f_Src.f_B 9, o8 xv472.f_Key.f_Src.f_B 10, o8 xv472.f_Key.f_Src.f_B 11, o8 xv472.f_Key.f_Src.f_B 12, o8 xv472.f_Key.f_Src.f_B 13, o8 xv472.f_Key.f_Src.f_B 14, o8 xv472.f_Key.f_Src.f_B 15, vB xv472.f_Key.f_Dst.f_Six, o8 xv472.f_Key.f_Dst.f_B 0, o8 xv472.f_Key.f_Dst.f_B 1, o8 xv472.f_Key.f_Dst.f_B 2, o8 xv472.f_Key.f_Dst.f_B 3, o8 xv472.f_Key.f_Dst.f_B 4, o8 xv472.f_Key.f_Dst.f_B 5, o8 xv472.f_Key.f_Dst.f_B 6, o8 xv472.f_Key.f_Dst.f_B 7, o8 xv472.f_Key.f_Dst.f_B 8, o8 xv472.f_Key.f_Dst.f_B 9, o8 xv472.f_Key.f_Dst.f_B 10, o8 xv472.f_Key.f_Dst.f_B 11, o8 xv472.f_Key.f_Dst.f_B 12, o8 xv472.f_Key.f_Dst.f_B 13, o8 xv472.f_Key.f_Dst.f_B 14, o8 xv472.f_Key.f_Dst.f_B 15, v8 xv472.f_Key.f_Proto, v16 xv472.f_Key.f_SrcPort, v16 xv472.f_Key.f_DstPort]) (zv := (T_flow_Total.mk 0 0)) (vs := [v64 (((m460 xv472.f_Key).getD (T_flow_Total.mk 0 0)).f_Packets), v64 (((m460 xv472.f_Key).getD (T_flow_Total.mk 0 0)).f_Bytes)]) mt62 ((hM.mapR (i := 7) rfl).fut hf) (by kernel_rfl) rfl rfl rfl rfl) ?_
  refine RD.q rfl rfl rfl rfl (fun w' hf => O.loadN (cs := [vB xv472.f_Key.f_Src.f_Six, o8 xv472.f_Key.f_Src.f_B 0, o8 xv472.f_Key.f_Src.f_B 1, o8 xv472.f_Key.f_Src.f_B 2, o8 xv472.f_Key.f_Src.f_B 3, o8 xv472.f_Key.f_Src.f_B 4, o8 xv472.f_Key.f_Src.f_B 5, o8 xv472.f_Key.f_Src.f_B 6, o8 xv472.f_Key.f_Src.f_B 7, o8 xv472.f_Key.f_Src.f_B 8, o8 xv472.f_Key.f_Src.f_B 9, o8 xv472.f_Key.f_Src.f_B 10, o8 xv472.f_Key.f_Src.f_B 11, o8 xv472.f_Key.f_Src.f_B 12, o8 xv472.f_Key.f_Src.f_B 13, o8 xv472.f_Key.f_Src.f_B 14, o8 xv472.f_Key.f_Src.f_B 15, vB xv472.f_Key.f_Dst.f_Six, o8 xv472.f_Key.f_Dst.f_B 0, o8 xv472.f_Key.f_Dst.f_B 1, o8 xv472.f_Key.f_Dst.f_B 2, o8 xv472.f_Key.f_Dst.f_B 3, o8 xv472.f_Key.f_Dst.f_B 4, o8 xv472.f_Key.f_Dst.f_B 5, o8 xv472.f_Key.f_Dst.f_B 6, o8 xv472.f_Key.f_Dst.f_B 7, o8 xv472.f_Key.f_Dst.f_B 8, o8 xv472.f_Key.f_Dst.f_B 9, o8 xv472.f_Key.f_Dst.f_B 10, o8 xv472.f_Key.f_Dst.f_B 11, o8 xv472.f_Key.f_Dst.f_B 12, o8 xv472.f_Key.f_Dst.f_B 13, o8 xv472.f_Key.f_Dst.f_B 14, o8 xv472.f_Key.f_Dst.f_B 15, v8 xv472.f_Key.f_Proto, v16 xv472.f_Key.f_SrcPort, v16 xv472.f_Key.f_DstPort, v64 xv472.f_Packets, v64 xv472.f_Bytes, v64 xv472.f_First, v64 xv472.f_Last, v8 xv472.f_Flags, v8 xv472.f_Reason, v8 xv472.f_Class]) ag50 rfl (Cs.addsN [] ((hM.bx (i := 9) rfl).fut hf) rfl)) ?_
  refine RD.alt3 ?_ ?_ ?_
  ·refine obindE hF fun y478 hx479 hF => ?_
   refine RD.mcall rfl rfl trivial Try.func13 bd13 rfl rfl (c_flow_Record_Total _ xv472 _ hx479) fun v w480 hv => ?_
   obtain ⟨rfl, hN481⟩ := hv
   refine ⟨fun _ => hN481.fut, ?_⟩
   replace hM := hM.call0 hN481
   refine RD.alt ?_ ?_
   ·refine RD.meff rfl rfl (E.alloc hM ze37) rfl fun v w483 hv => ?_
    clear hM
    obtain ⟨g482, rfl, hM, hf⟩ := hv
    refine ⟨fun _ => hf, ?_⟩
    refine RD.meff rfl rfl (E.alloc hM ze37) rfl fun v w486 hv => ?_
    clear hM
    obtain ⟨g485, rfl, hM, hf⟩ := hv
    refine ⟨fun _ => hf, ?_⟩
    refine RD.meffs rfl rfl rfl (E.stB (j := 10) (off := 0) (vs := [v64 (((m460 xv472.f_Key).getD (T_flow_Total.mk 0 0)).f_Packets), v64 (((m460 xv472.f_Key).getD (T_flow_Total.mk 0 0)).f_Bytes)]) (cs' := [v64 (((m460 xv472.f_Key).getD (T_flow_Total.mk 0 0)).f_Packets), v64 (((m460 xv472.f_Key).getD (T_flow_Total.mk 0 0)).f_Bytes)]) hM rfl sz37 rfl (adds_eq [] rfl) rfl rfl (One.all rfl) rfl rfl) fun w488 hM1 => ?_
    clear hM
    have hM := hM1
    clear hM1
    refine RD.meffs rfl rfl rfl (E.stB (j := 11) (off := 0) (vs := [v64 y478.f_Packets, v64 y478.f_Bytes]) (cs' := [v64 y478.f_Packets, v64 y478.f_Bytes]) hM rfl sz37 rfl (adds_eq [] rfl) rfl rfl (One.all rfl) rfl rfl) fun w489 hM1 => ?_
    clear hM
    have hM := hM1
    clear hM1
    refine RD.nil ?_
    refine KQ.thn hQ477 ?_
    clear hQ477 Q477
    refine KC.seqH fun Q490 hQ490 => ?_
    refine KC.cut (fun a w508 => ∃ (t506 : Bool), Kn 60 [(0, .map (some g37)), (1, .slice A21 (nv20.f_Records).length c22), (7, .pointer (some ⟨g473, 0, none⟩)), (8, .pointer (some ⟨g482, 0, none⟩)), (9, .pointer (some ⟨g485, 0, none⟩)), (12, .slice A21 (nv20.f_Records).length c22), (13, vI (nv20.f_Records.length : Int)), (14, vI t461), (40, vB t506)] a ∧ Mem w ([some g2] ++ ([some g4] ++ ([some g6] ++ ([some g8] ++ ([rblk A10 c11] ++ (Z14.map some ++ ([rblk A16 c17] ++ ([])))))))) w508 [.res [g4] (MR62 g4 m1.f_forwarded), .res [g6] (MR62 g6 m1.f_cached), .res [g8] (MR62 g8 m1.f_lost), .row A10 c11 47 6 (m1.f_entries).length (css13).flatten, .res Z14 (Els RO_model_Entry 6 m1.f_entries css13 Z14), .row A16 c17 3 1 (m1.f_line).length ((m1.f_line).flatMap (eI .i64)), .box g2 tg19 [.map (some g4), .map (some g6), .map (some g8), .slice A10 (m1.f_entries).length c11, .slice A16 (m1.f_line).length c17, v64 m1.f_first, v32 m1.f_boot], .res [g37] (MR62 g37 m460), .box g473 50 [vB xv472.f_Key.f_Src.f_Six, o8 xv472.f_Key.f_Src.f_B 0, o8 xv472.f_Key.f_Src.f_B 1, o8 xv472.f_Key.f_Src.f_B 2, o8 xv472.f_Key.f_Src.f_B 3, o8 xv472.f_Key.f_Src.f_B 4, o8 xv472.f_Key.f_Src.f_B 5, o8 xv472.f_Key.f_Src.f_B 6, o8 xv472.f_Key.f_Src.f_B 7, o8 xv472.f_Key.f_Src.f_B 8, o8 xv472.f_Key.f_Src.f_B 9, o8 xv472.f_Key.f_Src.f_B 10, o8 xv472.f_Key.f_Src.f_B 11, o8 xv472.f_Key.f_Src.f_B 12, o8 xv472.f_Key.f_Src.f_B 13, o8 xv472.f_Key.f_Src.f_B 14, o8 xv472.f_Key.f_Src.f_B 15, vB xv472.f_Key.f_Dst.f_Six, o8 xv472.f_Key.f_Dst.f_B 0, o8 xv472.f_Key.f_Dst.f_B 1, o8 xv472.f_Key.f_Dst.f_B 2, o8 xv472.f_Key.f_Dst.f_B 3, o8 xv472.f_Key.f_Dst.f_B 4, o8 xv472.f_Key.f_Dst.f_B 5, o8 xv472.f_Key.f_Dst.f_B 6, o8 xv472.f_Key.f_Dst.f_B 7, o8 xv472.f_Key.f_Dst.f_B 8, o8 xv472.f_Key.f_Dst.f_B 9, o8 xv472.f_Key.f_Dst.f_B 10, o8 xv472.f_Key.f_Dst.f_B 11, o8 xv472.f_Key.f_Dst.f_B 12, o8 xv472.f_Key.f_Dst.f_B 13, o8 xv472.f_Key.f_Dst.f_B 14, o8 xv472.f_Key.f_Dst.f_B 15, v8 xv472.f_Key.f_Proto, v16 xv472.f_Key.f_SrcPort, v16 xv472.f_Key.f_DstPort, v64 xv472.f_Packets, v64 xv472.f_Bytes, v64 xv472.f_First, v64 xv472.f_Last, v8 xv472.f_Flags, v8 xv472.f_Reason, v8 xv472.f_Class], .box g482 37 [v64 (((m460 xv472.f_Key).getD (T_flow_Total.mk 0 0)).f_Packets), v64 (((m460 xv472.f_Key).getD (T_flow_Total.mk 0 0)).f_Bytes)], .box g485 37 [v64 y478.f_Packets, v64 y478.f_Bytes], .box g27 41 [vI nv20.f_Kind, vB nv20.f_Key.f_Src.f_Six, o8 nv20.f_Key.f_Src.f_B 0, o8 nv20.f_Key.f_Src.f_B 1, o8 nv20.f_Key.f_Src.f_B 2, o8 nv20.f_Key.f_Src.f_B 3, o8 nv20.f_Key.f_Src.f_B 4, o8 nv20.f_Key.f_Src.f_B 5, o8 nv20.f_Key.f_Src.f_B 6, o8 nv20.f_Key.f_Src.f_B 7, o8 nv20.f_Key.f_Src.f_B 8, o8 nv20.f_Key.f_Src.f_B 9, o8 nv20.f_Key.f_Src.f_B 10, o8 nv20.f_Key.f_Src.f_B 11, o8 nv20.f_Key.f_Src.f_B 12, o8 nv20.f_Key.f_Src.f_B 13, o8 nv20.f_Key.f_Src.f_B 14, o8 nv20.f_Key.f_Src.f_B 15, vB nv20.f_Key.f_Dst.f_Six, o8 nv20.f_Key.f_Dst.f_B 0, o8 nv20.f_Key.f_Dst.f_B 1, o8 nv20.f_Key.f_Dst.f_B 2, o8 nv20.f_Key.f_Dst.f_B 3, o8 nv20.f_Key.f_Dst.f_B 4, o8 nv20.f_Key.f_Dst.f_B 5, o8 nv20.f_Key.f_Dst.f_B 6, o8 nv20.f_Key.f_Dst.f_B 7, o8 nv20.f_Key.f_Dst.f_B 8, o8 nv20.f_Key.f_Dst.f_B 9, o8 nv20.f_Key.f_Dst.f_B 10, o8 nv20.f_Key.f_Dst.f_B 11, o8 nv20.f_Key.f_Dst.f_B 12, o8 nv20.f_Key.f_Dst.f_B 13, o8 nv20.f_Key.f_Dst.f_B 14, o8 nv20.f_Key.f_Dst.f_B 15, v8 nv20.f_Key.f_Proto, v16 nv20.f_Key.f_SrcPort, v16 nv20.f_Key.f_DstPort, v64 nv20.f_Total.f_Packets, v64 nv20.f_Total.f_Bytes, .slice A21 (nv20.f_Records).length c22, v32 nv20.f_Epoch, v64 nv20.f_N, v64 nv20.f_First, v64 nv20.f_Next]] ∧ F_model_Model_pack_j1 m1 m460 t461 (F_model_Model_pack_L1 m1 nv20 k465) xv472 y478 t506 = some r) ?_ ?_
    ·refine KC.region ?_
     refine RL.val (O.loadN (cs := [vB xv472.f_Key.f_Src.f_Six, o8 xv472.f_Key.f_Src.f_B 0, o8 xv472.f_Key.f_Src.f_B 1, o8 xv472.f_Key.f_Src.f_B 2, o8 xv472.f_Key.f_Src.f_B 3, o8 xv472.f_Key.f_Src.f_B 4, o8 xv472.f_Key.f_Src.f_B 5, o8 xv472.f_Key.f_Src.f_B 6, o8 xv472.f_Key.f_Src.f_B 7, o8 xv472.f_Key.f_Src.f_B 8, o8 xv472.f_Key.f_Src.f_B 9, o8 xv472.f_Key.f_Src.f_B 10, o8 xv472.f_Key.f_Src.f_B 11, o8 xv472.f_Key.f_Src.f_B 12, o8 xv472.f_Key.f_Src.f_B 13, o8 xv472.f_Key.f_Src.f_B 14, o8 xv472.f_Key.f_Src.f_B 15, vB xv472.f_Key.f_Dst.f_Six, o8 xv472.f_Key.f_Dst.f_B 0, o8 xv472.f_Key.f_Dst.f_B 1, o8 xv472.f_Key.f_Dst.f_B 2, o8 xv472.f_Key.f_Dst.f_B 3, o8 xv472.f_Key.f_Dst.f_B 4, o8 xv472.f_Key.f_Dst.f_B 5, o8 xv472.f_Key.f_Dst.f_B 6, o8 xv472.f_Key.f_Dst.f_B 7, o8 xv472.f_Key.f_Dst.f_B 8, o8 xv472.f_Key.f_Dst.f_B 9, o8 xv472.f_Key.f_Dst.f_B 10, o8 xv472.f_Key.f_Dst.f_B 11, o8 xv472.f_Key.f_Dst.f_B 12, o8 xv472.f_Key.f_Dst.f_B 13, o8 xv472.f_Key.f_Dst.f_B 14, o8 xv472.f_Key.f_Dst.f_B 15, v8 xv472.f_Key.f_Proto, v16 xv472.f_Key.f_SrcPort, v16 xv472.f_Key.f_DstPort, v64 xv472.f_Packets, v64 xv472.f_Bytes, v64 xv472.f_First, v64 xv472.f_Last, v8 xv472.f_Flags, v8 xv472.f_Reason, v8 xv472.f_Class]) ag50 rfl (Cs.addsN [] ((hM.bx (i := 9) rfl)) rfl)) rfl ?_
     refine obindE hF fun y491 hx492 hF => ?_
     refine RL.call Try.func57 bd57 rfl rfl (c_flow_Record_Right _ xv472 _ hx492) fun v w493 hv => ?_
     obtain ⟨rfl, hN494⟩ := hv
     replace hM := hM.call0 hN494
     refine RL.val (O.not rfl) rfl ?_
     refine vm rfl rfl ?_
     refine RL.bcase (t := 27) rfl (fun hc => ?_) (fun hc => ?_)
     ·rw [if_pos hc] at hF
      refine RL.gskip rfl rfl rfl rfl ?_
      refine RL.gskip rfl rfl rfl rfl ?_
      refine RL.gskip rfl rfl rfl rfl ?_
      refine RL.gskip rfl rfl rfl rfl ?_
      refine RL.gskip rfl rfl rfl rfl ?_
      refine RL.val (O.pickt rfl rfl) rfl ?_
      refine vm rfl rfl ?_
      refine RL.gskip rfl rfl rfl rfl ?_
      refine RL.gskip rfl rfl rfl rfl ?_
      refine RL.gskip rfl rfl rfl rfl ?_
      refine RL.gskip rfl rfl rfl rfl ?_
      refine RL.gskip rfl rfl rfl rfl ?_
      refine RL.val (O.pickt rfl rfl) rfl ?_
      refine RL.nil ?_
      refine KQ.then_k ?_
      replace hM := hM.pick [0, 1, 2, 3, 4, 5, 6, 7, 9, 10, 11, 8] rfl (by decide)
      exact fun a ha => ⟨true, ha.less (less_cons rfl (less_cons rfl (less_cons rfl (less_cons rfl (less_cons rfl (less_cons rfl (less_cons rfl (less_cons rfl (less_cons rfl less_nil))))))))), hM, hF⟩
     rw [if_neg (ne_true hc)] at hF
     refine RL.gval rfl rfl (O.fldA fl37_0 (by decide) rfl) rfl ?_
     refine RL.gval rfl rfl (O.load sc35 rfl (Cs.adds [0] ((hM.bx (i := 11) rfl)) rfl)) rfl ?_
     refine RL.gval rfl rfl (O.fldA fl37_0 (by decide) rfl) rfl ?_
     refine RL.gval rfl rfl (O.load sc35 rfl (Cs.adds [0] ((hM.bx (i := 10) rfl)) rfl)) rfl ?_
     refine RL.gval rfl rfl (O.gtr rfl rfl) rfl ?_
     refine RL.val (O.pickf rfl rfl) rfl ?_
     refine vm rfl rfl ?_
     refine RL.bcase (t := 34) rfl (fun hc => ?_) (fun hc => ?_)
     ·rw [if_pos hc] at hF
      refine RL.gskip rfl rfl rfl rfl ?_
      refine RL.gskip rfl rfl rfl rfl ?_
      refine RL.gskip rfl rfl rfl rfl ?_
      refine RL.gskip rfl rfl rfl rfl ?_
      refine RL.gskip rfl rfl rfl rfl ?_
      refine RL.val (O.pickt rfl rfl) rfl ?_
      refine RL.nil ?_
      refine KQ.then_k ?_
      replace hM := hM.pick [0, 1, 2, 3, 4, 5, 6, 7, 9, 10, 11, 8] rfl (by decide)
      exact fun a ha => ⟨true, ha.less (less_cons rfl (less_cons rfl (less_cons rfl (less_cons rfl (less_cons rfl (less_cons rfl (less_cons rfl (less_cons rfl (less_cons rfl less_nil))))))))), hM, hF⟩
     rw [if_neg (ne_true hc)] at hF
     refine RL.gval rfl rfl (O.fldA fl37_1 (by decide) rfl) rfl ?_
     refine RL.gval rfl rfl (O.load sc35 rfl (Cs.adds [1] ((hM.bx (i := 11) rfl)) rfl)) rfl ?_
     refine RL.gval rfl rfl (O.fldA fl37_1 (by decide) rfl) rfl ?_
     refine RL.gval rfl rfl (O.load sc35 rfl (Cs.adds [1] ((hM.bx (i := 10) rfl)) rfl)) rfl ?_
     refine RL.gval rfl rfl (O.gtr rfl rfl) rfl ?_
     refine RL.val (O.pickf rfl rfl) rfl ?_
     refine RL.nil ?_
     refine KQ.then_k ?_
     replace hM := hM.pick [0, 1, 2, 3, 4, 5, 6, 7, 9, 10, 11, 8] rfl (by decide)
     exact fun a ha => ⟨(decide (((m460 xv472.f_Key).getD (T_flow_Total.mk 0 0)).f_Bytes < y478.f_Bytes)), ha.less (less_cons rfl (less_cons rfl (less_cons rfl (less_cons rfl (less_cons rfl (less_cons rfl (less_cons rfl (less_cons rfl (less_cons rfl less_nil))))))))), hM, hF⟩
    rintro a w508 ⟨t506, ha, hM, hF⟩
    refine KC.app ha ?_
    clear ha
    unfold F_model_Model_pack_j1 at hF
    refine KC.cond rfl (fun hc => ?_) (fun hc => ?_)
    ·rw [if_pos hc] at hF
     refine sr fun Q509 hQ509 => ?_
     refine va rfl rfl ?_
     refine va rfl rfl ?_
     refine nt hQ509 ?_
     clear hQ509 Q509
     refine KC.ret ?_
     refine KQ.thr hQ490 ?_
     clear hQ490 Q490
     refine KQ.blk_r ?_
     refine KQ.thr hQ468 ?_
     clear hQ468 Q468
     refine KQ.then_r ?_
     refine KQ.blk_r ?_
     refine KQ.thr hQ39 ?_
     clear hQ39 Q39
     refine KQ.rets Try.results38 (RVs.cons (RV.tm rfl) (RVs.cons (RV.tm rfl) RVs.nil)) ?_
     refine ⟨.tuple #[.map none, vB false], rfl, ?_⟩
     refine RD.p rfl rfl rfl rfl (fun w' => O.move rfl) ?_
     refine RD.p rfl rfl rfl rfl (fun w' => O.ext rfl rfl) ?_
     refine RD.p rfl rfl rfl rfl (fun w' => O.ext rfl rfl) ?_
     refine RD.p rfl rfl rfl rfl (fun w' => O.assign rfl) ?_
     refine RD.p rfl rfl rfl rfl (fun w' => O.assign rfl) ?_
     refine RD.nil ?_
     refine KQ.thn hQ30 ?_
     clear hQ30 Q30
     replace hM := hM.pick [0, 1, 2, 3, 4, 5, 6, 11] rfl (by decide)
     refine KC.seqH fun Q510 hQ510 => ?_
     refine KC.cut (fun a w519 => Kn 77 [(0, .pointer (some ⟨g2, 0, none⟩)), (3, .pointer (some ⟨g27, 0, none⟩)), (5, .map none), (41, vB true)] a ∧ Mem w ([some g2] ++ ([some g4] ++ ([some g6] ++ ([some g8] ++ ([rblk A10 c11] ++ (Z14.map some ++ ([rblk A16 c17] ++ ([])))))))) w519 [.res [g4] (MR62 g4 m1.f_forwarded), .res [g6] (MR62 g6 m1.f_cached), .res [g8] (MR62 g8 m1.f_lost), .row A10 c11 47 6 (m1.f_entries).length (css13).flatten, .res Z14 (Els RO_model_Entry 6 m1.f_entries css13 Z14), .row A16 c17 3 1 (m1.f_line).length ((m1.f_line).flatMap (eI .i64)), .box g2 tg19 [.map (some g4), .map (some g6), .map (some g8), .slice A10 (m1.f_entries).length c11, .slice A16 (m1.f_line).length c17, v64 m1.f_first, v32 m1.f_boot], .box g27 41 [vI nv20.f_Kind, vB nv20.f_Key.f_Src.f_Six, o8 nv20.f_Key.f_Src.f_B 0, o8 nv20.f_Key.f_Src.f_B 1, o8 nv20.f_Key.f_Src.f_B 2, o8 nv20.f_Key.f_Src.f_B 3, o8 nv20.f_Key.f_Src.f_B 4, o8 nv20.f_Key.f_Src.f_B 5, o8 nv20.f_Key.f_Src.f_B 6, o8 nv20.f_Key.f_Src.f_B 7, o8 nv20.f_Key.f_Src.f_B 8, o8 nv20.f_Key.f_Src.f_B 9, o8 nv20.f_Key.f_Src.f_B 10, o8 nv20.f_Key.f_Src.f_B 11, o8 nv20.f_Key.f_Src.f_B 12, o8 nv20.f_Key.f_Src.f_B 13, o8 nv20.f_Key.f_Src.f_B 14, o8 nv20.f_Key.f_Src.f_B 15, vB nv20.f_Key.f_Dst.f_Six, o8 nv20.f_Key.f_Dst.f_B 0, o8 nv20.f_Key.f_Dst.f_B 1, o8 nv20.f_Key.f_Dst.f_B 2, o8 nv20.f_Key.f_Dst.f_B 3, o8 nv20.f_Key.f_Dst.f_B 4, o8 nv20.f_Key.f_Dst.f_B 5, o8 nv20.f_Key.f_Dst.f_B 6, o8 nv20.f_Key.f_Dst.f_B 7, o8 nv20.f_Key.f_Dst.f_B 8, o8 nv20.f_Key.f_Dst.f_B 9, o8 nv20.f_Key.f_Dst.f_B 10, o8 nv20.f_Key.f_Dst.f_B 11, o8 nv20.f_Key.f_Dst.f_B 12, o8 nv20.f_Key.f_Dst.f_B 13, o8 nv20.f_Key.f_Dst.f_B 14, o8 nv20.f_Key.f_Dst.f_B 15, v8 nv20.f_Key.f_Proto, v16 nv20.f_Key.f_SrcPort, v16 nv20.f_Key.f_DstPort, v64 nv20.f_Total.f_Packets, v64 nv20.f_Total.f_Bytes, .slice A21 (nv20.f_Records).length c22, v32 nv20.f_Epoch, v64 nv20.f_N, v64 nv20.f_First, v64 nv20.f_Next]] ∧ F_model_Model_pack_j2 m1 = some r) ?_ ?_
     ·replace hM := hM.drewN 1
      refine KC.draw [] [] [22] [0, 1, 2, 3, 4, 5, 7, 8, 9, 10, 12, 13, 14, 16, 17, 18, 19, 21, 23, 24] (.ofList [0, 1, 2, 3, 4, 5, 6, 7, 8, 9, 10, 11, 12, 13, 14, 15, 16, 17, 18, 19, 20, 21, 22, 23, 24]) moP (by kernel_rfl) ?_
      refine RD.p rfl rfl rfl rfl (fun w' => O.move rfl) ?_
      refine RD.p rfl rfl rfl rfl (fun w' => O.not rfl) ?_
      refine RD.brun1 [2, 3, 4, 5, 6, 7, 8, 9, 10, 11, 12, 13, 14, 15, 16, 17, 18, 19, 20, 21, 22, 23, 24] 41 true (by kernel_rfl) ?_
      refine RD.nil ?_
      refine KQ.then_k ?_
      exact fun a ha => ⟨ha.less (less_cons rfl (less_cons rfl (less_cons rfl (less_cons rfl less_nil)))), hM, hF⟩
     rintro a w519 ⟨ha, hM, hF⟩
     refine KC.app ha ?_
     clear ha
     unfold F_model_Model_pack_j2 at hF
     refine KC.condT rfl ?_
     refine sr fun Q520 hQ520 => ?_
     refine va rfl rfl ?_
     refine nt hQ520 ?_
     clear hQ520 Q520
     refine KC.ret ?_
     refine KQ.thr hQ510 ?_
     clear hQ510 Q510
     have hE := Option.some.inj hF
     clear hF
     subst hE
     replace hM := hM.pick [6, 0, 1, 2, 3, 4, 5] rfl (by decide)
     refine KQ.rets Try.results21 (RVs.cons (RV.tm rfl) RVs.nil) ?_
     exact ⟨_, rfl, g4, g6, g8, A10, c11, css13, Z14, A16, c17, rfl, hM⟩
    rw [if_neg (ne_true hc)] at hF
    refine KC.skip ?_
    refine KQ.thn hQ490 ?_
    clear hQ490 Q490
    refine KC.region ?_
    refine vm rfl rfl ?_
    refine RL.val (O.fldA fl50_0 (by decide) rfl) rfl ?_
    refine RL.val (O.loadN (cs := [vB xv472.f_Key.f_Src.f_Six, o8 xv472.f_Key.f_Src.f_B 0, o8 xv472.f_Key.f_Src.f_B 1, o8 xv472.f_Key.f_Src.f_B 2, o8 xv472.f_Key.f_Src.f_B 3, o8 xv472.f_Key.f_Src.f_B 4, o8 xv472.f_Key.f_Src.f_B 5, o8 xv472.f_Key.f_Src.f_B 6, o8 xv472.f_Key.f_Src.f_B 7, o8 xv472.f_Key.f_Src.f_B 8, o8 xv472.f_Key.f_Src.f_B 9, o8 xv472.f_Key.f_Src.f_B 10, o8 xv472.f_Key.f_Src.f_B 11, o8 xv472.f_Key.f_Src.f_B 12, o8 xv472.f_Key.f_Src.f_B 13, o8 xv472.f_Key.f_Src.f_B 14, o8 xv472.f_Key.f_Src.f_B 15, vB xv472.f_Key.f_Dst.f_Six, o8 xv472.f_Key.f_Dst.f_B 0, o8 xv472.f_Key.f_Dst.f_B 1, o8 xv472.f_Key.f_Dst.f_B 2, o8 xv472.f_Key.f_Dst.f_B 3, o8 xv472.f_Key.f_Dst.f_B 4, o8 xv472.f_Key.f_Dst.f_B 5, o8 xv472.f_Key.f_Dst.f_B 6, o8 xv472.f_Key.f_Dst.f_B 7, o8 xv472.f_Key.f_Dst.f_B 8, o8 xv472.f_Key.f_Dst.f_B 9, o8 xv472.f_Key.f_Dst.f_B 10, o8 xv472.f_Key.f_Dst.f_B 11, o8 xv472.f_Key.f_Dst.f_B 12, o8 xv472.f_Key.f_Dst.f_B 13, o8 xv472.f_Key.f_Dst.f_B 14, o8 xv472.f_Key.f_Dst.f_B 15, v8 xv472.f_Key.f_Proto, v16 xv472.f_Key.f_SrcPort, v16 xv472.f_Key.f_DstPort]) ag34 rfl (Cs.addsN [0] ((hM.bx (i := 8) rfl)) rfl)) rfl ?_
    refine RL.val (O.fldA fl37_0 (by decide) rfl) rfl ?_
    refine RL.val (O.load sc35 rfl (Cs.adds [0] ((hM.bx (i := 9) rfl)) rfl)) rfl ?_
    refine RL.val (O.fldA fl37_0 (by decide) rfl) rfl ?_
    refine RL.val (O.load sc35 rfl (Cs.adds [0] ((hM.bx (i := 10) rfl)) rfl)) rfl ?_
    refine RL.val (O.sub rfl rfl) rfl ?_
    refine RL.val (O.fldA fl37_1 (by decide) rfl) rfl ?_
    refine RL.val (O.load sc35 rfl (Cs.adds [1] ((hM.bx (i := 9) rfl)) rfl)) rfl ?_
    refine RL.val (O.fldA fl37_1 (by decide) rfl) rfl ?_
    refine RL.val (O.load sc35 rfl (Cs.adds [1] ((hM.bx (i := 10) rfl)) rfl)) rfl ?_
    refine RL.val (O.sub rfl rfl) rfl ?_
    refine RL.val (O.bld (cs := [v64 (IntKind.u64.wrap (((m460 xv472.f_Key).getD (T_flow_Total.mk 0 0)).f_Packets - y478.f_Packets)), v64 (IntKind.u64.wrap (((m460 xv472.f_Key).getD (T_flow_Total.mk 0 0)).f_Bytes - y478.f_Bytes))]) bt37 rfl (by kernel_rfl)) rfl ?_
    refine RL.effs (E.mup (k := xv472.f_Key) (u := (T_flow_Total.mk (IntKind.u64.wrap (((m460 xv472.f_Key).getD (T_flow_Total.mk 0 0)).f_Packets - y478.f_Packets)) (IntKind.u64.wrap (((m460 xv472.f_Key).getD (T_flow_Total.mk 0 0)).f_Bytes - y478.f_Bytes)))) (ks := [vB xv472.f_Key.f_Src.f_Six, o8 xv472.f_Key.f_Src.f_B 0, o8 xv472.f_Key.f_Src.f_B 1, o8 xv472.f_Key.f_Src.f_B 2, o8 xv472.f_Key.f_Src.f_B 3, o8 xv472.f_Key.f_Src.f_B 4, o8 xv472.f_Key.f_Src.f_B 5, o8 xv472.f_Key.f_Src.f_B 6, o8 xv472.f_Key.f_Src.f_B 7, o8 xv472.f_Key.f_Src.f_B 8, o8 xv472.f_Key.f_Src.f_B 9, o8 xv472.f_Key.f_Src.f_B 10, o8 xv472.f_Key.f_Src.f_B 11, o8 xv472.f_Key.f_Src.f_B 12, o8 xv472.f_Key.f_Src.f_B 13, o8 xv472.f_Key.f_Src.f_B 14, o8 xv472.f_Key.f_Src.f_B 15, vB xv472.f_Key.f_Dst.f_Six, o8 xv472.f_Key.f_Dst.f_B 0, o8 xv472.f_Key.f_Dst.f_B 1, o8 xv472.f_Key.f_Dst.f_B 2, o8 xv472.f_Key.f_Dst.f_B 3, o8 xv472.f_Key.f_Dst.f_B 4, o8 xv472.f_Key.f_Dst.f_B 5, o8 xv472.f_Key.f_Dst.f_B 6, o8 xv472.f_Key.f_Dst.f_B 7, o8 xv472.f_Key.f_Dst.f_B 8, o8 xv472.f_Key.f_Dst.f_B 9, o8 xv472.f_Key.f_Dst.f_B 10, o8 xv472.f_Key.f_Dst.f_B 11, o8 xv472.f_Key.f_Dst.f_B 12, o8 xv472.f_Key.f_Dst.f_B 13, o8 xv472.f_Key.f_Dst.f_B 14, o8 xv472.f_Key.f_Dst.f_B 15, v8 xv472.f_Key.f_Proto, v16 xv472.f_Key.f_SrcPort, v16 xv472.f_Key.f_DstPort]) (us := [v64 (IntKind.u64.wrap (((m460 xv472.f_Key).getD (T_flow_Total.mk 0 0)).f_Packets - y478.f_Packets)), v64 (IntKind.u64.wrap (((m460 xv472.f_Key).getD (T_flow_Total.mk 0 0)).f_Bytes - y478.f_Bytes))]) mt62 hM (j := 7) rfl rfl rfl rfl rfl rfl) fun w521 hM1 => ?_
    clear hM
    have hM := hM1
    clear hM1
    refine RL.nil ?_
    refine KQ.blk_n ?_
    refine KQ.thn hQ468 ?_
    clear hQ468 Q468
    replace hM := hM.pick [0, 1, 2, 3, 4, 5, 6, 7, 11] rfl (by decide)
    refine KC.region ?_
    refine RL.val (O.add rfl rfl) rfl ?_
    refine vm rfl rfl ?_
    refine RL.nil ?_
    refine KQ.then_k ?_
    exact fun a ha => ⟨k465, Nat.lt_succ_self k465, (mput q_packet_Key m460 xv472.f_Key (T_flow_Total.mk (IntKind.u64.wrap (((m460 xv472.f_Key).getD (T_flow_Total.mk 0 0)).f_Packets - y478.f_Packets)) (IntKind.u64.wrap (((m460 xv472.f_Key).getD (T_flow_Total.mk 0 0)).f_Bytes - y478.f_Bytes)))), (IntKind.i64.wrap (t461 + 1)), ha.less (less_cons rfl (less_cons rfl (less_cons rfl (less_cons rfl (less_cons rfl less_nil))))), hM, hF⟩
   refine RD.meff rfl rfl (E.alloc hM ze37) rfl fun v w523 hv => ?_
   clear hM
   obtain ⟨g522, rfl, hM, hf⟩ := hv
   refine ⟨fun _ => hf, ?_⟩
   refine RD.meff rfl rfl (E.alloc hM ze37) rfl fun v w526 hv => ?_
   clear hM
   obtain ⟨g525, rfl, hM, hf⟩ := hv
   refine ⟨fun _ => hf, ?_⟩
   refine RD.meffs rfl rfl rfl (E.stB (j := 11) (off := 0) (vs := [v64 (((m460 xv472.f_Key).getD (T_flow_Total.mk 0 0)).f_Packets), v64 (((m460 xv472.f_Key).getD (T_flow_Total.mk 0 0)).f_Bytes)]) (cs' := [v64 (((m460 xv472.f_Key).getD (T_flow_Total.mk 0 0)).f_Packets), v64 (((m460 xv472.f_Key).getD (T_flow_Total.mk 0 0)).f_Bytes)]) hM rfl sz37 rfl (adds_eq [] rfl) rfl rfl (One.all rfl) rfl rfl) fun w528 hM1 => ?_
   clear hM
   have hM := hM1
   clear hM1
   refine RD.meffs rfl rfl rfl (E.stB (j := 10) (off := 0) (vs := [v64 y478.f_Packets, v64 y478.f_Bytes]) (cs' := [v64 y478.f_Packets, v64 y478.f_Bytes]) hM rfl sz37 rfl (adds_eq [] rfl) rfl rfl (One.all rfl) rfl rfl) fun w529 hM1 => ?_
   clear hM
   have hM := hM1
   clear hM1
   refine RD.nil ?_
   refine KQ.thn hQ477 ?_
   clear hQ477 Q477
   refine KC.seqH fun Q530 hQ530 => ?_
   refine KC.cut (fun a w548 => ∃ (t546 : Bool), Kn 60 [(0, .map (some g37)), (1, .slice A21 (nv20.f_Records).length c22), (7, .pointer (some ⟨g473, 0, none⟩)), (8, .pointer (some ⟨g525, 0, none⟩)), (9, .pointer (some ⟨g522, 0, none⟩)), (12, .slice A21 (nv20.f_Records).length c22), (13, vI (nv20.f_Records.length : Int)), (14, vI t461), (40, vB t546)] a ∧ Mem w ([some g2] ++ ([some g4] ++ ([some g6] ++ ([some g8] ++ ([rblk A10 c11] ++ (Z14.map some ++ ([rblk A16 c17] ++ ([])))))))) w548 [.res [g4] (MR62 g4 m1.f_forwarded), .res [g6] (MR62 g6 m1.f_cached), .res [g8] (MR62 g8 m1.f_lost), .row A10 c11 47 6 (m1.f_entries).length (css13).flatten, .res Z14 (Els RO_model_Entry 6 m1.f_entries css13 Z14), .row A16 c17 3 1 (m1.f_line).length ((m1.f_line).flatMap (eI .i64)), .box g2 tg19 [.map (some g4), .map (some g6), .map (some g8), .slice A10 (m1.f_entries).length c11, .slice A16 (m1.f_line).length c17, v64 m1.f_first, v32 m1.f_boot], .res [g37] (MR62 g37 m460), .box g473 50 [vB xv472.f_Key.f_Src.f_Six, o8 xv472.f_Key.f_Src.f_B 0, o8 xv472.f_Key.f_Src.f_B 1, o8 xv472.f_Key.f_Src.f_B 2, o8 xv472.f_Key.f_Src.f_B 3, o8 xv472.f_Key.f_Src.f_B 4, o8 xv472.f_Key.f_Src.f_B 5, o8 xv472.f_Key.f_Src.f_B 6, o8 xv472.f_Key.f_Src.f_B 7, o8 xv472.f_Key.f_Src.f_B 8, o8 xv472.f_Key.f_Src.f_B 9, o8 xv472.f_Key.f_Src.f_B 10, o8 xv472.f_Key.f_Src.f_B 11, o8 xv472.f_Key.f_Src.f_B 12, o8 xv472.f_Key.f_Src.f_B 13, o8 xv472.f_Key.f_Src.f_B 14, o8 xv472.f_Key.f_Src.f_B 15, vB xv472.f_Key.f_Dst.f_Six, o8 xv472.f_Key.f_Dst.f_B 0, o8 xv472.f_Key.f_Dst.f_B 1, o8 xv472.f_Key.f_Dst.f_B 2, o8 xv472.f_Key.f_Dst.f_B 3, o8 xv472.f_Key.f_Dst.f_B 4, o8 xv472.f_Key.f_Dst.f_B 5, o8 xv472.f_Key.f_Dst.f_B 6, o8 xv472.f_Key.f_Dst.f_B 7, o8 xv472.f_Key.f_Dst.f_B 8, o8 xv472.f_Key.f_Dst.f_B 9, o8 xv472.f_Key.f_Dst.f_B 10, o8 xv472.f_Key.f_Dst.f_B 11, o8 xv472.f_Key.f_Dst.f_B 12, o8 xv472.f_Key.f_Dst.f_B 13, o8 xv472.f_Key.f_Dst.f_B 14, o8 xv472.f_Key.f_Dst.f_B 15, v8 xv472.f_Key.f_Proto, v16 xv472.f_Key.f_SrcPort, v16 xv472.f_Key.f_DstPort, v64 xv472.f_Packets, v64 xv472.f_Bytes, v64 xv472.f_First, v64 xv472.f_Last, v8 xv472.f_Flags, v8 xv472.f_Reason, v8 xv472.f_Class], .box g525 37 [v64 (((m460 xv472.f_Key).getD (T_flow_Total.mk 0 0)).f_Packets), v64 (((m460 xv472.f_Key).getD (T_flow_Total.mk 0 0)).f_Bytes)], .box g522 37 [v64 y478.f_Packets, v64 y478.f_Bytes], .box g27 41 [vI nv20.f_Kind, vB nv20.f_Key.f_Src.f_Six, o8 nv20.f_Key.f_Src.f_B 0, o8 nv20.f_Key.f_Src.f_B 1, o8 nv20.f_Key.f_Src.f_B 2, o8 nv20.f_Key.f_Src.f_B 3, o8 nv20.f_Key.f_Src.f_B 4, o8 nv20.f_Key.f_Src.f_B 5, o8 nv20.f_Key.f_Src.f_B 6, o8 nv20.f_Key.f_Src.f_B 7, o8 nv20.f_Key.f_Src.f_B 8, o8 nv20.f_Key.f_Src.f_B 9, o8 nv20.f_Key.f_Src.f_B 10, o8 nv20.f_Key.f_Src.f_B 11, o8 nv20.f_Key.f_Src.f_B 12, o8 nv20.f_Key.f_Src.f_B 13, o8 nv20.f_Key.f_Src.f_B 14, o8 nv20.f_Key.f_Src.f_B 15, vB nv20.f_Key.f_Dst.f_Six, o8 nv20.f_Key.f_Dst.f_B 0, o8 nv20.f_Key.f_Dst.f_B 1, o8 nv20.f_Key.f_Dst.f_B 2, o8 nv20.f_Key.f_Dst.f_B 3, o8 nv20.f_Key.f_Dst.f_B 4, o8 nv20.f_Key.f_Dst.f_B 5, o8 nv20.f_Key.f_Dst.f_B 6, o8 nv20.f_Key.f_Dst.f_B 7, o8 nv20.f_Key.f_Dst.f_B 8, o8 nv20.f_Key.f_Dst.f_B 9, o8 nv20.f_Key.f_Dst.f_B 10, o8 nv20.f_Key.f_Dst.f_B 11, o8 nv20.f_Key.f_Dst.f_B 12, o8 nv20.f_Key.f_Dst.f_B 13, o8 nv20.f_Key.f_Dst.f_B 14, o8 nv20.f_Key.f_Dst.f_B 15, v8 nv20.f_Key.f_Proto, v16 nv20.f_Key.f_SrcPort, v16 nv20.f_Key.f_DstPort, v64 nv20.f_Total.f_Packets, v64 nv20.f_Total.f_Bytes, .slice A21 (nv20.f_Records).length c22, v32 nv20.f_Epoch, v64 nv20.f_N, v64 nv20.f_First, v64 nv20.f_Next]] ∧ F_model_Model_pack_j1 m1 m460 t461 (F_model_Model_pack_L1 m1 nv20 k465) xv472 y478 t546 = some r) ?_ ?_
   ·refine KC.region ?_
    refine RL.val (O.loadN (cs := [vB xv472.f_Key.f_Src.f_Six, o8 xv472.f_Key.f_Src.f_B 0, o8 xv472.f_Key.f_Src.f_B 1, o8 xv472.f_Key.f_Src.f_B 2, o8 xv472.f_Key.f_Src.f_B 3, o8 xv472.f_Key.f_Src.f_B 4, o8 xv472.f_Key.f_Src.f_B 5, o8 xv472.f_Key.f_Src.f_B 6, o8 xv472.f_Key.f_Src.f_B 7, o8 xv472.f_Key.f_Src.f_B 8, o8 xv472.f_Key.f_Src.f_B 9, o8 xv472.f_Key.f_Src.f_B 10, o8 xv472.f_Key.f_Src.f_B 11, o8 xv472.f_Key.f_Src.f_B 12, o8 xv472.f_Key.f_Src.f_B 13, o8 xv472.f_Key.f_Src.f_B 14, o8 xv472.f_Key.f_Src.f_B 15, vB xv472.f_Key.f_Dst.f_Six, o8 xv472.f_Key.f_Dst.f_B 0, o8 xv472.f_Key.f_Dst.f_B 1, o8 xv472.f_Key.f_Dst.f_B 2, o8 xv472.f_Key.f_Dst.f_B 3, o8 xv472.f_Key.f_Dst.f_B 4, o8 xv472.f_Key.f_Dst.f_B 5, o8 xv472.f_Key.f_Dst.f_B 6, o8 xv472.f_Key.f_Dst.f_B 7, o8 xv472.f_Key.f_Dst.f_B 8, o8 xv472.f_Key.f_Dst.f_B 9, o8 xv472.f_Key.f_Dst.f_B 10, o8 xv472.f_Key.f_Dst.f_B 11, o8 xv472.f_Key.f_Dst.f_B 12, o8 xv472.f_Key.f_Dst.f_B 13, o8 xv472.f_Key.f_Dst.f_B 14, o8 xv472.f_Key.f_Dst.f_B 15, v8 xv472.f_Key.f_Proto, v16 xv472.f_Key.f_SrcPort, v16 xv472.f_Key.f_DstPort, v64 xv472.f_Packets, v64 xv472.f_Bytes, v64 xv472.f_First, v64 xv472.f_Last, v8 xv472.f_Flags, v8 xv472.f_Reason, v8 xv472.f_Class]) ag50 rfl (Cs.addsN [] ((hM.bx (i := 9) rfl)) rfl)) rfl ?_
    refine obindE hF fun y531 hx532 hF => ?_
    refine RL.call Try.func57 bd57 rfl rfl (c_flow_Record_Right _ xv472 _ hx532) fun v w533 hv => ?_
    obtain ⟨rfl, hN534⟩ := hv
    replace hM := hM.call0 hN534
    refine RL.val (O.not rfl) rfl ?_
    refine vm rfl rfl ?_
    refine RL.bcase (t := 27) rfl (fun hc => ?_) (fun hc => ?_)
    ·rw [if_pos hc] at hF
     refine RL.gskip rfl rfl rfl rfl ?_
     refine RL.gskip rfl rfl rfl rfl ?_
     refine RL.gskip rfl rfl rfl rfl ?_
     refine RL.gskip rfl rfl rfl rfl ?_
     refine RL.gskip rfl rfl rfl rfl ?_
     refine RL.val (O.pickt rfl rfl) rfl ?_
     refine vm rfl rfl ?_
     refine RL.gskip rfl rfl rfl rfl ?_
     refine RL.gskip rfl rfl rfl rfl ?_
     refine RL.gskip rfl rfl rfl rfl ?_
     refine RL.gskip rfl rfl rfl rfl ?_
     refine RL.gskip rfl rfl rfl rfl ?_
     refine RL.val (O.pickt rfl rfl) rfl ?_
     refine RL.nil ?_
     refine KQ.then_k ?_
     replace hM := hM.pick [0, 1, 2, 3, 4, 5, 6, 7, 9, 11, 10, 8] rfl (by decide)
     exact fun a ha => ⟨true, ha.less (less_cons rfl (less_cons rfl (less_cons rfl (less_cons rfl (less_cons rfl (less_cons rfl (less_cons rfl (less_cons rfl (less_cons rfl less_nil))))))))), hM, hF⟩
    rw [if_neg (ne_true hc)] at hF
    refine RL.gval rfl rfl (O.fldA fl37_0 (by decide) rfl) rfl ?_
    refine RL.gval rfl rfl (O.load sc35 rfl (Cs.adds [0] ((hM.bx (i := 10) rfl)) rfl)) rfl ?_
    refine RL.gval rfl rfl (O.fldA fl37_0 (by decide) rfl) rfl ?_
    refine RL.gval rfl rfl (O.load sc35 rfl (Cs.adds [0] ((hM.bx (i := 11) rfl)) rfl)) rfl ?_
    refine RL.gval rfl rfl (O.gtr rfl rfl) rfl ?_
    refine RL.val (O.pickf rfl rfl) rfl ?_
    refine vm rfl rfl ?_
    refine RL.bcase (t := 34) rfl (fun hc => ?_) (fun hc => ?_)
    ·rw [if_pos hc] at hF
     refine RL.gskip rfl rfl rfl rfl ?_
     refine RL.gskip rfl rfl rfl rfl ?_
     refine RL.gskip rfl rfl rfl rfl ?_
     refine RL.gskip rfl rfl rfl rfl ?_
     refine RL.gskip rfl rfl rfl rfl ?_
     refine RL.val (O.pickt rfl rfl) rfl ?_
     refine RL.nil ?_
     refine KQ.then_k ?_
     replace hM := hM.pick [0, 1, 2, 3, 4, 5, 6, 7, 9, 11, 10, 8] rfl (by decide)
     exact fun a ha => ⟨true, ha.less (less_cons rfl (less_cons rfl (less_cons rfl (less_cons rfl (less_cons rfl (less_cons rfl (less_cons rfl (less_cons rfl (less_cons rfl less_nil))))))))), hM, hF⟩
    rw [if_neg (ne_true hc)] at hF
    refine RL.gval rfl rfl (O.fldA fl37_1 (by decide) rfl) rfl ?_
    refine RL.gval rfl rfl (O.load sc35 rfl (Cs.adds [1] ((hM.bx (i := 10) rfl)) rfl)) rfl ?_
    refine RL.gval rfl rfl (O.fldA fl37_1 (by decide) rfl) rfl ?_
    refine RL.gval rfl rfl (O.load sc35 rfl (Cs.adds [1] ((hM.bx (i := 11) rfl)) rfl)) rfl ?_
    refine RL.gval rfl rfl (O.gtr rfl rfl) rfl ?_
    refine RL.val (O.pickf rfl rfl) rfl ?_
    refine RL.nil ?_
    refine KQ.then_k ?_
    replace hM := hM.pick [0, 1, 2, 3, 4, 5, 6, 7, 9, 11, 10, 8] rfl (by decide)
    exact fun a ha => ⟨(decide (((m460 xv472.f_Key).getD (T_flow_Total.mk 0 0)).f_Bytes < y478.f_Bytes)), ha.less (less_cons rfl (less_cons rfl (less_cons rfl (less_cons rfl (less_cons rfl (less_cons rfl (less_cons rfl (less_cons rfl (less_cons rfl less_nil))))))))), hM, hF⟩
   rintro a w548 ⟨t546, ha, hM, hF⟩
   refine KC.app ha ?_
   clear ha
   unfold F_model_Model_pack_j1 at hF
   refine KC.cond rfl (fun hc => ?_) (fun hc => ?_)
   ·rw [if_pos hc] at hF
    refine sr fun Q549 hQ549 => ?_
    refine va rfl rfl ?_
    refine va rfl rfl ?_
    refine nt hQ549 ?_
    clear hQ549 Q549
    refine KC.ret ?_
    refine KQ.thr hQ530 ?_
    clear hQ530 Q530
    refine KQ.blk_r ?_
    refine KQ.thr hQ468 ?_
    clear hQ468 Q468
    refine KQ.then_r ?_
    refine KQ.blk_r ?_
    refine KQ.thr hQ39 ?_
    clear hQ39 Q39
    refine KQ.rets Try.results38 (RVs.cons (RV.tm rfl) (RVs.cons (RV.tm rfl) RVs.nil)) ?_
    refine ⟨.tuple #[.map none, vB false], rfl, ?_⟩
    refine RD.p rfl rfl rfl rfl (fun w' => O.move rfl) ?_
    refine RD.p rfl rfl rfl rfl (fun w' => O.ext rfl rfl) ?_
    refine RD.p rfl rfl rfl rfl (fun w' => O.ext rfl rfl) ?_
    refine RD.p rfl rfl rfl rfl (fun w' => O.assign rfl) ?_
    refine RD.p rfl rfl rfl rfl (fun w' => O.assign rfl) ?_
    refine RD.nil ?_
    refine KQ.thn hQ30 ?_
    clear hQ30 Q30
    replace hM := hM.pick [0, 1, 2, 3, 4, 5, 6, 11] rfl (by decide)
    refine KC.seqH fun Q550 hQ550 => ?_
    refine KC.cut (fun a w559 => Kn 77 [(0, .pointer (some ⟨g2, 0, none⟩)), (3, .pointer (some ⟨g27, 0, none⟩)), (5, .map none), (41, vB true)] a ∧ Mem w ([some g2] ++ ([some g4] ++ ([some g6] ++ ([some g8] ++ ([rblk A10 c11] ++ (Z14.map some ++ ([rblk A16 c17] ++ ([])))))))) w559 [.res [g4] (MR62 g4 m1.f_forwarded), .res [g6] (MR62 g6 m1.f_cached), .res [g8] (MR62 g8 m1.f_lost), .row A10 c11 47 6 (m1.f_entries).length (css13).flatten, .res Z14 (Els RO_model_Entry 6 m1.f_entries css13 Z14), .row A16 c17 3 1 (m1.f_line).length ((m1.f_line).flatMap (eI .i64)), .box g2 tg19 [.map (some g4), .map (some g6), .map (some g8), .slice A10 (m1.f_entries).length c11, .slice A16 (m1.f_line).length c17, v64 m1.f_first, v32 m1.f_boot], .box g27 41 [vI nv20.f_Kind, vB nv20.f_Key.f_Src.f_Six, o8 nv20.f_Key.f_Src.f_B 0, o8 nv20.f_Key.f_Src.f_B 1, o8 nv20.f_Key.f_Src.f_B 2, o8 nv20.f_Key.f_Src.f_B 3, o8 nv20.f_Key.f_Src.f_B 4, o8 nv20.f_Key.f_Src.f_B 5, o8 nv20.f_Key.f_Src.f_B 6, o8 nv20.f_Key.f_Src.f_B 7, o8 nv20.f_Key.f_Src.f_B 8, o8 nv20.f_Key.f_Src.f_B 9, o8 nv20.f_Key.f_Src.f_B 10, o8 nv20.f_Key.f_Src.f_B 11, o8 nv20.f_Key.f_Src.f_B 12, o8 nv20.f_Key.f_Src.f_B 13, o8 nv20.f_Key.f_Src.f_B 14, o8 nv20.f_Key.f_Src.f_B 15, vB nv20.f_Key.f_Dst.f_Six, o8 nv20.f_Key.f_Dst.f_B 0, o8 nv20.f_Key.f_Dst.f_B 1, o8 nv20.f_Key.f_Dst.f_B 2, o8 nv20.f_Key.f_Dst.f_B 3, o8 nv20.f_Key.f_Dst.f_B 4, o8 nv20.f_Key.f_Dst.f_B 5, o8 nv20.f_Key.f_Dst.f_B 6, o8 nv20.f_Key.f_Dst.f_B 7, o8 nv20.f_Key.f_Dst.f_B 8, o8 nv20.f_Key.f_Dst.f_B 9, o8 nv20.f_Key.f_Dst.f_B 10, o8 nv20.f_Key.f_Dst.f_B 11, o8 nv20.f_Key.f_Dst.f_B 12, o8 nv20.f_Key.f_Dst.f_B 13, o8 nv20.f_Key.f_Dst.f_B 14, o8 nv20.f_Key.f_Dst.f_B 15, v8 nv20.f_Key.f_Proto, v16 nv20.f_Key.f_SrcPort, v16 nv20.f_Key.f_DstPort, v64 nv20.f_Total.f_Packets, v64 nv20.f_Total.f_Bytes, .slice A21 (nv20.f_Records).length c22, v32 nv20.f_Epoch, v64 nv20.f_N, v64 nv20.f_First, v64 nv20.f_Next]] ∧ F_model_Model_pack_j2 m1 = some r) ?_ ?_
    ·replace hM := hM.drewN 1
     refine KC.draw [] [] [22] [0, 1, 2, 3, 4, 5, 7, 8, 9, 10, 12, 13, 14, 16, 17, 18, 19, 21, 23, 24] (.ofList [0, 1, 2, 3, 4, 5, 6, 7, 8, 9, 10, 11, 12, 13, 14, 15, 16, 17, 18, 19, 20, 21, 22, 23, 24]) moP (by kernel_rfl) ?_
     refine RD.p rfl rfl rfl rfl (fun w' => O.move rfl) ?_
     refine RD.p rfl rfl rfl rfl (fun w' => O.not rfl) ?_
     refine RD.brun1 [2, 3, 4, 5, 6, 7, 8, 9, 10, 11, 12, 13, 14, 15, 16, 17, 18, 19, 20, 21, 22, 23, 24] 41 true (by kernel_rfl) ?_
     refine RD.nil ?_
     refine KQ.then_k ?_
     exact fun a ha => ⟨ha.less (less_cons rfl (less_cons rfl (less_cons rfl (less_cons rfl less_nil)))), hM, hF⟩
    rintro a w559 ⟨ha, hM, hF⟩
    refine KC.app ha ?_
    clear ha
    unfold F_model_Model_pack_j2 at hF
    refine KC.condT rfl ?_
    refine sr fun Q560 hQ560 => ?_
    refine va rfl rfl ?_
    refine nt hQ560 ?_
    clear hQ560 Q560
    refine KC.ret ?_
    refine KQ.thr hQ550 ?_
    clear hQ550 Q550
    have hE := Option.some.inj hF
    clear hF
    subst hE
    replace hM := hM.pick [6, 0, 1, 2, 3, 4, 5] rfl (by decide)
    refine KQ.rets Try.results21 (RVs.cons (RV.tm rfl) RVs.nil) ?_
    exact ⟨_, rfl, g4, g6, g8, A10, c11, css13, Z14, A16, c17, rfl, hM⟩
   rw [if_neg (ne_true hc)] at hF
   refine KC.skip ?_
   refine KQ.thn hQ530 ?_
   clear hQ530 Q530
   refine KC.region ?_
   refine vm rfl rfl ?_
   refine RL.val (O.fldA fl50_0 (by decide) rfl) rfl ?_
   refine RL.val (O.loadN (cs := [vB xv472.f_Key.f_Src.f_Six, o8 xv472.f_Key.f_Src.f_B 0, o8 xv472.f_Key.f_Src.f_B 1, o8 xv472.f_Key.f_Src.f_B 2, o8 xv472.f_Key.f_Src.f_B 3, o8 xv472.f_Key.f_Src.f_B 4, o8 xv472.f_Key.f_Src.f_B 5, o8 xv472.f_Key.f_Src.f_B 6, o8 xv472.f_Key.f_Src.f_B 7, o8 xv472.f_Key.f_Src.f_B 8, o8 xv472.f_Key.f_Src.f_B 9, o8 xv472.f_Key.f_Src.f_B 10, o8 xv472.f_Key.f_Src.f_B 11, o8 xv472.f_Key.f_Src.f_B 12, o8 xv472.f_Key.f_Src.f_B 13, o8 xv472.f_Key.f_Src.f_B 14, o8 xv472.f_Key.f_Src.f_B 15, vB xv472.f_Key.f_Dst.f_Six, o8 xv472.f_Key.f_Dst.f_B 0, o8 xv472.f_Key.f_Dst.f_B 1, o8 xv472.f_Key.f_Dst.f_B 2, o8 xv472.f_Key.f_Dst.f_B 3, o8 xv472.f_Key.f_Dst.f_B 4, o8 xv472.f_Key.f_Dst.f_B 5, o8 xv472.f_Key.f_Dst.f_B 6, o8 xv472.f_Key.f_Dst.f_B 7, o8 xv472.f_Key.f_Dst.f_B 8, o8 xv472.f_Key.f_Dst.f_B 9, o8 xv472.f_Key.f_Dst.f_B 10, o8 xv472.f_Key.f_Dst.f_B 11, o8 xv472.f_Key.f_Dst.f_B 12, o8 xv472.f_Key.f_Dst.f_B 13, o8 xv472.f_Key.f_Dst.f_B 14, o8 xv472.f_Key.f_Dst.f_B 15, v8 xv472.f_Key.f_Proto, v16 xv472.f_Key.f_SrcPort, v16 xv472.f_Key.f_DstPort]) ag34 rfl (Cs.addsN [0] ((hM.bx (i := 8) rfl)) rfl)) rfl ?_
   refine RL.val (O.fldA fl37_0 (by decide) rfl) rfl ?_
   refine RL.val (O.load sc35 rfl (Cs.adds [0] ((hM.bx (i := 9) rfl)) rfl)) rfl ?_
   refine RL.val (O.fldA fl37_0 (by decide) rfl) rfl ?_
   refine RL.val (O.load sc35 rfl (Cs.adds [0] ((hM.bx (i := 10) rfl)) rfl)) rfl ?_
   refine RL.val (O.sub rfl rfl) rfl ?_
   refine RL.val (O.fldA fl37_1 (by decide) rfl) rfl ?_
   refine RL.val (O.load sc35 rfl (Cs.adds [1] ((hM.bx (i := 9) rfl)) rfl)) rfl ?_
   refine RL.val (O.fldA fl37_1 (by decide) rfl) rfl ?_
   refine RL.val (O.load sc35 rfl (Cs.adds [1] ((hM.bx (i := 10) rfl)) rfl)) rfl ?_
   refine RL.val (O.sub rfl rfl) rfl ?_
   refine RL.val (O.bld (cs := [v64 (IntKind.u64.wrap (((m460 xv472.f_Key).getD (T_flow_Total.mk 0 0)).f_Packets - y478.f_Packets)), v64 (IntKind.u64.wrap (((m460 xv472.f_Key).getD (T_flow_Total.mk 0 0)).f_Bytes - y478.f_Bytes))]) bt37 rfl (by kernel_rfl)) rfl ?_
   refine RL.effs (E.mup (k := xv472.f_Key) (u := (T_flow_Total.mk (IntKind.u64.wrap (((m460 xv472.f_Key).getD (T_flow_Total.mk 0 0)).f_Packets - y478.f_Packets)) (IntKind.u64.wrap (((m460 xv472.f_Key).getD (T_flow_Total.mk 0 0)).f_Bytes - y478.f_Bytes)))) (ks := [vB xv472.f_Key.f_Src.f_Six, o8 xv472.f_Key.f_Src.f_B 0, o8 xv472.f_Key.f_Src.f_B 1, o8 xv472.f_Key.f_Src.f_B 2, o8 xv472.f_Key.f_Src.f_B 3, o8 xv472.f_Key.f_Src.f_B 4, o8 xv472.f_Key.f_Src.f_B 5, o8 xv472.f_Key.f_Src.f_B 6, o8 xv472.f_Key.f_Src.f_B 7, o8 xv472.f_Key.f_Src.f_B 8, o8 xv472.f_Key.f_Src.f_B 9, o8 xv472.f_Key.f_Src.f_B 10, o8 xv472.f_Key.f_Src.f_B 11, o8 xv472.f_Key.f_Src.f_B 12, o8 xv472.f_Key.f_Src.f_B 13, o8 xv472.f_Key.f_Src.f_B 14, o8 xv472.f_Key.f_Src.f_B 15, vB xv472.f_Key.f_Dst.f_Six, o8 xv472.f_Key.f_Dst.f_B 0, o8 xv472.f_Key.f_Dst.f_B 1, o8 xv472.f_Key.f_Dst.f_B 2, o8 xv472.f_Key.f_Dst.f_B 3, o8 xv472.f_Key.f_Dst.f_B 4, o8 xv472.f_Key.f_Dst.f_B 5, o8 xv472.f_Key.f_Dst.f_B 6, o8 xv472.f_Key.f_Dst.f_B 7, o8 xv472.f_Key.f_Dst.f_B 8, o8 xv472.f_Key.f_Dst.f_B 9, o8 xv472.f_Key.f_Dst.f_B 10, o8 xv472.f_Key.f_Dst.f_B 11, o8 xv472.f_Key.f_Dst.f_B 12, o8 xv472.f_Key.f_Dst.f_B 13, o8 xv472.f_Key.f_Dst.f_B 14, o8 xv472.f_Key.f_Dst.f_B 15, v8 xv472.f_Key.f_Proto, v16 xv472.f_Key.f_SrcPort, v16 xv472.f_Key.f_DstPort]) (us := [v64 (IntKind.u64.wrap (((m460 xv472.f_Key).getD (T_flow_Total.mk 0 0)).f_Packets - y478.f_Packets)), v64 (IntKind.u64.wrap (((m460 xv472.f_Key).getD (T_flow_Total.mk 0 0)).f_Bytes - y478.f_Bytes))]) mt62 hM (j := 7) rfl rfl rfl rfl rfl rfl) fun w561 hM1 => ?_
   clear hM
   have hM := hM1
   clear hM1
   refine RL.nil ?_
   refine KQ.blk_n ?_
   refine KQ.thn hQ468 ?_
   clear hQ468 Q468
   replace hM := hM.pick [0, 1, 2, 3, 4, 5, 6, 7, 11] rfl (by decide)
   refine KC.region ?_
   refine RL.val (O.add rfl rfl) rfl ?_
   refine vm rfl rfl ?_
   refine RL.nil ?_
   refine KQ.then_k ?_
   exact fun a ha => ⟨k465, Nat.lt_succ_self k465, (mput q_packet_Key m460 xv472.f_Key (T_flow_Total.mk (IntKind.u64.wrap (((m460 xv472.f_Key).getD (T_flow_Total.mk 0 0)).f_Packets - y478.f_Packets)) (IntKind.u64.wrap (((m460 xv472.f_Key).getD (T_flow_Total.mk 0 0)).f_Bytes - y478.f_Bytes)))), (IntKind.i64.wrap (t461 + 1)), ha.less (less_cons rfl (less_cons rfl (less_cons rfl (less_cons rfl (less_cons rfl less_nil))))), hM, hF⟩
  ·refine RD.meff rfl rfl (E.alloc hM ze37) rfl fun v w563 hv => ?_
   clear hM
   obtain ⟨g562, rfl, hM, hf⟩ := hv
   refine ⟨fun _ => hf, ?_⟩
   refine RD.alt ?_ ?_
   ·refine obindE hF fun y565 hx566 hF => ?_
    refine RD.mcall rfl rfl trivial Try.func13 bd13 rfl rfl (c_flow_Record_Total _ xv472 _ hx566) fun v w567 hv => ?_
    obtain ⟨rfl, hN568⟩ := hv
    refine ⟨fun _ => hN568.fut, ?_⟩
    replace hM := hM.call0 hN568
    refine RD.meff rfl rfl (E.alloc hM ze37) rfl fun v w570 hv => ?_
    clear hM
    obtain ⟨g569, rfl, hM, hf⟩ := hv
    refine ⟨fun _ => hf, ?_⟩
    refine RD.meffs rfl rfl rfl (E.stB (j := 10) (off := 0) (vs := [v64 (((m460 xv472.f_Key).getD (T_flow_Total.mk 0 0)).f_Packets), v64 (((m460 xv472.f_Key).getD (T_flow_Total.mk 0 0)).f_Bytes)]) (cs' := [v64 (((m460 xv472.f_Key).getD (T_flow_Total.mk 0 0)).f_Packets), v64 (((m460 xv472.f_Key).getD (T_flow_Total.mk 0 0)).f_Bytes)]) hM rfl sz37 rfl (adds_eq [] rfl) rfl rfl (One.all rfl) rfl rfl) fun w572 hM1 => ?_
    clear hM
    have hM := hM1
    clear hM1
    refine RD.meffs rfl rfl rfl (E.stB (j := 11) (off := 0) (vs := [v64 y565.f_Packets, v64 y565.f_Bytes]) (cs' := [v64 y565.f_Packets, v64 y565.f_Bytes]) hM rfl sz37 rfl (adds_eq [] rfl) rfl rfl (One.all rfl) rfl rfl) fun w573 hM1 => ?_
    clear hM
    have hM := hM1
    clear hM1
    refine RD.nil ?_
    refine KQ.thn hQ477 ?_
    clear hQ477 Q477
    refine KC.seqH fun Q574 hQ574 => ?_
    refine KC.cut (fun a w592 => ∃ (t590 : Bool), Kn 60 [(0, .map (some g37)), (1, .slice A21 (nv20.f_Records).length c22), (7, .pointer (some ⟨g473, 0, none⟩)), (8, .pointer (some ⟨g562, 0, none⟩)), (9, .pointer (some ⟨g569, 0, none⟩)), (12, .slice A21 (nv20.f_Records).length c22), (13, vI (nv20.f_Records.length : Int)), (14, vI t461), (40, vB t590)] a ∧ Mem w ([some g2] ++ ([some g4] ++ ([some g6] ++ ([some g8] ++ ([rblk A10 c11] ++ (Z14.map some ++ ([rblk A16 c17] ++ ([])))))))) w592 [.res [g4] (MR62 g4 m1.f_forwarded), .res [g6] (MR62 g6 m1.f_cached), .res [g8] (MR62 g8 m1.f_lost), .row A10 c11 47 6 (m1.f_entries).length (css13).flatten, .res Z14 (Els RO_model_Entry 6 m1.f_entries css13 Z14), .row A16 c17 3 1 (m1.f_line).length ((m1.f_line).flatMap (eI .i64)), .box g2 tg19 [.map (some g4), .map (some g6), .map (some g8), .slice A10 (m1.f_entries).length c11, .slice A16 (m1.f_line).length c17, v64 m1.f_first, v32 m1.f_boot], .res [g37] (MR62 g37 m460), .box g473 50 [vB xv472.f_Key.f_Src.f_Six, o8 xv472.f_Key.f_Src.f_B 0, o8 xv472.f_Key.f_Src.f_B 1, o8 xv472.f_Key.f_Src.f_B 2, o8 xv472.f_Key.f_Src.f_B 3, o8 xv472.f_Key.f_Src.f_B 4, o8 xv472.f_Key.f_Src.f_B 5, o8 xv472.f_Key.f_Src.f_B 6, o8 xv472.f_Key.f_Src.f_B 7, o8 xv472.f_Key.f_Src.f_B 8, o8 xv472.f_Key.f_Src.f_B 9, o8 xv472.f_Key.f_Src.f_B 10, o8 xv472.f_Key.f_Src.f_B 11, o8 xv472.f_Key.f_Src.f_B 12, o8 xv472.f_Key.f_Src.f_B 13, o8 xv472.f_Key.f_Src.f_B 14, o8 xv472.f_Key.f_Src.f_B 15, vB xv472.f_Key.f_Dst.f_Six, o8 xv472.f_Key.f_Dst.f_B 0, o8 xv472.f_Key.f_Dst.f_B 1, o8 xv472.f_Key.f_Dst.f_B 2, o8 xv472.f_Key.f_Dst.f_B 3, o8 xv472.f_Key.f_Dst.f_B 4, o8 xv472.f_Key.f_Dst.f_B 5, o8 xv472.f_Key.f_Dst.f_B 6, o8 xv472.f_Key.f_Dst.f_B 7, o8 xv472.f_Key.f_Dst.f_B 8, o8 xv472.f_Key.f_Dst.f_B 9, o8 xv472.f_Key.f_Dst.f_B 10, o8 xv472.f_Key.f_Dst.f_B 11, o8 xv472.f_Key.f_Dst.f_B 12, o8 xv472.f_Key.f_Dst.f_B 13, o8 xv472.f_Key.f_Dst.f_B 14, o8 xv472.f_Key.f_Dst.f_B 15, v8 xv472.f_Key.f_Proto, v16 xv472.f_Key.f_SrcPort, v16 xv472.f_Key.f_DstPort, v64 xv472.f_Packets, v64 xv472.f_Bytes, v64 xv472.f_First, v64 xv472.f_Last, v8 xv472.f_Flags, v8 xv472.f_Reason, v8 xv472.f_Class], .box g562 37 [v64 (((m460 xv472.f_Key).getD (T_flow_Total.mk 0 0)).f_Packets), v64 (((m460 xv472.f_Key).getD (T_flow_Total.mk 0 0)).f_Bytes)], .box g569 37 [v64 y565.f_Packets, v64 y565.f_Bytes], .box g27 41 [vI nv20.f_Kind, vB nv20.f_Key.f_Src.f_Six, o8 nv20.f_Key.f_Src.f_B 0, o8 nv20.f_Key.f_Src.f_B 1, o8 nv20.f_Key.f_Src.f_B 2, o8 nv20.f_Key.f_Src.f_B 3, o8 nv20.f_Key.f_Src.f_B 4, o8 nv20.f_Key.f_Src.f_B 5, o8 nv20.f_Key.f_Src.f_B 6, o8 nv20.f_Key.f_Src.f_B 7, o8 nv20.f_Key.f_Src.f_B 8, o8 nv20.f_Key.f_Src.f_B 9, o8 nv20.f_Key.f_Src.f_B 10, o8 nv20.f_Key.f_Src.f_B 11, o8 nv20.f_Key.f_Src.f_B 12, o8 nv20.f_Key.f_Src.f_B 13, o8 nv20.f_Key.f_Src.f_B 14, o8 nv20.f_Key.f_Src.f_B 15, vB nv20.f_Key.f_Dst.f_Six, o8 nv20.f_Key.f_Dst.f_B 0, o8 nv20.f_Key.f_Dst.f_B 1, o8 nv20.f_Key.f_Dst.f_B 2, o8 nv20.f_Key.f_Dst.f_B 3, o8 nv20.f_Key.f_Dst.f_B 4, o8 nv20.f_Key.f_Dst.f_B 5, o8 nv20.f_Key.f_Dst.f_B 6, o8 nv20.f_Key.f_Dst.f_B 7, o8 nv20.f_Key.f_Dst.f_B 8, o8 nv20.f_Key.f_Dst.f_B 9, o8 nv20.f_Key.f_Dst.f_B 10, o8 nv20.f_Key.f_Dst.f_B 11, o8 nv20.f_Key.f_Dst.f_B 12, o8 nv20.f_Key.f_Dst.f_B 13, o8 nv20.f_Key.f_Dst.f_B 14, o8 nv20.f_Key.f_Dst.f_B 15, v8 nv20.f_Key.f_Proto, v16 nv20.f_Key.f_SrcPort, v16 nv20.f_Key.f_DstPort, v64 nv20.f_Total.f_Packets, v64 nv20.f_Total.f_Bytes, .slice A21 (nv20.f_Records).length c22, v32 nv20.f_Epoch, v64 nv20.f_N, v64 nv20.f_First, v64 nv20.f_Next]] ∧ F_model_Model_pack_j1 m1 m460 t461 (F_model_Model_pack_L1 m1 nv20 k465) xv472 y565 t590 = some r) ?_ ?_
    ·refine KC.region ?_
     refine RL.val (O.loadN (cs := [vB xv472.f_Key.f_Src.f_Six, o8 xv472.f_Key.f_Src.f_B 0, o8 xv472.f_Key.f_Src.f_B 1, o8 xv472.f_Key.f_Src.f_B 2, o8 xv472.f_Key.f_Src.f_B 3, o8 xv472.f_Key.f_Src.f_B 4, o8 xv472.f_Key.f_Src.f_B 5, o8 xv472.f_Key.f_Src.f_B 6, o8 xv472.f_Key.f_Src.f_B 7, o8 xv472.f_Key.f_Src.f_B 8, o8 xv472.f_Key.f_Src.f_B 9, o8 xv472.f_Key.f_Src.f_B 10, o8 xv472.f_Key.f_Src.f_B 11, o8 xv472.f_Key.f_Src.f_B 12, o8 xv472.f_Key.f_Src.f_B 13, o8 xv472.f_Key.f_Src.f_B 14, o8 xv472.f_Key.f_Src.f_B 15, vB xv472.f_Key.f_Dst.f_Six, o8 xv472.f_Key.f_Dst.f_B 0, o8 xv472.f_Key.f_Dst.f_B 1, o8 xv472.f_Key.f_Dst.f_B 2, o8 xv472.f_Key.f_Dst.f_B 3, o8 xv472.f_Key.f_Dst.f_B 4, o8 xv472.f_Key.f_Dst.f_B 5, o8 xv472.f_Key.f_Dst.f_B 6, o8 xv472.f_Key.f_Dst.f_B 7, o8 xv472.f_Key.f_Dst.f_B 8, o8 xv472.f_Key.f_Dst.f_B 9, o8 xv472.f_Key.f_Dst.f_B 10, o8 xv472.f_Key.f_Dst.f_B 11, o8 xv472.f_Key.f_Dst.f_B 12, o8 xv472.f_Key.f_Dst.f_B 13, o8 xv472.f_Key.f_Dst.f_B 14, o8 xv472.f_Key.f_Dst.f_B 15, v8 xv472.f_Key.f_Proto, v16 xv472.f_Key.f_SrcPort, v16 xv472.f_Key.f_DstPort, v64 xv472.f_Packets, v64 xv472.f_Bytes, v64 xv472.f_First, v64 xv472.f_Last, v8 xv472.f_Flags, v8 xv472.f_Reason, v8 xv472.f_Class]) ag50 rfl (Cs.addsN [] ((hM.bx (i := 9) rfl)) rfl)) rfl ?_
     refine obindE hF fun y575 hx576 hF => ?_
     refine RL.call Try.func57 bd57 rfl rfl (c_flow_Record_Right _ xv472 _ hx576) fun v w577 hv => ?_
     obtain ⟨rfl, hN578⟩ := hv
     replace hM := hM.call0 hN578
     refine RL.val (O.not rfl) rfl ?_
     refine vm rfl rfl ?_
     refine RL.bcase (t := 27) rfl (fun hc => ?_) (fun hc => ?_)
     ·rw [if_pos hc] at hF
      refine RL.gskip rfl rfl rfl rfl ?_
      refine RL.gskip rfl rfl rfl rfl ?_
      refine RL.gskip rfl rfl rfl rfl ?_
      refine RL.gskip rfl rfl rfl rfl ?_
      refine RL.gskip rfl rfl rfl rfl ?_
      refine RL.val (O.pickt rfl rfl) rfl ?_
      refine vm rfl rfl ?_
      refine RL.gskip rfl rfl rfl rfl ?_
      refine RL.gskip rfl rfl rfl rfl ?_
      refine RL.gskip rfl rfl rfl rfl ?_
      refine RL.gskip rfl rfl rfl rfl ?_
      refine RL.gskip rfl rfl rfl rfl ?_
      refine RL.val (O.pickt rfl rfl) rfl ?_
      refine RL.nil ?_
      refine KQ.then_k ?_
      replace hM := hM.pick [0, 1, 2, 3, 4, 5, 6, 7, 9, 10, 11, 8] rfl (by decide)
      exact fun a ha => ⟨true, ha.less (less_cons rfl (less_cons rfl (less_cons rfl (less_cons rfl (less_cons rfl (less_cons rfl (less_cons rfl (less_cons rfl (less_cons rfl less_nil))))))))), hM, hF⟩
     rw [if_neg (ne_true hc)] at hF
     refine RL.gval rfl rfl (O.fldA fl37_0 (by decide) rfl) rfl ?_
     refine RL.gval rfl rfl (O.load sc35 rfl (Cs.adds [0] ((hM.bx (i := 11) rfl)) rfl)) rfl ?_
     refine RL.gval rfl rfl (O.fldA fl37_0 (by decide) rfl) rfl ?_
     refine RL.gval rfl rfl (O.load sc35 rfl (Cs.adds [0] ((hM.bx (i := 10) rfl)) rfl)) rfl ?_
     refine RL.gval rfl rfl (O.gtr rfl rfl) rfl ?_
     refine RL.val (O.pickf rfl rfl) rfl ?_
     refine vm rfl rfl ?_
     refine RL.bcase (t := 34) rfl (fun hc => ?_) (fun hc => ?_)
     ·rw [if_pos hc] at hF
      refine RL.gskip rfl rfl rfl rfl ?_
      refine RL.gskip rfl rfl rfl rfl ?_
      refine RL.gskip rfl rfl rfl rfl ?_
      refine RL.gskip rfl rfl rfl rfl ?_
      refine RL.gskip rfl rfl rfl rfl ?_
      refine RL.val (O.pickt rfl rfl) rfl ?_
      refine RL.nil ?_
      refine KQ.then_k ?_
      replace hM := hM.pick [0, 1, 2, 3, 4, 5, 6, 7, 9, 10, 11, 8] rfl (by decide)
      exact fun a ha => ⟨true, ha.less (less_cons rfl (less_cons rfl (less_cons rfl (less_cons rfl (less_cons rfl (less_cons rfl (less_cons rfl (less_cons rfl (less_cons rfl less_nil))))))))), hM, hF⟩
     rw [if_neg (ne_true hc)] at hF
     refine RL.gval rfl rfl (O.fldA fl37_1 (by decide) rfl) rfl ?_
     refine RL.gval rfl rfl (O.load sc35 rfl (Cs.adds [1] ((hM.bx (i := 11) rfl)) rfl)) rfl ?_
     refine RL.gval rfl rfl (O.fldA fl37_1 (by decide) rfl) rfl ?_
     refine RL.gval rfl rfl (O.load sc35 rfl (Cs.adds [1] ((hM.bx (i := 10) rfl)) rfl)) rfl ?_
     refine RL.gval rfl rfl (O.gtr rfl rfl) rfl ?_
     refine RL.val (O.pickf rfl rfl) rfl ?_
     refine RL.nil ?_
     refine KQ.then_k ?_
     replace hM := hM.pick [0, 1, 2, 3, 4, 5, 6, 7, 9, 10, 11, 8] rfl (by decide)
     exact fun a ha => ⟨(decide (((m460 xv472.f_Key).getD (T_flow_Total.mk 0 0)).f_Bytes < y565.f_Bytes)), ha.less (less_cons rfl (less_cons rfl (less_cons rfl (less_cons rfl (less_cons rfl (less_cons rfl (less_cons rfl (less_cons rfl (less_cons rfl less_nil))))))))), hM, hF⟩
    rintro a w592 ⟨t590, ha, hM, hF⟩
    refine KC.app ha ?_
    clear ha
    unfold F_model_Model_pack_j1 at hF
    refine KC.cond rfl (fun hc => ?_) (fun hc => ?_)
    ·rw [if_pos hc] at hF
     refine sr fun Q593 hQ593 => ?_
     refine va rfl rfl ?_
     refine va rfl rfl ?_
     refine nt hQ593 ?_
     clear hQ593 Q593
     refine KC.ret ?_
     refine KQ.thr hQ574 ?_
     clear hQ574 Q574
     refine KQ.blk_r ?_
     refine KQ.thr hQ468 ?_
     clear hQ468 Q468
     refine KQ.then_r ?_
     refine KQ.blk_r ?_
     refine KQ.thr hQ39 ?_
     clear hQ39 Q39
     refine KQ.rets Try.results38 (RVs.cons (RV.tm rfl) (RVs.cons (RV.tm rfl) RVs.nil)) ?_
     refine ⟨.tuple #[.map none, vB false], rfl, ?_⟩
     refine RD.p rfl rfl rfl rfl (fun w' => O.move rfl) ?_
     refine RD.p rfl rfl rfl rfl (fun w' => O.ext rfl rfl) ?_
     refine RD.p rfl rfl rfl rfl (fun w' => O.ext rfl rfl) ?_
     refine RD.p rfl rfl rfl rfl (fun w' => O.assign rfl) ?_
     refine RD.p rfl rfl rfl rfl (fun w' => O.assign rfl) ?_
     refine RD.nil ?_
     refine KQ.thn hQ30 ?_
     clear hQ30 Q30
     replace hM := hM.pick [0, 1, 2, 3, 4, 5, 6, 11] rfl (by decide)
     refine KC.seqH fun Q594 hQ594 => ?_
     refine KC.cut (fun a w603 => Kn 77 [(0, .pointer (some ⟨g2, 0, none⟩)), (3, .pointer (some ⟨g27, 0, none⟩)), (5, .map none), (41, vB true)] a ∧ Mem w ([some g2] ++ ([some g4] ++ ([some g6] ++ ([some g8] ++ ([rblk A10 c11] ++ (Z14.map some ++ ([rblk A16 c17] ++ ([])))))))) w603 [.res [g4] (MR62 g4 m1.f_forwarded), .res [g6] (MR62 g6 m1.f_cached), .res [g8] (MR62 g8 m1.f_lost), .row A10 c11 47 6 (m1.f_entries).length (css13).flatten, .res Z14 (Els RO_model_Entry 6 m1.f_entries css13 Z14), .row A16 c17 3 1 (m1.f_line).length ((m1.f_line).flatMap (eI .i64)), .box g2 tg19 [.map (some g4), .map (some g6), .map (some g8), .slice A10 (m1.f_entries).length c11, .slice A16 (m1.f_line).length c17, v64 m1.f_first, v32 m1.f_boot], .box g27 41 [vI nv20.f_Kind, vB nv20.f_Key.f_Src.f_Six, o8 nv20.f_Key.f_Src.f_B 0, o8 nv20.f_Key.f_Src.f_B 1, o8 nv20.f_Key.f_Src.f_B 2, o8 nv20.f_Key.f_Src.f_B 3, o8 nv20.f_Key.f_Src.f_B 4, o8 nv20.f_Key.f_Src.f_B 5, o8 nv20.f_Key.f_Src.f_B 6, o8 nv20.f_Key.f_Src.f_B 7, o8 nv20.f_Key.f_Src.f_B 8, o8 nv20.f_Key.f_Src.f_B 9, o8 nv20.f_Key.f_Src.f_B 10, o8 nv20.f_Key.f_Src.f_B 11, o8 nv20.f_Key.f_Src.f_B 12, o8 nv20.f_Key.f_Src.f_B 13, o8 nv20.f_Key.f_Src.f_B 14, o8 nv20.f_Key.f_Src.f_B 15, vB nv20.f_Key.f_Dst.f_Six, o8 nv20.f_Key.f_Dst.f_B 0, o8 nv20.f_Key.f_Dst.f_B 1, o8 nv20.f_Key.f_Dst.f_B 2, o8 nv20.f_Key.f_Dst.f_B 3, o8 nv20.f_Key.f_Dst.f_B 4, o8 nv20.f_Key.f_Dst.f_B 5, o8 nv20.f_Key.f_Dst.f_B 6, o8 nv20.f_Key.f_Dst.f_B 7, o8 nv20.f_Key.f_Dst.f_B 8, o8 nv20.f_Key.f_Dst.f_B 9, o8 nv20.f_Key.f_Dst.f_B 10, o8 nv20.f_Key.f_Dst.f_B 11, o8 nv20.f_Key.f_Dst.f_B 12, o8 nv20.f_Key.f_Dst.f_B 13, o8 nv20.f_Key.f_Dst.f_B 14, o8 nv20.f_Key.f_Dst.f_B 15, v8 nv20.f_Key.f_Proto, v16 nv20.f_Key.f_SrcPort, v16 nv20.f_Key.f_DstPort, v64 nv20.f_Total.f_Packets, v64 nv20.f_Total.f_Bytes, .slice A21 (nv20.f_Records).length c22, v32 nv20.f_Epoch, v64 nv20.f_N, v64 nv20.f_First, v64 nv20.f_Next]] ∧ F_model_Model_pack_j2 m1 = some r) ?_ ?_
     ·replace hM := hM.drewN 1
      refine KC.draw [] [] [22] [0, 1, 2, 3, 4, 5, 7, 8, 9, 10, 12, 13, 14, 16, 17, 18, 19, 21, 23, 24] (.ofList [0, 1, 2, 3, 4, 5, 6, 7, 8, 9, 10, 11, 12, 13, 14, 15, 16, 17, 18, 19, 20, 21, 22, 23, 24]) moP (by kernel_rfl) ?_
      refine RD.p rfl rfl rfl rfl (fun w' => O.move rfl) ?_
      refine RD.p rfl rfl rfl rfl (fun w' => O.not rfl) ?_
      refine RD.brun1 [2, 3, 4, 5, 6, 7, 8, 9, 10, 11, 12, 13, 14, 15, 16, 17, 18, 19, 20, 21, 22, 23, 24] 41 true (by kernel_rfl) ?_
      refine RD.nil ?_
      refine KQ.then_k ?_
      exact fun a ha => ⟨ha.less (less_cons rfl (less_cons rfl (less_cons rfl (less_cons rfl less_nil)))), hM, hF⟩
     rintro a w603 ⟨ha, hM, hF⟩
     refine KC.app ha ?_
     clear ha
     unfold F_model_Model_pack_j2 at hF
     refine KC.condT rfl ?_
     refine sr fun Q604 hQ604 => ?_
     refine va rfl rfl ?_
     refine nt hQ604 ?_
     clear hQ604 Q604
     refine KC.ret ?_
     refine KQ.thr hQ594 ?_
     clear hQ594 Q594
     have hE := Option.some.inj hF
     clear hF
     subst hE
     replace hM := hM.pick [6, 0, 1, 2, 3, 4, 5] rfl (by decide)
     refine KQ.rets Try.results21 (RVs.cons (RV.tm rfl) RVs.nil) ?_
     exact ⟨_, rfl, g4, g6, g8, A10, c11, css13, Z14, A16, c17, rfl, hM⟩
    rw [if_neg (ne_true hc)] at hF
    refine KC.skip ?_
    refine KQ.thn hQ574 ?_
    clear hQ574 Q574
    refine KC.region ?_
    refine vm rfl rfl ?_
    refine RL.val (O.fldA fl50_0 (by decide) rfl) rfl ?_
    refine RL.val (O.loadN (cs := [vB xv472.f_Key.f_Src.f_Six, o8 xv472.f_Key.f_Src.f_B 0, o8 xv472.f_Key.f_Src.f_B 1, o8 xv472.f_Key.f_Src.f_B 2, o8 xv472.f_Key.f_Src.f_B 3, o8 xv472.f_Key.f_Src.f_B 4, o8 xv472.f_Key.f_Src.f_B 5, o8 xv472.f_Key.f_Src.f_B 6, o8 xv472.f_Key.f_Src.f_B 7, o8 xv472.f_Key.f_Src.f_B 8, o8 xv472.f_Key.f_Src.f_B 9, o8 xv472.f_Key.f_Src.f_B 10, o8 xv472.f_Key.f_Src.f_B 11, o8 xv472.f_Key.f_Src.f_B 12, o8 xv472.f_Key.f_Src.f_B 13, o8 xv472.f_Key.f_Src.f_B 14, o8 xv472.f_Key.f_Src.f_B 15, vB xv472.f_Key.f_Dst.f_Six, o8 xv472.f_Key.f_Dst.f_B 0, o8 xv472.f_Key.f_Dst.f_B 1, o8 xv472.f_Key.f_Dst.f_B 2, o8 xv472.f_Key.f_Dst.f_B 3, o8 xv472.f_Key.f_Dst.f_B 4, o8 xv472.f_Key.f_Dst.f_B 5, o8 xv472.f_Key.f_Dst.f_B 6, o8 xv472.f_Key.f_Dst.f_B 7, o8 xv472.f_Key.f_Dst.f_B 8, o8 xv472.f_Key.f_Dst.f_B 9, o8 xv472.f_Key.f_Dst.f_B 10, o8 xv472.f_Key.f_Dst.f_B 11, o8 xv472.f_Key.f_Dst.f_B 12, o8 xv472.f_Key.f_Dst.f_B 13, o8 xv472.f_Key.f_Dst.f_B 14, o8 xv472.f_Key.f_Dst.f_B 15, v8 xv472.f_Key.f_Proto, v16 xv472.f_Key.f_SrcPort, v16 xv472.f_Key.f_DstPort]) ag34 rfl (Cs.addsN [0] ((hM.bx (i := 8) rfl)) rfl)) rfl ?_
    refine RL.val (O.fldA fl37_0 (by decide) rfl) rfl ?_
    refine RL.val (O.load sc35 rfl (Cs.adds [0] ((hM.bx (i := 9) rfl)) rfl)) rfl ?_
    refine RL.val (O.fldA fl37_0 (by decide) rfl) rfl ?_
    refine RL.val (O.load sc35 rfl (Cs.adds [0] ((hM.bx (i := 10) rfl)) rfl)) rfl ?_
    refine RL.val (O.sub rfl rfl) rfl ?_
    refine RL.val (O.fldA fl37_1 (by decide) rfl) rfl ?_
    refine RL.val (O.load sc35 rfl (Cs.adds [1] ((hM.bx (i := 9) rfl)) rfl)) rfl ?_
    refine RL.val (O.fldA fl37_1 (by decide) rfl) rfl ?_
    refine RL.val (O.load sc35 rfl (Cs.adds [1] ((hM.bx (i := 10) rfl)) rfl)) rfl ?_
    refine RL.val (O.sub rfl rfl) rfl ?_
    refine RL.val (O.bld (cs := [v64 (IntKind.u64.wrap (((m460 xv472.f_Key).getD (T_flow_Total.mk 0 0)).f_Packets - y565.f_Packets)), v64 (IntKind.u64.wrap (((m460 xv472.f_Key).getD (T_flow_Total.mk 0 0)).f_Bytes - y565.f_Bytes))]) bt37 rfl (by kernel_rfl)) rfl ?_
    refine RL.effs (E.mup (k := xv472.f_Key) (u := (T_flow_Total.mk (IntKind.u64.wrap (((m460 xv472.f_Key).getD (T_flow_Total.mk 0 0)).f_Packets - y565.f_Packets)) (IntKind.u64.wrap (((m460 xv472.f_Key).getD (T_flow_Total.mk 0 0)).f_Bytes - y565.f_Bytes)))) (ks := [vB xv472.f_Key.f_Src.f_Six, o8 xv472.f_Key.f_Src.f_B 0, o8 xv472.f_Key.f_Src.f_B 1, o8 xv472.f_Key.f_Src.f_B 2, o8 xv472.f_Key.f_Src.f_B 3, o8 xv472.f_Key.f_Src.f_B 4, o8 xv472.f_Key.f_Src.f_B 5, o8 xv472.f_Key.f_Src.f_B 6, o8 xv472.f_Key.f_Src.f_B 7, o8 xv472.f_Key.f_Src.f_B 8, o8 xv472.f_Key.f_Src.f_B 9, o8 xv472.f_Key.f_Src.f_B 10, o8 xv472.f_Key.f_Src.f_B 11, o8 xv472.f_Key.f_Src.f_B 12, o8 xv472.f_Key.f_Src.f_B 13, o8 xv472.f_Key.f_Src.f_B 14, o8 xv472.f_Key.f_Src.f_B 15, vB xv472.f_Key.f_Dst.f_Six, o8 xv472.f_Key.f_Dst.f_B 0, o8 xv472.f_Key.f_Dst.f_B 1, o8 xv472.f_Key.f_Dst.f_B 2, o8 xv472.f_Key.f_Dst.f_B 3, o8 xv472.f_Key.f_Dst.f_B 4, o8 xv472.f_Key.f_Dst.f_B 5, o8 xv472.f_Key.f_Dst.f_B 6, o8 xv472.f_Key.f_Dst.f_B 7, o8 xv472.f_Key.f_Dst.f_B 8, o8 xv472.f_Key.f_Dst.f_B 9, o8 xv472.f_Key.f_Dst.f_B 10, o8 xv472.f_Key.f_Dst.f_B 11, o8 xv472.f_Key.f_Dst.f_B 12, o8 xv472.f_Key.f_Dst.f_B 13, o8 xv472.f_Key.f_Dst.f_B 14, o8 xv472.f_Key.f_Dst.f_B 15, v8 xv472.f_Key.f_Proto, v16 xv472.f_Key.f_SrcPort, v16 xv472.f_Key.f_DstPort]) (us := [v64 (IntKind.u64.wrap (((m460 xv472.f_Key).getD (T_flow_Total.mk 0 0)).f_Packets - y565.f_Packets)), v64 (IntKind.u64.wrap (((m460 xv472.f_Key).getD (T_flow_Total.mk 0 0)).f_Bytes - y565.f_Bytes))]) mt62 hM (j := 7) rfl rfl rfl rfl rfl rfl) fun w605 hM1 => ?_
    clear hM
    have hM := hM1
    clear hM1
    refine RL.nil ?_
    refine KQ.blk_n ?_
    refine KQ.thn hQ468 ?_
    clear hQ468 Q468
    replace hM := hM.pick [0, 1, 2, 3, 4, 5, 6, 7, 11] rfl (by decide)
    refine KC.region ?_
    refine RL.val (O.add rfl rfl) rfl ?_
    refine vm rfl rfl ?_
    refine RL.nil ?_
    refine KQ.then_k ?_
    exact fun a ha => ⟨k465, Nat.lt_succ_self k465, (mput q_packet_Key m460 xv472.f_Key (T_flow_Total.mk (IntKind.u64.wrap (((m460 xv472.f_Key).getD (T_flow_Total.mk 0 0)).f_Packets - y565.f_Packets)) (IntKind.u64.wrap (((m460 xv472.f_Key).getD (T_flow_Total.mk 0 0)).f_Bytes - y565.f_Bytes)))), (IntKind.i64.wrap (t461 + 1)), ha.less (less_cons rfl (less_cons rfl (less_cons rfl (less_cons rfl (less_cons rfl less_nil))))), hM, hF⟩
   refine RD.meff rfl rfl (E.alloc hM ze37) rfl fun v w607 hv => ?_
   clear hM
   obtain ⟨g606, rfl, hM, hf⟩ := hv
   refine ⟨fun _ => hf, ?_⟩
   refine obindE hF fun y609 hx610 hF => ?_
   refine RD.mcall rfl rfl trivial Try.func13 bd13 rfl rfl (c_flow_Record_Total _ xv472 _ hx610) fun v w611 hv => ?_
   obtain ⟨rfl, hN612⟩ := hv
   refine ⟨fun _ => hN612.fut, ?_⟩
   replace hM := hM.call0 hN612
   refine RD.meffs rfl rfl rfl (E.stB (j := 10) (off := 0) (vs := [v64 (((m460 xv472.f_Key).getD (T_flow_Total.mk 0 0)).f_Packets), v64 (((m460 xv472.f_Key).getD (T_flow_Total.mk 0 0)).f_Bytes)]) (cs' := [v64 (((m460 xv472.f_Key).getD (T_flow_Total.mk 0 0)).f_Packets), v64 (((m460 xv472.f_Key).getD (T_flow_Total.mk 0 0)).f_Bytes)]) hM rfl sz37 rfl (adds_eq [] rfl) rfl rfl (One.all rfl) rfl rfl) fun w613 hM1 => ?_
   clear hM
   have hM := hM1
   clear hM1
   refine RD.meffs rfl rfl rfl (E.stB (j := 11) (off := 0) (vs := [v64 y609.f_Packets, v64 y609.f_Bytes]) (cs' := [v64 y609.f_Packets, v64 y609.f_Bytes]) hM rfl sz37 rfl (adds_eq [] rfl) rfl rfl (One.all rfl) rfl rfl) fun w614 hM1 => ?_
   clear hM
   have hM := hM1
   clear hM1
   refine RD.nil ?_
   refine KQ.thn hQ477 ?_
   clear hQ477 Q477
   refine KC.seqH fun Q615 hQ615 => ?_
   refine KC.cut (fun a w633 => ∃ (t631 : Bool), Kn 60 [(0, .map (some g37)), (1, .slice A21 (nv20.f_Records).length c22), (7, .pointer (some ⟨g473, 0, none⟩)), (8, .pointer (some ⟨g562, 0, none⟩)), (9, .pointer (some ⟨g606, 0, none⟩)), (12, .slice A21 (nv20.f_Records).length c22), (13, vI (nv20.f_Records.length : Int)), (14, vI t461), (40, vB t631)] a ∧ Mem w ([some g2] ++ ([some g4] ++ ([some g6] ++ ([some g8] ++ ([rblk A10 c11] ++ (Z14.map some ++ ([rblk A16 c17] ++ ([])))))))) w633 [.res [g4] (MR62 g4 m1.f_forwarded), .res [g6] (MR62 g6 m1.f_cached), .res [g8] (MR62 g8 m1.f_lost), .row A10 c11 47 6 (m1.f_entries).length (css13).flatten, .res Z14 (Els RO_model_Entry 6 m1.f_entries css13 Z14), .row A16 c17 3 1 (m1.f_line).length ((m1.f_line).flatMap (eI .i64)), .box g2 tg19 [.map (some g4), .map (some g6), .map (some g8), .slice A10 (m1.f_entries).length c11, .slice A16 (m1.f_line).length c17, v64 m1.f_first, v32 m1.f_boot], .res [g37] (MR62 g37 m460), .box g473 50 [vB xv472.f_Key.f_Src.f_Six, o8 xv472.f_Key.f_Src.f_B 0, o8 xv472.f_Key.f_Src.f_B 1, o8 xv472.f_Key.f_Src.f_B 2, o8 xv472.f_Key.f_Src.f_B 3, o8 xv472.f_Key.f_Src.f_B 4, o8 xv472.f_Key.f_Src.f_B 5, o8 xv472.f_Key.f_Src.f_B 6, o8 xv472.f_Key.f_Src.f_B 7, o8 xv472.f_Key.f_Src.f_B 8, o8 xv472.f_Key.f_Src.f_B 9, o8 xv472.f_Key.f_Src.f_B 10, o8 xv472.f_Key.f_Src.f_B 11, o8 xv472.f_Key.f_Src.f_B 12, o8 xv472.f_Key.f_Src.f_B 13, o8 xv472.f_Key.f_Src.f_B 14, o8 xv472.f_Key.f_Src.f_B 15, vB xv472.f_Key.f_Dst.f_Six, o8 xv472.f_Key.f_Dst.f_B 0, o8 xv472.f_Key.f_Dst.f_B 1, o8 xv472.f_Key.f_Dst.f_B 2, o8 xv472.f_Key.f_Dst.f_B 3, o8 xv472.f_Key.f_Dst.f_B 4, o8 xv472.f_Key.f_Dst.f_B 5, o8 xv472.f_Key.f_Dst.f_B 6, o8 xv472.f_Key.f_Dst.f_B 7, o8 xv472.f_Key.f_Dst.f_B 8, o8 xv472.f_Key.f_Dst.f_B 9, o8 xv472.f_Key.f_Dst.f_B 10, o8 xv472.f_Key.f_Dst.f_B 11, o8 xv472.f_Key.f_Dst.f_B 12, o8 xv472.f_Key.f_Dst.f_B 13, o8 xv472.f_Key.f_Dst.f_B 14, o8 xv472.f_Key.f_Dst.f_B 15, v8 xv472.f_Key.f_Proto, v16 xv472.f_Key.f_SrcPort, v16 xv472.f_Key.f_DstPort, v64 xv472.f_Packets, v64 xv472.f_Bytes, v64 xv472.f_First, v64 xv472.f_Last, v8 xv472.f_Flags, v8 xv472.f_Reason, v8 xv472.f_Class], .box g562 37 [v64 (((m460 xv472.f_Key).getD (T_flow_Total.mk 0 0)).f_Packets), v64 (((m460 xv472.f_Key).getD (T_flow_Total.mk 0 0)).f_Bytes)], .box g606 37 [v64 y609.f_Packets, v64 y609.f_Bytes], .box g27 41 [vI nv20.f_Kind, vB nv20.f_Key.f_Src.f_Six, o8 nv20.f_Key.f_Src.f_B 0, o8 nv20.f_Key.f_Src.f_B 1, o8 nv20.f_Key.f_Src.f_B 2, o8 nv20.f_Key.f_Src.f_B 3, o8 nv20.f_Key.f_Src.f_B 4, o8 nv20.f_Key.f_Src.f_B 5, o8 nv20.f_Key.f_Src.f_B 6, o8 nv20.f_Key.f_Src.f_B 7, o8 nv20.f_Key.f_Src.f_B 8, o8 nv20.f_Key.f_Src.f_B 9, o8 nv20.f_Key.f_Src.f_B 10, o8 nv20.f_Key.f_Src.f_B 11, o8 nv20.f_Key.f_Src.f_B 12, o8 nv20.f_Key.f_Src.f_B 13, o8 nv20.f_Key.f_Src.f_B 14, o8 nv20.f_Key.f_Src.f_B 15, vB nv20.f_Key.f_Dst.f_Six, o8 nv20.f_Key.f_Dst.f_B 0, o8 nv20.f_Key.f_Dst.f_B 1, o8 nv20.f_Key.f_Dst.f_B 2, o8 nv20.f_Key.f_Dst.f_B 3, o8 nv20.f_Key.f_Dst.f_B 4, o8 nv20.f_Key.f_Dst.f_B 5, o8 nv20.f_Key.f_Dst.f_B 6, o8 nv20.f_Key.f_Dst.f_B 7, o8 nv20.f_Key.f_Dst.f_B 8, o8 nv20.f_Key.f_Dst.f_B 9, o8 nv20.f_Key.f_Dst.f_B 10, o8 nv20.f_Key.f_Dst.f_B 11, o8 nv20.f_Key.f_Dst.f_B 12, o8 nv20.f_Key.f_Dst.f_B 13, o8 nv20.f_Key.f_Dst.f_B 14, o8 nv20.f_Key.f_Dst.f_B 15, v8 nv20.f_Key.f_Proto, v16 nv20.f_Key.f_SrcPort, v16 nv20.f_Key.f_DstPort, v64 nv20.f_Total.f_Packets, v64 nv20.f_Total.f_Bytes, .slice A21 (nv20.f_Records).length c22, v32 nv20.f_Epoch, v64 nv20.f_N, v64 nv20.f_First, v64 nv20.f_Next]] ∧ F_model_Model_pack_j1 m1 m460 t461 (F_model_Model_pack_L1 m1 nv20 k465) xv472 y609 t631 = some r) ?_ ?_
   ·refine KC.region ?_
    refine RL.val (O.loadN (cs := [vB xv472.f_Key.f_Src.f_Six, o8 xv472.f_Key.f_Src.f_B 0, o8 xv472.f_Key.f_Src.f_B 1, o8 xv472.f_Key.f_Src.f_B 2, o8 xv472.f_Key.f_Src.f_B 3, o8 xv472.f_Key.f_Src.f_B 4, o8 xv472.f_Key.f_Src.f_B 5, o8 xv472.f_Key.f_Src.f_B 6, o8 xv472.f_Key.f_Src.f_B 7, o8 xv472.f_Key.f_Src.f_B 8, o8 xv472.f_Key.f_Src.f_B 9, o8 xv472.f_Key.f_Src.f_B 10, o8 xv472.f_Key.f_Src.f_B 11, o8 xv472.f_Key.f_Src.f_B 12, o8 xv472.f_Key.f_Src.f_B 13, o8 xv472.f_Key.f_Src.f_B 14, o8 xv472.f_Key.f_Src.f_B 15, vB xv472.f_Key.f_Dst.f_Six, o8 xv472.f_Key.f_Dst.f_B 0, o8 xv472.f_Key.f_Dst.f_B 1, o8 xv472.f_Key.f_Dst.f_B 2, o8 xv472.f_Key.f_Dst.f_B 3, o8 xv472.f_Key.f_Dst.f_B 4, o8 xv472.f_Key.f_Dst.f_B 5, o8 xv472.f_Key.f_Dst.f_B 6, o8 xv472.f_Key.f_Dst.f_B 7, o8 xv472.f_Key.f_Dst.f_B 8, o8 xv472.f_Key.f_Dst.f_B 9, o8 xv472.f_Key.f_Dst.f_B 10, o8 xv472.f_Key.f_Dst.f_B 11, o8 xv472.f_Key.f_Dst.f_B 12, o8 xv472.f_Key.f_Dst.f_B 13, o8 xv472.f_Key.f_Dst.f_B 14, o8 xv472.f_Key.f_Dst.f_B 15, v8 xv472.f_Key.f_Proto, v16 xv472.f_Key.f_SrcPort, v16 xv472.f_Key.f_DstPort, v64 xv472.f_Packets, v64 xv472.f_Bytes, v64 xv472.f_First, v64 xv472.f_Last, v8 xv472.f_Flags, v8 xv472.f_Reason, v8 xv472.f_Class]) ag50 rfl (Cs.addsN [] ((hM.bx (i := 9) rfl)) rfl)) rfl ?_
    refine obindE hF fun y616 hx617 hF => ?_
    refine RL.call Try.func57 bd57 rfl rfl (c_flow_Record_Right _ xv472 _ hx617) fun v w618 hv => ?_
    obtain ⟨rfl, hN619⟩ := hv
    replace hM := hM.call0 hN619
    refine RL.val (O.not rfl) rfl ?_
    refine vm rfl rfl ?_
    refine RL.bcase (t := 27) rfl (fun hc => ?_) (fun hc => ?_)
    ·rw [if_pos hc] at hF
     refine RL.gskip rfl rfl rfl rfl ?_
     refine RL.gskip rfl rfl rfl rfl ?_
     refine RL.gskip rfl rfl rfl rfl ?_
     refine RL.gskip rfl rfl rfl rfl ?_
     refine RL.gskip rfl rfl rfl rfl ?_
     refine RL.val (O.pickt rfl rfl) rfl ?_
     refine vm rfl rfl ?_
     refine RL.gskip rfl rfl rfl rfl ?_
     refine RL.gskip rfl rfl rfl rfl ?_
     refine RL.gskip rfl rfl rfl rfl ?_
     refine RL.gskip rfl rfl rfl rfl ?_
     refine RL.gskip rfl rfl rfl rfl ?_
     refine RL.val (O.pickt rfl rfl) rfl ?_
     refine RL.nil ?_
     refine KQ.then_k ?_
     replace hM := hM.pick [0, 1, 2, 3, 4, 5, 6, 7, 9, 10, 11, 8] rfl (by decide)
     exact fun a ha => ⟨true, ha.less (less_cons rfl (less_cons rfl (less_cons rfl (less_cons rfl (less_cons rfl (less_cons rfl (less_cons rfl (less_cons rfl (less_cons rfl less_nil))))))))), hM, hF⟩
    rw [if_neg (ne_true hc)] at hF
    refine RL.gval rfl rfl (O.fldA fl37_0 (by decide) rfl) rfl ?_
    refine RL.gval rfl rfl (O.load sc35 rfl (Cs.adds [0] ((hM.bx (i := 11) rfl)) rfl)) rfl ?_
    refine RL.gval rfl rfl (O.fldA fl37_0 (by decide) rfl) rfl ?_
    refine RL.gval rfl rfl (O.load sc35 rfl (Cs.adds [0] ((hM.bx (i := 10) rfl)) rfl)) rfl ?_
    refine RL.gval rfl rfl (O.gtr rfl rfl) rfl ?_
    refine RL.val (O.pickf rfl rfl) rfl ?_
    refine vm rfl rfl ?_
    refine RL.bcase (t := 34) rfl (fun hc => ?_) (fun hc => ?_)
    ·rw [if_pos hc] at hF
     refine RL.gskip rfl rfl rfl rfl ?_
     refine RL.gskip rfl rfl rfl rfl ?_
     refine RL.gskip rfl rfl rfl rfl ?_
     refine RL.gskip rfl rfl rfl rfl ?_
     refine RL.gskip rfl rfl rfl rfl ?_
     refine RL.val (O.pickt rfl rfl) rfl ?_
     refine RL.nil ?_
     refine KQ.then_k ?_
     replace hM := hM.pick [0, 1, 2, 3, 4, 5, 6, 7, 9, 10, 11, 8] rfl (by decide)
     exact fun a ha => ⟨true, ha.less (less_cons rfl (less_cons rfl (less_cons rfl (less_cons rfl (less_cons rfl (less_cons rfl (less_cons rfl (less_cons rfl (less_cons rfl less_nil))))))))), hM, hF⟩
    rw [if_neg (ne_true hc)] at hF
    refine RL.gval rfl rfl (O.fldA fl37_1 (by decide) rfl) rfl ?_
    refine RL.gval rfl rfl (O.load sc35 rfl (Cs.adds [1] ((hM.bx (i := 11) rfl)) rfl)) rfl ?_
    refine RL.gval rfl rfl (O.fldA fl37_1 (by decide) rfl) rfl ?_
    refine RL.gval rfl rfl (O.load sc35 rfl (Cs.adds [1] ((hM.bx (i := 10) rfl)) rfl)) rfl ?_
    refine RL.gval rfl rfl (O.gtr rfl rfl) rfl ?_
    refine RL.val (O.pickf rfl rfl) rfl ?_
    refine RL.nil ?_
    refine KQ.then_k ?_
    replace hM := hM.pick [0, 1, 2, 3, 4, 5, 6, 7, 9, 10, 11, 8] rfl (by decide)
    exact fun a ha => ⟨(decide (((m460 xv472.f_Key).getD (T_flow_Total.mk 0 0)).f_Bytes < y609.f_Bytes)), ha.less (less_cons rfl (less_cons rfl (less_cons rfl (less_cons rfl (less_cons rfl (less_cons rfl (less_cons rfl (less_cons rfl (less_cons rfl less_nil))))))))), hM, hF⟩
   rintro a w633 ⟨t631, ha, hM, hF⟩
   refine KC.app ha ?_
   clear ha
   unfold F_model_Model_pack_j1 at hF
   refine KC.cond rfl (fun hc => ?_) (fun hc => ?_)
   ·rw [if_pos hc] at hF
    refine sr fun Q634 hQ634 => ?_
    refine va rfl rfl ?_
    refine va rfl rfl ?_
    refine nt hQ634 ?_
    clear hQ634 Q634
    refine KC.ret ?_
    refine KQ.thr hQ615 ?_
    clear hQ615 Q615
    refine KQ.blk_r ?_
    refine KQ.thr hQ468 ?_
    clear hQ468 Q468
    refine KQ.then_r ?_
    refine KQ.blk_r ?_
    refine KQ.thr hQ39 ?_
    clear hQ39 Q39
    refine KQ.rets Try.results38 (RVs.cons (RV.tm rfl) (RVs.cons (RV.tm rfl) RVs.nil)) ?_
    refine ⟨.tuple #[.map none, vB false], rfl, ?_⟩
    refine RD.p rfl rfl rfl rfl (fun w' => O.move rfl) ?_
    refine RD.p rfl rfl rfl rfl (fun w' => O.ext rfl rfl) ?_
    refine RD.p rfl rfl rfl rfl (fun w' => O.ext rfl rfl) ?_
    refine RD.p rfl rfl rfl rfl (fun w' => O.assign rfl) ?_
    refine RD.p rfl rfl rfl rfl (fun w' => O.assign rfl) ?_
    refine RD.nil ?_
    refine KQ.thn hQ30 ?_
    clear hQ30 Q30
    replace hM := hM.pick [0, 1, 2, 3, 4, 5, 6, 11] rfl (by decide)
    refine KC.seqH fun Q635 hQ635 => ?_
    refine KC.cut (fun a w644 => Kn 77 [(0, .pointer (some ⟨g2, 0, none⟩)), (3, .pointer (some ⟨g27, 0, none⟩)), (5, .map none), (41, vB true)] a ∧ Mem w ([some g2] ++ ([some g4] ++ ([some g6] ++ ([some g8] ++ ([rblk A10 c11] ++ (Z14.map some ++ ([rblk A16 c17] ++ ([])))))))) w644 [.res [g4] (MR62 g4 m1.f_forwarded), .res [g6] (MR62 g6 m1.f_cached), .res [g8] (MR62 g8 m1.f_lost), .row A10 c11 47 6 (m1.f_entries).length (css13).flatten, .res Z14 (Els RO_model_Entry 6 m1.f_entries css13 Z14), .row A16 c17 3 1 (m1.f_line).length ((m1.f_line).flatMap (eI .i64)), .box g2 tg19 [.map (some g4), .map (some g6), .map (some g8), .slice A10 (m1.f_entries).length c11, .slice A16 (m1.f_line).length c17, v64 m1.f_first, v32 m1.f_boot], .box g27 41 [vI nv20.f_Kind, vB nv20.f_Key.f_Src.f_Six, o8 nv20.f_Key.f_Src.f_B 0, o8 nv20.f_Key.f_Src.f_B 1, o8 nv20.f_Key.f_Src.f_B 2, o8 nv20.f_Key.f_Src.f_B 3, o8 nv20.f_Key.f_Src.f_B 4, o8 nv20.f_Key.f_Src.f_B 5, o8 nv20.f_Key.f_Src.f_B 6, o8 nv20.f_Key.f_Src.f_B 7, o8 nv20.f_Key.f_Src.f_B 8, o8 nv20.f_Key.f_Src.f_B 9, o8 nv20.f_Key.f_Src.f_B 10, o8 nv20.f_Key.f_Src.f_B 11, o8 nv20.f_Key.f_Src.f_B 12, o8 nv20.f_Key.f_Src.f_B 13, o8 nv20.f_Key.f_Src.f_B 14, o8 nv20.f_Key.f_Src.f_B 15, vB nv20.f_Key.f_Dst.f_Six, o8 nv20.f_Key.f_Dst.f_B 0, o8 nv20.f_Key.f_Dst.f_B 1, o8 nv20.f_Key.f_Dst.f_B 2, o8 nv20.f_Key.f_Dst.f_B 3, o8 nv20.f_Key.f_Dst.f_B 4, o8 nv20.f_Key.f_Dst.f_B 5, o8 nv20.f_Key.f_Dst.f_B 6, o8 nv20.f_Key.f_Dst.f_B 7, o8 nv20.f_Key.f_Dst.f_B 8, o8 nv20.f_Key.f_Dst.f_B 9, o8 nv20.f_Key.f_Dst.f_B 10, o8 nv20.f_Key.f_Dst.f_B 11, o8 nv20.f_Key.f_Dst.f_B 12, o8 nv20.f_Key.f_Dst.f_B 13, o8 nv20.f_Key.f_Dst.f_B 14, o8 nv20.f_Key.f_Dst.f_B 15, v8 nv20.f_Key.f_Proto, v16 nv20.f_Key.f_SrcPort, v16 nv20.f_Key.f_DstPort, v64 nv20.f_Total.f_Packets, v64 nv20.f_Total.f_Bytes, .slice A21 (nv20.f_Records).length c22, v32 nv20.f_Epoch, v64 nv20.f_N, v64 nv20.f_First, v64 nv20.f_Next]] ∧ F_model_Model_pack_j2 m1 = some r) ?_ ?_
    ·replace hM := hM.drewN 1
     refine KC.draw [] [] [22] [0, 1, 2, 3, 4, 5, 7, 8, 9, 10, 12, 13, 14, 16, 17, 18, 19, 21, 23, 24] (.ofList [0, 1, 2, 3, 4, 5, 6, 7, 8, 9, 10, 11, 12, 13, 14, 15, 16, 17, 18, 19, 20, 21, 22, 23, 24]) moP (by kernel_rfl) ?_
     refine RD.p rfl rfl rfl rfl (fun w' => O.move rfl) ?_
     refine RD.p rfl rfl rfl rfl (fun w' => O.not rfl) ?_
     refine RD.brun1 [2, 3, 4, 5, 6, 7, 8, 9, 10, 11, 12, 13, 14, 15, 16, 17, 18, 19, 20, 21, 22, 23, 24] 41 true (by kernel_rfl) ?_
     refine RD.nil ?_
     refine KQ.then_k ?_
     exact fun a ha => ⟨ha.less (less_cons rfl (less_cons rfl (less_cons rfl (less_cons rfl less_nil)))), hM, hF⟩
    rintro a w644 ⟨ha, hM, hF⟩
    refine KC.app ha ?_
    clear ha
    unfold F_model_Model_pack_j2 at hF
    refine KC.condT rfl ?_
    refine sr fun Q645 hQ645 => ?_
    refine va rfl rfl ?_
    refine nt hQ645 ?_
    clear hQ645 Q645
    refine KC.ret ?_
    refine KQ.thr hQ635 ?_
    clear hQ635 Q635
    have hE := Option.some.inj hF
    clear hF
    subst hE
    replace hM := hM.pick [6, 0, 1, 2, 3, 4, 5] rfl (by decide)
    refine KQ.rets Try.results21 (RVs.cons (RV.tm rfl) RVs.nil) ?_
    exact ⟨_, rfl, g4, g6, g8, A10, c11, css13, Z14, A16, c17, rfl, hM⟩
   rw [if_neg (ne_true hc)] at hF
   refine KC.skip ?_
   refine KQ.thn hQ615 ?_
   clear hQ615 Q615
   refine KC.region ?_
   refine vm rfl rfl ?_
   refine RL.val (O.fldA fl50_0 (by decide) rfl) rfl ?_
   refine RL.val (O.loadN (cs := [vB xv472.f_Key.f_Src.f_Six, o8 xv472.f_Key.f_Src.f_B 0, o8 xv472.f_Key.f_Src.f_B 1, o8 xv472.f_Key.f_Src.f_B 2, o8 xv472.f_Key.f_Src.f_B 3, o8 xv472.f_Key.f_Src.f_B 4, o8 xv472.f_Key.f_Src.f_B 5, o8 xv472.f_Key.f_Src.f_B 6, o8 xv472.f_Key.f_Src.f_B 7, o8 xv472.f_Key.f_Src.f_B 8, o8 xv472.f_Key.f_Src.f_B 9, o8 xv472.f_Key.f_Src.f_B 10, o8 xv472.f_Key.f_Src.f_B 11, o8 xv472.f_Key.f_Src.f_B 12, o8 xv472.f_Key.f_Src.f_B 13, o8 xv472.f_Key.f_Src.f_B 14, o8 xv472.f_Key.f_Src.f_B 15, vB xv472.f_Key.f_Dst.f_Six, o8 xv472.f_Key.f_Dst.f_B 0, o8 xv472.f_Key.f_Dst.f_B 1, o8 xv472.f_Key.f_Dst.f_B 2, o8 xv472.f_Key.f_Dst.f_B 3, o8 xv472.f_Key.f_Dst.f_B 4, o8 xv472.f_Key.f_Dst.f_B 5, o8 xv472.f_Key.f_Dst.f_B 6, o8 xv472.f_Key.f_Dst.f_B 7, o8 xv472.f_Key.f_Dst.f_B 8, o8 xv472.f_Key.f_Dst.f_B 9, o8 xv472.f_Key.f_Dst.f_B 10, o8 xv472.f_Key.f_Dst.f_B 11, o8 xv472.f_Key.f_Dst.f_B 12, o8 xv472.f_Key.f_Dst.f_B 13, o8 xv472.f_Key.f_Dst.f_B 14, o8 xv472.f_Key.f_Dst.f_B 15, v8 xv472.f_Key.f_Proto, v16 xv472.f_Key.f_SrcPort, v16 xv472.f_Key.f_DstPort]) ag34 rfl (Cs.addsN [0] ((hM.bx (i := 8) rfl)) rfl)) rfl ?_
   refine RL.val (O.fldA fl37_0 (by decide) rfl) rfl ?_
   refine RL.val (O.load sc35 rfl (Cs.adds [0] ((hM.bx (i := 9) rfl)) rfl)) rfl ?_
   refine RL.val (O.fldA fl37_0 (by decide) rfl) rfl ?_
   refine RL.val (O.load sc35 rfl (Cs.adds [0] ((hM.bx (i := 10) rfl)) rfl)) rfl ?_
   refine RL.val (O.sub rfl rfl) rfl ?_
   refine RL.val (O.fldA fl37_1 (by decide) rfl) rfl ?_
   refine RL.val (O.load sc35 rfl (Cs.adds [1] ((hM.bx (i := 9) rfl)) rfl)) rfl ?_
   refine RL.val (O.fldA fl37_1 (by decide) rfl) rfl ?_
   refine RL.val (O.load sc35 rfl (Cs.adds [1] ((hM.bx (i := 10) rfl)) rfl)) rfl ?_
   refine RL.val (O.sub rfl rfl) rfl ?_
   refine RL.val (O.bld (cs := [v64 (IntKind.u64.wrap (((m460 xv472.f_Key).getD (T_flow_Total.mk 0 0)).f_Packets - y609.f_Packets)), v64 (IntKind.u64.wrap (((m460 xv472.f_Key).getD (T_flow_Total.mk 0 0)).f_Bytes - y609.f_Bytes))]) bt37 rfl (by kernel_rfl)) rfl ?_
   refine RL.effs (E.mup (k := xv472.f_Key) (u := (T_flow_Total.mk (IntKind.u64.wrap (((m460 xv472.f_Key).getD (T_flow_Total.mk 0 0)).f_Packets - y609.f_Packets)) (IntKind.u64.wrap (((m460 xv472.f_Key).getD (T_flow_Total.mk 0 0)).f_Bytes - y609.f_Bytes)))) (ks := [vB xv472.f_Key.f_Src.f_Six, o8 xv472.f_Key.f_Src.f_B 0, o8 xv472.f_Key.f_Src.f_B 1, o8 xv472.f_Key.f_Src.f_B 2, o8 xv472.f_Key.f_Src.f_B 3, o8 xv472.f_Key.f_Src.f_B 4, o8 xv472.f_Key.f_Src.f_B 5, o8 xv472.f_Key.f_Src.f_B 6, o8 xv472.f_Key.f_Src.f_B 7, o8 xv472.f_Key.f_Src.f_B 8, o8 xv472.f_Key.f_Src.f_B 9, o8 xv472.f_Key.f_Src.f_B 10, o8 xv472.f_Key.f_Src.f_B 11, o8 xv472.f_Key.f_Src.f_B 12, o8 xv472.f_Key.f_Src.f_B 13, o8 xv472.f_Key.f_Src.f_B 14, o8 xv472.f_Key.f_Src.f_B 15, vB xv472.f_Key.f_Dst.f_Six, o8 xv472.f_Key.f_Dst.f_B 0, o8 xv472.f_Key.f_Dst.f_B 1, o8 xv472.f_Key.f_Dst.f_B 2, o8 xv472.f_Key.f_Dst.f_B 3, o8 xv472.f_Key.f_Dst.f_B 4, o8 xv472.f_Key.f_Dst.f_B 5, o8 xv472.f_Key.f_Dst.f_B 6, o8 xv472.f_Key.f_Dst.f_B 7, o8 xv472.f_Key.f_Dst.f_B 8, o8 xv472.f_Key.f_Dst.f_B 9, o8 xv472.f_Key.f_Dst.f_B 10, o8 xv472.f_Key.f_Dst.f_B 11, o8 xv472.f_Key.f_Dst.f_B 12, o8 xv472.f_Key.f_Dst.f_B 13, o8 xv472.f_Key.f_Dst.f_B 14, o8 xv472.f_Key.f_Dst.f_B 15, v8 xv472.f_Key.f_Proto, v16 xv472.f_Key.f_SrcPort, v16 xv472.f_Key.f_DstPort]) (us := [v64 (IntKind.u64.wrap (((m460 xv472.f_Key).getD (T_flow_Total.mk 0 0)).f_Packets - y609.f_Packets)), v64 (IntKind.u64.wrap (((m460 xv472.f_Key).getD (T_flow_Total.mk 0 0)).f_Bytes - y609.f_Bytes))]) mt62 hM (j := 7) rfl rfl rfl rfl rfl rfl) fun w646 hM1 => ?_
   clear hM
   have hM := hM1
   clear hM1
   refine RL.nil ?_
   refine KQ.blk_n ?_
   refine KQ.thn hQ468 ?_
   clear hQ468 Q468
   replace hM := hM.pick [0, 1, 2, 3, 4, 5, 6, 7, 11] rfl (by decide)
   refine KC.region ?_
   refine RL.val (O.add rfl rfl) rfl ?_
   refine vm rfl rfl ?_
   refine RL.nil ?_
   refine KQ.then_k ?_
   exact fun a ha => ⟨k465, Nat.lt_succ_self k465, (mput q_packet_Key m460 xv472.f_Key (T_flow_Total.mk (IntKind.u64.wrap (((m460 xv472.f_Key).getD (T_flow_Total.mk 0 0)).f_Packets - y609.f_Packets)) (IntKind.u64.wrap (((m460 xv472.f_Key).getD (T_flow_Total.mk 0 0)).f_Bytes - y609.f_Bytes)))), (IntKind.i64.wrap (t461 + 1)), ha.less (less_cons rfl (less_cons rfl (less_cons rfl (less_cons rfl (less_cons rfl less_nil))))), hM, hF⟩
  refine RD.meff rfl rfl (E.alloc hM ze37) rfl fun v w648 hv => ?_
  clear hM
  obtain ⟨g647, rfl, hM, hf⟩ := hv
  refine ⟨fun _ => hf, ?_⟩
  refine RD.alt ?_ ?_
  ·refine obindE hF fun y650 hx651 hF => ?_
   refine RD.mcall rfl rfl trivial Try.func13 bd13 rfl rfl (c_flow_Record_Total _ xv472 _ hx651) fun v w652 hv => ?_
   obtain ⟨rfl, hN653⟩ := hv
   refine ⟨fun _ => hN653.fut, ?_⟩
   replace hM := hM.call0 hN653
   refine RD.meff rfl rfl (E.alloc hM ze37) rfl fun v w655 hv => ?_
   clear hM
   obtain ⟨g654, rfl, hM, hf⟩ := hv
   refine ⟨fun _ => hf, ?_⟩
   refine RD.meffs rfl rfl rfl (E.stB (j := 11) (off := 0) (vs := [v64 (((m460 xv472.f_Key).getD (T_flow_Total.mk 0 0)).f_Packets), v64 (((m460 xv472.f_Key).getD (T_flow_Total.mk 0 0)).f_Bytes)]) (cs' := [v64 (((m460 xv472.f_Key).getD (T_flow_Total.mk 0 0)).f_Packets), v64 (((m460 xv472.f_Key).getD (T_flow_Total.mk 0 0)).f_Bytes)]) hM rfl sz37 rfl (adds_eq [] rfl) rfl rfl (One.all rfl) rfl rfl) fun w657 hM1 => ?_
   clear hM
   have hM := hM1
   clear hM1
   refine RD.meffs rfl rfl rfl (E.stB (j := 10) (off := 0) (vs := [v64 y650.f_Packets, v64 y650.f_Bytes]) (cs' := [v64 y650.f_Packets, v64 y650.f_Bytes]) hM rfl sz37 rfl (adds_eq [] rfl) rfl rfl (One.all rfl) rfl rfl) fun w658 hM1 => ?_
   clear hM
   have hM := hM1
   clear hM1
   refine RD.nil ?_
   refine KQ.thn hQ477 ?_
   clear hQ477 Q477
   refine KC.seqH fun Q659 hQ659 => ?_
   refine KC.cut (fun a w677 => ∃ (t675 : Bool), Kn 60 [(0, .map (some g37)), (1, .slice A21 (nv20.f_Records).length c22), (7, .pointer (some ⟨g473, 0, none⟩)), (8, .pointer (some ⟨g654, 0, none⟩)), (9, .pointer (some ⟨g647, 0, none⟩)), (12, .slice A21 (nv20.f_Records).length c22), (13, vI (nv20.f_Records.length : Int)), (14, vI t461), (40, vB t675)] a ∧ Mem w ([some g2] ++ ([some g4] ++ ([some g6] ++ ([some g8] ++ ([rblk A10 c11] ++ (Z14.map some ++ ([rblk A16 c17] ++ ([])))))))) w677 [.res [g4] (MR62 g4 m1.f_forwarded), .res [g6] (MR62 g6 m1.f_cached), .res [g8] (MR62 g8 m1.f_lost), .row A10 c11 47 6 (m1.f_entries).length (css13).flatten, .res Z14 (Els RO_model_Entry 6 m1.f_entries css13 Z14), .row A16 c17 3 1 (m1.f_line).length ((m1.f_line).flatMap (eI .i64)), .box g2 tg19 [.map (some g4), .map (some g6), .map (some g8), .slice A10 (m1.f_entries).length c11, .slice A16 (m1.f_line).length c17, v64 m1.f_first, v32 m1.f_boot], .res [g37] (MR62 g37 m460), .box g473 50 [vB xv472.f_Key.f_Src.f_Six, o8 xv472.f_Key.f_Src.f_B 0, o8 xv472.f_Key.f_Src.f_B 1, o8 xv472.f_Key.f_Src.f_B 2, o8 xv472.f_Key.f_Src.f_B 3, o8 xv472.f_Key.f_Src.f_B 4, o8 xv472.f_Key.f_Src.f_B 5, o8 xv472.f_Key.f_Src.f_B 6, o8 xv472.f_Key.f_Src.f_B 7, o8 xv472.f_Key.f_Src.f_B 8, o8 xv472.f_Key.f_Src.f_B 9, o8 xv472.f_Key.f_Src.f_B 10, o8 xv472.f_Key.f_Src.f_B 11, o8 xv472.f_Key.f_Src.f_B 12, o8 xv472.f_Key.f_Src.f_B 13, o8 xv472.f_Key.f_Src.f_B 14, o8 xv472.f_Key.f_Src.f_B 15, vB xv472.f_Key.f_Dst.f_Six, o8 xv472.f_Key.f_Dst.f_B 0, o8 xv472.f_Key.f_Dst.f_B 1, o8 xv472.f_Key.f_Dst.f_B 2, o8 xv472.f_Key.f_Dst.f_B 3, o8 xv472.f_Key.f_Dst.f_B 4, o8 xv472.f_Key.f_Dst.f_B 5, o8 xv472.f_Key.f_Dst.f_B 6, o8 xv472.f_Key.f_Dst.f_B 7, o8 xv472.f_Key.f_Dst.f_B 8, o8 xv472.f_Key.f_Dst.f_B 9, o8 xv472.f_Key.f_Dst.f_B 10, o8 xv472.f_Key.f_Dst.f_B 11, o8 xv472.f_Key.f_Dst.f_B 12, o8 xv472.f_Key.f_Dst.f_B 13, o8 xv472.f_Key.f_Dst.f_B 14, o8 xv472.f_Key.f_Dst.f_B 15, v8 xv472.f_Key.f_Proto, v16 xv472.f_Key.f_SrcPort, v16 xv472.f_Key.f_DstPort, v64 xv472.f_Packets, v64 xv472.f_Bytes, v64 xv472.f_First, v64 xv472.f_Last, v8 xv472.f_Flags, v8 xv472.f_Reason, v8 xv472.f_Class], .box g654 37 [v64 (((m460 xv472.f_Key).getD (T_flow_Total.mk 0 0)).f_Packets), v64 (((m460 xv472.f_Key).getD (T_flow_Total.mk 0 0)).f_Bytes)], .box g647 37 [v64 y650.f_Packets, v64 y650.f_Bytes], .box g27 41 [vI nv20.f_Kind, vB nv20.f_Key.f_Src.f_Six, o8 nv20.f_Key.f_Src.f_B 0, o8 nv20.f_Key.f_Src.f_B 1, o8 nv20.f_Key.f_Src.f_B 2, o8 nv20.f_Key.f_Src.f_B 3, o8 nv20.f_Key.f_Src.f_B 4, o8 nv20.f_Key.f_Src.f_B 5, o8 nv20.f_Key.f_Src.f_B 6, o8 nv20.f_Key.f_Src.f_B 7, o8 nv20.f_Key.f_Src.f_B 8, o8 nv20.f_Key.f_Src.f_B 9, o8 nv20.f_Key.f_Src.f_B 10, o8 nv20.f_Key.f_Src.f_B 11, o8 nv20.f_Key.f_Src.f_B 12, o8 nv20.f_Key.f_Src.f_B 13, o8 nv20.f_Key.f_Src.f_B 14, o8 nv20.f_Key.f_Src.f_B 15, vB nv20.f_Key.f_Dst.f_Six, o8 nv20.f_Key.f_Dst.f_B 0, o8 nv20.f_Key.f_Dst.f_B 1, o8 nv20.f_Key.f_Dst.f_B 2, o8 nv20.f_Key.f_Dst.f_B 3, o8 nv20.f_Key.f_Dst.f_B 4, o8 nv20.f_Key.f_Dst.f_B 5, o8 nv20.f_Key.f_Dst.f_B 6, o8 nv20.f_Key.f_Dst.f_B 7, o8 nv20.f_Key.f_Dst.f_B 8, o8 nv20.f_Key.f_Dst.f_B 9, o8 nv20.f_Key.f_Dst.f_B 10, o8 nv20.f_Key.f_Dst.f_B 11, o8 nv20.f_Key.f_Dst.f_B 12, o8 nv20.f_Key.f_Dst.f_B 13, o8 nv20.f_Key.f_Dst.f_B 14, o8 nv20.f_Key.f_Dst.f_B 15, v8 nv20.f_Key.f_Proto, v16 nv20.f_Key.f_SrcPort, v16 nv20.f_Key.f_DstPort, v64 nv20.f_Total.f_Packets, v64 nv20.f_Total.f_Bytes, .slice A21 (nv20.f_Records).length c22, v32 nv20.f_Epoch, v64 nv20.f_N, v64 nv20.f_First, v64 nv20.f_Next]] ∧ F_model_Model_pack_j1 m1 m460 t461 (F_model_Model_pack_L1 m1 nv20 k465) xv472 y650 t675 = some r) ?_ ?_
   ·refine KC.region ?_
    refine RL.val (O.loadN (cs := [vB xv472.f_Key.f_Src.f_Six, o8 xv472.f_Key.f_Src.f_B 0, o8 xv472.f_Key.f_Src.f_B 1, o8 xv472.f_Key.f_Src.f_B 2, o8 xv472.f_Key.f_Src.f_B 3, o8 xv472.f_Key.f_Src.f_B 4, o8 xv472.f_Key.f_Src.f_B 5, o8 xv472.f_Key.f_Src.f_B 6, o8 xv472.f_Key.f_Src.f_B 7, o8 xv472.f_Key.f_Src.f_B 8, o8 xv472.f_Key.f_Src.f_B 9, o8 xv472.f_Key.f_Src.f_B 10, o8 xv472.f_Key.f_Src.f_B 11, o8 xv472.f_Key.f_Src.f_B 12, o8 xv472.f_Key.f_Src.f_B 13, o8 xv472.f_Key.f_Src.f_B 14, o8 xv472.f_Key.f_Src.f_B 15, vB xv472.f_Key.f_Dst.f_Six, o8 xv472.f_Key.f_Dst.f_B 0, o8 xv472.f_Key.f_Dst.f_B 1, o8 xv472.f_Key.f_Dst.f_B 2, o8 xv472.f_Key.f_Dst.f_B 3, o8 xv472.f_Key.f_Dst.f_B 4, o8 xv472.f_Key.f_Dst.f_B 5, o8 xv472.f_Key.f_Dst.f_B 6, o8 xv472.f_Key.f_Dst.f_B 7, o8 xv472.f_Key.f_Dst.f_B 8, o8 xv472.f_Key.f_Dst.f_B 9, o8 xv472.f_Key.f_Dst.f_B 10, o8 xv472.f_Key.f_Dst.f_B 11, o8 xv472.f_Key.f_Dst.f_B 12, o8 xv472.f_Key.f_Dst.f_B 13, o8 xv472.f_Key.f_Dst.f_B 14, o8 xv472.f_Key.f_Dst.f_B 15, v8 xv472.f_Key.f_Proto, v16 xv472.f_Key.f_SrcPort, v16 xv472.f_Key.f_DstPort, v64 xv472.f_Packets, v64 xv472.f_Bytes, v64 xv472.f_First, v64 xv472.f_Last, v8 xv472.f_Flags, v8 xv472.f_Reason, v8 xv472.f_Class]) ag50 rfl (Cs.addsN [] ((hM.bx (i := 9) rfl)) rfl)) rfl ?_
    refine obindE hF fun y660 hx661 hF => ?_
    refine RL.call Try.func57 bd57 rfl rfl (c_flow_Record_Right _ xv472 _ hx661) fun v w662 hv => ?_
    obtain ⟨rfl, hN663⟩ := hv
    replace hM := hM.call0 hN663
    refine RL.val (O.not rfl) rfl ?_
    refine vm rfl rfl ?_
    refine RL.bcase (t := 27) rfl (fun hc => ?_) (fun hc => ?_)
    ·rw [if_pos hc] at hF
     refine RL.gskip rfl rfl rfl rfl ?_
     refine RL.gskip rfl rfl rfl rfl ?_
     refine RL.gskip rfl rfl rfl rfl ?_
     refine RL.gskip rfl rfl rfl rfl ?_
     refine RL.gskip rfl rfl rfl rfl ?_
     refine RL.val (O.pickt rfl rfl) rfl ?_
     refine vm rfl rfl ?_
     refine RL.gskip rfl rfl rfl rfl ?_
     refine RL.gskip rfl rfl rfl rfl ?_
     refine RL.gskip rfl rfl rfl rfl ?_
     refine RL.gskip rfl rfl rfl rfl ?_
     refine RL.gskip rfl rfl rfl rfl ?_
     refine RL.val (O.pickt rfl rfl) rfl ?_
     refine RL.nil ?_
     refine KQ.then_k ?_
     replace hM := hM.pick [0, 1, 2, 3, 4, 5, 6, 7, 9, 11, 10, 8] rfl (by decide)
     exact fun a ha => ⟨true, ha.less (less_cons rfl (less_cons rfl (less_cons rfl (less_cons rfl (less_cons rfl (less_cons rfl (less_cons rfl (less_cons rfl (less_cons rfl less_nil))))))))), hM, hF⟩
    rw [if_neg (ne_true hc)] at hF
    refine RL.gval rfl rfl (O.fldA fl37_0 (by decide) rfl) rfl ?_
    refine RL.gval rfl rfl (O.load sc35 rfl (Cs.adds [0] ((hM.bx (i := 10) rfl)) rfl)) rfl ?_
    refine RL.gval rfl rfl (O.fldA fl37_0 (by decide) rfl) rfl ?_
    refine RL.gval rfl rfl (O.load sc35 rfl (Cs.adds [0] ((hM.bx (i := 11) rfl)) rfl)) rfl ?_
    refine RL.gval rfl rfl (O.gtr rfl rfl) rfl ?_
    refine RL.val (O.pickf rfl rfl) rfl ?_
    refine vm rfl rfl ?_
    refine RL.bcase (t := 34) rfl (fun hc => ?_) (fun hc => ?_)
    ·rw [if_pos hc] at hF
     refine RL.gskip rfl rfl rfl rfl ?_
     refine RL.gskip rfl rfl rfl rfl ?_
     refine RL.gskip rfl rfl rfl rfl ?_
     refine RL.gskip rfl rfl rfl rfl ?_
     refine RL.gskip rfl rfl rfl rfl ?_
     refine RL.val (O.pickt rfl rfl) rfl ?_
     refine RL.nil ?_
     refine KQ.then_k ?_
     replace hM := hM.pick [0, 1, 2, 3, 4, 5, 6, 7, 9, 11, 10, 8] rfl (by decide)
     exact fun a ha => ⟨true, ha.less (less_cons rfl (less_cons rfl (less_cons rfl (less_cons rfl (less_cons rfl (less_cons rfl (less_cons rfl (less_cons rfl (less_cons rfl less_nil))))))))), hM, hF⟩
    rw [if_neg (ne_true hc)] at hF
    refine RL.gval rfl rfl (O.fldA fl37_1 (by decide) rfl) rfl ?_
    refine RL.gval rfl rfl (O.load sc35 rfl (Cs.adds [1] ((hM.bx (i := 10) rfl)) rfl)) rfl ?_
    refine RL.gval rfl rfl (O.fldA fl37_1 (by decide) rfl) rfl ?_
    refine RL.gval rfl rfl (O.load sc35 rfl (Cs.adds [1] ((hM.bx (i := 11) rfl)) rfl)) rfl ?_
    refine RL.gval rfl rfl (O.gtr rfl rfl) rfl ?_
    refine RL.val (O.pickf rfl rfl) rfl ?_
    refine RL.nil ?_
    refine KQ.then_k ?_
    replace hM := hM.pick [0, 1, 2, 3, 4, 5, 6, 7, 9, 11, 10, 8] rfl (by decide)
    exact fun a ha => ⟨(decide (((m460 xv472.f_Key).getD (T_flow_Total.mk 0 0)).f_Bytes < y650.f_Bytes)), ha.less (less_cons rfl (less_cons rfl (less_cons rfl (less_cons rfl (less_cons rfl (less_cons rfl (less_cons rfl (less_cons rfl (less_cons rfl less_nil))))))))), hM, hF⟩
   rintro a w677 ⟨t675, ha, hM, hF⟩
   refine KC.app ha ?_
   clear ha
   unfold F_model_Model_pack_j1 at hF
   refine KC.cond rfl (fun hc => ?_) (fun hc => ?_)
   ·rw [if_pos hc] at hF
    refine sr fun Q678 hQ678 => ?_
    refine va rfl rfl ?_
    refine va rfl rfl ?_
    refine nt hQ678 ?_
    clear hQ678 Q678
    refine KC.ret ?_
    refine KQ.thr hQ659 ?_
    clear hQ659 Q659
    refine KQ.blk_r ?_
    refine KQ.thr hQ468 ?_
    clear hQ468 Q468
    refine KQ.then_r ?_
    refine KQ.blk_r ?_
    refine KQ.thr hQ39 ?_
    clear hQ39 Q39
    refine KQ.rets Try.results38 (RVs.cons (RV.tm rfl) (RVs.cons (RV.tm rfl) RVs.nil)) ?_
    refine ⟨.tuple #[.map none, vB false], rfl, ?_⟩
    refine RD.p rfl rfl rfl rfl (fun w' => O.move rfl) ?_
    refine RD.p rfl rfl rfl rfl (fun w' => O.ext rfl rfl) ?_
    refine RD.p rfl rfl rfl rfl (fun w' => O.ext rfl rfl) ?_
    refine RD.p rfl rfl rfl rfl (fun w' => O.assign rfl) ?_
    refine RD.p rfl rfl rfl rfl (fun w' => O.assign rfl) ?_
    refine RD.nil ?_
    refine KQ.thn hQ30 ?_
    clear hQ30 Q30
    replace hM := hM.pick [0, 1, 2, 3, 4, 5, 6, 11] rfl (by decide)
    refine KC.seqH fun Q679 hQ679 => ?_
    refine KC.cut (fun a w688 => Kn 77 [(0, .pointer (some ⟨g2, 0, none⟩)), (3, .pointer (some ⟨g27, 0, none⟩)), (5, .map none), (41, vB true)] a ∧ Mem w ([some g2] ++ ([some g4] ++ ([some g6] ++ ([some g8] ++ ([rblk A10 c11] ++ (Z14.map some ++ ([rblk A16 c17] ++ ([])))))))) w688 [.res [g4] (MR62 g4 m1.f_forwarded), .res [g6] (MR62 g6 m1.f_cached), .res [g8] (MR62 g8 m1.f_lost), .row A10 c11 47 6 (m1.f_entries).length (css13).flatten, .res Z14 (Els RO_model_Entry 6 m1.f_entries css13 Z14), .row A16 c17 3 1 (m1.f_line).length ((m1.f_line).flatMap (eI .i64)), .box g2 tg19 [.map (some g4), .map (some g6), .map (some g8), .slice A10 (m1.f_entries).length c11, .slice A16 (m1.f_line).length c17, v64 m1.f_first, v32 m1.f_boot], .box g27 41 [vI nv20.f_Kind, vB nv20.f_Key.f_Src.f_Six, o8 nv20.f_Key.f_Src.f_B 0, o8 nv20.f_Key.f_Src.f_B 1, o8 nv20.f_Key.f_Src.f_B 2, o8 nv20.f_Key.f_Src.f_B 3, o8 nv20.f_Key.f_Src.f_B 4, o8 nv20.f_Key.f_Src.f_B 5, o8 nv20.f_Key.f_Src.f_B 6, o8 nv20.f_Key.f_Src.f_B 7, o8 nv20.f_Key.f_Src.f_B 8, o8 nv20.f_Key.f_Src.f_B 9, o8 nv20.f_Key.f_Src.f_B 10, o8 nv20.f_Key.f_Src.f_B 11, o8 nv20.f_Key.f_Src.f_B 12, o8 nv20.f_Key.f_Src.f_B 13, o8 nv20.f_Key.f_Src.f_B 14, o8 nv20.f_Key.f_Src.f_B 15, vB nv20.f_Key.f_Dst.f_Six, o8 nv20.f_Key.f_Dst.f_B 0, o8 nv20.f_Key.f_Dst.f_B 1, o8 nv20.f_Key.f_Dst.f_B 2, o8 nv20.f_Key.f_Dst.f_B 3, o8 nv20.f_Key.f_Dst.f_B 4, o8 nv20.f_Key.f_Dst.f_B 5, o8 nv20.f_Key.f_Dst.f_B 6, o8 nv20.f_Key.f_Dst.f_B 7, o8 nv20.f_Key.f_Dst.f_B 8, o8 nv20.f_Key.f_Dst.f_B 9, o8 nv20.f_Key.f_Dst.f_B 10, o8 nv20.f_Key.f_Dst.f_B 11, o8 nv20.f_Key.f_Dst.f_B 12, o8 nv20.f_Key.f_Dst.f_B 13, o8 nv20.f_Key.f_Dst.f_B 14, o8 nv20.f_Key.f_Dst.f_B 15, v8 nv20.f_Key.f_Proto, v16 nv20.f_Key.f_SrcPort, v16 nv20.f_Key.f_DstPort, v64 nv20.f_Total.f_Packets, v64 nv20.f_Total.f_Bytes, .slice A21 (nv20.f_Records).length c22, v32 nv20.f_Epoch, v64 nv20.f_N, v64 nv20.f_First, v64 nv20.f_Next]] ∧ F_model_Model_pack_j2 m1 = some r) ?_ ?_
    ·replace hM := hM.drewN 1
     refine KC.draw [] [] [22] [0, 1, 2, 3, 4, 5, 7, 8, 9, 10, 12, 13, 14, 16, 17, 18, 19, 21, 23, 24] (.ofList [0, 1, 2, 3, 4, 5, 6, 7, 8, 9, 10, 11, 12, 13, 14, 15, 16, 17, 18, 19, 20, 21, 22, 23, 24]) moP (by kernel_rfl) ?_
     refine RD.p rfl rfl rfl rfl (fun w' => O.move rfl) ?_
     refine RD.p rfl rfl rfl rfl (fun w' => O.not rfl) ?_
     refine RD.brun1 [2, 3, 4, 5, 6, 7, 8, 9, 10, 11, 12, 13, 14, 15, 16, 17, 18, 19, 20, 21, 22, 23, 24] 41 true (by kernel_rfl) ?_
     refine RD.nil ?_
     refine KQ.then_k ?_
     exact fun a ha => ⟨ha.less (less_cons rfl (less_cons rfl (less_cons rfl (less_cons rfl less_nil)))), hM, hF⟩
    rintro a w688 ⟨ha, hM, hF⟩
    refine KC.app ha ?_
    clear ha
    unfold F_model_Model_pack_j2 at hF
    refine KC.condT rfl ?_
    refine sr fun Q689 hQ689 => ?_
    refine va rfl rfl ?_
    refine nt hQ689 ?_
    clear hQ689 Q689
    refine KC.ret ?_
    refine KQ.thr hQ679 ?_
    clear hQ679 Q679
    have hE := Option.some.inj hF
    clear hF
    subst hE
    replace hM := hM.pick [6, 0, 1, 2, 3, 4, 5] rfl (by decide)
    refine KQ.rets Try.results21 (RVs.cons (RV.tm rfl) RVs.nil) ?_
    exact ⟨_, rfl, g4, g6, g8, A10, c11, css13, Z14, A16, c17, rfl, hM⟩
   rw [if_neg (ne_true hc)] at hF
   refine KC.skip ?_
   refine KQ.thn hQ659 ?_
   clear hQ659 Q659
   refine KC.region ?_
   refine vm rfl rfl ?_
   refine RL.val (O.fldA fl50_0 (by decide) rfl) rfl ?_
   refine RL.val (O.loadN (cs := [vB xv472.f_Key.f_Src.f_Six, o8 xv472.f_Key.f_Src.f_B 0, o8 xv472.f_Key.f_Src.f_B 1, o8 xv472.f_Key.f_Src.f_B 2, o8 xv472.f_Key.f_Src.f_B 3, o8 xv472.f_Key.f_Src.f_B 4, o8 xv472.f_Key.f_Src.f_B 5, o8 xv472.f_Key.f_Src.f_B 6, o8 xv472.f_Key.f_Src.f_B 7, o8 xv472.f_Key.f_Src.f_B 8, o8 xv472.f_Key.f_Src.f_B 9, o8 xv472.f_Key.f_Src.f_B 10, o8 xv472.f_Key.f_Src.f_B 11, o8 xv472.f_Key.f_Src.f_B 12, o8 xv472.f_Key.f_Src.f_B 13, o8 xv472.f_Key.f_Src.f_B 14, o8 xv472.f_Key.f_Src.f_B 15, vB xv472.f_Key.f_Dst.f_Six, o8 xv472.f_Key.f_Dst.f_B 0, o8 xv472.f_Key.f_Dst.f_B 1, o8 xv472.f_Key.f_Dst.f_B 2, o8 xv472.f_Key.f_Dst.f_B 3, o8 xv472.f_Key.f_Dst.f_B 4, o8 xv472.f_Key.f_Dst.f_B 5, o8 xv472.f_Key.f_Dst.f_B 6, o8 xv472.f_Key.f_Dst.f_B 7, o8 xv472.f_Key.f_Dst.f_B 8, o8 xv472.f_Key.f_Dst.f_B 9, o8 xv472.f_Key.f_Dst.f_B 10, o8 xv472.f_Key.f_Dst.f_B 11, o8 xv472.f_Key.f_Dst.f_B 12, o8 xv472.f_Key.f_Dst.f_B 13, o8 xv472.f_Key.f_Dst.f_B 14, o8 xv472.f_Key.f_Dst.f_B 15, v8 xv472.f_Key.f_Proto, v16 xv472.f_Key.f_SrcPort, v16 xv472.f_Key.f_DstPort]) ag34 rfl (Cs.addsN [0] ((hM.bx (i := 8) rfl)) rfl)) rfl ?_
   refine RL.val (O.fldA fl37_0 (by decide) rfl) rfl ?_
   refine RL.val (O.load sc35 rfl (Cs.adds [0] ((hM.bx (i := 9) rfl)) rfl)) rfl ?_
   refine RL.val (O.fldA fl37_0 (by decide) rfl) rfl ?_
   refine RL.val (O.load sc35 rfl (Cs.adds [0] ((hM.bx (i := 10) rfl)) rfl)) rfl ?_
   refine RL.val (O.sub rfl rfl) rfl ?_
   refine RL.val (O.fldA fl37_1 (by decide) rfl) rfl ?_
   refine RL.val (O.load sc35 rfl (Cs.adds [1] ((hM.bx (i := 9) rfl)) rfl)) rfl ?_
   refine RL.val (O.fldA fl37_1 (by decide) rfl) rfl ?_
   refine RL.val (O.load sc35 rfl (Cs.adds [1] ((hM.bx (i := 10) rfl)) rfl)) rfl ?_
   refine RL.val (O.sub rfl rfl) rfl ?_
   refine RL.val (O.bld (cs := [v64 (IntKind.u64.wrap (((m460 xv472.f_Key).getD (T_flow_Total.mk 0 0)).f_Packets - y650.f_Packets)), v64 (IntKind.u64.wrap (((m460 xv472.f_Key).getD (T_flow_Total.mk 0 0)).f_Bytes - y650.f_Bytes))]) bt37 rfl (by kernel_rfl)) rfl ?_
   refine RL.effs (E.mup (k := xv472.f_Key) (u := (T_flow_Total.mk (IntKind.u64.wrap (((m460 xv472.f_Key).getD (T_flow_Total.mk 0 0)).f_Packets - y650.f_Packets)) (IntKind.u64.wrap (((m460 xv472.f_Key).getD (T_flow_Total.mk 0 0)).f_Bytes - y650.f_Bytes)))) (ks := [vB xv472.f_Key.f_Src.f_Six, o8 xv472.f_Key.f_Src.f_B 0, o8 xv472.f_Key.f_Src.f_B 1, o8 xv472.f_Key.f_Src.f_B 2, o8 xv472.f_Key.f_Src.f_B 3, o8 xv472.f_Key.f_Src.f_B 4, o8 xv472.f_Key.f_Src.f_B 5, o8 xv472.f_Key.f_Src.f_B 6, o8 xv472.f_Key.f_Src.f_B 7, o8 xv472.f_Key.f_Src.f_B 8, o8 xv472.f_Key.f_Src.f_B 9, o8 xv472.f_Key.f_Src.f_B 10, o8 xv472.f_Key.f_Src.f_B 11, o8 xv472.f_Key.f_Src.f_B 12, o8 xv472.f_Key.f_Src.f_B 13, o8 xv472.f_Key.f_Src.f_B 14, o8 xv472.f_Key.f_Src.f_B 15, vB xv472.f_Key.f_Dst.f_Six, o8 xv472.f_Key.f_Dst.f_B 0, o8 xv472.f_Key.f_Dst.f_B 1, o8 xv472.f_Key.f_Dst.f_B 2, o8 xv472.f_Key.f_Dst.f_B 3, o8 xv472.f_Key.f_Dst.f_B 4, o8 xv472.f_Key.f_Dst.f_B 5, o8 xv472.f_Key.f_Dst.f_B 6, o8 xv472.f_Key.f_Dst.f_B 7, o8 xv472.f_Key.f_Dst.f_B 8, o8 xv472.f_Key.f_Dst.f_B 9, o8 xv472.f_Key.f_Dst.f_B 10, o8 xv472.f_Key.f_Dst.f_B 11, o8 xv472.f_Key.f_Dst.f_B 12, o8 xv472.f_Key.f_Dst.f_B 13, o8 xv472.f_Key.f_Dst.f_B 14, o8 xv472.f_Key.f_Dst.f_B 15, v8 xv472.f_Key.f_Proto, v16 xv472.f_Key.f_SrcPort, v16 xv472.f_Key.f_DstPort]) (us := [v64 (IntKind.u64.wrap (((m460 xv472.f_Key).getD (T_flow_Total.mk 0 0)).f_Packets - y650.f_Packets)), v64 (IntKind.u64.wrap (((m460 xv472.f_Key).getD (T_flow_Total.mk 0 0)).f_Bytes - y650.f_Bytes))]) mt62 hM (j := 7) rfl rfl rfl rfl rfl rfl) fun w690 hM1 => ?_
   clear hM
   have hM := hM1
   clear hM1
   refine RL.nil ?_
   refine KQ.blk_n ?_
   refine KQ.thn hQ468 ?_
   clear hQ468 Q468
   replace hM := hM.pick [0, 1, 2, 3, 4, 5, 6, 7, 11] rfl (by decide)
   refine KC.region ?_
   refine RL.val (O.add rfl rfl) rfl ?_
   refine vm rfl rfl ?_
   refine RL.nil ?_
   refine KQ.then_k ?_
   exact fun a ha => ⟨k465, Nat.lt_succ_self k465, (mput q_packet_Key m460 xv472.f_Key (T_flow_Total.mk (IntKind.u64.wrap (((m460 xv472.f_Key).getD (T_flow_Total.mk 0 0)).f_Packets - y650.f_Packets)) (IntKind.u64.wrap (((m460 xv472.f_Key).getD (T_flow_Total.mk 0 0)).f_Bytes - y650.f_Bytes)))), (IntKind.i64.wrap (t461 + 1)), ha.less (less_cons rfl (less_cons rfl (less_cons rfl (less_cons rfl (less_cons rfl less_nil))))), hM, hF⟩
  refine RD.meff rfl rfl (E.alloc hM ze37) rfl fun v w692 hv => ?_
  clear hM
  obtain ⟨g691, rfl, hM, hf⟩ := hv
  refine ⟨fun _ => hf, ?_⟩
  refine obindE hF fun y694 hx695 hF => ?_
  refine RD.mcall rfl rfl trivial Try.func13 bd13 rfl rfl (c_flow_Record_Total _ xv472 _ hx695) fun v w696 hv => ?_
  obtain ⟨rfl, hN697⟩ := hv
  refine ⟨fun _ => hN697.fut, ?_⟩
  replace hM := hM.call0 hN697
  refine RD.meffs rfl rfl rfl (E.stB (j := 11) (off := 0) (vs := [v64 (((m460 xv472.f_Key).getD (T_flow_Total.mk 0 0)).f_Packets), v64 (((m460 xv472.f_Key).getD (T_flow_Total.mk 0 0)).f_Bytes)]) (cs' := [v64 (((m460 xv472.f_Key).getD (T_flow_Total.mk 0 0)).f_Packets), v64 (((m460 xv472.f_Key).getD (T_flow_Total.mk 0 0)).f_Bytes)]) hM rfl sz37 rfl (adds_eq [] rfl) rfl rfl (One.all rfl) rfl rfl) fun w698 hM1 => ?_
  clear hM
  have hM := hM1
  clear hM1
  refine RD.meffs rfl rfl rfl (E.stB (j := 10) (off := 0) (vs := [v64 y694.f_Packets, v64 y694.f_Bytes]) (cs' := [v64 y694.f_Packets, v64 y694.f_Bytes]) hM rfl sz37 rfl (adds_eq [] rfl) rfl rfl (One.all rfl) rfl rfl) fun w699 hM1 => ?_
  clear hM
  have hM := hM1
  clear hM1
  refine RD.nil ?_
  refine KQ.thn hQ477 ?_
  clear hQ477 Q477
  refine KC.seqH fun Q700 hQ700 => ?_
  refine KC.cut (fun a w718 => ∃ (t716 : Bool), Kn 60 [(0, .map (some g37)), (1, .slice A21 (nv20.f_Records).length c22), (7, .pointer (some ⟨g473, 0, none⟩)), (8, .pointer (some ⟨g691, 0, none⟩)), (9, .pointer (some ⟨g647, 0, none⟩)), (12, .slice A21 (nv20.f_Records).length c22), (13, vI (nv20.f_Records.length : Int)), (14, vI t461), (40, vB t716)] a ∧ Mem w ([some g2] ++ ([some g4] ++ ([some g6] ++ ([some g8] ++ ([rblk A10 c11] ++ (Z14.map some ++ ([rblk A16 c17] ++ ([])))))))) w718 [.res [g4] (MR62 g4 m1.f_forwarded), .res [g6] (MR62 g6 m1.f_cached), .res [g8] (MR62 g8 m1.f_lost), .row A10 c11 47 6 (m1.f_entries).length (css13).flatten, .res Z14 (Els RO_model_Entry 6 m1.f_entries css13 Z14), .row A16 c17 3 1 (m1.f_line).length ((m1.f_line).flatMap (eI .i64)), .box g2 tg19 [.map (some g4), .map (some g6), .map (some g8), .slice A10 (m1.f_entries).length c11, .slice A16 (m1.f_line).length c17, v64 m1.f_first, v32 m1.f_boot], .res [g37] (MR62 g37 m460), .box g473 50 [vB xv472.f_Key.f_Src.f_Six, o8 xv472.f_Key.f_Src.f_B 0, o8 xv472.f_Key.f_Src.f_B 1, o8 xv472.f_Key.f_Src.f_B 2, o8 xv472.f_Key.f_Src.f_B 3, o8 xv472.f_Key.f_Src.f_B 4, o8 xv472.f_Key.f_Src.f_B 5, o8 xv472.f_Key.f_Src.f_B 6, o8 xv472.f_Key.f_Src.f_B 7, o8 xv472.f_Key.f_Src.f_B 8, o8 xv472.f_Key.f_Src.f_B 9, o8 xv472.f_Key.f_Src.f_B 10, o8 xv472.f_Key.f_Src.f_B 11, o8 xv472.f_Key.f_Src.f_B 12, o8 xv472.f_Key.f_Src.f_B 13, o8 xv472.f_Key.f_Src.f_B 14, o8 xv472.f_Key.f_Src.f_B 15, vB xv472.f_Key.f_Dst.f_Six, o8 xv472.f_Key.f_Dst.f_B 0, o8 xv472.f_Key.f_Dst.f_B 1, o8 xv472.f_Key.f_Dst.f_B 2, o8 xv472.f_Key.f_Dst.f_B 3, o8 xv472.f_Key.f_Dst.f_B 4, o8 xv472.f_Key.f_Dst.f_B 5, o8 xv472.f_Key.f_Dst.f_B 6, o8 xv472.f_Key.f_Dst.f_B 7, o8 xv472.f_Key.f_Dst.f_B 8, o8 xv472.f_Key.f_Dst.f_B 9, o8 xv472.f_Key.f_Dst.f_B 10, o8 xv472.f_Key.f_Dst.f_B 11, o8 xv472.f_Key.f_Dst.f_B 12, o8 xv472.f_Key.f_Dst.f_B 13, o8 xv472.f_Key.f_Dst.f_B 14, o8 xv472.f_Key.f_Dst.f_B 15, v8 xv472.f_Key.f_Proto, v16 xv472.f_Key.f_SrcPort, v16 xv472.f_Key.f_DstPort, v64 xv472.f_Packets, v64 xv472.f_Bytes, v64 xv472.f_First, v64 xv472.f_Last, v8 xv472.f_Flags, v8 xv472.f_Reason, v8 xv472.f_Class], .box g691 37 [v64 (((m460 xv472.f_Key).getD (T_flow_Total.mk 0 0)).f_Packets), v64 (((m460 xv472.f_Key).getD (T_flow_Total.mk 0 0)).f_Bytes)], .box g647 37 [v64 y694.f_Packets, v64 y694.f_Bytes], .box g27 41 [vI nv20.f_Kind, vB nv20.f_Key.f_Src.f_Six, o8 nv20.f_Key.f_Src.f_B 0, o8 nv20.f_Key.f_Src.f_B 1, o8 nv20.f_Key.f_Src.f_B 2, o8 nv20.f_Key.f_Src.f_B 3, o8 nv20.f_Key.f_Src.f_B 4, o8 nv20.f_Key.f_Src.f_B 5, o8 nv20.f_Key.f_Src.f_B 6, o8 nv20.f_Key.f_Src.f_B 7, o8 nv20.f_Key.f_Src.f_B 8, o8 nv20.f_Key.f_Src.f_B 9, o8 nv20.f_Key.f_Src.f_B 10, o8 nv20.f_Key.f_Src.f_B 11, o8 nv20.f_Key.f_Src.f_B 12, o8 nv20.f_Key.f_Src.f_B 13, o8 nv20.f_Key.f_Src.f_B 14, o8 nv20.f_Key.f_Src.f_B 15, vB nv20.f_Key.f_Dst.f_Six, o8 nv20.f_Key.f_Dst.f_B 0, o8 nv20.f_Key.f_Dst.f_B 1, o8 nv20.f_Key.f_Dst.f_B 2, o8 nv20.f_Key.f_Dst.f_B 3, o8 nv20.f_Key.f_Dst.f_B 4, o8 nv20.f_Key.f_Dst.f_B 5, o8 nv20.f_Key.f_Dst.f_B 6, o8 nv20.f_Key.f_Dst.f_B 7, o8 nv20.f_Key.f_Dst.f_B 8, o8 nv20.f_Key.f_Dst.f_B 9, o8 nv20.f_Key.f_Dst.f_B 10, o8 nv20.f_Key.f_Dst.f_B 11, o8 nv20.f_Key.f_Dst.f_B 12, o8 nv20.f_Key.f_Dst.f_B 13, o8 nv20.f_Key.f_Dst.f_B 14, o8 nv20.f_Key.f_Dst.f_B 15, v8 nv20.f_Key.f_Proto, v16 nv20.f_Key.f_SrcPort, v16 nv20.f_Key.f_DstPort, v64 nv20.f_Total.f_Packets, v64 nv20.f_Total.f_Bytes, .slice A21 (nv20.f_Records).length c22, v32 nv20.f_Epoch, v64 nv20.f_N, v64 nv20.f_First, v64 nv20.f_Next]] ∧ F_model_Model_pack_j1 m1 m460 t461 (F_model_Model_pack_L1 m1 nv20 k465) xv472 y694 t716 = some r) ?_ ?_
  ·refine KC.region ?_
   refine RL.val (O.loadN (cs := [vB xv472.f_Key.f_Src.f_Six, o8 xv472.f_Key.f_Src.f_B 0, o8 xv472.f_Key.f_Src.f_B 1, o8 xv472.f_Key.f_Src.f_B 2, o8 xv472.f_Key.f_Src.f_B 3, o8 xv472.f_Key.f_Src.f_B 4, o8 xv472.f_Key.f_Src.f_B 5, o8 xv472.f_Key.f_Src.f_B 6, o8 xv472.f_Key.f_Src.f_B 7, o8 xv472.f_Key.f_Src.f_B 8, o8 xv472.f_Key.f_Src.f_B 9, o8 xv472.f_Key.f_Src.f_B 10, o8 xv472.f_Key.f_Src.f_B 11, o8 xv472.f_Key.f_Src.f_B 12, o8 xv472.f_Key.f_Src.f_B 13, o8 xv472.f_Key.f_Src.f_B 14, o8 xv472.f_Key.f_Src.f_B 15, vB xv472.f_Key.f_Dst.f_Six, o8 xv472.f_Key.f_Dst.f_B 0, o8 xv472.f_Key.f_Dst.f_B 1, o8 xv472.f_Key.f_Dst.f_B 2, o8 xv472.f_Key.f_Dst.f_B 3, o8 xv472.f_Key.f_Dst.f_B 4, o8 xv472.f_Key.f_Dst.f_B 5, o8 xv472.f_Key.f_Dst.f_B 6, o8 xv472.f_Key.f_Dst.f_B 7, o8 xv472.f_Key.f_Dst.f_B 8, o8 xv472.f_Key.f_Dst.f_B 9, o8 xv472.f_Key.f_Dst.f_B 10, o8 xv472.f_Key.f_Dst.f_B 11, o8 xv472.f_Key.f_Dst.f_B 12, o8 xv472.f_Key.f_Dst.f_B 13, o8 xv472.f_Key.f_Dst.f_B 14, o8 xv472.f_Key.f_Dst.f_B 15, v8 xv472.f_Key.f_Proto, v16 xv472.f_Key.f_SrcPort, v16 xv472.f_Key.f_DstPort, v64 xv472.f_Packets, v64 xv472.f_Bytes, v64 xv472.f_First, v64 xv472.f_Last, v8 xv472.f_Flags, v8 xv472.f_Reason, v8 xv472.f_Class]) ag50 rfl (Cs.addsN [] ((hM.bx (i := 9) rfl)) rfl)) rfl ?_
   refine obindE hF fun y701 hx702 hF => ?_
   refine RL.call Try.func57 bd57 rfl rfl (c_flow_Record_Right _ xv472 _ hx702) fun v w703 hv => ?_
   obtain ⟨rfl, hN704⟩ := hv
   replace hM := hM.call0 hN704
   refine RL.val (O.not rfl) rfl ?_
   refine vm rfl rfl ?_
   refine RL.bcase (t := 27) rfl (fun hc => ?_) (fun hc => ?_)
   ·rw [if_pos hc] at hF
    refine RL.gskip rfl rfl rfl rfl ?_
    refine RL.gskip rfl rfl rfl rfl ?_
    refine RL.gskip rfl rfl rfl rfl ?_
    refine RL.gskip rfl rfl rfl rfl ?_
    refine RL.gskip rfl rfl rfl rfl ?_
    refine RL.val (O.pickt rfl rfl) rfl ?_
    refine vm rfl rfl ?_
    refine RL.gskip rfl rfl rfl rfl ?_
    refine RL.gskip rfl rfl rfl rfl ?_
    refine RL.gskip rfl rfl rfl rfl ?_
    refine RL.gskip rfl rfl rfl rfl ?_
    refine RL.gskip rfl rfl rfl rfl ?_
    refine RL.val (O.pickt rfl rfl) rfl ?_
    refine RL.nil ?_
    refine KQ.then_k ?_
    replace hM := hM.pick [0, 1, 2, 3, 4, 5, 6, 7, 9, 11, 10, 8] rfl (by decide)
    exact fun a ha => ⟨true, ha.less (less_cons rfl (less_cons rfl (less_cons rfl (less_cons rfl (less_cons rfl (less_cons rfl (less_cons rfl (less_cons rfl (less_cons rfl less_nil))))))))), hM, hF⟩
   rw [if_neg (ne_true hc)] at hF
   refine RL.gval rfl rfl (O.fldA fl37_0 (by decide) rfl) rfl ?_
   refine RL.gval rfl rfl (O.load sc35 rfl (Cs.adds [0] ((hM.bx (i := 10) rfl)) rfl)) rfl ?_
   refine RL.gval rfl rfl (O.fldA fl37_0 (by decide) rfl) rfl ?_
   refine RL.gval rfl rfl (O.load sc35 rfl (Cs.adds [0] ((hM.bx (i := 11) rfl)) rfl)) rfl ?_
   refine RL.gval rfl rfl (O.gtr rfl rfl) rfl ?_
   refine RL.val (O.pickf rfl rfl) rfl ?_
   refine vm rfl rfl ?_
   refine RL.bcase (t := 34) rfl (fun hc => ?_) (fun hc => ?_)
   ·rw [if_pos hc] at hF
    refine RL.gskip rfl rfl rfl rfl ?_
    refine RL.gskip rfl rfl rfl rfl ?_
    refine RL.gskip rfl rfl rfl rfl ?_
    refine RL.gskip rfl rfl rfl rfl ?_
    refine RL.gskip rfl rfl rfl rfl ?_
    refine RL.val (O.pickt rfl rfl) rfl ?_
    refine RL.nil ?_
    refine KQ.then_k ?_
    replace hM := hM.pick [0, 1, 2, 3, 4, 5, 6, 7, 9, 11, 10, 8] rfl (by decide)
    exact fun a ha => ⟨true, ha.less (less_cons rfl (less_cons rfl (less_cons rfl (less_cons rfl (less_cons rfl (less_cons rfl (less_cons rfl (less_cons rfl (less_cons rfl less_nil))))))))), hM, hF⟩
   rw [if_neg (ne_true hc)] at hF
   refine RL.gval rfl rfl (O.fldA fl37_1 (by decide) rfl) rfl ?_
   refine RL.gval rfl rfl (O.load sc35 rfl (Cs.adds [1] ((hM.bx (i := 10) rfl)) rfl)) rfl ?_
   refine RL.gval rfl rfl (O.fldA fl37_1 (by decide) rfl) rfl ?_
   refine RL.gval rfl rfl (O.load sc35 rfl (Cs.adds [1] ((hM.bx (i := 11) rfl)) rfl)) rfl ?_
   refine RL.gval rfl rfl (O.gtr rfl rfl) rfl ?_
   refine RL.val (O.pickf rfl rfl) rfl ?_
   refine RL.nil ?_
   refine KQ.then_k ?_
   replace hM := hM.pick [0, 1, 2, 3, 4, 5, 6, 7, 9, 11, 10, 8] rfl (by decide)
   exact fun a ha => ⟨(decide (((m460 xv472.f_Key).getD (T_flow_Total.mk 0 0)).f_Bytes < y694.f_Bytes)), ha.less (less_cons rfl (less_cons rfl (less_cons rfl (less_cons rfl (less_cons rfl (less_cons rfl (less_cons rfl (less_cons rfl (less_cons rfl less_nil))))))))), hM, hF⟩
  rintro a w718 ⟨t716, ha, hM, hF⟩
  refine KC.app ha ?_
  clear ha
  unfold F_model_Model_pack_j1 at hF
  refine KC.cond rfl (fun hc => ?_) (fun hc => ?_)
  ·rw [if_pos hc] at hF
   refine sr fun Q719 hQ719 => ?_
   refine va rfl rfl ?_
   refine va rfl rfl ?_
   refine nt hQ719 ?_
   clear hQ719 Q719
   refine KC.ret ?_
   refine KQ.thr hQ700 ?_
   clear hQ700 Q700
   refine KQ.blk_r ?_
   refine KQ.thr hQ468 ?_
   clear hQ468 Q468
   refine KQ.then_r ?_
   refine KQ.blk_r ?_
   refine KQ.thr hQ39 ?_
   clear hQ39 Q39
   refine KQ.rets Try.results38 (RVs.cons (RV.tm rfl) (RVs.cons (RV.tm rfl) RVs.nil)) ?_
   refine ⟨.tuple #[.map none, vB false], rfl, ?_⟩
   refine RD.p rfl rfl rfl rfl (fun w' => O.move rfl) ?_
   refine RD.p rfl rfl rfl rfl (fun w' => O.ext rfl rfl) ?_
   refine RD.p rfl rfl rfl rfl (fun w' => O.ext rfl rfl) ?_
   refine RD.p rfl rfl rfl rfl (fun w' => O.assign rfl) ?_
   refine RD.p rfl rfl rfl rfl (fun w' => O.assign rfl) ?_
   refine RD.nil ?_
   refine KQ.thn hQ30 ?_
   clear hQ30 Q30
   replace hM := hM.pick [0, 1, 2, 3, 4, 5, 6, 11] rfl (by decide)
   refine KC.seqH fun Q720 hQ720 => ?_
   refine KC.cut (fun a w729 => Kn 77 [(0, .pointer (some ⟨g2, 0, none⟩)), (3, .pointer (some ⟨g27, 0, none⟩)), (5, .map none), (41, vB true)] a ∧ Mem w ([some g2] ++ ([some g4] ++ ([some g6] ++ ([some g8] ++ ([rblk A10 c11] ++ (Z14.map some ++ ([rblk A16 c17] ++ ([])))))))) w729 [.res [g4] (MR62 g4 m1.f_forwarded), .res [g6] (MR62 g6 m1.f_cached), .res [g8] (MR62 g8 m1.f_lost), .row A10 c11 47 6 (m1.f_entries).length (css13).flatten, .res Z14 (Els RO_model_Entry 6 m1.f_entries css13 Z14), .row A16 c17 3 1 (m1.f_line).length ((m1.f_line).flatMap (eI .i64)), .box g2 tg19 [.map (some g4), .map (some g6), .map (some g8), .slice A10 (m1.f_entries).length c11, .slice A16 (m1.f_line).length c17, v64 m1.f_first, v32 m1.f_boot], .box g27 41 [vI nv20.f_Kind, vB nv20.f_Key.f_Src.f_Six, o8 nv20.f_Key.f_Src.f_B 0, o8 nv20.f_Key.f_Src.f_B 1, o8 nv20.f_Key.f_Src.f_B 2, o8 nv20.f_Key.f_Src.f_B 3, o8 nv20.f_Key.f_Src.f_B 4, o8 nv20.f_Key.f_Src.f_B 5, o8 nv20.f_Key.f_Src.f_B 6, o8 nv20.f_Key.f_Src.f_B 7, o8 nv20.f_Key.f_Src.f_B 8, o8 nv20.f_Key.f_Src.f_B 9, o8 nv20.f_Key.f_Src.f_B 10, o8 nv20.f_Key.f_Src.f_B 11, o8 nv20.f_Key.f_Src.f_B 12, o8 nv20.f_Key.f_Src.f_B 13, o8 nv20.f_Key.f_Src.f_B 14, o8 nv20.f_Key.f_Src.f_B 15, vB nv20.f_Key.f_Dst.f_Six, o8 nv20.f_Key.f_Dst.f_B 0, o8 nv20.f_Key.f_Dst.f_B 1, o8 nv20.f_Key.f_Dst.f_B 2, o8 nv20.f_Key.f_Dst.f_B 3, o8 nv20.f_Key.f_Dst.f_B 4, o8 nv20.f_Key.f_Dst.f_B 5, o8 nv20.f_Key.f_Dst.f_B 6, o8 nv20.f_Key.f_Dst.f_B 7, o8 nv20.f_Key.f_Dst.f_B 8, o8 nv20.f_Key.f_Dst.f_B 9, o8 nv20.f_Key.f_Dst.f_B 10, o8 nv20.f_Key.f_Dst.f_B 11, o8 nv20.f_Key.f_Dst.f_B 12, o8 nv20.f_Key.f_Dst.f_B 13, o8 nv20.f_Key.f_Dst.f_B 14, o8 nv20.f_Key.f_Dst.f_B 15, v8 nv20.f_Key.f_Proto, v16 nv20.f_Key.f_SrcPort, v16 nv20.f_Key.f_DstPort, v64 nv20.f_Total.f_Packets, v64 nv20.f_Total.f_Bytes, .slice A21 (nv20.f_Records).length c22, v32 nv20.f_Epoch, v64 nv20.f_N, v64 nv20.f_First, v64 nv20.f_Next]] ∧ F_model_Model_pack_j2 m1 = some r) ?_ ?_
   ·replace hM := hM.drewN 1
    refine KC.draw [] [] [22] [0, 1, 2, 3, 4, 5, 7, 8, 9, 10, 12, 13, 14, 16, 17, 18, 19, 21, 23, 24] (.ofList [0, 1, 2, 3, 4, 5, 6, 7, 8, 9, 10, 11, 12, 13, 14, 15, 16, 17, 18, 19, 20, 21, 22, 23, 24]) moP (by kernel_rfl) ?_
    refine RD.p rfl rfl rfl rfl (fun w' => O.move rfl) ?_
    refine RD.p rfl rfl rfl rfl (fun w' => O.not rfl) ?_
    refine RD.brun1 [2, 3, 4, 5, 6, 7, 8, 9, 10, 11, 12, 13, 14, 15, 16, 17, 18, 19, 20, 21, 22, 23, 24] 41 true (by kernel_rfl) ?_
    refine RD.nil ?_
    refine KQ.then_k ?_
    exact fun a ha => ⟨ha.less (less_cons rfl (less_cons rfl (less_cons rfl (less_cons rfl less_nil)))), hM, hF⟩
   rintro a w729 ⟨ha, hM, hF⟩
   refine KC.app ha ?_
   clear ha
   unfold F_model_Model_pack_j2 at hF
   refine KC.condT rfl ?_
   refine sr fun Q730 hQ730 => ?_
   refine va rfl rfl ?_
   refine nt hQ730 ?_
   clear hQ730 Q730
   refine KC.ret ?_
   refine KQ.thr hQ720 ?_
   clear hQ720 Q720
   have hE := Option.some.inj hF
   clear hF
   subst hE
   replace hM := hM.pick [6, 0, 1, 2, 3, 4, 5] rfl (by decide)
   refine KQ.rets Try.results21 (RVs.cons (RV.tm rfl) RVs.nil) ?_
   exact ⟨_, rfl, g4, g6, g8, A10, c11, css13, Z14, A16, c17, rfl, hM⟩
  rw [if_neg (ne_true hc)] at hF
  refine KC.skip ?_
  refine KQ.thn hQ700 ?_
  clear hQ700 Q700
  refine KC.region ?_
  refine vm rfl rfl ?_
  refine RL.val (O.fldA fl50_0 (by decide) rfl) rfl ?_
  refine RL.val (O.loadN (cs := [vB xv472.f_Key.f_Src.f_Six, o8 xv472.f_Key.f_Src.f_B 0, o8 xv472.f_Key.f_Src.f_B 1, o8 xv472.f_Key.f_Src.f_B 2, o8 xv472.f_Key.f_Src.f_B 3, o8 xv472.f_Key.f_Src.f_B 4, o8 xv472.f_Key.f_Src.f_B 5, o8 xv472.f_Key.f_Src.f_B 6, o8 xv472.f_Key.f_Src.f_B 7, o8 xv472.f_Key.f_Src.f_B 8, o8 xv472.f_Key.f_Src.f_B 9, o8 xv472.f_Key.f_Src.f_B 10, o8 xv472.f_Key.f_Src.f_B 11, o8 xv472.f_Key.f_Src.f_B 12, o8 xv472.f_Key.f_Src.f_B 13, o8 xv472.f_Key.f_Src.f_B 14, o8 xv472.f_Key.f_Src.f_B 15, vB xv472.f_Key.f_Dst.f_Six, o8 xv472.f_Key.f_Dst.f_B 0, o8 xv472.f_Key.f_Dst.f_B 1, o8 xv472.f_Key.f_Dst.f_B 2, o8 xv472.f_Key.f_Dst.f_B 3, o8 xv472.f_Key.f_Dst.f_B 4, o8 xv472.f_Key.f_Dst.f_B 5, o8 xv472.f_Key.f_Dst.f_B 6, o8 xv472.f_Key.f_Dst.f_B 7, o8 xv472.f_Key.f_Dst.f_B 8, o8 xv472.f_Key.f_Dst.f_B 9, o8 xv472.f_Key.f_Dst.f_B 10, o8 xv472.f_Key.f_Dst.f_B 11, o8 xv472.f_Key.f_Dst.f_B 12, o8 xv472.f_Key.f_Dst.f_B 13, o8 xv472.f_Key.f_Dst.f_B 14, o8 xv472.f_Key.f_Dst.f_B 15, v8 xv472.f_Key.f_Proto, v16 xv472.f_Key.f_SrcPort, v16 xv472.f_Key.f_DstPort]) ag34 rfl (Cs.addsN [0] ((hM.bx (i := 8) rfl)) rfl)) rfl ?_
  refine RL.val (O.fldA fl37_0 (by decide) rfl) rfl ?_
  refine RL.val (O.load sc35 rfl (Cs.adds [0] ((hM.bx (i := 9) rfl)) rfl)) rfl ?_
  refine RL.val (O.fldA fl37_0 (by decide) rfl) rfl ?_
  refine RL.val (O.load sc35 rfl (Cs.adds [0] ((hM.bx (i := 10) rfl)) rfl)) rfl ?_
  refine RL.val (O.sub rfl rfl) rfl ?_
  refine RL.val (O.fldA fl37_1 (by decide) rfl) rfl ?_
  refine RL.val (O.load sc35 rfl (Cs.adds [1] ((hM.bx (i := 9) rfl)) rfl)) rfl ?_
  refine RL.val (O.fldA fl37_1 (by decide) rfl) rfl ?_
  refine RL.val (O.load sc35 rfl (Cs.adds [1] ((hM.bx (i := 10) rfl)) rfl)) rfl ?_
  refine RL.val (O.sub rfl rfl) rfl ?_
  refine RL.val (O.bld (cs := [v64 (IntKind.u64.wrap (((m460 xv472.f_Key).getD (T_flow_Total.mk 0 0)).f_Packets - y694.f_Packets)), v64 (IntKind.u64.wrap (((m460 xv472.f_Key).getD (T_flow_Total.mk 0 0)).f_Bytes - y694.f_Bytes))]) bt37 rfl (by kernel_rfl)) rfl ?_
  refine RL.effs (E.mup (k := xv472.f_Key) (u := (T_flow_Total.mk (IntKind.u64.wrap (((m460 xv472.f_Key).getD (T_flow_Total.mk 0 0)).f_Packets - y694.f_Packets)) (IntKind.u64.wrap (((m460 xv472.f_Key).getD (T_flow_Total.mk 0 0)).f_Bytes - y694.f_Bytes)))) (ks := [vB xv472.f_Key.f_Src.f_Six, o8 xv472.f_Key.f_Src.f_B 0, o8 xv472.f_Key.f_Src.f_B 1, o8 xv472.f_Key.f_Src.f_B 2, o8 xv472.f_Key.f_Src.f_B 3, o8 xv472.f_Key.f_Src.f_B 4, o8 xv472.f_Key.f_Src.f_B 5, o8 xv472.f_Key.f_Src.f_B 6, o8 xv472.f_Key.f_Src.f_B 7, o8 xv472.f_Key.f_Src.f_B 8, o8 xv472.f_Key.f_Src.f_B 9, o8 xv472.f_Key.f_Src.f_B 10, o8 xv472.f_Key.f_Src.f_B 11, o8 xv472.f_Key.f_Src.f_B 12, o8 xv472.f_Key.f_Src.f_B 13, o8 xv472.f_Key.f_Src.f_B 14, o8 xv472.f_Key.f_Src.f_B 15, vB xv472.f_Key.f_Dst.f_Six, o8 xv472.f_Key.f_Dst.f_B 0, o8 xv472.f_Key.f_Dst.f_B 1, o8 xv472.f_Key.f_Dst.f_B 2, o8 xv472.f_Key.f_Dst.f_B 3, o8 xv472.f_Key.f_Dst.f_B 4, o8 xv472.f_Key.f_Dst.f_B 5, o8 xv472.f_Key.f_Dst.f_B 6, o8 xv472.f_Key.f_Dst.f_B 7, o8 xv472.f_Key.f_Dst.f_B 8, o8 xv472.f_Key.f_Dst.f_B 9, o8 xv472.f_Key.f_Dst.f_B 10, o8 xv472.f_Key.f_Dst.f_B 11, o8 xv472.f_Key.f_Dst.f_B 12, o8 xv472.f_Key.f_Dst.f_B 13, o8 xv472.f_Key.f_Dst.f_B 14, o8 xv472.f_Key.f_Dst.f_B 15, v8 xv472.f_Key.f_Proto, v16 xv472.f_Key.f_SrcPort, v16 xv472.f_Key.f_DstPort]) (us := [v64 (IntKind.u64.wrap (((m460 xv472.f_Key).getD (T_flow_Total.mk 0 0)).f_Packets - y694.f_Packets)), v64 (IntKind.u64.wrap (((m460 xv472.f_Key).getD (T_flow_Total.mk 0 0)).f_Bytes - y694.f_Bytes))]) mt62 hM (j := 7) rfl rfl rfl rfl rfl rfl) fun w731 hM1 => ?_
  clear hM
  have hM := hM1
  clear hM1
  refine RL.nil ?_
  refine KQ.blk_n ?_
  refine KQ.thn hQ468 ?_
  clear hQ468 Q468
  replace hM := hM.pick [0, 1, 2, 3, 4, 5, 6, 7, 11] rfl (by decide)
  refine KC.region ?_
  refine RL.val (O.add rfl rfl) rfl ?_
  refine vm rfl rfl ?_
  refine RL.nil ?_
  refine KQ.then_k ?_
  exact fun a ha => ⟨k465, Nat.lt_succ_self k465, (mput q_packet_Key m460 xv472.f_Key (T_flow_Total.mk (IntKind.u64.wrap (((m460 xv472.f_Key).getD (T_flow_Total.mk 0 0)).f_Packets - y694.f_Packets)) (IntKind.u64.wrap (((m460 xv472.f_Key).getD (T_flow_Total.mk 0 0)).f_Bytes - y694.f_Bytes)))), (IntKind.i64.wrap (t461 + 1)), ha.less (less_cons rfl (less_cons rfl (less_cons rfl (less_cons rfl (less_cons rfl less_nil))))), hM, hF⟩
 rw [if_neg (ne_true hc)] at hF
 refine KC.exit ?_
 refine KQ.thx hQ467 ?_
 clear hQ467 Q467
 refine KQ.then_x ?_
 refine KQ.blk_x ?_
 refine KQ.thn hQ39 ?_
 clear hQ39 Q39
 refine sr fun Q732 hQ732 => ?_
 refine vm rfl rfl ?_
 refine vm rfl rfl ?_
 refine RL.val (O.len sl38 rfl) rfl ?_
 refine RL.val (O.gtr rfl rfl) rfl ?_
 refine va rfl rfl ?_
 refine va rfl rfl ?_
 refine nt hQ732 ?_
 clear hQ732 Q732
 refine KC.ret ?_
 refine KQ.rets Try.results38 (RVs.cons (RV.tm rfl) (RVs.cons (RV.tm rfl) RVs.nil)) ?_
 refine ⟨.tuple #[.map (some g37), vB (decide (0 < (nv20.f_Records.length : Int)))], rfl, ?_⟩
 refine RD.p rfl rfl rfl rfl (fun w' => O.move rfl) ?_
 refine RD.p rfl rfl rfl rfl (fun w' => O.ext rfl rfl) ?_
 refine RD.p rfl rfl rfl rfl (fun w' => O.ext rfl rfl) ?_
 refine RD.p rfl rfl rfl rfl (fun w' => O.assign rfl) ?_
 refine RD.p rfl rfl rfl rfl (fun w' => O.assign rfl) ?_
 refine RD.nil ?_
 refine KQ.thn hQ30 ?_
 clear hQ30 Q30
 refine KC.seqH fun Q733 hQ733 => ?_
 refine KC.cut (fun a w748 => ∃ (t747 : Bool), Kn 77 [(0, .pointer (some ⟨g2, 0, none⟩)), (3, .pointer (some ⟨g27, 0, none⟩)), (5, .map (some g37)), (41, vB t747)] a ∧ Mem w ([some g2] ++ ([some g4] ++ ([some g6] ++ ([some g8] ++ ([rblk A10 c11] ++ (Z14.map some ++ ([rblk A16 c17] ++ ([])))))))) w748 [.res [g4] (MR62 g4 m1.f_forwarded), .res [g6] (MR62 g6 m1.f_cached), .res [g8] (MR62 g8 m1.f_lost), .row A10 c11 47 6 (m1.f_entries).length (css13).flatten, .res Z14 (Els RO_model_Entry 6 m1.f_entries css13 Z14), .row A16 c17 3 1 (m1.f_line).length ((m1.f_line).flatMap (eI .i64)), .box g2 tg19 [.map (some g4), .map (some g6), .map (some g8), .slice A10 (m1.f_entries).length c11, .slice A16 (m1.f_line).length c17, v64 m1.f_first, v32 m1.f_boot], .box g27 41 [vI nv20.f_Kind, vB nv20.f_Key.f_Src.f_Six, o8 nv20.f_Key.f_Src.f_B 0, o8 nv20.f_Key.f_Src.f_B 1, o8 nv20.f_Key.f_Src.f_B 2, o8 nv20.f_Key.f_Src.f_B 3, o8 nv20.f_Key.f_Src.f_B 4, o8 nv20.f_Key.f_Src.f_B 5, o8 nv20.f_Key.f_Src.f_B 6, o8 nv20.f_Key.f_Src.f_B 7, o8 nv20.f_Key.f_Src.f_B 8, o8 nv20.f_Key.f_Src.f_B 9, o8 nv20.f_Key.f_Src.f_B 10, o8 nv20.f_Key.f_Src.f_B 11, o8 nv20.f_Key.f_Src.f_B 12, o8 nv20.f_Key.f_Src.f_B 13, o8 nv20.f_Key.f_Src.f_B 14, o8 nv20.f_Key.f_Src.f_B 15, vB nv20.f_Key.f_Dst.f_Six, o8 nv20.f_Key.f_Dst.f_B 0, o8 nv20.f_Key.f_Dst.f_B 1, o8 nv20.f_Key.f_Dst.f_B 2, o8 nv20.f_Key.f_Dst.f_B 3, o8 nv20.f_Key.f_Dst.f_B 4, o8 nv20.f_Key.f_Dst.f_B 5, o8 nv20.f_Key.f_Dst.f_B 6, o8 nv20.f_Key.f_Dst.f_B 7, o8 nv20.f_Key.f_Dst.f_B 8, o8 nv20.f_Key.f_Dst.f_B 9, o8 nv20.f_Key.f_Dst.f_B 10, o8 nv20.f_Key.f_Dst.f_B 11, o8 nv20.f_Key.f_Dst.f_B 12, o8 nv20.f_Key.f_Dst.f_B 13, o8 nv20.f_Key.f_Dst.f_B 14, o8 nv20.f_Key.f_Dst.f_B 15, v8 nv20.f_Key.f_Proto, v16 nv20.f_Key.f_SrcPort, v16 nv20.f_Key.f_DstPort, v64 nv20.f_Total.f_Packets, v64 nv20.f_Total.f_Bytes, .slice A21 (nv20.f_Records).length c22, v32 nv20.f_Epoch, v64 nv20.f_N, v64 nv20.f_First, v64 nv20.f_Next], .res [g37] (MR62 g37 m460)] ∧ F_model_Model_pack_j3 m1 nv20 m460 t747 = some r) ?_ ?_
 ·replace hM := hM.drewN 1
  refine KC.draw [] [] [22] [0, 1, 2, 3, 4, 5, 7, 8, 9, 10, 12, 13, 14, 16, 17, 18, 19, 21, 23, 24] (.ofList [0, 1, 2, 3, 4, 5, 6, 7, 8, 9, 10, 11, 12, 13, 14, 15, 16, 17, 18, 19, 20, 21, 22, 23, 24]) moP (by kernel_rfl) ?_
  refine RD.p rfl rfl rfl rfl (fun w' => O.move rfl) ?_
  refine RD.p rfl rfl rfl rfl (fun w' => O.not rfl) ?_
  refine RD.p rfl rfl rfl rfl (fun w' => O.move rfl) ?_
  refine RD.bcase (t := 19) rfl (fun hc => ?_) (fun hc => ?_)
  ·rw [if_pos hc] at hF
   refine RD.brun1 [3, 4, 5, 6, 7, 8, 9, 10, 11, 12, 13, 14, 15, 16, 17, 18, 19, 20, 21, 22, 23, 24] 41 true (by kernel_rfl) ?_
   refine RD.nil ?_
   refine KQ.then_k ?_
   replace hM := hM.pick [0, 1, 2, 3, 4, 5, 6, 8, 7] rfl (by decide)
   exact fun a ha => ⟨true, ha.less (less_cons rfl (less_cons rfl (less_cons rfl (less_cons rfl less_nil)))), hM, hF⟩
  rw [if_neg (ne_true hc)] at hF
  refine RD.gp rfl rfl rfl rfl rfl rfl (fun w' => O.move rfl) ?_
  refine RD.gp rfl rfl rfl rfl rfl rfl (fun w' => O.nilp rfl) ?_
  refine RD.gp rfl rfl rfl rfl rfl rfl (fun w' => O.fldA fl65_6 (by decide) rfl) ?_
  refine RD.gq rfl rfl rfl rfl rfl rfl (fun w' hf => O.load sc39 rfl (Cs.adds [6] ((hM.bx (i := 6) rfl).fut hf) rfl)) ?_
  refine RD.gp rfl rfl rfl rfl rfl rfl (fun w' => O.eql rfl rfl) ?_
  refine RD.p rfl rfl rfl rfl (fun w' => O.pickf rfl rfl) ?_
  refine RD.p rfl rfl rfl rfl (fun w' => O.move rfl) ?_
  refine RD.bcase (t := 26) rfl (fun hc => ?_) (fun hc => ?_)
  ·rw [if_pos hc] at hF
   refine RD.brun1 [10, 11, 12, 13, 14, 15, 16, 17, 18, 19, 20, 21, 22, 23, 24] 41 true (by kernel_rfl) ?_
   refine RD.nil ?_
   refine KQ.then_k ?_
   replace hM := hM.pick [0, 1, 2, 3, 4, 5, 6, 8, 7] rfl (by decide)
   exact fun a ha => ⟨true, ha.less (less_cons rfl (less_cons rfl (less_cons rfl (less_cons rfl less_nil)))), hM, hF⟩
  rw [if_neg (ne_true hc)] at hF
  refine RD.gp rfl rfl rfl rfl rfl rfl (fun w' => O.fldA fl41_4 (by decide) rfl) ?_
  refine RD.gq rfl rfl rfl rfl rfl rfl (fun w' hf => O.load sc39 rfl (Cs.adds [41] ((hM.bx (i := 8) rfl).fut hf) rfl)) ?_
  refine RD.gp rfl rfl rfl rfl rfl rfl (fun w' => O.move rfl) ?_
  refine RD.gp rfl rfl rfl rfl rfl rfl (fun w' => O.nilp rfl) ?_
  refine RD.gp rfl rfl rfl rfl rfl rfl (fun w' => O.fldA fl65_6 (by decide) rfl) ?_
  refine RD.gq rfl rfl rfl rfl rfl rfl (fun w' hf => O.load sc39 rfl (Cs.adds [6] ((hM.bx (i := 6) rfl).fut hf) rfl)) ?_
  refine RD.gp rfl rfl rfl rfl rfl rfl (fun w' => O.neq rfl rfl) ?_
  refine RD.p rfl rfl rfl rfl (fun w' => O.pickf rfl rfl) ?_
  refine RD.p rfl rfl rfl rfl (fun w' => O.move rfl) ?_
  refine RD.bcase (t := 35) rfl (fun hc => ?_) (fun hc => ?_)
  ·rw [if_pos hc] at hF
   refine RD.brun1 [19, 20, 21, 22, 23, 24] 41 true (by kernel_rfl) ?_
   refine RD.nil ?_
   refine KQ.then_k ?_
   replace hM := hM.pick [0, 1, 2, 3, 4, 5, 6, 8, 7] rfl (by decide)
   exact fun a ha => ⟨true, ha.less (less_cons rfl (less_cons rfl (less_cons rfl (less_cons rfl less_nil)))), hM, hF⟩
  rw [if_neg (ne_true hc)] at hF
  refine RD.gp rfl rfl rfl rfl rfl rfl (fun w' => O.fldA fl41_5 (by decide) rfl) ?_
  refine RD.gq rfl rfl rfl rfl rfl rfl (fun w' hf => O.load sc35 rfl (Cs.adds [42] ((hM.bx (i := 8) rfl).fut hf) rfl)) ?_
  refine RD.gp rfl rfl rfl rfl rfl rfl (fun w' => O.move rfl) ?_
  refine obindE hF fun y734 hx735 hF => ?_
  refine RD.mcall rfl rfl ⟨rfl, rfl⟩ Try.func33 bd33 rfl rfl (c_model_Model_next _ m1 _ (hM.mapR (i := 0) rfl) _ (hM.mapR (i := 1) rfl) _ (hM.mapR (i := 2) rfl) _ _ (hM.rdD (i := 3) (j := 4) uo_model_Entry rfl rfl) _ _ (hM.rd (i := 5) rfl) _ (hM.bx (i := 6) rfl) _ hx735) fun v w736 hv => ?_
  obtain ⟨rfl, hN737⟩ := hv
  refine ⟨fun _ => hN737.fut, ?_⟩
  replace hM := hM.call0 hN737
  refine RD.gp rfl rfl rfl rfl rfl rfl (fun w' => O.neq rfl rfl) ?_
  refine RD.p rfl rfl rfl rfl (fun w' => O.pickf rfl rfl) ?_
  refine RD.nil ?_
  refine KQ.then_k ?_
  replace hM := hM.pick [0, 1, 2, 3, 4, 5, 6, 8, 7] rfl (by decide)
  exact fun a ha => ⟨(nv20.f_N != y734), ha.less (less_cons rfl (less_cons rfl (less_cons rfl (less_cons rfl less_nil)))), hM, hF⟩
 rintro a w748 ⟨t747, ha, hM, hF⟩
 refine KC.app ha ?_
 clear ha
 unfold F_model_Model_pack_j3 at hF
 refine KC.cond rfl (fun hc => ?_) (fun hc => ?_)
 ·rw [if_pos hc] at hF
  refine sr fun Q749 hQ749 => ?_
  refine va rfl rfl ?_
  refine nt hQ749 ?_
  clear hQ749 Q749
  refine KC.ret ?_
  refine KQ.thr hQ733 ?_
  clear hQ733 Q733
  have hE := Option.some.inj hF
  clear hF
  subst hE
  replace hM := hM.pick [6, 0, 1, 2, 3, 4, 5] rfl (by decide)
  refine KQ.rets Try.results21 (RVs.cons (RV.tm rfl) RVs.nil) ?_
  exact ⟨_, rfl, g4, g6, g8, A10, c11, css13, Z14, A16, c17, rfl, hM⟩
 rw [if_neg (ne_true hc)] at hF
 refine KC.skip ?_
 refine KQ.thn hQ733 ?_
 clear hQ733 Q733
 refine sr fun Q750 hQ750 => ?_
 refine vm rfl rfl ?_
 refine vm rfl rfl ?_
 refine RL.val (O.nilp rfl) rfl ?_
 refine RL.val (O.fldA fl65_1 (by decide) rfl) rfl ?_
 refine RL.effs (E.stB (j := 6) (off := 1) (vs := [.map (some g37)]) (cs' := [.map (some g4), .map (some g37), .map (some g8), .slice A10 (m1.f_entries).length c11, .slice A16 (m1.f_line).length c17, v64 m1.f_first, v32 m1.f_boot]) hM rfl sz62 rfl (adds_eq [1] rfl) rfl rfl (One.all rfl) rfl rfl) fun w751 hM1 => ?_
 clear hM
 have hM := hM1
 clear hM1
 refine nt hQ750 ?_
 clear hQ750 Q750
 replace hM := hM.pick [0, 2, 3, 4, 5, 6, 7, 8] rfl (by decide)
 refine KC.seqH fun Q752 hQ752 => ?_
 replace hM := hM.drewN 1
 refine KC.draw [] [11, 14] [10, 11, 14] [0, 1, 2, 3, 5, 6, 7, 9, 12, 13] (.ofList [0, 1, 2, 3, 4, 5, 6, 7, 8, 9, 10, 11, 12, 13, 14]) moP (by kernel_rfl) ?_
 refine RD.p rfl rfl rfl rfl (fun w' => O.move rfl) ?_
 refine RD.p rfl rfl rfl rfl (fun w' => O.move rfl) ?_
 refine RD.p rfl rfl rfl rfl (fun w' => O.nilp rfl) ?_
 refine RD.p rfl rfl rfl rfl (fun w' => O.fldA fl65_4 (by decide) rfl) ?_
 refine RD.q rfl rfl rfl rfl (fun w' hf => O.load sc63 rfl (Cs.adds [4] ((hM.bx (i := 5) rfl).fut hf) rfl)) ?_
 refine RD.p rfl rfl rfl rfl (fun w' => O.move rfl) ?_
 refine RD.p rfl rfl rfl rfl (fun w' => O.nilp rfl) ?_
 refine RD.p rfl rfl rfl rfl (fun w' => O.fldA fl65_3 (by decide) rfl) ?_
 refine RD.q rfl rfl rfl rfl (fun w' hf => O.load sc42 rfl (Cs.adds [3] ((hM.bx (i := 5) rfl).fut hf) rfl)) ?_
 refine RD.p rfl rfl rfl rfl (fun w' => O.len sl42 rfl) ?_
 refine RD.meff rfl rfl (E.bsl (enc := (eI .i64)) (xs := ([(m1.f_entries.length : Int)] : List Int)) hM sl63 ze3 rfl rfl rfl (fun _ => rfl) rfl (by kernel_rfl) rfl) rfl fun v w753 hv => ?_
 clear hM
 obtain ⟨A754, rfl, hM, hf⟩ := hv
 refine ⟨fun _ => hf, ?_⟩
 refine cut_someE hF fun hq759 hF => ?_
 refine RD.meff rfl rfl (E.app (enc := (eI .i64)) (xs := m1.f_line) (ys := ([(m1.f_entries.length : Int)] : List Int)) (j := 4) hM rfl sl63 ze3 rfl rfl rfl rfl rfl (hM.rd (i := 8) rfl) (fun _ => One.all rfl) (of_decide_eq_true hq759)) rfl fun v w758 hv => ?_
 clear hM
 obtain ⟨A756, c757, rfl, hM, hf⟩ := hv
 refine ⟨fun h => (by cases h), ?_⟩
 refine RD.p rfl rfl rfl rfl (fun w' => O.nilp rfl) ?_
 refine RD.p rfl rfl rfl rfl (fun w' => O.fldA fl65_4 (by decide) rfl) ?_
 refine RD.meffs rfl rfl rfl (E.stB (j := 5) (off := 4) (vs := [.slice A756 ((m1.f_line ++ ([(m1.f_entries.length : Int)] : List Int))).length c757]) (cs' := [.map (some g4), .map (some g37), .map (some g8), .slice A10 (m1.f_entries).length c11, .slice A756 ((m1.f_line ++ ([(m1.f_entries.length : Int)] : List Int))).length c757, v64 m1.f_first, v32 m1.f_boot]) hM rfl sz63 rfl (adds_eq [4] rfl) rfl rfl (One.all rfl) rfl rfl) fun w761 hM1 => ?_
 clear hM
 have hM := hM1
 clear hM1
 refine RD.nil ?_
 refine KQ.thn hQ752 ?_
 clear hQ752 Q752
 replace hM := hM.pick [0, 1, 2, 3, 4, 5, 6, 7] rfl (by decide)
 refine KC.seqH fun Q762 hQ762 => ?_
 replace hM := hM.drewN 1
 refine KC.draw [] [14, 17] [12, 13, 14, 17] [0, 1, 2, 3, 5, 7, 9, 15, 16] (.ofList [0, 1, 2, 3, 4, 5, 6, 7, 8, 9, 10, 11, 12, 13, 14, 15, 16, 17]) moP (by kernel_rfl) ?_
 refine RD.p rfl rfl rfl rfl (fun w' => O.move rfl) ?_
 refine RD.p rfl rfl rfl rfl (fun w' => O.move rfl) ?_
 refine RD.p rfl rfl rfl rfl (fun w' => O.nilp rfl) ?_
 refine RD.p rfl rfl rfl rfl (fun w' => O.fldA fl65_3 (by decide) rfl) ?_
 refine RD.q rfl rfl rfl rfl (fun w' hf => O.load sc42 rfl (Cs.adds [3] ((hM.bx (i := 5) rfl).fut hf) rfl)) ?_
 refine RD.p rfl rfl rfl rfl (fun w' => O.fldA fl41_4 (by decide) rfl) ?_
 refine RD.q rfl rfl rfl rfl (fun w' hf => O.load sc39 rfl (Cs.adds [41] ((hM.bx (i := 6) rfl).fut hf) rfl)) ?_
 refine RD.p rfl rfl rfl rfl (fun w' => O.fldA fl41_5 (by decide) rfl) ?_
 refine RD.q rfl rfl rfl rfl (fun w' hf => O.load sc35 rfl (Cs.adds [42] ((hM.bx (i := 6) rfl).fut hf) rfl)) ?_
 refine RD.p rfl rfl rfl rfl (fun w' => O.fldA fl41_3 (by decide) rfl) ?_
 refine RD.q rfl rfl rfl rfl (fun w' hf => O.load sc38 rfl (Cs.adds [40] ((hM.bx (i := 6) rfl).fut hf) rfl)) ?_
 refine RD.q rfl rfl rfl rfl (fun w' hf => O.bld (cs := [v32 nv20.f_Epoch, v64 nv20.f_N, .slice A21 (nv20.f_Records).length c22, vB true, vB false, vB false]) bt47 rfl (by kernel_rfl)) ?_
 refine obindE hF fun y763 hx764 hF => ?_
 refine RD.mcall rfl rfl trivial Try.func27 bd27 rfl rfl (c_model_Entry_copied _ (T_model_Entry.mk nv20.f_Epoch nv20.f_N nv20.f_Records true false false) _ _ (hM.inp hr23 ho24) _ hx764) fun v w765 hv => ?_
 obtain ⟨A767, c768, rfl, hN766⟩ := hv
 refine ⟨fun _ => hN766.fut, ?_⟩
 replace hM := hM.call hN766
 refine RD.meff rfl rfl (E.bslD (css := ([[v32 y763.f_Epoch, v64 y763.f_N, .slice A767 (y763.f_Records).length c768, vB y763.f_There, vB y763.f_Synced, vB y763.f_Credited]] : List (List Value))) hM sl42 ze47 rfl rfl rfl rfl rfl (by kernel_rfl) rfl) rfl fun v w770 hv => ?_
 clear hM
 obtain ⟨A771, rfl, hM, hf⟩ := hv
 refine ⟨fun _ => hf, ?_⟩
 have hp775 := (hM.pick [8] rfl (by decide)).sep
 obtain ⟨Z772, hM⟩ := hM.glue [8] [0, 1, 2, 3, 4, 5, 6, 7, 9] rfl rfl (by decide) rfl (Els RO_model_Entry 6 [y763] ([[v32 y763.f_Epoch, v64 y763.f_N, .slice A767 (y763.f_Records).length c768, vB y763.f_There, vB y763.f_Synced, vB y763.f_Credited]] : List (List Value))) (fun Z w1 ho hz => Els.lit (El3.cons rfl ⟨A767, c768, rfl, rfl⟩ El3.nil) rfl ho hz hp775)
 refine cut_someE hF fun hq779 hF => ?_
 refine RD.meff rfl rfl (E.appD (xs := m1.f_entries) (ys := [y763]) (css := css13) (cs2 := ([[v32 y763.f_Epoch, v64 y763.f_N, .slice A767 (y763.f_Records).length c768, vB y763.f_There, vB y763.f_Synced, vB y763.f_Credited]] : List (List Value))) (j := 2) hM rfl sl42 ze47 rfl rfl rfl rfl rfl (hM.rd (i := 8) rfl) (One.all rfl) (of_decide_eq_true hq779)) rfl fun v w778 hv => ?_
 clear hM
 obtain ⟨A776, c777, rfl, hM, hf⟩ := hv
 refine ⟨fun h => (by cases h), ?_⟩
 have hp781 := hM.sep
 obtain ⟨Z780, hM⟩ := hM.glue [3, 9] [0, 1, 2, 4, 5, 6, 7] rfl rfl (by decide) rfl (Els RO_model_Entry 6 (m1.f_entries ++ [y763]) (css13 ++ ([[v32 y763.f_Epoch, v64 y763.f_N, .slice A767 (y763.f_Records).length c768, vB y763.f_There, vB y763.f_Synced, vB y763.f_Credited]] : List (List Value)))) (fun Z w1 ho hz => Els.app (Ob.res_φ (ho 0 _ rfl)) (Ob.res_φ (ho 1 _ rfl)) (fun g hg => hz 0 _ g rfl (Ob.has_res.2 hg)) (fun g hg => hz 1 _ g rfl (Ob.has_res.2 hg)) (fun g h1 h2 => absurd (hp781 3 9 _ _ g rfl rfl (Ob.has_res.2 h1) (Ob.has_res.2 h2)) (by decide)))
 refine RD.p rfl rfl rfl rfl (fun w' => O.nilp rfl) ?_
 refine RD.p rfl rfl rfl rfl (fun w' => O.fldA fl65_3 (by decide) rfl) ?_
 refine RD.meffs rfl rfl rfl (E.stB (j := 4) (off := 3) (vs := [.slice A776 ((m1.f_entries ++ [y763])).length c777]) (cs' := [.map (some g4), .map (some g37), .map (some g8), .slice A776 ((m1.f_entries ++ [y763])).length c777, .slice A756 ((m1.f_line ++ ([(m1.f_entries.length : Int)] : List Int))).length c757, v64 m1.f_first, v32 m1.f_boot]) hM rfl sz42 rfl (adds_eq [3] rfl) rfl rfl (One.all rfl) rfl rfl) fun w784 hM1 => ?_
 clear hM
 have hM := hM1
 clear hM1
 refine RD.nil ?_
 refine KQ.thn hQ762 ?_
 clear hQ762 Q762
 replace hM := hM.pick [0, 1, 2, 3, 4, 6, 7] rfl (by decide)
 refine sr fun Q785 hQ785 => ?_
 refine va rfl rfl ?_
 refine nt hQ785 ?_
 clear hQ785 Q785
 refine KC.ret ?_
 have hE := Option.some.inj hF
 clear hF
 subst hE
 replace hM := hM.pick [4, 0, 5, 1, 2, 6, 3] rfl (by decide)
 refine KQ.rets Try.results21 (RVs.cons (RV.tm rfl) RVs.nil) ?_
 exact ⟨_, rfl, g4, g37, g8, A776, c777, (css13 ++ ([[v32 y763.f_Epoch, v64 y763.f_N, .slice A767 (y763.f_Records).length c768, vB y763.f_There, vB y763.f_Synced, vB y763.f_Credited]] : List (List Value))), Z780, A756, c757, rfl, hM⟩
end Go.Proofs.Ytidbgejnkpoeeaa
