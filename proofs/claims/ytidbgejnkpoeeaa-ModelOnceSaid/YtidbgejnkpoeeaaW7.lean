/- Printed by a program of this claim: each call returns what the plain function of its name gives. -/
import Derived.Test.YtidbgejnkpoeeaaW1
import Derived.Test.YtidbgejnkpoeeaaW4
import Derived.Test.YtidbgejnkpoeeaaW5
set_option linter.unusedVariables false
namespace Go.Proofs.Ytidbgejnkpoeeaa
open Go Go.Ox Go.RowKit
set_option maxRecDepth 100000 in
set_option maxHeartbeats 40000000 in
theorem c_model_Model_refuse (w : World) (g2 : Nat) (tg19 : TypeId) (m1 : T_model_Model) (g4 : Nat) (g6 : Nat) (g8 : Nat) (A10 : Option Addr) (c11 : Nat) (css13 : List (List Value)) (Z14 : List Nat) (A16 : Option Addr) (c17 : Nat) (hL25 : Lent w [.box g2 tg19 [.map (some g4), .map (some g6), .map (some g8), .slice A10 (m1.f_entries).length c11, .slice A16 (m1.f_line).length c17, v64 m1.f_first, v32 m1.f_boot], .res [g4] (MR62 g4 m1.f_forwarded), .res [g6] (MR62 g6 m1.f_cached), .res [g8] (MR62 g8 m1.f_lost), .row A10 c11 47 6 (m1.f_entries).length (css13).flatten, .res Z14 (Els RO_model_Entry 6 m1.f_entries css13 Z14), .row A16 c17 3 1 (m1.f_line).length ((m1.f_line).flatMap (eI .i64))]) (nv20 : T_model_Note) (A21 : Option Addr) (c22 : Nat) (hr23 : Rd w A21 c22 44 nv20.f_Records.length (nv20.f_Records.flatMap e_flow_Record)) (ho24 : Off ([some g2] ++ ([some g4] ++ ([some g6] ++ ([some g8] ++ ([rblk A10 c11] ++ (Z14.map some ++ ([rblk A16 c17] ++ ([])))))))) nv20.f_Records.length A21) (r : Bool × T_model_Model) (hF : F_model_Model_refuse m1 nv20 = some r) :
  CallsR Try.prog 22 [.pointer (some ⟨g2, 0, none⟩), .agg #[vI nv20.f_Kind, vB nv20.f_Key.f_Src.f_Six, o8 nv20.f_Key.f_Src.f_B 0, o8 nv20.f_Key.f_Src.f_B 1, o8 nv20.f_Key.f_Src.f_B 2, o8 nv20.f_Key.f_Src.f_B 3, o8 nv20.f_Key.f_Src.f_B 4, o8 nv20.f_Key.f_Src.f_B 5, o8 nv20.f_Key.f_Src.f_B 6, o8 nv20.f_Key.f_Src.f_B 7, o8 nv20.f_Key.f_Src.f_B 8, o8 nv20.f_Key.f_Src.f_B 9, o8 nv20.f_Key.f_Src.f_B 10, o8 nv20.f_Key.f_Src.f_B 11, o8 nv20.f_Key.f_Src.f_B 12, o8 nv20.f_Key.f_Src.f_B 13, o8 nv20.f_Key.f_Src.f_B 14, o8 nv20.f_Key.f_Src.f_B 15, vB nv20.f_Key.f_Dst.f_Six, o8 nv20.f_Key.f_Dst.f_B 0, o8 nv20.f_Key.f_Dst.f_B 1, o8 nv20.f_Key.f_Dst.f_B 2, o8 nv20.f_Key.f_Dst.f_B 3, o8 nv20.f_Key.f_Dst.f_B 4, o8 nv20.f_Key.f_Dst.f_B 5, o8 nv20.f_Key.f_Dst.f_B 6, o8 nv20.f_Key.f_Dst.f_B 7, o8 nv20.f_Key.f_Dst.f_B 8, o8 nv20.f_Key.f_Dst.f_B 9, o8 nv20.f_Key.f_Dst.f_B 10, o8 nv20.f_Key.f_Dst.f_B 11, o8 nv20.f_Key.f_Dst.f_B 12, o8 nv20.f_Key.f_Dst.f_B 13, o8 nv20.f_Key.f_Dst.f_B 14, o8 nv20.f_Key.f_Dst.f_B 15, v8 nv20.f_Key.f_Proto, v16 nv20.f_Key.f_SrcPort, v16 nv20.f_Key.f_DstPort, v64 nv20.f_Total.f_Packets, v64 nv20.f_Total.f_Bytes, .slice A21 (nv20.f_Records).length c22, v32 nv20.f_Epoch, v64 nv20.f_N, v64 nv20.f_First, v64 nv20.f_Next]] w (fun v w' => ∃ (gr0 : Nat) (gr1 : Nat) (gr2 : Nat) (Ar3 : Option Addr) (cr3 : Nat) (cssr4 : List (List Value)) (Zr4 : List Nat) (Ar4 : Option Addr) (cr4 : Nat), v = vB r.1 ∧ Mem w ([some g2] ++ ([some g4] ++ ([some g6] ++ ([some g8] ++ ([rblk A10 c11] ++ (Z14.map some ++ ([rblk A16 c17] ++ ([])))))))) w' [.box g2 tg19 [.map (some gr0), .map (some gr1), .map (some gr2), .slice Ar3 (r.2.f_entries).length cr3, .slice Ar4 (r.2.f_line).length cr4, v64 r.2.f_first, v32 r.2.f_boot], .res [gr0] (MR62 gr0 r.2.f_forwarded), .res [gr1] (MR62 gr1 r.2.f_cached), .res [gr2] (MR62 gr2 r.2.f_lost), .row Ar3 cr3 47 6 r.2.f_entries.length cssr4.flatten, .res Zr4 (Els RO_model_Entry 6 r.2.f_entries cssr4 Zr4), .row Ar4 cr4 3 1 r.2.f_line.length (r.2.f_line.flatMap (eI .i64))]) := by
 refine calls_KC Try.func22 rfl Try.ntmps22 rfl ?_
 have hM : Mem w ([some g2] ++ ([some g4] ++ ([some g6] ++ ([some g8] ++ ([rblk A10 c11] ++ (Z14.map some ++ ([rblk A16 c17] ++ ([])))))))) w [.box g2 tg19 [.map (some g4), .map (some g6), .map (some g8), .slice A10 (m1.f_entries).length c11, .slice A16 (m1.f_line).length c17, v64 m1.f_first, v32 m1.f_boot], .res [g4] (MR62 g4 m1.f_forwarded), .res [g6] (MR62 g6 m1.f_cached), .res [g8] (MR62 g8 m1.f_lost), .row A10 c11 47 6 (m1.f_entries).length (css13).flatten, .res Z14 (Els RO_model_Entry 6 m1.f_entries css13 Z14), .row A16 c17 3 1 (m1.f_line).length ((m1.f_line).flatMap (eI .i64))] := Mem.lendN hL25
 unfold F_model_Model_refuse at hF
 refine sr fun Q26 hQ26 => ?_
 refine RL.eff (E.box (vs := [vI nv20.f_Kind, vB nv20.f_Key.f_Src.f_Six, o8 nv20.f_Key.f_Src.f_B 0, o8 nv20.f_Key.f_Src.f_B 1, o8 nv20.f_Key.f_Src.f_B 2, o8 nv20.f_Key.f_Src.f_B 3, o8 nv20.f_Key.f_Src.f_B 4, o8 nv20.f_Key.f_Src.f_B 5, o8 nv20.f_Key.f_Src.f_B 6, o8 nv20.f_Key.f_Src.f_B 7, o8 nv20.f_Key.f_Src.f_B 8, o8 nv20.f_Key.f_Src.f_B 9, o8 nv20.f_Key.f_Src.f_B 10, o8 nv20.f_Key.f_Src.f_B 11, o8 nv20.f_Key.f_Src.f_B 12, o8 nv20.f_Key.f_Src.f_B 13, o8 nv20.f_Key.f_Src.f_B 14, o8 nv20.f_Key.f_Src.f_B 15, vB nv20.f_Key.f_Dst.f_Six, o8 nv20.f_Key.f_Dst.f_B 0, o8 nv20.f_Key.f_Dst.f_B 1, o8 nv20.f_Key.f_Dst.f_B 2, o8 nv20.f_Key.f_Dst.f_B 3, o8 nv20.f_Key.f_Dst.f_B 4, o8 nv20.f_Key.f_Dst.f_B 5, o8 nv20.f_Key.f_Dst.f_B 6, o8 nv20.f_Key.f_Dst.f_B 7, o8 nv20.f_Key.f_Dst.f_B 8, o8 nv20.f_Key.f_Dst.f_B 9, o8 nv20.f_Key.f_Dst.f_B 10, o8 nv20.f_Key.f_Dst.f_B 11, o8 nv20.f_Key.f_Dst.f_B 12, o8 nv20.f_Key.f_Dst.f_B 13, o8 nv20.f_Key.f_Dst.f_B 14, o8 nv20.f_Key.f_Dst.f_B 15, v8 nv20.f_Key.f_Proto, v16 nv20.f_Key.f_SrcPort, v16 nv20.f_Key.f_DstPort, v64 nv20.f_Total.f_Packets, v64 nv20.f_Total.f_Bytes, .slice A21 (nv20.f_Records).length c22, v32 nv20.f_Epoch, v64 nv20.f_N, v64 nv20.f_First, v64 nv20.f_Next]) hM rfl rfl) rfl fun v w28 hv => ?_
 clear hM
 obtain ⟨g27, rfl, hM, hf⟩ := hv
 refine va rfl rfl ?_
 refine nt hQ26 ?_
 clear hQ26 Q26
 refine KC.seqH fun Q30 hQ30 => ?_
 replace hM := hM.drewN 1
 refine KC.draw [] [6] [6] [0, 1, 2, 4, 7, 8, 9, 10, 11] (.ofList [0, 1, 2, 3, 4, 5, 6, 7, 8, 9, 10, 11]) moP (by kernel_rfl) ?_
 refine RD.p rfl rfl rfl rfl (fun w' => O.move rfl) ?_
 refine RD.p rfl rfl rfl rfl (fun w' => O.nilp rfl) ?_
 refine RD.p rfl rfl rfl rfl (fun w' => O.fldA fl65_1 (by decide) rfl) ?_
 refine RD.q rfl rfl rfl rfl (fun w' hf => O.load sc62 rfl (Cs.adds [1] ((hM.bx (i := 0) rfl).fut hf) rfl)) ?_
 refine RD.p rfl rfl rfl rfl (fun w' => O.fldA fl41_3 (by decide) rfl) ?_
 refine RD.q rfl rfl rfl rfl (fun w' hf => O.load sc38 rfl (Cs.adds [40] ((hM.bx (i := 7) rfl).fut hf) rfl)) ?_
 refine RD.micall rfl rfl rfl Try.func38 bd38 rfl rfl rfl Try.ntmps38 rfl ?_
 refine sr fun Q31 hQ31 => ?_
 refine va rfl rfl ?_
 refine va rfl rfl ?_
 refine nt hQ31 ?_
 clear hQ31 Q31
 refine sr fun Q32 hQ32 => ?_
 refine vm rfl rfl ?_
 refine obindE hF fun y33 hx34 hF => ?_
 refine RL.call Try.func34 bd34 rfl rfl (c_maps_Clone_model_totals_packet_Key_flow_Total _ m1.f_cached _ (hM.mapR (i := 2) rfl) _ hx34) fun v w35 hv => ?_
 obtain ⟨g37, rfl, hN36⟩ := hv
 replace hM := hM.call hN36
 refine va rfl rfl ?_
 refine nt hQ32 ?_
 clear hQ32 Q32
 refine KC.seqH fun Q39 hQ39 => ?_
 refine sr fun Q40 hQ40 => ?_
 refine vm rfl rfl ?_
 refine RL.val (O.len sl38 rfl) rfl ?_
 refine vm rfl rfl ?_
 refine nt hQ40 ?_
 clear hQ40 Q40
 refine KC.block ?_
 refine KC.loop (fun k465 a w463 => ∃ (m460 : FM62) (t461 : Int), Kn 60 [(0, .map (some g37)), (1, .slice A21 (nv20.f_Records).length c22), (12, .slice A21 (nv20.f_Records).length c22), (13, vI (nv20.f_Records.length : Int)), (14, vI t461)] a ∧ Mem w ([some g2] ++ ([some g4] ++ ([some g6] ++ ([some g8] ++ ([rblk A10 c11] ++ (Z14.map some ++ ([rblk A16 c17] ++ ([])))))))) w463 [.res [g4] (MR62 g4 m1.f_forwarded), .res [g6] (MR62 g6 m1.f_cached), .res [g8] (MR62 g8 m1.f_lost), .row A10 c11 47 6 (m1.f_entries).length (css13).flatten, .res Z14 (Els RO_model_Entry 6 m1.f_entries css13 Z14), .row A16 c17 3 1 (m1.f_line).length ((m1.f_line).flatMap (eI .i64)), .box g2 tg19 [.map (some g4), .map (some g6), .map (some g8), .slice A10 (m1.f_entries).length c11, .slice A16 (m1.f_line).length c17, v64 m1.f_first, v32 m1.f_boot], .res [g37] (MR62 g37 m460), .box g27 41 [vI nv20.f_Kind, vB nv20.f_Key.f_Src.f_Six, o8 nv20.f_Key.f_Src.f_B 0, o8 nv20.f_Key.f_Src.f_B 1, o8 nv20.f_Key.f_Src.f_B 2, o8 nv20.f_Key.f_Src.f_B 3, o8 nv20.f_Key.f_Src.f_B 4, o8 nv20.f_Key.f_Src.f_B 5, o8 nv20.f_Key.f_Src.f_B 6, o8 nv20.f_Key.f_Src.f_B 7, o8 nv20.f_Key.f_Src.f_B 8, o8 nv20.f_Key.f_Src.f_B 9, o8 nv20.f_Key.f_Src.f_B 10, o8 nv20.f_Key.f_Src.f_B 11, o8 nv20.f_Key.f_Src.f_B 12, o8 nv20.f_Key.f_Src.f_B 13, o8 nv20.f_Key.f_Src.f_B 14, o8 nv20.f_Key.f_Src.f_B 15, vB nv20.f_Key.f_Dst.f_Six, o8 nv20.f_Key.f_Dst.f_B 0, o8 nv20.f_Key.f_Dst.f_B 1, o8 nv20.f_Key.f_Dst.f_B 2, o8 nv20.f_Key.f_Dst.f_B 3, o8 nv20.f_Key.f_Dst.f_B 4, o8 nv20.f_Key.f_Dst.f_B 5, o8 nv20.f_Key.f_Dst.f_B 6, o8 nv20.f_Key.f_Dst.f_B 7, o8 nv20.f_Key.f_Dst.f_B 8, o8 nv20.f_Key.f_Dst.f_B 9, o8 nv20.f_Key.f_Dst.f_B 10, o8 nv20.f_Key.f_Dst.f_B 11, o8 nv20.f_Key.f_Dst.f_B 12, o8 nv20.f_Key.f_Dst.f_B 13, o8 nv20.f_Key.f_Dst.f_B 14, o8 nv20.f_Key.f_Dst.f_B 15, v8 nv20.f_Key.f_Proto, v16 nv20.f_Key.f_SrcPort, v16 nv20.f_Key.f_DstPort, v64 nv20.f_Total.f_Packets, v64 nv20.f_Total.f_Bytes, .slice A21 (nv20.f_Records).length c22, v32 nv20.f_Epoch, v64 nv20.f_N, v64 nv20.f_First, v64 nv20.f_Next]] ∧ F_model_Model_refuse_L1 m1 nv20 k465 m460 t461 = some r) ?_ ?_
 ·replace hM := hM.pick [1, 2, 3, 4, 5, 6, 0, 8, 7] rfl (by decide)
  exact fun a ha => ⟨fuel0, y33, 0, ha.less (less_cons rfl (less_cons rfl (less_cons rfl (less_cons rfl (less_cons rfl less_nil))))), hM, hF⟩
 rintro k465 a w463 ⟨m460, t461, ha, hM, hF⟩
 refine KC.app ha ?_
 clear ha
 cases k465 with
 | zero => exact (none_some hF).elim
 | succ k465 =>
 have hF : F_model_Model_refuse_l1 (F_model_Model_refuse_L1 m1 nv20 k465) m1 nv20 m460 t461 = some r := hF
 unfold F_model_Model_refuse_l1 at hF
 refine sr fun Q466 hQ466 => ?_
 refine RL.val (O.lss rfl rfl) rfl ?_
 refine nt hQ466 ?_
 clear hQ466 Q466
 refine KC.seqH fun Q467 hQ467 => ?_
 refine KC.cond rfl (fun hc => ?_) (fun hc => ?_)
 ·rw [if_pos hc] at hF
  refine KC.skip ?_
  refine KQ.thn hQ467 ?_
  clear hQ467 Q467
  refine KC.seqH fun Q468 hQ468 => ?_
  refine KC.block ?_
  refine sr fun Q469 hQ469 => ?_
  refine obindE hF fun xv472 hx471 hF => ?_
  have hA470 := Rd.atN (f := e_flow_Record) (s := 44) (fun _ => rfl) (by decide) (hM.inp hr23 ho24) hx471
  refine RL.val (O.idxA sl38 (hA470) rfl rfl) rfl ?_
  refine RL.val (O.loadN (cs := [vB xv472.f_Key.f_Src.f_Six, o8 xv472.f_Key.f_Src.f_B 0, o8 xv472.f_Key.f_Src.f_B 1, o8 xv472.f_Key.f_Src.f_B 2, o8 xv472.f_Key.f_Src.f_B 3, o8 xv472.f_Key.f_Src.f_B 4, o8 xv472.f_Key.f_Src.f_B 5, o8 xv472.f_Key.f_Src.f_B 6, o8 xv472.f_Key.f_Src.f_B 7, o8 xv472.f_Key.f_Src.f_B 8, o8 xv472.f_Key.f_Src.f_B 9, o8 xv472.f_Key.f_Src.f_B 10, o8 xv472.f_Key.f_Src.f_B 11, o8 xv472.f_Key.f_Src.f_B 12, o8 xv472.f_Key.f_Src.f_B 13, o8 xv472.f_Key.f_Src.f_B 14, o8 xv472.f_Key.f_Src.f_B 15, vB xv472.f_Key.f_Dst.f_Six, o8 xv472.f_Key.f_Dst.f_B 0, o8 xv472.f_Key.f_Dst.f_B 1, o8 xv472.f_Key.f_Dst.f_B 2, o8 xv472.f_Key.f_Dst.f_B 3, o8 xv472.f_Key.f_Dst.f_B 4, o8 xv472.f_Key.f_Dst.f_B 5, o8 xv472.f_Key.f_Dst.f_B 6, o8 xv472.f_Key.f_Dst.f_B 7, o8 xv472.f_Key.f_Dst.f_B 8, o8 xv472.f_Key.f_Dst.f_B 9, o8 xv472.f_Key.f_Dst.f_B 10, o8 xv472.f_Key.f_Dst.f_B 11, o8 xv472.f_Key.f_Dst.f_B 12, o8 xv472.f_Key.f_Dst.f_B 13, o8 xv472.f_Key.f_Dst.f_B 14, o8 xv472.f_Key.f_Dst.f_B 15, v8 xv472.f_Key.f_Proto, v16 xv472.f_Key.f_SrcPort, v16 xv472.f_Key.f_DstPort, v64 xv472.f_Packets, v64 xv472.f_Bytes, v64 xv472.f_First, v64 xv472.f_Last, v8 xv472.f_Flags, v8 xv472.f_Reason, v8 xv472.f_Class]) ag50 rfl (hA470).cells) rfl ?_
  refine RL.eff (E.alloc hM ze50) rfl fun v w474 hv => ?_
  clear hM
  obtain ⟨g473, rfl, hM, hf⟩ := hv
  refine RL.effs (E.stB (j := 9) (off := 0) (vs := [vB xv472.f_Key.f_Src.f_Six, o8 xv472.f_Key.f_Src.f_B 0, o8 xv472.f_Key.f_Src.f_B 1, o8 xv472.f_Key.f_Src.f_B 2, o8 xv472.f_Key.f_Src.f_B 3, o8 xv472.f_Key.f_Src.f_B 4, o8 xv472.f_Key.f_Src.f_B 5, o8 xv472.f_Key.f_Src.f_B 6, o8 xv472.f_Key.f_Src.f_B 7, o8 xv472.f_Key.f_Src.f_B 8, o8 xv472.f_Key.f_Src.f_B 9, o8 xv472.f_Key.f_Src.f_B 10, o8 xv472.f_Key.f_Src.f_B 11, o8 xv472.f_Key.f_Src.f_B 12, o8 xv472.f_Key.f_Src.f_B 13, o8 xv472.f_Key.f_Src.f_B 14, o8 xv472.f_Key.f_Src.f_B 15, vB xv472.f_Key.f_Dst.f_Six, o8 xv472.f_Key.f_Dst.f_B 0, o8 xv472.f_Key.f_Dst.f_B 1, o8 xv472.f_Key.f_Dst.f_B 2, o8 xv472.f_Key.f_Dst.f_B 3, o8 xv472.f_Key.f_Dst.f_B 4, o8 xv472.f_Key.f_Dst.f_B 5, o8 xv472.f_Key.f_Dst.f_B 6, o8 xv472.f_Key.f_Dst.f_B 7, o8 xv472.f_Key.f_Dst.f_B 8, o8 xv472.f_Key.f_Dst.f_B 9, o8 xv472.f_Key.f_Dst.f_B 10, o8 xv472.f_Key.f_Dst.f_B 11, o8 xv472.f_Key.f_Dst.f_B 12, o8 xv472.f_Key.f_Dst.f_B 13, o8 xv472.f_Key.f_Dst.f_B 14, o8 xv472.f_Key.f_Dst.f_B 15, v8 xv472.f_Key.f_Proto, v16 xv472.f_Key.f_SrcPort, v16 xv472.f_Key.f_DstPort, v64 xv472.f_Packets, v64 xv472.f_Bytes, v64 xv472.f_First, v64 xv472.f_Last, v8 xv472.f_Flags, v8 xv472.f_Reason, v8 xv472.f_Class]) (cs' := [vB xv472.f_Key.f_Src.f_Six, o8 xv472.f_Key.f_Src.f_B 0, o8 xv472.f_Key.f_Src.f_B 1, o8 xv472.f_Key.f_Src.f_B 2, o8 xv472.f_Key.f_Src.f_B 3, o8 xv472.f_Key.f_Src.f_B 4, o8 xv472.f_Key.f_Src.f_B 5, o8 xv472.f_Key.f_Src.f_B 6, o8 xv472.f_Key.f_Src.f_B 7, o8 xv472.f_Key.f_Src.f_B 8, o8 xv472.f_Key.f_Src.f_B 9, o8 xv472.f_Key.f_Src.f_B 10, o8 xv472.f_Key.f_Src.f_B 11, o8 xv472.f_Key.f_Src.f_B 12, o8 xv472.f_Key.f_Src.f_B 13, o8 xv472.f_Key.f_Src.f_B 14, o8 xv472.f_Key.f_Src.f_B 15, vB xv472.f_Key.f_Dst.f_Six, o8 xv472.f_Key.f_Dst.f_B 0, o8 xv472.f_Key.f_Dst.f_B 1, o8 xv472.f_Key.f_Dst.f_B 2, o8 xv472.f_Key.f_Dst.f_B 3, o8 xv472.f_Key.f_Dst.f_B 4, o8 xv472.f_Key.f_Dst.f_B 5, o8 xv472.f_Key.f_Dst.f_B 6, o8 xv472.f_Key.f_Dst.f_B 7, o8 xv472.f_Key.f_Dst.f_B 8, o8 xv472.f_Key.f_Dst.f_B 9, o8 xv472.f_Key.f_Dst.f_B 10, o8 xv472.f_Key.f_Dst.f_B 11, o8 xv472.f_Key.f_Dst.f_B 12, o8 xv472.f_Key.f_Dst.f_B 13, o8 xv472.f_Key.f_Dst.f_B 14, o8 xv472.f_Key.f_Dst.f_B 15, v8 xv472.f_Key.f_Proto, v16 xv472.f_Key.f_SrcPort, v16 xv472.f_Key.f_DstPort, v64 xv472.f_Packets, v64 xv472.f_Bytes, v64 xv472.f_First, v64 xv472.f_Last, v8 xv472.f_Flags, v8 xv472.f_Reason, v8 xv472.f_Class]) hM rfl sz50 rfl (adds_eq [] rfl) rfl rfl (One.all rfl) rfl rfl) fun w476 hM1 => ?_
  clear hM
  have hM := hM1
  clear hM1
  refine nt hQ469 ?_
  clear hQ469 Q469
  refine KC.seqH fun Q477 hQ477 => ?_
  replace hM := hM.drewN 1
  refine KC.draw [] [8, 9] [5, 6, 7, 8, 9] [0, 1] (.cons 0 (.cons 1 (.cons 2 (.cons 3 (.cons 4 (.alt3 5 (.alt 6 (.ofList [7, 8, 9]) 7 (.ofList [6, 8, 9])) 6 (.alt 5 (.ofList [7, 8, 9]) 7 (.ofList [5, 8, 9])) 7 (.alt 5 (.ofList [6, 8, 9]) 6 (.ofList [5, 8, 9])))))))) moP (by kernel_rfl) ?_
  refine RD.p rfl rfl rfl rfl (fun w' => O.move rfl) ?_
  refine RD.p rfl rfl rfl rfl (fun w' => O.fldA fl50_0 (by decide) rfl) ?_
  refine RD.q rfl rfl rfl rfl (fun w' hf => O.loadN (cs := [vB xv472.f_Key.f_Src.f_Six, o8 xv472.f_Key.f_Src.f_B 0, o8 xv472.f_Key.f_Src.f_B 1, o8 xv472.f_Key.f_Src.f_B 2, o8 xv472.f_Key.f_Src.f_B 3, o8 xv472.f_Key.f_Src.f_B 4, o8 xv472.f_Key.f_Src.f_B 5, o8 xv472.f_Key.f_Src.f_B 6, o8 xv472.f_Key.f_Src.f_B 7, o8 xv472.f_Key.f_Src.f_B 8, o8 xv472.f_Key.f_Src.f_B 9, o8 xv472.f_Key.f_Src.f_B 10, o8 xv472.f_Key.f_Src.f_B 11, o8 xv472.f_Key.f_Src.f_B 12, o8 xv472.f_Key.f_Src.f_B 13, o8 xv472.f_Key.f_Src.f_B 14, o8 xv472.f_Key.f_Src.f_B 15, vB xv472.f_Key.f_Dst.f_Six, o8 xv472.f_Key.f_Dst.f_B 0, o8 xv472.f_Key.f_Dst.f_B 1, o8 xv472.f_Key.f_Dst.f_B 2, o8 xv472.f_Key.f_Dst.f_B 3, o8 xv472.f_Key.f_Dst.f_B 4, o8 xv472.f_Key.f_Dst.f_B 5, o8 xv472.f_Key.f_Dst.f_B 6, o8 xv472.f_Key.f_Dst.f_B 7, o8 xv472.f_Key.f_Dst.f_B 8, o8 xv472.f_Key.f_Dst.f_B 9, o8 xv472.f_Key.f_Dst.f_B 10, o8 xv472.f_Key.f_Dst.f_B 11, o8 xv472.f_Key.f_Dst.f_B 12, o8 xv472.f_Key.f_Dst.f_B 13, o8 xv472.f_Key.f_Dst.f_B 14, o8 xv472.f_Key.f_Dst.f_B 15, v8 xv472.f_Key.f_Proto, v16 xv472.f_Key.f_SrcPort, v16 xv472.f_Key.f_DstPort]) ag34 rfl (Cs.addsN [0] ((hM.bx (i := 9) rfl).fut hf) rfl)) ?_
  refine RD.q rfl rfl rfl rfl (fun w' hf => O.lkR (k := xv472.f_Key) (ks := [vB xv472.f_Key.f_Src.f_Six, o8 xv472.f_Key.f_Src.f_B 0, o8 xv472.f_Key.f_Src.f_B 1, o8 xv472.f_Key.f_Src.f_B 2, o8 xv472.f_Key.f_Src.f_B 3, o8 xv472.f_Key.f_Src.f_B 4, o8 xv472.f_Key.f_Src.f_B 5, o8 xv472.f_Key.f_Src.f_B 6, o8 xv472.f_Key.f_Src.f_B 7, o8 xv472.f_Key.f_Src.f_B 8, o8 xv472.f_Key.f_Src.f_B 9, o8 xv472.f_Key.f_Src.f_B 10, o8 xv472.f_Key.f_Src.f_B 11, o8 xv472.f_Key.f_Src.f_B 12, o8 xv472.f_Key.f_Src.f_B 13, o8 xv472.f_Key.f_Src.f_B 14, o8 xv472.f_Key.f_Src.f_B 15, vB xv472.f_Key.f_Dst.f_Six, o8 xv472.f_Key.f_Dst.f_B 0, o8 xv472.f_Key.f_Dst.f_B 1, o8 xv472.f_Key.f_Dst.f_B 2, o8 xv472.f_Key.f_Dst.f_B 3, o8 xv472.f_Key.f_Dst.f_B 4, o8 xv472.f_Key.f_Dst.f_B 5, o8 xv472.f_Key.f_Dst.f_B 6, o8 xv472.f_Key.f_Dst.f_B 7, o8 xv472.f_Key.f_Dst.f_B 8, o8 xv472.f_Key.f_Dst.f_B 9, o8 xv472.f_Key.f_Dst.f_B 10, o8 xv472.f_Key.f_Dst.f_B 11, o8 xv472.f_Key.f_Dst.f_B 12, o8 xv472.f_Key.f_Dst.f_B 13, o8 xv472.f_Key.f_Dst.f_B 14, o8 xv472.f_Key.f_Dst.f_B 15, v8 xv472.f_Key.f_Proto, v16 xv472.f_Key.f_SrcPort, v16 xv472.f_Key.f_DstPort]) (zv := (T_flow_Total.mk 0 0)) (vs := [v64 (((m460 xv472.f_Key).getD (T_flow_Total.mk 0 0)).f_Packets), v64 (((m460 xv472.f_Key).getD (T_flow_Total.mk 0 0)).f_Bytes)]) mt62 ((hM.mapR (i := 7) rfl).fut hf) (by kernel_rfl) rfl rfl rfl rfl) ?_
  refine RD.q rfl rfl rfl rfl (fun w' hf => O.loadN (cs := [vB xv472.f_Key.f_Src.f_Six, o8 xv472.f_Key.f_Src.f_B 0, o8 xv472.f_Key.f_Src.f_B 1, o8 xv472.f_Key.f_Src.f_B 2, o8 xv472.f_Key.f_Src.f_B 3, o8 xv472.f_Key.f_Src.f_B 4, o8 xv472.f_Key.f_Src.f_B 5, o8 xv472.f_Key.f_Src.f_B 6, o8 xv472.f_Key.f_Src.f_B 7, o8 xv472.f_Key.f_Src.f_B 8, o8 xv472.f_Key.f_Src.f_B 9, o8 xv472.f_Key.f_Src.f_B 10, o8 xv472.f_Key.f_Src.f_B 11, o8 xv472.f_Key.f_Src.f_B 12, o8 xv472.f_Key.f_Src.f_B 13, o8 xv472.f_Key.f_Src.f_B 14, o8 xv472.f_Key.f_Src.f_B 15, vB xv472.f_Key.f_Dst.f_Six, o8 xv472.f_Key.f_Dst.f_B 0, o8 xv472.f_Key.f_Dst.f_B 1, o8 xv472.f_Key.f_Dst.f_B 2, o8 xv472.f_Key.f_Dst.f_B 3, o8 xv472.f_Key.f_Dst.f_B 4, o8 xv472.f_Key.f_Dst.f_B 5, o8 xv472.f_Key.f_Dst.f_B 6, o8 xv472.f_Key.f_Dst.f_B 7, o8 xv472.f_Key.f_Dst.f_B 8, o8 xv472.f_Key.f_Dst.f_B 9, o8 xv472.f_Key.f_Dst.f_B 10, o8 xv472.f_Key.f_Dst.f_B 11, o8 xv472.f_Key.f_Dst.f_B 12, o8 xv472.f_Key.f_Dst.f_B 13, o8 xv472.f_Key.f_Dst.f_B 14, o8 xv472.f_Key.f_Dst.f_B 15, v8 xv472.f_Key.f_Proto, v16 xv472.f_Key.f_SrcPort, v16 xv472.f_Key.f_DstPort, v64 xv472.f_Packets, v64 xv472.f_Bytes, v64 xv472.f_First, v64 xv472.f_Last, v8 xv472.f_Flags, v8 xv472.f_Reason, v8 xv472.f_Class]) ag50 rfl (Cs.addsN [] ((hM.bx (i := 9) rfl).fut hf) rfl)) ?_
  refine RD.alt3 ?_ ?_ ?_
  ·refine obindE hF fun y478 hx479 hF => ?_
   refine RD.mcall rfl rfl trivial Try.func13 bd13 rfl rfl (c_flow_Record_Total _ xv472 _ hx479) fun v w480 hv => ?_
   obtain ⟨rfl, hN481⟩ := hv
   refine ⟨fun _ => hN481.fut, ?_⟩
   replace hM := hM.call0 hN481
   refine RD.alt ?_ ?_
   ·refine RD.meff rfl rfl (E.alloc hM ze37) rfl fun v w483 hv => ?_
    clear hM
    obtain ⟨g482, rfl, hM, hf⟩ := hv
    refine ⟨fun _ => hf, ?_⟩
    refine RD.meff rfl rfl (E.alloc hM ze37) rfl fun v w486 hv => ?_
    clear hM
    obtain ⟨g485, rfl, hM, hf⟩ := hv
    refine ⟨fun _ => hf, ?_⟩
    refine RD.meffs rfl rfl rfl (E.stB (j := 10) (off := 0) (vs := [v64 (((m460 xv472.f_Key).getD (T_flow_Total.mk 0 0)).f_Packets), v64 (((m460 xv472.f_Key).getD (T_flow_Total.mk 0 0)).f_Bytes)]) (cs' := [v64 (((m460 xv472.f_Key).getD (T_flow_Total.mk 0 0)).f_Packets), v64 (((m460 xv472.f_Key).getD (T_flow_Total.mk 0 0)).f_Bytes)]) hM rfl sz37 rfl (adds_eq [] rfl) rfl rfl (One.all rfl) rfl rfl) fun w488 hM1 => ?_
    clear hM
    have hM := hM1
    clear hM1
    refine RD.meffs rfl rfl rfl (E.stB (j := 11) (off := 0) (vs := [v64 y478.f_Packets, v64 y478.f_Bytes]) (cs' := [v64 y478.f_Packets, v64 y478.f_Bytes]) hM rfl sz37 rfl (adds_eq [] rfl) rfl rfl (One.all rfl) rfl rfl) fun w489 hM1 => ?_
    clear hM
    have hM := hM1
    clear hM1
    refine RD.nil ?_
    refine KQ.thn hQ477 ?_
    clear hQ477 Q477
    refine KC.seqH fun Q490 hQ490 => ?_
    refine KC.cut (fun a w508 => ∃ (t506 : Bool), Kn 60 [(0, .map (some g37)), (1, .slice A21 (nv20.f_Records).length c22), (7, .pointer (some ⟨g473, 0, none⟩)), (8, .pointer (some ⟨g482, 0, none⟩)), (9, .pointer (some ⟨g485, 0, none⟩)), (12, .slice A21 (nv20.f_Records).length c22), (13, vI (nv20.f_Records.length : Int)), (14, vI t461), (40, vB t506)] a ∧ Mem w ([some g2] ++ ([some g4] ++ ([some g6] ++ ([some g8] ++ ([rblk A10 c11] ++ (Z14.map some ++ ([rblk A16 c17] ++ ([])))))))) w508 [.res [g4] (MR62 g4 m1.f_forwarded), .res [g6] (MR62 g6 m1.f_cached), .res [g8] (MR62 g8 m1.f_lost), .row A10 c11 47 6 (m1.f_entries).length (css13).flatten, .res Z14 (Els RO_model_Entry 6 m1.f_entries css13 Z14), .row A16 c17 3 1 (m1.f_line).length ((m1.f_line).flatMap (eI .i64)), .box g2 tg19 [.map (some g4), .map (some g6), .map (some g8), .slice A10 (m1.f_entries).length c11, .slice A16 (m1.f_line).length c17, v64 m1.f_first, v32 m1.f_boot], .res [g37] (MR62 g37 m460), .box g473 50 [vB xv472.f_Key.f_Src.f_Six, o8 xv472.f_Key.f_Src.f_B 0, o8 xv472.f_Key.f_Src.f_B 1, o8 xv472.f_Key.f_Src.f_B 2, o8 xv472.f_Key.f_Src.f_B 3, o8 xv472.f_Key.f_Src.f_B 4, o8 xv472.f_Key.f_Src.f_B 5, o8 xv472.f_Key.f_Src.f_B 6, o8 xv472.f_Key.f_Src.f_B 7, o8 xv472.f_Key.f_Src.f_B 8, o8 xv472.f_Key.f_Src.f_B 9, o8 xv472.f_Key.f_Src.f_B 10, o8 xv472.f_Key.f_Src.f_B 11, o8 xv472.f_Key.f_Src.f_B 12, o8 xv472.f_Key.f_Src.f_B 13, o8 xv472.f_Key.f_Src.f_B 14, o8 xv472.f_Key.f_Src.f_B 15, vB xv472.f_Key.f_Dst.f_Six, o8 xv472.f_Key.f_Dst.f_B 0, o8 xv472.f_Key.f_Dst.f_B 1, o8 xv472.f_Key.f_Dst.f_B 2, o8 xv472.f_Key.f_Dst.f_B 3, o8 xv472.f_Key.f_Dst.f_B 4, o8 xv472.f_Key.f_Dst.f_B 5, o8 xv472.f_Key.f_Dst.f_B 6, o8 xv472.f_Key.f_Dst.f_B 7, o8 xv472.f_Key.f_Dst.f_B 8, o8 xv472.f_Key.f_Dst.f_B 9, o8 xv472.f_Key.f_Dst.f_B 10, o8 xv472.f_Key.f_Dst.f_B 11, o8 xv472.f_Key.f_Dst.f_B 12, o8 xv472.f_Key.f_Dst.f_B 13, o8 xv472.f_Key.f_Dst.f_B 14, o8 xv472.f_Key.f_Dst.f_B 15, v8 xv472.f_Key.f_Proto, v16 xv472.f_Key.f_SrcPort, v16 xv472.f_Key.f_DstPort, v64 xv472.f_Packets, v64 xv472.f_Bytes, v64 xv472.f_First, v64 xv472.f_Last, v8 xv472.f_Flags, v8 xv472.f_Reason, v8 xv472.f_Class], .box g482 37 [v64 (((m460 xv472.f_Key).getD (T_flow_Total.mk 0 0)).f_Packets), v64 (((m460 xv472.f_Key).getD (T_flow_Total.mk 0 0)).f_Bytes)], .box g485 37 [v64 y478.f_Packets, v64 y478.f_Bytes], .box g27 41 [vI nv20.f_Kind, vB nv20.f_Key.f_Src.f_Six, o8 nv20.f_Key.f_Src.f_B 0, o8 nv20.f_Key.f_Src.f_B 1, o8 nv20.f_Key.f_Src.f_B 2, o8 nv20.f_Key.f_Src.f_B 3, o8 nv20.f_Key.f_Src.f_B 4, o8 nv20.f_Key.f_Src.f_B 5, o8 nv20.f_Key.f_Src.f_B 6, o8 nv20.f_Key.f_Src.f_B 7, o8 nv20.f_Key.f_Src.f_B 8, o8 nv20.f_Key.f_Src.f_B 9, o8 nv20.f_Key.f_Src.f_B 10, o8 nv20.f_Key.f_Src.f_B 11, o8 nv20.f_Key.f_Src.f_B 12, o8 nv20.f_Key.f_Src.f_B 13, o8 nv20.f_Key.f_Src.f_B 14, o8 nv20.f_Key.f_Src.f_B 15, vB nv20.f_Key.f_Dst.f_Six, o8 nv20.f_Key.f_Dst.f_B 0, o8 nv20.f_Key.f_Dst.f_B 1, o8 nv20.f_Key.f_Dst.f_B 2, o8 nv20.f_Key.f_Dst.f_B 3, o8 nv20.f_Key.f_Dst.f_B 4, o8 nv20.f_Key.f_Dst.f_B 5, o8 nv20.f_Key.f_Dst.f_B 6, o8 nv20.f_Key.f_Dst.f_B 7, o8 nv20.f_Key.f_Dst.f_B 8, o8 nv20.f_Key.f_Dst.f_B 9, o8 nv20.f_Key.f_Dst.f_B 10, o8 nv20.f_Key.f_Dst.f_B 11, o8 nv20.f_Key.f_Dst.f_B 12, o8 nv20.f_Key.f_Dst.f_B 13, o8 nv20.f_Key.f_Dst.f_B 14, o8 nv20.f_Key.f_Dst.f_B 15, v8 nv20.f_Key.f_Proto, v16 nv20.f_Key.f_SrcPort, v16 nv20.f_Key.f_DstPort, v64 nv20.f_Total.f_Packets, v64 nv20.f_Total.f_Bytes, .slice A21 (nv20.f_Records).length c22, v32 nv20.f_Epoch, v64 nv20.f_N, v64 nv20.f_First, v64 nv20.f_Next]] ∧ F_model_Model_refuse_j1 m1 m460 t461 (F_model_Model_refuse_L1 m1 nv20 k465) xv472 y478 t506 = some r) ?_ ?_
    ·refine KC.region ?_
     refine RL.val (O.loadN (cs := [vB xv472.f_Key.f_Src.f_Six, o8 xv472.f_Key.f_Src.f_B 0, o8 xv472.f_Key.f_Src.f_B 1, o8 xv472.f_Key.f_Src.f_B 2, o8 xv472.f_Key.f_Src.f_B 3, o8 xv472.f_Key.f_Src.f_B 4, o8 xv472.f_Key.f_Src.f_B 5, o8 xv472.f_Key.f_Src.f_B 6, o8 xv472.f_Key.f_Src.f_B 7, o8 xv472.f_Key.f_Src.f_B 8, o8 xv472.f_Key.f_Src.f_B 9, o8 xv472.f_Key.f_Src.f_B 10, o8 xv472.f_Key.f_Src.f_B 11, o8 xv472.f_Key.f_Src.f_B 12, o8 xv472.f_Key.f_Src.f_B 13, o8 xv472.f_Key.f_Src.f_B 14, o8 xv472.f_Key.f_Src.f_B 15, vB xv472.f_Key.f_Dst.f_Six, o8 xv472.f_Key.f_Dst.f_B 0, o8 xv472.f_Key.f_Dst.f_B 1, o8 xv472.f_Key.f_Dst.f_B 2, o8 xv472.f_Key.f_Dst.f_B 3, o8 xv472.f_Key.f_Dst.f_B 4, o8 xv472.f_Key.f_Dst.f_B 5, o8 xv472.f_Key.f_Dst.f_B 6, o8 xv472.f_Key.f_Dst.f_B 7, o8 xv472.f_Key.f_Dst.f_B 8, o8 xv472.f_Key.f_Dst.f_B 9, o8 xv472.f_Key.f_Dst.f_B 10, o8 xv472.f_Key.f_Dst.f_B 11, o8 xv472.f_Key.f_Dst.f_B 12, o8 xv472.f_Key.f_Dst.f_B 13, o8 xv472.f_Key.f_Dst.f_B 14, o8 xv472.f_Key.f_Dst.f_B 15, v8 xv472.f_Key.f_Proto, v16 xv472.f_Key.f_SrcPort, v16 xv472.f_Key.f_DstPort, v64 xv472.f_Packets, v64 xv472.f_Bytes, v64 xv472.f_First, v64 xv472.f_Last, v8 xv472.f_Flags, v8 xv472.f_Reason, v8 xv472.f_Class]) ag50 rfl (Cs.addsN [] ((hM.bx (i := 9) rfl)) rfl)) rfl ?_
     refine obindE hF fun y491 hx492 hF => ?_
     refine RL.call Try.func57 bd57 rfl rfl (c_flow_Record_Right _ xv472 _ hx492) fun v w493 hv => ?_
     obtain ⟨rfl, hN494⟩ := hv
     replace hM := hM.call0 hN494
     refine RL.val (O.not rfl) rfl ?_
     refine vm rfl rfl ?_
     refine RL.bcase (t := 27) rfl (fun hc => ?_) (fun hc => ?_)
     ·rw [if_pos hc] at hF
      refine RL.gskip rfl rfl rfl rfl ?_
      refine RL.gskip rfl rfl rfl rfl ?_
      refine RL.gskip rfl rfl rfl rfl ?_
      refine RL.gskip rfl rfl rfl rfl ?_
      refine RL.gskip rfl rfl rfl rfl ?_
      refine RL.val (O.pickt rfl rfl) rfl ?_
      refine vm rfl rfl ?_
      refine RL.gskip rfl rfl rfl rfl ?_
      refine RL.gskip rfl rfl rfl rfl ?_
      refine RL.gskip rfl rfl rfl rfl ?_
      refine RL.gskip rfl rfl rfl rfl ?_
      refine RL.gskip rfl rfl rfl rfl ?_
      refine RL.val (O.pickt rfl rfl) rfl ?_
      refine RL.nil ?_
      refine KQ.then_k ?_
      replace hM := hM.pick [0, 1, 2, 3, 4, 5, 6, 7, 9, 10, 11, 8] rfl (by decide)
      exact fun a ha => ⟨true, ha.less (less_cons rfl (less_cons rfl (less_cons rfl (less_cons rfl (less_cons rfl (less_cons rfl (less_cons rfl (less_cons rfl (less_cons rfl less_nil))))))))), hM, hF⟩
     rw [if_neg (ne_true hc)] at hF
     refine RL.gval rfl rfl (O.fldA fl37_0 (by decide) rfl) rfl ?_
     refine RL.gval rfl rfl (O.load sc35 rfl (Cs.adds [0] ((hM.bx (i := 11) rfl)) rfl)) rfl ?_
     refine RL.gval rfl rfl (O.fldA fl37_0 (by decide) rfl) rfl ?_
     refine RL.gval rfl rfl (O.load sc35 rfl (Cs.adds [0] ((hM.bx (i := 10) rfl)) rfl)) rfl ?_
     refine RL.gval rfl rfl (O.gtr rfl rfl) rfl ?_
     refine RL.val (O.pickf rfl rfl) rfl ?_
     refine vm rfl rfl ?_
     refine RL.bcase (t := 34) rfl (fun hc => ?_) (fun hc => ?_)
     ·rw [if_pos hc] at hF
      refine RL.gskip rfl rfl rfl rfl ?_
      refine RL.gskip rfl rfl rfl rfl ?_
      refine RL.gskip rfl rfl rfl rfl ?_
      refine RL.gskip rfl rfl rfl rfl ?_
      refine RL.gskip rfl rfl rfl rfl ?_
      refine RL.val (O.pickt rfl rfl) rfl ?_
      refine RL.nil ?_
      refine KQ.then_k ?_
      replace hM := hM.pick [0, 1, 2, 3, 4, 5, 6, 7, 9, 10, 11, 8] rfl (by decide)
      exact fun a ha => ⟨true, ha.less (less_cons rfl (less_cons rfl (less_cons rfl (less_cons rfl (less_cons rfl (less_cons rfl (less_cons rfl (less_cons rfl (less_cons rfl less_nil))))))))), hM, hF⟩
     rw [if_neg (ne_true hc)] at hF
     refine RL.gval rfl rfl (O.fldA fl37_1 (by decide) rfl) rfl ?_
     refine RL.gval rfl rfl (O.load sc35 rfl (Cs.adds [1] ((hM.bx (i := 11) rfl)) rfl)) rfl ?_
     refine RL.gval rfl rfl (O.fldA fl37_1 (by decide) rfl) rfl ?_
     refine RL.gval rfl rfl (O.load sc35 rfl (Cs.adds [1] ((hM.bx (i := 10) rfl)) rfl)) rfl ?_
     refine RL.gval rfl rfl (O.gtr rfl rfl) rfl ?_
     refine RL.val (O.pickf rfl rfl) rfl ?_
     refine RL.nil ?_
     refine KQ.then_k ?_
     replace hM := hM.pick [0, 1, 2, 3, 4, 5, 6, 7, 9, 10, 11, 8] rfl (by decide)
     exact fun a ha => ⟨(decide (((m460 xv472.f_Key).getD (T_flow_Total.mk 0 0)).f_Bytes < y478.f_Bytes)), ha.less (less_cons rfl (less_cons rfl (less_cons rfl (less_cons rfl (less_cons rfl (less_cons rfl (less_cons rfl (less_cons rfl (less_cons rfl less_nil))))))))), hM, hF⟩
    rintro a w508 ⟨t506, ha, hM, hF⟩
    refine KC.app ha ?_
    clear ha
    unfold F_model_Model_refuse_j1 at hF
    refine KC.cond rfl (fun hc => ?_) (fun hc => ?_)
    ·rw [if_pos hc] at hF
     refine sr fun Q509 hQ509 => ?_
     refine va rfl rfl ?_
     refine va rfl rfl ?_
     refine nt hQ509 ?_
     clear hQ509 Q509
     refine KC.ret ?_
     refine KQ.thr hQ490 ?_
     clear hQ490 Q490
     refine KQ.blk_r ?_
     refine KQ.thr hQ468 ?_
     clear hQ468 Q468
     refine KQ.then_r ?_
     refine KQ.blk_r ?_
     refine KQ.thr hQ39 ?_
     clear hQ39 Q39
     refine KQ.rets Try.results38 (RVs.cons (RV.tm rfl) (RVs.cons (RV.tm rfl) RVs.nil)) ?_
     refine ⟨.tuple #[.map none, vB false], rfl, ?_⟩
     refine RD.p rfl rfl rfl rfl (fun w' => O.move rfl) ?_
     refine RD.p rfl rfl rfl rfl (fun w' => O.ext rfl rfl) ?_
     refine RD.p rfl rfl rfl rfl (fun w' => O.ext rfl rfl) ?_
     refine RD.p rfl rfl rfl rfl (fun w' => O.assign rfl) ?_
     refine RD.p rfl rfl rfl rfl (fun w' => O.assign rfl) ?_
     refine RD.nil ?_
     refine KQ.thn hQ30 ?_
     clear hQ30 Q30
     replace hM := hM.pick [0, 1, 2, 3, 4, 5, 6, 11] rfl (by decide)
     refine KC.seqH fun Q510 hQ510 => ?_
     refine sr fun Q511 hQ511 => ?_
     refine vm rfl rfl ?_
     refine RL.val (O.not rfl) rfl ?_
     refine nt hQ511 ?_
     clear hQ511 Q511
     refine KC.condT rfl ?_
     refine sr fun Q512 hQ512 => ?_
     refine va rfl rfl ?_
     refine nt hQ512 ?_
     clear hQ512 Q512
     refine KC.ret ?_
     refine KQ.thr hQ510 ?_
     clear hQ510 Q510
     have hE := Option.some.inj hF
     clear hF
     subst hE
     replace hM := hM.pick [6, 0, 1, 2, 3, 4, 5] rfl (by decide)
     refine KQ.rets Try.results22 (RVs.cons (RV.tm rfl) RVs.nil) ?_
     exact ⟨_, rfl, g4, g6, g8, A10, c11, css13, Z14, A16, c17, rfl, hM⟩
    rw [if_neg (ne_true hc)] at hF
    refine KC.skip ?_
    refine KQ.thn hQ490 ?_
    clear hQ490 Q490
    refine KC.region ?_
    refine vm rfl rfl ?_
    refine RL.val (O.fldA fl50_0 (by decide) rfl) rfl ?_
    refine RL.val (O.loadN (cs := [vB xv472.f_Key.f_Src.f_Six, o8 xv472.f_Key.f_Src.f_B 0, o8 xv472.f_Key.f_Src.f_B 1, o8 xv472.f_Key.f_Src.f_B 2, o8 xv472.f_Key.f_Src.f_B 3, o8 xv472.f_Key.f_Src.f_B 4, o8 xv472.f_Key.f_Src.f_B 5, o8 xv472.f_Key.f_Src.f_B 6, o8 xv472.f_Key.f_Src.f_B 7, o8 xv472.f_Key.f_Src.f_B 8, o8 xv472.f_Key.f_Src.f_B 9, o8 xv472.f_Key.f_Src.f_B 10, o8 xv472.f_Key.f_Src.f_B 11, o8 xv472.f_Key.f_Src.f_B 12, o8 xv472.f_Key.f_Src.f_B 13, o8 xv472.f_Key.f_Src.f_B 14, o8 xv472.f_Key.f_Src.f_B 15, vB xv472.f_Key.f_Dst.f_Six, o8 xv472.f_Key.f_Dst.f_B 0, o8 xv472.f_Key.f_Dst.f_B 1, o8 xv472.f_Key.f_Dst.f_B 2, o8 xv472.f_Key.f_Dst.f_B 3, o8 xv472.f_Key.f_Dst.f_B 4, o8 xv472.f_Key.f_Dst.f_B 5, o8 xv472.f_Key.f_Dst.f_B 6, o8 xv472.f_Key.f_Dst.f_B 7, o8 xv472.f_Key.f_Dst.f_B 8, o8 xv472.f_Key.f_Dst.f_B 9, o8 xv472.f_Key.f_Dst.f_B 10, o8 xv472.f_Key.f_Dst.f_B 11, o8 xv472.f_Key.f_Dst.f_B 12, o8 xv472.f_Key.f_Dst.f_B 13, o8 xv472.f_Key.f_Dst.f_B 14, o8 xv472.f_Key.f_Dst.f_B 15, v8 xv472.f_Key.f_Proto, v16 xv472.f_Key.f_SrcPort, v16 xv472.f_Key.f_DstPort]) ag34 rfl (Cs.addsN [0] ((hM.bx (i := 8) rfl)) rfl)) rfl ?_
    refine RL.val (O.fldA fl37_0 (by decide) rfl) rfl ?_
    refine RL.val (O.load sc35 rfl (Cs.adds [0] ((hM.bx (i := 9) rfl)) rfl)) rfl ?_
    refine RL.val (O.fldA fl37_0 (by decide) rfl) rfl ?_
    refine RL.val (O.load sc35 rfl (Cs.adds [0] ((hM.bx (i := 10) rfl)) rfl)) rfl ?_
    refine RL.val (O.sub rfl rfl) rfl ?_
    refine RL.val (O.fldA fl37_1 (by decide) rfl) rfl ?_
    refine RL.val (O.load sc35 rfl (Cs.adds [1] ((hM.bx (i := 9) rfl)) rfl)) rfl ?_
    refine RL.val (O.fldA fl37_1 (by decide) rfl) rfl ?_
    refine RL.val (O.load sc35 rfl (Cs.adds [1] ((hM.bx (i := 10) rfl)) rfl)) rfl ?_
    refine RL.val (O.sub rfl rfl) rfl ?_
    refine RL.val (O.bld (cs := [v64 (IntKind.u64.wrap (((m460 xv472.f_Key).getD (T_flow_Total.mk 0 0)).f_Packets - y478.f_Packets)), v64 (IntKind.u64.wrap (((m460 xv472.f_Key).getD (T_flow_Total.mk 0 0)).f_Bytes - y478.f_Bytes))]) bt37 rfl (by kernel_rfl)) rfl ?_
    refine RL.effs (E.mup (k := xv472.f_Key) (u := (T_flow_Total.mk (IntKind.u64.wrap (((m460 xv472.f_Key).getD (T_flow_Total.mk 0 0)).f_Packets - y478.f_Packets)) (IntKind.u64.wrap (((m460 xv472.f_Key).getD (T_flow_Total.mk 0 0)).f_Bytes - y478.f_Bytes)))) (ks := [vB xv472.f_Key.f_Src.f_Six, o8 xv472.f_Key.f_Src.f_B 0, o8 xv472.f_Key.f_Src.f_B 1, o8 xv472.f_Key.f_Src.f_B 2, o8 xv472.f_Key.f_Src.f_B 3, o8 xv472.f_Key.f_Src.f_B 4, o8 xv472.f_Key.f_Src.f_B 5, o8 xv472.f_Key.f_Src.f_B 6, o8 xv472.f_Key.f_Src.f_B 7, o8 xv472.f_Key.f_Src.f_B 8, o8 xv472.f_Key.f_Src.f_B 9, o8 xv472.f_Key.f_Src.f_B 10, o8 xv472.f_Key.f_Src.f_B 11, o8 xv472.f_Key.f_Src.f_B 12, o8 xv472.f_Key.f_Src.f_B 13, o8 xv472.f_Key.f_Src.f_B 14, o8 xv472.f_Key.f_Src.f_B 15, vB xv472.f_Key.f_Dst.f_Six, o8 xv472.f_Key.f_Dst.f_B 0, o8 xv472.f_Key.f_Dst.f_B 1, o8 xv472.f_Key.f_Dst.f_B 2, o8 xv472.f_Key.f_Dst.f_B 3, o8 xv472.f_Key.f_Dst.f_B 4, o8 xv472.f_Key.f_Dst.f_B 5, o8 xv472.f_Key.f_Dst.f_B 6, o8 xv472.f_Key.f_Dst.f_B 7, o8 xv472.f_Key.f_Dst.f_B 8, o8 xv472.f_Key.f_Dst.f_B 9, o8 xv472.f_Key.f_Dst.f_B 10, o8 xv472.f_Key.f_Dst.f_B 11, o8 xv472.f_Key.f_Dst.f_B 12, o8 xv472.f_Key.f_Dst.f_B 13, o8 xv472.f_Key.f_Dst.f_B 14, o8 xv472.f_Key.f_Dst.f_B 15, v8 xv472.f_Key.f_Proto, v16 xv472.f_Key.f_SrcPort, v16 xv472.f_Key.f_DstPort]) (us := [v64 (IntKind.u64.wrap (((m460 xv472.f_Key).getD (T_flow_Total.mk 0 0)).f_Packets - y478.f_Packets)), v64 (IntKind.u64.wrap (((m460 xv472.f_Key).getD (T_flow_Total.mk 0 0)).f_Bytes - y478.f_Bytes))]) mt62 hM (j := 7) rfl rfl rfl rfl rfl rfl) fun w513 hM1 => ?_
    clear hM
    have hM := hM1
    clear hM1
    refine RL.nil ?_
    refine KQ.blk_n ?_
    refine KQ.thn hQ468 ?_
    clear hQ468 Q468
    replace hM := hM.pick [0, 1, 2, 3, 4, 5, 6, 7, 11] rfl (by decide)
    refine KC.region ?_
    refine RL.val (O.add rfl rfl) rfl ?_
    refine vm rfl rfl ?_
    refine RL.nil ?_
    refine KQ.then_k ?_
    exact fun a ha => ⟨k465, Nat.lt_succ_self k465, (mput q_packet_Key m460 xv472.f_Key (T_flow_Total.mk (IntKind.u64.wrap (((m460 xv472.f_Key).getD (T_flow_Total.mk 0 0)).f_Packets - y478.f_Packets)) (IntKind.u64.wrap (((m460 xv472.f_Key).getD (T_flow_Total.mk 0 0)).f_Bytes - y478.f_Bytes)))), (IntKind.i64.wrap (t461 + 1)), ha.less (less_cons rfl (less_cons rfl (less_cons rfl (less_cons rfl (less_cons rfl less_nil))))), hM, hF⟩
   refine RD.meff rfl rfl (E.alloc hM ze37) rfl fun v w515 hv => ?_
   clear hM
   obtain ⟨g514, rfl, hM, hf⟩ := hv
   refine ⟨fun _ => hf, ?_⟩
   refine RD.meff rfl rfl (E.alloc hM ze37) rfl fun v w518 hv => ?_
   clear hM
   obtain ⟨g517, rfl, hM, hf⟩ := hv
   refine ⟨fun _ => hf, ?_⟩
   refine RD.meffs rfl rfl rfl (E.stB (j := 11) (off := 0) (vs := [v64 (((m460 xv472.f_Key).getD (T_flow_Total.mk 0 0)).f_Packets), v64 (((m460 xv472.f_Key).getD (T_flow_Total.mk 0 0)).f_Bytes)]) (cs' := [v64 (((m460 xv472.f_Key).getD (T_flow_Total.mk 0 0)).f_Packets), v64 (((m460 xv472.f_Key).getD (T_flow_Total.mk 0 0)).f_Bytes)]) hM rfl sz37 rfl (adds_eq [] rfl) rfl rfl (One.all rfl) rfl rfl) fun w520 hM1 => ?_
   clear hM
   have hM := hM1
   clear hM1
   refine RD.meffs rfl rfl rfl (E.stB (j := 10) (off := 0) (vs := [v64 y478.f_Packets, v64 y478.f_Bytes]) (cs' := [v64 y478.f_Packets, v64 y478.f_Bytes]) hM rfl sz37 rfl (adds_eq [] rfl) rfl rfl (One.all rfl) rfl rfl) fun w521 hM1 => ?_
   clear hM
   have hM := hM1
   clear hM1
   refine RD.nil ?_
   refine KQ.thn hQ477 ?_
   clear hQ477 Q477
   refine KC.seqH fun Q522 hQ522 => ?_
   refine KC.cut (fun a w540 => ∃ (t538 : Bool), Kn 60 [(0, .map (some g37)), (1, .slice A21 (nv20.f_Records).length c22), (7, .pointer (some ⟨g473, 0, none⟩)), (8, .pointer (some ⟨g517, 0, none⟩)), (9, .pointer (some ⟨g514, 0, none⟩)), (12, .slice A21 (nv20.f_Records).length c22), (13, vI (nv20.f_Records.length : Int)), (14, vI t461), (40, vB t538)] a ∧ Mem w ([some g2] ++ ([some g4] ++ ([some g6] ++ ([some g8] ++ ([rblk A10 c11] ++ (Z14.map some ++ ([rblk A16 c17] ++ ([])))))))) w540 [.res [g4] (MR62 g4 m1.f_forwarded), .res [g6] (MR62 g6 m1.f_cached), .res [g8] (MR62 g8 m1.f_lost), .row A10 c11 47 6 (m1.f_entries).length (css13).flatten, .res Z14 (Els RO_model_Entry 6 m1.f_entries css13 Z14), .row A16 c17 3 1 (m1.f_line).length ((m1.f_line).flatMap (eI .i64)), .box g2 tg19 [.map (some g4), .map (some g6), .map (some g8), .slice A10 (m1.f_entries).length c11, .slice A16 (m1.f_line).length c17, v64 m1.f_first, v32 m1.f_boot], .res [g37] (MR62 g37 m460), .box g473 50 [vB xv472.f_Key.f_Src.f_Six, o8 xv472.f_Key.f_Src.f_B 0, o8 xv472.f_Key.f_Src.f_B 1, o8 xv472.f_Key.f_Src.f_B 2, o8 xv472.f_Key.f_Src.f_B 3, o8 xv472.f_Key.f_Src.f_B 4, o8 xv472.f_Key.f_Src.f_B 5, o8 xv472.f_Key.f_Src.f_B 6, o8 xv472.f_Key.f_Src.f_B 7, o8 xv472.f_Key.f_Src.f_B 8, o8 xv472.f_Key.f_Src.f_B 9, o8 xv472.f_Key.f_Src.f_B 10, o8 xv472.f_Key.f_Src.f_B 11, o8 xv472.f_Key.f_Src.f_B 12, o8 xv472.f_Key.f_Src.f_B 13, o8 xv472.f_Key.f_Src.f_B 14, o8 xv472.f_Key.f_Src.f_B 15, vB xv472.f_Key.f_Dst.f_Six, o8 xv472.f_Key.f_Dst.f_B 0, o8 xv472.f_Key.f_Dst.f_B 1, o8 xv472.f_Key.f_Dst.f_B 2, o8 xv472.f_Key.f_Dst.f_B 3, o8 xv472.f_Key.f_Dst.f_B 4, o8 xv472.f_Key.f_Dst.f_B 5, o8 xv472.f_Key.f_Dst.f_B 6, o8 xv472.f_Key.f_Dst.f_B 7, o8 xv472.f_Key.f_Dst.f_B 8, o8 xv472.f_Key.f_Dst.f_B 9, o8 xv472.f_Key.f_Dst.f_B 10, o8 xv472.f_Key.f_Dst.f_B 11, o8 xv472.f_Key.f_Dst.f_B 12, o8 xv472.f_Key.f_Dst.f_B 13, o8 xv472.f_Key.f_Dst.f_B 14, o8 xv472.f_Key.f_Dst.f_B 15, v8 xv472.f_Key.f_Proto, v16 xv472.f_Key.f_SrcPort, v16 xv472.f_Key.f_DstPort, v64 xv472.f_Packets, v64 xv472.f_Bytes, v64 xv472.f_First, v64 xv472.f_Last, v8 xv472.f_Flags, v8 xv472.f_Reason, v8 xv472.f_Class], .box g517 37 [v64 (((m460 xv472.f_Key).getD (T_flow_Total.mk 0 0)).f_Packets), v64 (((m460 xv472.f_Key).getD (T_flow_Total.mk 0 0)).f_Bytes)], .box g514 37 [v64 y478.f_Packets, v64 y478.f_Bytes], .box g27 41 [vI nv20.f_Kind, vB nv20.f_Key.f_Src.f_Six, o8 nv20.f_Key.f_Src.f_B 0, o8 nv20.f_Key.f_Src.f_B 1, o8 nv20.f_Key.f_Src.f_B 2, o8 nv20.f_Key.f_Src.f_B 3, o8 nv20.f_Key.f_Src.f_B 4, o8 nv20.f_Key.f_Src.f_B 5, o8 nv20.f_Key.f_Src.f_B 6, o8 nv20.f_Key.f_Src.f_B 7, o8 nv20.f_Key.f_Src.f_B 8, o8 nv20.f_Key.f_Src.f_B 9, o8 nv20.f_Key.f_Src.f_B 10, o8 nv20.f_Key.f_Src.f_B 11, o8 nv20.f_Key.f_Src.f_B 12, o8 nv20.f_Key.f_Src.f_B 13, o8 nv20.f_Key.f_Src.f_B 14, o8 nv20.f_Key.f_Src.f_B 15, vB nv20.f_Key.f_Dst.f_Six, o8 nv20.f_Key.f_Dst.f_B 0, o8 nv20.f_Key.f_Dst.f_B 1, o8 nv20.f_Key.f_Dst.f_B 2, o8 nv20.f_Key.f_Dst.f_B 3, o8 nv20.f_Key.f_Dst.f_B 4, o8 nv20.f_Key.f_Dst.f_B 5, o8 nv20.f_Key.f_Dst.f_B 6, o8 nv20.f_Key.f_Dst.f_B 7, o8 nv20.f_Key.f_Dst.f_B 8, o8 nv20.f_Key.f_Dst.f_B 9, o8 nv20.f_Key.f_Dst.f_B 10, o8 nv20.f_Key.f_Dst.f_B 11, o8 nv20.f_Key.f_Dst.f_B 12, o8 nv20.f_Key.f_Dst.f_B 13, o8 nv20.f_Key.f_Dst.f_B 14, o8 nv20.f_Key.f_Dst.f_B 15, v8 nv20.f_Key.f_Proto, v16 nv20.f_Key.f_SrcPort, v16 nv20.f_Key.f_DstPort, v64 nv20.f_Total.f_Packets, v64 nv20.f_Total.f_Bytes, .slice A21 (nv20.f_Records).length c22, v32 nv20.f_Epoch, v64 nv20.f_N, v64 nv20.f_First, v64 nv20.f_Next]] ∧ F_model_Model_refuse_j1 m1 m460 t461 (F_model_Model_refuse_L1 m1 nv20 k465) xv472 y478 t538 = some r) ?_ ?_
   ·refine KC.region ?_
    refine RL.val (O.loadN (cs := [vB xv472.f_Key.f_Src.f_Six, o8 xv472.f_Key.f_Src.f_B 0, o8 xv472.f_Key.f_Src.f_B 1, o8 xv472.f_Key.f_Src.f_B 2, o8 xv472.f_Key.f_Src.f_B 3, o8 xv472.f_Key.f_Src.f_B 4, o8 xv472.f_Key.f_Src.f_B 5, o8 xv472.f_Key.f_Src.f_B 6, o8 xv472.f_Key.f_Src.f_B 7, o8 xv472.f_Key.f_Src.f_B 8, o8 xv472.f_Key.f_Src.f_B 9, o8 xv472.f_Key.f_Src.f_B 10, o8 xv472.f_Key.f_Src.f_B 11, o8 xv472.f_Key.f_Src.f_B 12, o8 xv472.f_Key.f_Src.f_B 13, o8 xv472.f_Key.f_Src.f_B 14, o8 xv472.f_Key.f_Src.f_B 15, vB xv472.f_Key.f_Dst.f_Six, o8 xv472.f_Key.f_Dst.f_B 0, o8 xv472.f_Key.f_Dst.f_B 1, o8 xv472.f_Key.f_Dst.f_B 2, o8 xv472.f_Key.f_Dst.f_B 3, o8 xv472.f_Key.f_Dst.f_B 4, o8 xv472.f_Key.f_Dst.f_B 5, o8 xv472.f_Key.f_Dst.f_B 6, o8 xv472.f_Key.f_Dst.f_B 7, o8 xv472.f_Key.f_Dst.f_B 8, o8 xv472.f_Key.f_Dst.f_B 9, o8 xv472.f_Key.f_Dst.f_B 10, o8 xv472.f_Key.f_Dst.f_B 11, o8 xv472.f_Key.f_Dst.f_B 12, o8 xv472.f_Key.f_Dst.f_B 13, o8 xv472.f_Key.f_Dst.f_B 14, o8 xv472.f_Key.f_Dst.f_B 15, v8 xv472.f_Key.f_Proto, v16 xv472.f_Key.f_SrcPort, v16 xv472.f_Key.f_DstPort, v64 xv472.f_Packets, v64 xv472.f_Bytes, v64 xv472.f_First, v64 xv472.f_Last, v8 xv472.f_Flags, v8 xv472.f_Reason, v8 xv472.f_Class]) ag50 rfl (Cs.addsN [] ((hM.bx (i := 9) rfl)) rfl)) rfl ?_
    refine obindE hF fun y523 hx524 hF => ?_
    refine RL.call Try.func57 bd57 rfl rfl (c_flow_Record_Right _ xv472 _ hx524) fun v w525 hv => ?_
    obtain ⟨rfl, hN526⟩ := hv
    replace hM := hM.call0 hN526
    refine RL.val (O.not rfl) rfl ?_
    refine vm rfl rfl ?_
    refine RL.bcase (t := 27) rfl (fun hc => ?_) (fun hc => ?_)
    ·rw [if_pos hc] at hF
     refine RL.gskip rfl rfl rfl rfl ?_
     refine RL.gskip rfl rfl rfl rfl ?_
     refine RL.gskip rfl rfl rfl rfl ?_
     refine RL.gskip rfl rfl rfl rfl ?_
     refine RL.gskip rfl rfl rfl rfl ?_
     refine RL.val (O.pickt rfl rfl) rfl ?_
     refine vm rfl rfl ?_
     refine RL.gskip rfl rfl rfl rfl ?_
     refine RL.gskip rfl rfl rfl rfl ?_
     refine RL.gskip rfl rfl rfl rfl ?_
     refine RL.gskip rfl rfl rfl rfl ?_
     refine RL.gskip rfl rfl rfl rfl ?_
     refine RL.val (O.pickt rfl rfl) rfl ?_
     refine RL.nil ?_
     refine KQ.then_k ?_
     replace hM := hM.pick [0, 1, 2, 3, 4, 5, 6, 7, 9, 11, 10, 8] rfl (by decide)
     exact fun a ha => ⟨true, ha.less (less_cons rfl (less_cons rfl (less_cons rfl (less_cons rfl (less_cons rfl (less_cons rfl (less_cons rfl (less_cons rfl (less_cons rfl less_nil))))))))), hM, hF⟩
    rw [if_neg (ne_true hc)] at hF
    refine RL.gval rfl rfl (O.fldA fl37_0 (by decide) rfl) rfl ?_
    refine RL.gval rfl rfl (O.load sc35 rfl (Cs.adds [0] ((hM.bx (i := 10) rfl)) rfl)) rfl ?_
    refine RL.gval rfl rfl (O.fldA fl37_0 (by decide) rfl) rfl ?_
    refine RL.gval rfl rfl (O.load sc35 rfl (Cs.adds [0] ((hM.bx (i := 11) rfl)) rfl)) rfl ?_
    refine RL.gval rfl rfl (O.gtr rfl rfl) rfl ?_
    refine RL.val (O.pickf rfl rfl) rfl ?_
    refine vm rfl rfl ?_
    refine RL.bcase (t := 34) rfl (fun hc => ?_) (fun hc => ?_)
    ·rw [if_pos hc] at hF
     refine RL.gskip rfl rfl rfl rfl ?_
     refine RL.gskip rfl rfl rfl rfl ?_
     refine RL.gskip rfl rfl rfl rfl ?_
     refine RL.gskip rfl rfl rfl rfl ?_
     refine RL.gskip rfl rfl rfl rfl ?_
     refine RL.val (O.pickt rfl rfl) rfl ?_
     refine RL.nil ?_
     refine KQ.then_k ?_
     replace hM := hM.pick [0, 1, 2, 3, 4, 5, 6, 7, 9, 11, 10, 8] rfl (by decide)
     exact fun a ha => ⟨true, ha.less (less_cons rfl (less_cons rfl (less_cons rfl (less_cons rfl (less_cons rfl (less_cons rfl (less_cons rfl (less_cons rfl (less_cons rfl less_nil))))))))), hM, hF⟩
    rw [if_neg (ne_true hc)] at hF
    refine RL.gval rfl rfl (O.fldA fl37_1 (by decide) rfl) rfl ?_
    refine RL.gval rfl rfl (O.load sc35 rfl (Cs.adds [1] ((hM.bx (i := 10) rfl)) rfl)) rfl ?_
    refine RL.gval rfl rfl (O.fldA fl37_1 (by decide) rfl) rfl ?_
    refine RL.gval rfl rfl (O.load sc35 rfl (Cs.adds [1] ((hM.bx (i := 11) rfl)) rfl)) rfl ?_
    refine RL.gval rfl rfl (O.gtr rfl rfl) rfl ?_
    refine RL.val (O.pickf rfl rfl) rfl ?_
    refine RL.nil ?_
    refine KQ.then_k ?_
    replace hM := hM.pick [0, 1, 2, 3, 4, 5, 6, 7, 9, 11, 10, 8] rfl (by decide)
    exact fun a ha => ⟨(decide (((m460 xv472.f_Key).getD (T_flow_Total.mk 0 0)).f_Bytes < y478.f_Bytes)), ha.less (less_cons rfl (less_cons rfl (less_cons rfl (less_cons rfl (less_cons rfl (less_cons rfl (less_cons rfl (less_cons rfl (less_cons rfl less_nil))))))))), hM, hF⟩
   rintro a w540 ⟨t538, ha, hM, hF⟩
   refine KC.app ha ?_
   clear ha
   unfold F_model_Model_refuse_j1 at hF
   refine KC.cond rfl (fun hc => ?_) (fun hc => ?_)
   ·rw [if_pos hc] at hF
    refine sr fun Q541 hQ541 => ?_
    refine va rfl rfl ?_
    refine va rfl rfl ?_
    refine nt hQ541 ?_
    clear hQ541 Q541
    refine KC.ret ?_
    refine KQ.thr hQ522 ?_
    clear hQ522 Q522
    refine KQ.blk_r ?_
    refine KQ.thr hQ468 ?_
    clear hQ468 Q468
    refine KQ.then_r ?_
    refine KQ.blk_r ?_
    refine KQ.thr hQ39 ?_
    clear hQ39 Q39
    refine KQ.rets Try.results38 (RVs.cons (RV.tm rfl) (RVs.cons (RV.tm rfl) RVs.nil)) ?_
    refine ⟨.tuple #[.map none, vB false], rfl, ?_⟩
    refine RD.p rfl rfl rfl rfl (fun w' => O.move rfl) ?_
    refine RD.p rfl rfl rfl rfl (fun w' => O.ext rfl rfl) ?_
    refine RD.p rfl rfl rfl rfl (fun w' => O.ext rfl rfl) ?_
    refine RD.p rfl rfl rfl rfl (fun w' => O.assign rfl) ?_
    refine RD.p rfl rfl rfl rfl (fun w' => O.assign rfl) ?_
    refine RD.nil ?_
    refine KQ.thn hQ30 ?_
    clear hQ30 Q30
    replace hM := hM.pick [0, 1, 2, 3, 4, 5, 6, 11] rfl (by decide)
    refine KC.seqH fun Q542 hQ542 => ?_
    refine sr fun Q543 hQ543 => ?_
    refine vm rfl rfl ?_
    refine RL.val (O.not rfl) rfl ?_
    refine nt hQ543 ?_
    clear hQ543 Q543
    refine KC.condT rfl ?_
    refine sr fun Q544 hQ544 => ?_
    refine va rfl rfl ?_
    refine nt hQ544 ?_
    clear hQ544 Q544
    refine KC.ret ?_
    refine KQ.thr hQ542 ?_
    clear hQ542 Q542
    have hE := Option.some.inj hF
    clear hF
    subst hE
    replace hM := hM.pick [6, 0, 1, 2, 3, 4, 5] rfl (by decide)
    refine KQ.rets Try.results22 (RVs.cons (RV.tm rfl) RVs.nil) ?_
    exact ⟨_, rfl, g4, g6, g8, A10, c11, css13, Z14, A16, c17, rfl, hM⟩
   rw [if_neg (ne_true hc)] at hF
   refine KC.skip ?_
   refine KQ.thn hQ522 ?_
   clear hQ522 Q522
   refine KC.region ?_
   refine vm rfl rfl ?_
   refine RL.val (O.fldA fl50_0 (by decide) rfl) rfl ?_
   refine RL.val (O.loadN (cs := [vB xv472.f_Key.f_Src.f_Six, o8 xv472.f_Key.f_Src.f_B 0, o8 xv472.f_Key.f_Src.f_B 1, o8 xv472.f_Key.f_Src.f_B 2, o8 xv472.f_Key.f_Src.f_B 3, o8 xv472.f_Key.f_Src.f_B 4, o8 xv472.f_Key.f_Src.f_B 5, o8 xv472.f_Key.f_Src.f_B 6, o8 xv472.f_Key.f_Src.f_B 7, o8 xv472.f_Key.f_Src.f_B 8, o8 xv472.f_Key.f_Src.f_B 9, o8 xv472.f_Key.f_Src.f_B 10, o8 xv472.f_Key.f_Src.f_B 11, o8 xv472.f_Key.f_Src.f_B 12, o8 xv472.f_Key.f_Src.f_B 13, o8 xv472.f_Key.f_Src.f_B 14, o8 xv472.f_Key.f_Src.f_B 15, vB xv472.f_Key.f_Dst.f_Six, o8 xv472.f_Key.f_Dst.f_B 0, o8 xv472.f_Key.f_Dst.f_B 1, o8 xv472.f_Key.f_Dst.f_B 2, o8 xv472.f_Key.f_Dst.f_B 3, o8 xv472.f_Key.f_Dst.f_B 4, o8 xv472.f_Key.f_Dst.f_B 5, o8 xv472.f_Key.f_Dst.f_B 6, o8 xv472.f_Key.f_Dst.f_B 7, o8 xv472.f_Key.f_Dst.f_B 8, o8 xv472.f_Key.f_Dst.f_B 9, o8 xv472.f_Key.f_Dst.f_B 10, o8 xv472.f_Key.f_Dst.f_B 11, o8 xv472.f_Key.f_Dst.f_B 12, o8 xv472.f_Key.f_Dst.f_B 13, o8 xv472.f_Key.f_Dst.f_B 14, o8 xv472.f_Key.f_Dst.f_B 15, v8 xv472.f_Key.f_Proto, v16 xv472.f_Key.f_SrcPort, v16 xv472.f_Key.f_DstPort]) ag34 rfl (Cs.addsN [0] ((hM.bx (i := 8) rfl)) rfl)) rfl ?_
   refine RL.val (O.fldA fl37_0 (by decide) rfl) rfl ?_
   refine RL.val (O.load sc35 rfl (Cs.adds [0] ((hM.bx (i := 9) rfl)) rfl)) rfl ?_
   refine RL.val (O.fldA fl37_0 (by decide) rfl) rfl ?_
   refine RL.val (O.load sc35 rfl (Cs.adds [0] ((hM.bx (i := 10) rfl)) rfl)) rfl ?_
   refine RL.val (O.sub rfl rfl) rfl ?_
   refine RL.val (O.fldA fl37_1 (by decide) rfl) rfl ?_
   refine RL.val (O.load sc35 rfl (Cs.adds [1] ((hM.bx (i := 9) rfl)) rfl)) rfl ?_
   refine RL.val (O.fldA fl37_1 (by decide) rfl) rfl ?_
   refine RL.val (O.load sc35 rfl (Cs.adds [1] ((hM.bx (i := 10) rfl)) rfl)) rfl ?_
   refine RL.val (O.sub rfl rfl) rfl ?_
   refine RL.val (O.bld (cs := [v64 (IntKind.u64.wrap (((m460 xv472.f_Key).getD (T_flow_Total.mk 0 0)).f_Packets - y478.f_Packets)), v64 (IntKind.u64.wrap (((m460 xv472.f_Key).getD (T_flow_Total.mk 0 0)).f_Bytes - y478.f_Bytes))]) bt37 rfl (by kernel_rfl)) rfl ?_
   refine RL.effs (E.mup (k := xv472.f_Key) (u := (T_flow_Total.mk (IntKind.u64.wrap (((m460 xv472.f_Key).getD (T_flow_Total.mk 0 0)).f_Packets - y478.f_Packets)) (IntKind.u64.wrap (((m460 xv472.f_Key).getD (T_flow_Total.mk 0 0)).f_Bytes - y478.f_Bytes)))) (ks := [vB xv472.f_Key.f_Src.f_Six, o8 xv472.f_Key.f_Src.f_B 0, o8 xv472.f_Key.f_Src.f_B 1, o8 xv472.f_Key.f_Src.f_B 2, o8 xv472.f_Key.f_Src.f_B 3, o8 xv472.f_Key.f_Src.f_B 4, o8 xv472.f_Key.f_Src.f_B 5, o8 xv472.f_Key.f_Src.f_B 6, o8 xv472.f_Key.f_Src.f_B 7, o8 xv472.f_Key.f_Src.f_B 8, o8 xv472.f_Key.f_Src.f_B 9, o8 xv472.f_Key.f_Src.f_B 10, o8 xv472.f_Key.f_Src.f_B 11, o8 xv472.f_Key.f_Src.f_B 12, o8 xv472.f_Key.f_Src.f_B 13, o8 xv472.f_Key.f_Src.f_B 14, o8 xv472.f_Key.f_Src.f_B 15, vB xv472.f_Key.f_Dst.f_Six, o8 xv472.f_Key.f_Dst.f_B 0, o8 xv472.f_Key.f_Dst.f_B 1, o8 xv472.f_Key.f_Dst.f_B 2, o8 xv472.f_Key.f_Dst.f_B 3, o8 xv472.f_Key.f_Dst.f_B 4, o8 xv472.f_Key.f_Dst.f_B 5, o8 xv472.f_Key.f_Dst.f_B 6, o8 xv472.f_Key.f_Dst.f_B 7, o8 xv472.f_Key.f_Dst.f_B 8, o8 xv472.f_Key.f_Dst.f_B 9, o8 xv472.f_Key.f_Dst.f_B 10, o8 xv472.f_Key.f_Dst.f_B 11, o8 xv472.f_Key.f_Dst.f_B 12, o8 xv472.f_Key.f_Dst.f_B 13, o8 xv472.f_Key.f_Dst.f_B 14, o8 xv472.f_Key.f_Dst.f_B 15, v8 xv472.f_Key.f_Proto, v16 xv472.f_Key.f_SrcPort, v16 xv472.f_Key.f_DstPort]) (us := [v64 (IntKind.u64.wrap (((m460 xv472.f_Key).getD (T_flow_Total.mk 0 0)).f_Packets - y478.f_Packets)), v64 (IntKind.u64.wrap (((m460 xv472.f_Key).getD (T_flow_Total.mk 0 0)).f_Bytes - y478.f_Bytes))]) mt62 hM (j := 7) rfl rfl rfl rfl rfl rfl) fun w545 hM1 => ?_
   clear hM
   have hM := hM1
   clear hM1
   refine RL.nil ?_
   refine KQ.blk_n ?_
   refine KQ.thn hQ468 ?_
   clear hQ468 Q468
   replace hM := hM.pick [0, 1, 2, 3, 4, 5, 6, 7, 11] rfl (by decide)
   refine KC.region ?_
   refine RL.val (O.add rfl rfl) rfl ?_
   refine vm rfl rfl ?_
   refine RL.nil ?_
   refine KQ.then_k ?_
   exact fun a ha => ⟨k465, Nat.lt_succ_self k465, (mput q_packet_Key m460 xv472.f_Key (T_flow_Total.mk (IntKind.u64.wrap (((m460 xv472.f_Key).getD (T_flow_Total.mk 0 0)).f_Packets - y478.f_Packets)) (IntKind.u64.wrap (((m460 xv472.f_Key).getD (T_flow_Total.mk 0 0)).f_Bytes - y478.f_Bytes)))), (IntKind.i64.wrap (t461 + 1)), ha.less (less_cons rfl (less_cons rfl (less_cons rfl (less_cons rfl (less_cons rfl less_nil))))), hM, hF⟩
  ·refine RD.meff rfl rfl (E.alloc hM ze37) rfl fun v w547 hv => ?_
   clear hM
   obtain ⟨g546, rfl, hM, hf⟩ := hv
   refine ⟨fun _ => hf, ?_⟩
   refine RD.alt ?_ ?_
   ·refine obindE hF fun y549 hx550 hF => ?_
    refine RD.mcall rfl rfl trivial Try.func13 bd13 rfl rfl (c_flow_Record_Total _ xv472 _ hx550) fun v w551 hv => ?_
    obtain ⟨rfl, hN552⟩ := hv
    refine ⟨fun _ => hN552.fut, ?_⟩
    replace hM := hM.call0 hN552
    refine RD.meff rfl rfl (E.alloc hM ze37) rfl fun v w554 hv => ?_
    clear hM
    obtain ⟨g553, rfl, hM, hf⟩ := hv
    refine ⟨fun _ => hf, ?_⟩
    refine RD.meffs rfl rfl rfl (E.stB (j := 10) (off := 0) (vs := [v64 (((m460 xv472.f_Key).getD (T_flow_Total.mk 0 0)).f_Packets), v64 (((m460 xv472.f_Key).getD (T_flow_Total.mk 0 0)).f_Bytes)]) (cs' := [v64 (((m460 xv472.f_Key).getD (T_flow_Total.mk 0 0)).f_Packets), v64 (((m460 xv472.f_Key).getD (T_flow_Total.mk 0 0)).f_Bytes)]) hM rfl sz37 rfl (adds_eq [] rfl) rfl rfl (One.all rfl) rfl rfl) fun w556 hM1 => ?_
    clear hM
    have hM := hM1
    clear hM1
    refine RD.meffs rfl rfl rfl (E.stB (j := 11) (off := 0) (vs := [v64 y549.f_Packets, v64 y549.f_Bytes]) (cs' := [v64 y549.f_Packets, v64 y549.f_Bytes]) hM rfl sz37 rfl (adds_eq [] rfl) rfl rfl (One.all rfl) rfl rfl) fun w557 hM1 => ?_
    clear hM
    have hM := hM1
    clear hM1
    refine RD.nil ?_
    refine KQ.thn hQ477 ?_
    clear hQ477 Q477
    refine KC.seqH fun Q558 hQ558 => ?_
    refine KC.cut (fun a w576 => ∃ (t574 : Bool), Kn 60 [(0, .map (some g37)), (1, .slice A21 (nv20.f_Records).length c22), (7, .pointer (some ⟨g473, 0, none⟩)), (8, .pointer (some ⟨g546, 0, none⟩)), (9, .pointer (some ⟨g553, 0, none⟩)), (12, .slice A21 (nv20.f_Records).length c22), (13, vI (nv20.f_Records.length : Int)), (14, vI t461), (40, vB t574)] a ∧ Mem w ([some g2] ++ ([some g4] ++ ([some g6] ++ ([some g8] ++ ([rblk A10 c11] ++ (Z14.map some ++ ([rblk A16 c17] ++ ([])))))))) w576 [.res [g4] (MR62 g4 m1.f_forwarded), .res [g6] (MR62 g6 m1.f_cached), .res [g8] (MR62 g8 m1.f_lost), .row A10 c11 47 6 (m1.f_entries).length (css13).flatten, .res Z14 (Els RO_model_Entry 6 m1.f_entries css13 Z14), .row A16 c17 3 1 (m1.f_line).length ((m1.f_line).flatMap (eI .i64)), .box g2 tg19 [.map (some g4), .map (some g6), .map (some g8), .slice A10 (m1.f_entries).length c11, .slice A16 (m1.f_line).length c17, v64 m1.f_first, v32 m1.f_boot], .res [g37] (MR62 g37 m460), .box g473 50 [vB xv472.f_Key.f_Src.f_Six, o8 xv472.f_Key.f_Src.f_B 0, o8 xv472.f_Key.f_Src.f_B 1, o8 xv472.f_Key.f_Src.f_B 2, o8 xv472.f_Key.f_Src.f_B 3, o8 xv472.f_Key.f_Src.f_B 4, o8 xv472.f_Key.f_Src.f_B 5, o8 xv472.f_Key.f_Src.f_B 6, o8 xv472.f_Key.f_Src.f_B 7, o8 xv472.f_Key.f_Src.f_B 8, o8 xv472.f_Key.f_Src.f_B 9, o8 xv472.f_Key.f_Src.f_B 10, o8 xv472.f_Key.f_Src.f_B 11, o8 xv472.f_Key.f_Src.f_B 12, o8 xv472.f_Key.f_Src.f_B 13, o8 xv472.f_Key.f_Src.f_B 14, o8 xv472.f_Key.f_Src.f_B 15, vB xv472.f_Key.f_Dst.f_Six, o8 xv472.f_Key.f_Dst.f_B 0, o8 xv472.f_Key.f_Dst.f_B 1, o8 xv472.f_Key.f_Dst.f_B 2, o8 xv472.f_Key.f_Dst.f_B 3, o8 xv472.f_Key.f_Dst.f_B 4, o8 xv472.f_Key.f_Dst.f_B 5, o8 xv472.f_Key.f_Dst.f_B 6, o8 xv472.f_Key.f_Dst.f_B 7, o8 xv472.f_Key.f_Dst.f_B 8, o8 xv472.f_Key.f_Dst.f_B 9, o8 xv472.f_Key.f_Dst.f_B 10, o8 xv472.f_Key.f_Dst.f_B 11, o8 xv472.f_Key.f_Dst.f_B 12, o8 xv472.f_Key.f_Dst.f_B 13, o8 xv472.f_Key.f_Dst.f_B 14, o8 xv472.f_Key.f_Dst.f_B 15, v8 xv472.f_Key.f_Proto, v16 xv472.f_Key.f_SrcPort, v16 xv472.f_Key.f_DstPort, v64 xv472.f_Packets, v64 xv472.f_Bytes, v64 xv472.f_First, v64 xv472.f_Last, v8 xv472.f_Flags, v8 xv472.f_Reason, v8 xv472.f_Class], .box g546 37 [v64 (((m460 xv472.f_Key).getD (T_flow_Total.mk 0 0)).f_Packets), v64 (((m460 xv472.f_Key).getD (T_flow_Total.mk 0 0)).f_Bytes)], .box g553 37 [v64 y549.f_Packets, v64 y549.f_Bytes], .box g27 41 [vI nv20.f_Kind, vB nv20.f_Key.f_Src.f_Six, o8 nv20.f_Key.f_Src.f_B 0, o8 nv20.f_Key.f_Src.f_B 1, o8 nv20.f_Key.f_Src.f_B 2, o8 nv20.f_Key.f_Src.f_B 3, o8 nv20.f_Key.f_Src.f_B 4, o8 nv20.f_Key.f_Src.f_B 5, o8 nv20.f_Key.f_Src.f_B 6, o8 nv20.f_Key.f_Src.f_B 7, o8 nv20.f_Key.f_Src.f_B 8, o8 nv20.f_Key.f_Src.f_B 9, o8 nv20.f_Key.f_Src.f_B 10, o8 nv20.f_Key.f_Src.f_B 11, o8 nv20.f_Key.f_Src.f_B 12, o8 nv20.f_Key.f_Src.f_B 13, o8 nv20.f_Key.f_Src.f_B 14, o8 nv20.f_Key.f_Src.f_B 15, vB nv20.f_Key.f_Dst.f_Six, o8 nv20.f_Key.f_Dst.f_B 0, o8 nv20.f_Key.f_Dst.f_B 1, o8 nv20.f_Key.f_Dst.f_B 2, o8 nv20.f_Key.f_Dst.f_B 3, o8 nv20.f_Key.f_Dst.f_B 4, o8 nv20.f_Key.f_Dst.f_B 5, o8 nv20.f_Key.f_Dst.f_B 6, o8 nv20.f_Key.f_Dst.f_B 7, o8 nv20.f_Key.f_Dst.f_B 8, o8 nv20.f_Key.f_Dst.f_B 9, o8 nv20.f_Key.f_Dst.f_B 10, o8 nv20.f_Key.f_Dst.f_B 11, o8 nv20.f_Key.f_Dst.f_B 12, o8 nv20.f_Key.f_Dst.f_B 13, o8 nv20.f_Key.f_Dst.f_B 14, o8 nv20.f_Key.f_Dst.f_B 15, v8 nv20.f_Key.f_Proto, v16 nv20.f_Key.f_SrcPort, v16 nv20.f_Key.f_DstPort, v64 nv20.f_Total.f_Packets, v64 nv20.f_Total.f_Bytes, .slice A21 (nv20.f_Records).length c22, v32 nv20.f_Epoch, v64 nv20.f_N, v64 nv20.f_First, v64 nv20.f_Next]] ∧ F_model_Model_refuse_j1 m1 m460 t461 (F_model_Model_refuse_L1 m1 nv20 k465) xv472 y549 t574 = some r) ?_ ?_
    ·refine KC.region ?_
     refine RL.val (O.loadN (cs := [vB xv472.f_Key.f_Src.f_Six, o8 xv472.f_Key.f_Src.f_B 0, o8 xv472.f_Key.f_Src.f_B 1, o8 xv472.f_Key.f_Src.f_B 2, o8 xv472.f_Key.f_Src.f_B 3, o8 xv472.f_Key.f_Src.f_B 4, o8 xv472.f_Key.f_Src.f_B 5, o8 xv472.f_Key.f_Src.f_B 6, o8 xv472.f_Key.f_Src.f_B 7, o8 xv472.f_Key.f_Src.f_B 8, o8 xv472.f_Key.f_Src.f_B 9, o8 xv472.f_Key.f_Src.f_B 10, o8 xv472.f_Key.f_Src.f_B 11, o8 xv472.f_Key.f_Src.f_B 12, o8 xv472.f_Key.f_Src.f_B 13, o8 xv472.f_Key.f_Src.f_B 14, o8 xv472.f_Key.f_Src.f_B 15, vB xv472.f_Key.f_Dst.f_Six, o8 xv472.f_Key.f_Dst.f_B 0, o8 xv472.f_Key.f_Dst.f_B 1, o8 xv472.f_Key.f_Dst.f_B 2, o8 xv472.f_Key.f_Dst.f_B 3, o8 xv472.f_Key.f_Dst.f_B 4, o8 xv472.f_Key.f_Dst.f_B 5, o8 xv472.f_Key.f_Dst.f_B 6, o8 xv472.f_Key.f_Dst.f_B 7, o8 xv472.f_Key.f_Dst.f_B 8, o8 xv472.f_Key.f_Dst.f_B 9, o8 xv472.f_Key.f_Dst.f_B 10, o8 xv472.f_Key.f_Dst.f_B 11, o8 xv472.f_Key.f_Dst.f_B 12, o8 xv472.f_Key.f_Dst.f_B 13, o8 xv472.f_Key.f_Dst.f_B 14, o8 xv472.f_Key.f_Dst.f_B 15, v8 xv472.f_Key.f_Proto, v16 xv472.f_Key.f_SrcPort, v16 xv472.f_Key.f_DstPort, v64 xv472.f_Packets, v64 xv472.f_Bytes, v64 xv472.f_First, v64 xv472.f_Last, v8 xv472.f_Flags, v8 xv472.f_Reason, v8 xv472.f_Class]) ag50 rfl (Cs.addsN [] ((hM.bx (i := 9) rfl)) rfl)) rfl ?_
     refine obindE hF fun y559 hx560 hF => ?_
     refine RL.call Try.func57 bd57 rfl rfl (c_flow_Record_Right _ xv472 _ hx560) fun v w561 hv => ?_
     obtain ⟨rfl, hN562⟩ := hv
     replace hM := hM.call0 hN562
     refine RL.val (O.not rfl) rfl ?_
     refine vm rfl rfl ?_
     refine RL.bcase (t := 27) rfl (fun hc => ?_) (fun hc => ?_)
     ·rw [if_pos hc] at hF
      refine RL.gskip rfl rfl rfl rfl ?_
      refine RL.gskip rfl rfl rfl rfl ?_
      refine RL.gskip rfl rfl rfl rfl ?_
      refine RL.gskip rfl rfl rfl rfl ?_
      refine RL.gskip rfl rfl rfl rfl ?_
      refine RL.val (O.pickt rfl rfl) rfl ?_
      refine vm rfl rfl ?_
      refine RL.gskip rfl rfl rfl rfl ?_
      refine RL.gskip rfl rfl rfl rfl ?_
      refine RL.gskip rfl rfl rfl rfl ?_
      refine RL.gskip rfl rfl rfl rfl ?_
      refine RL.gskip rfl rfl rfl rfl ?_
      refine RL.val (O.pickt rfl rfl) rfl ?_
      refine RL.nil ?_
      refine KQ.then_k ?_
      replace hM := hM.pick [0, 1, 2, 3, 4, 5, 6, 7, 9, 10, 11, 8] rfl (by decide)
      exact fun a ha => ⟨true, ha.less (less_cons rfl (less_cons rfl (less_cons rfl (less_cons rfl (less_cons rfl (less_cons rfl (less_cons rfl (less_cons rfl (less_cons rfl less_nil))))))))), hM, hF⟩
     rw [if_neg (ne_true hc)] at hF
     refine RL.gval rfl rfl (O.fldA fl37_0 (by decide) rfl) rfl ?_
     refine RL.gval rfl rfl (O.load sc35 rfl (Cs.adds [0] ((hM.bx (i := 11) rfl)) rfl)) rfl ?_
     refine RL.gval rfl rfl (O.fldA fl37_0 (by decide) rfl) rfl ?_
     refine RL.gval rfl rfl (O.load sc35 rfl (Cs.adds [0] ((hM.bx (i := 10) rfl)) rfl)) rfl ?_
     refine RL.gval rfl rfl (O.gtr rfl rfl) rfl ?_
     refine RL.val (O.pickf rfl rfl) rfl ?_
     refine vm rfl rfl ?_
     refine RL.bcase (t := 34) rfl (fun hc => ?_) (fun hc => ?_)
     ·rw [if_pos hc] at hF
      refine RL.gskip rfl rfl rfl rfl ?_
      refine RL.gskip rfl rfl rfl rfl ?_
      refine RL.gskip rfl rfl rfl rfl ?_
      refine RL.gskip rfl rfl rfl rfl ?_
      refine RL.gskip rfl rfl rfl rfl ?_
      refine RL.val (O.pickt rfl rfl) rfl ?_
      refine RL.nil ?_
      refine KQ.then_k ?_
      replace hM := hM.pick [0, 1, 2, 3, 4, 5, 6, 7, 9, 10, 11, 8] rfl (by decide)
      exact fun a ha => ⟨true, ha.less (less_cons rfl (less_cons rfl (less_cons rfl (less_cons rfl (less_cons rfl (less_cons rfl (less_cons rfl (less_cons rfl (less_cons rfl less_nil))))))))), hM, hF⟩
     rw [if_neg (ne_true hc)] at hF
     refine RL.gval rfl rfl (O.fldA fl37_1 (by decide) rfl) rfl ?_
     refine RL.gval rfl rfl (O.load sc35 rfl (Cs.adds [1] ((hM.bx (i := 11) rfl)) rfl)) rfl ?_
     refine RL.gval rfl rfl (O.fldA fl37_1 (by decide) rfl) rfl ?_
     refine RL.gval rfl rfl (O.load sc35 rfl (Cs.adds [1] ((hM.bx (i := 10) rfl)) rfl)) rfl ?_
     refine RL.gval rfl rfl (O.gtr rfl rfl) rfl ?_
     refine RL.val (O.pickf rfl rfl) rfl ?_
     refine RL.nil ?_
     refine KQ.then_k ?_
     replace hM := hM.pick [0, 1, 2, 3, 4, 5, 6, 7, 9, 10, 11, 8] rfl (by decide)
     exact fun a ha => ⟨(decide (((m460 xv472.f_Key).getD (T_flow_Total.mk 0 0)).f_Bytes < y549.f_Bytes)), ha.less (less_cons rfl (less_cons rfl (less_cons rfl (less_cons rfl (less_cons rfl (less_cons rfl (less_cons rfl (less_cons rfl (less_cons rfl less_nil))))))))), hM, hF⟩
    rintro a w576 ⟨t574, ha, hM, hF⟩
    refine KC.app ha ?_
    clear ha
    unfold F_model_Model_refuse_j1 at hF
    refine KC.cond rfl (fun hc => ?_) (fun hc => ?_)
    ·rw [if_pos hc] at hF
     refine sr fun Q577 hQ577 => ?_
     refine va rfl rfl ?_
     refine va rfl rfl ?_
     refine nt hQ577 ?_
     clear hQ577 Q577
     refine KC.ret ?_
     refine KQ.thr hQ558 ?_
     clear hQ558 Q558
     refine KQ.blk_r ?_
     refine KQ.thr hQ468 ?_
     clear hQ468 Q468
     refine KQ.then_r ?_
     refine KQ.blk_r ?_
     refine KQ.thr hQ39 ?_
     clear hQ39 Q39
     refine KQ.rets Try.results38 (RVs.cons (RV.tm rfl) (RVs.cons (RV.tm rfl) RVs.nil)) ?_
     refine ⟨.tuple #[.map none, vB false], rfl, ?_⟩
     refine RD.p rfl rfl rfl rfl (fun w' => O.move rfl) ?_
     refine RD.p rfl rfl rfl rfl (fun w' => O.ext rfl rfl) ?_
     refine RD.p rfl rfl rfl rfl (fun w' => O.ext rfl rfl) ?_
     refine RD.p rfl rfl rfl rfl (fun w' => O.assign rfl) ?_
     refine RD.p rfl rfl rfl rfl (fun w' => O.assign rfl) ?_
     refine RD.nil ?_
     refine KQ.thn hQ30 ?_
     clear hQ30 Q30
     replace hM := hM.pick [0, 1, 2, 3, 4, 5, 6, 11] rfl (by decide)
     refine KC.seqH fun Q578 hQ578 => ?_
     refine sr fun Q579 hQ579 => ?_
     refine vm rfl rfl ?_
     refine RL.val (O.not rfl) rfl ?_
     refine nt hQ579 ?_
     clear hQ579 Q579
     refine KC.condT rfl ?_
     refine sr fun Q580 hQ580 => ?_
     refine va rfl rfl ?_
     refine nt hQ580 ?_
     clear hQ580 Q580
     refine KC.ret ?_
     refine KQ.thr hQ578 ?_
     clear hQ578 Q578
     have hE := Option.some.inj hF
     clear hF
     subst hE
     replace hM := hM.pick [6, 0, 1, 2, 3, 4, 5] rfl (by decide)
     refine KQ.rets Try.results22 (RVs.cons (RV.tm rfl) RVs.nil) ?_
     exact ⟨_, rfl, g4, g6, g8, A10, c11, css13, Z14, A16, c17, rfl, hM⟩
    rw [if_neg (ne_true hc)] at hF
    refine KC.skip ?_
    refine KQ.thn hQ558 ?_
    clear hQ558 Q558
    refine KC.region ?_
    refine vm rfl rfl ?_
    refine RL.val (O.fldA fl50_0 (by decide) rfl) rfl ?_
    refine RL.val (O.loadN (cs := [vB xv472.f_Key.f_Src.f_Six, o8 xv472.f_Key.f_Src.f_B 0, o8 xv472.f_Key.f_Src.f_B 1, o8 xv472.f_Key.f_Src.f_B 2, o8 xv472.f_Key.f_Src.f_B 3, o8 xv472.f_Key.f_Src.f_B 4, o8 xv472.f_Key.f_Src.f_B 5, o8 xv472.f_Key.f_Src.f_B 6, o8 xv472.f_Key.f_Src.f_B 7, o8 xv472.f_Key.f_Src.f_B 8, o8 xv472.f_Key.f_Src.f_B 9, o8 xv472.f_Key.f_Src.f_B 10, o8 xv472.f_Key.f_Src.f_B 11, o8 xv472.f_Key.f_Src.f_B 12, o8 xv472.f_Key.f_Src.f_B 13, o8 xv472.f_Key.f_Src.f_B 14, o8 xv472.f_Key.f_Src.f_B 15, vB xv472.f_Key.f_Dst.f_Six, o8 xv472.f_Key.f_Dst.f_B 0, o8 xv472.f_Key.f_Dst.f_B 1, o8 xv472.f_Key.f_Dst.f_B 2, o8 xv472.f_Key.f_Dst.f_B 3, o8 xv472.f_Key.f_Dst.f_B 4, o8 xv472.f_Key.f_Dst.f_B 5, o8 xv472.f_Key.f_Dst.f_B 6, o8 xv472.f_Key.f_Dst.f_B 7, o8 xv472.f_Key.f_Dst.f_B 8, o8 xv472.f_Key.f_Dst.f_B 9, o8 xv472.f_Key.f_Dst.f_B 10, o8 xv472.f_Key.f_Dst.f_B 11, o8 xv472.f_Key.f_Dst.f_B 12, o8 xv472.f_Key.f_Dst.f_B 13, o8 xv472.f_Key.f_Dst.f_B 14, o8 xv472.f_Key.f_Dst.f_B 15, v8 xv472.f_Key.f_Proto, v16 xv472.f_Key.f_SrcPort, v16 xv472.f_Key.f_DstPort]) ag34 rfl (Cs.addsN [0] ((hM.bx (i := 8) rfl)) rfl)) rfl ?_
    refine RL.val (O.fldA fl37_0 (by decide) rfl) rfl ?_
    refine RL.val (O.load sc35 rfl (Cs.adds [0] ((hM.bx (i := 9) rfl)) rfl)) rfl ?_
    refine RL.val (O.fldA fl37_0 (by decide) rfl) rfl ?_
    refine RL.val (O.load sc35 rfl (Cs.adds [0] ((hM.bx (i := 10) rfl)) rfl)) rfl ?_
    refine RL.val (O.sub rfl rfl) rfl ?_
    refine RL.val (O.fldA fl37_1 (by decide) rfl) rfl ?_
    refine RL.val (O.load sc35 rfl (Cs.adds [1] ((hM.bx (i := 9) rfl)) rfl)) rfl ?_
    refine RL.val (O.fldA fl37_1 (by decide) rfl) rfl ?_
    refine RL.val (O.load sc35 rfl (Cs.adds [1] ((hM.bx (i := 10) rfl)) rfl)) rfl ?_
    refine RL.val (O.sub rfl rfl) rfl ?_
    refine RL.val (O.bld (cs := [v64 (IntKind.u64.wrap (((m460 xv472.f_Key).getD (T_flow_Total.mk 0 0)).f_Packets - y549.f_Packets)), v64 (IntKind.u64.wrap (((m460 xv472.f_Key).getD (T_flow_Total.mk 0 0)).f_Bytes - y549.f_Bytes))]) bt37 rfl (by kernel_rfl)) rfl ?_
    refine RL.effs (E.mup (k := xv472.f_Key) (u := (T_flow_Total.mk (IntKind.u64.wrap (((m460 xv472.f_Key).getD (T_flow_Total.mk 0 0)).f_Packets - y549.f_Packets)) (IntKind.u64.wrap (((m460 xv472.f_Key).getD (T_flow_Total.mk 0 0)).f_Bytes - y549.f_Bytes)))) (ks := [vB xv472.f_Key.f_Src.f_Six, o8 xv472.f_Key.f_Src.f_B 0, o8 xv472.f_Key.f_Src.f_B 1, o8 xv472.f_Key.f_Src.f_B 2, o8 xv472.f_Key.f_Src.f_B 3, o8 xv472.f_Key.f_Src.f_B 4, o8 xv472.f_Key.f_Src.f_B 5, o8 xv472.f_Key.f_Src.f_B 6, o8 xv472.f_Key.f_Src.f_B 7, o8 xv472.f_Key.f_Src.f_B 8, o8 xv472.f_Key.f_Src.f_B 9, o8 xv472.f_Key.f_Src.f_B 10, o8 xv472.f_Key.f_Src.f_B 11, o8 xv472.f_Key.f_Src.f_B 12, o8 xv472.f_Key.f_Src.f_B 13, o8 xv472.f_Key.f_Src.f_B 14, o8 xv472.f_Key.f_Src.f_B 15, vB xv472.f_Key.f_Dst.f_Six, o8 xv472.f_Key.f_Dst.f_B 0, o8 xv472.f_Key.f_Dst.f_B 1, o8 xv472.f_Key.f_Dst.f_B 2, o8 xv472.f_Key.f_Dst.f_B 3, o8 xv472.f_Key.f_Dst.f_B 4, o8 xv472.f_Key.f_Dst.f_B 5, o8 xv472.f_Key.f_Dst.f_B 6, o8 xv472.f_Key.f_Dst.f_B 7, o8 xv472.f_Key.f_Dst.f_B 8, o8 xv472.f_Key.f_Dst.f_B 9, o8 xv472.f_Key.f_Dst.f_B 10, o8 xv472.f_Key.f_Dst.f_B 11, o8 xv472.f_Key.f_Dst.f_B 12, o8 xv472.f_Key.f_Dst.f_B 13, o8 xv472.f_Key.f_Dst.f_B 14, o8 xv472.f_Key.f_Dst.f_B 15, v8 xv472.f_Key.f_Proto, v16 xv472.f_Key.f_SrcPort, v16 xv472.f_Key.f_DstPort]) (us := [v64 (IntKind.u64.wrap (((m460 xv472.f_Key).getD (T_flow_Total.mk 0 0)).f_Packets - y549.f_Packets)), v64 (IntKind.u64.wrap (((m460 xv472.f_Key).getD (T_flow_Total.mk 0 0)).f_Bytes - y549.f_Bytes))]) mt62 hM (j := 7) rfl rfl rfl rfl rfl rfl) fun w581 hM1 => ?_
    clear hM
    have hM := hM1
    clear hM1
    refine RL.nil ?_
    refine KQ.blk_n ?_
    refine KQ.thn hQ468 ?_
    clear hQ468 Q468
    replace hM := hM.pick [0, 1, 2, 3, 4, 5, 6, 7, 11] rfl (by decide)
    refine KC.region ?_
    refine RL.val (O.add rfl rfl) rfl ?_
    refine vm rfl rfl ?_
    refine RL.nil ?_
    refine KQ.then_k ?_
    exact fun a ha => ⟨k465, Nat.lt_succ_self k465, (mput q_packet_Key m460 xv472.f_Key (T_flow_Total.mk (IntKind.u64.wrap (((m460 xv472.f_Key).getD (T_flow_Total.mk 0 0)).f_Packets - y549.f_Packets)) (IntKind.u64.wrap (((m460 xv472.f_Key).getD (T_flow_Total.mk 0 0)).f_Bytes - y549.f_Bytes)))), (IntKind.i64.wrap (t461 + 1)), ha.less (less_cons rfl (less_cons rfl (less_cons rfl (less_cons rfl (less_cons rfl less_nil))))), hM, hF⟩
   refine RD.meff rfl rfl (E.alloc hM ze37) rfl fun v w583 hv => ?_
   clear hM
   obtain ⟨g582, rfl, hM, hf⟩ := hv
   refine ⟨fun _ => hf, ?_⟩
   refine obindE hF fun y585 hx586 hF => ?_
   refine RD.mcall rfl rfl trivial Try.func13 bd13 rfl rfl (c_flow_Record_Total _ xv472 _ hx586) fun v w587 hv => ?_
   obtain ⟨rfl, hN588⟩ := hv
   refine ⟨fun _ => hN588.fut, ?_⟩
   replace hM := hM.call0 hN588
   refine RD.meffs rfl rfl rfl (E.stB (j := 10) (off := 0) (vs := [v64 (((m460 xv472.f_Key).getD (T_flow_Total.mk 0 0)).f_Packets), v64 (((m460 xv472.f_Key).getD (T_flow_Total.mk 0 0)).f_Bytes)]) (cs' := [v64 (((m460 xv472.f_Key).getD (T_flow_Total.mk 0 0)).f_Packets), v64 (((m460 xv472.f_Key).getD (T_flow_Total.mk 0 0)).f_Bytes)]) hM rfl sz37 rfl (adds_eq [] rfl) rfl rfl (One.all rfl) rfl rfl) fun w589 hM1 => ?_
   clear hM
   have hM := hM1
   clear hM1
   refine RD.meffs rfl rfl rfl (E.stB (j := 11) (off := 0) (vs := [v64 y585.f_Packets, v64 y585.f_Bytes]) (cs' := [v64 y585.f_Packets, v64 y585.f_Bytes]) hM rfl sz37 rfl (adds_eq [] rfl) rfl rfl (One.all rfl) rfl rfl) fun w590 hM1 => ?_
   clear hM
   have hM := hM1
   clear hM1
   refine RD.nil ?_
   refine KQ.thn hQ477 ?_
   clear hQ477 Q477
   refine KC.seqH fun Q591 hQ591 => ?_
   refine KC.cut (fun a w609 => ∃ (t607 : Bool), Kn 60 [(0, .map (some g37)), (1, .slice A21 (nv20.f_Records).length c22), (7, .pointer (some ⟨g473, 0, none⟩)), (8, .pointer (some ⟨g546, 0, none⟩)), (9, .pointer (some ⟨g582, 0, none⟩)), (12, .slice A21 (nv20.f_Records).length c22), (13, vI (nv20.f_Records.length : Int)), (14, vI t461), (40, vB t607)] a ∧ Mem w ([some g2] ++ ([some g4] ++ ([some g6] ++ ([some g8] ++ ([rblk A10 c11] ++ (Z14.map some ++ ([rblk A16 c17] ++ ([])))))))) w609 [.res [g4] (MR62 g4 m1.f_forwarded), .res [g6] (MR62 g6 m1.f_cached), .res [g8] (MR62 g8 m1.f_lost), .row A10 c11 47 6 (m1.f_entries).length (css13).flatten, .res Z14 (Els RO_model_Entry 6 m1.f_entries css13 Z14), .row A16 c17 3 1 (m1.f_line).length ((m1.f_line).flatMap (eI .i64)), .box g2 tg19 [.map (some g4), .map (some g6), .map (some g8), .slice A10 (m1.f_entries).length c11, .slice A16 (m1.f_line).length c17, v64 m1.f_first, v32 m1.f_boot], .res [g37] (MR62 g37 m460), .box g473 50 [vB xv472.f_Key.f_Src.f_Six, o8 xv472.f_Key.f_Src.f_B 0, o8 xv472.f_Key.f_Src.f_B 1, o8 xv472.f_Key.f_Src.f_B 2, o8 xv472.f_Key.f_Src.f_B 3, o8 xv472.f_Key.f_Src.f_B 4, o8 xv472.f_Key.f_Src.f_B 5, o8 xv472.f_Key.f_Src.f_B 6, o8 xv472.f_Key.f_Src.f_B 7, o8 xv472.f_Key.f_Src.f_B 8, o8 xv472.f_Key.f_Src.f_B 9, o8 xv472.f_Key.f_Src.f_B 10, o8 xv472.f_Key.f_Src.f_B 11, o8 xv472.f_Key.f_Src.f_B 12, o8 xv472.f_Key.f_Src.f_B 13, o8 xv472.f_Key.f_Src.f_B 14, o8 xv472.f_Key.f_Src.f_B 15, vB xv472.f_Key.f_Dst.f_Six, o8 xv472.f_Key.f_Dst.f_B 0, o8 xv472.f_Key.f_Dst.f_B 1, o8 xv472.f_Key.f_Dst.f_B 2, o8 xv472.f_Key.f_Dst.f_B 3, o8 xv472.f_Key.f_Dst.f_B 4, o8 xv472.f_Key.f_Dst.f_B 5, o8 xv472.f_Key.f_Dst.f_B 6, o8 xv472.f_Key.f_Dst.f_B 7, o8 xv472.f_Key.f_Dst.f_B 8, o8 xv472.f_Key.f_Dst.f_B 9, o8 xv472.f_Key.f_Dst.f_B 10, o8 xv472.f_Key.f_Dst.f_B 11, o8 xv472.f_Key.f_Dst.f_B 12, o8 xv472.f_Key.f_Dst.f_B 13, o8 xv472.f_Key.f_Dst.f_B 14, o8 xv472.f_Key.f_Dst.f_B 15, v8 xv472.f_Key.f_Proto, v16 xv472.f_Key.f_SrcPort, v16 xv472.f_Key.f_DstPort, v64 xv472.f_Packets, v64 xv472.f_Bytes, v64 xv472.f_First, v64 xv472.f_Last, v8 xv472.f_Flags, v8 xv472.f_Reason, v8 xv472.f_Class], .box g546 37 [v64 (((m460 xv472.f_Key).getD (T_flow_Total.mk 0 0)).f_Packets), v64 (((m460 xv472.f_Key).getD (T_flow_Total.mk 0 0)).f_Bytes)], .box g582 37 [v64 y585.f_Packets, v64 y585.f_Bytes], .box g27 41 [vI nv20.f_Kind, vB nv20.f_Key.f_Src.f_Six, o8 nv20.f_Key.f_Src.f_B 0, o8 nv20.f_Key.f_Src.f_B 1, o8 nv20.f_Key.f_Src.f_B 2, o8 nv20.f_Key.f_Src.f_B 3, o8 nv20.f_Key.f_Src.f_B 4, o8 nv20.f_Key.f_Src.f_B 5, o8 nv20.f_Key.f_Src.f_B 6, o8 nv20.f_Key.f_Src.f_B 7, o8 nv20.f_Key.f_Src.f_B 8, o8 nv20.f_Key.f_Src.f_B 9, o8 nv20.f_Key.f_Src.f_B 10, o8 nv20.f_Key.f_Src.f_B 11, o8 nv20.f_Key.f_Src.f_B 12, o8 nv20.f_Key.f_Src.f_B 13, o8 nv20.f_Key.f_Src.f_B 14, o8 nv20.f_Key.f_Src.f_B 15, vB nv20.f_Key.f_Dst.f_Six, o8 nv20.f_Key.f_Dst.f_B 0, o8 nv20.f_Key.f_Dst.f_B 1, o8 nv20.f_Key.f_Dst.f_B 2, o8 nv20.f_Key.f_Dst.f_B 3, o8 nv20.f_Key.f_Dst.f_B 4, o8 nv20.f_Key.f_Dst.f_B 5, o8 nv20.f_Key.f_Dst.f_B 6, o8 nv20.f_Key.f_Dst.f_B 7, o8 nv20.f_Key.f_Dst.f_B 8, o8 nv20.f_Key.f_Dst.f_B 9, o8 nv20.f_Key.f_Dst.f_B 10, o8 nv20.f_Key.f_Dst.f_B 11, o8 nv20.f_Key.f_Dst.f_B 12, o8 nv20.f_Key.f_Dst.f_B 13, o8 nv20.f_Key.f_Dst.f_B 14, o8 nv20.f_Key.f_Dst.f_B 15, v8 nv20.f_Key.f_Proto, v16 nv20.f_Key.f_SrcPort, v16 nv20.f_Key.f_DstPort, v64 nv20.f_Total.f_Packets, v64 nv20.f_Total.f_Bytes, .slice A21 (nv20.f_Records).length c22, v32 nv20.f_Epoch, v64 nv20.f_N, v64 nv20.f_First, v64 nv20.f_Next]] ∧ F_model_Model_refuse_j1 m1 m460 t461 (F_model_Model_refuse_L1 m1 nv20 k465) xv472 y585 t607 = some r) ?_ ?_
   ·refine KC.region ?_
    refine RL.val (O.loadN (cs := [vB xv472.f_Key.f_Src.f_Six, o8 xv472.f_Key.f_Src.f_B 0, o8 xv472.f_Key.f_Src.f_B 1, o8 xv472.f_Key.f_Src.f_B 2, o8 xv472.f_Key.f_Src.f_B 3, o8 xv472.f_Key.f_Src.f_B 4, o8 xv472.f_Key.f_Src.f_B 5, o8 xv472.f_Key.f_Src.f_B 6, o8 xv472.f_Key.f_Src.f_B 7, o8 xv472.f_Key.f_Src.f_B 8, o8 xv472.f_Key.f_Src.f_B 9, o8 xv472.f_Key.f_Src.f_B 10, o8 xv472.f_Key.f_Src.f_B 11, o8 xv472.f_Key.f_Src.f_B 12, o8 xv472.f_Key.f_Src.f_B 13, o8 xv472.f_Key.f_Src.f_B 14, o8 xv472.f_Key.f_Src.f_B 15, vB xv472.f_Key.f_Dst.f_Six, o8 xv472.f_Key.f_Dst.f_B 0, o8 xv472.f_Key.f_Dst.f_B 1, o8 xv472.f_Key.f_Dst.f_B 2, o8 xv472.f_Key.f_Dst.f_B 3, o8 xv472.f_Key.f_Dst.f_B 4, o8 xv472.f_Key.f_Dst.f_B 5, o8 xv472.f_Key.f_Dst.f_B 6, o8 xv472.f_Key.f_Dst.f_B 7, o8 xv472.f_Key.f_Dst.f_B 8, o8 xv472.f_Key.f_Dst.f_B 9, o8 xv472.f_Key.f_Dst.f_B 10, o8 xv472.f_Key.f_Dst.f_B 11, o8 xv472.f_Key.f_Dst.f_B 12, o8 xv472.f_Key.f_Dst.f_B 13, o8 xv472.f_Key.f_Dst.f_B 14, o8 xv472.f_Key.f_Dst.f_B 15, v8 xv472.f_Key.f_Proto, v16 xv472.f_Key.f_SrcPort, v16 xv472.f_Key.f_DstPort, v64 xv472.f_Packets, v64 xv472.f_Bytes, v64 xv472.f_First, v64 xv472.f_Last, v8 xv472.f_Flags, v8 xv472.f_Reason, v8 xv472.f_Class]) ag50 rfl (Cs.addsN [] ((hM.bx (i := 9) rfl)) rfl)) rfl ?_
    refine obindE hF fun y592 hx593 hF => ?_
    refine RL.call Try.func57 bd57 rfl rfl (c_flow_Record_Right _ xv472 _ hx593) fun v w594 hv => ?_
    obtain ⟨rfl, hN595⟩ := hv
    replace hM := hM.call0 hN595
    refine RL.val (O.not rfl) rfl ?_
    refine vm rfl rfl ?_
    refine RL.bcase (t := 27) rfl (fun hc => ?_) (fun hc => ?_)
    ·rw [if_pos hc] at hF
     refine RL.gskip rfl rfl rfl rfl ?_
     refine RL.gskip rfl rfl rfl rfl ?_
     refine RL.gskip rfl rfl rfl rfl ?_
     refine RL.gskip rfl rfl rfl rfl ?_
     refine RL.gskip rfl rfl rfl rfl ?_
     refine RL.val (O.pickt rfl rfl) rfl ?_
     refine vm rfl rfl ?_
     refine RL.gskip rfl rfl rfl rfl ?_
     refine RL.gskip rfl rfl rfl rfl ?_
     refine RL.gskip rfl rfl rfl rfl ?_
     refine RL.gskip rfl rfl rfl rfl ?_
     refine RL.gskip rfl rfl rfl rfl ?_
     refine RL.val (O.pickt rfl rfl) rfl ?_
     refine RL.nil ?_
     refine KQ.then_k ?_
     replace hM := hM.pick [0, 1, 2, 3, 4, 5, 6, 7, 9, 10, 11, 8] rfl (by decide)
     exact fun a ha => ⟨true, ha.less (less_cons rfl (less_cons rfl (less_cons rfl (less_cons rfl (less_cons rfl (less_cons rfl (less_cons rfl (less_cons rfl (less_cons rfl less_nil))))))))), hM, hF⟩
    rw [if_neg (ne_true hc)] at hF
    refine RL.gval rfl rfl (O.fldA fl37_0 (by decide) rfl) rfl ?_
    refine RL.gval rfl rfl (O.load sc35 rfl (Cs.adds [0] ((hM.bx (i := 11) rfl)) rfl)) rfl ?_
    refine RL.gval rfl rfl (O.fldA fl37_0 (by decide) rfl) rfl ?_
    refine RL.gval rfl rfl (O.load sc35 rfl (Cs.adds [0] ((hM.bx (i := 10) rfl)) rfl)) rfl ?_
    refine RL.gval rfl rfl (O.gtr rfl rfl) rfl ?_
    refine RL.val (O.pickf rfl rfl) rfl ?_
    refine vm rfl rfl ?_
    refine RL.bcase (t := 34) rfl (fun hc => ?_) (fun hc => ?_)
    ·rw [if_pos hc] at hF
     refine RL.gskip rfl rfl rfl rfl ?_
     refine RL.gskip rfl rfl rfl rfl ?_
     refine RL.gskip rfl rfl rfl rfl ?_
     refine RL.gskip rfl rfl rfl rfl ?_
     refine RL.gskip rfl rfl rfl rfl ?_
     refine RL.val (O.pickt rfl rfl) rfl ?_
     refine RL.nil ?_
     refine KQ.then_k ?_
     replace hM := hM.pick [0, 1, 2, 3, 4, 5, 6, 7, 9, 10, 11, 8] rfl (by decide)
     exact fun a ha => ⟨true, ha.less (less_cons rfl (less_cons rfl (less_cons rfl (less_cons rfl (less_cons rfl (less_cons rfl (less_cons rfl (less_cons rfl (less_cons rfl less_nil))))))))), hM, hF⟩
    rw [if_neg (ne_true hc)] at hF
    refine RL.gval rfl rfl (O.fldA fl37_1 (by decide) rfl) rfl ?_
    refine RL.gval rfl rfl (O.load sc35 rfl (Cs.adds [1] ((hM.bx (i := 11) rfl)) rfl)) rfl ?_
    refine RL.gval rfl rfl (O.fldA fl37_1 (by decide) rfl) rfl ?_
    refine RL.gval rfl rfl (O.load sc35 rfl (Cs.adds [1] ((hM.bx (i := 10) rfl)) rfl)) rfl ?_
    refine RL.gval rfl rfl (O.gtr rfl rfl) rfl ?_
    refine RL.val (O.pickf rfl rfl) rfl ?_
    refine RL.nil ?_
    refine KQ.then_k ?_
    replace hM := hM.pick [0, 1, 2, 3, 4, 5, 6, 7, 9, 10, 11, 8] rfl (by decide)
    exact fun a ha => ⟨(decide (((m460 xv472.f_Key).getD (T_flow_Total.mk 0 0)).f_Bytes < y585.f_Bytes)), ha.less (less_cons rfl (less_cons rfl (less_cons rfl (less_cons rfl (less_cons rfl (less_cons rfl (less_cons rfl (less_cons rfl (less_cons rfl less_nil))))))))), hM, hF⟩
   rintro a w609 ⟨t607, ha, hM, hF⟩
   refine KC.app ha ?_
   clear ha
   unfold F_model_Model_refuse_j1 at hF
   refine KC.cond rfl (fun hc => ?_) (fun hc => ?_)
   ·rw [if_pos hc] at hF
    refine sr fun Q610 hQ610 => ?_
    refine va rfl rfl ?_
    refine va rfl rfl ?_
    refine nt hQ610 ?_
    clear hQ610 Q610
    refine KC.ret ?_
    refine KQ.thr hQ591 ?_
    clear hQ591 Q591
    refine KQ.blk_r ?_
    refine KQ.thr hQ468 ?_
    clear hQ468 Q468
    refine KQ.then_r ?_
    refine KQ.blk_r ?_
    refine KQ.thr hQ39 ?_
    clear hQ39 Q39
    refine KQ.rets Try.results38 (RVs.cons (RV.tm rfl) (RVs.cons (RV.tm rfl) RVs.nil)) ?_
    refine ⟨.tuple #[.map none, vB false], rfl, ?_⟩
    refine RD.p rfl rfl rfl rfl (fun w' => O.move rfl) ?_
    refine RD.p rfl rfl rfl rfl (fun w' => O.ext rfl rfl) ?_
    refine RD.p rfl rfl rfl rfl (fun w' => O.ext rfl rfl) ?_
    refine RD.p rfl rfl rfl rfl (fun w' => O.assign rfl) ?_
    refine RD.p rfl rfl rfl rfl (fun w' => O.assign rfl) ?_
    refine RD.nil ?_
    refine KQ.thn hQ30 ?_
    clear hQ30 Q30
    replace hM := hM.pick [0, 1, 2, 3, 4, 5, 6, 11] rfl (by decide)
    refine KC.seqH fun Q611 hQ611 => ?_
    refine sr fun Q612 hQ612 => ?_
    refine vm rfl rfl ?_
    refine RL.val (O.not rfl) rfl ?_
    refine nt hQ612 ?_
    clear hQ612 Q612
    refine KC.condT rfl ?_
    refine sr fun Q613 hQ613 => ?_
    refine va rfl rfl ?_
    refine nt hQ613 ?_
    clear hQ613 Q613
    refine KC.ret ?_
    refine KQ.thr hQ611 ?_
    clear hQ611 Q611
    have hE := Option.some.inj hF
    clear hF
    subst hE
    replace hM := hM.pick [6, 0, 1, 2, 3, 4, 5] rfl (by decide)
    refine KQ.rets Try.results22 (RVs.cons (RV.tm rfl) RVs.nil) ?_
    exact ⟨_, rfl, g4, g6, g8, A10, c11, css13, Z14, A16, c17, rfl, hM⟩
   rw [if_neg (ne_true hc)] at hF
   refine KC.skip ?_
   refine KQ.thn hQ591 ?_
   clear hQ591 Q591
   refine KC.region ?_
   refine vm rfl rfl ?_
   refine RL.val (O.fldA fl50_0 (by decide) rfl) rfl ?_
   refine RL.val (O.loadN (cs := [vB xv472.f_Key.f_Src.f_Six, o8 xv472.f_Key.f_Src.f_B 0, o8 xv472.f_Key.f_Src.f_B 1, o8 xv472.f_Key.f_Src.f_B 2, o8 xv472.f_Key.f_Src.f_B 3, o8 xv472.f_Key.f_Src.f_B 4, o8 xv472.f_Key.f_Src.f_B 5, o8 xv472.f_Key.f_Src.f_B 6, o8 xv472.f_Key.f_Src.f_B 7, o8 xv472.f_Key.f_Src.f_B 8, o8 xv472.f_Key.f_Src.f_B 9, o8 xv472.f_Key.f_Src.f_B 10, o8 xv472.f_Key.f_Src.f_B 11, o8 xv472.f_Key.f_Src.f_B 12, o8 xv472.f_Key.f_Src.f_B 13, o8 xv472.f_Key.f_Src.f_B 14, o8 xv472.f_Key.f_Src.f_B 15, vB xv472.f_Key.f_Dst.f_Six, o8 xv472.f_Key.f_Dst.f_B 0, o8 xv472.f_Key.f_Dst.f_B 1, o8 xv472.f_Key.f_Dst.f_B 2, o8 xv472.f_Key.f_Dst.f_B 3, o8 xv472.f_Key.f_Dst.f_B 4, o8 xv472.f_Key.f_Dst.f_B 5, o8 xv472.f_Key.f_Dst.f_B 6, o8 xv472.f_Key.f_Dst.f_B 7, o8 xv472.f_Key.f_Dst.f_B 8, o8 xv472.f_Key.f_Dst.f_B 9, o8 xv472.f_Key.f_Dst.f_B 10, o8 xv472.f_Key.f_Dst.f_B 11, o8 xv472.f_Key.f_Dst.f_B 12, o8 xv472.f_Key.f_Dst.f_B 13, o8 xv472.f_Key.f_Dst.f_B 14, o8 xv472.f_Key.f_Dst.f_B 15, v8 xv472.f_Key.f_Proto, v16 xv472.f_Key.f_SrcPort, v16 xv472.f_Key.f_DstPort]) ag34 rfl (Cs.addsN [0] ((hM.bx (i := 8) rfl)) rfl)) rfl ?_
   refine RL.val (O.fldA fl37_0 (by decide) rfl) rfl ?_
   refine RL.val (O.load sc35 rfl (Cs.adds [0] ((hM.bx (i := 9) rfl)) rfl)) rfl ?_
   refine RL.val (O.fldA fl37_0 (by decide) rfl) rfl ?_
   refine RL.val (O.load sc35 rfl (Cs.adds [0] ((hM.bx (i := 10) rfl)) rfl)) rfl ?_
   refine RL.val (O.sub rfl rfl) rfl ?_
   refine RL.val (O.fldA fl37_1 (by decide) rfl) rfl ?_
   refine RL.val (O.load sc35 rfl (Cs.adds [1] ((hM.bx (i := 9) rfl)) rfl)) rfl ?_
   refine RL.val (O.fldA fl37_1 (by decide) rfl) rfl ?_
   refine RL.val (O.load sc35 rfl (Cs.adds [1] ((hM.bx (i := 10) rfl)) rfl)) rfl ?_
   refine RL.val (O.sub rfl rfl) rfl ?_
   refine RL.val (O.bld (cs := [v64 (IntKind.u64.wrap (((m460 xv472.f_Key).getD (T_flow_Total.mk 0 0)).f_Packets - y585.f_Packets)), v64 (IntKind.u64.wrap (((m460 xv472.f_Key).getD (T_flow_Total.mk 0 0)).f_Bytes - y585.f_Bytes))]) bt37 rfl (by kernel_rfl)) rfl ?_
   refine RL.effs (E.mup (k := xv472.f_Key) (u := (T_flow_Total.mk (IntKind.u64.wrap (((m460 xv472.f_Key).getD (T_flow_Total.mk 0 0)).f_Packets - y585.f_Packets)) (IntKind.u64.wrap (((m460 xv472.f_Key).getD (T_flow_Total.mk 0 0)).f_Bytes - y585.f_Bytes)))) (ks := [vB xv472.f_Key.f_Src.f_Six, o8 xv472.f_Key.f_Src.f_B 0, o8 xv472.f_Key.f_Src.f_B 1, o8 xv472.f_Key.f_Src.f_B 2, o8 xv472.f_Key.f_Src.f_B 3, o8 xv472.f_Key.f_Src.f_B 4, o8 xv472.f_Key.f_Src.f_B 5, o8 xv472.f_Key.f_Src.f_B 6, o8 xv472.f_Key.f_Src.f_B 7, o8 xv472.f_Key.f_Src.f_B 8, o8 xv472.f_Key.f_Src.f_B 9, o8 xv472.f_Key.f_Src.f_B 10, o8 xv472.f_Key.f_Src.f_B 11, o8 xv472.f_Key.f_Src.f_B 12, o8 xv472.f_Key.f_Src.f_B 13, o8 xv472.f_Key.f_Src.f_B 14, o8 xv472.f_Key.f_Src.f_B 15, vB xv472.f_Key.f_Dst.f_Six, o8 xv472.f_Key.f_Dst.f_B 0, o8 xv472.f_Key.f_Dst.f_B 1, o8 xv472.f_Key.f_Dst.f_B 2, o8 xv472.f_Key.f_Dst.f_B 3, o8 xv472.f_Key.f_Dst.f_B 4, o8 xv472.f_Key.f_Dst.f_B 5, o8 xv472.f_Key.f_Dst.f_B 6, o8 xv472.f_Key.f_Dst.f_B 7, o8 xv472.f_Key.f_Dst.f_B 8, o8 xv472.f_Key.f_Dst.f_B 9, o8 xv472.f_Key.f_Dst.f_B 10, o8 xv472.f_Key.f_Dst.f_B 11, o8 xv472.f_Key.f_Dst.f_B 12, o8 xv472.f_Key.f_Dst.f_B 13, o8 xv472.f_Key.f_Dst.f_B 14, o8 xv472.f_Key.f_Dst.f_B 15, v8 xv472.f_Key.f_Proto, v16 xv472.f_Key.f_SrcPort, v16 xv472.f_Key.f_DstPort]) (us := [v64 (IntKind.u64.wrap (((m460 xv472.f_Key).getD (T_flow_Total.mk 0 0)).f_Packets - y585.f_Packets)), v64 (IntKind.u64.wrap (((m460 xv472.f_Key).getD (T_flow_Total.mk 0 0)).f_Bytes - y585.f_Bytes))]) mt62 hM (j := 7) rfl rfl rfl rfl rfl rfl) fun w614 hM1 => ?_
   clear hM
   have hM := hM1
   clear hM1
   refine RL.nil ?_
   refine KQ.blk_n ?_
   refine KQ.thn hQ468 ?_
   clear hQ468 Q468
   replace hM := hM.pick [0, 1, 2, 3, 4, 5, 6, 7, 11] rfl (by decide)
   refine KC.region ?_
   refine RL.val (O.add rfl rfl) rfl ?_
   refine vm rfl rfl ?_
   refine RL.nil ?_
   refine KQ.then_k ?_
   exact fun a ha => ⟨k465, Nat.lt_succ_self k465, (mput q_packet_Key m460 xv472.f_Key (T_flow_Total.mk (IntKind.u64.wrap (((m460 xv472.f_Key).getD (T_flow_Total.mk 0 0)).f_Packets - y585.f_Packets)) (IntKind.u64.wrap (((m460 xv472.f_Key).getD (T_flow_Total.mk 0 0)).f_Bytes - y585.f_Bytes)))), (IntKind.i64.wrap (t461 + 1)), ha.less (less_cons rfl (less_cons rfl (less_cons rfl (less_cons rfl (less_cons rfl less_nil))))), hM, hF⟩
  refine RD.meff rfl rfl (E.alloc hM ze37) rfl fun v w616 hv => ?_
  clear hM
  obtain ⟨g615, rfl, hM, hf⟩ := hv
  refine ⟨fun _ => hf, ?_⟩
  refine RD.alt ?_ ?_
  ·refine obindE hF fun y618 hx619 hF => ?_
   refine RD.mcall rfl rfl trivial Try.func13 bd13 rfl rfl (c_flow_Record_Total _ xv472 _ hx619) fun v w620 hv => ?_
   obtain ⟨rfl, hN621⟩ := hv
   refine ⟨fun _ => hN621.fut, ?_⟩
   replace hM := hM.call0 hN621
   refine RD.meff rfl rfl (E.alloc hM ze37) rfl fun v w623 hv => ?_
   clear hM
   obtain ⟨g622, rfl, hM, hf⟩ := hv
   refine ⟨fun _ => hf, ?_⟩
   refine RD.meffs rfl rfl rfl (E.stB (j := 11) (off := 0) (vs := [v64 (((m460 xv472.f_Key).getD (T_flow_Total.mk 0 0)).f_Packets), v64 (((m460 xv472.f_Key).getD (T_flow_Total.mk 0 0)).f_Bytes)]) (cs' := [v64 (((m460 xv472.f_Key).getD (T_flow_Total.mk 0 0)).f_Packets), v64 (((m460 xv472.f_Key).getD (T_flow_Total.mk 0 0)).f_Bytes)]) hM rfl sz37 rfl (adds_eq [] rfl) rfl rfl (One.all rfl) rfl rfl) fun w625 hM1 => ?_
   clear hM
   have hM := hM1
   clear hM1
   refine RD.meffs rfl rfl rfl (E.stB (j := 10) (off := 0) (vs := [v64 y618.f_Packets, v64 y618.f_Bytes]) (cs' := [v64 y618.f_Packets, v64 y618.f_Bytes]) hM rfl sz37 rfl (adds_eq [] rfl) rfl rfl (One.all rfl) rfl rfl) fun w626 hM1 => ?_
   clear hM
   have hM := hM1
   clear hM1
   refine RD.nil ?_
   refine KQ.thn hQ477 ?_
   clear hQ477 Q477
   refine KC.seqH fun Q627 hQ627 => ?_
   refine KC.cut (fun a w645 => ∃ (t643 : Bool), Kn 60 [(0, .map (some g37)), (1, .slice A21 (nv20.f_Records).length c22), (7, .pointer (some ⟨g473, 0, none⟩)), (8, .pointer (some ⟨g622, 0, none⟩)), (9, .pointer (some ⟨g615, 0, none⟩)), (12, .slice A21 (nv20.f_Records).length c22), (13, vI (nv20.f_Records.length : Int)), (14, vI t461), (40, vB t643)] a ∧ Mem w ([some g2] ++ ([some g4] ++ ([some g6] ++ ([some g8] ++ ([rblk A10 c11] ++ (Z14.map some ++ ([rblk A16 c17] ++ ([])))))))) w645 [.res [g4] (MR62 g4 m1.f_forwarded), .res [g6] (MR62 g6 m1.f_cached), .res [g8] (MR62 g8 m1.f_lost), .row A10 c11 47 6 (m1.f_entries).length (css13).flatten, .res Z14 (Els RO_model_Entry 6 m1.f_entries css13 Z14), .row A16 c17 3 1 (m1.f_line).length ((m1.f_line).flatMap (eI .i64)), .box g2 tg19 [.map (some g4), .map (some g6), .map (some g8), .slice A10 (m1.f_entries).length c11, .slice A16 (m1.f_line).length c17, v64 m1.f_first, v32 m1.f_boot], .res [g37] (MR62 g37 m460), .box g473 50 [vB xv472.f_Key.f_Src.f_Six, o8 xv472.f_Key.f_Src.f_B 0, o8 xv472.f_Key.f_Src.f_B 1, o8 xv472.f_Key.f_Src.f_B 2, o8 xv472.f_Key.f_Src.f_B 3, o8 xv472.f_Key.f_Src.f_B 4, o8 xv472.f_Key.f_Src.f_B 5, o8 xv472.f_Key.f_Src.f_B 6, o8 xv472.f_Key.f_Src.f_B 7, o8 xv472.f_Key.f_Src.f_B 8, o8 xv472.f_Key.f_Src.f_B 9, o8 xv472.f_Key.f_Src.f_B 10, o8 xv472.f_Key.f_Src.f_B 11, o8 xv472.f_Key.f_Src.f_B 12, o8 xv472.f_Key.f_Src.f_B 13, o8 xv472.f_Key.f_Src.f_B 14, o8 xv472.f_Key.f_Src.f_B 15, vB xv472.f_Key.f_Dst.f_Six, o8 xv472.f_Key.f_Dst.f_B 0, o8 xv472.f_Key.f_Dst.f_B 1, o8 xv472.f_Key.f_Dst.f_B 2, o8 xv472.f_Key.f_Dst.f_B 3, o8 xv472.f_Key.f_Dst.f_B 4, o8 xv472.f_Key.f_Dst.f_B 5, o8 xv472.f_Key.f_Dst.f_B 6, o8 xv472.f_Key.f_Dst.f_B 7, o8 xv472.f_Key.f_Dst.f_B 8, o8 xv472.f_Key.f_Dst.f_B 9, o8 xv472.f_Key.f_Dst.f_B 10, o8 xv472.f_Key.f_Dst.f_B 11, o8 xv472.f_Key.f_Dst.f_B 12, o8 xv472.f_Key.f_Dst.f_B 13, o8 xv472.f_Key.f_Dst.f_B 14, o8 xv472.f_Key.f_Dst.f_B 15, v8 xv472.f_Key.f_Proto, v16 xv472.f_Key.f_SrcPort, v16 xv472.f_Key.f_DstPort, v64 xv472.f_Packets, v64 xv472.f_Bytes, v64 xv472.f_First, v64 xv472.f_Last, v8 xv472.f_Flags, v8 xv472.f_Reason, v8 xv472.f_Class], .box g622 37 [v64 (((m460 xv472.f_Key).getD (T_flow_Total.mk 0 0)).f_Packets), v64 (((m460 xv472.f_Key).getD (T_flow_Total.mk 0 0)).f_Bytes)], .box g615 37 [v64 y618.f_Packets, v64 y618.f_Bytes], .box g27 41 [vI nv20.f_Kind, vB nv20.f_Key.f_Src.f_Six, o8 nv20.f_Key.f_Src.f_B 0, o8 nv20.f_Key.f_Src.f_B 1, o8 nv20.f_Key.f_Src.f_B 2, o8 nv20.f_Key.f_Src.f_B 3, o8 nv20.f_Key.f_Src.f_B 4, o8 nv20.f_Key.f_Src.f_B 5, o8 nv20.f_Key.f_Src.f_B 6, o8 nv20.f_Key.f_Src.f_B 7, o8 nv20.f_Key.f_Src.f_B 8, o8 nv20.f_Key.f_Src.f_B 9, o8 nv20.f_Key.f_Src.f_B 10, o8 nv20.f_Key.f_Src.f_B 11, o8 nv20.f_Key.f_Src.f_B 12, o8 nv20.f_Key.f_Src.f_B 13, o8 nv20.f_Key.f_Src.f_B 14, o8 nv20.f_Key.f_Src.f_B 15, vB nv20.f_Key.f_Dst.f_Six, o8 nv20.f_Key.f_Dst.f_B 0, o8 nv20.f_Key.f_Dst.f_B 1, o8 nv20.f_Key.f_Dst.f_B 2, o8 nv20.f_Key.f_Dst.f_B 3, o8 nv20.f_Key.f_Dst.f_B 4, o8 nv20.f_Key.f_Dst.f_B 5, o8 nv20.f_Key.f_Dst.f_B 6, o8 nv20.f_Key.f_Dst.f_B 7, o8 nv20.f_Key.f_Dst.f_B 8, o8 nv20.f_Key.f_Dst.f_B 9, o8 nv20.f_Key.f_Dst.f_B 10, o8 nv20.f_Key.f_Dst.f_B 11, o8 nv20.f_Key.f_Dst.f_B 12, o8 nv20.f_Key.f_Dst.f_B 13, o8 nv20.f_Key.f_Dst.f_B 14, o8 nv20.f_Key.f_Dst.f_B 15, v8 nv20.f_Key.f_Proto, v16 nv20.f_Key.f_SrcPort, v16 nv20.f_Key.f_DstPort, v64 nv20.f_Total.f_Packets, v64 nv20.f_Total.f_Bytes, .slice A21 (nv20.f_Records).length c22, v32 nv20.f_Epoch, v64 nv20.f_N, v64 nv20.f_First, v64 nv20.f_Next]] ∧ F_model_Model_refuse_j1 m1 m460 t461 (F_model_Model_refuse_L1 m1 nv20 k465) xv472 y618 t643 = some r) ?_ ?_
   ·refine KC.region ?_
    refine RL.val (O.loadN (cs := [vB xv472.f_Key.f_Src.f_Six, o8 xv472.f_Key.f_Src.f_B 0, o8 xv472.f_Key.f_Src.f_B 1, o8 xv472.f_Key.f_Src.f_B 2, o8 xv472.f_Key.f_Src.f_B 3, o8 xv472.f_Key.f_Src.f_B 4, o8 xv472.f_Key.f_Src.f_B 5, o8 xv472.f_Key.f_Src.f_B 6, o8 xv472.f_Key.f_Src.f_B 7, o8 xv472.f_Key.f_Src.f_B 8, o8 xv472.f_Key.f_Src.f_B 9, o8 xv472.f_Key.f_Src.f_B 10, o8 xv472.f_Key.f_Src.f_B 11, o8 xv472.f_Key.f_Src.f_B 12, o8 xv472.f_Key.f_Src.f_B 13, o8 xv472.f_Key.f_Src.f_B 14, o8 xv472.f_Key.f_Src.f_B 15, vB xv472.f_Key.f_Dst.f_Six, o8 xv472.f_Key.f_Dst.f_B 0, o8 xv472.f_Key.f_Dst.f_B 1, o8 xv472.f_Key.f_Dst.f_B 2, o8 xv472.f_Key.f_Dst.f_B 3, o8 xv472.f_Key.f_Dst.f_B 4, o8 xv472.f_Key.f_Dst.f_B 5, o8 xv472.f_Key.f_Dst.f_B 6, o8 xv472.f_Key.f_Dst.f_B 7, o8 xv472.f_Key.f_Dst.f_B 8, o8 xv472.f_Key.f_Dst.f_B 9, o8 xv472.f_Key.f_Dst.f_B 10, o8 xv472.f_Key.f_Dst.f_B 11, o8 xv472.f_Key.f_Dst.f_B 12, o8 xv472.f_Key.f_Dst.f_B 13, o8 xv472.f_Key.f_Dst.f_B 14, o8 xv472.f_Key.f_Dst.f_B 15, v8 xv472.f_Key.f_Proto, v16 xv472.f_Key.f_SrcPort, v16 xv472.f_Key.f_DstPort, v64 xv472.f_Packets, v64 xv472.f_Bytes, v64 xv472.f_First, v64 xv472.f_Last, v8 xv472.f_Flags, v8 xv472.f_Reason, v8 xv472.f_Class]) ag50 rfl (Cs.addsN [] ((hM.bx (i := 9) rfl)) rfl)) rfl ?_
    refine obindE hF fun y628 hx629 hF => ?_
    refine RL.call Try.func57 bd57 rfl rfl (c_flow_Record_Right _ xv472 _ hx629) fun v w630 hv => ?_
    obtain ⟨rfl, hN631⟩ := hv
    replace hM := hM.call0 hN631
    refine RL.val (O.not rfl) rfl ?_
    refine vm rfl rfl ?_
    refine RL.bcase (t := 27) rfl (fun hc => ?_) (fun hc => ?_)
    ·rw [if_pos hc] at hF
     refine RL.gskip rfl rfl rfl rfl ?_
     refine RL.gskip rfl rfl rfl rfl ?_
     refine RL.gskip rfl rfl rfl rfl ?_
     refine RL.gskip rfl rfl rfl rfl ?_
     refine RL.gskip rfl rfl rfl rfl ?_
     refine RL.val (O.pickt rfl rfl) rfl ?_
     refine vm rfl rfl ?_
     refine RL.gskip rfl rfl rfl rfl ?_
     refine RL.gskip rfl rfl rfl rfl ?_
     refine RL.gskip rfl rfl rfl rfl ?_
     refine RL.gskip rfl rfl rfl rfl ?_
     refine RL.gskip rfl rfl rfl rfl ?_
     refine RL.val (O.pickt rfl rfl) rfl ?_
     refine RL.nil ?_
     refine KQ.then_k ?_
     replace hM := hM.pick [0, 1, 2, 3, 4, 5, 6, 7, 9, 11, 10, 8] rfl (by decide)
     exact fun a ha => ⟨true, ha.less (less_cons rfl (less_cons rfl (less_cons rfl (less_cons rfl (less_cons rfl (less_cons rfl (less_cons rfl (less_cons rfl (less_cons rfl less_nil))))))))), hM, hF⟩
    rw [if_neg (ne_true hc)] at hF
    refine RL.gval rfl rfl (O.fldA fl37_0 (by decide) rfl) rfl ?_
    refine RL.gval rfl rfl (O.load sc35 rfl (Cs.adds [0] ((hM.bx (i := 10) rfl)) rfl)) rfl ?_
    refine RL.gval rfl rfl (O.fldA fl37_0 (by decide) rfl) rfl ?_
    refine RL.gval rfl rfl (O.load sc35 rfl (Cs.adds [0] ((hM.bx (i := 11) rfl)) rfl)) rfl ?_
    refine RL.gval rfl rfl (O.gtr rfl rfl) rfl ?_
    refine RL.val (O.pickf rfl rfl) rfl ?_
    refine vm rfl rfl ?_
    refine RL.bcase (t := 34) rfl (fun hc => ?_) (fun hc => ?_)
    ·rw [if_pos hc] at hF
     refine RL.gskip rfl rfl rfl rfl ?_
     refine RL.gskip rfl rfl rfl rfl ?_
     refine RL.gskip rfl rfl rfl rfl ?_
     refine RL.gskip rfl rfl rfl rfl ?_
     refine RL.gskip rfl rfl rfl rfl ?_
     refine RL.val (O.pickt rfl rfl) rfl ?_
     refine RL.nil ?_
     refine KQ.then_k ?_
     replace hM := hM.pick [0, 1, 2, 3, 4, 5, 6, 7, 9, 11, 10, 8] rfl (by decide)
     exact fun a ha => ⟨true, ha.less (less_cons rfl (less_cons rfl (less_cons rfl (less_cons rfl (less_cons rfl (less_cons rfl (less_cons rfl (less_cons rfl (less_cons rfl less_nil))))))))), hM, hF⟩
    rw [if_neg (ne_true hc)] at hF
    refine RL.gval rfl rfl (O.fldA fl37_1 (by decide) rfl) rfl ?_
    refine RL.gval rfl rfl (O.load sc35 rfl (Cs.adds [1] ((hM.bx (i := 10) rfl)) rfl)) rfl ?_
    refine RL.gval rfl rfl (O.fldA fl37_1 (by decide) rfl) rfl ?_
    refine RL.gval rfl rfl (O.load sc35 rfl (Cs.adds [1] ((hM.bx (i := 11) rfl)) rfl)) rfl ?_
    refine RL.gval rfl rfl (O.gtr rfl rfl) rfl ?_
    refine RL.val (O.pickf rfl rfl) rfl ?_
    refine RL.nil ?_
    refine KQ.then_k ?_
    replace hM := hM.pick [0, 1, 2, 3, 4, 5, 6, 7, 9, 11, 10, 8] rfl (by decide)
    exact fun a ha => ⟨(decide (((m460 xv472.f_Key).getD (T_flow_Total.mk 0 0)).f_Bytes < y618.f_Bytes)), ha.less (less_cons rfl (less_cons rfl (less_cons rfl (less_cons rfl (less_cons rfl (less_cons rfl (less_cons rfl (less_cons rfl (less_cons rfl less_nil))))))))), hM, hF⟩
   rintro a w645 ⟨t643, ha, hM, hF⟩
   refine KC.app ha ?_
   clear ha
   unfold F_model_Model_refuse_j1 at hF
   refine KC.cond rfl (fun hc => ?_) (fun hc => ?_)
   ·rw [if_pos hc] at hF
    refine sr fun Q646 hQ646 => ?_
    refine va rfl rfl ?_
    refine va rfl rfl ?_
    refine nt hQ646 ?_
    clear hQ646 Q646
    refine KC.ret ?_
    refine KQ.thr hQ627 ?_
    clear hQ627 Q627
    refine KQ.blk_r ?_
    refine KQ.thr hQ468 ?_
    clear hQ468 Q468
    refine KQ.then_r ?_
    refine KQ.blk_r ?_
    refine KQ.thr hQ39 ?_
    clear hQ39 Q39
    refine KQ.rets Try.results38 (RVs.cons (RV.tm rfl) (RVs.cons (RV.tm rfl) RVs.nil)) ?_
    refine ⟨.tuple #[.map none, vB false], rfl, ?_⟩
    refine RD.p rfl rfl rfl rfl (fun w' => O.move rfl) ?_
    refine RD.p rfl rfl rfl rfl (fun w' => O.ext rfl rfl) ?_
    refine RD.p rfl rfl rfl rfl (fun w' => O.ext rfl rfl) ?_
    refine RD.p rfl rfl rfl rfl (fun w' => O.assign rfl) ?_
    refine RD.p rfl rfl rfl rfl (fun w' => O.assign rfl) ?_
    refine RD.nil ?_
    refine KQ.thn hQ30 ?_
    clear hQ30 Q30
    replace hM := hM.pick [0, 1, 2, 3, 4, 5, 6, 11] rfl (by decide)
    refine KC.seqH fun Q647 hQ647 => ?_
    refine sr fun Q648 hQ648 => ?_
    refine vm rfl rfl ?_
    refine RL.val (O.not rfl) rfl ?_
    refine nt hQ648 ?_
    clear hQ648 Q648
    refine KC.condT rfl ?_
    refine sr fun Q649 hQ649 => ?_
    refine va rfl rfl ?_
    refine nt hQ649 ?_
    clear hQ649 Q649
    refine KC.ret ?_
    refine KQ.thr hQ647 ?_
    clear hQ647 Q647
    have hE := Option.some.inj hF
    clear hF
    subst hE
    replace hM := hM.pick [6, 0, 1, 2, 3, 4, 5] rfl (by decide)
    refine KQ.rets Try.results22 (RVs.cons (RV.tm rfl) RVs.nil) ?_
    exact ⟨_, rfl, g4, g6, g8, A10, c11, css13, Z14, A16, c17, rfl, hM⟩
   rw [if_neg (ne_true hc)] at hF
   refine KC.skip ?_
   refine KQ.thn hQ627 ?_
   clear hQ627 Q627
   refine KC.region ?_
   refine vm rfl rfl ?_
   refine RL.val (O.fldA fl50_0 (by decide) rfl) rfl ?_
   refine RL.val (O.loadN (cs := [vB xv472.f_Key.f_Src.f_Six, o8 xv472.f_Key.f_Src.f_B 0, o8 xv472.f_Key.f_Src.f_B 1, o8 xv472.f_Key.f_Src.f_B 2, o8 xv472.f_Key.f_Src.f_B 3, o8 xv472.f_Key.f_Src.f_B 4, o8 xv472.f_Key.f_Src.f_B 5, o8 xv472.f_Key.f_Src.f_B 6, o8 xv472.f_Key.f_Src.f_B 7, o8 xv472.f_Key.f_Src.f_B 8, o8 xv472.f_Key.f_Src.f_B 9, o8 xv472.f_Key.f_Src.f_B 10, o8 xv472.f_Key.f_Src.f_B 11, o8 xv472.f_Key.f_Src.f_B 12, o8 xv472.f_Key.f_Src.f_B 13, o8 xv472.f_Key.f_Src.f_B 14, o8 xv472.f_Key.f_Src.f_B 15, vB xv472.f_Key.f_Dst.f_Six, o8 xv472.f_Key.f_Dst.f_B 0, o8 xv472.f_Key.f_Dst.f_B 1, o8 xv472.f_Key.f_Dst.f_B 2, o8 xv472.f_Key.f_Dst.f_B 3, o8 xv472.f_Key.f_Dst.f_B 4, o8 xv472.f_Key.f_Dst.f_B 5, o8 xv472.f_Key.f_Dst.f_B 6, o8 xv472.f_Key.f_Dst.f_B 7, o8 xv472.f_Key.f_Dst.f_B 8, o8 xv472.f_Key.f_Dst.f_B 9, o8 xv472.f_Key.f_Dst.f_B 10, o8 xv472.f_Key.f_Dst.f_B 11, o8 xv472.f_Key.f_Dst.f_B 12, o8 xv472.f_Key.f_Dst.f_B 13, o8 xv472.f_Key.f_Dst.f_B 14, o8 xv472.f_Key.f_Dst.f_B 15, v8 xv472.f_Key.f_Proto, v16 xv472.f_Key.f_SrcPort, v16 xv472.f_Key.f_DstPort]) ag34 rfl (Cs.addsN [0] ((hM.bx (i := 8) rfl)) rfl)) rfl ?_
   refine RL.val (O.fldA fl37_0 (by decide) rfl) rfl ?_
   refine RL.val (O.load sc35 rfl (Cs.adds [0] ((hM.bx (i := 9) rfl)) rfl)) rfl ?_
   refine RL.val (O.fldA fl37_0 (by decide) rfl) rfl ?_
   refine RL.val (O.load sc35 rfl (Cs.adds [0] ((hM.bx (i := 10) rfl)) rfl)) rfl ?_
   refine RL.val (O.sub rfl rfl) rfl ?_
   refine RL.val (O.fldA fl37_1 (by decide) rfl) rfl ?_
   refine RL.val (O.load sc35 rfl (Cs.adds [1] ((hM.bx (i := 9) rfl)) rfl)) rfl ?_
   refine RL.val (O.fldA fl37_1 (by decide) rfl) rfl ?_
   refine RL.val (O.load sc35 rfl (Cs.adds [1] ((hM.bx (i := 10) rfl)) rfl)) rfl ?_
   refine RL.val (O.sub rfl rfl) rfl ?_
   refine RL.val (O.bld (cs := [v64 (IntKind.u64.wrap (((m460 xv472.f_Key).getD (T_flow_Total.mk 0 0)).f_Packets - y618.f_Packets)), v64 (IntKind.u64.wrap (((m460 xv472.f_Key).getD (T_flow_Total.mk 0 0)).f_Bytes - y618.f_Bytes))]) bt37 rfl (by kernel_rfl)) rfl ?_
   refine RL.effs (E.mup (k := xv472.f_Key) (u := (T_flow_Total.mk (IntKind.u64.wrap (((m460 xv472.f_Key).getD (T_flow_Total.mk 0 0)).f_Packets - y618.f_Packets)) (IntKind.u64.wrap (((m460 xv472.f_Key).getD (T_flow_Total.mk 0 0)).f_Bytes - y618.f_Bytes)))) (ks := [vB xv472.f_Key.f_Src.f_Six, o8 xv472.f_Key.f_Src.f_B 0, o8 xv472.f_Key.f_Src.f_B 1, o8 xv472.f_Key.f_Src.f_B 2, o8 xv472.f_Key.f_Src.f_B 3, o8 xv472.f_Key.f_Src.f_B 4, o8 xv472.f_Key.f_Src.f_B 5, o8 xv472.f_Key.f_Src.f_B 6, o8 xv472.f_Key.f_Src.f_B 7, o8 xv472.f_Key.f_Src.f_B 8, o8 xv472.f_Key.f_Src.f_B 9, o8 xv472.f_Key.f_Src.f_B 10, o8 xv472.f_Key.f_Src.f_B 11, o8 xv472.f_Key.f_Src.f_B 12, o8 xv472.f_Key.f_Src.f_B 13, o8 xv472.f_Key.f_Src.f_B 14, o8 xv472.f_Key.f_Src.f_B 15, vB xv472.f_Key.f_Dst.f_Six, o8 xv472.f_Key.f_Dst.f_B 0, o8 xv472.f_Key.f_Dst.f_B 1, o8 xv472.f_Key.f_Dst.f_B 2, o8 xv472.f_Key.f_Dst.f_B 3, o8 xv472.f_Key.f_Dst.f_B 4, o8 xv472.f_Key.f_Dst.f_B 5, o8 xv472.f_Key.f_Dst.f_B 6, o8 xv472.f_Key.f_Dst.f_B 7, o8 xv472.f_Key.f_Dst.f_B 8, o8 xv472.f_Key.f_Dst.f_B 9, o8 xv472.f_Key.f_Dst.f_B 10, o8 xv472.f_Key.f_Dst.f_B 11, o8 xv472.f_Key.f_Dst.f_B 12, o8 xv472.f_Key.f_Dst.f_B 13, o8 xv472.f_Key.f_Dst.f_B 14, o8 xv472.f_Key.f_Dst.f_B 15, v8 xv472.f_Key.f_Proto, v16 xv472.f_Key.f_SrcPort, v16 xv472.f_Key.f_DstPort]) (us := [v64 (IntKind.u64.wrap (((m460 xv472.f_Key).getD (T_flow_Total.mk 0 0)).f_Packets - y618.f_Packets)), v64 (IntKind.u64.wrap (((m460 xv472.f_Key).getD (T_flow_Total.mk 0 0)).f_Bytes - y618.f_Bytes))]) mt62 hM (j := 7) rfl rfl rfl rfl rfl rfl) fun w650 hM1 => ?_
   clear hM
   have hM := hM1
   clear hM1
   refine RL.nil ?_
   refine KQ.blk_n ?_
   refine KQ.thn hQ468 ?_
   clear hQ468 Q468
   replace hM := hM.pick [0, 1, 2, 3, 4, 5, 6, 7, 11] rfl (by decide)
   refine KC.region ?_
   refine RL.val (O.add rfl rfl) rfl ?_
   refine vm rfl rfl ?_
   refine RL.nil ?_
   refine KQ.then_k ?_
   exact fun a ha => ⟨k465, Nat.lt_succ_self k465, (mput q_packet_Key m460 xv472.f_Key (T_flow_Total.mk (IntKind.u64.wrap (((m460 xv472.f_Key).getD (T_flow_Total.mk 0 0)).f_Packets - y618.f_Packets)) (IntKind.u64.wrap (((m460 xv472.f_Key).getD (T_flow_Total.mk 0 0)).f_Bytes - y618.f_Bytes)))), (IntKind.i64.wrap (t461 + 1)), ha.less (less_cons rfl (less_cons rfl (less_cons rfl (less_cons rfl (less_cons rfl less_nil))))), hM, hF⟩
  refine RD.meff rfl rfl (E.alloc hM ze37) rfl fun v w652 hv => ?_
  clear hM
  obtain ⟨g651, rfl, hM, hf⟩ := hv
  refine ⟨fun _ => hf, ?_⟩
  refine obindE hF fun y654 hx655 hF => ?_
  refine RD.mcall rfl rfl trivial Try.func13 bd13 rfl rfl (c_flow_Record_Total _ xv472 _ hx655) fun v w656 hv => ?_
  obtain ⟨rfl, hN657⟩ := hv
  refine ⟨fun _ => hN657.fut, ?_⟩
  replace hM := hM.call0 hN657
  refine RD.meffs rfl rfl rfl (E.stB (j := 11) (off := 0) (vs := [v64 (((m460 xv472.f_Key).getD (T_flow_Total.mk 0 0)).f_Packets), v64 (((m460 xv472.f_Key).getD (T_flow_Total.mk 0 0)).f_Bytes)]) (cs' := [v64 (((m460 xv472.f_Key).getD (T_flow_Total.mk 0 0)).f_Packets), v64 (((m460 xv472.f_Key).getD (T_flow_Total.mk 0 0)).f_Bytes)]) hM rfl sz37 rfl (adds_eq [] rfl) rfl rfl (One.all rfl) rfl rfl) fun w658 hM1 => ?_
  clear hM
  have hM := hM1
  clear hM1
  refine RD.meffs rfl rfl rfl (E.stB (j := 10) (off := 0) (vs := [v64 y654.f_Packets, v64 y654.f_Bytes]) (cs' := [v64 y654.f_Packets, v64 y654.f_Bytes]) hM rfl sz37 rfl (adds_eq [] rfl) rfl rfl (One.all rfl) rfl rfl) fun w659 hM1 => ?_
  clear hM
  have hM := hM1
  clear hM1
  refine RD.nil ?_
  refine KQ.thn hQ477 ?_
  clear hQ477 Q477
  refine KC.seqH fun Q660 hQ660 => ?_
  refine KC.cut (fun a w678 => ∃ (t676 : Bool), Kn 60 [(0, .map (some g37)), (1, .slice A21 (nv20.f_Records).length c22), (7, .pointer (some ⟨g473, 0, none⟩)), (8, .pointer (some ⟨g651, 0, none⟩)), (9, .pointer (some ⟨g615, 0, none⟩)), (12, .slice A21 (nv20.f_Records).length c22), (13, vI (nv20.f_Records.length : Int)), (14, vI t461), (40, vB t676)] a ∧ Mem w ([some g2] ++ ([some g4] ++ ([some g6] ++ ([some g8] ++ ([rblk A10 c11] ++ (Z14.map some ++ ([rblk A16 c17] ++ ([])))))))) w678 [.res [g4] (MR62 g4 m1.f_forwarded), .res [g6] (MR62 g6 m1.f_cached), .res [g8] (MR62 g8 m1.f_lost), .row A10 c11 47 6 (m1.f_entries).length (css13).flatten, .res Z14 (Els RO_model_Entry 6 m1.f_entries css13 Z14), .row A16 c17 3 1 (m1.f_line).length ((m1.f_line).flatMap (eI .i64)), .box g2 tg19 [.map (some g4), .map (some g6), .map (some g8), .slice A10 (m1.f_entries).length c11, .slice A16 (m1.f_line).length c17, v64 m1.f_first, v32 m1.f_boot], .res [g37] (MR62 g37 m460), .box g473 50 [vB xv472.f_Key.f_Src.f_Six, o8 xv472.f_Key.f_Src.f_B 0, o8 xv472.f_Key.f_Src.f_B 1, o8 xv472.f_Key.f_Src.f_B 2, o8 xv472.f_Key.f_Src.f_B 3, o8 xv472.f_Key.f_Src.f_B 4, o8 xv472.f_Key.f_Src.f_B 5, o8 xv472.f_Key.f_Src.f_B 6, o8 xv472.f_Key.f_Src.f_B 7, o8 xv472.f_Key.f_Src.f_B 8, o8 xv472.f_Key.f_Src.f_B 9, o8 xv472.f_Key.f_Src.f_B 10, o8 xv472.f_Key.f_Src.f_B 11, o8 xv472.f_Key.f_Src.f_B 12, o8 xv472.f_Key.f_Src.f_B 13, o8 xv472.f_Key.f_Src.f_B 14, o8 xv472.f_Key.f_Src.f_B 15, vB xv472.f_Key.f_Dst.f_Six, o8 xv472.f_Key.f_Dst.f_B 0, o8 xv472.f_Key.f_Dst.f_B 1, o8 xv472.f_Key.f_Dst.f_B 2, o8 xv472.f_Key.f_Dst.f_B 3, o8 xv472.f_Key.f_Dst.f_B 4, o8 xv472.f_Key.f_Dst.f_B 5, o8 xv472.f_Key.f_Dst.f_B 6, o8 xv472.f_Key.f_Dst.f_B 7, o8 xv472.f_Key.f_Dst.f_B 8, o8 xv472.f_Key.f_Dst.f_B 9, o8 xv472.f_Key.f_Dst.f_B 10, o8 xv472.f_Key.f_Dst.f_B 11, o8 xv472.f_Key.f_Dst.f_B 12, o8 xv472.f_Key.f_Dst.f_B 13, o8 xv472.f_Key.f_Dst.f_B 14, o8 xv472.f_Key.f_Dst.f_B 15, v8 xv472.f_Key.f_Proto, v16 xv472.f_Key.f_SrcPort, v16 xv472.f_Key.f_DstPort, v64 xv472.f_Packets, v64 xv472.f_Bytes, v64 xv472.f_First, v64 xv472.f_Last, v8 xv472.f_Flags, v8 xv472.f_Reason, v8 xv472.f_Class], .box g651 37 [v64 (((m460 xv472.f_Key).getD (T_flow_Total.mk 0 0)).f_Packets), v64 (((m460 xv472.f_Key).getD (T_flow_Total.mk 0 0)).f_Bytes)], .box g615 37 [v64 y654.f_Packets, v64 y654.f_Bytes], .box g27 41 [vI nv20.f_Kind, vB nv20.f_Key.f_Src.f_Six, o8 nv20.f_Key.f_Src.f_B 0, o8 nv20.f_Key.f_Src.f_B 1, o8 nv20.f_Key.f_Src.f_B 2, o8 nv20.f_Key.f_Src.f_B 3, o8 nv20.f_Key.f_Src.f_B 4, o8 nv20.f_Key.f_Src.f_B 5, o8 nv20.f_Key.f_Src.f_B 6, o8 nv20.f_Key.f_Src.f_B 7, o8 nv20.f_Key.f_Src.f_B 8, o8 nv20.f_Key.f_Src.f_B 9, o8 nv20.f_Key.f_Src.f_B 10, o8 nv20.f_Key.f_Src.f_B 11, o8 nv20.f_Key.f_Src.f_B 12, o8 nv20.f_Key.f_Src.f_B 13, o8 nv20.f_Key.f_Src.f_B 14, o8 nv20.f_Key.f_Src.f_B 15, vB nv20.f_Key.f_Dst.f_Six, o8 nv20.f_Key.f_Dst.f_B 0, o8 nv20.f_Key.f_Dst.f_B 1, o8 nv20.f_Key.f_Dst.f_B 2, o8 nv20.f_Key.f_Dst.f_B 3, o8 nv20.f_Key.f_Dst.f_B 4, o8 nv20.f_Key.f_Dst.f_B 5, o8 nv20.f_Key.f_Dst.f_B 6, o8 nv20.f_Key.f_Dst.f_B 7, o8 nv20.f_Key.f_Dst.f_B 8, o8 nv20.f_Key.f_Dst.f_B 9, o8 nv20.f_Key.f_Dst.f_B 10, o8 nv20.f_Key.f_Dst.f_B 11, o8 nv20.f_Key.f_Dst.f_B 12, o8 nv20.f_Key.f_Dst.f_B 13, o8 nv20.f_Key.f_Dst.f_B 14, o8 nv20.f_Key.f_Dst.f_B 15, v8 nv20.f_Key.f_Proto, v16 nv20.f_Key.f_SrcPort, v16 nv20.f_Key.f_DstPort, v64 nv20.f_Total.f_Packets, v64 nv20.f_Total.f_Bytes, .slice A21 (nv20.f_Records).length c22, v32 nv20.f_Epoch, v64 nv20.f_N, v64 nv20.f_First, v64 nv20.f_Next]] ∧ F_model_Model_refuse_j1 m1 m460 t461 (F_model_Model_refuse_L1 m1 nv20 k465) xv472 y654 t676 = some r) ?_ ?_
  ·refine KC.region ?_
   refine RL.val (O.loadN (cs := [vB xv472.f_Key.f_Src.f_Six, o8 xv472.f_Key.f_Src.f_B 0, o8 xv472.f_Key.f_Src.f_B 1, o8 xv472.f_Key.f_Src.f_B 2, o8 xv472.f_Key.f_Src.f_B 3, o8 xv472.f_Key.f_Src.f_B 4, o8 xv472.f_Key.f_Src.f_B 5, o8 xv472.f_Key.f_Src.f_B 6, o8 xv472.f_Key.f_Src.f_B 7, o8 xv472.f_Key.f_Src.f_B 8, o8 xv472.f_Key.f_Src.f_B 9, o8 xv472.f_Key.f_Src.f_B 10, o8 xv472.f_Key.f_Src.f_B 11, o8 xv472.f_Key.f_Src.f_B 12, o8 xv472.f_Key.f_Src.f_B 13, o8 xv472.f_Key.f_Src.f_B 14, o8 xv472.f_Key.f_Src.f_B 15, vB xv472.f_Key.f_Dst.f_Six, o8 xv472.f_Key.f_Dst.f_B 0, o8 xv472.f_Key.f_Dst.f_B 1, o8 xv472.f_Key.f_Dst.f_B 2, o8 xv472.f_Key.f_Dst.f_B 3, o8 xv472.f_Key.f_Dst.f_B 4, o8 xv472.f_Key.f_Dst.f_B 5, o8 xv472.f_Key.f_Dst.f_B 6, o8 xv472.f_Key.f_Dst.f_B 7, o8 xv472.f_Key.f_Dst.f_B 8, o8 xv472.f_Key.f_Dst.f_B 9, o8 xv472.f_Key.f_Dst.f_B 10, o8 xv472.f_Key.f_Dst.f_B 11, o8 xv472.f_Key.f_Dst.f_B 12, o8 xv472.f_Key.f_Dst.f_B 13, o8 xv472.f_Key.f_Dst.f_B 14, o8 xv472.f_Key.f_Dst.f_B 15, v8 xv472.f_Key.f_Proto, v16 xv472.f_Key.f_SrcPort, v16 xv472.f_Key.f_DstPort, v64 xv472.f_Packets, v64 xv472.f_Bytes, v64 xv472.f_First, v64 xv472.f_Last, v8 xv472.f_Flags, v8 xv472.f_Reason, v8 xv472.f_Class]) ag50 rfl (Cs.addsN [] ((hM.bx (i := 9) rfl)) rfl)) rfl ?_
   refine obindE hF fun y661 hx662 hF => ?_
   refine RL.call Try.func57 bd57 rfl rfl (c_flow_Record_Right _ xv472 _ hx662) fun v w663 hv => ?_
   obtain ⟨rfl, hN664⟩ := hv
   replace hM := hM.call0 hN664
   refine RL.val (O.not rfl) rfl ?_
   refine vm rfl rfl ?_
   refine RL.bcase (t := 27) rfl (fun hc => ?_) (fun hc => ?_)
   ·rw [if_pos hc] at hF
    refine RL.gskip rfl rfl rfl rfl ?_
    refine RL.gskip rfl rfl rfl rfl ?_
    refine RL.gskip rfl rfl rfl rfl ?_
    refine RL.gskip rfl rfl rfl rfl ?_
    refine RL.gskip rfl rfl rfl rfl ?_
    refine RL.val (O.pickt rfl rfl) rfl ?_
    refine vm rfl rfl ?_
    refine RL.gskip rfl rfl rfl rfl ?_
    refine RL.gskip rfl rfl rfl rfl ?_
    refine RL.gskip rfl rfl rfl rfl ?_
    refine RL.gskip rfl rfl rfl rfl ?_
    refine RL.gskip rfl rfl rfl rfl ?_
    refine RL.val (O.pickt rfl rfl) rfl ?_
    refine RL.nil ?_
    refine KQ.then_k ?_
    replace hM := hM.pick [0, 1, 2, 3, 4, 5, 6, 7, 9, 11, 10, 8] rfl (by decide)
    exact fun a ha => ⟨true, ha.less (less_cons rfl (less_cons rfl (less_cons rfl (less_cons rfl (less_cons rfl (less_cons rfl (less_cons rfl (less_cons rfl (less_cons rfl less_nil))))))))), hM, hF⟩
   rw [if_neg (ne_true hc)] at hF
   refine RL.gval rfl rfl (O.fldA fl37_0 (by decide) rfl) rfl ?_
   refine RL.gval rfl rfl (O.load sc35 rfl (Cs.adds [0] ((hM.bx (i := 10) rfl)) rfl)) rfl ?_
   refine RL.gval rfl rfl (O.fldA fl37_0 (by decide) rfl) rfl ?_
   refine RL.gval rfl rfl (O.load sc35 rfl (Cs.adds [0] ((hM.bx (i := 11) rfl)) rfl)) rfl ?_
   refine RL.gval rfl rfl (O.gtr rfl rfl) rfl ?_
   refine RL.val (O.pickf rfl rfl) rfl ?_
   refine vm rfl rfl ?_
   refine RL.bcase (t := 34) rfl (fun hc => ?_) (fun hc => ?_)
   ·rw [if_pos hc] at hF
    refine RL.gskip rfl rfl rfl rfl ?_
    refine RL.gskip rfl rfl rfl rfl ?_
    refine RL.gskip rfl rfl rfl rfl ?_
    refine RL.gskip rfl rfl rfl rfl ?_
    refine RL.gskip rfl rfl rfl rfl ?_
    refine RL.val (O.pickt rfl rfl) rfl ?_
    refine RL.nil ?_
    refine KQ.then_k ?_
    replace hM := hM.pick [0, 1, 2, 3, 4, 5, 6, 7, 9, 11, 10, 8] rfl (by decide)
    exact fun a ha => ⟨true, ha.less (less_cons rfl (less_cons rfl (less_cons rfl (less_cons rfl (less_cons rfl (less_cons rfl (less_cons rfl (less_cons rfl (less_cons rfl less_nil))))))))), hM, hF⟩
   rw [if_neg (ne_true hc)] at hF
   refine RL.gval rfl rfl (O.fldA fl37_1 (by decide) rfl) rfl ?_
   refine RL.gval rfl rfl (O.load sc35 rfl (Cs.adds [1] ((hM.bx (i := 10) rfl)) rfl)) rfl ?_
   refine RL.gval rfl rfl (O.fldA fl37_1 (by decide) rfl) rfl ?_
   refine RL.gval rfl rfl (O.load sc35 rfl (Cs.adds [1] ((hM.bx (i := 11) rfl)) rfl)) rfl ?_
   refine RL.gval rfl rfl (O.gtr rfl rfl) rfl ?_
   refine RL.val (O.pickf rfl rfl) rfl ?_
   refine RL.nil ?_
   refine KQ.then_k ?_
   replace hM := hM.pick [0, 1, 2, 3, 4, 5, 6, 7, 9, 11, 10, 8] rfl (by decide)
   exact fun a ha => ⟨(decide (((m460 xv472.f_Key).getD (T_flow_Total.mk 0 0)).f_Bytes < y654.f_Bytes)), ha.less (less_cons rfl (less_cons rfl (less_cons rfl (less_cons rfl (less_cons rfl (less_cons rfl (less_cons rfl (less_cons rfl (less_cons rfl less_nil))))))))), hM, hF⟩
  rintro a w678 ⟨t676, ha, hM, hF⟩
  refine KC.app ha ?_
  clear ha
  unfold F_model_Model_refuse_j1 at hF
  refine KC.cond rfl (fun hc => ?_) (fun hc => ?_)
  ·rw [if_pos hc] at hF
   refine sr fun Q679 hQ679 => ?_
   refine va rfl rfl ?_
   refine va rfl rfl ?_
   refine nt hQ679 ?_
   clear hQ679 Q679
   refine KC.ret ?_
   refine KQ.thr hQ660 ?_
   clear hQ660 Q660
   refine KQ.blk_r ?_
   refine KQ.thr hQ468 ?_
   clear hQ468 Q468
   refine KQ.then_r ?_
   refine KQ.blk_r ?_
   refine KQ.thr hQ39 ?_
   clear hQ39 Q39
   refine KQ.rets Try.results38 (RVs.cons (RV.tm rfl) (RVs.cons (RV.tm rfl) RVs.nil)) ?_
   refine ⟨.tuple #[.map none, vB false], rfl, ?_⟩
   refine RD.p rfl rfl rfl rfl (fun w' => O.move rfl) ?_
   refine RD.p rfl rfl rfl rfl (fun w' => O.ext rfl rfl) ?_
   refine RD.p rfl rfl rfl rfl (fun w' => O.ext rfl rfl) ?_
   refine RD.p rfl rfl rfl rfl (fun w' => O.assign rfl) ?_
   refine RD.p rfl rfl rfl rfl (fun w' => O.assign rfl) ?_
   refine RD.nil ?_
   refine KQ.thn hQ30 ?_
   clear hQ30 Q30
   replace hM := hM.pick [0, 1, 2, 3, 4, 5, 6, 11] rfl (by decide)
   refine KC.seqH fun Q680 hQ680 => ?_
   refine sr fun Q681 hQ681 => ?_
   refine vm rfl rfl ?_
   refine RL.val (O.not rfl) rfl ?_
   refine nt hQ681 ?_
   clear hQ681 Q681
   refine KC.condT rfl ?_
   refine sr fun Q682 hQ682 => ?_
   refine va rfl rfl ?_
   refine nt hQ682 ?_
   clear hQ682 Q682
   refine KC.ret ?_
   refine KQ.thr hQ680 ?_
   clear hQ680 Q680
   have hE := Option.some.inj hF
   clear hF
   subst hE
   replace hM := hM.pick [6, 0, 1, 2, 3, 4, 5] rfl (by decide)
   refine KQ.rets Try.results22 (RVs.cons (RV.tm rfl) RVs.nil) ?_
   exact ⟨_, rfl, g4, g6, g8, A10, c11, css13, Z14, A16, c17, rfl, hM⟩
  rw [if_neg (ne_true hc)] at hF
  refine KC.skip ?_
  refine KQ.thn hQ660 ?_
  clear hQ660 Q660
  refine KC.region ?_
  refine vm rfl rfl ?_
  refine RL.val (O.fldA fl50_0 (by decide) rfl) rfl ?_
  refine RL.val (O.loadN (cs := [vB xv472.f_Key.f_Src.f_Six, o8 xv472.f_Key.f_Src.f_B 0, o8 xv472.f_Key.f_Src.f_B 1, o8 xv472.f_Key.f_Src.f_B 2, o8 xv472.f_Key.f_Src.f_B 3, o8 xv472.f_Key.f_Src.f_B 4, o8 xv472.f_Key.f_Src.f_B 5, o8 xv472.f_Key.f_Src.f_B 6, o8 xv472.f_Key.f_Src.f_B 7, o8 xv472.f_Key.f_Src.f_B 8, o8 xv472.f_Key.f_Src.f_B 9, o8 xv472.f_Key.f_Src.f_B 10, o8 xv472.f_Key.f_Src.f_B 11, o8 xv472.f_Key.f_Src.f_B 12, o8 xv472.f_Key.f_Src.f_B 13, o8 xv472.f_Key.f_Src.f_B 14, o8 xv472.f_Key.f_Src.f_B 15, vB xv472.f_Key.f_Dst.f_Six, o8 xv472.f_Key.f_Dst.f_B 0, o8 xv472.f_Key.f_Dst.f_B 1, o8 xv472.f_Key.f_Dst.f_B 2, o8 xv472.f_Key.f_Dst.f_B 3, o8 xv472.f_Key.f_Dst.f_B 4, o8 xv472.f_Key.f_Dst.f_B 5, o8 xv472.f_Key.f_Dst.f_B 6, o8 xv472.f_Key.f_Dst.f_B 7, o8 xv472.f_Key.f_Dst.f_B 8, o8 xv472.f_Key.f_Dst.f_B 9, o8 xv472.f_Key.f_Dst.f_B 10, o8 xv472.f_Key.f_Dst.f_B 11, o8 xv472.f_Key.f_Dst.f_B 12, o8 xv472.f_Key.f_Dst.f_B 13, o8 xv472.f_Key.f_Dst.f_B 14, o8 xv472.f_Key.f_Dst.f_B 15, v8 xv472.f_Key.f_Proto, v16 xv472.f_Key.f_SrcPort, v16 xv472.f_Key.f_DstPort]) ag34 rfl (Cs.addsN [0] ((hM.bx (i := 8) rfl)) rfl)) rfl ?_
  refine RL.val (O.fldA fl37_0 (by decide) rfl) rfl ?_
  refine RL.val (O.load sc35 rfl (Cs.adds [0] ((hM.bx (i := 9) rfl)) rfl)) rfl ?_
  refine RL.val (O.fldA fl37_0 (by decide) rfl) rfl ?_
  refine RL.val (O.load sc35 rfl (Cs.adds [0] ((hM.bx (i := 10) rfl)) rfl)) rfl ?_
  refine RL.val (O.sub rfl rfl) rfl ?_
  refine RL.val (O.fldA fl37_1 (by decide) rfl) rfl ?_
  refine RL.val (O.load sc35 rfl (Cs.adds [1] ((hM.bx (i := 9) rfl)) rfl)) rfl ?_
  refine RL.val (O.fldA fl37_1 (by decide) rfl) rfl ?_
  refine RL.val (O.load sc35 rfl (Cs.adds [1] ((hM.bx (i := 10) rfl)) rfl)) rfl ?_
  refine RL.val (O.sub rfl rfl) rfl ?_
  refine RL.val (O.bld (cs := [v64 (IntKind.u64.wrap (((m460 xv472.f_Key).getD (T_flow_Total.mk 0 0)).f_Packets - y654.f_Packets)), v64 (IntKind.u64.wrap (((m460 xv472.f_Key).getD (T_flow_Total.mk 0 0)).f_Bytes - y654.f_Bytes))]) bt37 rfl (by kernel_rfl)) rfl ?_
  refine RL.effs (E.mup (k := xv472.f_Key) (u := (T_flow_Total.mk (IntKind.u64.wrap (((m460 xv472.f_Key).getD (T_flow_Total.mk 0 0)).f_Packets - y654.f_Packets)) (IntKind.u64.wrap (((m460 xv472.f_Key).getD (T_flow_Total.mk 0 0)).f_Bytes - y654.f_Bytes)))) (ks := [vB xv472.f_Key.f_Src.f_Six, o8 xv472.f_Key.f_Src.f_B 0, o8 xv472.f_Key.f_Src.f_B 1, o8 xv472.f_Key.f_Src.f_B 2, o8 xv472.f_Key.f_Src.f_B 3, o8 xv472.f_Key.f_Src.f_B 4, o8 xv472.f_Key.f_Src.f_B 5, o8 xv472.f_Key.f_Src.f_B 6, o8 xv472.f_Key.f_Src.f_B 7, o8 xv472.f_Key.f_Src.f_B 8, o8 xv472.f_Key.f_Src.f_B 9, o8 xv472.f_Key.f_Src.f_B 10, o8 xv472.f_Key.f_Src.f_B 11, o8 xv472.f_Key.f_Src.f_B 12, o8 xv472.f_Key.f_Src.f_B 13, o8 xv472.f_Key.f_Src.f_B 14, o8 xv472.f_Key.f_Src.f_B 15, vB xv472.f_Key.f_Dst.f_Six, o8 xv472.f_Key.f_Dst.f_B 0, o8 xv472.f_Key.f_Dst.f_B 1, o8 xv472.f_Key.f_Dst.f_B 2, o8 xv472.f_Key.f_Dst.f_B 3, o8 xv472.f_Key.f_Dst.f_B 4, o8 xv472.f_Key.f_Dst.f_B 5, o8 xv472.f_Key.f_Dst.f_B 6, o8 xv472.f_Key.f_Dst.f_B 7, o8 xv472.f_Key.f_Dst.f_B 8, o8 xv472.f_Key.f_Dst.f_B 9, o8 xv472.f_Key.f_Dst.f_B 10, o8 xv472.f_Key.f_Dst.f_B 11, o8 xv472.f_Key.f_Dst.f_B 12, o8 xv472.f_Key.f_Dst.f_B 13, o8 xv472.f_Key.f_Dst.f_B 14, o8 xv472.f_Key.f_Dst.f_B 15, v8 xv472.f_Key.f_Proto, v16 xv472.f_Key.f_SrcPort, v16 xv472.f_Key.f_DstPort]) (us := [v64 (IntKind.u64.wrap (((m460 xv472.f_Key).getD (T_flow_Total.mk 0 0)).f_Packets - y654.f_Packets)), v64 (IntKind.u64.wrap (((m460 xv472.f_Key).getD (T_flow_Total.mk 0 0)).f_Bytes - y654.f_Bytes))]) mt62 hM (j := 7) rfl rfl rfl rfl rfl rfl) fun w683 hM1 => ?_
  clear hM
  have hM := hM1
  clear hM1
  refine RL.nil ?_
  refine KQ.blk_n ?_
  refine KQ.thn hQ468 ?_
  clear hQ468 Q468
  replace hM := hM.pick [0, 1, 2, 3, 4, 5, 6, 7, 11] rfl (by decide)
  refine KC.region ?_
  refine RL.val (O.add rfl rfl) rfl ?_
  refine vm rfl rfl ?_
  refine RL.nil ?_
  refine KQ.then_k ?_
  exact fun a ha => ⟨k465, Nat.lt_succ_self k465, (mput q_packet_Key m460 xv472.f_Key (T_flow_Total.mk (IntKind.u64.wrap (((m460 xv472.f_Key).getD (T_flow_Total.mk 0 0)).f_Packets - y654.f_Packets)) (IntKind.u64.wrap (((m460 xv472.f_Key).getD (T_flow_Total.mk 0 0)).f_Bytes - y654.f_Bytes)))), (IntKind.i64.wrap (t461 + 1)), ha.less (less_cons rfl (less_cons rfl (less_cons rfl (less_cons rfl (less_cons rfl less_nil))))), hM, hF⟩
 rw [if_neg (ne_true hc)] at hF
 refine KC.exit ?_
 refine KQ.thx hQ467 ?_
 clear hQ467 Q467
 refine KQ.then_x ?_
 refine KQ.blk_x ?_
 refine KQ.thn hQ39 ?_
 clear hQ39 Q39
 refine sr fun Q684 hQ684 => ?_
 refine vm rfl rfl ?_
 refine vm rfl rfl ?_
 refine RL.val (O.len sl38 rfl) rfl ?_
 refine RL.val (O.gtr rfl rfl) rfl ?_
 refine va rfl rfl ?_
 refine va rfl rfl ?_
 refine nt hQ684 ?_
 clear hQ684 Q684
 refine KC.ret ?_
 refine KQ.rets Try.results38 (RVs.cons (RV.tm rfl) (RVs.cons (RV.tm rfl) RVs.nil)) ?_
 refine ⟨.tuple #[.map (some g37), vB (decide (0 < (nv20.f_Records.length : Int)))], rfl, ?_⟩
 refine RD.p rfl rfl rfl rfl (fun w' => O.move rfl) ?_
 refine RD.p rfl rfl rfl rfl (fun w' => O.ext rfl rfl) ?_
 refine RD.p rfl rfl rfl rfl (fun w' => O.ext rfl rfl) ?_
 refine RD.p rfl rfl rfl rfl (fun w' => O.assign rfl) ?_
 refine RD.p rfl rfl rfl rfl (fun w' => O.assign rfl) ?_
 refine RD.nil ?_
 refine KQ.thn hQ30 ?_
 clear hQ30 Q30
 refine KC.seqH fun Q685 hQ685 => ?_
 refine sr fun Q686 hQ686 => ?_
 refine vm rfl rfl ?_
 refine RL.val (O.not rfl) rfl ?_
 refine nt hQ686 ?_
 clear hQ686 Q686
 refine KC.cond rfl (fun hc => ?_) (fun hc => ?_)
 ·rw [if_pos hc] at hF
  refine sr fun Q687 hQ687 => ?_
  refine va rfl rfl ?_
  refine nt hQ687 ?_
  clear hQ687 Q687
  refine KC.ret ?_
  refine KQ.thr hQ685 ?_
  clear hQ685 Q685
  have hE := Option.some.inj hF
  clear hF
  subst hE
  replace hM := hM.pick [6, 0, 1, 2, 3, 4, 5] rfl (by decide)
  refine KQ.rets Try.results22 (RVs.cons (RV.tm rfl) RVs.nil) ?_
  exact ⟨_, rfl, g4, g6, g8, A10, c11, css13, Z14, A16, c17, rfl, hM⟩
 rw [if_neg (ne_true hc)] at hF
 refine KC.skip ?_
 refine KQ.thn hQ685 ?_
 clear hQ685 Q685
 refine sr fun Q688 hQ688 => ?_
 refine vm rfl rfl ?_
 refine vm rfl rfl ?_
 refine RL.val (O.nilp rfl) rfl ?_
 refine RL.val (O.fldA fl65_1 (by decide) rfl) rfl ?_
 refine RL.effs (E.stB (j := 6) (off := 1) (vs := [.map (some g37)]) (cs' := [.map (some g4), .map (some g37), .map (some g8), .slice A10 (m1.f_entries).length c11, .slice A16 (m1.f_line).length c17, v64 m1.f_first, v32 m1.f_boot]) hM rfl sz62 rfl (adds_eq [1] rfl) rfl rfl (One.all rfl) rfl rfl) fun w689 hM1 => ?_
 clear hM
 have hM := hM1
 clear hM1
 refine nt hQ688 ?_
 clear hQ688 Q688
 replace hM := hM.pick [0, 2, 3, 4, 5, 6, 7, 8] rfl (by decide)
 refine KC.seqH fun Q690 hQ690 => ?_
 refine sr fun Q691 hQ691 => ?_
 refine RL.val (O.fldA fl41_3 (by decide) rfl) rfl ?_
 refine RL.val (O.load sc38 rfl (Cs.adds [40] ((hM.bx (i := 7) rfl)) rfl)) rfl ?_
 refine RL.val (O.len sl38 rfl) rfl ?_
 refine vm rfl rfl ?_
 refine nt hQ691 ?_
 clear hQ691 Q691
 replace hM := hM.pick [0, 1, 2, 3, 4, 5, 6] rfl (by decide)
 refine KC.block ?_
 refine KC.loop (fun k750 a w748 => ∃ (p743 : FM62) (t747 : Int), Kn 42 [(0, .pointer (some ⟨g2, 0, none⟩)), (26, .slice A21 (nv20.f_Records).length c22), (27, vI (nv20.f_Records.length : Int)), (28, vI t747)] a ∧ Mem w ([some g2] ++ ([some g4] ++ ([some g6] ++ ([some g8] ++ ([rblk A10 c11] ++ (Z14.map some ++ ([rblk A16 c17] ++ ([])))))))) w748 [.res [g4] (MR62 g4 m1.f_forwarded), .res [g37] (MR62 g37 m460), .res [g8] (MR62 g8 p743), .row A10 c11 47 6 (m1.f_entries).length (css13).flatten, .res Z14 (Els RO_model_Entry 6 m1.f_entries css13 Z14), .row A16 c17 3 1 (m1.f_line).length ((m1.f_line).flatMap (eI .i64)), .box g2 tg19 [.map (some g4), .map (some g37), .map (some g8), .slice A10 (m1.f_entries).length c11, .slice A16 (m1.f_line).length c17, v64 m1.f_first, v32 m1.f_boot]] ∧ F_model_Model_refuse_L2 m1 nv20 m460 k750 p743 t747 = some r) ?_ ?_
 ·replace hM := hM.pick [0, 6, 1, 2, 3, 4, 5] rfl (by decide)
  exact fun a ha => ⟨fuel0, m1.f_lost, 0, ha.less (less_cons rfl (less_cons rfl (less_cons rfl (less_cons rfl less_nil)))), hM, hF⟩
 rintro k750 a w748 ⟨p743, t747, ha, hM, hF⟩
 refine KC.app ha ?_
 clear ha
 cases k750 with
 | zero => exact (none_some hF).elim
 | succ k750 =>
 have hF : F_model_Model_refuse_l2 (F_model_Model_refuse_L2 m1 nv20 m460 k750) m1 nv20 m460 p743 t747 = some r := hF
 unfold F_model_Model_refuse_l2 at hF
 refine sr fun Q751 hQ751 => ?_
 refine RL.val (O.lss rfl rfl) rfl ?_
 refine nt hQ751 ?_
 clear hQ751 Q751
 refine KC.seqH fun Q752 hQ752 => ?_
 refine KC.cond rfl (fun hc => ?_) (fun hc => ?_)
 ·rw [if_pos hc] at hF
  refine KC.skip ?_
  refine KQ.thn hQ752 ?_
  clear hQ752 Q752
  refine KC.seqH fun Q753 hQ753 => ?_
  refine KC.block ?_
  refine sr fun Q754 hQ754 => ?_
  refine obindE hF fun xv757 hx756 hF => ?_
  have hA755 := Rd.atN (f := e_flow_Record) (s := 44) (fun _ => rfl) (by decide) (hM.inp hr23 ho24) hx756
  refine RL.val (O.idxA sl38 (hA755) rfl rfl) rfl ?_
  refine RL.val (O.loadN (cs := [vB xv757.f_Key.f_Src.f_Six, o8 xv757.f_Key.f_Src.f_B 0, o8 xv757.f_Key.f_Src.f_B 1, o8 xv757.f_Key.f_Src.f_B 2, o8 xv757.f_Key.f_Src.f_B 3, o8 xv757.f_Key.f_Src.f_B 4, o8 xv757.f_Key.f_Src.f_B 5, o8 xv757.f_Key.f_Src.f_B 6, o8 xv757.f_Key.f_Src.f_B 7, o8 xv757.f_Key.f_Src.f_B 8, o8 xv757.f_Key.f_Src.f_B 9, o8 xv757.f_Key.f_Src.f_B 10, o8 xv757.f_Key.f_Src.f_B 11, o8 xv757.f_Key.f_Src.f_B 12, o8 xv757.f_Key.f_Src.f_B 13, o8 xv757.f_Key.f_Src.f_B 14, o8 xv757.f_Key.f_Src.f_B 15, vB xv757.f_Key.f_Dst.f_Six, o8 xv757.f_Key.f_Dst.f_B 0, o8 xv757.f_Key.f_Dst.f_B 1, o8 xv757.f_Key.f_Dst.f_B 2, o8 xv757.f_Key.f_Dst.f_B 3, o8 xv757.f_Key.f_Dst.f_B 4, o8 xv757.f_Key.f_Dst.f_B 5, o8 xv757.f_Key.f_Dst.f_B 6, o8 xv757.f_Key.f_Dst.f_B 7, o8 xv757.f_Key.f_Dst.f_B 8, o8 xv757.f_Key.f_Dst.f_B 9, o8 xv757.f_Key.f_Dst.f_B 10, o8 xv757.f_Key.f_Dst.f_B 11, o8 xv757.f_Key.f_Dst.f_B 12, o8 xv757.f_Key.f_Dst.f_B 13, o8 xv757.f_Key.f_Dst.f_B 14, o8 xv757.f_Key.f_Dst.f_B 15, v8 xv757.f_Key.f_Proto, v16 xv757.f_Key.f_SrcPort, v16 xv757.f_Key.f_DstPort, v64 xv757.f_Packets, v64 xv757.f_Bytes, v64 xv757.f_First, v64 xv757.f_Last, v8 xv757.f_Flags, v8 xv757.f_Reason, v8 xv757.f_Class]) ag50 rfl (hA755).cells) rfl ?_
  refine RL.eff (E.alloc hM ze50) rfl fun v w759 hv => ?_
  clear hM
  obtain ⟨g758, rfl, hM, hf⟩ := hv
  refine RL.effs (E.stB (j := 7) (off := 0) (vs := [vB xv757.f_Key.f_Src.f_Six, o8 xv757.f_Key.f_Src.f_B 0, o8 xv757.f_Key.f_Src.f_B 1, o8 xv757.f_Key.f_Src.f_B 2, o8 xv757.f_Key.f_Src.f_B 3, o8 xv757.f_Key.f_Src.f_B 4, o8 xv757.f_Key.f_Src.f_B 5, o8 xv757.f_Key.f_Src.f_B 6, o8 xv757.f_Key.f_Src.f_B 7, o8 xv757.f_Key.f_Src.f_B 8, o8 xv757.f_Key.f_Src.f_B 9, o8 xv757.f_Key.f_Src.f_B 10, o8 xv757.f_Key.f_Src.f_B 11, o8 xv757.f_Key.f_Src.f_B 12, o8 xv757.f_Key.f_Src.f_B 13, o8 xv757.f_Key.f_Src.f_B 14, o8 xv757.f_Key.f_Src.f_B 15, vB xv757.f_Key.f_Dst.f_Six, o8 xv757.f_Key.f_Dst.f_B 0, o8 xv757.f_Key.f_Dst.f_B 1, o8 xv757.f_Key.f_Dst.f_B 2, o8 xv757.f_Key.f_Dst.f_B 3, o8 xv757.f_Key.f_Dst.f_B 4, o8 xv757.f_Key.f_Dst.f_B 5, o8 xv757.f_Key.f_Dst.f_B 6, o8 xv757.f_Key.f_Dst.f_B 7, o8 xv757.f_Key.f_Dst.f_B 8, o8 xv757.f_Key.f_Dst.f_B 9, o8 xv757.f_Key.f_Dst.f_B 10, o8 xv757.f_Key.f_Dst.f_B 11, o8 xv757.f_Key.f_Dst.f_B 12, o8 xv757.f_Key.f_Dst.f_B 13, o8 xv757.f_Key.f_Dst.f_B 14, o8 xv757.f_Key.f_Dst.f_B 15, v8 xv757.f_Key.f_Proto, v16 xv757.f_Key.f_SrcPort, v16 xv757.f_Key.f_DstPort, v64 xv757.f_Packets, v64 xv757.f_Bytes, v64 xv757.f_First, v64 xv757.f_Last, v8 xv757.f_Flags, v8 xv757.f_Reason, v8 xv757.f_Class]) (cs' := [vB xv757.f_Key.f_Src.f_Six, o8 xv757.f_Key.f_Src.f_B 0, o8 xv757.f_Key.f_Src.f_B 1, o8 xv757.f_Key.f_Src.f_B 2, o8 xv757.f_Key.f_Src.f_B 3, o8 xv757.f_Key.f_Src.f_B 4, o8 xv757.f_Key.f_Src.f_B 5, o8 xv757.f_Key.f_Src.f_B 6, o8 xv757.f_Key.f_Src.f_B 7, o8 xv757.f_Key.f_Src.f_B 8, o8 xv757.f_Key.f_Src.f_B 9, o8 xv757.f_Key.f_Src.f_B 10, o8 xv757.f_Key.f_Src.f_B 11, o8 xv757.f_Key.f_Src.f_B 12, o8 xv757.f_Key.f_Src.f_B 13, o8 xv757.f_Key.f_Src.f_B 14, o8 xv757.f_Key.f_Src.f_B 15, vB xv757.f_Key.f_Dst.f_Six, o8 xv757.f_Key.f_Dst.f_B 0, o8 xv757.f_Key.f_Dst.f_B 1, o8 xv757.f_Key.f_Dst.f_B 2, o8 xv757.f_Key.f_Dst.f_B 3, o8 xv757.f_Key.f_Dst.f_B 4, o8 xv757.f_Key.f_Dst.f_B 5, o8 xv757.f_Key.f_Dst.f_B 6, o8 xv757.f_Key.f_Dst.f_B 7, o8 xv757.f_Key.f_Dst.f_B 8, o8 xv757.f_Key.f_Dst.f_B 9, o8 xv757.f_Key.f_Dst.f_B 10, o8 xv757.f_Key.f_Dst.f_B 11, o8 xv757.f_Key.f_Dst.f_B 12, o8 xv757.f_Key.f_Dst.f_B 13, o8 xv757.f_Key.f_Dst.f_B 14, o8 xv757.f_Key.f_Dst.f_B 15, v8 xv757.f_Key.f_Proto, v16 xv757.f_Key.f_SrcPort, v16 xv757.f_Key.f_DstPort, v64 xv757.f_Packets, v64 xv757.f_Bytes, v64 xv757.f_First, v64 xv757.f_Last, v8 xv757.f_Flags, v8 xv757.f_Reason, v8 xv757.f_Class]) hM rfl sz50 rfl (adds_eq [] rfl) rfl rfl (One.all rfl) rfl rfl) fun w761 hM1 => ?_
  clear hM
  have hM := hM1
  clear hM1
  refine nt hQ754 ?_
  clear hQ754 Q754
  replace hM := hM.drewN 1
  refine KC.draw [] [8] [7, 8] [0, 1, 2, 4] (.ofList [0, 1, 2, 3, 4, 5, 6, 7, 8]) moP (by kernel_rfl) ?_
  refine RD.p rfl rfl rfl rfl (fun w' => O.move rfl) ?_
  refine RD.p rfl rfl rfl rfl (fun w' => O.nilp rfl) ?_
  refine RD.p rfl rfl rfl rfl (fun w' => O.fldA fl65_2 (by decide) rfl) ?_
  refine RD.q rfl rfl rfl rfl (fun w' hf => O.load sc62 rfl (Cs.adds [2] ((hM.bx (i := 6) rfl).fut hf) rfl)) ?_
  refine RD.p rfl rfl rfl rfl (fun w' => O.fldA fl50_0 (by decide) rfl) ?_
  refine RD.q rfl rfl rfl rfl (fun w' hf => O.loadN (cs := [vB xv757.f_Key.f_Src.f_Six, o8 xv757.f_Key.f_Src.f_B 0, o8 xv757.f_Key.f_Src.f_B 1, o8 xv757.f_Key.f_Src.f_B 2, o8 xv757.f_Key.f_Src.f_B 3, o8 xv757.f_Key.f_Src.f_B 4, o8 xv757.f_Key.f_Src.f_B 5, o8 xv757.f_Key.f_Src.f_B 6, o8 xv757.f_Key.f_Src.f_B 7, o8 xv757.f_Key.f_Src.f_B 8, o8 xv757.f_Key.f_Src.f_B 9, o8 xv757.f_Key.f_Src.f_B 10, o8 xv757.f_Key.f_Src.f_B 11, o8 xv757.f_Key.f_Src.f_B 12, o8 xv757.f_Key.f_Src.f_B 13, o8 xv757.f_Key.f_Src.f_B 14, o8 xv757.f_Key.f_Src.f_B 15, vB xv757.f_Key.f_Dst.f_Six, o8 xv757.f_Key.f_Dst.f_B 0, o8 xv757.f_Key.f_Dst.f_B 1, o8 xv757.f_Key.f_Dst.f_B 2, o8 xv757.f_Key.f_Dst.f_B 3, o8 xv757.f_Key.f_Dst.f_B 4, o8 xv757.f_Key.f_Dst.f_B 5, o8 xv757.f_Key.f_Dst.f_B 6, o8 xv757.f_Key.f_Dst.f_B 7, o8 xv757.f_Key.f_Dst.f_B 8, o8 xv757.f_Key.f_Dst.f_B 9, o8 xv757.f_Key.f_Dst.f_B 10, o8 xv757.f_Key.f_Dst.f_B 11, o8 xv757.f_Key.f_Dst.f_B 12, o8 xv757.f_Key.f_Dst.f_B 13, o8 xv757.f_Key.f_Dst.f_B 14, o8 xv757.f_Key.f_Dst.f_B 15, v8 xv757.f_Key.f_Proto, v16 xv757.f_Key.f_SrcPort, v16 xv757.f_Key.f_DstPort]) ag34 rfl (Cs.addsN [0] ((hM.bx (i := 7) rfl).fut hf) rfl)) ?_
  refine RD.q rfl rfl rfl rfl (fun w' hf => O.loadN (cs := [vB xv757.f_Key.f_Src.f_Six, o8 xv757.f_Key.f_Src.f_B 0, o8 xv757.f_Key.f_Src.f_B 1, o8 xv757.f_Key.f_Src.f_B 2, o8 xv757.f_Key.f_Src.f_B 3, o8 xv757.f_Key.f_Src.f_B 4, o8 xv757.f_Key.f_Src.f_B 5, o8 xv757.f_Key.f_Src.f_B 6, o8 xv757.f_Key.f_Src.f_B 7, o8 xv757.f_Key.f_Src.f_B 8, o8 xv757.f_Key.f_Src.f_B 9, o8 xv757.f_Key.f_Src.f_B 10, o8 xv757.f_Key.f_Src.f_B 11, o8 xv757.f_Key.f_Src.f_B 12, o8 xv757.f_Key.f_Src.f_B 13, o8 xv757.f_Key.f_Src.f_B 14, o8 xv757.f_Key.f_Src.f_B 15, vB xv757.f_Key.f_Dst.f_Six, o8 xv757.f_Key.f_Dst.f_B 0, o8 xv757.f_Key.f_Dst.f_B 1, o8 xv757.f_Key.f_Dst.f_B 2, o8 xv757.f_Key.f_Dst.f_B 3, o8 xv757.f_Key.f_Dst.f_B 4, o8 xv757.f_Key.f_Dst.f_B 5, o8 xv757.f_Key.f_Dst.f_B 6, o8 xv757.f_Key.f_Dst.f_B 7, o8 xv757.f_Key.f_Dst.f_B 8, o8 xv757.f_Key.f_Dst.f_B 9, o8 xv757.f_Key.f_Dst.f_B 10, o8 xv757.f_Key.f_Dst.f_B 11, o8 xv757.f_Key.f_Dst.f_B 12, o8 xv757.f_Key.f_Dst.f_B 13, o8 xv757.f_Key.f_Dst.f_B 14, o8 xv757.f_Key.f_Dst.f_B 15, v8 xv757.f_Key.f_Proto, v16 xv757.f_Key.f_SrcPort, v16 xv757.f_Key.f_DstPort, v64 xv757.f_Packets, v64 xv757.f_Bytes, v64 xv757.f_First, v64 xv757.f_Last, v8 xv757.f_Flags, v8 xv757.f_Reason, v8 xv757.f_Class]) ag50 rfl (Cs.addsN [] ((hM.bx (i := 7) rfl).fut hf) rfl)) ?_
  refine obindE hF fun y762 hx763 hF => ?_
  refine RD.mcall rfl rfl trivial Try.func13 bd13 rfl rfl (c_flow_Record_Total _ xv757 _ hx763) fun v w764 hv => ?_
  obtain ⟨rfl, hN765⟩ := hv
  refine ⟨fun _ => hN765.fut, ?_⟩
  replace hM := hM.call0 hN765
  refine obindE hF fun y766 hx767 hF => ?_
  refine RD.mcall rfl rfl trivial Try.func37 bd37 rfl rfl (c_model_totals_add _ _ p743 (hM.lent [2] rfl (by decide)) xv757.f_Key y762 _ hx767) fun v w768 hv => ?_
  obtain ⟨rfl, hN769⟩ := hv
  refine ⟨fun h => (by cases h), ?_⟩
  replace hM := hM.callL [2] [0, 1, 3, 4, 5, 6, 7] rfl rfl (by decide) rfl hN769
  refine RD.nil ?_
  refine KQ.blk_n ?_
  refine KQ.thn hQ753 ?_
  clear hQ753 Q753
  replace hM := hM.pick [0, 1, 2, 3, 4, 5, 7] rfl (by decide)
  refine KC.region ?_
  refine RL.val (O.add rfl rfl) rfl ?_
  refine vm rfl rfl ?_
  refine RL.nil ?_
  refine KQ.then_k ?_
  replace hM := hM.pick [0, 1, 6, 2, 3, 4, 5] rfl (by decide)
  exact fun a ha => ⟨k750, Nat.lt_succ_self k750, y766, (IntKind.i64.wrap (t747 + 1)), ha.less (less_cons rfl (less_cons rfl (less_cons rfl (less_cons rfl less_nil)))), hM, hF⟩
 rw [if_neg (ne_true hc)] at hF
 refine KC.exit ?_
 refine KQ.thx hQ752 ?_
 clear hQ752 Q752
 refine KQ.then_x ?_
 refine KQ.blk_x ?_
 refine KQ.thn hQ690 ?_
 clear hQ690 Q690
 refine sr fun Q770 hQ770 => ?_
 refine va rfl rfl ?_
 refine nt hQ770 ?_
 clear hQ770 Q770
 refine KC.ret ?_
 have hE := Option.some.inj hF
 clear hF
 subst hE
 replace hM := hM.pick [6, 0, 1, 2, 3, 4, 5] rfl (by decide)
 refine KQ.rets Try.results22 (RVs.cons (RV.tm rfl) RVs.nil) ?_
 exact ⟨_, rfl, g4, g37, g8, A10, c11, css13, Z14, A16, c17, rfl, hM⟩
end Go.Proofs.Ytidbgejnkpoeeaa
