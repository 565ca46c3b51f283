/- Printed by a program of this claim: each call returns what the plain function of its name gives. -/
import Derived.Test.YtkpnocgfhipidaaW1
import Derived.Test.YtkpnocgfhipidaaW9
import Derived.Test.YtkpnocgfhipidaaW10
import Derived.Test.YtkpnocgfhipidaaW11
set_option linter.unusedVariables false
namespace Go.Proofs.Ytkpnocgfhipidaa
open Go Go.Ox Go.RowKit
set_option maxRecDepth 100000 in
set_option maxHeartbeats 40000000 in
theorem c_cache_Cache_end (w : World) (g2 : Nat) (tg12 : TypeId) (cv1 : T_cache_Cache) (g4 : Nat) (A6 : Option Addr) (c7 : Nat) (A9 : Option Addr) (c10 : Nat) (hL15 : Lent w [.box g2 tg12 [v64 cv1.f_tick, vI cv1.f_bounds.f_Flows, v64 cv1.f_bounds.f_Idle, v64 cv1.f_bounds.f_Active, v64 cv1.f_bounds.f_Packets, v64 cv1.f_bounds.f_Bytes, .pointer (some ⟨g4, 0, none⟩), .slice A9 (cv1.f_flows).length c10], .box g4 96 [.slice A6 (cv1.f_places.f_slots).length c7, vI cv1.f_places.f_many], .row A6 c7 102 39 (cv1.f_places.f_slots).length ((cv1.f_places.f_slots).flatMap e_table_Slot), .row A9 c10 46 44 (cv1.f_flows).length ((cv1.f_flows).flatMap e_flow_Record)]) (kv13 : T_packet_Key) (reason14 : Int) (r : T_flow_Record × T_cache_Cache) (hF : F_cache_Cache_end cv1 kv13 reason14 = some r) :
  CallsR Try.prog 30 [.pointer (some ⟨g2, 0, none⟩), .agg #[vB kv13.f_Src.f_Six, o8 kv13.f_Src.f_B 0, o8 kv13.f_Src.f_B 1, o8 kv13.f_Src.f_B 2, o8 kv13.f_Src.f_B 3, o8 kv13.f_Src.f_B 4, o8 kv13.f_Src.f_B 5, o8 kv13.f_Src.f_B 6, o8 kv13.f_Src.f_B 7, o8 kv13.f_Src.f_B 8, o8 kv13.f_Src.f_B 9, o8 kv13.f_Src.f_B 10, o8 kv13.f_Src.f_B 11, o8 kv13.f_Src.f_B 12, o8 kv13.f_Src.f_B 13, o8 kv13.f_Src.f_B 14, o8 kv13.f_Src.f_B 15, vB kv13.f_Dst.f_Six, o8 kv13.f_Dst.f_B 0, o8 kv13.f_Dst.f_B 1, o8 kv13.f_Dst.f_B 2, o8 kv13.f_Dst.f_B 3, o8 kv13.f_Dst.f_B 4, o8 kv13.f_Dst.f_B 5, o8 kv13.f_Dst.f_B 6, o8 kv13.f_Dst.f_B 7, o8 kv13.f_Dst.f_B 8, o8 kv13.f_Dst.f_B 9, o8 kv13.f_Dst.f_B 10, o8 kv13.f_Dst.f_B 11, o8 kv13.f_Dst.f_B 12, o8 kv13.f_Dst.f_B 13, o8 kv13.f_Dst.f_B 14, o8 kv13.f_Dst.f_B 15, v8 kv13.f_Proto, v16 kv13.f_SrcPort, v16 kv13.f_DstPort], v8 reason14] w (fun v w' => ∃ (g0 : Nat) (A1 : Option Addr) (c1 : Nat) (A2 : Option Addr) (c2 : Nat), v = .agg #[vB r.1.f_Key.f_Src.f_Six, o8 r.1.f_Key.f_Src.f_B 0, o8 r.1.f_Key.f_Src.f_B 1, o8 r.1.f_Key.f_Src.f_B 2, o8 r.1.f_Key.f_Src.f_B 3, o8 r.1.f_Key.f_Src.f_B 4, o8 r.1.f_Key.f_Src.f_B 5, o8 r.1.f_Key.f_Src.f_B 6, o8 r.1.f_Key.f_Src.f_B 7, o8 r.1.f_Key.f_Src.f_B 8, o8 r.1.f_Key.f_Src.f_B 9, o8 r.1.f_Key.f_Src.f_B 10, o8 r.1.f_Key.f_Src.f_B 11, o8 r.1.f_Key.f_Src.f_B 12, o8 r.1.f_Key.f_Src.f_B 13, o8 r.1.f_Key.f_Src.f_B 14, o8 r.1.f_Key.f_Src.f_B 15, vB r.1.f_Key.f_Dst.f_Six, o8 r.1.f_Key.f_Dst.f_B 0, o8 r.1.f_Key.f_Dst.f_B 1, o8 r.1.f_Key.f_Dst.f_B 2, o8 r.1.f_Key.f_Dst.f_B 3, o8 r.1.f_Key.f_Dst.f_B 4, o8 r.1.f_Key.f_Dst.f_B 5, o8 r.1.f_Key.f_Dst.f_B 6, o8 r.1.f_Key.f_Dst.f_B 7, o8 r.1.f_Key.f_Dst.f_B 8, o8 r.1.f_Key.f_Dst.f_B 9, o8 r.1.f_Key.f_Dst.f_B 10, o8 r.1.f_Key.f_Dst.f_B 11, o8 r.1.f_Key.f_Dst.f_B 12, o8 r.1.f_Key.f_Dst.f_B 13, o8 r.1.f_Key.f_Dst.f_B 14, o8 r.1.f_Key.f_Dst.f_B 15, v8 r.1.f_Key.f_Proto, v16 r.1.f_Key.f_SrcPort, v16 r.1.f_Key.f_DstPort, v64 r.1.f_Packets, v64 r.1.f_Bytes, v64 r.1.f_First, v64 r.1.f_Last, v8 r.1.f_Flags, v8 r.1.f_Reason, v8 r.1.f_Class] ∧ Mem w [some g2, some g4, rblk A6 c7, rblk A9 c10] w' [.box g2 tg12 [v64 r.2.f_tick, vI r.2.f_bounds.f_Flows, v64 r.2.f_bounds.f_Idle, v64 r.2.f_bounds.f_Active, v64 r.2.f_bounds.f_Packets, v64 r.2.f_bounds.f_Bytes, .pointer (some ⟨g0, 0, none⟩), .slice A2 (r.2.f_flows).length c2], .box g0 96 [.slice A1 (r.2.f_places.f_slots).length c1, vI r.2.f_places.f_many], .row A1 c1 102 39 r.2.f_places.f_slots.length (r.2.f_places.f_slots.flatMap e_table_Slot), .row A2 c2 46 44 r.2.f_flows.length (r.2.f_flows.flatMap e_flow_Record)]) := by
 refine calls_KC Try.func30 rfl Try.ntmps30 rfl ?_
 have hM : Mem w [some g2, some g4, rblk A6 c7, rblk A9 c10] w [.box g2 tg12 [v64 cv1.f_tick, vI cv1.f_bounds.f_Flows, v64 cv1.f_bounds.f_Idle, v64 cv1.f_bounds.f_Active, v64 cv1.f_bounds.f_Packets, v64 cv1.f_bounds.f_Bytes, .pointer (some ⟨g4, 0, none⟩), .slice A9 (cv1.f_flows).length c10], .box g4 96 [.slice A6 (cv1.f_places.f_slots).length c7, vI cv1.f_places.f_many], .row A6 c7 102 39 (cv1.f_places.f_slots).length ((cv1.f_places.f_slots).flatMap e_table_Slot), .row A9 c10 46 44 (cv1.f_flows).length ((cv1.f_flows).flatMap e_flow_Record)] := Mem.lendN hL15
 unfold F_cache_Cache_end at hF
 refine sr fun Q16 hQ16 => ?_
 refine RL.eff (E.box (vs := [vB kv13.f_Src.f_Six, o8 kv13.f_Src.f_B 0, o8 kv13.f_Src.f_B 1, o8 kv13.f_Src.f_B 2, o8 kv13.f_Src.f_B 3, o8 kv13.f_Src.f_B 4, o8 kv13.f_Src.f_B 5, o8 kv13.f_Src.f_B 6, o8 kv13.f_Src.f_B 7, o8 kv13.f_Src.f_B 8, o8 kv13.f_Src.f_B 9, o8 kv13.f_Src.f_B 10, o8 kv13.f_Src.f_B 11, o8 kv13.f_Src.f_B 12, o8 kv13.f_Src.f_B 13, o8 kv13.f_Src.f_B 14, o8 kv13.f_Src.f_B 15, vB kv13.f_Dst.f_Six, o8 kv13.f_Dst.f_B 0, o8 kv13.f_Dst.f_B 1, o8 kv13.f_Dst.f_B 2, o8 kv13.f_Dst.f_B 3, o8 kv13.f_Dst.f_B 4, o8 kv13.f_Dst.f_B 5, o8 kv13.f_Dst.f_B 6, o8 kv13.f_Dst.f_B 7, o8 kv13.f_Dst.f_B 8, o8 kv13.f_Dst.f_B 9, o8 kv13.f_Dst.f_B 10, o8 kv13.f_Dst.f_B 11, o8 kv13.f_Dst.f_B 12, o8 kv13.f_Dst.f_B 13, o8 kv13.f_Dst.f_B 14, o8 kv13.f_Dst.f_B 15, v8 kv13.f_Proto, v16 kv13.f_SrcPort, v16 kv13.f_DstPort]) hM rfl rfl) rfl fun v w18 hv => ?_
 clear hM
 obtain ⟨g17, rfl, hM, hf⟩ := hv
 refine RL.eff (E.alloc hM ze46) rfl fun v w21 hv => ?_
 clear hM
 obtain ⟨g20, rfl, hM, hf⟩ := hv
 refine nt hQ16 ?_
 clear hQ16 Q16
 refine KC.seqH fun Q23 hQ23 => ?_
 replace hM := hM.drewN 1
 refine KC.draw [] [5] [5] [0, 1, 2, 6, 7, 8, 9, 10] (.ofList [0, 1, 2, 3, 4, 5, 6, 7, 8, 9, 10]) moP (by kernel_rfl) ?_
 refine RD.p rfl rfl rfl rfl (fun w' => O.move rfl) ?_
 refine RD.p rfl rfl rfl rfl (fun w' => O.nilp rfl) ?_
 refine RD.p rfl rfl rfl rfl (fun w' => O.fldA fl74_2 (by decide) rfl) ?_
 refine RD.q rfl rfl rfl rfl (fun w' hf => O.load sc68 rfl (Cs.adds [6] ((hM.bx (i := 0) rfl).fut hf) rfl)) ?_
 refine RD.q rfl rfl rfl rfl (fun w' hf => O.loadN (cs := [vB kv13.f_Src.f_Six, o8 kv13.f_Src.f_B 0, o8 kv13.f_Src.f_B 1, o8 kv13.f_Src.f_B 2, o8 kv13.f_Src.f_B 3, o8 kv13.f_Src.f_B 4, o8 kv13.f_Src.f_B 5, o8 kv13.f_Src.f_B 6, o8 kv13.f_Src.f_B 7, o8 kv13.f_Src.f_B 8, o8 kv13.f_Src.f_B 9, o8 kv13.f_Src.f_B 10, o8 kv13.f_Src.f_B 11, o8 kv13.f_Src.f_B 12, o8 kv13.f_Src.f_B 13, o8 kv13.f_Src.f_B 14, o8 kv13.f_Src.f_B 15, vB kv13.f_Dst.f_Six, o8 kv13.f_Dst.f_B 0, o8 kv13.f_Dst.f_B 1, o8 kv13.f_Dst.f_B 2, o8 kv13.f_Dst.f_B 3, o8 kv13.f_Dst.f_B 4, o8 kv13.f_Dst.f_B 5, o8 kv13.f_Dst.f_B 6, o8 kv13.f_Dst.f_B 7, o8 kv13.f_Dst.f_B 8, o8 kv13.f_Dst.f_B 9, o8 kv13.f_Dst.f_B 10, o8 kv13.f_Dst.f_B 11, o8 kv13.f_Dst.f_B 12, o8 kv13.f_Dst.f_B 13, o8 kv13.f_Dst.f_B 14, o8 kv13.f_Dst.f_B 15, v8 kv13.f_Proto, v16 kv13.f_SrcPort, v16 kv13.f_DstPort]) ag36 rfl (Cs.addsN [] ((hM.bx (i := 4) rfl).fut hf) rfl)) ?_
 refine obindE hF fun y24 hx25 hF => ?_
 refine RD.mcall rfl rfl trivial Try.func26 bd26 rfl rfl (c_table_Table_Get _ _ _ cv1.f_places _ _ (hM.lent [1, 2] rfl (by decide)) kv13 _ hx25) fun v w26 hv => ?_
 obtain ⟨A28, c29, rfl, hN27⟩ := hv
 refine ⟨fun h => (by cases h), ?_⟩
 replace hM := hM.callL [1, 2] [0, 3, 4, 5] rfl rfl (by decide) rfl hN27
 refine RD.p rfl rfl rfl rfl (fun w' => O.move rfl) ?_
 refine RD.p rfl rfl rfl rfl (fun w' => O.ext rfl rfl) ?_
 refine RD.p rfl rfl rfl rfl (fun w' => O.ext rfl rfl) ?_
 refine RD.p rfl rfl rfl rfl (fun w' => O.assign rfl) ?_
 refine RD.p rfl rfl rfl rfl (fun w' => O.assign rfl) ?_
 refine RD.nil ?_
 refine KQ.thn hQ23 ?_
 clear hQ23 Q23
 refine sr fun Q31 hQ31 => ?_
 refine vm rfl rfl ?_
 refine RL.val (O.nilp rfl) rfl ?_
 refine RL.val (O.fldA fl74_3 (by decide) rfl) rfl ?_
 refine RL.val (O.load sc41 rfl (Cs.adds [7] ((hM.bx (i := 0) rfl)) rfl)) rfl ?_
 refine vm rfl rfl ?_
 refine obindE hF fun xv34 hx33 hF => ?_
 have hA32 := Rd.atN (f := e_flow_Record) (s := 44) (fun _ => rfl) (by decide) (hM.rd (i := 1) rfl) hx33
 refine RL.val (O.idxA sl41 (hA32) rfl rfl) rfl ?_
 refine RL.val (O.loadN (cs := [vB xv34.f_Key.f_Src.f_Six, o8 xv34.f_Key.f_Src.f_B 0, o8 xv34.f_Key.f_Src.f_B 1, o8 xv34.f_Key.f_Src.f_B 2, o8 xv34.f_Key.f_Src.f_B 3, o8 xv34.f_Key.f_Src.f_B 4, o8 xv34.f_Key.f_Src.f_B 5, o8 xv34.f_Key.f_Src.f_B 6, o8 xv34.f_Key.f_Src.f_B 7, o8 xv34.f_Key.f_Src.f_B 8, o8 xv34.f_Key.f_Src.f_B 9, o8 xv34.f_Key.f_Src.f_B 10, o8 xv34.f_Key.f_Src.f_B 11, o8 xv34.f_Key.f_Src.f_B 12, o8 xv34.f_Key.f_Src.f_B 13, o8 xv34.f_Key.f_Src.f_B 14, o8 xv34.f_Key.f_Src.f_B 15, vB xv34.f_Key.f_Dst.f_Six, o8 xv34.f_Key.f_Dst.f_B 0, o8 xv34.f_Key.f_Dst.f_B 1, o8 xv34.f_Key.f_Dst.f_B 2, o8 xv34.f_Key.f_Dst.f_B 3, o8 xv34.f_Key.f_Dst.f_B 4, o8 xv34.f_Key.f_Dst.f_B 5, o8 xv34.f_Key.f_Dst.f_B 6, o8 xv34.f_Key.f_Dst.f_B 7, o8 xv34.f_Key.f_Dst.f_B 8, o8 xv34.f_Key.f_Dst.f_B 9, o8 xv34.f_Key.f_Dst.f_B 10, o8 xv34.f_Key.f_Dst.f_B 11, o8 xv34.f_Key.f_Dst.f_B 12, o8 xv34.f_Key.f_Dst.f_B 13, o8 xv34.f_Key.f_Dst.f_B 14, o8 xv34.f_Key.f_Dst.f_B 15, v8 xv34.f_Key.f_Proto, v16 xv34.f_Key.f_SrcPort, v16 xv34.f_Key.f_DstPort, v64 xv34.f_Packets, v64 xv34.f_Bytes, v64 xv34.f_First, v64 xv34.f_Last, v8 xv34.f_Flags, v8 xv34.f_Reason, v8 xv34.f_Class]) ag46 rfl (hA32).cells) rfl ?_
 refine RL.eff (E.alloc hM ze46) rfl fun v w36 hv => ?_
 clear hM
 obtain ⟨g35, rfl, hM, hf⟩ := hv
 refine RL.effs (E.stB (j := 6) (off := 0) (vs := [vB xv34.f_Key.f_Src.f_Six, o8 xv34.f_Key.f_Src.f_B 0, o8 xv34.f_Key.f_Src.f_B 1, o8 xv34.f_Key.f_Src.f_B 2, o8 xv34.f_Key.f_Src.f_B 3, o8 xv34.f_Key.f_Src.f_B 4, o8 xv34.f_Key.f_Src.f_B 5, o8 xv34.f_Key.f_Src.f_B 6, o8 xv34.f_Key.f_Src.f_B 7, o8 xv34.f_Key.f_Src.f_B 8, o8 xv34.f_Key.f_Src.f_B 9, o8 xv34.f_Key.f_Src.f_B 10, o8 xv34.f_Key.f_Src.f_B 11, o8 xv34.f_Key.f_Src.f_B 12, o8 xv34.f_Key.f_Src.f_B 13, o8 xv34.f_Key.f_Src.f_B 14, o8 xv34.f_Key.f_Src.f_B 15, vB xv34.f_Key.f_Dst.f_Six, o8 xv34.f_Key.f_Dst.f_B 0, o8 xv34.f_Key.f_Dst.f_B 1, o8 xv34.f_Key.f_Dst.f_B 2, o8 xv34.f_Key.f_Dst.f_B 3, o8 xv34.f_Key.f_Dst.f_B 4, o8 xv34.f_Key.f_Dst.f_B 5, o8 xv34.f_Key.f_Dst.f_B 6, o8 xv34.f_Key.f_Dst.f_B 7, o8 xv34.f_Key.f_Dst.f_B 8, o8 xv34.f_Key.f_Dst.f_B 9, o8 xv34.f_Key.f_Dst.f_B 10, o8 xv34.f_Key.f_Dst.f_B 11, o8 xv34.f_Key.f_Dst.f_B 12, o8 xv34.f_Key.f_Dst.f_B 13, o8 xv34.f_Key.f_Dst.f_B 14, o8 xv34.f_Key.f_Dst.f_B 15, v8 xv34.f_Key.f_Proto, v16 xv34.f_Key.f_SrcPort, v16 xv34.f_Key.f_DstPort, v64 xv34.f_Packets, v64 xv34.f_Bytes, v64 xv34.f_First, v64 xv34.f_Last, v8 xv34.f_Flags, v8 xv34.f_Reason, v8 xv34.f_Class]) (cs' := [vB xv34.f_Key.f_Src.f_Six, o8 xv34.f_Key.f_Src.f_B 0, o8 xv34.f_Key.f_Src.f_B 1, o8 xv34.f_Key.f_Src.f_B 2, o8 xv34.f_Key.f_Src.f_B 3, o8 xv34.f_Key.f_Src.f_B 4, o8 xv34.f_Key.f_Src.f_B 5, o8 xv34.f_Key.f_Src.f_B 6, o8 xv34.f_Key.f_Src.f_B 7, o8 xv34.f_Key.f_Src.f_B 8, o8 xv34.f_Key.f_Src.f_B 9, o8 xv34.f_Key.f_Src.f_B 10, o8 xv34.f_Key.f_Src.f_B 11, o8 xv34.f_Key.f_Src.f_B 12, o8 xv34.f_Key.f_Src.f_B 13, o8 xv34.f_Key.f_Src.f_B 14, o8 xv34.f_Key.f_Src.f_B 15, vB xv34.f_Key.f_Dst.f_Six, o8 xv34.f_Key.f_Dst.f_B 0, o8 xv34.f_Key.f_Dst.f_B 1, o8 xv34.f_Key.f_Dst.f_B 2, o8 xv34.f_Key.f_Dst.f_B 3, o8 xv34.f_Key.f_Dst.f_B 4, o8 xv34.f_Key.f_Dst.f_B 5, o8 xv34.f_Key.f_Dst.f_B 6, o8 xv34.f_Key.f_Dst.f_B 7, o8 xv34.f_Key.f_Dst.f_B 8, o8 xv34.f_Key.f_Dst.f_B 9, o8 xv34.f_Key.f_Dst.f_B 10, o8 xv34.f_Key.f_Dst.f_B 11, o8 xv34.f_Key.f_Dst.f_B 12, o8 xv34.f_Key.f_Dst.f_B 13, o8 xv34.f_Key.f_Dst.f_B 14, o8 xv34.f_Key.f_Dst.f_B 15, v8 xv34.f_Key.f_Proto, v16 xv34.f_Key.f_SrcPort, v16 xv34.f_Key.f_DstPort, v64 xv34.f_Packets, v64 xv34.f_Bytes, v64 xv34.f_First, v64 xv34.f_Last, v8 xv34.f_Flags, v8 xv34.f_Reason, v8 xv34.f_Class]) hM rfl sz46 rfl (adds_eq [] rfl) rfl rfl (One.all rfl) rfl rfl) fun w38 hM1 => ?_
 clear hM
 have hM := hM1
 clear hM1
 refine nt hQ31 ?_
 clear hQ31 Q31
 refine sr fun Q39 hQ39 => ?_
 refine vm rfl rfl ?_
 refine RL.val (O.nilp rfl) rfl ?_
 refine RL.val (O.fldA fl74_3 (by decide) rfl) rfl ?_
 refine RL.val (O.load sc41 rfl (Cs.adds [7] ((hM.bx (i := 0) rfl)) rfl)) rfl ?_
 refine RL.val (O.len sl41 rfl) rfl ?_
 refine RL.val (O.sub rfl rfl) rfl ?_
 refine va rfl rfl ?_
 refine nt hQ39 ?_
 clear hQ39 Q39
 refine KC.seqH fun Q40 hQ40 => ?_
 replace hM := hM.drewN 1
 refine KC.draw [] [5] [5] [0, 1, 2] (.ofList [0, 1, 2, 3, 4, 5]) moP (by kernel_rfl) ?_
 refine RD.p rfl rfl rfl rfl (fun w' => O.move rfl) ?_
 refine RD.p rfl rfl rfl rfl (fun w' => O.nilp rfl) ?_
 refine RD.p rfl rfl rfl rfl (fun w' => O.fldA fl74_2 (by decide) rfl) ?_
 refine RD.q rfl rfl rfl rfl (fun w' hf => O.load sc68 rfl (Cs.adds [6] ((hM.bx (i := 0) rfl).fut hf) rfl)) ?_
 refine RD.q rfl rfl rfl rfl (fun w' hf => O.loadN (cs := [vB kv13.f_Src.f_Six, o8 kv13.f_Src.f_B 0, o8 kv13.f_Src.f_B 1, o8 kv13.f_Src.f_B 2, o8 kv13.f_Src.f_B 3, o8 kv13.f_Src.f_B 4, o8 kv13.f_Src.f_B 5, o8 kv13.f_Src.f_B 6, o8 kv13.f_Src.f_B 7, o8 kv13.f_Src.f_B 8, o8 kv13.f_Src.f_B 9, o8 kv13.f_Src.f_B 10, o8 kv13.f_Src.f_B 11, o8 kv13.f_Src.f_B 12, o8 kv13.f_Src.f_B 13, o8 kv13.f_Src.f_B 14, o8 kv13.f_Src.f_B 15, vB kv13.f_Dst.f_Six, o8 kv13.f_Dst.f_B 0, o8 kv13.f_Dst.f_B 1, o8 kv13.f_Dst.f_B 2, o8 kv13.f_Dst.f_B 3, o8 kv13.f_Dst.f_B 4, o8 kv13.f_Dst.f_B 5, o8 kv13.f_Dst.f_B 6, o8 kv13.f_Dst.f_B 7, o8 kv13.f_Dst.f_B 8, o8 kv13.f_Dst.f_B 9, o8 kv13.f_Dst.f_B 10, o8 kv13.f_Dst.f_B 11, o8 kv13.f_Dst.f_B 12, o8 kv13.f_Dst.f_B 13, o8 kv13.f_Dst.f_B 14, o8 kv13.f_Dst.f_B 15, v8 kv13.f_Proto, v16 kv13.f_SrcPort, v16 kv13.f_DstPort]) ag36 rfl (Cs.addsN [] ((hM.bx (i := 2) rfl).fut hf) rfl)) ?_
 refine obindE hF fun y41 hx42 hF => ?_
 refine RD.mcall rfl rfl trivial Try.func56 bd56 rfl rfl (c_table_Table_Delete _ _ _ y24.2.2 _ _ (hM.lent [4, 5] rfl (by decide)) kv13 _ hx42) fun v w43 hv => ?_
 obtain ⟨A45, c46, rfl, hN44⟩ := hv
 refine ⟨fun h => (by cases h), ?_⟩
 replace hM := hM.callL [4, 5] [0, 1, 2, 3, 6] rfl rfl (by decide) rfl hN44
 refine RD.nil ?_
 refine KQ.thn hQ40 ?_
 clear hQ40 Q40
 replace hM := hM.pick [0, 1, 3, 4, 5, 6] rfl (by decide)
 refine KC.cut (fun a w83 => ∃ (A73 : Option Addr) (c74 : Nat) (A78 : Option Addr) (c79 : Nat) (p75 : List T_table_Slot) (p76 : Int) (p80 : List T_flow_Record), Kn 78 [(0, .pointer (some ⟨g2, 0, none⟩)), (2, v8 reason14), (6, .pointer (some ⟨g20, 0, none⟩)), (9, .pointer (some ⟨g35, 0, none⟩)), (10, vI (IntKind.i64.wrap ((cv1.f_flows.length : Int) - 1)))] a ∧ Mem w [some g2, some g4, rblk A6 c7, rblk A9 c10] w83 [.row A73 c74 102 39 (p75).length ((p75).flatMap e_table_Slot), .box g4 96 [.slice A73 (p75).length c74, vI p76], .row A78 c79 46 44 (p80).length ((p80).flatMap e_flow_Record), .box g2 tg12 [v64 cv1.f_tick, vI cv1.f_bounds.f_Flows, v64 cv1.f_bounds.f_Idle, v64 cv1.f_bounds.f_Active, v64 cv1.f_bounds.f_Packets, v64 cv1.f_bounds.f_Bytes, .pointer (some ⟨g4, 0, none⟩), .slice A78 (p80).length c79], .box g20 46 [vB false, o8 (List.replicate 16 0) 0, o8 (List.replicate 16 0) 1, o8 (List.replicate 16 0) 2, o8 (List.replicate 16 0) 3, o8 (List.replicate 16 0) 4, o8 (List.replicate 16 0) 5, o8 (List.replicate 16 0) 6, o8 (List.replicate 16 0) 7, o8 (List.replicate 16 0) 8, o8 (List.replicate 16 0) 9, o8 (List.replicate 16 0) 10, o8 (List.replicate 16 0) 11, o8 (List.replicate 16 0) 12, o8 (List.replicate 16 0) 13, o8 (List.replicate 16 0) 14, o8 (List.replicate 16 0) 15, vB false, o8 (List.replicate 16 0) 0, o8 (List.replicate 16 0) 1, o8 (List.replicate 16 0) 2, o8 (List.replicate 16 0) 3, o8 (List.replicate 16 0) 4, o8 (List.replicate 16 0) 5, o8 (List.replicate 16 0) 6, o8 (List.replicate 16 0) 7, o8 (List.replicate 16 0) 8, o8 (List.replicate 16 0) 9, o8 (List.replicate 16 0) 10, o8 (List.replicate 16 0) 11, o8 (List.replicate 16 0) 12, o8 (List.replicate 16 0) 13, o8 (List.replicate 16 0) 14, o8 (List.replicate 16 0) 15, v8 0, v16 0, v16 0, v64 0, v64 0, v64 0, v64 0, v8 0, v8 0, v8 0], .box g35 46 [vB xv34.f_Key.f_Src.f_Six, o8 xv34.f_Key.f_Src.f_B 0, o8 xv34.f_Key.f_Src.f_B 1, o8 xv34.f_Key.f_Src.f_B 2, o8 xv34.f_Key.f_Src.f_B 3, o8 xv34.f_Key.f_Src.f_B 4, o8 xv34.f_Key.f_Src.f_B 5, o8 xv34.f_Key.f_Src.f_B 6, o8 xv34.f_Key.f_Src.f_B 7, o8 xv34.f_Key.f_Src.f_B 8, o8 xv34.f_Key.f_Src.f_B 9, o8 xv34.f_Key.f_Src.f_B 10, o8 xv34.f_Key.f_Src.f_B 11, o8 xv34.f_Key.f_Src.f_B 12, o8 xv34.f_Key.f_Src.f_B 13, o8 xv34.f_Key.f_Src.f_B 14, o8 xv34.f_Key.f_Src.f_B 15, vB xv34.f_Key.f_Dst.f_Six, o8 xv34.f_Key.f_Dst.f_B 0, o8 xv34.f_Key.f_Dst.f_B 1, o8 xv34.f_Key.f_Dst.f_B 2, o8 xv34.f_Key.f_Dst.f_B 3, o8 xv34.f_Key.f_Dst.f_B 4, o8 xv34.f_Key.f_Dst.f_B 5, o8 xv34.f_Key.f_Dst.f_B 6, o8 xv34.f_Key.f_Dst.f_B 7, o8 xv34.f_Key.f_Dst.f_B 8, o8 xv34.f_Key.f_Dst.f_B 9, o8 xv34.f_Key.f_Dst.f_B 10, o8 xv34.f_Key.f_Dst.f_B 11, o8 xv34.f_Key.f_Dst.f_B 12, o8 xv34.f_Key.f_Dst.f_B 13, o8 xv34.f_Key.f_Dst.f_B 14, o8 xv34.f_Key.f_Dst.f_B 15, v8 xv34.f_Key.f_Proto, v16 xv34.f_Key.f_SrcPort, v16 xv34.f_Key.f_DstPort, v64 xv34.f_Packets, v64 xv34.f_Bytes, v64 xv34.f_First, v64 xv34.f_Last, v8 xv34.f_Flags, v8 xv34.f_Reason, v8 xv34.f_Class]] ∧ F_cache_Cache_end_j1 cv1 reason14 xv34 p75 p76 p80 = some r) ?_ ?_
 ·refine sr fun Q48 hQ48 => ?_
  refine vm rfl rfl ?_
  refine RL.val (O.nilp rfl) rfl ?_
  refine RL.val (O.fldA fl74_3 (by decide) rfl) rfl ?_
  refine RL.val (O.load sc41 rfl (Cs.adds [7] ((hM.bx (i := 0) rfl)) rfl)) rfl ?_
  refine vm rfl rfl ?_
  refine obindE hF fun xv51 hx50 hF => ?_
  have hA49 := Rd.atN (f := e_flow_Record) (s := 44) (fun _ => rfl) (by decide) (hM.rd (i := 1) rfl) hx50
  refine RL.val (O.idxA sl41 (hA49) rfl rfl) rfl ?_
  refine RL.val (O.loadN (cs := [vB xv51.f_Key.f_Src.f_Six, o8 xv51.f_Key.f_Src.f_B 0, o8 xv51.f_Key.f_Src.f_B 1, o8 xv51.f_Key.f_Src.f_B 2, o8 xv51.f_Key.f_Src.f_B 3, o8 xv51.f_Key.f_Src.f_B 4, o8 xv51.f_Key.f_Src.f_B 5, o8 xv51.f_Key.f_Src.f_B 6, o8 xv51.f_Key.f_Src.f_B 7, o8 xv51.f_Key.f_Src.f_B 8, o8 xv51.f_Key.f_Src.f_B 9, o8 xv51.f_Key.f_Src.f_B 10, o8 xv51.f_Key.f_Src.f_B 11, o8 xv51.f_Key.f_Src.f_B 12, o8 xv51.f_Key.f_Src.f_B 13, o8 xv51.f_Key.f_Src.f_B 14, o8 xv51.f_Key.f_Src.f_B 15, vB xv51.f_Key.f_Dst.f_Six, o8 xv51.f_Key.f_Dst.f_B 0, o8 xv51.f_Key.f_Dst.f_B 1, o8 xv51.f_Key.f_Dst.f_B 2, o8 xv51.f_Key.f_Dst.f_B 3, o8 xv51.f_Key.f_Dst.f_B 4, o8 xv51.f_Key.f_Dst.f_B 5, o8 xv51.f_Key.f_Dst.f_B 6, o8 xv51.f_Key.f_Dst.f_B 7, o8 xv51.f_Key.f_Dst.f_B 8, o8 xv51.f_Key.f_Dst.f_B 9, o8 xv51.f_Key.f_Dst.f_B 10, o8 xv51.f_Key.f_Dst.f_B 11, o8 xv51.f_Key.f_Dst.f_B 12, o8 xv51.f_Key.f_Dst.f_B 13, o8 xv51.f_Key.f_Dst.f_B 14, o8 xv51.f_Key.f_Dst.f_B 15, v8 xv51.f_Key.f_Proto, v16 xv51.f_Key.f_SrcPort, v16 xv51.f_Key.f_DstPort, v64 xv51.f_Packets, v64 xv51.f_Bytes, v64 xv51.f_First, v64 xv51.f_Last, v8 xv51.f_Flags, v8 xv51.f_Reason, v8 xv51.f_Class]) ag46 rfl (hA49).cells) rfl ?_
  refine RL.eff (E.alloc hM ze46) rfl fun v w53 hv => ?_
  clear hM
  obtain ⟨g52, rfl, hM, hf⟩ := hv
  refine RL.effs (E.stB (j := 6) (off := 0) (vs := [vB xv51.f_Key.f_Src.f_Six, o8 xv51.f_Key.f_Src.f_B 0, o8 xv51.f_Key.f_Src.f_B 1, o8 xv51.f_Key.f_Src.f_B 2, o8 xv51.f_Key.f_Src.f_B 3, o8 xv51.f_Key.f_Src.f_B 4, o8 xv51.f_Key.f_Src.f_B 5, o8 xv51.f_Key.f_Src.f_B 6, o8 xv51.f_Key.f_Src.f_B 7, o8 xv51.f_Key.f_Src.f_B 8, o8 xv51.f_Key.f_Src.f_B 9, o8 xv51.f_Key.f_Src.f_B 10, o8 xv51.f_Key.f_Src.f_B 11, o8 xv51.f_Key.f_Src.f_B 12, o8 xv51.f_Key.f_Src.f_B 13, o8 xv51.f_Key.f_Src.f_B 14, o8 xv51.f_Key.f_Src.f_B 15, vB xv51.f_Key.f_Dst.f_Six, o8 xv51.f_Key.f_Dst.f_B 0, o8 xv51.f_Key.f_Dst.f_B 1, o8 xv51.f_Key.f_Dst.f_B 2, o8 xv51.f_Key.f_Dst.f_B 3, o8 xv51.f_Key.f_Dst.f_B 4, o8 xv51.f_Key.f_Dst.f_B 5, o8 xv51.f_Key.f_Dst.f_B 6, o8 xv51.f_Key.f_Dst.f_B 7, o8 xv51.f_Key.f_Dst.f_B 8, o8 xv51.f_Key.f_Dst.f_B 9, o8 xv51.f_Key.f_Dst.f_B 10, o8 xv51.f_Key.f_Dst.f_B 11, o8 xv51.f_Key.f_Dst.f_B 12, o8 xv51.f_Key.f_Dst.f_B 13, o8 xv51.f_Key.f_Dst.f_B 14, o8 xv51.f_Key.f_Dst.f_B 15, v8 xv51.f_Key.f_Proto, v16 xv51.f_Key.f_SrcPort, v16 xv51.f_Key.f_DstPort, v64 xv51.f_Packets, v64 xv51.f_Bytes, v64 xv51.f_First, v64 xv51.f_Last, v8 xv51.f_Flags, v8 xv51.f_Reason, v8 xv51.f_Class]) (cs' := [vB xv51.f_Key.f_Src.f_Six, o8 xv51.f_Key.f_Src.f_B 0, o8 xv51.f_Key.f_Src.f_B 1, o8 xv51.f_Key.f_Src.f_B 2, o8 xv51.f_Key.f_Src.f_B 3, o8 xv51.f_Key.f_Src.f_B 4, o8 xv51.f_Key.f_Src.f_B 5, o8 xv51.f_Key.f_Src.f_B 6, o8 xv51.f_Key.f_Src.f_B 7, o8 xv51.f_Key.f_Src.f_B 8, o8 xv51.f_Key.f_Src.f_B 9, o8 xv51.f_Key.f_Src.f_B 10, o8 xv51.f_Key.f_Src.f_B 11, o8 xv51.f_Key.f_Src.f_B 12, o8 xv51.f_Key.f_Src.f_B 13, o8 xv51.f_Key.f_Src.f_B 14, o8 xv51.f_Key.f_Src.f_B 15, vB xv51.f_Key.f_Dst.f_Six, o8 xv51.f_Key.f_Dst.f_B 0, o8 xv51.f_Key.f_Dst.f_B 1, o8 xv51.f_Key.f_Dst.f_B 2, o8 xv51.f_Key.f_Dst.f_B 3, o8 xv51.f_Key.f_Dst.f_B 4, o8 xv51.f_Key.f_Dst.f_B 5, o8 xv51.f_Key.f_Dst.f_B 6, o8 xv51.f_Key.f_Dst.f_B 7, o8 xv51.f_Key.f_Dst.f_B 8, o8 xv51.f_Key.f_Dst.f_B 9, o8 xv51.f_Key.f_Dst.f_B 10, o8 xv51.f_Key.f_Dst.f_B 11, o8 xv51.f_Key.f_Dst.f_B 12, o8 xv51.f_Key.f_Dst.f_B 13, o8 xv51.f_Key.f_Dst.f_B 14, o8 xv51.f_Key.f_Dst.f_B 15, v8 xv51.f_Key.f_Proto, v16 xv51.f_Key.f_SrcPort, v16 xv51.f_Key.f_DstPort, v64 xv51.f_Packets, v64 xv51.f_Bytes, v64 xv51.f_First, v64 xv51.f_Last, v8 xv51.f_Flags, v8 xv51.f_Reason, v8 xv51.f_Class]) hM rfl sz46 rfl (adds_eq [] rfl) rfl rfl (One.all rfl) rfl rfl) fun w55 hM1 => ?_
  clear hM
  have hM := hM1
  clear hM1
  refine nt hQ48 ?_
  clear hQ48 Q48
  refine sr fun Q56 hQ56 => ?_
  refine vm rfl rfl ?_
  refine RL.val (O.conv un3 Try.underlying22 rfl) rfl ?_
  refine vm rfl rfl ?_
  refine RL.val (O.neq rfl rfl) rfl ?_
  refine nt hQ56 ?_
  clear hQ56 Q56
  refine KC.cond rfl (fun hc => ?_) (fun hc => ?_)
  ·rw [if_pos hc] at hF
   refine KC.seqH fun Q57 hQ57 => ?_
   replace hM := hM.drewN 1
   refine KC.draw [] [7] [7] [0, 1, 2, 4] (.ofList [0, 1, 2, 3, 4, 5, 6, 7]) moP (by kernel_rfl) ?_
   refine RD.p rfl rfl rfl rfl (fun w' => O.move rfl) ?_
   refine RD.p rfl rfl rfl rfl (fun w' => O.nilp rfl) ?_
   refine RD.p rfl rfl rfl rfl (fun w' => O.fldA fl74_3 (by decide) rfl) ?_
   refine RD.q rfl rfl rfl rfl (fun w' hf => O.load sc41 rfl (Cs.adds [7] ((hM.bx (i := 0) rfl).fut hf) rfl)) ?_
   refine RD.p rfl rfl rfl rfl (fun w' => O.move rfl) ?_
   refine RD.q rfl rfl rfl rfl (fun w' hf => O.loadN (cs := [vB xv51.f_Key.f_Src.f_Six, o8 xv51.f_Key.f_Src.f_B 0, o8 xv51.f_Key.f_Src.f_B 1, o8 xv51.f_Key.f_Src.f_B 2, o8 xv51.f_Key.f_Src.f_B 3, o8 xv51.f_Key.f_Src.f_B 4, o8 xv51.f_Key.f_Src.f_B 5, o8 xv51.f_Key.f_Src.f_B 6, o8 xv51.f_Key.f_Src.f_B 7, o8 xv51.f_Key.f_Src.f_B 8, o8 xv51.f_Key.f_Src.f_B 9, o8 xv51.f_Key.f_Src.f_B 10, o8 xv51.f_Key.f_Src.f_B 11, o8 xv51.f_Key.f_Src.f_B 12, o8 xv51.f_Key.f_Src.f_B 13, o8 xv51.f_Key.f_Src.f_B 14, o8 xv51.f_Key.f_Src.f_B 15, vB xv51.f_Key.f_Dst.f_Six, o8 xv51.f_Key.f_Dst.f_B 0, o8 xv51.f_Key.f_Dst.f_B 1, o8 xv51.f_Key.f_Dst.f_B 2, o8 xv51.f_Key.f_Dst.f_B 3, o8 xv51.f_Key.f_Dst.f_B 4, o8 xv51.f_Key.f_Dst.f_B 5, o8 xv51.f_Key.f_Dst.f_B 6, o8 xv51.f_Key.f_Dst.f_B 7, o8 xv51.f_Key.f_Dst.f_B 8, o8 xv51.f_Key.f_Dst.f_B 9, o8 xv51.f_Key.f_Dst.f_B 10, o8 xv51.f_Key.f_Dst.f_B 11, o8 xv51.f_Key.f_Dst.f_B 12, o8 xv51.f_Key.f_Dst.f_B 13, o8 xv51.f_Key.f_Dst.f_B 14, o8 xv51.f_Key.f_Dst.f_B 15, v8 xv51.f_Key.f_Proto, v16 xv51.f_Key.f_SrcPort, v16 xv51.f_Key.f_DstPort, v64 xv51.f_Packets, v64 xv51.f_Bytes, v64 xv51.f_First, v64 xv51.f_Last, v8 xv51.f_Flags, v8 xv51.f_Reason, v8 xv51.f_Class]) ag46 rfl (Cs.addsN [] ((hM.bx (i := 6) rfl).fut hf) rfl)) ?_
   refine obindE hF fun xv60 hx59 hF => ?_
   have hA58 := Rd.atN (f := e_flow_Record) (s := 44) (fun _ => rfl) (by decide) (hM.rd (i := 1) rfl) hx59
   refine RD.q rfl rfl rfl rfl (fun w' hf => O.idxA sl41 (hA58.fut hf) rfl rfl) ?_
   refine RD.meffs rfl rfl rfl (E.stR (enc := e_flow_Record) (j := 1) (off := 0) (vs := [vB xv51.f_Key.f_Src.f_Six, o8 xv51.f_Key.f_Src.f_B 0, o8 xv51.f_Key.f_Src.f_B 1, o8 xv51.f_Key.f_Src.f_B 2, o8 xv51.f_Key.f_Src.f_B 3, o8 xv51.f_Key.f_Src.f_B 4, o8 xv51.f_Key.f_Src.f_B 5, o8 xv51.f_Key.f_Src.f_B 6, o8 xv51.f_Key.f_Src.f_B 7, o8 xv51.f_Key.f_Src.f_B 8, o8 xv51.f_Key.f_Src.f_B 9, o8 xv51.f_Key.f_Src.f_B 10, o8 xv51.f_Key.f_Src.f_B 11, o8 xv51.f_Key.f_Src.f_B 12, o8 xv51.f_Key.f_Src.f_B 13, o8 xv51.f_Key.f_Src.f_B 14, o8 xv51.f_Key.f_Src.f_B 15, vB xv51.f_Key.f_Dst.f_Six, o8 xv51.f_Key.f_Dst.f_B 0, o8 xv51.f_Key.f_Dst.f_B 1, o8 xv51.f_Key.f_Dst.f_B 2, o8 xv51.f_Key.f_Dst.f_B 3, o8 xv51.f_Key.f_Dst.f_B 4, o8 xv51.f_Key.f_Dst.f_B 5, o8 xv51.f_Key.f_Dst.f_B 6, o8 xv51.f_Key.f_Dst.f_B 7, o8 xv51.f_Key.f_Dst.f_B 8, o8 xv51.f_Key.f_Dst.f_B 9, o8 xv51.f_Key.f_Dst.f_B 10, o8 xv51.f_Key.f_Dst.f_B 11, o8 xv51.f_Key.f_Dst.f_B 12, o8 xv51.f_Key.f_Dst.f_B 13, o8 xv51.f_Key.f_Dst.f_B 14, o8 xv51.f_Key.f_Dst.f_B 15, v8 xv51.f_Key.f_Proto, v16 xv51.f_Key.f_SrcPort, v16 xv51.f_Key.f_DstPort, v64 xv51.f_Packets, v64 xv51.f_Bytes, v64 xv51.f_First, v64 xv51.f_Last, v8 xv51.f_Flags, v8 xv51.f_Reason, v8 xv51.f_Class]) (x' := xv51) hM rfl (fun _ => rfl) hx59 sz46 rfl (addsR_eq [] rfl) rfl rfl (One.all rfl) rfl rfl) fun w61 hM1 => ?_
   clear hM
   obtain ⟨hM, hn62⟩ := hM1
   refine RD.reslot (t := 54) rfl hn62 ?_
   replace hM := hM.rebox (i := 0) (cs' := [v64 cv1.f_tick, vI cv1.f_bounds.f_Flows, v64 cv1.f_bounds.f_Idle, v64 cv1.f_bounds.f_Active, v64 cv1.f_bounds.f_Packets, v64 cv1.f_bounds.f_Bytes, .pointer (some ⟨g4, 0, none⟩), .slice A9 ((cv1.f_flows.set (y24.1 : Int).toNat xv51)).length c10]) rfl (by rw [← hn62])
   refine RD.nil ?_
   refine KQ.thn hQ57 ?_
   clear hQ57 Q57
   replace hM := hM.drewN 1
   refine KC.draw [] [7] [7] [0, 1, 2, 4, 6] (.ofList [0, 1, 2, 3, 4, 5, 6, 7]) moP (by kernel_rfl) ?_
   refine RD.p rfl rfl rfl rfl (fun w' => O.move rfl) ?_
   refine RD.p rfl rfl rfl rfl (fun w' => O.nilp rfl) ?_
   refine RD.p rfl rfl rfl rfl (fun w' => O.fldA fl74_2 (by decide) rfl) ?_
   refine RD.q rfl rfl rfl rfl (fun w' hf => O.load sc68 rfl (Cs.adds [6] ((hM.bx (i := 0) rfl).fut hf) rfl)) ?_
   refine RD.p rfl rfl rfl rfl (fun w' => O.fldA fl46_0 (by decide) rfl) ?_
   refine RD.q rfl rfl rfl rfl (fun w' hf => O.loadN (cs := [vB xv51.f_Key.f_Src.f_Six, o8 xv51.f_Key.f_Src.f_B 0, o8 xv51.f_Key.f_Src.f_B 1, o8 xv51.f_Key.f_Src.f_B 2, o8 xv51.f_Key.f_Src.f_B 3, o8 xv51.f_Key.f_Src.f_B 4, o8 xv51.f_Key.f_Src.f_B 5, o8 xv51.f_Key.f_Src.f_B 6, o8 xv51.f_Key.f_Src.f_B 7, o8 xv51.f_Key.f_Src.f_B 8, o8 xv51.f_Key.f_Src.f_B 9, o8 xv51.f_Key.f_Src.f_B 10, o8 xv51.f_Key.f_Src.f_B 11, o8 xv51.f_Key.f_Src.f_B 12, o8 xv51.f_Key.f_Src.f_B 13, o8 xv51.f_Key.f_Src.f_B 14, o8 xv51.f_Key.f_Src.f_B 15, vB xv51.f_Key.f_Dst.f_Six, o8 xv51.f_Key.f_Dst.f_B 0, o8 xv51.f_Key.f_Dst.f_B 1, o8 xv51.f_Key.f_Dst.f_B 2, o8 xv51.f_Key.f_Dst.f_B 3, o8 xv51.f_Key.f_Dst.f_B 4, o8 xv51.f_Key.f_Dst.f_B 5, o8 xv51.f_Key.f_Dst.f_B 6, o8 xv51.f_Key.f_Dst.f_B 7, o8 xv51.f_Key.f_Dst.f_B 8, o8 xv51.f_Key.f_Dst.f_B 9, o8 xv51.f_Key.f_Dst.f_B 10, o8 xv51.f_Key.f_Dst.f_B 11, o8 xv51.f_Key.f_Dst.f_B 12, o8 xv51.f_Key.f_Dst.f_B 13, o8 xv51.f_Key.f_Dst.f_B 14, o8 xv51.f_Key.f_Dst.f_B 15, v8 xv51.f_Key.f_Proto, v16 xv51.f_Key.f_SrcPort, v16 xv51.f_Key.f_DstPort]) ag36 rfl (Cs.addsN [0] ((hM.bx (i := 6) rfl).fut hf) rfl)) ?_
   refine RD.p rfl rfl rfl rfl (fun w' => O.move rfl) ?_
   refine obindE hF fun y63 hx64 hF => ?_
   refine RD.mcall rfl rfl trivial Try.func53 bd53 rfl rfl (c_table_Table_Put _ _ _ y41.2 _ _ (hM.lent [4, 5] rfl (by decide)) xv51.f_Key y24.1 _ hx64) fun v w65 hv => ?_
   obtain ⟨A67, c68, rfl, hN66⟩ := hv
   refine ⟨fun h => (by cases h), ?_⟩
   replace hM := hM.callL [4, 5] [0, 1, 2, 3, 6] rfl rfl (by decide) rfl hN66
   refine RD.nil ?_
   refine KQ.then_k ?_
   replace hM := hM.pick [6, 5, 1, 0, 2, 3] rfl (by decide)
   exact fun a ha => ⟨A67, c68, A9, c10, y63.2.f_slots, y63.2.f_many, (cv1.f_flows.set (y24.1 : Int).toNat xv51), ha.less (less_cons rfl (less_cons rfl (less_cons rfl (less_cons rfl (less_cons rfl less_nil))))), hM, hF⟩
  rw [if_neg (ne_true hc)] at hF
  refine KC.skip ?_
  refine KQ.then_k ?_
  replace hM := hM.pick [5, 4, 1, 0, 2, 3] rfl (by decide)
  exact fun a ha => ⟨A45, c46, A9, c10, y41.2.f_slots, y41.2.f_many, cv1.f_flows, ha.less (less_cons rfl (less_cons rfl (less_cons rfl (less_cons rfl (less_cons rfl less_nil))))), hM, hF⟩
 rintro a w83 ⟨A73, c74, A78, c79, p75, p76, p80, ha, hM, hF⟩
 refine KC.app ha ?_
 clear ha
 unfold F_cache_Cache_end_j1 at hF
 refine sr fun Q84 hQ84 => ?_
 refine vm rfl rfl ?_
 refine vm rfl rfl ?_
 refine RL.val (O.nilp rfl) rfl ?_
 refine RL.val (O.fldA fl74_3 (by decide) rfl) rfl ?_
 refine RL.val (O.load sc41 rfl (Cs.adds [7] ((hM.bx (i := 3) rfl)) rfl)) rfl ?_
 refine vm rfl rfl ?_
 refine obindE hF fun cut85 hy86 hF => ?_
 have hrd := (hM.rd (i := 2) rfl)
 replace hM := hM.short (enc := e_flow_Record) (fun _ => rfl) (i := 2) rfl hy86
 refine RL.val (O.short (A := A78) (c := c79) (xs := p80) (ys := cut85) sl41 hrd.cap hy86 rfl rfl) rfl ?_
 refine RL.val (O.nilp rfl) rfl ?_
 refine RL.val (O.fldA fl74_3 (by decide) rfl) rfl ?_
 refine RL.effs (E.stB (j := 3) (off := 7) (vs := [.slice A78 (cut85).length c79]) (cs' := [v64 cv1.f_tick, vI cv1.f_bounds.f_Flows, v64 cv1.f_bounds.f_Idle, v64 cv1.f_bounds.f_Active, v64 cv1.f_bounds.f_Packets, v64 cv1.f_bounds.f_Bytes, .pointer (some ⟨g4, 0, none⟩), .slice A78 (cut85).length c79]) hM rfl sz41 rfl (adds_eq [7] rfl) rfl rfl (One.all rfl) rfl rfl) fun w88 hM1 => ?_
 clear hM
 have hM := hM1
 clear hM1
 refine nt hQ84 ?_
 clear hQ84 Q84
 refine sr fun Q89 hQ89 => ?_
 refine vm rfl rfl ?_
 refine RL.val (O.fldA fl46_6 (by decide) rfl) rfl ?_
 refine RL.effs (E.stB (j := 5) (off := 42) (vs := [v8 reason14]) (cs' := [vB xv34.f_Key.f_Src.f_Six, o8 xv34.f_Key.f_Src.f_B 0, o8 xv34.f_Key.f_Src.f_B 1, o8 xv34.f_Key.f_Src.f_B 2, o8 xv34.f_Key.f_Src.f_B 3, o8 xv34.f_Key.f_Src.f_B 4, o8 xv34.f_Key.f_Src.f_B 5, o8 xv34.f_Key.f_Src.f_B 6, o8 xv34.f_Key.f_Src.f_B 7, o8 xv34.f_Key.f_Src.f_B 8, o8 xv34.f_Key.f_Src.f_B 9, o8 xv34.f_Key.f_Src.f_B 10, o8 xv34.f_Key.f_Src.f_B 11, o8 xv34.f_Key.f_Src.f_B 12, o8 xv34.f_Key.f_Src.f_B 13, o8 xv34.f_Key.f_Src.f_B 14, o8 xv34.f_Key.f_Src.f_B 15, vB xv34.f_Key.f_Dst.f_Six, o8 xv34.f_Key.f_Dst.f_B 0, o8 xv34.f_Key.f_Dst.f_B 1, o8 xv34.f_Key.f_Dst.f_B 2, o8 xv34.f_Key.f_Dst.f_B 3, o8 xv34.f_Key.f_Dst.f_B 4, o8 xv34.f_Key.f_Dst.f_B 5, o8 xv34.f_Key.f_Dst.f_B 6, o8 xv34.f_Key.f_Dst.f_B 7, o8 xv34.f_Key.f_Dst.f_B 8, o8 xv34.f_Key.f_Dst.f_B 9, o8 xv34.f_Key.f_Dst.f_B 10, o8 xv34.f_Key.f_Dst.f_B 11, o8 xv34.f_Key.f_Dst.f_B 12, o8 xv34.f_Key.f_Dst.f_B 13, o8 xv34.f_Key.f_Dst.f_B 14, o8 xv34.f_Key.f_Dst.f_B 15, v8 xv34.f_Key.f_Proto, v16 xv34.f_Key.f_SrcPort, v16 xv34.f_Key.f_DstPort, v64 xv34.f_Packets, v64 xv34.f_Bytes, v64 xv34.f_First, v64 xv34.f_Last, v8 xv34.f_Flags, v8 reason14, v8 xv34.f_Class]) hM rfl sz5 rfl (adds_eq [42] rfl) rfl rfl (One.all rfl) rfl rfl) fun w90 hM1 => ?_
 clear hM
 have hM := hM1
 clear hM1
 refine nt hQ89 ?_
 clear hQ89 Q89
 refine sr fun Q91 hQ91 => ?_
 refine RL.val (O.loadN (cs := [vB xv34.f_Key.f_Src.f_Six, o8 xv34.f_Key.f_Src.f_B 0, o8 xv34.f_Key.f_Src.f_B 1, o8 xv34.f_Key.f_Src.f_B 2, o8 xv34.f_Key.f_Src.f_B 3, o8 xv34.f_Key.f_Src.f_B 4, o8 xv34.f_Key.f_Src.f_B 5, o8 xv34.f_Key.f_Src.f_B 6, o8 xv34.f_Key.f_Src.f_B 7, o8 xv34.f_Key.f_Src.f_B 8, o8 xv34.f_Key.f_Src.f_B 9, o8 xv34.f_Key.f_Src.f_B 10, o8 xv34.f_Key.f_Src.f_B 11, o8 xv34.f_Key.f_Src.f_B 12, o8 xv34.f_Key.f_Src.f_B 13, o8 xv34.f_Key.f_Src.f_B 14, o8 xv34.f_Key.f_Src.f_B 15, vB xv34.f_Key.f_Dst.f_Six, o8 xv34.f_Key.f_Dst.f_B 0, o8 xv34.f_Key.f_Dst.f_B 1, o8 xv34.f_Key.f_Dst.f_B 2, o8 xv34.f_Key.f_Dst.f_B 3, o8 xv34.f_Key.f_Dst.f_B 4, o8 xv34.f_Key.f_Dst.f_B 5, o8 xv34.f_Key.f_Dst.f_B 6, o8 xv34.f_Key.f_Dst.f_B 7, o8 xv34.f_Key.f_Dst.f_B 8, o8 xv34.f_Key.f_Dst.f_B 9, o8 xv34.f_Key.f_Dst.f_B 10, o8 xv34.f_Key.f_Dst.f_B 11, o8 xv34.f_Key.f_Dst.f_B 12, o8 xv34.f_Key.f_Dst.f_B 13, o8 xv34.f_Key.f_Dst.f_B 14, o8 xv34.f_Key.f_Dst.f_B 15, v8 xv34.f_Key.f_Proto, v16 xv34.f_Key.f_SrcPort, v16 xv34.f_Key.f_DstPort, v64 xv34.f_Packets, v64 xv34.f_Bytes, v64 xv34.f_First, v64 xv34.f_Last, v8 xv34.f_Flags, v8 reason14, v8 xv34.f_Class]) ag46 rfl (Cs.addsN [] ((hM.bx (i := 5) rfl)) rfl)) rfl ?_
 refine RL.effs (E.stB (j := 4) (off := 0) (vs := [vB xv34.f_Key.f_Src.f_Six, o8 xv34.f_Key.f_Src.f_B 0, o8 xv34.f_Key.f_Src.f_B 1, o8 xv34.f_Key.f_Src.f_B 2, o8 xv34.f_Key.f_Src.f_B 3, o8 xv34.f_Key.f_Src.f_B 4, o8 xv34.f_Key.f_Src.f_B 5, o8 xv34.f_Key.f_Src.f_B 6, o8 xv34.f_Key.f_Src.f_B 7, o8 xv34.f_Key.f_Src.f_B 8, o8 xv34.f_Key.f_Src.f_B 9, o8 xv34.f_Key.f_Src.f_B 10, o8 xv34.f_Key.f_Src.f_B 11, o8 xv34.f_Key.f_Src.f_B 12, o8 xv34.f_Key.f_Src.f_B 13, o8 xv34.f_Key.f_Src.f_B 14, o8 xv34.f_Key.f_Src.f_B 15, vB xv34.f_Key.f_Dst.f_Six, o8 xv34.f_Key.f_Dst.f_B 0, o8 xv34.f_Key.f_Dst.f_B 1, o8 xv34.f_Key.f_Dst.f_B 2, o8 xv34.f_Key.f_Dst.f_B 3, o8 xv34.f_Key.f_Dst.f_B 4, o8 xv34.f_Key.f_Dst.f_B 5, o8 xv34.f_Key.f_Dst.f_B 6, o8 xv34.f_Key.f_Dst.f_B 7, o8 xv34.f_Key.f_Dst.f_B 8, o8 xv34.f_Key.f_Dst.f_B 9, o8 xv34.f_Key.f_Dst.f_B 10, o8 xv34.f_Key.f_Dst.f_B 11, o8 xv34.f_Key.f_Dst.f_B 12, o8 xv34.f_Key.f_Dst.f_B 13, o8 xv34.f_Key.f_Dst.f_B 14, o8 xv34.f_Key.f_Dst.f_B 15, v8 xv34.f_Key.f_Proto, v16 xv34.f_Key.f_SrcPort, v16 xv34.f_Key.f_DstPort, v64 xv34.f_Packets, v64 xv34.f_Bytes, v64 xv34.f_First, v64 xv34.f_Last, v8 xv34.f_Flags, v8 reason14, v8 xv34.f_Class]) (cs' := [vB xv34.f_Key.f_Src.f_Six, o8 xv34.f_Key.f_Src.f_B 0, o8 xv34.f_Key.f_Src.f_B 1, o8 xv34.f_Key.f_Src.f_B 2, o8 xv34.f_Key.f_Src.f_B 3, o8 xv34.f_Key.f_Src.f_B 4, o8 xv34.f_Key.f_Src.f_B 5, o8 xv34.f_Key.f_Src.f_B 6, o8 xv34.f_Key.f_Src.f_B 7, o8 xv34.f_Key.f_Src.f_B 8, o8 xv34.f_Key.f_Src.f_B 9, o8 xv34.f_Key.f_Src.f_B 10, o8 xv34.f_Key.f_Src.f_B 11, o8 xv34.f_Key.f_Src.f_B 12, o8 xv34.f_Key.f_Src.f_B 13, o8 xv34.f_Key.f_Src.f_B 14, o8 xv34.f_Key.f_Src.f_B 15, vB xv34.f_Key.f_Dst.f_Six, o8 xv34.f_Key.f_Dst.f_B 0, o8 xv34.f_Key.f_Dst.f_B 1, o8 xv34.f_Key.f_Dst.f_B 2, o8 xv34.f_Key.f_Dst.f_B 3, o8 xv34.f_Key.f_Dst.f_B 4, o8 xv34.f_Key.f_Dst.f_B 5, o8 xv34.f_Key.f_Dst.f_B 6, o8 xv34.f_Key.f_Dst.f_B 7, o8 xv34.f_Key.f_Dst.f_B 8, o8 xv34.f_Key.f_Dst.f_B 9, o8 xv34.f_Key.f_Dst.f_B 10, o8 xv34.f_Key.f_Dst.f_B 11, o8 xv34.f_Key.f_Dst.f_B 12, o8 xv34.f_Key.f_Dst.f_B 13, o8 xv34.f_Key.f_Dst.f_B 14, o8 xv34.f_Key.f_Dst.f_B 15, v8 xv34.f_Key.f_Proto, v16 xv34.f_Key.f_SrcPort, v16 xv34.f_Key.f_DstPort, v64 xv34.f_Packets, v64 xv34.f_Bytes, v64 xv34.f_First, v64 xv34.f_Last, v8 xv34.f_Flags, v8 reason14, v8 xv34.f_Class]) hM rfl sz46 rfl (adds_eq [] rfl) rfl rfl (One.all rfl) rfl rfl) fun w92 hM1 => ?_
 clear hM
 have hM := hM1
 clear hM1
 refine nt hQ91 ?_
 clear hQ91 Q91
 refine KC.ret ?_
 have hE := Option.some.inj hF
 clear hF
 subst hE
 have hb93 := hM.bx (i := 4) rfl
 replace hM := hM.pick [3, 1, 0, 2] rfl (by decide)
 refine KQ.rets Try.results30 (RVs.cons (RV.cN (cs := [vB xv34.f_Key.f_Src.f_Six, o8 xv34.f_Key.f_Src.f_B 0, o8 xv34.f_Key.f_Src.f_B 1, o8 xv34.f_Key.f_Src.f_B 2, o8 xv34.f_Key.f_Src.f_B 3, o8 xv34.f_Key.f_Src.f_B 4, o8 xv34.f_Key.f_Src.f_B 5, o8 xv34.f_Key.f_Src.f_B 6, o8 xv34.f_Key.f_Src.f_B 7, o8 xv34.f_Key.f_Src.f_B 8, o8 xv34.f_Key.f_Src.f_B 9, o8 xv34.f_Key.f_Src.f_B 10, o8 xv34.f_Key.f_Src.f_B 11, o8 xv34.f_Key.f_Src.f_B 12, o8 xv34.f_Key.f_Src.f_B 13, o8 xv34.f_Key.f_Src.f_B 14, o8 xv34.f_Key.f_Src.f_B 15, vB xv34.f_Key.f_Dst.f_Six, o8 xv34.f_Key.f_Dst.f_B 0, o8 xv34.f_Key.f_Dst.f_B 1, o8 xv34.f_Key.f_Dst.f_B 2, o8 xv34.f_Key.f_Dst.f_B 3, o8 xv34.f_Key.f_Dst.f_B 4, o8 xv34.f_Key.f_Dst.f_B 5, o8 xv34.f_Key.f_Dst.f_B 6, o8 xv34.f_Key.f_Dst.f_B 7, o8 xv34.f_Key.f_Dst.f_B 8, o8 xv34.f_Key.f_Dst.f_B 9, o8 xv34.f_Key.f_Dst.f_B 10, o8 xv34.f_Key.f_Dst.f_B 11, o8 xv34.f_Key.f_Dst.f_B 12, o8 xv34.f_Key.f_Dst.f_B 13, o8 xv34.f_Key.f_Dst.f_B 14, o8 xv34.f_Key.f_Dst.f_B 15, v8 xv34.f_Key.f_Proto, v16 xv34.f_Key.f_SrcPort, v16 xv34.f_Key.f_DstPort, v64 xv34.f_Packets, v64 xv34.f_Bytes, v64 xv34.f_First, v64 xv34.f_Last, v8 xv34.f_Flags, v8 reason14, v8 xv34.f_Class]) rfl ag46 hb93) RVs.nil) ?_
 exact ⟨_, rfl, g4, A73, c74, A78, c79, rfl, hM⟩
end Go.Proofs.Ytkpnocgfhipidaa
