/- Printed by a program of this claim: each call returns what the plain function of its name gives. -/
import Derived.Test.YtkpnocgfhipidaaW1
import Derived.Test.YtkpnocgfhipidaaW5
import Derived.Test.YtkpnocgfhipidaaW6
set_option linter.unusedVariables false
namespace Go.Proofs.Ytkpnocgfhipidaa
open Go Go.Ox Go.RowKit
set_option maxRecDepth 100000 in
set_option maxHeartbeats 40000000 in
theorem c_flow_Start (w : World) (kv1 : T_packet_Key) (class2 : Int) (tick3 : Int) (r : T_flow_Record) (hF : F_flow_Start kv1 class2 tick3 = some r) :
  CallsR Try.prog 54 [.agg #[vB kv1.f_Src.f_Six, o8 kv1.f_Src.f_B 0, o8 kv1.f_Src.f_B 1, o8 kv1.f_Src.f_B 2, o8 kv1.f_Src.f_B 3, o8 kv1.f_Src.f_B 4, o8 kv1.f_Src.f_B 5, o8 kv1.f_Src.f_B 6, o8 kv1.f_Src.f_B 7, o8 kv1.f_Src.f_B 8, o8 kv1.f_Src.f_B 9, o8 kv1.f_Src.f_B 10, o8 kv1.f_Src.f_B 11, o8 kv1.f_Src.f_B 12, o8 kv1.f_Src.f_B 13, o8 kv1.f_Src.f_B 14, o8 kv1.f_Src.f_B 15, vB kv1.f_Dst.f_Six, o8 kv1.f_Dst.f_B 0, o8 kv1.f_Dst.f_B 1, o8 kv1.f_Dst.f_B 2, o8 kv1.f_Dst.f_B 3, o8 kv1.f_Dst.f_B 4, o8 kv1.f_Dst.f_B 5, o8 kv1.f_Dst.f_B 6, o8 kv1.f_Dst.f_B 7, o8 kv1.f_Dst.f_B 8, o8 kv1.f_Dst.f_B 9, o8 kv1.f_Dst.f_B 10, o8 kv1.f_Dst.f_B 11, o8 kv1.f_Dst.f_B 12, o8 kv1.f_Dst.f_B 13, o8 kv1.f_Dst.f_B 14, o8 kv1.f_Dst.f_B 15, v8 kv1.f_Proto, v16 kv1.f_SrcPort, v16 kv1.f_DstPort], v8 class2, v64 tick3] w (fun v w' => v = .agg #[vB r.f_Key.f_Src.f_Six, o8 r.f_Key.f_Src.f_B 0, o8 r.f_Key.f_Src.f_B 1, o8 r.f_Key.f_Src.f_B 2, o8 r.f_Key.f_Src.f_B 3, o8 r.f_Key.f_Src.f_B 4, o8 r.f_Key.f_Src.f_B 5, o8 r.f_Key.f_Src.f_B 6, o8 r.f_Key.f_Src.f_B 7, o8 r.f_Key.f_Src.f_B 8, o8 r.f_Key.f_Src.f_B 9, o8 r.f_Key.f_Src.f_B 10, o8 r.f_Key.f_Src.f_B 11, o8 r.f_Key.f_Src.f_B 12, o8 r.f_Key.f_Src.f_B 13, o8 r.f_Key.f_Src.f_B 14, o8 r.f_Key.f_Src.f_B 15, vB r.f_Key.f_Dst.f_Six, o8 r.f_Key.f_Dst.f_B 0, o8 r.f_Key.f_Dst.f_B 1, o8 r.f_Key.f_Dst.f_B 2, o8 r.f_Key.f_Dst.f_B 3, o8 r.f_Key.f_Dst.f_B 4, o8 r.f_Key.f_Dst.f_B 5, o8 r.f_Key.f_Dst.f_B 6, o8 r.f_Key.f_Dst.f_B 7, o8 r.f_Key.f_Dst.f_B 8, o8 r.f_Key.f_Dst.f_B 9, o8 r.f_Key.f_Dst.f_B 10, o8 r.f_Key.f_Dst.f_B 11, o8 r.f_Key.f_Dst.f_B 12, o8 r.f_Key.f_Dst.f_B 13, o8 r.f_Key.f_Dst.f_B 14, o8 r.f_Key.f_Dst.f_B 15, v8 r.f_Key.f_Proto, v16 r.f_Key.f_SrcPort, v16 r.f_Key.f_DstPort, v64 r.f_Packets, v64 r.f_Bytes, v64 r.f_First, v64 r.f_Last, v8 r.f_Flags, v8 r.f_Reason, v8 r.f_Class] ∧ Mem w [] w' []) := by
 refine calls_KC Try.func54 rfl Try.ntmps54 rfl ?_
 have hM := Mem.init w
 unfold F_flow_Start at hF
 refine sr fun Q4 hQ4 => ?_
 refine RL.eff (E.box (vs := [vB kv1.f_Src.f_Six, o8 kv1.f_Src.f_B 0, o8 kv1.f_Src.f_B 1, o8 kv1.f_Src.f_B 2, o8 kv1.f_Src.f_B 3, o8 kv1.f_Src.f_B 4, o8 kv1.f_Src.f_B 5, o8 kv1.f_Src.f_B 6, o8 kv1.f_Src.f_B 7, o8 kv1.f_Src.f_B 8, o8 kv1.f_Src.f_B 9, o8 kv1.f_Src.f_B 10, o8 kv1.f_Src.f_B 11, o8 kv1.f_Src.f_B 12, o8 kv1.f_Src.f_B 13, o8 kv1.f_Src.f_B 14, o8 kv1.f_Src.f_B 15, vB kv1.f_Dst.f_Six, o8 kv1.f_Dst.f_B 0, o8 kv1.f_Dst.f_B 1, o8 kv1.f_Dst.f_B 2, o8 kv1.f_Dst.f_B 3, o8 kv1.f_Dst.f_B 4, o8 kv1.f_Dst.f_B 5, o8 kv1.f_Dst.f_B 6, o8 kv1.f_Dst.f_B 7, o8 kv1.f_Dst.f_B 8, o8 kv1.f_Dst.f_B 9, o8 kv1.f_Dst.f_B 10, o8 kv1.f_Dst.f_B 11, o8 kv1.f_Dst.f_B 12, o8 kv1.f_Dst.f_B 13, o8 kv1.f_Dst.f_B 14, o8 kv1.f_Dst.f_B 15, v8 kv1.f_Proto, v16 kv1.f_SrcPort, v16 kv1.f_DstPort]) hM rfl rfl) rfl fun v w6 hv => ?_
 clear hM
 obtain ⟨g5, rfl, hM, hf⟩ := hv
 refine RL.eff (E.alloc hM ze46) rfl fun v w9 hv => ?_
 clear hM
 obtain ⟨g8, rfl, hM, hf⟩ := hv
 refine nt hQ4 ?_
 clear hQ4 Q4
 refine sr fun Q11 hQ11 => ?_
 refine RL.val (O.loadN (cs := [vB kv1.f_Src.f_Six, o8 kv1.f_Src.f_B 0, o8 kv1.f_Src.f_B 1, o8 kv1.f_Src.f_B 2, o8 kv1.f_Src.f_B 3, o8 kv1.f_Src.f_B 4, o8 kv1.f_Src.f_B 5, o8 kv1.f_Src.f_B 6, o8 kv1.f_Src.f_B 7, o8 kv1.f_Src.f_B 8, o8 kv1.f_Src.f_B 9, o8 kv1.f_Src.f_B 10, o8 kv1.f_Src.f_B 11, o8 kv1.f_Src.f_B 12, o8 kv1.f_Src.f_B 13, o8 kv1.f_Src.f_B 14, o8 kv1.f_Src.f_B 15, vB kv1.f_Dst.f_Six, o8 kv1.f_Dst.f_B 0, o8 kv1.f_Dst.f_B 1, o8 kv1.f_Dst.f_B 2, o8 kv1.f_Dst.f_B 3, o8 kv1.f_Dst.f_B 4, o8 kv1.f_Dst.f_B 5, o8 kv1.f_Dst.f_B 6, o8 kv1.f_Dst.f_B 7, o8 kv1.f_Dst.f_B 8, o8 kv1.f_Dst.f_B 9, o8 kv1.f_Dst.f_B 10, o8 kv1.f_Dst.f_B 11, o8 kv1.f_Dst.f_B 12, o8 kv1.f_Dst.f_B 13, o8 kv1.f_Dst.f_B 14, o8 kv1.f_Dst.f_B 15, v8 kv1.f_Proto, v16 kv1.f_SrcPort, v16 kv1.f_DstPort]) ag36 rfl (Cs.addsN [] ((hM.bx (i := 0) rfl)) rfl)) rfl ?_
 refine vm rfl rfl ?_
 refine vm rfl rfl ?_
 refine vm rfl rfl ?_
 refine RL.val (O.bld (cs := [vB kv1.f_Src.f_Six, o8 kv1.f_Src.f_B 0, o8 kv1.f_Src.f_B 1, o8 kv1.f_Src.f_B 2, o8 kv1.f_Src.f_B 3, o8 kv1.f_Src.f_B 4, o8 kv1.f_Src.f_B 5, o8 kv1.f_Src.f_B 6, o8 kv1.f_Src.f_B 7, o8 kv1.f_Src.f_B 8, o8 kv1.f_Src.f_B 9, o8 kv1.f_Src.f_B 10, o8 kv1.f_Src.f_B 11, o8 kv1.f_Src.f_B 12, o8 kv1.f_Src.f_B 13, o8 kv1.f_Src.f_B 14, o8 kv1.f_Src.f_B 15, vB kv1.f_Dst.f_Six, o8 kv1.f_Dst.f_B 0, o8 kv1.f_Dst.f_B 1, o8 kv1.f_Dst.f_B 2, o8 kv1.f_Dst.f_B 3, o8 kv1.f_Dst.f_B 4, o8 kv1.f_Dst.f_B 5, o8 kv1.f_Dst.f_B 6, o8 kv1.f_Dst.f_B 7, o8 kv1.f_Dst.f_B 8, o8 kv1.f_Dst.f_B 9, o8 kv1.f_Dst.f_B 10, o8 kv1.f_Dst.f_B 11, o8 kv1.f_Dst.f_B 12, o8 kv1.f_Dst.f_B 13, o8 kv1.f_Dst.f_B 14, o8 kv1.f_Dst.f_B 15, v8 kv1.f_Proto, v16 kv1.f_SrcPort, v16 kv1.f_DstPort, v64 0, v64 0, v64 tick3, v64 tick3, v8 0, v8 0, v8 class2]) bt46 rfl (by kernel_rfl)) rfl ?_
 refine RL.effs (E.stB (j := 1) (off := 0) (vs := [vB kv1.f_Src.f_Six, o8 kv1.f_Src.f_B 0, o8 kv1.f_Src.f_B 1, o8 kv1.f_Src.f_B 2, o8 kv1.f_Src.f_B 3, o8 kv1.f_Src.f_B 4, o8 kv1.f_Src.f_B 5, o8 kv1.f_Src.f_B 6, o8 kv1.f_Src.f_B 7, o8 kv1.f_Src.f_B 8, o8 kv1.f_Src.f_B 9, o8 kv1.f_Src.f_B 10, o8 kv1.f_Src.f_B 11, o8 kv1.f_Src.f_B 12, o8 kv1.f_Src.f_B 13, o8 kv1.f_Src.f_B 14, o8 kv1.f_Src.f_B 15, vB kv1.f_Dst.f_Six, o8 kv1.f_Dst.f_B 0, o8 kv1.f_Dst.f_B 1, o8 kv1.f_Dst.f_B 2, o8 kv1.f_Dst.f_B 3, o8 kv1.f_Dst.f_B 4, o8 kv1.f_Dst.f_B 5, o8 kv1.f_Dst.f_B 6, o8 kv1.f_Dst.f_B 7, o8 kv1.f_Dst.f_B 8, o8 kv1.f_Dst.f_B 9, o8 kv1.f_Dst.f_B 10, o8 kv1.f_Dst.f_B 11, o8 kv1.f_Dst.f_B 12, o8 kv1.f_Dst.f_B 13, o8 kv1.f_Dst.f_B 14, o8 kv1.f_Dst.f_B 15, v8 kv1.f_Proto, v16 kv1.f_SrcPort, v16 kv1.f_DstPort, v64 0, v64 0, v64 tick3, v64 tick3, v8 0, v8 0, v8 class2]) (cs' := [vB kv1.f_Src.f_Six, o8 kv1.f_Src.f_B 0, o8 kv1.f_Src.f_B 1, o8 kv1.f_Src.f_B 2, o8 kv1.f_Src.f_B 3, o8 kv1.f_Src.f_B 4, o8 kv1.f_Src.f_B 5, o8 kv1.f_Src.f_B 6, o8 kv1.f_Src.f_B 7, o8 kv1.f_Src.f_B 8, o8 kv1.f_Src.f_B 9, o8 kv1.f_Src.f_B 10, o8 kv1.f_Src.f_B 11, o8 kv1.f_Src.f_B 12, o8 kv1.f_Src.f_B 13, o8 kv1.f_Src.f_B 14, o8 kv1.f_Src.f_B 15, vB kv1.f_Dst.f_Six, o8 kv1.f_Dst.f_B 0, o8 kv1.f_Dst.f_B 1, o8 kv1.f_Dst.f_B 2, o8 kv1.f_Dst.f_B 3, o8 kv1.f_Dst.f_B 4, o8 kv1.f_Dst.f_B 5, o8 kv1.f_Dst.f_B 6, o8 kv1.f_Dst.f_B 7, o8 kv1.f_Dst.f_B 8, o8 kv1.f_Dst.f_B 9, o8 kv1.f_Dst.f_B 10, o8 kv1.f_Dst.f_B 11, o8 kv1.f_Dst.f_B 12, o8 kv1.f_Dst.f_B 13, o8 kv1.f_Dst.f_B 14, o8 kv1.f_Dst.f_B 15, v8 kv1.f_Proto, v16 kv1.f_SrcPort, v16 kv1.f_DstPort, v64 0, v64 0, v64 tick3, v64 tick3, v8 0, v8 0, v8 class2]) hM rfl sz46 rfl (adds_eq [] rfl) rfl rfl (One.all rfl) rfl rfl) fun w12 hM1 => ?_
 clear hM
 have hM := hM1
 clear hM1
 refine nt hQ11 ?_
 clear hQ11 Q11
 refine KC.ret ?_
 have hE := Option.some.inj hF
 clear hF
 subst hE
 have hb13 := hM.bx (i := 1) rfl
 replace hM := hM.pick [] rfl (by decide)
 refine KQ.rets Try.results54 (RVs.cons (RV.cN (cs := [vB kv1.f_Src.f_Six, o8 kv1.f_Src.f_B 0, o8 kv1.f_Src.f_B 1, o8 kv1.f_Src.f_B 2, o8 kv1.f_Src.f_B 3, o8 kv1.f_Src.f_B 4, o8 kv1.f_Src.f_B 5, o8 kv1.f_Src.f_B 6, o8 kv1.f_Src.f_B 7, o8 kv1.f_Src.f_B 8, o8 kv1.f_Src.f_B 9, o8 kv1.f_Src.f_B 10, o8 kv1.f_Src.f_B 11, o8 kv1.f_Src.f_B 12, o8 kv1.f_Src.f_B 13, o8 kv1.f_Src.f_B 14, o8 kv1.f_Src.f_B 15, vB kv1.f_Dst.f_Six, o8 kv1.f_Dst.f_B 0, o8 kv1.f_Dst.f_B 1, o8 kv1.f_Dst.f_B 2, o8 kv1.f_Dst.f_B 3, o8 kv1.f_Dst.f_B 4, o8 kv1.f_Dst.f_B 5, o8 kv1.f_Dst.f_B 6, o8 kv1.f_Dst.f_B 7, o8 kv1.f_Dst.f_B 8, o8 kv1.f_Dst.f_B 9, o8 kv1.f_Dst.f_B 10, o8 kv1.f_Dst.f_B 11, o8 kv1.f_Dst.f_B 12, o8 kv1.f_Dst.f_B 13, o8 kv1.f_Dst.f_B 14, o8 kv1.f_Dst.f_B 15, v8 kv1.f_Proto, v16 kv1.f_SrcPort, v16 kv1.f_DstPort, v64 0, v64 0, v64 tick3, v64 tick3, v8 0, v8 0, v8 class2]) rfl ag46 hb13) RVs.nil) ?_
 exact ⟨_, rfl, rfl, hM⟩
set_option maxRecDepth 100000 in
set_option maxHeartbeats 40000000 in
theorem c_cache_Cache_begin (w : World) (g2 : Nat) (tg12 : TypeId) (cv1 : T_cache_Cache) (g4 : Nat) (A6 : Option Addr) (c7 : Nat) (A9 : Option Addr) (c10 : Nat) (hL15 : Lent w [.box g2 tg12 [v64 cv1.f_tick, vI cv1.f_bounds.f_Flows, v64 cv1.f_bounds.f_Idle, v64 cv1.f_bounds.f_Active, v64 cv1.f_bounds.f_Packets, v64 cv1.f_bounds.f_Bytes, .pointer (some ⟨g4, 0, none⟩), .slice A9 (cv1.f_flows).length c10], .box g4 96 [.slice A6 (cv1.f_places.f_slots).length c7, vI cv1.f_places.f_many], .row A6 c7 102 39 (cv1.f_places.f_slots).length ((cv1.f_places.f_slots).flatMap e_table_Slot), .row A9 c10 46 44 (cv1.f_flows).length ((cv1.f_flows).flatMap e_flow_Record)]) (kv13 : T_packet_Key) (class14 : Int) (r : (List T_flow_Record) × T_cache_Cache) (hF : F_cache_Cache_begin cv1 kv13 class14 = some r) :
  CallsR Try.prog 27 [.pointer (some ⟨g2, 0, none⟩), .agg #[vB kv13.f_Src.f_Six, o8 kv13.f_Src.f_B 0, o8 kv13.f_Src.f_B 1, o8 kv13.f_Src.f_B 2, o8 kv13.f_Src.f_B 3, o8 kv13.f_Src.f_B 4, o8 kv13.f_Src.f_B 5, o8 kv13.f_Src.f_B 6, o8 kv13.f_Src.f_B 7, o8 kv13.f_Src.f_B 8, o8 kv13.f_Src.f_B 9, o8 kv13.f_Src.f_B 10, o8 kv13.f_Src.f_B 11, o8 kv13.f_Src.f_B 12, o8 kv13.f_Src.f_B 13, o8 kv13.f_Src.f_B 14, o8 kv13.f_Src.f_B 15, vB kv13.f_Dst.f_Six, o8 kv13.f_Dst.f_B 0, o8 kv13.f_Dst.f_B 1, o8 kv13.f_Dst.f_B 2, o8 kv13.f_Dst.f_B 3, o8 kv13.f_Dst.f_B 4, o8 kv13.f_Dst.f_B 5, o8 kv13.f_Dst.f_B 6, o8 kv13.f_Dst.f_B 7, o8 kv13.f_Dst.f_B 8, o8 kv13.f_Dst.f_B 9, o8 kv13.f_Dst.f_B 10, o8 kv13.f_Dst.f_B 11, o8 kv13.f_Dst.f_B 12, o8 kv13.f_Dst.f_B 13, o8 kv13.f_Dst.f_B 14, o8 kv13.f_Dst.f_B 15, v8 kv13.f_Proto, v16 kv13.f_SrcPort, v16 kv13.f_DstPort], v8 class14] w (fun v w' => ∃ (g0 : Nat) (A1 : Option Addr) (c1 : Nat) (A2 : Option Addr) (c2 : Nat) (A3 : Option Addr) (c3 : Nat), v = .slice A3 (r.1).length c3 ∧ Mem w [some g2, some g4, rblk A6 c7, rblk A9 c10] w' [.box g2 tg12 [v64 r.2.f_tick, vI r.2.f_bounds.f_Flows, v64 r.2.f_bounds.f_Idle, v64 r.2.f_bounds.f_Active, v64 r.2.f_bounds.f_Packets, v64 r.2.f_bounds.f_Bytes, .pointer (some ⟨g0, 0, none⟩), .slice A2 (r.2.f_flows).length c2], .box g0 96 [.slice A1 (r.2.f_places.f_slots).length c1, vI r.2.f_places.f_many], .row A1 c1 102 39 r.2.f_places.f_slots.length (r.2.f_places.f_slots.flatMap e_table_Slot), .row A2 c2 46 44 r.2.f_flows.length (r.2.f_flows.flatMap e_flow_Record), .row A3 c3 46 44 r.1.length (r.1.flatMap e_flow_Record)]) := by
 refine calls_KC Try.func27 rfl Try.ntmps27 rfl ?_
 have hM : Mem w [some g2, some g4, rblk A6 c7, rblk A9 c10] w [.box g2 tg12 [v64 cv1.f_tick, vI cv1.f_bounds.f_Flows, v64 cv1.f_bounds.f_Idle, v64 cv1.f_bounds.f_Active, v64 cv1.f_bounds.f_Packets, v64 cv1.f_bounds.f_Bytes, .pointer (some ⟨g4, 0, none⟩), .slice A9 (cv1.f_flows).length c10], .box g4 96 [.slice A6 (cv1.f_places.f_slots).length c7, vI cv1.f_places.f_many], .row A6 c7 102 39 (cv1.f_places.f_slots).length ((cv1.f_places.f_slots).flatMap e_table_Slot), .row A9 c10 46 44 (cv1.f_flows).length ((cv1.f_flows).flatMap e_flow_Record)] := Mem.lendN hL15
 unfold F_cache_Cache_begin at hF
 refine sr fun Q16 hQ16 => ?_
 refine RL.eff (E.box (vs := [vB kv13.f_Src.f_Six, o8 kv13.f_Src.f_B 0, o8 kv13.f_Src.f_B 1, o8 kv13.f_Src.f_B 2, o8 kv13.f_Src.f_B 3, o8 kv13.f_Src.f_B 4, o8 kv13.f_Src.f_B 5, o8 kv13.f_Src.f_B 6, o8 kv13.f_Src.f_B 7, o8 kv13.f_Src.f_B 8, o8 kv13.f_Src.f_B 9, o8 kv13.f_Src.f_B 10, o8 kv13.f_Src.f_B 11, o8 kv13.f_Src.f_B 12, o8 kv13.f_Src.f_B 13, o8 kv13.f_Src.f_B 14, o8 kv13.f_Src.f_B 15, vB kv13.f_Dst.f_Six, o8 kv13.f_Dst.f_B 0, o8 kv13.f_Dst.f_B 1, o8 kv13.f_Dst.f_B 2, o8 kv13.f_Dst.f_B 3, o8 kv13.f_Dst.f_B 4, o8 kv13.f_Dst.f_B 5, o8 kv13.f_Dst.f_B 6, o8 kv13.f_Dst.f_B 7, o8 kv13.f_Dst.f_B 8, o8 kv13.f_Dst.f_B 9, o8 kv13.f_Dst.f_B 10, o8 kv13.f_Dst.f_B 11, o8 kv13.f_Dst.f_B 12, o8 kv13.f_Dst.f_B 13, o8 kv13.f_Dst.f_B 14, o8 kv13.f_Dst.f_B 15, v8 kv13.f_Proto, v16 kv13.f_SrcPort, v16 kv13.f_DstPort]) hM rfl rfl) rfl fun v w18 hv => ?_
 clear hM
 obtain ⟨g17, rfl, hM, hf⟩ := hv
 refine va rfl rfl ?_
 refine nt hQ16 ?_
 clear hQ16 Q16
 refine KC.cut (fun a w73 => ∃ (g58 : Nat) (A60 : Option Addr) (c61 : Nat) (A65 : Option Addr) (c66 : Nat) (A70 : Option Addr) (c71 : Nat) (p51 : Int) (p52 : Int) (p53 : Int) (p54 : Int) (p55 : Int) (p56 : Int) (p62 : List T_table_Slot) (p63 : Int) (p67 : List T_flow_Record) (out72 : List T_flow_Record), Kn 60 [(0, .pointer (some ⟨g2, 0, none⟩)), (2, v8 class14), (4, .pointer (some ⟨g17, 0, none⟩)), (6, .slice A70 (out72).length c71)] a ∧ Mem w [some g2, some g4, rblk A6 c7, rblk A9 c10] w73 [.row A60 c61 102 39 (p62).length ((p62).flatMap e_table_Slot), .box g58 96 [.slice A60 (p62).length c61, vI p63], .row A65 c66 46 44 (p67).length ((p67).flatMap e_flow_Record), .box g2 tg12 [v64 p51, vI p52, v64 p53, v64 p54, v64 p55, v64 p56, .pointer (some ⟨g58, 0, none⟩), .slice A65 (p67).length c66], .box g17 36 [vB kv13.f_Src.f_Six, o8 kv13.f_Src.f_B 0, o8 kv13.f_Src.f_B 1, o8 kv13.f_Src.f_B 2, o8 kv13.f_Src.f_B 3, o8 kv13.f_Src.f_B 4, o8 kv13.f_Src.f_B 5, o8 kv13.f_Src.f_B 6, o8 kv13.f_Src.f_B 7, o8 kv13.f_Src.f_B 8, o8 kv13.f_Src.f_B 9, o8 kv13.f_Src.f_B 10, o8 kv13.f_Src.f_B 11, o8 kv13.f_Src.f_B 12, o8 kv13.f_Src.f_B 13, o8 kv13.f_Src.f_B 14, o8 kv13.f_Src.f_B 15, vB kv13.f_Dst.f_Six, o8 kv13.f_Dst.f_B 0, o8 kv13.f_Dst.f_B 1, o8 kv13.f_Dst.f_B 2, o8 kv13.f_Dst.f_B 3, o8 kv13.f_Dst.f_B 4, o8 kv13.f_Dst.f_B 5, o8 kv13.f_Dst.f_B 6, o8 kv13.f_Dst.f_B 7, o8 kv13.f_Dst.f_B 8, o8 kv13.f_Dst.f_B 9, o8 kv13.f_Dst.f_B 10, o8 kv13.f_Dst.f_B 11, o8 kv13.f_Dst.f_B 12, o8 kv13.f_Dst.f_B 13, o8 kv13.f_Dst.f_B 14, o8 kv13.f_Dst.f_B 15, v8 kv13.f_Proto, v16 kv13.f_SrcPort, v16 kv13.f_DstPort], .row A70 c71 46 44 (out72).length ((out72).flatMap e_flow_Record)] ∧ F_cache_Cache_begin_j1 kv13 class14 p51 p52 p53 p54 p55 p56 p62 p63 p67 out72 = some r) ?_ ?_
 ·refine KC.seqH fun Q20 hQ20 => ?_
  replace hM := hM.drewN 1
  refine KC.draw [] [] [] [0, 1, 2, 4, 5, 6, 7, 8, 10] (.ofList [0, 1, 2, 3, 4, 5, 6, 7, 8, 9, 10]) moP (by kernel_rfl) ?_
  refine RD.p rfl rfl rfl rfl (fun w' => O.move rfl) ?_
  refine RD.p rfl rfl rfl rfl (fun w' => O.nilp rfl) ?_
  refine RD.p rfl rfl rfl rfl (fun w' => O.fldA fl74_3 (by decide) rfl) ?_
  refine RD.q rfl rfl rfl rfl (fun w' hf => O.load sc41 rfl (Cs.adds [7] ((hM.bx (i := 0) rfl).fut hf) rfl)) ?_
  refine RD.p rfl rfl rfl rfl (fun w' => O.len sl41 rfl) ?_
  refine RD.p rfl rfl rfl rfl (fun w' => O.move rfl) ?_
  refine RD.p rfl rfl rfl rfl (fun w' => O.nilp rfl) ?_
  refine RD.p rfl rfl rfl rfl (fun w' => O.fldA fl74_1 (by decide) rfl) ?_
  refine RD.p rfl rfl rfl rfl (fun w' => O.fldA fl24_0 (by decide) rfl) ?_
  refine RD.q rfl rfl rfl rfl (fun w' hf => O.load sc3 rfl (Cs.adds [1, 0] ((hM.bx (i := 0) rfl).fut hf) rfl)) ?_
  refine RD.p rfl rfl rfl rfl (fun w' => O.eql rfl rfl) ?_
  refine RD.nil ?_
  refine KQ.thn hQ20 ?_
  clear hQ20 Q20
  refine KC.cond rfl (fun hc => ?_) (fun hc => ?_)
  ·rw [if_pos hc] at hF
   refine sr fun Q21 hQ21 => ?_
   refine vm rfl rfl ?_
   refine RL.val (O.nilp rfl) rfl ?_
   refine RL.val (O.fldA fl74_3 (by decide) rfl) rfl ?_
   refine RL.val (O.load sc41 rfl (Cs.adds [7] ((hM.bx (i := 0) rfl)) rfl)) rfl ?_
   refine obindE hF fun y22 hx23 hF => ?_
   refine RL.call Try.func51 bd51 rfl rfl (c_slices_MinFunc_flow_Record_flow_Record_fcache_Cache_begin_1 _ _ _ cv1.f_flows (hM.rd (i := 3) rfl) _ hx23) fun v w24 hv => ?_
   obtain ⟨rfl, hN25⟩ := hv
   replace hM := hM.call0 hN25
   refine RL.eff (E.alloc hM ze46) rfl fun v w27 hv => ?_
   clear hM
   obtain ⟨g26, rfl, hM, hf⟩ := hv
   refine RL.effs (E.stB (j := 5) (off := 0) (vs := [vB y22.f_Key.f_Src.f_Six, o8 y22.f_Key.f_Src.f_B 0, o8 y22.f_Key.f_Src.f_B 1, o8 y22.f_Key.f_Src.f_B 2, o8 y22.f_Key.f_Src.f_B 3, o8 y22.f_Key.f_Src.f_B 4, o8 y22.f_Key.f_Src.f_B 5, o8 y22.f_Key.f_Src.f_B 6, o8 y22.f_Key.f_Src.f_B 7, o8 y22.f_Key.f_Src.f_B 8, o8 y22.f_Key.f_Src.f_B 9, o8 y22.f_Key.f_Src.f_B 10, o8 y22.f_Key.f_Src.f_B 11, o8 y22.f_Key.f_Src.f_B 12, o8 y22.f_Key.f_Src.f_B 13, o8 y22.f_Key.f_Src.f_B 14, o8 y22.f_Key.f_Src.f_B 15, vB y22.f_Key.f_Dst.f_Six, o8 y22.f_Key.f_Dst.f_B 0, o8 y22.f_Key.f_Dst.f_B 1, o8 y22.f_Key.f_Dst.f_B 2, o8 y22.f_Key.f_Dst.f_B 3, o8 y22.f_Key.f_Dst.f_B 4, o8 y22.f_Key.f_Dst.f_B 5, o8 y22.f_Key.f_Dst.f_B 6, o8 y22.f_Key.f_Dst.f_B 7, o8 y22.f_Key.f_Dst.f_B 8, o8 y22.f_Key.f_Dst.f_B 9, o8 y22.f_Key.f_Dst.f_B 10, o8 y22.f_Key.f_Dst.f_B 11, o8 y22.f_Key.f_Dst.f_B 12, o8 y22.f_Key.f_Dst.f_B 13, o8 y22.f_Key.f_Dst.f_B 14, o8 y22.f_Key.f_Dst.f_B 15, v8 y22.f_Key.f_Proto, v16 y22.f_Key.f_SrcPort, v16 y22.f_Key.f_DstPort, v64 y22.f_Packets, v64 y22.f_Bytes, v64 y22.f_First, v64 y22.f_Last, v8 y22.f_Flags, v8 y22.f_Reason, v8 y22.f_Class]) (cs' := [vB y22.f_Key.f_Src.f_Six, o8 y22.f_Key.f_Src.f_B 0, o8 y22.f_Key.f_Src.f_B 1, o8 y22.f_Key.f_Src.f_B 2, o8 y22.f_Key.f_Src.f_B 3, o8 y22.f_Key.f_Src.f_B 4, o8 y22.f_Key.f_Src.f_B 5, o8 y22.f_Key.f_Src.f_B 6, o8 y22.f_Key.f_Src.f_B 7, o8 y22.f_Key.f_Src.f_B 8, o8 y22.f_Key.f_Src.f_B 9, o8 y22.f_Key.f_Src.f_B 10, o8 y22.f_Key.f_Src.f_B 11, o8 y22.f_Key.f_Src.f_B 12, o8 y22.f_Key.f_Src.f_B 13, o8 y22.f_Key.f_Src.f_B 14, o8 y22.f_Key.f_Src.f_B 15, vB y22.f_Key.f_Dst.f_Six, o8 y22.f_Key.f_Dst.f_B 0, o8 y22.f_Key.f_Dst.f_B 1, o8 y22.f_Key.f_Dst.f_B 2, o8 y22.f_Key.f_Dst.f_B 3, o8 y22.f_Key.f_Dst.f_B 4, o8 y22.f_Key.f_Dst.f_B 5, o8 y22.f_Key.f_Dst.f_B 6, o8 y22.f_Key.f_Dst.f_B 7, o8 y22.f_Key.f_Dst.f_B 8, o8 y22.f_Key.f_Dst.f_B 9, o8 y22.f_Key.f_Dst.f_B 10, o8 y22.f_Key.f_Dst.f_B 11, o8 y22.f_Key.f_Dst.f_B 12, o8 y22.f_Key.f_Dst.f_B 13, o8 y22.f_Key.f_Dst.f_B 14, o8 y22.f_Key.f_Dst.f_B 15, v8 y22.f_Key.f_Proto, v16 y22.f_Key.f_SrcPort, v16 y22.f_Key.f_DstPort, v64 y22.f_Packets, v64 y22.f_Bytes, v64 y22.f_First, v64 y22.f_Last, v8 y22.f_Flags, v8 y22.f_Reason, v8 y22.f_Class]) hM rfl sz46 rfl (adds_eq [] rfl) rfl rfl (One.all rfl) rfl rfl) fun w29 hM1 => ?_
   clear hM
   have hM := hM1
   clear hM1
   refine nt hQ21 ?_
   clear hQ21 Q21
   refine KC.region ?_
   refine vm rfl rfl ?_
   refine vm rfl rfl ?_
   refine RL.val (O.fldA fl46_0 (by decide) rfl) rfl ?_
   refine RL.val (O.loadN (cs := [vB y22.f_Key.f_Src.f_Six, o8 y22.f_Key.f_Src.f_B 0, o8 y22.f_Key.f_Src.f_B 1, o8 y22.f_Key.f_Src.f_B 2, o8 y22.f_Key.f_Src.f_B 3, o8 y22.f_Key.f_Src.f_B 4, o8 y22.f_Key.f_Src.f_B 5, o8 y22.f_Key.f_Src.f_B 6, o8 y22.f_Key.f_Src.f_B 7, o8 y22.f_Key.f_Src.f_B 8, o8 y22.f_Key.f_Src.f_B 9, o8 y22.f_Key.f_Src.f_B 10, o8 y22.f_Key.f_Src.f_B 11, o8 y22.f_Key.f_Src.f_B 12, o8 y22.f_Key.f_Src.f_B 13, o8 y22.f_Key.f_Src.f_B 14, o8 y22.f_Key.f_Src.f_B 15, vB y22.f_Key.f_Dst.f_Six, o8 y22.f_Key.f_Dst.f_B 0, o8 y22.f_Key.f_Dst.f_B 1, o8 y22.f_Key.f_Dst.f_B 2, o8 y22.f_Key.f_Dst.f_B 3, o8 y22.f_Key.f_Dst.f_B 4, o8 y22.f_Key.f_Dst.f_B 5, o8 y22.f_Key.f_Dst.f_B 6, o8 y22.f_Key.f_Dst.f_B 7, o8 y22.f_Key.f_Dst.f_B 8, o8 y22.f_Key.f_Dst.f_B 9, o8 y22.f_Key.f_Dst.f_B 10, o8 y22.f_Key.f_Dst.f_B 11, o8 y22.f_Key.f_Dst.f_B 12, o8 y22.f_Key.f_Dst.f_B 13, o8 y22.f_Key.f_Dst.f_B 14, o8 y22.f_Key.f_Dst.f_B 15, v8 y22.f_Key.f_Proto, v16 y22.f_Key.f_SrcPort, v16 y22.f_Key.f_DstPort]) ag36 rfl (Cs.addsN [0] ((hM.bx (i := 5) rfl)) rfl)) rfl ?_
   refine obindE hF fun y30 hx31 hF => ?_
   refine RL.call Try.func30 bd30 rfl rfl (c_cache_Cache_end _ _ _ cv1 _ _ _ _ _ (hM.lent [0, 1, 2, 3] rfl (by decide)) y22.f_Key 5 _ hx31) fun v w32 hv => ?_
   obtain ⟨g34, A36, c37, A39, c40, rfl, hN33⟩ := hv
   replace hM := hM.callL [0, 1, 2, 3] [4, 5] rfl rfl (by decide) rfl hN33
   refine RL.eff (E.bsl (enc := e_flow_Record) (xs := ([y30.1] : List T_flow_Record)) hM sl41 ze46 rfl rfl rfl (fun _ => rfl) rfl (by kernel_rfl) rfl) rfl fun v w42 hv => ?_
   clear hM
   obtain ⟨A43, rfl, hM, hf⟩ := hv
   refine cut_someE hF fun hq48 hF => ?_
   refine RL.eff (E.app0 (enc := e_flow_Record) (ys := ([y30.1] : List T_flow_Record)) hM sl41 ze46 rfl rfl rfl rfl rfl (hM.rd (i := 6) rfl) (fun _ => One.all rfl) (of_decide_eq_true hq48)) rfl fun v w47 hv => ?_
   clear hM
   obtain ⟨A45, c46, rfl, hM, hf⟩ := hv
   refine va rfl rfl ?_
   refine RL.nil ?_
   refine KQ.then_k ?_
   replace hM := hM.pick [4, 3, 5, 2, 0, 7] rfl (by decide)
   exact fun a ha => ⟨g34, A36, c37, A39, c40, A45, c46, y30.2.f_tick, y30.2.f_bounds.f_Flows, y30.2.f_bounds.f_Idle, y30.2.f_bounds.f_Active, y30.2.f_bounds.f_Packets, y30.2.f_bounds.f_Bytes, y30.2.f_places.f_slots, y30.2.f_places.f_many, y30.2.f_flows, ([y30.1] : List T_flow_Record), ha.less (less_cons rfl (less_cons rfl (less_cons rfl (less_cons rfl less_nil)))), hM, hF⟩
  rw [if_neg (ne_true hc)] at hF
  refine KC.skip ?_
  refine KQ.then_k ?_
  replace hM := hM.nilrow 46 44
  replace hM := hM.pick [2, 1, 3, 0, 4, 5] rfl (by decide)
  exact fun a ha => ⟨g4, A6, c7, A9, c10, none, 0, cv1.f_tick, cv1.f_bounds.f_Flows, cv1.f_bounds.f_Idle, cv1.f_bounds.f_Active, cv1.f_bounds.f_Packets, cv1.f_bounds.f_Bytes, cv1.f_places.f_slots, cv1.f_places.f_many, cv1.f_flows, ([]), ha.less (less_cons rfl (less_cons rfl (less_cons rfl (less_cons rfl less_nil)))), hM, hF⟩
 rintro a w73 ⟨g58, A60, c61, A65, c66, A70, c71, p51, p52, p53, p54, p55, p56, p62, p63, p67, out72, ha, hM, hF⟩
 refine KC.app ha ?_
 clear ha
 unfold F_cache_Cache_begin_j1 at hF
 refine KC.seqH fun Q74 hQ74 => ?_
 replace hM := hM.drewN 1
 refine KC.draw [] [11] [11] [0, 1, 2, 5, 6, 7, 9, 10] (.ofList [0, 1, 2, 3, 4, 5, 6, 7, 8, 9, 10, 11]) moP (by kernel_rfl) ?_
 refine RD.p rfl rfl rfl rfl (fun w' => O.move rfl) ?_
 refine RD.p rfl rfl rfl rfl (fun w' => O.nilp rfl) ?_
 refine RD.p rfl rfl rfl rfl (fun w' => O.fldA fl74_2 (by decide) rfl) ?_
 refine RD.q rfl rfl rfl rfl (fun w' hf => O.load sc68 rfl (Cs.adds [6] ((hM.bx (i := 3) rfl).fut hf) rfl)) ?_
 refine RD.q rfl rfl rfl rfl (fun w' hf => O.loadN (cs := [vB kv13.f_Src.f_Six, o8 kv13.f_Src.f_B 0, o8 kv13.f_Src.f_B 1, o8 kv13.f_Src.f_B 2, o8 kv13.f_Src.f_B 3, o8 kv13.f_Src.f_B 4, o8 kv13.f_Src.f_B 5, o8 kv13.f_Src.f_B 6, o8 kv13.f_Src.f_B 7, o8 kv13.f_Src.f_B 8, o8 kv13.f_Src.f_B 9, o8 kv13.f_Src.f_B 10, o8 kv13.f_Src.f_B 11, o8 kv13.f_Src.f_B 12, o8 kv13.f_Src.f_B 13, o8 kv13.f_Src.f_B 14, o8 kv13.f_Src.f_B 15, vB kv13.f_Dst.f_Six, o8 kv13.f_Dst.f_B 0, o8 kv13.f_Dst.f_B 1, o8 kv13.f_Dst.f_B 2, o8 kv13.f_Dst.f_B 3, o8 kv13.f_Dst.f_B 4, o8 kv13.f_Dst.f_B 5, o8 kv13.f_Dst.f_B 6, o8 kv13.f_Dst.f_B 7, o8 kv13.f_Dst.f_B 8, o8 kv13.f_Dst.f_B 9, o8 kv13.f_Dst.f_B 10, o8 kv13.f_Dst.f_B 11, o8 kv13.f_Dst.f_B 12, o8 kv13.f_Dst.f_B 13, o8 kv13.f_Dst.f_B 14, o8 kv13.f_Dst.f_B 15, v8 kv13.f_Proto, v16 kv13.f_SrcPort, v16 kv13.f_DstPort]) ag36 rfl (Cs.addsN [] ((hM.bx (i := 4) rfl).fut hf) rfl)) ?_
 refine RD.p rfl rfl rfl rfl (fun w' => O.move rfl) ?_
 refine RD.p rfl rfl rfl rfl (fun w' => O.nilp rfl) ?_
 refine RD.p rfl rfl rfl rfl (fun w' => O.fldA fl74_3 (by decide) rfl) ?_
 refine RD.q rfl rfl rfl rfl (fun w' hf => O.load sc41 rfl (Cs.adds [7] ((hM.bx (i := 3) rfl).fut hf) rfl)) ?_
 refine RD.p rfl rfl rfl rfl (fun w' => O.len sl41 rfl) ?_
 refine RD.p rfl rfl rfl rfl (fun w' => O.conv un3 Try.underlying22 rfl) ?_
 refine obindE hF fun y75 hx76 hF => ?_
 refine RD.mcall rfl rfl trivial Try.func53 bd53 rfl rfl (c_table_Table_Put _ _ _ (T_table_Table.mk p62 p63) _ _ (hM.lent [1, 0] rfl (by decide)) kv13 (IntKind.u64.wrap (p67.length : Int)) _ hx76) fun v w77 hv => ?_
 obtain ⟨A79, c80, rfl, hN78⟩ := hv
 refine ⟨fun h => (by cases h), ?_⟩
 replace hM := hM.callL [1, 0] [2, 3, 4, 5] rfl rfl (by decide) rfl hN78
 refine RD.nil ?_
 refine KQ.thn hQ74 ?_
 clear hQ74 Q74
 refine KC.seqH fun Q82 hQ82 => ?_
 replace hM := hM.drewN 1
 refine KC.draw [] [13, 16] [11, 12, 13, 16] [0, 1, 2, 3, 6, 7, 8, 9, 14, 15] (.ofList [0, 1, 2, 3, 4, 5, 6, 7, 8, 9, 10, 11, 12, 13, 14, 15, 16]) moP (by kernel_rfl) ?_
 refine RD.p rfl rfl rfl rfl (fun w' => O.move rfl) ?_
 refine RD.p rfl rfl rfl rfl (fun w' => O.move rfl) ?_
 refine RD.p rfl rfl rfl rfl (fun w' => O.nilp rfl) ?_
 refine RD.p rfl rfl rfl rfl (fun w' => O.fldA fl74_3 (by decide) rfl) ?_
 refine RD.q rfl rfl rfl rfl (fun w' hf => O.load sc41 rfl (Cs.adds [7] ((hM.bx (i := 1) rfl).fut hf) rfl)) ?_
 refine RD.q rfl rfl rfl rfl (fun w' hf => O.loadN (cs := [vB kv13.f_Src.f_Six, o8 kv13.f_Src.f_B 0, o8 kv13.f_Src.f_B 1, o8 kv13.f_Src.f_B 2, o8 kv13.f_Src.f_B 3, o8 kv13.f_Src.f_B 4, o8 kv13.f_Src.f_B 5, o8 kv13.f_Src.f_B 6, o8 kv13.f_Src.f_B 7, o8 kv13.f_Src.f_B 8, o8 kv13.f_Src.f_B 9, o8 kv13.f_Src.f_B 10, o8 kv13.f_Src.f_B 11, o8 kv13.f_Src.f_B 12, o8 kv13.f_Src.f_B 13, o8 kv13.f_Src.f_B 14, o8 kv13.f_Src.f_B 15, vB kv13.f_Dst.f_Six, o8 kv13.f_Dst.f_B 0, o8 kv13.f_Dst.f_B 1, o8 kv13.f_Dst.f_B 2, o8 kv13.f_Dst.f_B 3, o8 kv13.f_Dst.f_B 4, o8 kv13.f_Dst.f_B 5, o8 kv13.f_Dst.f_B 6, o8 kv13.f_Dst.f_B 7, o8 kv13.f_Dst.f_B 8, o8 kv13.f_Dst.f_B 9, o8 kv13.f_Dst.f_B 10, o8 kv13.f_Dst.f_B 11, o8 kv13.f_Dst.f_B 12, o8 kv13.f_Dst.f_B 13, o8 kv13.f_Dst.f_B 14, o8 kv13.f_Dst.f_B 15, v8 kv13.f_Proto, v16 kv13.f_SrcPort, v16 kv13.f_DstPort]) ag36 rfl (Cs.addsN [] ((hM.bx (i := 2) rfl).fut hf) rfl)) ?_
 refine RD.p rfl rfl rfl rfl (fun w' => O.move rfl) ?_
 refine RD.p rfl rfl rfl rfl (fun w' => O.move rfl) ?_
 refine RD.p rfl rfl rfl rfl (fun w' => O.nilp rfl) ?_
 refine RD.p rfl rfl rfl rfl (fun w' => O.fldA fl74_0 (by decide) rfl) ?_
 refine RD.q rfl rfl rfl rfl (fun w' hf => O.load sc22 rfl (Cs.adds [0] ((hM.bx (i := 1) rfl).fut hf) rfl)) ?_
 refine obindE hF fun y83 hx84 hF => ?_
 refine RD.mcall rfl rfl trivial Try.func54 bd54 rfl rfl (c_flow_Start _ kv13 class14 p51 _ hx84) fun v w85 hv => ?_
 obtain ⟨rfl, hN86⟩ := hv
 refine ⟨fun _ => hN86.fut, ?_⟩
 replace hM := hM.call0 hN86
 refine RD.meff rfl rfl (E.bsl (enc := e_flow_Record) (xs := ([y83] : List T_flow_Record)) hM sl41 ze46 rfl rfl rfl (fun _ => rfl) rfl (by kernel_rfl) rfl) rfl fun v w87 hv => ?_
 clear hM
 obtain ⟨A88, rfl, hM, hf⟩ := hv
 refine ⟨fun _ => hf, ?_⟩
 refine cut_someE hF fun hq93 hF => ?_
 refine RD.meff rfl rfl (E.app (enc := e_flow_Record) (xs := p67) (ys := ([y83] : List T_flow_Record)) (j := 0) hM rfl sl41 ze46 rfl rfl rfl rfl rfl (hM.rd (i := 6) rfl) (fun _ => One.all rfl) (of_decide_eq_true hq93)) rfl fun v w92 hv => ?_
 clear hM
 obtain ⟨A90, c91, rfl, hM, hf⟩ := hv
 refine ⟨fun h => (by cases h), ?_⟩
 refine RD.p rfl rfl rfl rfl (fun w' => O.nilp rfl) ?_
 refine RD.p rfl rfl rfl rfl (fun w' => O.fldA fl74_3 (by decide) rfl) ?_
 refine RD.meffs rfl rfl rfl (E.stB (j := 1) (off := 7) (vs := [.slice A90 ((p67 ++ ([y83] : List T_flow_Record))).length c91]) (cs' := [v64 p51, vI p52, v64 p53, v64 p54, v64 p55, v64 p56, .pointer (some ⟨g58, 0, none⟩), .slice A90 ((p67 ++ ([y83] : List T_flow_Record))).length c91]) hM rfl sz41 rfl (adds_eq [7] rfl) rfl rfl (One.all rfl) rfl rfl) fun w95 hM1 => ?_
 clear hM
 have hM := hM1
 clear hM1
 refine RD.nil ?_
 refine KQ.thn hQ82 ?_
 clear hQ82 Q82
 replace hM := hM.pick [0, 1, 3, 4, 5] rfl (by decide)
 refine sr fun Q96 hQ96 => ?_
 refine vm rfl rfl ?_
 refine va rfl rfl ?_
 refine nt hQ96 ?_
 clear hQ96 Q96
 refine KC.ret ?_
 have hE := Option.some.inj hF
 clear hF
 subst hE
 replace hM := hM.pick [1, 3, 4, 0, 2] rfl (by decide)
 refine KQ.rets Try.results27 (RVs.cons (RV.tm rfl) RVs.nil) ?_
 exact ⟨_, rfl, g58, A79, c80, A90, c91, A70, c71, rfl, hM⟩
set_option maxRecDepth 100000 in
set_option maxHeartbeats 40000000 in
theorem c_flow_Record_Total (w : World) (rv1 : T_flow_Record) (r : T_flow_Total) (hF : F_flow_Record_Total rv1 = some r) :
  CallsR Try.prog 18 [.agg #[vB rv1.f_Key.f_Src.f_Six, o8 rv1.f_Key.f_Src.f_B 0, o8 rv1.f_Key.f_Src.f_B 1, o8 rv1.f_Key.f_Src.f_B 2, o8 rv1.f_Key.f_Src.f_B 3, o8 rv1.f_Key.f_Src.f_B 4, o8 rv1.f_Key.f_Src.f_B 5, o8 rv1.f_Key.f_Src.f_B 6, o8 rv1.f_Key.f_Src.f_B 7, o8 rv1.f_Key.f_Src.f_B 8, o8 rv1.f_Key.f_Src.f_B 9, o8 rv1.f_Key.f_Src.f_B 10, o8 rv1.f_Key.f_Src.f_B 11, o8 rv1.f_Key.f_Src.f_B 12, o8 rv1.f_Key.f_Src.f_B 13, o8 rv1.f_Key.f_Src.f_B 14, o8 rv1.f_Key.f_Src.f_B 15, vB rv1.f_Key.f_Dst.f_Six, o8 rv1.f_Key.f_Dst.f_B 0, o8 rv1.f_Key.f_Dst.f_B 1, o8 rv1.f_Key.f_Dst.f_B 2, o8 rv1.f_Key.f_Dst.f_B 3, o8 rv1.f_Key.f_Dst.f_B 4, o8 rv1.f_Key.f_Dst.f_B 5, o8 rv1.f_Key.f_Dst.f_B 6, o8 rv1.f_Key.f_Dst.f_B 7, o8 rv1.f_Key.f_Dst.f_B 8, o8 rv1.f_Key.f_Dst.f_B 9, o8 rv1.f_Key.f_Dst.f_B 10, o8 rv1.f_Key.f_Dst.f_B 11, o8 rv1.f_Key.f_Dst.f_B 12, o8 rv1.f_Key.f_Dst.f_B 13, o8 rv1.f_Key.f_Dst.f_B 14, o8 rv1.f_Key.f_Dst.f_B 15, v8 rv1.f_Key.f_Proto, v16 rv1.f_Key.f_SrcPort, v16 rv1.f_Key.f_DstPort, v64 rv1.f_Packets, v64 rv1.f_Bytes, v64 rv1.f_First, v64 rv1.f_Last, v8 rv1.f_Flags, v8 rv1.f_Reason, v8 rv1.f_Class]] w (fun v w' => v = .agg #[v64 r.f_Packets, v64 r.f_Bytes] ∧ Mem w [] w' []) := by
 refine calls_KC Try.func18 rfl Try.ntmps18 rfl ?_
 have hM := Mem.init w
 unfold F_flow_Record_Total at hF
 refine sr fun Q2 hQ2 => ?_
 refine RL.eff (E.box (vs := [vB rv1.f_Key.f_Src.f_Six, o8 rv1.f_Key.f_Src.f_B 0, o8 rv1.f_Key.f_Src.f_B 1, o8 rv1.f_Key.f_Src.f_B 2, o8 rv1.f_Key.f_Src.f_B 3, o8 rv1.f_Key.f_Src.f_B 4, o8 rv1.f_Key.f_Src.f_B 5, o8 rv1.f_Key.f_Src.f_B 6, o8 rv1.f_Key.f_Src.f_B 7, o8 rv1.f_Key.f_Src.f_B 8, o8 rv1.f_Key.f_Src.f_B 9, o8 rv1.f_Key.f_Src.f_B 10, o8 rv1.f_Key.f_Src.f_B 11, o8 rv1.f_Key.f_Src.f_B 12, o8 rv1.f_Key.f_Src.f_B 13, o8 rv1.f_Key.f_Src.f_B 14, o8 rv1.f_Key.f_Src.f_B 15, vB rv1.f_Key.f_Dst.f_Six, o8 rv1.f_Key.f_Dst.f_B 0, o8 rv1.f_Key.f_Dst.f_B 1, o8 rv1.f_Key.f_Dst.f_B 2, o8 rv1.f_Key.f_Dst.f_B 3, o8 rv1.f_Key.f_Dst.f_B 4, o8 rv1.f_Key.f_Dst.f_B 5, o8 rv1.f_Key.f_Dst.f_B 6, o8 rv1.f_Key.f_Dst.f_B 7, o8 rv1.f_Key.f_Dst.f_B 8, o8 rv1.f_Key.f_Dst.f_B 9, o8 rv1.f_Key.f_Dst.f_B 10, o8 rv1.f_Key.f_Dst.f_B 11, o8 rv1.f_Key.f_Dst.f_B 12, o8 rv1.f_Key.f_Dst.f_B 13, o8 rv1.f_Key.f_Dst.f_B 14, o8 rv1.f_Key.f_Dst.f_B 15, v8 rv1.f_Key.f_Proto, v16 rv1.f_Key.f_SrcPort, v16 rv1.f_Key.f_DstPort, v64 rv1.f_Packets, v64 rv1.f_Bytes, v64 rv1.f_First, v64 rv1.f_Last, v8 rv1.f_Flags, v8 rv1.f_Reason, v8 rv1.f_Class]) hM rfl rfl) rfl fun v w4 hv => ?_
 clear hM
 obtain ⟨g3, rfl, hM, hf⟩ := hv
 refine RL.eff (E.alloc hM ze55) rfl fun v w7 hv => ?_
 clear hM
 obtain ⟨g6, rfl, hM, hf⟩ := hv
 refine nt hQ2 ?_
 clear hQ2 Q2
 refine sr fun Q9 hQ9 => ?_
 refine RL.val (O.fldA fl46_1 (by decide) rfl) rfl ?_
 refine RL.val (O.load sc22 rfl (Cs.adds [37] ((hM.bx (i := 0) rfl)) rfl)) rfl ?_
 refine RL.val (O.fldA fl46_2 (by decide) rfl) rfl ?_
 refine RL.val (O.load sc22 rfl (Cs.adds [38] ((hM.bx (i := 0) rfl)) rfl)) rfl ?_
 refine RL.val (O.bld (cs := [v64 rv1.f_Packets, v64 rv1.f_Bytes]) bt55 rfl (by kernel_rfl)) rfl ?_
 refine RL.effs (E.stB (j := 1) (off := 0) (vs := [v64 rv1.f_Packets, v64 rv1.f_Bytes]) (cs' := [v64 rv1.f_Packets, v64 rv1.f_Bytes]) hM rfl sz55 rfl (adds_eq [] rfl) rfl rfl (One.all rfl) rfl rfl) fun w10 hM1 => ?_
 clear hM
 have hM := hM1
 clear hM1
 refine nt hQ9 ?_
 clear hQ9 Q9
 refine KC.ret ?_
 have hE := Option.some.inj hF
 clear hF
 subst hE
 have hb11 := hM.bx (i := 1) rfl
 replace hM := hM.pick [] rfl (by decide)
 refine KQ.rets Try.results18 (RVs.cons (RV.cN (cs := [v64 rv1.f_Packets, v64 rv1.f_Bytes]) rfl ag55 hb11) RVs.nil) ?_
 exact ⟨_, rfl, rfl, hM⟩
set_option maxRecDepth 100000 in
set_option maxHeartbeats 40000000 in
theorem c_flow_plus (w : World) (av1 : Int) (b2 : Int) (r : Int) (hF : F_flow_plus av1 b2 = some r) :
  CallsR Try.prog 65 [v64 av1, v64 b2] w (fun v w' => v = v64 r ∧ Mem w [] w' []) := by
 refine calls_KC Try.func65 rfl Try.ntmps65 rfl ?_
 have hM := Mem.init w
 unfold F_flow_plus at hF
 refine sr fun Q3 hQ3 => ?_
 refine va rfl rfl ?_
 refine nt hQ3 ?_
 clear hQ3 Q3
 refine sr fun Q4 hQ4 => ?_
 refine vm rfl rfl ?_
 refine vm rfl rfl ?_
 refine RL.val (O.add64 Try.func66 (by kernel_rfl) (by kernel_rfl) (by kernel_rfl) (by kernel_rfl) rfl rfl rfl) rfl ?_
 refine vm rfl rfl ?_
 refine RL.val (O.ext rfl rfl) rfl ?_
 refine RL.val (O.ext rfl rfl) rfl ?_
 refine va rfl rfl ?_
 refine va rfl rfl ?_
 refine nt hQ4 ?_
 clear hQ4 Q4
 refine KC.seqH fun Q5 hQ5 => ?_
 refine sr fun Q6 hQ6 => ?_
 refine vm rfl rfl ?_
 refine RL.val (O.gtr rfl rfl) rfl ?_
 refine nt hQ6 ?_
 clear hQ6 Q6
 refine KC.cond rfl (fun hc => ?_) (fun hc => ?_)
 ·rw [if_pos hc] at hF
  refine sr fun Q7 hQ7 => ?_
  refine va rfl rfl ?_
  refine nt hQ7 ?_
  clear hQ7 Q7
  refine KC.ret ?_
  refine KQ.thr hQ5 ?_
  clear hQ5 Q5
  have hE := Option.some.inj hF
  clear hF
  subst hE
  refine KQ.rets Try.results65 (RVs.cons (RV.tm rfl) RVs.nil) ?_
  exact ⟨_, rfl, rfl, hM⟩
 rw [if_neg (ne_true hc)] at hF
 refine KC.skip ?_
 refine KQ.thn hQ5 ?_
 clear hQ5 Q5
 refine sr fun Q8 hQ8 => ?_
 refine vm rfl rfl ?_
 refine va rfl rfl ?_
 refine nt hQ8 ?_
 clear hQ8 Q8
 refine KC.ret ?_
 have hE := Option.some.inj hF
 clear hF
 subst hE
 refine KQ.rets Try.results65 (RVs.cons (RV.tm rfl) RVs.nil) ?_
 exact ⟨_, rfl, rfl, hM⟩
set_option maxRecDepth 100000 in
set_option maxHeartbeats 40000000 in
theorem c_flow_Total_Plus (w : World) (t1 : T_flow_Total) (u2 : T_flow_Total) (r : T_flow_Total) (hF : F_flow_Total_Plus t1 u2 = some r) :
  CallsR Try.prog 55 [.agg #[v64 t1.f_Packets, v64 t1.f_Bytes], .agg #[v64 u2.f_Packets, v64 u2.f_Bytes]] w (fun v w' => v = .agg #[v64 r.f_Packets, v64 r.f_Bytes] ∧ Mem w [] w' []) := by
 refine calls_KC Try.func55 rfl Try.ntmps55 rfl ?_
 have hM := Mem.init w
 unfold F_flow_Total_Plus at hF
 refine sr fun Q3 hQ3 => ?_
 refine RL.eff (E.box (vs := [v64 t1.f_Packets, v64 t1.f_Bytes]) hM rfl rfl) rfl fun v w5 hv => ?_
 clear hM
 obtain ⟨g4, rfl, hM, hf⟩ := hv
 refine RL.eff (E.box (vs := [v64 u2.f_Packets, v64 u2.f_Bytes]) hM rfl rfl) rfl fun v w8 hv => ?_
 clear hM
 obtain ⟨g7, rfl, hM, hf⟩ := hv
 refine RL.eff (E.alloc hM ze55) rfl fun v w11 hv => ?_
 clear hM
 obtain ⟨g10, rfl, hM, hf⟩ := hv
 refine nt hQ3 ?_
 clear hQ3 Q3
 refine KC.seqH fun Q13 hQ13 => ?_
 replace hM := hM.drewN 1
 refine KC.draw [] [11] [4, 9, 11] [0, 2, 5, 7] (.ofList [0, 1, 2, 3, 5, 6, 7, 8, 4, 9, 10, 11]) moP (by kernel_rfl) ?_
 refine RD.p rfl rfl rfl rfl (fun w' => O.fldA fl55_0 (by decide) rfl) ?_
 refine RD.q rfl rfl rfl rfl (fun w' hf => O.load sc22 rfl (Cs.adds [0] ((hM.bx (i := 0) rfl).fut hf) rfl)) ?_
 refine RD.p rfl rfl rfl rfl (fun w' => O.fldA fl55_0 (by decide) rfl) ?_
 refine RD.q rfl rfl rfl rfl (fun w' hf => O.load sc22 rfl (Cs.adds [0] ((hM.bx (i := 1) rfl).fut hf) rfl)) ?_
 refine RD.p rfl rfl rfl rfl (fun w' => O.fldA fl55_1 (by decide) rfl) ?_
 refine RD.q rfl rfl rfl rfl (fun w' hf => O.load sc22 rfl (Cs.adds [1] ((hM.bx (i := 0) rfl).fut hf) rfl)) ?_
 refine RD.p rfl rfl rfl rfl (fun w' => O.fldA fl55_1 (by decide) rfl) ?_
 refine RD.q rfl rfl rfl rfl (fun w' hf => O.load sc22 rfl (Cs.adds [1] ((hM.bx (i := 1) rfl).fut hf) rfl)) ?_
 refine obindE hF fun y14 hx15 hF => ?_
 refine RD.mcall rfl rfl trivial Try.func65 bd65 rfl rfl (c_flow_plus _ t1.f_Packets u2.f_Packets _ hx15) fun v w16 hv => ?_
 obtain ⟨rfl, hN17⟩ := hv
 refine ⟨fun _ => hN17.fut, ?_⟩
 replace hM := hM.call0 hN17
 refine obindE hF fun y18 hx19 hF => ?_
 refine RD.mcall rfl rfl trivial Try.func65 bd65 rfl rfl (c_flow_plus _ t1.f_Bytes u2.f_Bytes _ hx19) fun v w20 hv => ?_
 obtain ⟨rfl, hN21⟩ := hv
 refine ⟨fun _ => hN21.fut, ?_⟩
 replace hM := hM.call0 hN21
 refine RD.q rfl rfl rfl rfl (fun w' hf => O.bld (cs := [v64 y14, v64 y18]) bt55 rfl (by kernel_rfl)) ?_
 refine RD.meffs rfl rfl rfl (E.stB (j := 2) (off := 0) (vs := [v64 y14, v64 y18]) (cs' := [v64 y14, v64 y18]) hM rfl sz55 rfl (adds_eq [] rfl) rfl rfl (One.all rfl) rfl rfl) fun w22 hM1 => ?_
 clear hM
 have hM := hM1
 clear hM1
 refine RD.nil ?_
 refine KQ.thn hQ13 ?_
 clear hQ13 Q13
 refine KC.ret ?_
 have hE := Option.some.inj hF
 clear hF
 subst hE
 have hb23 := hM.bx (i := 2) rfl
 replace hM := hM.pick [] rfl (by decide)
 refine KQ.rets Try.results55 (RVs.cons (RV.cN (cs := [v64 y14, v64 y18]) rfl ag55 hb23) RVs.nil) ?_
 exact ⟨_, rfl, rfl, hM⟩
set_option maxRecDepth 100000 in
set_option maxHeartbeats 40000000 in
theorem c_flow_Record_With (w : World) (rv1 : T_flow_Record) (p2 : T_packet_Packet) (tick3 : Int) (r : T_flow_Record) (hF : F_flow_Record_With rv1 p2 tick3 = some r) :
  CallsR Try.prog 28 [.agg #[vB rv1.f_Key.f_Src.f_Six, o8 rv1.f_Key.f_Src.f_B 0, o8 rv1.f_Key.f_Src.f_B 1, o8 rv1.f_Key.f_Src.f_B 2, o8 rv1.f_Key.f_Src.f_B 3, o8 rv1.f_Key.f_Src.f_B 4, o8 rv1.f_Key.f_Src.f_B 5, o8 rv1.f_Key.f_Src.f_B 6, o8 rv1.f_Key.f_Src.f_B 7, o8 rv1.f_Key.f_Src.f_B 8, o8 rv1.f_Key.f_Src.f_B 9, o8 rv1.f_Key.f_Src.f_B 10, o8 rv1.f_Key.f_Src.f_B 11, o8 rv1.f_Key.f_Src.f_B 12, o8 rv1.f_Key.f_Src.f_B 13, o8 rv1.f_Key.f_Src.f_B 14, o8 rv1.f_Key.f_Src.f_B 15, vB rv1.f_Key.f_Dst.f_Six, o8 rv1.f_Key.f_Dst.f_B 0, o8 rv1.f_Key.f_Dst.f_B 1, o8 rv1.f_Key.f_Dst.f_B 2, o8 rv1.f_Key.f_Dst.f_B 3, o8 rv1.f_Key.f_Dst.f_B 4, o8 rv1.f_Key.f_Dst.f_B 5, o8 rv1.f_Key.f_Dst.f_B 6, o8 rv1.f_Key.f_Dst.f_B 7, o8 rv1.f_Key.f_Dst.f_B 8, o8 rv1.f_Key.f_Dst.f_B 9, o8 rv1.f_Key.f_Dst.f_B 10, o8 rv1.f_Key.f_Dst.f_B 11, o8 rv1.f_Key.f_Dst.f_B 12, o8 rv1.f_Key.f_Dst.f_B 13, o8 rv1.f_Key.f_Dst.f_B 14, o8 rv1.f_Key.f_Dst.f_B 15, v8 rv1.f_Key.f_Proto, v16 rv1.f_Key.f_SrcPort, v16 rv1.f_Key.f_DstPort, v64 rv1.f_Packets, v64 rv1.f_Bytes, v64 rv1.f_First, v64 rv1.f_Last, v8 rv1.f_Flags, v8 rv1.f_Reason, v8 rv1.f_Class], .agg #[vB p2.f_Key.f_Src.f_Six, o8 p2.f_Key.f_Src.f_B 0, o8 p2.f_Key.f_Src.f_B 1, o8 p2.f_Key.f_Src.f_B 2, o8 p2.f_Key.f_Src.f_B 3, o8 p2.f_Key.f_Src.f_B 4, o8 p2.f_Key.f_Src.f_B 5, o8 p2.f_Key.f_Src.f_B 6, o8 p2.f_Key.f_Src.f_B 7, o8 p2.f_Key.f_Src.f_B 8, o8 p2.f_Key.f_Src.f_B 9, o8 p2.f_Key.f_Src.f_B 10, o8 p2.f_Key.f_Src.f_B 11, o8 p2.f_Key.f_Src.f_B 12, o8 p2.f_Key.f_Src.f_B 13, o8 p2.f_Key.f_Src.f_B 14, o8 p2.f_Key.f_Src.f_B 15, vB p2.f_Key.f_Dst.f_Six, o8 p2.f_Key.f_Dst.f_B 0, o8 p2.f_Key.f_Dst.f_B 1, o8 p2.f_Key.f_Dst.f_B 2, o8 p2.f_Key.f_Dst.f_B 3, o8 p2.f_Key.f_Dst.f_B 4, o8 p2.f_Key.f_Dst.f_B 5, o8 p2.f_Key.f_Dst.f_B 6, o8 p2.f_Key.f_Dst.f_B 7, o8 p2.f_Key.f_Dst.f_B 8, o8 p2.f_Key.f_Dst.f_B 9, o8 p2.f_Key.f_Dst.f_B 10, o8 p2.f_Key.f_Dst.f_B 11, o8 p2.f_Key.f_Dst.f_B 12, o8 p2.f_Key.f_Dst.f_B 13, o8 p2.f_Key.f_Dst.f_B 14, o8 p2.f_Key.f_Dst.f_B 15, v8 p2.f_Key.f_Proto, v16 p2.f_Key.f_SrcPort, v16 p2.f_Key.f_DstPort, vI p2.f_Length, v8 p2.f_Flags, vB p2.f_Fragment], v64 tick3] w (fun v w' => v = .agg #[vB r.f_Key.f_Src.f_Six, o8 r.f_Key.f_Src.f_B 0, o8 r.f_Key.f_Src.f_B 1, o8 r.f_Key.f_Src.f_B 2, o8 r.f_Key.f_Src.f_B 3, o8 r.f_Key.f_Src.f_B 4, o8 r.f_Key.f_Src.f_B 5, o8 r.f_Key.f_Src.f_B 6, o8 r.f_Key.f_Src.f_B 7, o8 r.f_Key.f_Src.f_B 8, o8 r.f_Key.f_Src.f_B 9, o8 r.f_Key.f_Src.f_B 10, o8 r.f_Key.f_Src.f_B 11, o8 r.f_Key.f_Src.f_B 12, o8 r.f_Key.f_Src.f_B 13, o8 r.f_Key.f_Src.f_B 14, o8 r.f_Key.f_Src.f_B 15, vB r.f_Key.f_Dst.f_Six, o8 r.f_Key.f_Dst.f_B 0, o8 r.f_Key.f_Dst.f_B 1, o8 r.f_Key.f_Dst.f_B 2, o8 r.f_Key.f_Dst.f_B 3, o8 r.f_Key.f_Dst.f_B 4, o8 r.f_Key.f_Dst.f_B 5, o8 r.f_Key.f_Dst.f_B 6, o8 r.f_Key.f_Dst.f_B 7, o8 r.f_Key.f_Dst.f_B 8, o8 r.f_Key.f_Dst.f_B 9, o8 r.f_Key.f_Dst.f_B 10, o8 r.f_Key.f_Dst.f_B 11, o8 r.f_Key.f_Dst.f_B 12, o8 r.f_Key.f_Dst.f_B 13, o8 r.f_Key.f_Dst.f_B 14, o8 r.f_Key.f_Dst.f_B 15, v8 r.f_Key.f_Proto, v16 r.f_Key.f_SrcPort, v16 r.f_Key.f_DstPort, v64 r.f_Packets, v64 r.f_Bytes, v64 r.f_First, v64 r.f_Last, v8 r.f_Flags, v8 r.f_Reason, v8 r.f_Class] ∧ Mem w [] w' []) := by
 refine calls_KC Try.func28 rfl Try.ntmps28 rfl ?_
 have hM := Mem.init w
 unfold F_flow_Record_With at hF
 refine sr fun Q4 hQ4 => ?_
 refine RL.eff (E.box (vs := [vB rv1.f_Key.f_Src.f_Six, o8 rv1.f_Key.f_Src.f_B 0, o8 rv1.f_Key.f_Src.f_B 1, o8 rv1.f_Key.f_Src.f_B 2, o8 rv1.f_Key.f_Src.f_B 3, o8 rv1.f_Key.f_Src.f_B 4, o8 rv1.f_Key.f_Src.f_B 5, o8 rv1.f_Key.f_Src.f_B 6, o8 rv1.f_Key.f_Src.f_B 7, o8 rv1.f_Key.f_Src.f_B 8, o8 rv1.f_Key.f_Src.f_B 9, o8 rv1.f_Key.f_Src.f_B 10, o8 rv1.f_Key.f_Src.f_B 11, o8 rv1.f_Key.f_Src.f_B 12, o8 rv1.f_Key.f_Src.f_B 13, o8 rv1.f_Key.f_Src.f_B 14, o8 rv1.f_Key.f_Src.f_B 15, vB rv1.f_Key.f_Dst.f_Six, o8 rv1.f_Key.f_Dst.f_B 0, o8 rv1.f_Key.f_Dst.f_B 1, o8 rv1.f_Key.f_Dst.f_B 2, o8 rv1.f_Key.f_Dst.f_B 3, o8 rv1.f_Key.f_Dst.f_B 4, o8 rv1.f_Key.f_Dst.f_B 5, o8 rv1.f_Key.f_Dst.f_B 6, o8 rv1.f_Key.f_Dst.f_B 7, o8 rv1.f_Key.f_Dst.f_B 8, o8 rv1.f_Key.f_Dst.f_B 9, o8 rv1.f_Key.f_Dst.f_B 10, o8 rv1.f_Key.f_Dst.f_B 11, o8 rv1.f_Key.f_Dst.f_B 12, o8 rv1.f_Key.f_Dst.f_B 13, o8 rv1.f_Key.f_Dst.f_B 14, o8 rv1.f_Key.f_Dst.f_B 15, v8 rv1.f_Key.f_Proto, v16 rv1.f_Key.f_SrcPort, v16 rv1.f_Key.f_DstPort, v64 rv1.f_Packets, v64 rv1.f_Bytes, v64 rv1.f_First, v64 rv1.f_Last, v8 rv1.f_Flags, v8 rv1.f_Reason, v8 rv1.f_Class]) hM rfl rfl) rfl fun v w6 hv => ?_
 clear hM
 obtain ⟨g5, rfl, hM, hf⟩ := hv
 refine RL.eff (E.box (vs := [vB p2.f_Key.f_Src.f_Six, o8 p2.f_Key.f_Src.f_B 0, o8 p2.f_Key.f_Src.f_B 1, o8 p2.f_Key.f_Src.f_B 2, o8 p2.f_Key.f_Src.f_B 3, o8 p2.f_Key.f_Src.f_B 4, o8 p2.f_Key.f_Src.f_B 5, o8 p2.f_Key.f_Src.f_B 6, o8 p2.f_Key.f_Src.f_B 7, o8 p2.f_Key.f_Src.f_B 8, o8 p2.f_Key.f_Src.f_B 9, o8 p2.f_Key.f_Src.f_B 10, o8 p2.f_Key.f_Src.f_B 11, o8 p2.f_Key.f_Src.f_B 12, o8 p2.f_Key.f_Src.f_B 13, o8 p2.f_Key.f_Src.f_B 14, o8 p2.f_Key.f_Src.f_B 15, vB p2.f_Key.f_Dst.f_Six, o8 p2.f_Key.f_Dst.f_B 0, o8 p2.f_Key.f_Dst.f_B 1, o8 p2.f_Key.f_Dst.f_B 2, o8 p2.f_Key.f_Dst.f_B 3, o8 p2.f_Key.f_Dst.f_B 4, o8 p2.f_Key.f_Dst.f_B 5, o8 p2.f_Key.f_Dst.f_B 6, o8 p2.f_Key.f_Dst.f_B 7, o8 p2.f_Key.f_Dst.f_B 8, o8 p2.f_Key.f_Dst.f_B 9, o8 p2.f_Key.f_Dst.f_B 10, o8 p2.f_Key.f_Dst.f_B 11, o8 p2.f_Key.f_Dst.f_B 12, o8 p2.f_Key.f_Dst.f_B 13, o8 p2.f_Key.f_Dst.f_B 14, o8 p2.f_Key.f_Dst.f_B 15, v8 p2.f_Key.f_Proto, v16 p2.f_Key.f_SrcPort, v16 p2.f_Key.f_DstPort, vI p2.f_Length, v8 p2.f_Flags, vB p2.f_Fragment]) hM rfl rfl) rfl fun v w9 hv => ?_
 clear hM
 obtain ⟨g8, rfl, hM, hf⟩ := hv
 refine RL.eff (E.alloc hM ze46) rfl fun v w12 hv => ?_
 clear hM
 obtain ⟨g11, rfl, hM, hf⟩ := hv
 refine nt hQ4 ?_
 clear hQ4 Q4
 refine KC.cut (fun a w53 => ∃ (g50 : Nat) (t51 : Int) (t52 : Int), Kn 34 [(2, v64 tick3), (3, .pointer (some ⟨g5, 0, none⟩)), (4, .pointer (some ⟨g8, 0, none⟩)), (6, .pointer (some ⟨g11, 0, none⟩)), (7, .pointer (some ⟨g50, 0, none⟩))] a ∧ Mem w [] w53 [.box g5 46 [vB rv1.f_Key.f_Src.f_Six, o8 rv1.f_Key.f_Src.f_B 0, o8 rv1.f_Key.f_Src.f_B 1, o8 rv1.f_Key.f_Src.f_B 2, o8 rv1.f_Key.f_Src.f_B 3, o8 rv1.f_Key.f_Src.f_B 4, o8 rv1.f_Key.f_Src.f_B 5, o8 rv1.f_Key.f_Src.f_B 6, o8 rv1.f_Key.f_Src.f_B 7, o8 rv1.f_Key.f_Src.f_B 8, o8 rv1.f_Key.f_Src.f_B 9, o8 rv1.f_Key.f_Src.f_B 10, o8 rv1.f_Key.f_Src.f_B 11, o8 rv1.f_Key.f_Src.f_B 12, o8 rv1.f_Key.f_Src.f_B 13, o8 rv1.f_Key.f_Src.f_B 14, o8 rv1.f_Key.f_Src.f_B 15, vB rv1.f_Key.f_Dst.f_Six, o8 rv1.f_Key.f_Dst.f_B 0, o8 rv1.f_Key.f_Dst.f_B 1, o8 rv1.f_Key.f_Dst.f_B 2, o8 rv1.f_Key.f_Dst.f_B 3, o8 rv1.f_Key.f_Dst.f_B 4, o8 rv1.f_Key.f_Dst.f_B 5, o8 rv1.f_Key.f_Dst.f_B 6, o8 rv1.f_Key.f_Dst.f_B 7, o8 rv1.f_Key.f_Dst.f_B 8, o8 rv1.f_Key.f_Dst.f_B 9, o8 rv1.f_Key.f_Dst.f_B 10, o8 rv1.f_Key.f_Dst.f_B 11, o8 rv1.f_Key.f_Dst.f_B 12, o8 rv1.f_Key.f_Dst.f_B 13, o8 rv1.f_Key.f_Dst.f_B 14, o8 rv1.f_Key.f_Dst.f_B 15, v8 rv1.f_Key.f_Proto, v16 rv1.f_Key.f_SrcPort, v16 rv1.f_Key.f_DstPort, v64 rv1.f_Packets, v64 rv1.f_Bytes, v64 rv1.f_First, v64 rv1.f_Last, v8 rv1.f_Flags, v8 rv1.f_Reason, v8 rv1.f_Class], .box g8 38 [vB p2.f_Key.f_Src.f_Six, o8 p2.f_Key.f_Src.f_B 0, o8 p2.f_Key.f_Src.f_B 1, o8 p2.f_Key.f_Src.f_B 2, o8 p2.f_Key.f_Src.f_B 3, o8 p2.f_Key.f_Src.f_B 4, o8 p2.f_Key.f_Src.f_B 5, o8 p2.f_Key.f_Src.f_B 6, o8 p2.f_Key.f_Src.f_B 7, o8 p2.f_Key.f_Src.f_B 8, o8 p2.f_Key.f_Src.f_B 9, o8 p2.f_Key.f_Src.f_B 10, o8 p2.f_Key.f_Src.f_B 11, o8 p2.f_Key.f_Src.f_B 12, o8 p2.f_Key.f_Src.f_B 13, o8 p2.f_Key.f_Src.f_B 14, o8 p2.f_Key.f_Src.f_B 15, vB p2.f_Key.f_Dst.f_Six, o8 p2.f_Key.f_Dst.f_B 0, o8 p2.f_Key.f_Dst.f_B 1, o8 p2.f_Key.f_Dst.f_B 2, o8 p2.f_Key.f_Dst.f_B 3, o8 p2.f_Key.f_Dst.f_B 4, o8 p2.f_Key.f_Dst.f_B 5, o8 p2.f_Key.f_Dst.f_B 6, o8 p2.f_Key.f_Dst.f_B 7, o8 p2.f_Key.f_Dst.f_B 8, o8 p2.f_Key.f_Dst.f_B 9, o8 p2.f_Key.f_Dst.f_B 10, o8 p2.f_Key.f_Dst.f_B 11, o8 p2.f_Key.f_Dst.f_B 12, o8 p2.f_Key.f_Dst.f_B 13, o8 p2.f_Key.f_Dst.f_B 14, o8 p2.f_Key.f_Dst.f_B 15, v8 p2.f_Key.f_Proto, v16 p2.f_Key.f_SrcPort, v16 p2.f_Key.f_DstPort, vI p2.f_Length, v8 p2.f_Flags, vB p2.f_Fragment], .box g11 46 [vB false, o8 (List.replicate 16 0) 0, o8 (List.replicate 16 0) 1, o8 (List.replicate 16 0) 2, o8 (List.replicate 16 0) 3, o8 (List.replicate 16 0) 4, o8 (List.replicate 16 0) 5, o8 (List.replicate 16 0) 6, o8 (List.replicate 16 0) 7, o8 (List.replicate 16 0) 8, o8 (List.replicate 16 0) 9, o8 (List.replicate 16 0) 10, o8 (List.replicate 16 0) 11, o8 (List.replicate 16 0) 12, o8 (List.replicate 16 0) 13, o8 (List.replicate 16 0) 14, o8 (List.replicate 16 0) 15, vB false, o8 (List.replicate 16 0) 0, o8 (List.replicate 16 0) 1, o8 (List.replicate 16 0) 2, o8 (List.replicate 16 0) 3, o8 (List.replicate 16 0) 4, o8 (List.replicate 16 0) 5, o8 (List.replicate 16 0) 6, o8 (List.replicate 16 0) 7, o8 (List.replicate 16 0) 8, o8 (List.replicate 16 0) 9, o8 (List.replicate 16 0) 10, o8 (List.replicate 16 0) 11, o8 (List.replicate 16 0) 12, o8 (List.replicate 16 0) 13, o8 (List.replicate 16 0) 14, o8 (List.replicate 16 0) 15, v8 0, v16 0, v16 0, v64 0, v64 0, v64 0, v64 0, v8 0, v8 0, v8 0], .box g50 55 [v64 t51, v64 t52]] ∧ F_flow_Record_With_j1 rv1 p2 tick3 t51 t52 = some r) ?_ ?_
 ·replace hM := hM.drewN 1
  refine KC.draw [] [9] [1, 7, 8, 9] [2, 4, 5] (.cons 0 (.cons 2 (.cons 3 (.cons 4 (.cons 5 (.cons 6 (.alt 1 (.alt 7 (.ofList [8, 9]) 8 (.ofList [7, 9])) 8 (.ofList [1, 7, 9])))))))) moP (by kernel_rfl) ?_
  refine RD.q rfl rfl rfl rfl (fun w' hf => O.loadN (cs := [vB rv1.f_Key.f_Src.f_Six, o8 rv1.f_Key.f_Src.f_B 0, o8 rv1.f_Key.f_Src.f_B 1, o8 rv1.f_Key.f_Src.f_B 2, o8 rv1.f_Key.f_Src.f_B 3, o8 rv1.f_Key.f_Src.f_B 4, o8 rv1.f_Key.f_Src.f_B 5, o8 rv1.f_Key.f_Src.f_B 6, o8 rv1.f_Key.f_Src.f_B 7, o8 rv1.f_Key.f_Src.f_B 8, o8 rv1.f_Key.f_Src.f_B 9, o8 rv1.f_Key.f_Src.f_B 10, o8 rv1.f_Key.f_Src.f_B 11, o8 rv1.f_Key.f_Src.f_B 12, o8 rv1.f_Key.f_Src.f_B 13, o8 rv1.f_Key.f_Src.f_B 14, o8 rv1.f_Key.f_Src.f_B 15, vB rv1.f_Key.f_Dst.f_Six, o8 rv1.f_Key.f_Dst.f_B 0, o8 rv1.f_Key.f_Dst.f_B 1, o8 rv1.f_Key.f_Dst.f_B 2, o8 rv1.f_Key.f_Dst.f_B 3, o8 rv1.f_Key.f_Dst.f_B 4, o8 rv1.f_Key.f_Dst.f_B 5, o8 rv1.f_Key.f_Dst.f_B 6, o8 rv1.f_Key.f_Dst.f_B 7, o8 rv1.f_Key.f_Dst.f_B 8, o8 rv1.f_Key.f_Dst.f_B 9, o8 rv1.f_Key.f_Dst.f_B 10, o8 rv1.f_Key.f_Dst.f_B 11, o8 rv1.f_Key.f_Dst.f_B 12, o8 rv1.f_Key.f_Dst.f_B 13, o8 rv1.f_Key.f_Dst.f_B 14, o8 rv1.f_Key.f_Dst.f_B 15, v8 rv1.f_Key.f_Proto, v16 rv1.f_Key.f_SrcPort, v16 rv1.f_Key.f_DstPort, v64 rv1.f_Packets, v64 rv1.f_Bytes, v64 rv1.f_First, v64 rv1.f_Last, v8 rv1.f_Flags, v8 rv1.f_Reason, v8 rv1.f_Class]) ag46 rfl (Cs.addsN [] ((hM.bx (i := 0) rfl).fut hf) rfl)) ?_
  refine RD.p rfl rfl rfl rfl (fun w' => O.fldA fl38_1 (by decide) rfl) ?_
  refine RD.q rfl rfl rfl rfl (fun w' hf => O.load sc3 rfl (Cs.adds [37] ((hM.bx (i := 1) rfl).fut hf) rfl)) ?_
  refine RD.p rfl rfl rfl rfl (fun w' => O.max2 rfl rfl) ?_
  refine RD.p rfl rfl rfl rfl (fun w' => O.conv un3 Try.underlying22 rfl) ?_
  refine RD.q rfl rfl rfl rfl (fun w' hf => O.bld (cs := [v64 1, v64 (IntKind.u64.wrap (gmax 0 p2.f_Length))]) bt55 rfl (by kernel_rfl)) ?_
  refine RD.alt ?_ ?_
  ·refine obindE hF fun y14 hx15 hF => ?_
   refine RD.mcall rfl rfl trivial Try.func18 bd18 rfl rfl (c_flow_Record_Total _ rv1 _ hx15) fun v w16 hv => ?_
   obtain ⟨rfl, hN17⟩ := hv
   refine ⟨fun _ => hN17.fut, ?_⟩
   replace hM := hM.call0 hN17
   refine RD.alt ?_ ?_
   ·refine obindE hF fun y18 hx19 hF => ?_
    refine RD.mcall rfl rfl trivial Try.func55 bd55 rfl rfl (c_flow_Total_Plus _ y14 (T_flow_Total.mk 1 (IntKind.u64.wrap (gmax 0 p2.f_Length))) _ hx19) fun v w20 hv => ?_
    obtain ⟨rfl, hN21⟩ := hv
    refine ⟨fun _ => hN21.fut, ?_⟩
    replace hM := hM.call0 hN21
    refine RD.meff rfl rfl (E.alloc hM ze55) rfl fun v w23 hv => ?_
    clear hM
    obtain ⟨g22, rfl, hM, hf⟩ := hv
    refine ⟨fun _ => hf, ?_⟩
    refine RD.meffs rfl rfl rfl (E.stB (j := 3) (off := 0) (vs := [v64 y18.f_Packets, v64 y18.f_Bytes]) (cs' := [v64 y18.f_Packets, v64 y18.f_Bytes]) hM rfl sz55 rfl (adds_eq [] rfl) rfl rfl (One.all rfl) rfl rfl) fun w25 hM1 => ?_
    clear hM
    have hM := hM1
    clear hM1
    refine RD.nil ?_
    refine KQ.then_k ?_
    exact fun a ha => ⟨g22, y18.f_Packets, y18.f_Bytes, ha.less (less_cons rfl (less_cons rfl (less_cons rfl (less_cons rfl (less_cons rfl less_nil))))), hM, hF⟩
   refine RD.meff rfl rfl (E.alloc hM ze55) rfl fun v w27 hv => ?_
   clear hM
   obtain ⟨g26, rfl, hM, hf⟩ := hv
   refine ⟨fun _ => hf, ?_⟩
   refine obindE hF fun y29 hx30 hF => ?_
   refine RD.mcall rfl rfl trivial Try.func55 bd55 rfl rfl (c_flow_Total_Plus _ y14 (T_flow_Total.mk 1 (IntKind.u64.wrap (gmax 0 p2.f_Length))) _ hx30) fun v w31 hv => ?_
   obtain ⟨rfl, hN32⟩ := hv
   refine ⟨fun _ => hN32.fut, ?_⟩
   replace hM := hM.call0 hN32
   refine RD.meffs rfl rfl rfl (E.stB (j := 3) (off := 0) (vs := [v64 y29.f_Packets, v64 y29.f_Bytes]) (cs' := [v64 y29.f_Packets, v64 y29.f_Bytes]) hM rfl sz55 rfl (adds_eq [] rfl) rfl rfl (One.all rfl) rfl rfl) fun w33 hM1 => ?_
   clear hM
   have hM := hM1
   clear hM1
   refine RD.nil ?_
   refine KQ.then_k ?_
   exact fun a ha => ⟨g26, y29.f_Packets, y29.f_Bytes, ha.less (less_cons rfl (less_cons rfl (less_cons rfl (less_cons rfl (less_cons rfl less_nil))))), hM, hF⟩
  refine RD.meff rfl rfl (E.alloc hM ze55) rfl fun v w35 hv => ?_
  clear hM
  obtain ⟨g34, rfl, hM, hf⟩ := hv
  refine ⟨fun _ => hf, ?_⟩
  refine obindE hF fun y37 hx38 hF => ?_
  refine RD.mcall rfl rfl trivial Try.func18 bd18 rfl rfl (c_flow_Record_Total _ rv1 _ hx38) fun v w39 hv => ?_
  obtain ⟨rfl, hN40⟩ := hv
  refine ⟨fun _ => hN40.fut, ?_⟩
  replace hM := hM.call0 hN40
  refine obindE hF fun y41 hx42 hF => ?_
  refine RD.mcall rfl rfl trivial Try.func55 bd55 rfl rfl (c_flow_Total_Plus _ y37 (T_flow_Total.mk 1 (IntKind.u64.wrap (gmax 0 p2.f_Length))) _ hx42) fun v w43 hv => ?_
  obtain ⟨rfl, hN44⟩ := hv
  refine ⟨fun _ => hN44.fut, ?_⟩
  replace hM := hM.call0 hN44
  refine RD.meffs rfl rfl rfl (E.stB (j := 3) (off := 0) (vs := [v64 y41.f_Packets, v64 y41.f_Bytes]) (cs' := [v64 y41.f_Packets, v64 y41.f_Bytes]) hM rfl sz55 rfl (adds_eq [] rfl) rfl rfl (One.all rfl) rfl rfl) fun w45 hM1 => ?_
  clear hM
  have hM := hM1
  clear hM1
  refine RD.nil ?_
  refine KQ.then_k ?_
  exact fun a ha => ⟨g34, y41.f_Packets, y41.f_Bytes, ha.less (less_cons rfl (less_cons rfl (less_cons rfl (less_cons rfl (less_cons rfl less_nil))))), hM, hF⟩
 rintro a w53 ⟨g50, t51, t52, ha, hM, hF⟩
 refine KC.app ha ?_
 clear ha
 unfold F_flow_Record_With_j1 at hF
 refine KC.cut (fun a w61 => Kn 34 [(2, v64 tick3), (3, .pointer (some ⟨g5, 0, none⟩)), (4, .pointer (some ⟨g8, 0, none⟩)), (6, .pointer (some ⟨g11, 0, none⟩))] a ∧ Mem w [] w61 [.box g5 46 [vB rv1.f_Key.f_Src.f_Six, o8 rv1.f_Key.f_Src.f_B 0, o8 rv1.f_Key.f_Src.f_B 1, o8 rv1.f_Key.f_Src.f_B 2, o8 rv1.f_Key.f_Src.f_B 3, o8 rv1.f_Key.f_Src.f_B 4, o8 rv1.f_Key.f_Src.f_B 5, o8 rv1.f_Key.f_Src.f_B 6, o8 rv1.f_Key.f_Src.f_B 7, o8 rv1.f_Key.f_Src.f_B 8, o8 rv1.f_Key.f_Src.f_B 9, o8 rv1.f_Key.f_Src.f_B 10, o8 rv1.f_Key.f_Src.f_B 11, o8 rv1.f_Key.f_Src.f_B 12, o8 rv1.f_Key.f_Src.f_B 13, o8 rv1.f_Key.f_Src.f_B 14, o8 rv1.f_Key.f_Src.f_B 15, vB rv1.f_Key.f_Dst.f_Six, o8 rv1.f_Key.f_Dst.f_B 0, o8 rv1.f_Key.f_Dst.f_B 1, o8 rv1.f_Key.f_Dst.f_B 2, o8 rv1.f_Key.f_Dst.f_B 3, o8 rv1.f_Key.f_Dst.f_B 4, o8 rv1.f_Key.f_Dst.f_B 5, o8 rv1.f_Key.f_Dst.f_B 6, o8 rv1.f_Key.f_Dst.f_B 7, o8 rv1.f_Key.f_Dst.f_B 8, o8 rv1.f_Key.f_Dst.f_B 9, o8 rv1.f_Key.f_Dst.f_B 10, o8 rv1.f_Key.f_Dst.f_B 11, o8 rv1.f_Key.f_Dst.f_B 12, o8 rv1.f_Key.f_Dst.f_B 13, o8 rv1.f_Key.f_Dst.f_B 14, o8 rv1.f_Key.f_Dst.f_B 15, v8 rv1.f_Key.f_Proto, v16 rv1.f_Key.f_SrcPort, v16 rv1.f_Key.f_DstPort, v64 t51, v64 t52, v64 rv1.f_First, v64 rv1.f_Last, v8 rv1.f_Flags, v8 rv1.f_Reason, v8 rv1.f_Class], .box g8 38 [vB p2.f_Key.f_Src.f_Six, o8 p2.f_Key.f_Src.f_B 0, o8 p2.f_Key.f_Src.f_B 1, o8 p2.f_Key.f_Src.f_B 2, o8 p2.f_Key.f_Src.f_B 3, o8 p2.f_Key.f_Src.f_B 4, o8 p2.f_Key.f_Src.f_B 5, o8 p2.f_Key.f_Src.f_B 6, o8 p2.f_Key.f_Src.f_B 7, o8 p2.f_Key.f_Src.f_B 8, o8 p2.f_Key.f_Src.f_B 9, o8 p2.f_Key.f_Src.f_B 10, o8 p2.f_Key.f_Src.f_B 11, o8 p2.f_Key.f_Src.f_B 12, o8 p2.f_Key.f_Src.f_B 13, o8 p2.f_Key.f_Src.f_B 14, o8 p2.f_Key.f_Src.f_B 15, vB p2.f_Key.f_Dst.f_Six, o8 p2.f_Key.f_Dst.f_B 0, o8 p2.f_Key.f_Dst.f_B 1, o8 p2.f_Key.f_Dst.f_B 2, o8 p2.f_Key.f_Dst.f_B 3, o8 p2.f_Key.f_Dst.f_B 4, o8 p2.f_Key.f_Dst.f_B 5, o8 p2.f_Key.f_Dst.f_B 6, o8 p2.f_Key.f_Dst.f_B 7, o8 p2.f_Key.f_Dst.f_B 8, o8 p2.f_Key.f_Dst.f_B 9, o8 p2.f_Key.f_Dst.f_B 10, o8 p2.f_Key.f_Dst.f_B 11, o8 p2.f_Key.f_Dst.f_B 12, o8 p2.f_Key.f_Dst.f_B 13, o8 p2.f_Key.f_Dst.f_B 14, o8 p2.f_Key.f_Dst.f_B 15, v8 p2.f_Key.f_Proto, v16 p2.f_Key.f_SrcPort, v16 p2.f_Key.f_DstPort, vI p2.f_Length, v8 p2.f_Flags, vB p2.f_Fragment], .box g11 46 [vB false, o8 (List.replicate 16 0) 0, o8 (List.replicate 16 0) 1, o8 (List.replicate 16 0) 2, o8 (List.replicate 16 0) 3, o8 (List.replicate 16 0) 4, o8 (List.replicate 16 0) 5, o8 (List.replicate 16 0) 6, o8 (List.replicate 16 0) 7, o8 (List.replicate 16 0) 8, o8 (List.replicate 16 0) 9, o8 (List.replicate 16 0) 10, o8 (List.replicate 16 0) 11, o8 (List.replicate 16 0) 12, o8 (List.replicate 16 0) 13, o8 (List.replicate 16 0) 14, o8 (List.replicate 16 0) 15, vB false, o8 (List.replicate 16 0) 0, o8 (List.replicate 16 0) 1, o8 (List.replicate 16 0) 2, o8 (List.replicate 16 0) 3, o8 (List.replicate 16 0) 4, o8 (List.replicate 16 0) 5, o8 (List.replicate 16 0) 6, o8 (List.replicate 16 0) 7, o8 (List.replicate 16 0) 8, o8 (List.replicate 16 0) 9, o8 (List.replicate 16 0) 10, o8 (List.replicate 16 0) 11, o8 (List.replicate 16 0) 12, o8 (List.replicate 16 0) 13, o8 (List.replicate 16 0) 14, o8 (List.replicate 16 0) 15, v8 0, v16 0, v16 0, v64 0, v64 0, v64 0, v64 0, v8 0, v8 0, v8 0]] ∧ F_flow_Record_With_j2 rv1 p2 tick3 t51 t52 = some r) ?_ ?_
 ·replace hM := hM.drewN 1
  refine KC.draw [] [5, 7] [3, 5, 7] [0, 2, 4, 6] (.cons 0 (.cons 1 (.cons 2 (.cons 4 (.alt 3 (.ofList [5, 6, 7]) 5 (.ofList [3, 6, 7])))))) moP (by kernel_rfl) ?_
  refine RD.p rfl rfl rfl rfl (fun w' => O.fldA fl55_0 (by decide) rfl) ?_
  refine RD.q rfl rfl rfl rfl (fun w' hf => O.load sc22 rfl (Cs.adds [0] ((hM.bx (i := 3) rfl).fut hf) rfl)) ?_
  refine RD.p rfl rfl rfl rfl (fun w' => O.fldA fl55_1 (by decide) rfl) ?_
  refine RD.p rfl rfl rfl rfl (fun w' => O.fldA fl46_1 (by decide) rfl) ?_
  refine RD.alt ?_ ?_
  ·refine RD.mq rfl rfl (O.load sc22 rfl (Cs.adds [1] ((hM.bx (i := 3) rfl)) rfl)) rfl ?_
   refine RD.meffs rfl rfl rfl (E.stB (j := 0) (off := 37) (vs := [v64 t51]) (cs' := [vB rv1.f_Key.f_Src.f_Six, o8 rv1.f_Key.f_Src.f_B 0, o8 rv1.f_Key.f_Src.f_B 1, o8 rv1.f_Key.f_Src.f_B 2, o8 rv1.f_Key.f_Src.f_B 3, o8 rv1.f_Key.f_Src.f_B 4, o8 rv1.f_Key.f_Src.f_B 5, o8 rv1.f_Key.f_Src.f_B 6, o8 rv1.f_Key.f_Src.f_B 7, o8 rv1.f_Key.f_Src.f_B 8, o8 rv1.f_Key.f_Src.f_B 9, o8 rv1.f_Key.f_Src.f_B 10, o8 rv1.f_Key.f_Src.f_B 11, o8 rv1.f_Key.f_Src.f_B 12, o8 rv1.f_Key.f_Src.f_B 13, o8 rv1.f_Key.f_Src.f_B 14, o8 rv1.f_Key.f_Src.f_B 15, vB rv1.f_Key.f_Dst.f_Six, o8 rv1.f_Key.f_Dst.f_B 0, o8 rv1.f_Key.f_Dst.f_B 1, o8 rv1.f_Key.f_Dst.f_B 2, o8 rv1.f_Key.f_Dst.f_B 3, o8 rv1.f_Key.f_Dst.f_B 4, o8 rv1.f_Key.f_Dst.f_B 5, o8 rv1.f_Key.f_Dst.f_B 6, o8 rv1.f_Key.f_Dst.f_B 7, o8 rv1.f_Key.f_Dst.f_B 8, o8 rv1.f_Key.f_Dst.f_B 9, o8 rv1.f_Key.f_Dst.f_B 10, o8 rv1.f_Key.f_Dst.f_B 11, o8 rv1.f_Key.f_Dst.f_B 12, o8 rv1.f_Key.f_Dst.f_B 13, o8 rv1.f_Key.f_Dst.f_B 14, o8 rv1.f_Key.f_Dst.f_B 15, v8 rv1.f_Key.f_Proto, v16 rv1.f_Key.f_SrcPort, v16 rv1.f_Key.f_DstPort, v64 t51, v64 rv1.f_Bytes, v64 rv1.f_First, v64 rv1.f_Last, v8 rv1.f_Flags, v8 rv1.f_Reason, v8 rv1.f_Class]) hM rfl sz22 rfl (adds_eq [37] rfl) rfl rfl (One.all rfl) rfl rfl) fun w54 hM1 => ?_
   clear hM
   have hM := hM1
   clear hM1
   refine RD.p rfl rfl rfl rfl (fun w' => O.fldA fl46_2 (by decide) rfl) ?_
   refine RD.meffs rfl rfl rfl (E.stB (j := 0) (off := 38) (vs := [v64 t52]) (cs' := [vB rv1.f_Key.f_Src.f_Six, o8 rv1.f_Key.f_Src.f_B 0, o8 rv1.f_Key.f_Src.f_B 1, o8 rv1.f_Key.f_Src.f_B 2, o8 rv1.f_Key.f_Src.f_B 3, o8 rv1.f_Key.f_Src.f_B 4, o8 rv1.f_Key.f_Src.f_B 5, o8 rv1.f_Key.f_Src.f_B 6, o8 rv1.f_Key.f_Src.f_B 7, o8 rv1.f_Key.f_Src.f_B 8, o8 rv1.f_Key.f_Src.f_B 9, o8 rv1.f_Key.f_Src.f_B 10, o8 rv1.f_Key.f_Src.f_B 11, o8 rv1.f_Key.f_Src.f_B 12, o8 rv1.f_Key.f_Src.f_B 13, o8 rv1.f_Key.f_Src.f_B 14, o8 rv1.f_Key.f_Src.f_B 15, vB rv1.f_Key.f_Dst.f_Six, o8 rv1.f_Key.f_Dst.f_B 0, o8 rv1.f_Key.f_Dst.f_B 1, o8 rv1.f_Key.f_Dst.f_B 2, o8 rv1.f_Key.f_Dst.f_B 3, o8 rv1.f_Key.f_Dst.f_B 4, o8 rv1.f_Key.f_Dst.f_B 5, o8 rv1.f_Key.f_Dst.f_B 6, o8 rv1.f_Key.f_Dst.f_B 7, o8 rv1.f_Key.f_Dst.f_B 8, o8 rv1.f_Key.f_Dst.f_B 9, o8 rv1.f_Key.f_Dst.f_B 10, o8 rv1.f_Key.f_Dst.f_B 11, o8 rv1.f_Key.f_Dst.f_B 12, o8 rv1.f_Key.f_Dst.f_B 13, o8 rv1.f_Key.f_Dst.f_B 14, o8 rv1.f_Key.f_Dst.f_B 15, v8 rv1.f_Key.f_Proto, v16 rv1.f_Key.f_SrcPort, v16 rv1.f_Key.f_DstPort, v64 t51, v64 t52, v64 rv1.f_First, v64 rv1.f_Last, v8 rv1.f_Flags, v8 rv1.f_Reason, v8 rv1.f_Class]) hM rfl sz22 rfl (adds_eq [38] rfl) rfl rfl (One.all rfl) rfl rfl) fun w55 hM1 => ?_
   clear hM
   have hM := hM1
   clear hM1
   refine RD.nil ?_
   refine KQ.then_k ?_
   replace hM := hM.pick [0, 1, 2] rfl (by decide)
   exact fun a ha => ⟨ha.less (less_cons rfl (less_cons rfl (less_cons rfl (less_cons rfl less_nil)))), hM, hF⟩
  refine RD.meffs rfl rfl rfl (E.stB (j := 0) (off := 37) (vs := [v64 t51]) (cs' := [vB rv1.f_Key.f_Src.f_Six, o8 rv1.f_Key.f_Src.f_B 0, o8 rv1.f_Key.f_Src.f_B 1, o8 rv1.f_Key.f_Src.f_B 2, o8 rv1.f_Key.f_Src.f_B 3, o8 rv1.f_Key.f_Src.f_B 4, o8 rv1.f_Key.f_Src.f_B 5, o8 rv1.f_Key.f_Src.f_B 6, o8 rv1.f_Key.f_Src.f_B 7, o8 rv1.f_Key.f_Src.f_B 8, o8 rv1.f_Key.f_Src.f_B 9, o8 rv1.f_Key.f_Src.f_B 10, o8 rv1.f_Key.f_Src.f_B 11, o8 rv1.f_Key.f_Src.f_B 12, o8 rv1.f_Key.f_Src.f_B 13, o8 rv1.f_Key.f_Src.f_B 14, o8 rv1.f_Key.f_Src.f_B 15, vB rv1.f_Key.f_Dst.f_Six, o8 rv1.f_Key.f_Dst.f_B 0, o8 rv1.f_Key.f_Dst.f_B 1, o8 rv1.f_Key.f_Dst.f_B 2, o8 rv1.f_Key.f_Dst.f_B 3, o8 rv1.f_Key.f_Dst.f_B 4, o8 rv1.f_Key.f_Dst.f_B 5, o8 rv1.f_Key.f_Dst.f_B 6, o8 rv1.f_Key.f_Dst.f_B 7, o8 rv1.f_Key.f_Dst.f_B 8, o8 rv1.f_Key.f_Dst.f_B 9, o8 rv1.f_Key.f_Dst.f_B 10, o8 rv1.f_Key.f_Dst.f_B 11, o8 rv1.f_Key.f_Dst.f_B 12, o8 rv1.f_Key.f_Dst.f_B 13, o8 rv1.f_Key.f_Dst.f_B 14, o8 rv1.f_Key.f_Dst.f_B 15, v8 rv1.f_Key.f_Proto, v16 rv1.f_Key.f_SrcPort, v16 rv1.f_Key.f_DstPort, v64 t51, v64 rv1.f_Bytes, v64 rv1.f_First, v64 rv1.f_Last, v8 rv1.f_Flags, v8 rv1.f_Reason, v8 rv1.f_Class]) hM rfl sz22 rfl (adds_eq [37] rfl) rfl rfl (One.all rfl) rfl rfl) fun w56 hM1 => ?_
  clear hM
  have hM := hM1
  clear hM1
  refine RD.mq rfl rfl (O.load sc22 rfl (Cs.adds [1] ((hM.bx (i := 3) rfl)) rfl)) rfl ?_
  refine RD.p rfl rfl rfl rfl (fun w' => O.fldA fl46_2 (by decide) rfl) ?_
  refine RD.meffs rfl rfl rfl (E.stB (j := 0) (off := 38) (vs := [v64 t52]) (cs' := [vB rv1.f_Key.f_Src.f_Six, o8 rv1.f_Key.f_Src.f_B 0, o8 rv1.f_Key.f_Src.f_B 1, o8 rv1.f_Key.f_Src.f_B 2, o8 rv1.f_Key.f_Src.f_B 3, o8 rv1.f_Key.f_Src.f_B 4, o8 rv1.f_Key.f_Src.f_B 5, o8 rv1.f_Key.f_Src.f_B 6, o8 rv1.f_Key.f_Src.f_B 7, o8 rv1.f_Key.f_Src.f_B 8, o8 rv1.f_Key.f_Src.f_B 9, o8 rv1.f_Key.f_Src.f_B 10, o8 rv1.f_Key.f_Src.f_B 11, o8 rv1.f_Key.f_Src.f_B 12, o8 rv1.f_Key.f_Src.f_B 13, o8 rv1.f_Key.f_Src.f_B 14, o8 rv1.f_Key.f_Src.f_B 15, vB rv1.f_Key.f_Dst.f_Six, o8 rv1.f_Key.f_Dst.f_B 0, o8 rv1.f_Key.f_Dst.f_B 1, o8 rv1.f_Key.f_Dst.f_B 2, o8 rv1.f_Key.f_Dst.f_B 3, o8 rv1.f_Key.f_Dst.f_B 4, o8 rv1.f_Key.f_Dst.f_B 5, o8 rv1.f_Key.f_Dst.f_B 6, o8 rv1.f_Key.f_Dst.f_B 7, o8 rv1.f_Key.f_Dst.f_B 8, o8 rv1.f_Key.f_Dst.f_B 9, o8 rv1.f_Key.f_Dst.f_B 10, o8 rv1.f_Key.f_Dst.f_B 11, o8 rv1.f_Key.f_Dst.f_B 12, o8 rv1.f_Key.f_Dst.f_B 13, o8 rv1.f_Key.f_Dst.f_B 14, o8 rv1.f_Key.f_Dst.f_B 15, v8 rv1.f_Key.f_Proto, v16 rv1.f_Key.f_SrcPort, v16 rv1.f_Key.f_DstPort, v64 t51, v64 t52, v64 rv1.f_First, v64 rv1.f_Last, v8 rv1.f_Flags, v8 rv1.f_Reason, v8 rv1.f_Class]) hM rfl sz22 rfl (adds_eq [38] rfl) rfl rfl (One.all rfl) rfl rfl) fun w57 hM1 => ?_
  clear hM
  have hM := hM1
  clear hM1
  refine RD.nil ?_
  refine KQ.then_k ?_
  replace hM := hM.pick [0, 1, 2] rfl (by decide)
  exact fun a ha => ⟨ha.less (less_cons rfl (less_cons rfl (less_cons rfl (less_cons rfl less_nil)))), hM, hF⟩
 rintro a w61 ⟨ha, hM, hF⟩
 refine KC.app ha ?_
 clear ha
 unfold F_flow_Record_With_j2 at hF
 refine sr fun Q62 hQ62 => ?_
 refine RL.val (O.fldA fl46_4 (by decide) rfl) rfl ?_
 refine RL.val (O.load sc22 rfl (Cs.adds [40] ((hM.bx (i := 0) rfl)) rfl)) rfl ?_
 refine vm rfl rfl ?_
 refine RL.val (O.max2 rfl rfl) rfl ?_
 refine RL.val (O.fldA fl46_4 (by decide) rfl) rfl ?_
 refine RL.effs (E.stB (j := 0) (off := 40) (vs := [v64 (gmax rv1.f_Last tick3)]) (cs' := [vB rv1.f_Key.f_Src.f_Six, o8 rv1.f_Key.f_Src.f_B 0, o8 rv1.f_Key.f_Src.f_B 1, o8 rv1.f_Key.f_Src.f_B 2, o8 rv1.f_Key.f_Src.f_B 3, o8 rv1.f_Key.f_Src.f_B 4, o8 rv1.f_Key.f_Src.f_B 5, o8 rv1.f_Key.f_Src.f_B 6, o8 rv1.f_Key.f_Src.f_B 7, o8 rv1.f_Key.f_Src.f_B 8, o8 rv1.f_Key.f_Src.f_B 9, o8 rv1.f_Key.f_Src.f_B 10, o8 rv1.f_Key.f_Src.f_B 11, o8 rv1.f_Key.f_Src.f_B 12, o8 rv1.f_Key.f_Src.f_B 13, o8 rv1.f_Key.f_Src.f_B 14, o8 rv1.f_Key.f_Src.f_B 15, vB rv1.f_Key.f_Dst.f_Six, o8 rv1.f_Key.f_Dst.f_B 0, o8 rv1.f_Key.f_Dst.f_B 1, o8 rv1.f_Key.f_Dst.f_B 2, o8 rv1.f_Key.f_Dst.f_B 3, o8 rv1.f_Key.f_Dst.f_B 4, o8 rv1.f_Key.f_Dst.f_B 5, o8 rv1.f_Key.f_Dst.f_B 6, o8 rv1.f_Key.f_Dst.f_B 7, o8 rv1.f_Key.f_Dst.f_B 8, o8 rv1.f_Key.f_Dst.f_B 9, o8 rv1.f_Key.f_Dst.f_B 10, o8 rv1.f_Key.f_Dst.f_B 11, o8 rv1.f_Key.f_Dst.f_B 12, o8 rv1.f_Key.f_Dst.f_B 13, o8 rv1.f_Key.f_Dst.f_B 14, o8 rv1.f_Key.f_Dst.f_B 15, v8 rv1.f_Key.f_Proto, v16 rv1.f_Key.f_SrcPort, v16 rv1.f_Key.f_DstPort, v64 t51, v64 t52, v64 rv1.f_First, v64 (gmax rv1.f_Last tick3), v8 rv1.f_Flags, v8 rv1.f_Reason, v8 rv1.f_Class]) hM rfl sz22 rfl (adds_eq [40] rfl) rfl rfl (One.all rfl) rfl rfl) fun w63 hM1 => ?_
 clear hM
 have hM := hM1
 clear hM1
 refine nt hQ62 ?_
 clear hQ62 Q62
 refine sr fun Q64 hQ64 => ?_
 refine RL.val (O.fldA fl46_5 (by decide) rfl) rfl ?_
 refine RL.val (O.load sc5 rfl (Cs.adds [41] ((hM.bx (i := 0) rfl)) rfl)) rfl ?_
 refine RL.val (O.fldA fl38_2 (by decide) rfl) rfl ?_
 refine RL.val (O.load sc5 rfl (Cs.adds [38] ((hM.bx (i := 1) rfl)) rfl)) rfl ?_
 refine RL.val (O.or rfl rfl) rfl ?_
 refine RL.val (O.fldA fl46_5 (by decide) rfl) rfl ?_
 refine RL.effs (E.stB (j := 0) (off := 41) (vs := [v8 (bits .or .u8 rv1.f_Flags p2.f_Flags)]) (cs' := [vB rv1.f_Key.f_Src.f_Six, o8 rv1.f_Key.f_Src.f_B 0, o8 rv1.f_Key.f_Src.f_B 1, o8 rv1.f_Key.f_Src.f_B 2, o8 rv1.f_Key.f_Src.f_B 3, o8 rv1.f_Key.f_Src.f_B 4, o8 rv1.f_Key.f_Src.f_B 5, o8 rv1.f_Key.f_Src.f_B 6, o8 rv1.f_Key.f_Src.f_B 7, o8 rv1.f_Key.f_Src.f_B 8, o8 rv1.f_Key.f_Src.f_B 9, o8 rv1.f_Key.f_Src.f_B 10, o8 rv1.f_Key.f_Src.f_B 11, o8 rv1.f_Key.f_Src.f_B 12, o8 rv1.f_Key.f_Src.f_B 13, o8 rv1.f_Key.f_Src.f_B 14, o8 rv1.f_Key.f_Src.f_B 15, vB rv1.f_Key.f_Dst.f_Six, o8 rv1.f_Key.f_Dst.f_B 0, o8 rv1.f_Key.f_Dst.f_B 1, o8 rv1.f_Key.f_Dst.f_B 2, o8 rv1.f_Key.f_Dst.f_B 3, o8 rv1.f_Key.f_Dst.f_B 4, o8 rv1.f_Key.f_Dst.f_B 5, o8 rv1.f_Key.f_Dst.f_B 6, o8 rv1.f_Key.f_Dst.f_B 7, o8 rv1.f_Key.f_Dst.f_B 8, o8 rv1.f_Key.f_Dst.f_B 9, o8 rv1.f_Key.f_Dst.f_B 10, o8 rv1.f_Key.f_Dst.f_B 11, o8 rv1.f_Key.f_Dst.f_B 12, o8 rv1.f_Key.f_Dst.f_B 13, o8 rv1.f_Key.f_Dst.f_B 14, o8 rv1.f_Key.f_Dst.f_B 15, v8 rv1.f_Key.f_Proto, v16 rv1.f_Key.f_SrcPort, v16 rv1.f_Key.f_DstPort, v64 t51, v64 t52, v64 rv1.f_First, v64 (gmax rv1.f_Last tick3), v8 (bits .or .u8 rv1.f_Flags p2.f_Flags), v8 rv1.f_Reason, v8 rv1.f_Class]) hM rfl sz5 rfl (adds_eq [41] rfl) rfl rfl (One.all rfl) rfl rfl) fun w65 hM1 => ?_
 clear hM
 have hM := hM1
 clear hM1
 refine nt hQ64 ?_
 clear hQ64 Q64
 refine sr fun Q66 hQ66 => ?_
 refine RL.val (O.loadN (cs := [vB rv1.f_Key.f_Src.f_Six, o8 rv1.f_Key.f_Src.f_B 0, o8 rv1.f_Key.f_Src.f_B 1, o8 rv1.f_Key.f_Src.f_B 2, o8 rv1.f_Key.f_Src.f_B 3, o8 rv1.f_Key.f_Src.f_B 4, o8 rv1.f_Key.f_Src.f_B 5, o8 rv1.f_Key.f_Src.f_B 6, o8 rv1.f_Key.f_Src.f_B 7, o8 rv1.f_Key.f_Src.f_B 8, o8 rv1.f_Key.f_Src.f_B 9, o8 rv1.f_Key.f_Src.f_B 10, o8 rv1.f_Key.f_Src.f_B 11, o8 rv1.f_Key.f_Src.f_B 12, o8 rv1.f_Key.f_Src.f_B 13, o8 rv1.f_Key.f_Src.f_B 14, o8 rv1.f_Key.f_Src.f_B 15, vB rv1.f_Key.f_Dst.f_Six, o8 rv1.f_Key.f_Dst.f_B 0, o8 rv1.f_Key.f_Dst.f_B 1, o8 rv1.f_Key.f_Dst.f_B 2, o8 rv1.f_Key.f_Dst.f_B 3, o8 rv1.f_Key.f_Dst.f_B 4, o8 rv1.f_Key.f_Dst.f_B 5, o8 rv1.f_Key.f_Dst.f_B 6, o8 rv1.f_Key.f_Dst.f_B 7, o8 rv1.f_Key.f_Dst.f_B 8, o8 rv1.f_Key.f_Dst.f_B 9, o8 rv1.f_Key.f_Dst.f_B 10, o8 rv1.f_Key.f_Dst.f_B 11, o8 rv1.f_Key.f_Dst.f_B 12, o8 rv1.f_Key.f_Dst.f_B 13, o8 rv1.f_Key.f_Dst.f_B 14, o8 rv1.f_Key.f_Dst.f_B 15, v8 rv1.f_Key.f_Proto, v16 rv1.f_Key.f_SrcPort, v16 rv1.f_Key.f_DstPort, v64 t51, v64 t52, v64 rv1.f_First, v64 (gmax rv1.f_Last tick3), v8 (bits .or .u8 rv1.f_Flags p2.f_Flags), v8 rv1.f_Reason, v8 rv1.f_Class]) ag46 rfl (Cs.addsN [] ((hM.bx (i := 0) rfl)) rfl)) rfl ?_
 refine RL.effs (E.stB (j := 2) (off := 0) (vs := [vB rv1.f_Key.f_Src.f_Six, o8 rv1.f_Key.f_Src.f_B 0, o8 rv1.f_Key.f_Src.f_B 1, o8 rv1.f_Key.f_Src.f_B 2, o8 rv1.f_Key.f_Src.f_B 3, o8 rv1.f_Key.f_Src.f_B 4, o8 rv1.f_Key.f_Src.f_B 5, o8 rv1.f_Key.f_Src.f_B 6, o8 rv1.f_Key.f_Src.f_B 7, o8 rv1.f_Key.f_Src.f_B 8, o8 rv1.f_Key.f_Src.f_B 9, o8 rv1.f_Key.f_Src.f_B 10, o8 rv1.f_Key.f_Src.f_B 11, o8 rv1.f_Key.f_Src.f_B 12, o8 rv1.f_Key.f_Src.f_B 13, o8 rv1.f_Key.f_Src.f_B 14, o8 rv1.f_Key.f_Src.f_B 15, vB rv1.f_Key.f_Dst.f_Six, o8 rv1.f_Key.f_Dst.f_B 0, o8 rv1.f_Key.f_Dst.f_B 1, o8 rv1.f_Key.f_Dst.f_B 2, o8 rv1.f_Key.f_Dst.f_B 3, o8 rv1.f_Key.f_Dst.f_B 4, o8 rv1.f_Key.f_Dst.f_B 5, o8 rv1.f_Key.f_Dst.f_B 6, o8 rv1.f_Key.f_Dst.f_B 7, o8 rv1.f_Key.f_Dst.f_B 8, o8 rv1.f_Key.f_Dst.f_B 9, o8 rv1.f_Key.f_Dst.f_B 10, o8 rv1.f_Key.f_Dst.f_B 11, o8 rv1.f_Key.f_Dst.f_B 12, o8 rv1.f_Key.f_Dst.f_B 13, o8 rv1.f_Key.f_Dst.f_B 14, o8 rv1.f_Key.f_Dst.f_B 15, v8 rv1.f_Key.f_Proto, v16 rv1.f_Key.f_SrcPort, v16 rv1.f_Key.f_DstPort, v64 t51, v64 t52, v64 rv1.f_First, v64 (gmax rv1.f_Last tick3), v8 (bits .or .u8 rv1.f_Flags p2.f_Flags), v8 rv1.f_Reason, v8 rv1.f_Class]) (cs' := [vB rv1.f_Key.f_Src.f_Six, o8 rv1.f_Key.f_Src.f_B 0, o8 rv1.f_Key.f_Src.f_B 1, o8 rv1.f_Key.f_Src.f_B 2, o8 rv1.f_Key.f_Src.f_B 3, o8 rv1.f_Key.f_Src.f_B 4, o8 rv1.f_Key.f_Src.f_B 5, o8 rv1.f_Key.f_Src.f_B 6, o8 rv1.f_Key.f_Src.f_B 7, o8 rv1.f_Key.f_Src.f_B 8, o8 rv1.f_Key.f_Src.f_B 9, o8 rv1.f_Key.f_Src.f_B 10, o8 rv1.f_Key.f_Src.f_B 11, o8 rv1.f_Key.f_Src.f_B 12, o8 rv1.f_Key.f_Src.f_B 13, o8 rv1.f_Key.f_Src.f_B 14, o8 rv1.f_Key.f_Src.f_B 15, vB rv1.f_Key.f_Dst.f_Six, o8 rv1.f_Key.f_Dst.f_B 0, o8 rv1.f_Key.f_Dst.f_B 1, o8 rv1.f_Key.f_Dst.f_B 2, o8 rv1.f_Key.f_Dst.f_B 3, o8 rv1.f_Key.f_Dst.f_B 4, o8 rv1.f_Key.f_Dst.f_B 5, o8 rv1.f_Key.f_Dst.f_B 6, o8 rv1.f_Key.f_Dst.f_B 7, o8 rv1.f_Key.f_Dst.f_B 8, o8 rv1.f_Key.f_Dst.f_B 9, o8 rv1.f_Key.f_Dst.f_B 10, o8 rv1.f_Key.f_Dst.f_B 11, o8 rv1.f_Key.f_Dst.f_B 12, o8 rv1.f_Key.f_Dst.f_B 13, o8 rv1.f_Key.f_Dst.f_B 14, o8 rv1.f_Key.f_Dst.f_B 15, v8 rv1.f_Key.f_Proto, v16 rv1.f_Key.f_SrcPort, v16 rv1.f_Key.f_DstPort, v64 t51, v64 t52, v64 rv1.f_First, v64 (gmax rv1.f_Last tick3), v8 (bits .or .u8 rv1.f_Flags p2.f_Flags), v8 rv1.f_Reason, v8 rv1.f_Class]) hM rfl sz46 rfl (adds_eq [] rfl) rfl rfl (One.all rfl) rfl rfl) fun w67 hM1 => ?_
 clear hM
 have hM := hM1
 clear hM1
 refine nt hQ66 ?_
 clear hQ66 Q66
 refine KC.ret ?_
 have hE := Option.some.inj hF
 clear hF
 subst hE
 have hb68 := hM.bx (i := 2) rfl
 replace hM := hM.pick [] rfl (by decide)
 refine KQ.rets Try.results28 (RVs.cons (RV.cN (cs := [vB rv1.f_Key.f_Src.f_Six, o8 rv1.f_Key.f_Src.f_B 0, o8 rv1.f_Key.f_Src.f_B 1, o8 rv1.f_Key.f_Src.f_B 2, o8 rv1.f_Key.f_Src.f_B 3, o8 rv1.f_Key.f_Src.f_B 4, o8 rv1.f_Key.f_Src.f_B 5, o8 rv1.f_Key.f_Src.f_B 6, o8 rv1.f_Key.f_Src.f_B 7, o8 rv1.f_Key.f_Src.f_B 8, o8 rv1.f_Key.f_Src.f_B 9, o8 rv1.f_Key.f_Src.f_B 10, o8 rv1.f_Key.f_Src.f_B 11, o8 rv1.f_Key.f_Src.f_B 12, o8 rv1.f_Key.f_Src.f_B 13, o8 rv1.f_Key.f_Src.f_B 14, o8 rv1.f_Key.f_Src.f_B 15, vB rv1.f_Key.f_Dst.f_Six, o8 rv1.f_Key.f_Dst.f_B 0, o8 rv1.f_Key.f_Dst.f_B 1, o8 rv1.f_Key.f_Dst.f_B 2, o8 rv1.f_Key.f_Dst.f_B 3, o8 rv1.f_Key.f_Dst.f_B 4, o8 rv1.f_Key.f_Dst.f_B 5, o8 rv1.f_Key.f_Dst.f_B 6, o8 rv1.f_Key.f_Dst.f_B 7, o8 rv1.f_Key.f_Dst.f_B 8, o8 rv1.f_Key.f_Dst.f_B 9, o8 rv1.f_Key.f_Dst.f_B 10, o8 rv1.f_Key.f_Dst.f_B 11, o8 rv1.f_Key.f_Dst.f_B 12, o8 rv1.f_Key.f_Dst.f_B 13, o8 rv1.f_Key.f_Dst.f_B 14, o8 rv1.f_Key.f_Dst.f_B 15, v8 rv1.f_Key.f_Proto, v16 rv1.f_Key.f_SrcPort, v16 rv1.f_Key.f_DstPort, v64 t51, v64 t52, v64 rv1.f_First, v64 (gmax rv1.f_Last tick3), v8 (bits .or .u8 rv1.f_Flags p2.f_Flags), v8 rv1.f_Reason, v8 rv1.f_Class]) rfl ag46 hb68) RVs.nil) ?_
 exact ⟨_, rfl, rfl, hM⟩
end Go.Proofs.Ytkpnocgfhipidaa
