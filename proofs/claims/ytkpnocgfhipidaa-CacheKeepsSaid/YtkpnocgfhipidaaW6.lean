/- Printed by a program of this claim: each call returns what the plain function of its name gives. -/
import Derived.Test.YtkpnocgfhipidaaW1
import Derived.Test.YtkpnocgfhipidaaW2
import Derived.Test.YtkpnocgfhipidaaW3
import Derived.Test.YtkpnocgfhipidaaW5
set_option linter.unusedVariables false
namespace Go.Proofs.Ytkpnocgfhipidaa
open Go Go.Ox Go.RowKit
set_option maxRecDepth 100000 in
set_option maxHeartbeats 40000000 in
theorem c_cache_Cache_Advance (w : World) (g2 : Nat) (tg12 : TypeId) (cv1 : T_cache_Cache) (g4 : Nat) (A6 : Option Addr) (c7 : Nat) (A9 : Option Addr) (c10 : Nat) (hL14 : Lent w [.box g2 tg12 [v64 cv1.f_tick, vI cv1.f_bounds.f_Flows, v64 cv1.f_bounds.f_Idle, v64 cv1.f_bounds.f_Active, v64 cv1.f_bounds.f_Packets, v64 cv1.f_bounds.f_Bytes, .pointer (some ⟨g4, 0, none⟩), .slice A9 (cv1.f_flows).length c10], .box g4 96 [.slice A6 (cv1.f_places.f_slots).length c7, vI cv1.f_places.f_many], .row A6 c7 102 39 (cv1.f_places.f_slots).length ((cv1.f_places.f_slots).flatMap e_table_Slot), .row A9 c10 46 44 (cv1.f_flows).length ((cv1.f_flows).flatMap e_flow_Record)]) (tick13 : Int) (r : (List T_flow_Record) × T_cache_Cache) (hF : F_cache_Cache_Advance cv1 tick13 = some r) :
  CallsR Try.prog 9 [.pointer (some ⟨g2, 0, none⟩), v64 tick13] w (fun v w' => ∃ (g0 : Nat) (A1 : Option Addr) (c1 : Nat) (A2 : Option Addr) (c2 : Nat) (A3 : Option Addr) (c3 : Nat), v = .slice A3 (r.1).length c3 ∧ Mem w [some g2, some g4, rblk A6 c7, rblk A9 c10] w' [.box g2 tg12 [v64 r.2.f_tick, vI r.2.f_bounds.f_Flows, v64 r.2.f_bounds.f_Idle, v64 r.2.f_bounds.f_Active, v64 r.2.f_bounds.f_Packets, v64 r.2.f_bounds.f_Bytes, .pointer (some ⟨g0, 0, none⟩), .slice A2 (r.2.f_flows).length c2], .box g0 96 [.slice A1 (r.2.f_places.f_slots).length c1, vI r.2.f_places.f_many], .row A1 c1 102 39 r.2.f_places.f_slots.length (r.2.f_places.f_slots.flatMap e_table_Slot), .row A2 c2 46 44 r.2.f_flows.length (r.2.f_flows.flatMap e_flow_Record), .row A3 c3 46 44 r.1.length (r.1.flatMap e_flow_Record)]) := by
 refine calls_KC Try.func9 rfl Try.ntmps9 rfl ?_
 have hM : Mem w [some g2, some g4, rblk A6 c7, rblk A9 c10] w [.box g2 tg12 [v64 cv1.f_tick, vI cv1.f_bounds.f_Flows, v64 cv1.f_bounds.f_Idle, v64 cv1.f_bounds.f_Active, v64 cv1.f_bounds.f_Packets, v64 cv1.f_bounds.f_Bytes, .pointer (some ⟨g4, 0, none⟩), .slice A9 (cv1.f_flows).length c10], .box g4 96 [.slice A6 (cv1.f_places.f_slots).length c7, vI cv1.f_places.f_many], .row A6 c7 102 39 (cv1.f_places.f_slots).length ((cv1.f_places.f_slots).flatMap e_table_Slot), .row A9 c10 46 44 (cv1.f_flows).length ((cv1.f_flows).flatMap e_flow_Record)] := Mem.lendN hL14
 unfold F_cache_Cache_Advance at hF
 refine sr fun Q15 hQ15 => ?_
 refine RL.eff (E.box (vs := [.pointer (some ⟨g2, 0, none⟩)]) hM rfl rfl) rfl fun v w17 hv => ?_
 clear hM
 obtain ⟨g16, rfl, hM, hf⟩ := hv
 refine va rfl rfl ?_
 refine nt hQ15 ?_
 clear hQ15 Q15
 refine KC.seqH fun Q19 hQ19 => ?_
 refine KC.cut (fun a w25 => Kn 48 [(1, v64 tick13), (2, .pointer (some ⟨g16, 0, none⟩)), (17, vB (decide (tick13 < cv1.f_tick)))] a ∧ Mem w [some g2, some g4, rblk A6 c7, rblk A9 c10] w25 [.row A6 c7 102 39 (cv1.f_places.f_slots).length ((cv1.f_places.f_slots).flatMap e_table_Slot), .box g4 96 [.slice A6 (cv1.f_places.f_slots).length c7, vI cv1.f_places.f_many], .row A9 c10 46 44 (cv1.f_flows).length ((cv1.f_flows).flatMap e_flow_Record), .box g2 tg12 [v64 cv1.f_tick, vI cv1.f_bounds.f_Flows, v64 cv1.f_bounds.f_Idle, v64 cv1.f_bounds.f_Active, v64 cv1.f_bounds.f_Packets, v64 cv1.f_bounds.f_Bytes, .pointer (some ⟨g4, 0, none⟩), .slice A9 (cv1.f_flows).length c10], .box g16 27 [.pointer (some ⟨g2, 0, none⟩)]] ∧ F_cache_Cache_Advance_j1 cv1 tick13 = some r) ?_ ?_
 ·refine KC.region ?_
  refine RL.val (O.load sc27 rfl (Cs.adds [] ((hM.bx (i := 4) rfl)) rfl)) rfl ?_
  refine RL.val (O.peqn Try.underlying27 rfl rfl) rfl ?_
  refine vm rfl rfl ?_
  refine RL.gval rfl rfl (O.move rfl) rfl ?_
  refine RL.gval rfl rfl (O.load sc27 rfl (Cs.adds [] ((hM.bx (i := 4) rfl)) rfl)) rfl ?_
  refine RL.gval rfl rfl (O.nilp rfl) rfl ?_
  refine RL.gval rfl rfl (O.fldA fl74_0 (by decide) rfl) rfl ?_
  refine RL.gval rfl rfl (O.load sc22 rfl (Cs.adds [0] ((hM.bx (i := 0) rfl)) rfl)) rfl ?_
  refine RL.gval rfl rfl (O.lss rfl rfl) rfl ?_
  refine RL.val (O.pickf rfl rfl) rfl ?_
  refine RL.nil ?_
  refine KQ.then_k ?_
  replace hM := hM.pick [2, 1, 3, 0, 4] rfl (by decide)
  exact fun a ha => ⟨ha.less (less_cons rfl (less_cons rfl (less_cons rfl less_nil))), hM, hF⟩
 rintro a w25 ⟨ha, hM, hF⟩
 refine KC.app ha ?_
 clear ha
 unfold F_cache_Cache_Advance_j1 at hF
 refine KC.cond rfl (fun hc => ?_) (fun hc => ?_)
 ·rw [if_pos hc] at hF
  refine sr fun Q26 hQ26 => ?_
  refine va rfl rfl ?_
  refine nt hQ26 ?_
  clear hQ26 Q26
  refine KC.ret ?_
  refine KQ.thr hQ19 ?_
  clear hQ19 Q19
  have hE := Option.some.inj hF
  clear hF
  subst hE
  replace hM := hM.nilrow 46 44
  replace hM := hM.pick [3, 1, 0, 2, 5] rfl (by decide)
  refine KQ.rets Try.results9 (RVs.cons (RV.tm rfl) RVs.nil) ?_
  exact ⟨_, rfl, g4, A6, c7, A9, c10, none, 0, rfl, hM⟩
 rw [if_neg (ne_true hc)] at hF
 refine KC.skip ?_
 refine KQ.thn hQ19 ?_
 clear hQ19 Q19
 refine sr fun Q27 hQ27 => ?_
 refine RL.val (O.load sc27 rfl (Cs.adds [] ((hM.bx (i := 4) rfl)) rfl)) rfl ?_
 refine vm rfl rfl ?_
 refine RL.val (O.nilp rfl) rfl ?_
 refine RL.val (O.fldA fl74_0 (by decide) rfl) rfl ?_
 refine RL.effs (E.stB (j := 3) (off := 0) (vs := [v64 tick13]) (cs' := [v64 tick13, vI cv1.f_bounds.f_Flows, v64 cv1.f_bounds.f_Idle, v64 cv1.f_bounds.f_Active, v64 cv1.f_bounds.f_Packets, v64 cv1.f_bounds.f_Bytes, .pointer (some ⟨g4, 0, none⟩), .slice A9 (cv1.f_flows).length c10]) hM rfl sz22 rfl (adds_eq [0] rfl) rfl rfl (One.all rfl) rfl rfl) fun w28 hM1 => ?_
 clear hM
 have hM := hM1
 clear hM1
 refine nt hQ27 ?_
 clear hQ27 Q27
 refine sr fun Q29 hQ29 => ?_
 refine va rfl rfl ?_
 refine nt hQ29 ?_
 clear hQ29 Q29
 refine KC.seqH fun Q30 hQ30 => ?_
 refine sr fun Q31 hQ31 => ?_
 refine RL.val (O.load sc27 rfl (Cs.adds [] ((hM.bx (i := 4) rfl)) rfl)) rfl ?_
 refine RL.val (O.nilp rfl) rfl ?_
 refine RL.val (O.fldA fl74_3 (by decide) rfl) rfl ?_
 refine RL.val (O.load sc41 rfl (Cs.adds [7] ((hM.bx (i := 3) rfl)) rfl)) rfl ?_
 refine RL.val (O.len sl41 rfl) rfl ?_
 refine vm rfl rfl ?_
 refine nt hQ31 ?_
 clear hQ31 Q31
 refine KC.block ?_
 refine KC.loop (fun k120 a w118 => ∃ (A114 : Option Addr) (c115 : Nat) (lv116 : List T_flow_Record) (t117 : Int), Kn 48 [(1, v64 tick13), (2, .pointer (some ⟨g16, 0, none⟩)), (5, .slice A114 (lv116).length c115), (25, .slice A9 (cv1.f_flows).length c10), (26, vI (cv1.f_flows.length : Int)), (27, vI t117)] a ∧ Mem w [some g2, some g4, rblk A6 c7, rblk A9 c10] w118 [.row A6 c7 102 39 (cv1.f_places.f_slots).length ((cv1.f_places.f_slots).flatMap e_table_Slot), .box g4 96 [.slice A6 (cv1.f_places.f_slots).length c7, vI cv1.f_places.f_many], .row A9 c10 46 44 (cv1.f_flows).length ((cv1.f_flows).flatMap e_flow_Record), .box g2 tg12 [v64 tick13, vI cv1.f_bounds.f_Flows, v64 cv1.f_bounds.f_Idle, v64 cv1.f_bounds.f_Active, v64 cv1.f_bounds.f_Packets, v64 cv1.f_bounds.f_Bytes, .pointer (some ⟨g4, 0, none⟩), .slice A9 (cv1.f_flows).length c10], .box g16 27 [.pointer (some ⟨g2, 0, none⟩)], .row A114 c115 46 44 (lv116).length ((lv116).flatMap e_flow_Record)] ∧ F_cache_Cache_Advance_L1 cv1 tick13 k120 lv116 t117 = some r) ?_ ?_
 ·replace hM := hM.nilrow 46 44
  exact fun a ha => ⟨fuel0, none, 0, ([]), 0, ha.less (less_cons rfl (less_cons rfl (less_cons rfl (less_cons rfl (less_cons rfl (less_cons rfl less_nil)))))), hM, hF⟩
 rintro k120 a w118 ⟨A114, c115, lv116, t117, ha, hM, hF⟩
 refine KC.app ha ?_
 clear ha
 cases k120 with
 | zero => exact (none_some hF).elim
 | succ k120 =>
 have hF : F_cache_Cache_Advance_l1 (F_cache_Cache_Advance_L1 cv1 tick13 k120) cv1 tick13 lv116 t117 = some r := hF
 unfold F_cache_Cache_Advance_l1 at hF
 refine sr fun Q121 hQ121 => ?_
 refine RL.val (O.lss rfl rfl) rfl ?_
 refine nt hQ121 ?_
 clear hQ121 Q121
 refine KC.seqH fun Q122 hQ122 => ?_
 refine KC.cond rfl (fun hc => ?_) (fun hc => ?_)
 ·rw [if_pos hc] at hF
  refine KC.skip ?_
  refine KQ.thn hQ122 ?_
  clear hQ122 Q122
  refine KC.cut (fun a w153 => ∃ (A150 : Option Addr) (c151 : Nat) (lv152 : List T_flow_Record), Kn 48 [(1, v64 tick13), (2, .pointer (some ⟨g16, 0, none⟩)), (5, .slice A150 (lv152).length c151), (25, .slice A9 (cv1.f_flows).length c10), (26, vI (cv1.f_flows.length : Int)), (27, vI t117)] a ∧ Mem w [some g2, some g4, rblk A6 c7, rblk A9 c10] w153 [.row A6 c7 102 39 (cv1.f_places.f_slots).length ((cv1.f_places.f_slots).flatMap e_table_Slot), .box g4 96 [.slice A6 (cv1.f_places.f_slots).length c7, vI cv1.f_places.f_many], .row A9 c10 46 44 (cv1.f_flows).length ((cv1.f_flows).flatMap e_flow_Record), .box g2 tg12 [v64 tick13, vI cv1.f_bounds.f_Flows, v64 cv1.f_bounds.f_Idle, v64 cv1.f_bounds.f_Active, v64 cv1.f_bounds.f_Packets, v64 cv1.f_bounds.f_Bytes, .pointer (some ⟨g4, 0, none⟩), .slice A9 (cv1.f_flows).length c10], .box g16 27 [.pointer (some ⟨g2, 0, none⟩)], .row A150 c151 46 44 (lv152).length ((lv152).flatMap e_flow_Record)] ∧ F_cache_Cache_Advance_j2 t117 (F_cache_Cache_Advance_L1 cv1 tick13 k120) lv152 = some r) ?_ ?_
  ·refine KC.block ?_
   refine sr fun Q123 hQ123 => ?_
   refine obindE hF fun xv126 hx125 hF => ?_
   have hA124 := Rd.atN (f := e_flow_Record) (s := 44) (fun _ => rfl) (by decide) (hM.rd (i := 2) rfl) hx125
   refine RL.val (O.idxA sl41 (hA124) rfl rfl) rfl ?_
   refine RL.val (O.loadN (cs := [vB xv126.f_Key.f_Src.f_Six, o8 xv126.f_Key.f_Src.f_B 0, o8 xv126.f_Key.f_Src.f_B 1, o8 xv126.f_Key.f_Src.f_B 2, o8 xv126.f_Key.f_Src.f_B 3, o8 xv126.f_Key.f_Src.f_B 4, o8 xv126.f_Key.f_Src.f_B 5, o8 xv126.f_Key.f_Src.f_B 6, o8 xv126.f_Key.f_Src.f_B 7, o8 xv126.f_Key.f_Src.f_B 8, o8 xv126.f_Key.f_Src.f_B 9, o8 xv126.f_Key.f_Src.f_B 10, o8 xv126.f_Key.f_Src.f_B 11, o8 xv126.f_Key.f_Src.f_B 12, o8 xv126.f_Key.f_Src.f_B 13, o8 xv126.f_Key.f_Src.f_B 14, o8 xv126.f_Key.f_Src.f_B 15, vB xv126.f_Key.f_Dst.f_Six, o8 xv126.f_Key.f_Dst.f_B 0, o8 xv126.f_Key.f_Dst.f_B 1, o8 xv126.f_Key.f_Dst.f_B 2, o8 xv126.f_Key.f_Dst.f_B 3, o8 xv126.f_Key.f_Dst.f_B 4, o8 xv126.f_Key.f_Dst.f_B 5, o8 xv126.f_Key.f_Dst.f_B 6, o8 xv126.f_Key.f_Dst.f_B 7, o8 xv126.f_Key.f_Dst.f_B 8, o8 xv126.f_Key.f_Dst.f_B 9, o8 xv126.f_Key.f_Dst.f_B 10, o8 xv126.f_Key.f_Dst.f_B 11, o8 xv126.f_Key.f_Dst.f_B 12, o8 xv126.f_Key.f_Dst.f_B 13, o8 xv126.f_Key.f_Dst.f_B 14, o8 xv126.f_Key.f_Dst.f_B 15, v8 xv126.f_Key.f_Proto, v16 xv126.f_Key.f_SrcPort, v16 xv126.f_Key.f_DstPort, v64 xv126.f_Packets, v64 xv126.f_Bytes, v64 xv126.f_First, v64 xv126.f_Last, v8 xv126.f_Flags, v8 xv126.f_Reason, v8 xv126.f_Class]) ag46 rfl (hA124).cells) rfl ?_
   refine RL.eff (E.alloc hM ze46) rfl fun v w128 hv => ?_
   clear hM
   obtain ⟨g127, rfl, hM, hf⟩ := hv
   refine RL.effs (E.stB (j := 6) (off := 0) (vs := [vB xv126.f_Key.f_Src.f_Six, o8 xv126.f_Key.f_Src.f_B 0, o8 xv126.f_Key.f_Src.f_B 1, o8 xv126.f_Key.f_Src.f_B 2, o8 xv126.f_Key.f_Src.f_B 3, o8 xv126.f_Key.f_Src.f_B 4, o8 xv126.f_Key.f_Src.f_B 5, o8 xv126.f_Key.f_Src.f_B 6, o8 xv126.f_Key.f_Src.f_B 7, o8 xv126.f_Key.f_Src.f_B 8, o8 xv126.f_Key.f_Src.f_B 9, o8 xv126.f_Key.f_Src.f_B 10, o8 xv126.f_Key.f_Src.f_B 11, o8 xv126.f_Key.f_Src.f_B 12, o8 xv126.f_Key.f_Src.f_B 13, o8 xv126.f_Key.f_Src.f_B 14, o8 xv126.f_Key.f_Src.f_B 15, vB xv126.f_Key.f_Dst.f_Six, o8 xv126.f_Key.f_Dst.f_B 0, o8 xv126.f_Key.f_Dst.f_B 1, o8 xv126.f_Key.f_Dst.f_B 2, o8 xv126.f_Key.f_Dst.f_B 3, o8 xv126.f_Key.f_Dst.f_B 4, o8 xv126.f_Key.f_Dst.f_B 5, o8 xv126.f_Key.f_Dst.f_B 6, o8 xv126.f_Key.f_Dst.f_B 7, o8 xv126.f_Key.f_Dst.f_B 8, o8 xv126.f_Key.f_Dst.f_B 9, o8 xv126.f_Key.f_Dst.f_B 10, o8 xv126.f_Key.f_Dst.f_B 11, o8 xv126.f_Key.f_Dst.f_B 12, o8 xv126.f_Key.f_Dst.f_B 13, o8 xv126.f_Key.f_Dst.f_B 14, o8 xv126.f_Key.f_Dst.f_B 15, v8 xv126.f_Key.f_Proto, v16 xv126.f_Key.f_SrcPort, v16 xv126.f_Key.f_DstPort, v64 xv126.f_Packets, v64 xv126.f_Bytes, v64 xv126.f_First, v64 xv126.f_Last, v8 xv126.f_Flags, v8 xv126.f_Reason, v8 xv126.f_Class]) (cs' := [vB xv126.f_Key.f_Src.f_Six, o8 xv126.f_Key.f_Src.f_B 0, o8 xv126.f_Key.f_Src.f_B 1, o8 xv126.f_Key.f_Src.f_B 2, o8 xv126.f_Key.f_Src.f_B 3, o8 xv126.f_Key.f_Src.f_B 4, o8 xv126.f_Key.f_Src.f_B 5, o8 xv126.f_Key.f_Src.f_B 6, o8 xv126.f_Key.f_Src.f_B 7, o8 xv126.f_Key.f_Src.f_B 8, o8 xv126.f_Key.f_Src.f_B 9, o8 xv126.f_Key.f_Src.f_B 10, o8 xv126.f_Key.f_Src.f_B 11, o8 xv126.f_Key.f_Src.f_B 12, o8 xv126.f_Key.f_Src.f_B 13, o8 xv126.f_Key.f_Src.f_B 14, o8 xv126.f_Key.f_Src.f_B 15, vB xv126.f_Key.f_Dst.f_Six, o8 xv126.f_Key.f_Dst.f_B 0, o8 xv126.f_Key.f_Dst.f_B 1, o8 xv126.f_Key.f_Dst.f_B 2, o8 xv126.f_Key.f_Dst.f_B 3, o8 xv126.f_Key.f_Dst.f_B 4, o8 xv126.f_Key.f_Dst.f_B 5, o8 xv126.f_Key.f_Dst.f_B 6, o8 xv126.f_Key.f_Dst.f_B 7, o8 xv126.f_Key.f_Dst.f_B 8, o8 xv126.f_Key.f_Dst.f_B 9, o8 xv126.f_Key.f_Dst.f_B 10, o8 xv126.f_Key.f_Dst.f_B 11, o8 xv126.f_Key.f_Dst.f_B 12, o8 xv126.f_Key.f_Dst.f_B 13, o8 xv126.f_Key.f_Dst.f_B 14, o8 xv126.f_Key.f_Dst.f_B 15, v8 xv126.f_Key.f_Proto, v16 xv126.f_Key.f_SrcPort, v16 xv126.f_Key.f_DstPort, v64 xv126.f_Packets, v64 xv126.f_Bytes, v64 xv126.f_First, v64 xv126.f_Last, v8 xv126.f_Flags, v8 xv126.f_Reason, v8 xv126.f_Class]) hM rfl sz46 rfl (adds_eq [] rfl) rfl rfl (One.all rfl) rfl rfl) fun w130 hM1 => ?_
   clear hM
   have hM := hM1
   clear hM1
   refine nt hQ123 ?_
   clear hQ123 Q123
   refine sr fun Q131 hQ131 => ?_
   refine RL.val (O.load sc27 rfl (Cs.adds [] ((hM.bx (i := 4) rfl)) rfl)) rfl ?_
   refine RL.val (O.loadN (cs := [vB xv126.f_Key.f_Src.f_Six, o8 xv126.f_Key.f_Src.f_B 0, o8 xv126.f_Key.f_Src.f_B 1, o8 xv126.f_Key.f_Src.f_B 2, o8 xv126.f_Key.f_Src.f_B 3, o8 xv126.f_Key.f_Src.f_B 4, o8 xv126.f_Key.f_Src.f_B 5, o8 xv126.f_Key.f_Src.f_B 6, o8 xv126.f_Key.f_Src.f_B 7, o8 xv126.f_Key.f_Src.f_B 8, o8 xv126.f_Key.f_Src.f_B 9, o8 xv126.f_Key.f_Src.f_B 10, o8 xv126.f_Key.f_Src.f_B 11, o8 xv126.f_Key.f_Src.f_B 12, o8 xv126.f_Key.f_Src.f_B 13, o8 xv126.f_Key.f_Src.f_B 14, o8 xv126.f_Key.f_Src.f_B 15, vB xv126.f_Key.f_Dst.f_Six, o8 xv126.f_Key.f_Dst.f_B 0, o8 xv126.f_Key.f_Dst.f_B 1, o8 xv126.f_Key.f_Dst.f_B 2, o8 xv126.f_Key.f_Dst.f_B 3, o8 xv126.f_Key.f_Dst.f_B 4, o8 xv126.f_Key.f_Dst.f_B 5, o8 xv126.f_Key.f_Dst.f_B 6, o8 xv126.f_Key.f_Dst.f_B 7, o8 xv126.f_Key.f_Dst.f_B 8, o8 xv126.f_Key.f_Dst.f_B 9, o8 xv126.f_Key.f_Dst.f_B 10, o8 xv126.f_Key.f_Dst.f_B 11, o8 xv126.f_Key.f_Dst.f_B 12, o8 xv126.f_Key.f_Dst.f_B 13, o8 xv126.f_Key.f_Dst.f_B 14, o8 xv126.f_Key.f_Dst.f_B 15, v8 xv126.f_Key.f_Proto, v16 xv126.f_Key.f_SrcPort, v16 xv126.f_Key.f_DstPort, v64 xv126.f_Packets, v64 xv126.f_Bytes, v64 xv126.f_First, v64 xv126.f_Last, v8 xv126.f_Flags, v8 xv126.f_Reason, v8 xv126.f_Class]) ag46 rfl (Cs.addsN [] ((hM.bx (i := 6) rfl)) rfl)) rfl ?_
   refine obindE hF fun y132 hx133 hF => ?_
   refine RL.call Try.func31 bd31 rfl rfl (c_cache_Cache_due _ _ _ (T_cache_Cache.mk tick13 cv1.f_bounds cv1.f_places cv1.f_flows) _ _ (hM.lent [3] rfl (by decide)) xv126 _ hx133) fun v w134 hv => ?_
   obtain ⟨rfl, hN135⟩ := hv
   replace hM := hM.call0 hN135
   refine vm rfl rfl ?_
   refine RL.val (O.leq rfl rfl) rfl ?_
   refine nt hQ131 ?_
   clear hQ131 Q131
   refine KC.cond rfl (fun hc => ?_) (fun hc => ?_)
   ·rw [if_pos hc] at hF
    refine KC.region ?_
    refine vm rfl rfl ?_
    refine RL.val (O.loadN (cs := [vB xv126.f_Key.f_Src.f_Six, o8 xv126.f_Key.f_Src.f_B 0, o8 xv126.f_Key.f_Src.f_B 1, o8 xv126.f_Key.f_Src.f_B 2, o8 xv126.f_Key.f_Src.f_B 3, o8 xv126.f_Key.f_Src.f_B 4, o8 xv126.f_Key.f_Src.f_B 5, o8 xv126.f_Key.f_Src.f_B 6, o8 xv126.f_Key.f_Src.f_B 7, o8 xv126.f_Key.f_Src.f_B 8, o8 xv126.f_Key.f_Src.f_B 9, o8 xv126.f_Key.f_Src.f_B 10, o8 xv126.f_Key.f_Src.f_B 11, o8 xv126.f_Key.f_Src.f_B 12, o8 xv126.f_Key.f_Src.f_B 13, o8 xv126.f_Key.f_Src.f_B 14, o8 xv126.f_Key.f_Src.f_B 15, vB xv126.f_Key.f_Dst.f_Six, o8 xv126.f_Key.f_Dst.f_B 0, o8 xv126.f_Key.f_Dst.f_B 1, o8 xv126.f_Key.f_Dst.f_B 2, o8 xv126.f_Key.f_Dst.f_B 3, o8 xv126.f_Key.f_Dst.f_B 4, o8 xv126.f_Key.f_Dst.f_B 5, o8 xv126.f_Key.f_Dst.f_B 6, o8 xv126.f_Key.f_Dst.f_B 7, o8 xv126.f_Key.f_Dst.f_B 8, o8 xv126.f_Key.f_Dst.f_B 9, o8 xv126.f_Key.f_Dst.f_B 10, o8 xv126.f_Key.f_Dst.f_B 11, o8 xv126.f_Key.f_Dst.f_B 12, o8 xv126.f_Key.f_Dst.f_B 13, o8 xv126.f_Key.f_Dst.f_B 14, o8 xv126.f_Key.f_Dst.f_B 15, v8 xv126.f_Key.f_Proto, v16 xv126.f_Key.f_SrcPort, v16 xv126.f_Key.f_DstPort, v64 xv126.f_Packets, v64 xv126.f_Bytes, v64 xv126.f_First, v64 xv126.f_Last, v8 xv126.f_Flags, v8 xv126.f_Reason, v8 xv126.f_Class]) ag46 rfl (Cs.addsN [] ((hM.bx (i := 6) rfl)) rfl)) rfl ?_
    refine RL.eff (E.bsl (enc := e_flow_Record) (xs := ([xv126] : List T_flow_Record)) hM sl41 ze46 rfl rfl rfl (fun _ => rfl) rfl (by kernel_rfl) rfl) rfl fun v w136 hv => ?_
    clear hM
    obtain ⟨A137, rfl, hM, hf⟩ := hv
    refine cut_someE hF fun hq142 hF => ?_
    refine RL.eff (E.app (enc := e_flow_Record) (xs := lv116) (ys := ([xv126] : List T_flow_Record)) (j := 5) hM rfl sl41 ze46 rfl rfl rfl rfl rfl (hM.rd (i := 7) rfl) (fun _ => One.all rfl) (of_decide_eq_true hq142)) rfl fun v w141 hv => ?_
    clear hM
    obtain ⟨A139, c140, rfl, hM, hf⟩ := hv
    refine va rfl rfl ?_
    refine RL.nil ?_
    refine KQ.blk_n ?_
    refine KQ.then_k ?_
    replace hM := hM.pick [0, 1, 2, 3, 4, 5] rfl (by decide)
    exact fun a ha => ⟨A139, c140, (lv116 ++ ([xv126] : List T_flow_Record)), ha.less (less_cons rfl (less_cons rfl (less_cons rfl (less_cons rfl (less_cons rfl (less_cons rfl less_nil)))))), hM, hF⟩
   rw [if_neg (ne_true hc)] at hF
   refine KC.skip ?_
   refine KQ.blk_n ?_
   refine KQ.then_k ?_
   replace hM := hM.pick [0, 1, 2, 3, 4, 5] rfl (by decide)
   exact fun a ha => ⟨A114, c115, lv116, ha.less (less_cons rfl (less_cons rfl (less_cons rfl (less_cons rfl (less_cons rfl (less_cons rfl less_nil)))))), hM, hF⟩
  rintro a w153 ⟨A150, c151, lv152, ha, hM, hF⟩
  refine KC.app ha ?_
  clear ha
  unfold F_cache_Cache_Advance_j2 at hF
  refine KC.region ?_
  refine RL.val (O.add rfl rfl) rfl ?_
  refine vm rfl rfl ?_
  refine RL.nil ?_
  refine KQ.then_k ?_
  exact fun a ha => ⟨k120, Nat.lt_succ_self k120, A150, c151, lv152, (IntKind.i64.wrap (t117 + 1)), ha.less (less_cons rfl (less_cons rfl (less_cons rfl (less_cons rfl (less_cons rfl (less_cons rfl less_nil)))))), hM, hF⟩
 rw [if_neg (ne_true hc)] at hF
 refine KC.exit ?_
 refine KQ.thx hQ122 ?_
 clear hQ122 Q122
 refine KQ.then_x ?_
 refine KQ.blk_x ?_
 refine KQ.thn hQ30 ?_
 clear hQ30 Q30
 refine sr fun Q154 hQ154 => ?_
 refine vm rfl rfl ?_
 refine RL.val (O.mkf rfl rfl) rfl ?_
 refine obindE hF fun y155 hx156 hF => ?_
 refine RL.call Try.func32 bd32 rfl rfl (c_slices_SortFunc_flow_Record_flow_Record_cache_Cache_Advance_1 _ _ _ lv116 _ _ (T_cache_Cache.mk tick13 cv1.f_bounds cv1.f_places cv1.f_flows) _ _ _ _ (hM.lent [5, 4, 3] rfl (by decide)) _ hx156) fun v w157 hv => ?_
 obtain ⟨rfl, hw159, hN158⟩ := hv
 replace hM := hM.callL [5] [0, 1, 2, 3, 4] rfl rfl (by decide) rfl hN158
 refine RL.reslot (t := 5) rfl hw159 ?_
 refine RL.reslot (t := 41) rfl hw159 ?_
 refine nt hQ154 ?_
 clear hQ154 Q154
 refine sr fun Q160 hQ160 => ?_
 refine RL.val (O.load sc27 rfl (Cs.adds [] ((hM.bx (i := 4) rfl)) rfl)) rfl ?_
 refine RL.val (O.mkf rfl rfl) rfl ?_
 refine vm rfl rfl ?_
 refine RL.icall Try.func37 bd37 rfl rfl rfl Try.ntmps37 rfl ?_
 refine sr fun Q161 hQ161 => ?_
 refine va rfl rfl ?_
 refine nt hQ161 ?_
 clear hQ161 Q161
 refine KC.seqH fun Q162 hQ162 => ?_
 refine sr fun Q163 hQ163 => ?_
 refine vm rfl rfl ?_
 refine RL.val (O.len sl41 rfl) rfl ?_
 refine vm rfl rfl ?_
 refine nt hQ163 ?_
 clear hQ163 Q163
 refine KC.block ?_
 refine KC.loop (fun k286 a w284 => ∃ (g267 : Nat) (A269 : Option Addr) (c270 : Nat) (A274 : Option Addr) (c275 : Nat) (A279 : Option Addr) (c280 : Nat) (p260 : Int) (p261 : Int) (p262 : Int) (p263 : Int) (p264 : Int) (p265 : Int) (p271 : List T_table_Slot) (p272 : Int) (p276 : List T_flow_Record) (xv281 : List T_flow_Record) (t283 : Int), Kn 27 [(0, .pointer (some ⟨g2, 0, none⟩)), (1, .func (.func 38) #[] #[.pointer (some ⟨g16, 0, none⟩)]), (6, .slice A279 (xv281).length c280), (9, .slice A114 (y155).length c115), (10, vI (y155.length : Int)), (11, vI t283)] a ∧ Mem w [some g2, some g4, rblk A6 c7, rblk A9 c10] w284 [.row A269 c270 102 39 (p271).length ((p271).flatMap e_table_Slot), .box g267 96 [.slice A269 (p271).length c270, vI p272], .row A274 c275 46 44 (p276).length ((p276).flatMap e_flow_Record), .box g2 tg12 [v64 p260, vI p261, v64 p262, v64 p263, v64 p264, v64 p265, .pointer (some ⟨g267, 0, none⟩), .slice A274 (p276).length c275], .box g16 27 [.pointer (some ⟨g2, 0, none⟩)], .row A279 c280 46 44 (xv281).length ((xv281).flatMap e_flow_Record), .row A114 c115 46 44 (y155).length ((y155).flatMap e_flow_Record)] ∧ F_cache_Cache_Advance_L2 y155 k286 p260 p261 p262 p263 p264 p265 p271 p272 p276 xv281 t283 = some r) ?_ ?_
 ·replace hM := hM.nilrow 46 44
  replace hM := hM.pick [0, 1, 2, 3, 4, 6, 5] rfl (by decide)
  exact fun a ha => ⟨fuel0, g4, A6, c7, A9, c10, none, 0, tick13, cv1.f_bounds.f_Flows, cv1.f_bounds.f_Idle, cv1.f_bounds.f_Active, cv1.f_bounds.f_Packets, cv1.f_bounds.f_Bytes, cv1.f_places.f_slots, cv1.f_places.f_many, cv1.f_flows, ([]), 0, ha.less (less_cons rfl (less_cons rfl (less_cons rfl (less_cons rfl (less_cons rfl (less_cons rfl less_nil)))))), hM, hF⟩
 rintro k286 a w284 ⟨g267, A269, c270, A274, c275, A279, c280, p260, p261, p262, p263, p264, p265, p271, p272, p276, xv281, t283, ha, hM, hF⟩
 refine KC.app ha ?_
 clear ha
 cases k286 with
 | zero => exact (none_some hF).elim
 | succ k286 =>
 have hF : F_cache_Cache_Advance_l2 (F_cache_Cache_Advance_L2 y155 k286) y155 p260 p261 p262 p263 p264 p265 p271 p272 p276 xv281 t283 = some r := hF
 unfold F_cache_Cache_Advance_l2 at hF
 refine sr fun Q287 hQ287 => ?_
 refine RL.val (O.lss rfl rfl) rfl ?_
 refine nt hQ287 ?_
 clear hQ287 Q287
 refine KC.seqH fun Q288 hQ288 => ?_
 refine KC.cond rfl (fun hc => ?_) (fun hc => ?_)
 ·rw [if_pos hc] at hF
  refine KC.skip ?_
  refine KQ.thn hQ288 ?_
  clear hQ288 Q288
  refine KC.seqH fun Q289 hQ289 => ?_
  refine KC.block ?_
  refine sr fun Q290 hQ290 => ?_
  refine obindE hF fun xv293 hx292 hF => ?_
  have hA291 := Rd.atN (f := e_flow_Record) (s := 44) (fun _ => rfl) (by decide) (hM.rd (i := 6) rfl) hx292
  refine RL.val (O.idxA sl41 (hA291) rfl rfl) rfl ?_
  refine RL.val (O.loadN (cs := [vB xv293.f_Key.f_Src.f_Six, o8 xv293.f_Key.f_Src.f_B 0, o8 xv293.f_Key.f_Src.f_B 1, o8 xv293.f_Key.f_Src.f_B 2, o8 xv293.f_Key.f_Src.f_B 3, o8 xv293.f_Key.f_Src.f_B 4, o8 xv293.f_Key.f_Src.f_B 5, o8 xv293.f_Key.f_Src.f_B 6, o8 xv293.f_Key.f_Src.f_B 7, o8 xv293.f_Key.f_Src.f_B 8, o8 xv293.f_Key.f_Src.f_B 9, o8 xv293.f_Key.f_Src.f_B 10, o8 xv293.f_Key.f_Src.f_B 11, o8 xv293.f_Key.f_Src.f_B 12, o8 xv293.f_Key.f_Src.f_B 13, o8 xv293.f_Key.f_Src.f_B 14, o8 xv293.f_Key.f_Src.f_B 15, vB xv293.f_Key.f_Dst.f_Six, o8 xv293.f_Key.f_Dst.f_B 0, o8 xv293.f_Key.f_Dst.f_B 1, o8 xv293.f_Key.f_Dst.f_B 2, o8 xv293.f_Key.f_Dst.f_B 3, o8 xv293.f_Key.f_Dst.f_B 4, o8 xv293.f_Key.f_Dst.f_B 5, o8 xv293.f_Key.f_Dst.f_B 6, o8 xv293.f_Key.f_Dst.f_B 7, o8 xv293.f_Key.f_Dst.f_B 8, o8 xv293.f_Key.f_Dst.f_B 9, o8 xv293.f_Key.f_Dst.f_B 10, o8 xv293.f_Key.f_Dst.f_B 11, o8 xv293.f_Key.f_Dst.f_B 12, o8 xv293.f_Key.f_Dst.f_B 13, o8 xv293.f_Key.f_Dst.f_B 14, o8 xv293.f_Key.f_Dst.f_B 15, v8 xv293.f_Key.f_Proto, v16 xv293.f_Key.f_SrcPort, v16 xv293.f_Key.f_DstPort, v64 xv293.f_Packets, v64 xv293.f_Bytes, v64 xv293.f_First, v64 xv293.f_Last, v8 xv293.f_Flags, v8 xv293.f_Reason, v8 xv293.f_Class]) ag46 rfl (hA291).cells) rfl ?_
  refine RL.eff (E.alloc hM ze46) rfl fun v w295 hv => ?_
  clear hM
  obtain ⟨g294, rfl, hM, hf⟩ := hv
  refine RL.effs (E.stB (j := 7) (off := 0) (vs := [vB xv293.f_Key.f_Src.f_Six, o8 xv293.f_Key.f_Src.f_B 0, o8 xv293.f_Key.f_Src.f_B 1, o8 xv293.f_Key.f_Src.f_B 2, o8 xv293.f_Key.f_Src.f_B 3, o8 xv293.f_Key.f_Src.f_B 4, o8 xv293.f_Key.f_Src.f_B 5, o8 xv293.f_Key.f_Src.f_B 6, o8 xv293.f_Key.f_Src.f_B 7, o8 xv293.f_Key.f_Src.f_B 8, o8 xv293.f_Key.f_Src.f_B 9, o8 xv293.f_Key.f_Src.f_B 10, o8 xv293.f_Key.f_Src.f_B 11, o8 xv293.f_Key.f_Src.f_B 12, o8 xv293.f_Key.f_Src.f_B 13, o8 xv293.f_Key.f_Src.f_B 14, o8 xv293.f_Key.f_Src.f_B 15, vB xv293.f_Key.f_Dst.f_Six, o8 xv293.f_Key.f_Dst.f_B 0, o8 xv293.f_Key.f_Dst.f_B 1, o8 xv293.f_Key.f_Dst.f_B 2, o8 xv293.f_Key.f_Dst.f_B 3, o8 xv293.f_Key.f_Dst.f_B 4, o8 xv293.f_Key.f_Dst.f_B 5, o8 xv293.f_Key.f_Dst.f_B 6, o8 xv293.f_Key.f_Dst.f_B 7, o8 xv293.f_Key.f_Dst.f_B 8, o8 xv293.f_Key.f_Dst.f_B 9, o8 xv293.f_Key.f_Dst.f_B 10, o8 xv293.f_Key.f_Dst.f_B 11, o8 xv293.f_Key.f_Dst.f_B 12, o8 xv293.f_Key.f_Dst.f_B 13, o8 xv293.f_Key.f_Dst.f_B 14, o8 xv293.f_Key.f_Dst.f_B 15, v8 xv293.f_Key.f_Proto, v16 xv293.f_Key.f_SrcPort, v16 xv293.f_Key.f_DstPort, v64 xv293.f_Packets, v64 xv293.f_Bytes, v64 xv293.f_First, v64 xv293.f_Last, v8 xv293.f_Flags, v8 xv293.f_Reason, v8 xv293.f_Class]) (cs' := [vB xv293.f_Key.f_Src.f_Six, o8 xv293.f_Key.f_Src.f_B 0, o8 xv293.f_Key.f_Src.f_B 1, o8 xv293.f_Key.f_Src.f_B 2, o8 xv293.f_Key.f_Src.f_B 3, o8 xv293.f_Key.f_Src.f_B 4, o8 xv293.f_Key.f_Src.f_B 5, o8 xv293.f_Key.f_Src.f_B 6, o8 xv293.f_Key.f_Src.f_B 7, o8 xv293.f_Key.f_Src.f_B 8, o8 xv293.f_Key.f_Src.f_B 9, o8 xv293.f_Key.f_Src.f_B 10, o8 xv293.f_Key.f_Src.f_B 11, o8 xv293.f_Key.f_Src.f_B 12, o8 xv293.f_Key.f_Src.f_B 13, o8 xv293.f_Key.f_Src.f_B 14, o8 xv293.f_Key.f_Src.f_B 15, vB xv293.f_Key.f_Dst.f_Six, o8 xv293.f_Key.f_Dst.f_B 0, o8 xv293.f_Key.f_Dst.f_B 1, o8 xv293.f_Key.f_Dst.f_B 2, o8 xv293.f_Key.f_Dst.f_B 3, o8 xv293.f_Key.f_Dst.f_B 4, o8 xv293.f_Key.f_Dst.f_B 5, o8 xv293.f_Key.f_Dst.f_B 6, o8 xv293.f_Key.f_Dst.f_B 7, o8 xv293.f_Key.f_Dst.f_B 8, o8 xv293.f_Key.f_Dst.f_B 9, o8 xv293.f_Key.f_Dst.f_B 10, o8 xv293.f_Key.f_Dst.f_B 11, o8 xv293.f_Key.f_Dst.f_B 12, o8 xv293.f_Key.f_Dst.f_B 13, o8 xv293.f_Key.f_Dst.f_B 14, o8 xv293.f_Key.f_Dst.f_B 15, v8 xv293.f_Key.f_Proto, v16 xv293.f_Key.f_SrcPort, v16 xv293.f_Key.f_DstPort, v64 xv293.f_Packets, v64 xv293.f_Bytes, v64 xv293.f_First, v64 xv293.f_Last, v8 xv293.f_Flags, v8 xv293.f_Reason, v8 xv293.f_Class]) hM rfl sz46 rfl (adds_eq [] rfl) rfl rfl (One.all rfl) rfl rfl) fun w297 hM1 => ?_
  clear hM
  have hM := hM1
  clear hM1
  refine nt hQ290 ?_
  clear hQ290 Q290
  replace hM := hM.drewN 1
  refine KC.draw [] [7, 9] [6, 7, 8, 9] [0, 1, 2, 4, 10] (.ofList [0, 1, 2, 3, 4, 5, 6, 7, 8, 9, 10]) moP (by kernel_rfl) ?_
  refine RD.p rfl rfl rfl rfl (fun w' => O.move rfl) ?_
  refine RD.p rfl rfl rfl rfl (fun w' => O.move rfl) ?_
  refine RD.p rfl rfl rfl rfl (fun w' => O.fldA fl46_0 (by decide) rfl) ?_
  refine RD.q rfl rfl rfl rfl (fun w' hf => O.loadN (cs := [vB xv293.f_Key.f_Src.f_Six, o8 xv293.f_Key.f_Src.f_B 0, o8 xv293.f_Key.f_Src.f_B 1, o8 xv293.f_Key.f_Src.f_B 2, o8 xv293.f_Key.f_Src.f_B 3, o8 xv293.f_Key.f_Src.f_B 4, o8 xv293.f_Key.f_Src.f_B 5, o8 xv293.f_Key.f_Src.f_B 6, o8 xv293.f_Key.f_Src.f_B 7, o8 xv293.f_Key.f_Src.f_B 8, o8 xv293.f_Key.f_Src.f_B 9, o8 xv293.f_Key.f_Src.f_B 10, o8 xv293.f_Key.f_Src.f_B 11, o8 xv293.f_Key.f_Src.f_B 12, o8 xv293.f_Key.f_Src.f_B 13, o8 xv293.f_Key.f_Src.f_B 14, o8 xv293.f_Key.f_Src.f_B 15, vB xv293.f_Key.f_Dst.f_Six, o8 xv293.f_Key.f_Dst.f_B 0, o8 xv293.f_Key.f_Dst.f_B 1, o8 xv293.f_Key.f_Dst.f_B 2, o8 xv293.f_Key.f_Dst.f_B 3, o8 xv293.f_Key.f_Dst.f_B 4, o8 xv293.f_Key.f_Dst.f_B 5, o8 xv293.f_Key.f_Dst.f_B 6, o8 xv293.f_Key.f_Dst.f_B 7, o8 xv293.f_Key.f_Dst.f_B 8, o8 xv293.f_Key.f_Dst.f_B 9, o8 xv293.f_Key.f_Dst.f_B 10, o8 xv293.f_Key.f_Dst.f_B 11, o8 xv293.f_Key.f_Dst.f_B 12, o8 xv293.f_Key.f_Dst.f_B 13, o8 xv293.f_Key.f_Dst.f_B 14, o8 xv293.f_Key.f_Dst.f_B 15, v8 xv293.f_Key.f_Proto, v16 xv293.f_Key.f_SrcPort, v16 xv293.f_Key.f_DstPort]) ag36 rfl (Cs.addsN [0] ((hM.bx (i := 7) rfl).fut hf) rfl)) ?_
  refine RD.p rfl rfl rfl rfl (fun w' => O.move rfl) ?_
  refine RD.q rfl rfl rfl rfl (fun w' hf => O.loadN (cs := [vB xv293.f_Key.f_Src.f_Six, o8 xv293.f_Key.f_Src.f_B 0, o8 xv293.f_Key.f_Src.f_B 1, o8 xv293.f_Key.f_Src.f_B 2, o8 xv293.f_Key.f_Src.f_B 3, o8 xv293.f_Key.f_Src.f_B 4, o8 xv293.f_Key.f_Src.f_B 5, o8 xv293.f_Key.f_Src.f_B 6, o8 xv293.f_Key.f_Src.f_B 7, o8 xv293.f_Key.f_Src.f_B 8, o8 xv293.f_Key.f_Src.f_B 9, o8 xv293.f_Key.f_Src.f_B 10, o8 xv293.f_Key.f_Src.f_B 11, o8 xv293.f_Key.f_Src.f_B 12, o8 xv293.f_Key.f_Src.f_B 13, o8 xv293.f_Key.f_Src.f_B 14, o8 xv293.f_Key.f_Src.f_B 15, vB xv293.f_Key.f_Dst.f_Six, o8 xv293.f_Key.f_Dst.f_B 0, o8 xv293.f_Key.f_Dst.f_B 1, o8 xv293.f_Key.f_Dst.f_B 2, o8 xv293.f_Key.f_Dst.f_B 3, o8 xv293.f_Key.f_Dst.f_B 4, o8 xv293.f_Key.f_Dst.f_B 5, o8 xv293.f_Key.f_Dst.f_B 6, o8 xv293.f_Key.f_Dst.f_B 7, o8 xv293.f_Key.f_Dst.f_B 8, o8 xv293.f_Key.f_Dst.f_B 9, o8 xv293.f_Key.f_Dst.f_B 10, o8 xv293.f_Key.f_Dst.f_B 11, o8 xv293.f_Key.f_Dst.f_B 12, o8 xv293.f_Key.f_Dst.f_B 13, o8 xv293.f_Key.f_Dst.f_B 14, o8 xv293.f_Key.f_Dst.f_B 15, v8 xv293.f_Key.f_Proto, v16 xv293.f_Key.f_SrcPort, v16 xv293.f_Key.f_DstPort, v64 xv293.f_Packets, v64 xv293.f_Bytes, v64 xv293.f_First, v64 xv293.f_Last, v8 xv293.f_Flags, v8 xv293.f_Reason, v8 xv293.f_Class]) ag46 rfl (Cs.addsN [] ((hM.bx (i := 7) rfl).fut hf) rfl)) ?_
  refine obindE hF fun y298 hx299 hF => ?_
  refine RD.mcallv rfl rfl trivial (first := []) (captured := [.pointer (some ⟨g16, 0, none⟩)]) rfl Try.func38 bd38 rfl rfl (c_cache_Cache_Advance_2 _ _ _ (T_cache_Cache.mk p260 (T_cache_Bounds.mk p261 p262 p263 p264 p265) (T_table_Table.mk p271 p272) p276) _ _ _ _ (hM.lent [4, 3] rfl (by decide)) xv293 _ hx299) fun v w300 hv => ?_
  obtain ⟨rfl, hN301⟩ := hv
  refine ⟨fun _ => hN301.fut, ?_⟩
  replace hM := hM.call0 hN301
  refine obindE hF fun y302 hx303 hF => ?_
  refine RD.mcall rfl rfl trivial Try.func30 bd30 rfl rfl (c_cache_Cache_end _ _ _ (T_cache_Cache.mk p260 (T_cache_Bounds.mk p261 p262 p263 p264 p265) (T_table_Table.mk p271 p272) p276) _ _ _ _ _ (hM.lent [3, 1, 0, 2] rfl (by decide)) xv293.f_Key y298 _ hx303) fun v w304 hv => ?_
  obtain ⟨g306, A308, c309, A311, c312, rfl, hN305⟩ := hv
  refine ⟨fun h => (by cases h), ?_⟩
  replace hM := hM.callL [3, 1, 0, 2] [4, 5, 6, 7] rfl rfl (by decide) rfl hN305
  refine RD.meff rfl rfl (E.bsl (enc := e_flow_Record) (xs := ([y302.1] : List T_flow_Record)) hM sl41 ze46 rfl rfl rfl (fun _ => rfl) rfl (by kernel_rfl) rfl) rfl fun v w314 hv => ?_
  clear hM
  obtain ⟨A315, rfl, hM, hf⟩ := hv
  refine ⟨fun _ => hf, ?_⟩
  refine cut_someE hF fun hq320 hF => ?_
  refine RD.meff rfl rfl (E.app (enc := e_flow_Record) (xs := xv281) (ys := ([y302.1] : List T_flow_Record)) (j := 1) hM rfl sl41 ze46 rfl rfl rfl rfl rfl (hM.rd (i := 8) rfl) (fun _ => One.all rfl) (of_decide_eq_true hq320)) rfl fun v w319 hv => ?_
  clear hM
  obtain ⟨A317, c318, rfl, hM, hf⟩ := hv
  refine ⟨fun h => (by cases h), ?_⟩
  refine RD.p rfl rfl rfl rfl (fun w' => O.assign rfl) ?_
  refine RD.nil ?_
  refine KQ.blk_n ?_
  refine KQ.thn hQ289 ?_
  clear hQ289 Q289
  replace hM := hM.pick [0, 1, 2, 4, 5, 6, 7] rfl (by decide)
  refine KC.region ?_
  refine RL.val (O.add rfl rfl) rfl ?_
  refine vm rfl rfl ?_
  refine RL.nil ?_
  refine KQ.then_k ?_
  replace hM := hM.pick [5, 4, 6, 3, 0, 1, 2] rfl (by decide)
  exact fun a ha => ⟨k286, Nat.lt_succ_self k286, g306, A308, c309, A311, c312, A317, c318, y302.2.f_tick, y302.2.f_bounds.f_Flows, y302.2.f_bounds.f_Idle, y302.2.f_bounds.f_Active, y302.2.f_bounds.f_Packets, y302.2.f_bounds.f_Bytes, y302.2.f_places.f_slots, y302.2.f_places.f_many, y302.2.f_flows, (xv281 ++ ([y302.1] : List T_flow_Record)), (IntKind.i64.wrap (t283 + 1)), ha.less (less_cons rfl (less_cons rfl (less_cons rfl (less_cons rfl (less_cons rfl (less_cons rfl less_nil)))))), hM, hF⟩
 rw [if_neg (ne_true hc)] at hF
 refine KC.exit ?_
 refine KQ.thx hQ288 ?_
 clear hQ288 Q288
 refine KQ.then_x ?_
 refine KQ.blk_x ?_
 refine KQ.thn hQ162 ?_
 clear hQ162 Q162
 refine sr fun Q322 hQ322 => ?_
 refine vm rfl rfl ?_
 refine va rfl rfl ?_
 refine nt hQ322 ?_
 clear hQ322 Q322
 refine KC.ret ?_
 refine KQ.rets Try.results37 (RVs.cons (RV.tm rfl) RVs.nil) ?_
 refine ⟨.slice A279 (xv281).length c280, rfl, ?_⟩
 refine va rfl rfl ?_
 refine nt hQ160 ?_
 clear hQ160 Q160
 refine KC.ret ?_
 have hE := Option.some.inj hF
 clear hF
 subst hE
 replace hM := hM.pick [3, 1, 0, 2, 5] rfl (by decide)
 refine KQ.rets Try.results9 (RVs.cons (RV.tm rfl) RVs.nil) ?_
 exact ⟨_, rfl, g267, A269, c270, A274, c275, A279, c280, rfl, hM⟩
set_option maxRecDepth 100000 in
set_option maxHeartbeats 40000000 in
theorem c_cache_Cache_begin_1 (w : World) (av1 : T_flow_Record) (b2 : T_flow_Record) (r : Int) (hF : F_cache_Cache_begin_1 av1 b2 = some r) :
  CallsR Try.prog 52 [.agg #[vB av1.f_Key.f_Src.f_Six, o8 av1.f_Key.f_Src.f_B 0, o8 av1.f_Key.f_Src.f_B 1, o8 av1.f_Key.f_Src.f_B 2, o8 av1.f_Key.f_Src.f_B 3, o8 av1.f_Key.f_Src.f_B 4, o8 av1.f_Key.f_Src.f_B 5, o8 av1.f_Key.f_Src.f_B 6, o8 av1.f_Key.f_Src.f_B 7, o8 av1.f_Key.f_Src.f_B 8, o8 av1.f_Key.f_Src.f_B 9, o8 av1.f_Key.f_Src.f_B 10, o8 av1.f_Key.f_Src.f_B 11, o8 av1.f_Key.f_Src.f_B 12, o8 av1.f_Key.f_Src.f_B 13, o8 av1.f_Key.f_Src.f_B 14, o8 av1.f_Key.f_Src.f_B 15, vB av1.f_Key.f_Dst.f_Six, o8 av1.f_Key.f_Dst.f_B 0, o8 av1.f_Key.f_Dst.f_B 1, o8 av1.f_Key.f_Dst.f_B 2, o8 av1.f_Key.f_Dst.f_B 3, o8 av1.f_Key.f_Dst.f_B 4, o8 av1.f_Key.f_Dst.f_B 5, o8 av1.f_Key.f_Dst.f_B 6, o8 av1.f_Key.f_Dst.f_B 7, o8 av1.f_Key.f_Dst.f_B 8, o8 av1.f_Key.f_Dst.f_B 9, o8 av1.f_Key.f_Dst.f_B 10, o8 av1.f_Key.f_Dst.f_B 11, o8 av1.f_Key.f_Dst.f_B 12, o8 av1.f_Key.f_Dst.f_B 13, o8 av1.f_Key.f_Dst.f_B 14, o8 av1.f_Key.f_Dst.f_B 15, v8 av1.f_Key.f_Proto, v16 av1.f_Key.f_SrcPort, v16 av1.f_Key.f_DstPort, v64 av1.f_Packets, v64 av1.f_Bytes, v64 av1.f_First, v64 av1.f_Last, v8 av1.f_Flags, v8 av1.f_Reason, v8 av1.f_Class], .agg #[vB b2.f_Key.f_Src.f_Six, o8 b2.f_Key.f_Src.f_B 0, o8 b2.f_Key.f_Src.f_B 1, o8 b2.f_Key.f_Src.f_B 2, o8 b2.f_Key.f_Src.f_B 3, o8 b2.f_Key.f_Src.f_B 4, o8 b2.f_Key.f_Src.f_B 5, o8 b2.f_Key.f_Src.f_B 6, o8 b2.f_Key.f_Src.f_B 7, o8 b2.f_Key.f_Src.f_B 8, o8 b2.f_Key.f_Src.f_B 9, o8 b2.f_Key.f_Src.f_B 10, o8 b2.f_Key.f_Src.f_B 11, o8 b2.f_Key.f_Src.f_B 12, o8 b2.f_Key.f_Src.f_B 13, o8 b2.f_Key.f_Src.f_B 14, o8 b2.f_Key.f_Src.f_B 15, vB b2.f_Key.f_Dst.f_Six, o8 b2.f_Key.f_Dst.f_B 0, o8 b2.f_Key.f_Dst.f_B 1, o8 b2.f_Key.f_Dst.f_B 2, o8 b2.f_Key.f_Dst.f_B 3, o8 b2.f_Key.f_Dst.f_B 4, o8 b2.f_Key.f_Dst.f_B 5, o8 b2.f_Key.f_Dst.f_B 6, o8 b2.f_Key.f_Dst.f_B 7, o8 b2.f_Key.f_Dst.f_B 8, o8 b2.f_Key.f_Dst.f_B 9, o8 b2.f_Key.f_Dst.f_B 10, o8 b2.f_Key.f_Dst.f_B 11, o8 b2.f_Key.f_Dst.f_B 12, o8 b2.f_Key.f_Dst.f_B 13, o8 b2.f_Key.f_Dst.f_B 14, o8 b2.f_Key.f_Dst.f_B 15, v8 b2.f_Key.f_Proto, v16 b2.f_Key.f_SrcPort, v16 b2.f_Key.f_DstPort, v64 b2.f_Packets, v64 b2.f_Bytes, v64 b2.f_First, v64 b2.f_Last, v8 b2.f_Flags, v8 b2.f_Reason, v8 b2.f_Class]] w (fun v w' => v = vI r ∧ Mem w [] w' []) := by
 refine calls_KC Try.func52 rfl Try.ntmps52 rfl ?_
 have hM := Mem.init w
 unfold F_cache_Cache_begin_1 at hF
 refine sr fun Q3 hQ3 => ?_
 refine RL.eff (E.box (vs := [vB av1.f_Key.f_Src.f_Six, o8 av1.f_Key.f_Src.f_B 0, o8 av1.f_Key.f_Src.f_B 1, o8 av1.f_Key.f_Src.f_B 2, o8 av1.f_Key.f_Src.f_B 3, o8 av1.f_Key.f_Src.f_B 4, o8 av1.f_Key.f_Src.f_B 5, o8 av1.f_Key.f_Src.f_B 6, o8 av1.f_Key.f_Src.f_B 7, o8 av1.f_Key.f_Src.f_B 8, o8 av1.f_Key.f_Src.f_B 9, o8 av1.f_Key.f_Src.f_B 10, o8 av1.f_Key.f_Src.f_B 11, o8 av1.f_Key.f_Src.f_B 12, o8 av1.f_Key.f_Src.f_B 13, o8 av1.f_Key.f_Src.f_B 14, o8 av1.f_Key.f_Src.f_B 15, vB av1.f_Key.f_Dst.f_Six, o8 av1.f_Key.f_Dst.f_B 0, o8 av1.f_Key.f_Dst.f_B 1, o8 av1.f_Key.f_Dst.f_B 2, o8 av1.f_Key.f_Dst.f_B 3, o8 av1.f_Key.f_Dst.f_B 4, o8 av1.f_Key.f_Dst.f_B 5, o8 av1.f_Key.f_Dst.f_B 6, o8 av1.f_Key.f_Dst.f_B 7, o8 av1.f_Key.f_Dst.f_B 8, o8 av1.f_Key.f_Dst.f_B 9, o8 av1.f_Key.f_Dst.f_B 10, o8 av1.f_Key.f_Dst.f_B 11, o8 av1.f_Key.f_Dst.f_B 12, o8 av1.f_Key.f_Dst.f_B 13, o8 av1.f_Key.f_Dst.f_B 14, o8 av1.f_Key.f_Dst.f_B 15, v8 av1.f_Key.f_Proto, v16 av1.f_Key.f_SrcPort, v16 av1.f_Key.f_DstPort, v64 av1.f_Packets, v64 av1.f_Bytes, v64 av1.f_First, v64 av1.f_Last, v8 av1.f_Flags, v8 av1.f_Reason, v8 av1.f_Class]) hM rfl rfl) rfl fun v w5 hv => ?_
 clear hM
 obtain ⟨g4, rfl, hM, hf⟩ := hv
 refine RL.eff (E.box (vs := [vB b2.f_Key.f_Src.f_Six, o8 b2.f_Key.f_Src.f_B 0, o8 b2.f_Key.f_Src.f_B 1, o8 b2.f_Key.f_Src.f_B 2, o8 b2.f_Key.f_Src.f_B 3, o8 b2.f_Key.f_Src.f_B 4, o8 b2.f_Key.f_Src.f_B 5, o8 b2.f_Key.f_Src.f_B 6, o8 b2.f_Key.f_Src.f_B 7, o8 b2.f_Key.f_Src.f_B 8, o8 b2.f_Key.f_Src.f_B 9, o8 b2.f_Key.f_Src.f_B 10, o8 b2.f_Key.f_Src.f_B 11, o8 b2.f_Key.f_Src.f_B 12, o8 b2.f_Key.f_Src.f_B 13, o8 b2.f_Key.f_Src.f_B 14, o8 b2.f_Key.f_Src.f_B 15, vB b2.f_Key.f_Dst.f_Six, o8 b2.f_Key.f_Dst.f_B 0, o8 b2.f_Key.f_Dst.f_B 1, o8 b2.f_Key.f_Dst.f_B 2, o8 b2.f_Key.f_Dst.f_B 3, o8 b2.f_Key.f_Dst.f_B 4, o8 b2.f_Key.f_Dst.f_B 5, o8 b2.f_Key.f_Dst.f_B 6, o8 b2.f_Key.f_Dst.f_B 7, o8 b2.f_Key.f_Dst.f_B 8, o8 b2.f_Key.f_Dst.f_B 9, o8 b2.f_Key.f_Dst.f_B 10, o8 b2.f_Key.f_Dst.f_B 11, o8 b2.f_Key.f_Dst.f_B 12, o8 b2.f_Key.f_Dst.f_B 13, o8 b2.f_Key.f_Dst.f_B 14, o8 b2.f_Key.f_Dst.f_B 15, v8 b2.f_Key.f_Proto, v16 b2.f_Key.f_SrcPort, v16 b2.f_Key.f_DstPort, v64 b2.f_Packets, v64 b2.f_Bytes, v64 b2.f_First, v64 b2.f_Last, v8 b2.f_Flags, v8 b2.f_Reason, v8 b2.f_Class]) hM rfl rfl) rfl fun v w8 hv => ?_
 clear hM
 obtain ⟨g7, rfl, hM, hf⟩ := hv
 refine va rfl rfl ?_
 refine nt hQ3 ?_
 clear hQ3 Q3
 refine KC.seqH fun Q10 hQ10 => ?_
 replace hM := hM.drewN 1
 refine KC.draw [] [] [4, 7, 8, 9] [0, 2, 10] (.ofList [0, 1, 2, 3, 5, 6, 4, 7, 8, 9, 10]) moP (by kernel_rfl) ?_
 refine RD.p rfl rfl rfl rfl (fun w' => O.fldA fl46_4 (by decide) rfl) ?_
 refine RD.q rfl rfl rfl rfl (fun w' hf => O.load sc22 rfl (Cs.adds [40] ((hM.bx (i := 0) rfl).fut hf) rfl)) ?_
 refine RD.p rfl rfl rfl rfl (fun w' => O.fldA fl46_4 (by decide) rfl) ?_
 refine RD.q rfl rfl rfl rfl (fun w' hf => O.load sc22 rfl (Cs.adds [40] ((hM.bx (i := 1) rfl).fut hf) rfl)) ?_
 refine RD.q rfl rfl rfl rfl (fun w' hf => O.loadN (cs := [vB av1.f_Key.f_Src.f_Six, o8 av1.f_Key.f_Src.f_B 0, o8 av1.f_Key.f_Src.f_B 1, o8 av1.f_Key.f_Src.f_B 2, o8 av1.f_Key.f_Src.f_B 3, o8 av1.f_Key.f_Src.f_B 4, o8 av1.f_Key.f_Src.f_B 5, o8 av1.f_Key.f_Src.f_B 6, o8 av1.f_Key.f_Src.f_B 7, o8 av1.f_Key.f_Src.f_B 8, o8 av1.f_Key.f_Src.f_B 9, o8 av1.f_Key.f_Src.f_B 10, o8 av1.f_Key.f_Src.f_B 11, o8 av1.f_Key.f_Src.f_B 12, o8 av1.f_Key.f_Src.f_B 13, o8 av1.f_Key.f_Src.f_B 14, o8 av1.f_Key.f_Src.f_B 15, vB av1.f_Key.f_Dst.f_Six, o8 av1.f_Key.f_Dst.f_B 0, o8 av1.f_Key.f_Dst.f_B 1, o8 av1.f_Key.f_Dst.f_B 2, o8 av1.f_Key.f_Dst.f_B 3, o8 av1.f_Key.f_Dst.f_B 4, o8 av1.f_Key.f_Dst.f_B 5, o8 av1.f_Key.f_Dst.f_B 6, o8 av1.f_Key.f_Dst.f_B 7, o8 av1.f_Key.f_Dst.f_B 8, o8 av1.f_Key.f_Dst.f_B 9, o8 av1.f_Key.f_Dst.f_B 10, o8 av1.f_Key.f_Dst.f_B 11, o8 av1.f_Key.f_Dst.f_B 12, o8 av1.f_Key.f_Dst.f_B 13, o8 av1.f_Key.f_Dst.f_B 14, o8 av1.f_Key.f_Dst.f_B 15, v8 av1.f_Key.f_Proto, v16 av1.f_Key.f_SrcPort, v16 av1.f_Key.f_DstPort, v64 av1.f_Packets, v64 av1.f_Bytes, v64 av1.f_First, v64 av1.f_Last, v8 av1.f_Flags, v8 av1.f_Reason, v8 av1.f_Class]) ag46 rfl (Cs.addsN [] ((hM.bx (i := 0) rfl).fut hf) rfl)) ?_
 refine RD.q rfl rfl rfl rfl (fun w' hf => O.loadN (cs := [vB b2.f_Key.f_Src.f_Six, o8 b2.f_Key.f_Src.f_B 0, o8 b2.f_Key.f_Src.f_B 1, o8 b2.f_Key.f_Src.f_B 2, o8 b2.f_Key.f_Src.f_B 3, o8 b2.f_Key.f_Src.f_B 4, o8 b2.f_Key.f_Src.f_B 5, o8 b2.f_Key.f_Src.f_B 6, o8 b2.f_Key.f_Src.f_B 7, o8 b2.f_Key.f_Src.f_B 8, o8 b2.f_Key.f_Src.f_B 9, o8 b2.f_Key.f_Src.f_B 10, o8 b2.f_Key.f_Src.f_B 11, o8 b2.f_Key.f_Src.f_B 12, o8 b2.f_Key.f_Src.f_B 13, o8 b2.f_Key.f_Src.f_B 14, o8 b2.f_Key.f_Src.f_B 15, vB b2.f_Key.f_Dst.f_Six, o8 b2.f_Key.f_Dst.f_B 0, o8 b2.f_Key.f_Dst.f_B 1, o8 b2.f_Key.f_Dst.f_B 2, o8 b2.f_Key.f_Dst.f_B 3, o8 b2.f_Key.f_Dst.f_B 4, o8 b2.f_Key.f_Dst.f_B 5, o8 b2.f_Key.f_Dst.f_B 6, o8 b2.f_Key.f_Dst.f_B 7, o8 b2.f_Key.f_Dst.f_B 8, o8 b2.f_Key.f_Dst.f_B 9, o8 b2.f_Key.f_Dst.f_B 10, o8 b2.f_Key.f_Dst.f_B 11, o8 b2.f_Key.f_Dst.f_B 12, o8 b2.f_Key.f_Dst.f_B 13, o8 b2.f_Key.f_Dst.f_B 14, o8 b2.f_Key.f_Dst.f_B 15, v8 b2.f_Key.f_Proto, v16 b2.f_Key.f_SrcPort, v16 b2.f_Key.f_DstPort, v64 b2.f_Packets, v64 b2.f_Bytes, v64 b2.f_First, v64 b2.f_Last, v8 b2.f_Flags, v8 b2.f_Reason, v8 b2.f_Class]) ag46 rfl (Cs.addsN [] ((hM.bx (i := 1) rfl).fut hf) rfl)) ?_
 refine obindE hF fun y11 hx12 hF => ?_
 refine RD.mcall rfl rfl trivial Try.func35 bd35 rfl rfl (c_cmp_Compare_uint64 _ av1.f_Last b2.f_Last _ hx12) fun v w13 hv => ?_
 obtain ⟨rfl, hN14⟩ := hv
 refine ⟨fun _ => hN14.fut, ?_⟩
 replace hM := hM.call0 hN14
 refine obindE hF fun y15 hx16 hF => ?_
 refine RD.mcall rfl rfl trivial Try.func36 bd36 rfl rfl (c_cache_byKey _ av1 b2 _ hx16) fun v w17 hv => ?_
 obtain ⟨rfl, hN18⟩ := hv
 refine ⟨fun _ => hN18.fut, ?_⟩
 replace hM := hM.call0 hN18
 refine RD.meff rfl rfl (E.bsl (enc := (eI .i64)) (xs := ([y11, y15] : List Int)) hM sl110 ze3 rfl rfl rfl (fun _ => rfl) rfl (by kernel_rfl) rfl) rfl fun v w19 hv => ?_
 clear hM
 obtain ⟨A20, rfl, hM, hf⟩ := hv
 refine ⟨fun _ => hf, ?_⟩
 refine obindE hF fun y22 hx23 hF => ?_
 refine RD.mcall rfl rfl trivial Try.func34 bd34 rfl rfl (c_cmp_Or_int _ _ _ ([y11, y15] : List Int) (hM.rd (i := 2) rfl) _ hx23) fun v w24 hv => ?_
 obtain ⟨rfl, hN25⟩ := hv
 refine ⟨fun _ => hN25.fut, ?_⟩
 replace hM := hM.call0 hN25
 refine RD.p rfl rfl rfl rfl (fun w' => O.assign rfl) ?_
 refine RD.nil ?_
 refine KQ.thn hQ10 ?_
 clear hQ10 Q10
 refine KC.ret ?_
 have hE := Option.some.inj hF
 clear hF
 subst hE
 replace hM := hM.pick [] rfl (by decide)
 refine KQ.rets Try.results52 (RVs.cons (RV.tm rfl) RVs.nil) ?_
 exact ⟨_, rfl, rfl, hM⟩
set_option maxRecDepth 100000 in
set_option maxHeartbeats 40000000 in
theorem c_slices_MinFunc_flow_Record_flow_Record_fcache_Cache_begin_1 (w : World) (A2 : Option Addr) (c3 : Nat) (xv1 : List T_flow_Record) (hr4 : Rd w A2 c3 44 xv1.length (xv1.flatMap e_flow_Record)) (r : T_flow_Record) (hF : F_slices_MinFunc_flow_Record_flow_Record_fcache_Cache_begin_1 xv1 = some r) :
  CallsR Try.prog 51 [.slice A2 (xv1).length c3, .func (.func 52) #[] #[]] w (fun v w' => v = .agg #[vB r.f_Key.f_Src.f_Six, o8 r.f_Key.f_Src.f_B 0, o8 r.f_Key.f_Src.f_B 1, o8 r.f_Key.f_Src.f_B 2, o8 r.f_Key.f_Src.f_B 3, o8 r.f_Key.f_Src.f_B 4, o8 r.f_Key.f_Src.f_B 5, o8 r.f_Key.f_Src.f_B 6, o8 r.f_Key.f_Src.f_B 7, o8 r.f_Key.f_Src.f_B 8, o8 r.f_Key.f_Src.f_B 9, o8 r.f_Key.f_Src.f_B 10, o8 r.f_Key.f_Src.f_B 11, o8 r.f_Key.f_Src.f_B 12, o8 r.f_Key.f_Src.f_B 13, o8 r.f_Key.f_Src.f_B 14, o8 r.f_Key.f_Src.f_B 15, vB r.f_Key.f_Dst.f_Six, o8 r.f_Key.f_Dst.f_B 0, o8 r.f_Key.f_Dst.f_B 1, o8 r.f_Key.f_Dst.f_B 2, o8 r.f_Key.f_Dst.f_B 3, o8 r.f_Key.f_Dst.f_B 4, o8 r.f_Key.f_Dst.f_B 5, o8 r.f_Key.f_Dst.f_B 6, o8 r.f_Key.f_Dst.f_B 7, o8 r.f_Key.f_Dst.f_B 8, o8 r.f_Key.f_Dst.f_B 9, o8 r.f_Key.f_Dst.f_B 10, o8 r.f_Key.f_Dst.f_B 11, o8 r.f_Key.f_Dst.f_B 12, o8 r.f_Key.f_Dst.f_B 13, o8 r.f_Key.f_Dst.f_B 14, o8 r.f_Key.f_Dst.f_B 15, v8 r.f_Key.f_Proto, v16 r.f_Key.f_SrcPort, v16 r.f_Key.f_DstPort, v64 r.f_Packets, v64 r.f_Bytes, v64 r.f_First, v64 r.f_Last, v8 r.f_Flags, v8 r.f_Reason, v8 r.f_Class] ∧ Mem w [] w' []) := by
 refine calls_KC Try.func51 rfl Try.ntmps51 rfl ?_
 have hM := Mem.init w
 unfold F_slices_MinFunc_flow_Record_flow_Record_fcache_Cache_begin_1 at hF
 refine sr fun Q5 hQ5 => ?_
 refine RL.eff (E.alloc hM ze46) rfl fun v w7 hv => ?_
 clear hM
 obtain ⟨g6, rfl, hM, hf⟩ := hv
 refine nt hQ5 ?_
 clear hQ5 Q5
 refine KC.cut (fun a w11 => Kn 33 [(0, .slice A2 (xv1).length c3), (1, .func (.func 52) #[] #[]), (4, .pointer (some ⟨g6, 0, none⟩))] a ∧ Mem w [] w11 [.box g6 46 [vB false, o8 (List.replicate 16 0) 0, o8 (List.replicate 16 0) 1, o8 (List.replicate 16 0) 2, o8 (List.replicate 16 0) 3, o8 (List.replicate 16 0) 4, o8 (List.replicate 16 0) 5, o8 (List.replicate 16 0) 6, o8 (List.replicate 16 0) 7, o8 (List.replicate 16 0) 8, o8 (List.replicate 16 0) 9, o8 (List.replicate 16 0) 10, o8 (List.replicate 16 0) 11, o8 (List.replicate 16 0) 12, o8 (List.replicate 16 0) 13, o8 (List.replicate 16 0) 14, o8 (List.replicate 16 0) 15, vB false, o8 (List.replicate 16 0) 0, o8 (List.replicate 16 0) 1, o8 (List.replicate 16 0) 2, o8 (List.replicate 16 0) 3, o8 (List.replicate 16 0) 4, o8 (List.replicate 16 0) 5, o8 (List.replicate 16 0) 6, o8 (List.replicate 16 0) 7, o8 (List.replicate 16 0) 8, o8 (List.replicate 16 0) 9, o8 (List.replicate 16 0) 10, o8 (List.replicate 16 0) 11, o8 (List.replicate 16 0) 12, o8 (List.replicate 16 0) 13, o8 (List.replicate 16 0) 14, o8 (List.replicate 16 0) 15, v8 0, v16 0, v16 0, v64 0, v64 0, v64 0, v64 0, v8 0, v8 0, v8 0]] ∧ F_slices_MinFunc_flow_Record_flow_Record_fcache_Cache_begin_1_j1 xv1 = some r) ?_ ?_
 ·refine sr fun Q9 hQ9 => ?_
  refine vm rfl rfl ?_
  refine RL.val (O.len sl41 rfl) rfl ?_
  refine RL.val (O.lss rfl rfl) rfl ?_
  refine nt hQ9 ?_
  clear hQ9 Q9
  refine KC.cond rfl (fun hc => ?_) (fun hc => ?_)
  ·rw [if_pos hc] at hF
   refine KC.region ?_
   exact (none_some hF).elim
  rw [if_neg (ne_true hc)] at hF
  refine KC.skip ?_
  refine KQ.then_k ?_
  exact fun a ha => ⟨ha.less (less_cons rfl (less_cons rfl (less_cons rfl less_nil))), hM, hF⟩
 rintro a w11 ⟨ha, hM, hF⟩
 refine KC.app ha ?_
 clear ha
 unfold F_slices_MinFunc_flow_Record_flow_Record_fcache_Cache_begin_1_j1 at hF
 refine sr fun Q12 hQ12 => ?_
 refine vm rfl rfl ?_
 refine obindE hF fun xv15 hx14 hF => ?_
 have hA13 := Rd.atN (f := e_flow_Record) (s := 44) (fun _ => rfl) (by decide) (hM.inp hr4 Off.nil) hx14
 refine RL.val (O.idxA sl41 (hA13) rfl rfl) rfl ?_
 refine RL.val (O.loadN (cs := [vB xv15.f_Key.f_Src.f_Six, o8 xv15.f_Key.f_Src.f_B 0, o8 xv15.f_Key.f_Src.f_B 1, o8 xv15.f_Key.f_Src.f_B 2, o8 xv15.f_Key.f_Src.f_B 3, o8 xv15.f_Key.f_Src.f_B 4, o8 xv15.f_Key.f_Src.f_B 5, o8 xv15.f_Key.f_Src.f_B 6, o8 xv15.f_Key.f_Src.f_B 7, o8 xv15.f_Key.f_Src.f_B 8, o8 xv15.f_Key.f_Src.f_B 9, o8 xv15.f_Key.f_Src.f_B 10, o8 xv15.f_Key.f_Src.f_B 11, o8 xv15.f_Key.f_Src.f_B 12, o8 xv15.f_Key.f_Src.f_B 13, o8 xv15.f_Key.f_Src.f_B 14, o8 xv15.f_Key.f_Src.f_B 15, vB xv15.f_Key.f_Dst.f_Six, o8 xv15.f_Key.f_Dst.f_B 0, o8 xv15.f_Key.f_Dst.f_B 1, o8 xv15.f_Key.f_Dst.f_B 2, o8 xv15.f_Key.f_Dst.f_B 3, o8 xv15.f_Key.f_Dst.f_B 4, o8 xv15.f_Key.f_Dst.f_B 5, o8 xv15.f_Key.f_Dst.f_B 6, o8 xv15.f_Key.f_Dst.f_B 7, o8 xv15.f_Key.f_Dst.f_B 8, o8 xv15.f_Key.f_Dst.f_B 9, o8 xv15.f_Key.f_Dst.f_B 10, o8 xv15.f_Key.f_Dst.f_B 11, o8 xv15.f_Key.f_Dst.f_B 12, o8 xv15.f_Key.f_Dst.f_B 13, o8 xv15.f_Key.f_Dst.f_B 14, o8 xv15.f_Key.f_Dst.f_B 15, v8 xv15.f_Key.f_Proto, v16 xv15.f_Key.f_SrcPort, v16 xv15.f_Key.f_DstPort, v64 xv15.f_Packets, v64 xv15.f_Bytes, v64 xv15.f_First, v64 xv15.f_Last, v8 xv15.f_Flags, v8 xv15.f_Reason, v8 xv15.f_Class]) ag46 rfl (hA13).cells) rfl ?_
 refine RL.eff (E.alloc hM ze46) rfl fun v w17 hv => ?_
 clear hM
 obtain ⟨g16, rfl, hM, hf⟩ := hv
 refine RL.effs (E.stB (j := 1) (off := 0) (vs := [vB xv15.f_Key.f_Src.f_Six, o8 xv15.f_Key.f_Src.f_B 0, o8 xv15.f_Key.f_Src.f_B 1, o8 xv15.f_Key.f_Src.f_B 2, o8 xv15.f_Key.f_Src.f_B 3, o8 xv15.f_Key.f_Src.f_B 4, o8 xv15.f_Key.f_Src.f_B 5, o8 xv15.f_Key.f_Src.f_B 6, o8 xv15.f_Key.f_Src.f_B 7, o8 xv15.f_Key.f_Src.f_B 8, o8 xv15.f_Key.f_Src.f_B 9, o8 xv15.f_Key.f_Src.f_B 10, o8 xv15.f_Key.f_Src.f_B 11, o8 xv15.f_Key.f_Src.f_B 12, o8 xv15.f_Key.f_Src.f_B 13, o8 xv15.f_Key.f_Src.f_B 14, o8 xv15.f_Key.f_Src.f_B 15, vB xv15.f_Key.f_Dst.f_Six, o8 xv15.f_Key.f_Dst.f_B 0, o8 xv15.f_Key.f_Dst.f_B 1, o8 xv15.f_Key.f_Dst.f_B 2, o8 xv15.f_Key.f_Dst.f_B 3, o8 xv15.f_Key.f_Dst.f_B 4, o8 xv15.f_Key.f_Dst.f_B 5, o8 xv15.f_Key.f_Dst.f_B 6, o8 xv15.f_Key.f_Dst.f_B 7, o8 xv15.f_Key.f_Dst.f_B 8, o8 xv15.f_Key.f_Dst.f_B 9, o8 xv15.f_Key.f_Dst.f_B 10, o8 xv15.f_Key.f_Dst.f_B 11, o8 xv15.f_Key.f_Dst.f_B 12, o8 xv15.f_Key.f_Dst.f_B 13, o8 xv15.f_Key.f_Dst.f_B 14, o8 xv15.f_Key.f_Dst.f_B 15, v8 xv15.f_Key.f_Proto, v16 xv15.f_Key.f_SrcPort, v16 xv15.f_Key.f_DstPort, v64 xv15.f_Packets, v64 xv15.f_Bytes, v64 xv15.f_First, v64 xv15.f_Last, v8 xv15.f_Flags, v8 xv15.f_Reason, v8 xv15.f_Class]) (cs' := [vB xv15.f_Key.f_Src.f_Six, o8 xv15.f_Key.f_Src.f_B 0, o8 xv15.f_Key.f_Src.f_B 1, o8 xv15.f_Key.f_Src.f_B 2, o8 xv15.f_Key.f_Src.f_B 3, o8 xv15.f_Key.f_Src.f_B 4, o8 xv15.f_Key.f_Src.f_B 5, o8 xv15.f_Key.f_Src.f_B 6, o8 xv15.f_Key.f_Src.f_B 7, o8 xv15.f_Key.f_Src.f_B 8, o8 xv15.f_Key.f_Src.f_B 9, o8 xv15.f_Key.f_Src.f_B 10, o8 xv15.f_Key.f_Src.f_B 11, o8 xv15.f_Key.f_Src.f_B 12, o8 xv15.f_Key.f_Src.f_B 13, o8 xv15.f_Key.f_Src.f_B 14, o8 xv15.f_Key.f_Src.f_B 15, vB xv15.f_Key.f_Dst.f_Six, o8 xv15.f_Key.f_Dst.f_B 0, o8 xv15.f_Key.f_Dst.f_B 1, o8 xv15.f_Key.f_Dst.f_B 2, o8 xv15.f_Key.f_Dst.f_B 3, o8 xv15.f_Key.f_Dst.f_B 4, o8 xv15.f_Key.f_Dst.f_B 5, o8 xv15.f_Key.f_Dst.f_B 6, o8 xv15.f_Key.f_Dst.f_B 7, o8 xv15.f_Key.f_Dst.f_B 8, o8 xv15.f_Key.f_Dst.f_B 9, o8 xv15.f_Key.f_Dst.f_B 10, o8 xv15.f_Key.f_Dst.f_B 11, o8 xv15.f_Key.f_Dst.f_B 12, o8 xv15.f_Key.f_Dst.f_B 13, o8 xv15.f_Key.f_Dst.f_B 14, o8 xv15.f_Key.f_Dst.f_B 15, v8 xv15.f_Key.f_Proto, v16 xv15.f_Key.f_SrcPort, v16 xv15.f_Key.f_DstPort, v64 xv15.f_Packets, v64 xv15.f_Bytes, v64 xv15.f_First, v64 xv15.f_Last, v8 xv15.f_Flags, v8 xv15.f_Reason, v8 xv15.f_Class]) hM rfl sz46 rfl (adds_eq [] rfl) rfl rfl (One.all rfl) rfl rfl) fun w19 hM1 => ?_
 clear hM
 have hM := hM1
 clear hM1
 refine nt hQ12 ?_
 clear hQ12 Q12
 refine KC.seqH fun Q20 hQ20 => ?_
 refine sr fun Q21 hQ21 => ?_
 refine va rfl rfl ?_
 refine nt hQ21 ?_
 clear hQ21 Q21
 refine KC.block ?_
 refine KC.loop (fun k120 a w118 => ∃ (m103 : Bool) (m104 : List Int) (m105 : Bool) (m106 : List Int) (m107 : Int) (m108 : Int) (m109 : Int) (m110 : Int) (m111 : Int) (m112 : Int) (m113 : Int) (m114 : Int) (m115 : Int) (m116 : Int) (i117 : Int), Kn 33 [(0, .slice A2 (xv1).length c3), (1, .func (.func 52) #[] #[]), (4, .pointer (some ⟨g6, 0, none⟩)), (5, .pointer (some ⟨g16, 0, none⟩)), (6, vI i117)] a ∧ Mem w [] w118 [.box g6 46 [vB false, o8 (List.replicate 16 0) 0, o8 (List.replicate 16 0) 1, o8 (List.replicate 16 0) 2, o8 (List.replicate 16 0) 3, o8 (List.replicate 16 0) 4, o8 (List.replicate 16 0) 5, o8 (List.replicate 16 0) 6, o8 (List.replicate 16 0) 7, o8 (List.replicate 16 0) 8, o8 (List.replicate 16 0) 9, o8 (List.replicate 16 0) 10, o8 (List.replicate 16 0) 11, o8 (List.replicate 16 0) 12, o8 (List.replicate 16 0) 13, o8 (List.replicate 16 0) 14, o8 (List.replicate 16 0) 15, vB false, o8 (List.replicate 16 0) 0, o8 (List.replicate 16 0) 1, o8 (List.replicate 16 0) 2, o8 (List.replicate 16 0) 3, o8 (List.replicate 16 0) 4, o8 (List.replicate 16 0) 5, o8 (List.replicate 16 0) 6, o8 (List.replicate 16 0) 7, o8 (List.replicate 16 0) 8, o8 (List.replicate 16 0) 9, o8 (List.replicate 16 0) 10, o8 (List.replicate 16 0) 11, o8 (List.replicate 16 0) 12, o8 (List.replicate 16 0) 13, o8 (List.replicate 16 0) 14, o8 (List.replicate 16 0) 15, v8 0, v16 0, v16 0, v64 0, v64 0, v64 0, v64 0, v8 0, v8 0, v8 0], .box g16 46 [vB m103, o8 m104 0, o8 m104 1, o8 m104 2, o8 m104 3, o8 m104 4, o8 m104 5, o8 m104 6, o8 m104 7, o8 m104 8, o8 m104 9, o8 m104 10, o8 m104 11, o8 m104 12, o8 m104 13, o8 m104 14, o8 m104 15, vB m105, o8 m106 0, o8 m106 1, o8 m106 2, o8 m106 3, o8 m106 4, o8 m106 5, o8 m106 6, o8 m106 7, o8 m106 8, o8 m106 9, o8 m106 10, o8 m106 11, o8 m106 12, o8 m106 13, o8 m106 14, o8 m106 15, v8 m107, v16 m108, v16 m109, v64 m110, v64 m111, v64 m112, v64 m113, v8 m114, v8 m115, v8 m116]] ∧ F_slices_MinFunc_flow_Record_flow_Record_fcache_Cache_begin_1_L1 xv1 k120 m103 m104 m105 m106 m107 m108 m109 m110 m111 m112 m113 m114 m115 m116 i117 = some r) ?_ ?_
 ·exact fun a ha => ⟨fuel0, xv15.f_Key.f_Src.f_Six, xv15.f_Key.f_Src.f_B, xv15.f_Key.f_Dst.f_Six, xv15.f_Key.f_Dst.f_B, xv15.f_Key.f_Proto, xv15.f_Key.f_SrcPort, xv15.f_Key.f_DstPort, xv15.f_Packets, xv15.f_Bytes, xv15.f_First, xv15.f_Last, xv15.f_Flags, xv15.f_Reason, xv15.f_Class, 1, ha.less (less_cons rfl (less_cons rfl (less_cons rfl (less_cons rfl (less_cons rfl less_nil))))), hM, hF⟩
 rintro k120 a w118 ⟨m103, m104, m105, m106, m107, m108, m109, m110, m111, m112, m113, m114, m115, m116, i117, ha, hM, hF⟩
 refine KC.app ha ?_
 clear ha
 cases k120 with
 | zero => exact (none_some hF).elim
 | succ k120 =>
 have hF : F_slices_MinFunc_flow_Record_flow_Record_fcache_Cache_begin_1_l1 (F_slices_MinFunc_flow_Record_flow_Record_fcache_Cache_begin_1_L1 xv1 k120) xv1 m103 m104 m105 m106 m107 m108 m109 m110 m111 m112 m113 m114 m115 m116 i117 = some r := hF
 unfold F_slices_MinFunc_flow_Record_flow_Record_fcache_Cache_begin_1_l1 at hF
 refine KC.seqH fun Q121 hQ121 => ?_
 refine sr fun Q122 hQ122 => ?_
 refine vm rfl rfl ?_
 refine vm rfl rfl ?_
 refine RL.val (O.len sl41 rfl) rfl ?_
 refine RL.val (O.lss rfl rfl) rfl ?_
 refine nt hQ122 ?_
 clear hQ122 Q122
 refine KC.cond rfl (fun hc => ?_) (fun hc => ?_)
 ·rw [if_pos hc] at hF
  refine KC.skip ?_
  refine KQ.thn hQ121 ?_
  clear hQ121 Q121
  refine KC.cut (fun a w151 => ∃ (m137 : Bool) (m138 : List Int) (m139 : Bool) (m140 : List Int) (m141 : Int) (m142 : Int) (m143 : Int) (m144 : Int) (m145 : Int) (m146 : Int) (m147 : Int) (m148 : Int) (m149 : Int) (m150 : Int), Kn 33 [(0, .slice A2 (xv1).length c3), (1, .func (.func 52) #[] #[]), (4, .pointer (some ⟨g6, 0, none⟩)), (5, .pointer (some ⟨g16, 0, none⟩)), (6, vI i117)] a ∧ Mem w [] w151 [.box g6 46 [vB false, o8 (List.replicate 16 0) 0, o8 (List.replicate 16 0) 1, o8 (List.replicate 16 0) 2, o8 (List.replicate 16 0) 3, o8 (List.replicate 16 0) 4, o8 (List.replicate 16 0) 5, o8 (List.replicate 16 0) 6, o8 (List.replicate 16 0) 7, o8 (List.replicate 16 0) 8, o8 (List.replicate 16 0) 9, o8 (List.replicate 16 0) 10, o8 (List.replicate 16 0) 11, o8 (List.replicate 16 0) 12, o8 (List.replicate 16 0) 13, o8 (List.replicate 16 0) 14, o8 (List.replicate 16 0) 15, vB false, o8 (List.replicate 16 0) 0, o8 (List.replicate 16 0) 1, o8 (List.replicate 16 0) 2, o8 (List.replicate 16 0) 3, o8 (List.replicate 16 0) 4, o8 (List.replicate 16 0) 5, o8 (List.replicate 16 0) 6, o8 (List.replicate 16 0) 7, o8 (List.replicate 16 0) 8, o8 (List.replicate 16 0) 9, o8 (List.replicate 16 0) 10, o8 (List.replicate 16 0) 11, o8 (List.replicate 16 0) 12, o8 (List.replicate 16 0) 13, o8 (List.replicate 16 0) 14, o8 (List.replicate 16 0) 15, v8 0, v16 0, v16 0, v64 0, v64 0, v64 0, v64 0, v8 0, v8 0, v8 0], .box g16 46 [vB m137, o8 m138 0, o8 m138 1, o8 m138 2, o8 m138 3, o8 m138 4, o8 m138 5, o8 m138 6, o8 m138 7, o8 m138 8, o8 m138 9, o8 m138 10, o8 m138 11, o8 m138 12, o8 m138 13, o8 m138 14, o8 m138 15, vB m139, o8 m140 0, o8 m140 1, o8 m140 2, o8 m140 3, o8 m140 4, o8 m140 5, o8 m140 6, o8 m140 7, o8 m140 8, o8 m140 9, o8 m140 10, o8 m140 11, o8 m140 12, o8 m140 13, o8 m140 14, o8 m140 15, v8 m141, v16 m142, v16 m143, v64 m144, v64 m145, v64 m146, v64 m147, v8 m148, v8 m149, v8 m150]] ∧ F_slices_MinFunc_flow_Record_flow_Record_fcache_Cache_begin_1_j2 i117 (F_slices_MinFunc_flow_Record_flow_Record_fcache_Cache_begin_1_L1 xv1 k120) m137 m138 m139 m140 m141 m142 m143 m144 m145 m146 m147 m148 m149 m150 = some r) ?_ ?_
  ·refine KC.block ?_
   refine KC.seqH fun Q123 hQ123 => ?_
   replace hM := hM.drewN 1
   refine KC.draw [] [6] [6] [0, 1, 2, 7] (.ofList [0, 1, 2, 3, 4, 5, 6, 7]) moP (by kernel_rfl) ?_
   refine RD.p rfl rfl rfl rfl (fun w' => O.move rfl) ?_
   refine RD.p rfl rfl rfl rfl (fun w' => O.move rfl) ?_
   refine RD.p rfl rfl rfl rfl (fun w' => O.move rfl) ?_
   refine obindE hF fun xv126 hx125 hF => ?_
   have hA124 := Rd.atN (f := e_flow_Record) (s := 44) (fun _ => rfl) (by decide) (hM.inp hr4 Off.nil) hx125
   refine RD.q rfl rfl rfl rfl (fun w' hf => O.idxA sl41 (hA124.fut hf) rfl rfl) ?_
   refine RD.q rfl rfl rfl rfl (fun w' hf => O.loadN (cs := [vB xv126.f_Key.f_Src.f_Six, o8 xv126.f_Key.f_Src.f_B 0, o8 xv126.f_Key.f_Src.f_B 1, o8 xv126.f_Key.f_Src.f_B 2, o8 xv126.f_Key.f_Src.f_B 3, o8 xv126.f_Key.f_Src.f_B 4, o8 xv126.f_Key.f_Src.f_B 5, o8 xv126.f_Key.f_Src.f_B 6, o8 xv126.f_Key.f_Src.f_B 7, o8 xv126.f_Key.f_Src.f_B 8, o8 xv126.f_Key.f_Src.f_B 9, o8 xv126.f_Key.f_Src.f_B 10, o8 xv126.f_Key.f_Src.f_B 11, o8 xv126.f_Key.f_Src.f_B 12, o8 xv126.f_Key.f_Src.f_B 13, o8 xv126.f_Key.f_Src.f_B 14, o8 xv126.f_Key.f_Src.f_B 15, vB xv126.f_Key.f_Dst.f_Six, o8 xv126.f_Key.f_Dst.f_B 0, o8 xv126.f_Key.f_Dst.f_B 1, o8 xv126.f_Key.f_Dst.f_B 2, o8 xv126.f_Key.f_Dst.f_B 3, o8 xv126.f_Key.f_Dst.f_B 4, o8 xv126.f_Key.f_Dst.f_B 5, o8 xv126.f_Key.f_Dst.f_B 6, o8 xv126.f_Key.f_Dst.f_B 7, o8 xv126.f_Key.f_Dst.f_B 8, o8 xv126.f_Key.f_Dst.f_B 9, o8 xv126.f_Key.f_Dst.f_B 10, o8 xv126.f_Key.f_Dst.f_B 11, o8 xv126.f_Key.f_Dst.f_B 12, o8 xv126.f_Key.f_Dst.f_B 13, o8 xv126.f_Key.f_Dst.f_B 14, o8 xv126.f_Key.f_Dst.f_B 15, v8 xv126.f_Key.f_Proto, v16 xv126.f_Key.f_SrcPort, v16 xv126.f_Key.f_DstPort, v64 xv126.f_Packets, v64 xv126.f_Bytes, v64 xv126.f_First, v64 xv126.f_Last, v8 xv126.f_Flags, v8 xv126.f_Reason, v8 xv126.f_Class]) ag46 rfl (hA124.fut hf).cells) ?_
   refine RD.q rfl rfl rfl rfl (fun w' hf => O.loadN (cs := [vB m103, o8 m104 0, o8 m104 1, o8 m104 2, o8 m104 3, o8 m104 4, o8 m104 5, o8 m104 6, o8 m104 7, o8 m104 8, o8 m104 9, o8 m104 10, o8 m104 11, o8 m104 12, o8 m104 13, o8 m104 14, o8 m104 15, vB m105, o8 m106 0, o8 m106 1, o8 m106 2, o8 m106 3, o8 m106 4, o8 m106 5, o8 m106 6, o8 m106 7, o8 m106 8, o8 m106 9, o8 m106 10, o8 m106 11, o8 m106 12, o8 m106 13, o8 m106 14, o8 m106 15, v8 m107, v16 m108, v16 m109, v64 m110, v64 m111, v64 m112, v64 m113, v8 m114, v8 m115, v8 m116]) ag46 rfl (Cs.addsN [] ((hM.bx (i := 1) rfl).fut hf) rfl)) ?_
   refine obindE hF fun y127 hx128 hF => ?_
   refine RD.mcallv rfl rfl trivial (first := []) (captured := []) rfl Try.func52 bd52 rfl rfl (c_cache_Cache_begin_1 _ xv126 (T_flow_Record.mk (T_packet_Key.mk (T_addr_Addr.mk m103 m104) (T_addr_Addr.mk m105 m106) m107 m108 m109) m110 m111 m112 m113 m114 m115 m116) _ hx128) fun v w129 hv => ?_
   obtain ⟨rfl, hN130⟩ := hv
   refine ⟨fun _ => hN130.fut, ?_⟩
   replace hM := hM.call0 hN130
   refine RD.p rfl rfl rfl rfl (fun w' => O.lss rfl rfl) ?_
   refine RD.nil ?_
   refine KQ.thn hQ123 ?_
   clear hQ123 Q123
   refine KC.cond rfl (fun hc => ?_) (fun hc => ?_)
   ·rw [if_pos hc] at hF
    refine KC.region ?_
    refine vm rfl rfl ?_
    refine vm rfl rfl ?_
    refine obindE hF fun xv133 hx132 hF => ?_
    have hA131 := Rd.atN (f := e_flow_Record) (s := 44) (fun _ => rfl) (by decide) (hM.inp hr4 Off.nil) hx132
    refine RL.val (O.idxA sl41 (hA131) rfl rfl) rfl ?_
    refine RL.val (O.loadN (cs := [vB xv133.f_Key.f_Src.f_Six, o8 xv133.f_Key.f_Src.f_B 0, o8 xv133.f_Key.f_Src.f_B 1, o8 xv133.f_Key.f_Src.f_B 2, o8 xv133.f_Key.f_Src.f_B 3, o8 xv133.f_Key.f_Src.f_B 4, o8 xv133.f_Key.f_Src.f_B 5, o8 xv133.f_Key.f_Src.f_B 6, o8 xv133.f_Key.f_Src.f_B 7, o8 xv133.f_Key.f_Src.f_B 8, o8 xv133.f_Key.f_Src.f_B 9, o8 xv133.f_Key.f_Src.f_B 10, o8 xv133.f_Key.f_Src.f_B 11, o8 xv133.f_Key.f_Src.f_B 12, o8 xv133.f_Key.f_Src.f_B 13, o8 xv133.f_Key.f_Src.f_B 14, o8 xv133.f_Key.f_Src.f_B 15, vB xv133.f_Key.f_Dst.f_Six, o8 xv133.f_Key.f_Dst.f_B 0, o8 xv133.f_Key.f_Dst.f_B 1, o8 xv133.f_Key.f_Dst.f_B 2, o8 xv133.f_Key.f_Dst.f_B 3, o8 xv133.f_Key.f_Dst.f_B 4, o8 xv133.f_Key.f_Dst.f_B 5, o8 xv133.f_Key.f_Dst.f_B 6, o8 xv133.f_Key.f_Dst.f_B 7, o8 xv133.f_Key.f_Dst.f_B 8, o8 xv133.f_Key.f_Dst.f_B 9, o8 xv133.f_Key.f_Dst.f_B 10, o8 xv133.f_Key.f_Dst.f_B 11, o8 xv133.f_Key.f_Dst.f_B 12, o8 xv133.f_Key.f_Dst.f_B 13, o8 xv133.f_Key.f_Dst.f_B 14, o8 xv133.f_Key.f_Dst.f_B 15, v8 xv133.f_Key.f_Proto, v16 xv133.f_Key.f_SrcPort, v16 xv133.f_Key.f_DstPort, v64 xv133.f_Packets, v64 xv133.f_Bytes, v64 xv133.f_First, v64 xv133.f_Last, v8 xv133.f_Flags, v8 xv133.f_Reason, v8 xv133.f_Class]) ag46 rfl (hA131).cells) rfl ?_
    refine RL.effs (E.stB (j := 1) (off := 0) (vs := [vB xv133.f_Key.f_Src.f_Six, o8 xv133.f_Key.f_Src.f_B 0, o8 xv133.f_Key.f_Src.f_B 1, o8 xv133.f_Key.f_Src.f_B 2, o8 xv133.f_Key.f_Src.f_B 3, o8 xv133.f_Key.f_Src.f_B 4, o8 xv133.f_Key.f_Src.f_B 5, o8 xv133.f_Key.f_Src.f_B 6, o8 xv133.f_Key.f_Src.f_B 7, o8 xv133.f_Key.f_Src.f_B 8, o8 xv133.f_Key.f_Src.f_B 9, o8 xv133.f_Key.f_Src.f_B 10, o8 xv133.f_Key.f_Src.f_B 11, o8 xv133.f_Key.f_Src.f_B 12, o8 xv133.f_Key.f_Src.f_B 13, o8 xv133.f_Key.f_Src.f_B 14, o8 xv133.f_Key.f_Src.f_B 15, vB xv133.f_Key.f_Dst.f_Six, o8 xv133.f_Key.f_Dst.f_B 0, o8 xv133.f_Key.f_Dst.f_B 1, o8 xv133.f_Key.f_Dst.f_B 2, o8 xv133.f_Key.f_Dst.f_B 3, o8 xv133.f_Key.f_Dst.f_B 4, o8 xv133.f_Key.f_Dst.f_B 5, o8 xv133.f_Key.f_Dst.f_B 6, o8 xv133.f_Key.f_Dst.f_B 7, o8 xv133.f_Key.f_Dst.f_B 8, o8 xv133.f_Key.f_Dst.f_B 9, o8 xv133.f_Key.f_Dst.f_B 10, o8 xv133.f_Key.f_Dst.f_B 11, o8 xv133.f_Key.f_Dst.f_B 12, o8 xv133.f_Key.f_Dst.f_B 13, o8 xv133.f_Key.f_Dst.f_B 14, o8 xv133.f_Key.f_Dst.f_B 15, v8 xv133.f_Key.f_Proto, v16 xv133.f_Key.f_SrcPort, v16 xv133.f_Key.f_DstPort, v64 xv133.f_Packets, v64 xv133.f_Bytes, v64 xv133.f_First, v64 xv133.f_Last, v8 xv133.f_Flags, v8 xv133.f_Reason, v8 xv133.f_Class]) (cs' := [vB xv133.f_Key.f_Src.f_Six, o8 xv133.f_Key.f_Src.f_B 0, o8 xv133.f_Key.f_Src.f_B 1, o8 xv133.f_Key.f_Src.f_B 2, o8 xv133.f_Key.f_Src.f_B 3, o8 xv133.f_Key.f_Src.f_B 4, o8 xv133.f_Key.f_Src.f_B 5, o8 xv133.f_Key.f_Src.f_B 6, o8 xv133.f_Key.f_Src.f_B 7, o8 xv133.f_Key.f_Src.f_B 8, o8 xv133.f_Key.f_Src.f_B 9, o8 xv133.f_Key.f_Src.f_B 10, o8 xv133.f_Key.f_Src.f_B 11, o8 xv133.f_Key.f_Src.f_B 12, o8 xv133.f_Key.f_Src.f_B 13, o8 xv133.f_Key.f_Src.f_B 14, o8 xv133.f_Key.f_Src.f_B 15, vB xv133.f_Key.f_Dst.f_Six, o8 xv133.f_Key.f_Dst.f_B 0, o8 xv133.f_Key.f_Dst.f_B 1, o8 xv133.f_Key.f_Dst.f_B 2, o8 xv133.f_Key.f_Dst.f_B 3, o8 xv133.f_Key.f_Dst.f_B 4, o8 xv133.f_Key.f_Dst.f_B 5, o8 xv133.f_Key.f_Dst.f_B 6, o8 xv133.f_Key.f_Dst.f_B 7, o8 xv133.f_Key.f_Dst.f_B 8, o8 xv133.f_Key.f_Dst.f_B 9, o8 xv133.f_Key.f_Dst.f_B 10, o8 xv133.f_Key.f_Dst.f_B 11, o8 xv133.f_Key.f_Dst.f_B 12, o8 xv133.f_Key.f_Dst.f_B 13, o8 xv133.f_Key.f_Dst.f_B 14, o8 xv133.f_Key.f_Dst.f_B 15, v8 xv133.f_Key.f_Proto, v16 xv133.f_Key.f_SrcPort, v16 xv133.f_Key.f_DstPort, v64 xv133.f_Packets, v64 xv133.f_Bytes, v64 xv133.f_First, v64 xv133.f_Last, v8 xv133.f_Flags, v8 xv133.f_Reason, v8 xv133.f_Class]) hM rfl sz46 rfl (adds_eq [] rfl) rfl rfl (One.all rfl) rfl rfl) fun w134 hM1 => ?_
    clear hM
    have hM := hM1
    clear hM1
    refine RL.nil ?_
    refine KQ.blk_n ?_
    refine KQ.then_k ?_
    exact fun a ha => ⟨xv133.f_Key.f_Src.f_Six, xv133.f_Key.f_Src.f_B, xv133.f_Key.f_Dst.f_Six, xv133.f_Key.f_Dst.f_B, xv133.f_Key.f_Proto, xv133.f_Key.f_SrcPort, xv133.f_Key.f_DstPort, xv133.f_Packets, xv133.f_Bytes, xv133.f_First, xv133.f_Last, xv133.f_Flags, xv133.f_Reason, xv133.f_Class, ha.less (less_cons rfl (less_cons rfl (less_cons rfl (less_cons rfl (less_cons rfl less_nil))))), hM, hF⟩
   rw [if_neg (ne_true hc)] at hF
   refine KC.skip ?_
   refine KQ.blk_n ?_
   refine KQ.then_k ?_
   exact fun a ha => ⟨m103, m104, m105, m106, m107, m108, m109, m110, m111, m112, m113, m114, m115, m116, ha.less (less_cons rfl (less_cons rfl (less_cons rfl (less_cons rfl (less_cons rfl less_nil))))), hM, hF⟩
  rintro a w151 ⟨m137, m138, m139, m140, m141, m142, m143, m144, m145, m146, m147, m148, m149, m150, ha, hM, hF⟩
  refine KC.app ha ?_
  clear ha
  unfold F_slices_MinFunc_flow_Record_flow_Record_fcache_Cache_begin_1_j2 at hF
  refine KC.region ?_
  refine vm rfl rfl ?_
  refine RL.val (O.add rfl rfl) rfl ?_
  refine va rfl rfl ?_
  refine RL.nil ?_
  refine KQ.then_k ?_
  exact fun a ha => ⟨k120, Nat.lt_succ_self k120, m137, m138, m139, m140, m141, m142, m143, m144, m145, m146, m147, m148, m149, m150, (IntKind.i64.wrap (i117 + 1)), ha.less (less_cons rfl (less_cons rfl (less_cons rfl (less_cons rfl (less_cons rfl less_nil))))), hM, hF⟩
 rw [if_neg (ne_true hc)] at hF
 refine KC.exit ?_
 refine KQ.thx hQ121 ?_
 clear hQ121 Q121
 refine KQ.then_x ?_
 refine KQ.blk_x ?_
 refine KQ.thn hQ20 ?_
 clear hQ20 Q20
 refine sr fun Q152 hQ152 => ?_
 refine RL.val (O.loadN (cs := [vB m103, o8 m104 0, o8 m104 1, o8 m104 2, o8 m104 3, o8 m104 4, o8 m104 5, o8 m104 6, o8 m104 7, o8 m104 8, o8 m104 9, o8 m104 10, o8 m104 11, o8 m104 12, o8 m104 13, o8 m104 14, o8 m104 15, vB m105, o8 m106 0, o8 m106 1, o8 m106 2, o8 m106 3, o8 m106 4, o8 m106 5, o8 m106 6, o8 m106 7, o8 m106 8, o8 m106 9, o8 m106 10, o8 m106 11, o8 m106 12, o8 m106 13, o8 m106 14, o8 m106 15, v8 m107, v16 m108, v16 m109, v64 m110, v64 m111, v64 m112, v64 m113, v8 m114, v8 m115, v8 m116]) ag46 rfl (Cs.addsN [] ((hM.bx (i := 1) rfl)) rfl)) rfl ?_
 refine RL.effs (E.stB (j := 0) (off := 0) (vs := [vB m103, o8 m104 0, o8 m104 1, o8 m104 2, o8 m104 3, o8 m104 4, o8 m104 5, o8 m104 6, o8 m104 7, o8 m104 8, o8 m104 9, o8 m104 10, o8 m104 11, o8 m104 12, o8 m104 13, o8 m104 14, o8 m104 15, vB m105, o8 m106 0, o8 m106 1, o8 m106 2, o8 m106 3, o8 m106 4, o8 m106 5, o8 m106 6, o8 m106 7, o8 m106 8, o8 m106 9, o8 m106 10, o8 m106 11, o8 m106 12, o8 m106 13, o8 m106 14, o8 m106 15, v8 m107, v16 m108, v16 m109, v64 m110, v64 m111, v64 m112, v64 m113, v8 m114, v8 m115, v8 m116]) (cs' := [vB m103, o8 m104 0, o8 m104 1, o8 m104 2, o8 m104 3, o8 m104 4, o8 m104 5, o8 m104 6, o8 m104 7, o8 m104 8, o8 m104 9, o8 m104 10, o8 m104 11, o8 m104 12, o8 m104 13, o8 m104 14, o8 m104 15, vB m105, o8 m106 0, o8 m106 1, o8 m106 2, o8 m106 3, o8 m106 4, o8 m106 5, o8 m106 6, o8 m106 7, o8 m106 8, o8 m106 9, o8 m106 10, o8 m106 11, o8 m106 12, o8 m106 13, o8 m106 14, o8 m106 15, v8 m107, v16 m108, v16 m109, v64 m110, v64 m111, v64 m112, v64 m113, v8 m114, v8 m115, v8 m116]) hM rfl sz46 rfl (adds_eq [] rfl) rfl rfl (One.all rfl) rfl rfl) fun w153 hM1 => ?_
 clear hM
 have hM := hM1
 clear hM1
 refine nt hQ152 ?_
 clear hQ152 Q152
 refine KC.ret ?_
 have hE := Option.some.inj hF
 clear hF
 subst hE
 have hb154 := hM.bx (i := 0) rfl
 replace hM := hM.pick [] rfl (by decide)
 refine KQ.rets Try.results51 (RVs.cons (RV.cN (cs := [vB m103, o8 m104 0, o8 m104 1, o8 m104 2, o8 m104 3, o8 m104 4, o8 m104 5, o8 m104 6, o8 m104 7, o8 m104 8, o8 m104 9, o8 m104 10, o8 m104 11, o8 m104 12, o8 m104 13, o8 m104 14, o8 m104 15, vB m105, o8 m106 0, o8 m106 1, o8 m106 2, o8 m106 3, o8 m106 4, o8 m106 5, o8 m106 6, o8 m106 7, o8 m106 8, o8 m106 9, o8 m106 10, o8 m106 11, o8 m106 12, o8 m106 13, o8 m106 14, o8 m106 15, v8 m107, v16 m108, v16 m109, v64 m110, v64 m111, v64 m112, v64 m113, v8 m114, v8 m115, v8 m116]) rfl ag46 hb154) RVs.nil) ?_
 exact ⟨_, rfl, rfl, hM⟩
end Go.Proofs.Ytkpnocgfhipidaa
