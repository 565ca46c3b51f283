/- Printed by a program of this claim: each call returns what the plain function of its name gives. -/
import Derived.Test.YtkpnocgfhipidaaW1
import Derived.Test.YtkpnocgfhipidaaW4
set_option linter.unusedVariables false
namespace Go.Proofs.Ytkpnocgfhipidaa
open Go Go.Ox Go.RowKit
set_option maxRecDepth 100000 in
set_option maxHeartbeats 40000000 in
theorem c_cache_Cache_Next (w : World) (g2 : Nat) (tg12 : TypeId) (cv1 : T_cache_Cache) (g4 : Nat) (A6 : Option Addr) (c7 : Nat) (A9 : Option Addr) (c10 : Nat) (hL13 : Lent w [.box g2 tg12 [v64 cv1.f_tick, vI cv1.f_bounds.f_Flows, v64 cv1.f_bounds.f_Idle, v64 cv1.f_bounds.f_Active, v64 cv1.f_bounds.f_Packets, v64 cv1.f_bounds.f_Bytes, .pointer (some ⟨g4, 0, none⟩), .slice A9 (cv1.f_flows).length c10], .box g4 96 [.slice A6 (cv1.f_places.f_slots).length c7, vI cv1.f_places.f_many], .row A6 c7 102 39 (cv1.f_places.f_slots).length ((cv1.f_places.f_slots).flatMap e_table_Slot), .row A9 c10 46 44 (cv1.f_flows).length ((cv1.f_flows).flatMap e_flow_Record)]) (r : Int × Bool × T_cache_Cache) (hF : F_cache_Cache_Next cv1 = some r) :
  CallsR Try.prog 20 [.pointer (some ⟨g2, 0, none⟩)] w (fun v w' => ∃ (g0 : Nat) (A1 : Option Addr) (c1 : Nat) (A2 : Option Addr) (c2 : Nat), v = .tuple #[v64 r.1, vB r.2.1] ∧ Mem w [some g2, some g4, rblk A6 c7, rblk A9 c10] w' [.box g2 tg12 [v64 r.2.2.f_tick, vI r.2.2.f_bounds.f_Flows, v64 r.2.2.f_bounds.f_Idle, v64 r.2.2.f_bounds.f_Active, v64 r.2.2.f_bounds.f_Packets, v64 r.2.2.f_bounds.f_Bytes, .pointer (some ⟨g0, 0, none⟩), .slice A2 (r.2.2.f_flows).length c2], .box g0 96 [.slice A1 (r.2.2.f_places.f_slots).length c1, vI r.2.2.f_places.f_many], .row A1 c1 102 39 r.2.2.f_places.f_slots.length (r.2.2.f_places.f_slots.flatMap e_table_Slot), .row A2 c2 46 44 r.2.2.f_flows.length (r.2.2.f_flows.flatMap e_flow_Record)]) := by
 refine calls_KC Try.func20 rfl Try.ntmps20 rfl ?_
 have hM : Mem w [some g2, some g4, rblk A6 c7, rblk A9 c10] w [.box g2 tg12 [v64 cv1.f_tick, vI cv1.f_bounds.f_Flows, v64 cv1.f_bounds.f_Idle, v64 cv1.f_bounds.f_Active, v64 cv1.f_bounds.f_Packets, v64 cv1.f_bounds.f_Bytes, .pointer (some ⟨g4, 0, none⟩), .slice A9 (cv1.f_flows).length c10], .box g4 96 [.slice A6 (cv1.f_places.f_slots).length c7, vI cv1.f_places.f_many], .row A6 c7 102 39 (cv1.f_places.f_slots).length ((cv1.f_places.f_slots).flatMap e_table_Slot), .row A9 c10 46 44 (cv1.f_flows).length ((cv1.f_flows).flatMap e_flow_Record)] := Mem.lendN hL13
 unfold F_cache_Cache_Next at hF
 refine sr fun Q14 hQ14 => ?_
 refine va rfl rfl ?_
 refine va rfl rfl ?_
 refine nt hQ14 ?_
 clear hQ14 Q14
 refine KC.seqH fun Q15 hQ15 => ?_
 refine sr fun Q16 hQ16 => ?_
 refine vm rfl rfl ?_
 refine RL.val (O.peqn Try.underlying27 rfl rfl) rfl ?_
 refine nt hQ16 ?_
 clear hQ16 Q16
 refine KC.condF rfl ?_
 refine KC.skip ?_
 refine KQ.thn hQ15 ?_
 clear hQ15 Q15
 refine KC.seqH fun Q17 hQ17 => ?_
 refine sr fun Q18 hQ18 => ?_
 refine vm rfl rfl ?_
 refine RL.val (O.nilp rfl) rfl ?_
 refine RL.val (O.fldA fl74_3 (by decide) rfl) rfl ?_
 refine RL.val (O.load sc41 rfl (Cs.adds [7] ((hM.bx (i := 0) rfl)) rfl)) rfl ?_
 refine RL.val (O.len sl41 rfl) rfl ?_
 refine vm rfl rfl ?_
 refine nt hQ18 ?_
 clear hQ18 Q18
 refine KC.block ?_
 refine KC.loop (fun k89 a w87 => ∃ (atv84 : Int) (ok85 : Bool) (t86 : Int), Kn 32 [(0, .pointer (some ⟨g2, 0, none⟩)), (2, v64 atv84), (3, vB ok85), (12, .slice A9 (cv1.f_flows).length c10), (13, vI (cv1.f_flows.length : Int)), (14, vI t86)] a ∧ Mem w [some g2, some g4, rblk A6 c7, rblk A9 c10] w87 [.row A6 c7 102 39 (cv1.f_places.f_slots).length ((cv1.f_places.f_slots).flatMap e_table_Slot), .box g4 96 [.slice A6 (cv1.f_places.f_slots).length c7, vI cv1.f_places.f_many], .row A9 c10 46 44 (cv1.f_flows).length ((cv1.f_flows).flatMap e_flow_Record), .box g2 tg12 [v64 cv1.f_tick, vI cv1.f_bounds.f_Flows, v64 cv1.f_bounds.f_Idle, v64 cv1.f_bounds.f_Active, v64 cv1.f_bounds.f_Packets, v64 cv1.f_bounds.f_Bytes, .pointer (some ⟨g4, 0, none⟩), .slice A9 (cv1.f_flows).length c10]] ∧ F_cache_Cache_Next_L1 cv1 k89 atv84 ok85 t86 = some r) ?_ ?_
 ·replace hM := hM.pick [2, 1, 3, 0] rfl (by decide)
  exact fun a ha => ⟨fuel0, 0, false, 0, ha.less (less_cons rfl (less_cons rfl (less_cons rfl (less_cons rfl (less_cons rfl (less_cons rfl less_nil)))))), hM, hF⟩
 rintro k89 a w87 ⟨atv84, ok85, t86, ha, hM, hF⟩
 refine KC.app ha ?_
 clear ha
 cases k89 with
 | zero => exact (none_some hF).elim
 | succ k89 =>
 have hF : F_cache_Cache_Next_l1 (F_cache_Cache_Next_L1 cv1 k89) cv1 atv84 ok85 t86 = some r := hF
 unfold F_cache_Cache_Next_l1 at hF
 refine sr fun Q90 hQ90 => ?_
 refine RL.val (O.lss rfl rfl) rfl ?_
 refine nt hQ90 ?_
 clear hQ90 Q90
 refine KC.seqH fun Q91 hQ91 => ?_
 refine KC.cond rfl (fun hc => ?_) (fun hc => ?_)
 ·rw [if_pos hc] at hF
  refine KC.skip ?_
  refine KQ.thn hQ91 ?_
  clear hQ91 Q91
  refine KC.cut (fun a w117 => ∃ (atv115 : Int) (ok116 : Bool), Kn 32 [(0, .pointer (some ⟨g2, 0, none⟩)), (2, v64 atv115), (3, vB ok116), (12, .slice A9 (cv1.f_flows).length c10), (13, vI (cv1.f_flows.length : Int)), (14, vI t86)] a ∧ Mem w [some g2, some g4, rblk A6 c7, rblk A9 c10] w117 [.row A6 c7 102 39 (cv1.f_places.f_slots).length ((cv1.f_places.f_slots).flatMap e_table_Slot), .box g4 96 [.slice A6 (cv1.f_places.f_slots).length c7, vI cv1.f_places.f_many], .row A9 c10 46 44 (cv1.f_flows).length ((cv1.f_flows).flatMap e_flow_Record), .box g2 tg12 [v64 cv1.f_tick, vI cv1.f_bounds.f_Flows, v64 cv1.f_bounds.f_Idle, v64 cv1.f_bounds.f_Active, v64 cv1.f_bounds.f_Packets, v64 cv1.f_bounds.f_Bytes, .pointer (some ⟨g4, 0, none⟩), .slice A9 (cv1.f_flows).length c10]] ∧ F_cache_Cache_Next_j1 t86 (F_cache_Cache_Next_L1 cv1 k89) atv115 ok116 = some r) ?_ ?_
  ·refine KC.block ?_
   refine sr fun Q92 hQ92 => ?_
   refine obindE hF fun xv95 hx94 hF => ?_
   have hA93 := Rd.atN (f := e_flow_Record) (s := 44) (fun _ => rfl) (by decide) (hM.rd (i := 2) rfl) hx94
   refine RL.val (O.idxA sl41 (hA93) rfl rfl) rfl ?_
   refine RL.val (O.loadN (cs := [vB xv95.f_Key.f_Src.f_Six, o8 xv95.f_Key.f_Src.f_B 0, o8 xv95.f_Key.f_Src.f_B 1, o8 xv95.f_Key.f_Src.f_B 2, o8 xv95.f_Key.f_Src.f_B 3, o8 xv95.f_Key.f_Src.f_B 4, o8 xv95.f_Key.f_Src.f_B 5, o8 xv95.f_Key.f_Src.f_B 6, o8 xv95.f_Key.f_Src.f_B 7, o8 xv95.f_Key.f_Src.f_B 8, o8 xv95.f_Key.f_Src.f_B 9, o8 xv95.f_Key.f_Src.f_B 10, o8 xv95.f_Key.f_Src.f_B 11, o8 xv95.f_Key.f_Src.f_B 12, o8 xv95.f_Key.f_Src.f_B 13, o8 xv95.f_Key.f_Src.f_B 14, o8 xv95.f_Key.f_Src.f_B 15, vB xv95.f_Key.f_Dst.f_Six, o8 xv95.f_Key.f_Dst.f_B 0, o8 xv95.f_Key.f_Dst.f_B 1, o8 xv95.f_Key.f_Dst.f_B 2, o8 xv95.f_Key.f_Dst.f_B 3, o8 xv95.f_Key.f_Dst.f_B 4, o8 xv95.f_Key.f_Dst.f_B 5, o8 xv95.f_Key.f_Dst.f_B 6, o8 xv95.f_Key.f_Dst.f_B 7, o8 xv95.f_Key.f_Dst.f_B 8, o8 xv95.f_Key.f_Dst.f_B 9, o8 xv95.f_Key.f_Dst.f_B 10, o8 xv95.f_Key.f_Dst.f_B 11, o8 xv95.f_Key.f_Dst.f_B 12, o8 xv95.f_Key.f_Dst.f_B 13, o8 xv95.f_Key.f_Dst.f_B 14, o8 xv95.f_Key.f_Dst.f_B 15, v8 xv95.f_Key.f_Proto, v16 xv95.f_Key.f_SrcPort, v16 xv95.f_Key.f_DstPort, v64 xv95.f_Packets, v64 xv95.f_Bytes, v64 xv95.f_First, v64 xv95.f_Last, v8 xv95.f_Flags, v8 xv95.f_Reason, v8 xv95.f_Class]) ag46 rfl (hA93).cells) rfl ?_
   refine RL.eff (E.alloc hM ze46) rfl fun v w97 hv => ?_
   clear hM
   obtain ⟨g96, rfl, hM, hf⟩ := hv
   refine RL.effs (E.stB (j := 4) (off := 0) (vs := [vB xv95.f_Key.f_Src.f_Six, o8 xv95.f_Key.f_Src.f_B 0, o8 xv95.f_Key.f_Src.f_B 1, o8 xv95.f_Key.f_Src.f_B 2, o8 xv95.f_Key.f_Src.f_B 3, o8 xv95.f_Key.f_Src.f_B 4, o8 xv95.f_Key.f_Src.f_B 5, o8 xv95.f_Key.f_Src.f_B 6, o8 xv95.f_Key.f_Src.f_B 7, o8 xv95.f_Key.f_Src.f_B 8, o8 xv95.f_Key.f_Src.f_B 9, o8 xv95.f_Key.f_Src.f_B 10, o8 xv95.f_Key.f_Src.f_B 11, o8 xv95.f_Key.f_Src.f_B 12, o8 xv95.f_Key.f_Src.f_B 13, o8 xv95.f_Key.f_Src.f_B 14, o8 xv95.f_Key.f_Src.f_B 15, vB xv95.f_Key.f_Dst.f_Six, o8 xv95.f_Key.f_Dst.f_B 0, o8 xv95.f_Key.f_Dst.f_B 1, o8 xv95.f_Key.f_Dst.f_B 2, o8 xv95.f_Key.f_Dst.f_B 3, o8 xv95.f_Key.f_Dst.f_B 4, o8 xv95.f_Key.f_Dst.f_B 5, o8 xv95.f_Key.f_Dst.f_B 6, o8 xv95.f_Key.f_Dst.f_B 7, o8 xv95.f_Key.f_Dst.f_B 8, o8 xv95.f_Key.f_Dst.f_B 9, o8 xv95.f_Key.f_Dst.f_B 10, o8 xv95.f_Key.f_Dst.f_B 11, o8 xv95.f_Key.f_Dst.f_B 12, o8 xv95.f_Key.f_Dst.f_B 13, o8 xv95.f_Key.f_Dst.f_B 14, o8 xv95.f_Key.f_Dst.f_B 15, v8 xv95.f_Key.f_Proto, v16 xv95.f_Key.f_SrcPort, v16 xv95.f_Key.f_DstPort, v64 xv95.f_Packets, v64 xv95.f_Bytes, v64 xv95.f_First, v64 xv95.f_Last, v8 xv95.f_Flags, v8 xv95.f_Reason, v8 xv95.f_Class]) (cs' := [vB xv95.f_Key.f_Src.f_Six, o8 xv95.f_Key.f_Src.f_B 0, o8 xv95.f_Key.f_Src.f_B 1, o8 xv95.f_Key.f_Src.f_B 2, o8 xv95.f_Key.f_Src.f_B 3, o8 xv95.f_Key.f_Src.f_B 4, o8 xv95.f_Key.f_Src.f_B 5, o8 xv95.f_Key.f_Src.f_B 6, o8 xv95.f_Key.f_Src.f_B 7, o8 xv95.f_Key.f_Src.f_B 8, o8 xv95.f_Key.f_Src.f_B 9, o8 xv95.f_Key.f_Src.f_B 10, o8 xv95.f_Key.f_Src.f_B 11, o8 xv95.f_Key.f_Src.f_B 12, o8 xv95.f_Key.f_Src.f_B 13, o8 xv95.f_Key.f_Src.f_B 14, o8 xv95.f_Key.f_Src.f_B 15, vB xv95.f_Key.f_Dst.f_Six, o8 xv95.f_Key.f_Dst.f_B 0, o8 xv95.f_Key.f_Dst.f_B 1, o8 xv95.f_Key.f_Dst.f_B 2, o8 xv95.f_Key.f_Dst.f_B 3, o8 xv95.f_Key.f_Dst.f_B 4, o8 xv95.f_Key.f_Dst.f_B 5, o8 xv95.f_Key.f_Dst.f_B 6, o8 xv95.f_Key.f_Dst.f_B 7, o8 xv95.f_Key.f_Dst.f_B 8, o8 xv95.f_Key.f_Dst.f_B 9, o8 xv95.f_Key.f_Dst.f_B 10, o8 xv95.f_Key.f_Dst.f_B 11, o8 xv95.f_Key.f_Dst.f_B 12, o8 xv95.f_Key.f_Dst.f_B 13, o8 xv95.f_Key.f_Dst.f_B 14, o8 xv95.f_Key.f_Dst.f_B 15, v8 xv95.f_Key.f_Proto, v16 xv95.f_Key.f_SrcPort, v16 xv95.f_Key.f_DstPort, v64 xv95.f_Packets, v64 xv95.f_Bytes, v64 xv95.f_First, v64 xv95.f_Last, v8 xv95.f_Flags, v8 xv95.f_Reason, v8 xv95.f_Class]) hM rfl sz46 rfl (adds_eq [] rfl) rfl rfl (One.all rfl) rfl rfl) fun w99 hM1 => ?_
   clear hM
   have hM := hM1
   clear hM1
   refine nt hQ92 ?_
   clear hQ92 Q92
   refine sr fun Q100 hQ100 => ?_
   refine vm rfl rfl ?_
   refine RL.val (O.loadN (cs := [vB xv95.f_Key.f_Src.f_Six, o8 xv95.f_Key.f_Src.f_B 0, o8 xv95.f_Key.f_Src.f_B 1, o8 xv95.f_Key.f_Src.f_B 2, o8 xv95.f_Key.f_Src.f_B 3, o8 xv95.f_Key.f_Src.f_B 4, o8 xv95.f_Key.f_Src.f_B 5, o8 xv95.f_Key.f_Src.f_B 6, o8 xv95.f_Key.f_Src.f_B 7, o8 xv95.f_Key.f_Src.f_B 8, o8 xv95.f_Key.f_Src.f_B 9, o8 xv95.f_Key.f_Src.f_B 10, o8 xv95.f_Key.f_Src.f_B 11, o8 xv95.f_Key.f_Src.f_B 12, o8 xv95.f_Key.f_Src.f_B 13, o8 xv95.f_Key.f_Src.f_B 14, o8 xv95.f_Key.f_Src.f_B 15, vB xv95.f_Key.f_Dst.f_Six, o8 xv95.f_Key.f_Dst.f_B 0, o8 xv95.f_Key.f_Dst.f_B 1, o8 xv95.f_Key.f_Dst.f_B 2, o8 xv95.f_Key.f_Dst.f_B 3, o8 xv95.f_Key.f_Dst.f_B 4, o8 xv95.f_Key.f_Dst.f_B 5, o8 xv95.f_Key.f_Dst.f_B 6, o8 xv95.f_Key.f_Dst.f_B 7, o8 xv95.f_Key.f_Dst.f_B 8, o8 xv95.f_Key.f_Dst.f_B 9, o8 xv95.f_Key.f_Dst.f_B 10, o8 xv95.f_Key.f_Dst.f_B 11, o8 xv95.f_Key.f_Dst.f_B 12, o8 xv95.f_Key.f_Dst.f_B 13, o8 xv95.f_Key.f_Dst.f_B 14, o8 xv95.f_Key.f_Dst.f_B 15, v8 xv95.f_Key.f_Proto, v16 xv95.f_Key.f_SrcPort, v16 xv95.f_Key.f_DstPort, v64 xv95.f_Packets, v64 xv95.f_Bytes, v64 xv95.f_First, v64 xv95.f_Last, v8 xv95.f_Flags, v8 xv95.f_Reason, v8 xv95.f_Class]) ag46 rfl (Cs.addsN [] ((hM.bx (i := 4) rfl)) rfl)) rfl ?_
   refine obindE hF fun y101 hx102 hF => ?_
   refine RL.call Try.func31 bd31 rfl rfl (c_cache_Cache_due _ _ _ cv1 _ _ (hM.lent [3] rfl (by decide)) xv95 _ hx102) fun v w103 hv => ?_
   obtain ⟨rfl, hN104⟩ := hv
   replace hM := hM.call0 hN104
   refine va rfl rfl ?_
   refine nt hQ100 ?_
   clear hQ100 Q100
   replace hM := hM.pick [0, 1, 2, 3] rfl (by decide)
   refine KC.cut (fun a w110 => ∃ (t109 : Bool), Kn 32 [(0, .pointer (some ⟨g2, 0, none⟩)), (2, v64 atv84), (3, vB ok85), (6, v64 y101), (12, .slice A9 (cv1.f_flows).length c10), (13, vI (cv1.f_flows.length : Int)), (14, vI t86), (27, vB t109)] a ∧ Mem w [some g2, some g4, rblk A6 c7, rblk A9 c10] w110 [.row A6 c7 102 39 (cv1.f_places.f_slots).length ((cv1.f_places.f_slots).flatMap e_table_Slot), .box g4 96 [.slice A6 (cv1.f_places.f_slots).length c7, vI cv1.f_places.f_many], .row A9 c10 46 44 (cv1.f_flows).length ((cv1.f_flows).flatMap e_flow_Record), .box g2 tg12 [v64 cv1.f_tick, vI cv1.f_bounds.f_Flows, v64 cv1.f_bounds.f_Idle, v64 cv1.f_bounds.f_Active, v64 cv1.f_bounds.f_Packets, v64 cv1.f_bounds.f_Bytes, .pointer (some ⟨g4, 0, none⟩), .slice A9 (cv1.f_flows).length c10]] ∧ F_cache_Cache_Next_j2 atv84 ok85 t86 (F_cache_Cache_Next_L1 cv1 k89) y101 t109 = some r) ?_ ?_
   ·refine KC.region ?_
    refine vm rfl rfl ?_
    refine RL.val (O.not rfl) rfl ?_
    refine vm rfl rfl ?_
    refine RL.bcase (t := 23) rfl (fun hc => ?_) (fun hc => ?_)
    ·rw [if_pos hc] at hF
     refine RL.gskip rfl rfl rfl rfl ?_
     refine RL.gskip rfl rfl rfl rfl ?_
     refine RL.gskip rfl rfl rfl rfl ?_
     refine RL.val (O.pickt rfl rfl) rfl ?_
     refine RL.nil ?_
     refine KQ.then_k ?_
     exact fun a ha => ⟨true, ha.less (less_cons rfl (less_cons rfl (less_cons rfl (less_cons rfl (less_cons rfl (less_cons rfl (less_cons rfl (less_cons rfl less_nil)))))))), hM, hF⟩
    rw [if_neg (ne_true hc)] at hF
    refine RL.gval rfl rfl (O.move rfl) rfl ?_
    refine RL.gval rfl rfl (O.move rfl) rfl ?_
    refine RL.gval rfl rfl (O.lss rfl rfl) rfl ?_
    refine RL.val (O.pickf rfl rfl) rfl ?_
    refine RL.nil ?_
    refine KQ.then_k ?_
    exact fun a ha => ⟨(decide (y101 < atv84)), ha.less (less_cons rfl (less_cons rfl (less_cons rfl (less_cons rfl (less_cons rfl (less_cons rfl (less_cons rfl (less_cons rfl less_nil)))))))), hM, hF⟩
   rintro a w110 ⟨t109, ha, hM, hF⟩
   refine KC.app ha ?_
   clear ha
   unfold F_cache_Cache_Next_j2 at hF
   refine KC.cond rfl (fun hc => ?_) (fun hc => ?_)
   ·rw [if_pos hc] at hF
    refine KC.region ?_
    refine vm rfl rfl ?_
    refine va rfl rfl ?_
    refine va rfl rfl ?_
    refine RL.nil ?_
    refine KQ.blk_n ?_
    refine KQ.then_k ?_
    exact fun a ha => ⟨y101, true, ha.less (less_cons rfl (less_cons rfl (less_cons rfl (less_cons rfl (less_cons rfl (less_cons rfl less_nil)))))), hM, hF⟩
   rw [if_neg (ne_true hc)] at hF
   refine KC.skip ?_
   refine KQ.blk_n ?_
   refine KQ.then_k ?_
   exact fun a ha => ⟨atv84, ok85, ha.less (less_cons rfl (less_cons rfl (less_cons rfl (less_cons rfl (less_cons rfl (less_cons rfl less_nil)))))), hM, hF⟩
  rintro a w117 ⟨atv115, ok116, ha, hM, hF⟩
  refine KC.app ha ?_
  clear ha
  unfold F_cache_Cache_Next_j1 at hF
  refine KC.region ?_
  refine RL.val (O.add rfl rfl) rfl ?_
  refine vm rfl rfl ?_
  refine RL.nil ?_
  refine KQ.then_k ?_
  exact fun a ha => ⟨k89, Nat.lt_succ_self k89, atv115, ok116, (IntKind.i64.wrap (t86 + 1)), ha.less (less_cons rfl (less_cons rfl (less_cons rfl (less_cons rfl (less_cons rfl (less_cons rfl less_nil)))))), hM, hF⟩
 rw [if_neg (ne_true hc)] at hF
 refine KC.exit ?_
 refine KQ.thx hQ91 ?_
 clear hQ91 Q91
 refine KQ.then_x ?_
 refine KQ.blk_x ?_
 refine KQ.thn hQ17 ?_
 clear hQ17 Q17
 refine sr fun Q118 hQ118 => ?_
 refine vm rfl rfl ?_
 refine vm rfl rfl ?_
 refine va rfl rfl ?_
 refine va rfl rfl ?_
 refine nt hQ118 ?_
 clear hQ118 Q118
 refine KC.ret ?_
 have hE := Option.some.inj hF
 clear hF
 subst hE
 replace hM := hM.pick [3, 1, 0, 2] rfl (by decide)
 refine KQ.rets Try.results20 (RVs.cons (RV.tm rfl) (RVs.cons (RV.tm rfl) RVs.nil)) ?_
 exact ⟨_, rfl, g4, A6, c7, A9, c10, rfl, hM⟩
end Go.Proofs.Ytkpnocgfhipidaa
