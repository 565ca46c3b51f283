/- Printed by a program of this claim: each call returns what the plain function of its name gives. -/
import Derived.Test.YtkpnocgfhipidaaW1
import Derived.Test.YtkpnocgfhipidaaW3
import Derived.Test.YtkpnocgfhipidaaW4
import Derived.Test.YtkpnocgfhipidaaW5
import Derived.Test.YtkpnocgfhipidaaW6
import Derived.Test.YtkpnocgfhipidaaSrt
set_option linter.unusedVariables false
namespace Go.Proofs.Ytkpnocgfhipidaa
open Go Go.Ox Go.RowKit
set_option maxRecDepth 100000 in
set_option maxHeartbeats 40000000 in
theorem c_slices_SortFunc_flow_Record_flow_Record_cache_Cache_Advance_1 (w : World) (A : Option Addr) (c : Nat) (xs : List T_flow_Record) (g4 : Nat) (tg11 : TypeId) (cv3 : T_cache_Cache) (g6 : Nat) (tg8 : TypeId) (vo9 : Value) (vo10 : Value) (hL : Lent w [.row A c 46 44 xs.length (xs.flatMap e_flow_Record), .box g4 tg11 [.pointer (some ⟨g6, 0, none⟩)], .box g6 tg8 [v64 cv3.f_tick, vI cv3.f_bounds.f_Flows, v64 cv3.f_bounds.f_Idle, v64 cv3.f_bounds.f_Active, v64 cv3.f_bounds.f_Packets, v64 cv3.f_bounds.f_Bytes, vo9, vo10]]) (r : List T_flow_Record) (hF : F_slices_SortFunc_flow_Record_flow_Record_cache_Cache_Advance_1 xs cv3 = some r) :
  CallsR Try.prog 32 [.slice A xs.length c, .func (.func 33) #[] #[.pointer (some ⟨g4, 0, none⟩)]] w (fun v w' => v = .tuple #[] ∧ (xs.length = r.length) ∧ Mem w [rblk A c] w' [.row A c 46 44 r.length (r.flatMap e_flow_Record)]) := by
 unfold F_slices_SortFunc_flow_Record_flow_Record_cache_Cache_Advance_1 at hF
 refine cut_someE hF fun hn hF => ?_
 have hE := Option.some.inj hF
 subst hE
 exact c_srtC (e := 46) (Ls := [.box g4 tg11 [.pointer (some ⟨g6, 0, none⟩)], .box g6 tg8 [v64 cv3.f_tick, vI cv3.f_bounds.f_Flows, v64 cv3.f_bounds.f_Idle, v64 cv3.f_bounds.f_Active, v64 cv3.f_bounds.f_Packets, v64 cv3.f_bounds.f_Bytes, vo9, vo10]]) lsort32 ag46 (fun _ => rfl) (fun _ => One.all rfl) rfl (swo_cache_Cache_Advance_1 cv3) Try.func33 bd33 (cb := [.pointer (some ⟨g4, 0, none⟩)]) hL rfl (of_decide_eq_true hn) (fun w1 hB x y => c_cache_Cache_Advance_1 w1 g4 tg11 cv3 g6 tg8 vo9 vo10 hB x y _ (tot_cache_Cache_Advance_1 cv3 x y))
set_option maxRecDepth 100000 in
set_option maxHeartbeats 40000000 in
theorem c_cache_Cache_Advance_2_B (w : World) (g3 : Nat) (tg10 : TypeId) (cv2 : T_cache_Cache) (g5 : Nat) (tg7 : TypeId) (vo8 : Value) (vo9 : Value) (hL11 : Lent w [.box g3 tg10 [.pointer (some ⟨g5, 0, none⟩)], .box g5 tg7 [v64 cv2.f_tick, vI cv2.f_bounds.f_Flows, v64 cv2.f_bounds.f_Idle, v64 cv2.f_bounds.f_Active, v64 cv2.f_bounds.f_Packets, v64 cv2.f_bounds.f_Bytes, vo8, vo9]]) (rv1 : T_flow_Record) (r : Int) (hF : F_cache_Cache_Advance_2 rv1 cv2 = some r) :
  CallsR Try.prog 38 [.agg #[vB rv1.f_Key.f_Src.f_Six, o8 rv1.f_Key.f_Src.f_B 0, o8 rv1.f_Key.f_Src.f_B 1, o8 rv1.f_Key.f_Src.f_B 2, o8 rv1.f_Key.f_Src.f_B 3, o8 rv1.f_Key.f_Src.f_B 4, o8 rv1.f_Key.f_Src.f_B 5, o8 rv1.f_Key.f_Src.f_B 6, o8 rv1.f_Key.f_Src.f_B 7, o8 rv1.f_Key.f_Src.f_B 8, o8 rv1.f_Key.f_Src.f_B 9, o8 rv1.f_Key.f_Src.f_B 10, o8 rv1.f_Key.f_Src.f_B 11, o8 rv1.f_Key.f_Src.f_B 12, o8 rv1.f_Key.f_Src.f_B 13, o8 rv1.f_Key.f_Src.f_B 14, o8 rv1.f_Key.f_Src.f_B 15, vB rv1.f_Key.f_Dst.f_Six, o8 rv1.f_Key.f_Dst.f_B 0, o8 rv1.f_Key.f_Dst.f_B 1, o8 rv1.f_Key.f_Dst.f_B 2, o8 rv1.f_Key.f_Dst.f_B 3, o8 rv1.f_Key.f_Dst.f_B 4, o8 rv1.f_Key.f_Dst.f_B 5, o8 rv1.f_Key.f_Dst.f_B 6, o8 rv1.f_Key.f_Dst.f_B 7, o8 rv1.f_Key.f_Dst.f_B 8, o8 rv1.f_Key.f_Dst.f_B 9, o8 rv1.f_Key.f_Dst.f_B 10, o8 rv1.f_Key.f_Dst.f_B 11, o8 rv1.f_Key.f_Dst.f_B 12, o8 rv1.f_Key.f_Dst.f_B 13, o8 rv1.f_Key.f_Dst.f_B 14, o8 rv1.f_Key.f_Dst.f_B 15, v8 rv1.f_Key.f_Proto, v16 rv1.f_Key.f_SrcPort, v16 rv1.f_Key.f_DstPort, v64 rv1.f_Packets, v64 rv1.f_Bytes, v64 rv1.f_First, v64 rv1.f_Last, v8 rv1.f_Flags, v8 rv1.f_Reason, v8 rv1.f_Class], .pointer (some ⟨g3, 0, none⟩)] w (fun v w' => v = v8 r ∧ Mem w [some g3, some g5] w' [.box g3 tg10 [.pointer (some ⟨g5, 0, none⟩)], .box g5 tg7 [v64 cv2.f_tick, vI cv2.f_bounds.f_Flows, v64 cv2.f_bounds.f_Idle, v64 cv2.f_bounds.f_Active, v64 cv2.f_bounds.f_Packets, v64 cv2.f_bounds.f_Bytes, vo8, vo9]]) := by
 refine calls_KC Try.func38 rfl Try.ntmps38 rfl ?_
 have hM : Mem w [some g3, some g5] w [.box g3 tg10 [.pointer (some ⟨g5, 0, none⟩)], .box g5 tg7 [v64 cv2.f_tick, vI cv2.f_bounds.f_Flows, v64 cv2.f_bounds.f_Idle, v64 cv2.f_bounds.f_Active, v64 cv2.f_bounds.f_Packets, v64 cv2.f_bounds.f_Bytes, vo8, vo9]] := Mem.lendN hL11
 unfold F_cache_Cache_Advance_2 at hF
 refine sr fun Q12 hQ12 => ?_
 refine RL.eff (E.box (vs := [vB rv1.f_Key.f_Src.f_Six, o8 rv1.f_Key.f_Src.f_B 0, o8 rv1.f_Key.f_Src.f_B 1, o8 rv1.f_Key.f_Src.f_B 2, o8 rv1.f_Key.f_Src.f_B 3, o8 rv1.f_Key.f_Src.f_B 4, o8 rv1.f_Key.f_Src.f_B 5, o8 rv1.f_Key.f_Src.f_B 6, o8 rv1.f_Key.f_Src.f_B 7, o8 rv1.f_Key.f_Src.f_B 8, o8 rv1.f_Key.f_Src.f_B 9, o8 rv1.f_Key.f_Src.f_B 10, o8 rv1.f_Key.f_Src.f_B 11, o8 rv1.f_Key.f_Src.f_B 12, o8 rv1.f_Key.f_Src.f_B 13, o8 rv1.f_Key.f_Src.f_B 14, o8 rv1.f_Key.f_Src.f_B 15, vB rv1.f_Key.f_Dst.f_Six, o8 rv1.f_Key.f_Dst.f_B 0, o8 rv1.f_Key.f_Dst.f_B 1, o8 rv1.f_Key.f_Dst.f_B 2, o8 rv1.f_Key.f_Dst.f_B 3, o8 rv1.f_Key.f_Dst.f_B 4, o8 rv1.f_Key.f_Dst.f_B 5, o8 rv1.f_Key.f_Dst.f_B 6, o8 rv1.f_Key.f_Dst.f_B 7, o8 rv1.f_Key.f_Dst.f_B 8, o8 rv1.f_Key.f_Dst.f_B 9, o8 rv1.f_Key.f_Dst.f_B 10, o8 rv1.f_Key.f_Dst.f_B 11, o8 rv1.f_Key.f_Dst.f_B 12, o8 rv1.f_Key.f_Dst.f_B 13, o8 rv1.f_Key.f_Dst.f_B 14, o8 rv1.f_Key.f_Dst.f_B 15, v8 rv1.f_Key.f_Proto, v16 rv1.f_Key.f_SrcPort, v16 rv1.f_Key.f_DstPort, v64 rv1.f_Packets, v64 rv1.f_Bytes, v64 rv1.f_First, v64 rv1.f_Last, v8 rv1.f_Flags, v8 rv1.f_Reason, v8 rv1.f_Class]) hM rfl rfl) rfl fun v w14 hv => ?_
 clear hM
 obtain ⟨g13, rfl, hM, hf⟩ := hv
 refine va rfl rfl ?_
 refine nt hQ12 ?_
 clear hQ12 Q12
 refine KC.seqH fun Q16 hQ16 => ?_
 refine KC.seqH fun Q17 hQ17 => ?_
 replace hM := hM.drewN 1
 refine KC.draw [] [] [2, 5] [6] (.ofList [0, 1, 3, 4, 2, 5, 6]) moP (by kernel_rfl) ?_
 refine RD.q rfl rfl rfl rfl (fun w' hf => O.load sc27 rfl (Cs.adds [] ((hM.bx (i := 0) rfl).fut hf) rfl)) ?_
 refine RD.q rfl rfl rfl rfl (fun w' hf => O.loadN (cs := [vB rv1.f_Key.f_Src.f_Six, o8 rv1.f_Key.f_Src.f_B 0, o8 rv1.f_Key.f_Src.f_B 1, o8 rv1.f_Key.f_Src.f_B 2, o8 rv1.f_Key.f_Src.f_B 3, o8 rv1.f_Key.f_Src.f_B 4, o8 rv1.f_Key.f_Src.f_B 5, o8 rv1.f_Key.f_Src.f_B 6, o8 rv1.f_Key.f_Src.f_B 7, o8 rv1.f_Key.f_Src.f_B 8, o8 rv1.f_Key.f_Src.f_B 9, o8 rv1.f_Key.f_Src.f_B 10, o8 rv1.f_Key.f_Src.f_B 11, o8 rv1.f_Key.f_Src.f_B 12, o8 rv1.f_Key.f_Src.f_B 13, o8 rv1.f_Key.f_Src.f_B 14, o8 rv1.f_Key.f_Src.f_B 15, vB rv1.f_Key.f_Dst.f_Six, o8 rv1.f_Key.f_Dst.f_B 0, o8 rv1.f_Key.f_Dst.f_B 1, o8 rv1.f_Key.f_Dst.f_B 2, o8 rv1.f_Key.f_Dst.f_B 3, o8 rv1.f_Key.f_Dst.f_B 4, o8 rv1.f_Key.f_Dst.f_B 5, o8 rv1.f_Key.f_Dst.f_B 6, o8 rv1.f_Key.f_Dst.f_B 7, o8 rv1.f_Key.f_Dst.f_B 8, o8 rv1.f_Key.f_Dst.f_B 9, o8 rv1.f_Key.f_Dst.f_B 10, o8 rv1.f_Key.f_Dst.f_B 11, o8 rv1.f_Key.f_Dst.f_B 12, o8 rv1.f_Key.f_Dst.f_B 13, o8 rv1.f_Key.f_Dst.f_B 14, o8 rv1.f_Key.f_Dst.f_B 15, v8 rv1.f_Key.f_Proto, v16 rv1.f_Key.f_SrcPort, v16 rv1.f_Key.f_DstPort, v64 rv1.f_Packets, v64 rv1.f_Bytes, v64 rv1.f_First, v64 rv1.f_Last, v8 rv1.f_Flags, v8 rv1.f_Reason, v8 rv1.f_Class]) ag46 rfl (Cs.addsN [] ((hM.bx (i := 2) rfl).fut hf) rfl)) ?_
 refine RD.q rfl rfl rfl rfl (fun w' hf => O.load sc27 rfl (Cs.adds [] ((hM.bx (i := 0) rfl).fut hf) rfl)) ?_
 refine RD.q rfl rfl rfl rfl (fun w' hf => O.loadN (cs := [vB rv1.f_Key.f_Src.f_Six, o8 rv1.f_Key.f_Src.f_B 0, o8 rv1.f_Key.f_Src.f_B 1, o8 rv1.f_Key.f_Src.f_B 2, o8 rv1.f_Key.f_Src.f_B 3, o8 rv1.f_Key.f_Src.f_B 4, o8 rv1.f_Key.f_Src.f_B 5, o8 rv1.f_Key.f_Src.f_B 6, o8 rv1.f_Key.f_Src.f_B 7, o8 rv1.f_Key.f_Src.f_B 8, o8 rv1.f_Key.f_Src.f_B 9, o8 rv1.f_Key.f_Src.f_B 10, o8 rv1.f_Key.f_Src.f_B 11, o8 rv1.f_Key.f_Src.f_B 12, o8 rv1.f_Key.f_Src.f_B 13, o8 rv1.f_Key.f_Src.f_B 14, o8 rv1.f_Key.f_Src.f_B 15, vB rv1.f_Key.f_Dst.f_Six, o8 rv1.f_Key.f_Dst.f_B 0, o8 rv1.f_Key.f_Dst.f_B 1, o8 rv1.f_Key.f_Dst.f_B 2, o8 rv1.f_Key.f_Dst.f_B 3, o8 rv1.f_Key.f_Dst.f_B 4, o8 rv1.f_Key.f_Dst.f_B 5, o8 rv1.f_Key.f_Dst.f_B 6, o8 rv1.f_Key.f_Dst.f_B 7, o8 rv1.f_Key.f_Dst.f_B 8, o8 rv1.f_Key.f_Dst.f_B 9, o8 rv1.f_Key.f_Dst.f_B 10, o8 rv1.f_Key.f_Dst.f_B 11, o8 rv1.f_Key.f_Dst.f_B 12, o8 rv1.f_Key.f_Dst.f_B 13, o8 rv1.f_Key.f_Dst.f_B 14, o8 rv1.f_Key.f_Dst.f_B 15, v8 rv1.f_Key.f_Proto, v16 rv1.f_Key.f_SrcPort, v16 rv1.f_Key.f_DstPort, v64 rv1.f_Packets, v64 rv1.f_Bytes, v64 rv1.f_First, v64 rv1.f_Last, v8 rv1.f_Flags, v8 rv1.f_Reason, v8 rv1.f_Class]) ag46 rfl (Cs.addsN [] ((hM.bx (i := 2) rfl).fut hf) rfl)) ?_
 refine obindE hF fun y18 hx19 hF => ?_
 refine RD.mcall rfl rfl trivial Try.func39 bd39 rfl rfl (c_cache_Cache_idle _ _ _ cv2 _ _ (hM.lent [1] rfl (by decide)) rv1 _ hx19) fun v w20 hv => ?_
 obtain ⟨rfl, hN21⟩ := hv
 refine ⟨fun _ => hN21.fut, ?_⟩
 replace hM := hM.call0 hN21
 refine obindE hF fun y22 hx23 hF => ?_
 refine RD.mcall rfl rfl trivial Try.func31 bd31 rfl rfl (c_cache_Cache_due _ _ _ cv2 _ _ (hM.lent [1] rfl (by decide)) rv1 _ hx23) fun v w24 hv => ?_
 obtain ⟨rfl, hN25⟩ := hv
 refine ⟨fun _ => hN25.fut, ?_⟩
 replace hM := hM.call0 hN25
 refine RD.p rfl rfl rfl rfl (fun w' => O.eql rfl rfl) ?_
 refine RD.nil ?_
 refine KQ.thn hQ17 ?_
 clear hQ17 Q17
 refine KC.cond rfl (fun hc => ?_) (fun hc => ?_)
 ·rw [if_pos hc] at hF
  refine sr fun Q26 hQ26 => ?_
  refine va rfl rfl ?_
  refine nt hQ26 ?_
  clear hQ26 Q26
  refine KC.ret ?_
  refine KQ.thr hQ16 ?_
  clear hQ16 Q16
  have hE := Option.some.inj hF
  clear hF
  subst hE
  replace hM := hM.pick [0, 1] rfl (by decide)
  refine KQ.rets Try.results38 (RVs.cons (RV.tm rfl) RVs.nil) ?_
  exact ⟨_, rfl, rfl, hM⟩
 rw [if_neg (ne_true hc)] at hF
 refine KC.skip ?_
 refine KQ.thn hQ16 ?_
 clear hQ16 Q16
 refine sr fun Q27 hQ27 => ?_
 refine va rfl rfl ?_
 refine nt hQ27 ?_
 clear hQ27 Q27
 refine KC.ret ?_
 have hE := Option.some.inj hF
 clear hF
 subst hE
 replace hM := hM.pick [0, 1] rfl (by decide)
 refine KQ.rets Try.results38 (RVs.cons (RV.tm rfl) RVs.nil) ?_
 exact ⟨_, rfl, rfl, hM⟩
theorem c_cache_Cache_Advance_2 (w : World) (g3 : Nat) (tg10 : TypeId) (cv2 : T_cache_Cache) (g5 : Nat) (tg7 : TypeId) (vo8 : Value) (vo9 : Value) (hL11 : Lent w [.box g3 tg10 [.pointer (some ⟨g5, 0, none⟩)], .box g5 tg7 [v64 cv2.f_tick, vI cv2.f_bounds.f_Flows, v64 cv2.f_bounds.f_Idle, v64 cv2.f_bounds.f_Active, v64 cv2.f_bounds.f_Packets, v64 cv2.f_bounds.f_Bytes, vo8, vo9]]) (rv1 : T_flow_Record) (r : Int) (hF : F_cache_Cache_Advance_2 rv1 cv2 = some r) :
  CallsR Try.prog 38 [.agg #[vB rv1.f_Key.f_Src.f_Six, o8 rv1.f_Key.f_Src.f_B 0, o8 rv1.f_Key.f_Src.f_B 1, o8 rv1.f_Key.f_Src.f_B 2, o8 rv1.f_Key.f_Src.f_B 3, o8 rv1.f_Key.f_Src.f_B 4, o8 rv1.f_Key.f_Src.f_B 5, o8 rv1.f_Key.f_Src.f_B 6, o8 rv1.f_Key.f_Src.f_B 7, o8 rv1.f_Key.f_Src.f_B 8, o8 rv1.f_Key.f_Src.f_B 9, o8 rv1.f_Key.f_Src.f_B 10, o8 rv1.f_Key.f_Src.f_B 11, o8 rv1.f_Key.f_Src.f_B 12, o8 rv1.f_Key.f_Src.f_B 13, o8 rv1.f_Key.f_Src.f_B 14, o8 rv1.f_Key.f_Src.f_B 15, vB rv1.f_Key.f_Dst.f_Six, o8 rv1.f_Key.f_Dst.f_B 0, o8 rv1.f_Key.f_Dst.f_B 1, o8 rv1.f_Key.f_Dst.f_B 2, o8 rv1.f_Key.f_Dst.f_B 3, o8 rv1.f_Key.f_Dst.f_B 4, o8 rv1.f_Key.f_Dst.f_B 5, o8 rv1.f_Key.f_Dst.f_B 6, o8 rv1.f_Key.f_Dst.f_B 7, o8 rv1.f_Key.f_Dst.f_B 8, o8 rv1.f_Key.f_Dst.f_B 9, o8 rv1.f_Key.f_Dst.f_B 10, o8 rv1.f_Key.f_Dst.f_B 11, o8 rv1.f_Key.f_Dst.f_B 12, o8 rv1.f_Key.f_Dst.f_B 13, o8 rv1.f_Key.f_Dst.f_B 14, o8 rv1.f_Key.f_Dst.f_B 15, v8 rv1.f_Key.f_Proto, v16 rv1.f_Key.f_SrcPort, v16 rv1.f_Key.f_DstPort, v64 rv1.f_Packets, v64 rv1.f_Bytes, v64 rv1.f_First, v64 rv1.f_Last, v8 rv1.f_Flags, v8 rv1.f_Reason, v8 rv1.f_Class], .pointer (some ⟨g3, 0, none⟩)] w (fun v w' => v = v8 r ∧ Mem w [] w' []) := Calls.mono (c_cache_Cache_Advance_2_B w g3 tg10 cv2 g5 tg7 vo8 vo9 hL11 rv1 r hF) fun e w1 ⟨v, he, hv, hm⟩ => ⟨v, he, hv, hm.still hL11 rfl rfl⟩
set_option maxRecDepth 100000 in
set_option maxHeartbeats 40000000 in
theorem c_table_Table_Size (w : World) (g2 : Nat) (tg7 : TypeId) (t1 : T_table_Table) (A4 : Option Addr) (c5 : Nat) (hL8 : Lent w [.box g2 tg7 [.slice A4 (t1.f_slots).length c5, vI t1.f_many], .row A4 c5 102 39 (t1.f_slots).length ((t1.f_slots).flatMap e_table_Slot)]) (r : Int × T_table_Table) (hF : F_table_Table_Size t1 = some r) :
  CallsR Try.prog 90 [.pointer (some ⟨g2, 0, none⟩)] w (fun v w' => ∃ (A0 : Option Addr) (c0 : Nat), v = vI r.1 ∧ Mem w [some g2, rblk A4 c5] w' [.box g2 tg7 [.slice A0 (r.2.f_slots).length c0, vI r.2.f_many], .row A0 c0 102 39 r.2.f_slots.length (r.2.f_slots.flatMap e_table_Slot)]) := by
 refine calls_KC Try.func90 rfl Try.ntmps90 rfl ?_
 have hM : Mem w [some g2, rblk A4 c5] w [.box g2 tg7 [.slice A4 (t1.f_slots).length c5, vI t1.f_many], .row A4 c5 102 39 (t1.f_slots).length ((t1.f_slots).flatMap e_table_Slot)] := Mem.lendN hL8
 unfold F_table_Table_Size at hF
 refine sr fun Q9 hQ9 => ?_
 refine va rfl rfl ?_
 refine nt hQ9 ?_
 clear hQ9 Q9
 refine KC.seqH fun Q10 hQ10 => ?_
 refine sr fun Q11 hQ11 => ?_
 refine vm rfl rfl ?_
 refine RL.val (O.peqn Try.underlying68 rfl rfl) rfl ?_
 refine nt hQ11 ?_
 clear hQ11 Q11
 refine KC.condF rfl ?_
 refine KC.skip ?_
 refine KQ.thn hQ10 ?_
 clear hQ10 Q10
 refine sr fun Q12 hQ12 => ?_
 refine vm rfl rfl ?_
 refine RL.val (O.nilp rfl) rfl ?_
 refine RL.val (O.fldA fl96_0 (by decide) rfl) rfl ?_
 refine RL.val (O.load sc94 rfl (Cs.adds [0] ((hM.bx (i := 0) rfl)) rfl)) rfl ?_
 refine RL.val (O.len sl94 rfl) rfl ?_
 refine va rfl rfl ?_
 refine nt hQ12 ?_
 clear hQ12 Q12
 refine KC.ret ?_
 have hE := Option.some.inj hF
 clear hF
 subst hE
 refine KQ.rets Try.results90 (RVs.cons (RV.tm rfl) RVs.nil) ?_
 exact ⟨_, rfl, A4, c5, rfl, hM⟩
set_option maxRecDepth 100000 in
set_option maxHeartbeats 40000000 in
theorem c_table_Hash (w : World) (kv1 : T_packet_Key) (r : Int) (hF : F_table_Hash kv1 = some r) :
  CallsR Try.prog 91 [.agg #[vB kv1.f_Src.f_Six, o8 kv1.f_Src.f_B 0, o8 kv1.f_Src.f_B 1, o8 kv1.f_Src.f_B 2, o8 kv1.f_Src.f_B 3, o8 kv1.f_Src.f_B 4, o8 kv1.f_Src.f_B 5, o8 kv1.f_Src.f_B 6, o8 kv1.f_Src.f_B 7, o8 kv1.f_Src.f_B 8, o8 kv1.f_Src.f_B 9, o8 kv1.f_Src.f_B 10, o8 kv1.f_Src.f_B 11, o8 kv1.f_Src.f_B 12, o8 kv1.f_Src.f_B 13, o8 kv1.f_Src.f_B 14, o8 kv1.f_Src.f_B 15, vB kv1.f_Dst.f_Six, o8 kv1.f_Dst.f_B 0, o8 kv1.f_Dst.f_B 1, o8 kv1.f_Dst.f_B 2, o8 kv1.f_Dst.f_B 3, o8 kv1.f_Dst.f_B 4, o8 kv1.f_Dst.f_B 5, o8 kv1.f_Dst.f_B 6, o8 kv1.f_Dst.f_B 7, o8 kv1.f_Dst.f_B 8, o8 kv1.f_Dst.f_B 9, o8 kv1.f_Dst.f_B 10, o8 kv1.f_Dst.f_B 11, o8 kv1.f_Dst.f_B 12, o8 kv1.f_Dst.f_B 13, o8 kv1.f_Dst.f_B 14, o8 kv1.f_Dst.f_B 15, v8 kv1.f_Proto, v16 kv1.f_SrcPort, v16 kv1.f_DstPort]] w (fun v w' => v = v64 r ∧ Mem w [] w' []) := by
 refine calls_KC Try.func91 rfl Try.ntmps91 rfl ?_
 have hM := Mem.init w
 unfold F_table_Hash at hF
 refine sr fun Q2 hQ2 => ?_
 refine RL.eff (E.box (vs := [vB kv1.f_Src.f_Six, o8 kv1.f_Src.f_B 0, o8 kv1.f_Src.f_B 1, o8 kv1.f_Src.f_B 2, o8 kv1.f_Src.f_B 3, o8 kv1.f_Src.f_B 4, o8 kv1.f_Src.f_B 5, o8 kv1.f_Src.f_B 6, o8 kv1.f_Src.f_B 7, o8 kv1.f_Src.f_B 8, o8 kv1.f_Src.f_B 9, o8 kv1.f_Src.f_B 10, o8 kv1.f_Src.f_B 11, o8 kv1.f_Src.f_B 12, o8 kv1.f_Src.f_B 13, o8 kv1.f_Src.f_B 14, o8 kv1.f_Src.f_B 15, vB kv1.f_Dst.f_Six, o8 kv1.f_Dst.f_B 0, o8 kv1.f_Dst.f_B 1, o8 kv1.f_Dst.f_B 2, o8 kv1.f_Dst.f_B 3, o8 kv1.f_Dst.f_B 4, o8 kv1.f_Dst.f_B 5, o8 kv1.f_Dst.f_B 6, o8 kv1.f_Dst.f_B 7, o8 kv1.f_Dst.f_B 8, o8 kv1.f_Dst.f_B 9, o8 kv1.f_Dst.f_B 10, o8 kv1.f_Dst.f_B 11, o8 kv1.f_Dst.f_B 12, o8 kv1.f_Dst.f_B 13, o8 kv1.f_Dst.f_B 14, o8 kv1.f_Dst.f_B 15, v8 kv1.f_Proto, v16 kv1.f_SrcPort, v16 kv1.f_DstPort]) hM rfl rfl) rfl fun v w4 hv => ?_
 clear hM
 obtain ⟨g3, rfl, hM, hf⟩ := hv
 refine va rfl rfl ?_
 refine nt hQ2 ?_
 clear hQ2 Q2
 refine sr fun Q6 hQ6 => ?_
 refine va rfl rfl ?_
 refine nt hQ6 ?_
 clear hQ6 Q6
 refine KC.seqH fun Q7 hQ7 => ?_
 refine sr fun Q8 hQ8 => ?_
 refine RL.val (O.loadN (cs := [vB kv1.f_Src.f_Six, o8 kv1.f_Src.f_B 0, o8 kv1.f_Src.f_B 1, o8 kv1.f_Src.f_B 2, o8 kv1.f_Src.f_B 3, o8 kv1.f_Src.f_B 4, o8 kv1.f_Src.f_B 5, o8 kv1.f_Src.f_B 6, o8 kv1.f_Src.f_B 7, o8 kv1.f_Src.f_B 8, o8 kv1.f_Src.f_B 9, o8 kv1.f_Src.f_B 10, o8 kv1.f_Src.f_B 11, o8 kv1.f_Src.f_B 12, o8 kv1.f_Src.f_B 13, o8 kv1.f_Src.f_B 14, o8 kv1.f_Src.f_B 15, vB kv1.f_Dst.f_Six, o8 kv1.f_Dst.f_B 0, o8 kv1.f_Dst.f_B 1, o8 kv1.f_Dst.f_B 2, o8 kv1.f_Dst.f_B 3, o8 kv1.f_Dst.f_B 4, o8 kv1.f_Dst.f_B 5, o8 kv1.f_Dst.f_B 6, o8 kv1.f_Dst.f_B 7, o8 kv1.f_Dst.f_B 8, o8 kv1.f_Dst.f_B 9, o8 kv1.f_Dst.f_B 10, o8 kv1.f_Dst.f_B 11, o8 kv1.f_Dst.f_B 12, o8 kv1.f_Dst.f_B 13, o8 kv1.f_Dst.f_B 14, o8 kv1.f_Dst.f_B 15, v8 kv1.f_Proto, v16 kv1.f_SrcPort, v16 kv1.f_DstPort]) ag36 rfl (Cs.addsN [] ((hM.bx (i := 0) rfl)) rfl)) rfl ?_
 refine obindE hF fun y9 hx10 hF => ?_
 refine RL.call Try.func76 bd76 rfl rfl (c_packet_Key_Bytes _ kv1 _ hx10) fun v w11 hv => ?_
 obtain ⟨A13, c14, rfl, hN12⟩ := hv
 replace hM := hM.call hN12
 refine RL.val (O.len sl113 rfl) rfl ?_
 refine vm rfl rfl ?_
 refine nt hQ8 ?_
 clear hQ8 Q8
 refine KC.block ?_
 refine KC.loop (fun k38 a w36 => ∃ (h33 : Int) (t35 : Int), Kn 20 [(3, v64 h33), (7, .slice A13 (y9).length c14), (8, vI (y9.length : Int)), (9, vI t35)] a ∧ Mem w [] w36 [.row A13 c14 5 1 (y9).length ((y9).flatMap (eI .u8))] ∧ F_table_Hash_L1 y9 k38 h33 t35 = some r) ?_ ?_
 ·replace hM := hM.pick [1] rfl (by decide)
  exact fun a ha => ⟨fuel0, 14695981039346656037, 0, ha.less (less_cons rfl (less_cons rfl (less_cons rfl (less_cons rfl less_nil)))), hM, hF⟩
 rintro k38 a w36 ⟨h33, t35, ha, hM, hF⟩
 refine KC.app ha ?_
 clear ha
 cases k38 with
 | zero => exact (none_some hF).elim
 | succ k38 =>
 have hF : F_table_Hash_l1 (F_table_Hash_L1 y9 k38) y9 h33 t35 = some r := hF
 unfold F_table_Hash_l1 at hF
 refine sr fun Q39 hQ39 => ?_
 refine RL.val (O.lss rfl rfl) rfl ?_
 refine nt hQ39 ?_
 clear hQ39 Q39
 refine KC.seqH fun Q40 hQ40 => ?_
 refine KC.cond rfl (fun hc => ?_) (fun hc => ?_)
 ·rw [if_pos hc] at hF
  refine KC.skip ?_
  refine KQ.thn hQ40 ?_
  clear hQ40 Q40
  refine KC.seqH fun Q41 hQ41 => ?_
  refine KC.block ?_
  refine sr fun Q42 hQ42 => ?_
  refine obindE hF fun xv45 hx44 hF => ?_
  have hA43 := Rd.atN (f := (eI .u8)) (s := 1) (fun _ => rfl) (by decide) (hM.rd (i := 0) rfl) hx44
  refine RL.val (O.idxA sl113 (hA43) rfl rfl) rfl ?_
  refine RL.val (O.load sc5 rfl (hA43).cells.at0) rfl ?_
  refine va rfl rfl ?_
  refine nt hQ42 ?_
  clear hQ42 Q42
  refine KC.region ?_
  refine vm rfl rfl ?_
  refine vm rfl rfl ?_
  refine RL.val (O.conv un5 Try.underlying22 rfl) rfl ?_
  refine RL.val (O.xor rfl rfl) rfl ?_
  refine RL.val (O.mul rfl rfl) rfl ?_
  refine va rfl rfl ?_
  refine RL.nil ?_
  refine KQ.blk_n ?_
  refine KQ.thn hQ41 ?_
  clear hQ41 Q41
  refine KC.region ?_
  refine RL.val (O.add rfl rfl) rfl ?_
  refine vm rfl rfl ?_
  refine RL.nil ?_
  refine KQ.then_k ?_
  exact fun a ha => ⟨k38, Nat.lt_succ_self k38, (IntKind.u64.wrap ((bits .xor .u64 h33 (IntKind.u64.wrap xv45)) * 1099511628211)), (IntKind.i64.wrap (t35 + 1)), ha.less (less_cons rfl (less_cons rfl (less_cons rfl (less_cons rfl less_nil)))), hM, hF⟩
 rw [if_neg (ne_true hc)] at hF
 refine KC.exit ?_
 refine KQ.thx hQ40 ?_
 clear hQ40 Q40
 refine KQ.then_x ?_
 refine KQ.blk_x ?_
 refine KQ.thn hQ7 ?_
 clear hQ7 Q7
 refine sr fun Q46 hQ46 => ?_
 refine vm rfl rfl ?_
 refine va rfl rfl ?_
 refine nt hQ46 ?_
 clear hQ46 Q46
 refine KC.ret ?_
 have hE := Option.some.inj hF
 clear hF
 subst hE
 replace hM := hM.pick [] rfl (by decide)
 refine KQ.rets Try.results91 (RVs.cons (RV.tm rfl) RVs.nil) ?_
 exact ⟨_, rfl, rfl, hM⟩
end Go.Proofs.Ytkpnocgfhipidaa
