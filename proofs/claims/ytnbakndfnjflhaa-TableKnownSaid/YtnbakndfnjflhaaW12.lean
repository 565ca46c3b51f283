/- Printed by a program of this claim: each call returns what the plain function of its name gives. -/
import Derived.Test.YtnbakndfnjflhaaW1
import Derived.Test.YtnbakndfnjflhaaW6
import Derived.Test.YtnbakndfnjflhaaW7
set_option linter.unusedVariables false
namespace Go.Proofs.Ytnbakndfnjflhaa
open Go Go.Ox Go.RowKit
set_option maxRecDepth 100000 in
set_option maxHeartbeats 40000000 in
theorem c_kit_Pick (w : World) (i1 : Int) (nv2 : Int) (r : Int) (hF : F_kit_Pick i1 nv2 = some r) :
  CallsR Try.prog 10 [Value.int .i64 i1, Value.int .i64 nv2] w (fun v w' => v = Value.int .i64 r ∧ Mem w [] w' []) := by
 refine calls_KC Try.func10 rfl Try.ntmps10 rfl ?_
 have hM := Mem.init w
 unfold F_kit_Pick at hF
 refine KC.seqH fun Q3 hQ3 => ?_
 refine KC.region ?_
 refine RL.val (O.assign rfl) rfl ?_
 refine RL.nil ?_
 refine KQ.thn hQ3 ?_
 clear hQ3 Q3
 refine KC.seqH fun Q4 hQ4 => ?_
 refine KC.seqH fun Q5 hQ5 => ?_
 refine KC.region ?_
 refine RL.val (O.move rfl) rfl ?_
 refine RL.val (O.leq rfl rfl) rfl ?_
 refine RL.nil ?_
 refine KQ.thn hQ5 ?_
 clear hQ5 Q5
 refine KC.cond rfl (fun hc => ?_) (fun hc => ?_)
 ·rw [if_pos hc] at hF
  refine KC.seqH fun Q6 hQ6 => ?_
  refine KC.region ?_
  refine RL.val (O.assign rfl) rfl ?_
  refine RL.nil ?_
  refine KQ.thn hQ6 ?_
  clear hQ6 Q6
  refine KC.ret ?_
  refine KQ.thr hQ4 ?_
  clear hQ4 Q4
  have hE := Option.some.inj hF
  clear hF
  subst hE
  refine KQ.rets Try.results10 (RVs.cons (RV.tm rfl) RVs.nil) ?_
  exact ⟨_, rfl, rfl, hM⟩
 ·rw [if_neg (ne_true hc)] at hF
  refine KC.skip ?_
  refine KQ.thn hQ4 ?_
  clear hQ4 Q4
  refine KC.seqH fun Q7 hQ7 => ?_
  refine KC.region ?_
  refine RL.val (O.move rfl) rfl ?_
  refine RL.val (O.move rfl) rfl ?_
  refine cut_someE hF fun hq8 hF => ?_
  refine RL.val (O.rem rfl rfl (of_decide_eq_true hq8)) rfl ?_
  refine RL.val (O.move rfl) rfl ?_
  refine RL.val (O.add rfl rfl) rfl ?_
  refine RL.val (O.move rfl) rfl ?_
  refine cut_someE hF fun hq9 hF => ?_
  refine RL.val (O.rem rfl rfl (of_decide_eq_true hq9)) rfl ?_
  refine RL.val (O.assign rfl) rfl ?_
  refine RL.nil ?_
  refine KQ.thn hQ7 ?_
  clear hQ7 Q7
  refine KC.ret ?_
  have hE := Option.some.inj hF
  clear hF
  subst hE
  refine KQ.rets Try.results10 (RVs.cons (RV.tm rfl) RVs.nil) ?_
  exact ⟨_, rfl, rfl, hM⟩
set_option maxRecDepth 100000 in
set_option maxHeartbeats 40000000 in
theorem c_slices_Clone_table_Slot_table_Slot (w : World) (A2 : Option Addr) (c3 : Nat) (s1 : List T_table_Slot) (hr4 : Rd w A2 c3 39 s1.length (s1.flatMap e_table_Slot)) (r : (List T_table_Slot)) (hF : F_slices_Clone_table_Slot_table_Slot s1 = some r) :
  CallsR Try.prog 43 [.slice A2 (s1).length c3] w (fun v w' => ∃ (A0 : Option Addr) (c0 : Nat), v = .slice A0 (r).length c0 ∧ Mem w [] w' [.row A0 c0 74 39 r.length (r.flatMap e_table_Slot)]) := by
 refine calls_KC Try.func43 rfl Try.ntmps43 rfl ?_
 have hM := Mem.init w
 unfold F_slices_Clone_table_Slot_table_Slot at hF
 refine KC.seqH fun Q5 hQ5 => ?_
 refine KC.region ?_
 refine RL.val (O.assign rfl) rfl ?_
 refine RL.nil ?_
 refine KQ.thn hQ5 ?_
 clear hQ5 Q5
 refine KC.seqH fun Q6 hQ6 => ?_
 refine KC.seqH fun Q7 hQ7 => ?_
 refine KC.region ?_
 refine RL.val (O.move rfl) rfl ?_
 refine RL.val (O.sleqn sl65 rfl rfl) rfl ?_
 refine RL.nil ?_
 refine KQ.thn hQ7 ?_
 clear hQ7 Q7
 refine KC.cond rfl (fun hc => ?_) (fun hc => ?_)
 ·have hz8 := Rd.none_nil (hM.inp hr4 Off.nil) (hc)
  have hF : (some ([])) = some r := by (rw [hz8] at hF; simpa [lim] using hF)
  refine KC.seqH fun Q9 hQ9 => ?_
  refine KC.region ?_
  refine RL.val (O.assign rfl) rfl ?_
  refine RL.nil ?_
  refine KQ.thn hQ9 ?_
  clear hQ9 Q9
  refine KC.ret ?_
  refine KQ.thr hQ6 ?_
  clear hQ6 Q6
  have hE := Option.some.inj hF
  clear hF
  subst hE
  replace hM := hM.nilrow 74 39
  refine KQ.rets Try.results43 (RVs.cons (RV.tm rfl) RVs.nil) ?_
  exact ⟨_, rfl, none, 0, rfl, hM⟩
 ·refine KC.skip ?_
  refine KQ.thn hQ6 ?_
  clear hQ6 Q6
  refine KC.seqH fun Q10 hQ10 => ?_
  refine KC.region ?_
  refine RL.eff (E.bsl0 hM sl65) rfl fun v w11 hv => ?_
  clear hM
  obtain ⟨A12, rfl, hM, hf⟩ := hv
  refine RL.val (O.move rfl) rfl ?_
  refine cut_someE hF fun hq17 hF => ?_
  refine RL.eff (E.app (enc := e_table_Slot) (xs := ([] : List T_table_Slot)) (ys := s1) (j := 0) hM rfl sl65 ze74 rfl rfl rfl rfl rfl (hM.inp hr4 Off.nil) (fun _ => One.all rfl) (of_decide_eq_true hq17)) rfl fun v w16 hv => ?_
  clear hM
  obtain ⟨A14, c15, rfl, hM, hf⟩ := hv
  refine RL.val (O.assign rfl) rfl ?_
  refine RL.nil ?_
  refine KQ.thn hQ10 ?_
  clear hQ10 Q10
  refine KC.ret ?_
  have hE := Option.some.inj hF
  clear hF
  subst hE
  refine KQ.rets Try.results43 (RVs.cons (RV.tm rfl) RVs.nil) ?_
  exact ⟨_, rfl, A14, c15, rfl, hM⟩
set_option maxRecDepth 100000 in
set_option maxHeartbeats 40000000 in
theorem c_table_Table_Slots (w : World) (g2 : Nat) (tg7 : TypeId) (t1 : T_table_Table) (A4 : Option Addr) (c5 : Nat) (hL8 : Lent w [.box g2 tg7 [.slice A4 (t1.f_slots).length c5, Value.int .i64 t1.f_many], .row A4 c5 74 39 (t1.f_slots).length ((t1.f_slots).flatMap e_table_Slot)]) (r : (List T_table_Slot) × T_table_Table) (hF : F_table_Table_Slots t1 = some r) :
  CallsR Try.prog 28 [.pointer (some ⟨g2, 0, none⟩)] w (fun v w' => ∃ (A0 : Option Addr) (c0 : Nat) (A1 : Option Addr) (c1 : Nat), v = .slice A1 (r.1).length c1 ∧ Mem w [some g2, rblk A4 c5] w' [.box g2 tg7 [.slice A0 (r.2.f_slots).length c0, Value.int .i64 r.2.f_many], .row A0 c0 74 39 r.2.f_slots.length (r.2.f_slots.flatMap e_table_Slot), .row A1 c1 74 39 r.1.length (r.1.flatMap e_table_Slot)]) := by
 refine calls_KC Try.func28 rfl Try.ntmps28 rfl ?_
 have hM : Mem w [some g2, rblk A4 c5] w [.box g2 tg7 [.slice A4 (t1.f_slots).length c5, Value.int .i64 t1.f_many], .row A4 c5 74 39 (t1.f_slots).length ((t1.f_slots).flatMap e_table_Slot)] := Mem.lendN hL8
 unfold F_table_Table_Slots at hF
 refine KC.seqH fun Q9 hQ9 => ?_
 refine KC.region ?_
 refine RL.val (O.assign rfl) rfl ?_
 refine RL.nil ?_
 refine KQ.thn hQ9 ?_
 clear hQ9 Q9
 refine KC.seqH fun Q10 hQ10 => ?_
 refine KC.seqH fun Q11 hQ11 => ?_
 refine KC.region ?_
 refine RL.val (O.move rfl) rfl ?_
 refine RL.val (O.peqn Try.underlying24 rfl rfl) rfl ?_
 refine RL.nil ?_
 refine KQ.thn hQ11 ?_
 clear hQ11 Q11
 refine KC.condF rfl ?_
 refine KC.skip ?_
 refine KQ.thn hQ10 ?_
 clear hQ10 Q10
 refine KC.seqH fun Q12 hQ12 => ?_
 refine KC.region ?_
 refine RL.val (O.move rfl) rfl ?_
 refine RL.val (O.nilp rfl) rfl ?_
 refine RL.val (O.fldA fl71_0 (by decide) rfl) rfl ?_
 refine RL.val (O.load sc65 rfl (Cs.adds [0] ((hM.bx (i := 0) rfl)) rfl)) rfl ?_
 refine obindE hF fun y13 hx14 hF => ?_
 refine RL.call Try.func43 bd43 rfl rfl (c_slices_Clone_table_Slot_table_Slot _ _ _ t1.f_slots (hM.rd (i := 1) rfl) _ hx14) fun v w15 hv => ?_
 obtain ⟨A17, c18, rfl, hN16⟩ := hv
 replace hM := hM.call hN16
 refine RL.val (O.assign rfl) rfl ?_
 refine RL.nil ?_
 refine KQ.thn hQ12 ?_
 clear hQ12 Q12
 refine KC.ret ?_
 have hE := Option.some.inj hF
 clear hF
 subst hE
 refine KQ.rets Try.results28 (RVs.cons (RV.tm rfl) RVs.nil) ?_
 exact ⟨_, rfl, A4, c5, A17, c18, rfl, hM⟩
set_option maxRecDepth 100000 in
set_option maxHeartbeats 40000000 in
theorem c_table_Table_Probes (w : World) (g2 : Nat) (tg7 : TypeId) (t1 : T_table_Table) (A4 : Option Addr) (c5 : Nat) (hL9 : Lent w [.box g2 tg7 [.slice A4 (t1.f_slots).length c5, Value.int .i64 t1.f_many], .row A4 c5 74 39 (t1.f_slots).length ((t1.f_slots).flatMap e_table_Slot)]) (kv8 : T_packet_Key) (r : Int × T_table_Table) (hF : F_table_Table_Probes t1 kv8 = some r) :
  CallsR Try.prog 9 [.pointer (some ⟨g2, 0, none⟩), .agg #[Value.bool kv8.f_Src.f_Six, o8 kv8.f_Src.f_B 0, o8 kv8.f_Src.f_B 1, o8 kv8.f_Src.f_B 2, o8 kv8.f_Src.f_B 3, o8 kv8.f_Src.f_B 4, o8 kv8.f_Src.f_B 5, o8 kv8.f_Src.f_B 6, o8 kv8.f_Src.f_B 7, o8 kv8.f_Src.f_B 8, o8 kv8.f_Src.f_B 9, o8 kv8.f_Src.f_B 10, o8 kv8.f_Src.f_B 11, o8 kv8.f_Src.f_B 12, o8 kv8.f_Src.f_B 13, o8 kv8.f_Src.f_B 14, o8 kv8.f_Src.f_B 15, Value.bool kv8.f_Dst.f_Six, o8 kv8.f_Dst.f_B 0, o8 kv8.f_Dst.f_B 1, o8 kv8.f_Dst.f_B 2, o8 kv8.f_Dst.f_B 3, o8 kv8.f_Dst.f_B 4, o8 kv8.f_Dst.f_B 5, o8 kv8.f_Dst.f_B 6, o8 kv8.f_Dst.f_B 7, o8 kv8.f_Dst.f_B 8, o8 kv8.f_Dst.f_B 9, o8 kv8.f_Dst.f_B 10, o8 kv8.f_Dst.f_B 11, o8 kv8.f_Dst.f_B 12, o8 kv8.f_Dst.f_B 13, o8 kv8.f_Dst.f_B 14, o8 kv8.f_Dst.f_B 15, Value.int .u8 kv8.f_Proto, Value.int .u16 kv8.f_SrcPort, Value.int .u16 kv8.f_DstPort]] w (fun v w' => ∃ (A0 : Option Addr) (c0 : Nat), v = Value.int .i64 r.1 ∧ Mem w [some g2, rblk A4 c5] w' [.box g2 tg7 [.slice A0 (r.2.f_slots).length c0, Value.int .i64 r.2.f_many], .row A0 c0 74 39 r.2.f_slots.length (r.2.f_slots.flatMap e_table_Slot)]) := by
 refine calls_KC Try.func9 rfl Try.ntmps9 rfl ?_
 have hM : Mem w [some g2, rblk A4 c5] w [.box g2 tg7 [.slice A4 (t1.f_slots).length c5, Value.int .i64 t1.f_many], .row A4 c5 74 39 (t1.f_slots).length ((t1.f_slots).flatMap e_table_Slot)] := Mem.lendN hL9
 unfold F_table_Table_Probes at hF
 refine KC.seqH fun Q10 hQ10 => ?_
 refine KC.region ?_
 refine RL.eff (E.box (vs := [Value.bool kv8.f_Src.f_Six, o8 kv8.f_Src.f_B 0, o8 kv8.f_Src.f_B 1, o8 kv8.f_Src.f_B 2, o8 kv8.f_Src.f_B 3, o8 kv8.f_Src.f_B 4, o8 kv8.f_Src.f_B 5, o8 kv8.f_Src.f_B 6, o8 kv8.f_Src.f_B 7, o8 kv8.f_Src.f_B 8, o8 kv8.f_Src.f_B 9, o8 kv8.f_Src.f_B 10, o8 kv8.f_Src.f_B 11, o8 kv8.f_Src.f_B 12, o8 kv8.f_Src.f_B 13, o8 kv8.f_Src.f_B 14, o8 kv8.f_Src.f_B 15, Value.bool kv8.f_Dst.f_Six, o8 kv8.f_Dst.f_B 0, o8 kv8.f_Dst.f_B 1, o8 kv8.f_Dst.f_B 2, o8 kv8.f_Dst.f_B 3, o8 kv8.f_Dst.f_B 4, o8 kv8.f_Dst.f_B 5, o8 kv8.f_Dst.f_B 6, o8 kv8.f_Dst.f_B 7, o8 kv8.f_Dst.f_B 8, o8 kv8.f_Dst.f_B 9, o8 kv8.f_Dst.f_B 10, o8 kv8.f_Dst.f_B 11, o8 kv8.f_Dst.f_B 12, o8 kv8.f_Dst.f_B 13, o8 kv8.f_Dst.f_B 14, o8 kv8.f_Dst.f_B 15, Value.int .u8 kv8.f_Proto, Value.int .u16 kv8.f_SrcPort, Value.int .u16 kv8.f_DstPort]) hM rfl rfl) rfl fun v w12 hv => ?_
 clear hM
 obtain ⟨g11, rfl, hM, hf⟩ := hv
 refine RL.val (O.assign rfl) rfl ?_
 refine RL.nil ?_
 refine KQ.thn hQ10 ?_
 clear hQ10 Q10
 refine KC.seqH fun Q14 hQ14 => ?_
 refine KC.region ?_
 refine RL.val (O.move rfl) rfl ?_
 refine RL.val (O.loadN (cs := [Value.bool kv8.f_Src.f_Six, o8 kv8.f_Src.f_B 0, o8 kv8.f_Src.f_B 1, o8 kv8.f_Src.f_B 2, o8 kv8.f_Src.f_B 3, o8 kv8.f_Src.f_B 4, o8 kv8.f_Src.f_B 5, o8 kv8.f_Src.f_B 6, o8 kv8.f_Src.f_B 7, o8 kv8.f_Src.f_B 8, o8 kv8.f_Src.f_B 9, o8 kv8.f_Src.f_B 10, o8 kv8.f_Src.f_B 11, o8 kv8.f_Src.f_B 12, o8 kv8.f_Src.f_B 13, o8 kv8.f_Src.f_B 14, o8 kv8.f_Src.f_B 15, Value.bool kv8.f_Dst.f_Six, o8 kv8.f_Dst.f_B 0, o8 kv8.f_Dst.f_B 1, o8 kv8.f_Dst.f_B 2, o8 kv8.f_Dst.f_B 3, o8 kv8.f_Dst.f_B 4, o8 kv8.f_Dst.f_B 5, o8 kv8.f_Dst.f_B 6, o8 kv8.f_Dst.f_B 7, o8 kv8.f_Dst.f_B 8, o8 kv8.f_Dst.f_B 9, o8 kv8.f_Dst.f_B 10, o8 kv8.f_Dst.f_B 11, o8 kv8.f_Dst.f_B 12, o8 kv8.f_Dst.f_B 13, o8 kv8.f_Dst.f_B 14, o8 kv8.f_Dst.f_B 15, Value.int .u8 kv8.f_Proto, Value.int .u16 kv8.f_SrcPort, Value.int .u16 kv8.f_DstPort]) ag35 rfl (Cs.addsN [] ((hM.bx (i := 2) rfl)) rfl)) rfl ?_
 refine obindE hF fun y15 hx16 hF => ?_
 refine RL.call Try.func31 bd31 rfl rfl (c_table_Table_find _ _ _ t1 _ _ (hM.lent [0, 1] rfl (by decide)) kv8 _ hx16) fun v w17 hv => ?_
 obtain ⟨A19, c20, rfl, hN18⟩ := hv
 replace hM := hM.callL [0, 1] [2] rfl rfl (by decide) rfl hN18
 refine RL.val (O.move rfl) rfl ?_
 refine RL.val (O.ext rfl rfl) rfl ?_
 refine RL.val (O.ext rfl rfl) rfl ?_
 refine RL.val (O.assign rfl) rfl ?_
 refine RL.val (O.assign rfl) rfl ?_
 refine RL.nil ?_
 refine KQ.thn hQ14 ?_
 clear hQ14 Q14
 refine KC.seqH fun Q22 hQ22 => ?_
 refine KC.region ?_
 refine RL.val (O.move rfl) rfl ?_
 refine RL.val (O.assign rfl) rfl ?_
 refine RL.nil ?_
 refine KQ.thn hQ22 ?_
 clear hQ22 Q22
 refine KC.ret ?_
 have hE := Option.some.inj hF
 clear hF
 subst hE
 replace hM := hM.pick [1, 2] rfl (by decide)
 refine KQ.rets Try.results9 (RVs.cons (RV.tm rfl) RVs.nil) ?_
 exact ⟨_, rfl, A19, c20, rfl, hM⟩
set_option maxRecDepth 100000 in
set_option maxHeartbeats 40000000 in
theorem c_law23_reached (w : World) (g2 : Nat) (tg7 : TypeId) (t1 : T_table_Table) (A4 : Option Addr) (c5 : Nat) (hL8 : Lent w [.box g2 tg7 [.slice A4 (t1.f_slots).length c5, Value.int .i64 t1.f_many], .row A4 c5 74 39 (t1.f_slots).length ((t1.f_slots).flatMap e_table_Slot)]) (r : Bool × T_table_Table) (hF : F_law23_reached t1 = some r) :
  CallsR Try.prog 16 [.pointer (some ⟨g2, 0, none⟩)] w (fun v w' => ∃ (A0 : Option Addr) (c0 : Nat), v = Value.bool r.1 ∧ Mem w [some g2, rblk A4 c5] w' [.box g2 tg7 [.slice A0 (r.2.f_slots).length c0, Value.int .i64 r.2.f_many], .row A0 c0 74 39 r.2.f_slots.length (r.2.f_slots.flatMap e_table_Slot)]) := by
 refine calls_KC Try.func16 rfl Try.ntmps16 rfl ?_
 have hM : Mem w [some g2, rblk A4 c5] w [.box g2 tg7 [.slice A4 (t1.f_slots).length c5, Value.int .i64 t1.f_many], .row A4 c5 74 39 (t1.f_slots).length ((t1.f_slots).flatMap e_table_Slot)] := Mem.lendN hL8
 unfold F_law23_reached at hF
 refine KC.seqH fun Q9 hQ9 => ?_
 refine KC.region ?_
 refine RL.val (O.assign rfl) rfl ?_
 refine RL.nil ?_
 refine KQ.thn hQ9 ?_
 clear hQ9 Q9
 refine KC.seqH fun Q10 hQ10 => ?_
 refine KC.region ?_
 refine RL.val (O.move rfl) rfl ?_
 refine obindE hF fun y11 hx12 hF => ?_
 refine RL.call Try.func28 bd28 rfl rfl (c_table_Table_Slots _ _ _ t1 _ _ (hM.lent [0, 1] rfl (by decide)) _ hx12) fun v w13 hv => ?_
 obtain ⟨A15, c16, A18, c19, rfl, hN14⟩ := hv
 replace hM := hM.callL [0, 1] [] rfl rfl (by decide) rfl hN14
 refine RL.val (O.assign rfl) rfl ?_
 refine RL.nil ?_
 refine KQ.thn hQ10 ?_
 clear hQ10 Q10
 refine KC.seqH fun Q21 hQ21 => ?_
 refine KC.seqH fun Q22 hQ22 => ?_
 refine KC.region ?_
 refine RL.val (O.assign rfl) rfl ?_
 refine RL.nil ?_
 refine KQ.thn hQ22 ?_
 clear hQ22 Q22
 refine KC.block ?_
 refine KC.loop (fun k205 a w203 => ∃ (A197 : Option Addr) (c198 : Nat) (p199 : List T_table_Slot) (p200 : Int) (i202 : Int), Kn 69 [(0, .pointer (some ⟨g2, 0, none⟩)), (3, .slice A18 (y11.1).length c19), (4, Value.int .i64 i202)] a ∧ Mem w [some g2, rblk A4 c5] w203 [.row A197 c198 74 39 (p199).length ((p199).flatMap e_table_Slot), .box g2 tg7 [.slice A197 (p199).length c198, Value.int .i64 p200], .row A18 c19 74 39 (y11.1).length ((y11.1).flatMap e_table_Slot)] ∧ F_law23_reached_L1 y11 k205 p199 p200 i202 = some r) ?_ ?_
 ·replace hM := hM.pick [1, 0, 2] rfl (by decide)
  exact fun a ha => ⟨fuel0, A15, c16, y11.2.f_slots, y11.2.f_many, 0, ha.less (less_cons rfl (less_cons rfl (less_cons rfl less_nil))), hM, hF⟩
 ·rintro k205 a w203 ⟨A197, c198, p199, p200, i202, ha, hM, hF⟩
  refine KC.app ha ?_
  clear ha
  cases k205 with
  | zero => exact (none_some hF).elim
  | succ k205 =>
  have hF : F_law23_reached_l1 (F_law23_reached_L1 y11 k205) y11 p199 p200 i202 = some r := hF
  unfold F_law23_reached_l1 at hF
  refine KC.seqH fun Q206 hQ206 => ?_
  refine KC.seqH fun Q207 hQ207 => ?_
  refine KC.region ?_
  refine RL.val (O.move rfl) rfl ?_
  refine RL.val (O.move rfl) rfl ?_
  refine RL.val (O.len sl65 rfl) rfl ?_
  refine RL.val (O.lss rfl rfl) rfl ?_
  refine RL.nil ?_
  refine KQ.thn hQ207 ?_
  clear hQ207 Q207
  refine KC.cond rfl (fun hc => ?_) (fun hc => ?_)
  ·rw [if_pos hc] at hF
   refine KC.skip ?_
   refine KQ.thn hQ206 ?_
   clear hQ206 Q206
   refine KC.cut (fun a w287 => ∃ (A282 : Option Addr) (c283 : Nat) (p284 : List T_table_Slot) (p285 : Int), Kn 69 [(0, .pointer (some ⟨g2, 0, none⟩)), (3, .slice A18 (y11.1).length c19), (4, Value.int .i64 i202)] a ∧ Mem w [some g2, rblk A4 c5] w287 [.row A282 c283 74 39 (p284).length ((p284).flatMap e_table_Slot), .box g2 tg7 [.slice A282 (p284).length c283, Value.int .i64 p285], .row A18 c19 74 39 (y11.1).length ((y11.1).flatMap e_table_Slot)] ∧ F_law23_reached_j1 i202 (F_law23_reached_L1 y11 k205) p284 p285 = some r) ?_ ?_
   ·refine KC.block ?_
    refine KC.seqH fun Q208 hQ208 => ?_
    refine KC.seqH fun Q209 hQ209 => ?_
    refine KC.region ?_
    refine RL.val (O.move rfl) rfl ?_
    refine RL.val (O.move rfl) rfl ?_
    refine obindE hF fun xv212 hx211 hF => ?_
    have hA210 := Rd.atN (f := e_table_Slot) (s := 39) (fun _ => rfl) (by decide) (hM.rd (i := 2) rfl) hx211
    refine RL.val (O.idxA sl65 (hA210) rfl rfl) rfl ?_
    refine RL.val (O.fldA fl74_0 (by decide) rfl) rfl ?_
    refine RL.val (O.load sc4 rfl (Cs.adds [0] (hA210).cells rfl)) rfl ?_
    refine RL.val (O.not rfl) rfl ?_
    refine RL.nil ?_
    refine KQ.thn hQ209 ?_
    clear hQ209 Q209
    refine KC.cond rfl (fun hc => ?_) (fun hc => ?_)
    ·rw [if_pos hc] at hF
     refine KC.exit ?_
     refine KQ.thx hQ208 ?_
     clear hQ208 Q208
     refine KQ.blk_x ?_
     refine KQ.then_k ?_
     exact fun a ha => ⟨A197, c198, p199, p200, ha.less (less_cons rfl (less_cons rfl (less_cons rfl less_nil))), hM, hF⟩
    ·rw [if_neg (ne_true hc)] at hF
     refine KC.skip ?_
     refine KQ.thn hQ208 ?_
     clear hQ208 Q208
     refine KC.seqH fun Q213 hQ213 => ?_
     refine KC.region ?_
     refine RL.val (O.move rfl) rfl ?_
     refine RL.val (O.move rfl) rfl ?_
     refine RL.val (O.move rfl) rfl ?_
     refine obindE hF fun xv216 hx215 hF => ?_
     have hA214 := Rd.atN (f := e_table_Slot) (s := 39) (fun _ => rfl) (by decide) (hM.rd (i := 2) rfl) hx215
     refine RL.val (O.idxA sl65 (hA214) rfl rfl) rfl ?_
     refine RL.val (O.fldA fl74_1 (by decide) rfl) rfl ?_
     refine RL.val (O.loadN (cs := [Value.bool xv216.f_Key.f_Src.f_Six, o8 xv216.f_Key.f_Src.f_B 0, o8 xv216.f_Key.f_Src.f_B 1, o8 xv216.f_Key.f_Src.f_B 2, o8 xv216.f_Key.f_Src.f_B 3, o8 xv216.f_Key.f_Src.f_B 4, o8 xv216.f_Key.f_Src.f_B 5, o8 xv216.f_Key.f_Src.f_B 6, o8 xv216.f_Key.f_Src.f_B 7, o8 xv216.f_Key.f_Src.f_B 8, o8 xv216.f_Key.f_Src.f_B 9, o8 xv216.f_Key.f_Src.f_B 10, o8 xv216.f_Key.f_Src.f_B 11, o8 xv216.f_Key.f_Src.f_B 12, o8 xv216.f_Key.f_Src.f_B 13, o8 xv216.f_Key.f_Src.f_B 14, o8 xv216.f_Key.f_Src.f_B 15, Value.bool xv216.f_Key.f_Dst.f_Six, o8 xv216.f_Key.f_Dst.f_B 0, o8 xv216.f_Key.f_Dst.f_B 1, o8 xv216.f_Key.f_Dst.f_B 2, o8 xv216.f_Key.f_Dst.f_B 3, o8 xv216.f_Key.f_Dst.f_B 4, o8 xv216.f_Key.f_Dst.f_B 5, o8 xv216.f_Key.f_Dst.f_B 6, o8 xv216.f_Key.f_Dst.f_B 7, o8 xv216.f_Key.f_Dst.f_B 8, o8 xv216.f_Key.f_Dst.f_B 9, o8 xv216.f_Key.f_Dst.f_B 10, o8 xv216.f_Key.f_Dst.f_B 11, o8 xv216.f_Key.f_Dst.f_B 12, o8 xv216.f_Key.f_Dst.f_B 13, o8 xv216.f_Key.f_Dst.f_B 14, o8 xv216.f_Key.f_Dst.f_B 15, Value.int .u8 xv216.f_Key.f_Proto, Value.int .u16 xv216.f_Key.f_SrcPort, Value.int .u16 xv216.f_Key.f_DstPort]) ag35 rfl (Cs.addsN [1] (hA214).cells rfl)) rfl ?_
     refine obindE hF fun y217 hx218 hF => ?_
     refine RL.call Try.func9 bd9 rfl rfl (c_table_Table_Probes _ _ _ (T_table_Table.mk p199 p200) _ _ (hM.lent [1, 0] rfl (by decide)) xv216.f_Key _ hx218) fun v w219 hv => ?_
     obtain ⟨A221, c222, rfl, hN220⟩ := hv
     replace hM := hM.callL [1, 0] [2] rfl rfl (by decide) rfl hN220
     refine RL.val (O.assign rfl) rfl ?_
     refine RL.nil ?_
     refine KQ.thn hQ213 ?_
     clear hQ213 Q213
     refine KC.seqH fun Q224 hQ224 => ?_
     refine KC.region ?_
     refine RL.val (O.move rfl) rfl ?_
     refine RL.val (O.move rfl) rfl ?_
     refine obindE hF fun xv227 hx226 hF => ?_
     have hA225 := Rd.atN (f := e_table_Slot) (s := 39) (fun _ => rfl) (by decide) (hM.rd (i := 0) rfl) hx226
     refine RL.val (O.idxA sl65 (hA225) rfl rfl) rfl ?_
     refine RL.val (O.fldA fl74_1 (by decide) rfl) rfl ?_
     refine RL.val (O.loadN (cs := [Value.bool xv227.f_Key.f_Src.f_Six, o8 xv227.f_Key.f_Src.f_B 0, o8 xv227.f_Key.f_Src.f_B 1, o8 xv227.f_Key.f_Src.f_B 2, o8 xv227.f_Key.f_Src.f_B 3, o8 xv227.f_Key.f_Src.f_B 4, o8 xv227.f_Key.f_Src.f_B 5, o8 xv227.f_Key.f_Src.f_B 6, o8 xv227.f_Key.f_Src.f_B 7, o8 xv227.f_Key.f_Src.f_B 8, o8 xv227.f_Key.f_Src.f_B 9, o8 xv227.f_Key.f_Src.f_B 10, o8 xv227.f_Key.f_Src.f_B 11, o8 xv227.f_Key.f_Src.f_B 12, o8 xv227.f_Key.f_Src.f_B 13, o8 xv227.f_Key.f_Src.f_B 14, o8 xv227.f_Key.f_Src.f_B 15, Value.bool xv227.f_Key.f_Dst.f_Six, o8 xv227.f_Key.f_Dst.f_B 0, o8 xv227.f_Key.f_Dst.f_B 1, o8 xv227.f_Key.f_Dst.f_B 2, o8 xv227.f_Key.f_Dst.f_B 3, o8 xv227.f_Key.f_Dst.f_B 4, o8 xv227.f_Key.f_Dst.f_B 5, o8 xv227.f_Key.f_Dst.f_B 6, o8 xv227.f_Key.f_Dst.f_B 7, o8 xv227.f_Key.f_Dst.f_B 8, o8 xv227.f_Key.f_Dst.f_B 9, o8 xv227.f_Key.f_Dst.f_B 10, o8 xv227.f_Key.f_Dst.f_B 11, o8 xv227.f_Key.f_Dst.f_B 12, o8 xv227.f_Key.f_Dst.f_B 13, o8 xv227.f_Key.f_Dst.f_B 14, o8 xv227.f_Key.f_Dst.f_B 15, Value.int .u8 xv227.f_Key.f_Proto, Value.int .u16 xv227.f_Key.f_SrcPort, Value.int .u16 xv227.f_Key.f_DstPort]) ag35 rfl (Cs.addsN [1] (hA225).cells rfl)) rfl ?_
     refine obindE hF fun y228 hx229 hF => ?_
     refine RL.call Try.func24 bd24 rfl rfl (c_table_Hash _ xv227.f_Key _ hx229) fun v w230 hv => ?_
     obtain ⟨rfl, hN231⟩ := hv
     replace hM := hM.call0 hN231
     refine RL.val (O.move rfl) rfl ?_
     refine RL.val (O.len sl65 rfl) rfl ?_
     refine RL.val (O.conv un3 Try.underlying36 rfl) rfl ?_
     refine cut_someE hF fun hq232 hF => ?_
     refine RL.val (O.rem rfl rfl (of_decide_eq_true hq232)) rfl ?_
     refine RL.val (O.conv un36 Try.underlying3 rfl) rfl ?_
     refine RL.val (O.assign rfl) rfl ?_
     refine RL.nil ?_
     refine KQ.thn hQ224 ?_
     clear hQ224 Q224
     refine KC.seqH fun Q233 hQ233 => ?_
     refine KC.cut (fun a w239 => ∃ (t238 : Bool), Kn 69 [(0, .pointer (some ⟨g2, 0, none⟩)), (3, .slice A18 (y11.1).length c19), (4, Value.int .i64 i202), (5, Value.int .i64 y217.1), (6, Value.int .i64 (IntKind.i64.wrap (Int.tmod y228 (IntKind.u64.wrap (y11.1.length : Int))))), (52, Value.bool t238)] a ∧ Mem w [some g2, rblk A4 c5] w239 [.row A221 c222 74 39 (y217.2.f_slots).length ((y217.2.f_slots).flatMap e_table_Slot), .box g2 tg7 [.slice A221 (y217.2.f_slots).length c222, Value.int .i64 y217.2.f_many], .row A18 c19 74 39 (y11.1).length ((y11.1).flatMap e_table_Slot)] ∧ F_law23_reached_j2 y11 i202 (F_law23_reached_L1 y11 k205) y217 y228 t238 = some r) ?_ ?_
     ·refine KC.region ?_
      refine RL.val (O.move rfl) rfl ?_
      refine RL.val (O.lss rfl rfl) rfl ?_
      refine RL.val (O.move rfl) rfl ?_
      refine RL.bcase (t := 42) rfl (fun hc => ?_) (fun hc => ?_)
      ·rw [if_pos hc] at hF
       refine RL.gskip rfl rfl rfl rfl ?_
       refine RL.gskip rfl rfl rfl rfl ?_
       refine RL.gskip rfl rfl rfl rfl ?_
       refine RL.gskip rfl rfl rfl rfl ?_
       refine RL.gskip rfl rfl rfl rfl ?_
       refine RL.gskip rfl rfl rfl rfl ?_
       refine RL.gskip rfl rfl rfl rfl ?_
       refine RL.gskip rfl rfl rfl rfl ?_
       refine RL.gskip rfl rfl rfl rfl ?_
       refine RL.val (O.pickt rfl rfl) rfl ?_
       refine RL.nil ?_
       refine KQ.then_k ?_
       replace hM := hM.pick [2, 1, 0] rfl (by decide)
       exact fun a ha => ⟨true, ha.less (less_cons rfl (less_cons rfl (less_cons rfl (less_cons rfl (less_cons rfl (less_cons rfl less_nil)))))), hM, hF⟩
      ·rw [if_neg (ne_true hc)] at hF
       refine RL.gval rfl rfl (O.move rfl) rfl ?_
       refine RL.gval rfl rfl (O.move rfl) rfl ?_
       refine RL.gval rfl rfl (O.add rfl rfl) rfl ?_
       refine RL.gval rfl rfl (O.sub rfl rfl) rfl ?_
       refine RL.gval rfl rfl (O.move rfl) rfl ?_
       refine RL.gval rfl rfl (O.len sl65 rfl) rfl ?_
       refine cut_someE hF fun hq234 hF => ?_
       refine RL.gval rfl rfl (O.rem rfl rfl (of_decide_eq_true hq234)) rfl ?_
       refine RL.gval rfl rfl (O.move rfl) rfl ?_
       refine RL.gval rfl rfl (O.neq rfl rfl) rfl ?_
       refine RL.val (O.pickf rfl rfl) rfl ?_
       refine RL.nil ?_
       refine KQ.then_k ?_
       replace hM := hM.pick [2, 1, 0] rfl (by decide)
       exact fun a ha => ⟨((Int.tmod (IntKind.i64.wrap ((IntKind.i64.wrap ((IntKind.i64.wrap (Int.tmod y228 (IntKind.u64.wrap (y11.1.length : Int)))) + y217.1)) - 1)) (y11.1.length : Int)) != i202), ha.less (less_cons rfl (less_cons rfl (less_cons rfl (less_cons rfl (less_cons rfl (less_cons rfl less_nil)))))), hM, hF⟩
     ·rintro a w239 ⟨t238, ha, hM, hF⟩
      refine KC.app ha ?_
      clear ha
      unfold F_law23_reached_j2 at hF
      refine KC.cond rfl (fun hc => ?_) (fun hc => ?_)
      ·rw [if_pos hc] at hF
       refine KC.seqH fun Q240 hQ240 => ?_
       refine KC.region ?_
       refine RL.val (O.assign rfl) rfl ?_
       refine RL.nil ?_
       refine KQ.thn hQ240 ?_
       clear hQ240 Q240
       refine KC.ret ?_
       refine KQ.thr hQ233 ?_
       clear hQ233 Q233
       refine KQ.blk_r ?_
       refine KQ.then_r ?_
       refine KQ.then_r ?_
       refine KQ.blk_r ?_
       refine KQ.thr hQ21 ?_
       clear hQ21 Q21
       have hE := Option.some.inj hF
       clear hF
       subst hE
       replace hM := hM.pick [1, 0] rfl (by decide)
       refine KQ.rets Try.results16 (RVs.cons (RV.tm rfl) RVs.nil) ?_
       exact ⟨_, rfl, A221, c222, rfl, hM⟩
      ·rw [if_neg (ne_true hc)] at hF
       refine KC.skip ?_
       refine KQ.thn hQ233 ?_
       clear hQ233 Q233
       refine KC.seqH fun Q241 hQ241 => ?_
       refine KC.region ?_
       refine RL.val (O.assign rfl) rfl ?_
       refine RL.nil ?_
       refine KQ.thn hQ241 ?_
       clear hQ241 Q241
       refine KC.block ?_
       refine KC.loop (fun k270 a w268 => ∃ (kv267 : Int), Kn 69 [(0, .pointer (some ⟨g2, 0, none⟩)), (3, .slice A18 (y11.1).length c19), (4, Value.int .i64 i202), (5, Value.int .i64 y217.1), (6, Value.int .i64 (IntKind.i64.wrap (Int.tmod y228 (IntKind.u64.wrap (y11.1.length : Int))))), (7, Value.int .i64 kv267)] a ∧ Mem w [some g2, rblk A4 c5] w268 [.row A221 c222 74 39 (y217.2.f_slots).length ((y217.2.f_slots).flatMap e_table_Slot), .box g2 tg7 [.slice A221 (y217.2.f_slots).length c222, Value.int .i64 y217.2.f_many], .row A18 c19 74 39 (y11.1).length ((y11.1).flatMap e_table_Slot)] ∧ F_law23_reached_L2 y11 i202 (F_law23_reached_L1 y11 k205) y217 y228 k270 kv267 = some r) ?_ ?_
       ·exact fun a ha => ⟨fuel0, 0, ha.less (less_cons rfl (less_cons rfl (less_cons rfl (less_cons rfl (less_cons rfl (less_cons rfl less_nil)))))), hM, hF⟩
       ·rintro k270 a w268 ⟨kv267, ha, hM, hF⟩
        refine KC.app ha ?_
        clear ha
        cases k270 with
        | zero => exact (none_some hF).elim
        | succ k270 =>
        have hF : F_law23_reached_l2 (F_law23_reached_L2 y11 i202 (F_law23_reached_L1 y11 k205) y217 y228 k270) y11 i202 (F_law23_reached_L1 y11 k205) y217 y228 kv267 = some r := hF
        unfold F_law23_reached_l2 at hF
        refine KC.seqH fun Q271 hQ271 => ?_
        refine KC.seqH fun Q272 hQ272 => ?_
        refine KC.region ?_
        refine RL.val (O.move rfl) rfl ?_
        refine RL.val (O.move rfl) rfl ?_
        refine RL.val (O.lss rfl rfl) rfl ?_
        refine RL.nil ?_
        refine KQ.thn hQ272 ?_
        clear hQ272 Q272
        refine KC.cond rfl (fun hc => ?_) (fun hc => ?_)
        ·rw [if_pos hc] at hF
         refine KC.skip ?_
         refine KQ.thn hQ271 ?_
         clear hQ271 Q271
         refine KC.seqH fun Q273 hQ273 => ?_
         refine KC.block ?_
         refine KC.seqH fun Q274 hQ274 => ?_
         refine KC.region ?_
         refine RL.val (O.move rfl) rfl ?_
         refine RL.val (O.move rfl) rfl ?_
         refine RL.val (O.move rfl) rfl ?_
         refine RL.val (O.add rfl rfl) rfl ?_
         refine RL.val (O.move rfl) rfl ?_
         refine RL.val (O.len sl65 rfl) rfl ?_
         refine cut_someE hF fun hq275 hF => ?_
         refine RL.val (O.rem rfl rfl (of_decide_eq_true hq275)) rfl ?_
         refine obindE hF fun xv278 hx277 hF => ?_
         have hA276 := Rd.atN (f := e_table_Slot) (s := 39) (fun _ => rfl) (by decide) (hM.rd (i := 2) rfl) hx277
         refine RL.val (O.idxA sl65 (hA276) rfl rfl) rfl ?_
         refine RL.val (O.fldA fl74_0 (by decide) rfl) rfl ?_
         refine RL.val (O.load sc4 rfl (Cs.adds [0] (hA276).cells rfl)) rfl ?_
         refine RL.val (O.not rfl) rfl ?_
         refine RL.nil ?_
         refine KQ.thn hQ274 ?_
         clear hQ274 Q274
         refine KC.cond rfl (fun hc => ?_) (fun hc => ?_)
         ·rw [if_pos hc] at hF
          refine KC.seqH fun Q279 hQ279 => ?_
          refine KC.region ?_
          refine RL.val (O.assign rfl) rfl ?_
          refine RL.nil ?_
          refine KQ.thn hQ279 ?_
          clear hQ279 Q279
          refine KC.ret ?_
          refine KQ.blk_r ?_
          refine KQ.thr hQ273 ?_
          clear hQ273 Q273
          refine KQ.then_r ?_
          refine KQ.blk_r ?_
          refine KQ.blk_r ?_
          refine KQ.then_r ?_
          refine KQ.then_r ?_
          refine KQ.blk_r ?_
          refine KQ.thr hQ21 ?_
          clear hQ21 Q21
          have hE := Option.some.inj hF
          clear hF
          subst hE
          replace hM := hM.pick [1, 0] rfl (by decide)
          refine KQ.rets Try.results16 (RVs.cons (RV.tm rfl) RVs.nil) ?_
          exact ⟨_, rfl, A221, c222, rfl, hM⟩
         ·rw [if_neg (ne_true hc)] at hF
          refine KC.skip ?_
          refine KQ.blk_n ?_
          refine KQ.thn hQ273 ?_
          clear hQ273 Q273
          refine KC.region ?_
          refine RL.val (O.move rfl) rfl ?_
          refine RL.val (O.add rfl rfl) rfl ?_
          refine RL.val (O.assign rfl) rfl ?_
          refine RL.nil ?_
          refine KQ.then_k ?_
          exact fun a ha => ⟨k270, Nat.lt_succ_self k270, (IntKind.i64.wrap (kv267 + 1)), ha.less (less_cons rfl (less_cons rfl (less_cons rfl (less_cons rfl (less_cons rfl (less_cons rfl less_nil)))))), hM, hF⟩
        ·rw [if_neg (ne_true hc)] at hF
         refine KC.exit ?_
         refine KQ.thx hQ271 ?_
         clear hQ271 Q271
         refine KQ.then_x ?_
         refine KQ.blk_x ?_
         refine KQ.blk_n ?_
         refine KQ.then_k ?_
         exact fun a ha => ⟨A221, c222, y217.2.f_slots, y217.2.f_many, ha.less (less_cons rfl (less_cons rfl (less_cons rfl less_nil))), hM, hF⟩
   ·rintro a w287 ⟨A282, c283, p284, p285, ha, hM, hF⟩
    refine KC.app ha ?_
    clear ha
    unfold F_law23_reached_j1 at hF
    refine KC.region ?_
    refine RL.val (O.move rfl) rfl ?_
    refine RL.val (O.add rfl rfl) rfl ?_
    refine RL.val (O.assign rfl) rfl ?_
    refine RL.nil ?_
    refine KQ.then_k ?_
    exact fun a ha => ⟨k205, Nat.lt_succ_self k205, A282, c283, p284, p285, (IntKind.i64.wrap (i202 + 1)), ha.less (less_cons rfl (less_cons rfl (less_cons rfl less_nil))), hM, hF⟩
  ·rw [if_neg (ne_true hc)] at hF
   refine KC.exit ?_
   refine KQ.thx hQ206 ?_
   clear hQ206 Q206
   refine KQ.then_x ?_
   refine KQ.blk_x ?_
   refine KQ.thn hQ21 ?_
   clear hQ21 Q21
   refine KC.seqH fun Q288 hQ288 => ?_
   refine KC.region ?_
   refine RL.val (O.assign rfl) rfl ?_
   refine RL.nil ?_
   refine KQ.thn hQ288 ?_
   clear hQ288 Q288
   refine KC.ret ?_
   have hE := Option.some.inj hF
   clear hF
   subst hE
   replace hM := hM.pick [1, 0] rfl (by decide)
   refine KQ.rets Try.results16 (RVs.cons (RV.tm rfl) RVs.nil) ?_
   exact ⟨_, rfl, A197, c198, rfl, hM⟩
end Go.Proofs.Ytnbakndfnjflhaa
