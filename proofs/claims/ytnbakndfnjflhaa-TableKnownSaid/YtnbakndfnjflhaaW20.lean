/- Printed by a program of this claim: each call returns what the plain function of its name gives. -/
import Derived.Test.YtnbakndfnjflhaaW1
import Derived.Test.YtnbakndfnjflhaaW12
import Derived.Test.YtnbakndfnjflhaaW16
import Derived.Test.YtnbakndfnjflhaaW19
import Derived.Test.YtnbakndfnjflhaaSrt
set_option linter.unusedVariables false
namespace Go.Proofs.Ytnbakndfnjflhaa
open Go Go.Ox Go.RowKit
set_option maxRecDepth 100000 in
set_option maxHeartbeats 40000000 in
theorem c_slices_SortFunc_packet_Key_packet_Key_packet_Cmp (w : World) (A : Option Addr) (c : Nat) (xs : List T_packet_Key) (hL : Lent w [.row A c 35 37 xs.length (xs.flatMap e_packet_Key)]) (r : List T_packet_Key) (hF : F_slices_SortFunc_packet_Key_packet_Key_packet_Cmp xs = some r) :
  CallsR Try.prog 44 [.slice A xs.length c, .func (.func 45) #[] #[]] w (fun v w' => v = .tuple #[] ∧ (xs.length = r.length) ∧ Mem w [rblk A c] w' [.row A c 35 37 r.length (r.flatMap e_packet_Key)]) := by
 unfold F_slices_SortFunc_packet_Key_packet_Key_packet_Cmp at hF
 refine cut_someE hF fun hn hF => ?_
 have hE := Option.some.inj hF
 subst hE
 exact c_srt (e := 35) lsort44 ag35 (fun _ => rfl) (fun _ => One.all rfl) rfl swo_packet_Cmp Try.func45 bd45 (cb := []) hL (of_decide_eq_true hn) (fun w1 _ _ x y => c_packet_Cmp w1 x y _ (tot_packet_Cmp x y))
set_option maxRecDepth 100000 in
set_option maxHeartbeats 40000000 in
theorem c_table_Table_Keys (w : World) (g2 : Nat) (tg7 : TypeId) (t1 : T_table_Table) (A4 : Option Addr) (c5 : Nat) (hL8 : Lent w [.box g2 tg7 [.slice A4 (t1.f_slots).length c5, Value.int .i64 t1.f_many], .row A4 c5 74 39 (t1.f_slots).length ((t1.f_slots).flatMap e_table_Slot)]) (r : (List T_packet_Key) × T_table_Table) (hF : F_table_Table_Keys t1 = some r) :
  CallsR Try.prog 29 [.pointer (some ⟨g2, 0, none⟩)] w (fun v w' => ∃ (A0 : Option Addr) (c0 : Nat) (A1 : Option Addr) (c1 : Nat), v = .slice A1 (r.1).length c1 ∧ Mem w [some g2, rblk A4 c5] w' [.box g2 tg7 [.slice A0 (r.2.f_slots).length c0, Value.int .i64 r.2.f_many], .row A0 c0 74 39 r.2.f_slots.length (r.2.f_slots.flatMap e_table_Slot), .row A1 c1 35 37 r.1.length (r.1.flatMap e_packet_Key)]) := by
 refine calls_KC Try.func29 rfl Try.ntmps29 rfl ?_
 have hM : Mem w [some g2, rblk A4 c5] w [.box g2 tg7 [.slice A4 (t1.f_slots).length c5, Value.int .i64 t1.f_many], .row A4 c5 74 39 (t1.f_slots).length ((t1.f_slots).flatMap e_table_Slot)] := Mem.lendN hL8
 unfold F_table_Table_Keys at hF
 refine KC.seqH fun Q9 hQ9 => ?_
 refine KC.region ?_
 refine RL.val (O.assign rfl) rfl ?_
 refine RL.nil ?_
 refine KQ.thn hQ9 ?_
 clear hQ9 Q9
 refine KC.seqH fun Q10 hQ10 => ?_
 refine KC.region ?_
 refine RL.val (O.move rfl) rfl ?_
 refine RL.val (O.mkf rfl rfl) rfl ?_
 refine RL.val (O.assign rfl) rfl ?_
 refine RL.nil ?_
 refine KQ.thn hQ10 ?_
 clear hQ10 Q10
 refine KC.seqH fun Q11 hQ11 => ?_
 refine KC.seqH fun Q12 hQ12 => ?_
 refine KC.region ?_
 refine RL.val (O.move rfl) rfl ?_
 refine obindE hF fun y13 hx14 hF => ?_
 refine RL.callv (first := [.pointer (some ⟨g2, 0, none⟩)]) (captured := []) rfl Try.func28 bd28 rfl rfl (c_table_Table_Slots _ _ _ t1 _ _ (hM.lent [0, 1] rfl (by decide)) _ hx14) fun v w15 hv => ?_
 obtain ⟨A17, c18, A20, c21, rfl, hN16⟩ := hv
 replace hM := hM.callL [0, 1] [] rfl rfl (by decide) rfl hN16
 refine RL.val (O.len sl65 rfl) rfl ?_
 refine RL.val (O.move rfl) rfl ?_
 refine RL.nil ?_
 refine KQ.thn hQ12 ?_
 clear hQ12 Q12
 refine KC.block ?_
 refine KC.loop (fun k95 a w93 => ∃ (A88 : Option Addr) (c89 : Nat) (lv90 : List T_packet_Key) (t92 : Int), Kn 26 [(2, .slice A88 (lv90).length c89), (9, .slice A20 (y13.1).length c21), (10, Value.int .i64 (y13.1.length : Int)), (11, Value.int .i64 t92)] a ∧ Mem w [some g2, rblk A4 c5] w93 [.row A17 c18 74 39 (y13.2.f_slots).length ((y13.2.f_slots).flatMap e_table_Slot), .box g2 tg7 [.slice A17 (y13.2.f_slots).length c18, Value.int .i64 y13.2.f_many], .row A88 c89 35 37 (lv90).length ((lv90).flatMap e_packet_Key), .row A20 c21 74 39 (y13.1).length ((y13.1).flatMap e_table_Slot)] ∧ F_table_Table_Keys_L1 y13 k95 lv90 t92 = some r) ?_ ?_
 ·replace hM := hM.nilrow 35 37
  replace hM := hM.pick [1, 0, 3, 2] rfl (by decide)
  exact fun a ha => ⟨fuel0, none, 0, ([]), 0, ha.less (less_cons rfl (less_cons rfl (less_cons rfl (less_cons rfl less_nil)))), hM, hF⟩
 ·rintro k95 a w93 ⟨A88, c89, lv90, t92, ha, hM, hF⟩
  refine KC.app ha ?_
  clear ha
  cases k95 with
  | zero => exact (none_some hF).elim
  | succ k95 =>
  have hF : F_table_Table_Keys_l1 (F_table_Table_Keys_L1 y13 k95) y13 lv90 t92 = some r := hF
  unfold F_table_Table_Keys_l1 at hF
  refine KC.seqH fun Q96 hQ96 => ?_
  refine KC.region ?_
  refine RL.val (O.lss rfl rfl) rfl ?_
  refine RL.nil ?_
  refine KQ.thn hQ96 ?_
  clear hQ96 Q96
  refine KC.seqH fun Q97 hQ97 => ?_
  refine KC.cond rfl (fun hc => ?_) (fun hc => ?_)
  ·rw [if_pos hc] at hF
   refine KC.skip ?_
   refine KQ.thn hQ97 ?_
   clear hQ97 Q97
   refine KC.cut (fun a w122 => ∃ (A118 : Option Addr) (c119 : Nat) (lv120 : List T_packet_Key), Kn 26 [(2, .slice A118 (lv120).length c119), (9, .slice A20 (y13.1).length c21), (10, Value.int .i64 (y13.1.length : Int)), (11, Value.int .i64 t92)] a ∧ Mem w [some g2, rblk A4 c5] w122 [.row A17 c18 74 39 (y13.2.f_slots).length ((y13.2.f_slots).flatMap e_table_Slot), .box g2 tg7 [.slice A17 (y13.2.f_slots).length c18, Value.int .i64 y13.2.f_many], .row A118 c119 35 37 (lv120).length ((lv120).flatMap e_packet_Key), .row A20 c21 74 39 (y13.1).length ((y13.1).flatMap e_table_Slot)] ∧ F_table_Table_Keys_j1 t92 (F_table_Table_Keys_L1 y13 k95) lv120 = some r) ?_ ?_
   ·refine KC.block ?_
    refine KC.seqH fun Q98 hQ98 => ?_
    refine KC.region ?_
    refine obindE hF fun xv101 hx100 hF => ?_
    have hA99 := Rd.atN (f := e_table_Slot) (s := 39) (fun _ => rfl) (by decide) (hM.rd (i := 3) rfl) hx100
    refine RL.val (O.idxA sl65 (hA99) rfl rfl) rfl ?_
    refine RL.val (O.loadN (cs := [Value.bool xv101.f_Used, Value.bool xv101.f_Key.f_Src.f_Six, o8 xv101.f_Key.f_Src.f_B 0, o8 xv101.f_Key.f_Src.f_B 1, o8 xv101.f_Key.f_Src.f_B 2, o8 xv101.f_Key.f_Src.f_B 3, o8 xv101.f_Key.f_Src.f_B 4, o8 xv101.f_Key.f_Src.f_B 5, o8 xv101.f_Key.f_Src.f_B 6, o8 xv101.f_Key.f_Src.f_B 7, o8 xv101.f_Key.f_Src.f_B 8, o8 xv101.f_Key.f_Src.f_B 9, o8 xv101.f_Key.f_Src.f_B 10, o8 xv101.f_Key.f_Src.f_B 11, o8 xv101.f_Key.f_Src.f_B 12, o8 xv101.f_Key.f_Src.f_B 13, o8 xv101.f_Key.f_Src.f_B 14, o8 xv101.f_Key.f_Src.f_B 15, Value.bool xv101.f_Key.f_Dst.f_Six, o8 xv101.f_Key.f_Dst.f_B 0, o8 xv101.f_Key.f_Dst.f_B 1, o8 xv101.f_Key.f_Dst.f_B 2, o8 xv101.f_Key.f_Dst.f_B 3, o8 xv101.f_Key.f_Dst.f_B 4, o8 xv101.f_Key.f_Dst.f_B 5, o8 xv101.f_Key.f_Dst.f_B 6, o8 xv101.f_Key.f_Dst.f_B 7, o8 xv101.f_Key.f_Dst.f_B 8, o8 xv101.f_Key.f_Dst.f_B 9, o8 xv101.f_Key.f_Dst.f_B 10, o8 xv101.f_Key.f_Dst.f_B 11, o8 xv101.f_Key.f_Dst.f_B 12, o8 xv101.f_Key.f_Dst.f_B 13, o8 xv101.f_Key.f_Dst.f_B 14, o8 xv101.f_Key.f_Dst.f_B 15, Value.int .u8 xv101.f_Key.f_Proto, Value.int .u16 xv101.f_Key.f_SrcPort, Value.int .u16 xv101.f_Key.f_DstPort, Value.int .u64 xv101.f_N]) ag74 rfl (hA99).cells) rfl ?_
    refine RL.eff (E.alloc hM ze74) rfl fun v w103 hv => ?_
    clear hM
    obtain ⟨g102, rfl, hM, hf⟩ := hv
    refine RL.effs (E.stB (j := 4) (off := 0) (vs := [Value.bool xv101.f_Used, Value.bool xv101.f_Key.f_Src.f_Six, o8 xv101.f_Key.f_Src.f_B 0, o8 xv101.f_Key.f_Src.f_B 1, o8 xv101.f_Key.f_Src.f_B 2, o8 xv101.f_Key.f_Src.f_B 3, o8 xv101.f_Key.f_Src.f_B 4, o8 xv101.f_Key.f_Src.f_B 5, o8 xv101.f_Key.f_Src.f_B 6, o8 xv101.f_Key.f_Src.f_B 7, o8 xv101.f_Key.f_Src.f_B 8, o8 xv101.f_Key.f_Src.f_B 9, o8 xv101.f_Key.f_Src.f_B 10, o8 xv101.f_Key.f_Src.f_B 11, o8 xv101.f_Key.f_Src.f_B 12, o8 xv101.f_Key.f_Src.f_B 13, o8 xv101.f_Key.f_Src.f_B 14, o8 xv101.f_Key.f_Src.f_B 15, Value.bool xv101.f_Key.f_Dst.f_Six, o8 xv101.f_Key.f_Dst.f_B 0, o8 xv101.f_Key.f_Dst.f_B 1, o8 xv101.f_Key.f_Dst.f_B 2, o8 xv101.f_Key.f_Dst.f_B 3, o8 xv101.f_Key.f_Dst.f_B 4, o8 xv101.f_Key.f_Dst.f_B 5, o8 xv101.f_Key.f_Dst.f_B 6, o8 xv101.f_Key.f_Dst.f_B 7, o8 xv101.f_Key.f_Dst.f_B 8, o8 xv101.f_Key.f_Dst.f_B 9, o8 xv101.f_Key.f_Dst.f_B 10, o8 xv101.f_Key.f_Dst.f_B 11, o8 xv101.f_Key.f_Dst.f_B 12, o8 xv101.f_Key.f_Dst.f_B 13, o8 xv101.f_Key.f_Dst.f_B 14, o8 xv101.f_Key.f_Dst.f_B 15, Value.int .u8 xv101.f_Key.f_Proto, Value.int .u16 xv101.f_Key.f_SrcPort, Value.int .u16 xv101.f_Key.f_DstPort, Value.int .u64 xv101.f_N]) (cs' := [Value.bool xv101.f_Used, Value.bool xv101.f_Key.f_Src.f_Six, o8 xv101.f_Key.f_Src.f_B 0, o8 xv101.f_Key.f_Src.f_B 1, o8 xv101.f_Key.f_Src.f_B 2, o8 xv101.f_Key.f_Src.f_B 3, o8 xv101.f_Key.f_Src.f_B 4, o8 xv101.f_Key.f_Src.f_B 5, o8 xv101.f_Key.f_Src.f_B 6, o8 xv101.f_Key.f_Src.f_B 7, o8 xv101.f_Key.f_Src.f_B 8, o8 xv101.f_Key.f_Src.f_B 9, o8 xv101.f_Key.f_Src.f_B 10, o8 xv101.f_Key.f_Src.f_B 11, o8 xv101.f_Key.f_Src.f_B 12, o8 xv101.f_Key.f_Src.f_B 13, o8 xv101.f_Key.f_Src.f_B 14, o8 xv101.f_Key.f_Src.f_B 15, Value.bool xv101.f_Key.f_Dst.f_Six, o8 xv101.f_Key.f_Dst.f_B 0, o8 xv101.f_Key.f_Dst.f_B 1, o8 xv101.f_Key.f_Dst.f_B 2, o8 xv101.f_Key.f_Dst.f_B 3, o8 xv101.f_Key.f_Dst.f_B 4, o8 xv101.f_Key.f_Dst.f_B 5, o8 xv101.f_Key.f_Dst.f_B 6, o8 xv101.f_Key.f_Dst.f_B 7, o8 xv101.f_Key.f_Dst.f_B 8, o8 xv101.f_Key.f_Dst.f_B 9, o8 xv101.f_Key.f_Dst.f_B 10, o8 xv101.f_Key.f_Dst.f_B 11, o8 xv101.f_Key.f_Dst.f_B 12, o8 xv101.f_Key.f_Dst.f_B 13, o8 xv101.f_Key.f_Dst.f_B 14, o8 xv101.f_Key.f_Dst.f_B 15, Value.int .u8 xv101.f_Key.f_Proto, Value.int .u16 xv101.f_Key.f_SrcPort, Value.int .u16 xv101.f_Key.f_DstPort, Value.int .u64 xv101.f_N]) hM rfl sz74 rfl (adds_eq [] rfl) rfl rfl (One.all rfl) rfl rfl) fun w105 hM1 => ?_
    clear hM
    have hM := hM1
    clear hM1
    refine RL.nil ?_
    refine KQ.thn hQ98 ?_
    clear hQ98 Q98
    refine KC.seqH fun Q106 hQ106 => ?_
    refine KC.region ?_
    refine RL.val (O.fldA fl74_0 (by decide) rfl) rfl ?_
    refine RL.val (O.load sc4 rfl (Cs.adds [0] ((hM.bx (i := 4) rfl)) rfl)) rfl ?_
    refine RL.nil ?_
    refine KQ.thn hQ106 ?_
    clear hQ106 Q106
    refine KC.cond rfl (fun hc => ?_) (fun hc => ?_)
    ·rw [if_pos hc] at hF
     refine KC.region ?_
     refine RL.val (O.move rfl) rfl ?_
     refine RL.val (O.fldA fl74_1 (by decide) rfl) rfl ?_
     refine RL.val (O.loadN (cs := [Value.bool xv101.f_Key.f_Src.f_Six, o8 xv101.f_Key.f_Src.f_B 0, o8 xv101.f_Key.f_Src.f_B 1, o8 xv101.f_Key.f_Src.f_B 2, o8 xv101.f_Key.f_Src.f_B 3, o8 xv101.f_Key.f_Src.f_B 4, o8 xv101.f_Key.f_Src.f_B 5, o8 xv101.f_Key.f_Src.f_B 6, o8 xv101.f_Key.f_Src.f_B 7, o8 xv101.f_Key.f_Src.f_B 8, o8 xv101.f_Key.f_Src.f_B 9, o8 xv101.f_Key.f_Src.f_B 10, o8 xv101.f_Key.f_Src.f_B 11, o8 xv101.f_Key.f_Src.f_B 12, o8 xv101.f_Key.f_Src.f_B 13, o8 xv101.f_Key.f_Src.f_B 14, o8 xv101.f_Key.f_Src.f_B 15, Value.bool xv101.f_Key.f_Dst.f_Six, o8 xv101.f_Key.f_Dst.f_B 0, o8 xv101.f_Key.f_Dst.f_B 1, o8 xv101.f_Key.f_Dst.f_B 2, o8 xv101.f_Key.f_Dst.f_B 3, o8 xv101.f_Key.f_Dst.f_B 4, o8 xv101.f_Key.f_Dst.f_B 5, o8 xv101.f_Key.f_Dst.f_B 6, o8 xv101.f_Key.f_Dst.f_B 7, o8 xv101.f_Key.f_Dst.f_B 8, o8 xv101.f_Key.f_Dst.f_B 9, o8 xv101.f_Key.f_Dst.f_B 10, o8 xv101.f_Key.f_Dst.f_B 11, o8 xv101.f_Key.f_Dst.f_B 12, o8 xv101.f_Key.f_Dst.f_B 13, o8 xv101.f_Key.f_Dst.f_B 14, o8 xv101.f_Key.f_Dst.f_B 15, Value.int .u8 xv101.f_Key.f_Proto, Value.int .u16 xv101.f_Key.f_SrcPort, Value.int .u16 xv101.f_Key.f_DstPort]) ag35 rfl (Cs.addsN [1] ((hM.bx (i := 4) rfl)) rfl)) rfl ?_
     refine RL.eff (E.bsl (enc := e_packet_Key) (xs := ([xv101.f_Key] : List T_packet_Key)) hM sl28 ze35 rfl rfl rfl (fun _ => rfl) rfl (by kernel_rfl) rfl) rfl fun v w107 hv => ?_
     clear hM
     obtain ⟨A108, rfl, hM, hf⟩ := hv
     refine cut_someE hF fun hq113 hF => ?_
     refine RL.eff (E.app (enc := e_packet_Key) (xs := lv90) (ys := ([xv101.f_Key] : List T_packet_Key)) (j := 2) hM rfl sl28 ze35 rfl rfl rfl rfl rfl (hM.rd (i := 5) rfl) (fun _ => One.all rfl) (of_decide_eq_true hq113)) rfl fun v w112 hv => ?_
     clear hM
     obtain ⟨A110, c111, rfl, hM, hf⟩ := hv
     refine RL.val (O.assign rfl) rfl ?_
     refine RL.nil ?_
     refine KQ.blk_n ?_
     refine KQ.then_k ?_
     replace hM := hM.pick [0, 1, 2, 3] rfl (by decide)
     exact fun a ha => ⟨A110, c111, (lv90 ++ ([xv101.f_Key] : List T_packet_Key)), ha.less (less_cons rfl (less_cons rfl (less_cons rfl (less_cons rfl less_nil)))), hM, hF⟩
    ·rw [if_neg (ne_true hc)] at hF
     refine KC.skip ?_
     refine KQ.blk_n ?_
     refine KQ.then_k ?_
     replace hM := hM.pick [0, 1, 2, 3] rfl (by decide)
     exact fun a ha => ⟨A88, c89, lv90, ha.less (less_cons rfl (less_cons rfl (less_cons rfl (less_cons rfl less_nil)))), hM, hF⟩
   ·rintro a w122 ⟨A118, c119, lv120, ha, hM, hF⟩
    refine KC.app ha ?_
    clear ha
    unfold F_table_Table_Keys_j1 at hF
    refine KC.region ?_
    refine RL.val (O.add rfl rfl) rfl ?_
    refine RL.val (O.move rfl) rfl ?_
    refine RL.nil ?_
    refine KQ.then_k ?_
    exact fun a ha => ⟨k95, Nat.lt_succ_self k95, A118, c119, lv120, (IntKind.i64.wrap (t92 + 1)), ha.less (less_cons rfl (less_cons rfl (less_cons rfl (less_cons rfl less_nil)))), hM, hF⟩
  ·rw [if_neg (ne_true hc)] at hF
   refine KC.exit ?_
   refine KQ.thx hQ97 ?_
   clear hQ97 Q97
   refine KQ.then_x ?_
   refine KQ.blk_x ?_
   refine KQ.thn hQ11 ?_
   clear hQ11 Q11
   replace hM := hM.pick [0, 1, 2] rfl (by decide)
   refine KC.seqH fun Q123 hQ123 => ?_
   refine KC.region ?_
   refine RL.val (O.move rfl) rfl ?_
   refine obindE hF fun y124 hx125 hF => ?_
   refine RL.call Try.func44 bd44 rfl rfl (c_slices_SortFunc_packet_Key_packet_Key_packet_Cmp _ _ _ lv90 (hM.lent [2] rfl (by decide)) _ hx125) fun v w126 hv => ?_
   obtain ⟨rfl, hw128, hN127⟩ := hv
   replace hM := hM.callL [2] [0, 1] rfl rfl (by decide) rfl hN127
   refine RL.reslot (t := 2) rfl hw128 ?_
   refine RL.reslot (t := 23) rfl hw128 ?_
   refine RL.nil ?_
   refine KQ.thn hQ123 ?_
   clear hQ123 Q123
   refine KC.seqH fun Q129 hQ129 => ?_
   refine KC.region ?_
   refine RL.val (O.move rfl) rfl ?_
   refine RL.val (O.assign rfl) rfl ?_
   refine RL.nil ?_
   refine KQ.thn hQ129 ?_
   clear hQ129 Q129
   refine KC.ret ?_
   have hE := Option.some.inj hF
   clear hF
   subst hE
   replace hM := hM.pick [1, 0, 2] rfl (by decide)
   refine KQ.rets Try.results29 (RVs.cons (RV.tm rfl) RVs.nil) ?_
   exact ⟨_, rfl, A17, c18, A88, c89, rfl, hM⟩
set_option maxRecDepth 100000 in
set_option maxHeartbeats 40000000 in
theorem c_ref08_Cmp (w : World) (av1 : T_ref08_Key) (b2 : T_ref08_Key) (r : Int) (hF : F_ref08_Cmp av1 b2 = some r) :
  CallsR Try.prog 42 [.agg #[Value.bool av1.f_Src.f_Six, o8 av1.f_Src.f_B 0, o8 av1.f_Src.f_B 1, o8 av1.f_Src.f_B 2, o8 av1.f_Src.f_B 3, o8 av1.f_Src.f_B 4, o8 av1.f_Src.f_B 5, o8 av1.f_Src.f_B 6, o8 av1.f_Src.f_B 7, o8 av1.f_Src.f_B 8, o8 av1.f_Src.f_B 9, o8 av1.f_Src.f_B 10, o8 av1.f_Src.f_B 11, o8 av1.f_Src.f_B 12, o8 av1.f_Src.f_B 13, o8 av1.f_Src.f_B 14, o8 av1.f_Src.f_B 15, Value.bool av1.f_Dst.f_Six, o8 av1.f_Dst.f_B 0, o8 av1.f_Dst.f_B 1, o8 av1.f_Dst.f_B 2, o8 av1.f_Dst.f_B 3, o8 av1.f_Dst.f_B 4, o8 av1.f_Dst.f_B 5, o8 av1.f_Dst.f_B 6, o8 av1.f_Dst.f_B 7, o8 av1.f_Dst.f_B 8, o8 av1.f_Dst.f_B 9, o8 av1.f_Dst.f_B 10, o8 av1.f_Dst.f_B 11, o8 av1.f_Dst.f_B 12, o8 av1.f_Dst.f_B 13, o8 av1.f_Dst.f_B 14, o8 av1.f_Dst.f_B 15, Value.int .u8 av1.f_Proto, Value.int .u16 av1.f_SrcPort, Value.int .u16 av1.f_DstPort], .agg #[Value.bool b2.f_Src.f_Six, o8 b2.f_Src.f_B 0, o8 b2.f_Src.f_B 1, o8 b2.f_Src.f_B 2, o8 b2.f_Src.f_B 3, o8 b2.f_Src.f_B 4, o8 b2.f_Src.f_B 5, o8 b2.f_Src.f_B 6, o8 b2.f_Src.f_B 7, o8 b2.f_Src.f_B 8, o8 b2.f_Src.f_B 9, o8 b2.f_Src.f_B 10, o8 b2.f_Src.f_B 11, o8 b2.f_Src.f_B 12, o8 b2.f_Src.f_B 13, o8 b2.f_Src.f_B 14, o8 b2.f_Src.f_B 15, Value.bool b2.f_Dst.f_Six, o8 b2.f_Dst.f_B 0, o8 b2.f_Dst.f_B 1, o8 b2.f_Dst.f_B 2, o8 b2.f_Dst.f_B 3, o8 b2.f_Dst.f_B 4, o8 b2.f_Dst.f_B 5, o8 b2.f_Dst.f_B 6, o8 b2.f_Dst.f_B 7, o8 b2.f_Dst.f_B 8, o8 b2.f_Dst.f_B 9, o8 b2.f_Dst.f_B 10, o8 b2.f_Dst.f_B 11, o8 b2.f_Dst.f_B 12, o8 b2.f_Dst.f_B 13, o8 b2.f_Dst.f_B 14, o8 b2.f_Dst.f_B 15, Value.int .u8 b2.f_Proto, Value.int .u16 b2.f_SrcPort, Value.int .u16 b2.f_DstPort]] w (fun v w' => v = Value.int .i64 r ∧ Mem w [] w' []) := by
 refine calls_KC Try.func42 rfl Try.ntmps42 rfl ?_
 have hM := Mem.init w
 unfold F_ref08_Cmp at hF
 refine KC.seqH fun Q3 hQ3 => ?_
 refine KC.region ?_
 refine RL.eff (E.box (vs := [Value.bool av1.f_Src.f_Six, o8 av1.f_Src.f_B 0, o8 av1.f_Src.f_B 1, o8 av1.f_Src.f_B 2, o8 av1.f_Src.f_B 3, o8 av1.f_Src.f_B 4, o8 av1.f_Src.f_B 5, o8 av1.f_Src.f_B 6, o8 av1.f_Src.f_B 7, o8 av1.f_Src.f_B 8, o8 av1.f_Src.f_B 9, o8 av1.f_Src.f_B 10, o8 av1.f_Src.f_B 11, o8 av1.f_Src.f_B 12, o8 av1.f_Src.f_B 13, o8 av1.f_Src.f_B 14, o8 av1.f_Src.f_B 15, Value.bool av1.f_Dst.f_Six, o8 av1.f_Dst.f_B 0, o8 av1.f_Dst.f_B 1, o8 av1.f_Dst.f_B 2, o8 av1.f_Dst.f_B 3, o8 av1.f_Dst.f_B 4, o8 av1.f_Dst.f_B 5, o8 av1.f_Dst.f_B 6, o8 av1.f_Dst.f_B 7, o8 av1.f_Dst.f_B 8, o8 av1.f_Dst.f_B 9, o8 av1.f_Dst.f_B 10, o8 av1.f_Dst.f_B 11, o8 av1.f_Dst.f_B 12, o8 av1.f_Dst.f_B 13, o8 av1.f_Dst.f_B 14, o8 av1.f_Dst.f_B 15, Value.int .u8 av1.f_Proto, Value.int .u16 av1.f_SrcPort, Value.int .u16 av1.f_DstPort]) hM rfl rfl) rfl fun v w5 hv => ?_
 clear hM
 obtain ⟨g4, rfl, hM, hf⟩ := hv
 refine RL.eff (E.box (vs := [Value.bool b2.f_Src.f_Six, o8 b2.f_Src.f_B 0, o8 b2.f_Src.f_B 1, o8 b2.f_Src.f_B 2, o8 b2.f_Src.f_B 3, o8 b2.f_Src.f_B 4, o8 b2.f_Src.f_B 5, o8 b2.f_Src.f_B 6, o8 b2.f_Src.f_B 7, o8 b2.f_Src.f_B 8, o8 b2.f_Src.f_B 9, o8 b2.f_Src.f_B 10, o8 b2.f_Src.f_B 11, o8 b2.f_Src.f_B 12, o8 b2.f_Src.f_B 13, o8 b2.f_Src.f_B 14, o8 b2.f_Src.f_B 15, Value.bool b2.f_Dst.f_Six, o8 b2.f_Dst.f_B 0, o8 b2.f_Dst.f_B 1, o8 b2.f_Dst.f_B 2, o8 b2.f_Dst.f_B 3, o8 b2.f_Dst.f_B 4, o8 b2.f_Dst.f_B 5, o8 b2.f_Dst.f_B 6, o8 b2.f_Dst.f_B 7, o8 b2.f_Dst.f_B 8, o8 b2.f_Dst.f_B 9, o8 b2.f_Dst.f_B 10, o8 b2.f_Dst.f_B 11, o8 b2.f_Dst.f_B 12, o8 b2.f_Dst.f_B 13, o8 b2.f_Dst.f_B 14, o8 b2.f_Dst.f_B 15, Value.int .u8 b2.f_Proto, Value.int .u16 b2.f_SrcPort, Value.int .u16 b2.f_DstPort]) hM rfl rfl) rfl fun v w8 hv => ?_
 clear hM
 obtain ⟨g7, rfl, hM, hf⟩ := hv
 refine RL.val (O.assign rfl) rfl ?_
 refine RL.nil ?_
 refine KQ.thn hQ3 ?_
 clear hQ3 Q3
 refine KC.seqH fun Q10 hQ10 => ?_
 replace hM := hM.drewN 1
 refine KC.draw [] [] [1, 4] [6, 7] (.ofList [0, 3, 1, 2, 4, 5, 6, 7]) moP (by kernel_rfl) ?_
 refine RD.q rfl rfl rfl rfl (fun w' hf => O.loadN (cs := [Value.bool av1.f_Src.f_Six, o8 av1.f_Src.f_B 0, o8 av1.f_Src.f_B 1, o8 av1.f_Src.f_B 2, o8 av1.f_Src.f_B 3, o8 av1.f_Src.f_B 4, o8 av1.f_Src.f_B 5, o8 av1.f_Src.f_B 6, o8 av1.f_Src.f_B 7, o8 av1.f_Src.f_B 8, o8 av1.f_Src.f_B 9, o8 av1.f_Src.f_B 10, o8 av1.f_Src.f_B 11, o8 av1.f_Src.f_B 12, o8 av1.f_Src.f_B 13, o8 av1.f_Src.f_B 14, o8 av1.f_Src.f_B 15, Value.bool av1.f_Dst.f_Six, o8 av1.f_Dst.f_B 0, o8 av1.f_Dst.f_B 1, o8 av1.f_Dst.f_B 2, o8 av1.f_Dst.f_B 3, o8 av1.f_Dst.f_B 4, o8 av1.f_Dst.f_B 5, o8 av1.f_Dst.f_B 6, o8 av1.f_Dst.f_B 7, o8 av1.f_Dst.f_B 8, o8 av1.f_Dst.f_B 9, o8 av1.f_Dst.f_B 10, o8 av1.f_Dst.f_B 11, o8 av1.f_Dst.f_B 12, o8 av1.f_Dst.f_B 13, o8 av1.f_Dst.f_B 14, o8 av1.f_Dst.f_B 15, Value.int .u8 av1.f_Proto, Value.int .u16 av1.f_SrcPort, Value.int .u16 av1.f_DstPort]) ag54 rfl (Cs.addsN [] ((hM.bx (i := 0) rfl).fut hf) rfl)) ?_
 refine RD.q rfl rfl rfl rfl (fun w' hf => O.loadN (cs := [Value.bool b2.f_Src.f_Six, o8 b2.f_Src.f_B 0, o8 b2.f_Src.f_B 1, o8 b2.f_Src.f_B 2, o8 b2.f_Src.f_B 3, o8 b2.f_Src.f_B 4, o8 b2.f_Src.f_B 5, o8 b2.f_Src.f_B 6, o8 b2.f_Src.f_B 7, o8 b2.f_Src.f_B 8, o8 b2.f_Src.f_B 9, o8 b2.f_Src.f_B 10, o8 b2.f_Src.f_B 11, o8 b2.f_Src.f_B 12, o8 b2.f_Src.f_B 13, o8 b2.f_Src.f_B 14, o8 b2.f_Src.f_B 15, Value.bool b2.f_Dst.f_Six, o8 b2.f_Dst.f_B 0, o8 b2.f_Dst.f_B 1, o8 b2.f_Dst.f_B 2, o8 b2.f_Dst.f_B 3, o8 b2.f_Dst.f_B 4, o8 b2.f_Dst.f_B 5, o8 b2.f_Dst.f_B 6, o8 b2.f_Dst.f_B 7, o8 b2.f_Dst.f_B 8, o8 b2.f_Dst.f_B 9, o8 b2.f_Dst.f_B 10, o8 b2.f_Dst.f_B 11, o8 b2.f_Dst.f_B 12, o8 b2.f_Dst.f_B 13, o8 b2.f_Dst.f_B 14, o8 b2.f_Dst.f_B 15, Value.int .u8 b2.f_Proto, Value.int .u16 b2.f_SrcPort, Value.int .u16 b2.f_DstPort]) ag54 rfl (Cs.addsN [] ((hM.bx (i := 1) rfl).fut hf) rfl)) ?_
 refine obindE hF fun y11 hx12 hF => ?_
 refine RD.mcall rfl rfl trivial Try.func40 bd40 rfl rfl (c_ref08_Bytes _ av1 _ hx12) fun v w13 hv => ?_
 obtain ⟨A15, c16, rfl, hN14⟩ := hv
 refine ⟨fun _ => hN14.fut, ?_⟩
 replace hM := hM.call hN14
 refine RD.q rfl rfl rfl rfl (fun w' hf => O.b2s sl81 Try.underlying5 Try.underlying9 rfl ((hM.rd (i := 2) rfl).fut hf)) ?_
 refine obindE hF fun y18 hx19 hF => ?_
 refine RD.mcall rfl rfl trivial Try.func40 bd40 rfl rfl (c_ref08_Bytes _ b2 _ hx19) fun v w20 hv => ?_
 obtain ⟨A22, c23, rfl, hN21⟩ := hv
 refine ⟨fun _ => hN21.fut, ?_⟩
 replace hM := hM.call hN21
 refine RD.q rfl rfl rfl rfl (fun w' hf => O.b2s sl81 Try.underlying5 Try.underlying9 rfl ((hM.rd (i := 3) rfl).fut hf)) ?_
 refine RD.p rfl rfl rfl rfl (fun w' => O.assign rfl) ?_
 refine RD.p rfl rfl rfl rfl (fun w' => O.assign rfl) ?_
 refine RD.nil ?_
 refine KQ.thn hQ10 ?_
 clear hQ10 Q10
 replace hM := hM.pick [] rfl (by decide)
 refine KC.seqH fun Q25 hQ25 => ?_
 refine KC.seqH fun Q26 hQ26 => ?_
 refine KC.region ?_
 refine RL.val (O.move rfl) rfl ?_
 refine RL.val (O.move rfl) rfl ?_
 refine RL.val (O.strlss rfl rfl) rfl ?_
 refine RL.nil ?_
 refine KQ.thn hQ26 ?_
 clear hQ26 Q26
 refine KC.cond rfl (fun hc => ?_) (fun hc => ?_)
 ·rw [if_pos hc] at hF
  refine KC.seqH fun Q27 hQ27 => ?_
  refine KC.region ?_
  refine RL.val (O.assign rfl) rfl ?_
  refine RL.nil ?_
  refine KQ.thn hQ27 ?_
  clear hQ27 Q27
  refine KC.ret ?_
  refine KQ.thr hQ25 ?_
  clear hQ25 Q25
  have hE := Option.some.inj hF
  clear hF
  subst hE
  refine KQ.rets Try.results42 (RVs.cons (RV.tm rfl) RVs.nil) ?_
  exact ⟨_, rfl, rfl, hM⟩
 ·rw [if_neg (ne_true hc)] at hF
  refine KC.skip ?_
  refine KQ.thn hQ25 ?_
  clear hQ25 Q25
  refine KC.seqH fun Q28 hQ28 => ?_
  refine KC.seqH fun Q29 hQ29 => ?_
  refine KC.region ?_
  refine RL.val (O.move rfl) rfl ?_
  refine RL.val (O.move rfl) rfl ?_
  refine RL.val (O.strgtr rfl rfl) rfl ?_
  refine RL.nil ?_
  refine KQ.thn hQ29 ?_
  clear hQ29 Q29
  refine KC.cond rfl (fun hc => ?_) (fun hc => ?_)
  ·rw [if_pos hc] at hF
   refine KC.seqH fun Q30 hQ30 => ?_
   refine KC.region ?_
   refine RL.val (O.assign rfl) rfl ?_
   refine RL.nil ?_
   refine KQ.thn hQ30 ?_
   clear hQ30 Q30
   refine KC.ret ?_
   refine KQ.thr hQ28 ?_
   clear hQ28 Q28
   have hE := Option.some.inj hF
   clear hF
   subst hE
   refine KQ.rets Try.results42 (RVs.cons (RV.tm rfl) RVs.nil) ?_
   exact ⟨_, rfl, rfl, hM⟩
  ·rw [if_neg (ne_true hc)] at hF
   refine KC.skip ?_
   refine KQ.thn hQ28 ?_
   clear hQ28 Q28
   refine KC.seqH fun Q31 hQ31 => ?_
   refine KC.region ?_
   refine RL.val (O.assign rfl) rfl ?_
   refine RL.nil ?_
   refine KQ.thn hQ31 ?_
   clear hQ31 Q31
   refine KC.ret ?_
   have hE := Option.some.inj hF
   clear hF
   subst hE
   refine KQ.rets Try.results42 (RVs.cons (RV.tm rfl) RVs.nil) ?_
   exact ⟨_, rfl, rfl, hM⟩
end Go.Proofs.Ytnbakndfnjflhaa
