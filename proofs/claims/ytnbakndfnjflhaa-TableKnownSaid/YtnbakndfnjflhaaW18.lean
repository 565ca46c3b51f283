/- Printed by a program of this claim: each call returns what the plain function of its name gives. -/
import Derived.Test.YtnbakndfnjflhaaW1
import Derived.Test.YtnbakndfnjflhaaW17
set_option linter.unusedVariables false
namespace Go.Proofs.Ytnbakndfnjflhaa
open Go Go.Ox Go.RowKit
set_option maxRecDepth 100000 in
set_option maxHeartbeats 40000000 in
theorem c_ref23_Delete (w : World) (A2 : Option Addr) (c3 : Nat) (Z4 : List Nat) (t1 : List T_ref23_Slot) (hL7 : Lent w [.res Z4 (RdP A2 c3 39 (t1).length ((t1).flatMap e_ref23_Slot))]) (kv6 : T_ref08_Key) (r : (List T_ref23_Slot) × Bool) (hF : F_ref23_Delete t1 kv6 = some r) :
  CallsR Try.prog 19 [.slice A2 (t1).length c3, .agg #[Value.bool kv6.f_Src.f_Six, o8 kv6.f_Src.f_B 0, o8 kv6.f_Src.f_B 1, o8 kv6.f_Src.f_B 2, o8 kv6.f_Src.f_B 3, o8 kv6.f_Src.f_B 4, o8 kv6.f_Src.f_B 5, o8 kv6.f_Src.f_B 6, o8 kv6.f_Src.f_B 7, o8 kv6.f_Src.f_B 8, o8 kv6.f_Src.f_B 9, o8 kv6.f_Src.f_B 10, o8 kv6.f_Src.f_B 11, o8 kv6.f_Src.f_B 12, o8 kv6.f_Src.f_B 13, o8 kv6.f_Src.f_B 14, o8 kv6.f_Src.f_B 15, Value.bool kv6.f_Dst.f_Six, o8 kv6.f_Dst.f_B 0, o8 kv6.f_Dst.f_B 1, o8 kv6.f_Dst.f_B 2, o8 kv6.f_Dst.f_B 3, o8 kv6.f_Dst.f_B 4, o8 kv6.f_Dst.f_B 5, o8 kv6.f_Dst.f_B 6, o8 kv6.f_Dst.f_B 7, o8 kv6.f_Dst.f_B 8, o8 kv6.f_Dst.f_B 9, o8 kv6.f_Dst.f_B 10, o8 kv6.f_Dst.f_B 11, o8 kv6.f_Dst.f_B 12, o8 kv6.f_Dst.f_B 13, o8 kv6.f_Dst.f_B 14, o8 kv6.f_Dst.f_B 15, Value.int .u8 kv6.f_Proto, Value.int .u16 kv6.f_SrcPort, Value.int .u16 kv6.f_DstPort]] w (fun v w' => ∃ (A0 : Option Addr) (c0 : Nat) (Z0 : List Nat), v = .tuple #[.slice A0 (r.1).length c0, Value.bool r.2] ∧ Mem w (Z4.map some ++ []) w' [.res Z0 (RdP A0 c0 39 (r.1).length ((r.1).flatMap e_ref23_Slot))]) := by
 refine calls_KC Try.func19 rfl Try.ntmps19 rfl ?_
 have hM : Mem w (Z4.map some ++ []) w [.res Z4 (RdP A2 c3 39 (t1).length ((t1).flatMap e_ref23_Slot))] := Mem.lendN hL7
 unfold F_ref23_Delete at hF
 refine KC.seqH fun Q8 hQ8 => ?_
 refine KC.region ?_
 refine RL.eff (E.box (vs := [Value.bool kv6.f_Src.f_Six, o8 kv6.f_Src.f_B 0, o8 kv6.f_Src.f_B 1, o8 kv6.f_Src.f_B 2, o8 kv6.f_Src.f_B 3, o8 kv6.f_Src.f_B 4, o8 kv6.f_Src.f_B 5, o8 kv6.f_Src.f_B 6, o8 kv6.f_Src.f_B 7, o8 kv6.f_Src.f_B 8, o8 kv6.f_Src.f_B 9, o8 kv6.f_Src.f_B 10, o8 kv6.f_Src.f_B 11, o8 kv6.f_Src.f_B 12, o8 kv6.f_Src.f_B 13, o8 kv6.f_Src.f_B 14, o8 kv6.f_Src.f_B 15, Value.bool kv6.f_Dst.f_Six, o8 kv6.f_Dst.f_B 0, o8 kv6.f_Dst.f_B 1, o8 kv6.f_Dst.f_B 2, o8 kv6.f_Dst.f_B 3, o8 kv6.f_Dst.f_B 4, o8 kv6.f_Dst.f_B 5, o8 kv6.f_Dst.f_B 6, o8 kv6.f_Dst.f_B 7, o8 kv6.f_Dst.f_B 8, o8 kv6.f_Dst.f_B 9, o8 kv6.f_Dst.f_B 10, o8 kv6.f_Dst.f_B 11, o8 kv6.f_Dst.f_B 12, o8 kv6.f_Dst.f_B 13, o8 kv6.f_Dst.f_B 14, o8 kv6.f_Dst.f_B 15, Value.int .u8 kv6.f_Proto, Value.int .u16 kv6.f_SrcPort, Value.int .u16 kv6.f_DstPort]) hM rfl rfl) rfl fun v w10 hv => ?_
 clear hM
 obtain ⟨g9, rfl, hM, hf⟩ := hv
 refine RL.val (O.assign rfl) rfl ?_
 refine RL.val (O.assign rfl) rfl ?_
 refine RL.nil ?_
 refine KQ.thn hQ8 ?_
 clear hQ8 Q8
 refine KC.seqH fun Q12 hQ12 => ?_
 refine KC.region ?_
 refine RL.val (O.move rfl) rfl ?_
 refine RL.val (O.loadN (cs := [Value.bool kv6.f_Src.f_Six, o8 kv6.f_Src.f_B 0, o8 kv6.f_Src.f_B 1, o8 kv6.f_Src.f_B 2, o8 kv6.f_Src.f_B 3, o8 kv6.f_Src.f_B 4, o8 kv6.f_Src.f_B 5, o8 kv6.f_Src.f_B 6, o8 kv6.f_Src.f_B 7, o8 kv6.f_Src.f_B 8, o8 kv6.f_Src.f_B 9, o8 kv6.f_Src.f_B 10, o8 kv6.f_Src.f_B 11, o8 kv6.f_Src.f_B 12, o8 kv6.f_Src.f_B 13, o8 kv6.f_Src.f_B 14, o8 kv6.f_Src.f_B 15, Value.bool kv6.f_Dst.f_Six, o8 kv6.f_Dst.f_B 0, o8 kv6.f_Dst.f_B 1, o8 kv6.f_Dst.f_B 2, o8 kv6.f_Dst.f_B 3, o8 kv6.f_Dst.f_B 4, o8 kv6.f_Dst.f_B 5, o8 kv6.f_Dst.f_B 6, o8 kv6.f_Dst.f_B 7, o8 kv6.f_Dst.f_B 8, o8 kv6.f_Dst.f_B 9, o8 kv6.f_Dst.f_B 10, o8 kv6.f_Dst.f_B 11, o8 kv6.f_Dst.f_B 12, o8 kv6.f_Dst.f_B 13, o8 kv6.f_Dst.f_B 14, o8 kv6.f_Dst.f_B 15, Value.int .u8 kv6.f_Proto, Value.int .u16 kv6.f_SrcPort, Value.int .u16 kv6.f_DstPort]) ag54 rfl (Cs.addsN [] ((hM.bx (i := 1) rfl)) rfl)) rfl ?_
 refine obindE hF fun y13 hx14 hF => ?_
 refine RL.call Try.func23 bd23 rfl rfl (c_ref23_Find _ _ _ t1 (hM.rdP (i := 0) rfl) kv6 _ hx14) fun v w15 hv => ?_
 obtain ⟨rfl, hN16⟩ := hv
 replace hM := hM.call0 hN16
 refine RL.val (O.move rfl) rfl ?_
 refine RL.val (O.ext rfl rfl) rfl ?_
 refine RL.val (O.ext rfl rfl) rfl ?_
 refine RL.val (O.assign rfl) rfl ?_
 refine RL.val (O.assign rfl) rfl ?_
 refine RL.nil ?_
 refine KQ.thn hQ12 ?_
 clear hQ12 Q12
 refine KC.seqH fun Q17 hQ17 => ?_
 refine KC.cut (fun a w23 => ∃ (t22 : Bool), Kn 73 [(0, .slice A2 (t1).length c3), (6, Value.int .i64 y13.1), (27, Value.bool t22)] a ∧ Mem w (Z4.map some ++ []) w23 [.res Z4 (RdP A2 c3 39 (t1).length ((t1).flatMap e_ref23_Slot))] ∧ F_ref23_Delete_j1 t1 y13 t22 = some r) ?_ ?_
 ·refine KC.region ?_
  refine RL.val (O.move rfl) rfl ?_
  refine RL.val (O.lss rfl rfl) rfl ?_
  refine RL.val (O.move rfl) rfl ?_
  refine RL.bcase (t := 20) rfl (fun hc => ?_) (fun hc => ?_)
  ·rw [if_pos hc] at hF
   refine RL.brun1 7 27 true (by kernel_rfl) ?_
   refine RL.nil ?_
   refine KQ.then_k ?_
   replace hM := hM.pick [0] rfl (by decide)
   exact fun a ha => ⟨true, ha.less (less_cons rfl (less_cons rfl (less_cons rfl less_nil))), hM, hF⟩
  ·rw [if_neg (ne_true hc)] at hF
   refine RL.gval rfl rfl (O.move rfl) rfl ?_
   refine RL.gval rfl rfl (O.move rfl) rfl ?_
   refine obindE hF fun xv21 hx20 hF => ?_
   have hA19 := Rd.atN (f := e_ref23_Slot) (s := 39) (fun _ => rfl) (by decide) (hM.rdP (i := 0) rfl) hx20
   refine RL.gval rfl rfl (O.idxA sl49 (hA19) rfl rfl) rfl ?_
   refine RL.gval rfl rfl (O.fldA fl78_0 (by decide) rfl) rfl ?_
   refine RL.gval rfl rfl (O.load sc4 rfl (Cs.adds [0] (hA19).cells rfl)) rfl ?_
   refine RL.gval rfl rfl (O.not rfl) rfl ?_
   refine RL.val (O.pickf rfl rfl) rfl ?_
   refine RL.nil ?_
   refine KQ.then_k ?_
   replace hM := hM.pick [0] rfl (by decide)
   exact fun a ha => ⟨(!xv21.f_Used), ha.less (less_cons rfl (less_cons rfl (less_cons rfl less_nil))), hM, hF⟩
 ·rintro a w23 ⟨t22, ha, hM, hF⟩
  refine KC.app ha ?_
  clear ha
  unfold F_ref23_Delete_j1 at hF
  refine KC.cond rfl (fun hc => ?_) (fun hc => ?_)
  ·rw [if_pos hc] at hF
   refine KC.seqH fun Q24 hQ24 => ?_
   refine KC.region ?_
   refine RL.val (O.move rfl) rfl ?_
   refine RL.val (O.assign rfl) rfl ?_
   refine RL.val (O.assign rfl) rfl ?_
   refine RL.nil ?_
   refine KQ.thn hQ24 ?_
   clear hQ24 Q24
   refine KC.ret ?_
   refine KQ.thr hQ17 ?_
   clear hQ17 Q17
   have hE := Option.some.inj hF
   clear hF
   subst hE
   refine KQ.rets Try.results19 (RVs.cons (RV.tm rfl) (RVs.cons (RV.tm rfl) RVs.nil)) ?_
   exact ⟨_, rfl, A2, c3, Z4, rfl, hM⟩
  ·rw [if_neg (ne_true hc)] at hF
   refine KC.skip ?_
   refine KQ.thn hQ17 ?_
   clear hQ17 Q17
   refine KC.seqH fun Q25 hQ25 => ?_
   refine KC.region ?_
   refine RL.val (O.move rfl) rfl ?_
   refine RL.val (O.move rfl) rfl ?_
   refine RL.val (O.bld (cs := [Value.bool false, Value.bool false, o8 (List.replicate 16 0) 0, o8 (List.replicate 16 0) 1, o8 (List.replicate 16 0) 2, o8 (List.replicate 16 0) 3, o8 (List.replicate 16 0) 4, o8 (List.replicate 16 0) 5, o8 (List.replicate 16 0) 6, o8 (List.replicate 16 0) 7, o8 (List.replicate 16 0) 8, o8 (List.replicate 16 0) 9, o8 (List.replicate 16 0) 10, o8 (List.replicate 16 0) 11, o8 (List.replicate 16 0) 12, o8 (List.replicate 16 0) 13, o8 (List.replicate 16 0) 14, o8 (List.replicate 16 0) 15, Value.bool false, o8 (List.replicate 16 0) 0, o8 (List.replicate 16 0) 1, o8 (List.replicate 16 0) 2, o8 (List.replicate 16 0) 3, o8 (List.replicate 16 0) 4, o8 (List.replicate 16 0) 5, o8 (List.replicate 16 0) 6, o8 (List.replicate 16 0) 7, o8 (List.replicate 16 0) 8, o8 (List.replicate 16 0) 9, o8 (List.replicate 16 0) 10, o8 (List.replicate 16 0) 11, o8 (List.replicate 16 0) 12, o8 (List.replicate 16 0) 13, o8 (List.replicate 16 0) 14, o8 (List.replicate 16 0) 15, Value.int .u8 0, Value.int .u16 0, Value.int .u16 0, Value.int .u64 0]) bt78 rfl (by kernel_rfl)) rfl ?_
   refine obindE hF fun y26 hx27 hF => ?_
   refine RL.call Try.func37 bd37 rfl rfl (c_ref23_with _ _ _ t1 (hM.rdP (i := 0) rfl) y13.1 (T_ref23_Slot.mk false (T_ref08_Key.mk (T_addr_Addr.mk false (List.replicate 16 0)) (T_addr_Addr.mk false (List.replicate 16 0)) 0 0 0) 0) _ hx27) fun v w28 hv => ?_
   obtain ⟨A30, c31, rfl, hN29⟩ := hv
   replace hM := hM.call hN29
   refine RL.val (O.assign rfl) rfl ?_
   refine RL.nil ?_
   refine KQ.thn hQ25 ?_
   clear hQ25 Q25
   refine KC.seqH fun Q33 hQ33 => ?_
   refine KC.seqH fun Q34 hQ34 => ?_
   refine KC.region ?_
   refine RL.val (O.assign rfl) rfl ?_
   refine RL.nil ?_
   refine KQ.thn hQ34 ?_
   clear hQ34 Q34
   refine KC.block ?_
   refine KC.loop (fun k119 a w117 => ∃ (A113 : Option Addr) (c114 : Nat) (t115 : List T_ref23_Slot) (i116 : Int), Kn 73 [(0, .slice A113 (t115).length c114), (6, Value.int .i64 y13.1), (8, Value.int .i64 i116)] a ∧ Mem w (Z4.map some ++ []) w117 [.row A113 c114 78 39 (t115).length ((t115).flatMap e_ref23_Slot)] ∧ F_ref23_Delete_L1 y13 k119 t115 i116 = some r) ?_ ?_
   ·replace hM := hM.pick [1] rfl (by decide)
    exact fun a ha => ⟨fuel0, A30, c31, y26, 1, ha.less (less_cons rfl (less_cons rfl (less_cons rfl less_nil))), hM, hF⟩
   ·rintro k119 a w117 ⟨A113, c114, t115, i116, ha, hM, hF⟩
    refine KC.app ha ?_
    clear ha
    cases k119 with
    | zero => exact (none_some hF).elim
    | succ k119 =>
    have hF : F_ref23_Delete_l1 (F_ref23_Delete_L1 y13 k119) y13 t115 i116 = some r := hF
    unfold F_ref23_Delete_l1 at hF
    refine KC.seqH fun Q120 hQ120 => ?_
    refine KC.seqH fun Q121 hQ121 => ?_
    refine KC.region ?_
    refine RL.val (O.move rfl) rfl ?_
    refine RL.val (O.move rfl) rfl ?_
    refine RL.val (O.len sl49 rfl) rfl ?_
    refine RL.val (O.lss rfl rfl) rfl ?_
    refine RL.nil ?_
    refine KQ.thn hQ121 ?_
    clear hQ121 Q121
    refine KC.cond rfl (fun hc => ?_) (fun hc => ?_)
    ·rw [if_pos hc] at hF
     refine KC.skip ?_
     refine KQ.thn hQ120 ?_
     clear hQ120 Q120
     refine KC.seqH fun Q122 hQ122 => ?_
     refine KC.block ?_
     refine KC.seqH fun Q123 hQ123 => ?_
     refine KC.region ?_
     refine RL.val (O.move rfl) rfl ?_
     refine RL.val (O.move rfl) rfl ?_
     refine RL.val (O.move rfl) rfl ?_
     refine RL.val (O.add rfl rfl) rfl ?_
     refine RL.val (O.move rfl) rfl ?_
     refine RL.val (O.len sl49 rfl) rfl ?_
     refine cut_someE hF fun hq124 hF => ?_
     refine RL.val (O.rem rfl rfl (of_decide_eq_true hq124)) rfl ?_
     refine obindE hF fun xv127 hx126 hF => ?_
     have hA125 := Rd.atN (f := e_ref23_Slot) (s := 39) (fun _ => rfl) (by decide) (hM.rd (i := 0) rfl) hx126
     refine RL.val (O.idxA sl49 (hA125) rfl rfl) rfl ?_
     refine RL.val (O.loadN (cs := [Value.bool xv127.f_Used, Value.bool xv127.f_Key.f_Src.f_Six, o8 xv127.f_Key.f_Src.f_B 0, o8 xv127.f_Key.f_Src.f_B 1, o8 xv127.f_Key.f_Src.f_B 2, o8 xv127.f_Key.f_Src.f_B 3, o8 xv127.f_Key.f_Src.f_B 4, o8 xv127.f_Key.f_Src.f_B 5, o8 xv127.f_Key.f_Src.f_B 6, o8 xv127.f_Key.f_Src.f_B 7, o8 xv127.f_Key.f_Src.f_B 8, o8 xv127.f_Key.f_Src.f_B 9, o8 xv127.f_Key.f_Src.f_B 10, o8 xv127.f_Key.f_Src.f_B 11, o8 xv127.f_Key.f_Src.f_B 12, o8 xv127.f_Key.f_Src.f_B 13, o8 xv127.f_Key.f_Src.f_B 14, o8 xv127.f_Key.f_Src.f_B 15, Value.bool xv127.f_Key.f_Dst.f_Six, o8 xv127.f_Key.f_Dst.f_B 0, o8 xv127.f_Key.f_Dst.f_B 1, o8 xv127.f_Key.f_Dst.f_B 2, o8 xv127.f_Key.f_Dst.f_B 3, o8 xv127.f_Key.f_Dst.f_B 4, o8 xv127.f_Key.f_Dst.f_B 5, o8 xv127.f_Key.f_Dst.f_B 6, o8 xv127.f_Key.f_Dst.f_B 7, o8 xv127.f_Key.f_Dst.f_B 8, o8 xv127.f_Key.f_Dst.f_B 9, o8 xv127.f_Key.f_Dst.f_B 10, o8 xv127.f_Key.f_Dst.f_B 11, o8 xv127.f_Key.f_Dst.f_B 12, o8 xv127.f_Key.f_Dst.f_B 13, o8 xv127.f_Key.f_Dst.f_B 14, o8 xv127.f_Key.f_Dst.f_B 15, Value.int .u8 xv127.f_Key.f_Proto, Value.int .u16 xv127.f_Key.f_SrcPort, Value.int .u16 xv127.f_Key.f_DstPort, Value.int .u64 xv127.f_N]) ag78 rfl (hA125).cells) rfl ?_
     refine RL.eff (E.alloc hM ze78) rfl fun v w129 hv => ?_
     clear hM
     obtain ⟨g128, rfl, hM, hf⟩ := hv
     refine RL.effs (E.stB (j := 1) (off := 0) (vs := [Value.bool xv127.f_Used, Value.bool xv127.f_Key.f_Src.f_Six, o8 xv127.f_Key.f_Src.f_B 0, o8 xv127.f_Key.f_Src.f_B 1, o8 xv127.f_Key.f_Src.f_B 2, o8 xv127.f_Key.f_Src.f_B 3, o8 xv127.f_Key.f_Src.f_B 4, o8 xv127.f_Key.f_Src.f_B 5, o8 xv127.f_Key.f_Src.f_B 6, o8 xv127.f_Key.f_Src.f_B 7, o8 xv127.f_Key.f_Src.f_B 8, o8 xv127.f_Key.f_Src.f_B 9, o8 xv127.f_Key.f_Src.f_B 10, o8 xv127.f_Key.f_Src.f_B 11, o8 xv127.f_Key.f_Src.f_B 12, o8 xv127.f_Key.f_Src.f_B 13, o8 xv127.f_Key.f_Src.f_B 14, o8 xv127.f_Key.f_Src.f_B 15, Value.bool xv127.f_Key.f_Dst.f_Six, o8 xv127.f_Key.f_Dst.f_B 0, o8 xv127.f_Key.f_Dst.f_B 1, o8 xv127.f_Key.f_Dst.f_B 2, o8 xv127.f_Key.f_Dst.f_B 3, o8 xv127.f_Key.f_Dst.f_B 4, o8 xv127.f_Key.f_Dst.f_B 5, o8 xv127.f_Key.f_Dst.f_B 6, o8 xv127.f_Key.f_Dst.f_B 7, o8 xv127.f_Key.f_Dst.f_B 8, o8 xv127.f_Key.f_Dst.f_B 9, o8 xv127.f_Key.f_Dst.f_B 10, o8 xv127.f_Key.f_Dst.f_B 11, o8 xv127.f_Key.f_Dst.f_B 12, o8 xv127.f_Key.f_Dst.f_B 13, o8 xv127.f_Key.f_Dst.f_B 14, o8 xv127.f_Key.f_Dst.f_B 15, Value.int .u8 xv127.f_Key.f_Proto, Value.int .u16 xv127.f_Key.f_SrcPort, Value.int .u16 xv127.f_Key.f_DstPort, Value.int .u64 xv127.f_N]) (cs' := [Value.bool xv127.f_Used, Value.bool xv127.f_Key.f_Src.f_Six, o8 xv127.f_Key.f_Src.f_B 0, o8 xv127.f_Key.f_Src.f_B 1, o8 xv127.f_Key.f_Src.f_B 2, o8 xv127.f_Key.f_Src.f_B 3, o8 xv127.f_Key.f_Src.f_B 4, o8 xv127.f_Key.f_Src.f_B 5, o8 xv127.f_Key.f_Src.f_B 6, o8 xv127.f_Key.f_Src.f_B 7, o8 xv127.f_Key.f_Src.f_B 8, o8 xv127.f_Key.f_Src.f_B 9, o8 xv127.f_Key.f_Src.f_B 10, o8 xv127.f_Key.f_Src.f_B 11, o8 xv127.f_Key.f_Src.f_B 12, o8 xv127.f_Key.f_Src.f_B 13, o8 xv127.f_Key.f_Src.f_B 14, o8 xv127.f_Key.f_Src.f_B 15, Value.bool xv127.f_Key.f_Dst.f_Six, o8 xv127.f_Key.f_Dst.f_B 0, o8 xv127.f_Key.f_Dst.f_B 1, o8 xv127.f_Key.f_Dst.f_B 2, o8 xv127.f_Key.f_Dst.f_B 3, o8 xv127.f_Key.f_Dst.f_B 4, o8 xv127.f_Key.f_Dst.f_B 5, o8 xv127.f_Key.f_Dst.f_B 6, o8 xv127.f_Key.f_Dst.f_B 7, o8 xv127.f_Key.f_Dst.f_B 8, o8 xv127.f_Key.f_Dst.f_B 9, o8 xv127.f_Key.f_Dst.f_B 10, o8 xv127.f_Key.f_Dst.f_B 11, o8 xv127.f_Key.f_Dst.f_B 12, o8 xv127.f_Key.f_Dst.f_B 13, o8 xv127.f_Key.f_Dst.f_B 14, o8 xv127.f_Key.f_Dst.f_B 15, Value.int .u8 xv127.f_Key.f_Proto, Value.int .u16 xv127.f_Key.f_SrcPort, Value.int .u16 xv127.f_Key.f_DstPort, Value.int .u64 xv127.f_N]) hM rfl sz78 rfl (adds_eq [] rfl) rfl rfl (One.all rfl) rfl rfl) fun w131 hM1 => ?_
     clear hM
     have hM := hM1
     clear hM1
     refine RL.nil ?_
     refine KQ.thn hQ123 ?_
     clear hQ123 Q123
     refine KC.seqH fun Q132 hQ132 => ?_
     refine KC.seqH fun Q133 hQ133 => ?_
     refine KC.region ?_
     refine RL.val (O.fldA fl78_0 (by decide) rfl) rfl ?_
     refine RL.val (O.load sc4 rfl (Cs.adds [0] ((hM.bx (i := 1) rfl)) rfl)) rfl ?_
     refine RL.val (O.not rfl) rfl ?_
     refine RL.nil ?_
     refine KQ.thn hQ133 ?_
     clear hQ133 Q133
     refine KC.cond rfl (fun hc => ?_) (fun hc => ?_)
     ·rw [if_pos hc] at hF
      refine KC.seqH fun Q134 hQ134 => ?_
      refine KC.region ?_
      refine RL.val (O.move rfl) rfl ?_
      refine RL.val (O.assign rfl) rfl ?_
      refine RL.val (O.assign rfl) rfl ?_
      refine RL.nil ?_
      refine KQ.thn hQ134 ?_
      clear hQ134 Q134
      refine KC.ret ?_
      refine KQ.thr hQ132 ?_
      clear hQ132 Q132
      refine KQ.blk_r ?_
      refine KQ.thr hQ122 ?_
      clear hQ122 Q122
      refine KQ.then_r ?_
      refine KQ.blk_r ?_
      refine KQ.thr hQ33 ?_
      clear hQ33 Q33
      have hE := Option.some.inj hF
      clear hF
      subst hE
      obtain ⟨Z135, hM⟩ := hM.toRo (i := 0) rfl [1] rfl (by decide) (by decide)
      replace hM := hM.pick [1] rfl (by decide)
      refine KQ.rets Try.results19 (RVs.cons (RV.tm rfl) (RVs.cons (RV.tm rfl) RVs.nil)) ?_
      exact ⟨_, rfl, A113, c114, Z135, rfl, hM⟩
     ·rw [if_neg (ne_true hc)] at hF
      refine KC.skip ?_
      refine KQ.thn hQ132 ?_
      clear hQ132 Q132
      refine KC.seqH fun Q136 hQ136 => ?_
      refine KC.region ?_
      refine RL.val (O.move rfl) rfl ?_
      refine RL.val (O.move rfl) rfl ?_
      refine RL.val (O.move rfl) rfl ?_
      refine RL.val (O.add rfl rfl) rfl ?_
      refine RL.val (O.move rfl) rfl ?_
      refine RL.val (O.len sl49 rfl) rfl ?_
      refine cut_someE hF fun hq137 hF => ?_
      refine RL.val (O.rem rfl rfl (of_decide_eq_true hq137)) rfl ?_
      refine RL.val (O.bld (cs := [Value.bool false, Value.bool false, o8 (List.replicate 16 0) 0, o8 (List.replicate 16 0) 1, o8 (List.replicate 16 0) 2, o8 (List.replicate 16 0) 3, o8 (List.replicate 16 0) 4, o8 (List.replicate 16 0) 5, o8 (List.replicate 16 0) 6, o8 (List.replicate 16 0) 7, o8 (List.replicate 16 0) 8, o8 (List.replicate 16 0) 9, o8 (List.replicate 16 0) 10, o8 (List.replicate 16 0) 11, o8 (List.replicate 16 0) 12, o8 (List.replicate 16 0) 13, o8 (List.replicate 16 0) 14, o8 (List.replicate 16 0) 15, Value.bool false, o8 (List.replicate 16 0) 0, o8 (List.replicate 16 0) 1, o8 (List.replicate 16 0) 2, o8 (List.replicate 16 0) 3, o8 (List.replicate 16 0) 4, o8 (List.replicate 16 0) 5, o8 (List.replicate 16 0) 6, o8 (List.replicate 16 0) 7, o8 (List.replicate 16 0) 8, o8 (List.replicate 16 0) 9, o8 (List.replicate 16 0) 10, o8 (List.replicate 16 0) 11, o8 (List.replicate 16 0) 12, o8 (List.replicate 16 0) 13, o8 (List.replicate 16 0) 14, o8 (List.replicate 16 0) 15, Value.int .u8 0, Value.int .u16 0, Value.int .u16 0, Value.int .u64 0]) bt78 rfl (by kernel_rfl)) rfl ?_
      refine obindE hF fun y138 hx139 hF => ?_
      refine RL.call Try.func37 bd37 rfl rfl (c_ref23_with _ _ _ t115 (hM.rd (i := 0) rfl) (Int.tmod (IntKind.i64.wrap (y13.1 + i116)) (t115.length : Int)) (T_ref23_Slot.mk false (T_ref08_Key.mk (T_addr_Addr.mk false (List.replicate 16 0)) (T_addr_Addr.mk false (List.replicate 16 0)) 0 0 0) 0) _ hx139) fun v w140 hv => ?_
      obtain ⟨A142, c143, rfl, hN141⟩ := hv
      replace hM := hM.call hN141
      refine RL.val (O.assign rfl) rfl ?_
      refine RL.nil ?_
      refine KQ.thn hQ136 ?_
      clear hQ136 Q136
      refine KC.seqH fun Q145 hQ145 => ?_
      refine KC.region ?_
      refine RL.val (O.move rfl) rfl ?_
      refine RL.val (O.fldA fl78_1 (by decide) rfl) rfl ?_
      refine RL.val (O.loadN (cs := [Value.bool xv127.f_Key.f_Src.f_Six, o8 xv127.f_Key.f_Src.f_B 0, o8 xv127.f_Key.f_Src.f_B 1, o8 xv127.f_Key.f_Src.f_B 2, o8 xv127.f_Key.f_Src.f_B 3, o8 xv127.f_Key.f_Src.f_B 4, o8 xv127.f_Key.f_Src.f_B 5, o8 xv127.f_Key.f_Src.f_B 6, o8 xv127.f_Key.f_Src.f_B 7, o8 xv127.f_Key.f_Src.f_B 8, o8 xv127.f_Key.f_Src.f_B 9, o8 xv127.f_Key.f_Src.f_B 10, o8 xv127.f_Key.f_Src.f_B 11, o8 xv127.f_Key.f_Src.f_B 12, o8 xv127.f_Key.f_Src.f_B 13, o8 xv127.f_Key.f_Src.f_B 14, o8 xv127.f_Key.f_Src.f_B 15, Value.bool xv127.f_Key.f_Dst.f_Six, o8 xv127.f_Key.f_Dst.f_B 0, o8 xv127.f_Key.f_Dst.f_B 1, o8 xv127.f_Key.f_Dst.f_B 2, o8 xv127.f_Key.f_Dst.f_B 3, o8 xv127.f_Key.f_Dst.f_B 4, o8 xv127.f_Key.f_Dst.f_B 5, o8 xv127.f_Key.f_Dst.f_B 6, o8 xv127.f_Key.f_Dst.f_B 7, o8 xv127.f_Key.f_Dst.f_B 8, o8 xv127.f_Key.f_Dst.f_B 9, o8 xv127.f_Key.f_Dst.f_B 10, o8 xv127.f_Key.f_Dst.f_B 11, o8 xv127.f_Key.f_Dst.f_B 12, o8 xv127.f_Key.f_Dst.f_B 13, o8 xv127.f_Key.f_Dst.f_B 14, o8 xv127.f_Key.f_Dst.f_B 15, Value.int .u8 xv127.f_Key.f_Proto, Value.int .u16 xv127.f_Key.f_SrcPort, Value.int .u16 xv127.f_Key.f_DstPort]) ag54 rfl (Cs.addsN [1] ((hM.bx (i := 1) rfl)) rfl)) rfl ?_
      refine obindE hF fun y146 hx147 hF => ?_
      refine RL.call Try.func23 bd23 rfl rfl (c_ref23_Find _ _ _ y138 (hM.rd (i := 2) rfl) xv127.f_Key _ hx147) fun v w148 hv => ?_
      obtain ⟨rfl, hN149⟩ := hv
      replace hM := hM.call0 hN149
      refine RL.val (O.move rfl) rfl ?_
      refine RL.val (O.ext rfl rfl) rfl ?_
      refine RL.val (O.ext rfl rfl) rfl ?_
      refine RL.val (O.assign rfl) rfl ?_
      refine RL.val (O.assign rfl) rfl ?_
      refine RL.nil ?_
      refine KQ.thn hQ145 ?_
      clear hQ145 Q145
      refine KC.region ?_
      refine RL.val (O.move rfl) rfl ?_
      refine RL.val (O.move rfl) rfl ?_
      refine RL.val (O.loadN (cs := [Value.bool xv127.f_Used, Value.bool xv127.f_Key.f_Src.f_Six, o8 xv127.f_Key.f_Src.f_B 0, o8 xv127.f_Key.f_Src.f_B 1, o8 xv127.f_Key.f_Src.f_B 2, o8 xv127.f_Key.f_Src.f_B 3, o8 xv127.f_Key.f_Src.f_B 4, o8 xv127.f_Key.f_Src.f_B 5, o8 xv127.f_Key.f_Src.f_B 6, o8 xv127.f_Key.f_Src.f_B 7, o8 xv127.f_Key.f_Src.f_B 8, o8 xv127.f_Key.f_Src.f_B 9, o8 xv127.f_Key.f_Src.f_B 10, o8 xv127.f_Key.f_Src.f_B 11, o8 xv127.f_Key.f_Src.f_B 12, o8 xv127.f_Key.f_Src.f_B 13, o8 xv127.f_Key.f_Src.f_B 14, o8 xv127.f_Key.f_Src.f_B 15, Value.bool xv127.f_Key.f_Dst.f_Six, o8 xv127.f_Key.f_Dst.f_B 0, o8 xv127.f_Key.f_Dst.f_B 1, o8 xv127.f_Key.f_Dst.f_B 2, o8 xv127.f_Key.f_Dst.f_B 3, o8 xv127.f_Key.f_Dst.f_B 4, o8 xv127.f_Key.f_Dst.f_B 5, o8 xv127.f_Key.f_Dst.f_B 6, o8 xv127.f_Key.f_Dst.f_B 7, o8 xv127.f_Key.f_Dst.f_B 8, o8 xv127.f_Key.f_Dst.f_B 9, o8 xv127.f_Key.f_Dst.f_B 10, o8 xv127.f_Key.f_Dst.f_B 11, o8 xv127.f_Key.f_Dst.f_B 12, o8 xv127.f_Key.f_Dst.f_B 13, o8 xv127.f_Key.f_Dst.f_B 14, o8 xv127.f_Key.f_Dst.f_B 15, Value.int .u8 xv127.f_Key.f_Proto, Value.int .u16 xv127.f_Key.f_SrcPort, Value.int .u16 xv127.f_Key.f_DstPort, Value.int .u64 xv127.f_N]) ag78 rfl (Cs.addsN [] ((hM.bx (i := 1) rfl)) rfl)) rfl ?_
      refine obindE hF fun y150 hx151 hF => ?_
      refine RL.call Try.func37 bd37 rfl rfl (c_ref23_with _ _ _ y138 (hM.rd (i := 2) rfl) y146.1 xv127 _ hx151) fun v w152 hv => ?_
      obtain ⟨A154, c155, rfl, hN153⟩ := hv
      replace hM := hM.call hN153
      refine RL.val (O.assign rfl) rfl ?_
      refine RL.nil ?_
      refine KQ.blk_n ?_
      refine KQ.thn hQ122 ?_
      clear hQ122 Q122
      replace hM := hM.pick [3] rfl (by decide)
      refine KC.region ?_
      refine RL.val (O.move rfl) rfl ?_
      refine RL.val (O.add rfl rfl) rfl ?_
      refine RL.val (O.assign rfl) rfl ?_
      refine RL.nil ?_
      refine KQ.then_k ?_
      exact fun a ha => ⟨k119, Nat.lt_succ_self k119, A154, c155, y150, (IntKind.i64.wrap (i116 + 1)), ha.less (less_cons rfl (less_cons rfl (less_cons rfl less_nil))), hM, hF⟩
    ·rw [if_neg (ne_true hc)] at hF
     refine KC.exit ?_
     refine KQ.thx hQ120 ?_
     clear hQ120 Q120
     refine KQ.then_x ?_
     refine KQ.blk_x ?_
     refine KQ.thn hQ33 ?_
     clear hQ33 Q33
     refine KC.seqH fun Q157 hQ157 => ?_
     refine KC.region ?_
     refine RL.val (O.move rfl) rfl ?_
     refine RL.val (O.assign rfl) rfl ?_
     refine RL.val (O.assign rfl) rfl ?_
     refine RL.nil ?_
     refine KQ.thn hQ157 ?_
     clear hQ157 Q157
     refine KC.ret ?_
     have hE := Option.some.inj hF
     clear hF
     subst hE
     obtain ⟨Z158, hM⟩ := hM.toRo (i := 0) rfl [] rfl (by decide) (by decide)
     refine KQ.rets Try.results19 (RVs.cons (RV.tm rfl) (RVs.cons (RV.tm rfl) RVs.nil)) ?_
     exact ⟨_, rfl, A113, c114, Z158, rfl, hM⟩
set_option maxRecDepth 100000 in
set_option maxHeartbeats 40000000 in
theorem c_table_Table_Clear (w : World) (g2 : Nat) (tg7 : TypeId) (t1 : T_table_Table) (A4 : Option Addr) (c5 : Nat) (hL8 : Lent w [.box g2 tg7 [.slice A4 (t1.f_slots).length c5, Value.int .i64 t1.f_many], .row A4 c5 74 39 (t1.f_slots).length ((t1.f_slots).flatMap e_table_Slot)]) (r : T_table_Table) (hF : F_table_Table_Clear t1 = some r) :
  CallsR Try.prog 20 [.pointer (some ⟨g2, 0, none⟩)] w (fun v w' => ∃ (A0 : Option Addr) (c0 : Nat), v = .tuple #[] ∧ Mem w [some g2, rblk A4 c5] w' [.box g2 tg7 [.slice A0 (r.f_slots).length c0, Value.int .i64 r.f_many], .row A0 c0 74 39 r.f_slots.length (r.f_slots.flatMap e_table_Slot)]) := by
 refine calls_KC Try.func20 rfl Try.ntmps20 rfl ?_
 have hM : Mem w [some g2, rblk A4 c5] w [.box g2 tg7 [.slice A4 (t1.f_slots).length c5, Value.int .i64 t1.f_many], .row A4 c5 74 39 (t1.f_slots).length ((t1.f_slots).flatMap e_table_Slot)] := Mem.lendN hL8
 unfold F_table_Table_Clear at hF
 refine KC.seqH fun Q9 hQ9 => ?_
 refine KC.region ?_
 refine RL.val (O.move rfl) rfl ?_
 refine RL.val (O.pnen Try.underlying24 rfl rfl) rfl ?_
 refine RL.nil ?_
 refine KQ.thn hQ9 ?_
 clear hQ9 Q9
 refine KC.condT rfl ?_
 refine KC.seqH fun Q10 hQ10 => ?_
 refine KC.region ?_
 refine RL.val (O.move rfl) rfl ?_
 refine RL.val (O.nilp rfl) rfl ?_
 refine RL.val (O.fldA fl71_0 (by decide) rfl) rfl ?_
 refine RL.val (O.load sc65 rfl (Cs.adds [0] ((hM.bx (i := 0) rfl)) rfl)) rfl ?_
 refine RL.eff0 (E.clear (enc := e_table_Slot) (zr := (T_table_Slot.mk false (T_packet_Key.mk (T_addr_Addr.mk false (List.replicate 16 0)) (T_addr_Addr.mk false (List.replicate 16 0)) 0 0 0) 0)) (j := 1) (xs := t1.f_slots) hM rfl sl65 ze74 rfl (fun _ => rfl) rfl (One.all rfl) rfl) fun v w11 hM1 => ?_
 clear hM
 obtain ⟨hM, hn12⟩ := hM1
 refine RL.reslot (t := 7) rfl hn12 ?_
 replace hM := hM.rebox (i := 0) (cs' := [.slice A4 ((List.replicate (t1.f_slots).length ((T_table_Slot.mk false (T_packet_Key.mk (T_addr_Addr.mk false (List.replicate 16 0)) (T_addr_Addr.mk false (List.replicate 16 0)) 0 0 0) 0) : T_table_Slot))).length c5, Value.int .i64 t1.f_many]) rfl (by rw [← hn12])
 refine RL.nil ?_
 refine KQ.thn hQ10 ?_
 clear hQ10 Q10
 refine KC.region ?_
 refine RL.val (O.move rfl) rfl ?_
 refine RL.val (O.nilp rfl) rfl ?_
 refine RL.val (O.fldA fl71_1 (by decide) rfl) rfl ?_
 refine RL.effs (E.stB (j := 0) (off := 1) (vs := [Value.int .i64 0]) (cs' := [.slice A4 ((List.replicate (t1.f_slots).length ((T_table_Slot.mk false (T_packet_Key.mk (T_addr_Addr.mk false (List.replicate 16 0)) (T_addr_Addr.mk false (List.replicate 16 0)) 0 0 0) 0) : T_table_Slot))).length c5, Value.int .i64 0]) hM rfl sz3 rfl (adds_eq [1] rfl) rfl rfl (One.all rfl) rfl rfl) fun w13 hM1 => ?_
 clear hM
 have hM := hM1
 clear hM1
 refine RL.nil ?_
 have hE := Option.some.inj hF
 clear hF
 subst hE
 refine KQ.endr Try.results20 RVs.nil ?_
 exact ⟨_, rfl, A4, c5, rfl, hM⟩
end Go.Proofs.Ytnbakndfnjflhaa
