/- Printed by a program of this claim: each call returns what the plain function of its name gives. -/
import Derived.Test.YtnbakndfnjflhaaW1
import Derived.Test.YtnbakndfnjflhaaW4
import Derived.Test.YtnbakndfnjflhaaW8
import Derived.Test.YtnbakndfnjflhaaW9
import Derived.Test.YtnbakndfnjflhaaW10
import Derived.Test.YtnbakndfnjflhaaW11
import Derived.Test.YtnbakndfnjflhaaW12
set_option linter.unusedVariables false
namespace Go.Proofs.Ytnbakndfnjflhaa
open Go Go.Ox Go.RowKit
set_option maxRecDepth 100000 in
set_option maxHeartbeats 40000000 in
theorem c_law23_TableKeeps (w : World) (size1 : Int) (A3 : Option Addr) (c4 : Nat) (lv2 : List T_law23_Act) (hr5 : Rd w A3 c4 39 lv2.length (lv2.flatMap e_law23_Act)) (r : Bool) (hF : F_law23_TableKeeps size1 lv2 = some r) :
  CallsR Try.prog 3 [Value.int .i64 size1, .slice A3 (lv2).length c4] w (fun v w' => v = Value.bool r ∧ Mem w [] w' []) := by
 refine calls_KC Try.func3 rfl Try.ntmps3 rfl ?_
 have hM := Mem.init w
 unfold F_law23_TableKeeps at hF
 refine KC.seqH fun Q6 hQ6 => ?_
 refine KC.region ?_
 refine RL.val (O.assign rfl) rfl ?_
 refine RL.nil ?_
 refine KQ.thn hQ6 ?_
 clear hQ6 Q6
 refine KC.seqH fun Q7 hQ7 => ?_
 refine KC.cut (fun a w9 => ∃ (t8 : Bool), Kn 229 [(0, Value.int .i64 size1), (1, .slice A3 (lv2).length c4), (28, Value.bool t8)] a ∧ Mem w [] w9 [] ∧ F_law23_TableKeeps_j1 size1 lv2 t8 = some r) ?_ ?_
 ·refine KC.region ?_
  refine RL.val (O.move rfl) rfl ?_
  refine RL.val (O.gtr rfl rfl) rfl ?_
  refine RL.val (O.move rfl) rfl ?_
  refine RL.bcase (t := 24) rfl (fun hc => ?_) (fun hc => ?_)
  ·rw [if_pos hc] at hF
   refine RL.brun1 4 28 true (by kernel_rfl) ?_
   refine RL.nil ?_
   refine KQ.then_k ?_
   exact fun a ha => ⟨true, ha.less (less_cons rfl (less_cons rfl (less_cons rfl less_nil))), hM, hF⟩
  ·rw [if_neg (ne_true hc)] at hF
   refine RL.gval rfl rfl (O.move rfl) rfl ?_
   refine RL.gval rfl rfl (O.len sl22 rfl) rfl ?_
   refine RL.gval rfl rfl (O.gtr rfl rfl) rfl ?_
   refine RL.val (O.pickf rfl rfl) rfl ?_
   refine RL.nil ?_
   refine KQ.then_k ?_
   exact fun a ha => ⟨(decide (60 < (lv2.length : Int))), ha.less (less_cons rfl (less_cons rfl (less_cons rfl less_nil))), hM, hF⟩
 ·rintro a w9 ⟨t8, ha, hM, hF⟩
  refine KC.app ha ?_
  clear ha
  unfold F_law23_TableKeeps_j1 at hF
  refine KC.cond rfl (fun hc => ?_) (fun hc => ?_)
  ·rw [if_pos hc] at hF
   refine KC.seqH fun Q10 hQ10 => ?_
   refine KC.region ?_
   refine obindE hF fun y11 hx12 hF => ?_
   refine RL.call Try.func7 bd7 rfl rfl (c_law23_works _ _ hx12) fun v w13 hv => ?_
   obtain ⟨rfl, hN14⟩ := hv
   replace hM := hM.call0 hN14
   refine RL.val (O.assign rfl) rfl ?_
   refine RL.nil ?_
   refine KQ.thn hQ10 ?_
   clear hQ10 Q10
   refine KC.ret ?_
   refine KQ.thr hQ7 ?_
   clear hQ7 Q7
   have hE := Option.some.inj hF
   clear hF
   subst hE
   refine KQ.rets Try.results3 (RVs.cons (RV.tm rfl) RVs.nil) ?_
   exact ⟨_, rfl, rfl, hM⟩
  ·rw [if_neg (ne_true hc)] at hF
   refine KC.skip ?_
   refine KQ.thn hQ7 ?_
   clear hQ7 Q7
   refine KC.seqH fun Q15 hQ15 => ?_
   refine KC.region ?_
   refine RL.val (O.move rfl) rfl ?_
   refine RL.icall Try.func8 bd8 rfl rfl rfl Try.ntmps8 rfl ?_
   refine KC.seqH fun Q16 hQ16 => ?_
   refine KC.region ?_
   refine RL.val (O.assign rfl) rfl ?_
   refine RL.val (O.assign rfl) rfl ?_
   refine RL.nil ?_
   refine KQ.thn hQ16 ?_
   clear hQ16 Q16
   refine KC.seqH fun Q17 hQ17 => ?_
   refine KC.cut (fun a w19 => ∃ (f18 : Bool), Kn 21 [(0, Value.int .i64 size1), (16, Value.bool f18)] a ∧ Mem w [] w19 [] ∧ F_law23_TableKeeps_j2 size1 lv2 f18 = some r) ?_ ?_
   ·refine KC.region ?_
    refine RL.val (O.move rfl) rfl ?_
    refine RL.val (O.lss rfl rfl) rfl ?_
    refine RL.val (O.move rfl) rfl ?_
    refine RL.bcase (t := 6) rfl (fun hc => ?_) (fun hc => ?_)
    ·rw [if_pos hc] at hF
     refine RL.brun1 10 16 true (by kernel_rfl) ?_
     refine RL.nil ?_
     refine KQ.then_k ?_
     exact fun a ha => ⟨true, ha.less (less_cons rfl (less_cons rfl less_nil)), hM, hF⟩
    ·rw [if_neg (ne_true hc)] at hF
     refine RL.gval rfl rfl (O.move rfl) rfl ?_
     refine RL.gval rfl rfl (O.gtr rfl rfl) rfl ?_
     refine RL.val (O.pickf rfl rfl) rfl ?_
     refine RL.val (O.move rfl) rfl ?_
     refine RL.bcase (t := 10) rfl (fun hc => ?_) (fun hc => ?_)
     ·rw [if_pos hc] at hF
      refine RL.brun1 6 16 true (by kernel_rfl) ?_
      refine RL.nil ?_
      refine KQ.then_k ?_
      exact fun a ha => ⟨true, ha.less (less_cons rfl (less_cons rfl less_nil)), hM, hF⟩
     ·rw [if_neg (ne_true hc)] at hF
      refine RL.gval rfl rfl (O.move rfl) rfl ?_
      refine RL.gval rfl rfl (O.move rfl) rfl ?_
      refine RL.gval rfl rfl (O.sub rfl rfl) rfl ?_
      refine RL.gval rfl rfl (O.and rfl rfl) rfl ?_
      refine RL.gval rfl rfl (O.neq rfl rfl) rfl ?_
      refine RL.val (O.pickf rfl rfl) rfl ?_
      refine RL.nil ?_
      refine KQ.then_k ?_
      exact fun a ha => ⟨((bits .and .i64 size1 (IntKind.i64.wrap (size1 - 1))) != 0), ha.less (less_cons rfl (less_cons rfl less_nil)), hM, hF⟩
   ·rintro a w19 ⟨f18, ha, hM, hF⟩
    refine KC.app ha ?_
    clear ha
    unfold F_law23_TableKeeps_j2 at hF
    refine KC.cond rfl (fun hc => ?_) (fun hc => ?_)
    ·rw [if_pos hc] at hF
     refine KC.seqH fun Q20 hQ20 => ?_
     refine KC.region ?_
     refine RL.val (O.assign rfl) rfl ?_
     refine RL.val (O.assign rfl) rfl ?_
     refine RL.nil ?_
     refine KQ.thn hQ20 ?_
     clear hQ20 Q20
     refine KC.ret ?_
     refine KQ.thr hQ17 ?_
     clear hQ17 Q17
     refine KQ.rets Try.results8 (RVs.cons (RV.tm rfl) (RVs.cons (RV.tm rfl) RVs.nil)) ?_
     refine ⟨.tuple #[.pointer none, Value.int .i64 2], rfl, ?_⟩
     refine RL.val (O.move rfl) rfl ?_
     refine RL.val (O.ext rfl rfl) rfl ?_
     refine RL.val (O.ext rfl rfl) rfl ?_
     refine RL.val (O.assign rfl) rfl ?_
     refine RL.val (O.assign rfl) rfl ?_
     refine RL.nil ?_
     refine KQ.thn hQ15 ?_
     clear hQ15 Q15
     refine KC.seqH fun Q21 hQ21 => ?_
     refine KC.seqH fun Q22 hQ22 => ?_
     refine KC.region ?_
     refine RL.val (O.move rfl) rfl ?_
     refine RL.val (O.neq rfl rfl) rfl ?_
     refine RL.nil ?_
     refine KQ.thn hQ22 ?_
     clear hQ22 Q22
     refine KC.condT rfl ?_
     refine KC.cut (fun a w28 => ∃ (t27 : Bool), Kn 229 [(4, Value.bool t27)] a ∧ Mem w [] w28 [] ∧ F_law23_TableKeeps_j3 t27 = some r) ?_ ?_
     ·refine KC.region ?_
      refine RL.val (O.move rfl) rfl ?_
      refine RL.val (O.peqn Try.underlying24 rfl rfl) rfl ?_
      refine RL.val (O.move rfl) rfl ?_
      refine obindE hF fun y23 hx24 hF => ?_
      refine RL.gcall rfl rfl Try.func7 bd7 rfl rfl (c_law23_works _ _ hx24) fun v w25 hv => ?_
      obtain ⟨rfl, hN26⟩ := hv
      replace hM := hM.call0 hN26
      refine RL.val (O.pickt rfl rfl) rfl ?_
      refine RL.val (O.assign rfl) rfl ?_
      refine RL.nil ?_
      refine KQ.then_k ?_
      exact fun a ha => ⟨y23, ha.less (less_cons rfl less_nil), hM, hF⟩
     ·rintro a w28 ⟨t27, ha, hM, hF⟩
      refine KC.app ha ?_
      clear ha
      unfold F_law23_TableKeeps_j3 at hF
      refine KC.ret ?_
      refine KQ.thr hQ21 ?_
      clear hQ21 Q21
      have hE := Option.some.inj hF
      clear hF
      subst hE
      refine KQ.rets Try.results3 (RVs.cons (RV.tm rfl) RVs.nil) ?_
      exact ⟨_, rfl, rfl, hM⟩
    ·rw [if_neg (ne_true hc)] at hF
     refine KC.skip ?_
     refine KQ.thn hQ17 ?_
     clear hQ17 Q17
     refine KC.seqH fun Q29 hQ29 => ?_
     refine KC.region ?_
     refine RL.val (O.move rfl) rfl ?_
     refine cut_someE hF fun hq32 hF => ?_
     refine RL.eff (E.mks (enc := e_table_Slot) (zr := (T_table_Slot.mk false (T_packet_Key.mk (T_addr_Addr.mk false (List.replicate 16 0)) (T_addr_Addr.mk false (List.replicate 16 0)) 0 0 0) 0)) hM sl65 ze74 rfl rfl (fun _ => rfl) rfl rfl rfl (of_decide_eq_true hq32)) rfl fun v w31 hv => ?_
     clear hM
     obtain ⟨A30, rfl, hM, hf⟩ := hv
     refine RL.val (O.bld (cs := [.slice A30 ((List.replicate (Int.toNat size1) ((T_table_Slot.mk false (T_packet_Key.mk (T_addr_Addr.mk false (List.replicate 16 0)) (T_addr_Addr.mk false (List.replicate 16 0)) 0 0 0) 0) : T_table_Slot))).length (Int.toNat size1), Value.int .i64 0]) bt71 rfl (by kernel_rfl)) rfl ?_
     refine RL.eff (E.box (vs := [.slice A30 ((List.replicate (Int.toNat size1) ((T_table_Slot.mk false (T_packet_Key.mk (T_addr_Addr.mk false (List.replicate 16 0)) (T_addr_Addr.mk false (List.replicate 16 0)) 0 0 0) 0) : T_table_Slot))).length (Int.toNat size1), Value.int .i64 0]) hM rfl rfl) rfl fun v w35 hv => ?_
     clear hM
     obtain ⟨g34, rfl, hM, hf⟩ := hv
     refine RL.val (O.assign rfl) rfl ?_
     refine RL.val (O.assign rfl) rfl ?_
     refine RL.nil ?_
     refine KQ.thn hQ29 ?_
     clear hQ29 Q29
     refine KC.ret ?_
     refine KQ.rets Try.results8 (RVs.cons (RV.tm rfl) (RVs.cons (RV.tm rfl) RVs.nil)) ?_
     refine ⟨.tuple #[.pointer (some ⟨g34, 0, none⟩), Value.int .i64 0], rfl, ?_⟩
     refine RL.val (O.move rfl) rfl ?_
     refine RL.val (O.ext rfl rfl) rfl ?_
     refine RL.val (O.ext rfl rfl) rfl ?_
     refine RL.val (O.assign rfl) rfl ?_
     refine RL.val (O.assign rfl) rfl ?_
     refine RL.nil ?_
     refine KQ.thn hQ15 ?_
     clear hQ15 Q15
     refine KC.seqH fun Q37 hQ37 => ?_
     refine KC.seqH fun Q38 hQ38 => ?_
     refine KC.region ?_
     refine RL.val (O.move rfl) rfl ?_
     refine RL.val (O.neq rfl rfl) rfl ?_
     refine RL.nil ?_
     refine KQ.thn hQ38 ?_
     clear hQ38 Q38
     refine KC.condF rfl ?_
     refine KC.skip ?_
     refine KQ.thn hQ37 ?_
     clear hQ37 Q37
     refine KC.seqH fun Q39 hQ39 => ?_
     refine KC.region ?_
     refine RL.val (O.assign rfl) rfl ?_
     refine RL.nil ?_
     refine KQ.thn hQ39 ?_
     clear hQ39 Q39
     refine KC.seqH fun Q40 hQ40 => ?_
     refine KC.region ?_
     refine RL.val (O.assign rfl) rfl ?_
     refine RL.nil ?_
     refine KQ.thn hQ40 ?_
     clear hQ40 Q40
     refine KC.seqH fun Q41 hQ41 => ?_
     refine KC.seqH fun Q42 hQ42 => ?_
     refine KC.region ?_
     refine RL.val (O.assign rfl) rfl ?_
     refine RL.nil ?_
     refine KQ.thn hQ42 ?_
     clear hQ42 Q42
     refine KC.block ?_
     refine KC.loop (fun k903 a w901 => ∃ (A888 : Option Addr) (c889 : Nat) (A893 : Option Addr) (c894 : Nat) (A897 : Option Addr) (c898 : Nat) (t890 : List T_table_Slot) (t891 : Int) (keys895 : List T_packet_Key) (numbers899 : List Int) (i900 : Int), Kn 229 [(0, Value.int .i64 size1), (1, .slice A3 (lv2).length c4), (5, .pointer (some ⟨g34, 0, none⟩)), (7, .slice A893 (keys895).length c894), (8, .slice A897 (numbers899).length c898), (9, Value.int .i64 i900)] a ∧ Mem w [] w901 [.row A888 c889 74 39 (t890).length ((t890).flatMap e_table_Slot), .box g34 71 [.slice A888 (t890).length c889, Value.int .i64 t891], .row A893 c894 35 37 (keys895).length ((keys895).flatMap e_packet_Key), .row A897 c898 36 1 (numbers899).length ((numbers899).flatMap (eI .u64))] ∧ F_law23_TableKeeps_L1 size1 lv2 k903 t890 t891 keys895 numbers899 i900 = some r) ?_ ?_
     ·replace hM := hM.nilrow 35 37
      replace hM := hM.nilrow 36 1
      exact fun a ha => ⟨fuel0, A30, (Int.toNat size1), none, 0, none, 0, (List.replicate (Int.toNat size1) ((T_table_Slot.mk false (T_packet_Key.mk (T_addr_Addr.mk false (List.replicate 16 0)) (T_addr_Addr.mk false (List.replicate 16 0)) 0 0 0) 0) : T_table_Slot)), 0, ([]), ([]), 0, ha.less (less_cons rfl (less_cons rfl (less_cons rfl (less_cons rfl (less_cons rfl (less_cons rfl less_nil)))))), hM, hF⟩
     ·rintro k903 a w901 ⟨A888, c889, A893, c894, A897, c898, t890, t891, keys895, numbers899, i900, ha, hM, hF⟩
      refine KC.app ha ?_
      clear ha
      cases k903 with
      | zero => exact (none_some hF).elim
      | succ k903 =>
      have hF : F_law23_TableKeeps_l1 (F_law23_TableKeeps_L1 size1 lv2 k903) size1 lv2 t890 t891 keys895 numbers899 i900 = some r := hF
      unfold F_law23_TableKeeps_l1 at hF
      refine KC.seqH fun Q904 hQ904 => ?_
      refine KC.seqH fun Q905 hQ905 => ?_
      refine KC.region ?_
      refine RL.val (O.move rfl) rfl ?_
      refine RL.val (O.move rfl) rfl ?_
      refine RL.val (O.len sl22 rfl) rfl ?_
      refine RL.val (O.lss rfl rfl) rfl ?_
      refine RL.nil ?_
      refine KQ.thn hQ905 ?_
      clear hQ905 Q905
      refine KC.cond rfl (fun hc => ?_) (fun hc => ?_)
      ·rw [if_pos hc] at hF
       refine KC.skip ?_
       refine KQ.thn hQ904 ?_
       clear hQ904 Q904
       refine KC.seqH fun Q906 hQ906 => ?_
       refine KC.block ?_
       refine KC.seqH fun Q907 hQ907 => ?_
       refine KC.region ?_
       refine RL.val (O.move rfl) rfl ?_
       refine RL.val (O.move rfl) rfl ?_
       refine obindE hF fun xv910 hx909 hF => ?_
       have hA908 := Rd.atN (f := e_law23_Act) (s := 39) (fun _ => rfl) (by decide) (hM.inp hr5 Off.nil) hx909
       refine RL.val (O.idxA sl22 (hA908) rfl rfl) rfl ?_
       refine RL.val (O.loadN (cs := [Value.int .i64 xv910.f_Do, Value.bool xv910.f_K.f_Src.f_Six, o8 xv910.f_K.f_Src.f_B 0, o8 xv910.f_K.f_Src.f_B 1, o8 xv910.f_K.f_Src.f_B 2, o8 xv910.f_K.f_Src.f_B 3, o8 xv910.f_K.f_Src.f_B 4, o8 xv910.f_K.f_Src.f_B 5, o8 xv910.f_K.f_Src.f_B 6, o8 xv910.f_K.f_Src.f_B 7, o8 xv910.f_K.f_Src.f_B 8, o8 xv910.f_K.f_Src.f_B 9, o8 xv910.f_K.f_Src.f_B 10, o8 xv910.f_K.f_Src.f_B 11, o8 xv910.f_K.f_Src.f_B 12, o8 xv910.f_K.f_Src.f_B 13, o8 xv910.f_K.f_Src.f_B 14, o8 xv910.f_K.f_Src.f_B 15, Value.bool xv910.f_K.f_Dst.f_Six, o8 xv910.f_K.f_Dst.f_B 0, o8 xv910.f_K.f_Dst.f_B 1, o8 xv910.f_K.f_Dst.f_B 2, o8 xv910.f_K.f_Dst.f_B 3, o8 xv910.f_K.f_Dst.f_B 4, o8 xv910.f_K.f_Dst.f_B 5, o8 xv910.f_K.f_Dst.f_B 6, o8 xv910.f_K.f_Dst.f_B 7, o8 xv910.f_K.f_Dst.f_B 8, o8 xv910.f_K.f_Dst.f_B 9, o8 xv910.f_K.f_Dst.f_B 10, o8 xv910.f_K.f_Dst.f_B 11, o8 xv910.f_K.f_Dst.f_B 12, o8 xv910.f_K.f_Dst.f_B 13, o8 xv910.f_K.f_Dst.f_B 14, o8 xv910.f_K.f_Dst.f_B 15, Value.int .u8 xv910.f_K.f_Proto, Value.int .u16 xv910.f_K.f_SrcPort, Value.int .u16 xv910.f_K.f_DstPort, Value.int .u64 xv910.f_N]) ag38 rfl (hA908).cells) rfl ?_
       refine RL.eff (E.alloc hM ze38) rfl fun v w912 hv => ?_
       clear hM
       obtain ⟨g911, rfl, hM, hf⟩ := hv
       refine RL.effs (E.stB (j := 4) (off := 0) (vs := [Value.int .i64 xv910.f_Do, Value.bool xv910.f_K.f_Src.f_Six, o8 xv910.f_K.f_Src.f_B 0, o8 xv910.f_K.f_Src.f_B 1, o8 xv910.f_K.f_Src.f_B 2, o8 xv910.f_K.f_Src.f_B 3, o8 xv910.f_K.f_Src.f_B 4, o8 xv910.f_K.f_Src.f_B 5, o8 xv910.f_K.f_Src.f_B 6, o8 xv910.f_K.f_Src.f_B 7, o8 xv910.f_K.f_Src.f_B 8, o8 xv910.f_K.f_Src.f_B 9, o8 xv910.f_K.f_Src.f_B 10, o8 xv910.f_K.f_Src.f_B 11, o8 xv910.f_K.f_Src.f_B 12, o8 xv910.f_K.f_Src.f_B 13, o8 xv910.f_K.f_Src.f_B 14, o8 xv910.f_K.f_Src.f_B 15, Value.bool xv910.f_K.f_Dst.f_Six, o8 xv910.f_K.f_Dst.f_B 0, o8 xv910.f_K.f_Dst.f_B 1, o8 xv910.f_K.f_Dst.f_B 2, o8 xv910.f_K.f_Dst.f_B 3, o8 xv910.f_K.f_Dst.f_B 4, o8 xv910.f_K.f_Dst.f_B 5, o8 xv910.f_K.f_Dst.f_B 6, o8 xv910.f_K.f_Dst.f_B 7, o8 xv910.f_K.f_Dst.f_B 8, o8 xv910.f_K.f_Dst.f_B 9, o8 xv910.f_K.f_Dst.f_B 10, o8 xv910.f_K.f_Dst.f_B 11, o8 xv910.f_K.f_Dst.f_B 12, o8 xv910.f_K.f_Dst.f_B 13, o8 xv910.f_K.f_Dst.f_B 14, o8 xv910.f_K.f_Dst.f_B 15, Value.int .u8 xv910.f_K.f_Proto, Value.int .u16 xv910.f_K.f_SrcPort, Value.int .u16 xv910.f_K.f_DstPort, Value.int .u64 xv910.f_N]) (cs' := [Value.int .i64 xv910.f_Do, Value.bool xv910.f_K.f_Src.f_Six, o8 xv910.f_K.f_Src.f_B 0, o8 xv910.f_K.f_Src.f_B 1, o8 xv910.f_K.f_Src.f_B 2, o8 xv910.f_K.f_Src.f_B 3, o8 xv910.f_K.f_Src.f_B 4, o8 xv910.f_K.f_Src.f_B 5, o8 xv910.f_K.f_Src.f_B 6, o8 xv910.f_K.f_Src.f_B 7, o8 xv910.f_K.f_Src.f_B 8, o8 xv910.f_K.f_Src.f_B 9, o8 xv910.f_K.f_Src.f_B 10, o8 xv910.f_K.f_Src.f_B 11, o8 xv910.f_K.f_Src.f_B 12, o8 xv910.f_K.f_Src.f_B 13, o8 xv910.f_K.f_Src.f_B 14, o8 xv910.f_K.f_Src.f_B 15, Value.bool xv910.f_K.f_Dst.f_Six, o8 xv910.f_K.f_Dst.f_B 0, o8 xv910.f_K.f_Dst.f_B 1, o8 xv910.f_K.f_Dst.f_B 2, o8 xv910.f_K.f_Dst.f_B 3, o8 xv910.f_K.f_Dst.f_B 4, o8 xv910.f_K.f_Dst.f_B 5, o8 xv910.f_K.f_Dst.f_B 6, o8 xv910.f_K.f_Dst.f_B 7, o8 xv910.f_K.f_Dst.f_B 8, o8 xv910.f_K.f_Dst.f_B 9, o8 xv910.f_K.f_Dst.f_B 10, o8 xv910.f_K.f_Dst.f_B 11, o8 xv910.f_K.f_Dst.f_B 12, o8 xv910.f_K.f_Dst.f_B 13, o8 xv910.f_K.f_Dst.f_B 14, o8 xv910.f_K.f_Dst.f_B 15, Value.int .u8 xv910.f_K.f_Proto, Value.int .u16 xv910.f_K.f_SrcPort, Value.int .u16 xv910.f_K.f_DstPort, Value.int .u64 xv910.f_N]) hM rfl sz38 rfl (adds_eq [] rfl) rfl rfl (One.all rfl) rfl rfl) fun w914 hM1 => ?_
       clear hM
       have hM := hM1
       clear hM1
       refine RL.nil ?_
       refine KQ.thn hQ907 ?_
       clear hQ907 Q907
       refine KC.seqH fun Q915 hQ915 => ?_
       refine KC.region ?_
       refine RL.val (O.assign rfl) rfl ?_
       refine RL.nil ?_
       refine KQ.thn hQ915 ?_
       clear hQ915 Q915
       refine KC.seqH fun Q916 hQ916 => ?_
       refine KC.seqH fun Q917 hQ917 => ?_
       refine KC.region ?_
       refine RL.val (O.assign rfl) rfl ?_
       refine RL.nil ?_
       refine KQ.thn hQ917 ?_
       clear hQ917 Q917
       refine KC.block ?_
       refine KC.loop (fun k960 a w958 => ∃ (atv956 : Int) (kv957 : Int), Kn 229 [(0, Value.int .i64 size1), (1, .slice A3 (lv2).length c4), (5, .pointer (some ⟨g34, 0, none⟩)), (7, .slice A893 (keys895).length c894), (8, .slice A897 (numbers899).length c898), (9, Value.int .i64 i900), (10, .pointer (some ⟨g911, 0, none⟩)), (11, Value.int .i64 atv956), (12, Value.int .i64 kv957)] a ∧ Mem w [] w958 [.row A888 c889 74 39 (t890).length ((t890).flatMap e_table_Slot), .box g34 71 [.slice A888 (t890).length c889, Value.int .i64 t891], .row A893 c894 35 37 (keys895).length ((keys895).flatMap e_packet_Key), .row A897 c898 36 1 (numbers899).length ((numbers899).flatMap (eI .u64)), .box g911 38 [Value.int .i64 xv910.f_Do, Value.bool xv910.f_K.f_Src.f_Six, o8 xv910.f_K.f_Src.f_B 0, o8 xv910.f_K.f_Src.f_B 1, o8 xv910.f_K.f_Src.f_B 2, o8 xv910.f_K.f_Src.f_B 3, o8 xv910.f_K.f_Src.f_B 4, o8 xv910.f_K.f_Src.f_B 5, o8 xv910.f_K.f_Src.f_B 6, o8 xv910.f_K.f_Src.f_B 7, o8 xv910.f_K.f_Src.f_B 8, o8 xv910.f_K.f_Src.f_B 9, o8 xv910.f_K.f_Src.f_B 10, o8 xv910.f_K.f_Src.f_B 11, o8 xv910.f_K.f_Src.f_B 12, o8 xv910.f_K.f_Src.f_B 13, o8 xv910.f_K.f_Src.f_B 14, o8 xv910.f_K.f_Src.f_B 15, Value.bool xv910.f_K.f_Dst.f_Six, o8 xv910.f_K.f_Dst.f_B 0, o8 xv910.f_K.f_Dst.f_B 1, o8 xv910.f_K.f_Dst.f_B 2, o8 xv910.f_K.f_Dst.f_B 3, o8 xv910.f_K.f_Dst.f_B 4, o8 xv910.f_K.f_Dst.f_B 5, o8 xv910.f_K.f_Dst.f_B 6, o8 xv910.f_K.f_Dst.f_B 7, o8 xv910.f_K.f_Dst.f_B 8, o8 xv910.f_K.f_Dst.f_B 9, o8 xv910.f_K.f_Dst.f_B 10, o8 xv910.f_K.f_Dst.f_B 11, o8 xv910.f_K.f_Dst.f_B 12, o8 xv910.f_K.f_Dst.f_B 13, o8 xv910.f_K.f_Dst.f_B 14, o8 xv910.f_K.f_Dst.f_B 15, Value.int .u8 xv910.f_K.f_Proto, Value.int .u16 xv910.f_K.f_SrcPort, Value.int .u16 xv910.f_K.f_DstPort, Value.int .u64 xv910.f_N]] ∧ F_law23_TableKeeps_L2 size1 t890 t891 keys895 numbers899 i900 (F_law23_TableKeeps_L1 size1 lv2 k903) xv910 k960 atv956 kv957 = some r) ?_ ?_
       ·exact fun a ha => ⟨fuel0, (-1), 0, ha.less (less_cons rfl (less_cons rfl (less_cons rfl (less_cons rfl (less_cons rfl (less_cons rfl (less_cons rfl (less_cons rfl (less_cons rfl less_nil))))))))), hM, hF⟩
       ·rintro k960 a w958 ⟨atv956, kv957, ha, hM, hF⟩
        refine KC.app ha ?_
        clear ha
        cases k960 with
        | zero => exact (none_some hF).elim
        | succ k960 =>
        have hF : F_law23_TableKeeps_l2 (F_law23_TableKeeps_L2 size1 t890 t891 keys895 numbers899 i900 (F_law23_TableKeeps_L1 size1 lv2 k903) xv910 k960) size1 t890 t891 keys895 numbers899 i900 (F_law23_TableKeeps_L1 size1 lv2 k903) xv910 atv956 kv957 = some r := hF
        unfold F_law23_TableKeeps_l2 at hF
        refine KC.seqH fun Q961 hQ961 => ?_
        refine KC.seqH fun Q962 hQ962 => ?_
        refine KC.region ?_
        refine RL.val (O.move rfl) rfl ?_
        refine RL.val (O.move rfl) rfl ?_
        refine RL.val (O.len sl28 rfl) rfl ?_
        refine RL.val (O.lss rfl rfl) rfl ?_
        refine RL.nil ?_
        refine KQ.thn hQ962 ?_
        clear hQ962 Q962
        refine KC.cond rfl (fun hc => ?_) (fun hc => ?_)
        ·rw [if_pos hc] at hF
         refine KC.skip ?_
         refine KQ.thn hQ961 ?_
         clear hQ961 Q961
         refine KC.cut (fun a w973 => ∃ (atv972 : Int), Kn 229 [(0, Value.int .i64 size1), (1, .slice A3 (lv2).length c4), (5, .pointer (some ⟨g34, 0, none⟩)), (7, .slice A893 (keys895).length c894), (8, .slice A897 (numbers899).length c898), (9, Value.int .i64 i900), (10, .pointer (some ⟨g911, 0, none⟩)), (11, Value.int .i64 atv972), (12, Value.int .i64 kv957)] a ∧ Mem w [] w973 [.row A888 c889 74 39 (t890).length ((t890).flatMap e_table_Slot), .box g34 71 [.slice A888 (t890).length c889, Value.int .i64 t891], .row A893 c894 35 37 (keys895).length ((keys895).flatMap e_packet_Key), .row A897 c898 36 1 (numbers899).length ((numbers899).flatMap (eI .u64)), .box g911 38 [Value.int .i64 xv910.f_Do, Value.bool xv910.f_K.f_Src.f_Six, o8 xv910.f_K.f_Src.f_B 0, o8 xv910.f_K.f_Src.f_B 1, o8 xv910.f_K.f_Src.f_B 2, o8 xv910.f_K.f_Src.f_B 3, o8 xv910.f_K.f_Src.f_B 4, o8 xv910.f_K.f_Src.f_B 5, o8 xv910.f_K.f_Src.f_B 6, o8 xv910.f_K.f_Src.f_B 7, o8 xv910.f_K.f_Src.f_B 8, o8 xv910.f_K.f_Src.f_B 9, o8 xv910.f_K.f_Src.f_B 10, o8 xv910.f_K.f_Src.f_B 11, o8 xv910.f_K.f_Src.f_B 12, o8 xv910.f_K.f_Src.f_B 13, o8 xv910.f_K.f_Src.f_B 14, o8 xv910.f_K.f_Src.f_B 15, Value.bool xv910.f_K.f_Dst.f_Six, o8 xv910.f_K.f_Dst.f_B 0, o8 xv910.f_K.f_Dst.f_B 1, o8 xv910.f_K.f_Dst.f_B 2, o8 xv910.f_K.f_Dst.f_B 3, o8 xv910.f_K.f_Dst.f_B 4, o8 xv910.f_K.f_Dst.f_B 5, o8 xv910.f_K.f_Dst.f_B 6, o8 xv910.f_K.f_Dst.f_B 7, o8 xv910.f_K.f_Dst.f_B 8, o8 xv910.f_K.f_Dst.f_B 9, o8 xv910.f_K.f_Dst.f_B 10, o8 xv910.f_K.f_Dst.f_B 11, o8 xv910.f_K.f_Dst.f_B 12, o8 xv910.f_K.f_Dst.f_B 13, o8 xv910.f_K.f_Dst.f_B 14, o8 xv910.f_K.f_Dst.f_B 15, Value.int .u8 xv910.f_K.f_Proto, Value.int .u16 xv910.f_K.f_SrcPort, Value.int .u16 xv910.f_K.f_DstPort, Value.int .u64 xv910.f_N]] ∧ F_law23_TableKeeps_j4 kv957 (F_law23_TableKeeps_L2 size1 t890 t891 keys895 numbers899 i900 (F_law23_TableKeeps_L1 size1 lv2 k903) xv910 k960) atv972 = some r) ?_ ?_
         ·refine KC.block ?_
          refine KC.seqH fun Q963 hQ963 => ?_
          replace hM := hM.drewN 1
          refine KC.draw [] [] [] [0, 1, 4, 6] (.ofList [0, 1, 2, 3, 4, 5, 6]) moP (by kernel_rfl) ?_
          refine RD.p rfl rfl rfl rfl (fun w' => O.move rfl) ?_
          refine RD.p rfl rfl rfl rfl (fun w' => O.move rfl) ?_
          refine obindE hF fun xv966 hx965 hF => ?_
          have hA964 := Rd.atN (f := e_packet_Key) (s := 37) (fun _ => rfl) (by decide) (hM.rd (i := 2) rfl) hx965
          refine RD.q rfl rfl rfl rfl (fun w' hf => O.idxA sl28 (hA964.fut hf) rfl rfl) ?_
          refine RD.q rfl rfl rfl rfl (fun w' hf => O.loadN (cs := [Value.bool xv966.f_Src.f_Six, o8 xv966.f_Src.f_B 0, o8 xv966.f_Src.f_B 1, o8 xv966.f_Src.f_B 2, o8 xv966.f_Src.f_B 3, o8 xv966.f_Src.f_B 4, o8 xv966.f_Src.f_B 5, o8 xv966.f_Src.f_B 6, o8 xv966.f_Src.f_B 7, o8 xv966.f_Src.f_B 8, o8 xv966.f_Src.f_B 9, o8 xv966.f_Src.f_B 10, o8 xv966.f_Src.f_B 11, o8 xv966.f_Src.f_B 12, o8 xv966.f_Src.f_B 13, o8 xv966.f_Src.f_B 14, o8 xv966.f_Src.f_B 15, Value.bool xv966.f_Dst.f_Six, o8 xv966.f_Dst.f_B 0, o8 xv966.f_Dst.f_B 1, o8 xv966.f_Dst.f_B 2, o8 xv966.f_Dst.f_B 3, o8 xv966.f_Dst.f_B 4, o8 xv966.f_Dst.f_B 5, o8 xv966.f_Dst.f_B 6, o8 xv966.f_Dst.f_B 7, o8 xv966.f_Dst.f_B 8, o8 xv966.f_Dst.f_B 9, o8 xv966.f_Dst.f_B 10, o8 xv966.f_Dst.f_B 11, o8 xv966.f_Dst.f_B 12, o8 xv966.f_Dst.f_B 13, o8 xv966.f_Dst.f_B 14, o8 xv966.f_Dst.f_B 15, Value.int .u8 xv966.f_Proto, Value.int .u16 xv966.f_SrcPort, Value.int .u16 xv966.f_DstPort]) ag35 rfl (hA964.fut hf).cells) ?_
          refine RD.p rfl rfl rfl rfl (fun w' => O.fldA fl38_1 (by decide) rfl) ?_
          refine RD.q rfl rfl rfl rfl (fun w' hf => O.loadN (cs := [Value.bool xv910.f_K.f_Src.f_Six, o8 xv910.f_K.f_Src.f_B 0, o8 xv910.f_K.f_Src.f_B 1, o8 xv910.f_K.f_Src.f_B 2, o8 xv910.f_K.f_Src.f_B 3, o8 xv910.f_K.f_Src.f_B 4, o8 xv910.f_K.f_Src.f_B 5, o8 xv910.f_K.f_Src.f_B 6, o8 xv910.f_K.f_Src.f_B 7, o8 xv910.f_K.f_Src.f_B 8, o8 xv910.f_K.f_Src.f_B 9, o8 xv910.f_K.f_Src.f_B 10, o8 xv910.f_K.f_Src.f_B 11, o8 xv910.f_K.f_Src.f_B 12, o8 xv910.f_K.f_Src.f_B 13, o8 xv910.f_K.f_Src.f_B 14, o8 xv910.f_K.f_Src.f_B 15, Value.bool xv910.f_K.f_Dst.f_Six, o8 xv910.f_K.f_Dst.f_B 0, o8 xv910.f_K.f_Dst.f_B 1, o8 xv910.f_K.f_Dst.f_B 2, o8 xv910.f_K.f_Dst.f_B 3, o8 xv910.f_K.f_Dst.f_B 4, o8 xv910.f_K.f_Dst.f_B 5, o8 xv910.f_K.f_Dst.f_B 6, o8 xv910.f_K.f_Dst.f_B 7, o8 xv910.f_K.f_Dst.f_B 8, o8 xv910.f_K.f_Dst.f_B 9, o8 xv910.f_K.f_Dst.f_B 10, o8 xv910.f_K.f_Dst.f_B 11, o8 xv910.f_K.f_Dst.f_B 12, o8 xv910.f_K.f_Dst.f_B 13, o8 xv910.f_K.f_Dst.f_B 14, o8 xv910.f_K.f_Dst.f_B 15, Value.int .u8 xv910.f_K.f_Proto, Value.int .u16 xv910.f_K.f_SrcPort, Value.int .u16 xv910.f_K.f_DstPort]) ag35 rfl (Cs.addsN [1] ((hM.bx (i := 4) rfl).fut hf) rfl)) ?_
          refine RD.p rfl rfl rfl rfl (fun w' => O.steq (cs := [Value.bool xv966.f_Src.f_Six, o8 xv966.f_Src.f_B 0, o8 xv966.f_Src.f_B 1, o8 xv966.f_Src.f_B 2, o8 xv966.f_Src.f_B 3, o8 xv966.f_Src.f_B 4, o8 xv966.f_Src.f_B 5, o8 xv966.f_Src.f_B 6, o8 xv966.f_Src.f_B 7, o8 xv966.f_Src.f_B 8, o8 xv966.f_Src.f_B 9, o8 xv966.f_Src.f_B 10, o8 xv966.f_Src.f_B 11, o8 xv966.f_Src.f_B 12, o8 xv966.f_Src.f_B 13, o8 xv966.f_Src.f_B 14, o8 xv966.f_Src.f_B 15, Value.bool xv966.f_Dst.f_Six, o8 xv966.f_Dst.f_B 0, o8 xv966.f_Dst.f_B 1, o8 xv966.f_Dst.f_B 2, o8 xv966.f_Dst.f_B 3, o8 xv966.f_Dst.f_B 4, o8 xv966.f_Dst.f_B 5, o8 xv966.f_Dst.f_B 6, o8 xv966.f_Dst.f_B 7, o8 xv966.f_Dst.f_B 8, o8 xv966.f_Dst.f_B 9, o8 xv966.f_Dst.f_B 10, o8 xv966.f_Dst.f_B 11, o8 xv966.f_Dst.f_B 12, o8 xv966.f_Dst.f_B 13, o8 xv966.f_Dst.f_B 14, o8 xv966.f_Dst.f_B 15, Value.int .u8 xv966.f_Proto, Value.int .u16 xv966.f_SrcPort, Value.int .u16 xv966.f_DstPort]) (cs' := [Value.bool xv910.f_K.f_Src.f_Six, o8 xv910.f_K.f_Src.f_B 0, o8 xv910.f_K.f_Src.f_B 1, o8 xv910.f_K.f_Src.f_B 2, o8 xv910.f_K.f_Src.f_B 3, o8 xv910.f_K.f_Src.f_B 4, o8 xv910.f_K.f_Src.f_B 5, o8 xv910.f_K.f_Src.f_B 6, o8 xv910.f_K.f_Src.f_B 7, o8 xv910.f_K.f_Src.f_B 8, o8 xv910.f_K.f_Src.f_B 9, o8 xv910.f_K.f_Src.f_B 10, o8 xv910.f_K.f_Src.f_B 11, o8 xv910.f_K.f_Src.f_B 12, o8 xv910.f_K.f_Src.f_B 13, o8 xv910.f_K.f_Src.f_B 14, o8 xv910.f_K.f_Src.f_B 15, Value.bool xv910.f_K.f_Dst.f_Six, o8 xv910.f_K.f_Dst.f_B 0, o8 xv910.f_K.f_Dst.f_B 1, o8 xv910.f_K.f_Dst.f_B 2, o8 xv910.f_K.f_Dst.f_B 3, o8 xv910.f_K.f_Dst.f_B 4, o8 xv910.f_K.f_Dst.f_B 5, o8 xv910.f_K.f_Dst.f_B 6, o8 xv910.f_K.f_Dst.f_B 7, o8 xv910.f_K.f_Dst.f_B 8, o8 xv910.f_K.f_Dst.f_B 9, o8 xv910.f_K.f_Dst.f_B 10, o8 xv910.f_K.f_Dst.f_B 11, o8 xv910.f_K.f_Dst.f_B 12, o8 xv910.f_K.f_Dst.f_B 13, o8 xv910.f_K.f_Dst.f_B 14, o8 xv910.f_K.f_Dst.f_B 15, Value.int .u8 xv910.f_K.f_Proto, Value.int .u16 xv910.f_K.f_SrcPort, Value.int .u16 xv910.f_K.f_DstPort]) (by kernel_rfl) rfl rfl (Q35t xv966 xv910.f_K _ rfl rfl)) ?_
          refine RD.nil ?_
          refine KQ.thn hQ963 ?_
          clear hQ963 Q963
          refine KC.cond rfl (fun hc => ?_) (fun hc => ?_)
          ·rw [if_pos hc] at hF
           refine KC.region ?_
           refine RL.val (O.move rfl) rfl ?_
           refine RL.val (O.assign rfl) rfl ?_
           refine RL.nil ?_
           refine KQ.blk_n ?_
           refine KQ.then_k ?_
           exact fun a ha => ⟨kv957, ha.less (less_cons rfl (less_cons rfl (less_cons rfl (less_cons rfl (less_cons rfl (less_cons rfl (less_cons rfl (less_cons rfl (less_cons rfl less_nil))))))))), hM, hF⟩
          ·rw [if_neg (ne_true hc)] at hF
           refine KC.skip ?_
           refine KQ.blk_n ?_
           refine KQ.then_k ?_
           exact fun a ha => ⟨atv956, ha.less (less_cons rfl (less_cons rfl (less_cons rfl (less_cons rfl (less_cons rfl (less_cons rfl (less_cons rfl (less_cons rfl (less_cons rfl less_nil))))))))), hM, hF⟩
         ·rintro a w973 ⟨atv972, ha, hM, hF⟩
          refine KC.app ha ?_
          clear ha
          unfold F_law23_TableKeeps_j4 at hF
          refine KC.region ?_
          refine RL.val (O.move rfl) rfl ?_
          refine RL.val (O.add rfl rfl) rfl ?_
          refine RL.val (O.assign rfl) rfl ?_
          refine RL.nil ?_
          refine KQ.then_k ?_
          exact fun a ha => ⟨k960, Nat.lt_succ_self k960, atv972, (IntKind.i64.wrap (kv957 + 1)), ha.less (less_cons rfl (less_cons rfl (less_cons rfl (less_cons rfl (less_cons rfl (less_cons rfl (less_cons rfl (less_cons rfl (less_cons rfl less_nil))))))))), hM, hF⟩
        ·rw [if_neg (ne_true hc)] at hF
         refine KC.exit ?_
         refine KQ.thx hQ961 ?_
         clear hQ961 Q961
         refine KQ.then_x ?_
         refine KQ.blk_x ?_
         refine KQ.thn hQ916 ?_
         clear hQ916 Q916
         refine KC.seqH fun Q974 hQ974 => ?_
         refine KC.region ?_
         refine RL.val (O.assign rfl) rfl ?_
         refine RL.nil ?_
         refine KQ.thn hQ974 ?_
         clear hQ974 Q974
         refine KC.seqH fun Q975 hQ975 => ?_
         refine KC.seqH fun Q976 hQ976 => ?_
         refine KC.region ?_
         refine RL.val (O.assign rfl) rfl ?_
         refine RL.nil ?_
         refine KQ.thn hQ976 ?_
         clear hQ976 Q976
         refine KC.block ?_
         refine KC.loop (fun k1049 a w1047 => ∃ (A1035 : Option Addr) (c1036 : Nat) (A1043 : Option Addr) (c1044 : Nat) (t1037 : List T_table_Slot) (t1038 : Int) (before1045 : List Int) (kv1046 : Int), Kn 229 [(0, Value.int .i64 size1), (1, .slice A3 (lv2).length c4), (5, .pointer (some ⟨g34, 0, none⟩)), (7, .slice A893 (keys895).length c894), (8, .slice A897 (numbers899).length c898), (9, Value.int .i64 i900), (10, .pointer (some ⟨g911, 0, none⟩)), (11, Value.int .i64 atv956), (13, .slice A1043 (before1045).length c1044), (14, Value.int .i64 kv1046)] a ∧ Mem w [] w1047 [.row A1035 c1036 74 39 (t1037).length ((t1037).flatMap e_table_Slot), .box g34 71 [.slice A1035 (t1037).length c1036, Value.int .i64 t1038], .row A893 c894 35 37 (keys895).length ((keys895).flatMap e_packet_Key), .row A897 c898 36 1 (numbers899).length ((numbers899).flatMap (eI .u64)), .box g911 38 [Value.int .i64 xv910.f_Do, Value.bool xv910.f_K.f_Src.f_Six, o8 xv910.f_K.f_Src.f_B 0, o8 xv910.f_K.f_Src.f_B 1, o8 xv910.f_K.f_Src.f_B 2, o8 xv910.f_K.f_Src.f_B 3, o8 xv910.f_K.f_Src.f_B 4, o8 xv910.f_K.f_Src.f_B 5, o8 xv910.f_K.f_Src.f_B 6, o8 xv910.f_K.f_Src.f_B 7, o8 xv910.f_K.f_Src.f_B 8, o8 xv910.f_K.f_Src.f_B 9, o8 xv910.f_K.f_Src.f_B 10, o8 xv910.f_K.f_Src.f_B 11, o8 xv910.f_K.f_Src.f_B 12, o8 xv910.f_K.f_Src.f_B 13, o8 xv910.f_K.f_Src.f_B 14, o8 xv910.f_K.f_Src.f_B 15, Value.bool xv910.f_K.f_Dst.f_Six, o8 xv910.f_K.f_Dst.f_B 0, o8 xv910.f_K.f_Dst.f_B 1, o8 xv910.f_K.f_Dst.f_B 2, o8 xv910.f_K.f_Dst.f_B 3, o8 xv910.f_K.f_Dst.f_B 4, o8 xv910.f_K.f_Dst.f_B 5, o8 xv910.f_K.f_Dst.f_B 6, o8 xv910.f_K.f_Dst.f_B 7, o8 xv910.f_K.f_Dst.f_B 8, o8 xv910.f_K.f_Dst.f_B 9, o8 xv910.f_K.f_Dst.f_B 10, o8 xv910.f_K.f_Dst.f_B 11, o8 xv910.f_K.f_Dst.f_B 12, o8 xv910.f_K.f_Dst.f_B 13, o8 xv910.f_K.f_Dst.f_B 14, o8 xv910.f_K.f_Dst.f_B 15, Value.int .u8 xv910.f_K.f_Proto, Value.int .u16 xv910.f_K.f_SrcPort, Value.int .u16 xv910.f_K.f_DstPort, Value.int .u64 xv910.f_N], .row A1043 c1044 3 1 (before1045).length ((before1045).flatMap (eI .i64))] ∧ F_law23_TableKeeps_L3 size1 keys895 numbers899 i900 (F_law23_TableKeeps_L1 size1 lv2 k903) xv910 atv956 k1049 t1037 t1038 before1045 kv1046 = some r) ?_ ?_
         ·replace hM := hM.nilrow 3 1
          exact fun a ha => ⟨fuel0, A888, c889, none, 0, t890, t891, ([]), 0, ha.less (less_cons rfl (less_cons rfl (less_cons rfl (less_cons rfl (less_cons rfl (less_cons rfl (less_cons rfl (less_cons rfl (less_cons rfl (less_cons rfl less_nil)))))))))), hM, hF⟩
         ·rintro k1049 a w1047 ⟨A1035, c1036, A1043, c1044, t1037, t1038, before1045, kv1046, ha, hM, hF⟩
          refine KC.app ha ?_
          clear ha
          cases k1049 with
          | zero => exact (none_some hF).elim
          | succ k1049 =>
          have hF : F_law23_TableKeeps_l3 (F_law23_TableKeeps_L3 size1 keys895 numbers899 i900 (F_law23_TableKeeps_L1 size1 lv2 k903) xv910 atv956 k1049) size1 keys895 numbers899 i900 (F_law23_TableKeeps_L1 size1 lv2 k903) xv910 atv956 t1037 t1038 before1045 kv1046 = some r := hF
          unfold F_law23_TableKeeps_l3 at hF
          refine KC.seqH fun Q1050 hQ1050 => ?_
          refine KC.seqH fun Q1051 hQ1051 => ?_
          refine KC.region ?_
          refine RL.val (O.move rfl) rfl ?_
          refine RL.val (O.move rfl) rfl ?_
          refine RL.val (O.len sl28 rfl) rfl ?_
          refine RL.val (O.lss rfl rfl) rfl ?_
          refine RL.nil ?_
          refine KQ.thn hQ1051 ?_
          clear hQ1051 Q1051
          refine KC.cond rfl (fun hc => ?_) (fun hc => ?_)
          ·rw [if_pos hc] at hF
           refine KC.skip ?_
           refine KQ.thn hQ1050 ?_
           clear hQ1050 Q1050
           refine KC.seqH fun Q1052 hQ1052 => ?_
           refine KC.block ?_
           refine KC.region ?_
           refine RL.val (O.move rfl) rfl ?_
           refine RL.val (O.move rfl) rfl ?_
           refine RL.val (O.move rfl) rfl ?_
           refine RL.val (O.move rfl) rfl ?_
           refine obindE hF fun xv1055 hx1054 hF => ?_
           have hA1053 := Rd.atN (f := e_packet_Key) (s := 37) (fun _ => rfl) (by decide) (hM.rd (i := 2) rfl) hx1054
           refine RL.val (O.idxA sl28 (hA1053) rfl rfl) rfl ?_
           refine RL.val (O.loadN (cs := [Value.bool xv1055.f_Src.f_Six, o8 xv1055.f_Src.f_B 0, o8 xv1055.f_Src.f_B 1, o8 xv1055.f_Src.f_B 2, o8 xv1055.f_Src.f_B 3, o8 xv1055.f_Src.f_B 4, o8 xv1055.f_Src.f_B 5, o8 xv1055.f_Src.f_B 6, o8 xv1055.f_Src.f_B 7, o8 xv1055.f_Src.f_B 8, o8 xv1055.f_Src.f_B 9, o8 xv1055.f_Src.f_B 10, o8 xv1055.f_Src.f_B 11, o8 xv1055.f_Src.f_B 12, o8 xv1055.f_Src.f_B 13, o8 xv1055.f_Src.f_B 14, o8 xv1055.f_Src.f_B 15, Value.bool xv1055.f_Dst.f_Six, o8 xv1055.f_Dst.f_B 0, o8 xv1055.f_Dst.f_B 1, o8 xv1055.f_Dst.f_B 2, o8 xv1055.f_Dst.f_B 3, o8 xv1055.f_Dst.f_B 4, o8 xv1055.f_Dst.f_B 5, o8 xv1055.f_Dst.f_B 6, o8 xv1055.f_Dst.f_B 7, o8 xv1055.f_Dst.f_B 8, o8 xv1055.f_Dst.f_B 9, o8 xv1055.f_Dst.f_B 10, o8 xv1055.f_Dst.f_B 11, o8 xv1055.f_Dst.f_B 12, o8 xv1055.f_Dst.f_B 13, o8 xv1055.f_Dst.f_B 14, o8 xv1055.f_Dst.f_B 15, Value.int .u8 xv1055.f_Proto, Value.int .u16 xv1055.f_SrcPort, Value.int .u16 xv1055.f_DstPort]) ag35 rfl (hA1053).cells) rfl ?_
           refine obindE hF fun y1056 hx1057 hF => ?_
           refine RL.call Try.func9 bd9 rfl rfl (c_table_Table_Probes _ _ _ (T_table_Table.mk t1037 t1038) _ _ (hM.lent [1, 0] rfl (by decide)) xv1055 _ hx1057) fun v w1058 hv => ?_
           obtain ⟨A1060, c1061, rfl, hN1059⟩ := hv
           replace hM := hM.callL [1, 0] [2, 3, 4, 5] rfl rfl (by decide) rfl hN1059
           refine RL.eff (E.bsl (enc := (eI .i64)) (xs := ([y1056.1] : List Int)) hM sl39 ze3 rfl rfl rfl (fun _ => rfl) rfl (by kernel_rfl) rfl) rfl fun v w1063 hv => ?_
           clear hM
           obtain ⟨A1064, rfl, hM, hf⟩ := hv
           refine cut_someE hF fun hq1069 hF => ?_
           refine RL.eff (E.app (enc := (eI .i64)) (xs := before1045) (ys := ([y1056.1] : List Int)) (j := 3) hM rfl sl39 ze3 rfl rfl rfl rfl rfl (hM.rd (i := 6) rfl) (fun _ => One.all rfl) (of_decide_eq_true hq1069)) rfl fun v w1068 hv => ?_
           clear hM
           obtain ⟨A1066, c1067, rfl, hM, hf⟩ := hv
           refine RL.val (O.assign rfl) rfl ?_
           refine RL.nil ?_
           refine KQ.blk_n ?_
           refine KQ.thn hQ1052 ?_
           clear hQ1052 Q1052
           replace hM := hM.pick [0, 1, 2, 3, 4, 5] rfl (by decide)
           refine KC.region ?_
           refine RL.val (O.move rfl) rfl ?_
           refine RL.val (O.add rfl rfl) rfl ?_
           refine RL.val (O.assign rfl) rfl ?_
           refine RL.nil ?_
           refine KQ.then_k ?_
           replace hM := hM.pick [5, 4, 0, 1, 2, 3] rfl (by decide)
           exact fun a ha => ⟨k1049, Nat.lt_succ_self k1049, A1060, c1061, A1066, c1067, y1056.2.f_slots, y1056.2.f_many, (before1045 ++ ([y1056.1] : List Int)), (IntKind.i64.wrap (kv1046 + 1)), ha.less (less_cons rfl (less_cons rfl (less_cons rfl (less_cons rfl (less_cons rfl (less_cons rfl (less_cons rfl (less_cons rfl (less_cons rfl (less_cons rfl less_nil)))))))))), hM, hF⟩
          ·rw [if_neg (ne_true hc)] at hF
           refine KC.exit ?_
           refine KQ.thx hQ1050 ?_
           clear hQ1050 Q1050
           refine KQ.then_x ?_
           refine KQ.blk_x ?_
           refine KQ.thn hQ975 ?_
           clear hQ975 Q975
           refine KC.cut (fun a w1358 => ∃ (A1346 : Option Addr) (c1347 : Nat) (A1351 : Option Addr) (c1352 : Nat) (A1355 : Option Addr) (c1356 : Nat) (t1348 : List T_table_Slot) (t1349 : Int) (keys1353 : List T_packet_Key) (numbers1357 : List Int), Kn 229 [(0, Value.int .i64 size1), (1, .slice A3 (lv2).length c4), (5, .pointer (some ⟨g34, 0, none⟩)), (7, .slice A1351 (keys1353).length c1352), (8, .slice A1355 (numbers1357).length c1356), (9, Value.int .i64 i900)] a ∧ Mem w [] w1358 [.row A1346 c1347 74 39 (t1348).length ((t1348).flatMap e_table_Slot), .box g34 71 [.slice A1346 (t1348).length c1347, Value.int .i64 t1349], .row A1351 c1352 35 37 (keys1353).length ((keys1353).flatMap e_packet_Key), .row A1355 c1356 36 1 (numbers1357).length ((numbers1357).flatMap (eI .u64))] ∧ F_law23_TableKeeps_j5 i900 (F_law23_TableKeeps_L1 size1 lv2 k903) t1348 t1349 keys1353 numbers1357 = some r) ?_ ?_
           ·refine KC.seqH fun Q1071 hQ1071 => ?_
            refine KC.region ?_
            refine RL.val (O.fldA fl38_0 (by decide) rfl) rfl ?_
            refine RL.val (O.load sc3 rfl (Cs.adds [0] ((hM.bx (i := 4) rfl)) rfl)) rfl ?_
            refine obindE hF fun y1072 hx1073 hF => ?_
            refine RL.call Try.func10 bd10 rfl rfl (c_kit_Pick _ xv910.f_Do 8 _ hx1073) fun v w1074 hv => ?_
            obtain ⟨rfl, hN1075⟩ := hv
            replace hM := hM.call0 hN1075
            refine RL.val (O.assign rfl) rfl ?_
            refine RL.nil ?_
            refine KQ.thn hQ1071 ?_
            clear hQ1071 Q1071
            refine KC.seqH fun Q1076 hQ1076 => ?_
            refine KC.region ?_
            refine RL.val (O.move rfl) rfl ?_
            refine RL.val (O.lss rfl rfl) rfl ?_
            refine RL.nil ?_
            refine KQ.thn hQ1076 ?_
            clear hQ1076 Q1076
            refine KC.cond rfl (fun hc => ?_) (fun hc => ?_)
            ·rw [if_pos hc] at hF
             refine KC.seqH fun Q1077 hQ1077 => ?_
             refine KC.region ?_
             refine RL.val (O.move rfl) rfl ?_
             refine RL.val (O.fldA fl38_1 (by decide) rfl) rfl ?_
             refine RL.val (O.loadN (cs := [Value.bool xv910.f_K.f_Src.f_Six, o8 xv910.f_K.f_Src.f_B 0, o8 xv910.f_K.f_Src.f_B 1, o8 xv910.f_K.f_Src.f_B 2, o8 xv910.f_K.f_Src.f_B 3, o8 xv910.f_K.f_Src.f_B 4, o8 xv910.f_K.f_Src.f_B 5, o8 xv910.f_K.f_Src.f_B 6, o8 xv910.f_K.f_Src.f_B 7, o8 xv910.f_K.f_Src.f_B 8, o8 xv910.f_K.f_Src.f_B 9, o8 xv910.f_K.f_Src.f_B 10, o8 xv910.f_K.f_Src.f_B 11, o8 xv910.f_K.f_Src.f_B 12, o8 xv910.f_K.f_Src.f_B 13, o8 xv910.f_K.f_Src.f_B 14, o8 xv910.f_K.f_Src.f_B 15, Value.bool xv910.f_K.f_Dst.f_Six, o8 xv910.f_K.f_Dst.f_B 0, o8 xv910.f_K.f_Dst.f_B 1, o8 xv910.f_K.f_Dst.f_B 2, o8 xv910.f_K.f_Dst.f_B 3, o8 xv910.f_K.f_Dst.f_B 4, o8 xv910.f_K.f_Dst.f_B 5, o8 xv910.f_K.f_Dst.f_B 6, o8 xv910.f_K.f_Dst.f_B 7, o8 xv910.f_K.f_Dst.f_B 8, o8 xv910.f_K.f_Dst.f_B 9, o8 xv910.f_K.f_Dst.f_B 10, o8 xv910.f_K.f_Dst.f_B 11, o8 xv910.f_K.f_Dst.f_B 12, o8 xv910.f_K.f_Dst.f_B 13, o8 xv910.f_K.f_Dst.f_B 14, o8 xv910.f_K.f_Dst.f_B 15, Value.int .u8 xv910.f_K.f_Proto, Value.int .u16 xv910.f_K.f_SrcPort, Value.int .u16 xv910.f_K.f_DstPort]) ag35 rfl (Cs.addsN [1] ((hM.bx (i := 4) rfl)) rfl)) rfl ?_
             refine RL.val (O.fldA fl38_2 (by decide) rfl) rfl ?_
             refine RL.val (O.load sc36 rfl (Cs.adds [38] ((hM.bx (i := 4) rfl)) rfl)) rfl ?_
             refine obindE hF fun y1078 hx1079 hF => ?_
             refine RL.call Try.func11 bd11 rfl rfl (c_table_Table_Put _ _ _ (T_table_Table.mk t1037 t1038) _ _ (hM.lent [1, 0] rfl (by decide)) xv910.f_K xv910.f_N _ hx1079) fun v w1080 hv => ?_
             obtain ⟨A1082, c1083, rfl, hN1081⟩ := hv
             replace hM := hM.callL [1, 0] [2, 3, 4, 5] rfl rfl (by decide) rfl hN1081
             refine RL.val (O.assign rfl) rfl ?_
             refine RL.nil ?_
             refine KQ.thn hQ1077 ?_
             clear hQ1077 Q1077
             replace hM := hM.pick [0, 1, 2, 4, 5] rfl (by decide)
             refine KC.cut (fun a w1095 => ∃ (may1094 : Bool), Kn 229 [(0, Value.int .i64 size1), (1, .slice A3 (lv2).length c4), (5, .pointer (some ⟨g34, 0, none⟩)), (7, .slice A893 (keys895).length c894), (8, .slice A897 (numbers899).length c898), (9, Value.int .i64 i900), (10, .pointer (some ⟨g911, 0, none⟩)), (11, Value.int .i64 atv956), (16, Value.int .i64 y1078.1), (17, Value.bool may1094)] a ∧ Mem w [] w1095 [.row A1082 c1083 74 39 (y1078.2.f_slots).length ((y1078.2.f_slots).flatMap e_table_Slot), .box g34 71 [.slice A1082 (y1078.2.f_slots).length c1083, Value.int .i64 y1078.2.f_many], .row A893 c894 35 37 (keys895).length ((keys895).flatMap e_packet_Key), .row A897 c898 36 1 (numbers899).length ((numbers899).flatMap (eI .u64)), .box g911 38 [Value.int .i64 xv910.f_Do, Value.bool xv910.f_K.f_Src.f_Six, o8 xv910.f_K.f_Src.f_B 0, o8 xv910.f_K.f_Src.f_B 1, o8 xv910.f_K.f_Src.f_B 2, o8 xv910.f_K.f_Src.f_B 3, o8 xv910.f_K.f_Src.f_B 4, o8 xv910.f_K.f_Src.f_B 5, o8 xv910.f_K.f_Src.f_B 6, o8 xv910.f_K.f_Src.f_B 7, o8 xv910.f_K.f_Src.f_B 8, o8 xv910.f_K.f_Src.f_B 9, o8 xv910.f_K.f_Src.f_B 10, o8 xv910.f_K.f_Src.f_B 11, o8 xv910.f_K.f_Src.f_B 12, o8 xv910.f_K.f_Src.f_B 13, o8 xv910.f_K.f_Src.f_B 14, o8 xv910.f_K.f_Src.f_B 15, Value.bool xv910.f_K.f_Dst.f_Six, o8 xv910.f_K.f_Dst.f_B 0, o8 xv910.f_K.f_Dst.f_B 1, o8 xv910.f_K.f_Dst.f_B 2, o8 xv910.f_K.f_Dst.f_B 3, o8 xv910.f_K.f_Dst.f_B 4, o8 xv910.f_K.f_Dst.f_B 5, o8 xv910.f_K.f_Dst.f_B 6, o8 xv910.f_K.f_Dst.f_B 7, o8 xv910.f_K.f_Dst.f_B 8, o8 xv910.f_K.f_Dst.f_B 9, o8 xv910.f_K.f_Dst.f_B 10, o8 xv910.f_K.f_Dst.f_B 11, o8 xv910.f_K.f_Dst.f_B 12, o8 xv910.f_K.f_Dst.f_B 13, o8 xv910.f_K.f_Dst.f_B 14, o8 xv910.f_K.f_Dst.f_B 15, Value.int .u8 xv910.f_K.f_Proto, Value.int .u16 xv910.f_K.f_SrcPort, Value.int .u16 xv910.f_K.f_DstPort, Value.int .u64 xv910.f_N]] ∧ F_law23_TableKeeps_j7 keys895 numbers899 i900 (F_law23_TableKeeps_L1 size1 lv2 k903) xv910 atv956 y1078 may1094 = some r) ?_ ?_
             ·refine KC.region ?_
              refine RL.val (O.fldA fl38_1 (by decide) rfl) rfl ?_
              refine RL.val (O.loadN (cs := [Value.bool xv910.f_K.f_Src.f_Six, o8 xv910.f_K.f_Src.f_B 0, o8 xv910.f_K.f_Src.f_B 1, o8 xv910.f_K.f_Src.f_B 2, o8 xv910.f_K.f_Src.f_B 3, o8 xv910.f_K.f_Src.f_B 4, o8 xv910.f_K.f_Src.f_B 5, o8 xv910.f_K.f_Src.f_B 6, o8 xv910.f_K.f_Src.f_B 7, o8 xv910.f_K.f_Src.f_B 8, o8 xv910.f_K.f_Src.f_B 9, o8 xv910.f_K.f_Src.f_B 10, o8 xv910.f_K.f_Src.f_B 11, o8 xv910.f_K.f_Src.f_B 12, o8 xv910.f_K.f_Src.f_B 13, o8 xv910.f_K.f_Src.f_B 14, o8 xv910.f_K.f_Src.f_B 15, Value.bool xv910.f_K.f_Dst.f_Six, o8 xv910.f_K.f_Dst.f_B 0, o8 xv910.f_K.f_Dst.f_B 1, o8 xv910.f_K.f_Dst.f_B 2, o8 xv910.f_K.f_Dst.f_B 3, o8 xv910.f_K.f_Dst.f_B 4, o8 xv910.f_K.f_Dst.f_B 5, o8 xv910.f_K.f_Dst.f_B 6, o8 xv910.f_K.f_Dst.f_B 7, o8 xv910.f_K.f_Dst.f_B 8, o8 xv910.f_K.f_Dst.f_B 9, o8 xv910.f_K.f_Dst.f_B 10, o8 xv910.f_K.f_Dst.f_B 11, o8 xv910.f_K.f_Dst.f_B 12, o8 xv910.f_K.f_Dst.f_B 13, o8 xv910.f_K.f_Dst.f_B 14, o8 xv910.f_K.f_Dst.f_B 15, Value.int .u8 xv910.f_K.f_Proto, Value.int .u16 xv910.f_K.f_SrcPort, Value.int .u16 xv910.f_K.f_DstPort]) ag35 rfl (Cs.addsN [1] ((hM.bx (i := 2) rfl)) rfl)) rfl ?_
              refine obindE hF fun y1085 hx1086 hF => ?_
              refine RL.call Try.func12 bd12 rfl rfl (c_packet_Key_Right _ xv910.f_K _ hx1086) fun v w1087 hv => ?_
              obtain ⟨rfl, hN1088⟩ := hv
              replace hM := hM.call0 hN1088
              refine RL.val (O.move rfl) rfl ?_
              refine RL.bcase (t := 95) rfl (fun hc => ?_) (fun hc => ?_)
              ·rw [if_pos hc] at hF
               refine RL.gval rfl rfl (O.move rfl) rfl ?_
               refine RL.gval rfl rfl (O.geq rfl rfl) rfl ?_
               refine RL.gval rfl rfl (O.move rfl) rfl ?_
               refine RL.bcase (t := 98) rfl (fun hc => ?_) (fun hc => ?_)
               ·rw [if_pos hc] at hF
                refine RL.gskip rfl rfl rfl rfl ?_
                refine RL.gskip rfl rfl rfl rfl ?_
                refine RL.gskip rfl rfl rfl rfl ?_
                refine RL.gskip rfl rfl rfl rfl ?_
                refine RL.gval rfl rfl (O.pickt rfl rfl) rfl ?_
                refine RL.val (O.pickt rfl rfl) rfl ?_
                refine RL.val (O.assign rfl) rfl ?_
                refine RL.nil ?_
                refine KQ.then_k ?_
                replace hM := hM.pick [4, 3, 0, 1, 2] rfl (by decide)
                exact fun a ha => ⟨true, ha.less (less_cons rfl (less_cons rfl (less_cons rfl (less_cons rfl (less_cons rfl (less_cons rfl (less_cons rfl (less_cons rfl (less_cons rfl (less_cons rfl less_nil)))))))))), hM, hF⟩
               ·rw [if_neg (ne_true hc)] at hF
                refine RL.gval rfl rfl (O.move rfl) rfl ?_
                refine RL.gval rfl rfl (O.len sl28 rfl) rfl ?_
                refine RL.gval rfl rfl (O.move rfl) rfl ?_
                refine RL.gval rfl rfl (O.lss rfl rfl) rfl ?_
                refine RL.gval rfl rfl (O.pickf rfl rfl) rfl ?_
                refine RL.val (O.pickt rfl rfl) rfl ?_
                refine RL.val (O.assign rfl) rfl ?_
                refine RL.nil ?_
                refine KQ.then_k ?_
                replace hM := hM.pick [4, 3, 0, 1, 2] rfl (by decide)
                exact fun a ha => ⟨(decide ((keys895.length : Int) < size1)), ha.less (less_cons rfl (less_cons rfl (less_cons rfl (less_cons rfl (less_cons rfl (less_cons rfl (less_cons rfl (less_cons rfl (less_cons rfl (less_cons rfl less_nil)))))))))), hM, hF⟩
              ·rw [if_neg (ne_true hc)] at hF
               refine RL.gskip rfl rfl rfl rfl ?_
               refine RL.gskip rfl rfl rfl rfl ?_
               refine RL.gskip rfl rfl rfl rfl ?_
               refine RL.gskip' rfl rfl rfl ?_
               refine RL.gskip' rfl rfl rfl ?_
               refine RL.gskip' rfl rfl rfl ?_
               refine RL.gskip' rfl rfl rfl ?_
               refine RL.gskip rfl rfl rfl rfl ?_
               refine RL.val (O.pickf rfl rfl) rfl ?_
               refine RL.val (O.assign rfl) rfl ?_
               refine RL.nil ?_
               refine KQ.then_k ?_
               replace hM := hM.pick [4, 3, 0, 1, 2] rfl (by decide)
               exact fun a ha => ⟨false, ha.less (less_cons rfl (less_cons rfl (less_cons rfl (less_cons rfl (less_cons rfl (less_cons rfl (less_cons rfl (less_cons rfl (less_cons rfl (less_cons rfl less_nil)))))))))), hM, hF⟩
             ·rintro a w1095 ⟨may1094, ha, hM, hF⟩
              refine KC.app ha ?_
              clear ha
              unfold F_law23_TableKeeps_j7 at hF
              refine KC.seqH fun Q1096 hQ1096 => ?_
              refine KC.seqH fun Q1097 hQ1097 => ?_
              refine KC.region ?_
              refine RL.val (O.move rfl) rfl ?_
              refine RL.val (O.move rfl) rfl ?_
              refine RL.val (O.eql rfl rfl) rfl ?_
              refine RL.val (O.neqb Try.underlying4 rfl rfl) rfl ?_
              refine RL.nil ?_
              refine KQ.thn hQ1097 ?_
              clear hQ1097 Q1097
              refine KC.cond rfl (fun hc => ?_) (fun hc => ?_)
              ·rw [if_pos hc] at hF
               refine KC.seqH fun Q1098 hQ1098 => ?_
               refine KC.region ?_
               refine RL.val (O.assign rfl) rfl ?_
               refine RL.nil ?_
               refine KQ.thn hQ1098 ?_
               clear hQ1098 Q1098
               refine KC.ret ?_
               refine KQ.thr hQ1096 ?_
               clear hQ1096 Q1096
               refine KQ.then_r ?_
               refine KQ.blk_r ?_
               refine KQ.thr hQ906 ?_
               clear hQ906 Q906
               refine KQ.then_r ?_
               refine KQ.blk_r ?_
               refine KQ.thr hQ41 ?_
               clear hQ41 Q41
               have hE := Option.some.inj hF
               clear hF
               subst hE
               replace hM := hM.pick [] rfl (by decide)
               refine KQ.rets Try.results3 (RVs.cons (RV.tm rfl) RVs.nil) ?_
               exact ⟨_, rfl, rfl, hM⟩
              ·rw [if_neg (ne_true hc)] at hF
               refine KC.skip ?_
               refine KQ.thn hQ1096 ?_
               clear hQ1096 Q1096
               refine KC.cut (fun a w1119 => ∃ (A1115 : Option Addr) (c1116 : Nat) (numbers1117 : List Int), Kn 229 [(0, Value.int .i64 size1), (1, .slice A3 (lv2).length c4), (5, .pointer (some ⟨g34, 0, none⟩)), (7, .slice A893 (keys895).length c894), (8, .slice A1115 (numbers1117).length c1116), (9, Value.int .i64 i900), (10, .pointer (some ⟨g911, 0, none⟩)), (11, Value.int .i64 atv956), (17, Value.bool may1094)] a ∧ Mem w [] w1119 [.row A1082 c1083 74 39 (y1078.2.f_slots).length ((y1078.2.f_slots).flatMap e_table_Slot), .box g34 71 [.slice A1082 (y1078.2.f_slots).length c1083, Value.int .i64 y1078.2.f_many], .row A893 c894 35 37 (keys895).length ((keys895).flatMap e_packet_Key), .row A1115 c1116 36 1 (numbers1117).length ((numbers1117).flatMap (eI .u64)), .box g911 38 [Value.int .i64 xv910.f_Do, Value.bool xv910.f_K.f_Src.f_Six, o8 xv910.f_K.f_Src.f_B 0, o8 xv910.f_K.f_Src.f_B 1, o8 xv910.f_K.f_Src.f_B 2, o8 xv910.f_K.f_Src.f_B 3, o8 xv910.f_K.f_Src.f_B 4, o8 xv910.f_K.f_Src.f_B 5, o8 xv910.f_K.f_Src.f_B 6, o8 xv910.f_K.f_Src.f_B 7, o8 xv910.f_K.f_Src.f_B 8, o8 xv910.f_K.f_Src.f_B 9, o8 xv910.f_K.f_Src.f_B 10, o8 xv910.f_K.f_Src.f_B 11, o8 xv910.f_K.f_Src.f_B 12, o8 xv910.f_K.f_Src.f_B 13, o8 xv910.f_K.f_Src.f_B 14, o8 xv910.f_K.f_Src.f_B 15, Value.bool xv910.f_K.f_Dst.f_Six, o8 xv910.f_K.f_Dst.f_B 0, o8 xv910.f_K.f_Dst.f_B 1, o8 xv910.f_K.f_Dst.f_B 2, o8 xv910.f_K.f_Dst.f_B 3, o8 xv910.f_K.f_Dst.f_B 4, o8 xv910.f_K.f_Dst.f_B 5, o8 xv910.f_K.f_Dst.f_B 6, o8 xv910.f_K.f_Dst.f_B 7, o8 xv910.f_K.f_Dst.f_B 8, o8 xv910.f_K.f_Dst.f_B 9, o8 xv910.f_K.f_Dst.f_B 10, o8 xv910.f_K.f_Dst.f_B 11, o8 xv910.f_K.f_Dst.f_B 12, o8 xv910.f_K.f_Dst.f_B 13, o8 xv910.f_K.f_Dst.f_B 14, o8 xv910.f_K.f_Dst.f_B 15, Value.int .u8 xv910.f_K.f_Proto, Value.int .u16 xv910.f_K.f_SrcPort, Value.int .u16 xv910.f_K.f_DstPort, Value.int .u64 xv910.f_N]] ∧ F_law23_TableKeeps_j8 keys895 i900 (F_law23_TableKeeps_L1 size1 lv2 k903) xv910 atv956 y1078 may1094 numbers1117 = some r) ?_ ?_
               ·refine KC.cut (fun a w1105 => ∃ (t1104 : Bool), Kn 229 [(0, Value.int .i64 size1), (1, .slice A3 (lv2).length c4), (5, .pointer (some ⟨g34, 0, none⟩)), (7, .slice A893 (keys895).length c894), (8, .slice A897 (numbers899).length c898), (9, Value.int .i64 i900), (10, .pointer (some ⟨g911, 0, none⟩)), (11, Value.int .i64 atv956), (17, Value.bool may1094), (113, Value.bool t1104)] a ∧ Mem w [] w1105 [.row A1082 c1083 74 39 (y1078.2.f_slots).length ((y1078.2.f_slots).flatMap e_table_Slot), .box g34 71 [.slice A1082 (y1078.2.f_slots).length c1083, Value.int .i64 y1078.2.f_many], .row A893 c894 35 37 (keys895).length ((keys895).flatMap e_packet_Key), .row A897 c898 36 1 (numbers899).length ((numbers899).flatMap (eI .u64)), .box g911 38 [Value.int .i64 xv910.f_Do, Value.bool xv910.f_K.f_Src.f_Six, o8 xv910.f_K.f_Src.f_B 0, o8 xv910.f_K.f_Src.f_B 1, o8 xv910.f_K.f_Src.f_B 2, o8 xv910.f_K.f_Src.f_B 3, o8 xv910.f_K.f_Src.f_B 4, o8 xv910.f_K.f_Src.f_B 5, o8 xv910.f_K.f_Src.f_B 6, o8 xv910.f_K.f_Src.f_B 7, o8 xv910.f_K.f_Src.f_B 8, o8 xv910.f_K.f_Src.f_B 9, o8 xv910.f_K.f_Src.f_B 10, o8 xv910.f_K.f_Src.f_B 11, o8 xv910.f_K.f_Src.f_B 12, o8 xv910.f_K.f_Src.f_B 13, o8 xv910.f_K.f_Src.f_B 14, o8 xv910.f_K.f_Src.f_B 15, Value.bool xv910.f_K.f_Dst.f_Six, o8 xv910.f_K.f_Dst.f_B 0, o8 xv910.f_K.f_Dst.f_B 1, o8 xv910.f_K.f_Dst.f_B 2, o8 xv910.f_K.f_Dst.f_B 3, o8 xv910.f_K.f_Dst.f_B 4, o8 xv910.f_K.f_Dst.f_B 5, o8 xv910.f_K.f_Dst.f_B 6, o8 xv910.f_K.f_Dst.f_B 7, o8 xv910.f_K.f_Dst.f_B 8, o8 xv910.f_K.f_Dst.f_B 9, o8 xv910.f_K.f_Dst.f_B 10, o8 xv910.f_K.f_Dst.f_B 11, o8 xv910.f_K.f_Dst.f_B 12, o8 xv910.f_K.f_Dst.f_B 13, o8 xv910.f_K.f_Dst.f_B 14, o8 xv910.f_K.f_Dst.f_B 15, Value.int .u8 xv910.f_K.f_Proto, Value.int .u16 xv910.f_K.f_SrcPort, Value.int .u16 xv910.f_K.f_DstPort, Value.int .u64 xv910.f_N]] ∧ F_law23_TableKeeps_j10 keys895 numbers899 i900 (F_law23_TableKeeps_L1 size1 lv2 k903) xv910 atv956 y1078 may1094 t1104 = some r) ?_ ?_
                ·refine KC.region ?_
                 refine RL.val (O.move rfl) rfl ?_
                 refine RL.val (O.move rfl) rfl ?_
                 refine RL.bcase (t := 110) rfl (fun hc => ?_) (fun hc => ?_)
                 ·rw [if_pos hc] at hF
                  refine RL.gval rfl rfl (O.move rfl) rfl ?_
                  refine RL.gval rfl rfl (O.geq rfl rfl) rfl ?_
                  refine RL.val (O.pickt rfl rfl) rfl ?_
                  refine RL.nil ?_
                  refine KQ.then_k ?_
                  exact fun a ha => ⟨(decide (0 ≤ atv956)), ha.less (less_cons rfl (less_cons rfl (less_cons rfl (less_cons rfl (less_cons rfl (less_cons rfl (less_cons rfl (less_cons rfl (less_cons rfl (less_cons rfl less_nil)))))))))), hM, hF⟩
                 ·rw [if_neg (ne_true hc)] at hF
                  refine RL.gskip rfl rfl rfl rfl ?_
                  refine RL.gskip rfl rfl rfl rfl ?_
                  refine RL.val (O.pickf rfl rfl) rfl ?_
                  refine RL.nil ?_
                  refine KQ.then_k ?_
                  exact fun a ha => ⟨false, ha.less (less_cons rfl (less_cons rfl (less_cons rfl (less_cons rfl (less_cons rfl (less_cons rfl (less_cons rfl (less_cons rfl (less_cons rfl (less_cons rfl less_nil)))))))))), hM, hF⟩
                ·rintro a w1105 ⟨t1104, ha, hM, hF⟩
                 refine KC.app ha ?_
                 clear ha
                 unfold F_law23_TableKeeps_j10 at hF
                 refine KC.cond rfl (fun hc => ?_) (fun hc => ?_)
                 ·rw [if_pos hc] at hF
                  refine KC.region ?_
                  refine RL.val (O.move rfl) rfl ?_
                  refine RL.val (O.move rfl) rfl ?_
                  refine RL.val (O.fldA fl38_2 (by decide) rfl) rfl ?_
                  refine RL.val (O.load sc36 rfl (Cs.adds [38] ((hM.bx (i := 4) rfl)) rfl)) rfl ?_
                  refine obindE hF fun xv1108 hx1107 hF => ?_
                  have hA1106 := Rd.atN (f := (eI .u64)) (s := 1) (fun _ => rfl) (by decide) (hM.rd (i := 3) rfl) hx1107
                  refine RL.val (O.idxA sl29 (hA1106) rfl rfl) rfl ?_
                  refine RL.effs (E.stR (enc := (eI .u64)) (j := 3) (off := 0) (vs := [Value.int .u64 xv910.f_N]) (x' := xv910.f_N) hM rfl (fun _ => rfl) hx1107 sz36 rfl (addsR_eq [] rfl) rfl rfl (One.all rfl) rfl rfl) fun w1109 hM1 => ?_
                  clear hM
                  obtain ⟨hM, hn1110⟩ := hM1
                  refine RL.reslot (t := 8) rfl hn1110 ?_
                  refine RL.reslot (t := 114) rfl hn1110 ?_
                  refine RL.nil ?_
                  refine KQ.then_k ?_
                  exact fun a ha => ⟨A897, c898, (numbers899.set (atv956 : Int).toNat xv910.f_N), ha.less (less_cons rfl (less_cons rfl (less_cons rfl (less_cons rfl (less_cons rfl (less_cons rfl (less_cons rfl (less_cons rfl (less_cons rfl less_nil))))))))), hM, hF⟩
                 ·rw [if_neg (ne_true hc)] at hF
                  refine KC.skip ?_
                  refine KQ.then_k ?_
                  exact fun a ha => ⟨A897, c898, numbers899, ha.less (less_cons rfl (less_cons rfl (less_cons rfl (less_cons rfl (less_cons rfl (less_cons rfl (less_cons rfl (less_cons rfl (less_cons rfl less_nil))))))))), hM, hF⟩
               ·rintro a w1119 ⟨A1115, c1116, numbers1117, ha, hM, hF⟩
                refine KC.app ha ?_
                clear ha
                unfold F_law23_TableKeeps_j8 at hF
                refine KC.cut (fun a w1126 => ∃ (t1125 : Bool), Kn 229 [(0, Value.int .i64 size1), (1, .slice A3 (lv2).length c4), (5, .pointer (some ⟨g34, 0, none⟩)), (7, .slice A893 (keys895).length c894), (8, .slice A1115 (numbers1117).length c1116), (9, Value.int .i64 i900), (10, .pointer (some ⟨g911, 0, none⟩)), (123, Value.bool t1125)] a ∧ Mem w [] w1126 [.row A1082 c1083 74 39 (y1078.2.f_slots).length ((y1078.2.f_slots).flatMap e_table_Slot), .box g34 71 [.slice A1082 (y1078.2.f_slots).length c1083, Value.int .i64 y1078.2.f_many], .row A893 c894 35 37 (keys895).length ((keys895).flatMap e_packet_Key), .row A1115 c1116 36 1 (numbers1117).length ((numbers1117).flatMap (eI .u64)), .box g911 38 [Value.int .i64 xv910.f_Do, Value.bool xv910.f_K.f_Src.f_Six, o8 xv910.f_K.f_Src.f_B 0, o8 xv910.f_K.f_Src.f_B 1, o8 xv910.f_K.f_Src.f_B 2, o8 xv910.f_K.f_Src.f_B 3, o8 xv910.f_K.f_Src.f_B 4, o8 xv910.f_K.f_Src.f_B 5, o8 xv910.f_K.f_Src.f_B 6, o8 xv910.f_K.f_Src.f_B 7, o8 xv910.f_K.f_Src.f_B 8, o8 xv910.f_K.f_Src.f_B 9, o8 xv910.f_K.f_Src.f_B 10, o8 xv910.f_K.f_Src.f_B 11, o8 xv910.f_K.f_Src.f_B 12, o8 xv910.f_K.f_Src.f_B 13, o8 xv910.f_K.f_Src.f_B 14, o8 xv910.f_K.f_Src.f_B 15, Value.bool xv910.f_K.f_Dst.f_Six, o8 xv910.f_K.f_Dst.f_B 0, o8 xv910.f_K.f_Dst.f_B 1, o8 xv910.f_K.f_Dst.f_B 2, o8 xv910.f_K.f_Dst.f_B 3, o8 xv910.f_K.f_Dst.f_B 4, o8 xv910.f_K.f_Dst.f_B 5, o8 xv910.f_K.f_Dst.f_B 6, o8 xv910.f_K.f_Dst.f_B 7, o8 xv910.f_K.f_Dst.f_B 8, o8 xv910.f_K.f_Dst.f_B 9, o8 xv910.f_K.f_Dst.f_B 10, o8 xv910.f_K.f_Dst.f_B 11, o8 xv910.f_K.f_Dst.f_B 12, o8 xv910.f_K.f_Dst.f_B 13, o8 xv910.f_K.f_Dst.f_B 14, o8 xv910.f_K.f_Dst.f_B 15, Value.int .u8 xv910.f_K.f_Proto, Value.int .u16 xv910.f_K.f_SrcPort, Value.int .u16 xv910.f_K.f_DstPort, Value.int .u64 xv910.f_N]] ∧ F_law23_TableKeeps_j9 keys895 i900 (F_law23_TableKeeps_L1 size1 lv2 k903) xv910 y1078 numbers1117 t1125 = some r) ?_ ?_
                ·refine KC.region ?_
                 refine RL.val (O.move rfl) rfl ?_
                 refine RL.val (O.move rfl) rfl ?_
                 refine RL.bcase (t := 120) rfl (fun hc => ?_) (fun hc => ?_)
                 ·rw [if_pos hc] at hF
                  refine RL.gval rfl rfl (O.move rfl) rfl ?_
                  refine RL.gval rfl rfl (O.lss rfl rfl) rfl ?_
                  refine RL.val (O.pickt rfl rfl) rfl ?_
                  refine RL.nil ?_
                  refine KQ.then_k ?_
                  exact fun a ha => ⟨(decide (atv956 < 0)), ha.less (less_cons rfl (less_cons rfl (less_cons rfl (less_cons rfl (less_cons rfl (less_cons rfl (less_cons rfl (less_cons rfl less_nil)))))))), hM, hF⟩
                 ·rw [if_neg (ne_true hc)] at hF
                  refine RL.gskip rfl rfl rfl rfl ?_
                  refine RL.gskip rfl rfl rfl rfl ?_
                  refine RL.val (O.pickf rfl rfl) rfl ?_
                  refine RL.nil ?_
                  refine KQ.then_k ?_
                  exact fun a ha => ⟨false, ha.less (less_cons rfl (less_cons rfl (less_cons rfl (less_cons rfl (less_cons rfl (less_cons rfl (less_cons rfl (less_cons rfl less_nil)))))))), hM, hF⟩
                ·rintro a w1126 ⟨t1125, ha, hM, hF⟩
                 refine KC.app ha ?_
                 clear ha
                 unfold F_law23_TableKeeps_j9 at hF
                 refine KC.cond rfl (fun hc => ?_) (fun hc => ?_)
                 ·rw [if_pos hc] at hF
                  refine KC.seqH fun Q1127 hQ1127 => ?_
                  refine KC.region ?_
                  refine RL.val (O.move rfl) rfl ?_
                  refine RL.val (O.fldA fl38_1 (by decide) rfl) rfl ?_
                  refine RL.val (O.loadN (cs := [Value.bool xv910.f_K.f_Src.f_Six, o8 xv910.f_K.f_Src.f_B 0, o8 xv910.f_K.f_Src.f_B 1, o8 xv910.f_K.f_Src.f_B 2, o8 xv910.f_K.f_Src.f_B 3, o8 xv910.f_K.f_Src.f_B 4, o8 xv910.f_K.f_Src.f_B 5, o8 xv910.f_K.f_Src.f_B 6, o8 xv910.f_K.f_Src.f_B 7, o8 xv910.f_K.f_Src.f_B 8, o8 xv910.f_K.f_Src.f_B 9, o8 xv910.f_K.f_Src.f_B 10, o8 xv910.f_K.f_Src.f_B 11, o8 xv910.f_K.f_Src.f_B 12, o8 xv910.f_K.f_Src.f_B 13, o8 xv910.f_K.f_Src.f_B 14, o8 xv910.f_K.f_Src.f_B 15, Value.bool xv910.f_K.f_Dst.f_Six, o8 xv910.f_K.f_Dst.f_B 0, o8 xv910.f_K.f_Dst.f_B 1, o8 xv910.f_K.f_Dst.f_B 2, o8 xv910.f_K.f_Dst.f_B 3, o8 xv910.f_K.f_Dst.f_B 4, o8 xv910.f_K.f_Dst.f_B 5, o8 xv910.f_K.f_Dst.f_B 6, o8 xv910.f_K.f_Dst.f_B 7, o8 xv910.f_K.f_Dst.f_B 8, o8 xv910.f_K.f_Dst.f_B 9, o8 xv910.f_K.f_Dst.f_B 10, o8 xv910.f_K.f_Dst.f_B 11, o8 xv910.f_K.f_Dst.f_B 12, o8 xv910.f_K.f_Dst.f_B 13, o8 xv910.f_K.f_Dst.f_B 14, o8 xv910.f_K.f_Dst.f_B 15, Value.int .u8 xv910.f_K.f_Proto, Value.int .u16 xv910.f_K.f_SrcPort, Value.int .u16 xv910.f_K.f_DstPort]) ag35 rfl (Cs.addsN [1] ((hM.bx (i := 4) rfl)) rfl)) rfl ?_
                  refine RL.eff (E.bsl (enc := e_packet_Key) (xs := ([xv910.f_K] : List T_packet_Key)) hM sl28 ze35 rfl rfl rfl (fun _ => rfl) rfl (by kernel_rfl) rfl) rfl fun v w1128 hv => ?_
                  clear hM
                  obtain ⟨A1129, rfl, hM, hf⟩ := hv
                  refine cut_someE hF fun hq1134 hF => ?_
                  refine RL.eff (E.app (enc := e_packet_Key) (xs := keys895) (ys := ([xv910.f_K] : List T_packet_Key)) (j := 2) hM rfl sl28 ze35 rfl rfl rfl rfl rfl (hM.rd (i := 5) rfl) (fun _ => One.all rfl) (of_decide_eq_true hq1134)) rfl fun v w1133 hv => ?_
                  clear hM
                  obtain ⟨A1131, c1132, rfl, hM, hf⟩ := hv
                  refine RL.val (O.assign rfl) rfl ?_
                  refine RL.nil ?_
                  refine KQ.thn hQ1127 ?_
                  clear hQ1127 Q1127
                  replace hM := hM.pick [0, 1, 2, 3, 4] rfl (by decide)
                  refine KC.region ?_
                  refine RL.val (O.move rfl) rfl ?_
                  refine RL.val (O.fldA fl38_2 (by decide) rfl) rfl ?_
                  refine RL.val (O.load sc36 rfl (Cs.adds [38] ((hM.bx (i := 4) rfl)) rfl)) rfl ?_
                  refine RL.eff (E.bsl (enc := (eI .u64)) (xs := ([xv910.f_N] : List Int)) hM sl29 ze36 rfl rfl rfl (fun _ => rfl) rfl (by kernel_rfl) rfl) rfl fun v w1136 hv => ?_
                  clear hM
                  obtain ⟨A1137, rfl, hM, hf⟩ := hv
                  refine cut_someE hF fun hq1142 hF => ?_
                  refine RL.eff (E.app (enc := (eI .u64)) (xs := numbers1117) (ys := ([xv910.f_N] : List Int)) (j := 3) hM rfl sl29 ze36 rfl rfl rfl rfl rfl (hM.rd (i := 5) rfl) (fun _ => One.all rfl) (of_decide_eq_true hq1142)) rfl fun v w1141 hv => ?_
                  clear hM
                  obtain ⟨A1139, c1140, rfl, hM, hf⟩ := hv
                  refine RL.val (O.assign rfl) rfl ?_
                  refine RL.nil ?_
                  refine KQ.then_k ?_
                  replace hM := hM.pick [0, 1, 2, 3] rfl (by decide)
                  exact fun a ha => ⟨A1082, c1083, A1131, c1132, A1139, c1140, y1078.2.f_slots, y1078.2.f_many, (keys895 ++ ([xv910.f_K] : List T_packet_Key)), (numbers1117 ++ ([xv910.f_N] : List Int)), ha.less (less_cons rfl (less_cons rfl (less_cons rfl (less_cons rfl (less_cons rfl (less_cons rfl less_nil)))))), hM, hF⟩
                 ·rw [if_neg (ne_true hc)] at hF
                  refine KC.skip ?_
                  refine KQ.then_k ?_
                  replace hM := hM.pick [0, 1, 2, 3] rfl (by decide)
                  exact fun a ha => ⟨A1082, c1083, A893, c894, A1115, c1116, y1078.2.f_slots, y1078.2.f_many, keys895, numbers1117, ha.less (less_cons rfl (less_cons rfl (less_cons rfl (less_cons rfl (less_cons rfl (less_cons rfl less_nil)))))), hM, hF⟩
            ·rw [if_neg (ne_true hc)] at hF
             refine KC.seqH fun Q1144 hQ1144 => ?_
             refine KC.region ?_
             refine RL.val (O.move rfl) rfl ?_
             refine RL.val (O.lss rfl rfl) rfl ?_
             refine RL.nil ?_
             refine KQ.thn hQ1144 ?_
             clear hQ1144 Q1144
             refine KC.cond rfl (fun hc => ?_) (fun hc => ?_)
             ·rw [if_pos hc] at hF
              refine KC.seqH fun Q1145 hQ1145 => ?_
              refine KC.seqH fun Q1146 hQ1146 => ?_
              refine KC.region ?_
              refine RL.val (O.move rfl) rfl ?_
              refine RL.val (O.fldA fl38_1 (by decide) rfl) rfl ?_
              refine RL.val (O.loadN (cs := [Value.bool xv910.f_K.f_Src.f_Six, o8 xv910.f_K.f_Src.f_B 0, o8 xv910.f_K.f_Src.f_B 1, o8 xv910.f_K.f_Src.f_B 2, o8 xv910.f_K.f_Src.f_B 3, o8 xv910.f_K.f_Src.f_B 4, o8 xv910.f_K.f_Src.f_B 5, o8 xv910.f_K.f_Src.f_B 6, o8 xv910.f_K.f_Src.f_B 7, o8 xv910.f_K.f_Src.f_B 8, o8 xv910.f_K.f_Src.f_B 9, o8 xv910.f_K.f_Src.f_B 10, o8 xv910.f_K.f_Src.f_B 11, o8 xv910.f_K.f_Src.f_B 12, o8 xv910.f_K.f_Src.f_B 13, o8 xv910.f_K.f_Src.f_B 14, o8 xv910.f_K.f_Src.f_B 15, Value.bool xv910.f_K.f_Dst.f_Six, o8 xv910.f_K.f_Dst.f_B 0, o8 xv910.f_K.f_Dst.f_B 1, o8 xv910.f_K.f_Dst.f_B 2, o8 xv910.f_K.f_Dst.f_B 3, o8 xv910.f_K.f_Dst.f_B 4, o8 xv910.f_K.f_Dst.f_B 5, o8 xv910.f_K.f_Dst.f_B 6, o8 xv910.f_K.f_Dst.f_B 7, o8 xv910.f_K.f_Dst.f_B 8, o8 xv910.f_K.f_Dst.f_B 9, o8 xv910.f_K.f_Dst.f_B 10, o8 xv910.f_K.f_Dst.f_B 11, o8 xv910.f_K.f_Dst.f_B 12, o8 xv910.f_K.f_Dst.f_B 13, o8 xv910.f_K.f_Dst.f_B 14, o8 xv910.f_K.f_Dst.f_B 15, Value.int .u8 xv910.f_K.f_Proto, Value.int .u16 xv910.f_K.f_SrcPort, Value.int .u16 xv910.f_K.f_DstPort]) ag35 rfl (Cs.addsN [1] ((hM.bx (i := 4) rfl)) rfl)) rfl ?_
              refine obindE hF fun y1147 hx1148 hF => ?_
              refine RL.call Try.func13 bd13 rfl rfl (c_table_Table_Delete _ _ _ (T_table_Table.mk t1037 t1038) _ _ (hM.lent [1, 0] rfl (by decide)) xv910.f_K _ hx1148) fun v w1149 hv => ?_
              obtain ⟨A1151, c1152, rfl, hN1150⟩ := hv
              replace hM := hM.callL [1, 0] [2, 3, 4, 5] rfl rfl (by decide) rfl hN1150
              refine RL.val (O.move rfl) rfl ?_
              refine RL.val (O.geq rfl rfl) rfl ?_
              refine RL.val (O.neqb Try.underlying4 rfl rfl) rfl ?_
              refine RL.nil ?_
              refine KQ.thn hQ1146 ?_
              clear hQ1146 Q1146
              replace hM := hM.pick [0, 1, 3, 4, 5] rfl (by decide)
              refine KC.cond rfl (fun hc => ?_) (fun hc => ?_)
              ·rw [if_pos hc] at hF
               refine KC.seqH fun Q1154 hQ1154 => ?_
               refine KC.region ?_
               refine RL.val (O.assign rfl) rfl ?_
               refine RL.nil ?_
               refine KQ.thn hQ1154 ?_
               clear hQ1154 Q1154
               refine KC.ret ?_
               refine KQ.thr hQ1145 ?_
               clear hQ1145 Q1145
               refine KQ.then_r ?_
               refine KQ.blk_r ?_
               refine KQ.thr hQ906 ?_
               clear hQ906 Q906
               refine KQ.then_r ?_
               refine KQ.blk_r ?_
               refine KQ.thr hQ41 ?_
               clear hQ41 Q41
               have hE := Option.some.inj hF
               clear hF
               subst hE
               replace hM := hM.pick [] rfl (by decide)
               refine KQ.rets Try.results3 (RVs.cons (RV.tm rfl) RVs.nil) ?_
               exact ⟨_, rfl, rfl, hM⟩
              ·rw [if_neg (ne_true hc)] at hF
               refine KC.skip ?_
               refine KQ.thn hQ1145 ?_
               clear hQ1145 Q1145
               refine KC.seqH fun Q1155 hQ1155 => ?_
               refine KC.seqH fun Q1156 hQ1156 => ?_
               refine KC.region ?_
               refine RL.val (O.assign rfl) rfl ?_
               refine RL.nil ?_
               refine KQ.thn hQ1156 ?_
               clear hQ1156 Q1156
               refine KC.block ?_
               refine KC.loop (fun k1271 a w1269 => ∃ (A1261 : Option Addr) (c1262 : Nat) (t1263 : List T_table_Slot) (t1264 : Int) (kv1268 : Int), Kn 229 [(0, Value.int .i64 size1), (1, .slice A3 (lv2).length c4), (5, .pointer (some ⟨g34, 0, none⟩)), (7, .slice A893 (keys895).length c894), (8, .slice A897 (numbers899).length c898), (9, Value.int .i64 i900), (11, Value.int .i64 atv956), (13, .slice A1043 (before1045).length c1044), (18, Value.int .i64 kv1268)] a ∧ Mem w [] w1269 [.row A1261 c1262 74 39 (t1263).length ((t1263).flatMap e_table_Slot), .box g34 71 [.slice A1261 (t1263).length c1262, Value.int .i64 t1264], .row A893 c894 35 37 (keys895).length ((keys895).flatMap e_packet_Key), .row A897 c898 36 1 (numbers899).length ((numbers899).flatMap (eI .u64)), .row A1043 c1044 3 1 (before1045).length ((before1045).flatMap (eI .i64))] ∧ F_law23_TableKeeps_L5 keys895 numbers899 i900 (F_law23_TableKeeps_L1 size1 lv2 k903) atv956 before1045 k1271 t1263 t1264 kv1268 = some r) ?_ ?_
               ·replace hM := hM.pick [4, 3, 0, 1, 2] rfl (by decide)
                exact fun a ha => ⟨fuel0, A1151, c1152, y1147.2.f_slots, y1147.2.f_many, 0, ha.less (less_cons rfl (less_cons rfl (less_cons rfl (less_cons rfl (less_cons rfl (less_cons rfl (less_cons rfl (less_cons rfl (less_cons rfl less_nil))))))))), hM, hF⟩
               ·rintro k1271 a w1269 ⟨A1261, c1262, t1263, t1264, kv1268, ha, hM, hF⟩
                refine KC.app ha ?_
                clear ha
                cases k1271 with
                | zero => exact (none_some hF).elim
                | succ k1271 =>
                have hF : F_law23_TableKeeps_l5 (F_law23_TableKeeps_L5 keys895 numbers899 i900 (F_law23_TableKeeps_L1 size1 lv2 k903) atv956 before1045 k1271) keys895 numbers899 i900 (F_law23_TableKeeps_L1 size1 lv2 k903) atv956 before1045 t1263 t1264 kv1268 = some r := hF
                unfold F_law23_TableKeeps_l5 at hF
                refine KC.seqH fun Q1272 hQ1272 => ?_
                refine KC.seqH fun Q1273 hQ1273 => ?_
                refine KC.region ?_
                refine RL.val (O.move rfl) rfl ?_
                refine RL.val (O.move rfl) rfl ?_
                refine RL.val (O.len sl28 rfl) rfl ?_
                refine RL.val (O.lss rfl rfl) rfl ?_
                refine RL.nil ?_
                refine KQ.thn hQ1273 ?_
                clear hQ1273 Q1273
                refine KC.cond rfl (fun hc => ?_) (fun hc => ?_)
                ·rw [if_pos hc] at hF
                 refine KC.skip ?_
                 refine KQ.thn hQ1272 ?_
                 clear hQ1272 Q1272
                 refine KC.seqH fun Q1274 hQ1274 => ?_
                 refine KC.block ?_
                 refine KC.cut (fun a w1316 => ∃ (A1308 : Option Addr) (c1309 : Nat) (t1310 : List T_table_Slot) (t1311 : Int) (t1315 : Bool), Kn 229 [(0, Value.int .i64 size1), (1, .slice A3 (lv2).length c4), (5, .pointer (some ⟨g34, 0, none⟩)), (7, .slice A893 (keys895).length c894), (8, .slice A897 (numbers899).length c898), (9, Value.int .i64 i900), (11, Value.int .i64 atv956), (13, .slice A1043 (before1045).length c1044), (18, Value.int .i64 kv1268), (164, Value.bool t1315)] a ∧ Mem w [] w1316 [.row A1308 c1309 74 39 (t1310).length ((t1310).flatMap e_table_Slot), .box g34 71 [.slice A1308 (t1310).length c1309, Value.int .i64 t1311], .row A893 c894 35 37 (keys895).length ((keys895).flatMap e_packet_Key), .row A897 c898 36 1 (numbers899).length ((numbers899).flatMap (eI .u64)), .row A1043 c1044 3 1 (before1045).length ((before1045).flatMap (eI .i64))] ∧ F_law23_TableKeeps_j11 kv1268 (F_law23_TableKeeps_L5 keys895 numbers899 i900 (F_law23_TableKeeps_L1 size1 lv2 k903) atv956 before1045 k1271) t1310 t1311 t1315 = some r) ?_ ?_
                 ·replace hM := hM.drewN 1
                  refine KC.draw [] [9] [9, 12, 13] [0, 1, 2, 3, 4, 5, 6, 10, 11, 14, 15] (.cons 0 (.cons 1 (.cons 2 (.cons 3 (.cons 4 (.cons 5 (.cons 6 (.cons 7 (.cons 8 (.cons 10 (.cons 11 (.alt 9 (.ofList [12, 13, 14, 15]) 12 (.alt 9 (.ofList [13, 14, 15]) 13 (.ofList [9, 14, 15])))))))))))))) moP (by kernel_rfl) ?_
                  refine RD.p rfl rfl rfl rfl (fun w' => O.move rfl) ?_
                  refine RD.p rfl rfl rfl rfl (fun w' => O.move rfl) ?_
                  refine RD.p rfl rfl rfl rfl (fun w' => O.neq rfl rfl) ?_
                  refine RD.p rfl rfl rfl rfl (fun w' => O.move rfl) ?_
                  refine RD.bcase (t := 152) rfl (fun hc => ?_) (fun hc => ?_)
                  ·rw [if_pos hc] at hF
                   refine RD.gp rfl rfl rfl rfl rfl rfl (fun w' => O.move rfl) ?_
                   refine RD.gp rfl rfl rfl rfl rfl rfl (fun w' => O.move rfl) ?_
                   refine RD.gp rfl rfl rfl rfl rfl rfl (fun w' => O.move rfl) ?_
                   refine obindE hF fun xv1277 hx1276 hF => ?_
                   have hA1275 := Rd.atN (f := e_packet_Key) (s := 37) (fun _ => rfl) (by decide) (hM.rd (i := 2) rfl) hx1276
                   refine RD.gq rfl rfl rfl rfl rfl rfl (fun w' hf => O.idxA sl28 (hA1275.fut hf) rfl rfl) ?_
                   refine RD.gq rfl rfl rfl rfl rfl rfl (fun w' hf => O.loadN (cs := [Value.bool xv1277.f_Src.f_Six, o8 xv1277.f_Src.f_B 0, o8 xv1277.f_Src.f_B 1, o8 xv1277.f_Src.f_B 2, o8 xv1277.f_Src.f_B 3, o8 xv1277.f_Src.f_B 4, o8 xv1277.f_Src.f_B 5, o8 xv1277.f_Src.f_B 6, o8 xv1277.f_Src.f_B 7, o8 xv1277.f_Src.f_B 8, o8 xv1277.f_Src.f_B 9, o8 xv1277.f_Src.f_B 10, o8 xv1277.f_Src.f_B 11, o8 xv1277.f_Src.f_B 12, o8 xv1277.f_Src.f_B 13, o8 xv1277.f_Src.f_B 14, o8 xv1277.f_Src.f_B 15, Value.bool xv1277.f_Dst.f_Six, o8 xv1277.f_Dst.f_B 0, o8 xv1277.f_Dst.f_B 1, o8 xv1277.f_Dst.f_B 2, o8 xv1277.f_Dst.f_B 3, o8 xv1277.f_Dst.f_B 4, o8 xv1277.f_Dst.f_B 5, o8 xv1277.f_Dst.f_B 6, o8 xv1277.f_Dst.f_B 7, o8 xv1277.f_Dst.f_B 8, o8 xv1277.f_Dst.f_B 9, o8 xv1277.f_Dst.f_B 10, o8 xv1277.f_Dst.f_B 11, o8 xv1277.f_Dst.f_B 12, o8 xv1277.f_Dst.f_B 13, o8 xv1277.f_Dst.f_B 14, o8 xv1277.f_Dst.f_B 15, Value.int .u8 xv1277.f_Proto, Value.int .u16 xv1277.f_SrcPort, Value.int .u16 xv1277.f_DstPort]) ag35 rfl (hA1275.fut hf).cells) ?_
                   refine RD.gp rfl rfl rfl rfl rfl rfl (fun w' => O.move rfl) ?_
                   refine RD.gp rfl rfl rfl rfl rfl rfl (fun w' => O.move rfl) ?_
                   refine RD.alt ?_ ?_
                   ·refine obindE hF fun y1278 hx1279 hF => ?_
                    refine RD.mcall rfl rfl ⟨rfl, rfl⟩ Try.func9 bd9 rfl rfl (c_table_Table_Probes _ _ _ (T_table_Table.mk t1263 t1264) _ _ (hM.lent [1, 0] rfl (by decide)) xv1277 _ hx1279) fun v w1280 hv => ?_
                    obtain ⟨A1282, c1283, rfl, hN1281⟩ := hv
                    refine ⟨fun h => (by cases h), ?_⟩
                    replace hM := hM.callL [1, 0] [2, 3, 4] rfl rfl (by decide) rfl hN1281
                    refine obindE hF fun xv1287 hx1286 hF => ?_
                    have hA1285 := Rd.atN (f := (eI .i64)) (s := 1) (fun _ => rfl) (by decide) (hM.rd (i := 2) rfl) hx1286
                    refine RD.gmq rfl rfl rfl rfl (O.idxA sl39 (hA1285) rfl rfl) rfl ?_
                    refine RD.gmq rfl rfl rfl rfl (O.load sc3 rfl (hA1285).cells.at0) rfl ?_
                    refine RD.gp rfl rfl rfl rfl rfl rfl (fun w' => O.gtr rfl rfl) ?_
                    refine RD.p rfl rfl rfl rfl (fun w' => O.pickt rfl rfl) ?_
                    refine RD.nil ?_
                    refine KQ.then_k ?_
                    replace hM := hM.pick [4, 3, 0, 1, 2] rfl (by decide)
                    exact fun a ha => ⟨A1282, c1283, y1278.2.f_slots, y1278.2.f_many, (decide (xv1287 < y1278.1)), ha.less (less_cons rfl (less_cons rfl (less_cons rfl (less_cons rfl (less_cons rfl (less_cons rfl (less_cons rfl (less_cons rfl (less_cons rfl (less_cons rfl less_nil)))))))))), hM, hF⟩
                   ·have hF : ((gidx before1045 kv1268).bind fun xv1290 =>
(F_table_Table_Probes (T_table_Table.mk t1263 t1264) xv1277).bind fun y1291 =>
F_law23_TableKeeps_j11 kv1268 (F_law23_TableKeeps_L5 keys895 numbers899 i900 (F_law23_TableKeeps_L1 size1 lv2 k903) atv956 before1045 k1271) y1291.2.f_slots y1291.2.f_many (decide (xv1290 < y1291.1))) = some r := (obind_comm _ _ _).symm.trans hF
                    refine obindE hF fun xv1290 hx1289 hF => ?_
                    have hA1288 := Rd.atN (f := (eI .i64)) (s := 1) (fun _ => rfl) (by decide) (hM.rd (i := 4) rfl) hx1289
                    refine RD.gmq rfl rfl rfl rfl (O.idxA sl39 (hA1288) rfl rfl) rfl ?_
                    refine RD.alt ?_ ?_
                    ·refine obindE hF fun y1291 hx1292 hF => ?_
                     refine RD.mcall rfl rfl ⟨rfl, rfl⟩ Try.func9 bd9 rfl rfl (c_table_Table_Probes _ _ _ (T_table_Table.mk t1263 t1264) _ _ (hM.lent [1, 0] rfl (by decide)) xv1277 _ hx1292) fun v w1293 hv => ?_
                     obtain ⟨A1295, c1296, rfl, hN1294⟩ := hv
                     refine ⟨fun h => (by cases h), ?_⟩
                     replace hM := hM.callL [1, 0] [2, 3, 4] rfl rfl (by decide) rfl hN1294
                     have hA1298 := Rd.atN (f := (eI .i64)) (s := 1) (fun _ => rfl) (by decide) (hM.rd (i := 2) rfl) hx1289
                     refine RD.gmq rfl rfl rfl rfl (O.load sc3 rfl (hA1298).cells.at0) rfl ?_
                     refine RD.gp rfl rfl rfl rfl rfl rfl (fun w' => O.gtr rfl rfl) ?_
                     refine RD.p rfl rfl rfl rfl (fun w' => O.pickt rfl rfl) ?_
                     refine RD.nil ?_
                     refine KQ.then_k ?_
                     replace hM := hM.pick [4, 3, 0, 1, 2] rfl (by decide)
                     exact fun a ha => ⟨A1295, c1296, y1291.2.f_slots, y1291.2.f_many, (decide (xv1290 < y1291.1)), ha.less (less_cons rfl (less_cons rfl (less_cons rfl (less_cons rfl (less_cons rfl (less_cons rfl (less_cons rfl (less_cons rfl (less_cons rfl (less_cons rfl less_nil)))))))))), hM, hF⟩
                    ·refine RD.gmq rfl rfl rfl rfl (O.load sc3 rfl (hA1288).cells.at0) rfl ?_
                     refine obindE hF fun y1299 hx1300 hF => ?_
                     refine RD.mcall rfl rfl ⟨rfl, rfl⟩ Try.func9 bd9 rfl rfl (c_table_Table_Probes _ _ _ (T_table_Table.mk t1263 t1264) _ _ (hM.lent [1, 0] rfl (by decide)) xv1277 _ hx1300) fun v w1301 hv => ?_
                     obtain ⟨A1303, c1304, rfl, hN1302⟩ := hv
                     refine ⟨fun h => (by cases h), ?_⟩
                     replace hM := hM.callL [1, 0] [2, 3, 4] rfl rfl (by decide) rfl hN1302
                     refine RD.gp rfl rfl rfl rfl rfl rfl (fun w' => O.gtr rfl rfl) ?_
                     refine RD.p rfl rfl rfl rfl (fun w' => O.pickt rfl rfl) ?_
                     refine RD.nil ?_
                     refine KQ.then_k ?_
                     replace hM := hM.pick [4, 3, 0, 1, 2] rfl (by decide)
                     exact fun a ha => ⟨A1303, c1304, y1299.2.f_slots, y1299.2.f_many, (decide (xv1290 < y1299.1)), ha.less (less_cons rfl (less_cons rfl (less_cons rfl (less_cons rfl (less_cons rfl (less_cons rfl (less_cons rfl (less_cons rfl (less_cons rfl (less_cons rfl less_nil)))))))))), hM, hF⟩
                  ·rw [if_neg (ne_true hc)] at hF
                   refine RD.gskip rfl rfl rfl rfl rfl ?_
                   refine RD.gskip rfl rfl rfl rfl rfl ?_
                   refine RD.gskip rfl rfl rfl rfl rfl ?_
                   refine RD.gskip rfl rfl rfl rfl rfl ?_
                   refine RD.gskip rfl rfl rfl rfl rfl ?_
                   refine RD.gskip rfl rfl rfl rfl rfl ?_
                   refine RD.gskip rfl rfl rfl rfl rfl ?_
                   refine RD.alt ?_ ?_
                   ·refine RD.gskip rfl rfl rfl rfl rfl ?_
                    refine RD.gskip rfl rfl rfl rfl rfl ?_
                    refine RD.gskip rfl rfl rfl rfl rfl ?_
                    refine RD.gskip rfl rfl rfl rfl rfl ?_
                    refine RD.p rfl rfl rfl rfl (fun w' => O.pickf rfl rfl) ?_
                    refine RD.nil ?_
                    refine KQ.then_k ?_
                    exact fun a ha => ⟨A1261, c1262, t1263, t1264, false, ha.less (less_cons rfl (less_cons rfl (less_cons rfl (less_cons rfl (less_cons rfl (less_cons rfl (less_cons rfl (less_cons rfl (less_cons rfl (less_cons rfl less_nil)))))))))), hM, hF⟩
                   ·refine RD.gskip rfl rfl rfl rfl rfl ?_
                    refine RD.alt ?_ ?_
                    ·refine RD.gskip rfl rfl rfl rfl rfl ?_
                     refine RD.gskip rfl rfl rfl rfl rfl ?_
                     refine RD.gskip rfl rfl rfl rfl rfl ?_
                     refine RD.p rfl rfl rfl rfl (fun w' => O.pickf rfl rfl) ?_
                     refine RD.nil ?_
                     refine KQ.then_k ?_
                     exact fun a ha => ⟨A1261, c1262, t1263, t1264, false, ha.less (less_cons rfl (less_cons rfl (less_cons rfl (less_cons rfl (less_cons rfl (less_cons rfl (less_cons rfl (less_cons rfl (less_cons rfl (less_cons rfl less_nil)))))))))), hM, hF⟩
                    ·refine RD.gskip rfl rfl rfl rfl rfl ?_
                     refine RD.gskip rfl rfl rfl rfl rfl ?_
                     refine RD.gskip rfl rfl rfl rfl rfl ?_
                     refine RD.p rfl rfl rfl rfl (fun w' => O.pickf rfl rfl) ?_
                     refine RD.nil ?_
                     refine KQ.then_k ?_
                     exact fun a ha => ⟨A1261, c1262, t1263, t1264, false, ha.less (less_cons rfl (less_cons rfl (less_cons rfl (less_cons rfl (less_cons rfl (less_cons rfl (less_cons rfl (less_cons rfl (less_cons rfl (less_cons rfl less_nil)))))))))), hM, hF⟩
                 ·rintro a w1316 ⟨A1308, c1309, t1310, t1311, t1315, ha, hM, hF⟩
                  refine KC.app ha ?_
                  clear ha
                  unfold F_law23_TableKeeps_j11 at hF
                  refine KC.cond rfl (fun hc => ?_) (fun hc => ?_)
                  ·rw [if_pos hc] at hF
                   refine KC.seqH fun Q1317 hQ1317 => ?_
                   refine KC.region ?_
                   refine RL.val (O.assign rfl) rfl ?_
                   refine RL.nil ?_
                   refine KQ.thn hQ1317 ?_
                   clear hQ1317 Q1317
                   refine KC.ret ?_
                   refine KQ.blk_r ?_
                   refine KQ.thr hQ1274 ?_
                   clear hQ1274 Q1274
                   refine KQ.then_r ?_
                   refine KQ.blk_r ?_
                   refine KQ.thr hQ1155 ?_
                   clear hQ1155 Q1155
                   refine KQ.then_r ?_
                   refine KQ.blk_r ?_
                   refine KQ.thr hQ906 ?_
                   clear hQ906 Q906
                   refine KQ.then_r ?_
                   refine KQ.blk_r ?_
                   refine KQ.thr hQ41 ?_
                   clear hQ41 Q41
                   have hE := Option.some.inj hF
                   clear hF
                   subst hE
                   replace hM := hM.pick [] rfl (by decide)
                   refine KQ.rets Try.results3 (RVs.cons (RV.tm rfl) RVs.nil) ?_
                   exact ⟨_, rfl, rfl, hM⟩
                  ·rw [if_neg (ne_true hc)] at hF
                   refine KC.skip ?_
                   refine KQ.blk_n ?_
                   refine KQ.thn hQ1274 ?_
                   clear hQ1274 Q1274
                   refine KC.region ?_
                   refine RL.val (O.move rfl) rfl ?_
                   refine RL.val (O.add rfl rfl) rfl ?_
                   refine RL.val (O.assign rfl) rfl ?_
                   refine RL.nil ?_
                   refine KQ.then_k ?_
                   exact fun a ha => ⟨k1271, Nat.lt_succ_self k1271, A1308, c1309, t1310, t1311, (IntKind.i64.wrap (kv1268 + 1)), ha.less (less_cons rfl (less_cons rfl (less_cons rfl (less_cons rfl (less_cons rfl (less_cons rfl (less_cons rfl (less_cons rfl (less_cons rfl less_nil))))))))), hM, hF⟩
                ·rw [if_neg (ne_true hc)] at hF
                 refine KC.exit ?_
                 refine KQ.thx hQ1272 ?_
                 clear hQ1272 Q1272
                 refine KQ.then_x ?_
                 refine KQ.blk_x ?_
                 refine KQ.thn hQ1155 ?_
                 clear hQ1155 Q1155
                 replace hM := hM.pick [0, 1, 2, 3] rfl (by decide)
                 refine KC.seqH fun Q1318 hQ1318 => ?_
                 refine KC.region ?_
                 refine RL.val (O.move rfl) rfl ?_
                 refine RL.val (O.geq rfl rfl) rfl ?_
                 refine RL.nil ?_
                 refine KQ.thn hQ1318 ?_
                 clear hQ1318 Q1318
                 refine KC.cond rfl (fun hc => ?_) (fun hc => ?_)
                 ·rw [if_pos hc] at hF
                  refine KC.seqH fun Q1319 hQ1319 => ?_
                  refine KC.region ?_
                  refine RL.val (O.move rfl) rfl ?_
                  refine RL.val (O.move rfl) rfl ?_
                  refine RL.val (O.move rfl) rfl ?_
                  refine RL.val (O.move rfl) rfl ?_
                  refine RL.val (O.len sl28 rfl) rfl ?_
                  refine RL.val (O.sub rfl rfl) rfl ?_
                  refine obindE hF fun xv1322 hx1321 hF => ?_
                  have hA1320 := Rd.atN (f := e_packet_Key) (s := 37) (fun _ => rfl) (by decide) (hM.rd (i := 2) rfl) hx1321
                  refine RL.val (O.idxA sl28 (hA1320) rfl rfl) rfl ?_
                  refine RL.val (O.loadN (cs := [Value.bool xv1322.f_Src.f_Six, o8 xv1322.f_Src.f_B 0, o8 xv1322.f_Src.f_B 1, o8 xv1322.f_Src.f_B 2, o8 xv1322.f_Src.f_B 3, o8 xv1322.f_Src.f_B 4, o8 xv1322.f_Src.f_B 5, o8 xv1322.f_Src.f_B 6, o8 xv1322.f_Src.f_B 7, o8 xv1322.f_Src.f_B 8, o8 xv1322.f_Src.f_B 9, o8 xv1322.f_Src.f_B 10, o8 xv1322.f_Src.f_B 11, o8 xv1322.f_Src.f_B 12, o8 xv1322.f_Src.f_B 13, o8 xv1322.f_Src.f_B 14, o8 xv1322.f_Src.f_B 15, Value.bool xv1322.f_Dst.f_Six, o8 xv1322.f_Dst.f_B 0, o8 xv1322.f_Dst.f_B 1, o8 xv1322.f_Dst.f_B 2, o8 xv1322.f_Dst.f_B 3, o8 xv1322.f_Dst.f_B 4, o8 xv1322.f_Dst.f_B 5, o8 xv1322.f_Dst.f_B 6, o8 xv1322.f_Dst.f_B 7, o8 xv1322.f_Dst.f_B 8, o8 xv1322.f_Dst.f_B 9, o8 xv1322.f_Dst.f_B 10, o8 xv1322.f_Dst.f_B 11, o8 xv1322.f_Dst.f_B 12, o8 xv1322.f_Dst.f_B 13, o8 xv1322.f_Dst.f_B 14, o8 xv1322.f_Dst.f_B 15, Value.int .u8 xv1322.f_Proto, Value.int .u16 xv1322.f_SrcPort, Value.int .u16 xv1322.f_DstPort]) ag35 rfl (hA1320).cells) rfl ?_
                  refine obindE hF fun xv1325 hx1324 hF => ?_
                  have hA1323 := Rd.atN (f := e_packet_Key) (s := 37) (fun _ => rfl) (by decide) (hM.rd (i := 2) rfl) hx1324
                  refine RL.val (O.idxA sl28 (hA1323) rfl rfl) rfl ?_
                  refine RL.effs (E.stR (enc := e_packet_Key) (j := 2) (off := 0) (vs := [Value.bool xv1322.f_Src.f_Six, o8 xv1322.f_Src.f_B 0, o8 xv1322.f_Src.f_B 1, o8 xv1322.f_Src.f_B 2, o8 xv1322.f_Src.f_B 3, o8 xv1322.f_Src.f_B 4, o8 xv1322.f_Src.f_B 5, o8 xv1322.f_Src.f_B 6, o8 xv1322.f_Src.f_B 7, o8 xv1322.f_Src.f_B 8, o8 xv1322.f_Src.f_B 9, o8 xv1322.f_Src.f_B 10, o8 xv1322.f_Src.f_B 11, o8 xv1322.f_Src.f_B 12, o8 xv1322.f_Src.f_B 13, o8 xv1322.f_Src.f_B 14, o8 xv1322.f_Src.f_B 15, Value.bool xv1322.f_Dst.f_Six, o8 xv1322.f_Dst.f_B 0, o8 xv1322.f_Dst.f_B 1, o8 xv1322.f_Dst.f_B 2, o8 xv1322.f_Dst.f_B 3, o8 xv1322.f_Dst.f_B 4, o8 xv1322.f_Dst.f_B 5, o8 xv1322.f_Dst.f_B 6, o8 xv1322.f_Dst.f_B 7, o8 xv1322.f_Dst.f_B 8, o8 xv1322.f_Dst.f_B 9, o8 xv1322.f_Dst.f_B 10, o8 xv1322.f_Dst.f_B 11, o8 xv1322.f_Dst.f_B 12, o8 xv1322.f_Dst.f_B 13, o8 xv1322.f_Dst.f_B 14, o8 xv1322.f_Dst.f_B 15, Value.int .u8 xv1322.f_Proto, Value.int .u16 xv1322.f_SrcPort, Value.int .u16 xv1322.f_DstPort]) (x' := xv1322) hM rfl (fun _ => rfl) hx1324 sz35 rfl (addsR_eq [] rfl) rfl rfl (One.all rfl) rfl rfl) fun w1326 hM1 => ?_
                  clear hM
                  obtain ⟨hM, hn1327⟩ := hM1
                  refine RL.reslot (t := 7) rfl hn1327 ?_
                  refine RL.reslot (t := 167) rfl hn1327 ?_
                  refine RL.reslot (t := 169) rfl hn1327 ?_
                  refine RL.reslot (t := 170) rfl hn1327 ?_
                  refine RL.nil ?_
                  refine KQ.thn hQ1319 ?_
                  clear hQ1319 Q1319
                  refine KC.seqH fun Q1328 hQ1328 => ?_
                  refine KC.region ?_
                  refine RL.val (O.move rfl) rfl ?_
                  refine RL.val (O.move rfl) rfl ?_
                  refine RL.val (O.move rfl) rfl ?_
                  refine RL.val (O.move rfl) rfl ?_
                  refine RL.val (O.len sl29 rfl) rfl ?_
                  refine RL.val (O.sub rfl rfl) rfl ?_
                  refine obindE hF fun xv1331 hx1330 hF => ?_
                  have hA1329 := Rd.atN (f := (eI .u64)) (s := 1) (fun _ => rfl) (by decide) (hM.rd (i := 3) rfl) hx1330
                  refine RL.val (O.idxA sl29 (hA1329) rfl rfl) rfl ?_
                  refine RL.val (O.load sc36 rfl (hA1329).cells.at0) rfl ?_
                  refine obindE hF fun xv1334 hx1333 hF => ?_
                  have hA1332 := Rd.atN (f := (eI .u64)) (s := 1) (fun _ => rfl) (by decide) (hM.rd (i := 3) rfl) hx1333
                  refine RL.val (O.idxA sl29 (hA1332) rfl rfl) rfl ?_
                  refine RL.effs (E.stR (enc := (eI .u64)) (j := 3) (off := 0) (vs := [Value.int .u64 xv1331]) (x' := xv1331) hM rfl (fun _ => rfl) hx1333 sz36 rfl (addsR_eq [] rfl) rfl rfl (One.all rfl) rfl rfl) fun w1335 hM1 => ?_
                  clear hM
                  obtain ⟨hM, hn1336⟩ := hM1
                  refine RL.reslot (t := 8) rfl hn1336 ?_
                  refine RL.reslot (t := 176) rfl hn1336 ?_
                  refine RL.reslot (t := 178) rfl hn1336 ?_
                  refine RL.reslot (t := 179) rfl hn1336 ?_
                  refine RL.nil ?_
                  refine KQ.thn hQ1328 ?_
                  clear hQ1328 Q1328
                  refine KC.seqH fun Q1337 hQ1337 => ?_
                  refine KC.region ?_
                  refine RL.val (O.move rfl) rfl ?_
                  refine RL.val (O.move rfl) rfl ?_
                  refine RL.val (O.len sl28 rfl) rfl ?_
                  refine RL.val (O.sub rfl rfl) rfl ?_
                  refine obindE hF fun cut1338 hy1339 hF => ?_
                  have hrd := (hM.rd (i := 2) rfl)
                  replace hM := hM.short (enc := e_packet_Key) (fun _ => rfl) (i := 2) rfl hy1339
                  refine RL.val (O.short (A := A893) (c := c894) (xs := (keys895.set (atv956 : Int).toNat xv1322)) (ys := cut1338) sl28 hrd.cap hy1339 rfl rfl) rfl ?_
                  refine RL.val (O.assign rfl) rfl ?_
                  refine RL.nil ?_
                  refine KQ.thn hQ1337 ?_
                  clear hQ1337 Q1337
                  refine KC.region ?_
                  refine RL.val (O.move rfl) rfl ?_
                  refine RL.val (O.move rfl) rfl ?_
                  refine RL.val (O.len sl29 rfl) rfl ?_
                  refine RL.val (O.sub rfl rfl) rfl ?_
                  refine obindE hF fun cut1341 hy1342 hF => ?_
                  have hrd := (hM.rd (i := 3) rfl)
                  replace hM := hM.short (enc := (eI .u64)) (fun _ => rfl) (i := 3) rfl hy1342
                  refine RL.val (O.short (A := A897) (c := c898) (xs := (numbers899.set (atv956 : Int).toNat xv1331)) (ys := cut1341) sl29 hrd.cap hy1342 rfl rfl) rfl ?_
                  refine RL.val (O.assign rfl) rfl ?_
                  refine RL.nil ?_
                  refine KQ.then_k ?_
                  exact fun a ha => ⟨A1261, c1262, A893, c894, A897, c898, t1263, t1264, cut1338, cut1341, ha.less (less_cons rfl (less_cons rfl (less_cons rfl (less_cons rfl (less_cons rfl (less_cons rfl less_nil)))))), hM, hF⟩
                 ·rw [if_neg (ne_true hc)] at hF
                  refine KC.skip ?_
                  refine KQ.then_k ?_
                  exact fun a ha => ⟨A1261, c1262, A893, c894, A897, c898, t1263, t1264, keys895, numbers899, ha.less (less_cons rfl (less_cons rfl (less_cons rfl (less_cons rfl (less_cons rfl (less_cons rfl less_nil)))))), hM, hF⟩
             ·rw [if_neg (ne_true hc)] at hF
              refine KC.skip ?_
              refine KQ.then_k ?_
              replace hM := hM.pick [0, 1, 2, 3] rfl (by decide)
              exact fun a ha => ⟨A1035, c1036, A893, c894, A897, c898, t1037, t1038, keys895, numbers899, ha.less (less_cons rfl (less_cons rfl (less_cons rfl (less_cons rfl (less_cons rfl (less_cons rfl less_nil)))))), hM, hF⟩
           ·rintro a w1358 ⟨A1346, c1347, A1351, c1352, A1355, c1356, t1348, t1349, keys1353, numbers1357, ha, hM, hF⟩
            refine KC.app ha ?_
            clear ha
            unfold F_law23_TableKeeps_j5 at hF
            refine KC.seqH fun Q1359 hQ1359 => ?_
            refine KC.seqH fun Q1360 hQ1360 => ?_
            refine KC.region ?_
            refine RL.val (O.move rfl) rfl ?_
            refine obindE hF fun y1361 hx1362 hF => ?_
            refine RL.call Try.func14 bd14 rfl rfl (c_table_Table_Len _ _ _ (T_table_Table.mk t1348 t1349) _ _ (hM.lent [1, 0] rfl (by decide)) _ hx1362) fun v w1363 hv => ?_
            obtain ⟨A1365, c1366, rfl, hN1364⟩ := hv
            replace hM := hM.callL [1, 0] [2, 3] rfl rfl (by decide) rfl hN1364
            refine RL.val (O.move rfl) rfl ?_
            refine RL.val (O.len sl28 rfl) rfl ?_
            refine RL.val (O.neq rfl rfl) rfl ?_
            refine RL.nil ?_
            refine KQ.thn hQ1360 ?_
            clear hQ1360 Q1360
            refine KC.cond rfl (fun hc => ?_) (fun hc => ?_)
            ·rw [if_pos hc] at hF
             refine KC.seqH fun Q1368 hQ1368 => ?_
             refine KC.region ?_
             refine RL.val (O.assign rfl) rfl ?_
             refine RL.nil ?_
             refine KQ.thn hQ1368 ?_
             clear hQ1368 Q1368
             refine KC.ret ?_
             refine KQ.thr hQ1359 ?_
             clear hQ1359 Q1359
             refine KQ.blk_r ?_
             refine KQ.thr hQ906 ?_
             clear hQ906 Q906
             refine KQ.then_r ?_
             refine KQ.blk_r ?_
             refine KQ.thr hQ41 ?_
             clear hQ41 Q41
             have hE := Option.some.inj hF
             clear hF
             subst hE
             replace hM := hM.pick [] rfl (by decide)
             refine KQ.rets Try.results3 (RVs.cons (RV.tm rfl) RVs.nil) ?_
             exact ⟨_, rfl, rfl, hM⟩
            ·rw [if_neg (ne_true hc)] at hF
             refine KC.skip ?_
             refine KQ.thn hQ1359 ?_
             clear hQ1359 Q1359
             refine KC.seqH fun Q1369 hQ1369 => ?_
             refine KC.seqH fun Q1370 hQ1370 => ?_
             refine KC.region ?_
             refine RL.val (O.assign rfl) rfl ?_
             refine RL.nil ?_
             refine KQ.thn hQ1370 ?_
             clear hQ1370 Q1370
             refine KC.block ?_
             refine KC.loop (fun k1439 a w1437 => ∃ (A1430 : Option Addr) (c1431 : Nat) (t1432 : List T_table_Slot) (t1433 : Int) (kv1436 : Int), Kn 229 [(0, Value.int .i64 size1), (1, .slice A3 (lv2).length c4), (5, .pointer (some ⟨g34, 0, none⟩)), (7, .slice A1351 (keys1353).length c1352), (8, .slice A1355 (numbers1357).length c1356), (9, Value.int .i64 i900), (19, Value.int .i64 kv1436)] a ∧ Mem w [] w1437 [.row A1430 c1431 74 39 (t1432).length ((t1432).flatMap e_table_Slot), .box g34 71 [.slice A1430 (t1432).length c1431, Value.int .i64 t1433], .row A1351 c1352 35 37 (keys1353).length ((keys1353).flatMap e_packet_Key), .row A1355 c1356 36 1 (numbers1357).length ((numbers1357).flatMap (eI .u64))] ∧ F_law23_TableKeeps_L4 i900 (F_law23_TableKeeps_L1 size1 lv2 k903) keys1353 numbers1357 k1439 t1432 t1433 kv1436 = some r) ?_ ?_
             ·replace hM := hM.pick [3, 2, 0, 1] rfl (by decide)
              exact fun a ha => ⟨fuel0, A1365, c1366, y1361.2.f_slots, y1361.2.f_many, 0, ha.less (less_cons rfl (less_cons rfl (less_cons rfl (less_cons rfl (less_cons rfl (less_cons rfl (less_cons rfl less_nil))))))), hM, hF⟩
             ·rintro k1439 a w1437 ⟨A1430, c1431, t1432, t1433, kv1436, ha, hM, hF⟩
              refine KC.app ha ?_
              clear ha
              cases k1439 with
              | zero => exact (none_some hF).elim
              | succ k1439 =>
              have hF : F_law23_TableKeeps_l4 (F_law23_TableKeeps_L4 i900 (F_law23_TableKeeps_L1 size1 lv2 k903) keys1353 numbers1357 k1439) i900 (F_law23_TableKeeps_L1 size1 lv2 k903) keys1353 numbers1357 t1432 t1433 kv1436 = some r := hF
              unfold F_law23_TableKeeps_l4 at hF
              refine KC.seqH fun Q1440 hQ1440 => ?_
              refine KC.seqH fun Q1441 hQ1441 => ?_
              refine KC.region ?_
              refine RL.val (O.move rfl) rfl ?_
              refine RL.val (O.move rfl) rfl ?_
              refine RL.val (O.len sl28 rfl) rfl ?_
              refine RL.val (O.lss rfl rfl) rfl ?_
              refine RL.nil ?_
              refine KQ.thn hQ1441 ?_
              clear hQ1441 Q1441
              refine KC.cond rfl (fun hc => ?_) (fun hc => ?_)
              ·rw [if_pos hc] at hF
               refine KC.skip ?_
               refine KQ.thn hQ1440 ?_
               clear hQ1440 Q1440
               refine KC.seqH fun Q1442 hQ1442 => ?_
               refine KC.block ?_
               refine KC.seqH fun Q1443 hQ1443 => ?_
               refine KC.region ?_
               refine RL.val (O.move rfl) rfl ?_
               refine RL.val (O.move rfl) rfl ?_
               refine RL.val (O.move rfl) rfl ?_
               refine obindE hF fun xv1446 hx1445 hF => ?_
               have hA1444 := Rd.atN (f := e_packet_Key) (s := 37) (fun _ => rfl) (by decide) (hM.rd (i := 2) rfl) hx1445
               refine RL.val (O.idxA sl28 (hA1444) rfl rfl) rfl ?_
               refine RL.val (O.loadN (cs := [Value.bool xv1446.f_Src.f_Six, o8 xv1446.f_Src.f_B 0, o8 xv1446.f_Src.f_B 1, o8 xv1446.f_Src.f_B 2, o8 xv1446.f_Src.f_B 3, o8 xv1446.f_Src.f_B 4, o8 xv1446.f_Src.f_B 5, o8 xv1446.f_Src.f_B 6, o8 xv1446.f_Src.f_B 7, o8 xv1446.f_Src.f_B 8, o8 xv1446.f_Src.f_B 9, o8 xv1446.f_Src.f_B 10, o8 xv1446.f_Src.f_B 11, o8 xv1446.f_Src.f_B 12, o8 xv1446.f_Src.f_B 13, o8 xv1446.f_Src.f_B 14, o8 xv1446.f_Src.f_B 15, Value.bool xv1446.f_Dst.f_Six, o8 xv1446.f_Dst.f_B 0, o8 xv1446.f_Dst.f_B 1, o8 xv1446.f_Dst.f_B 2, o8 xv1446.f_Dst.f_B 3, o8 xv1446.f_Dst.f_B 4, o8 xv1446.f_Dst.f_B 5, o8 xv1446.f_Dst.f_B 6, o8 xv1446.f_Dst.f_B 7, o8 xv1446.f_Dst.f_B 8, o8 xv1446.f_Dst.f_B 9, o8 xv1446.f_Dst.f_B 10, o8 xv1446.f_Dst.f_B 11, o8 xv1446.f_Dst.f_B 12, o8 xv1446.f_Dst.f_B 13, o8 xv1446.f_Dst.f_B 14, o8 xv1446.f_Dst.f_B 15, Value.int .u8 xv1446.f_Proto, Value.int .u16 xv1446.f_SrcPort, Value.int .u16 xv1446.f_DstPort]) ag35 rfl (hA1444).cells) rfl ?_
               refine obindE hF fun y1447 hx1448 hF => ?_
               refine RL.call Try.func15 bd15 rfl rfl (c_table_Table_Get _ _ _ (T_table_Table.mk t1432 t1433) _ _ (hM.lent [1, 0] rfl (by decide)) xv1446 _ hx1448) fun v w1449 hv => ?_
               obtain ⟨A1451, c1452, rfl, hN1450⟩ := hv
               replace hM := hM.callL [1, 0] [2, 3] rfl rfl (by decide) rfl hN1450
               refine RL.val (O.move rfl) rfl ?_
               refine RL.val (O.ext rfl rfl) rfl ?_
               refine RL.val (O.ext rfl rfl) rfl ?_
               refine RL.val (O.assign rfl) rfl ?_
               refine RL.val (O.assign rfl) rfl ?_
               refine RL.nil ?_
               refine KQ.thn hQ1443 ?_
               clear hQ1443 Q1443
               refine KC.cut (fun a w1462 => ∃ (t1461 : Bool), Kn 229 [(0, Value.int .i64 size1), (1, .slice A3 (lv2).length c4), (5, .pointer (some ⟨g34, 0, none⟩)), (7, .slice A1351 (keys1353).length c1352), (8, .slice A1355 (numbers1357).length c1356), (9, Value.int .i64 i900), (19, Value.int .i64 kv1436), (224, Value.bool t1461)] a ∧ Mem w [] w1462 [.row A1451 c1452 74 39 (y1447.2.2.f_slots).length ((y1447.2.2.f_slots).flatMap e_table_Slot), .box g34 71 [.slice A1451 (y1447.2.2.f_slots).length c1452, Value.int .i64 y1447.2.2.f_many], .row A1351 c1352 35 37 (keys1353).length ((keys1353).flatMap e_packet_Key), .row A1355 c1356 36 1 (numbers1357).length ((numbers1357).flatMap (eI .u64))] ∧ F_law23_TableKeeps_j6 kv1436 (F_law23_TableKeeps_L4 i900 (F_law23_TableKeeps_L1 size1 lv2 k903) keys1353 numbers1357 k1439) y1447 t1461 = some r) ?_ ?_
               ·refine KC.region ?_
                refine RL.val (O.move rfl) rfl ?_
                refine RL.val (O.not rfl) rfl ?_
                refine RL.val (O.move rfl) rfl ?_
                refine RL.bcase (t := 217) rfl (fun hc => ?_) (fun hc => ?_)
                ·rw [if_pos hc] at hF
                 refine RL.gskip rfl rfl rfl rfl ?_
                 refine RL.gskip rfl rfl rfl rfl ?_
                 refine RL.gskip rfl rfl rfl rfl ?_
                 refine RL.gskip rfl rfl rfl rfl ?_
                 refine RL.gskip rfl rfl rfl rfl ?_
                 refine RL.gskip rfl rfl rfl rfl ?_
                 refine RL.val (O.pickt rfl rfl) rfl ?_
                 refine RL.nil ?_
                 refine KQ.then_k ?_
                 replace hM := hM.pick [3, 2, 0, 1] rfl (by decide)
                 exact fun a ha => ⟨true, ha.less (less_cons rfl (less_cons rfl (less_cons rfl (less_cons rfl (less_cons rfl (less_cons rfl (less_cons rfl (less_cons rfl less_nil)))))))), hM, hF⟩
                ·rw [if_neg (ne_true hc)] at hF
                 refine RL.gval rfl rfl (O.move rfl) rfl ?_
                 refine RL.gval rfl rfl (O.move rfl) rfl ?_
                 refine RL.gval rfl rfl (O.move rfl) rfl ?_
                 refine obindE hF fun xv1456 hx1455 hF => ?_
                 have hA1454 := Rd.atN (f := (eI .u64)) (s := 1) (fun _ => rfl) (by decide) (hM.rd (i := 1) rfl) hx1455
                 refine RL.gval rfl rfl (O.idxA sl29 (hA1454) rfl rfl) rfl ?_
                 refine RL.gval rfl rfl (O.load sc36 rfl (hA1454).cells.at0) rfl ?_
                 refine RL.gval rfl rfl (O.neq rfl rfl) rfl ?_
                 refine RL.val (O.pickf rfl rfl) rfl ?_
                 refine RL.nil ?_
                 refine KQ.then_k ?_
                 replace hM := hM.pick [3, 2, 0, 1] rfl (by decide)
                 exact fun a ha => ⟨(y1447.1 != xv1456), ha.less (less_cons rfl (less_cons rfl (less_cons rfl (less_cons rfl (less_cons rfl (less_cons rfl (less_cons rfl (less_cons rfl less_nil)))))))), hM, hF⟩
               ·rintro a w1462 ⟨t1461, ha, hM, hF⟩
                refine KC.app ha ?_
                clear ha
                unfold F_law23_TableKeeps_j6 at hF
                refine KC.cond rfl (fun hc => ?_) (fun hc => ?_)
                ·rw [if_pos hc] at hF
                 refine KC.seqH fun Q1463 hQ1463 => ?_
                 refine KC.region ?_
                 refine RL.val (O.assign rfl) rfl ?_
                 refine RL.nil ?_
                 refine KQ.thn hQ1463 ?_
                 clear hQ1463 Q1463
                 refine KC.ret ?_
                 refine KQ.blk_r ?_
                 refine KQ.thr hQ1442 ?_
                 clear hQ1442 Q1442
                 refine KQ.then_r ?_
                 refine KQ.blk_r ?_
                 refine KQ.thr hQ1369 ?_
                 clear hQ1369 Q1369
                 refine KQ.blk_r ?_
                 refine KQ.thr hQ906 ?_
                 clear hQ906 Q906
                 refine KQ.then_r ?_
                 refine KQ.blk_r ?_
                 refine KQ.thr hQ41 ?_
                 clear hQ41 Q41
                 have hE := Option.some.inj hF
                 clear hF
                 subst hE
                 replace hM := hM.pick [] rfl (by decide)
                 refine KQ.rets Try.results3 (RVs.cons (RV.tm rfl) RVs.nil) ?_
                 exact ⟨_, rfl, rfl, hM⟩
                ·rw [if_neg (ne_true hc)] at hF
                 refine KC.skip ?_
                 refine KQ.blk_n ?_
                 refine KQ.thn hQ1442 ?_
                 clear hQ1442 Q1442
                 refine KC.region ?_
                 refine RL.val (O.move rfl) rfl ?_
                 refine RL.val (O.add rfl rfl) rfl ?_
                 refine RL.val (O.assign rfl) rfl ?_
                 refine RL.nil ?_
                 refine KQ.then_k ?_
                 exact fun a ha => ⟨k1439, Nat.lt_succ_self k1439, A1451, c1452, y1447.2.2.f_slots, y1447.2.2.f_many, (IntKind.i64.wrap (kv1436 + 1)), ha.less (less_cons rfl (less_cons rfl (less_cons rfl (less_cons rfl (less_cons rfl (less_cons rfl (less_cons rfl less_nil))))))), hM, hF⟩
              ·rw [if_neg (ne_true hc)] at hF
               refine KC.exit ?_
               refine KQ.thx hQ1440 ?_
               clear hQ1440 Q1440
               refine KQ.then_x ?_
               refine KQ.blk_x ?_
               refine KQ.thn hQ1369 ?_
               clear hQ1369 Q1369
               refine KC.seqH fun Q1464 hQ1464 => ?_
               refine KC.region ?_
               refine RL.val (O.move rfl) rfl ?_
               refine obindE hF fun y1465 hx1466 hF => ?_
               refine RL.call Try.func16 bd16 rfl rfl (c_law23_reached _ _ _ (T_table_Table.mk t1432 t1433) _ _ (hM.lent [1, 0] rfl (by decide)) _ hx1466) fun v w1467 hv => ?_
               obtain ⟨A1469, c1470, rfl, hN1468⟩ := hv
               replace hM := hM.callL [1, 0] [2, 3] rfl rfl (by decide) rfl hN1468
               refine RL.val (O.not rfl) rfl ?_
               refine RL.nil ?_
               refine KQ.thn hQ1464 ?_
               clear hQ1464 Q1464
               refine KC.cond rfl (fun hc => ?_) (fun hc => ?_)
               ·rw [if_pos hc] at hF
                refine KC.seqH fun Q1472 hQ1472 => ?_
                refine KC.region ?_
                refine RL.val (O.assign rfl) rfl ?_
                refine RL.nil ?_
                refine KQ.thn hQ1472 ?_
                clear hQ1472 Q1472
                refine KC.ret ?_
                refine KQ.blk_r ?_
                refine KQ.thr hQ906 ?_
                clear hQ906 Q906
                refine KQ.then_r ?_
                refine KQ.blk_r ?_
                refine KQ.thr hQ41 ?_
                clear hQ41 Q41
                have hE := Option.some.inj hF
                clear hF
                subst hE
                replace hM := hM.pick [] rfl (by decide)
                refine KQ.rets Try.results3 (RVs.cons (RV.tm rfl) RVs.nil) ?_
                exact ⟨_, rfl, rfl, hM⟩
               ·rw [if_neg (ne_true hc)] at hF
                refine KC.skip ?_
                refine KQ.blk_n ?_
                refine KQ.thn hQ906 ?_
                clear hQ906 Q906
                refine KC.region ?_
                refine RL.val (O.move rfl) rfl ?_
                refine RL.val (O.add rfl rfl) rfl ?_
                refine RL.val (O.assign rfl) rfl ?_
                refine RL.nil ?_
                refine KQ.then_k ?_
                replace hM := hM.pick [3, 2, 0, 1] rfl (by decide)
                exact fun a ha => ⟨k903, Nat.lt_succ_self k903, A1469, c1470, A1351, c1352, A1355, c1356, y1465.2.f_slots, y1465.2.f_many, keys1353, numbers1357, (IntKind.i64.wrap (i900 + 1)), ha.less (less_cons rfl (less_cons rfl (less_cons rfl (less_cons rfl (less_cons rfl (less_cons rfl less_nil)))))), hM, hF⟩
      ·rw [if_neg (ne_true hc)] at hF
       refine KC.exit ?_
       refine KQ.thx hQ904 ?_
       clear hQ904 Q904
       refine KQ.then_x ?_
       refine KQ.blk_x ?_
       refine KQ.thn hQ41 ?_
       clear hQ41 Q41
       replace hM := hM.pick [] rfl (by decide)
       refine KC.seqH fun Q1473 hQ1473 => ?_
       refine KC.region ?_
       refine obindE hF fun y1474 hx1475 hF => ?_
       refine RL.call Try.func7 bd7 rfl rfl (c_law23_works _ _ hx1475) fun v w1476 hv => ?_
       obtain ⟨rfl, hN1477⟩ := hv
       replace hM := hM.call0 hN1477
       refine RL.val (O.assign rfl) rfl ?_
       refine RL.nil ?_
       refine KQ.thn hQ1473 ?_
       clear hQ1473 Q1473
       refine KC.ret ?_
       have hE := Option.some.inj hF
       clear hF
       subst hE
       refine KQ.rets Try.results3 (RVs.cons (RV.tm rfl) RVs.nil) ?_
       exact ⟨_, rfl, rfl, hM⟩
end Go.Proofs.Ytnbakndfnjflhaa
