/- Printed by a program of this claim: each call returns what the plain function of its name gives. -/
import Derived.Test.YtidbgejnkpoeeaaW1
set_option linter.unusedVariables false
namespace Go.Proofs.Ytidbgejnkpoeeaa
open Go Go.Ox Go.RowKit
set_option maxRecDepth 100000 in
set_option maxHeartbeats 40000000 in
theorem c_law30_few (w : World) (A2 : Option Addr) (c3 : Nat) (lv1 : List T_model_Note) (hr4 : RdD R_model_Note [] w A2 c3 45 lv1) (r : Bool) (hF : F_law30_few lv1 = some r) :
  CallsR Try.prog 5 [.slice A2 (lv1).length c3] w (fun v w' => v = vB r ∧ Mem w [] w' []) := by
 refine calls_KC Try.func5 rfl Try.ntmps5 rfl ?_
 have hM := Mem.init w
 unfold F_law30_few at hF
 refine sr fun Q5 hQ5 => ?_
 refine va rfl rfl ?_
 refine nt hQ5 ?_
 clear hQ5 Q5
 refine KC.seqH fun Q6 hQ6 => ?_
 refine sr fun Q7 hQ7 => ?_
 refine va rfl rfl ?_
 refine nt hQ7 ?_
 clear hQ7 Q7
 refine KC.block ?_
 refine KC.loop (fun k44 a w42 => ∃ (i41 : Int), Kn 24 [(0, .slice A2 (lv1).length c3), (3, vI i41)] a ∧ Mem w [] w42 [] ∧ F_law30_few_L1 lv1 k44 i41 = some r) ?_ ?_
 ·exact fun a ha => ⟨fuel0, 0, ha.less (less_cons rfl (less_cons rfl less_nil)), hM, hF⟩
 rintro k44 a w42 ⟨i41, ha, hM, hF⟩
 refine KC.app ha ?_
 clear ha
 cases k44 with
 | zero => exact (none_some hF).elim
 | succ k44 =>
 have hF : F_law30_few_l1 (F_law30_few_L1 lv1 k44) lv1 i41 = some r := hF
 unfold F_law30_few_l1 at hF
 refine KC.seqH fun Q45 hQ45 => ?_
 refine KC.cut (fun a w47 => ∃ (t46 : Bool), Kn 24 [(0, .slice A2 (lv1).length c3), (3, vI i41), (11, vB t46)] a ∧ Mem w [] w47 [] ∧ F_law30_few_j1 lv1 i41 (F_law30_few_L1 lv1 k44) t46 = some r) ?_ ?_
 ·refine KC.region ?_
  refine vm rfl rfl ?_
  refine vm rfl rfl ?_
  refine RL.val (O.len sl22 rfl) rfl ?_
  refine RL.val (O.lss rfl rfl) rfl ?_
  refine vm rfl rfl ?_
  refine RL.bcase (t := 8) rfl (fun hc => ?_) (fun hc => ?_)
  ·rw [if_pos hc] at hF
   refine RL.gval rfl rfl (O.move rfl) rfl ?_
   refine RL.gval rfl rfl (O.lss rfl rfl) rfl ?_
   refine RL.val (O.pickt rfl rfl) rfl ?_
   refine RL.nil ?_
   refine KQ.then_k ?_
   exact fun a ha => ⟨(decide (i41 < 31)), ha.less (less_cons rfl (less_cons rfl (less_cons rfl less_nil))), hM, hF⟩
  rw [if_neg (ne_true hc)] at hF
  refine RL.gskip rfl rfl rfl rfl ?_
  refine RL.gskip rfl rfl rfl rfl ?_
  refine RL.val (O.pickf rfl rfl) rfl ?_
  refine RL.nil ?_
  refine KQ.then_k ?_
  exact fun a ha => ⟨false, ha.less (less_cons rfl (less_cons rfl (less_cons rfl less_nil))), hM, hF⟩
 rintro a w47 ⟨t46, ha, hM, hF⟩
 refine KC.app ha ?_
 clear ha
 unfold F_law30_few_j1 at hF
 refine KC.cond rfl (fun hc => ?_) (fun hc => ?_)
 ·rw [if_pos hc] at hF
  refine KC.skip ?_
  refine KQ.thn hQ45 ?_
  clear hQ45 Q45
  refine KC.seqH fun Q48 hQ48 => ?_
  refine KC.block ?_
  refine sr fun Q49 hQ49 => ?_
  refine vm rfl rfl ?_
  refine vm rfl rfl ?_
  refine obindE hF fun xv52 hx51 hF => ?_
  obtain ⟨cs55, hA50, hR53, hO54⟩ := RdD.at hr4 hx51
  obtain ⟨A56, c57, rfl, hr58, ho59⟩ := hR53
  have hA50 := hA50.chg hM.chg hO54
  refine RL.val (O.idxA sl22 (hA50) rfl rfl) rfl ?_
  refine RL.val (O.fldA fl41_3 (by decide) rfl) rfl ?_
  refine RL.val (O.load sc38 rfl (Cs.adds [40] (hA50).cells rfl)) rfl ?_
  refine RL.val (O.len sl38 rfl) rfl ?_
  refine RL.val (O.gtr rfl rfl) rfl ?_
  refine nt hQ49 ?_
  clear hQ49 Q49
  refine KC.cond rfl (fun hc => ?_) (fun hc => ?_)
  ·rw [if_pos hc] at hF
   refine sr fun Q60 hQ60 => ?_
   refine va rfl rfl ?_
   refine nt hQ60 ?_
   clear hQ60 Q60
   refine KC.ret ?_
   refine KQ.blk_r ?_
   refine KQ.thr hQ48 ?_
   clear hQ48 Q48
   refine KQ.then_r ?_
   refine KQ.blk_r ?_
   refine KQ.thr hQ6 ?_
   clear hQ6 Q6
   have hE := Option.some.inj hF
   clear hF
   subst hE
   refine KQ.rets Try.results5 (RVs.cons (RV.tm rfl) RVs.nil) ?_
   exact ⟨_, rfl, rfl, hM⟩
  rw [if_neg (ne_true hc)] at hF
  refine KC.skip ?_
  refine KQ.blk_n ?_
  refine KQ.thn hQ48 ?_
  clear hQ48 Q48
  refine KC.region ?_
  refine vm rfl rfl ?_
  refine RL.val (O.add rfl rfl) rfl ?_
  refine va rfl rfl ?_
  refine RL.nil ?_
  refine KQ.then_k ?_
  exact fun a ha => ⟨k44, Nat.lt_succ_self k44, (IntKind.i64.wrap (i41 + 1)), ha.less (less_cons rfl (less_cons rfl less_nil)), hM, hF⟩
 rw [if_neg (ne_true hc)] at hF
 refine KC.exit ?_
 refine KQ.thx hQ45 ?_
 clear hQ45 Q45
 refine KQ.then_x ?_
 refine KQ.blk_x ?_
 refine KQ.thn hQ6 ?_
 clear hQ6 Q6
 refine sr fun Q61 hQ61 => ?_
 refine vm rfl rfl ?_
 refine RL.val (O.len sl22 rfl) rfl ?_
 refine RL.val (O.leq rfl rfl) rfl ?_
 refine va rfl rfl ?_
 refine nt hQ61 ?_
 clear hQ61 Q61
 refine KC.ret ?_
 have hE := Option.some.inj hF
 clear hF
 subst hE
 refine KQ.rets Try.results5 (RVs.cons (RV.tm rfl) RVs.nil) ?_
 exact ⟨_, rfl, rfl, hM⟩
set_option maxRecDepth 100000 in
set_option maxHeartbeats 40000000 in
theorem c_model_New (w : World) (r : T_model_Model) (hF : F_model_New = some r) :
  CallsR Try.prog 7 [] w (fun v w' => ∃ (gr0 : Nat) (gr1 : Nat) (gr2 : Nat) (gr3 : Nat) (Ar4 : Option Addr) (cr4 : Nat) (cssr5 : List (List Value)) (Zr5 : List Nat) (Ar5 : Option Addr) (cr5 : Nat), v = .pointer (some ⟨gr0, 0, none⟩) ∧ Mem w [] w' [.box gr0 65 [.map (some gr1), .map (some gr2), .map (some gr3), .slice Ar4 (r.f_entries).length cr4, .slice Ar5 (r.f_line).length cr5, v64 r.f_first, v32 r.f_boot], .res [gr1] (MR62 gr1 r.f_forwarded), .res [gr2] (MR62 gr2 r.f_cached), .res [gr3] (MR62 gr3 r.f_lost), .row Ar4 cr4 47 6 r.f_entries.length cssr5.flatten, .res Zr5 (Els RO_model_Entry 6 r.f_entries cssr5 Zr5), .row Ar5 cr5 3 1 r.f_line.length (r.f_line.flatMap (eI .i64))]) := by
 refine calls_KC Try.func7 rfl Try.ntmps7 rfl ?_
 have hM := Mem.init w
 unfold F_model_New at hF
 refine sr fun Q1 hQ1 => ?_
 refine va rfl rfl ?_
 refine nt hQ1 ?_
 clear hQ1 Q1
 refine sr fun Q2 hQ2 => ?_
 refine RL.eff (E.mkmapR (ek := e_packet_Key) (ew := e_flow_Total) (q := q_packet_Key) hM) rfl fun v w4 hv => ?_
 clear hM
 obtain ⟨g3, rfl, hM, hf⟩ := hv
 refine RL.eff (E.mkmapR (ek := e_packet_Key) (ew := e_flow_Total) (q := q_packet_Key) hM) rfl fun v w7 hv => ?_
 clear hM
 obtain ⟨g6, rfl, hM, hf⟩ := hv
 refine RL.eff (E.mkmapR (ek := e_packet_Key) (ew := e_flow_Total) (q := q_packet_Key) hM) rfl fun v w10 hv => ?_
 clear hM
 obtain ⟨g9, rfl, hM, hf⟩ := hv
 refine RL.val (O.bld (cs := [.map (some g3), .map (some g6), .map (some g9), .slice none 0 0, .slice none 0 0, v64 0, v32 0]) bt65 rfl (by kernel_rfl)) rfl ?_
 refine RL.eff (E.box (vs := [.map (some g3), .map (some g6), .map (some g9), .slice none 0 0, .slice none 0 0, v64 0, v32 0]) hM rfl rfl) rfl fun v w13 hv => ?_
 clear hM
 obtain ⟨g12, rfl, hM, hf⟩ := hv
 refine va rfl rfl ?_
 refine nt hQ2 ?_
 clear hQ2 Q2
 refine KC.ret ?_
 have hE := Option.some.inj hF
 clear hF
 subst hE
 replace hM := hM.nilrow 47 6
 obtain ⟨Z15, hM⟩ := hM.glue [] [0, 1, 2, 3, 4] rfl rfl (by decide) rfl (Els RO_model_Entry 6 ([] : List T_model_Entry) []) (fun Z w1 _ _ => Els.nil)
 replace hM := hM.nilrow 3 1
 replace hM := hM.pick [3, 0, 1, 2, 4, 5, 6] rfl (by decide)
 refine KQ.rets Try.results7 (RVs.cons (RV.tm rfl) RVs.nil) ?_
 exact ⟨_, rfl, g12, g3, g6, g9, none, 0, [], Z15, none, 0, rfl, hM⟩
set_option maxRecDepth 100000 in
set_option maxHeartbeats 40000000 in
theorem c_law30_key (w : World) (nv1 : Int) (r : T_packet_Key) (hF : F_law30_key nv1 = some r) :
  CallsR Try.prog 17 [vI nv1] w (fun v w' => v = .agg #[vB r.f_Src.f_Six, o8 r.f_Src.f_B 0, o8 r.f_Src.f_B 1, o8 r.f_Src.f_B 2, o8 r.f_Src.f_B 3, o8 r.f_Src.f_B 4, o8 r.f_Src.f_B 5, o8 r.f_Src.f_B 6, o8 r.f_Src.f_B 7, o8 r.f_Src.f_B 8, o8 r.f_Src.f_B 9, o8 r.f_Src.f_B 10, o8 r.f_Src.f_B 11, o8 r.f_Src.f_B 12, o8 r.f_Src.f_B 13, o8 r.f_Src.f_B 14, o8 r.f_Src.f_B 15, vB r.f_Dst.f_Six, o8 r.f_Dst.f_B 0, o8 r.f_Dst.f_B 1, o8 r.f_Dst.f_B 2, o8 r.f_Dst.f_B 3, o8 r.f_Dst.f_B 4, o8 r.f_Dst.f_B 5, o8 r.f_Dst.f_B 6, o8 r.f_Dst.f_B 7, o8 r.f_Dst.f_B 8, o8 r.f_Dst.f_B 9, o8 r.f_Dst.f_B 10, o8 r.f_Dst.f_B 11, o8 r.f_Dst.f_B 12, o8 r.f_Dst.f_B 13, o8 r.f_Dst.f_B 14, o8 r.f_Dst.f_B 15, v8 r.f_Proto, v16 r.f_SrcPort, v16 r.f_DstPort] ∧ Mem w [] w' []) := by
 refine calls_KC Try.func17 rfl Try.ntmps17 rfl ?_
 have hM := Mem.init w
 unfold F_law30_key at hF
 refine sr fun Q2 hQ2 => ?_
 refine RL.eff (E.alloc hM ze34) rfl fun v w4 hv => ?_
 clear hM
 obtain ⟨g3, rfl, hM, hf⟩ := hv
 refine nt hQ2 ?_
 clear hQ2 Q2
 refine sr fun Q6 hQ6 => ?_
 refine vm rfl rfl ?_
 refine RL.val (O.conv un3 Try.underlying32 rfl) rfl ?_
 refine RL.val (O.bld (cs := [vB false, o8 (List.replicate 16 0) 0, o8 (List.replicate 16 0) 1, o8 (List.replicate 16 0) 2, o8 (List.replicate 16 0) 3, o8 (List.replicate 16 0) 4, o8 (List.replicate 16 0) 5, o8 (List.replicate 16 0) 6, o8 (List.replicate 16 0) 7, o8 (List.replicate 16 0) 8, o8 (List.replicate 16 0) 9, o8 (List.replicate 16 0) 10, o8 (List.replicate 16 0) 11, o8 (List.replicate 16 0) 12, o8 (List.replicate 16 0) 13, o8 (List.replicate 16 0) 14, o8 (List.replicate 16 0) 15, vB false, o8 (List.replicate 16 0) 0, o8 (List.replicate 16 0) 1, o8 (List.replicate 16 0) 2, o8 (List.replicate 16 0) 3, o8 (List.replicate 16 0) 4, o8 (List.replicate 16 0) 5, o8 (List.replicate 16 0) 6, o8 (List.replicate 16 0) 7, o8 (List.replicate 16 0) 8, o8 (List.replicate 16 0) 9, o8 (List.replicate 16 0) 10, o8 (List.replicate 16 0) 11, o8 (List.replicate 16 0) 12, o8 (List.replicate 16 0) 13, o8 (List.replicate 16 0) 14, o8 (List.replicate 16 0) 15, v8 6, v16 (IntKind.u16.wrap nv1), v16 80]) bt34 rfl (by kernel_rfl)) rfl ?_
 refine RL.eff (E.alloc hM ze34) rfl fun v w8 hv => ?_
 clear hM
 obtain ⟨g7, rfl, hM, hf⟩ := hv
 refine RL.effs (E.stB (j := 1) (off := 0) (vs := [vB false, o8 (List.replicate 16 0) 0, o8 (List.replicate 16 0) 1, o8 (List.replicate 16 0) 2, o8 (List.replicate 16 0) 3, o8 (List.replicate 16 0) 4, o8 (List.replicate 16 0) 5, o8 (List.replicate 16 0) 6, o8 (List.replicate 16 0) 7, o8 (List.replicate 16 0) 8, o8 (List.replicate 16 0) 9, o8 (List.replicate 16 0) 10, o8 (List.replicate 16 0) 11, o8 (List.replicate 16 0) 12, o8 (List.replicate 16 0) 13, o8 (List.replicate 16 0) 14, o8 (List.replicate 16 0) 15, vB false, o8 (List.replicate 16 0) 0, o8 (List.replicate 16 0) 1, o8 (List.replicate 16 0) 2, o8 (List.replicate 16 0) 3, o8 (List.replicate 16 0) 4, o8 (List.replicate 16 0) 5, o8 (List.replicate 16 0) 6, o8 (List.replicate 16 0) 7, o8 (List.replicate 16 0) 8, o8 (List.replicate 16 0) 9, o8 (List.replicate 16 0) 10, o8 (List.replicate 16 0) 11, o8 (List.replicate 16 0) 12, o8 (List.replicate 16 0) 13, o8 (List.replicate 16 0) 14, o8 (List.replicate 16 0) 15, v8 6, v16 (IntKind.u16.wrap nv1), v16 80]) (cs' := [vB false, o8 (List.replicate 16 0) 0, o8 (List.replicate 16 0) 1, o8 (List.replicate 16 0) 2, o8 (List.replicate 16 0) 3, o8 (List.replicate 16 0) 4, o8 (List.replicate 16 0) 5, o8 (List.replicate 16 0) 6, o8 (List.replicate 16 0) 7, o8 (List.replicate 16 0) 8, o8 (List.replicate 16 0) 9, o8 (List.replicate 16 0) 10, o8 (List.replicate 16 0) 11, o8 (List.replicate 16 0) 12, o8 (List.replicate 16 0) 13, o8 (List.replicate 16 0) 14, o8 (List.replicate 16 0) 15, vB false, o8 (List.replicate 16 0) 0, o8 (List.replicate 16 0) 1, o8 (List.replicate 16 0) 2, o8 (List.replicate 16 0) 3, o8 (List.replicate 16 0) 4, o8 (List.replicate 16 0) 5, o8 (List.replicate 16 0) 6, o8 (List.replicate 16 0) 7, o8 (List.replicate 16 0) 8, o8 (List.replicate 16 0) 9, o8 (List.replicate 16 0) 10, o8 (List.replicate 16 0) 11, o8 (List.replicate 16 0) 12, o8 (List.replicate 16 0) 13, o8 (List.replicate 16 0) 14, o8 (List.replicate 16 0) 15, v8 6, v16 (IntKind.u16.wrap nv1), v16 80]) hM rfl sz34 rfl (adds_eq [] rfl) rfl rfl (One.all rfl) rfl rfl) fun w10 hM1 => ?_
 clear hM
 have hM := hM1
 clear hM1
 refine nt hQ6 ?_
 clear hQ6 Q6
 refine sr fun Q11 hQ11 => ?_
 refine RL.val (O.fldA fl34_0 (by decide) rfl) rfl ?_
 refine RL.val (O.fldA fl31_1 (by decide) rfl) rfl ?_
 refine obindE hF fun xv13 hx12 hF => ?_
 refine RL.val (O.idxP Try.underlying29 sz5 hx12 rfl rfl) rfl ?_
 refine RL.effs (E.stA (j := 1) (off := 1) (nn := 16) (p := 0) (u := 10) (k := .u8) (xs := (List.replicate 16 0)) (cs' := [vB false, o8 (setA 16 (List.replicate 16 0) 0 10) 0, o8 (setA 16 (List.replicate 16 0) 0 10) 1, o8 (setA 16 (List.replicate 16 0) 0 10) 2, o8 (setA 16 (List.replicate 16 0) 0 10) 3, o8 (setA 16 (List.replicate 16 0) 0 10) 4, o8 (setA 16 (List.replicate 16 0) 0 10) 5, o8 (setA 16 (List.replicate 16 0) 0 10) 6, o8 (setA 16 (List.replicate 16 0) 0 10) 7, o8 (setA 16 (List.replicate 16 0) 0 10) 8, o8 (setA 16 (List.replicate 16 0) 0 10) 9, o8 (setA 16 (List.replicate 16 0) 0 10) 10, o8 (setA 16 (List.replicate 16 0) 0 10) 11, o8 (setA 16 (List.replicate 16 0) 0 10) 12, o8 (setA 16 (List.replicate 16 0) 0 10) 13, o8 (setA 16 (List.replicate 16 0) 0 10) 14, o8 (setA 16 (List.replicate 16 0) 0 10) 15, vB false, o8 (List.replicate 16 0) 0, o8 (List.replicate 16 0) 1, o8 (List.replicate 16 0) 2, o8 (List.replicate 16 0) 3, o8 (List.replicate 16 0) 4, o8 (List.replicate 16 0) 5, o8 (List.replicate 16 0) 6, o8 (List.replicate 16 0) 7, o8 (List.replicate 16 0) 8, o8 (List.replicate 16 0) 9, o8 (List.replicate 16 0) 10, o8 (List.replicate 16 0) 11, o8 (List.replicate 16 0) 12, o8 (List.replicate 16 0) 13, o8 (List.replicate 16 0) 14, o8 (List.replicate 16 0) 15, v8 6, v16 (IntKind.u16.wrap nv1), v16 80]) hM rfl sz5 rfl (congrArg (fun q => Addr.add q (Int.toNat 0 * 1)) (adds_eq [0, 1] rfl)) rfl hx12 rfl rfl rfl) fun w14 hM1 => ?_
 clear hM
 have hM := hM1
 clear hM1
 refine nt hQ11 ?_
 clear hQ11 Q11
 refine sr fun Q15 hQ15 => ?_
 refine RL.val (O.loadN (cs := [vB false, o8 (setA 16 (List.replicate 16 0) 0 10) 0, o8 (setA 16 (List.replicate 16 0) 0 10) 1, o8 (setA 16 (List.replicate 16 0) 0 10) 2, o8 (setA 16 (List.replicate 16 0) 0 10) 3, o8 (setA 16 (List.replicate 16 0) 0 10) 4, o8 (setA 16 (List.replicate 16 0) 0 10) 5, o8 (setA 16 (List.replicate 16 0) 0 10) 6, o8 (setA 16 (List.replicate 16 0) 0 10) 7, o8 (setA 16 (List.replicate 16 0) 0 10) 8, o8 (setA 16 (List.replicate 16 0) 0 10) 9, o8 (setA 16 (List.replicate 16 0) 0 10) 10, o8 (setA 16 (List.replicate 16 0) 0 10) 11, o8 (setA 16 (List.replicate 16 0) 0 10) 12, o8 (setA 16 (List.replicate 16 0) 0 10) 13, o8 (setA 16 (List.replicate 16 0) 0 10) 14, o8 (setA 16 (List.replicate 16 0) 0 10) 15, vB false, o8 (List.replicate 16 0) 0, o8 (List.replicate 16 0) 1, o8 (List.replicate 16 0) 2, o8 (List.replicate 16 0) 3, o8 (List.replicate 16 0) 4, o8 (List.replicate 16 0) 5, o8 (List.replicate 16 0) 6, o8 (List.replicate 16 0) 7, o8 (List.replicate 16 0) 8, o8 (List.replicate 16 0) 9, o8 (List.replicate 16 0) 10, o8 (List.replicate 16 0) 11, o8 (List.replicate 16 0) 12, o8 (List.replicate 16 0) 13, o8 (List.replicate 16 0) 14, o8 (List.replicate 16 0) 15, v8 6, v16 (IntKind.u16.wrap nv1), v16 80]) ag34 rfl (Cs.addsN [] ((hM.bx (i := 1) rfl)) rfl)) rfl ?_
 refine RL.effs (E.stB (j := 0) (off := 0) (vs := [vB false, o8 (setA 16 (List.replicate 16 0) 0 10) 0, o8 (setA 16 (List.replicate 16 0) 0 10) 1, o8 (setA 16 (List.replicate 16 0) 0 10) 2, o8 (setA 16 (List.replicate 16 0) 0 10) 3, o8 (setA 16 (List.replicate 16 0) 0 10) 4, o8 (setA 16 (List.replicate 16 0) 0 10) 5, o8 (setA 16 (List.replicate 16 0) 0 10) 6, o8 (setA 16 (List.replicate 16 0) 0 10) 7, o8 (setA 16 (List.replicate 16 0) 0 10) 8, o8 (setA 16 (List.replicate 16 0) 0 10) 9, o8 (setA 16 (List.replicate 16 0) 0 10) 10, o8 (setA 16 (List.replicate 16 0) 0 10) 11, o8 (setA 16 (List.replicate 16 0) 0 10) 12, o8 (setA 16 (List.replicate 16 0) 0 10) 13, o8 (setA 16 (List.replicate 16 0) 0 10) 14, o8 (setA 16 (List.replicate 16 0) 0 10) 15, vB false, o8 (List.replicate 16 0) 0, o8 (List.replicate 16 0) 1, o8 (List.replicate 16 0) 2, o8 (List.replicate 16 0) 3, o8 (List.replicate 16 0) 4, o8 (List.replicate 16 0) 5, o8 (List.replicate 16 0) 6, o8 (List.replicate 16 0) 7, o8 (List.replicate 16 0) 8, o8 (List.replicate 16 0) 9, o8 (List.replicate 16 0) 10, o8 (List.replicate 16 0) 11, o8 (List.replicate 16 0) 12, o8 (List.replicate 16 0) 13, o8 (List.replicate 16 0) 14, o8 (List.replicate 16 0) 15, v8 6, v16 (IntKind.u16.wrap nv1), v16 80]) (cs' := [vB false, o8 (setA 16 (List.replicate 16 0) 0 10) 0, o8 (setA 16 (List.replicate 16 0) 0 10) 1, o8 (setA 16 (List.replicate 16 0) 0 10) 2, o8 (setA 16 (List.replicate 16 0) 0 10) 3, o8 (setA 16 (List.replicate 16 0) 0 10) 4, o8 (setA 16 (List.replicate 16 0) 0 10) 5, o8 (setA 16 (List.replicate 16 0) 0 10) 6, o8 (setA 16 (List.replicate 16 0) 0 10) 7, o8 (setA 16 (List.replicate 16 0) 0 10) 8, o8 (setA 16 (List.replicate 16 0) 0 10) 9, o8 (setA 16 (List.replicate 16 0) 0 10) 10, o8 (setA 16 (List.replicate 16 0) 0 10) 11, o8 (setA 16 (List.replicate 16 0) 0 10) 12, o8 (setA 16 (List.replicate 16 0) 0 10) 13, o8 (setA 16 (List.replicate 16 0) 0 10) 14, o8 (setA 16 (List.replicate 16 0) 0 10) 15, vB false, o8 (List.replicate 16 0) 0, o8 (List.replicate 16 0) 1, o8 (List.replicate 16 0) 2, o8 (List.replicate 16 0) 3, o8 (List.replicate 16 0) 4, o8 (List.replicate 16 0) 5, o8 (List.replicate 16 0) 6, o8 (List.replicate 16 0) 7, o8 (List.replicate 16 0) 8, o8 (List.replicate 16 0) 9, o8 (List.replicate 16 0) 10, o8 (List.replicate 16 0) 11, o8 (List.replicate 16 0) 12, o8 (List.replicate 16 0) 13, o8 (List.replicate 16 0) 14, o8 (List.replicate 16 0) 15, v8 6, v16 (IntKind.u16.wrap nv1), v16 80]) hM rfl sz34 rfl (adds_eq [] rfl) rfl rfl (One.all rfl) rfl rfl) fun w16 hM1 => ?_
 clear hM
 have hM := hM1
 clear hM1
 refine nt hQ15 ?_
 clear hQ15 Q15
 refine KC.ret ?_
 have hE := Option.some.inj hF
 clear hF
 subst hE
 have hb17 := hM.bx (i := 0) rfl
 replace hM := hM.pick [] rfl (by decide)
 refine KQ.rets Try.results17 (RVs.cons (RV.cN (cs := [vB false, o8 (setA 16 (List.replicate 16 0) 0 10) 0, o8 (setA 16 (List.replicate 16 0) 0 10) 1, o8 (setA 16 (List.replicate 16 0) 0 10) 2, o8 (setA 16 (List.replicate 16 0) 0 10) 3, o8 (setA 16 (List.replicate 16 0) 0 10) 4, o8 (setA 16 (List.replicate 16 0) 0 10) 5, o8 (setA 16 (List.replicate 16 0) 0 10) 6, o8 (setA 16 (List.replicate 16 0) 0 10) 7, o8 (setA 16 (List.replicate 16 0) 0 10) 8, o8 (setA 16 (List.replicate 16 0) 0 10) 9, o8 (setA 16 (List.replicate 16 0) 0 10) 10, o8 (setA 16 (List.replicate 16 0) 0 10) 11, o8 (setA 16 (List.replicate 16 0) 0 10) 12, o8 (setA 16 (List.replicate 16 0) 0 10) 13, o8 (setA 16 (List.replicate 16 0) 0 10) 14, o8 (setA 16 (List.replicate 16 0) 0 10) 15, vB false, o8 (List.replicate 16 0) 0, o8 (List.replicate 16 0) 1, o8 (List.replicate 16 0) 2, o8 (List.replicate 16 0) 3, o8 (List.replicate 16 0) 4, o8 (List.replicate 16 0) 5, o8 (List.replicate 16 0) 6, o8 (List.replicate 16 0) 7, o8 (List.replicate 16 0) 8, o8 (List.replicate 16 0) 9, o8 (List.replicate 16 0) 10, o8 (List.replicate 16 0) 11, o8 (List.replicate 16 0) 12, o8 (List.replicate 16 0) 13, o8 (List.replicate 16 0) 14, o8 (List.replicate 16 0) 15, v8 6, v16 (IntKind.u16.wrap nv1), v16 80]) rfl ag34 hb17) RVs.nil) ?_
 exact ⟨_, rfl, rfl, hM⟩
set_option maxRecDepth 100000 in
set_option maxHeartbeats 40000000 in
theorem c_packet_ports (w : World) (proto1 : Int) (r : Bool) (hF : F_packet_ports proto1 = some r) :
  CallsR Try.prog 54 [v8 proto1] w (fun v w' => v = vB r ∧ Mem w [] w' []) := by
 refine calls_KC Try.func54 rfl Try.ntmps54 rfl ?_
 have hM := Mem.init w
 unfold F_packet_ports at hF
 refine sr fun Q2 hQ2 => ?_
 refine va rfl rfl ?_
 refine nt hQ2 ?_
 clear hQ2 Q2
 refine KC.cut (fun a w4 => ∃ (t3 : Bool), Kn 9 [(2, vB t3)] a ∧ Mem w [] w4 [] ∧ F_packet_ports_j1 t3 = some r) ?_ ?_
 ·refine KC.region ?_
  refine vm rfl rfl ?_
  refine RL.val (O.eql rfl rfl) rfl ?_
  refine vm rfl rfl ?_
  refine RL.bcase (t := 5) rfl (fun hc => ?_) (fun hc => ?_)
  ·rw [if_pos hc] at hF
   refine RL.gskip rfl rfl rfl rfl ?_
   refine RL.gskip rfl rfl rfl rfl ?_
   refine RL.val (O.pickt rfl rfl) rfl ?_
   refine va rfl rfl ?_
   refine RL.nil ?_
   refine KQ.then_k ?_
   exact fun a ha => ⟨true, ha.less (less_cons rfl less_nil), hM, hF⟩
  rw [if_neg (ne_true hc)] at hF
  refine RL.gval rfl rfl (O.move rfl) rfl ?_
  refine RL.gval rfl rfl (O.eql rfl rfl) rfl ?_
  refine RL.val (O.pickf rfl rfl) rfl ?_
  refine va rfl rfl ?_
  refine RL.nil ?_
  refine KQ.then_k ?_
  exact fun a ha => ⟨(proto1 == 17), ha.less (less_cons rfl less_nil), hM, hF⟩
 rintro a w4 ⟨t3, ha, hM, hF⟩
 refine KC.app ha ?_
 clear ha
 unfold F_packet_ports_j1 at hF
 refine KC.ret ?_
 have hE := Option.some.inj hF
 clear hF
 subst hE
 refine KQ.rets Try.results54 (RVs.cons (RV.tm rfl) RVs.nil) ?_
 exact ⟨_, rfl, rfl, hM⟩
set_option maxRecDepth 100000 in
set_option maxHeartbeats 40000000 in
theorem c_packet_icmp (w : World) (proto1 : Int) (r : Bool) (hF : F_packet_icmp proto1 = some r) :
  CallsR Try.prog 55 [v8 proto1] w (fun v w' => v = vB r ∧ Mem w [] w' []) := by
 refine calls_KC Try.func55 rfl Try.ntmps55 rfl ?_
 have hM := Mem.init w
 unfold F_packet_icmp at hF
 refine sr fun Q2 hQ2 => ?_
 refine va rfl rfl ?_
 refine nt hQ2 ?_
 clear hQ2 Q2
 refine KC.cut (fun a w4 => ∃ (t3 : Bool), Kn 9 [(2, vB t3)] a ∧ Mem w [] w4 [] ∧ F_packet_icmp_j1 t3 = some r) ?_ ?_
 ·refine KC.region ?_
  refine vm rfl rfl ?_
  refine RL.val (O.eql rfl rfl) rfl ?_
  refine vm rfl rfl ?_
  refine RL.bcase (t := 5) rfl (fun hc => ?_) (fun hc => ?_)
  ·rw [if_pos hc] at hF
   refine RL.gskip rfl rfl rfl rfl ?_
   refine RL.gskip rfl rfl rfl rfl ?_
   refine RL.val (O.pickt rfl rfl) rfl ?_
   refine va rfl rfl ?_
   refine RL.nil ?_
   refine KQ.then_k ?_
   exact fun a ha => ⟨true, ha.less (less_cons rfl less_nil), hM, hF⟩
  rw [if_neg (ne_true hc)] at hF
  refine RL.gval rfl rfl (O.move rfl) rfl ?_
  refine RL.gval rfl rfl (O.eql rfl rfl) rfl ?_
  refine RL.val (O.pickf rfl rfl) rfl ?_
  refine va rfl rfl ?_
  refine RL.nil ?_
  refine KQ.then_k ?_
  exact fun a ha => ⟨(proto1 == 58), ha.less (less_cons rfl less_nil), hM, hF⟩
 rintro a w4 ⟨t3, ha, hM, hF⟩
 refine KC.app ha ?_
 clear ha
 unfold F_packet_icmp_j1 at hF
 refine KC.ret ?_
 have hE := Option.some.inj hF
 clear hF
 subst hE
 refine KQ.rets Try.results55 (RVs.cons (RV.tm rfl) RVs.nil) ?_
 exact ⟨_, rfl, rfl, hM⟩
set_option maxRecDepth 100000 in
set_option maxHeartbeats 40000000 in
theorem c_addr_Addr_size (w : World) (av1 : T_addr_Addr) (r : Int) (hF : F_addr_Addr_size av1 = some r) :
  CallsR Try.prog 70 [.agg #[vB av1.f_Six, o8 av1.f_B 0, o8 av1.f_B 1, o8 av1.f_B 2, o8 av1.f_B 3, o8 av1.f_B 4, o8 av1.f_B 5, o8 av1.f_B 6, o8 av1.f_B 7, o8 av1.f_B 8, o8 av1.f_B 9, o8 av1.f_B 10, o8 av1.f_B 11, o8 av1.f_B 12, o8 av1.f_B 13, o8 av1.f_B 14, o8 av1.f_B 15]] w (fun v w' => v = vI r ∧ Mem w [] w' []) := by
 refine calls_KC Try.func70 rfl Try.ntmps70 rfl ?_
 have hM := Mem.init w
 unfold F_addr_Addr_size at hF
 refine sr fun Q2 hQ2 => ?_
 refine RL.eff (E.box (vs := [vB av1.f_Six, o8 av1.f_B 0, o8 av1.f_B 1, o8 av1.f_B 2, o8 av1.f_B 3, o8 av1.f_B 4, o8 av1.f_B 5, o8 av1.f_B 6, o8 av1.f_B 7, o8 av1.f_B 8, o8 av1.f_B 9, o8 av1.f_B 10, o8 av1.f_B 11, o8 av1.f_B 12, o8 av1.f_B 13, o8 av1.f_B 14, o8 av1.f_B 15]) hM rfl rfl) rfl fun v w4 hv => ?_
 clear hM
 obtain ⟨g3, rfl, hM, hf⟩ := hv
 refine va rfl rfl ?_
 refine nt hQ2 ?_
 clear hQ2 Q2
 refine KC.seqH fun Q6 hQ6 => ?_
 refine sr fun Q7 hQ7 => ?_
 refine RL.val (O.fldA fl31_0 (by decide) rfl) rfl ?_
 refine RL.val (O.load sc4 rfl (Cs.adds [0] ((hM.bx (i := 0) rfl)) rfl)) rfl ?_
 refine nt hQ7 ?_
 clear hQ7 Q7
 refine KC.cond rfl (fun hc => ?_) (fun hc => ?_)
 ·rw [if_pos hc] at hF
  refine sr fun Q8 hQ8 => ?_
  refine va rfl rfl ?_
  refine nt hQ8 ?_
  clear hQ8 Q8
  refine KC.ret ?_
  refine KQ.thr hQ6 ?_
  clear hQ6 Q6
  have hE := Option.some.inj hF
  clear hF
  subst hE
  replace hM := hM.pick [] rfl (by decide)
  refine KQ.rets Try.results70 (RVs.cons (RV.tm rfl) RVs.nil) ?_
  exact ⟨_, rfl, rfl, hM⟩
 rw [if_neg (ne_true hc)] at hF
 refine KC.skip ?_
 refine KQ.thn hQ6 ?_
 clear hQ6 Q6
 refine sr fun Q9 hQ9 => ?_
 refine va rfl rfl ?_
 refine nt hQ9 ?_
 clear hQ9 Q9
 refine KC.ret ?_
 have hE := Option.some.inj hF
 clear hF
 subst hE
 replace hM := hM.pick [] rfl (by decide)
 refine KQ.rets Try.results70 (RVs.cons (RV.tm rfl) RVs.nil) ?_
 exact ⟨_, rfl, rfl, hM⟩
end Go.Proofs.Ytidbgejnkpoeeaa
