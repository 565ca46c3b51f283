/- Printed by a program of this claim: each call returns what the plain function of its name gives. -/
import Derived.Test.YtkpnocgfhipidaaW1
import Derived.Test.YtkpnocgfhipidaaW6
import Derived.Test.YtkpnocgfhipidaaW8
set_option linter.unusedVariables false
namespace Go.Proofs.Ytkpnocgfhipidaa
open Go Go.Ox Go.RowKit
set_option maxRecDepth 100000 in
set_option maxHeartbeats 40000000 in
theorem c_law24_works (w : World) (r : Bool) (hF : F_law24_works = some r) :
  CallsR Try.prog 6 [] w (fun v w' => v = vB r ∧ Mem w [] w' []) := by
 refine calls_KC Try.func6 rfl Try.ntmps6 rfl ?_
 have hM := Mem.init w
 unfold F_law24_works at hF
 refine sr fun Q1 hQ1 => ?_
 refine va rfl rfl ?_
 refine nt hQ1 ?_
 clear hQ1 Q1
 refine sr fun Q2 hQ2 => ?_
 refine RL.val (O.bld (cs := [vI 2, v64 5, v64 20, v64 3, v64 1000]) bt24 rfl (by kernel_rfl)) rfl ?_
 refine RL.icall Try.func7 bd7 rfl rfl rfl Try.ntmps7 rfl ?_
 refine sr fun Q3 hQ3 => ?_
 refine RL.eff (E.box (vs := [vI 2, v64 5, v64 20, v64 3, v64 1000]) hM rfl rfl) rfl fun v w5 hv => ?_
 clear hM
 obtain ⟨g4, rfl, hM, hf⟩ := hv
 refine va rfl rfl ?_
 refine va rfl rfl ?_
 refine nt hQ3 ?_
 clear hQ3 Q3
 refine KC.seqH fun Q7 hQ7 => ?_
 refine KC.cut (fun a w9 => Kn 53 [(0, v64 0), (3, .pointer (some ⟨g4, 0, none⟩)), (35, vB false)] a ∧ Mem w [] w9 [.box g4 24 [vI 2, v64 5, v64 20, v64 3, v64 1000]] ∧ F_law24_works_j1 = some r) ?_ ?_
 ·refine KC.region ?_
  refine RL.val (O.fldA fl24_0 (by decide) rfl) rfl ?_
  refine RL.val (O.load sc3 rfl (Cs.adds [0] ((hM.bx (i := 0) rfl)) rfl)) rfl ?_
  refine RL.val (O.lss rfl rfl) rfl ?_
  refine vm rfl rfl ?_
  refine RL.gval rfl rfl (O.fldA fl24_0 (by decide) rfl) rfl ?_
  refine RL.gval rfl rfl (O.load sc3 rfl (Cs.adds [0] ((hM.bx (i := 0) rfl)) rfl)) rfl ?_
  refine RL.gval rfl rfl (O.gtr rfl rfl) rfl ?_
  refine RL.val (O.pickf rfl rfl) rfl ?_
  refine vm rfl rfl ?_
  refine RL.gval rfl rfl (O.fldA fl24_1 (by decide) rfl) rfl ?_
  refine RL.gval rfl rfl (O.load sc22 rfl (Cs.adds [1] ((hM.bx (i := 0) rfl)) rfl)) rfl ?_
  refine RL.gval rfl rfl (O.eql rfl rfl) rfl ?_
  refine RL.val (O.pickf rfl rfl) rfl ?_
  refine vm rfl rfl ?_
  refine RL.gval rfl rfl (O.fldA fl24_2 (by decide) rfl) rfl ?_
  refine RL.gval rfl rfl (O.load sc22 rfl (Cs.adds [2] ((hM.bx (i := 0) rfl)) rfl)) rfl ?_
  refine RL.gval rfl rfl (O.eql rfl rfl) rfl ?_
  refine RL.val (O.pickf rfl rfl) rfl ?_
  refine vm rfl rfl ?_
  refine RL.gval rfl rfl (O.fldA fl24_3 (by decide) rfl) rfl ?_
  refine RL.gval rfl rfl (O.load sc22 rfl (Cs.adds [3] ((hM.bx (i := 0) rfl)) rfl)) rfl ?_
  refine RL.gval rfl rfl (O.eql rfl rfl) rfl ?_
  refine RL.val (O.pickf rfl rfl) rfl ?_
  refine vm rfl rfl ?_
  refine RL.gval rfl rfl (O.fldA fl24_4 (by decide) rfl) rfl ?_
  refine RL.gval rfl rfl (O.load sc22 rfl (Cs.adds [4] ((hM.bx (i := 0) rfl)) rfl)) rfl ?_
  refine RL.gval rfl rfl (O.eql rfl rfl) rfl ?_
  refine RL.val (O.pickf rfl rfl) rfl ?_
  refine RL.nil ?_
  refine KQ.then_k ?_
  exact fun a ha => ⟨ha.less (less_cons rfl (less_cons rfl (less_cons rfl less_nil))), hM, hF⟩
 rintro a w9 ⟨ha, hM, hF⟩
 refine KC.app ha ?_
 clear ha
 unfold F_law24_works_j1 at hF
 refine KC.condF rfl ?_
 refine KC.skip ?_
 refine KQ.thn hQ7 ?_
 clear hQ7 Q7
 refine sr fun Q10 hQ10 => ?_
 refine RL.val (O.fldA fl24_0 (by decide) rfl) rfl ?_
 refine RL.val (O.load sc3 rfl (Cs.adds [0] ((hM.bx (i := 0) rfl)) rfl)) rfl ?_
 refine RL.val (O.conv un3 Try.underlying72 rfl) rfl ?_
 refine obindE hF fun y11 hx12 hF => ?_
 refine RL.call Try.func25 bd25 rfl rfl (c_math_bits_Len _ (IntKind.u64.wrap 2) _ hx12) fun v w13 hv => ?_
 obtain ⟨rfl, hN14⟩ := hv
 replace hM := hM.call0 hN14
 refine cut_someE hF fun hq15 hF => ?_
 refine RL.val (O.shl rfl rfl (of_decide_eq_true hq15)) rfl ?_
 refine RL.icall Try.func24 bd24 rfl rfl rfl Try.ntmps24 rfl ?_
 refine sr fun Q16 hQ16 => ?_
 refine va rfl rfl ?_
 refine va rfl rfl ?_
 refine nt hQ16 ?_
 clear hQ16 Q16
 refine KC.seqH fun Q17 hQ17 => ?_
 refine KC.cut (fun a w20 => ∃ (xv18 : Bool), Kn 21 [(0, vI (Ox.shl .i64 1 y11)), (16, vB xv18)] a ∧ Mem w [] w20 [.box g4 24 [vI 2, v64 5, v64 20, v64 3, v64 1000]] ∧ F_law24_works_j2 y11 xv18 = some r) ?_ ?_
 ·refine KC.region ?_
  refine vm rfl rfl ?_
  refine RL.val (O.lss rfl rfl) rfl ?_
  refine vm rfl rfl ?_
  refine RL.bcase (t := 6) rfl (fun hc => ?_) (fun hc => ?_)
  ·rw [if_pos hc] at hF
   refine RL.brun1 10 16 true (by kernel_rfl) ?_
   refine RL.nil ?_
   refine KQ.then_k ?_
   exact fun a ha => ⟨true, ha.less (less_cons rfl (less_cons rfl less_nil)), hM, hF⟩
  rw [if_neg (ne_true hc)] at hF
  refine RL.gval rfl rfl (O.move rfl) rfl ?_
  refine RL.gval rfl rfl (O.gtr rfl rfl) rfl ?_
  refine RL.val (O.pickf rfl rfl) rfl ?_
  refine vm rfl rfl ?_
  refine RL.bcase (t := 10) rfl (fun hc => ?_) (fun hc => ?_)
  ·rw [if_pos hc] at hF
   refine RL.brun1 6 16 true (by kernel_rfl) ?_
   refine RL.nil ?_
   refine KQ.then_k ?_
   exact fun a ha => ⟨true, ha.less (less_cons rfl (less_cons rfl less_nil)), hM, hF⟩
  rw [if_neg (ne_true hc)] at hF
  refine RL.gval rfl rfl (O.move rfl) rfl ?_
  refine RL.gval rfl rfl (O.move rfl) rfl ?_
  refine RL.gval rfl rfl (O.sub rfl rfl) rfl ?_
  refine RL.gval rfl rfl (O.and rfl rfl) rfl ?_
  refine RL.gval rfl rfl (O.neq rfl rfl) rfl ?_
  refine RL.val (O.pickf rfl rfl) rfl ?_
  refine RL.nil ?_
  refine KQ.then_k ?_
  exact fun a ha => ⟨((bits .and .i64 (Ox.shl .i64 1 y11) (IntKind.i64.wrap ((Ox.shl .i64 1 y11) - 1))) != 0), ha.less (less_cons rfl (less_cons rfl less_nil)), hM, hF⟩
 rintro a w20 ⟨xv18, ha, hM, hF⟩
 refine KC.app ha ?_
 clear ha
 unfold F_law24_works_j2 at hF
 refine KC.cond rfl (fun hc => ?_) (fun hc => ?_)
 ·rw [if_pos hc] at hF
  refine sr fun Q21 hQ21 => ?_
  refine va rfl rfl ?_
  refine va rfl rfl ?_
  refine nt hQ21 ?_
  clear hQ21 Q21
  refine KC.ret ?_
  refine KQ.thr hQ17 ?_
  clear hQ17 Q17
  refine KQ.rets Try.results24 (RVs.cons (RV.tm rfl) (RVs.cons (RV.tm rfl) RVs.nil)) ?_
  refine ⟨.tuple #[.pointer none, vI 2], rfl, ?_⟩
  refine vm rfl rfl ?_
  refine RL.val (O.ext rfl rfl) rfl ?_
  refine RL.val (O.ext rfl rfl) rfl ?_
  refine va rfl rfl ?_
  refine va rfl rfl ?_
  refine nt hQ10 ?_
  clear hQ10 Q10
  refine KC.seqH fun Q22 hQ22 => ?_
  refine sr fun Q23 hQ23 => ?_
  refine vm rfl rfl ?_
  refine RL.val (O.neq rfl rfl) rfl ?_
  refine nt hQ23 ?_
  clear hQ23 Q23
  refine KC.condT rfl ?_
  refine sr fun Q24 hQ24 => ?_
  refine vm rfl rfl ?_
  refine va rfl rfl ?_
  refine va rfl rfl ?_
  refine nt hQ24 ?_
  clear hQ24 Q24
  refine KC.ret ?_
  refine KQ.thr hQ22 ?_
  clear hQ22 Q22
  refine KQ.rets Try.results7 (RVs.cons (RV.tm rfl) (RVs.cons (RV.tm rfl) RVs.nil)) ?_
  refine ⟨.tuple #[.pointer none, vI 2], rfl, ?_⟩
  refine vm rfl rfl ?_
  refine RL.val (O.ext rfl rfl) rfl ?_
  refine RL.val (O.ext rfl rfl) rfl ?_
  refine va rfl rfl ?_
  refine va rfl rfl ?_
  refine nt hQ2 ?_
  clear hQ2 Q2
  refine KC.seqH fun Q25 hQ25 => ?_
  refine sr fun Q26 hQ26 => ?_
  refine vm rfl rfl ?_
  refine RL.val (O.neq rfl rfl) rfl ?_
  refine nt hQ26 ?_
  clear hQ26 Q26
  refine KC.condT rfl ?_
  refine sr fun Q27 hQ27 => ?_
  refine va rfl rfl ?_
  refine nt hQ27 ?_
  clear hQ27 Q27
  refine KC.ret ?_
  refine KQ.thr hQ25 ?_
  clear hQ25 Q25
  have hE := Option.some.inj hF
  clear hF
  subst hE
  replace hM := hM.pick [] rfl (by decide)
  refine KQ.rets Try.results6 (RVs.cons (RV.tm rfl) RVs.nil) ?_
  exact ⟨_, rfl, rfl, hM⟩
 rw [if_neg (ne_true hc)] at hF
 refine KC.skip ?_
 refine KQ.thn hQ17 ?_
 clear hQ17 Q17
 refine sr fun Q28 hQ28 => ?_
 refine vm rfl rfl ?_
 refine cut_someE hF fun hq31 hF => ?_
 refine RL.eff (E.mks (enc := e_table_Slot) (zr := (T_table_Slot.mk false (T_packet_Key.mk (T_addr_Addr.mk false (List.replicate 16 0)) (T_addr_Addr.mk false (List.replicate 16 0)) 0 0 0) 0)) hM sl94 ze102 rfl rfl (fun _ => rfl) rfl rfl rfl (of_decide_eq_true hq31)) rfl fun v w30 hv => ?_
 clear hM
 obtain ⟨A29, rfl, hM, hf⟩ := hv
 refine RL.val (O.bld (cs := [.slice A29 ((List.replicate (Int.toNat (Ox.shl .i64 1 y11)) ((T_table_Slot.mk false (T_packet_Key.mk (T_addr_Addr.mk false (List.replicate 16 0)) (T_addr_Addr.mk false (List.replicate 16 0)) 0 0 0) 0) : T_table_Slot))).length (Int.toNat (Ox.shl .i64 1 y11)), vI 0]) bt96 rfl (by kernel_rfl)) rfl ?_
 refine RL.eff (E.box (vs := [.slice A29 ((List.replicate (Int.toNat (Ox.shl .i64 1 y11)) ((T_table_Slot.mk false (T_packet_Key.mk (T_addr_Addr.mk false (List.replicate 16 0)) (T_addr_Addr.mk false (List.replicate 16 0)) 0 0 0) 0) : T_table_Slot))).length (Int.toNat (Ox.shl .i64 1 y11)), vI 0]) hM rfl rfl) rfl fun v w34 hv => ?_
 clear hM
 obtain ⟨g33, rfl, hM, hf⟩ := hv
 refine va rfl rfl ?_
 refine va rfl rfl ?_
 refine nt hQ28 ?_
 clear hQ28 Q28
 refine KC.ret ?_
 refine KQ.rets Try.results24 (RVs.cons (RV.tm rfl) (RVs.cons (RV.tm rfl) RVs.nil)) ?_
 refine ⟨.tuple #[.pointer (some ⟨g33, 0, none⟩), vI 0], rfl, ?_⟩
 refine vm rfl rfl ?_
 refine RL.val (O.ext rfl rfl) rfl ?_
 refine RL.val (O.ext rfl rfl) rfl ?_
 refine va rfl rfl ?_
 refine va rfl rfl ?_
 refine nt hQ10 ?_
 clear hQ10 Q10
 refine KC.seqH fun Q36 hQ36 => ?_
 refine sr fun Q37 hQ37 => ?_
 refine vm rfl rfl ?_
 refine RL.val (O.neq rfl rfl) rfl ?_
 refine nt hQ37 ?_
 clear hQ37 Q37
 refine KC.condF rfl ?_
 refine KC.skip ?_
 refine KQ.thn hQ36 ?_
 clear hQ36 Q36
 refine sr fun Q38 hQ38 => ?_
 refine vm rfl rfl ?_
 refine RL.val (O.loadN (cs := [vI 2, v64 5, v64 20, v64 3, v64 1000]) ag24 rfl (Cs.addsN [] ((hM.bx (i := 0) rfl)) rfl)) rfl ?_
 refine vm rfl rfl ?_
 refine RL.val (O.bld (cs := [v64 0, vI 2, v64 5, v64 20, v64 3, v64 1000, .pointer (some ⟨g33, 0, none⟩), .slice none 0 0]) bt74 rfl (by kernel_rfl)) rfl ?_
 refine RL.eff (E.box (vs := [v64 0, vI 2, v64 5, v64 20, v64 3, v64 1000, .pointer (some ⟨g33, 0, none⟩), .slice none 0 0]) hM rfl rfl) rfl fun v w40 hv => ?_
 clear hM
 obtain ⟨g39, rfl, hM, hf⟩ := hv
 refine va rfl rfl ?_
 refine va rfl rfl ?_
 refine nt hQ38 ?_
 clear hQ38 Q38
 refine KC.ret ?_
 refine KQ.rets Try.results7 (RVs.cons (RV.tm rfl) (RVs.cons (RV.tm rfl) RVs.nil)) ?_
 refine ⟨.tuple #[.pointer (some ⟨g39, 0, none⟩), vI 0], rfl, ?_⟩
 refine vm rfl rfl ?_
 refine RL.val (O.ext rfl rfl) rfl ?_
 refine RL.val (O.ext rfl rfl) rfl ?_
 refine va rfl rfl ?_
 refine va rfl rfl ?_
 refine nt hQ2 ?_
 clear hQ2 Q2
 replace hM := hM.pick [1, 2, 3] rfl (by decide)
 refine KC.seqH fun Q42 hQ42 => ?_
 refine sr fun Q43 hQ43 => ?_
 refine vm rfl rfl ?_
 refine RL.val (O.neq rfl rfl) rfl ?_
 refine nt hQ43 ?_
 clear hQ43 Q43
 refine KC.condF rfl ?_
 refine KC.skip ?_
 refine KQ.thn hQ42 ?_
 clear hQ42 Q42
 refine sr fun Q44 hQ44 => ?_
 refine obindE hF fun y45 hx46 hF => ?_
 refine RL.call Try.func23 bd23 rfl rfl (c_law24_udp1 _ 1 _ hx46) fun v w47 hv => ?_
 obtain ⟨rfl, hN48⟩ := hv
 replace hM := hM.call0 hN48
 refine RL.eff (E.alloc hM ze38) rfl fun v w50 hv => ?_
 clear hM
 obtain ⟨g49, rfl, hM, hf⟩ := hv
 refine RL.effs (E.stB (j := 3) (off := 0) (vs := [vB y45.f_Key.f_Src.f_Six, o8 y45.f_Key.f_Src.f_B 0, o8 y45.f_Key.f_Src.f_B 1, o8 y45.f_Key.f_Src.f_B 2, o8 y45.f_Key.f_Src.f_B 3, o8 y45.f_Key.f_Src.f_B 4, o8 y45.f_Key.f_Src.f_B 5, o8 y45.f_Key.f_Src.f_B 6, o8 y45.f_Key.f_Src.f_B 7, o8 y45.f_Key.f_Src.f_B 8, o8 y45.f_Key.f_Src.f_B 9, o8 y45.f_Key.f_Src.f_B 10, o8 y45.f_Key.f_Src.f_B 11, o8 y45.f_Key.f_Src.f_B 12, o8 y45.f_Key.f_Src.f_B 13, o8 y45.f_Key.f_Src.f_B 14, o8 y45.f_Key.f_Src.f_B 15, vB y45.f_Key.f_Dst.f_Six, o8 y45.f_Key.f_Dst.f_B 0, o8 y45.f_Key.f_Dst.f_B 1, o8 y45.f_Key.f_Dst.f_B 2, o8 y45.f_Key.f_Dst.f_B 3, o8 y45.f_Key.f_Dst.f_B 4, o8 y45.f_Key.f_Dst.f_B 5, o8 y45.f_Key.f_Dst.f_B 6, o8 y45.f_Key.f_Dst.f_B 7, o8 y45.f_Key.f_Dst.f_B 8, o8 y45.f_Key.f_Dst.f_B 9, o8 y45.f_Key.f_Dst.f_B 10, o8 y45.f_Key.f_Dst.f_B 11, o8 y45.f_Key.f_Dst.f_B 12, o8 y45.f_Key.f_Dst.f_B 13, o8 y45.f_Key.f_Dst.f_B 14, o8 y45.f_Key.f_Dst.f_B 15, v8 y45.f_Key.f_Proto, v16 y45.f_Key.f_SrcPort, v16 y45.f_Key.f_DstPort, vI y45.f_Length, v8 y45.f_Flags, vB y45.f_Fragment]) (cs' := [vB y45.f_Key.f_Src.f_Six, o8 y45.f_Key.f_Src.f_B 0, o8 y45.f_Key.f_Src.f_B 1, o8 y45.f_Key.f_Src.f_B 2, o8 y45.f_Key.f_Src.f_B 3, o8 y45.f_Key.f_Src.f_B 4, o8 y45.f_Key.f_Src.f_B 5, o8 y45.f_Key.f_Src.f_B 6, o8 y45.f_Key.f_Src.f_B 7, o8 y45.f_Key.f_Src.f_B 8, o8 y45.f_Key.f_Src.f_B 9, o8 y45.f_Key.f_Src.f_B 10, o8 y45.f_Key.f_Src.f_B 11, o8 y45.f_Key.f_Src.f_B 12, o8 y45.f_Key.f_Src.f_B 13, o8 y45.f_Key.f_Src.f_B 14, o8 y45.f_Key.f_Src.f_B 15, vB y45.f_Key.f_Dst.f_Six, o8 y45.f_Key.f_Dst.f_B 0, o8 y45.f_Key.f_Dst.f_B 1, o8 y45.f_Key.f_Dst.f_B 2, o8 y45.f_Key.f_Dst.f_B 3, o8 y45.f_Key.f_Dst.f_B 4, o8 y45.f_Key.f_Dst.f_B 5, o8 y45.f_Key.f_Dst.f_B 6, o8 y45.f_Key.f_Dst.f_B 7, o8 y45.f_Key.f_Dst.f_B 8, o8 y45.f_Key.f_Dst.f_B 9, o8 y45.f_Key.f_Dst.f_B 10, o8 y45.f_Key.f_Dst.f_B 11, o8 y45.f_Key.f_Dst.f_B 12, o8 y45.f_Key.f_Dst.f_B 13, o8 y45.f_Key.f_Dst.f_B 14, o8 y45.f_Key.f_Dst.f_B 15, v8 y45.f_Key.f_Proto, v16 y45.f_Key.f_SrcPort, v16 y45.f_Key.f_DstPort, vI y45.f_Length, v8 y45.f_Flags, vB y45.f_Fragment]) hM rfl sz38 rfl (adds_eq [] rfl) rfl rfl (One.all rfl) rfl rfl) fun w52 hM1 => ?_
 clear hM
 have hM := hM1
 clear hM1
 refine nt hQ44 ?_
 clear hQ44 Q44
 refine sr fun Q53 hQ53 => ?_
 refine vm rfl rfl ?_
 refine RL.val (O.loadN (cs := [vB y45.f_Key.f_Src.f_Six, o8 y45.f_Key.f_Src.f_B 0, o8 y45.f_Key.f_Src.f_B 1, o8 y45.f_Key.f_Src.f_B 2, o8 y45.f_Key.f_Src.f_B 3, o8 y45.f_Key.f_Src.f_B 4, o8 y45.f_Key.f_Src.f_B 5, o8 y45.f_Key.f_Src.f_B 6, o8 y45.f_Key.f_Src.f_B 7, o8 y45.f_Key.f_Src.f_B 8, o8 y45.f_Key.f_Src.f_B 9, o8 y45.f_Key.f_Src.f_B 10, o8 y45.f_Key.f_Src.f_B 11, o8 y45.f_Key.f_Src.f_B 12, o8 y45.f_Key.f_Src.f_B 13, o8 y45.f_Key.f_Src.f_B 14, o8 y45.f_Key.f_Src.f_B 15, vB y45.f_Key.f_Dst.f_Six, o8 y45.f_Key.f_Dst.f_B 0, o8 y45.f_Key.f_Dst.f_B 1, o8 y45.f_Key.f_Dst.f_B 2, o8 y45.f_Key.f_Dst.f_B 3, o8 y45.f_Key.f_Dst.f_B 4, o8 y45.f_Key.f_Dst.f_B 5, o8 y45.f_Key.f_Dst.f_B 6, o8 y45.f_Key.f_Dst.f_B 7, o8 y45.f_Key.f_Dst.f_B 8, o8 y45.f_Key.f_Dst.f_B 9, o8 y45.f_Key.f_Dst.f_B 10, o8 y45.f_Key.f_Dst.f_B 11, o8 y45.f_Key.f_Dst.f_B 12, o8 y45.f_Key.f_Dst.f_B 13, o8 y45.f_Key.f_Dst.f_B 14, o8 y45.f_Key.f_Dst.f_B 15, v8 y45.f_Key.f_Proto, v16 y45.f_Key.f_SrcPort, v16 y45.f_Key.f_DstPort, vI y45.f_Length, v8 y45.f_Flags, vB y45.f_Fragment]) ag38 rfl (Cs.addsN [] ((hM.bx (i := 3) rfl)) rfl)) rfl ?_
 replace hM := hM.nilrow 46 44
 refine obindE hF fun y55 hx56 hF => ?_
 refine RL.call Try.func8 bd8 rfl rfl (c_cache_Cache_Account _ _ _ (T_cache_Cache.mk 0 (T_cache_Bounds.mk 2 5 20 3 1000) (T_table_Table.mk (List.replicate (Int.toNat (Ox.shl .i64 1 y11)) ((T_table_Slot.mk false (T_packet_Key.mk (T_addr_Addr.mk false (List.replicate 16 0)) (T_addr_Addr.mk false (List.replicate 16 0)) 0 0 0) 0) : T_table_Slot)) 0) ([] : List T_flow_Record)) _ _ _ _ _ (hM.lent [2, 1, 0, 4] rfl (by decide)) y45 0 1 _ hx56) fun v w57 hv => ?_
 obtain ⟨g59, A61, c62, A64, c65, A67, c68, rfl, hN58⟩ := hv
 replace hM := hM.callL [2, 1, 0, 4] [3] rfl rfl (by decide) rfl hN58
 refine vm rfl rfl ?_
 refine RL.val (O.ext rfl rfl) rfl ?_
 refine RL.val (O.ext rfl rfl) rfl ?_
 refine va rfl rfl ?_
 refine va rfl rfl ?_
 refine nt hQ53 ?_
 clear hQ53 Q53
 refine sr fun Q70 hQ70 => ?_
 refine vm rfl rfl ?_
 refine RL.val (O.loadN (cs := [vB y45.f_Key.f_Src.f_Six, o8 y45.f_Key.f_Src.f_B 0, o8 y45.f_Key.f_Src.f_B 1, o8 y45.f_Key.f_Src.f_B 2, o8 y45.f_Key.f_Src.f_B 3, o8 y45.f_Key.f_Src.f_B 4, o8 y45.f_Key.f_Src.f_B 5, o8 y45.f_Key.f_Src.f_B 6, o8 y45.f_Key.f_Src.f_B 7, o8 y45.f_Key.f_Src.f_B 8, o8 y45.f_Key.f_Src.f_B 9, o8 y45.f_Key.f_Src.f_B 10, o8 y45.f_Key.f_Src.f_B 11, o8 y45.f_Key.f_Src.f_B 12, o8 y45.f_Key.f_Src.f_B 13, o8 y45.f_Key.f_Src.f_B 14, o8 y45.f_Key.f_Src.f_B 15, vB y45.f_Key.f_Dst.f_Six, o8 y45.f_Key.f_Dst.f_B 0, o8 y45.f_Key.f_Dst.f_B 1, o8 y45.f_Key.f_Dst.f_B 2, o8 y45.f_Key.f_Dst.f_B 3, o8 y45.f_Key.f_Dst.f_B 4, o8 y45.f_Key.f_Dst.f_B 5, o8 y45.f_Key.f_Dst.f_B 6, o8 y45.f_Key.f_Dst.f_B 7, o8 y45.f_Key.f_Dst.f_B 8, o8 y45.f_Key.f_Dst.f_B 9, o8 y45.f_Key.f_Dst.f_B 10, o8 y45.f_Key.f_Dst.f_B 11, o8 y45.f_Key.f_Dst.f_B 12, o8 y45.f_Key.f_Dst.f_B 13, o8 y45.f_Key.f_Dst.f_B 14, o8 y45.f_Key.f_Dst.f_B 15, v8 y45.f_Key.f_Proto, v16 y45.f_Key.f_SrcPort, v16 y45.f_Key.f_DstPort, vI y45.f_Length, v8 y45.f_Flags, vB y45.f_Fragment]) ag38 rfl (Cs.addsN [] ((hM.bx (i := 0) rfl)) rfl)) rfl ?_
 refine obindE hF fun y71 hx72 hF => ?_
 refine RL.call Try.func8 bd8 rfl rfl (c_cache_Cache_Account _ _ _ y55.2.2 _ _ _ _ _ (hM.lent [1, 2, 3, 4] rfl (by decide)) y45 0 3 _ hx72) fun v w73 hv => ?_
 obtain ⟨g75, A77, c78, A80, c81, A83, c84, rfl, hN74⟩ := hv
 replace hM := hM.callL [1, 2, 3, 4] [0, 5] rfl rfl (by decide) rfl hN74
 refine vm rfl rfl ?_
 refine RL.val (O.ext rfl rfl) rfl ?_
 refine RL.val (O.ext rfl rfl) rfl ?_
 refine va rfl rfl ?_
 refine va rfl rfl ?_
 refine nt hQ70 ?_
 clear hQ70 Q70
 refine sr fun Q86 hQ86 => ?_
 refine vm rfl rfl ?_
 refine obindE hF fun y87 hx88 hF => ?_
 refine RL.call Try.func20 bd20 rfl rfl (c_cache_Cache_Next _ _ _ y71.2.2 _ _ _ _ _ (hM.lent [2, 3, 4, 5] rfl (by decide)) _ hx88) fun v w89 hv => ?_
 obtain ⟨g91, A93, c94, A96, c97, rfl, hN90⟩ := hv
 replace hM := hM.callL [2, 3, 4, 5] [0, 1, 6] rfl rfl (by decide) rfl hN90
 refine vm rfl rfl ?_
 refine RL.val (O.ext rfl rfl) rfl ?_
 refine RL.val (O.ext rfl rfl) rfl ?_
 refine va rfl rfl ?_
 refine va rfl rfl ?_
 refine nt hQ86 ?_
 clear hQ86 Q86
 refine sr fun Q99 hQ99 => ?_
 refine vm rfl rfl ?_
 refine obindE hF fun y100 hx101 hF => ?_
 refine RL.call Try.func9 bd9 rfl rfl (c_cache_Cache_Advance _ _ _ y87.2.2 _ _ _ _ _ (hM.lent [3, 4, 5, 6] rfl (by decide)) 8 _ hx101) fun v w102 hv => ?_
 obtain ⟨g104, A106, c107, A109, c110, A112, c113, rfl, hN103⟩ := hv
 replace hM := hM.callL [3, 4, 5, 6] [0, 1, 2] rfl rfl (by decide) rfl hN103
 refine va rfl rfl ?_
 refine nt hQ99 ?_
 clear hQ99 Q99
 refine KC.cut (fun a w127 => ∃ (one126 : Bool), Kn 151 [(1, .pointer (some ⟨g39, 0, none⟩)), (3, .pointer (some ⟨g49, 0, none⟩)), (11, vB one126)] a ∧ Mem w [] w127 [.row A106 c107 102 39 (y100.2.f_places.f_slots).length ((y100.2.f_places.f_slots).flatMap e_table_Slot), .box g104 96 [.slice A106 (y100.2.f_places.f_slots).length c107, vI y100.2.f_places.f_many], .row A109 c110 46 44 (y100.2.f_flows).length ((y100.2.f_flows).flatMap e_flow_Record), .box g39 74 [v64 y100.2.f_tick, vI y100.2.f_bounds.f_Flows, v64 y100.2.f_bounds.f_Idle, v64 y100.2.f_bounds.f_Active, v64 y100.2.f_bounds.f_Packets, v64 y100.2.f_bounds.f_Bytes, .pointer (some ⟨g104, 0, none⟩), .slice A109 (y100.2.f_flows).length c110], .box g49 38 [vB y45.f_Key.f_Src.f_Six, o8 y45.f_Key.f_Src.f_B 0, o8 y45.f_Key.f_Src.f_B 1, o8 y45.f_Key.f_Src.f_B 2, o8 y45.f_Key.f_Src.f_B 3, o8 y45.f_Key.f_Src.f_B 4, o8 y45.f_Key.f_Src.f_B 5, o8 y45.f_Key.f_Src.f_B 6, o8 y45.f_Key.f_Src.f_B 7, o8 y45.f_Key.f_Src.f_B 8, o8 y45.f_Key.f_Src.f_B 9, o8 y45.f_Key.f_Src.f_B 10, o8 y45.f_Key.f_Src.f_B 11, o8 y45.f_Key.f_Src.f_B 12, o8 y45.f_Key.f_Src.f_B 13, o8 y45.f_Key.f_Src.f_B 14, o8 y45.f_Key.f_Src.f_B 15, vB y45.f_Key.f_Dst.f_Six, o8 y45.f_Key.f_Dst.f_B 0, o8 y45.f_Key.f_Dst.f_B 1, o8 y45.f_Key.f_Dst.f_B 2, o8 y45.f_Key.f_Dst.f_B 3, o8 y45.f_Key.f_Dst.f_B 4, o8 y45.f_Key.f_Dst.f_B 5, o8 y45.f_Key.f_Dst.f_B 6, o8 y45.f_Key.f_Dst.f_B 7, o8 y45.f_Key.f_Dst.f_B 8, o8 y45.f_Key.f_Dst.f_B 9, o8 y45.f_Key.f_Dst.f_B 10, o8 y45.f_Key.f_Dst.f_B 11, o8 y45.f_Key.f_Dst.f_B 12, o8 y45.f_Key.f_Dst.f_B 13, o8 y45.f_Key.f_Dst.f_B 14, o8 y45.f_Key.f_Dst.f_B 15, v8 y45.f_Key.f_Proto, v16 y45.f_Key.f_SrcPort, v16 y45.f_Key.f_DstPort, vI y45.f_Length, v8 y45.f_Flags, vB y45.f_Fragment]] ∧ F_law24_works_j3 y45 y100 one126 = some r) ?_ ?_
 ·refine KC.region ?_
  refine vm rfl rfl ?_
  refine RL.val (O.len sl41 rfl) rfl ?_
  refine RL.val (O.eql rfl rfl) rfl ?_
  refine vm rfl rfl ?_
  refine RL.bcase (t := 49) rfl (fun hc => ?_) (fun hc => ?_)
  ·rw [if_pos hc] at hF
   refine RL.gval rfl rfl (O.move rfl) rfl ?_
   refine RL.gval rfl rfl (O.len sl41 rfl) rfl ?_
   refine RL.gval rfl rfl (O.eql rfl rfl) rfl ?_
   refine RL.val (O.pickt rfl rfl) rfl ?_
   refine vm rfl rfl ?_
   refine RL.bcase (t := 54) rfl (fun hc => ?_) (fun hc => ?_)
   ·rw [if_pos hc] at hF
    refine RL.gval rfl rfl (O.move rfl) rfl ?_
    refine RL.gval rfl rfl (O.eql rfl rfl) rfl ?_
    refine RL.val (O.pickt rfl rfl) rfl ?_
    refine vm rfl rfl ?_
    refine RL.bcase (t := 58) rfl (fun hc => ?_) (fun hc => ?_)
    ·rw [if_pos hc] at hF
     refine RL.gval rfl rfl (O.move rfl) rfl ?_
     refine RL.val (O.pickt rfl rfl) rfl ?_
     refine vm rfl rfl ?_
     refine RL.bcase (t := 61) rfl (fun hc => ?_) (fun hc => ?_)
     ·rw [if_pos hc] at hF
      refine RL.gval rfl rfl (O.move rfl) rfl ?_
      refine RL.gval rfl rfl (O.len sl41 rfl) rfl ?_
      refine RL.gval rfl rfl (O.eql rfl rfl) rfl ?_
      refine RL.val (O.pickt rfl rfl) rfl ?_
      refine vm rfl rfl ?_
      refine RL.bcase (t := 66) rfl (fun hc => ?_) (fun hc => ?_)
      ·rw [if_pos hc] at hF
       refine RL.gval rfl rfl (O.move rfl) rfl ?_
       refine obindE hF fun xv117 hx116 hF => ?_
       have hA115 := Rd.atN (f := e_flow_Record) (s := 44) (fun _ => rfl) (by decide) (hM.rd (i := 7) rfl) hx116
       refine RL.gval rfl rfl (O.idxA sl41 (hA115) rfl rfl) rfl ?_
       refine RL.gval rfl rfl (O.fldA fl46_1 (by decide) rfl) rfl ?_
       refine RL.gval rfl rfl (O.load sc22 rfl (Cs.adds [37] (hA115).cells rfl)) rfl ?_
       refine RL.gval rfl rfl (O.eql rfl rfl) rfl ?_
       refine RL.val (O.pickt rfl rfl) rfl ?_
       refine vm rfl rfl ?_
       refine RL.bcase (t := 73) rfl (fun hc => ?_) (fun hc => ?_)
       ·rw [if_pos hc] at hF
        refine RL.gval rfl rfl (O.move rfl) rfl ?_
        refine obindE hF fun xv120 hx119 hF => ?_
        have hA118 := Rd.atN (f := e_flow_Record) (s := 44) (fun _ => rfl) (by decide) (hM.rd (i := 7) rfl) hx119
        refine RL.gval rfl rfl (O.idxA sl41 (hA118) rfl rfl) rfl ?_
        refine RL.gval rfl rfl (O.fldA fl46_6 (by decide) rfl) rfl ?_
        refine RL.gval rfl rfl (O.load sc5 rfl (Cs.adds [42] (hA118).cells rfl)) rfl ?_
        refine RL.gval rfl rfl (O.eql rfl rfl) rfl ?_
        refine RL.val (O.pickt rfl rfl) rfl ?_
        refine va rfl rfl ?_
        refine RL.nil ?_
        refine KQ.then_k ?_
        replace hM := hM.pick [5, 4, 6, 3, 0] rfl (by decide)
        exact fun a ha => ⟨(xv120.f_Reason == 1), ha.less (less_cons rfl (less_cons rfl (less_cons rfl less_nil))), hM, hF⟩
       rw [if_neg (ne_true hc)] at hF
       refine RL.brun1 6 79 false (by kernel_rfl) ?_
       refine va rfl rfl ?_
       refine RL.nil ?_
       refine KQ.then_k ?_
       replace hM := hM.pick [5, 4, 6, 3, 0] rfl (by decide)
       exact fun a ha => ⟨false, ha.less (less_cons rfl (less_cons rfl (less_cons rfl less_nil))), hM, hF⟩
      rw [if_neg (ne_true hc)] at hF
      refine RL.brun1 13 79 false (by kernel_rfl) ?_
      refine va rfl rfl ?_
      refine RL.nil ?_
      refine KQ.then_k ?_
      replace hM := hM.pick [5, 4, 6, 3, 0] rfl (by decide)
      exact fun a ha => ⟨false, ha.less (less_cons rfl (less_cons rfl (less_cons rfl less_nil))), hM, hF⟩
     rw [if_neg (ne_true hc)] at hF
     refine RL.brun1 18 79 false (by kernel_rfl) ?_
     refine va rfl rfl ?_
     refine RL.nil ?_
     refine KQ.then_k ?_
     replace hM := hM.pick [5, 4, 6, 3, 0] rfl (by decide)
     exact fun a ha => ⟨false, ha.less (less_cons rfl (less_cons rfl (less_cons rfl less_nil))), hM, hF⟩
    rw [if_neg (ne_true hc)] at hF
    refine RL.brun1 21 79 false (by kernel_rfl) ?_
    refine va rfl rfl ?_
    refine RL.nil ?_
    refine KQ.then_k ?_
    replace hM := hM.pick [5, 4, 6, 3, 0] rfl (by decide)
    exact fun a ha => ⟨false, ha.less (less_cons rfl (less_cons rfl (less_cons rfl less_nil))), hM, hF⟩
   rw [if_neg (ne_true hc)] at hF
   refine RL.brun1 25 79 false (by kernel_rfl) ?_
   refine va rfl rfl ?_
   refine RL.nil ?_
   refine KQ.then_k ?_
   replace hM := hM.pick [5, 4, 6, 3, 0] rfl (by decide)
   exact fun a ha => ⟨false, ha.less (less_cons rfl (less_cons rfl (less_cons rfl less_nil))), hM, hF⟩
  rw [if_neg (ne_true hc)] at hF
  refine RL.brun1 30 79 false (by kernel_rfl) ?_
  refine va rfl rfl ?_
  refine RL.nil ?_
  refine KQ.then_k ?_
  replace hM := hM.pick [5, 4, 6, 3, 0] rfl (by decide)
  exact fun a ha => ⟨false, ha.less (less_cons rfl (less_cons rfl (less_cons rfl less_nil))), hM, hF⟩
 rintro a w127 ⟨one126, ha, hM, hF⟩
 refine KC.app ha ?_
 clear ha
 unfold F_law24_works_j3 at hF
 refine sr fun Q128 hQ128 => ?_
 refine vm rfl rfl ?_
 refine RL.val (O.loadN (cs := [vB y45.f_Key.f_Src.f_Six, o8 y45.f_Key.f_Src.f_B 0, o8 y45.f_Key.f_Src.f_B 1, o8 y45.f_Key.f_Src.f_B 2, o8 y45.f_Key.f_Src.f_B 3, o8 y45.f_Key.f_Src.f_B 4, o8 y45.f_Key.f_Src.f_B 5, o8 y45.f_Key.f_Src.f_B 6, o8 y45.f_Key.f_Src.f_B 7, o8 y45.f_Key.f_Src.f_B 8, o8 y45.f_Key.f_Src.f_B 9, o8 y45.f_Key.f_Src.f_B 10, o8 y45.f_Key.f_Src.f_B 11, o8 y45.f_Key.f_Src.f_B 12, o8 y45.f_Key.f_Src.f_B 13, o8 y45.f_Key.f_Src.f_B 14, o8 y45.f_Key.f_Src.f_B 15, vB y45.f_Key.f_Dst.f_Six, o8 y45.f_Key.f_Dst.f_B 0, o8 y45.f_Key.f_Dst.f_B 1, o8 y45.f_Key.f_Dst.f_B 2, o8 y45.f_Key.f_Dst.f_B 3, o8 y45.f_Key.f_Dst.f_B 4, o8 y45.f_Key.f_Dst.f_B 5, o8 y45.f_Key.f_Dst.f_B 6, o8 y45.f_Key.f_Dst.f_B 7, o8 y45.f_Key.f_Dst.f_B 8, o8 y45.f_Key.f_Dst.f_B 9, o8 y45.f_Key.f_Dst.f_B 10, o8 y45.f_Key.f_Dst.f_B 11, o8 y45.f_Key.f_Dst.f_B 12, o8 y45.f_Key.f_Dst.f_B 13, o8 y45.f_Key.f_Dst.f_B 14, o8 y45.f_Key.f_Dst.f_B 15, v8 y45.f_Key.f_Proto, v16 y45.f_Key.f_SrcPort, v16 y45.f_Key.f_DstPort, vI y45.f_Length, v8 y45.f_Flags, vB y45.f_Fragment]) ag38 rfl (Cs.addsN [] ((hM.bx (i := 4) rfl)) rfl)) rfl ?_
 refine obindE hF fun y129 hx130 hF => ?_
 refine RL.call Try.func8 bd8 rfl rfl (c_cache_Cache_Account _ _ _ y100.2 _ _ _ _ _ (hM.lent [3, 1, 0, 2] rfl (by decide)) y45 0 9 _ hx130) fun v w131 hv => ?_
 obtain ⟨g133, A135, c136, A138, c139, A141, c142, rfl, hN132⟩ := hv
 replace hM := hM.callL [3, 1, 0, 2] [4] rfl rfl (by decide) rfl hN132
 refine nt hQ128 ?_
 clear hQ128 Q128
 replace hM := hM.pick [0, 1, 2, 3, 4] rfl (by decide)
 refine sr fun Q144 hQ144 => ?_
 refine vm rfl rfl ?_
 refine obindE hF fun y145 hx146 hF => ?_
 refine RL.call Try.func23 bd23 rfl rfl (c_law24_udp1 _ 2 _ hx146) fun v w147 hv => ?_
 obtain ⟨rfl, hN148⟩ := hv
 replace hM := hM.call0 hN148
 refine obindE hF fun y149 hx150 hF => ?_
 refine RL.call Try.func8 bd8 rfl rfl (c_cache_Cache_Account _ _ _ y129.2.2 _ _ _ _ _ (hM.lent [1, 2, 3, 4] rfl (by decide)) y145 0 10 _ hx150) fun v w151 hv => ?_
 obtain ⟨g153, A155, c156, A158, c159, A161, c162, rfl, hN152⟩ := hv
 replace hM := hM.callL [1, 2, 3, 4] [0] rfl rfl (by decide) rfl hN152
 refine nt hQ144 ?_
 clear hQ144 Q144
 replace hM := hM.pick [0, 1, 2, 3, 4] rfl (by decide)
 refine sr fun Q164 hQ164 => ?_
 refine vm rfl rfl ?_
 refine obindE hF fun y165 hx166 hF => ?_
 refine RL.call Try.func23 bd23 rfl rfl (c_law24_udp1 _ 3 _ hx166) fun v w167 hv => ?_
 obtain ⟨rfl, hN168⟩ := hv
 replace hM := hM.call0 hN168
 refine obindE hF fun y169 hx170 hF => ?_
 refine RL.call Try.func8 bd8 rfl rfl (c_cache_Cache_Account _ _ _ y149.2.2 _ _ _ _ _ (hM.lent [1, 2, 3, 4] rfl (by decide)) y165 0 11 _ hx170) fun v w171 hv => ?_
 obtain ⟨g173, A175, c176, A178, c179, A181, c182, rfl, hN172⟩ := hv
 replace hM := hM.callL [1, 2, 3, 4] [0] rfl rfl (by decide) rfl hN172
 refine vm rfl rfl ?_
 refine RL.val (O.ext rfl rfl) rfl ?_
 refine RL.val (O.ext rfl rfl) rfl ?_
 refine va rfl rfl ?_
 refine va rfl rfl ?_
 refine nt hQ164 ?_
 clear hQ164 Q164
 refine KC.cut (fun a w195 => ∃ (two194 : Bool), Kn 151 [(1, .pointer (some ⟨g39, 0, none⟩)), (11, vB one126), (14, vB two194)] a ∧ Mem w [] w195 [.row A175 c176 102 39 (y169.2.2.f_places.f_slots).length ((y169.2.2.f_places.f_slots).flatMap e_table_Slot), .box g173 96 [.slice A175 (y169.2.2.f_places.f_slots).length c176, vI y169.2.2.f_places.f_many], .row A178 c179 46 44 (y169.2.2.f_flows).length ((y169.2.2.f_flows).flatMap e_flow_Record), .box g39 74 [v64 y169.2.2.f_tick, vI y169.2.2.f_bounds.f_Flows, v64 y169.2.2.f_bounds.f_Idle, v64 y169.2.2.f_bounds.f_Active, v64 y169.2.2.f_bounds.f_Packets, v64 y169.2.2.f_bounds.f_Bytes, .pointer (some ⟨g173, 0, none⟩), .slice A178 (y169.2.2.f_flows).length c179]] ∧ F_law24_works_j4 one126 y169 two194 = some r) ?_ ?_
 ·replace hM := hM.drewN 1
  refine KC.draw [] [] [] [0, 1, 2, 3, 4, 6, 8, 10, 11, 12, 13, 15, 17, 18, 19] (.ofList [0, 1, 2, 3, 4, 5, 6, 7, 8, 9, 10, 11, 12, 13, 14, 15, 16, 17, 18, 19]) moP (by kernel_rfl) ?_
  refine RD.p rfl rfl rfl rfl (fun w' => O.move rfl) ?_
  refine RD.p rfl rfl rfl rfl (fun w' => O.len sl41 rfl) ?_
  refine RD.p rfl rfl rfl rfl (fun w' => O.eql rfl rfl) ?_
  refine RD.p rfl rfl rfl rfl (fun w' => O.move rfl) ?_
  refine RD.bcase (t := 95) rfl (fun hc => ?_) (fun hc => ?_)
  ·rw [if_pos hc] at hF
   refine RD.gp rfl rfl rfl rfl rfl rfl (fun w' => O.move rfl) ?_
   refine obindE hF fun xv186 hx185 hF => ?_
   have hA184 := Rd.atN (f := e_flow_Record) (s := 44) (fun _ => rfl) (by decide) (hM.rd (i := 5) rfl) hx185
   refine RD.gq rfl rfl rfl rfl rfl rfl (fun w' hf => O.idxA sl41 (hA184.fut hf) rfl rfl) ?_
   refine RD.gp rfl rfl rfl rfl rfl rfl (fun w' => O.fldA fl46_0 (by decide) rfl) ?_
   refine RD.gq rfl rfl rfl rfl rfl rfl (fun w' hf => O.loadN (cs := [vB xv186.f_Key.f_Src.f_Six, o8 xv186.f_Key.f_Src.f_B 0, o8 xv186.f_Key.f_Src.f_B 1, o8 xv186.f_Key.f_Src.f_B 2, o8 xv186.f_Key.f_Src.f_B 3, o8 xv186.f_Key.f_Src.f_B 4, o8 xv186.f_Key.f_Src.f_B 5, o8 xv186.f_Key.f_Src.f_B 6, o8 xv186.f_Key.f_Src.f_B 7, o8 xv186.f_Key.f_Src.f_B 8, o8 xv186.f_Key.f_Src.f_B 9, o8 xv186.f_Key.f_Src.f_B 10, o8 xv186.f_Key.f_Src.f_B 11, o8 xv186.f_Key.f_Src.f_B 12, o8 xv186.f_Key.f_Src.f_B 13, o8 xv186.f_Key.f_Src.f_B 14, o8 xv186.f_Key.f_Src.f_B 15, vB xv186.f_Key.f_Dst.f_Six, o8 xv186.f_Key.f_Dst.f_B 0, o8 xv186.f_Key.f_Dst.f_B 1, o8 xv186.f_Key.f_Dst.f_B 2, o8 xv186.f_Key.f_Dst.f_B 3, o8 xv186.f_Key.f_Dst.f_B 4, o8 xv186.f_Key.f_Dst.f_B 5, o8 xv186.f_Key.f_Dst.f_B 6, o8 xv186.f_Key.f_Dst.f_B 7, o8 xv186.f_Key.f_Dst.f_B 8, o8 xv186.f_Key.f_Dst.f_B 9, o8 xv186.f_Key.f_Dst.f_B 10, o8 xv186.f_Key.f_Dst.f_B 11, o8 xv186.f_Key.f_Dst.f_B 12, o8 xv186.f_Key.f_Dst.f_B 13, o8 xv186.f_Key.f_Dst.f_B 14, o8 xv186.f_Key.f_Dst.f_B 15, v8 xv186.f_Key.f_Proto, v16 xv186.f_Key.f_SrcPort, v16 xv186.f_Key.f_DstPort]) ag36 rfl (Cs.addsN [0] (hA184.fut hf).cells rfl)) ?_
   refine RD.gp rfl rfl rfl rfl rfl rfl (fun w' => O.fldA fl38_0 (by decide) rfl) ?_
   refine RD.gq rfl rfl rfl rfl rfl rfl (fun w' hf => O.loadN (cs := [vB y45.f_Key.f_Src.f_Six, o8 y45.f_Key.f_Src.f_B 0, o8 y45.f_Key.f_Src.f_B 1, o8 y45.f_Key.f_Src.f_B 2, o8 y45.f_Key.f_Src.f_B 3, o8 y45.f_Key.f_Src.f_B 4, o8 y45.f_Key.f_Src.f_B 5, o8 y45.f_Key.f_Src.f_B 6, o8 y45.f_Key.f_Src.f_B 7, o8 y45.f_Key.f_Src.f_B 8, o8 y45.f_Key.f_Src.f_B 9, o8 y45.f_Key.f_Src.f_B 10, o8 y45.f_Key.f_Src.f_B 11, o8 y45.f_Key.f_Src.f_B 12, o8 y45.f_Key.f_Src.f_B 13, o8 y45.f_Key.f_Src.f_B 14, o8 y45.f_Key.f_Src.f_B 15, vB y45.f_Key.f_Dst.f_Six, o8 y45.f_Key.f_Dst.f_B 0, o8 y45.f_Key.f_Dst.f_B 1, o8 y45.f_Key.f_Dst.f_B 2, o8 y45.f_Key.f_Dst.f_B 3, o8 y45.f_Key.f_Dst.f_B 4, o8 y45.f_Key.f_Dst.f_B 5, o8 y45.f_Key.f_Dst.f_B 6, o8 y45.f_Key.f_Dst.f_B 7, o8 y45.f_Key.f_Dst.f_B 8, o8 y45.f_Key.f_Dst.f_B 9, o8 y45.f_Key.f_Dst.f_B 10, o8 y45.f_Key.f_Dst.f_B 11, o8 y45.f_Key.f_Dst.f_B 12, o8 y45.f_Key.f_Dst.f_B 13, o8 y45.f_Key.f_Dst.f_B 14, o8 y45.f_Key.f_Dst.f_B 15, v8 y45.f_Key.f_Proto, v16 y45.f_Key.f_SrcPort, v16 y45.f_Key.f_DstPort]) ag36 rfl (Cs.addsN [0] ((hM.bx (i := 0) rfl).fut hf) rfl)) ?_
   refine RD.gp rfl rfl rfl rfl rfl rfl (fun w' => O.steq (cs := [vB xv186.f_Key.f_Src.f_Six, o8 xv186.f_Key.f_Src.f_B 0, o8 xv186.f_Key.f_Src.f_B 1, o8 xv186.f_Key.f_Src.f_B 2, o8 xv186.f_Key.f_Src.f_B 3, o8 xv186.f_Key.f_Src.f_B 4, o8 xv186.f_Key.f_Src.f_B 5, o8 xv186.f_Key.f_Src.f_B 6, o8 xv186.f_Key.f_Src.f_B 7, o8 xv186.f_Key.f_Src.f_B 8, o8 xv186.f_Key.f_Src.f_B 9, o8 xv186.f_Key.f_Src.f_B 10, o8 xv186.f_Key.f_Src.f_B 11, o8 xv186.f_Key.f_Src.f_B 12, o8 xv186.f_Key.f_Src.f_B 13, o8 xv186.f_Key.f_Src.f_B 14, o8 xv186.f_Key.f_Src.f_B 15, vB xv186.f_Key.f_Dst.f_Six, o8 xv186.f_Key.f_Dst.f_B 0, o8 xv186.f_Key.f_Dst.f_B 1, o8 xv186.f_Key.f_Dst.f_B 2, o8 xv186.f_Key.f_Dst.f_B 3, o8 xv186.f_Key.f_Dst.f_B 4, o8 xv186.f_Key.f_Dst.f_B 5, o8 xv186.f_Key.f_Dst.f_B 6, o8 xv186.f_Key.f_Dst.f_B 7, o8 xv186.f_Key.f_Dst.f_B 8, o8 xv186.f_Key.f_Dst.f_B 9, o8 xv186.f_Key.f_Dst.f_B 10, o8 xv186.f_Key.f_Dst.f_B 11, o8 xv186.f_Key.f_Dst.f_B 12, o8 xv186.f_Key.f_Dst.f_B 13, o8 xv186.f_Key.f_Dst.f_B 14, o8 xv186.f_Key.f_Dst.f_B 15, v8 xv186.f_Key.f_Proto, v16 xv186.f_Key.f_SrcPort, v16 xv186.f_Key.f_DstPort]) (cs' := [vB y45.f_Key.f_Src.f_Six, o8 y45.f_Key.f_Src.f_B 0, o8 y45.f_Key.f_Src.f_B 1, o8 y45.f_Key.f_Src.f_B 2, o8 y45.f_Key.f_Src.f_B 3, o8 y45.f_Key.f_Src.f_B 4, o8 y45.f_Key.f_Src.f_B 5, o8 y45.f_Key.f_Src.f_B 6, o8 y45.f_Key.f_Src.f_B 7, o8 y45.f_Key.f_Src.f_B 8, o8 y45.f_Key.f_Src.f_B 9, o8 y45.f_Key.f_Src.f_B 10, o8 y45.f_Key.f_Src.f_B 11, o8 y45.f_Key.f_Src.f_B 12, o8 y45.f_Key.f_Src.f_B 13, o8 y45.f_Key.f_Src.f_B 14, o8 y45.f_Key.f_Src.f_B 15, vB y45.f_Key.f_Dst.f_Six, o8 y45.f_Key.f_Dst.f_B 0, o8 y45.f_Key.f_Dst.f_B 1, o8 y45.f_Key.f_Dst.f_B 2, o8 y45.f_Key.f_Dst.f_B 3, o8 y45.f_Key.f_Dst.f_B 4, o8 y45.f_Key.f_Dst.f_B 5, o8 y45.f_Key.f_Dst.f_B 6, o8 y45.f_Key.f_Dst.f_B 7, o8 y45.f_Key.f_Dst.f_B 8, o8 y45.f_Key.f_Dst.f_B 9, o8 y45.f_Key.f_Dst.f_B 10, o8 y45.f_Key.f_Dst.f_B 11, o8 y45.f_Key.f_Dst.f_B 12, o8 y45.f_Key.f_Dst.f_B 13, o8 y45.f_Key.f_Dst.f_B 14, o8 y45.f_Key.f_Dst.f_B 15, v8 y45.f_Key.f_Proto, v16 y45.f_Key.f_SrcPort, v16 y45.f_Key.f_DstPort]) (by kernel_rfl) rfl rfl (Q36t xv186.f_Key y45.f_Key _ rfl rfl)) ?_
   refine RD.p rfl rfl rfl rfl (fun w' => O.pickt rfl rfl) ?_
   refine RD.p rfl rfl rfl rfl (fun w' => O.move rfl) ?_
   refine RD.bcase (t := 104) rfl (fun hc => ?_) (fun hc => ?_)
   ·rw [if_pos hc] at hF
    refine RD.gp rfl rfl rfl rfl rfl rfl (fun w' => O.move rfl) ?_
    refine obindE hF fun xv189 hx188 hF => ?_
    have hA187 := Rd.atN (f := e_flow_Record) (s := 44) (fun _ => rfl) (by decide) (hM.rd (i := 5) rfl) hx188
    refine RD.gq rfl rfl rfl rfl rfl rfl (fun w' hf => O.idxA sl41 (hA187.fut hf) rfl rfl) ?_
    refine RD.gp rfl rfl rfl rfl rfl rfl (fun w' => O.fldA fl46_6 (by decide) rfl) ?_
    refine RD.gq rfl rfl rfl rfl rfl rfl (fun w' hf => O.load sc5 rfl (Cs.adds [42] (hA187.fut hf).cells rfl)) ?_
    refine RD.gp rfl rfl rfl rfl rfl rfl (fun w' => O.eql rfl rfl) ?_
    refine RD.p rfl rfl rfl rfl (fun w' => O.pickt rfl rfl) ?_
    refine RD.p rfl rfl rfl rfl (fun w' => O.assign rfl) ?_
    refine RD.nil ?_
    refine KQ.then_k ?_
    replace hM := hM.pick [3, 2, 4, 1] rfl (by decide)
    exact fun a ha => ⟨(xv189.f_Reason == 5), ha.less (less_cons rfl (less_cons rfl (less_cons rfl less_nil))), hM, hF⟩
   rw [if_neg (ne_true hc)] at hF
   refine RD.brun1 [13, 14, 15, 16, 17, 18] 110 false (by kernel_rfl) ?_
   refine RD.p rfl rfl rfl rfl (fun w' => O.assign rfl) ?_
   refine RD.nil ?_
   refine KQ.then_k ?_
   replace hM := hM.pick [3, 2, 4, 1] rfl (by decide)
   exact fun a ha => ⟨false, ha.less (less_cons rfl (less_cons rfl (less_cons rfl less_nil))), hM, hF⟩
  rw [if_neg (ne_true hc)] at hF
  refine RD.brun1 [4, 5, 6, 7, 8, 9, 10, 11, 12, 13, 14, 15, 16, 17, 18] 110 false (by kernel_rfl) ?_
  refine RD.p rfl rfl rfl rfl (fun w' => O.assign rfl) ?_
  refine RD.nil ?_
  refine KQ.then_k ?_
  replace hM := hM.pick [3, 2, 4, 1] rfl (by decide)
  exact fun a ha => ⟨false, ha.less (less_cons rfl (less_cons rfl (less_cons rfl less_nil))), hM, hF⟩
 rintro a w195 ⟨two194, ha, hM, hF⟩
 refine KC.app ha ?_
 clear ha
 unfold F_law24_works_j4 at hF
 refine sr fun Q196 hQ196 => ?_
 refine vm rfl rfl ?_
 refine obindE hF fun y197 hx198 hF => ?_
 refine RL.call Try.func23 bd23 rfl rfl (c_law24_udp1 _ 2 _ hx198) fun v w199 hv => ?_
 obtain ⟨rfl, hN200⟩ := hv
 replace hM := hM.call0 hN200
 refine obindE hF fun y201 hx202 hF => ?_
 refine RL.call Try.func8 bd8 rfl rfl (c_cache_Cache_Account _ _ _ y169.2.2 _ _ _ _ _ (hM.lent [3, 1, 0, 2] rfl (by decide)) y197 0 12 _ hx202) fun v w203 hv => ?_
 obtain ⟨g205, A207, c208, A210, c211, A213, c214, rfl, hN204⟩ := hv
 replace hM := hM.callL [3, 1, 0, 2] [] rfl rfl (by decide) rfl hN204
 refine vm rfl rfl ?_
 refine RL.val (O.ext rfl rfl) rfl ?_
 refine RL.val (O.ext rfl rfl) rfl ?_
 refine va rfl rfl ?_
 refine va rfl rfl ?_
 refine nt hQ196 ?_
 clear hQ196 Q196
 refine sr fun Q216 hQ216 => ?_
 refine vm rfl rfl ?_
 refine obindE hF fun y217 hx218 hF => ?_
 refine RL.call Try.func23 bd23 rfl rfl (c_law24_udp1 _ 2 _ hx218) fun v w219 hv => ?_
 obtain ⟨rfl, hN220⟩ := hv
 replace hM := hM.call0 hN220
 refine obindE hF fun y221 hx222 hF => ?_
 refine RL.call Try.func8 bd8 rfl rfl (c_cache_Cache_Account _ _ _ y201.2.2 _ _ _ _ _ (hM.lent [0, 1, 2, 3] rfl (by decide)) y217 0 12 _ hx222) fun v w223 hv => ?_
 obtain ⟨g225, A227, c228, A230, c231, A233, c234, rfl, hN224⟩ := hv
 replace hM := hM.callL [0, 1, 2, 3] [4] rfl rfl (by decide) rfl hN224
 refine vm rfl rfl ?_
 refine RL.val (O.ext rfl rfl) rfl ?_
 refine RL.val (O.ext rfl rfl) rfl ?_
 refine va rfl rfl ?_
 refine va rfl rfl ?_
 refine nt hQ216 ?_
 clear hQ216 Q216
 replace hM := hM.pick [0, 5] rfl (by decide)
 refine KC.cut (fun a w243 => ∃ (t242 : Bool), Kn 151 [(0, vB t242)] a ∧ Mem w [] w243 [] ∧ F_law24_works_j5 t242 = some r) ?_ ?_
 ·refine KC.region ?_
  refine vm rfl rfl ?_
  refine vm rfl rfl ?_
  refine RL.bcase (t := 124) rfl (fun hc => ?_) (fun hc => ?_)
  ·rw [if_pos hc] at hF
   refine RL.gval rfl rfl (O.move rfl) rfl ?_
   refine RL.val (O.pickt rfl rfl) rfl ?_
   refine vm rfl rfl ?_
   refine RL.bcase (t := 127) rfl (fun hc => ?_) (fun hc => ?_)
   ·rw [if_pos hc] at hF
    refine RL.gval rfl rfl (O.move rfl) rfl ?_
    refine RL.gval rfl rfl (O.len sl41 rfl) rfl ?_
    refine RL.gval rfl rfl (O.eql rfl rfl) rfl ?_
    refine RL.val (O.pickt rfl rfl) rfl ?_
    refine vm rfl rfl ?_
    refine RL.bcase (t := 132) rfl (fun hc => ?_) (fun hc => ?_)
    ·rw [if_pos hc] at hF
     refine RL.gval rfl rfl (O.move rfl) rfl ?_
     refine RL.gval rfl rfl (O.len sl41 rfl) rfl ?_
     refine RL.gval rfl rfl (O.eql rfl rfl) rfl ?_
     refine RL.val (O.pickt rfl rfl) rfl ?_
     refine vm rfl rfl ?_
     refine RL.bcase (t := 137) rfl (fun hc => ?_) (fun hc => ?_)
     ·rw [if_pos hc] at hF
      refine RL.gval rfl rfl (O.move rfl) rfl ?_
      refine obindE hF fun xv238 hx237 hF => ?_
      have hA236 := Rd.atN (f := e_flow_Record) (s := 44) (fun _ => rfl) (by decide) (hM.rd (i := 1) rfl) hx237
      refine RL.gval rfl rfl (O.idxA sl41 (hA236) rfl rfl) rfl ?_
      refine RL.gval rfl rfl (O.fldA fl46_1 (by decide) rfl) rfl ?_
      refine RL.gval rfl rfl (O.load sc22 rfl (Cs.adds [37] (hA236).cells rfl)) rfl ?_
      refine RL.gval rfl rfl (O.eql rfl rfl) rfl ?_
      refine RL.val (O.pickt rfl rfl) rfl ?_
      refine vm rfl rfl ?_
      refine RL.bcase (t := 144) rfl (fun hc => ?_) (fun hc => ?_)
      ·rw [if_pos hc] at hF
       refine RL.gval rfl rfl (O.move rfl) rfl ?_
       refine obindE hF fun xv241 hx240 hF => ?_
       have hA239 := Rd.atN (f := e_flow_Record) (s := 44) (fun _ => rfl) (by decide) (hM.rd (i := 1) rfl) hx240
       refine RL.gval rfl rfl (O.idxA sl41 (hA239) rfl rfl) rfl ?_
       refine RL.gval rfl rfl (O.fldA fl46_6 (by decide) rfl) rfl ?_
       refine RL.gval rfl rfl (O.load sc5 rfl (Cs.adds [42] (hA239).cells rfl)) rfl ?_
       refine RL.gval rfl rfl (O.eql rfl rfl) rfl ?_
       refine RL.val (O.pickt rfl rfl) rfl ?_
       refine va rfl rfl ?_
       refine RL.nil ?_
       refine KQ.then_k ?_
       replace hM := hM.pick [] rfl (by decide)
       exact fun a ha => ⟨(xv241.f_Reason == 4), ha.less (less_cons rfl less_nil), hM, hF⟩
      rw [if_neg (ne_true hc)] at hF
      refine RL.brun1 6 150 false (by kernel_rfl) ?_
      refine va rfl rfl ?_
      refine RL.nil ?_
      refine KQ.then_k ?_
      replace hM := hM.pick [] rfl (by decide)
      exact fun a ha => ⟨false, ha.less (less_cons rfl less_nil), hM, hF⟩
     rw [if_neg (ne_true hc)] at hF
     refine RL.brun1 13 150 false (by kernel_rfl) ?_
     refine va rfl rfl ?_
     refine RL.nil ?_
     refine KQ.then_k ?_
     replace hM := hM.pick [] rfl (by decide)
     exact fun a ha => ⟨false, ha.less (less_cons rfl less_nil), hM, hF⟩
    rw [if_neg (ne_true hc)] at hF
    refine RL.brun1 18 150 false (by kernel_rfl) ?_
    refine va rfl rfl ?_
    refine RL.nil ?_
    refine KQ.then_k ?_
    replace hM := hM.pick [] rfl (by decide)
    exact fun a ha => ⟨false, ha.less (less_cons rfl less_nil), hM, hF⟩
   rw [if_neg (ne_true hc)] at hF
   refine RL.brun1 23 150 false (by kernel_rfl) ?_
   refine va rfl rfl ?_
   refine RL.nil ?_
   refine KQ.then_k ?_
   replace hM := hM.pick [] rfl (by decide)
   exact fun a ha => ⟨false, ha.less (less_cons rfl less_nil), hM, hF⟩
  rw [if_neg (ne_true hc)] at hF
  refine RL.brun1 26 150 false (by kernel_rfl) ?_
  refine va rfl rfl ?_
  refine RL.nil ?_
  refine KQ.then_k ?_
  replace hM := hM.pick [] rfl (by decide)
  exact fun a ha => ⟨false, ha.less (less_cons rfl less_nil), hM, hF⟩
 rintro a w243 ⟨t242, ha, hM, hF⟩
 refine KC.app ha ?_
 clear ha
 unfold F_law24_works_j5 at hF
 refine KC.ret ?_
 have hE := Option.some.inj hF
 clear hF
 subst hE
 refine KQ.rets Try.results6 (RVs.cons (RV.tm rfl) RVs.nil) ?_
 exact ⟨_, rfl, rfl, hM⟩
end Go.Proofs.Ytkpnocgfhipidaa
