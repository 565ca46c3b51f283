/- Printed by a program of this claim: each call returns what the plain function of its name gives. -/
import Derived.Test.YtkpnocgfhipidaaGreatW1
import Derived.Test.YtkpnocgfhipidaaGreatW5
import Derived.Test.YtkpnocgfhipidaaGreatW8
set_option linter.unusedVariables false
namespace Go.Proofs.YtkpnocgfhipidaaGreat
open Go Go.Ox Go.RowKit
set_option maxRecDepth 100000 in
set_option maxHeartbeats 40000000 in
theorem c_law24_works (w : World) (r : Bool) (hF : F_law24_works = some r) :
  CallsR Tryz.prog 5 [] w (fun v w' => v = vB r ∧ Mem w [] w' []) := by
 refine calls_KC Tryz.func5 rfl Tryz.ntmps5 rfl ?_
 have hM := Mem.init w
 unfold F_law24_works at hF
 refine sr fun Q1 hQ1 => ?_
 refine va rfl rfl ?_
 refine nt hQ1 ?_
 clear hQ1 Q1
 refine sr fun Q2 hQ2 => ?_
 refine RL.val (O.bld (cs := [vI 2, v64 5, v64 20, v64 3, v64 1000]) bt24 rfl (by kernel_rfl)) rfl ?_
 refine RL.icall Tryz.func6 bd6 rfl rfl rfl Tryz.ntmps6 rfl ?_
 refine sr fun Q3 hQ3 => ?_
 refine RL.eff (E.box (vs := [vI 2, v64 5, v64 20, v64 3, v64 1000]) hM rfl rfl) rfl fun v w5 hv => ?_
 clear hM
 obtain ⟨g4, rfl, hM, hf⟩ := hv
 refine va rfl rfl ?_
 refine va rfl rfl ?_
 refine nt hQ3 ?_
 clear hQ3 Q3
 refine KC.seqH fun Q7 hQ7 => ?_
 refine KC.cut (fun a w9 => Kn 53 [(0, v64 0), (3, .pointer (some ⟨g4, 0, none⟩)), (35, vB false)] a ∧ Mem w [] w9 [.box g4 24 [vI 2, v64 5, v64 20, v64 3, v64 1000]] ∧ F_law24_works_j1 = some r) ?_ ?_
 ·refine KC.region ?_
  refine RL.val (O.fldA fl24_0 (by decide) rfl) rfl ?_
  refine RL.val (O.load sc3 rfl (Cs.adds [0] ((hM.bx (i := 0) rfl)) rfl)) rfl ?_
  refine RL.val (O.lss rfl rfl) rfl ?_
  refine vm rfl rfl ?_
  refine RL.gval rfl rfl (O.fldA fl24_0 (by decide) rfl) rfl ?_
  refine RL.gval rfl rfl (O.load sc3 rfl (Cs.adds [0] ((hM.bx (i := 0) rfl)) rfl)) rfl ?_
  refine RL.gval rfl rfl (O.gtr rfl rfl) rfl ?_
  refine RL.val (O.pickf rfl rfl) rfl ?_
  refine vm rfl rfl ?_
  refine RL.gval rfl rfl (O.fldA fl24_1 (by decide) rfl) rfl ?_
  refine RL.gval rfl rfl (O.load sc22 rfl (Cs.adds [1] ((hM.bx (i := 0) rfl)) rfl)) rfl ?_
  refine RL.gval rfl rfl (O.eql rfl rfl) rfl ?_
  refine RL.val (O.pickf rfl rfl) rfl ?_
  refine vm rfl rfl ?_
  refine RL.gval rfl rfl (O.fldA fl24_2 (by decide) rfl) rfl ?_
  refine RL.gval rfl rfl (O.load sc22 rfl (Cs.adds [2] ((hM.bx (i := 0) rfl)) rfl)) rfl ?_
  refine RL.gval rfl rfl (O.eql rfl rfl) rfl ?_
  refine RL.val (O.pickf rfl rfl) rfl ?_
  refine vm rfl rfl ?_
  refine RL.gval rfl rfl (O.fldA fl24_3 (by decide) rfl) rfl ?_
  refine RL.gval rfl rfl (O.load sc22 rfl (Cs.adds [3] ((hM.bx (i := 0) rfl)) rfl)) rfl ?_
  refine RL.gval rfl rfl (O.eql rfl rfl) rfl ?_
  refine RL.val (O.pickf rfl rfl) rfl ?_
  refine vm rfl rfl ?_
  refine RL.gval rfl rfl (O.fldA fl24_4 (by decide) rfl) rfl ?_
  refine RL.gval rfl rfl (O.load sc22 rfl (Cs.adds [4] ((hM.bx (i := 0) rfl)) rfl)) rfl ?_
  refine RL.gval rfl rfl (O.eql rfl rfl) rfl ?_
  refine RL.val (O.pickf rfl rfl) rfl ?_
  refine RL.nil ?_
  refine KQ.then_k ?_
  exact fun a ha => ⟨ha.less (less_cons rfl (less_cons rfl (less_cons rfl less_nil))), hM, hF⟩
 rintro a w9 ⟨ha, hM, hF⟩
 refine KC.app ha ?_
 clear ha
 unfold F_law24_works_j1 at hF
 refine KC.condF rfl ?_
 refine KC.skip ?_
 refine KQ.thn hQ7 ?_
 clear hQ7 Q7
 refine sr fun Q10 hQ10 => ?_
 refine RL.val (O.fldA fl24_0 (by decide) rfl) rfl ?_
 refine RL.val (O.load sc3 rfl (Cs.adds [0] ((hM.bx (i := 0) rfl)) rfl)) rfl ?_
 refine RL.val (O.conv un3 Tryz.underlying67 rfl) rfl ?_
 refine obindE hF fun y11 hx12 hF => ?_
 refine RL.call Tryz.func20 bd20 rfl rfl (c_math_bits_Len _ (IntKind.u64.wrap 2) _ hx12) fun v w13 hv => ?_
 obtain ⟨rfl, hN14⟩ := hv
 replace hM := hM.call0 hN14
 refine cut_someE hF fun hq15 hF => ?_
 refine RL.val (O.shl rfl rfl (of_decide_eq_true hq15)) rfl ?_
 refine RL.icall Tryz.func19 bd19 rfl rfl rfl Tryz.ntmps19 rfl ?_
 refine sr fun Q16 hQ16 => ?_
 refine va rfl rfl ?_
 refine va rfl rfl ?_
 refine nt hQ16 ?_
 clear hQ16 Q16
 refine KC.seqH fun Q17 hQ17 => ?_
 refine KC.cut (fun a w20 => ∃ (xv18 : Bool), Kn 21 [(0, vI (Ox.shl .i64 1 y11)), (16, vB xv18)] a ∧ Mem w [] w20 [.box g4 24 [vI 2, v64 5, v64 20, v64 3, v64 1000]] ∧ F_law24_works_j2 y11 xv18 = some r) ?_ ?_
 ·refine KC.region ?_
  refine vm rfl rfl ?_
  refine RL.val (O.lss rfl rfl) rfl ?_
  refine vm rfl rfl ?_
  refine RL.bcase (t := 6) rfl (fun hc => ?_) (fun hc => ?_)
  ·rw [if_pos hc] at hF
   refine RL.brun1 10 16 true (by kernel_rfl) ?_
   refine RL.nil ?_
   refine KQ.then_k ?_
   exact fun a ha => ⟨true, ha.less (less_cons rfl (less_cons rfl less_nil)), hM, hF⟩
  rw [if_neg (ne_true hc)] at hF
  refine RL.gval rfl rfl (O.move rfl) rfl ?_
  refine RL.gval rfl rfl (O.gtr rfl rfl) rfl ?_
  refine RL.val (O.pickf rfl rfl) rfl ?_
  refine vm rfl rfl ?_
  refine RL.bcase (t := 10) rfl (fun hc => ?_) (fun hc => ?_)
  ·rw [if_pos hc] at hF
   refine RL.brun1 6 16 true (by kernel_rfl) ?_
   refine RL.nil ?_
   refine KQ.then_k ?_
   exact fun a ha => ⟨true, ha.less (less_cons rfl (less_cons rfl less_nil)), hM, hF⟩
  rw [if_neg (ne_true hc)] at hF
  refine RL.gval rfl rfl (O.move rfl) rfl ?_
  refine RL.gval rfl rfl (O.move rfl) rfl ?_
  refine RL.gval rfl rfl (O.sub rfl rfl) rfl ?_
  refine RL.gval rfl rfl (O.and rfl rfl) rfl ?_
  refine RL.gval rfl rfl (O.neq rfl rfl) rfl ?_
  refine RL.val (O.pickf rfl rfl) rfl ?_
  refine RL.nil ?_
  refine KQ.then_k ?_
  exact fun a ha => ⟨((bits .and .i64 (Ox.shl .i64 1 y11) (IntKind.i64.wrap ((Ox.shl .i64 1 y11) - 1))) != 0), ha.less (less_cons rfl (less_cons rfl less_nil)), hM, hF⟩
 rintro a w20 ⟨xv18, ha, hM, hF⟩
 refine KC.app ha ?_
 clear ha
 unfold F_law24_works_j2 at hF
 refine KC.cond rfl (fun hc => ?_) (fun hc => ?_)
 ·rw [if_pos hc] at hF
  refine sr fun Q21 hQ21 => ?_
  refine va rfl rfl ?_
  refine va rfl rfl ?_
  refine nt hQ21 ?_
  clear hQ21 Q21
  refine KC.ret ?_
  refine KQ.thr hQ17 ?_
  clear hQ17 Q17
  refine KQ.rets Tryz.results19 (RVs.cons (RV.tm rfl) (RVs.cons (RV.tm rfl) RVs.nil)) ?_
  refine ⟨.tuple #[.pointer none, vI 2], rfl, ?_⟩
  refine vm rfl rfl ?_
  refine RL.val (O.ext rfl rfl) rfl ?_
  refine RL.val (O.ext rfl rfl) rfl ?_
  refine va rfl rfl ?_
  refine va rfl rfl ?_
  refine nt hQ10 ?_
  clear hQ10 Q10
  refine KC.seqH fun Q22 hQ22 => ?_
  refine sr fun Q23 hQ23 => ?_
  refine vm rfl rfl ?_
  refine RL.val (O.neq rfl rfl) rfl ?_
  refine nt hQ23 ?_
  clear hQ23 Q23
  refine KC.condT rfl ?_
  refine sr fun Q24 hQ24 => ?_
  refine vm rfl rfl ?_
  refine va rfl rfl ?_
  refine va rfl rfl ?_
  refine nt hQ24 ?_
  clear hQ24 Q24
  refine KC.ret ?_
  refine KQ.thr hQ22 ?_
  clear hQ22 Q22
  refine KQ.rets Tryz.results6 (RVs.cons (RV.tm rfl) (RVs.cons (RV.tm rfl) RVs.nil)) ?_
  refine ⟨.tuple #[.pointer none, vI 2], rfl, ?_⟩
  refine vm rfl rfl ?_
  refine RL.val (O.ext rfl rfl) rfl ?_
  refine RL.val (O.ext rfl rfl) rfl ?_
  refine va rfl rfl ?_
  refine va rfl rfl ?_
  refine nt hQ2 ?_
  clear hQ2 Q2
  refine KC.seqH fun Q25 hQ25 => ?_
  refine sr fun Q26 hQ26 => ?_
  refine vm rfl rfl ?_
  refine RL.val (O.neq rfl rfl) rfl ?_
  refine nt hQ26 ?_
  clear hQ26 Q26
  refine KC.condT rfl ?_
  refine sr fun Q27 hQ27 => ?_
  refine va rfl rfl ?_
  refine nt hQ27 ?_
  clear hQ27 Q27
  refine KC.ret ?_
  refine KQ.thr hQ25 ?_
  clear hQ25 Q25
  have hE := Option.some.inj hF
  clear hF
  subst hE
  replace hM := hM.pick [] rfl (by decide)
  refine KQ.rets Tryz.results5 (RVs.cons (RV.tm rfl) RVs.nil) ?_
  exact ⟨_, rfl, rfl, hM⟩
 rw [if_neg (ne_true hc)] at hF
 refine KC.skip ?_
 refine KQ.thn hQ17 ?_
 clear hQ17 Q17
 refine sr fun Q28 hQ28 => ?_
 refine vm rfl rfl ?_
 refine cut_someE hF fun hq31 hF => ?_
 refine RL.eff (E.mks (enc := e_table_Slot) (zr := (T_table_Slot.mk false (T_packet_Key.mk (T_addr_Addr.mk false (List.replicate 16 0)) (T_addr_Addr.mk false (List.replicate 16 0)) 0 0 0) 0)) hM sl117 ze140 rfl rfl (fun _ => rfl) rfl rfl rfl (of_decide_eq_true hq31)) rfl fun v w30 hv => ?_
 clear hM
 obtain ⟨A29, rfl, hM, hf⟩ := hv
 refine RL.val (O.bld (cs := [.slice A29 ((List.replicate (Int.toNat (Ox.shl .i64 1 y11)) ((T_table_Slot.mk false (T_packet_Key.mk (T_addr_Addr.mk false (List.replicate 16 0)) (T_addr_Addr.mk false (List.replicate 16 0)) 0 0 0) 0) : T_table_Slot))).length (Int.toNat (Ox.shl .i64 1 y11)), vI 0]) bt119 rfl (by kernel_rfl)) rfl ?_
 refine RL.eff (E.box (vs := [.slice A29 ((List.replicate (Int.toNat (Ox.shl .i64 1 y11)) ((T_table_Slot.mk false (T_packet_Key.mk (T_addr_Addr.mk false (List.replicate 16 0)) (T_addr_Addr.mk false (List.replicate 16 0)) 0 0 0) 0) : T_table_Slot))).length (Int.toNat (Ox.shl .i64 1 y11)), vI 0]) hM rfl rfl) rfl fun v w34 hv => ?_
 clear hM
 obtain ⟨g33, rfl, hM, hf⟩ := hv
 refine va rfl rfl ?_
 refine va rfl rfl ?_
 refine nt hQ28 ?_
 clear hQ28 Q28
 refine KC.ret ?_
 refine KQ.rets Tryz.results19 (RVs.cons (RV.tm rfl) (RVs.cons (RV.tm rfl) RVs.nil)) ?_
 refine ⟨.tuple #[.pointer (some ⟨g33, 0, none⟩), vI 0], rfl, ?_⟩
 refine vm rfl rfl ?_
 refine RL.val (O.ext rfl rfl) rfl ?_
 refine RL.val (O.ext rfl rfl) rfl ?_
 refine va rfl rfl ?_
 refine va rfl rfl ?_
 refine nt hQ10 ?_
 clear hQ10 Q10
 refine KC.seqH fun Q36 hQ36 => ?_
 refine sr fun Q37 hQ37 => ?_
 refine vm rfl rfl ?_
 refine RL.val (O.neq rfl rfl) rfl ?_
 refine nt hQ37 ?_
 clear hQ37 Q37
 refine KC.condF rfl ?_
 refine KC.skip ?_
 refine KQ.thn hQ36 ?_
 clear hQ36 Q36
 refine sr fun Q38 hQ38 => ?_
 refine vm rfl rfl ?_
 refine RL.val (O.loadN (cs := [vI 2, v64 5, v64 20, v64 3, v64 1000]) ag24 rfl (Cs.addsN [] ((hM.bx (i := 0) rfl)) rfl)) rfl ?_
 refine vm rfl rfl ?_
 refine RL.val (O.bld (cs := [v64 0, vI 2, v64 5, v64 20, v64 3, v64 1000, .pointer (some ⟨g33, 0, none⟩), .slice none 0 0]) bt69 rfl (by kernel_rfl)) rfl ?_
 refine RL.eff (E.box (vs := [v64 0, vI 2, v64 5, v64 20, v64 3, v64 1000, .pointer (some ⟨g33, 0, none⟩), .slice none 0 0]) hM rfl rfl) rfl fun v w40 hv => ?_
 clear hM
 obtain ⟨g39, rfl, hM, hf⟩ := hv
 refine va rfl rfl ?_
 refine va rfl rfl ?_
 refine nt hQ38 ?_
 clear hQ38 Q38
 refine KC.ret ?_
 refine KQ.rets Tryz.results6 (RVs.cons (RV.tm rfl) (RVs.cons (RV.tm rfl) RVs.nil)) ?_
 refine ⟨.tuple #[.pointer (some ⟨g39, 0, none⟩), vI 0], rfl, ?_⟩
 refine vm rfl rfl ?_
 refine RL.val (O.ext rfl rfl) rfl ?_
 refine RL.val (O.ext rfl rfl) rfl ?_
 refine va rfl rfl ?_
 refine va rfl rfl ?_
 refine nt hQ2 ?_
 clear hQ2 Q2
 replace hM := hM.pick [1, 2, 3] rfl (by decide)
 refine KC.seqH fun Q42 hQ42 => ?_
 refine sr fun Q43 hQ43 => ?_
 refine vm rfl rfl ?_
 refine RL.val (O.neq rfl rfl) rfl ?_
 refine nt hQ43 ?_
 clear hQ43 Q43
 refine KC.condF rfl ?_
 refine KC.skip ?_
 refine KQ.thn hQ42 ?_
 clear hQ42 Q42
 refine sr fun Q44 hQ44 => ?_
 refine obindE hF fun y45 hx46 hF => ?_
 refine RL.call Tryz.func15 bd15 rfl rfl (c_law24_udp1 _ 1 _ hx46) fun v w47 hv => ?_
 obtain ⟨rfl, hN48⟩ := hv
 replace hM := hM.call0 hN48
 refine RL.eff (E.alloc hM ze44) rfl fun v w50 hv => ?_
 clear hM
 obtain ⟨g49, rfl, hM, hf⟩ := hv
 refine RL.effs (E.stB (j := 3) (off := 0) (vs := (y45.cs)) (cs' := (y45.cs)) hM rfl sz44 rfl (adds_eq [] rfl) rfl rfl (One.all rfl) rfl rfl) fun w52 hM1 => ?_
 clear hM
 have hM := hM1
 clear hM1
 refine nt hQ44 ?_
 clear hQ44 Q44
 refine sr fun Q53 hQ53 => ?_
 refine vm rfl rfl ?_
 refine RL.val (O.loadN (cs := (y45.cs)) ag44 rfl (Cs.addsN [] ((hM.bx (i := 3) rfl)) rfl)) rfl ?_
 replace hM := hM.nilrow 62 44
 refine obindE hF fun y55 hx56 hF => ?_
 refine RL.call Tryz.func16 bd16 rfl rfl (c_cache_Cache_Account _ _ _ (T_cache_Cache.mk 0 (T_cache_Bounds.mk 2 5 20 3 1000) (T_table_Table.mk (List.replicate (Int.toNat (Ox.shl .i64 1 y11)) ((T_table_Slot.mk false (T_packet_Key.mk (T_addr_Addr.mk false (List.replicate 16 0)) (T_addr_Addr.mk false (List.replicate 16 0)) 0 0 0) 0) : T_table_Slot)) 0) ([] : List T_flow_Record)) _ _ _ _ _ (hM.lent [2, 1, 0, 4] rfl (by decide)) y45 0 1 _ hx56) fun v w57 hv => ?_
 obtain ⟨g59, A61, c62, A64, c65, A67, c68, rfl, hN58⟩ := hv
 replace hM := hM.callL [2, 1, 0, 4] [3] rfl rfl (by decide) rfl hN58
 refine vm rfl rfl ?_
 refine RL.val (O.ext rfl rfl) rfl ?_
 refine RL.val (O.ext rfl rfl) rfl ?_
 refine va rfl rfl ?_
 refine va rfl rfl ?_
 refine nt hQ53 ?_
 clear hQ53 Q53
 refine sr fun Q70 hQ70 => ?_
 refine vm rfl rfl ?_
 refine RL.val (O.loadN (cs := (y45.cs)) ag44 rfl (Cs.addsN [] ((hM.bx (i := 0) rfl)) rfl)) rfl ?_
 refine obindE hF fun y71 hx72 hF => ?_
 refine RL.call Tryz.func16 bd16 rfl rfl (c_cache_Cache_Account _ _ _ y55.2.2 _ _ _ _ _ (hM.lent [1, 2, 3, 4] rfl (by decide)) y45 0 3 _ hx72) fun v w73 hv => ?_
 obtain ⟨g75, A77, c78, A80, c81, A83, c84, rfl, hN74⟩ := hv
 replace hM := hM.callL [1, 2, 3, 4] [0, 5] rfl rfl (by decide) rfl hN74
 refine vm rfl rfl ?_
 refine RL.val (O.ext rfl rfl) rfl ?_
 refine RL.val (O.ext rfl rfl) rfl ?_
 refine va rfl rfl ?_
 refine va rfl rfl ?_
 refine nt hQ70 ?_
 clear hQ70 Q70
 refine sr fun Q86 hQ86 => ?_
 refine vm rfl rfl ?_
 refine obindE hF fun y87 hx88 hF => ?_
 refine RL.call Tryz.func17 bd17 rfl rfl (c_cache_Cache_Next _ _ _ y71.2.2 _ _ _ _ _ (hM.lent [2, 3, 4, 5] rfl (by decide)) _ hx88) fun v w89 hv => ?_
 obtain ⟨g91, A93, c94, A96, c97, rfl, hN90⟩ := hv
 replace hM := hM.callL [2, 3, 4, 5] [0, 1, 6] rfl rfl (by decide) rfl hN90
 refine vm rfl rfl ?_
 refine RL.val (O.ext rfl rfl) rfl ?_
 refine RL.val (O.ext rfl rfl) rfl ?_
 refine va rfl rfl ?_
 refine va rfl rfl ?_
 refine nt hQ86 ?_
 clear hQ86 Q86
 refine sr fun Q99 hQ99 => ?_
 refine vm rfl rfl ?_
 refine obindE hF fun y100 hx101 hF => ?_
 refine RL.call Tryz.func18 bd18 rfl rfl (c_cache_Cache_Advance _ _ _ y87.2.2 _ _ _ _ _ (hM.lent [3, 4, 5, 6] rfl (by decide)) 8 _ hx101) fun v w102 hv => ?_
 obtain ⟨g104, A106, c107, A109, c110, A112, c113, rfl, hN103⟩ := hv
 replace hM := hM.callL [3, 4, 5, 6] [0, 1, 2] rfl rfl (by decide) rfl hN103
 refine va rfl rfl ?_
 refine nt hQ99 ?_
 clear hQ99 Q99
 refine KC.cut (fun a w127 => ∃ (one126 : Bool), Kn 151 [(1, .pointer (some ⟨g39, 0, none⟩)), (3, .pointer (some ⟨g49, 0, none⟩)), (11, vB one126)] a ∧ Mem w [] w127 [.row A106 c107 140 39 (y100.2.f_places.f_slots).length ((y100.2.f_places.f_slots).flatMap e_table_Slot), .box g104 119 [.slice A106 (y100.2.f_places.f_slots).length c107, vI y100.2.f_places.f_many], .row A109 c110 62 44 (y100.2.f_flows).length ((y100.2.f_flows).flatMap e_flow_Record), .box g39 69 (v64 y100.2.f_tick :: (y100.2.f_bounds.cs ++ [.pointer (some ⟨g104, 0, none⟩), .slice A109 (y100.2.f_flows).length c110])), .box g49 44 (y45.cs)] ∧ F_law24_works_j3 y45 y100 one126 = some r) ?_ ?_
 ·refine KC.region ?_
  refine vm rfl rfl ?_
  refine RL.val (O.len sl55 rfl) rfl ?_
  refine RL.val (O.eql rfl rfl) rfl ?_
  refine vm rfl rfl ?_
  refine RL.bcase (t := 49) rfl (fun hc => ?_) (fun hc => ?_)
  ·rw [if_pos hc] at hF
   refine RL.gval rfl rfl (O.move rfl) rfl ?_
   refine RL.gval rfl rfl (O.len sl55 rfl) rfl ?_
   refine RL.gval rfl rfl (O.eql rfl rfl) rfl ?_
   refine RL.val (O.pickt rfl rfl) rfl ?_
   refine vm rfl rfl ?_
   refine RL.bcase (t := 54) rfl (fun hc => ?_) (fun hc => ?_)
   ·rw [if_pos hc] at hF
    refine RL.gval rfl rfl (O.move rfl) rfl ?_
    refine RL.gval rfl rfl (O.eql rfl rfl) rfl ?_
    refine RL.val (O.pickt rfl rfl) rfl ?_
    refine vm rfl rfl ?_
    refine RL.bcase (t := 58) rfl (fun hc => ?_) (fun hc => ?_)
    ·rw [if_pos hc] at hF
     refine RL.gval rfl rfl (O.move rfl) rfl ?_
     refine RL.val (O.pickt rfl rfl) rfl ?_
     refine vm rfl rfl ?_
     refine RL.bcase (t := 61) rfl (fun hc => ?_) (fun hc => ?_)
     ·rw [if_pos hc] at hF
      refine RL.gval rfl rfl (O.move rfl) rfl ?_
      refine RL.gval rfl rfl (O.len sl55 rfl) rfl ?_
      refine RL.gval rfl rfl (O.eql rfl rfl) rfl ?_
      refine RL.val (O.pickt rfl rfl) rfl ?_
      refine vm rfl rfl ?_
      refine RL.bcase (t := 66) rfl (fun hc => ?_) (fun hc => ?_)
      ·rw [if_pos hc] at hF
       refine RL.gval rfl rfl (O.move rfl) rfl ?_
       refine obindE hF fun xv117 hx116 hF => ?_
       have hA115 := Rd.atN (f := e_flow_Record) (s := 44) (fun _ => rfl) (by decide) (hM.rd (i := 7) rfl) hx116
       refine RL.gval rfl rfl (O.idxA sl55 (hA115) rfl rfl) rfl ?_
       refine RL.gval rfl rfl (O.fldA fl62_1 (by decide) rfl) rfl ?_
       refine RL.gval rfl rfl (O.load sc22 rfl (Cs.adds [37] (hA115).cells rfl)) rfl ?_
       refine RL.gval rfl rfl (O.eql rfl rfl) rfl ?_
       refine RL.val (O.pickt rfl rfl) rfl ?_
       refine vm rfl rfl ?_
       refine RL.bcase (t := 73) rfl (fun hc => ?_) (fun hc => ?_)
       ·rw [if_pos hc] at hF
        refine RL.gval rfl rfl (O.move rfl) rfl ?_
        refine obindE hF fun xv120 hx119 hF => ?_
        have hA118 := Rd.atN (f := e_flow_Record) (s := 44) (fun _ => rfl) (by decide) (hM.rd (i := 7) rfl) hx119
        refine RL.gval rfl rfl (O.idxA sl55 (hA118) rfl rfl) rfl ?_
        refine RL.gval rfl rfl (O.fldA fl62_6 (by decide) rfl) rfl ?_
        refine RL.gval rfl rfl (O.load sc5 rfl (Cs.adds [42] (hA118).cells rfl)) rfl ?_
        refine RL.gval rfl rfl (O.eql rfl rfl) rfl ?_
        refine RL.val (O.pickt rfl rfl) rfl ?_
        refine va rfl rfl ?_
        refine RL.nil ?_
        refine KQ.then_k ?_
        replace hM := hM.pick [5, 4, 6, 3, 0] rfl (by decide)
        exact fun a ha => ⟨(xv120.f_Reason == 1), ha.less (less_cons rfl (less_cons rfl (less_cons rfl less_nil))), hM, hF⟩
       rw [if_neg (ne_true hc)] at hF
       refine RL.brun1 6 79 false (by kernel_rfl) ?_
       refine va rfl rfl ?_
       refine RL.nil ?_
       refine KQ.then_k ?_
       replace hM := hM.pick [5, 4, 6, 3, 0] rfl (by decide)
       exact fun a ha => ⟨false, ha.less (less_cons rfl (less_cons rfl (less_cons rfl less_nil))), hM, hF⟩
      rw [if_neg (ne_true hc)] at hF
      refine RL.brun1 13 79 false (by kernel_rfl) ?_
      refine va rfl rfl ?_
      refine RL.nil ?_
      refine KQ.then_k ?_
      replace hM := hM.pick [5, 4, 6, 3, 0] rfl (by decide)
      exact fun a ha => ⟨false, ha.less (less_cons rfl (less_cons rfl (less_cons rfl less_nil))), hM, hF⟩
     rw [if_neg (ne_true hc)] at hF
     refine RL.brun1 18 79 false (by kernel_rfl) ?_
     refine va rfl rfl ?_
     refine RL.nil ?_
     refine KQ.then_k ?_
     replace hM := hM.pick [5, 4, 6, 3, 0] rfl (by decide)
     exact fun a ha => ⟨false, ha.less (less_cons rfl (less_cons rfl (less_cons rfl less_nil))), hM, hF⟩
    rw [if_neg (ne_true hc)] at hF
    refine RL.brun1 21 79 false (by kernel_rfl) ?_
    refine va rfl rfl ?_
    refine RL.nil ?_
    refine KQ.then_k ?_
    replace hM := hM.pick [5, 4, 6, 3, 0] rfl (by decide)
    exact fun a ha => ⟨false, ha.less (less_cons rfl (less_cons rfl (less_cons rfl less_nil))), hM, hF⟩
   rw [if_neg (ne_true hc)] at hF
   refine RL.brun1 25 79 false (by kernel_rfl) ?_
   refine va rfl rfl ?_
   refine RL.nil ?_
   refine KQ.then_k ?_
   replace hM := hM.pick [5, 4, 6, 3, 0] rfl (by decide)
   exact fun a ha => ⟨false, ha.less (less_cons rfl (less_cons rfl (less_cons rfl less_nil))), hM, hF⟩
  rw [if_neg (ne_true hc)] at hF
  refine RL.brun1 30 79 false (by kernel_rfl) ?_
  refine va rfl rfl ?_
  refine RL.nil ?_
  refine KQ.then_k ?_
  replace hM := hM.pick [5, 4, 6, 3, 0] rfl (by decide)
  exact fun a ha => ⟨false, ha.less (less_cons rfl (less_cons rfl (less_cons rfl less_nil))), hM, hF⟩
 rintro a w127 ⟨one126, ha, hM, hF⟩
 refine KC.app ha ?_
 clear ha
 unfold F_law24_works_j3 at hF
 refine sr fun Q128 hQ128 => ?_
 refine vm rfl rfl ?_
 refine RL.val (O.loadN (cs := (y45.cs)) ag44 rfl (Cs.addsN [] ((hM.bx (i := 4) rfl)) rfl)) rfl ?_
 refine obindE hF fun y129 hx130 hF => ?_
 refine RL.call Tryz.func16 bd16 rfl rfl (c_cache_Cache_Account _ _ _ y100.2 _ _ _ _ _ (hM.lent [3, 1, 0, 2] rfl (by decide)) y45 0 9 _ hx130) fun v w131 hv => ?_
 obtain ⟨g133, A135, c136, A138, c139, A141, c142, rfl, hN132⟩ := hv
 replace hM := hM.callL [3, 1, 0, 2] [4] rfl rfl (by decide) rfl hN132
 refine nt hQ128 ?_
 clear hQ128 Q128
 replace hM := hM.pick [0, 1, 2, 3, 4] rfl (by decide)
 refine sr fun Q144 hQ144 => ?_
 refine vm rfl rfl ?_
 refine obindE hF fun y145 hx146 hF => ?_
 refine RL.call Tryz.func15 bd15 rfl rfl (c_law24_udp1 _ 2 _ hx146) fun v w147 hv => ?_
 obtain ⟨rfl, hN148⟩ := hv
 replace hM := hM.call0 hN148
 refine obindE hF fun y149 hx150 hF => ?_
 refine RL.call Tryz.func16 bd16 rfl rfl (c_cache_Cache_Account _ _ _ y129.2.2 _ _ _ _ _ (hM.lent [1, 2, 3, 4] rfl (by decide)) y145 0 10 _ hx150) fun v w151 hv => ?_
 obtain ⟨g153, A155, c156, A158, c159, A161, c162, rfl, hN152⟩ := hv
 replace hM := hM.callL [1, 2, 3, 4] [0] rfl rfl (by decide) rfl hN152
 refine nt hQ144 ?_
 clear hQ144 Q144
 replace hM := hM.pick [0, 1, 2, 3, 4] rfl (by decide)
 refine sr fun Q164 hQ164 => ?_
 refine vm rfl rfl ?_
 refine obindE hF fun y165 hx166 hF => ?_
 refine RL.call Tryz.func15 bd15 rfl rfl (c_law24_udp1 _ 3 _ hx166) fun v w167 hv => ?_
 obtain ⟨rfl, hN168⟩ := hv
 replace hM := hM.call0 hN168
 refine obindE hF fun y169 hx170 hF => ?_
 refine RL.call Tryz.func16 bd16 rfl rfl (c_cache_Cache_Account _ _ _ y149.2.2 _ _ _ _ _ (hM.lent [1, 2, 3, 4] rfl (by decide)) y165 0 11 _ hx170) fun v w171 hv => ?_
 obtain ⟨g173, A175, c176, A178, c179, A181, c182, rfl, hN172⟩ := hv
 replace hM := hM.callL [1, 2, 3, 4] [0] rfl rfl (by decide) rfl hN172
 refine vm rfl rfl ?_
 refine RL.val (O.ext rfl rfl) rfl ?_
 refine RL.val (O.ext rfl rfl) rfl ?_
 refine va rfl rfl ?_
 refine va rfl rfl ?_
 refine nt hQ164 ?_
 clear hQ164 Q164
 refine KC.cut (fun a w195 => ∃ (two194 : Bool), Kn 151 [(1, .pointer (some ⟨g39, 0, none⟩)), (11, vB one126), (14, vB two194)] a ∧ Mem w [] w195 [.row A175 c176 140 39 (y169.2.2.f_places.f_slots).length ((y169.2.2.f_places.f_slots).flatMap e_table_Slot), .box g173 119 [.slice A175 (y169.2.2.f_places.f_slots).length c176, vI y169.2.2.f_places.f_many], .row A178 c179 62 44 (y169.2.2.f_flows).length ((y169.2.2.f_flows).flatMap e_flow_Record), .box g39 69 (v64 y169.2.2.f_tick :: (y169.2.2.f_bounds.cs ++ [.pointer (some ⟨g173, 0, none⟩), .slice A178 (y169.2.2.f_flows).length c179]))] ∧ F_law24_works_j4 one126 y169 two194 = some r) ?_ ?_
 ·replace hM := hM.drewN 1
  refine KC.draw [] [] [] [0, 1, 2, 3, 4, 6, 8, 10, 11, 12, 13, 15, 17, 18, 19] (.ofList [0, 1, 2, 3, 4, 5, 6, 7, 8, 9, 10, 11, 12, 13, 14, 15, 16, 17, 18, 19]) moP (by kernel_rfl) ?_
  refine RD.p rfl rfl rfl rfl (fun w' => O.move rfl) ?_
  refine RD.p rfl rfl rfl rfl (fun w' => O.len sl55 rfl) ?_
  refine RD.p rfl rfl rfl rfl (fun w' => O.eql rfl rfl) ?_
  refine RD.p rfl rfl rfl rfl (fun w' => O.move rfl) ?_
  refine RD.bcase (t := 95) rfl (fun hc => ?_) (fun hc => ?_)
  ·rw [if_pos hc] at hF
   refine RD.gp rfl rfl rfl rfl rfl rfl (fun w' => O.move rfl) ?_
   refine obindE hF fun xv186 hx185 hF => ?_
   have hA184 := Rd.atN (f := e_flow_Record) (s := 44) (fun _ => rfl) (by decide) (hM.rd (i := 5) rfl) hx185
   refine RD.gq rfl rfl rfl rfl rfl rfl (fun w' hf => O.idxA sl55 (hA184.fut hf) rfl rfl) ?_
   refine RD.gp rfl rfl rfl rfl rfl rfl (fun w' => O.fldA fl62_0 (by decide) rfl) ?_
   refine RD.gq rfl rfl rfl rfl rfl rfl (fun w' hf => O.loadN (cs := (xv186.f_Key.cs)) ag42 rfl (Cs.addsN [0] (hA184.fut hf).cells rfl)) ?_
   refine RD.gp rfl rfl rfl rfl rfl rfl (fun w' => O.fldA fl44_0 (by decide) rfl) ?_
   refine RD.gq rfl rfl rfl rfl rfl rfl (fun w' hf => O.loadN (cs := (y45.f_Key.cs)) ag42 rfl (Cs.addsN [0] ((hM.bx (i := 0) rfl).fut hf) rfl)) ?_
   refine RD.gp rfl rfl rfl rfl rfl rfl (fun w' => O.steq (cs := (xv186.f_Key.cs)) (cs' := (y45.f_Key.cs)) (by kernel_rfl) rfl rfl (Q42t xv186.f_Key y45.f_Key _ rfl rfl)) ?_
   refine RD.p rfl rfl rfl rfl (fun w' => O.pickt rfl rfl) ?_
   refine RD.p rfl rfl rfl rfl (fun w' => O.move rfl) ?_
   refine RD.bcase (t := 104) rfl (fun hc => ?_) (fun hc => ?_)
   ·rw [if_pos hc] at hF
    refine RD.gp rfl rfl rfl rfl rfl rfl (fun w' => O.move rfl) ?_
    refine obindE hF fun xv189 hx188 hF => ?_
    have hA187 := Rd.atN (f := e_flow_Record) (s := 44) (fun _ => rfl) (by decide) (hM.rd (i := 5) rfl) hx188
    refine RD.gq rfl rfl rfl rfl rfl rfl (fun w' hf => O.idxA sl55 (hA187.fut hf) rfl rfl) ?_
    refine RD.gp rfl rfl rfl rfl rfl rfl (fun w' => O.fldA fl62_6 (by decide) rfl) ?_
    refine RD.gq rfl rfl rfl rfl rfl rfl (fun w' hf => O.load sc5 rfl (Cs.adds [42] (hA187.fut hf).cells rfl)) ?_
    refine RD.gp rfl rfl rfl rfl rfl rfl (fun w' => O.eql rfl rfl) ?_
    refine RD.p rfl rfl rfl rfl (fun w' => O.pickt rfl rfl) ?_
    refine RD.p rfl rfl rfl rfl (fun w' => O.assign rfl) ?_
    refine RD.nil ?_
    refine KQ.then_k ?_
    replace hM := hM.pick [3, 2, 4, 1] rfl (by decide)
    exact fun a ha => ⟨(xv189.f_Reason == 5), ha.less (less_cons rfl (less_cons rfl (less_cons rfl less_nil))), hM, hF⟩
   rw [if_neg (ne_true hc)] at hF
   refine RD.brun1 [13, 14, 15, 16, 17, 18] 110 false (by kernel_rfl) ?_
   refine RD.p rfl rfl rfl rfl (fun w' => O.assign rfl) ?_
   refine RD.nil ?_
   refine KQ.then_k ?_
   replace hM := hM.pick [3, 2, 4, 1] rfl (by decide)
   exact fun a ha => ⟨false, ha.less (less_cons rfl (less_cons rfl (less_cons rfl less_nil))), hM, hF⟩
  rw [if_neg (ne_true hc)] at hF
  refine RD.brun1 [4, 5, 6, 7, 8, 9, 10, 11, 12, 13, 14, 15, 16, 17, 18] 110 false (by kernel_rfl) ?_
  refine RD.p rfl rfl rfl rfl (fun w' => O.assign rfl) ?_
  refine RD.nil ?_
  refine KQ.then_k ?_
  replace hM := hM.pick [3, 2, 4, 1] rfl (by decide)
  exact fun a ha => ⟨false, ha.less (less_cons rfl (less_cons rfl (less_cons rfl less_nil))), hM, hF⟩
 rintro a w195 ⟨two194, ha, hM, hF⟩
 refine KC.app ha ?_
 clear ha
 unfold F_law24_works_j4 at hF
 refine sr fun Q196 hQ196 => ?_
 refine vm rfl rfl ?_
 refine obindE hF fun y197 hx198 hF => ?_
 refine RL.call Tryz.func15 bd15 rfl rfl (c_law24_udp1 _ 2 _ hx198) fun v w199 hv => ?_
 obtain ⟨rfl, hN200⟩ := hv
 replace hM := hM.call0 hN200
 refine obindE hF fun y201 hx202 hF => ?_
 refine RL.call Tryz.func16 bd16 rfl rfl (c_cache_Cache_Account _ _ _ y169.2.2 _ _ _ _ _ (hM.lent [3, 1, 0, 2] rfl (by decide)) y197 0 12 _ hx202) fun v w203 hv => ?_
 obtain ⟨g205, A207, c208, A210, c211, A213, c214, rfl, hN204⟩ := hv
 replace hM := hM.callL [3, 1, 0, 2] [] rfl rfl (by decide) rfl hN204
 refine vm rfl rfl ?_
 refine RL.val (O.ext rfl rfl) rfl ?_
 refine RL.val (O.ext rfl rfl) rfl ?_
 refine va rfl rfl ?_
 refine va rfl rfl ?_
 refine nt hQ196 ?_
 clear hQ196 Q196
 refine sr fun Q216 hQ216 => ?_
 refine vm rfl rfl ?_
 refine obindE hF fun y217 hx218 hF => ?_
 refine RL.call Tryz.func15 bd15 rfl rfl (c_law24_udp1 _ 2 _ hx218) fun v w219 hv => ?_
 obtain ⟨rfl, hN220⟩ := hv
 replace hM := hM.call0 hN220
 refine obindE hF fun y221 hx222 hF => ?_
 refine RL.call Tryz.func16 bd16 rfl rfl (c_cache_Cache_Account _ _ _ y201.2.2 _ _ _ _ _ (hM.lent [0, 1, 2, 3] rfl (by decide)) y217 0 12 _ hx222) fun v w223 hv => ?_
 obtain ⟨g225, A227, c228, A230, c231, A233, c234, rfl, hN224⟩ := hv
 replace hM := hM.callL [0, 1, 2, 3] [4] rfl rfl (by decide) rfl hN224
 refine vm rfl rfl ?_
 refine RL.val (O.ext rfl rfl) rfl ?_
 refine RL.val (O.ext rfl rfl) rfl ?_
 refine va rfl rfl ?_
 refine va rfl rfl ?_
 refine nt hQ216 ?_
 clear hQ216 Q216
 replace hM := hM.pick [0, 5] rfl (by decide)
 refine KC.cut (fun a w243 => ∃ (t242 : Bool), Kn 151 [(0, vB t242)] a ∧ Mem w [] w243 [] ∧ F_law24_works_j5 t242 = some r) ?_ ?_
 ·refine KC.region ?_
  refine vm rfl rfl ?_
  refine vm rfl rfl ?_
  refine RL.bcase (t := 124) rfl (fun hc => ?_) (fun hc => ?_)
  ·rw [if_pos hc] at hF
   refine RL.gval rfl rfl (O.move rfl) rfl ?_
   refine RL.val (O.pickt rfl rfl) rfl ?_
   refine vm rfl rfl ?_
   refine RL.bcase (t := 127) rfl (fun hc => ?_) (fun hc => ?_)
   ·rw [if_pos hc] at hF
    refine RL.gval rfl rfl (O.move rfl) rfl ?_
    refine RL.gval rfl rfl (O.len sl55 rfl) rfl ?_
    refine RL.gval rfl rfl (O.eql rfl rfl) rfl ?_
    refine RL.val (O.pickt rfl rfl) rfl ?_
    refine vm rfl rfl ?_
    refine RL.bcase (t := 132) rfl (fun hc => ?_) (fun hc => ?_)
    ·rw [if_pos hc] at hF
     refine RL.gval rfl rfl (O.move rfl) rfl ?_
     refine RL.gval rfl rfl (O.len sl55 rfl) rfl ?_
     refine RL.gval rfl rfl (O.eql rfl rfl) rfl ?_
     refine RL.val (O.pickt rfl rfl) rfl ?_
     refine vm rfl rfl ?_
     refine RL.bcase (t := 137) rfl (fun hc => ?_) (fun hc => ?_)
     ·rw [if_pos hc] at hF
      refine RL.gval rfl rfl (O.move rfl) rfl ?_
      refine obindE hF fun xv238 hx237 hF => ?_
      have hA236 := Rd.atN (f := e_flow_Record) (s := 44) (fun _ => rfl) (by decide) (hM.rd (i := 1) rfl) hx237
      refine RL.gval rfl rfl (O.idxA sl55 (hA236) rfl rfl) rfl ?_
      refine RL.gval rfl rfl (O.fldA fl62_1 (by decide) rfl) rfl ?_
      refine RL.gval rfl rfl (O.load sc22 rfl (Cs.adds [37] (hA236).cells rfl)) rfl ?_
      refine RL.gval rfl rfl (O.eql rfl rfl) rfl ?_
      refine RL.val (O.pickt rfl rfl) rfl ?_
      refine vm rfl rfl ?_
      refine RL.bcase (t := 144) rfl (fun hc => ?_) (fun hc => ?_)
      ·rw [if_pos hc] at hF
       refine RL.gval rfl rfl (O.move rfl) rfl ?_
       refine obindE hF fun xv241 hx240 hF => ?_
       have hA239 := Rd.atN (f := e_flow_Record) (s := 44) (fun _ => rfl) (by decide) (hM.rd (i := 1) rfl) hx240
       refine RL.gval rfl rfl (O.idxA sl55 (hA239) rfl rfl) rfl ?_
       refine RL.gval rfl rfl (O.fldA fl62_6 (by decide) rfl) rfl ?_
       refine RL.gval rfl rfl (O.load sc5 rfl (Cs.adds [42] (hA239).cells rfl)) rfl ?_
       refine RL.gval rfl rfl (O.eql rfl rfl) rfl ?_
       refine RL.val (O.pickt rfl rfl) rfl ?_
       refine va rfl rfl ?_
       refine RL.nil ?_
       refine KQ.then_k ?_
       replace hM := hM.pick [] rfl (by decide)
       exact fun a ha => ⟨(xv241.f_Reason == 4), ha.less (less_cons rfl less_nil), hM, hF⟩
      rw [if_neg (ne_true hc)] at hF
      refine RL.brun1 6 150 false (by kernel_rfl) ?_
      refine va rfl rfl ?_
      refine RL.nil ?_
      refine KQ.then_k ?_
      replace hM := hM.pick [] rfl (by decide)
      exact fun a ha => ⟨false, ha.less (less_cons rfl less_nil), hM, hF⟩
     rw [if_neg (ne_true hc)] at hF
     refine RL.brun1 13 150 false (by kernel_rfl) ?_
     refine va rfl rfl ?_
     refine RL.nil ?_
     refine KQ.then_k ?_
     replace hM := hM.pick [] rfl (by decide)
     exact fun a ha => ⟨false, ha.less (less_cons rfl less_nil), hM, hF⟩
    rw [if_neg (ne_true hc)] at hF
    refine RL.brun1 18 150 false (by kernel_rfl) ?_
    refine va rfl rfl ?_
    refine RL.nil ?_
    refine KQ.then_k ?_
    replace hM := hM.pick [] rfl (by decide)
    exact fun a ha => ⟨false, ha.less (less_cons rfl less_nil), hM, hF⟩
   rw [if_neg (ne_true hc)] at hF
   refine RL.brun1 23 150 false (by kernel_rfl) ?_
   refine va rfl rfl ?_
   refine RL.nil ?_
   refine KQ.then_k ?_
   replace hM := hM.pick [] rfl (by decide)
   exact fun a ha => ⟨false, ha.less (less_cons rfl less_nil), hM, hF⟩
  rw [if_neg (ne_true hc)] at hF
  refine RL.brun1 26 150 false (by kernel_rfl) ?_
  refine va rfl rfl ?_
  refine RL.nil ?_
  refine KQ.then_k ?_
  replace hM := hM.pick [] rfl (by decide)
  exact fun a ha => ⟨false, ha.less (less_cons rfl less_nil), hM, hF⟩
 rintro a w243 ⟨t242, ha, hM, hF⟩
 refine KC.app ha ?_
 clear ha
 unfold F_law24_works_j5 at hF
 refine KC.ret ?_
 have hE := Option.some.inj hF
 clear hF
 subst hE
 refine KQ.rets Tryz.results5 (RVs.cons (RV.tm rfl) RVs.nil) ?_
 exact ⟨_, rfl, rfl, hM⟩
set_option maxRecDepth 100000 in
set_option maxHeartbeats 40000000 in
theorem c_docs_Bounds (w : World) (b1 : T_cache_Bounds) (r : T_cache_Bounds) (hF : F_docs_Bounds b1 = some r) :
  CallsR Tryz.prog 8 [.agg (b1.cs).toArray] w (fun v w' => v = .agg (r.cs).toArray ∧ Mem w [] w' []) := by
 refine calls_KC Tryz.func8 rfl Tryz.ntmps8 rfl ?_
 have hM := Mem.init w
 unfold F_docs_Bounds at hF
 refine sr fun Q2 hQ2 => ?_
 refine RL.eff (E.box (vs := (b1.cs)) hM rfl rfl) rfl fun v w4 hv => ?_
 clear hM
 obtain ⟨g3, rfl, hM, hf⟩ := hv
 refine RL.eff (E.alloc hM ze34) rfl fun v w7 hv => ?_
 clear hM
 obtain ⟨g6, rfl, hM, hf⟩ := hv
 refine nt hQ2 ?_
 clear hQ2 Q2
 refine sr fun Q9 hQ9 => ?_
 refine RL.val (O.fldA fl24_0 (by decide) rfl) rfl ?_
 refine RL.val (O.load sc3 rfl (Cs.adds [0] ((hM.bx (i := 0) rfl)) rfl)) rfl ?_
 refine RL.val (O.fldA fl24_1 (by decide) rfl) rfl ?_
 refine RL.val (O.load sc22 rfl (Cs.adds [1] ((hM.bx (i := 0) rfl)) rfl)) rfl ?_
 refine RL.val (O.fldA fl24_2 (by decide) rfl) rfl ?_
 refine RL.val (O.load sc22 rfl (Cs.adds [2] ((hM.bx (i := 0) rfl)) rfl)) rfl ?_
 refine RL.val (O.fldA fl24_3 (by decide) rfl) rfl ?_
 refine RL.val (O.load sc22 rfl (Cs.adds [3] ((hM.bx (i := 0) rfl)) rfl)) rfl ?_
 refine RL.val (O.fldA fl24_4 (by decide) rfl) rfl ?_
 refine RL.val (O.load sc22 rfl (Cs.adds [4] ((hM.bx (i := 0) rfl)) rfl)) rfl ?_
 refine RL.val (O.bld (cs := (b1.cs)) bt34 rfl (by kernel_rfl)) rfl ?_
 refine RL.effs (E.stB (j := 1) (off := 0) (vs := (b1.cs)) (cs' := (b1.cs)) hM rfl sz34 rfl (adds_eq [] rfl) rfl rfl (One.all rfl) rfl rfl) fun w10 hM1 => ?_
 clear hM
 have hM := hM1
 clear hM1
 refine nt hQ9 ?_
 clear hQ9 Q9
 refine KC.ret ?_
 have hE := Option.some.inj hF
 clear hF
 subst hE
 have hb11 := hM.bx (i := 1) rfl
 replace hM := hM.pick [] rfl (by decide)
 refine KQ.rets Tryz.results8 (RVs.cons (RV.cN (cs := (b1.cs)) rfl ag34 hb11) RVs.nil) ?_
 exact ⟨_, rfl, rfl, hM⟩
set_option maxRecDepth 100000 in
set_option maxHeartbeats 40000000 in
theorem c_ref04_Right (w : World) (av1 : T_addr_Addr) (r : Bool) (hF : F_ref04_Right av1 = some r) :
  CallsR Tryz.prog 85 [.agg (av1.cs).toArray] w (fun v w' => v = vB r ∧ Mem w [] w' []) := by
 refine calls_KC Tryz.func85 rfl Tryz.ntmps85 rfl ?_
 have hM := Mem.init w
 unfold F_ref04_Right at hF
 refine sr fun Q2 hQ2 => ?_
 refine RL.eff (E.box (vs := (av1.cs)) hM rfl rfl) rfl fun v w4 hv => ?_
 clear hM
 obtain ⟨g3, rfl, hM, hf⟩ := hv
 refine va rfl rfl ?_
 refine nt hQ2 ?_
 clear hQ2 Q2
 refine KC.seqH fun Q6 hQ6 => ?_
 refine sr fun Q7 hQ7 => ?_
 refine va rfl rfl ?_
 refine nt hQ7 ?_
 clear hQ7 Q7
 refine KC.block ?_
 refine KC.loop (fun k32 a w30 => ∃ (i29 : Int), Kn 18 [(1, .pointer (some ⟨g3, 0, none⟩)), (3, vI i29)] a ∧ Mem w [] w30 [.box g3 75 (av1.cs)] ∧ F_ref04_Right_L1 av1 k32 i29 = some r) ?_ ?_
 ·exact fun a ha => ⟨fuel0, 4, ha.less (less_cons rfl (less_cons rfl less_nil)), hM, hF⟩
 rintro k32 a w30 ⟨i29, ha, hM, hF⟩
 refine KC.app ha ?_
 clear ha
 cases k32 with
 | zero => exact (none_some hF).elim
 | succ k32 =>
 have hF : F_ref04_Right_l1 (F_ref04_Right_L1 av1 k32) av1 i29 = some r := hF
 unfold F_ref04_Right_l1 at hF
 refine KC.seqH fun Q33 hQ33 => ?_
 refine sr fun Q34 hQ34 => ?_
 refine vm rfl rfl ?_
 refine RL.val (O.lss rfl rfl) rfl ?_
 refine nt hQ34 ?_
 clear hQ34 Q34
 refine KC.cond rfl (fun hc => ?_) (fun hc => ?_)
 ·rw [if_pos hc] at hF
  refine KC.skip ?_
  refine KQ.thn hQ33 ?_
  clear hQ33 Q33
  refine KC.seqH fun Q35 hQ35 => ?_
  refine KC.block ?_
  refine KC.cut (fun a w40 => ∃ (t39 : Bool), Kn 18 [(1, .pointer (some ⟨g3, 0, none⟩)), (3, vI i29), (17, vB t39)] a ∧ Mem w [] w40 [.box g3 75 (av1.cs)] ∧ F_ref04_Right_j1 i29 (F_ref04_Right_L1 av1 k32) t39 = some r) ?_ ?_
  ·refine KC.region ?_
   refine RL.val (O.fldA fl75_0 (by decide) rfl) rfl ?_
   refine RL.val (O.load sc4 rfl (Cs.adds [0] ((hM.bx (i := 0) rfl)) rfl)) rfl ?_
   refine RL.val (O.not rfl) rfl ?_
   refine vm rfl rfl ?_
   refine RL.bcase (t := 11) rfl (fun hc => ?_) (fun hc => ?_)
   ·rw [if_pos hc] at hF
    refine RL.gval rfl rfl (O.move rfl) rfl ?_
    refine RL.gval rfl rfl (O.fldA fl75_1 (by decide) rfl) rfl ?_
    refine obindE hF fun xv37 hx36 hF => ?_
    refine RL.gval rfl rfl (O.idxP Tryz.underlying37 sz5 hx36 rfl rfl) rfl ?_
    refine RL.gval rfl rfl (O.load sc5 rfl (Cs.arrAt [1] ((hM.bx (i := 0) rfl)) rfl hx36)) rfl ?_
    refine RL.gval rfl rfl (O.neq rfl rfl) rfl ?_
    refine RL.val (O.pickt rfl rfl) rfl ?_
    refine RL.nil ?_
    refine KQ.then_k ?_
    exact fun a ha => ⟨(xv37 != 0), ha.less (less_cons rfl (less_cons rfl (less_cons rfl less_nil))), hM, hF⟩
   rw [if_neg (ne_true hc)] at hF
   refine RL.gskip rfl rfl rfl rfl ?_
   refine RL.gskip rfl rfl rfl rfl ?_
   refine RL.gskip rfl rfl rfl rfl ?_
   refine RL.gskip rfl rfl rfl rfl ?_
   refine RL.gskip rfl rfl rfl rfl ?_
   refine RL.val (O.pickf rfl rfl) rfl ?_
   refine RL.nil ?_
   refine KQ.then_k ?_
   exact fun a ha => ⟨false, ha.less (less_cons rfl (less_cons rfl (less_cons rfl less_nil))), hM, hF⟩
  rintro a w40 ⟨t39, ha, hM, hF⟩
  refine KC.app ha ?_
  clear ha
  unfold F_ref04_Right_j1 at hF
  refine KC.cond rfl (fun hc => ?_) (fun hc => ?_)
  ·rw [if_pos hc] at hF
   refine sr fun Q41 hQ41 => ?_
   refine va rfl rfl ?_
   refine nt hQ41 ?_
   clear hQ41 Q41
   refine KC.ret ?_
   refine KQ.blk_r ?_
   refine KQ.thr hQ35 ?_
   clear hQ35 Q35
   refine KQ.then_r ?_
   refine KQ.blk_r ?_
   refine KQ.thr hQ6 ?_
   clear hQ6 Q6
   have hE := Option.some.inj hF
   clear hF
   subst hE
   replace hM := hM.pick [] rfl (by decide)
   refine KQ.rets Tryz.results85 (RVs.cons (RV.tm rfl) RVs.nil) ?_
   exact ⟨_, rfl, rfl, hM⟩
  rw [if_neg (ne_true hc)] at hF
  refine KC.skip ?_
  refine KQ.blk_n ?_
  refine KQ.thn hQ35 ?_
  clear hQ35 Q35
  refine KC.region ?_
  refine vm rfl rfl ?_
  refine RL.val (O.add rfl rfl) rfl ?_
  refine va rfl rfl ?_
  refine RL.nil ?_
  refine KQ.then_k ?_
  exact fun a ha => ⟨k32, Nat.lt_succ_self k32, (IntKind.i64.wrap (i29 + 1)), ha.less (less_cons rfl (less_cons rfl less_nil)), hM, hF⟩
 rw [if_neg (ne_true hc)] at hF
 refine KC.exit ?_
 refine KQ.thx hQ33 ?_
 clear hQ33 Q33
 refine KQ.then_x ?_
 refine KQ.blk_x ?_
 refine KQ.thn hQ6 ?_
 clear hQ6 Q6
 refine sr fun Q42 hQ42 => ?_
 refine va rfl rfl ?_
 refine nt hQ42 ?_
 clear hQ42 Q42
 refine KC.ret ?_
 have hE := Option.some.inj hF
 clear hF
 subst hE
 replace hM := hM.pick [] rfl (by decide)
 refine KQ.rets Tryz.results85 (RVs.cons (RV.tm rfl) RVs.nil) ?_
 exact ⟨_, rfl, rfl, hM⟩
set_option maxRecDepth 100000 in
set_option maxHeartbeats 40000000 in
theorem c_ref08_ports (w : World) (proto1 : Int) (r : Bool) (hF : F_ref08_ports proto1 = some r) :
  CallsR Tryz.prog 86 [v8 proto1] w (fun v w' => v = vB r ∧ Mem w [] w' []) := by
 refine calls_KC Tryz.func86 rfl Tryz.ntmps86 rfl ?_
 have hM := Mem.init w
 unfold F_ref08_ports at hF
 refine sr fun Q2 hQ2 => ?_
 refine va rfl rfl ?_
 refine nt hQ2 ?_
 clear hQ2 Q2
 refine KC.cut (fun a w4 => ∃ (t3 : Bool), Kn 9 [(2, vB t3)] a ∧ Mem w [] w4 [] ∧ F_ref08_ports_j1 t3 = some r) ?_ ?_
 ·refine KC.region ?_
  refine vm rfl rfl ?_
  refine RL.val (O.eql rfl rfl) rfl ?_
  refine vm rfl rfl ?_
  refine RL.bcase (t := 5) rfl (fun hc => ?_) (fun hc => ?_)
  ·rw [if_pos hc] at hF
   refine RL.gskip rfl rfl rfl rfl ?_
   refine RL.gskip rfl rfl rfl rfl ?_
   refine RL.val (O.pickt rfl rfl) rfl ?_
   refine va rfl rfl ?_
   refine RL.nil ?_
   refine KQ.then_k ?_
   exact fun a ha => ⟨true, ha.less (less_cons rfl less_nil), hM, hF⟩
  rw [if_neg (ne_true hc)] at hF
  refine RL.gval rfl rfl (O.move rfl) rfl ?_
  refine RL.gval rfl rfl (O.eql rfl rfl) rfl ?_
  refine RL.val (O.pickf rfl rfl) rfl ?_
  refine va rfl rfl ?_
  refine RL.nil ?_
  refine KQ.then_k ?_
  exact fun a ha => ⟨(proto1 == 17), ha.less (less_cons rfl less_nil), hM, hF⟩
 rintro a w4 ⟨t3, ha, hM, hF⟩
 refine KC.app ha ?_
 clear ha
 unfold F_ref08_ports_j1 at hF
 refine KC.ret ?_
 have hE := Option.some.inj hF
 clear hF
 subst hE
 refine KQ.rets Tryz.results86 (RVs.cons (RV.tm rfl) RVs.nil) ?_
 exact ⟨_, rfl, rfl, hM⟩
set_option maxRecDepth 100000 in
set_option maxHeartbeats 40000000 in
theorem c_ref08_icmp (w : World) (proto1 : Int) (r : Bool) (hF : F_ref08_icmp proto1 = some r) :
  CallsR Tryz.prog 87 [v8 proto1] w (fun v w' => v = vB r ∧ Mem w [] w' []) := by
 refine calls_KC Tryz.func87 rfl Tryz.ntmps87 rfl ?_
 have hM := Mem.init w
 unfold F_ref08_icmp at hF
 refine sr fun Q2 hQ2 => ?_
 refine va rfl rfl ?_
 refine nt hQ2 ?_
 clear hQ2 Q2
 refine KC.cut (fun a w4 => ∃ (t3 : Bool), Kn 9 [(2, vB t3)] a ∧ Mem w [] w4 [] ∧ F_ref08_icmp_j1 t3 = some r) ?_ ?_
 ·refine KC.region ?_
  refine vm rfl rfl ?_
  refine RL.val (O.eql rfl rfl) rfl ?_
  refine vm rfl rfl ?_
  refine RL.bcase (t := 5) rfl (fun hc => ?_) (fun hc => ?_)
  ·rw [if_pos hc] at hF
   refine RL.gskip rfl rfl rfl rfl ?_
   refine RL.gskip rfl rfl rfl rfl ?_
   refine RL.val (O.pickt rfl rfl) rfl ?_
   refine va rfl rfl ?_
   refine RL.nil ?_
   refine KQ.then_k ?_
   exact fun a ha => ⟨true, ha.less (less_cons rfl less_nil), hM, hF⟩
  rw [if_neg (ne_true hc)] at hF
  refine RL.gval rfl rfl (O.move rfl) rfl ?_
  refine RL.gval rfl rfl (O.eql rfl rfl) rfl ?_
  refine RL.val (O.pickf rfl rfl) rfl ?_
  refine va rfl rfl ?_
  refine RL.nil ?_
  refine KQ.then_k ?_
  exact fun a ha => ⟨(proto1 == 58), ha.less (less_cons rfl less_nil), hM, hF⟩
 rintro a w4 ⟨t3, ha, hM, hF⟩
 refine KC.app ha ?_
 clear ha
 unfold F_ref08_icmp_j1 at hF
 refine KC.ret ?_
 have hE := Option.some.inj hF
 clear hF
 subst hE
 refine KQ.rets Tryz.results87 (RVs.cons (RV.tm rfl) RVs.nil) ?_
 exact ⟨_, rfl, rfl, hM⟩
set_option maxRecDepth 100000 in
set_option maxHeartbeats 40000000 in
theorem c_ref08_Right (w : World) (kv1 : T_ref08_Key) (r : Bool) (hF : F_ref08_Right kv1 = some r) :
  CallsR Tryz.prog 58 [.agg (kv1.cs).toArray] w (fun v w' => v = vB r ∧ Mem w [] w' []) := by
 refine calls_KC Tryz.func58 rfl Tryz.ntmps58 rfl ?_
 have hM := Mem.init w
 unfold F_ref08_Right at hF
 refine sr fun Q2 hQ2 => ?_
 refine RL.eff (E.box (vs := (kv1.cs)) hM rfl rfl) rfl fun v w4 hv => ?_
 clear hM
 obtain ⟨g3, rfl, hM, hf⟩ := hv
 refine va rfl rfl ?_
 refine nt hQ2 ?_
 clear hQ2 Q2
 refine KC.seqH fun Q6 hQ6 => ?_
 refine KC.cut (fun a w17 => ∃ (t16 : Bool), Kn 40 [(1, .pointer (some ⟨g3, 0, none⟩)), (21, vB t16)] a ∧ Mem w [] w17 [.box g3 77 (kv1.cs)] ∧ F_ref08_Right_j1 kv1 t16 = some r) ?_ ?_
 ·refine KC.region ?_
  refine RL.val (O.fldA fl77_0 (by decide) rfl) rfl ?_
  refine RL.val (O.loadN (cs := (kv1.f_Src.cs)) ag75 rfl (Cs.addsN [0] ((hM.bx (i := 0) rfl)) rfl)) rfl ?_
  refine obindE hF fun y7 hx8 hF => ?_
  refine RL.call Tryz.func85 bd85 rfl rfl (c_ref04_Right _ kv1.f_Src _ hx8) fun v w9 hv => ?_
  obtain ⟨rfl, hN10⟩ := hv
  replace hM := hM.call0 hN10
  refine RL.val (O.not rfl) rfl ?_
  refine vm rfl rfl ?_
  refine RL.bcase (t := 7) rfl (fun hc => ?_) (fun hc => ?_)
  ·rw [if_pos hc] at hF
   refine RL.brun1 14 21 true (by kernel_rfl) ?_
   refine RL.nil ?_
   refine KQ.then_k ?_
   exact fun a ha => ⟨true, ha.less (less_cons rfl (less_cons rfl less_nil)), hM, hF⟩
  rw [if_neg (ne_true hc)] at hF
  refine RL.gval rfl rfl (O.fldA fl77_1 (by decide) rfl) rfl ?_
  refine RL.gval rfl rfl (O.loadN (cs := (kv1.f_Dst.cs)) ag75 rfl (Cs.addsN [17] ((hM.bx (i := 0) rfl)) rfl)) rfl ?_
  refine obindE hF fun y11 hx12 hF => ?_
  refine RL.gcall rfl rfl Tryz.func85 bd85 rfl rfl (c_ref04_Right _ kv1.f_Dst _ hx12) fun v w13 hv => ?_
  obtain ⟨rfl, hN14⟩ := hv
  replace hM := hM.call0 hN14
  refine RL.gval rfl rfl (O.not rfl) rfl ?_
  refine RL.val (O.pickf rfl rfl) rfl ?_
  refine vm rfl rfl ?_
  refine RL.bcase (t := 13) rfl (fun hc => ?_) (fun hc => ?_)
  ·rw [if_pos hc] at hF
   refine RL.brun1 8 21 true (by kernel_rfl) ?_
   refine RL.nil ?_
   refine KQ.then_k ?_
   exact fun a ha => ⟨true, ha.less (less_cons rfl (less_cons rfl less_nil)), hM, hF⟩
  rw [if_neg (ne_true hc)] at hF
  refine RL.gval rfl rfl (O.fldA fl77_0 (by decide) rfl) rfl ?_
  refine RL.gval rfl rfl (O.fldA fl75_0 (by decide) rfl) rfl ?_
  refine RL.gval rfl rfl (O.load sc4 rfl (Cs.adds [0, 0] ((hM.bx (i := 0) rfl)) rfl)) rfl ?_
  refine RL.gval rfl rfl (O.fldA fl77_1 (by decide) rfl) rfl ?_
  refine RL.gval rfl rfl (O.fldA fl75_0 (by decide) rfl) rfl ?_
  refine RL.gval rfl rfl (O.load sc4 rfl (Cs.adds [17, 0] ((hM.bx (i := 0) rfl)) rfl)) rfl ?_
  refine RL.gval rfl rfl (O.neqb Tryz.underlying4 rfl rfl) rfl ?_
  refine RL.val (O.pickf rfl rfl) rfl ?_
  refine RL.nil ?_
  refine KQ.then_k ?_
  exact fun a ha => ⟨(!(kv1.f_Src.f_Six == kv1.f_Dst.f_Six)), ha.less (less_cons rfl (less_cons rfl less_nil)), hM, hF⟩
 rintro a w17 ⟨t16, ha, hM, hF⟩
 refine KC.app ha ?_
 clear ha
 unfold F_ref08_Right_j1 at hF
 refine KC.cond rfl (fun hc => ?_) (fun hc => ?_)
 ·rw [if_pos hc] at hF
  refine sr fun Q18 hQ18 => ?_
  refine va rfl rfl ?_
  refine nt hQ18 ?_
  clear hQ18 Q18
  refine KC.ret ?_
  refine KQ.thr hQ6 ?_
  clear hQ6 Q6
  have hE := Option.some.inj hF
  clear hF
  subst hE
  replace hM := hM.pick [] rfl (by decide)
  refine KQ.rets Tryz.results58 (RVs.cons (RV.tm rfl) RVs.nil) ?_
  exact ⟨_, rfl, rfl, hM⟩
 rw [if_neg (ne_true hc)] at hF
 refine KC.skip ?_
 refine KQ.thn hQ6 ?_
 clear hQ6 Q6
 refine KC.cut (fun a w28 => ∃ (t27 : Bool), Kn 40 [(2, vB t27)] a ∧ Mem w [] w28 [] ∧ F_ref08_Right_j2 t27 = some r) ?_ ?_
 ·refine KC.region ?_
  refine RL.val (O.fldA fl77_2 (by decide) rfl) rfl ?_
  refine RL.val (O.load sc5 rfl (Cs.adds [34] ((hM.bx (i := 0) rfl)) rfl)) rfl ?_
  refine obindE hF fun y19 hx20 hF => ?_
  refine RL.call Tryz.func86 bd86 rfl rfl (c_ref08_ports _ kv1.f_Proto _ hx20) fun v w21 hv => ?_
  obtain ⟨rfl, hN22⟩ := hv
  replace hM := hM.call0 hN22
  refine vm rfl rfl ?_
  refine RL.bcase (t := 25) rfl (fun hc => ?_) (fun hc => ?_)
  ·rw [if_pos hc] at hF
   refine RL.brun1 14 39 true (by kernel_rfl) ?_
   refine va rfl rfl ?_
   refine RL.nil ?_
   refine KQ.then_k ?_
   replace hM := hM.pick [] rfl (by decide)
   exact fun a ha => ⟨true, ha.less (less_cons rfl less_nil), hM, hF⟩
  rw [if_neg (ne_true hc)] at hF
  refine RL.gval rfl rfl (O.fldA fl77_3 (by decide) rfl) rfl ?_
  refine RL.gval rfl rfl (O.load sc40 rfl (Cs.adds [35] ((hM.bx (i := 0) rfl)) rfl)) rfl ?_
  refine RL.gval rfl rfl (O.eql rfl rfl) rfl ?_
  refine RL.gval rfl rfl (O.move rfl) rfl ?_
  refine RL.bcase (t := 29) rfl (fun hc => ?_) (fun hc => ?_)
  ·rw [if_pos hc] at hF
   refine RL.gval rfl rfl (O.fldA fl77_2 (by decide) rfl) rfl ?_
   refine RL.gval rfl rfl (O.load sc5 rfl (Cs.adds [34] ((hM.bx (i := 0) rfl)) rfl)) rfl ?_
   refine obindE hF fun y23 hx24 hF => ?_
   refine RL.gcall rfl rfl Tryz.func87 bd87 rfl rfl (c_ref08_icmp _ kv1.f_Proto _ hx24) fun v w25 hv => ?_
   obtain ⟨rfl, hN26⟩ := hv
   replace hM := hM.call0 hN26
   refine RL.gval rfl rfl (O.move rfl) rfl ?_
   refine RL.bcase (t := 33) rfl (fun hc => ?_) (fun hc => ?_)
   ·rw [if_pos hc] at hF
    refine RL.gskip rfl rfl rfl rfl ?_
    refine RL.gskip rfl rfl rfl rfl ?_
    refine RL.gskip rfl rfl rfl rfl ?_
    refine RL.gval rfl rfl (O.pickt rfl rfl) rfl ?_
    refine RL.gval rfl rfl (O.pickt rfl rfl) rfl ?_
    refine RL.val (O.pickf rfl rfl) rfl ?_
    refine va rfl rfl ?_
    refine RL.nil ?_
    refine KQ.then_k ?_
    replace hM := hM.pick [] rfl (by decide)
    exact fun a ha => ⟨true, ha.less (less_cons rfl less_nil), hM, hF⟩
   rw [if_neg (ne_true hc)] at hF
   refine RL.gval rfl rfl (O.fldA fl77_4 (by decide) rfl) rfl ?_
   refine RL.gval rfl rfl (O.load sc40 rfl (Cs.adds [36] ((hM.bx (i := 0) rfl)) rfl)) rfl ?_
   refine RL.gval rfl rfl (O.eql rfl rfl) rfl ?_
   refine RL.gval rfl rfl (O.pickf rfl rfl) rfl ?_
   refine RL.gval rfl rfl (O.pickt rfl rfl) rfl ?_
   refine RL.val (O.pickf rfl rfl) rfl ?_
   refine va rfl rfl ?_
   refine RL.nil ?_
   refine KQ.then_k ?_
   replace hM := hM.pick [] rfl (by decide)
   exact fun a ha => ⟨(kv1.f_DstPort == 0), ha.less (less_cons rfl less_nil), hM, hF⟩
  rw [if_neg (ne_true hc)] at hF
  refine RL.gskip rfl rfl rfl rfl ?_
  refine RL.gskip rfl rfl rfl rfl ?_
  refine RL.gskip rfl rfl rfl rfl ?_
  refine RL.gskip rfl rfl rfl rfl ?_
  refine RL.gskip' rfl rfl rfl ?_
  refine RL.gskip' rfl rfl rfl ?_
  refine RL.gskip' rfl rfl rfl ?_
  refine RL.gskip rfl rfl rfl rfl ?_
  refine RL.gval rfl rfl (O.pickf rfl rfl) rfl ?_
  refine RL.val (O.pickf rfl rfl) rfl ?_
  refine va rfl rfl ?_
  refine RL.nil ?_
  refine KQ.then_k ?_
  replace hM := hM.pick [] rfl (by decide)
  exact fun a ha => ⟨false, ha.less (less_cons rfl less_nil), hM, hF⟩
 rintro a w28 ⟨t27, ha, hM, hF⟩
 refine KC.app ha ?_
 clear ha
 unfold F_ref08_Right_j2 at hF
 refine KC.ret ?_
 have hE := Option.some.inj hF
 clear hF
 subst hE
 refine KQ.rets Tryz.results58 (RVs.cons (RV.tm rfl) RVs.nil) ?_
 exact ⟨_, rfl, rfl, hM⟩
set_option maxRecDepth 100000 in
set_option maxHeartbeats 40000000 in
theorem c_ref10_most (w : World) (r : Int) (hF : F_ref10_most = some r) :
  CallsR Tryz.prog 108 [] w (fun v w' => v = v64 r ∧ Mem w [] w' []) := by
 refine calls_KC Tryz.func108 rfl Tryz.ntmps108 rfl ?_
 have hM := Mem.init w
 unfold F_ref10_most at hF
 refine sr fun Q1 hQ1 => ?_
 refine va rfl rfl ?_
 refine nt hQ1 ?_
 clear hQ1 Q1
 refine sr fun Q2 hQ2 => ?_
 refine va rfl rfl ?_
 refine nt hQ2 ?_
 clear hQ2 Q2
 refine KC.ret ?_
 have hE := Option.some.inj hF
 clear hF
 subst hE
 refine KQ.rets Tryz.results108 (RVs.cons (RV.tm rfl) RVs.nil) ?_
 exact ⟨_, rfl, rfl, hM⟩
set_option maxRecDepth 100000 in
set_option maxHeartbeats 40000000 in
theorem c_ref10_Plus (w : World) (av1 : Int) (b2 : Int) (r : Int) (hF : F_ref10_Plus av1 b2 = some r) :
  CallsR Tryz.prog 90 [v64 av1, v64 b2] w (fun v w' => v = v64 r ∧ Mem w [] w' []) := by
 refine calls_KC Tryz.func90 rfl Tryz.ntmps90 rfl ?_
 have hM := Mem.init w
 unfold F_ref10_Plus at hF
 refine sr fun Q3 hQ3 => ?_
 refine va rfl rfl ?_
 refine nt hQ3 ?_
 clear hQ3 Q3
 refine KC.seqH fun Q4 hQ4 => ?_
 refine sr fun Q5 hQ5 => ?_
 refine vm rfl rfl ?_
 refine obindE hF fun y6 hx7 hF => ?_
 refine RL.call Tryz.func108 bd108 rfl rfl (c_ref10_most _ _ hx7) fun v w8 hv => ?_
 obtain ⟨rfl, hN9⟩ := hv
 replace hM := hM.call0 hN9
 refine vm rfl rfl ?_
 refine RL.val (O.sub rfl rfl) rfl ?_
 refine RL.val (O.gtr rfl rfl) rfl ?_
 refine nt hQ5 ?_
 clear hQ5 Q5
 refine KC.cond rfl (fun hc => ?_) (fun hc => ?_)
 ·rw [if_pos hc] at hF
  refine sr fun Q10 hQ10 => ?_
  refine obindE hF fun y11 hx12 hF => ?_
  refine RL.call Tryz.func108 bd108 rfl rfl (c_ref10_most _ _ hx12) fun v w13 hv => ?_
  obtain ⟨rfl, hN14⟩ := hv
  replace hM := hM.call0 hN14
  refine va rfl rfl ?_
  refine nt hQ10 ?_
  clear hQ10 Q10
  refine KC.ret ?_
  refine KQ.thr hQ4 ?_
  clear hQ4 Q4
  have hE := Option.some.inj hF
  clear hF
  subst hE
  refine KQ.rets Tryz.results90 (RVs.cons (RV.tm rfl) RVs.nil) ?_
  exact ⟨_, rfl, rfl, hM⟩
 rw [if_neg (ne_true hc)] at hF
 refine KC.skip ?_
 refine KQ.thn hQ4 ?_
 clear hQ4 Q4
 refine sr fun Q15 hQ15 => ?_
 refine vm rfl rfl ?_
 refine vm rfl rfl ?_
 refine RL.val (O.add rfl rfl) rfl ?_
 refine va rfl rfl ?_
 refine nt hQ15 ?_
 clear hQ15 Q15
 refine KC.ret ?_
 have hE := Option.some.inj hF
 clear hF
 subst hE
 refine KQ.rets Tryz.results90 (RVs.cons (RV.tm rfl) RVs.nil) ?_
 exact ⟨_, rfl, rfl, hM⟩
set_option maxRecDepth 100000 in
set_option maxHeartbeats 40000000 in
theorem c_ref24_Cache_idle_B (w : World) (g2 : Nat) (tg5 : TypeId) (cv1 : T_ref24_Cache) (vo4 : Value) (hL7 : Lent w [.box g2 tg5 (v64 cv1.f_Tick :: (cv1.f_Bounds.cs ++ [vo4]))]) (rv6 : T_ref22_Record) (r : Int) (hF : F_ref24_Cache_idle cv1 rv6 = some r) :
  CallsR Tryz.prog 64 [.pointer (some ⟨g2, 0, none⟩), .agg (rv6.cs).toArray] w (fun v w' => v = v64 r ∧ Mem w [some g2] w' [.box g2 tg5 (v64 cv1.f_Tick :: (cv1.f_Bounds.cs ++ [vo4]))]) := by
 refine calls_KC Tryz.func64 rfl Tryz.ntmps64 rfl ?_
 have hM : Mem w [some g2] w [.box g2 tg5 (v64 cv1.f_Tick :: (cv1.f_Bounds.cs ++ [vo4]))] := Mem.lendN hL7
 unfold F_ref24_Cache_idle at hF
 refine sr fun Q8 hQ8 => ?_
 refine RL.eff (E.box (vs := (rv6.cs)) hM rfl rfl) rfl fun v w10 hv => ?_
 clear hM
 obtain ⟨g9, rfl, hM, hf⟩ := hv
 refine va rfl rfl ?_
 refine nt hQ8 ?_
 clear hQ8 Q8
 refine KC.seqH fun Q12 hQ12 => ?_
 replace hM := hM.drewN 1
 refine KC.draw [] [] [7] [0, 2, 3, 4, 5, 8] (.ofList [0, 1, 2, 3, 4, 5, 6, 7, 8]) moP (by kernel_rfl) ?_
 refine RD.p rfl rfl rfl rfl (fun w' => O.fldA fl89_4 (by decide) rfl) ?_
 refine RD.q rfl rfl rfl rfl (fun w' hf => O.load sc22 rfl (Cs.adds [40] ((hM.bx (i := 1) rfl).fut hf) rfl)) ?_
 refine RD.p rfl rfl rfl rfl (fun w' => O.move rfl) ?_
 refine RD.p rfl rfl rfl rfl (fun w' => O.nilp rfl) ?_
 refine RD.p rfl rfl rfl rfl (fun w' => O.fldA fl72_1 (by decide) rfl) ?_
 refine RD.p rfl rfl rfl rfl (fun w' => O.fldA fl34_1 (by decide) rfl) ?_
 refine RD.q rfl rfl rfl rfl (fun w' hf => O.load sc22 rfl (Cs.adds [1, 1] ((hM.bx (i := 0) rfl).fut hf) rfl)) ?_
 refine obindE hF fun y13 hx14 hF => ?_
 refine RD.mcall rfl rfl trivial Tryz.func90 bd90 rfl rfl (c_ref10_Plus _ rv6.f_Last cv1.f_Bounds.f_Idle _ hx14) fun v w15 hv => ?_
 obtain ⟨rfl, hN16⟩ := hv
 refine ⟨fun _ => hN16.fut, ?_⟩
 replace hM := hM.call0 hN16
 refine RD.p rfl rfl rfl rfl (fun w' => O.assign rfl) ?_
 refine RD.nil ?_
 refine KQ.thn hQ12 ?_
 clear hQ12 Q12
 refine KC.ret ?_
 have hE := Option.some.inj hF
 clear hF
 subst hE
 replace hM := hM.pick [0] rfl (by decide)
 refine KQ.rets Tryz.results64 (RVs.cons (RV.tm rfl) RVs.nil) ?_
 exact ⟨_, rfl, rfl, hM⟩
theorem c_ref24_Cache_idle (w : World) (g2 : Nat) (tg5 : TypeId) (cv1 : T_ref24_Cache) (vo4 : Value) (hL7 : Lent w [.box g2 tg5 (v64 cv1.f_Tick :: (cv1.f_Bounds.cs ++ [vo4]))]) (rv6 : T_ref22_Record) (r : Int) (hF : F_ref24_Cache_idle cv1 rv6 = some r) :
  CallsR Tryz.prog 64 [.pointer (some ⟨g2, 0, none⟩), .agg (rv6.cs).toArray] w (fun v w' => v = v64 r ∧ Mem w [] w' []) := Calls.mono (c_ref24_Cache_idle_B w g2 tg5 cv1 vo4 hL7 rv6 r hF) fun e w1 ⟨v, he, hv, hm⟩ => ⟨v, he, hv, hm.still hL7 rfl rfl⟩
set_option maxRecDepth 100000 in
set_option maxHeartbeats 40000000 in
theorem c_ref24_Cache_due_B (w : World) (g2 : Nat) (tg5 : TypeId) (cv1 : T_ref24_Cache) (vo4 : Value) (hL7 : Lent w [.box g2 tg5 (v64 cv1.f_Tick :: (cv1.f_Bounds.cs ++ [vo4]))]) (rv6 : T_ref22_Record) (r : Int) (hF : F_ref24_Cache_due cv1 rv6 = some r) :
  CallsR Tryz.prog 63 [.pointer (some ⟨g2, 0, none⟩), .agg (rv6.cs).toArray] w (fun v w' => v = v64 r ∧ Mem w [some g2] w' [.box g2 tg5 (v64 cv1.f_Tick :: (cv1.f_Bounds.cs ++ [vo4]))]) := by
 refine calls_KC Tryz.func63 rfl Tryz.ntmps63 rfl ?_
 have hM : Mem w [some g2] w [.box g2 tg5 (v64 cv1.f_Tick :: (cv1.f_Bounds.cs ++ [vo4]))] := Mem.lendN hL7
 unfold F_ref24_Cache_due at hF
 refine sr fun Q8 hQ8 => ?_
 refine RL.eff (E.box (vs := (rv6.cs)) hM rfl rfl) rfl fun v w10 hv => ?_
 clear hM
 obtain ⟨g9, rfl, hM, hf⟩ := hv
 refine va rfl rfl ?_
 refine nt hQ8 ?_
 clear hQ8 Q8
 refine KC.seqH fun Q12 hQ12 => ?_
 replace hM := hM.drewN 1
 refine KC.draw [] [] [2, 10] [0, 3, 5, 6, 7, 8, 11, 12] (.ofList [0, 1, 3, 4, 5, 6, 7, 8, 9, 2, 10, 11, 12]) moP (by kernel_rfl) ?_
 refine RD.p rfl rfl rfl rfl (fun w' => O.move rfl) ?_
 refine RD.q rfl rfl rfl rfl (fun w' hf => O.loadN (cs := (rv6.cs)) ag89 rfl (Cs.addsN [] ((hM.bx (i := 1) rfl).fut hf) rfl)) ?_
 refine RD.p rfl rfl rfl rfl (fun w' => O.fldA fl89_3 (by decide) rfl) ?_
 refine RD.q rfl rfl rfl rfl (fun w' hf => O.load sc22 rfl (Cs.adds [39] ((hM.bx (i := 1) rfl).fut hf) rfl)) ?_
 refine RD.p rfl rfl rfl rfl (fun w' => O.move rfl) ?_
 refine RD.p rfl rfl rfl rfl (fun w' => O.nilp rfl) ?_
 refine RD.p rfl rfl rfl rfl (fun w' => O.fldA fl72_1 (by decide) rfl) ?_
 refine RD.p rfl rfl rfl rfl (fun w' => O.fldA fl34_2 (by decide) rfl) ?_
 refine RD.q rfl rfl rfl rfl (fun w' hf => O.load sc22 rfl (Cs.adds [1, 2] ((hM.bx (i := 0) rfl).fut hf) rfl)) ?_
 refine obindE hF fun y13 hx14 hF => ?_
 refine RD.mcall rfl rfl trivial Tryz.func64 bd64 rfl rfl (c_ref24_Cache_idle _ _ _ cv1 _ (hM.lent [0] rfl (by decide)) rv6 _ hx14) fun v w15 hv => ?_
 obtain ⟨rfl, hN16⟩ := hv
 refine ⟨fun _ => hN16.fut, ?_⟩
 replace hM := hM.call0 hN16
 refine obindE hF fun y17 hx18 hF => ?_
 refine RD.mcall rfl rfl trivial Tryz.func90 bd90 rfl rfl (c_ref10_Plus _ rv6.f_First cv1.f_Bounds.f_Active _ hx18) fun v w19 hv => ?_
 obtain ⟨rfl, hN20⟩ := hv
 refine ⟨fun _ => hN20.fut, ?_⟩
 replace hM := hM.call0 hN20
 refine RD.p rfl rfl rfl rfl (fun w' => O.min2 rfl rfl) ?_
 refine RD.p rfl rfl rfl rfl (fun w' => O.assign rfl) ?_
 refine RD.nil ?_
 refine KQ.thn hQ12 ?_
 clear hQ12 Q12
 refine KC.ret ?_
 have hE := Option.some.inj hF
 clear hF
 subst hE
 replace hM := hM.pick [0] rfl (by decide)
 refine KQ.rets Tryz.results63 (RVs.cons (RV.tm rfl) RVs.nil) ?_
 exact ⟨_, rfl, rfl, hM⟩
theorem c_ref24_Cache_due (w : World) (g2 : Nat) (tg5 : TypeId) (cv1 : T_ref24_Cache) (vo4 : Value) (hL7 : Lent w [.box g2 tg5 (v64 cv1.f_Tick :: (cv1.f_Bounds.cs ++ [vo4]))]) (rv6 : T_ref22_Record) (r : Int) (hF : F_ref24_Cache_due cv1 rv6 = some r) :
  CallsR Tryz.prog 63 [.pointer (some ⟨g2, 0, none⟩), .agg (rv6.cs).toArray] w (fun v w' => v = v64 r ∧ Mem w [] w' []) := Calls.mono (c_ref24_Cache_due_B w g2 tg5 cv1 vo4 hL7 rv6 r hF) fun e w1 ⟨v, he, hv, hm⟩ => ⟨v, he, hv, hm.still hL7 rfl rfl⟩
end Go.Proofs.YtkpnocgfhipidaaGreat
