/- Printed by a program of this claim: each call returns what the plain function of its name gives. -/
import Derived.Test.YtkpnocgfhipidaaW1
import Derived.Test.YtkpnocgfhipidaaW2
import Derived.Test.YtkpnocgfhipidaaW6
import Derived.Test.YtkpnocgfhipidaaW7
import Derived.Test.YtkpnocgfhipidaaW8
import Derived.Test.YtkpnocgfhipidaaW9
import Derived.Test.YtkpnocgfhipidaaW11
import Derived.Test.YtkpnocgfhipidaaW12
set_option linter.unusedVariables false
namespace Go.Proofs.Ytkpnocgfhipidaa
open Go Go.Ox Go.RowKit
set_option maxRecDepth 100000 in
set_option maxHeartbeats 40000000 in
theorem c_law24_CacheKeeps (w : World) (b1 : T_cache_Bounds) (A3 : Option Addr) (c4 : Nat) (lv2 : List T_law24_Act) (hr5 : Rd w A3 c4 43 lv2.length (lv2.flatMap e_law24_Act)) (r : Bool) (hF : F_law24_CacheKeeps b1 lv2 = some r) :
  CallsR Try.prog 4 [.agg #[vI b1.f_Flows, v64 b1.f_Idle, v64 b1.f_Active, v64 b1.f_Packets, v64 b1.f_Bytes], .slice A3 (lv2).length c4] w (fun v w' => v = vB r ∧ Mem w [] w' []) := by
 refine calls_KC Try.func4 rfl Try.ntmps4 rfl ?_
 have hM := Mem.init w
 unfold F_law24_CacheKeeps at hF
 refine sr fun Q6 hQ6 => ?_
 refine RL.eff (E.box (vs := [vI b1.f_Flows, v64 b1.f_Idle, v64 b1.f_Active, v64 b1.f_Packets, v64 b1.f_Bytes]) hM rfl rfl) rfl fun v w8 hv => ?_
 clear hM
 obtain ⟨g7, rfl, hM, hf⟩ := hv
 refine va rfl rfl ?_
 refine nt hQ6 ?_
 clear hQ6 Q6
 refine KC.seqH fun Q10 hQ10 => ?_
 refine sr fun Q11 hQ11 => ?_
 refine vm rfl rfl ?_
 refine RL.val (O.len sl25 rfl) rfl ?_
 refine RL.val (O.gtr rfl rfl) rfl ?_
 refine nt hQ11 ?_
 clear hQ11 Q11
 refine KC.cond rfl (fun hc => ?_) (fun hc => ?_)
 ·rw [if_pos hc] at hF
  refine sr fun Q12 hQ12 => ?_
  refine obindE hF fun y13 hx14 hF => ?_
  refine RL.call Try.func6 bd6 rfl rfl (c_law24_works _ _ hx14) fun v w15 hv => ?_
  obtain ⟨rfl, hN16⟩ := hv
  replace hM := hM.call0 hN16
  refine va rfl rfl ?_
  refine nt hQ12 ?_
  clear hQ12 Q12
  refine KC.ret ?_
  refine KQ.thr hQ10 ?_
  clear hQ10 Q10
  have hE := Option.some.inj hF
  clear hF
  subst hE
  replace hM := hM.pick [] rfl (by decide)
  refine KQ.rets Try.results4 (RVs.cons (RV.tm rfl) RVs.nil) ?_
  exact ⟨_, rfl, rfl, hM⟩
 rw [if_neg (ne_true hc)] at hF
 refine KC.skip ?_
 refine KQ.thn hQ10 ?_
 clear hQ10 Q10
 refine sr fun Q17 hQ17 => ?_
 refine RL.val (O.loadN (cs := [vI b1.f_Flows, v64 b1.f_Idle, v64 b1.f_Active, v64 b1.f_Packets, v64 b1.f_Bytes]) ag24 rfl (Cs.addsN [] ((hM.bx (i := 0) rfl)) rfl)) rfl ?_
 refine RL.icall Try.func7 bd7 rfl rfl rfl Try.ntmps7 rfl ?_
 refine sr fun Q18 hQ18 => ?_
 refine RL.eff (E.box (vs := [vI b1.f_Flows, v64 b1.f_Idle, v64 b1.f_Active, v64 b1.f_Packets, v64 b1.f_Bytes]) hM rfl rfl) rfl fun v w20 hv => ?_
 clear hM
 obtain ⟨g19, rfl, hM, hf⟩ := hv
 refine va rfl rfl ?_
 refine va rfl rfl ?_
 refine nt hQ18 ?_
 clear hQ18 Q18
 refine KC.seqH fun Q22 hQ22 => ?_
 refine KC.cut (fun a w26 => ∃ (t24 : Bool), Kn 53 [(0, v64 0), (3, .pointer (some ⟨g19, 0, none⟩)), (35, vB t24)] a ∧ Mem w [] w26 [.box g19 24 [vI b1.f_Flows, v64 b1.f_Idle, v64 b1.f_Active, v64 b1.f_Packets, v64 b1.f_Bytes], .box g7 24 [vI b1.f_Flows, v64 b1.f_Idle, v64 b1.f_Active, v64 b1.f_Packets, v64 b1.f_Bytes]] ∧ F_law24_CacheKeeps_j1 b1 lv2 t24 = some r) ?_ ?_
 ·refine KC.region ?_
  refine RL.val (O.fldA fl24_0 (by decide) rfl) rfl ?_
  refine RL.val (O.load sc3 rfl (Cs.adds [0] ((hM.bx (i := 1) rfl)) rfl)) rfl ?_
  refine RL.val (O.lss rfl rfl) rfl ?_
  refine vm rfl rfl ?_
  refine RL.bcase (t := 11) rfl (fun hc => ?_) (fun hc => ?_)
  ·rw [if_pos hc] at hF
   refine RL.brun1 24 35 true (by kernel_rfl) ?_
   refine RL.nil ?_
   refine KQ.then_k ?_
   replace hM := hM.pick [1, 0] rfl (by decide)
   exact fun a ha => ⟨true, ha.less (less_cons rfl (less_cons rfl (less_cons rfl less_nil))), hM, hF⟩
  rw [if_neg (ne_true hc)] at hF
  refine RL.gval rfl rfl (O.fldA fl24_0 (by decide) rfl) rfl ?_
  refine RL.gval rfl rfl (O.load sc3 rfl (Cs.adds [0] ((hM.bx (i := 1) rfl)) rfl)) rfl ?_
  refine RL.gval rfl rfl (O.gtr rfl rfl) rfl ?_
  refine RL.val (O.pickf rfl rfl) rfl ?_
  refine vm rfl rfl ?_
  refine RL.bcase (t := 16) rfl (fun hc => ?_) (fun hc => ?_)
  ·rw [if_pos hc] at hF
   refine RL.brun1 19 35 true (by kernel_rfl) ?_
   refine RL.nil ?_
   refine KQ.then_k ?_
   replace hM := hM.pick [1, 0] rfl (by decide)
   exact fun a ha => ⟨true, ha.less (less_cons rfl (less_cons rfl (less_cons rfl less_nil))), hM, hF⟩
  rw [if_neg (ne_true hc)] at hF
  refine RL.gval rfl rfl (O.fldA fl24_1 (by decide) rfl) rfl ?_
  refine RL.gval rfl rfl (O.load sc22 rfl (Cs.adds [1] ((hM.bx (i := 1) rfl)) rfl)) rfl ?_
  refine RL.gval rfl rfl (O.eql rfl rfl) rfl ?_
  refine RL.val (O.pickf rfl rfl) rfl ?_
  refine vm rfl rfl ?_
  refine RL.bcase (t := 21) rfl (fun hc => ?_) (fun hc => ?_)
  ·rw [if_pos hc] at hF
   refine RL.brun1 14 35 true (by kernel_rfl) ?_
   refine RL.nil ?_
   refine KQ.then_k ?_
   replace hM := hM.pick [1, 0] rfl (by decide)
   exact fun a ha => ⟨true, ha.less (less_cons rfl (less_cons rfl (less_cons rfl less_nil))), hM, hF⟩
  rw [if_neg (ne_true hc)] at hF
  refine RL.gval rfl rfl (O.fldA fl24_2 (by decide) rfl) rfl ?_
  refine RL.gval rfl rfl (O.load sc22 rfl (Cs.adds [2] ((hM.bx (i := 1) rfl)) rfl)) rfl ?_
  refine RL.gval rfl rfl (O.eql rfl rfl) rfl ?_
  refine RL.val (O.pickf rfl rfl) rfl ?_
  refine vm rfl rfl ?_
  refine RL.bcase (t := 26) rfl (fun hc => ?_) (fun hc => ?_)
  ·rw [if_pos hc] at hF
   refine RL.brun1 9 35 true (by kernel_rfl) ?_
   refine RL.nil ?_
   refine KQ.then_k ?_
   replace hM := hM.pick [1, 0] rfl (by decide)
   exact fun a ha => ⟨true, ha.less (less_cons rfl (less_cons rfl (less_cons rfl less_nil))), hM, hF⟩
  rw [if_neg (ne_true hc)] at hF
  refine RL.gval rfl rfl (O.fldA fl24_3 (by decide) rfl) rfl ?_
  refine RL.gval rfl rfl (O.load sc22 rfl (Cs.adds [3] ((hM.bx (i := 1) rfl)) rfl)) rfl ?_
  refine RL.gval rfl rfl (O.eql rfl rfl) rfl ?_
  refine RL.val (O.pickf rfl rfl) rfl ?_
  refine vm rfl rfl ?_
  refine RL.bcase (t := 31) rfl (fun hc => ?_) (fun hc => ?_)
  ·rw [if_pos hc] at hF
   refine RL.brun1 4 35 true (by kernel_rfl) ?_
   refine RL.nil ?_
   refine KQ.then_k ?_
   replace hM := hM.pick [1, 0] rfl (by decide)
   exact fun a ha => ⟨true, ha.less (less_cons rfl (less_cons rfl (less_cons rfl less_nil))), hM, hF⟩
  rw [if_neg (ne_true hc)] at hF
  refine RL.gval rfl rfl (O.fldA fl24_4 (by decide) rfl) rfl ?_
  refine RL.gval rfl rfl (O.load sc22 rfl (Cs.adds [4] ((hM.bx (i := 1) rfl)) rfl)) rfl ?_
  refine RL.gval rfl rfl (O.eql rfl rfl) rfl ?_
  refine RL.val (O.pickf rfl rfl) rfl ?_
  refine RL.nil ?_
  refine KQ.then_k ?_
  replace hM := hM.pick [1, 0] rfl (by decide)
  exact fun a ha => ⟨(b1.f_Bytes == 0), ha.less (less_cons rfl (less_cons rfl (less_cons rfl less_nil))), hM, hF⟩
 rintro a w26 ⟨t24, ha, hM, hF⟩
 refine KC.app ha ?_
 clear ha
 unfold F_law24_CacheKeeps_j1 at hF
 refine KC.cond rfl (fun hc => ?_) (fun hc => ?_)
 ·rw [if_pos hc] at hF
  refine sr fun Q27 hQ27 => ?_
  refine va rfl rfl ?_
  refine va rfl rfl ?_
  refine nt hQ27 ?_
  clear hQ27 Q27
  refine KC.ret ?_
  refine KQ.thr hQ22 ?_
  clear hQ22 Q22
  refine KQ.rets Try.results7 (RVs.cons (RV.tm rfl) (RVs.cons (RV.tm rfl) RVs.nil)) ?_
  refine ⟨.tuple #[.pointer none, vI 2], rfl, ?_⟩
  refine vm rfl rfl ?_
  refine RL.val (O.ext rfl rfl) rfl ?_
  refine RL.val (O.ext rfl rfl) rfl ?_
  refine va rfl rfl ?_
  refine va rfl rfl ?_
  refine nt hQ17 ?_
  clear hQ17 Q17
  refine KC.seqH fun Q28 hQ28 => ?_
  refine sr fun Q29 hQ29 => ?_
  refine vm rfl rfl ?_
  refine RL.val (O.neq rfl rfl) rfl ?_
  refine nt hQ29 ?_
  clear hQ29 Q29
  refine KC.condT rfl ?_
  refine sr fun Q30 hQ30 => ?_
  refine obindE hF fun y31 hx32 hF => ?_
  refine RL.call Try.func6 bd6 rfl rfl (c_law24_works _ _ hx32) fun v w33 hv => ?_
  obtain ⟨rfl, hN34⟩ := hv
  replace hM := hM.call0 hN34
  refine va rfl rfl ?_
  refine nt hQ30 ?_
  clear hQ30 Q30
  refine KC.ret ?_
  refine KQ.thr hQ28 ?_
  clear hQ28 Q28
  have hE := Option.some.inj hF
  clear hF
  subst hE
  replace hM := hM.pick [] rfl (by decide)
  refine KQ.rets Try.results4 (RVs.cons (RV.tm rfl) RVs.nil) ?_
  exact ⟨_, rfl, rfl, hM⟩
 rw [if_neg (ne_true hc)] at hF
 refine KC.skip ?_
 refine KQ.thn hQ22 ?_
 clear hQ22 Q22
 refine sr fun Q35 hQ35 => ?_
 refine RL.val (O.fldA fl24_0 (by decide) rfl) rfl ?_
 refine RL.val (O.load sc3 rfl (Cs.adds [0] ((hM.bx (i := 0) rfl)) rfl)) rfl ?_
 refine RL.val (O.conv un3 Try.underlying72 rfl) rfl ?_
 refine obindE hF fun y36 hx37 hF => ?_
 refine RL.call Try.func25 bd25 rfl rfl (c_math_bits_Len _ (IntKind.u64.wrap b1.f_Flows) _ hx37) fun v w38 hv => ?_
 obtain ⟨rfl, hN39⟩ := hv
 replace hM := hM.call0 hN39
 refine cut_someE hF fun hq40 hF => ?_
 refine RL.val (O.shl rfl rfl (of_decide_eq_true hq40)) rfl ?_
 refine RL.icall Try.func24 bd24 rfl rfl rfl Try.ntmps24 rfl ?_
 refine sr fun Q41 hQ41 => ?_
 refine va rfl rfl ?_
 refine va rfl rfl ?_
 refine nt hQ41 ?_
 clear hQ41 Q41
 refine KC.seqH fun Q42 hQ42 => ?_
 refine KC.cut (fun a w46 => ∃ (ok43 : Bool), Kn 21 [(0, vI (Ox.shl .i64 1 y36)), (16, vB ok43)] a ∧ Mem w [] w46 [.box g7 24 [vI b1.f_Flows, v64 b1.f_Idle, v64 b1.f_Active, v64 b1.f_Packets, v64 b1.f_Bytes], .box g19 24 [vI b1.f_Flows, v64 b1.f_Idle, v64 b1.f_Active, v64 b1.f_Packets, v64 b1.f_Bytes]] ∧ F_law24_CacheKeeps_j2 b1 lv2 y36 ok43 = some r) ?_ ?_
 ·refine KC.region ?_
  refine vm rfl rfl ?_
  refine RL.val (O.lss rfl rfl) rfl ?_
  refine vm rfl rfl ?_
  refine RL.bcase (t := 6) rfl (fun hc => ?_) (fun hc => ?_)
  ·rw [if_pos hc] at hF
   refine RL.brun1 10 16 true (by kernel_rfl) ?_
   refine RL.nil ?_
   refine KQ.then_k ?_
   replace hM := hM.pick [1, 0] rfl (by decide)
   exact fun a ha => ⟨true, ha.less (less_cons rfl (less_cons rfl less_nil)), hM, hF⟩
  rw [if_neg (ne_true hc)] at hF
  refine RL.gval rfl rfl (O.move rfl) rfl ?_
  refine RL.gval rfl rfl (O.gtr rfl rfl) rfl ?_
  refine RL.val (O.pickf rfl rfl) rfl ?_
  refine vm rfl rfl ?_
  refine RL.bcase (t := 10) rfl (fun hc => ?_) (fun hc => ?_)
  ·rw [if_pos hc] at hF
   refine RL.brun1 6 16 true (by kernel_rfl) ?_
   refine RL.nil ?_
   refine KQ.then_k ?_
   replace hM := hM.pick [1, 0] rfl (by decide)
   exact fun a ha => ⟨true, ha.less (less_cons rfl (less_cons rfl less_nil)), hM, hF⟩
  rw [if_neg (ne_true hc)] at hF
  refine RL.gval rfl rfl (O.move rfl) rfl ?_
  refine RL.gval rfl rfl (O.move rfl) rfl ?_
  refine RL.gval rfl rfl (O.sub rfl rfl) rfl ?_
  refine RL.gval rfl rfl (O.and rfl rfl) rfl ?_
  refine RL.gval rfl rfl (O.neq rfl rfl) rfl ?_
  refine RL.val (O.pickf rfl rfl) rfl ?_
  refine RL.nil ?_
  refine KQ.then_k ?_
  replace hM := hM.pick [1, 0] rfl (by decide)
  exact fun a ha => ⟨((bits .and .i64 (Ox.shl .i64 1 y36) (IntKind.i64.wrap ((Ox.shl .i64 1 y36) - 1))) != 0), ha.less (less_cons rfl (less_cons rfl less_nil)), hM, hF⟩
 rintro a w46 ⟨ok43, ha, hM, hF⟩
 refine KC.app ha ?_
 clear ha
 unfold F_law24_CacheKeeps_j2 at hF
 refine KC.cond rfl (fun hc => ?_) (fun hc => ?_)
 ·rw [if_pos hc] at hF
  refine sr fun Q47 hQ47 => ?_
  refine va rfl rfl ?_
  refine va rfl rfl ?_
  refine nt hQ47 ?_
  clear hQ47 Q47
  refine KC.ret ?_
  refine KQ.thr hQ42 ?_
  clear hQ42 Q42
  refine KQ.rets Try.results24 (RVs.cons (RV.tm rfl) (RVs.cons (RV.tm rfl) RVs.nil)) ?_
  refine ⟨.tuple #[.pointer none, vI 2], rfl, ?_⟩
  refine vm rfl rfl ?_
  refine RL.val (O.ext rfl rfl) rfl ?_
  refine RL.val (O.ext rfl rfl) rfl ?_
  refine va rfl rfl ?_
  refine va rfl rfl ?_
  refine nt hQ35 ?_
  clear hQ35 Q35
  refine KC.seqH fun Q48 hQ48 => ?_
  refine sr fun Q49 hQ49 => ?_
  refine vm rfl rfl ?_
  refine RL.val (O.neq rfl rfl) rfl ?_
  refine nt hQ49 ?_
  clear hQ49 Q49
  refine KC.condT rfl ?_
  refine sr fun Q50 hQ50 => ?_
  refine vm rfl rfl ?_
  refine va rfl rfl ?_
  refine va rfl rfl ?_
  refine nt hQ50 ?_
  clear hQ50 Q50
  refine KC.ret ?_
  refine KQ.thr hQ48 ?_
  clear hQ48 Q48
  refine KQ.rets Try.results7 (RVs.cons (RV.tm rfl) (RVs.cons (RV.tm rfl) RVs.nil)) ?_
  refine ⟨.tuple #[.pointer none, vI 2], rfl, ?_⟩
  refine vm rfl rfl ?_
  refine RL.val (O.ext rfl rfl) rfl ?_
  refine RL.val (O.ext rfl rfl) rfl ?_
  refine va rfl rfl ?_
  refine va rfl rfl ?_
  refine nt hQ17 ?_
  clear hQ17 Q17
  refine KC.seqH fun Q51 hQ51 => ?_
  refine sr fun Q52 hQ52 => ?_
  refine vm rfl rfl ?_
  refine RL.val (O.neq rfl rfl) rfl ?_
  refine nt hQ52 ?_
  clear hQ52 Q52
  refine KC.condT rfl ?_
  refine sr fun Q53 hQ53 => ?_
  refine obindE hF fun y54 hx55 hF => ?_
  refine RL.call Try.func6 bd6 rfl rfl (c_law24_works _ _ hx55) fun v w56 hv => ?_
  obtain ⟨rfl, hN57⟩ := hv
  replace hM := hM.call0 hN57
  refine va rfl rfl ?_
  refine nt hQ53 ?_
  clear hQ53 Q53
  refine KC.ret ?_
  refine KQ.thr hQ51 ?_
  clear hQ51 Q51
  have hE := Option.some.inj hF
  clear hF
  subst hE
  replace hM := hM.pick [] rfl (by decide)
  refine KQ.rets Try.results4 (RVs.cons (RV.tm rfl) RVs.nil) ?_
  exact ⟨_, rfl, rfl, hM⟩
 rw [if_neg (ne_true hc)] at hF
 refine KC.skip ?_
 refine KQ.thn hQ42 ?_
 clear hQ42 Q42
 refine sr fun Q58 hQ58 => ?_
 refine vm rfl rfl ?_
 refine cut_someE hF fun hq61 hF => ?_
 refine RL.eff (E.mks (enc := e_table_Slot) (zr := (T_table_Slot.mk false (T_packet_Key.mk (T_addr_Addr.mk false (List.replicate 16 0)) (T_addr_Addr.mk false (List.replicate 16 0)) 0 0 0) 0)) hM sl94 ze102 rfl rfl (fun _ => rfl) rfl rfl rfl (of_decide_eq_true hq61)) rfl fun v w60 hv => ?_
 clear hM
 obtain ⟨A59, rfl, hM, hf⟩ := hv
 refine RL.val (O.bld (cs := [.slice A59 ((List.replicate (Int.toNat (Ox.shl .i64 1 y36)) ((T_table_Slot.mk false (T_packet_Key.mk (T_addr_Addr.mk false (List.replicate 16 0)) (T_addr_Addr.mk false (List.replicate 16 0)) 0 0 0) 0) : T_table_Slot))).length (Int.toNat (Ox.shl .i64 1 y36)), vI 0]) bt96 rfl (by kernel_rfl)) rfl ?_
 refine RL.eff (E.box (vs := [.slice A59 ((List.replicate (Int.toNat (Ox.shl .i64 1 y36)) ((T_table_Slot.mk false (T_packet_Key.mk (T_addr_Addr.mk false (List.replicate 16 0)) (T_addr_Addr.mk false (List.replicate 16 0)) 0 0 0) 0) : T_table_Slot))).length (Int.toNat (Ox.shl .i64 1 y36)), vI 0]) hM rfl rfl) rfl fun v w64 hv => ?_
 clear hM
 obtain ⟨g63, rfl, hM, hf⟩ := hv
 refine va rfl rfl ?_
 refine va rfl rfl ?_
 refine nt hQ58 ?_
 clear hQ58 Q58
 refine KC.ret ?_
 refine KQ.rets Try.results24 (RVs.cons (RV.tm rfl) (RVs.cons (RV.tm rfl) RVs.nil)) ?_
 refine ⟨.tuple #[.pointer (some ⟨g63, 0, none⟩), vI 0], rfl, ?_⟩
 refine vm rfl rfl ?_
 refine RL.val (O.ext rfl rfl) rfl ?_
 refine RL.val (O.ext rfl rfl) rfl ?_
 refine va rfl rfl ?_
 refine va rfl rfl ?_
 refine nt hQ35 ?_
 clear hQ35 Q35
 refine KC.seqH fun Q66 hQ66 => ?_
 refine sr fun Q67 hQ67 => ?_
 refine vm rfl rfl ?_
 refine RL.val (O.neq rfl rfl) rfl ?_
 refine nt hQ67 ?_
 clear hQ67 Q67
 refine KC.condF rfl ?_
 refine KC.skip ?_
 refine KQ.thn hQ66 ?_
 clear hQ66 Q66
 refine sr fun Q68 hQ68 => ?_
 refine vm rfl rfl ?_
 refine RL.val (O.loadN (cs := [vI b1.f_Flows, v64 b1.f_Idle, v64 b1.f_Active, v64 b1.f_Packets, v64 b1.f_Bytes]) ag24 rfl (Cs.addsN [] ((hM.bx (i := 1) rfl)) rfl)) rfl ?_
 refine vm rfl rfl ?_
 refine RL.val (O.bld (cs := [v64 0, vI b1.f_Flows, v64 b1.f_Idle, v64 b1.f_Active, v64 b1.f_Packets, v64 b1.f_Bytes, .pointer (some ⟨g63, 0, none⟩), .slice none 0 0]) bt74 rfl (by kernel_rfl)) rfl ?_
 refine RL.eff (E.box (vs := [v64 0, vI b1.f_Flows, v64 b1.f_Idle, v64 b1.f_Active, v64 b1.f_Packets, v64 b1.f_Bytes, .pointer (some ⟨g63, 0, none⟩), .slice none 0 0]) hM rfl rfl) rfl fun v w70 hv => ?_
 clear hM
 obtain ⟨g69, rfl, hM, hf⟩ := hv
 refine va rfl rfl ?_
 refine va rfl rfl ?_
 refine nt hQ68 ?_
 clear hQ68 Q68
 refine KC.ret ?_
 refine KQ.rets Try.results7 (RVs.cons (RV.tm rfl) (RVs.cons (RV.tm rfl) RVs.nil)) ?_
 refine ⟨.tuple #[.pointer (some ⟨g69, 0, none⟩), vI 0], rfl, ?_⟩
 refine vm rfl rfl ?_
 refine RL.val (O.ext rfl rfl) rfl ?_
 refine RL.val (O.ext rfl rfl) rfl ?_
 refine va rfl rfl ?_
 refine va rfl rfl ?_
 refine nt hQ17 ?_
 clear hQ17 Q17
 replace hM := hM.pick [0, 2, 3, 4] rfl (by decide)
 refine KC.seqH fun Q72 hQ72 => ?_
 refine sr fun Q73 hQ73 => ?_
 refine vm rfl rfl ?_
 refine RL.val (O.neq rfl rfl) rfl ?_
 refine nt hQ73 ?_
 clear hQ73 Q73
 refine KC.condF rfl ?_
 refine KC.skip ?_
 refine KQ.thn hQ72 ?_
 clear hQ72 Q72
 refine sr fun Q74 hQ74 => ?_
 refine va rfl rfl ?_
 refine va rfl rfl ?_
 refine nt hQ74 ?_
 clear hQ74 Q74
 refine KC.seqH fun Q75 hQ75 => ?_
 refine sr fun Q76 hQ76 => ?_
 refine va rfl rfl ?_
 refine nt hQ76 ?_
 clear hQ76 Q76
 refine KC.block ?_
 refine KC.loop (fun k646 a w644 => ∃ (g625 : Nat) (A627 : Option Addr) (c628 : Nat) (A632 : Option Addr) (c633 : Nat) (A636 : Option Addr) (c637 : Nat) (A640 : Option Addr) (c641 : Nat) (cv618 : Int) (cv619 : Int) (cv620 : Int) (cv621 : Int) (cv622 : Int) (cv623 : Int) (cv629 : List T_table_Slot) (cv630 : Int) (cv634 : List T_flow_Record) (inv638 : List T_law24_Sum) (out642 : List T_law24_Sum) (i643 : Int), Kn 151 [(1, .slice A3 (lv2).length c4), (2, .pointer (some ⟨g7, 0, none⟩)), (5, .pointer (some ⟨g69, 0, none⟩)), (7, .slice A636 (inv638).length c637), (8, .slice A640 (out642).length c641), (9, vI i643)] a ∧ Mem w [] w644 [.box g7 24 [vI b1.f_Flows, v64 b1.f_Idle, v64 b1.f_Active, v64 b1.f_Packets, v64 b1.f_Bytes], .row A627 c628 102 39 (cv629).length ((cv629).flatMap e_table_Slot), .box g625 96 [.slice A627 (cv629).length c628, vI cv630], .row A632 c633 46 44 (cv634).length ((cv634).flatMap e_flow_Record), .box g69 74 [v64 cv618, vI cv619, v64 cv620, v64 cv621, v64 cv622, v64 cv623, .pointer (some ⟨g625, 0, none⟩), .slice A632 (cv634).length c633], .row A636 c637 89 39 (inv638).length ((inv638).flatMap e_law24_Sum), .row A640 c641 89 39 (out642).length ((out642).flatMap e_law24_Sum)] ∧ F_law24_CacheKeeps_L1 b1 lv2 k646 cv618 cv619 cv620 cv621 cv622 cv623 cv629 cv630 cv634 inv638 out642 i643 = some r) ?_ ?_
 ·replace hM := hM.nilrow 46 44
  replace hM := hM.nilrow 89 39
  replace hM := hM.nilrow 89 39
  replace hM := hM.pick [0, 1, 2, 4, 3, 5, 6] rfl (by decide)
  exact fun a ha => ⟨fuel0, g63, A59, (Int.toNat (Ox.shl .i64 1 y36)), none, 0, none, 0, none, 0, 0, b1.f_Flows, b1.f_Idle, b1.f_Active, b1.f_Packets, b1.f_Bytes, (List.replicate (Int.toNat (Ox.shl .i64 1 y36)) ((T_table_Slot.mk false (T_packet_Key.mk (T_addr_Addr.mk false (List.replicate 16 0)) (T_addr_Addr.mk false (List.replicate 16 0)) 0 0 0) 0) : T_table_Slot)), 0, ([]), ([]), ([]), 0, ha.less (less_cons rfl (less_cons rfl (less_cons rfl (less_cons rfl (less_cons rfl (less_cons rfl less_nil)))))), hM, hF⟩
 rintro k646 a w644 ⟨g625, A627, c628, A632, c633, A636, c637, A640, c641, cv618, cv619, cv620, cv621, cv622, cv623, cv629, cv630, cv634, inv638, out642, i643, ha, hM, hF⟩
 refine KC.app ha ?_
 clear ha
 cases k646 with
 | zero => exact (none_some hF).elim
 | succ k646 =>
 have hF : F_law24_CacheKeeps_l1 (F_law24_CacheKeeps_L1 b1 lv2 k646) b1 lv2 cv618 cv619 cv620 cv621 cv622 cv623 cv629 cv630 cv634 inv638 out642 i643 = some r := hF
 unfold F_law24_CacheKeeps_l1 at hF
 refine KC.seqH fun Q647 hQ647 => ?_
 refine sr fun Q648 hQ648 => ?_
 refine vm rfl rfl ?_
 refine vm rfl rfl ?_
 refine RL.val (O.len sl25 rfl) rfl ?_
 refine RL.val (O.lss rfl rfl) rfl ?_
 refine nt hQ648 ?_
 clear hQ648 Q648
 refine KC.cond rfl (fun hc => ?_) (fun hc => ?_)
 ·rw [if_pos hc] at hF
  refine KC.skip ?_
  refine KQ.thn hQ647 ?_
  clear hQ647 Q647
  refine KC.cut (fun a w902 => ∃ (g884 : Nat) (A886 : Option Addr) (c887 : Nat) (A891 : Option Addr) (c892 : Nat) (A895 : Option Addr) (c896 : Nat) (A899 : Option Addr) (c900 : Nat) (cv877 : Int) (cv878 : Int) (cv879 : Int) (cv880 : Int) (cv881 : Int) (cv882 : Int) (cv888 : List T_table_Slot) (cv889 : Int) (cv893 : List T_flow_Record) (inv897 : List T_law24_Sum) (out901 : List T_law24_Sum), Kn 151 [(1, .slice A3 (lv2).length c4), (2, .pointer (some ⟨g7, 0, none⟩)), (5, .pointer (some ⟨g69, 0, none⟩)), (7, .slice A895 (inv897).length c896), (8, .slice A899 (out901).length c900), (9, vI i643)] a ∧ Mem w [] w902 [.box g7 24 [vI b1.f_Flows, v64 b1.f_Idle, v64 b1.f_Active, v64 b1.f_Packets, v64 b1.f_Bytes], .row A886 c887 102 39 (cv888).length ((cv888).flatMap e_table_Slot), .box g884 96 [.slice A886 (cv888).length c887, vI cv889], .row A891 c892 46 44 (cv893).length ((cv893).flatMap e_flow_Record), .box g69 74 [v64 cv877, vI cv878, v64 cv879, v64 cv880, v64 cv881, v64 cv882, .pointer (some ⟨g884, 0, none⟩), .slice A891 (cv893).length c892], .row A895 c896 89 39 (inv897).length ((inv897).flatMap e_law24_Sum), .row A899 c900 89 39 (out901).length ((out901).flatMap e_law24_Sum)] ∧ F_law24_CacheKeeps_j3 i643 (F_law24_CacheKeeps_L1 b1 lv2 k646) cv877 cv878 cv879 cv880 cv881 cv882 cv888 cv889 cv893 inv897 out901 = some r) ?_ ?_
  ·refine KC.block ?_
   refine sr fun Q649 hQ649 => ?_
   refine vm rfl rfl ?_
   refine vm rfl rfl ?_
   refine obindE hF fun xv652 hx651 hF => ?_
   have hA650 := Rd.atN (f := e_law24_Act) (s := 43) (fun _ => rfl) (by decide) (hM.inp hr5 Off.nil) hx651
   refine RL.val (O.idxA sl25 (hA650) rfl rfl) rfl ?_
   refine RL.val (O.loadN (cs := [vI xv652.f_Do, vB xv652.f_Packet.f_Key.f_Src.f_Six, o8 xv652.f_Packet.f_Key.f_Src.f_B 0, o8 xv652.f_Packet.f_Key.f_Src.f_B 1, o8 xv652.f_Packet.f_Key.f_Src.f_B 2, o8 xv652.f_Packet.f_Key.f_Src.f_B 3, o8 xv652.f_Packet.f_Key.f_Src.f_B 4, o8 xv652.f_Packet.f_Key.f_Src.f_B 5, o8 xv652.f_Packet.f_Key.f_Src.f_B 6, o8 xv652.f_Packet.f_Key.f_Src.f_B 7, o8 xv652.f_Packet.f_Key.f_Src.f_B 8, o8 xv652.f_Packet.f_Key.f_Src.f_B 9, o8 xv652.f_Packet.f_Key.f_Src.f_B 10, o8 xv652.f_Packet.f_Key.f_Src.f_B 11, o8 xv652.f_Packet.f_Key.f_Src.f_B 12, o8 xv652.f_Packet.f_Key.f_Src.f_B 13, o8 xv652.f_Packet.f_Key.f_Src.f_B 14, o8 xv652.f_Packet.f_Key.f_Src.f_B 15, vB xv652.f_Packet.f_Key.f_Dst.f_Six, o8 xv652.f_Packet.f_Key.f_Dst.f_B 0, o8 xv652.f_Packet.f_Key.f_Dst.f_B 1, o8 xv652.f_Packet.f_Key.f_Dst.f_B 2, o8 xv652.f_Packet.f_Key.f_Dst.f_B 3, o8 xv652.f_Packet.f_Key.f_Dst.f_B 4, o8 xv652.f_Packet.f_Key.f_Dst.f_B 5, o8 xv652.f_Packet.f_Key.f_Dst.f_B 6, o8 xv652.f_Packet.f_Key.f_Dst.f_B 7, o8 xv652.f_Packet.f_Key.f_Dst.f_B 8, o8 xv652.f_Packet.f_Key.f_Dst.f_B 9, o8 xv652.f_Packet.f_Key.f_Dst.f_B 10, o8 xv652.f_Packet.f_Key.f_Dst.f_B 11, o8 xv652.f_Packet.f_Key.f_Dst.f_B 12, o8 xv652.f_Packet.f_Key.f_Dst.f_B 13, o8 xv652.f_Packet.f_Key.f_Dst.f_B 14, o8 xv652.f_Packet.f_Key.f_Dst.f_B 15, v8 xv652.f_Packet.f_Key.f_Proto, v16 xv652.f_Packet.f_Key.f_SrcPort, v16 xv652.f_Packet.f_Key.f_DstPort, vI xv652.f_Packet.f_Length, v8 xv652.f_Packet.f_Flags, vB xv652.f_Packet.f_Fragment, v8 xv652.f_Class, v64 xv652.f_Tick]) ag40 rfl (hA650).cells) rfl ?_
   refine RL.eff (E.alloc hM ze40) rfl fun v w654 hv => ?_
   clear hM
   obtain ⟨g653, rfl, hM, hf⟩ := hv
   refine RL.effs (E.stB (j := 7) (off := 0) (vs := [vI xv652.f_Do, vB xv652.f_Packet.f_Key.f_Src.f_Six, o8 xv652.f_Packet.f_Key.f_Src.f_B 0, o8 xv652.f_Packet.f_Key.f_Src.f_B 1, o8 xv652.f_Packet.f_Key.f_Src.f_B 2, o8 xv652.f_Packet.f_Key.f_Src.f_B 3, o8 xv652.f_Packet.f_Key.f_Src.f_B 4, o8 xv652.f_Packet.f_Key.f_Src.f_B 5, o8 xv652.f_Packet.f_Key.f_Src.f_B 6, o8 xv652.f_Packet.f_Key.f_Src.f_B 7, o8 xv652.f_Packet.f_Key.f_Src.f_B 8, o8 xv652.f_Packet.f_Key.f_Src.f_B 9, o8 xv652.f_Packet.f_Key.f_Src.f_B 10, o8 xv652.f_Packet.f_Key.f_Src.f_B 11, o8 xv652.f_Packet.f_Key.f_Src.f_B 12, o8 xv652.f_Packet.f_Key.f_Src.f_B 13, o8 xv652.f_Packet.f_Key.f_Src.f_B 14, o8 xv652.f_Packet.f_Key.f_Src.f_B 15, vB xv652.f_Packet.f_Key.f_Dst.f_Six, o8 xv652.f_Packet.f_Key.f_Dst.f_B 0, o8 xv652.f_Packet.f_Key.f_Dst.f_B 1, o8 xv652.f_Packet.f_Key.f_Dst.f_B 2, o8 xv652.f_Packet.f_Key.f_Dst.f_B 3, o8 xv652.f_Packet.f_Key.f_Dst.f_B 4, o8 xv652.f_Packet.f_Key.f_Dst.f_B 5, o8 xv652.f_Packet.f_Key.f_Dst.f_B 6, o8 xv652.f_Packet.f_Key.f_Dst.f_B 7, o8 xv652.f_Packet.f_Key.f_Dst.f_B 8, o8 xv652.f_Packet.f_Key.f_Dst.f_B 9, o8 xv652.f_Packet.f_Key.f_Dst.f_B 10, o8 xv652.f_Packet.f_Key.f_Dst.f_B 11, o8 xv652.f_Packet.f_Key.f_Dst.f_B 12, o8 xv652.f_Packet.f_Key.f_Dst.f_B 13, o8 xv652.f_Packet.f_Key.f_Dst.f_B 14, o8 xv652.f_Packet.f_Key.f_Dst.f_B 15, v8 xv652.f_Packet.f_Key.f_Proto, v16 xv652.f_Packet.f_Key.f_SrcPort, v16 xv652.f_Packet.f_Key.f_DstPort, vI xv652.f_Packet.f_Length, v8 xv652.f_Packet.f_Flags, vB xv652.f_Packet.f_Fragment, v8 xv652.f_Class, v64 xv652.f_Tick]) (cs' := [vI xv652.f_Do, vB xv652.f_Packet.f_Key.f_Src.f_Six, o8 xv652.f_Packet.f_Key.f_Src.f_B 0, o8 xv652.f_Packet.f_Key.f_Src.f_B 1, o8 xv652.f_Packet.f_Key.f_Src.f_B 2, o8 xv652.f_Packet.f_Key.f_Src.f_B 3, o8 xv652.f_Packet.f_Key.f_Src.f_B 4, o8 xv652.f_Packet.f_Key.f_Src.f_B 5, o8 xv652.f_Packet.f_Key.f_Src.f_B 6, o8 xv652.f_Packet.f_Key.f_Src.f_B 7, o8 xv652.f_Packet.f_Key.f_Src.f_B 8, o8 xv652.f_Packet.f_Key.f_Src.f_B 9, o8 xv652.f_Packet.f_Key.f_Src.f_B 10, o8 xv652.f_Packet.f_Key.f_Src.f_B 11, o8 xv652.f_Packet.f_Key.f_Src.f_B 12, o8 xv652.f_Packet.f_Key.f_Src.f_B 13, o8 xv652.f_Packet.f_Key.f_Src.f_B 14, o8 xv652.f_Packet.f_Key.f_Src.f_B 15, vB xv652.f_Packet.f_Key.f_Dst.f_Six, o8 xv652.f_Packet.f_Key.f_Dst.f_B 0, o8 xv652.f_Packet.f_Key.f_Dst.f_B 1, o8 xv652.f_Packet.f_Key.f_Dst.f_B 2, o8 xv652.f_Packet.f_Key.f_Dst.f_B 3, o8 xv652.f_Packet.f_Key.f_Dst.f_B 4, o8 xv652.f_Packet.f_Key.f_Dst.f_B 5, o8 xv652.f_Packet.f_Key.f_Dst.f_B 6, o8 xv652.f_Packet.f_Key.f_Dst.f_B 7, o8 xv652.f_Packet.f_Key.f_Dst.f_B 8, o8 xv652.f_Packet.f_Key.f_Dst.f_B 9, o8 xv652.f_Packet.f_Key.f_Dst.f_B 10, o8 xv652.f_Packet.f_Key.f_Dst.f_B 11, o8 xv652.f_Packet.f_Key.f_Dst.f_B 12, o8 xv652.f_Packet.f_Key.f_Dst.f_B 13, o8 xv652.f_Packet.f_Key.f_Dst.f_B 14, o8 xv652.f_Packet.f_Key.f_Dst.f_B 15, v8 xv652.f_Packet.f_Key.f_Proto, v16 xv652.f_Packet.f_Key.f_SrcPort, v16 xv652.f_Packet.f_Key.f_DstPort, vI xv652.f_Packet.f_Length, v8 xv652.f_Packet.f_Flags, vB xv652.f_Packet.f_Fragment, v8 xv652.f_Class, v64 xv652.f_Tick]) hM rfl sz40 rfl (adds_eq [] rfl) rfl rfl (One.all rfl) rfl rfl) fun w656 hM1 => ?_
   clear hM
   have hM := hM1
   clear hM1
   refine nt hQ649 ?_
   clear hQ649 Q649
   refine sr fun Q657 hQ657 => ?_
   refine va rfl rfl ?_
   refine nt hQ657 ?_
   clear hQ657 Q657
   refine KC.cut (fun a w811 => ∃ (g792 : Nat) (A794 : Option Addr) (c795 : Nat) (A799 : Option Addr) (c800 : Nat) (A803 : Option Addr) (c804 : Nat) (A808 : Option Addr) (c809 : Nat) (cv785 : Int) (cv786 : Int) (cv787 : Int) (cv788 : Int) (cv789 : Int) (cv790 : Int) (cv796 : List T_table_Slot) (cv797 : Int) (cv801 : List T_flow_Record) (inv805 : List T_law24_Sum) (done810 : List T_flow_Record), Kn 151 [(1, .slice A3 (lv2).length c4), (2, .pointer (some ⟨g7, 0, none⟩)), (5, .pointer (some ⟨g69, 0, none⟩)), (7, .slice A803 (inv805).length c804), (8, .slice A640 (out642).length c641), (9, vI i643), (11, .slice A808 (done810).length c809)] a ∧ Mem w [] w811 [.box g7 24 [vI b1.f_Flows, v64 b1.f_Idle, v64 b1.f_Active, v64 b1.f_Packets, v64 b1.f_Bytes], .row A794 c795 102 39 (cv796).length ((cv796).flatMap e_table_Slot), .box g792 96 [.slice A794 (cv796).length c795, vI cv797], .row A799 c800 46 44 (cv801).length ((cv801).flatMap e_flow_Record), .box g69 74 [v64 cv785, vI cv786, v64 cv787, v64 cv788, v64 cv789, v64 cv790, .pointer (some ⟨g792, 0, none⟩), .slice A799 (cv801).length c800], .row A803 c804 89 39 (inv805).length ((inv805).flatMap e_law24_Sum), .row A640 c641 89 39 (out642).length ((out642).flatMap e_law24_Sum), .row A808 c809 46 44 (done810).length ((done810).flatMap e_flow_Record)] ∧ F_law24_CacheKeeps_j4 b1 out642 i643 (F_law24_CacheKeeps_L1 b1 lv2 k646) cv785 cv786 cv787 cv788 cv789 cv790 cv796 cv797 cv801 inv805 done810 = some r) ?_ ?_
   ·refine sr fun Q658 hQ658 => ?_
    refine RL.val (O.fldA fl40_0 (by decide) rfl) rfl ?_
    refine RL.val (O.load sc3 rfl (Cs.adds [0] ((hM.bx (i := 7) rfl)) rfl)) rfl ?_
    refine obindE hF fun y659 hx660 hF => ?_
    refine RL.call Try.func10 bd10 rfl rfl (c_kit_Pick _ xv652.f_Do 8 _ hx660) fun v w661 hv => ?_
    obtain ⟨rfl, hN662⟩ := hv
    replace hM := hM.call0 hN662
    refine nt hQ658 ?_
    clear hQ658 Q658
    refine KC.block ?_
    refine sr fun Q663 hQ663 => ?_
    refine RL.val (O.eql rfl rfl) rfl ?_
    refine va rfl rfl ?_
    refine nt hQ663 ?_
    clear hQ663 Q663
    refine KC.cond rfl (fun hc => ?_) (fun hc => ?_)
    ·rw [if_pos hc] at hF
     refine KC.region ?_
     refine vm rfl rfl ?_
     refine obindE hF fun y664 hx665 hF => ?_
     refine RL.call Try.func11 bd11 rfl rfl (c_cache_Cache_Flush _ _ _ (T_cache_Cache.mk cv618 (T_cache_Bounds.mk cv619 cv620 cv621 cv622 cv623) (T_table_Table.mk cv629 cv630) cv634) _ _ _ _ _ (hM.lent [4, 2, 1, 3] rfl (by decide)) _ hx665) fun v w666 hv => ?_
     obtain ⟨g668, A670, c671, A673, c674, A676, c677, rfl, hN667⟩ := hv
     replace hM := hM.callL [4, 2, 1, 3] [0, 5, 6, 7] rfl rfl (by decide) rfl hN667
     refine va rfl rfl ?_
     refine RL.nil ?_
     refine KQ.blk_n ?_
     refine KQ.then_k ?_
     replace hM := hM.pick [0, 6, 5, 7, 4, 1, 2, 8] rfl (by decide)
     exact fun a ha => ⟨g668, A670, c671, A673, c674, A636, c637, A676, c677, y664.2.f_tick, y664.2.f_bounds.f_Flows, y664.2.f_bounds.f_Idle, y664.2.f_bounds.f_Active, y664.2.f_bounds.f_Packets, y664.2.f_bounds.f_Bytes, y664.2.f_places.f_slots, y664.2.f_places.f_many, y664.2.f_flows, inv638, y664.1, ha.less (less_cons rfl (less_cons rfl (less_cons rfl (less_cons rfl (less_cons rfl (less_cons rfl (less_cons rfl less_nil))))))), hM, hF⟩
    rw [if_neg (ne_true hc)] at hF
    refine KC.cut (fun a w689 => ∃ (t688 : Bool), Kn 151 [(1, .slice A3 (lv2).length c4), (2, .pointer (some ⟨g7, 0, none⟩)), (5, .pointer (some ⟨g69, 0, none⟩)), (7, .slice A636 (inv638).length c637), (8, .slice A640 (out642).length c641), (9, vI i643), (10, .pointer (some ⟨g653, 0, none⟩)), (84, vB t688)] a ∧ Mem w [] w689 [.box g7 24 [vI b1.f_Flows, v64 b1.f_Idle, v64 b1.f_Active, v64 b1.f_Packets, v64 b1.f_Bytes], .row A627 c628 102 39 (cv629).length ((cv629).flatMap e_table_Slot), .box g625 96 [.slice A627 (cv629).length c628, vI cv630], .row A632 c633 46 44 (cv634).length ((cv634).flatMap e_flow_Record), .box g69 74 [v64 cv618, vI cv619, v64 cv620, v64 cv621, v64 cv622, v64 cv623, .pointer (some ⟨g625, 0, none⟩), .slice A632 (cv634).length c633], .row A636 c637 89 39 (inv638).length ((inv638).flatMap e_law24_Sum), .row A640 c641 89 39 (out642).length ((out642).flatMap e_law24_Sum), .box g653 40 [vI xv652.f_Do, vB xv652.f_Packet.f_Key.f_Src.f_Six, o8 xv652.f_Packet.f_Key.f_Src.f_B 0, o8 xv652.f_Packet.f_Key.f_Src.f_B 1, o8 xv652.f_Packet.f_Key.f_Src.f_B 2, o8 xv652.f_Packet.f_Key.f_Src.f_B 3, o8 xv652.f_Packet.f_Key.f_Src.f_B 4, o8 xv652.f_Packet.f_Key.f_Src.f_B 5, o8 xv652.f_Packet.f_Key.f_Src.f_B 6, o8 xv652.f_Packet.f_Key.f_Src.f_B 7, o8 xv652.f_Packet.f_Key.f_Src.f_B 8, o8 xv652.f_Packet.f_Key.f_Src.f_B 9, o8 xv652.f_Packet.f_Key.f_Src.f_B 10, o8 xv652.f_Packet.f_Key.f_Src.f_B 11, o8 xv652.f_Packet.f_Key.f_Src.f_B 12, o8 xv652.f_Packet.f_Key.f_Src.f_B 13, o8 xv652.f_Packet.f_Key.f_Src.f_B 14, o8 xv652.f_Packet.f_Key.f_Src.f_B 15, vB xv652.f_Packet.f_Key.f_Dst.f_Six, o8 xv652.f_Packet.f_Key.f_Dst.f_B 0, o8 xv652.f_Packet.f_Key.f_Dst.f_B 1, o8 xv652.f_Packet.f_Key.f_Dst.f_B 2, o8 xv652.f_Packet.f_Key.f_Dst.f_B 3, o8 xv652.f_Packet.f_Key.f_Dst.f_B 4, o8 xv652.f_Packet.f_Key.f_Dst.f_B 5, o8 xv652.f_Packet.f_Key.f_Dst.f_B 6, o8 xv652.f_Packet.f_Key.f_Dst.f_B 7, o8 xv652.f_Packet.f_Key.f_Dst.f_B 8, o8 xv652.f_Packet.f_Key.f_Dst.f_B 9, o8 xv652.f_Packet.f_Key.f_Dst.f_B 10, o8 xv652.f_Packet.f_Key.f_Dst.f_B 11, o8 xv652.f_Packet.f_Key.f_Dst.f_B 12, o8 xv652.f_Packet.f_Key.f_Dst.f_B 13, o8 xv652.f_Packet.f_Key.f_Dst.f_B 14, o8 xv652.f_Packet.f_Key.f_Dst.f_B 15, v8 xv652.f_Packet.f_Key.f_Proto, v16 xv652.f_Packet.f_Key.f_SrcPort, v16 xv652.f_Packet.f_Key.f_DstPort, vI xv652.f_Packet.f_Length, v8 xv652.f_Packet.f_Flags, vB xv652.f_Packet.f_Fragment, v8 xv652.f_Class, v64 xv652.f_Tick]] ∧ F_law24_CacheKeeps_j6 b1 cv618 cv619 cv620 cv621 cv622 cv623 cv629 cv630 cv634 inv638 out642 i643 (F_law24_CacheKeeps_L1 b1 lv2 k646) xv652 t688 = some r) ?_ ?_
    ·refine sr fun Q679 hQ679 => ?_
     refine RL.val (O.eql rfl rfl) rfl ?_
     refine va rfl rfl ?_
     refine nt hQ679 ?_
     clear hQ679 Q679
     refine KC.cond rfl (fun hc => ?_) (fun hc => ?_)
     ·rw [if_pos hc] at hF
      refine KC.skip ?_
      refine KQ.then_k ?_
      exact fun a ha => ⟨(y659 == 5), ha.less (less_cons rfl (less_cons rfl (less_cons rfl (less_cons rfl (less_cons rfl (less_cons rfl (less_cons rfl (less_cons rfl less_nil)))))))), hM, hF⟩
     rw [if_neg (ne_true hc)] at hF
     refine KC.region ?_
     refine RL.val (O.eql rfl rfl) rfl ?_
     refine va rfl rfl ?_
     refine RL.nil ?_
     refine KQ.then_k ?_
     exact fun a ha => ⟨(y659 == 6), ha.less (less_cons rfl (less_cons rfl (less_cons rfl (less_cons rfl (less_cons rfl (less_cons rfl (less_cons rfl (less_cons rfl less_nil)))))))), hM, hF⟩
    rintro a w689 ⟨t688, ha, hM, hF⟩
    refine KC.app ha ?_
    clear ha
    unfold F_law24_CacheKeeps_j6 at hF
    refine KC.cond rfl (fun hc => ?_) (fun hc => ?_)
    ·rw [if_pos hc] at hF
     refine sr fun Q690 hQ690 => ?_
     refine vm rfl rfl ?_
     refine obindE hF fun y691 hx692 hF => ?_
     refine RL.call Try.func12 bd12 rfl rfl (c_cache_Cache_Tick _ _ _ (T_cache_Cache.mk cv618 (T_cache_Bounds.mk cv619 cv620 cv621 cv622 cv623) (T_table_Table.mk cv629 cv630) cv634) _ _ (hM.lent [4] rfl (by decide)) _ hx692) fun v w693 hv => ?_
     obtain ⟨rfl, hN694⟩ := hv
     replace hM := hM.call0 hN694
     refine va rfl rfl ?_
     refine nt hQ690 ?_
     clear hQ690 Q690
     refine sr fun Q695 hQ695 => ?_
     refine vm rfl rfl ?_
     refine RL.val (O.fldA fl40_3 (by decide) rfl) rfl ?_
     refine RL.val (O.load sc22 rfl (Cs.adds [42] ((hM.bx (i := 7) rfl)) rfl)) rfl ?_
     refine obindE hF fun y696 hx697 hF => ?_
     refine RL.call Try.func9 bd9 rfl rfl (c_cache_Cache_Advance _ _ _ (T_cache_Cache.mk cv618 (T_cache_Bounds.mk cv619 cv620 cv621 cv622 cv623) (T_table_Table.mk cv629 cv630) cv634) _ _ _ _ _ (hM.lent [4, 2, 1, 3] rfl (by decide)) xv652.f_Tick _ hx697) fun v w698 hv => ?_
     obtain ⟨g700, A702, c703, A705, c706, A708, c709, rfl, hN699⟩ := hv
     replace hM := hM.callL [4, 2, 1, 3] [0, 5, 6, 7] rfl rfl (by decide) rfl hN699
     refine va rfl rfl ?_
     refine nt hQ695 ?_
     clear hQ695 Q695
     refine KC.cut (fun a w746 => ∃ (g732 : Nat) (A734 : Option Addr) (c735 : Nat) (A739 : Option Addr) (c740 : Nat) (cv725 : Int) (cv726 : Int) (cv727 : Int) (cv728 : Int) (cv729 : Int) (cv730 : Int) (cv736 : List T_table_Slot) (cv737 : Int) (cv741 : List T_flow_Record) (t745 : Bool), Kn 151 [(1, .slice A3 (lv2).length c4), (2, .pointer (some ⟨g7, 0, none⟩)), (5, .pointer (some ⟨g69, 0, none⟩)), (7, .slice A636 (inv638).length c637), (8, .slice A640 (out642).length c641), (9, vI i643), (11, .slice A708 (y696.1).length c709), (102, vB t745)] a ∧ Mem w [] w746 [.box g7 24 [vI b1.f_Flows, v64 b1.f_Idle, v64 b1.f_Active, v64 b1.f_Packets, v64 b1.f_Bytes], .row A734 c735 102 39 (cv736).length ((cv736).flatMap e_table_Slot), .box g732 96 [.slice A734 (cv736).length c735, vI cv737], .row A739 c740 46 44 (cv741).length ((cv741).flatMap e_flow_Record), .box g69 74 [v64 cv725, vI cv726, v64 cv727, v64 cv728, v64 cv729, v64 cv730, .pointer (some ⟨g732, 0, none⟩), .slice A739 (cv741).length c740], .row A636 c637 89 39 (inv638).length ((inv638).flatMap e_law24_Sum), .row A640 c641 89 39 (out642).length ((out642).flatMap e_law24_Sum), .row A708 c709 46 44 (y696.1).length ((y696.1).flatMap e_flow_Record)] ∧ F_law24_CacheKeeps_j7 b1 inv638 out642 i643 (F_law24_CacheKeeps_L1 b1 lv2 k646) y696 cv725 cv726 cv727 cv728 cv729 cv730 cv736 cv737 cv741 t745 = some r) ?_ ?_
     ·refine KC.region ?_
      refine RL.val (O.fldA fl40_3 (by decide) rfl) rfl ?_
      refine RL.val (O.load sc22 rfl (Cs.adds [42] ((hM.bx (i := 3) rfl)) rfl)) rfl ?_
      refine vm rfl rfl ?_
      refine RL.val (O.geq rfl rfl) rfl ?_
      refine vm rfl rfl ?_
      refine RL.bcase (t := 97) rfl (fun hc => ?_) (fun hc => ?_)
      ·rw [if_pos hc] at hF
       refine RL.gval rfl rfl (O.move rfl) rfl ?_
       refine RL.gval rfl rfl (O.loadN (cs := [vI b1.f_Flows, v64 b1.f_Idle, v64 b1.f_Active, v64 b1.f_Packets, v64 b1.f_Bytes]) ag24 rfl (Cs.addsN [] ((hM.bx (i := 0) rfl)) rfl)) rfl ?_
       refine obindE hF fun y711 hx712 hF => ?_
       refine RL.gcall rfl rfl Try.func13 bd13 rfl rfl (c_law24_young _ _ _ y696.2 _ _ _ _ _ (hM.lent [4, 5, 6, 7] rfl (by decide)) b1 _ hx712) fun v w713 hv => ?_
       obtain ⟨g715, A717, c718, A720, c721, rfl, hN714⟩ := hv
       replace hM := hM.callL [4, 5, 6, 7] [0, 1, 2, 3, 8] rfl rfl (by decide) rfl hN714
       refine RL.gval rfl rfl (O.not rfl) rfl ?_
       refine RL.val (O.pickt rfl rfl) rfl ?_
       refine RL.nil ?_
       refine KQ.then_k ?_
       replace hM := hM.pick [0, 7, 6, 8, 5, 1, 2, 4] rfl (by decide)
       exact fun a ha => ⟨g715, A717, c718, A720, c721, y711.2.f_tick, y711.2.f_bounds.f_Flows, y711.2.f_bounds.f_Idle, y711.2.f_bounds.f_Active, y711.2.f_bounds.f_Packets, y711.2.f_bounds.f_Bytes, y711.2.f_places.f_slots, y711.2.f_places.f_many, y711.2.f_flows, (!y711.1), ha.less (less_cons rfl (less_cons rfl (less_cons rfl (less_cons rfl (less_cons rfl (less_cons rfl (less_cons rfl (less_cons rfl less_nil)))))))), hM, hF⟩
      rw [if_neg (ne_true hc)] at hF
      refine RL.gskip rfl rfl rfl rfl ?_
      refine RL.gskip rfl rfl rfl rfl ?_
      refine RL.gskip rfl rfl rfl rfl ?_
      refine RL.gskip rfl rfl rfl rfl ?_
      refine RL.val (O.pickf rfl rfl) rfl ?_
      refine RL.nil ?_
      refine KQ.then_k ?_
      replace hM := hM.pick [0, 6, 5, 7, 4, 1, 2, 8] rfl (by decide)
      exact fun a ha => ⟨g700, A702, c703, A705, c706, y696.2.f_tick, y696.2.f_bounds.f_Flows, y696.2.f_bounds.f_Idle, y696.2.f_bounds.f_Active, y696.2.f_bounds.f_Packets, y696.2.f_bounds.f_Bytes, y696.2.f_places.f_slots, y696.2.f_places.f_many, y696.2.f_flows, false, ha.less (less_cons rfl (less_cons rfl (less_cons rfl (less_cons rfl (less_cons rfl (less_cons rfl (less_cons rfl (less_cons rfl less_nil)))))))), hM, hF⟩
     rintro a w746 ⟨g732, A734, c735, A739, c740, cv725, cv726, cv727, cv728, cv729, cv730, cv736, cv737, cv741, t745, ha, hM, hF⟩
     refine KC.app ha ?_
     clear ha
     unfold F_law24_CacheKeeps_j7 at hF
     refine KC.cond rfl (fun hc => ?_) (fun hc => ?_)
     ·rw [if_pos hc] at hF
      refine sr fun Q747 hQ747 => ?_
      refine va rfl rfl ?_
      refine nt hQ747 ?_
      clear hQ747 Q747
      refine KC.ret ?_
      refine KQ.blk_r ?_
      refine KQ.then_r ?_
      refine KQ.blk_r ?_
      refine KQ.then_r ?_
      refine KQ.then_r ?_
      refine KQ.blk_r ?_
      refine KQ.thr hQ75 ?_
      clear hQ75 Q75
      have hE := Option.some.inj hF
      clear hF
      subst hE
      replace hM := hM.pick [] rfl (by decide)
      refine KQ.rets Try.results4 (RVs.cons (RV.tm rfl) RVs.nil) ?_
      exact ⟨_, rfl, rfl, hM⟩
     rw [if_neg (ne_true hc)] at hF
     refine KC.skip ?_
     refine KQ.blk_n ?_
     refine KQ.then_k ?_
     exact fun a ha => ⟨g732, A734, c735, A739, c740, A636, c637, A708, c709, cv725, cv726, cv727, cv728, cv729, cv730, cv736, cv737, cv741, inv638, y696.1, ha.less (less_cons rfl (less_cons rfl (less_cons rfl (less_cons rfl (less_cons rfl (less_cons rfl (less_cons rfl less_nil))))))), hM, hF⟩
    rw [if_neg (ne_true hc)] at hF
    refine KC.seqH fun Q748 hQ748 => ?_
    refine sr fun Q749 hQ749 => ?_
    refine RL.val (O.fldA fl40_1 (by decide) rfl) rfl ?_
    refine RL.val (O.fldA fl38_0 (by decide) rfl) rfl ?_
    refine RL.val (O.loadN (cs := [vB xv652.f_Packet.f_Key.f_Src.f_Six, o8 xv652.f_Packet.f_Key.f_Src.f_B 0, o8 xv652.f_Packet.f_Key.f_Src.f_B 1, o8 xv652.f_Packet.f_Key.f_Src.f_B 2, o8 xv652.f_Packet.f_Key.f_Src.f_B 3, o8 xv652.f_Packet.f_Key.f_Src.f_B 4, o8 xv652.f_Packet.f_Key.f_Src.f_B 5, o8 xv652.f_Packet.f_Key.f_Src.f_B 6, o8 xv652.f_Packet.f_Key.f_Src.f_B 7, o8 xv652.f_Packet.f_Key.f_Src.f_B 8, o8 xv652.f_Packet.f_Key.f_Src.f_B 9, o8 xv652.f_Packet.f_Key.f_Src.f_B 10, o8 xv652.f_Packet.f_Key.f_Src.f_B 11, o8 xv652.f_Packet.f_Key.f_Src.f_B 12, o8 xv652.f_Packet.f_Key.f_Src.f_B 13, o8 xv652.f_Packet.f_Key.f_Src.f_B 14, o8 xv652.f_Packet.f_Key.f_Src.f_B 15, vB xv652.f_Packet.f_Key.f_Dst.f_Six, o8 xv652.f_Packet.f_Key.f_Dst.f_B 0, o8 xv652.f_Packet.f_Key.f_Dst.f_B 1, o8 xv652.f_Packet.f_Key.f_Dst.f_B 2, o8 xv652.f_Packet.f_Key.f_Dst.f_B 3, o8 xv652.f_Packet.f_Key.f_Dst.f_B 4, o8 xv652.f_Packet.f_Key.f_Dst.f_B 5, o8 xv652.f_Packet.f_Key.f_Dst.f_B 6, o8 xv652.f_Packet.f_Key.f_Dst.f_B 7, o8 xv652.f_Packet.f_Key.f_Dst.f_B 8, o8 xv652.f_Packet.f_Key.f_Dst.f_B 9, o8 xv652.f_Packet.f_Key.f_Dst.f_B 10, o8 xv652.f_Packet.f_Key.f_Dst.f_B 11, o8 xv652.f_Packet.f_Key.f_Dst.f_B 12, o8 xv652.f_Packet.f_Key.f_Dst.f_B 13, o8 xv652.f_Packet.f_Key.f_Dst.f_B 14, o8 xv652.f_Packet.f_Key.f_Dst.f_B 15, v8 xv652.f_Packet.f_Key.f_Proto, v16 xv652.f_Packet.f_Key.f_SrcPort, v16 xv652.f_Packet.f_Key.f_DstPort]) ag36 rfl (Cs.addsN [1, 0] ((hM.bx (i := 7) rfl)) rfl)) rfl ?_
    refine obindE hF fun y750 hx751 hF => ?_
    refine RL.call Try.func14 bd14 rfl rfl (c_packet_Key_Right _ xv652.f_Packet.f_Key _ hx751) fun v w752 hv => ?_
    obtain ⟨rfl, hN753⟩ := hv
    replace hM := hM.call0 hN753
    refine RL.val (O.not rfl) rfl ?_
    refine nt hQ749 ?_
    clear hQ749 Q749
    refine KC.cond rfl (fun hc => ?_) (fun hc => ?_)
    ·rw [if_pos hc] at hF
     refine KC.exit ?_
     refine KQ.thx hQ748 ?_
     clear hQ748 Q748
     refine KQ.blk_y rfl ?_
     refine KQ.then_x ?_
     refine KQ.blk_x ?_
     refine KQ.then_k ?_
     replace hM := hM.pick [0, 1, 2, 3, 4, 5, 6] rfl (by decide)
     exact fun a ha => ⟨g625, A627, c628, A632, c633, A636, c637, A640, c641, cv618, cv619, cv620, cv621, cv622, cv623, cv629, cv630, cv634, inv638, out642, ha.less (less_cons rfl (less_cons rfl (less_cons rfl (less_cons rfl (less_cons rfl (less_cons rfl less_nil)))))), hM, hF⟩
    rw [if_neg (ne_true hc)] at hF
    refine KC.skip ?_
    refine KQ.thn hQ748 ?_
    clear hQ748 Q748
    refine sr fun Q754 hQ754 => ?_
    refine RL.val (O.fldA fl40_1 (by decide) rfl) rfl ?_
    refine RL.val (O.fldA fl38_1 (by decide) rfl) rfl ?_
    refine RL.val (O.load sc3 rfl (Cs.adds [1, 37] ((hM.bx (i := 7) rfl)) rfl)) rfl ?_
    refine RL.val (O.rem rfl rfl (by decide)) rfl ?_
    refine RL.val (O.fldA fl40_1 (by decide) rfl) rfl ?_
    refine RL.val (O.fldA fl38_1 (by decide) rfl) rfl ?_
    refine RL.effs (E.stB (j := 7) (off := 38) (vs := [vI (Int.tmod xv652.f_Packet.f_Length 100000)]) (cs' := [vI xv652.f_Do, vB xv652.f_Packet.f_Key.f_Src.f_Six, o8 xv652.f_Packet.f_Key.f_Src.f_B 0, o8 xv652.f_Packet.f_Key.f_Src.f_B 1, o8 xv652.f_Packet.f_Key.f_Src.f_B 2, o8 xv652.f_Packet.f_Key.f_Src.f_B 3, o8 xv652.f_Packet.f_Key.f_Src.f_B 4, o8 xv652.f_Packet.f_Key.f_Src.f_B 5, o8 xv652.f_Packet.f_Key.f_Src.f_B 6, o8 xv652.f_Packet.f_Key.f_Src.f_B 7, o8 xv652.f_Packet.f_Key.f_Src.f_B 8, o8 xv652.f_Packet.f_Key.f_Src.f_B 9, o8 xv652.f_Packet.f_Key.f_Src.f_B 10, o8 xv652.f_Packet.f_Key.f_Src.f_B 11, o8 xv652.f_Packet.f_Key.f_Src.f_B 12, o8 xv652.f_Packet.f_Key.f_Src.f_B 13, o8 xv652.f_Packet.f_Key.f_Src.f_B 14, o8 xv652.f_Packet.f_Key.f_Src.f_B 15, vB xv652.f_Packet.f_Key.f_Dst.f_Six, o8 xv652.f_Packet.f_Key.f_Dst.f_B 0, o8 xv652.f_Packet.f_Key.f_Dst.f_B 1, o8 xv652.f_Packet.f_Key.f_Dst.f_B 2, o8 xv652.f_Packet.f_Key.f_Dst.f_B 3, o8 xv652.f_Packet.f_Key.f_Dst.f_B 4, o8 xv652.f_Packet.f_Key.f_Dst.f_B 5, o8 xv652.f_Packet.f_Key.f_Dst.f_B 6, o8 xv652.f_Packet.f_Key.f_Dst.f_B 7, o8 xv652.f_Packet.f_Key.f_Dst.f_B 8, o8 xv652.f_Packet.f_Key.f_Dst.f_B 9, o8 xv652.f_Packet.f_Key.f_Dst.f_B 10, o8 xv652.f_Packet.f_Key.f_Dst.f_B 11, o8 xv652.f_Packet.f_Key.f_Dst.f_B 12, o8 xv652.f_Packet.f_Key.f_Dst.f_B 13, o8 xv652.f_Packet.f_Key.f_Dst.f_B 14, o8 xv652.f_Packet.f_Key.f_Dst.f_B 15, v8 xv652.f_Packet.f_Key.f_Proto, v16 xv652.f_Packet.f_Key.f_SrcPort, v16 xv652.f_Packet.f_Key.f_DstPort, vI (Int.tmod xv652.f_Packet.f_Length 100000), v8 xv652.f_Packet.f_Flags, vB xv652.f_Packet.f_Fragment, v8 xv652.f_Class, v64 xv652.f_Tick]) hM rfl sz3 rfl (adds_eq [1, 37] rfl) rfl rfl (One.all rfl) rfl rfl) fun w755 hM1 => ?_
    clear hM
    have hM := hM1
    clear hM1
    refine nt hQ754 ?_
    clear hQ754 Q754
    refine sr fun Q756 hQ756 => ?_
    refine vm rfl rfl ?_
    refine RL.val (O.fldA fl40_1 (by decide) rfl) rfl ?_
    refine RL.val (O.loadN (cs := [vB xv652.f_Packet.f_Key.f_Src.f_Six, o8 xv652.f_Packet.f_Key.f_Src.f_B 0, o8 xv652.f_Packet.f_Key.f_Src.f_B 1, o8 xv652.f_Packet.f_Key.f_Src.f_B 2, o8 xv652.f_Packet.f_Key.f_Src.f_B 3, o8 xv652.f_Packet.f_Key.f_Src.f_B 4, o8 xv652.f_Packet.f_Key.f_Src.f_B 5, o8 xv652.f_Packet.f_Key.f_Src.f_B 6, o8 xv652.f_Packet.f_Key.f_Src.f_B 7, o8 xv652.f_Packet.f_Key.f_Src.f_B 8, o8 xv652.f_Packet.f_Key.f_Src.f_B 9, o8 xv652.f_Packet.f_Key.f_Src.f_B 10, o8 xv652.f_Packet.f_Key.f_Src.f_B 11, o8 xv652.f_Packet.f_Key.f_Src.f_B 12, o8 xv652.f_Packet.f_Key.f_Src.f_B 13, o8 xv652.f_Packet.f_Key.f_Src.f_B 14, o8 xv652.f_Packet.f_Key.f_Src.f_B 15, vB xv652.f_Packet.f_Key.f_Dst.f_Six, o8 xv652.f_Packet.f_Key.f_Dst.f_B 0, o8 xv652.f_Packet.f_Key.f_Dst.f_B 1, o8 xv652.f_Packet.f_Key.f_Dst.f_B 2, o8 xv652.f_Packet.f_Key.f_Dst.f_B 3, o8 xv652.f_Packet.f_Key.f_Dst.f_B 4, o8 xv652.f_Packet.f_Key.f_Dst.f_B 5, o8 xv652.f_Packet.f_Key.f_Dst.f_B 6, o8 xv652.f_Packet.f_Key.f_Dst.f_B 7, o8 xv652.f_Packet.f_Key.f_Dst.f_B 8, o8 xv652.f_Packet.f_Key.f_Dst.f_B 9, o8 xv652.f_Packet.f_Key.f_Dst.f_B 10, o8 xv652.f_Packet.f_Key.f_Dst.f_B 11, o8 xv652.f_Packet.f_Key.f_Dst.f_B 12, o8 xv652.f_Packet.f_Key.f_Dst.f_B 13, o8 xv652.f_Packet.f_Key.f_Dst.f_B 14, o8 xv652.f_Packet.f_Key.f_Dst.f_B 15, v8 xv652.f_Packet.f_Key.f_Proto, v16 xv652.f_Packet.f_Key.f_SrcPort, v16 xv652.f_Packet.f_Key.f_DstPort, vI (Int.tmod xv652.f_Packet.f_Length 100000), v8 xv652.f_Packet.f_Flags, vB xv652.f_Packet.f_Fragment]) ag38 rfl (Cs.addsN [1] ((hM.bx (i := 7) rfl)) rfl)) rfl ?_
    refine RL.val (O.fldA fl40_2 (by decide) rfl) rfl ?_
    refine RL.val (O.load sc5 rfl (Cs.adds [41] ((hM.bx (i := 7) rfl)) rfl)) rfl ?_
    refine RL.val (O.fldA fl40_3 (by decide) rfl) rfl ?_
    refine RL.val (O.load sc22 rfl (Cs.adds [42] ((hM.bx (i := 7) rfl)) rfl)) rfl ?_
    refine obindE hF fun y757 hx758 hF => ?_
    refine RL.call Try.func8 bd8 rfl rfl (c_cache_Cache_Account _ _ _ (T_cache_Cache.mk cv618 (T_cache_Bounds.mk cv619 cv620 cv621 cv622 cv623) (T_table_Table.mk cv629 cv630) cv634) _ _ _ _ _ (hM.lent [4, 2, 1, 3] rfl (by decide)) (T_packet_Packet.mk xv652.f_Packet.f_Key (Int.tmod xv652.f_Packet.f_Length 100000) xv652.f_Packet.f_Flags xv652.f_Packet.f_Fragment) xv652.f_Class xv652.f_Tick _ hx758) fun v w759 hv => ?_
    obtain ⟨g761, A763, c764, A766, c767, A769, c770, rfl, hN760⟩ := hv
    replace hM := hM.callL [4, 2, 1, 3] [0, 5, 6, 7] rfl rfl (by decide) rfl hN760
    refine vm rfl rfl ?_
    refine RL.val (O.ext rfl rfl) rfl ?_
    refine RL.val (O.ext rfl rfl) rfl ?_
    refine va rfl rfl ?_
    refine va rfl rfl ?_
    refine nt hQ756 ?_
    clear hQ756 Q756
    refine KC.seqH fun Q772 hQ772 => ?_
    refine sr fun Q773 hQ773 => ?_
    refine vm rfl rfl ?_
    refine RL.val (O.neq rfl rfl) rfl ?_
    refine nt hQ773 ?_
    clear hQ773 Q773
    refine KC.cond rfl (fun hc => ?_) (fun hc => ?_)
    ·rw [if_pos hc] at hF
     refine sr fun Q774 hQ774 => ?_
     refine va rfl rfl ?_
     refine nt hQ774 ?_
     clear hQ774 Q774
     refine KC.ret ?_
     refine KQ.thr hQ772 ?_
     clear hQ772 Q772
     refine KQ.blk_r ?_
     refine KQ.then_r ?_
     refine KQ.blk_r ?_
     refine KQ.then_r ?_
     refine KQ.then_r ?_
     refine KQ.blk_r ?_
     refine KQ.thr hQ75 ?_
     clear hQ75 Q75
     have hE := Option.some.inj hF
     clear hF
     subst hE
     replace hM := hM.pick [] rfl (by decide)
     refine KQ.rets Try.results4 (RVs.cons (RV.tm rfl) RVs.nil) ?_
     exact ⟨_, rfl, rfl, hM⟩
    rw [if_neg (ne_true hc)] at hF
    refine KC.skip ?_
    refine KQ.thn hQ772 ?_
    clear hQ772 Q772
    refine sr fun Q775 hQ775 => ?_
    refine vm rfl rfl ?_
    refine va rfl rfl ?_
    refine nt hQ775 ?_
    clear hQ775 Q775
    refine KC.region ?_
    refine vm rfl rfl ?_
    refine RL.val (O.fldA fl40_1 (by decide) rfl) rfl ?_
    refine RL.val (O.fldA fl38_0 (by decide) rfl) rfl ?_
    refine RL.val (O.loadN (cs := [vB xv652.f_Packet.f_Key.f_Src.f_Six, o8 xv652.f_Packet.f_Key.f_Src.f_B 0, o8 xv652.f_Packet.f_Key.f_Src.f_B 1, o8 xv652.f_Packet.f_Key.f_Src.f_B 2, o8 xv652.f_Packet.f_Key.f_Src.f_B 3, o8 xv652.f_Packet.f_Key.f_Src.f_B 4, o8 xv652.f_Packet.f_Key.f_Src.f_B 5, o8 xv652.f_Packet.f_Key.f_Src.f_B 6, o8 xv652.f_Packet.f_Key.f_Src.f_B 7, o8 xv652.f_Packet.f_Key.f_Src.f_B 8, o8 xv652.f_Packet.f_Key.f_Src.f_B 9, o8 xv652.f_Packet.f_Key.f_Src.f_B 10, o8 xv652.f_Packet.f_Key.f_Src.f_B 11, o8 xv652.f_Packet.f_Key.f_Src.f_B 12, o8 xv652.f_Packet.f_Key.f_Src.f_B 13, o8 xv652.f_Packet.f_Key.f_Src.f_B 14, o8 xv652.f_Packet.f_Key.f_Src.f_B 15, vB xv652.f_Packet.f_Key.f_Dst.f_Six, o8 xv652.f_Packet.f_Key.f_Dst.f_B 0, o8 xv652.f_Packet.f_Key.f_Dst.f_B 1, o8 xv652.f_Packet.f_Key.f_Dst.f_B 2, o8 xv652.f_Packet.f_Key.f_Dst.f_B 3, o8 xv652.f_Packet.f_Key.f_Dst.f_B 4, o8 xv652.f_Packet.f_Key.f_Dst.f_B 5, o8 xv652.f_Packet.f_Key.f_Dst.f_B 6, o8 xv652.f_Packet.f_Key.f_Dst.f_B 7, o8 xv652.f_Packet.f_Key.f_Dst.f_B 8, o8 xv652.f_Packet.f_Key.f_Dst.f_B 9, o8 xv652.f_Packet.f_Key.f_Dst.f_B 10, o8 xv652.f_Packet.f_Key.f_Dst.f_B 11, o8 xv652.f_Packet.f_Key.f_Dst.f_B 12, o8 xv652.f_Packet.f_Key.f_Dst.f_B 13, o8 xv652.f_Packet.f_Key.f_Dst.f_B 14, o8 xv652.f_Packet.f_Key.f_Dst.f_B 15, v8 xv652.f_Packet.f_Key.f_Proto, v16 xv652.f_Packet.f_Key.f_SrcPort, v16 xv652.f_Packet.f_Key.f_DstPort]) ag36 rfl (Cs.addsN [1, 0] ((hM.bx (i := 3) rfl)) rfl)) rfl ?_
    refine RL.val (O.fldA fl40_1 (by decide) rfl) rfl ?_
    refine RL.val (O.fldA fl38_1 (by decide) rfl) rfl ?_
    refine RL.val (O.load sc3 rfl (Cs.adds [1, 37] ((hM.bx (i := 3) rfl)) rfl)) rfl ?_
    refine RL.val (O.max2 rfl rfl) rfl ?_
    refine RL.val (O.conv un3 Try.underlying22 rfl) rfl ?_
    refine RL.val (O.bld (cs := [v64 1, v64 (IntKind.u64.wrap (gmax 0 (Int.tmod xv652.f_Packet.f_Length 100000)))]) bt55 rfl (by kernel_rfl)) rfl ?_
    refine obindE hF fun y776 hx777 hF => ?_
    refine RL.call Try.func15 bd15 rfl rfl (c_law24_add _ _ _ inv638 (hM.lent [1] rfl (by decide)) xv652.f_Packet.f_Key (T_flow_Total.mk 1 (IntKind.u64.wrap (gmax 0 (Int.tmod xv652.f_Packet.f_Length 100000)))) _ hx777) fun v w778 hv => ?_
    obtain ⟨A780, c781, rfl, hN779⟩ := hv
    replace hM := hM.callL [1] [0, 2, 3, 4, 5, 6, 7, 8] rfl rfl (by decide) rfl hN779
    refine va rfl rfl ?_
    refine RL.nil ?_
    refine KQ.blk_n ?_
    refine KQ.then_k ?_
    replace hM := hM.pick [0, 5, 4, 6, 3, 8, 1, 7] rfl (by decide)
    exact fun a ha => ⟨g761, A763, c764, A766, c767, A780, c781, A769, c770, y757.2.2.f_tick, y757.2.2.f_bounds.f_Flows, y757.2.2.f_bounds.f_Idle, y757.2.2.f_bounds.f_Active, y757.2.2.f_bounds.f_Packets, y757.2.2.f_bounds.f_Bytes, y757.2.2.f_places.f_slots, y757.2.2.f_places.f_many, y757.2.2.f_flows, y776, y757.1, ha.less (less_cons rfl (less_cons rfl (less_cons rfl (less_cons rfl (less_cons rfl (less_cons rfl (less_cons rfl less_nil))))))), hM, hF⟩
   rintro a w811 ⟨g792, A794, c795, A799, c800, A803, c804, A808, c809, cv785, cv786, cv787, cv788, cv789, cv790, cv796, cv797, cv801, inv805, done810, ha, hM, hF⟩
   refine KC.app ha ?_
   clear ha
   unfold F_law24_CacheKeeps_j4 at hF
   refine sr fun Q812 hQ812 => ?_
   refine vm rfl rfl ?_
   refine vm rfl rfl ?_
   refine obindE hF fun y813 hx814 hF => ?_
   refine RL.call Try.func16 bd16 rfl rfl (c_law24_ended _ _ _ out642 (hM.lent [6] rfl (by decide)) _ _ done810 (hM.rd (i := 7) rfl) (hM.offR [6] rfl (i := 7) rfl rfl) _ hx814) fun v w815 hv => ?_
   obtain ⟨A817, c818, rfl, hN816⟩ := hv
   replace hM := hM.callL [6] [0, 1, 2, 3, 4, 5, 7] rfl rfl (by decide) rfl hN816
   refine vm rfl rfl ?_
   refine RL.val (O.ext rfl rfl) rfl ?_
   refine RL.val (O.ext rfl rfl) rfl ?_
   refine va rfl rfl ?_
   refine va rfl rfl ?_
   refine nt hQ812 ?_
   clear hQ812 Q812
   replace hM := hM.pick [0, 1, 2, 3, 4, 5, 7] rfl (by decide)
   refine sr fun Q820 hQ820 => ?_
   refine vm rfl rfl ?_
   refine va rfl rfl ?_
   refine nt hQ820 ?_
   clear hQ820 Q820
   refine KC.cut (fun a w873 => ∃ (g860 : Nat) (A862 : Option Addr) (c863 : Nat) (A867 : Option Addr) (c868 : Nat) (cv853 : Int) (cv854 : Int) (cv855 : Int) (cv856 : Int) (cv857 : Int) (cv858 : Int) (cv864 : List T_table_Slot) (cv865 : Int) (cv869 : List T_flow_Record) (t872 : Bool), Kn 151 [(1, .slice A3 (lv2).length c4), (2, .pointer (some ⟨g7, 0, none⟩)), (5, .pointer (some ⟨g69, 0, none⟩)), (7, .slice A803 (inv805).length c804), (8, .slice A817 (y813.1).length c818), (9, vI i643), (119, vB t872)] a ∧ Mem w [] w873 [.box g7 24 [vI b1.f_Flows, v64 b1.f_Idle, v64 b1.f_Active, v64 b1.f_Packets, v64 b1.f_Bytes], .row A862 c863 102 39 (cv864).length ((cv864).flatMap e_table_Slot), .box g860 96 [.slice A862 (cv864).length c863, vI cv865], .row A867 c868 46 44 (cv869).length ((cv869).flatMap e_flow_Record), .box g69 74 [v64 cv853, vI cv854, v64 cv855, v64 cv856, v64 cv857, v64 cv858, .pointer (some ⟨g860, 0, none⟩), .slice A867 (cv869).length c868], .row A803 c804 89 39 (inv805).length ((inv805).flatMap e_law24_Sum), .row A817 c818 89 39 (y813.1).length ((y813.1).flatMap e_law24_Sum)] ∧ F_law24_CacheKeeps_j5 i643 (F_law24_CacheKeeps_L1 b1 lv2 k646) inv805 y813 cv853 cv854 cv855 cv856 cv857 cv858 cv864 cv865 cv869 t872 = some r) ?_ ?_
   ·replace hM := hM.drewN 1
    refine KC.draw [] [4] [4, 7] [0, 1, 2, 3, 5, 6, 8, 9] (.cons 0 (.cons 1 (.cons 2 (.cons 3 (.cons 6 (.alt 4 (.ofList [5, 7, 8, 9]) 7 (.ofList [4, 5, 8, 9]))))))) moP (by kernel_rfl) ?_
    refine RD.p rfl rfl rfl rfl (fun w' => O.move rfl) ?_
    refine RD.p rfl rfl rfl rfl (fun w' => O.not rfl) ?_
    refine RD.p rfl rfl rfl rfl (fun w' => O.move rfl) ?_
    refine RD.bcase (t := 112) rfl (fun hc => ?_) (fun hc => ?_)
    ·rw [if_pos hc] at hF
     refine RD.gskip rfl rfl rfl rfl rfl ?_
     refine RD.gskip rfl rfl rfl rfl rfl ?_
     refine RD.alt ?_ ?_
     ·refine RD.gskip rfl rfl rfl rfl rfl ?_
      refine RD.gskip rfl rfl rfl rfl rfl ?_
      refine RD.gskip rfl rfl rfl rfl rfl ?_
      refine RD.gskip rfl rfl rfl rfl rfl ?_
      refine RD.p rfl rfl rfl rfl (fun w' => O.pickt rfl rfl) ?_
      refine RD.nil ?_
      refine KQ.then_k ?_
      exact fun a ha => ⟨g792, A794, c795, A799, c800, cv785, cv786, cv787, cv788, cv789, cv790, cv796, cv797, cv801, true, ha.less (less_cons rfl (less_cons rfl (less_cons rfl (less_cons rfl (less_cons rfl (less_cons rfl (less_cons rfl less_nil))))))), hM, hF⟩
     refine RD.gskip rfl rfl rfl rfl rfl ?_
     refine RD.gskip rfl rfl rfl rfl rfl ?_
     refine RD.gskip rfl rfl rfl rfl rfl ?_
     refine RD.gskip rfl rfl rfl rfl rfl ?_
     refine RD.p rfl rfl rfl rfl (fun w' => O.pickt rfl rfl) ?_
     refine RD.nil ?_
     refine KQ.then_k ?_
     exact fun a ha => ⟨g792, A794, c795, A799, c800, cv785, cv786, cv787, cv788, cv789, cv790, cv796, cv797, cv801, true, ha.less (less_cons rfl (less_cons rfl (less_cons rfl (less_cons rfl (less_cons rfl (less_cons rfl (less_cons rfl less_nil))))))), hM, hF⟩
    rw [if_neg (ne_true hc)] at hF
    refine RD.gp rfl rfl rfl rfl rfl rfl (fun w' => O.move rfl) ?_
    refine RD.gp rfl rfl rfl rfl rfl rfl (fun w' => O.fldA fl24_0 (by decide) rfl) ?_
    refine RD.alt ?_ ?_
    ·refine obindE hF fun y821 hx822 hF => ?_
     refine RD.mcall rfl rfl ⟨rfl, rfl⟩ Try.func17 bd17 rfl rfl (c_cache_Cache_All _ _ _ (T_cache_Cache.mk cv785 (T_cache_Bounds.mk cv786 cv787 cv788 cv789 cv790) (T_table_Table.mk cv796 cv797) cv801) _ _ _ _ _ (hM.lent [4, 2, 1, 3] rfl (by decide)) _ hx822) fun v w823 hv => ?_
     obtain ⟨g825, A827, c828, A830, c831, A833, c834, rfl, hN824⟩ := hv
     refine ⟨fun h => (by cases h), ?_⟩
     replace hM := hM.callL [4, 2, 1, 3] [0, 5, 6] rfl rfl (by decide) rfl hN824
     refine RD.gp rfl rfl rfl rfl rfl rfl (fun w' => O.len sl41 rfl) ?_
     refine RD.gmq rfl rfl rfl rfl (O.load sc3 rfl (Cs.adds [0] ((hM.bx (i := 0) rfl)) rfl)) rfl ?_
     refine RD.gp rfl rfl rfl rfl rfl rfl (fun w' => O.gtr rfl rfl) ?_
     refine RD.p rfl rfl rfl rfl (fun w' => O.pickf rfl rfl) ?_
     refine RD.nil ?_
     refine KQ.then_k ?_
     replace hM := hM.pick [0, 5, 4, 6, 3, 1, 2] rfl (by decide)
     exact fun a ha => ⟨g825, A827, c828, A830, c831, y821.2.f_tick, y821.2.f_bounds.f_Flows, y821.2.f_bounds.f_Idle, y821.2.f_bounds.f_Active, y821.2.f_bounds.f_Packets, y821.2.f_bounds.f_Bytes, y821.2.f_places.f_slots, y821.2.f_places.f_many, y821.2.f_flows, (decide (b1.f_Flows < (y821.1.length : Int))), ha.less (less_cons rfl (less_cons rfl (less_cons rfl (less_cons rfl (less_cons rfl (less_cons rfl (less_cons rfl less_nil))))))), hM, hF⟩
    refine RD.gmq rfl rfl rfl rfl (O.load sc3 rfl (Cs.adds [0] ((hM.bx (i := 0) rfl)) rfl)) rfl ?_
    refine obindE hF fun y836 hx837 hF => ?_
    refine RD.mcall rfl rfl ⟨rfl, rfl⟩ Try.func17 bd17 rfl rfl (c_cache_Cache_All _ _ _ (T_cache_Cache.mk cv785 (T_cache_Bounds.mk cv786 cv787 cv788 cv789 cv790) (T_table_Table.mk cv796 cv797) cv801) _ _ _ _ _ (hM.lent [4, 2, 1, 3] rfl (by decide)) _ hx837) fun v w838 hv => ?_
    obtain ⟨g840, A842, c843, A845, c846, A848, c849, rfl, hN839⟩ := hv
    refine ⟨fun h => (by cases h), ?_⟩
    replace hM := hM.callL [4, 2, 1, 3] [0, 5, 6] rfl rfl (by decide) rfl hN839
    refine RD.gp rfl rfl rfl rfl rfl rfl (fun w' => O.len sl41 rfl) ?_
    refine RD.gp rfl rfl rfl rfl rfl rfl (fun w' => O.gtr rfl rfl) ?_
    refine RD.p rfl rfl rfl rfl (fun w' => O.pickf rfl rfl) ?_
    refine RD.nil ?_
    refine KQ.then_k ?_
    replace hM := hM.pick [0, 5, 4, 6, 3, 1, 2] rfl (by decide)
    exact fun a ha => ⟨g840, A842, c843, A845, c846, y836.2.f_tick, y836.2.f_bounds.f_Flows, y836.2.f_bounds.f_Idle, y836.2.f_bounds.f_Active, y836.2.f_bounds.f_Packets, y836.2.f_bounds.f_Bytes, y836.2.f_places.f_slots, y836.2.f_places.f_many, y836.2.f_flows, (decide (b1.f_Flows < (y836.1.length : Int))), ha.less (less_cons rfl (less_cons rfl (less_cons rfl (less_cons rfl (less_cons rfl (less_cons rfl (less_cons rfl less_nil))))))), hM, hF⟩
   rintro a w873 ⟨g860, A862, c863, A867, c868, cv853, cv854, cv855, cv856, cv857, cv858, cv864, cv865, cv869, t872, ha, hM, hF⟩
   refine KC.app ha ?_
   clear ha
   unfold F_law24_CacheKeeps_j5 at hF
   refine KC.cond rfl (fun hc => ?_) (fun hc => ?_)
   ·rw [if_pos hc] at hF
    refine sr fun Q874 hQ874 => ?_
    refine va rfl rfl ?_
    refine nt hQ874 ?_
    clear hQ874 Q874
    refine KC.ret ?_
    refine KQ.blk_r ?_
    refine KQ.then_r ?_
    refine KQ.then_r ?_
    refine KQ.blk_r ?_
    refine KQ.thr hQ75 ?_
    clear hQ75 Q75
    have hE := Option.some.inj hF
    clear hF
    subst hE
    replace hM := hM.pick [] rfl (by decide)
    refine KQ.rets Try.results4 (RVs.cons (RV.tm rfl) RVs.nil) ?_
    exact ⟨_, rfl, rfl, hM⟩
   rw [if_neg (ne_true hc)] at hF
   refine KC.skip ?_
   refine KQ.blk_n ?_
   refine KQ.then_k ?_
   exact fun a ha => ⟨g860, A862, c863, A867, c868, A803, c804, A817, c818, cv853, cv854, cv855, cv856, cv857, cv858, cv864, cv865, cv869, inv805, y813.1, ha.less (less_cons rfl (less_cons rfl (less_cons rfl (less_cons rfl (less_cons rfl (less_cons rfl less_nil)))))), hM, hF⟩
  rintro a w902 ⟨g884, A886, c887, A891, c892, A895, c896, A899, c900, cv877, cv878, cv879, cv880, cv881, cv882, cv888, cv889, cv893, inv897, out901, ha, hM, hF⟩
  refine KC.app ha ?_
  clear ha
  unfold F_law24_CacheKeeps_j3 at hF
  refine KC.region ?_
  refine vm rfl rfl ?_
  refine RL.val (O.add rfl rfl) rfl ?_
  refine va rfl rfl ?_
  refine RL.nil ?_
  refine KQ.then_k ?_
  exact fun a ha => ⟨k646, Nat.lt_succ_self k646, g884, A886, c887, A891, c892, A895, c896, A899, c900, cv877, cv878, cv879, cv880, cv881, cv882, cv888, cv889, cv893, inv897, out901, (IntKind.i64.wrap (i643 + 1)), ha.less (less_cons rfl (less_cons rfl (less_cons rfl (less_cons rfl (less_cons rfl (less_cons rfl less_nil)))))), hM, hF⟩
 rw [if_neg (ne_true hc)] at hF
 refine KC.exit ?_
 refine KQ.thx hQ647 ?_
 clear hQ647 Q647
 refine KQ.then_x ?_
 refine KQ.blk_x ?_
 refine KQ.thn hQ75 ?_
 clear hQ75 Q75
 replace hM := hM.pick [1, 2, 3, 4, 5, 6] rfl (by decide)
 refine sr fun Q903 hQ903 => ?_
 refine vm rfl rfl ?_
 refine obindE hF fun y904 hx905 hF => ?_
 refine RL.call Try.func17 bd17 rfl rfl (c_cache_Cache_All _ _ _ (T_cache_Cache.mk cv618 (T_cache_Bounds.mk cv619 cv620 cv621 cv622 cv623) (T_table_Table.mk cv629 cv630) cv634) _ _ _ _ _ (hM.lent [3, 1, 0, 2] rfl (by decide)) _ hx905) fun v w906 hv => ?_
 obtain ⟨g908, A910, c911, A913, c914, A916, c917, rfl, hN907⟩ := hv
 replace hM := hM.callL [3, 1, 0, 2] [4, 5] rfl rfl (by decide) rfl hN907
 refine va rfl rfl ?_
 refine nt hQ903 ?_
 clear hQ903 Q903
 replace hM := hM.pick [0, 1, 6] rfl (by decide)
 refine KC.seqH fun Q919 hQ919 => ?_
 refine sr fun Q920 hQ920 => ?_
 refine va rfl rfl ?_
 refine nt hQ920 ?_
 clear hQ920 Q920
 refine KC.block ?_
 refine KC.loop (fun k977 a w975 => ∃ (A970 : Option Addr) (c971 : Nat) (out972 : List T_law24_Sum) (i974 : Int), Kn 151 [(7, .slice A636 (inv638).length c637), (8, .slice A970 (out972).length c971), (17, .slice A916 (y904.1).length c917), (18, vI i974)] a ∧ Mem w [] w975 [.row A636 c637 89 39 (inv638).length ((inv638).flatMap e_law24_Sum), .row A970 c971 89 39 (out972).length ((out972).flatMap e_law24_Sum), .row A916 c917 46 44 (y904.1).length ((y904.1).flatMap e_flow_Record)] ∧ F_law24_CacheKeeps_L2 inv638 y904 k977 out972 i974 = some r) ?_ ?_
 ·exact fun a ha => ⟨fuel0, A640, c641, out642, 0, ha.less (less_cons rfl (less_cons rfl (less_cons rfl (less_cons rfl less_nil)))), hM, hF⟩
 rintro k977 a w975 ⟨A970, c971, out972, i974, ha, hM, hF⟩
 refine KC.app ha ?_
 clear ha
 cases k977 with
 | zero => exact (none_some hF).elim
 | succ k977 =>
 have hF : F_law24_CacheKeeps_l2 (F_law24_CacheKeeps_L2 inv638 y904 k977) inv638 y904 out972 i974 = some r := hF
 unfold F_law24_CacheKeeps_l2 at hF
 refine KC.seqH fun Q978 hQ978 => ?_
 refine sr fun Q979 hQ979 => ?_
 refine vm rfl rfl ?_
 refine vm rfl rfl ?_
 refine RL.val (O.len sl41 rfl) rfl ?_
 refine RL.val (O.lss rfl rfl) rfl ?_
 refine nt hQ979 ?_
 clear hQ979 Q979
 refine KC.cond rfl (fun hc => ?_) (fun hc => ?_)
 ·rw [if_pos hc] at hF
  refine KC.skip ?_
  refine KQ.thn hQ978 ?_
  clear hQ978 Q978
  refine KC.seqH fun Q980 hQ980 => ?_
  refine KC.block ?_
  replace hM := hM.drewN 1
  refine KC.draw [] [11] [10, 11] [0, 1, 2, 4, 6, 7, 12] (.ofList [0, 1, 2, 3, 4, 5, 6, 7, 8, 9, 10, 11, 12]) moP (by kernel_rfl) ?_
  refine RD.p rfl rfl rfl rfl (fun w' => O.move rfl) ?_
  refine RD.p rfl rfl rfl rfl (fun w' => O.move rfl) ?_
  refine RD.p rfl rfl rfl rfl (fun w' => O.move rfl) ?_
  refine obindE hF fun xv983 hx982 hF => ?_
  have hA981 := Rd.atN (f := e_flow_Record) (s := 44) (fun _ => rfl) (by decide) (hM.rd (i := 2) rfl) hx982
  refine RD.q rfl rfl rfl rfl (fun w' hf => O.idxA sl41 (hA981.fut hf) rfl rfl) ?_
  refine RD.p rfl rfl rfl rfl (fun w' => O.fldA fl46_0 (by decide) rfl) ?_
  refine RD.q rfl rfl rfl rfl (fun w' hf => O.loadN (cs := [vB xv983.f_Key.f_Src.f_Six, o8 xv983.f_Key.f_Src.f_B 0, o8 xv983.f_Key.f_Src.f_B 1, o8 xv983.f_Key.f_Src.f_B 2, o8 xv983.f_Key.f_Src.f_B 3, o8 xv983.f_Key.f_Src.f_B 4, o8 xv983.f_Key.f_Src.f_B 5, o8 xv983.f_Key.f_Src.f_B 6, o8 xv983.f_Key.f_Src.f_B 7, o8 xv983.f_Key.f_Src.f_B 8, o8 xv983.f_Key.f_Src.f_B 9, o8 xv983.f_Key.f_Src.f_B 10, o8 xv983.f_Key.f_Src.f_B 11, o8 xv983.f_Key.f_Src.f_B 12, o8 xv983.f_Key.f_Src.f_B 13, o8 xv983.f_Key.f_Src.f_B 14, o8 xv983.f_Key.f_Src.f_B 15, vB xv983.f_Key.f_Dst.f_Six, o8 xv983.f_Key.f_Dst.f_B 0, o8 xv983.f_Key.f_Dst.f_B 1, o8 xv983.f_Key.f_Dst.f_B 2, o8 xv983.f_Key.f_Dst.f_B 3, o8 xv983.f_Key.f_Dst.f_B 4, o8 xv983.f_Key.f_Dst.f_B 5, o8 xv983.f_Key.f_Dst.f_B 6, o8 xv983.f_Key.f_Dst.f_B 7, o8 xv983.f_Key.f_Dst.f_B 8, o8 xv983.f_Key.f_Dst.f_B 9, o8 xv983.f_Key.f_Dst.f_B 10, o8 xv983.f_Key.f_Dst.f_B 11, o8 xv983.f_Key.f_Dst.f_B 12, o8 xv983.f_Key.f_Dst.f_B 13, o8 xv983.f_Key.f_Dst.f_B 14, o8 xv983.f_Key.f_Dst.f_B 15, v8 xv983.f_Key.f_Proto, v16 xv983.f_Key.f_SrcPort, v16 xv983.f_Key.f_DstPort]) ag36 rfl (Cs.addsN [0] (hA981.fut hf).cells rfl)) ?_
  refine RD.p rfl rfl rfl rfl (fun w' => O.move rfl) ?_
  refine RD.p rfl rfl rfl rfl (fun w' => O.move rfl) ?_
  refine obindE hF fun xv986 hx985 hF => ?_
  have hA984 := Rd.atN (f := e_flow_Record) (s := 44) (fun _ => rfl) (by decide) (hM.rd (i := 2) rfl) hx985
  refine RD.q rfl rfl rfl rfl (fun w' hf => O.idxA sl41 (hA984.fut hf) rfl rfl) ?_
  refine RD.q rfl rfl rfl rfl (fun w' hf => O.loadN (cs := [vB xv986.f_Key.f_Src.f_Six, o8 xv986.f_Key.f_Src.f_B 0, o8 xv986.f_Key.f_Src.f_B 1, o8 xv986.f_Key.f_Src.f_B 2, o8 xv986.f_Key.f_Src.f_B 3, o8 xv986.f_Key.f_Src.f_B 4, o8 xv986.f_Key.f_Src.f_B 5, o8 xv986.f_Key.f_Src.f_B 6, o8 xv986.f_Key.f_Src.f_B 7, o8 xv986.f_Key.f_Src.f_B 8, o8 xv986.f_Key.f_Src.f_B 9, o8 xv986.f_Key.f_Src.f_B 10, o8 xv986.f_Key.f_Src.f_B 11, o8 xv986.f_Key.f_Src.f_B 12, o8 xv986.f_Key.f_Src.f_B 13, o8 xv986.f_Key.f_Src.f_B 14, o8 xv986.f_Key.f_Src.f_B 15, vB xv986.f_Key.f_Dst.f_Six, o8 xv986.f_Key.f_Dst.f_B 0, o8 xv986.f_Key.f_Dst.f_B 1, o8 xv986.f_Key.f_Dst.f_B 2, o8 xv986.f_Key.f_Dst.f_B 3, o8 xv986.f_Key.f_Dst.f_B 4, o8 xv986.f_Key.f_Dst.f_B 5, o8 xv986.f_Key.f_Dst.f_B 6, o8 xv986.f_Key.f_Dst.f_B 7, o8 xv986.f_Key.f_Dst.f_B 8, o8 xv986.f_Key.f_Dst.f_B 9, o8 xv986.f_Key.f_Dst.f_B 10, o8 xv986.f_Key.f_Dst.f_B 11, o8 xv986.f_Key.f_Dst.f_B 12, o8 xv986.f_Key.f_Dst.f_B 13, o8 xv986.f_Key.f_Dst.f_B 14, o8 xv986.f_Key.f_Dst.f_B 15, v8 xv986.f_Key.f_Proto, v16 xv986.f_Key.f_SrcPort, v16 xv986.f_Key.f_DstPort, v64 xv986.f_Packets, v64 xv986.f_Bytes, v64 xv986.f_First, v64 xv986.f_Last, v8 xv986.f_Flags, v8 xv986.f_Reason, v8 xv986.f_Class]) ag46 rfl (hA984.fut hf).cells) ?_
  refine obindE hF fun y987 hx988 hF => ?_
  refine RD.mcall rfl rfl trivial Try.func18 bd18 rfl rfl (c_flow_Record_Total _ xv986 _ hx988) fun v w989 hv => ?_
  obtain ⟨rfl, hN990⟩ := hv
  refine ⟨fun _ => hN990.fut, ?_⟩
  replace hM := hM.call0 hN990
  refine obindE hF fun y991 hx992 hF => ?_
  refine RD.mcall rfl rfl trivial Try.func15 bd15 rfl rfl (c_law24_add _ _ _ out972 (hM.lent [1] rfl (by decide)) xv983.f_Key y987 _ hx992) fun v w993 hv => ?_
  obtain ⟨A995, c996, rfl, hN994⟩ := hv
  refine ⟨fun h => (by cases h), ?_⟩
  replace hM := hM.callL [1] [0, 2] rfl rfl (by decide) rfl hN994
  refine RD.p rfl rfl rfl rfl (fun w' => O.assign rfl) ?_
  refine RD.nil ?_
  refine KQ.blk_n ?_
  refine KQ.thn hQ980 ?_
  clear hQ980 Q980
  refine KC.region ?_
  refine vm rfl rfl ?_
  refine RL.val (O.add rfl rfl) rfl ?_
  refine va rfl rfl ?_
  refine RL.nil ?_
  refine KQ.then_k ?_
  replace hM := hM.pick [0, 2, 1] rfl (by decide)
  exact fun a ha => ⟨k977, Nat.lt_succ_self k977, A995, c996, y991, (IntKind.i64.wrap (i974 + 1)), ha.less (less_cons rfl (less_cons rfl (less_cons rfl (less_cons rfl less_nil)))), hM, hF⟩
 rw [if_neg (ne_true hc)] at hF
 refine KC.exit ?_
 refine KQ.thx hQ978 ?_
 clear hQ978 Q978
 refine KQ.then_x ?_
 refine KQ.blk_x ?_
 refine KQ.thn hQ919 ?_
 clear hQ919 Q919
 refine KC.cut (fun a w1011 => ∃ (t1010 : Bool), Kn 151 [(4, vB t1010)] a ∧ Mem w [] w1011 [] ∧ F_law24_CacheKeeps_j8 t1010 = some r) ?_ ?_
 ·refine KC.region ?_
  refine vm rfl rfl ?_
  refine vm rfl rfl ?_
  refine obindE hF fun y998 hx999 hF => ?_
  refine RL.call Try.func19 bd19 rfl rfl (c_law24_same _ _ _ inv638 (hM.rd (i := 0) rfl) _ _ out972 (hM.rd (i := 1) rfl) _ hx999) fun v w1000 hv => ?_
  obtain ⟨rfl, hN1001⟩ := hv
  replace hM := hM.call0 hN1001
  refine vm rfl rfl ?_
  refine RL.bcase (t := 143) rfl (fun hc => ?_) (fun hc => ?_)
  ·rw [if_pos hc] at hF
   refine RL.gval rfl rfl (O.move rfl) rfl ?_
   refine RL.gval rfl rfl (O.move rfl) rfl ?_
   refine obindE hF fun y1002 hx1003 hF => ?_
   refine RL.gcall rfl rfl Try.func19 bd19 rfl rfl (c_law24_same _ _ _ out972 (hM.rd (i := 1) rfl) _ _ inv638 (hM.rd (i := 0) rfl) _ hx1003) fun v w1004 hv => ?_
   obtain ⟨rfl, hN1005⟩ := hv
   replace hM := hM.call0 hN1005
   refine RL.val (O.pickt rfl rfl) rfl ?_
   refine vm rfl rfl ?_
   refine RL.bcase (t := 148) rfl (fun hc => ?_) (fun hc => ?_)
   ·rw [if_pos hc] at hF
    refine obindE hF fun y1006 hx1007 hF => ?_
    refine RL.gcall rfl rfl Try.func6 bd6 rfl rfl (c_law24_works _ _ hx1007) fun v w1008 hv => ?_
    obtain ⟨rfl, hN1009⟩ := hv
    replace hM := hM.call0 hN1009
    refine RL.val (O.pickt rfl rfl) rfl ?_
    refine va rfl rfl ?_
    refine RL.nil ?_
    refine KQ.then_k ?_
    replace hM := hM.pick [] rfl (by decide)
    exact fun a ha => ⟨y1006, ha.less (less_cons rfl less_nil), hM, hF⟩
   rw [if_neg (ne_true hc)] at hF
   refine RL.gskip rfl rfl rfl rfl ?_
   refine RL.val (O.pickf rfl rfl) rfl ?_
   refine va rfl rfl ?_
   refine RL.nil ?_
   refine KQ.then_k ?_
   replace hM := hM.pick [] rfl (by decide)
   exact fun a ha => ⟨false, ha.less (less_cons rfl less_nil), hM, hF⟩
  rw [if_neg (ne_true hc)] at hF
  refine RL.brun1 7 150 false (by kernel_rfl) ?_
  refine va rfl rfl ?_
  refine RL.nil ?_
  refine KQ.then_k ?_
  replace hM := hM.pick [] rfl (by decide)
  exact fun a ha => ⟨false, ha.less (less_cons rfl less_nil), hM, hF⟩
 rintro a w1011 ⟨t1010, ha, hM, hF⟩
 refine KC.app ha ?_
 clear ha
 unfold F_law24_CacheKeeps_j8 at hF
 refine KC.ret ?_
 have hE := Option.some.inj hF
 clear hF
 subst hE
 refine KQ.rets Try.results4 (RVs.cons (RV.tm rfl) RVs.nil) ?_
 exact ⟨_, rfl, rfl, hM⟩
end Go.Proofs.Ytkpnocgfhipidaa
