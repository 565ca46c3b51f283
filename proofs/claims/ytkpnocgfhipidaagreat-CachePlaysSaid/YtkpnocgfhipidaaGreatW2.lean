/- Printed by a program of this claim: each call returns what the plain function of its name gives. -/
import Derived.Test.YtkpnocgfhipidaaGreatW1
set_option linter.unusedVariables false
namespace Go.Proofs.YtkpnocgfhipidaaGreat
open Go Go.Ox Go.RowKit
set_option maxRecDepth 100000 in
set_option maxHeartbeats 40000000 in
theorem c_addr_Addr_Right (w : World) (av1 : T_addr_Addr) (r : Bool) (hF : F_addr_Addr_Right av1 = some r) :
  CallsR Tryz.prog 72 [.agg (av1.cs).toArray] w (fun v w' => v = vB r ∧ Mem w [] w' []) := by
 refine calls_KC Tryz.func72 rfl Tryz.ntmps72 rfl ?_
 have hM := Mem.init w
 unfold F_addr_Addr_Right at hF
 refine sr fun Q2 hQ2 => ?_
 refine RL.eff (E.box (vs := (av1.cs)) hM rfl rfl) rfl fun v w4 hv => ?_
 clear hM
 obtain ⟨g3, rfl, hM, hf⟩ := hv
 refine va rfl rfl ?_
 refine nt hQ2 ?_
 clear hQ2 Q2
 refine sr fun Q6 hQ6 => ?_
 refine RL.eff (E.alloc hM ze37) rfl fun v w8 hv => ?_
 clear hM
 obtain ⟨g7, rfl, hM, hf⟩ := hv
 refine nt hQ6 ?_
 clear hQ6 Q6
 refine KC.seqH fun Q10 hQ10 => ?_
 replace hM := hM.drewN 1
 refine KC.draw [] [5] [1, 5] [2, 3, 4] (.ofList [0, 3, 4, 1, 2, 5]) moP (by kernel_rfl) ?_
 refine RD.q rfl rfl rfl rfl (fun w' hf => O.loadN (cs := (av1.cs)) ag39 rfl (Cs.addsN [] ((hM.bx (i := 0) rfl).fut hf) rfl)) ?_
 refine RD.p rfl rfl rfl rfl (fun w' => O.fldA fl39_1 (by decide) rfl) ?_
 have hr11 := Rd.arr (n := 16) (k := .u8) (xs := av1.f_B) (Cs.addsN [1] (hM.bx (i := 0) rfl) rfl) rfl rfl
 refine RD.p rfl rfl rfl rfl (fun w' => O.slArr (xs := av1.f_B) Tryz.underlying37 sz5 rfl rfl) ?_
 refine obindE hF fun y12 hx13 hF => ?_
 refine RD.mcall rfl rfl trivial Tryz.func93 bd93 rfl rfl (c_addr_Addr_size _ av1 _ hx13) fun v w14 hv => ?_
 obtain ⟨rfl, hN15⟩ := hv
 refine ⟨fun _ => hN15.fut, ?_⟩
 have hr11 := hr11.fut hN15.fut
 replace hM := hM.call0 hN15
 refine obindE hF fun cut17 hy18 hF => ?_
 have hr16 := Rd.arrTo (n := 16) (k := .u8) (xs := (List.replicate 16 0)) (Cs.addsN [] (hM.bx (i := 1) rfl) rfl) rfl rfl hy18
 refine RD.p rfl rfl rfl rfl (fun w' => O.slArrTo Tryz.underlying37 sz5 rfl hy18 rfl rfl) ?_
 refine RD.meff rfl rfl (E.copyA (k := .u8) (n := 16) (j := 1) (xs := (List.replicate 16 0)) (ys := (arrL 16 av1.f_B)) hM rfl sl156 rfl (arr_cut_le hy18) rfl hr11) rfl fun v w19 hv => ?_
 clear hM
 obtain ⟨rfl, hM⟩ := hv
 refine ⟨fun h => (by cases h), ?_⟩
 have hr11 := Rd.arr (n := 16) (k := .u8) (xs := av1.f_B) (Cs.addsN [1] (hM.bx (i := 0) rfl) rfl) rfl rfl
 refine RD.nil ?_
 refine KQ.thn hQ10 ?_
 clear hQ10 Q10
 refine sr fun Q20 hQ20 => ?_
 refine RL.val (O.fldA fl39_1 (by decide) rfl) rfl ?_
 refine RL.val (O.loadN (cs := (a16 av1.f_B)) ag37 rfl (Cs.addsN [1] ((hM.bx (i := 0) rfl)) rfl)) rfl ?_
 refine RL.val (O.loadN (cs := (a16 (cpA 16 (Nat.min (arrL 16 av1.f_B).length cut17.length) (List.replicate 16 0) (arrL 16 av1.f_B)))) ag37 rfl (Cs.addsN [] ((hM.bx (i := 1) rfl)) rfl)) rfl ?_
 refine RL.val (O.steq (cs := (a16 av1.f_B)) (cs' := (a16 (cpA 16 (Nat.min (arrL 16 av1.f_B).length cut17.length) (List.replicate 16 0) (arrL 16 av1.f_B)))) (by kernel_rfl) rfl rfl (eqArrT Tryz.underlying37 Tryz.underlying5 sz5 av1.f_B (cpA 16 (Nat.min (arrL 16 av1.f_B).length cut17.length) (List.replicate 16 0) (arrL 16 av1.f_B)) _ rfl rfl)) rfl ?_
 refine va rfl rfl ?_
 refine nt hQ20 ?_
 clear hQ20 Q20
 refine KC.ret ?_
 have hE := Option.some.inj hF
 clear hF
 subst hE
 replace hM := hM.pick [] rfl (by decide)
 refine KQ.rets Tryz.results72 (RVs.cons (RV.tm rfl) RVs.nil) ?_
 exact ⟨_, rfl, rfl, hM⟩
set_option maxRecDepth 100000 in
set_option maxHeartbeats 40000000 in
theorem c_packet_Key_Right (w : World) (kv1 : T_packet_Key) (r : Bool) (hF : F_packet_Key_Right kv1 = some r) :
  CallsR Tryz.prog 37 [.agg (kv1.cs).toArray] w (fun v w' => v = vB r ∧ Mem w [] w' []) := by
 refine calls_KC Tryz.func37 rfl Tryz.ntmps37 rfl ?_
 have hM := Mem.init w
 unfold F_packet_Key_Right at hF
 refine sr fun Q2 hQ2 => ?_
 refine RL.eff (E.box (vs := (kv1.cs)) hM rfl rfl) rfl fun v w4 hv => ?_
 clear hM
 obtain ⟨g3, rfl, hM, hf⟩ := hv
 refine va rfl rfl ?_
 refine nt hQ2 ?_
 clear hQ2 Q2
 refine sr fun Q6 hQ6 => ?_
 refine RL.val (O.loadN (cs := (kv1.cs)) ag42 rfl (Cs.addsN [] ((hM.bx (i := 0) rfl)) rfl)) rfl ?_
 refine RL.eff (E.alloc hM ze42) rfl fun v w8 hv => ?_
 clear hM
 obtain ⟨g7, rfl, hM, hf⟩ := hv
 refine RL.effs (E.stB (j := 1) (off := 0) (vs := (kv1.cs)) (cs' := (kv1.cs)) hM rfl sz42 rfl (adds_eq [] rfl) rfl rfl (One.all rfl) rfl rfl) fun w10 hM1 => ?_
 clear hM
 have hM := hM1
 clear hM1
 refine nt hQ6 ?_
 clear hQ6 Q6
 refine KC.cut (fun a w28 => ∃ (plain26 : Int) (plain27 : Int), Kn 37 [(1, .pointer (some ⟨g3, 0, none⟩)), (3, .pointer (some ⟨g7, 0, none⟩))] a ∧ Mem w [] w28 [.box g3 42 (kv1.cs), .box g7 42 (kv1.f_Src.cs ++ kv1.f_Dst.cs ++ [v8 kv1.f_Proto, v16 plain26, v16 plain27])] ∧ F_packet_Key_Right_j1 kv1 plain26 plain27 = some r) ?_ ?_
 ·refine sr fun Q11 hQ11 => ?_
  refine RL.val (O.fldA fl42_2 (by decide) rfl) rfl ?_
  refine RL.val (O.load sc5 rfl (Cs.adds [34] ((hM.bx (i := 0) rfl)) rfl)) rfl ?_
  refine obindE hF fun y12 hx13 hF => ?_
  refine RL.call Tryz.func70 bd70 rfl rfl (c_packet_ports _ kv1.f_Proto _ hx13) fun v w14 hv => ?_
  obtain ⟨rfl, hN15⟩ := hv
  replace hM := hM.call0 hN15
  refine RL.val (O.not rfl) rfl ?_
  refine nt hQ11 ?_
  clear hQ11 Q11
  refine KC.cond rfl (fun hc => ?_) (fun hc => ?_)
  ·rw [if_pos hc] at hF
   refine sr fun Q16 hQ16 => ?_
   refine RL.val (O.fldA fl42_3 (by decide) rfl) rfl ?_
   refine RL.effs (E.stB (j := 1) (off := 35) (vs := [v16 0]) (cs' := (kv1.f_Src.cs ++ kv1.f_Dst.cs ++ [v8 kv1.f_Proto, v16 0, v16 kv1.f_DstPort])) hM rfl sz40 rfl (adds_eq [35] rfl) rfl rfl (One.all rfl) rfl rfl) fun w17 hM1 => ?_
   clear hM
   have hM := hM1
   clear hM1
   refine nt hQ16 ?_
   clear hQ16 Q16
   refine sr fun Q18 hQ18 => ?_
   refine RL.val (O.fldA fl42_2 (by decide) rfl) rfl ?_
   refine RL.val (O.load sc5 rfl (Cs.adds [34] ((hM.bx (i := 0) rfl)) rfl)) rfl ?_
   refine obindE hF fun y19 hx20 hF => ?_
   refine RL.call Tryz.func71 bd71 rfl rfl (c_packet_icmp _ kv1.f_Proto _ hx20) fun v w21 hv => ?_
   obtain ⟨rfl, hN22⟩ := hv
   replace hM := hM.call0 hN22
   refine RL.val (O.not rfl) rfl ?_
   refine nt hQ18 ?_
   clear hQ18 Q18
   refine KC.cond rfl (fun hc => ?_) (fun hc => ?_)
   ·rw [if_pos hc] at hF
    refine KC.region ?_
    refine RL.val (O.fldA fl42_4 (by decide) rfl) rfl ?_
    refine RL.effs (E.stB (j := 1) (off := 36) (vs := [v16 0]) (cs' := (kv1.f_Src.cs ++ kv1.f_Dst.cs ++ [v8 kv1.f_Proto, v16 0, v16 0])) hM rfl sz40 rfl (adds_eq [36] rfl) rfl rfl (One.all rfl) rfl rfl) fun w23 hM1 => ?_
    clear hM
    have hM := hM1
    clear hM1
    refine RL.nil ?_
    refine KQ.then_k ?_
    exact fun a ha => ⟨0, 0, ha.less (less_cons rfl (less_cons rfl less_nil)), hM, hF⟩
   rw [if_neg (ne_true hc)] at hF
   refine KC.skip ?_
   refine KQ.then_k ?_
   exact fun a ha => ⟨0, kv1.f_DstPort, ha.less (less_cons rfl (less_cons rfl less_nil)), hM, hF⟩
  rw [if_neg (ne_true hc)] at hF
  refine KC.skip ?_
  refine KQ.then_k ?_
  exact fun a ha => ⟨kv1.f_SrcPort, kv1.f_DstPort, ha.less (less_cons rfl (less_cons rfl less_nil)), hM, hF⟩
 rintro a w28 ⟨plain26, plain27, ha, hM, hF⟩
 refine KC.app ha ?_
 clear ha
 unfold F_packet_Key_Right_j1 at hF
 refine KC.cut (fun a w38 => ∃ (t37 : Bool), Kn 37 [(2, vB t37)] a ∧ Mem w [] w38 [] ∧ F_packet_Key_Right_j2 t37 = some r) ?_ ?_
 ·refine KC.region ?_
  refine RL.val (O.fldA fl42_0 (by decide) rfl) rfl ?_
  refine RL.val (O.loadN (cs := (kv1.f_Src.cs)) ag39 rfl (Cs.addsN [0] ((hM.bx (i := 0) rfl)) rfl)) rfl ?_
  refine obindE hF fun y29 hx30 hF => ?_
  refine RL.call Tryz.func72 bd72 rfl rfl (c_addr_Addr_Right _ kv1.f_Src _ hx30) fun v w31 hv => ?_
  obtain ⟨rfl, hN32⟩ := hv
  replace hM := hM.call0 hN32
  refine vm rfl rfl ?_
  refine RL.bcase (t := 18) rfl (fun hc => ?_) (fun hc => ?_)
  ·rw [if_pos hc] at hF
   refine RL.gval rfl rfl (O.fldA fl42_1 (by decide) rfl) rfl ?_
   refine RL.gval rfl rfl (O.loadN (cs := (kv1.f_Dst.cs)) ag39 rfl (Cs.addsN [17] ((hM.bx (i := 0) rfl)) rfl)) rfl ?_
   refine obindE hF fun y33 hx34 hF => ?_
   refine RL.gcall rfl rfl Tryz.func72 bd72 rfl rfl (c_addr_Addr_Right _ kv1.f_Dst _ hx34) fun v w35 hv => ?_
   obtain ⟨rfl, hN36⟩ := hv
   replace hM := hM.call0 hN36
   refine RL.val (O.pickt rfl rfl) rfl ?_
   refine vm rfl rfl ?_
   refine RL.bcase (t := 23) rfl (fun hc => ?_) (fun hc => ?_)
   ·rw [if_pos hc] at hF
    refine RL.gval rfl rfl (O.fldA fl42_0 (by decide) rfl) rfl ?_
    refine RL.gval rfl rfl (O.fldA fl39_0 (by decide) rfl) rfl ?_
    refine RL.gval rfl rfl (O.load sc4 rfl (Cs.adds [0, 0] ((hM.bx (i := 0) rfl)) rfl)) rfl ?_
    refine RL.gval rfl rfl (O.fldA fl42_1 (by decide) rfl) rfl ?_
    refine RL.gval rfl rfl (O.fldA fl39_0 (by decide) rfl) rfl ?_
    refine RL.gval rfl rfl (O.load sc4 rfl (Cs.adds [17, 0] ((hM.bx (i := 0) rfl)) rfl)) rfl ?_
    refine RL.gval rfl rfl (O.eqlb Tryz.underlying4 rfl rfl) rfl ?_
    refine RL.val (O.pickt rfl rfl) rfl ?_
    refine vm rfl rfl ?_
    refine RL.bcase (t := 32) rfl (fun hc => ?_) (fun hc => ?_)
    ·rw [if_pos hc] at hF
     refine RL.gval rfl rfl (O.loadN (cs := (kv1.cs)) ag42 rfl (Cs.addsN [] ((hM.bx (i := 0) rfl)) rfl)) rfl ?_
     refine RL.gval rfl rfl (O.loadN (cs := (kv1.f_Src.cs ++ kv1.f_Dst.cs ++ [v8 kv1.f_Proto, v16 plain26, v16 plain27])) ag42 rfl (Cs.addsN [] ((hM.bx (i := 1) rfl)) rfl)) rfl ?_
     refine RL.gval rfl rfl (O.steq (cs := (kv1.cs)) (cs' := (kv1.f_Src.cs ++ kv1.f_Dst.cs ++ [v8 kv1.f_Proto, v16 plain26, v16 plain27])) (by kernel_rfl) rfl rfl (Q42t kv1 (T_packet_Key.mk kv1.f_Src kv1.f_Dst kv1.f_Proto plain26 plain27) _ rfl rfl)) rfl ?_
     refine RL.val (O.pickt rfl rfl) rfl ?_
     refine va rfl rfl ?_
     refine RL.nil ?_
     refine KQ.then_k ?_
     replace hM := hM.pick [] rfl (by decide)
     exact fun a ha => ⟨(q_packet_Key kv1 (T_packet_Key.mk kv1.f_Src kv1.f_Dst kv1.f_Proto plain26 plain27)), ha.less (less_cons rfl less_nil), hM, hF⟩
    rw [if_neg (ne_true hc)] at hF
    refine RL.brun1 4 36 false (by kernel_rfl) ?_
    refine va rfl rfl ?_
    refine RL.nil ?_
    refine KQ.then_k ?_
    replace hM := hM.pick [] rfl (by decide)
    exact fun a ha => ⟨false, ha.less (less_cons rfl less_nil), hM, hF⟩
   rw [if_neg (ne_true hc)] at hF
   refine RL.brun1 13 36 false (by kernel_rfl) ?_
   refine va rfl rfl ?_
   refine RL.nil ?_
   refine KQ.then_k ?_
   replace hM := hM.pick [] rfl (by decide)
   exact fun a ha => ⟨false, ha.less (less_cons rfl less_nil), hM, hF⟩
  rw [if_neg (ne_true hc)] at hF
  refine RL.brun1 18 36 false (by kernel_rfl) ?_
  refine va rfl rfl ?_
  refine RL.nil ?_
  refine KQ.then_k ?_
  replace hM := hM.pick [] rfl (by decide)
  exact fun a ha => ⟨false, ha.less (less_cons rfl less_nil), hM, hF⟩
 rintro a w38 ⟨t37, ha, hM, hF⟩
 refine KC.app ha ?_
 clear ha
 unfold F_packet_Key_Right_j2 at hF
 refine KC.ret ?_
 have hE := Option.some.inj hF
 clear hF
 subst hE
 refine KQ.rets Tryz.results37 (RVs.cons (RV.tm rfl) RVs.nil) ?_
 exact ⟨_, rfl, rfl, hM⟩
set_option maxRecDepth 100000 in
set_option maxHeartbeats 40000000 in
theorem c_cache_plus (w : World) (av1 : Int) (b2 : Int) (r : Int) (hF : F_cache_plus av1 b2 = some r) :
  CallsR Tryz.prog 81 [v64 av1, v64 b2] w (fun v w' => v = v64 r ∧ Mem w [] w' []) := by
 refine calls_KC Tryz.func81 rfl Tryz.ntmps81 rfl ?_
 have hM := Mem.init w
 unfold F_cache_plus at hF
 refine sr fun Q3 hQ3 => ?_
 refine va rfl rfl ?_
 refine nt hQ3 ?_
 clear hQ3 Q3
 refine sr fun Q4 hQ4 => ?_
 refine vm rfl rfl ?_
 refine vm rfl rfl ?_
 refine RL.val (O.add64 Tryz.func96 (by kernel_rfl) (by kernel_rfl) (by kernel_rfl) (by kernel_rfl) rfl rfl rfl) rfl ?_
 refine vm rfl rfl ?_
 refine RL.val (O.ext rfl rfl) rfl ?_
 refine RL.val (O.ext rfl rfl) rfl ?_
 refine va rfl rfl ?_
 refine va rfl rfl ?_
 refine nt hQ4 ?_
 clear hQ4 Q4
 refine KC.seqH fun Q5 hQ5 => ?_
 refine sr fun Q6 hQ6 => ?_
 refine vm rfl rfl ?_
 refine RL.val (O.gtr rfl rfl) rfl ?_
 refine nt hQ6 ?_
 clear hQ6 Q6
 refine KC.cond rfl (fun hc => ?_) (fun hc => ?_)
 ·rw [if_pos hc] at hF
  refine sr fun Q7 hQ7 => ?_
  refine va rfl rfl ?_
  refine nt hQ7 ?_
  clear hQ7 Q7
  refine KC.ret ?_
  refine KQ.thr hQ5 ?_
  clear hQ5 Q5
  have hE := Option.some.inj hF
  clear hF
  subst hE
  refine KQ.rets Tryz.results81 (RVs.cons (RV.tm rfl) RVs.nil) ?_
  exact ⟨_, rfl, rfl, hM⟩
 rw [if_neg (ne_true hc)] at hF
 refine KC.skip ?_
 refine KQ.thn hQ5 ?_
 clear hQ5 Q5
 refine sr fun Q8 hQ8 => ?_
 refine vm rfl rfl ?_
 refine va rfl rfl ?_
 refine nt hQ8 ?_
 clear hQ8 Q8
 refine KC.ret ?_
 have hE := Option.some.inj hF
 clear hF
 subst hE
 refine KQ.rets Tryz.results81 (RVs.cons (RV.tm rfl) RVs.nil) ?_
 exact ⟨_, rfl, rfl, hM⟩
set_option maxRecDepth 100000 in
set_option maxHeartbeats 40000000 in
theorem c_cache_Cache_idle_B (w : World) (g2 : Nat) (tg6 : TypeId) (cv1 : T_cache_Cache) (vo4 : Value) (vo5 : Value) (hL8 : Lent w [.box g2 tg6 (v64 cv1.f_tick :: (cv1.f_bounds.cs ++ [vo4, vo5]))]) (rv7 : T_flow_Record) (r : Int) (hF : F_cache_Cache_idle cv1 rv7 = some r) :
  CallsR Tryz.prog 55 [.pointer (some ⟨g2, 0, none⟩), .agg (rv7.cs).toArray] w (fun v w' => v = v64 r ∧ Mem w [some g2] w' [.box g2 tg6 (v64 cv1.f_tick :: (cv1.f_bounds.cs ++ [vo4, vo5]))]) := by
 refine calls_KC Tryz.func55 rfl Tryz.ntmps55 rfl ?_
 have hM : Mem w [some g2] w [.box g2 tg6 (v64 cv1.f_tick :: (cv1.f_bounds.cs ++ [vo4, vo5]))] := Mem.lendN hL8
 unfold F_cache_Cache_idle at hF
 refine sr fun Q9 hQ9 => ?_
 refine RL.eff (E.box (vs := (rv7.cs)) hM rfl rfl) rfl fun v w11 hv => ?_
 clear hM
 obtain ⟨g10, rfl, hM, hf⟩ := hv
 refine va rfl rfl ?_
 refine nt hQ9 ?_
 clear hQ9 Q9
 refine KC.seqH fun Q13 hQ13 => ?_
 replace hM := hM.drewN 1
 refine KC.draw [] [] [7] [0, 2, 3, 4, 5, 8] (.ofList [0, 1, 2, 3, 4, 5, 6, 7, 8]) moP (by kernel_rfl) ?_
 refine RD.p rfl rfl rfl rfl (fun w' => O.fldA fl62_4 (by decide) rfl) ?_
 refine RD.q rfl rfl rfl rfl (fun w' hf => O.load sc22 rfl (Cs.adds [40] ((hM.bx (i := 1) rfl).fut hf) rfl)) ?_
 refine RD.p rfl rfl rfl rfl (fun w' => O.move rfl) ?_
 refine RD.p rfl rfl rfl rfl (fun w' => O.nilp rfl) ?_
 refine RD.p rfl rfl rfl rfl (fun w' => O.fldA fl69_1 (by decide) rfl) ?_
 refine RD.p rfl rfl rfl rfl (fun w' => O.fldA fl24_1 (by decide) rfl) ?_
 refine RD.q rfl rfl rfl rfl (fun w' hf => O.load sc22 rfl (Cs.adds [1, 1] ((hM.bx (i := 0) rfl).fut hf) rfl)) ?_
 refine obindE hF fun y14 hx15 hF => ?_
 refine RD.mcall rfl rfl trivial Tryz.func81 bd81 rfl rfl (c_cache_plus _ rv7.f_Last cv1.f_bounds.f_Idle _ hx15) fun v w16 hv => ?_
 obtain ⟨rfl, hN17⟩ := hv
 refine ⟨fun _ => hN17.fut, ?_⟩
 replace hM := hM.call0 hN17
 refine RD.p rfl rfl rfl rfl (fun w' => O.assign rfl) ?_
 refine RD.nil ?_
 refine KQ.thn hQ13 ?_
 clear hQ13 Q13
 refine KC.ret ?_
 have hE := Option.some.inj hF
 clear hF
 subst hE
 replace hM := hM.pick [0] rfl (by decide)
 refine KQ.rets Tryz.results55 (RVs.cons (RV.tm rfl) RVs.nil) ?_
 exact ⟨_, rfl, rfl, hM⟩
theorem c_cache_Cache_idle (w : World) (g2 : Nat) (tg6 : TypeId) (cv1 : T_cache_Cache) (vo4 : Value) (vo5 : Value) (hL8 : Lent w [.box g2 tg6 (v64 cv1.f_tick :: (cv1.f_bounds.cs ++ [vo4, vo5]))]) (rv7 : T_flow_Record) (r : Int) (hF : F_cache_Cache_idle cv1 rv7 = some r) :
  CallsR Tryz.prog 55 [.pointer (some ⟨g2, 0, none⟩), .agg (rv7.cs).toArray] w (fun v w' => v = v64 r ∧ Mem w [] w' []) := Calls.mono (c_cache_Cache_idle_B w g2 tg6 cv1 vo4 vo5 hL8 rv7 r hF) fun e w1 ⟨v, he, hv, hm⟩ => ⟨v, he, hv, hm.still hL8 rfl rfl⟩
set_option maxRecDepth 100000 in
set_option maxHeartbeats 40000000 in
theorem c_cache_Cache_due_B (w : World) (g2 : Nat) (tg6 : TypeId) (cv1 : T_cache_Cache) (vo4 : Value) (vo5 : Value) (hL8 : Lent w [.box g2 tg6 (v64 cv1.f_tick :: (cv1.f_bounds.cs ++ [vo4, vo5]))]) (rv7 : T_flow_Record) (r : Int) (hF : F_cache_Cache_due cv1 rv7 = some r) :
  CallsR Tryz.prog 47 [.pointer (some ⟨g2, 0, none⟩), .agg (rv7.cs).toArray] w (fun v w' => v = v64 r ∧ Mem w [some g2] w' [.box g2 tg6 (v64 cv1.f_tick :: (cv1.f_bounds.cs ++ [vo4, vo5]))]) := by
 refine calls_KC Tryz.func47 rfl Tryz.ntmps47 rfl ?_
 have hM : Mem w [some g2] w [.box g2 tg6 (v64 cv1.f_tick :: (cv1.f_bounds.cs ++ [vo4, vo5]))] := Mem.lendN hL8
 unfold F_cache_Cache_due at hF
 refine sr fun Q9 hQ9 => ?_
 refine RL.eff (E.box (vs := (rv7.cs)) hM rfl rfl) rfl fun v w11 hv => ?_
 clear hM
 obtain ⟨g10, rfl, hM, hf⟩ := hv
 refine va rfl rfl ?_
 refine nt hQ9 ?_
 clear hQ9 Q9
 refine KC.seqH fun Q13 hQ13 => ?_
 replace hM := hM.drewN 1
 refine KC.draw [] [] [2, 10] [0, 3, 5, 6, 7, 8, 11, 12] (.ofList [0, 1, 3, 4, 5, 6, 7, 8, 9, 2, 10, 11, 12]) moP (by kernel_rfl) ?_
 refine RD.p rfl rfl rfl rfl (fun w' => O.move rfl) ?_
 refine RD.q rfl rfl rfl rfl (fun w' hf => O.loadN (cs := (rv7.cs)) ag62 rfl (Cs.addsN [] ((hM.bx (i := 1) rfl).fut hf) rfl)) ?_
 refine RD.p rfl rfl rfl rfl (fun w' => O.fldA fl62_3 (by decide) rfl) ?_
 refine RD.q rfl rfl rfl rfl (fun w' hf => O.load sc22 rfl (Cs.adds [39] ((hM.bx (i := 1) rfl).fut hf) rfl)) ?_
 refine RD.p rfl rfl rfl rfl (fun w' => O.move rfl) ?_
 refine RD.p rfl rfl rfl rfl (fun w' => O.nilp rfl) ?_
 refine RD.p rfl rfl rfl rfl (fun w' => O.fldA fl69_1 (by decide) rfl) ?_
 refine RD.p rfl rfl rfl rfl (fun w' => O.fldA fl24_2 (by decide) rfl) ?_
 refine RD.q rfl rfl rfl rfl (fun w' hf => O.load sc22 rfl (Cs.adds [1, 2] ((hM.bx (i := 0) rfl).fut hf) rfl)) ?_
 refine obindE hF fun y14 hx15 hF => ?_
 refine RD.mcall rfl rfl trivial Tryz.func55 bd55 rfl rfl (c_cache_Cache_idle _ _ _ cv1 _ _ (hM.lent [0] rfl (by decide)) rv7 _ hx15) fun v w16 hv => ?_
 obtain ⟨rfl, hN17⟩ := hv
 refine ⟨fun _ => hN17.fut, ?_⟩
 replace hM := hM.call0 hN17
 refine obindE hF fun y18 hx19 hF => ?_
 refine RD.mcall rfl rfl trivial Tryz.func81 bd81 rfl rfl (c_cache_plus _ rv7.f_First cv1.f_bounds.f_Active _ hx19) fun v w20 hv => ?_
 obtain ⟨rfl, hN21⟩ := hv
 refine ⟨fun _ => hN21.fut, ?_⟩
 replace hM := hM.call0 hN21
 refine RD.p rfl rfl rfl rfl (fun w' => O.min2 rfl rfl) ?_
 refine RD.p rfl rfl rfl rfl (fun w' => O.assign rfl) ?_
 refine RD.nil ?_
 refine KQ.thn hQ13 ?_
 clear hQ13 Q13
 refine KC.ret ?_
 have hE := Option.some.inj hF
 clear hF
 subst hE
 replace hM := hM.pick [0] rfl (by decide)
 refine KQ.rets Tryz.results47 (RVs.cons (RV.tm rfl) RVs.nil) ?_
 exact ⟨_, rfl, rfl, hM⟩
theorem c_cache_Cache_due (w : World) (g2 : Nat) (tg6 : TypeId) (cv1 : T_cache_Cache) (vo4 : Value) (vo5 : Value) (hL8 : Lent w [.box g2 tg6 (v64 cv1.f_tick :: (cv1.f_bounds.cs ++ [vo4, vo5]))]) (rv7 : T_flow_Record) (r : Int) (hF : F_cache_Cache_due cv1 rv7 = some r) :
  CallsR Tryz.prog 47 [.pointer (some ⟨g2, 0, none⟩), .agg (rv7.cs).toArray] w (fun v w' => v = v64 r ∧ Mem w [] w' []) := Calls.mono (c_cache_Cache_due_B w g2 tg6 cv1 vo4 vo5 hL8 rv7 r hF) fun e w1 ⟨v, he, hv, hm⟩ => ⟨v, he, hv, hm.still hL8 rfl rfl⟩
set_option maxRecDepth 100000 in
set_option maxHeartbeats 40000000 in
theorem c_cmp_isNaN_uint64 (w : World) (xv1 : Int) (r : Bool) (hF : F_cmp_isNaN_uint64 xv1 = some r) :
  CallsR Tryz.prog 83 [v64 xv1] w (fun v w' => v = vB r ∧ Mem w [] w' []) := by
 refine calls_KC Tryz.func83 rfl Tryz.ntmps83 rfl ?_
 have hM := Mem.init w
 unfold F_cmp_isNaN_uint64 at hF
 refine sr fun Q2 hQ2 => ?_
 refine va rfl rfl ?_
 refine nt hQ2 ?_
 clear hQ2 Q2
 refine sr fun Q3 hQ3 => ?_
 refine vm rfl rfl ?_
 refine vm rfl rfl ?_
 refine RL.val (O.neq rfl rfl) rfl ?_
 refine va rfl rfl ?_
 refine nt hQ3 ?_
 clear hQ3 Q3
 refine KC.ret ?_
 have hE := Option.some.inj hF
 clear hF
 subst hE
 refine KQ.rets Tryz.results83 (RVs.cons (RV.tm rfl) RVs.nil) ?_
 exact ⟨_, rfl, rfl, hM⟩
set_option maxRecDepth 100000 in
set_option maxHeartbeats 40000000 in
theorem c_cmp_Compare_uint64 (w : World) (xv1 : Int) (y2 : Int) (r : Int) (hF : F_cmp_Compare_uint64 xv1 y2 = some r) :
  CallsR Tryz.prog 51 [v64 xv1, v64 y2] w (fun v w' => v = vI r ∧ Mem w [] w' []) := by
 refine calls_KC Tryz.func51 rfl Tryz.ntmps51 rfl ?_
 have hM := Mem.init w
 unfold F_cmp_Compare_uint64 at hF
 refine sr fun Q3 hQ3 => ?_
 refine va rfl rfl ?_
 refine nt hQ3 ?_
 clear hQ3 Q3
 refine sr fun Q4 hQ4 => ?_
 refine vm rfl rfl ?_
 refine obindE hF fun y5 hx6 hF => ?_
 refine RL.call Tryz.func83 bd83 rfl rfl (c_cmp_isNaN_uint64 _ xv1 _ hx6) fun v w7 hv => ?_
 obtain ⟨rfl, hN8⟩ := hv
 replace hM := hM.call0 hN8
 refine va rfl rfl ?_
 refine nt hQ4 ?_
 clear hQ4 Q4
 refine sr fun Q9 hQ9 => ?_
 refine vm rfl rfl ?_
 refine obindE hF fun y10 hx11 hF => ?_
 refine RL.call Tryz.func83 bd83 rfl rfl (c_cmp_isNaN_uint64 _ y2 _ hx11) fun v w12 hv => ?_
 obtain ⟨rfl, hN13⟩ := hv
 replace hM := hM.call0 hN13
 refine va rfl rfl ?_
 refine nt hQ9 ?_
 clear hQ9 Q9
 refine KC.seqH fun Q14 hQ14 => ?_
 refine sr fun Q15 hQ15 => ?_
 refine vm rfl rfl ?_
 refine nt hQ15 ?_
 clear hQ15 Q15
 refine KC.cond rfl (fun hc => ?_) (fun hc => ?_)
 ·rw [if_pos hc] at hF
  refine KC.seqH fun Q16 hQ16 => ?_
  refine sr fun Q17 hQ17 => ?_
  refine vm rfl rfl ?_
  refine nt hQ17 ?_
  clear hQ17 Q17
  refine KC.cond rfl (fun hc => ?_) (fun hc => ?_)
  ·rw [if_pos hc] at hF
   refine sr fun Q18 hQ18 => ?_
   refine va rfl rfl ?_
   refine nt hQ18 ?_
   clear hQ18 Q18
   refine KC.ret ?_
   refine KQ.thr hQ16 ?_
   clear hQ16 Q16
   refine KQ.thr hQ14 ?_
   clear hQ14 Q14
   have hE := Option.some.inj hF
   clear hF
   subst hE
   refine KQ.rets Tryz.results51 (RVs.cons (RV.tm rfl) RVs.nil) ?_
   exact ⟨_, rfl, rfl, hM⟩
  rw [if_neg (ne_true hc)] at hF
  refine KC.skip ?_
  refine KQ.thn hQ16 ?_
  clear hQ16 Q16
  refine sr fun Q19 hQ19 => ?_
  refine va rfl rfl ?_
  refine nt hQ19 ?_
  clear hQ19 Q19
  refine KC.ret ?_
  refine KQ.thr hQ14 ?_
  clear hQ14 Q14
  have hE := Option.some.inj hF
  clear hF
  subst hE
  refine KQ.rets Tryz.results51 (RVs.cons (RV.tm rfl) RVs.nil) ?_
  exact ⟨_, rfl, rfl, hM⟩
 rw [if_neg (ne_true hc)] at hF
 refine KC.skip ?_
 refine KQ.thn hQ14 ?_
 clear hQ14 Q14
 refine KC.seqH fun Q20 hQ20 => ?_
 refine sr fun Q21 hQ21 => ?_
 refine vm rfl rfl ?_
 refine nt hQ21 ?_
 clear hQ21 Q21
 refine KC.cond rfl (fun hc => ?_) (fun hc => ?_)
 ·rw [if_pos hc] at hF
  refine sr fun Q22 hQ22 => ?_
  refine va rfl rfl ?_
  refine nt hQ22 ?_
  clear hQ22 Q22
  refine KC.ret ?_
  refine KQ.thr hQ20 ?_
  clear hQ20 Q20
  have hE := Option.some.inj hF
  clear hF
  subst hE
  refine KQ.rets Tryz.results51 (RVs.cons (RV.tm rfl) RVs.nil) ?_
  exact ⟨_, rfl, rfl, hM⟩
 rw [if_neg (ne_true hc)] at hF
 refine KC.skip ?_
 refine KQ.thn hQ20 ?_
 clear hQ20 Q20
 refine KC.seqH fun Q23 hQ23 => ?_
 refine sr fun Q24 hQ24 => ?_
 refine vm rfl rfl ?_
 refine vm rfl rfl ?_
 refine RL.val (O.lss rfl rfl) rfl ?_
 refine nt hQ24 ?_
 clear hQ24 Q24
 refine KC.cond rfl (fun hc => ?_) (fun hc => ?_)
 ·rw [if_pos hc] at hF
  refine sr fun Q25 hQ25 => ?_
  refine va rfl rfl ?_
  refine nt hQ25 ?_
  clear hQ25 Q25
  refine KC.ret ?_
  refine KQ.thr hQ23 ?_
  clear hQ23 Q23
  have hE := Option.some.inj hF
  clear hF
  subst hE
  refine KQ.rets Tryz.results51 (RVs.cons (RV.tm rfl) RVs.nil) ?_
  exact ⟨_, rfl, rfl, hM⟩
 rw [if_neg (ne_true hc)] at hF
 refine KC.skip ?_
 refine KQ.thn hQ23 ?_
 clear hQ23 Q23
 refine KC.seqH fun Q26 hQ26 => ?_
 refine sr fun Q27 hQ27 => ?_
 refine vm rfl rfl ?_
 refine vm rfl rfl ?_
 refine RL.val (O.gtr rfl rfl) rfl ?_
 refine nt hQ27 ?_
 clear hQ27 Q27
 refine KC.cond rfl (fun hc => ?_) (fun hc => ?_)
 ·rw [if_pos hc] at hF
  refine sr fun Q28 hQ28 => ?_
  refine va rfl rfl ?_
  refine nt hQ28 ?_
  clear hQ28 Q28
  refine KC.ret ?_
  refine KQ.thr hQ26 ?_
  clear hQ26 Q26
  have hE := Option.some.inj hF
  clear hF
  subst hE
  refine KQ.rets Tryz.results51 (RVs.cons (RV.tm rfl) RVs.nil) ?_
  exact ⟨_, rfl, rfl, hM⟩
 rw [if_neg (ne_true hc)] at hF
 refine KC.skip ?_
 refine KQ.thn hQ26 ?_
 clear hQ26 Q26
 refine sr fun Q29 hQ29 => ?_
 refine va rfl rfl ?_
 refine nt hQ29 ?_
 clear hQ29 Q29
 refine KC.ret ?_
 have hE := Option.some.inj hF
 clear hF
 subst hE
 refine KQ.rets Tryz.results51 (RVs.cons (RV.tm rfl) RVs.nil) ?_
 exact ⟨_, rfl, rfl, hM⟩
set_option maxRecDepth 100000 in
set_option maxHeartbeats 40000000 in
theorem c_bits_Writer_Raw (w : World) (g2 : Nat) (tg7 : TypeId) (wv1 : T_bits_Writer) (A4 : Option Addr) (c5 : Nat) (hL13 : Lent w [.box g2 tg7 [.slice A4 (wv1.f_b).length c5], .row A4 c5 5 1 (wv1.f_b).length ((wv1.f_b).flatMap (eI .u8))]) (A9 : Option Addr) (c10 : Nat) (b8 : List Int) (hr11 : Rd w A9 c10 1 b8.length (b8.flatMap (eI .u8))) (ho12 : Off [some g2, rblk A4 c5] b8.length A9) (r : Int × T_bits_Writer) (hF : F_bits_Writer_Raw wv1 b8 = some r) :
  CallsR Tryz.prog 117 [.pointer (some ⟨g2, 0, none⟩), .slice A9 (b8).length c10] w (fun v w' => ∃ (A0 : Option Addr) (c0 : Nat), v = vI r.1 ∧ Mem w [some g2, rblk A4 c5] w' [.box g2 tg7 [.slice A0 (r.2.f_b).length c0], .row A0 c0 5 1 r.2.f_b.length (r.2.f_b.flatMap (eI .u8))]) := by
 refine calls_KC Tryz.func117 rfl Tryz.ntmps117 rfl ?_
 have hM : Mem w [some g2, rblk A4 c5] w [.box g2 tg7 [.slice A4 (wv1.f_b).length c5], .row A4 c5 5 1 (wv1.f_b).length ((wv1.f_b).flatMap (eI .u8))] := Mem.lendN hL13
 unfold F_bits_Writer_Raw at hF
 refine sr fun Q14 hQ14 => ?_
 refine va rfl rfl ?_
 refine nt hQ14 ?_
 clear hQ14 Q14
 refine KC.seqH fun Q15 hQ15 => ?_
 refine sr fun Q16 hQ16 => ?_
 refine vm rfl rfl ?_
 refine RL.val (O.peqn Tryz.underlying190 rfl rfl) rfl ?_
 refine nt hQ16 ?_
 clear hQ16 Q16
 refine KC.condF rfl ?_
 refine KC.skip ?_
 refine KQ.thn hQ15 ?_
 clear hQ15 Q15
 refine sr fun Q17 hQ17 => ?_
 refine vm rfl rfl ?_
 refine vm rfl rfl ?_
 refine RL.val (O.nilp rfl) rfl ?_
 refine RL.val (O.fldA fl181_0 (by decide) rfl) rfl ?_
 refine RL.val (O.load sc156 rfl (Cs.adds [0] ((hM.bx (i := 0) rfl)) rfl)) rfl ?_
 refine vm rfl rfl ?_
 refine cut_someE hF fun hq21 hF => ?_
 refine RL.eff (E.app (enc := (eI .u8)) (xs := wv1.f_b) (ys := b8) (j := 1) hM rfl sl156 ze5 rfl rfl rfl rfl rfl (hM.inp hr11 ho12) (fun _ => One.all rfl) (of_decide_eq_true hq21)) rfl fun v w20 hv => ?_
 clear hM
 obtain ⟨A18, c19, rfl, hM, hf⟩ := hv
 refine RL.val (O.nilp rfl) rfl ?_
 refine RL.val (O.fldA fl181_0 (by decide) rfl) rfl ?_
 refine RL.effs (E.stB (j := 0) (off := 0) (vs := [.slice A18 ((wv1.f_b ++ b8)).length c19]) (cs' := [.slice A18 ((wv1.f_b ++ b8)).length c19]) hM rfl sz156 rfl (adds_eq [0] rfl) rfl rfl (One.all rfl) rfl rfl) fun w23 hM1 => ?_
 clear hM
 have hM := hM1
 clear hM1
 refine nt hQ17 ?_
 clear hQ17 Q17
 refine sr fun Q24 hQ24 => ?_
 refine va rfl rfl ?_
 refine nt hQ24 ?_
 clear hQ24 Q24
 refine KC.ret ?_
 have hE := Option.some.inj hF
 clear hF
 subst hE
 refine KQ.rets Tryz.results117 (RVs.cons (RV.tm rfl) RVs.nil) ?_
 exact ⟨_, rfl, A18, c19, rfl, hM⟩
set_option maxRecDepth 100000 in
set_option maxHeartbeats 40000000 in
theorem c_bytes_Clone (w : World) (A2 : Option Addr) (c3 : Nat) (b1 : List Int) (hr4 : Rd w A2 c3 1 b1.length (b1.flatMap (eI .u8))) (r : (List Int)) (hF : F_bytes_Clone b1 = some r) :
  CallsR Tryz.prog 127 [.slice A2 (b1).length c3] w (fun v w' => ∃ (A0 : Option Addr) (c0 : Nat), v = .slice A0 (r).length c0 ∧ Mem w [] w' [.row A0 c0 5 1 r.length (r.flatMap (eI .u8))]) := by
 refine calls_KC Tryz.func127 rfl Tryz.ntmps127 rfl ?_
 have hM := Mem.init w
 unfold F_bytes_Clone at hF
 refine sr fun Q5 hQ5 => ?_
 refine va rfl rfl ?_
 refine nt hQ5 ?_
 clear hQ5 Q5
 refine KC.seqH fun Q6 hQ6 => ?_
 refine sr fun Q7 hQ7 => ?_
 refine vm rfl rfl ?_
 refine RL.val (O.sleqn sl156 rfl rfl) rfl ?_
 refine nt hQ7 ?_
 clear hQ7 Q7
 refine KC.cond rfl (fun hc => ?_) (fun hc => ?_)
 ·have hz8 := Rd.none_nil (hM.inp hr4 Off.nil) (hc)
  have hF : (some ([])) = some r := by (rw [hz8] at hF; simpa [lim] using hF)
  refine sr fun Q9 hQ9 => ?_
  refine va rfl rfl ?_
  refine nt hQ9 ?_
  clear hQ9 Q9
  refine KC.ret ?_
  refine KQ.thr hQ6 ?_
  clear hQ6 Q6
  have hE := Option.some.inj hF
  clear hF
  subst hE
  replace hM := hM.nilrow 5 1
  refine KQ.rets Tryz.results127 (RVs.cons (RV.tm rfl) RVs.nil) ?_
  exact ⟨_, rfl, none, 0, rfl, hM⟩
 refine KC.skip ?_
 refine KQ.thn hQ6 ?_
 clear hQ6 Q6
 refine sr fun Q10 hQ10 => ?_
 refine RL.eff (E.bsl0 hM sl156) rfl fun v w11 hv => ?_
 clear hM
 obtain ⟨A12, rfl, hM, hf⟩ := hv
 refine vm rfl rfl ?_
 refine cut_someE hF fun hq17 hF => ?_
 refine RL.eff (E.app (enc := (eI .u8)) (xs := ([] : List Int)) (ys := b1) (j := 0) hM rfl sl156 ze5 rfl rfl rfl rfl rfl (hM.inp hr4 Off.nil) (fun _ => One.all rfl) (of_decide_eq_true hq17)) rfl fun v w16 hv => ?_
 clear hM
 obtain ⟨A14, c15, rfl, hM, hf⟩ := hv
 refine va rfl rfl ?_
 refine nt hQ10 ?_
 clear hQ10 Q10
 refine KC.ret ?_
 have hE := Option.some.inj hF
 clear hF
 subst hE
 refine KQ.rets Tryz.results127 (RVs.cons (RV.tm rfl) RVs.nil) ?_
 exact ⟨_, rfl, A14, c15, rfl, hM⟩
set_option maxRecDepth 100000 in
set_option maxHeartbeats 40000000 in
theorem c_addr_Addr_Bytes (w : World) (av1 : T_addr_Addr) (r : (List Int)) (hF : F_addr_Addr_Bytes av1 = some r) :
  CallsR Tryz.prog 118 [.agg (av1.cs).toArray] w (fun v w' => ∃ (A0 : Option Addr) (c0 : Nat), v = .slice A0 (r).length c0 ∧ Mem w [] w' [.row A0 c0 5 1 r.length (r.flatMap (eI .u8))]) := by
 refine calls_KC Tryz.func118 rfl Tryz.ntmps118 rfl ?_
 have hM := Mem.init w
 unfold F_addr_Addr_Bytes at hF
 refine sr fun Q2 hQ2 => ?_
 refine RL.eff (E.box (vs := (av1.cs)) hM rfl rfl) rfl fun v w4 hv => ?_
 clear hM
 obtain ⟨g3, rfl, hM, hf⟩ := hv
 refine va rfl rfl ?_
 refine nt hQ2 ?_
 clear hQ2 Q2
 refine sr fun Q6 hQ6 => ?_
 refine RL.val (O.fldA fl39_1 (by decide) rfl) rfl ?_
 refine RL.val (O.loadN (cs := (av1.cs)) ag39 rfl (Cs.addsN [] ((hM.bx (i := 0) rfl)) rfl)) rfl ?_
 refine obindE hF fun y7 hx8 hF => ?_
 refine RL.call Tryz.func93 bd93 rfl rfl (c_addr_Addr_size _ av1 _ hx8) fun v w9 hv => ?_
 obtain ⟨rfl, hN10⟩ := hv
 replace hM := hM.call0 hN10
 refine obindE hF fun cut12 hy13 hF => ?_
 have hr11 := Rd.arrTo (n := 16) (k := .u8) (xs := av1.f_B) (Cs.addsN [1] (hM.bx (i := 0) rfl) rfl) rfl rfl hy13
 refine RL.val (O.slArrTo Tryz.underlying37 sz5 rfl hy13 rfl rfl) rfl ?_
 refine obindE hF fun y14 hx15 hF => ?_
 refine RL.call Tryz.func127 bd127 rfl rfl (c_bytes_Clone _ _ _ cut12 hr11 _ hx15) fun v w16 hv => ?_
 obtain ⟨A18, c19, rfl, hN17⟩ := hv
 have hr11 := hr11.fut hN17.fut
 replace hM := hM.call hN17
 refine va rfl rfl ?_
 refine nt hQ6 ?_
 clear hQ6 Q6
 refine KC.ret ?_
 have hE := Option.some.inj hF
 clear hF
 subst hE
 replace hM := hM.pick [1] rfl (by decide)
 refine KQ.rets Tryz.results118 (RVs.cons (RV.tm rfl) RVs.nil) ?_
 exact ⟨_, rfl, A18, c19, rfl, hM⟩
set_option maxRecDepth 100000 in
set_option maxHeartbeats 40000000 in
theorem c_bits_right (w : World) (size1 : Int) (r : Bool) (hF : F_bits_right size1 = some r) :
  CallsR Tryz.prog 132 [vI size1] w (fun v w' => v = vB r ∧ Mem w [] w' []) := by
 refine calls_KC Tryz.func132 rfl Tryz.ntmps132 rfl ?_
 have hM := Mem.init w
 unfold F_bits_right at hF
 refine sr fun Q2 hQ2 => ?_
 refine va rfl rfl ?_
 refine nt hQ2 ?_
 clear hQ2 Q2
 refine KC.cut (fun a w4 => ∃ (t3 : Bool), Kn 9 [(2, vB t3)] a ∧ Mem w [] w4 [] ∧ F_bits_right_j1 t3 = some r) ?_ ?_
 ·refine KC.region ?_
  refine vm rfl rfl ?_
  refine RL.val (O.geq rfl rfl) rfl ?_
  refine vm rfl rfl ?_
  refine RL.bcase (t := 5) rfl (fun hc => ?_) (fun hc => ?_)
  ·rw [if_pos hc] at hF
   refine RL.gval rfl rfl (O.move rfl) rfl ?_
   refine RL.gval rfl rfl (O.leq rfl rfl) rfl ?_
   refine RL.val (O.pickt rfl rfl) rfl ?_
   refine va rfl rfl ?_
   refine RL.nil ?_
   refine KQ.then_k ?_
   exact fun a ha => ⟨(decide (size1 ≤ 8)), ha.less (less_cons rfl less_nil), hM, hF⟩
  rw [if_neg (ne_true hc)] at hF
  refine RL.gskip rfl rfl rfl rfl ?_
  refine RL.gskip rfl rfl rfl rfl ?_
  refine RL.val (O.pickf rfl rfl) rfl ?_
  refine va rfl rfl ?_
  refine RL.nil ?_
  refine KQ.then_k ?_
  exact fun a ha => ⟨false, ha.less (less_cons rfl less_nil), hM, hF⟩
 rintro a w4 ⟨t3, ha, hM, hF⟩
 refine KC.app ha ?_
 clear ha
 unfold F_bits_right_j1 at hF
 refine KC.ret ?_
 have hE := Option.some.inj hF
 clear hF
 subst hE
 refine KQ.rets Tryz.results132 (RVs.cons (RV.tm rfl) RVs.nil) ?_
 exact ⟨_, rfl, rfl, hM⟩
set_option maxRecDepth 100000 in
set_option maxHeartbeats 40000000 in
theorem c_bits_Least (w : World) (v1 : Int) (r : Int) (hF : F_bits_Least v1 = some r) :
  CallsR Tryz.prog 133 [v64 v1] w (fun v w' => v = vI r ∧ Mem w [] w' []) := by
 refine calls_KC Tryz.func133 rfl Tryz.ntmps133 rfl ?_
 have hM := Mem.init w
 unfold F_bits_Least at hF
 refine sr fun Q2 hQ2 => ?_
 refine va rfl rfl ?_
 refine nt hQ2 ?_
 clear hQ2 Q2
 refine sr fun Q3 hQ3 => ?_
 refine va rfl rfl ?_
 refine nt hQ3 ?_
 clear hQ3 Q3
 refine KC.seqH fun Q4 hQ4 => ?_
 refine sr fun Q5 hQ5 => ?_
 refine vm rfl rfl ?_
 refine RL.val (O.shr rfl rfl (by decide)) rfl ?_
 refine va rfl rfl ?_
 refine nt hQ5 ?_
 clear hQ5 Q5
 refine KC.block ?_
 refine KC.loop (fun k18 a w16 => ∃ (v14 : Int) (nv15 : Int), Kn 13 [(0, v64 v14), (3, vI nv15)] a ∧ Mem w [] w16 [] ∧ F_bits_Least_L1 k18 v14 nv15 = some r) ?_ ?_
 ·exact fun a ha => ⟨fuel0, (Ox.shr .u64 v1 8), 1, ha.less (less_cons rfl (less_cons rfl less_nil)), hM, hF⟩
 rintro k18 a w16 ⟨v14, nv15, ha, hM, hF⟩
 refine KC.app ha ?_
 clear ha
 cases k18 with
 | zero => exact (none_some hF).elim
 | succ k18 =>
 have hF : F_bits_Least_l1 (F_bits_Least_L1 k18) v14 nv15 = some r := hF
 unfold F_bits_Least_l1 at hF
 refine KC.seqH fun Q19 hQ19 => ?_
 refine sr fun Q20 hQ20 => ?_
 refine vm rfl rfl ?_
 refine RL.val (O.gtr rfl rfl) rfl ?_
 refine nt hQ20 ?_
 clear hQ20 Q20
 refine KC.cond rfl (fun hc => ?_) (fun hc => ?_)
 ·rw [if_pos hc] at hF
  refine KC.skip ?_
  refine KQ.thn hQ19 ?_
  clear hQ19 Q19
  refine KC.seqH fun Q21 hQ21 => ?_
  refine KC.block ?_
  refine KC.region ?_
  refine vm rfl rfl ?_
  refine RL.val (O.add rfl rfl) rfl ?_
  refine va rfl rfl ?_
  refine RL.nil ?_
  refine KQ.blk_n ?_
  refine KQ.thn hQ21 ?_
  clear hQ21 Q21
  refine KC.region ?_
  refine vm rfl rfl ?_
  refine RL.val (O.shr rfl rfl (by decide)) rfl ?_
  refine va rfl rfl ?_
  refine RL.nil ?_
  refine KQ.then_k ?_
  exact fun a ha => ⟨k18, Nat.lt_succ_self k18, (Ox.shr .u64 v14 8), (IntKind.i64.wrap (nv15 + 1)), ha.less (less_cons rfl (less_cons rfl less_nil)), hM, hF⟩
 rw [if_neg (ne_true hc)] at hF
 refine KC.exit ?_
 refine KQ.thx hQ19 ?_
 clear hQ19 Q19
 refine KQ.then_x ?_
 refine KQ.blk_x ?_
 refine KQ.thn hQ4 ?_
 clear hQ4 Q4
 refine sr fun Q22 hQ22 => ?_
 refine vm rfl rfl ?_
 refine va rfl rfl ?_
 refine nt hQ22 ?_
 clear hQ22 Q22
 refine KC.ret ?_
 have hE := Option.some.inj hF
 clear hF
 subst hE
 refine KQ.rets Tryz.results133 (RVs.cons (RV.tm rfl) RVs.nil) ?_
 exact ⟨_, rfl, rfl, hM⟩
set_option maxRecDepth 100000 in
set_option maxHeartbeats 40000000 in
theorem c_bits_fits (w : World) (v1 : Int) (size2 : Int) (r : Bool) (hF : F_bits_fits v1 size2 = some r) :
  CallsR Tryz.prog 128 [v64 v1, vI size2] w (fun v w' => v = vB r ∧ Mem w [] w' []) := by
 refine calls_KC Tryz.func128 rfl Tryz.ntmps128 rfl ?_
 have hM := Mem.init w
 unfold F_bits_fits at hF
 refine sr fun Q3 hQ3 => ?_
 refine va rfl rfl ?_
 refine nt hQ3 ?_
 clear hQ3 Q3
 refine KC.cut (fun a w13 => ∃ (t12 : Bool), Kn 13 [(4, vB t12)] a ∧ Mem w [] w13 [] ∧ F_bits_fits_j1 t12 = some r) ?_ ?_
 ·refine KC.region ?_
  refine vm rfl rfl ?_
  refine obindE hF fun y4 hx5 hF => ?_
  refine RL.call Tryz.func132 bd132 rfl rfl (c_bits_right _ size2 _ hx5) fun v w6 hv => ?_
  obtain ⟨rfl, hN7⟩ := hv
  replace hM := hM.call0 hN7
  refine vm rfl rfl ?_
  refine RL.bcase (t := 7) rfl (fun hc => ?_) (fun hc => ?_)
  ·rw [if_pos hc] at hF
   refine RL.gval rfl rfl (O.move rfl) rfl ?_
   refine obindE hF fun y8 hx9 hF => ?_
   refine RL.gcall rfl rfl Tryz.func133 bd133 rfl rfl (c_bits_Least _ v1 _ hx9) fun v w10 hv => ?_
   obtain ⟨rfl, hN11⟩ := hv
   replace hM := hM.call0 hN11
   refine RL.gval rfl rfl (O.move rfl) rfl ?_
   refine RL.gval rfl rfl (O.leq rfl rfl) rfl ?_
   refine RL.val (O.pickt rfl rfl) rfl ?_
   refine va rfl rfl ?_
   refine RL.nil ?_
   refine KQ.then_k ?_
   exact fun a ha => ⟨(decide (y8 ≤ size2)), ha.less (less_cons rfl less_nil), hM, hF⟩
  rw [if_neg (ne_true hc)] at hF
  refine RL.brun1 5 12 false (by kernel_rfl) ?_
  refine va rfl rfl ?_
  refine RL.nil ?_
  refine KQ.then_k ?_
  exact fun a ha => ⟨false, ha.less (less_cons rfl less_nil), hM, hF⟩
 rintro a w13 ⟨t12, ha, hM, hF⟩
 refine KC.app ha ?_
 clear ha
 unfold F_bits_fits_j1 at hF
 refine KC.ret ?_
 have hE := Option.some.inj hF
 clear hF
 subst hE
 refine KQ.rets Tryz.results128 (RVs.cons (RV.tm rfl) RVs.nil) ?_
 exact ⟨_, rfl, rfl, hM⟩
set_option maxRecDepth 100000 in
set_option maxHeartbeats 40000000 in
theorem c_bits_of (w : World) (v1 : Int) (size2 : Int) (r : (List Int)) (hF : F_bits_of v1 size2 = some r) :
  CallsR Tryz.prog 129 [v64 v1, vI size2] w (fun v w' => ∃ (A0 : Option Addr) (c0 : Nat), v = .slice A0 (r).length c0 ∧ Mem w [] w' [.row A0 c0 5 1 r.length (r.flatMap (eI .u8))]) := by
 refine calls_KC Tryz.func129 rfl Tryz.ntmps129 rfl ?_
 have hM := Mem.init w
 unfold F_bits_of at hF
 refine sr fun Q3 hQ3 => ?_
 refine va rfl rfl ?_
 refine nt hQ3 ?_
 clear hQ3 Q3
 refine sr fun Q4 hQ4 => ?_
 refine vm rfl rfl ?_
 refine cut_someE hF fun hq7 hF => ?_
 refine RL.eff (E.mks (enc := (eI .u8)) (zr := 0) hM sl156 ze5 rfl rfl (fun _ => rfl) rfl rfl rfl (of_decide_eq_true hq7)) rfl fun v w6 hv => ?_
 clear hM
 obtain ⟨A5, rfl, hM, hf⟩ := hv
 refine va rfl rfl ?_
 refine nt hQ4 ?_
 clear hQ4 Q4
 refine KC.seqH fun Q9 hQ9 => ?_
 refine sr fun Q10 hQ10 => ?_
 refine vm rfl rfl ?_
 refine vm rfl rfl ?_
 refine nt hQ10 ?_
 clear hQ10 Q10
 refine KC.block ?_
 refine KC.loop (fun k43 a w41 => ∃ (A37 : Option Addr) (c38 : Nat) (b39 : List Int) (t40 : Int), Kn 26 [(0, v64 v1), (1, vI size2), (5, .slice A37 (b39).length c38), (9, vI size2), (10, vI t40)] a ∧ Mem w [] w41 [.row A37 c38 5 1 (b39).length ((b39).flatMap (eI .u8))] ∧ F_bits_of_L1 v1 size2 k43 b39 t40 = some r) ?_ ?_
 ·exact fun a ha => ⟨fuel0, A5, (Int.toNat size2), (List.replicate (Int.toNat size2) (0 : Int)), 0, ha.less (less_cons rfl (less_cons rfl (less_cons rfl (less_cons rfl (less_cons rfl less_nil))))), hM, hF⟩
 rintro k43 a w41 ⟨A37, c38, b39, t40, ha, hM, hF⟩
 refine KC.app ha ?_
 clear ha
 cases k43 with
 | zero => exact (none_some hF).elim
 | succ k43 =>
 have hF : F_bits_of_l1 (F_bits_of_L1 v1 size2 k43) v1 size2 b39 t40 = some r := hF
 unfold F_bits_of_l1 at hF
 refine sr fun Q44 hQ44 => ?_
 refine RL.val (O.lss rfl rfl) rfl ?_
 refine nt hQ44 ?_
 clear hQ44 Q44
 refine KC.seqH fun Q45 hQ45 => ?_
 refine KC.cond rfl (fun hc => ?_) (fun hc => ?_)
 ·rw [if_pos hc] at hF
  refine KC.skip ?_
  refine KQ.thn hQ45 ?_
  clear hQ45 Q45
  refine KC.seqH fun Q46 hQ46 => ?_
  refine KC.block ?_
  refine sr fun Q47 hQ47 => ?_
  refine vm rfl rfl ?_
  refine va rfl rfl ?_
  refine nt hQ47 ?_
  clear hQ47 Q47
  refine KC.region ?_
  refine vm rfl rfl ?_
  refine vm rfl rfl ?_
  refine RL.val (O.sub rfl rfl) rfl ?_
  refine vm rfl rfl ?_
  refine RL.val (O.sub rfl rfl) rfl ?_
  refine vm rfl rfl ?_
  refine vm rfl rfl ?_
  refine RL.val (O.mul rfl rfl) rfl ?_
  refine cut_someE hF fun hq48 hF => ?_
  refine RL.val (O.shr rfl rfl (of_decide_eq_true hq48)) rfl ?_
  refine RL.val (O.conv un22 Tryz.underlying5 rfl) rfl ?_
  refine obindE hF fun xv51 hx50 hF => ?_
  have hA49 := Rd.atN (f := (eI .u8)) (s := 1) (fun _ => rfl) (by decide) (hM.rd (i := 0) rfl) hx50
  refine RL.val (O.idxA sl156 (hA49) rfl rfl) rfl ?_
  refine RL.effs (E.stR (enc := (eI .u8)) (j := 0) (off := 0) (vs := [v8 (IntKind.u8.wrap (Ox.shr .u64 v1 (IntKind.i64.wrap (8 * t40))))]) (x' := (IntKind.u8.wrap (Ox.shr .u64 v1 (IntKind.i64.wrap (8 * t40))))) hM rfl (fun _ => rfl) hx50 sz5 rfl (addsR_eq [] rfl) rfl rfl (One.all rfl) rfl rfl) fun w52 hM1 => ?_
  clear hM
  obtain ⟨hM, hn53⟩ := hM1
  refine RL.reslot (t := 5) rfl hn53 ?_
  refine RL.reslot (t := 13) rfl hn53 ?_
  refine RL.nil ?_
  refine KQ.blk_n ?_
  refine KQ.thn hQ46 ?_
  clear hQ46 Q46
  refine KC.region ?_
  refine RL.val (O.add rfl rfl) rfl ?_
  refine vm rfl rfl ?_
  refine RL.nil ?_
  refine KQ.then_k ?_
  exact fun a ha => ⟨k43, Nat.lt_succ_self k43, A37, c38, (b39.set ((IntKind.i64.wrap ((IntKind.i64.wrap (size2 - 1)) - t40)) : Int).toNat (IntKind.u8.wrap (Ox.shr .u64 v1 (IntKind.i64.wrap (8 * t40))))), (IntKind.i64.wrap (t40 + 1)), ha.less (less_cons rfl (less_cons rfl (less_cons rfl (less_cons rfl (less_cons rfl less_nil))))), hM, hF⟩
 rw [if_neg (ne_true hc)] at hF
 refine KC.exit ?_
 refine KQ.thx hQ45 ?_
 clear hQ45 Q45
 refine KQ.then_x ?_
 refine KQ.blk_x ?_
 refine KQ.thn hQ9 ?_
 clear hQ9 Q9
 refine sr fun Q54 hQ54 => ?_
 refine vm rfl rfl ?_
 refine va rfl rfl ?_
 refine nt hQ54 ?_
 clear hQ54 Q54
 refine KC.ret ?_
 have hE := Option.some.inj hF
 clear hF
 subst hE
 refine KQ.rets Tryz.results129 (RVs.cons (RV.tm rfl) RVs.nil) ?_
 exact ⟨_, rfl, A37, c38, rfl, hM⟩
set_option maxRecDepth 100000 in
set_option maxHeartbeats 40000000 in
theorem c_bits_Writer_Put (w : World) (g2 : Nat) (tg7 : TypeId) (wv1 : T_bits_Writer) (A4 : Option Addr) (c5 : Nat) (hL10 : Lent w [.box g2 tg7 [.slice A4 (wv1.f_b).length c5], .row A4 c5 5 1 (wv1.f_b).length ((wv1.f_b).flatMap (eI .u8))]) (v8 : Int) (size9 : Int) (r : Int × T_bits_Writer) (hF : F_bits_Writer_Put wv1 v8 size9 = some r) :
  CallsR Tryz.prog 119 [.pointer (some ⟨g2, 0, none⟩), v64 v8, vI size9] w (fun v w' => ∃ (A0 : Option Addr) (c0 : Nat), v = vI r.1 ∧ Mem w [some g2, rblk A4 c5] w' [.box g2 tg7 [.slice A0 (r.2.f_b).length c0], .row A0 c0 5 1 r.2.f_b.length (r.2.f_b.flatMap (eI .u8))]) := by
 refine calls_KC Tryz.func119 rfl Tryz.ntmps119 rfl ?_
 have hM : Mem w [some g2, rblk A4 c5] w [.box g2 tg7 [.slice A4 (wv1.f_b).length c5], .row A4 c5 5 1 (wv1.f_b).length ((wv1.f_b).flatMap (eI .u8))] := Mem.lendN hL10
 unfold F_bits_Writer_Put at hF
 refine sr fun Q11 hQ11 => ?_
 refine va rfl rfl ?_
 refine nt hQ11 ?_
 clear hQ11 Q11
 refine KC.seqH fun Q12 hQ12 => ?_
 refine sr fun Q13 hQ13 => ?_
 refine vm rfl rfl ?_
 refine RL.val (O.peqn Tryz.underlying190 rfl rfl) rfl ?_
 refine nt hQ13 ?_
 clear hQ13 Q13
 refine KC.condF rfl ?_
 refine KC.skip ?_
 refine KQ.thn hQ12 ?_
 clear hQ12 Q12
 refine KC.seqH fun Q14 hQ14 => ?_
 refine sr fun Q15 hQ15 => ?_
 refine vm rfl rfl ?_
 refine vm rfl rfl ?_
 refine obindE hF fun y16 hx17 hF => ?_
 refine RL.call Tryz.func128 bd128 rfl rfl (c_bits_fits _ v8 size9 _ hx17) fun v w18 hv => ?_
 obtain ⟨rfl, hN19⟩ := hv
 replace hM := hM.call0 hN19
 refine RL.val (O.not rfl) rfl ?_
 refine nt hQ15 ?_
 clear hQ15 Q15
 refine KC.cond rfl (fun hc => ?_) (fun hc => ?_)
 ·rw [if_pos hc] at hF
  refine sr fun Q20 hQ20 => ?_
  refine va rfl rfl ?_
  refine nt hQ20 ?_
  clear hQ20 Q20
  refine KC.ret ?_
  refine KQ.thr hQ14 ?_
  clear hQ14 Q14
  have hE := Option.some.inj hF
  clear hF
  subst hE
  refine KQ.rets Tryz.results119 (RVs.cons (RV.tm rfl) RVs.nil) ?_
  exact ⟨_, rfl, A4, c5, rfl, hM⟩
 rw [if_neg (ne_true hc)] at hF
 refine KC.skip ?_
 refine KQ.thn hQ14 ?_
 clear hQ14 Q14
 refine sr fun Q21 hQ21 => ?_
 refine vm rfl rfl ?_
 refine vm rfl rfl ?_
 refine vm rfl rfl ?_
 refine obindE hF fun y22 hx23 hF => ?_
 refine RL.call Tryz.func129 bd129 rfl rfl (c_bits_of _ v8 size9 _ hx23) fun v w24 hv => ?_
 obtain ⟨A26, c27, rfl, hN25⟩ := hv
 replace hM := hM.call hN25
 refine obindE hF fun y29 hx30 hF => ?_
 refine RL.call Tryz.func117 bd117 rfl rfl (c_bits_Writer_Raw _ _ _ wv1 _ _ (hM.lent [0, 1] rfl (by decide)) _ _ y22 (hM.rd (i := 2) rfl) (hM.offR [0, 1] rfl (i := 2) rfl rfl) _ hx30) fun v w31 hv => ?_
 obtain ⟨A33, c34, rfl, hN32⟩ := hv
 replace hM := hM.callL [0, 1] [2] rfl rfl (by decide) rfl hN32
 refine va rfl rfl ?_
 refine nt hQ21 ?_
 clear hQ21 Q21
 refine KC.ret ?_
 have hE := Option.some.inj hF
 clear hF
 subst hE
 replace hM := hM.pick [1, 2] rfl (by decide)
 refine KQ.rets Tryz.results119 (RVs.cons (RV.tm rfl) RVs.nil) ?_
 exact ⟨_, rfl, A33, c34, rfl, hM⟩
set_option maxRecDepth 100000 in
set_option maxHeartbeats 40000000 in
theorem c_slices_Clone_byte_byte (w : World) (A2 : Option Addr) (c3 : Nat) (s1 : List Int) (hr4 : Rd w A2 c3 1 s1.length (s1.flatMap (eI .u8))) (r : (List Int)) (hF : F_slices_Clone_byte_byte s1 = some r) :
  CallsR Tryz.prog 130 [.slice A2 (s1).length c3] w (fun v w' => ∃ (A0 : Option Addr) (c0 : Nat), v = .slice A0 (r).length c0 ∧ Mem w [] w' [.row A0 c0 5 1 r.length (r.flatMap (eI .u8))]) := by
 refine calls_KC Tryz.func130 rfl Tryz.ntmps130 rfl ?_
 have hM := Mem.init w
 unfold F_slices_Clone_byte_byte at hF
 refine sr fun Q5 hQ5 => ?_
 refine va rfl rfl ?_
 refine nt hQ5 ?_
 clear hQ5 Q5
 refine KC.seqH fun Q6 hQ6 => ?_
 refine sr fun Q7 hQ7 => ?_
 refine vm rfl rfl ?_
 refine RL.val (O.sleqn sl156 rfl rfl) rfl ?_
 refine nt hQ7 ?_
 clear hQ7 Q7
 refine KC.cond rfl (fun hc => ?_) (fun hc => ?_)
 ·have hz8 := Rd.none_nil (hM.inp hr4 Off.nil) (hc)
  have hF : (some ([])) = some r := by (rw [hz8] at hF; simpa [lim] using hF)
  refine sr fun Q9 hQ9 => ?_
  refine va rfl rfl ?_
  refine nt hQ9 ?_
  clear hQ9 Q9
  refine KC.ret ?_
  refine KQ.thr hQ6 ?_
  clear hQ6 Q6
  have hE := Option.some.inj hF
  clear hF
  subst hE
  replace hM := hM.nilrow 5 1
  refine KQ.rets Tryz.results130 (RVs.cons (RV.tm rfl) RVs.nil) ?_
  exact ⟨_, rfl, none, 0, rfl, hM⟩
 refine KC.skip ?_
 refine KQ.thn hQ6 ?_
 clear hQ6 Q6
 refine sr fun Q10 hQ10 => ?_
 refine RL.eff (E.bsl0 hM sl156) rfl fun v w11 hv => ?_
 clear hM
 obtain ⟨A12, rfl, hM, hf⟩ := hv
 refine vm rfl rfl ?_
 refine cut_someE hF fun hq17 hF => ?_
 refine RL.eff (E.app (enc := (eI .u8)) (xs := ([] : List Int)) (ys := s1) (j := 0) hM rfl sl156 ze5 rfl rfl rfl rfl rfl (hM.inp hr4 Off.nil) (fun _ => One.all rfl) (of_decide_eq_true hq17)) rfl fun v w16 hv => ?_
 clear hM
 obtain ⟨A14, c15, rfl, hM, hf⟩ := hv
 refine va rfl rfl ?_
 refine nt hQ10 ?_
 clear hQ10 Q10
 refine KC.ret ?_
 have hE := Option.some.inj hF
 clear hF
 subst hE
 refine KQ.rets Tryz.results130 (RVs.cons (RV.tm rfl) RVs.nil) ?_
 exact ⟨_, rfl, A14, c15, rfl, hM⟩
set_option maxRecDepth 100000 in
set_option maxHeartbeats 40000000 in
theorem c_bits_Writer_Bytes (w : World) (g2 : Nat) (tg7 : TypeId) (wv1 : T_bits_Writer) (A4 : Option Addr) (c5 : Nat) (hL8 : Lent w [.box g2 tg7 [.slice A4 (wv1.f_b).length c5], .row A4 c5 5 1 (wv1.f_b).length ((wv1.f_b).flatMap (eI .u8))]) (r : (List Int) × T_bits_Writer) (hF : F_bits_Writer_Bytes wv1 = some r) :
  CallsR Tryz.prog 120 [.pointer (some ⟨g2, 0, none⟩)] w (fun v w' => ∃ (A0 : Option Addr) (c0 : Nat) (A1 : Option Addr) (c1 : Nat), v = .slice A1 (r.1).length c1 ∧ Mem w [some g2, rblk A4 c5] w' [.box g2 tg7 [.slice A0 (r.2.f_b).length c0], .row A0 c0 5 1 r.2.f_b.length (r.2.f_b.flatMap (eI .u8)), .row A1 c1 5 1 r.1.length (r.1.flatMap (eI .u8))]) := by
 refine calls_KC Tryz.func120 rfl Tryz.ntmps120 rfl ?_
 have hM : Mem w [some g2, rblk A4 c5] w [.box g2 tg7 [.slice A4 (wv1.f_b).length c5], .row A4 c5 5 1 (wv1.f_b).length ((wv1.f_b).flatMap (eI .u8))] := Mem.lendN hL8
 unfold F_bits_Writer_Bytes at hF
 refine sr fun Q9 hQ9 => ?_
 refine va rfl rfl ?_
 refine nt hQ9 ?_
 clear hQ9 Q9
 refine KC.seqH fun Q10 hQ10 => ?_
 refine sr fun Q11 hQ11 => ?_
 refine vm rfl rfl ?_
 refine RL.val (O.peqn Tryz.underlying190 rfl rfl) rfl ?_
 refine nt hQ11 ?_
 clear hQ11 Q11
 refine KC.condF rfl ?_
 refine KC.skip ?_
 refine KQ.thn hQ10 ?_
 clear hQ10 Q10
 refine sr fun Q12 hQ12 => ?_
 refine vm rfl rfl ?_
 refine RL.val (O.nilp rfl) rfl ?_
 refine RL.val (O.fldA fl181_0 (by decide) rfl) rfl ?_
 refine RL.val (O.load sc156 rfl (Cs.adds [0] ((hM.bx (i := 0) rfl)) rfl)) rfl ?_
 refine obindE hF fun y13 hx14 hF => ?_
 refine RL.call Tryz.func130 bd130 rfl rfl (c_slices_Clone_byte_byte _ _ _ wv1.f_b (hM.rd (i := 1) rfl) _ hx14) fun v w15 hv => ?_
 obtain ⟨A17, c18, rfl, hN16⟩ := hv
 replace hM := hM.call hN16
 refine va rfl rfl ?_
 refine nt hQ12 ?_
 clear hQ12 Q12
 refine KC.ret ?_
 have hE := Option.some.inj hF
 clear hF
 subst hE
 refine KQ.rets Tryz.results120 (RVs.cons (RV.tm rfl) RVs.nil) ?_
 exact ⟨_, rfl, A4, c5, A17, c18, rfl, hM⟩
set_option maxRecDepth 100000 in
set_option maxHeartbeats 40000000 in
theorem c_packet_Key_Bytes (w : World) (kv1 : T_packet_Key) (r : (List Int)) (hF : F_packet_Key_Bytes kv1 = some r) :
  CallsR Tryz.prog 106 [.agg (kv1.cs).toArray] w (fun v w' => ∃ (A0 : Option Addr) (c0 : Nat), v = .slice A0 (r).length c0 ∧ Mem w [] w' [.row A0 c0 5 1 r.length (r.flatMap (eI .u8))]) := by
 refine calls_KC Tryz.func106 rfl Tryz.ntmps106 rfl ?_
 have hM := Mem.init w
 unfold F_packet_Key_Bytes at hF
 refine sr fun Q2 hQ2 => ?_
 refine RL.eff (E.box (vs := (kv1.cs)) hM rfl rfl) rfl fun v w4 hv => ?_
 clear hM
 obtain ⟨g3, rfl, hM, hf⟩ := hv
 refine va rfl rfl ?_
 refine nt hQ2 ?_
 clear hQ2 Q2
 refine KC.seqH fun Q6 hQ6 => ?_
 refine sr fun Q7 hQ7 => ?_
 refine RL.val (O.loadN (cs := (kv1.cs)) ag42 rfl (Cs.addsN [] ((hM.bx (i := 0) rfl)) rfl)) rfl ?_
 refine obindE hF fun y8 hx9 hF => ?_
 refine RL.call Tryz.func37 bd37 rfl rfl (c_packet_Key_Right _ kv1 _ hx9) fun v w10 hv => ?_
 obtain ⟨rfl, hN11⟩ := hv
 replace hM := hM.call0 hN11
 refine RL.val (O.not rfl) rfl ?_
 refine nt hQ7 ?_
 clear hQ7 Q7
 refine KC.cond rfl (fun hc => ?_) (fun hc => ?_)
 ·rw [if_pos hc] at hF
  refine sr fun Q12 hQ12 => ?_
  refine va rfl rfl ?_
  refine nt hQ12 ?_
  clear hQ12 Q12
  refine KC.ret ?_
  refine KQ.thr hQ6 ?_
  clear hQ6 Q6
  have hE := Option.some.inj hF
  clear hF
  subst hE
  replace hM := hM.nilrow 5 1
  replace hM := hM.pick [1] rfl (by decide)
  refine KQ.rets Tryz.results106 (RVs.cons (RV.tm rfl) RVs.nil) ?_
  exact ⟨_, rfl, none, 0, rfl, hM⟩
 rw [if_neg (ne_true hc)] at hF
 refine KC.skip ?_
 refine KQ.thn hQ6 ?_
 clear hQ6 Q6
 refine sr fun Q13 hQ13 => ?_
 refine RL.eff (E.alloc hM ze181) rfl fun v w15 hv => ?_
 clear hM
 obtain ⟨g14, rfl, hM, hf⟩ := hv
 refine nt hQ13 ?_
 clear hQ13 Q13
 refine sr fun Q17 hQ17 => ?_
 refine va rfl rfl ?_
 refine nt hQ17 ?_
 clear hQ17 Q17
 refine KC.cut (fun a w22 => ∃ (version21 : Int), Kn 35 [(1, .pointer (some ⟨g3, 0, none⟩)), (3, .pointer (some ⟨g14, 0, none⟩)), (4, v8 version21)] a ∧ Mem w [] w22 [.box g3 42 (kv1.cs), .box g14 181 [.slice none 0 0]] ∧ F_packet_Key_Bytes_j1 kv1 version21 = some r) ?_ ?_
 ·refine sr fun Q18 hQ18 => ?_
  refine RL.val (O.fldA fl42_0 (by decide) rfl) rfl ?_
  refine RL.val (O.fldA fl39_0 (by decide) rfl) rfl ?_
  refine RL.val (O.load sc4 rfl (Cs.adds [0, 0] ((hM.bx (i := 0) rfl)) rfl)) rfl ?_
  refine nt hQ18 ?_
  clear hQ18 Q18
  refine KC.cond rfl (fun hc => ?_) (fun hc => ?_)
  ·rw [if_pos hc] at hF
   refine KC.region ?_
   refine va rfl rfl ?_
   refine RL.nil ?_
   refine KQ.then_k ?_
   exact fun a ha => ⟨6, ha.less (less_cons rfl (less_cons rfl (less_cons rfl less_nil))), hM, hF⟩
  rw [if_neg (ne_true hc)] at hF
  refine KC.skip ?_
  refine KQ.then_k ?_
  exact fun a ha => ⟨4, ha.less (less_cons rfl (less_cons rfl (less_cons rfl less_nil))), hM, hF⟩
 rintro a w22 ⟨version21, ha, hM, hF⟩
 refine KC.app ha ?_
 clear ha
 unfold F_packet_Key_Bytes_j1 at hF
 refine sr fun Q23 hQ23 => ?_
 refine vm rfl rfl ?_
 refine RL.eff (E.bsl (enc := (eI .u8)) (xs := ([version21] : List Int)) hM sl156 ze5 rfl rfl rfl (fun _ => rfl) rfl (by kernel_rfl) rfl) rfl fun v w24 hv => ?_
 clear hM
 obtain ⟨A25, rfl, hM, hf⟩ := hv
 replace hM := hM.nilrow 5 1
 refine obindE hF fun y28 hx29 hF => ?_
 refine RL.call Tryz.func117 bd117 rfl rfl (c_bits_Writer_Raw _ _ _ (T_bits_Writer.mk ([] : List Int)) _ _ (hM.lent [1, 3] rfl (by decide)) _ _ ([version21] : List Int) (hM.rd (i := 2) rfl) (hM.offR [1, 3] rfl (i := 2) rfl rfl) _ hx29) fun v w30 hv => ?_
 obtain ⟨A32, c33, rfl, hN31⟩ := hv
 replace hM := hM.callL [1, 3] [0, 2] rfl rfl (by decide) rfl hN31
 refine nt hQ23 ?_
 clear hQ23 Q23
 replace hM := hM.pick [0, 2, 3] rfl (by decide)
 refine sr fun Q35 hQ35 => ?_
 refine RL.val (O.fldA fl42_0 (by decide) rfl) rfl ?_
 refine RL.val (O.loadN (cs := (kv1.f_Src.cs)) ag39 rfl (Cs.addsN [0] ((hM.bx (i := 0) rfl)) rfl)) rfl ?_
 refine obindE hF fun y36 hx37 hF => ?_
 refine RL.call Tryz.func118 bd118 rfl rfl (c_addr_Addr_Bytes _ kv1.f_Src _ hx37) fun v w38 hv => ?_
 obtain ⟨A40, c41, rfl, hN39⟩ := hv
 replace hM := hM.call hN39
 refine obindE hF fun y43 hx44 hF => ?_
 refine RL.call Tryz.func117 bd117 rfl rfl (c_bits_Writer_Raw _ _ _ y28.2 _ _ (hM.lent [1, 2] rfl (by decide)) _ _ y36 (hM.rd (i := 3) rfl) (hM.offR [1, 2] rfl (i := 3) rfl rfl) _ hx44) fun v w45 hv => ?_
 obtain ⟨A47, c48, rfl, hN46⟩ := hv
 replace hM := hM.callL [1, 2] [0, 3] rfl rfl (by decide) rfl hN46
 refine nt hQ35 ?_
 clear hQ35 Q35
 replace hM := hM.pick [0, 2, 3] rfl (by decide)
 refine sr fun Q50 hQ50 => ?_
 refine RL.val (O.fldA fl42_1 (by decide) rfl) rfl ?_
 refine RL.val (O.loadN (cs := (kv1.f_Dst.cs)) ag39 rfl (Cs.addsN [17] ((hM.bx (i := 0) rfl)) rfl)) rfl ?_
 refine obindE hF fun y51 hx52 hF => ?_
 refine RL.call Tryz.func118 bd118 rfl rfl (c_addr_Addr_Bytes _ kv1.f_Dst _ hx52) fun v w53 hv => ?_
 obtain ⟨A55, c56, rfl, hN54⟩ := hv
 replace hM := hM.call hN54
 refine obindE hF fun y58 hx59 hF => ?_
 refine RL.call Tryz.func117 bd117 rfl rfl (c_bits_Writer_Raw _ _ _ y43.2 _ _ (hM.lent [1, 2] rfl (by decide)) _ _ y51 (hM.rd (i := 3) rfl) (hM.offR [1, 2] rfl (i := 3) rfl rfl) _ hx59) fun v w60 hv => ?_
 obtain ⟨A62, c63, rfl, hN61⟩ := hv
 replace hM := hM.callL [1, 2] [0, 3] rfl rfl (by decide) rfl hN61
 refine nt hQ50 ?_
 clear hQ50 Q50
 replace hM := hM.pick [0, 2, 3] rfl (by decide)
 refine sr fun Q65 hQ65 => ?_
 refine RL.val (O.fldA fl42_2 (by decide) rfl) rfl ?_
 refine RL.val (O.load sc5 rfl (Cs.adds [34] ((hM.bx (i := 0) rfl)) rfl)) rfl ?_
 refine RL.eff (E.bsl (enc := (eI .u8)) (xs := ([kv1.f_Proto] : List Int)) hM sl156 ze5 rfl rfl rfl (fun _ => rfl) rfl (by kernel_rfl) rfl) rfl fun v w66 hv => ?_
 clear hM
 obtain ⟨A67, rfl, hM, hf⟩ := hv
 refine obindE hF fun y69 hx70 hF => ?_
 refine RL.call Tryz.func117 bd117 rfl rfl (c_bits_Writer_Raw _ _ _ y58.2 _ _ (hM.lent [1, 2] rfl (by decide)) _ _ ([kv1.f_Proto] : List Int) (hM.rd (i := 3) rfl) (hM.offR [1, 2] rfl (i := 3) rfl rfl) _ hx70) fun v w71 hv => ?_
 obtain ⟨A73, c74, rfl, hN72⟩ := hv
 replace hM := hM.callL [1, 2] [0, 3] rfl rfl (by decide) rfl hN72
 refine nt hQ65 ?_
 clear hQ65 Q65
 replace hM := hM.pick [0, 2, 3] rfl (by decide)
 refine sr fun Q76 hQ76 => ?_
 refine RL.val (O.fldA fl42_3 (by decide) rfl) rfl ?_
 refine RL.val (O.load sc40 rfl (Cs.adds [35] ((hM.bx (i := 0) rfl)) rfl)) rfl ?_
 refine RL.val (O.conv un40 Tryz.underlying22 rfl) rfl ?_
 refine obindE hF fun y77 hx78 hF => ?_
 refine RL.call Tryz.func119 bd119 rfl rfl (c_bits_Writer_Put _ _ _ y69.2 _ _ (hM.lent [1, 2] rfl (by decide)) (IntKind.u64.wrap kv1.f_SrcPort) 2 _ hx78) fun v w79 hv => ?_
 obtain ⟨A81, c82, rfl, hN80⟩ := hv
 replace hM := hM.callL [1, 2] [0] rfl rfl (by decide) rfl hN80
 refine nt hQ76 ?_
 clear hQ76 Q76
 refine sr fun Q84 hQ84 => ?_
 refine RL.val (O.fldA fl42_4 (by decide) rfl) rfl ?_
 refine RL.val (O.load sc40 rfl (Cs.adds [36] ((hM.bx (i := 0) rfl)) rfl)) rfl ?_
 refine RL.val (O.conv un40 Tryz.underlying22 rfl) rfl ?_
 refine obindE hF fun y85 hx86 hF => ?_
 refine RL.call Tryz.func119 bd119 rfl rfl (c_bits_Writer_Put _ _ _ y77.2 _ _ (hM.lent [1, 2] rfl (by decide)) (IntKind.u64.wrap kv1.f_DstPort) 2 _ hx86) fun v w87 hv => ?_
 obtain ⟨A89, c90, rfl, hN88⟩ := hv
 replace hM := hM.callL [1, 2] [0] rfl rfl (by decide) rfl hN88
 refine nt hQ84 ?_
 clear hQ84 Q84
 refine sr fun Q92 hQ92 => ?_
 refine obindE hF fun y93 hx94 hF => ?_
 refine RL.call Tryz.func120 bd120 rfl rfl (c_bits_Writer_Bytes _ _ _ y85.2 _ _ (hM.lent [1, 2] rfl (by decide)) _ hx94) fun v w95 hv => ?_
 obtain ⟨A97, c98, A100, c101, rfl, hN96⟩ := hv
 replace hM := hM.callL [1, 2] [0] rfl rfl (by decide) rfl hN96
 refine va rfl rfl ?_
 refine nt hQ92 ?_
 clear hQ92 Q92
 refine KC.ret ?_
 have hE := Option.some.inj hF
 clear hF
 subst hE
 replace hM := hM.pick [3] rfl (by decide)
 refine KQ.rets Tryz.results106 (RVs.cons (RV.tm rfl) RVs.nil) ?_
 exact ⟨_, rfl, A100, c101, rfl, hM⟩
set_option maxRecDepth 100000 in
set_option maxHeartbeats 40000000 in
theorem c_bytes_Compare (w : World) (A2 : Option Addr) (c3 : Nat) (av1 : List Int) (hr4 : Rd w A2 c3 1 av1.length (av1.flatMap (eI .u8))) (A6 : Option Addr) (c7 : Nat) (b5 : List Int) (hr8 : Rd w A6 c7 1 b5.length (b5.flatMap (eI .u8))) (r : Int) (hF : F_bytes_Compare av1 b5 = some r) :
  CallsR Tryz.prog 105 [.slice A2 (av1).length c3, .slice A6 (b5).length c7] w (fun v w' => v = vI r ∧ Mem w [] w' []) := by
 refine calls_KC Tryz.func105 rfl Tryz.ntmps105 rfl ?_
 have hM := Mem.init w
 unfold F_bytes_Compare at hF
 refine sr fun Q9 hQ9 => ?_
 refine va rfl rfl ?_
 refine nt hQ9 ?_
 clear hQ9 Q9
 refine sr fun Q10 hQ10 => ?_
 refine vm rfl rfl ?_
 refine vm rfl rfl ?_
 refine RL.val (O.bcmp (xs := av1) (ys := b5) Tryz.func116 (by kernel_rfl) (by kernel_rfl) (by kernel_rfl) (by kernel_rfl) rfl rfl (hM.inp hr4 Off.nil) (hM.inp hr8 Off.nil)) rfl ?_
 refine va rfl rfl ?_
 refine nt hQ10 ?_
 clear hQ10 Q10
 refine KC.ret ?_
 have hE := Option.some.inj hF
 clear hF
 subst hE
 refine KQ.rets Tryz.results105 (RVs.cons (RV.tm rfl) RVs.nil) ?_
 exact ⟨_, rfl, rfl, hM⟩
end Go.Proofs.YtkpnocgfhipidaaGreat
