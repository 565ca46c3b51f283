/- Printed by a program of this claim: each call returns what the plain function of its name gives. -/
import Derived.Test.YtcinagdkkclapaaW1
set_option linter.unusedVariables false
namespace Go.Proofs.Ytcinagdkkclapaa
open Go Go.Ox Go.RowKit
set_option maxRecDepth 100000 in
set_option maxHeartbeats 40000000 in
theorem c_slices_Concat_byte_byte (w : World) (A2 : Option Addr) (c3 : Nat) (slices1 : List (List Int)) (hr4 : Rds [] w A2 c3 (eI .u8) 1 slices1) (r : (List Int)) (hF : F_slices_Concat_byte_byte slices1 = some r) :
  CallsR Try.prog 55 [.slice A2 (slices1).length c3] w (fun v w' => ∃ (A0 : Option Addr) (c0 : Nat), v = .slice A0 (r).length c0 ∧ Mem w [] w' [.row A0 c0 5 1 r.length (r.flatMap (eI .u8))]) := by
 refine calls_KC Try.func55 rfl Try.ntmps55 rfl ?_
 have hM := Mem.init w
 unfold F_slices_Concat_byte_byte at hF
 refine sr fun Q5 hQ5 => ?_
 refine va rfl rfl ?_
 refine nt hQ5 ?_
 clear hQ5 Q5
 refine sr fun Q6 hQ6 => ?_
 refine va rfl rfl ?_
 refine nt hQ6 ?_
 clear hQ6 Q6
 refine KC.seqH fun Q7 hQ7 => ?_
 refine sr fun Q8 hQ8 => ?_
 refine vm rfl rfl ?_
 refine RL.val (O.len sl88 rfl) rfl ?_
 refine vm rfl rfl ?_
 refine nt hQ8 ?_
 clear hQ8 Q8
 refine KC.block ?_
 refine KC.loop (fun k45 a w43 => ∃ (size41 : Int) (t42 : Int), Kn 36 [(0, .slice A2 (slices1).length c3), (3, vI size41), (9, .slice A2 (slices1).length c3), (10, vI (slices1.length : Int)), (11, vI t42)] a ∧ Mem w [] w43 [] ∧ F_slices_Concat_byte_byte_L1 slices1 k45 size41 t42 = some r) ?_ ?_
 ·exact fun a ha => ⟨fuel0, 0, 0, ha.less (less_cons rfl (less_cons rfl (less_cons rfl (less_cons rfl (less_cons rfl less_nil))))), hM, hF⟩
 rintro k45 a w43 ⟨size41, t42, ha, hM, hF⟩
 refine KC.app ha ?_
 clear ha
 cases k45 with
 | zero => exact (none_some hF).elim
 | succ k45 =>
 have hF : F_slices_Concat_byte_byte_l1 (F_slices_Concat_byte_byte_L1 slices1 k45) slices1 size41 t42 = some r := hF
 unfold F_slices_Concat_byte_byte_l1 at hF
 refine sr fun Q46 hQ46 => ?_
 refine RL.val (O.lss rfl rfl) rfl ?_
 refine nt hQ46 ?_
 clear hQ46 Q46
 refine KC.seqH fun Q47 hQ47 => ?_
 refine KC.cond rfl (fun hc => ?_) (fun hc => ?_)
 ·rw [if_pos hc] at hF
  refine KC.skip ?_
  refine KQ.thn hQ47 ?_
  clear hQ47 Q47
  refine KC.cut (fun a w60 => ∃ (size59 : Int), Kn 36 [(0, .slice A2 (slices1).length c3), (3, vI size59), (9, .slice A2 (slices1).length c3), (10, vI (slices1.length : Int)), (11, vI t42)] a ∧ Mem w [] w60 [] ∧ F_slices_Concat_byte_byte_j1 t42 (F_slices_Concat_byte_byte_L1 slices1 k45) size59 = some r) ?_ ?_
  ·refine KC.block ?_
   refine sr fun Q48 hQ48 => ?_
   refine obindE hF fun xv51 hx50 hF => ?_
   obtain ⟨A52, c53, hA49, hr54, ho55, hO56⟩ := Rds.at hr4 hx50
   have hA49 := hA49.chg hM.chg hO56
   refine RL.val (O.idxA sl88 (hA49) rfl rfl) rfl ?_
   refine RL.val (O.load sc24 rfl (hA49).cells.at0) rfl ?_
   refine va rfl rfl ?_
   refine nt hQ48 ?_
   clear hQ48 Q48
   refine sr fun Q57 hQ57 => ?_
   refine vm rfl rfl ?_
   refine vm rfl rfl ?_
   refine RL.val (O.len sl24 rfl) rfl ?_
   refine RL.val (O.add rfl rfl) rfl ?_
   refine va rfl rfl ?_
   refine nt hQ57 ?_
   clear hQ57 Q57
   refine sr fun Q58 hQ58 => ?_
   refine vm rfl rfl ?_
   refine RL.val (O.lss rfl rfl) rfl ?_
   refine nt hQ58 ?_
   clear hQ58 Q58
   refine KC.cond rfl (fun hc => ?_) (fun hc => ?_)
   ·rw [if_pos hc] at hF
    refine KC.region ?_
    exact (none_some hF).elim
   rw [if_neg (ne_true hc)] at hF
   refine KC.skip ?_
   refine KQ.blk_n ?_
   refine KQ.then_k ?_
   exact fun a ha => ⟨(IntKind.i64.wrap (size41 + (xv51.length : Int))), ha.less (less_cons rfl (less_cons rfl (less_cons rfl (less_cons rfl (less_cons rfl less_nil))))), hM, hF⟩
  rintro a w60 ⟨size59, ha, hM, hF⟩
  refine KC.app ha ?_
  clear ha
  unfold F_slices_Concat_byte_byte_j1 at hF
  refine KC.region ?_
  refine RL.val (O.add rfl rfl) rfl ?_
  refine vm rfl rfl ?_
  refine RL.nil ?_
  refine KQ.then_k ?_
  exact fun a ha => ⟨k45, Nat.lt_succ_self k45, size59, (IntKind.i64.wrap (t42 + 1)), ha.less (less_cons rfl (less_cons rfl (less_cons rfl (less_cons rfl (less_cons rfl less_nil))))), hM, hF⟩
 rw [if_neg (ne_true hc)] at hF
 refine KC.exit ?_
 refine KQ.thx hQ47 ?_
 clear hQ47 Q47
 refine KQ.then_x ?_
 refine KQ.blk_x ?_
 refine KQ.thn hQ7 ?_
 clear hQ7 Q7
 refine sr fun Q61 hQ61 => ?_
 refine vm rfl rfl ?_
 refine RL.icall Try.func71 bd71 rfl rfl rfl Try.ntmps71 rfl ?_
 refine sr fun Q62 hQ62 => ?_
 refine va rfl rfl ?_
 refine nt hQ62 ?_
 clear hQ62 Q62
 refine KC.cut (fun a w64 => Kn 27 [(0, .slice none 0 0), (1, vI size41)] a ∧ Mem w [] w64 [] ∧ F_slices_Concat_byte_byte_j2 slices1 size41 = some r) ?_ ?_
 ·refine sr fun Q63 hQ63 => ?_
  refine vm rfl rfl ?_
  refine RL.val (O.lss rfl rfl) rfl ?_
  refine nt hQ63 ?_
  clear hQ63 Q63
  refine KC.cond rfl (fun hc => ?_) (fun hc => ?_)
  ·rw [if_pos hc] at hF
   refine KC.region ?_
   exact (none_some hF).elim
  rw [if_neg (ne_true hc)] at hF
  refine KC.skip ?_
  refine KQ.then_k ?_
  exact fun a ha => ⟨ha.less (less_cons rfl (less_cons rfl less_nil)), hM, hF⟩
 rintro a w64 ⟨ha, hM, hF⟩
 refine KC.app ha ?_
 clear ha
 unfold F_slices_Concat_byte_byte_j2 at hF
 refine KC.cut (fun a w79 => ∃ (A76 : Option Addr) (c77 : Nat) (slices78 : List Int), Kn 27 [(0, .slice A76 (slices78).length c77)] a ∧ Mem w [] w79 [.row A76 c77 5 1 (slices78).length ((slices78).flatMap (eI .u8))] ∧ F_slices_Concat_byte_byte_j3 slices1 slices78 = some r) ?_ ?_
 ·refine sr fun Q65 hQ65 => ?_
  refine vm rfl rfl ?_
  refine vm rfl rfl ?_
  refine RL.val (O.capn sl24 rfl) rfl ?_
  refine vm rfl rfl ?_
  refine RL.val (O.lenn sl24 rfl) rfl ?_
  refine RL.val (O.sub rfl rfl) rfl ?_
  refine RL.val (O.sub rfl rfl) rfl ?_
  refine va rfl rfl ?_
  refine nt hQ65 ?_
  clear hQ65 Q65
  refine sr fun Q66 hQ66 => ?_
  refine vm rfl rfl ?_
  refine RL.val (O.gtr rfl rfl) rfl ?_
  refine nt hQ66 ?_
  clear hQ66 Q66
  refine KC.cond rfl (fun hc => ?_) (fun hc => ?_)
  ·rw [if_pos hc] at hF
   refine KC.region ?_
   refine vm rfl rfl ?_
   refine vm rfl rfl ?_
   refine RL.val (O.capn sl24 rfl) rfl ?_
   refine RL.val (O.cutn sl24 rfl rfl) rfl ?_
   refine vm rfl rfl ?_
   refine cut_someE hF fun hq70 hF => ?_
   refine RL.eff (E.appz0 (enc := (eI .u8)) (zr := 0) hM sl24 ze5 rfl rfl (fun _ => rfl) rfl Try.underlying3 rfl rfl (of_decide_eq_true hq70)) rfl fun v w69 hv => ?_
   clear hM
   obtain ⟨A67, c68, rfl, hM, hf⟩ := hv
   refine vm rfl rfl ?_
   refine RL.val (O.lenn sl24 rfl) rfl ?_
   refine obindE hF fun cut72 hy73 hF => ?_
   have hrd := (hM.rd (i := 0) rfl)
   replace hM := hM.short (enc := (eI .u8)) (fun _ => rfl) (i := 0) rfl hy73
   refine RL.val (O.short (A := A67) (c := c68) (xs := (List.replicate (Int.toNat (IntKind.i64.wrap (size41 - (IntKind.i64.wrap (0 - 0))))) (0 : Int))) (ys := cut72) sl24 hrd.cap hy73 rfl rfl) rfl ?_
   refine va rfl rfl ?_
   refine RL.nil ?_
   refine KQ.then_k ?_
   exact fun a ha => ⟨A67, c68, cut72, ha.less (less_cons rfl less_nil), hM, hF⟩
  rw [if_neg (ne_true hc)] at hF
  refine KC.skip ?_
  refine KQ.then_k ?_
  replace hM := hM.nilrow 5 1
  exact fun a ha => ⟨none, 0, ([]), ha.less (less_cons rfl less_nil), hM, hF⟩
 rintro a w79 ⟨A76, c77, slices78, ha, hM, hF⟩
 refine KC.app ha ?_
 clear ha
 unfold F_slices_Concat_byte_byte_j3 at hF
 refine sr fun Q80 hQ80 => ?_
 refine vm rfl rfl ?_
 refine va rfl rfl ?_
 refine nt hQ80 ?_
 clear hQ80 Q80
 refine KC.ret ?_
 refine KQ.rets Try.results71 (RVs.cons (RV.tm rfl) RVs.nil) ?_
 refine ⟨.slice A76 (slices78).length c77, rfl, ?_⟩
 refine va rfl rfl ?_
 refine nt hQ61 ?_
 clear hQ61 Q61
 refine KC.seqH fun Q81 hQ81 => ?_
 refine sr fun Q82 hQ82 => ?_
 refine vm rfl rfl ?_
 refine RL.val (O.len sl88 rfl) rfl ?_
 refine vm rfl rfl ?_
 refine nt hQ82 ?_
 clear hQ82 Q82
 refine KC.block ?_
 refine KC.loop (fun k129 a w127 => ∃ (A123 : Option Addr) (c124 : Nat) (newslice125 : List Int) (t126 : Int), Kn 36 [(6, .slice A123 (newslice125).length c124), (25, .slice A2 (slices1).length c3), (26, vI (slices1.length : Int)), (27, vI t126)] a ∧ Mem w [] w127 [.row A123 c124 5 1 (newslice125).length ((newslice125).flatMap (eI .u8))] ∧ F_slices_Concat_byte_byte_L2 slices1 k129 newslice125 t126 = some r) ?_ ?_
 ·exact fun a ha => ⟨fuel0, A76, c77, slices78, 0, ha.less (less_cons rfl (less_cons rfl (less_cons rfl (less_cons rfl less_nil)))), hM, hF⟩
 rintro k129 a w127 ⟨A123, c124, newslice125, t126, ha, hM, hF⟩
 refine KC.app ha ?_
 clear ha
 cases k129 with
 | zero => exact (none_some hF).elim
 | succ k129 =>
 have hF : F_slices_Concat_byte_byte_l2 (F_slices_Concat_byte_byte_L2 slices1 k129) slices1 newslice125 t126 = some r := hF
 unfold F_slices_Concat_byte_byte_l2 at hF
 refine sr fun Q130 hQ130 => ?_
 refine RL.val (O.lss rfl rfl) rfl ?_
 refine nt hQ130 ?_
 clear hQ130 Q130
 refine KC.seqH fun Q131 hQ131 => ?_
 refine KC.cond rfl (fun hc => ?_) (fun hc => ?_)
 ·rw [if_pos hc] at hF
  refine KC.skip ?_
  refine KQ.thn hQ131 ?_
  clear hQ131 Q131
  refine KC.seqH fun Q132 hQ132 => ?_
  refine KC.block ?_
  refine sr fun Q133 hQ133 => ?_
  refine obindE hF fun xv136 hx135 hF => ?_
  obtain ⟨A137, c138, hA134, hr139, ho140, hO141⟩ := Rds.at hr4 hx135
  have hA134 := hA134.chg hM.chg hO141
  refine RL.val (O.idxA sl88 (hA134) rfl rfl) rfl ?_
  refine RL.val (O.load sc24 rfl (hA134).cells.at0) rfl ?_
  refine va rfl rfl ?_
  refine nt hQ133 ?_
  clear hQ133 Q133
  refine KC.region ?_
  refine vm rfl rfl ?_
  refine vm rfl rfl ?_
  refine cut_someE hF fun hq145 hF => ?_
  refine RL.eff (E.app (enc := (eI .u8)) (xs := newslice125) (ys := xv136) (j := 0) hM rfl sl24 ze5 rfl rfl rfl rfl rfl (hM.inp hr139 Off.nil) (fun _ => One.all rfl) (of_decide_eq_true hq145)) rfl fun v w144 hv => ?_
  clear hM
  obtain ⟨A142, c143, rfl, hM, hf⟩ := hv
  refine va rfl rfl ?_
  refine RL.nil ?_
  refine KQ.blk_n ?_
  refine KQ.thn hQ132 ?_
  clear hQ132 Q132
  refine KC.region ?_
  refine RL.val (O.add rfl rfl) rfl ?_
  refine vm rfl rfl ?_
  refine RL.nil ?_
  refine KQ.then_k ?_
  exact fun a ha => ⟨k129, Nat.lt_succ_self k129, A142, c143, (newslice125 ++ xv136), (IntKind.i64.wrap (t126 + 1)), ha.less (less_cons rfl (less_cons rfl (less_cons rfl (less_cons rfl less_nil)))), hM, hF⟩
 rw [if_neg (ne_true hc)] at hF
 refine KC.exit ?_
 refine KQ.thx hQ131 ?_
 clear hQ131 Q131
 refine KQ.then_x ?_
 refine KQ.blk_x ?_
 refine KQ.thn hQ81 ?_
 clear hQ81 Q81
 refine sr fun Q147 hQ147 => ?_
 refine vm rfl rfl ?_
 refine va rfl rfl ?_
 refine nt hQ147 ?_
 clear hQ147 Q147
 refine KC.ret ?_
 have hE := Option.some.inj hF
 clear hF
 subst hE
 refine KQ.rets Try.results55 (RVs.cons (RV.tm rfl) RVs.nil) ?_
 exact ⟨_, rfl, A123, c124, rfl, hM⟩
set_option maxRecDepth 100000 in
set_option maxHeartbeats 40000000 in
theorem c_bits_Writer_Raw (w : World) (g2 : Nat) (tg7 : TypeId) (wv1 : T_bits_Writer) (A4 : Option Addr) (c5 : Nat) (hL13 : Lent w [.box g2 tg7 [.slice A4 (wv1.f_b).length c5], .row A4 c5 5 1 (wv1.f_b).length ((wv1.f_b).flatMap (eI .u8))]) (A9 : Option Addr) (c10 : Nat) (b8 : List Int) (hr11 : Rd w A9 c10 1 b8.length (b8.flatMap (eI .u8))) (ho12 : Off [some g2, rblk A4 c5] b8.length A9) (r : Int × T_bits_Writer) (hF : F_bits_Writer_Raw wv1 b8 = some r) :
  CallsR Try.prog 33 [.pointer (some ⟨g2, 0, none⟩), .slice A9 (b8).length c10] w (fun v w' => ∃ (A0 : Option Addr) (c0 : Nat), v = vI r.1 ∧ Mem w [some g2, rblk A4 c5] w' [.box g2 tg7 [.slice A0 (r.2.f_b).length c0], .row A0 c0 5 1 r.2.f_b.length (r.2.f_b.flatMap (eI .u8))]) := by
 refine calls_KC Try.func33 rfl Try.ntmps33 rfl ?_
 have hM : Mem w [some g2, rblk A4 c5] w [.box g2 tg7 [.slice A4 (wv1.f_b).length c5], .row A4 c5 5 1 (wv1.f_b).length ((wv1.f_b).flatMap (eI .u8))] := Mem.lendN hL13
 unfold F_bits_Writer_Raw at hF
 refine sr fun Q14 hQ14 => ?_
 refine va rfl rfl ?_
 refine nt hQ14 ?_
 clear hQ14 Q14
 refine KC.seqH fun Q15 hQ15 => ?_
 refine sr fun Q16 hQ16 => ?_
 refine vm rfl rfl ?_
 refine RL.val (O.peqn Try.underlying71 rfl rfl) rfl ?_
 refine nt hQ16 ?_
 clear hQ16 Q16
 refine KC.condF rfl ?_
 refine KC.skip ?_
 refine KQ.thn hQ15 ?_
 clear hQ15 Q15
 refine sr fun Q17 hQ17 => ?_
 refine vm rfl rfl ?_
 refine vm rfl rfl ?_
 refine RL.val (O.nilp rfl) rfl ?_
 refine RL.val (O.fldA fl70_0 (by decide) rfl) rfl ?_
 refine RL.val (O.load sc24 rfl (Cs.adds [0] ((hM.bx (i := 0) rfl)) rfl)) rfl ?_
 refine vm rfl rfl ?_
 refine cut_someE hF fun hq21 hF => ?_
 refine RL.eff (E.app (enc := (eI .u8)) (xs := wv1.f_b) (ys := b8) (j := 1) hM rfl sl24 ze5 rfl rfl rfl rfl rfl (hM.inp hr11 ho12) (fun _ => One.all rfl) (of_decide_eq_true hq21)) rfl fun v w20 hv => ?_
 clear hM
 obtain ⟨A18, c19, rfl, hM, hf⟩ := hv
 refine RL.val (O.nilp rfl) rfl ?_
 refine RL.val (O.fldA fl70_0 (by decide) rfl) rfl ?_
 refine RL.effs (E.stB (j := 0) (off := 0) (vs := [.slice A18 ((wv1.f_b ++ b8)).length c19]) (cs' := [.slice A18 ((wv1.f_b ++ b8)).length c19]) hM rfl sz24 rfl (adds_eq [0] rfl) rfl rfl (One.all rfl) rfl rfl) fun w23 hM1 => ?_
 clear hM
 have hM := hM1
 clear hM1
 refine nt hQ17 ?_
 clear hQ17 Q17
 refine sr fun Q24 hQ24 => ?_
 refine va rfl rfl ?_
 refine nt hQ24 ?_
 clear hQ24 Q24
 refine KC.ret ?_
 have hE := Option.some.inj hF
 clear hF
 subst hE
 refine KQ.rets Try.results33 (RVs.cons (RV.tm rfl) RVs.nil) ?_
 exact ⟨_, rfl, A18, c19, rfl, hM⟩
set_option maxRecDepth 100000 in
set_option maxHeartbeats 40000000 in
theorem c_bits_right (w : World) (size1 : Int) (r : Bool) (hF : F_bits_right size1 = some r) :
  CallsR Try.prog 73 [vI size1] w (fun v w' => v = vB r ∧ Mem w [] w' []) := by
 refine calls_KC Try.func73 rfl Try.ntmps73 rfl ?_
 have hM := Mem.init w
 unfold F_bits_right at hF
 refine sr fun Q2 hQ2 => ?_
 refine va rfl rfl ?_
 refine nt hQ2 ?_
 clear hQ2 Q2
 refine KC.cut (fun a w4 => ∃ (t3 : Bool), Kn 9 [(2, vB t3)] a ∧ Mem w [] w4 [] ∧ F_bits_right_j1 t3 = some r) ?_ ?_
 ·refine KC.region ?_
  refine vm rfl rfl ?_
  refine RL.val (O.geq rfl rfl) rfl ?_
  refine vm rfl rfl ?_
  refine RL.bcase (t := 5) rfl (fun hc => ?_) (fun hc => ?_)
  ·rw [if_pos hc] at hF
   refine RL.gval rfl rfl (O.move rfl) rfl ?_
   refine RL.gval rfl rfl (O.leq rfl rfl) rfl ?_
   refine RL.val (O.pickt rfl rfl) rfl ?_
   refine va rfl rfl ?_
   refine RL.nil ?_
   refine KQ.then_k ?_
   exact fun a ha => ⟨(decide (size1 ≤ 8)), ha.less (less_cons rfl less_nil), hM, hF⟩
  rw [if_neg (ne_true hc)] at hF
  refine RL.gskip rfl rfl rfl rfl ?_
  refine RL.gskip rfl rfl rfl rfl ?_
  refine RL.val (O.pickf rfl rfl) rfl ?_
  refine va rfl rfl ?_
  refine RL.nil ?_
  refine KQ.then_k ?_
  exact fun a ha => ⟨false, ha.less (less_cons rfl less_nil), hM, hF⟩
 rintro a w4 ⟨t3, ha, hM, hF⟩
 refine KC.app ha ?_
 clear ha
 unfold F_bits_right_j1 at hF
 refine KC.ret ?_
 have hE := Option.some.inj hF
 clear hF
 subst hE
 refine KQ.rets Try.results73 (RVs.cons (RV.tm rfl) RVs.nil) ?_
 exact ⟨_, rfl, rfl, hM⟩
set_option maxRecDepth 100000 in
set_option maxHeartbeats 40000000 in
theorem c_bits_Least (w : World) (v1 : Int) (r : Int) (hF : F_bits_Least v1 = some r) :
  CallsR Try.prog 74 [v64 v1] w (fun v w' => v = vI r ∧ Mem w [] w' []) := by
 refine calls_KC Try.func74 rfl Try.ntmps74 rfl ?_
 have hM := Mem.init w
 unfold F_bits_Least at hF
 refine sr fun Q2 hQ2 => ?_
 refine va rfl rfl ?_
 refine nt hQ2 ?_
 clear hQ2 Q2
 refine sr fun Q3 hQ3 => ?_
 refine va rfl rfl ?_
 refine nt hQ3 ?_
 clear hQ3 Q3
 refine KC.seqH fun Q4 hQ4 => ?_
 refine sr fun Q5 hQ5 => ?_
 refine vm rfl rfl ?_
 refine RL.val (O.shr rfl rfl (by decide)) rfl ?_
 refine va rfl rfl ?_
 refine nt hQ5 ?_
 clear hQ5 Q5
 refine KC.block ?_
 refine KC.loop (fun k18 a w16 => ∃ (v14 : Int) (nv15 : Int), Kn 13 [(0, v64 v14), (3, vI nv15)] a ∧ Mem w [] w16 [] ∧ F_bits_Least_L1 k18 v14 nv15 = some r) ?_ ?_
 ·exact fun a ha => ⟨fuel0, (Ox.shr .u64 v1 8), 1, ha.less (less_cons rfl (less_cons rfl less_nil)), hM, hF⟩
 rintro k18 a w16 ⟨v14, nv15, ha, hM, hF⟩
 refine KC.app ha ?_
 clear ha
 cases k18 with
 | zero => exact (none_some hF).elim
 | succ k18 =>
 have hF : F_bits_Least_l1 (F_bits_Least_L1 k18) v14 nv15 = some r := hF
 unfold F_bits_Least_l1 at hF
 refine KC.seqH fun Q19 hQ19 => ?_
 refine sr fun Q20 hQ20 => ?_
 refine vm rfl rfl ?_
 refine RL.val (O.gtr rfl rfl) rfl ?_
 refine nt hQ20 ?_
 clear hQ20 Q20
 refine KC.cond rfl (fun hc => ?_) (fun hc => ?_)
 ·rw [if_pos hc] at hF
  refine KC.skip ?_
  refine KQ.thn hQ19 ?_
  clear hQ19 Q19
  refine KC.seqH fun Q21 hQ21 => ?_
  refine KC.block ?_
  refine KC.region ?_
  refine vm rfl rfl ?_
  refine RL.val (O.add rfl rfl) rfl ?_
  refine va rfl rfl ?_
  refine RL.nil ?_
  refine KQ.blk_n ?_
  refine KQ.thn hQ21 ?_
  clear hQ21 Q21
  refine KC.region ?_
  refine vm rfl rfl ?_
  refine RL.val (O.shr rfl rfl (by decide)) rfl ?_
  refine va rfl rfl ?_
  refine RL.nil ?_
  refine KQ.then_k ?_
  exact fun a ha => ⟨k18, Nat.lt_succ_self k18, (Ox.shr .u64 v14 8), (IntKind.i64.wrap (nv15 + 1)), ha.less (less_cons rfl (less_cons rfl less_nil)), hM, hF⟩
 rw [if_neg (ne_true hc)] at hF
 refine KC.exit ?_
 refine KQ.thx hQ19 ?_
 clear hQ19 Q19
 refine KQ.then_x ?_
 refine KQ.blk_x ?_
 refine KQ.thn hQ4 ?_
 clear hQ4 Q4
 refine sr fun Q22 hQ22 => ?_
 refine vm rfl rfl ?_
 refine va rfl rfl ?_
 refine nt hQ22 ?_
 clear hQ22 Q22
 refine KC.ret ?_
 have hE := Option.some.inj hF
 clear hF
 subst hE
 refine KQ.rets Try.results74 (RVs.cons (RV.tm rfl) RVs.nil) ?_
 exact ⟨_, rfl, rfl, hM⟩
set_option maxRecDepth 100000 in
set_option maxHeartbeats 40000000 in
theorem c_bits_fits (w : World) (v1 : Int) (size2 : Int) (r : Bool) (hF : F_bits_fits v1 size2 = some r) :
  CallsR Try.prog 62 [v64 v1, vI size2] w (fun v w' => v = vB r ∧ Mem w [] w' []) := by
 refine calls_KC Try.func62 rfl Try.ntmps62 rfl ?_
 have hM := Mem.init w
 unfold F_bits_fits at hF
 refine sr fun Q3 hQ3 => ?_
 refine va rfl rfl ?_
 refine nt hQ3 ?_
 clear hQ3 Q3
 refine KC.cut (fun a w13 => ∃ (t12 : Bool), Kn 13 [(4, vB t12)] a ∧ Mem w [] w13 [] ∧ F_bits_fits_j1 t12 = some r) ?_ ?_
 ·refine KC.region ?_
  refine vm rfl rfl ?_
  refine obindE hF fun y4 hx5 hF => ?_
  refine RL.call Try.func73 bd73 rfl rfl (c_bits_right _ size2 _ hx5) fun v w6 hv => ?_
  obtain ⟨rfl, hN7⟩ := hv
  replace hM := hM.call0 hN7
  refine vm rfl rfl ?_
  refine RL.bcase (t := 7) rfl (fun hc => ?_) (fun hc => ?_)
  ·rw [if_pos hc] at hF
   refine RL.gval rfl rfl (O.move rfl) rfl ?_
   refine obindE hF fun y8 hx9 hF => ?_
   refine RL.gcall rfl rfl Try.func74 bd74 rfl rfl (c_bits_Least _ v1 _ hx9) fun v w10 hv => ?_
   obtain ⟨rfl, hN11⟩ := hv
   replace hM := hM.call0 hN11
   refine RL.gval rfl rfl (O.move rfl) rfl ?_
   refine RL.gval rfl rfl (O.leq rfl rfl) rfl ?_
   refine RL.val (O.pickt rfl rfl) rfl ?_
   refine va rfl rfl ?_
   refine RL.nil ?_
   refine KQ.then_k ?_
   exact fun a ha => ⟨(decide (y8 ≤ size2)), ha.less (less_cons rfl less_nil), hM, hF⟩
  rw [if_neg (ne_true hc)] at hF
  refine RL.brun1 5 12 false (by kernel_rfl) ?_
  refine va rfl rfl ?_
  refine RL.nil ?_
  refine KQ.then_k ?_
  exact fun a ha => ⟨false, ha.less (less_cons rfl less_nil), hM, hF⟩
 rintro a w13 ⟨t12, ha, hM, hF⟩
 refine KC.app ha ?_
 clear ha
 unfold F_bits_fits_j1 at hF
 refine KC.ret ?_
 have hE := Option.some.inj hF
 clear hF
 subst hE
 refine KQ.rets Try.results62 (RVs.cons (RV.tm rfl) RVs.nil) ?_
 exact ⟨_, rfl, rfl, hM⟩
set_option maxRecDepth 100000 in
set_option maxHeartbeats 40000000 in
theorem c_bits_of (w : World) (v1 : Int) (size2 : Int) (r : (List Int)) (hF : F_bits_of v1 size2 = some r) :
  CallsR Try.prog 63 [v64 v1, vI size2] w (fun v w' => ∃ (A0 : Option Addr) (c0 : Nat), v = .slice A0 (r).length c0 ∧ Mem w [] w' [.row A0 c0 5 1 r.length (r.flatMap (eI .u8))]) := by
 refine calls_KC Try.func63 rfl Try.ntmps63 rfl ?_
 have hM := Mem.init w
 unfold F_bits_of at hF
 refine sr fun Q3 hQ3 => ?_
 refine va rfl rfl ?_
 refine nt hQ3 ?_
 clear hQ3 Q3
 refine sr fun Q4 hQ4 => ?_
 refine vm rfl rfl ?_
 refine cut_someE hF fun hq7 hF => ?_
 refine RL.eff (E.mks (enc := (eI .u8)) (zr := 0) hM sl24 ze5 rfl rfl (fun _ => rfl) rfl rfl rfl (of_decide_eq_true hq7)) rfl fun v w6 hv => ?_
 clear hM
 obtain ⟨A5, rfl, hM, hf⟩ := hv
 refine va rfl rfl ?_
 refine nt hQ4 ?_
 clear hQ4 Q4
 refine KC.seqH fun Q9 hQ9 => ?_
 refine sr fun Q10 hQ10 => ?_
 refine vm rfl rfl ?_
 refine vm rfl rfl ?_
 refine nt hQ10 ?_
 clear hQ10 Q10
 refine KC.block ?_
 refine KC.loop (fun k43 a w41 => ∃ (A37 : Option Addr) (c38 : Nat) (b39 : List Int) (t40 : Int), Kn 26 [(0, v64 v1), (1, vI size2), (5, .slice A37 (b39).length c38), (9, vI size2), (10, vI t40)] a ∧ Mem w [] w41 [.row A37 c38 5 1 (b39).length ((b39).flatMap (eI .u8))] ∧ F_bits_of_L1 v1 size2 k43 b39 t40 = some r) ?_ ?_
 ·exact fun a ha => ⟨fuel0, A5, (Int.toNat size2), (List.replicate (Int.toNat size2) (0 : Int)), 0, ha.less (less_cons rfl (less_cons rfl (less_cons rfl (less_cons rfl (less_cons rfl less_nil))))), hM, hF⟩
 rintro k43 a w41 ⟨A37, c38, b39, t40, ha, hM, hF⟩
 refine KC.app ha ?_
 clear ha
 cases k43 with
 | zero => exact (none_some hF).elim
 | succ k43 =>
 have hF : F_bits_of_l1 (F_bits_of_L1 v1 size2 k43) v1 size2 b39 t40 = some r := hF
 unfold F_bits_of_l1 at hF
 refine sr fun Q44 hQ44 => ?_
 refine RL.val (O.lss rfl rfl) rfl ?_
 refine nt hQ44 ?_
 clear hQ44 Q44
 refine KC.seqH fun Q45 hQ45 => ?_
 refine KC.cond rfl (fun hc => ?_) (fun hc => ?_)
 ·rw [if_pos hc] at hF
  refine KC.skip ?_
  refine KQ.thn hQ45 ?_
  clear hQ45 Q45
  refine KC.seqH fun Q46 hQ46 => ?_
  refine KC.block ?_
  refine sr fun Q47 hQ47 => ?_
  refine vm rfl rfl ?_
  refine va rfl rfl ?_
  refine nt hQ47 ?_
  clear hQ47 Q47
  refine KC.region ?_
  refine vm rfl rfl ?_
  refine vm rfl rfl ?_
  refine RL.val (O.sub rfl rfl) rfl ?_
  refine vm rfl rfl ?_
  refine RL.val (O.sub rfl rfl) rfl ?_
  refine vm rfl rfl ?_
  refine vm rfl rfl ?_
  refine RL.val (O.mul rfl rfl) rfl ?_
  refine cut_someE hF fun hq48 hF => ?_
  refine RL.val (O.shr rfl rfl (of_decide_eq_true hq48)) rfl ?_
  refine RL.val (O.conv un76 Try.underlying5 rfl) rfl ?_
  refine obindE hF fun xv51 hx50 hF => ?_
  have hA49 := Rd.atN (f := (eI .u8)) (s := 1) (fun _ => rfl) (by decide) (hM.rd (i := 0) rfl) hx50
  refine RL.val (O.idxA sl24 (hA49) rfl rfl) rfl ?_
  refine RL.effs (E.stR (enc := (eI .u8)) (j := 0) (off := 0) (vs := [v8 (IntKind.u8.wrap (Ox.shr .u64 v1 (IntKind.i64.wrap (8 * t40))))]) (x' := (IntKind.u8.wrap (Ox.shr .u64 v1 (IntKind.i64.wrap (8 * t40))))) hM rfl (fun _ => rfl) hx50 sz5 rfl (addsR_eq [] rfl) rfl rfl (One.all rfl) rfl rfl) fun w52 hM1 => ?_
  clear hM
  obtain ⟨hM, hn53⟩ := hM1
  refine RL.reslot (t := 5) rfl hn53 ?_
  refine RL.reslot (t := 13) rfl hn53 ?_
  refine RL.nil ?_
  refine KQ.blk_n ?_
  refine KQ.thn hQ46 ?_
  clear hQ46 Q46
  refine KC.region ?_
  refine RL.val (O.add rfl rfl) rfl ?_
  refine vm rfl rfl ?_
  refine RL.nil ?_
  refine KQ.then_k ?_
  exact fun a ha => ⟨k43, Nat.lt_succ_self k43, A37, c38, (b39.set ((IntKind.i64.wrap ((IntKind.i64.wrap (size2 - 1)) - t40)) : Int).toNat (IntKind.u8.wrap (Ox.shr .u64 v1 (IntKind.i64.wrap (8 * t40))))), (IntKind.i64.wrap (t40 + 1)), ha.less (less_cons rfl (less_cons rfl (less_cons rfl (less_cons rfl (less_cons rfl less_nil))))), hM, hF⟩
 rw [if_neg (ne_true hc)] at hF
 refine KC.exit ?_
 refine KQ.thx hQ45 ?_
 clear hQ45 Q45
 refine KQ.then_x ?_
 refine KQ.blk_x ?_
 refine KQ.thn hQ9 ?_
 clear hQ9 Q9
 refine sr fun Q54 hQ54 => ?_
 refine vm rfl rfl ?_
 refine va rfl rfl ?_
 refine nt hQ54 ?_
 clear hQ54 Q54
 refine KC.ret ?_
 have hE := Option.some.inj hF
 clear hF
 subst hE
 refine KQ.rets Try.results63 (RVs.cons (RV.tm rfl) RVs.nil) ?_
 exact ⟨_, rfl, A37, c38, rfl, hM⟩
set_option maxRecDepth 100000 in
set_option maxHeartbeats 40000000 in
theorem c_bits_Writer_Put (w : World) (g2 : Nat) (tg7 : TypeId) (wv1 : T_bits_Writer) (A4 : Option Addr) (c5 : Nat) (hL10 : Lent w [.box g2 tg7 [.slice A4 (wv1.f_b).length c5], .row A4 c5 5 1 (wv1.f_b).length ((wv1.f_b).flatMap (eI .u8))]) (v8 : Int) (size9 : Int) (r : Int × T_bits_Writer) (hF : F_bits_Writer_Put wv1 v8 size9 = some r) :
  CallsR Try.prog 57 [.pointer (some ⟨g2, 0, none⟩), v64 v8, vI size9] w (fun v w' => ∃ (A0 : Option Addr) (c0 : Nat), v = vI r.1 ∧ Mem w [some g2, rblk A4 c5] w' [.box g2 tg7 [.slice A0 (r.2.f_b).length c0], .row A0 c0 5 1 r.2.f_b.length (r.2.f_b.flatMap (eI .u8))]) := by
 refine calls_KC Try.func57 rfl Try.ntmps57 rfl ?_
 have hM : Mem w [some g2, rblk A4 c5] w [.box g2 tg7 [.slice A4 (wv1.f_b).length c5], .row A4 c5 5 1 (wv1.f_b).length ((wv1.f_b).flatMap (eI .u8))] := Mem.lendN hL10
 unfold F_bits_Writer_Put at hF
 refine sr fun Q11 hQ11 => ?_
 refine va rfl rfl ?_
 refine nt hQ11 ?_
 clear hQ11 Q11
 refine KC.seqH fun Q12 hQ12 => ?_
 refine sr fun Q13 hQ13 => ?_
 refine vm rfl rfl ?_
 refine RL.val (O.peqn Try.underlying71 rfl rfl) rfl ?_
 refine nt hQ13 ?_
 clear hQ13 Q13
 refine KC.condF rfl ?_
 refine KC.skip ?_
 refine KQ.thn hQ12 ?_
 clear hQ12 Q12
 refine KC.seqH fun Q14 hQ14 => ?_
 refine sr fun Q15 hQ15 => ?_
 refine vm rfl rfl ?_
 refine vm rfl rfl ?_
 refine obindE hF fun y16 hx17 hF => ?_
 refine RL.call Try.func62 bd62 rfl rfl (c_bits_fits _ v8 size9 _ hx17) fun v w18 hv => ?_
 obtain ⟨rfl, hN19⟩ := hv
 replace hM := hM.call0 hN19
 refine RL.val (O.not rfl) rfl ?_
 refine nt hQ15 ?_
 clear hQ15 Q15
 refine KC.cond rfl (fun hc => ?_) (fun hc => ?_)
 ·rw [if_pos hc] at hF
  refine sr fun Q20 hQ20 => ?_
  refine va rfl rfl ?_
  refine nt hQ20 ?_
  clear hQ20 Q20
  refine KC.ret ?_
  refine KQ.thr hQ14 ?_
  clear hQ14 Q14
  have hE := Option.some.inj hF
  clear hF
  subst hE
  refine KQ.rets Try.results57 (RVs.cons (RV.tm rfl) RVs.nil) ?_
  exact ⟨_, rfl, A4, c5, rfl, hM⟩
 rw [if_neg (ne_true hc)] at hF
 refine KC.skip ?_
 refine KQ.thn hQ14 ?_
 clear hQ14 Q14
 refine sr fun Q21 hQ21 => ?_
 refine vm rfl rfl ?_
 refine vm rfl rfl ?_
 refine vm rfl rfl ?_
 refine obindE hF fun y22 hx23 hF => ?_
 refine RL.call Try.func63 bd63 rfl rfl (c_bits_of _ v8 size9 _ hx23) fun v w24 hv => ?_
 obtain ⟨A26, c27, rfl, hN25⟩ := hv
 replace hM := hM.call hN25
 refine obindE hF fun y29 hx30 hF => ?_
 refine RL.call Try.func33 bd33 rfl rfl (c_bits_Writer_Raw _ _ _ wv1 _ _ (hM.lent [0, 1] rfl (by decide)) _ _ y22 (hM.rd (i := 2) rfl) (hM.offR [0, 1] rfl (i := 2) rfl rfl) _ hx30) fun v w31 hv => ?_
 obtain ⟨A33, c34, rfl, hN32⟩ := hv
 replace hM := hM.callL [0, 1] [2] rfl rfl (by decide) rfl hN32
 refine va rfl rfl ?_
 refine nt hQ21 ?_
 clear hQ21 Q21
 refine KC.ret ?_
 have hE := Option.some.inj hF
 clear hF
 subst hE
 replace hM := hM.pick [1, 2] rfl (by decide)
 refine KQ.rets Try.results57 (RVs.cons (RV.tm rfl) RVs.nil) ?_
 exact ⟨_, rfl, A33, c34, rfl, hM⟩
set_option maxRecDepth 100000 in
set_option maxHeartbeats 40000000 in
theorem c_trans_each (w : World) (g2 : Nat) (tg7 : TypeId) (wv1 : T_bits_Writer) (A4 : Option Addr) (c5 : Nat) (hL14 : Lent w [.box g2 tg7 [.slice A4 (wv1.f_b).length c5], .row A4 c5 5 1 (wv1.f_b).length ((wv1.f_b).flatMap (eI .u8))]) (size8 : Int) (A10 : Option Addr) (c11 : Nat) (lv9 : List Int) (hr12 : Rd w A10 c11 1 lv9.length (lv9.flatMap (eI .u64))) (ho13 : Off [some g2, rblk A4 c5] lv9.length A10) (r : T_bits_Writer) (hF : F_trans_each wv1 size8 lv9 = some r) :
  CallsR Try.prog 56 [.pointer (some ⟨g2, 0, none⟩), vI size8, .slice A10 (lv9).length c11] w (fun v w' => ∃ (A0 : Option Addr) (c0 : Nat), v = .tuple #[] ∧ Mem w [some g2, rblk A4 c5] w' [.box g2 tg7 [.slice A0 (r.f_b).length c0], .row A0 c0 5 1 r.f_b.length (r.f_b.flatMap (eI .u8))]) := by
 refine calls_KC Try.func56 rfl Try.ntmps56 rfl ?_
 have hM : Mem w [some g2, rblk A4 c5] w [.box g2 tg7 [.slice A4 (wv1.f_b).length c5], .row A4 c5 5 1 (wv1.f_b).length ((wv1.f_b).flatMap (eI .u8))] := Mem.lendN hL14
 unfold F_trans_each at hF
 refine sr fun Q15 hQ15 => ?_
 refine vm rfl rfl ?_
 refine RL.val (O.len sl101 rfl) rfl ?_
 refine vm rfl rfl ?_
 refine nt hQ15 ?_
 clear hQ15 Q15
 refine KC.block ?_
 refine KC.loop (fun k58 a w56 => ∃ (A52 : Option Addr) (c53 : Nat) (p54 : List Int) (t55 : Int), Kn 19 [(0, .pointer (some ⟨g2, 0, none⟩)), (1, vI size8), (8, .slice A10 (lv9).length c11), (9, vI (lv9.length : Int)), (10, vI t55)] a ∧ Mem w [some g2, rblk A4 c5] w56 [.row A52 c53 5 1 (p54).length ((p54).flatMap (eI .u8)), .box g2 tg7 [.slice A52 (p54).length c53]] ∧ F_trans_each_L1 size8 lv9 k58 p54 t55 = some r) ?_ ?_
 ·replace hM := hM.pick [1, 0] rfl (by decide)
  exact fun a ha => ⟨fuel0, A4, c5, wv1.f_b, 0, ha.less (less_cons rfl (less_cons rfl (less_cons rfl (less_cons rfl (less_cons rfl less_nil))))), hM, hF⟩
 rintro k58 a w56 ⟨A52, c53, p54, t55, ha, hM, hF⟩
 refine KC.app ha ?_
 clear ha
 cases k58 with
 | zero => exact (none_some hF).elim
 | succ k58 =>
 have hF : F_trans_each_l1 (F_trans_each_L1 size8 lv9 k58) size8 lv9 p54 t55 = some r := hF
 unfold F_trans_each_l1 at hF
 refine sr fun Q59 hQ59 => ?_
 refine RL.val (O.lss rfl rfl) rfl ?_
 refine nt hQ59 ?_
 clear hQ59 Q59
 refine KC.seqH fun Q60 hQ60 => ?_
 refine KC.cond rfl (fun hc => ?_) (fun hc => ?_)
 ·rw [if_pos hc] at hF
  refine KC.skip ?_
  refine KQ.thn hQ60 ?_
  clear hQ60 Q60
  refine KC.seqH fun Q61 hQ61 => ?_
  refine KC.block ?_
  refine sr fun Q62 hQ62 => ?_
  refine obindE hF fun xv65 hx64 hF => ?_
  have hA63 := Rd.atN (f := (eI .u64)) (s := 1) (fun _ => rfl) (by decide) (hM.inp hr12 ho13) hx64
  refine RL.val (O.idxA sl101 (hA63) rfl rfl) rfl ?_
  refine RL.val (O.load sc76 rfl (hA63).cells.at0) rfl ?_
  refine va rfl rfl ?_
  refine nt hQ62 ?_
  clear hQ62 Q62
  refine KC.region ?_
  refine vm rfl rfl ?_
  refine vm rfl rfl ?_
  refine vm rfl rfl ?_
  refine obindE hF fun y66 hx67 hF => ?_
  refine RL.call Try.func57 bd57 rfl rfl (c_bits_Writer_Put _ _ _ (T_bits_Writer.mk p54) _ _ (hM.lent [1, 0] rfl (by decide)) xv65 size8 _ hx67) fun v w68 hv => ?_
  obtain ⟨A70, c71, rfl, hN69⟩ := hv
  replace hM := hM.callL [1, 0] [] rfl rfl (by decide) rfl hN69
  refine RL.nil ?_
  refine KQ.blk_n ?_
  refine KQ.thn hQ61 ?_
  clear hQ61 Q61
  refine KC.region ?_
  refine RL.val (O.add rfl rfl) rfl ?_
  refine vm rfl rfl ?_
  refine RL.nil ?_
  refine KQ.then_k ?_
  replace hM := hM.pick [1, 0] rfl (by decide)
  exact fun a ha => ⟨k58, Nat.lt_succ_self k58, A70, c71, y66.2.f_b, (IntKind.i64.wrap (t55 + 1)), ha.less (less_cons rfl (less_cons rfl (less_cons rfl (less_cons rfl (less_cons rfl less_nil))))), hM, hF⟩
 rw [if_neg (ne_true hc)] at hF
 refine KC.exit ?_
 refine KQ.thx hQ60 ?_
 clear hQ60 Q60
 refine KQ.then_x ?_
 refine KQ.blk_x ?_
 have hE := Option.some.inj hF
 clear hF
 subst hE
 replace hM := hM.pick [1, 0] rfl (by decide)
 refine KQ.endr Try.results56 RVs.nil ?_
 exact ⟨_, rfl, A52, c53, rfl, hM⟩
set_option maxRecDepth 100000 in
set_option maxHeartbeats 40000000 in
theorem c_slices_Clone_byte_byte (w : World) (A2 : Option Addr) (c3 : Nat) (s1 : List Int) (hr4 : Rd w A2 c3 1 s1.length (s1.flatMap (eI .u8))) (r : (List Int)) (hF : F_slices_Clone_byte_byte s1 = some r) :
  CallsR Try.prog 61 [.slice A2 (s1).length c3] w (fun v w' => ∃ (A0 : Option Addr) (c0 : Nat), v = .slice A0 (r).length c0 ∧ Mem w [] w' [.row A0 c0 5 1 r.length (r.flatMap (eI .u8))]) := by
 refine calls_KC Try.func61 rfl Try.ntmps61 rfl ?_
 have hM := Mem.init w
 unfold F_slices_Clone_byte_byte at hF
 refine sr fun Q5 hQ5 => ?_
 refine va rfl rfl ?_
 refine nt hQ5 ?_
 clear hQ5 Q5
 refine KC.seqH fun Q6 hQ6 => ?_
 refine sr fun Q7 hQ7 => ?_
 refine vm rfl rfl ?_
 refine RL.val (O.sleqn sl24 rfl rfl) rfl ?_
 refine nt hQ7 ?_
 clear hQ7 Q7
 refine KC.cond rfl (fun hc => ?_) (fun hc => ?_)
 ·have hz8 := Rd.none_nil (hM.inp hr4 Off.nil) (hc)
  have hF : (some ([])) = some r := by (rw [hz8] at hF; simpa [lim] using hF)
  refine sr fun Q9 hQ9 => ?_
  refine va rfl rfl ?_
  refine nt hQ9 ?_
  clear hQ9 Q9
  refine KC.ret ?_
  refine KQ.thr hQ6 ?_
  clear hQ6 Q6
  have hE := Option.some.inj hF
  clear hF
  subst hE
  replace hM := hM.nilrow 5 1
  refine KQ.rets Try.results61 (RVs.cons (RV.tm rfl) RVs.nil) ?_
  exact ⟨_, rfl, none, 0, rfl, hM⟩
 refine KC.skip ?_
 refine KQ.thn hQ6 ?_
 clear hQ6 Q6
 refine sr fun Q10 hQ10 => ?_
 refine RL.eff (E.bsl0 hM sl24) rfl fun v w11 hv => ?_
 clear hM
 obtain ⟨A12, rfl, hM, hf⟩ := hv
 refine vm rfl rfl ?_
 refine cut_someE hF fun hq17 hF => ?_
 refine RL.eff (E.app (enc := (eI .u8)) (xs := ([] : List Int)) (ys := s1) (j := 0) hM rfl sl24 ze5 rfl rfl rfl rfl rfl (hM.inp hr4 Off.nil) (fun _ => One.all rfl) (of_decide_eq_true hq17)) rfl fun v w16 hv => ?_
 clear hM
 obtain ⟨A14, c15, rfl, hM, hf⟩ := hv
 refine va rfl rfl ?_
 refine nt hQ10 ?_
 clear hQ10 Q10
 refine KC.ret ?_
 have hE := Option.some.inj hF
 clear hF
 subst hE
 refine KQ.rets Try.results61 (RVs.cons (RV.tm rfl) RVs.nil) ?_
 exact ⟨_, rfl, A14, c15, rfl, hM⟩
end Go.Proofs.Ytcinagdkkclapaa
