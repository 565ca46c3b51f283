/- Printed by a program of this claim: each call returns what the plain function of its name gives. -/
import Derived.Test.YtpbkjellpboefaaW1
import Derived.Test.YtpbkjellpboefaaW2
set_option linter.unusedVariables false
namespace Go.Proofs.Ytpbkjellpboefaa
open Go Go.Ox Go.RowKit
set_option maxRecDepth 100000 in
set_option maxHeartbeats 40000000 in
theorem c_law01_BitsBack (w : World) (A2 : Option Addr) (c3 : Nat) (lv1 : List Int) (hr4 : Rd w A2 c3 1 lv1.length (lv1.flatMap (eI .u64))) (A6 : Option Addr) (c7 : Nat) (sizes5 : List Int) (hr8 : Rd w A6 c7 1 sizes5.length (sizes5.flatMap (eI .i64))) (atv9 : Int) (v10 : Int) (r : Bool) (hF : F_law01_BitsBack lv1 sizes5 atv9 v10 = some r) :
  CallsR Try.prog 5 [.slice A2 (lv1).length c3, .slice A6 (sizes5).length c7, vI atv9, v64 v10] w (fun v w' => v = vB r ∧ Mem w [] w' []) := by
 refine calls_KC Try.func5 rfl Try.ntmps5 rfl ?_
 have hM := Mem.init w
 unfold F_law01_BitsBack at hF
 refine sr fun Q11 hQ11 => ?_
 refine va rfl rfl ?_
 refine nt hQ11 ?_
 clear hQ11 Q11
 refine KC.seqH fun Q12 hQ12 => ?_
 refine KC.cut (fun a w14 => ∃ (t13 : Bool), Kn 189 [(0, .slice A2 (lv1).length c3), (1, .slice A6 (sizes5).length c7), (2, vI atv9), (3, v64 v10), (32, vB t13)] a ∧ Mem w [] w14 [] ∧ F_law01_BitsBack_j1 lv1 sizes5 atv9 v10 t13 = some r) ?_ ?_
 ·refine KC.region ?_
  refine vm rfl rfl ?_
  refine RL.val (O.len sl47 rfl) rfl ?_
  refine RL.val (O.gtr rfl rfl) rfl ?_
  refine vm rfl rfl ?_
  refine RL.bcase (t := 26) rfl (fun hc => ?_) (fun hc => ?_)
  ·rw [if_pos hc] at hF
   refine RL.brun1 6 32 true (by kernel_rfl) ?_
   refine RL.nil ?_
   refine KQ.then_k ?_
   exact fun a ha => ⟨true, ha.less (less_cons rfl (less_cons rfl (less_cons rfl (less_cons rfl (less_cons rfl less_nil))))), hM, hF⟩
  rw [if_neg (ne_true hc)] at hF
  refine RL.gval rfl rfl (O.move rfl) rfl ?_
  refine RL.gval rfl rfl (O.len sl48 rfl) rfl ?_
  refine RL.gval rfl rfl (O.move rfl) rfl ?_
  refine RL.gval rfl rfl (O.len sl47 rfl) rfl ?_
  refine RL.gval rfl rfl (O.lss rfl rfl) rfl ?_
  refine RL.val (O.pickf rfl rfl) rfl ?_
  refine RL.nil ?_
  refine KQ.then_k ?_
  exact fun a ha => ⟨(decide ((sizes5.length : Int) < (lv1.length : Int))), ha.less (less_cons rfl (less_cons rfl (less_cons rfl (less_cons rfl (less_cons rfl less_nil))))), hM, hF⟩
 rintro a w14 ⟨t13, ha, hM, hF⟩
 refine KC.app ha ?_
 clear ha
 unfold F_law01_BitsBack_j1 at hF
 refine KC.cond rfl (fun hc => ?_) (fun hc => ?_)
 ·rw [if_pos hc] at hF
  refine sr fun Q15 hQ15 => ?_
  refine obindE hF fun y16 hx17 hF => ?_
  refine RL.call Try.func9 bd9 rfl rfl (c_law01_works _ _ hx17) fun v w18 hv => ?_
  obtain ⟨rfl, hN19⟩ := hv
  replace hM := hM.call0 hN19
  refine va rfl rfl ?_
  refine nt hQ15 ?_
  clear hQ15 Q15
  refine KC.ret ?_
  refine KQ.thr hQ12 ?_
  clear hQ12 Q12
  have hE := Option.some.inj hF
  clear hF
  subst hE
  refine KQ.rets Try.results5 (RVs.cons (RV.tm rfl) RVs.nil) ?_
  exact ⟨_, rfl, rfl, hM⟩
 rw [if_neg (ne_true hc)] at hF
 refine KC.skip ?_
 refine KQ.thn hQ12 ?_
 clear hQ12 Q12
 refine sr fun Q20 hQ20 => ?_
 refine RL.eff (E.alloc hM ze33) rfl fun v w22 hv => ?_
 clear hM
 obtain ⟨g21, rfl, hM, hf⟩ := hv
 refine nt hQ20 ?_
 clear hQ20 Q20
 refine KC.seqH fun Q24 hQ24 => ?_
 refine sr fun Q25 hQ25 => ?_
 refine va rfl rfl ?_
 refine nt hQ25 ?_
 clear hQ25 Q25
 refine KC.block ?_
 refine KC.loop (fun k101 a w99 => ∃ (A95 : Option Addr) (c96 : Nat) (wv97 : List Int) (i98 : Int), Kn 189 [(0, .slice A2 (lv1).length c3), (1, .slice A6 (sizes5).length c7), (2, vI atv9), (3, v64 v10), (9, .pointer (some ⟨g21, 0, none⟩)), (10, vI i98)] a ∧ Mem w [] w99 [.row A95 c96 5 1 (wv97).length ((wv97).flatMap (eI .u8)), .box g21 33 [.slice A95 (wv97).length c96]] ∧ F_law01_BitsBack_L1 lv1 sizes5 atv9 v10 k101 wv97 i98 = some r) ?_ ?_
 ·replace hM := hM.nilrow 5 1
  replace hM := hM.pick [1, 0] rfl (by decide)
  exact fun a ha => ⟨fuel0, none, 0, ([]), 0, ha.less (less_cons rfl (less_cons rfl (less_cons rfl (less_cons rfl (less_cons rfl (less_cons rfl less_nil)))))), hM, hF⟩
 rintro k101 a w99 ⟨A95, c96, wv97, i98, ha, hM, hF⟩
 refine KC.app ha ?_
 clear ha
 cases k101 with
 | zero => exact (none_some hF).elim
 | succ k101 =>
 have hF : F_law01_BitsBack_l1 (F_law01_BitsBack_L1 lv1 sizes5 atv9 v10 k101) lv1 sizes5 atv9 v10 wv97 i98 = some r := hF
 unfold F_law01_BitsBack_l1 at hF
 refine KC.seqH fun Q102 hQ102 => ?_
 refine sr fun Q103 hQ103 => ?_
 refine vm rfl rfl ?_
 refine vm rfl rfl ?_
 refine RL.val (O.len sl47 rfl) rfl ?_
 refine RL.val (O.lss rfl rfl) rfl ?_
 refine nt hQ103 ?_
 clear hQ103 Q103
 refine KC.cond rfl (fun hc => ?_) (fun hc => ?_)
 ·rw [if_pos hc] at hF
  refine KC.skip ?_
  refine KQ.thn hQ102 ?_
  clear hQ102 Q102
  refine KC.seqH fun Q104 hQ104 => ?_
  refine KC.block ?_
  refine sr fun Q105 hQ105 => ?_
  refine vm rfl rfl ?_
  refine vm rfl rfl ?_
  refine obindE hF fun xv108 hx107 hF => ?_
  have hA106 := Rd.atN (f := (eI .i64)) (s := 1) (fun _ => rfl) (by decide) (hM.inp hr8 Off.nil) hx107
  refine RL.val (O.idxA sl48 (hA106) rfl rfl) rfl ?_
  refine RL.val (O.load sc3 rfl (hA106).cells.at0) rfl ?_
  refine va rfl rfl ?_
  refine nt hQ105 ?_
  clear hQ105 Q105
  refine sr fun Q109 hQ109 => ?_
  refine vm rfl rfl ?_
  refine vm rfl rfl ?_
  refine obindE hF fun xv112 hx111 hF => ?_
  have hA110 := Rd.atN (f := (eI .u64)) (s := 1) (fun _ => rfl) (by decide) (hM.inp hr4 Off.nil) hx111
  refine RL.val (O.idxA sl47 (hA110) rfl rfl) rfl ?_
  refine RL.val (O.load sc23 rfl (hA110).cells.at0) rfl ?_
  refine vm rfl rfl ?_
  refine obindE hF fun y113 hx114 hF => ?_
  refine RL.call Try.func17 bd17 rfl rfl (c_bits_Writer_Put _ _ _ (T_bits_Writer.mk wv97) _ _ (hM.lent [1, 0] rfl (by decide)) xv112 xv108 _ hx114) fun v w115 hv => ?_
  obtain ⟨A117, c118, rfl, hN116⟩ := hv
  replace hM := hM.callL [1, 0] [] rfl rfl (by decide) rfl hN116
  refine va rfl rfl ?_
  refine nt hQ109 ?_
  clear hQ109 Q109
  refine KC.cut (fun a w130 => ∃ (t129 : Bool), Kn 189 [(0, .slice A2 (lv1).length c3), (1, .slice A6 (sizes5).length c7), (2, vI atv9), (3, v64 v10), (9, .pointer (some ⟨g21, 0, none⟩)), (10, vI i98), (63, vB t129)] a ∧ Mem w [] w130 [.row A117 c118 5 1 (y113.2.f_b).length ((y113.2.f_b).flatMap (eI .u8)), .box g21 33 [.slice A117 (y113.2.f_b).length c118]] ∧ F_law01_BitsBack_j2 i98 (F_law01_BitsBack_L1 lv1 sizes5 atv9 v10 k101) y113 t129 = some r) ?_ ?_
  ·refine KC.region ?_
   refine vm rfl rfl ?_
   refine RL.val (O.eql rfl rfl) rfl ?_
   refine vm rfl rfl ?_
   refine RL.val (O.leq rfl rfl) rfl ?_
   refine vm rfl rfl ?_
   refine RL.bcase (t := 54) rfl (fun hc => ?_) (fun hc => ?_)
   ·rw [if_pos hc] at hF
    refine RL.gval rfl rfl (O.move rfl) rfl ?_
    refine RL.gval rfl rfl (O.move rfl) rfl ?_
    refine obindE hF fun xv122 hx121 hF => ?_
    have hA120 := Rd.atN (f := (eI .u64)) (s := 1) (fun _ => rfl) (by decide) (hM.inp hr4 Off.nil) hx121
    refine RL.gval rfl rfl (O.idxA sl47 (hA120) rfl rfl) rfl ?_
    refine RL.gval rfl rfl (O.load sc23 rfl (hA120).cells.at0) rfl ?_
    refine obindE hF fun y123 hx124 hF => ?_
    refine RL.gcall rfl rfl Try.func12 bd12 rfl rfl (c_bits_Least _ xv122 _ hx124) fun v w125 hv => ?_
    obtain ⟨rfl, hN126⟩ := hv
    replace hM := hM.call0 hN126
    refine RL.gval rfl rfl (O.move rfl) rfl ?_
    refine RL.gval rfl rfl (O.leq rfl rfl) rfl ?_
    refine RL.val (O.pickt rfl rfl) rfl ?_
    refine RL.val (O.neqb Try.underlying4 rfl rfl) rfl ?_
    refine RL.nil ?_
    refine KQ.then_k ?_
    replace hM := hM.pick [1, 0] rfl (by decide)
    exact fun a ha => ⟨(!((y113.1 == 0) == (decide (y123 ≤ xv108)))), ha.less (less_cons rfl (less_cons rfl (less_cons rfl (less_cons rfl (less_cons rfl (less_cons rfl (less_cons rfl less_nil))))))), hM, hF⟩
   rw [if_neg (ne_true hc)] at hF
   refine RL.gskip rfl rfl rfl rfl ?_
   refine RL.gskip rfl rfl rfl rfl ?_
   refine RL.gskip rfl rfl rfl rfl ?_
   refine RL.gskip rfl rfl rfl rfl ?_
   refine RL.gskip rfl rfl rfl rfl ?_
   refine RL.gskip rfl rfl rfl rfl ?_
   refine RL.gskip rfl rfl rfl rfl ?_
   refine RL.val (O.pickf rfl rfl) rfl ?_
   refine RL.val (O.neqb Try.underlying4 rfl rfl) rfl ?_
   refine RL.nil ?_
   refine KQ.then_k ?_
   replace hM := hM.pick [1, 0] rfl (by decide)
   exact fun a ha => ⟨(!((y113.1 == 0) == false)), ha.less (less_cons rfl (less_cons rfl (less_cons rfl (less_cons rfl (less_cons rfl (less_cons rfl (less_cons rfl less_nil))))))), hM, hF⟩
  rintro a w130 ⟨t129, ha, hM, hF⟩
  refine KC.app ha ?_
  clear ha
  unfold F_law01_BitsBack_j2 at hF
  refine KC.cond rfl (fun hc => ?_) (fun hc => ?_)
  ·rw [if_pos hc] at hF
   refine sr fun Q131 hQ131 => ?_
   refine va rfl rfl ?_
   refine nt hQ131 ?_
   clear hQ131 Q131
   refine KC.ret ?_
   refine KQ.blk_r ?_
   refine KQ.thr hQ104 ?_
   clear hQ104 Q104
   refine KQ.then_r ?_
   refine KQ.blk_r ?_
   refine KQ.thr hQ24 ?_
   clear hQ24 Q24
   have hE := Option.some.inj hF
   clear hF
   subst hE
   replace hM := hM.pick [] rfl (by decide)
   refine KQ.rets Try.results5 (RVs.cons (RV.tm rfl) RVs.nil) ?_
   exact ⟨_, rfl, rfl, hM⟩
  rw [if_neg (ne_true hc)] at hF
  refine KC.skip ?_
  refine KQ.blk_n ?_
  refine KQ.thn hQ104 ?_
  clear hQ104 Q104
  refine KC.region ?_
  refine vm rfl rfl ?_
  refine RL.val (O.add rfl rfl) rfl ?_
  refine va rfl rfl ?_
  refine RL.nil ?_
  refine KQ.then_k ?_
  exact fun a ha => ⟨k101, Nat.lt_succ_self k101, A117, c118, y113.2.f_b, (IntKind.i64.wrap (i98 + 1)), ha.less (less_cons rfl (less_cons rfl (less_cons rfl (less_cons rfl (less_cons rfl (less_cons rfl less_nil)))))), hM, hF⟩
 rw [if_neg (ne_true hc)] at hF
 refine KC.exit ?_
 refine KQ.thx hQ102 ?_
 clear hQ102 Q102
 refine KQ.then_x ?_
 refine KQ.blk_x ?_
 refine KQ.thn hQ24 ?_
 clear hQ24 Q24
 refine sr fun Q132 hQ132 => ?_
 refine obindE hF fun y133 hx134 hF => ?_
 refine RL.call Try.func22 bd22 rfl rfl (c_bits_Writer_Bytes _ _ _ (T_bits_Writer.mk wv97) _ _ (hM.lent [1, 0] rfl (by decide)) _ hx134) fun v w135 hv => ?_
 obtain ⟨A137, c138, A140, c141, rfl, hN136⟩ := hv
 replace hM := hM.callL [1, 0] [] rfl rfl (by decide) rfl hN136
 refine obindE hF fun y143 hx144 hF => ?_
 refine RL.call Try.func25 bd25 rfl rfl (c_bits_Read _ _ _ y133.1 (hM.rd (i := 2) rfl) _ hx144) fun v w145 hv => ?_
 obtain ⟨g147, A149, c150, rfl, hN146⟩ := hv
 replace hM := hM.call hN146
 refine va rfl rfl ?_
 refine nt hQ132 ?_
 clear hQ132 Q132
 replace hM := hM.pick [0, 1, 3, 4] rfl (by decide)
 refine KC.seqH fun Q152 hQ152 => ?_
 refine sr fun Q153 hQ153 => ?_
 refine va rfl rfl ?_
 refine nt hQ153 ?_
 clear hQ153 Q153
 refine KC.block ?_
 refine KC.loop (fun k284 a w282 => ∃ (A277 : Option Addr) (c278 : Nat) (rv279 : List Int) (rv280 : Int) (i281 : Int), Kn 189 [(0, .slice A2 (lv1).length c3), (1, .slice A6 (sizes5).length c7), (2, vI atv9), (3, v64 v10), (9, .pointer (some ⟨g21, 0, none⟩)), (13, .pointer (some ⟨g147, 0, none⟩)), (14, vI i281)] a ∧ Mem w [] w282 [.row A137 c138 5 1 (y133.2.f_b).length ((y133.2.f_b).flatMap (eI .u8)), .box g21 33 [.slice A137 (y133.2.f_b).length c138], .row A277 c278 5 1 (rv279).length ((rv279).flatMap (eI .u8)), .box g147 64 [.slice A277 (rv279).length c278, vI rv280]] ∧ F_law01_BitsBack_L2 lv1 sizes5 atv9 v10 y133 k284 rv279 rv280 i281 = some r) ?_ ?_
 ·replace hM := hM.pick [1, 0, 3, 2] rfl (by decide)
  exact fun a ha => ⟨fuel0, A149, c150, y143.f_b, y143.f_at, 0, ha.less (less_cons rfl (less_cons rfl (less_cons rfl (less_cons rfl (less_cons rfl (less_cons rfl (less_cons rfl less_nil))))))), hM, hF⟩
 rintro k284 a w282 ⟨A277, c278, rv279, rv280, i281, ha, hM, hF⟩
 refine KC.app ha ?_
 clear ha
 cases k284 with
 | zero => exact (none_some hF).elim
 | succ k284 =>
 have hF : F_law01_BitsBack_l2 (F_law01_BitsBack_L2 lv1 sizes5 atv9 v10 y133 k284) lv1 sizes5 atv9 v10 y133 rv279 rv280 i281 = some r := hF
 unfold F_law01_BitsBack_l2 at hF
 refine KC.seqH fun Q285 hQ285 => ?_
 refine sr fun Q286 hQ286 => ?_
 refine vm rfl rfl ?_
 refine vm rfl rfl ?_
 refine RL.val (O.len sl47 rfl) rfl ?_
 refine RL.val (O.lss rfl rfl) rfl ?_
 refine nt hQ286 ?_
 clear hQ286 Q286
 refine KC.cond rfl (fun hc => ?_) (fun hc => ?_)
 ·rw [if_pos hc] at hF
  refine KC.skip ?_
  refine KQ.thn hQ285 ?_
  clear hQ285 Q285
  refine KC.cut (fun a w339 => ∃ (A335 : Option Addr) (c336 : Nat) (rv337 : List Int) (rv338 : Int), Kn 189 [(0, .slice A2 (lv1).length c3), (1, .slice A6 (sizes5).length c7), (2, vI atv9), (3, v64 v10), (9, .pointer (some ⟨g21, 0, none⟩)), (13, .pointer (some ⟨g147, 0, none⟩)), (14, vI i281)] a ∧ Mem w [] w339 [.row A137 c138 5 1 (y133.2.f_b).length ((y133.2.f_b).flatMap (eI .u8)), .box g21 33 [.slice A137 (y133.2.f_b).length c138], .row A335 c336 5 1 (rv337).length ((rv337).flatMap (eI .u8)), .box g147 64 [.slice A335 (rv337).length c336, vI rv338]] ∧ F_law01_BitsBack_j3 i281 (F_law01_BitsBack_L2 lv1 sizes5 atv9 v10 y133 k284) rv337 rv338 = some r) ?_ ?_
  ·refine KC.block ?_
   refine KC.seqH fun Q287 hQ287 => ?_
   refine KC.cut (fun a w309 => ∃ (t308 : Bool), Kn 189 [(0, .slice A2 (lv1).length c3), (1, .slice A6 (sizes5).length c7), (2, vI atv9), (3, v64 v10), (9, .pointer (some ⟨g21, 0, none⟩)), (13, .pointer (some ⟨g147, 0, none⟩)), (14, vI i281), (95, vB t308)] a ∧ Mem w [] w309 [.row A137 c138 5 1 (y133.2.f_b).length ((y133.2.f_b).flatMap (eI .u8)), .box g21 33 [.slice A137 (y133.2.f_b).length c138], .row A277 c278 5 1 (rv279).length ((rv279).flatMap (eI .u8)), .box g147 64 [.slice A277 (rv279).length c278, vI rv280]] ∧ F_law01_BitsBack_j4 lv1 sizes5 rv279 rv280 i281 (F_law01_BitsBack_L2 lv1 sizes5 atv9 v10 y133 k284) t308 = some r) ?_ ?_
   ·replace hM := hM.drewN 1
    refine KC.draw [] [] [21] [0, 1, 4, 5, 6, 7, 10, 11, 12, 13, 14, 17, 18, 22, 23] (.ofList [0, 1, 2, 3, 4, 5, 6, 7, 8, 9, 10, 11, 12, 13, 14, 15, 16, 17, 18, 19, 20, 21, 22, 23]) moP (by kernel_rfl) ?_
    refine RD.p rfl rfl rfl rfl (fun w' => O.move rfl) ?_
    refine RD.p rfl rfl rfl rfl (fun w' => O.move rfl) ?_
    refine obindE hF fun xv290 hx289 hF => ?_
    have hA288 := Rd.atN (f := (eI .i64)) (s := 1) (fun _ => rfl) (by decide) (hM.inp hr8 Off.nil) hx289
    refine RD.q rfl rfl rfl rfl (fun w' hf => O.idxA sl48 (hA288.fut hf) rfl rfl) ?_
    refine RD.q rfl rfl rfl rfl (fun w' hf => O.load sc3 rfl (hA288.fut hf).cells.at0) ?_
    refine RD.p rfl rfl rfl rfl (fun w' => O.lss rfl rfl) ?_
    refine RD.p rfl rfl rfl rfl (fun w' => O.move rfl) ?_
    refine RD.bcase (t := 77) rfl (fun hc => ?_) (fun hc => ?_)
    ·rw [if_pos hc] at hF
     refine RD.gskip rfl rfl rfl rfl rfl ?_
     refine RD.gskip rfl rfl rfl rfl rfl ?_
     refine RD.gskip rfl rfl rfl rfl rfl ?_
     refine RD.gskip rfl rfl rfl rfl rfl ?_
     refine RD.gskip rfl rfl rfl rfl rfl ?_
     refine RD.p rfl rfl rfl rfl (fun w' => O.pickt rfl rfl) ?_
     refine RD.p rfl rfl rfl rfl (fun w' => O.move rfl) ?_
     refine RD.gskip rfl rfl rfl rfl rfl ?_
     refine RD.gskip rfl rfl rfl rfl rfl ?_
     refine RD.gskip rfl rfl rfl rfl rfl ?_
     refine RD.gskip rfl rfl rfl rfl rfl ?_
     refine RD.gskip rfl rfl rfl rfl rfl ?_
     refine RD.gskip rfl rfl rfl rfl rfl ?_
     refine RD.gskip rfl rfl rfl rfl rfl ?_
     refine RD.gskip rfl rfl rfl rfl rfl ?_
     refine RD.gskip rfl rfl rfl rfl rfl ?_
     refine RD.gskip rfl rfl rfl rfl rfl ?_
     refine RD.p rfl rfl rfl rfl (fun w' => O.pickt rfl rfl) ?_
     refine RD.nil ?_
     refine KQ.then_k ?_
     exact fun a ha => ⟨true, ha.less (less_cons rfl (less_cons rfl (less_cons rfl (less_cons rfl (less_cons rfl (less_cons rfl (less_cons rfl (less_cons rfl less_nil)))))))), hM, hF⟩
    rw [if_neg (ne_true hc)] at hF
    refine RD.gp rfl rfl rfl rfl rfl rfl (fun w' => O.move rfl) ?_
    refine RD.gp rfl rfl rfl rfl rfl rfl (fun w' => O.move rfl) ?_
    refine obindE hF fun xv293 hx292 hF => ?_
    have hA291 := Rd.atN (f := (eI .i64)) (s := 1) (fun _ => rfl) (by decide) (hM.inp hr8 Off.nil) hx292
    refine RD.gq rfl rfl rfl rfl rfl rfl (fun w' hf => O.idxA sl48 (hA291.fut hf) rfl rfl) ?_
    refine RD.gq rfl rfl rfl rfl rfl rfl (fun w' hf => O.load sc3 rfl (hA291.fut hf).cells.at0) ?_
    refine RD.gp rfl rfl rfl rfl rfl rfl (fun w' => O.gtr rfl rfl) ?_
    refine RD.p rfl rfl rfl rfl (fun w' => O.pickf rfl rfl) ?_
    refine RD.p rfl rfl rfl rfl (fun w' => O.move rfl) ?_
    refine RD.bcase (t := 84) rfl (fun hc => ?_) (fun hc => ?_)
    ·rw [if_pos hc] at hF
     refine RD.gskip rfl rfl rfl rfl rfl ?_
     refine RD.gskip rfl rfl rfl rfl rfl ?_
     refine RD.gskip rfl rfl rfl rfl rfl ?_
     refine RD.gskip rfl rfl rfl rfl rfl ?_
     refine RD.gskip rfl rfl rfl rfl rfl ?_
     refine RD.gskip rfl rfl rfl rfl rfl ?_
     refine RD.gskip rfl rfl rfl rfl rfl ?_
     refine RD.gskip rfl rfl rfl rfl rfl ?_
     refine RD.gskip rfl rfl rfl rfl rfl ?_
     refine RD.gskip rfl rfl rfl rfl rfl ?_
     refine RD.p rfl rfl rfl rfl (fun w' => O.pickt rfl rfl) ?_
     refine RD.nil ?_
     refine KQ.then_k ?_
     exact fun a ha => ⟨true, ha.less (less_cons rfl (less_cons rfl (less_cons rfl (less_cons rfl (less_cons rfl (less_cons rfl (less_cons rfl (less_cons rfl less_nil)))))))), hM, hF⟩
    rw [if_neg (ne_true hc)] at hF
    refine RD.gp rfl rfl rfl rfl rfl rfl (fun w' => O.move rfl) ?_
    refine RD.gp rfl rfl rfl rfl rfl rfl (fun w' => O.move rfl) ?_
    refine obindE hF fun xv296 hx295 hF => ?_
    have hA294 := Rd.atN (f := (eI .u64)) (s := 1) (fun _ => rfl) (by decide) (hM.inp hr4 Off.nil) hx295
    refine RD.gq rfl rfl rfl rfl rfl rfl (fun w' hf => O.idxA sl47 (hA294.fut hf) rfl rfl) ?_
    refine RD.gq rfl rfl rfl rfl rfl rfl (fun w' hf => O.load sc23 rfl (hA294.fut hf).cells.at0) ?_
    refine RD.gp rfl rfl rfl rfl rfl rfl (fun w' => O.move rfl) ?_
    refine RD.gp rfl rfl rfl rfl rfl rfl (fun w' => O.move rfl) ?_
    refine obindE hF fun xv299 hx298 hF => ?_
    have hA297 := Rd.atN (f := (eI .i64)) (s := 1) (fun _ => rfl) (by decide) (hM.inp hr8 Off.nil) hx298
    refine RD.gq rfl rfl rfl rfl rfl rfl (fun w' hf => O.idxA sl48 (hA297.fut hf) rfl rfl) ?_
    refine RD.gq rfl rfl rfl rfl rfl rfl (fun w' hf => O.load sc3 rfl (hA297.fut hf).cells.at0) ?_
    refine obindE hF fun y300 hx301 hF => ?_
    refine RD.mcall rfl rfl ⟨rfl, rfl⟩ Try.func15 bd15 rfl rfl (c_ref01_Fits _ xv296 xv299 _ hx301) fun v w302 hv => ?_
    obtain ⟨rfl, hN303⟩ := hv
    refine ⟨fun _ => hN303.fut, ?_⟩
    replace hM := hM.call0 hN303
    refine RD.gp rfl rfl rfl rfl rfl rfl (fun w' => O.not rfl) ?_
    refine RD.p rfl rfl rfl rfl (fun w' => O.pickf rfl rfl) ?_
    refine RD.nil ?_
    refine KQ.then_k ?_
    exact fun a ha => ⟨(!y300), ha.less (less_cons rfl (less_cons rfl (less_cons rfl (less_cons rfl (less_cons rfl (less_cons rfl (less_cons rfl (less_cons rfl less_nil)))))))), hM, hF⟩
   rintro a w309 ⟨t308, ha, hM, hF⟩
   refine KC.app ha ?_
   clear ha
   unfold F_law01_BitsBack_j4 at hF
   refine KC.cond rfl (fun hc => ?_) (fun hc => ?_)
   ·rw [if_pos hc] at hF
    refine KC.exit ?_
    refine KQ.thx hQ287 ?_
    clear hQ287 Q287
    refine KQ.blk_x ?_
    refine KQ.then_k ?_
    exact fun a ha => ⟨A277, c278, rv279, rv280, ha.less (less_cons rfl (less_cons rfl (less_cons rfl (less_cons rfl (less_cons rfl (less_cons rfl (less_cons rfl less_nil))))))), hM, hF⟩
   rw [if_neg (ne_true hc)] at hF
   refine KC.skip ?_
   refine KQ.thn hQ287 ?_
   clear hQ287 Q287
   refine sr fun Q310 hQ310 => ?_
   refine vm rfl rfl ?_
   refine vm rfl rfl ?_
   refine vm rfl rfl ?_
   refine obindE hF fun xv313 hx312 hF => ?_
   have hA311 := Rd.atN (f := (eI .i64)) (s := 1) (fun _ => rfl) (by decide) (hM.inp hr8 Off.nil) hx312
   refine RL.val (O.idxA sl48 (hA311) rfl rfl) rfl ?_
   refine RL.val (O.load sc3 rfl (hA311).cells.at0) rfl ?_
   refine obindE hF fun y314 hx315 hF => ?_
   refine RL.call Try.func26 bd26 rfl rfl (c_bits_Reader_Get _ _ _ (T_bits_Reader.mk rv279 rv280) _ _ (hM.lent [3, 2] rfl (by decide)) xv313 _ hx315) fun v w316 hv => ?_
   obtain ⟨A318, c319, rfl, hN317⟩ := hv
   replace hM := hM.callL [3, 2] [0, 1] rfl rfl (by decide) rfl hN317
   refine vm rfl rfl ?_
   refine RL.val (O.ext rfl rfl) rfl ?_
   refine RL.val (O.ext rfl rfl) rfl ?_
   refine va rfl rfl ?_
   refine va rfl rfl ?_
   refine nt hQ310 ?_
   clear hQ310 Q310
   refine KC.cut (fun a w329 => ∃ (t328 : Bool), Kn 189 [(0, .slice A2 (lv1).length c3), (1, .slice A6 (sizes5).length c7), (2, vI atv9), (3, v64 v10), (9, .pointer (some ⟨g21, 0, none⟩)), (13, .pointer (some ⟨g147, 0, none⟩)), (14, vI i281), (114, vB t328)] a ∧ Mem w [] w329 [.row A137 c138 5 1 (y133.2.f_b).length ((y133.2.f_b).flatMap (eI .u8)), .box g21 33 [.slice A137 (y133.2.f_b).length c138], .row A318 c319 5 1 (y314.2.2.f_b).length ((y314.2.2.f_b).flatMap (eI .u8)), .box g147 64 [.slice A318 (y314.2.2.f_b).length c319, vI y314.2.2.f_at]] ∧ F_law01_BitsBack_j5 i281 (F_law01_BitsBack_L2 lv1 sizes5 atv9 v10 y133 k284) y314 t328 = some r) ?_ ?_
   ·refine KC.region ?_
    refine vm rfl rfl ?_
    refine RL.val (O.neq rfl rfl) rfl ?_
    refine vm rfl rfl ?_
    refine RL.bcase (t := 107) rfl (fun hc => ?_) (fun hc => ?_)
    ·rw [if_pos hc] at hF
     refine RL.gskip rfl rfl rfl rfl ?_
     refine RL.gskip rfl rfl rfl rfl ?_
     refine RL.gskip rfl rfl rfl rfl ?_
     refine RL.gskip rfl rfl rfl rfl ?_
     refine RL.gskip rfl rfl rfl rfl ?_
     refine RL.gskip rfl rfl rfl rfl ?_
     refine RL.val (O.pickt rfl rfl) rfl ?_
     refine RL.nil ?_
     refine KQ.then_k ?_
     replace hM := hM.pick [0, 1, 3, 2] rfl (by decide)
     exact fun a ha => ⟨true, ha.less (less_cons rfl (less_cons rfl (less_cons rfl (less_cons rfl (less_cons rfl (less_cons rfl (less_cons rfl (less_cons rfl less_nil)))))))), hM, hF⟩
    rw [if_neg (ne_true hc)] at hF
    refine RL.gval rfl rfl (O.move rfl) rfl ?_
    refine RL.gval rfl rfl (O.move rfl) rfl ?_
    refine RL.gval rfl rfl (O.move rfl) rfl ?_
    refine obindE hF fun xv323 hx322 hF => ?_
    have hA321 := Rd.atN (f := (eI .u64)) (s := 1) (fun _ => rfl) (by decide) (hM.inp hr4 Off.nil) hx322
    refine RL.gval rfl rfl (O.idxA sl47 (hA321) rfl rfl) rfl ?_
    refine RL.gval rfl rfl (O.load sc23 rfl (hA321).cells.at0) rfl ?_
    refine RL.gval rfl rfl (O.neq rfl rfl) rfl ?_
    refine RL.val (O.pickf rfl rfl) rfl ?_
    refine RL.nil ?_
    refine KQ.then_k ?_
    replace hM := hM.pick [0, 1, 3, 2] rfl (by decide)
    exact fun a ha => ⟨(y314.1 != xv323), ha.less (less_cons rfl (less_cons rfl (less_cons rfl (less_cons rfl (less_cons rfl (less_cons rfl (less_cons rfl (less_cons rfl less_nil)))))))), hM, hF⟩
   rintro a w329 ⟨t328, ha, hM, hF⟩
   refine KC.app ha ?_
   clear ha
   unfold F_law01_BitsBack_j5 at hF
   refine KC.cond rfl (fun hc => ?_) (fun hc => ?_)
   ·rw [if_pos hc] at hF
    refine sr fun Q330 hQ330 => ?_
    refine va rfl rfl ?_
    refine nt hQ330 ?_
    clear hQ330 Q330
    refine KC.ret ?_
    refine KQ.blk_r ?_
    refine KQ.then_r ?_
    refine KQ.then_r ?_
    refine KQ.blk_r ?_
    refine KQ.thr hQ152 ?_
    clear hQ152 Q152
    have hE := Option.some.inj hF
    clear hF
    subst hE
    replace hM := hM.pick [] rfl (by decide)
    refine KQ.rets Try.results5 (RVs.cons (RV.tm rfl) RVs.nil) ?_
    exact ⟨_, rfl, rfl, hM⟩
   rw [if_neg (ne_true hc)] at hF
   refine KC.skip ?_
   refine KQ.blk_n ?_
   refine KQ.then_k ?_
   exact fun a ha => ⟨A318, c319, y314.2.2.f_b, y314.2.2.f_at, ha.less (less_cons rfl (less_cons rfl (less_cons rfl (less_cons rfl (less_cons rfl (less_cons rfl (less_cons rfl less_nil))))))), hM, hF⟩
  rintro a w339 ⟨A335, c336, rv337, rv338, ha, hM, hF⟩
  refine KC.app ha ?_
  clear ha
  unfold F_law01_BitsBack_j3 at hF
  refine KC.region ?_
  refine vm rfl rfl ?_
  refine RL.val (O.add rfl rfl) rfl ?_
  refine va rfl rfl ?_
  refine RL.nil ?_
  refine KQ.then_k ?_
  exact fun a ha => ⟨k284, Nat.lt_succ_self k284, A335, c336, rv337, rv338, (IntKind.i64.wrap (i281 + 1)), ha.less (less_cons rfl (less_cons rfl (less_cons rfl (less_cons rfl (less_cons rfl (less_cons rfl (less_cons rfl less_nil))))))), hM, hF⟩
 rw [if_neg (ne_true hc)] at hF
 refine KC.exit ?_
 refine KQ.thx hQ285 ?_
 clear hQ285 Q285
 refine KQ.then_x ?_
 refine KQ.blk_x ?_
 refine KQ.thn hQ152 ?_
 clear hQ152 Q152
 refine sr fun Q340 hQ340 => ?_
 refine obindE hF fun y341 hx342 hF => ?_
 refine RL.call Try.func22 bd22 rfl rfl (c_bits_Writer_Bytes _ _ _ y133.2 _ _ (hM.lent [1, 0] rfl (by decide)) _ hx342) fun v w343 hv => ?_
 obtain ⟨A345, c346, A348, c349, rfl, hN344⟩ := hv
 replace hM := hM.callL [1, 0] [2, 3] rfl rfl (by decide) rfl hN344
 refine va rfl rfl ?_
 refine nt hQ340 ?_
 clear hQ340 Q340
 refine sr fun Q351 hQ351 => ?_
 refine vm rfl rfl ?_
 refine obindE hF fun y352 hx353 hF => ?_
 refine RL.call Try.func12 bd12 rfl rfl (c_bits_Least _ v10 _ hx353) fun v w354 hv => ?_
 obtain ⟨rfl, hN355⟩ := hv
 replace hM := hM.call0 hN355
 refine va rfl rfl ?_
 refine nt hQ351 ?_
 clear hQ351 Q351
 refine KC.seqH fun Q356 hQ356 => ?_
 refine KC.cut (fun a w384 => ∃ (A373 : Option Addr) (c374 : Nat) (A378 : Option Addr) (c379 : Nat) (wv375 : List Int) (rv380 : List Int) (rv381 : Int) (t383 : Bool), Kn 189 [(2, vI atv9), (3, v64 v10), (9, .pointer (some ⟨g21, 0, none⟩)), (13, .pointer (some ⟨g147, 0, none⟩)), (17, .slice A348 (y341.1).length c349), (18, vI y352), (127, vB t383)] a ∧ Mem w [] w384 [.row A373 c374 5 1 (wv375).length ((wv375).flatMap (eI .u8)), .box g21 33 [.slice A373 (wv375).length c374], .row A378 c379 5 1 (rv380).length ((rv380).flatMap (eI .u8)), .box g147 64 [.slice A378 (rv380).length c379, vI rv381], .row A348 c349 5 1 (y341.1).length ((y341.1).flatMap (eI .u8))] ∧ F_law01_BitsBack_j6 atv9 v10 y341 y352 wv375 rv380 rv381 t383 = some r) ?_ ?_
 ·refine KC.region ?_
  refine vm rfl rfl ?_
  refine obindE hF fun y357 hx358 hF => ?_
  refine RL.call Try.func27 bd27 rfl rfl (c_bits_Reader_Left _ _ _ (T_bits_Reader.mk rv279 rv280) _ _ (hM.lent [1, 0] rfl (by decide)) _ hx358) fun v w359 hv => ?_
  obtain ⟨A361, c362, rfl, hN360⟩ := hv
  replace hM := hM.callL [1, 0] [2, 3, 4] rfl rfl (by decide) rfl hN360
  refine RL.val (O.neq rfl rfl) rfl ?_
  refine vm rfl rfl ?_
  refine RL.bcase (t := 121) rfl (fun hc => ?_) (fun hc => ?_)
  ·rw [if_pos hc] at hF
   refine RL.brun1 6 127 true (by kernel_rfl) ?_
   refine RL.nil ?_
   refine KQ.then_k ?_
   replace hM := hM.pick [1, 0, 4, 3, 2] rfl (by decide)
   exact fun a ha => ⟨A345, c346, A361, c362, y341.2.f_b, y357.2.f_b, y357.2.f_at, true, ha.less (less_cons rfl (less_cons rfl (less_cons rfl (less_cons rfl (less_cons rfl (less_cons rfl (less_cons rfl less_nil))))))), hM, hF⟩
  rw [if_neg (ne_true hc)] at hF
  refine RL.gval rfl rfl (O.move rfl) rfl ?_
  refine RL.gval rfl rfl (O.move rfl) rfl ?_
  refine RL.gval rfl rfl (O.move rfl) rfl ?_
  refine obindE hF fun y364 hx365 hF => ?_
  refine RL.gcall rfl rfl Try.func21 bd21 rfl rfl (c_bits_Writer_Set _ _ _ y341.2 _ _ (hM.lent [0, 1] rfl (by decide)) atv9 v10 y352 _ hx365) fun v w366 hv => ?_
  obtain ⟨A368, c369, rfl, hN367⟩ := hv
  replace hM := hM.callL [0, 1] [2, 3, 4] rfl rfl (by decide) rfl hN367
  refine RL.gval rfl rfl (O.neq rfl rfl) rfl ?_
  refine RL.val (O.pickf rfl rfl) rfl ?_
  refine RL.nil ?_
  refine KQ.then_k ?_
  replace hM := hM.pick [4, 3, 2, 1, 0] rfl (by decide)
  exact fun a ha => ⟨A368, c369, A361, c362, y364.2.f_b, y357.2.f_b, y357.2.f_at, (y364.1 != 0), ha.less (less_cons rfl (less_cons rfl (less_cons rfl (less_cons rfl (less_cons rfl (less_cons rfl (less_cons rfl less_nil))))))), hM, hF⟩
 rintro a w384 ⟨A373, c374, A378, c379, wv375, rv380, rv381, t383, ha, hM, hF⟩
 refine KC.app ha ?_
 clear ha
 unfold F_law01_BitsBack_j6 at hF
 refine KC.cond rfl (fun hc => ?_) (fun hc => ?_)
 ·rw [if_pos hc] at hF
  refine KC.cut (fun a w411 => ∃ (t410 : Bool), Kn 189 [(8, vB t410)] a ∧ Mem w [] w411 [] ∧ F_law01_BitsBack_j7 t410 = some r) ?_ ?_
  ·refine KC.region ?_
   refine vm rfl rfl ?_
   refine obindE hF fun y385 hx386 hF => ?_
   refine RL.call Try.func27 bd27 rfl rfl (c_bits_Reader_Left _ _ _ (T_bits_Reader.mk rv380 rv381) _ _ (hM.lent [3, 2] rfl (by decide)) _ hx386) fun v w387 hv => ?_
   obtain ⟨A389, c390, rfl, hN388⟩ := hv
   replace hM := hM.callL [3, 2] [0, 1, 4] rfl rfl (by decide) rfl hN388
   refine RL.val (O.eql rfl rfl) rfl ?_
   refine vm rfl rfl ?_
   refine RL.bcase (t := 131) rfl (fun hc => ?_) (fun hc => ?_)
   ·rw [if_pos hc] at hF
    refine obindE hF fun y392 hx393 hF => ?_
    refine RL.gcall rfl rfl Try.func22 bd22 rfl rfl (c_bits_Writer_Bytes _ _ _ (T_bits_Writer.mk wv375) _ _ (hM.lent [1, 0] rfl (by decide)) _ hx393) fun v w394 hv => ?_
    obtain ⟨A396, c397, A399, c400, rfl, hN395⟩ := hv
    replace hM := hM.callL [1, 0] [2, 3, 4] rfl rfl (by decide) rfl hN395
    refine RL.gval rfl rfl (O.move rfl) rfl ?_
    refine obindE hF fun y402 hx403 hF => ?_
    refine RL.gcall rfl rfl Try.func23 bd23 rfl rfl (c_ref01_Same _ _ _ y392.1 (hM.rd (i := 5) rfl) _ _ y341.1 (hM.rd (i := 0) rfl) _ hx403) fun v w404 hv => ?_
    obtain ⟨rfl, hN405⟩ := hv
    replace hM := hM.call0 hN405
    refine RL.val (O.pickt rfl rfl) rfl ?_
    refine vm rfl rfl ?_
    refine RL.bcase (t := 136) rfl (fun hc => ?_) (fun hc => ?_)
    ·rw [if_pos hc] at hF
     refine obindE hF fun y406 hx407 hF => ?_
     refine RL.gcall rfl rfl Try.func9 bd9 rfl rfl (c_law01_works _ _ hx407) fun v w408 hv => ?_
     obtain ⟨rfl, hN409⟩ := hv
     replace hM := hM.call0 hN409
     refine RL.val (O.pickt rfl rfl) rfl ?_
     refine va rfl rfl ?_
     refine RL.nil ?_
     refine KQ.then_k ?_
     replace hM := hM.pick [] rfl (by decide)
     exact fun a ha => ⟨y406, ha.less (less_cons rfl less_nil), hM, hF⟩
    rw [if_neg (ne_true hc)] at hF
    refine RL.gskip rfl rfl rfl rfl ?_
    refine RL.val (O.pickf rfl rfl) rfl ?_
    refine va rfl rfl ?_
    refine RL.nil ?_
    refine KQ.then_k ?_
    replace hM := hM.pick [] rfl (by decide)
    exact fun a ha => ⟨false, ha.less (less_cons rfl less_nil), hM, hF⟩
   rw [if_neg (ne_true hc)] at hF
   refine RL.brun1 7 138 false (by kernel_rfl) ?_
   refine va rfl rfl ?_
   refine RL.nil ?_
   refine KQ.then_k ?_
   replace hM := hM.pick [] rfl (by decide)
   exact fun a ha => ⟨false, ha.less (less_cons rfl less_nil), hM, hF⟩
  rintro a w411 ⟨t410, ha, hM, hF⟩
  refine KC.app ha ?_
  clear ha
  unfold F_law01_BitsBack_j7 at hF
  refine KC.ret ?_
  refine KQ.thr hQ356 ?_
  clear hQ356 Q356
  have hE := Option.some.inj hF
  clear hF
  subst hE
  refine KQ.rets Try.results5 (RVs.cons (RV.tm rfl) RVs.nil) ?_
  exact ⟨_, rfl, rfl, hM⟩
 rw [if_neg (ne_true hc)] at hF
 refine KC.skip ?_
 refine KQ.thn hQ356 ?_
 clear hQ356 Q356
 replace hM := hM.pick [0, 1, 4] rfl (by decide)
 refine sr fun Q412 hQ412 => ?_
 refine obindE hF fun y413 hx414 hF => ?_
 refine RL.call Try.func22 bd22 rfl rfl (c_bits_Writer_Bytes _ _ _ (T_bits_Writer.mk wv375) _ _ (hM.lent [1, 0] rfl (by decide)) _ hx414) fun v w415 hv => ?_
 obtain ⟨A417, c418, A420, c421, rfl, hN416⟩ := hv
 replace hM := hM.callL [1, 0] [2] rfl rfl (by decide) rfl hN416
 refine va rfl rfl ?_
 refine nt hQ412 ?_
 clear hQ412 Q412
 replace hM := hM.pick [0, 3] rfl (by decide)
 refine sr fun Q423 hQ423 => ?_
 refine vm rfl rfl ?_
 refine vm rfl rfl ?_
 refine vm rfl rfl ?_
 refine obindE hF fun y424 hx425 hF => ?_
 refine RL.call Try.func10 bd10 rfl rfl (c_bits_Get _ _ _ y413.1 (hM.rd (i := 1) rfl) atv9 y352 _ hx425) fun v w426 hv => ?_
 obtain ⟨rfl, hN427⟩ := hv
 replace hM := hM.call0 hN427
 refine vm rfl rfl ?_
 refine RL.val (O.ext rfl rfl) rfl ?_
 refine RL.val (O.ext rfl rfl) rfl ?_
 refine va rfl rfl ?_
 refine va rfl rfl ?_
 refine nt hQ423 ?_
 clear hQ423 Q423
 refine KC.seqH fun Q428 hQ428 => ?_
 refine KC.cut (fun a w432 => ∃ (t431 : Bool), Kn 189 [(2, vI atv9), (17, .slice A348 (y341.1).length c349), (18, vI y352), (19, .slice A420 (y413.1).length c421), (160, vB t431)] a ∧ Mem w [] w432 [.row A348 c349 5 1 (y341.1).length ((y341.1).flatMap (eI .u8)), .row A420 c421 5 1 (y413.1).length ((y413.1).flatMap (eI .u8))] ∧ F_law01_BitsBack_j8 atv9 y341 y352 y413 t431 = some r) ?_ ?_
 ·refine KC.region ?_
  refine vm rfl rfl ?_
  refine RL.val (O.len sl22 rfl) rfl ?_
  refine vm rfl rfl ?_
  refine RL.val (O.len sl22 rfl) rfl ?_
  refine RL.val (O.neq rfl rfl) rfl ?_
  refine vm rfl rfl ?_
  refine RL.bcase (t := 152) rfl (fun hc => ?_) (fun hc => ?_)
  ·rw [if_pos hc] at hF
   refine RL.brun1 8 160 true (by kernel_rfl) ?_
   refine RL.nil ?_
   refine KQ.then_k ?_
   exact fun a ha => ⟨true, ha.less (less_cons rfl (less_cons rfl (less_cons rfl (less_cons rfl (less_cons rfl less_nil))))), hM, hF⟩
  rw [if_neg (ne_true hc)] at hF
  refine RL.gval rfl rfl (O.move rfl) rfl ?_
  refine RL.gval rfl rfl (O.neq rfl rfl) rfl ?_
  refine RL.val (O.pickf rfl rfl) rfl ?_
  refine vm rfl rfl ?_
  refine RL.bcase (t := 156) rfl (fun hc => ?_) (fun hc => ?_)
  ·rw [if_pos hc] at hF
   refine RL.brun1 4 160 true (by kernel_rfl) ?_
   refine RL.nil ?_
   refine KQ.then_k ?_
   exact fun a ha => ⟨true, ha.less (less_cons rfl (less_cons rfl (less_cons rfl (less_cons rfl (less_cons rfl less_nil))))), hM, hF⟩
  rw [if_neg (ne_true hc)] at hF
  refine RL.gval rfl rfl (O.move rfl) rfl ?_
  refine RL.gval rfl rfl (O.move rfl) rfl ?_
  refine RL.gval rfl rfl (O.neq rfl rfl) rfl ?_
  refine RL.val (O.pickf rfl rfl) rfl ?_
  refine RL.nil ?_
  refine KQ.then_k ?_
  exact fun a ha => ⟨(y424.1 != v10), ha.less (less_cons rfl (less_cons rfl (less_cons rfl (less_cons rfl (less_cons rfl less_nil))))), hM, hF⟩
 rintro a w432 ⟨t431, ha, hM, hF⟩
 refine KC.app ha ?_
 clear ha
 unfold F_law01_BitsBack_j8 at hF
 refine KC.cond rfl (fun hc => ?_) (fun hc => ?_)
 ·rw [if_pos hc] at hF
  refine sr fun Q433 hQ433 => ?_
  refine va rfl rfl ?_
  refine nt hQ433 ?_
  clear hQ433 Q433
  refine KC.ret ?_
  refine KQ.thr hQ428 ?_
  clear hQ428 Q428
  have hE := Option.some.inj hF
  clear hF
  subst hE
  replace hM := hM.pick [] rfl (by decide)
  refine KQ.rets Try.results5 (RVs.cons (RV.tm rfl) RVs.nil) ?_
  exact ⟨_, rfl, rfl, hM⟩
 rw [if_neg (ne_true hc)] at hF
 refine KC.skip ?_
 refine KQ.thn hQ428 ?_
 clear hQ428 Q428
 refine KC.seqH fun Q434 hQ434 => ?_
 refine sr fun Q435 hQ435 => ?_
 refine va rfl rfl ?_
 refine nt hQ435 ?_
 clear hQ435 Q435
 refine KC.block ?_
 refine KC.loop (fun k484 a w482 => ∃ (i481 : Int), Kn 189 [(2, vI atv9), (17, .slice A348 (y341.1).length c349), (18, vI y352), (19, .slice A420 (y413.1).length c421), (22, vI i481)] a ∧ Mem w [] w482 [.row A348 c349 5 1 (y341.1).length ((y341.1).flatMap (eI .u8)), .row A420 c421 5 1 (y413.1).length ((y413.1).flatMap (eI .u8))] ∧ F_law01_BitsBack_L3 atv9 y341 y352 y413 k484 i481 = some r) ?_ ?_
 ·exact fun a ha => ⟨fuel0, 0, ha.less (less_cons rfl (less_cons rfl (less_cons rfl (less_cons rfl (less_cons rfl less_nil))))), hM, hF⟩
 rintro k484 a w482 ⟨i481, ha, hM, hF⟩
 refine KC.app ha ?_
 clear ha
 cases k484 with
 | zero => exact (none_some hF).elim
 | succ k484 =>
 have hF : F_law01_BitsBack_l3 (F_law01_BitsBack_L3 atv9 y341 y352 y413 k484) atv9 y341 y352 y413 i481 = some r := hF
 unfold F_law01_BitsBack_l3 at hF
 refine KC.seqH fun Q485 hQ485 => ?_
 refine sr fun Q486 hQ486 => ?_
 refine vm rfl rfl ?_
 refine vm rfl rfl ?_
 refine RL.val (O.len sl22 rfl) rfl ?_
 refine RL.val (O.lss rfl rfl) rfl ?_
 refine nt hQ486 ?_
 clear hQ486 Q486
 refine KC.cond rfl (fun hc => ?_) (fun hc => ?_)
 ·rw [if_pos hc] at hF
  refine KC.skip ?_
  refine KQ.thn hQ485 ?_
  clear hQ485 Q485
  refine KC.seqH fun Q487 hQ487 => ?_
  refine KC.block ?_
  refine KC.cut (fun a w503 => ∃ (t502 : Bool), Kn 189 [(2, vI atv9), (17, .slice A348 (y341.1).length c349), (18, vI y352), (19, .slice A420 (y413.1).length c421), (22, vI i481), (187, vB t502)] a ∧ Mem w [] w503 [.row A348 c349 5 1 (y341.1).length ((y341.1).flatMap (eI .u8)), .row A420 c421 5 1 (y413.1).length ((y413.1).flatMap (eI .u8))] ∧ F_law01_BitsBack_j9 i481 (F_law01_BitsBack_L3 atv9 y341 y352 y413 k484) t502 = some r) ?_ ?_
  ·replace hM := hM.drewN 1
   refine KC.draw [] [] [] [0, 1, 2, 3, 4, 5, 6, 7, 8, 9, 10, 11, 12, 15, 16, 19, 20] (.ofList [0, 1, 2, 3, 4, 5, 6, 7, 8, 9, 10, 11, 12, 13, 14, 15, 16, 17, 18, 19, 20]) moP (by kernel_rfl) ?_
   refine RD.p rfl rfl rfl rfl (fun w' => O.move rfl) ?_
   refine RD.p rfl rfl rfl rfl (fun w' => O.move rfl) ?_
   refine RD.p rfl rfl rfl rfl (fun w' => O.lss rfl rfl) ?_
   refine RD.p rfl rfl rfl rfl (fun w' => O.move rfl) ?_
   refine RD.bcase (t := 170) rfl (fun hc => ?_) (fun hc => ?_)
   ·rw [if_pos hc] at hF
    refine RD.gskip rfl rfl rfl rfl rfl ?_
    refine RD.gskip rfl rfl rfl rfl rfl ?_
    refine RD.gskip rfl rfl rfl rfl rfl ?_
    refine RD.gskip rfl rfl rfl rfl rfl ?_
    refine RD.gskip rfl rfl rfl rfl rfl ?_
    refine RD.p rfl rfl rfl rfl (fun w' => O.pickt rfl rfl) ?_
    refine RD.p rfl rfl rfl rfl (fun w' => O.move rfl) ?_
    refine RD.gp rfl rfl rfl rfl rfl rfl (fun w' => O.move rfl) ?_
    refine RD.gp rfl rfl rfl rfl rfl rfl (fun w' => O.move rfl) ?_
    refine obindE hF fun xv490 hx489 hF => ?_
    have hA488 := Rd.atN (f := (eI .u8)) (s := 1) (fun _ => rfl) (by decide) (hM.rd (i := 1) rfl) hx489
    refine RD.gq rfl rfl rfl rfl rfl rfl (fun w' hf => O.idxA sl22 (hA488.fut hf) rfl rfl) ?_
    refine RD.gq rfl rfl rfl rfl rfl rfl (fun w' hf => O.load sc5 rfl (hA488.fut hf).cells.at0) ?_
    refine RD.gp rfl rfl rfl rfl rfl rfl (fun w' => O.move rfl) ?_
    refine RD.gp rfl rfl rfl rfl rfl rfl (fun w' => O.move rfl) ?_
    refine obindE hF fun xv493 hx492 hF => ?_
    have hA491 := Rd.atN (f := (eI .u8)) (s := 1) (fun _ => rfl) (by decide) (hM.rd (i := 0) rfl) hx492
    refine RD.gq rfl rfl rfl rfl rfl rfl (fun w' hf => O.idxA sl22 (hA491.fut hf) rfl rfl) ?_
    refine RD.gq rfl rfl rfl rfl rfl rfl (fun w' hf => O.load sc5 rfl (hA491.fut hf).cells.at0) ?_
    refine RD.gp rfl rfl rfl rfl rfl rfl (fun w' => O.neq rfl rfl) ?_
    refine RD.p rfl rfl rfl rfl (fun w' => O.pickt rfl rfl) ?_
    refine RD.nil ?_
    refine KQ.then_k ?_
    exact fun a ha => ⟨(xv490 != xv493), ha.less (less_cons rfl (less_cons rfl (less_cons rfl (less_cons rfl (less_cons rfl (less_cons rfl less_nil)))))), hM, hF⟩
   rw [if_neg (ne_true hc)] at hF
   refine RD.gp rfl rfl rfl rfl rfl rfl (fun w' => O.move rfl) ?_
   refine RD.gp rfl rfl rfl rfl rfl rfl (fun w' => O.move rfl) ?_
   refine RD.gp rfl rfl rfl rfl rfl rfl (fun w' => O.move rfl) ?_
   refine RD.gp rfl rfl rfl rfl rfl rfl (fun w' => O.add rfl rfl) ?_
   refine RD.gp rfl rfl rfl rfl rfl rfl (fun w' => O.geq rfl rfl) ?_
   refine RD.p rfl rfl rfl rfl (fun w' => O.pickf rfl rfl) ?_
   refine RD.p rfl rfl rfl rfl (fun w' => O.move rfl) ?_
   refine RD.bcase (t := 177) rfl (fun hc => ?_) (fun hc => ?_)
   ·rw [if_pos hc] at hF
    refine RD.gp rfl rfl rfl rfl rfl rfl (fun w' => O.move rfl) ?_
    refine RD.gp rfl rfl rfl rfl rfl rfl (fun w' => O.move rfl) ?_
    refine obindE hF fun xv496 hx495 hF => ?_
    have hA494 := Rd.atN (f := (eI .u8)) (s := 1) (fun _ => rfl) (by decide) (hM.rd (i := 1) rfl) hx495
    refine RD.gq rfl rfl rfl rfl rfl rfl (fun w' hf => O.idxA sl22 (hA494.fut hf) rfl rfl) ?_
    refine RD.gq rfl rfl rfl rfl rfl rfl (fun w' hf => O.load sc5 rfl (hA494.fut hf).cells.at0) ?_
    refine RD.gp rfl rfl rfl rfl rfl rfl (fun w' => O.move rfl) ?_
    refine RD.gp rfl rfl rfl rfl rfl rfl (fun w' => O.move rfl) ?_
    refine obindE hF fun xv499 hx498 hF => ?_
    have hA497 := Rd.atN (f := (eI .u8)) (s := 1) (fun _ => rfl) (by decide) (hM.rd (i := 0) rfl) hx498
    refine RD.gq rfl rfl rfl rfl rfl rfl (fun w' hf => O.idxA sl22 (hA497.fut hf) rfl rfl) ?_
    refine RD.gq rfl rfl rfl rfl rfl rfl (fun w' hf => O.load sc5 rfl (hA497.fut hf).cells.at0) ?_
    refine RD.gp rfl rfl rfl rfl rfl rfl (fun w' => O.neq rfl rfl) ?_
    refine RD.p rfl rfl rfl rfl (fun w' => O.pickt rfl rfl) ?_
    refine RD.nil ?_
    refine KQ.then_k ?_
    exact fun a ha => ⟨(xv496 != xv499), ha.less (less_cons rfl (less_cons rfl (less_cons rfl (less_cons rfl (less_cons rfl (less_cons rfl less_nil)))))), hM, hF⟩
   rw [if_neg (ne_true hc)] at hF
   refine RD.gskip rfl rfl rfl rfl rfl ?_
   refine RD.gskip rfl rfl rfl rfl rfl ?_
   refine RD.gskip rfl rfl rfl rfl rfl ?_
   refine RD.gskip rfl rfl rfl rfl rfl ?_
   refine RD.gskip rfl rfl rfl rfl rfl ?_
   refine RD.gskip rfl rfl rfl rfl rfl ?_
   refine RD.gskip rfl rfl rfl rfl rfl ?_
   refine RD.gskip rfl rfl rfl rfl rfl ?_
   refine RD.gskip rfl rfl rfl rfl rfl ?_
   refine RD.p rfl rfl rfl rfl (fun w' => O.pickf rfl rfl) ?_
   refine RD.nil ?_
   refine KQ.then_k ?_
   exact fun a ha => ⟨false, ha.less (less_cons rfl (less_cons rfl (less_cons rfl (less_cons rfl (less_cons rfl (less_cons rfl less_nil)))))), hM, hF⟩
  rintro a w503 ⟨t502, ha, hM, hF⟩
  refine KC.app ha ?_
  clear ha
  unfold F_law01_BitsBack_j9 at hF
  refine KC.cond rfl (fun hc => ?_) (fun hc => ?_)
  ·rw [if_pos hc] at hF
   refine sr fun Q504 hQ504 => ?_
   refine va rfl rfl ?_
   refine nt hQ504 ?_
   clear hQ504 Q504
   refine KC.ret ?_
   refine KQ.blk_r ?_
   refine KQ.thr hQ487 ?_
   clear hQ487 Q487
   refine KQ.then_r ?_
   refine KQ.blk_r ?_
   refine KQ.thr hQ434 ?_
   clear hQ434 Q434
   have hE := Option.some.inj hF
   clear hF
   subst hE
   replace hM := hM.pick [] rfl (by decide)
   refine KQ.rets Try.results5 (RVs.cons (RV.tm rfl) RVs.nil) ?_
   exact ⟨_, rfl, rfl, hM⟩
  rw [if_neg (ne_true hc)] at hF
  refine KC.skip ?_
  refine KQ.blk_n ?_
  refine KQ.thn hQ487 ?_
  clear hQ487 Q487
  refine KC.region ?_
  refine vm rfl rfl ?_
  refine RL.val (O.add rfl rfl) rfl ?_
  refine va rfl rfl ?_
  refine RL.nil ?_
  refine KQ.then_k ?_
  exact fun a ha => ⟨k484, Nat.lt_succ_self k484, (IntKind.i64.wrap (i481 + 1)), ha.less (less_cons rfl (less_cons rfl (less_cons rfl (less_cons rfl (less_cons rfl less_nil))))), hM, hF⟩
 rw [if_neg (ne_true hc)] at hF
 refine KC.exit ?_
 refine KQ.thx hQ485 ?_
 clear hQ485 Q485
 refine KQ.then_x ?_
 refine KQ.blk_x ?_
 refine KQ.thn hQ434 ?_
 clear hQ434 Q434
 replace hM := hM.pick [] rfl (by decide)
 refine sr fun Q505 hQ505 => ?_
 refine obindE hF fun y506 hx507 hF => ?_
 refine RL.call Try.func9 bd9 rfl rfl (c_law01_works _ _ hx507) fun v w508 hv => ?_
 obtain ⟨rfl, hN509⟩ := hv
 replace hM := hM.call0 hN509
 refine va rfl rfl ?_
 refine nt hQ505 ?_
 clear hQ505 Q505
 refine KC.ret ?_
 have hE := Option.some.inj hF
 clear hF
 subst hE
 refine KQ.rets Try.results5 (RVs.cons (RV.tm rfl) RVs.nil) ?_
 exact ⟨_, rfl, rfl, hM⟩
set_option maxRecDepth 100000 in
set_option maxHeartbeats 40000000 in
theorem c_bits_Reader_Take (w : World) (g2 : Nat) (tg7 : TypeId) (rv1 : T_bits_Reader) (A4 : Option Addr) (c5 : Nat) (hL9 : Lent w [.box g2 tg7 [.slice A4 (rv1.f_b).length c5, vI rv1.f_at], .row A4 c5 5 1 (rv1.f_b).length ((rv1.f_b).flatMap (eI .u8))]) (nv8 : Int) (r : (List Int) × Int × T_bits_Reader) (hF : F_bits_Reader_Take rv1 nv8 = some r) :
  CallsR Try.prog 28 [.pointer (some ⟨g2, 0, none⟩), vI nv8] w (fun v w' => ∃ (A0 : Option Addr) (c0 : Nat) (A1 : Option Addr) (c1 : Nat), v = .tuple #[.slice A1 (r.1).length c1, vI r.2.1] ∧ Mem w [some g2, rblk A4 c5] w' [.box g2 tg7 [.slice A0 (r.2.2.f_b).length c0, vI r.2.2.f_at], .row A0 c0 5 1 r.2.2.f_b.length (r.2.2.f_b.flatMap (eI .u8)), .row A1 c1 5 1 r.1.length (r.1.flatMap (eI .u8))]) := by
 refine calls_KC Try.func28 rfl Try.ntmps28 rfl ?_
 have hM : Mem w [some g2, rblk A4 c5] w [.box g2 tg7 [.slice A4 (rv1.f_b).length c5, vI rv1.f_at], .row A4 c5 5 1 (rv1.f_b).length ((rv1.f_b).flatMap (eI .u8))] := Mem.lendN hL9
 unfold F_bits_Reader_Take at hF
 refine sr fun Q10 hQ10 => ?_
 refine va rfl rfl ?_
 refine va rfl rfl ?_
 refine nt hQ10 ?_
 clear hQ10 Q10
 refine KC.seqH fun Q11 hQ11 => ?_
 refine KC.block ?_
 refine sr fun Q12 hQ12 => ?_
 refine vm rfl rfl ?_
 refine RL.val (O.peqn Try.underlying49 rfl rfl) rfl ?_
 refine va rfl rfl ?_
 refine nt hQ12 ?_
 clear hQ12 Q12
 refine KC.condF rfl ?_
 refine sr fun Q13 hQ13 => ?_
 refine vm rfl rfl ?_
 refine RL.val (O.lss rfl rfl) rfl ?_
 refine va rfl rfl ?_
 refine nt hQ13 ?_
 clear hQ13 Q13
 refine KC.cond rfl (fun hc => ?_) (fun hc => ?_)
 ·rw [if_pos hc] at hF
  refine sr fun Q14 hQ14 => ?_
  refine va rfl rfl ?_
  refine va rfl rfl ?_
  refine nt hQ14 ?_
  clear hQ14 Q14
  refine KC.ret ?_
  refine KQ.blk_r ?_
  refine KQ.thr hQ11 ?_
  clear hQ11 Q11
  have hE := Option.some.inj hF
  clear hF
  subst hE
  replace hM := hM.nilrow 5 1
  refine KQ.rets Try.results28 (RVs.cons (RV.tm rfl) (RVs.cons (RV.tm rfl) RVs.nil)) ?_
  exact ⟨_, rfl, A4, c5, none, 0, rfl, hM⟩
 rw [if_neg (ne_true hc)] at hF
 refine sr fun Q15 hQ15 => ?_
 refine vm rfl rfl ?_
 refine vm rfl rfl ?_
 refine obindE hF fun y16 hx17 hF => ?_
 refine RL.call Try.func27 bd27 rfl rfl (c_bits_Reader_Left _ _ _ rv1 _ _ (hM.lent [0, 1] rfl (by decide)) _ hx17) fun v w18 hv => ?_
 obtain ⟨A20, c21, rfl, hN19⟩ := hv
 replace hM := hM.callL [0, 1] [] rfl rfl (by decide) rfl hN19
 refine RL.val (O.gtr rfl rfl) rfl ?_
 refine va rfl rfl ?_
 refine nt hQ15 ?_
 clear hQ15 Q15
 refine KC.cond rfl (fun hc => ?_) (fun hc => ?_)
 ·rw [if_pos hc] at hF
  refine sr fun Q23 hQ23 => ?_
  refine va rfl rfl ?_
  refine va rfl rfl ?_
  refine nt hQ23 ?_
  clear hQ23 Q23
  refine KC.ret ?_
  refine KQ.blk_r ?_
  refine KQ.thr hQ11 ?_
  clear hQ11 Q11
  have hE := Option.some.inj hF
  clear hF
  subst hE
  replace hM := hM.nilrow 5 1
  refine KQ.rets Try.results28 (RVs.cons (RV.tm rfl) (RVs.cons (RV.tm rfl) RVs.nil)) ?_
  exact ⟨_, rfl, A20, c21, none, 0, rfl, hM⟩
 rw [if_neg (ne_true hc)] at hF
 refine KC.skip ?_
 refine KQ.blk_n ?_
 refine KQ.thn hQ11 ?_
 clear hQ11 Q11
 refine KC.seqH fun Q24 hQ24 => ?_
 replace hM := hM.drewN 1
 refine KC.draw [] [] [] [0, 1, 2, 4, 5, 6, 8, 9, 10, 12, 13, 14, 15, 16, 18, 19, 20, 21] (.ofList [0, 1, 2, 3, 4, 5, 6, 7, 8, 9, 10, 11, 12, 13, 14, 15, 16, 17, 18, 19, 20, 21]) moP (by kernel_rfl) ?_
 refine RD.p rfl rfl rfl rfl (fun w' => O.move rfl) ?_
 refine RD.p rfl rfl rfl rfl (fun w' => O.nilp rfl) ?_
 refine RD.p rfl rfl rfl rfl (fun w' => O.fldA fl64_0 (by decide) rfl) ?_
 refine RD.q rfl rfl rfl rfl (fun w' hf => O.load sc22 rfl (Cs.adds [0] ((hM.bx (i := 0) rfl).fut hf) rfl)) ?_
 refine RD.p rfl rfl rfl rfl (fun w' => O.move rfl) ?_
 refine RD.p rfl rfl rfl rfl (fun w' => O.nilp rfl) ?_
 refine RD.p rfl rfl rfl rfl (fun w' => O.fldA fl64_1 (by decide) rfl) ?_
 refine RD.q rfl rfl rfl rfl (fun w' hf => O.load sc3 rfl (Cs.adds [1] ((hM.bx (i := 0) rfl).fut hf) rfl)) ?_
 refine RD.p rfl rfl rfl rfl (fun w' => O.move rfl) ?_
 refine RD.p rfl rfl rfl rfl (fun w' => O.nilp rfl) ?_
 refine RD.p rfl rfl rfl rfl (fun w' => O.fldA fl64_1 (by decide) rfl) ?_
 refine RD.q rfl rfl rfl rfl (fun w' hf => O.load sc3 rfl (Cs.adds [1] ((hM.bx (i := 0) rfl).fut hf) rfl)) ?_
 refine RD.p rfl rfl rfl rfl (fun w' => O.move rfl) ?_
 refine RD.p rfl rfl rfl rfl (fun w' => O.add rfl rfl) ?_
 refine RD.p rfl rfl rfl rfl (fun w' => O.move rfl) ?_
 refine RD.p rfl rfl rfl rfl (fun w' => O.nilp rfl) ?_
 refine RD.p rfl rfl rfl rfl (fun w' => O.fldA fl64_1 (by decide) rfl) ?_
 refine RD.q rfl rfl rfl rfl (fun w' hf => O.load sc3 rfl (Cs.adds [1] ((hM.bx (i := 0) rfl).fut hf) rfl)) ?_
 refine RD.p rfl rfl rfl rfl (fun w' => O.move rfl) ?_
 refine RD.p rfl rfl rfl rfl (fun w' => O.add rfl rfl) ?_
 refine obindE hF fun cut25 hy26 hF => ?_
 refine cutNE A20 (Int.toNat (IntKind.i64.wrap (y16.2.f_at + nv8))) (Int.toNat y16.2.f_at) 1 fun A27 c28 eA30 ec31 => ?_
 have hr29 := Rd.cutT (enc := (eI .u8)) (s := 1) (fun _ => rfl) (hM.rd (i := 1) rfl) hy26 (m := (Int.toNat (IntKind.i64.wrap (y16.2.f_at + nv8)))) (Nat.le_refl _) (by have := (hM.rd (i := 1) rfl).cap; have := (gcut_some hy26).2.2.1; omega)
 rw [← eA30, ← ec31] at hr29
 refine RD.p (v := .slice A27 (cut25).length c28) rfl rfl rfl rfl (fun w' => (by rw [eA30, ec31]; exact O.cut3T sl22 (hM.rd (i := 1) rfl) hy26 rfl rfl rfl rfl)) ?_
 refine RD.p rfl rfl rfl rfl (fun w' => O.assign rfl) ?_
 refine RD.nil ?_
 refine KQ.thn hQ24 ?_
 clear hQ24 Q24
 refine sr fun Q32 hQ32 => ?_
 refine vm rfl rfl ?_
 refine RL.val (O.nilp rfl) rfl ?_
 refine RL.val (O.fldA fl64_1 (by decide) rfl) rfl ?_
 refine RL.val (O.load sc3 rfl (Cs.adds [1] ((hM.bx (i := 0) rfl)) rfl)) rfl ?_
 refine vm rfl rfl ?_
 refine RL.val (O.add rfl rfl) rfl ?_
 refine RL.val (O.nilp rfl) rfl ?_
 refine RL.val (O.fldA fl64_1 (by decide) rfl) rfl ?_
 refine RL.effs (E.stB (j := 0) (off := 1) (vs := [vI (IntKind.i64.wrap (y16.2.f_at + nv8))]) (cs' := [.slice A20 (y16.2.f_b).length c21, vI (IntKind.i64.wrap (y16.2.f_at + nv8))]) hM rfl sz3 rfl (adds_eq [1] rfl) rfl rfl (One.all rfl) rfl rfl) fun w33 hM1 => ?_
 clear hM
 have hM := hM1
 clear hM1
 have hr29 := Rd.cutT (enc := (eI .u8)) (s := 1) (fun _ => rfl) (hM.rd (i := 1) rfl) hy26 (m := (Int.toNat (IntKind.i64.wrap (y16.2.f_at + nv8)))) (Nat.le_refl _) (by have := (hM.rd (i := 1) rfl).cap; have := (gcut_some hy26).2.2.1; omega)
 rw [← eA30, ← ec31] at hr29
 refine nt hQ32 ?_
 clear hQ32 Q32
 refine sr fun Q34 hQ34 => ?_
 refine vm rfl rfl ?_
 refine obindE hF fun y35 hx36 hF => ?_
 refine RL.call Try.func35 bd35 rfl rfl (c_slices_Clone_byte_byte _ _ _ cut25 hr29 _ hx36) fun v w37 hv => ?_
 obtain ⟨A39, c40, rfl, hN38⟩ := hv
 have hr29 := hr29.fut hN38.fut
 replace hM := hM.call hN38
 refine va rfl rfl ?_
 refine va rfl rfl ?_
 refine nt hQ34 ?_
 clear hQ34 Q34
 refine KC.ret ?_
 have hE := Option.some.inj hF
 clear hF
 subst hE
 refine KQ.rets Try.results28 (RVs.cons (RV.tm rfl) (RVs.cons (RV.tm rfl) RVs.nil)) ?_
 exact ⟨_, rfl, A20, c21, A39, c40, rfl, hM⟩
set_option maxRecDepth 100000 in
set_option maxHeartbeats 40000000 in
theorem c_bits_Reader_At (w : World) (g2 : Nat) (tg7 : TypeId) (rv1 : T_bits_Reader) (A4 : Option Addr) (c5 : Nat) (hL8 : Lent w [.box g2 tg7 [.slice A4 (rv1.f_b).length c5, vI rv1.f_at], .row A4 c5 5 1 (rv1.f_b).length ((rv1.f_b).flatMap (eI .u8))]) (r : Int × T_bits_Reader) (hF : F_bits_Reader_At rv1 = some r) :
  CallsR Try.prog 29 [.pointer (some ⟨g2, 0, none⟩)] w (fun v w' => ∃ (A0 : Option Addr) (c0 : Nat), v = vI r.1 ∧ Mem w [some g2, rblk A4 c5] w' [.box g2 tg7 [.slice A0 (r.2.f_b).length c0, vI r.2.f_at], .row A0 c0 5 1 r.2.f_b.length (r.2.f_b.flatMap (eI .u8))]) := by
 refine calls_KC Try.func29 rfl Try.ntmps29 rfl ?_
 have hM : Mem w [some g2, rblk A4 c5] w [.box g2 tg7 [.slice A4 (rv1.f_b).length c5, vI rv1.f_at], .row A4 c5 5 1 (rv1.f_b).length ((rv1.f_b).flatMap (eI .u8))] := Mem.lendN hL8
 unfold F_bits_Reader_At at hF
 refine sr fun Q9 hQ9 => ?_
 refine va rfl rfl ?_
 refine nt hQ9 ?_
 clear hQ9 Q9
 refine KC.seqH fun Q10 hQ10 => ?_
 refine sr fun Q11 hQ11 => ?_
 refine vm rfl rfl ?_
 refine RL.val (O.peqn Try.underlying49 rfl rfl) rfl ?_
 refine nt hQ11 ?_
 clear hQ11 Q11
 refine KC.condF rfl ?_
 refine KC.skip ?_
 refine KQ.thn hQ10 ?_
 clear hQ10 Q10
 refine sr fun Q12 hQ12 => ?_
 refine vm rfl rfl ?_
 refine RL.val (O.nilp rfl) rfl ?_
 refine RL.val (O.fldA fl64_1 (by decide) rfl) rfl ?_
 refine RL.val (O.load sc3 rfl (Cs.adds [1] ((hM.bx (i := 0) rfl)) rfl)) rfl ?_
 refine va rfl rfl ?_
 refine nt hQ12 ?_
 clear hQ12 Q12
 refine KC.ret ?_
 have hE := Option.some.inj hF
 clear hF
 subst hE
 refine KQ.rets Try.results29 (RVs.cons (RV.tm rfl) RVs.nil) ?_
 exact ⟨_, rfl, A4, c5, rfl, hM⟩
set_option maxRecDepth 100000 in
set_option maxHeartbeats 40000000 in
theorem c_law01_BitsReads (w : World) (A2 : Option Addr) (c3 : Nat) (b1 : List Int) (hr4 : Rd w A2 c3 1 b1.length (b1.flatMap (eI .u8))) (A6 : Option Addr) (c7 : Nat) (sizes5 : List Int) (hr8 : Rd w A6 c7 1 sizes5.length (sizes5.flatMap (eI .i64))) (r : Bool) (hF : F_law01_BitsReads b1 sizes5 = some r) :
  CallsR Try.prog 6 [.slice A2 (b1).length c3, .slice A6 (sizes5).length c7] w (fun v w' => v = vB r ∧ Mem w [] w' []) := by
 refine calls_KC Try.func6 rfl Try.ntmps6 rfl ?_
 have hM := Mem.init w
 unfold F_law01_BitsReads at hF
 refine sr fun Q9 hQ9 => ?_
 refine va rfl rfl ?_
 refine nt hQ9 ?_
 clear hQ9 Q9
 refine KC.seqH fun Q10 hQ10 => ?_
 refine KC.cut (fun a w12 => ∃ (t11 : Bool), Kn 156 [(0, .slice A2 (b1).length c3), (1, .slice A6 (sizes5).length c7), (27, vB t11)] a ∧ Mem w [] w12 [] ∧ F_law01_BitsReads_j1 b1 sizes5 t11 = some r) ?_ ?_
 ·refine KC.region ?_
  refine vm rfl rfl ?_
  refine RL.val (O.len sl22 rfl) rfl ?_
  refine RL.val (O.gtr rfl rfl) rfl ?_
  refine vm rfl rfl ?_
  refine RL.bcase (t := 23) rfl (fun hc => ?_) (fun hc => ?_)
  ·rw [if_pos hc] at hF
   refine RL.brun1 4 27 true (by kernel_rfl) ?_
   refine RL.nil ?_
   refine KQ.then_k ?_
   exact fun a ha => ⟨true, ha.less (less_cons rfl (less_cons rfl (less_cons rfl less_nil))), hM, hF⟩
  rw [if_neg (ne_true hc)] at hF
  refine RL.gval rfl rfl (O.move rfl) rfl ?_
  refine RL.gval rfl rfl (O.len sl48 rfl) rfl ?_
  refine RL.gval rfl rfl (O.gtr rfl rfl) rfl ?_
  refine RL.val (O.pickf rfl rfl) rfl ?_
  refine RL.nil ?_
  refine KQ.then_k ?_
  exact fun a ha => ⟨(decide (40 < (sizes5.length : Int))), ha.less (less_cons rfl (less_cons rfl (less_cons rfl less_nil))), hM, hF⟩
 rintro a w12 ⟨t11, ha, hM, hF⟩
 refine KC.app ha ?_
 clear ha
 unfold F_law01_BitsReads_j1 at hF
 refine KC.cond rfl (fun hc => ?_) (fun hc => ?_)
 ·rw [if_pos hc] at hF
  refine sr fun Q13 hQ13 => ?_
  refine obindE hF fun y14 hx15 hF => ?_
  refine RL.call Try.func9 bd9 rfl rfl (c_law01_works _ _ hx15) fun v w16 hv => ?_
  obtain ⟨rfl, hN17⟩ := hv
  replace hM := hM.call0 hN17
  refine va rfl rfl ?_
  refine nt hQ13 ?_
  clear hQ13 Q13
  refine KC.ret ?_
  refine KQ.thr hQ10 ?_
  clear hQ10 Q10
  have hE := Option.some.inj hF
  clear hF
  subst hE
  refine KQ.rets Try.results6 (RVs.cons (RV.tm rfl) RVs.nil) ?_
  exact ⟨_, rfl, rfl, hM⟩
 rw [if_neg (ne_true hc)] at hF
 refine KC.skip ?_
 refine KQ.thn hQ10 ?_
 clear hQ10 Q10
 refine sr fun Q18 hQ18 => ?_
 refine vm rfl rfl ?_
 refine obindE hF fun y19 hx20 hF => ?_
 refine RL.call Try.func18 bd18 rfl rfl (c_ref01_Join _ none 0 [] Rd.nilr _ _ b1 (hM.inp hr4 Off.nil) _ hx20) fun v w21 hv => ?_
 obtain ⟨A23, c24, rfl, hN22⟩ := hv
 replace hM := hM.call hN22
 refine va rfl rfl ?_
 refine nt hQ18 ?_
 clear hQ18 Q18
 refine sr fun Q26 hQ26 => ?_
 refine vm rfl rfl ?_
 refine obindE hF fun y27 hx28 hF => ?_
 refine RL.call Try.func25 bd25 rfl rfl (c_bits_Read _ _ _ y19 (hM.rd (i := 0) rfl) _ hx28) fun v w29 hv => ?_
 obtain ⟨g31, A33, c34, rfl, hN30⟩ := hv
 replace hM := hM.call hN30
 refine va rfl rfl ?_
 refine nt hQ26 ?_
 clear hQ26 Q26
 refine KC.seqH fun Q36 hQ36 => ?_
 refine sr fun Q37 hQ37 => ?_
 refine va rfl rfl ?_
 refine nt hQ37 ?_
 clear hQ37 Q37
 refine KC.block ?_
 refine KC.loop (fun k76 a w74 => ∃ (A68 : Option Addr) (c69 : Nat) (own70 : List Int) (kv73 : Int), Kn 156 [(0, .slice A2 (b1).length c3), (1, .slice A6 (sizes5).length c7), (5, .slice A68 (own70).length c69), (6, .pointer (some ⟨g31, 0, none⟩)), (7, vI kv73)] a ∧ Mem w [] w74 [.row A68 c69 5 1 (own70).length ((own70).flatMap (eI .u8)), .row A33 c34 5 1 (y27.f_b).length ((y27.f_b).flatMap (eI .u8)), .box g31 64 [.slice A33 (y27.f_b).length c34, vI y27.f_at]] ∧ F_law01_BitsReads_L1 b1 sizes5 y27 k76 own70 kv73 = some r) ?_ ?_
 ·replace hM := hM.pick [0, 2, 1] rfl (by decide)
  exact fun a ha => ⟨fuel0, A23, c24, y19, 0, ha.less (less_cons rfl (less_cons rfl (less_cons rfl (less_cons rfl (less_cons rfl less_nil))))), hM, hF⟩
 rintro k76 a w74 ⟨A68, c69, own70, kv73, ha, hM, hF⟩
 refine KC.app ha ?_
 clear ha
 cases k76 with
 | zero => exact (none_some hF).elim
 | succ k76 =>
 have hF : F_law01_BitsReads_l1 (F_law01_BitsReads_L1 b1 sizes5 y27 k76) b1 sizes5 y27 own70 kv73 = some r := hF
 unfold F_law01_BitsReads_l1 at hF
 refine KC.seqH fun Q77 hQ77 => ?_
 refine sr fun Q78 hQ78 => ?_
 refine vm rfl rfl ?_
 refine vm rfl rfl ?_
 refine RL.val (O.len sl22 rfl) rfl ?_
 refine RL.val (O.lss rfl rfl) rfl ?_
 refine nt hQ78 ?_
 clear hQ78 Q78
 refine KC.cond rfl (fun hc => ?_) (fun hc => ?_)
 ·rw [if_pos hc] at hF
  refine KC.skip ?_
  refine KQ.thn hQ77 ?_
  clear hQ77 Q77
  refine KC.seqH fun Q79 hQ79 => ?_
  refine KC.block ?_
  refine KC.region ?_
  refine vm rfl rfl ?_
  refine vm rfl rfl ?_
  refine obindE hF fun xv82 hx81 hF => ?_
  have hA80 := Rd.atN (f := (eI .u8)) (s := 1) (fun _ => rfl) (by decide) (hM.rd (i := 0) rfl) hx81
  refine RL.val (O.idxA sl22 (hA80) rfl rfl) rfl ?_
  refine RL.val (O.load sc5 rfl (hA80).cells.at0) rfl ?_
  refine RL.val (O.add rfl rfl) rfl ?_
  refine obindE hF fun xv85 hx84 hF => ?_
  have hA83 := Rd.atN (f := (eI .u8)) (s := 1) (fun _ => rfl) (by decide) (hM.rd (i := 0) rfl) hx84
  refine RL.val (O.idxA sl22 (hA83) rfl rfl) rfl ?_
  refine RL.effs (E.stR (enc := (eI .u8)) (j := 0) (off := 0) (vs := [v8 (IntKind.u8.wrap (xv82 + 1))]) (x' := (IntKind.u8.wrap (xv82 + 1))) hM rfl (fun _ => rfl) hx84 sz5 rfl (addsR_eq [] rfl) rfl rfl (One.all rfl) rfl rfl) fun w86 hM1 => ?_
  clear hM
  obtain ⟨hM, hn87⟩ := hM1
  refine RL.reslot (t := 5) rfl hn87 ?_
  refine RL.reslot (t := 39) rfl hn87 ?_
  refine RL.nil ?_
  refine KQ.blk_n ?_
  refine KQ.thn hQ79 ?_
  clear hQ79 Q79
  refine KC.region ?_
  refine vm rfl rfl ?_
  refine RL.val (O.add rfl rfl) rfl ?_
  refine va rfl rfl ?_
  refine RL.nil ?_
  refine KQ.then_k ?_
  exact fun a ha => ⟨k76, Nat.lt_succ_self k76, A68, c69, (own70.set (kv73 : Int).toNat (IntKind.u8.wrap (xv82 + 1))), (IntKind.i64.wrap (kv73 + 1)), ha.less (less_cons rfl (less_cons rfl (less_cons rfl (less_cons rfl (less_cons rfl less_nil))))), hM, hF⟩
 rw [if_neg (ne_true hc)] at hF
 refine KC.exit ?_
 refine KQ.thx hQ77 ?_
 clear hQ77 Q77
 refine KQ.then_x ?_
 refine KQ.blk_x ?_
 refine KQ.thn hQ36 ?_
 clear hQ36 Q36
 refine sr fun Q88 hQ88 => ?_
 refine va rfl rfl ?_
 refine nt hQ88 ?_
 clear hQ88 Q88
 refine KC.seqH fun Q89 hQ89 => ?_
 refine sr fun Q90 hQ90 => ?_
 refine va rfl rfl ?_
 refine nt hQ90 ?_
 clear hQ90 Q90
 refine KC.block ?_
 refine KC.loop (fun k413 a w411 => ∃ (A405 : Option Addr) (c406 : Nat) (rv407 : List Int) (rv408 : Int) (atv409 : Int) (i410 : Int), Kn 156 [(0, .slice A2 (b1).length c3), (1, .slice A6 (sizes5).length c7), (6, .pointer (some ⟨g31, 0, none⟩)), (8, vI atv409), (9, vI i410)] a ∧ Mem w [] w411 [.row A405 c406 5 1 (rv407).length ((rv407).flatMap (eI .u8)), .box g31 64 [.slice A405 (rv407).length c406, vI rv408]] ∧ F_law01_BitsReads_L2 b1 sizes5 k413 rv407 rv408 atv409 i410 = some r) ?_ ?_
 ·replace hM := hM.pick [1, 2] rfl (by decide)
  exact fun a ha => ⟨fuel0, A33, c34, y27.f_b, y27.f_at, 0, 0, ha.less (less_cons rfl (less_cons rfl (less_cons rfl (less_cons rfl (less_cons rfl less_nil))))), hM, hF⟩
 rintro k413 a w411 ⟨A405, c406, rv407, rv408, atv409, i410, ha, hM, hF⟩
 refine KC.app ha ?_
 clear ha
 cases k413 with
 | zero => exact (none_some hF).elim
 | succ k413 =>
 have hF : F_law01_BitsReads_l2 (F_law01_BitsReads_L2 b1 sizes5 k413) b1 sizes5 rv407 rv408 atv409 i410 = some r := hF
 unfold F_law01_BitsReads_l2 at hF
 refine KC.seqH fun Q414 hQ414 => ?_
 refine sr fun Q415 hQ415 => ?_
 refine vm rfl rfl ?_
 refine vm rfl rfl ?_
 refine RL.val (O.len sl48 rfl) rfl ?_
 refine RL.val (O.lss rfl rfl) rfl ?_
 refine nt hQ415 ?_
 clear hQ415 Q415
 refine KC.cond rfl (fun hc => ?_) (fun hc => ?_)
 ·rw [if_pos hc] at hF
  refine KC.skip ?_
  refine KQ.thn hQ414 ?_
  clear hQ414 Q414
  refine KC.seqH fun Q416 hQ416 => ?_
  refine KC.block ?_
  refine sr fun Q417 hQ417 => ?_
  refine vm rfl rfl ?_
  refine vm rfl rfl ?_
  refine obindE hF fun xv420 hx419 hF => ?_
  have hA418 := Rd.atN (f := (eI .i64)) (s := 1) (fun _ => rfl) (by decide) (hM.inp hr8 Off.nil) hx419
  refine RL.val (O.idxA sl48 (hA418) rfl rfl) rfl ?_
  refine RL.val (O.load sc3 rfl (hA418).cells.at0) rfl ?_
  refine va rfl rfl ?_
  refine nt hQ417 ?_
  clear hQ417 Q417
  refine KC.cut (fun a w542 => ∃ (A537 : Option Addr) (c538 : Nat) (rv539 : List Int) (rv540 : Int) (atv541 : Int), Kn 156 [(0, .slice A2 (b1).length c3), (1, .slice A6 (sizes5).length c7), (6, .pointer (some ⟨g31, 0, none⟩)), (8, vI atv541), (9, vI i410)] a ∧ Mem w [] w542 [.row A537 c538 5 1 (rv539).length ((rv539).flatMap (eI .u8)), .box g31 64 [.slice A537 (rv539).length c538, vI rv540]] ∧ F_law01_BitsReads_j2 b1 i410 (F_law01_BitsReads_L2 b1 sizes5 k413) rv539 rv540 atv541 = some r) ?_ ?_
  ·refine sr fun Q421 hQ421 => ?_
   refine vm rfl rfl ?_
   refine RL.val (O.lss rfl rfl) rfl ?_
   refine nt hQ421 ?_
   clear hQ421 Q421
   refine KC.cond rfl (fun hc => ?_) (fun hc => ?_)
   ·rw [if_pos hc] at hF
    refine sr fun Q422 hQ422 => ?_
    refine vm rfl rfl ?_
    refine RL.val (O.sub rfl rfl) rfl ?_
    refine va rfl rfl ?_
    refine nt hQ422 ?_
    clear hQ422 Q422
    refine sr fun Q423 hQ423 => ?_
    refine vm rfl rfl ?_
    refine vm rfl rfl ?_
    refine obindE hF fun y424 hx425 hF => ?_
    refine RL.call Try.func28 bd28 rfl rfl (c_bits_Reader_Take _ _ _ (T_bits_Reader.mk rv407 rv408) _ _ (hM.lent [1, 0] rfl (by decide)) (IntKind.i64.wrap ((-10) - xv420)) _ hx425) fun v w426 hv => ?_
    obtain ⟨A428, c429, A431, c432, rfl, hN427⟩ := hv
    replace hM := hM.callL [1, 0] [] rfl rfl (by decide) rfl hN427
    refine vm rfl rfl ?_
    refine RL.val (O.ext rfl rfl) rfl ?_
    refine RL.val (O.ext rfl rfl) rfl ?_
    refine va rfl rfl ?_
    refine va rfl rfl ?_
    refine nt hQ423 ?_
    clear hQ423 Q423
    refine KC.cut (fun a w463 => ∃ (atv461 : Int), Kn 156 [(0, .slice A2 (b1).length c3), (1, .slice A6 (sizes5).length c7), (6, .pointer (some ⟨g31, 0, none⟩)), (8, vI atv461), (9, vI i410), (11, .slice A431 (y424.1).length c432)] a ∧ Mem w [] w463 [.row A428 c429 5 1 (y424.2.2.f_b).length ((y424.2.2.f_b).flatMap (eI .u8)), .box g31 64 [.slice A428 (y424.2.2.f_b).length c429, vI y424.2.2.f_at], .row A431 c432 5 1 (y424.1).length ((y424.1).flatMap (eI .u8))] ∧ F_law01_BitsReads_j4 b1 i410 (F_law01_BitsReads_L2 b1 sizes5 k413) y424 atv461 = some r) ?_ ?_
    ·refine KC.block ?_
     refine sr fun Q434 hQ434 => ?_
     refine vm rfl rfl ?_
     refine vm rfl rfl ?_
     refine RL.val (O.len sl22 rfl) rfl ?_
     refine vm rfl rfl ?_
     refine RL.val (O.sub rfl rfl) rfl ?_
     refine RL.val (O.gtr rfl rfl) rfl ?_
     refine va rfl rfl ?_
     refine nt hQ434 ?_
     clear hQ434 Q434
     refine KC.cond rfl (fun hc => ?_) (fun hc => ?_)
     ·rw [if_pos hc] at hF
      refine KC.cut (fun a w439 => ∃ (t438 : Bool), Kn 156 [(0, .slice A2 (b1).length c3), (1, .slice A6 (sizes5).length c7), (6, .pointer (some ⟨g31, 0, none⟩)), (8, vI atv409), (9, vI i410), (11, .slice A431 (y424.1).length c432), (94, vB t438)] a ∧ Mem w [] w439 [.row A428 c429 5 1 (y424.2.2.f_b).length ((y424.2.2.f_b).flatMap (eI .u8)), .box g31 64 [.slice A428 (y424.2.2.f_b).length c429, vI y424.2.2.f_at], .row A431 c432 5 1 (y424.1).length ((y424.1).flatMap (eI .u8))] ∧ F_law01_BitsReads_j5 b1 atv409 i410 (F_law01_BitsReads_L2 b1 sizes5 k413) y424 t438 = some r) ?_ ?_
      ·refine KC.region ?_
       refine vm rfl rfl ?_
       refine RL.val (O.neq rfl rfl) rfl ?_
       refine vm rfl rfl ?_
       refine RL.bcase (t := 90) rfl (fun hc => ?_) (fun hc => ?_)
       ·rw [if_pos hc] at hF
        refine RL.gskip rfl rfl rfl rfl ?_
        refine RL.gskip rfl rfl rfl rfl ?_
        refine RL.gskip rfl rfl rfl rfl ?_
        refine RL.val (O.pickt rfl rfl) rfl ?_
        refine RL.nil ?_
        refine KQ.then_k ?_
        replace hM := hM.pick [1, 0, 2] rfl (by decide)
        exact fun a ha => ⟨true, ha.less (less_cons rfl (less_cons rfl (less_cons rfl (less_cons rfl (less_cons rfl (less_cons rfl (less_cons rfl less_nil))))))), hM, hF⟩
       rw [if_neg (ne_true hc)] at hF
       refine RL.gval rfl rfl (O.move rfl) rfl ?_
       refine RL.gval rfl rfl (O.len sl22 rfl) rfl ?_
       refine RL.gval rfl rfl (O.gtr rfl rfl) rfl ?_
       refine RL.val (O.pickf rfl rfl) rfl ?_
       refine RL.nil ?_
       refine KQ.then_k ?_
       replace hM := hM.pick [1, 0, 2] rfl (by decide)
       exact fun a ha => ⟨(decide (0 < (y424.1.length : Int))), ha.less (less_cons rfl (less_cons rfl (less_cons rfl (less_cons rfl (less_cons rfl (less_cons rfl (less_cons rfl less_nil))))))), hM, hF⟩
      rintro a w439 ⟨t438, ha, hM, hF⟩
      refine KC.app ha ?_
      clear ha
      unfold F_law01_BitsReads_j5 at hF
      refine KC.cond rfl (fun hc => ?_) (fun hc => ?_)
      ·rw [if_pos hc] at hF
       refine sr fun Q440 hQ440 => ?_
       refine va rfl rfl ?_
       refine nt hQ440 ?_
       clear hQ440 Q440
       refine KC.ret ?_
       refine KQ.blk_r ?_
       refine KQ.then_r ?_
       refine KQ.then_r ?_
       refine KQ.blk_r ?_
       refine KQ.thr hQ416 ?_
       clear hQ416 Q416
       refine KQ.then_r ?_
       refine KQ.blk_r ?_
       refine KQ.thr hQ89 ?_
       clear hQ89 Q89
       have hE := Option.some.inj hF
       clear hF
       subst hE
       replace hM := hM.pick [] rfl (by decide)
       refine KQ.rets Try.results6 (RVs.cons (RV.tm rfl) RVs.nil) ?_
       exact ⟨_, rfl, rfl, hM⟩
      rw [if_neg (ne_true hc)] at hF
      refine KC.skip ?_
      refine KQ.blk_n ?_
      refine KQ.then_k ?_
      exact fun a ha => ⟨atv409, ha.less (less_cons rfl (less_cons rfl (less_cons rfl (less_cons rfl (less_cons rfl (less_cons rfl less_nil)))))), hM, hF⟩
     rw [if_neg (ne_true hc)] at hF
     refine KC.seqH fun Q441 hQ441 => ?_
     refine KC.cut (fun a w457 => ∃ (t456 : Bool), Kn 156 [(0, .slice A2 (b1).length c3), (1, .slice A6 (sizes5).length c7), (6, .pointer (some ⟨g31, 0, none⟩)), (8, vI atv409), (9, vI i410), (10, vI (IntKind.i64.wrap ((-10) - xv420))), (11, .slice A431 (y424.1).length c432), (77, vB t456)] a ∧ Mem w [] w457 [.row A428 c429 5 1 (y424.2.2.f_b).length ((y424.2.2.f_b).flatMap (eI .u8)), .box g31 64 [.slice A428 (y424.2.2.f_b).length c429, vI y424.2.2.f_at], .row A431 c432 5 1 (y424.1).length ((y424.1).flatMap (eI .u8))] ∧ F_law01_BitsReads_j6 b1 atv409 i410 (F_law01_BitsReads_L2 b1 sizes5 k413) xv420 y424 t456 = some r) ?_ ?_
     ·refine KC.region ?_
      refine vm rfl rfl ?_
      refine RL.val (O.neq rfl rfl) rfl ?_
      refine vm rfl rfl ?_
      refine RL.bcase (t := 67) rfl (fun hc => ?_) (fun hc => ?_)
      ·rw [if_pos hc] at hF
       refine RL.gskip rfl rfl rfl rfl ?_
       refine RL.gskip rfl rfl rfl rfl ?_
       refine RL.gskip rfl rfl rfl rfl ?_
       refine RL.gskip rfl rfl rfl rfl ?_
       refine RL.gskip rfl rfl rfl rfl ?_
       refine RL.gskip rfl rfl rfl rfl ?_
       refine RL.gskip rfl rfl rfl rfl ?_
       refine RL.gskip rfl rfl rfl rfl ?_
       refine RL.gskip rfl rfl rfl rfl ?_
       refine RL.val (O.pickt rfl rfl) rfl ?_
       refine RL.nil ?_
       refine KQ.then_k ?_
       replace hM := hM.pick [1, 0, 2] rfl (by decide)
       exact fun a ha => ⟨true, ha.less (less_cons rfl (less_cons rfl (less_cons rfl (less_cons rfl (less_cons rfl (less_cons rfl (less_cons rfl (less_cons rfl less_nil)))))))), hM, hF⟩
      rw [if_neg (ne_true hc)] at hF
      refine RL.gval rfl rfl (O.move rfl) rfl ?_
      refine RL.gval rfl rfl (O.move rfl) rfl ?_
      refine RL.gval rfl rfl (O.move rfl) rfl ?_
      refine RL.gval rfl rfl (O.move rfl) rfl ?_
      refine RL.gval rfl rfl (O.move rfl) rfl ?_
      refine RL.gval rfl rfl (O.add rfl rfl) rfl ?_
      refine obindE hF fun cut442 hy443 hF => ?_
      refine cutNE A2 c3 (Int.toNat atv409) 1 fun A444 c445 eA447 ec448 => ?_
      have hr446 := Rd.cutT (enc := (eI .u8)) (s := 1) (fun _ => rfl) hr4 hy443 (m := c3) (by have := hr4.cap; have := (gcut_some hy443).2.2.1; omega) (Nat.le_refl _)
      rw [← eA447, ← ec448] at hr446
      refine RL.gval (v := .slice A444 (cut442).length c445) rfl rfl (by rw [eA447, ec448]; exact O.cutT sl22 (hM.inp hr4 Off.nil) hy443 rfl rfl rfl) rfl ?_
      refine obindE hF fun y449 hx450 hF => ?_
      refine RL.gcall rfl rfl Try.func23 bd23 rfl rfl (c_ref01_Same _ _ _ y424.1 (hM.rd (i := 2) rfl) _ _ cut442 (hM.inp hr446 Off.nil) _ hx450) fun v w451 hv => ?_
      obtain ⟨rfl, hN452⟩ := hv
      replace hM := hM.call0 hN452
      refine RL.gval rfl rfl (O.not rfl) rfl ?_
      refine RL.val (O.pickf rfl rfl) rfl ?_
      refine RL.nil ?_
      refine KQ.then_k ?_
      replace hM := hM.pick [1, 0, 2] rfl (by decide)
      exact fun a ha => ⟨(!y449), ha.less (less_cons rfl (less_cons rfl (less_cons rfl (less_cons rfl (less_cons rfl (less_cons rfl (less_cons rfl (less_cons rfl less_nil)))))))), hM, hF⟩
     rintro a w457 ⟨t456, ha, hM, hF⟩
     refine KC.app ha ?_
     clear ha
     unfold F_law01_BitsReads_j6 at hF
     refine KC.cond rfl (fun hc => ?_) (fun hc => ?_)
     ·rw [if_pos hc] at hF
      refine sr fun Q458 hQ458 => ?_
      refine va rfl rfl ?_
      refine nt hQ458 ?_
      clear hQ458 Q458
      refine KC.ret ?_
      refine KQ.thr hQ441 ?_
      clear hQ441 Q441
      refine KQ.blk_r ?_
      refine KQ.then_r ?_
      refine KQ.then_r ?_
      refine KQ.blk_r ?_
      refine KQ.thr hQ416 ?_
      clear hQ416 Q416
      refine KQ.then_r ?_
      refine KQ.blk_r ?_
      refine KQ.thr hQ89 ?_
      clear hQ89 Q89
      have hE := Option.some.inj hF
      clear hF
      subst hE
      replace hM := hM.pick [] rfl (by decide)
      refine KQ.rets Try.results6 (RVs.cons (RV.tm rfl) RVs.nil) ?_
      exact ⟨_, rfl, rfl, hM⟩
     rw [if_neg (ne_true hc)] at hF
     refine KC.skip ?_
     refine KQ.thn hQ441 ?_
     clear hQ441 Q441
     refine KC.region ?_
     refine vm rfl rfl ?_
     refine vm rfl rfl ?_
     refine RL.val (O.add rfl rfl) rfl ?_
     refine va rfl rfl ?_
     refine RL.nil ?_
     refine KQ.blk_n ?_
     refine KQ.then_k ?_
     exact fun a ha => ⟨(IntKind.i64.wrap (atv409 + (IntKind.i64.wrap ((-10) - xv420)))), ha.less (less_cons rfl (less_cons rfl (less_cons rfl (less_cons rfl (less_cons rfl (less_cons rfl less_nil)))))), hM, hF⟩
    rintro a w463 ⟨atv461, ha, hM, hF⟩
    refine KC.app ha ?_
    clear ha
    unfold F_law01_BitsReads_j4 at hF
    refine sr fun Q464 hQ464 => ?_
    refine va rfl rfl ?_
    refine nt hQ464 ?_
    clear hQ464 Q464
    refine KC.block ?_
    refine KC.loop (fun k503 a w501 => ∃ (A497 : Option Addr) (c498 : Nat) (lv499 : List Int) (kv500 : Int), Kn 156 [(0, .slice A2 (b1).length c3), (1, .slice A6 (sizes5).length c7), (6, .pointer (some ⟨g31, 0, none⟩)), (8, vI atv461), (9, vI i410), (11, .slice A497 (lv499).length c498), (13, vI kv500)] a ∧ Mem w [] w501 [.row A428 c429 5 1 (y424.2.2.f_b).length ((y424.2.2.f_b).flatMap (eI .u8)), .box g31 64 [.slice A428 (y424.2.2.f_b).length c429, vI y424.2.2.f_at], .row A497 c498 5 1 (lv499).length ((lv499).flatMap (eI .u8))] ∧ F_law01_BitsReads_L3 b1 i410 (F_law01_BitsReads_L2 b1 sizes5 k413) y424 atv461 k503 lv499 kv500 = some r) ?_ ?_
    ·exact fun a ha => ⟨fuel0, A431, c432, y424.1, 0, ha.less (less_cons rfl (less_cons rfl (less_cons rfl (less_cons rfl (less_cons rfl (less_cons rfl (less_cons rfl less_nil))))))), hM, hF⟩
    rintro k503 a w501 ⟨A497, c498, lv499, kv500, ha, hM, hF⟩
    refine KC.app ha ?_
    clear ha
    cases k503 with
    | zero => exact (none_some hF).elim
    | succ k503 =>
    have hF : F_law01_BitsReads_l3 (F_law01_BitsReads_L3 b1 i410 (F_law01_BitsReads_L2 b1 sizes5 k413) y424 atv461 k503) b1 i410 (F_law01_BitsReads_L2 b1 sizes5 k413) y424 atv461 lv499 kv500 = some r := hF
    unfold F_law01_BitsReads_l3 at hF
    refine KC.seqH fun Q504 hQ504 => ?_
    refine sr fun Q505 hQ505 => ?_
    refine vm rfl rfl ?_
    refine vm rfl rfl ?_
    refine RL.val (O.len sl22 rfl) rfl ?_
    refine RL.val (O.lss rfl rfl) rfl ?_
    refine nt hQ505 ?_
    clear hQ505 Q505
    refine KC.cond rfl (fun hc => ?_) (fun hc => ?_)
    ·rw [if_pos hc] at hF
     refine KC.skip ?_
     refine KQ.thn hQ504 ?_
     clear hQ504 Q504
     refine KC.seqH fun Q506 hQ506 => ?_
     refine KC.block ?_
     refine KC.region ?_
     refine vm rfl rfl ?_
     refine vm rfl rfl ?_
     refine obindE hF fun xv509 hx508 hF => ?_
     have hA507 := Rd.atN (f := (eI .u8)) (s := 1) (fun _ => rfl) (by decide) (hM.rd (i := 2) rfl) hx508
     refine RL.val (O.idxA sl22 (hA507) rfl rfl) rfl ?_
     refine RL.val (O.load sc5 rfl (hA507).cells.at0) rfl ?_
     refine RL.val (O.add rfl rfl) rfl ?_
     refine obindE hF fun xv512 hx511 hF => ?_
     have hA510 := Rd.atN (f := (eI .u8)) (s := 1) (fun _ => rfl) (by decide) (hM.rd (i := 2) rfl) hx511
     refine RL.val (O.idxA sl22 (hA510) rfl rfl) rfl ?_
     refine RL.effs (E.stR (enc := (eI .u8)) (j := 2) (off := 0) (vs := [v8 (IntKind.u8.wrap (xv509 + 1))]) (x' := (IntKind.u8.wrap (xv509 + 1))) hM rfl (fun _ => rfl) hx511 sz5 rfl (addsR_eq [] rfl) rfl rfl (One.all rfl) rfl rfl) fun w513 hM1 => ?_
     clear hM
     obtain ⟨hM, hn514⟩ := hM1
     refine RL.reslot (t := 11) rfl hn514 ?_
     refine RL.reslot (t := 101) rfl hn514 ?_
     refine RL.nil ?_
     refine KQ.blk_n ?_
     refine KQ.thn hQ506 ?_
     clear hQ506 Q506
     refine KC.region ?_
     refine vm rfl rfl ?_
     refine RL.val (O.add rfl rfl) rfl ?_
     refine va rfl rfl ?_
     refine RL.nil ?_
     refine KQ.then_k ?_
     exact fun a ha => ⟨k503, Nat.lt_succ_self k503, A497, c498, (lv499.set (kv500 : Int).toNat (IntKind.u8.wrap (xv509 + 1))), (IntKind.i64.wrap (kv500 + 1)), ha.less (less_cons rfl (less_cons rfl (less_cons rfl (less_cons rfl (less_cons rfl (less_cons rfl (less_cons rfl less_nil))))))), hM, hF⟩
    rw [if_neg (ne_true hc)] at hF
    refine KC.exit ?_
    refine KQ.thx hQ504 ?_
    clear hQ504 Q504
    refine KQ.then_x ?_
    refine KQ.blk_x ?_
    refine KQ.then_k ?_
    replace hM := hM.pick [0, 1] rfl (by decide)
    exact fun a ha => ⟨A428, c429, y424.2.2.f_b, y424.2.2.f_at, atv461, ha.less (less_cons rfl (less_cons rfl (less_cons rfl (less_cons rfl (less_cons rfl less_nil))))), hM, hF⟩
   rw [if_neg (ne_true hc)] at hF
   refine sr fun Q515 hQ515 => ?_
   refine vm rfl rfl ?_
   refine vm rfl rfl ?_
   refine obindE hF fun y516 hx517 hF => ?_
   refine RL.call Try.func26 bd26 rfl rfl (c_bits_Reader_Get _ _ _ (T_bits_Reader.mk rv407 rv408) _ _ (hM.lent [1, 0] rfl (by decide)) xv420 _ hx517) fun v w518 hv => ?_
   obtain ⟨A520, c521, rfl, hN519⟩ := hv
   replace hM := hM.callL [1, 0] [] rfl rfl (by decide) rfl hN519
   refine vm rfl rfl ?_
   refine RL.val (O.ext rfl rfl) rfl ?_
   refine RL.val (O.ext rfl rfl) rfl ?_
   refine va rfl rfl ?_
   refine va rfl rfl ?_
   refine nt hQ515 ?_
   clear hQ515 Q515
   refine sr fun Q523 hQ523 => ?_
   refine vm rfl rfl ?_
   refine vm rfl rfl ?_
   refine vm rfl rfl ?_
   refine obindE hF fun y524 hx525 hF => ?_
   refine RL.call Try.func11 bd11 rfl rfl (c_ref01_Get _ _ _ b1 (hM.inp hr4 Off.nil) atv409 xv420 _ hx525) fun v w526 hv => ?_
   obtain ⟨rfl, hN527⟩ := hv
   replace hM := hM.call0 hN527
   refine vm rfl rfl ?_
   refine RL.val (O.ext rfl rfl) rfl ?_
   refine RL.val (O.ext rfl rfl) rfl ?_
   refine va rfl rfl ?_
   refine va rfl rfl ?_
   refine nt hQ523 ?_
   clear hQ523 Q523
   refine KC.seqH fun Q528 hQ528 => ?_
   refine KC.cut (fun a w532 => ∃ (t531 : Bool), Kn 156 [(0, .slice A2 (b1).length c3), (1, .slice A6 (sizes5).length c7), (6, .pointer (some ⟨g31, 0, none⟩)), (8, vI atv409), (9, vI i410), (10, vI xv420), (15, vI y516.2.1), (127, vB t531)] a ∧ Mem w [] w532 [.row A520 c521 5 1 (y516.2.2.f_b).length ((y516.2.2.f_b).flatMap (eI .u8)), .box g31 64 [.slice A520 (y516.2.2.f_b).length c521, vI y516.2.2.f_at]] ∧ F_law01_BitsReads_j7 b1 atv409 i410 (F_law01_BitsReads_L2 b1 sizes5 k413) xv420 y516 t531 = some r) ?_ ?_
   ·refine KC.region ?_
    refine vm rfl rfl ?_
    refine vm rfl rfl ?_
    refine RL.val (O.neq rfl rfl) rfl ?_
    refine vm rfl rfl ?_
    refine RL.bcase (t := 123) rfl (fun hc => ?_) (fun hc => ?_)
    ·rw [if_pos hc] at hF
     refine RL.gskip rfl rfl rfl rfl ?_
     refine RL.gskip rfl rfl rfl rfl ?_
     refine RL.gskip rfl rfl rfl rfl ?_
     refine RL.val (O.pickt rfl rfl) rfl ?_
     refine RL.nil ?_
     refine KQ.then_k ?_
     replace hM := hM.pick [1, 0] rfl (by decide)
     exact fun a ha => ⟨true, ha.less (less_cons rfl (less_cons rfl (less_cons rfl (less_cons rfl (less_cons rfl (less_cons rfl (less_cons rfl (less_cons rfl less_nil)))))))), hM, hF⟩
    rw [if_neg (ne_true hc)] at hF
    refine RL.gval rfl rfl (O.move rfl) rfl ?_
    refine RL.gval rfl rfl (O.move rfl) rfl ?_
    refine RL.gval rfl rfl (O.neq rfl rfl) rfl ?_
    refine RL.val (O.pickf rfl rfl) rfl ?_
    refine RL.nil ?_
    refine KQ.then_k ?_
    replace hM := hM.pick [1, 0] rfl (by decide)
    exact fun a ha => ⟨(y516.2.1 != y524.2), ha.less (less_cons rfl (less_cons rfl (less_cons rfl (less_cons rfl (less_cons rfl (less_cons rfl (less_cons rfl (less_cons rfl less_nil)))))))), hM, hF⟩
   rintro a w532 ⟨t531, ha, hM, hF⟩
   refine KC.app ha ?_
   clear ha
   unfold F_law01_BitsReads_j7 at hF
   refine KC.cond rfl (fun hc => ?_) (fun hc => ?_)
   ·rw [if_pos hc] at hF
    refine sr fun Q533 hQ533 => ?_
    refine va rfl rfl ?_
    refine nt hQ533 ?_
    clear hQ533 Q533
    refine KC.ret ?_
    refine KQ.thr hQ528 ?_
    clear hQ528 Q528
    refine KQ.then_r ?_
    refine KQ.blk_r ?_
    refine KQ.thr hQ416 ?_
    clear hQ416 Q416
    refine KQ.then_r ?_
    refine KQ.blk_r ?_
    refine KQ.thr hQ89 ?_
    clear hQ89 Q89
    have hE := Option.some.inj hF
    clear hF
    subst hE
    replace hM := hM.pick [] rfl (by decide)
    refine KQ.rets Try.results6 (RVs.cons (RV.tm rfl) RVs.nil) ?_
    exact ⟨_, rfl, rfl, hM⟩
   rw [if_neg (ne_true hc)] at hF
   refine KC.skip ?_
   refine KQ.thn hQ528 ?_
   clear hQ528 Q528
   refine sr fun Q534 hQ534 => ?_
   refine vm rfl rfl ?_
   refine RL.val (O.eql rfl rfl) rfl ?_
   refine nt hQ534 ?_
   clear hQ534 Q534
   refine KC.cond rfl (fun hc => ?_) (fun hc => ?_)
   ·rw [if_pos hc] at hF
    refine KC.region ?_
    refine vm rfl rfl ?_
    refine vm rfl rfl ?_
    refine RL.val (O.add rfl rfl) rfl ?_
    refine va rfl rfl ?_
    refine RL.nil ?_
    refine KQ.then_k ?_
    exact fun a ha => ⟨A520, c521, y516.2.2.f_b, y516.2.2.f_at, (IntKind.i64.wrap (atv409 + xv420)), ha.less (less_cons rfl (less_cons rfl (less_cons rfl (less_cons rfl (less_cons rfl less_nil))))), hM, hF⟩
   rw [if_neg (ne_true hc)] at hF
   refine KC.skip ?_
   refine KQ.then_k ?_
   exact fun a ha => ⟨A520, c521, y516.2.2.f_b, y516.2.2.f_at, atv409, ha.less (less_cons rfl (less_cons rfl (less_cons rfl (less_cons rfl (less_cons rfl less_nil))))), hM, hF⟩
  rintro a w542 ⟨A537, c538, rv539, rv540, atv541, ha, hM, hF⟩
  refine KC.app ha ?_
  clear ha
  unfold F_law01_BitsReads_j2 at hF
  refine KC.cut (fun a w564 => ∃ (A559 : Option Addr) (c560 : Nat) (rv561 : List Int) (rv562 : Int) (t563 : Bool), Kn 156 [(0, .slice A2 (b1).length c3), (1, .slice A6 (sizes5).length c7), (6, .pointer (some ⟨g31, 0, none⟩)), (8, vI atv541), (9, vI i410), (145, vB t563)] a ∧ Mem w [] w564 [.row A559 c560 5 1 (rv561).length ((rv561).flatMap (eI .u8)), .box g31 64 [.slice A559 (rv561).length c560, vI rv562]] ∧ F_law01_BitsReads_j3 i410 (F_law01_BitsReads_L2 b1 sizes5 k413) atv541 rv561 rv562 t563 = some r) ?_ ?_
  ·refine KC.region ?_
   refine vm rfl rfl ?_
   refine obindE hF fun y543 hx544 hF => ?_
   refine RL.call Try.func29 bd29 rfl rfl (c_bits_Reader_At _ _ _ (T_bits_Reader.mk rv539 rv540) _ _ (hM.lent [1, 0] rfl (by decide)) _ hx544) fun v w545 hv => ?_
   obtain ⟨A547, c548, rfl, hN546⟩ := hv
   replace hM := hM.callL [1, 0] [] rfl rfl (by decide) rfl hN546
   refine vm rfl rfl ?_
   refine RL.val (O.neq rfl rfl) rfl ?_
   refine vm rfl rfl ?_
   refine RL.bcase (t := 137) rfl (fun hc => ?_) (fun hc => ?_)
   ·rw [if_pos hc] at hF
    refine RL.gskip rfl rfl rfl rfl ?_
    refine RL.gskip rfl rfl rfl rfl ?_
    refine RL.gskip rfl rfl rfl rfl ?_
    refine RL.gskip rfl rfl rfl rfl ?_
    refine RL.gskip rfl rfl rfl rfl ?_
    refine RL.gskip rfl rfl rfl rfl ?_
    refine RL.gskip rfl rfl rfl rfl ?_
    refine RL.val (O.pickt rfl rfl) rfl ?_
    refine RL.nil ?_
    refine KQ.then_k ?_
    replace hM := hM.pick [1, 0] rfl (by decide)
    exact fun a ha => ⟨A547, c548, y543.2.f_b, y543.2.f_at, true, ha.less (less_cons rfl (less_cons rfl (less_cons rfl (less_cons rfl (less_cons rfl (less_cons rfl less_nil)))))), hM, hF⟩
   rw [if_neg (ne_true hc)] at hF
   refine RL.gval rfl rfl (O.move rfl) rfl ?_
   refine obindE hF fun y550 hx551 hF => ?_
   refine RL.gcall rfl rfl Try.func27 bd27 rfl rfl (c_bits_Reader_Left _ _ _ y543.2 _ _ (hM.lent [0, 1] rfl (by decide)) _ hx551) fun v w552 hv => ?_
   obtain ⟨A554, c555, rfl, hN553⟩ := hv
   replace hM := hM.callL [0, 1] [] rfl rfl (by decide) rfl hN553
   refine RL.gval rfl rfl (O.move rfl) rfl ?_
   refine RL.gval rfl rfl (O.len sl22 rfl) rfl ?_
   refine RL.gval rfl rfl (O.move rfl) rfl ?_
   refine RL.gval rfl rfl (O.sub rfl rfl) rfl ?_
   refine RL.gval rfl rfl (O.neq rfl rfl) rfl ?_
   refine RL.val (O.pickf rfl rfl) rfl ?_
   refine RL.nil ?_
   refine KQ.then_k ?_
   replace hM := hM.pick [1, 0] rfl (by decide)
   exact fun a ha => ⟨A554, c555, y550.2.f_b, y550.2.f_at, (y550.1 != (IntKind.i64.wrap ((b1.length : Int) - atv541))), ha.less (less_cons rfl (less_cons rfl (less_cons rfl (less_cons rfl (less_cons rfl (less_cons rfl less_nil)))))), hM, hF⟩
  rintro a w564 ⟨A559, c560, rv561, rv562, t563, ha, hM, hF⟩
  refine KC.app ha ?_
  clear ha
  unfold F_law01_BitsReads_j3 at hF
  refine KC.cond rfl (fun hc => ?_) (fun hc => ?_)
  ·rw [if_pos hc] at hF
   refine sr fun Q565 hQ565 => ?_
   refine va rfl rfl ?_
   refine nt hQ565 ?_
   clear hQ565 Q565
   refine KC.ret ?_
   refine KQ.blk_r ?_
   refine KQ.thr hQ416 ?_
   clear hQ416 Q416
   refine KQ.then_r ?_
   refine KQ.blk_r ?_
   refine KQ.thr hQ89 ?_
   clear hQ89 Q89
   have hE := Option.some.inj hF
   clear hF
   subst hE
   replace hM := hM.pick [] rfl (by decide)
   refine KQ.rets Try.results6 (RVs.cons (RV.tm rfl) RVs.nil) ?_
   exact ⟨_, rfl, rfl, hM⟩
  rw [if_neg (ne_true hc)] at hF
  refine KC.skip ?_
  refine KQ.blk_n ?_
  refine KQ.thn hQ416 ?_
  clear hQ416 Q416
  refine KC.region ?_
  refine vm rfl rfl ?_
  refine RL.val (O.add rfl rfl) rfl ?_
  refine va rfl rfl ?_
  refine RL.nil ?_
  refine KQ.then_k ?_
  exact fun a ha => ⟨k413, Nat.lt_succ_self k413, A559, c560, rv561, rv562, atv541, (IntKind.i64.wrap (i410 + 1)), ha.less (less_cons rfl (less_cons rfl (less_cons rfl (less_cons rfl (less_cons rfl less_nil))))), hM, hF⟩
 rw [if_neg (ne_true hc)] at hF
 refine KC.exit ?_
 refine KQ.thx hQ414 ?_
 clear hQ414 Q414
 refine KQ.then_x ?_
 refine KQ.blk_x ?_
 refine KQ.thn hQ89 ?_
 clear hQ89 Q89
 refine sr fun Q566 hQ566 => ?_
 refine vm rfl rfl ?_
 refine obindE hF fun y567 hx568 hF => ?_
 refine RL.call Try.func28 bd28 rfl rfl (c_bits_Reader_Take _ _ _ (T_bits_Reader.mk rv407 rv408) _ _ (hM.lent [1, 0] rfl (by decide)) (-1) _ hx568) fun v w569 hv => ?_
 obtain ⟨A571, c572, A574, c575, rfl, hN570⟩ := hv
 replace hM := hM.callL [1, 0] [] rfl rfl (by decide) rfl hN570
 refine vm rfl rfl ?_
 refine RL.val (O.ext rfl rfl) rfl ?_
 refine RL.val (O.ext rfl rfl) rfl ?_
 refine va rfl rfl ?_
 refine va rfl rfl ?_
 refine nt hQ566 ?_
 clear hQ566 Q566
 replace hM := hM.pick [] rfl (by decide)
 refine KC.cut (fun a w582 => ∃ (t581 : Bool), Kn 156 [(4, vB t581)] a ∧ Mem w [] w582 [] ∧ F_law01_BitsReads_j8 t581 = some r) ?_ ?_
 ·refine KC.region ?_
  refine vm rfl rfl ?_
  refine RL.val (O.eql rfl rfl) rfl ?_
  refine vm rfl rfl ?_
  refine RL.bcase (t := 153) rfl (fun hc => ?_) (fun hc => ?_)
  ·rw [if_pos hc] at hF
   refine obindE hF fun y577 hx578 hF => ?_
   refine RL.gcall rfl rfl Try.func9 bd9 rfl rfl (c_law01_works _ _ hx578) fun v w579 hv => ?_
   obtain ⟨rfl, hN580⟩ := hv
   replace hM := hM.call0 hN580
   refine RL.val (O.pickt rfl rfl) rfl ?_
   refine va rfl rfl ?_
   refine RL.nil ?_
   refine KQ.then_k ?_
   exact fun a ha => ⟨y577, ha.less (less_cons rfl less_nil), hM, hF⟩
  rw [if_neg (ne_true hc)] at hF
  refine RL.gskip rfl rfl rfl rfl ?_
  refine RL.val (O.pickf rfl rfl) rfl ?_
  refine va rfl rfl ?_
  refine RL.nil ?_
  refine KQ.then_k ?_
  exact fun a ha => ⟨false, ha.less (less_cons rfl less_nil), hM, hF⟩
 rintro a w582 ⟨t581, ha, hM, hF⟩
 refine KC.app ha ?_
 clear ha
 unfold F_law01_BitsReads_j8 at hF
 refine KC.ret ?_
 have hE := Option.some.inj hF
 clear hF
 subst hE
 refine KQ.rets Try.results6 (RVs.cons (RV.tm rfl) RVs.nil) ?_
 exact ⟨_, rfl, rfl, hM⟩
set_option maxRecDepth 100000 in
set_option maxHeartbeats 40000000 in
theorem c_bits_Reader_Get_N (w : World) (size1 : Int) (r : Int × Int) (hF : F_bits_Reader_Get_N size1 = some r) :
  CallsR Try.prog 26 [.pointer none, vI size1] w (fun v w' => v = .tuple #[v64 r.1, vI r.2] ∧ Mem w [] w' []) := by
 refine calls_KC Try.func26 rfl Try.ntmps26 rfl ?_
 have hM := Mem.init w
 unfold F_bits_Reader_Get_N at hF
 refine sr fun Q2 hQ2 => ?_
 refine va rfl rfl ?_
 refine va rfl rfl ?_
 refine nt hQ2 ?_
 clear hQ2 Q2
 refine KC.seqH fun Q3 hQ3 => ?_
 refine sr fun Q4 hQ4 => ?_
 refine vm rfl rfl ?_
 refine RL.val (O.peqn Try.underlying49 rfl rfl) rfl ?_
 refine nt hQ4 ?_
 clear hQ4 Q4
 refine KC.condT rfl ?_
 refine sr fun Q5 hQ5 => ?_
 refine va rfl rfl ?_
 refine va rfl rfl ?_
 refine nt hQ5 ?_
 clear hQ5 Q5
 refine KC.ret ?_
 refine KQ.thr hQ3 ?_
 clear hQ3 Q3
 have hE := Option.some.inj hF
 clear hF
 subst hE
 refine KQ.rets Try.results26 (RVs.cons (RV.tm rfl) (RVs.cons (RV.tm rfl) RVs.nil)) ?_
 exact ⟨_, rfl, rfl, hM⟩
set_option maxRecDepth 100000 in
set_option maxHeartbeats 40000000 in
theorem c_bits_Reader_Take_N (w : World) (nv1 : Int) (r : (List Int) × Int) (hF : F_bits_Reader_Take_N nv1 = some r) :
  CallsR Try.prog 28 [.pointer none, vI nv1] w (fun v w' => ∃ (A0 : Option Addr) (c0 : Nat), v = .tuple #[.slice A0 (r.1).length c0, vI r.2] ∧ Mem w [] w' [.row A0 c0 5 1 r.1.length (r.1.flatMap (eI .u8))]) := by
 refine calls_KC Try.func28 rfl Try.ntmps28 rfl ?_
 have hM := Mem.init w
 unfold F_bits_Reader_Take_N at hF
 refine sr fun Q2 hQ2 => ?_
 refine va rfl rfl ?_
 refine va rfl rfl ?_
 refine nt hQ2 ?_
 clear hQ2 Q2
 refine KC.seqH fun Q3 hQ3 => ?_
 refine KC.block ?_
 refine sr fun Q4 hQ4 => ?_
 refine vm rfl rfl ?_
 refine RL.val (O.peqn Try.underlying49 rfl rfl) rfl ?_
 refine va rfl rfl ?_
 refine nt hQ4 ?_
 clear hQ4 Q4
 refine KC.condT rfl ?_
 refine sr fun Q5 hQ5 => ?_
 refine va rfl rfl ?_
 refine va rfl rfl ?_
 refine nt hQ5 ?_
 clear hQ5 Q5
 refine KC.ret ?_
 refine KQ.blk_r ?_
 refine KQ.thr hQ3 ?_
 clear hQ3 Q3
 have hE := Option.some.inj hF
 clear hF
 subst hE
 replace hM := hM.nilrow 5 1
 refine KQ.rets Try.results28 (RVs.cons (RV.tm rfl) (RVs.cons (RV.tm rfl) RVs.nil)) ?_
 exact ⟨_, rfl, none, 0, rfl, hM⟩
set_option maxRecDepth 100000 in
set_option maxHeartbeats 40000000 in
theorem c_bits_Writer_Put_N (w : World) (v1 : Int) (size2 : Int) (r : Int) (hF : F_bits_Writer_Put_N v1 size2 = some r) :
  CallsR Try.prog 17 [.pointer none, v64 v1, vI size2] w (fun v w' => v = vI r ∧ Mem w [] w' []) := by
 refine calls_KC Try.func17 rfl Try.ntmps17 rfl ?_
 have hM := Mem.init w
 unfold F_bits_Writer_Put_N at hF
 refine sr fun Q3 hQ3 => ?_
 refine va rfl rfl ?_
 refine nt hQ3 ?_
 clear hQ3 Q3
 refine KC.seqH fun Q4 hQ4 => ?_
 refine sr fun Q5 hQ5 => ?_
 refine vm rfl rfl ?_
 refine RL.val (O.peqn Try.underlying56 rfl rfl) rfl ?_
 refine nt hQ5 ?_
 clear hQ5 Q5
 refine KC.condT rfl ?_
 refine sr fun Q6 hQ6 => ?_
 refine va rfl rfl ?_
 refine nt hQ6 ?_
 clear hQ6 Q6
 refine KC.ret ?_
 refine KQ.thr hQ4 ?_
 clear hQ4 Q4
 have hE := Option.some.inj hF
 clear hF
 subst hE
 refine KQ.rets Try.results17 (RVs.cons (RV.tm rfl) RVs.nil) ?_
 exact ⟨_, rfl, rfl, hM⟩
set_option maxRecDepth 100000 in
set_option maxHeartbeats 40000000 in
theorem c_bits_Writer_Raw_N (w : World) (A2 : Option Addr) (c3 : Nat) (b1 : List Int) (hr4 : Rd w A2 c3 1 b1.length (b1.flatMap (eI .u8))) (r : Int) (hF : F_bits_Writer_Raw_N b1 = some r) :
  CallsR Try.prog 20 [.pointer none, .slice A2 (b1).length c3] w (fun v w' => v = vI r ∧ Mem w [] w' []) := by
 refine calls_KC Try.func20 rfl Try.ntmps20 rfl ?_
 have hM := Mem.init w
 unfold F_bits_Writer_Raw_N at hF
 refine sr fun Q5 hQ5 => ?_
 refine va rfl rfl ?_
 refine nt hQ5 ?_
 clear hQ5 Q5
 refine KC.seqH fun Q6 hQ6 => ?_
 refine sr fun Q7 hQ7 => ?_
 refine vm rfl rfl ?_
 refine RL.val (O.peqn Try.underlying56 rfl rfl) rfl ?_
 refine nt hQ7 ?_
 clear hQ7 Q7
 refine KC.condT rfl ?_
 refine sr fun Q8 hQ8 => ?_
 refine va rfl rfl ?_
 refine nt hQ8 ?_
 clear hQ8 Q8
 refine KC.ret ?_
 refine KQ.thr hQ6 ?_
 clear hQ6 Q6
 have hE := Option.some.inj hF
 clear hF
 subst hE
 refine KQ.rets Try.results20 (RVs.cons (RV.tm rfl) RVs.nil) ?_
 exact ⟨_, rfl, rfl, hM⟩
end Go.Proofs.Ytpbkjellpboefaa
