/- Printed by a program of this claim: each call returns what the plain function of its name gives. -/
import Derived.Test.YtkpnocgfhipidaaGreatW1
import Derived.Test.YtkpnocgfhipidaaGreatW3
import Derived.Test.YtkpnocgfhipidaaGreatW5
import Derived.Test.YtkpnocgfhipidaaGreatW10
import Derived.Test.YtkpnocgfhipidaaGreatW12
import Derived.Test.YtkpnocgfhipidaaGreatSrt
set_option linter.unusedVariables false
set_option maxRecDepth 100000
set_option maxHeartbeats 40000000
namespace Go.Proofs.YtkpnocgfhipidaaGreat
open Go Go.Ox Go.RowKit
theorem ZA (w : World) (A2 : Option Addr) (c3 : Nat) (lv1 : List Xc) (hL10 : Lent w [.row A2 c3 62 44 (lv1).length ((lv1).flatMap Xn)]) (A6 : Option Addr) (c7 : Nat) (rv5 : List Xi) (hr8 : Rd w A6 c7 44 rv5.length (rv5.flatMap Xs)) (ho9 : Off [rblk A2 c3] rv5.length A6) (r : Bool × (List Xc)) (hF : Za lv1 rv5 = some r) :
  CallsR Tryz.prog 23 [.slice A2 (lv1).length c3, .slice A6 (rv5).length c7] w (fun v w' => v = vB r.1 ∧ (lv1.length = r.2.length) ∧ Mem w [rblk A2 c3] w' [.row A2 c3 62 44 r.2.length (r.2.flatMap Xn)]) := by
 refine XJ Tryz.func23 rfl Tryz.ntmps23 rfl ?_
 have hM : Mem w [rblk A2 c3] w [.row A2 c3 62 44 (lv1).length ((lv1).flatMap Xn)] := Mem.lendN hL10
 unfold Za at hF
 refine sr fun Q11 hQ11 => ?_
 refine va rfl rfl (nt hQ11 ?_)
 refine KC.seqH fun Q12 hQ12 => ?_
 refine sr fun Q13 hQ13 => ?_
 refine vm rfl rfl (RL.val (O.len sl55 rfl) rfl (vm rfl rfl (RL.val (O.len sl70 rfl) rfl (RL.val (O.neq rfl rfl) rfl (nt hQ13 ?_)))))
 refine KC.cond rfl (fun hc => ?_) (fun hc => ?_)
 ·rw [if_pos hc] at hF
  refine sr fun Q14 hQ14 => ?_
  refine va rfl rfl (nt hQ14 (KC.ret (KQ.thr hQ12 ?_)))
  have hE := Option.some.inj hF
  clear hF
  subst hE
  refine KQ.rets Tryz.results23 (RVs.cons (RV.tm rfl) RVs.nil) ?_
  exact ⟨_, rfl, rfl, rfl, hM⟩
 rw [if_neg (Xv hc)] at hF
 refine KC.skip (KQ.thn hQ12 ?_)
 refine KC.seqH fun Q15 hQ15 => ?_
 refine sr fun Q16 hQ16 => ?_
 refine va rfl rfl (nt hQ16 (KC.block ?_))
 refine KC.loop (fun k69 a w67 => ∃ (p64 : List Xc) (i66 : Int), Kn 31 [(0, .slice A2 (p64).length c3), (1, .slice A6 (rv5).length c7), (5, vI i66)] a ∧ Mem w [rblk A2 c3] w67 [.row A2 c3 62 44 (p64).length ((p64).flatMap Xn)] ∧ (p64).length = (lv1).length ∧ JB rv5 k69 p64 i66 = some r) ?_ ?_
 ·exact fun a ha => ⟨fuel0, lv1, 0, ha.less (Xa rfl (Xa rfl (Xa rfl Xj))), hM, rfl, hF⟩
 rintro k69 a w67 ⟨p64, i66, ha, hM, hl65, hF⟩
 refine KC.app ha ?_
 clear ha
 cases k69 with
 | zero => exact (Yl hF).elim
 | succ k69 =>
 have hF : Kj (JB rv5 k69) rv5 p64 i66 = some r := hF
 unfold Kj at hF
 refine KC.seqH fun Q70 hQ70 => ?_
 refine sr fun Q71 hQ71 => ?_
 refine vm rfl rfl (vm rfl rfl (RL.val (O.len sl55 rfl) rfl (RL.val (O.lss rfl rfl) rfl (nt hQ71 ?_))))
 refine KC.cond rfl (fun hc => ?_) (fun hc => ?_)
 ·rw [if_pos hc] at hF
  refine KC.skip (KQ.thn hQ70 ?_)
  refine KC.seqH fun Q72 hQ72 => ?_
  refine KC.block ?_
  refine KC.seqH fun Q73 hQ73 => ?_
  refine KC.seqH fun Q74 hQ74 => ?_
  replace hM := hM.drewN 1
  refine KC.draw [] [] [4] [0, 1, 5, 6, 9] (.ofList [0, 1, 2, 3, 5, 6, 7, 8, 4, 9]) moP (by kernel_rfl) ?_
  refine RD.p rfl rfl rfl rfl (fun w' => O.move rfl) ?_
  refine RD.p rfl rfl rfl rfl (fun w' => O.move rfl) ?_
  refine Xx hF fun xv77 hx76 hF => ?_
  have hA75 := Rd.atN (f := Xn) (s := 44) (fun _ => rfl) (by decide) (hM.rd (i := 0) rfl) hx76
  refine RD.q rfl rfl rfl rfl (fun w' hf => O.idxA sl55 (hA75.fut hf) rfl rfl) ?_
  refine RD.q rfl rfl rfl rfl (fun w' hf => O.loadN (cs := (xv77.cs)) ag62 rfl (hA75.fut hf).cells) ?_
  refine RD.p rfl rfl rfl rfl (fun w' => O.move rfl) ?_
  refine RD.p rfl rfl rfl rfl (fun w' => O.move rfl) ?_
  refine Xx hF fun xv80 hx79 hF => ?_
  have hA78 := Rd.atN (f := Xs) (s := 44) (fun _ => rfl) (by decide) (hM.inp hr8 ho9) hx79
  refine RD.q rfl rfl rfl rfl (fun w' hf => O.idxA sl70 (hA78.fut hf) rfl rfl) ?_
  refine RD.q rfl rfl rfl rfl (fun w' hf => O.loadN (cs := (xv80.cs)) ag89 rfl (hA78.fut hf).cells) ?_
  refine Xx hF fun y81 hx82 hF => ?_
  refine RD.mcall rfl rfl trivial Tryz.func32 bd32 rfl rfl (XaI _ xv77 _ hx82) fun v w83 hv => ?_
  obtain ⟨rfl, hN84⟩ := hv
  refine ⟨fun _ => hN84.fut, ?_⟩
  replace hM := hM.call0 hN84
  refine RD.p rfl rfl rfl rfl (fun w' => O.stne (cs := (y81.cs)) (cs' := (xv80.cs)) (by kernel_rfl) rfl rfl (Q89t y81 xv80 _ rfl rfl)) ?_
  refine RD.nil (KQ.thn hQ74 ?_)
  refine KC.cond rfl (fun hc => ?_) (fun hc => ?_)
  ·rw [if_pos hc] at hF
   refine sr fun Q85 hQ85 => ?_
   refine va rfl rfl (nt hQ85 (KC.ret (KQ.thr hQ73 (KQ.blk_r (KQ.thr hQ72 (KQ.then_r ?_))))))
   refine KQ.blk_r (KQ.thr hQ15 ?_)
   have hE := Option.some.inj hF
   clear hF
   subst hE
   refine KQ.rets Tryz.results23 (RVs.cons (RV.tm rfl) RVs.nil) ?_
   exact ⟨_, rfl, rfl, (hl65).symm, hM⟩
  rw [if_neg (Xv hc)] at hF
  refine KC.skip (KQ.thn hQ73 (KC.region (vm rfl rfl (vm rfl rfl (RL.val (O.bld (cs := (vB false :: (a16 (List.replicate 16 0) ++ (vB false :: (a16 (List.replicate 16 0) ++ [v8 0, v16 0, v16 0, v64 0, v64 0, v64 0, v64 0, v8 0, v8 77, v8 0]))))) bt62 rfl (by kernel_rfl)) rfl ?_)))))
  refine Xx hF fun xv88 hx87 hF => ?_
  have hA86 := Rd.atN (f := Xn) (s := 44) (fun _ => rfl) (by decide) (hM.rd (i := 0) rfl) hx87
  refine RL.val (O.idxA sl55 (hA86) rfl rfl) rfl ?_
  refine RL.effs (E.stR (enc := Xn) (j := 0) (off := 0) (vs := (vB false :: (a16 (List.replicate 16 0) ++ (vB false :: (a16 (List.replicate 16 0) ++ [v8 0, v16 0, v16 0, v64 0, v64 0, v64 0, v64 0, v8 0, v8 77, v8 0]))))) (x' := (Xc.mk (Xe.mk (Xd.mk false (List.replicate 16 0)) (Xd.mk false (List.replicate 16 0)) 0 0 0) 0 0 0 0 0 77 0)) hM rfl (fun _ => rfl) hx87 sz62 rfl (addsR_eq [] rfl) rfl rfl (One.all rfl) rfl rfl) fun w89 hM1 => ?_
  clear hM
  obtain ⟨hM, hn90⟩ := hM1
  refine RL.reslot (t := 0) rfl hn90 (RL.reslot (t := 27) rfl hn90 (RL.nil (KQ.blk_n (KQ.thn hQ72 (KC.region (vm rfl rfl ?_))))))
  refine RL.val (O.add rfl rfl) rfl (va rfl rfl (RL.nil (KQ.Xy ?_)))
  exact fun a ha => ⟨k69, Nat.lt_succ_self k69, (p64.set (i66 : Int).toNat (Xc.mk (Xe.mk (Xd.mk false (List.replicate 16 0)) (Xd.mk false (List.replicate 16 0)) 0 0 0) 0 0 0 0 0 77 0)), (IntKind.i64.wrap (i66 + 1)), ha.less (Xa rfl (Xa rfl (Xa rfl Xj))), hM, (List.length_set.trans hl65), hF⟩
 rw [if_neg (Xv hc)] at hF
 refine KC.exit (KQ.thx hQ70 (KQ.then_x (KQ.blk_x (KQ.thn hQ15 ?_))))
 refine sr fun Q91 hQ91 => ?_
 refine va rfl rfl (nt hQ91 (KC.ret ?_))
 have hE := Option.some.inj hF
 clear hF
 subst hE
 refine KQ.rets Tryz.results23 (RVs.cons (RV.tm rfl) RVs.nil) ?_
 exact ⟨_, rfl, rfl, (hl65).symm, hM⟩
theorem YZ (w : World) (g2 : Nat) (tg8 : TypeId) (seq1 : List Xc) (A4 : Option Addr) (c5 : Nat) (hL9 : Lent w [.box g2 tg8 [.slice A4 (seq1).length c5]]) (hr6 : Rd w A4 c5 44 seq1.length (seq1.flatMap Xn)) (ho7 : Off [some g2] seq1.length A4) (r : (List Xc) × (List Xc)) (hF : XT seq1 = some r) :
  CallsR Tryz.prog 109 [.slice none 0 0, .func (.func 92) #[] #[.pointer (some ⟨g2, 0, none⟩)]] w (fun v w' => ∃ (A1 : Option Addr) (c1 : Nat), v = .slice A1 (r.1).length c1 ∧ (r.2 = seq1) ∧ Mem w [some g2] w' [.box g2 tg8 [.slice A4 (r.2).length c5], .row A1 c1 62 44 r.1.length (r.1.flatMap Xn)]) := by
 refine calls_KCM Tryz.func109 rfl Tryz.ntmps109 rfl ?_
 have hM : Mem w [some g2] w [.box g2 tg8 [.slice A4 (seq1).length c5]] := Mem.lendN hL9
 unfold XT at hF
 refine sr fun Q10 hQ10 => ?_
 refine RL.eff (E.box (vs := [.slice none 0 0]) hM rfl rfl) rfl fun v w12 hv => ?_
 clear hM
 obtain ⟨g11, rfl, hM, hf⟩ := hv
 refine va rfl rfl (nt hQ10 ?_)
 refine KC.seqH fun Q14 hQ14 => ?_
 refine sr fun Q15 hQ15 => ?_
 refine vm rfl rfl (nt hQ15 (KC.block ?_))
 refine KC.range (lb := [.pointer (some ⟨g2, 0, none⟩)]) hM rfl Tryz.func92 bd92 rfl Tryz.ntmps92 rfl fun a16 rc18 l20 D21 w22 ha17 hrc19 hM1 hf23 => ?_
 clear hM
 have hM := hM1
 clear hM1
 refine sr fun Q26 hQ26 => ?_
 refine RL.val (O.load sc55 rfl (Cs.adds [] ((hM.bx (i := 0) rfl)) rfl)) rfl (RL.val (O.len sl55 rfl) rfl (vm rfl rfl (nt hQ26 (KC.block ?_))))
 refine KC.loop (fun k105 a w103 => ∃ (A100 : Option Addr) (c101 : Nat) (t97 : Int) (t102 : List Xc), Kn 16 [(0, .func (.yield l20) #[] #[]), (5, .slice A4 (seq1).length c5), (6, vI (seq1.length : Int)), (7, vI t97)] a ∧ Mem w [some g2] w103 [.box g2 tg8 [.slice A4 (seq1).length c5], .res [D21] (DefAt D21), .res [l20] (LoopAt l20 rc18 .ready none), .row A100 c101 62 44 (t102).length ((t102).flatMap Xn), .box g11 55 [.slice A100 (t102).length c101]] ∧ XE seq1 k105 t97 t102 = some r) ?_ ?_
 ·replace hM := hM.nilrow 62 44
  replace hM := hM.pick [0, 2, 3, 4, 1] rfl (by decide)
  exact fun a ha => ⟨fuel0, none, 0, 0, ([]), ha.less (Xa rfl (Xa rfl (Xa rfl (Xa rfl Xj)))), hM, hF⟩
 rintro k105 a w103 ⟨A100, c101, t97, t102, ha, hM, hF⟩
 refine KC.app ha ?_
 clear ha
 cases k105 with
 | zero => exact (Yl hF).elim
 | succ k105 =>
 have hF : XM (XE seq1 k105) seq1 t97 t102 = some r := hF
 unfold XM at hF
 refine sr fun Q106 hQ106 => ?_
 refine RL.val (O.lss rfl rfl) rfl (nt hQ106 ?_)
 refine KC.seqH fun Q107 hQ107 => ?_
 refine KC.cond rfl (fun hc => ?_) (fun hc => ?_)
 ·rw [if_pos hc] at hF
  refine KC.skip (KQ.thn hQ107 ?_)
  refine KC.seqH fun Q108 hQ108 => ?_
  refine KC.block ?_
  refine sr fun Q109 hQ109 => ?_
  refine Xx hF fun xv112 hx111 hF => ?_
  have hA110 := Rd.atN (f := Xn) (s := 44) (fun _ => rfl) (by decide) (hM.inp hr6 ho7) hx111
  refine RL.val (O.idxA sl55 (hA110) rfl rfl) rfl (RL.val (O.loadN (cs := (xv112.cs)) ag62 rfl (hA110).cells) rfl ?_)
  refine RL.eff (E.alloc hM ze62) rfl fun v w114 hv => ?_
  clear hM
  obtain ⟨g113, rfl, hM, hf⟩ := hv
  refine RL.effs (E.stB (j := 5) (off := 0) (vs := (xv112.cs)) (cs' := (xv112.cs)) hM rfl sz62 rfl (XX [] rfl) rfl rfl (One.all rfl) rfl rfl) fun w116 hM1 => ?_
  clear hM
  have hM := hM1
  clear hM1
  refine nt hQ109 ?_
  refine sr fun Q117 hQ117 => ?_
  refine vm rfl rfl (RL.val (O.loadN (cs := (xv112.cs)) ag62 rfl (Cs.addsN [] ((hM.bx (i := 5) rfl)) rfl)) rfl (RL.yield hM (i := 2) rfl ha17 hrc19 rfl rfl rfl rfl rfl (KC.region ?_)))
  refine RL.eff (E.alloc hM ze62) rfl fun v w119 hv => ?_
  clear hM
  obtain ⟨g118, rfl, hM, hf⟩ := hv
  refine RL.effs (E.stB (j := 6) (off := 0) (vs := (xv112.cs)) (cs' := (xv112.cs)) hM rfl sz62 rfl (XX [] rfl) rfl rfl (One.all rfl) rfl rfl) fun w121 hM1 => ?_
  clear hM
  have hM := hM1
  clear hM1
  refine RL.nil ?_
  refine KQ.begin hM (i := 2) rfl fun w122 hM1 hf123 => ?_
  clear hM
  have hM := hM1
  clear hM1
  refine KC.block (KC.region (RL.val (O.load sc55 rfl (Cs.adds [] ((hM.bx (i := 4) rfl)) rfl)) rfl (RL.val (O.loadN (cs := (xv112.cs)) ag62 rfl (Cs.addsN [] ((hM.bx (i := 6) rfl)) rfl)) rfl ?_)))
  refine RL.eff (E.bsl (enc := Xn) (xs := ([xv112] : List Xc)) hM sl55 ze62 rfl rfl rfl (fun _ => rfl) rfl (by kernel_rfl) rfl) rfl fun v w124 hv => ?_
  clear hM
  obtain ⟨A125, rfl, hM, hf⟩ := hv
  refine XZ hF fun hq130 hF => ?_
  refine RL.eff (E.app (enc := Xn) (xs := t102) (ys := ([xv112] : List Xc)) (j := 3) hM rfl sl55 ze62 rfl rfl rfl rfl rfl (hM.rd (i := 7) rfl) (fun _ => One.all rfl) (of_decide_eq_true hq130)) rfl fun v w129 hv => ?_
  clear hM
  obtain ⟨A127, c128, rfl, hM, hf⟩ := hv
  refine RL.effs (E.stB (j := 4) (off := 0) (vs := [.slice A127 ((t102 ++ ([xv112] : List Xc))).length c128]) (cs' := [.slice A127 ((t102 ++ ([xv112] : List Xc))).length c128]) hM rfl sz55 rfl (XX [] rfl) rfl rfl (One.all rfl) rfl rfl) fun w132 hM1 => ?_
  clear hM
  have hM := hM1
  clear hM1
  refine RL.nil (KQ.blk_n ?_)
  refine KQ.rnorm hM (i := 2) rfl fun w133 hM1 hf134 => ?_
  clear hM
  have hM := hM1
  clear hM1
  refine RL.val (O.not rfl) rfl (nt hQ117 ?_)
  replace hM := hM.pick [0, 1, 2, 3, 4] rfl (by decide)
  refine KC.condF rfl (KC.skip (KQ.blk_n (KQ.thn hQ108 (KC.region (RL.val (O.add rfl rfl) rfl (vm rfl rfl ?_))))))
  refine RL.nil (KQ.Xy ?_)
  exact fun a ha => ⟨k105, Nat.lt_succ_self k105, A127, c128, (IntKind.i64.wrap (t97 + 1)), (t102 ++ ([xv112] : List Xc)), ha.less (Xa rfl (Xa rfl (Xa rfl (Xa rfl Xj)))), hM, hF⟩
 rw [if_neg (Xv hc)] at hF
 refine KC.exit (KQ.thx hQ107 (KQ.then_x (KQ.blk_x ?_)))
 refine KQ.rendN Tryz.results92 hM (i := 2) rfl (fun h => by cases h) ha17 fun w135 hM1 hf136 => ?_
 clear hM
 have hM := hM1
 clear hM1
 replace hM := hM.pick [0, 1, 3, 4] rfl (by decide)
 refine KQ.blk_n (KQ.thn hQ14 ?_)
 refine sr fun Q137 hQ137 => ?_
 refine RL.val (O.load sc55 rfl (Cs.adds [] ((hM.bx (i := 3) rfl)) rfl)) rfl (va rfl rfl (nt hQ137 (KC.ret ?_)))
 have hE := Option.some.inj hF
 clear hF
 subst hE
 refine KQ.unmark hM (i := 1) rfl fun w138 hM1 => ?_
 clear hM
 have hM := hM1
 clear hM1
 replace hM := hM.pick [0, 2, 3] rfl (by decide)
 replace hM := hM.pick [0, 1] rfl (by decide)
 refine KQ.retsM Tryz.results109 (RVs.cons (RV.tm rfl) RVs.nil) ?_
 exact ⟨_, rfl, A100, c101, rfl, rfl, hM⟩
theorem ZI (w : World) (g2 : Nat) (tg8 : TypeId) (seq1 : List Xc) (A4 : Option Addr) (c5 : Nat) (hL9 : Lent w [.box g2 tg8 [.slice A4 (seq1).length c5]]) (hr6 : Rd w A4 c5 44 seq1.length (seq1.flatMap Xn)) (ho7 : Off [some g2] seq1.length A4) (r : (List Xc) × (List Xc)) (hF : X3 seq1 = some r) :
  CallsR Tryz.prog 91 [.func (.func 92) #[] #[.pointer (some ⟨g2, 0, none⟩)]] w (fun v w' => ∃ (A1 : Option Addr) (c1 : Nat), v = .slice A1 (r.1).length c1 ∧ (r.2 = seq1) ∧ Mem w [some g2] w' [.box g2 tg8 [.slice A4 (r.2).length c5], .row A1 c1 62 44 r.1.length (r.1.flatMap Xn)]) := by
 refine XJ Tryz.func91 rfl Tryz.ntmps91 rfl ?_
 have hM : Mem w [some g2] w [.box g2 tg8 [.slice A4 (seq1).length c5]] := Mem.lendN hL9
 unfold X3 at hF
 refine sr fun Q10 hQ10 => ?_
 refine va rfl rfl (nt hQ10 ?_)
 refine sr fun Q11 hQ11 => ?_
 refine vm rfl rfl ?_
 refine Xx hF fun y12 hx13 hF => ?_
 refine RL.call Tryz.func109 bd109 rfl rfl (YZ _ _ _ seq1 _ _ (hM.lent [0] rfl (by decide)) (hM.inp hr6 ho7) (hM.offI [0] rfl hr6 (ho7)) _ hx13) fun v w14 hv => ?_
 obtain ⟨A17, c18, rfl, hE16, hN15⟩ := hv
 replace hM := hM.callL [0] [] rfl rfl (by decide) rfl hN15
 replace hM := hM.rebox (i := 0) (cs' := [.slice A4 (seq1).length c5]) rfl (by rw [hE16])
 refine va rfl rfl (nt hQ11 (KC.ret ?_))
 have hE := Option.some.inj hF
 clear hF
 subst hE
 refine KQ.rets Tryz.results91 (RVs.cons (RV.tm rfl) RVs.nil) ?_
 exact ⟨_, rfl, A17, c18, rfl, rfl, hM⟩
theorem Kc (w : World) (A : Option Addr) (c : Nat) (xs : List Xc) (hL : Lent w [.row A c 62 44 xs.length (xs.flatMap Xn)]) (r : List Xc) (hF : Yj xs = some r) :
  CallsR Tryz.prog 48 [.slice A xs.length c, .func (.func 52) #[] #[]] w (fun v w' => v = .tuple #[] ∧ (xs.length = r.length) ∧ Mem w [rblk A c] w' [.row A c 62 44 r.length (r.flatMap Xn)]) := by
 unfold Yj at hF
 refine XZ hF fun hn hF => ?_
 have hE := Option.some.inj hF
 subst hE
 exact Xbt (e := 62) lsort48 ag62 (fun _ => rfl) (fun _ => One.all rfl) rfl swo_cache_byKey Tryz.func52 bd52 (cb := []) hL (of_decide_eq_true hn) (fun w1 _ _ x y => Xad w1 x y _ (tot_cache_byKey x y))
theorem Y2 (w : World) (g2 : Nat) (tg8 : TypeId) (seq1 : List Xc) (A4 : Option Addr) (c5 : Nat) (hL9 : Lent w [.box g2 tg8 [.slice A4 (seq1).length c5]]) (hr6 : Rd w A4 c5 44 seq1.length (seq1.flatMap Xn)) (ho7 : Off [some g2] seq1.length A4) (r : (List Xc) × (List Xc)) (hF : XS seq1 = some r) :
  CallsR Tryz.prog 68 [.func (.func 92) #[] #[.pointer (some ⟨g2, 0, none⟩)], .func (.func 52) #[] #[]] w (fun v w' => ∃ (A1 : Option Addr) (c1 : Nat), v = .slice A1 (r.1).length c1 ∧ (r.2 = seq1) ∧ Mem w [some g2] w' [.box g2 tg8 [.slice A4 (r.2).length c5], .row A1 c1 62 44 r.1.length (r.1.flatMap Xn)]) := by
 refine XJ Tryz.func68 rfl Tryz.ntmps68 rfl ?_
 have hM : Mem w [some g2] w [.box g2 tg8 [.slice A4 (seq1).length c5]] := Mem.lendN hL9
 unfold XS at hF
 refine sr fun Q10 hQ10 => ?_
 refine va rfl rfl (nt hQ10 ?_)
 refine sr fun Q11 hQ11 => ?_
 refine vm rfl rfl ?_
 refine Xx hF fun y12 hx13 hF => ?_
 refine RL.call Tryz.func91 bd91 rfl rfl (ZI _ _ _ seq1 _ _ (hM.lent [0] rfl (by decide)) (hM.inp hr6 ho7) (hM.offI [0] rfl hr6 (ho7)) _ hx13) fun v w14 hv => ?_
 obtain ⟨A17, c18, rfl, hE16, hN15⟩ := hv
 replace hM := hM.callL [0] [] rfl rfl (by decide) rfl hN15
 replace hM := hM.rebox (i := 0) (cs' := [.slice A4 (seq1).length c5]) rfl (by rw [hE16])
 refine va rfl rfl (nt hQ11 ?_)
 refine sr fun Q20 hQ20 => ?_
 refine vm rfl rfl (vm rfl rfl ?_)
 refine Xx hF fun y21 hx22 hF => ?_
 refine RL.call Tryz.func48 bd48 rfl rfl (Kc _ _ _ y12.1 (hM.lent [1] rfl (by decide)) _ hx22) fun v w23 hv => ?_
 obtain ⟨rfl, hw25, hN24⟩ := hv
 replace hM := hM.callL [1] [0] rfl rfl (by decide) rfl hN24
 refine RL.reslot (t := 5) rfl hw25 (RL.reslot (t := 8) rfl hw25 (nt hQ20 ?_))
 refine sr fun Q26 hQ26 => ?_
 refine vm rfl rfl (va rfl rfl (nt hQ26 (KC.ret ?_)))
 have hE := Option.some.inj hF
 clear hF
 subst hE
 refine KQ.rets Tryz.results68 (RVs.cons (RV.tm rfl) RVs.nil) ?_
 exact ⟨_, rfl, A17, c18, rfl, rfl, hM⟩
theorem YY (w : World) (g2 : Nat) (tg12 : TypeId) (cv1 : Xl) (g4 : Nat) (A6 : Option Addr) (c7 : Nat) (A9 : Option Addr) (c10 : Nat) (hL13 : Lent w [.box g2 tg12 (v64 cv1.XB :: (cv1.Xb.cs ++ [.pointer (some ⟨g4, 0, none⟩), .slice A9 (cv1.Xh).length c10])), .box g4 119 [.slice A6 (cv1.Xf.Xp).length c7, vI cv1.Xf.XG], .row A6 c7 140 39 (cv1.Xf.Xp).length ((cv1.Xf.Xp).flatMap Xt), .row A9 c10 62 44 (cv1.Xh).length ((cv1.Xh).flatMap Xn)]) (r : (List Xc) × Xl) (hF : YI cv1 = some r) :
  CallsR Tryz.prog 33 [.pointer (some ⟨g2, 0, none⟩)] w (fun v w' => ∃ (g0 : Nat) (A1 : Option Addr) (c1 : Nat) (A2 : Option Addr) (c2 : Nat) (A3 : Option Addr) (c3 : Nat), v = .slice A3 (r.1).length c3 ∧ Mem w [some g2, some g4, rblk A6 c7, rblk A9 c10] w' [.box g2 tg12 (v64 r.2.XB :: (r.2.Xb.cs ++ [.pointer (some ⟨g0, 0, none⟩), .slice A2 (r.2.Xh).length c2])), .box g0 119 [.slice A1 (r.2.Xf.Xp).length c1, vI r.2.Xf.XG], .row A1 c1 140 39 r.2.Xf.Xp.length (r.2.Xf.Xp.flatMap Xt), .row A2 c2 62 44 r.2.Xh.length (r.2.Xh.flatMap Xn), .row A3 c3 62 44 r.1.length (r.1.flatMap Xn)]) := by
 refine XJ Tryz.func33 rfl Tryz.ntmps33 rfl ?_
 have hM : Mem w [some g2, some g4, rblk A6 c7, rblk A9 c10] w [.box g2 tg12 (v64 cv1.XB :: (cv1.Xb.cs ++ [.pointer (some ⟨g4, 0, none⟩), .slice A9 (cv1.Xh).length c10])), .box g4 119 [.slice A6 (cv1.Xf.Xp).length c7, vI cv1.Xf.XG], .row A6 c7 140 39 (cv1.Xf.Xp).length ((cv1.Xf.Xp).flatMap Xt), .row A9 c10 62 44 (cv1.Xh).length ((cv1.Xh).flatMap Xn)] := Mem.lendN hL13
 unfold YI at hF
 refine sr fun Q14 hQ14 => ?_
 refine va rfl rfl (nt hQ14 ?_)
 refine KC.seqH fun Q15 hQ15 => ?_
 refine sr fun Q16 hQ16 => ?_
 refine vm rfl rfl (RL.val (O.peqn Tryz.underlying27 rfl rfl) rfl (nt hQ16 (KC.condF rfl (KC.skip (KQ.thn hQ15 ?_)))))
 refine sr fun Q17 hQ17 => ?_
 refine vm rfl rfl (RL.val (O.nilp rfl) rfl (RL.val (O.fldA fl69_3 (by decide) rfl) rfl ?_))
 refine RL.val (O.load sc55 rfl (Cs.adds [7] ((hM.bx (i := 0) rfl)) rfl)) rfl (RL.icall Tryz.func69 bd69 rfl rfl rfl Tryz.ntmps69 rfl ?_)
 refine sr fun Q18 hQ18 => ?_
 refine RL.eff (E.box (vs := [.slice A9 (cv1.Xh).length c10]) hM rfl rfl) rfl fun v w20 hv => ?_
 clear hM
 obtain ⟨g19, rfl, hM, hf⟩ := hv
 refine va rfl rfl (nt hQ18 ?_)
 refine sr fun Q22 hQ22 => ?_
 refine RL.val (O.mkf rfl rfl) rfl (va rfl rfl (nt hQ22 (KC.ret (KQ.rets Tryz.results69 (RVs.cons (RV.tm rfl) RVs.nil) (⟨.func (.func 92) #[] #[.pointer (some ⟨g19, 0, none⟩)], rfl, ?_⟩)))))
 refine Xx hF fun y23 hx24 hF => ?_
 refine RL.call Tryz.func68 bd68 rfl rfl (Y2 _ _ _ cv1.Xh _ _ (hM.lent [4] rfl (by decide)) (hM.rd (i := 3) rfl) (hM.offR [4] rfl (i := 3) rfl rfl) _ hx24) fun v w25 hv => ?_
 obtain ⟨A28, c29, rfl, hE27, hN26⟩ := hv
 replace hM := hM.callL [4] [0, 1, 2, 3] rfl rfl (by decide) rfl hN26
 replace hM := hM.rebox (i := 4) (cs' := [.slice A9 (cv1.Xh).length c10]) rfl (by rw [hE27])
 refine va rfl rfl (nt hQ17 (KC.ret ?_))
 have hE := Option.some.inj hF
 clear hF
 subst hE
 replace hM := hM.pick [0, 1, 2, 3, 5] rfl (by decide)
 refine KQ.rets Tryz.results33 (RVs.cons (RV.tm rfl) RVs.nil) ?_
 exact ⟨_, rfl, g4, A6, c7, A9, c10, A28, c29, rfl, hM⟩
theorem Xar (w : World) (t1 : Xc) (r : Int) (hF : Vn t1 = some r) :
  CallsR Tryz.prog 65 [.agg (t1.cs).toArray] w (fun v w' => v = v8 r ∧ Mem w [] w' []) := by
 refine XJ Tryz.func65 rfl Tryz.ntmps65 rfl ?_
 have hM := Mem.init w
 unfold Vn at hF
 refine sr fun Q2 hQ2 => ?_
 refine RL.eff (E.box (vs := (t1.cs)) hM rfl rfl) rfl fun v w4 hv => ?_
 clear hM
 obtain ⟨g3, rfl, hM, hf⟩ := hv
 refine va rfl rfl (nt hQ2 ?_)
 refine sr fun Q6 hQ6 => ?_
 refine va rfl rfl (nt hQ6 (KC.ret ?_))
 have hE := Option.some.inj hF
 clear hF
 subst hE
 replace hM := hM.pick [] rfl (by decide)
 refine KQ.rets Tryz.results65 (RVs.cons (RV.tm rfl) RVs.nil) ?_
 exact ⟨_, rfl, rfl, hM⟩
theorem Vg (w : World) (g2 : Nat) (tg12 : TypeId) (cv1 : Xl) (g4 : Nat) (A6 : Option Addr) (c7 : Nat) (A9 : Option Addr) (c10 : Nat) (hL18 : Lent w [.box g2 tg12 (v64 cv1.XB :: (cv1.Xb.cs ++ [.pointer (some ⟨g4, 0, none⟩), .slice A9 (cv1.Xh).length c10])), .box g4 119 [.slice A6 (cv1.Xf.Xp).length c7, vI cv1.Xf.XG], .row A6 c7 140 39 (cv1.Xf.Xp).length ((cv1.Xf.Xp).flatMap Xt), .row A9 c10 62 44 (cv1.Xh).length ((cv1.Xh).flatMap Xn)]) (A14 : Option Addr) (c15 : Nat) (lv13 : List Xc) (hr16 : Rd w A14 c15 44 lv13.length (lv13.flatMap Xn)) (ho17 : Off [some g2, some g4, rblk A6 c7, rblk A9 c10] lv13.length A14) (r : (List Xc) × Xl) (hF : Zm cv1 lv13 = some r) :
  CallsR Tryz.prog 53 [.pointer (some ⟨g2, 0, none⟩), .func (.func 65) #[] #[], .slice A14 (lv13).length c15] w (fun v w' => ∃ (g0 : Nat) (A1 : Option Addr) (c1 : Nat) (A2 : Option Addr) (c2 : Nat) (A3 : Option Addr) (c3 : Nat), v = .slice A3 (r.1).length c3 ∧ Mem w [some g2, some g4, rblk A6 c7, rblk A9 c10] w' [.box g2 tg12 (v64 r.2.XB :: (r.2.Xb.cs ++ [.pointer (some ⟨g0, 0, none⟩), .slice A2 (r.2.Xh).length c2])), .box g0 119 [.slice A1 (r.2.Xf.Xp).length c1, vI r.2.Xf.XG], .row A1 c1 140 39 r.2.Xf.Xp.length (r.2.Xf.Xp.flatMap Xt), .row A2 c2 62 44 r.2.Xh.length (r.2.Xh.flatMap Xn), .row A3 c3 62 44 r.1.length (r.1.flatMap Xn)]) := by
 refine XJ Tryz.func53 rfl Tryz.ntmps53 rfl ?_
 have hM : Mem w [some g2, some g4, rblk A6 c7, rblk A9 c10] w [.box g2 tg12 (v64 cv1.XB :: (cv1.Xb.cs ++ [.pointer (some ⟨g4, 0, none⟩), .slice A9 (cv1.Xh).length c10])), .box g4 119 [.slice A6 (cv1.Xf.Xp).length c7, vI cv1.Xf.XG], .row A6 c7 140 39 (cv1.Xf.Xp).length ((cv1.Xf.Xp).flatMap Xt), .row A9 c10 62 44 (cv1.Xh).length ((cv1.Xh).flatMap Xn)] := Mem.lendN hL18
 unfold Zm at hF
 refine sr fun Q19 hQ19 => ?_
 refine va rfl rfl (nt hQ19 ?_)
 refine KC.seqH fun Q20 hQ20 => ?_
 refine sr fun Q21 hQ21 => ?_
 refine vm rfl rfl (RL.val (O.len sl55 rfl) rfl (vm rfl rfl (nt hQ21 (KC.block ?_))))
 refine KC.loop (fun k188 a w186 => ∃ (g171 : Nat) (A173 : Option Addr) (c174 : Nat) (A178 : Option Addr) (c179 : Nat) (A182 : Option Addr) (c183 : Nat) (p164 p165 p166 p167 p168 p169 : Int) (p175 : List Xm) (p176 : Int) (p180 out184 : List Xc) (t185 : Int), Kn 27 [(0, .pointer (some ⟨g2, 0, none⟩)), (1, .func (.func 65) #[] #[]), (6, .slice A182 (out184).length c183), (9, .slice A14 (lv13).length c15), (10, vI (lv13.length : Int)), (11, vI t185)] a ∧ Mem w [some g2, some g4, rblk A6 c7, rblk A9 c10] w186 [.row A173 c174 140 39 (p175).length ((p175).flatMap Xt), .box g171 119 [.slice A173 (p175).length c174, vI p176], .row A178 c179 62 44 (p180).length ((p180).flatMap Xn), .box g2 tg12 [v64 p164, vI p165, v64 p166, v64 p167, v64 p168, v64 p169, .pointer (some ⟨g171, 0, none⟩), .slice A178 (p180).length c179], .row A182 c183 62 44 (out184).length ((out184).flatMap Xn)] ∧ X7 lv13 k188 p164 p165 p166 p167 p168 p169 p175 p176 p180 out184 t185 = some r) ?_ ?_
 ·replace hM := hM.nilrow 62 44
  replace hM := hM.pick [2, 1, 3, 0, 4] rfl (by decide)
  exact fun a ha => ⟨fuel0, g4, A6, c7, A9, c10, none, 0, cv1.XB, cv1.Xb.Xz, cv1.Xb.XI, cv1.Xb.XA, cv1.Xb.Xk, cv1.Xb.Xr, cv1.Xf.Xp, cv1.Xf.XG, cv1.Xh, ([]), 0, ha.less (Xa rfl (Xa rfl (Xa rfl (Xa rfl (Xa rfl (Xa rfl Xj)))))), hM, hF⟩
 rintro k188 a w186 ⟨g171, A173, c174, A178, c179, A182, c183, p164, p165, p166, p167, p168, p169, p175, p176, p180, out184, t185, ha, hM, hF⟩
 refine KC.app ha ?_
 clear ha
 cases k188 with
 | zero => exact (Yl hF).elim
 | succ k188 =>
 have hF : Yh (X7 lv13 k188) lv13 p164 p165 p166 p167 p168 p169 p175 p176 p180 out184 t185 = some r := hF
 unfold Yh at hF
 refine sr fun Q189 hQ189 => ?_
 refine RL.val (O.lss rfl rfl) rfl (nt hQ189 ?_)
 refine KC.seqH fun Q190 hQ190 => ?_
 refine KC.cond rfl (fun hc => ?_) (fun hc => ?_)
 ·rw [if_pos hc] at hF
  refine KC.skip (KQ.thn hQ190 ?_)
  refine KC.seqH fun Q191 hQ191 => ?_
  refine KC.block ?_
  refine sr fun Q192 hQ192 => ?_
  refine Xx hF fun xv195 hx194 hF => ?_
  have hA193 := Rd.atN (f := Xn) (s := 44) (fun _ => rfl) (by decide) (hM.inp hr16 ho17) hx194
  refine RL.val (O.idxA sl55 (hA193) rfl rfl) rfl (RL.val (O.loadN (cs := (xv195.cs)) ag62 rfl (hA193).cells) rfl ?_)
  refine RL.eff (E.alloc hM ze62) rfl fun v w197 hv => ?_
  clear hM
  obtain ⟨g196, rfl, hM, hf⟩ := hv
  refine RL.effs (E.stB (j := 5) (off := 0) (vs := (xv195.cs)) (cs' := (xv195.cs)) hM rfl sz62 rfl (XX [] rfl) rfl rfl (One.all rfl) rfl rfl) fun w199 hM1 => ?_
  clear hM
  have hM := hM1
  clear hM1
  refine nt hQ192 ?_
  replace hM := hM.drewN 1
  refine KC.draw [] [6, 7, 9] [3, 6, 7, 8, 9] [0, 1, 2, 4, 10] (.cons 0 (.cons 1 (.cons 2 (.cons 4 (.cons 5 (.alt 3 (.ofList [6, 7, 8, 9, 10]) 6 (.ofList [3, 7, 8, 9, 10]))))))) moP (by kernel_rfl) ?_
  refine RD.p rfl rfl rfl rfl (fun w' => O.move rfl) ?_
  refine RD.p rfl rfl rfl rfl (fun w' => O.move rfl) ?_
  refine RD.p rfl rfl rfl rfl (fun w' => O.fldA fl62_0 (by decide) rfl) ?_
  refine RD.p rfl rfl rfl rfl (fun w' => O.move rfl) ?_
  refine RD.q rfl rfl rfl rfl (fun w' hf => O.loadN (cs := (xv195.cs)) ag62 rfl (Cs.addsN [] ((hM.bx (i := 5) rfl).fut hf) rfl)) ?_
  refine RD.alt ?_ ?_
  ·refine RD.mq rfl rfl (O.loadN (cs := (xv195.Xo.cs)) ag42 rfl (Cs.addsN [0] ((hM.bx (i := 5) rfl)) rfl)) rfl ?_
   refine Xx hF fun y200 hx201 hF => ?_
   refine RD.mcallv rfl rfl trivial (first := []) (captured := []) rfl Tryz.func65 bd65 rfl rfl (Xar _ xv195 _ hx201) fun v w202 hv => ?_
   obtain ⟨rfl, hN203⟩ := hv
   refine ⟨fun _ => hN203.fut, ?_⟩
   replace hM := hM.call0 hN203
   refine Xx hF fun y204 hx205 hF => ?_
   refine RD.mcall rfl rfl trivial Tryz.func46 bd46 rfl rfl (Kh _ _ _ (Xl.mk p164 (Xg.mk p165 p166 p167 p168 p169) (Xw.mk p175 p176) p180) _ _ _ _ _ (hM.lent [3, 1, 0, 2] rfl (by decide)) xv195.Xo y200 _ hx205) fun v w206 hv => ?_
   obtain ⟨g208, A210, c211, A213, c214, rfl, hN207⟩ := hv
   refine ⟨fun h => (by cases h), ?_⟩
   replace hM := hM.callL [3, 1, 0, 2] [4, 5] rfl rfl (by decide) rfl hN207
   refine RD.meff rfl rfl (E.bsl (enc := Xn) (xs := ([y204.1] : List Xc)) hM sl55 ze62 rfl rfl rfl (fun _ => rfl) rfl (by kernel_rfl) rfl) rfl fun v w216 hv => ?_
   clear hM
   obtain ⟨A217, rfl, hM, hf⟩ := hv
   refine ⟨fun _ => hf, ?_⟩
   refine XZ hF fun hq222 hF => ?_
   refine RD.meff rfl rfl (E.app (enc := Xn) (xs := out184) (ys := ([y204.1] : List Xc)) (j := 0) hM rfl sl55 ze62 rfl rfl rfl rfl rfl (hM.rd (i := 6) rfl) (fun _ => One.all rfl) (of_decide_eq_true hq222)) rfl fun v w221 hv => ?_
   clear hM
   obtain ⟨A219, c220, rfl, hM, hf⟩ := hv
   refine ⟨fun h => (by cases h), ?_⟩
   refine RD.p rfl rfl rfl rfl (fun w' => O.assign rfl) (RD.nil (KQ.blk_n (KQ.thn hQ191 ?_)))
   replace hM := hM.pick [0, 2, 3, 4, 5] rfl (by decide)
   refine KC.region (RL.val (O.add rfl rfl) rfl (vm rfl rfl (RL.nil (KQ.Xy ?_))))
   replace hM := hM.pick [3, 2, 4, 1, 0] rfl (by decide)
   exact fun a ha => ⟨k188, Nat.lt_succ_self k188, g208, A210, c211, A213, c214, A219, c220, y204.2.XB, y204.2.Xb.Xz, y204.2.Xb.XI, y204.2.Xb.XA, y204.2.Xb.Xk, y204.2.Xb.Xr, y204.2.Xf.Xp, y204.2.Xf.XG, y204.2.Xh, (out184 ++ ([y204.1] : List Xc)), (IntKind.i64.wrap (t185 + 1)), ha.less (Xa rfl (Xa rfl (Xa rfl (Xa rfl (Xa rfl (Xa rfl Xj)))))), hM, hF⟩
  refine Xx hF fun y224 hx225 hF => ?_
  refine RD.mcallv rfl rfl trivial (first := []) (captured := []) rfl Tryz.func65 bd65 rfl rfl (Xar _ xv195 _ hx225) fun v w226 hv => ?_
  obtain ⟨rfl, hN227⟩ := hv
  refine ⟨fun _ => hN227.fut, ?_⟩
  replace hM := hM.call0 hN227
  refine RD.mq rfl rfl (O.loadN (cs := (xv195.Xo.cs)) ag42 rfl (Cs.addsN [0] ((hM.bx (i := 5) rfl)) rfl)) rfl ?_
  refine Xx hF fun y228 hx229 hF => ?_
  refine RD.mcall rfl rfl trivial Tryz.func46 bd46 rfl rfl (Kh _ _ _ (Xl.mk p164 (Xg.mk p165 p166 p167 p168 p169) (Xw.mk p175 p176) p180) _ _ _ _ _ (hM.lent [3, 1, 0, 2] rfl (by decide)) xv195.Xo y224 _ hx229) fun v w230 hv => ?_
  obtain ⟨g232, A234, c235, A237, c238, rfl, hN231⟩ := hv
  refine ⟨fun h => (by cases h), ?_⟩
  replace hM := hM.callL [3, 1, 0, 2] [4, 5] rfl rfl (by decide) rfl hN231
  refine RD.meff rfl rfl (E.bsl (enc := Xn) (xs := ([y228.1] : List Xc)) hM sl55 ze62 rfl rfl rfl (fun _ => rfl) rfl (by kernel_rfl) rfl) rfl fun v w240 hv => ?_
  clear hM
  obtain ⟨A241, rfl, hM, hf⟩ := hv
  refine ⟨fun _ => hf, ?_⟩
  refine XZ hF fun hq246 hF => ?_
  refine RD.meff rfl rfl (E.app (enc := Xn) (xs := out184) (ys := ([y228.1] : List Xc)) (j := 0) hM rfl sl55 ze62 rfl rfl rfl rfl rfl (hM.rd (i := 6) rfl) (fun _ => One.all rfl) (of_decide_eq_true hq246)) rfl fun v w245 hv => ?_
  clear hM
  obtain ⟨A243, c244, rfl, hM, hf⟩ := hv
  refine ⟨fun h => (by cases h), ?_⟩
  refine RD.p rfl rfl rfl rfl (fun w' => O.assign rfl) (RD.nil (KQ.blk_n (KQ.thn hQ191 ?_)))
  replace hM := hM.pick [0, 2, 3, 4, 5] rfl (by decide)
  refine KC.region (RL.val (O.add rfl rfl) rfl (vm rfl rfl (RL.nil (KQ.Xy ?_))))
  replace hM := hM.pick [3, 2, 4, 1, 0] rfl (by decide)
  exact fun a ha => ⟨k188, Nat.lt_succ_self k188, g232, A234, c235, A237, c238, A243, c244, y228.2.XB, y228.2.Xb.Xz, y228.2.Xb.XI, y228.2.Xb.XA, y228.2.Xb.Xk, y228.2.Xb.Xr, y228.2.Xf.Xp, y228.2.Xf.XG, y228.2.Xh, (out184 ++ ([y228.1] : List Xc)), (IntKind.i64.wrap (t185 + 1)), ha.less (Xa rfl (Xa rfl (Xa rfl (Xa rfl (Xa rfl (Xa rfl Xj)))))), hM, hF⟩
 rw [if_neg (Xv hc)] at hF
 refine KC.exit (KQ.thx hQ190 (KQ.then_x (KQ.blk_x (KQ.thn hQ20 ?_))))
 refine sr fun Q248 hQ248 => ?_
 refine vm rfl rfl (va rfl rfl (nt hQ248 (KC.ret ?_)))
 have hE := Option.some.inj hF
 clear hF
 subst hE
 replace hM := hM.pick [3, 1, 0, 2, 4] rfl (by decide)
 refine KQ.rets Tryz.results53 (RVs.cons (RV.tm rfl) RVs.nil) ?_
 exact ⟨_, rfl, g171, A173, c174, A178, c179, A182, c183, rfl, hM⟩
theorem VG (w : World) (g2 : Nat) (tg12 : TypeId) (cv1 : Xl) (g4 : Nat) (A6 : Option Addr) (c7 : Nat) (A9 : Option Addr) (c10 : Nat) (hL13 : Lent w [.box g2 tg12 (v64 cv1.XB :: (cv1.Xb.cs ++ [.pointer (some ⟨g4, 0, none⟩), .slice A9 (cv1.Xh).length c10])), .box g4 119 [.slice A6 (cv1.Xf.Xp).length c7, vI cv1.Xf.XG], .row A6 c7 140 39 (cv1.Xf.Xp).length ((cv1.Xf.Xp).flatMap Xt), .row A9 c10 62 44 (cv1.Xh).length ((cv1.Xh).flatMap Xn)]) (r : (List Xc) × Xl) (hF : ZL cv1 = some r) :
  CallsR Tryz.prog 25 [.pointer (some ⟨g2, 0, none⟩)] w (fun v w' => ∃ (g0 : Nat) (A1 : Option Addr) (c1 : Nat) (A2 : Option Addr) (c2 : Nat) (A3 : Option Addr) (c3 : Nat), v = .slice A3 (r.1).length c3 ∧ Mem w [some g2, some g4, rblk A6 c7, rblk A9 c10] w' [.box g2 tg12 (v64 r.2.XB :: (r.2.Xb.cs ++ [.pointer (some ⟨g0, 0, none⟩), .slice A2 (r.2.Xh).length c2])), .box g0 119 [.slice A1 (r.2.Xf.Xp).length c1, vI r.2.Xf.XG], .row A1 c1 140 39 r.2.Xf.Xp.length (r.2.Xf.Xp.flatMap Xt), .row A2 c2 62 44 r.2.Xh.length (r.2.Xh.flatMap Xn), .row A3 c3 62 44 r.1.length (r.1.flatMap Xn)]) := by
 refine XJ Tryz.func25 rfl Tryz.ntmps25 rfl ?_
 have hM : Mem w [some g2, some g4, rblk A6 c7, rblk A9 c10] w [.box g2 tg12 (v64 cv1.XB :: (cv1.Xb.cs ++ [.pointer (some ⟨g4, 0, none⟩), .slice A9 (cv1.Xh).length c10])), .box g4 119 [.slice A6 (cv1.Xf.Xp).length c7, vI cv1.Xf.XG], .row A6 c7 140 39 (cv1.Xf.Xp).length ((cv1.Xf.Xp).flatMap Xt), .row A9 c10 62 44 (cv1.Xh).length ((cv1.Xh).flatMap Xn)] := Mem.lendN hL13
 unfold ZL at hF
 refine sr fun Q14 hQ14 => ?_
 refine va rfl rfl (nt hQ14 ?_)
 refine KC.seqH fun Q15 hQ15 => ?_
 refine sr fun Q16 hQ16 => ?_
 refine vm rfl rfl (RL.val (O.peqn Tryz.underlying27 rfl rfl) rfl (nt hQ16 (KC.condF rfl (KC.skip (KQ.thn hQ15 ?_)))))
 refine sr fun Q17 hQ17 => ?_
 refine vm rfl rfl (vm rfl rfl ?_)
 refine Xx hF fun y18 hx19 hF => ?_
 refine RL.call Tryz.func33 bd33 rfl rfl (YY _ _ _ cv1 _ _ _ _ _ (hM.lent [0, 1, 2, 3] rfl (by decide)) _ hx19) fun v w20 hv => ?_
 obtain ⟨g22, A24, c25, A27, c28, A30, c31, rfl, hN21⟩ := hv
 replace hM := hM.callL [0, 1, 2, 3] [] rfl rfl (by decide) rfl hN21
 refine Xx hF fun y33 hx34 hF => ?_
 refine RL.call Tryz.func53 bd53 rfl rfl (Vg _ _ _ y18.2 _ _ _ _ _ (hM.lent [0, 1, 2, 3] rfl (by decide)) _ _ y18.1 (hM.rd (i := 4) rfl) (hM.offR [0, 1, 2, 3] rfl (i := 4) rfl rfl) _ hx34) fun v w35 hv => ?_
 obtain ⟨g37, A39, c40, A42, c43, A45, c46, rfl, hN36⟩ := hv
 replace hM := hM.callL [0, 1, 2, 3] [4] rfl rfl (by decide) rfl hN36
 refine va rfl rfl (nt hQ17 (KC.ret ?_))
 have hE := Option.some.inj hF
 clear hF
 subst hE
 replace hM := hM.pick [1, 2, 3, 4, 5] rfl (by decide)
 refine KQ.rets Tryz.results25 (RVs.cons (RV.tm rfl) RVs.nil) ?_
 exact ⟨_, rfl, g37, A39, c40, A42, c43, A45, c46, rfl, hM⟩
theorem XaA (w : World) (g2 : Nat) (tg7 : TypeId) (cv1 : Xq) (A4 : Option Addr) (c5 : Nat) (hL8 : Lent w [.box g2 tg7 (v64 cv1.XK :: (cv1.Xu.cs ++ [.slice A4 (cv1.f_L).length c5])), .row A4 c5 89 44 (cv1.f_L).length ((cv1.f_L).flatMap Xs)]) (r : (List Xi) × Xq) (hF : K0 cv1 = some r) :
  CallsR Tryz.prog 26 [.pointer (some ⟨g2, 0, none⟩)] w (fun v w' => ∃ (A0 : Option Addr) (c0 : Nat) (A1 : Option Addr) (c1 : Nat), v = .slice A1 (r.1).length c1 ∧ Mem w [some g2, rblk A4 c5] w' [.box g2 tg7 (v64 r.2.XK :: (r.2.Xu.cs ++ [.slice A0 (r.2.f_L).length c0])), .row A0 c0 89 44 r.2.f_L.length (r.2.f_L.flatMap Xs), .row A1 c1 89 44 r.1.length (r.1.flatMap Xs)]) := by
 refine XJ Tryz.func26 rfl Tryz.ntmps26 rfl ?_
 have hM : Mem w [some g2, rblk A4 c5] w [.box g2 tg7 (v64 cv1.XK :: (cv1.Xu.cs ++ [.slice A4 (cv1.f_L).length c5])), .row A4 c5 89 44 (cv1.f_L).length ((cv1.f_L).flatMap Xs)] := Mem.lendN hL8
 unfold K0 at hF
 refine sr fun Q9 hQ9 => ?_
 refine va rfl rfl (nt hQ9 ?_)
 refine sr fun Q10 hQ10 => ?_
 refine va rfl rfl (nt hQ10 ?_)
 refine KC.seqH fun Q11 hQ11 => ?_
 refine KC.block ?_
 refine KC.loop (fun k78 a w76 => ∃ (A69 : Option Addr) (c70 : Nat) (A73 : Option Addr) (c74 : Nat) (p62 p63 p64 p65 p66 p67 : Int) (p71 out75 : List Xi), Kn 16 [(0, .pointer (some ⟨g2, 0, none⟩)), (3, .slice A73 (out75).length c74)] a ∧ Mem w [some g2, rblk A4 c5] w76 [.row A69 c70 89 44 (p71).length ((p71).flatMap Xs), .box g2 tg7 [v64 p62, vI p63, v64 p64, v64 p65, v64 p66, v64 p67, .slice A69 (p71).length c70], .row A73 c74 89 44 (out75).length ((out75).flatMap Xs)] ∧ Zf k78 p62 p63 p64 p65 p66 p67 p71 out75 = some r) ?_ ?_
 ·replace hM := hM.nilrow 89 44
  replace hM := hM.pick [1, 0, 2] rfl (by decide)
  exact fun a ha => ⟨fuel0, A4, c5, none, 0, cv1.XK, cv1.Xu.Xz, cv1.Xu.XI, cv1.Xu.XA, cv1.Xu.Xk, cv1.Xu.Xr, cv1.f_L, ([]), ha.less (Xa rfl (Xa rfl Xj)), hM, hF⟩
 rintro k78 a w76 ⟨A69, c70, A73, c74, p62, p63, p64, p65, p66, p67, p71, out75, ha, hM, hF⟩
 refine KC.app ha ?_
 clear ha
 cases k78 with
 | zero => exact (Yl hF).elim
 | succ k78 =>
 have hF : Jw (Zf k78) p62 p63 p64 p65 p66 p67 p71 out75 = some r := hF
 unfold Jw at hF
 refine KC.seqH fun Q79 hQ79 => ?_
 refine sr fun Q80 hQ80 => ?_
 refine vm rfl rfl (RL.val (O.nilp rfl) rfl (RL.val (O.fldA fl72_2 (by decide) rfl) rfl ?_))
 refine RL.val (O.load sc70 rfl (Cs.adds [6] ((hM.bx (i := 1) rfl)) rfl)) rfl (RL.val (O.len sl70 rfl) rfl (RL.val (O.gtr rfl rfl) rfl (nt hQ80 ?_)))
 refine KC.cond rfl (fun hc => ?_) (fun hc => ?_)
 ·rw [if_pos hc] at hF
  refine KC.skip (KQ.thn hQ79 (KC.block (KC.region (vm rfl rfl (vm rfl rfl ?_)))))
  refine Xx hF fun y81 hx82 hF => ?_
  refine RL.call Tryz.func62 bd62 rfl rfl (KV _ _ _ (Xq.mk p62 (Xg.mk p63 p64 p65 p66 p67) p71) _ _ (hM.lent [1, 0] rfl (by decide)) 0 4 _ hx82) fun v w83 hv => ?_
  obtain ⟨A85, c86, rfl, hN84⟩ := hv
  replace hM := hM.callL [1, 0] [2] rfl rfl (by decide) rfl hN84
  refine RL.eff (E.bsl (enc := Xs) (xs := ([y81.1] : List Xi)) hM sl70 ze89 rfl rfl rfl (fun _ => rfl) rfl (by kernel_rfl) rfl) rfl fun v w88 hv => ?_
  clear hM
  obtain ⟨A89, rfl, hM, hf⟩ := hv
  refine XZ hF fun hq94 hF => ?_
  refine RL.eff (E.app (enc := Xs) (xs := out75) (ys := ([y81.1] : List Xi)) (j := 0) hM rfl sl70 ze89 rfl rfl rfl rfl rfl (hM.rd (i := 3) rfl) (fun _ => One.all rfl) (of_decide_eq_true hq94)) rfl fun v w93 hv => ?_
  clear hM
  obtain ⟨A91, c92, rfl, hM, hf⟩ := hv
  refine va rfl rfl (RL.nil (KQ.blk_n (KQ.Xy ?_)))
  replace hM := hM.pick [2, 1, 0] rfl (by decide)
  exact fun a ha => ⟨k78, Nat.lt_succ_self k78, A85, c86, A91, c92, y81.2.XK, y81.2.Xu.Xz, y81.2.Xu.XI, y81.2.Xu.XA, y81.2.Xu.Xk, y81.2.Xu.Xr, y81.2.f_L, (out75 ++ ([y81.1] : List Xi)), ha.less (Xa rfl (Xa rfl Xj)), hM, hF⟩
 rw [if_neg (Xv hc)] at hF
 refine KC.exit (KQ.thx hQ79 (KQ.then_x (KQ.blk_x (KQ.thn hQ11 ?_))))
 refine sr fun Q96 hQ96 => ?_
 refine vm rfl rfl (va rfl rfl (nt hQ96 (KC.ret ?_)))
 have hE := Option.some.inj hF
 clear hF
 subst hE
 replace hM := hM.pick [1, 0, 2] rfl (by decide)
 refine KQ.rets Tryz.results26 (RVs.cons (RV.tm rfl) RVs.nil) ?_
 exact ⟨_, rfl, A69, c70, A73, c74, rfl, hM⟩
theorem Xat (w : World) (g2 : Nat) (tg7 : TypeId) (t1 : Xw) (A4 : Option Addr) (c5 : Nat) (hL8 : Lent w [.box g2 tg7 [.slice A4 (t1.Xp).length c5, vI t1.XG], .row A4 c5 140 39 (t1.Xp).length ((t1.Xp).flatMap Xt)]) (r : Xw) (hF : K2 t1 = some r) :
  CallsR Tryz.prog 66 [.pointer (some ⟨g2, 0, none⟩)] w (fun v w' => ∃ (A0 : Option Addr) (c0 : Nat), v = .tuple #[] ∧ Mem w [some g2, rblk A4 c5] w' [.box g2 tg7 [.slice A0 (r.Xp).length c0, vI r.XG], .row A0 c0 140 39 r.Xp.length (r.Xp.flatMap Xt)]) := by
 refine XJ Tryz.func66 rfl Tryz.ntmps66 rfl ?_
 have hM : Mem w [some g2, rblk A4 c5] w [.box g2 tg7 [.slice A4 (t1.Xp).length c5, vI t1.XG], .row A4 c5 140 39 (t1.Xp).length ((t1.Xp).flatMap Xt)] := Mem.lendN hL8
 unfold K2 at hF
 refine sr fun Q9 hQ9 => ?_
 refine vm rfl rfl (RL.val (O.pnen Tryz.underlying63 rfl rfl) rfl (nt hQ9 (KC.condT rfl ?_)))
 refine sr fun Q10 hQ10 => ?_
 refine vm rfl rfl (RL.val (O.nilp rfl) rfl (RL.val (O.fldA fl119_0 (by decide) rfl) rfl ?_))
 refine RL.val (O.load sc117 rfl (Cs.adds [0] ((hM.bx (i := 0) rfl)) rfl)) rfl ?_
 refine RL.eff0 (E.clear (enc := Xt) (zr := (Xm.mk false (Xe.mk (Xd.mk false (List.replicate 16 0)) (Xd.mk false (List.replicate 16 0)) 0 0 0) 0)) (j := 1) (xs := t1.Xp) hM rfl sl117 ze140 rfl (fun _ => rfl) rfl (One.all rfl) rfl) fun v w11 hM1 => ?_
 clear hM
 obtain ⟨hM, hn12⟩ := hM1
 refine RL.reslot (t := 7) rfl hn12 ?_
 replace hM := hM.rebox (i := 0) (cs' := [.slice A4 ((List.replicate (t1.Xp).length ((Xm.mk false (Xe.mk (Xd.mk false (List.replicate 16 0)) (Xd.mk false (List.replicate 16 0)) 0 0 0) 0) : Xm))).length c5, vI t1.XG]) rfl (by rw [← hn12])
 refine nt hQ10 (KC.region (vm rfl rfl (RL.val (O.nilp rfl) rfl (RL.val (O.fldA fl119_1 (by decide) rfl) rfl ?_))))
 refine RL.effs (E.stB (j := 0) (off := 1) (vs := [vI 0]) (cs' := [.slice A4 ((List.replicate (t1.Xp).length ((Xm.mk false (Xe.mk (Xd.mk false (List.replicate 16 0)) (Xd.mk false (List.replicate 16 0)) 0 0 0) 0) : Xm))).length c5, vI 0]) hM rfl sz3 rfl (XX [1] rfl) rfl rfl (One.all rfl) rfl rfl) fun w13 hM1 => ?_
 clear hM
 have hM := hM1
 clear hM1
 refine RL.nil ?_
 have hE := Option.some.inj hF
 clear hF
 subst hE
 refine KQ.endr Tryz.results66 RVs.nil ?_
 exact ⟨_, rfl, A4, c5, rfl, hM⟩
theorem Xav (w : World) (g2 : Nat) (tg12 : TypeId) (cv1 : Xl) (g4 : Nat) (A6 : Option Addr) (c7 : Nat) (A9 : Option Addr) (c10 : Nat) (hL13 : Lent w [.box g2 tg12 (v64 cv1.XB :: (cv1.Xb.cs ++ [.pointer (some ⟨g4, 0, none⟩), .slice A9 (cv1.Xh).length c10])), .box g4 119 [.slice A6 (cv1.Xf.Xp).length c7, vI cv1.Xf.XG], .row A6 c7 140 39 (cv1.Xf.Xp).length ((cv1.Xf.Xp).flatMap Xt), .row A9 c10 62 44 (cv1.Xh).length ((cv1.Xh).flatMap Xn)]) (r : Int × Xl) (hF : KZ cv1 = some r) :
  CallsR Tryz.prog 27 [.pointer (some ⟨g2, 0, none⟩)] w (fun v w' => ∃ (g0 : Nat) (A1 : Option Addr) (c1 : Nat) (A2 : Option Addr) (c2 : Nat), v = vI r.1 ∧ Mem w [some g2, some g4, rblk A6 c7, rblk A9 c10] w' [.box g2 tg12 (v64 r.2.XB :: (r.2.Xb.cs ++ [.pointer (some ⟨g0, 0, none⟩), .slice A2 (r.2.Xh).length c2])), .box g0 119 [.slice A1 (r.2.Xf.Xp).length c1, vI r.2.Xf.XG], .row A1 c1 140 39 r.2.Xf.Xp.length (r.2.Xf.Xp.flatMap Xt), .row A2 c2 62 44 r.2.Xh.length (r.2.Xh.flatMap Xn)]) := by
 refine XJ Tryz.func27 rfl Tryz.ntmps27 rfl ?_
 have hM : Mem w [some g2, some g4, rblk A6 c7, rblk A9 c10] w [.box g2 tg12 (v64 cv1.XB :: (cv1.Xb.cs ++ [.pointer (some ⟨g4, 0, none⟩), .slice A9 (cv1.Xh).length c10])), .box g4 119 [.slice A6 (cv1.Xf.Xp).length c7, vI cv1.Xf.XG], .row A6 c7 140 39 (cv1.Xf.Xp).length ((cv1.Xf.Xp).flatMap Xt), .row A9 c10 62 44 (cv1.Xh).length ((cv1.Xh).flatMap Xn)] := Mem.lendN hL13
 unfold KZ at hF
 refine sr fun Q14 hQ14 => ?_
 refine va rfl rfl (nt hQ14 ?_)
 refine KC.seqH fun Q15 hQ15 => ?_
 refine sr fun Q16 hQ16 => ?_
 refine vm rfl rfl (RL.val (O.peqn Tryz.underlying27 rfl rfl) rfl (nt hQ16 (KC.condF rfl (KC.skip (KQ.thn hQ15 ?_)))))
 refine sr fun Q17 hQ17 => ?_
 refine vm rfl rfl (RL.val (O.nilp rfl) rfl (RL.val (O.fldA fl69_3 (by decide) rfl) rfl ?_))
 refine RL.val (O.load sc55 rfl (Cs.adds [7] ((hM.bx (i := 0) rfl)) rfl)) rfl (RL.val (O.len sl55 rfl) rfl (va rfl rfl (nt hQ17 ?_)))
 refine sr fun Q18 hQ18 => ?_
 refine vm rfl rfl (RL.val (O.nilp rfl) rfl (RL.val (O.fldA fl69_2 (by decide) rfl) rfl ?_))
 refine RL.val (O.load sc63 rfl (Cs.adds [6] ((hM.bx (i := 0) rfl)) rfl)) rfl ?_
 refine Xx hF fun y19 hx20 hF => ?_
 refine RL.call Tryz.func66 bd66 rfl rfl (Xat _ _ _ cv1.Xf _ _ (hM.lent [1, 2] rfl (by decide)) _ hx20) fun v w21 hv => ?_
 obtain ⟨A23, c24, rfl, hN22⟩ := hv
 replace hM := hM.callL [1, 2] [0, 3] rfl rfl (by decide) rfl hN22
 refine nt hQ18 ?_
 refine sr fun Q26 hQ26 => ?_
 refine vm rfl rfl (RL.val (O.nilp rfl) rfl (RL.val (O.fldA fl69_3 (by decide) rfl) rfl ?_))
 refine RL.effs (E.stB (j := 0) (off := 7) (vs := [.slice none 0 0]) (cs' := (v64 cv1.XB :: (cv1.Xb.cs ++ [.pointer (some ⟨g4, 0, none⟩), .slice none 0 0]))) hM rfl sz55 rfl (XX [7] rfl) rfl rfl (One.all rfl) rfl rfl) fun w27 hM1 => ?_
 clear hM
 have hM := hM1
 clear hM1
 refine nt hQ26 ?_
 replace hM := hM.pick [0, 2, 3] rfl (by decide)
 refine sr fun Q28 hQ28 => ?_
 refine vm rfl rfl (va rfl rfl (nt hQ28 (KC.ret ?_)))
 have hE := Option.some.inj hF
 clear hF
 subst hE
 replace hM := hM.nilrow 62 44
 refine KQ.rets Tryz.results27 (RVs.cons (RV.tm rfl) RVs.nil) ?_
 exact ⟨_, rfl, g4, A23, c24, none, 0, rfl, hM⟩
end Go.Proofs.YtkpnocgfhipidaaGreat
