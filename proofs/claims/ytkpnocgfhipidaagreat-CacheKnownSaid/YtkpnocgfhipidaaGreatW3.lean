/- Printed by a program of this claim: each call returns what the plain function of its name gives. -/
import Derived.Test.YtkpnocgfhipidaaGreatW1
import Derived.Test.YtkpnocgfhipidaaGreatW2
import Derived.Test.YtkpnocgfhipidaaGreatSrt
set_option linter.unusedVariables false
set_option maxRecDepth 100000
set_option maxHeartbeats 40000000
namespace Go.Proofs.YtkpnocgfhipidaaGreat
open Go Go.Ox Go.RowKit
theorem Xbj (w : World) (av1 : Xe) (b2 : Xe) (r : Int) (hF : Vs av1 b2 = some r) :
  CallsR Tryz.prog 84 [.agg (av1.cs).toArray, .agg (b2.cs).toArray] w (fun v w' => v = vI r ∧ Mem w [] w' []) := by
 refine XJ Tryz.func84 rfl Tryz.ntmps84 rfl ?_
 have hM := Mem.init w
 unfold Vs at hF
 refine sr fun Q3 hQ3 => ?_
 refine RL.eff (E.box (vs := (av1.cs)) hM rfl rfl) rfl fun v w5 hv => ?_
 clear hM
 obtain ⟨g4, rfl, hM, hf⟩ := hv
 refine RL.eff (E.box (vs := (b2.cs)) hM rfl rfl) rfl fun v w8 hv => ?_
 clear hM
 obtain ⟨g7, rfl, hM, hf⟩ := hv
 refine va rfl rfl (nt hQ3 ?_)
 refine KC.seqH fun Q10 hQ10 => ?_
 replace hM := hM.drewN 1
 refine KC.draw [] [] [1, 3, 4] [5] (.ofList [0, 2, 1, 3, 4, 5]) moP (by kernel_rfl) ?_
 refine RD.q rfl rfl rfl rfl (fun w' hf => O.loadN (cs := (av1.cs)) ag42 rfl (Cs.addsN [] ((hM.bx (i := 0) rfl).fut hf) rfl)) ?_
 refine RD.q rfl rfl rfl rfl (fun w' hf => O.loadN (cs := (b2.cs)) ag42 rfl (Cs.addsN [] ((hM.bx (i := 1) rfl).fut hf) rfl)) ?_
 refine Xx hF fun y11 hx12 hF => ?_
 refine RD.mcall rfl rfl trivial Tryz.func106 bd106 rfl rfl (Vb _ av1 _ hx12) fun v w13 hv => ?_
 obtain ⟨A15, c16, rfl, hN14⟩ := hv
 refine ⟨fun _ => hN14.fut, ?_⟩
 replace hM := hM.call hN14
 refine Xx hF fun y18 hx19 hF => ?_
 refine RD.mcall rfl rfl trivial Tryz.func106 bd106 rfl rfl (Vb _ b2 _ hx19) fun v w20 hv => ?_
 obtain ⟨A22, c23, rfl, hN21⟩ := hv
 refine ⟨fun _ => hN21.fut, ?_⟩
 replace hM := hM.call hN21
 refine Xx hF fun y25 hx26 hF => ?_
 refine RD.mcall rfl rfl trivial Tryz.func105 bd105 rfl rfl (XaX _ _ _ y11 (hM.rd (i := 2) rfl) _ _ y18 (hM.rd (i := 3) rfl) _ hx26) fun v w27 hv => ?_
 obtain ⟨rfl, hN28⟩ := hv
 refine ⟨fun _ => hN28.fut, ?_⟩
 replace hM := hM.call0 hN28
 refine RD.p rfl rfl rfl rfl (fun w' => O.assign rfl) (RD.nil (KQ.thn hQ10 (KC.ret ?_)))
 have hE := Option.some.inj hF
 clear hF
 subst hE
 replace hM := hM.pick [] rfl (by decide)
 refine KQ.rets Tryz.results84 (RVs.cons (RV.tm rfl) RVs.nil) ?_
 exact ⟨_, rfl, rfl, hM⟩
theorem Xad (w : World) (av1 : Xc) (b2 : Xc) (r : Int) (hF : KB av1 b2 = some r) :
  CallsR Tryz.prog 52 [.agg (av1.cs).toArray, .agg (b2.cs).toArray] w (fun v w' => v = vI r ∧ Mem w [] w' []) := by
 refine XJ Tryz.func52 rfl Tryz.ntmps52 rfl ?_
 have hM := Mem.init w
 unfold KB at hF
 refine sr fun Q3 hQ3 => ?_
 refine RL.eff (E.box (vs := (av1.cs)) hM rfl rfl) rfl fun v w5 hv => ?_
 clear hM
 obtain ⟨g4, rfl, hM, hf⟩ := hv
 refine RL.eff (E.box (vs := (b2.cs)) hM rfl rfl) rfl fun v w8 hv => ?_
 clear hM
 obtain ⟨g7, rfl, hM, hf⟩ := hv
 refine va rfl rfl (nt hQ3 ?_)
 refine sr fun Q10 hQ10 => ?_
 refine RL.val (O.fldA fl62_0 (by decide) rfl) rfl ?_
 refine RL.val (O.loadN (cs := (av1.Xo.cs)) ag42 rfl (Cs.addsN [0] ((hM.bx (i := 0) rfl)) rfl)) rfl (RL.val (O.fldA fl62_0 (by decide) rfl) rfl ?_)
 refine RL.val (O.loadN (cs := (b2.Xo.cs)) ag42 rfl (Cs.addsN [0] ((hM.bx (i := 1) rfl)) rfl)) rfl ?_
 refine Xx hF fun y11 hx12 hF => ?_
 refine RL.call Tryz.func84 bd84 rfl rfl (Xbj _ av1.Xo b2.Xo _ hx12) fun v w13 hv => ?_
 obtain ⟨rfl, hN14⟩ := hv
 replace hM := hM.call0 hN14
 refine va rfl rfl (nt hQ10 (KC.ret ?_))
 have hE := Option.some.inj hF
 clear hF
 subst hE
 replace hM := hM.pick [] rfl (by decide)
 refine KQ.rets Tryz.results52 (RVs.cons (RV.tm rfl) RVs.nil) ?_
 exact ⟨_, rfl, rfl, hM⟩
theorem XaR (w : World) (A2 : Option Addr) (c3 : Nat) (vals1 : List Int) (hr4 : Rd w A2 c3 1 vals1.length (vals1.flatMap (eI .i64))) (r : Int) (hF : Vo vals1 = some r) :
  CallsR Tryz.prog 50 [.slice A2 (vals1).length c3] w (fun v w' => v = vI r ∧ Mem w [] w' []) := by
 refine XJ Tryz.func50 rfl Tryz.ntmps50 rfl ?_
 have hM := Mem.init w
 unfold Vo at hF
 refine sr fun Q5 hQ5 => ?_
 refine va rfl rfl (nt hQ5 ?_)
 refine sr fun Q6 hQ6 => ?_
 refine va rfl rfl (nt hQ6 ?_)
 refine KC.seqH fun Q7 hQ7 => ?_
 refine sr fun Q8 hQ8 => ?_
 refine vm rfl rfl (RL.val (O.len sl148 rfl) rfl (vm rfl rfl (nt hQ8 (KC.block ?_))))
 refine KC.loop (fun k31 a w29 => ∃ (t28 : Int), Kn 18 [(3, vI 0), (6, .slice A2 (vals1).length c3), (7, vI (vals1.length : Int)), (8, vI t28)] a ∧ Mem w [] w29 [] ∧ ZJ vals1 k31 t28 = some r) ?_ ?_
 ·exact fun a ha => ⟨fuel0, 0, ha.less (Xa rfl (Xa rfl (Xa rfl (Xa rfl Xj)))), hM, hF⟩
 rintro k31 a w29 ⟨t28, ha, hM, hF⟩
 refine KC.app ha ?_
 clear ha
 cases k31 with
 | zero => exact (Yl hF).elim
 | succ k31 =>
 have hF : Jb (ZJ vals1 k31) vals1 t28 = some r := hF
 unfold Jb at hF
 refine sr fun Q32 hQ32 => ?_
 refine RL.val (O.lss rfl rfl) rfl (nt hQ32 ?_)
 refine KC.seqH fun Q33 hQ33 => ?_
 refine KC.cond rfl (fun hc => ?_) (fun hc => ?_)
 ·rw [if_pos hc] at hF
  refine KC.skip (KQ.thn hQ33 ?_)
  refine KC.seqH fun Q34 hQ34 => ?_
  refine KC.block ?_
  refine sr fun Q35 hQ35 => ?_
  refine Xx hF fun xv38 hx37 hF => ?_
  have hA36 := Rd.atN (f := (eI .i64)) (s := 1) (fun _ => rfl) (by decide) (hM.inp hr4 Off.nil) hx37
  refine RL.val (O.idxA sl148 (hA36) rfl rfl) rfl (RL.val (O.load sc3 rfl (hA36).cells.at0) rfl (va rfl rfl (nt hQ35 ?_)))
  refine sr fun Q39 hQ39 => ?_
  refine vm rfl rfl (vm rfl rfl (RL.val (O.neq rfl rfl) rfl (nt hQ39 ?_)))
  refine KC.cond rfl (fun hc => ?_) (fun hc => ?_)
  ·rw [if_pos hc] at hF
   refine sr fun Q40 hQ40 => ?_
   refine vm rfl rfl (va rfl rfl (nt hQ40 (KC.ret (KQ.blk_r (KQ.thr hQ34 (KQ.then_r ?_))))))
   refine KQ.blk_r (KQ.thr hQ7 ?_)
   have hE := Option.some.inj hF
   clear hF
   subst hE
   refine KQ.rets Tryz.results50 (RVs.cons (RV.tm rfl) RVs.nil) ?_
   exact ⟨_, rfl, rfl, hM⟩
  rw [if_neg (Xv hc)] at hF
  refine KC.skip (KQ.blk_n (KQ.thn hQ34 (KC.region (RL.val (O.add rfl rfl) rfl (vm rfl rfl (RL.nil ?_))))))
  refine KQ.Xy ?_
  exact fun a ha => ⟨k31, Nat.lt_succ_self k31, (IntKind.i64.wrap (t28 + 1)), ha.less (Xa rfl (Xa rfl (Xa rfl (Xa rfl Xj)))), hM, hF⟩
 rw [if_neg (Xv hc)] at hF
 refine KC.exit (KQ.thx hQ33 (KQ.then_x (KQ.blk_x (KQ.thn hQ7 ?_))))
 refine sr fun Q41 hQ41 => ?_
 refine vm rfl rfl (va rfl rfl (nt hQ41 (KC.ret ?_)))
 have hE := Option.some.inj hF
 clear hF
 subst hE
 refine KQ.rets Tryz.results50 (RVs.cons (RV.tm rfl) RVs.nil) ?_
 exact ⟨_, rfl, rfl, hM⟩
theorem VV (w : World) (g4 : Nat) (tg11 : TypeId) (cv3 : Xl) (g6 : Nat) (tg8 : TypeId) (vo9 : Value) (vo10 : Value) (hL12 : Lent w [.box g4 tg11 [.pointer (some ⟨g6, 0, none⟩)], .box g6 tg8 (v64 cv3.XB :: (cv3.Xb.cs ++ [vo9, vo10]))]) (av1 : Xc) (b2 : Xc) (r : Int) (hF : Y8 av1 b2 cv3 = some r) :
  CallsR Tryz.prog 49 [.agg (av1.cs).toArray, .agg (b2.cs).toArray, .pointer (some ⟨g4, 0, none⟩)] w (fun v w' => v = vI r ∧ Mem w [some g4, some g6] w' [.box g4 tg11 [.pointer (some ⟨g6, 0, none⟩)], .box g6 tg8 (v64 cv3.XB :: (cv3.Xb.cs ++ [vo9, vo10]))]) := by
 refine XJ Tryz.func49 rfl Tryz.ntmps49 rfl ?_
 have hM : Mem w [some g4, some g6] w [.box g4 tg11 [.pointer (some ⟨g6, 0, none⟩)], .box g6 tg8 (v64 cv3.XB :: (cv3.Xb.cs ++ [vo9, vo10]))] := Mem.lendN hL12
 unfold Y8 at hF
 refine sr fun Q13 hQ13 => ?_
 refine RL.eff (E.box (vs := (av1.cs)) hM rfl rfl) rfl fun v w15 hv => ?_
 clear hM
 obtain ⟨g14, rfl, hM, hf⟩ := hv
 refine RL.eff (E.box (vs := (b2.cs)) hM rfl rfl) rfl fun v w18 hv => ?_
 clear hM
 obtain ⟨g17, rfl, hM, hf⟩ := hv
 refine va rfl rfl (nt hQ13 ?_)
 refine KC.seqH fun Q20 hQ20 => ?_
 replace hM := hM.drewN 1
 refine KC.draw [] [] [2, 5, 6, 9, 10, 11] [12] (.ofList [0, 1, 3, 4, 7, 8, 2, 5, 6, 9, 10, 11, 12]) moP (by kernel_rfl) ?_
 refine RD.q rfl rfl rfl rfl (fun w' hf => O.load sc27 rfl (Cs.adds [] ((hM.bx (i := 0) rfl).fut hf) rfl)) ?_
 refine RD.q rfl rfl rfl rfl (fun w' hf => O.loadN (cs := (av1.cs)) ag62 rfl (Cs.addsN [] ((hM.bx (i := 2) rfl).fut hf) rfl)) ?_
 refine RD.q rfl rfl rfl rfl (fun w' hf => O.load sc27 rfl (Cs.adds [] ((hM.bx (i := 0) rfl).fut hf) rfl)) ?_
 refine RD.q rfl rfl rfl rfl (fun w' hf => O.loadN (cs := (b2.cs)) ag62 rfl (Cs.addsN [] ((hM.bx (i := 3) rfl).fut hf) rfl)) ?_
 refine RD.q rfl rfl rfl rfl (fun w' hf => O.loadN (cs := (av1.cs)) ag62 rfl (Cs.addsN [] ((hM.bx (i := 2) rfl).fut hf) rfl)) ?_
 refine RD.q rfl rfl rfl rfl (fun w' hf => O.loadN (cs := (b2.cs)) ag62 rfl (Cs.addsN [] ((hM.bx (i := 3) rfl).fut hf) rfl)) ?_
 refine Xx hF fun y21 hx22 hF => ?_
 refine RD.mcall rfl rfl trivial Tryz.func47 bd47 rfl rfl (KR _ _ _ cv3 _ _ (hM.lent [1] rfl (by decide)) av1 _ hx22) fun v w23 hv => ?_
 obtain ⟨rfl, hN24⟩ := hv
 refine ⟨fun _ => hN24.fut, ?_⟩
 replace hM := hM.call0 hN24
 refine Xx hF fun y25 hx26 hF => ?_
 refine RD.mcall rfl rfl trivial Tryz.func47 bd47 rfl rfl (KR _ _ _ cv3 _ _ (hM.lent [1] rfl (by decide)) b2 _ hx26) fun v w27 hv => ?_
 obtain ⟨rfl, hN28⟩ := hv
 refine ⟨fun _ => hN28.fut, ?_⟩
 replace hM := hM.call0 hN28
 refine Xx hF fun y29 hx30 hF => ?_
 refine RD.mcall rfl rfl trivial Tryz.func51 bd51 rfl rfl (Vy _ y21 y25 _ hx30) fun v w31 hv => ?_
 obtain ⟨rfl, hN32⟩ := hv
 refine ⟨fun _ => hN32.fut, ?_⟩
 replace hM := hM.call0 hN32
 refine Xx hF fun y33 hx34 hF => ?_
 refine RD.mcall rfl rfl trivial Tryz.func52 bd52 rfl rfl (Xad _ av1 b2 _ hx34) fun v w35 hv => ?_
 obtain ⟨rfl, hN36⟩ := hv
 refine ⟨fun _ => hN36.fut, ?_⟩
 replace hM := hM.call0 hN36
 refine RD.meff rfl rfl (E.bsl (enc := (eI .i64)) (xs := ([y29, y33] : List Int)) hM sl148 ze3 rfl rfl rfl (fun _ => rfl) rfl (by kernel_rfl) rfl) rfl fun v w37 hv => ?_
 clear hM
 obtain ⟨A38, rfl, hM, hf⟩ := hv
 refine ⟨fun _ => hf, ?_⟩
 refine Xx hF fun y40 hx41 hF => ?_
 refine RD.mcall rfl rfl trivial Tryz.func50 bd50 rfl rfl (XaR _ _ _ ([y29, y33] : List Int) (hM.rd (i := 4) rfl) _ hx41) fun v w42 hv => ?_
 obtain ⟨rfl, hN43⟩ := hv
 refine ⟨fun _ => hN43.fut, ?_⟩
 replace hM := hM.call0 hN43
 refine RD.p rfl rfl rfl rfl (fun w' => O.assign rfl) (RD.nil (KQ.thn hQ20 (KC.ret ?_)))
 have hE := Option.some.inj hF
 clear hF
 subst hE
 replace hM := hM.pick [0, 1] rfl (by decide)
 refine KQ.rets Tryz.results49 (RVs.cons (RV.tm rfl) RVs.nil) ?_
 exact ⟨_, rfl, rfl, hM⟩
theorem V8 (w : World) (g4 : Nat) (tg11 : TypeId) (cv3 : Xl) (g6 : Nat) (tg8 : TypeId) (vo9 : Value) (vo10 : Value) (hL12 : Lent w [.box g4 tg11 [.pointer (some ⟨g6, 0, none⟩)], .box g6 tg8 (v64 cv3.XB :: (cv3.Xb.cs ++ [vo9, vo10]))]) (av1 : Xc) (b2 : Xc) (r : Int) (hF : Y8 av1 b2 cv3 = some r) :
  CallsR Tryz.prog 49 [.agg (av1.cs).toArray, .agg (b2.cs).toArray, .pointer (some ⟨g4, 0, none⟩)] w (fun v w' => v = vI r ∧ Mem w [] w' []) := Calls.mono (VV w g4 tg11 cv3 g6 tg8 vo9 vo10 hL12 av1 b2 r hF) fun e w1 ⟨v, he, hv, hm⟩ => ⟨v, he, hv, hm.still hL12 rfl rfl⟩
theorem Jj (w : World) (A : Option Addr) (c : Nat) (xs : List Xc) (g4 : Nat) (tg11 : TypeId) (cv3 : Xl) (g6 : Nat) (tg8 : TypeId) (vo9 : Value) (vo10 : Value) (hL : Lent w [.row A c 62 44 xs.length (xs.flatMap Xn), .box g4 tg11 [.pointer (some ⟨g6, 0, none⟩)], .box g6 tg8 (v64 cv3.XB :: (cv3.Xb.cs ++ [vo9, vo10]))]) (r : List Xc) (hF : XY xs cv3 = some r) :
  CallsR Tryz.prog 48 [.slice A xs.length c, .func (.func 49) #[] #[.pointer (some ⟨g4, 0, none⟩)]] w (fun v w' => v = .tuple #[] ∧ (xs.length = r.length) ∧ Mem w [rblk A c] w' [.row A c 62 44 r.length (r.flatMap Xn)]) := by
 unfold XY at hF
 refine XZ hF fun hn hF => ?_
 have hE := Option.some.inj hF
 subst hE
 exact Xbu (e := 62) (Ls := [.box g4 tg11 [.pointer (some ⟨g6, 0, none⟩)], .box g6 tg8 (v64 cv3.XB :: (cv3.Xb.cs ++ [vo9, vo10]))]) lsort48 ag62 (fun _ => rfl) (fun _ => One.all rfl) rfl (swo_cache_Cache_Advance_1 cv3) Tryz.func49 bd49 (cb := [.pointer (some ⟨g4, 0, none⟩)]) hL rfl (of_decide_eq_true hn) (fun w1 hB x y => V8 w1 g4 tg11 cv3 g6 tg8 vo9 vo10 hB x y _ (tot_cache_Cache_Advance_1 cv3 x y))
theorem VW (w : World) (g3 : Nat) (tg10 : TypeId) (cv2 : Xl) (g5 : Nat) (tg7 : TypeId) (vo8 : Value) (vo9 : Value) (hL11 : Lent w [.box g3 tg10 [.pointer (some ⟨g5, 0, none⟩)], .box g5 tg7 (v64 cv2.XB :: (cv2.Xb.cs ++ [vo8, vo9]))]) (rv1 : Xc) (r : Int) (hF : ZE rv1 cv2 = some r) :
  CallsR Tryz.prog 54 [.agg (rv1.cs).toArray, .pointer (some ⟨g3, 0, none⟩)] w (fun v w' => v = v8 r ∧ Mem w [some g3, some g5] w' [.box g3 tg10 [.pointer (some ⟨g5, 0, none⟩)], .box g5 tg7 (v64 cv2.XB :: (cv2.Xb.cs ++ [vo8, vo9]))]) := by
 refine XJ Tryz.func54 rfl Tryz.ntmps54 rfl ?_
 have hM : Mem w [some g3, some g5] w [.box g3 tg10 [.pointer (some ⟨g5, 0, none⟩)], .box g5 tg7 (v64 cv2.XB :: (cv2.Xb.cs ++ [vo8, vo9]))] := Mem.lendN hL11
 unfold ZE at hF
 refine sr fun Q12 hQ12 => ?_
 refine RL.eff (E.box (vs := (rv1.cs)) hM rfl rfl) rfl fun v w14 hv => ?_
 clear hM
 obtain ⟨g13, rfl, hM, hf⟩ := hv
 refine va rfl rfl (nt hQ12 ?_)
 refine KC.seqH fun Q16 hQ16 => ?_
 refine KC.seqH fun Q17 hQ17 => ?_
 replace hM := hM.drewN 1
 refine KC.draw [] [] [2, 5] [6] (.ofList [0, 1, 3, 4, 2, 5, 6]) moP (by kernel_rfl) ?_
 refine RD.q rfl rfl rfl rfl (fun w' hf => O.load sc27 rfl (Cs.adds [] ((hM.bx (i := 0) rfl).fut hf) rfl)) ?_
 refine RD.q rfl rfl rfl rfl (fun w' hf => O.loadN (cs := (rv1.cs)) ag62 rfl (Cs.addsN [] ((hM.bx (i := 2) rfl).fut hf) rfl)) ?_
 refine RD.q rfl rfl rfl rfl (fun w' hf => O.load sc27 rfl (Cs.adds [] ((hM.bx (i := 0) rfl).fut hf) rfl)) ?_
 refine RD.q rfl rfl rfl rfl (fun w' hf => O.loadN (cs := (rv1.cs)) ag62 rfl (Cs.addsN [] ((hM.bx (i := 2) rfl).fut hf) rfl)) ?_
 refine Xx hF fun y18 hx19 hF => ?_
 refine RD.mcall rfl rfl trivial Tryz.func55 bd55 rfl rfl (VR _ _ _ cv2 _ _ (hM.lent [1] rfl (by decide)) rv1 _ hx19) fun v w20 hv => ?_
 obtain ⟨rfl, hN21⟩ := hv
 refine ⟨fun _ => hN21.fut, ?_⟩
 replace hM := hM.call0 hN21
 refine Xx hF fun y22 hx23 hF => ?_
 refine RD.mcall rfl rfl trivial Tryz.func47 bd47 rfl rfl (KR _ _ _ cv2 _ _ (hM.lent [1] rfl (by decide)) rv1 _ hx23) fun v w24 hv => ?_
 obtain ⟨rfl, hN25⟩ := hv
 refine ⟨fun _ => hN25.fut, ?_⟩
 replace hM := hM.call0 hN25
 refine RD.p rfl rfl rfl rfl (fun w' => O.eql rfl rfl) (RD.nil (KQ.thn hQ17 ?_))
 refine KC.cond rfl (fun hc => ?_) (fun hc => ?_)
 ·rw [if_pos hc] at hF
  refine sr fun Q26 hQ26 => ?_
  refine va rfl rfl (nt hQ26 (KC.ret (KQ.thr hQ16 ?_)))
  have hE := Option.some.inj hF
  clear hF
  subst hE
  replace hM := hM.pick [0, 1] rfl (by decide)
  refine KQ.rets Tryz.results54 (RVs.cons (RV.tm rfl) RVs.nil) ?_
  exact ⟨_, rfl, rfl, hM⟩
 rw [if_neg (Xv hc)] at hF
 refine KC.skip (KQ.thn hQ16 ?_)
 refine sr fun Q27 hQ27 => ?_
 refine va rfl rfl (nt hQ27 (KC.ret ?_))
 have hE := Option.some.inj hF
 clear hF
 subst hE
 replace hM := hM.pick [0, 1] rfl (by decide)
 refine KQ.rets Tryz.results54 (RVs.cons (RV.tm rfl) RVs.nil) ?_
 exact ⟨_, rfl, rfl, hM⟩
theorem Xab (w : World) (g3 : Nat) (tg10 : TypeId) (cv2 : Xl) (g5 : Nat) (tg7 : TypeId) (vo8 : Value) (vo9 : Value) (hL11 : Lent w [.box g3 tg10 [.pointer (some ⟨g5, 0, none⟩)], .box g5 tg7 (v64 cv2.XB :: (cv2.Xb.cs ++ [vo8, vo9]))]) (rv1 : Xc) (r : Int) (hF : ZE rv1 cv2 = some r) :
  CallsR Tryz.prog 54 [.agg (rv1.cs).toArray, .pointer (some ⟨g3, 0, none⟩)] w (fun v w' => v = v8 r ∧ Mem w [] w' []) := Calls.mono (VW w g3 tg10 cv2 g5 tg7 vo8 vo9 hL11 rv1 r hF) fun e w1 ⟨v, he, hv, hm⟩ => ⟨v, he, hv, hm.still hL11 rfl rfl⟩
theorem XaH (w : World) (g2 : Nat) (tg7 : TypeId) (t1 : Xw) (A4 : Option Addr) (c5 : Nat) (hL8 : Lent w [.box g2 tg7 [.slice A4 (t1.Xp).length c5, vI t1.XG], .row A4 c5 140 39 (t1.Xp).length ((t1.Xp).flatMap Xt)]) (r : Int × Xw) (hF : KN t1 = some r) :
  CallsR Tryz.prog 124 [.pointer (some ⟨g2, 0, none⟩)] w (fun v w' => ∃ (A0 : Option Addr) (c0 : Nat), v = vI r.1 ∧ Mem w [some g2, rblk A4 c5] w' [.box g2 tg7 [.slice A0 (r.2.Xp).length c0, vI r.2.XG], .row A0 c0 140 39 r.2.Xp.length (r.2.Xp.flatMap Xt)]) := by
 refine XJ Tryz.func124 rfl Tryz.ntmps124 rfl ?_
 have hM : Mem w [some g2, rblk A4 c5] w [.box g2 tg7 [.slice A4 (t1.Xp).length c5, vI t1.XG], .row A4 c5 140 39 (t1.Xp).length ((t1.Xp).flatMap Xt)] := Mem.lendN hL8
 unfold KN at hF
 refine sr fun Q9 hQ9 => ?_
 refine va rfl rfl (nt hQ9 ?_)
 refine KC.seqH fun Q10 hQ10 => ?_
 refine sr fun Q11 hQ11 => ?_
 refine vm rfl rfl (RL.val (O.peqn Tryz.underlying63 rfl rfl) rfl (nt hQ11 (KC.condF rfl (KC.skip (KQ.thn hQ10 ?_)))))
 refine sr fun Q12 hQ12 => ?_
 refine vm rfl rfl (RL.val (O.nilp rfl) rfl (RL.val (O.fldA fl119_0 (by decide) rfl) rfl ?_))
 refine RL.val (O.load sc117 rfl (Cs.adds [0] ((hM.bx (i := 0) rfl)) rfl)) rfl (RL.val (O.len sl117 rfl) rfl (va rfl rfl (nt hQ12 (KC.ret ?_))))
 have hE := Option.some.inj hF
 clear hF
 subst hE
 refine KQ.rets Tryz.results124 (RVs.cons (RV.tm rfl) RVs.nil) ?_
 exact ⟨_, rfl, A4, c5, rfl, hM⟩
theorem Xbc (w : World) (kv1 : Xe) (r : Int) (hF : Vp kv1 = some r) :
  CallsR Tryz.prog 125 [.agg (kv1.cs).toArray] w (fun v w' => v = v64 r ∧ Mem w [] w' []) := by
 refine XJ Tryz.func125 rfl Tryz.ntmps125 rfl ?_
 have hM := Mem.init w
 unfold Vp at hF
 refine sr fun Q2 hQ2 => ?_
 refine RL.eff (E.box (vs := (kv1.cs)) hM rfl rfl) rfl fun v w4 hv => ?_
 clear hM
 obtain ⟨g3, rfl, hM, hf⟩ := hv
 refine va rfl rfl (nt hQ2 ?_)
 refine sr fun Q6 hQ6 => ?_
 refine va rfl rfl (nt hQ6 ?_)
 refine KC.seqH fun Q7 hQ7 => ?_
 refine sr fun Q8 hQ8 => ?_
 refine RL.val (O.loadN (cs := (kv1.cs)) ag42 rfl (Cs.addsN [] ((hM.bx (i := 0) rfl)) rfl)) rfl ?_
 refine Xx hF fun y9 hx10 hF => ?_
 refine RL.call Tryz.func106 bd106 rfl rfl (Vb _ kv1 _ hx10) fun v w11 hv => ?_
 obtain ⟨A13, c14, rfl, hN12⟩ := hv
 replace hM := hM.call hN12
 refine RL.val (O.len sl156 rfl) rfl (vm rfl rfl (nt hQ8 (KC.block ?_)))
 refine KC.loop (fun k38 a w36 => ∃ (h33 t35 : Int), Kn 20 [(3, v64 h33), (7, .slice A13 (y9).length c14), (8, vI (y9.length : Int)), (9, vI t35)] a ∧ Mem w [] w36 [.row A13 c14 5 1 (y9).length ((y9).flatMap (eI .u8))] ∧ KW y9 k38 h33 t35 = some r) ?_ ?_
 ·replace hM := hM.pick [1] rfl (by decide)
  exact fun a ha => ⟨fuel0, 14695981039346656037, 0, ha.less (Xa rfl (Xa rfl (Xa rfl (Xa rfl Xj)))), hM, hF⟩
 rintro k38 a w36 ⟨h33, t35, ha, hM, hF⟩
 refine KC.app ha ?_
 clear ha
 cases k38 with
 | zero => exact (Yl hF).elim
 | succ k38 =>
 have hF : Uu (KW y9 k38) y9 h33 t35 = some r := hF
 unfold Uu at hF
 refine sr fun Q39 hQ39 => ?_
 refine RL.val (O.lss rfl rfl) rfl (nt hQ39 ?_)
 refine KC.seqH fun Q40 hQ40 => ?_
 refine KC.cond rfl (fun hc => ?_) (fun hc => ?_)
 ·rw [if_pos hc] at hF
  refine KC.skip (KQ.thn hQ40 ?_)
  refine KC.seqH fun Q41 hQ41 => ?_
  refine KC.block ?_
  refine sr fun Q42 hQ42 => ?_
  refine Xx hF fun xv45 hx44 hF => ?_
  have hA43 := Rd.atN (f := (eI .u8)) (s := 1) (fun _ => rfl) (by decide) (hM.rd (i := 0) rfl) hx44
  refine RL.val (O.idxA sl156 (hA43) rfl rfl) rfl (RL.val (O.load sc5 rfl (hA43).cells.at0) rfl (va rfl rfl (nt hQ42 (KC.region (vm rfl rfl (vm rfl rfl ?_))))))
  refine RL.val (O.conv un5 Tryz.underlying22 rfl) rfl (RL.val (O.xor rfl rfl) rfl (RL.val (O.mul rfl rfl) rfl (va rfl rfl (RL.nil (KQ.blk_n (KQ.thn hQ41 ?_))))))
  refine KC.region (RL.val (O.add rfl rfl) rfl (vm rfl rfl (RL.nil (KQ.Xy ?_))))
  exact fun a ha => ⟨k38, Nat.lt_succ_self k38, (IntKind.u64.wrap ((bits .xor .u64 h33 (IntKind.u64.wrap xv45)) * 1099511628211)), (IntKind.i64.wrap (t35 + 1)), ha.less (Xa rfl (Xa rfl (Xa rfl (Xa rfl Xj)))), hM, hF⟩
 rw [if_neg (Xv hc)] at hF
 refine KC.exit (KQ.thx hQ40 (KQ.then_x (KQ.blk_x (KQ.thn hQ7 ?_))))
 refine sr fun Q46 hQ46 => ?_
 refine vm rfl rfl (va rfl rfl (nt hQ46 (KC.ret ?_)))
 have hE := Option.some.inj hF
 clear hF
 subst hE
 replace hM := hM.pick [] rfl (by decide)
 refine KQ.rets Tryz.results125 (RVs.cons (RV.tm rfl) RVs.nil) ?_
 exact ⟨_, rfl, rfl, hM⟩
theorem Ve (w : World) (g2 : Nat) (tg7 : TypeId) (t1 : Xw) (A4 : Option Addr) (c5 : Nat) (hL9 : Lent w [.box g2 tg7 [.slice A4 (t1.Xp).length c5, vI t1.XG], .row A4 c5 140 39 (t1.Xp).length ((t1.Xp).flatMap Xt)]) (kv8 : Xe) (r : Int × Int × Xw) (hF : Ym t1 kv8 = some r) :
  CallsR Tryz.prog 94 [.pointer (some ⟨g2, 0, none⟩), .agg (kv8.cs).toArray] w (fun v w' => ∃ (A0 : Option Addr) (c0 : Nat), v = .tuple #[vI r.1, vI r.2.1] ∧ Mem w [some g2, rblk A4 c5] w' [.box g2 tg7 [.slice A0 (r.2.2.Xp).length c0, vI r.2.2.XG], .row A0 c0 140 39 r.2.2.Xp.length (r.2.2.Xp.flatMap Xt)]) := by
 refine calls_KCM Tryz.func94 rfl Tryz.ntmps94 rfl ?_
 have hM : Mem w [some g2, rblk A4 c5] w [.box g2 tg7 [.slice A4 (t1.Xp).length c5, vI t1.XG], .row A4 c5 140 39 (t1.Xp).length ((t1.Xp).flatMap Xt)] := Mem.lendN hL9
 unfold Ym at hF
 refine sr fun Q10 hQ10 => ?_
 refine RL.eff (E.box (vs := [.pointer (some ⟨g2, 0, none⟩)]) hM rfl rfl) rfl fun v w12 hv => ?_
 clear hM
 obtain ⟨g11, rfl, hM, hf⟩ := hv
 refine RL.eff (E.box (vs := (kv8.cs)) hM rfl rfl) rfl fun v w15 hv => ?_
 clear hM
 obtain ⟨g14, rfl, hM, hf⟩ := hv
 refine RL.eff (E.alloc hM ze3) rfl fun v w18 hv => ?_
 clear hM
 obtain ⟨g17, rfl, hM, hf⟩ := hv
 refine RL.eff (E.alloc hM ze3) rfl fun v w21 hv => ?_
 clear hM
 obtain ⟨g20, rfl, hM, hf⟩ := hv
 refine nt hQ10 ?_
 refine KC.seqH fun Q23 hQ23 => ?_
 refine sr fun Q24 hQ24 => ?_
 refine RL.val (O.load sc63 rfl (Cs.adds [] ((hM.bx (i := 2) rfl)) rfl)) rfl (RL.val (O.peqn Tryz.underlying63 rfl rfl) rfl (nt hQ24 (KC.condF rfl (KC.skip (KQ.thn hQ23 ?_)))))
 refine KC.seqH fun Q25 hQ25 => ?_
 refine sr fun Q26 hQ26 => ?_
 refine RL.val (O.load sc63 rfl (Cs.adds [] ((hM.bx (i := 2) rfl)) rfl)) rfl (RL.val (O.loadN (cs := (kv8.cs)) ag42 rfl (Cs.addsN [] ((hM.bx (i := 3) rfl)) rfl)) rfl (RL.icall Tryz.func110 bd110 rfl rfl rfl Tryz.ntmps110 rfl ?_))
 refine sr fun Q27 hQ27 => ?_
 refine RL.eff (E.box (vs := [.pointer (some ⟨g2, 0, none⟩)]) hM rfl rfl) rfl fun v w29 hv => ?_
 clear hM
 obtain ⟨g28, rfl, hM, hf⟩ := hv
 refine RL.eff (E.box (vs := (kv8.cs)) hM rfl rfl) rfl fun v w32 hv => ?_
 clear hM
 obtain ⟨g31, rfl, hM, hf⟩ := hv
 refine va rfl rfl (nt hQ27 ?_)
 refine sr fun Q34 hQ34 => ?_
 refine RL.val (O.mkf rfl rfl) rfl (va rfl rfl (nt hQ34 (KC.ret (KQ.rets Tryz.results110 (RVs.cons (RV.tm rfl) RVs.nil) (⟨.func (.func 123) #[] #[.pointer (some ⟨g28, 0, none⟩), .pointer (some ⟨g31, 0, none⟩)], rfl, ?_⟩)))))
 refine nt hQ26 (KC.block ?_)
 refine KC.range (lb := [.pointer (some ⟨g28, 0, none⟩), .pointer (some ⟨g31, 0, none⟩)]) hM rfl Tryz.func123 bd123 rfl Tryz.ntmps123 rfl fun a35 rc37 l39 D40 w41 ha36 hrc38 hM1 hf42 => ?_
 clear hM
 have hM := hM1
 clear hM1
 refine sr fun Q45 hQ45 => ?_
 refine RL.val (O.load sc63 rfl (Cs.adds [] ((hM.bx (i := 6) rfl)) rfl)) rfl ?_
 refine Xx hF fun y46 hx47 hF => ?_
 refine RL.call Tryz.func124 bd124 rfl rfl (XaH _ _ _ t1 _ _ (hM.lent [0, 1] rfl (by decide)) _ hx47) fun v w48 hv => ?_
 obtain ⟨A50, c51, rfl, hN49⟩ := hv
 replace hM := hM.callL [0, 1] [2, 3, 4, 5, 6, 7, 8, 9] rfl rfl (by decide) rfl hN49
 refine RL.val (O.conv un3 Tryz.underlying22 rfl) rfl (va rfl rfl (nt hQ45 ?_))
 refine sr fun Q53 hQ53 => ?_
 refine vm rfl rfl (vm rfl rfl (nt hQ53 (KC.block ?_)))
 refine KC.loop (fun k182 a w180 => ∃ (t173 t178 : Int), Kn 24 [(0, .func (.yield l39) #[] #[]), (2, .pointer (some ⟨g31, 0, none⟩)), (4, v64 (IntKind.u64.wrap y46.1)), (9, v64 (IntKind.u64.wrap y46.1)), (10, v64 t173)] a ∧ Mem w [some g2, rblk A4 c5] w180 [.res [D40] (DefAt D40), .res [l39] (LoopAt l39 rc37 .ready none), .row A50 c51 140 39 (y46.2.Xp).length ((y46.2.Xp).flatMap Xt), .box g2 tg7 [.slice A50 (y46.2.Xp).length c51, vI y46.2.XG], .box g31 42 (kv8.cs), .box g11 63 [.pointer (some ⟨g2, 0, none⟩)], .box g14 42 (kv8.cs), .box g17 3 [vI 0], .box g20 3 [vI t178], .box g28 63 [.pointer (some ⟨g2, 0, none⟩)]] ∧ Yq kv8 y46 k182 t173 t178 = some r) ?_ ?_
 ·replace hM := hM.pick [6, 7, 9, 8, 5, 0, 1, 2, 3, 4] rfl (by decide)
  exact fun a ha => ⟨fuel0, 0, 0, ha.less (Xa rfl (Xa rfl (Xa rfl (Xa rfl (Xa rfl Xj))))), hM, hF⟩
 rintro k182 a w180 ⟨t173, t178, ha, hM, hF⟩
 refine KC.app ha ?_
 clear ha
 cases k182 with
 | zero => exact (Yl hF).elim
 | succ k182 =>
 have hF : YM (Yq kv8 y46 k182) kv8 y46 t173 t178 = some r := hF
 unfold YM at hF
 refine sr fun Q183 hQ183 => ?_
 refine RL.val (O.lss rfl rfl) rfl (nt hQ183 ?_)
 refine KC.seqH fun Q184 hQ184 => ?_
 refine KC.cond rfl (fun hc => ?_) (fun hc => ?_)
 ·rw [if_pos hc] at hF
  refine KC.skip (KQ.thn hQ184 ?_)
  refine KC.seqH fun Q185 hQ185 => ?_
  refine KC.block ?_
  refine sr fun Q186 hQ186 => ?_
  refine vm rfl rfl (va rfl rfl (nt hQ186 ?_))
  refine sr fun Q187 hQ187 => ?_
  refine vm rfl rfl (RL.val (O.loadN (cs := (kv8.cs)) ag42 rfl (Cs.addsN [] ((hM.bx (i := 4) rfl)) rfl)) rfl ?_)
  refine Xx hF fun y188 hx189 hF => ?_
  refine RL.call Tryz.func125 bd125 rfl rfl (Xbc _ kv8 _ hx189) fun v w190 hv => ?_
  obtain ⟨rfl, hN191⟩ := hv
  replace hM := hM.call0 hN191
  refine vm rfl rfl (RL.val (O.add rfl rfl) rfl (vm rfl rfl ?_))
  refine XZ hF fun hq192 hF => ?_
  refine RL.val (O.rem rfl rfl (of_decide_eq_true hq192)) rfl (RL.val (O.conv un22 Tryz.underlying3 rfl) rfl (RL.yield hM (i := 1) rfl ha36 hrc38 rfl rfl rfl rfl rfl (KC.region (va rfl rfl (RL.nil ?_)))))
  refine KQ.begin hM (i := 1) rfl fun w193 hM1 hf194 => ?_
  clear hM
  have hM := hM1
  clear hM1
  refine KC.block ?_
  refine sr fun Q195 hQ195 => ?_
  refine RL.val (O.load sc3 rfl (Cs.adds [] ((hM.bx (i := 8) rfl)) rfl)) rfl (RL.val (O.add rfl rfl) rfl ?_)
  refine RL.effs (E.stB (j := 8) (off := 0) (vs := [vI (IntKind.i64.wrap (t178 + 1))]) (cs' := [vI (IntKind.i64.wrap (t178 + 1))]) hM rfl sz3 rfl (XX [] rfl) rfl rfl (One.all rfl) rfl rfl) fun w196 hM1 => ?_
  clear hM
  have hM := hM1
  clear hM1
  refine nt hQ195 ?_
  refine KC.cut (fun a w214 => ∃ (t209 : Bool), Kn 39 [(4, .pointer (some ⟨g17, 0, none⟩)), (5, .pointer (some ⟨g20, 0, none⟩)), (6, vI (IntKind.i64.wrap (Int.tmod (IntKind.u64.wrap (y188 + t173)) (IntKind.u64.wrap y46.1)))), (35, vB t209)] a ∧ Mem w [some g2, rblk A4 c5] w214 [.res [D40] (DefAt D40), .res [l39] (LoopAt l39 rc37 .busy none), .row A50 c51 140 39 (y46.2.Xp).length ((y46.2.Xp).flatMap Xt), .box g2 tg7 [.slice A50 (y46.2.Xp).length c51, vI y46.2.XG], .box g17 3 [vI 0], .box g20 3 [vI (IntKind.i64.wrap (t178 + 1))], .box g11 63 [.pointer (some ⟨g2, 0, none⟩)], .box g14 42 (kv8.cs), .box g28 63 [.pointer (some ⟨g2, 0, none⟩)], .box g31 42 (kv8.cs)] ∧ JJ y46 t173 t178 (Yq kv8 y46 k182) y188 t209 = some r) ?_ ?_
  ·replace hM := hM.drewN 1
   refine KC.draw [] [] [] [1, 2, 4, 6, 8, 9, 11, 12, 14, 16, 19, 20] (.ofList [0, 1, 2, 3, 4, 5, 6, 7, 8, 9, 10, 11, 12, 13, 14, 15, 16, 17, 18, 19, 20]) moP (by kernel_rfl) ?_
   refine RD.q rfl rfl rfl rfl (fun w' hf => O.load sc63 rfl (Cs.adds [] ((hM.bx (i := 5) rfl).fut hf) rfl)) ?_
   refine RD.p rfl rfl rfl rfl (fun w' => O.nilp rfl) ?_
   refine RD.p rfl rfl rfl rfl (fun w' => O.fldA fl119_0 (by decide) rfl) ?_
   refine RD.q rfl rfl rfl rfl (fun w' hf => O.load sc117 rfl (Cs.adds [0] ((hM.bx (i := 3) rfl).fut hf) rfl)) ?_
   refine RD.p rfl rfl rfl rfl (fun w' => O.move rfl) ?_
   refine Xx hF fun xv199 hx198 hF => ?_
   have hA197 := Rd.atN (f := Xt) (s := 39) (fun _ => rfl) (by decide) (hM.rd (i := 2) rfl) hx198
   refine RD.q rfl rfl rfl rfl (fun w' hf => O.idxA sl117 (hA197.fut hf) rfl rfl) ?_
   refine RD.p rfl rfl rfl rfl (fun w' => O.fldA fl140_0 (by decide) rfl) ?_
   refine RD.q rfl rfl rfl rfl (fun w' hf => O.load sc4 rfl (Cs.adds [0] (hA197.fut hf).cells rfl)) ?_
   refine RD.p rfl rfl rfl rfl (fun w' => O.not rfl) ?_
   refine RD.p rfl rfl rfl rfl (fun w' => O.move rfl) ?_
   refine RD.bcase (t := 24) rfl (fun hc => ?_) (fun hc => ?_)
   ·rw [if_pos hc] at hF
    refine RD.brun1 [10, 11, 12, 13, 14, 15, 16, 17, 18, 19, 20] 35 true (by kernel_rfl) ?_
    refine RD.nil (KQ.Xy ?_)
    replace hM := hM.pick [0, 1, 2, 3, 7, 8, 5, 6, 9, 4] rfl (by decide)
    exact fun a ha => ⟨true, ha.less (Xa rfl (Xa rfl (Xa rfl (Xa rfl Xj)))), hM, hF⟩
   rw [if_neg (Xv hc)] at hF
   refine RD.gq rfl rfl rfl rfl rfl rfl (fun w' hf => O.load sc63 rfl (Cs.adds [] ((hM.bx (i := 5) rfl).fut hf) rfl)) ?_
   refine RD.gp rfl rfl rfl rfl rfl rfl (fun w' => O.nilp rfl) ?_
   refine RD.gp rfl rfl rfl rfl rfl rfl (fun w' => O.fldA fl119_0 (by decide) rfl) ?_
   refine RD.gq rfl rfl rfl rfl rfl rfl (fun w' hf => O.load sc117 rfl (Cs.adds [0] ((hM.bx (i := 3) rfl).fut hf) rfl)) ?_
   refine RD.gp rfl rfl rfl rfl rfl rfl (fun w' => O.move rfl) ?_
   refine Xx hF fun xv202 hx201 hF => ?_
   have hA200 := Rd.atN (f := Xt) (s := 39) (fun _ => rfl) (by decide) (hM.rd (i := 2) rfl) hx201
   refine RD.gq rfl rfl rfl rfl rfl rfl (fun w' hf => O.idxA sl117 (hA200.fut hf) rfl rfl) ?_
   refine RD.gp rfl rfl rfl rfl rfl rfl (fun w' => O.fldA fl140_1 (by decide) rfl) ?_
   refine RD.gq rfl rfl rfl rfl rfl rfl (fun w' hf => O.loadN (cs := (xv202.Xo.cs)) ag42 rfl (Cs.addsN [1] (hA200.fut hf).cells rfl)) ?_
   refine RD.gq rfl rfl rfl rfl rfl rfl (fun w' hf => O.loadN (cs := (kv8.cs)) ag42 rfl (Cs.addsN [] ((hM.bx (i := 6) rfl).fut hf) rfl)) ?_
   refine RD.gp rfl rfl rfl rfl rfl rfl (fun w' => O.steq (cs := (xv202.Xo.cs)) (cs' := (kv8.cs)) (by kernel_rfl) rfl rfl (Q42t xv202.Xo kv8 _ rfl rfl)) ?_
   refine RD.p rfl rfl rfl rfl (fun w' => O.pickf rfl rfl) (RD.nil (KQ.Xy ?_))
   replace hM := hM.pick [0, 1, 2, 3, 7, 8, 5, 6, 9, 4] rfl (by decide)
   exact fun a ha => ⟨(Yg xv202.Xo kv8), ha.less (Xa rfl (Xa rfl (Xa rfl (Xa rfl Xj)))), hM, hF⟩
  rintro a w214 ⟨t209, ha, hM, hF⟩
  refine KC.app ha ?_
  clear ha
  unfold JJ at hF
  refine KC.cond rfl (fun hc => ?_) (fun hc => ?_)
  ·rw [if_pos hc] at hF
   refine KC.cut (fun a w229 => Kn 39 [] a ∧ Mem w [some g2, rblk A4 c5] w229 [.res [D40] (DefAt D40), .res [l39] (LoopAt l39 rc37 .busy none), .row A50 c51 140 39 (y46.2.Xp).length ((y46.2.Xp).flatMap Xt), .box g2 tg7 [.slice A50 (y46.2.Xp).length c51, vI y46.2.XG], .box g11 63 [.pointer (some ⟨g2, 0, none⟩)], .box g14 42 (kv8.cs), .box g17 3 [vI (IntKind.i64.wrap (Int.tmod (IntKind.u64.wrap (y188 + t173)) (IntKind.u64.wrap y46.1)))], .box g20 3 [vI (IntKind.i64.wrap (t178 + 1))], .box g28 63 [.pointer (some ⟨g2, 0, none⟩)], .box g31 42 (kv8.cs)] ∧ KL y46 t173 t178 y188 = some r) ?_ ?_
   ·replace hM := hM.drewN 1
    refine KC.draw [] [2, 3] [1, 2, 3] [0] (.cons 0 (.alt 1 (.ofList [2, 3]) 2 (.ofList [1, 3]))) moP (by kernel_rfl) ?_
    refine RD.p rfl rfl rfl rfl (fun w' => O.move rfl) ?_
    refine RD.alt ?_ ?_
    ·refine RD.mq rfl rfl (O.load sc3 rfl (Cs.adds [] ((hM.bx (i := 5) rfl)) rfl)) rfl ?_
     refine RD.meffs rfl rfl rfl (E.stB (j := 4) (off := 0) (vs := [vI (IntKind.i64.wrap (Int.tmod (IntKind.u64.wrap (y188 + t173)) (IntKind.u64.wrap y46.1)))]) (cs' := [vI (IntKind.i64.wrap (Int.tmod (IntKind.u64.wrap (y188 + t173)) (IntKind.u64.wrap y46.1)))]) hM rfl sz3 rfl (XX [] rfl) rfl rfl (One.all rfl) rfl rfl) fun w215 hM1 => ?_
     clear hM
     have hM := hM1
     clear hM1
     refine RD.meffs rfl rfl rfl (E.stB (j := 5) (off := 0) (vs := [vI (IntKind.i64.wrap (t178 + 1))]) (cs' := [vI (IntKind.i64.wrap (t178 + 1))]) hM rfl sz3 rfl (XX [] rfl) rfl rfl (One.all rfl) rfl rfl) fun w216 hM1 => ?_
     clear hM
     have hM := hM1
     clear hM1
     refine RD.nil (KQ.Xy ?_)
     replace hM := hM.pick [0, 1, 2, 3, 6, 7, 4, 5, 8, 9] rfl (by decide)
     exact fun a ha => ⟨ha.less Xj, hM, hF⟩
    refine RD.meffs rfl rfl rfl (E.stB (j := 4) (off := 0) (vs := [vI (IntKind.i64.wrap (Int.tmod (IntKind.u64.wrap (y188 + t173)) (IntKind.u64.wrap y46.1)))]) (cs' := [vI (IntKind.i64.wrap (Int.tmod (IntKind.u64.wrap (y188 + t173)) (IntKind.u64.wrap y46.1)))]) hM rfl sz3 rfl (XX [] rfl) rfl rfl (One.all rfl) rfl rfl) fun w217 hM1 => ?_
    clear hM
    have hM := hM1
    clear hM1
    refine RD.mq rfl rfl (O.load sc3 rfl (Cs.adds [] ((hM.bx (i := 5) rfl)) rfl)) rfl ?_
    refine RD.meffs rfl rfl rfl (E.stB (j := 5) (off := 0) (vs := [vI (IntKind.i64.wrap (t178 + 1))]) (cs' := [vI (IntKind.i64.wrap (t178 + 1))]) hM rfl sz3 rfl (XX [] rfl) rfl rfl (One.all rfl) rfl rfl) fun w218 hM1 => ?_
    clear hM
    have hM := hM1
    clear hM1
    refine RD.nil (KQ.Xy ?_)
    replace hM := hM.pick [0, 1, 2, 3, 6, 7, 4, 5, 8, 9] rfl (by decide)
    exact fun a ha => ⟨ha.less Xj, hM, hF⟩
   rintro a w229 ⟨ha, hM, hF⟩
   refine KC.app ha ?_
   clear ha
   unfold KL at hF
   refine KC.ret (KQ.blk_r ?_)
   refine KQ.rret hM (i := 1) rfl fun w230 hM1 hf231 => ?_
   clear hM
   have hM := hM1
   clear hM1
   refine RL.val (O.not rfl) rfl (nt hQ187 (KC.condT rfl (KC.ret (KQ.blk_r (KQ.thr hQ185 (KQ.then_r ?_))))))
   refine KQ.blk_r ?_
   refine KQ.rendRC Tryz.results123 hM (i := 1) rfl (fun h => by cases h) ha36 fun w232 hM1 hf233 => ?_
   clear hM
   have hM := hM1
   clear hM1
   replace hM := hM.pick [0, 2, 3, 4, 5, 6, 7, 8, 9] rfl (by decide)
   refine KC.ret (KQ.blk_r (KQ.thr hQ25 ?_))
   have hE := Option.some.inj hF
   clear hF
   subst hE
   refine KQ.unmark hM (i := 0) rfl fun w234 hM1 => ?_
   clear hM
   have hM := hM1
   clear hM1
   replace hM := hM.pick [1, 2, 3, 4, 5, 6, 7, 8] rfl (by decide)
   have hb235 := hM.bx (i := 4) rfl
   have hb236 := hM.bx (i := 5) rfl
   replace hM := hM.pick [1, 0] rfl (by decide)
   refine KQ.retsM Tryz.results94 (RVs.cons (RV.c1 rfl sc3 hb235.at0) (RVs.cons (RV.c1 rfl sc3 hb236.at0) RVs.nil)) ?_
   exact ⟨_, rfl, A50, c51, rfl, hM⟩
  rw [if_neg (Xv hc)] at hF
  refine KC.skip (KQ.blk_n ?_)
  refine KQ.rnorm hM (i := 1) rfl fun w237 hM1 hf238 => ?_
  clear hM
  have hM := hM1
  clear hM1
  refine RL.val (O.not rfl) rfl (nt hQ187 (KC.condF rfl (KC.skip (KQ.blk_n (KQ.thn hQ185 (KC.region ?_))))))
  refine RL.val (O.add rfl rfl) rfl (vm rfl rfl (RL.nil (KQ.Xy ?_)))
  replace hM := hM.pick [0, 1, 2, 3, 9, 6, 7, 4, 5, 8] rfl (by decide)
  exact fun a ha => ⟨k182, Nat.lt_succ_self k182, (IntKind.u64.wrap (t173 + 1)), (IntKind.i64.wrap (t178 + 1)), ha.less (Xa rfl (Xa rfl (Xa rfl (Xa rfl (Xa rfl Xj))))), hM, hF⟩
 rw [if_neg (Xv hc)] at hF
 refine KC.exit (KQ.thx hQ184 (KQ.then_x (KQ.blk_x ?_)))
 refine KQ.rendN Tryz.results123 hM (i := 1) rfl (fun h => by cases h) ha36 fun w239 hM1 hf240 => ?_
 clear hM
 have hM := hM1
 clear hM1
 replace hM := hM.pick [0, 2, 3, 4, 5, 6, 7, 8, 9] rfl (by decide)
 refine KQ.blk_n (KQ.thn hQ25 ?_)
 replace hM := hM.pick [0, 1, 2, 6, 7] rfl (by decide)
 refine KC.cut (fun a w250 => Kn (Fr.mk 39 [Go.Ox.mark D40]) [(4, .pointer (some ⟨g17, 0, none⟩)), (5, .pointer (some ⟨g20, 0, none⟩))] a ∧ Mem w [some g2, rblk A4 c5] w250 [.res [D40] (DefAt D40), .row A50 c51 140 39 (y46.2.Xp).length ((y46.2.Xp).flatMap Xt), .box g2 tg7 [.slice A50 (y46.2.Xp).length c51, vI y46.2.XG], .box g17 3 [vI (-1)], .box g20 3 [vI t178]] ∧ UH y46 t178 = some r) ?_ ?_
 ·replace hM := hM.drewN 1
  refine KC.draw [] [1, 2] [0, 1, 2] [] (.alt 0 (.ofList [1, 2]) 1 (.ofList [0, 2])) moP (by kernel_rfl) ?_
  refine RD.alt ?_ ?_
  ·refine RD.mq rfl rfl (O.load sc3 rfl (Cs.adds [] ((hM.bx (i := 4) rfl)) rfl)) rfl ?_
   refine RD.meffs rfl rfl rfl (E.stB (j := 3) (off := 0) (vs := [vI (-1)]) (cs' := [vI (-1)]) hM rfl sz3 rfl (XX [] rfl) rfl rfl (One.all rfl) rfl rfl) fun w241 hM1 => ?_
   clear hM
   have hM := hM1
   clear hM1
   refine RD.meffs rfl rfl rfl (E.stB (j := 4) (off := 0) (vs := [vI t178]) (cs' := [vI t178]) hM rfl sz3 rfl (XX [] rfl) rfl rfl (One.all rfl) rfl rfl) fun w242 hM1 => ?_
   clear hM
   have hM := hM1
   clear hM1
   refine RD.nil (KQ.Xy ?_)
   exact fun a ha => ⟨ha.less (Xa rfl (Xa rfl Xj)), hM, hF⟩
  refine RD.meffs rfl rfl rfl (E.stB (j := 3) (off := 0) (vs := [vI (-1)]) (cs' := [vI (-1)]) hM rfl sz3 rfl (XX [] rfl) rfl rfl (One.all rfl) rfl rfl) fun w243 hM1 => ?_
  clear hM
  have hM := hM1
  clear hM1
  refine RD.mq rfl rfl (O.load sc3 rfl (Cs.adds [] ((hM.bx (i := 4) rfl)) rfl)) rfl ?_
  refine RD.meffs rfl rfl rfl (E.stB (j := 4) (off := 0) (vs := [vI t178]) (cs' := [vI t178]) hM rfl sz3 rfl (XX [] rfl) rfl rfl (One.all rfl) rfl rfl) fun w244 hM1 => ?_
  clear hM
  have hM := hM1
  clear hM1
  refine RD.nil (KQ.Xy ?_)
  exact fun a ha => ⟨ha.less (Xa rfl (Xa rfl Xj)), hM, hF⟩
 rintro a w250 ⟨ha, hM, hF⟩
 refine KC.app ha ?_
 clear ha
 unfold UH at hF
 refine KC.ret ?_
 have hE := Option.some.inj hF
 clear hF
 subst hE
 refine KQ.unmark hM (i := 0) rfl fun w251 hM1 => ?_
 clear hM
 have hM := hM1
 clear hM1
 replace hM := hM.pick [1, 2, 3, 4] rfl (by decide)
 have hb252 := hM.bx (i := 2) rfl
 have hb253 := hM.bx (i := 3) rfl
 replace hM := hM.pick [1, 0] rfl (by decide)
 refine KQ.retsM Tryz.results94 (RVs.cons (RV.c1 rfl sc3 hb252.at0) (RVs.cons (RV.c1 rfl sc3 hb253.at0) RVs.nil)) ?_
 exact ⟨_, rfl, A50, c51, rfl, hM⟩
end Go.Proofs.YtkpnocgfhipidaaGreat
