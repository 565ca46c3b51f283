/- Printed by a program of this claim: each call returns what the plain function of its name gives. -/
import Derived.Test.YtkpnocgfhipidaaGreatW1
import Derived.Test.YtkpnocgfhipidaaGreatW2
import Derived.Test.YtkpnocgfhipidaaGreatW3
import Derived.Test.YtkpnocgfhipidaaGreatW4
set_option linter.unusedVariables false
set_option maxRecDepth 100000
set_option maxHeartbeats 40000000
namespace Go.Proofs.YtkpnocgfhipidaaGreat
open Go Go.Ox Go.RowKit
theorem Kh (w : World) (g2 : Nat) (tg12 : TypeId) (cv1 : Xl) (g4 : Nat) (A6 : Option Addr) (c7 : Nat) (A9 : Option Addr) (c10 : Nat) (hL15 : Lent w [.box g2 tg12 (v64 cv1.XB :: (cv1.Xb.cs ++ [.pointer (some ⟨g4, 0, none⟩), .slice A9 (cv1.Xh).length c10])), .box g4 119 [.slice A6 (cv1.Xf.Xp).length c7, vI cv1.Xf.XG], .row A6 c7 140 39 (cv1.Xf.Xp).length ((cv1.Xf.Xp).flatMap Xt), .row A9 c10 62 44 (cv1.Xh).length ((cv1.Xh).flatMap Xn)]) (kv13 : Xe) (reason14 : Int) (r : Xc × Xl) (hF : Ys cv1 kv13 reason14 = some r) :
  CallsR Tryz.prog 46 [.pointer (some ⟨g2, 0, none⟩), .agg (kv13.cs).toArray, v8 reason14] w (fun v w' => ∃ (g0 : Nat) (A1 : Option Addr) (c1 : Nat) (A2 : Option Addr) (c2 : Nat), v = .agg (r.1.cs).toArray ∧ Mem w [some g2, some g4, rblk A6 c7, rblk A9 c10] w' [.box g2 tg12 (v64 r.2.XB :: (r.2.Xb.cs ++ [.pointer (some ⟨g0, 0, none⟩), .slice A2 (r.2.Xh).length c2])), .box g0 119 [.slice A1 (r.2.Xf.Xp).length c1, vI r.2.Xf.XG], .row A1 c1 140 39 r.2.Xf.Xp.length (r.2.Xf.Xp.flatMap Xt), .row A2 c2 62 44 r.2.Xh.length (r.2.Xh.flatMap Xn)]) := by
 refine XJ Tryz.func46 rfl Tryz.ntmps46 rfl ?_
 have hM : Mem w [some g2, some g4, rblk A6 c7, rblk A9 c10] w [.box g2 tg12 (v64 cv1.XB :: (cv1.Xb.cs ++ [.pointer (some ⟨g4, 0, none⟩), .slice A9 (cv1.Xh).length c10])), .box g4 119 [.slice A6 (cv1.Xf.Xp).length c7, vI cv1.Xf.XG], .row A6 c7 140 39 (cv1.Xf.Xp).length ((cv1.Xf.Xp).flatMap Xt), .row A9 c10 62 44 (cv1.Xh).length ((cv1.Xh).flatMap Xn)] := Mem.lendN hL15
 unfold Ys at hF
 refine sr fun Q16 hQ16 => ?_
 refine RL.eff (E.box (vs := (kv13.cs)) hM rfl rfl) rfl fun v w18 hv => ?_
 clear hM
 obtain ⟨g17, rfl, hM, hf⟩ := hv
 refine RL.eff (E.alloc hM ze62) rfl fun v w21 hv => ?_
 clear hM
 obtain ⟨g20, rfl, hM, hf⟩ := hv
 refine nt hQ16 ?_
 refine KC.seqH fun Q23 hQ23 => ?_
 replace hM := hM.drewN 1
 refine KC.draw [] [5] [5] [0, 1, 2, 6, 7, 8, 9, 10] (.ofList [0, 1, 2, 3, 4, 5, 6, 7, 8, 9, 10]) moP (by kernel_rfl) ?_
 refine RD.p rfl rfl rfl rfl (fun w' => O.move rfl) ?_
 refine RD.p rfl rfl rfl rfl (fun w' => O.nilp rfl) ?_
 refine RD.p rfl rfl rfl rfl (fun w' => O.fldA fl69_2 (by decide) rfl) ?_
 refine RD.q rfl rfl rfl rfl (fun w' hf => O.load sc63 rfl (Cs.adds [6] ((hM.bx (i := 0) rfl).fut hf) rfl)) ?_
 refine RD.q rfl rfl rfl rfl (fun w' hf => O.loadN (cs := (kv13.cs)) ag42 rfl (Cs.addsN [] ((hM.bx (i := 4) rfl).fut hf) rfl)) ?_
 refine Xx hF fun y24 hx25 hF => ?_
 refine RD.mcall rfl rfl trivial Tryz.func42 bd42 rfl rfl (UT _ _ _ cv1.Xf _ _ (hM.lent [1, 2] rfl (by decide)) kv13 _ hx25) fun v w26 hv => ?_
 obtain ⟨A28, c29, rfl, hN27⟩ := hv
 refine ⟨fun h => (by cases h), ?_⟩
 replace hM := hM.callL [1, 2] [0, 3, 4, 5] rfl rfl (by decide) rfl hN27
 refine RD.p rfl rfl rfl rfl (fun w' => O.move rfl) ?_
 refine RD.p rfl rfl rfl rfl (fun w' => O.ext rfl rfl) ?_
 refine RD.p rfl rfl rfl rfl (fun w' => O.ext rfl rfl) ?_
 refine RD.p rfl rfl rfl rfl (fun w' => O.assign rfl) ?_
 refine RD.p rfl rfl rfl rfl (fun w' => O.assign rfl) (RD.nil (KQ.thn hQ23 ?_))
 refine sr fun Q31 hQ31 => ?_
 refine vm rfl rfl (RL.val (O.nilp rfl) rfl (RL.val (O.fldA fl69_3 (by decide) rfl) rfl ?_))
 refine RL.val (O.load sc55 rfl (Cs.adds [7] ((hM.bx (i := 0) rfl)) rfl)) rfl (vm rfl rfl ?_)
 refine Xx hF fun xv34 hx33 hF => ?_
 have hA32 := Rd.atN (f := Xn) (s := 44) (fun _ => rfl) (by decide) (hM.rd (i := 1) rfl) hx33
 refine RL.val (O.idxA sl55 (hA32) rfl rfl) rfl (RL.val (O.loadN (cs := (xv34.cs)) ag62 rfl (hA32).cells) rfl ?_)
 refine RL.eff (E.alloc hM ze62) rfl fun v w36 hv => ?_
 clear hM
 obtain ⟨g35, rfl, hM, hf⟩ := hv
 refine RL.effs (E.stB (j := 6) (off := 0) (vs := (xv34.cs)) (cs' := (xv34.cs)) hM rfl sz62 rfl (XX [] rfl) rfl rfl (One.all rfl) rfl rfl) fun w38 hM1 => ?_
 clear hM
 have hM := hM1
 clear hM1
 refine nt hQ31 ?_
 refine sr fun Q39 hQ39 => ?_
 refine vm rfl rfl (RL.val (O.nilp rfl) rfl (RL.val (O.fldA fl69_3 (by decide) rfl) rfl ?_))
 refine RL.val (O.load sc55 rfl (Cs.adds [7] ((hM.bx (i := 0) rfl)) rfl)) rfl (RL.val (O.len sl55 rfl) rfl (RL.val (O.sub rfl rfl) rfl (va rfl rfl (nt hQ39 ?_))))
 refine KC.seqH fun Q40 hQ40 => ?_
 replace hM := hM.drewN 1
 refine KC.draw [] [5] [5] [0, 1, 2] (.ofList [0, 1, 2, 3, 4, 5]) moP (by kernel_rfl) ?_
 refine RD.p rfl rfl rfl rfl (fun w' => O.move rfl) ?_
 refine RD.p rfl rfl rfl rfl (fun w' => O.nilp rfl) ?_
 refine RD.p rfl rfl rfl rfl (fun w' => O.fldA fl69_2 (by decide) rfl) ?_
 refine RD.q rfl rfl rfl rfl (fun w' hf => O.load sc63 rfl (Cs.adds [6] ((hM.bx (i := 0) rfl).fut hf) rfl)) ?_
 refine RD.q rfl rfl rfl rfl (fun w' hf => O.loadN (cs := (kv13.cs)) ag42 rfl (Cs.addsN [] ((hM.bx (i := 2) rfl).fut hf) rfl)) ?_
 refine Xx hF fun y41 hx42 hF => ?_
 refine RD.mcall rfl rfl trivial Tryz.func80 bd80 rfl rfl (Xan _ _ _ y24.2.2 _ _ (hM.lent [4, 5] rfl (by decide)) kv13 _ hx42) fun v w43 hv => ?_
 obtain ⟨A45, c46, rfl, hN44⟩ := hv
 refine ⟨fun h => (by cases h), ?_⟩
 replace hM := hM.callL [4, 5] [0, 1, 2, 3, 6] rfl rfl (by decide) rfl hN44
 refine RD.nil (KQ.thn hQ40 ?_)
 replace hM := hM.pick [0, 1, 3, 4, 5, 6] rfl (by decide)
 refine KC.cut (fun a w83 => ∃ (A73 : Option Addr) (c74 : Nat) (A78 : Option Addr) (c79 : Nat) (p75 : List Xm) (p76 : Int) (p80 : List Xc), Kn 78 [(0, .pointer (some ⟨g2, 0, none⟩)), (2, v8 reason14), (6, .pointer (some ⟨g20, 0, none⟩)), (9, .pointer (some ⟨g35, 0, none⟩)), (10, vI (IntKind.i64.wrap ((cv1.Xh.length : Int) - 1)))] a ∧ Mem w [some g2, some g4, rblk A6 c7, rblk A9 c10] w83 [.row A73 c74 140 39 (p75).length ((p75).flatMap Xt), .box g4 119 [.slice A73 (p75).length c74, vI p76], .row A78 c79 62 44 (p80).length ((p80).flatMap Xn), .box g2 tg12 (v64 cv1.XB :: (cv1.Xb.cs ++ [.pointer (some ⟨g4, 0, none⟩), .slice A78 (p80).length c79])), .box g20 62 (vB false :: (a16 (List.replicate 16 0) ++ (vB false :: (a16 (List.replicate 16 0) ++ [v8 0, v16 0, v16 0, v64 0, v64 0, v64 0, v64 0, v8 0, v8 0, v8 0])))), .box g35 62 (xv34.cs)] ∧ Jq cv1 reason14 xv34 p75 p76 p80 = some r) ?_ ?_
 ·refine sr fun Q48 hQ48 => ?_
  refine vm rfl rfl (RL.val (O.nilp rfl) rfl (RL.val (O.fldA fl69_3 (by decide) rfl) rfl ?_))
  refine RL.val (O.load sc55 rfl (Cs.adds [7] ((hM.bx (i := 0) rfl)) rfl)) rfl (vm rfl rfl ?_)
  refine Xx hF fun xv51 hx50 hF => ?_
  have hA49 := Rd.atN (f := Xn) (s := 44) (fun _ => rfl) (by decide) (hM.rd (i := 1) rfl) hx50
  refine RL.val (O.idxA sl55 (hA49) rfl rfl) rfl (RL.val (O.loadN (cs := (xv51.cs)) ag62 rfl (hA49).cells) rfl ?_)
  refine RL.eff (E.alloc hM ze62) rfl fun v w53 hv => ?_
  clear hM
  obtain ⟨g52, rfl, hM, hf⟩ := hv
  refine RL.effs (E.stB (j := 6) (off := 0) (vs := (xv51.cs)) (cs' := (xv51.cs)) hM rfl sz62 rfl (XX [] rfl) rfl rfl (One.all rfl) rfl rfl) fun w55 hM1 => ?_
  clear hM
  have hM := hM1
  clear hM1
  refine nt hQ48 ?_
  refine sr fun Q56 hQ56 => ?_
  refine vm rfl rfl (RL.val (O.conv un3 Tryz.underlying22 rfl) rfl (vm rfl rfl (RL.val (O.neq rfl rfl) rfl (nt hQ56 ?_))))
  refine KC.cond rfl (fun hc => ?_) (fun hc => ?_)
  ·rw [if_pos hc] at hF
   refine KC.seqH fun Q57 hQ57 => ?_
   replace hM := hM.drewN 1
   refine KC.draw [] [7] [7] [0, 1, 2, 4] (.ofList [0, 1, 2, 3, 4, 5, 6, 7]) moP (by kernel_rfl) ?_
   refine RD.p rfl rfl rfl rfl (fun w' => O.move rfl) ?_
   refine RD.p rfl rfl rfl rfl (fun w' => O.nilp rfl) ?_
   refine RD.p rfl rfl rfl rfl (fun w' => O.fldA fl69_3 (by decide) rfl) ?_
   refine RD.q rfl rfl rfl rfl (fun w' hf => O.load sc55 rfl (Cs.adds [7] ((hM.bx (i := 0) rfl).fut hf) rfl)) ?_
   refine RD.p rfl rfl rfl rfl (fun w' => O.move rfl) ?_
   refine RD.q rfl rfl rfl rfl (fun w' hf => O.loadN (cs := (xv51.cs)) ag62 rfl (Cs.addsN [] ((hM.bx (i := 6) rfl).fut hf) rfl)) ?_
   refine Xx hF fun xv60 hx59 hF => ?_
   have hA58 := Rd.atN (f := Xn) (s := 44) (fun _ => rfl) (by decide) (hM.rd (i := 1) rfl) hx59
   refine RD.q rfl rfl rfl rfl (fun w' hf => O.idxA sl55 (hA58.fut hf) rfl rfl) ?_
   refine RD.meffs rfl rfl rfl (E.stR (enc := Xn) (j := 1) (off := 0) (vs := (xv51.cs)) (x' := xv51) hM rfl (fun _ => rfl) hx59 sz62 rfl (addsR_eq [] rfl) rfl rfl (One.all rfl) rfl rfl) fun w61 hM1 => ?_
   clear hM
   obtain ⟨hM, hn62⟩ := hM1
   refine RD.reslot (t := 54) rfl hn62 ?_
   replace hM := hM.rebox (i := 0) (cs' := (v64 cv1.XB :: (cv1.Xb.cs ++ [.pointer (some ⟨g4, 0, none⟩), .slice A9 ((cv1.Xh.set (y24.1 : Int).toNat xv51)).length c10]))) rfl (by rw [← hn62])
   refine RD.nil (KQ.thn hQ57 ?_)
   replace hM := hM.drewN 1
   refine KC.draw [] [7] [7] [0, 1, 2, 4, 6] (.ofList [0, 1, 2, 3, 4, 5, 6, 7]) moP (by kernel_rfl) ?_
   refine RD.p rfl rfl rfl rfl (fun w' => O.move rfl) ?_
   refine RD.p rfl rfl rfl rfl (fun w' => O.nilp rfl) ?_
   refine RD.p rfl rfl rfl rfl (fun w' => O.fldA fl69_2 (by decide) rfl) ?_
   refine RD.q rfl rfl rfl rfl (fun w' hf => O.load sc63 rfl (Cs.adds [6] ((hM.bx (i := 0) rfl).fut hf) rfl)) ?_
   refine RD.p rfl rfl rfl rfl (fun w' => O.fldA fl62_0 (by decide) rfl) ?_
   refine RD.q rfl rfl rfl rfl (fun w' hf => O.loadN (cs := (xv51.Xo.cs)) ag42 rfl (Cs.addsN [0] ((hM.bx (i := 6) rfl).fut hf) rfl)) ?_
   refine RD.p rfl rfl rfl rfl (fun w' => O.move rfl) ?_
   refine Xx hF fun y63 hx64 hF => ?_
   refine RD.mcall rfl rfl trivial Tryz.func77 bd77 rfl rfl (V1 _ _ _ y41.2 _ _ (hM.lent [4, 5] rfl (by decide)) xv51.Xo y24.1 _ hx64) fun v w65 hv => ?_
   obtain ⟨A67, c68, rfl, hN66⟩ := hv
   refine ⟨fun h => (by cases h), ?_⟩
   replace hM := hM.callL [4, 5] [0, 1, 2, 3, 6] rfl rfl (by decide) rfl hN66
   refine RD.nil (KQ.Xy ?_)
   replace hM := hM.pick [6, 5, 1, 0, 2, 3] rfl (by decide)
   exact fun a ha => ⟨A67, c68, A9, c10, y63.2.Xp, y63.2.XG, (cv1.Xh.set (y24.1 : Int).toNat xv51), ha.less (Xa rfl (Xa rfl (Xa rfl (Xa rfl (Xa rfl Xj))))), hM, hF⟩
  rw [if_neg (Xv hc)] at hF
  refine KC.skip (KQ.Xy ?_)
  replace hM := hM.pick [5, 4, 1, 0, 2, 3] rfl (by decide)
  exact fun a ha => ⟨A45, c46, A9, c10, y41.2.Xp, y41.2.XG, cv1.Xh, ha.less (Xa rfl (Xa rfl (Xa rfl (Xa rfl (Xa rfl Xj))))), hM, hF⟩
 rintro a w83 ⟨A73, c74, A78, c79, p75, p76, p80, ha, hM, hF⟩
 refine KC.app ha ?_
 clear ha
 unfold Jq at hF
 refine sr fun Q84 hQ84 => ?_
 refine vm rfl rfl (vm rfl rfl (RL.val (O.nilp rfl) rfl (RL.val (O.fldA fl69_3 (by decide) rfl) rfl ?_)))
 refine RL.val (O.load sc55 rfl (Cs.adds [7] ((hM.bx (i := 3) rfl)) rfl)) rfl (vm rfl rfl ?_)
 refine Xx hF fun cut85 hy86 hF => ?_
 have hrd := (hM.rd (i := 2) rfl)
 replace hM := hM.short (enc := Xn) (fun _ => rfl) (i := 2) rfl hy86
 refine RL.val (O.short (A := A78) (c := c79) (xs := p80) (ys := cut85) sl55 hrd.cap hy86 rfl rfl) rfl (RL.val (O.nilp rfl) rfl (RL.val (O.fldA fl69_3 (by decide) rfl) rfl ?_))
 refine RL.effs (E.stB (j := 3) (off := 7) (vs := [.slice A78 (cut85).length c79]) (cs' := (v64 cv1.XB :: (cv1.Xb.cs ++ [.pointer (some ⟨g4, 0, none⟩), .slice A78 (cut85).length c79]))) hM rfl sz55 rfl (XX [7] rfl) rfl rfl (One.all rfl) rfl rfl) fun w88 hM1 => ?_
 clear hM
 have hM := hM1
 clear hM1
 refine nt hQ84 ?_
 refine sr fun Q89 hQ89 => ?_
 refine vm rfl rfl (RL.val (O.fldA fl62_6 (by decide) rfl) rfl ?_)
 refine RL.effs (E.stB (j := 5) (off := 42) (vs := [v8 reason14]) (cs' := (xv34.Xo.cs ++ [v64 xv34.Xk, v64 xv34.Xr, v64 xv34.X4, v64 xv34.Ya, v8 xv34.XO, v8 reason14, v8 xv34.XU])) hM rfl sz5 rfl (XX [42] rfl) rfl rfl (One.all rfl) rfl rfl) fun w90 hM1 => ?_
 clear hM
 have hM := hM1
 clear hM1
 refine nt hQ89 ?_
 refine sr fun Q91 hQ91 => ?_
 refine RL.val (O.loadN (cs := (xv34.Xo.cs ++ [v64 xv34.Xk, v64 xv34.Xr, v64 xv34.X4, v64 xv34.Ya, v8 xv34.XO, v8 reason14, v8 xv34.XU])) ag62 rfl (Cs.addsN [] ((hM.bx (i := 5) rfl)) rfl)) rfl ?_
 refine RL.effs (E.stB (j := 4) (off := 0) (vs := (xv34.Xo.cs ++ [v64 xv34.Xk, v64 xv34.Xr, v64 xv34.X4, v64 xv34.Ya, v8 xv34.XO, v8 reason14, v8 xv34.XU])) (cs' := (xv34.Xo.cs ++ [v64 xv34.Xk, v64 xv34.Xr, v64 xv34.X4, v64 xv34.Ya, v8 xv34.XO, v8 reason14, v8 xv34.XU])) hM rfl sz62 rfl (XX [] rfl) rfl rfl (One.all rfl) rfl rfl) fun w92 hM1 => ?_
 clear hM
 have hM := hM1
 clear hM1
 refine nt hQ91 (KC.ret ?_)
 have hE := Option.some.inj hF
 clear hF
 subst hE
 have hb93 := hM.bx (i := 4) rfl
 replace hM := hM.pick [3, 1, 0, 2] rfl (by decide)
 refine KQ.rets Tryz.results46 (RVs.cons (RV.cN (cs := (xv34.Xo.cs ++ [v64 xv34.Xk, v64 xv34.Xr, v64 xv34.X4, v64 xv34.Ya, v8 xv34.XO, v8 reason14, v8 xv34.XU])) rfl ag62 hb93) RVs.nil) ?_
 exact ⟨_, rfl, g4, A73, c74, A78, c79, rfl, hM⟩
theorem Zz (w : World) (g2 : Nat) (tg12 : TypeId) (cv1 : Xl) (g4 : Nat) (A6 : Option Addr) (c7 : Nat) (A9 : Option Addr) (c10 : Nat) (hL14 : Lent w [.box g2 tg12 (v64 cv1.XB :: (cv1.Xb.cs ++ [.pointer (some ⟨g4, 0, none⟩), .slice A9 (cv1.Xh).length c10])), .box g4 119 [.slice A6 (cv1.Xf.Xp).length c7, vI cv1.Xf.XG], .row A6 c7 140 39 (cv1.Xf.Xp).length ((cv1.Xf.Xp).flatMap Xt), .row A9 c10 62 44 (cv1.Xh).length ((cv1.Xh).flatMap Xn)]) (tick13 : Int) (r : (List Xc) × Xl) (hF : X5 cv1 tick13 = some r) :
  CallsR Tryz.prog 18 [.pointer (some ⟨g2, 0, none⟩), v64 tick13] w (fun v w' => ∃ (g0 : Nat) (A1 : Option Addr) (c1 : Nat) (A2 : Option Addr) (c2 : Nat) (A3 : Option Addr) (c3 : Nat), v = .slice A3 (r.1).length c3 ∧ Mem w [some g2, some g4, rblk A6 c7, rblk A9 c10] w' [.box g2 tg12 (v64 r.2.XB :: (r.2.Xb.cs ++ [.pointer (some ⟨g0, 0, none⟩), .slice A2 (r.2.Xh).length c2])), .box g0 119 [.slice A1 (r.2.Xf.Xp).length c1, vI r.2.Xf.XG], .row A1 c1 140 39 r.2.Xf.Xp.length (r.2.Xf.Xp.flatMap Xt), .row A2 c2 62 44 r.2.Xh.length (r.2.Xh.flatMap Xn), .row A3 c3 62 44 r.1.length (r.1.flatMap Xn)]) := by
 refine XJ Tryz.func18 rfl Tryz.ntmps18 rfl ?_
 have hM : Mem w [some g2, some g4, rblk A6 c7, rblk A9 c10] w [.box g2 tg12 (v64 cv1.XB :: (cv1.Xb.cs ++ [.pointer (some ⟨g4, 0, none⟩), .slice A9 (cv1.Xh).length c10])), .box g4 119 [.slice A6 (cv1.Xf.Xp).length c7, vI cv1.Xf.XG], .row A6 c7 140 39 (cv1.Xf.Xp).length ((cv1.Xf.Xp).flatMap Xt), .row A9 c10 62 44 (cv1.Xh).length ((cv1.Xh).flatMap Xn)] := Mem.lendN hL14
 unfold X5 at hF
 refine sr fun Q15 hQ15 => ?_
 refine RL.eff (E.box (vs := [.pointer (some ⟨g2, 0, none⟩)]) hM rfl rfl) rfl fun v w17 hv => ?_
 clear hM
 obtain ⟨g16, rfl, hM, hf⟩ := hv
 refine va rfl rfl (nt hQ15 ?_)
 refine KC.seqH fun Q19 hQ19 => ?_
 refine KC.cut (fun a w25 => Kn 48 [(1, v64 tick13), (2, .pointer (some ⟨g16, 0, none⟩)), (17, vB (decide (tick13 < cv1.XB)))] a ∧ Mem w [some g2, some g4, rblk A6 c7, rblk A9 c10] w25 [.row A6 c7 140 39 (cv1.Xf.Xp).length ((cv1.Xf.Xp).flatMap Xt), .box g4 119 [.slice A6 (cv1.Xf.Xp).length c7, vI cv1.Xf.XG], .row A9 c10 62 44 (cv1.Xh).length ((cv1.Xh).flatMap Xn), .box g2 tg12 (v64 cv1.XB :: (cv1.Xb.cs ++ [.pointer (some ⟨g4, 0, none⟩), .slice A9 (cv1.Xh).length c10])), .box g16 27 [.pointer (some ⟨g2, 0, none⟩)]] ∧ Z6 cv1 tick13 = some r) ?_ ?_
 ·refine KC.region (RL.val (O.load sc27 rfl (Cs.adds [] ((hM.bx (i := 4) rfl)) rfl)) rfl (RL.val (O.peqn Tryz.underlying27 rfl rfl) rfl (vm rfl rfl (RL.gval rfl rfl (O.move rfl) rfl (RL.gval rfl rfl (O.load sc27 rfl (Cs.adds [] ((hM.bx (i := 4) rfl)) rfl)) rfl (RL.gval rfl rfl (O.nilp rfl) rfl ?_))))))
  refine RL.gval rfl rfl (O.fldA fl69_0 (by decide) rfl) rfl ?_
  refine RL.gval rfl rfl (O.load sc22 rfl (Cs.adds [0] ((hM.bx (i := 0) rfl)) rfl)) rfl (RL.gval rfl rfl (O.lss rfl rfl) rfl (RL.val (O.pickf rfl rfl) rfl (RL.nil (KQ.Xy ?_))))
  replace hM := hM.pick [2, 1, 3, 0, 4] rfl (by decide)
  exact fun a ha => ⟨ha.less (Xa rfl (Xa rfl (Xa rfl Xj))), hM, hF⟩
 rintro a w25 ⟨ha, hM, hF⟩
 refine KC.app ha ?_
 clear ha
 unfold Z6 at hF
 refine KC.cond rfl (fun hc => ?_) (fun hc => ?_)
 ·rw [if_pos hc] at hF
  refine sr fun Q26 hQ26 => ?_
  refine va rfl rfl (nt hQ26 (KC.ret (KQ.thr hQ19 ?_)))
  have hE := Option.some.inj hF
  clear hF
  subst hE
  replace hM := hM.nilrow 62 44
  replace hM := hM.pick [3, 1, 0, 2, 5] rfl (by decide)
  refine KQ.rets Tryz.results18 (RVs.cons (RV.tm rfl) RVs.nil) ?_
  exact ⟨_, rfl, g4, A6, c7, A9, c10, none, 0, rfl, hM⟩
 rw [if_neg (Xv hc)] at hF
 refine KC.skip (KQ.thn hQ19 ?_)
 refine sr fun Q27 hQ27 => ?_
 refine RL.val (O.load sc27 rfl (Cs.adds [] ((hM.bx (i := 4) rfl)) rfl)) rfl (vm rfl rfl (RL.val (O.nilp rfl) rfl (RL.val (O.fldA fl69_0 (by decide) rfl) rfl ?_)))
 refine RL.effs (E.stB (j := 3) (off := 0) (vs := [v64 tick13]) (cs' := (v64 tick13 :: (cv1.Xb.cs ++ [.pointer (some ⟨g4, 0, none⟩), .slice A9 (cv1.Xh).length c10]))) hM rfl sz22 rfl (XX [0] rfl) rfl rfl (One.all rfl) rfl rfl) fun w28 hM1 => ?_
 clear hM
 have hM := hM1
 clear hM1
 refine nt hQ27 ?_
 refine sr fun Q29 hQ29 => ?_
 refine va rfl rfl (nt hQ29 ?_)
 refine KC.seqH fun Q30 hQ30 => ?_
 refine sr fun Q31 hQ31 => ?_
 refine RL.val (O.load sc27 rfl (Cs.adds [] ((hM.bx (i := 4) rfl)) rfl)) rfl (RL.val (O.nilp rfl) rfl (RL.val (O.fldA fl69_3 (by decide) rfl) rfl ?_))
 refine RL.val (O.load sc55 rfl (Cs.adds [7] ((hM.bx (i := 3) rfl)) rfl)) rfl (RL.val (O.len sl55 rfl) rfl (vm rfl rfl (nt hQ31 (KC.block ?_))))
 refine KC.loop (fun k120 a w118 => ∃ (A114 : Option Addr) (c115 : Nat) (lv116 : List Xc) (t117 : Int), Kn 48 [(1, v64 tick13), (2, .pointer (some ⟨g16, 0, none⟩)), (5, .slice A114 (lv116).length c115), (25, .slice A9 (cv1.Xh).length c10), (26, vI (cv1.Xh.length : Int)), (27, vI t117)] a ∧ Mem w [some g2, some g4, rblk A6 c7, rblk A9 c10] w118 [.row A6 c7 140 39 (cv1.Xf.Xp).length ((cv1.Xf.Xp).flatMap Xt), .box g4 119 [.slice A6 (cv1.Xf.Xp).length c7, vI cv1.Xf.XG], .row A9 c10 62 44 (cv1.Xh).length ((cv1.Xh).flatMap Xn), .box g2 tg12 (v64 tick13 :: (cv1.Xb.cs ++ [.pointer (some ⟨g4, 0, none⟩), .slice A9 (cv1.Xh).length c10])), .box g16 27 [.pointer (some ⟨g2, 0, none⟩)], .row A114 c115 62 44 (lv116).length ((lv116).flatMap Xn)] ∧ YU cv1 tick13 k120 lv116 t117 = some r) ?_ ?_
 ·replace hM := hM.nilrow 62 44
  exact fun a ha => ⟨fuel0, none, 0, ([]), 0, ha.less (Xa rfl (Xa rfl (Xa rfl (Xa rfl (Xa rfl (Xa rfl Xj)))))), hM, hF⟩
 rintro k120 a w118 ⟨A114, c115, lv116, t117, ha, hM, hF⟩
 refine KC.app ha ?_
 clear ha
 cases k120 with
 | zero => exact (Yl hF).elim
 | succ k120 =>
 have hF : ZU (YU cv1 tick13 k120) cv1 tick13 lv116 t117 = some r := hF
 unfold ZU at hF
 refine sr fun Q121 hQ121 => ?_
 refine RL.val (O.lss rfl rfl) rfl (nt hQ121 ?_)
 refine KC.seqH fun Q122 hQ122 => ?_
 refine KC.cond rfl (fun hc => ?_) (fun hc => ?_)
 ·rw [if_pos hc] at hF
  refine KC.skip (KQ.thn hQ122 ?_)
  refine KC.cut (fun a w153 => ∃ (A150 : Option Addr) (c151 : Nat) (lv152 : List Xc), Kn 48 [(1, v64 tick13), (2, .pointer (some ⟨g16, 0, none⟩)), (5, .slice A150 (lv152).length c151), (25, .slice A9 (cv1.Xh).length c10), (26, vI (cv1.Xh.length : Int)), (27, vI t117)] a ∧ Mem w [some g2, some g4, rblk A6 c7, rblk A9 c10] w153 [.row A6 c7 140 39 (cv1.Xf.Xp).length ((cv1.Xf.Xp).flatMap Xt), .box g4 119 [.slice A6 (cv1.Xf.Xp).length c7, vI cv1.Xf.XG], .row A9 c10 62 44 (cv1.Xh).length ((cv1.Xh).flatMap Xn), .box g2 tg12 (v64 tick13 :: (cv1.Xb.cs ++ [.pointer (some ⟨g4, 0, none⟩), .slice A9 (cv1.Xh).length c10])), .box g16 27 [.pointer (some ⟨g2, 0, none⟩)], .row A150 c151 62 44 (lv152).length ((lv152).flatMap Xn)] ∧ ZV t117 (YU cv1 tick13 k120) lv152 = some r) ?_ ?_
  ·refine KC.block ?_
   refine sr fun Q123 hQ123 => ?_
   refine Xx hF fun xv126 hx125 hF => ?_
   have hA124 := Rd.atN (f := Xn) (s := 44) (fun _ => rfl) (by decide) (hM.rd (i := 2) rfl) hx125
   refine RL.val (O.idxA sl55 (hA124) rfl rfl) rfl (RL.val (O.loadN (cs := (xv126.cs)) ag62 rfl (hA124).cells) rfl ?_)
   refine RL.eff (E.alloc hM ze62) rfl fun v w128 hv => ?_
   clear hM
   obtain ⟨g127, rfl, hM, hf⟩ := hv
   refine RL.effs (E.stB (j := 6) (off := 0) (vs := (xv126.cs)) (cs' := (xv126.cs)) hM rfl sz62 rfl (XX [] rfl) rfl rfl (One.all rfl) rfl rfl) fun w130 hM1 => ?_
   clear hM
   have hM := hM1
   clear hM1
   refine nt hQ123 ?_
   refine sr fun Q131 hQ131 => ?_
   refine RL.val (O.load sc27 rfl (Cs.adds [] ((hM.bx (i := 4) rfl)) rfl)) rfl (RL.val (O.loadN (cs := (xv126.cs)) ag62 rfl (Cs.addsN [] ((hM.bx (i := 6) rfl)) rfl)) rfl ?_)
   refine Xx hF fun y132 hx133 hF => ?_
   refine RL.call Tryz.func47 bd47 rfl rfl (KR _ _ _ (Xl.mk tick13 cv1.Xb cv1.Xf cv1.Xh) _ _ (hM.lent [3] rfl (by decide)) xv126 _ hx133) fun v w134 hv => ?_
   obtain ⟨rfl, hN135⟩ := hv
   replace hM := hM.call0 hN135
   refine vm rfl rfl (RL.val (O.leq rfl rfl) rfl (nt hQ131 ?_))
   refine KC.cond rfl (fun hc => ?_) (fun hc => ?_)
   ·rw [if_pos hc] at hF
    refine KC.region (vm rfl rfl (RL.val (O.loadN (cs := (xv126.cs)) ag62 rfl (Cs.addsN [] ((hM.bx (i := 6) rfl)) rfl)) rfl ?_))
    refine RL.eff (E.bsl (enc := Xn) (xs := ([xv126] : List Xc)) hM sl55 ze62 rfl rfl rfl (fun _ => rfl) rfl (by kernel_rfl) rfl) rfl fun v w136 hv => ?_
    clear hM
    obtain ⟨A137, rfl, hM, hf⟩ := hv
    refine XZ hF fun hq142 hF => ?_
    refine RL.eff (E.app (enc := Xn) (xs := lv116) (ys := ([xv126] : List Xc)) (j := 5) hM rfl sl55 ze62 rfl rfl rfl rfl rfl (hM.rd (i := 7) rfl) (fun _ => One.all rfl) (of_decide_eq_true hq142)) rfl fun v w141 hv => ?_
    clear hM
    obtain ⟨A139, c140, rfl, hM, hf⟩ := hv
    refine va rfl rfl (RL.nil (KQ.blk_n (KQ.Xy ?_)))
    replace hM := hM.pick [0, 1, 2, 3, 4, 5] rfl (by decide)
    exact fun a ha => ⟨A139, c140, (lv116 ++ ([xv126] : List Xc)), ha.less (Xa rfl (Xa rfl (Xa rfl (Xa rfl (Xa rfl (Xa rfl Xj)))))), hM, hF⟩
   rw [if_neg (Xv hc)] at hF
   refine KC.skip (KQ.blk_n (KQ.Xy ?_))
   replace hM := hM.pick [0, 1, 2, 3, 4, 5] rfl (by decide)
   exact fun a ha => ⟨A114, c115, lv116, ha.less (Xa rfl (Xa rfl (Xa rfl (Xa rfl (Xa rfl (Xa rfl Xj)))))), hM, hF⟩
  rintro a w153 ⟨A150, c151, lv152, ha, hM, hF⟩
  refine KC.app ha ?_
  clear ha
  unfold ZV at hF
  refine KC.region (RL.val (O.add rfl rfl) rfl (vm rfl rfl (RL.nil (KQ.Xy ?_))))
  exact fun a ha => ⟨k120, Nat.lt_succ_self k120, A150, c151, lv152, (IntKind.i64.wrap (t117 + 1)), ha.less (Xa rfl (Xa rfl (Xa rfl (Xa rfl (Xa rfl (Xa rfl Xj)))))), hM, hF⟩
 rw [if_neg (Xv hc)] at hF
 refine KC.exit (KQ.thx hQ122 (KQ.then_x (KQ.blk_x (KQ.thn hQ30 ?_))))
 refine sr fun Q154 hQ154 => ?_
 refine vm rfl rfl (RL.val (O.mkf rfl rfl) rfl ?_)
 refine Xx hF fun y155 hx156 hF => ?_
 refine RL.call Tryz.func48 bd48 rfl rfl (Jj _ _ _ lv116 _ _ (Xl.mk tick13 cv1.Xb cv1.Xf cv1.Xh) _ _ _ _ (hM.lent [5, 4, 3] rfl (by decide)) _ hx156) fun v w157 hv => ?_
 obtain ⟨rfl, hw159, hN158⟩ := hv
 replace hM := hM.callL [5] [0, 1, 2, 3, 4] rfl rfl (by decide) rfl hN158
 refine RL.reslot (t := 5) rfl hw159 (RL.reslot (t := 41) rfl hw159 (nt hQ154 ?_))
 refine sr fun Q160 hQ160 => ?_
 refine RL.val (O.load sc27 rfl (Cs.adds [] ((hM.bx (i := 4) rfl)) rfl)) rfl (RL.val (O.mkf rfl rfl) rfl (vm rfl rfl (RL.icall Tryz.func53 bd53 rfl rfl rfl Tryz.ntmps53 rfl ?_)))
 refine sr fun Q161 hQ161 => ?_
 refine va rfl rfl (nt hQ161 ?_)
 refine KC.seqH fun Q162 hQ162 => ?_
 refine sr fun Q163 hQ163 => ?_
 refine vm rfl rfl (RL.val (O.len sl55 rfl) rfl (vm rfl rfl (nt hQ163 (KC.block ?_))))
 refine KC.loop (fun k286 a w284 => ∃ (g267 : Nat) (A269 : Option Addr) (c270 : Nat) (A274 : Option Addr) (c275 : Nat) (A279 : Option Addr) (c280 : Nat) (p260 p261 p262 p263 p264 p265 : Int) (p271 : List Xm) (p272 : Int) (p276 xv281 : List Xc) (t283 : Int), Kn 27 [(0, .pointer (some ⟨g2, 0, none⟩)), (1, .func (.func 54) #[] #[.pointer (some ⟨g16, 0, none⟩)]), (6, .slice A279 (xv281).length c280), (9, .slice A114 (y155).length c115), (10, vI (y155.length : Int)), (11, vI t283)] a ∧ Mem w [some g2, some g4, rblk A6 c7, rblk A9 c10] w284 [.row A269 c270 140 39 (p271).length ((p271).flatMap Xt), .box g267 119 [.slice A269 (p271).length c270, vI p272], .row A274 c275 62 44 (p276).length ((p276).flatMap Xn), .box g2 tg12 [v64 p260, vI p261, v64 p262, v64 p263, v64 p264, v64 p265, .pointer (some ⟨g267, 0, none⟩), .slice A274 (p276).length c275], .box g16 27 [.pointer (some ⟨g2, 0, none⟩)], .row A279 c280 62 44 (xv281).length ((xv281).flatMap Xn), .row A114 c115 62 44 (y155).length ((y155).flatMap Xn)] ∧ Yv y155 k286 p260 p261 p262 p263 p264 p265 p271 p272 p276 xv281 t283 = some r) ?_ ?_
 ·replace hM := hM.nilrow 62 44
  replace hM := hM.pick [0, 1, 2, 3, 4, 6, 5] rfl (by decide)
  exact fun a ha => ⟨fuel0, g4, A6, c7, A9, c10, none, 0, tick13, cv1.Xb.Xz, cv1.Xb.XI, cv1.Xb.XA, cv1.Xb.Xk, cv1.Xb.Xr, cv1.Xf.Xp, cv1.Xf.XG, cv1.Xh, ([]), 0, ha.less (Xa rfl (Xa rfl (Xa rfl (Xa rfl (Xa rfl (Xa rfl Xj)))))), hM, hF⟩
 rintro k286 a w284 ⟨g267, A269, c270, A274, c275, A279, c280, p260, p261, p262, p263, p264, p265, p271, p272, p276, xv281, t283, ha, hM, hF⟩
 refine KC.app ha ?_
 clear ha
 cases k286 with
 | zero => exact (Yl hF).elim
 | succ k286 =>
 have hF : YT (Yv y155 k286) y155 p260 p261 p262 p263 p264 p265 p271 p272 p276 xv281 t283 = some r := hF
 unfold YT at hF
 refine sr fun Q287 hQ287 => ?_
 refine RL.val (O.lss rfl rfl) rfl (nt hQ287 ?_)
 refine KC.seqH fun Q288 hQ288 => ?_
 refine KC.cond rfl (fun hc => ?_) (fun hc => ?_)
 ·rw [if_pos hc] at hF
  refine KC.skip (KQ.thn hQ288 ?_)
  refine KC.seqH fun Q289 hQ289 => ?_
  refine KC.block ?_
  refine sr fun Q290 hQ290 => ?_
  refine Xx hF fun xv293 hx292 hF => ?_
  have hA291 := Rd.atN (f := Xn) (s := 44) (fun _ => rfl) (by decide) (hM.rd (i := 6) rfl) hx292
  refine RL.val (O.idxA sl55 (hA291) rfl rfl) rfl (RL.val (O.loadN (cs := (xv293.cs)) ag62 rfl (hA291).cells) rfl ?_)
  refine RL.eff (E.alloc hM ze62) rfl fun v w295 hv => ?_
  clear hM
  obtain ⟨g294, rfl, hM, hf⟩ := hv
  refine RL.effs (E.stB (j := 7) (off := 0) (vs := (xv293.cs)) (cs' := (xv293.cs)) hM rfl sz62 rfl (XX [] rfl) rfl rfl (One.all rfl) rfl rfl) fun w297 hM1 => ?_
  clear hM
  have hM := hM1
  clear hM1
  refine nt hQ290 ?_
  replace hM := hM.drewN 1
  refine KC.draw [] [7, 9] [6, 7, 8, 9] [0, 1, 2, 4, 10] (.ofList [0, 1, 2, 3, 4, 5, 6, 7, 8, 9, 10]) moP (by kernel_rfl) ?_
  refine RD.p rfl rfl rfl rfl (fun w' => O.move rfl) ?_
  refine RD.p rfl rfl rfl rfl (fun w' => O.move rfl) ?_
  refine RD.p rfl rfl rfl rfl (fun w' => O.fldA fl62_0 (by decide) rfl) ?_
  refine RD.q rfl rfl rfl rfl (fun w' hf => O.loadN (cs := (xv293.Xo.cs)) ag42 rfl (Cs.addsN [0] ((hM.bx (i := 7) rfl).fut hf) rfl)) ?_
  refine RD.p rfl rfl rfl rfl (fun w' => O.move rfl) ?_
  refine RD.q rfl rfl rfl rfl (fun w' hf => O.loadN (cs := (xv293.cs)) ag62 rfl (Cs.addsN [] ((hM.bx (i := 7) rfl).fut hf) rfl)) ?_
  refine Xx hF fun y298 hx299 hF => ?_
  refine RD.mcallv rfl rfl trivial (first := []) (captured := [.pointer (some ⟨g16, 0, none⟩)]) rfl Tryz.func54 bd54 rfl rfl (Xab _ _ _ (Xl.mk p260 (Xg.mk p261 p262 p263 p264 p265) (Xw.mk p271 p272) p276) _ _ _ _ (hM.lent [4, 3] rfl (by decide)) xv293 _ hx299) fun v w300 hv => ?_
  obtain ⟨rfl, hN301⟩ := hv
  refine ⟨fun _ => hN301.fut, ?_⟩
  replace hM := hM.call0 hN301
  refine Xx hF fun y302 hx303 hF => ?_
  refine RD.mcall rfl rfl trivial Tryz.func46 bd46 rfl rfl (Kh _ _ _ (Xl.mk p260 (Xg.mk p261 p262 p263 p264 p265) (Xw.mk p271 p272) p276) _ _ _ _ _ (hM.lent [3, 1, 0, 2] rfl (by decide)) xv293.Xo y298 _ hx303) fun v w304 hv => ?_
  obtain ⟨g306, A308, c309, A311, c312, rfl, hN305⟩ := hv
  refine ⟨fun h => (by cases h), ?_⟩
  replace hM := hM.callL [3, 1, 0, 2] [4, 5, 6, 7] rfl rfl (by decide) rfl hN305
  refine RD.meff rfl rfl (E.bsl (enc := Xn) (xs := ([y302.1] : List Xc)) hM sl55 ze62 rfl rfl rfl (fun _ => rfl) rfl (by kernel_rfl) rfl) rfl fun v w314 hv => ?_
  clear hM
  obtain ⟨A315, rfl, hM, hf⟩ := hv
  refine ⟨fun _ => hf, ?_⟩
  refine XZ hF fun hq320 hF => ?_
  refine RD.meff rfl rfl (E.app (enc := Xn) (xs := xv281) (ys := ([y302.1] : List Xc)) (j := 1) hM rfl sl55 ze62 rfl rfl rfl rfl rfl (hM.rd (i := 8) rfl) (fun _ => One.all rfl) (of_decide_eq_true hq320)) rfl fun v w319 hv => ?_
  clear hM
  obtain ⟨A317, c318, rfl, hM, hf⟩ := hv
  refine ⟨fun h => (by cases h), ?_⟩
  refine RD.p rfl rfl rfl rfl (fun w' => O.assign rfl) (RD.nil (KQ.blk_n (KQ.thn hQ289 ?_)))
  replace hM := hM.pick [0, 1, 2, 4, 5, 6, 7] rfl (by decide)
  refine KC.region (RL.val (O.add rfl rfl) rfl (vm rfl rfl (RL.nil (KQ.Xy ?_))))
  replace hM := hM.pick [5, 4, 6, 3, 0, 1, 2] rfl (by decide)
  exact fun a ha => ⟨k286, Nat.lt_succ_self k286, g306, A308, c309, A311, c312, A317, c318, y302.2.XB, y302.2.Xb.Xz, y302.2.Xb.XI, y302.2.Xb.XA, y302.2.Xb.Xk, y302.2.Xb.Xr, y302.2.Xf.Xp, y302.2.Xf.XG, y302.2.Xh, (xv281 ++ ([y302.1] : List Xc)), (IntKind.i64.wrap (t283 + 1)), ha.less (Xa rfl (Xa rfl (Xa rfl (Xa rfl (Xa rfl (Xa rfl Xj)))))), hM, hF⟩
 rw [if_neg (Xv hc)] at hF
 refine KC.exit (KQ.thx hQ288 (KQ.then_x (KQ.blk_x (KQ.thn hQ162 ?_))))
 refine sr fun Q322 hQ322 => ?_
 refine vm rfl rfl (va rfl rfl (nt hQ322 (KC.ret (KQ.rets Tryz.results53 (RVs.cons (RV.tm rfl) RVs.nil) (⟨.slice A279 (xv281).length c280, rfl, ?_⟩)))))
 refine va rfl rfl (nt hQ160 (KC.ret ?_))
 have hE := Option.some.inj hF
 clear hF
 subst hE
 replace hM := hM.pick [3, 1, 0, 2, 5] rfl (by decide)
 refine KQ.rets Tryz.results18 (RVs.cons (RV.tm rfl) RVs.nil) ?_
 exact ⟨_, rfl, g267, A269, c270, A274, c275, A279, c280, rfl, hM⟩
theorem Xaj (w : World) (av1 : Xc) (b2 : Xc) (r : Int) (hF : ZP av1 b2 = some r) :
  CallsR Tryz.prog 76 [.agg (av1.cs).toArray, .agg (b2.cs).toArray] w (fun v w' => v = vI r ∧ Mem w [] w' []) := by
 refine XJ Tryz.func76 rfl Tryz.ntmps76 rfl ?_
 have hM := Mem.init w
 unfold ZP at hF
 refine sr fun Q3 hQ3 => ?_
 refine RL.eff (E.box (vs := (av1.cs)) hM rfl rfl) rfl fun v w5 hv => ?_
 clear hM
 obtain ⟨g4, rfl, hM, hf⟩ := hv
 refine RL.eff (E.box (vs := (b2.cs)) hM rfl rfl) rfl fun v w8 hv => ?_
 clear hM
 obtain ⟨g7, rfl, hM, hf⟩ := hv
 refine va rfl rfl (nt hQ3 ?_)
 refine KC.seqH fun Q10 hQ10 => ?_
 replace hM := hM.drewN 1
 refine KC.draw [] [] [4, 7, 8, 9] [0, 2, 10] (.ofList [0, 1, 2, 3, 5, 6, 4, 7, 8, 9, 10]) moP (by kernel_rfl) ?_
 refine RD.p rfl rfl rfl rfl (fun w' => O.fldA fl62_4 (by decide) rfl) ?_
 refine RD.q rfl rfl rfl rfl (fun w' hf => O.load sc22 rfl (Cs.adds [40] ((hM.bx (i := 0) rfl).fut hf) rfl)) ?_
 refine RD.p rfl rfl rfl rfl (fun w' => O.fldA fl62_4 (by decide) rfl) ?_
 refine RD.q rfl rfl rfl rfl (fun w' hf => O.load sc22 rfl (Cs.adds [40] ((hM.bx (i := 1) rfl).fut hf) rfl)) ?_
 refine RD.q rfl rfl rfl rfl (fun w' hf => O.loadN (cs := (av1.cs)) ag62 rfl (Cs.addsN [] ((hM.bx (i := 0) rfl).fut hf) rfl)) ?_
 refine RD.q rfl rfl rfl rfl (fun w' hf => O.loadN (cs := (b2.cs)) ag62 rfl (Cs.addsN [] ((hM.bx (i := 1) rfl).fut hf) rfl)) ?_
 refine Xx hF fun y11 hx12 hF => ?_
 refine RD.mcall rfl rfl trivial Tryz.func51 bd51 rfl rfl (Vy _ av1.Ya b2.Ya _ hx12) fun v w13 hv => ?_
 obtain ⟨rfl, hN14⟩ := hv
 refine ⟨fun _ => hN14.fut, ?_⟩
 replace hM := hM.call0 hN14
 refine Xx hF fun y15 hx16 hF => ?_
 refine RD.mcall rfl rfl trivial Tryz.func52 bd52 rfl rfl (Xad _ av1 b2 _ hx16) fun v w17 hv => ?_
 obtain ⟨rfl, hN18⟩ := hv
 refine ⟨fun _ => hN18.fut, ?_⟩
 replace hM := hM.call0 hN18
 refine RD.meff rfl rfl (E.bsl (enc := (eI .i64)) (xs := ([y11, y15] : List Int)) hM sl148 ze3 rfl rfl rfl (fun _ => rfl) rfl (by kernel_rfl) rfl) rfl fun v w19 hv => ?_
 clear hM
 obtain ⟨A20, rfl, hM, hf⟩ := hv
 refine ⟨fun _ => hf, ?_⟩
 refine Xx hF fun y22 hx23 hF => ?_
 refine RD.mcall rfl rfl trivial Tryz.func50 bd50 rfl rfl (XaR _ _ _ ([y11, y15] : List Int) (hM.rd (i := 2) rfl) _ hx23) fun v w24 hv => ?_
 obtain ⟨rfl, hN25⟩ := hv
 refine ⟨fun _ => hN25.fut, ?_⟩
 replace hM := hM.call0 hN25
 refine RD.p rfl rfl rfl rfl (fun w' => O.assign rfl) (RD.nil (KQ.thn hQ10 (KC.ret ?_)))
 have hE := Option.some.inj hF
 clear hF
 subst hE
 replace hM := hM.pick [] rfl (by decide)
 refine KQ.rets Tryz.results76 (RVs.cons (RV.tm rfl) RVs.nil) ?_
 exact ⟨_, rfl, rfl, hM⟩
end Go.Proofs.YtkpnocgfhipidaaGreat
