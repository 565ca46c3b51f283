/- Printed by a program of this claim: each call returns what the plain function of its name gives. -/
import Derived.Test.YtkpnocgfhipidaaGreatW1
import Derived.Test.YtkpnocgfhipidaaGreatW4
import Derived.Test.YtkpnocgfhipidaaGreatW5
import Derived.Test.YtkpnocgfhipidaaGreatW8
import Derived.Test.YtkpnocgfhipidaaGreatW10
import Derived.Test.YtkpnocgfhipidaaGreatW11
import Derived.Test.YtkpnocgfhipidaaGreatW12
import Derived.Test.YtkpnocgfhipidaaGreatW13
set_option linter.unusedVariables false
set_option maxRecDepth 100000
set_option maxHeartbeats 40000000
namespace Go.Proofs.YtkpnocgfhipidaaGreat
open Go Go.Ox Go.RowKit
theorem Xbd (w : World) (g2 : Nat) (tg12 : TypeId) (cv1 : Xl) (g4 : Nat) (A6 : Option Addr) (c7 : Nat) (A9 : Option Addr) (c10 g14 : Nat) (tg19 : TypeId) (rv13 : Xq) (A16 : Option Addr) (c17 : Nat) (hL21 : Lent w [.box g2 tg12 (v64 cv1.XB :: (cv1.Xb.cs ++ [.pointer (some ⟨g4, 0, none⟩), .slice A9 (cv1.Xh).length c10])), .box g4 119 [.slice A6 (cv1.Xf.Xp).length c7, vI cv1.Xf.XG], .row A6 c7 140 39 (cv1.Xf.Xp).length ((cv1.Xf.Xp).flatMap Xt), .row A9 c10 62 44 (cv1.Xh).length ((cv1.Xh).flatMap Xn), .box g14 tg19 (v64 rv13.XK :: (rv13.Xu.cs ++ [.slice A16 (rv13.f_L).length c17])), .row A16 c17 89 44 (rv13.f_L).length ((rv13.f_L).flatMap Xs)]) (av20 : XF) (r : Bool × Xl × Xq) (hF : UN cv1 rv13 av20 = some r) :
  CallsR Tryz.prog 9 [.pointer (some ⟨g2, 0, none⟩), .pointer (some ⟨g14, 0, none⟩), .agg (av20.cs).toArray] w (fun v w' => ∃ (g0 : Nat) (A1 : Option Addr) (c1 : Nat) (A2 : Option Addr) (c2 : Nat) (A3 : Option Addr) (c3 : Nat), v = vB r.1 ∧ Mem w [some g2, some g4, rblk A6 c7, rblk A9 c10, some g14, rblk A16 c17] w' [.box g2 tg12 (v64 r.2.1.XB :: (r.2.1.Xb.cs ++ [.pointer (some ⟨g0, 0, none⟩), .slice A2 (r.2.1.Xh).length c2])), .box g0 119 [.slice A1 (r.2.1.Xf.Xp).length c1, vI r.2.1.Xf.XG], .row A1 c1 140 39 r.2.1.Xf.Xp.length (r.2.1.Xf.Xp.flatMap Xt), .row A2 c2 62 44 r.2.1.Xh.length (r.2.1.Xh.flatMap Xn), .box g14 tg19 (v64 r.2.2.XK :: (r.2.2.Xu.cs ++ [.slice A3 (r.2.2.f_L).length c3])), .row A3 c3 89 44 r.2.2.f_L.length (r.2.2.f_L.flatMap Xs)]) := by
 refine XJ Tryz.func9 rfl Tryz.ntmps9 rfl ?_
 have hM : Mem w [some g2, some g4, rblk A6 c7, rblk A9 c10, some g14, rblk A16 c17] w [.box g2 tg12 (v64 cv1.XB :: (cv1.Xb.cs ++ [.pointer (some ⟨g4, 0, none⟩), .slice A9 (cv1.Xh).length c10])), .box g4 119 [.slice A6 (cv1.Xf.Xp).length c7, vI cv1.Xf.XG], .row A6 c7 140 39 (cv1.Xf.Xp).length ((cv1.Xf.Xp).flatMap Xt), .row A9 c10 62 44 (cv1.Xh).length ((cv1.Xh).flatMap Xn), .box g14 tg19 (v64 rv13.XK :: (rv13.Xu.cs ++ [.slice A16 (rv13.f_L).length c17])), .row A16 c17 89 44 (rv13.f_L).length ((rv13.f_L).flatMap Xs)] := Mem.lendN hL21
 unfold UN at hF
 refine sr fun Q22 hQ22 => ?_
 refine RL.eff (E.box (vs := (av20.cs)) hM rfl rfl) rfl fun v w24 hv => ?_
 clear hM
 obtain ⟨g23, rfl, hM, hf⟩ := hv
 refine va rfl rfl (nt hQ22 ?_)
 refine KC.seqH fun Q26 hQ26 => ?_
 refine sr fun Q27 hQ27 => ?_
 refine RL.val (O.fldA fl46_0 (by decide) rfl) rfl ?_
 refine RL.val (O.load sc3 rfl (Cs.adds [0] ((hM.bx (i := 6) rfl)) rfl)) rfl (nt hQ27 (KC.block ?_))
 refine KC.cut (fun a w40 => ∃ (t39 : Bool), Kn 84 [(0, .pointer (some ⟨g2, 0, none⟩)), (1, .pointer (some ⟨g14, 0, none⟩)), (5, .pointer (some ⟨g23, 0, none⟩)), (13, vI av20.Xas), (14, vB t39)] a ∧ Mem w [some g2, some g4, rblk A6 c7, rblk A9 c10, some g14, rblk A16 c17] w40 [.row A6 c7 140 39 (cv1.Xf.Xp).length ((cv1.Xf.Xp).flatMap Xt), .box g4 119 [.slice A6 (cv1.Xf.Xp).length c7, vI cv1.Xf.XG], .row A9 c10 62 44 (cv1.Xh).length ((cv1.Xh).flatMap Xn), .box g2 tg12 (v64 cv1.XB :: (cv1.Xb.cs ++ [.pointer (some ⟨g4, 0, none⟩), .slice A9 (cv1.Xh).length c10])), .row A16 c17 89 44 (rv13.f_L).length ((rv13.f_L).flatMap Xs), .box g14 tg19 (v64 rv13.XK :: (rv13.Xu.cs ++ [.slice A16 (rv13.f_L).length c17])), .box g23 46 (av20.cs)] ∧ Jk cv1 rv13 av20 t39 = some r) ?_ ?_
 ·refine sr fun Q28 hQ28 => ?_
  refine RL.val (O.eql rfl rfl) rfl (va rfl rfl (nt hQ28 ?_))
  refine KC.cond rfl (fun hc => ?_) (fun hc => ?_)
  ·rw [if_pos hc] at hF
   refine KC.skip (KQ.Xy ?_)
   replace hM := hM.pick [2, 1, 3, 0, 5, 4, 6] rfl (by decide)
   exact fun a ha => ⟨(av20.Xas == 0), ha.less (Xa rfl (Xa rfl (Xa rfl (Xa rfl (Xa rfl Xj))))), hM, hF⟩
  rw [if_neg (Xv hc)] at hF
  refine sr fun Q29 hQ29 => ?_
  refine RL.val (O.eql rfl rfl) rfl (va rfl rfl (nt hQ29 ?_))
  refine KC.cond rfl (fun hc => ?_) (fun hc => ?_)
  ·rw [if_pos hc] at hF
   refine KC.skip (KQ.Xy ?_)
   replace hM := hM.pick [2, 1, 3, 0, 5, 4, 6] rfl (by decide)
   exact fun a ha => ⟨(av20.Xas == 1), ha.less (Xa rfl (Xa rfl (Xa rfl (Xa rfl (Xa rfl Xj))))), hM, hF⟩
  rw [if_neg (Xv hc)] at hF
  refine sr fun Q30 hQ30 => ?_
  refine RL.val (O.eql rfl rfl) rfl (va rfl rfl (nt hQ30 ?_))
  refine KC.cond rfl (fun hc => ?_) (fun hc => ?_)
  ·rw [if_pos hc] at hF
   refine KC.skip (KQ.Xy ?_)
   replace hM := hM.pick [2, 1, 3, 0, 5, 4, 6] rfl (by decide)
   exact fun a ha => ⟨(av20.Xas == 2), ha.less (Xa rfl (Xa rfl (Xa rfl (Xa rfl (Xa rfl Xj))))), hM, hF⟩
  rw [if_neg (Xv hc)] at hF
  refine sr fun Q31 hQ31 => ?_
  refine RL.val (O.eql rfl rfl) rfl (va rfl rfl (nt hQ31 ?_))
  refine KC.cond rfl (fun hc => ?_) (fun hc => ?_)
  ·rw [if_pos hc] at hF
   refine KC.skip (KQ.Xy ?_)
   replace hM := hM.pick [2, 1, 3, 0, 5, 4, 6] rfl (by decide)
   exact fun a ha => ⟨(av20.Xas == 3), ha.less (Xa rfl (Xa rfl (Xa rfl (Xa rfl (Xa rfl Xj))))), hM, hF⟩
  rw [if_neg (Xv hc)] at hF
  refine KC.region (RL.val (O.eql rfl rfl) rfl (va rfl rfl (RL.nil (KQ.Xy ?_))))
  replace hM := hM.pick [2, 1, 3, 0, 5, 4, 6] rfl (by decide)
  exact fun a ha => ⟨(av20.Xas == 4), ha.less (Xa rfl (Xa rfl (Xa rfl (Xa rfl (Xa rfl Xj))))), hM, hF⟩
 rintro a w40 ⟨t39, ha, hM, hF⟩
 refine KC.app ha ?_
 clear ha
 unfold Jk at hF
 refine KC.cond rfl (fun hc => ?_) (fun hc => ?_)
 ·rw [if_pos hc] at hF
  refine sr fun Q41 hQ41 => ?_
  refine vm rfl rfl (RL.val (O.fldA fl46_1 (by decide) rfl) rfl ?_)
  refine RL.val (O.loadN (cs := (av20.XH.cs)) ag44 rfl (Cs.addsN [1] ((hM.bx (i := 6) rfl)) rfl)) rfl (RL.val (O.fldA fl46_2 (by decide) rfl) rfl ?_)
  refine RL.val (O.load sc5 rfl (Cs.adds [41] ((hM.bx (i := 6) rfl)) rfl)) rfl (RL.val (O.fldA fl46_3 (by decide) rfl) rfl ?_)
  refine RL.val (O.load sc22 rfl (Cs.adds [42] ((hM.bx (i := 6) rfl)) rfl)) rfl ?_
  refine Xx hF fun y42 hx43 hF => ?_
  refine RL.call Tryz.func16 bd16 rfl rfl (Yp _ _ _ cv1 _ _ _ _ _ (hM.lent [3, 1, 0, 2] rfl (by decide)) av20.XH av20.XU av20.XK _ hx43) fun v w44 hv => ?_
  obtain ⟨g46, A48, c49, A51, c52, A54, c55, rfl, hN45⟩ := hv
  replace hM := hM.callL [3, 1, 0, 2] [4, 5, 6] rfl rfl (by decide) rfl hN45
  refine vm rfl rfl (RL.val (O.ext rfl rfl) rfl (RL.val (O.ext rfl rfl) rfl (va rfl rfl (va rfl rfl (nt hQ41 ?_)))))
  refine KC.seqH fun Q57 hQ57 => ?_
  replace hM := hM.drewN 1
  refine KC.draw [] [8] [3, 8] [0, 1, 4, 6, 9, 10, 11, 12, 13] (.ofList [0, 1, 2, 4, 5, 6, 7, 3, 8, 9, 10, 11, 12, 13]) moP (by kernel_rfl) ?_
  refine RD.p rfl rfl rfl rfl (fun w' => O.move rfl) ?_
  refine RD.p rfl rfl rfl rfl (fun w' => O.fldA fl46_1 (by decide) rfl) ?_
  refine RD.q rfl rfl rfl rfl (fun w' hf => O.loadN (cs := (av20.XH.cs)) ag44 rfl (Cs.addsN [1] ((hM.bx (i := 2) rfl).fut hf) rfl)) ?_
  refine RD.p rfl rfl rfl rfl (fun w' => O.fldA fl46_2 (by decide) rfl) ?_
  refine RD.q rfl rfl rfl rfl (fun w' hf => O.load sc5 rfl (Cs.adds [41] ((hM.bx (i := 2) rfl).fut hf) rfl)) ?_
  refine RD.p rfl rfl rfl rfl (fun w' => O.fldA fl46_3 (by decide) rfl) ?_
  refine RD.q rfl rfl rfl rfl (fun w' hf => O.load sc22 rfl (Cs.adds [42] ((hM.bx (i := 2) rfl).fut hf) rfl)) ?_
  refine Xx hF fun y58 hx59 hF => ?_
  refine RD.mcall rfl rfl trivial Tryz.func22 bd22 rfl rfl (Xa9 _ av20.XH _ hx59) fun v w60 hv => ?_
  obtain ⟨rfl, hN61⟩ := hv
  refine ⟨fun _ => hN61.fut, ?_⟩
  replace hM := hM.call0 hN61
  refine Xx hF fun y62 hx63 hF => ?_
  refine RD.mcall rfl rfl trivial Tryz.func21 bd21 rfl rfl (Xaf _ _ _ rv13 _ _ (hM.lent [1, 0] rfl (by decide)) y58 av20.XU av20.XK _ hx63) fun v w64 hv => ?_
  obtain ⟨A66, c67, A69, c70, rfl, hN65⟩ := hv
  refine ⟨fun h => (by cases h), ?_⟩
  replace hM := hM.callL [1, 0] [2, 3, 4, 5, 6, 7] rfl rfl (by decide) rfl hN65
  refine RD.p rfl rfl rfl rfl (fun w' => O.move rfl) ?_
  refine RD.p rfl rfl rfl rfl (fun w' => O.ext rfl rfl) ?_
  refine RD.p rfl rfl rfl rfl (fun w' => O.ext rfl rfl) ?_
  refine RD.p rfl rfl rfl rfl (fun w' => O.assign rfl) ?_
  refine RD.p rfl rfl rfl rfl (fun w' => O.assign rfl) (RD.nil (KQ.thn hQ57 ?_))
  replace hM := hM.pick [1, 2, 3, 4, 5, 6, 7, 8] rfl (by decide)
  refine KC.cut (fun a w84 => ∃ (t83 : Bool), Kn 84 [(6, vB t83)] a ∧ Mem w [some g2, some g4, rblk A6 c7, rblk A9 c10, some g14, rblk A16 c17] w84 [.row A48 c49 140 39 (y42.2.2.Xf.Xp).length ((y42.2.2.Xf.Xp).flatMap Xt), .box g46 119 [.slice A48 (y42.2.2.Xf.Xp).length c49, vI y42.2.2.Xf.XG], .row A51 c52 62 44 (y42.2.2.Xh).length ((y42.2.2.Xh).flatMap Xn), .box g2 tg12 (v64 y42.2.2.XB :: (y42.2.2.Xb.cs ++ [.pointer (some ⟨g46, 0, none⟩), .slice A51 (y42.2.2.Xh).length c52])), .row A66 c67 89 44 (y62.2.2.f_L).length ((y62.2.2.f_L).flatMap Xs), .box g14 tg19 (v64 y62.2.2.XK :: (y62.2.2.Xu.cs ++ [.slice A66 (y62.2.2.f_L).length c67]))] ∧ Vc y42 y62 t83 = some r) ?_ ?_
  ·refine KC.region (vm rfl rfl (vm rfl rfl (RL.val (O.eql rfl rfl) rfl (vm rfl rfl ?_))))
   refine RL.bcase (t := 46) rfl (fun hc => ?_) (fun hc => ?_)
   ·rw [if_pos hc] at hF
    refine RL.gval rfl rfl (O.move rfl) rfl (RL.gval rfl rfl (O.move rfl) rfl ?_)
    refine Xx hF fun y72 hx73 hF => ?_
    refine RL.gcall rfl rfl Tryz.func23 bd23 rfl rfl (ZA _ _ _ y42.1 (hM.lent [4] rfl (by decide)) _ _ y62.1 (hM.rd (i := 7) rfl) (hM.offR [4] rfl (i := 7) rfl rfl) _ hx73) fun v w74 hv => ?_
    obtain ⟨rfl, hw76, hN75⟩ := hv
    replace hM := hM.callL [4] [0, 1, 2, 3, 5, 6, 7] rfl rfl (by decide) rfl hN75
    refine RL.reslot (t := 7) rfl hw76 (RL.reslot (t := 47) rfl hw76 (RL.val (O.pickt rfl rfl) rfl (va rfl rfl (RL.nil (KQ.Xy ?_)))))
    replace hM := hM.pick [2, 1, 3, 0, 5, 4] rfl (by decide)
    exact fun a ha => ⟨y72.1, ha.less (Xa rfl Xj), hM, hF⟩
   rw [if_neg (Xv hc)] at hF
   refine RL.brun1 4 50 false (by kernel_rfl) ?_
   refine va rfl rfl (RL.nil (KQ.Xy ?_))
   replace hM := hM.pick [2, 1, 3, 0, 6, 5] rfl (by decide)
   exact fun a ha => ⟨false, ha.less (Xa rfl Xj), hM, hF⟩
  rintro a w84 ⟨t83, ha, hM, hF⟩
  refine KC.app ha ?_
  clear ha
  unfold Vc at hF
  refine KC.ret (KQ.blk_r (KQ.thr hQ26 ?_))
  have hE := Option.some.inj hF
  clear hF
  subst hE
  replace hM := hM.pick [3, 1, 0, 2, 5, 4] rfl (by decide)
  refine KQ.rets Tryz.results9 (RVs.cons (RV.tm rfl) RVs.nil) ?_
  exact ⟨_, rfl, g46, A48, c49, A51, c52, A66, c67, rfl, hM⟩
 rw [if_neg (Xv hc)] at hF
 refine KC.cut (fun a w94 => ∃ (t93 : Bool), Kn 84 [(0, .pointer (some ⟨g2, 0, none⟩)), (1, .pointer (some ⟨g14, 0, none⟩)), (5, .pointer (some ⟨g23, 0, none⟩)), (13, vI av20.Xas), (51, vB t93)] a ∧ Mem w [some g2, some g4, rblk A6 c7, rblk A9 c10, some g14, rblk A16 c17] w94 [.row A6 c7 140 39 (cv1.Xf.Xp).length ((cv1.Xf.Xp).flatMap Xt), .box g4 119 [.slice A6 (cv1.Xf.Xp).length c7, vI cv1.Xf.XG], .row A9 c10 62 44 (cv1.Xh).length ((cv1.Xh).flatMap Xn), .box g2 tg12 (v64 cv1.XB :: (cv1.Xb.cs ++ [.pointer (some ⟨g4, 0, none⟩), .slice A9 (cv1.Xh).length c10])), .row A16 c17 89 44 (rv13.f_L).length ((rv13.f_L).flatMap Xs), .box g14 tg19 (v64 rv13.XK :: (rv13.Xu.cs ++ [.slice A16 (rv13.f_L).length c17])), .box g23 46 (av20.cs)] ∧ JO cv1 rv13 av20 t93 = some r) ?_ ?_
 ·refine sr fun Q85 hQ85 => ?_
  refine RL.val (O.eql rfl rfl) rfl (va rfl rfl (nt hQ85 ?_))
  refine KC.cond rfl (fun hc => ?_) (fun hc => ?_)
  ·rw [if_pos hc] at hF
   refine KC.skip (KQ.Xy ?_)
   exact fun a ha => ⟨(av20.Xas == 5), ha.less (Xa rfl (Xa rfl (Xa rfl (Xa rfl (Xa rfl Xj))))), hM, hF⟩
  rw [if_neg (Xv hc)] at hF
  refine KC.region (RL.val (O.eql rfl rfl) rfl (va rfl rfl (RL.nil (KQ.Xy ?_))))
  exact fun a ha => ⟨(av20.Xas == 6), ha.less (Xa rfl (Xa rfl (Xa rfl (Xa rfl (Xa rfl Xj))))), hM, hF⟩
 rintro a w94 ⟨t93, ha, hM, hF⟩
 refine KC.app ha ?_
 clear ha
 unfold JO at hF
 refine KC.cond rfl (fun hc => ?_) (fun hc => ?_)
 ·rw [if_pos hc] at hF
  refine KC.cut (fun a w185 => ∃ (g163 : Nat) (A165 : Option Addr) (c166 : Nat) (A170 : Option Addr) (c171 : Nat) (A181 : Option Addr) (c182 : Nat) (p156 p157 p158 p159 p160 p161 : Int) (p167 : List Xm) (p168 : Int) (p172 : List Xc) (p174 p175 p176 p177 p178 p179 : Int) (p183 : List Xi) (t184 : Bool), Kn 84 [(6, vB t184)] a ∧ Mem w [some g2, some g4, rblk A6 c7, rblk A9 c10, some g14, rblk A16 c17] w185 [.row A165 c166 140 39 (p167).length ((p167).flatMap Xt), .box g163 119 [.slice A165 (p167).length c166, vI p168], .row A170 c171 62 44 (p172).length ((p172).flatMap Xn), .box g2 tg12 [v64 p156, vI p157, v64 p158, v64 p159, v64 p160, v64 p161, .pointer (some ⟨g163, 0, none⟩), .slice A170 (p172).length c171], .row A181 c182 89 44 (p183).length ((p183).flatMap Xs), .box g14 tg19 [v64 p174, vI p175, v64 p176, v64 p177, v64 p178, v64 p179, .slice A181 (p183).length c182]] ∧ VI p156 p157 p158 p159 p160 p161 p167 p168 p172 p174 p175 p176 p177 p178 p179 p183 t184 = some r) ?_ ?_
  ·replace hM := hM.drewN 1
   refine KC.draw [] [3, 7, 8] [3, 6, 7, 8] [0, 1, 4, 5, 9] (.cons 0 (.cons 1 (.cons 2 (.cons 4 (.cons 5 (.alt 3 (.ofList [6, 7, 8, 9]) 6 (.ofList [3, 7, 8, 9]))))))) moP (by kernel_rfl) ?_
   refine RD.p rfl rfl rfl rfl (fun w' => O.move rfl) ?_
   refine RD.p rfl rfl rfl rfl (fun w' => O.fldA fl46_3 (by decide) rfl) ?_
   refine RD.q rfl rfl rfl rfl (fun w' hf => O.load sc22 rfl (Cs.adds [42] ((hM.bx (i := 6) rfl).fut hf) rfl)) ?_
   refine RD.p rfl rfl rfl rfl (fun w' => O.move rfl) ?_
   refine RD.p rfl rfl rfl rfl (fun w' => O.fldA fl46_3 (by decide) rfl) ?_
   refine RD.alt ?_ ?_
   ·refine Xx hF fun y95 hx96 hF => ?_
    refine RD.mcall rfl rfl trivial Tryz.func18 bd18 rfl rfl (Zz _ _ _ cv1 _ _ _ _ _ (hM.lent [3, 1, 0, 2] rfl (by decide)) av20.XK _ hx96) fun v w97 hv => ?_
    obtain ⟨g99, A101, c102, A104, c105, A107, c108, rfl, hN98⟩ := hv
    refine ⟨fun h => (by cases h), ?_⟩
    replace hM := hM.callL [3, 1, 0, 2] [4, 5, 6] rfl rfl (by decide) rfl hN98
    refine RD.mq rfl rfl (O.load sc22 rfl (Cs.adds [42] ((hM.bx (i := 2) rfl)) rfl)) rfl ?_
    refine Xx hF fun y110 hx111 hF => ?_
    refine RD.mcall rfl rfl trivial Tryz.func24 bd24 rfl rfl (Uv _ _ _ rv13 _ _ (hM.lent [1, 0] rfl (by decide)) av20.XK _ hx111) fun v w112 hv => ?_
    obtain ⟨A114, c115, A117, c118, rfl, hN113⟩ := hv
    refine ⟨fun h => (by cases h), ?_⟩
    replace hM := hM.callL [1, 0] [2, 3, 4, 5, 6, 7] rfl rfl (by decide) rfl hN113
    refine Xx hF fun y120 hx121 hF => ?_
    refine RD.mcall rfl rfl trivial Tryz.func23 bd23 rfl rfl (ZA _ _ _ y95.1 (hM.lent [5] rfl (by decide)) _ _ y110.1 (hM.rd (i := 8) rfl) (hM.offR [5] rfl (i := 8) rfl rfl) _ hx121) fun v w122 hv => ?_
    obtain ⟨rfl, hw124, hN123⟩ := hv
    refine ⟨fun h => (by cases h), ?_⟩
    replace hM := hM.callL [5] [0, 1, 2, 3, 4, 6, 7, 8] rfl rfl (by decide) rfl hN123
    refine RD.reslot (t := 57) rfl hw124 ?_
    refine RD.p rfl rfl rfl rfl (fun w' => O.assign rfl) (RD.nil (KQ.Xy ?_))
    replace hM := hM.pick [3, 2, 4, 1, 6, 5] rfl (by decide)
    exact fun a ha => ⟨g99, A101, c102, A104, c105, A114, c115, y95.2.XB, y95.2.Xb.Xz, y95.2.Xb.XI, y95.2.Xb.XA, y95.2.Xb.Xk, y95.2.Xb.Xr, y95.2.Xf.Xp, y95.2.Xf.XG, y95.2.Xh, y110.2.XK, y110.2.Xu.Xz, y110.2.Xu.XI, y110.2.Xu.XA, y110.2.Xu.Xk, y110.2.Xu.Xr, y110.2.f_L, y120.1, ha.less (Xa rfl Xj), hM, hF⟩
   refine RD.mq rfl rfl (O.load sc22 rfl (Cs.adds [42] ((hM.bx (i := 6) rfl)) rfl)) rfl ?_
   refine Xx hF fun y125 hx126 hF => ?_
   refine RD.mcall rfl rfl trivial Tryz.func18 bd18 rfl rfl (Zz _ _ _ cv1 _ _ _ _ _ (hM.lent [3, 1, 0, 2] rfl (by decide)) av20.XK _ hx126) fun v w127 hv => ?_
   obtain ⟨g129, A131, c132, A134, c135, A137, c138, rfl, hN128⟩ := hv
   refine ⟨fun h => (by cases h), ?_⟩
   replace hM := hM.callL [3, 1, 0, 2] [4, 5, 6] rfl rfl (by decide) rfl hN128
   refine Xx hF fun y140 hx141 hF => ?_
   refine RD.mcall rfl rfl trivial Tryz.func24 bd24 rfl rfl (Uv _ _ _ rv13 _ _ (hM.lent [1, 0] rfl (by decide)) av20.XK _ hx141) fun v w142 hv => ?_
   obtain ⟨A144, c145, A147, c148, rfl, hN143⟩ := hv
   refine ⟨fun h => (by cases h), ?_⟩
   replace hM := hM.callL [1, 0] [2, 3, 4, 5, 6, 7] rfl rfl (by decide) rfl hN143
   refine Xx hF fun y150 hx151 hF => ?_
   refine RD.mcall rfl rfl trivial Tryz.func23 bd23 rfl rfl (ZA _ _ _ y125.1 (hM.lent [5] rfl (by decide)) _ _ y140.1 (hM.rd (i := 8) rfl) (hM.offR [5] rfl (i := 8) rfl rfl) _ hx151) fun v w152 hv => ?_
   obtain ⟨rfl, hw154, hN153⟩ := hv
   refine ⟨fun h => (by cases h), ?_⟩
   replace hM := hM.callL [5] [0, 1, 2, 3, 4, 6, 7, 8] rfl rfl (by decide) rfl hN153
   refine RD.reslot (t := 57) rfl hw154 ?_
   refine RD.p rfl rfl rfl rfl (fun w' => O.assign rfl) (RD.nil (KQ.Xy ?_))
   replace hM := hM.pick [3, 2, 4, 1, 6, 5] rfl (by decide)
   exact fun a ha => ⟨g129, A131, c132, A134, c135, A144, c145, y125.2.XB, y125.2.Xb.Xz, y125.2.Xb.XI, y125.2.Xb.XA, y125.2.Xb.Xk, y125.2.Xb.Xr, y125.2.Xf.Xp, y125.2.Xf.XG, y125.2.Xh, y140.2.XK, y140.2.Xu.Xz, y140.2.Xu.XI, y140.2.Xu.XA, y140.2.Xu.Xk, y140.2.Xu.Xr, y140.2.f_L, y150.1, ha.less (Xa rfl Xj), hM, hF⟩
  rintro a w185 ⟨g163, A165, c166, A170, c171, A181, c182, p156, p157, p158, p159, p160, p161, p167, p168, p172, p174, p175, p176, p177, p178, p179, p183, t184, ha, hM, hF⟩
  refine KC.app ha ?_
  clear ha
  unfold VI at hF
  refine KC.ret (KQ.blk_r (KQ.thr hQ26 ?_))
  have hE := Option.some.inj hF
  clear hF
  subst hE
  replace hM := hM.pick [3, 1, 0, 2, 5, 4] rfl (by decide)
  refine KQ.rets Tryz.results9 (RVs.cons (RV.tm rfl) RVs.nil) ?_
  exact ⟨_, rfl, g163, A165, c166, A170, c171, A181, c182, rfl, hM⟩
 rw [if_neg (Xv hc)] at hF
 refine sr fun Q186 hQ186 => ?_
 refine RL.val (O.eql rfl rfl) rfl (va rfl rfl (nt hQ186 ?_))
 replace hM := hM.pick [0, 1, 2, 3, 4, 5] rfl (by decide)
 refine KC.cond rfl (fun hc => ?_) (fun hc => ?_)
 ·rw [if_pos hc] at hF
  refine sr fun Q187 hQ187 => ?_
  refine vm rfl rfl ?_
  refine Xx hF fun y188 hx189 hF => ?_
  refine RL.call Tryz.func25 bd25 rfl rfl (VG _ _ _ cv1 _ _ _ _ _ (hM.lent [3, 1, 0, 2] rfl (by decide)) _ hx189) fun v w190 hv => ?_
  obtain ⟨g192, A194, c195, A197, c198, A200, c201, rfl, hN191⟩ := hv
  replace hM := hM.callL [3, 1, 0, 2] [4, 5] rfl rfl (by decide) rfl hN191
  refine vm rfl rfl ?_
  refine Xx hF fun y203 hx204 hF => ?_
  refine RL.call Tryz.func26 bd26 rfl rfl (XaA _ _ _ rv13 _ _ (hM.lent [1, 0] rfl (by decide)) _ hx204) fun v w205 hv => ?_
  obtain ⟨A207, c208, A210, c211, rfl, hN206⟩ := hv
  replace hM := hM.callL [1, 0] [2, 3, 4, 5, 6] rfl rfl (by decide) rfl hN206
  refine Xx hF fun y213 hx214 hF => ?_
  refine RL.call Tryz.func23 bd23 rfl rfl (ZA _ _ _ y188.1 (hM.lent [4] rfl (by decide)) _ _ y203.1 (hM.rd (i := 7) rfl) (hM.offR [4] rfl (i := 7) rfl rfl) _ hx214) fun v w215 hv => ?_
  obtain ⟨rfl, hw217, hN216⟩ := hv
  replace hM := hM.callL [4] [0, 1, 2, 3, 5, 6, 7] rfl rfl (by decide) rfl hN216
  refine RL.reslot (t := 66) rfl hw217 (va rfl rfl (nt hQ187 (KC.ret (KQ.blk_r (KQ.thr hQ26 ?_)))))
  have hE := Option.some.inj hF
  clear hF
  subst hE
  replace hM := hM.pick [0, 1, 2, 3, 4, 5] rfl (by decide)
  refine KQ.rets Tryz.results9 (RVs.cons (RV.tm rfl) RVs.nil) ?_
  exact ⟨_, rfl, g192, A194, c195, A197, c198, A207, c208, rfl, hM⟩
 rw [if_neg (Xv hc)] at hF
 refine sr fun Q218 hQ218 => ?_
 refine RL.val (O.eql rfl rfl) rfl (va rfl rfl (nt hQ218 ?_))
 refine KC.cond rfl (fun hc => ?_) (fun hc => ?_)
 ·rw [if_pos hc] at hF
  refine sr fun Q219 hQ219 => ?_
  refine vm rfl rfl (RL.val (O.nilp rfl) rfl (RL.val (O.fldA fl72_2 (by decide) rfl) rfl ?_))
  refine RL.val (O.load sc70 rfl (Cs.adds [6] ((hM.bx (i := 5) rfl)) rfl)) rfl (RL.val (O.len sl70 rfl) rfl (va rfl rfl (nt hQ219 ?_)))
  refine sr fun Q220 hQ220 => ?_
  refine vm rfl rfl (RL.val (O.nilp rfl) rfl (RL.val (O.fldA fl72_2 (by decide) rfl) rfl ?_))
  refine RL.effs (E.stB (j := 5) (off := 6) (vs := [.slice none 0 0]) (cs' := (v64 rv13.XK :: (rv13.Xu.cs ++ [.slice none 0 0]))) hM rfl sz70 rfl (XX [6] rfl) rfl rfl (One.all rfl) rfl rfl) fun w221 hM1 => ?_
  clear hM
  have hM := hM1
  clear hM1
  refine nt hQ220 ?_
  replace hM := hM.pick [0, 1, 2, 3, 5] rfl (by decide)
  refine sr fun Q222 hQ222 => ?_
  refine vm rfl rfl ?_
  refine Xx hF fun y223 hx224 hF => ?_
  refine RL.call Tryz.func27 bd27 rfl rfl (Xav _ _ _ cv1 _ _ _ _ _ (hM.lent [3, 1, 0, 2] rfl (by decide)) _ hx224) fun v w225 hv => ?_
  obtain ⟨g227, A229, c230, A232, c233, rfl, hN226⟩ := hv
  replace hM := hM.callL [3, 1, 0, 2] [4] rfl rfl (by decide) rfl hN226
  refine vm rfl rfl (RL.val (O.eql rfl rfl) rfl (va rfl rfl (nt hQ222 (KC.ret (KQ.blk_r (KQ.thr hQ26 ?_))))))
  have hE := Option.some.inj hF
  clear hF
  subst hE
  replace hM := hM.nilrow 89 44
  replace hM := hM.pick [1, 2, 3, 4, 0, 5] rfl (by decide)
  refine KQ.rets Tryz.results9 (RVs.cons (RV.tm rfl) RVs.nil) ?_
  exact ⟨_, rfl, g227, A229, c230, A232, c233, none, 0, rfl, hM⟩
 rw [if_neg (Xv hc)] at hF
 refine KC.skip (KQ.blk_n (KQ.thn hQ26 ?_))
 refine sr fun Q235 hQ235 => ?_
 refine va rfl rfl (nt hQ235 (KC.ret ?_))
 have hE := Option.some.inj hF
 clear hF
 subst hE
 replace hM := hM.pick [3, 1, 0, 2, 5, 4] rfl (by decide)
 refine KQ.rets Tryz.results9 (RVs.cons (RV.tm rfl) RVs.nil) ?_
 exact ⟨_, rfl, g4, A6, c7, A9, c10, A16, c17, rfl, hM⟩
theorem XaP (w : World) (g2 : Nat) (tg12 : TypeId) (cv1 : Xl) (g4 : Nat) (A6 : Option Addr) (c7 : Nat) (A9 : Option Addr) (c10 : Nat) (hL14 : Lent w [.box g2 tg12 (v64 cv1.XB :: (cv1.Xb.cs ++ [.pointer (some ⟨g4, 0, none⟩), .slice A9 (cv1.Xh).length c10])), .box g4 119 [.slice A6 (cv1.Xf.Xp).length c7, vI cv1.Xf.XG], .row A6 c7 140 39 (cv1.Xf.Xp).length ((cv1.Xf.Xp).flatMap Xt), .row A9 c10 62 44 (cv1.Xh).length ((cv1.Xh).flatMap Xn)]) (kv13 : Xe) (r : Xc × Bool × Xl) (hF : KX cv1 kv13 = some r) :
  CallsR Tryz.prog 29 [.pointer (some ⟨g2, 0, none⟩), .agg (kv13.cs).toArray] w (fun v w' => ∃ (g0 : Nat) (A1 : Option Addr) (c1 : Nat) (A2 : Option Addr) (c2 : Nat), v = .tuple #[.agg (r.1.cs).toArray, vB r.2.1] ∧ Mem w [some g2, some g4, rblk A6 c7, rblk A9 c10] w' [.box g2 tg12 (v64 r.2.2.XB :: (r.2.2.Xb.cs ++ [.pointer (some ⟨g0, 0, none⟩), .slice A2 (r.2.2.Xh).length c2])), .box g0 119 [.slice A1 (r.2.2.Xf.Xp).length c1, vI r.2.2.Xf.XG], .row A1 c1 140 39 r.2.2.Xf.Xp.length (r.2.2.Xf.Xp.flatMap Xt), .row A2 c2 62 44 r.2.2.Xh.length (r.2.2.Xh.flatMap Xn)]) := by
 refine XJ Tryz.func29 rfl Tryz.ntmps29 rfl ?_
 have hM : Mem w [some g2, some g4, rblk A6 c7, rblk A9 c10] w [.box g2 tg12 (v64 cv1.XB :: (cv1.Xb.cs ++ [.pointer (some ⟨g4, 0, none⟩), .slice A9 (cv1.Xh).length c10])), .box g4 119 [.slice A6 (cv1.Xf.Xp).length c7, vI cv1.Xf.XG], .row A6 c7 140 39 (cv1.Xf.Xp).length ((cv1.Xf.Xp).flatMap Xt), .row A9 c10 62 44 (cv1.Xh).length ((cv1.Xh).flatMap Xn)] := Mem.lendN hL14
 unfold KX at hF
 refine sr fun Q15 hQ15 => ?_
 refine RL.eff (E.box (vs := (kv13.cs)) hM rfl rfl) rfl fun v w17 hv => ?_
 clear hM
 obtain ⟨g16, rfl, hM, hf⟩ := hv
 refine RL.eff (E.alloc hM ze62) rfl fun v w20 hv => ?_
 clear hM
 obtain ⟨g19, rfl, hM, hf⟩ := hv
 refine va rfl rfl (nt hQ15 ?_)
 refine KC.seqH fun Q22 hQ22 => ?_
 refine sr fun Q23 hQ23 => ?_
 refine vm rfl rfl (RL.val (O.peqn Tryz.underlying27 rfl rfl) rfl (nt hQ23 (KC.condF rfl (KC.skip (KQ.thn hQ22 ?_)))))
 refine KC.seqH fun Q24 hQ24 => ?_
 replace hM := hM.drewN 1
 refine KC.draw [] [5] [5] [0, 1, 2, 6, 7, 8, 9, 10] (.ofList [0, 1, 2, 3, 4, 5, 6, 7, 8, 9, 10]) moP (by kernel_rfl) ?_
 refine RD.p rfl rfl rfl rfl (fun w' => O.move rfl) ?_
 refine RD.p rfl rfl rfl rfl (fun w' => O.nilp rfl) ?_
 refine RD.p rfl rfl rfl rfl (fun w' => O.fldA fl69_2 (by decide) rfl) ?_
 refine RD.q rfl rfl rfl rfl (fun w' hf => O.load sc63 rfl (Cs.adds [6] ((hM.bx (i := 0) rfl).fut hf) rfl)) ?_
 refine RD.q rfl rfl rfl rfl (fun w' hf => O.loadN (cs := (kv13.cs)) ag42 rfl (Cs.addsN [] ((hM.bx (i := 4) rfl).fut hf) rfl)) ?_
 refine Xx hF fun y25 hx26 hF => ?_
 refine RD.mcall rfl rfl trivial Tryz.func42 bd42 rfl rfl (UT _ _ _ cv1.Xf _ _ (hM.lent [1, 2] rfl (by decide)) kv13 _ hx26) fun v w27 hv => ?_
 obtain ⟨A29, c30, rfl, hN28⟩ := hv
 refine ⟨fun h => (by cases h), ?_⟩
 replace hM := hM.callL [1, 2] [0, 3, 4, 5] rfl rfl (by decide) rfl hN28
 refine RD.p rfl rfl rfl rfl (fun w' => O.move rfl) ?_
 refine RD.p rfl rfl rfl rfl (fun w' => O.ext rfl rfl) ?_
 refine RD.p rfl rfl rfl rfl (fun w' => O.ext rfl rfl) ?_
 refine RD.p rfl rfl rfl rfl (fun w' => O.assign rfl) ?_
 refine RD.p rfl rfl rfl rfl (fun w' => O.assign rfl) (RD.nil (KQ.thn hQ24 ?_))
 replace hM := hM.pick [0, 1, 3, 4, 5] rfl (by decide)
 refine KC.seqH fun Q32 hQ32 => ?_
 refine sr fun Q33 hQ33 => ?_
 refine vm rfl rfl (RL.val (O.not rfl) rfl (nt hQ33 ?_))
 refine KC.cond rfl (fun hc => ?_) (fun hc => ?_)
 ·rw [if_pos hc] at hF
  refine sr fun Q34 hQ34 => ?_
  refine RL.val (O.bld (cs := (vB false :: (a16 (List.replicate 16 0) ++ (vB false :: (a16 (List.replicate 16 0) ++ [v8 0, v16 0, v16 0, v64 0, v64 0, v64 0, v64 0, v8 0, v8 0, v8 0]))))) bt62 rfl (by kernel_rfl)) rfl ?_
  refine RL.effs (E.stB (j := 2) (off := 0) (vs := (vB false :: (a16 (List.replicate 16 0) ++ (vB false :: (a16 (List.replicate 16 0) ++ [v8 0, v16 0, v16 0, v64 0, v64 0, v64 0, v64 0, v8 0, v8 0, v8 0]))))) (cs' := (vB false :: (a16 (List.replicate 16 0) ++ (vB false :: (a16 (List.replicate 16 0) ++ [v8 0, v16 0, v16 0, v64 0, v64 0, v64 0, v64 0, v8 0, v8 0, v8 0]))))) hM rfl sz62 rfl (XX [] rfl) rfl rfl (One.all rfl) rfl rfl) fun w35 hM1 => ?_
  clear hM
  have hM := hM1
  clear hM1
  refine va rfl rfl (nt hQ34 (KC.ret (KQ.thr hQ32 ?_)))
  have hE := Option.some.inj hF
  clear hF
  subst hE
  have hb36 := hM.bx (i := 2) rfl
  replace hM := hM.pick [0, 3, 4, 1] rfl (by decide)
  refine KQ.rets Tryz.results29 (RVs.cons (RV.cN (cs := (vB false :: (a16 (List.replicate 16 0) ++ (vB false :: (a16 (List.replicate 16 0) ++ [v8 0, v16 0, v16 0, v64 0, v64 0, v64 0, v64 0, v8 0, v8 0, v8 0]))))) rfl ag62 hb36) (RVs.cons (RV.tm rfl) RVs.nil)) ?_
  exact ⟨_, rfl, g4, A29, c30, A9, c10, rfl, hM⟩
 rw [if_neg (Xv hc)] at hF
 refine KC.skip (KQ.thn hQ32 ?_)
 refine sr fun Q37 hQ37 => ?_
 refine vm rfl rfl (RL.val (O.nilp rfl) rfl (RL.val (O.fldA fl69_3 (by decide) rfl) rfl ?_))
 refine RL.val (O.load sc55 rfl (Cs.adds [7] ((hM.bx (i := 0) rfl)) rfl)) rfl (vm rfl rfl ?_)
 refine Xx hF fun xv40 hx39 hF => ?_
 have hA38 := Rd.atN (f := Xn) (s := 44) (fun _ => rfl) (by decide) (hM.rd (i := 1) rfl) hx39
 refine RL.val (O.idxA sl55 (hA38) rfl rfl) rfl (RL.val (O.loadN (cs := (xv40.cs)) ag62 rfl (hA38).cells) rfl ?_)
 refine RL.effs (E.stB (j := 2) (off := 0) (vs := (xv40.cs)) (cs' := (xv40.cs)) hM rfl sz62 rfl (XX [] rfl) rfl rfl (One.all rfl) rfl rfl) fun w41 hM1 => ?_
 clear hM
 have hM := hM1
 clear hM1
 refine va rfl rfl (nt hQ37 (KC.ret ?_))
 have hE := Option.some.inj hF
 clear hF
 subst hE
 have hb42 := hM.bx (i := 2) rfl
 replace hM := hM.pick [0, 3, 4, 1] rfl (by decide)
 refine KQ.rets Tryz.results29 (RVs.cons (RV.cN (cs := (xv40.cs)) rfl ag62 hb42) (RVs.cons (RV.tm rfl) RVs.nil)) ?_
 exact ⟨_, rfl, g4, A29, c30, A9, c10, rfl, hM⟩
theorem XaN (w : World) (g2 : Nat) (tg7 : TypeId) (cv1 : Xq) (A4 : Option Addr) (c5 : Nat) (hL9 : Lent w [.box g2 tg7 (v64 cv1.XK :: (cv1.Xu.cs ++ [.slice A4 (cv1.f_L).length c5])), .row A4 c5 89 44 (cv1.f_L).length ((cv1.f_L).flatMap Xs)]) (kv8 : XR) (r : Xi × Bool × Xq) (hF : Kf cv1 kv8 = some r) :
  CallsR Tryz.prog 30 [.pointer (some ⟨g2, 0, none⟩), .agg (kv8.cs).toArray] w (fun v w' => ∃ (A0 : Option Addr) (c0 : Nat), v = .tuple #[.agg (r.1.cs).toArray, vB r.2.1] ∧ Mem w [some g2, rblk A4 c5] w' [.box g2 tg7 (v64 r.2.2.XK :: (r.2.2.Xu.cs ++ [.slice A0 (r.2.2.f_L).length c0])), .row A0 c0 89 44 r.2.2.f_L.length (r.2.2.f_L.flatMap Xs)]) := by
 refine XJ Tryz.func30 rfl Tryz.ntmps30 rfl ?_
 have hM : Mem w [some g2, rblk A4 c5] w [.box g2 tg7 (v64 cv1.XK :: (cv1.Xu.cs ++ [.slice A4 (cv1.f_L).length c5])), .row A4 c5 89 44 (cv1.f_L).length ((cv1.f_L).flatMap Xs)] := Mem.lendN hL9
 unfold Kf at hF
 refine sr fun Q10 hQ10 => ?_
 refine RL.eff (E.box (vs := (kv8.cs)) hM rfl rfl) rfl fun v w12 hv => ?_
 clear hM
 obtain ⟨g11, rfl, hM, hf⟩ := hv
 refine RL.eff (E.alloc hM ze89) rfl fun v w15 hv => ?_
 clear hM
 obtain ⟨g14, rfl, hM, hf⟩ := hv
 refine va rfl rfl (nt hQ10 ?_)
 refine sr fun Q17 hQ17 => ?_
 refine vm rfl rfl (RL.val (O.loadN (cs := (kv8.cs)) ag77 rfl (Cs.addsN [] ((hM.bx (i := 2) rfl)) rfl)) rfl ?_)
 refine Xx hF fun y18 hx19 hF => ?_
 refine RL.call Tryz.func59 bd59 rfl rfl (Us _ _ _ cv1 _ _ (hM.lent [0, 1] rfl (by decide)) kv8 _ hx19) fun v w20 hv => ?_
 obtain ⟨A22, c23, rfl, hN21⟩ := hv
 replace hM := hM.callL [0, 1] [2, 3] rfl rfl (by decide) rfl hN21
 refine vm rfl rfl (RL.val (O.ext rfl rfl) rfl (RL.val (O.ext rfl rfl) rfl (va rfl rfl (va rfl rfl (nt hQ17 ?_)))))
 replace hM := hM.pick [1, 2, 3] rfl (by decide)
 refine KC.seqH fun Q25 hQ25 => ?_
 refine sr fun Q26 hQ26 => ?_
 refine vm rfl rfl (RL.val (O.not rfl) rfl (nt hQ26 ?_))
 refine KC.cond rfl (fun hc => ?_) (fun hc => ?_)
 ·rw [if_pos hc] at hF
  refine sr fun Q27 hQ27 => ?_
  refine RL.val (O.bld (cs := (vB false :: (a16 (List.replicate 16 0) ++ (vB false :: (a16 (List.replicate 16 0) ++ [v8 0, v16 0, v16 0, v64 0, v64 0, v64 0, v64 0, v8 0, v8 0, v8 0]))))) bt89 rfl (by kernel_rfl)) rfl ?_
  refine RL.effs (E.stB (j := 0) (off := 0) (vs := (vB false :: (a16 (List.replicate 16 0) ++ (vB false :: (a16 (List.replicate 16 0) ++ [v8 0, v16 0, v16 0, v64 0, v64 0, v64 0, v64 0, v8 0, v8 0, v8 0]))))) (cs' := (vB false :: (a16 (List.replicate 16 0) ++ (vB false :: (a16 (List.replicate 16 0) ++ [v8 0, v16 0, v16 0, v64 0, v64 0, v64 0, v64 0, v8 0, v8 0, v8 0]))))) hM rfl sz89 rfl (XX [] rfl) rfl rfl (One.all rfl) rfl rfl) fun w28 hM1 => ?_
  clear hM
  have hM := hM1
  clear hM1
  refine va rfl rfl (nt hQ27 (KC.ret (KQ.thr hQ25 ?_)))
  have hE := Option.some.inj hF
  clear hF
  subst hE
  have hb29 := hM.bx (i := 0) rfl
  replace hM := hM.pick [1, 2] rfl (by decide)
  refine KQ.rets Tryz.results30 (RVs.cons (RV.cN (cs := (vB false :: (a16 (List.replicate 16 0) ++ (vB false :: (a16 (List.replicate 16 0) ++ [v8 0, v16 0, v16 0, v64 0, v64 0, v64 0, v64 0, v8 0, v8 0, v8 0]))))) rfl ag89 hb29) (RVs.cons (RV.tm rfl) RVs.nil)) ?_
  exact ⟨_, rfl, A22, c23, rfl, hM⟩
 rw [if_neg (Xv hc)] at hF
 refine KC.skip (KQ.thn hQ25 ?_)
 refine sr fun Q30 hQ30 => ?_
 refine vm rfl rfl (RL.val (O.nilp rfl) rfl (RL.val (O.fldA fl72_2 (by decide) rfl) rfl ?_))
 refine RL.val (O.load sc70 rfl (Cs.adds [6] ((hM.bx (i := 1) rfl)) rfl)) rfl (vm rfl rfl ?_)
 refine Xx hF fun xv33 hx32 hF => ?_
 have hA31 := Rd.atN (f := Xs) (s := 44) (fun _ => rfl) (by decide) (hM.rd (i := 2) rfl) hx32
 refine RL.val (O.idxA sl70 (hA31) rfl rfl) rfl (RL.val (O.loadN (cs := (xv33.cs)) ag89 rfl (hA31).cells) rfl ?_)
 refine RL.effs (E.stB (j := 0) (off := 0) (vs := (xv33.cs)) (cs' := (xv33.cs)) hM rfl sz89 rfl (XX [] rfl) rfl rfl (One.all rfl) rfl rfl) fun w34 hM1 => ?_
 clear hM
 have hM := hM1
 clear hM1
 refine va rfl rfl (nt hQ30 (KC.ret ?_))
 have hE := Option.some.inj hF
 clear hF
 subst hE
 have hb35 := hM.bx (i := 0) rfl
 replace hM := hM.pick [1, 2] rfl (by decide)
 refine KQ.rets Tryz.results30 (RVs.cons (RV.cN (cs := (xv33.cs)) rfl ag89 hb35) (RVs.cons (RV.tm rfl) RVs.nil)) ?_
 exact ⟨_, rfl, A22, c23, rfl, hM⟩
theorem Xap (w : World) (g2 : Nat) (tg6 : TypeId) (cv1 : Xl) (vo4 : Value) (vo5 : Value) (hL7 : Lent w [.box g2 tg6 (v64 cv1.XB :: (cv1.Xb.cs ++ [vo4, vo5]))]) (r : Int) (hF : YL cv1 = some r) :
  CallsR Tryz.prog 34 [.pointer (some ⟨g2, 0, none⟩)] w (fun v w' => v = v64 r ∧ Mem w [some g2] w' [.box g2 tg6 (v64 cv1.XB :: (cv1.Xb.cs ++ [vo4, vo5]))]) := by
 refine XJ Tryz.func34 rfl Tryz.ntmps34 rfl ?_
 have hM : Mem w [some g2] w [.box g2 tg6 (v64 cv1.XB :: (cv1.Xb.cs ++ [vo4, vo5]))] := Mem.lendN hL7
 unfold YL at hF
 refine sr fun Q8 hQ8 => ?_
 refine va rfl rfl (nt hQ8 ?_)
 refine KC.seqH fun Q9 hQ9 => ?_
 refine sr fun Q10 hQ10 => ?_
 refine vm rfl rfl (RL.val (O.peqn Tryz.underlying27 rfl rfl) rfl (nt hQ10 (KC.condF rfl (KC.skip (KQ.thn hQ9 ?_)))))
 refine sr fun Q11 hQ11 => ?_
 refine vm rfl rfl (RL.val (O.nilp rfl) rfl (RL.val (O.fldA fl69_0 (by decide) rfl) rfl ?_))
 refine RL.val (O.load sc22 rfl (Cs.adds [0] ((hM.bx (i := 0) rfl)) rfl)) rfl (va rfl rfl (nt hQ11 (KC.ret ?_)))
 have hE := Option.some.inj hF
 clear hF
 subst hE
 refine KQ.rets Tryz.results34 (RVs.cons (RV.tm rfl) RVs.nil) ?_
 exact ⟨_, rfl, rfl, hM⟩
theorem ZG (w : World) (g2 : Nat) (tg6 : TypeId) (cv1 : Xl) (vo4 : Value) (vo5 : Value) (hL7 : Lent w [.box g2 tg6 (v64 cv1.XB :: (cv1.Xb.cs ++ [vo4, vo5]))]) (r : Int) (hF : YL cv1 = some r) :
  CallsR Tryz.prog 34 [.pointer (some ⟨g2, 0, none⟩)] w (fun v w' => v = v64 r ∧ Mem w [] w' []) := Calls.mono (Xap w g2 tg6 cv1 vo4 vo5 hL7 r hF) fun e w1 ⟨v, he, hv, hm⟩ => ⟨v, he, hv, hm.still hL7 rfl rfl⟩
end Go.Proofs.YtkpnocgfhipidaaGreat
