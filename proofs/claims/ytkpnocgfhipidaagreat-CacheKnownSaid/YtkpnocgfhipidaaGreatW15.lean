/- Printed by a program of this claim: each call returns what the plain function of its name gives. -/
import Derived.Test.YtkpnocgfhipidaaGreatW1
import Derived.Test.YtkpnocgfhipidaaGreatW8
import Derived.Test.YtkpnocgfhipidaaGreatW10
import Derived.Test.YtkpnocgfhipidaaGreatW12
import Derived.Test.YtkpnocgfhipidaaGreatW13
import Derived.Test.YtkpnocgfhipidaaGreatW14
set_option linter.unusedVariables false
set_option maxRecDepth 100000
set_option maxHeartbeats 40000000
namespace Go.Proofs.YtkpnocgfhipidaaGreat
open Go Go.Ox Go.RowKit
theorem Xa3 (w : World) (g2 : Nat) (tg12 : TypeId) (cv1 : Xl) (g4 : Nat) (A6 : Option Addr) (c7 : Nat) (A9 : Option Addr) (c10 g14 : Nat) (tg19 : TypeId) (rv13 : Xq) (A16 : Option Addr) (c17 : Nat) (hL21 : Lent w [.box g2 tg12 (v64 cv1.XB :: (cv1.Xb.cs ++ [.pointer (some ⟨g4, 0, none⟩), .slice A9 (cv1.Xh).length c10])), .box g4 119 [.slice A6 (cv1.Xf.Xp).length c7, vI cv1.Xf.XG], .row A6 c7 140 39 (cv1.Xf.Xp).length ((cv1.Xf.Xp).flatMap Xt), .row A9 c10 62 44 (cv1.Xh).length ((cv1.Xh).flatMap Xn), .box g14 tg19 (v64 rv13.XK :: (rv13.Xu.cs ++ [.slice A16 (rv13.f_L).length c17])), .row A16 c17 89 44 (rv13.f_L).length ((rv13.f_L).flatMap Xs)]) (kv20 : Xe) (r : Bool × Xl × Xq) (hF : Vh cv1 rv13 kv20 = some r) :
  CallsR Tryz.prog 10 [.pointer (some ⟨g2, 0, none⟩), .pointer (some ⟨g14, 0, none⟩), .agg (kv20.cs).toArray] w (fun v w' => ∃ (g0 : Nat) (A1 : Option Addr) (c1 : Nat) (A2 : Option Addr) (c2 : Nat) (A3 : Option Addr) (c3 : Nat), v = vB r.1 ∧ Mem w [some g2, some g4, rblk A6 c7, rblk A9 c10, some g14, rblk A16 c17] w' [.box g2 tg12 (v64 r.2.1.XB :: (r.2.1.Xb.cs ++ [.pointer (some ⟨g0, 0, none⟩), .slice A2 (r.2.1.Xh).length c2])), .box g0 119 [.slice A1 (r.2.1.Xf.Xp).length c1, vI r.2.1.Xf.XG], .row A1 c1 140 39 r.2.1.Xf.Xp.length (r.2.1.Xf.Xp.flatMap Xt), .row A2 c2 62 44 r.2.1.Xh.length (r.2.1.Xh.flatMap Xn), .box g14 tg19 (v64 r.2.2.XK :: (r.2.2.Xu.cs ++ [.slice A3 (r.2.2.f_L).length c3])), .row A3 c3 89 44 r.2.2.f_L.length (r.2.2.f_L.flatMap Xs)]) := by
 refine XJ Tryz.func10 rfl Tryz.ntmps10 rfl ?_
 have hM : Mem w [some g2, some g4, rblk A6 c7, rblk A9 c10, some g14, rblk A16 c17] w [.box g2 tg12 (v64 cv1.XB :: (cv1.Xb.cs ++ [.pointer (some ⟨g4, 0, none⟩), .slice A9 (cv1.Xh).length c10])), .box g4 119 [.slice A6 (cv1.Xf.Xp).length c7, vI cv1.Xf.XG], .row A6 c7 140 39 (cv1.Xf.Xp).length ((cv1.Xf.Xp).flatMap Xt), .row A9 c10 62 44 (cv1.Xh).length ((cv1.Xh).flatMap Xn), .box g14 tg19 (v64 rv13.XK :: (rv13.Xu.cs ++ [.slice A16 (rv13.f_L).length c17])), .row A16 c17 89 44 (rv13.f_L).length ((rv13.f_L).flatMap Xs)] := Mem.lendN hL21
 unfold Vh at hF
 refine sr fun Q22 hQ22 => ?_
 refine RL.eff (E.box (vs := (kv20.cs)) hM rfl rfl) rfl fun v w24 hv => ?_
 clear hM
 obtain ⟨g23, rfl, hM, hf⟩ := hv
 refine va rfl rfl (nt hQ22 ?_)
 refine sr fun Q26 hQ26 => ?_
 refine vm rfl rfl ?_
 refine Xx hF fun y27 hx28 hF => ?_
 refine RL.call Tryz.func17 bd17 rfl rfl (U9 _ _ _ cv1 _ _ _ _ _ (hM.lent [0, 1, 2, 3] rfl (by decide)) _ hx28) fun v w29 hv => ?_
 obtain ⟨g31, A33, c34, A36, c37, rfl, hN30⟩ := hv
 replace hM := hM.callL [0, 1, 2, 3] [4, 5, 6] rfl rfl (by decide) rfl hN30
 refine vm rfl rfl (RL.val (O.ext rfl rfl) rfl (RL.val (O.ext rfl rfl) rfl (va rfl rfl (va rfl rfl (nt hQ26 ?_)))))
 refine sr fun Q39 hQ39 => ?_
 refine vm rfl rfl ?_
 refine Xx hF fun y40 hx41 hF => ?_
 refine RL.call Tryz.func28 bd28 rfl rfl (VJ _ _ _ rv13 _ _ (hM.lent [0, 1] rfl (by decide)) _ hx41) fun v w42 hv => ?_
 obtain ⟨A44, c45, rfl, hN43⟩ := hv
 replace hM := hM.callL [0, 1] [2, 3, 4, 5, 6] rfl rfl (by decide) rfl hN43
 refine vm rfl rfl (RL.val (O.ext rfl rfl) rfl (RL.val (O.ext rfl rfl) rfl (va rfl rfl (va rfl rfl (nt hQ39 ?_)))))
 refine sr fun Q47 hQ47 => ?_
 refine vm rfl rfl (RL.val (O.loadN (cs := (kv20.cs)) ag42 rfl (Cs.addsN [] ((hM.bx (i := 0) rfl)) rfl)) rfl ?_)
 refine Xx hF fun y48 hx49 hF => ?_
 refine RL.call Tryz.func29 bd29 rfl rfl (XaP _ _ _ y27.2.2 _ _ _ _ _ (hM.lent [1, 2, 3, 4] rfl (by decide)) kv20 _ hx49) fun v w50 hv => ?_
 obtain ⟨g52, A54, c55, A57, c58, rfl, hN51⟩ := hv
 replace hM := hM.callL [1, 2, 3, 4] [0, 5, 6] rfl rfl (by decide) rfl hN51
 refine vm rfl rfl (RL.val (O.ext rfl rfl) rfl (RL.val (O.ext rfl rfl) rfl ?_))
 refine RL.eff (E.alloc hM ze62) rfl fun v w61 hv => ?_
 clear hM
 obtain ⟨g60, rfl, hM, hf⟩ := hv
 refine RL.effs (E.stB (j := 7) (off := 0) (vs := (y48.1.cs)) (cs' := (y48.1.cs)) hM rfl sz62 rfl (XX [] rfl) rfl rfl (One.all rfl) rfl rfl) fun w63 hM1 => ?_
 clear hM
 have hM := hM1
 clear hM1
 refine va rfl rfl (nt hQ47 ?_)
 refine sr fun Q64 hQ64 => ?_
 refine vm rfl rfl (RL.val (O.loadN (cs := (kv20.cs)) ag42 rfl (Cs.addsN [] ((hM.bx (i := 0) rfl)) rfl)) rfl ?_)
 refine Xx hF fun y65 hx66 hF => ?_
 refine RL.call Tryz.func31 bd31 rfl rfl (XaO _ kv20 _ hx66) fun v w67 hv => ?_
 obtain ⟨rfl, hN68⟩ := hv
 replace hM := hM.call0 hN68
 refine Xx hF fun y69 hx70 hF => ?_
 refine RL.call Tryz.func30 bd30 rfl rfl (XaN _ _ _ y40.2.2 _ _ (hM.lent [1, 2] rfl (by decide)) y65 _ hx70) fun v w71 hv => ?_
 obtain ⟨A73, c74, rfl, hN72⟩ := hv
 replace hM := hM.callL [1, 2] [0, 3, 4, 5, 6, 7] rfl rfl (by decide) rfl hN72
 refine vm rfl rfl (RL.val (O.ext rfl rfl) rfl (RL.val (O.ext rfl rfl) rfl ?_))
 refine RL.eff (E.alloc hM ze89) rfl fun v w77 hv => ?_
 clear hM
 obtain ⟨g76, rfl, hM, hf⟩ := hv
 refine RL.effs (E.stB (j := 8) (off := 0) (vs := (y69.1.cs)) (cs' := (y69.1.cs)) hM rfl sz89 rfl (XX [] rfl) rfl rfl (One.all rfl) rfl rfl) fun w79 hM1 => ?_
 clear hM
 have hM := hM1
 clear hM1
 refine va rfl rfl (nt hQ64 ?_)
 replace hM := hM.pick [1, 2, 3, 4, 5, 6, 7, 8] rfl (by decide)
 refine KC.cut (fun a w241 => ∃ (g228 : Nat) (A230 : Option Addr) (c231 : Nat) (A235 : Option Addr) (c236 : Nat) (p221 p222 p223 p224 p225 p226 : Int) (p232 : List Xm) (p233 : Int) (p237 : List Xc) (t240 : Bool), Kn 84 [(6, vB t240)] a ∧ Mem w [some g2, some g4, rblk A6 c7, rblk A9 c10, some g14, rblk A16 c17] w241 [.row A230 c231 140 39 (p232).length ((p232).flatMap Xt), .box g228 119 [.slice A230 (p232).length c231, vI p233], .row A235 c236 62 44 (p237).length ((p237).flatMap Xn), .box g2 tg12 [v64 p221, vI p222, v64 p223, v64 p224, v64 p225, v64 p226, .pointer (some ⟨g228, 0, none⟩), .slice A235 (p237).length c236], .row A73 c74 89 44 (y69.2.2.f_L).length ((y69.2.2.f_L).flatMap Xs), .box g14 tg19 (v64 y69.2.2.XK :: (y69.2.2.Xu.cs ++ [.slice A73 (y69.2.2.f_L).length c74]))] ∧ JE y69 p221 p222 p223 p224 p225 p226 p232 p233 p237 t240 = some r) ?_ ?_
 ·replace hM := hM.drewN 1
  refine KC.draw [] [21, 26, 30, 35] [10, 21, 25, 26, 30, 34, 35, 39] [0, 1, 2, 3, 4, 5, 6, 7, 8, 12, 13, 14, 15, 16, 17, 18, 19, 20, 22, 23, 24, 27, 28, 29, 31, 32, 33, 36, 37, 38, 40, 41, 42, 44, 45, 46] (.cons 0 (.cons 1 (.cons 2 (.cons 3 (.cons 4 (.cons 5 (.cons 6 (.cons 7 (.cons 8 (.cons 9 (.cons 11 (.cons 10 (.cons 12 (.cons 13 (.cons 14 (.cons 15 (.cons 16 (.cons 17 (.cons 18 (.cons 19 (.cons 20 (.cons 22 (.cons 23 (.cons 24 (.alt 21 (.cons 25 (.cons 26 (.cons 27 (.cons 28 (.cons 29 (.cons 31 (.cons 32 (.cons 33 (.alt 30 (.ofList [34, 35, 36, 37, 38, 40, 41, 42, 43, 39, 44, 45, 46]) 34 (.ofList [30, 35, 36, 37, 38, 40, 41, 42, 43, 39, 44, 45, 46])))))))))) 25 (.cons 21 (.cons 26 (.cons 27 (.cons 28 (.cons 29 (.cons 31 (.cons 32 (.cons 33 (.alt 30 (.ofList [34, 35, 36, 37, 38, 40, 41, 42, 43, 39, 44, 45, 46]) 34 (.ofList [30, 35, 36, 37, 38, 40, 41, 42, 43, 39, 44, 45, 46]))))))))))))))))))))))))))))))))))) moP (by kernel_rfl) ?_
  refine RD.p rfl rfl rfl rfl (fun w' => O.move rfl) ?_
  refine RD.p rfl rfl rfl rfl (fun w' => O.move rfl) ?_
  refine RD.p rfl rfl rfl rfl (fun w' => O.eql rfl rfl) ?_
  refine RD.p rfl rfl rfl rfl (fun w' => O.move rfl) ?_
  refine RD.bcase (t := 41) rfl (fun hc => ?_) (fun hc => ?_)
  ·rw [if_pos hc] at hF
   refine RD.gp rfl rfl rfl rfl rfl rfl (fun w' => O.move rfl) ?_
   refine RD.gp rfl rfl rfl rfl rfl rfl (fun w' => O.move rfl) ?_
   refine RD.gp rfl rfl rfl rfl rfl rfl (fun w' => O.eqlb Tryz.underlying4 rfl rfl) ?_
   refine RD.p rfl rfl rfl rfl (fun w' => O.pickt rfl rfl) ?_
   refine RD.p rfl rfl rfl rfl (fun w' => O.move rfl) ?_
   refine RD.bcase (t := 46) rfl (fun hc => ?_) (fun hc => ?_)
   ·rw [if_pos hc] at hF
    refine RD.gq rfl rfl rfl rfl rfl rfl (fun w' hf => O.loadN (cs := (y48.1.cs)) ag62 rfl (Cs.addsN [] ((hM.bx (i := 4) rfl).fut hf) rfl)) ?_
    refine RD.gq rfl rfl rfl rfl rfl rfl (fun w' hf => O.loadN (cs := (y69.1.cs)) ag89 rfl (Cs.addsN [] ((hM.bx (i := 7) rfl).fut hf) rfl)) ?_
    refine Xx hF fun y80 hx81 hF => ?_
    refine RD.mcall rfl rfl ⟨rfl, rfl⟩ Tryz.func32 bd32 rfl rfl (XaI _ y48.1 _ hx81) fun v w82 hv => ?_
    obtain ⟨rfl, hN83⟩ := hv
    refine ⟨fun _ => hN83.fut, ?_⟩
    replace hM := hM.call0 hN83
    refine RD.gp rfl rfl rfl rfl rfl rfl (fun w' => O.steq (cs := (y80.cs)) (cs' := (y69.1.cs)) (by kernel_rfl) rfl rfl (Q89t y80 y69.1 _ rfl rfl)) ?_
    refine RD.p rfl rfl rfl rfl (fun w' => O.pickt rfl rfl) ?_
    refine RD.p rfl rfl rfl rfl (fun w' => O.move rfl) ?_
    refine RD.bcase (t := 52) rfl (fun hc => ?_) (fun hc => ?_)
    ·rw [if_pos hc] at hF
     refine RD.gp rfl rfl rfl rfl rfl rfl (fun w' => O.move rfl) ?_
     refine RD.gp rfl rfl rfl rfl rfl rfl (fun w' => O.move rfl) ?_
     refine RD.gp rfl rfl rfl rfl rfl rfl (fun w' => O.eqlb Tryz.underlying4 rfl rfl) ?_
     refine RD.p rfl rfl rfl rfl (fun w' => O.pickt rfl rfl) ?_
     refine RD.p rfl rfl rfl rfl (fun w' => O.move rfl) ?_
     refine RD.bcase (t := 57) rfl (fun hc => ?_) (fun hc => ?_)
     ·rw [if_pos hc] at hF
      refine RD.gp rfl rfl rfl rfl rfl rfl (fun w' => O.move rfl) ?_
      refine RD.gp rfl rfl rfl rfl rfl rfl (fun w' => O.move rfl) ?_
      refine RD.gp rfl rfl rfl rfl rfl rfl (fun w' => O.nilp rfl) ?_
      refine RD.gp rfl rfl rfl rfl rfl rfl (fun w' => O.fldA fl72_2 (by decide) rfl) ?_
      refine RD.alt ?_ ?_
      ·refine Xx hF fun y84 hx85 hF => ?_
       refine RD.mcall rfl rfl ⟨rfl, rfl⟩ Tryz.func33 bd33 rfl rfl (YY _ _ _ y48.2.2 _ _ _ _ _ (hM.lent [0, 1, 2, 3] rfl (by decide)) _ hx85) fun v w86 hv => ?_
       obtain ⟨g88, A90, c91, A93, c94, A96, c97, rfl, hN87⟩ := hv
       refine ⟨fun h => (by cases h), ?_⟩
       replace hM := hM.callL [0, 1, 2, 3] [4, 5, 6, 7] rfl rfl (by decide) rfl hN87
       refine RD.gmq rfl rfl rfl rfl (O.load sc70 rfl (Cs.adds [6] ((hM.bx (i := 1) rfl)) rfl)) rfl ?_
       refine Xx hF fun y99 hx100 hF => ?_
       refine RD.mcall rfl rfl ⟨rfl, rfl⟩ Tryz.func23 bd23 rfl rfl (ZA _ _ _ y84.1 (hM.lent [8] rfl (by decide)) _ _ y69.2.2.f_L (hM.rd (i := 2) rfl) (hM.offR [8] rfl (i := 2) rfl rfl) _ hx100) fun v w101 hv => ?_
       obtain ⟨rfl, hw103, hN102⟩ := hv
       refine ⟨fun h => (by cases h), ?_⟩
       replace hM := hM.callL [8] [0, 1, 2, 3, 4, 5, 6, 7] rfl rfl (by decide) rfl hN102
       refine RD.reslot (t := 59) rfl hw103 ?_
       refine RD.p rfl rfl rfl rfl (fun w' => O.pickt rfl rfl) ?_
       refine RD.p rfl rfl rfl rfl (fun w' => O.move rfl) ?_
       refine RD.bcase (t := 66) rfl (fun hc => ?_) (fun hc => ?_)
       ·rw [if_pos hc] at hF
        refine RD.gp rfl rfl rfl rfl rfl rfl (fun w' => O.move rfl) ?_
        refine RD.gp rfl rfl rfl rfl rfl rfl (fun w' => O.move rfl) ?_
        refine RD.gp rfl rfl rfl rfl rfl rfl (fun w' => O.nilp rfl) ?_
        refine RD.gp rfl rfl rfl rfl rfl rfl (fun w' => O.fldA fl72_2 (by decide) rfl) ?_
        refine RD.alt ?_ ?_
        ·refine Xx hF fun y104 hx105 hF => ?_
         refine RD.mcall rfl rfl ⟨rfl, rfl⟩ Tryz.func33 bd33 rfl rfl (YY _ _ _ y84.2 _ _ _ _ _ (hM.lent [4, 5, 6, 7] rfl (by decide)) _ hx105) fun v w106 hv => ?_
         obtain ⟨g108, A110, c111, A113, c114, A116, c117, rfl, hN107⟩ := hv
         refine ⟨fun h => (by cases h), ?_⟩
         replace hM := hM.callL [4, 5, 6, 7] [0, 1, 2, 3, 8] rfl rfl (by decide) rfl hN107
         refine RD.gmq rfl rfl rfl rfl (O.load sc70 rfl (Cs.adds [6] ((hM.bx (i := 1) rfl)) rfl)) rfl ?_
         refine Xx hF fun y119 hx120 hF => ?_
         refine RD.mcall rfl rfl ⟨rfl, rfl⟩ Tryz.func23 bd23 rfl rfl (ZA _ _ _ y104.1 (hM.lent [9] rfl (by decide)) _ _ y69.2.2.f_L (hM.rd (i := 2) rfl) (hM.offR [9] rfl (i := 2) rfl rfl) _ hx120) fun v w121 hv => ?_
         obtain ⟨rfl, hw123, hN122⟩ := hv
         refine ⟨fun h => (by cases h), ?_⟩
         replace hM := hM.callL [9] [0, 1, 2, 3, 4, 5, 6, 7, 8] rfl rfl (by decide) rfl hN122
         refine RD.reslot (t := 68) rfl hw123 ?_
         refine RD.p rfl rfl rfl rfl (fun w' => O.pickt rfl rfl) ?_
         refine RD.p rfl rfl rfl rfl (fun w' => O.move rfl) ?_
         refine RD.bcase (t := 75) rfl (fun hc => ?_) (fun hc => ?_)
         ·rw [if_pos hc] at hF
          refine RD.gp rfl rfl rfl rfl rfl rfl (fun w' => O.move rfl) ?_
          refine RD.gp rfl rfl rfl rfl rfl rfl (fun w' => O.move rfl) ?_
          refine RD.gp rfl rfl rfl rfl rfl rfl (fun w' => O.nilp rfl) ?_
          refine RD.gp rfl rfl rfl rfl rfl rfl (fun w' => O.fldA fl72_0 (by decide) rfl) ?_
          refine RD.gq rfl rfl rfl rfl rfl rfl (fun w' hf => O.load sc22 rfl (Cs.adds [0] ((hM.bx (i := 1) rfl).fut hf) rfl)) ?_
          refine Xx hF fun y124 hx125 hF => ?_
          refine RD.mcall rfl rfl ⟨rfl, rfl⟩ Tryz.func34 bd34 rfl rfl (ZG _ _ _ y104.2 _ _ (hM.lent [5] rfl (by decide)) _ hx125) fun v w126 hv => ?_
          obtain ⟨rfl, hN127⟩ := hv
          refine ⟨fun _ => hN127.fut, ?_⟩
          replace hM := hM.call0 hN127
          refine RD.gp rfl rfl rfl rfl rfl rfl (fun w' => O.eql rfl rfl) ?_
          refine RD.p rfl rfl rfl rfl (fun w' => O.pickt rfl rfl) ?_
          refine RD.p rfl rfl rfl rfl (fun w' => O.assign rfl) (RD.nil (KQ.Xy ?_))
          replace hM := hM.pick [7, 6, 8, 5, 2, 1] rfl (by decide)
          exact fun a ha => ⟨g108, A110, c111, A113, c114, y104.2.XB, y104.2.Xb.Xz, y104.2.Xb.XI, y104.2.Xb.XA, y104.2.Xb.Xk, y104.2.Xb.Xr, y104.2.Xf.Xp, y104.2.Xf.XG, y104.2.Xh, (y124 == y69.2.2.XK), ha.less (Xa rfl Xj), hM, hF⟩
         rw [if_neg (Xv hc)] at hF
         refine RD.brun1 [38, 40, 41, 42, 43, 39, 44, 45] 83 false (by kernel_rfl) ?_
         refine RD.p rfl rfl rfl rfl (fun w' => O.assign rfl) (RD.nil (KQ.Xy ?_))
         replace hM := hM.pick [7, 6, 8, 5, 2, 1] rfl (by decide)
         exact fun a ha => ⟨g108, A110, c111, A113, c114, y104.2.XB, y104.2.Xb.Xz, y104.2.Xb.XI, y104.2.Xb.XA, y104.2.Xb.Xk, y104.2.Xb.Xr, y104.2.Xf.Xp, y104.2.Xf.XG, y104.2.Xh, false, ha.less (Xa rfl Xj), hM, hF⟩
        refine RD.gmq rfl rfl rfl rfl (O.load sc70 rfl (Cs.adds [6] ((hM.bx (i := 1) rfl)) rfl)) rfl ?_
        refine Xx hF fun y128 hx129 hF => ?_
        refine RD.mcall rfl rfl ⟨rfl, rfl⟩ Tryz.func33 bd33 rfl rfl (YY _ _ _ y84.2 _ _ _ _ _ (hM.lent [4, 5, 6, 7] rfl (by decide)) _ hx129) fun v w130 hv => ?_
        obtain ⟨g132, A134, c135, A137, c138, A140, c141, rfl, hN131⟩ := hv
        refine ⟨fun h => (by cases h), ?_⟩
        replace hM := hM.callL [4, 5, 6, 7] [0, 1, 2, 3, 8] rfl rfl (by decide) rfl hN131
        refine Xx hF fun y143 hx144 hF => ?_
        refine RD.mcall rfl rfl ⟨rfl, rfl⟩ Tryz.func23 bd23 rfl rfl (ZA _ _ _ y128.1 (hM.lent [9] rfl (by decide)) _ _ y69.2.2.f_L (hM.rd (i := 2) rfl) (hM.offR [9] rfl (i := 2) rfl rfl) _ hx144) fun v w145 hv => ?_
        obtain ⟨rfl, hw147, hN146⟩ := hv
        refine ⟨fun h => (by cases h), ?_⟩
        replace hM := hM.callL [9] [0, 1, 2, 3, 4, 5, 6, 7, 8] rfl rfl (by decide) rfl hN146
        refine RD.reslot (t := 68) rfl hw147 ?_
        refine RD.p rfl rfl rfl rfl (fun w' => O.pickt rfl rfl) ?_
        refine RD.p rfl rfl rfl rfl (fun w' => O.move rfl) ?_
        refine RD.bcase (t := 75) rfl (fun hc => ?_) (fun hc => ?_)
        ·rw [if_pos hc] at hF
         refine RD.gp rfl rfl rfl rfl rfl rfl (fun w' => O.move rfl) ?_
         refine RD.gp rfl rfl rfl rfl rfl rfl (fun w' => O.move rfl) ?_
         refine RD.gp rfl rfl rfl rfl rfl rfl (fun w' => O.nilp rfl) ?_
         refine RD.gp rfl rfl rfl rfl rfl rfl (fun w' => O.fldA fl72_0 (by decide) rfl) ?_
         refine RD.gq rfl rfl rfl rfl rfl rfl (fun w' hf => O.load sc22 rfl (Cs.adds [0] ((hM.bx (i := 1) rfl).fut hf) rfl)) ?_
         refine Xx hF fun y148 hx149 hF => ?_
         refine RD.mcall rfl rfl ⟨rfl, rfl⟩ Tryz.func34 bd34 rfl rfl (ZG _ _ _ y128.2 _ _ (hM.lent [5] rfl (by decide)) _ hx149) fun v w150 hv => ?_
         obtain ⟨rfl, hN151⟩ := hv
         refine ⟨fun _ => hN151.fut, ?_⟩
         replace hM := hM.call0 hN151
         refine RD.gp rfl rfl rfl rfl rfl rfl (fun w' => O.eql rfl rfl) ?_
         refine RD.p rfl rfl rfl rfl (fun w' => O.pickt rfl rfl) ?_
         refine RD.p rfl rfl rfl rfl (fun w' => O.assign rfl) (RD.nil (KQ.Xy ?_))
         replace hM := hM.pick [7, 6, 8, 5, 2, 1] rfl (by decide)
         exact fun a ha => ⟨g132, A134, c135, A137, c138, y128.2.XB, y128.2.Xb.Xz, y128.2.Xb.XI, y128.2.Xb.XA, y128.2.Xb.Xk, y128.2.Xb.Xr, y128.2.Xf.Xp, y128.2.Xf.XG, y128.2.Xh, (y148 == y69.2.2.XK), ha.less (Xa rfl Xj), hM, hF⟩
        rw [if_neg (Xv hc)] at hF
        refine RD.brun1 [38, 40, 41, 42, 43, 39, 44, 45] 83 false (by kernel_rfl) ?_
        refine RD.p rfl rfl rfl rfl (fun w' => O.assign rfl) (RD.nil (KQ.Xy ?_))
        replace hM := hM.pick [7, 6, 8, 5, 2, 1] rfl (by decide)
        exact fun a ha => ⟨g132, A134, c135, A137, c138, y128.2.XB, y128.2.Xb.Xz, y128.2.Xb.XI, y128.2.Xb.XA, y128.2.Xb.Xk, y128.2.Xb.Xr, y128.2.Xf.Xp, y128.2.Xf.XG, y128.2.Xh, false, ha.less (Xa rfl Xj), hM, hF⟩
       rw [if_neg (Xv hc)] at hF
       refine RD.gskip rfl rfl rfl rfl rfl (RD.gskip rfl rfl rfl rfl rfl (RD.gskip rfl rfl rfl rfl rfl (RD.gskip rfl rfl rfl rfl rfl ?_)))
       refine RD.alt ?_ ?_
       ·refine RD.brun1 [30, 34, 35, 36, 37, 38, 40, 41, 42, 43, 39, 44, 45] 83 false (by kernel_rfl) ?_
        refine RD.p rfl rfl rfl rfl (fun w' => O.assign rfl) (RD.nil (KQ.Xy ?_))
        replace hM := hM.pick [6, 5, 7, 4, 2, 1] rfl (by decide)
        exact fun a ha => ⟨g88, A90, c91, A93, c94, y84.2.XB, y84.2.Xb.Xz, y84.2.Xb.XI, y84.2.Xb.XA, y84.2.Xb.Xk, y84.2.Xb.Xr, y84.2.Xf.Xp, y84.2.Xf.XG, y84.2.Xh, false, ha.less (Xa rfl Xj), hM, hF⟩
       refine RD.brun1 [34, 30, 35, 36, 37, 38, 40, 41, 42, 43, 39, 44, 45] 83 false (by kernel_rfl) ?_
       refine RD.p rfl rfl rfl rfl (fun w' => O.assign rfl) (RD.nil (KQ.Xy ?_))
       replace hM := hM.pick [6, 5, 7, 4, 2, 1] rfl (by decide)
       exact fun a ha => ⟨g88, A90, c91, A93, c94, y84.2.XB, y84.2.Xb.Xz, y84.2.Xb.XI, y84.2.Xb.XA, y84.2.Xb.Xk, y84.2.Xb.Xr, y84.2.Xf.Xp, y84.2.Xf.XG, y84.2.Xh, false, ha.less (Xa rfl Xj), hM, hF⟩
      refine RD.gmq rfl rfl rfl rfl (O.load sc70 rfl (Cs.adds [6] ((hM.bx (i := 5) rfl)) rfl)) rfl ?_
      refine Xx hF fun y152 hx153 hF => ?_
      refine RD.mcall rfl rfl ⟨rfl, rfl⟩ Tryz.func33 bd33 rfl rfl (YY _ _ _ y48.2.2 _ _ _ _ _ (hM.lent [0, 1, 2, 3] rfl (by decide)) _ hx153) fun v w154 hv => ?_
      obtain ⟨g156, A158, c159, A161, c162, A164, c165, rfl, hN155⟩ := hv
      refine ⟨fun h => (by cases h), ?_⟩
      replace hM := hM.callL [0, 1, 2, 3] [4, 5, 6, 7] rfl rfl (by decide) rfl hN155
      refine Xx hF fun y167 hx168 hF => ?_
      refine RD.mcall rfl rfl ⟨rfl, rfl⟩ Tryz.func23 bd23 rfl rfl (ZA _ _ _ y152.1 (hM.lent [8] rfl (by decide)) _ _ y69.2.2.f_L (hM.rd (i := 2) rfl) (hM.offR [8] rfl (i := 2) rfl rfl) _ hx168) fun v w169 hv => ?_
      obtain ⟨rfl, hw171, hN170⟩ := hv
      refine ⟨fun h => (by cases h), ?_⟩
      replace hM := hM.callL [8] [0, 1, 2, 3, 4, 5, 6, 7] rfl rfl (by decide) rfl hN170
      refine RD.reslot (t := 59) rfl hw171 ?_
      refine RD.p rfl rfl rfl rfl (fun w' => O.pickt rfl rfl) ?_
      refine RD.p rfl rfl rfl rfl (fun w' => O.move rfl) ?_
      refine RD.bcase (t := 66) rfl (fun hc => ?_) (fun hc => ?_)
      ·rw [if_pos hc] at hF
       refine RD.gp rfl rfl rfl rfl rfl rfl (fun w' => O.move rfl) ?_
       refine RD.gp rfl rfl rfl rfl rfl rfl (fun w' => O.move rfl) ?_
       refine RD.gp rfl rfl rfl rfl rfl rfl (fun w' => O.nilp rfl) ?_
       refine RD.gp rfl rfl rfl rfl rfl rfl (fun w' => O.fldA fl72_2 (by decide) rfl) ?_
       refine RD.alt ?_ ?_
       ·refine Xx hF fun y172 hx173 hF => ?_
        refine RD.mcall rfl rfl ⟨rfl, rfl⟩ Tryz.func33 bd33 rfl rfl (YY _ _ _ y152.2 _ _ _ _ _ (hM.lent [4, 5, 6, 7] rfl (by decide)) _ hx173) fun v w174 hv => ?_
        obtain ⟨g176, A178, c179, A181, c182, A184, c185, rfl, hN175⟩ := hv
        refine ⟨fun h => (by cases h), ?_⟩
        replace hM := hM.callL [4, 5, 6, 7] [0, 1, 2, 3, 8] rfl rfl (by decide) rfl hN175
        refine RD.gmq rfl rfl rfl rfl (O.load sc70 rfl (Cs.adds [6] ((hM.bx (i := 1) rfl)) rfl)) rfl ?_
        refine Xx hF fun y187 hx188 hF => ?_
        refine RD.mcall rfl rfl ⟨rfl, rfl⟩ Tryz.func23 bd23 rfl rfl (ZA _ _ _ y172.1 (hM.lent [9] rfl (by decide)) _ _ y69.2.2.f_L (hM.rd (i := 2) rfl) (hM.offR [9] rfl (i := 2) rfl rfl) _ hx188) fun v w189 hv => ?_
        obtain ⟨rfl, hw191, hN190⟩ := hv
        refine ⟨fun h => (by cases h), ?_⟩
        replace hM := hM.callL [9] [0, 1, 2, 3, 4, 5, 6, 7, 8] rfl rfl (by decide) rfl hN190
        refine RD.reslot (t := 68) rfl hw191 ?_
        refine RD.p rfl rfl rfl rfl (fun w' => O.pickt rfl rfl) ?_
        refine RD.p rfl rfl rfl rfl (fun w' => O.move rfl) ?_
        refine RD.bcase (t := 75) rfl (fun hc => ?_) (fun hc => ?_)
        ·rw [if_pos hc] at hF
         refine RD.gp rfl rfl rfl rfl rfl rfl (fun w' => O.move rfl) ?_
         refine RD.gp rfl rfl rfl rfl rfl rfl (fun w' => O.move rfl) ?_
         refine RD.gp rfl rfl rfl rfl rfl rfl (fun w' => O.nilp rfl) ?_
         refine RD.gp rfl rfl rfl rfl rfl rfl (fun w' => O.fldA fl72_0 (by decide) rfl) ?_
         refine RD.gq rfl rfl rfl rfl rfl rfl (fun w' hf => O.load sc22 rfl (Cs.adds [0] ((hM.bx (i := 1) rfl).fut hf) rfl)) ?_
         refine Xx hF fun y192 hx193 hF => ?_
         refine RD.mcall rfl rfl ⟨rfl, rfl⟩ Tryz.func34 bd34 rfl rfl (ZG _ _ _ y172.2 _ _ (hM.lent [5] rfl (by decide)) _ hx193) fun v w194 hv => ?_
         obtain ⟨rfl, hN195⟩ := hv
         refine ⟨fun _ => hN195.fut, ?_⟩
         replace hM := hM.call0 hN195
         refine RD.gp rfl rfl rfl rfl rfl rfl (fun w' => O.eql rfl rfl) ?_
         refine RD.p rfl rfl rfl rfl (fun w' => O.pickt rfl rfl) ?_
         refine RD.p rfl rfl rfl rfl (fun w' => O.assign rfl) (RD.nil (KQ.Xy ?_))
         replace hM := hM.pick [7, 6, 8, 5, 2, 1] rfl (by decide)
         exact fun a ha => ⟨g176, A178, c179, A181, c182, y172.2.XB, y172.2.Xb.Xz, y172.2.Xb.XI, y172.2.Xb.XA, y172.2.Xb.Xk, y172.2.Xb.Xr, y172.2.Xf.Xp, y172.2.Xf.XG, y172.2.Xh, (y192 == y69.2.2.XK), ha.less (Xa rfl Xj), hM, hF⟩
        rw [if_neg (Xv hc)] at hF
        refine RD.brun1 [38, 40, 41, 42, 43, 39, 44, 45] 83 false (by kernel_rfl) ?_
        refine RD.p rfl rfl rfl rfl (fun w' => O.assign rfl) (RD.nil (KQ.Xy ?_))
        replace hM := hM.pick [7, 6, 8, 5, 2, 1] rfl (by decide)
        exact fun a ha => ⟨g176, A178, c179, A181, c182, y172.2.XB, y172.2.Xb.Xz, y172.2.Xb.XI, y172.2.Xb.XA, y172.2.Xb.Xk, y172.2.Xb.Xr, y172.2.Xf.Xp, y172.2.Xf.XG, y172.2.Xh, false, ha.less (Xa rfl Xj), hM, hF⟩
       refine RD.gmq rfl rfl rfl rfl (O.load sc70 rfl (Cs.adds [6] ((hM.bx (i := 1) rfl)) rfl)) rfl ?_
       refine Xx hF fun y196 hx197 hF => ?_
       refine RD.mcall rfl rfl ⟨rfl, rfl⟩ Tryz.func33 bd33 rfl rfl (YY _ _ _ y152.2 _ _ _ _ _ (hM.lent [4, 5, 6, 7] rfl (by decide)) _ hx197) fun v w198 hv => ?_
       obtain ⟨g200, A202, c203, A205, c206, A208, c209, rfl, hN199⟩ := hv
       refine ⟨fun h => (by cases h), ?_⟩
       replace hM := hM.callL [4, 5, 6, 7] [0, 1, 2, 3, 8] rfl rfl (by decide) rfl hN199
       refine Xx hF fun y211 hx212 hF => ?_
       refine RD.mcall rfl rfl ⟨rfl, rfl⟩ Tryz.func23 bd23 rfl rfl (ZA _ _ _ y196.1 (hM.lent [9] rfl (by decide)) _ _ y69.2.2.f_L (hM.rd (i := 2) rfl) (hM.offR [9] rfl (i := 2) rfl rfl) _ hx212) fun v w213 hv => ?_
       obtain ⟨rfl, hw215, hN214⟩ := hv
       refine ⟨fun h => (by cases h), ?_⟩
       replace hM := hM.callL [9] [0, 1, 2, 3, 4, 5, 6, 7, 8] rfl rfl (by decide) rfl hN214
       refine RD.reslot (t := 68) rfl hw215 ?_
       refine RD.p rfl rfl rfl rfl (fun w' => O.pickt rfl rfl) ?_
       refine RD.p rfl rfl rfl rfl (fun w' => O.move rfl) ?_
       refine RD.bcase (t := 75) rfl (fun hc => ?_) (fun hc => ?_)
       ·rw [if_pos hc] at hF
        refine RD.gp rfl rfl rfl rfl rfl rfl (fun w' => O.move rfl) ?_
        refine RD.gp rfl rfl rfl rfl rfl rfl (fun w' => O.move rfl) ?_
        refine RD.gp rfl rfl rfl rfl rfl rfl (fun w' => O.nilp rfl) ?_
        refine RD.gp rfl rfl rfl rfl rfl rfl (fun w' => O.fldA fl72_0 (by decide) rfl) ?_
        refine RD.gq rfl rfl rfl rfl rfl rfl (fun w' hf => O.load sc22 rfl (Cs.adds [0] ((hM.bx (i := 1) rfl).fut hf) rfl)) ?_
        refine Xx hF fun y216 hx217 hF => ?_
        refine RD.mcall rfl rfl ⟨rfl, rfl⟩ Tryz.func34 bd34 rfl rfl (ZG _ _ _ y196.2 _ _ (hM.lent [5] rfl (by decide)) _ hx217) fun v w218 hv => ?_
        obtain ⟨rfl, hN219⟩ := hv
        refine ⟨fun _ => hN219.fut, ?_⟩
        replace hM := hM.call0 hN219
        refine RD.gp rfl rfl rfl rfl rfl rfl (fun w' => O.eql rfl rfl) ?_
        refine RD.p rfl rfl rfl rfl (fun w' => O.pickt rfl rfl) ?_
        refine RD.p rfl rfl rfl rfl (fun w' => O.assign rfl) (RD.nil (KQ.Xy ?_))
        replace hM := hM.pick [7, 6, 8, 5, 2, 1] rfl (by decide)
        exact fun a ha => ⟨g200, A202, c203, A205, c206, y196.2.XB, y196.2.Xb.Xz, y196.2.Xb.XI, y196.2.Xb.XA, y196.2.Xb.Xk, y196.2.Xb.Xr, y196.2.Xf.Xp, y196.2.Xf.XG, y196.2.Xh, (y216 == y69.2.2.XK), ha.less (Xa rfl Xj), hM, hF⟩
       rw [if_neg (Xv hc)] at hF
       refine RD.brun1 [38, 40, 41, 42, 43, 39, 44, 45] 83 false (by kernel_rfl) ?_
       refine RD.p rfl rfl rfl rfl (fun w' => O.assign rfl) (RD.nil (KQ.Xy ?_))
       replace hM := hM.pick [7, 6, 8, 5, 2, 1] rfl (by decide)
       exact fun a ha => ⟨g200, A202, c203, A205, c206, y196.2.XB, y196.2.Xb.Xz, y196.2.Xb.XI, y196.2.Xb.XA, y196.2.Xb.Xk, y196.2.Xb.Xr, y196.2.Xf.Xp, y196.2.Xf.XG, y196.2.Xh, false, ha.less (Xa rfl Xj), hM, hF⟩
      rw [if_neg (Xv hc)] at hF
      refine RD.gskip rfl rfl rfl rfl rfl (RD.gskip rfl rfl rfl rfl rfl (RD.gskip rfl rfl rfl rfl rfl (RD.gskip rfl rfl rfl rfl rfl ?_)))
      refine RD.alt ?_ ?_
      ·refine RD.brun1 [30, 34, 35, 36, 37, 38, 40, 41, 42, 43, 39, 44, 45] 83 false (by kernel_rfl) ?_
       refine RD.p rfl rfl rfl rfl (fun w' => O.assign rfl) (RD.nil (KQ.Xy ?_))
       replace hM := hM.pick [6, 5, 7, 4, 2, 1] rfl (by decide)
       exact fun a ha => ⟨g156, A158, c159, A161, c162, y152.2.XB, y152.2.Xb.Xz, y152.2.Xb.XI, y152.2.Xb.XA, y152.2.Xb.Xk, y152.2.Xb.Xr, y152.2.Xf.Xp, y152.2.Xf.XG, y152.2.Xh, false, ha.less (Xa rfl Xj), hM, hF⟩
      refine RD.brun1 [34, 30, 35, 36, 37, 38, 40, 41, 42, 43, 39, 44, 45] 83 false (by kernel_rfl) ?_
      refine RD.p rfl rfl rfl rfl (fun w' => O.assign rfl) (RD.nil (KQ.Xy ?_))
      replace hM := hM.pick [6, 5, 7, 4, 2, 1] rfl (by decide)
      exact fun a ha => ⟨g156, A158, c159, A161, c162, y152.2.XB, y152.2.Xb.Xz, y152.2.Xb.XI, y152.2.Xb.XA, y152.2.Xb.Xk, y152.2.Xb.Xr, y152.2.Xf.Xp, y152.2.Xf.XG, y152.2.Xh, false, ha.less (Xa rfl Xj), hM, hF⟩
     rw [if_neg (Xv hc)] at hF
     refine RD.gskip rfl rfl rfl rfl rfl (RD.gskip rfl rfl rfl rfl rfl (RD.gskip rfl rfl rfl rfl rfl (RD.gskip rfl rfl rfl rfl rfl ?_)))
     refine RD.alt ?_ ?_
     ·refine RD.gskip rfl rfl rfl rfl rfl (RD.gskip rfl rfl rfl rfl rfl (RD.gskip rfl rfl rfl rfl rfl ?_))
      refine RD.p rfl rfl rfl rfl (fun w' => O.pickf rfl rfl) ?_
      refine RD.p rfl rfl rfl rfl (fun w' => O.move rfl) (RD.gskip rfl rfl rfl rfl rfl (RD.gskip rfl rfl rfl rfl rfl (RD.gskip rfl rfl rfl rfl rfl (RD.gskip rfl rfl rfl rfl rfl ?_))))
      refine RD.alt ?_ ?_
      ·refine RD.brun1 [30, 34, 35, 36, 37, 38, 40, 41, 42, 43, 39, 44, 45] 83 false (by kernel_rfl) ?_
       refine RD.p rfl rfl rfl rfl (fun w' => O.assign rfl) (RD.nil (KQ.Xy ?_))
       replace hM := hM.pick [2, 1, 3, 0, 6, 5] rfl (by decide)
       exact fun a ha => ⟨g52, A54, c55, A57, c58, y48.2.2.XB, y48.2.2.Xb.Xz, y48.2.2.Xb.XI, y48.2.2.Xb.XA, y48.2.2.Xb.Xk, y48.2.2.Xb.Xr, y48.2.2.Xf.Xp, y48.2.2.Xf.XG, y48.2.2.Xh, false, ha.less (Xa rfl Xj), hM, hF⟩
      refine RD.brun1 [34, 30, 35, 36, 37, 38, 40, 41, 42, 43, 39, 44, 45] 83 false (by kernel_rfl) ?_
      refine RD.p rfl rfl rfl rfl (fun w' => O.assign rfl) (RD.nil (KQ.Xy ?_))
      replace hM := hM.pick [2, 1, 3, 0, 6, 5] rfl (by decide)
      exact fun a ha => ⟨g52, A54, c55, A57, c58, y48.2.2.XB, y48.2.2.Xb.Xz, y48.2.2.Xb.XI, y48.2.2.Xb.XA, y48.2.2.Xb.Xk, y48.2.2.Xb.Xr, y48.2.2.Xf.Xp, y48.2.2.Xf.XG, y48.2.2.Xh, false, ha.less (Xa rfl Xj), hM, hF⟩
     refine RD.gskip rfl rfl rfl rfl rfl (RD.gskip rfl rfl rfl rfl rfl (RD.gskip rfl rfl rfl rfl rfl ?_))
     refine RD.p rfl rfl rfl rfl (fun w' => O.pickf rfl rfl) ?_
     refine RD.p rfl rfl rfl rfl (fun w' => O.move rfl) (RD.gskip rfl rfl rfl rfl rfl (RD.gskip rfl rfl rfl rfl rfl (RD.gskip rfl rfl rfl rfl rfl (RD.gskip rfl rfl rfl rfl rfl ?_))))
     refine RD.alt ?_ ?_
     ·refine RD.brun1 [30, 34, 35, 36, 37, 38, 40, 41, 42, 43, 39, 44, 45] 83 false (by kernel_rfl) ?_
      refine RD.p rfl rfl rfl rfl (fun w' => O.assign rfl) (RD.nil (KQ.Xy ?_))
      replace hM := hM.pick [2, 1, 3, 0, 6, 5] rfl (by decide)
      exact fun a ha => ⟨g52, A54, c55, A57, c58, y48.2.2.XB, y48.2.2.Xb.Xz, y48.2.2.Xb.XI, y48.2.2.Xb.XA, y48.2.2.Xb.Xk, y48.2.2.Xb.Xr, y48.2.2.Xf.Xp, y48.2.2.Xf.XG, y48.2.2.Xh, false, ha.less (Xa rfl Xj), hM, hF⟩
     refine RD.brun1 [34, 30, 35, 36, 37, 38, 40, 41, 42, 43, 39, 44, 45] 83 false (by kernel_rfl) ?_
     refine RD.p rfl rfl rfl rfl (fun w' => O.assign rfl) (RD.nil (KQ.Xy ?_))
     replace hM := hM.pick [2, 1, 3, 0, 6, 5] rfl (by decide)
     exact fun a ha => ⟨g52, A54, c55, A57, c58, y48.2.2.XB, y48.2.2.Xb.Xz, y48.2.2.Xb.XI, y48.2.2.Xb.XA, y48.2.2.Xb.Xk, y48.2.2.Xb.Xr, y48.2.2.Xf.Xp, y48.2.2.Xf.XG, y48.2.2.Xh, false, ha.less (Xa rfl Xj), hM, hF⟩
    rw [if_neg (Xv hc)] at hF
    refine RD.gskip rfl rfl rfl rfl rfl (RD.gskip rfl rfl rfl rfl rfl (RD.gskip rfl rfl rfl rfl rfl ?_))
    refine RD.p rfl rfl rfl rfl (fun w' => O.pickf rfl rfl) ?_
    refine RD.p rfl rfl rfl rfl (fun w' => O.move rfl) (RD.gskip rfl rfl rfl rfl rfl (RD.gskip rfl rfl rfl rfl rfl (RD.gskip rfl rfl rfl rfl rfl (RD.gskip rfl rfl rfl rfl rfl ?_))))
    refine RD.alt ?_ ?_
    ·refine RD.gskip rfl rfl rfl rfl rfl (RD.gskip rfl rfl rfl rfl rfl (RD.gskip rfl rfl rfl rfl rfl ?_))
     refine RD.p rfl rfl rfl rfl (fun w' => O.pickf rfl rfl) ?_
     refine RD.p rfl rfl rfl rfl (fun w' => O.move rfl) (RD.gskip rfl rfl rfl rfl rfl (RD.gskip rfl rfl rfl rfl rfl (RD.gskip rfl rfl rfl rfl rfl (RD.gskip rfl rfl rfl rfl rfl ?_))))
     refine RD.alt ?_ ?_
     ·refine RD.brun1 [30, 34, 35, 36, 37, 38, 40, 41, 42, 43, 39, 44, 45] 83 false (by kernel_rfl) ?_
      refine RD.p rfl rfl rfl rfl (fun w' => O.assign rfl) (RD.nil (KQ.Xy ?_))
      replace hM := hM.pick [2, 1, 3, 0, 6, 5] rfl (by decide)
      exact fun a ha => ⟨g52, A54, c55, A57, c58, y48.2.2.XB, y48.2.2.Xb.Xz, y48.2.2.Xb.XI, y48.2.2.Xb.XA, y48.2.2.Xb.Xk, y48.2.2.Xb.Xr, y48.2.2.Xf.Xp, y48.2.2.Xf.XG, y48.2.2.Xh, false, ha.less (Xa rfl Xj), hM, hF⟩
     refine RD.brun1 [34, 30, 35, 36, 37, 38, 40, 41, 42, 43, 39, 44, 45] 83 false (by kernel_rfl) ?_
     refine RD.p rfl rfl rfl rfl (fun w' => O.assign rfl) (RD.nil (KQ.Xy ?_))
     replace hM := hM.pick [2, 1, 3, 0, 6, 5] rfl (by decide)
     exact fun a ha => ⟨g52, A54, c55, A57, c58, y48.2.2.XB, y48.2.2.Xb.Xz, y48.2.2.Xb.XI, y48.2.2.Xb.XA, y48.2.2.Xb.Xk, y48.2.2.Xb.Xr, y48.2.2.Xf.Xp, y48.2.2.Xf.XG, y48.2.2.Xh, false, ha.less (Xa rfl Xj), hM, hF⟩
    refine RD.gskip rfl rfl rfl rfl rfl (RD.gskip rfl rfl rfl rfl rfl (RD.gskip rfl rfl rfl rfl rfl ?_))
    refine RD.p rfl rfl rfl rfl (fun w' => O.pickf rfl rfl) ?_
    refine RD.p rfl rfl rfl rfl (fun w' => O.move rfl) (RD.gskip rfl rfl rfl rfl rfl (RD.gskip rfl rfl rfl rfl rfl (RD.gskip rfl rfl rfl rfl rfl (RD.gskip rfl rfl rfl rfl rfl ?_))))
    refine RD.alt ?_ ?_
    ·refine RD.brun1 [30, 34, 35, 36, 37, 38, 40, 41, 42, 43, 39, 44, 45] 83 false (by kernel_rfl) ?_
     refine RD.p rfl rfl rfl rfl (fun w' => O.assign rfl) (RD.nil (KQ.Xy ?_))
     replace hM := hM.pick [2, 1, 3, 0, 6, 5] rfl (by decide)
     exact fun a ha => ⟨g52, A54, c55, A57, c58, y48.2.2.XB, y48.2.2.Xb.Xz, y48.2.2.Xb.XI, y48.2.2.Xb.XA, y48.2.2.Xb.Xk, y48.2.2.Xb.Xr, y48.2.2.Xf.Xp, y48.2.2.Xf.XG, y48.2.2.Xh, false, ha.less (Xa rfl Xj), hM, hF⟩
    refine RD.brun1 [34, 30, 35, 36, 37, 38, 40, 41, 42, 43, 39, 44, 45] 83 false (by kernel_rfl) ?_
    refine RD.p rfl rfl rfl rfl (fun w' => O.assign rfl) (RD.nil (KQ.Xy ?_))
    replace hM := hM.pick [2, 1, 3, 0, 6, 5] rfl (by decide)
    exact fun a ha => ⟨g52, A54, c55, A57, c58, y48.2.2.XB, y48.2.2.Xb.Xz, y48.2.2.Xb.XI, y48.2.2.Xb.XA, y48.2.2.Xb.Xk, y48.2.2.Xb.Xr, y48.2.2.Xf.Xp, y48.2.2.Xf.XG, y48.2.2.Xh, false, ha.less (Xa rfl Xj), hM, hF⟩
   rw [if_neg (Xv hc)] at hF
   refine RD.gskip rfl rfl rfl rfl rfl (RD.gskip rfl rfl rfl rfl rfl (RD.gskip rfl rfl rfl rfl rfl (RD.gskip rfl rfl rfl rfl rfl ?_)))
   refine RD.p rfl rfl rfl rfl (fun w' => O.pickf rfl rfl) ?_
   refine RD.p rfl rfl rfl rfl (fun w' => O.move rfl) (RD.gskip rfl rfl rfl rfl rfl (RD.gskip rfl rfl rfl rfl rfl (RD.gskip rfl rfl rfl rfl rfl ?_)))
   refine RD.p rfl rfl rfl rfl (fun w' => O.pickf rfl rfl) ?_
   refine RD.p rfl rfl rfl rfl (fun w' => O.move rfl) (RD.gskip rfl rfl rfl rfl rfl (RD.gskip rfl rfl rfl rfl rfl (RD.gskip rfl rfl rfl rfl rfl (RD.gskip rfl rfl rfl rfl rfl ?_))))
   refine RD.alt ?_ ?_
   ·refine RD.gskip rfl rfl rfl rfl rfl (RD.gskip rfl rfl rfl rfl rfl (RD.gskip rfl rfl rfl rfl rfl ?_))
    refine RD.p rfl rfl rfl rfl (fun w' => O.pickf rfl rfl) ?_
    refine RD.p rfl rfl rfl rfl (fun w' => O.move rfl) (RD.gskip rfl rfl rfl rfl rfl (RD.gskip rfl rfl rfl rfl rfl (RD.gskip rfl rfl rfl rfl rfl (RD.gskip rfl rfl rfl rfl rfl ?_))))
    refine RD.alt ?_ ?_
    ·refine RD.brun1 [30, 34, 35, 36, 37, 38, 40, 41, 42, 43, 39, 44, 45] 83 false (by kernel_rfl) ?_
     refine RD.p rfl rfl rfl rfl (fun w' => O.assign rfl) (RD.nil (KQ.Xy ?_))
     replace hM := hM.pick [2, 1, 3, 0, 6, 5] rfl (by decide)
     exact fun a ha => ⟨g52, A54, c55, A57, c58, y48.2.2.XB, y48.2.2.Xb.Xz, y48.2.2.Xb.XI, y48.2.2.Xb.XA, y48.2.2.Xb.Xk, y48.2.2.Xb.Xr, y48.2.2.Xf.Xp, y48.2.2.Xf.XG, y48.2.2.Xh, false, ha.less (Xa rfl Xj), hM, hF⟩
    refine RD.brun1 [34, 30, 35, 36, 37, 38, 40, 41, 42, 43, 39, 44, 45] 83 false (by kernel_rfl) ?_
    refine RD.p rfl rfl rfl rfl (fun w' => O.assign rfl) (RD.nil (KQ.Xy ?_))
    replace hM := hM.pick [2, 1, 3, 0, 6, 5] rfl (by decide)
    exact fun a ha => ⟨g52, A54, c55, A57, c58, y48.2.2.XB, y48.2.2.Xb.Xz, y48.2.2.Xb.XI, y48.2.2.Xb.XA, y48.2.2.Xb.Xk, y48.2.2.Xb.Xr, y48.2.2.Xf.Xp, y48.2.2.Xf.XG, y48.2.2.Xh, false, ha.less (Xa rfl Xj), hM, hF⟩
   refine RD.gskip rfl rfl rfl rfl rfl (RD.gskip rfl rfl rfl rfl rfl (RD.gskip rfl rfl rfl rfl rfl ?_))
   refine RD.p rfl rfl rfl rfl (fun w' => O.pickf rfl rfl) ?_
   refine RD.p rfl rfl rfl rfl (fun w' => O.move rfl) (RD.gskip rfl rfl rfl rfl rfl (RD.gskip rfl rfl rfl rfl rfl (RD.gskip rfl rfl rfl rfl rfl (RD.gskip rfl rfl rfl rfl rfl ?_))))
   refine RD.alt ?_ ?_
   ·refine RD.brun1 [30, 34, 35, 36, 37, 38, 40, 41, 42, 43, 39, 44, 45] 83 false (by kernel_rfl) ?_
    refine RD.p rfl rfl rfl rfl (fun w' => O.assign rfl) (RD.nil (KQ.Xy ?_))
    replace hM := hM.pick [2, 1, 3, 0, 6, 5] rfl (by decide)
    exact fun a ha => ⟨g52, A54, c55, A57, c58, y48.2.2.XB, y48.2.2.Xb.Xz, y48.2.2.Xb.XI, y48.2.2.Xb.XA, y48.2.2.Xb.Xk, y48.2.2.Xb.Xr, y48.2.2.Xf.Xp, y48.2.2.Xf.XG, y48.2.2.Xh, false, ha.less (Xa rfl Xj), hM, hF⟩
   refine RD.brun1 [34, 30, 35, 36, 37, 38, 40, 41, 42, 43, 39, 44, 45] 83 false (by kernel_rfl) ?_
   refine RD.p rfl rfl rfl rfl (fun w' => O.assign rfl) (RD.nil (KQ.Xy ?_))
   replace hM := hM.pick [2, 1, 3, 0, 6, 5] rfl (by decide)
   exact fun a ha => ⟨g52, A54, c55, A57, c58, y48.2.2.XB, y48.2.2.Xb.Xz, y48.2.2.Xb.XI, y48.2.2.Xb.XA, y48.2.2.Xb.Xk, y48.2.2.Xb.Xr, y48.2.2.Xf.Xp, y48.2.2.Xf.XG, y48.2.2.Xh, false, ha.less (Xa rfl Xj), hM, hF⟩
  rw [if_neg (Xv hc)] at hF
  refine RD.gskip rfl rfl rfl rfl rfl (RD.gskip rfl rfl rfl rfl rfl (RD.gskip rfl rfl rfl rfl rfl ?_))
  refine RD.p rfl rfl rfl rfl (fun w' => O.pickf rfl rfl) ?_
  refine RD.p rfl rfl rfl rfl (fun w' => O.move rfl) (RD.gskip rfl rfl rfl rfl rfl (RD.gskip rfl rfl rfl rfl rfl (RD.gskip rfl rfl rfl rfl rfl (RD.gskip rfl rfl rfl rfl rfl ?_))))
  refine RD.p rfl rfl rfl rfl (fun w' => O.pickf rfl rfl) ?_
  refine RD.p rfl rfl rfl rfl (fun w' => O.move rfl) (RD.gskip rfl rfl rfl rfl rfl (RD.gskip rfl rfl rfl rfl rfl (RD.gskip rfl rfl rfl rfl rfl ?_)))
  refine RD.p rfl rfl rfl rfl (fun w' => O.pickf rfl rfl) ?_
  refine RD.p rfl rfl rfl rfl (fun w' => O.move rfl) (RD.gskip rfl rfl rfl rfl rfl (RD.gskip rfl rfl rfl rfl rfl (RD.gskip rfl rfl rfl rfl rfl (RD.gskip rfl rfl rfl rfl rfl ?_))))
  refine RD.alt ?_ ?_
  ·refine RD.gskip rfl rfl rfl rfl rfl (RD.gskip rfl rfl rfl rfl rfl (RD.gskip rfl rfl rfl rfl rfl ?_))
   refine RD.p rfl rfl rfl rfl (fun w' => O.pickf rfl rfl) ?_
   refine RD.p rfl rfl rfl rfl (fun w' => O.move rfl) (RD.gskip rfl rfl rfl rfl rfl (RD.gskip rfl rfl rfl rfl rfl (RD.gskip rfl rfl rfl rfl rfl (RD.gskip rfl rfl rfl rfl rfl ?_))))
   refine RD.alt ?_ ?_
   ·refine RD.brun1 [30, 34, 35, 36, 37, 38, 40, 41, 42, 43, 39, 44, 45] 83 false (by kernel_rfl) ?_
    refine RD.p rfl rfl rfl rfl (fun w' => O.assign rfl) (RD.nil (KQ.Xy ?_))
    replace hM := hM.pick [2, 1, 3, 0, 6, 5] rfl (by decide)
    exact fun a ha => ⟨g52, A54, c55, A57, c58, y48.2.2.XB, y48.2.2.Xb.Xz, y48.2.2.Xb.XI, y48.2.2.Xb.XA, y48.2.2.Xb.Xk, y48.2.2.Xb.Xr, y48.2.2.Xf.Xp, y48.2.2.Xf.XG, y48.2.2.Xh, false, ha.less (Xa rfl Xj), hM, hF⟩
   refine RD.brun1 [34, 30, 35, 36, 37, 38, 40, 41, 42, 43, 39, 44, 45] 83 false (by kernel_rfl) ?_
   refine RD.p rfl rfl rfl rfl (fun w' => O.assign rfl) (RD.nil (KQ.Xy ?_))
   replace hM := hM.pick [2, 1, 3, 0, 6, 5] rfl (by decide)
   exact fun a ha => ⟨g52, A54, c55, A57, c58, y48.2.2.XB, y48.2.2.Xb.Xz, y48.2.2.Xb.XI, y48.2.2.Xb.XA, y48.2.2.Xb.Xk, y48.2.2.Xb.Xr, y48.2.2.Xf.Xp, y48.2.2.Xf.XG, y48.2.2.Xh, false, ha.less (Xa rfl Xj), hM, hF⟩
  refine RD.gskip rfl rfl rfl rfl rfl (RD.gskip rfl rfl rfl rfl rfl (RD.gskip rfl rfl rfl rfl rfl ?_))
  refine RD.p rfl rfl rfl rfl (fun w' => O.pickf rfl rfl) ?_
  refine RD.p rfl rfl rfl rfl (fun w' => O.move rfl) (RD.gskip rfl rfl rfl rfl rfl (RD.gskip rfl rfl rfl rfl rfl (RD.gskip rfl rfl rfl rfl rfl (RD.gskip rfl rfl rfl rfl rfl ?_))))
  refine RD.alt ?_ ?_
  ·refine RD.brun1 [30, 34, 35, 36, 37, 38, 40, 41, 42, 43, 39, 44, 45] 83 false (by kernel_rfl) ?_
   refine RD.p rfl rfl rfl rfl (fun w' => O.assign rfl) (RD.nil (KQ.Xy ?_))
   replace hM := hM.pick [2, 1, 3, 0, 6, 5] rfl (by decide)
   exact fun a ha => ⟨g52, A54, c55, A57, c58, y48.2.2.XB, y48.2.2.Xb.Xz, y48.2.2.Xb.XI, y48.2.2.Xb.XA, y48.2.2.Xb.Xk, y48.2.2.Xb.Xr, y48.2.2.Xf.Xp, y48.2.2.Xf.XG, y48.2.2.Xh, false, ha.less (Xa rfl Xj), hM, hF⟩
  refine RD.brun1 [34, 30, 35, 36, 37, 38, 40, 41, 42, 43, 39, 44, 45] 83 false (by kernel_rfl) ?_
  refine RD.p rfl rfl rfl rfl (fun w' => O.assign rfl) (RD.nil (KQ.Xy ?_))
  replace hM := hM.pick [2, 1, 3, 0, 6, 5] rfl (by decide)
  exact fun a ha => ⟨g52, A54, c55, A57, c58, y48.2.2.XB, y48.2.2.Xb.Xz, y48.2.2.Xb.XI, y48.2.2.Xb.XA, y48.2.2.Xb.Xk, y48.2.2.Xb.Xr, y48.2.2.Xf.Xp, y48.2.2.Xf.XG, y48.2.2.Xh, false, ha.less (Xa rfl Xj), hM, hF⟩
 rintro a w241 ⟨g228, A230, c231, A235, c236, p221, p222, p223, p224, p225, p226, p232, p233, p237, t240, ha, hM, hF⟩
 refine KC.app ha ?_
 clear ha
 unfold JE at hF
 refine KC.ret ?_
 have hE := Option.some.inj hF
 clear hF
 subst hE
 replace hM := hM.pick [3, 1, 0, 2, 5, 4] rfl (by decide)
 refine KQ.rets Tryz.results10 (RVs.cons (RV.tm rfl) RVs.nil) ?_
 exact ⟨_, rfl, g228, A230, c231, A235, c236, A73, c74, rfl, hM⟩
end Go.Proofs.YtkpnocgfhipidaaGreat
