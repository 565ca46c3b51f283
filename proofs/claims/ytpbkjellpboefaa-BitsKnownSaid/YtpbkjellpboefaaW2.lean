/- Printed by a program of this claim: each call returns what the plain function of its name gives. -/
import Derived.Test.YtpbkjellpboefaaW1
set_option linter.unusedVariables false
namespace Go.Proofs.Ytpbkjellpboefaa
open Go Go.Ox Go.RowKit
set_option maxRecDepth 100000 in
set_option maxHeartbeats 40000000 in
theorem c_law01_BitsWrites (w : World) (A2 : Option Addr) (c3 : Nat) (lv1 : List T_law01_Act) (hr4 : RdD R_law01_Act [] w A2 c3 5 lv1) (r : Bool) (hF : F_law01_BitsWrites lv1 = some r) :
  CallsR Try.prog 4 [.slice A2 (lv1).length c3] w (fun v w' => v = vB r ∧ Mem w [] w' []) := by
 refine calls_KC Try.func4 rfl Try.ntmps4 rfl ?_
 have hM := Mem.init w
 unfold F_law01_BitsWrites at hF
 refine sr fun Q5 hQ5 => ?_
 refine va rfl rfl ?_
 refine nt hQ5 ?_
 clear hQ5 Q5
 refine KC.seqH fun Q6 hQ6 => ?_
 refine sr fun Q7 hQ7 => ?_
 refine vm rfl rfl ?_
 refine obindE hF fun y8 hx9 hF => ?_
 refine RL.call Try.func14 bd14 rfl rfl (c_law01_few _ _ _ lv1 (hr4.chg mv_law01_Act hM.chg) 40 _ hx9) fun v w10 hv => ?_
 obtain ⟨rfl, hN11⟩ := hv
 replace hM := hM.call0 hN11
 refine RL.val (O.not rfl) rfl ?_
 refine nt hQ7 ?_
 clear hQ7 Q7
 refine KC.cond rfl (fun hc => ?_) (fun hc => ?_)
 ·rw [if_pos hc] at hF
  refine sr fun Q12 hQ12 => ?_
  refine obindE hF fun y13 hx14 hF => ?_
  refine RL.call Try.func9 bd9 rfl rfl (c_law01_works _ _ hx14) fun v w15 hv => ?_
  obtain ⟨rfl, hN16⟩ := hv
  replace hM := hM.call0 hN16
  refine va rfl rfl ?_
  refine nt hQ12 ?_
  clear hQ12 Q12
  refine KC.ret ?_
  refine KQ.thr hQ6 ?_
  clear hQ6 Q6
  have hE := Option.some.inj hF
  clear hF
  subst hE
  refine KQ.rets Try.results4 (RVs.cons (RV.tm rfl) RVs.nil) ?_
  exact ⟨_, rfl, rfl, hM⟩
 rw [if_neg (ne_true hc)] at hF
 refine KC.skip ?_
 refine KQ.thn hQ6 ?_
 clear hQ6 Q6
 refine sr fun Q17 hQ17 => ?_
 refine RL.eff (E.alloc hM ze33) rfl fun v w19 hv => ?_
 clear hM
 obtain ⟨g18, rfl, hM, hf⟩ := hv
 refine nt hQ17 ?_
 clear hQ17 Q17
 refine sr fun Q21 hQ21 => ?_
 refine va rfl rfl ?_
 refine nt hQ21 ?_
 clear hQ21 Q21
 refine KC.seqH fun Q22 hQ22 => ?_
 refine sr fun Q23 hQ23 => ?_
 refine va rfl rfl ?_
 refine nt hQ23 ?_
 clear hQ23 Q23
 refine KC.block ?_
 refine KC.loop (fun k640 a w638 => ∃ (A630 : Option Addr) (c631 : Nat) (A634 : Option Addr) (c635 : Nat) (wv632 : List Int) (want636 : List Int) (i637 : Int), Kn 175 [(0, .slice A2 (lv1).length c3), (3, .pointer (some ⟨g18, 0, none⟩)), (4, .slice A634 (want636).length c635), (5, vI i637)] a ∧ Mem w [] w638 [.row A630 c631 5 1 (wv632).length ((wv632).flatMap (eI .u8)), .box g18 33 [.slice A630 (wv632).length c631], .row A634 c635 5 1 (want636).length ((want636).flatMap (eI .u8))] ∧ F_law01_BitsWrites_L1 lv1 k640 wv632 want636 i637 = some r) ?_ ?_
 ·replace hM := hM.nilrow 5 1
  replace hM := hM.nilrow 5 1
  replace hM := hM.pick [1, 0, 2] rfl (by decide)
  exact fun a ha => ⟨fuel0, none, 0, none, 0, ([]), ([]), 0, ha.less (less_cons rfl (less_cons rfl (less_cons rfl (less_cons rfl less_nil)))), hM, hF⟩
 rintro k640 a w638 ⟨A630, c631, A634, c635, wv632, want636, i637, ha, hM, hF⟩
 refine KC.app ha ?_
 clear ha
 cases k640 with
 | zero => exact (none_some hF).elim
 | succ k640 =>
 have hF : F_law01_BitsWrites_l1 (F_law01_BitsWrites_L1 lv1 k640) lv1 wv632 want636 i637 = some r := hF
 unfold F_law01_BitsWrites_l1 at hF
 refine KC.seqH fun Q641 hQ641 => ?_
 refine sr fun Q642 hQ642 => ?_
 refine vm rfl rfl ?_
 refine vm rfl rfl ?_
 refine RL.val (O.len sl30 rfl) rfl ?_
 refine RL.val (O.lss rfl rfl) rfl ?_
 refine nt hQ642 ?_
 clear hQ642 Q642
 refine KC.cond rfl (fun hc => ?_) (fun hc => ?_)
 ·rw [if_pos hc] at hF
  refine KC.skip ?_
  refine KQ.thn hQ641 ?_
  clear hQ641 Q641
  refine KC.seqH fun Q643 hQ643 => ?_
  refine KC.block ?_
  refine sr fun Q644 hQ644 => ?_
  refine vm rfl rfl ?_
  refine vm rfl rfl ?_
  refine obindE hF fun xv647 hx646 hF => ?_
  obtain ⟨cs650, hA645, hR648, hO649⟩ := RdD.at hr4 hx646
  obtain ⟨A651, c652, rfl, hr653, ho654⟩ := hR648
  have hA645 := hA645.chg hM.chg hO649
  refine RL.val (O.idxA sl30 (hA645) rfl rfl) rfl ?_
  refine RL.val (O.loadN (cs := [vI xv647.f_Do, vI xv647.f_At, v64 xv647.f_V, vI xv647.f_Size, .slice A651 (xv647.f_B).length c652]) ag35 rfl (hA645).cells) rfl ?_
  refine RL.eff (E.alloc hM ze35) rfl fun v w656 hv => ?_
  clear hM
  obtain ⟨g655, rfl, hM, hf⟩ := hv
  refine RL.effs (E.stB (j := 3) (off := 0) (vs := [vI xv647.f_Do, vI xv647.f_At, v64 xv647.f_V, vI xv647.f_Size, .slice A651 (xv647.f_B).length c652]) (cs' := [vI xv647.f_Do, vI xv647.f_At, v64 xv647.f_V, vI xv647.f_Size, .slice A651 (xv647.f_B).length c652]) hM rfl sz35 rfl (adds_eq [] rfl) rfl rfl (One.all rfl) rfl rfl) fun w658 hM1 => ?_
  clear hM
  have hM := hM1
  clear hM1
  refine nt hQ644 ?_
  clear hQ644 Q644
  refine sr fun Q659 hQ659 => ?_
  refine RL.val (O.fldA fl35_2 (by decide) rfl) rfl ?_
  refine RL.val (O.load sc23 rfl (Cs.adds [2] ((hM.bx (i := 3) rfl)) rfl)) rfl ?_
  refine RL.val (O.fldA fl35_3 (by decide) rfl) rfl ?_
  refine RL.val (O.load sc3 rfl (Cs.adds [3] ((hM.bx (i := 3) rfl)) rfl)) rfl ?_
  refine obindE hF fun y660 hx661 hF => ?_
  refine RL.call Try.func15 bd15 rfl rfl (c_ref01_Fits _ xv647.f_V xv647.f_Size _ hx661) fun v w662 hv => ?_
  obtain ⟨rfl, hN663⟩ := hv
  replace hM := hM.call0 hN663
  refine va rfl rfl ?_
  refine nt hQ659 ?_
  clear hQ659 Q659
  refine KC.cut (fun a w851 => ∃ (A844 : Option Addr) (c845 : Nat) (A848 : Option Addr) (c849 : Nat) (wv846 : List Int) (want850 : List Int), Kn 175 [(0, .slice A2 (lv1).length c3), (3, .pointer (some ⟨g18, 0, none⟩)), (4, .slice A848 (want850).length c849), (5, vI i637)] a ∧ Mem w [] w851 [.row A844 c845 5 1 (wv846).length ((wv846).flatMap (eI .u8)), .box g18 33 [.slice A844 (wv846).length c845], .row A848 c849 5 1 (want850).length ((want850).flatMap (eI .u8))] ∧ F_law01_BitsWrites_j1 i637 (F_law01_BitsWrites_L1 lv1 k640) wv846 want850 = some r) ?_ ?_
  ·refine sr fun Q664 hQ664 => ?_
   refine RL.val (O.fldA fl35_0 (by decide) rfl) rfl ?_
   refine RL.val (O.load sc3 rfl (Cs.adds [0] ((hM.bx (i := 3) rfl)) rfl)) rfl ?_
   refine obindE hF fun y665 hx666 hF => ?_
   refine RL.call Try.func16 bd16 rfl rfl (c_kit_Pick _ xv647.f_Do 4 _ hx666) fun v w667 hv => ?_
   obtain ⟨rfl, hN668⟩ := hv
   replace hM := hM.call0 hN668
   refine nt hQ664 ?_
   clear hQ664 Q664
   refine KC.block ?_
   refine sr fun Q669 hQ669 => ?_
   refine RL.val (O.eql rfl rfl) rfl ?_
   refine va rfl rfl ?_
   refine nt hQ669 ?_
   clear hQ669 Q669
   refine KC.cond rfl (fun hc => ?_) (fun hc => ?_)
   ·rw [if_pos hc] at hF
    refine sr fun Q670 hQ670 => ?_
    refine RL.val (O.fldA fl35_2 (by decide) rfl) rfl ?_
    refine RL.val (O.load sc23 rfl (Cs.adds [2] ((hM.bx (i := 3) rfl)) rfl)) rfl ?_
    refine RL.val (O.fldA fl35_3 (by decide) rfl) rfl ?_
    refine RL.val (O.load sc3 rfl (Cs.adds [3] ((hM.bx (i := 3) rfl)) rfl)) rfl ?_
    refine obindE hF fun y671 hx672 hF => ?_
    refine RL.call Try.func17 bd17 rfl rfl (c_bits_Writer_Put _ _ _ (T_bits_Writer.mk wv632) _ _ (hM.lent [1, 0] rfl (by decide)) xv647.f_V xv647.f_Size _ hx672) fun v w673 hv => ?_
    obtain ⟨A675, c676, rfl, hN674⟩ := hv
    replace hM := hM.callL [1, 0] [2, 3] rfl rfl (by decide) rfl hN674
    refine va rfl rfl ?_
    refine nt hQ670 ?_
    clear hQ670 Q670
    refine KC.seqH fun Q678 hQ678 => ?_
    refine KC.cut (fun a w684 => ∃ (t683 : Bool), Kn 175 [(0, .slice A2 (lv1).length c3), (3, .pointer (some ⟨g18, 0, none⟩)), (4, .slice A634 (want636).length c635), (5, vI i637), (6, .pointer (some ⟨g655, 0, none⟩)), (7, vB y660), (55, vB t683)] a ∧ Mem w [] w684 [.row A675 c676 5 1 (y671.2.f_b).length ((y671.2.f_b).flatMap (eI .u8)), .box g18 33 [.slice A675 (y671.2.f_b).length c676], .row A634 c635 5 1 (want636).length ((want636).flatMap (eI .u8)), .box g655 35 [vI xv647.f_Do, vI xv647.f_At, v64 xv647.f_V, vI xv647.f_Size, .slice A651 (xv647.f_B).length c652]] ∧ F_law01_BitsWrites_j3 want636 i637 (F_law01_BitsWrites_L1 lv1 k640) xv647 y660 y671 t683 = some r) ?_ ?_
    ·refine KC.region ?_
     refine vm rfl rfl ?_
     refine RL.val (O.eql rfl rfl) rfl ?_
     refine vm rfl rfl ?_
     refine RL.val (O.neqb Try.underlying4 rfl rfl) rfl ?_
     refine vm rfl rfl ?_
     refine RL.bcase (t := 48) rfl (fun hc => ?_) (fun hc => ?_)
     ·rw [if_pos hc] at hF
      refine RL.gskip rfl rfl rfl rfl ?_
      refine RL.gskip rfl rfl rfl rfl ?_
      refine RL.gskip rfl rfl rfl rfl ?_
      refine RL.gskip' rfl rfl rfl ?_
      refine RL.gskip' rfl rfl rfl ?_
      refine RL.gskip rfl rfl rfl rfl ?_
      refine RL.val (O.pickt rfl rfl) rfl ?_
      refine RL.nil ?_
      refine KQ.then_k ?_
      replace hM := hM.pick [3, 2, 0, 1] rfl (by decide)
      exact fun a ha => ⟨true, ha.less (less_cons rfl (less_cons rfl (less_cons rfl (less_cons rfl (less_cons rfl (less_cons rfl (less_cons rfl less_nil))))))), hM, hF⟩
     rw [if_neg (ne_true hc)] at hF
     refine RL.gval rfl rfl (O.move rfl) rfl ?_
     refine RL.gval rfl rfl (O.not rfl) rfl ?_
     refine RL.gval rfl rfl (O.move rfl) rfl ?_
     refine RL.bcase (t := 51) rfl (fun hc => ?_) (fun hc => ?_)
     ·rw [if_pos hc] at hF
      refine RL.gval rfl rfl (O.move rfl) rfl ?_
      refine RL.gval rfl rfl (O.neq rfl rfl) rfl ?_
      refine RL.gval rfl rfl (O.pickt rfl rfl) rfl ?_
      refine RL.val (O.pickf rfl rfl) rfl ?_
      refine RL.nil ?_
      refine KQ.then_k ?_
      replace hM := hM.pick [3, 2, 0, 1] rfl (by decide)
      exact fun a ha => ⟨(y671.1 != 2), ha.less (less_cons rfl (less_cons rfl (less_cons rfl (less_cons rfl (less_cons rfl (less_cons rfl (less_cons rfl less_nil))))))), hM, hF⟩
     rw [if_neg (ne_true hc)] at hF
     refine RL.gskip rfl rfl rfl rfl ?_
     refine RL.gskip rfl rfl rfl rfl ?_
     refine RL.gval rfl rfl (O.pickf rfl rfl) rfl ?_
     refine RL.val (O.pickf rfl rfl) rfl ?_
     refine RL.nil ?_
     refine KQ.then_k ?_
     replace hM := hM.pick [3, 2, 0, 1] rfl (by decide)
     exact fun a ha => ⟨false, ha.less (less_cons rfl (less_cons rfl (less_cons rfl (less_cons rfl (less_cons rfl (less_cons rfl (less_cons rfl less_nil))))))), hM, hF⟩
    rintro a w684 ⟨t683, ha, hM, hF⟩
    refine KC.app ha ?_
    clear ha
    unfold F_law01_BitsWrites_j3 at hF
    refine KC.cond rfl (fun hc => ?_) (fun hc => ?_)
    ·rw [if_pos hc] at hF
     refine sr fun Q685 hQ685 => ?_
     refine va rfl rfl ?_
     refine nt hQ685 ?_
     clear hQ685 Q685
     refine KC.ret ?_
     refine KQ.thr hQ678 ?_
     clear hQ678 Q678
     refine KQ.blk_r ?_
     refine KQ.then_r ?_
     refine KQ.blk_r ?_
     refine KQ.thr hQ643 ?_
     clear hQ643 Q643
     refine KQ.then_r ?_
     refine KQ.blk_r ?_
     refine KQ.thr hQ22 ?_
     clear hQ22 Q22
     have hE := Option.some.inj hF
     clear hF
     subst hE
     replace hM := hM.pick [] rfl (by decide)
     refine KQ.rets Try.results4 (RVs.cons (RV.tm rfl) RVs.nil) ?_
     exact ⟨_, rfl, rfl, hM⟩
    rw [if_neg (ne_true hc)] at hF
    refine KC.skip ?_
    refine KQ.thn hQ678 ?_
    clear hQ678 Q678
    refine sr fun Q686 hQ686 => ?_
    refine vm rfl rfl ?_
    refine nt hQ686 ?_
    clear hQ686 Q686
    refine KC.cond rfl (fun hc => ?_) (fun hc => ?_)
    ·rw [if_pos hc] at hF
     refine KC.region ?_
     refine vm rfl rfl ?_
     refine RL.val (O.fldA fl35_2 (by decide) rfl) rfl ?_
     refine RL.val (O.load sc23 rfl (Cs.adds [2] ((hM.bx (i := 3) rfl)) rfl)) rfl ?_
     refine RL.val (O.fldA fl35_3 (by decide) rfl) rfl ?_
     refine RL.val (O.load sc3 rfl (Cs.adds [3] ((hM.bx (i := 3) rfl)) rfl)) rfl ?_
     refine obindE hF fun y687 hx688 hF => ?_
     refine RL.call Try.func19 bd19 rfl rfl (c_ref01_Put _ xv647.f_V xv647.f_Size _ hx688) fun v w689 hv => ?_
     obtain ⟨A691, c692, rfl, hN690⟩ := hv
     replace hM := hM.call hN690
     refine obindE hF fun y694 hx695 hF => ?_
     refine RL.call Try.func18 bd18 rfl rfl (c_ref01_Join _ _ _ want636 (hM.rd (i := 2) rfl) _ _ y687 (hM.rd (i := 4) rfl) _ hx695) fun v w696 hv => ?_
     obtain ⟨A698, c699, rfl, hN697⟩ := hv
     replace hM := hM.call hN697
     refine va rfl rfl ?_
     refine RL.nil ?_
     refine KQ.blk_n ?_
     refine KQ.then_k ?_
     replace hM := hM.pick [0, 1, 5] rfl (by decide)
     exact fun a ha => ⟨A675, c676, A698, c699, y671.2.f_b, y694, ha.less (less_cons rfl (less_cons rfl (less_cons rfl (less_cons rfl less_nil)))), hM, hF⟩
    rw [if_neg (ne_true hc)] at hF
    refine KC.skip ?_
    refine KQ.blk_n ?_
    refine KQ.then_k ?_
    replace hM := hM.pick [0, 1, 2] rfl (by decide)
    exact fun a ha => ⟨A675, c676, A634, c635, y671.2.f_b, want636, ha.less (less_cons rfl (less_cons rfl (less_cons rfl (less_cons rfl less_nil)))), hM, hF⟩
   rw [if_neg (ne_true hc)] at hF
   refine sr fun Q701 hQ701 => ?_
   refine RL.val (O.eql rfl rfl) rfl ?_
   refine va rfl rfl ?_
   refine nt hQ701 ?_
   clear hQ701 Q701
   refine KC.cond rfl (fun hc => ?_) (fun hc => ?_)
   ·rw [if_pos hc] at hF
    refine sr fun Q702 hQ702 => ?_
    refine RL.val (O.fldA fl35_4 (by decide) rfl) rfl ?_
    refine RL.val (O.load sc22 rfl (Cs.adds [4] ((hM.bx (i := 3) rfl)) rfl)) rfl ?_
    refine obindE hF fun y703 hx704 hF => ?_
    refine RL.call Try.func18 bd18 rfl rfl (c_ref01_Join _ none 0 [] Rd.nilr _ _ xv647.f_B (hM.inp hr653 Off.nil) _ hx704) fun v w705 hv => ?_
    obtain ⟨A707, c708, rfl, hN706⟩ := hv
    replace hM := hM.call hN706
    refine va rfl rfl ?_
    refine nt hQ702 ?_
    clear hQ702 Q702
    refine KC.seqH fun Q710 hQ710 => ?_
    refine sr fun Q711 hQ711 => ?_
    refine vm rfl rfl ?_
    refine obindE hF fun y712 hx713 hF => ?_
    refine RL.call Try.func20 bd20 rfl rfl (c_bits_Writer_Raw _ _ _ (T_bits_Writer.mk wv632) _ _ (hM.lent [1, 0] rfl (by decide)) _ _ y703 (hM.rd (i := 4) rfl) (hM.offR [1, 0] rfl (i := 4) rfl rfl) _ hx713) fun v w714 hv => ?_
    obtain ⟨A716, c717, rfl, hN715⟩ := hv
    replace hM := hM.callL [1, 0] [2, 3, 4] rfl rfl (by decide) rfl hN715
    refine RL.val (O.neq rfl rfl) rfl ?_
    refine nt hQ711 ?_
    clear hQ711 Q711
    refine KC.cond rfl (fun hc => ?_) (fun hc => ?_)
    ·rw [if_pos hc] at hF
     refine sr fun Q719 hQ719 => ?_
     refine va rfl rfl ?_
     refine nt hQ719 ?_
     clear hQ719 Q719
     refine KC.ret ?_
     refine KQ.thr hQ710 ?_
     clear hQ710 Q710
     refine KQ.blk_r ?_
     refine KQ.then_r ?_
     refine KQ.blk_r ?_
     refine KQ.thr hQ643 ?_
     clear hQ643 Q643
     refine KQ.then_r ?_
     refine KQ.blk_r ?_
     refine KQ.thr hQ22 ?_
     clear hQ22 Q22
     have hE := Option.some.inj hF
     clear hF
     subst hE
     replace hM := hM.pick [] rfl (by decide)
     refine KQ.rets Try.results4 (RVs.cons (RV.tm rfl) RVs.nil) ?_
     exact ⟨_, rfl, rfl, hM⟩
    rw [if_neg (ne_true hc)] at hF
    refine KC.skip ?_
    refine KQ.thn hQ710 ?_
    clear hQ710 Q710
    refine KC.seqH fun Q720 hQ720 => ?_
    refine sr fun Q721 hQ721 => ?_
    refine va rfl rfl ?_
    refine nt hQ721 ?_
    clear hQ721 Q721
    refine KC.block ?_
    refine KC.loop (fun k764 a w762 => ∃ (A758 : Option Addr) (c759 : Nat) (own760 : List Int) (kv761 : Int), Kn 175 [(0, .slice A2 (lv1).length c3), (3, .pointer (some ⟨g18, 0, none⟩)), (4, .slice A634 (want636).length c635), (5, vI i637), (6, .pointer (some ⟨g655, 0, none⟩)), (9, .slice A758 (own760).length c759), (10, vI kv761)] a ∧ Mem w [] w762 [.row A716 c717 5 1 (y712.2.f_b).length ((y712.2.f_b).flatMap (eI .u8)), .box g18 33 [.slice A716 (y712.2.f_b).length c717], .row A634 c635 5 1 (want636).length ((want636).flatMap (eI .u8)), .box g655 35 [vI xv647.f_Do, vI xv647.f_At, v64 xv647.f_V, vI xv647.f_Size, .slice A651 (xv647.f_B).length c652], .row A758 c759 5 1 (own760).length ((own760).flatMap (eI .u8))] ∧ F_law01_BitsWrites_L3 want636 i637 (F_law01_BitsWrites_L1 lv1 k640) xv647 y712 k764 own760 kv761 = some r) ?_ ?_
    ·replace hM := hM.pick [4, 3, 0, 1, 2] rfl (by decide)
     exact fun a ha => ⟨fuel0, A707, c708, y703, 0, ha.less (less_cons rfl (less_cons rfl (less_cons rfl (less_cons rfl (less_cons rfl (less_cons rfl (less_cons rfl less_nil))))))), hM, hF⟩
    rintro k764 a w762 ⟨A758, c759, own760, kv761, ha, hM, hF⟩
    refine KC.app ha ?_
    clear ha
    cases k764 with
    | zero => exact (none_some hF).elim
    | succ k764 =>
    have hF : F_law01_BitsWrites_l3 (F_law01_BitsWrites_L3 want636 i637 (F_law01_BitsWrites_L1 lv1 k640) xv647 y712 k764) want636 i637 (F_law01_BitsWrites_L1 lv1 k640) xv647 y712 own760 kv761 = some r := hF
    unfold F_law01_BitsWrites_l3 at hF
    refine KC.seqH fun Q765 hQ765 => ?_
    refine sr fun Q766 hQ766 => ?_
    refine vm rfl rfl ?_
    refine vm rfl rfl ?_
    refine RL.val (O.len sl22 rfl) rfl ?_
    refine RL.val (O.lss rfl rfl) rfl ?_
    refine nt hQ766 ?_
    clear hQ766 Q766
    refine KC.cond rfl (fun hc => ?_) (fun hc => ?_)
    ·rw [if_pos hc] at hF
     refine KC.skip ?_
     refine KQ.thn hQ765 ?_
     clear hQ765 Q765
     refine KC.seqH fun Q767 hQ767 => ?_
     refine KC.block ?_
     refine KC.region ?_
     refine vm rfl rfl ?_
     refine vm rfl rfl ?_
     refine obindE hF fun xv770 hx769 hF => ?_
     have hA768 := Rd.atN (f := (eI .u8)) (s := 1) (fun _ => rfl) (by decide) (hM.rd (i := 4) rfl) hx769
     refine RL.val (O.idxA sl22 (hA768) rfl rfl) rfl ?_
     refine RL.val (O.load sc5 rfl (hA768).cells.at0) rfl ?_
     refine RL.val (O.add rfl rfl) rfl ?_
     refine obindE hF fun xv773 hx772 hF => ?_
     have hA771 := Rd.atN (f := (eI .u8)) (s := 1) (fun _ => rfl) (by decide) (hM.rd (i := 4) rfl) hx772
     refine RL.val (O.idxA sl22 (hA771) rfl rfl) rfl ?_
     refine RL.effs (E.stR (enc := (eI .u8)) (j := 4) (off := 0) (vs := [v8 (IntKind.u8.wrap (xv770 + 1))]) (x' := (IntKind.u8.wrap (xv770 + 1))) hM rfl (fun _ => rfl) hx772 sz5 rfl (addsR_eq [] rfl) rfl rfl (One.all rfl) rfl rfl) fun w774 hM1 => ?_
     clear hM
     obtain ⟨hM, hn775⟩ := hM1
     refine RL.reslot (t := 9) rfl hn775 ?_
     refine RL.reslot (t := 78) rfl hn775 ?_
     refine RL.nil ?_
     refine KQ.blk_n ?_
     refine KQ.thn hQ767 ?_
     clear hQ767 Q767
     refine KC.region ?_
     refine vm rfl rfl ?_
     refine RL.val (O.add rfl rfl) rfl ?_
     refine va rfl rfl ?_
     refine RL.nil ?_
     refine KQ.then_k ?_
     exact fun a ha => ⟨k764, Nat.lt_succ_self k764, A758, c759, (own760.set (kv761 : Int).toNat (IntKind.u8.wrap (xv770 + 1))), (IntKind.i64.wrap (kv761 + 1)), ha.less (less_cons rfl (less_cons rfl (less_cons rfl (less_cons rfl (less_cons rfl (less_cons rfl (less_cons rfl less_nil))))))), hM, hF⟩
    rw [if_neg (ne_true hc)] at hF
    refine KC.exit ?_
    refine KQ.thx hQ765 ?_
    clear hQ765 Q765
    refine KQ.then_x ?_
    refine KQ.blk_x ?_
    refine KQ.thn hQ720 ?_
    clear hQ720 Q720
    replace hM := hM.pick [0, 1, 2, 3] rfl (by decide)
    refine KC.region ?_
    refine vm rfl rfl ?_
    refine RL.val (O.fldA fl35_4 (by decide) rfl) rfl ?_
    refine RL.val (O.load sc22 rfl (Cs.adds [4] ((hM.bx (i := 3) rfl)) rfl)) rfl ?_
    refine obindE hF fun y776 hx777 hF => ?_
    refine RL.call Try.func18 bd18 rfl rfl (c_ref01_Join _ _ _ want636 (hM.rd (i := 2) rfl) _ _ xv647.f_B (hM.inp hr653 Off.nil) _ hx777) fun v w778 hv => ?_
    obtain ⟨A780, c781, rfl, hN779⟩ := hv
    replace hM := hM.call hN779
    refine va rfl rfl ?_
    refine RL.nil ?_
    refine KQ.blk_n ?_
    refine KQ.then_k ?_
    replace hM := hM.pick [0, 1, 4] rfl (by decide)
    exact fun a ha => ⟨A716, c717, A780, c781, y712.2.f_b, y776, ha.less (less_cons rfl (less_cons rfl (less_cons rfl (less_cons rfl less_nil)))), hM, hF⟩
   rw [if_neg (ne_true hc)] at hF
   refine sr fun Q783 hQ783 => ?_
   refine RL.val (O.eql rfl rfl) rfl ?_
   refine va rfl rfl ?_
   refine nt hQ783 ?_
   clear hQ783 Q783
   refine KC.cond rfl (fun hc => ?_) (fun hc => ?_)
   ·rw [if_pos hc] at hF
    refine sr fun Q784 hQ784 => ?_
    refine RL.val (O.fldA fl35_1 (by decide) rfl) rfl ?_
    refine RL.val (O.load sc3 rfl (Cs.adds [1] ((hM.bx (i := 3) rfl)) rfl)) rfl ?_
    refine RL.val (O.fldA fl35_2 (by decide) rfl) rfl ?_
    refine RL.val (O.load sc23 rfl (Cs.adds [2] ((hM.bx (i := 3) rfl)) rfl)) rfl ?_
    refine RL.val (O.fldA fl35_3 (by decide) rfl) rfl ?_
    refine RL.val (O.load sc3 rfl (Cs.adds [3] ((hM.bx (i := 3) rfl)) rfl)) rfl ?_
    refine obindE hF fun y785 hx786 hF => ?_
    refine RL.call Try.func21 bd21 rfl rfl (c_bits_Writer_Set _ _ _ (T_bits_Writer.mk wv632) _ _ (hM.lent [1, 0] rfl (by decide)) xv647.f_At xv647.f_V xv647.f_Size _ hx786) fun v w787 hv => ?_
    obtain ⟨A789, c790, rfl, hN788⟩ := hv
    replace hM := hM.callL [1, 0] [2, 3] rfl rfl (by decide) rfl hN788
    refine va rfl rfl ?_
    refine nt hQ784 ?_
    clear hQ784 Q784
    refine KC.cut (fun a w797 => ∃ (may796 : Bool), Kn 175 [(0, .slice A2 (lv1).length c3), (3, .pointer (some ⟨g18, 0, none⟩)), (4, .slice A634 (want636).length c635), (5, vI i637), (6, .pointer (some ⟨g655, 0, none⟩)), (11, vI y785.1), (12, vB may796)] a ∧ Mem w [] w797 [.row A789 c790 5 1 (y785.2.f_b).length ((y785.2.f_b).flatMap (eI .u8)), .box g18 33 [.slice A789 (y785.2.f_b).length c790], .row A634 c635 5 1 (want636).length ((want636).flatMap (eI .u8)), .box g655 35 [vI xv647.f_Do, vI xv647.f_At, v64 xv647.f_V, vI xv647.f_Size, .slice A651 (xv647.f_B).length c652]] ∧ F_law01_BitsWrites_j4 want636 i637 (F_law01_BitsWrites_L1 lv1 k640) xv647 y785 may796 = some r) ?_ ?_
    ·refine KC.region ?_
     refine vm rfl rfl ?_
     refine vm rfl rfl ?_
     refine RL.bcase (t := 98) rfl (fun hc => ?_) (fun hc => ?_)
     ·rw [if_pos hc] at hF
      refine RL.gval rfl rfl (O.fldA fl35_1 (by decide) rfl) rfl ?_
      refine RL.gval rfl rfl (O.load sc3 rfl (Cs.adds [1] ((hM.bx (i := 1) rfl)) rfl)) rfl ?_
      refine RL.gval rfl rfl (O.geq rfl rfl) rfl ?_
      refine RL.val (O.pickt rfl rfl) rfl ?_
      refine vm rfl rfl ?_
      refine RL.bcase (t := 103) rfl (fun hc => ?_) (fun hc => ?_)
      ·rw [if_pos hc] at hF
       refine RL.gval rfl rfl (O.fldA fl35_1 (by decide) rfl) rfl ?_
       refine RL.gval rfl rfl (O.load sc3 rfl (Cs.adds [1] ((hM.bx (i := 1) rfl)) rfl)) rfl ?_
       refine RL.gval rfl rfl (O.move rfl) rfl ?_
       refine RL.gval rfl rfl (O.len sl22 rfl) rfl ?_
       refine RL.gval rfl rfl (O.leq rfl rfl) rfl ?_
       refine RL.val (O.pickt rfl rfl) rfl ?_
       refine vm rfl rfl ?_
       refine RL.bcase (t := 110) rfl (fun hc => ?_) (fun hc => ?_)
       ·rw [if_pos hc] at hF
        refine RL.gval rfl rfl (O.move rfl) rfl ?_
        refine RL.gval rfl rfl (O.len sl22 rfl) rfl ?_
        refine RL.gval rfl rfl (O.fldA fl35_1 (by decide) rfl) rfl ?_
        refine RL.gval rfl rfl (O.load sc3 rfl (Cs.adds [1] ((hM.bx (i := 1) rfl)) rfl)) rfl ?_
        refine RL.gval rfl rfl (O.sub rfl rfl) rfl ?_
        refine RL.gval rfl rfl (O.fldA fl35_3 (by decide) rfl) rfl ?_
        refine RL.gval rfl rfl (O.load sc3 rfl (Cs.adds [3] ((hM.bx (i := 1) rfl)) rfl)) rfl ?_
        refine RL.gval rfl rfl (O.geq rfl rfl) rfl ?_
        refine RL.val (O.pickt rfl rfl) rfl ?_
        refine va rfl rfl ?_
        refine RL.nil ?_
        refine KQ.then_k ?_
        replace hM := hM.pick [3, 2, 0, 1] rfl (by decide)
        exact fun a ha => ⟨(decide (xv647.f_Size ≤ (IntKind.i64.wrap ((want636.length : Int) - xv647.f_At)))), ha.less (less_cons rfl (less_cons rfl (less_cons rfl (less_cons rfl (less_cons rfl (less_cons rfl (less_cons rfl less_nil))))))), hM, hF⟩
       rw [if_neg (ne_true hc)] at hF
       refine RL.gskip rfl rfl rfl rfl ?_
       refine RL.gskip rfl rfl rfl rfl ?_
       refine RL.gskip rfl rfl rfl rfl ?_
       refine RL.gskip rfl rfl rfl rfl ?_
       refine RL.gskip rfl rfl rfl rfl ?_
       refine RL.gskip rfl rfl rfl rfl ?_
       refine RL.gskip rfl rfl rfl rfl ?_
       refine RL.gskip rfl rfl rfl rfl ?_
       refine RL.val (O.pickf rfl rfl) rfl ?_
       refine va rfl rfl ?_
       refine RL.nil ?_
       refine KQ.then_k ?_
       replace hM := hM.pick [3, 2, 0, 1] rfl (by decide)
       exact fun a ha => ⟨false, ha.less (less_cons rfl (less_cons rfl (less_cons rfl (less_cons rfl (less_cons rfl (less_cons rfl (less_cons rfl less_nil))))))), hM, hF⟩
      rw [if_neg (ne_true hc)] at hF
      refine RL.gskip rfl rfl rfl rfl ?_
      refine RL.gskip rfl rfl rfl rfl ?_
      refine RL.gskip rfl rfl rfl rfl ?_
      refine RL.gskip rfl rfl rfl rfl ?_
      refine RL.gskip rfl rfl rfl rfl ?_
      refine RL.val (O.pickf rfl rfl) rfl ?_
      refine vm rfl rfl ?_
      refine RL.gskip rfl rfl rfl rfl ?_
      refine RL.gskip rfl rfl rfl rfl ?_
      refine RL.gskip rfl rfl rfl rfl ?_
      refine RL.gskip rfl rfl rfl rfl ?_
      refine RL.gskip rfl rfl rfl rfl ?_
      refine RL.gskip rfl rfl rfl rfl ?_
      refine RL.gskip rfl rfl rfl rfl ?_
      refine RL.gskip rfl rfl rfl rfl ?_
      refine RL.val (O.pickf rfl rfl) rfl ?_
      refine va rfl rfl ?_
      refine RL.nil ?_
      refine KQ.then_k ?_
      replace hM := hM.pick [3, 2, 0, 1] rfl (by decide)
      exact fun a ha => ⟨false, ha.less (less_cons rfl (less_cons rfl (less_cons rfl (less_cons rfl (less_cons rfl (less_cons rfl (less_cons rfl less_nil))))))), hM, hF⟩
     rw [if_neg (ne_true hc)] at hF
     refine RL.gskip rfl rfl rfl rfl ?_
     refine RL.gskip rfl rfl rfl rfl ?_
     refine RL.gskip rfl rfl rfl rfl ?_
     refine RL.val (O.pickf rfl rfl) rfl ?_
     refine vm rfl rfl ?_
     refine RL.gskip rfl rfl rfl rfl ?_
     refine RL.gskip rfl rfl rfl rfl ?_
     refine RL.gskip rfl rfl rfl rfl ?_
     refine RL.gskip rfl rfl rfl rfl ?_
     refine RL.gskip rfl rfl rfl rfl ?_
     refine RL.val (O.pickf rfl rfl) rfl ?_
     refine vm rfl rfl ?_
     refine RL.gskip rfl rfl rfl rfl ?_
     refine RL.gskip rfl rfl rfl rfl ?_
     refine RL.gskip rfl rfl rfl rfl ?_
     refine RL.gskip rfl rfl rfl rfl ?_
     refine RL.gskip rfl rfl rfl rfl ?_
     refine RL.gskip rfl rfl rfl rfl ?_
     refine RL.gskip rfl rfl rfl rfl ?_
     refine RL.gskip rfl rfl rfl rfl ?_
     refine RL.val (O.pickf rfl rfl) rfl ?_
     refine va rfl rfl ?_
     refine RL.nil ?_
     refine KQ.then_k ?_
     replace hM := hM.pick [3, 2, 0, 1] rfl (by decide)
     exact fun a ha => ⟨false, ha.less (less_cons rfl (less_cons rfl (less_cons rfl (less_cons rfl (less_cons rfl (less_cons rfl (less_cons rfl less_nil))))))), hM, hF⟩
    rintro a w797 ⟨may796, ha, hM, hF⟩
    refine KC.app ha ?_
    clear ha
    unfold F_law01_BitsWrites_j4 at hF
    refine KC.seqH fun Q798 hQ798 => ?_
    refine KC.cut (fun a w804 => ∃ (t803 : Bool), Kn 175 [(0, .slice A2 (lv1).length c3), (3, .pointer (some ⟨g18, 0, none⟩)), (4, .slice A634 (want636).length c635), (5, vI i637), (6, .pointer (some ⟨g655, 0, none⟩)), (12, vB may796), (131, vB t803)] a ∧ Mem w [] w804 [.row A789 c790 5 1 (y785.2.f_b).length ((y785.2.f_b).flatMap (eI .u8)), .box g18 33 [.slice A789 (y785.2.f_b).length c790], .row A634 c635 5 1 (want636).length ((want636).flatMap (eI .u8)), .box g655 35 [vI xv647.f_Do, vI xv647.f_At, v64 xv647.f_V, vI xv647.f_Size, .slice A651 (xv647.f_B).length c652]] ∧ F_law01_BitsWrites_j5 want636 i637 (F_law01_BitsWrites_L1 lv1 k640) xv647 y785 may796 t803 = some r) ?_ ?_
    ·refine KC.region ?_
     refine vm rfl rfl ?_
     refine vm rfl rfl ?_
     refine RL.val (O.eql rfl rfl) rfl ?_
     refine RL.val (O.neqb Try.underlying4 rfl rfl) rfl ?_
     refine vm rfl rfl ?_
     refine RL.bcase (t := 124) rfl (fun hc => ?_) (fun hc => ?_)
     ·rw [if_pos hc] at hF
      refine RL.gskip rfl rfl rfl rfl ?_
      refine RL.gskip rfl rfl rfl rfl ?_
      refine RL.gskip rfl rfl rfl rfl ?_
      refine RL.gskip' rfl rfl rfl ?_
      refine RL.gskip' rfl rfl rfl ?_
      refine RL.gskip rfl rfl rfl rfl ?_
      refine RL.val (O.pickt rfl rfl) rfl ?_
      refine RL.nil ?_
      refine KQ.then_k ?_
      exact fun a ha => ⟨true, ha.less (less_cons rfl (less_cons rfl (less_cons rfl (less_cons rfl (less_cons rfl (less_cons rfl (less_cons rfl less_nil))))))), hM, hF⟩
     rw [if_neg (ne_true hc)] at hF
     refine RL.gval rfl rfl (O.move rfl) rfl ?_
     refine RL.gval rfl rfl (O.not rfl) rfl ?_
     refine RL.gval rfl rfl (O.move rfl) rfl ?_
     refine RL.bcase (t := 127) rfl (fun hc => ?_) (fun hc => ?_)
     ·rw [if_pos hc] at hF
      refine RL.gval rfl rfl (O.move rfl) rfl ?_
      refine RL.gval rfl rfl (O.neq rfl rfl) rfl ?_
      refine RL.gval rfl rfl (O.pickt rfl rfl) rfl ?_
      refine RL.val (O.pickf rfl rfl) rfl ?_
      refine RL.nil ?_
      refine KQ.then_k ?_
      exact fun a ha => ⟨(y785.1 != 2), ha.less (less_cons rfl (less_cons rfl (less_cons rfl (less_cons rfl (less_cons rfl (less_cons rfl (less_cons rfl less_nil))))))), hM, hF⟩
     rw [if_neg (ne_true hc)] at hF
     refine RL.gskip rfl rfl rfl rfl ?_
     refine RL.gskip rfl rfl rfl rfl ?_
     refine RL.gval rfl rfl (O.pickf rfl rfl) rfl ?_
     refine RL.val (O.pickf rfl rfl) rfl ?_
     refine RL.nil ?_
     refine KQ.then_k ?_
     exact fun a ha => ⟨false, ha.less (less_cons rfl (less_cons rfl (less_cons rfl (less_cons rfl (less_cons rfl (less_cons rfl (less_cons rfl less_nil))))))), hM, hF⟩
    rintro a w804 ⟨t803, ha, hM, hF⟩
    refine KC.app ha ?_
    clear ha
    unfold F_law01_BitsWrites_j5 at hF
    refine KC.cond rfl (fun hc => ?_) (fun hc => ?_)
    ·rw [if_pos hc] at hF
     refine sr fun Q805 hQ805 => ?_
     refine va rfl rfl ?_
     refine nt hQ805 ?_
     clear hQ805 Q805
     refine KC.ret ?_
     refine KQ.thr hQ798 ?_
     clear hQ798 Q798
     refine KQ.blk_r ?_
     refine KQ.then_r ?_
     refine KQ.blk_r ?_
     refine KQ.thr hQ643 ?_
     clear hQ643 Q643
     refine KQ.then_r ?_
     refine KQ.blk_r ?_
     refine KQ.thr hQ22 ?_
     clear hQ22 Q22
     have hE := Option.some.inj hF
     clear hF
     subst hE
     replace hM := hM.pick [] rfl (by decide)
     refine KQ.rets Try.results4 (RVs.cons (RV.tm rfl) RVs.nil) ?_
     exact ⟨_, rfl, rfl, hM⟩
    rw [if_neg (ne_true hc)] at hF
    refine KC.skip ?_
    refine KQ.thn hQ798 ?_
    clear hQ798 Q798
    refine sr fun Q806 hQ806 => ?_
    refine vm rfl rfl ?_
    refine nt hQ806 ?_
    clear hQ806 Q806
    refine KC.cond rfl (fun hc => ?_) (fun hc => ?_)
    ·rw [if_pos hc] at hF
     replace hM := hM.drewN 1
     refine KC.draw [] [] [8, 9, 17] [0, 1, 3, 4, 6, 10, 11, 13, 15, 16, 18] (.ofList [0, 1, 2, 3, 4, 5, 6, 7, 10, 11, 12, 13, 14, 15, 16, 8, 9, 17, 18]) moP (by kernel_rfl) ?_
     refine RD.p rfl rfl rfl rfl (fun w' => O.move rfl) ?_
     refine RD.p rfl rfl rfl rfl (fun w' => O.fldA fl35_1 (by decide) rfl) ?_
     refine RD.q rfl rfl rfl rfl (fun w' hf => O.load sc3 rfl (Cs.adds [1] ((hM.bx (i := 3) rfl).fut hf) rfl)) ?_
     refine obindE hF fun cut807 hy808 hF => ?_
     refine cutNE A634 c635 (Int.toNat 0) 1 fun A809 c810 eA812 ec813 => ?_
     have hr811 := Rd.cutT (enc := (eI .u8)) (s := 1) (fun _ => rfl) (hM.rd (i := 2) rfl) hy808 (m := c635) (by have := (hM.rd (i := 2) rfl).cap; have := (gcut_some hy808).2.2.1; omega) (Nat.le_refl _)
     rw [← eA812, ← ec813] at hr811
     refine RD.p (v := .slice A809 (cut807).length c810) rfl rfl rfl rfl (fun w' => (by rw [eA812, ec813]; exact O.cuthT sl22 (hM.rd (i := 2) rfl) hy808 rfl rfl)) ?_
     refine RD.p rfl rfl rfl rfl (fun w' => O.fldA fl35_2 (by decide) rfl) ?_
     refine RD.q rfl rfl rfl rfl (fun w' hf => O.load sc23 rfl (Cs.adds [2] ((hM.bx (i := 3) rfl).fut hf) rfl)) ?_
     refine RD.p rfl rfl rfl rfl (fun w' => O.fldA fl35_3 (by decide) rfl) ?_
     refine RD.q rfl rfl rfl rfl (fun w' hf => O.load sc3 rfl (Cs.adds [3] ((hM.bx (i := 3) rfl).fut hf) rfl)) ?_
     refine RD.p rfl rfl rfl rfl (fun w' => O.move rfl) ?_
     refine RD.p rfl rfl rfl rfl (fun w' => O.fldA fl35_1 (by decide) rfl) ?_
     refine RD.q rfl rfl rfl rfl (fun w' hf => O.load sc3 rfl (Cs.adds [1] ((hM.bx (i := 3) rfl).fut hf) rfl)) ?_
     refine RD.p rfl rfl rfl rfl (fun w' => O.fldA fl35_3 (by decide) rfl) ?_
     refine RD.q rfl rfl rfl rfl (fun w' hf => O.load sc3 rfl (Cs.adds [3] ((hM.bx (i := 3) rfl).fut hf) rfl)) ?_
     refine RD.p rfl rfl rfl rfl (fun w' => O.add rfl rfl) ?_
     refine obindE hF fun cut814 hy815 hF => ?_
     refine cutNE A634 c635 (Int.toNat (IntKind.i64.wrap (xv647.f_At + xv647.f_Size))) 1 fun A816 c817 eA819 ec820 => ?_
     have hr818 := Rd.cutT (enc := (eI .u8)) (s := 1) (fun _ => rfl) (hM.rd (i := 2) rfl) hy815 (m := c635) (by have := (hM.rd (i := 2) rfl).cap; have := (gcut_some hy815).2.2.1; omega) (Nat.le_refl _)
     rw [← eA819, ← ec820] at hr818
     refine RD.p (v := .slice A816 (cut814).length c817) rfl rfl rfl rfl (fun w' => (by rw [eA819, ec820]; exact O.cutlT sl22 (hM.rd (i := 2) rfl) hy815 rfl rfl)) ?_
     refine obindE hF fun y821 hx822 hF => ?_
     refine RD.mcall rfl rfl trivial Try.func19 bd19 rfl rfl (c_ref01_Put _ xv647.f_V xv647.f_Size _ hx822) fun v w823 hv => ?_
     obtain ⟨A825, c826, rfl, hN824⟩ := hv
     refine ⟨fun _ => hN824.fut, ?_⟩
     have hr811 := hr811.fut hN824.fut
     have hr818 := hr818.fut hN824.fut
     replace hM := hM.call hN824
     refine obindE hF fun y828 hx829 hF => ?_
     refine RD.mcall rfl rfl trivial Try.func18 bd18 rfl rfl (c_ref01_Join _ _ _ cut807 hr811 _ _ y821 (hM.rd (i := 4) rfl) _ hx829) fun v w830 hv => ?_
     obtain ⟨A832, c833, rfl, hN831⟩ := hv
     refine ⟨fun _ => hN831.fut, ?_⟩
     have hr811 := hr811.fut hN831.fut
     have hr818 := hr818.fut hN831.fut
     replace hM := hM.call hN831
     refine obindE hF fun y835 hx836 hF => ?_
     refine RD.mcall rfl rfl trivial Try.func18 bd18 rfl rfl (c_ref01_Join _ _ _ y828 (hM.rd (i := 5) rfl) _ _ cut814 hr818 _ hx836) fun v w837 hv => ?_
     obtain ⟨A839, c840, rfl, hN838⟩ := hv
     refine ⟨fun _ => hN838.fut, ?_⟩
     have hr811 := hr811.fut hN838.fut
     have hr818 := hr818.fut hN838.fut
     replace hM := hM.call hN838
     refine RD.p rfl rfl rfl rfl (fun w' => O.assign rfl) ?_
     refine RD.nil ?_
     refine KQ.blk_n ?_
     refine KQ.then_k ?_
     replace hM := hM.pick [0, 1, 6] rfl (by decide)
     exact fun a ha => ⟨A789, c790, A839, c840, y785.2.f_b, y835, ha.less (less_cons rfl (less_cons rfl (less_cons rfl (less_cons rfl less_nil)))), hM, hF⟩
    rw [if_neg (ne_true hc)] at hF
    refine KC.skip ?_
    refine KQ.blk_n ?_
    refine KQ.then_k ?_
    replace hM := hM.pick [0, 1, 2] rfl (by decide)
    exact fun a ha => ⟨A789, c790, A634, c635, y785.2.f_b, want636, ha.less (less_cons rfl (less_cons rfl (less_cons rfl (less_cons rfl less_nil)))), hM, hF⟩
   rw [if_neg (ne_true hc)] at hF
   refine KC.skip ?_
   refine KQ.blk_n ?_
   refine KQ.then_k ?_
   replace hM := hM.pick [0, 1, 2] rfl (by decide)
   exact fun a ha => ⟨A630, c631, A634, c635, wv632, want636, ha.less (less_cons rfl (less_cons rfl (less_cons rfl (less_cons rfl less_nil)))), hM, hF⟩
  rintro a w851 ⟨A844, c845, A848, c849, wv846, want850, ha, hM, hF⟩
  refine KC.app ha ?_
  clear ha
  unfold F_law01_BitsWrites_j1 at hF
  refine sr fun Q852 hQ852 => ?_
  refine obindE hF fun y853 hx854 hF => ?_
  refine RL.call Try.func22 bd22 rfl rfl (c_bits_Writer_Bytes _ _ _ (T_bits_Writer.mk wv846) _ _ (hM.lent [1, 0] rfl (by decide)) _ hx854) fun v w855 hv => ?_
  obtain ⟨A857, c858, A860, c861, rfl, hN856⟩ := hv
  replace hM := hM.callL [1, 0] [2] rfl rfl (by decide) rfl hN856
  refine va rfl rfl ?_
  refine nt hQ852 ?_
  clear hQ852 Q852
  refine KC.seqH fun Q863 hQ863 => ?_
  refine KC.cut (fun a w883 => ∃ (A877 : Option Addr) (c878 : Nat) (wv879 : List Int) (t882 : Bool), Kn 175 [(0, .slice A2 (lv1).length c3), (3, .pointer (some ⟨g18, 0, none⟩)), (4, .slice A848 (want850).length c849), (5, vI i637), (13, .slice A860 (y853.1).length c861), (161, vB t882)] a ∧ Mem w [] w883 [.row A877 c878 5 1 (wv879).length ((wv879).flatMap (eI .u8)), .box g18 33 [.slice A877 (wv879).length c878], .row A848 c849 5 1 (want850).length ((want850).flatMap (eI .u8)), .row A860 c861 5 1 (y853.1).length ((y853.1).flatMap (eI .u8))] ∧ F_law01_BitsWrites_j2 i637 (F_law01_BitsWrites_L1 lv1 k640) want850 y853 wv879 t882 = some r) ?_ ?_
  ·refine KC.region ?_
   refine vm rfl rfl ?_
   refine vm rfl rfl ?_
   refine obindE hF fun y864 hx865 hF => ?_
   refine RL.call Try.func23 bd23 rfl rfl (c_ref01_Same _ _ _ y853.1 (hM.rd (i := 3) rfl) _ _ want850 (hM.rd (i := 0) rfl) _ hx865) fun v w866 hv => ?_
   obtain ⟨rfl, hN867⟩ := hv
   replace hM := hM.call0 hN867
   refine RL.val (O.not rfl) rfl ?_
   refine vm rfl rfl ?_
   refine RL.bcase (t := 156) rfl (fun hc => ?_) (fun hc => ?_)
   ·rw [if_pos hc] at hF
    refine RL.gskip rfl rfl rfl rfl ?_
    refine RL.gskip rfl rfl rfl rfl ?_
    refine RL.gskip rfl rfl rfl rfl ?_
    refine RL.gskip rfl rfl rfl rfl ?_
    refine RL.val (O.pickt rfl rfl) rfl ?_
    refine RL.nil ?_
    refine KQ.then_k ?_
    replace hM := hM.pick [2, 1, 0, 3] rfl (by decide)
    exact fun a ha => ⟨A857, c858, y853.2.f_b, true, ha.less (less_cons rfl (less_cons rfl (less_cons rfl (less_cons rfl (less_cons rfl (less_cons rfl less_nil)))))), hM, hF⟩
   rw [if_neg (ne_true hc)] at hF
   refine obindE hF fun y868 hx869 hF => ?_
   refine RL.gcall rfl rfl Try.func24 bd24 rfl rfl (c_bits_Writer_Len _ _ _ y853.2 _ _ (hM.lent [1, 2] rfl (by decide)) _ hx869) fun v w870 hv => ?_
   obtain ⟨A872, c873, rfl, hN871⟩ := hv
   replace hM := hM.callL [1, 2] [0, 3] rfl rfl (by decide) rfl hN871
   refine RL.gval rfl rfl (O.move rfl) rfl ?_
   refine RL.gval rfl rfl (O.len sl22 rfl) rfl ?_
   refine RL.gval rfl rfl (O.neq rfl rfl) rfl ?_
   refine RL.val (O.pickf rfl rfl) rfl ?_
   refine RL.nil ?_
   refine KQ.then_k ?_
   replace hM := hM.pick [3, 2, 0, 1] rfl (by decide)
   exact fun a ha => ⟨A872, c873, y868.2.f_b, (y868.1 != (want850.length : Int)), ha.less (less_cons rfl (less_cons rfl (less_cons rfl (less_cons rfl (less_cons rfl (less_cons rfl less_nil)))))), hM, hF⟩
  rintro a w883 ⟨A877, c878, wv879, t882, ha, hM, hF⟩
  refine KC.app ha ?_
  clear ha
  unfold F_law01_BitsWrites_j2 at hF
  refine KC.cond rfl (fun hc => ?_) (fun hc => ?_)
  ·rw [if_pos hc] at hF
   refine sr fun Q884 hQ884 => ?_
   refine va rfl rfl ?_
   refine nt hQ884 ?_
   clear hQ884 Q884
   refine KC.ret ?_
   refine KQ.thr hQ863 ?_
   clear hQ863 Q863
   refine KQ.blk_r ?_
   refine KQ.thr hQ643 ?_
   clear hQ643 Q643
   refine KQ.then_r ?_
   refine KQ.blk_r ?_
   refine KQ.thr hQ22 ?_
   clear hQ22 Q22
   have hE := Option.some.inj hF
   clear hF
   subst hE
   replace hM := hM.pick [] rfl (by decide)
   refine KQ.rets Try.results4 (RVs.cons (RV.tm rfl) RVs.nil) ?_
   exact ⟨_, rfl, rfl, hM⟩
  rw [if_neg (ne_true hc)] at hF
  refine KC.skip ?_
  refine KQ.thn hQ863 ?_
  clear hQ863 Q863
  refine sr fun Q885 hQ885 => ?_
  refine va rfl rfl ?_
  refine nt hQ885 ?_
  clear hQ885 Q885
  refine KC.block ?_
  refine KC.loop (fun k926 a w924 => ∃ (A920 : Option Addr) (c921 : Nat) (b922 : List Int) (kv923 : Int), Kn 175 [(0, .slice A2 (lv1).length c3), (3, .pointer (some ⟨g18, 0, none⟩)), (4, .slice A848 (want850).length c849), (5, vI i637), (13, .slice A920 (b922).length c921), (14, vI kv923)] a ∧ Mem w [] w924 [.row A877 c878 5 1 (wv879).length ((wv879).flatMap (eI .u8)), .box g18 33 [.slice A877 (wv879).length c878], .row A848 c849 5 1 (want850).length ((want850).flatMap (eI .u8)), .row A920 c921 5 1 (b922).length ((b922).flatMap (eI .u8))] ∧ F_law01_BitsWrites_L2 i637 (F_law01_BitsWrites_L1 lv1 k640) want850 wv879 k926 b922 kv923 = some r) ?_ ?_
  ·exact fun a ha => ⟨fuel0, A860, c861, y853.1, 0, ha.less (less_cons rfl (less_cons rfl (less_cons rfl (less_cons rfl (less_cons rfl (less_cons rfl less_nil)))))), hM, hF⟩
  rintro k926 a w924 ⟨A920, c921, b922, kv923, ha, hM, hF⟩
  refine KC.app ha ?_
  clear ha
  cases k926 with
  | zero => exact (none_some hF).elim
  | succ k926 =>
  have hF : F_law01_BitsWrites_l2 (F_law01_BitsWrites_L2 i637 (F_law01_BitsWrites_L1 lv1 k640) want850 wv879 k926) i637 (F_law01_BitsWrites_L1 lv1 k640) want850 wv879 b922 kv923 = some r := hF
  unfold F_law01_BitsWrites_l2 at hF
  refine KC.seqH fun Q927 hQ927 => ?_
  refine sr fun Q928 hQ928 => ?_
  refine vm rfl rfl ?_
  refine vm rfl rfl ?_
  refine RL.val (O.len sl22 rfl) rfl ?_
  refine RL.val (O.lss rfl rfl) rfl ?_
  refine nt hQ928 ?_
  clear hQ928 Q928
  refine KC.cond rfl (fun hc => ?_) (fun hc => ?_)
  ·rw [if_pos hc] at hF
   refine KC.skip ?_
   refine KQ.thn hQ927 ?_
   clear hQ927 Q927
   refine KC.seqH fun Q929 hQ929 => ?_
   refine KC.block ?_
   refine KC.region ?_
   refine vm rfl rfl ?_
   refine vm rfl rfl ?_
   refine obindE hF fun xv932 hx931 hF => ?_
   have hA930 := Rd.atN (f := (eI .u8)) (s := 1) (fun _ => rfl) (by decide) (hM.rd (i := 3) rfl) hx931
   refine RL.val (O.idxA sl22 (hA930) rfl rfl) rfl ?_
   refine RL.val (O.load sc5 rfl (hA930).cells.at0) rfl ?_
   refine RL.val (O.add rfl rfl) rfl ?_
   refine obindE hF fun xv935 hx934 hF => ?_
   have hA933 := Rd.atN (f := (eI .u8)) (s := 1) (fun _ => rfl) (by decide) (hM.rd (i := 3) rfl) hx934
   refine RL.val (O.idxA sl22 (hA933) rfl rfl) rfl ?_
   refine RL.effs (E.stR (enc := (eI .u8)) (j := 3) (off := 0) (vs := [v8 (IntKind.u8.wrap (xv932 + 1))]) (x' := (IntKind.u8.wrap (xv932 + 1))) hM rfl (fun _ => rfl) hx934 sz5 rfl (addsR_eq [] rfl) rfl rfl (One.all rfl) rfl rfl) fun w936 hM1 => ?_
   clear hM
   obtain ⟨hM, hn937⟩ := hM1
   refine RL.reslot (t := 13) rfl hn937 ?_
   refine RL.reslot (t := 168) rfl hn937 ?_
   refine RL.nil ?_
   refine KQ.blk_n ?_
   refine KQ.thn hQ929 ?_
   clear hQ929 Q929
   refine KC.region ?_
   refine vm rfl rfl ?_
   refine RL.val (O.add rfl rfl) rfl ?_
   refine va rfl rfl ?_
   refine RL.nil ?_
   refine KQ.then_k ?_
   exact fun a ha => ⟨k926, Nat.lt_succ_self k926, A920, c921, (b922.set (kv923 : Int).toNat (IntKind.u8.wrap (xv932 + 1))), (IntKind.i64.wrap (kv923 + 1)), ha.less (less_cons rfl (less_cons rfl (less_cons rfl (less_cons rfl (less_cons rfl (less_cons rfl less_nil)))))), hM, hF⟩
  rw [if_neg (ne_true hc)] at hF
  refine KC.exit ?_
  refine KQ.thx hQ927 ?_
  clear hQ927 Q927
  refine KQ.then_x ?_
  refine KQ.blk_x ?_
  refine KQ.blk_n ?_
  refine KQ.thn hQ643 ?_
  clear hQ643 Q643
  replace hM := hM.pick [0, 1, 2] rfl (by decide)
  refine KC.region ?_
  refine vm rfl rfl ?_
  refine RL.val (O.add rfl rfl) rfl ?_
  refine va rfl rfl ?_
  refine RL.nil ?_
  refine KQ.then_k ?_
  exact fun a ha => ⟨k640, Nat.lt_succ_self k640, A877, c878, A848, c849, wv879, want850, (IntKind.i64.wrap (i637 + 1)), ha.less (less_cons rfl (less_cons rfl (less_cons rfl (less_cons rfl less_nil)))), hM, hF⟩
 rw [if_neg (ne_true hc)] at hF
 refine KC.exit ?_
 refine KQ.thx hQ641 ?_
 clear hQ641 Q641
 refine KQ.then_x ?_
 refine KQ.blk_x ?_
 refine KQ.thn hQ22 ?_
 clear hQ22 Q22
 replace hM := hM.pick [] rfl (by decide)
 refine sr fun Q938 hQ938 => ?_
 refine obindE hF fun y939 hx940 hF => ?_
 refine RL.call Try.func9 bd9 rfl rfl (c_law01_works _ _ hx940) fun v w941 hv => ?_
 obtain ⟨rfl, hN942⟩ := hv
 replace hM := hM.call0 hN942
 refine va rfl rfl ?_
 refine nt hQ938 ?_
 clear hQ938 Q938
 refine KC.ret ?_
 have hE := Option.some.inj hF
 clear hF
 subst hE
 refine KQ.rets Try.results4 (RVs.cons (RV.tm rfl) RVs.nil) ?_
 exact ⟨_, rfl, rfl, hM⟩
set_option maxRecDepth 100000 in
set_option maxHeartbeats 40000000 in
theorem c_bits_Read (w : World) (A2 : Option Addr) (c3 : Nat) (b1 : List Int) (hr4 : Rd w A2 c3 1 b1.length (b1.flatMap (eI .u8))) (r : T_bits_Reader) (hF : F_bits_Read b1 = some r) :
  CallsR Try.prog 25 [.slice A2 (b1).length c3] w (fun v w' => ∃ (g0 : Nat) (A1 : Option Addr) (c1 : Nat), v = .pointer (some ⟨g0, 0, none⟩) ∧ Mem w [] w' [.box g0 64 [.slice A1 (r.f_b).length c1, vI r.f_at], .row A1 c1 5 1 r.f_b.length (r.f_b.flatMap (eI .u8))]) := by
 refine calls_KC Try.func25 rfl Try.ntmps25 rfl ?_
 have hM := Mem.init w
 unfold F_bits_Read at hF
 refine sr fun Q5 hQ5 => ?_
 refine va rfl rfl ?_
 refine nt hQ5 ?_
 clear hQ5 Q5
 refine sr fun Q6 hQ6 => ?_
 refine vm rfl rfl ?_
 refine obindE hF fun y7 hx8 hF => ?_
 refine RL.call Try.func35 bd35 rfl rfl (c_slices_Clone_byte_byte _ _ _ b1 (hM.inp hr4 Off.nil) _ hx8) fun v w9 hv => ?_
 obtain ⟨A11, c12, rfl, hN10⟩ := hv
 replace hM := hM.call hN10
 refine RL.val (O.bld (cs := [.slice A11 (y7).length c12, vI 0]) bt64 rfl (by kernel_rfl)) rfl ?_
 refine RL.eff (E.box (vs := [.slice A11 (y7).length c12, vI 0]) hM rfl rfl) rfl fun v w15 hv => ?_
 clear hM
 obtain ⟨g14, rfl, hM, hf⟩ := hv
 refine va rfl rfl ?_
 refine nt hQ6 ?_
 clear hQ6 Q6
 refine KC.ret ?_
 have hE := Option.some.inj hF
 clear hF
 subst hE
 replace hM := hM.pick [1, 0] rfl (by decide)
 refine KQ.rets Try.results25 (RVs.cons (RV.tm rfl) RVs.nil) ?_
 exact ⟨_, rfl, g14, A11, c12, rfl, hM⟩
set_option maxRecDepth 100000 in
set_option maxHeartbeats 40000000 in
theorem c_bits_Reader_Get (w : World) (g2 : Nat) (tg7 : TypeId) (rv1 : T_bits_Reader) (A4 : Option Addr) (c5 : Nat) (hL9 : Lent w [.box g2 tg7 [.slice A4 (rv1.f_b).length c5, vI rv1.f_at], .row A4 c5 5 1 (rv1.f_b).length ((rv1.f_b).flatMap (eI .u8))]) (size8 : Int) (r : Int × Int × T_bits_Reader) (hF : F_bits_Reader_Get rv1 size8 = some r) :
  CallsR Try.prog 26 [.pointer (some ⟨g2, 0, none⟩), vI size8] w (fun v w' => ∃ (A0 : Option Addr) (c0 : Nat), v = .tuple #[v64 r.1, vI r.2.1] ∧ Mem w [some g2, rblk A4 c5] w' [.box g2 tg7 [.slice A0 (r.2.2.f_b).length c0, vI r.2.2.f_at], .row A0 c0 5 1 r.2.2.f_b.length (r.2.2.f_b.flatMap (eI .u8))]) := by
 refine calls_KC Try.func26 rfl Try.ntmps26 rfl ?_
 have hM : Mem w [some g2, rblk A4 c5] w [.box g2 tg7 [.slice A4 (rv1.f_b).length c5, vI rv1.f_at], .row A4 c5 5 1 (rv1.f_b).length ((rv1.f_b).flatMap (eI .u8))] := Mem.lendN hL9
 unfold F_bits_Reader_Get at hF
 refine sr fun Q10 hQ10 => ?_
 refine va rfl rfl ?_
 refine va rfl rfl ?_
 refine nt hQ10 ?_
 clear hQ10 Q10
 refine KC.seqH fun Q11 hQ11 => ?_
 refine sr fun Q12 hQ12 => ?_
 refine vm rfl rfl ?_
 refine RL.val (O.peqn Try.underlying49 rfl rfl) rfl ?_
 refine nt hQ12 ?_
 clear hQ12 Q12
 refine KC.condF rfl ?_
 refine KC.skip ?_
 refine KQ.thn hQ11 ?_
 clear hQ11 Q11
 refine KC.seqH fun Q13 hQ13 => ?_
 replace hM := hM.drewN 1
 refine KC.draw [] [] [9] [0, 1, 2, 4, 5, 6, 8, 10, 11, 12, 13, 14] (.ofList [0, 1, 2, 3, 4, 5, 6, 7, 8, 9, 10, 11, 12, 13, 14]) moP (by kernel_rfl) ?_
 refine RD.p rfl rfl rfl rfl (fun w' => O.move rfl) ?_
 refine RD.p rfl rfl rfl rfl (fun w' => O.nilp rfl) ?_
 refine RD.p rfl rfl rfl rfl (fun w' => O.fldA fl64_0 (by decide) rfl) ?_
 refine RD.q rfl rfl rfl rfl (fun w' hf => O.load sc22 rfl (Cs.adds [0] ((hM.bx (i := 0) rfl).fut hf) rfl)) ?_
 refine RD.p rfl rfl rfl rfl (fun w' => O.move rfl) ?_
 refine RD.p rfl rfl rfl rfl (fun w' => O.nilp rfl) ?_
 refine RD.p rfl rfl rfl rfl (fun w' => O.fldA fl64_1 (by decide) rfl) ?_
 refine RD.q rfl rfl rfl rfl (fun w' hf => O.load sc3 rfl (Cs.adds [1] ((hM.bx (i := 0) rfl).fut hf) rfl)) ?_
 refine RD.p rfl rfl rfl rfl (fun w' => O.move rfl) ?_
 refine obindE hF fun y14 hx15 hF => ?_
 refine RD.mcall rfl rfl trivial Try.func10 bd10 rfl rfl (c_bits_Get _ _ _ rv1.f_b (hM.rd (i := 1) rfl) rv1.f_at size8 _ hx15) fun v w16 hv => ?_
 obtain ⟨rfl, hN17⟩ := hv
 refine ⟨fun _ => hN17.fut, ?_⟩
 replace hM := hM.call0 hN17
 refine RD.p rfl rfl rfl rfl (fun w' => O.move rfl) ?_
 refine RD.p rfl rfl rfl rfl (fun w' => O.ext rfl rfl) ?_
 refine RD.p rfl rfl rfl rfl (fun w' => O.ext rfl rfl) ?_
 refine RD.p rfl rfl rfl rfl (fun w' => O.assign rfl) ?_
 refine RD.p rfl rfl rfl rfl (fun w' => O.assign rfl) ?_
 refine RD.nil ?_
 refine KQ.thn hQ13 ?_
 clear hQ13 Q13
 refine KC.cut (fun a w23 => ∃ (p22 : Int), Kn 35 [(6, v64 y14.1), (7, vI y14.2)] a ∧ Mem w [some g2, rblk A4 c5] w23 [.row A4 c5 5 1 (rv1.f_b).length ((rv1.f_b).flatMap (eI .u8)), .box g2 tg7 [.slice A4 (rv1.f_b).length c5, vI p22]] ∧ F_bits_Reader_Get_j1 rv1 y14 p22 = some r) ?_ ?_
 ·refine sr fun Q18 hQ18 => ?_
  refine vm rfl rfl ?_
  refine RL.val (O.eql rfl rfl) rfl ?_
  refine nt hQ18 ?_
  clear hQ18 Q18
  refine KC.cond rfl (fun hc => ?_) (fun hc => ?_)
  ·rw [if_pos hc] at hF
   refine KC.region ?_
   refine vm rfl rfl ?_
   refine RL.val (O.nilp rfl) rfl ?_
   refine RL.val (O.fldA fl64_1 (by decide) rfl) rfl ?_
   refine RL.val (O.load sc3 rfl (Cs.adds [1] ((hM.bx (i := 0) rfl)) rfl)) rfl ?_
   refine vm rfl rfl ?_
   refine RL.val (O.add rfl rfl) rfl ?_
   refine RL.val (O.nilp rfl) rfl ?_
   refine RL.val (O.fldA fl64_1 (by decide) rfl) rfl ?_
   refine RL.effs (E.stB (j := 0) (off := 1) (vs := [vI (IntKind.i64.wrap (rv1.f_at + size8))]) (cs' := [.slice A4 (rv1.f_b).length c5, vI (IntKind.i64.wrap (rv1.f_at + size8))]) hM rfl sz3 rfl (adds_eq [1] rfl) rfl rfl (One.all rfl) rfl rfl) fun w19 hM1 => ?_
   clear hM
   have hM := hM1
   clear hM1
   refine RL.nil ?_
   refine KQ.then_k ?_
   replace hM := hM.pick [1, 0] rfl (by decide)
   exact fun a ha => ⟨(IntKind.i64.wrap (rv1.f_at + size8)), ha.less (less_cons rfl (less_cons rfl less_nil)), hM, hF⟩
  rw [if_neg (ne_true hc)] at hF
  refine KC.skip ?_
  refine KQ.then_k ?_
  replace hM := hM.pick [1, 0] rfl (by decide)
  exact fun a ha => ⟨rv1.f_at, ha.less (less_cons rfl (less_cons rfl less_nil)), hM, hF⟩
 rintro a w23 ⟨p22, ha, hM, hF⟩
 refine KC.app ha ?_
 clear ha
 unfold F_bits_Reader_Get_j1 at hF
 refine sr fun Q24 hQ24 => ?_
 refine vm rfl rfl ?_
 refine vm rfl rfl ?_
 refine va rfl rfl ?_
 refine va rfl rfl ?_
 refine nt hQ24 ?_
 clear hQ24 Q24
 refine KC.ret ?_
 have hE := Option.some.inj hF
 clear hF
 subst hE
 replace hM := hM.pick [1, 0] rfl (by decide)
 refine KQ.rets Try.results26 (RVs.cons (RV.tm rfl) (RVs.cons (RV.tm rfl) RVs.nil)) ?_
 exact ⟨_, rfl, A4, c5, rfl, hM⟩
set_option maxRecDepth 100000 in
set_option maxHeartbeats 40000000 in
theorem c_bits_Reader_Left (w : World) (g2 : Nat) (tg7 : TypeId) (rv1 : T_bits_Reader) (A4 : Option Addr) (c5 : Nat) (hL8 : Lent w [.box g2 tg7 [.slice A4 (rv1.f_b).length c5, vI rv1.f_at], .row A4 c5 5 1 (rv1.f_b).length ((rv1.f_b).flatMap (eI .u8))]) (r : Int × T_bits_Reader) (hF : F_bits_Reader_Left rv1 = some r) :
  CallsR Try.prog 27 [.pointer (some ⟨g2, 0, none⟩)] w (fun v w' => ∃ (A0 : Option Addr) (c0 : Nat), v = vI r.1 ∧ Mem w [some g2, rblk A4 c5] w' [.box g2 tg7 [.slice A0 (r.2.f_b).length c0, vI r.2.f_at], .row A0 c0 5 1 r.2.f_b.length (r.2.f_b.flatMap (eI .u8))]) := by
 refine calls_KC Try.func27 rfl Try.ntmps27 rfl ?_
 have hM : Mem w [some g2, rblk A4 c5] w [.box g2 tg7 [.slice A4 (rv1.f_b).length c5, vI rv1.f_at], .row A4 c5 5 1 (rv1.f_b).length ((rv1.f_b).flatMap (eI .u8))] := Mem.lendN hL8
 unfold F_bits_Reader_Left at hF
 refine sr fun Q9 hQ9 => ?_
 refine va rfl rfl ?_
 refine nt hQ9 ?_
 clear hQ9 Q9
 refine KC.seqH fun Q10 hQ10 => ?_
 refine sr fun Q11 hQ11 => ?_
 refine vm rfl rfl ?_
 refine RL.val (O.peqn Try.underlying49 rfl rfl) rfl ?_
 refine nt hQ11 ?_
 clear hQ11 Q11
 refine KC.condF rfl ?_
 refine KC.skip ?_
 refine KQ.thn hQ10 ?_
 clear hQ10 Q10
 refine KC.seqH fun Q12 hQ12 => ?_
 replace hM := hM.drewN 1
 refine KC.draw [] [] [] [0, 1, 2, 4, 5, 6, 7, 9, 10] (.ofList [0, 1, 2, 3, 4, 5, 6, 7, 8, 9, 10]) moP (by kernel_rfl) ?_
 refine RD.p rfl rfl rfl rfl (fun w' => O.move rfl) ?_
 refine RD.p rfl rfl rfl rfl (fun w' => O.nilp rfl) ?_
 refine RD.p rfl rfl rfl rfl (fun w' => O.fldA fl64_0 (by decide) rfl) ?_
 refine RD.q rfl rfl rfl rfl (fun w' hf => O.load sc22 rfl (Cs.adds [0] ((hM.bx (i := 0) rfl).fut hf) rfl)) ?_
 refine RD.p rfl rfl rfl rfl (fun w' => O.len sl22 rfl) ?_
 refine RD.p rfl rfl rfl rfl (fun w' => O.move rfl) ?_
 refine RD.p rfl rfl rfl rfl (fun w' => O.nilp rfl) ?_
 refine RD.p rfl rfl rfl rfl (fun w' => O.fldA fl64_1 (by decide) rfl) ?_
 refine RD.q rfl rfl rfl rfl (fun w' hf => O.load sc3 rfl (Cs.adds [1] ((hM.bx (i := 0) rfl).fut hf) rfl)) ?_
 refine RD.p rfl rfl rfl rfl (fun w' => O.sub rfl rfl) ?_
 refine RD.p rfl rfl rfl rfl (fun w' => O.assign rfl) ?_
 refine RD.nil ?_
 refine KQ.thn hQ12 ?_
 clear hQ12 Q12
 refine KC.ret ?_
 have hE := Option.some.inj hF
 clear hF
 subst hE
 refine KQ.rets Try.results27 (RVs.cons (RV.tm rfl) RVs.nil) ?_
 exact ⟨_, rfl, A4, c5, rfl, hM⟩
end Go.Proofs.Ytpbkjellpboefaa
