/- Printed by a program of this claim: each call returns what the plain function of its name gives. -/
import Derived.Test.YtikjomacnbemhaaW9
set_option linter.unusedVariables false
namespace Go.Proofs.Ytikjomacnbemhaa
open Go Go.Ox Go.RowKit
set_option maxRecDepth 100000 in
set_option maxHeartbeats 40000000 in
theorem c_law06_IpsixParses (w : World) (first1 : Int) (A3 : Option Addr) (c4 : Nat) (b2 : List Int) (hr5 : Rd w A3 c4 1 b2.length (b2.flatMap (eI .u8))) (r : Bool) (hF : F_law06_IpsixParses first1 b2 = some r) :
    CallsR Try.prog 4 [.int .u8 first1, .slice A3 (b2).length c4] w (fun v w' => v = .bool r ∧ Mem w [] w' []) := by
  refine calls_KC Try.func4 rfl Try.ntmps4 rfl ?_
  have hM := Mem.init w
  unfold F_law06_IpsixParses at hF
  refine KC.seq ?_
  refine KC.region ?_
  refine RL.val (O.assign rfl) rfl ?_
  refine RL.nil ?_
  refine KQ.then_n ?_
  refine KC.seq ?_
  refine KC.seq ?_
  refine KC.region ?_
  refine RL.val (O.move rfl) rfl ?_
  refine RL.val (O.len sl31 rfl) rfl ?_
  refine RL.val (O.gtr rfl rfl) rfl ?_
  refine RL.nil ?_
  refine KQ.then_n ?_
  refine KC.cond rfl (fun hc => ?_) (fun hc => ?_)
  · rw [if_pos hc] at hF
    refine KC.seq ?_
    refine KC.region ?_
    refine obindE hF fun y6 hx7 hF => ?_
    refine RL.call Try.func9 bd9 rfl rfl (c_law06_works _ _ hx7) fun v w8 hv => ?_
    obtain ⟨rfl, hN9⟩ := hv
    replace hM := hM.call0 hN9
    refine RL.val (O.assign rfl) rfl ?_
    refine RL.nil ?_
    refine KQ.then_n ?_
    refine KC.ret ?_
    refine KQ.then_r ?_
    obtain rfl := Option.some.inj hF
    refine KQ.rets Try.results4 (RVs.cons (RV.tm rfl) RVs.nil) ?_
    exact ⟨_, rfl, rfl, hM⟩
  · rw [if_neg (ne_true hc)] at hF
    refine KC.skip ?_
    refine KQ.then_n ?_
    refine KC.seq ?_
    refine KC.region ?_
    refine RL.val (O.move rfl) rfl ?_
    refine obindE hF fun y10 hx11 hF => ?_
    refine RL.call Try.func20 bd20 rfl rfl (c_kit_Own _ _ _ b2 (hM.inp hr5 Off.nil) _ hx11) fun v w12 hv => ?_
    obtain ⟨A14, c15, rfl, hN13⟩ := hv
    replace hM := hM.call hN13
    refine RL.val (O.assign rfl) rfl ?_
    refine RL.nil ?_
    refine KQ.then_n ?_
    refine KC.seq ?_
    refine KC.seq ?_
    refine KC.region ?_
    refine RL.val (O.assign rfl) rfl ?_
    refine RL.nil ?_
    refine KQ.then_n ?_
    refine KC.block ?_
    refine KC.loop (fun k693 a w691 => ∃ (t690 : Int), Kn 135 [(0, .int .u8 first1), (1, .slice A3 (b2).length c4), (5, .slice A14 (y10).length c15), (6, .int .i64 t690)] a ∧ Mem w [] w691 [.row A14 c15 5 1 (y10).length ((y10).flatMap (eI .u8))] ∧ F_law06_IpsixParses_L1 first1 b2 y10 k693 t690 = some r) ?_ ?_
    · exact fun a ha => ⟨fuel0, 0, ha.less (less_cons rfl (less_cons rfl (less_cons rfl (less_cons rfl less_nil)))), hM, hF⟩
    · rintro k693 a w691 ⟨t690, ha, hM, hF⟩
      refine KC.app ha ?_
      clear ha
      cases k693 with
      | zero => exact (none_some hF).elim
      | succ k693 =>
      have hF : F_law06_IpsixParses_l1 (F_law06_IpsixParses_L1 first1 b2 y10 k693) first1 b2 y10 t690 = some r := hF
      unfold F_law06_IpsixParses_l1 at hF
      refine KC.seq ?_
      refine KC.seq ?_
      refine KC.region ?_
      refine RL.val (O.move rfl) rfl ?_
      refine RL.val (O.lss rfl rfl) rfl ?_
      refine RL.nil ?_
      refine KQ.then_n ?_
      refine KC.cond rfl (fun hc => ?_) (fun hc => ?_)
      · rw [if_pos hc] at hF
        refine KC.skip ?_
        refine KQ.then_n ?_
        refine KC.seq ?_
        refine KC.block ?_
        refine KC.seq ?_
        refine KC.region ?_
        refine RL.val (O.move rfl) rfl ?_
        refine RL.val (O.move rfl) rfl ?_
        refine obindE hF fun y694 hx695 hF => ?_
        refine RL.call Try.func21 bd21 rfl rfl (c_ipsix_ParseChain _ first1 _ _ b2 (hM.inp hr5 Off.nil) _ hx695) fun v w696 hv => ?_
        obtain ⟨A698, c699, css701, Z702, rfl, hN697⟩ := hv
        replace hM := hM.call hN697
        refine RL.val (O.move rfl) rfl ?_
        refine RL.val (O.ext rfl rfl) rfl ?_
        refine RL.val (O.ext rfl rfl) rfl ?_
        refine RL.val (O.ext rfl rfl) rfl ?_
        refine RL.eff (E.alloc hM ze24) rfl fun v w705 hv => ?_
        clear hM
        obtain ⟨g704, rfl, hM, hf⟩ := hv
        refine RL.effs (E.stB (j := 3) (off := 0) (vs := [.slice A698 (y694.1.f_Exts).length c699, .int .u8 y694.1.f_Proto]) (cs' := [.slice A698 (y694.1.f_Exts).length c699, .int .u8 y694.1.f_Proto]) hM rfl sz24 rfl (adds_eq [] rfl) rfl rfl (One.all rfl) rfl rfl) fun w707 hM1 => ?_
        clear hM
        have hM := hM1
        clear hM1
        refine RL.val (O.assign rfl) rfl ?_
        refine RL.val (O.assign rfl) rfl ?_
        refine RL.nil ?_
        refine KQ.then_n ?_
        refine KC.seq ?_
        refine KC.region ?_
        refine RL.val (O.move rfl) rfl ?_
        refine RL.val (O.move rfl) rfl ?_
        refine obindE hF fun y708 hx709 hF => ?_
        refine RL.call Try.func22 bd22 rfl rfl (c_ref06_ParseChain _ first1 _ _ y10 (hM.rd (i := 0) rfl) _ hx709) fun v w710 hv => ?_
        obtain ⟨A712, c713, rfl, hN711⟩ := hv
        replace hM := hM.call hN711
        refine RL.val (O.move rfl) rfl ?_
        refine RL.val (O.ext rfl rfl) rfl ?_
        refine RL.val (O.ext rfl rfl) rfl ?_
        refine RL.val (O.ext rfl rfl) rfl ?_
        refine RL.eff (E.alloc hM ze29) rfl fun v w716 hv => ?_
        clear hM
        obtain ⟨g715, rfl, hM, hf⟩ := hv
        refine RL.effs (E.stB (j := 5) (off := 0) (vs := [.slice A712 (y708.1.f_Exts).length c713, .int .u8 y708.1.f_Proto]) (cs' := [.slice A712 (y708.1.f_Exts).length c713, .int .u8 y708.1.f_Proto]) hM rfl sz29 rfl (adds_eq [] rfl) rfl rfl (One.all rfl) rfl rfl) fun w718 hM1 => ?_
        clear hM
        have hM := hM1
        clear hM1
        refine RL.val (O.assign rfl) rfl ?_
        refine RL.val (O.assign rfl) rfl ?_
        refine RL.nil ?_
        refine KQ.then_n ?_
        refine KC.seq ?_
        refine KC.cut (fun a w740 => ∃ (A733 : Option Addr) (c734 : Nat) (css735 : List (List Value)) (Z736 : List Nat) (cv738 : List T_ipsix_Ext) (t739 : Bool), Kn 135 [(0, .int .u8 first1), (1, .slice A3 (b2).length c4), (5, .slice A14 (y10).length c15), (6, .int .i64 t690), (7, .pointer (some ⟨g704, 0, none⟩)), (61, .bool t739)] a ∧ Mem w [] w740 [.row A14 c15 5 1 (y10).length ((y10).flatMap (eI .u8)), .row A733 c734 63 2 (cv738).length (css735).flatten, .res Z736 (Els RO_ipsix_Ext 2 cv738 css735 Z736), .box g704 24 [.slice A733 (cv738).length c734, .int .u8 y694.1.f_Proto]] ∧ F_law06_IpsixParses_j1 b2 y10 t690 (F_law06_IpsixParses_L1 first1 b2 y10 k693) cv738 t739 = some r) ?_ ?_
        · replace hM := hM.drewN 1
          refine KC.draw [] [] [10, 12] [0, 1, 2, 3, 4, 5, 6, 7, 8, 13, 14] (.ofList [0, 1, 2, 3, 4, 5, 6, 7, 8, 9, 11, 10, 12, 13, 14]) moP (by kernel_rfl) ?_
          refine RD.p rfl rfl rfl rfl (fun w' => O.move rfl) ?_
          refine RD.p rfl rfl rfl rfl (fun w' => O.move rfl) ?_
          refine RD.p rfl rfl rfl rfl (fun w' => O.neq rfl rfl) ?_
          refine RD.p rfl rfl rfl rfl (fun w' => O.move rfl) ?_
          refine RD.bcase (t := 50) rfl (fun hc => ?_) (fun hc => ?_)
          · rw [if_pos hc] at hF
            refine RD.gskip rfl rfl rfl rfl rfl ?_
            refine RD.gskip rfl rfl rfl rfl rfl ?_
            refine RD.gskip rfl rfl rfl rfl rfl ?_
            refine RD.p rfl rfl rfl rfl (fun w' => O.pickt rfl rfl) ?_
            refine RD.p rfl rfl rfl rfl (fun w' => O.move rfl) ?_
            refine RD.gskip rfl rfl rfl rfl rfl ?_
            refine RD.gskip rfl rfl rfl rfl rfl ?_
            refine RD.gskip rfl rfl rfl rfl rfl ?_
            refine RD.gskip rfl rfl rfl rfl rfl ?_
            refine RD.gskip rfl rfl rfl rfl rfl ?_
            refine RD.p rfl rfl rfl rfl (fun w' => O.pickt rfl rfl) ?_
            refine RD.nil ?_
            refine KQ.then_k ?_
            replace hM := hM.pick [0, 1, 2, 3] rfl (by decide)
            exact fun a ha => ⟨A698, c699, css701, Z702, y694.1.f_Exts, true, ha.less (less_cons rfl (less_cons rfl (less_cons rfl (less_cons rfl (less_cons rfl (less_cons rfl less_nil)))))), hM, hF⟩
          · rw [if_neg (ne_true hc)] at hF
            refine RD.gp rfl rfl rfl rfl rfl rfl (fun w' => O.move rfl) ?_
            refine RD.gp rfl rfl rfl rfl rfl rfl (fun w' => O.move rfl) ?_
            refine RD.gp rfl rfl rfl rfl rfl rfl (fun w' => O.neq rfl rfl) ?_
            refine RD.p rfl rfl rfl rfl (fun w' => O.pickf rfl rfl) ?_
            refine RD.p rfl rfl rfl rfl (fun w' => O.move rfl) ?_
            refine RD.bcase (t := 55) rfl (fun hc => ?_) (fun hc => ?_)
            · rw [if_pos hc] at hF
              refine RD.gskip rfl rfl rfl rfl rfl ?_
              refine RD.gskip rfl rfl rfl rfl rfl ?_
              refine RD.gskip rfl rfl rfl rfl rfl ?_
              refine RD.gskip rfl rfl rfl rfl rfl ?_
              refine RD.gskip rfl rfl rfl rfl rfl ?_
              refine RD.p rfl rfl rfl rfl (fun w' => O.pickt rfl rfl) ?_
              refine RD.nil ?_
              refine KQ.then_k ?_
              replace hM := hM.pick [0, 1, 2, 3] rfl (by decide)
              exact fun a ha => ⟨A698, c699, css701, Z702, y694.1.f_Exts, true, ha.less (less_cons rfl (less_cons rfl (less_cons rfl (less_cons rfl (less_cons rfl (less_cons rfl less_nil)))))), hM, hF⟩
            · rw [if_neg (ne_true hc)] at hF
              refine RD.gq rfl rfl rfl rfl rfl rfl (fun w' hf => O.loadN (cs := [.slice A698 (y694.1.f_Exts).length c699, .int .u8 y694.1.f_Proto]) ag24 rfl (Cs.addsN [] ((hM.bx (i := 3) rfl).fut hf) rfl)) ?_
              refine RD.gq rfl rfl rfl rfl rfl rfl (fun w' hf => O.loadN (cs := [.slice A712 (y708.1.f_Exts).length c713, .int .u8 y708.1.f_Proto]) ag29 rfl (Cs.addsN [] ((hM.bx (i := 5) rfl).fut hf) rfl)) ?_
              refine obindE hF fun y719 hx720 hF => ?_
              refine RD.mcall rfl rfl ⟨rfl, rfl⟩ Try.func10 bd10 rfl rfl (c_docs_Chain _ y694.1 _ _ (hM.rdD (i := 1) (j := 2) uo_ipsix_Ext rfl rfl) _ hx720) fun v w721 hv => ?_
              obtain ⟨A723, c724, rfl, hN722⟩ := hv
              refine ⟨fun _ => hN722.fut, ?_⟩
              replace hM := hM.call hN722
              refine obindE hF fun y726 hx727 hF => ?_
              refine RD.mcall rfl rfl ⟨rfl, rfl⟩ Try.func19 bd19 rfl rfl (c_ref06_Same _ y719 _ _ (hM.rd (i := 6) rfl) y708.1 _ _ (hM.rd (i := 4) rfl) _ hx727) fun v w728 hv => ?_
              obtain ⟨rfl, hN729⟩ := hv
              refine ⟨fun _ => hN729.fut, ?_⟩
              replace hM := hM.call0 hN729
              refine RD.gp rfl rfl rfl rfl rfl rfl (fun w' => O.not rfl) ?_
              refine RD.p rfl rfl rfl rfl (fun w' => O.pickf rfl rfl) ?_
              refine RD.nil ?_
              refine KQ.then_k ?_
              replace hM := hM.pick [0, 1, 2, 3] rfl (by decide)
              exact fun a ha => ⟨A698, c699, css701, Z702, y694.1.f_Exts, (!y726), ha.less (less_cons rfl (less_cons rfl (less_cons rfl (less_cons rfl (less_cons rfl (less_cons rfl less_nil)))))), hM, hF⟩
        · rintro a w740 ⟨A733, c734, css735, Z736, cv738, t739, ha, hM, hF⟩
          refine KC.app ha ?_
          clear ha
          unfold F_law06_IpsixParses_j1 at hF
          refine KC.cond rfl (fun hc => ?_) (fun hc => ?_)
          · rw [if_pos hc] at hF
            refine KC.seq ?_
            refine KC.region ?_
            refine RL.val (O.assign rfl) rfl ?_
            refine RL.nil ?_
            refine KQ.then_n ?_
            refine KC.ret ?_
            refine KQ.then_r ?_
            refine KQ.blk_r ?_
            refine KQ.then_r ?_
            refine KQ.then_r ?_
            refine KQ.blk_r ?_
            refine KQ.then_r ?_
            obtain rfl := Option.some.inj hF
            replace hM := hM.pick [] rfl (by decide)
            refine KQ.rets Try.results4 (RVs.cons (RV.tm rfl) RVs.nil) ?_
            exact ⟨_, rfl, rfl, hM⟩
          · rw [if_neg (ne_true hc)] at hF
            refine KC.skip ?_
            refine KQ.then_n ?_
            refine KC.seq ?_
            refine KC.region ?_
            refine RL.val (O.move rfl) rfl ?_
            refine obindE hF fun y741 hx742 hF => ?_
            refine RL.call Try.func23 bd23 rfl rfl (c_ipsix_Body _ _ _ b2 (hM.inp hr5 Off.nil) _ hx742) fun v w743 hv => ?_
            obtain ⟨A745, c746, css748, Z749, A751, c752, rfl, hN744⟩ := hv
            replace hM := hM.call hN744
            refine RL.val (O.move rfl) rfl ?_
            refine RL.val (O.ext rfl rfl) rfl ?_
            refine RL.val (O.ext rfl rfl) rfl ?_
            refine RL.val (O.ext rfl rfl) rfl ?_
            refine RL.val (O.ext rfl rfl) rfl ?_
            refine RL.eff (E.alloc hM ze52) rfl fun v w755 hv => ?_
            clear hM
            obtain ⟨g754, rfl, hM, hf⟩ := hv
            refine RL.eff (E.alloc hM ze24) rfl fun v w758 hv => ?_
            clear hM
            obtain ⟨g757, rfl, hM, hf⟩ := hv
            refine RL.effs (E.stB (j := 7) (off := 0) (vs := [.int .u8 y741.1.f_Class, .int .u32 y741.1.f_Flow, .int .u16 y741.1.f_Length, .int .u8 y741.1.f_Next, .int .u8 y741.1.f_Hops, .int .u8 (List.getD y741.1.f_Src 0 0), .int .u8 (List.getD y741.1.f_Src 1 0), .int .u8 (List.getD y741.1.f_Src 2 0), .int .u8 (List.getD y741.1.f_Src 3 0), .int .u8 (List.getD y741.1.f_Src 4 0), .int .u8 (List.getD y741.1.f_Src 5 0), .int .u8 (List.getD y741.1.f_Src 6 0), .int .u8 (List.getD y741.1.f_Src 7 0), .int .u8 (List.getD y741.1.f_Src 8 0), .int .u8 (List.getD y741.1.f_Src 9 0), .int .u8 (List.getD y741.1.f_Src 10 0), .int .u8 (List.getD y741.1.f_Src 11 0), .int .u8 (List.getD y741.1.f_Src 12 0), .int .u8 (List.getD y741.1.f_Src 13 0), .int .u8 (List.getD y741.1.f_Src 14 0), .int .u8 (List.getD y741.1.f_Src 15 0), .int .u8 (List.getD y741.1.f_Dst 0 0), .int .u8 (List.getD y741.1.f_Dst 1 0), .int .u8 (List.getD y741.1.f_Dst 2 0), .int .u8 (List.getD y741.1.f_Dst 3 0), .int .u8 (List.getD y741.1.f_Dst 4 0), .int .u8 (List.getD y741.1.f_Dst 5 0), .int .u8 (List.getD y741.1.f_Dst 6 0), .int .u8 (List.getD y741.1.f_Dst 7 0), .int .u8 (List.getD y741.1.f_Dst 8 0), .int .u8 (List.getD y741.1.f_Dst 9 0), .int .u8 (List.getD y741.1.f_Dst 10 0), .int .u8 (List.getD y741.1.f_Dst 11 0), .int .u8 (List.getD y741.1.f_Dst 12 0), .int .u8 (List.getD y741.1.f_Dst 13 0), .int .u8 (List.getD y741.1.f_Dst 14 0), .int .u8 (List.getD y741.1.f_Dst 15 0)]) (cs' := [.int .u8 y741.1.f_Class, .int .u32 y741.1.f_Flow, .int .u16 y741.1.f_Length, .int .u8 y741.1.f_Next, .int .u8 y741.1.f_Hops, .int .u8 (List.getD y741.1.f_Src 0 0), .int .u8 (List.getD y741.1.f_Src 1 0), .int .u8 (List.getD y741.1.f_Src 2 0), .int .u8 (List.getD y741.1.f_Src 3 0), .int .u8 (List.getD y741.1.f_Src 4 0), .int .u8 (List.getD y741.1.f_Src 5 0), .int .u8 (List.getD y741.1.f_Src 6 0), .int .u8 (List.getD y741.1.f_Src 7 0), .int .u8 (List.getD y741.1.f_Src 8 0), .int .u8 (List.getD y741.1.f_Src 9 0), .int .u8 (List.getD y741.1.f_Src 10 0), .int .u8 (List.getD y741.1.f_Src 11 0), .int .u8 (List.getD y741.1.f_Src 12 0), .int .u8 (List.getD y741.1.f_Src 13 0), .int .u8 (List.getD y741.1.f_Src 14 0), .int .u8 (List.getD y741.1.f_Src 15 0), .int .u8 (List.getD y741.1.f_Dst 0 0), .int .u8 (List.getD y741.1.f_Dst 1 0), .int .u8 (List.getD y741.1.f_Dst 2 0), .int .u8 (List.getD y741.1.f_Dst 3 0), .int .u8 (List.getD y741.1.f_Dst 4 0), .int .u8 (List.getD y741.1.f_Dst 5 0), .int .u8 (List.getD y741.1.f_Dst 6 0), .int .u8 (List.getD y741.1.f_Dst 7 0), .int .u8 (List.getD y741.1.f_Dst 8 0), .int .u8 (List.getD y741.1.f_Dst 9 0), .int .u8 (List.getD y741.1.f_Dst 10 0), .int .u8 (List.getD y741.1.f_Dst 11 0), .int .u8 (List.getD y741.1.f_Dst 12 0), .int .u8 (List.getD y741.1.f_Dst 13 0), .int .u8 (List.getD y741.1.f_Dst 14 0), .int .u8 (List.getD y741.1.f_Dst 15 0)]) hM rfl sz52 rfl (adds_eq [] rfl) rfl rfl (One.all rfl) rfl rfl) fun w760 hM1 => ?_
            clear hM
            have hM := hM1
            clear hM1
            refine RL.effs (E.stB (j := 8) (off := 0) (vs := [.slice A745 (y741.2.1.f_Exts).length c746, .int .u8 y741.2.1.f_Proto]) (cs' := [.slice A745 (y741.2.1.f_Exts).length c746, .int .u8 y741.2.1.f_Proto]) hM rfl sz24 rfl (adds_eq [] rfl) rfl rfl (One.all rfl) rfl rfl) fun w761 hM1 => ?_
            clear hM
            have hM := hM1
            clear hM1
            refine RL.val (O.assign rfl) rfl ?_
            refine RL.val (O.assign rfl) rfl ?_
            refine RL.nil ?_
            refine KQ.then_n ?_
            refine KC.seq ?_
            refine KC.region ?_
            refine RL.val (O.move rfl) rfl ?_
            refine obindE hF fun y762 hx763 hF => ?_
            refine RL.call Try.func24 bd24 rfl rfl (c_ref06_Body _ _ _ y10 (hM.rd (i := 0) rfl) _ hx763) fun v w764 hv => ?_
            obtain ⟨A766, c767, A769, c770, rfl, ha771, hN765⟩ := hv
            replace hM := hM.call hN765
            have hr772 := ha771 _ (hM.rd (i := 0) rfl)
            refine RL.val (O.move rfl) rfl ?_
            refine RL.val (O.ext rfl rfl) rfl ?_
            refine RL.val (O.ext rfl rfl) rfl ?_
            refine RL.val (O.ext rfl rfl) rfl ?_
            refine RL.val (O.ext rfl rfl) rfl ?_
            refine RL.eff (E.alloc hM ze56) rfl fun v w774 hv => ?_
            clear hM
            obtain ⟨g773, rfl, hM, hf⟩ := hv
            have hr772 := hr772.fut hf
            refine RL.eff (E.alloc hM ze29) rfl fun v w777 hv => ?_
            clear hM
            obtain ⟨g776, rfl, hM, hf⟩ := hv
            have hr772 := hr772.fut hf
            refine RL.effs (E.stB (j := 10) (off := 0) (vs := [.int .u8 y762.1.f_Class, .int .u32 y762.1.f_Flow, .int .u16 y762.1.f_Length, .int .u8 y762.1.f_Next, .int .u8 y762.1.f_Hops, .string y762.1.f_Src, .string y762.1.f_Dst]) (cs' := [.int .u8 y762.1.f_Class, .int .u32 y762.1.f_Flow, .int .u16 y762.1.f_Length, .int .u8 y762.1.f_Next, .int .u8 y762.1.f_Hops, .string y762.1.f_Src, .string y762.1.f_Dst]) hM rfl sz56 rfl (adds_eq [] rfl) rfl rfl (One.all rfl) rfl rfl) fun w779 hM1 => ?_
            clear hM
            have hM := hM1
            clear hM1
            have hr772 := ha771 _ (hM.rd (i := 0) rfl)
            refine RL.effs (E.stB (j := 11) (off := 0) (vs := [.slice A766 (y762.2.1.f_Exts).length c767, .int .u8 y762.2.1.f_Proto]) (cs' := [.slice A766 (y762.2.1.f_Exts).length c767, .int .u8 y762.2.1.f_Proto]) hM rfl sz29 rfl (adds_eq [] rfl) rfl rfl (One.all rfl) rfl rfl) fun w780 hM1 => ?_
            clear hM
            have hM := hM1
            clear hM1
            have hr772 := ha771 _ (hM.rd (i := 0) rfl)
            refine RL.val (O.assign rfl) rfl ?_
            refine RL.val (O.assign rfl) rfl ?_
            refine RL.nil ?_
            refine KQ.then_n ?_
            refine KC.seq ?_
            refine KC.cut (fun a w823 => ∃ (A807 : Option Addr) (c808 : Nat) (css809 : List (List Value)) (Z810 : List Nat) (A815 : Option Addr) (c816 : Nat) (css817 : List (List Value)) (Z818 : List Nat) (cv812 : List T_ipsix_Ext) (xv820 : List T_ipsix_Ext) (t822 : Bool), Kn 135 [(0, .int .u8 first1), (1, .slice A3 (b2).length c4), (5, .slice A14 (y10).length c15), (6, .int .i64 t690), (7, .pointer (some ⟨g704, 0, none⟩)), (14, .pointer (some ⟨g757, 0, none⟩)), (15, .slice A751 (y741.2.2.1).length c752), (98, .bool t822)] a ∧ Mem w [] w823 [.row A14 c15 5 1 (y10).length ((y10).flatMap (eI .u8)), .row A807 c808 63 2 (cv812).length (css809).flatten, .res Z810 (Els RO_ipsix_Ext 2 cv812 css809 Z810), .box g704 24 [.slice A807 (cv812).length c808, .int .u8 y694.1.f_Proto], .row A815 c816 63 2 (xv820).length (css817).flatten, .res Z818 (Els RO_ipsix_Ext 2 xv820 css817 Z818), .box g757 24 [.slice A815 (xv820).length c816, .int .u8 y741.2.1.f_Proto], .row A751 c752 5 1 (y741.2.2.1).length ((y741.2.2.1).flatMap (eI .u8))] ∧ F_law06_IpsixParses_j2 t690 (F_law06_IpsixParses_L1 first1 b2 y10 k693) y741 cv812 xv820 t822 = some r) ?_ ?_
            · replace hM := hM.drewN 1
              have hr772 := hr772.fut (fut_drewN _ 1)
              refine KC.draw [] [] [5, 7, 12, 14, 20] [0, 1, 2, 3, 8, 9, 10, 15, 16, 17, 18, 19, 21, 22] (.ofList [0, 1, 2, 3, 4, 6, 5, 7, 8, 9, 10, 11, 13, 12, 14, 15, 16, 17, 18, 19, 20, 21, 22]) moP (by kernel_rfl) ?_
              refine RD.p rfl rfl rfl rfl (fun w' => O.move rfl) ?_
              refine RD.p rfl rfl rfl rfl (fun w' => O.move rfl) ?_
              refine RD.p rfl rfl rfl rfl (fun w' => O.neq rfl rfl) ?_
              refine RD.p rfl rfl rfl rfl (fun w' => O.move rfl) ?_
              refine RD.bcase (t := 79) rfl (fun hc => ?_) (fun hc => ?_)
              · rw [if_pos hc] at hF
                refine RD.gskip rfl rfl rfl rfl rfl ?_
                refine RD.gskip rfl rfl rfl rfl rfl ?_
                refine RD.gskip rfl rfl rfl rfl rfl ?_
                refine RD.gskip rfl rfl rfl rfl rfl ?_
                refine RD.gskip rfl rfl rfl rfl rfl ?_
                refine RD.p rfl rfl rfl rfl (fun w' => O.pickt rfl rfl) ?_
                refine RD.p rfl rfl rfl rfl (fun w' => O.move rfl) ?_
                refine RD.gskip rfl rfl rfl rfl rfl ?_
                refine RD.gskip rfl rfl rfl rfl rfl ?_
                refine RD.gskip rfl rfl rfl rfl rfl ?_
                refine RD.gskip rfl rfl rfl rfl rfl ?_
                refine RD.gskip rfl rfl rfl rfl rfl ?_
                refine RD.p rfl rfl rfl rfl (fun w' => O.pickt rfl rfl) ?_
                refine RD.p rfl rfl rfl rfl (fun w' => O.move rfl) ?_
                refine RD.gskip rfl rfl rfl rfl rfl ?_
                refine RD.gskip rfl rfl rfl rfl rfl ?_
                refine RD.gskip rfl rfl rfl rfl rfl ?_
                refine RD.gskip rfl rfl rfl rfl rfl ?_
                refine RD.p rfl rfl rfl rfl (fun w' => O.pickt rfl rfl) ?_
                refine RD.nil ?_
                refine KQ.then_k ?_
                replace hM := hM.pick [0, 1, 2, 3, 4, 5, 8, 6] rfl (by decide)
                exact fun a ha => ⟨A733, c734, css735, Z736, A745, c746, css748, Z749, cv738, y741.2.1.f_Exts, true, ha.less (less_cons rfl (less_cons rfl (less_cons rfl (less_cons rfl (less_cons rfl (less_cons rfl (less_cons rfl (less_cons rfl less_nil)))))))), hM, hF⟩
              · rw [if_neg (ne_true hc)] at hF
                refine RD.gq rfl rfl rfl rfl rfl rfl (fun w' hf => O.loadN (cs := [.int .u8 y741.1.f_Class, .int .u32 y741.1.f_Flow, .int .u16 y741.1.f_Length, .int .u8 y741.1.f_Next, .int .u8 y741.1.f_Hops, .int .u8 (List.getD y741.1.f_Src 0 0), .int .u8 (List.getD y741.1.f_Src 1 0), .int .u8 (List.getD y741.1.f_Src 2 0), .int .u8 (List.getD y741.1.f_Src 3 0), .int .u8 (List.getD y741.1.f_Src 4 0), .int .u8 (List.getD y741.1.f_Src 5 0), .int .u8 (List.getD y741.1.f_Src 6 0), .int .u8 (List.getD y741.1.f_Src 7 0), .int .u8 (List.getD y741.1.f_Src 8 0), .int .u8 (List.getD y741.1.f_Src 9 0), .int .u8 (List.getD y741.1.f_Src 10 0), .int .u8 (List.getD y741.1.f_Src 11 0), .int .u8 (List.getD y741.1.f_Src 12 0), .int .u8 (List.getD y741.1.f_Src 13 0), .int .u8 (List.getD y741.1.f_Src 14 0), .int .u8 (List.getD y741.1.f_Src 15 0), .int .u8 (List.getD y741.1.f_Dst 0 0), .int .u8 (List.getD y741.1.f_Dst 1 0), .int .u8 (List.getD y741.1.f_Dst 2 0), .int .u8 (List.getD y741.1.f_Dst 3 0), .int .u8 (List.getD y741.1.f_Dst 4 0), .int .u8 (List.getD y741.1.f_Dst 5 0), .int .u8 (List.getD y741.1.f_Dst 6 0), .int .u8 (List.getD y741.1.f_Dst 7 0), .int .u8 (List.getD y741.1.f_Dst 8 0), .int .u8 (List.getD y741.1.f_Dst 9 0), .int .u8 (List.getD y741.1.f_Dst 10 0), .int .u8 (List.getD y741.1.f_Dst 11 0), .int .u8 (List.getD y741.1.f_Dst 12 0), .int .u8 (List.getD y741.1.f_Dst 13 0), .int .u8 (List.getD y741.1.f_Dst 14 0), .int .u8 (List.getD y741.1.f_Dst 15 0)]) ag52 rfl (Cs.addsN [] ((hM.bx (i := 7) rfl).fut hf) rfl)) ?_
                refine RD.gq rfl rfl rfl rfl rfl rfl (fun w' hf => O.loadN (cs := [.int .u8 y762.1.f_Class, .int .u32 y762.1.f_Flow, .int .u16 y762.1.f_Length, .int .u8 y762.1.f_Next, .int .u8 y762.1.f_Hops, .string y762.1.f_Src, .string y762.1.f_Dst]) ag56 rfl (Cs.addsN [] ((hM.bx (i := 10) rfl).fut hf) rfl)) ?_
                refine obindE hF fun y781 hx782 hF => ?_
                refine RD.mcall rfl rfl ⟨rfl, rfl⟩ Try.func25 bd25 rfl rfl (c_docs_Ipsix _ y741.1 _ hx782) fun v w783 hv => ?_
                obtain ⟨rfl, hN784⟩ := hv
                refine ⟨fun _ => hN784.fut, ?_⟩
                have hr772 := hr772.fut hN784.fut
                replace hM := hM.call0 hN784
                refine obindE hF fun y785 hx786 hF => ?_
                refine RD.mcall rfl rfl ⟨rfl, rfl⟩ Try.func26 bd26 rfl rfl (c_docs_NoIpsix _ y762.1 _ hx786) fun v w787 hv => ?_
                obtain ⟨rfl, hN788⟩ := hv
                refine ⟨fun _ => hN788.fut, ?_⟩
                have hr772 := hr772.fut hN788.fut
                replace hM := hM.call0 hN788
                refine RD.gp rfl rfl rfl rfl rfl rfl (fun w' => O.stne (cs := [.int .u8 y781.f_Class, .int .u32 y781.f_Flow, .int .u16 y781.f_Length, .int .u8 y781.f_Next, .int .u8 y781.f_Hops, .string y781.f_Src, .string y781.f_Dst]) (cs' := [.int .u8 y785.f_Class, .int .u32 y785.f_Flow, .int .u16 y785.f_Length, .int .u8 y785.f_Next, .int .u8 y785.f_Hops, .string y785.f_Src, .string y785.f_Dst]) (by kernel_rfl) rfl rfl (Q56t y781 y785 _ rfl rfl)) ?_
                refine RD.p rfl rfl rfl rfl (fun w' => O.pickf rfl rfl) ?_
                refine RD.p rfl rfl rfl rfl (fun w' => O.move rfl) ?_
                refine RD.bcase (t := 86) rfl (fun hc => ?_) (fun hc => ?_)
                · rw [if_pos hc] at hF
                  refine RD.gskip rfl rfl rfl rfl rfl ?_
                  refine RD.gskip rfl rfl rfl rfl rfl ?_
                  refine RD.gskip rfl rfl rfl rfl rfl ?_
                  refine RD.gskip rfl rfl rfl rfl rfl ?_
                  refine RD.gskip rfl rfl rfl rfl rfl ?_
                  refine RD.p rfl rfl rfl rfl (fun w' => O.pickt rfl rfl) ?_
                  refine RD.p rfl rfl rfl rfl (fun w' => O.move rfl) ?_
                  refine RD.gskip rfl rfl rfl rfl rfl ?_
                  refine RD.gskip rfl rfl rfl rfl rfl ?_
                  refine RD.gskip rfl rfl rfl rfl rfl ?_
                  refine RD.gskip rfl rfl rfl rfl rfl ?_
                  refine RD.p rfl rfl rfl rfl (fun w' => O.pickt rfl rfl) ?_
                  refine RD.nil ?_
                  refine KQ.then_k ?_
                  replace hM := hM.pick [0, 1, 2, 3, 4, 5, 8, 6] rfl (by decide)
                  exact fun a ha => ⟨A733, c734, css735, Z736, A745, c746, css748, Z749, cv738, y741.2.1.f_Exts, true, ha.less (less_cons rfl (less_cons rfl (less_cons rfl (less_cons rfl (less_cons rfl (less_cons rfl (less_cons rfl (less_cons rfl less_nil)))))))), hM, hF⟩
                · rw [if_neg (ne_true hc)] at hF
                  refine RD.gq rfl rfl rfl rfl rfl rfl (fun w' hf => O.loadN (cs := [.slice A745 (y741.2.1.f_Exts).length c746, .int .u8 y741.2.1.f_Proto]) ag24 rfl (Cs.addsN [] ((hM.bx (i := 8) rfl).fut hf) rfl)) ?_
                  refine RD.gq rfl rfl rfl rfl rfl rfl (fun w' hf => O.loadN (cs := [.slice A766 (y762.2.1.f_Exts).length c767, .int .u8 y762.2.1.f_Proto]) ag29 rfl (Cs.addsN [] ((hM.bx (i := 11) rfl).fut hf) rfl)) ?_
                  refine obindE hF fun y789 hx790 hF => ?_
                  refine RD.mcall rfl rfl ⟨rfl, rfl⟩ Try.func10 bd10 rfl rfl (c_docs_Chain _ y741.2.1 _ _ (hM.rdD (i := 4) (j := 5) uo_ipsix_Ext rfl rfl) _ hx790) fun v w791 hv => ?_
                  obtain ⟨A793, c794, rfl, hN792⟩ := hv
                  refine ⟨fun _ => hN792.fut, ?_⟩
                  have hr772 := hr772.fut hN792.fut
                  replace hM := hM.call hN792
                  refine obindE hF fun y796 hx797 hF => ?_
                  refine RD.mcall rfl rfl ⟨rfl, rfl⟩ Try.func19 bd19 rfl rfl (c_ref06_Same _ y789 _ _ (hM.rd (i := 12) rfl) y762.2.1 _ _ (hM.rd (i := 9) rfl) _ hx797) fun v w798 hv => ?_
                  obtain ⟨rfl, hN799⟩ := hv
                  refine ⟨fun _ => hN799.fut, ?_⟩
                  have hr772 := hr772.fut hN799.fut
                  replace hM := hM.call0 hN799
                  refine RD.gp rfl rfl rfl rfl rfl rfl (fun w' => O.not rfl) ?_
                  refine RD.p rfl rfl rfl rfl (fun w' => O.pickf rfl rfl) ?_
                  refine RD.p rfl rfl rfl rfl (fun w' => O.move rfl) ?_
                  refine RD.bcase (t := 93) rfl (fun hc => ?_) (fun hc => ?_)
                  · rw [if_pos hc] at hF
                    refine RD.gskip rfl rfl rfl rfl rfl ?_
                    refine RD.gskip rfl rfl rfl rfl rfl ?_
                    refine RD.gskip rfl rfl rfl rfl rfl ?_
                    refine RD.gskip rfl rfl rfl rfl rfl ?_
                    refine RD.p rfl rfl rfl rfl (fun w' => O.pickt rfl rfl) ?_
                    refine RD.nil ?_
                    refine KQ.then_k ?_
                    replace hM := hM.pick [0, 1, 2, 3, 4, 5, 8, 6] rfl (by decide)
                    exact fun a ha => ⟨A733, c734, css735, Z736, A745, c746, css748, Z749, cv738, y741.2.1.f_Exts, true, ha.less (less_cons rfl (less_cons rfl (less_cons rfl (less_cons rfl (less_cons rfl (less_cons rfl (less_cons rfl (less_cons rfl less_nil)))))))), hM, hF⟩
                  · rw [if_neg (ne_true hc)] at hF
                    refine RD.gp rfl rfl rfl rfl rfl rfl (fun w' => O.move rfl) ?_
                    refine RD.gp rfl rfl rfl rfl rfl rfl (fun w' => O.move rfl) ?_
                    refine obindE hF fun y800 hx801 hF => ?_
                    refine RD.mcall rfl rfl ⟨rfl, rfl⟩ Try.func15 bd15 rfl rfl (c_kit_SameBytes _ _ _ y741.2.2.1 (hM.rd (i := 6) rfl) _ _ y762.2.2.1 hr772 _ hx801) fun v w802 hv => ?_
                    obtain ⟨rfl, hN803⟩ := hv
                    refine ⟨fun _ => hN803.fut, ?_⟩
                    have hr772 := hr772.fut hN803.fut
                    replace hM := hM.call0 hN803
                    refine RD.gp rfl rfl rfl rfl rfl rfl (fun w' => O.not rfl) ?_
                    refine RD.p rfl rfl rfl rfl (fun w' => O.pickf rfl rfl) ?_
                    refine RD.nil ?_
                    refine KQ.then_k ?_
                    replace hM := hM.pick [0, 1, 2, 3, 4, 5, 8, 6] rfl (by decide)
                    exact fun a ha => ⟨A733, c734, css735, Z736, A745, c746, css748, Z749, cv738, y741.2.1.f_Exts, (!y800), ha.less (less_cons rfl (less_cons rfl (less_cons rfl (less_cons rfl (less_cons rfl (less_cons rfl (less_cons rfl (less_cons rfl less_nil)))))))), hM, hF⟩
            · rintro a w823 ⟨A807, c808, css809, Z810, A815, c816, css817, Z818, cv812, xv820, t822, ha, hM, hF⟩
              refine KC.app ha ?_
              clear ha
              unfold F_law06_IpsixParses_j2 at hF
              refine KC.cond rfl (fun hc => ?_) (fun hc => ?_)
              · rw [if_pos hc] at hF
                refine KC.seq ?_
                refine KC.region ?_
                refine RL.val (O.assign rfl) rfl ?_
                refine RL.nil ?_
                refine KQ.then_n ?_
                refine KC.ret ?_
                refine KQ.then_r ?_
                refine KQ.blk_r ?_
                refine KQ.then_r ?_
                refine KQ.then_r ?_
                refine KQ.blk_r ?_
                refine KQ.then_r ?_
                obtain rfl := Option.some.inj hF
                replace hM := hM.pick [] rfl (by decide)
                refine KQ.rets Try.results4 (RVs.cons (RV.tm rfl) RVs.nil) ?_
                exact ⟨_, rfl, rfl, hM⟩
              · rw [if_neg (ne_true hc)] at hF
                refine KC.skip ?_
                refine KQ.then_n ?_
                refine KC.seq ?_
                refine KC.region ?_
                refine RL.val (O.move rfl) rfl ?_
                refine obindE hF fun y824 hx825 hF => ?_
                refine RL.call Try.func27 bd27 rfl rfl (c_kit_Spoil _ _ _ y741.2.2.1 (hM.lent [7] rfl (by decide)) _ hx825) fun v w826 hv => ?_
                obtain ⟨rfl, hw828, hN827⟩ := hv
                replace hM := hM.callL [7] [0, 1, 2, 3, 4, 5, 6] rfl rfl (by decide) rfl hN827
                refine RL.reslot (t := 15) rfl hw828 ?_
                refine RL.reslot (t := 99) rfl hw828 ?_
                refine RL.nil ?_
                refine KQ.then_n ?_
                refine KC.seq ?_
                refine KC.seq ?_
                refine KC.region ?_
                refine RL.val (O.assign rfl) rfl ?_
                refine RL.nil ?_
                refine KQ.then_n ?_
                refine KC.block ?_
                refine KC.loop (fun k913 a w911 => ∃ (A896 : Option Addr) (c897 : Nat) (css898 : List (List Value)) (Z899 : List Nat) (A904 : Option Addr) (c905 : Nat) (css906 : List (List Value)) (Z907 : List Nat) (cv901 : List T_ipsix_Ext) (xv909 : List T_ipsix_Ext) (j910 : Int), Kn 135 [(0, .int .u8 first1), (1, .slice A3 (b2).length c4), (5, .slice A14 (y10).length c15), (6, .int .i64 t690), (7, .pointer (some ⟨g704, 0, none⟩)), (14, .pointer (some ⟨g757, 0, none⟩)), (21, .int .i64 j910)] a ∧ Mem w [] w911 [.row A14 c15 5 1 (y10).length ((y10).flatMap (eI .u8)), .row A896 c897 63 2 (cv901).length (css898).flatten, .res Z899 (Els RO_ipsix_Ext 2 cv901 css898 Z899), .box g704 24 [.slice A896 (cv901).length c897, .int .u8 y694.1.f_Proto], .row A904 c905 63 2 (xv909).length (css906).flatten, .res Z907 (Els RO_ipsix_Ext 2 xv909 css906 Z907), .box g757 24 [.slice A904 (xv909).length c905, .int .u8 y741.2.1.f_Proto]] ∧ F_law06_IpsixParses_L2 t690 (F_law06_IpsixParses_L1 first1 b2 y10 k693) k913 cv901 xv909 j910 = some r) ?_ ?_
                · replace hM := hM.pick [0, 1, 2, 3, 4, 5, 6] rfl (by decide)
                  exact fun a ha => ⟨fuel0, A807, c808, css809, Z810, A815, c816, css817, Z818, cv812, xv820, 0, ha.less (less_cons rfl (less_cons rfl (less_cons rfl (less_cons rfl (less_cons rfl (less_cons rfl (less_cons rfl less_nil))))))), hM, hF⟩
                · rintro k913 a w911 ⟨A896, c897, css898, Z899, A904, c905, css906, Z907, cv901, xv909, j910, ha, hM, hF⟩
                  refine KC.app ha ?_
                  clear ha
                  cases k913 with
                  | zero => exact (none_some hF).elim
                  | succ k913 =>
                  have hF : F_law06_IpsixParses_l2 (F_law06_IpsixParses_L2 t690 (F_law06_IpsixParses_L1 first1 b2 y10 k693) k913) t690 (F_law06_IpsixParses_L1 first1 b2 y10 k693) cv901 xv909 j910 = some r := hF
                  unfold F_law06_IpsixParses_l2 at hF
                  refine KC.seq ?_
                  refine KC.seq ?_
                  refine KC.region ?_
                  refine RL.val (O.move rfl) rfl ?_
                  refine RL.val (O.fldA fl24_0 (by decide) rfl) rfl ?_
                  refine RL.val (O.load sc22 rfl (Cs.adds [0] ((hM.bx (i := 3) rfl)) rfl)) rfl ?_
                  refine RL.val (O.len sl22 rfl) rfl ?_
                  refine RL.val (O.lss rfl rfl) rfl ?_
                  refine RL.nil ?_
                  refine KQ.then_n ?_
                  refine KC.cond rfl (fun hc => ?_) (fun hc => ?_)
                  · rw [if_pos hc] at hF
                    refine KC.skip ?_
                    refine KQ.then_n ?_
                    refine KC.seq ?_
                    refine KC.block ?_
                    refine KC.region ?_
                    refine RL.val (O.fldA fl24_0 (by decide) rfl) rfl ?_
                    refine RL.val (O.load sc22 rfl (Cs.adds [0] ((hM.bx (i := 3) rfl)) rfl)) rfl ?_
                    refine RL.val (O.move rfl) rfl ?_
                    refine obindE hF fun xv916 hx918 hF => ?_
                    obtain ⟨cs921, hA917, hC920, hR919⟩ := hM.atD (i := 1) (j := 2) uo_ipsix_Ext rfl rfl hx918
                    obtain ⟨A922, c923, rfl, hr924, ho925⟩ := hR919
                    refine RL.val (O.idxA sl22 (hA917) rfl rfl) rfl ?_
                    refine RL.val (O.fldA fl63_1 (by decide) rfl) rfl ?_
                    refine RL.val (O.load sc31 rfl (Cs.adds [1] (hA917).cells rfl)) rfl ?_
                    obtain ⟨Z926, hM⟩ := hM.openE (p := j910) [0, 1, 3, 4, 5, 6] rfl (by decide) rfl (j := 2) rfl hC920 hx918 (fun o h => io_ipsix_Ext h)
                    refine obindE hF fun y929 hx930 hF => ?_
                    refine RL.call Try.func27 bd27 rfl rfl (c_kit_Spoil _ _ _ xv916.f_Data (hM.lent [7] rfl (by decide)) _ hx930) fun v w931 hv => ?_
                    obtain ⟨rfl, hw933, hN932⟩ := hv
                    replace hM := hM.callL [7] [0, 1, 2, 3, 4, 5, 6] rfl rfl (by decide) rfl hN932
                    obtain ⟨Z934, hM⟩ := hM.closeE (u' := (T_ipsix_Ext.mk xv916.f_Kind y929)) [6, 7] [0, 1, 2, 3, 4, 5] rfl (by decide) rfl (by decide) rfl hC920 ⟨A922, c923, (by first | (rw [hw933]; done) | (rw [hw933]; rfl)), rfl⟩
                    have hq936 : (cv901).length = ((cv901.set (j910 : Int).toNat (T_ipsix_Ext.mk xv916.f_Kind y929))).length := (List.length_set ..).symm
                    replace hM := hM.rerow (i := 1) rfl hq936
                    refine RL.reslot (t := 103) rfl hq936 ?_
                    refine RL.reslot (t := 109) rfl hq936 ?_
                    replace hM := hM.rebox (i := 2) (cs' := [.slice A896 ((cv901.set (j910 : Int).toNat (T_ipsix_Ext.mk xv916.f_Kind y929))).length c897, .int .u8 y694.1.f_Proto]) rfl (by rw [← hq936])
                    refine RL.nil ?_
                    refine KQ.blk_n ?_
                    refine KQ.then_n ?_
                    refine KC.region ?_
                    refine RL.val (O.move rfl) rfl ?_
                    refine RL.val (O.add rfl rfl) rfl ?_
                    refine RL.val (O.assign rfl) rfl ?_
                    refine RL.nil ?_
                    refine KQ.then_k ?_
                    replace hM := hM.pick [0, 1, 6, 2, 3, 4, 5] rfl (by decide)
                    exact fun a ha => ⟨k913, Nat.lt_succ_self k913, A896, c897, css898, Z934, A904, c905, css906, Z907, (cv901.set (j910 : Int).toNat (T_ipsix_Ext.mk xv916.f_Kind y929)), xv909, (IntKind.i64.wrap (j910 + 1)), ha.less (less_cons rfl (less_cons rfl (less_cons rfl (less_cons rfl (less_cons rfl (less_cons rfl (less_cons rfl less_nil))))))), hM, hF⟩
                  · rw [if_neg (ne_true hc)] at hF
                    refine KC.exit ?_
                    refine KQ.then_x ?_
                    refine KQ.then_x ?_
                    refine KQ.blk_x ?_
                    refine KQ.then_n ?_
                    refine KC.seq ?_
                    refine KC.region ?_
                    refine RL.val (O.assign rfl) rfl ?_
                    refine RL.nil ?_
                    refine KQ.then_n ?_
                    refine KC.block ?_
                    refine KC.loop (fun k1005 a w1003 => ∃ (A996 : Option Addr) (c997 : Nat) (css998 : List (List Value)) (Z999 : List Nat) (xv1001 : List T_ipsix_Ext) (j1002 : Int), Kn 135 [(0, .int .u8 first1), (1, .slice A3 (b2).length c4), (5, .slice A14 (y10).length c15), (6, .int .i64 t690), (14, .pointer (some ⟨g757, 0, none⟩)), (22, .int .i64 j1002)] a ∧ Mem w [] w1003 [.row A14 c15 5 1 (y10).length ((y10).flatMap (eI .u8)), .row A996 c997 63 2 (xv1001).length (css998).flatten, .res Z999 (Els RO_ipsix_Ext 2 xv1001 css998 Z999), .box g757 24 [.slice A996 (xv1001).length c997, .int .u8 y741.2.1.f_Proto]] ∧ F_law06_IpsixParses_L3 t690 (F_law06_IpsixParses_L1 first1 b2 y10 k693) k1005 xv1001 j1002 = some r) ?_ ?_
                    · replace hM := hM.pick [0, 4, 5, 6] rfl (by decide)
                      exact fun a ha => ⟨fuel0, A904, c905, css906, Z907, xv909, 0, ha.less (less_cons rfl (less_cons rfl (less_cons rfl (less_cons rfl (less_cons rfl (less_cons rfl less_nil)))))), hM, hF⟩
                    · rintro k1005 a w1003 ⟨A996, c997, css998, Z999, xv1001, j1002, ha, hM, hF⟩
                      refine KC.app ha ?_
                      clear ha
                      cases k1005 with
                      | zero => exact (none_some hF).elim
                      | succ k1005 =>
                      have hF : F_law06_IpsixParses_l3 (F_law06_IpsixParses_L3 t690 (F_law06_IpsixParses_L1 first1 b2 y10 k693) k1005) t690 (F_law06_IpsixParses_L1 first1 b2 y10 k693) xv1001 j1002 = some r := hF
                      unfold F_law06_IpsixParses_l3 at hF
                      refine KC.seq ?_
                      refine KC.seq ?_
                      refine KC.region ?_
                      refine RL.val (O.move rfl) rfl ?_
                      refine RL.val (O.fldA fl24_0 (by decide) rfl) rfl ?_
                      refine RL.val (O.load sc22 rfl (Cs.adds [0] ((hM.bx (i := 3) rfl)) rfl)) rfl ?_
                      refine RL.val (O.len sl22 rfl) rfl ?_
                      refine RL.val (O.lss rfl rfl) rfl ?_
                      refine RL.nil ?_
                      refine KQ.then_n ?_
                      refine KC.cond rfl (fun hc => ?_) (fun hc => ?_)
                      · rw [if_pos hc] at hF
                        refine KC.skip ?_
                        refine KQ.then_n ?_
                        refine KC.seq ?_
                        refine KC.block ?_
                        refine KC.region ?_
                        refine RL.val (O.fldA fl24_0 (by decide) rfl) rfl ?_
                        refine RL.val (O.load sc22 rfl (Cs.adds [0] ((hM.bx (i := 3) rfl)) rfl)) rfl ?_
                        refine RL.val (O.move rfl) rfl ?_
                        refine obindE hF fun xv1008 hx1010 hF => ?_
                        obtain ⟨cs1013, hA1009, hC1012, hR1011⟩ := hM.atD (i := 1) (j := 2) uo_ipsix_Ext rfl rfl hx1010
                        obtain ⟨A1014, c1015, rfl, hr1016, ho1017⟩ := hR1011
                        refine RL.val (O.idxA sl22 (hA1009) rfl rfl) rfl ?_
                        refine RL.val (O.fldA fl63_1 (by decide) rfl) rfl ?_
                        refine RL.val (O.load sc31 rfl (Cs.adds [1] (hA1009).cells rfl)) rfl ?_
                        obtain ⟨Z1018, hM⟩ := hM.openE (p := j1002) [0, 1, 3] rfl (by decide) rfl (j := 2) rfl hC1012 hx1010 (fun o h => io_ipsix_Ext h)
                        refine obindE hF fun y1021 hx1022 hF => ?_
                        refine RL.call Try.func27 bd27 rfl rfl (c_kit_Spoil _ _ _ xv1008.f_Data (hM.lent [4] rfl (by decide)) _ hx1022) fun v w1023 hv => ?_
                        obtain ⟨rfl, hw1025, hN1024⟩ := hv
                        replace hM := hM.callL [4] [0, 1, 2, 3] rfl rfl (by decide) rfl hN1024
                        obtain ⟨Z1026, hM⟩ := hM.closeE (u' := (T_ipsix_Ext.mk xv1008.f_Kind y1021)) [3, 4] [0, 1, 2] rfl (by decide) rfl (by decide) rfl hC1012 ⟨A1014, c1015, (by first | (rw [hw1025]; done) | (rw [hw1025]; rfl)), rfl⟩
                        have hq1028 : (xv1001).length = ((xv1001.set (j1002 : Int).toNat (T_ipsix_Ext.mk xv1008.f_Kind y1021))).length := (List.length_set ..).symm
                        replace hM := hM.rerow (i := 1) rfl hq1028
                        refine RL.reslot (t := 117) rfl hq1028 ?_
                        refine RL.reslot (t := 123) rfl hq1028 ?_
                        replace hM := hM.rebox (i := 2) (cs' := [.slice A996 ((xv1001.set (j1002 : Int).toNat (T_ipsix_Ext.mk xv1008.f_Kind y1021))).length c997, .int .u8 y741.2.1.f_Proto]) rfl (by rw [← hq1028])
                        refine RL.nil ?_
                        refine KQ.blk_n ?_
                        refine KQ.then_n ?_
                        refine KC.region ?_
                        refine RL.val (O.move rfl) rfl ?_
                        refine RL.val (O.add rfl rfl) rfl ?_
                        refine RL.val (O.assign rfl) rfl ?_
                        refine RL.nil ?_
                        refine KQ.then_k ?_
                        replace hM := hM.pick [0, 1, 3, 2] rfl (by decide)
                        exact fun a ha => ⟨k1005, Nat.lt_succ_self k1005, A996, c997, css998, Z1026, (xv1001.set (j1002 : Int).toNat (T_ipsix_Ext.mk xv1008.f_Kind y1021)), (IntKind.i64.wrap (j1002 + 1)), ha.less (less_cons rfl (less_cons rfl (less_cons rfl (less_cons rfl (less_cons rfl (less_cons rfl less_nil)))))), hM, hF⟩
                      · rw [if_neg (ne_true hc)] at hF
                        refine KC.exit ?_
                        refine KQ.then_x ?_
                        refine KQ.then_x ?_
                        refine KQ.blk_x ?_
                        refine KQ.blk_n ?_
                        refine KQ.then_n ?_
                        refine KC.region ?_
                        refine RL.val (O.move rfl) rfl ?_
                        refine RL.val (O.add rfl rfl) rfl ?_
                        refine RL.val (O.assign rfl) rfl ?_
                        refine RL.nil ?_
                        refine KQ.then_k ?_
                        replace hM := hM.pick [0] rfl (by decide)
                        exact fun a ha => ⟨k693, Nat.lt_succ_self k693, (IntKind.i64.wrap (t690 + 1)), ha.less (less_cons rfl (less_cons rfl (less_cons rfl (less_cons rfl less_nil)))), hM, hF⟩
      · rw [if_neg (ne_true hc)] at hF
        refine KC.exit ?_
        refine KQ.then_x ?_
        refine KQ.then_x ?_
        refine KQ.blk_x ?_
        refine KQ.then_n ?_
        refine KC.cut (fun a w1038 => ∃ (t1037 : Bool), Kn 135 [(4, .bool t1037)] a ∧ Mem w [] w1038 [] ∧ F_law06_IpsixParses_j3 t1037 = some r) ?_ ?_
        · refine KC.region ?_
          refine RL.val (O.move rfl) rfl ?_
          refine RL.val (O.move rfl) rfl ?_
          refine obindE hF fun y1029 hx1030 hF => ?_
          refine RL.call Try.func15 bd15 rfl rfl (c_kit_SameBytes _ _ _ y10 (hM.rd (i := 0) rfl) _ _ b2 (hM.inp hr5 Off.nil) _ hx1030) fun v w1031 hv => ?_
          obtain ⟨rfl, hN1032⟩ := hv
          replace hM := hM.call0 hN1032
          refine RL.val (O.move rfl) rfl ?_
          refine RL.bcase (t := 132) rfl (fun hc => ?_) (fun hc => ?_)
          · rw [if_pos hc] at hF
            refine obindE hF fun y1033 hx1034 hF => ?_
            refine RL.gcall rfl rfl Try.func9 bd9 rfl rfl (c_law06_works _ _ hx1034) fun v w1035 hv => ?_
            obtain ⟨rfl, hN1036⟩ := hv
            replace hM := hM.call0 hN1036
            refine RL.val (O.pickt rfl rfl) rfl ?_
            refine RL.val (O.assign rfl) rfl ?_
            refine RL.nil ?_
            refine KQ.then_k ?_
            replace hM := hM.pick [] rfl (by decide)
            exact fun a ha => ⟨y1033, ha.less (less_cons rfl less_nil), hM, hF⟩
          · rw [if_neg (ne_true hc)] at hF
            refine RL.gskip rfl rfl rfl rfl ?_
            refine RL.val (O.pickf rfl rfl) rfl ?_
            refine RL.val (O.assign rfl) rfl ?_
            refine RL.nil ?_
            refine KQ.then_k ?_
            replace hM := hM.pick [] rfl (by decide)
            exact fun a ha => ⟨false, ha.less (less_cons rfl less_nil), hM, hF⟩
        · rintro a w1038 ⟨t1037, ha, hM, hF⟩
          refine KC.app ha ?_
          clear ha
          unfold F_law06_IpsixParses_j3 at hF
          refine KC.ret ?_
          obtain rfl := Option.some.inj hF
          refine KQ.rets Try.results4 (RVs.cons (RV.tm rfl) RVs.nil) ?_
          exact ⟨_, rfl, rfl, hM⟩
set_option maxRecDepth 100000 in
set_option maxHeartbeats 40000000 in
theorem c_bits_Least (w : World) (v1 : Int) (r : Int) (hF : F_bits_Least v1 = some r) :
    CallsR Try.prog 59 [.int .u64 v1] w (fun v w' => v = .int .i64 r ∧ Mem w [] w' []) := by
  refine calls_KC Try.func59 rfl Try.ntmps59 rfl ?_
  have hM := Mem.init w
  unfold F_bits_Least at hF
  refine KC.seq ?_
  refine KC.region ?_
  refine RL.val (O.assign rfl) rfl ?_
  refine RL.nil ?_
  refine KQ.then_n ?_
  refine KC.seq ?_
  refine KC.region ?_
  refine RL.val (O.assign rfl) rfl ?_
  refine RL.nil ?_
  refine KQ.then_n ?_
  refine KC.seq ?_
  refine KC.seq ?_
  refine KC.region ?_
  refine RL.val (O.move rfl) rfl ?_
  refine RL.val (O.shr rfl rfl (by decide)) rfl ?_
  refine RL.val (O.assign rfl) rfl ?_
  refine RL.nil ?_
  refine KQ.then_n ?_
  refine KC.block ?_
  refine KC.loop (fun k8 a w6 => ∃ (v4 : Int) (nv5 : Int), Kn 13 [(0, .int .u64 v4), (3, .int .i64 nv5)] a ∧ Mem w [] w6 [] ∧ F_bits_Least_L1 k8 v4 nv5 = some r) ?_ ?_
  · exact fun a ha => ⟨fuel0, (Ox.shr .u64 v1 8), 1, ha.less (less_cons rfl (less_cons rfl less_nil)), hM, hF⟩
  · rintro k8 a w6 ⟨v4, nv5, ha, hM, hF⟩
    refine KC.app ha ?_
    clear ha
    cases k8 with
    | zero => exact (none_some hF).elim
    | succ k8 =>
    have hF : F_bits_Least_l1 (F_bits_Least_L1 k8) v4 nv5 = some r := hF
    unfold F_bits_Least_l1 at hF
    refine KC.seq ?_
    refine KC.seq ?_
    refine KC.region ?_
    refine RL.val (O.move rfl) rfl ?_
    refine RL.val (O.gtr rfl rfl) rfl ?_
    refine RL.nil ?_
    refine KQ.then_n ?_
    refine KC.cond rfl (fun hc => ?_) (fun hc => ?_)
    · rw [if_pos hc] at hF
      refine KC.skip ?_
      refine KQ.then_n ?_
      refine KC.seq ?_
      refine KC.block ?_
      refine KC.region ?_
      refine RL.val (O.move rfl) rfl ?_
      refine RL.val (O.add rfl rfl) rfl ?_
      refine RL.val (O.assign rfl) rfl ?_
      refine RL.nil ?_
      refine KQ.blk_n ?_
      refine KQ.then_n ?_
      refine KC.region ?_
      refine RL.val (O.move rfl) rfl ?_
      refine RL.val (O.shr rfl rfl (by decide)) rfl ?_
      refine RL.val (O.assign rfl) rfl ?_
      refine RL.nil ?_
      refine KQ.then_k ?_
      exact fun a ha => ⟨k8, Nat.lt_succ_self k8, (Ox.shr .u64 v4 8), (IntKind.i64.wrap (nv5 + 1)), ha.less (less_cons rfl (less_cons rfl less_nil)), hM, hF⟩
    · rw [if_neg (ne_true hc)] at hF
      refine KC.exit ?_
      refine KQ.then_x ?_
      refine KQ.then_x ?_
      refine KQ.blk_x ?_
      refine KQ.then_n ?_
      refine KC.seq ?_
      refine KC.region ?_
      refine RL.val (O.move rfl) rfl ?_
      refine RL.val (O.assign rfl) rfl ?_
      refine RL.nil ?_
      refine KQ.then_n ?_
      refine KC.ret ?_
      obtain rfl := Option.some.inj hF
      refine KQ.rets Try.results59 (RVs.cons (RV.tm rfl) RVs.nil) ?_
      exact ⟨_, rfl, rfl, hM⟩
set_option maxRecDepth 100000 in
set_option maxHeartbeats 40000000 in
theorem c_bits_fits (w : World) (v1 : Int) (size2 : Int) (r : Bool) (hF : F_bits_fits v1 size2 = some r) :
    CallsR Try.prog 56 [.int .u64 v1, .int .i64 size2] w (fun v w' => v = .bool r ∧ Mem w [] w' []) := by
  refine calls_KC Try.func56 rfl Try.ntmps56 rfl ?_
  have hM := Mem.init w
  unfold F_bits_fits at hF
  refine KC.seq ?_
  refine KC.region ?_
  refine RL.val (O.assign rfl) rfl ?_
  refine RL.nil ?_
  refine KQ.then_n ?_
  refine KC.cut (fun a w12 => ∃ (t11 : Bool), Kn 13 [(4, .bool t11)] a ∧ Mem w [] w12 [] ∧ F_bits_fits_j1 t11 = some r) ?_ ?_
  · refine KC.region ?_
    refine RL.val (O.move rfl) rfl ?_
    refine obindE hF fun y3 hx4 hF => ?_
    refine RL.call Try.func54 bd54 rfl rfl (c_bits_right _ size2 _ hx4) fun v w5 hv => ?_
    obtain ⟨rfl, hN6⟩ := hv
    replace hM := hM.call0 hN6
    refine RL.val (O.move rfl) rfl ?_
    refine RL.bcase (t := 7) rfl (fun hc => ?_) (fun hc => ?_)
    · rw [if_pos hc] at hF
      refine RL.gval rfl rfl (O.move rfl) rfl ?_
      refine obindE hF fun y7 hx8 hF => ?_
      refine RL.gcall rfl rfl Try.func59 bd59 rfl rfl (c_bits_Least _ v1 _ hx8) fun v w9 hv => ?_
      obtain ⟨rfl, hN10⟩ := hv
      replace hM := hM.call0 hN10
      refine RL.gval rfl rfl (O.move rfl) rfl ?_
      refine RL.gval rfl rfl (O.leq rfl rfl) rfl ?_
      refine RL.val (O.pickt rfl rfl) rfl ?_
      refine RL.val (O.assign rfl) rfl ?_
      refine RL.nil ?_
      refine KQ.then_k ?_
      exact fun a ha => ⟨(decide (y7 ≤ size2)), ha.less (less_cons rfl less_nil), hM, hF⟩
    · rw [if_neg (ne_true hc)] at hF
      refine RL.brun1 5 12 false (by kernel_rfl) ?_
      refine RL.val (O.assign rfl) rfl ?_
      refine RL.nil ?_
      refine KQ.then_k ?_
      exact fun a ha => ⟨false, ha.less (less_cons rfl less_nil), hM, hF⟩
  · rintro a w12 ⟨t11, ha, hM, hF⟩
    refine KC.app ha ?_
    clear ha
    unfold F_bits_fits_j1 at hF
    refine KC.ret ?_
    obtain rfl := Option.some.inj hF
    refine KQ.rets Try.results56 (RVs.cons (RV.tm rfl) RVs.nil) ?_
    exact ⟨_, rfl, rfl, hM⟩
set_option maxRecDepth 100000 in
set_option maxHeartbeats 40000000 in
theorem c_bits_of (w : World) (v1 : Int) (size2 : Int) (r : (List Int)) (hF : F_bits_of v1 size2 = some r) :
    CallsR Try.prog 57 [.int .u64 v1, .int .i64 size2] w (fun v w' => ∃ (A0 : Option Addr) (c0 : Nat), v = .slice A0 (r).length c0 ∧ Mem w [] w' [.row A0 c0 5 1 r.length (r.flatMap (eI .u8))]) := by
  refine calls_KC Try.func57 rfl Try.ntmps57 rfl ?_
  have hM := Mem.init w
  unfold F_bits_of at hF
  refine KC.seq ?_
  refine KC.region ?_
  refine RL.val (O.assign rfl) rfl ?_
  refine RL.nil ?_
  refine KQ.then_n ?_
  refine KC.seq ?_
  refine KC.region ?_
  refine RL.val (O.move rfl) rfl ?_
  refine cut_someE hF fun hq5 hF => ?_
  refine RL.eff (E.mks (enc := (eI .u8)) (zr := 0) hM sl31 ze5 rfl rfl (fun _ => rfl) rfl rfl rfl (of_decide_eq_true hq5)) rfl fun v w4 hv => ?_
  clear hM
  obtain ⟨A3, rfl, hM, hf⟩ := hv
  refine RL.val (O.assign rfl) rfl ?_
  refine RL.nil ?_
  refine KQ.then_n ?_
  refine KC.seq ?_
  refine KC.seq ?_
  refine KC.region ?_
  refine RL.val (O.move rfl) rfl ?_
  refine RL.val (O.move rfl) rfl ?_
  refine RL.nil ?_
  refine KQ.then_n ?_
  refine KC.block ?_
  refine KC.loop (fun k31 a w29 => ∃ (A25 : Option Addr) (c26 : Nat) (b27 : List Int) (t28 : Int), Kn 26 [(0, .int .u64 v1), (1, .int .i64 size2), (5, .slice A25 (b27).length c26), (9, .int .i64 size2), (10, .int .i64 t28)] a ∧ Mem w [] w29 [.row A25 c26 5 1 (b27).length ((b27).flatMap (eI .u8))] ∧ F_bits_of_L1 v1 size2 k31 b27 t28 = some r) ?_ ?_
  · exact fun a ha => ⟨fuel0, A3, (Int.toNat size2), (List.replicate (Int.toNat size2) (0 : Int)), 0, ha.less (less_cons rfl (less_cons rfl (less_cons rfl (less_cons rfl (less_cons rfl less_nil))))), hM, hF⟩
  · rintro k31 a w29 ⟨A25, c26, b27, t28, ha, hM, hF⟩
    refine KC.app ha ?_
    clear ha
    cases k31 with
    | zero => exact (none_some hF).elim
    | succ k31 =>
    have hF : F_bits_of_l1 (F_bits_of_L1 v1 size2 k31) v1 size2 b27 t28 = some r := hF
    unfold F_bits_of_l1 at hF
    refine KC.seq ?_
    refine KC.region ?_
    refine RL.val (O.lss rfl rfl) rfl ?_
    refine RL.nil ?_
    refine KQ.then_n ?_
    refine KC.seq ?_
    refine KC.cond rfl (fun hc => ?_) (fun hc => ?_)
    · rw [if_pos hc] at hF
      refine KC.skip ?_
      refine KQ.then_n ?_
      refine KC.seq ?_
      refine KC.block ?_
      refine KC.seq ?_
      refine KC.region ?_
      refine RL.val (O.move rfl) rfl ?_
      refine RL.val (O.assign rfl) rfl ?_
      refine RL.nil ?_
      refine KQ.then_n ?_
      refine KC.region ?_
      refine RL.val (O.move rfl) rfl ?_
      refine RL.val (O.move rfl) rfl ?_
      refine RL.val (O.sub rfl rfl) rfl ?_
      refine RL.val (O.move rfl) rfl ?_
      refine RL.val (O.sub rfl rfl) rfl ?_
      refine RL.val (O.move rfl) rfl ?_
      refine RL.val (O.move rfl) rfl ?_
      refine RL.val (O.mul rfl rfl) rfl ?_
      refine cut_someE hF fun hq32 hF => ?_
      refine RL.val (O.shr rfl rfl (of_decide_eq_true hq32)) rfl ?_
      refine RL.val (O.conv un81 Try.underlying5 rfl) rfl ?_
      refine obindE hF fun xv35 hx34 hF => ?_
      have hA33 := Rd.atN (f := (eI .u8)) (s := 1) (fun _ => rfl) (by decide) (hM.rd (i := 0) rfl) hx34
      refine RL.val (O.idxA sl31 (hA33) rfl rfl) rfl ?_
      refine RL.effs (E.stR (enc := (eI .u8)) (j := 0) (off := 0) (vs := [.int .u8 (IntKind.u8.wrap (Ox.shr .u64 v1 (IntKind.i64.wrap (8 * t28))))]) (x' := (IntKind.u8.wrap (Ox.shr .u64 v1 (IntKind.i64.wrap (8 * t28))))) hM rfl (fun _ => rfl) hx34 sz5 rfl (addsR_eq [] rfl) rfl rfl (One.all rfl) rfl rfl) fun w36 hM1 => ?_
      clear hM
      obtain ⟨hM, hn37⟩ := hM1
      refine RL.reslot (t := 5) rfl hn37 ?_
      refine RL.reslot (t := 13) rfl hn37 ?_
      refine RL.nil ?_
      refine KQ.blk_n ?_
      refine KQ.then_n ?_
      refine KC.region ?_
      refine RL.val (O.add rfl rfl) rfl ?_
      refine RL.val (O.move rfl) rfl ?_
      refine RL.nil ?_
      refine KQ.then_k ?_
      exact fun a ha => ⟨k31, Nat.lt_succ_self k31, A25, c26, (b27.set ((IntKind.i64.wrap ((IntKind.i64.wrap (size2 - 1)) - t28)) : Int).toNat (IntKind.u8.wrap (Ox.shr .u64 v1 (IntKind.i64.wrap (8 * t28))))), (IntKind.i64.wrap (t28 + 1)), ha.less (less_cons rfl (less_cons rfl (less_cons rfl (less_cons rfl (less_cons rfl less_nil))))), hM, hF⟩
    · rw [if_neg (ne_true hc)] at hF
      refine KC.exit ?_
      refine KQ.then_x ?_
      refine KQ.then_x ?_
      refine KQ.blk_x ?_
      refine KQ.then_n ?_
      refine KC.seq ?_
      refine KC.region ?_
      refine RL.val (O.move rfl) rfl ?_
      refine RL.val (O.assign rfl) rfl ?_
      refine RL.nil ?_
      refine KQ.then_n ?_
      refine KC.ret ?_
      obtain rfl := Option.some.inj hF
      refine KQ.rets Try.results57 (RVs.cons (RV.tm rfl) RVs.nil) ?_
      exact ⟨_, rfl, A25, c26, rfl, hM⟩
set_option maxRecDepth 100000 in
set_option maxHeartbeats 40000000 in
theorem c_bits_Writer_Raw (w : World) (g2 : Nat) (wv1 : T_bits_Writer) (A4 : Option Addr) (c5 : Nat) (hL12 : Lent w [.box g2 94 [.slice A4 (wv1.f_b).length c5], .row A4 c5 5 1 (wv1.f_b).length ((wv1.f_b).flatMap (eI .u8))]) (A8 : Option Addr) (c9 : Nat) (b7 : List Int) (hr10 : Rd w A8 c9 1 b7.length (b7.flatMap (eI .u8))) (ho11 : Off [some g2, rblk A4 c5] b7.length A8) (r : Int × T_bits_Writer) (hF : F_bits_Writer_Raw wv1 b7 = some r) :
    CallsR Try.prog 51 [.pointer (some ⟨g2, 0, none⟩), .slice A8 (b7).length c9] w (fun v w' => ∃ (A0 : Option Addr) (c0 : Nat), v = .int .i64 r.1 ∧ Mem w [some g2, rblk A4 c5] w' [.box g2 94 [.slice A0 (r.2.f_b).length c0], .row A0 c0 5 1 r.2.f_b.length (r.2.f_b.flatMap (eI .u8))]) := by
  refine calls_KC Try.func51 rfl Try.ntmps51 rfl ?_
  have hM : Mem w [some g2, rblk A4 c5] w [.box g2 94 [.slice A4 (wv1.f_b).length c5], .row A4 c5 5 1 (wv1.f_b).length ((wv1.f_b).flatMap (eI .u8))] := Mem.lendN hL12
  unfold F_bits_Writer_Raw at hF
  refine KC.seq ?_
  refine KC.region ?_
  refine RL.val (O.assign rfl) rfl ?_
  refine RL.nil ?_
  refine KQ.then_n ?_
  refine KC.seq ?_
  refine KC.seq ?_
  refine KC.region ?_
  refine RL.val (O.move rfl) rfl ?_
  refine RL.val (O.peqn Try.underlying102 rfl rfl) rfl ?_
  refine RL.nil ?_
  refine KQ.then_n ?_
  refine KC.condF rfl ?_
  refine KC.skip ?_
  refine KQ.then_n ?_
  refine KC.seq ?_
  refine KC.region ?_
  refine RL.val (O.move rfl) rfl ?_
  refine RL.val (O.move rfl) rfl ?_
  refine RL.val (O.nilp rfl) rfl ?_
  refine RL.val (O.fldA fl94_0 (by decide) rfl) rfl ?_
  refine RL.val (O.load sc31 rfl (Cs.adds [0] ((hM.bx (i := 0) rfl)) rfl)) rfl ?_
  refine RL.val (O.move rfl) rfl ?_
  refine cut_someE hF fun hq16 hF => ?_
  refine RL.eff (E.app (enc := (eI .u8)) (xs := wv1.f_b) (ys := b7) (j := 1) hM rfl sl31 ze5 rfl rfl rfl rfl rfl (hM.inp hr10 ho11) (fun _ => One.all rfl) (of_decide_eq_true hq16)) rfl fun v w15 hv => ?_
  clear hM
  obtain ⟨A13, c14, rfl, hM, hf⟩ := hv
  refine RL.val (O.nilp rfl) rfl ?_
  refine RL.val (O.fldA fl94_0 (by decide) rfl) rfl ?_
  refine RL.effs (E.stB (j := 0) (off := 0) (vs := [.slice A13 ((wv1.f_b ++ b7)).length c14]) (cs' := [.slice A13 ((wv1.f_b ++ b7)).length c14]) hM rfl sz31 rfl (adds_eq [0] rfl) rfl rfl (One.all rfl) rfl rfl) fun w18 hM1 => ?_
  clear hM
  have hM := hM1
  clear hM1
  refine RL.nil ?_
  refine KQ.then_n ?_
  refine KC.seq ?_
  refine KC.region ?_
  refine RL.val (O.assign rfl) rfl ?_
  refine RL.nil ?_
  refine KQ.then_n ?_
  refine KC.ret ?_
  obtain rfl := Option.some.inj hF
  refine KQ.rets Try.results51 (RVs.cons (RV.tm rfl) RVs.nil) ?_
  exact ⟨_, rfl, A13, c14, rfl, hM⟩
end Go.Proofs.Ytikjomacnbemhaa
