/- Printed by a program of this claim: each call returns what the plain function of its name gives. -/
import Derived.Test.YtcinagdkkclapaaW1
import Derived.Test.YtcinagdkkclapaaW7
import Derived.Test.YtcinagdkkclapaaW10
set_option linter.unusedVariables false
namespace Go.Proofs.Ytcinagdkkclapaa
open Go Go.Ox Go.RowKit
set_option maxRecDepth 100000 in
set_option maxHeartbeats 40000000 in
theorem c_ref01_Same (w : World) (A2 : Option Addr) (c3 : Nat) (av1 : List Int) (hr4 : Rd w A2 c3 1 av1.length (av1.flatMap (eI .u8))) (A6 : Option Addr) (c7 : Nat) (b5 : List Int) (hr8 : Rd w A6 c7 1 b5.length (b5.flatMap (eI .u8))) (r : Bool) (hF : F_ref01_Same av1 b5 = some r) :
  CallsR Try.prog 12 [.slice A2 (av1).length c3, .slice A6 (b5).length c7] w (fun v w' => v = vB r ∧ Mem w [] w' []) := by
 refine calls_KC Try.func12 rfl Try.ntmps12 rfl ?_
 have hM := Mem.init w
 unfold F_ref01_Same at hF
 refine sr fun Q9 hQ9 => ?_
 refine va rfl rfl ?_
 refine nt hQ9 ?_
 clear hQ9 Q9
 refine sr fun Q10 hQ10 => ?_
 refine vm rfl rfl ?_
 refine RL.val (O.b2s sl24 Try.underlying5 Try.underlying9 rfl ((hM.inp hr4 Off.nil))) rfl ?_
 refine vm rfl rfl ?_
 refine RL.val (O.b2s sl24 Try.underlying5 Try.underlying9 rfl ((hM.inp hr8 Off.nil))) rfl ?_
 refine RL.val (O.streq rfl rfl) rfl ?_
 refine va rfl rfl ?_
 refine nt hQ10 ?_
 clear hQ10 Q10
 refine KC.ret ?_
 have hE := Option.some.inj hF
 clear hF
 subst hE
 refine KQ.rets Try.results12 (RVs.cons (RV.tm rfl) RVs.nil) ?_
 exact ⟨_, rfl, rfl, hM⟩
set_option maxRecDepth 100000 in
set_option maxHeartbeats 40000000 in
theorem c_trans_Flags (w : World) (f1 : Int) (r : ByteArray) (hF : F_trans_Flags f1 = some r) :
  CallsR Try.prog 16 [v8 f1] w (fun v w' => v = Value.string r ∧ Mem w [] w' []) := by
 refine calls_KC Try.func16 rfl Try.ntmps16 rfl ?_
 have hM := Mem.init w
 unfold F_trans_Flags at hF
 refine sr fun Q2 hQ2 => ?_
 refine va rfl rfl ?_
 refine nt hQ2 ?_
 clear hQ2 Q2
 refine sr fun Q3 hQ3 => ?_
 refine va rfl rfl ?_
 refine nt hQ3 ?_
 clear hQ3 Q3
 refine KC.seqH fun Q4 hQ4 => ?_
 refine sr fun Q5 hQ5 => ?_
 refine RL.eff (E.range hM Try.underlying9 rfl) rfl fun v w7 hv => ?_
 clear hM
 obtain ⟨g6, rfl, hM, hf⟩ := hv
 refine nt hQ5 ?_
 clear hQ5 Q5
 refine KC.block ?_
 refine KC.loop (fun k55 a w53 => ∃ (A48 : Option Addr) (c49 : Nat) (lv50 : List Int) (t52 : Nat), Kn 23 [(0, v8 f1), (3, .slice A48 (lv50).length c49), (6, .pointer (some ⟨g6, 0, none⟩))] a ∧ Mem w [] w53 [.row A48 c49 5 1 (lv50).length ((lv50).flatMap (eI .u8)), .res [g6] (StrAt g6 (⟨#[70, 83, 82, 80, 65, 85]⟩ : ByteArray) t52)] ∧ F_trans_Flags_L1 f1 k55 lv50 t52 = some r) ?_ ?_
 ·replace hM := hM.nilrow 5 1
  replace hM := hM.pick [1, 0] rfl (by decide)
  exact fun a ha => ⟨fuel0, none, 0, ([]), 0, ha.less (less_cons rfl (less_cons rfl (less_cons rfl less_nil))), hM, hF⟩
 rintro k55 a w53 ⟨A48, c49, lv50, t52, ha, hM, hF⟩
 refine KC.app ha ?_
 clear ha
 cases k55 with
 | zero => exact (none_some hF).elim
 | succ k55 =>
 have hF : F_trans_Flags_l1 (F_trans_Flags_L1 f1 k55) f1 lv50 t52 = some r := hF
 unfold F_trans_Flags_l1 at hF
 refine sr fun Q56 hQ56 => ?_
 by_cases hk57 : (decide (t52 < (⟨#[70, 83, 82, 80, 65, 85]⟩ : ByteArray).size)) = true
 ·rw [if_pos hk57] at hF
  refine RL.eff (E.nextT (p := t52) (s := (⟨#[70, 83, 82, 80, 65, 85]⟩ : ByteArray)) hM (j := 1) rfl (by kernel_rfl) (of_decide_eq_true hk57) rfl) rfl fun v w58 hv => ?_
  clear hM
  obtain ⟨rfl, hM, _⟩ := hv
  refine RL.val (O.ext rfl rfl) rfl ?_
  refine nt hQ56 ?_
  clear hQ56 Q56
  refine KC.seqH fun Q59 hQ59 => ?_
  refine KC.condT rfl ?_
  refine KC.skip ?_
  refine KQ.thn hQ59 ?_
  clear hQ59 Q59
  refine KC.block ?_
  refine sr fun Q60 hQ60 => ?_
  refine RL.val (O.ext rfl rfl) rfl ?_
  refine RL.val (O.ext rfl rfl) rfl ?_
  refine va rfl rfl ?_
  refine va rfl rfl ?_
  refine nt hQ60 ?_
  clear hQ60 Q60
  refine sr fun Q61 hQ61 => ?_
  refine vm rfl rfl ?_
  refine vm rfl rfl ?_
  refine cut_someE hF fun hq62 hF => ?_
  refine RL.val (O.shr rfl rfl (of_decide_eq_true hq62)) rfl ?_
  refine RL.val (O.and rfl rfl) rfl ?_
  refine RL.val (O.eql rfl rfl) rfl ?_
  refine nt hQ61 ?_
  clear hQ61 Q61
  refine KC.cond rfl (fun hc => ?_) (fun hc => ?_)
  ·rw [if_pos hc] at hF
   refine KC.region ?_
   refine vm rfl rfl ?_
   refine vm rfl rfl ?_
   refine RL.val (O.conv un21 Try.underlying5 rfl) rfl ?_
   refine RL.eff (E.bsl (enc := (eI .u8)) (xs := ([(IntKind.u8.wrap (((⟨#[70, 83, 82, 80, 65, 85]⟩ : ByteArray).get! t52).toNat : Int))] : List Int)) hM sl24 ze5 rfl rfl rfl (fun _ => rfl) rfl (by kernel_rfl) rfl) rfl fun v w63 hv => ?_
   clear hM
   obtain ⟨A64, rfl, hM, hf⟩ := hv
   refine cut_someE hF fun hq69 hF => ?_
   refine RL.eff (E.app (enc := (eI .u8)) (xs := lv50) (ys := ([(IntKind.u8.wrap (((⟨#[70, 83, 82, 80, 65, 85]⟩ : ByteArray).get! t52).toNat : Int))] : List Int)) (j := 0) hM rfl sl24 ze5 rfl rfl rfl rfl rfl (hM.rd (i := 2) rfl) (fun _ => One.all rfl) (of_decide_eq_true hq69)) rfl fun v w68 hv => ?_
   clear hM
   obtain ⟨A66, c67, rfl, hM, hf⟩ := hv
   refine va rfl rfl ?_
   refine RL.nil ?_
   refine KQ.blk_n ?_
   refine KQ.then_k ?_
   replace hM := hM.pick [0, 1] rfl (by decide)
   exact fun a ha => ⟨k55, Nat.lt_succ_self k55, A66, c67, (lv50 ++ ([(IntKind.u8.wrap (((⟨#[70, 83, 82, 80, 65, 85]⟩ : ByteArray).get! t52).toNat : Int))] : List Int)), (t52 + 1), ha.less (less_cons rfl (less_cons rfl (less_cons rfl less_nil))), hM, hF⟩
  rw [if_neg (ne_true hc)] at hF
  refine KC.skip ?_
  refine KQ.blk_n ?_
  refine KQ.then_k ?_
  exact fun a ha => ⟨k55, Nat.lt_succ_self k55, A48, c49, lv50, (t52 + 1), ha.less (less_cons rfl (less_cons rfl (less_cons rfl less_nil))), hM, hF⟩
 rw [if_neg hk57] at hF
 refine RL.val (O.nextF (hM.strAt (i := 1) rfl) (fun h => hk57 (decide_eq_true h)) rfl) rfl ?_
 refine RL.val (O.ext rfl rfl) rfl ?_
 refine nt hQ56 ?_
 clear hQ56 Q56
 refine KC.seqH fun Q71 hQ71 => ?_
 refine KC.condF rfl ?_
 refine KC.exit ?_
 refine KQ.thx hQ71 ?_
 clear hQ71 Q71
 refine KQ.then_x ?_
 refine KQ.blk_x ?_
 refine KQ.thn hQ4 ?_
 clear hQ4 Q4
 refine sr fun Q72 hQ72 => ?_
 refine vm rfl rfl ?_
 refine RL.val (O.b2s sl24 Try.underlying5 Try.underlying9 rfl ((hM.rd (i := 0) rfl))) rfl ?_
 refine va rfl rfl ?_
 refine nt hQ72 ?_
 clear hQ72 Q72
 refine KC.ret ?_
 have hE := Option.some.inj hF
 clear hF
 subst hE
 replace hM := hM.pick [] rfl (by decide)
 refine KQ.rets Try.results16 (RVs.cons (RV.tm rfl) RVs.nil) ?_
 exact ⟨_, rfl, rfl, hM⟩
set_option maxRecDepth 100000 in
set_option maxHeartbeats 40000000 in
theorem c_law07_works (w : World) (r : Bool) (hF : F_law07_works = some r) :
  CallsR Try.prog 8 [] w (fun v w' => v = vB r ∧ Mem w [] w' []) := by
 refine calls_KC Try.func8 rfl Try.ntmps8 rfl ?_
 have hM := Mem.init w
 unfold F_law07_works at hF
 refine sr fun Q1 hQ1 => ?_
 refine va rfl rfl ?_
 refine nt hQ1 ?_
 clear hQ1 Q1
 refine sr fun Q2 hQ2 => ?_
 refine RL.eff (E.bsl (enc := (eI .u8)) (xs := ([1, 2, 3, 4] : List Int)) hM sl24 ze5 rfl rfl rfl (fun _ => rfl) rfl (by kernel_rfl) rfl) rfl fun v w3 hv => ?_
 clear hM
 obtain ⟨A4, rfl, hM, hf⟩ := hv
 refine va rfl rfl ?_
 refine nt hQ2 ?_
 clear hQ2 Q2
 refine sr fun Q6 hQ6 => ?_
 refine vm rfl rfl ?_
 refine RL.val (O.bld (cs := [v8 1, v16 0, v16 0, v32 0, v32 0, v8 0, v16 0, v16 0, .slice none 0 0, v8 8, v8 0, .slice A4 (([1, 2, 3, 4] : List Int)).length 4]) bt26 rfl (by kernel_rfl)) rfl ?_
 refine vm rfl rfl ?_
 refine vm rfl rfl ?_
 refine obindE hF fun y7 hx8 hF => ?_
 refine RL.call Try.func11 bd11 rfl rfl (c_trans_Put _ (T_trans_Segment.mk 1 0 0 0 0 0 0 0 ([]) 8 0 ([1, 2, 3, 4] : List Int)) none 0 Rd.nilr _ _ (hM.rd (i := 0) rfl) _ _ ([1, 2, 3, 4] : List Int) (hM.rd (i := 0) rfl) _ _ ([1, 2, 3, 4] : List Int) (hM.rd (i := 0) rfl) _ hx8) fun v w9 hv => ?_
 obtain ⟨A11, c12, rfl, hN10⟩ := hv
 replace hM := hM.call hN10
 refine vm rfl rfl ?_
 refine RL.val (O.ext rfl rfl) rfl ?_
 refine RL.val (O.ext rfl rfl) rfl ?_
 refine va rfl rfl ?_
 refine va rfl rfl ?_
 refine nt hQ6 ?_
 clear hQ6 Q6
 refine sr fun Q14 hQ14 => ?_
 refine RL.eff (E.bsl (enc := (eI .u8)) (xs := ([0, 53, 1, 0, 0, 8, 0, 0] : List Int)) hM sl24 ze5 rfl rfl rfl (fun _ => rfl) rfl (by kernel_rfl) rfl) rfl fun v w15 hv => ?_
 clear hM
 obtain ⟨A16, rfl, hM, hf⟩ := hv
 refine obindE hF fun y18 hx19 hF => ?_
 refine RL.call Try.func19 bd19 rfl rfl (c_trans_Parse _ 17 _ _ ([0, 53, 1, 0, 0, 8, 0, 0] : List Int) (hM.rd (i := 2) rfl) _ hx19) fun v w20 hv => ?_
 obtain ⟨A22, c23, A25, c26, rfl, hN21⟩ := hv
 replace hM := hM.call hN21
 refine vm rfl rfl ?_
 refine RL.val (O.ext rfl rfl) rfl ?_
 refine RL.val (O.ext rfl rfl) rfl ?_
 refine RL.eff (E.alloc hM ze26) rfl fun v w29 hv => ?_
 clear hM
 obtain ⟨g28, rfl, hM, hf⟩ := hv
 refine RL.effs (E.stB (j := 5) (off := 0) (vs := [v8 y18.1.f_Proto, v16 y18.1.f_Src, v16 y18.1.f_Dst, v32 y18.1.f_Seq, v32 y18.1.f_Ack, v8 y18.1.f_Flags, v16 y18.1.f_Window, v16 y18.1.f_Urgent, .slice A22 (y18.1.f_Options).length c23, v8 y18.1.f_Type, v8 y18.1.f_Code, .slice A25 (y18.1.f_Data).length c26]) (cs' := [v8 y18.1.f_Proto, v16 y18.1.f_Src, v16 y18.1.f_Dst, v32 y18.1.f_Seq, v32 y18.1.f_Ack, v8 y18.1.f_Flags, v16 y18.1.f_Window, v16 y18.1.f_Urgent, .slice A22 (y18.1.f_Options).length c23, v8 y18.1.f_Type, v8 y18.1.f_Code, .slice A25 (y18.1.f_Data).length c26]) hM rfl sz26 rfl (adds_eq [] rfl) rfl rfl (One.all rfl) rfl rfl) fun w31 hM1 => ?_
 clear hM
 have hM := hM1
 clear hM1
 refine va rfl rfl ?_
 refine nt hQ14 ?_
 clear hQ14 Q14
 replace hM := hM.pick [1, 3, 4, 5] rfl (by decide)
 refine sr fun Q32 hQ32 => ?_
 refine cut_someE hF fun hq35 hF => ?_
 refine RL.eff (E.mks (enc := (eI .u8)) (zr := 0) hM sl24 ze5 rfl rfl (fun _ => rfl) rfl rfl rfl (of_decide_eq_true hq35)) rfl fun v w34 hv => ?_
 clear hM
 obtain ⟨A33, rfl, hM, hf⟩ := hv
 refine obindE hF fun y37 hx38 hF => ?_
 refine RL.call Try.func19 bd19 rfl rfl (c_trans_Parse _ 17 _ _ (List.replicate (Int.toNat 7) (0 : Int)) (hM.rd (i := 4) rfl) _ hx38) fun v w39 hv => ?_
 obtain ⟨A41, c42, A44, c45, rfl, hN40⟩ := hv
 replace hM := hM.call hN40
 refine vm rfl rfl ?_
 refine RL.val (O.ext rfl rfl) rfl ?_
 refine RL.val (O.ext rfl rfl) rfl ?_
 refine RL.eff (E.alloc hM ze26) rfl fun v w48 hv => ?_
 clear hM
 obtain ⟨g47, rfl, hM, hf⟩ := hv
 refine RL.effs (E.stB (j := 7) (off := 0) (vs := [v8 y37.1.f_Proto, v16 y37.1.f_Src, v16 y37.1.f_Dst, v32 y37.1.f_Seq, v32 y37.1.f_Ack, v8 y37.1.f_Flags, v16 y37.1.f_Window, v16 y37.1.f_Urgent, .slice A41 (y37.1.f_Options).length c42, v8 y37.1.f_Type, v8 y37.1.f_Code, .slice A44 (y37.1.f_Data).length c45]) (cs' := [v8 y37.1.f_Proto, v16 y37.1.f_Src, v16 y37.1.f_Dst, v32 y37.1.f_Seq, v32 y37.1.f_Ack, v8 y37.1.f_Flags, v16 y37.1.f_Window, v16 y37.1.f_Urgent, .slice A41 (y37.1.f_Options).length c42, v8 y37.1.f_Type, v8 y37.1.f_Code, .slice A44 (y37.1.f_Data).length c45]) hM rfl sz26 rfl (adds_eq [] rfl) rfl rfl (One.all rfl) rfl rfl) fun w50 hM1 => ?_
 clear hM
 have hM := hM1
 clear hM1
 refine va rfl rfl ?_
 refine nt hQ32 ?_
 clear hQ32 Q32
 replace hM := hM.pick [0, 1, 2, 3] rfl (by decide)
 refine sr fun Q51 hQ51 => ?_
 refine obindE hF fun y52 hx53 hF => ?_
 refine RL.call Try.func19 bd19 rfl rfl (c_trans_Parse _ 2 none 0 [] Rd.nilr _ hx53) fun v w54 hv => ?_
 obtain ⟨A56, c57, A59, c60, rfl, hN55⟩ := hv
 replace hM := hM.call hN55
 refine vm rfl rfl ?_
 refine RL.val (O.ext rfl rfl) rfl ?_
 refine RL.val (O.ext rfl rfl) rfl ?_
 refine RL.eff (E.alloc hM ze26) rfl fun v w63 hv => ?_
 clear hM
 obtain ⟨g62, rfl, hM, hf⟩ := hv
 refine RL.effs (E.stB (j := 6) (off := 0) (vs := [v8 y52.1.f_Proto, v16 y52.1.f_Src, v16 y52.1.f_Dst, v32 y52.1.f_Seq, v32 y52.1.f_Ack, v8 y52.1.f_Flags, v16 y52.1.f_Window, v16 y52.1.f_Urgent, .slice A56 (y52.1.f_Options).length c57, v8 y52.1.f_Type, v8 y52.1.f_Code, .slice A59 (y52.1.f_Data).length c60]) (cs' := [v8 y52.1.f_Proto, v16 y52.1.f_Src, v16 y52.1.f_Dst, v32 y52.1.f_Seq, v32 y52.1.f_Ack, v8 y52.1.f_Flags, v16 y52.1.f_Window, v16 y52.1.f_Urgent, .slice A56 (y52.1.f_Options).length c57, v8 y52.1.f_Type, v8 y52.1.f_Code, .slice A59 (y52.1.f_Data).length c60]) hM rfl sz26 rfl (adds_eq [] rfl) rfl rfl (One.all rfl) rfl rfl) fun w65 hM1 => ?_
 clear hM
 have hM := hM1
 clear hM1
 refine va rfl rfl ?_
 refine nt hQ51 ?_
 clear hQ51 Q51
 replace hM := hM.pick [0, 1, 2, 3] rfl (by decide)
 refine KC.cut (fun a w78 => ∃ (t77 : Bool), Kn 66 [(0, vB t77)] a ∧ Mem w [] w78 [] ∧ F_law07_works_j1 t77 = some r) ?_ ?_
 ·refine KC.region ?_
  refine vm rfl rfl ?_
  refine RL.val (O.eql rfl rfl) rfl ?_
  refine vm rfl rfl ?_
  refine RL.bcase (t := 35) rfl (fun hc => ?_) (fun hc => ?_)
  ·rw [if_pos hc] at hF
   refine RL.gval rfl rfl (O.move rfl) rfl ?_
   refine RL.geff rfl rfl (E.bsl (enc := (eI .u8)) (xs := ([8, 0, 243, 249, 1, 2, 3, 4] : List Int)) hM sl24 ze5 rfl rfl rfl (fun _ => rfl) rfl (by kernel_rfl) rfl) rfl fun v w66 hv => ?_
   clear hM
   obtain ⟨A67, rfl, hM, hf⟩ := hv
   refine obindE hF fun y69 hx70 hF => ?_
   refine RL.gcall rfl rfl Try.func12 bd12 rfl rfl (c_ref01_Same _ _ _ y7.1 (hM.rd (i := 0) rfl) _ _ ([8, 0, 243, 249, 1, 2, 3, 4] : List Int) (hM.rd (i := 4) rfl) _ hx70) fun v w71 hv => ?_
   obtain ⟨rfl, hN72⟩ := hv
   replace hM := hM.call0 hN72
   refine RL.val (O.pickt rfl rfl) rfl ?_
   refine vm rfl rfl ?_
   refine RL.bcase (t := 40) rfl (fun hc => ?_) (fun hc => ?_)
   ·rw [if_pos hc] at hF
    refine RL.gval rfl rfl (O.move rfl) rfl ?_
    refine RL.gval rfl rfl (O.eql rfl rfl) rfl ?_
    refine RL.val (O.pickt rfl rfl) rfl ?_
    refine vm rfl rfl ?_
    refine RL.bcase (t := 44) rfl (fun hc => ?_) (fun hc => ?_)
    ·rw [if_pos hc] at hF
     refine RL.gval rfl rfl (O.fldA fl26_1 (by decide) rfl) rfl ?_
     refine RL.gval rfl rfl (O.load sc22 rfl (Cs.adds [1] ((hM.bx (i := 3) rfl)) rfl)) rfl ?_
     refine RL.gval rfl rfl (O.eql rfl rfl) rfl ?_
     refine RL.val (O.pickt rfl rfl) rfl ?_
     refine vm rfl rfl ?_
     refine RL.bcase (t := 49) rfl (fun hc => ?_) (fun hc => ?_)
     ·rw [if_pos hc] at hF
      refine RL.gval rfl rfl (O.fldA fl26_2 (by decide) rfl) rfl ?_
      refine RL.gval rfl rfl (O.load sc22 rfl (Cs.adds [2] ((hM.bx (i := 3) rfl)) rfl)) rfl ?_
      refine RL.gval rfl rfl (O.eql rfl rfl) rfl ?_
      refine RL.val (O.pickt rfl rfl) rfl ?_
      refine vm rfl rfl ?_
      refine RL.bcase (t := 54) rfl (fun hc => ?_) (fun hc => ?_)
      ·rw [if_pos hc] at hF
       refine RL.gval rfl rfl (O.move rfl) rfl ?_
       refine RL.gval rfl rfl (O.eql rfl rfl) rfl ?_
       refine RL.val (O.pickt rfl rfl) rfl ?_
       refine vm rfl rfl ?_
       refine RL.bcase (t := 58) rfl (fun hc => ?_) (fun hc => ?_)
       ·rw [if_pos hc] at hF
        refine RL.gval rfl rfl (O.move rfl) rfl ?_
        refine RL.gval rfl rfl (O.eql rfl rfl) rfl ?_
        refine RL.val (O.pickt rfl rfl) rfl ?_
        refine vm rfl rfl ?_
        refine RL.bcase (t := 62) rfl (fun hc => ?_) (fun hc => ?_)
        ·rw [if_pos hc] at hF
         refine obindE hF fun y73 hx74 hF => ?_
         refine RL.gcall rfl rfl Try.func16 bd16 rfl rfl (c_trans_Flags _ 18 _ hx74) fun v w75 hv => ?_
         obtain ⟨rfl, hN76⟩ := hv
         replace hM := hM.call0 hN76
         refine RL.gval rfl rfl (O.streq rfl rfl) rfl ?_
         refine RL.val (O.pickt rfl rfl) rfl ?_
         refine va rfl rfl ?_
         refine RL.nil ?_
         refine KQ.then_k ?_
         replace hM := hM.pick [] rfl (by decide)
         exact fun a ha => ⟨(y73.toList == (⟨#[83, 65]⟩ : ByteArray).toList), ha.less (less_cons rfl less_nil), hM, hF⟩
        rw [if_neg (ne_true hc)] at hF
        refine RL.gskip rfl rfl rfl rfl ?_
        refine RL.gskip rfl rfl rfl rfl ?_
        refine RL.val (O.pickf rfl rfl) rfl ?_
        refine va rfl rfl ?_
        refine RL.nil ?_
        refine KQ.then_k ?_
        replace hM := hM.pick [] rfl (by decide)
        exact fun a ha => ⟨false, ha.less (less_cons rfl less_nil), hM, hF⟩
       rw [if_neg (ne_true hc)] at hF
       refine RL.brun1 7 65 false (by kernel_rfl) ?_
       refine va rfl rfl ?_
       refine RL.nil ?_
       refine KQ.then_k ?_
       replace hM := hM.pick [] rfl (by decide)
       exact fun a ha => ⟨false, ha.less (less_cons rfl less_nil), hM, hF⟩
      rw [if_neg (ne_true hc)] at hF
      refine RL.brun1 11 65 false (by kernel_rfl) ?_
      refine va rfl rfl ?_
      refine RL.nil ?_
      refine KQ.then_k ?_
      replace hM := hM.pick [] rfl (by decide)
      exact fun a ha => ⟨false, ha.less (less_cons rfl less_nil), hM, hF⟩
     rw [if_neg (ne_true hc)] at hF
     refine RL.brun1 16 65 false (by kernel_rfl) ?_
     refine va rfl rfl ?_
     refine RL.nil ?_
     refine KQ.then_k ?_
     replace hM := hM.pick [] rfl (by decide)
     exact fun a ha => ⟨false, ha.less (less_cons rfl less_nil), hM, hF⟩
    rw [if_neg (ne_true hc)] at hF
    refine RL.brun1 21 65 false (by kernel_rfl) ?_
    refine va rfl rfl ?_
    refine RL.nil ?_
    refine KQ.then_k ?_
    replace hM := hM.pick [] rfl (by decide)
    exact fun a ha => ⟨false, ha.less (less_cons rfl less_nil), hM, hF⟩
   rw [if_neg (ne_true hc)] at hF
   refine RL.brun1 25 65 false (by kernel_rfl) ?_
   refine va rfl rfl ?_
   refine RL.nil ?_
   refine KQ.then_k ?_
   replace hM := hM.pick [] rfl (by decide)
   exact fun a ha => ⟨false, ha.less (less_cons rfl less_nil), hM, hF⟩
  rw [if_neg (ne_true hc)] at hF
  refine RL.brun1 30 65 false (by kernel_rfl) ?_
  refine va rfl rfl ?_
  refine RL.nil ?_
  refine KQ.then_k ?_
  replace hM := hM.pick [] rfl (by decide)
  exact fun a ha => ⟨false, ha.less (less_cons rfl less_nil), hM, hF⟩
 rintro a w78 ⟨t77, ha, hM, hF⟩
 refine KC.app ha ?_
 clear ha
 unfold F_law07_works_j1 at hF
 refine KC.ret ?_
 have hE := Option.some.inj hF
 clear hF
 subst hE
 refine KQ.rets Try.results8 (RVs.cons (RV.tm rfl) RVs.nil) ?_
 exact ⟨_, rfl, rfl, hM⟩
set_option maxRecDepth 100000 in
set_option maxHeartbeats 40000000 in
theorem c_docs_Trans (w : World) (s1 : T_trans_Segment) (A2 : Option Addr) (c3 : Nat) (hr4 : Rd w A2 c3 1 s1.f_Options.length (s1.f_Options.flatMap (eI .u8))) (A5 : Option Addr) (c6 : Nat) (hr7 : Rd w A5 c6 1 s1.f_Data.length (s1.f_Data.flatMap (eI .u8))) (r : T_ref07_Segment) (hF : F_docs_Trans s1 = some r) :
  CallsR Try.prog 9 [.agg #[v8 s1.f_Proto, v16 s1.f_Src, v16 s1.f_Dst, v32 s1.f_Seq, v32 s1.f_Ack, v8 s1.f_Flags, v16 s1.f_Window, v16 s1.f_Urgent, .slice A2 (s1.f_Options).length c3, v8 s1.f_Type, v8 s1.f_Code, .slice A5 (s1.f_Data).length c6]] w (fun v w' => v = .agg #[v8 r.f_Proto, v16 r.f_Src, v16 r.f_Dst, v32 r.f_Seq, v32 r.f_Ack, v8 r.f_Flags, v16 r.f_Window, v16 r.f_Urgent, Value.string r.f_Options, v8 r.f_Type, v8 r.f_Code, Value.string r.f_Data] ∧ Mem w [] w' []) := by
 refine calls_KC Try.func9 rfl Try.ntmps9 rfl ?_
 have hM := Mem.init w
 unfold F_docs_Trans at hF
 refine sr fun Q8 hQ8 => ?_
 refine RL.eff (E.box (vs := [v8 s1.f_Proto, v16 s1.f_Src, v16 s1.f_Dst, v32 s1.f_Seq, v32 s1.f_Ack, v8 s1.f_Flags, v16 s1.f_Window, v16 s1.f_Urgent, .slice A2 (s1.f_Options).length c3, v8 s1.f_Type, v8 s1.f_Code, .slice A5 (s1.f_Data).length c6]) hM rfl rfl) rfl fun v w10 hv => ?_
 clear hM
 obtain ⟨g9, rfl, hM, hf⟩ := hv
 refine RL.eff (E.alloc hM ze30) rfl fun v w13 hv => ?_
 clear hM
 obtain ⟨g12, rfl, hM, hf⟩ := hv
 refine nt hQ8 ?_
 clear hQ8 Q8
 refine sr fun Q15 hQ15 => ?_
 refine RL.val (O.fldA fl26_0 (by decide) rfl) rfl ?_
 refine RL.val (O.load sc5 rfl (Cs.adds [0] ((hM.bx (i := 0) rfl)) rfl)) rfl ?_
 refine RL.val (O.fldA fl26_1 (by decide) rfl) rfl ?_
 refine RL.val (O.load sc22 rfl (Cs.adds [1] ((hM.bx (i := 0) rfl)) rfl)) rfl ?_
 refine RL.val (O.fldA fl26_2 (by decide) rfl) rfl ?_
 refine RL.val (O.load sc22 rfl (Cs.adds [2] ((hM.bx (i := 0) rfl)) rfl)) rfl ?_
 refine RL.val (O.fldA fl26_3 (by decide) rfl) rfl ?_
 refine RL.val (O.load sc23 rfl (Cs.adds [3] ((hM.bx (i := 0) rfl)) rfl)) rfl ?_
 refine RL.val (O.fldA fl26_4 (by decide) rfl) rfl ?_
 refine RL.val (O.load sc23 rfl (Cs.adds [4] ((hM.bx (i := 0) rfl)) rfl)) rfl ?_
 refine RL.val (O.fldA fl26_5 (by decide) rfl) rfl ?_
 refine RL.val (O.load sc5 rfl (Cs.adds [5] ((hM.bx (i := 0) rfl)) rfl)) rfl ?_
 refine RL.val (O.fldA fl26_6 (by decide) rfl) rfl ?_
 refine RL.val (O.load sc22 rfl (Cs.adds [6] ((hM.bx (i := 0) rfl)) rfl)) rfl ?_
 refine RL.val (O.fldA fl26_7 (by decide) rfl) rfl ?_
 refine RL.val (O.load sc22 rfl (Cs.adds [7] ((hM.bx (i := 0) rfl)) rfl)) rfl ?_
 refine RL.val (O.fldA fl26_8 (by decide) rfl) rfl ?_
 refine RL.val (O.load sc24 rfl (Cs.adds [8] ((hM.bx (i := 0) rfl)) rfl)) rfl ?_
 refine RL.val (O.b2s sl24 Try.underlying5 Try.underlying9 rfl ((hM.inp hr4 Off.nil))) rfl ?_
 refine RL.val (O.fldA fl26_9 (by decide) rfl) rfl ?_
 refine RL.val (O.load sc5 rfl (Cs.adds [9] ((hM.bx (i := 0) rfl)) rfl)) rfl ?_
 refine RL.val (O.fldA fl26_10 (by decide) rfl) rfl ?_
 refine RL.val (O.load sc5 rfl (Cs.adds [10] ((hM.bx (i := 0) rfl)) rfl)) rfl ?_
 refine RL.val (O.fldA fl26_11 (by decide) rfl) rfl ?_
 refine RL.val (O.load sc24 rfl (Cs.adds [11] ((hM.bx (i := 0) rfl)) rfl)) rfl ?_
 refine RL.val (O.b2s sl24 Try.underlying5 Try.underlying9 rfl ((hM.inp hr7 Off.nil))) rfl ?_
 refine RL.val (O.bld (cs := [v8 s1.f_Proto, v16 s1.f_Src, v16 s1.f_Dst, v32 s1.f_Seq, v32 s1.f_Ack, v8 s1.f_Flags, v16 s1.f_Window, v16 s1.f_Urgent, Value.string (strOfNums s1.f_Options), v8 s1.f_Type, v8 s1.f_Code, Value.string (strOfNums s1.f_Data)]) bt30 rfl (by kernel_rfl)) rfl ?_
 refine RL.effs (E.stB (j := 1) (off := 0) (vs := [v8 s1.f_Proto, v16 s1.f_Src, v16 s1.f_Dst, v32 s1.f_Seq, v32 s1.f_Ack, v8 s1.f_Flags, v16 s1.f_Window, v16 s1.f_Urgent, Value.string (strOfNums s1.f_Options), v8 s1.f_Type, v8 s1.f_Code, Value.string (strOfNums s1.f_Data)]) (cs' := [v8 s1.f_Proto, v16 s1.f_Src, v16 s1.f_Dst, v32 s1.f_Seq, v32 s1.f_Ack, v8 s1.f_Flags, v16 s1.f_Window, v16 s1.f_Urgent, Value.string (strOfNums s1.f_Options), v8 s1.f_Type, v8 s1.f_Code, Value.string (strOfNums s1.f_Data)]) hM rfl sz30 rfl (adds_eq [] rfl) rfl rfl (One.all rfl) rfl rfl) fun w16 hM1 => ?_
 clear hM
 have hM := hM1
 clear hM1
 refine nt hQ15 ?_
 clear hQ15 Q15
 refine KC.ret ?_
 have hE := Option.some.inj hF
 clear hF
 subst hE
 have hb17 := hM.bx (i := 1) rfl
 replace hM := hM.pick [] rfl (by decide)
 refine KQ.rets Try.results9 (RVs.cons (RV.cN (cs := [v8 s1.f_Proto, v16 s1.f_Src, v16 s1.f_Dst, v32 s1.f_Seq, v32 s1.f_Ack, v8 s1.f_Flags, v16 s1.f_Window, v16 s1.f_Urgent, Value.string (strOfNums s1.f_Options), v8 s1.f_Type, v8 s1.f_Code, Value.string (strOfNums s1.f_Data)]) rfl ag30 hb17) RVs.nil) ?_
 exact ⟨_, rfl, rfl, hM⟩
set_option maxRecDepth 100000 in
set_option maxHeartbeats 40000000 in
theorem c_ref07_Head (w : World) (proto1 : Int) (r : Int) (hF : F_ref07_Head proto1 = some r) :
  CallsR Try.prog 25 [v8 proto1] w (fun v w' => v = vI r ∧ Mem w [] w' []) := by
 refine calls_KC Try.func25 rfl Try.ntmps25 rfl ?_
 have hM := Mem.init w
 unfold F_ref07_Head at hF
 refine sr fun Q2 hQ2 => ?_
 refine va rfl rfl ?_
 refine nt hQ2 ?_
 clear hQ2 Q2
 refine KC.seqH fun Q3 hQ3 => ?_
 refine sr fun Q4 hQ4 => ?_
 refine vm rfl rfl ?_
 refine nt hQ4 ?_
 clear hQ4 Q4
 refine KC.block ?_
 refine sr fun Q5 hQ5 => ?_
 refine RL.val (O.eql rfl rfl) rfl ?_
 refine va rfl rfl ?_
 refine nt hQ5 ?_
 clear hQ5 Q5
 refine KC.cond rfl (fun hc => ?_) (fun hc => ?_)
 ·rw [if_pos hc] at hF
  refine sr fun Q6 hQ6 => ?_
  refine va rfl rfl ?_
  refine nt hQ6 ?_
  clear hQ6 Q6
  refine KC.ret ?_
  refine KQ.blk_r ?_
  refine KQ.thr hQ3 ?_
  clear hQ3 Q3
  have hE := Option.some.inj hF
  clear hF
  subst hE
  refine KQ.rets Try.results25 (RVs.cons (RV.tm rfl) RVs.nil) ?_
  exact ⟨_, rfl, rfl, hM⟩
 rw [if_neg (ne_true hc)] at hF
 refine sr fun Q7 hQ7 => ?_
 refine RL.val (O.eql rfl rfl) rfl ?_
 refine va rfl rfl ?_
 refine nt hQ7 ?_
 clear hQ7 Q7
 refine KC.cond rfl (fun hc => ?_) (fun hc => ?_)
 ·rw [if_pos hc] at hF
  refine sr fun Q8 hQ8 => ?_
  refine va rfl rfl ?_
  refine nt hQ8 ?_
  clear hQ8 Q8
  refine KC.ret ?_
  refine KQ.blk_r ?_
  refine KQ.thr hQ3 ?_
  clear hQ3 Q3
  have hE := Option.some.inj hF
  clear hF
  subst hE
  refine KQ.rets Try.results25 (RVs.cons (RV.tm rfl) RVs.nil) ?_
  exact ⟨_, rfl, rfl, hM⟩
 rw [if_neg (ne_true hc)] at hF
 refine KC.cut (fun a w11 => ∃ (t10 : Bool), Kn 11 [(8, vB t10)] a ∧ Mem w [] w11 [] ∧ F_ref07_Head_j1 t10 = some r) ?_ ?_
 ·refine sr fun Q9 hQ9 => ?_
  refine RL.val (O.eql rfl rfl) rfl ?_
  refine va rfl rfl ?_
  refine nt hQ9 ?_
  clear hQ9 Q9
  refine KC.cond rfl (fun hc => ?_) (fun hc => ?_)
  ·rw [if_pos hc] at hF
   refine KC.skip ?_
   refine KQ.then_k ?_
   exact fun a ha => ⟨(proto1 == 1), ha.less (less_cons rfl less_nil), hM, hF⟩
  rw [if_neg (ne_true hc)] at hF
  refine KC.region ?_
  refine RL.val (O.eql rfl rfl) rfl ?_
  refine va rfl rfl ?_
  refine RL.nil ?_
  refine KQ.then_k ?_
  exact fun a ha => ⟨(proto1 == 58), ha.less (less_cons rfl less_nil), hM, hF⟩
 rintro a w11 ⟨t10, ha, hM, hF⟩
 refine KC.app ha ?_
 clear ha
 unfold F_ref07_Head_j1 at hF
 refine KC.cond rfl (fun hc => ?_) (fun hc => ?_)
 ·rw [if_pos hc] at hF
  refine sr fun Q12 hQ12 => ?_
  refine va rfl rfl ?_
  refine nt hQ12 ?_
  clear hQ12 Q12
  refine KC.ret ?_
  refine KQ.blk_r ?_
  refine KQ.thr hQ3 ?_
  clear hQ3 Q3
  have hE := Option.some.inj hF
  clear hF
  subst hE
  refine KQ.rets Try.results25 (RVs.cons (RV.tm rfl) RVs.nil) ?_
  exact ⟨_, rfl, rfl, hM⟩
 rw [if_neg (ne_true hc)] at hF
 refine KC.skip ?_
 refine KQ.blk_n ?_
 refine KQ.thn hQ3 ?_
 clear hQ3 Q3
 refine sr fun Q13 hQ13 => ?_
 refine va rfl rfl ?_
 refine nt hQ13 ?_
 clear hQ13 Q13
 refine KC.ret ?_
 have hE := Option.some.inj hF
 clear hF
 subst hE
 refine KQ.rets Try.results25 (RVs.cons (RV.tm rfl) RVs.nil) ?_
 exact ⟨_, rfl, rfl, hM⟩
set_option maxRecDepth 100000 in
set_option maxHeartbeats 40000000 in
theorem c_ref07_Length (w : World) (s1 : T_ref07_Segment) (r : Int) (hF : F_ref07_Length s1 = some r) :
  CallsR Try.prog 27 [.agg #[v8 s1.f_Proto, v16 s1.f_Src, v16 s1.f_Dst, v32 s1.f_Seq, v32 s1.f_Ack, v8 s1.f_Flags, v16 s1.f_Window, v16 s1.f_Urgent, Value.string s1.f_Options, v8 s1.f_Type, v8 s1.f_Code, Value.string s1.f_Data]] w (fun v w' => v = vI r ∧ Mem w [] w' []) := by
 refine calls_KC Try.func27 rfl Try.ntmps27 rfl ?_
 have hM := Mem.init w
 unfold F_ref07_Length at hF
 refine sr fun Q2 hQ2 => ?_
 refine RL.eff (E.box (vs := [v8 s1.f_Proto, v16 s1.f_Src, v16 s1.f_Dst, v32 s1.f_Seq, v32 s1.f_Ack, v8 s1.f_Flags, v16 s1.f_Window, v16 s1.f_Urgent, Value.string s1.f_Options, v8 s1.f_Type, v8 s1.f_Code, Value.string s1.f_Data]) hM rfl rfl) rfl fun v w4 hv => ?_
 clear hM
 obtain ⟨g3, rfl, hM, hf⟩ := hv
 refine va rfl rfl ?_
 refine nt hQ2 ?_
 clear hQ2 Q2
 refine KC.seqH fun Q6 hQ6 => ?_
 replace hM := hM.drewN 1
 refine KC.draw [] [] [2] [0, 3, 5, 6, 7, 9, 10, 11] (.ofList [0, 1, 3, 4, 5, 7, 8, 9, 2, 6, 10, 11]) moP (by kernel_rfl) ?_
 refine RD.p rfl rfl rfl rfl (fun w' => O.fldA fl30_0 (by decide) rfl) ?_
 refine RD.q rfl rfl rfl rfl (fun w' hf => O.load sc5 rfl (Cs.adds [0] ((hM.bx (i := 0) rfl).fut hf) rfl)) ?_
 refine RD.p rfl rfl rfl rfl (fun w' => O.fldA fl30_8 (by decide) rfl) ?_
 refine RD.q rfl rfl rfl rfl (fun w' hf => O.load sc9 rfl (Cs.adds [8] ((hM.bx (i := 0) rfl).fut hf) rfl)) ?_
 refine RD.p rfl rfl rfl rfl (fun w' => O.lens Try.underlying9 rfl) ?_
 refine RD.p rfl rfl rfl rfl (fun w' => O.fldA fl30_11 (by decide) rfl) ?_
 refine RD.q rfl rfl rfl rfl (fun w' hf => O.load sc9 rfl (Cs.adds [11] ((hM.bx (i := 0) rfl).fut hf) rfl)) ?_
 refine RD.p rfl rfl rfl rfl (fun w' => O.lens Try.underlying9 rfl) ?_
 refine obindE hF fun y7 hx8 hF => ?_
 refine RD.mcall rfl rfl trivial Try.func25 bd25 rfl rfl (c_ref07_Head _ s1.f_Proto _ hx8) fun v w9 hv => ?_
 obtain ⟨rfl, hN10⟩ := hv
 refine ⟨fun _ => hN10.fut, ?_⟩
 replace hM := hM.call0 hN10
 refine RD.p rfl rfl rfl rfl (fun w' => O.add rfl rfl) ?_
 refine RD.p rfl rfl rfl rfl (fun w' => O.add rfl rfl) ?_
 refine RD.p rfl rfl rfl rfl (fun w' => O.assign rfl) ?_
 refine RD.nil ?_
 refine KQ.thn hQ6 ?_
 clear hQ6 Q6
 refine KC.ret ?_
 have hE := Option.some.inj hF
 clear hF
 subst hE
 replace hM := hM.pick [] rfl (by decide)
 refine KQ.rets Try.results27 (RVs.cons (RV.tm rfl) RVs.nil) ?_
 exact ⟨_, rfl, rfl, hM⟩
end Go.Proofs.Ytcinagdkkclapaa
