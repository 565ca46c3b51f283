/- Printed by a program of this claim: each call returns what the plain function of its name gives. -/
import Derived.Test.YtcinagdkkclapaaW1
import Derived.Test.YtcinagdkkclapaaW4
set_option linter.unusedVariables false
namespace Go.Proofs.Ytcinagdkkclapaa
open Go Go.Ox Go.RowKit
set_option maxRecDepth 100000 in
set_option maxHeartbeats 40000000 in
theorem c_bits_Writer_Set (w : World) (g2 : Nat) (tg7 : TypeId) (wv1 : T_bits_Writer) (A4 : Option Addr) (c5 : Nat) (hL11 : Lent w [.box g2 tg7 [.slice A4 (wv1.f_b).length c5], .row A4 c5 5 1 (wv1.f_b).length ((wv1.f_b).flatMap (eI .u8))]) (atv8 : Int) (v9 : Int) (size10 : Int) (r : Int × T_bits_Writer) (hF : F_bits_Writer_Set wv1 atv8 v9 size10 = some r) :
  CallsR Try.prog 36 [.pointer (some ⟨g2, 0, none⟩), vI atv8, v64 v9, vI size10] w (fun v w' => ∃ (A0 : Option Addr) (c0 : Nat), v = vI r.1 ∧ Mem w [some g2, rblk A4 c5] w' [.box g2 tg7 [.slice A0 (r.2.f_b).length c0], .row A0 c0 5 1 r.2.f_b.length (r.2.f_b.flatMap (eI .u8))]) := by
 refine calls_KC Try.func36 rfl Try.ntmps36 rfl ?_
 have hM : Mem w [some g2, rblk A4 c5] w [.box g2 tg7 [.slice A4 (wv1.f_b).length c5], .row A4 c5 5 1 (wv1.f_b).length ((wv1.f_b).flatMap (eI .u8))] := Mem.lendN hL11
 unfold F_bits_Writer_Set at hF
 refine sr fun Q12 hQ12 => ?_
 refine va rfl rfl ?_
 refine nt hQ12 ?_
 clear hQ12 Q12
 refine KC.seqH fun Q13 hQ13 => ?_
 refine sr fun Q14 hQ14 => ?_
 refine vm rfl rfl ?_
 refine RL.val (O.peqn Try.underlying71 rfl rfl) rfl ?_
 refine nt hQ14 ?_
 clear hQ14 Q14
 refine KC.condF rfl ?_
 refine KC.skip ?_
 refine KQ.thn hQ13 ?_
 clear hQ13 Q13
 refine KC.seqH fun Q15 hQ15 => ?_
 refine KC.cut (fun a w23 => ∃ (t22 : Bool), Kn 49 [(0, .pointer (some ⟨g2, 0, none⟩)), (1, vI atv8), (2, v64 v9), (3, vI size10), (38, vB t22)] a ∧ Mem w [some g2, rblk A4 c5] w23 [.row A4 c5 5 1 (wv1.f_b).length ((wv1.f_b).flatMap (eI .u8)), .box g2 tg7 [.slice A4 (wv1.f_b).length c5]] ∧ F_bits_Writer_Set_j1 wv1 atv8 v9 size10 t22 = some r) ?_ ?_
 ·refine KC.region ?_
  refine vm rfl rfl ?_
  refine vm rfl rfl ?_
  refine obindE hF fun y16 hx17 hF => ?_
  refine RL.call Try.func62 bd62 rfl rfl (c_bits_fits _ v9 size10 _ hx17) fun v w18 hv => ?_
  obtain ⟨rfl, hN19⟩ := hv
  replace hM := hM.call0 hN19
  refine RL.val (O.not rfl) rfl ?_
  refine vm rfl rfl ?_
  refine RL.bcase (t := 15) rfl (fun hc => ?_) (fun hc => ?_)
  ·rw [if_pos hc] at hF
   refine RL.brun1 23 38 true (by kernel_rfl) ?_
   refine RL.nil ?_
   refine KQ.then_k ?_
   replace hM := hM.pick [1, 0] rfl (by decide)
   exact fun a ha => ⟨true, ha.less (less_cons rfl (less_cons rfl (less_cons rfl (less_cons rfl (less_cons rfl less_nil))))), hM, hF⟩
  rw [if_neg (ne_true hc)] at hF
  refine RL.gval rfl rfl (O.move rfl) rfl ?_
  refine RL.gval rfl rfl (O.lss rfl rfl) rfl ?_
  refine RL.val (O.pickf rfl rfl) rfl ?_
  refine vm rfl rfl ?_
  refine RL.bcase (t := 19) rfl (fun hc => ?_) (fun hc => ?_)
  ·rw [if_pos hc] at hF
   refine RL.brun1 19 38 true (by kernel_rfl) ?_
   refine RL.nil ?_
   refine KQ.then_k ?_
   replace hM := hM.pick [1, 0] rfl (by decide)
   exact fun a ha => ⟨true, ha.less (less_cons rfl (less_cons rfl (less_cons rfl (less_cons rfl (less_cons rfl less_nil))))), hM, hF⟩
  rw [if_neg (ne_true hc)] at hF
  refine RL.gval rfl rfl (O.move rfl) rfl ?_
  refine RL.gval rfl rfl (O.move rfl) rfl ?_
  refine RL.gval rfl rfl (O.nilp rfl) rfl ?_
  refine RL.gval rfl rfl (O.fldA fl70_0 (by decide) rfl) rfl ?_
  refine RL.gval rfl rfl (O.load sc24 rfl (Cs.adds [0] ((hM.bx (i := 0) rfl)) rfl)) rfl ?_
  refine RL.gval rfl rfl (O.len sl24 rfl) rfl ?_
  refine RL.gval rfl rfl (O.gtr rfl rfl) rfl ?_
  refine RL.val (O.pickf rfl rfl) rfl ?_
  refine vm rfl rfl ?_
  refine RL.bcase (t := 28) rfl (fun hc => ?_) (fun hc => ?_)
  ·rw [if_pos hc] at hF
   refine RL.brun1 10 38 true (by kernel_rfl) ?_
   refine RL.nil ?_
   refine KQ.then_k ?_
   replace hM := hM.pick [1, 0] rfl (by decide)
   exact fun a ha => ⟨true, ha.less (less_cons rfl (less_cons rfl (less_cons rfl (less_cons rfl (less_cons rfl less_nil))))), hM, hF⟩
  rw [if_neg (ne_true hc)] at hF
  refine RL.gval rfl rfl (O.move rfl) rfl ?_
  refine RL.gval rfl rfl (O.nilp rfl) rfl ?_
  refine RL.gval rfl rfl (O.fldA fl70_0 (by decide) rfl) rfl ?_
  refine RL.gval rfl rfl (O.load sc24 rfl (Cs.adds [0] ((hM.bx (i := 0) rfl)) rfl)) rfl ?_
  refine RL.gval rfl rfl (O.len sl24 rfl) rfl ?_
  refine RL.gval rfl rfl (O.move rfl) rfl ?_
  refine RL.gval rfl rfl (O.sub rfl rfl) rfl ?_
  refine RL.gval rfl rfl (O.move rfl) rfl ?_
  refine RL.gval rfl rfl (O.lss rfl rfl) rfl ?_
  refine RL.val (O.pickf rfl rfl) rfl ?_
  refine RL.nil ?_
  refine KQ.then_k ?_
  replace hM := hM.pick [1, 0] rfl (by decide)
  exact fun a ha => ⟨(decide ((IntKind.i64.wrap ((wv1.f_b.length : Int) - atv8)) < size10)), ha.less (less_cons rfl (less_cons rfl (less_cons rfl (less_cons rfl (less_cons rfl less_nil))))), hM, hF⟩
 rintro a w23 ⟨t22, ha, hM, hF⟩
 refine KC.app ha ?_
 clear ha
 unfold F_bits_Writer_Set_j1 at hF
 refine KC.cond rfl (fun hc => ?_) (fun hc => ?_)
 ·rw [if_pos hc] at hF
  refine sr fun Q24 hQ24 => ?_
  refine va rfl rfl ?_
  refine nt hQ24 ?_
  clear hQ24 Q24
  refine KC.ret ?_
  refine KQ.thr hQ15 ?_
  clear hQ15 Q15
  have hE := Option.some.inj hF
  clear hF
  subst hE
  replace hM := hM.pick [1, 0] rfl (by decide)
  refine KQ.rets Try.results36 (RVs.cons (RV.tm rfl) RVs.nil) ?_
  exact ⟨_, rfl, A4, c5, rfl, hM⟩
 rw [if_neg (ne_true hc)] at hF
 refine KC.skip ?_
 refine KQ.thn hQ15 ?_
 clear hQ15 Q15
 refine KC.seqH fun Q25 hQ25 => ?_
 replace hM := hM.drewN 1
 refine KC.draw [] [9] [8, 9] [0, 1, 2, 4, 5, 6, 7] (.ofList [0, 1, 2, 3, 4, 5, 6, 7, 8, 9]) moP (by kernel_rfl) ?_
 refine RD.p rfl rfl rfl rfl (fun w' => O.move rfl) ?_
 refine RD.p rfl rfl rfl rfl (fun w' => O.nilp rfl) ?_
 refine RD.p rfl rfl rfl rfl (fun w' => O.fldA fl70_0 (by decide) rfl) ?_
 refine RD.q rfl rfl rfl rfl (fun w' hf => O.load sc24 rfl (Cs.adds [0] ((hM.bx (i := 1) rfl).fut hf) rfl)) ?_
 refine RD.p rfl rfl rfl rfl (fun w' => O.move rfl) ?_
 refine obindE hF fun cut26 hy27 hF => ?_
 refine cutNE A4 c5 (Int.toNat atv8) 1 fun A28 c29 eA31 ec32 => ?_
 have hr30 := Rd.cutT (enc := (eI .u8)) (s := 1) (fun _ => rfl) (hM.rd (i := 0) rfl) hy27 (m := c5) (by have := (hM.rd (i := 0) rfl).cap; have := (gcut_some hy27).2.2.1; omega) (Nat.le_refl _)
 rw [← eA31, ← ec32] at hr30
 refine RD.p (v := .slice A28 (cut26).length c29) rfl rfl rfl rfl (fun w' => (by rw [eA31, ec32]; exact O.cutlT sl24 (hM.rd (i := 0) rfl) hy27 rfl rfl)) ?_
 refine RD.p rfl rfl rfl rfl (fun w' => O.move rfl) ?_
 refine RD.p rfl rfl rfl rfl (fun w' => O.move rfl) ?_
 refine obindE hF fun y33 hx34 hF => ?_
 refine RD.mcall rfl rfl trivial Try.func63 bd63 rfl rfl (c_bits_of _ v9 size10 _ hx34) fun v w35 hv => ?_
 obtain ⟨A37, c38, rfl, hN36⟩ := hv
 refine ⟨fun _ => hN36.fut, ?_⟩
 have hr30 := hr30.fut hN36.fut
 replace hM := hM.call hN36
 refine RD.meff rfl rfl (E.copyR (k := .u8) (j := 0) (xs := wv1.f_b) (ys := y33) hM rfl sl24 hy27 eA31 (cut_room ((hM.rd (i := 0) rfl)) hy27) rfl rfl (hM.rd (i := 2) rfl)) rfl fun v w40 hv => ?_
 clear hM
 obtain ⟨rfl, hM, hn41⟩ := hv
 refine ⟨fun h => (by cases h), ?_⟩
 refine RD.reslot (t := 42) rfl hn41 ?_
 replace hM := hM.rebox (i := 1) (cs' := [.slice A4 ((cpR (Int.toNat atv8) (Nat.min y33.length cut26.length) wv1.f_b y33)).length c5]) rfl (by rw [← hn41])
 refine RD.nil ?_
 refine KQ.thn hQ25 ?_
 clear hQ25 Q25
 refine sr fun Q42 hQ42 => ?_
 refine va rfl rfl ?_
 refine nt hQ42 ?_
 clear hQ42 Q42
 refine KC.ret ?_
 have hE := Option.some.inj hF
 clear hF
 subst hE
 replace hM := hM.pick [1, 0] rfl (by decide)
 refine KQ.rets Try.results36 (RVs.cons (RV.tm rfl) RVs.nil) ?_
 exact ⟨_, rfl, A4, c5, rfl, hM⟩
set_option maxRecDepth 100000 in
set_option maxHeartbeats 40000000 in
theorem c_trans_putUDP (w : World) (g2 : Nat) (tg7 : TypeId) (wv1 : T_bits_Writer) (A4 : Option Addr) (c5 : Nat) (hL17 : Lent w [.box g2 tg7 [.slice A4 (wv1.f_b).length c5], .row A4 c5 5 1 (wv1.f_b).length ((wv1.f_b).flatMap (eI .u8))]) (s8 : T_trans_Segment) (A9 : Option Addr) (c10 : Nat) (hr11 : Rd w A9 c10 1 s8.f_Options.length (s8.f_Options.flatMap (eI .u8))) (ho12 : Off [some g2, rblk A4 c5] s8.f_Options.length A9) (A13 : Option Addr) (c14 : Nat) (hr15 : Rd w A13 c14 1 s8.f_Data.length (s8.f_Data.flatMap (eI .u8))) (ho16 : Off [some g2, rblk A4 c5] s8.f_Data.length A13) (r : T_bits_Writer) (hF : F_trans_putUDP wv1 s8 = some r) :
  CallsR Try.prog 53 [.pointer (some ⟨g2, 0, none⟩), .agg #[v8 s8.f_Proto, v16 s8.f_Src, v16 s8.f_Dst, v32 s8.f_Seq, v32 s8.f_Ack, v8 s8.f_Flags, v16 s8.f_Window, v16 s8.f_Urgent, .slice A9 (s8.f_Options).length c10, v8 s8.f_Type, v8 s8.f_Code, .slice A13 (s8.f_Data).length c14]] w (fun v w' => ∃ (A0 : Option Addr) (c0 : Nat), v = .tuple #[] ∧ Mem w [some g2, rblk A4 c5] w' [.box g2 tg7 [.slice A0 (r.f_b).length c0], .row A0 c0 5 1 r.f_b.length (r.f_b.flatMap (eI .u8))]) := by
 refine calls_KC Try.func53 rfl Try.ntmps53 rfl ?_
 have hM : Mem w [some g2, rblk A4 c5] w [.box g2 tg7 [.slice A4 (wv1.f_b).length c5], .row A4 c5 5 1 (wv1.f_b).length ((wv1.f_b).flatMap (eI .u8))] := Mem.lendN hL17
 unfold F_trans_putUDP at hF
 refine sr fun Q18 hQ18 => ?_
 refine RL.eff (E.box (vs := [v8 s8.f_Proto, v16 s8.f_Src, v16 s8.f_Dst, v32 s8.f_Seq, v32 s8.f_Ack, v8 s8.f_Flags, v16 s8.f_Window, v16 s8.f_Urgent, .slice A9 (s8.f_Options).length c10, v8 s8.f_Type, v8 s8.f_Code, .slice A13 (s8.f_Data).length c14]) hM rfl rfl) rfl fun v w20 hv => ?_
 clear hM
 obtain ⟨g19, rfl, hM, hf⟩ := hv
 refine nt hQ18 ?_
 clear hQ18 Q18
 refine KC.region ?_
 refine vm rfl rfl ?_
 refine RL.val (O.fldA fl26_1 (by decide) rfl) rfl ?_
 refine RL.val (O.load sc22 rfl (Cs.adds [1] ((hM.bx (i := 2) rfl)) rfl)) rfl ?_
 refine RL.val (O.conv un22 Try.underlying76 rfl) rfl ?_
 refine RL.val (O.fldA fl26_2 (by decide) rfl) rfl ?_
 refine RL.val (O.load sc22 rfl (Cs.adds [2] ((hM.bx (i := 2) rfl)) rfl)) rfl ?_
 refine RL.val (O.conv un22 Try.underlying76 rfl) rfl ?_
 refine RL.val (O.fldA fl26_11 (by decide) rfl) rfl ?_
 refine RL.val (O.load sc24 rfl (Cs.adds [11] ((hM.bx (i := 2) rfl)) rfl)) rfl ?_
 refine RL.val (O.len sl24 rfl) rfl ?_
 refine RL.val (O.add rfl rfl) rfl ?_
 refine RL.val (O.conv un3 Try.underlying76 rfl) rfl ?_
 refine RL.eff (E.bsl (enc := (eI .u64)) (xs := ([(IntKind.u64.wrap s8.f_Src), (IntKind.u64.wrap s8.f_Dst), (IntKind.u64.wrap (IntKind.i64.wrap (8 + (s8.f_Data.length : Int)))), 0] : List Int)) hM sl101 ze76 rfl rfl rfl (fun _ => rfl) rfl (by kernel_rfl) rfl) rfl fun v w22 hv => ?_
 clear hM
 obtain ⟨A23, rfl, hM, hf⟩ := hv
 refine obindE hF fun y25 hx26 hF => ?_
 refine RL.call Try.func56 bd56 rfl rfl (c_trans_each _ _ _ wv1 _ _ (hM.lent [0, 1] rfl (by decide)) 2 _ _ ([(IntKind.u64.wrap s8.f_Src), (IntKind.u64.wrap s8.f_Dst), (IntKind.u64.wrap (IntKind.i64.wrap (8 + (s8.f_Data.length : Int)))), 0] : List Int) (hM.rd (i := 3) rfl) (hM.offR [0, 1] rfl (i := 3) rfl rfl) _ hx26) fun v w27 hv => ?_
 obtain ⟨A29, c30, rfl, hN28⟩ := hv
 replace hM := hM.callL [0, 1] [2, 3] rfl rfl (by decide) rfl hN28
 refine RL.nil ?_
 have hE := Option.some.inj hF
 clear hF
 subst hE
 replace hM := hM.pick [2, 3] rfl (by decide)
 refine KQ.endr Try.results53 RVs.nil ?_
 exact ⟨_, rfl, A29, c30, rfl, hM⟩
set_option maxRecDepth 100000 in
set_option maxHeartbeats 40000000 in
theorem c_trans_putICMP (w : World) (g2 : Nat) (tg7 : TypeId) (wv1 : T_bits_Writer) (A4 : Option Addr) (c5 : Nat) (hL17 : Lent w [.box g2 tg7 [.slice A4 (wv1.f_b).length c5], .row A4 c5 5 1 (wv1.f_b).length ((wv1.f_b).flatMap (eI .u8))]) (s8 : T_trans_Segment) (A9 : Option Addr) (c10 : Nat) (hr11 : Rd w A9 c10 1 s8.f_Options.length (s8.f_Options.flatMap (eI .u8))) (ho12 : Off [some g2, rblk A4 c5] s8.f_Options.length A9) (A13 : Option Addr) (c14 : Nat) (hr15 : Rd w A13 c14 1 s8.f_Data.length (s8.f_Data.flatMap (eI .u8))) (ho16 : Off [some g2, rblk A4 c5] s8.f_Data.length A13) (r : T_bits_Writer) (hF : F_trans_putICMP wv1 s8 = some r) :
  CallsR Try.prog 47 [.pointer (some ⟨g2, 0, none⟩), .agg #[v8 s8.f_Proto, v16 s8.f_Src, v16 s8.f_Dst, v32 s8.f_Seq, v32 s8.f_Ack, v8 s8.f_Flags, v16 s8.f_Window, v16 s8.f_Urgent, .slice A9 (s8.f_Options).length c10, v8 s8.f_Type, v8 s8.f_Code, .slice A13 (s8.f_Data).length c14]] w (fun v w' => ∃ (A0 : Option Addr) (c0 : Nat), v = .tuple #[] ∧ Mem w [some g2, rblk A4 c5] w' [.box g2 tg7 [.slice A0 (r.f_b).length c0], .row A0 c0 5 1 r.f_b.length (r.f_b.flatMap (eI .u8))]) := by
 refine calls_KC Try.func47 rfl Try.ntmps47 rfl ?_
 have hM : Mem w [some g2, rblk A4 c5] w [.box g2 tg7 [.slice A4 (wv1.f_b).length c5], .row A4 c5 5 1 (wv1.f_b).length ((wv1.f_b).flatMap (eI .u8))] := Mem.lendN hL17
 unfold F_trans_putICMP at hF
 refine sr fun Q18 hQ18 => ?_
 refine RL.eff (E.box (vs := [v8 s8.f_Proto, v16 s8.f_Src, v16 s8.f_Dst, v32 s8.f_Seq, v32 s8.f_Ack, v8 s8.f_Flags, v16 s8.f_Window, v16 s8.f_Urgent, .slice A9 (s8.f_Options).length c10, v8 s8.f_Type, v8 s8.f_Code, .slice A13 (s8.f_Data).length c14]) hM rfl rfl) rfl fun v w20 hv => ?_
 clear hM
 obtain ⟨g19, rfl, hM, hf⟩ := hv
 refine nt hQ18 ?_
 clear hQ18 Q18
 refine sr fun Q22 hQ22 => ?_
 refine vm rfl rfl ?_
 refine RL.val (O.fldA fl26_9 (by decide) rfl) rfl ?_
 refine RL.val (O.load sc5 rfl (Cs.adds [9] ((hM.bx (i := 2) rfl)) rfl)) rfl ?_
 refine RL.val (O.conv un5 Try.underlying76 rfl) rfl ?_
 refine RL.val (O.fldA fl26_10 (by decide) rfl) rfl ?_
 refine RL.val (O.load sc5 rfl (Cs.adds [10] ((hM.bx (i := 2) rfl)) rfl)) rfl ?_
 refine RL.val (O.conv un5 Try.underlying76 rfl) rfl ?_
 refine RL.eff (E.bsl (enc := (eI .u64)) (xs := ([(IntKind.u64.wrap s8.f_Type), (IntKind.u64.wrap s8.f_Code)] : List Int)) hM sl101 ze76 rfl rfl rfl (fun _ => rfl) rfl (by kernel_rfl) rfl) rfl fun v w23 hv => ?_
 clear hM
 obtain ⟨A24, rfl, hM, hf⟩ := hv
 refine obindE hF fun y26 hx27 hF => ?_
 refine RL.call Try.func56 bd56 rfl rfl (c_trans_each _ _ _ wv1 _ _ (hM.lent [0, 1] rfl (by decide)) 1 _ _ ([(IntKind.u64.wrap s8.f_Type), (IntKind.u64.wrap s8.f_Code)] : List Int) (hM.rd (i := 3) rfl) (hM.offR [0, 1] rfl (i := 3) rfl rfl) _ hx27) fun v w28 hv => ?_
 obtain ⟨A30, c31, rfl, hN29⟩ := hv
 replace hM := hM.callL [0, 1] [2, 3] rfl rfl (by decide) rfl hN29
 refine nt hQ22 ?_
 clear hQ22 Q22
 replace hM := hM.pick [2, 3] rfl (by decide)
 refine KC.region ?_
 refine vm rfl rfl ?_
 refine RL.eff (E.bsl (enc := (eI .u64)) (xs := ([0] : List Int)) hM sl101 ze76 rfl rfl rfl (fun _ => rfl) rfl (by kernel_rfl) rfl) rfl fun v w33 hv => ?_
 clear hM
 obtain ⟨A34, rfl, hM, hf⟩ := hv
 refine obindE hF fun y36 hx37 hF => ?_
 refine RL.call Try.func56 bd56 rfl rfl (c_trans_each _ _ _ y26 _ _ (hM.lent [0, 1] rfl (by decide)) 2 _ _ ([0] : List Int) (hM.rd (i := 2) rfl) (hM.offR [0, 1] rfl (i := 2) rfl rfl) _ hx37) fun v w38 hv => ?_
 obtain ⟨A40, c41, rfl, hN39⟩ := hv
 replace hM := hM.callL [0, 1] [2] rfl rfl (by decide) rfl hN39
 refine RL.nil ?_
 have hE := Option.some.inj hF
 clear hF
 subst hE
 replace hM := hM.pick [1, 2] rfl (by decide)
 refine KQ.endr Try.results47 RVs.nil ?_
 exact ⟨_, rfl, A40, c41, rfl, hM⟩
end Go.Proofs.Ytcinagdkkclapaa
