/- Printed by a program of this claim: each call returns what the plain function of its name gives. -/
import Derived.Test.YtcinagdkkclapaaW1
import Derived.Test.YtcinagdkkclapaaW4
set_option linter.unusedVariables false
namespace Go.Proofs.Ytcinagdkkclapaa
open Go Go.Ox Go.RowKit
set_option maxRecDepth 100000 in
set_option maxHeartbeats 40000000 in
theorem c_bits_Writer_Bytes (w : World) (g2 : Nat) (tg7 : TypeId) (wv1 : T_bits_Writer) (A4 : Option Addr) (c5 : Nat) (hL8 : Lent w [.box g2 tg7 [.slice A4 (wv1.f_b).length c5], .row A4 c5 5 1 (wv1.f_b).length ((wv1.f_b).flatMap (eI .u8))]) (r : (List Int) × T_bits_Writer) (hF : F_bits_Writer_Bytes wv1 = some r) :
  CallsR Try.prog 35 [.pointer (some ⟨g2, 0, none⟩)] w (fun v w' => ∃ (A0 : Option Addr) (c0 : Nat) (A1 : Option Addr) (c1 : Nat), v = .slice A1 (r.1).length c1 ∧ Mem w [some g2, rblk A4 c5] w' [.box g2 tg7 [.slice A0 (r.2.f_b).length c0], .row A0 c0 5 1 r.2.f_b.length (r.2.f_b.flatMap (eI .u8)), .row A1 c1 5 1 r.1.length (r.1.flatMap (eI .u8))]) := by
 refine calls_KC Try.func35 rfl Try.ntmps35 rfl ?_
 have hM : Mem w [some g2, rblk A4 c5] w [.box g2 tg7 [.slice A4 (wv1.f_b).length c5], .row A4 c5 5 1 (wv1.f_b).length ((wv1.f_b).flatMap (eI .u8))] := Mem.lendN hL8
 unfold F_bits_Writer_Bytes at hF
 refine sr fun Q9 hQ9 => ?_
 refine va rfl rfl ?_
 refine nt hQ9 ?_
 clear hQ9 Q9
 refine KC.seqH fun Q10 hQ10 => ?_
 refine sr fun Q11 hQ11 => ?_
 refine vm rfl rfl ?_
 refine RL.val (O.peqn Try.underlying71 rfl rfl) rfl ?_
 refine nt hQ11 ?_
 clear hQ11 Q11
 refine KC.condF rfl ?_
 refine KC.skip ?_
 refine KQ.thn hQ10 ?_
 clear hQ10 Q10
 refine sr fun Q12 hQ12 => ?_
 refine vm rfl rfl ?_
 refine RL.val (O.nilp rfl) rfl ?_
 refine RL.val (O.fldA fl70_0 (by decide) rfl) rfl ?_
 refine RL.val (O.load sc24 rfl (Cs.adds [0] ((hM.bx (i := 0) rfl)) rfl)) rfl ?_
 refine obindE hF fun y13 hx14 hF => ?_
 refine RL.call Try.func61 bd61 rfl rfl (c_slices_Clone_byte_byte _ _ _ wv1.f_b (hM.rd (i := 1) rfl) _ hx14) fun v w15 hv => ?_
 obtain ⟨A17, c18, rfl, hN16⟩ := hv
 replace hM := hM.call hN16
 refine va rfl rfl ?_
 refine nt hQ12 ?_
 clear hQ12 Q12
 refine KC.ret ?_
 have hE := Option.some.inj hF
 clear hF
 subst hE
 refine KQ.rets Try.results35 (RVs.cons (RV.tm rfl) RVs.nil) ?_
 exact ⟨_, rfl, A4, c5, A17, c18, rfl, hM⟩
set_option maxRecDepth 100000 in
set_option maxHeartbeats 40000000 in
theorem c_trans_pseudo (w : World) (proto1 : Int) (nv2 : Int) (A4 : Option Addr) (c5 : Nat) (src3 : List Int) (hr6 : Rd w A4 c5 1 src3.length (src3.flatMap (eI .u8))) (A8 : Option Addr) (c9 : Nat) (dst7 : List Int) (hr10 : Rd w A8 c9 1 dst7.length (dst7.flatMap (eI .u8))) (r : (List Int) × Bool) (hF : F_trans_pseudo proto1 nv2 src3 dst7 = some r) :
  CallsR Try.prog 31 [v8 proto1, vI nv2, .slice A4 (src3).length c5, .slice A8 (dst7).length c9] w (fun v w' => ∃ (A0 : Option Addr) (c0 : Nat), v = .tuple #[.slice A0 (r.1).length c0, vB r.2] ∧ Mem w [] w' [.row A0 c0 5 1 r.1.length (r.1.flatMap (eI .u8))]) := by
 refine calls_KC Try.func31 rfl Try.ntmps31 rfl ?_
 have hM := Mem.init w
 unfold F_trans_pseudo at hF
 refine sr fun Q11 hQ11 => ?_
 refine va rfl rfl ?_
 refine va rfl rfl ?_
 refine nt hQ11 ?_
 clear hQ11 Q11
 refine sr fun Q12 hQ12 => ?_
 refine RL.eff (E.alloc hM ze70) rfl fun v w14 hv => ?_
 clear hM
 obtain ⟨g13, rfl, hM, hf⟩ := hv
 refine nt hQ12 ?_
 clear hQ12 Q12
 refine sr fun Q16 hQ16 => ?_
 refine vm rfl rfl ?_
 refine vm rfl rfl ?_
 refine RL.eff (E.bslR (enc := (eI .u8)) (us := [.slice A4 (src3).length c5, .slice A8 (dst7).length c9]) (xss := [src3, dst7]) (Rdl.cons ((hM.inp hr6 Off.nil)) (Rdl.cons ((hM.inp hr10 Off.nil)) Rdl.nil)) hM sl88 ze24 rfl rfl rfl rfl rfl) rfl fun v w17 hv => ?_
 clear hM
 obtain ⟨A18, rfl, hM, hf, hr19⟩ := hv
 refine obindE hF fun y20 hx21 hF => ?_
 refine RL.call Try.func55 bd55 rfl rfl (c_slices_Concat_byte_byte _ _ _ ([src3, dst7]) (hr19) _ hx21) fun v w22 hv => ?_
 obtain ⟨A24, c25, rfl, hN23⟩ := hv
 have hr19 := hr19.fut hN23.fut
 replace hM := hM.call hN23
 replace hM := hM.nilrow 5 1
 refine obindE hF fun y28 hx29 hF => ?_
 refine RL.call Try.func33 bd33 rfl rfl (c_bits_Writer_Raw _ _ _ (T_bits_Writer.mk ([] : List Int)) _ _ (hM.lent [0, 2] rfl (by decide)) _ _ y20 (hM.rd (i := 1) rfl) (hM.offR [0, 2] rfl (i := 1) rfl rfl) _ hx29) fun v w30 hv => ?_
 obtain ⟨A32, c33, rfl, hN31⟩ := hv
 replace hM := hM.callL [0, 2] [1] rfl rfl (by decide) rfl hN31
 refine nt hQ16 ?_
 clear hQ16 Q16
 refine KC.cut (fun a w78 => ∃ (A75 : Option Addr) (c76 : Nat) (wv77 : List Int), Kn 46 [(0, v8 proto1), (10, .pointer (some ⟨g13, 0, none⟩))] a ∧ Mem w [] w78 [.row A75 c76 5 1 (wv77).length ((wv77).flatMap (eI .u8)), .box g13 70 [.slice A75 (wv77).length c76]] ∧ F_trans_pseudo_j1 proto1 wv77 = some r) ?_ ?_
 ·refine KC.block ?_
  refine sr fun Q35 hQ35 => ?_
  refine vm rfl rfl ?_
  refine RL.val (O.len sl24 rfl) rfl ?_
  refine vm rfl rfl ?_
  refine RL.val (O.len sl24 rfl) rfl ?_
  refine RL.val (O.neq rfl rfl) rfl ?_
  refine va rfl rfl ?_
  refine nt hQ35 ?_
  clear hQ35 Q35
  refine KC.cond rfl (fun hc => ?_) (fun hc => ?_)
  ·rw [if_pos hc] at hF
   refine sr fun Q36 hQ36 => ?_
   refine va rfl rfl ?_
   refine va rfl rfl ?_
   refine nt hQ36 ?_
   clear hQ36 Q36
   refine KC.ret ?_
   refine KQ.blk_r ?_
   refine KQ.then_r ?_
   have hE := Option.some.inj hF
   clear hF
   subst hE
   replace hM := hM.nilrow 5 1
   replace hM := hM.pick [3] rfl (by decide)
   refine KQ.rets Try.results31 (RVs.cons (RV.tm rfl) (RVs.cons (RV.tm rfl) RVs.nil)) ?_
   exact ⟨_, rfl, none, 0, rfl, hM⟩
  rw [if_neg (ne_true hc)] at hF
  refine sr fun Q37 hQ37 => ?_
  refine vm rfl rfl ?_
  refine RL.val (O.len sl24 rfl) rfl ?_
  refine RL.val (O.eql rfl rfl) rfl ?_
  refine va rfl rfl ?_
  refine nt hQ37 ?_
  clear hQ37 Q37
  refine KC.cond rfl (fun hc => ?_) (fun hc => ?_)
  ·rw [if_pos hc] at hF
   refine sr fun Q38 hQ38 => ?_
   refine vm rfl rfl ?_
   refine RL.val (O.conv un5 Try.underlying76 rfl) rfl ?_
   refine RL.eff (E.bsl (enc := (eI .u64)) (xs := ([0, (IntKind.u64.wrap proto1)] : List Int)) hM sl101 ze76 rfl rfl rfl (fun _ => rfl) rfl (by kernel_rfl) rfl) rfl fun v w39 hv => ?_
   clear hM
   obtain ⟨A40, rfl, hM, hf⟩ := hv
   refine obindE hF fun y42 hx43 hF => ?_
   refine RL.call Try.func56 bd56 rfl rfl (c_trans_each _ _ _ y28.2 _ _ (hM.lent [1, 2] rfl (by decide)) 1 _ _ ([0, (IntKind.u64.wrap proto1)] : List Int) (hM.rd (i := 3) rfl) (hM.offR [1, 2] rfl (i := 3) rfl rfl) _ hx43) fun v w44 hv => ?_
   obtain ⟨A46, c47, rfl, hN45⟩ := hv
   replace hM := hM.callL [1, 2] [0, 3] rfl rfl (by decide) rfl hN45
   refine nt hQ38 ?_
   clear hQ38 Q38
   replace hM := hM.pick [2, 3] rfl (by decide)
   refine KC.region ?_
   refine vm rfl rfl ?_
   refine RL.val (O.conv un3 Try.underlying76 rfl) rfl ?_
   refine obindE hF fun y49 hx50 hF => ?_
   refine RL.call Try.func57 bd57 rfl rfl (c_bits_Writer_Put _ _ _ y42 _ _ (hM.lent [0, 1] rfl (by decide)) (IntKind.u64.wrap nv2) 2 _ hx50) fun v w51 hv => ?_
   obtain ⟨A53, c54, rfl, hN52⟩ := hv
   replace hM := hM.callL [0, 1] [] rfl rfl (by decide) rfl hN52
   refine RL.nil ?_
   refine KQ.blk_n ?_
   refine KQ.then_k ?_
   replace hM := hM.pick [1, 0] rfl (by decide)
   exact fun a ha => ⟨A53, c54, y49.2.f_b, ha.less (less_cons rfl (less_cons rfl less_nil)), hM, hF⟩
  rw [if_neg (ne_true hc)] at hF
  refine sr fun Q56 hQ56 => ?_
  refine vm rfl rfl ?_
  refine RL.val (O.len sl24 rfl) rfl ?_
  refine RL.val (O.eql rfl rfl) rfl ?_
  refine va rfl rfl ?_
  refine nt hQ56 ?_
  clear hQ56 Q56
  refine KC.cond rfl (fun hc => ?_) (fun hc => ?_)
  ·rw [if_pos hc] at hF
   refine sr fun Q57 hQ57 => ?_
   refine vm rfl rfl ?_
   refine RL.val (O.conv un3 Try.underlying76 rfl) rfl ?_
   refine obindE hF fun y58 hx59 hF => ?_
   refine RL.call Try.func57 bd57 rfl rfl (c_bits_Writer_Put _ _ _ y28.2 _ _ (hM.lent [1, 2] rfl (by decide)) (IntKind.u64.wrap nv2) 4 _ hx59) fun v w60 hv => ?_
   obtain ⟨A62, c63, rfl, hN61⟩ := hv
   replace hM := hM.callL [1, 2] [0] rfl rfl (by decide) rfl hN61
   refine nt hQ57 ?_
   clear hQ57 Q57
   refine KC.region ?_
   refine vm rfl rfl ?_
   refine RL.val (O.conv un5 Try.underlying76 rfl) rfl ?_
   refine obindE hF fun y65 hx66 hF => ?_
   refine RL.call Try.func57 bd57 rfl rfl (c_bits_Writer_Put _ _ _ y58.2 _ _ (hM.lent [1, 2] rfl (by decide)) (IntKind.u64.wrap proto1) 4 _ hx66) fun v w67 hv => ?_
   obtain ⟨A69, c70, rfl, hN68⟩ := hv
   replace hM := hM.callL [1, 2] [0] rfl rfl (by decide) rfl hN68
   refine RL.nil ?_
   refine KQ.blk_n ?_
   refine KQ.then_k ?_
   replace hM := hM.pick [2, 1] rfl (by decide)
   exact fun a ha => ⟨A69, c70, y65.2.f_b, ha.less (less_cons rfl (less_cons rfl less_nil)), hM, hF⟩
  rw [if_neg (ne_true hc)] at hF
  refine sr fun Q72 hQ72 => ?_
  refine va rfl rfl ?_
  refine va rfl rfl ?_
  refine nt hQ72 ?_
  clear hQ72 Q72
  refine KC.ret ?_
  refine KQ.blk_r ?_
  refine KQ.then_r ?_
  have hE := Option.some.inj hF
  clear hF
  subst hE
  replace hM := hM.nilrow 5 1
  replace hM := hM.pick [3] rfl (by decide)
  refine KQ.rets Try.results31 (RVs.cons (RV.tm rfl) (RVs.cons (RV.tm rfl) RVs.nil)) ?_
  exact ⟨_, rfl, none, 0, rfl, hM⟩
 rintro a w78 ⟨A75, c76, wv77, ha, hM, hF⟩
 refine KC.app ha ?_
 clear ha
 unfold F_trans_pseudo_j1 at hF
 refine KC.seqH fun Q79 hQ79 => ?_
 refine sr fun Q80 hQ80 => ?_
 refine vm rfl rfl ?_
 refine RL.val (O.eql rfl rfl) rfl ?_
 refine nt hQ80 ?_
 clear hQ80 Q80
 refine KC.cond rfl (fun hc => ?_) (fun hc => ?_)
 ·rw [if_pos hc] at hF
  refine sr fun Q81 hQ81 => ?_
  refine va rfl rfl ?_
  refine va rfl rfl ?_
  refine nt hQ81 ?_
  clear hQ81 Q81
  refine KC.ret ?_
  refine KQ.thr hQ79 ?_
  clear hQ79 Q79
  have hE := Option.some.inj hF
  clear hF
  subst hE
  replace hM := hM.nilrow 5 1
  replace hM := hM.pick [2] rfl (by decide)
  refine KQ.rets Try.results31 (RVs.cons (RV.tm rfl) (RVs.cons (RV.tm rfl) RVs.nil)) ?_
  exact ⟨_, rfl, none, 0, rfl, hM⟩
 rw [if_neg (ne_true hc)] at hF
 refine KC.skip ?_
 refine KQ.thn hQ79 ?_
 clear hQ79 Q79
 refine sr fun Q82 hQ82 => ?_
 refine obindE hF fun y83 hx84 hF => ?_
 refine RL.call Try.func35 bd35 rfl rfl (c_bits_Writer_Bytes _ _ _ (T_bits_Writer.mk wv77) _ _ (hM.lent [1, 0] rfl (by decide)) _ hx84) fun v w85 hv => ?_
 obtain ⟨A87, c88, A90, c91, rfl, hN86⟩ := hv
 replace hM := hM.callL [1, 0] [] rfl rfl (by decide) rfl hN86
 refine va rfl rfl ?_
 refine va rfl rfl ?_
 refine nt hQ82 ?_
 clear hQ82 Q82
 refine KC.ret ?_
 have hE := Option.some.inj hF
 clear hF
 subst hE
 replace hM := hM.pick [2] rfl (by decide)
 refine KQ.rets Try.results31 (RVs.cons (RV.tm rfl) (RVs.cons (RV.tm rfl) RVs.nil)) ?_
 exact ⟨_, rfl, A90, c91, rfl, hM⟩
set_option maxRecDepth 100000 in
set_option maxHeartbeats 40000000 in
theorem c_trans_putTCP (w : World) (g2 : Nat) (tg7 : TypeId) (wv1 : T_bits_Writer) (A4 : Option Addr) (c5 : Nat) (hL17 : Lent w [.box g2 tg7 [.slice A4 (wv1.f_b).length c5], .row A4 c5 5 1 (wv1.f_b).length ((wv1.f_b).flatMap (eI .u8))]) (s8 : T_trans_Segment) (A9 : Option Addr) (c10 : Nat) (hr11 : Rd w A9 c10 1 s8.f_Options.length (s8.f_Options.flatMap (eI .u8))) (ho12 : Off [some g2, rblk A4 c5] s8.f_Options.length A9) (A13 : Option Addr) (c14 : Nat) (hr15 : Rd w A13 c14 1 s8.f_Data.length (s8.f_Data.flatMap (eI .u8))) (ho16 : Off [some g2, rblk A4 c5] s8.f_Data.length A13) (r : T_bits_Writer) (hF : F_trans_putTCP wv1 s8 = some r) :
  CallsR Try.prog 50 [.pointer (some ⟨g2, 0, none⟩), .agg #[v8 s8.f_Proto, v16 s8.f_Src, v16 s8.f_Dst, v32 s8.f_Seq, v32 s8.f_Ack, v8 s8.f_Flags, v16 s8.f_Window, v16 s8.f_Urgent, .slice A9 (s8.f_Options).length c10, v8 s8.f_Type, v8 s8.f_Code, .slice A13 (s8.f_Data).length c14]] w (fun v w' => ∃ (A0 : Option Addr) (c0 : Nat), v = .tuple #[] ∧ Mem w [some g2, rblk A4 c5] w' [.box g2 tg7 [.slice A0 (r.f_b).length c0], .row A0 c0 5 1 r.f_b.length (r.f_b.flatMap (eI .u8))]) := by
 refine calls_KC Try.func50 rfl Try.ntmps50 rfl ?_
 have hM : Mem w [some g2, rblk A4 c5] w [.box g2 tg7 [.slice A4 (wv1.f_b).length c5], .row A4 c5 5 1 (wv1.f_b).length ((wv1.f_b).flatMap (eI .u8))] := Mem.lendN hL17
 unfold F_trans_putTCP at hF
 refine sr fun Q18 hQ18 => ?_
 refine RL.eff (E.box (vs := [v8 s8.f_Proto, v16 s8.f_Src, v16 s8.f_Dst, v32 s8.f_Seq, v32 s8.f_Ack, v8 s8.f_Flags, v16 s8.f_Window, v16 s8.f_Urgent, .slice A9 (s8.f_Options).length c10, v8 s8.f_Type, v8 s8.f_Code, .slice A13 (s8.f_Data).length c14]) hM rfl rfl) rfl fun v w20 hv => ?_
 clear hM
 obtain ⟨g19, rfl, hM, hf⟩ := hv
 refine nt hQ18 ?_
 clear hQ18 Q18
 refine sr fun Q22 hQ22 => ?_
 refine vm rfl rfl ?_
 refine RL.val (O.fldA fl26_1 (by decide) rfl) rfl ?_
 refine RL.val (O.load sc22 rfl (Cs.adds [1] ((hM.bx (i := 2) rfl)) rfl)) rfl ?_
 refine RL.val (O.conv un22 Try.underlying76 rfl) rfl ?_
 refine RL.val (O.fldA fl26_2 (by decide) rfl) rfl ?_
 refine RL.val (O.load sc22 rfl (Cs.adds [2] ((hM.bx (i := 2) rfl)) rfl)) rfl ?_
 refine RL.val (O.conv un22 Try.underlying76 rfl) rfl ?_
 refine RL.eff (E.bsl (enc := (eI .u64)) (xs := ([(IntKind.u64.wrap s8.f_Src), (IntKind.u64.wrap s8.f_Dst)] : List Int)) hM sl101 ze76 rfl rfl rfl (fun _ => rfl) rfl (by kernel_rfl) rfl) rfl fun v w23 hv => ?_
 clear hM
 obtain ⟨A24, rfl, hM, hf⟩ := hv
 refine obindE hF fun y26 hx27 hF => ?_
 refine RL.call Try.func56 bd56 rfl rfl (c_trans_each _ _ _ wv1 _ _ (hM.lent [0, 1] rfl (by decide)) 2 _ _ ([(IntKind.u64.wrap s8.f_Src), (IntKind.u64.wrap s8.f_Dst)] : List Int) (hM.rd (i := 3) rfl) (hM.offR [0, 1] rfl (i := 3) rfl rfl) _ hx27) fun v w28 hv => ?_
 obtain ⟨A30, c31, rfl, hN29⟩ := hv
 replace hM := hM.callL [0, 1] [2, 3] rfl rfl (by decide) rfl hN29
 refine nt hQ22 ?_
 clear hQ22 Q22
 replace hM := hM.pick [0, 2, 3] rfl (by decide)
 refine sr fun Q33 hQ33 => ?_
 refine vm rfl rfl ?_
 refine RL.val (O.fldA fl26_3 (by decide) rfl) rfl ?_
 refine RL.val (O.load sc23 rfl (Cs.adds [3] ((hM.bx (i := 0) rfl)) rfl)) rfl ?_
 refine RL.val (O.conv un23 Try.underlying76 rfl) rfl ?_
 refine RL.val (O.fldA fl26_4 (by decide) rfl) rfl ?_
 refine RL.val (O.load sc23 rfl (Cs.adds [4] ((hM.bx (i := 0) rfl)) rfl)) rfl ?_
 refine RL.val (O.conv un23 Try.underlying76 rfl) rfl ?_
 refine RL.eff (E.bsl (enc := (eI .u64)) (xs := ([(IntKind.u64.wrap s8.f_Seq), (IntKind.u64.wrap s8.f_Ack)] : List Int)) hM sl101 ze76 rfl rfl rfl (fun _ => rfl) rfl (by kernel_rfl) rfl) rfl fun v w34 hv => ?_
 clear hM
 obtain ⟨A35, rfl, hM, hf⟩ := hv
 refine obindE hF fun y37 hx38 hF => ?_
 refine RL.call Try.func56 bd56 rfl rfl (c_trans_each _ _ _ y26 _ _ (hM.lent [1, 2] rfl (by decide)) 4 _ _ ([(IntKind.u64.wrap s8.f_Seq), (IntKind.u64.wrap s8.f_Ack)] : List Int) (hM.rd (i := 3) rfl) (hM.offR [1, 2] rfl (i := 3) rfl rfl) _ hx38) fun v w39 hv => ?_
 obtain ⟨A41, c42, rfl, hN40⟩ := hv
 replace hM := hM.callL [1, 2] [0, 3] rfl rfl (by decide) rfl hN40
 refine nt hQ33 ?_
 clear hQ33 Q33
 replace hM := hM.pick [0, 2, 3] rfl (by decide)
 refine sr fun Q44 hQ44 => ?_
 refine vm rfl rfl ?_
 refine RL.val (O.fldA fl26_8 (by decide) rfl) rfl ?_
 refine RL.val (O.load sc24 rfl (Cs.adds [8] ((hM.bx (i := 0) rfl)) rfl)) rfl ?_
 refine RL.val (O.len sl24 rfl) rfl ?_
 refine RL.val (O.add rfl rfl) rfl ?_
 refine RL.val (O.quo rfl rfl (by decide)) rfl ?_
 refine RL.val (O.shl rfl rfl (by decide)) rfl ?_
 refine RL.val (O.conv un3 Try.underlying76 rfl) rfl ?_
 refine RL.val (O.fldA fl26_5 (by decide) rfl) rfl ?_
 refine RL.val (O.load sc5 rfl (Cs.adds [5] ((hM.bx (i := 0) rfl)) rfl)) rfl ?_
 refine RL.val (O.conv un5 Try.underlying76 rfl) rfl ?_
 refine RL.eff (E.bsl (enc := (eI .u64)) (xs := ([(IntKind.u64.wrap (Ox.shl .i64 (IntKind.i64.wrap (Int.tdiv (IntKind.i64.wrap (20 + (s8.f_Options.length : Int))) 4)) 4)), (IntKind.u64.wrap s8.f_Flags)] : List Int)) hM sl101 ze76 rfl rfl rfl (fun _ => rfl) rfl (by kernel_rfl) rfl) rfl fun v w45 hv => ?_
 clear hM
 obtain ⟨A46, rfl, hM, hf⟩ := hv
 refine obindE hF fun y48 hx49 hF => ?_
 refine RL.call Try.func56 bd56 rfl rfl (c_trans_each _ _ _ y37 _ _ (hM.lent [1, 2] rfl (by decide)) 1 _ _ ([(IntKind.u64.wrap (Ox.shl .i64 (IntKind.i64.wrap (Int.tdiv (IntKind.i64.wrap (20 + (s8.f_Options.length : Int))) 4)) 4)), (IntKind.u64.wrap s8.f_Flags)] : List Int) (hM.rd (i := 3) rfl) (hM.offR [1, 2] rfl (i := 3) rfl rfl) _ hx49) fun v w50 hv => ?_
 obtain ⟨A52, c53, rfl, hN51⟩ := hv
 replace hM := hM.callL [1, 2] [0, 3] rfl rfl (by decide) rfl hN51
 refine nt hQ44 ?_
 clear hQ44 Q44
 replace hM := hM.pick [0, 2, 3] rfl (by decide)
 refine sr fun Q55 hQ55 => ?_
 refine vm rfl rfl ?_
 refine RL.val (O.fldA fl26_6 (by decide) rfl) rfl ?_
 refine RL.val (O.load sc22 rfl (Cs.adds [6] ((hM.bx (i := 0) rfl)) rfl)) rfl ?_
 refine RL.val (O.conv un22 Try.underlying76 rfl) rfl ?_
 refine RL.val (O.fldA fl26_7 (by decide) rfl) rfl ?_
 refine RL.val (O.load sc22 rfl (Cs.adds [7] ((hM.bx (i := 0) rfl)) rfl)) rfl ?_
 refine RL.val (O.conv un22 Try.underlying76 rfl) rfl ?_
 refine RL.eff (E.bsl (enc := (eI .u64)) (xs := ([(IntKind.u64.wrap s8.f_Window), 0, (IntKind.u64.wrap s8.f_Urgent)] : List Int)) hM sl101 ze76 rfl rfl rfl (fun _ => rfl) rfl (by kernel_rfl) rfl) rfl fun v w56 hv => ?_
 clear hM
 obtain ⟨A57, rfl, hM, hf⟩ := hv
 refine obindE hF fun y59 hx60 hF => ?_
 refine RL.call Try.func56 bd56 rfl rfl (c_trans_each _ _ _ y48 _ _ (hM.lent [1, 2] rfl (by decide)) 2 _ _ ([(IntKind.u64.wrap s8.f_Window), 0, (IntKind.u64.wrap s8.f_Urgent)] : List Int) (hM.rd (i := 3) rfl) (hM.offR [1, 2] rfl (i := 3) rfl rfl) _ hx60) fun v w61 hv => ?_
 obtain ⟨A63, c64, rfl, hN62⟩ := hv
 replace hM := hM.callL [1, 2] [0, 3] rfl rfl (by decide) rfl hN62
 refine nt hQ55 ?_
 clear hQ55 Q55
 replace hM := hM.pick [0, 2, 3] rfl (by decide)
 refine KC.region ?_
 refine vm rfl rfl ?_
 refine RL.val (O.fldA fl26_8 (by decide) rfl) rfl ?_
 refine RL.val (O.load sc24 rfl (Cs.adds [8] ((hM.bx (i := 0) rfl)) rfl)) rfl ?_
 refine obindE hF fun y66 hx67 hF => ?_
 refine RL.call Try.func33 bd33 rfl rfl (c_bits_Writer_Raw _ _ _ y59 _ _ (hM.lent [1, 2] rfl (by decide)) _ _ s8.f_Options (hM.inp hr11 ho12) (hM.offI [1, 2] rfl hr11 (ho12)) _ hx67) fun v w68 hv => ?_
 obtain ⟨A70, c71, rfl, hN69⟩ := hv
 replace hM := hM.callL [1, 2] [0] rfl rfl (by decide) rfl hN69
 refine RL.nil ?_
 have hE := Option.some.inj hF
 clear hF
 subst hE
 replace hM := hM.pick [1, 2] rfl (by decide)
 refine KQ.endr Try.results50 RVs.nil ?_
 exact ⟨_, rfl, A70, c71, rfl, hM⟩
set_option maxRecDepth 100000 in
set_option maxHeartbeats 40000000 in
theorem c_sum_fold (w : World) (nv1 : Int) (r : Int) (hF : F_sum_fold nv1 = some r) :
  CallsR Try.prog 72 [v64 nv1] w (fun v w' => v = v16 r ∧ Mem w [] w' []) := by
 refine calls_KC Try.func72 rfl Try.ntmps72 rfl ?_
 have hM := Mem.init w
 unfold F_sum_fold at hF
 refine sr fun Q2 hQ2 => ?_
 refine va rfl rfl ?_
 refine nt hQ2 ?_
 clear hQ2 Q2
 refine KC.scope ?_
 refine KC.seqH fun Q3 hQ3 => ?_
 refine KC.label ?_
 refine KQ.thn hQ3 ?_
 clear hQ3 Q3
 refine KC.seqH fun Q4 hQ4 => ?_
 refine KC.block ?_
 refine KC.loop (fun k13 a w11 => ∃ (nv10 : Int), Kn 12 [(0, v64 nv10)] a ∧ Mem w [] w11 [] ∧ F_sum_fold_L1 k13 nv10 = some r) ?_ ?_
 ·exact fun a ha => ⟨fuel0, nv1, ha.less (less_cons rfl less_nil), hM, hF⟩
 rintro k13 a w11 ⟨nv10, ha, hM, hF⟩
 refine KC.app ha ?_
 clear ha
 cases k13 with
 | zero => exact (none_some hF).elim
 | succ k13 =>
 have hF : F_sum_fold_l1 (F_sum_fold_L1 k13) nv10 = some r := hF
 unfold F_sum_fold_l1 at hF
 refine KC.block ?_
 refine KC.seqH fun Q14 hQ14 => ?_
 refine sr fun Q15 hQ15 => ?_
 refine vm rfl rfl ?_
 refine RL.val (O.leq rfl rfl) rfl ?_
 refine nt hQ15 ?_
 clear hQ15 Q15
 refine KC.cond rfl (fun hc => ?_) (fun hc => ?_)
 ·rw [if_pos hc] at hF
  refine KC.exit ?_
  refine KQ.thx hQ14 ?_
  clear hQ14 Q14
  refine KQ.blk_y rfl ?_
  refine KQ.then_x ?_
  refine KQ.blk_x ?_
  refine KQ.thn hQ4 ?_
  clear hQ4 Q4
  refine sr fun Q16 hQ16 => ?_
  refine vm rfl rfl ?_
  refine RL.val (O.conv un76 Try.underlying22 rfl) rfl ?_
  refine va rfl rfl ?_
  refine nt hQ16 ?_
  clear hQ16 Q16
  refine KC.ret ?_
  refine KQ.sc_r ?_
  have hE := Option.some.inj hF
  clear hF
  subst hE
  refine KQ.rets Try.results72 (RVs.cons (RV.tm rfl) RVs.nil) ?_
  exact ⟨_, rfl, rfl, hM⟩
 rw [if_neg (ne_true hc)] at hF
 refine KC.skip ?_
 refine KQ.thn hQ14 ?_
 clear hQ14 Q14
 refine KC.region ?_
 refine vm rfl rfl ?_
 refine RL.val (O.and rfl rfl) rfl ?_
 refine vm rfl rfl ?_
 refine RL.val (O.shr rfl rfl (by decide)) rfl ?_
 refine RL.val (O.add rfl rfl) rfl ?_
 refine va rfl rfl ?_
 refine RL.nil ?_
 refine KQ.blk_n ?_
 refine KQ.then_k ?_
 exact fun a ha => ⟨k13, Nat.lt_succ_self k13, (IntKind.u64.wrap ((bits .and .u64 nv10 65535) + (Ox.shr .u64 nv10 16))), ha.less (less_cons rfl less_nil), hM, hF⟩
set_option maxRecDepth 100000 in
set_option maxHeartbeats 40000000 in
theorem c_sum_Sum_Add (w : World) (g2 : Nat) (tg4 : TypeId) (s1 : T_sum_Sum) (hL10 : Lent w [.box g2 tg4 [v64 s1.f_n, vI s1.f_many]]) (A6 : Option Addr) (c7 : Nat) (b5 : List Int) (hr8 : Rd w A6 c7 1 b5.length (b5.flatMap (eI .u8))) (ho9 : Off [some g2] b5.length A6) (r : T_sum_Sum) (hF : F_sum_Sum_Add s1 b5 = some r) :
  CallsR Try.prog 59 [.pointer (some ⟨g2, 0, none⟩), .slice A6 (b5).length c7] w (fun v w' => v = .tuple #[] ∧ Mem w [some g2] w' [.box g2 tg4 [v64 r.f_n, vI r.f_many]]) := by
 refine calls_KC Try.func59 rfl Try.ntmps59 rfl ?_
 have hM : Mem w [some g2] w [.box g2 tg4 [v64 s1.f_n, vI s1.f_many]] := Mem.lendN hL10
 unfold F_sum_Sum_Add at hF
 refine KC.seqH fun Q11 hQ11 => ?_
 refine sr fun Q12 hQ12 => ?_
 refine vm rfl rfl ?_
 refine RL.val (O.peqn Try.underlying108 rfl rfl) rfl ?_
 refine nt hQ12 ?_
 clear hQ12 Q12
 refine KC.condF rfl ?_
 refine KC.skip ?_
 refine KQ.thn hQ11 ?_
 clear hQ11 Q11
 refine sr fun Q13 hQ13 => ?_
 refine vm rfl rfl ?_
 refine RL.val (O.len sl24 rfl) rfl ?_
 refine vm rfl rfl ?_
 refine nt hQ13 ?_
 clear hQ13 Q13
 refine KC.block ?_
 refine KC.loop (fun k62 a w60 => ∃ (p57 : Int) (p58 : Int) (t59 : Int), Kn 44 [(0, .pointer (some ⟨g2, 0, none⟩)), (9, .slice A6 (b5).length c7), (10, vI (b5.length : Int)), (11, vI t59)] a ∧ Mem w [some g2] w60 [.box g2 tg4 [v64 p57, vI p58]] ∧ F_sum_Sum_Add_L1 b5 k62 p57 p58 t59 = some r) ?_ ?_
 ·exact fun a ha => ⟨fuel0, s1.f_n, s1.f_many, 0, ha.less (less_cons rfl (less_cons rfl (less_cons rfl (less_cons rfl less_nil)))), hM, hF⟩
 rintro k62 a w60 ⟨p57, p58, t59, ha, hM, hF⟩
 refine KC.app ha ?_
 clear ha
 cases k62 with
 | zero => exact (none_some hF).elim
 | succ k62 =>
 have hF : F_sum_Sum_Add_l1 (F_sum_Sum_Add_L1 b5 k62) b5 p57 p58 t59 = some r := hF
 unfold F_sum_Sum_Add_l1 at hF
 refine sr fun Q63 hQ63 => ?_
 refine RL.val (O.lss rfl rfl) rfl ?_
 refine nt hQ63 ?_
 clear hQ63 Q63
 refine KC.seqH fun Q64 hQ64 => ?_
 refine KC.cond rfl (fun hc => ?_) (fun hc => ?_)
 ·rw [if_pos hc] at hF
  refine KC.skip ?_
  refine KQ.thn hQ64 ?_
  clear hQ64 Q64
  refine KC.seqH fun Q65 hQ65 => ?_
  refine KC.block ?_
  refine sr fun Q66 hQ66 => ?_
  refine obindE hF fun xv69 hx68 hF => ?_
  have hA67 := Rd.atN (f := (eI .u8)) (s := 1) (fun _ => rfl) (by decide) (hM.inp hr8 ho9) hx68
  refine RL.val (O.idxA sl24 (hA67) rfl rfl) rfl ?_
  refine RL.val (O.load sc5 rfl (hA67).cells.at0) rfl ?_
  refine va rfl rfl ?_
  refine nt hQ66 ?_
  clear hQ66 Q66
  refine sr fun Q70 hQ70 => ?_
  refine vm rfl rfl ?_
  refine RL.val (O.conv un5 Try.underlying76 rfl) rfl ?_
  refine va rfl rfl ?_
  refine nt hQ70 ?_
  clear hQ70 Q70
  refine KC.cut (fun a w74 => ∃ (v73 : Int), Kn 44 [(0, .pointer (some ⟨g2, 0, none⟩)), (6, v64 v73), (9, .slice A6 (b5).length c7), (10, vI (b5.length : Int)), (11, vI t59)] a ∧ Mem w [some g2] w74 [.box g2 tg4 [v64 p57, vI p58]] ∧ F_sum_Sum_Add_j1 p57 p58 t59 (F_sum_Sum_Add_L1 b5 k62) v73 = some r) ?_ ?_
  ·refine sr fun Q71 hQ71 => ?_
   refine vm rfl rfl ?_
   refine RL.val (O.nilp rfl) rfl ?_
   refine RL.val (O.fldA fl90_1 (by decide) rfl) rfl ?_
   refine RL.val (O.load sc3 rfl (Cs.adds [1] ((hM.bx (i := 0) rfl)) rfl)) rfl ?_
   refine RL.val (O.rem rfl rfl (by decide)) rfl ?_
   refine RL.val (O.eql rfl rfl) rfl ?_
   refine nt hQ71 ?_
   clear hQ71 Q71
   refine KC.cond rfl (fun hc => ?_) (fun hc => ?_)
   ·rw [if_pos hc] at hF
    refine KC.region ?_
    refine vm rfl rfl ?_
    refine RL.val (O.shl rfl rfl (by decide)) rfl ?_
    refine va rfl rfl ?_
    refine RL.nil ?_
    refine KQ.then_k ?_
    exact fun a ha => ⟨(Ox.shl .u64 (IntKind.u64.wrap xv69) 8), ha.less (less_cons rfl (less_cons rfl (less_cons rfl (less_cons rfl (less_cons rfl less_nil))))), hM, hF⟩
   rw [if_neg (ne_true hc)] at hF
   refine KC.skip ?_
   refine KQ.then_k ?_
   exact fun a ha => ⟨(IntKind.u64.wrap xv69), ha.less (less_cons rfl (less_cons rfl (less_cons rfl (less_cons rfl (less_cons rfl less_nil))))), hM, hF⟩
  rintro a w74 ⟨v73, ha, hM, hF⟩
  refine KC.app ha ?_
  clear ha
  unfold F_sum_Sum_Add_j1 at hF
  refine sr fun Q75 hQ75 => ?_
  refine vm rfl rfl ?_
  refine vm rfl rfl ?_
  refine RL.val (O.nilp rfl) rfl ?_
  refine RL.val (O.fldA fl90_0 (by decide) rfl) rfl ?_
  refine RL.val (O.load sc76 rfl (Cs.adds [0] ((hM.bx (i := 0) rfl)) rfl)) rfl ?_
  refine obindE hF fun y76 hx77 hF => ?_
  refine RL.call Try.func72 bd72 rfl rfl (c_sum_fold _ p57 _ hx77) fun v w78 hv => ?_
  obtain ⟨rfl, hN79⟩ := hv
  replace hM := hM.call0 hN79
  refine RL.val (O.conv un22 Try.underlying76 rfl) rfl ?_
  refine vm rfl rfl ?_
  refine RL.val (O.add rfl rfl) rfl ?_
  refine RL.val (O.nilp rfl) rfl ?_
  refine RL.val (O.fldA fl90_0 (by decide) rfl) rfl ?_
  refine RL.effs (E.stB (j := 0) (off := 0) (vs := [v64 (IntKind.u64.wrap ((IntKind.u64.wrap y76) + v73))]) (cs' := [v64 (IntKind.u64.wrap ((IntKind.u64.wrap y76) + v73)), vI p58]) hM rfl sz76 rfl (adds_eq [0] rfl) rfl rfl (One.all rfl) rfl rfl) fun w80 hM1 => ?_
  clear hM
  have hM := hM1
  clear hM1
  refine nt hQ75 ?_
  clear hQ75 Q75
  refine KC.region ?_
  refine vm rfl rfl ?_
  refine RL.val (O.nilp rfl) rfl ?_
  refine RL.val (O.fldA fl90_1 (by decide) rfl) rfl ?_
  refine RL.val (O.load sc3 rfl (Cs.adds [1] ((hM.bx (i := 0) rfl)) rfl)) rfl ?_
  refine RL.val (O.add rfl rfl) rfl ?_
  refine RL.val (O.nilp rfl) rfl ?_
  refine RL.val (O.fldA fl90_1 (by decide) rfl) rfl ?_
  refine RL.effs (E.stB (j := 0) (off := 1) (vs := [vI (IntKind.i64.wrap (p58 + 1))]) (cs' := [v64 (IntKind.u64.wrap ((IntKind.u64.wrap y76) + v73)), vI (IntKind.i64.wrap (p58 + 1))]) hM rfl sz3 rfl (adds_eq [1] rfl) rfl rfl (One.all rfl) rfl rfl) fun w81 hM1 => ?_
  clear hM
  have hM := hM1
  clear hM1
  refine RL.nil ?_
  refine KQ.blk_n ?_
  refine KQ.thn hQ65 ?_
  clear hQ65 Q65
  refine KC.region ?_
  refine RL.val (O.add rfl rfl) rfl ?_
  refine vm rfl rfl ?_
  refine RL.nil ?_
  refine KQ.then_k ?_
  exact fun a ha => ⟨k62, Nat.lt_succ_self k62, (IntKind.u64.wrap ((IntKind.u64.wrap y76) + v73)), (IntKind.i64.wrap (p58 + 1)), (IntKind.i64.wrap (t59 + 1)), ha.less (less_cons rfl (less_cons rfl (less_cons rfl (less_cons rfl less_nil)))), hM, hF⟩
 rw [if_neg (ne_true hc)] at hF
 refine KC.exit ?_
 refine KQ.thx hQ64 ?_
 clear hQ64 Q64
 refine KQ.then_x ?_
 refine KQ.blk_x ?_
 have hE := Option.some.inj hF
 clear hF
 subst hE
 refine KQ.endr Try.results59 RVs.nil ?_
 exact ⟨_, rfl, rfl, hM⟩
set_option maxRecDepth 100000 in
set_option maxHeartbeats 40000000 in
theorem c_sum_each_fsum_Sum_Add (w : World) (g6 : Nat) (tg8 : TypeId) (does5 : T_sum_Sum) (hL9 : Lent w [.box g6 tg8 [v64 does5.f_n, vI does5.f_many]]) (A2 : Option Addr) (c3 : Nat) (lv1 : List (List Int)) (hr4 : Rds [some g6] w A2 c3 (eI .u8) 1 lv1) (r : T_sum_Sum) (hF : F_sum_each_fsum_Sum_Add lv1 does5 = some r) :
  CallsR Try.prog 58 [.slice A2 (lv1).length c3, .func (.func 59) #[.pointer (some ⟨g6, 0, none⟩)] #[]] w (fun v w' => v = .tuple #[] ∧ Mem w [some g6] w' [.box g6 tg8 [v64 r.f_n, vI r.f_many]]) := by
 refine calls_KC Try.func58 rfl Try.ntmps58 rfl ?_
 have hM : Mem w [some g6] w [.box g6 tg8 [v64 does5.f_n, vI does5.f_many]] := Mem.lendN hL9
 unfold F_sum_each_fsum_Sum_Add at hF
 refine sr fun Q10 hQ10 => ?_
 refine vm rfl rfl ?_
 refine RL.val (O.len sl88 rfl) rfl ?_
 refine vm rfl rfl ?_
 refine nt hQ10 ?_
 clear hQ10 Q10
 refine KC.block ?_
 refine KC.loop (fun k53 a w51 => ∃ (p48 : Int) (p49 : Int) (t50 : Int), Kn 16 [(1, .func (.func 59) #[.pointer (some ⟨g6, 0, none⟩)] #[]), (6, .slice A2 (lv1).length c3), (7, vI (lv1.length : Int)), (8, vI t50)] a ∧ Mem w [some g6] w51 [.box g6 tg8 [v64 p48, vI p49]] ∧ F_sum_each_fsum_Sum_Add_L1 lv1 k53 p48 p49 t50 = some r) ?_ ?_
 ·exact fun a ha => ⟨fuel0, does5.f_n, does5.f_many, 0, ha.less (less_cons rfl (less_cons rfl (less_cons rfl (less_cons rfl less_nil)))), hM, hF⟩
 rintro k53 a w51 ⟨p48, p49, t50, ha, hM, hF⟩
 refine KC.app ha ?_
 clear ha
 cases k53 with
 | zero => exact (none_some hF).elim
 | succ k53 =>
 have hF : F_sum_each_fsum_Sum_Add_l1 (F_sum_each_fsum_Sum_Add_L1 lv1 k53) lv1 p48 p49 t50 = some r := hF
 unfold F_sum_each_fsum_Sum_Add_l1 at hF
 refine sr fun Q54 hQ54 => ?_
 refine RL.val (O.lss rfl rfl) rfl ?_
 refine nt hQ54 ?_
 clear hQ54 Q54
 refine KC.seqH fun Q55 hQ55 => ?_
 refine KC.cond rfl (fun hc => ?_) (fun hc => ?_)
 ·rw [if_pos hc] at hF
  refine KC.skip ?_
  refine KQ.thn hQ55 ?_
  clear hQ55 Q55
  refine KC.seqH fun Q56 hQ56 => ?_
  refine KC.block ?_
  refine sr fun Q57 hQ57 => ?_
  refine obindE hF fun xv60 hx59 hF => ?_
  obtain ⟨A61, c62, hA58, hr63, ho64, hO65⟩ := Rds.at hr4 hx59
  have hA58 := hA58.chg hM.chg hO65
  refine RL.val (O.idxA sl88 (hA58) rfl rfl) rfl ?_
  refine RL.val (O.load sc24 rfl (hA58).cells.at0) rfl ?_
  refine va rfl rfl ?_
  refine nt hQ57 ?_
  clear hQ57 Q57
  refine KC.region ?_
  refine vm rfl rfl ?_
  refine vm rfl rfl ?_
  refine obindE hF fun y66 hx67 hF => ?_
  refine RL.callv (first := [.pointer (some ⟨g6, 0, none⟩)]) (captured := []) rfl Try.func59 bd59 rfl rfl (c_sum_Sum_Add _ _ _ (T_sum_Sum.mk p48 p49) (hM.lent [0] rfl (by decide)) _ _ xv60 (hM.inp hr63 ho64) (hM.offI [0] rfl hr63 (ho64)) _ hx67) fun v w68 hv => ?_
  obtain ⟨rfl, hN69⟩ := hv
  replace hM := hM.callL [0] [] rfl rfl (by decide) rfl hN69
  refine RL.nil ?_
  refine KQ.blk_n ?_
  refine KQ.thn hQ56 ?_
  clear hQ56 Q56
  refine KC.region ?_
  refine RL.val (O.add rfl rfl) rfl ?_
  refine vm rfl rfl ?_
  refine RL.nil ?_
  refine KQ.then_k ?_
  exact fun a ha => ⟨k53, Nat.lt_succ_self k53, y66.f_n, y66.f_many, (IntKind.i64.wrap (t50 + 1)), ha.less (less_cons rfl (less_cons rfl (less_cons rfl (less_cons rfl less_nil)))), hM, hF⟩
 rw [if_neg (ne_true hc)] at hF
 refine KC.exit ?_
 refine KQ.thx hQ55 ?_
 clear hQ55 Q55
 refine KQ.then_x ?_
 refine KQ.blk_x ?_
 have hE := Option.some.inj hF
 clear hF
 subst hE
 refine KQ.endr Try.results58 RVs.nil ?_
 exact ⟨_, rfl, rfl, hM⟩
set_option maxRecDepth 100000 in
set_option maxHeartbeats 40000000 in
theorem c_sum_Sum_Value (w : World) (g2 : Nat) (tg4 : TypeId) (s1 : T_sum_Sum) (hL5 : Lent w [.box g2 tg4 [v64 s1.f_n, vI s1.f_many]]) (r : Int × T_sum_Sum) (hF : F_sum_Sum_Value s1 = some r) :
  CallsR Try.prog 60 [.pointer (some ⟨g2, 0, none⟩)] w (fun v w' => v = v16 r.1 ∧ Mem w [some g2] w' [.box g2 tg4 [v64 r.2.f_n, vI r.2.f_many]]) := by
 refine calls_KC Try.func60 rfl Try.ntmps60 rfl ?_
 have hM : Mem w [some g2] w [.box g2 tg4 [v64 s1.f_n, vI s1.f_many]] := Mem.lendN hL5
 unfold F_sum_Sum_Value at hF
 refine sr fun Q6 hQ6 => ?_
 refine va rfl rfl ?_
 refine nt hQ6 ?_
 clear hQ6 Q6
 refine KC.seqH fun Q7 hQ7 => ?_
 refine sr fun Q8 hQ8 => ?_
 refine vm rfl rfl ?_
 refine RL.val (O.peqn Try.underlying108 rfl rfl) rfl ?_
 refine nt hQ8 ?_
 clear hQ8 Q8
 refine KC.condF rfl ?_
 refine KC.skip ?_
 refine KQ.thn hQ7 ?_
 clear hQ7 Q7
 refine sr fun Q9 hQ9 => ?_
 refine vm rfl rfl ?_
 refine RL.val (O.nilp rfl) rfl ?_
 refine RL.val (O.fldA fl90_0 (by decide) rfl) rfl ?_
 refine RL.val (O.load sc76 rfl (Cs.adds [0] ((hM.bx (i := 0) rfl)) rfl)) rfl ?_
 refine obindE hF fun y10 hx11 hF => ?_
 refine RL.call Try.func72 bd72 rfl rfl (c_sum_fold _ s1.f_n _ hx11) fun v w12 hv => ?_
 obtain ⟨rfl, hN13⟩ := hv
 replace hM := hM.call0 hN13
 refine RL.val (O.sub rfl rfl) rfl ?_
 refine va rfl rfl ?_
 refine nt hQ9 ?_
 clear hQ9 Q9
 refine KC.ret ?_
 have hE := Option.some.inj hF
 clear hF
 subst hE
 refine KQ.rets Try.results60 (RVs.cons (RV.tm rfl) RVs.nil) ?_
 exact ⟨_, rfl, rfl, hM⟩
set_option maxRecDepth 100000 in
set_option maxHeartbeats 40000000 in
theorem c_sum_Of (w : World) (A2 : Option Addr) (c3 : Nat) (lv1 : List (List Int)) (hr4 : Rds [] w A2 c3 (eI .u8) 1 lv1) (r : Int) (hF : F_sum_Of lv1 = some r) :
  CallsR Try.prog 34 [.slice A2 (lv1).length c3] w (fun v w' => v = v16 r ∧ Mem w [] w' []) := by
 refine calls_KC Try.func34 rfl Try.ntmps34 rfl ?_
 have hM := Mem.init w
 unfold F_sum_Of at hF
 refine sr fun Q5 hQ5 => ?_
 refine va rfl rfl ?_
 refine nt hQ5 ?_
 clear hQ5 Q5
 refine sr fun Q6 hQ6 => ?_
 refine RL.eff (E.alloc hM ze90) rfl fun v w8 hv => ?_
 clear hM
 obtain ⟨g7, rfl, hM, hf⟩ := hv
 refine nt hQ6 ?_
 clear hQ6 Q6
 refine sr fun Q10 hQ10 => ?_
 refine vm rfl rfl ?_
 refine RL.val (O.mkf rfl rfl) rfl ?_
 refine obindE hF fun y11 hx12 hF => ?_
 refine RL.call Try.func58 bd58 rfl rfl (c_sum_each_fsum_Sum_Add _ _ _ (T_sum_Sum.mk 0 0) (hM.lent [0] rfl (by decide)) _ _ lv1 (hM.offs [0] rfl hr4) _ hx12) fun v w13 hv => ?_
 obtain ⟨rfl, hN14⟩ := hv
 replace hM := hM.callL [0] [] rfl rfl (by decide) rfl hN14
 refine nt hQ10 ?_
 clear hQ10 Q10
 refine sr fun Q15 hQ15 => ?_
 refine obindE hF fun y16 hx17 hF => ?_
 refine RL.call Try.func60 bd60 rfl rfl (c_sum_Sum_Value _ _ _ y11 (hM.lent [0] rfl (by decide)) _ hx17) fun v w18 hv => ?_
 obtain ⟨rfl, hN19⟩ := hv
 replace hM := hM.callL [0] [] rfl rfl (by decide) rfl hN19
 refine va rfl rfl ?_
 refine nt hQ15 ?_
 clear hQ15 Q15
 refine KC.ret ?_
 have hE := Option.some.inj hF
 clear hF
 subst hE
 replace hM := hM.pick [] rfl (by decide)
 refine KQ.rets Try.results34 (RVs.cons (RV.tm rfl) RVs.nil) ?_
 exact ⟨_, rfl, rfl, hM⟩
end Go.Proofs.Ytcinagdkkclapaa
