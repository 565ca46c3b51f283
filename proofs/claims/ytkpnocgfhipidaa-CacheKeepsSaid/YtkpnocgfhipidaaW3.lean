/- Printed by a program of this claim: each call returns what the plain function of its name gives. -/
import Derived.Test.YtkpnocgfhipidaaW1
import Derived.Test.YtkpnocgfhipidaaW2
import Derived.Test.YtkpnocgfhipidaaSrt
set_option linter.unusedVariables false
namespace Go.Proofs.Ytkpnocgfhipidaa
open Go Go.Ox Go.RowKit
set_option maxRecDepth 100000 in
set_option maxHeartbeats 40000000 in
theorem c_packet_Key_Bytes (w : World) (kv1 : T_packet_Key) (r : (List Int)) (hF : F_packet_Key_Bytes kv1 = some r) :
  CallsR Try.prog 76 [.agg #[vB kv1.f_Src.f_Six, o8 kv1.f_Src.f_B 0, o8 kv1.f_Src.f_B 1, o8 kv1.f_Src.f_B 2, o8 kv1.f_Src.f_B 3, o8 kv1.f_Src.f_B 4, o8 kv1.f_Src.f_B 5, o8 kv1.f_Src.f_B 6, o8 kv1.f_Src.f_B 7, o8 kv1.f_Src.f_B 8, o8 kv1.f_Src.f_B 9, o8 kv1.f_Src.f_B 10, o8 kv1.f_Src.f_B 11, o8 kv1.f_Src.f_B 12, o8 kv1.f_Src.f_B 13, o8 kv1.f_Src.f_B 14, o8 kv1.f_Src.f_B 15, vB kv1.f_Dst.f_Six, o8 kv1.f_Dst.f_B 0, o8 kv1.f_Dst.f_B 1, o8 kv1.f_Dst.f_B 2, o8 kv1.f_Dst.f_B 3, o8 kv1.f_Dst.f_B 4, o8 kv1.f_Dst.f_B 5, o8 kv1.f_Dst.f_B 6, o8 kv1.f_Dst.f_B 7, o8 kv1.f_Dst.f_B 8, o8 kv1.f_Dst.f_B 9, o8 kv1.f_Dst.f_B 10, o8 kv1.f_Dst.f_B 11, o8 kv1.f_Dst.f_B 12, o8 kv1.f_Dst.f_B 13, o8 kv1.f_Dst.f_B 14, o8 kv1.f_Dst.f_B 15, v8 kv1.f_Proto, v16 kv1.f_SrcPort, v16 kv1.f_DstPort]] w (fun v w' => ∃ (A0 : Option Addr) (c0 : Nat), v = .slice A0 (r).length c0 ∧ Mem w [] w' [.row A0 c0 5 1 r.length (r.flatMap (eI .u8))]) := by
 refine calls_KC Try.func76 rfl Try.ntmps76 rfl ?_
 have hM := Mem.init w
 unfold F_packet_Key_Bytes at hF
 refine sr fun Q2 hQ2 => ?_
 refine RL.eff (E.box (vs := [vB kv1.f_Src.f_Six, o8 kv1.f_Src.f_B 0, o8 kv1.f_Src.f_B 1, o8 kv1.f_Src.f_B 2, o8 kv1.f_Src.f_B 3, o8 kv1.f_Src.f_B 4, o8 kv1.f_Src.f_B 5, o8 kv1.f_Src.f_B 6, o8 kv1.f_Src.f_B 7, o8 kv1.f_Src.f_B 8, o8 kv1.f_Src.f_B 9, o8 kv1.f_Src.f_B 10, o8 kv1.f_Src.f_B 11, o8 kv1.f_Src.f_B 12, o8 kv1.f_Src.f_B 13, o8 kv1.f_Src.f_B 14, o8 kv1.f_Src.f_B 15, vB kv1.f_Dst.f_Six, o8 kv1.f_Dst.f_B 0, o8 kv1.f_Dst.f_B 1, o8 kv1.f_Dst.f_B 2, o8 kv1.f_Dst.f_B 3, o8 kv1.f_Dst.f_B 4, o8 kv1.f_Dst.f_B 5, o8 kv1.f_Dst.f_B 6, o8 kv1.f_Dst.f_B 7, o8 kv1.f_Dst.f_B 8, o8 kv1.f_Dst.f_B 9, o8 kv1.f_Dst.f_B 10, o8 kv1.f_Dst.f_B 11, o8 kv1.f_Dst.f_B 12, o8 kv1.f_Dst.f_B 13, o8 kv1.f_Dst.f_B 14, o8 kv1.f_Dst.f_B 15, v8 kv1.f_Proto, v16 kv1.f_SrcPort, v16 kv1.f_DstPort]) hM rfl rfl) rfl fun v w4 hv => ?_
 clear hM
 obtain ⟨g3, rfl, hM, hf⟩ := hv
 refine va rfl rfl ?_
 refine nt hQ2 ?_
 clear hQ2 Q2
 refine KC.seqH fun Q6 hQ6 => ?_
 refine sr fun Q7 hQ7 => ?_
 refine RL.val (O.loadN (cs := [vB kv1.f_Src.f_Six, o8 kv1.f_Src.f_B 0, o8 kv1.f_Src.f_B 1, o8 kv1.f_Src.f_B 2, o8 kv1.f_Src.f_B 3, o8 kv1.f_Src.f_B 4, o8 kv1.f_Src.f_B 5, o8 kv1.f_Src.f_B 6, o8 kv1.f_Src.f_B 7, o8 kv1.f_Src.f_B 8, o8 kv1.f_Src.f_B 9, o8 kv1.f_Src.f_B 10, o8 kv1.f_Src.f_B 11, o8 kv1.f_Src.f_B 12, o8 kv1.f_Src.f_B 13, o8 kv1.f_Src.f_B 14, o8 kv1.f_Src.f_B 15, vB kv1.f_Dst.f_Six, o8 kv1.f_Dst.f_B 0, o8 kv1.f_Dst.f_B 1, o8 kv1.f_Dst.f_B 2, o8 kv1.f_Dst.f_B 3, o8 kv1.f_Dst.f_B 4, o8 kv1.f_Dst.f_B 5, o8 kv1.f_Dst.f_B 6, o8 kv1.f_Dst.f_B 7, o8 kv1.f_Dst.f_B 8, o8 kv1.f_Dst.f_B 9, o8 kv1.f_Dst.f_B 10, o8 kv1.f_Dst.f_B 11, o8 kv1.f_Dst.f_B 12, o8 kv1.f_Dst.f_B 13, o8 kv1.f_Dst.f_B 14, o8 kv1.f_Dst.f_B 15, v8 kv1.f_Proto, v16 kv1.f_SrcPort, v16 kv1.f_DstPort]) ag36 rfl (Cs.addsN [] ((hM.bx (i := 0) rfl)) rfl)) rfl ?_
 refine obindE hF fun y8 hx9 hF => ?_
 refine RL.call Try.func14 bd14 rfl rfl (c_packet_Key_Right _ kv1 _ hx9) fun v w10 hv => ?_
 obtain ⟨rfl, hN11⟩ := hv
 replace hM := hM.call0 hN11
 refine RL.val (O.not rfl) rfl ?_
 refine nt hQ7 ?_
 clear hQ7 Q7
 refine KC.cond rfl (fun hc => ?_) (fun hc => ?_)
 ·rw [if_pos hc] at hF
  refine sr fun Q12 hQ12 => ?_
  refine va rfl rfl ?_
  refine nt hQ12 ?_
  clear hQ12 Q12
  refine KC.ret ?_
  refine KQ.thr hQ6 ?_
  clear hQ6 Q6
  have hE := Option.some.inj hF
  clear hF
  subst hE
  replace hM := hM.nilrow 5 1
  replace hM := hM.pick [1] rfl (by decide)
  refine KQ.rets Try.results76 (RVs.cons (RV.tm rfl) RVs.nil) ?_
  exact ⟨_, rfl, none, 0, rfl, hM⟩
 rw [if_neg (ne_true hc)] at hF
 refine KC.skip ?_
 refine KQ.thn hQ6 ?_
 clear hQ6 Q6
 refine sr fun Q13 hQ13 => ?_
 refine RL.eff (E.alloc hM ze140) rfl fun v w15 hv => ?_
 clear hM
 obtain ⟨g14, rfl, hM, hf⟩ := hv
 refine nt hQ13 ?_
 clear hQ13 Q13
 refine sr fun Q17 hQ17 => ?_
 refine va rfl rfl ?_
 refine nt hQ17 ?_
 clear hQ17 Q17
 refine KC.cut (fun a w22 => ∃ (version21 : Int), Kn 35 [(1, .pointer (some ⟨g3, 0, none⟩)), (3, .pointer (some ⟨g14, 0, none⟩)), (4, v8 version21)] a ∧ Mem w [] w22 [.box g3 36 [vB kv1.f_Src.f_Six, o8 kv1.f_Src.f_B 0, o8 kv1.f_Src.f_B 1, o8 kv1.f_Src.f_B 2, o8 kv1.f_Src.f_B 3, o8 kv1.f_Src.f_B 4, o8 kv1.f_Src.f_B 5, o8 kv1.f_Src.f_B 6, o8 kv1.f_Src.f_B 7, o8 kv1.f_Src.f_B 8, o8 kv1.f_Src.f_B 9, o8 kv1.f_Src.f_B 10, o8 kv1.f_Src.f_B 11, o8 kv1.f_Src.f_B 12, o8 kv1.f_Src.f_B 13, o8 kv1.f_Src.f_B 14, o8 kv1.f_Src.f_B 15, vB kv1.f_Dst.f_Six, o8 kv1.f_Dst.f_B 0, o8 kv1.f_Dst.f_B 1, o8 kv1.f_Dst.f_B 2, o8 kv1.f_Dst.f_B 3, o8 kv1.f_Dst.f_B 4, o8 kv1.f_Dst.f_B 5, o8 kv1.f_Dst.f_B 6, o8 kv1.f_Dst.f_B 7, o8 kv1.f_Dst.f_B 8, o8 kv1.f_Dst.f_B 9, o8 kv1.f_Dst.f_B 10, o8 kv1.f_Dst.f_B 11, o8 kv1.f_Dst.f_B 12, o8 kv1.f_Dst.f_B 13, o8 kv1.f_Dst.f_B 14, o8 kv1.f_Dst.f_B 15, v8 kv1.f_Proto, v16 kv1.f_SrcPort, v16 kv1.f_DstPort], .box g14 140 [.slice none 0 0]] ∧ F_packet_Key_Bytes_j1 kv1 version21 = some r) ?_ ?_
 ·refine sr fun Q18 hQ18 => ?_
  refine RL.val (O.fldA fl36_0 (by decide) rfl) rfl ?_
  refine RL.val (O.fldA fl33_0 (by decide) rfl) rfl ?_
  refine RL.val (O.load sc4 rfl (Cs.adds [0, 0] ((hM.bx (i := 0) rfl)) rfl)) rfl ?_
  refine nt hQ18 ?_
  clear hQ18 Q18
  refine KC.cond rfl (fun hc => ?_) (fun hc => ?_)
  ·rw [if_pos hc] at hF
   refine KC.region ?_
   refine va rfl rfl ?_
   refine RL.nil ?_
   refine KQ.then_k ?_
   exact fun a ha => ⟨6, ha.less (less_cons rfl (less_cons rfl (less_cons rfl less_nil))), hM, hF⟩
  rw [if_neg (ne_true hc)] at hF
  refine KC.skip ?_
  refine KQ.then_k ?_
  exact fun a ha => ⟨4, ha.less (less_cons rfl (less_cons rfl (less_cons rfl less_nil))), hM, hF⟩
 rintro a w22 ⟨version21, ha, hM, hF⟩
 refine KC.app ha ?_
 clear ha
 unfold F_packet_Key_Bytes_j1 at hF
 refine sr fun Q23 hQ23 => ?_
 refine vm rfl rfl ?_
 refine RL.eff (E.bsl (enc := (eI .u8)) (xs := ([version21] : List Int)) hM sl113 ze5 rfl rfl rfl (fun _ => rfl) rfl (by kernel_rfl) rfl) rfl fun v w24 hv => ?_
 clear hM
 obtain ⟨A25, rfl, hM, hf⟩ := hv
 replace hM := hM.nilrow 5 1
 refine obindE hF fun y28 hx29 hF => ?_
 refine RL.call Try.func85 bd85 rfl rfl (c_bits_Writer_Raw _ _ _ (T_bits_Writer.mk ([] : List Int)) _ _ (hM.lent [1, 3] rfl (by decide)) _ _ ([version21] : List Int) (hM.rd (i := 2) rfl) (hM.offR [1, 3] rfl (i := 2) rfl rfl) _ hx29) fun v w30 hv => ?_
 obtain ⟨A32, c33, rfl, hN31⟩ := hv
 replace hM := hM.callL [1, 3] [0, 2] rfl rfl (by decide) rfl hN31
 refine nt hQ23 ?_
 clear hQ23 Q23
 replace hM := hM.pick [0, 2, 3] rfl (by decide)
 refine sr fun Q35 hQ35 => ?_
 refine RL.val (O.fldA fl36_0 (by decide) rfl) rfl ?_
 refine RL.val (O.loadN (cs := [vB kv1.f_Src.f_Six, o8 kv1.f_Src.f_B 0, o8 kv1.f_Src.f_B 1, o8 kv1.f_Src.f_B 2, o8 kv1.f_Src.f_B 3, o8 kv1.f_Src.f_B 4, o8 kv1.f_Src.f_B 5, o8 kv1.f_Src.f_B 6, o8 kv1.f_Src.f_B 7, o8 kv1.f_Src.f_B 8, o8 kv1.f_Src.f_B 9, o8 kv1.f_Src.f_B 10, o8 kv1.f_Src.f_B 11, o8 kv1.f_Src.f_B 12, o8 kv1.f_Src.f_B 13, o8 kv1.f_Src.f_B 14, o8 kv1.f_Src.f_B 15]) ag33 rfl (Cs.addsN [0] ((hM.bx (i := 0) rfl)) rfl)) rfl ?_
 refine obindE hF fun y36 hx37 hF => ?_
 refine RL.call Try.func86 bd86 rfl rfl (c_addr_Addr_Bytes _ kv1.f_Src _ hx37) fun v w38 hv => ?_
 obtain ⟨A40, c41, rfl, hN39⟩ := hv
 replace hM := hM.call hN39
 refine obindE hF fun y43 hx44 hF => ?_
 refine RL.call Try.func85 bd85 rfl rfl (c_bits_Writer_Raw _ _ _ y28.2 _ _ (hM.lent [1, 2] rfl (by decide)) _ _ y36 (hM.rd (i := 3) rfl) (hM.offR [1, 2] rfl (i := 3) rfl rfl) _ hx44) fun v w45 hv => ?_
 obtain ⟨A47, c48, rfl, hN46⟩ := hv
 replace hM := hM.callL [1, 2] [0, 3] rfl rfl (by decide) rfl hN46
 refine nt hQ35 ?_
 clear hQ35 Q35
 replace hM := hM.pick [0, 2, 3] rfl (by decide)
 refine sr fun Q50 hQ50 => ?_
 refine RL.val (O.fldA fl36_1 (by decide) rfl) rfl ?_
 refine RL.val (O.loadN (cs := [vB kv1.f_Dst.f_Six, o8 kv1.f_Dst.f_B 0, o8 kv1.f_Dst.f_B 1, o8 kv1.f_Dst.f_B 2, o8 kv1.f_Dst.f_B 3, o8 kv1.f_Dst.f_B 4, o8 kv1.f_Dst.f_B 5, o8 kv1.f_Dst.f_B 6, o8 kv1.f_Dst.f_B 7, o8 kv1.f_Dst.f_B 8, o8 kv1.f_Dst.f_B 9, o8 kv1.f_Dst.f_B 10, o8 kv1.f_Dst.f_B 11, o8 kv1.f_Dst.f_B 12, o8 kv1.f_Dst.f_B 13, o8 kv1.f_Dst.f_B 14, o8 kv1.f_Dst.f_B 15]) ag33 rfl (Cs.addsN [17] ((hM.bx (i := 0) rfl)) rfl)) rfl ?_
 refine obindE hF fun y51 hx52 hF => ?_
 refine RL.call Try.func86 bd86 rfl rfl (c_addr_Addr_Bytes _ kv1.f_Dst _ hx52) fun v w53 hv => ?_
 obtain ⟨A55, c56, rfl, hN54⟩ := hv
 replace hM := hM.call hN54
 refine obindE hF fun y58 hx59 hF => ?_
 refine RL.call Try.func85 bd85 rfl rfl (c_bits_Writer_Raw _ _ _ y43.2 _ _ (hM.lent [1, 2] rfl (by decide)) _ _ y51 (hM.rd (i := 3) rfl) (hM.offR [1, 2] rfl (i := 3) rfl rfl) _ hx59) fun v w60 hv => ?_
 obtain ⟨A62, c63, rfl, hN61⟩ := hv
 replace hM := hM.callL [1, 2] [0, 3] rfl rfl (by decide) rfl hN61
 refine nt hQ50 ?_
 clear hQ50 Q50
 replace hM := hM.pick [0, 2, 3] rfl (by decide)
 refine sr fun Q65 hQ65 => ?_
 refine RL.val (O.fldA fl36_2 (by decide) rfl) rfl ?_
 refine RL.val (O.load sc5 rfl (Cs.adds [34] ((hM.bx (i := 0) rfl)) rfl)) rfl ?_
 refine RL.eff (E.bsl (enc := (eI .u8)) (xs := ([kv1.f_Proto] : List Int)) hM sl113 ze5 rfl rfl rfl (fun _ => rfl) rfl (by kernel_rfl) rfl) rfl fun v w66 hv => ?_
 clear hM
 obtain ⟨A67, rfl, hM, hf⟩ := hv
 refine obindE hF fun y69 hx70 hF => ?_
 refine RL.call Try.func85 bd85 rfl rfl (c_bits_Writer_Raw _ _ _ y58.2 _ _ (hM.lent [1, 2] rfl (by decide)) _ _ ([kv1.f_Proto] : List Int) (hM.rd (i := 3) rfl) (hM.offR [1, 2] rfl (i := 3) rfl rfl) _ hx70) fun v w71 hv => ?_
 obtain ⟨A73, c74, rfl, hN72⟩ := hv
 replace hM := hM.callL [1, 2] [0, 3] rfl rfl (by decide) rfl hN72
 refine nt hQ65 ?_
 clear hQ65 Q65
 replace hM := hM.pick [0, 2, 3] rfl (by decide)
 refine sr fun Q76 hQ76 => ?_
 refine RL.val (O.fldA fl36_3 (by decide) rfl) rfl ?_
 refine RL.val (O.load sc34 rfl (Cs.adds [35] ((hM.bx (i := 0) rfl)) rfl)) rfl ?_
 refine RL.val (O.conv un34 Try.underlying22 rfl) rfl ?_
 refine obindE hF fun y77 hx78 hF => ?_
 refine RL.call Try.func87 bd87 rfl rfl (c_bits_Writer_Put _ _ _ y69.2 _ _ (hM.lent [1, 2] rfl (by decide)) (IntKind.u64.wrap kv1.f_SrcPort) 2 _ hx78) fun v w79 hv => ?_
 obtain ⟨A81, c82, rfl, hN80⟩ := hv
 replace hM := hM.callL [1, 2] [0] rfl rfl (by decide) rfl hN80
 refine nt hQ76 ?_
 clear hQ76 Q76
 refine sr fun Q84 hQ84 => ?_
 refine RL.val (O.fldA fl36_4 (by decide) rfl) rfl ?_
 refine RL.val (O.load sc34 rfl (Cs.adds [36] ((hM.bx (i := 0) rfl)) rfl)) rfl ?_
 refine RL.val (O.conv un34 Try.underlying22 rfl) rfl ?_
 refine obindE hF fun y85 hx86 hF => ?_
 refine RL.call Try.func87 bd87 rfl rfl (c_bits_Writer_Put _ _ _ y77.2 _ _ (hM.lent [1, 2] rfl (by decide)) (IntKind.u64.wrap kv1.f_DstPort) 2 _ hx86) fun v w87 hv => ?_
 obtain ⟨A89, c90, rfl, hN88⟩ := hv
 replace hM := hM.callL [1, 2] [0] rfl rfl (by decide) rfl hN88
 refine nt hQ84 ?_
 clear hQ84 Q84
 refine sr fun Q92 hQ92 => ?_
 refine obindE hF fun y93 hx94 hF => ?_
 refine RL.call Try.func88 bd88 rfl rfl (c_bits_Writer_Bytes _ _ _ y85.2 _ _ (hM.lent [1, 2] rfl (by decide)) _ hx94) fun v w95 hv => ?_
 obtain ⟨A97, c98, A100, c101, rfl, hN96⟩ := hv
 replace hM := hM.callL [1, 2] [0] rfl rfl (by decide) rfl hN96
 refine va rfl rfl ?_
 refine nt hQ92 ?_
 clear hQ92 Q92
 refine KC.ret ?_
 have hE := Option.some.inj hF
 clear hF
 subst hE
 replace hM := hM.pick [3] rfl (by decide)
 refine KQ.rets Try.results76 (RVs.cons (RV.tm rfl) RVs.nil) ?_
 exact ⟨_, rfl, A100, c101, rfl, hM⟩
set_option maxRecDepth 100000 in
set_option maxHeartbeats 40000000 in
theorem c_bytes_Compare (w : World) (A2 : Option Addr) (c3 : Nat) (av1 : List Int) (hr4 : Rd w A2 c3 1 av1.length (av1.flatMap (eI .u8))) (A6 : Option Addr) (c7 : Nat) (b5 : List Int) (hr8 : Rd w A6 c7 1 b5.length (b5.flatMap (eI .u8))) (r : Int) (hF : F_bytes_Compare av1 b5 = some r) :
  CallsR Try.prog 75 [.slice A2 (av1).length c3, .slice A6 (b5).length c7] w (fun v w' => v = vI r ∧ Mem w [] w' []) := by
 refine calls_KC Try.func75 rfl Try.ntmps75 rfl ?_
 have hM := Mem.init w
 unfold F_bytes_Compare at hF
 refine sr fun Q9 hQ9 => ?_
 refine va rfl rfl ?_
 refine nt hQ9 ?_
 clear hQ9 Q9
 refine sr fun Q10 hQ10 => ?_
 refine vm rfl rfl ?_
 refine vm rfl rfl ?_
 refine RL.val (O.bcmp (xs := av1) (ys := b5) Try.func84 (by kernel_rfl) (by kernel_rfl) (by kernel_rfl) (by kernel_rfl) rfl rfl (hM.inp hr4 Off.nil) (hM.inp hr8 Off.nil)) rfl ?_
 refine va rfl rfl ?_
 refine nt hQ10 ?_
 clear hQ10 Q10
 refine KC.ret ?_
 have hE := Option.some.inj hF
 clear hF
 subst hE
 refine KQ.rets Try.results75 (RVs.cons (RV.tm rfl) RVs.nil) ?_
 exact ⟨_, rfl, rfl, hM⟩
set_option maxRecDepth 100000 in
set_option maxHeartbeats 40000000 in
theorem c_packet_Cmp (w : World) (av1 : T_packet_Key) (b2 : T_packet_Key) (r : Int) (hF : F_packet_Cmp av1 b2 = some r) :
  CallsR Try.prog 60 [.agg #[vB av1.f_Src.f_Six, o8 av1.f_Src.f_B 0, o8 av1.f_Src.f_B 1, o8 av1.f_Src.f_B 2, o8 av1.f_Src.f_B 3, o8 av1.f_Src.f_B 4, o8 av1.f_Src.f_B 5, o8 av1.f_Src.f_B 6, o8 av1.f_Src.f_B 7, o8 av1.f_Src.f_B 8, o8 av1.f_Src.f_B 9, o8 av1.f_Src.f_B 10, o8 av1.f_Src.f_B 11, o8 av1.f_Src.f_B 12, o8 av1.f_Src.f_B 13, o8 av1.f_Src.f_B 14, o8 av1.f_Src.f_B 15, vB av1.f_Dst.f_Six, o8 av1.f_Dst.f_B 0, o8 av1.f_Dst.f_B 1, o8 av1.f_Dst.f_B 2, o8 av1.f_Dst.f_B 3, o8 av1.f_Dst.f_B 4, o8 av1.f_Dst.f_B 5, o8 av1.f_Dst.f_B 6, o8 av1.f_Dst.f_B 7, o8 av1.f_Dst.f_B 8, o8 av1.f_Dst.f_B 9, o8 av1.f_Dst.f_B 10, o8 av1.f_Dst.f_B 11, o8 av1.f_Dst.f_B 12, o8 av1.f_Dst.f_B 13, o8 av1.f_Dst.f_B 14, o8 av1.f_Dst.f_B 15, v8 av1.f_Proto, v16 av1.f_SrcPort, v16 av1.f_DstPort], .agg #[vB b2.f_Src.f_Six, o8 b2.f_Src.f_B 0, o8 b2.f_Src.f_B 1, o8 b2.f_Src.f_B 2, o8 b2.f_Src.f_B 3, o8 b2.f_Src.f_B 4, o8 b2.f_Src.f_B 5, o8 b2.f_Src.f_B 6, o8 b2.f_Src.f_B 7, o8 b2.f_Src.f_B 8, o8 b2.f_Src.f_B 9, o8 b2.f_Src.f_B 10, o8 b2.f_Src.f_B 11, o8 b2.f_Src.f_B 12, o8 b2.f_Src.f_B 13, o8 b2.f_Src.f_B 14, o8 b2.f_Src.f_B 15, vB b2.f_Dst.f_Six, o8 b2.f_Dst.f_B 0, o8 b2.f_Dst.f_B 1, o8 b2.f_Dst.f_B 2, o8 b2.f_Dst.f_B 3, o8 b2.f_Dst.f_B 4, o8 b2.f_Dst.f_B 5, o8 b2.f_Dst.f_B 6, o8 b2.f_Dst.f_B 7, o8 b2.f_Dst.f_B 8, o8 b2.f_Dst.f_B 9, o8 b2.f_Dst.f_B 10, o8 b2.f_Dst.f_B 11, o8 b2.f_Dst.f_B 12, o8 b2.f_Dst.f_B 13, o8 b2.f_Dst.f_B 14, o8 b2.f_Dst.f_B 15, v8 b2.f_Proto, v16 b2.f_SrcPort, v16 b2.f_DstPort]] w (fun v w' => v = vI r ∧ Mem w [] w' []) := by
 refine calls_KC Try.func60 rfl Try.ntmps60 rfl ?_
 have hM := Mem.init w
 unfold F_packet_Cmp at hF
 refine sr fun Q3 hQ3 => ?_
 refine RL.eff (E.box (vs := [vB av1.f_Src.f_Six, o8 av1.f_Src.f_B 0, o8 av1.f_Src.f_B 1, o8 av1.f_Src.f_B 2, o8 av1.f_Src.f_B 3, o8 av1.f_Src.f_B 4, o8 av1.f_Src.f_B 5, o8 av1.f_Src.f_B 6, o8 av1.f_Src.f_B 7, o8 av1.f_Src.f_B 8, o8 av1.f_Src.f_B 9, o8 av1.f_Src.f_B 10, o8 av1.f_Src.f_B 11, o8 av1.f_Src.f_B 12, o8 av1.f_Src.f_B 13, o8 av1.f_Src.f_B 14, o8 av1.f_Src.f_B 15, vB av1.f_Dst.f_Six, o8 av1.f_Dst.f_B 0, o8 av1.f_Dst.f_B 1, o8 av1.f_Dst.f_B 2, o8 av1.f_Dst.f_B 3, o8 av1.f_Dst.f_B 4, o8 av1.f_Dst.f_B 5, o8 av1.f_Dst.f_B 6, o8 av1.f_Dst.f_B 7, o8 av1.f_Dst.f_B 8, o8 av1.f_Dst.f_B 9, o8 av1.f_Dst.f_B 10, o8 av1.f_Dst.f_B 11, o8 av1.f_Dst.f_B 12, o8 av1.f_Dst.f_B 13, o8 av1.f_Dst.f_B 14, o8 av1.f_Dst.f_B 15, v8 av1.f_Proto, v16 av1.f_SrcPort, v16 av1.f_DstPort]) hM rfl rfl) rfl fun v w5 hv => ?_
 clear hM
 obtain ⟨g4, rfl, hM, hf⟩ := hv
 refine RL.eff (E.box (vs := [vB b2.f_Src.f_Six, o8 b2.f_Src.f_B 0, o8 b2.f_Src.f_B 1, o8 b2.f_Src.f_B 2, o8 b2.f_Src.f_B 3, o8 b2.f_Src.f_B 4, o8 b2.f_Src.f_B 5, o8 b2.f_Src.f_B 6, o8 b2.f_Src.f_B 7, o8 b2.f_Src.f_B 8, o8 b2.f_Src.f_B 9, o8 b2.f_Src.f_B 10, o8 b2.f_Src.f_B 11, o8 b2.f_Src.f_B 12, o8 b2.f_Src.f_B 13, o8 b2.f_Src.f_B 14, o8 b2.f_Src.f_B 15, vB b2.f_Dst.f_Six, o8 b2.f_Dst.f_B 0, o8 b2.f_Dst.f_B 1, o8 b2.f_Dst.f_B 2, o8 b2.f_Dst.f_B 3, o8 b2.f_Dst.f_B 4, o8 b2.f_Dst.f_B 5, o8 b2.f_Dst.f_B 6, o8 b2.f_Dst.f_B 7, o8 b2.f_Dst.f_B 8, o8 b2.f_Dst.f_B 9, o8 b2.f_Dst.f_B 10, o8 b2.f_Dst.f_B 11, o8 b2.f_Dst.f_B 12, o8 b2.f_Dst.f_B 13, o8 b2.f_Dst.f_B 14, o8 b2.f_Dst.f_B 15, v8 b2.f_Proto, v16 b2.f_SrcPort, v16 b2.f_DstPort]) hM rfl rfl) rfl fun v w8 hv => ?_
 clear hM
 obtain ⟨g7, rfl, hM, hf⟩ := hv
 refine va rfl rfl ?_
 refine nt hQ3 ?_
 clear hQ3 Q3
 refine KC.seqH fun Q10 hQ10 => ?_
 replace hM := hM.drewN 1
 refine KC.draw [] [] [1, 3, 4] [5] (.ofList [0, 2, 1, 3, 4, 5]) moP (by kernel_rfl) ?_
 refine RD.q rfl rfl rfl rfl (fun w' hf => O.loadN (cs := [vB av1.f_Src.f_Six, o8 av1.f_Src.f_B 0, o8 av1.f_Src.f_B 1, o8 av1.f_Src.f_B 2, o8 av1.f_Src.f_B 3, o8 av1.f_Src.f_B 4, o8 av1.f_Src.f_B 5, o8 av1.f_Src.f_B 6, o8 av1.f_Src.f_B 7, o8 av1.f_Src.f_B 8, o8 av1.f_Src.f_B 9, o8 av1.f_Src.f_B 10, o8 av1.f_Src.f_B 11, o8 av1.f_Src.f_B 12, o8 av1.f_Src.f_B 13, o8 av1.f_Src.f_B 14, o8 av1.f_Src.f_B 15, vB av1.f_Dst.f_Six, o8 av1.f_Dst.f_B 0, o8 av1.f_Dst.f_B 1, o8 av1.f_Dst.f_B 2, o8 av1.f_Dst.f_B 3, o8 av1.f_Dst.f_B 4, o8 av1.f_Dst.f_B 5, o8 av1.f_Dst.f_B 6, o8 av1.f_Dst.f_B 7, o8 av1.f_Dst.f_B 8, o8 av1.f_Dst.f_B 9, o8 av1.f_Dst.f_B 10, o8 av1.f_Dst.f_B 11, o8 av1.f_Dst.f_B 12, o8 av1.f_Dst.f_B 13, o8 av1.f_Dst.f_B 14, o8 av1.f_Dst.f_B 15, v8 av1.f_Proto, v16 av1.f_SrcPort, v16 av1.f_DstPort]) ag36 rfl (Cs.addsN [] ((hM.bx (i := 0) rfl).fut hf) rfl)) ?_
 refine RD.q rfl rfl rfl rfl (fun w' hf => O.loadN (cs := [vB b2.f_Src.f_Six, o8 b2.f_Src.f_B 0, o8 b2.f_Src.f_B 1, o8 b2.f_Src.f_B 2, o8 b2.f_Src.f_B 3, o8 b2.f_Src.f_B 4, o8 b2.f_Src.f_B 5, o8 b2.f_Src.f_B 6, o8 b2.f_Src.f_B 7, o8 b2.f_Src.f_B 8, o8 b2.f_Src.f_B 9, o8 b2.f_Src.f_B 10, o8 b2.f_Src.f_B 11, o8 b2.f_Src.f_B 12, o8 b2.f_Src.f_B 13, o8 b2.f_Src.f_B 14, o8 b2.f_Src.f_B 15, vB b2.f_Dst.f_Six, o8 b2.f_Dst.f_B 0, o8 b2.f_Dst.f_B 1, o8 b2.f_Dst.f_B 2, o8 b2.f_Dst.f_B 3, o8 b2.f_Dst.f_B 4, o8 b2.f_Dst.f_B 5, o8 b2.f_Dst.f_B 6, o8 b2.f_Dst.f_B 7, o8 b2.f_Dst.f_B 8, o8 b2.f_Dst.f_B 9, o8 b2.f_Dst.f_B 10, o8 b2.f_Dst.f_B 11, o8 b2.f_Dst.f_B 12, o8 b2.f_Dst.f_B 13, o8 b2.f_Dst.f_B 14, o8 b2.f_Dst.f_B 15, v8 b2.f_Proto, v16 b2.f_SrcPort, v16 b2.f_DstPort]) ag36 rfl (Cs.addsN [] ((hM.bx (i := 1) rfl).fut hf) rfl)) ?_
 refine obindE hF fun y11 hx12 hF => ?_
 refine RD.mcall rfl rfl trivial Try.func76 bd76 rfl rfl (c_packet_Key_Bytes _ av1 _ hx12) fun v w13 hv => ?_
 obtain ⟨A15, c16, rfl, hN14⟩ := hv
 refine ⟨fun _ => hN14.fut, ?_⟩
 replace hM := hM.call hN14
 refine obindE hF fun y18 hx19 hF => ?_
 refine RD.mcall rfl rfl trivial Try.func76 bd76 rfl rfl (c_packet_Key_Bytes _ b2 _ hx19) fun v w20 hv => ?_
 obtain ⟨A22, c23, rfl, hN21⟩ := hv
 refine ⟨fun _ => hN21.fut, ?_⟩
 replace hM := hM.call hN21
 refine obindE hF fun y25 hx26 hF => ?_
 refine RD.mcall rfl rfl trivial Try.func75 bd75 rfl rfl (c_bytes_Compare _ _ _ y11 (hM.rd (i := 2) rfl) _ _ y18 (hM.rd (i := 3) rfl) _ hx26) fun v w27 hv => ?_
 obtain ⟨rfl, hN28⟩ := hv
 refine ⟨fun _ => hN28.fut, ?_⟩
 replace hM := hM.call0 hN28
 refine RD.p rfl rfl rfl rfl (fun w' => O.assign rfl) ?_
 refine RD.nil ?_
 refine KQ.thn hQ10 ?_
 clear hQ10 Q10
 refine KC.ret ?_
 have hE := Option.some.inj hF
 clear hF
 subst hE
 replace hM := hM.pick [] rfl (by decide)
 refine KQ.rets Try.results60 (RVs.cons (RV.tm rfl) RVs.nil) ?_
 exact ⟨_, rfl, rfl, hM⟩
set_option maxRecDepth 100000 in
set_option maxHeartbeats 40000000 in
theorem c_cache_byKey (w : World) (av1 : T_flow_Record) (b2 : T_flow_Record) (r : Int) (hF : F_cache_byKey av1 b2 = some r) :
  CallsR Try.prog 36 [.agg #[vB av1.f_Key.f_Src.f_Six, o8 av1.f_Key.f_Src.f_B 0, o8 av1.f_Key.f_Src.f_B 1, o8 av1.f_Key.f_Src.f_B 2, o8 av1.f_Key.f_Src.f_B 3, o8 av1.f_Key.f_Src.f_B 4, o8 av1.f_Key.f_Src.f_B 5, o8 av1.f_Key.f_Src.f_B 6, o8 av1.f_Key.f_Src.f_B 7, o8 av1.f_Key.f_Src.f_B 8, o8 av1.f_Key.f_Src.f_B 9, o8 av1.f_Key.f_Src.f_B 10, o8 av1.f_Key.f_Src.f_B 11, o8 av1.f_Key.f_Src.f_B 12, o8 av1.f_Key.f_Src.f_B 13, o8 av1.f_Key.f_Src.f_B 14, o8 av1.f_Key.f_Src.f_B 15, vB av1.f_Key.f_Dst.f_Six, o8 av1.f_Key.f_Dst.f_B 0, o8 av1.f_Key.f_Dst.f_B 1, o8 av1.f_Key.f_Dst.f_B 2, o8 av1.f_Key.f_Dst.f_B 3, o8 av1.f_Key.f_Dst.f_B 4, o8 av1.f_Key.f_Dst.f_B 5, o8 av1.f_Key.f_Dst.f_B 6, o8 av1.f_Key.f_Dst.f_B 7, o8 av1.f_Key.f_Dst.f_B 8, o8 av1.f_Key.f_Dst.f_B 9, o8 av1.f_Key.f_Dst.f_B 10, o8 av1.f_Key.f_Dst.f_B 11, o8 av1.f_Key.f_Dst.f_B 12, o8 av1.f_Key.f_Dst.f_B 13, o8 av1.f_Key.f_Dst.f_B 14, o8 av1.f_Key.f_Dst.f_B 15, v8 av1.f_Key.f_Proto, v16 av1.f_Key.f_SrcPort, v16 av1.f_Key.f_DstPort, v64 av1.f_Packets, v64 av1.f_Bytes, v64 av1.f_First, v64 av1.f_Last, v8 av1.f_Flags, v8 av1.f_Reason, v8 av1.f_Class], .agg #[vB b2.f_Key.f_Src.f_Six, o8 b2.f_Key.f_Src.f_B 0, o8 b2.f_Key.f_Src.f_B 1, o8 b2.f_Key.f_Src.f_B 2, o8 b2.f_Key.f_Src.f_B 3, o8 b2.f_Key.f_Src.f_B 4, o8 b2.f_Key.f_Src.f_B 5, o8 b2.f_Key.f_Src.f_B 6, o8 b2.f_Key.f_Src.f_B 7, o8 b2.f_Key.f_Src.f_B 8, o8 b2.f_Key.f_Src.f_B 9, o8 b2.f_Key.f_Src.f_B 10, o8 b2.f_Key.f_Src.f_B 11, o8 b2.f_Key.f_Src.f_B 12, o8 b2.f_Key.f_Src.f_B 13, o8 b2.f_Key.f_Src.f_B 14, o8 b2.f_Key.f_Src.f_B 15, vB b2.f_Key.f_Dst.f_Six, o8 b2.f_Key.f_Dst.f_B 0, o8 b2.f_Key.f_Dst.f_B 1, o8 b2.f_Key.f_Dst.f_B 2, o8 b2.f_Key.f_Dst.f_B 3, o8 b2.f_Key.f_Dst.f_B 4, o8 b2.f_Key.f_Dst.f_B 5, o8 b2.f_Key.f_Dst.f_B 6, o8 b2.f_Key.f_Dst.f_B 7, o8 b2.f_Key.f_Dst.f_B 8, o8 b2.f_Key.f_Dst.f_B 9, o8 b2.f_Key.f_Dst.f_B 10, o8 b2.f_Key.f_Dst.f_B 11, o8 b2.f_Key.f_Dst.f_B 12, o8 b2.f_Key.f_Dst.f_B 13, o8 b2.f_Key.f_Dst.f_B 14, o8 b2.f_Key.f_Dst.f_B 15, v8 b2.f_Key.f_Proto, v16 b2.f_Key.f_SrcPort, v16 b2.f_Key.f_DstPort, v64 b2.f_Packets, v64 b2.f_Bytes, v64 b2.f_First, v64 b2.f_Last, v8 b2.f_Flags, v8 b2.f_Reason, v8 b2.f_Class]] w (fun v w' => v = vI r ∧ Mem w [] w' []) := by
 refine calls_KC Try.func36 rfl Try.ntmps36 rfl ?_
 have hM := Mem.init w
 unfold F_cache_byKey at hF
 refine sr fun Q3 hQ3 => ?_
 refine RL.eff (E.box (vs := [vB av1.f_Key.f_Src.f_Six, o8 av1.f_Key.f_Src.f_B 0, o8 av1.f_Key.f_Src.f_B 1, o8 av1.f_Key.f_Src.f_B 2, o8 av1.f_Key.f_Src.f_B 3, o8 av1.f_Key.f_Src.f_B 4, o8 av1.f_Key.f_Src.f_B 5, o8 av1.f_Key.f_Src.f_B 6, o8 av1.f_Key.f_Src.f_B 7, o8 av1.f_Key.f_Src.f_B 8, o8 av1.f_Key.f_Src.f_B 9, o8 av1.f_Key.f_Src.f_B 10, o8 av1.f_Key.f_Src.f_B 11, o8 av1.f_Key.f_Src.f_B 12, o8 av1.f_Key.f_Src.f_B 13, o8 av1.f_Key.f_Src.f_B 14, o8 av1.f_Key.f_Src.f_B 15, vB av1.f_Key.f_Dst.f_Six, o8 av1.f_Key.f_Dst.f_B 0, o8 av1.f_Key.f_Dst.f_B 1, o8 av1.f_Key.f_Dst.f_B 2, o8 av1.f_Key.f_Dst.f_B 3, o8 av1.f_Key.f_Dst.f_B 4, o8 av1.f_Key.f_Dst.f_B 5, o8 av1.f_Key.f_Dst.f_B 6, o8 av1.f_Key.f_Dst.f_B 7, o8 av1.f_Key.f_Dst.f_B 8, o8 av1.f_Key.f_Dst.f_B 9, o8 av1.f_Key.f_Dst.f_B 10, o8 av1.f_Key.f_Dst.f_B 11, o8 av1.f_Key.f_Dst.f_B 12, o8 av1.f_Key.f_Dst.f_B 13, o8 av1.f_Key.f_Dst.f_B 14, o8 av1.f_Key.f_Dst.f_B 15, v8 av1.f_Key.f_Proto, v16 av1.f_Key.f_SrcPort, v16 av1.f_Key.f_DstPort, v64 av1.f_Packets, v64 av1.f_Bytes, v64 av1.f_First, v64 av1.f_Last, v8 av1.f_Flags, v8 av1.f_Reason, v8 av1.f_Class]) hM rfl rfl) rfl fun v w5 hv => ?_
 clear hM
 obtain ⟨g4, rfl, hM, hf⟩ := hv
 refine RL.eff (E.box (vs := [vB b2.f_Key.f_Src.f_Six, o8 b2.f_Key.f_Src.f_B 0, o8 b2.f_Key.f_Src.f_B 1, o8 b2.f_Key.f_Src.f_B 2, o8 b2.f_Key.f_Src.f_B 3, o8 b2.f_Key.f_Src.f_B 4, o8 b2.f_Key.f_Src.f_B 5, o8 b2.f_Key.f_Src.f_B 6, o8 b2.f_Key.f_Src.f_B 7, o8 b2.f_Key.f_Src.f_B 8, o8 b2.f_Key.f_Src.f_B 9, o8 b2.f_Key.f_Src.f_B 10, o8 b2.f_Key.f_Src.f_B 11, o8 b2.f_Key.f_Src.f_B 12, o8 b2.f_Key.f_Src.f_B 13, o8 b2.f_Key.f_Src.f_B 14, o8 b2.f_Key.f_Src.f_B 15, vB b2.f_Key.f_Dst.f_Six, o8 b2.f_Key.f_Dst.f_B 0, o8 b2.f_Key.f_Dst.f_B 1, o8 b2.f_Key.f_Dst.f_B 2, o8 b2.f_Key.f_Dst.f_B 3, o8 b2.f_Key.f_Dst.f_B 4, o8 b2.f_Key.f_Dst.f_B 5, o8 b2.f_Key.f_Dst.f_B 6, o8 b2.f_Key.f_Dst.f_B 7, o8 b2.f_Key.f_Dst.f_B 8, o8 b2.f_Key.f_Dst.f_B 9, o8 b2.f_Key.f_Dst.f_B 10, o8 b2.f_Key.f_Dst.f_B 11, o8 b2.f_Key.f_Dst.f_B 12, o8 b2.f_Key.f_Dst.f_B 13, o8 b2.f_Key.f_Dst.f_B 14, o8 b2.f_Key.f_Dst.f_B 15, v8 b2.f_Key.f_Proto, v16 b2.f_Key.f_SrcPort, v16 b2.f_Key.f_DstPort, v64 b2.f_Packets, v64 b2.f_Bytes, v64 b2.f_First, v64 b2.f_Last, v8 b2.f_Flags, v8 b2.f_Reason, v8 b2.f_Class]) hM rfl rfl) rfl fun v w8 hv => ?_
 clear hM
 obtain ⟨g7, rfl, hM, hf⟩ := hv
 refine va rfl rfl ?_
 refine nt hQ3 ?_
 clear hQ3 Q3
 refine sr fun Q10 hQ10 => ?_
 refine RL.val (O.fldA fl46_0 (by decide) rfl) rfl ?_
 refine RL.val (O.loadN (cs := [vB av1.f_Key.f_Src.f_Six, o8 av1.f_Key.f_Src.f_B 0, o8 av1.f_Key.f_Src.f_B 1, o8 av1.f_Key.f_Src.f_B 2, o8 av1.f_Key.f_Src.f_B 3, o8 av1.f_Key.f_Src.f_B 4, o8 av1.f_Key.f_Src.f_B 5, o8 av1.f_Key.f_Src.f_B 6, o8 av1.f_Key.f_Src.f_B 7, o8 av1.f_Key.f_Src.f_B 8, o8 av1.f_Key.f_Src.f_B 9, o8 av1.f_Key.f_Src.f_B 10, o8 av1.f_Key.f_Src.f_B 11, o8 av1.f_Key.f_Src.f_B 12, o8 av1.f_Key.f_Src.f_B 13, o8 av1.f_Key.f_Src.f_B 14, o8 av1.f_Key.f_Src.f_B 15, vB av1.f_Key.f_Dst.f_Six, o8 av1.f_Key.f_Dst.f_B 0, o8 av1.f_Key.f_Dst.f_B 1, o8 av1.f_Key.f_Dst.f_B 2, o8 av1.f_Key.f_Dst.f_B 3, o8 av1.f_Key.f_Dst.f_B 4, o8 av1.f_Key.f_Dst.f_B 5, o8 av1.f_Key.f_Dst.f_B 6, o8 av1.f_Key.f_Dst.f_B 7, o8 av1.f_Key.f_Dst.f_B 8, o8 av1.f_Key.f_Dst.f_B 9, o8 av1.f_Key.f_Dst.f_B 10, o8 av1.f_Key.f_Dst.f_B 11, o8 av1.f_Key.f_Dst.f_B 12, o8 av1.f_Key.f_Dst.f_B 13, o8 av1.f_Key.f_Dst.f_B 14, o8 av1.f_Key.f_Dst.f_B 15, v8 av1.f_Key.f_Proto, v16 av1.f_Key.f_SrcPort, v16 av1.f_Key.f_DstPort]) ag36 rfl (Cs.addsN [0] ((hM.bx (i := 0) rfl)) rfl)) rfl ?_
 refine RL.val (O.fldA fl46_0 (by decide) rfl) rfl ?_
 refine RL.val (O.loadN (cs := [vB b2.f_Key.f_Src.f_Six, o8 b2.f_Key.f_Src.f_B 0, o8 b2.f_Key.f_Src.f_B 1, o8 b2.f_Key.f_Src.f_B 2, o8 b2.f_Key.f_Src.f_B 3, o8 b2.f_Key.f_Src.f_B 4, o8 b2.f_Key.f_Src.f_B 5, o8 b2.f_Key.f_Src.f_B 6, o8 b2.f_Key.f_Src.f_B 7, o8 b2.f_Key.f_Src.f_B 8, o8 b2.f_Key.f_Src.f_B 9, o8 b2.f_Key.f_Src.f_B 10, o8 b2.f_Key.f_Src.f_B 11, o8 b2.f_Key.f_Src.f_B 12, o8 b2.f_Key.f_Src.f_B 13, o8 b2.f_Key.f_Src.f_B 14, o8 b2.f_Key.f_Src.f_B 15, vB b2.f_Key.f_Dst.f_Six, o8 b2.f_Key.f_Dst.f_B 0, o8 b2.f_Key.f_Dst.f_B 1, o8 b2.f_Key.f_Dst.f_B 2, o8 b2.f_Key.f_Dst.f_B 3, o8 b2.f_Key.f_Dst.f_B 4, o8 b2.f_Key.f_Dst.f_B 5, o8 b2.f_Key.f_Dst.f_B 6, o8 b2.f_Key.f_Dst.f_B 7, o8 b2.f_Key.f_Dst.f_B 8, o8 b2.f_Key.f_Dst.f_B 9, o8 b2.f_Key.f_Dst.f_B 10, o8 b2.f_Key.f_Dst.f_B 11, o8 b2.f_Key.f_Dst.f_B 12, o8 b2.f_Key.f_Dst.f_B 13, o8 b2.f_Key.f_Dst.f_B 14, o8 b2.f_Key.f_Dst.f_B 15, v8 b2.f_Key.f_Proto, v16 b2.f_Key.f_SrcPort, v16 b2.f_Key.f_DstPort]) ag36 rfl (Cs.addsN [0] ((hM.bx (i := 1) rfl)) rfl)) rfl ?_
 refine obindE hF fun y11 hx12 hF => ?_
 refine RL.call Try.func60 bd60 rfl rfl (c_packet_Cmp _ av1.f_Key b2.f_Key _ hx12) fun v w13 hv => ?_
 obtain ⟨rfl, hN14⟩ := hv
 replace hM := hM.call0 hN14
 refine va rfl rfl ?_
 refine nt hQ10 ?_
 clear hQ10 Q10
 refine KC.ret ?_
 have hE := Option.some.inj hF
 clear hF
 subst hE
 replace hM := hM.pick [] rfl (by decide)
 refine KQ.rets Try.results36 (RVs.cons (RV.tm rfl) RVs.nil) ?_
 exact ⟨_, rfl, rfl, hM⟩
set_option maxRecDepth 100000 in
set_option maxHeartbeats 40000000 in
theorem c_cmp_Or_int (w : World) (A2 : Option Addr) (c3 : Nat) (vals1 : List Int) (hr4 : Rd w A2 c3 1 vals1.length (vals1.flatMap (eI .i64))) (r : Int) (hF : F_cmp_Or_int vals1 = some r) :
  CallsR Try.prog 34 [.slice A2 (vals1).length c3] w (fun v w' => v = vI r ∧ Mem w [] w' []) := by
 refine calls_KC Try.func34 rfl Try.ntmps34 rfl ?_
 have hM := Mem.init w
 unfold F_cmp_Or_int at hF
 refine sr fun Q5 hQ5 => ?_
 refine va rfl rfl ?_
 refine nt hQ5 ?_
 clear hQ5 Q5
 refine sr fun Q6 hQ6 => ?_
 refine va rfl rfl ?_
 refine nt hQ6 ?_
 clear hQ6 Q6
 refine KC.seqH fun Q7 hQ7 => ?_
 refine sr fun Q8 hQ8 => ?_
 refine vm rfl rfl ?_
 refine RL.val (O.len sl110 rfl) rfl ?_
 refine vm rfl rfl ?_
 refine nt hQ8 ?_
 clear hQ8 Q8
 refine KC.block ?_
 refine KC.loop (fun k31 a w29 => ∃ (t28 : Int), Kn 18 [(3, vI 0), (6, .slice A2 (vals1).length c3), (7, vI (vals1.length : Int)), (8, vI t28)] a ∧ Mem w [] w29 [] ∧ F_cmp_Or_int_L1 vals1 k31 t28 = some r) ?_ ?_
 ·exact fun a ha => ⟨fuel0, 0, ha.less (less_cons rfl (less_cons rfl (less_cons rfl (less_cons rfl less_nil)))), hM, hF⟩
 rintro k31 a w29 ⟨t28, ha, hM, hF⟩
 refine KC.app ha ?_
 clear ha
 cases k31 with
 | zero => exact (none_some hF).elim
 | succ k31 =>
 have hF : F_cmp_Or_int_l1 (F_cmp_Or_int_L1 vals1 k31) vals1 t28 = some r := hF
 unfold F_cmp_Or_int_l1 at hF
 refine sr fun Q32 hQ32 => ?_
 refine RL.val (O.lss rfl rfl) rfl ?_
 refine nt hQ32 ?_
 clear hQ32 Q32
 refine KC.seqH fun Q33 hQ33 => ?_
 refine KC.cond rfl (fun hc => ?_) (fun hc => ?_)
 ·rw [if_pos hc] at hF
  refine KC.skip ?_
  refine KQ.thn hQ33 ?_
  clear hQ33 Q33
  refine KC.seqH fun Q34 hQ34 => ?_
  refine KC.block ?_
  refine sr fun Q35 hQ35 => ?_
  refine obindE hF fun xv38 hx37 hF => ?_
  have hA36 := Rd.atN (f := (eI .i64)) (s := 1) (fun _ => rfl) (by decide) (hM.inp hr4 Off.nil) hx37
  refine RL.val (O.idxA sl110 (hA36) rfl rfl) rfl ?_
  refine RL.val (O.load sc3 rfl (hA36).cells.at0) rfl ?_
  refine va rfl rfl ?_
  refine nt hQ35 ?_
  clear hQ35 Q35
  refine sr fun Q39 hQ39 => ?_
  refine vm rfl rfl ?_
  refine vm rfl rfl ?_
  refine RL.val (O.neq rfl rfl) rfl ?_
  refine nt hQ39 ?_
  clear hQ39 Q39
  refine KC.cond rfl (fun hc => ?_) (fun hc => ?_)
  ·rw [if_pos hc] at hF
   refine sr fun Q40 hQ40 => ?_
   refine vm rfl rfl ?_
   refine va rfl rfl ?_
   refine nt hQ40 ?_
   clear hQ40 Q40
   refine KC.ret ?_
   refine KQ.blk_r ?_
   refine KQ.thr hQ34 ?_
   clear hQ34 Q34
   refine KQ.then_r ?_
   refine KQ.blk_r ?_
   refine KQ.thr hQ7 ?_
   clear hQ7 Q7
   have hE := Option.some.inj hF
   clear hF
   subst hE
   refine KQ.rets Try.results34 (RVs.cons (RV.tm rfl) RVs.nil) ?_
   exact ⟨_, rfl, rfl, hM⟩
  rw [if_neg (ne_true hc)] at hF
  refine KC.skip ?_
  refine KQ.blk_n ?_
  refine KQ.thn hQ34 ?_
  clear hQ34 Q34
  refine KC.region ?_
  refine RL.val (O.add rfl rfl) rfl ?_
  refine vm rfl rfl ?_
  refine RL.nil ?_
  refine KQ.then_k ?_
  exact fun a ha => ⟨k31, Nat.lt_succ_self k31, (IntKind.i64.wrap (t28 + 1)), ha.less (less_cons rfl (less_cons rfl (less_cons rfl (less_cons rfl less_nil)))), hM, hF⟩
 rw [if_neg (ne_true hc)] at hF
 refine KC.exit ?_
 refine KQ.thx hQ33 ?_
 clear hQ33 Q33
 refine KQ.then_x ?_
 refine KQ.blk_x ?_
 refine KQ.thn hQ7 ?_
 clear hQ7 Q7
 refine sr fun Q41 hQ41 => ?_
 refine vm rfl rfl ?_
 refine va rfl rfl ?_
 refine nt hQ41 ?_
 clear hQ41 Q41
 refine KC.ret ?_
 have hE := Option.some.inj hF
 clear hF
 subst hE
 refine KQ.rets Try.results34 (RVs.cons (RV.tm rfl) RVs.nil) ?_
 exact ⟨_, rfl, rfl, hM⟩
set_option maxRecDepth 100000 in
set_option maxHeartbeats 40000000 in
theorem c_cache_Cache_Advance_1_B (w : World) (g4 : Nat) (tg11 : TypeId) (cv3 : T_cache_Cache) (g6 : Nat) (tg8 : TypeId) (vo9 : Value) (vo10 : Value) (hL12 : Lent w [.box g4 tg11 [.pointer (some ⟨g6, 0, none⟩)], .box g6 tg8 [v64 cv3.f_tick, vI cv3.f_bounds.f_Flows, v64 cv3.f_bounds.f_Idle, v64 cv3.f_bounds.f_Active, v64 cv3.f_bounds.f_Packets, v64 cv3.f_bounds.f_Bytes, vo9, vo10]]) (av1 : T_flow_Record) (b2 : T_flow_Record) (r : Int) (hF : F_cache_Cache_Advance_1 av1 b2 cv3 = some r) :
  CallsR Try.prog 33 [.agg #[vB av1.f_Key.f_Src.f_Six, o8 av1.f_Key.f_Src.f_B 0, o8 av1.f_Key.f_Src.f_B 1, o8 av1.f_Key.f_Src.f_B 2, o8 av1.f_Key.f_Src.f_B 3, o8 av1.f_Key.f_Src.f_B 4, o8 av1.f_Key.f_Src.f_B 5, o8 av1.f_Key.f_Src.f_B 6, o8 av1.f_Key.f_Src.f_B 7, o8 av1.f_Key.f_Src.f_B 8, o8 av1.f_Key.f_Src.f_B 9, o8 av1.f_Key.f_Src.f_B 10, o8 av1.f_Key.f_Src.f_B 11, o8 av1.f_Key.f_Src.f_B 12, o8 av1.f_Key.f_Src.f_B 13, o8 av1.f_Key.f_Src.f_B 14, o8 av1.f_Key.f_Src.f_B 15, vB av1.f_Key.f_Dst.f_Six, o8 av1.f_Key.f_Dst.f_B 0, o8 av1.f_Key.f_Dst.f_B 1, o8 av1.f_Key.f_Dst.f_B 2, o8 av1.f_Key.f_Dst.f_B 3, o8 av1.f_Key.f_Dst.f_B 4, o8 av1.f_Key.f_Dst.f_B 5, o8 av1.f_Key.f_Dst.f_B 6, o8 av1.f_Key.f_Dst.f_B 7, o8 av1.f_Key.f_Dst.f_B 8, o8 av1.f_Key.f_Dst.f_B 9, o8 av1.f_Key.f_Dst.f_B 10, o8 av1.f_Key.f_Dst.f_B 11, o8 av1.f_Key.f_Dst.f_B 12, o8 av1.f_Key.f_Dst.f_B 13, o8 av1.f_Key.f_Dst.f_B 14, o8 av1.f_Key.f_Dst.f_B 15, v8 av1.f_Key.f_Proto, v16 av1.f_Key.f_SrcPort, v16 av1.f_Key.f_DstPort, v64 av1.f_Packets, v64 av1.f_Bytes, v64 av1.f_First, v64 av1.f_Last, v8 av1.f_Flags, v8 av1.f_Reason, v8 av1.f_Class], .agg #[vB b2.f_Key.f_Src.f_Six, o8 b2.f_Key.f_Src.f_B 0, o8 b2.f_Key.f_Src.f_B 1, o8 b2.f_Key.f_Src.f_B 2, o8 b2.f_Key.f_Src.f_B 3, o8 b2.f_Key.f_Src.f_B 4, o8 b2.f_Key.f_Src.f_B 5, o8 b2.f_Key.f_Src.f_B 6, o8 b2.f_Key.f_Src.f_B 7, o8 b2.f_Key.f_Src.f_B 8, o8 b2.f_Key.f_Src.f_B 9, o8 b2.f_Key.f_Src.f_B 10, o8 b2.f_Key.f_Src.f_B 11, o8 b2.f_Key.f_Src.f_B 12, o8 b2.f_Key.f_Src.f_B 13, o8 b2.f_Key.f_Src.f_B 14, o8 b2.f_Key.f_Src.f_B 15, vB b2.f_Key.f_Dst.f_Six, o8 b2.f_Key.f_Dst.f_B 0, o8 b2.f_Key.f_Dst.f_B 1, o8 b2.f_Key.f_Dst.f_B 2, o8 b2.f_Key.f_Dst.f_B 3, o8 b2.f_Key.f_Dst.f_B 4, o8 b2.f_Key.f_Dst.f_B 5, o8 b2.f_Key.f_Dst.f_B 6, o8 b2.f_Key.f_Dst.f_B 7, o8 b2.f_Key.f_Dst.f_B 8, o8 b2.f_Key.f_Dst.f_B 9, o8 b2.f_Key.f_Dst.f_B 10, o8 b2.f_Key.f_Dst.f_B 11, o8 b2.f_Key.f_Dst.f_B 12, o8 b2.f_Key.f_Dst.f_B 13, o8 b2.f_Key.f_Dst.f_B 14, o8 b2.f_Key.f_Dst.f_B 15, v8 b2.f_Key.f_Proto, v16 b2.f_Key.f_SrcPort, v16 b2.f_Key.f_DstPort, v64 b2.f_Packets, v64 b2.f_Bytes, v64 b2.f_First, v64 b2.f_Last, v8 b2.f_Flags, v8 b2.f_Reason, v8 b2.f_Class], .pointer (some ⟨g4, 0, none⟩)] w (fun v w' => v = vI r ∧ Mem w [some g4, some g6] w' [.box g4 tg11 [.pointer (some ⟨g6, 0, none⟩)], .box g6 tg8 [v64 cv3.f_tick, vI cv3.f_bounds.f_Flows, v64 cv3.f_bounds.f_Idle, v64 cv3.f_bounds.f_Active, v64 cv3.f_bounds.f_Packets, v64 cv3.f_bounds.f_Bytes, vo9, vo10]]) := by
 refine calls_KC Try.func33 rfl Try.ntmps33 rfl ?_
 have hM : Mem w [some g4, some g6] w [.box g4 tg11 [.pointer (some ⟨g6, 0, none⟩)], .box g6 tg8 [v64 cv3.f_tick, vI cv3.f_bounds.f_Flows, v64 cv3.f_bounds.f_Idle, v64 cv3.f_bounds.f_Active, v64 cv3.f_bounds.f_Packets, v64 cv3.f_bounds.f_Bytes, vo9, vo10]] := Mem.lendN hL12
 unfold F_cache_Cache_Advance_1 at hF
 refine sr fun Q13 hQ13 => ?_
 refine RL.eff (E.box (vs := [vB av1.f_Key.f_Src.f_Six, o8 av1.f_Key.f_Src.f_B 0, o8 av1.f_Key.f_Src.f_B 1, o8 av1.f_Key.f_Src.f_B 2, o8 av1.f_Key.f_Src.f_B 3, o8 av1.f_Key.f_Src.f_B 4, o8 av1.f_Key.f_Src.f_B 5, o8 av1.f_Key.f_Src.f_B 6, o8 av1.f_Key.f_Src.f_B 7, o8 av1.f_Key.f_Src.f_B 8, o8 av1.f_Key.f_Src.f_B 9, o8 av1.f_Key.f_Src.f_B 10, o8 av1.f_Key.f_Src.f_B 11, o8 av1.f_Key.f_Src.f_B 12, o8 av1.f_Key.f_Src.f_B 13, o8 av1.f_Key.f_Src.f_B 14, o8 av1.f_Key.f_Src.f_B 15, vB av1.f_Key.f_Dst.f_Six, o8 av1.f_Key.f_Dst.f_B 0, o8 av1.f_Key.f_Dst.f_B 1, o8 av1.f_Key.f_Dst.f_B 2, o8 av1.f_Key.f_Dst.f_B 3, o8 av1.f_Key.f_Dst.f_B 4, o8 av1.f_Key.f_Dst.f_B 5, o8 av1.f_Key.f_Dst.f_B 6, o8 av1.f_Key.f_Dst.f_B 7, o8 av1.f_Key.f_Dst.f_B 8, o8 av1.f_Key.f_Dst.f_B 9, o8 av1.f_Key.f_Dst.f_B 10, o8 av1.f_Key.f_Dst.f_B 11, o8 av1.f_Key.f_Dst.f_B 12, o8 av1.f_Key.f_Dst.f_B 13, o8 av1.f_Key.f_Dst.f_B 14, o8 av1.f_Key.f_Dst.f_B 15, v8 av1.f_Key.f_Proto, v16 av1.f_Key.f_SrcPort, v16 av1.f_Key.f_DstPort, v64 av1.f_Packets, v64 av1.f_Bytes, v64 av1.f_First, v64 av1.f_Last, v8 av1.f_Flags, v8 av1.f_Reason, v8 av1.f_Class]) hM rfl rfl) rfl fun v w15 hv => ?_
 clear hM
 obtain ⟨g14, rfl, hM, hf⟩ := hv
 refine RL.eff (E.box (vs := [vB b2.f_Key.f_Src.f_Six, o8 b2.f_Key.f_Src.f_B 0, o8 b2.f_Key.f_Src.f_B 1, o8 b2.f_Key.f_Src.f_B 2, o8 b2.f_Key.f_Src.f_B 3, o8 b2.f_Key.f_Src.f_B 4, o8 b2.f_Key.f_Src.f_B 5, o8 b2.f_Key.f_Src.f_B 6, o8 b2.f_Key.f_Src.f_B 7, o8 b2.f_Key.f_Src.f_B 8, o8 b2.f_Key.f_Src.f_B 9, o8 b2.f_Key.f_Src.f_B 10, o8 b2.f_Key.f_Src.f_B 11, o8 b2.f_Key.f_Src.f_B 12, o8 b2.f_Key.f_Src.f_B 13, o8 b2.f_Key.f_Src.f_B 14, o8 b2.f_Key.f_Src.f_B 15, vB b2.f_Key.f_Dst.f_Six, o8 b2.f_Key.f_Dst.f_B 0, o8 b2.f_Key.f_Dst.f_B 1, o8 b2.f_Key.f_Dst.f_B 2, o8 b2.f_Key.f_Dst.f_B 3, o8 b2.f_Key.f_Dst.f_B 4, o8 b2.f_Key.f_Dst.f_B 5, o8 b2.f_Key.f_Dst.f_B 6, o8 b2.f_Key.f_Dst.f_B 7, o8 b2.f_Key.f_Dst.f_B 8, o8 b2.f_Key.f_Dst.f_B 9, o8 b2.f_Key.f_Dst.f_B 10, o8 b2.f_Key.f_Dst.f_B 11, o8 b2.f_Key.f_Dst.f_B 12, o8 b2.f_Key.f_Dst.f_B 13, o8 b2.f_Key.f_Dst.f_B 14, o8 b2.f_Key.f_Dst.f_B 15, v8 b2.f_Key.f_Proto, v16 b2.f_Key.f_SrcPort, v16 b2.f_Key.f_DstPort, v64 b2.f_Packets, v64 b2.f_Bytes, v64 b2.f_First, v64 b2.f_Last, v8 b2.f_Flags, v8 b2.f_Reason, v8 b2.f_Class]) hM rfl rfl) rfl fun v w18 hv => ?_
 clear hM
 obtain ⟨g17, rfl, hM, hf⟩ := hv
 refine va rfl rfl ?_
 refine nt hQ13 ?_
 clear hQ13 Q13
 refine KC.seqH fun Q20 hQ20 => ?_
 replace hM := hM.drewN 1
 refine KC.draw [] [] [2, 5, 6, 9, 10, 11] [12] (.ofList [0, 1, 3, 4, 7, 8, 2, 5, 6, 9, 10, 11, 12]) moP (by kernel_rfl) ?_
 refine RD.q rfl rfl rfl rfl (fun w' hf => O.load sc27 rfl (Cs.adds [] ((hM.bx (i := 0) rfl).fut hf) rfl)) ?_
 refine RD.q rfl rfl rfl rfl (fun w' hf => O.loadN (cs := [vB av1.f_Key.f_Src.f_Six, o8 av1.f_Key.f_Src.f_B 0, o8 av1.f_Key.f_Src.f_B 1, o8 av1.f_Key.f_Src.f_B 2, o8 av1.f_Key.f_Src.f_B 3, o8 av1.f_Key.f_Src.f_B 4, o8 av1.f_Key.f_Src.f_B 5, o8 av1.f_Key.f_Src.f_B 6, o8 av1.f_Key.f_Src.f_B 7, o8 av1.f_Key.f_Src.f_B 8, o8 av1.f_Key.f_Src.f_B 9, o8 av1.f_Key.f_Src.f_B 10, o8 av1.f_Key.f_Src.f_B 11, o8 av1.f_Key.f_Src.f_B 12, o8 av1.f_Key.f_Src.f_B 13, o8 av1.f_Key.f_Src.f_B 14, o8 av1.f_Key.f_Src.f_B 15, vB av1.f_Key.f_Dst.f_Six, o8 av1.f_Key.f_Dst.f_B 0, o8 av1.f_Key.f_Dst.f_B 1, o8 av1.f_Key.f_Dst.f_B 2, o8 av1.f_Key.f_Dst.f_B 3, o8 av1.f_Key.f_Dst.f_B 4, o8 av1.f_Key.f_Dst.f_B 5, o8 av1.f_Key.f_Dst.f_B 6, o8 av1.f_Key.f_Dst.f_B 7, o8 av1.f_Key.f_Dst.f_B 8, o8 av1.f_Key.f_Dst.f_B 9, o8 av1.f_Key.f_Dst.f_B 10, o8 av1.f_Key.f_Dst.f_B 11, o8 av1.f_Key.f_Dst.f_B 12, o8 av1.f_Key.f_Dst.f_B 13, o8 av1.f_Key.f_Dst.f_B 14, o8 av1.f_Key.f_Dst.f_B 15, v8 av1.f_Key.f_Proto, v16 av1.f_Key.f_SrcPort, v16 av1.f_Key.f_DstPort, v64 av1.f_Packets, v64 av1.f_Bytes, v64 av1.f_First, v64 av1.f_Last, v8 av1.f_Flags, v8 av1.f_Reason, v8 av1.f_Class]) ag46 rfl (Cs.addsN [] ((hM.bx (i := 2) rfl).fut hf) rfl)) ?_
 refine RD.q rfl rfl rfl rfl (fun w' hf => O.load sc27 rfl (Cs.adds [] ((hM.bx (i := 0) rfl).fut hf) rfl)) ?_
 refine RD.q rfl rfl rfl rfl (fun w' hf => O.loadN (cs := [vB b2.f_Key.f_Src.f_Six, o8 b2.f_Key.f_Src.f_B 0, o8 b2.f_Key.f_Src.f_B 1, o8 b2.f_Key.f_Src.f_B 2, o8 b2.f_Key.f_Src.f_B 3, o8 b2.f_Key.f_Src.f_B 4, o8 b2.f_Key.f_Src.f_B 5, o8 b2.f_Key.f_Src.f_B 6, o8 b2.f_Key.f_Src.f_B 7, o8 b2.f_Key.f_Src.f_B 8, o8 b2.f_Key.f_Src.f_B 9, o8 b2.f_Key.f_Src.f_B 10, o8 b2.f_Key.f_Src.f_B 11, o8 b2.f_Key.f_Src.f_B 12, o8 b2.f_Key.f_Src.f_B 13, o8 b2.f_Key.f_Src.f_B 14, o8 b2.f_Key.f_Src.f_B 15, vB b2.f_Key.f_Dst.f_Six, o8 b2.f_Key.f_Dst.f_B 0, o8 b2.f_Key.f_Dst.f_B 1, o8 b2.f_Key.f_Dst.f_B 2, o8 b2.f_Key.f_Dst.f_B 3, o8 b2.f_Key.f_Dst.f_B 4, o8 b2.f_Key.f_Dst.f_B 5, o8 b2.f_Key.f_Dst.f_B 6, o8 b2.f_Key.f_Dst.f_B 7, o8 b2.f_Key.f_Dst.f_B 8, o8 b2.f_Key.f_Dst.f_B 9, o8 b2.f_Key.f_Dst.f_B 10, o8 b2.f_Key.f_Dst.f_B 11, o8 b2.f_Key.f_Dst.f_B 12, o8 b2.f_Key.f_Dst.f_B 13, o8 b2.f_Key.f_Dst.f_B 14, o8 b2.f_Key.f_Dst.f_B 15, v8 b2.f_Key.f_Proto, v16 b2.f_Key.f_SrcPort, v16 b2.f_Key.f_DstPort, v64 b2.f_Packets, v64 b2.f_Bytes, v64 b2.f_First, v64 b2.f_Last, v8 b2.f_Flags, v8 b2.f_Reason, v8 b2.f_Class]) ag46 rfl (Cs.addsN [] ((hM.bx (i := 3) rfl).fut hf) rfl)) ?_
 refine RD.q rfl rfl rfl rfl (fun w' hf => O.loadN (cs := [vB av1.f_Key.f_Src.f_Six, o8 av1.f_Key.f_Src.f_B 0, o8 av1.f_Key.f_Src.f_B 1, o8 av1.f_Key.f_Src.f_B 2, o8 av1.f_Key.f_Src.f_B 3, o8 av1.f_Key.f_Src.f_B 4, o8 av1.f_Key.f_Src.f_B 5, o8 av1.f_Key.f_Src.f_B 6, o8 av1.f_Key.f_Src.f_B 7, o8 av1.f_Key.f_Src.f_B 8, o8 av1.f_Key.f_Src.f_B 9, o8 av1.f_Key.f_Src.f_B 10, o8 av1.f_Key.f_Src.f_B 11, o8 av1.f_Key.f_Src.f_B 12, o8 av1.f_Key.f_Src.f_B 13, o8 av1.f_Key.f_Src.f_B 14, o8 av1.f_Key.f_Src.f_B 15, vB av1.f_Key.f_Dst.f_Six, o8 av1.f_Key.f_Dst.f_B 0, o8 av1.f_Key.f_Dst.f_B 1, o8 av1.f_Key.f_Dst.f_B 2, o8 av1.f_Key.f_Dst.f_B 3, o8 av1.f_Key.f_Dst.f_B 4, o8 av1.f_Key.f_Dst.f_B 5, o8 av1.f_Key.f_Dst.f_B 6, o8 av1.f_Key.f_Dst.f_B 7, o8 av1.f_Key.f_Dst.f_B 8, o8 av1.f_Key.f_Dst.f_B 9, o8 av1.f_Key.f_Dst.f_B 10, o8 av1.f_Key.f_Dst.f_B 11, o8 av1.f_Key.f_Dst.f_B 12, o8 av1.f_Key.f_Dst.f_B 13, o8 av1.f_Key.f_Dst.f_B 14, o8 av1.f_Key.f_Dst.f_B 15, v8 av1.f_Key.f_Proto, v16 av1.f_Key.f_SrcPort, v16 av1.f_Key.f_DstPort, v64 av1.f_Packets, v64 av1.f_Bytes, v64 av1.f_First, v64 av1.f_Last, v8 av1.f_Flags, v8 av1.f_Reason, v8 av1.f_Class]) ag46 rfl (Cs.addsN [] ((hM.bx (i := 2) rfl).fut hf) rfl)) ?_
 refine RD.q rfl rfl rfl rfl (fun w' hf => O.loadN (cs := [vB b2.f_Key.f_Src.f_Six, o8 b2.f_Key.f_Src.f_B 0, o8 b2.f_Key.f_Src.f_B 1, o8 b2.f_Key.f_Src.f_B 2, o8 b2.f_Key.f_Src.f_B 3, o8 b2.f_Key.f_Src.f_B 4, o8 b2.f_Key.f_Src.f_B 5, o8 b2.f_Key.f_Src.f_B 6, o8 b2.f_Key.f_Src.f_B 7, o8 b2.f_Key.f_Src.f_B 8, o8 b2.f_Key.f_Src.f_B 9, o8 b2.f_Key.f_Src.f_B 10, o8 b2.f_Key.f_Src.f_B 11, o8 b2.f_Key.f_Src.f_B 12, o8 b2.f_Key.f_Src.f_B 13, o8 b2.f_Key.f_Src.f_B 14, o8 b2.f_Key.f_Src.f_B 15, vB b2.f_Key.f_Dst.f_Six, o8 b2.f_Key.f_Dst.f_B 0, o8 b2.f_Key.f_Dst.f_B 1, o8 b2.f_Key.f_Dst.f_B 2, o8 b2.f_Key.f_Dst.f_B 3, o8 b2.f_Key.f_Dst.f_B 4, o8 b2.f_Key.f_Dst.f_B 5, o8 b2.f_Key.f_Dst.f_B 6, o8 b2.f_Key.f_Dst.f_B 7, o8 b2.f_Key.f_Dst.f_B 8, o8 b2.f_Key.f_Dst.f_B 9, o8 b2.f_Key.f_Dst.f_B 10, o8 b2.f_Key.f_Dst.f_B 11, o8 b2.f_Key.f_Dst.f_B 12, o8 b2.f_Key.f_Dst.f_B 13, o8 b2.f_Key.f_Dst.f_B 14, o8 b2.f_Key.f_Dst.f_B 15, v8 b2.f_Key.f_Proto, v16 b2.f_Key.f_SrcPort, v16 b2.f_Key.f_DstPort, v64 b2.f_Packets, v64 b2.f_Bytes, v64 b2.f_First, v64 b2.f_Last, v8 b2.f_Flags, v8 b2.f_Reason, v8 b2.f_Class]) ag46 rfl (Cs.addsN [] ((hM.bx (i := 3) rfl).fut hf) rfl)) ?_
 refine obindE hF fun y21 hx22 hF => ?_
 refine RD.mcall rfl rfl trivial Try.func31 bd31 rfl rfl (c_cache_Cache_due _ _ _ cv3 _ _ (hM.lent [1] rfl (by decide)) av1 _ hx22) fun v w23 hv => ?_
 obtain ⟨rfl, hN24⟩ := hv
 refine ⟨fun _ => hN24.fut, ?_⟩
 replace hM := hM.call0 hN24
 refine obindE hF fun y25 hx26 hF => ?_
 refine RD.mcall rfl rfl trivial Try.func31 bd31 rfl rfl (c_cache_Cache_due _ _ _ cv3 _ _ (hM.lent [1] rfl (by decide)) b2 _ hx26) fun v w27 hv => ?_
 obtain ⟨rfl, hN28⟩ := hv
 refine ⟨fun _ => hN28.fut, ?_⟩
 replace hM := hM.call0 hN28
 refine obindE hF fun y29 hx30 hF => ?_
 refine RD.mcall rfl rfl trivial Try.func35 bd35 rfl rfl (c_cmp_Compare_uint64 _ y21 y25 _ hx30) fun v w31 hv => ?_
 obtain ⟨rfl, hN32⟩ := hv
 refine ⟨fun _ => hN32.fut, ?_⟩
 replace hM := hM.call0 hN32
 refine obindE hF fun y33 hx34 hF => ?_
 refine RD.mcall rfl rfl trivial Try.func36 bd36 rfl rfl (c_cache_byKey _ av1 b2 _ hx34) fun v w35 hv => ?_
 obtain ⟨rfl, hN36⟩ := hv
 refine ⟨fun _ => hN36.fut, ?_⟩
 replace hM := hM.call0 hN36
 refine RD.meff rfl rfl (E.bsl (enc := (eI .i64)) (xs := ([y29, y33] : List Int)) hM sl110 ze3 rfl rfl rfl (fun _ => rfl) rfl (by kernel_rfl) rfl) rfl fun v w37 hv => ?_
 clear hM
 obtain ⟨A38, rfl, hM, hf⟩ := hv
 refine ⟨fun _ => hf, ?_⟩
 refine obindE hF fun y40 hx41 hF => ?_
 refine RD.mcall rfl rfl trivial Try.func34 bd34 rfl rfl (c_cmp_Or_int _ _ _ ([y29, y33] : List Int) (hM.rd (i := 4) rfl) _ hx41) fun v w42 hv => ?_
 obtain ⟨rfl, hN43⟩ := hv
 refine ⟨fun _ => hN43.fut, ?_⟩
 replace hM := hM.call0 hN43
 refine RD.p rfl rfl rfl rfl (fun w' => O.assign rfl) ?_
 refine RD.nil ?_
 refine KQ.thn hQ20 ?_
 clear hQ20 Q20
 refine KC.ret ?_
 have hE := Option.some.inj hF
 clear hF
 subst hE
 replace hM := hM.pick [0, 1] rfl (by decide)
 refine KQ.rets Try.results33 (RVs.cons (RV.tm rfl) RVs.nil) ?_
 exact ⟨_, rfl, rfl, hM⟩
theorem c_cache_Cache_Advance_1 (w : World) (g4 : Nat) (tg11 : TypeId) (cv3 : T_cache_Cache) (g6 : Nat) (tg8 : TypeId) (vo9 : Value) (vo10 : Value) (hL12 : Lent w [.box g4 tg11 [.pointer (some ⟨g6, 0, none⟩)], .box g6 tg8 [v64 cv3.f_tick, vI cv3.f_bounds.f_Flows, v64 cv3.f_bounds.f_Idle, v64 cv3.f_bounds.f_Active, v64 cv3.f_bounds.f_Packets, v64 cv3.f_bounds.f_Bytes, vo9, vo10]]) (av1 : T_flow_Record) (b2 : T_flow_Record) (r : Int) (hF : F_cache_Cache_Advance_1 av1 b2 cv3 = some r) :
  CallsR Try.prog 33 [.agg #[vB av1.f_Key.f_Src.f_Six, o8 av1.f_Key.f_Src.f_B 0, o8 av1.f_Key.f_Src.f_B 1, o8 av1.f_Key.f_Src.f_B 2, o8 av1.f_Key.f_Src.f_B 3, o8 av1.f_Key.f_Src.f_B 4, o8 av1.f_Key.f_Src.f_B 5, o8 av1.f_Key.f_Src.f_B 6, o8 av1.f_Key.f_Src.f_B 7, o8 av1.f_Key.f_Src.f_B 8, o8 av1.f_Key.f_Src.f_B 9, o8 av1.f_Key.f_Src.f_B 10, o8 av1.f_Key.f_Src.f_B 11, o8 av1.f_Key.f_Src.f_B 12, o8 av1.f_Key.f_Src.f_B 13, o8 av1.f_Key.f_Src.f_B 14, o8 av1.f_Key.f_Src.f_B 15, vB av1.f_Key.f_Dst.f_Six, o8 av1.f_Key.f_Dst.f_B 0, o8 av1.f_Key.f_Dst.f_B 1, o8 av1.f_Key.f_Dst.f_B 2, o8 av1.f_Key.f_Dst.f_B 3, o8 av1.f_Key.f_Dst.f_B 4, o8 av1.f_Key.f_Dst.f_B 5, o8 av1.f_Key.f_Dst.f_B 6, o8 av1.f_Key.f_Dst.f_B 7, o8 av1.f_Key.f_Dst.f_B 8, o8 av1.f_Key.f_Dst.f_B 9, o8 av1.f_Key.f_Dst.f_B 10, o8 av1.f_Key.f_Dst.f_B 11, o8 av1.f_Key.f_Dst.f_B 12, o8 av1.f_Key.f_Dst.f_B 13, o8 av1.f_Key.f_Dst.f_B 14, o8 av1.f_Key.f_Dst.f_B 15, v8 av1.f_Key.f_Proto, v16 av1.f_Key.f_SrcPort, v16 av1.f_Key.f_DstPort, v64 av1.f_Packets, v64 av1.f_Bytes, v64 av1.f_First, v64 av1.f_Last, v8 av1.f_Flags, v8 av1.f_Reason, v8 av1.f_Class], .agg #[vB b2.f_Key.f_Src.f_Six, o8 b2.f_Key.f_Src.f_B 0, o8 b2.f_Key.f_Src.f_B 1, o8 b2.f_Key.f_Src.f_B 2, o8 b2.f_Key.f_Src.f_B 3, o8 b2.f_Key.f_Src.f_B 4, o8 b2.f_Key.f_Src.f_B 5, o8 b2.f_Key.f_Src.f_B 6, o8 b2.f_Key.f_Src.f_B 7, o8 b2.f_Key.f_Src.f_B 8, o8 b2.f_Key.f_Src.f_B 9, o8 b2.f_Key.f_Src.f_B 10, o8 b2.f_Key.f_Src.f_B 11, o8 b2.f_Key.f_Src.f_B 12, o8 b2.f_Key.f_Src.f_B 13, o8 b2.f_Key.f_Src.f_B 14, o8 b2.f_Key.f_Src.f_B 15, vB b2.f_Key.f_Dst.f_Six, o8 b2.f_Key.f_Dst.f_B 0, o8 b2.f_Key.f_Dst.f_B 1, o8 b2.f_Key.f_Dst.f_B 2, o8 b2.f_Key.f_Dst.f_B 3, o8 b2.f_Key.f_Dst.f_B 4, o8 b2.f_Key.f_Dst.f_B 5, o8 b2.f_Key.f_Dst.f_B 6, o8 b2.f_Key.f_Dst.f_B 7, o8 b2.f_Key.f_Dst.f_B 8, o8 b2.f_Key.f_Dst.f_B 9, o8 b2.f_Key.f_Dst.f_B 10, o8 b2.f_Key.f_Dst.f_B 11, o8 b2.f_Key.f_Dst.f_B 12, o8 b2.f_Key.f_Dst.f_B 13, o8 b2.f_Key.f_Dst.f_B 14, o8 b2.f_Key.f_Dst.f_B 15, v8 b2.f_Key.f_Proto, v16 b2.f_Key.f_SrcPort, v16 b2.f_Key.f_DstPort, v64 b2.f_Packets, v64 b2.f_Bytes, v64 b2.f_First, v64 b2.f_Last, v8 b2.f_Flags, v8 b2.f_Reason, v8 b2.f_Class], .pointer (some ⟨g4, 0, none⟩)] w (fun v w' => v = vI r ∧ Mem w [] w' []) := Calls.mono (c_cache_Cache_Advance_1_B w g4 tg11 cv3 g6 tg8 vo9 vo10 hL12 av1 b2 r hF) fun e w1 ⟨v, he, hv, hm⟩ => ⟨v, he, hv, hm.still hL12 rfl rfl⟩
set_option maxRecDepth 100000 in
set_option maxHeartbeats 40000000 in
theorem c_slices_SortFunc_flow_Record_flow_Record_cache_Cache_Advance_1 (w : World) (A : Option Addr) (c : Nat) (xs : List T_flow_Record) (g4 : Nat) (tg11 : TypeId) (cv3 : T_cache_Cache) (g6 : Nat) (tg8 : TypeId) (vo9 : Value) (vo10 : Value) (hL : Lent w [.row A c 46 44 xs.length (xs.flatMap e_flow_Record), .box g4 tg11 [.pointer (some ⟨g6, 0, none⟩)], .box g6 tg8 [v64 cv3.f_tick, vI cv3.f_bounds.f_Flows, v64 cv3.f_bounds.f_Idle, v64 cv3.f_bounds.f_Active, v64 cv3.f_bounds.f_Packets, v64 cv3.f_bounds.f_Bytes, vo9, vo10]]) (r : List T_flow_Record) (hF : F_slices_SortFunc_flow_Record_flow_Record_cache_Cache_Advance_1 xs cv3 = some r) :
  CallsR Try.prog 32 [.slice A xs.length c, .func (.func 33) #[] #[.pointer (some ⟨g4, 0, none⟩)]] w (fun v w' => v = .tuple #[] ∧ (xs.length = r.length) ∧ Mem w [rblk A c] w' [.row A c 46 44 r.length (r.flatMap e_flow_Record)]) := by
 unfold F_slices_SortFunc_flow_Record_flow_Record_cache_Cache_Advance_1 at hF
 refine cut_someE hF fun hn hF => ?_
 have hE := Option.some.inj hF
 subst hE
 exact c_srtC (e := 46) (Ls := [.box g4 tg11 [.pointer (some ⟨g6, 0, none⟩)], .box g6 tg8 [v64 cv3.f_tick, vI cv3.f_bounds.f_Flows, v64 cv3.f_bounds.f_Idle, v64 cv3.f_bounds.f_Active, v64 cv3.f_bounds.f_Packets, v64 cv3.f_bounds.f_Bytes, vo9, vo10]]) lsort32 ag46 (fun _ => rfl) (fun _ => One.all rfl) rfl (swo_cache_Cache_Advance_1 cv3) Try.func33 bd33 (cb := [.pointer (some ⟨g4, 0, none⟩)]) hL rfl (of_decide_eq_true hn) (fun w1 hB x y => c_cache_Cache_Advance_1 w1 g4 tg11 cv3 g6 tg8 vo9 vo10 hB x y _ (tot_cache_Cache_Advance_1 cv3 x y))
set_option maxRecDepth 100000 in
set_option maxHeartbeats 40000000 in
theorem c_cache_Cache_Advance_2_B (w : World) (g3 : Nat) (tg10 : TypeId) (cv2 : T_cache_Cache) (g5 : Nat) (tg7 : TypeId) (vo8 : Value) (vo9 : Value) (hL11 : Lent w [.box g3 tg10 [.pointer (some ⟨g5, 0, none⟩)], .box g5 tg7 [v64 cv2.f_tick, vI cv2.f_bounds.f_Flows, v64 cv2.f_bounds.f_Idle, v64 cv2.f_bounds.f_Active, v64 cv2.f_bounds.f_Packets, v64 cv2.f_bounds.f_Bytes, vo8, vo9]]) (rv1 : T_flow_Record) (r : Int) (hF : F_cache_Cache_Advance_2 rv1 cv2 = some r) :
  CallsR Try.prog 38 [.agg #[vB rv1.f_Key.f_Src.f_Six, o8 rv1.f_Key.f_Src.f_B 0, o8 rv1.f_Key.f_Src.f_B 1, o8 rv1.f_Key.f_Src.f_B 2, o8 rv1.f_Key.f_Src.f_B 3, o8 rv1.f_Key.f_Src.f_B 4, o8 rv1.f_Key.f_Src.f_B 5, o8 rv1.f_Key.f_Src.f_B 6, o8 rv1.f_Key.f_Src.f_B 7, o8 rv1.f_Key.f_Src.f_B 8, o8 rv1.f_Key.f_Src.f_B 9, o8 rv1.f_Key.f_Src.f_B 10, o8 rv1.f_Key.f_Src.f_B 11, o8 rv1.f_Key.f_Src.f_B 12, o8 rv1.f_Key.f_Src.f_B 13, o8 rv1.f_Key.f_Src.f_B 14, o8 rv1.f_Key.f_Src.f_B 15, vB rv1.f_Key.f_Dst.f_Six, o8 rv1.f_Key.f_Dst.f_B 0, o8 rv1.f_Key.f_Dst.f_B 1, o8 rv1.f_Key.f_Dst.f_B 2, o8 rv1.f_Key.f_Dst.f_B 3, o8 rv1.f_Key.f_Dst.f_B 4, o8 rv1.f_Key.f_Dst.f_B 5, o8 rv1.f_Key.f_Dst.f_B 6, o8 rv1.f_Key.f_Dst.f_B 7, o8 rv1.f_Key.f_Dst.f_B 8, o8 rv1.f_Key.f_Dst.f_B 9, o8 rv1.f_Key.f_Dst.f_B 10, o8 rv1.f_Key.f_Dst.f_B 11, o8 rv1.f_Key.f_Dst.f_B 12, o8 rv1.f_Key.f_Dst.f_B 13, o8 rv1.f_Key.f_Dst.f_B 14, o8 rv1.f_Key.f_Dst.f_B 15, v8 rv1.f_Key.f_Proto, v16 rv1.f_Key.f_SrcPort, v16 rv1.f_Key.f_DstPort, v64 rv1.f_Packets, v64 rv1.f_Bytes, v64 rv1.f_First, v64 rv1.f_Last, v8 rv1.f_Flags, v8 rv1.f_Reason, v8 rv1.f_Class], .pointer (some ⟨g3, 0, none⟩)] w (fun v w' => v = v8 r ∧ Mem w [some g3, some g5] w' [.box g3 tg10 [.pointer (some ⟨g5, 0, none⟩)], .box g5 tg7 [v64 cv2.f_tick, vI cv2.f_bounds.f_Flows, v64 cv2.f_bounds.f_Idle, v64 cv2.f_bounds.f_Active, v64 cv2.f_bounds.f_Packets, v64 cv2.f_bounds.f_Bytes, vo8, vo9]]) := by
 refine calls_KC Try.func38 rfl Try.ntmps38 rfl ?_
 have hM : Mem w [some g3, some g5] w [.box g3 tg10 [.pointer (some ⟨g5, 0, none⟩)], .box g5 tg7 [v64 cv2.f_tick, vI cv2.f_bounds.f_Flows, v64 cv2.f_bounds.f_Idle, v64 cv2.f_bounds.f_Active, v64 cv2.f_bounds.f_Packets, v64 cv2.f_bounds.f_Bytes, vo8, vo9]] := Mem.lendN hL11
 unfold F_cache_Cache_Advance_2 at hF
 refine sr fun Q12 hQ12 => ?_
 refine RL.eff (E.box (vs := [vB rv1.f_Key.f_Src.f_Six, o8 rv1.f_Key.f_Src.f_B 0, o8 rv1.f_Key.f_Src.f_B 1, o8 rv1.f_Key.f_Src.f_B 2, o8 rv1.f_Key.f_Src.f_B 3, o8 rv1.f_Key.f_Src.f_B 4, o8 rv1.f_Key.f_Src.f_B 5, o8 rv1.f_Key.f_Src.f_B 6, o8 rv1.f_Key.f_Src.f_B 7, o8 rv1.f_Key.f_Src.f_B 8, o8 rv1.f_Key.f_Src.f_B 9, o8 rv1.f_Key.f_Src.f_B 10, o8 rv1.f_Key.f_Src.f_B 11, o8 rv1.f_Key.f_Src.f_B 12, o8 rv1.f_Key.f_Src.f_B 13, o8 rv1.f_Key.f_Src.f_B 14, o8 rv1.f_Key.f_Src.f_B 15, vB rv1.f_Key.f_Dst.f_Six, o8 rv1.f_Key.f_Dst.f_B 0, o8 rv1.f_Key.f_Dst.f_B 1, o8 rv1.f_Key.f_Dst.f_B 2, o8 rv1.f_Key.f_Dst.f_B 3, o8 rv1.f_Key.f_Dst.f_B 4, o8 rv1.f_Key.f_Dst.f_B 5, o8 rv1.f_Key.f_Dst.f_B 6, o8 rv1.f_Key.f_Dst.f_B 7, o8 rv1.f_Key.f_Dst.f_B 8, o8 rv1.f_Key.f_Dst.f_B 9, o8 rv1.f_Key.f_Dst.f_B 10, o8 rv1.f_Key.f_Dst.f_B 11, o8 rv1.f_Key.f_Dst.f_B 12, o8 rv1.f_Key.f_Dst.f_B 13, o8 rv1.f_Key.f_Dst.f_B 14, o8 rv1.f_Key.f_Dst.f_B 15, v8 rv1.f_Key.f_Proto, v16 rv1.f_Key.f_SrcPort, v16 rv1.f_Key.f_DstPort, v64 rv1.f_Packets, v64 rv1.f_Bytes, v64 rv1.f_First, v64 rv1.f_Last, v8 rv1.f_Flags, v8 rv1.f_Reason, v8 rv1.f_Class]) hM rfl rfl) rfl fun v w14 hv => ?_
 clear hM
 obtain ⟨g13, rfl, hM, hf⟩ := hv
 refine va rfl rfl ?_
 refine nt hQ12 ?_
 clear hQ12 Q12
 refine KC.seqH fun Q16 hQ16 => ?_
 refine KC.seqH fun Q17 hQ17 => ?_
 replace hM := hM.drewN 1
 refine KC.draw [] [] [2, 5] [6] (.ofList [0, 1, 3, 4, 2, 5, 6]) moP (by kernel_rfl) ?_
 refine RD.q rfl rfl rfl rfl (fun w' hf => O.load sc27 rfl (Cs.adds [] ((hM.bx (i := 0) rfl).fut hf) rfl)) ?_
 refine RD.q rfl rfl rfl rfl (fun w' hf => O.loadN (cs := [vB rv1.f_Key.f_Src.f_Six, o8 rv1.f_Key.f_Src.f_B 0, o8 rv1.f_Key.f_Src.f_B 1, o8 rv1.f_Key.f_Src.f_B 2, o8 rv1.f_Key.f_Src.f_B 3, o8 rv1.f_Key.f_Src.f_B 4, o8 rv1.f_Key.f_Src.f_B 5, o8 rv1.f_Key.f_Src.f_B 6, o8 rv1.f_Key.f_Src.f_B 7, o8 rv1.f_Key.f_Src.f_B 8, o8 rv1.f_Key.f_Src.f_B 9, o8 rv1.f_Key.f_Src.f_B 10, o8 rv1.f_Key.f_Src.f_B 11, o8 rv1.f_Key.f_Src.f_B 12, o8 rv1.f_Key.f_Src.f_B 13, o8 rv1.f_Key.f_Src.f_B 14, o8 rv1.f_Key.f_Src.f_B 15, vB rv1.f_Key.f_Dst.f_Six, o8 rv1.f_Key.f_Dst.f_B 0, o8 rv1.f_Key.f_Dst.f_B 1, o8 rv1.f_Key.f_Dst.f_B 2, o8 rv1.f_Key.f_Dst.f_B 3, o8 rv1.f_Key.f_Dst.f_B 4, o8 rv1.f_Key.f_Dst.f_B 5, o8 rv1.f_Key.f_Dst.f_B 6, o8 rv1.f_Key.f_Dst.f_B 7, o8 rv1.f_Key.f_Dst.f_B 8, o8 rv1.f_Key.f_Dst.f_B 9, o8 rv1.f_Key.f_Dst.f_B 10, o8 rv1.f_Key.f_Dst.f_B 11, o8 rv1.f_Key.f_Dst.f_B 12, o8 rv1.f_Key.f_Dst.f_B 13, o8 rv1.f_Key.f_Dst.f_B 14, o8 rv1.f_Key.f_Dst.f_B 15, v8 rv1.f_Key.f_Proto, v16 rv1.f_Key.f_SrcPort, v16 rv1.f_Key.f_DstPort, v64 rv1.f_Packets, v64 rv1.f_Bytes, v64 rv1.f_First, v64 rv1.f_Last, v8 rv1.f_Flags, v8 rv1.f_Reason, v8 rv1.f_Class]) ag46 rfl (Cs.addsN [] ((hM.bx (i := 2) rfl).fut hf) rfl)) ?_
 refine RD.q rfl rfl rfl rfl (fun w' hf => O.load sc27 rfl (Cs.adds [] ((hM.bx (i := 0) rfl).fut hf) rfl)) ?_
 refine RD.q rfl rfl rfl rfl (fun w' hf => O.loadN (cs := [vB rv1.f_Key.f_Src.f_Six, o8 rv1.f_Key.f_Src.f_B 0, o8 rv1.f_Key.f_Src.f_B 1, o8 rv1.f_Key.f_Src.f_B 2, o8 rv1.f_Key.f_Src.f_B 3, o8 rv1.f_Key.f_Src.f_B 4, o8 rv1.f_Key.f_Src.f_B 5, o8 rv1.f_Key.f_Src.f_B 6, o8 rv1.f_Key.f_Src.f_B 7, o8 rv1.f_Key.f_Src.f_B 8, o8 rv1.f_Key.f_Src.f_B 9, o8 rv1.f_Key.f_Src.f_B 10, o8 rv1.f_Key.f_Src.f_B 11, o8 rv1.f_Key.f_Src.f_B 12, o8 rv1.f_Key.f_Src.f_B 13, o8 rv1.f_Key.f_Src.f_B 14, o8 rv1.f_Key.f_Src.f_B 15, vB rv1.f_Key.f_Dst.f_Six, o8 rv1.f_Key.f_Dst.f_B 0, o8 rv1.f_Key.f_Dst.f_B 1, o8 rv1.f_Key.f_Dst.f_B 2, o8 rv1.f_Key.f_Dst.f_B 3, o8 rv1.f_Key.f_Dst.f_B 4, o8 rv1.f_Key.f_Dst.f_B 5, o8 rv1.f_Key.f_Dst.f_B 6, o8 rv1.f_Key.f_Dst.f_B 7, o8 rv1.f_Key.f_Dst.f_B 8, o8 rv1.f_Key.f_Dst.f_B 9, o8 rv1.f_Key.f_Dst.f_B 10, o8 rv1.f_Key.f_Dst.f_B 11, o8 rv1.f_Key.f_Dst.f_B 12, o8 rv1.f_Key.f_Dst.f_B 13, o8 rv1.f_Key.f_Dst.f_B 14, o8 rv1.f_Key.f_Dst.f_B 15, v8 rv1.f_Key.f_Proto, v16 rv1.f_Key.f_SrcPort, v16 rv1.f_Key.f_DstPort, v64 rv1.f_Packets, v64 rv1.f_Bytes, v64 rv1.f_First, v64 rv1.f_Last, v8 rv1.f_Flags, v8 rv1.f_Reason, v8 rv1.f_Class]) ag46 rfl (Cs.addsN [] ((hM.bx (i := 2) rfl).fut hf) rfl)) ?_
 refine obindE hF fun y18 hx19 hF => ?_
 refine RD.mcall rfl rfl trivial Try.func39 bd39 rfl rfl (c_cache_Cache_idle _ _ _ cv2 _ _ (hM.lent [1] rfl (by decide)) rv1 _ hx19) fun v w20 hv => ?_
 obtain ⟨rfl, hN21⟩ := hv
 refine ⟨fun _ => hN21.fut, ?_⟩
 replace hM := hM.call0 hN21
 refine obindE hF fun y22 hx23 hF => ?_
 refine RD.mcall rfl rfl trivial Try.func31 bd31 rfl rfl (c_cache_Cache_due _ _ _ cv2 _ _ (hM.lent [1] rfl (by decide)) rv1 _ hx23) fun v w24 hv => ?_
 obtain ⟨rfl, hN25⟩ := hv
 refine ⟨fun _ => hN25.fut, ?_⟩
 replace hM := hM.call0 hN25
 refine RD.p rfl rfl rfl rfl (fun w' => O.eql rfl rfl) ?_
 refine RD.nil ?_
 refine KQ.thn hQ17 ?_
 clear hQ17 Q17
 refine KC.cond rfl (fun hc => ?_) (fun hc => ?_)
 ·rw [if_pos hc] at hF
  refine sr fun Q26 hQ26 => ?_
  refine va rfl rfl ?_
  refine nt hQ26 ?_
  clear hQ26 Q26
  refine KC.ret ?_
  refine KQ.thr hQ16 ?_
  clear hQ16 Q16
  have hE := Option.some.inj hF
  clear hF
  subst hE
  replace hM := hM.pick [0, 1] rfl (by decide)
  refine KQ.rets Try.results38 (RVs.cons (RV.tm rfl) RVs.nil) ?_
  exact ⟨_, rfl, rfl, hM⟩
 rw [if_neg (ne_true hc)] at hF
 refine KC.skip ?_
 refine KQ.thn hQ16 ?_
 clear hQ16 Q16
 refine sr fun Q27 hQ27 => ?_
 refine va rfl rfl ?_
 refine nt hQ27 ?_
 clear hQ27 Q27
 refine KC.ret ?_
 have hE := Option.some.inj hF
 clear hF
 subst hE
 replace hM := hM.pick [0, 1] rfl (by decide)
 refine KQ.rets Try.results38 (RVs.cons (RV.tm rfl) RVs.nil) ?_
 exact ⟨_, rfl, rfl, hM⟩
theorem c_cache_Cache_Advance_2 (w : World) (g3 : Nat) (tg10 : TypeId) (cv2 : T_cache_Cache) (g5 : Nat) (tg7 : TypeId) (vo8 : Value) (vo9 : Value) (hL11 : Lent w [.box g3 tg10 [.pointer (some ⟨g5, 0, none⟩)], .box g5 tg7 [v64 cv2.f_tick, vI cv2.f_bounds.f_Flows, v64 cv2.f_bounds.f_Idle, v64 cv2.f_bounds.f_Active, v64 cv2.f_bounds.f_Packets, v64 cv2.f_bounds.f_Bytes, vo8, vo9]]) (rv1 : T_flow_Record) (r : Int) (hF : F_cache_Cache_Advance_2 rv1 cv2 = some r) :
  CallsR Try.prog 38 [.agg #[vB rv1.f_Key.f_Src.f_Six, o8 rv1.f_Key.f_Src.f_B 0, o8 rv1.f_Key.f_Src.f_B 1, o8 rv1.f_Key.f_Src.f_B 2, o8 rv1.f_Key.f_Src.f_B 3, o8 rv1.f_Key.f_Src.f_B 4, o8 rv1.f_Key.f_Src.f_B 5, o8 rv1.f_Key.f_Src.f_B 6, o8 rv1.f_Key.f_Src.f_B 7, o8 rv1.f_Key.f_Src.f_B 8, o8 rv1.f_Key.f_Src.f_B 9, o8 rv1.f_Key.f_Src.f_B 10, o8 rv1.f_Key.f_Src.f_B 11, o8 rv1.f_Key.f_Src.f_B 12, o8 rv1.f_Key.f_Src.f_B 13, o8 rv1.f_Key.f_Src.f_B 14, o8 rv1.f_Key.f_Src.f_B 15, vB rv1.f_Key.f_Dst.f_Six, o8 rv1.f_Key.f_Dst.f_B 0, o8 rv1.f_Key.f_Dst.f_B 1, o8 rv1.f_Key.f_Dst.f_B 2, o8 rv1.f_Key.f_Dst.f_B 3, o8 rv1.f_Key.f_Dst.f_B 4, o8 rv1.f_Key.f_Dst.f_B 5, o8 rv1.f_Key.f_Dst.f_B 6, o8 rv1.f_Key.f_Dst.f_B 7, o8 rv1.f_Key.f_Dst.f_B 8, o8 rv1.f_Key.f_Dst.f_B 9, o8 rv1.f_Key.f_Dst.f_B 10, o8 rv1.f_Key.f_Dst.f_B 11, o8 rv1.f_Key.f_Dst.f_B 12, o8 rv1.f_Key.f_Dst.f_B 13, o8 rv1.f_Key.f_Dst.f_B 14, o8 rv1.f_Key.f_Dst.f_B 15, v8 rv1.f_Key.f_Proto, v16 rv1.f_Key.f_SrcPort, v16 rv1.f_Key.f_DstPort, v64 rv1.f_Packets, v64 rv1.f_Bytes, v64 rv1.f_First, v64 rv1.f_Last, v8 rv1.f_Flags, v8 rv1.f_Reason, v8 rv1.f_Class], .pointer (some ⟨g3, 0, none⟩)] w (fun v w' => v = v8 r ∧ Mem w [] w' []) := Calls.mono (c_cache_Cache_Advance_2_B w g3 tg10 cv2 g5 tg7 vo8 vo9 hL11 rv1 r hF) fun e w1 ⟨v, he, hv, hm⟩ => ⟨v, he, hv, hm.still hL11 rfl rfl⟩
set_option maxRecDepth 100000 in
set_option maxHeartbeats 40000000 in
theorem c_table_Table_Size (w : World) (g2 : Nat) (tg7 : TypeId) (t1 : T_table_Table) (A4 : Option Addr) (c5 : Nat) (hL8 : Lent w [.box g2 tg7 [.slice A4 (t1.f_slots).length c5, vI t1.f_many], .row A4 c5 102 39 (t1.f_slots).length ((t1.f_slots).flatMap e_table_Slot)]) (r : Int × T_table_Table) (hF : F_table_Table_Size t1 = some r) :
  CallsR Try.prog 90 [.pointer (some ⟨g2, 0, none⟩)] w (fun v w' => ∃ (A0 : Option Addr) (c0 : Nat), v = vI r.1 ∧ Mem w [some g2, rblk A4 c5] w' [.box g2 tg7 [.slice A0 (r.2.f_slots).length c0, vI r.2.f_many], .row A0 c0 102 39 r.2.f_slots.length (r.2.f_slots.flatMap e_table_Slot)]) := by
 refine calls_KC Try.func90 rfl Try.ntmps90 rfl ?_
 have hM : Mem w [some g2, rblk A4 c5] w [.box g2 tg7 [.slice A4 (t1.f_slots).length c5, vI t1.f_many], .row A4 c5 102 39 (t1.f_slots).length ((t1.f_slots).flatMap e_table_Slot)] := Mem.lendN hL8
 unfold F_table_Table_Size at hF
 refine sr fun Q9 hQ9 => ?_
 refine va rfl rfl ?_
 refine nt hQ9 ?_
 clear hQ9 Q9
 refine KC.seqH fun Q10 hQ10 => ?_
 refine sr fun Q11 hQ11 => ?_
 refine vm rfl rfl ?_
 refine RL.val (O.peqn Try.underlying68 rfl rfl) rfl ?_
 refine nt hQ11 ?_
 clear hQ11 Q11
 refine KC.condF rfl ?_
 refine KC.skip ?_
 refine KQ.thn hQ10 ?_
 clear hQ10 Q10
 refine sr fun Q12 hQ12 => ?_
 refine vm rfl rfl ?_
 refine RL.val (O.nilp rfl) rfl ?_
 refine RL.val (O.fldA fl96_0 (by decide) rfl) rfl ?_
 refine RL.val (O.load sc94 rfl (Cs.adds [0] ((hM.bx (i := 0) rfl)) rfl)) rfl ?_
 refine RL.val (O.len sl94 rfl) rfl ?_
 refine va rfl rfl ?_
 refine nt hQ12 ?_
 clear hQ12 Q12
 refine KC.ret ?_
 have hE := Option.some.inj hF
 clear hF
 subst hE
 refine KQ.rets Try.results90 (RVs.cons (RV.tm rfl) RVs.nil) ?_
 exact ⟨_, rfl, A4, c5, rfl, hM⟩
set_option maxRecDepth 100000 in
set_option maxHeartbeats 40000000 in
theorem c_table_Hash (w : World) (kv1 : T_packet_Key) (r : Int) (hF : F_table_Hash kv1 = some r) :
  CallsR Try.prog 91 [.agg #[vB kv1.f_Src.f_Six, o8 kv1.f_Src.f_B 0, o8 kv1.f_Src.f_B 1, o8 kv1.f_Src.f_B 2, o8 kv1.f_Src.f_B 3, o8 kv1.f_Src.f_B 4, o8 kv1.f_Src.f_B 5, o8 kv1.f_Src.f_B 6, o8 kv1.f_Src.f_B 7, o8 kv1.f_Src.f_B 8, o8 kv1.f_Src.f_B 9, o8 kv1.f_Src.f_B 10, o8 kv1.f_Src.f_B 11, o8 kv1.f_Src.f_B 12, o8 kv1.f_Src.f_B 13, o8 kv1.f_Src.f_B 14, o8 kv1.f_Src.f_B 15, vB kv1.f_Dst.f_Six, o8 kv1.f_Dst.f_B 0, o8 kv1.f_Dst.f_B 1, o8 kv1.f_Dst.f_B 2, o8 kv1.f_Dst.f_B 3, o8 kv1.f_Dst.f_B 4, o8 kv1.f_Dst.f_B 5, o8 kv1.f_Dst.f_B 6, o8 kv1.f_Dst.f_B 7, o8 kv1.f_Dst.f_B 8, o8 kv1.f_Dst.f_B 9, o8 kv1.f_Dst.f_B 10, o8 kv1.f_Dst.f_B 11, o8 kv1.f_Dst.f_B 12, o8 kv1.f_Dst.f_B 13, o8 kv1.f_Dst.f_B 14, o8 kv1.f_Dst.f_B 15, v8 kv1.f_Proto, v16 kv1.f_SrcPort, v16 kv1.f_DstPort]] w (fun v w' => v = v64 r ∧ Mem w [] w' []) := by
 refine calls_KC Try.func91 rfl Try.ntmps91 rfl ?_
 have hM := Mem.init w
 unfold F_table_Hash at hF
 refine sr fun Q2 hQ2 => ?_
 refine RL.eff (E.box (vs := [vB kv1.f_Src.f_Six, o8 kv1.f_Src.f_B 0, o8 kv1.f_Src.f_B 1, o8 kv1.f_Src.f_B 2, o8 kv1.f_Src.f_B 3, o8 kv1.f_Src.f_B 4, o8 kv1.f_Src.f_B 5, o8 kv1.f_Src.f_B 6, o8 kv1.f_Src.f_B 7, o8 kv1.f_Src.f_B 8, o8 kv1.f_Src.f_B 9, o8 kv1.f_Src.f_B 10, o8 kv1.f_Src.f_B 11, o8 kv1.f_Src.f_B 12, o8 kv1.f_Src.f_B 13, o8 kv1.f_Src.f_B 14, o8 kv1.f_Src.f_B 15, vB kv1.f_Dst.f_Six, o8 kv1.f_Dst.f_B 0, o8 kv1.f_Dst.f_B 1, o8 kv1.f_Dst.f_B 2, o8 kv1.f_Dst.f_B 3, o8 kv1.f_Dst.f_B 4, o8 kv1.f_Dst.f_B 5, o8 kv1.f_Dst.f_B 6, o8 kv1.f_Dst.f_B 7, o8 kv1.f_Dst.f_B 8, o8 kv1.f_Dst.f_B 9, o8 kv1.f_Dst.f_B 10, o8 kv1.f_Dst.f_B 11, o8 kv1.f_Dst.f_B 12, o8 kv1.f_Dst.f_B 13, o8 kv1.f_Dst.f_B 14, o8 kv1.f_Dst.f_B 15, v8 kv1.f_Proto, v16 kv1.f_SrcPort, v16 kv1.f_DstPort]) hM rfl rfl) rfl fun v w4 hv => ?_
 clear hM
 obtain ⟨g3, rfl, hM, hf⟩ := hv
 refine va rfl rfl ?_
 refine nt hQ2 ?_
 clear hQ2 Q2
 refine sr fun Q6 hQ6 => ?_
 refine va rfl rfl ?_
 refine nt hQ6 ?_
 clear hQ6 Q6
 refine KC.seqH fun Q7 hQ7 => ?_
 refine sr fun Q8 hQ8 => ?_
 refine RL.val (O.loadN (cs := [vB kv1.f_Src.f_Six, o8 kv1.f_Src.f_B 0, o8 kv1.f_Src.f_B 1, o8 kv1.f_Src.f_B 2, o8 kv1.f_Src.f_B 3, o8 kv1.f_Src.f_B 4, o8 kv1.f_Src.f_B 5, o8 kv1.f_Src.f_B 6, o8 kv1.f_Src.f_B 7, o8 kv1.f_Src.f_B 8, o8 kv1.f_Src.f_B 9, o8 kv1.f_Src.f_B 10, o8 kv1.f_Src.f_B 11, o8 kv1.f_Src.f_B 12, o8 kv1.f_Src.f_B 13, o8 kv1.f_Src.f_B 14, o8 kv1.f_Src.f_B 15, vB kv1.f_Dst.f_Six, o8 kv1.f_Dst.f_B 0, o8 kv1.f_Dst.f_B 1, o8 kv1.f_Dst.f_B 2, o8 kv1.f_Dst.f_B 3, o8 kv1.f_Dst.f_B 4, o8 kv1.f_Dst.f_B 5, o8 kv1.f_Dst.f_B 6, o8 kv1.f_Dst.f_B 7, o8 kv1.f_Dst.f_B 8, o8 kv1.f_Dst.f_B 9, o8 kv1.f_Dst.f_B 10, o8 kv1.f_Dst.f_B 11, o8 kv1.f_Dst.f_B 12, o8 kv1.f_Dst.f_B 13, o8 kv1.f_Dst.f_B 14, o8 kv1.f_Dst.f_B 15, v8 kv1.f_Proto, v16 kv1.f_SrcPort, v16 kv1.f_DstPort]) ag36 rfl (Cs.addsN [] ((hM.bx (i := 0) rfl)) rfl)) rfl ?_
 refine obindE hF fun y9 hx10 hF => ?_
 refine RL.call Try.func76 bd76 rfl rfl (c_packet_Key_Bytes _ kv1 _ hx10) fun v w11 hv => ?_
 obtain ⟨A13, c14, rfl, hN12⟩ := hv
 replace hM := hM.call hN12
 refine RL.val (O.len sl113 rfl) rfl ?_
 refine vm rfl rfl ?_
 refine nt hQ8 ?_
 clear hQ8 Q8
 refine KC.block ?_
 refine KC.loop (fun k38 a w36 => ∃ (h33 : Int) (t35 : Int), Kn 20 [(3, v64 h33), (7, .slice A13 (y9).length c14), (8, vI (y9.length : Int)), (9, vI t35)] a ∧ Mem w [] w36 [.row A13 c14 5 1 (y9).length ((y9).flatMap (eI .u8))] ∧ F_table_Hash_L1 y9 k38 h33 t35 = some r) ?_ ?_
 ·replace hM := hM.pick [1] rfl (by decide)
  exact fun a ha => ⟨fuel0, 14695981039346656037, 0, ha.less (less_cons rfl (less_cons rfl (less_cons rfl (less_cons rfl less_nil)))), hM, hF⟩
 rintro k38 a w36 ⟨h33, t35, ha, hM, hF⟩
 refine KC.app ha ?_
 clear ha
 cases k38 with
 | zero => exact (none_some hF).elim
 | succ k38 =>
 have hF : F_table_Hash_l1 (F_table_Hash_L1 y9 k38) y9 h33 t35 = some r := hF
 unfold F_table_Hash_l1 at hF
 refine sr fun Q39 hQ39 => ?_
 refine RL.val (O.lss rfl rfl) rfl ?_
 refine nt hQ39 ?_
 clear hQ39 Q39
 refine KC.seqH fun Q40 hQ40 => ?_
 refine KC.cond rfl (fun hc => ?_) (fun hc => ?_)
 ·rw [if_pos hc] at hF
  refine KC.skip ?_
  refine KQ.thn hQ40 ?_
  clear hQ40 Q40
  refine KC.seqH fun Q41 hQ41 => ?_
  refine KC.block ?_
  refine sr fun Q42 hQ42 => ?_
  refine obindE hF fun xv45 hx44 hF => ?_
  have hA43 := Rd.atN (f := (eI .u8)) (s := 1) (fun _ => rfl) (by decide) (hM.rd (i := 0) rfl) hx44
  refine RL.val (O.idxA sl113 (hA43) rfl rfl) rfl ?_
  refine RL.val (O.load sc5 rfl (hA43).cells.at0) rfl ?_
  refine va rfl rfl ?_
  refine nt hQ42 ?_
  clear hQ42 Q42
  refine KC.region ?_
  refine vm rfl rfl ?_
  refine vm rfl rfl ?_
  refine RL.val (O.conv un5 Try.underlying22 rfl) rfl ?_
  refine RL.val (O.xor rfl rfl) rfl ?_
  refine RL.val (O.mul rfl rfl) rfl ?_
  refine va rfl rfl ?_
  refine RL.nil ?_
  refine KQ.blk_n ?_
  refine KQ.thn hQ41 ?_
  clear hQ41 Q41
  refine KC.region ?_
  refine RL.val (O.add rfl rfl) rfl ?_
  refine vm rfl rfl ?_
  refine RL.nil ?_
  refine KQ.then_k ?_
  exact fun a ha => ⟨k38, Nat.lt_succ_self k38, (IntKind.u64.wrap ((bits .xor .u64 h33 (IntKind.u64.wrap xv45)) * 1099511628211)), (IntKind.i64.wrap (t35 + 1)), ha.less (less_cons rfl (less_cons rfl (less_cons rfl (less_cons rfl less_nil)))), hM, hF⟩
 rw [if_neg (ne_true hc)] at hF
 refine KC.exit ?_
 refine KQ.thx hQ40 ?_
 clear hQ40 Q40
 refine KQ.then_x ?_
 refine KQ.blk_x ?_
 refine KQ.thn hQ7 ?_
 clear hQ7 Q7
 refine sr fun Q46 hQ46 => ?_
 refine vm rfl rfl ?_
 refine va rfl rfl ?_
 refine nt hQ46 ?_
 clear hQ46 Q46
 refine KC.ret ?_
 have hE := Option.some.inj hF
 clear hF
 subst hE
 replace hM := hM.pick [] rfl (by decide)
 refine KQ.rets Try.results91 (RVs.cons (RV.tm rfl) RVs.nil) ?_
 exact ⟨_, rfl, rfl, hM⟩
end Go.Proofs.Ytkpnocgfhipidaa
