/- Printed by a program of this claim: each call returns what the plain function of its name gives. -/
import Derived.Test.YtnbakndfnjflhaaW1
import Derived.Test.YtnbakndfnjflhaaW15
set_option linter.unusedVariables false
namespace Go.Proofs.Ytnbakndfnjflhaa
open Go Go.Ox Go.RowKit
set_option maxRecDepth 100000 in
set_option maxHeartbeats 40000000 in
theorem c_ref08_Bytes (w : World) (kv1 : T_ref08_Key) (r : (List Int)) (hF : F_ref08_Bytes kv1 = some r) :
  CallsR Try.prog 40 [.agg #[Value.bool kv1.f_Src.f_Six, o8 kv1.f_Src.f_B 0, o8 kv1.f_Src.f_B 1, o8 kv1.f_Src.f_B 2, o8 kv1.f_Src.f_B 3, o8 kv1.f_Src.f_B 4, o8 kv1.f_Src.f_B 5, o8 kv1.f_Src.f_B 6, o8 kv1.f_Src.f_B 7, o8 kv1.f_Src.f_B 8, o8 kv1.f_Src.f_B 9, o8 kv1.f_Src.f_B 10, o8 kv1.f_Src.f_B 11, o8 kv1.f_Src.f_B 12, o8 kv1.f_Src.f_B 13, o8 kv1.f_Src.f_B 14, o8 kv1.f_Src.f_B 15, Value.bool kv1.f_Dst.f_Six, o8 kv1.f_Dst.f_B 0, o8 kv1.f_Dst.f_B 1, o8 kv1.f_Dst.f_B 2, o8 kv1.f_Dst.f_B 3, o8 kv1.f_Dst.f_B 4, o8 kv1.f_Dst.f_B 5, o8 kv1.f_Dst.f_B 6, o8 kv1.f_Dst.f_B 7, o8 kv1.f_Dst.f_B 8, o8 kv1.f_Dst.f_B 9, o8 kv1.f_Dst.f_B 10, o8 kv1.f_Dst.f_B 11, o8 kv1.f_Dst.f_B 12, o8 kv1.f_Dst.f_B 13, o8 kv1.f_Dst.f_B 14, o8 kv1.f_Dst.f_B 15, Value.int .u8 kv1.f_Proto, Value.int .u16 kv1.f_SrcPort, Value.int .u16 kv1.f_DstPort]] w (fun v w' => ∃ (A0 : Option Addr) (c0 : Nat), v = .slice A0 (r).length c0 ∧ Mem w [] w' [.row A0 c0 5 1 r.length (r.flatMap (eI .u8))]) := by
 refine calls_KC Try.func40 rfl Try.ntmps40 rfl ?_
 have hM := Mem.init w
 unfold F_ref08_Bytes at hF
 refine KC.seqH fun Q2 hQ2 => ?_
 refine KC.region ?_
 refine RL.eff (E.box (vs := [Value.bool kv1.f_Src.f_Six, o8 kv1.f_Src.f_B 0, o8 kv1.f_Src.f_B 1, o8 kv1.f_Src.f_B 2, o8 kv1.f_Src.f_B 3, o8 kv1.f_Src.f_B 4, o8 kv1.f_Src.f_B 5, o8 kv1.f_Src.f_B 6, o8 kv1.f_Src.f_B 7, o8 kv1.f_Src.f_B 8, o8 kv1.f_Src.f_B 9, o8 kv1.f_Src.f_B 10, o8 kv1.f_Src.f_B 11, o8 kv1.f_Src.f_B 12, o8 kv1.f_Src.f_B 13, o8 kv1.f_Src.f_B 14, o8 kv1.f_Src.f_B 15, Value.bool kv1.f_Dst.f_Six, o8 kv1.f_Dst.f_B 0, o8 kv1.f_Dst.f_B 1, o8 kv1.f_Dst.f_B 2, o8 kv1.f_Dst.f_B 3, o8 kv1.f_Dst.f_B 4, o8 kv1.f_Dst.f_B 5, o8 kv1.f_Dst.f_B 6, o8 kv1.f_Dst.f_B 7, o8 kv1.f_Dst.f_B 8, o8 kv1.f_Dst.f_B 9, o8 kv1.f_Dst.f_B 10, o8 kv1.f_Dst.f_B 11, o8 kv1.f_Dst.f_B 12, o8 kv1.f_Dst.f_B 13, o8 kv1.f_Dst.f_B 14, o8 kv1.f_Dst.f_B 15, Value.int .u8 kv1.f_Proto, Value.int .u16 kv1.f_SrcPort, Value.int .u16 kv1.f_DstPort]) hM rfl rfl) rfl fun v w4 hv => ?_
 clear hM
 obtain ⟨g3, rfl, hM, hf⟩ := hv
 refine RL.val (O.assign rfl) rfl ?_
 refine RL.nil ?_
 refine KQ.thn hQ2 ?_
 clear hQ2 Q2
 refine KC.seqH fun Q6 hQ6 => ?_
 refine KC.seqH fun Q7 hQ7 => ?_
 refine KC.region ?_
 refine RL.val (O.loadN (cs := [Value.bool kv1.f_Src.f_Six, o8 kv1.f_Src.f_B 0, o8 kv1.f_Src.f_B 1, o8 kv1.f_Src.f_B 2, o8 kv1.f_Src.f_B 3, o8 kv1.f_Src.f_B 4, o8 kv1.f_Src.f_B 5, o8 kv1.f_Src.f_B 6, o8 kv1.f_Src.f_B 7, o8 kv1.f_Src.f_B 8, o8 kv1.f_Src.f_B 9, o8 kv1.f_Src.f_B 10, o8 kv1.f_Src.f_B 11, o8 kv1.f_Src.f_B 12, o8 kv1.f_Src.f_B 13, o8 kv1.f_Src.f_B 14, o8 kv1.f_Src.f_B 15, Value.bool kv1.f_Dst.f_Six, o8 kv1.f_Dst.f_B 0, o8 kv1.f_Dst.f_B 1, o8 kv1.f_Dst.f_B 2, o8 kv1.f_Dst.f_B 3, o8 kv1.f_Dst.f_B 4, o8 kv1.f_Dst.f_B 5, o8 kv1.f_Dst.f_B 6, o8 kv1.f_Dst.f_B 7, o8 kv1.f_Dst.f_B 8, o8 kv1.f_Dst.f_B 9, o8 kv1.f_Dst.f_B 10, o8 kv1.f_Dst.f_B 11, o8 kv1.f_Dst.f_B 12, o8 kv1.f_Dst.f_B 13, o8 kv1.f_Dst.f_B 14, o8 kv1.f_Dst.f_B 15, Value.int .u8 kv1.f_Proto, Value.int .u16 kv1.f_SrcPort, Value.int .u16 kv1.f_DstPort]) ag54 rfl (Cs.addsN [] ((hM.bx (i := 0) rfl)) rfl)) rfl ?_
 refine obindE hF fun y8 hx9 hF => ?_
 refine RL.call Try.func38 bd38 rfl rfl (c_ref08_Right _ kv1 _ hx9) fun v w10 hv => ?_
 obtain ⟨rfl, hN11⟩ := hv
 replace hM := hM.call0 hN11
 refine RL.val (O.not rfl) rfl ?_
 refine RL.nil ?_
 refine KQ.thn hQ7 ?_
 clear hQ7 Q7
 refine KC.cond rfl (fun hc => ?_) (fun hc => ?_)
 ·rw [if_pos hc] at hF
  refine KC.seqH fun Q12 hQ12 => ?_
  refine KC.region ?_
  refine RL.val (O.assign rfl) rfl ?_
  refine RL.nil ?_
  refine KQ.thn hQ12 ?_
  clear hQ12 Q12
  refine KC.ret ?_
  refine KQ.thr hQ6 ?_
  clear hQ6 Q6
  have hE := Option.some.inj hF
  clear hF
  subst hE
  replace hM := hM.nilrow 5 1
  replace hM := hM.pick [1] rfl (by decide)
  refine KQ.rets Try.results40 (RVs.cons (RV.tm rfl) RVs.nil) ?_
  exact ⟨_, rfl, none, 0, rfl, hM⟩
 ·rw [if_neg (ne_true hc)] at hF
  refine KC.skip ?_
  refine KQ.thn hQ6 ?_
  clear hQ6 Q6
  refine KC.seqH fun Q13 hQ13 => ?_
  refine KC.region ?_
  refine RL.eff (E.bsl (enc := (eI .u8)) (xs := ([4] : List Int)) hM sl81 ze5 rfl rfl rfl (fun _ => rfl) rfl (by kernel_rfl) rfl) rfl fun v w14 hv => ?_
  clear hM
  obtain ⟨A15, rfl, hM, hf⟩ := hv
  refine RL.val (O.assign rfl) rfl ?_
  refine RL.nil ?_
  refine KQ.thn hQ13 ?_
  clear hQ13 Q13
  refine KC.cut (fun a w28 => ∃ (A25 : Option Addr) (c26 : Nat) (out27 : List Int), Kn 40 [(1, .pointer (some ⟨g3, 0, none⟩)), (3, .slice A25 (out27).length c26)] a ∧ Mem w [] w28 [.box g3 54 [Value.bool kv1.f_Src.f_Six, o8 kv1.f_Src.f_B 0, o8 kv1.f_Src.f_B 1, o8 kv1.f_Src.f_B 2, o8 kv1.f_Src.f_B 3, o8 kv1.f_Src.f_B 4, o8 kv1.f_Src.f_B 5, o8 kv1.f_Src.f_B 6, o8 kv1.f_Src.f_B 7, o8 kv1.f_Src.f_B 8, o8 kv1.f_Src.f_B 9, o8 kv1.f_Src.f_B 10, o8 kv1.f_Src.f_B 11, o8 kv1.f_Src.f_B 12, o8 kv1.f_Src.f_B 13, o8 kv1.f_Src.f_B 14, o8 kv1.f_Src.f_B 15, Value.bool kv1.f_Dst.f_Six, o8 kv1.f_Dst.f_B 0, o8 kv1.f_Dst.f_B 1, o8 kv1.f_Dst.f_B 2, o8 kv1.f_Dst.f_B 3, o8 kv1.f_Dst.f_B 4, o8 kv1.f_Dst.f_B 5, o8 kv1.f_Dst.f_B 6, o8 kv1.f_Dst.f_B 7, o8 kv1.f_Dst.f_B 8, o8 kv1.f_Dst.f_B 9, o8 kv1.f_Dst.f_B 10, o8 kv1.f_Dst.f_B 11, o8 kv1.f_Dst.f_B 12, o8 kv1.f_Dst.f_B 13, o8 kv1.f_Dst.f_B 14, o8 kv1.f_Dst.f_B 15, Value.int .u8 kv1.f_Proto, Value.int .u16 kv1.f_SrcPort, Value.int .u16 kv1.f_DstPort], .row A25 c26 5 1 (out27).length ((out27).flatMap (eI .u8))] ∧ F_ref08_Bytes_j1 kv1 out27 = some r) ?_ ?_
  ·refine KC.seqH fun Q17 hQ17 => ?_
   refine KC.region ?_
   refine RL.val (O.fldA fl54_0 (by decide) rfl) rfl ?_
   refine RL.val (O.fldA fl52_0 (by decide) rfl) rfl ?_
   refine RL.val (O.load sc4 rfl (Cs.adds [0, 0] ((hM.bx (i := 0) rfl)) rfl)) rfl ?_
   refine RL.nil ?_
   refine KQ.thn hQ17 ?_
   clear hQ17 Q17
   refine KC.cond rfl (fun hc => ?_) (fun hc => ?_)
   ·rw [if_pos hc] at hF
    refine KC.region ?_
    refine RL.val (O.move rfl) rfl ?_
    refine obindE hF fun xv20 hx19 hF => ?_
    have hA18 := Rd.atN (f := (eI .u8)) (s := 1) (fun _ => rfl) (by decide) (hM.rd (i := 1) rfl) hx19
    refine RL.val (O.idxA sl81 (hA18) rfl rfl) rfl ?_
    refine RL.effs (E.stR (enc := (eI .u8)) (j := 1) (off := 0) (vs := [Value.int .u8 6]) (x' := 6) hM rfl (fun _ => rfl) hx19 sz5 rfl (addsR_eq [] rfl) rfl rfl (One.all rfl) rfl rfl) fun w21 hM1 => ?_
    clear hM
    obtain ⟨hM, hn22⟩ := hM1
    refine RL.reslot (t := 3) rfl hn22 ?_
    refine RL.reslot (t := 11) rfl hn22 ?_
    refine RL.nil ?_
    refine KQ.then_k ?_
    exact fun a ha => ⟨A15, 1, (([4] : List Int).set (0 : Int).toNat 6), ha.less (less_cons rfl (less_cons rfl less_nil)), hM, hF⟩
   ·rw [if_neg (ne_true hc)] at hF
    refine KC.skip ?_
    refine KQ.then_k ?_
    exact fun a ha => ⟨A15, 1, ([4] : List Int), ha.less (less_cons rfl (less_cons rfl less_nil)), hM, hF⟩
  ·rintro a w28 ⟨A25, c26, out27, ha, hM, hF⟩
   refine KC.app ha ?_
   clear ha
   unfold F_ref08_Bytes_j1 at hF
   refine KC.seqH fun Q29 hQ29 => ?_
   refine KC.region ?_
   refine RL.val (O.move rfl) rfl ?_
   refine RL.val (O.fldA fl54_0 (by decide) rfl) rfl ?_
   refine RL.val (O.loadN (cs := [Value.bool kv1.f_Src.f_Six, o8 kv1.f_Src.f_B 0, o8 kv1.f_Src.f_B 1, o8 kv1.f_Src.f_B 2, o8 kv1.f_Src.f_B 3, o8 kv1.f_Src.f_B 4, o8 kv1.f_Src.f_B 5, o8 kv1.f_Src.f_B 6, o8 kv1.f_Src.f_B 7, o8 kv1.f_Src.f_B 8, o8 kv1.f_Src.f_B 9, o8 kv1.f_Src.f_B 10, o8 kv1.f_Src.f_B 11, o8 kv1.f_Src.f_B 12, o8 kv1.f_Src.f_B 13, o8 kv1.f_Src.f_B 14, o8 kv1.f_Src.f_B 15]) ag52 rfl (Cs.addsN [0] ((hM.bx (i := 0) rfl)) rfl)) rfl ?_
   refine obindE hF fun y30 hx31 hF => ?_
   refine RL.call Try.func55 bd55 rfl rfl (c_ref04_Bytes _ kv1.f_Src _ hx31) fun v w32 hv => ?_
   obtain ⟨A34, c35, rfl, hN33⟩ := hv
   replace hM := hM.call hN33
   refine cut_someE hF fun hq40 hF => ?_
   refine RL.eff (E.app (enc := (eI .u8)) (xs := out27) (ys := y30) (j := 1) hM rfl sl81 ze5 rfl rfl rfl rfl rfl (hM.rd (i := 2) rfl) (fun _ => One.all rfl) (of_decide_eq_true hq40)) rfl fun v w39 hv => ?_
   clear hM
   obtain ⟨A37, c38, rfl, hM, hf⟩ := hv
   refine RL.val (O.assign rfl) rfl ?_
   refine RL.nil ?_
   refine KQ.thn hQ29 ?_
   clear hQ29 Q29
   refine KC.seqH fun Q42 hQ42 => ?_
   refine KC.region ?_
   refine RL.val (O.move rfl) rfl ?_
   refine RL.val (O.fldA fl54_1 (by decide) rfl) rfl ?_
   refine RL.val (O.loadN (cs := [Value.bool kv1.f_Dst.f_Six, o8 kv1.f_Dst.f_B 0, o8 kv1.f_Dst.f_B 1, o8 kv1.f_Dst.f_B 2, o8 kv1.f_Dst.f_B 3, o8 kv1.f_Dst.f_B 4, o8 kv1.f_Dst.f_B 5, o8 kv1.f_Dst.f_B 6, o8 kv1.f_Dst.f_B 7, o8 kv1.f_Dst.f_B 8, o8 kv1.f_Dst.f_B 9, o8 kv1.f_Dst.f_B 10, o8 kv1.f_Dst.f_B 11, o8 kv1.f_Dst.f_B 12, o8 kv1.f_Dst.f_B 13, o8 kv1.f_Dst.f_B 14, o8 kv1.f_Dst.f_B 15]) ag52 rfl (Cs.addsN [17] ((hM.bx (i := 0) rfl)) rfl)) rfl ?_
   refine obindE hF fun y43 hx44 hF => ?_
   refine RL.call Try.func55 bd55 rfl rfl (c_ref04_Bytes _ kv1.f_Dst _ hx44) fun v w45 hv => ?_
   obtain ⟨A47, c48, rfl, hN46⟩ := hv
   replace hM := hM.call hN46
   refine cut_someE hF fun hq53 hF => ?_
   refine RL.eff (E.app (enc := (eI .u8)) (xs := (out27 ++ y30)) (ys := y43) (j := 1) hM rfl sl81 ze5 rfl rfl rfl rfl rfl (hM.rd (i := 3) rfl) (fun _ => One.all rfl) (of_decide_eq_true hq53)) rfl fun v w52 hv => ?_
   clear hM
   obtain ⟨A50, c51, rfl, hM, hf⟩ := hv
   refine RL.val (O.assign rfl) rfl ?_
   refine RL.nil ?_
   refine KQ.thn hQ42 ?_
   clear hQ42 Q42
   replace hM := hM.pick [0, 1] rfl (by decide)
   refine KC.seqH fun Q55 hQ55 => ?_
   refine KC.region ?_
   refine RL.val (O.move rfl) rfl ?_
   refine RL.val (O.fldA fl54_2 (by decide) rfl) rfl ?_
   refine RL.val (O.load sc5 rfl (Cs.adds [34] ((hM.bx (i := 0) rfl)) rfl)) rfl ?_
   refine RL.eff (E.bsl (enc := (eI .u8)) (xs := ([kv1.f_Proto] : List Int)) hM sl81 ze5 rfl rfl rfl (fun _ => rfl) rfl (by kernel_rfl) rfl) rfl fun v w56 hv => ?_
   clear hM
   obtain ⟨A57, rfl, hM, hf⟩ := hv
   refine cut_someE hF fun hq62 hF => ?_
   refine RL.eff (E.app (enc := (eI .u8)) (xs := ((out27 ++ y30) ++ y43)) (ys := ([kv1.f_Proto] : List Int)) (j := 1) hM rfl sl81 ze5 rfl rfl rfl rfl rfl (hM.rd (i := 2) rfl) (fun _ => One.all rfl) (of_decide_eq_true hq62)) rfl fun v w61 hv => ?_
   clear hM
   obtain ⟨A59, c60, rfl, hM, hf⟩ := hv
   refine RL.val (O.assign rfl) rfl ?_
   refine RL.nil ?_
   refine KQ.thn hQ55 ?_
   clear hQ55 Q55
   refine KC.seqH fun Q64 hQ64 => ?_
   refine KC.region ?_
   refine RL.val (O.move rfl) rfl ?_
   refine RL.val (O.fldA fl54_3 (by decide) rfl) rfl ?_
   refine RL.val (O.load sc33 rfl (Cs.adds [35] ((hM.bx (i := 0) rfl)) rfl)) rfl ?_
   refine RL.val (O.conv un33 Try.underlying36 rfl) rfl ?_
   refine obindE hF fun y65 hx66 hF => ?_
   refine RL.call Try.func56 bd56 rfl rfl (c_ref01_Put _ (IntKind.u64.wrap kv1.f_SrcPort) 2 _ hx66) fun v w67 hv => ?_
   obtain ⟨A69, c70, rfl, hN68⟩ := hv
   replace hM := hM.call hN68
   refine cut_someE hF fun hq75 hF => ?_
   refine RL.eff (E.app (enc := (eI .u8)) (xs := (((out27 ++ y30) ++ y43) ++ ([kv1.f_Proto] : List Int))) (ys := y65) (j := 1) hM rfl sl81 ze5 rfl rfl rfl rfl rfl (hM.rd (i := 3) rfl) (fun _ => One.all rfl) (of_decide_eq_true hq75)) rfl fun v w74 hv => ?_
   clear hM
   obtain ⟨A72, c73, rfl, hM, hf⟩ := hv
   refine RL.val (O.assign rfl) rfl ?_
   refine RL.nil ?_
   refine KQ.thn hQ64 ?_
   clear hQ64 Q64
   replace hM := hM.pick [0, 1] rfl (by decide)
   refine KC.seqH fun Q77 hQ77 => ?_
   refine KC.region ?_
   refine RL.val (O.move rfl) rfl ?_
   refine RL.val (O.fldA fl54_4 (by decide) rfl) rfl ?_
   refine RL.val (O.load sc33 rfl (Cs.adds [36] ((hM.bx (i := 0) rfl)) rfl)) rfl ?_
   refine RL.val (O.conv un33 Try.underlying36 rfl) rfl ?_
   refine obindE hF fun y78 hx79 hF => ?_
   refine RL.call Try.func56 bd56 rfl rfl (c_ref01_Put _ (IntKind.u64.wrap kv1.f_DstPort) 2 _ hx79) fun v w80 hv => ?_
   obtain ⟨A82, c83, rfl, hN81⟩ := hv
   replace hM := hM.call hN81
   refine cut_someE hF fun hq88 hF => ?_
   refine RL.eff (E.app (enc := (eI .u8)) (xs := ((((out27 ++ y30) ++ y43) ++ ([kv1.f_Proto] : List Int)) ++ y65)) (ys := y78) (j := 1) hM rfl sl81 ze5 rfl rfl rfl rfl rfl (hM.rd (i := 2) rfl) (fun _ => One.all rfl) (of_decide_eq_true hq88)) rfl fun v w87 hv => ?_
   clear hM
   obtain ⟨A85, c86, rfl, hM, hf⟩ := hv
   refine RL.val (O.assign rfl) rfl ?_
   refine RL.nil ?_
   refine KQ.thn hQ77 ?_
   clear hQ77 Q77
   refine KC.ret ?_
   have hE := Option.some.inj hF
   clear hF
   subst hE
   replace hM := hM.pick [1] rfl (by decide)
   refine KQ.rets Try.results40 (RVs.cons (RV.tm rfl) RVs.nil) ?_
   exact ⟨_, rfl, A85, c86, rfl, hM⟩
set_option maxRecDepth 100000 in
set_option maxHeartbeats 40000000 in
theorem c_ref23_Hash (w : World) (kv1 : T_ref08_Key) (r : Int) (hF : F_ref23_Hash kv1 = some r) :
  CallsR Try.prog 25 [.agg #[Value.bool kv1.f_Src.f_Six, o8 kv1.f_Src.f_B 0, o8 kv1.f_Src.f_B 1, o8 kv1.f_Src.f_B 2, o8 kv1.f_Src.f_B 3, o8 kv1.f_Src.f_B 4, o8 kv1.f_Src.f_B 5, o8 kv1.f_Src.f_B 6, o8 kv1.f_Src.f_B 7, o8 kv1.f_Src.f_B 8, o8 kv1.f_Src.f_B 9, o8 kv1.f_Src.f_B 10, o8 kv1.f_Src.f_B 11, o8 kv1.f_Src.f_B 12, o8 kv1.f_Src.f_B 13, o8 kv1.f_Src.f_B 14, o8 kv1.f_Src.f_B 15, Value.bool kv1.f_Dst.f_Six, o8 kv1.f_Dst.f_B 0, o8 kv1.f_Dst.f_B 1, o8 kv1.f_Dst.f_B 2, o8 kv1.f_Dst.f_B 3, o8 kv1.f_Dst.f_B 4, o8 kv1.f_Dst.f_B 5, o8 kv1.f_Dst.f_B 6, o8 kv1.f_Dst.f_B 7, o8 kv1.f_Dst.f_B 8, o8 kv1.f_Dst.f_B 9, o8 kv1.f_Dst.f_B 10, o8 kv1.f_Dst.f_B 11, o8 kv1.f_Dst.f_B 12, o8 kv1.f_Dst.f_B 13, o8 kv1.f_Dst.f_B 14, o8 kv1.f_Dst.f_B 15, Value.int .u8 kv1.f_Proto, Value.int .u16 kv1.f_SrcPort, Value.int .u16 kv1.f_DstPort]] w (fun v w' => v = Value.int .u64 r ∧ Mem w [] w' []) := by
 refine calls_KC Try.func25 rfl Try.ntmps25 rfl ?_
 have hM := Mem.init w
 unfold F_ref23_Hash at hF
 refine KC.seqH fun Q2 hQ2 => ?_
 refine KC.region ?_
 refine RL.eff (E.box (vs := [Value.bool kv1.f_Src.f_Six, o8 kv1.f_Src.f_B 0, o8 kv1.f_Src.f_B 1, o8 kv1.f_Src.f_B 2, o8 kv1.f_Src.f_B 3, o8 kv1.f_Src.f_B 4, o8 kv1.f_Src.f_B 5, o8 kv1.f_Src.f_B 6, o8 kv1.f_Src.f_B 7, o8 kv1.f_Src.f_B 8, o8 kv1.f_Src.f_B 9, o8 kv1.f_Src.f_B 10, o8 kv1.f_Src.f_B 11, o8 kv1.f_Src.f_B 12, o8 kv1.f_Src.f_B 13, o8 kv1.f_Src.f_B 14, o8 kv1.f_Src.f_B 15, Value.bool kv1.f_Dst.f_Six, o8 kv1.f_Dst.f_B 0, o8 kv1.f_Dst.f_B 1, o8 kv1.f_Dst.f_B 2, o8 kv1.f_Dst.f_B 3, o8 kv1.f_Dst.f_B 4, o8 kv1.f_Dst.f_B 5, o8 kv1.f_Dst.f_B 6, o8 kv1.f_Dst.f_B 7, o8 kv1.f_Dst.f_B 8, o8 kv1.f_Dst.f_B 9, o8 kv1.f_Dst.f_B 10, o8 kv1.f_Dst.f_B 11, o8 kv1.f_Dst.f_B 12, o8 kv1.f_Dst.f_B 13, o8 kv1.f_Dst.f_B 14, o8 kv1.f_Dst.f_B 15, Value.int .u8 kv1.f_Proto, Value.int .u16 kv1.f_SrcPort, Value.int .u16 kv1.f_DstPort]) hM rfl rfl) rfl fun v w4 hv => ?_
 clear hM
 obtain ⟨g3, rfl, hM, hf⟩ := hv
 refine RL.val (O.assign rfl) rfl ?_
 refine RL.nil ?_
 refine KQ.thn hQ2 ?_
 clear hQ2 Q2
 refine KC.seqH fun Q6 hQ6 => ?_
 refine KC.region ?_
 refine RL.val (O.assign rfl) rfl ?_
 refine RL.nil ?_
 refine KQ.thn hQ6 ?_
 clear hQ6 Q6
 refine KC.seqH fun Q7 hQ7 => ?_
 refine KC.region ?_
 refine RL.val (O.loadN (cs := [Value.bool kv1.f_Src.f_Six, o8 kv1.f_Src.f_B 0, o8 kv1.f_Src.f_B 1, o8 kv1.f_Src.f_B 2, o8 kv1.f_Src.f_B 3, o8 kv1.f_Src.f_B 4, o8 kv1.f_Src.f_B 5, o8 kv1.f_Src.f_B 6, o8 kv1.f_Src.f_B 7, o8 kv1.f_Src.f_B 8, o8 kv1.f_Src.f_B 9, o8 kv1.f_Src.f_B 10, o8 kv1.f_Src.f_B 11, o8 kv1.f_Src.f_B 12, o8 kv1.f_Src.f_B 13, o8 kv1.f_Src.f_B 14, o8 kv1.f_Src.f_B 15, Value.bool kv1.f_Dst.f_Six, o8 kv1.f_Dst.f_B 0, o8 kv1.f_Dst.f_B 1, o8 kv1.f_Dst.f_B 2, o8 kv1.f_Dst.f_B 3, o8 kv1.f_Dst.f_B 4, o8 kv1.f_Dst.f_B 5, o8 kv1.f_Dst.f_B 6, o8 kv1.f_Dst.f_B 7, o8 kv1.f_Dst.f_B 8, o8 kv1.f_Dst.f_B 9, o8 kv1.f_Dst.f_B 10, o8 kv1.f_Dst.f_B 11, o8 kv1.f_Dst.f_B 12, o8 kv1.f_Dst.f_B 13, o8 kv1.f_Dst.f_B 14, o8 kv1.f_Dst.f_B 15, Value.int .u8 kv1.f_Proto, Value.int .u16 kv1.f_SrcPort, Value.int .u16 kv1.f_DstPort]) ag54 rfl (Cs.addsN [] ((hM.bx (i := 0) rfl)) rfl)) rfl ?_
 refine obindE hF fun y8 hx9 hF => ?_
 refine RL.call Try.func40 bd40 rfl rfl (c_ref08_Bytes _ kv1 _ hx9) fun v w10 hv => ?_
 obtain ⟨A12, c13, rfl, hN11⟩ := hv
 replace hM := hM.call hN11
 refine RL.val (O.assign rfl) rfl ?_
 refine RL.nil ?_
 refine KQ.thn hQ7 ?_
 clear hQ7 Q7
 refine KC.seqH fun Q15 hQ15 => ?_
 refine KC.seqH fun Q16 hQ16 => ?_
 refine KC.region ?_
 refine RL.val (O.assign rfl) rfl ?_
 refine RL.nil ?_
 refine KQ.thn hQ16 ?_
 clear hQ16 Q16
 refine KC.block ?_
 refine KC.loop (fun k39 a w37 => ∃ (h34 : Int) (i36 : Int), Kn 24 [(3, Value.int .u64 h34), (4, .slice A12 (y8).length c13), (5, Value.int .i64 i36)] a ∧ Mem w [] w37 [.row A12 c13 5 1 (y8).length ((y8).flatMap (eI .u8))] ∧ F_ref23_Hash_L1 y8 k39 h34 i36 = some r) ?_ ?_
 ·replace hM := hM.pick [1] rfl (by decide)
  exact fun a ha => ⟨fuel0, 14695981039346656037, 0, ha.less (less_cons rfl (less_cons rfl (less_cons rfl less_nil))), hM, hF⟩
 ·rintro k39 a w37 ⟨h34, i36, ha, hM, hF⟩
  refine KC.app ha ?_
  clear ha
  cases k39 with
  | zero => exact (none_some hF).elim
  | succ k39 =>
  have hF : F_ref23_Hash_l1 (F_ref23_Hash_L1 y8 k39) y8 h34 i36 = some r := hF
  unfold F_ref23_Hash_l1 at hF
  refine KC.seqH fun Q40 hQ40 => ?_
  refine KC.seqH fun Q41 hQ41 => ?_
  refine KC.region ?_
  refine RL.val (O.move rfl) rfl ?_
  refine RL.val (O.move rfl) rfl ?_
  refine RL.val (O.len sl81 rfl) rfl ?_
  refine RL.val (O.lss rfl rfl) rfl ?_
  refine RL.nil ?_
  refine KQ.thn hQ41 ?_
  clear hQ41 Q41
  refine KC.cond rfl (fun hc => ?_) (fun hc => ?_)
  ·rw [if_pos hc] at hF
   refine KC.skip ?_
   refine KQ.thn hQ40 ?_
   clear hQ40 Q40
   refine KC.seqH fun Q42 hQ42 => ?_
   refine KC.block ?_
   refine KC.seqH fun Q43 hQ43 => ?_
   refine KC.region ?_
   refine RL.val (O.move rfl) rfl ?_
   refine RL.val (O.move rfl) rfl ?_
   refine RL.val (O.move rfl) rfl ?_
   refine obindE hF fun xv46 hx45 hF => ?_
   have hA44 := Rd.atN (f := (eI .u8)) (s := 1) (fun _ => rfl) (by decide) (hM.rd (i := 0) rfl) hx45
   refine RL.val (O.idxA sl81 (hA44) rfl rfl) rfl ?_
   refine RL.val (O.load sc5 rfl (hA44).cells.at0) rfl ?_
   refine RL.val (O.conv un5 Try.underlying36 rfl) rfl ?_
   refine RL.val (O.xor rfl rfl) rfl ?_
   refine RL.val (O.assign rfl) rfl ?_
   refine RL.nil ?_
   refine KQ.thn hQ43 ?_
   clear hQ43 Q43
   refine KC.region ?_
   refine RL.val (O.move rfl) rfl ?_
   refine RL.val (O.mul rfl rfl) rfl ?_
   refine RL.val (O.assign rfl) rfl ?_
   refine RL.nil ?_
   refine KQ.blk_n ?_
   refine KQ.thn hQ42 ?_
   clear hQ42 Q42
   refine KC.region ?_
   refine RL.val (O.move rfl) rfl ?_
   refine RL.val (O.add rfl rfl) rfl ?_
   refine RL.val (O.assign rfl) rfl ?_
   refine RL.nil ?_
   refine KQ.then_k ?_
   exact fun a ha => ⟨k39, Nat.lt_succ_self k39, (IntKind.u64.wrap ((bits .xor .u64 h34 (IntKind.u64.wrap xv46)) * 1099511628211)), (IntKind.i64.wrap (i36 + 1)), ha.less (less_cons rfl (less_cons rfl (less_cons rfl less_nil))), hM, hF⟩
  ·rw [if_neg (ne_true hc)] at hF
   refine KC.exit ?_
   refine KQ.thx hQ40 ?_
   clear hQ40 Q40
   refine KQ.then_x ?_
   refine KQ.blk_x ?_
   refine KQ.thn hQ15 ?_
   clear hQ15 Q15
   refine KC.seqH fun Q47 hQ47 => ?_
   refine KC.region ?_
   refine RL.val (O.move rfl) rfl ?_
   refine RL.val (O.assign rfl) rfl ?_
   refine RL.nil ?_
   refine KQ.thn hQ47 ?_
   clear hQ47 Q47
   refine KC.ret ?_
   have hE := Option.some.inj hF
   clear hF
   subst hE
   replace hM := hM.pick [] rfl (by decide)
   refine KQ.rets Try.results25 (RVs.cons (RV.tm rfl) RVs.nil) ?_
   exact ⟨_, rfl, rfl, hM⟩
end Go.Proofs.Ytnbakndfnjflhaa
