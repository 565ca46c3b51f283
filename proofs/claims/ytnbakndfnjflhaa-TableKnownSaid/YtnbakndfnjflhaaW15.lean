/- Printed by a program of this claim: each call returns what the plain function of its name gives. -/
import Derived.Test.YtnbakndfnjflhaaW1
import Derived.Test.YtnbakndfnjflhaaW14
set_option linter.unusedVariables false
namespace Go.Proofs.Ytnbakndfnjflhaa
open Go Go.Ox Go.RowKit
set_option maxRecDepth 100000 in
set_option maxHeartbeats 40000000 in
theorem c_ref08_Right (w : World) (kv1 : T_ref08_Key) (r : Bool) (hF : F_ref08_Right kv1 = some r) :
  CallsR Try.prog 38 [.agg #[Value.bool kv1.f_Src.f_Six, o8 kv1.f_Src.f_B 0, o8 kv1.f_Src.f_B 1, o8 kv1.f_Src.f_B 2, o8 kv1.f_Src.f_B 3, o8 kv1.f_Src.f_B 4, o8 kv1.f_Src.f_B 5, o8 kv1.f_Src.f_B 6, o8 kv1.f_Src.f_B 7, o8 kv1.f_Src.f_B 8, o8 kv1.f_Src.f_B 9, o8 kv1.f_Src.f_B 10, o8 kv1.f_Src.f_B 11, o8 kv1.f_Src.f_B 12, o8 kv1.f_Src.f_B 13, o8 kv1.f_Src.f_B 14, o8 kv1.f_Src.f_B 15, Value.bool kv1.f_Dst.f_Six, o8 kv1.f_Dst.f_B 0, o8 kv1.f_Dst.f_B 1, o8 kv1.f_Dst.f_B 2, o8 kv1.f_Dst.f_B 3, o8 kv1.f_Dst.f_B 4, o8 kv1.f_Dst.f_B 5, o8 kv1.f_Dst.f_B 6, o8 kv1.f_Dst.f_B 7, o8 kv1.f_Dst.f_B 8, o8 kv1.f_Dst.f_B 9, o8 kv1.f_Dst.f_B 10, o8 kv1.f_Dst.f_B 11, o8 kv1.f_Dst.f_B 12, o8 kv1.f_Dst.f_B 13, o8 kv1.f_Dst.f_B 14, o8 kv1.f_Dst.f_B 15, Value.int .u8 kv1.f_Proto, Value.int .u16 kv1.f_SrcPort, Value.int .u16 kv1.f_DstPort]] w (fun v w' => v = Value.bool r ∧ Mem w [] w' []) := by
 refine calls_KC Try.func38 rfl Try.ntmps38 rfl ?_
 have hM := Mem.init w
 unfold F_ref08_Right at hF
 refine KC.seqH fun Q2 hQ2 => ?_
 refine KC.region ?_
 refine RL.eff (E.box (vs := [Value.bool kv1.f_Src.f_Six, o8 kv1.f_Src.f_B 0, o8 kv1.f_Src.f_B 1, o8 kv1.f_Src.f_B 2, o8 kv1.f_Src.f_B 3, o8 kv1.f_Src.f_B 4, o8 kv1.f_Src.f_B 5, o8 kv1.f_Src.f_B 6, o8 kv1.f_Src.f_B 7, o8 kv1.f_Src.f_B 8, o8 kv1.f_Src.f_B 9, o8 kv1.f_Src.f_B 10, o8 kv1.f_Src.f_B 11, o8 kv1.f_Src.f_B 12, o8 kv1.f_Src.f_B 13, o8 kv1.f_Src.f_B 14, o8 kv1.f_Src.f_B 15, Value.bool kv1.f_Dst.f_Six, o8 kv1.f_Dst.f_B 0, o8 kv1.f_Dst.f_B 1, o8 kv1.f_Dst.f_B 2, o8 kv1.f_Dst.f_B 3, o8 kv1.f_Dst.f_B 4, o8 kv1.f_Dst.f_B 5, o8 kv1.f_Dst.f_B 6, o8 kv1.f_Dst.f_B 7, o8 kv1.f_Dst.f_B 8, o8 kv1.f_Dst.f_B 9, o8 kv1.f_Dst.f_B 10, o8 kv1.f_Dst.f_B 11, o8 kv1.f_Dst.f_B 12, o8 kv1.f_Dst.f_B 13, o8 kv1.f_Dst.f_B 14, o8 kv1.f_Dst.f_B 15, Value.int .u8 kv1.f_Proto, Value.int .u16 kv1.f_SrcPort, Value.int .u16 kv1.f_DstPort]) hM rfl rfl) rfl fun v w4 hv => ?_
 clear hM
 obtain ⟨g3, rfl, hM, hf⟩ := hv
 refine RL.val (O.assign rfl) rfl ?_
 refine RL.nil ?_
 refine KQ.thn hQ2 ?_
 clear hQ2 Q2
 refine KC.seqH fun Q6 hQ6 => ?_
 refine KC.cut (fun a w17 => ∃ (t16 : Bool), Kn 40 [(1, .pointer (some ⟨g3, 0, none⟩)), (21, Value.bool t16)] a ∧ Mem w [] w17 [.box g3 54 [Value.bool kv1.f_Src.f_Six, o8 kv1.f_Src.f_B 0, o8 kv1.f_Src.f_B 1, o8 kv1.f_Src.f_B 2, o8 kv1.f_Src.f_B 3, o8 kv1.f_Src.f_B 4, o8 kv1.f_Src.f_B 5, o8 kv1.f_Src.f_B 6, o8 kv1.f_Src.f_B 7, o8 kv1.f_Src.f_B 8, o8 kv1.f_Src.f_B 9, o8 kv1.f_Src.f_B 10, o8 kv1.f_Src.f_B 11, o8 kv1.f_Src.f_B 12, o8 kv1.f_Src.f_B 13, o8 kv1.f_Src.f_B 14, o8 kv1.f_Src.f_B 15, Value.bool kv1.f_Dst.f_Six, o8 kv1.f_Dst.f_B 0, o8 kv1.f_Dst.f_B 1, o8 kv1.f_Dst.f_B 2, o8 kv1.f_Dst.f_B 3, o8 kv1.f_Dst.f_B 4, o8 kv1.f_Dst.f_B 5, o8 kv1.f_Dst.f_B 6, o8 kv1.f_Dst.f_B 7, o8 kv1.f_Dst.f_B 8, o8 kv1.f_Dst.f_B 9, o8 kv1.f_Dst.f_B 10, o8 kv1.f_Dst.f_B 11, o8 kv1.f_Dst.f_B 12, o8 kv1.f_Dst.f_B 13, o8 kv1.f_Dst.f_B 14, o8 kv1.f_Dst.f_B 15, Value.int .u8 kv1.f_Proto, Value.int .u16 kv1.f_SrcPort, Value.int .u16 kv1.f_DstPort]] ∧ F_ref08_Right_j1 kv1 t16 = some r) ?_ ?_
 ·refine KC.region ?_
  refine RL.val (O.fldA fl54_0 (by decide) rfl) rfl ?_
  refine RL.val (O.loadN (cs := [Value.bool kv1.f_Src.f_Six, o8 kv1.f_Src.f_B 0, o8 kv1.f_Src.f_B 1, o8 kv1.f_Src.f_B 2, o8 kv1.f_Src.f_B 3, o8 kv1.f_Src.f_B 4, o8 kv1.f_Src.f_B 5, o8 kv1.f_Src.f_B 6, o8 kv1.f_Src.f_B 7, o8 kv1.f_Src.f_B 8, o8 kv1.f_Src.f_B 9, o8 kv1.f_Src.f_B 10, o8 kv1.f_Src.f_B 11, o8 kv1.f_Src.f_B 12, o8 kv1.f_Src.f_B 13, o8 kv1.f_Src.f_B 14, o8 kv1.f_Src.f_B 15]) ag52 rfl (Cs.addsN [0] ((hM.bx (i := 0) rfl)) rfl)) rfl ?_
  refine obindE hF fun y7 hx8 hF => ?_
  refine RL.call Try.func48 bd48 rfl rfl (c_ref04_Right _ kv1.f_Src _ hx8) fun v w9 hv => ?_
  obtain ⟨rfl, hN10⟩ := hv
  replace hM := hM.call0 hN10
  refine RL.val (O.not rfl) rfl ?_
  refine RL.val (O.move rfl) rfl ?_
  refine RL.bcase (t := 7) rfl (fun hc => ?_) (fun hc => ?_)
  ·rw [if_pos hc] at hF
   refine RL.brun1 14 21 true (by kernel_rfl) ?_
   refine RL.nil ?_
   refine KQ.then_k ?_
   exact fun a ha => ⟨true, ha.less (less_cons rfl (less_cons rfl less_nil)), hM, hF⟩
  ·rw [if_neg (ne_true hc)] at hF
   refine RL.gval rfl rfl (O.fldA fl54_1 (by decide) rfl) rfl ?_
   refine RL.gval rfl rfl (O.loadN (cs := [Value.bool kv1.f_Dst.f_Six, o8 kv1.f_Dst.f_B 0, o8 kv1.f_Dst.f_B 1, o8 kv1.f_Dst.f_B 2, o8 kv1.f_Dst.f_B 3, o8 kv1.f_Dst.f_B 4, o8 kv1.f_Dst.f_B 5, o8 kv1.f_Dst.f_B 6, o8 kv1.f_Dst.f_B 7, o8 kv1.f_Dst.f_B 8, o8 kv1.f_Dst.f_B 9, o8 kv1.f_Dst.f_B 10, o8 kv1.f_Dst.f_B 11, o8 kv1.f_Dst.f_B 12, o8 kv1.f_Dst.f_B 13, o8 kv1.f_Dst.f_B 14, o8 kv1.f_Dst.f_B 15]) ag52 rfl (Cs.addsN [17] ((hM.bx (i := 0) rfl)) rfl)) rfl ?_
   refine obindE hF fun y11 hx12 hF => ?_
   refine RL.gcall rfl rfl Try.func48 bd48 rfl rfl (c_ref04_Right _ kv1.f_Dst _ hx12) fun v w13 hv => ?_
   obtain ⟨rfl, hN14⟩ := hv
   replace hM := hM.call0 hN14
   refine RL.gval rfl rfl (O.not rfl) rfl ?_
   refine RL.val (O.pickf rfl rfl) rfl ?_
   refine RL.val (O.move rfl) rfl ?_
   refine RL.bcase (t := 13) rfl (fun hc => ?_) (fun hc => ?_)
   ·rw [if_pos hc] at hF
    refine RL.brun1 8 21 true (by kernel_rfl) ?_
    refine RL.nil ?_
    refine KQ.then_k ?_
    exact fun a ha => ⟨true, ha.less (less_cons rfl (less_cons rfl less_nil)), hM, hF⟩
   ·rw [if_neg (ne_true hc)] at hF
    refine RL.gval rfl rfl (O.fldA fl54_0 (by decide) rfl) rfl ?_
    refine RL.gval rfl rfl (O.fldA fl52_0 (by decide) rfl) rfl ?_
    refine RL.gval rfl rfl (O.load sc4 rfl (Cs.adds [0, 0] ((hM.bx (i := 0) rfl)) rfl)) rfl ?_
    refine RL.gval rfl rfl (O.fldA fl54_1 (by decide) rfl) rfl ?_
    refine RL.gval rfl rfl (O.fldA fl52_0 (by decide) rfl) rfl ?_
    refine RL.gval rfl rfl (O.load sc4 rfl (Cs.adds [17, 0] ((hM.bx (i := 0) rfl)) rfl)) rfl ?_
    refine RL.gval rfl rfl (O.neqb Try.underlying4 rfl rfl) rfl ?_
    refine RL.val (O.pickf rfl rfl) rfl ?_
    refine RL.nil ?_
    refine KQ.then_k ?_
    exact fun a ha => ⟨(!(kv1.f_Src.f_Six == kv1.f_Dst.f_Six)), ha.less (less_cons rfl (less_cons rfl less_nil)), hM, hF⟩
 ·rintro a w17 ⟨t16, ha, hM, hF⟩
  refine KC.app ha ?_
  clear ha
  unfold F_ref08_Right_j1 at hF
  refine KC.cond rfl (fun hc => ?_) (fun hc => ?_)
  ·rw [if_pos hc] at hF
   refine KC.seqH fun Q18 hQ18 => ?_
   refine KC.region ?_
   refine RL.val (O.assign rfl) rfl ?_
   refine RL.nil ?_
   refine KQ.thn hQ18 ?_
   clear hQ18 Q18
   refine KC.ret ?_
   refine KQ.thr hQ6 ?_
   clear hQ6 Q6
   have hE := Option.some.inj hF
   clear hF
   subst hE
   replace hM := hM.pick [] rfl (by decide)
   refine KQ.rets Try.results38 (RVs.cons (RV.tm rfl) RVs.nil) ?_
   exact ⟨_, rfl, rfl, hM⟩
  ·rw [if_neg (ne_true hc)] at hF
   refine KC.skip ?_
   refine KQ.thn hQ6 ?_
   clear hQ6 Q6
   refine KC.cut (fun a w28 => ∃ (t27 : Bool), Kn 40 [(2, Value.bool t27)] a ∧ Mem w [] w28 [] ∧ F_ref08_Right_j2 t27 = some r) ?_ ?_
   ·refine KC.region ?_
    refine RL.val (O.fldA fl54_2 (by decide) rfl) rfl ?_
    refine RL.val (O.load sc5 rfl (Cs.adds [34] ((hM.bx (i := 0) rfl)) rfl)) rfl ?_
    refine obindE hF fun y19 hx20 hF => ?_
    refine RL.call Try.func49 bd49 rfl rfl (c_ref08_ports _ kv1.f_Proto _ hx20) fun v w21 hv => ?_
    obtain ⟨rfl, hN22⟩ := hv
    replace hM := hM.call0 hN22
    refine RL.val (O.move rfl) rfl ?_
    refine RL.bcase (t := 25) rfl (fun hc => ?_) (fun hc => ?_)
    ·rw [if_pos hc] at hF
     refine RL.brun1 14 39 true (by kernel_rfl) ?_
     refine RL.val (O.assign rfl) rfl ?_
     refine RL.nil ?_
     refine KQ.then_k ?_
     replace hM := hM.pick [] rfl (by decide)
     exact fun a ha => ⟨true, ha.less (less_cons rfl less_nil), hM, hF⟩
    ·rw [if_neg (ne_true hc)] at hF
     refine RL.gval rfl rfl (O.fldA fl54_3 (by decide) rfl) rfl ?_
     refine RL.gval rfl rfl (O.load sc33 rfl (Cs.adds [35] ((hM.bx (i := 0) rfl)) rfl)) rfl ?_
     refine RL.gval rfl rfl (O.eql rfl rfl) rfl ?_
     refine RL.gval rfl rfl (O.move rfl) rfl ?_
     refine RL.bcase (t := 29) rfl (fun hc => ?_) (fun hc => ?_)
     ·rw [if_pos hc] at hF
      refine RL.gval rfl rfl (O.fldA fl54_2 (by decide) rfl) rfl ?_
      refine RL.gval rfl rfl (O.load sc5 rfl (Cs.adds [34] ((hM.bx (i := 0) rfl)) rfl)) rfl ?_
      refine obindE hF fun y23 hx24 hF => ?_
      refine RL.gcall rfl rfl Try.func50 bd50 rfl rfl (c_ref08_icmp _ kv1.f_Proto _ hx24) fun v w25 hv => ?_
      obtain ⟨rfl, hN26⟩ := hv
      replace hM := hM.call0 hN26
      refine RL.gval rfl rfl (O.move rfl) rfl ?_
      refine RL.bcase (t := 33) rfl (fun hc => ?_) (fun hc => ?_)
      ·rw [if_pos hc] at hF
       refine RL.gskip rfl rfl rfl rfl ?_
       refine RL.gskip rfl rfl rfl rfl ?_
       refine RL.gskip rfl rfl rfl rfl ?_
       refine RL.gval rfl rfl (O.pickt rfl rfl) rfl ?_
       refine RL.gval rfl rfl (O.pickt rfl rfl) rfl ?_
       refine RL.val (O.pickf rfl rfl) rfl ?_
       refine RL.val (O.assign rfl) rfl ?_
       refine RL.nil ?_
       refine KQ.then_k ?_
       replace hM := hM.pick [] rfl (by decide)
       exact fun a ha => ⟨true, ha.less (less_cons rfl less_nil), hM, hF⟩
      ·rw [if_neg (ne_true hc)] at hF
       refine RL.gval rfl rfl (O.fldA fl54_4 (by decide) rfl) rfl ?_
       refine RL.gval rfl rfl (O.load sc33 rfl (Cs.adds [36] ((hM.bx (i := 0) rfl)) rfl)) rfl ?_
       refine RL.gval rfl rfl (O.eql rfl rfl) rfl ?_
       refine RL.gval rfl rfl (O.pickf rfl rfl) rfl ?_
       refine RL.gval rfl rfl (O.pickt rfl rfl) rfl ?_
       refine RL.val (O.pickf rfl rfl) rfl ?_
       refine RL.val (O.assign rfl) rfl ?_
       refine RL.nil ?_
       refine KQ.then_k ?_
       replace hM := hM.pick [] rfl (by decide)
       exact fun a ha => ⟨(kv1.f_DstPort == 0), ha.less (less_cons rfl less_nil), hM, hF⟩
     ·rw [if_neg (ne_true hc)] at hF
      refine RL.gskip rfl rfl rfl rfl ?_
      refine RL.gskip rfl rfl rfl rfl ?_
      refine RL.gskip rfl rfl rfl rfl ?_
      refine RL.gskip rfl rfl rfl rfl ?_
      refine RL.gskip' rfl rfl rfl ?_
      refine RL.gskip' rfl rfl rfl ?_
      refine RL.gskip' rfl rfl rfl ?_
      refine RL.gskip rfl rfl rfl rfl ?_
      refine RL.gval rfl rfl (O.pickf rfl rfl) rfl ?_
      refine RL.val (O.pickf rfl rfl) rfl ?_
      refine RL.val (O.assign rfl) rfl ?_
      refine RL.nil ?_
      refine KQ.then_k ?_
      replace hM := hM.pick [] rfl (by decide)
      exact fun a ha => ⟨false, ha.less (less_cons rfl less_nil), hM, hF⟩
   ·rintro a w28 ⟨t27, ha, hM, hF⟩
    refine KC.app ha ?_
    clear ha
    unfold F_ref08_Right_j2 at hF
    refine KC.ret ?_
    have hE := Option.some.inj hF
    clear hF
    subst hE
    refine KQ.rets Try.results38 (RVs.cons (RV.tm rfl) RVs.nil) ?_
    exact ⟨_, rfl, rfl, hM⟩
set_option maxRecDepth 100000 in
set_option maxHeartbeats 40000000 in
theorem c_ref04_size (w : World) (six1 : Bool) (r : Int) (hF : F_ref04_size six1 = some r) :
  CallsR Try.prog 65 [Value.bool six1] w (fun v w' => v = Value.int .i64 r ∧ Mem w [] w' []) := by
 refine calls_KC Try.func65 rfl Try.ntmps65 rfl ?_
 have hM := Mem.init w
 unfold F_ref04_size at hF
 refine KC.seqH fun Q2 hQ2 => ?_
 refine KC.region ?_
 refine RL.val (O.assign rfl) rfl ?_
 refine RL.nil ?_
 refine KQ.thn hQ2 ?_
 clear hQ2 Q2
 refine KC.seqH fun Q3 hQ3 => ?_
 refine KC.seqH fun Q4 hQ4 => ?_
 refine KC.region ?_
 refine RL.val (O.move rfl) rfl ?_
 refine RL.nil ?_
 refine KQ.thn hQ4 ?_
 clear hQ4 Q4
 refine KC.cond rfl (fun hc => ?_) (fun hc => ?_)
 ·rw [if_pos hc] at hF
  refine KC.seqH fun Q5 hQ5 => ?_
  refine KC.region ?_
  refine RL.val (O.assign rfl) rfl ?_
  refine RL.nil ?_
  refine KQ.thn hQ5 ?_
  clear hQ5 Q5
  refine KC.ret ?_
  refine KQ.thr hQ3 ?_
  clear hQ3 Q3
  have hE := Option.some.inj hF
  clear hF
  subst hE
  refine KQ.rets Try.results65 (RVs.cons (RV.tm rfl) RVs.nil) ?_
  exact ⟨_, rfl, rfl, hM⟩
 ·rw [if_neg (ne_true hc)] at hF
  refine KC.skip ?_
  refine KQ.thn hQ3 ?_
  clear hQ3 Q3
  refine KC.seqH fun Q6 hQ6 => ?_
  refine KC.region ?_
  refine RL.val (O.assign rfl) rfl ?_
  refine RL.nil ?_
  refine KQ.thn hQ6 ?_
  clear hQ6 Q6
  refine KC.ret ?_
  have hE := Option.some.inj hF
  clear hF
  subst hE
  refine KQ.rets Try.results65 (RVs.cons (RV.tm rfl) RVs.nil) ?_
  exact ⟨_, rfl, rfl, hM⟩
set_option maxRecDepth 100000 in
set_option maxHeartbeats 40000000 in
theorem c_ref04_Bytes (w : World) (av1 : T_addr_Addr) (r : (List Int)) (hF : F_ref04_Bytes av1 = some r) :
  CallsR Try.prog 55 [.agg #[Value.bool av1.f_Six, o8 av1.f_B 0, o8 av1.f_B 1, o8 av1.f_B 2, o8 av1.f_B 3, o8 av1.f_B 4, o8 av1.f_B 5, o8 av1.f_B 6, o8 av1.f_B 7, o8 av1.f_B 8, o8 av1.f_B 9, o8 av1.f_B 10, o8 av1.f_B 11, o8 av1.f_B 12, o8 av1.f_B 13, o8 av1.f_B 14, o8 av1.f_B 15]] w (fun v w' => ∃ (A0 : Option Addr) (c0 : Nat), v = .slice A0 (r).length c0 ∧ Mem w [] w' [.row A0 c0 5 1 r.length (r.flatMap (eI .u8))]) := by
 refine calls_KC Try.func55 rfl Try.ntmps55 rfl ?_
 have hM := Mem.init w
 unfold F_ref04_Bytes at hF
 refine KC.seqH fun Q2 hQ2 => ?_
 refine KC.region ?_
 refine RL.eff (E.box (vs := [Value.bool av1.f_Six, o8 av1.f_B 0, o8 av1.f_B 1, o8 av1.f_B 2, o8 av1.f_B 3, o8 av1.f_B 4, o8 av1.f_B 5, o8 av1.f_B 6, o8 av1.f_B 7, o8 av1.f_B 8, o8 av1.f_B 9, o8 av1.f_B 10, o8 av1.f_B 11, o8 av1.f_B 12, o8 av1.f_B 13, o8 av1.f_B 14, o8 av1.f_B 15]) hM rfl rfl) rfl fun v w4 hv => ?_
 clear hM
 obtain ⟨g3, rfl, hM, hf⟩ := hv
 refine RL.val (O.assign rfl) rfl ?_
 refine RL.nil ?_
 refine KQ.thn hQ2 ?_
 clear hQ2 Q2
 refine KC.seqH fun Q6 hQ6 => ?_
 refine KC.region ?_
 refine RL.val (O.assign rfl) rfl ?_
 refine RL.nil ?_
 refine KQ.thn hQ6 ?_
 clear hQ6 Q6
 refine KC.seqH fun Q7 hQ7 => ?_
 refine KC.seqH fun Q8 hQ8 => ?_
 refine KC.region ?_
 refine RL.val (O.assign rfl) rfl ?_
 refine RL.nil ?_
 refine KQ.thn hQ8 ?_
 clear hQ8 Q8
 refine KC.block ?_
 refine KC.loop (fun k57 a w55 => ∃ (A51 : Option Addr) (c52 : Nat) (out53 : List Int) (i54 : Int), Kn 20 [(1, .pointer (some ⟨g3, 0, none⟩)), (3, .slice A51 (out53).length c52), (4, Value.int .i64 i54)] a ∧ Mem w [] w55 [.box g3 52 [Value.bool av1.f_Six, o8 av1.f_B 0, o8 av1.f_B 1, o8 av1.f_B 2, o8 av1.f_B 3, o8 av1.f_B 4, o8 av1.f_B 5, o8 av1.f_B 6, o8 av1.f_B 7, o8 av1.f_B 8, o8 av1.f_B 9, o8 av1.f_B 10, o8 av1.f_B 11, o8 av1.f_B 12, o8 av1.f_B 13, o8 av1.f_B 14, o8 av1.f_B 15], .row A51 c52 5 1 (out53).length ((out53).flatMap (eI .u8))] ∧ F_ref04_Bytes_L1 av1 k57 out53 i54 = some r) ?_ ?_
 ·replace hM := hM.nilrow 5 1
  exact fun a ha => ⟨fuel0, none, 0, ([]), 0, ha.less (less_cons rfl (less_cons rfl (less_cons rfl less_nil))), hM, hF⟩
 ·rintro k57 a w55 ⟨A51, c52, out53, i54, ha, hM, hF⟩
  refine KC.app ha ?_
  clear ha
  cases k57 with
  | zero => exact (none_some hF).elim
  | succ k57 =>
  have hF : F_ref04_Bytes_l1 (F_ref04_Bytes_L1 av1 k57) av1 out53 i54 = some r := hF
  unfold F_ref04_Bytes_l1 at hF
  refine KC.seqH fun Q58 hQ58 => ?_
  refine KC.seqH fun Q59 hQ59 => ?_
  refine KC.region ?_
  refine RL.val (O.move rfl) rfl ?_
  refine RL.val (O.fldA fl52_0 (by decide) rfl) rfl ?_
  refine RL.val (O.load sc4 rfl (Cs.adds [0] ((hM.bx (i := 0) rfl)) rfl)) rfl ?_
  refine obindE hF fun y60 hx61 hF => ?_
  refine RL.call Try.func65 bd65 rfl rfl (c_ref04_size _ av1.f_Six _ hx61) fun v w62 hv => ?_
  obtain ⟨rfl, hN63⟩ := hv
  replace hM := hM.call0 hN63
  refine RL.val (O.lss rfl rfl) rfl ?_
  refine RL.nil ?_
  refine KQ.thn hQ59 ?_
  clear hQ59 Q59
  refine KC.cond rfl (fun hc => ?_) (fun hc => ?_)
  ·rw [if_pos hc] at hF
   refine KC.skip ?_
   refine KQ.thn hQ58 ?_
   clear hQ58 Q58
   refine KC.seqH fun Q64 hQ64 => ?_
   refine KC.block ?_
   refine KC.region ?_
   refine RL.val (O.move rfl) rfl ?_
   refine RL.val (O.move rfl) rfl ?_
   refine RL.val (O.fldA fl52_1 (by decide) rfl) rfl ?_
   refine obindE hF fun xv66 hx65 hF => ?_
   refine RL.val (O.idxP Try.underlying30 sz5 hx65 rfl rfl) rfl ?_
   refine RL.val (O.load sc5 rfl (Cs.arrAt [1] ((hM.bx (i := 0) rfl)) rfl hx65)) rfl ?_
   refine RL.eff (E.bsl (enc := (eI .u8)) (xs := ([xv66] : List Int)) hM sl81 ze5 rfl rfl rfl (fun _ => rfl) rfl (by kernel_rfl) rfl) rfl fun v w67 hv => ?_
   clear hM
   obtain ⟨A68, rfl, hM, hf⟩ := hv
   refine cut_someE hF fun hq73 hF => ?_
   refine RL.eff (E.app (enc := (eI .u8)) (xs := out53) (ys := ([xv66] : List Int)) (j := 1) hM rfl sl81 ze5 rfl rfl rfl rfl rfl (hM.rd (i := 2) rfl) (fun _ => One.all rfl) (of_decide_eq_true hq73)) rfl fun v w72 hv => ?_
   clear hM
   obtain ⟨A70, c71, rfl, hM, hf⟩ := hv
   refine RL.val (O.assign rfl) rfl ?_
   refine RL.nil ?_
   refine KQ.blk_n ?_
   refine KQ.thn hQ64 ?_
   clear hQ64 Q64
   refine KC.region ?_
   refine RL.val (O.move rfl) rfl ?_
   refine RL.val (O.add rfl rfl) rfl ?_
   refine RL.val (O.assign rfl) rfl ?_
   refine RL.nil ?_
   refine KQ.then_k ?_
   replace hM := hM.pick [0, 1] rfl (by decide)
   exact fun a ha => ⟨k57, Nat.lt_succ_self k57, A70, c71, (out53 ++ ([xv66] : List Int)), (IntKind.i64.wrap (i54 + 1)), ha.less (less_cons rfl (less_cons rfl (less_cons rfl less_nil))), hM, hF⟩
  ·rw [if_neg (ne_true hc)] at hF
   refine KC.exit ?_
   refine KQ.thx hQ58 ?_
   clear hQ58 Q58
   refine KQ.then_x ?_
   refine KQ.blk_x ?_
   refine KQ.thn hQ7 ?_
   clear hQ7 Q7
   refine KC.seqH fun Q75 hQ75 => ?_
   refine KC.region ?_
   refine RL.val (O.move rfl) rfl ?_
   refine RL.val (O.assign rfl) rfl ?_
   refine RL.nil ?_
   refine KQ.thn hQ75 ?_
   clear hQ75 Q75
   refine KC.ret ?_
   have hE := Option.some.inj hF
   clear hF
   subst hE
   replace hM := hM.pick [1] rfl (by decide)
   refine KQ.rets Try.results55 (RVs.cons (RV.tm rfl) RVs.nil) ?_
   exact ⟨_, rfl, A51, c52, rfl, hM⟩
set_option maxRecDepth 100000 in
set_option maxHeartbeats 40000000 in
theorem c_ref01_Put_R : ∀ (kf : Nat) (w : World) (v1 : Int) (size2 : Int) (r : (List Int)) (hF : F_ref01_Put_R kf v1 size2 = some r),
  CallsR Try.prog 56 [Value.int .u64 v1, Value.int .i64 size2] w (fun v w' => ∃ (A0 : Option Addr) (c0 : Nat), v = .slice A0 (r).length c0 ∧ Mem w [] w' [.row A0 c0 5 1 r.length (r.flatMap (eI .u8))]) := by
 intro kf
 induction kf with
 | zero => intro w v1 size2 r hF; exact (none_some hF).elim
 | succ kf ih =>
  intro w v1 size2 r hF
  refine calls_KC Try.func56 rfl Try.ntmps56 rfl ?_
  have hM := Mem.init w
  have hF : F_ref01_Put_B (F_ref01_Put_R kf) v1 size2 = some r := hF
  unfold F_ref01_Put_B at hF
  refine KC.seqH fun Q3 hQ3 => ?_
  refine KC.region ?_
  refine RL.val (O.assign rfl) rfl ?_
  refine RL.nil ?_
  refine KQ.thn hQ3 ?_
  clear hQ3 Q3
  refine KC.seqH fun Q4 hQ4 => ?_
  refine KC.seqH fun Q5 hQ5 => ?_
  refine KC.region ?_
  refine RL.val (O.move rfl) rfl ?_
  refine RL.val (O.eql rfl rfl) rfl ?_
  refine RL.nil ?_
  refine KQ.thn hQ5 ?_
  clear hQ5 Q5
  refine KC.cond rfl (fun hc => ?_) (fun hc => ?_)
  ·rw [if_pos hc] at hF
   refine KC.seqH fun Q6 hQ6 => ?_
   refine KC.region ?_
   refine RL.val (O.assign rfl) rfl ?_
   refine RL.nil ?_
   refine KQ.thn hQ6 ?_
   clear hQ6 Q6
   refine KC.ret ?_
   refine KQ.thr hQ4 ?_
   clear hQ4 Q4
   have hE := Option.some.inj hF
   clear hF
   subst hE
   replace hM := hM.nilrow 5 1
   refine KQ.rets Try.results56 (RVs.cons (RV.tm rfl) RVs.nil) ?_
   exact ⟨_, rfl, none, 0, rfl, hM⟩
  ·rw [if_neg (ne_true hc)] at hF
   refine KC.skip ?_
   refine KQ.thn hQ4 ?_
   clear hQ4 Q4
   refine KC.seqH fun Q7 hQ7 => ?_
   refine KC.region ?_
   refine RL.val (O.move rfl) rfl ?_
   refine RL.val (O.quo rfl rfl (by decide)) rfl ?_
   refine RL.val (O.move rfl) rfl ?_
   refine RL.val (O.sub rfl rfl) rfl ?_
   refine obindE hF fun y8 hx9 hF => ?_
   refine RL.call Try.func56 bd56 rfl rfl (ih _ (IntKind.u64.wrap (Int.tdiv v1 256)) (IntKind.i64.wrap (size2 - 1)) _ hx9) fun v w10 hv => ?_
   obtain ⟨A12, c13, rfl, hN11⟩ := hv
   replace hM := hM.call hN11
   refine RL.val (O.move rfl) rfl ?_
   refine RL.val (O.rem rfl rfl (by decide)) rfl ?_
   refine RL.val (O.conv un36 Try.underlying5 rfl) rfl ?_
   refine RL.eff (E.bsl (enc := (eI .u8)) (xs := ([(IntKind.u8.wrap (Int.tmod v1 256))] : List Int)) hM sl81 ze5 rfl rfl rfl (fun _ => rfl) rfl (by kernel_rfl) rfl) rfl fun v w15 hv => ?_
   clear hM
   obtain ⟨A16, rfl, hM, hf⟩ := hv
   refine cut_someE hF fun hq21 hF => ?_
   refine RL.eff (E.app (enc := (eI .u8)) (xs := y8) (ys := ([(IntKind.u8.wrap (Int.tmod v1 256))] : List Int)) (j := 0) hM rfl sl81 ze5 rfl rfl rfl rfl rfl (hM.rd (i := 1) rfl) (fun _ => One.all rfl) (of_decide_eq_true hq21)) rfl fun v w20 hv => ?_
   clear hM
   obtain ⟨A18, c19, rfl, hM, hf⟩ := hv
   refine RL.val (O.assign rfl) rfl ?_
   refine RL.nil ?_
   refine KQ.thn hQ7 ?_
   clear hQ7 Q7
   refine KC.ret ?_
   have hE := Option.some.inj hF
   clear hF
   subst hE
   replace hM := hM.pick [0] rfl (by decide)
   refine KQ.rets Try.results56 (RVs.cons (RV.tm rfl) RVs.nil) ?_
   exact ⟨_, rfl, A18, c19, rfl, hM⟩
theorem c_ref01_Put (w : World) (v1 : Int) (size2 : Int) (r : (List Int)) (hF : F_ref01_Put v1 size2 = some r) :
  CallsR Try.prog 56 [Value.int .u64 v1, Value.int .i64 size2] w (fun v w' => ∃ (A0 : Option Addr) (c0 : Nat), v = .slice A0 (r).length c0 ∧ Mem w [] w' [.row A0 c0 5 1 r.length (r.flatMap (eI .u8))]) := c_ref01_Put_R fuel0 w v1 size2 r hF
end Go.Proofs.Ytnbakndfnjflhaa
