/- Printed by a program of this claim: each call returns what the plain function of its name gives. -/
import Derived.Test.YtpbkjellpboefaaW1
import Derived.Test.YtpbkjellpboefaaW2
import Derived.Test.YtpbkjellpboefaaW3
set_option linter.unusedVariables false
namespace Go.Proofs.Ytpbkjellpboefaa
open Go Go.Ox Go.RowKit
set_option maxRecDepth 100000 in
set_option maxHeartbeats 40000000 in
theorem c_bits_Writer_Set_N (w : World) (atv1 : Int) (v2 : Int) (size3 : Int) (r : Int) (hF : F_bits_Writer_Set_N atv1 v2 size3 = some r) :
  CallsR Try.prog 21 [.pointer none, vI atv1, v64 v2, vI size3] w (fun v w' => v = vI r ∧ Mem w [] w' []) := by
 refine calls_KC Try.func21 rfl Try.ntmps21 rfl ?_
 have hM := Mem.init w
 unfold F_bits_Writer_Set_N at hF
 refine sr fun Q4 hQ4 => ?_
 refine va rfl rfl ?_
 refine nt hQ4 ?_
 clear hQ4 Q4
 refine KC.seqH fun Q5 hQ5 => ?_
 refine sr fun Q6 hQ6 => ?_
 refine vm rfl rfl ?_
 refine RL.val (O.peqn Try.underlying56 rfl rfl) rfl ?_
 refine nt hQ6 ?_
 clear hQ6 Q6
 refine KC.condT rfl ?_
 refine sr fun Q7 hQ7 => ?_
 refine va rfl rfl ?_
 refine nt hQ7 ?_
 clear hQ7 Q7
 refine KC.ret ?_
 refine KQ.thr hQ5 ?_
 clear hQ5 Q5
 have hE := Option.some.inj hF
 clear hF
 subst hE
 refine KQ.rets Try.results21 (RVs.cons (RV.tm rfl) RVs.nil) ?_
 exact ⟨_, rfl, rfl, hM⟩
set_option maxRecDepth 100000 in
set_option maxHeartbeats 40000000 in
theorem c_bits_Writer_Bytes_N (w : World) (r : (List Int)) (hF : F_bits_Writer_Bytes_N = some r) :
  CallsR Try.prog 22 [.pointer none] w (fun v w' => ∃ (A0 : Option Addr) (c0 : Nat), v = .slice A0 (r).length c0 ∧ Mem w [] w' [.row A0 c0 5 1 r.length (r.flatMap (eI .u8))]) := by
 refine calls_KC Try.func22 rfl Try.ntmps22 rfl ?_
 have hM := Mem.init w
 unfold F_bits_Writer_Bytes_N at hF
 refine sr fun Q1 hQ1 => ?_
 refine va rfl rfl ?_
 refine nt hQ1 ?_
 clear hQ1 Q1
 refine KC.seqH fun Q2 hQ2 => ?_
 refine sr fun Q3 hQ3 => ?_
 refine vm rfl rfl ?_
 refine RL.val (O.peqn Try.underlying56 rfl rfl) rfl ?_
 refine nt hQ3 ?_
 clear hQ3 Q3
 refine KC.condT rfl ?_
 refine sr fun Q4 hQ4 => ?_
 refine va rfl rfl ?_
 refine nt hQ4 ?_
 clear hQ4 Q4
 refine KC.ret ?_
 refine KQ.thr hQ2 ?_
 clear hQ2 Q2
 have hE := Option.some.inj hF
 clear hF
 subst hE
 replace hM := hM.nilrow 5 1
 refine KQ.rets Try.results22 (RVs.cons (RV.tm rfl) RVs.nil) ?_
 exact ⟨_, rfl, none, 0, rfl, hM⟩
set_option maxRecDepth 100000 in
set_option maxHeartbeats 40000000 in
theorem c_bits_Writer_Len_N (w : World) (r : Int) (hF : F_bits_Writer_Len_N = some r) :
  CallsR Try.prog 24 [.pointer none] w (fun v w' => v = vI r ∧ Mem w [] w' []) := by
 refine calls_KC Try.func24 rfl Try.ntmps24 rfl ?_
 have hM := Mem.init w
 unfold F_bits_Writer_Len_N at hF
 refine sr fun Q1 hQ1 => ?_
 refine va rfl rfl ?_
 refine nt hQ1 ?_
 clear hQ1 Q1
 refine KC.seqH fun Q2 hQ2 => ?_
 refine sr fun Q3 hQ3 => ?_
 refine vm rfl rfl ?_
 refine RL.val (O.peqn Try.underlying56 rfl rfl) rfl ?_
 refine nt hQ3 ?_
 clear hQ3 Q3
 refine KC.condT rfl ?_
 refine sr fun Q4 hQ4 => ?_
 refine va rfl rfl ?_
 refine nt hQ4 ?_
 clear hQ4 Q4
 refine KC.ret ?_
 refine KQ.thr hQ2 ?_
 clear hQ2 Q2
 have hE := Option.some.inj hF
 clear hF
 subst hE
 refine KQ.rets Try.results24 (RVs.cons (RV.tm rfl) RVs.nil) ?_
 exact ⟨_, rfl, rfl, hM⟩
set_option maxRecDepth 100000 in
set_option maxHeartbeats 40000000 in
theorem c_bits_Reader_Left_N (w : World) (r : Int) (hF : F_bits_Reader_Left_N = some r) :
  CallsR Try.prog 27 [.pointer none] w (fun v w' => v = vI r ∧ Mem w [] w' []) := by
 refine calls_KC Try.func27 rfl Try.ntmps27 rfl ?_
 have hM := Mem.init w
 unfold F_bits_Reader_Left_N at hF
 refine sr fun Q1 hQ1 => ?_
 refine va rfl rfl ?_
 refine nt hQ1 ?_
 clear hQ1 Q1
 refine KC.seqH fun Q2 hQ2 => ?_
 refine sr fun Q3 hQ3 => ?_
 refine vm rfl rfl ?_
 refine RL.val (O.peqn Try.underlying49 rfl rfl) rfl ?_
 refine nt hQ3 ?_
 clear hQ3 Q3
 refine KC.condT rfl ?_
 refine sr fun Q4 hQ4 => ?_
 refine va rfl rfl ?_
 refine nt hQ4 ?_
 clear hQ4 Q4
 refine KC.ret ?_
 refine KQ.thr hQ2 ?_
 clear hQ2 Q2
 have hE := Option.some.inj hF
 clear hF
 subst hE
 refine KQ.rets Try.results27 (RVs.cons (RV.tm rfl) RVs.nil) ?_
 exact ⟨_, rfl, rfl, hM⟩
set_option maxRecDepth 100000 in
set_option maxHeartbeats 40000000 in
theorem c_bits_Reader_At_N (w : World) (r : Int) (hF : F_bits_Reader_At_N = some r) :
  CallsR Try.prog 29 [.pointer none] w (fun v w' => v = vI r ∧ Mem w [] w' []) := by
 refine calls_KC Try.func29 rfl Try.ntmps29 rfl ?_
 have hM := Mem.init w
 unfold F_bits_Reader_At_N at hF
 refine sr fun Q1 hQ1 => ?_
 refine va rfl rfl ?_
 refine nt hQ1 ?_
 clear hQ1 Q1
 refine KC.seqH fun Q2 hQ2 => ?_
 refine sr fun Q3 hQ3 => ?_
 refine vm rfl rfl ?_
 refine RL.val (O.peqn Try.underlying49 rfl rfl) rfl ?_
 refine nt hQ3 ?_
 clear hQ3 Q3
 refine KC.condT rfl ?_
 refine sr fun Q4 hQ4 => ?_
 refine va rfl rfl ?_
 refine nt hQ4 ?_
 clear hQ4 Q4
 refine KC.ret ?_
 refine KQ.thr hQ2 ?_
 clear hQ2 Q2
 have hE := Option.some.inj hF
 clear hF
 subst hE
 refine KQ.rets Try.results29 (RVs.cons (RV.tm rfl) RVs.nil) ?_
 exact ⟨_, rfl, rfl, hM⟩
set_option maxRecDepth 100000 in
set_option maxHeartbeats 40000000 in
theorem c_law01_BitsNone (w : World) (av1 : T_law01_Act) (A2 : Option Addr) (c3 : Nat) (hr4 : Rd w A2 c3 1 av1.f_B.length (av1.f_B.flatMap (eI .u8))) (r : Bool) (hF : F_law01_BitsNone av1 = some r) :
  CallsR Try.prog 7 [.agg #[vI av1.f_Do, vI av1.f_At, v64 av1.f_V, vI av1.f_Size, .slice A2 (av1.f_B).length c3]] w (fun v w' => v = vB r ∧ Mem w [] w' []) := by
 refine calls_KC Try.func7 rfl Try.ntmps7 rfl ?_
 have hM := Mem.init w
 unfold F_law01_BitsNone at hF
 refine sr fun Q5 hQ5 => ?_
 refine RL.eff (E.box (vs := [vI av1.f_Do, vI av1.f_At, v64 av1.f_V, vI av1.f_Size, .slice A2 (av1.f_B).length c3]) hM rfl rfl) rfl fun v w7 hv => ?_
 clear hM
 obtain ⟨g6, rfl, hM, hf⟩ := hv
 refine va rfl rfl ?_
 refine nt hQ5 ?_
 clear hQ5 Q5
 refine sr fun Q9 hQ9 => ?_
 refine va rfl rfl ?_
 refine nt hQ9 ?_
 clear hQ9 Q9
 refine sr fun Q10 hQ10 => ?_
 refine va rfl rfl ?_
 refine nt hQ10 ?_
 clear hQ10 Q10
 refine sr fun Q11 hQ11 => ?_
 refine vm rfl rfl ?_
 refine RL.val (O.fldA fl35_3 (by decide) rfl) rfl ?_
 refine RL.val (O.load sc3 rfl (Cs.adds [3] ((hM.bx (i := 0) rfl)) rfl)) rfl ?_
 refine obindE hF fun y12 hx13 hF => ?_
 refine RL.call Try.func26 bd26 rfl rfl (c_bits_Reader_Get_N _ av1.f_Size _ hx13) fun v w14 hv => ?_
 obtain ⟨rfl, hN15⟩ := hv
 replace hM := hM.call0 hN15
 refine vm rfl rfl ?_
 refine RL.val (O.ext rfl rfl) rfl ?_
 refine RL.val (O.ext rfl rfl) rfl ?_
 refine va rfl rfl ?_
 refine va rfl rfl ?_
 refine nt hQ11 ?_
 clear hQ11 Q11
 refine sr fun Q16 hQ16 => ?_
 refine vm rfl rfl ?_
 refine RL.val (O.fldA fl35_1 (by decide) rfl) rfl ?_
 refine RL.val (O.load sc3 rfl (Cs.adds [1] ((hM.bx (i := 0) rfl)) rfl)) rfl ?_
 refine obindE hF fun y17 hx18 hF => ?_
 refine RL.call Try.func28 bd28 rfl rfl (c_bits_Reader_Take_N _ av1.f_At _ hx18) fun v w19 hv => ?_
 obtain ⟨A21, c22, rfl, hN20⟩ := hv
 replace hM := hM.call hN20
 refine vm rfl rfl ?_
 refine RL.val (O.ext rfl rfl) rfl ?_
 refine RL.val (O.ext rfl rfl) rfl ?_
 refine va rfl rfl ?_
 refine va rfl rfl ?_
 refine nt hQ16 ?_
 clear hQ16 Q16
 refine KC.cut (fun a w60 => ∃ (t59 : Bool), Kn 80 [(2, vB t59)] a ∧ Mem w [] w60 [] ∧ F_law01_BitsNone_j1 t59 = some r) ?_ ?_
 ·refine KC.region ?_
  refine vm rfl rfl ?_
  refine RL.val (O.fldA fl35_2 (by decide) rfl) rfl ?_
  refine RL.val (O.load sc23 rfl (Cs.adds [2] ((hM.bx (i := 0) rfl)) rfl)) rfl ?_
  refine RL.val (O.fldA fl35_3 (by decide) rfl) rfl ?_
  refine RL.val (O.load sc3 rfl (Cs.adds [3] ((hM.bx (i := 0) rfl)) rfl)) rfl ?_
  refine obindE hF fun y24 hx25 hF => ?_
  refine RL.call Try.func17 bd17 rfl rfl (c_bits_Writer_Put_N _ av1.f_V av1.f_Size _ hx25) fun v w26 hv => ?_
  obtain ⟨rfl, hN27⟩ := hv
  replace hM := hM.call0 hN27
  refine RL.val (O.eql rfl rfl) rfl ?_
  refine vm rfl rfl ?_
  refine RL.bcase (t := 30) rfl (fun hc => ?_) (fun hc => ?_)
  ·rw [if_pos hc] at hF
   refine RL.gval rfl rfl (O.move rfl) rfl ?_
   refine RL.gval rfl rfl (O.fldA fl35_4 (by decide) rfl) rfl ?_
   refine RL.gval rfl rfl (O.load sc22 rfl (Cs.adds [4] ((hM.bx (i := 0) rfl)) rfl)) rfl ?_
   refine obindE hF fun y28 hx29 hF => ?_
   refine RL.gcall rfl rfl Try.func20 bd20 rfl rfl (c_bits_Writer_Raw_N _ _ _ av1.f_B (hM.inp hr4 Off.nil) _ hx29) fun v w30 hv => ?_
   obtain ⟨rfl, hN31⟩ := hv
   replace hM := hM.call0 hN31
   refine RL.gval rfl rfl (O.eql rfl rfl) rfl ?_
   refine RL.val (O.pickt rfl rfl) rfl ?_
   refine vm rfl rfl ?_
   refine RL.bcase (t := 37) rfl (fun hc => ?_) (fun hc => ?_)
   ·rw [if_pos hc] at hF
    refine RL.gval rfl rfl (O.move rfl) rfl ?_
    refine RL.gval rfl rfl (O.fldA fl35_1 (by decide) rfl) rfl ?_
    refine RL.gval rfl rfl (O.load sc3 rfl (Cs.adds [1] ((hM.bx (i := 0) rfl)) rfl)) rfl ?_
    refine RL.gval rfl rfl (O.fldA fl35_2 (by decide) rfl) rfl ?_
    refine RL.gval rfl rfl (O.load sc23 rfl (Cs.adds [2] ((hM.bx (i := 0) rfl)) rfl)) rfl ?_
    refine RL.gval rfl rfl (O.fldA fl35_3 (by decide) rfl) rfl ?_
    refine RL.gval rfl rfl (O.load sc3 rfl (Cs.adds [3] ((hM.bx (i := 0) rfl)) rfl)) rfl ?_
    refine obindE hF fun y32 hx33 hF => ?_
    refine RL.gcall rfl rfl Try.func21 bd21 rfl rfl (c_bits_Writer_Set_N _ av1.f_At av1.f_V av1.f_Size _ hx33) fun v w34 hv => ?_
    obtain ⟨rfl, hN35⟩ := hv
    replace hM := hM.call0 hN35
    refine RL.gval rfl rfl (O.eql rfl rfl) rfl ?_
    refine RL.val (O.pickt rfl rfl) rfl ?_
    refine vm rfl rfl ?_
    refine RL.bcase (t := 48) rfl (fun hc => ?_) (fun hc => ?_)
    ·rw [if_pos hc] at hF
     refine RL.gval rfl rfl (O.move rfl) rfl ?_
     refine obindE hF fun y36 hx37 hF => ?_
     refine RL.gcall rfl rfl Try.func22 bd22 rfl rfl (c_bits_Writer_Bytes_N _ _ hx37) fun v w38 hv => ?_
     obtain ⟨A40, c41, rfl, hN39⟩ := hv
     replace hM := hM.call hN39
     refine RL.gval rfl rfl (O.len sl22 rfl) rfl ?_
     refine RL.gval rfl rfl (O.eql rfl rfl) rfl ?_
     refine RL.val (O.pickt rfl rfl) rfl ?_
     refine vm rfl rfl ?_
     refine RL.bcase (t := 54) rfl (fun hc => ?_) (fun hc => ?_)
     ·rw [if_pos hc] at hF
      refine RL.gval rfl rfl (O.move rfl) rfl ?_
      refine obindE hF fun y43 hx44 hF => ?_
      refine RL.gcall rfl rfl Try.func24 bd24 rfl rfl (c_bits_Writer_Len_N _ _ hx44) fun v w45 hv => ?_
      obtain ⟨rfl, hN46⟩ := hv
      replace hM := hM.call0 hN46
      refine RL.gval rfl rfl (O.eql rfl rfl) rfl ?_
      refine RL.val (O.pickt rfl rfl) rfl ?_
      refine vm rfl rfl ?_
      refine RL.bcase (t := 59) rfl (fun hc => ?_) (fun hc => ?_)
      ·rw [if_pos hc] at hF
       refine RL.gval rfl rfl (O.move rfl) rfl ?_
       refine RL.gval rfl rfl (O.eql rfl rfl) rfl ?_
       refine RL.val (O.pickt rfl rfl) rfl ?_
       refine vm rfl rfl ?_
       refine RL.bcase (t := 63) rfl (fun hc => ?_) (fun hc => ?_)
       ·rw [if_pos hc] at hF
        refine RL.gval rfl rfl (O.move rfl) rfl ?_
        refine RL.gval rfl rfl (O.eql rfl rfl) rfl ?_
        refine RL.val (O.pickt rfl rfl) rfl ?_
        refine vm rfl rfl ?_
        refine RL.bcase (t := 67) rfl (fun hc => ?_) (fun hc => ?_)
        ·rw [if_pos hc] at hF
         refine RL.gval rfl rfl (O.move rfl) rfl ?_
         refine obindE hF fun y47 hx48 hF => ?_
         refine RL.gcall rfl rfl Try.func27 bd27 rfl rfl (c_bits_Reader_Left_N _ _ hx48) fun v w49 hv => ?_
         obtain ⟨rfl, hN50⟩ := hv
         replace hM := hM.call0 hN50
         refine RL.gval rfl rfl (O.eql rfl rfl) rfl ?_
         refine RL.val (O.pickt rfl rfl) rfl ?_
         refine vm rfl rfl ?_
         refine RL.bcase (t := 72) rfl (fun hc => ?_) (fun hc => ?_)
         ·rw [if_pos hc] at hF
          refine RL.gval rfl rfl (O.move rfl) rfl ?_
          refine obindE hF fun y51 hx52 hF => ?_
          refine RL.gcall rfl rfl Try.func29 bd29 rfl rfl (c_bits_Reader_At_N _ _ hx52) fun v w53 hv => ?_
          obtain ⟨rfl, hN54⟩ := hv
          replace hM := hM.call0 hN54
          refine RL.gval rfl rfl (O.eql rfl rfl) rfl ?_
          refine RL.val (O.pickt rfl rfl) rfl ?_
          refine vm rfl rfl ?_
          refine RL.bcase (t := 77) rfl (fun hc => ?_) (fun hc => ?_)
          ·rw [if_pos hc] at hF
           refine obindE hF fun y55 hx56 hF => ?_
           refine RL.gcall rfl rfl Try.func9 bd9 rfl rfl (c_law01_works _ _ hx56) fun v w57 hv => ?_
           obtain ⟨rfl, hN58⟩ := hv
           replace hM := hM.call0 hN58
           refine RL.val (O.pickt rfl rfl) rfl ?_
           refine va rfl rfl ?_
           refine RL.nil ?_
           refine KQ.then_k ?_
           replace hM := hM.pick [] rfl (by decide)
           exact fun a ha => ⟨y55, ha.less (less_cons rfl less_nil), hM, hF⟩
          rw [if_neg (ne_true hc)] at hF
          refine RL.gskip rfl rfl rfl rfl ?_
          refine RL.val (O.pickf rfl rfl) rfl ?_
          refine va rfl rfl ?_
          refine RL.nil ?_
          refine KQ.then_k ?_
          replace hM := hM.pick [] rfl (by decide)
          exact fun a ha => ⟨false, ha.less (less_cons rfl less_nil), hM, hF⟩
         rw [if_neg (ne_true hc)] at hF
         refine RL.brun1 7 79 false (by kernel_rfl) ?_
         refine va rfl rfl ?_
         refine RL.nil ?_
         refine KQ.then_k ?_
         replace hM := hM.pick [] rfl (by decide)
         exact fun a ha => ⟨false, ha.less (less_cons rfl less_nil), hM, hF⟩
        rw [if_neg (ne_true hc)] at hF
        refine RL.brun1 12 79 false (by kernel_rfl) ?_
        refine va rfl rfl ?_
        refine RL.nil ?_
        refine KQ.then_k ?_
        replace hM := hM.pick [] rfl (by decide)
        exact fun a ha => ⟨false, ha.less (less_cons rfl less_nil), hM, hF⟩
       rw [if_neg (ne_true hc)] at hF
       refine RL.brun1 16 79 false (by kernel_rfl) ?_
       refine va rfl rfl ?_
       refine RL.nil ?_
       refine KQ.then_k ?_
       replace hM := hM.pick [] rfl (by decide)
       exact fun a ha => ⟨false, ha.less (less_cons rfl less_nil), hM, hF⟩
      rw [if_neg (ne_true hc)] at hF
      refine RL.brun1 20 79 false (by kernel_rfl) ?_
      refine va rfl rfl ?_
      refine RL.nil ?_
      refine KQ.then_k ?_
      replace hM := hM.pick [] rfl (by decide)
      exact fun a ha => ⟨false, ha.less (less_cons rfl less_nil), hM, hF⟩
     rw [if_neg (ne_true hc)] at hF
     refine RL.brun1 25 79 false (by kernel_rfl) ?_
     refine va rfl rfl ?_
     refine RL.nil ?_
     refine KQ.then_k ?_
     replace hM := hM.pick [] rfl (by decide)
     exact fun a ha => ⟨false, ha.less (less_cons rfl less_nil), hM, hF⟩
    rw [if_neg (ne_true hc)] at hF
    refine RL.brun1 31 79 false (by kernel_rfl) ?_
    refine va rfl rfl ?_
    refine RL.nil ?_
    refine KQ.then_k ?_
    replace hM := hM.pick [] rfl (by decide)
    exact fun a ha => ⟨false, ha.less (less_cons rfl less_nil), hM, hF⟩
   rw [if_neg (ne_true hc)] at hF
   refine RL.brun1 42 79 false (by kernel_rfl) ?_
   refine va rfl rfl ?_
   refine RL.nil ?_
   refine KQ.then_k ?_
   replace hM := hM.pick [] rfl (by decide)
   exact fun a ha => ⟨false, ha.less (less_cons rfl less_nil), hM, hF⟩
  rw [if_neg (ne_true hc)] at hF
  refine RL.brun1 49 79 false (by kernel_rfl) ?_
  refine va rfl rfl ?_
  refine RL.nil ?_
  refine KQ.then_k ?_
  replace hM := hM.pick [] rfl (by decide)
  exact fun a ha => ⟨false, ha.less (less_cons rfl less_nil), hM, hF⟩
 rintro a w60 ⟨t59, ha, hM, hF⟩
 refine KC.app ha ?_
 clear ha
 unfold F_law01_BitsNone_j1 at hF
 refine KC.ret ?_
 have hE := Option.some.inj hF
 clear hF
 subst hE
 refine KQ.rets Try.results7 (RVs.cons (RV.tm rfl) RVs.nil) ?_
 exact ⟨_, rfl, rfl, hM⟩
end Go.Proofs.Ytpbkjellpboefaa
