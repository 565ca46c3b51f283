/- Printed by a program of this claim: each call returns what the plain function of its name gives. -/
import Derived.Test.YtjfdfjmnajjjaaaW1
import Derived.Test.YtjfdfjmnajjjaaaW9
import Derived.Test.YtjfdfjmnajjjaaaW14
set_option linter.unusedVariables false
namespace Go.Proofs.Ytjfdfjmnajjjaaa
open Go Go.Ox Go.RowKit
set_option maxRecDepth 100000 in
set_option maxHeartbeats 40000000 in
theorem c_ref05_Parse (w : World) (A2 : Option Addr) (c3 : Nat) (b1 : List Int) (hr4 : Rd w A2 c3 1 b1.length (b1.flatMap (eI .u8))) (r : T_ref05_Header × Int × Int) (hF : F_ref05_Parse b1 = some r) :
    CallsR Try.prog 22 [.slice A2 (b1).length c3] w (fun v w' => v = .tuple #[.agg #[.int .u8 r.1.f_TOS, .int .u16 r.1.f_Total, .int .u16 r.1.f_ID, .bool r.1.f_DF, .bool r.1.f_MF, .int .u16 r.1.f_Frag, .int .u8 r.1.f_TTL, .int .u8 r.1.f_Proto, .string r.1.f_Src, .string r.1.f_Dst, .string r.1.f_Options], .int .i64 r.2.1, .int .i64 r.2.2] ∧ Mem w [] w' []) := by
  refine calls_KC Try.func22 rfl Try.ntmps22 rfl ?_
  have hM := Mem.init w
  unfold F_ref05_Parse at hF
  refine KC.seqH fun Q5 hQ5 => ?_
  refine KC.region ?_
  refine RL.eff (E.alloc hM ze41) rfl fun v w7 hv => ?_
  clear hM
  obtain ⟨g6, rfl, hM, hf⟩ := hv
  refine RL.val (O.assign rfl) rfl ?_
  refine RL.val (O.assign rfl) rfl ?_
  refine RL.nil ?_
  refine KQ.thn hQ5 ?_
  clear hQ5 Q5
  refine KC.seqH fun Q9 hQ9 => ?_
  refine KC.region ?_
  refine RL.val (O.bld (cs := [.int .u8 0, .int .u16 0, .int .u16 0, .bool false, .bool false, .int .u16 0, .int .u8 0, .int .u8 0, .string ByteArray.empty, .string ByteArray.empty, .string ByteArray.empty]) bt41 rfl (by kernel_rfl)) rfl ?_
  refine RL.eff (E.alloc hM ze41) rfl fun v w11 hv => ?_
  clear hM
  obtain ⟨g10, rfl, hM, hf⟩ := hv
  refine RL.effs (E.stB (j := 1) (off := 0) (vs := [.int .u8 0, .int .u16 0, .int .u16 0, .bool false, .bool false, .int .u16 0, .int .u8 0, .int .u8 0, .string ByteArray.empty, .string ByteArray.empty, .string ByteArray.empty]) (cs' := [.int .u8 0, .int .u16 0, .int .u16 0, .bool false, .bool false, .int .u16 0, .int .u8 0, .int .u8 0, .string ByteArray.empty, .string ByteArray.empty, .string ByteArray.empty]) hM rfl sz41 rfl (adds_eq [] rfl) rfl rfl (One.all rfl) rfl rfl) fun w13 hM1 => ?_
  clear hM
  have hM := hM1
  clear hM1
  refine RL.nil ?_
  refine KQ.thn hQ9 ?_
  clear hQ9 Q9
  refine KC.seqH fun Q14 hQ14 => ?_
  refine KC.seqH fun Q15 hQ15 => ?_
  refine KC.region ?_
  refine RL.val (O.move rfl) rfl ?_
  refine RL.val (O.len sl22 rfl) rfl ?_
  refine RL.val (O.lss rfl rfl) rfl ?_
  refine RL.nil ?_
  refine KQ.thn hQ15 ?_
  clear hQ15 Q15
  refine KC.cond rfl (fun hc => ?_) (fun hc => ?_)
  · rw [if_pos hc] at hF
    refine KC.seqH fun Q16 hQ16 => ?_
    refine KC.region ?_
    refine RL.val (O.loadN (cs := [.int .u8 0, .int .u16 0, .int .u16 0, .bool false, .bool false, .int .u16 0, .int .u8 0, .int .u8 0, .string ByteArray.empty, .string ByteArray.empty, .string ByteArray.empty]) ag41 rfl (Cs.addsN [] ((hM.bx (i := 1) rfl)) rfl)) rfl ?_
    refine RL.effs (E.stB (j := 0) (off := 0) (vs := [.int .u8 0, .int .u16 0, .int .u16 0, .bool false, .bool false, .int .u16 0, .int .u8 0, .int .u8 0, .string ByteArray.empty, .string ByteArray.empty, .string ByteArray.empty]) (cs' := [.int .u8 0, .int .u16 0, .int .u16 0, .bool false, .bool false, .int .u16 0, .int .u8 0, .int .u8 0, .string ByteArray.empty, .string ByteArray.empty, .string ByteArray.empty]) hM rfl sz41 rfl (adds_eq [] rfl) rfl rfl (One.all rfl) rfl rfl) fun w17 hM1 => ?_
    clear hM
    have hM := hM1
    clear hM1
    refine RL.val (O.assign rfl) rfl ?_
    refine RL.val (O.assign rfl) rfl ?_
    refine RL.nil ?_
    refine KQ.thn hQ16 ?_
    clear hQ16 Q16
    refine KC.ret ?_
    refine KQ.thr hQ14 ?_
    clear hQ14 Q14
    have hE := Option.some.inj hF
    clear hF
    subst hE
    have hb18 := hM.bx (i := 0) rfl
    replace hM := hM.pick [] rfl (by decide)
    refine KQ.rets Try.results22 (RVs.cons (RV.cN (cs := [.int .u8 0, .int .u16 0, .int .u16 0, .bool false, .bool false, .int .u16 0, .int .u8 0, .int .u8 0, .string ByteArray.empty, .string ByteArray.empty, .string ByteArray.empty]) rfl ag41 hb18) (RVs.cons (RV.tm rfl) (RVs.cons (RV.tm rfl) RVs.nil))) ?_
    exact ⟨_, rfl, rfl, hM⟩
  · rw [if_neg (ne_true hc)] at hF
    refine KC.skip ?_
    refine KQ.thn hQ14 ?_
    clear hQ14 Q14
    refine KC.seqH fun Q19 hQ19 => ?_
    refine KC.seqH fun Q20 hQ20 => ?_
    refine KC.region ?_
    refine RL.val (O.move rfl) rfl ?_
    refine obindE hF fun xv23 hx22 hF => ?_
    have hA21 := Rd.atN (f := (eI .u8)) (s := 1) (fun _ => rfl) (by decide) (hM.inp hr4 Off.nil) hx22
    refine RL.val (O.idxA sl22 (hA21) rfl rfl) rfl ?_
    refine RL.val (O.load sc5 rfl (hA21).cells.at0) rfl ?_
    refine RL.val (O.quo rfl rfl (by decide)) rfl ?_
    refine RL.val (O.neq rfl rfl) rfl ?_
    refine RL.nil ?_
    refine KQ.thn hQ20 ?_
    clear hQ20 Q20
    refine KC.cond rfl (fun hc => ?_) (fun hc => ?_)
    · rw [if_pos hc] at hF
      refine KC.seqH fun Q24 hQ24 => ?_
      refine KC.region ?_
      refine RL.val (O.loadN (cs := [.int .u8 0, .int .u16 0, .int .u16 0, .bool false, .bool false, .int .u16 0, .int .u8 0, .int .u8 0, .string ByteArray.empty, .string ByteArray.empty, .string ByteArray.empty]) ag41 rfl (Cs.addsN [] ((hM.bx (i := 1) rfl)) rfl)) rfl ?_
      refine RL.effs (E.stB (j := 0) (off := 0) (vs := [.int .u8 0, .int .u16 0, .int .u16 0, .bool false, .bool false, .int .u16 0, .int .u8 0, .int .u8 0, .string ByteArray.empty, .string ByteArray.empty, .string ByteArray.empty]) (cs' := [.int .u8 0, .int .u16 0, .int .u16 0, .bool false, .bool false, .int .u16 0, .int .u8 0, .int .u8 0, .string ByteArray.empty, .string ByteArray.empty, .string ByteArray.empty]) hM rfl sz41 rfl (adds_eq [] rfl) rfl rfl (One.all rfl) rfl rfl) fun w25 hM1 => ?_
      clear hM
      have hM := hM1
      clear hM1
      refine RL.val (O.assign rfl) rfl ?_
      refine RL.val (O.assign rfl) rfl ?_
      refine RL.nil ?_
      refine KQ.thn hQ24 ?_
      clear hQ24 Q24
      refine KC.ret ?_
      refine KQ.thr hQ19 ?_
      clear hQ19 Q19
      have hE := Option.some.inj hF
      clear hF
      subst hE
      have hb26 := hM.bx (i := 0) rfl
      replace hM := hM.pick [] rfl (by decide)
      refine KQ.rets Try.results22 (RVs.cons (RV.cN (cs := [.int .u8 0, .int .u16 0, .int .u16 0, .bool false, .bool false, .int .u16 0, .int .u8 0, .int .u8 0, .string ByteArray.empty, .string ByteArray.empty, .string ByteArray.empty]) rfl ag41 hb26) (RVs.cons (RV.tm rfl) (RVs.cons (RV.tm rfl) RVs.nil))) ?_
      exact ⟨_, rfl, rfl, hM⟩
    · rw [if_neg (ne_true hc)] at hF
      refine KC.skip ?_
      refine KQ.thn hQ19 ?_
      clear hQ19 Q19
      refine KC.seqH fun Q27 hQ27 => ?_
      refine KC.region ?_
      refine RL.val (O.move rfl) rfl ?_
      refine obindE hF fun xv30 hx29 hF => ?_
      have hA28 := Rd.atN (f := (eI .u8)) (s := 1) (fun _ => rfl) (by decide) (hM.inp hr4 Off.nil) hx29
      refine RL.val (O.idxA sl22 (hA28) rfl rfl) rfl ?_
      refine RL.val (O.load sc5 rfl (hA28).cells.at0) rfl ?_
      refine RL.val (O.rem rfl rfl (by decide)) rfl ?_
      refine RL.val (O.conv un5 Try.underlying3 rfl) rfl ?_
      refine RL.val (O.mul rfl rfl) rfl ?_
      refine RL.val (O.assign rfl) rfl ?_
      refine RL.nil ?_
      refine KQ.thn hQ27 ?_
      clear hQ27 Q27
      refine KC.seqH fun Q31 hQ31 => ?_
      refine KC.seqH fun Q32 hQ32 => ?_
      refine KC.region ?_
      refine RL.val (O.move rfl) rfl ?_
      refine RL.val (O.lss rfl rfl) rfl ?_
      refine RL.nil ?_
      refine KQ.thn hQ32 ?_
      clear hQ32 Q32
      refine KC.cond rfl (fun hc => ?_) (fun hc => ?_)
      · rw [if_pos hc] at hF
        refine KC.seqH fun Q33 hQ33 => ?_
        refine KC.region ?_
        refine RL.val (O.loadN (cs := [.int .u8 0, .int .u16 0, .int .u16 0, .bool false, .bool false, .int .u16 0, .int .u8 0, .int .u8 0, .string ByteArray.empty, .string ByteArray.empty, .string ByteArray.empty]) ag41 rfl (Cs.addsN [] ((hM.bx (i := 1) rfl)) rfl)) rfl ?_
        refine RL.effs (E.stB (j := 0) (off := 0) (vs := [.int .u8 0, .int .u16 0, .int .u16 0, .bool false, .bool false, .int .u16 0, .int .u8 0, .int .u8 0, .string ByteArray.empty, .string ByteArray.empty, .string ByteArray.empty]) (cs' := [.int .u8 0, .int .u16 0, .int .u16 0, .bool false, .bool false, .int .u16 0, .int .u8 0, .int .u8 0, .string ByteArray.empty, .string ByteArray.empty, .string ByteArray.empty]) hM rfl sz41 rfl (adds_eq [] rfl) rfl rfl (One.all rfl) rfl rfl) fun w34 hM1 => ?_
        clear hM
        have hM := hM1
        clear hM1
        refine RL.val (O.assign rfl) rfl ?_
        refine RL.val (O.assign rfl) rfl ?_
        refine RL.nil ?_
        refine KQ.thn hQ33 ?_
        clear hQ33 Q33
        refine KC.ret ?_
        refine KQ.thr hQ31 ?_
        clear hQ31 Q31
        have hE := Option.some.inj hF
        clear hF
        subst hE
        have hb35 := hM.bx (i := 0) rfl
        replace hM := hM.pick [] rfl (by decide)
        refine KQ.rets Try.results22 (RVs.cons (RV.cN (cs := [.int .u8 0, .int .u16 0, .int .u16 0, .bool false, .bool false, .int .u16 0, .int .u8 0, .int .u8 0, .string ByteArray.empty, .string ByteArray.empty, .string ByteArray.empty]) rfl ag41 hb35) (RVs.cons (RV.tm rfl) (RVs.cons (RV.tm rfl) RVs.nil))) ?_
        exact ⟨_, rfl, rfl, hM⟩
      · rw [if_neg (ne_true hc)] at hF
        refine KC.skip ?_
        refine KQ.thn hQ31 ?_
        clear hQ31 Q31
        refine KC.seqH fun Q36 hQ36 => ?_
        refine KC.seqH fun Q37 hQ37 => ?_
        refine KC.region ?_
        refine RL.val (O.move rfl) rfl ?_
        refine RL.val (O.len sl22 rfl) rfl ?_
        refine RL.val (O.move rfl) rfl ?_
        refine RL.val (O.lss rfl rfl) rfl ?_
        refine RL.nil ?_
        refine KQ.thn hQ37 ?_
        clear hQ37 Q37
        refine KC.cond rfl (fun hc => ?_) (fun hc => ?_)
        · rw [if_pos hc] at hF
          refine KC.seqH fun Q38 hQ38 => ?_
          refine KC.region ?_
          refine RL.val (O.loadN (cs := [.int .u8 0, .int .u16 0, .int .u16 0, .bool false, .bool false, .int .u16 0, .int .u8 0, .int .u8 0, .string ByteArray.empty, .string ByteArray.empty, .string ByteArray.empty]) ag41 rfl (Cs.addsN [] ((hM.bx (i := 1) rfl)) rfl)) rfl ?_
          refine RL.effs (E.stB (j := 0) (off := 0) (vs := [.int .u8 0, .int .u16 0, .int .u16 0, .bool false, .bool false, .int .u16 0, .int .u8 0, .int .u8 0, .string ByteArray.empty, .string ByteArray.empty, .string ByteArray.empty]) (cs' := [.int .u8 0, .int .u16 0, .int .u16 0, .bool false, .bool false, .int .u16 0, .int .u8 0, .int .u8 0, .string ByteArray.empty, .string ByteArray.empty, .string ByteArray.empty]) hM rfl sz41 rfl (adds_eq [] rfl) rfl rfl (One.all rfl) rfl rfl) fun w39 hM1 => ?_
          clear hM
          have hM := hM1
          clear hM1
          refine RL.val (O.assign rfl) rfl ?_
          refine RL.val (O.assign rfl) rfl ?_
          refine RL.nil ?_
          refine KQ.thn hQ38 ?_
          clear hQ38 Q38
          refine KC.ret ?_
          refine KQ.thr hQ36 ?_
          clear hQ36 Q36
          have hE := Option.some.inj hF
          clear hF
          subst hE
          have hb40 := hM.bx (i := 0) rfl
          replace hM := hM.pick [] rfl (by decide)
          refine KQ.rets Try.results22 (RVs.cons (RV.cN (cs := [.int .u8 0, .int .u16 0, .int .u16 0, .bool false, .bool false, .int .u16 0, .int .u8 0, .int .u8 0, .string ByteArray.empty, .string ByteArray.empty, .string ByteArray.empty]) rfl ag41 hb40) (RVs.cons (RV.tm rfl) (RVs.cons (RV.tm rfl) RVs.nil))) ?_
          exact ⟨_, rfl, rfl, hM⟩
        · rw [if_neg (ne_true hc)] at hF
          refine KC.skip ?_
          refine KQ.thn hQ36 ?_
          clear hQ36 Q36
          refine KC.seqH fun Q41 hQ41 => ?_
          refine KC.region ?_
          refine RL.val (O.move rfl) rfl ?_
          refine obindE hF fun y42 hx43 hF => ?_
          refine RL.call Try.func43 bd43 rfl rfl (c_ref01_Get _ _ _ b1 (hM.inp hr4 Off.nil) 2 2 _ hx43) fun v w44 hv => ?_
          obtain ⟨rfl, hN45⟩ := hv
          replace hM := hM.call0 hN45
          refine RL.val (O.move rfl) rfl ?_
          refine RL.val (O.ext rfl rfl) rfl ?_
          refine RL.val (O.ext rfl rfl) rfl ?_
          refine RL.val (O.assign rfl) rfl ?_
          refine RL.val (O.assign rfl) rfl ?_
          refine RL.nil ?_
          refine KQ.thn hQ41 ?_
          clear hQ41 Q41
          refine KC.seqH fun Q46 hQ46 => ?_
          refine KC.region ?_
          refine RL.val (O.move rfl) rfl ?_
          refine obindE hF fun y47 hx48 hF => ?_
          refine RL.call Try.func43 bd43 rfl rfl (c_ref01_Get _ _ _ b1 (hM.inp hr4 Off.nil) 4 2 _ hx48) fun v w49 hv => ?_
          obtain ⟨rfl, hN50⟩ := hv
          replace hM := hM.call0 hN50
          refine RL.val (O.move rfl) rfl ?_
          refine RL.val (O.ext rfl rfl) rfl ?_
          refine RL.val (O.ext rfl rfl) rfl ?_
          refine RL.val (O.assign rfl) rfl ?_
          refine RL.val (O.assign rfl) rfl ?_
          refine RL.nil ?_
          refine KQ.thn hQ46 ?_
          clear hQ46 Q46
          refine KC.seqH fun Q51 hQ51 => ?_
          refine KC.region ?_
          refine RL.val (O.move rfl) rfl ?_
          refine obindE hF fun y52 hx53 hF => ?_
          refine RL.call Try.func43 bd43 rfl rfl (c_ref01_Get _ _ _ b1 (hM.inp hr4 Off.nil) 6 2 _ hx53) fun v w54 hv => ?_
          obtain ⟨rfl, hN55⟩ := hv
          replace hM := hM.call0 hN55
          refine RL.val (O.move rfl) rfl ?_
          refine RL.val (O.ext rfl rfl) rfl ?_
          refine RL.val (O.ext rfl rfl) rfl ?_
          refine RL.val (O.assign rfl) rfl ?_
          refine RL.val (O.assign rfl) rfl ?_
          refine RL.nil ?_
          refine KQ.thn hQ51 ?_
          clear hQ51 Q51
          refine KC.seqH fun Q56 hQ56 => ?_
          refine KC.cut (fun a w60 => ∃ (t59 : Bool), Kn 104 [(0, .slice A2 (b1).length c3), (2, .pointer (some ⟨g6, 0, none⟩)), (5, .pointer (some ⟨g10, 0, none⟩)), (6, .int .i64 (IntKind.i64.wrap ((IntKind.i64.wrap (Int.tmod xv30 16)) * 4))), (7, .int .u64 y42.1), (9, .int .u64 y47.1), (11, .int .u64 y52.1), (60, .bool t59)] a ∧ Mem w [] w60 [.box g6 41 [.int .u8 0, .int .u16 0, .int .u16 0, .bool false, .bool false, .int .u16 0, .int .u8 0, .int .u8 0, .string ByteArray.empty, .string ByteArray.empty, .string ByteArray.empty], .box g10 41 [.int .u8 0, .int .u16 0, .int .u16 0, .bool false, .bool false, .int .u16 0, .int .u8 0, .int .u8 0, .string ByteArray.empty, .string ByteArray.empty, .string ByteArray.empty]] ∧ F_ref05_Parse_j1 b1 xv30 y42 y47 y52 t59 = some r) ?_ ?_
          · refine KC.region ?_
            refine RL.val (O.move rfl) rfl ?_
            refine RL.val (O.geq rfl rfl) rfl ?_
            refine RL.val (O.move rfl) rfl ?_
            refine RL.bcase (t := 55) rfl (fun hc => ?_) (fun hc => ?_)
            · rw [if_pos hc] at hF
              refine RL.brun1 5 60 true (by kernel_rfl) ?_
              refine RL.nil ?_
              refine KQ.then_k ?_
              exact fun a ha => ⟨true, ha.less (less_cons rfl (less_cons rfl (less_cons rfl (less_cons rfl (less_cons rfl (less_cons rfl (less_cons rfl (less_cons rfl less_nil)))))))), hM, hF⟩
            · rw [if_neg (ne_true hc)] at hF
              refine RL.gval rfl rfl (O.move rfl) rfl ?_
              refine RL.gval rfl rfl (O.conv un70 Try.underlying3 rfl) rfl ?_
              refine RL.gval rfl rfl (O.move rfl) rfl ?_
              refine RL.gval rfl rfl (O.lss rfl rfl) rfl ?_
              refine RL.val (O.pickf rfl rfl) rfl ?_
              refine RL.nil ?_
              refine KQ.then_k ?_
              exact fun a ha => ⟨(decide ((IntKind.i64.wrap y42.1) < (IntKind.i64.wrap ((IntKind.i64.wrap (Int.tmod xv30 16)) * 4)))), ha.less (less_cons rfl (less_cons rfl (less_cons rfl (less_cons rfl (less_cons rfl (less_cons rfl (less_cons rfl (less_cons rfl less_nil)))))))), hM, hF⟩
          · rintro a w60 ⟨t59, ha, hM, hF⟩
            refine KC.app ha ?_
            clear ha
            unfold F_ref05_Parse_j1 at hF
            refine KC.cond rfl (fun hc => ?_) (fun hc => ?_)
            · rw [if_pos hc] at hF
              refine KC.seqH fun Q61 hQ61 => ?_
              refine KC.region ?_
              refine RL.val (O.loadN (cs := [.int .u8 0, .int .u16 0, .int .u16 0, .bool false, .bool false, .int .u16 0, .int .u8 0, .int .u8 0, .string ByteArray.empty, .string ByteArray.empty, .string ByteArray.empty]) ag41 rfl (Cs.addsN [] ((hM.bx (i := 1) rfl)) rfl)) rfl ?_
              refine RL.effs (E.stB (j := 0) (off := 0) (vs := [.int .u8 0, .int .u16 0, .int .u16 0, .bool false, .bool false, .int .u16 0, .int .u8 0, .int .u8 0, .string ByteArray.empty, .string ByteArray.empty, .string ByteArray.empty]) (cs' := [.int .u8 0, .int .u16 0, .int .u16 0, .bool false, .bool false, .int .u16 0, .int .u8 0, .int .u8 0, .string ByteArray.empty, .string ByteArray.empty, .string ByteArray.empty]) hM rfl sz41 rfl (adds_eq [] rfl) rfl rfl (One.all rfl) rfl rfl) fun w62 hM1 => ?_
              clear hM
              have hM := hM1
              clear hM1
              refine RL.val (O.assign rfl) rfl ?_
              refine RL.val (O.assign rfl) rfl ?_
              refine RL.nil ?_
              refine KQ.thn hQ61 ?_
              clear hQ61 Q61
              refine KC.ret ?_
              refine KQ.thr hQ56 ?_
              clear hQ56 Q56
              have hE := Option.some.inj hF
              clear hF
              subst hE
              have hb63 := hM.bx (i := 0) rfl
              replace hM := hM.pick [] rfl (by decide)
              refine KQ.rets Try.results22 (RVs.cons (RV.cN (cs := [.int .u8 0, .int .u16 0, .int .u16 0, .bool false, .bool false, .int .u16 0, .int .u8 0, .int .u8 0, .string ByteArray.empty, .string ByteArray.empty, .string ByteArray.empty]) rfl ag41 hb63) (RVs.cons (RV.tm rfl) (RVs.cons (RV.tm rfl) RVs.nil))) ?_
              exact ⟨_, rfl, rfl, hM⟩
            · rw [if_neg (ne_true hc)] at hF
              refine KC.skip ?_
              refine KQ.thn hQ56 ?_
              clear hQ56 Q56
              refine KC.seqH fun Q64 hQ64 => ?_
              refine KC.seqH fun Q65 hQ65 => ?_
              refine KC.region ?_
              refine RL.val (O.move rfl) rfl ?_
              refine RL.val (O.move rfl) rfl ?_
              refine obindE hF fun cut66 hy67 hF => ?_
              refine cutNE A2 c3 (Int.toNat 0) 1 fun A68 c69 eA71 ec72 => ?_
              have hr70 := Rd.cutT (enc := (eI .u8)) (s := 1) (fun _ => rfl) hr4 hy67 (m := c3) (by have := hr4.cap; have := (gcut_some hy67).2.2.1; omega) (Nat.le_refl _)
              rw [← eA71, ← ec72] at hr70
              refine RL.val (v := .slice A68 (cut66).length c69) (by rw [eA71, ec72]; exact O.cuthT sl22 (hM.inp hr4 Off.nil) hy67 rfl rfl) rfl ?_
              refine obindE hF fun y73 hx74 hF => ?_
              refine RL.call Try.func44 bd44 rfl rfl (c_ref03_Whole _ _ _ cut66 (hM.inp hr70 Off.nil) _ hx74) fun v w75 hv => ?_
              obtain ⟨rfl, hN76⟩ := hv
              replace hM := hM.call0 hN76
              refine RL.val (O.not rfl) rfl ?_
              refine RL.nil ?_
              refine KQ.thn hQ65 ?_
              clear hQ65 Q65
              refine KC.cond rfl (fun hc => ?_) (fun hc => ?_)
              · rw [if_pos hc] at hF
                refine KC.seqH fun Q77 hQ77 => ?_
                refine KC.region ?_
                refine RL.val (O.loadN (cs := [.int .u8 0, .int .u16 0, .int .u16 0, .bool false, .bool false, .int .u16 0, .int .u8 0, .int .u8 0, .string ByteArray.empty, .string ByteArray.empty, .string ByteArray.empty]) ag41 rfl (Cs.addsN [] ((hM.bx (i := 1) rfl)) rfl)) rfl ?_
                refine RL.effs (E.stB (j := 0) (off := 0) (vs := [.int .u8 0, .int .u16 0, .int .u16 0, .bool false, .bool false, .int .u16 0, .int .u8 0, .int .u8 0, .string ByteArray.empty, .string ByteArray.empty, .string ByteArray.empty]) (cs' := [.int .u8 0, .int .u16 0, .int .u16 0, .bool false, .bool false, .int .u16 0, .int .u8 0, .int .u8 0, .string ByteArray.empty, .string ByteArray.empty, .string ByteArray.empty]) hM rfl sz41 rfl (adds_eq [] rfl) rfl rfl (One.all rfl) rfl rfl) fun w78 hM1 => ?_
                clear hM
                have hM := hM1
                clear hM1
                refine RL.val (O.assign rfl) rfl ?_
                refine RL.val (O.assign rfl) rfl ?_
                refine RL.nil ?_
                refine KQ.thn hQ77 ?_
                clear hQ77 Q77
                refine KC.ret ?_
                refine KQ.thr hQ64 ?_
                clear hQ64 Q64
                have hE := Option.some.inj hF
                clear hF
                subst hE
                have hb79 := hM.bx (i := 0) rfl
                replace hM := hM.pick [] rfl (by decide)
                refine KQ.rets Try.results22 (RVs.cons (RV.cN (cs := [.int .u8 0, .int .u16 0, .int .u16 0, .bool false, .bool false, .int .u16 0, .int .u8 0, .int .u8 0, .string ByteArray.empty, .string ByteArray.empty, .string ByteArray.empty]) rfl ag41 hb79) (RVs.cons (RV.tm rfl) (RVs.cons (RV.tm rfl) RVs.nil))) ?_
                exact ⟨_, rfl, rfl, hM⟩
              · rw [if_neg (ne_true hc)] at hF
                refine KC.skip ?_
                refine KQ.thn hQ64 ?_
                clear hQ64 Q64
                refine KC.seqH fun Q80 hQ80 => ?_
                replace hM := hM.drewN 1
                refine KC.draw [] [36] [36] [0, 3, 4, 5, 6, 7, 8, 9, 10, 11, 12, 13, 14, 15, 16, 17, 18, 21, 24, 25, 27, 28, 30, 31, 32, 35, 37, 38] (.ofList [0, 1, 2, 3, 4, 5, 6, 7, 8, 9, 10, 11, 12, 13, 14, 15, 16, 17, 18, 19, 20, 21, 22, 23, 24, 25, 26, 27, 28, 29, 30, 31, 32, 33, 34, 35, 36, 37, 38]) moP (by kernel_rfl) ?_
                refine RD.p rfl rfl rfl rfl (fun w' => O.move rfl) ?_
                refine obindE hF fun xv83 hx82 hF => ?_
                have hA81 := Rd.atN (f := (eI .u8)) (s := 1) (fun _ => rfl) (by decide) (hM.inp hr4 Off.nil) hx82
                refine RD.q rfl rfl rfl rfl (fun w' hf => O.idxA sl22 (hA81.fut hf) rfl rfl) ?_
                refine RD.q rfl rfl rfl rfl (fun w' hf => O.load sc5 rfl (hA81.fut hf).cells.at0) ?_
                refine RD.p rfl rfl rfl rfl (fun w' => O.move rfl) ?_
                refine RD.p rfl rfl rfl rfl (fun w' => O.conv un70 Try.underlying36 rfl) ?_
                refine RD.p rfl rfl rfl rfl (fun w' => O.move rfl) ?_
                refine RD.p rfl rfl rfl rfl (fun w' => O.conv un70 Try.underlying36 rfl) ?_
                refine RD.p rfl rfl rfl rfl (fun w' => O.move rfl) ?_
                refine RD.p rfl rfl rfl rfl (fun w' => O.quo rfl rfl (by decide)) ?_
                refine RD.p rfl rfl rfl rfl (fun w' => O.rem rfl rfl (by decide)) ?_
                refine RD.p rfl rfl rfl rfl (fun w' => O.eql rfl rfl) ?_
                refine RD.p rfl rfl rfl rfl (fun w' => O.move rfl) ?_
                refine RD.p rfl rfl rfl rfl (fun w' => O.quo rfl rfl (by decide)) ?_
                refine RD.p rfl rfl rfl rfl (fun w' => O.rem rfl rfl (by decide)) ?_
                refine RD.p rfl rfl rfl rfl (fun w' => O.eql rfl rfl) ?_
                refine RD.p rfl rfl rfl rfl (fun w' => O.move rfl) ?_
                refine RD.p rfl rfl rfl rfl (fun w' => O.rem rfl rfl (by decide)) ?_
                refine RD.p rfl rfl rfl rfl (fun w' => O.conv un70 Try.underlying36 rfl) ?_
                refine RD.p rfl rfl rfl rfl (fun w' => O.move rfl) ?_
                refine obindE hF fun xv86 hx85 hF => ?_
                have hA84 := Rd.atN (f := (eI .u8)) (s := 1) (fun _ => rfl) (by decide) (hM.inp hr4 Off.nil) hx85
                refine RD.q rfl rfl rfl rfl (fun w' hf => O.idxA sl22 (hA84.fut hf) rfl rfl) ?_
                refine RD.q rfl rfl rfl rfl (fun w' hf => O.load sc5 rfl (hA84.fut hf).cells.at0) ?_
                refine RD.p rfl rfl rfl rfl (fun w' => O.move rfl) ?_
                refine obindE hF fun xv89 hx88 hF => ?_
                have hA87 := Rd.atN (f := (eI .u8)) (s := 1) (fun _ => rfl) (by decide) (hM.inp hr4 Off.nil) hx88
                refine RD.q rfl rfl rfl rfl (fun w' hf => O.idxA sl22 (hA87.fut hf) rfl rfl) ?_
                refine RD.q rfl rfl rfl rfl (fun w' hf => O.load sc5 rfl (hA87.fut hf).cells.at0) ?_
                refine RD.p rfl rfl rfl rfl (fun w' => O.move rfl) ?_
                refine obindE hF fun cut90 hy91 hF => ?_
                refine cutNE A2 c3 (Int.toNat 12) 1 fun A92 c93 eA95 ec96 => ?_
                have hr94 := Rd.cutT (enc := (eI .u8)) (s := 1) (fun _ => rfl) hr4 hy91 (m := c3) (by have := hr4.cap; have := (gcut_some hy91).2.2.1; omega) (Nat.le_refl _)
                rw [← eA95, ← ec96] at hr94
                refine RD.p (v := .slice A92 (cut90).length c93) rfl rfl rfl rfl (fun w' => (by rw [eA95, ec96]; exact O.cutT sl22 (hM.inp hr4 Off.nil) hy91 rfl rfl rfl)) ?_
                refine RD.q rfl rfl rfl rfl (fun w' hf => O.b2s sl22 Try.underlying5 Try.underlying9 rfl ((hM.inp hr94 Off.nil).fut hf)) ?_
                refine RD.p rfl rfl rfl rfl (fun w' => O.move rfl) ?_
                refine obindE hF fun cut97 hy98 hF => ?_
                refine cutNE A2 c3 (Int.toNat 16) 1 fun A99 c100 eA102 ec103 => ?_
                have hr101 := Rd.cutT (enc := (eI .u8)) (s := 1) (fun _ => rfl) hr4 hy98 (m := c3) (by have := hr4.cap; have := (gcut_some hy98).2.2.1; omega) (Nat.le_refl _)
                rw [← eA102, ← ec103] at hr101
                refine RD.p (v := .slice A99 (cut97).length c100) rfl rfl rfl rfl (fun w' => (by rw [eA102, ec103]; exact O.cutT sl22 (hM.inp hr4 Off.nil) hy98 rfl rfl rfl)) ?_
                refine RD.q rfl rfl rfl rfl (fun w' hf => O.b2s sl22 Try.underlying5 Try.underlying9 rfl ((hM.inp hr101 Off.nil).fut hf)) ?_
                refine RD.p rfl rfl rfl rfl (fun w' => O.move rfl) ?_
                refine RD.p rfl rfl rfl rfl (fun w' => O.move rfl) ?_
                refine obindE hF fun cut104 hy105 hF => ?_
                refine cutNE A2 c3 (Int.toNat 20) 1 fun A106 c107 eA109 ec110 => ?_
                have hr108 := Rd.cutT (enc := (eI .u8)) (s := 1) (fun _ => rfl) hr4 hy105 (m := c3) (by have := hr4.cap; have := (gcut_some hy105).2.2.1; omega) (Nat.le_refl _)
                rw [← eA109, ← ec110] at hr108
                refine RD.p (v := .slice A106 (cut104).length c107) rfl rfl rfl rfl (fun w' => (by rw [eA109, ec110]; exact O.cutT sl22 (hM.inp hr4 Off.nil) hy105 rfl rfl rfl)) ?_
                refine RD.q rfl rfl rfl rfl (fun w' hf => O.b2s sl22 Try.underlying5 Try.underlying9 rfl ((hM.inp hr108 Off.nil).fut hf)) ?_
                refine RD.q rfl rfl rfl rfl (fun w' hf => O.bld (cs := [.int .u8 xv83, .int .u16 (IntKind.u16.wrap y42.1), .int .u16 (IntKind.u16.wrap y47.1), .bool ((Int.tmod (IntKind.u64.wrap (Int.tdiv y52.1 16384)) 2) == 1), .bool ((Int.tmod (IntKind.u64.wrap (Int.tdiv y52.1 8192)) 2) == 1), .int .u16 (IntKind.u16.wrap (Int.tmod y52.1 8192)), .int .u8 xv86, .int .u8 xv89, .string (strOfNums cut90), .string (strOfNums cut97), .string (strOfNums cut104)]) bt41 rfl (by kernel_rfl)) ?_
                refine RD.p rfl rfl rfl rfl (fun w' => O.move rfl) ?_
                refine RD.meffs rfl rfl rfl (E.stB (j := 0) (off := 0) (vs := [.int .u8 xv83, .int .u16 (IntKind.u16.wrap y42.1), .int .u16 (IntKind.u16.wrap y47.1), .bool ((Int.tmod (IntKind.u64.wrap (Int.tdiv y52.1 16384)) 2) == 1), .bool ((Int.tmod (IntKind.u64.wrap (Int.tdiv y52.1 8192)) 2) == 1), .int .u16 (IntKind.u16.wrap (Int.tmod y52.1 8192)), .int .u8 xv86, .int .u8 xv89, .string (strOfNums cut90), .string (strOfNums cut97), .string (strOfNums cut104)]) (cs' := [.int .u8 xv83, .int .u16 (IntKind.u16.wrap y42.1), .int .u16 (IntKind.u16.wrap y47.1), .bool ((Int.tmod (IntKind.u64.wrap (Int.tdiv y52.1 16384)) 2) == 1), .bool ((Int.tmod (IntKind.u64.wrap (Int.tdiv y52.1 8192)) 2) == 1), .int .u16 (IntKind.u16.wrap (Int.tmod y52.1 8192)), .int .u8 xv86, .int .u8 xv89, .string (strOfNums cut90), .string (strOfNums cut97), .string (strOfNums cut104)]) hM rfl sz41 rfl (adds_eq [] rfl) rfl rfl (One.all rfl) rfl rfl) fun w111 hM1 => ?_
                clear hM
                have hM := hM1
                clear hM1
                refine RD.p rfl rfl rfl rfl (fun w' => O.assign rfl) ?_
                refine RD.p rfl rfl rfl rfl (fun w' => O.assign rfl) ?_
                refine RD.nil ?_
                refine KQ.thn hQ80 ?_
                clear hQ80 Q80
                refine KC.ret ?_
                have hE := Option.some.inj hF
                clear hF
                subst hE
                have hb112 := hM.bx (i := 0) rfl
                replace hM := hM.pick [] rfl (by decide)
                refine KQ.rets Try.results22 (RVs.cons (RV.cN (cs := [.int .u8 xv83, .int .u16 (IntKind.u16.wrap y42.1), .int .u16 (IntKind.u16.wrap y47.1), .bool ((Int.tmod (IntKind.u64.wrap (Int.tdiv y52.1 16384)) 2) == 1), .bool ((Int.tmod (IntKind.u64.wrap (Int.tdiv y52.1 8192)) 2) == 1), .int .u16 (IntKind.u16.wrap (Int.tmod y52.1 8192)), .int .u8 xv86, .int .u8 xv89, .string (strOfNums cut90), .string (strOfNums cut97), .string (strOfNums cut104)]) rfl ag41 hb112) (RVs.cons (RV.tm rfl) (RVs.cons (RV.tm rfl) RVs.nil))) ?_
                exact ⟨_, rfl, rfl, hM⟩
set_option maxRecDepth 100000 in
set_option maxHeartbeats 40000000 in
theorem c_ref05_Body (w : World) (A2 : Option Addr) (c3 : Nat) (b1 : List Int) (hr4 : Rd w A2 c3 1 b1.length (b1.flatMap (eI .u8))) (r : (List Int) × Int) (hF : F_ref05_Body b1 = some r) :
    CallsR Try.prog 23 [.slice A2 (b1).length c3] w (fun v w' => ∃ (A0 : Option Addr) (c0 : Nat), v = .tuple #[.slice A0 (r.1).length c0, .int .i64 r.2] ∧ (∀ w2, Rd w2 A2 c3 1 b1.length (b1.flatMap (eI .u8)) → Rd w2 A0 c0 1 r.1.length (r.1.flatMap (eI .u8))) ∧ Mem w [] w' []) := by
  refine calls_KC Try.func23 rfl Try.ntmps23 rfl ?_
  have hM := Mem.init w
  unfold F_ref05_Body at hF
  refine KC.seqH fun Q5 hQ5 => ?_
  refine KC.region ?_
  refine RL.val (O.assign rfl) rfl ?_
  refine RL.val (O.assign rfl) rfl ?_
  refine RL.nil ?_
  refine KQ.thn hQ5 ?_
  clear hQ5 Q5
  refine KC.seqH fun Q6 hQ6 => ?_
  refine KC.region ?_
  refine RL.val (O.move rfl) rfl ?_
  refine obindE hF fun y7 hx8 hF => ?_
  refine RL.call Try.func22 bd22 rfl rfl (c_ref05_Parse _ _ _ b1 (hM.inp hr4 Off.nil) _ hx8) fun v w9 hv => ?_
  obtain ⟨rfl, hN10⟩ := hv
  replace hM := hM.call0 hN10
  refine RL.val (O.move rfl) rfl ?_
  refine RL.val (O.ext rfl rfl) rfl ?_
  refine RL.val (O.ext rfl rfl) rfl ?_
  refine RL.val (O.ext rfl rfl) rfl ?_
  refine RL.eff (E.alloc hM ze41) rfl fun v w12 hv => ?_
  clear hM
  obtain ⟨g11, rfl, hM, hf⟩ := hv
  refine RL.effs (E.stB (j := 0) (off := 0) (vs := [.int .u8 y7.1.f_TOS, .int .u16 y7.1.f_Total, .int .u16 y7.1.f_ID, .bool y7.1.f_DF, .bool y7.1.f_MF, .int .u16 y7.1.f_Frag, .int .u8 y7.1.f_TTL, .int .u8 y7.1.f_Proto, .string y7.1.f_Src, .string y7.1.f_Dst, .string y7.1.f_Options]) (cs' := [.int .u8 y7.1.f_TOS, .int .u16 y7.1.f_Total, .int .u16 y7.1.f_ID, .bool y7.1.f_DF, .bool y7.1.f_MF, .int .u16 y7.1.f_Frag, .int .u8 y7.1.f_TTL, .int .u8 y7.1.f_Proto, .string y7.1.f_Src, .string y7.1.f_Dst, .string y7.1.f_Options]) hM rfl sz41 rfl (adds_eq [] rfl) rfl rfl (One.all rfl) rfl rfl) fun w14 hM1 => ?_
  clear hM
  have hM := hM1
  clear hM1
  refine RL.val (O.assign rfl) rfl ?_
  refine RL.val (O.assign rfl) rfl ?_
  refine RL.nil ?_
  refine KQ.thn hQ6 ?_
  clear hQ6 Q6
  refine KC.seqH fun Q15 hQ15 => ?_
  refine KC.seqH fun Q16 hQ16 => ?_
  refine KC.region ?_
  refine RL.val (O.move rfl) rfl ?_
  refine RL.val (O.neq rfl rfl) rfl ?_
  refine RL.nil ?_
  refine KQ.thn hQ16 ?_
  clear hQ16 Q16
  refine KC.cond rfl (fun hc => ?_) (fun hc => ?_)
  · rw [if_pos hc] at hF
    refine KC.seqH fun Q17 hQ17 => ?_
    refine KC.region ?_
    refine RL.val (O.move rfl) rfl ?_
    refine RL.val (O.assign rfl) rfl ?_
    refine RL.val (O.assign rfl) rfl ?_
    refine RL.nil ?_
    refine KQ.thn hQ17 ?_
    clear hQ17 Q17
    refine KC.ret ?_
    refine KQ.thr hQ15 ?_
    clear hQ15 Q15
    have hE := Option.some.inj hF
    clear hF
    subst hE
    replace hM := hM.pick [] rfl (by decide)
    refine KQ.rets Try.results23 (RVs.cons (RV.tm rfl) (RVs.cons (RV.tm rfl) RVs.nil)) ?_
    exact ⟨_, rfl, none, 0, rfl, (fun _ _ => Rd.nilr), hM⟩
  · rw [if_neg (ne_true hc)] at hF
    refine KC.skip ?_
    refine KQ.thn hQ15 ?_
    clear hQ15 Q15
    refine KC.seqH fun Q18 hQ18 => ?_
    refine KC.seqH fun Q19 hQ19 => ?_
    refine KC.region ?_
    refine RL.val (O.move rfl) rfl ?_
    refine RL.val (O.len sl22 rfl) rfl ?_
    refine RL.val (O.fldA fl41_1 (by decide) rfl) rfl ?_
    refine RL.val (O.load sc36 rfl (Cs.adds [1] ((hM.bx (i := 0) rfl)) rfl)) rfl ?_
    refine RL.val (O.conv un36 Try.underlying3 rfl) rfl ?_
    refine RL.val (O.lss rfl rfl) rfl ?_
    refine RL.nil ?_
    refine KQ.thn hQ19 ?_
    clear hQ19 Q19
    refine KC.cond rfl (fun hc => ?_) (fun hc => ?_)
    · rw [if_pos hc] at hF
      refine KC.seqH fun Q20 hQ20 => ?_
      refine KC.region ?_
      refine RL.val (O.assign rfl) rfl ?_
      refine RL.val (O.assign rfl) rfl ?_
      refine RL.nil ?_
      refine KQ.thn hQ20 ?_
      clear hQ20 Q20
      refine KC.ret ?_
      refine KQ.thr hQ18 ?_
      clear hQ18 Q18
      have hE := Option.some.inj hF
      clear hF
      subst hE
      replace hM := hM.pick [] rfl (by decide)
      refine KQ.rets Try.results23 (RVs.cons (RV.tm rfl) (RVs.cons (RV.tm rfl) RVs.nil)) ?_
      exact ⟨_, rfl, none, 0, rfl, (fun _ _ => Rd.nilr), hM⟩
    · rw [if_neg (ne_true hc)] at hF
      refine KC.skip ?_
      refine KQ.thn hQ18 ?_
      clear hQ18 Q18
      refine KC.seqH fun Q21 hQ21 => ?_
      refine KC.region ?_
      refine RL.val (O.move rfl) rfl ?_
      refine RL.val (O.move rfl) rfl ?_
      refine RL.val (O.fldA fl41_1 (by decide) rfl) rfl ?_
      refine RL.val (O.load sc36 rfl (Cs.adds [1] ((hM.bx (i := 0) rfl)) rfl)) rfl ?_
      refine obindE hF fun cut22 hy23 hF => ?_
      refine cutNE A2 c3 (Int.toNat y7.2.1) 1 fun A24 c25 eA27 ec28 => ?_
      have hr26 := Rd.cutT (enc := (eI .u8)) (s := 1) (fun _ => rfl) hr4 hy23 (m := c3) (by have := hr4.cap; have := (gcut_some hy23).2.2.1; omega) (Nat.le_refl _)
      rw [← eA27, ← ec28] at hr26
      refine RL.val (v := .slice A24 (cut22).length c25) (by rw [eA27, ec28]; exact O.cutT sl22 (hM.inp hr4 Off.nil) hy23 rfl rfl rfl) rfl ?_
      refine RL.val (O.assign rfl) rfl ?_
      refine RL.val (O.assign rfl) rfl ?_
      refine RL.nil ?_
      refine KQ.thn hQ21 ?_
      clear hQ21 Q21
      refine KC.ret ?_
      have hE := Option.some.inj hF
      clear hF
      subst hE
      have ha29 : ∀ w2, Rd w2 A2 c3 1 b1.length (b1.flatMap (eI .u8)) → Rd w2 A24 c25 1 cut22.length (cut22.flatMap (eI .u8)) := (fun w2 h0 => by (have g0 := Rd.cutT (enc := (eI .u8)) (s := 1) (fun _ => rfl) h0 hy23 (m := c3) (by have := h0.cap; have := (gcut_some hy23).2.2.1; omega) (Nat.le_refl _); rw [← eA27, ← ec28] at g0; exact g0))
      replace hM := hM.pick [] rfl (by decide)
      refine KQ.rets Try.results23 (RVs.cons (RV.tm rfl) (RVs.cons (RV.tm rfl) RVs.nil)) ?_
      exact ⟨_, rfl, A24, c25, rfl, ha29, hM⟩
set_option maxRecDepth 100000 in
set_option maxHeartbeats 40000000 in
theorem c_ref03_Change (w : World) (sum1 : Int) (fromv2 : Int) (tov3 : Int) (r : Int) (hF : F_ref03_Change sum1 fromv2 tov3 = some r) :
    CallsR Try.prog 46 [.int .u16 sum1, .int .u16 fromv2, .int .u16 tov3] w (fun v w' => v = .int .u16 r ∧ Mem w [] w' []) := by
  refine calls_KC Try.func46 rfl Try.ntmps46 rfl ?_
  have hM := Mem.init w
  unfold F_ref03_Change at hF
  refine KC.seqH fun Q4 hQ4 => ?_
  refine KC.region ?_
  refine RL.val (O.assign rfl) rfl ?_
  refine RL.nil ?_
  refine KQ.thn hQ4 ?_
  clear hQ4 Q4
  refine KC.seqH fun Q5 hQ5 => ?_
  refine KC.region ?_
  refine RL.val (O.move rfl) rfl ?_
  refine RL.val (O.conv un36 Try.underlying70 rfl) rfl ?_
  refine RL.val (O.sub rfl rfl) rfl ?_
  refine RL.val (O.add rfl rfl) rfl ?_
  refine RL.val (O.move rfl) rfl ?_
  refine RL.val (O.conv un36 Try.underlying70 rfl) rfl ?_
  refine RL.val (O.sub rfl rfl) rfl ?_
  refine RL.val (O.move rfl) rfl ?_
  refine RL.val (O.conv un36 Try.underlying70 rfl) rfl ?_
  refine RL.val (O.add rfl rfl) rfl ?_
  refine obindE hF fun y6 hx7 hF => ?_
  refine RL.call Try.func59 bd59 rfl rfl (c_ref03_Fold _ (IntKind.u64.wrap ((IntKind.u64.wrap ((IntKind.u64.wrap ((IntKind.u64.wrap (65535 - (IntKind.u64.wrap sum1))) + 65535)) - (IntKind.u64.wrap fromv2))) + (IntKind.u64.wrap tov3))) _ hx7) fun v w8 hv => ?_
  obtain ⟨rfl, hN9⟩ := hv
  replace hM := hM.call0 hN9
  refine RL.val (O.sub rfl rfl) rfl ?_
  refine RL.val (O.conv un70 Try.underlying36 rfl) rfl ?_
  refine RL.val (O.assign rfl) rfl ?_
  refine RL.nil ?_
  refine KQ.thn hQ5 ?_
  clear hQ5 Q5
  refine KC.ret ?_
  have hE := Option.some.inj hF
  clear hF
  subst hE
  refine KQ.rets Try.results46 (RVs.cons (RV.tm rfl) RVs.nil) ?_
  exact ⟨_, rfl, rfl, hM⟩
end Go.Proofs.Ytjfdfjmnajjjaaa
