/- Printed by a program of this claim: each call returns what the plain function of its name gives. -/
import Derived.Test.YtikjomacnbemhaaW8
set_option linter.unusedVariables false
namespace Go.Proofs.Ytikjomacnbemhaa
open Go Go.Ox Go.RowKit
set_option maxRecDepth 100000 in
set_option maxHeartbeats 40000000 in
theorem c_ref06_Parse (w : World) (A2 : Option Addr) (c3 : Nat) (b1 : List Int) (hr4 : Rd w A2 c3 1 b1.length (b1.flatMap (eI .u8))) (r : T_ref06_Header × Int) (hF : F_ref06_Parse b1 = some r) :
    CallsR Try.prog 31 [.slice A2 (b1).length c3] w (fun v w' => v = .tuple #[.agg #[.int .u8 r.1.f_Class, .int .u32 r.1.f_Flow, .int .u16 r.1.f_Length, .int .u8 r.1.f_Next, .int .u8 r.1.f_Hops, .string r.1.f_Src, .string r.1.f_Dst], .int .i64 r.2] ∧ Mem w [] w' []) := by
  refine calls_KC Try.func31 rfl Try.ntmps31 rfl ?_
  have hM := Mem.init w
  unfold F_ref06_Parse at hF
  refine KC.seq ?_
  refine KC.region ?_
  refine RL.eff (E.alloc hM ze56) rfl fun v w6 hv => ?_
  clear hM
  obtain ⟨g5, rfl, hM, hf⟩ := hv
  refine RL.val (O.assign rfl) rfl ?_
  refine RL.nil ?_
  refine KQ.then_n ?_
  refine KC.seq ?_
  refine KC.seq ?_
  refine KC.region ?_
  refine RL.val (O.move rfl) rfl ?_
  refine RL.val (O.len sl31 rfl) rfl ?_
  refine RL.val (O.lss rfl rfl) rfl ?_
  refine RL.nil ?_
  refine KQ.then_n ?_
  refine KC.cond rfl (fun hc => ?_) (fun hc => ?_)
  · rw [if_pos hc] at hF
    refine KC.seq ?_
    refine KC.region ?_
    refine RL.val (O.bld (cs := [.int .u8 0, .int .u32 0, .int .u16 0, .int .u8 0, .int .u8 0, .string ByteArray.empty, .string ByteArray.empty]) bt56 rfl (by kernel_rfl)) rfl ?_
    refine RL.effs (E.stB (j := 0) (off := 0) (vs := [.int .u8 0, .int .u32 0, .int .u16 0, .int .u8 0, .int .u8 0, .string ByteArray.empty, .string ByteArray.empty]) (cs' := [.int .u8 0, .int .u32 0, .int .u16 0, .int .u8 0, .int .u8 0, .string ByteArray.empty, .string ByteArray.empty]) hM rfl sz56 rfl (adds_eq [] rfl) rfl rfl (One.all rfl) rfl rfl) fun w8 hM1 => ?_
    clear hM
    have hM := hM1
    clear hM1
    refine RL.val (O.assign rfl) rfl ?_
    refine RL.nil ?_
    refine KQ.then_n ?_
    refine KC.ret ?_
    refine KQ.then_r ?_
    obtain rfl := Option.some.inj hF
    have hb9 := hM.bx (i := 0) rfl
    replace hM := hM.pick [] rfl (by decide)
    refine KQ.rets Try.results31 (RVs.cons (RV.cN (cs := [.int .u8 0, .int .u32 0, .int .u16 0, .int .u8 0, .int .u8 0, .string ByteArray.empty, .string ByteArray.empty]) rfl ag56 hb9) (RVs.cons (RV.tm rfl) RVs.nil)) ?_
    exact ⟨_, rfl, rfl, hM⟩
  · rw [if_neg (ne_true hc)] at hF
    refine KC.skip ?_
    refine KQ.then_n ?_
    refine KC.seq ?_
    refine KC.region ?_
    refine RL.val (O.move rfl) rfl ?_
    refine obindE hF fun y10 hx11 hF => ?_
    refine RL.call Try.func36 bd36 rfl rfl (c_ref01_Get _ _ _ b1 (hM.inp hr4 Off.nil) 0 4 _ hx11) fun v w12 hv => ?_
    obtain ⟨rfl, hN13⟩ := hv
    replace hM := hM.call0 hN13
    refine RL.val (O.move rfl) rfl ?_
    refine RL.val (O.ext rfl rfl) rfl ?_
    refine RL.val (O.ext rfl rfl) rfl ?_
    refine RL.val (O.assign rfl) rfl ?_
    refine RL.val (O.assign rfl) rfl ?_
    refine RL.nil ?_
    refine KQ.then_n ?_
    refine KC.seq ?_
    refine KC.seq ?_
    refine KC.region ?_
    refine RL.val (O.move rfl) rfl ?_
    refine RL.val (O.quo rfl rfl (by decide)) rfl ?_
    refine RL.val (O.neq rfl rfl) rfl ?_
    refine RL.nil ?_
    refine KQ.then_n ?_
    refine KC.cond rfl (fun hc => ?_) (fun hc => ?_)
    · rw [if_pos hc] at hF
      refine KC.seq ?_
      refine KC.region ?_
      refine RL.val (O.bld (cs := [.int .u8 0, .int .u32 0, .int .u16 0, .int .u8 0, .int .u8 0, .string ByteArray.empty, .string ByteArray.empty]) bt56 rfl (by kernel_rfl)) rfl ?_
      refine RL.effs (E.stB (j := 0) (off := 0) (vs := [.int .u8 0, .int .u32 0, .int .u16 0, .int .u8 0, .int .u8 0, .string ByteArray.empty, .string ByteArray.empty]) (cs' := [.int .u8 0, .int .u32 0, .int .u16 0, .int .u8 0, .int .u8 0, .string ByteArray.empty, .string ByteArray.empty]) hM rfl sz56 rfl (adds_eq [] rfl) rfl rfl (One.all rfl) rfl rfl) fun w14 hM1 => ?_
      clear hM
      have hM := hM1
      clear hM1
      refine RL.val (O.assign rfl) rfl ?_
      refine RL.nil ?_
      refine KQ.then_n ?_
      refine KC.ret ?_
      refine KQ.then_r ?_
      obtain rfl := Option.some.inj hF
      have hb15 := hM.bx (i := 0) rfl
      replace hM := hM.pick [] rfl (by decide)
      refine KQ.rets Try.results31 (RVs.cons (RV.cN (cs := [.int .u8 0, .int .u32 0, .int .u16 0, .int .u8 0, .int .u8 0, .string ByteArray.empty, .string ByteArray.empty]) rfl ag56 hb15) (RVs.cons (RV.tm rfl) RVs.nil)) ?_
      exact ⟨_, rfl, rfl, hM⟩
    · rw [if_neg (ne_true hc)] at hF
      refine KC.skip ?_
      refine KQ.then_n ?_
      refine KC.seq ?_
      refine KC.region ?_
      refine RL.val (O.move rfl) rfl ?_
      refine obindE hF fun y16 hx17 hF => ?_
      refine RL.call Try.func36 bd36 rfl rfl (c_ref01_Get _ _ _ b1 (hM.inp hr4 Off.nil) 4 2 _ hx17) fun v w18 hv => ?_
      obtain ⟨rfl, hN19⟩ := hv
      replace hM := hM.call0 hN19
      refine RL.val (O.move rfl) rfl ?_
      refine RL.val (O.ext rfl rfl) rfl ?_
      refine RL.val (O.ext rfl rfl) rfl ?_
      refine RL.val (O.assign rfl) rfl ?_
      refine RL.val (O.assign rfl) rfl ?_
      refine RL.nil ?_
      refine KQ.then_n ?_
      refine KC.seq ?_
      replace hM := hM.drewN 1
      refine KC.draw [] [22] [22] [0, 1, 2, 3, 4, 5, 6, 7, 8, 9, 12, 15, 16, 18, 19, 23] (.ofList [0, 1, 2, 3, 4, 5, 6, 7, 8, 9, 10, 11, 12, 13, 14, 15, 16, 17, 18, 19, 20, 21, 22, 23]) moP (by kernel_rfl) ?_
      refine RD.p rfl rfl rfl rfl (fun w' => O.move rfl) ?_
      refine RD.p rfl rfl rfl rfl (fun w' => O.quo rfl rfl (by decide)) ?_
      refine RD.p rfl rfl rfl rfl (fun w' => O.rem rfl rfl (by decide)) ?_
      refine RD.p rfl rfl rfl rfl (fun w' => O.conv un81 Try.underlying5 rfl) ?_
      refine RD.p rfl rfl rfl rfl (fun w' => O.move rfl) ?_
      refine RD.p rfl rfl rfl rfl (fun w' => O.rem rfl rfl (by decide)) ?_
      refine RD.p rfl rfl rfl rfl (fun w' => O.conv un81 Try.underlying37 rfl) ?_
      refine RD.p rfl rfl rfl rfl (fun w' => O.move rfl) ?_
      refine RD.p rfl rfl rfl rfl (fun w' => O.conv un81 Try.underlying36 rfl) ?_
      refine RD.p rfl rfl rfl rfl (fun w' => O.move rfl) ?_
      refine obindE hF fun xv22 hx21 hF => ?_
      have hA20 := Rd.atN (f := (eI .u8)) (s := 1) (fun _ => rfl) (by decide) (hM.inp hr4 Off.nil) hx21
      refine RD.q rfl rfl rfl rfl (fun w' hf => O.idxA sl31 (hA20.fut hf) rfl rfl) ?_
      refine RD.q rfl rfl rfl rfl (fun w' hf => O.load sc5 rfl (hA20.fut hf).cells.at0) ?_
      refine RD.p rfl rfl rfl rfl (fun w' => O.move rfl) ?_
      refine obindE hF fun xv25 hx24 hF => ?_
      have hA23 := Rd.atN (f := (eI .u8)) (s := 1) (fun _ => rfl) (by decide) (hM.inp hr4 Off.nil) hx24
      refine RD.q rfl rfl rfl rfl (fun w' hf => O.idxA sl31 (hA23.fut hf) rfl rfl) ?_
      refine RD.q rfl rfl rfl rfl (fun w' hf => O.load sc5 rfl (hA23.fut hf).cells.at0) ?_
      refine RD.p rfl rfl rfl rfl (fun w' => O.move rfl) ?_
      refine obindE hF fun cut26 hy27 hF => ?_
      obtain ⟨A28, c29, eA31, ec32⟩ := cutN A2 c3 (Int.toNat 8) 1
      have hr30 := Rd.cutT (enc := (eI .u8)) (s := 1) (fun _ => rfl) hr4 hy27 (m := c3) (by have := hr4.cap; have := (gcut_some hy27).2.2.1; omega) (Nat.le_refl _)
      rw [← eA31, ← ec32] at hr30
      refine RD.p (v := .slice A28 (cut26).length c29) rfl rfl rfl rfl (fun w' => (by rw [eA31, ec32]; exact O.cutT sl31 (hM.inp hr4 Off.nil) hy27 rfl rfl rfl)) ?_
      refine RD.q rfl rfl rfl rfl (fun w' hf => O.b2s sl31 Try.underlying5 Try.underlying9 rfl ((hM.inp hr30 Off.nil).fut hf)) ?_
      refine RD.p rfl rfl rfl rfl (fun w' => O.move rfl) ?_
      refine obindE hF fun cut33 hy34 hF => ?_
      obtain ⟨A35, c36, eA38, ec39⟩ := cutN A2 c3 (Int.toNat 24) 1
      have hr37 := Rd.cutT (enc := (eI .u8)) (s := 1) (fun _ => rfl) hr4 hy34 (m := c3) (by have := hr4.cap; have := (gcut_some hy34).2.2.1; omega) (Nat.le_refl _)
      rw [← eA38, ← ec39] at hr37
      refine RD.p (v := .slice A35 (cut33).length c36) rfl rfl rfl rfl (fun w' => (by rw [eA38, ec39]; exact O.cutT sl31 (hM.inp hr4 Off.nil) hy34 rfl rfl rfl)) ?_
      refine RD.q rfl rfl rfl rfl (fun w' hf => O.b2s sl31 Try.underlying5 Try.underlying9 rfl ((hM.inp hr37 Off.nil).fut hf)) ?_
      refine RD.q rfl rfl rfl rfl (fun w' hf => O.bld (cs := [.int .u8 (IntKind.u8.wrap (Int.tmod (IntKind.u64.wrap (Int.tdiv y10.1 1048576)) 256)), .int .u32 (IntKind.u32.wrap (Int.tmod y10.1 1048576)), .int .u16 (IntKind.u16.wrap y16.1), .int .u8 xv22, .int .u8 xv25, .string (strOfNums cut26), .string (strOfNums cut33)]) bt56 rfl (by kernel_rfl)) ?_
      refine RD.meffs rfl rfl rfl (E.stB (j := 0) (off := 0) (vs := [.int .u8 (IntKind.u8.wrap (Int.tmod (IntKind.u64.wrap (Int.tdiv y10.1 1048576)) 256)), .int .u32 (IntKind.u32.wrap (Int.tmod y10.1 1048576)), .int .u16 (IntKind.u16.wrap y16.1), .int .u8 xv22, .int .u8 xv25, .string (strOfNums cut26), .string (strOfNums cut33)]) (cs' := [.int .u8 (IntKind.u8.wrap (Int.tmod (IntKind.u64.wrap (Int.tdiv y10.1 1048576)) 256)), .int .u32 (IntKind.u32.wrap (Int.tmod y10.1 1048576)), .int .u16 (IntKind.u16.wrap y16.1), .int .u8 xv22, .int .u8 xv25, .string (strOfNums cut26), .string (strOfNums cut33)]) hM rfl sz56 rfl (adds_eq [] rfl) rfl rfl (One.all rfl) rfl rfl) fun w40 hM1 => ?_
      clear hM
      have hM := hM1
      clear hM1
      refine RD.p rfl rfl rfl rfl (fun w' => O.assign rfl) ?_
      refine RD.nil ?_
      refine KQ.then_n ?_
      refine KC.ret ?_
      obtain rfl := Option.some.inj hF
      have hb41 := hM.bx (i := 0) rfl
      replace hM := hM.pick [] rfl (by decide)
      refine KQ.rets Try.results31 (RVs.cons (RV.cN (cs := [.int .u8 (IntKind.u8.wrap (Int.tmod (IntKind.u64.wrap (Int.tdiv y10.1 1048576)) 256)), .int .u32 (IntKind.u32.wrap (Int.tmod y10.1 1048576)), .int .u16 (IntKind.u16.wrap y16.1), .int .u8 xv22, .int .u8 xv25, .string (strOfNums cut26), .string (strOfNums cut33)]) rfl ag56 hb41) (RVs.cons (RV.tm rfl) RVs.nil)) ?_
      exact ⟨_, rfl, rfl, hM⟩
set_option maxRecDepth 100000 in
set_option maxHeartbeats 40000000 in
theorem c_ref06_Body (w : World) (A2 : Option Addr) (c3 : Nat) (b1 : List Int) (hr4 : Rd w A2 c3 1 b1.length (b1.flatMap (eI .u8))) (r : T_ref06_Header × T_ref06_Chain × (List Int) × Int) (hF : F_ref06_Body b1 = some r) :
    CallsR Try.prog 24 [.slice A2 (b1).length c3] w (fun v w' => ∃ (A0 : Option Addr) (c0 : Nat) (A1 : Option Addr) (c1 : Nat), v = .tuple #[.agg #[.int .u8 r.1.f_Class, .int .u32 r.1.f_Flow, .int .u16 r.1.f_Length, .int .u8 r.1.f_Next, .int .u8 r.1.f_Hops, .string r.1.f_Src, .string r.1.f_Dst], .agg #[.slice A0 (r.2.1.f_Exts).length c0, .int .u8 r.2.1.f_Proto], .slice A1 (r.2.2.1).length c1, .int .i64 r.2.2.2] ∧ (∀ w2, Rd w2 A2 c3 1 b1.length (b1.flatMap (eI .u8)) → Rd w2 A1 c1 1 r.2.2.1.length (r.2.2.1.flatMap (eI .u8))) ∧ Mem w [] w' [.row A0 c0 76 2 r.2.1.f_Exts.length (r.2.1.f_Exts.flatMap e_ref06_Ext)]) := by
  refine calls_KC Try.func24 rfl Try.ntmps24 rfl ?_
  have hM := Mem.init w
  unfold F_ref06_Body at hF
  refine KC.seq ?_
  refine KC.region ?_
  refine RL.eff (E.alloc hM ze56) rfl fun v w6 hv => ?_
  clear hM
  obtain ⟨g5, rfl, hM, hf⟩ := hv
  refine RL.eff (E.alloc hM ze29) rfl fun v w9 hv => ?_
  clear hM
  obtain ⟨g8, rfl, hM, hf⟩ := hv
  refine RL.val (O.assign rfl) rfl ?_
  refine RL.val (O.assign rfl) rfl ?_
  refine RL.nil ?_
  refine KQ.then_n ?_
  refine KC.seq ?_
  refine KC.region ?_
  refine RL.val (O.move rfl) rfl ?_
  refine obindE hF fun y11 hx12 hF => ?_
  refine RL.call Try.func31 bd31 rfl rfl (c_ref06_Parse _ _ _ b1 (hM.inp hr4 Off.nil) _ hx12) fun v w13 hv => ?_
  obtain ⟨rfl, hN14⟩ := hv
  replace hM := hM.call0 hN14
  refine RL.val (O.move rfl) rfl ?_
  refine RL.val (O.ext rfl rfl) rfl ?_
  refine RL.val (O.ext rfl rfl) rfl ?_
  refine RL.eff (E.alloc hM ze56) rfl fun v w16 hv => ?_
  clear hM
  obtain ⟨g15, rfl, hM, hf⟩ := hv
  refine RL.effs (E.stB (j := 2) (off := 0) (vs := [.int .u8 y11.1.f_Class, .int .u32 y11.1.f_Flow, .int .u16 y11.1.f_Length, .int .u8 y11.1.f_Next, .int .u8 y11.1.f_Hops, .string y11.1.f_Src, .string y11.1.f_Dst]) (cs' := [.int .u8 y11.1.f_Class, .int .u32 y11.1.f_Flow, .int .u16 y11.1.f_Length, .int .u8 y11.1.f_Next, .int .u8 y11.1.f_Hops, .string y11.1.f_Src, .string y11.1.f_Dst]) hM rfl sz56 rfl (adds_eq [] rfl) rfl rfl (One.all rfl) rfl rfl) fun w18 hM1 => ?_
  clear hM
  have hM := hM1
  clear hM1
  refine RL.val (O.assign rfl) rfl ?_
  refine RL.nil ?_
  refine KQ.then_n ?_
  refine KC.seq ?_
  refine KC.seq ?_
  refine KC.region ?_
  refine RL.val (O.move rfl) rfl ?_
  refine RL.val (O.neq rfl rfl) rfl ?_
  refine RL.nil ?_
  refine KQ.then_n ?_
  refine KC.cond rfl (fun hc => ?_) (fun hc => ?_)
  · rw [if_pos hc] at hF
    refine KC.seq ?_
    refine KC.region ?_
    refine RL.val (O.bld (cs := [.int .u8 0, .int .u32 0, .int .u16 0, .int .u8 0, .int .u8 0, .string ByteArray.empty, .string ByteArray.empty]) bt56 rfl (by kernel_rfl)) rfl ?_
    refine RL.val (O.bld (cs := [.slice none 0 0, .int .u8 0]) bt29 rfl (by kernel_rfl)) rfl ?_
    refine RL.val (O.move rfl) rfl ?_
    refine RL.effs (E.stB (j := 0) (off := 0) (vs := [.int .u8 0, .int .u32 0, .int .u16 0, .int .u8 0, .int .u8 0, .string ByteArray.empty, .string ByteArray.empty]) (cs' := [.int .u8 0, .int .u32 0, .int .u16 0, .int .u8 0, .int .u8 0, .string ByteArray.empty, .string ByteArray.empty]) hM rfl sz56 rfl (adds_eq [] rfl) rfl rfl (One.all rfl) rfl rfl) fun w19 hM1 => ?_
    clear hM
    have hM := hM1
    clear hM1
    refine RL.effs (E.stB (j := 1) (off := 0) (vs := [.slice none 0 0, .int .u8 0]) (cs' := [.slice none 0 0, .int .u8 0]) hM rfl sz29 rfl (adds_eq [] rfl) rfl rfl (One.all rfl) rfl rfl) fun w20 hM1 => ?_
    clear hM
    have hM := hM1
    clear hM1
    refine RL.val (O.assign rfl) rfl ?_
    refine RL.val (O.assign rfl) rfl ?_
    refine RL.nil ?_
    refine KQ.then_n ?_
    refine KC.ret ?_
    refine KQ.then_r ?_
    obtain rfl := Option.some.inj hF
    have hb21 := hM.bx (i := 0) rfl
    have hb22 := hM.bx (i := 1) rfl
    replace hM := hM.nilrow 76 2
    replace hM := hM.pick [3] rfl (by decide)
    refine KQ.rets Try.results24 (RVs.cons (RV.cN (cs := [.int .u8 0, .int .u32 0, .int .u16 0, .int .u8 0, .int .u8 0, .string ByteArray.empty, .string ByteArray.empty]) rfl ag56 hb21) (RVs.cons (RV.cN (cs := [.slice none 0 0, .int .u8 0]) rfl ag29 hb22) (RVs.cons (RV.tm rfl) (RVs.cons (RV.tm rfl) RVs.nil)))) ?_
    exact ⟨_, rfl, none, 0, none, 0, rfl, (fun _ _ => Rd.nilr), hM⟩
  · rw [if_neg (ne_true hc)] at hF
    refine KC.skip ?_
    refine KQ.then_n ?_
    refine KC.seq ?_
    refine KC.seq ?_
    refine KC.region ?_
    refine RL.val (O.move rfl) rfl ?_
    refine RL.val (O.len sl31 rfl) rfl ?_
    refine RL.val (O.fldA fl56_2 (by decide) rfl) rfl ?_
    refine RL.val (O.load sc36 rfl (Cs.adds [2] ((hM.bx (i := 2) rfl)) rfl)) rfl ?_
    refine RL.val (O.conv un36 Try.underlying3 rfl) rfl ?_
    refine RL.val (O.add rfl rfl) rfl ?_
    refine RL.val (O.lss rfl rfl) rfl ?_
    refine RL.nil ?_
    refine KQ.then_n ?_
    refine KC.cond rfl (fun hc => ?_) (fun hc => ?_)
    · rw [if_pos hc] at hF
      refine KC.seq ?_
      refine KC.region ?_
      refine RL.val (O.bld (cs := [.int .u8 0, .int .u32 0, .int .u16 0, .int .u8 0, .int .u8 0, .string ByteArray.empty, .string ByteArray.empty]) bt56 rfl (by kernel_rfl)) rfl ?_
      refine RL.val (O.bld (cs := [.slice none 0 0, .int .u8 0]) bt29 rfl (by kernel_rfl)) rfl ?_
      refine RL.effs (E.stB (j := 0) (off := 0) (vs := [.int .u8 0, .int .u32 0, .int .u16 0, .int .u8 0, .int .u8 0, .string ByteArray.empty, .string ByteArray.empty]) (cs' := [.int .u8 0, .int .u32 0, .int .u16 0, .int .u8 0, .int .u8 0, .string ByteArray.empty, .string ByteArray.empty]) hM rfl sz56 rfl (adds_eq [] rfl) rfl rfl (One.all rfl) rfl rfl) fun w23 hM1 => ?_
      clear hM
      have hM := hM1
      clear hM1
      refine RL.effs (E.stB (j := 1) (off := 0) (vs := [.slice none 0 0, .int .u8 0]) (cs' := [.slice none 0 0, .int .u8 0]) hM rfl sz29 rfl (adds_eq [] rfl) rfl rfl (One.all rfl) rfl rfl) fun w24 hM1 => ?_
      clear hM
      have hM := hM1
      clear hM1
      refine RL.val (O.assign rfl) rfl ?_
      refine RL.val (O.assign rfl) rfl ?_
      refine RL.nil ?_
      refine KQ.then_n ?_
      refine KC.ret ?_
      refine KQ.then_r ?_
      obtain rfl := Option.some.inj hF
      have hb25 := hM.bx (i := 0) rfl
      have hb26 := hM.bx (i := 1) rfl
      replace hM := hM.nilrow 76 2
      replace hM := hM.pick [3] rfl (by decide)
      refine KQ.rets Try.results24 (RVs.cons (RV.cN (cs := [.int .u8 0, .int .u32 0, .int .u16 0, .int .u8 0, .int .u8 0, .string ByteArray.empty, .string ByteArray.empty]) rfl ag56 hb25) (RVs.cons (RV.cN (cs := [.slice none 0 0, .int .u8 0]) rfl ag29 hb26) (RVs.cons (RV.tm rfl) (RVs.cons (RV.tm rfl) RVs.nil)))) ?_
      exact ⟨_, rfl, none, 0, none, 0, rfl, (fun _ _ => Rd.nilr), hM⟩
    · rw [if_neg (ne_true hc)] at hF
      refine KC.skip ?_
      refine KQ.then_n ?_
      refine KC.seq ?_
      refine KC.region ?_
      refine RL.val (O.move rfl) rfl ?_
      refine RL.val (O.fldA fl56_2 (by decide) rfl) rfl ?_
      refine RL.val (O.load sc36 rfl (Cs.adds [2] ((hM.bx (i := 2) rfl)) rfl)) rfl ?_
      refine RL.val (O.conv un36 Try.underlying3 rfl) rfl ?_
      refine RL.val (O.add rfl rfl) rfl ?_
      refine obindE hF fun cut27 hy28 hF => ?_
      obtain ⟨A29, c30, eA32, ec33⟩ := cutN A2 c3 (Int.toNat 40) 1
      have hr31 := Rd.cutT (enc := (eI .u8)) (s := 1) (fun _ => rfl) hr4 hy28 (m := c3) (by have := hr4.cap; have := (gcut_some hy28).2.2.1; omega) (Nat.le_refl _)
      rw [← eA32, ← ec33] at hr31
      refine RL.val (v := .slice A29 (cut27).length c30) (by rw [eA32, ec33]; exact O.cutT sl31 (hM.inp hr4 Off.nil) hy28 rfl rfl rfl) rfl ?_
      refine RL.val (O.assign rfl) rfl ?_
      refine RL.nil ?_
      refine KQ.then_n ?_
      refine KC.seq ?_
      refine KC.region ?_
      refine RL.val (O.fldA fl56_3 (by decide) rfl) rfl ?_
      refine RL.val (O.load sc5 rfl (Cs.adds [3] ((hM.bx (i := 2) rfl)) rfl)) rfl ?_
      refine RL.val (O.move rfl) rfl ?_
      refine obindE hF fun y34 hx35 hF => ?_
      refine RL.call Try.func22 bd22 rfl rfl (c_ref06_ParseChain _ y11.1.f_Next _ _ cut27 (hM.inp hr31 Off.nil) _ hx35) fun v w36 hv => ?_
      obtain ⟨A38, c39, rfl, hN37⟩ := hv
      replace hM := hM.call hN37
      refine RL.val (O.move rfl) rfl ?_
      refine RL.val (O.ext rfl rfl) rfl ?_
      refine RL.val (O.ext rfl rfl) rfl ?_
      refine RL.val (O.ext rfl rfl) rfl ?_
      refine RL.eff (E.alloc hM ze29) rfl fun v w42 hv => ?_
      clear hM
      obtain ⟨g41, rfl, hM, hf⟩ := hv
      refine RL.effs (E.stB (j := 4) (off := 0) (vs := [.slice A38 (y34.1.f_Exts).length c39, .int .u8 y34.1.f_Proto]) (cs' := [.slice A38 (y34.1.f_Exts).length c39, .int .u8 y34.1.f_Proto]) hM rfl sz29 rfl (adds_eq [] rfl) rfl rfl (One.all rfl) rfl rfl) fun w44 hM1 => ?_
      clear hM
      have hM := hM1
      clear hM1
      refine RL.val (O.assign rfl) rfl ?_
      refine RL.val (O.assign rfl) rfl ?_
      refine RL.nil ?_
      refine KQ.then_n ?_
      refine KC.seq ?_
      refine KC.seq ?_
      refine KC.region ?_
      refine RL.val (O.move rfl) rfl ?_
      refine RL.val (O.neq rfl rfl) rfl ?_
      refine RL.nil ?_
      refine KQ.then_n ?_
      refine KC.cond rfl (fun hc => ?_) (fun hc => ?_)
      · rw [if_pos hc] at hF
        refine KC.seq ?_
        refine KC.region ?_
        refine RL.val (O.bld (cs := [.int .u8 0, .int .u32 0, .int .u16 0, .int .u8 0, .int .u8 0, .string ByteArray.empty, .string ByteArray.empty]) bt56 rfl (by kernel_rfl)) rfl ?_
        refine RL.val (O.bld (cs := [.slice none 0 0, .int .u8 0]) bt29 rfl (by kernel_rfl)) rfl ?_
        refine RL.val (O.move rfl) rfl ?_
        refine RL.effs (E.stB (j := 0) (off := 0) (vs := [.int .u8 0, .int .u32 0, .int .u16 0, .int .u8 0, .int .u8 0, .string ByteArray.empty, .string ByteArray.empty]) (cs' := [.int .u8 0, .int .u32 0, .int .u16 0, .int .u8 0, .int .u8 0, .string ByteArray.empty, .string ByteArray.empty]) hM rfl sz56 rfl (adds_eq [] rfl) rfl rfl (One.all rfl) rfl rfl) fun w45 hM1 => ?_
        clear hM
        have hM := hM1
        clear hM1
        refine RL.effs (E.stB (j := 1) (off := 0) (vs := [.slice none 0 0, .int .u8 0]) (cs' := [.slice none 0 0, .int .u8 0]) hM rfl sz29 rfl (adds_eq [] rfl) rfl rfl (One.all rfl) rfl rfl) fun w46 hM1 => ?_
        clear hM
        have hM := hM1
        clear hM1
        refine RL.val (O.assign rfl) rfl ?_
        refine RL.val (O.assign rfl) rfl ?_
        refine RL.nil ?_
        refine KQ.then_n ?_
        refine KC.ret ?_
        refine KQ.then_r ?_
        obtain rfl := Option.some.inj hF
        have hb47 := hM.bx (i := 0) rfl
        have hb48 := hM.bx (i := 1) rfl
        replace hM := hM.nilrow 76 2
        replace hM := hM.pick [5] rfl (by decide)
        refine KQ.rets Try.results24 (RVs.cons (RV.cN (cs := [.int .u8 0, .int .u32 0, .int .u16 0, .int .u8 0, .int .u8 0, .string ByteArray.empty, .string ByteArray.empty]) rfl ag56 hb47) (RVs.cons (RV.cN (cs := [.slice none 0 0, .int .u8 0]) rfl ag29 hb48) (RVs.cons (RV.tm rfl) (RVs.cons (RV.tm rfl) RVs.nil)))) ?_
        exact ⟨_, rfl, none, 0, none, 0, rfl, (fun _ _ => Rd.nilr), hM⟩
      · rw [if_neg (ne_true hc)] at hF
        refine KC.skip ?_
        refine KQ.then_n ?_
        refine KC.cut (fun a w67 => ∃ (A64 : Option Addr) (c65 : Nat) (t66 : List Int), Kn 54 [(2, .pointer (some ⟨g5, 0, none⟩)), (3, .pointer (some ⟨g8, 0, none⟩)), (4, .slice A64 (t66).length c65), (5, .int .i64 0)] a ∧ Mem w [] w67 [.box g5 56 [.int .u8 y11.1.f_Class, .int .u32 y11.1.f_Flow, .int .u16 y11.1.f_Length, .int .u8 y11.1.f_Next, .int .u8 y11.1.f_Hops, .string y11.1.f_Src, .string y11.1.f_Dst], .row A38 c39 76 2 (y34.1.f_Exts).length ((y34.1.f_Exts).flatMap e_ref06_Ext), .box g8 29 [.slice A38 (y34.1.f_Exts).length c39, .int .u8 y34.1.f_Proto]] ∧ (∀ w2, Rd w2 A2 c3 1 b1.length (b1.flatMap (eI .u8)) → Rd w2 A64 c65 1 t66.length (t66.flatMap (eI .u8))) ∧ F_ref06_Body_j1 y11 y34 t66 = some r) ?_ ?_
        · replace hM := hM.drewN 1
          refine KC.draw [] [5, 6] [1, 5, 6] [2, 3, 4, 7, 8] (.cons 0 (.cons 2 (.cons 3 (.cons 4 (.alt 1 (.ofList [5, 6, 7, 8]) 5 (.ofList [1, 6, 7, 8])))))) moP (by kernel_rfl) ?_
          refine RD.q rfl rfl rfl rfl (fun w' hf => O.loadN (cs := [.int .u8 y11.1.f_Class, .int .u32 y11.1.f_Flow, .int .u16 y11.1.f_Length, .int .u8 y11.1.f_Next, .int .u8 y11.1.f_Hops, .string y11.1.f_Src, .string y11.1.f_Dst]) ag56 rfl (Cs.addsN [] ((hM.bx (i := 2) rfl).fut hf) rfl)) ?_
          refine RD.p rfl rfl rfl rfl (fun w' => O.move rfl) ?_
          refine RD.p rfl rfl rfl rfl (fun w' => O.move rfl) ?_
          refine obindE hF fun cut49 hy50 hF => ?_
          obtain ⟨A51, c52, eA54, ec55⟩ := cutN A29 c30 (Int.toNat y34.2.1) 1
          have hr53 := Rd.cutT (enc := (eI .u8)) (s := 1) (fun _ => rfl) hr31 hy50 (m := c30) (by have := hr31.cap; have := (gcut_some hy50).2.2.1; omega) (Nat.le_refl _)
          rw [← eA54, ← ec55] at hr53
          refine RD.p (v := .slice A51 (cut49).length c52) rfl rfl rfl rfl (fun w' => (by rw [eA54, ec55]; exact O.cutlT sl31 (hM.inp hr31 Off.nil) hy50 rfl rfl)) ?_
          refine RD.alt ?_ ?_
          · refine RD.mq rfl rfl (O.loadN (cs := [.slice A38 (y34.1.f_Exts).length c39, .int .u8 y34.1.f_Proto]) ag29 rfl (Cs.addsN [] ((hM.bx (i := 4) rfl)) rfl)) rfl ?_
            refine RD.meffs rfl rfl rfl (E.stB (j := 0) (off := 0) (vs := [.int .u8 y11.1.f_Class, .int .u32 y11.1.f_Flow, .int .u16 y11.1.f_Length, .int .u8 y11.1.f_Next, .int .u8 y11.1.f_Hops, .string y11.1.f_Src, .string y11.1.f_Dst]) (cs' := [.int .u8 y11.1.f_Class, .int .u32 y11.1.f_Flow, .int .u16 y11.1.f_Length, .int .u8 y11.1.f_Next, .int .u8 y11.1.f_Hops, .string y11.1.f_Src, .string y11.1.f_Dst]) hM rfl sz56 rfl (adds_eq [] rfl) rfl rfl (One.all rfl) rfl rfl) fun w56 hM1 => ?_
            clear hM
            have hM := hM1
            clear hM1
            refine RD.meffs rfl rfl rfl (E.stB (j := 1) (off := 0) (vs := [.slice A38 (y34.1.f_Exts).length c39, .int .u8 y34.1.f_Proto]) (cs' := [.slice A38 (y34.1.f_Exts).length c39, .int .u8 y34.1.f_Proto]) hM rfl sz29 rfl (adds_eq [] rfl) rfl rfl (One.all rfl) rfl rfl) fun w57 hM1 => ?_
            clear hM
            have hM := hM1
            clear hM1
            refine RD.p rfl rfl rfl rfl (fun w' => O.assign rfl) ?_
            refine RD.p rfl rfl rfl rfl (fun w' => O.assign rfl) ?_
            refine RD.nil ?_
            refine KQ.then_k ?_
            replace hM := hM.pick [0, 3, 1] rfl (by decide)
            exact fun a ha => ⟨A51, c52, cut49, ha.less (less_cons rfl (less_cons rfl (less_cons rfl (less_cons rfl less_nil)))), hM, (fun w2 h0 => by (have g0 := Rd.cutT (enc := (eI .u8)) (s := 1) (fun _ => rfl) h0 hy28 (m := c3) (by have := h0.cap; have := (gcut_some hy28).2.2.1; omega) (Nat.le_refl _); rw [← eA32, ← ec33] at g0; have g1 := Rd.cutT (enc := (eI .u8)) (s := 1) (fun _ => rfl) g0 hy50 (m := c30) (by have := g0.cap; have := (gcut_some hy50).2.2.1; omega) (Nat.le_refl _); rw [← eA54, ← ec55] at g1; exact g1)), hF⟩
          · refine RD.meffs rfl rfl rfl (E.stB (j := 0) (off := 0) (vs := [.int .u8 y11.1.f_Class, .int .u32 y11.1.f_Flow, .int .u16 y11.1.f_Length, .int .u8 y11.1.f_Next, .int .u8 y11.1.f_Hops, .string y11.1.f_Src, .string y11.1.f_Dst]) (cs' := [.int .u8 y11.1.f_Class, .int .u32 y11.1.f_Flow, .int .u16 y11.1.f_Length, .int .u8 y11.1.f_Next, .int .u8 y11.1.f_Hops, .string y11.1.f_Src, .string y11.1.f_Dst]) hM rfl sz56 rfl (adds_eq [] rfl) rfl rfl (One.all rfl) rfl rfl) fun w58 hM1 => ?_
            clear hM
            have hM := hM1
            clear hM1
            refine RD.mq rfl rfl (O.loadN (cs := [.slice A38 (y34.1.f_Exts).length c39, .int .u8 y34.1.f_Proto]) ag29 rfl (Cs.addsN [] ((hM.bx (i := 4) rfl)) rfl)) rfl ?_
            refine RD.meffs rfl rfl rfl (E.stB (j := 1) (off := 0) (vs := [.slice A38 (y34.1.f_Exts).length c39, .int .u8 y34.1.f_Proto]) (cs' := [.slice A38 (y34.1.f_Exts).length c39, .int .u8 y34.1.f_Proto]) hM rfl sz29 rfl (adds_eq [] rfl) rfl rfl (One.all rfl) rfl rfl) fun w59 hM1 => ?_
            clear hM
            have hM := hM1
            clear hM1
            refine RD.p rfl rfl rfl rfl (fun w' => O.assign rfl) ?_
            refine RD.p rfl rfl rfl rfl (fun w' => O.assign rfl) ?_
            refine RD.nil ?_
            refine KQ.then_k ?_
            replace hM := hM.pick [0, 3, 1] rfl (by decide)
            exact fun a ha => ⟨A51, c52, cut49, ha.less (less_cons rfl (less_cons rfl (less_cons rfl (less_cons rfl less_nil)))), hM, (fun w2 h0 => by (have g0 := Rd.cutT (enc := (eI .u8)) (s := 1) (fun _ => rfl) h0 hy28 (m := c3) (by have := h0.cap; have := (gcut_some hy28).2.2.1; omega) (Nat.le_refl _); rw [← eA32, ← ec33] at g0; have g1 := Rd.cutT (enc := (eI .u8)) (s := 1) (fun _ => rfl) g0 hy50 (m := c30) (by have := g0.cap; have := (gcut_some hy50).2.2.1; omega) (Nat.le_refl _); rw [← eA54, ← ec55] at g1; exact g1)), hF⟩
        · rintro a w67 ⟨A64, c65, t66, ha, hM, hr63, hF⟩
          refine KC.app ha ?_
          clear ha
          unfold F_ref06_Body_j1 at hF
          refine KC.ret ?_
          obtain rfl := Option.some.inj hF
          have hb68 := hM.bx (i := 0) rfl
          have hb69 := hM.bx (i := 2) rfl
          have ha70 : ∀ w2, Rd w2 A2 c3 1 b1.length (b1.flatMap (eI .u8)) → Rd w2 A64 c65 1 t66.length (t66.flatMap (eI .u8)) := (fun w2 h0 => by (have g0 := hr63 _ h0; exact g0))
          replace hM := hM.pick [1] rfl (by decide)
          refine KQ.rets Try.results24 (RVs.cons (RV.cN (cs := [.int .u8 y11.1.f_Class, .int .u32 y11.1.f_Flow, .int .u16 y11.1.f_Length, .int .u8 y11.1.f_Next, .int .u8 y11.1.f_Hops, .string y11.1.f_Src, .string y11.1.f_Dst]) rfl ag56 hb68) (RVs.cons (RV.cN (cs := [.slice A38 (y34.1.f_Exts).length c39, .int .u8 y34.1.f_Proto]) rfl ag29 hb69) (RVs.cons (RV.tm rfl) (RVs.cons (RV.tm rfl) RVs.nil)))) ?_
          exact ⟨_, rfl, A38, c39, A64, c65, rfl, ha70, hM⟩
set_option maxRecDepth 100000 in
set_option maxHeartbeats 40000000 in
theorem c_docs_Ipsix (w : World) (h1 : T_ipsix_Header) (r : T_ref06_Header) (hF : F_docs_Ipsix h1 = some r) :
    CallsR Try.prog 25 [.agg #[.int .u8 h1.f_Class, .int .u32 h1.f_Flow, .int .u16 h1.f_Length, .int .u8 h1.f_Next, .int .u8 h1.f_Hops, .int .u8 (List.getD h1.f_Src 0 0), .int .u8 (List.getD h1.f_Src 1 0), .int .u8 (List.getD h1.f_Src 2 0), .int .u8 (List.getD h1.f_Src 3 0), .int .u8 (List.getD h1.f_Src 4 0), .int .u8 (List.getD h1.f_Src 5 0), .int .u8 (List.getD h1.f_Src 6 0), .int .u8 (List.getD h1.f_Src 7 0), .int .u8 (List.getD h1.f_Src 8 0), .int .u8 (List.getD h1.f_Src 9 0), .int .u8 (List.getD h1.f_Src 10 0), .int .u8 (List.getD h1.f_Src 11 0), .int .u8 (List.getD h1.f_Src 12 0), .int .u8 (List.getD h1.f_Src 13 0), .int .u8 (List.getD h1.f_Src 14 0), .int .u8 (List.getD h1.f_Src 15 0), .int .u8 (List.getD h1.f_Dst 0 0), .int .u8 (List.getD h1.f_Dst 1 0), .int .u8 (List.getD h1.f_Dst 2 0), .int .u8 (List.getD h1.f_Dst 3 0), .int .u8 (List.getD h1.f_Dst 4 0), .int .u8 (List.getD h1.f_Dst 5 0), .int .u8 (List.getD h1.f_Dst 6 0), .int .u8 (List.getD h1.f_Dst 7 0), .int .u8 (List.getD h1.f_Dst 8 0), .int .u8 (List.getD h1.f_Dst 9 0), .int .u8 (List.getD h1.f_Dst 10 0), .int .u8 (List.getD h1.f_Dst 11 0), .int .u8 (List.getD h1.f_Dst 12 0), .int .u8 (List.getD h1.f_Dst 13 0), .int .u8 (List.getD h1.f_Dst 14 0), .int .u8 (List.getD h1.f_Dst 15 0)]] w (fun v w' => v = .agg #[.int .u8 r.f_Class, .int .u32 r.f_Flow, .int .u16 r.f_Length, .int .u8 r.f_Next, .int .u8 r.f_Hops, .string r.f_Src, .string r.f_Dst] ∧ Mem w [] w' []) := by
  refine calls_KC Try.func25 rfl Try.ntmps25 rfl ?_
  have hM := Mem.init w
  unfold F_docs_Ipsix at hF
  refine KC.seq ?_
  refine KC.region ?_
  refine RL.eff (E.box (vs := [.int .u8 h1.f_Class, .int .u32 h1.f_Flow, .int .u16 h1.f_Length, .int .u8 h1.f_Next, .int .u8 h1.f_Hops, .int .u8 (List.getD h1.f_Src 0 0), .int .u8 (List.getD h1.f_Src 1 0), .int .u8 (List.getD h1.f_Src 2 0), .int .u8 (List.getD h1.f_Src 3 0), .int .u8 (List.getD h1.f_Src 4 0), .int .u8 (List.getD h1.f_Src 5 0), .int .u8 (List.getD h1.f_Src 6 0), .int .u8 (List.getD h1.f_Src 7 0), .int .u8 (List.getD h1.f_Src 8 0), .int .u8 (List.getD h1.f_Src 9 0), .int .u8 (List.getD h1.f_Src 10 0), .int .u8 (List.getD h1.f_Src 11 0), .int .u8 (List.getD h1.f_Src 12 0), .int .u8 (List.getD h1.f_Src 13 0), .int .u8 (List.getD h1.f_Src 14 0), .int .u8 (List.getD h1.f_Src 15 0), .int .u8 (List.getD h1.f_Dst 0 0), .int .u8 (List.getD h1.f_Dst 1 0), .int .u8 (List.getD h1.f_Dst 2 0), .int .u8 (List.getD h1.f_Dst 3 0), .int .u8 (List.getD h1.f_Dst 4 0), .int .u8 (List.getD h1.f_Dst 5 0), .int .u8 (List.getD h1.f_Dst 6 0), .int .u8 (List.getD h1.f_Dst 7 0), .int .u8 (List.getD h1.f_Dst 8 0), .int .u8 (List.getD h1.f_Dst 9 0), .int .u8 (List.getD h1.f_Dst 10 0), .int .u8 (List.getD h1.f_Dst 11 0), .int .u8 (List.getD h1.f_Dst 12 0), .int .u8 (List.getD h1.f_Dst 13 0), .int .u8 (List.getD h1.f_Dst 14 0), .int .u8 (List.getD h1.f_Dst 15 0)]) hM rfl rfl) rfl fun v w3 hv => ?_
  clear hM
  obtain ⟨g2, rfl, hM, hf⟩ := hv
  refine RL.eff (E.alloc hM ze56) rfl fun v w6 hv => ?_
  clear hM
  obtain ⟨g5, rfl, hM, hf⟩ := hv
  refine RL.nil ?_
  refine KQ.then_n ?_
  refine KC.seq ?_
  replace hM := hM.drewN 1
  refine KC.draw [] [17] [17] [0, 2, 4, 6, 8, 10, 11, 13, 14] (.ofList [0, 1, 2, 3, 4, 5, 6, 7, 8, 9, 10, 11, 12, 13, 14, 15, 16, 17]) moP (by kernel_rfl) ?_
  refine RD.p rfl rfl rfl rfl (fun w' => O.fldA fl52_0 (by decide) rfl) ?_
  refine RD.q rfl rfl rfl rfl (fun w' hf => O.load sc5 rfl (Cs.adds [0] ((hM.bx (i := 0) rfl).fut hf) rfl)) ?_
  refine RD.p rfl rfl rfl rfl (fun w' => O.fldA fl52_1 (by decide) rfl) ?_
  refine RD.q rfl rfl rfl rfl (fun w' hf => O.load sc37 rfl (Cs.adds [1] ((hM.bx (i := 0) rfl).fut hf) rfl)) ?_
  refine RD.p rfl rfl rfl rfl (fun w' => O.fldA fl52_2 (by decide) rfl) ?_
  refine RD.q rfl rfl rfl rfl (fun w' hf => O.load sc36 rfl (Cs.adds [2] ((hM.bx (i := 0) rfl).fut hf) rfl)) ?_
  refine RD.p rfl rfl rfl rfl (fun w' => O.fldA fl52_3 (by decide) rfl) ?_
  refine RD.q rfl rfl rfl rfl (fun w' hf => O.load sc5 rfl (Cs.adds [3] ((hM.bx (i := 0) rfl).fut hf) rfl)) ?_
  refine RD.p rfl rfl rfl rfl (fun w' => O.fldA fl52_4 (by decide) rfl) ?_
  refine RD.q rfl rfl rfl rfl (fun w' hf => O.load sc5 rfl (Cs.adds [4] ((hM.bx (i := 0) rfl).fut hf) rfl)) ?_
  refine RD.p rfl rfl rfl rfl (fun w' => O.fldA fl52_5 (by decide) rfl) ?_
  have hr8 := Rd.arr (n := 16) (k := .u8) (xs := h1.f_Src) (Cs.addsN [5] (hM.bx (i := 0) rfl) rfl) rfl rfl
  refine RD.p rfl rfl rfl rfl (fun w' => O.slArr (xs := h1.f_Src) Try.underlying50 sz5 rfl rfl) ?_
  refine RD.q rfl rfl rfl rfl (fun w' hf => O.b2s sl31 Try.underlying5 Try.underlying9 rfl (hr8.fut hf)) ?_
  refine RD.p rfl rfl rfl rfl (fun w' => O.fldA fl52_6 (by decide) rfl) ?_
  have hr9 := Rd.arr (n := 16) (k := .u8) (xs := h1.f_Dst) (Cs.addsN [21] (hM.bx (i := 0) rfl) rfl) rfl rfl
  refine RD.p rfl rfl rfl rfl (fun w' => O.slArr (xs := h1.f_Dst) Try.underlying50 sz5 rfl rfl) ?_
  refine RD.q rfl rfl rfl rfl (fun w' hf => O.b2s sl31 Try.underlying5 Try.underlying9 rfl (hr9.fut hf)) ?_
  refine RD.q rfl rfl rfl rfl (fun w' hf => O.bld (cs := [.int .u8 h1.f_Class, .int .u32 h1.f_Flow, .int .u16 h1.f_Length, .int .u8 h1.f_Next, .int .u8 h1.f_Hops, .string (strOfNums (arrL 16 h1.f_Src)), .string (strOfNums (arrL 16 h1.f_Dst))]) bt56 rfl (by kernel_rfl)) ?_
  refine RD.meffs rfl rfl rfl (E.stB (j := 1) (off := 0) (vs := [.int .u8 h1.f_Class, .int .u32 h1.f_Flow, .int .u16 h1.f_Length, .int .u8 h1.f_Next, .int .u8 h1.f_Hops, .string (strOfNums (arrL 16 h1.f_Src)), .string (strOfNums (arrL 16 h1.f_Dst))]) (cs' := [.int .u8 h1.f_Class, .int .u32 h1.f_Flow, .int .u16 h1.f_Length, .int .u8 h1.f_Next, .int .u8 h1.f_Hops, .string (strOfNums (arrL 16 h1.f_Src)), .string (strOfNums (arrL 16 h1.f_Dst))]) hM rfl sz56 rfl (adds_eq [] rfl) rfl rfl (One.all rfl) rfl rfl) fun w10 hM1 => ?_
  clear hM
  have hM := hM1
  clear hM1
  have hr8 := Rd.arr (n := 16) (k := .u8) (xs := h1.f_Src) (Cs.addsN [5] (hM.bx (i := 0) rfl) rfl) rfl rfl
  have hr9 := Rd.arr (n := 16) (k := .u8) (xs := h1.f_Dst) (Cs.addsN [21] (hM.bx (i := 0) rfl) rfl) rfl rfl
  refine RD.nil ?_
  refine KQ.then_n ?_
  refine KC.ret ?_
  obtain rfl := Option.some.inj hF
  have hb11 := hM.bx (i := 1) rfl
  replace hM := hM.pick [] rfl (by decide)
  refine KQ.rets Try.results25 (RVs.cons (RV.cN (cs := [.int .u8 h1.f_Class, .int .u32 h1.f_Flow, .int .u16 h1.f_Length, .int .u8 h1.f_Next, .int .u8 h1.f_Hops, .string (strOfNums (arrL 16 h1.f_Src)), .string (strOfNums (arrL 16 h1.f_Dst))]) rfl ag56 hb11) RVs.nil) ?_
  exact ⟨_, rfl, rfl, hM⟩
set_option maxRecDepth 100000 in
set_option maxHeartbeats 40000000 in
theorem c_docs_NoIpsix (w : World) (h1 : T_ref06_Header) (r : T_ref06_Header) (hF : F_docs_NoIpsix h1 = some r) :
    CallsR Try.prog 26 [.agg #[.int .u8 h1.f_Class, .int .u32 h1.f_Flow, .int .u16 h1.f_Length, .int .u8 h1.f_Next, .int .u8 h1.f_Hops, .string h1.f_Src, .string h1.f_Dst]] w (fun v w' => v = .agg #[.int .u8 r.f_Class, .int .u32 r.f_Flow, .int .u16 r.f_Length, .int .u8 r.f_Next, .int .u8 r.f_Hops, .string r.f_Src, .string r.f_Dst] ∧ Mem w [] w' []) := by
  refine calls_KC Try.func26 rfl Try.ntmps26 rfl ?_
  have hM := Mem.init w
  unfold F_docs_NoIpsix at hF
  refine KC.seq ?_
  refine KC.region ?_
  refine RL.eff (E.box (vs := [.int .u8 h1.f_Class, .int .u32 h1.f_Flow, .int .u16 h1.f_Length, .int .u8 h1.f_Next, .int .u8 h1.f_Hops, .string h1.f_Src, .string h1.f_Dst]) hM rfl rfl) rfl fun v w3 hv => ?_
  clear hM
  obtain ⟨g2, rfl, hM, hf⟩ := hv
  refine RL.eff (E.alloc hM ze56) rfl fun v w6 hv => ?_
  clear hM
  obtain ⟨g5, rfl, hM, hf⟩ := hv
  refine RL.nil ?_
  refine KQ.then_n ?_
  refine KC.seq ?_
  refine KC.seq ?_
  refine KC.region ?_
  refine RL.val (O.fldA fl56_5 (by decide) rfl) rfl ?_
  refine RL.val (O.load sc9 rfl (Cs.adds [5] ((hM.bx (i := 0) rfl)) rfl)) rfl ?_
  refine RL.val (O.streq rfl rfl) rfl ?_
  refine RL.nil ?_
  refine KQ.then_n ?_
  refine KC.cond rfl (fun hc => ?_) (fun hc => ?_)
  · rw [if_pos hc] at hF
    refine KC.seq ?_
    refine KC.region ?_
    refine RL.val (O.bld (cs := [.int .u8 0, .int .u32 0, .int .u16 0, .int .u8 0, .int .u8 0, .int .u8 (List.getD (List.replicate 16 0) 0 0), .int .u8 (List.getD (List.replicate 16 0) 1 0), .int .u8 (List.getD (List.replicate 16 0) 2 0), .int .u8 (List.getD (List.replicate 16 0) 3 0), .int .u8 (List.getD (List.replicate 16 0) 4 0), .int .u8 (List.getD (List.replicate 16 0) 5 0), .int .u8 (List.getD (List.replicate 16 0) 6 0), .int .u8 (List.getD (List.replicate 16 0) 7 0), .int .u8 (List.getD (List.replicate 16 0) 8 0), .int .u8 (List.getD (List.replicate 16 0) 9 0), .int .u8 (List.getD (List.replicate 16 0) 10 0), .int .u8 (List.getD (List.replicate 16 0) 11 0), .int .u8 (List.getD (List.replicate 16 0) 12 0), .int .u8 (List.getD (List.replicate 16 0) 13 0), .int .u8 (List.getD (List.replicate 16 0) 14 0), .int .u8 (List.getD (List.replicate 16 0) 15 0), .int .u8 (List.getD (List.replicate 16 0) 0 0), .int .u8 (List.getD (List.replicate 16 0) 1 0), .int .u8 (List.getD (List.replicate 16 0) 2 0), .int .u8 (List.getD (List.replicate 16 0) 3 0), .int .u8 (List.getD (List.replicate 16 0) 4 0), .int .u8 (List.getD (List.replicate 16 0) 5 0), .int .u8 (List.getD (List.replicate 16 0) 6 0), .int .u8 (List.getD (List.replicate 16 0) 7 0), .int .u8 (List.getD (List.replicate 16 0) 8 0), .int .u8 (List.getD (List.replicate 16 0) 9 0), .int .u8 (List.getD (List.replicate 16 0) 10 0), .int .u8 (List.getD (List.replicate 16 0) 11 0), .int .u8 (List.getD (List.replicate 16 0) 12 0), .int .u8 (List.getD (List.replicate 16 0) 13 0), .int .u8 (List.getD (List.replicate 16 0) 14 0), .int .u8 (List.getD (List.replicate 16 0) 15 0)]) bt52 rfl (by kernel_rfl)) rfl ?_
    refine obindE hF fun y8 hx9 hF => ?_
    refine RL.call Try.func25 bd25 rfl rfl (c_docs_Ipsix _ (T_ipsix_Header.mk 0 0 0 0 0 (List.replicate 16 0) (List.replicate 16 0)) _ hx9) fun v w10 hv => ?_
    obtain ⟨rfl, hN11⟩ := hv
    replace hM := hM.call0 hN11
    refine RL.effs (E.stB (j := 1) (off := 0) (vs := [.int .u8 y8.f_Class, .int .u32 y8.f_Flow, .int .u16 y8.f_Length, .int .u8 y8.f_Next, .int .u8 y8.f_Hops, .string y8.f_Src, .string y8.f_Dst]) (cs' := [.int .u8 y8.f_Class, .int .u32 y8.f_Flow, .int .u16 y8.f_Length, .int .u8 y8.f_Next, .int .u8 y8.f_Hops, .string y8.f_Src, .string y8.f_Dst]) hM rfl sz56 rfl (adds_eq [] rfl) rfl rfl (One.all rfl) rfl rfl) fun w12 hM1 => ?_
    clear hM
    have hM := hM1
    clear hM1
    refine RL.nil ?_
    refine KQ.then_n ?_
    refine KC.ret ?_
    refine KQ.then_r ?_
    obtain rfl := Option.some.inj hF
    have hb13 := hM.bx (i := 1) rfl
    replace hM := hM.pick [] rfl (by decide)
    refine KQ.rets Try.results26 (RVs.cons (RV.cN (cs := [.int .u8 y8.f_Class, .int .u32 y8.f_Flow, .int .u16 y8.f_Length, .int .u8 y8.f_Next, .int .u8 y8.f_Hops, .string y8.f_Src, .string y8.f_Dst]) rfl ag56 hb13) RVs.nil) ?_
    exact ⟨_, rfl, rfl, hM⟩
  · rw [if_neg (ne_true hc)] at hF
    refine KC.skip ?_
    refine KQ.then_n ?_
    refine KC.seq ?_
    refine KC.region ?_
    refine RL.val (O.loadN (cs := [.int .u8 h1.f_Class, .int .u32 h1.f_Flow, .int .u16 h1.f_Length, .int .u8 h1.f_Next, .int .u8 h1.f_Hops, .string h1.f_Src, .string h1.f_Dst]) ag56 rfl (Cs.addsN [] ((hM.bx (i := 0) rfl)) rfl)) rfl ?_
    refine RL.effs (E.stB (j := 1) (off := 0) (vs := [.int .u8 h1.f_Class, .int .u32 h1.f_Flow, .int .u16 h1.f_Length, .int .u8 h1.f_Next, .int .u8 h1.f_Hops, .string h1.f_Src, .string h1.f_Dst]) (cs' := [.int .u8 h1.f_Class, .int .u32 h1.f_Flow, .int .u16 h1.f_Length, .int .u8 h1.f_Next, .int .u8 h1.f_Hops, .string h1.f_Src, .string h1.f_Dst]) hM rfl sz56 rfl (adds_eq [] rfl) rfl rfl (One.all rfl) rfl rfl) fun w14 hM1 => ?_
    clear hM
    have hM := hM1
    clear hM1
    refine RL.nil ?_
    refine KQ.then_n ?_
    refine KC.ret ?_
    obtain rfl := Option.some.inj hF
    have hb15 := hM.bx (i := 1) rfl
    replace hM := hM.pick [] rfl (by decide)
    refine KQ.rets Try.results26 (RVs.cons (RV.cN (cs := [.int .u8 h1.f_Class, .int .u32 h1.f_Flow, .int .u16 h1.f_Length, .int .u8 h1.f_Next, .int .u8 h1.f_Hops, .string h1.f_Src, .string h1.f_Dst]) rfl ag56 hb15) RVs.nil) ?_
    exact ⟨_, rfl, rfl, hM⟩
set_option maxRecDepth 100000 in
set_option maxHeartbeats 40000000 in
theorem c_kit_Spoil (w : World) (A2 : Option Addr) (c3 : Nat) (b1 : List Int) (hL5 : Lent w [.row A2 c3 5 1 (b1).length ((b1).flatMap (eI .u8))]) (r : (List Int)) (hF : F_kit_Spoil b1 = some r) :
    CallsR Try.prog 27 [.slice A2 (b1).length c3] w (fun v w' => v = .tuple #[] ∧ (b1.length = r.length) ∧ Mem w [rblk A2 c3] w' [.row A2 c3 5 1 r.length (r.flatMap (eI .u8))]) := by
  refine calls_KC Try.func27 rfl Try.ntmps27 rfl ?_
  have hM : Mem w [rblk A2 c3] w [.row A2 c3 5 1 (b1).length ((b1).flatMap (eI .u8))] := Mem.lendN hL5
  unfold F_kit_Spoil at hF
  refine KC.seq ?_
  refine KC.region ?_
  refine RL.val (O.assign rfl) rfl ?_
  refine RL.nil ?_
  refine KQ.then_n ?_
  refine KC.block ?_
  refine KC.loop (fun k26 a w24 => ∃ (p21 : List Int) (i23 : Int), Kn 12 [(0, .slice A2 (p21).length c3), (2, .int .i64 i23)] a ∧ Mem w [rblk A2 c3] w24 [.row A2 c3 5 1 (p21).length ((p21).flatMap (eI .u8))] ∧ (p21).length = (b1).length ∧ F_kit_Spoil_L1 k26 p21 i23 = some r) ?_ ?_
  · exact fun a ha => ⟨fuel0, b1, 0, ha.less (less_cons rfl (less_cons rfl less_nil)), hM, rfl, hF⟩
  · rintro k26 a w24 ⟨p21, i23, ha, hM, hl22, hF⟩
    refine KC.app ha ?_
    clear ha
    cases k26 with
    | zero => exact (none_some hF).elim
    | succ k26 =>
    have hF : F_kit_Spoil_l1 (F_kit_Spoil_L1 k26) p21 i23 = some r := hF
    unfold F_kit_Spoil_l1 at hF
    refine KC.seq ?_
    refine KC.seq ?_
    refine KC.region ?_
    refine RL.val (O.move rfl) rfl ?_
    refine RL.val (O.move rfl) rfl ?_
    refine RL.val (O.len sl31 rfl) rfl ?_
    refine RL.val (O.lss rfl rfl) rfl ?_
    refine RL.nil ?_
    refine KQ.then_n ?_
    refine KC.cond rfl (fun hc => ?_) (fun hc => ?_)
    · rw [if_pos hc] at hF
      refine KC.skip ?_
      refine KQ.then_n ?_
      refine KC.seq ?_
      refine KC.block ?_
      refine KC.region ?_
      refine RL.val (O.move rfl) rfl ?_
      refine RL.val (O.move rfl) rfl ?_
      refine obindE hF fun xv29 hx28 hF => ?_
      have hA27 := Rd.atN (f := (eI .u8)) (s := 1) (fun _ => rfl) (by decide) (hM.rd (i := 0) rfl) hx28
      refine RL.val (O.idxA sl31 (hA27) rfl rfl) rfl ?_
      refine RL.effs (E.stR (enc := (eI .u8)) (j := 0) (off := 0) (vs := [.int .u8 165]) (x' := 165) hM rfl (fun _ => rfl) hx28 sz5 rfl (addsR_eq [] rfl) rfl rfl (One.all rfl) rfl rfl) fun w30 hM1 => ?_
      clear hM
      obtain ⟨hM, hn31⟩ := hM1
      refine RL.reslot (t := 0) rfl hn31 ?_
      refine RL.reslot (t := 4) rfl hn31 ?_
      refine RL.reslot (t := 9) rfl hn31 ?_
      refine RL.nil ?_
      refine KQ.blk_n ?_
      refine KQ.then_n ?_
      refine KC.region ?_
      refine RL.val (O.move rfl) rfl ?_
      refine RL.val (O.add rfl rfl) rfl ?_
      refine RL.val (O.assign rfl) rfl ?_
      refine RL.nil ?_
      refine KQ.then_k ?_
      exact fun a ha => ⟨k26, Nat.lt_succ_self k26, (p21.set (i23 : Int).toNat 165), (IntKind.i64.wrap (i23 + 1)), ha.less (less_cons rfl (less_cons rfl less_nil)), hM, (List.length_set.trans hl22), hF⟩
    · rw [if_neg (ne_true hc)] at hF
      refine KC.exit ?_
      refine KQ.then_x ?_
      refine KQ.then_x ?_
      refine KQ.blk_x ?_
      obtain rfl := Option.some.inj hF
      refine KQ.endr Try.results27 RVs.nil ?_
      exact ⟨_, rfl, rfl, (hl22).symm, hM⟩
end Go.Proofs.Ytikjomacnbemhaa
