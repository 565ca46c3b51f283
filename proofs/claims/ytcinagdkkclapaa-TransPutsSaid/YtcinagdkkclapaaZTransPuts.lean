/- The last step for the law TransPuts: its arguments are opened, the walk and the plain law are joined. The frame is that of the kit's skeleton; printed by a program of this claim. -/
import Derived.Test.YtcinagdkkclapaaRows
import Derived.Test.YtcinagdkkclapaaOxH
import Derived.Test.YtcinagdkkclapaaW15
import Derived.Test.YtcinagdkkclapaaDP
import Derived.SizedLaws
set_option linter.unusedVariables false
namespace Go.Proofs.Ytcinagdkkclapaa.transPuts
open Go Go.Ox Go.ChangeShapes Go.WideShapes Go.ChangeAt Go.RowKit
open Go.ChangeMaps (open_string shut_string)
theorem own : ownKnob Try.prog.godebug = none := by kernel_rfl
theorem laidOut : laidOutB Try.prog = true := by kernel_rfl
def R_trans_Segment (S : List (Option Nat)) (w : World) (x : T_trans_Segment) (cs : List Value) : Prop := ∃ (A0 : Option Addr) (c0 : Nat) (A1 : Option Addr) (c1 : Nat), cs = [.int .u8 x.f_Proto, .int .u16 x.f_Src, .int .u16 x.f_Dst, .int .u32 x.f_Seq, .int .u32 x.f_Ack, .int .u8 x.f_Flags, .int .u16 x.f_Window, .int .u16 x.f_Urgent, .slice A0 x.f_Options.length c0, .int .u8 x.f_Type, .int .u8 x.f_Code, .slice A1 x.f_Data.length c1] ∧ Rd w A0 c0 1 x.f_Options.length (x.f_Options.flatMap (eI .u8)) ∧ Off S x.f_Options.length A0 ∧ Rd w A1 c1 1 x.f_Data.length (x.f_Data.flatMap (eI .u8)) ∧ Off S x.f_Data.length A1
def W_26 (x : T_trans_Segment) : Prop := (Lit.int .u8 x.f_Proto).wf = true ∧ (Lit.int .u16 x.f_Src).wf = true ∧ (Lit.int .u16 x.f_Dst).wf = true ∧ (Lit.int .u32 x.f_Seq).wf = true ∧ (Lit.int .u32 x.f_Ack).wf = true ∧ (Lit.int .u8 x.f_Flags).wf = true ∧ (Lit.int .u16 x.f_Window).wf = true ∧ (Lit.int .u16 x.f_Urgent).wf = true ∧ (∀ a ∈ x.f_Options, (Lit.int .u8 a).wf = true) ∧ (Lit.int .u8 x.f_Type).wf = true ∧ (Lit.int .u8 x.f_Code).wf = true ∧ (∀ a ∈ x.f_Data, (Lit.int .u8 a).wf = true)
theorem op_26 {H : Type} {en : TypeId × Value → H} {w : World} {base : Nat} {spare : Nat → Bool} {held : Bool} : ∀ (f : Nat) (cs : List Value) (y : DataW H × List MemPlace), DataW.trod en Try.prog w base spare held f 26 cs = some y → ∃ a, R_trans_Segment [] w a cs ∧ W_26 a := fun f cs y h => by
  obtain ⟨hl, hf⟩ := opn_fld Try.underlying26 h
  have hc : Try.prog.cellsOf 26 = 12 := by kernel_rfl
  obtain ⟨a0, h0, p0⟩ := hf 0 0 1 5 (eI .u8) _ rfl (by kernel_rfl) (Opn.int Try.underlying5)
  obtain ⟨a1, h1, p1⟩ := hf 1 1 1 22 (eI .u16) _ rfl (by kernel_rfl) (Opn.int Try.underlying22)
  obtain ⟨a2, h2, p2⟩ := hf 2 2 1 22 (eI .u16) _ rfl (by kernel_rfl) (Opn.int Try.underlying22)
  obtain ⟨a3, h3, p3⟩ := hf 3 3 1 23 (eI .u32) _ rfl (by kernel_rfl) (Opn.int Try.underlying23)
  obtain ⟨a4, h4, p4⟩ := hf 4 4 1 23 (eI .u32) _ rfl (by kernel_rfl) (Opn.int Try.underlying23)
  obtain ⟨a5, h5, p5⟩ := hf 5 5 1 5 (eI .u8) _ rfl (by kernel_rfl) (Opn.int Try.underlying5)
  obtain ⟨a6, h6, p6⟩ := hf 6 6 1 22 (eI .u16) _ rfl (by kernel_rfl) (Opn.int Try.underlying22)
  obtain ⟨a7, h7, p7⟩ := hf 7 7 1 22 (eI .u16) _ rfl (by kernel_rfl) (Opn.int Try.underlying22)
  obtain ⟨⟨A8, c8, a8⟩, h8, r8, p8⟩ := hf 8 8 1 24 (fun y : Option Addr × Nat × List Int => [.slice y.1 y.2.2.length y.2.1]) _ rfl (by kernel_rfl) (Opn.sl Try.underlying24 Try.underlying5 (by kernel_rfl))
  obtain ⟨a9, h9, p9⟩ := hf 9 9 1 5 (eI .u8) _ rfl (by kernel_rfl) (Opn.int Try.underlying5)
  obtain ⟨a10, h10, p10⟩ := hf 10 10 1 5 (eI .u8) _ rfl (by kernel_rfl) (Opn.int Try.underlying5)
  obtain ⟨⟨A11, c11, a11⟩, h11, r11, p11⟩ := hf 11 11 1 24 (fun y : Option Addr × Nat × List Int => [.slice y.1 y.2.2.length y.2.1]) _ rfl (by kernel_rfl) (Opn.sl Try.underlying24 Try.underlying5 (by kernel_rfl))
  have k0 : cs = (eI .u8) a0 ++ cs.drop 1 := cut_drop h0
  have k1 : cs.drop 1 = (eI .u16) a1 ++ cs.drop 2 := cut_drop h1
  have k2 : cs.drop 2 = (eI .u16) a2 ++ cs.drop 3 := cut_drop h2
  have k3 : cs.drop 3 = (eI .u32) a3 ++ cs.drop 4 := cut_drop h3
  have k4 : cs.drop 4 = (eI .u32) a4 ++ cs.drop 5 := cut_drop h4
  have k5 : cs.drop 5 = (eI .u8) a5 ++ cs.drop 6 := cut_drop h5
  have k6 : cs.drop 6 = (eI .u16) a6 ++ cs.drop 7 := cut_drop h6
  have k7 : cs.drop 7 = (eI .u16) a7 ++ cs.drop 8 := cut_drop h7
  have k8 : cs.drop 8 = [.slice A8 a8.length c8] ++ cs.drop 9 := cut_drop h8
  have k9 : cs.drop 9 = (eI .u8) a9 ++ cs.drop 10 := cut_drop h9
  have k10 : cs.drop 10 = (eI .u8) a10 ++ cs.drop 11 := cut_drop h10
  have k11 : cs.drop 11 = [.slice A11 a11.length c11] ++ cs.drop 12 := cut_drop h11
  have kn : cs.drop 12 = [] := List.drop_of_length_le (by omega)
  refine ⟨⟨a0, a1, a2, a3, a4, a5, a6, a7, a8, a9, a10, a11⟩, ⟨A8, c8, A11, c11, ?_, r8, Off.nil, r11, Off.nil⟩, ⟨p0, p1, p2, p3, p4, p5, p6, p7, p8, p9, p10, p11⟩⟩
  rw [k0, k1, k2, k3, k4, k5, k6, k7, k8, k9, k10, k11, kn]
  rfl
theorem sz_le {H : Type} {en : TypeId × Value → H} {P : Program} {w : World} {base : Nat} {spare : Nat → Bool} {held : Bool} {t : TypeId} {fs : Array Field} {f : Nat} {cs : List Value} {y : DataW H × List MemPlace} (ht : P.underlying t = some (.struct fs)) (h : DataW.trod en P w base spare held f t cs = some y) (hw : ∀ n ∈ DataW.weights P t y.1, n ≤ reachBytes)
    {i o : Nat} {ft e : TypeId} (hf : (fs[i]?.map fun g => (g.type, g.offset)) = some (ft, o)) (hs : P.cellsOf ft = 1) (hu : P.underlying ft = some (.slice e)) (hb : P.bytesOf e = 1) {A : Option Addr} {n c : Nat} (hc : (cs.drop o).take 1 = [.slice A n c]) : n ≤ 140737488351232 := by
  obtain ⟨xs, m, _, rfl, hlen, hxl, hi⟩ := DataW.trod_struct ht h
  cases hg : fs[i]? with
  | none => rw [hg] at hf; cases hf
  | some g =>
    rw [hg] at hf
    simp at hf
    obtain ⟨rfl, rfl⟩ := hf
    have h1 := hi i g hg
    have hil : i < fs.size := (Array.getElem?_eq_some_iff.1 hg).1
    rw [List.getElem?_eq_getElem (by omega), hs, hc] at h1
    rcases DataW.trod_slice hu h1 with ⟨h0, _⟩ | ⟨a, len, cap, elems, rest, k, _, hcs, hx, _, _, _, hl, _⟩
    · simp at h0
      omega
    · simp at hcs
      have hq := hw ((elems.length + rest.length) * P.bytesOf e) (by
        unfold DataW.weights
        rw [ht]
        refine DataW.weights_mem_each (j := i) (t := g.type) (d := (xs[i]'(by omega)).1) (by simp [hg]) (by simp [List.getElem?_eq_getElem (show i < xs.length by omega)]) _ ?_
        rw [hx]
        simp [DataW.weights, hu])
      rw [hb] at hq
      simp only [reachBytes] at hq
      omega
set_option maxRecDepth 100000 in
set_option maxHeartbeats 2000000 in
theorem lifted (os : Os) (started : os.Started) (H : Type) (enc : TypeId × Value → H) :
    ReturnsInHanded {} Try.checked os 3 .any (Rows.transPutsSpec.pre6 enc Try.prog Try.f3 Rows.transPutsRow.domain false) (Rows.transPutsSpec.post enc Try.prog Try.f3 false true false false) := by
  refine returnsInHanded_of_change_sized (C := Try.checked) own started (by kernel_rfl) Try.func3
    (ChangeSpec.witness6 (enc := enc) (C := Try.checked) false ⟨#[], #[.agg #[.int .u8 0, .int .u16 0, .int .u16 0, .int .u32 0, .int .u32 0, .int .u8 0, .int .u16 0, .int .u16 0, .slice none 0 0, .int .u8 0, .int .u8 0, .slice none 0 0], .agg #[.int .u8 0, .int .u16 0, .int .u16 0, .int .u32 0, .int .u32 0, .int .u8 0, .int .u16 0, .int .u16 0, .slice none 0 0, .int .u8 0, .int .u8 0, .slice none 0 0], .slice none 0 0, .slice none 0 0, .int .u8 0], []⟩ 8 (by kernel_rfl) (by kernel_rfl) (by kernel_rfl) (by kernel_rfl)) ?_
  intro W base args ds gs before hval0 hW hcnd hz _
  have hval : ∀ (j : Nat) t v, Try.f3.params[j]? = some t → args[j]? = some v → Value.okWide Try.prog W .any base t v := hval0
  have hW' := hW
  obtain ⟨p, q, hA0, hV, rfl, hfz, hnd⟩ := hW
  have hA : DataW.TrodAll enc Try.prog W 0 (fun _ => true) true Try.f3.params.toList args.toList ds p := hA0
  rw [Try.params3] at hA hval hz
  obtain ⟨v0, vs0, d0, ds0, p0, q0, hargs, rfl, rfl, h0, r0⟩ := trodAll_cons hA
  obtain ⟨v1, vs1, d1, ds1, p1, q1, rfl, rfl, rfl, h1, r1⟩ := trodAll_cons r0
  obtain ⟨v2, vs2, d2, ds2, p2, q2, rfl, rfl, rfl, h2, r2⟩ := trodAll_cons r1
  obtain ⟨v3, vs3, d3, ds3, p3, q3, rfl, rfl, rfl, h3, r3⟩ := trodAll_cons r2
  obtain ⟨v4, vs4, d4, ds4, p4, q4, rfl, rfl, rfl, h4, r4⟩ := trodAll_cons r3
  obtain ⟨rfl, rfl, rfl⟩ := trodAll_nil r4
  obtain rfl : args = #[v0, v1, v2, v3, v4] := by cases args; simp_all
  obtain ⟨rfl, rfl⟩ := trodVars_none hV
  obtain ⟨cs0, rfl, hsz0⟩ := okWide_struct Try.underlying26 (hval 0 26 v0 rfl rfl)
  have k0 := h0
  have lt0 : ∀ x ∈ p0, x.block < W.heap.size := by obtain ⟨m, hm⟩ := k0; exact DataW.trod_lt m _ _ _ hm
  obtain ⟨fu0, hf⟩ := h0
  obtain ⟨x0, ⟨A0_0, c0_0, A0_1, c0_1, e0, h0_0, o0_0, h0_1, o0_1⟩, w0⟩ := op_26 _ _ _ hf
  have nl0_0 : x0.f_Options.length ≤ 140737488351232 := sz_le (i := 8) (o := 8) (ft := 24) Try.underlying26 hf (fun n hn => by have h := List.all_eq_true.1 hz n (DataW.weights_mem_each (j := 0) rfl rfl n hn); simpa using h) rfl (by kernel_rfl) Try.underlying24 (by kernel_rfl) (by rw [e0]; rfl)
  have nl0_1 : x0.f_Data.length ≤ 140737488351232 := sz_le (i := 11) (o := 11) (ft := 24) Try.underlying26 hf (fun n hn => by have h := List.all_eq_true.1 hz n (DataW.weights_mem_each (j := 0) rfl rfl n hn); simpa using h) rfl (by kernel_rfl) Try.underlying24 (by kernel_rfl) (by rw [e0]; rfl)
  obtain rfl : cs0 = _ := by have e := congrArg List.toArray e0; simp only [Value.cells, Array.toArray_toList] at e; exact e
  obtain ⟨cs1, rfl, hsz1⟩ := okWide_struct Try.underlying26 (hval 1 26 v1 rfl rfl)
  have k1 := h1
  have lt1 : ∀ x ∈ p1, x.block < W.heap.size := by obtain ⟨m, hm⟩ := k1; exact DataW.trod_lt m _ _ _ hm
  obtain ⟨fu1, hf⟩ := h1
  obtain ⟨x1, ⟨A1_0, c1_0, A1_1, c1_1, e1, h1_0, o1_0, h1_1, o1_1⟩, w1⟩ := op_26 _ _ _ hf
  have nl1_0 : x1.f_Options.length ≤ 140737488351232 := sz_le (i := 8) (o := 8) (ft := 24) Try.underlying26 hf (fun n hn => by have h := List.all_eq_true.1 hz n (DataW.weights_mem_each (j := 1) rfl rfl n hn); simpa using h) rfl (by kernel_rfl) Try.underlying24 (by kernel_rfl) (by rw [e1]; rfl)
  have nl1_1 : x1.f_Data.length ≤ 140737488351232 := sz_le (i := 11) (o := 11) (ft := 24) Try.underlying26 hf (fun n hn => by have h := List.all_eq_true.1 hz n (DataW.weights_mem_each (j := 1) rfl rfl n hn); simpa using h) rfl (by kernel_rfl) Try.underlying24 (by kernel_rfl) (by rw [e1]; rfl)
  obtain rfl : cs1 = _ := by have e := congrArg List.toArray e1; simp only [Value.cells, Array.toArray_toList] at e; exact e
  obtain ⟨a2, len2, cap2, rfl⟩ := okWide_slice Try.underlying24 (hval 2 24 v2 rfl rfl)
  have k2 := h2
  have lt2 : ∀ x ∈ p2, x.block < W.heap.size := by obtain ⟨m, hm⟩ := k2; exact DataW.trod_lt m _ _ _ hm
  obtain ⟨fu2, hf⟩ := h2
  obtain ⟨x2, e2, r_2, f2⟩ := op_ints Try.underlying24 Try.underlying5 (by kernel_rfl) hf
  subst e2
  obtain ⟨a3, len3, cap3, rfl⟩ := okWide_slice Try.underlying24 (hval 3 24 v3 rfl rfl)
  have k3 := h3
  have lt3 : ∀ x ∈ p3, x.block < W.heap.size := by obtain ⟨m, hm⟩ := k3; exact DataW.trod_lt m _ _ _ hm
  obtain ⟨fu3, hf⟩ := h3
  obtain ⟨x3, e3, r_3, f3⟩ := op_ints Try.underlying24 Try.underlying5 (by kernel_rfl) hf
  subst e3
  obtain ⟨a4, rfl, rfl, rfl, w4⟩ := open_int Try.underlying5 (hval 4 5 v4 rfl rfl) h4
  clear hA0 hval0
  refine Calls.mono (c_law07_TransPuts W x0 _ _ h0_0 _ _ h0_1 x1 _ _ h1_0 _ _ h1_1 a2 cap2 x2 r_2 a3 cap3 x3 r_3 a4 true (puts_eq ⟨wf_u8 w0.1, wf_u16 w0.2.1, wf_u16 w0.2.2.1, wf_u32 w0.2.2.2.1, wf_u32 w0.2.2.2.2.1, wf_u8 w0.2.2.2.2.2.1, wf_u16 w0.2.2.2.2.2.2.1, wf_u16 w0.2.2.2.2.2.2.2.1, fun y hy => wf_u8 (w0.2.2.2.2.2.2.2.2.1 y hy), wf_u8 w0.2.2.2.2.2.2.2.2.2.1, wf_u8 w0.2.2.2.2.2.2.2.2.2.2.1, fun y hy => wf_u8 (w0.2.2.2.2.2.2.2.2.2.2.2 y hy)⟩ ⟨wf_u8 w1.1, wf_u16 w1.2.1, wf_u16 w1.2.2.1, wf_u32 w1.2.2.2.1, wf_u32 w1.2.2.2.2.1, wf_u8 w1.2.2.2.2.2.1, wf_u16 w1.2.2.2.2.2.2.1, wf_u16 w1.2.2.2.2.2.2.2.1, fun y hy => wf_u8 (w1.2.2.2.2.2.2.2.2.1 y hy), wf_u8 w1.2.2.2.2.2.2.2.2.2.1, wf_u8 w1.2.2.2.2.2.2.2.2.2.2.1, fun y hy => wf_u8 (w1.2.2.2.2.2.2.2.2.2.2.2 y hy)⟩ ⟨nl0_0, nl0_1⟩ (fun y hy => wf_u8 (f2 y hy)) (fun y hy => wf_u8 (f3 y hy)) (wf_u8 w4))) fun e W' ⟨v, he, hv, hM⟩ => ?_
  subst hv
  subst he
  have bel := hM.below
  exact ⟨_, rfl, _, _, _, [], _, [], hW', trodAll_mk1 (shut_bool Try.underlying4 _), (trodAll_cons_mk (Below.trod laidOut (by kernel_rfl) (of_decide_eq_true (by kernel_rfl)) k0 bel lt0) (trodAll_cons_mk (Below.trod laidOut (by kernel_rfl) (of_decide_eq_true (by kernel_rfl)) k1 bel lt1) (trodAll_cons_mk (Below.trod laidOut (by kernel_rfl) (of_decide_eq_true (by kernel_rfl)) k2 bel lt2) (trodAll_cons_mk (Below.trod laidOut (by kernel_rfl) (of_decide_eq_true (by kernel_rfl)) k3 bel lt3) (trodAll_cons_mk (shut_int Try.underlying5 w4) trodAll_mk0))))), rfl, bel.frame _, fun h => by cases h⟩
theorem over : Rows.transPutsRow.holds Try.pinned (OpenSpec.ofChange Rows.transPutsSpec) :=
  OpenClaim.holds_of_wide 3 Try.f3 rfl rfl rfl rfl rfl rfl rfl ⟨rfl, rfl, rfl, rfl, rfl⟩ rfl rfl rfl rfl rfl (by kernel_rfl) Try.func3 (by kernel_rfl)
    (of_decide_eq_true (by kernel_rfl)) (by unfold Func.isWrapper; first | (rw [if_pos (by decide +kernel)]; kernel_rfl) | (rw [if_neg (by decide +kernel)]; exact ⟨rfl, rfl⟩))
    (fun os started H enc _ => lifted os started H enc)
/-- The statement. -/
theorem proved : Rows.TransPutsSaid := over
#print axioms proved
end Go.Proofs.Ytcinagdkkclapaa.transPuts
