/- The last step for the law IpBack: its arguments are opened, the walk and the plain law are joined. The frame is that of the kit's skeleton; printed by a program of this claim. -/
import Derived.Test.YtjfdfjmnajjjaaaRows
import Derived.Test.YtjfdfjmnajjjaaaOxH
import Derived.Test.YtjfdfjmnajjjaaaW13
import Derived.Test.YtjfdfjmnajjjaaaDP
set_option linter.unusedVariables false
namespace Go.Proofs.Ytjfdfjmnajjjaaa.ipBack
open Go Go.Ox Go.ChangeShapes Go.WideShapes Go.ChangeAt Go.RowKit
open Go.ChangeMaps (open_string shut_string)
theorem own : ownKnob Try.prog.godebug = none := by kernel_rfl
theorem laidOut : laidOutB Try.prog = true := by kernel_rfl
def R_ip_Header (S : List (Option Nat)) (w : World) (x : T_ip_Header) (cs : List Value) : Prop := ∃ (A0 : Option Addr) (c0 : Nat), cs = [.int .u8 x.f_TOS, .int .u16 x.f_Total, .int .u16 x.f_ID, .bool x.f_DF, .bool x.f_MF, .int .u16 x.f_Frag, .int .u8 x.f_TTL, .int .u8 x.f_Proto, .int .u8 (List.getD x.f_Src 0 0), .int .u8 (List.getD x.f_Src 1 0), .int .u8 (List.getD x.f_Src 2 0), .int .u8 (List.getD x.f_Src 3 0), .int .u8 (List.getD x.f_Dst 0 0), .int .u8 (List.getD x.f_Dst 1 0), .int .u8 (List.getD x.f_Dst 2 0), .int .u8 (List.getD x.f_Dst 3 0), .slice A0 x.f_Options.length c0] ∧ Rd w A0 c0 1 x.f_Options.length (x.f_Options.flatMap (eI .u8)) ∧ Off S x.f_Options.length A0
def W_39 (x : T_ip_Header) : Prop := (Lit.int .u8 x.f_TOS).wf = true ∧ (Lit.int .u16 x.f_Total).wf = true ∧ (Lit.int .u16 x.f_ID).wf = true ∧ True ∧ True ∧ (Lit.int .u16 x.f_Frag).wf = true ∧ (Lit.int .u8 x.f_TTL).wf = true ∧ (Lit.int .u8 x.f_Proto).wf = true ∧ (x.f_Src.length = 4 ∧ ∀ z ∈ x.f_Src, (Lit.int .u8 z).wf = true) ∧ (x.f_Dst.length = 4 ∧ ∀ z ∈ x.f_Dst, (Lit.int .u8 z).wf = true) ∧ (∀ a ∈ x.f_Options, (Lit.int .u8 a).wf = true)
theorem op_39 {H : Type} {en : TypeId × Value → H} {w : World} {base : Nat} {spare : Nat → Bool} {held : Bool} : ∀ (f : Nat) (cs : List Value) (y : DataW H × List MemPlace), DataW.trod en Try.prog w base spare held f 39 cs = some y → ∃ a, R_ip_Header [] w a cs ∧ W_39 a := fun f cs y h => by
  obtain ⟨hl, hf⟩ := opn_fld Try.underlying39 h
  have hc : Try.prog.cellsOf 39 = 17 := by kernel_rfl
  obtain ⟨a0, h0, p0⟩ := hf 0 0 1 5 (eI .u8) _ rfl (by kernel_rfl) (Opn.int Try.underlying5)
  obtain ⟨a1, h1, p1⟩ := hf 1 1 1 36 (eI .u16) _ rfl (by kernel_rfl) (Opn.int Try.underlying36)
  obtain ⟨a2, h2, p2⟩ := hf 2 2 1 36 (eI .u16) _ rfl (by kernel_rfl) (Opn.int Try.underlying36)
  obtain ⟨a3, h3, p3⟩ := hf 3 3 1 4 eB _ rfl (by kernel_rfl) (Opn.bool Try.underlying4)
  obtain ⟨a4, h4, p4⟩ := hf 4 4 1 4 eB _ rfl (by kernel_rfl) (Opn.bool Try.underlying4)
  obtain ⟨a5, h5, p5⟩ := hf 5 5 1 36 (eI .u16) _ rfl (by kernel_rfl) (Opn.int Try.underlying36)
  obtain ⟨a6, h6, p6⟩ := hf 6 6 1 5 (eI .u8) _ rfl (by kernel_rfl) (Opn.int Try.underlying5)
  obtain ⟨a7, h7, p7⟩ := hf 7 7 1 5 (eI .u8) _ rfl (by kernel_rfl) (Opn.int Try.underlying5)
  obtain ⟨a8, h8, p8⟩ := hf 8 8 4 37 (arrC 4 .u8) _ rfl (by kernel_rfl) (Opn.arr Try.underlying37 Try.underlying5 (by kernel_rfl) (by kernel_rfl))
  obtain ⟨a9, h9, p9⟩ := hf 9 12 4 37 (arrC 4 .u8) _ rfl (by kernel_rfl) (Opn.arr Try.underlying37 Try.underlying5 (by kernel_rfl) (by kernel_rfl))
  obtain ⟨⟨A10, c10, a10⟩, h10, r10, p10⟩ := hf 10 16 1 22 (fun y : Option Addr × Nat × List Int => [.slice y.1 y.2.2.length y.2.1]) _ rfl (by kernel_rfl) (Opn.sl Try.underlying22 Try.underlying5 (by kernel_rfl))
  have k0 : cs = (eI .u8) a0 ++ cs.drop 1 := cut_drop h0
  have k1 : cs.drop 1 = (eI .u16) a1 ++ cs.drop 2 := cut_drop h1
  have k2 : cs.drop 2 = (eI .u16) a2 ++ cs.drop 3 := cut_drop h2
  have k3 : cs.drop 3 = eB a3 ++ cs.drop 4 := cut_drop h3
  have k4 : cs.drop 4 = eB a4 ++ cs.drop 5 := cut_drop h4
  have k5 : cs.drop 5 = (eI .u16) a5 ++ cs.drop 6 := cut_drop h5
  have k6 : cs.drop 6 = (eI .u8) a6 ++ cs.drop 7 := cut_drop h6
  have k7 : cs.drop 7 = (eI .u8) a7 ++ cs.drop 8 := cut_drop h7
  have k8 : cs.drop 8 = (arrC 4 .u8) a8 ++ cs.drop 12 := cut_drop h8
  have k9 : cs.drop 12 = (arrC 4 .u8) a9 ++ cs.drop 16 := cut_drop h9
  have k10 : cs.drop 16 = [.slice A10 a10.length c10] ++ cs.drop 17 := cut_drop h10
  have kn : cs.drop 17 = [] := List.drop_of_length_le (by omega)
  refine ⟨⟨a0, a1, a2, a3, a4, a5, a6, a7, a8, a9, a10⟩, ⟨A10, c10, ?_, r10, Off.nil⟩, ⟨p0, p1, p2, p3, p4, p5, p6, p7, p8, p9, p10⟩⟩
  rw [k0, k1, k2, k3, k4, k5, k6, k7, k8, k9, k10, kn]
  rfl
set_option maxRecDepth 100000 in
set_option maxHeartbeats 2000000 in
theorem lifted (os : Os) (started : os.Started) (H : Type) (enc : TypeId × Value → H) :
    ReturnsInHanded {} Try.checked os 5 .any (Rows.ipBackSpec.pre6 enc Try.prog Try.f5 Rows.ipBackRow.domain false) (Rows.ipBackSpec.post enc Try.prog Try.f5 false true false false) := by
  refine returnsInHanded_of_change (C := Try.checked) own started (by kernel_rfl) Try.func5
    (ChangeSpec.witness6 (enc := enc) (C := Try.checked) false ⟨#[], #[.agg #[.int .u8 0, .int .u16 0, .int .u16 0, .bool false, .bool false, .int .u16 0, .int .u8 0, .int .u8 0, .int .u8 0, .int .u8 0, .int .u8 0, .int .u8 0, .int .u8 0, .int .u8 0, .int .u8 0, .int .u8 0, .slice none 0 0], .slice none 0 0, .int .i64 0, .int .u8 0], []⟩ 8 (by kernel_rfl) (by kernel_rfl) (by kernel_rfl) (by kernel_rfl)) ?_
  intro W base args ds gs before hval0 hW hcnd _
  have hval : ∀ (j : Nat) t v, Try.f5.params[j]? = some t → args[j]? = some v → Value.okWide Try.prog W .any base t v := hval0
  have hW' := hW
  obtain ⟨p, q, hA0, hV, rfl, hfz, hnd⟩ := hW
  have hA : DataW.TrodAll enc Try.prog W 0 (fun _ => true) true Try.f5.params.toList args.toList ds p := hA0
  rw [Try.params5] at hA hval
  obtain ⟨v0, vs0, d0, ds0, p0, q0, hargs, rfl, rfl, h0, r0⟩ := trodAll_cons hA
  obtain ⟨v1, vs1, d1, ds1, p1, q1, rfl, rfl, rfl, h1, r1⟩ := trodAll_cons r0
  obtain ⟨v2, vs2, d2, ds2, p2, q2, rfl, rfl, rfl, h2, r2⟩ := trodAll_cons r1
  obtain ⟨v3, vs3, d3, ds3, p3, q3, rfl, rfl, rfl, h3, r3⟩ := trodAll_cons r2
  obtain ⟨rfl, rfl, rfl⟩ := trodAll_nil r3
  obtain rfl : args = #[v0, v1, v2, v3] := by cases args; simp_all
  obtain ⟨rfl, rfl⟩ := trodVars_none hV
  obtain ⟨cs0, rfl, hsz0⟩ := okWide_struct Try.underlying39 (hval 0 39 v0 rfl rfl)
  have k0 := h0
  have lt0 : ∀ x ∈ p0, x.block < W.heap.size := by obtain ⟨m, hm⟩ := k0; exact DataW.trod_lt m _ _ _ hm
  obtain ⟨fu0, hf⟩ := h0
  obtain ⟨x0, ⟨A0_0, c0_0, e0, h0_0, o0_0⟩, w0⟩ := op_39 _ _ _ hf
  obtain rfl : cs0 = _ := by have e := congrArg List.toArray e0; simp only [Value.cells, Array.toArray_toList] at e; exact e
  obtain ⟨a1, len1, cap1, rfl⟩ := okWide_slice Try.underlying22 (hval 1 22 v1 rfl rfl)
  have k1 := h1
  have lt1 : ∀ x ∈ p1, x.block < W.heap.size := by obtain ⟨m, hm⟩ := k1; exact DataW.trod_lt m _ _ _ hm
  obtain ⟨fu1, hf⟩ := h1
  obtain ⟨x1, e1, r_1, f1⟩ := op_ints Try.underlying22 Try.underlying5 (by kernel_rfl) hf
  subst e1
  obtain ⟨a2, rfl, rfl, rfl, w2⟩ := open_int Try.underlying3 (hval 2 3 v2 rfl rfl) h2
  obtain ⟨a3, rfl, rfl, rfl, w3⟩ := open_int Try.underlying5 (hval 3 5 v3 rfl rfl) h3
  clear hA0 hval0
  refine Calls.mono (c_law05_IpBack W x0 _ _ h0_0 a1 cap1 x1 r_1 a2 a3 true (back_eq ⟨wf_u8 w0.1, wf_u16 w0.2.1, wf_u16 w0.2.2.1, wf_u16 w0.2.2.2.2.2.1, wf_u8 w0.2.2.2.2.2.2.1, wf_u8 w0.2.2.2.2.2.2.2.1, w0.2.2.2.2.2.2.2.2.1.1, fun y hy => wf_u8 (w0.2.2.2.2.2.2.2.2.1.2 y hy), w0.2.2.2.2.2.2.2.2.2.1.1, fun y hy => wf_u8 (w0.2.2.2.2.2.2.2.2.2.1.2 y hy), fun y hy => wf_u8 (w0.2.2.2.2.2.2.2.2.2.2 y hy)⟩ (fun y hy => wf_u8 (f1 y hy)) (wf_u8 w3))) fun e W' ⟨v, he, hv, hM⟩ => ?_
  subst hv
  subst he
  have bel := hM.below
  exact ⟨_, rfl, _, _, _, [], _, [], hW', trodAll_mk1 (shut_bool Try.underlying4 _), (trodAll_cons_mk (Below.trod laidOut (by kernel_rfl) (of_decide_eq_true (by kernel_rfl)) k0 bel lt0) (trodAll_cons_mk (Below.trod laidOut (by kernel_rfl) (of_decide_eq_true (by kernel_rfl)) k1 bel lt1) (trodAll_cons_mk (shut_int Try.underlying3 w2) (trodAll_cons_mk (shut_int Try.underlying5 w3) trodAll_mk0)))), rfl, bel.frame _, fun h => by cases h⟩
theorem over : Rows.ipBackRow.holds Try.pinned (OpenSpec.ofChange Rows.ipBackSpec) :=
  OpenClaim.holds_of_wide 5 Try.f5 rfl rfl rfl rfl rfl rfl rfl ⟨rfl, rfl, rfl, rfl, rfl⟩ rfl rfl rfl rfl rfl (by kernel_rfl) Try.func5 (by kernel_rfl)
    (of_decide_eq_true (by kernel_rfl)) (by unfold Func.isWrapper; first | (rw [if_pos (by decide +kernel)]; kernel_rfl) | (rw [if_neg (by decide +kernel)]; exact ⟨rfl, rfl⟩))
    (fun os started H enc _ => lifted os started H enc)
/-- The statement. -/
theorem proved : Rows.IpBackSaid := over
#print axioms proved
end Go.Proofs.Ytjfdfjmnajjjaaa.ipBack
