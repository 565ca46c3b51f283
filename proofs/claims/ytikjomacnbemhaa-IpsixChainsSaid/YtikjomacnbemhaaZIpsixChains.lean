/- The last step for the law IpsixChains: its arguments are opened, the walk and the plain law are joined. The frame is that of the kit's skeleton; printed by a program of this claim. -/
import Derived.Test.YtikjomacnbemhaaRows
import Derived.Test.YtikjomacnbemhaaOxH
import Derived.Test.YtikjomacnbemhaaW
import Derived.Test.YtikjomacnbemhaaP
set_option linter.unusedVariables false
namespace Go.Proofs.Ytikjomacnbemhaa.ipsixChains
open Go Go.Ox Go.ChangeShapes Go.WideShapes Go.ChangeAt Go.RowKit
open Go.ChangeMaps (open_string shut_string)
theorem own : ownKnob Try.prog.godebug = none := by kernel_rfl
theorem laidOut : laidOutB Try.prog = true := by kernel_rfl
def W_63 (x : T_ipsix_Ext) : Prop := (Lit.int .u8 x.f_Kind).wf = true ∧ (∀ a ∈ x.f_Data, (Lit.int .u8 a).wf = true)
theorem op_63 {H : Type} {en : TypeId × Value → H} {w : World} {base : Nat} {spare : Nat → Bool} {held : Bool} : ∀ (f : Nat) (cs : List Value) (y : DataW H × List MemPlace), DataW.trod en Try.prog w base spare held f 63 cs = some y → ∃ a, R_ipsix_Ext [] w a cs ∧ W_63 a := fun f cs y h => by
  obtain ⟨hl, hf⟩ := opn_fld Try.underlying63 h
  have hc : Try.prog.cellsOf 63 = 2 := by kernel_rfl
  obtain ⟨a0, h0, p0⟩ := hf 0 0 1 5 (eI .u8) _ rfl (by kernel_rfl) (Opn.int Try.underlying5)
  obtain ⟨⟨A1, c1, a1⟩, h1, r1, p1⟩ := hf 1 1 1 31 (fun y : Option Addr × Nat × List Int => [.slice y.1 y.2.2.length y.2.1]) _ rfl (by kernel_rfl) (Opn.sl Try.underlying31 Try.underlying5 (by kernel_rfl))
  have k0 : cs = (eI .u8) a0 ++ cs.drop 1 := cut_drop h0
  have k1 : cs.drop 1 = [.slice A1 a1.length c1] ++ cs.drop 2 := cut_drop h1
  have kn : cs.drop 2 = [] := List.drop_of_length_le (by omega)
  refine ⟨⟨a0, a1⟩, ⟨A1, c1, ?_, r1, Off.nil⟩, ⟨p0, p1⟩⟩
  rw [k0, k1, kn]
  rfl
def R_ipsix_Chain (S : List (Option Nat)) (w : World) (x : T_ipsix_Chain) (cs : List Value) : Prop := ∃ (A0 : Option Addr) (c0 : Nat), cs = [.slice A0 x.f_Exts.length c0, .int .u8 x.f_Proto] ∧ RdD R_ipsix_Ext S w A0 c0 2 x.f_Exts ∧ True
def W_24 (x : T_ipsix_Chain) : Prop := (∀ a ∈ x.f_Exts, W_63 a) ∧ (Lit.int .u8 x.f_Proto).wf = true
theorem op_24 {H : Type} {en : TypeId × Value → H} {w : World} {base : Nat} {spare : Nat → Bool} {held : Bool} : ∀ (f : Nat) (cs : List Value) (y : DataW H × List MemPlace), DataW.trod en Try.prog w base spare held f 24 cs = some y → ∃ a, R_ipsix_Chain [] w a cs ∧ W_24 a := fun f cs y h => by
  obtain ⟨hl, hf⟩ := opn_fld Try.underlying24 h
  have hc : Try.prog.cellsOf 24 = 2 := by kernel_rfl
  obtain ⟨⟨A0, c0, a0⟩, h0, r0, p0⟩ := hf 0 0 1 22 (fun y : Option Addr × Nat × List T_ipsix_Ext => [.slice y.1 y.2.2.length y.2.1]) _ rfl (by kernel_rfl) (Opn.slD Try.underlying22 (by kernel_rfl) (by decide) len_ipsix_Ext op_63)
  obtain ⟨a1, h1, p1⟩ := hf 1 1 1 5 (eI .u8) _ rfl (by kernel_rfl) (Opn.int Try.underlying5)
  have k0 : cs = [.slice A0 a0.length c0] ++ cs.drop 1 := cut_drop h0
  have k1 : cs.drop 1 = (eI .u8) a1 ++ cs.drop 2 := cut_drop h1
  have kn : cs.drop 2 = [] := List.drop_of_length_le (by omega)
  refine ⟨⟨a0, a1⟩, ⟨A0, c0, ?_, r0, trivial⟩, ⟨p0, p1⟩⟩
  rw [k0, k1, kn]
  rfl
set_option maxRecDepth 100000 in
set_option maxHeartbeats 2000000 in
theorem lifted (os : Os) (started : os.Started) (H : Type) (enc : TypeId × Value → H) :
    ReturnsInHanded {} Try.checked os 3 .any (Rows.ipsixChainsSpec.pre6 enc Try.prog Try.f3 Rows.ipsixChainsRow.domain false) (Rows.ipsixChainsSpec.post enc Try.prog Try.f3 false true false false) := by
  refine returnsInHanded_of_change (C := Try.checked) own started (by kernel_rfl) Try.func3
    (ChangeSpec.witness6 (enc := enc) (C := Try.checked) false ⟨#[], #[.agg #[.slice none 0 0, .int .u8 0], .agg #[.slice none 0 0, .int .u8 0]], []⟩ 8 (by kernel_rfl) (by kernel_rfl) (by kernel_rfl) (by kernel_rfl)) ?_
  intro W base args ds gs before hval0 hW hcnd _
  have hval : ∀ (j : Nat) t v, Try.f3.params[j]? = some t → args[j]? = some v → Value.okWide Try.prog W .any base t v := hval0
  have hW' := hW
  obtain ⟨p, q, hA0, hV, rfl, hfz, hnd⟩ := hW
  have hA : DataW.TrodAll enc Try.prog W 0 (fun _ => true) true Try.f3.params.toList args.toList ds p := hA0
  rw [Try.params3] at hA hval
  obtain ⟨v0, vs0, d0, ds0, p0, q0, hargs, rfl, rfl, h0, r0⟩ := trodAll_cons hA
  obtain ⟨v1, vs1, d1, ds1, p1, q1, rfl, rfl, rfl, h1, r1⟩ := trodAll_cons r0
  obtain ⟨rfl, rfl, rfl⟩ := trodAll_nil r1
  obtain rfl : args = #[v0, v1] := by cases args; simp_all
  obtain ⟨rfl, rfl⟩ := trodVars_none hV
  obtain ⟨cs0, rfl, hsz0⟩ := okWide_struct Try.underlying24 (hval 0 24 v0 rfl rfl)
  have k0 := h0
  have lt0 : ∀ x ∈ p0, x.block < W.heap.size := by obtain ⟨m, hm⟩ := k0; exact DataW.trod_lt m _ _ _ hm
  obtain ⟨fu0, hf⟩ := h0
  obtain ⟨x0, ⟨A0_0, c0_0, e0, h0_0, o0_0⟩, w0⟩ := op_24 _ _ _ hf
  obtain rfl : cs0 = _ := by have e := congrArg List.toArray e0; simp only [Value.cells, Array.toArray_toList] at e; exact e
  obtain ⟨cs1, rfl, hsz1⟩ := okWide_struct Try.underlying24 (hval 1 24 v1 rfl rfl)
  have k1 := h1
  have lt1 : ∀ x ∈ p1, x.block < W.heap.size := by obtain ⟨m, hm⟩ := k1; exact DataW.trod_lt m _ _ _ hm
  obtain ⟨fu1, hf⟩ := h1
  obtain ⟨x1, ⟨A1_0, c1_0, e1, h1_0, o1_0⟩, w1⟩ := op_24 _ _ _ hf
  obtain rfl : cs1 = _ := by have e := congrArg List.toArray e1; simp only [Value.cells, Array.toArray_toList] at e; exact e
  clear hA0 hval0
  refine Calls.mono (c_law06_IpsixChains W x0 _ _ h0_0 x1 _ _ h1_0 true (chains_eq (fun x hx => ⟨wf_u8 (w0.1 x hx).1, fun y hy => wf_u8 ((w0.1 x hx).2 y hy)⟩) (fun x hx => ⟨wf_u8 (w1.1 x hx).1, fun y hy => wf_u8 ((w1.1 x hx).2 y hy)⟩))) fun e W' ⟨v, he, hv, hM⟩ => ?_
  subst hv
  subst he
  have bel := hM.below
  exact ⟨_, rfl, _, _, _, [], _, [], hW', trodAll_mk1 (shut_bool Try.underlying4 _), (trodAll_cons_mk (Below.trod laidOut (by kernel_rfl) (of_decide_eq_true (by kernel_rfl)) k0 bel lt0) (trodAll_cons_mk (Below.trod laidOut (by kernel_rfl) (of_decide_eq_true (by kernel_rfl)) k1 bel lt1) trodAll_mk0)), rfl, bel.frame _, fun h => by cases h⟩
theorem over : Rows.ipsixChainsRow.holds Try.pinned (OpenSpec.ofChange Rows.ipsixChainsSpec) :=
  OpenClaim.holds_of_wide 3 Try.f3 rfl rfl rfl rfl rfl rfl rfl ⟨rfl, rfl, rfl, rfl, rfl⟩ rfl rfl rfl rfl rfl (by kernel_rfl) Try.func3 (by kernel_rfl)
    (of_decide_eq_true (by kernel_rfl)) (by unfold Func.isWrapper; first | (rw [if_pos (by decide +kernel)]; kernel_rfl) | (rw [if_neg (by decide +kernel)]; exact ⟨rfl, rfl⟩))
    (fun os started H enc _ => lifted os started H enc)
/-- The statement. -/
theorem proved : Rows.IpsixChainsSaid := over
#print axioms proved
end Go.Proofs.Ytikjomacnbemhaa.ipsixChains
