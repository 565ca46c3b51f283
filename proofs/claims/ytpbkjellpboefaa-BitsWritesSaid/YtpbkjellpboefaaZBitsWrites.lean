/- The last step for the law BitsWrites: its arguments are opened, the walk and the plain law are joined. The frame is that of the kit's skeleton; printed by a program of this claim. -/
import Derived.Test.YtpbkjellpboefaaRows
import Derived.Test.YtpbkjellpboefaaOxH
import Derived.Test.YtpbkjellpboefaaW
import Derived.Test.YtpbkjellpboefaaP
set_option linter.unusedVariables false
namespace Go.Proofs.Ytpbkjellpboefaa.bitsWrites
open Go Go.Ox Go.ChangeShapes Go.WideShapes Go.ChangeAt Go.RowKit
open Go.ChangeMaps (open_string shut_string)
theorem own : ownKnob Try.prog.godebug = none := by kernel_rfl
theorem laidOut : laidOutB Try.prog = true := by kernel_rfl
def W_35 (x : T_law01_Act) : Prop := (Lit.int .i64 x.f_Do).wf = true ∧ (Lit.int .i64 x.f_At).wf = true ∧ (Lit.int .u64 x.f_V).wf = true ∧ (Lit.int .i64 x.f_Size).wf = true ∧ (∀ a ∈ x.f_B, (Lit.int .u8 a).wf = true)
theorem op_35 {H : Type} {en : TypeId × Value → H} {w : World} {base : Nat} {spare : Nat → Bool} {held : Bool} : ∀ (f : Nat) (cs : List Value) (y : DataW H × List MemPlace), DataW.trod en Try.prog w base spare held f 35 cs = some y → ∃ a, R_law01_Act [] w a cs ∧ W_35 a := fun f cs y h => by
  obtain ⟨hl, hf⟩ := opn_fld Try.underlying35 h
  have hc : Try.prog.cellsOf 35 = 5 := by kernel_rfl
  obtain ⟨a0, h0, p0⟩ := hf 0 0 1 3 (eI .i64) _ rfl (by kernel_rfl) (Opn.int Try.underlying3)
  obtain ⟨a1, h1, p1⟩ := hf 1 1 1 3 (eI .i64) _ rfl (by kernel_rfl) (Opn.int Try.underlying3)
  obtain ⟨a2, h2, p2⟩ := hf 2 2 1 23 (eI .u64) _ rfl (by kernel_rfl) (Opn.int Try.underlying23)
  obtain ⟨a3, h3, p3⟩ := hf 3 3 1 3 (eI .i64) _ rfl (by kernel_rfl) (Opn.int Try.underlying3)
  obtain ⟨⟨A4, c4, a4⟩, h4, r4, p4⟩ := hf 4 4 1 22 (fun y : Option Addr × Nat × List Int => [.slice y.1 y.2.2.length y.2.1]) _ rfl (by kernel_rfl) (Opn.sl Try.underlying22 Try.underlying5 (by kernel_rfl))
  have k0 : cs = (eI .i64) a0 ++ cs.drop 1 := cut_drop h0
  have k1 : cs.drop 1 = (eI .i64) a1 ++ cs.drop 2 := cut_drop h1
  have k2 : cs.drop 2 = (eI .u64) a2 ++ cs.drop 3 := cut_drop h2
  have k3 : cs.drop 3 = (eI .i64) a3 ++ cs.drop 4 := cut_drop h3
  have k4 : cs.drop 4 = [.slice A4 a4.length c4] ++ cs.drop 5 := cut_drop h4
  have kn : cs.drop 5 = [] := List.drop_of_length_le (by omega)
  refine ⟨⟨a0, a1, a2, a3, a4⟩, ⟨A4, c4, ?_, r4, Off.nil⟩, ⟨p0, p1, p2, p3, p4⟩⟩
  rw [k0, k1, k2, k3, k4, kn]
  rfl
set_option maxRecDepth 100000 in
set_option maxHeartbeats 2000000 in
theorem lifted (os : Os) (started : os.Started) (H : Type) (enc : TypeId × Value → H) :
    ReturnsInHanded {} Try.checked os 4 .any (Rows.bitsWritesSpec.pre6 enc Try.prog Try.f4 Rows.bitsWritesRow.domain false) (Rows.bitsWritesSpec.post enc Try.prog Try.f4 false true false false) := by
  refine returnsInHanded_of_change (C := Try.checked) own started (by kernel_rfl) Try.func4
    (ChangeSpec.witness6 (enc := enc) (C := Try.checked) false ⟨#[], #[.slice none 0 0], []⟩ 8 (by kernel_rfl) (by kernel_rfl) (by kernel_rfl) (by kernel_rfl)) ?_
  intro W base args ds gs before hval0 hW hcnd _
  have hval : ∀ (j : Nat) t v, Try.f4.params[j]? = some t → args[j]? = some v → Value.okWide Try.prog W .any base t v := hval0
  have hW' := hW
  obtain ⟨p, q, hA0, hV, rfl, hfz, hnd⟩ := hW
  have hA : DataW.TrodAll enc Try.prog W 0 (fun _ => true) true Try.f4.params.toList args.toList ds p := hA0
  rw [Try.params4] at hA hval
  obtain ⟨v0, vs0, d0, ds0, p0, q0, hargs, rfl, rfl, h0, r0⟩ := trodAll_cons hA
  obtain ⟨rfl, rfl, rfl⟩ := trodAll_nil r0
  obtain rfl : args = #[v0] := by cases args; simp_all
  obtain ⟨rfl, rfl⟩ := trodVars_none hV
  obtain ⟨a0, len0, cap0, rfl⟩ := okWide_slice Try.underlying30 (hval 0 30 v0 rfl rfl)
  have k0 := h0
  have lt0 : ∀ x ∈ p0, x.block < W.heap.size := by obtain ⟨m, hm⟩ := k0; exact DataW.trod_lt m _ _ _ hm
  obtain ⟨fu0, hf⟩ := h0
  obtain ⟨x0, e0, r_0, f0⟩ := op_rowsD Try.underlying30 (by kernel_rfl) (by decide) len_law01_Act op_35 hf
  subst e0
  clear hA0 hval0
  refine Calls.mono (c_law01_BitsWrites W a0 cap0 x0 r_0 true (writes_eq fun a ha => ⟨wf_i64 (f0 a ha).2.1, wf_u64 (f0 a ha).2.2.1, wf_i64 (f0 a ha).2.2.2.1, fun y hy => wf_u8 ((f0 a ha).2.2.2.2 y hy)⟩)) fun e W' ⟨v, he, hv, hM⟩ => ?_
  subst hv
  subst he
  have bel := hM.below
  exact ⟨_, rfl, _, _, _, [], _, [], hW', trodAll_mk1 (shut_bool Try.underlying4 _), (trodAll_cons_mk (Below.trod laidOut (by kernel_rfl) (of_decide_eq_true (by kernel_rfl)) k0 bel lt0) trodAll_mk0), rfl, bel.frame _, fun h => by cases h⟩
theorem over : Rows.bitsWritesRow.holds Try.pinned (OpenSpec.ofChange Rows.bitsWritesSpec) :=
  OpenClaim.holds_of_wide 4 Try.f4 rfl rfl rfl rfl rfl rfl rfl ⟨rfl, rfl, rfl, rfl, rfl⟩ rfl rfl rfl rfl rfl (by kernel_rfl) Try.func4 (by kernel_rfl)
    (of_decide_eq_true (by kernel_rfl)) (by unfold Func.isWrapper; first | (rw [if_pos (by decide +kernel)]; kernel_rfl) | (rw [if_neg (by decide +kernel)]; exact ⟨rfl, rfl⟩))
    (fun os started H enc _ => lifted os started H enc)
/-- The statement. -/
theorem proved : Rows.BitsWritesSaid := over
#print axioms proved
end Go.Proofs.Ytpbkjellpboefaa.bitsWrites
