/- The last step for the law TablePlays: its arguments are opened, the walk and the plain law are joined. The frame is that of the kit's skeleton; printed by a program of this claim. -/
import Derived.Test.YtnbakndfnjflhaaRows
import Derived.Test.YtnbakndfnjflhaaOxH
import Derived.Test.YtnbakndfnjflhaaW22
import Derived.Test.YtnbakndfnjflhaaEP
set_option linter.unusedVariables false
namespace Go.Proofs.Ytnbakndfnjflhaa.tablePlays
open Go Go.Ox Go.ChangeShapes Go.WideShapes Go.ChangeAt Go.RowKit
open Go.ChangeMaps (open_string shut_string)
theorem own : ownKnob Try.prog.godebug = none := by kernel_rfl
theorem laidOut : laidOutB Try.prog = true := by kernel_rfl
def W_32 (x : T_addr_Addr) : Prop := True ∧ (x.f_B.length = 16 ∧ ∀ z ∈ x.f_B, (Lit.int .u8 z).wf = true)
theorem op_32 {H : Type} {en : TypeId × Value → H} {w : World} {base : Nat} {spare : Nat → Bool} {held : Bool} : Opn en Try.prog w base spare held 32 e_addr_Addr W_32 := fun f cs y h => by
  obtain ⟨hl, hf⟩ := opn_fld Try.underlying32 h
  have hc : Try.prog.cellsOf 32 = 17 := by kernel_rfl
  obtain ⟨a0, h0, p0⟩ := hf 0 0 1 4 eB _ rfl (by kernel_rfl) (Opn.bool Try.underlying4)
  obtain ⟨a1, h1, p1⟩ := hf 1 1 16 30 (arrC 16 .u8) _ rfl (by kernel_rfl) (Opn.arr Try.underlying30 Try.underlying5 (by kernel_rfl) (by kernel_rfl))
  have k0 : cs = eB a0 ++ cs.drop 1 := cut_drop h0
  have k1 : cs.drop 1 = (arrC 16 .u8) a1 ++ cs.drop 17 := cut_drop h1
  have kn : cs.drop 17 = [] := List.drop_of_length_le (by omega)
  refine ⟨⟨a0, a1⟩, ?_, ⟨p0, p1⟩⟩
  rw [k0, k1, kn]
  rfl
def W_35 (x : T_packet_Key) : Prop := W_32 x.f_Src ∧ W_32 x.f_Dst ∧ (Lit.int .u8 x.f_Proto).wf = true ∧ (Lit.int .u16 x.f_SrcPort).wf = true ∧ (Lit.int .u16 x.f_DstPort).wf = true
theorem op_35 {H : Type} {en : TypeId × Value → H} {w : World} {base : Nat} {spare : Nat → Bool} {held : Bool} : Opn en Try.prog w base spare held 35 e_packet_Key W_35 := fun f cs y h => by
  obtain ⟨hl, hf⟩ := opn_fld Try.underlying35 h
  have hc : Try.prog.cellsOf 35 = 37 := by kernel_rfl
  obtain ⟨a0, h0, p0⟩ := hf 0 0 17 32 e_addr_Addr _ rfl (by kernel_rfl) (op_32 (w := w) (base := base) (spare := spare) (held := held))
  obtain ⟨a1, h1, p1⟩ := hf 1 17 17 32 e_addr_Addr _ rfl (by kernel_rfl) (op_32 (w := w) (base := base) (spare := spare) (held := held))
  obtain ⟨a2, h2, p2⟩ := hf 2 34 1 5 (eI .u8) _ rfl (by kernel_rfl) (Opn.int Try.underlying5)
  obtain ⟨a3, h3, p3⟩ := hf 3 35 1 33 (eI .u16) _ rfl (by kernel_rfl) (Opn.int Try.underlying33)
  obtain ⟨a4, h4, p4⟩ := hf 4 36 1 33 (eI .u16) _ rfl (by kernel_rfl) (Opn.int Try.underlying33)
  have k0 : cs = e_addr_Addr a0 ++ cs.drop 17 := cut_drop h0
  have k1 : cs.drop 17 = e_addr_Addr a1 ++ cs.drop 34 := cut_drop h1
  have k2 : cs.drop 34 = (eI .u8) a2 ++ cs.drop 35 := cut_drop h2
  have k3 : cs.drop 35 = (eI .u16) a3 ++ cs.drop 36 := cut_drop h3
  have k4 : cs.drop 36 = (eI .u16) a4 ++ cs.drop 37 := cut_drop h4
  have kn : cs.drop 37 = [] := List.drop_of_length_le (by omega)
  refine ⟨⟨a0, a1, a2, a3, a4⟩, ?_, ⟨p0, p1, p2, p3, p4⟩⟩
  rw [k0, k1, k2, k3, k4, kn]
  rfl
def W_38 (x : T_law23_Act) : Prop := (Lit.int .i64 x.f_Do).wf = true ∧ W_35 x.f_K ∧ (Lit.int .u64 x.f_N).wf = true
theorem op_38 {H : Type} {en : TypeId × Value → H} {w : World} {base : Nat} {spare : Nat → Bool} {held : Bool} : Opn en Try.prog w base spare held 38 e_law23_Act W_38 := fun f cs y h => by
  obtain ⟨hl, hf⟩ := opn_fld Try.underlying38 h
  have hc : Try.prog.cellsOf 38 = 39 := by kernel_rfl
  obtain ⟨a0, h0, p0⟩ := hf 0 0 1 3 (eI .i64) _ rfl (by kernel_rfl) (Opn.int Try.underlying3)
  obtain ⟨a1, h1, p1⟩ := hf 1 1 37 35 e_packet_Key _ rfl (by kernel_rfl) (op_35 (w := w) (base := base) (spare := spare) (held := held))
  obtain ⟨a2, h2, p2⟩ := hf 2 38 1 36 (eI .u64) _ rfl (by kernel_rfl) (Opn.int Try.underlying36)
  have k0 : cs = (eI .i64) a0 ++ cs.drop 1 := cut_drop h0
  have k1 : cs.drop 1 = e_packet_Key a1 ++ cs.drop 38 := cut_drop h1
  have k2 : cs.drop 38 = (eI .u64) a2 ++ cs.drop 39 := cut_drop h2
  have kn : cs.drop 39 = [] := List.drop_of_length_le (by omega)
  refine ⟨⟨a0, a1, a2⟩, ?_, ⟨p0, p1, p2⟩⟩
  rw [k0, k1, k2, kn]
  rfl
set_option maxRecDepth 100000 in
set_option maxHeartbeats 2000000 in
theorem lifted (os : Os) (started : os.Started) (H : Type) (enc : TypeId × Value → H) :
    ReturnsInHanded {} Try.checked os 4 .any (Rows.tablePlaysSpec.pre6 enc Try.prog Try.f4 Rows.tablePlaysRow.domain false) (Rows.tablePlaysSpec.post enc Try.prog Try.f4 false true false false) := by
  refine returnsInHanded_of_change (C := Try.checked) own started (by kernel_rfl) Try.func4
    (ChangeSpec.witness6 (enc := enc) (C := Try.checked) false ⟨#[], #[.int .i64 0, .slice none 0 0], []⟩ 8 (by kernel_rfl) (by kernel_rfl) (by kernel_rfl) (by kernel_rfl)) ?_
  intro W base args ds gs before hval0 hW hcnd _
  have hval : ∀ (j : Nat) t v, Try.f4.params[j]? = some t → args[j]? = some v → Value.okWide Try.prog W .any base t v := hval0
  have hW' := hW
  obtain ⟨p, q, hA0, hV, rfl, hfz, hnd⟩ := hW
  have hA : DataW.TrodAll enc Try.prog W 0 (fun _ => true) true Try.f4.params.toList args.toList ds p := hA0
  rw [Try.params4] at hA hval
  obtain ⟨v0, vs0, d0, ds0, p0, q0, hargs, rfl, rfl, h0, r0⟩ := trodAll_cons hA
  obtain ⟨v1, vs1, d1, ds1, p1, q1, rfl, rfl, rfl, h1, r1⟩ := trodAll_cons r0
  obtain ⟨rfl, rfl, rfl⟩ := trodAll_nil r1
  obtain rfl : args = #[v0, v1] := by cases args; simp_all
  obtain ⟨rfl, rfl⟩ := trodVars_none hV
  obtain ⟨a0, rfl, rfl, rfl, w0⟩ := open_int Try.underlying3 (hval 0 3 v0 rfl rfl) h0
  obtain ⟨a1, len1, cap1, rfl⟩ := okWide_slice Try.underlying22 (hval 1 22 v1 rfl rfl)
  have k1 := h1
  have lt1 : ∀ x ∈ p1, x.block < W.heap.size := by obtain ⟨m, hm⟩ := k1; exact DataW.trod_lt m _ _ _ hm
  obtain ⟨fu1, hf⟩ := h1
  obtain ⟨x1, e1, r_1, f1⟩ := op_slice (s := 39) Try.underlying22 (by kernel_rfl) (by decide) op_38 hf
  subst e1
  clear hA0 hval0
  refine Calls.mono (c_law23_TablePlays W a0 a1 cap1 x1 r_1 true (plays_eq (fun a ha => ⟨(f1 a ha).2.1.1.2.1, (f1 a ha).2.1.2.1.2.1, wf_u16 (f1 a ha).2.1.2.2.2.1, wf_u16 (f1 a ha).2.1.2.2.2.2, fun y hy => wf_u8 ((f1 a ha).2.1.1.2.2 y hy), fun y hy => wf_u8 ((f1 a ha).2.1.2.1.2.2 y hy), wf_u8 (f1 a ha).2.1.2.2.1⟩))) fun e W' ⟨v, he, hv, hM⟩ => ?_
  subst hv
  subst he
  have bel := hM.below
  exact ⟨_, rfl, _, _, _, [], _, [], hW', trodAll_mk1 (shut_bool Try.underlying4 _), (trodAll_cons_mk (shut_int Try.underlying3 w0) (trodAll_cons_mk (Below.trod laidOut (by kernel_rfl) (of_decide_eq_true (by kernel_rfl)) k1 bel lt1) trodAll_mk0)), rfl, bel.frame _, fun h => by cases h⟩
theorem over : Rows.tablePlaysRow.holds Try.pinned (OpenSpec.ofChange Rows.tablePlaysSpec) :=
  OpenClaim.holds_of_wide 4 Try.f4 rfl rfl rfl rfl rfl rfl rfl ⟨rfl, rfl, rfl, rfl, rfl⟩ rfl rfl rfl rfl rfl (by kernel_rfl) Try.func4 (by kernel_rfl)
    (of_decide_eq_true (by kernel_rfl)) (by unfold Func.isWrapper; first | (rw [if_pos (by decide +kernel)]; kernel_rfl) | (rw [if_neg (by decide +kernel)]; exact ⟨rfl, rfl⟩))
    (fun os started H enc _ => lifted os started H enc)
/-- The statement. -/
theorem proved : Rows.TablePlaysSaid := over
#print axioms proved
end Go.Proofs.Ytnbakndfnjflhaa.tablePlays
