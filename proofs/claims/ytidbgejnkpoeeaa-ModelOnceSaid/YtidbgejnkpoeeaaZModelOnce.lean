/- The last step for the law ModelOnce: its arguments are opened, the walk and the plain law are joined. The frame is that of the kit's skeleton; printed by a program of this claim. -/
import Derived.Test.YtidbgejnkpoeeaaRows
import Derived.Test.YtidbgejnkpoeeaaOxH
import Derived.Test.YtidbgejnkpoeeaaW21
import Derived.Test.YtidbgejnkpoeeaaOP
set_option linter.unusedVariables false
namespace Go.Proofs.Ytidbgejnkpoeeaa.modelOnce
open Go Go.Ox Go.ChangeShapes Go.WideShapes Go.ChangeAt Go.RowKit
open Go.ChangeMaps (open_string shut_string)
theorem own : ownKnob Try.prog.godebug = none := by kernel_rfl
theorem laidOut : laidOutB Try.prog = true := by kernel_rfl
def W_31 (x : T_addr_Addr) : Prop := True ∧ (x.f_B.length = 16 ∧ ∀ z ∈ x.f_B, (Lit.int .u8 z).wf = true)
theorem op_31 {H : Type} {en : TypeId × Value → H} {w : World} {base : Nat} {spare : Nat → Bool} {held : Bool} : Opn en Try.prog w base spare held 31 e_addr_Addr W_31 := fun f cs y h => by
  obtain ⟨hl, hf⟩ := opn_fld Try.underlying31 h
  have hc : Try.prog.cellsOf 31 = 17 := by kernel_rfl
  obtain ⟨a0, h0, p0⟩ := hf 0 0 1 4 eB _ rfl (by kernel_rfl) (Opn.bool Try.underlying4)
  obtain ⟨a1, h1, p1⟩ := hf 1 1 16 29 (arrC 16 .u8) _ rfl (by kernel_rfl) (Opn.arr Try.underlying29 Try.underlying5 (by kernel_rfl) (by kernel_rfl))
  have k0 : cs = eB a0 ++ cs.drop 1 := cut_drop h0
  have k1 : cs.drop 1 = (arrC 16 .u8) a1 ++ cs.drop 17 := cut_drop h1
  have kn : cs.drop 17 = [] := List.drop_of_length_le (by omega)
  refine ⟨⟨a0, a1⟩, ?_, ⟨p0, p1⟩⟩
  rw [k0, k1, kn]
  rfl
def W_34 (x : T_packet_Key) : Prop := W_31 x.f_Src ∧ W_31 x.f_Dst ∧ (Lit.int .u8 x.f_Proto).wf = true ∧ (Lit.int .u16 x.f_SrcPort).wf = true ∧ (Lit.int .u16 x.f_DstPort).wf = true
theorem op_34 {H : Type} {en : TypeId × Value → H} {w : World} {base : Nat} {spare : Nat → Bool} {held : Bool} : Opn en Try.prog w base spare held 34 e_packet_Key W_34 := fun f cs y h => by
  obtain ⟨hl, hf⟩ := opn_fld Try.underlying34 h
  have hc : Try.prog.cellsOf 34 = 37 := by kernel_rfl
  obtain ⟨a0, h0, p0⟩ := hf 0 0 17 31 e_addr_Addr _ rfl (by kernel_rfl) (op_31 (w := w) (base := base) (spare := spare) (held := held))
  obtain ⟨a1, h1, p1⟩ := hf 1 17 17 31 e_addr_Addr _ rfl (by kernel_rfl) (op_31 (w := w) (base := base) (spare := spare) (held := held))
  obtain ⟨a2, h2, p2⟩ := hf 2 34 1 5 (eI .u8) _ rfl (by kernel_rfl) (Opn.int Try.underlying5)
  obtain ⟨a3, h3, p3⟩ := hf 3 35 1 32 (eI .u16) _ rfl (by kernel_rfl) (Opn.int Try.underlying32)
  obtain ⟨a4, h4, p4⟩ := hf 4 36 1 32 (eI .u16) _ rfl (by kernel_rfl) (Opn.int Try.underlying32)
  have k0 : cs = e_addr_Addr a0 ++ cs.drop 17 := cut_drop h0
  have k1 : cs.drop 17 = e_addr_Addr a1 ++ cs.drop 34 := cut_drop h1
  have k2 : cs.drop 34 = (eI .u8) a2 ++ cs.drop 35 := cut_drop h2
  have k3 : cs.drop 35 = (eI .u16) a3 ++ cs.drop 36 := cut_drop h3
  have k4 : cs.drop 36 = (eI .u16) a4 ++ cs.drop 37 := cut_drop h4
  have kn : cs.drop 37 = [] := List.drop_of_length_le (by omega)
  refine ⟨⟨a0, a1, a2, a3, a4⟩, ?_, ⟨p0, p1, p2, p3, p4⟩⟩
  rw [k0, k1, k2, k3, k4, kn]
  rfl
def W_37 (x : T_flow_Total) : Prop := (Lit.int .u64 x.f_Packets).wf = true ∧ (Lit.int .u64 x.f_Bytes).wf = true
theorem op_37 {H : Type} {en : TypeId × Value → H} {w : World} {base : Nat} {spare : Nat → Bool} {held : Bool} : Opn en Try.prog w base spare held 37 e_flow_Total W_37 := fun f cs y h => by
  obtain ⟨hl, hf⟩ := opn_fld Try.underlying37 h
  have hc : Try.prog.cellsOf 37 = 2 := by kernel_rfl
  obtain ⟨a0, h0, p0⟩ := hf 0 0 1 35 (eI .u64) _ rfl (by kernel_rfl) (Opn.int Try.underlying35)
  obtain ⟨a1, h1, p1⟩ := hf 1 1 1 35 (eI .u64) _ rfl (by kernel_rfl) (Opn.int Try.underlying35)
  have k0 : cs = (eI .u64) a0 ++ cs.drop 1 := cut_drop h0
  have k1 : cs.drop 1 = (eI .u64) a1 ++ cs.drop 2 := cut_drop h1
  have kn : cs.drop 2 = [] := List.drop_of_length_le (by omega)
  refine ⟨⟨a0, a1⟩, ?_, ⟨p0, p1⟩⟩
  rw [k0, k1, kn]
  rfl
def W_50 (x : T_flow_Record) : Prop := W_34 x.f_Key ∧ (Lit.int .u64 x.f_Packets).wf = true ∧ (Lit.int .u64 x.f_Bytes).wf = true ∧ (Lit.int .u64 x.f_First).wf = true ∧ (Lit.int .u64 x.f_Last).wf = true ∧ (Lit.int .u8 x.f_Flags).wf = true ∧ (Lit.int .u8 x.f_Reason).wf = true ∧ (Lit.int .u8 x.f_Class).wf = true
theorem op_50 {H : Type} {en : TypeId × Value → H} {w : World} {base : Nat} {spare : Nat → Bool} {held : Bool} : Opn en Try.prog w base spare held 50 e_flow_Record W_50 := fun f cs y h => by
  obtain ⟨hl, hf⟩ := opn_fld Try.underlying50 h
  have hc : Try.prog.cellsOf 50 = 44 := by kernel_rfl
  obtain ⟨a0, h0, p0⟩ := hf 0 0 37 34 e_packet_Key _ rfl (by kernel_rfl) (op_34 (w := w) (base := base) (spare := spare) (held := held))
  obtain ⟨a1, h1, p1⟩ := hf 1 37 1 35 (eI .u64) _ rfl (by kernel_rfl) (Opn.int Try.underlying35)
  obtain ⟨a2, h2, p2⟩ := hf 2 38 1 35 (eI .u64) _ rfl (by kernel_rfl) (Opn.int Try.underlying35)
  obtain ⟨a3, h3, p3⟩ := hf 3 39 1 35 (eI .u64) _ rfl (by kernel_rfl) (Opn.int Try.underlying35)
  obtain ⟨a4, h4, p4⟩ := hf 4 40 1 35 (eI .u64) _ rfl (by kernel_rfl) (Opn.int Try.underlying35)
  obtain ⟨a5, h5, p5⟩ := hf 5 41 1 5 (eI .u8) _ rfl (by kernel_rfl) (Opn.int Try.underlying5)
  obtain ⟨a6, h6, p6⟩ := hf 6 42 1 5 (eI .u8) _ rfl (by kernel_rfl) (Opn.int Try.underlying5)
  obtain ⟨a7, h7, p7⟩ := hf 7 43 1 5 (eI .u8) _ rfl (by kernel_rfl) (Opn.int Try.underlying5)
  have k0 : cs = e_packet_Key a0 ++ cs.drop 37 := cut_drop h0
  have k1 : cs.drop 37 = (eI .u64) a1 ++ cs.drop 38 := cut_drop h1
  have k2 : cs.drop 38 = (eI .u64) a2 ++ cs.drop 39 := cut_drop h2
  have k3 : cs.drop 39 = (eI .u64) a3 ++ cs.drop 40 := cut_drop h3
  have k4 : cs.drop 40 = (eI .u64) a4 ++ cs.drop 41 := cut_drop h4
  have k5 : cs.drop 41 = (eI .u8) a5 ++ cs.drop 42 := cut_drop h5
  have k6 : cs.drop 42 = (eI .u8) a6 ++ cs.drop 43 := cut_drop h6
  have k7 : cs.drop 43 = (eI .u8) a7 ++ cs.drop 44 := cut_drop h7
  have kn : cs.drop 44 = [] := List.drop_of_length_le (by omega)
  refine ⟨⟨a0, a1, a2, a3, a4, a5, a6, a7⟩, ?_, ⟨p0, p1, p2, p3, p4, p5, p6, p7⟩⟩
  rw [k0, k1, k2, k3, k4, k5, k6, k7, kn]
  rfl
def W_41 (x : T_model_Note) : Prop := (Lit.int .i64 x.f_Kind).wf = true ∧ W_34 x.f_Key ∧ W_37 x.f_Total ∧ (∀ a ∈ x.f_Records, W_50 a) ∧ (Lit.int .u32 x.f_Epoch).wf = true ∧ (Lit.int .u64 x.f_N).wf = true ∧ (Lit.int .u64 x.f_First).wf = true ∧ (Lit.int .u64 x.f_Next).wf = true
theorem op_41 {H : Type} {en : TypeId × Value → H} {w : World} {base : Nat} {spare : Nat → Bool} {held : Bool} : ∀ (f : Nat) (cs : List Value) (y : DataW H × List MemPlace), DataW.trod en Try.prog w base spare held f 41 cs = some y → ∃ a, R_model_Note [] w a cs ∧ W_41 a := fun f cs y h => by
  obtain ⟨hl, hf⟩ := opn_fld Try.underlying41 h
  have hc : Try.prog.cellsOf 41 = 45 := by kernel_rfl
  obtain ⟨a0, h0, p0⟩ := hf 0 0 1 3 (eI .i64) _ rfl (by kernel_rfl) (Opn.int Try.underlying3)
  obtain ⟨a1, h1, p1⟩ := hf 1 1 37 34 e_packet_Key _ rfl (by kernel_rfl) (op_34 (w := w) (base := base) (spare := spare) (held := held))
  obtain ⟨a2, h2, p2⟩ := hf 2 38 2 37 e_flow_Total _ rfl (by kernel_rfl) (op_37 (w := w) (base := base) (spare := spare) (held := held))
  obtain ⟨⟨A3, c3, a3⟩, h3, r3, p3⟩ := hf 3 40 1 38 (fun y : Option Addr × Nat × List T_flow_Record => [.slice y.1 y.2.2.length y.2.1]) _ rfl (by kernel_rfl) (Opn.slF (s := 44) Try.underlying38 (by kernel_rfl) (by decide) (op_50 (w := w) (base := base) (spare := spare) (held := held)))
  obtain ⟨a4, h4, p4⟩ := hf 4 41 1 39 (eI .u32) _ rfl (by kernel_rfl) (Opn.int Try.underlying39)
  obtain ⟨a5, h5, p5⟩ := hf 5 42 1 35 (eI .u64) _ rfl (by kernel_rfl) (Opn.int Try.underlying35)
  obtain ⟨a6, h6, p6⟩ := hf 6 43 1 35 (eI .u64) _ rfl (by kernel_rfl) (Opn.int Try.underlying35)
  obtain ⟨a7, h7, p7⟩ := hf 7 44 1 35 (eI .u64) _ rfl (by kernel_rfl) (Opn.int Try.underlying35)
  have k0 : cs = (eI .i64) a0 ++ cs.drop 1 := cut_drop h0
  have k1 : cs.drop 1 = e_packet_Key a1 ++ cs.drop 38 := cut_drop h1
  have k2 : cs.drop 38 = e_flow_Total a2 ++ cs.drop 40 := cut_drop h2
  have k3 : cs.drop 40 = [.slice A3 a3.length c3] ++ cs.drop 41 := cut_drop h3
  have k4 : cs.drop 41 = (eI .u32) a4 ++ cs.drop 42 := cut_drop h4
  have k5 : cs.drop 42 = (eI .u64) a5 ++ cs.drop 43 := cut_drop h5
  have k6 : cs.drop 43 = (eI .u64) a6 ++ cs.drop 44 := cut_drop h6
  have k7 : cs.drop 44 = (eI .u64) a7 ++ cs.drop 45 := cut_drop h7
  have kn : cs.drop 45 = [] := List.drop_of_length_le (by omega)
  refine ⟨⟨a0, a1, a2, a3, a4, a5, a6, a7⟩, ⟨A3, c3, ?_, r3, Off.nil⟩, ⟨p0, p1, p2, p3, p4, p5, p6, p7⟩⟩
  rw [k0, k1, k2, k3, k4, k5, k6, k7, kn]
  rfl
set_option maxRecDepth 100000 in
set_option maxHeartbeats 2000000 in
theorem lifted (os : Os) (started : os.Started) (H : Type) (enc : TypeId × Value → H) :
    ReturnsInHanded {} Try.checked os 3 .any (Rows.modelOnceSpec.pre6 enc Try.prog Try.f3 Rows.modelOnceRow.domain false) (Rows.modelOnceSpec.post enc Try.prog Try.f3 false true false false) := by
  refine returnsInHanded_of_change (C := Try.checked) own started (by kernel_rfl) Try.func3
    (ChangeSpec.witness6 (enc := enc) (C := Try.checked) false ⟨#[], #[.slice none 0 0], []⟩ 8 (by kernel_rfl) (by kernel_rfl) (by kernel_rfl) (by kernel_rfl)) ?_
  intro W base args ds gs before hval0 hW hcnd _
  have hval : ∀ (j : Nat) t v, Try.f3.params[j]? = some t → args[j]? = some v → Value.okWide Try.prog W .any base t v := hval0
  have hW' := hW
  obtain ⟨p, q, hA0, hV, rfl, hfz, hnd⟩ := hW
  have hA : DataW.TrodAll enc Try.prog W 0 (fun _ => true) true Try.f3.params.toList args.toList ds p := hA0
  rw [Try.params3] at hA hval
  obtain ⟨v0, vs0, d0, ds0, p0, q0, hargs, rfl, rfl, h0, r0⟩ := trodAll_cons hA
  obtain ⟨rfl, rfl, rfl⟩ := trodAll_nil r0
  obtain rfl : args = #[v0] := by cases args; simp_all
  obtain ⟨rfl, rfl⟩ := trodVars_none hV
  obtain ⟨a0, len0, cap0, rfl⟩ := okWide_slice Try.underlying22 (hval 0 22 v0 rfl rfl)
  have k0 := h0
  have lt0 : ∀ x ∈ p0, x.block < W.heap.size := by obtain ⟨m, hm⟩ := k0; exact DataW.trod_lt m _ _ _ hm
  obtain ⟨fu0, hf⟩ := h0
  obtain ⟨x0, e0, r_0, f0⟩ := op_rowsD Try.underlying22 (by kernel_rfl) (by decide) len_model_Note op_41 hf
  subst e0
  clear hA0 hval0
  refine Calls.mono (c_law30_ModelOnce W a0 cap0 x0 r_0 true (once_eq (fun n hn => ⟨(wf_u64 (f0 n hn).2.2.2.2.2.2.1).1, (wf_u64 (f0 n hn).2.2.2.2.2.2.2).1⟩))) fun e W' ⟨v, he, hv, hM⟩ => ?_
  subst hv
  subst he
  have bel := hM.below
  exact ⟨_, rfl, _, _, _, [], _, [], hW', trodAll_mk1 (shut_bool Try.underlying4 _), (trodAll_cons_mk (Below.trod laidOut (by kernel_rfl) (of_decide_eq_true (by kernel_rfl)) k0 bel lt0) trodAll_mk0), rfl, bel.frame _, fun h => by cases h⟩
theorem over : Rows.modelOnceRow.holds Try.pinned (OpenSpec.ofChange Rows.modelOnceSpec) :=
  OpenClaim.holds_of_wide 3 Try.f3 rfl rfl rfl rfl rfl rfl rfl ⟨rfl, rfl, rfl, rfl, rfl⟩ rfl rfl rfl rfl rfl (by kernel_rfl) Try.func3 (by kernel_rfl)
    (of_decide_eq_true (by kernel_rfl)) (by unfold Func.isWrapper; first | (rw [if_pos (by decide +kernel)]; kernel_rfl) | (rw [if_neg (by decide +kernel)]; exact ⟨rfl, rfl⟩))
    (fun os started H enc _ => lifted os started H enc)
/-- The statement. -/
theorem proved : Rows.ModelOnceSaid := over
#print axioms proved
end Go.Proofs.Ytidbgejnkpoeeaa.modelOnce
