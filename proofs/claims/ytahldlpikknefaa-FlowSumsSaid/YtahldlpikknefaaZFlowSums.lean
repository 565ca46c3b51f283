/- The last step for the law FlowSums: its arguments are opened, the walk and the plain law are joined. The frame is that of the kit's skeleton; printed by a program of this claim. -/
import Derived.Test.YtahldlpikknefaaRows
import Derived.Test.YtahldlpikknefaaOxH
import Derived.Test.YtahldlpikknefaaW
import Derived.Test.YtahldlpikknefaaP
set_option linter.unusedVariables false
namespace Go.Proofs.Ytahldlpikknefaa.flowSums
open Go Go.Ox Go.ChangeShapes Go.WideShapes Go.ChangeAt Go.RowKit
open Go.ChangeMaps (open_string shut_string)
theorem own : ownKnob Try.prog.godebug = none := by kernel_rfl
theorem laidOut : laidOutB Try.prog = true := by kernel_rfl
def W_24 (x : T_addr_Addr) : Prop := True ∧ (x.f_B.length = 16 ∧ ∀ z ∈ x.f_B, (Lit.int .u8 z).wf = true)
theorem op_24 {H : Type} {en : TypeId × Value → H} {w : World} {base : Nat} {spare : Nat → Bool} {held : Bool} : Opn en Try.prog w base spare held 24 e_addr_Addr W_24 := fun f cs y h => by
  obtain ⟨hl, hf⟩ := opn_fld Try.underlying24 h
  have hc : Try.prog.cellsOf 24 = 17 := by kernel_rfl
  obtain ⟨a0, h0, p0⟩ := hf 0 0 1 4 eB _ rfl (by kernel_rfl) (Opn.bool Try.underlying4)
  obtain ⟨a1, h1, p1⟩ := hf 1 1 16 22 (arrC 16 .u8) _ rfl (by kernel_rfl) (Opn.arr Try.underlying22 Try.underlying5 (by kernel_rfl) (by kernel_rfl))
  have k0 : cs = eB a0 ++ cs.drop 1 := cut_drop h0
  have k1 : cs.drop 1 = (arrC 16 .u8) a1 ++ cs.drop 17 := cut_drop h1
  have kn : cs.drop 17 = [] := List.drop_of_length_le (by omega)
  refine ⟨⟨a0, a1⟩, ?_, ⟨p0, p1⟩⟩
  rw [k0, k1, kn]
  rfl
def W_27 (x : T_packet_Key) : Prop := W_24 x.f_Src ∧ W_24 x.f_Dst ∧ (Lit.int .u8 x.f_Proto).wf = true ∧ (Lit.int .u16 x.f_SrcPort).wf = true ∧ (Lit.int .u16 x.f_DstPort).wf = true
theorem op_27 {H : Type} {en : TypeId × Value → H} {w : World} {base : Nat} {spare : Nat → Bool} {held : Bool} : Opn en Try.prog w base spare held 27 e_packet_Key W_27 := fun f cs y h => by
  obtain ⟨hl, hf⟩ := opn_fld Try.underlying27 h
  have hc : Try.prog.cellsOf 27 = 37 := by kernel_rfl
  obtain ⟨a0, h0, p0⟩ := hf 0 0 17 24 e_addr_Addr _ rfl (by kernel_rfl) (op_24 (w := w) (base := base) (spare := spare) (held := held))
  obtain ⟨a1, h1, p1⟩ := hf 1 17 17 24 e_addr_Addr _ rfl (by kernel_rfl) (op_24 (w := w) (base := base) (spare := spare) (held := held))
  obtain ⟨a2, h2, p2⟩ := hf 2 34 1 5 (eI .u8) _ rfl (by kernel_rfl) (Opn.int Try.underlying5)
  obtain ⟨a3, h3, p3⟩ := hf 3 35 1 25 (eI .u16) _ rfl (by kernel_rfl) (Opn.int Try.underlying25)
  obtain ⟨a4, h4, p4⟩ := hf 4 36 1 25 (eI .u16) _ rfl (by kernel_rfl) (Opn.int Try.underlying25)
  have k0 : cs = e_addr_Addr a0 ++ cs.drop 17 := cut_drop h0
  have k1 : cs.drop 17 = e_addr_Addr a1 ++ cs.drop 34 := cut_drop h1
  have k2 : cs.drop 34 = (eI .u8) a2 ++ cs.drop 35 := cut_drop h2
  have k3 : cs.drop 35 = (eI .u16) a3 ++ cs.drop 36 := cut_drop h3
  have k4 : cs.drop 36 = (eI .u16) a4 ++ cs.drop 37 := cut_drop h4
  have kn : cs.drop 37 = [] := List.drop_of_length_le (by omega)
  refine ⟨⟨a0, a1, a2, a3, a4⟩, ?_, ⟨p0, p1, p2, p3, p4⟩⟩
  rw [k0, k1, k2, k3, k4, kn]
  rfl
def W_32 (x : T_flow_Total) : Prop := (Lit.int .u64 x.f_Packets).wf = true ∧ (Lit.int .u64 x.f_Bytes).wf = true
theorem op_32 {H : Type} {en : TypeId × Value → H} {w : World} {base : Nat} {spare : Nat → Bool} {held : Bool} : Opn en Try.prog w base spare held 32 e_flow_Total W_32 := fun f cs y h => by
  obtain ⟨hl, hf⟩ := opn_fld Try.underlying32 h
  have hc : Try.prog.cellsOf 32 = 2 := by kernel_rfl
  obtain ⟨a0, h0, p0⟩ := hf 0 0 1 30 (eI .u64) _ rfl (by kernel_rfl) (Opn.int Try.underlying30)
  obtain ⟨a1, h1, p1⟩ := hf 1 1 1 30 (eI .u64) _ rfl (by kernel_rfl) (Opn.int Try.underlying30)
  have k0 : cs = (eI .u64) a0 ++ cs.drop 1 := cut_drop h0
  have k1 : cs.drop 1 = (eI .u64) a1 ++ cs.drop 2 := cut_drop h1
  have kn : cs.drop 2 = [] := List.drop_of_length_le (by omega)
  refine ⟨⟨a0, a1⟩, ?_, ⟨p0, p1⟩⟩
  rw [k0, k1, kn]
  rfl
set_option maxRecDepth 100000 in
set_option maxHeartbeats 2000000 in
theorem lifted (os : Os) (started : os.Started) (H : Type) (enc : TypeId × Value → H) :
    ReturnsInHanded {} Try.checked os 3 .any (Rows.flowSumsSpec.pre6 enc Try.prog Try.f3 Rows.flowSumsRow.domain false) (Rows.flowSumsSpec.post enc Try.prog Try.f3 false true false false) := by
  refine returnsInHanded_of_change (C := Try.checked) own started (by kernel_rfl) Try.func3
    (ChangeSpec.witness6 (enc := enc) (C := Try.checked) false ⟨#[], #[.agg #[.bool false, .int .u8 0, .int .u8 0, .int .u8 0, .int .u8 0, .int .u8 0, .int .u8 0, .int .u8 0, .int .u8 0, .int .u8 0, .int .u8 0, .int .u8 0, .int .u8 0, .int .u8 0, .int .u8 0, .int .u8 0, .int .u8 0, .bool false, .int .u8 0, .int .u8 0, .int .u8 0, .int .u8 0, .int .u8 0, .int .u8 0, .int .u8 0, .int .u8 0, .int .u8 0, .int .u8 0, .int .u8 0, .int .u8 0, .int .u8 0, .int .u8 0, .int .u8 0, .int .u8 0, .int .u8 0, .int .u16 0, .int .u16 0], .slice none 0 0, .slice none 0 0, .agg #[.int .u64 0, .int .u64 0], .agg #[.int .u64 0, .int .u64 0], .agg #[.int .u64 0, .int .u64 0]], []⟩ 8 (by kernel_rfl) (by kernel_rfl) (by kernel_rfl) (by kernel_rfl)) ?_
  intro W base args ds gs before hval0 hW hcnd _
  have hval : ∀ (j : Nat) t v, Try.f3.params[j]? = some t → args[j]? = some v → Value.okWide Try.prog W .any base t v := hval0
  have hW' := hW
  obtain ⟨p, q, hA0, hV, rfl, hfz, hnd⟩ := hW
  have hA : DataW.TrodAll enc Try.prog W 0 (fun _ => true) true Try.f3.params.toList args.toList ds p := hA0
  rw [Try.params3] at hA hval
  obtain ⟨v0, vs0, d0, ds0, p0, q0, hargs, rfl, rfl, h0, r0⟩ := trodAll_cons hA
  obtain ⟨v1, vs1, d1, ds1, p1, q1, rfl, rfl, rfl, h1, r1⟩ := trodAll_cons r0
  obtain ⟨v2, vs2, d2, ds2, p2, q2, rfl, rfl, rfl, h2, r2⟩ := trodAll_cons r1
  obtain ⟨v3, vs3, d3, ds3, p3, q3, rfl, rfl, rfl, h3, r3⟩ := trodAll_cons r2
  obtain ⟨v4, vs4, d4, ds4, p4, q4, rfl, rfl, rfl, h4, r4⟩ := trodAll_cons r3
  obtain ⟨v5, vs5, d5, ds5, p5, q5, rfl, rfl, rfl, h5, r5⟩ := trodAll_cons r4
  obtain ⟨rfl, rfl, rfl⟩ := trodAll_nil r5
  obtain rfl : args = #[v0, v1, v2, v3, v4, v5] := by cases args; simp_all
  obtain ⟨rfl, rfl⟩ := trodVars_none hV
  obtain ⟨cs0, rfl, hsz0⟩ := okWide_struct Try.underlying27 (hval 0 27 v0 rfl rfl)
  have k0 := h0
  have lt0 : ∀ x ∈ p0, x.block < W.heap.size := by obtain ⟨m, hm⟩ := k0; exact DataW.trod_lt m _ _ _ hm
  obtain ⟨fu0, hf⟩ := h0
  obtain ⟨x0, e0, w0⟩ := op_27 _ _ _ hf
  obtain rfl : cs0 = (e_packet_Key x0).toArray := by rw [← e0]; simp [Value.cells]
  obtain ⟨a1, len1, cap1, rfl⟩ := okWide_slice Try.underlying28 (hval 1 28 v1 rfl rfl)
  have k1 := h1
  have lt1 : ∀ x ∈ p1, x.block < W.heap.size := by obtain ⟨m, hm⟩ := k1; exact DataW.trod_lt m _ _ _ hm
  obtain ⟨fu1, hf⟩ := h1
  obtain ⟨x1, e1, r_1, f1⟩ := op_ints Try.underlying28 Try.underlying25 (by kernel_rfl) hf
  subst e1
  obtain ⟨a2, len2, cap2, rfl⟩ := okWide_slice Try.underlying29 (hval 2 29 v2 rfl rfl)
  have k2 := h2
  have lt2 : ∀ x ∈ p2, x.block < W.heap.size := by obtain ⟨m, hm⟩ := k2; exact DataW.trod_lt m _ _ _ hm
  obtain ⟨fu2, hf⟩ := h2
  obtain ⟨x2, e2, r_2, f2⟩ := op_ints Try.underlying29 Try.underlying30 (by kernel_rfl) hf
  subst e2
  obtain ⟨cs3, rfl, hsz3⟩ := okWide_struct Try.underlying32 (hval 3 32 v3 rfl rfl)
  have k3 := h3
  have lt3 : ∀ x ∈ p3, x.block < W.heap.size := by obtain ⟨m, hm⟩ := k3; exact DataW.trod_lt m _ _ _ hm
  obtain ⟨fu3, hf⟩ := h3
  obtain ⟨x3, e3, w3⟩ := op_32 _ _ _ hf
  obtain rfl : cs3 = (e_flow_Total x3).toArray := by rw [← e3]; simp [Value.cells]
  obtain ⟨cs4, rfl, hsz4⟩ := okWide_struct Try.underlying32 (hval 4 32 v4 rfl rfl)
  have k4 := h4
  have lt4 : ∀ x ∈ p4, x.block < W.heap.size := by obtain ⟨m, hm⟩ := k4; exact DataW.trod_lt m _ _ _ hm
  obtain ⟨fu4, hf⟩ := h4
  obtain ⟨x4, e4, w4⟩ := op_32 _ _ _ hf
  obtain rfl : cs4 = (e_flow_Total x4).toArray := by rw [← e4]; simp [Value.cells]
  obtain ⟨cs5, rfl, hsz5⟩ := okWide_struct Try.underlying32 (hval 5 32 v5 rfl rfl)
  have k5 := h5
  have lt5 : ∀ x ∈ p5, x.block < W.heap.size := by obtain ⟨m, hm⟩ := k5; exact DataW.trod_lt m _ _ _ hm
  obtain ⟨fu5, hf⟩ := h5
  obtain ⟨x5, e5, w5⟩ := op_32 _ _ _ hf
  obtain rfl : cs5 = (e_flow_Total x5).toArray := by rw [← e5]; simp [Value.cells]
  clear hA0 hval0
  refine Calls.mono (c_law22_FlowSums W x0 a1 cap1 x1 r_1 a2 cap2 x2 r_2 x3 x4 x5 true (sums_eq (fun y hy => wf_u16 (f1 y hy)) ⟨wf_u64 w3.1, wf_u64 w3.2⟩ ⟨wf_u64 w4.1, wf_u64 w4.2⟩ ⟨wf_u64 w5.1, wf_u64 w5.2⟩)) fun e W' ⟨v, he, hv, hM⟩ => ?_
  subst hv
  subst he
  have bel := hM.below
  exact ⟨_, rfl, _, _, _, [], _, [], hW', trodAll_mk1 (shut_bool Try.underlying4 _), (trodAll_cons_mk (Below.trod laidOut (by kernel_rfl) (of_decide_eq_true (by kernel_rfl)) k0 bel lt0) (trodAll_cons_mk (Below.trod laidOut (by kernel_rfl) (of_decide_eq_true (by kernel_rfl)) k1 bel lt1) (trodAll_cons_mk (Below.trod laidOut (by kernel_rfl) (of_decide_eq_true (by kernel_rfl)) k2 bel lt2) (trodAll_cons_mk (Below.trod laidOut (by kernel_rfl) (of_decide_eq_true (by kernel_rfl)) k3 bel lt3) (trodAll_cons_mk (Below.trod laidOut (by kernel_rfl) (of_decide_eq_true (by kernel_rfl)) k4 bel lt4) (trodAll_cons_mk (Below.trod laidOut (by kernel_rfl) (of_decide_eq_true (by kernel_rfl)) k5 bel lt5) trodAll_mk0)))))), rfl, bel.frame _, fun h => by cases h⟩
theorem over : Rows.flowSumsRow.holds Try.pinned (OpenSpec.ofChange Rows.flowSumsSpec) :=
  OpenClaim.holds_of_wide 3 Try.f3 rfl rfl rfl rfl rfl rfl rfl ⟨rfl, rfl, rfl, rfl, rfl⟩ rfl rfl rfl rfl rfl (by kernel_rfl) Try.func3 (by kernel_rfl)
    (of_decide_eq_true (by kernel_rfl)) (by unfold Func.isWrapper; first | (rw [if_pos (by decide +kernel)]; kernel_rfl) | (rw [if_neg (by decide +kernel)]; exact ⟨rfl, rfl⟩))
    (fun os started H enc _ => lifted os started H enc)
/-- The statement. -/
theorem proved : Rows.FlowSumsSaid := over
#print axioms proved
end Go.Proofs.Ytahldlpikknefaa.flowSums
