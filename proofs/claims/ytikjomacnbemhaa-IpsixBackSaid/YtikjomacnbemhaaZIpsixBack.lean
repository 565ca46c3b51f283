/- The last step for the law IpsixBack: its arguments are opened, the walk and the plain law are joined. The frame is that of the kit's skeleton; printed by a program of this claim. -/
import Derived.Test.YtikjomacnbemhaaRows
import Derived.Test.YtikjomacnbemhaaOxH
import Derived.Test.YtikjomacnbemhaaW
import Derived.Test.YtikjomacnbemhaaP
set_option linter.unusedVariables false
namespace Go.Proofs.Ytikjomacnbemhaa.ipsixBack
open Go Go.Ox Go.ChangeShapes Go.WideShapes Go.ChangeAt Go.RowKit
open Go.ChangeMaps (open_string shut_string)
theorem own : ownKnob Try.prog.godebug = none := by kernel_rfl
theorem laidOut : laidOutB Try.prog = true := by kernel_rfl
def W_52 (x : T_ipsix_Header) : Prop := (Lit.int .u8 x.f_Class).wf = true ∧ (Lit.int .u32 x.f_Flow).wf = true ∧ (Lit.int .u16 x.f_Length).wf = true ∧ (Lit.int .u8 x.f_Next).wf = true ∧ (Lit.int .u8 x.f_Hops).wf = true ∧ (x.f_Src.length = 16 ∧ ∀ z ∈ x.f_Src, (Lit.int .u8 z).wf = true) ∧ (x.f_Dst.length = 16 ∧ ∀ z ∈ x.f_Dst, (Lit.int .u8 z).wf = true)
theorem op_52 {H : Type} {en : TypeId × Value → H} {w : World} {base : Nat} {spare : Nat → Bool} {held : Bool} : Opn en Try.prog w base spare held 52 e_ipsix_Header W_52 := fun f cs y h => by
  obtain ⟨hl, hf⟩ := opn_fld Try.underlying52 h
  have hc : Try.prog.cellsOf 52 = 37 := by kernel_rfl
  obtain ⟨a0, h0, p0⟩ := hf 0 0 1 5 (eI .u8) _ rfl (by kernel_rfl) (Opn.int Try.underlying5)
  obtain ⟨a1, h1, p1⟩ := hf 1 1 1 37 (eI .u32) _ rfl (by kernel_rfl) (Opn.int Try.underlying37)
  obtain ⟨a2, h2, p2⟩ := hf 2 2 1 36 (eI .u16) _ rfl (by kernel_rfl) (Opn.int Try.underlying36)
  obtain ⟨a3, h3, p3⟩ := hf 3 3 1 5 (eI .u8) _ rfl (by kernel_rfl) (Opn.int Try.underlying5)
  obtain ⟨a4, h4, p4⟩ := hf 4 4 1 5 (eI .u8) _ rfl (by kernel_rfl) (Opn.int Try.underlying5)
  obtain ⟨a5, h5, p5⟩ := hf 5 5 16 50 (arrC 16 .u8) _ rfl (by kernel_rfl) (Opn.arr Try.underlying50 Try.underlying5 (by kernel_rfl) (by kernel_rfl))
  obtain ⟨a6, h6, p6⟩ := hf 6 21 16 50 (arrC 16 .u8) _ rfl (by kernel_rfl) (Opn.arr Try.underlying50 Try.underlying5 (by kernel_rfl) (by kernel_rfl))
  have k0 : cs = (eI .u8) a0 ++ cs.drop 1 := cut_drop h0
  have k1 : cs.drop 1 = (eI .u32) a1 ++ cs.drop 2 := cut_drop h1
  have k2 : cs.drop 2 = (eI .u16) a2 ++ cs.drop 3 := cut_drop h2
  have k3 : cs.drop 3 = (eI .u8) a3 ++ cs.drop 4 := cut_drop h3
  have k4 : cs.drop 4 = (eI .u8) a4 ++ cs.drop 5 := cut_drop h4
  have k5 : cs.drop 5 = (arrC 16 .u8) a5 ++ cs.drop 21 := cut_drop h5
  have k6 : cs.drop 21 = (arrC 16 .u8) a6 ++ cs.drop 37 := cut_drop h6
  have kn : cs.drop 37 = [] := List.drop_of_length_le (by omega)
  refine ⟨⟨a0, a1, a2, a3, a4, a5, a6⟩, ?_, ⟨p0, p1, p2, p3, p4, p5, p6⟩⟩
  rw [k0, k1, k2, k3, k4, k5, k6, kn]
  rfl
def W_63 (x : T_ipsix_Ext) : Prop := (Lit.int .u8 x.f_Kind).wf = true ∧ (∀ a ∈ x.f_Data, (Lit.int .u8 a).wf = true)
theorem op_63 {H : Type} {en : TypeId × Value → H} {w : World} {base : Nat} {spare : Nat → Bool} {held : Bool} : ∀ (f : Nat) (cs : List Value) (y : DataW H × List MemPlace), DataW.trod en Try.prog w base spare held f 63 cs = some y → ∃ a, R_ipsix_Ext [] w a cs ∧ W_63 a := fun f cs y h => by
  obtain ⟨hl, hf⟩ := opn_fld Try.underlying63 h
  have hc : Try.prog.cellsOf 63 = 2 := by kernel_rfl
  obtain ⟨a0, h0, p0⟩ := hf 0 0 1 5 (eI .u8) _ rfl (by kernel_rfl) (Opn.int Try.underlying5)
  obtain ⟨⟨A1, c1, a1⟩, h1, r1, p1⟩ := hf 1 1 1 31 (fun y : Option Addr × Nat × List Int => [.slice y.1 y.2.2.length y.2.1]) _ rfl (by kernel_rfl) (Opn.sl Try.underlying31 Try.underlying5 (by kernel_rfl))
  have k0 : cs = (eI .u8) a0 ++ cs.drop 1 := cut_drop h0
  have k1 : cs.drop 1 = [.slice A1 a1.length c1] ++ cs.drop 2 := cut_drop h1
  have kn : cs.drop 2 = [] := List.drop_of_length_le (by omega)
  refine ⟨⟨a0, a1⟩, ⟨A1, c1, ?_, r1, Off.nil⟩, ⟨p0, p1⟩⟩
  rw [k0, k1, kn]
  rfl
def R_ipsix_Chain (S : List (Option Nat)) (w : World) (x : T_ipsix_Chain) (cs : List Value) : Prop := ∃ (A0 : Option Addr) (c0 : Nat), cs = [.slice A0 x.f_Exts.length c0, .int .u8 x.f_Proto] ∧ RdD R_ipsix_Ext S w A0 c0 2 x.f_Exts ∧ True
def W_24 (x : T_ipsix_Chain) : Prop := (∀ a ∈ x.f_Exts, W_63 a) ∧ (Lit.int .u8 x.f_Proto).wf = true
theorem op_24 {H : Type} {en : TypeId × Value → H} {w : World} {base : Nat} {spare : Nat → Bool} {held : Bool} : ∀ (f : Nat) (cs : List Value) (y : DataW H × List MemPlace), DataW.trod en Try.prog w base spare held f 24 cs = some y → ∃ a, R_ipsix_Chain [] w a cs ∧ W_24 a := fun f cs y h => by
  obtain ⟨hl, hf⟩ := opn_fld Try.underlying24 h
  have hc : Try.prog.cellsOf 24 = 2 := by kernel_rfl
  obtain ⟨⟨A0, c0, a0⟩, h0, r0, p0⟩ := hf 0 0 1 22 (fun y : Option Addr × Nat × List T_ipsix_Ext => [.slice y.1 y.2.2.length y.2.1]) _ rfl (by kernel_rfl) (Opn.slD Try.underlying22 (by kernel_rfl) (by decide) len_ipsix_Ext op_63)
  obtain ⟨a1, h1, p1⟩ := hf 1 1 1 5 (eI .u8) _ rfl (by kernel_rfl) (Opn.int Try.underlying5)
  have k0 : cs = [.slice A0 a0.length c0] ++ cs.drop 1 := cut_drop h0
  have k1 : cs.drop 1 = (eI .u8) a1 ++ cs.drop 2 := cut_drop h1
  have kn : cs.drop 2 = [] := List.drop_of_length_le (by omega)
  refine ⟨⟨a0, a1⟩, ⟨A0, c0, ?_, r0, trivial⟩, ⟨p0, p1⟩⟩
  rw [k0, k1, kn]
  rfl
set_option maxRecDepth 100000 in
set_option maxHeartbeats 2000000 in
theorem lifted (os : Os) (started : os.Started) (H : Type) (enc : TypeId × Value → H) :
    ReturnsInHanded {} Try.checked os 6 .any (Rows.ipsixBackSpec.pre6 enc Try.prog Try.f6 Rows.ipsixBackRow.domain false) (Rows.ipsixBackSpec.post enc Try.prog Try.f6 false true false false) := by
  refine returnsInHanded_of_change (C := Try.checked) own started (by kernel_rfl) Try.func6
    (ChangeSpec.witness6 (enc := enc) (C := Try.checked) false ⟨#[], #[.agg #[.int .u8 0, .int .u32 0, .int .u16 0, .int .u8 0, .int .u8 0, .int .u8 0, .int .u8 0, .int .u8 0, .int .u8 0, .int .u8 0, .int .u8 0, .int .u8 0, .int .u8 0, .int .u8 0, .int .u8 0, .int .u8 0, .int .u8 0, .int .u8 0, .int .u8 0, .int .u8 0, .int .u8 0, .int .u8 0, .int .u8 0, .int .u8 0, .int .u8 0, .int .u8 0, .int .u8 0, .int .u8 0, .int .u8 0, .int .u8 0, .int .u8 0, .int .u8 0, .int .u8 0, .int .u8 0, .int .u8 0, .int .u8 0, .int .u8 0], .agg #[.slice none 0 0, .int .u8 0], .slice none 0 0, .int .u8 0, .slice none 0 0], []⟩ 8 (by kernel_rfl) (by kernel_rfl) (by kernel_rfl) (by kernel_rfl)) ?_
  intro W base args ds gs before hval0 hW hcnd _
  have hval : ∀ (j : Nat) t v, Try.f6.params[j]? = some t → args[j]? = some v → Value.okWide Try.prog W .any base t v := hval0
  have hW' := hW
  obtain ⟨p, q, hA0, hV, rfl, hfz, hnd⟩ := hW
  have hA : DataW.TrodAll enc Try.prog W 0 (fun _ => true) true Try.f6.params.toList args.toList ds p := hA0
  rw [Try.params6] at hA hval
  obtain ⟨v0, vs0, d0, ds0, p0, q0, hargs, rfl, rfl, h0, r0⟩ := trodAll_cons hA
  obtain ⟨v1, vs1, d1, ds1, p1, q1, rfl, rfl, rfl, h1, r1⟩ := trodAll_cons r0
  obtain ⟨v2, vs2, d2, ds2, p2, q2, rfl, rfl, rfl, h2, r2⟩ := trodAll_cons r1
  obtain ⟨v3, vs3, d3, ds3, p3, q3, rfl, rfl, rfl, h3, r3⟩ := trodAll_cons r2
  obtain ⟨v4, vs4, d4, ds4, p4, q4, rfl, rfl, rfl, h4, r4⟩ := trodAll_cons r3
  obtain ⟨rfl, rfl, rfl⟩ := trodAll_nil r4
  obtain rfl : args = #[v0, v1, v2, v3, v4] := by cases args; simp_all
  obtain ⟨rfl, rfl⟩ := trodVars_none hV
  obtain ⟨cs0, rfl, hsz0⟩ := okWide_struct Try.underlying52 (hval 0 52 v0 rfl rfl)
  have k0 := h0
  have lt0 : ∀ x ∈ p0, x.block < W.heap.size := by obtain ⟨m, hm⟩ := k0; exact DataW.trod_lt m _ _ _ hm
  obtain ⟨fu0, hf⟩ := h0
  obtain ⟨x0, e0, w0⟩ := op_52 _ _ _ hf
  obtain rfl : cs0 = (e_ipsix_Header x0).toArray := by rw [← e0]; simp [Value.cells]
  obtain ⟨cs1, rfl, hsz1⟩ := okWide_struct Try.underlying24 (hval 1 24 v1 rfl rfl)
  have k1 := h1
  have lt1 : ∀ x ∈ p1, x.block < W.heap.size := by obtain ⟨m, hm⟩ := k1; exact DataW.trod_lt m _ _ _ hm
  obtain ⟨fu1, hf⟩ := h1
  obtain ⟨x1, ⟨A1_0, c1_0, e1, h1_0, o1_0⟩, w1⟩ := op_24 _ _ _ hf
  obtain rfl : cs1 = _ := by have e := congrArg List.toArray e1; simp only [Value.cells, Array.toArray_toList] at e; exact e
  obtain ⟨a2, len2, cap2, rfl⟩ := okWide_slice Try.underlying31 (hval 2 31 v2 rfl rfl)
  have k2 := h2
  have lt2 : ∀ x ∈ p2, x.block < W.heap.size := by obtain ⟨m, hm⟩ := k2; exact DataW.trod_lt m _ _ _ hm
  obtain ⟨fu2, hf⟩ := h2
  obtain ⟨x2, e2, r_2, f2⟩ := op_ints Try.underlying31 Try.underlying5 (by kernel_rfl) hf
  subst e2
  obtain ⟨a3, rfl, rfl, rfl, w3⟩ := open_int Try.underlying5 (hval 3 5 v3 rfl rfl) h3
  obtain ⟨a4, len4, cap4, rfl⟩ := okWide_slice Try.underlying31 (hval 4 31 v4 rfl rfl)
  have k4 := h4
  have lt4 : ∀ x ∈ p4, x.block < W.heap.size := by obtain ⟨m, hm⟩ := k4; exact DataW.trod_lt m _ _ _ hm
  obtain ⟨fu4, hf⟩ := h4
  obtain ⟨x4, e4, r_4, f4⟩ := op_ints Try.underlying31 Try.underlying5 (by kernel_rfl) hf
  subst e4
  clear hA0 hval0
  refine Calls.mono (c_law06_IpsixBack W x0 x1 _ _ h1_0 a2 cap2 x2 r_2 a3 a4 cap4 x4 r_4 true (back_eq ⟨wf_u8 w0.1, wf_u32 w0.2.1, wf_u16 w0.2.2.1, wf_u8 w0.2.2.2.1, wf_u8 w0.2.2.2.2.1, ⟨w0.2.2.2.2.2.1.1, fun y hy => wf_u8 (w0.2.2.2.2.2.1.2 y hy)⟩, ⟨w0.2.2.2.2.2.2.1, fun y hy => wf_u8 (w0.2.2.2.2.2.2.2 y hy)⟩⟩ (fun x hx => ⟨wf_u8 (w1.1 x hx).1, fun y hy => wf_u8 ((w1.1 x hx).2 y hy)⟩) (wf_u8 w1.2) (fun y hy => wf_u8 (f2 y hy)) (wf_u8 w3) (fun y hy => wf_u8 (f4 y hy)))) fun e W' ⟨v, he, hv, hM⟩ => ?_
  subst hv
  subst he
  have bel := hM.below
  exact ⟨_, rfl, _, _, _, [], _, [], hW', trodAll_mk1 (shut_bool Try.underlying4 _), (trodAll_cons_mk (Below.trod laidOut (by kernel_rfl) (of_decide_eq_true (by kernel_rfl)) k0 bel lt0) (trodAll_cons_mk (Below.trod laidOut (by kernel_rfl) (of_decide_eq_true (by kernel_rfl)) k1 bel lt1) (trodAll_cons_mk (Below.trod laidOut (by kernel_rfl) (of_decide_eq_true (by kernel_rfl)) k2 bel lt2) (trodAll_cons_mk (shut_int Try.underlying5 w3) (trodAll_cons_mk (Below.trod laidOut (by kernel_rfl) (of_decide_eq_true (by kernel_rfl)) k4 bel lt4) trodAll_mk0))))), rfl, bel.frame _, fun h => by cases h⟩
theorem over : Rows.ipsixBackRow.holds Try.pinned (OpenSpec.ofChange Rows.ipsixBackSpec) :=
  OpenClaim.holds_of_wide 6 Try.f6 rfl rfl rfl rfl rfl rfl rfl ⟨rfl, rfl, rfl, rfl, rfl⟩ rfl rfl rfl rfl rfl (by kernel_rfl) Try.func6 (by kernel_rfl)
    (of_decide_eq_true (by kernel_rfl)) (by unfold Func.isWrapper; first | (rw [if_pos (by decide +kernel)]; kernel_rfl) | (rw [if_neg (by decide +kernel)]; exact ⟨rfl, rfl⟩))
    (fun os started H enc _ => lifted os started H enc)
/-- The statement. -/
theorem proved : Rows.IpsixBackSaid := over
#print axioms proved
end Go.Proofs.Ytikjomacnbemhaa.ipsixBack
