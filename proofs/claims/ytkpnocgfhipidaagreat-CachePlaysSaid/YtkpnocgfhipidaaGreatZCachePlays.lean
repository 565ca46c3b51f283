/- The last step for the law CachePlays: its arguments are opened, the walk and the plain law are joined. The frame is that of the kit's skeleton; printed by a program of this claim. -/
import Derived.Test.YtkpnocgfhipidaaGreatRows
import Derived.Test.YtkpnocgfhipidaaGreatOxH
import Derived.Test.YtkpnocgfhipidaaGreatW16
import Derived.Test.YtkpnocgfhipidaaGreatLP
set_option linter.unusedVariables false
namespace Go.Proofs.YtkpnocgfhipidaaGreat.cachePlays
open Go Go.Ox Go.ChangeShapes Go.WideShapes Go.ChangeAt Go.RowKit
open Go.ChangeMaps (open_string shut_string)
theorem own : ownKnob Tryz.prog.godebug = none := by kernel_rfl
theorem laidOut : laidOutB Tryz.prog = true := by kernel_rfl
def W_24 (x : T_cache_Bounds) : Prop := (Lit.int .i64 x.f_Flows).wf = true ∧ (Lit.int .u64 x.f_Idle).wf = true ∧ (Lit.int .u64 x.f_Active).wf = true ∧ (Lit.int .u64 x.f_Packets).wf = true ∧ (Lit.int .u64 x.f_Bytes).wf = true
theorem op_24 {H : Type} {en : TypeId × Value → H} {w : World} {base : Nat} {spare : Nat → Bool} {held : Bool} : Opn en Tryz.prog w base spare held 24 e_cache_Bounds W_24 := fun f cs y h => by
  obtain ⟨hl, hf⟩ := opn_fld Tryz.underlying24 h
  have hc : Tryz.prog.cellsOf 24 = 5 := by kernel_rfl
  obtain ⟨a0, h0, p0⟩ := hf 0 0 1 3 (eI .i64) _ rfl (by kernel_rfl) (Opn.int Tryz.underlying3)
  obtain ⟨a1, h1, p1⟩ := hf 1 1 1 22 (eI .u64) _ rfl (by kernel_rfl) (Opn.int Tryz.underlying22)
  obtain ⟨a2, h2, p2⟩ := hf 2 2 1 22 (eI .u64) _ rfl (by kernel_rfl) (Opn.int Tryz.underlying22)
  obtain ⟨a3, h3, p3⟩ := hf 3 3 1 22 (eI .u64) _ rfl (by kernel_rfl) (Opn.int Tryz.underlying22)
  obtain ⟨a4, h4, p4⟩ := hf 4 4 1 22 (eI .u64) _ rfl (by kernel_rfl) (Opn.int Tryz.underlying22)
  have k0 : cs = (eI .i64) a0 ++ cs.drop 1 := cut_drop h0
  have k1 : cs.drop 1 = (eI .u64) a1 ++ cs.drop 2 := cut_drop h1
  have k2 : cs.drop 2 = (eI .u64) a2 ++ cs.drop 3 := cut_drop h2
  have k3 : cs.drop 3 = (eI .u64) a3 ++ cs.drop 4 := cut_drop h3
  have k4 : cs.drop 4 = (eI .u64) a4 ++ cs.drop 5 := cut_drop h4
  have kn : cs.drop 5 = [] := List.drop_of_length_le (by omega)
  refine ⟨⟨a0, a1, a2, a3, a4⟩, ?_, ⟨p0, p1, p2, p3, p4⟩⟩
  rw [k0, k1, k2, k3, k4, kn]
  rfl
def W_39 (x : T_addr_Addr) : Prop := True ∧ (x.f_B.length = 16 ∧ ∀ z ∈ x.f_B, (Lit.int .u8 z).wf = true)
theorem op_39 {H : Type} {en : TypeId × Value → H} {w : World} {base : Nat} {spare : Nat → Bool} {held : Bool} : Opn en Tryz.prog w base spare held 39 e_addr_Addr W_39 := fun f cs y h => by
  obtain ⟨hl, hf⟩ := opn_fld Tryz.underlying39 h
  have hc : Tryz.prog.cellsOf 39 = 17 := by kernel_rfl
  obtain ⟨a0, h0, p0⟩ := hf 0 0 1 4 eB _ rfl (by kernel_rfl) (Opn.bool Tryz.underlying4)
  obtain ⟨a1, h1, p1⟩ := hf 1 1 16 37 (arrC 16 .u8) _ rfl (by kernel_rfl) (Opn.arr Tryz.underlying37 Tryz.underlying5 (by kernel_rfl) (by kernel_rfl))
  have k0 : cs = eB a0 ++ cs.drop 1 := cut_drop h0
  have k1 : cs.drop 1 = (arrC 16 .u8) a1 ++ cs.drop 17 := cut_drop h1
  have kn : cs.drop 17 = [] := List.drop_of_length_le (by omega)
  refine ⟨⟨a0, a1⟩, ?_, ⟨p0, p1⟩⟩
  rw [k0, k1, kn]
  rfl
def W_42 (x : T_packet_Key) : Prop := W_39 x.f_Src ∧ W_39 x.f_Dst ∧ (Lit.int .u8 x.f_Proto).wf = true ∧ (Lit.int .u16 x.f_SrcPort).wf = true ∧ (Lit.int .u16 x.f_DstPort).wf = true
theorem op_42 {H : Type} {en : TypeId × Value → H} {w : World} {base : Nat} {spare : Nat → Bool} {held : Bool} : Opn en Tryz.prog w base spare held 42 e_packet_Key W_42 := fun f cs y h => by
  obtain ⟨hl, hf⟩ := opn_fld Tryz.underlying42 h
  have hc : Tryz.prog.cellsOf 42 = 37 := by kernel_rfl
  obtain ⟨a0, h0, p0⟩ := hf 0 0 17 39 e_addr_Addr _ rfl (by kernel_rfl) (op_39 (w := w) (base := base) (spare := spare) (held := held))
  obtain ⟨a1, h1, p1⟩ := hf 1 17 17 39 e_addr_Addr _ rfl (by kernel_rfl) (op_39 (w := w) (base := base) (spare := spare) (held := held))
  obtain ⟨a2, h2, p2⟩ := hf 2 34 1 5 (eI .u8) _ rfl (by kernel_rfl) (Opn.int Tryz.underlying5)
  obtain ⟨a3, h3, p3⟩ := hf 3 35 1 40 (eI .u16) _ rfl (by kernel_rfl) (Opn.int Tryz.underlying40)
  obtain ⟨a4, h4, p4⟩ := hf 4 36 1 40 (eI .u16) _ rfl (by kernel_rfl) (Opn.int Tryz.underlying40)
  have k0 : cs = e_addr_Addr a0 ++ cs.drop 17 := cut_drop h0
  have k1 : cs.drop 17 = e_addr_Addr a1 ++ cs.drop 34 := cut_drop h1
  have k2 : cs.drop 34 = (eI .u8) a2 ++ cs.drop 35 := cut_drop h2
  have k3 : cs.drop 35 = (eI .u16) a3 ++ cs.drop 36 := cut_drop h3
  have k4 : cs.drop 36 = (eI .u16) a4 ++ cs.drop 37 := cut_drop h4
  have kn : cs.drop 37 = [] := List.drop_of_length_le (by omega)
  refine ⟨⟨a0, a1, a2, a3, a4⟩, ?_, ⟨p0, p1, p2, p3, p4⟩⟩
  rw [k0, k1, k2, k3, k4, kn]
  rfl
def W_44 (x : T_packet_Packet) : Prop := W_42 x.f_Key ∧ (Lit.int .i64 x.f_Length).wf = true ∧ (Lit.int .u8 x.f_Flags).wf = true ∧ True
theorem op_44 {H : Type} {en : TypeId × Value → H} {w : World} {base : Nat} {spare : Nat → Bool} {held : Bool} : Opn en Tryz.prog w base spare held 44 e_packet_Packet W_44 := fun f cs y h => by
  obtain ⟨hl, hf⟩ := opn_fld Tryz.underlying44 h
  have hc : Tryz.prog.cellsOf 44 = 40 := by kernel_rfl
  obtain ⟨a0, h0, p0⟩ := hf 0 0 37 42 e_packet_Key _ rfl (by kernel_rfl) (op_42 (w := w) (base := base) (spare := spare) (held := held))
  obtain ⟨a1, h1, p1⟩ := hf 1 37 1 3 (eI .i64) _ rfl (by kernel_rfl) (Opn.int Tryz.underlying3)
  obtain ⟨a2, h2, p2⟩ := hf 2 38 1 5 (eI .u8) _ rfl (by kernel_rfl) (Opn.int Tryz.underlying5)
  obtain ⟨a3, h3, p3⟩ := hf 3 39 1 4 eB _ rfl (by kernel_rfl) (Opn.bool Tryz.underlying4)
  have k0 : cs = e_packet_Key a0 ++ cs.drop 37 := cut_drop h0
  have k1 : cs.drop 37 = (eI .i64) a1 ++ cs.drop 38 := cut_drop h1
  have k2 : cs.drop 38 = (eI .u8) a2 ++ cs.drop 39 := cut_drop h2
  have k3 : cs.drop 39 = eB a3 ++ cs.drop 40 := cut_drop h3
  have kn : cs.drop 40 = [] := List.drop_of_length_le (by omega)
  refine ⟨⟨a0, a1, a2, a3⟩, ?_, ⟨p0, p1, p2, p3⟩⟩
  rw [k0, k1, k2, k3, kn]
  rfl
def W_46 (x : T_law24_Act) : Prop := (Lit.int .i64 x.f_Do).wf = true ∧ W_44 x.f_Packet ∧ (Lit.int .u8 x.f_Class).wf = true ∧ (Lit.int .u64 x.f_Tick).wf = true
theorem op_46 {H : Type} {en : TypeId × Value → H} {w : World} {base : Nat} {spare : Nat → Bool} {held : Bool} : Opn en Tryz.prog w base spare held 46 e_law24_Act W_46 := fun f cs y h => by
  obtain ⟨hl, hf⟩ := opn_fld Tryz.underlying46 h
  have hc : Tryz.prog.cellsOf 46 = 43 := by kernel_rfl
  obtain ⟨a0, h0, p0⟩ := hf 0 0 1 3 (eI .i64) _ rfl (by kernel_rfl) (Opn.int Tryz.underlying3)
  obtain ⟨a1, h1, p1⟩ := hf 1 1 40 44 e_packet_Packet _ rfl (by kernel_rfl) (op_44 (w := w) (base := base) (spare := spare) (held := held))
  obtain ⟨a2, h2, p2⟩ := hf 2 41 1 5 (eI .u8) _ rfl (by kernel_rfl) (Opn.int Tryz.underlying5)
  obtain ⟨a3, h3, p3⟩ := hf 3 42 1 22 (eI .u64) _ rfl (by kernel_rfl) (Opn.int Tryz.underlying22)
  have k0 : cs = (eI .i64) a0 ++ cs.drop 1 := cut_drop h0
  have k1 : cs.drop 1 = e_packet_Packet a1 ++ cs.drop 41 := cut_drop h1
  have k2 : cs.drop 41 = (eI .u8) a2 ++ cs.drop 42 := cut_drop h2
  have k3 : cs.drop 42 = (eI .u64) a3 ++ cs.drop 43 := cut_drop h3
  have kn : cs.drop 43 = [] := List.drop_of_length_le (by omega)
  refine ⟨⟨a0, a1, a2, a3⟩, ?_, ⟨p0, p1, p2, p3⟩⟩
  rw [k0, k1, k2, k3, kn]
  rfl
set_option maxRecDepth 100000 in
set_option maxHeartbeats 2000000 in
theorem lifted (os : Os) (started : os.Started) (H : Type) (enc : TypeId × Value → H) :
    ReturnsInHanded {} Tryz.checked os 3 .any (Rows.cachePlaysSpec.pre6 enc Tryz.prog Tryz.f3 Rows.cachePlaysRow.domain false) (Rows.cachePlaysSpec.post enc Tryz.prog Tryz.f3 false true false false) := by
  refine returnsInHanded_of_change (C := Tryz.checked) own started (by kernel_rfl) Tryz.func3
    (ChangeSpec.witness6 (enc := enc) (C := Tryz.checked) false ⟨#[], #[.int .u64 0, .agg #[.int .i64 0, .int .u64 0, .int .u64 0, .int .u64 0, .int .u64 0], .slice none 0 0], []⟩ 8 (by kernel_rfl) (by kernel_rfl) (by kernel_rfl) (by kernel_rfl)) ?_
  intro W base args ds gs before hval0 hW hcnd _
  have hval : ∀ (j : Nat) t v, Tryz.f3.params[j]? = some t → args[j]? = some v → Value.okWide Tryz.prog W .any base t v := hval0
  have hW' := hW
  obtain ⟨p, q, hA0, hV, rfl, hfz, hnd⟩ := hW
  have hA : DataW.TrodAll enc Tryz.prog W 0 (fun _ => true) true Tryz.f3.params.toList args.toList ds p := hA0
  rw [Tryz.params3] at hA hval
  obtain ⟨v0, vs0, d0, ds0, p0, q0, hargs, rfl, rfl, h0, r0⟩ := trodAll_cons hA
  obtain ⟨v1, vs1, d1, ds1, p1, q1, rfl, rfl, rfl, h1, r1⟩ := trodAll_cons r0
  obtain ⟨v2, vs2, d2, ds2, p2, q2, rfl, rfl, rfl, h2, r2⟩ := trodAll_cons r1
  obtain ⟨rfl, rfl, rfl⟩ := trodAll_nil r2
  obtain rfl : args = #[v0, v1, v2] := by cases args; simp_all
  obtain ⟨rfl, rfl⟩ := trodVars_none hV
  obtain ⟨a0, rfl, rfl, rfl, w0⟩ := open_int Tryz.underlying22 (hval 0 22 v0 rfl rfl) h0
  obtain ⟨cs1, rfl, hsz1⟩ := okWide_struct Tryz.underlying24 (hval 1 24 v1 rfl rfl)
  have k1 := h1
  have lt1 : ∀ x ∈ p1, x.block < W.heap.size := by obtain ⟨m, hm⟩ := k1; exact DataW.trod_lt m _ _ _ hm
  obtain ⟨fu1, hf⟩ := h1
  obtain ⟨x1, e1, w1⟩ := op_24 _ _ _ hf
  obtain rfl : cs1 = (e_cache_Bounds x1).toArray := by rw [← e1]; simp [Value.cells]
  obtain ⟨a2, len2, cap2, rfl⟩ := okWide_slice Tryz.underlying25 (hval 2 25 v2 rfl rfl)
  have k2 := h2
  have lt2 : ∀ x ∈ p2, x.block < W.heap.size := by obtain ⟨m, hm⟩ := k2; exact DataW.trod_lt m _ _ _ hm
  obtain ⟨fu2, hf⟩ := h2
  obtain ⟨x2, e2, r_2, f2⟩ := op_slice (s := 43) Tryz.underlying25 (by kernel_rfl) (by decide) op_46 hf
  subst e2
  clear hA0 hval0
  refine Calls.mono (c_law24_CachePlays W a0 x1 a2 cap2 x2 r_2 true (plays_eq (wf_u64 w0) ⟨wf_u64 w1.2.1, wf_u64 w1.2.2.1⟩ (fun a ha => ⟨⟨⟨(f2 a ha).2.1.1.1.2.1, (f2 a ha).2.1.1.2.1.2.1, wf_u16 (f2 a ha).2.1.1.2.2.2.1, wf_u16 (f2 a ha).2.1.1.2.2.2.2⟩, fun y hy => wf_u8 ((f2 a ha).2.1.1.1.2.2 y hy), fun y hy => wf_u8 ((f2 a ha).2.1.1.2.1.2.2 y hy), wf_u8 (f2 a ha).2.1.1.2.2.1⟩, wf_u8 (f2 a ha).2.1.2.2.1, wf_u64 (f2 a ha).2.2.2⟩))) fun e W' ⟨v, he, hv, hM⟩ => ?_
  subst hv
  subst he
  have bel := hM.below
  exact ⟨_, rfl, _, _, _, [], _, [], hW', trodAll_mk1 (shut_bool Tryz.underlying4 _), (trodAll_cons_mk (shut_int Tryz.underlying22 w0) (trodAll_cons_mk (Below.trod laidOut (by kernel_rfl) (of_decide_eq_true (by kernel_rfl)) k1 bel lt1) (trodAll_cons_mk (Below.trod laidOut (by kernel_rfl) (of_decide_eq_true (by kernel_rfl)) k2 bel lt2) trodAll_mk0))), rfl, bel.frame _, fun h => by cases h⟩
theorem over : Rows.cachePlaysRow.holds Tryz.pinned (OpenSpec.ofChange Rows.cachePlaysSpec) :=
  OpenClaim.holds_of_wide 3 Tryz.f3 rfl rfl rfl rfl rfl rfl rfl ⟨rfl, rfl, rfl, rfl, rfl⟩ rfl rfl rfl rfl rfl (by kernel_rfl) Tryz.func3 (by kernel_rfl)
    (of_decide_eq_true (by kernel_rfl)) (by unfold Func.isWrapper; first | (rw [if_pos (by decide +kernel)]; kernel_rfl) | (rw [if_neg (by decide +kernel)]; exact ⟨rfl, rfl⟩))
    (fun os started H enc _ => lifted os started H enc)
/-- The statement. -/
theorem proved : Rows.CachePlaysSaid := over
#print axioms proved
end Go.Proofs.YtkpnocgfhipidaaGreat.cachePlays
