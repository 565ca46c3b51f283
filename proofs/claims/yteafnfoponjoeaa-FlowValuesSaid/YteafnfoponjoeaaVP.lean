/- The plain law of the chapter on flow records: FlowValues. No program's code is named here. -/
import Derived.Test.YteafnfoponjoeaaVF
import Derived.Test.YteafnfoponjoeaaOxP
set_option linter.unusedVariables false
namespace Go.Proofs.Yteafnfoponjoeaa
open Go Go.Ox Go.RowKit

theorem works_eq : F_law22_works = some true := by decide +kernel
theorem specs_eq (b : Bool) : ∃ l, F_flow_Specs b = some l ∧ F_ref22_Specs b = some l := by cases b <;> exact ⟨_, rfl, rfl⟩
theorem q_spec_refl (x : T_field_Spec) : q_field_Spec x x = true := by simp [q_field_Spec]
theorem q_val_refl (x : T_ref18_Value) : q_ref18_Value x x = true := by simp [q_ref18_Value]

theorem sameSpecs_L (l : List T_field_Spec) (k : Nat) : ∀ j : Nat, j ≤ l.length → l.length < k + j → l.length < 1000000 → F_docs_SameSpecs_L1 l l k j = some true := by
  induction k with
  | zero => intro j h1 h2; omega
  | succ k ih =>
    intro j h1 h2 h3
    show F_docs_SameSpecs_l1 (F_docs_SameSpecs_L1 l l k) l l j = _
    unfold F_docs_SameSpecs_l1
    by_cases h : j < l.length
    · have e1 : IntKind.i64.wrap ((j : Int) + 1) = ((j + 1 : Nat) : Int) := by rw [wi64 (by omega) (by omega)]; omega
      rw [if_pos (by simp; omega), gidx_nat (List.getElem?_eq_getElem h), Option.bind_some, Option.bind_some]
      unfold F_docs_FieldSpec
      rw [Option.bind_some, if_neg (by rw [q_spec_refl]; decide), e1]
      exact ih (j + 1) (by omega) (by omega) h3
    · rw [if_neg (by simp; omega)]
theorem sameSpecs_eq {l : List T_field_Spec} (h : l.length < 1000000) : F_docs_SameSpecs l l = some true := by
  unfold F_docs_SameSpecs
  rw [if_neg (by simp)]
  exact sameSpecs_L l fuel0 0 (by omega) (by unfold fuel0; omega) h
def v18 (v : T_field_Value) : T_ref18_Value := ⟨v.f_N, strOfNums v.f_B⟩
theorem sameVals_L (l : List T_field_Value) (k : Nat) : ∀ j : Nat, j ≤ l.length → l.length < k + j → l.length < 1000000 → F_docs_SameValues_L1 l (l.map v18) k j = some true := by
  induction k with
  | zero => intro j h1 h2; omega
  | succ k ih =>
    intro j h1 h2 h3
    show F_docs_SameValues_l1 (F_docs_SameValues_L1 l (l.map v18) k) l (l.map v18) j = _
    unfold F_docs_SameValues_l1
    by_cases h : j < l.length
    · have e1 : IntKind.i64.wrap ((j : Int) + 1) = ((j + 1 : Nat) : Int) := by rw [wi64 (by omega) (by omega)]; omega
      have e2 : (l.map v18)[j]? = some (v18 l[j]) := by simp [h]
      rw [if_pos (by simp; omega), gidx_nat (List.getElem?_eq_getElem h), Option.bind_some, gidx_nat e2, Option.bind_some]
      unfold F_docs_FieldValue
      rw [Option.bind_some, if_neg (by rw [show (T_ref18_Value.mk l[j].f_N (strOfNums l[j].f_B)) = v18 l[j] from rfl, q_val_refl]; decide), e1]
      exact ih (j + 1) (by omega) (by omega) h3
    · rw [if_neg (by simp; omega)]
theorem sameVals_eq {l : List T_field_Value} (h : l.length < 1000000) : F_docs_SameValues l (l.map v18) = some true := by
  unfold F_docs_SameValues
  rw [if_neg (by simp)]
  exact sameVals_L l fuel0 0 (by omega) (by unfold fuel0; omega) h
theorem spoil_L (k : Nat) : ∀ (b : List Int) (j : Nat), j ≤ b.length → b.length < k + j → b.length < 1000000 → ∃ c, F_kit_Spoil_L1 k b j = some c := by
  induction k with
  | zero => intro b j h1 h2; omega
  | succ k ih =>
    intro b j h1 h2 h3
    show ∃ c, F_kit_Spoil_l1 (F_kit_Spoil_L1 k) b j = _
    unfold F_kit_Spoil_l1
    by_cases h : j < b.length
    · have e1 : IntKind.i64.wrap ((j : Int) + 1) = ((j + 1 : Nat) : Int) := by rw [wi64 (by omega) (by omega)]; omega
      rw [if_pos (by simp; omega), gidx_nat (List.getElem?_eq_getElem h), Option.bind_some, e1]
      exact ih _ (j + 1) (by simp; omega) (by simp; omega) (by simpa using h3)
    · rw [if_neg (by simp; omega)]
      exact ⟨_, rfl⟩
theorem spoil_eq {b : List Int} (h : b.length < 1000000) : ∃ c, F_kit_Spoil b = some c := spoil_L fuel0 b 0 (by omega) (by unfold fuel0; omega) h

theorem l3_eq {t : Int} {rec : Int → Option Bool} (k : Nat) : ∀ (s : List T_field_Spec) (j : Nat), j ≤ s.length → s.length < k + j → s.length < 1000000 → F_law22_FlowValues_L3 t rec k s j = rec (IntKind.i64.wrap (t + 1)) := by
  induction k with
  | zero => intro b j h1 h2; omega
  | succ k ih =>
    intro b j h1 h2 h3
    show F_law22_FlowValues_l3 (F_law22_FlowValues_L3 t rec k) t rec b j = _
    unfold F_law22_FlowValues_l3
    by_cases h : j < b.length
    · have e1 : IntKind.i64.wrap ((j : Int) + 1) = ((j + 1 : Nat) : Int) := by rw [wi64 (by omega) (by omega)]; omega
      rw [if_pos (by simp; omega), gidx_nat (List.getElem?_eq_getElem h), Option.bind_some, e1]
      exact ih _ (j + 1) (by simp; omega) (by simp; omega) (by simpa using h3)
    · rw [if_neg (by simp; omega)]
theorem l2_eq {t : Int} {rec : Int → Option Bool} {s : List T_field_Spec} (hs : s.length < 1000000) (k : Nat) : ∀ (l : List T_field_Value) (j : Nat), j ≤ l.length → l.length < k + j → l.length < 1000000 → (∀ i, j ≤ i → ∀ x, l[i]? = some x → x.f_B.length < 1000000) → F_law22_FlowValues_L2 t rec s k l j = rec (IntKind.i64.wrap (t + 1)) := by
  induction k with
  | zero => intro b j h1 h2; omega
  | succ k ih =>
    intro b j h1 h2 h3 hb
    show F_law22_FlowValues_l2 (F_law22_FlowValues_L2 t rec s k) t rec s b j = _
    unfold F_law22_FlowValues_l2
    by_cases h : j < b.length
    · have e1 : IntKind.i64.wrap ((j : Int) + 1) = ((j + 1 : Nat) : Int) := by rw [wi64 (by omega) (by omega)]; omega
      obtain ⟨c, hc⟩ := spoil_eq (hb j (Nat.le_refl _) _ (List.getElem?_eq_getElem h))
      rw [if_pos (by simp; omega), gidx_nat (List.getElem?_eq_getElem h), Option.bind_some, hc, Option.bind_some, Int.toNat_natCast, gidx_nat (x := ⟨b[j].f_N, c⟩) (by simp [h]), Option.bind_some, e1]
      refine ih _ (j + 1) (by simp; omega) (by simp; omega) (by simpa using h3) fun i hi x hx => ?_
      rw [List.getElem?_set_ne (by omega), List.getElem?_set_ne (by omega)] at hx
      exact hb i (by omega) x hx
    · rw [if_neg (by simp; omega)]
      exact l3_eq fuel0 s 0 (by omega) (by unfold fuel0; omega) hs
theorem arrEq_refl (n : Nat) (x : List Int) : arrEq n x x = true := by simp [arrEq]
theorem q_addr_refl (x : T_addr_Addr) : q_addr_Addr x x = true := by simp [q_addr_Addr, arrEq_refl]
theorem arrEq_iff {n : Nat} {x y : List Int} : arrEq n x y = true ↔ ∀ i, i < n → x.getD i 0 = y.getD i 0 := by
  unfold arrEq
  rw [List.all_eq_true]
  constructor
  · intro h i hi
    exact eq_of_beq (h i (List.mem_range.2 hi))
  · intro h i hi
    exact beq_iff_eq.2 (h i (List.mem_range.1 hi))
theorem range_get {f : Nat → Int} {n i : Nat} (hi : i < n) : ((List.range n).map f).getD i 0 = f i := by
  simp [List.getD, hi]
theorem cpA_get {n m i : Nat} {xs ys : List Int} (hi : i < n) : (cpA n m xs ys).getD i 0 = if i < m then ys.getD i 0 else xs.getD i 0 := range_get hi
theorem arrL_get {n i : Nat} {xs : List Int} (hi : i < n) : (arrL n xs).getD i 0 = xs.getD i 0 := range_get hi
theorem rep_get {n i : Nat} : (List.replicate n (0 : Int)).getD i 0 = 0 := by
  by_cases h : i < n <;> simp [List.getD, h]
/-- An address whose bytes behind its size are 0. -/
def Rt (a : T_addr_Addr) : Prop := a.f_Six = true ∨ ∀ i, 4 ≤ i → i < 16 → a.f_B.getD i 0 = 0
open Classical in
theorem addr_right (a : T_addr_Addr) : F_addr_Addr_Right a = some (decide (Rt a)) := by
  unfold F_addr_Addr_Right F_addr_Addr_size
  have fin : ∀ s : Nat, s ≤ 16 → (arrEq 16 a.f_B (cpA 16 (Nat.min (arrL 16 a.f_B).length s) (List.replicate 16 0) (arrL 16 a.f_B)) = true ↔ ∀ i, s ≤ i → i < 16 → a.f_B.getD i 0 = 0) := fun s hs => by
    rw [arrEq_iff, arrL_len, show Nat.min 16 s = s from Nat.min_eq_right hs]
    constructor
    · intro h i h1 h2
      have := h i h2
      rw [cpA_get h2, if_neg (by omega), rep_get] at this
      exact this
    · intro h i h2
      rw [cpA_get h2]
      by_cases h1 : i < s
      · rw [if_pos h1, arrL_get h2]
      · rw [if_neg h1, rep_get]; exact h i (by omega) h2
  by_cases h : a.f_Six = true
  · rw [if_pos h, Option.bind_some, gcut_in (by omega) (by omega) (by rw [arrL_len]; omega), Option.bind_some]
    have hl : (List.take ((16 : Int).toNat - (0 : Int).toNat) (List.drop (0 : Int).toNat (arrL 16 (List.replicate 16 0)))).length = 16 := by simp [arrL_len]
    rw [hl]
    congr 1
    rw [Bool.eq_iff_iff, fin 16 (by omega), decide_eq_true_iff]
    exact ⟨fun _ => .inl h, fun _ i h1 h2 => by omega⟩
  · rw [if_neg h, Option.bind_some, gcut_in (by omega) (by omega) (by rw [arrL_len]; omega), Option.bind_some]
    have hl : (List.take ((4 : Int).toNat - (0 : Int).toNat) (List.drop (0 : Int).toNat (arrL 16 (List.replicate 16 0)))).length = 4 := by simp [arrL_len]
    rw [hl]
    congr 1
    rw [Bool.eq_iff_iff, fin 4 (by omega), decide_eq_true_iff]
    exact ⟨.inr, fun k => k.resolve_left h⟩
open Classical in
theorem ref_L (a : T_addr_Addr) (k : Nat) : ∀ j : Nat, j ≤ 16 → 16 < k + j → F_ref04_Right_L1 a k j = some (decide (a.f_Six = true ∨ ∀ i, j ≤ i → i < 16 → a.f_B.getD i 0 = 0)) := by
  induction k with
  | zero => intro j h1 h2; omega
  | succ k ih =>
    intro j h1 h2
    have e0 : F_ref04_Right_L1 a (k + 1) j = F_ref04_Right_l1 (F_ref04_Right_L1 a k) a j := rfl
    rw [e0]
    unfold F_ref04_Right_l1
    by_cases h : j < 16
    · have e1 : IntKind.i64.wrap ((j : Int) + 1) = ((j + 1 : Nat) : Int) := by rw [wi64 (by omega) (by omega)]; omega
      rw [if_pos (by simp; omega)]
      by_cases h6 : a.f_Six = true
      · rw [if_neg (by simp [h6])]
        unfold F_ref04_Right_j1
        rw [if_neg (by decide), e1, ih (j + 1) (by omega) (by omega)]
        congr 1
        simp [h6]
      · rw [if_pos (by simp [h6])]
        have hg : gidxA 16 a.f_B (j : Int) = some (a.f_B.getD j 0) := by unfold gidxA; rw [if_pos ⟨by omega, by omega⟩]; simp
        rw [hg, Option.bind_some]
        unfold F_ref04_Right_j1
        by_cases hz : a.f_B.getD j 0 = 0
        · rw [if_neg (by simp only [hz]; decide), e1, ih (j + 1) (by omega) (by omega)]
          congr 1
          rw [decide_eq_decide]
          constructor
          · intro hh
            refine .inr fun i h3 h4 => ?_
            by_cases hij : i = j
            · subst hij; exact hz
            · exact (hh.resolve_left h6) i (by omega) h4
          · intro hh
            exact .inr fun i h3 h4 => (hh.resolve_left h6) i (by omega) h4
        · rw [if_pos (by simp only [bne_iff_ne]; exact hz)]
          congr 1
          symm
          rw [decide_eq_false_iff_not]
          exact fun hh => hz ((hh.resolve_left h6) j (by omega) h)
    · rw [if_neg (by simp; omega)]
      congr 1
      symm
      rw [decide_eq_true_iff]
      exact .inr fun i h3 h4 => by omega
theorem addr_both (a : T_addr_Addr) : ∃ b, F_addr_Addr_Right a = some b ∧ F_ref04_Right a = some b := by
  refine ⟨_, addr_right a, ?_⟩
  have h := ref_L a fuel0 4 (by omega) (by unfold fuel0; omega)
  refine (show F_ref04_Right a = _ from h).trans ?_
  congr 1
  rw [decide_eq_decide]
  exact Iff.rfl
def k8 (k : T_packet_Key) : T_ref08_Key := ⟨k.f_Src, k.f_Dst, k.f_Proto, k.f_SrcPort, k.f_DstPort⟩
theorem key_eq (k : T_packet_Key) : F_docs_Key k = some (k8 k) := rfl
theorem q_key (k : T_packet_Key) (p q : Int) : q_packet_Key k ⟨k.f_Src, k.f_Dst, k.f_Proto, p, q⟩ = (k.f_SrcPort == p && k.f_DstPort == q) := by
  simp [q_packet_Key, q_addr_refl]
theorem key_right (k : T_packet_Key) : ∃ b, F_packet_Key_Right k = some b ∧ F_ref08_Right (k8 k) = some b := by
  obtain ⟨b1, s1, s2⟩ := addr_both k.f_Src
  obtain ⟨b2, d1, d2⟩ := addr_both k.f_Dst
  unfold F_packet_Key_Right F_ref08_Right F_packet_Key_Right_j1 F_ref08_Right_j1 F_packet_Key_Right_j2 F_ref08_Right_j2
  unfold F_packet_ports F_packet_icmp F_ref08_ports F_ref08_icmp F_packet_ports_j1 F_packet_icmp_j1 F_ref08_ports_j1 F_ref08_icmp_j1
  simp only [k8, s1, s2, d1, d2, q_key]
  by_cases h3 : k.f_Src.f_Six = k.f_Dst.f_Six <;> by_cases h4 : k.f_Proto = 6 <;> by_cases h5 : k.f_Proto = 17 <;> by_cases h6 : k.f_Proto = 1 <;> by_cases h7 : k.f_Proto = 58 <;> by_cases h8 : k.f_SrcPort = 0 <;> cases b1 <;> cases b2 <;> simp [h3, h4, h5, h6, h7, h8]
def r22 (r : T_flow_Record) : T_ref22_Record := ⟨k8 r.f_Key, r.f_Packets, r.f_Bytes, r.f_First, r.f_Last, r.f_Flags, r.f_Reason, r.f_Class⟩
theorem rec_eq (r : T_flow_Record) : F_docs_Record r = some (r22 r) := rfl
theorem rec_right (r : T_flow_Record) : ∃ b, F_flow_Record_Right r = some b ∧ F_ref22_Right (r22 r) = some b := by
  obtain ⟨b, h1, h2⟩ := key_right r.f_Key
  unfold F_flow_Record_Right F_ref22_Right F_flow_Record_Right_j1 F_ref22_Right_j1
  simp only [r22, h1, h2, Option.bind_some]
  have e : decide (0 < r.f_Packets) = decide (1 ≤ r.f_Packets) := by rw [decide_eq_decide]; omega
  rw [e]
  by_cases g1 : 1 ≤ r.f_Packets <;> by_cases g2 : r.f_First ≤ r.f_Last <;> by_cases g3 : 1 ≤ r.f_Reason <;> cases b <;> simp [g1, g2, g3] <;> rfl

/-- The bytes of an address. -/
def bs (a : T_addr_Addr) : List Int := if a.f_Six = true then (List.range 16).map fun i => a.f_B.getD i 0 else (List.range 4).map fun i => a.f_B.getD i 0
theorem bytes_eq (a : T_addr_Addr) : F_addr_Addr_Bytes a = some (bs a) := by
  obtain ⟨six, B⟩ := a
  cases six <;> kernel_rfl
theorem rbytes_eq (a : T_addr_Addr) : F_ref04_Bytes a = some (bs a) := by
  obtain ⟨six, B⟩ := a
  cases six <;> kernel_rfl
def ns (r : T_flow_Record) : List Int := [IntKind.u64.wrap r.f_Key.f_Proto, IntKind.u64.wrap r.f_Key.f_SrcPort, IntKind.u64.wrap r.f_Key.f_DstPort, r.f_Bytes, r.f_Packets, r.f_First, r.f_Last, IntKind.u64.wrap r.f_Flags, IntKind.u64.wrap r.f_Reason, IntKind.u64.wrap r.f_Class]
def vals (r : T_flow_Record) (x y : List Int) : List T_field_Value := ⟨0, x⟩ :: ⟨0, y⟩ :: (ns r).map fun n => ⟨n, []⟩
theorem vals_L (r : T_flow_Record) (x y : List Int) : F_flow_Values_L1 r fuel0 [⟨0, x⟩, ⟨0, y⟩] 0 = some (vals r x y, 0) := by kernel_rfl
theorem rvals_L (r : T_flow_Record) (x y : List Int) : F_ref22_Values_L1 (r22 r) fuel0 [⟨0, strOfNums x⟩, ⟨0, strOfNums y⟩] 0 = some ((vals r x y).map v18, 0) := by kernel_rfl
theorem bs_len (a : T_addr_Addr) : (bs a).length < 1000000 := by unfold bs; split <;> simp
theorem values_both (r : T_flow_Record) : ∃ l e, F_flow_Values r = some (l, e) ∧ F_ref22_Values (r22 r) = some (l.map v18, e) ∧ l.length < 1000000 ∧ ∀ x ∈ l, x.f_B.length < 1000000 := by
  obtain ⟨b, h1, h2⟩ := rec_right r
  unfold F_flow_Values F_ref22_Values
  rw [h1, h2, Option.bind_some, Option.bind_some]
  cases b with
  | false => exact ⟨[], 2, by rw [if_pos (by decide)], by rw [if_pos (by decide)]; rfl, by simp, by simp⟩
  | true =>
    rw [if_neg (by decide), if_neg (by decide)]
    have e1 : (r22 r).f_Key.f_Src = r.f_Key.f_Src := rfl
    have e2 : (r22 r).f_Key.f_Dst = r.f_Key.f_Dst := rfl
    rw [e1, e2, bytes_eq, bytes_eq, rbytes_eq, rbytes_eq, Option.bind_some, Option.bind_some, Option.bind_some, Option.bind_some, vals_L, rvals_L]
    refine ⟨_, _, rfl, rfl, by simp [vals, ns], fun x hx => ?_⟩
    simp only [vals, List.mem_cons, List.mem_map] at hx
    rcases hx with rfl | rfl | ⟨n, _, rfl⟩
    · exact bs_len _
    · exact bs_len _
    · simp
theorem specs_len (b : Bool) : ∃ l, F_flow_Specs b = some l ∧ F_ref22_Specs b = some l ∧ l.length < 1000000 := by cases b <;> exact ⟨_, rfl, rfl, by decide⟩
theorem l1_eq {r : T_flow_Record} {six : Bool} {l : List T_field_Value} {e : Int} (h1 : F_flow_Values r = some (l, e)) (h3 : l.length < 1000000) (h4 : ∀ x ∈ l, x.f_B.length < 1000000) (k : Nat) : ∀ t : Nat, t ≤ 2 → 2 < k + t → F_law22_FlowValues_L1 r six (l.map v18, e) k t = some true := by
  obtain ⟨s, s1, s2, s3⟩ := specs_len six
  induction k with
  | zero => intro t h1 h2; omega
  | succ k ih =>
    intro t g1 g2
    show F_law22_FlowValues_l1 (F_law22_FlowValues_L1 r six (l.map v18, e) k) r six (l.map v18, e) t = _
    unfold F_law22_FlowValues_l1
    by_cases h : t < 2
    · have e1 : IntKind.i64.wrap ((t : Int) + 1) = ((t + 1 : Nat) : Int) := by rw [wi64 (by omega) (by omega)]; omega
      rw [if_pos (by simp; omega), h1, Option.bind_some, s1, Option.bind_some, if_neg (by simp), sameVals_eq h3, Option.bind_some, if_neg (by decide), s2, Option.bind_some, sameSpecs_eq s3, Option.bind_some]
      unfold F_law22_FlowValues_j1
      rw [if_neg (by decide)]
      refine (l2_eq s3 fuel0 l 0 (by omega) (by unfold fuel0; omega) h3 fun i _ x hx => h4 x (List.mem_of_getElem? hx)).trans ?_
      rw [e1]
      exact ih (t + 1) (by omega) (by omega)
    · rw [if_neg (by simp; omega)]
      have e3 : ∀ b, F_flow_Number b = F_ref22_Number b := fun b => by cases b <;> rfl
      obtain ⟨n, e4⟩ : ∃ n, F_ref22_Number six = some n := by cases six <;> exact ⟨_, rfl⟩
      rw [e3, e4, Option.bind_some, Option.bind_some, if_pos (by simp), works_eq]
      rfl
theorem values_eq (r : T_flow_Record) (six : Bool) : F_law22_FlowValues r six = some true := by
  obtain ⟨l, e, h1, h2, h3, h4⟩ := values_both r
  unfold F_law22_FlowValues
  rw [rec_eq, Option.bind_some, h2, Option.bind_some]
  exact l1_eq h1 h3 h4 fuel0 0 (by omega) (by unfold fuel0; omega)
end Go.Proofs.Yteafnfoponjoeaa
