/- Plain text: what each kind of note makes of a model. -/
import Derived.Test.YtidbgejnkpoeeaaAP
set_option linter.unusedVariables false
namespace Go.Proofs.Ytidbgejnkpoeeaa
open Go Go.Ox
/-- Numbers of a note. -/
structure NW (n : T_model_Note) : Prop where
  rl : n.f_Records.length ≤ 10
  f : 0 ≤ n.f_First
  n : 0 ≤ n.f_Next
theorem trunc_L {m : M} {n : T_model_Note} {cut : List Int} (hc : cut.length ≤ 1000) (hr : ∀ x ∈ cut, 0 ≤ x ∧ x < m.f_entries.length) : ∀ (f t : Nat) (es : List En), EI m.f_entries es (Ts m.f_boot) → t ≤ cut.length → cut.length < f + t →
    ∃ es', F_model_Model_truncate_L1 m n cut f es (t : Int) = some (true, T_model_Model.mk m.f_forwarded m.f_cached m.f_lost es' m.f_line n.f_First m.f_boot) ∧ EI m.f_entries es' (Ts m.f_boot)
  | 0, t, es, h, h1, h2 => by omega
  | f + 1, t, es, h, h1, h2 => by
    show ∃ es', F_model_Model_truncate_l1 (F_model_Model_truncate_L1 m n cut f) m n cut es (t : Int) = _ ∧ _
    unfold F_model_Model_truncate_l1
    by_cases ht : t < cut.length
    · have hl := h.len
      have hx := hr cut[t] (List.getElem_mem ht)
      have hte : cut[t].toNat < es.length := by omega
      have hj := List.getElem?_eq_getElem hte
      rw [if_pos (dT (by omega)), gidx_get ht, Option.bind_some, gidx_in hx.1 (by omega), Option.bind_some, nxk (by omega)]
      exact trunc_L hc hr f (t + 1) _ (h.set hj rfl rfl (fun h => by cases h)) (by omega) (by omega)
    · rw [if_neg (dF (by omega))]
      exact ⟨_, rfl, h⟩
theorem trunc_j {m : M} {c : Int} {i : Nat} (h : Inv m c i) (hi : i ≤ 100) {n : T_model_Note} (w : NW n) (b : Bool) (hb : b = false → n.f_First ≤ m.f_line.length) : ∃ b' m', F_model_Model_truncate_j1 m n b = some (b', m') ∧ Inv m' c (i + 1) := by
  unfold F_model_Model_truncate_j1
  cases b with
  | true => exact ⟨_, _, rfl, h.up⟩
  | false =>
    have hll := h.ll
    rw [if_neg (by decide), gcut_in (Int.le_refl 0) w.f (hb rfl), Option.bind_some]
    have hlen : ((m.f_line.drop (0 : Int).toNat).take (n.f_First.toNat - (0 : Int).toNat)).length ≤ 100 := by simp only [List.length_take, List.length_drop]; omega
    obtain ⟨es', h1, h2⟩ := trunc_L (m := m) (n := n) (by omega) (fun x hx => h.lr x (cut_mem x hx)) fuel0 0 m.f_entries h.ei (Nat.zero_le _) (fuel_lt (by omega : ((m.f_line.drop (0 : Int).toNat).take (n.f_First.toNat - (0 : Int).toNat)).length ≤ 1000000))
    exact ⟨_, _, h1, h.of h2 h.up.ll fun x hx => hx⟩
theorem trunc_ok {m : M} {c : Int} {i : Nat} (h : Inv m c i) (hi : i ≤ 100) {n : T_model_Note} (w : NW n) : ∃ b m', F_model_Model_truncate m n = some (b, m') ∧ Inv m' c (i + 1) := by
  unfold F_model_Model_truncate
  split
  · exact trunc_j h hi w true (fun h => by cases h)
  · rw [next_eq h hi, Option.bind_some]
    split
    · exact trunc_j h hi w true (fun h => by cases h)
    · rename_i h2
      have h3 : n.f_First ≤ m.f_line.length := by
        have : ¬ ((m.f_line.length : Int) < n.f_First) := fun h => h2 (decide_eq_true h)
        omega
      obtain ⟨b, hb⟩ := all1_tot h hi (p := 0) (q := n.f_First) (Int.le_refl 0) w.f h3
      rw [hb, Option.bind_some]
      exact trunc_j h hi w _ fun _ => h3
/-! ### A credit -/
theorem split_at {α : Type} {es : List α} {j : Nat} (hj : j < es.length) : ∃ pre post, es = pre ++ es[j] :: post ∧ pre.length = j := ⟨es.take j, es.drop (j + 1), by rw [← List.drop_eq_getElem_cons, List.take_append_drop], by simp; omega⟩
theorem count_set {es : List En} {j : Nat} (hj : j < es.length) {e' : En} (h : e'.f_Credited = true) : (es.set j e').countP (fun e => e.f_Credited) = es.countP (fun e => e.f_Credited) + (if es[j].f_Credited = true then 0 else 1) := by
  obtain ⟨pre, post, h1, h2⟩ := split_at hj
  generalize es[j] = e at *
  subst h1; subst h2
  rw [List.set_append_right _ _ (Nat.le_refl _), Nat.sub_self, List.set_cons_zero, List.countP_append, List.countP_append, List.countP_cons, List.countP_cons, if_pos h]
  cases he : e.f_Credited <;> simp <;> omega
theorem credit_L {m : M} {c : Int} {i : Nat} (h : Inv m c i) (hi : i ≤ 100) {n : T_model_Note} : ∀ (f t : Nat), t ≤ m.f_entries.length → t < f →
    ∃ b m', F_model_Model_credit_L1 m n f ((t : Int) - 1) = some (b, m') ∧ Inv m' (if b = true then c + 1 else c) (i + 1)
  | 0, t, h1, h2 => by omega
  | f + 1, 0, h1, h2 => by
    show ∃ b m', F_model_Model_credit_l1 (F_model_Model_credit_L1 m n f) m n (((0 : Nat) : Int) - 1) = _ ∧ _
    unfold F_model_Model_credit_l1
    rw [if_neg (dF (by omega))]
    exact ⟨_, _, rfl, h.up⟩
  | f + 1, t + 1, h1, h2 => by
    show ∃ b m', F_model_Model_credit_l1 (F_model_Model_credit_L1 m n f) m n (((t + 1 : Nat) : Int) - 1) = _ ∧ _
    have hel := h.el
    have e1 : ((t + 1 : Nat) : Int) - 1 = (t : Int) := by omega
    have ht : t < m.f_entries.length := by omega
    have key : ∀ b, ∃ b' m', F_model_Model_credit_j1 m (t : Int) (F_model_Model_credit_L1 m n f) m.f_entries[t] b = some (b', m') ∧ Inv m' (if b' = true then c + 1 else c) (i + 1) := fun b => by
      unfold F_model_Model_credit_j1
      cases b with
      | false =>
        rw [if_neg (by decide), wi64 (by omega) (by omega)]
        exact credit_L h hi f t (by omega) (by omega)
      | true =>
        rw [if_pos rfl, gidx_get ht, Option.bind_some]
        refine ⟨_, _, rfl, by simp only [List.length_set]; omega, fun e he => ?_, h.up.ll, fun x hx => by simp only [List.length_set]; exact h.lr x hx, ?_, fun e he => ?_, h.up.sm⟩
        · rcases List.mem_or_eq_of_mem_set he with he | rfl
          · exact h.er e he
          · exact h.er m.f_entries[t] (List.getElem_mem ht)
        · simp only [Int.toNat_natCast]
          rw [count_set ht rfl, h.cr]
          cases m.f_entries[t].f_Credited <;> simp
        · rcases List.mem_or_eq_of_mem_set he with he | rfl
          · exact h.ts e he
          · exact h.ts m.f_entries[t] (List.getElem_mem ht)
    unfold F_model_Model_credit_l1
    rw [e1, if_pos (dT (by omega)), gidx_get ht, Option.bind_some]
    split <;> exact key _
theorem credit_ok {m : M} {c : Int} {i : Nat} (h : Inv m c i) (hi : i ≤ 100) (n : T_model_Note) : ∃ b m', F_model_Model_credit m n = some (b, m') ∧ Inv m' (if b = true then c + 1 else c) (i + 1) := by
  have hel := h.el
  unfold F_model_Model_credit
  rw [wi64 (by omega) (by omega)]
  exact credit_L h hi fuel0 m.f_entries.length (Nat.le_refl _) (fuel_lt (by omega))
/-! ### A crash -/
theorem crash_L2 {m : M} {n : T_model_Note} {ln cut : List Int} (hc : cut.length ≤ 1000) (hr : ∀ x ∈ cut, 0 ≤ x ∧ x < m.f_entries.length) : ∀ (f t : Nat) (es : List En), EI m.f_entries es (Ts n.f_Epoch) → t ≤ cut.length → cut.length < f + t →
    ∃ es' a l, F_model_Model_crash_L2 m n ln cut f es (t : Int) = some (true, T_model_Model.mk m.f_forwarded a l es' ln n.f_First n.f_Epoch) ∧ EI m.f_entries es' (Ts n.f_Epoch)
  | 0, t, es, h, h1, h2 => by omega
  | f + 1, t, es, h, h1, h2 => by
    show ∃ es' a l, F_model_Model_crash_l2 (F_model_Model_crash_L2 m n ln cut f) m n ln cut es (t : Int) = _ ∧ _
    unfold F_model_Model_crash_l2
    by_cases ht : t < cut.length
    · have hl := h.len
      have hx := hr cut[t] (List.getElem_mem ht)
      have hte : cut[t].toNat < es.length := by omega
      have hj := List.getElem?_eq_getElem hte
      rw [if_pos (dT (by omega)), gidx_get ht, Option.bind_some, gidx_in hx.1 (by omega), Option.bind_some, gidx_in hx.1 (by simp only [List.length_set]; omega), Option.bind_some, nxk (by omega)]
      refine crash_L2 hc hr f (t + 1) _ ?_ (by omega) (by omega)
      simp only [List.getElem_set_self, List.set_set]
      exact h.set hj rfl rfl (fun _ h => by cases h)
    · rw [if_neg (dF (by omega))]
      exact ⟨_, _, _, rfl, h⟩
/-- The first t entries are not there. -/
def Gone (es : List En) (t : Nat) : Prop := ∀ j e, j < t → es[j]? = some e → e.f_There = false
theorem crash_L1 {m : M} {n : T_model_Note} {ln : List Int} (hm : m.f_entries.length ≤ 1000) (hc : ln.length ≤ 1000) (hr : ∀ x ∈ ln, 0 ≤ x ∧ x < m.f_entries.length) (h0 : 0 ≤ n.f_First) (h01 : n.f_First ≤ ln.length) : ∀ (f t : Nat) (es : List En), EI m.f_entries es (fun _ => True) → Gone es t → t ≤ m.f_entries.length → m.f_entries.length < f + t →
    ∃ es' a l, F_model_Model_crash_L1 m n ln f es (t : Int) = some (true, T_model_Model.mk m.f_forwarded a l es' ln n.f_First n.f_Epoch) ∧ EI m.f_entries es' (Ts n.f_Epoch)
  | 0, t, es, h, hg, h1, h2 => by omega
  | f + 1, t, es, h, hg, h1, h2 => by
    show ∃ es' a l, F_model_Model_crash_l1 (F_model_Model_crash_L1 m n ln f) m n ln es (t : Int) = _ ∧ _
    unfold F_model_Model_crash_l1
    have hl := h.len
    by_cases ht : t < m.f_entries.length
    · have hte : t < es.length := by omega
      have hj := List.getElem?_eq_getElem hte
      rw [if_pos (dT (by omega)), gidx_get hte, Option.bind_some, nxk (by omega)]
      refine crash_L1 hm hc hr h0 h01 f (t + 1) _ (h.set hj rfl rfl trivial) (fun j e hjt he => ?_) (by omega) (by omega)
      simp only [Int.toNat_natCast] at he
      by_cases hq : t = j
      · subst hq
        rw [List.getElem?_set_self hte] at he
        have := Option.some.inj he
        rw [← this]
      · rw [List.getElem?_set_ne hq] at he
        exact hg j e (by omega) he
    · rw [if_neg (dF (by omega)), gcut_in h0 h01 (Int.le_refl _), Option.bind_some]
      have hlen : ((ln.drop n.f_First.toNat).take ((ln.length : Int).toNat - n.f_First.toNat)).length ≤ 1000 := by simp only [List.length_take, List.length_drop]; omega
      refine crash_L2 hlen (fun x hx => hr x (cut_mem x hx)) fuel0 0 es ⟨h.len, h.cr, h.rc, fun e he ht _ => ?_⟩ (Nat.zero_le _) (fuel_lt (by omega))
      obtain ⟨j, hj, rfl⟩ := List.getElem_of_mem he
      rw [hg j _ (by omega) (List.getElem?_eq_getElem hj)] at ht; cases ht
theorem crash_j3 {m : M} {c : Int} {i : Nat} (h : Inv m c i) (hi : i ≤ 100) {n : T_model_Note} (w : NW n) {ln : List Int} (hl : ∀ x ∈ ln, x ∈ m.f_line) (hll : ln.length ≤ i) (h01 : n.f_First ≤ ln.length) : ∃ b' m', F_model_Model_crash_j3 m n ln = some (b', m') ∧ Inv m' c (i + 1) := by
  have hel := h.el
  obtain ⟨es', a, l, h1, h2⟩ := crash_L1 (m := m) (n := n) (ln := ln) (by omega) (by omega) (fun x hx => h.lr x (hl x hx)) w.f h01 fuel0 0 m.f_entries ⟨rfl, rfl, rfl, fun _ _ => trivial⟩ (fun j e hj => by omega) (Nat.zero_le _) (fuel_lt (by omega))
  exact ⟨_, _, h1, h.of h2 (by omega) hl⟩
theorem cloneI_eq {s : List Int} (h : s.length ≤ 1000) : F_slices_Clone_int_int s = some s := by
  unfold F_slices_Clone_int_int
  rw [if_pos (limk (by simp; omega))]; rfl
theorem crash_j2 {m : M} {c : Int} {i : Nat} (h : Inv m c i) (hi : i ≤ 100) {n : T_model_Note} (w : NW n) (b : Bool) (hb : b = false → n.f_First ≤ n.f_Next ∧ n.f_Next ≤ m.f_line.length) : ∃ b' m', F_model_Model_crash_j2 m n b = some (b', m') ∧ Inv m' c (i + 1) := by
  unfold F_model_Model_crash_j2
  cases b with
  | true => exact ⟨_, _, rfl, h.up⟩
  | false =>
    obtain ⟨h1, h2⟩ := hb rfl
    have hll := h.ll
    have hn := w.n
    have hlen : ((m.f_line.drop (0 : Int).toNat).take (n.f_Next.toNat - (0 : Int).toNat)).length = n.f_Next.toNat := by simp only [List.length_take, List.length_drop]; omega
    rw [if_neg (by decide), gcut_in (Int.le_refl 0) w.n h2, Option.bind_some, cloneI_eq (by omega), Option.bind_some]
    exact crash_j3 h hi w (fun x hx => cut_mem x hx) (by omega) (by rw [hlen]; omega)
theorem crash_j1 {m : M} {c : Int} {i : Nat} (h : Inv m c i) (hi : i ≤ 100) {n : T_model_Note} (w : NW n) (b : Bool) (hb : b = false → n.f_First ≤ n.f_Next ∧ n.f_Next ≤ m.f_line.length) : ∃ b' m', F_model_Model_crash_j1 m n b = some (b', m') ∧ Inv m' c (i + 1) := by
  unfold F_model_Model_crash_j1
  cases b with
  | true => exact ⟨_, _, rfl, h.up⟩
  | false =>
    obtain ⟨h1, h2⟩ := hb rfl
    obtain ⟨b1, hb1⟩ := all2_tot h hi (p := 0) (q := n.f_First) (Int.le_refl 0) w.f (by omega)
    rw [if_neg (by decide), hb1, Option.bind_some]
    cases b1 with
    | false => rw [if_pos (by decide)]; exact crash_j2 h hi w true (fun h => by cases h)
    | true =>
      obtain ⟨b2, hb2⟩ := all3_tot h hi (p := n.f_Next) (q := (m.f_line.length : Int)) w.n h2 (Int.le_refl _)
      rw [if_neg (by decide), next_eq h hi, Option.bind_some, hb2, Option.bind_some]
      exact crash_j2 h hi w _ fun _ => ⟨h1, h2⟩
theorem crash_ok {m : M} {c : Int} {i : Nat} (h : Inv m c i) (hi : i ≤ 100) {n : T_model_Note} (w : NW n) : ∃ b m', F_model_Model_crash m n = some (b, m') ∧ Inv m' c (i + 1) := by
  have hel := h.el
  unfold F_model_Model_crash F_slices_ContainsFunc_model_Entry_model_Entry_fmodel_Model_crash_1 F_slices_IndexFunc_model_Entry_model_Entry_fmodel_Model_crash_1
  obtain ⟨r, hr⟩ := idxE_tot (n := n) (s := m.f_entries) (by omega) fuel0 0 (Nat.zero_le _) (fuel_lt (by omega))
  rw [show (0 : Int) = ((0 : Nat) : Int) from rfl, hr, Option.bind_some, Option.bind_some]
  split
  · exact crash_j1 h hi w true (fun h => by cases h)
  · split
    · exact crash_j1 h hi w true (fun h => by cases h)
    · split
      · exact crash_j1 h hi w true (fun h => by cases h)
      · rename_i h3
        have h4 : n.f_First ≤ n.f_Next := by
          have : ¬ (n.f_Next < n.f_First) := fun h => h3 (decide_eq_true h)
          omega
        rw [next_eq h hi, Option.bind_some]
        refine crash_j1 h hi w _ fun hb => ⟨h4, ?_⟩
        have := of_decide_eq_false hb
        omega
/-! ### Records that are taken -/
theorem cloneR_eq {s : List T_flow_Record} (h : s.length ≤ 1000) : F_slices_Clone_flow_Record_flow_Record s = some s := by
  unfold F_slices_Clone_flow_Record_flow_Record
  rw [if_pos (limk (by simp; omega))]; rfl
theorem copied_eq {e : En} (h : e.f_Records.length ≤ 10) : F_model_Entry_copied e = some e := by
  unfold F_model_Entry_copied
  rw [cloneR_eq (by omega)]; rfl
theorem pack_j3 {m : M} {c : Int} {i : Nat} (h : Inv m c i) (hi : i ≤ 100) {n : T_model_Note} (w : NW n) (a : FM62) (b : Bool) (hb : b = false → n.f_Epoch = m.f_boot) : ∃ b' m', F_model_Model_pack_j3 m n a b = some (b', m') ∧ Inv m' c (i + 1) := by
  unfold F_model_Model_pack_j3
  cases b with
  | true => exact ⟨_, _, rfl, h.up⟩
  | false =>
    have hel := h.el
    have hll := h.ll
    rw [if_neg (by decide), if_pos (limk (by simp; omega)), copied_eq (e := T_model_Entry.mk n.f_Epoch n.f_N n.f_Records true false false) w.rl, Option.bind_some, if_pos (limk (by simp; omega))]
    refine ⟨_, _, rfl, by simp only [List.length_append, List.length_cons, List.length_nil]; omega, fun e he => ?_, by simp only [List.length_append, List.length_cons, List.length_nil]; omega, fun x hx => ?_, ?_, fun e he => ?_, h.up.sm⟩
    · rcases List.mem_append.1 he with he | he
      · exact h.er e he
      · rw [List.mem_singleton.1 he]; exact w.rl
    · simp only [List.length_append, List.length_cons, List.length_nil]
      rcases List.mem_append.1 hx with hx | hx
      · have := h.lr x hx; omega
      · rw [List.mem_singleton.1 hx]; omega
    · rw [h.cr, List.countP_append]
      simp
    · rcases List.mem_append.1 he with he | he
      · exact h.ts e he
      · rw [List.mem_singleton.1 he]; exact fun _ _ => hb rfl
theorem pack_L {m : M} {c : Int} {i : Nat} (h : Inv m c i) (hi : i ≤ 100) {n : T_model_Note} (w : NW n) : ∀ (f t : Nat) (a : FM62), t ≤ n.f_Records.length → n.f_Records.length < f + t → ∃ b' m', F_model_Model_pack_L1 m n f a (t : Int) = some (b', m') ∧ Inv m' c (i + 1)
  | 0, t, a, h1, h2 => by omega
  | f + 1, t, a, h1, h2 => by
    show ∃ b' m', F_model_Model_pack_l1 (F_model_Model_pack_L1 m n f) m n a (t : Int) = _ ∧ _
    have hrl := w.rl
    unfold F_model_Model_pack_l1
    by_cases ht : t < n.f_Records.length
    · have key : ∀ b, ∃ b' m', F_model_Model_pack_j1 m a (t : Int) (F_model_Model_pack_L1 m n f) n.f_Records[t] (T_flow_Total.mk n.f_Records[t].f_Packets n.f_Records[t].f_Bytes) b = some (b', m') ∧ Inv m' c (i + 1) := fun b => by
        unfold F_model_Model_pack_j1
        cases b with
        | true => exact ⟨_, _, rfl, h.up⟩
        | false => rw [if_neg (by decide), nxk (by omega)]; exact pack_L h hi w f (t + 1) _ (by omega) (by omega)
      obtain ⟨b, hb⟩ := rright_tot n.f_Records[t]
      rw [if_pos (dT (by omega)), gidx_get ht, Option.bind_some]
      unfold F_flow_Record_Total
      rw [Option.bind_some, hb, Option.bind_some]
      split
      · exact key _
      · split <;> exact key _
    · rw [if_neg (dF (by omega))]
      split
      · exact pack_j3 h hi w a true (fun h => by cases h)
      · split
        · exact pack_j3 h hi w a true (fun h => by cases h)
        · split
          · exact pack_j3 h hi w a true (fun h => by cases h)
          · rename_i he
            rw [next_eq h hi, Option.bind_some]
            exact pack_j3 h hi w a _ fun _ => by simpa using he
theorem pack_ok {m : M} {c : Int} {i : Nat} (h : Inv m c i) (hi : i ≤ 100) {n : T_model_Note} (w : NW n) : ∃ b' m', F_model_Model_pack m n = some (b', m') ∧ Inv m' c (i + 1) :=
  pack_L h hi w fuel0 0 _ (Nat.zero_le _) (fuel_lt (by have := w.rl; omega))
theorem refuse_L2 {m : M} {c : Int} {i : Nat} (h : Inv m c i) {n : T_model_Note} (w : NW n) (a : FM62) : ∀ (f t : Nat) (p : FM62), t ≤ n.f_Records.length → n.f_Records.length < f + t → ∃ b' m', F_model_Model_refuse_L2 m n a f p (t : Int) = some (b', m') ∧ Inv m' c (i + 1)
  | 0, t, p, h1, h2 => by omega
  | f + 1, t, p, h1, h2 => by
    show ∃ b' m', F_model_Model_refuse_l2 (F_model_Model_refuse_L2 m n a f) m n a p (t : Int) = _ ∧ _
    have hrl := w.rl
    unfold F_model_Model_refuse_l2
    by_cases ht : t < n.f_Records.length
    · rw [if_pos (dT (by omega)), gidx_get ht, Option.bind_some]
      unfold F_flow_Record_Total
      rw [Option.bind_some, add_eq, Option.bind_some, nxk (by omega)]
      exact refuse_L2 h w a f (t + 1) _ (by omega) (by omega)
    · rw [if_neg (dF (by omega))]
      exact ⟨_, _, rfl, h.of h.ei h.up.ll fun x hx => hx⟩
theorem refuse_L {m : M} {c : Int} {i : Nat} (h : Inv m c i) {n : T_model_Note} (w : NW n) : ∀ (f t : Nat) (a : FM62), t ≤ n.f_Records.length → n.f_Records.length < f + t → ∃ b' m', F_model_Model_refuse_L1 m n f a (t : Int) = some (b', m') ∧ Inv m' c (i + 1)
  | 0, t, a, h1, h2 => by omega
  | f + 1, t, a, h1, h2 => by
    show ∃ b' m', F_model_Model_refuse_l1 (F_model_Model_refuse_L1 m n f) m n a (t : Int) = _ ∧ _
    have hrl := w.rl
    unfold F_model_Model_refuse_l1
    by_cases ht : t < n.f_Records.length
    · have key : ∀ b, ∃ b' m', F_model_Model_refuse_j1 m a (t : Int) (F_model_Model_refuse_L1 m n f) n.f_Records[t] (T_flow_Total.mk n.f_Records[t].f_Packets n.f_Records[t].f_Bytes) b = some (b', m') ∧ Inv m' c (i + 1) := fun b => by
        unfold F_model_Model_refuse_j1
        cases b with
        | true => exact ⟨_, _, rfl, h.up⟩
        | false => rw [if_neg (by decide), nxk (by omega)]; exact refuse_L h w f (t + 1) _ (by omega) (by omega)
      obtain ⟨b, hb⟩ := rright_tot n.f_Records[t]
      rw [if_pos (dT (by omega)), gidx_get ht, Option.bind_some]
      unfold F_flow_Record_Total
      rw [Option.bind_some, hb, Option.bind_some]
      split
      · exact key _
      · split <;> exact key _
    · rw [if_neg (dF (by omega))]
      split
      · exact ⟨_, _, rfl, h.up⟩
      · exact refuse_L2 h w a fuel0 0 _ (Nat.zero_le _) (fuel_lt (by omega))
theorem refuse_ok {m : M} {c : Int} {i : Nat} (h : Inv m c i) {n : T_model_Note} (w : NW n) : ∃ b' m', F_model_Model_refuse m n = some (b', m') ∧ Inv m' c (i + 1) :=
  refuse_L h w fuel0 0 _ (Nat.zero_le _) (fuel_lt (by have := w.rl; omega))
/-! ### A step -/
theorem step_j (m : M) (b : Bool) : F_model_Model_Step_j1 m.f_forwarded m.f_cached m.f_lost m.f_entries m.f_line m.f_first m.f_boot (!b) = some (if b = true then 0 else 2, m) := by
  cases b <;> rfl
theorem step_ok {m : M} {c : Int} {i : Nat} (h : Inv m c i) (hi : i ≤ 100) {n : T_model_Note} (w : NW n) : ∃ e m', F_model_Model_Step m n = some (e, m') ∧ Inv m' (if e = 0 ∧ n.f_Kind = 6 then c + 1 else c) (i + 1) := by
  have fin : ∀ {g : Option (Bool × M)} {b : Bool} {m' : M} {c' : Int}, g = some (b, m') → n.f_Kind ≠ 6 → Inv m' c (i + 1) → ∃ e m', (g.bind fun y => F_model_Model_Step_j1 y.2.f_forwarded y.2.f_cached y.2.f_lost y.2.f_entries y.2.f_line y.2.f_first y.2.f_boot (!y.1)) = some (e, m') ∧ Inv m' (if e = 0 ∧ n.f_Kind = 6 then c + 1 else c) (i + 1) := fun {g b m' c'} hg hk hI => by
    rw [hg, Option.bind_some, step_j]
    refine ⟨_, _, rfl, ?_⟩
    rw [if_neg (fun h => hk h.2)]; exact hI
  have bad : n.f_Kind ≠ 6 → ∃ e m', F_model_Model_Step_j1 m.f_forwarded m.f_cached m.f_lost m.f_entries m.f_line m.f_first m.f_boot true = some (e, m') ∧ Inv m' (if e = 0 ∧ n.f_Kind = 6 then c + 1 else c) (i + 1) := fun hk => by
    refine ⟨_, _, rfl, ?_⟩
    rw [if_neg (fun h => hk h.2)]; exact h.up
  unfold F_model_Model_Step
  split
  · rename_i h1
    exact bad (by have := of_decide_eq_true h1; omega)
  · rename_i h1
    split
    · rename_i h2
      exact bad (by have := of_decide_eq_true h2; omega)
    · rename_i h2
      have h1' : ¬ n.f_Kind < 1 := fun h => h1 (decide_eq_true h)
      have h2' : ¬ 8 ≤ n.f_Kind := fun h => h2 (decide_eq_true h)
      split
      · rename_i hk; have hk : n.f_Kind = 1 := by simpa using hk
        obtain ⟨b, m', e1, e2⟩ := forward_ok h n
        exact fin (c' := c) e1 (by omega) e2
      · rename_i k1
        split
        · rename_i hk; have hk : n.f_Kind = 2 := by simpa using hk
          obtain ⟨b, m', e1, e2⟩ := pack_ok h hi w
          exact fin (c' := c) e1 (by omega) e2
        · rename_i k2
          split
          · rename_i hk; have hk : n.f_Kind = 3 := by simpa using hk
            obtain ⟨b, m', e1, e2⟩ := refuse_ok h w
            exact fin (c' := c) e1 (by omega) e2
          · rename_i k3
            split
            · rename_i hk; have hk : n.f_Kind = 4 := by simpa using hk
              obtain ⟨b, m', e1, e2⟩ := sync_ok h hi n
              exact fin (c' := c) e1 (by omega) e2
            · rename_i k4
              split
              · rename_i hk; have hk : n.f_Kind = 5 := by simpa using hk
                obtain ⟨b, m', e1, e2⟩ := trunc_ok h hi w
                exact fin (c' := c) e1 (by omega) e2
              · rename_i k5
                split
                · rename_i hk; have hk : n.f_Kind = 6 := by simpa using hk
                  obtain ⟨b, m', e1, e2⟩ := credit_ok h hi n
                  rw [e1, Option.bind_some, step_j]
                  refine ⟨_, _, rfl, ?_⟩
                  cases b with
                  | true => rw [if_pos ⟨rfl, hk⟩]; exact e2
                  | false => rw [if_neg (fun h => by have := h.1; simp at this)]; exact e2
                · rename_i k6
                  split
                  · rename_i hk; have hk : n.f_Kind = 7 := by simpa using hk
                    obtain ⟨b, m', e1, e2⟩ := crash_ok h hi w
                    exact fin (c' := c) e1 (by omega) e2
                  · rename_i k7
                    simp only [beq_iff_eq] at k1 k2 k3 k4 k5 k6 k7
                    omega
end Go.Proofs.Ytidbgejnkpoeeaa
