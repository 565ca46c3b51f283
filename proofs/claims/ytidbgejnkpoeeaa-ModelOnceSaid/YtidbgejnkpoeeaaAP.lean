/- Plain text: what a model's notes keep: entries, line, credits. -/
import Derived.Test.YtidbgejnkpoeeaaSrt
set_option linter.unusedVariables false
namespace Go.Proofs.Ytidbgejnkpoeeaa
open Go Go.Ox
theorem nxk {t : Nat} (h : t ≤ 100000) : IntKind.i64.wrap ((t : Int) + 1) = ((t + 1 : Nat) : Int) := by rw [wi64 (by omega) (by omega)]; omega
theorem fuel_lt {n : Nat} (h : n ≤ 1000000) : n < fuel0 := Nat.lt_of_le_of_lt h (by decide)
theorem gidx_get {α : Type} {xs : List α} {t : Nat} (h : t < xs.length) : gidx xs (t : Int) = some xs[t] := gidx_nat (List.getElem?_eq_getElem h)
theorem plus_eq (a b : T_flow_Total) : F_flow_Total_Plus a b = some (plusT a b) := by
  have h : ∃ y, F_flow_Total_Plus a b = some y := by
    unfold F_flow_Total_Plus F_flow_plus
    split <;> split <;> exact ⟨_, rfl⟩
  obtain ⟨y, h⟩ := h
  unfold plusT
  rw [h]; rfl
theorem add_eq (m : FM62) (k : T_packet_Key) (x : T_flow_Total) : F_model_totals_add m k x = some (mput q_packet_Key m k (plusT ((m k).getD (T_flow_Total.mk 0 0)) x)) := by
  show (F_flow_Total_Plus ((m k).getD (T_flow_Total.mk 0 0)) x).bind _ = _
  rw [plus_eq]; rfl
theorem rright_tot (r : T_flow_Record) : ∃ b, F_flow_Record_Right r = some b := by
  unfold F_flow_Record_Right F_flow_Record_Right_j1
  rw [kright_eq, Option.bind_some]
  split
  · split
    · split
      · split <;> exact ⟨_, rfl⟩
      · exact ⟨_, rfl⟩
    · exact ⟨_, rfl⟩
  · exact ⟨_, rfl⟩
abbrev M := T_model_Model
abbrev En := T_model_Entry
/-- What holds of a model behind i notes: c entries are credited. -/
structure Inv (m : M) (c : Int) (i : Nat) : Prop where
  el : m.f_entries.length ≤ i
  er : ∀ e ∈ m.f_entries, e.f_Records.length ≤ 10
  ll : m.f_line.length ≤ i
  lr : ∀ x ∈ m.f_line, 0 ≤ x ∧ x < m.f_entries.length
  cr : c = (m.f_entries.countP (fun e => e.f_Credited) : Int)
  ts : ∀ e ∈ m.f_entries, e.f_There = true → e.f_Synced = false → e.f_Epoch = m.f_boot
  sm : ∃ l : List T_packet_Key, l.length ≤ i ∧ ∀ k, m.f_forwarded k ≠ none → ∃ x ∈ l, q_packet_Key k x = true
theorem Inv.up {m : M} {c : Int} {i : Nat} (h : Inv m c i) : Inv m c (i + 1) :=
  ⟨by have := h.el; omega, h.er, by have := h.ll; omega, h.lr, h.cr, h.ts, let ⟨l, h1, h2⟩ := h.sm; ⟨l, by omega, h2⟩⟩
theorem q_refl (k : T_packet_Key) : q_packet_Key k k = true := by simp [q_packet_Key, q_addr_Addr, arrEq]
theorem forward_ok {m : M} {c : Int} {i : Nat} (h : Inv m c i) (n : T_model_Note) : ∃ b m', F_model_Model_forward m n = some (b, m') ∧ Inv m' c (i + 1) := by
  unfold F_model_Model_forward
  rw [kright_eq, Option.bind_some]
  cases kr n.f_Key with
  | false => exact ⟨_, _, rfl, h.up⟩
  | true =>
    rw [if_neg (by decide), add_eq, Option.bind_some, add_eq, Option.bind_some]
    refine ⟨_, _, rfl, h.up.el, h.er, h.up.ll, h.lr, h.cr, h.ts, ?_⟩
    obtain ⟨l, h1, h2⟩ := h.sm
    refine ⟨n.f_Key :: l, by simp only [List.length_cons]; omega, fun k hk => ?_⟩
    by_cases hq : q_packet_Key k n.f_Key = true
    · exact ⟨_, by simp, hq⟩
    · have hk2 : m.f_forwarded k ≠ none := fun he => hk (by simp only [mput]; rw [if_neg hq]; exact he)
      obtain ⟨x, hx, hx2⟩ := h2 k hk2
      exact ⟨x, by simp [hx], hx2⟩
/-! ### Entries that are changed one by one -/
theorem set_same {α β : Type} (f : α → β) {es : List α} {j : Nat} {e e' : α} (hj : es[j]? = some e) (h : f e' = f e) : (es.set j e').map f = es.map f := by
  apply List.ext_getElem?
  intro q
  rw [List.getElem?_map, List.getElem?_map]
  by_cases hq : j = q
  · subst hq
    rw [List.getElem?_set_self (List.getElem?_eq_some_iff.1 hj).1, hj]
    simp [h]
  · rw [List.getElem?_set_ne hq]
structure EI (es0 es : List En) (P : En → Prop) : Prop where
  len : es.length = es0.length
  cr : es.map (fun e => e.f_Credited) = es0.map (fun e => e.f_Credited)
  rc : es.map (fun e => e.f_Records) = es0.map (fun e => e.f_Records)
  ts : ∀ e ∈ es, P e
theorem EI.set {es0 es : List En} {P : En → Prop} (h : EI es0 es P) {j : Nat} {e e' : En} (hj : es[j]? = some e) (h1 : e'.f_Credited = e.f_Credited) (h2 : e'.f_Records = e.f_Records) (h3 : P e') : EI es0 (es.set j e') P :=
  ⟨by rw [List.length_set]; exact h.len, by rw [set_same _ hj h1]; exact h.cr, by rw [set_same _ hj h2]; exact h.rc, fun x hx => by
    rcases List.mem_or_eq_of_mem_set hx with hx | rfl
    · exact h.ts x hx
    · exact h3⟩
theorem EI.count {es0 es : List En} {P : En → Prop} (h : EI es0 es P) : es.countP (fun e => e.f_Credited) = es0.countP (fun e => e.f_Credited) := by
  have key : ∀ l : List En, l.countP (fun e => e.f_Credited) = (l.map fun e => e.f_Credited).countP id := fun l => by rw [List.countP_map]; rfl
  rw [key, key, h.cr]
theorem EI.recs {es0 es : List En} {P : En → Prop} (h : EI es0 es P) (h0 : ∀ e ∈ es0, e.f_Records.length ≤ 10) : ∀ e ∈ es, e.f_Records.length ≤ 10 := fun e he => by
  have h1 : e.f_Records ∈ es.map (fun e => e.f_Records) := List.mem_map.2 ⟨e, he, rfl⟩
  rw [h.rc] at h1
  obtain ⟨e0, h2, h3⟩ := List.mem_map.1 h1
  rw [← h3]; exact h0 e0 h2
/-- Not there, or synced, or of the boot. -/
def Ts (b : Int) (e : En) : Prop := e.f_There = true → e.f_Synced = false → e.f_Epoch = b
theorem Inv.of {m : M} {c : Int} {i : Nat} (h : Inv m c i) {es : List En} {a l : FM62} {f bo : Int} {ln : List Int} (he : EI m.f_entries es (Ts bo)) (hl : ln.length ≤ i + 1) (hr : ∀ x ∈ ln, x ∈ m.f_line) : Inv (T_model_Model.mk m.f_forwarded a l es ln f bo) c (i + 1) :=
  ⟨by show es.length ≤ _; have := h.el; have := he.len; omega, he.recs h.er, hl, fun x hx => by show 0 ≤ x ∧ x < (es.length : Int); rw [he.len]; exact h.lr x (hr x hx), by rw [h.cr]; show _ = ((es.countP fun e => e.f_Credited : Nat) : Int); rw [he.count], he.ts, h.up.sm⟩
theorem Inv.ei {m : M} {c : Int} {i : Nat} (h : Inv m c i) : EI m.f_entries m.f_entries (Ts m.f_boot) := ⟨rfl, rfl, rfl, h.ts⟩
theorem sync_L {m : M} {i : Nat} (hi : m.f_entries.length ≤ 1000) : ∀ (f t : Nat) (es : List En), EI m.f_entries es (Ts m.f_boot) → t ≤ m.f_entries.length → m.f_entries.length < f + t →
    ∃ es', F_model_Model_sync_L1 m f es (t : Int) = some (decide (0 < m.f_boot), T_model_Model.mk m.f_forwarded m.f_cached m.f_lost es' m.f_line m.f_first m.f_boot) ∧ EI m.f_entries es' (Ts m.f_boot)
  | 0, t, es, h, h1, h2 => by omega
  | f + 1, t, es, h, h1, h2 => by
    show ∃ es', F_model_Model_sync_l1 (F_model_Model_sync_L1 m f) m es (t : Int) = _ ∧ _
    unfold F_model_Model_sync_l1 F_model_Model_sync_j1
    by_cases ht : t < m.f_entries.length
    · have hl := h.len
      have hte : t < es.length := by omega
      have hj := List.getElem?_eq_getElem hte
      rw [if_pos (dT (by omega)), gidx_get hte, Option.bind_some]
      split
      · rename_i hs
        rw [Option.bind_some, nxk (by omega)]
        exact sync_L (i := i) hi f (t + 1) _ (h.set hj rfl rfl (fun _ h => by cases h)) (by omega) (by omega)
      · rw [Option.bind_some, Option.bind_some, nxk (by omega)]
        refine sync_L (i := i) hi f (t + 1) _ (h.set hj rfl rfl (fun h1 h2 => ?_)) (by omega) (by omega)
        rw [show es[t].f_There = true from h1] at h2; cases h2
    · rw [if_neg (dF (by omega))]
      exact ⟨_, rfl, h⟩
theorem sync_ok {m : M} {c : Int} {i : Nat} (h : Inv m c i) (hi : i ≤ 100) (n : T_model_Note) : ∃ b m', F_model_Model_sync m n = some (b, m') ∧ Inv m' c (i + 1) := by
  have := h.el
  obtain ⟨es', h1, h2⟩ := sync_L (m := m) (i := i) (by omega) fuel0 0 m.f_entries h.ei (Nat.zero_le _) (fuel_lt (by omega))
  exact ⟨_, _, h1, h.of h2 h.up.ll fun x hx => hx⟩
/-! ### Whether something holds of the line's entries -/
theorem idx1_tot {m : M} {s : List Int} (hs : s.length ≤ 1000) (h : ∀ x ∈ s, 0 ≤ x ∧ x < m.f_entries.length) : ∀ (f t : Nat), t ≤ s.length → s.length < f + t → ∃ r, F_slices_IndexFunc_int_int_fmodel_Model_all_1hmodel_Model_truncate_1_L1 s m f (t : Int) = some r
  | 0, t, h1, h2 => by omega
  | f + 1, t, h1, h2 => by
    show ∃ r, F_slices_IndexFunc_int_int_fmodel_Model_all_1hmodel_Model_truncate_1_l1 (F_slices_IndexFunc_int_int_fmodel_Model_all_1hmodel_Model_truncate_1_L1 s m f) s m (t : Int) = some r
    unfold F_slices_IndexFunc_int_int_fmodel_Model_all_1hmodel_Model_truncate_1_l1 F_model_Model_all_1_hmodel_Model_truncate_1 F_model_Model_truncate_1
    by_cases ht : t < s.length
    · have hx := h s[t] (List.getElem_mem ht)
      rw [if_pos (dT (by omega)), gidx_get ht, Option.bind_some, gidx_in hx.1 hx.2, Option.bind_some, Option.bind_some, Option.bind_some]
      split
      · exact ⟨_, rfl⟩
      · rw [nxk (by omega)]; exact idx1_tot hs h f (t + 1) (by omega) (by omega)
    · rw [if_neg (dF (by omega))]; exact ⟨_, rfl⟩
theorem idx2_tot {m : M} {s : List Int} (hs : s.length ≤ 1000) (h : ∀ x ∈ s, 0 ≤ x ∧ x < m.f_entries.length) : ∀ (f t : Nat), t ≤ s.length → s.length < f + t → ∃ r, F_slices_IndexFunc_int_int_fmodel_Model_all_1hmodel_Model_crash_2_L1 s m f (t : Int) = some r
  | 0, t, h1, h2 => by omega
  | f + 1, t, h1, h2 => by
    show ∃ r, F_slices_IndexFunc_int_int_fmodel_Model_all_1hmodel_Model_crash_2_l1 (F_slices_IndexFunc_int_int_fmodel_Model_all_1hmodel_Model_crash_2_L1 s m f) s m (t : Int) = some r
    unfold F_slices_IndexFunc_int_int_fmodel_Model_all_1hmodel_Model_crash_2_l1 F_model_Model_all_1_hmodel_Model_crash_2 F_model_Model_crash_2
    by_cases ht : t < s.length
    · have hx := h s[t] (List.getElem_mem ht)
      rw [if_pos (dT (by omega)), gidx_get ht, Option.bind_some, gidx_in hx.1 hx.2, Option.bind_some, Option.bind_some, Option.bind_some]
      split
      · exact ⟨_, rfl⟩
      · rw [nxk (by omega)]; exact idx2_tot hs h f (t + 1) (by omega) (by omega)
    · rw [if_neg (dF (by omega))]; exact ⟨_, rfl⟩
theorem c3_tot (e : En) : ∃ b, F_model_Model_crash_3 e = some b := by
  unfold F_model_Model_crash_3 F_model_Model_crash_3_j1
  split <;> exact ⟨_, rfl⟩
theorem idx3_tot {m : M} {s : List Int} (hs : s.length ≤ 1000) (h : ∀ x ∈ s, 0 ≤ x ∧ x < m.f_entries.length) : ∀ (f t : Nat), t ≤ s.length → s.length < f + t → ∃ r, F_slices_IndexFunc_int_int_fmodel_Model_all_1hmodel_Model_crash_3_L1 s m f (t : Int) = some r
  | 0, t, h1, h2 => by omega
  | f + 1, t, h1, h2 => by
    show ∃ r, F_slices_IndexFunc_int_int_fmodel_Model_all_1hmodel_Model_crash_3_l1 (F_slices_IndexFunc_int_int_fmodel_Model_all_1hmodel_Model_crash_3_L1 s m f) s m (t : Int) = some r
    unfold F_slices_IndexFunc_int_int_fmodel_Model_all_1hmodel_Model_crash_3_l1 F_model_Model_all_1_hmodel_Model_crash_3
    by_cases ht : t < s.length
    · have hx := h s[t] (List.getElem_mem ht)
      obtain ⟨b, hb⟩ := c3_tot (m.f_entries[s[t].toNat]'(by omega))
      rw [if_pos (dT (by omega)), gidx_get ht, Option.bind_some, gidx_in hx.1 hx.2, Option.bind_some, hb, Option.bind_some, Option.bind_some]
      split
      · exact ⟨_, rfl⟩
      · rw [nxk (by omega)]; exact idx3_tot hs h f (t + 1) (by omega) (by omega)
    · rw [if_neg (dF (by omega))]; exact ⟨_, rfl⟩
theorem idxE_tot {n : T_model_Note} {s : List En} (hs : s.length ≤ 1000) : ∀ (f t : Nat), t ≤ s.length → s.length < f + t → ∃ r, F_slices_IndexFunc_model_Entry_model_Entry_fmodel_Model_crash_1_L1 s n f (t : Int) = some r
  | 0, t, h1, h2 => by omega
  | f + 1, t, h1, h2 => by
    show ∃ r, F_slices_IndexFunc_model_Entry_model_Entry_fmodel_Model_crash_1_l1 (F_slices_IndexFunc_model_Entry_model_Entry_fmodel_Model_crash_1_L1 s n f) s n (t : Int) = some r
    unfold F_slices_IndexFunc_model_Entry_model_Entry_fmodel_Model_crash_1_l1 F_model_Model_crash_1
    by_cases ht : t < s.length
    · rw [if_pos (dT (by omega)), gidx_get ht, Option.bind_some, Option.bind_some]
      split
      · exact ⟨_, rfl⟩
      · rw [nxk (by omega)]; exact idxE_tot hs f (t + 1) (by omega) (by omega)
    · rw [if_neg (dF (by omega))]; exact ⟨_, rfl⟩
theorem cut_mem {xs : List Int} {a b : Nat} : ∀ x ∈ (xs.drop a).take b, x ∈ xs := fun x hx => List.mem_of_mem_drop (List.mem_of_mem_take hx)
theorem all1_tot {m : M} {c : Int} {i : Nat} (h : Inv m c i) (hi : i ≤ 100) {p q : Int} (h0 : 0 ≤ p) (h1 : p ≤ q) (h2 : q ≤ m.f_line.length) : ∃ b, F_model_Model_all_fmodel_Model_truncate_1 m p q = some b := by
  unfold F_model_Model_all_fmodel_Model_truncate_1 F_slices_ContainsFunc_int_int_fmodel_Model_all_1hmodel_Model_truncate_1 F_slices_IndexFunc_int_int_fmodel_Model_all_1hmodel_Model_truncate_1
  have hll := h.ll
  have hlen : ((m.f_line.drop p.toNat).take (q.toNat - p.toNat)).length ≤ 100 := by simp only [List.length_take, List.length_drop]; omega
  obtain ⟨r, hr⟩ := idx1_tot (m := m) (by omega) (fun x hx => h.lr x (cut_mem x hx)) fuel0 0 (Nat.zero_le _) (fuel_lt (by omega : ((m.f_line.drop p.toNat).take (q.toNat - p.toNat)).length ≤ 1000000))
  rw [gcut_in h0 h1 h2, Option.bind_some, show (0 : Int) = ((0 : Nat) : Int) from rfl, hr, Option.bind_some, Option.bind_some]
  exact ⟨_, rfl⟩
theorem all2_tot {m : M} {c : Int} {i : Nat} (h : Inv m c i) (hi : i ≤ 100) {p q : Int} (h0 : 0 ≤ p) (h1 : p ≤ q) (h2 : q ≤ m.f_line.length) : ∃ b, F_model_Model_all_fmodel_Model_crash_2 m p q = some b := by
  unfold F_model_Model_all_fmodel_Model_crash_2 F_slices_ContainsFunc_int_int_fmodel_Model_all_1hmodel_Model_crash_2 F_slices_IndexFunc_int_int_fmodel_Model_all_1hmodel_Model_crash_2
  have hll := h.ll
  have hlen : ((m.f_line.drop p.toNat).take (q.toNat - p.toNat)).length ≤ 100 := by simp only [List.length_take, List.length_drop]; omega
  obtain ⟨r, hr⟩ := idx2_tot (m := m) (by omega) (fun x hx => h.lr x (cut_mem x hx)) fuel0 0 (Nat.zero_le _) (fuel_lt (by omega : ((m.f_line.drop p.toNat).take (q.toNat - p.toNat)).length ≤ 1000000))
  rw [gcut_in h0 h1 h2, Option.bind_some, show (0 : Int) = ((0 : Nat) : Int) from rfl, hr, Option.bind_some, Option.bind_some]
  exact ⟨_, rfl⟩
theorem all3_tot {m : M} {c : Int} {i : Nat} (h : Inv m c i) (hi : i ≤ 100) {p q : Int} (h0 : 0 ≤ p) (h1 : p ≤ q) (h2 : q ≤ m.f_line.length) : ∃ b, F_model_Model_all_fmodel_Model_crash_3 m p q = some b := by
  unfold F_model_Model_all_fmodel_Model_crash_3 F_slices_ContainsFunc_int_int_fmodel_Model_all_1hmodel_Model_crash_3 F_slices_IndexFunc_int_int_fmodel_Model_all_1hmodel_Model_crash_3
  have hll := h.ll
  have hlen : ((m.f_line.drop p.toNat).take (q.toNat - p.toNat)).length ≤ 100 := by simp only [List.length_take, List.length_drop]; omega
  obtain ⟨r, hr⟩ := idx3_tot (m := m) (by omega) (fun x hx => h.lr x (cut_mem x hx)) fuel0 0 (Nat.zero_le _) (fuel_lt (by omega : ((m.f_line.drop p.toNat).take (q.toNat - p.toNat)).length ≤ 1000000))
  rw [gcut_in h0 h1 h2, Option.bind_some, show (0 : Int) = ((0 : Nat) : Int) from rfl, hr, Option.bind_some, Option.bind_some]
  exact ⟨_, rfl⟩
theorem next_eq {m : M} {c : Int} {i : Nat} (h : Inv m c i) (hi : i ≤ 100) : F_model_Model_next m = some (m.f_line.length : Int) := by
  have := h.ll
  unfold F_model_Model_next
  rw [wu64i (by omega) (by omega)]
end Go.Proofs.Ytidbgejnkpoeeaa
