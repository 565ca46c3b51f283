/- Plain text: what is credited of a key is the sum of its records of entries that are credited. -/
import Derived.Test.YtidbgejnkpoeeaaBP
import Derived.Test.YtidbgejnkpoeeaaNP
set_option linter.unusedVariables false
namespace Go.Proofs.Ytidbgejnkpoeeaa
open Go Go.Ox
/-! ### Sums -/
def addR (k : T_packet_Key) (s : T_flow_Total) (r : T_flow_Record) : T_flow_Total := if q_packet_Key r.f_Key k = true then plusT s (T_flow_Total.mk r.f_Packets r.f_Bytes) else s
def addE (k : T_packet_Key) (s : T_flow_Total) (e : En) : T_flow_Total := if e.f_Credited = true then e.f_Records.foldl (addR k) s else s
def csum (k : T_packet_Key) (es : List En) : T_flow_Total := es.foldl (addE k) (T_flow_Total.mk 0 0)
theorem fold_at {α β : Type} (f : β → α → β) {xs : List α} {t : Nat} (h : t < xs.length) (s : β) : (xs.drop t).foldl f s = (xs.drop (t + 1)).foldl f (f s xs[t]) := by
  rw [List.drop_eq_getElem_cons h, List.foldl_cons]
theorem of_L2 {k : T_packet_Key} {tE : Int} {rec : Int → Int → Int → Int → Int → Int → Int → Int → Int → Option T_model_Parts} {e : En} (he : e.f_Records.length ≤ 10) :
    ∀ (f t : Nat) (p1 p2 p3 p4 p5 p6 p7 p8 : Int), t ≤ e.f_Records.length → e.f_Records.length < f + t →
    ∃ q1 q2 q3 q4 q5 q6, ∃ s : T_flow_Total, F_model_Model_Of_L2 k tE rec e f p1 p2 p3 p4 p5 p6 p7 p8 (t : Int) = rec q1 q2 q3 q4 q5 q6 s.f_Packets s.f_Bytes (IntKind.i64.wrap (tE + 1)) ∧
      s = if e.f_Credited = true then (e.f_Records.drop t).foldl (addR k) (T_flow_Total.mk p7 p8) else T_flow_Total.mk p7 p8
  | 0, t, p1, p2, p3, p4, p5, p6, p7, p8, h1, h2 => by omega
  | f + 1, t, p1, p2, p3, p4, p5, p6, p7, p8, h1, h2 => by
    show ∃ q1 q2 q3 q4 q5 q6, ∃ s : T_flow_Total, F_model_Model_Of_l2 (F_model_Model_Of_L2 k tE rec e f) k tE rec e p1 p2 p3 p4 p5 p6 p7 p8 (t : Int) = _ ∧ _
    unfold F_model_Model_Of_l2 F_model_Model_Of_j1
    by_cases ht : t < e.f_Records.length
    · rw [if_pos (dT (by omega)), gidx_get ht, Option.bind_some, nxk (by omega)]
      simp only [F_flow_Record_Total, Option.bind_some, plus_eq, fold_at (addR k) ht]
      cases hq : q_packet_Key e.f_Records[t].f_Key k with
      | false =>
        rw [if_neg (by decide)]
        obtain ⟨q1, q2, q3, q4, q5, q6, s, h3, h4⟩ := of_L2 he f (t + 1) p1 p2 p3 p4 p5 p6 p7 p8 (by omega) (by omega)
        refine ⟨q1, q2, q3, q4, q5, q6, s, h3, ?_⟩
        rw [h4]; simp [addR, hq]
      | true =>
        rw [if_pos rfl]
        cases hc : e.f_Credited with
        | true =>
          rw [if_pos rfl]
          obtain ⟨q1, q2, q3, q4, q5, q6, s, h3, h4⟩ := of_L2 he f (t + 1) p1 p2 p3 p4 p5 p6 (plusT (T_flow_Total.mk p7 p8) (T_flow_Total.mk e.f_Records[t].f_Packets e.f_Records[t].f_Bytes)).f_Packets (plusT (T_flow_Total.mk p7 p8) (T_flow_Total.mk e.f_Records[t].f_Packets e.f_Records[t].f_Bytes)).f_Bytes (by omega) (by omega)
          refine ⟨q1, q2, q3, q4, q5, q6, s, h3, ?_⟩
          rw [h4, hc]; simp [addR, hq]
        | false =>
          have key : ∀ p1 p2 p3 p4 p5 p6 : Int, ∃ q1 q2 q3 q4 q5 q6, ∃ s : T_flow_Total, F_model_Model_Of_L2 k tE rec e f p1 p2 p3 p4 p5 p6 p7 p8 ((t + 1 : Nat) : Int) = rec q1 q2 q3 q4 q5 q6 s.f_Packets s.f_Bytes (IntKind.i64.wrap (tE + 1)) ∧ s = if false = true then (e.f_Records.drop (t + 1)).foldl (addR k) (addR k (T_flow_Total.mk p7 p8) e.f_Records[t]) else T_flow_Total.mk p7 p8 := fun p1 p2 p3 p4 p5 p6 => by
            obtain ⟨q1, q2, q3, q4, q5, q6, s, h3, h4⟩ := of_L2 he f (t + 1) p1 p2 p3 p4 p5 p6 p7 p8 (by omega) (by omega)
            refine ⟨q1, q2, q3, q4, q5, q6, s, h3, ?_⟩
            rw [h4, hc]; simp
          rw [if_neg (by decide)]
          split
          · exact key _ _ _ _ _ _
          · split <;> exact key _ _ _ _ _ _
    · have ht2 : t = e.f_Records.length := by omega
      rw [if_neg (dF (by omega))]
      refine ⟨_, _, _, _, _, _, T_flow_Total.mk p7 p8, rfl, ?_⟩
      rw [ht2, List.drop_length]; simp
theorem of_L1 {m : M} {k : T_packet_Key} (hm : m.f_entries.length ≤ 1000) (hr : ∀ e ∈ m.f_entries, e.f_Records.length ≤ 10) :
    ∀ (f t : Nat) (p1 p2 p3 p4 p5 p6 p7 p8 : Int), t ≤ m.f_entries.length → m.f_entries.length < f + t →
    ∃ p, F_model_Model_Of_L1 m k f p1 p2 p3 p4 p5 p6 p7 p8 (t : Int) = some p ∧ p.f_Credited = (m.f_entries.drop t).foldl (addE k) (T_flow_Total.mk p7 p8)
  | 0, t, p1, p2, p3, p4, p5, p6, p7, p8, h1, h2 => by omega
  | f + 1, t, p1, p2, p3, p4, p5, p6, p7, p8, h1, h2 => by
    show ∃ p, F_model_Model_Of_l1 (F_model_Model_Of_L1 m k f) m k p1 p2 p3 p4 p5 p6 p7 p8 (t : Int) = _ ∧ _
    unfold F_model_Model_Of_l1
    by_cases ht : t < m.f_entries.length
    · have he := hr _ (List.getElem_mem ht)
      obtain ⟨q1, q2, q3, q4, q5, q6, s, h3, h4⟩ := of_L2 (k := k) (tE := (t : Int)) (rec := F_model_Model_Of_L1 m k f) he fuel0 0 p1 p2 p3 p4 p5 p6 p7 p8 (Nat.zero_le _) (fuel_lt (by omega))
      rw [if_pos (dT (by omega)), gidx_get ht, Option.bind_some, show (0 : Int) = ((0 : Nat) : Int) from rfl, h3, nxk (by omega), fold_at (addE k) ht]
      obtain ⟨p, h5, h6⟩ := of_L1 (k := k) hm hr f (t + 1) q1 q2 q3 q4 q5 q6 s.f_Packets s.f_Bytes (by omega) (by omega)
      refine ⟨p, h5, ?_⟩
      rw [h6]
      congr 1
    · have ht2 : t = m.f_entries.length := by omega
      rw [if_neg (dF (by omega))]
      refine ⟨_, rfl, ?_⟩
      rw [ht2, List.drop_length]; rfl
theorem of_eq2 {m : M} {c : Int} {i : Nat} (h : Inv m c i) (hi : i ≤ 100) (k : T_packet_Key) : ∃ p, F_model_Model_Of m k = some p ∧ p.f_Credited = csum k m.f_entries := by
  have hel := h.el
  exact of_L1 (k := k) (by omega) h.er fuel0 0 _ _ _ _ _ _ _ _ (Nat.zero_le _) (fuel_lt (by omega))
theorem entries_L {m : M} (hm : m.f_entries.length ≤ 1000) (hr : ∀ e ∈ m.f_entries, e.f_Records.length ≤ 10) : ∀ (f t : Nat), t ≤ m.f_entries.length → m.f_entries.length < f + t →
    F_model_Model_Entries_L1 m f (m.f_entries.take t) (t : Int) = some m.f_entries
  | 0, t, h1, h2 => by omega
  | f + 1, t, h1, h2 => by
    show F_model_Model_Entries_l1 (F_model_Model_Entries_L1 m f) m (m.f_entries.take t) (t : Int) = _
    unfold F_model_Model_Entries_l1
    by_cases ht : t < m.f_entries.length
    · rw [if_pos (dT (by omega)), gidx_get ht, Option.bind_some, copied_eq (hr _ (List.getElem_mem ht)), Option.bind_some, if_pos (limk (by simp; omega)), nxk (by omega), List.take_append_getElem ht]
      exact entries_L hm hr f (t + 1) (by omega) (by omega)
    · rw [if_neg (dF (by omega)), List.take_of_length_le (by omega)]
theorem entries_eq {m : M} {c : Int} {i : Nat} (h : Inv m c i) (hi : i ≤ 100) : F_model_Model_Entries m = some m.f_entries := by
  have hel := h.el
  exact entries_L (by omega) h.er fuel0 0 (Nat.zero_le _) (fuel_lt (by omega))
/-! ### Keys, whichever -/
theorem demon_all {α β : Type} {p : α → Prop} {f : α → Option β} {r : β} {a : α} (ha : p a) (h : ∀ a, p a → f a = some r) : demon p f = some r := by
  have hh : ∃ r, ∀ a, p a → f a = some r := ⟨r, h⟩
  unfold demon
  rw [dif_pos hh]
  have h1 := Classical.choose_spec hh a ha
  rw [h a ha] at h1
  exact h1.symm
theorem guardP_ok {β : Type} {p : Prop} {f : Option β} (h : p) : guardP p f = f := by
  unfold guardP; rw [if_pos h]
theorem keys_ok {m : M} {c : Int} {i : Nat} (h : Inv m c i) (hi : i ≤ 100) {kf : List T_packet_Key → Option Bool} (hk : ∀ ks : List T_packet_Key, ks.length ≤ 1000000 → kf ks = some true) : F_model_Model_Keys_K m kf = some true := by
  unfold F_model_Model_Keys_K F_slices_SortedFunc_packet_Key_fmaps_Keys_model_totals_packet_Key_flow_Total_1fpacket_Cmp_K F_slices_Collect_packet_Key_fmaps_Keys_model_totals_packet_Key_flow_Total_1_K F_slices_AppendSeq_packet_Key_packet_Key_Zfmaps_Keys_model_totals_packet_Key_flow_Total_1_K
  obtain ⟨l, hl, hl2⟩ := h.sm
  rw [guardP_ok ⟨l, by omega, hl2⟩]
  refine demon_all (a := []) (by simp) fun ks hks => ?_
  unfold F_slices_SortFunc_packet_Key_packet_Key_packet_Cmp
  show (if decide (ks.length ≤ lim) = true then some (srt cf_packet_Cmp ks) else none).bind (fun y17 => kf y17) = some true
  rw [if_pos (limk (by omega)), Option.bind_some]
  exact hk _ (by rw [srt_len swo_packet_Cmp]; exact hks)
theorem nx6 {t : Nat} (h : t ≤ 10000000) : IntKind.i64.wrap ((t : Int) + 1) = ((t + 1 : Nat) : Int) := by rw [wi64 (by omega) (by omega)]; omega
/-! ### The law's loops -/
theorem law_L5 {es : List En} {ks : List T_packet_Key} {kv q : Nat} (hkv : kv < ks.length) (hq : q < es.length) (he : es[q].f_Records.length ≤ 10) {rec : Int → Int → Int → Option Bool} : ∀ (f t : Nat) (s1 s2 : Int), t ≤ es[q].f_Records.length → es[q].f_Records.length < f + t →
    ∃ s : T_flow_Total, F_law30_ModelOnce_L5 es ks (kv : Int) (q : Int) rec f s1 s2 (t : Int) = rec s.f_Packets s.f_Bytes (IntKind.i64.wrap ((q : Int) + 1)) ∧ s = if es[q].f_Credited = true then (es[q].f_Records.drop t).foldl (addR ks[kv]) (T_flow_Total.mk s1 s2) else T_flow_Total.mk s1 s2
  | 0, t, s1, s2, h1, h2 => by omega
  | f + 1, t, s1, s2, h1, h2 => by
    show ∃ s : T_flow_Total, F_law30_ModelOnce_l5 (F_law30_ModelOnce_L5 es ks (kv : Int) (q : Int) rec f) es ks (kv : Int) (q : Int) rec s1 s2 (t : Int) = _ ∧ _
    unfold F_law30_ModelOnce_l5 F_law30_ModelOnce_j4 F_law30_ModelOnce_j5
    rw [gidx_get hq, Option.bind_some]
    by_cases ht : t < es[q].f_Records.length
    · rw [if_pos (dT (by omega)), Option.bind_some]
      cases hc : es[q].f_Credited with
      | false => rw [if_neg (by decide)]; exact ⟨T_flow_Total.mk s1 s2, rfl, rfl⟩
      | true =>
        rw [if_pos rfl, Option.bind_some, gidx_get ht, Option.bind_some, gidx_get hkv, Option.bind_some, if_pos rfl, fold_at (addR ks[kv]) ht]
        simp only [F_flow_Record_Total, Option.bind_some, plus_eq]
        rw [nxk (by omega)]
        cases hk : q_packet_Key es[q].f_Records[t].f_Key ks[kv] with
        | true =>
          rw [if_pos rfl, gidx_get ht, Option.bind_some]
          obtain ⟨s, h3, h4⟩ := law_L5 (rec := rec) hkv hq he f (t + 1) (plusT (T_flow_Total.mk s1 s2) (T_flow_Total.mk es[q].f_Records[t].f_Packets es[q].f_Records[t].f_Bytes)).f_Packets (plusT (T_flow_Total.mk s1 s2) (T_flow_Total.mk es[q].f_Records[t].f_Packets es[q].f_Records[t].f_Bytes)).f_Bytes (by omega) (by omega)
          refine ⟨s, h3, ?_⟩
          rw [h4, hc]; simp [addR, hk]
        | false =>
          rw [if_neg (by decide)]
          obtain ⟨s, h3, h4⟩ := law_L5 (rec := rec) hkv hq he f (t + 1) s1 s2 (by omega) (by omega)
          refine ⟨s, h3, ?_⟩
          rw [h4, hc]; simp [addR, hk]
    · have ht2 : t = es[q].f_Records.length := by omega
      rw [if_neg (dF (by omega)), if_neg (by decide)]
      refine ⟨T_flow_Total.mk s1 s2, rfl, ?_⟩
      rw [ht2, List.drop_length]; simp
theorem law_L4 {m : M} {c : Int} {i : Nat} (h : Inv m c i) (hi : i ≤ 100) {ks : List T_packet_Key} {kv : Nat} (hkv : kv < ks.length) {rec : Int → Option Bool} : ∀ (f q : Nat) (s : T_flow_Total), q ≤ m.f_entries.length → m.f_entries.length < f + q → (m.f_entries.drop q).foldl (addE ks[kv]) s = csum ks[kv] m.f_entries →
    F_law30_ModelOnce_L4 m.f_forwarded m.f_cached m.f_lost m.f_entries m.f_line m.f_first m.f_boot m.f_entries ks (kv : Int) rec f s.f_Packets s.f_Bytes (q : Int) = rec (IntKind.i64.wrap ((kv : Int) + 1))
  | 0, q, s, h1, h2, h3 => by omega
  | f + 1, q, s, h1, h2, h3 => by
    show F_law30_ModelOnce_l4 (F_law30_ModelOnce_L4 m.f_forwarded m.f_cached m.f_lost m.f_entries m.f_line m.f_first m.f_boot m.f_entries ks (kv : Int) rec f) m.f_forwarded m.f_cached m.f_lost m.f_entries m.f_line m.f_first m.f_boot m.f_entries ks (kv : Int) rec s.f_Packets s.f_Bytes (q : Int) = _
    have hel := h.el
    unfold F_law30_ModelOnce_l4
    by_cases hq : q < m.f_entries.length
    · have he := h.er _ (List.getElem_mem hq)
      obtain ⟨s', h4, h5⟩ := law_L5 (ks := ks) (kv := kv) hkv hq he (rec := F_law30_ModelOnce_L4 m.f_forwarded m.f_cached m.f_lost m.f_entries m.f_line m.f_first m.f_boot m.f_entries ks (kv : Int) rec f) fuel0 0 s.f_Packets s.f_Bytes (Nat.zero_le _) (fuel_lt (by omega))
      rw [if_pos (dT (by omega)), show (0 : Int) = ((0 : Nat) : Int) from rfl, h4, nxk (by omega)]
      refine law_L4 h hi hkv f (q + 1) s' (by omega) (by omega) ?_
      rw [← h3, fold_at (addE ks[kv]) hq, h5]
      rfl
    · obtain ⟨p, hp, hp2⟩ := of_eq2 h hi ks[kv]
      have hs : s = csum ks[kv] m.f_entries := by rw [← h3, List.drop_of_length_le (by omega)]; rfl
      rw [if_neg (dF (by omega)), gidx_get hkv, Option.bind_some, show F_model_Model_Of (T_model_Model.mk m.f_forwarded m.f_cached m.f_lost m.f_entries m.f_line m.f_first m.f_boot) ks[kv] = some p from hp, Option.bind_some, hp2, ← hs]
      rw [if_neg (by simp [q_flow_Total])]
theorem law_L3 {m : M} {c : Int} {i : Nat} (h : Inv m c i) (hi : i ≤ 100) {ks : List T_packet_Key} (hks : ks.length ≤ 1000000) {j : Int} {rec : FM62 → FM62 → FM62 → List En → List Int → Int → Int → Int → Int → Option Bool} : ∀ (f kv : Nat), kv ≤ ks.length → ks.length < f + kv →
    F_law30_ModelOnce_L3 j rec m.f_forwarded m.f_cached m.f_lost m.f_entries m.f_line m.f_first m.f_boot c m.f_entries ks c f (kv : Int) = rec m.f_forwarded m.f_cached m.f_lost m.f_entries m.f_line m.f_first m.f_boot c (IntKind.i64.wrap (j + 1))
  | 0, kv, h1, h2 => by omega
  | f + 1, kv, h1, h2 => by
    show F_law30_ModelOnce_l3 (F_law30_ModelOnce_L3 j rec m.f_forwarded m.f_cached m.f_lost m.f_entries m.f_line m.f_first m.f_boot c m.f_entries ks c f) j rec m.f_forwarded m.f_cached m.f_lost m.f_entries m.f_line m.f_first m.f_boot c m.f_entries ks c (kv : Int) = _
    have hel := h.el
    unfold F_law30_ModelOnce_l3
    by_cases hkv : kv < ks.length
    · rw [if_pos (dT (by omega))]
      have := law_L4 h hi hkv (rec := F_law30_ModelOnce_L3 j rec m.f_forwarded m.f_cached m.f_lost m.f_entries m.f_line m.f_first m.f_boot c m.f_entries ks c f) fuel0 0 (T_flow_Total.mk 0 0) (Nat.zero_le _) (fuel_lt (by omega)) rfl
      rw [show F_law30_ModelOnce_L4 m.f_forwarded m.f_cached m.f_lost m.f_entries m.f_line m.f_first m.f_boot m.f_entries ks (kv : Int) (F_law30_ModelOnce_L3 j rec m.f_forwarded m.f_cached m.f_lost m.f_entries m.f_line m.f_first m.f_boot c m.f_entries ks c f) fuel0 0 0 0 = _ from this, nx6 (by omega)]
      exact law_L3 h hi hks f (kv + 1) (by omega) (by omega)
    · rw [if_neg (dF (by omega)), if_neg (by simp)]
theorem law_L2 {m : M} {c : Int} {i : Nat} (h : Inv m c i) (hi : i ≤ 100) {ks : List T_packet_Key} (hks : ks.length ≤ 1000000) {j : Int} {rec : FM62 → FM62 → FM62 → List En → List Int → Int → Int → Int → Int → Option Bool} : ∀ (f t : Nat) (a : Int), t ≤ m.f_entries.length → m.f_entries.length < f + t → 0 ≤ a → a ≤ t → c = a + ((m.f_entries.drop t).countP (fun e => e.f_Credited) : Nat) →
    F_law30_ModelOnce_L2 j rec m.f_forwarded m.f_cached m.f_lost m.f_entries m.f_line m.f_first m.f_boot c m.f_entries ks f a (t : Int) = rec m.f_forwarded m.f_cached m.f_lost m.f_entries m.f_line m.f_first m.f_boot c (IntKind.i64.wrap (j + 1))
  | 0, t, a, h1, h2, h3, h4, h5 => by omega
  | f + 1, t, a, h1, h2, h3, h4, h5 => by
    show F_law30_ModelOnce_l2 (F_law30_ModelOnce_L2 j rec m.f_forwarded m.f_cached m.f_lost m.f_entries m.f_line m.f_first m.f_boot c m.f_entries ks f) j rec m.f_forwarded m.f_cached m.f_lost m.f_entries m.f_line m.f_first m.f_boot c m.f_entries ks a (t : Int) = _
    have hel := h.el
    unfold F_law30_ModelOnce_l2
    by_cases ht : t < m.f_entries.length
    · have key : ∀ a' : Int, 0 ≤ a' → a' ≤ t + 1 → c = a' + ((m.f_entries.drop (t + 1)).countP (fun e => e.f_Credited) : Nat) → F_law30_ModelOnce_j2 m.f_forwarded m.f_cached m.f_lost m.f_entries m.f_line m.f_first m.f_boot m.f_entries (t : Int) (F_law30_ModelOnce_L2 j rec m.f_forwarded m.f_cached m.f_lost m.f_entries m.f_line m.f_first m.f_boot c m.f_entries ks f) a' = rec m.f_forwarded m.f_cached m.f_lost m.f_entries m.f_line m.f_first m.f_boot c (IntKind.i64.wrap (j + 1)) := fun a' k1 k2 k3 => by
        have go : F_law30_ModelOnce_j3 (t : Int) (F_law30_ModelOnce_L2 j rec m.f_forwarded m.f_cached m.f_lost m.f_entries m.f_line m.f_first m.f_boot c m.f_entries ks f) a' false = rec m.f_forwarded m.f_cached m.f_lost m.f_entries m.f_line m.f_first m.f_boot c (IntKind.i64.wrap (j + 1)) := by
          unfold F_law30_ModelOnce_j3
          rw [if_neg (by decide), nxk (by omega)]
          exact law_L2 h hi hks f (t + 1) a' (by omega) (by omega) k1 (by omega) k3
        unfold F_law30_ModelOnce_j2
        rw [gidx_get ht, Option.bind_some, Option.bind_some, Option.bind_some]
        unfold F_model_Model_Boot
        rw [Option.bind_some]
        split
        · rename_i hT
          split
          · rename_i hS
            have he := h.ts _ (List.getElem_mem ht) hT (by simpa using hS)
            rw [show (m.f_entries[t].f_Epoch != m.f_boot) = false by simp [he]]
            exact go
          · exact go
        · exact go
      rw [if_pos (dT (by omega)), gidx_get ht, Option.bind_some]
      rw [List.drop_eq_getElem_cons ht, List.countP_cons] at h5
      split
      · rename_i hc
        rw [if_pos hc] at h5
        rw [wi64 (by omega) (by omega)]
        exact key (a + 1) (by omega) (by omega) (by omega)
      · rename_i hc
        rw [if_neg hc] at h5
        exact key a h3 (by omega) (by omega)
    · rw [if_neg (dF (by omega))]
      rw [List.drop_of_length_le (by omega)] at h5
      have hca : a = c := by simp at h5; omega
      subst hca
      exact law_L3 h hi hks fuel0 0 (Nat.zero_le _) (fuel_lt (by omega))
theorem law_j1 {m : M} {c : Int} {i : Nat} (h : Inv m c i) (hi : i ≤ 100) {j : Int} {rec : FM62 → FM62 → FM62 → List En → List Int → Int → Int → Int → Int → Option Bool} (hr : rec m.f_forwarded m.f_cached m.f_lost m.f_entries m.f_line m.f_first m.f_boot c (IntKind.i64.wrap (j + 1)) = some true) : F_law30_ModelOnce_j1 j rec m.f_forwarded m.f_cached m.f_lost m.f_entries m.f_line m.f_first m.f_boot c = some true := by
  have hel := h.el
  unfold F_law30_ModelOnce_j1
  rw [show F_model_Model_Entries (T_model_Model.mk m.f_forwarded m.f_cached m.f_lost m.f_entries m.f_line m.f_first m.f_boot) = some m.f_entries from entries_eq h hi, Option.bind_some]
  refine keys_ok (m := T_model_Model.mk m.f_forwarded m.f_cached m.f_lost m.f_entries m.f_line m.f_first m.f_boot) h hi fun ks hks => ?_
  rw [← hr]
  exact law_L2 h hi hks fuel0 0 0 (Nat.zero_le _) (fuel_lt (by omega)) (Int.le_refl 0) (Int.le_refl 0) (by rw [h.cr]; simp)
theorem law_L1 {lv : List T_model_Note} (hl : lv.length ≤ 30) (hw : ∀ n ∈ lv, NW n) : ∀ (f t : Nat) (m : M) (c : Int), Inv m c t → t ≤ lv.length → lv.length < f + t →
    F_law30_ModelOnce_L1 lv f m.f_forwarded m.f_cached m.f_lost m.f_entries m.f_line m.f_first m.f_boot c (t : Int) = some true
  | 0, t, m, c, h, h1, h2 => by omega
  | f + 1, t, m, c, h, h1, h2 => by
    show F_law30_ModelOnce_l1 (F_law30_ModelOnce_L1 lv f) lv m.f_forwarded m.f_cached m.f_lost m.f_entries m.f_line m.f_first m.f_boot c (t : Int) = _
    unfold F_law30_ModelOnce_l1
    by_cases ht : t < lv.length
    · obtain ⟨e, m', e1, e2⟩ := step_ok h (by omega) (hw _ (List.getElem_mem ht))
      have hcr := e2.cr
      have hel := h.el
      have hc0 := h.cr
      have hcp : m.f_entries.countP (fun e => e.f_Credited) ≤ m.f_entries.length := List.countP_le_length
      have key : ∀ c' : Int, Inv m' c' (t + 1) → F_law30_ModelOnce_j1 (t : Int) (F_law30_ModelOnce_L1 lv f) m'.f_forwarded m'.f_cached m'.f_lost m'.f_entries m'.f_line m'.f_first m'.f_boot c' = some true := fun c' hI => by
        refine law_j1 hI (by omega) ?_
        rw [nxk (by omega)]
        exact law_L1 hl hw f (t + 1) m' c' hI (by omega) (by omega)
      rw [if_pos (dT (by omega)), gidx_get ht, Option.bind_some, show F_model_Model_Step (T_model_Model.mk m.f_forwarded m.f_cached m.f_lost m.f_entries m.f_line m.f_first m.f_boot) lv[t] = some (e, m') from e1, Option.bind_some]
      unfold F_law30_ModelOnce_j6
      split
      · rename_i he
        have he : e = 0 := by simpa using he
        rw [Option.bind_some]
        split
        · rename_i hk
          have hk : lv[t].f_Kind = 6 := by simpa using hk
          rw [if_pos ⟨he, hk⟩] at e2
          rw [wi64 (by omega) (by omega)]
          exact key _ e2
        · rename_i hk
          rw [if_neg (fun h => hk (by simp [h.2]))] at e2
          exact key _ e2
      · rename_i he
        rw [if_neg (fun h => he (by simp [h.1]))] at e2
        rw [if_neg (by decide)]
        exact key _ e2
    · rw [if_neg (dF (by omega)), works_eq]; rfl
theorem few_L {lv : List T_model_Note} : ∀ (f t : Nat), t ≤ lv.length → t ≤ 31 → 31 < f + t → (∀ j n, j < t → lv[j]? = some n → n.f_Records.length ≤ 10) → ∃ b, F_law30_few_L1 lv f (t : Int) = some b ∧ (b = true → lv.length ≤ 30 ∧ ∀ n ∈ lv, n.f_Records.length ≤ 10)
  | 0, t, h1, h2, h3, h4 => by omega
  | f + 1, t, h1, h2, h3, h4 => by
    show ∃ b, F_law30_few_l1 (F_law30_few_L1 lv f) lv (t : Int) = _ ∧ _
    have fin : (lv.length ≤ 30 → lv.length ≤ t) → ∃ b, F_law30_few_j1 lv (t : Int) (F_law30_few_L1 lv f) false = some b ∧ (b = true → lv.length ≤ 30 ∧ ∀ n ∈ lv, n.f_Records.length ≤ 10) := fun hx => by
      unfold F_law30_few_j1
      rw [if_neg (by decide)]
      refine ⟨_, rfl, fun hb => ?_⟩
      have hb := of_decide_eq_true hb
      refine ⟨by omega, fun n hn => ?_⟩
      obtain ⟨j, hj, rfl⟩ := List.getElem_of_mem hn
      exact h4 j _ (by have := hx (by omega); omega) (List.getElem?_eq_getElem hj)
    unfold F_law30_few_l1
    by_cases ht : t < lv.length
    · rw [if_pos (dT (by omega))]
      by_cases ht2 : t < 31
      · rw [dT (by omega : (t : Int) < 31)]
        unfold F_law30_few_j1
        rw [if_pos rfl, gidx_get ht, Option.bind_some]
        split
        · exact ⟨_, rfl, fun h => by cases h⟩
        · rename_i hr
          have hr : ¬ (10 : Int) < (lv[t].f_Records.length : Int) := fun h => hr (decide_eq_true h)
          rw [nxk (by omega)]
          refine few_L f (t + 1) (by omega) (by omega) (by omega) fun j n hj hn => ?_
          by_cases hjt : j = t
          · subst hjt
            rw [List.getElem?_eq_getElem ht] at hn
            have := Option.some.inj hn
            subst this
            omega
          · exact h4 j n (by omega) hn
      · rw [show decide ((t : Int) < 31) = false from decide_eq_false (by omega)]
        exact fin (by omega)
    · rw [if_neg (dF (by omega))]
      exact fin (by omega)
theorem once_eq {lv : List T_model_Note} (hw : ∀ n ∈ lv, 0 ≤ n.f_First ∧ 0 ≤ n.f_Next) : F_law30_ModelOnce lv = some true := by
  unfold F_law30_ModelOnce F_law30_few
  obtain ⟨b, h1, h2⟩ := few_L (lv := lv) fuel0 0 (Nat.zero_le _) (by omega) (Nat.lt_of_lt_of_le (by decide : 31 < fuel0) (by omega)) (fun j n hj => by omega)
  rw [show (0 : Int) = ((0 : Nat) : Int) from rfl, h1, Option.bind_some]
  cases b with
  | false => rw [if_pos (by decide), works_eq]; rfl
  | true =>
    obtain ⟨h3, h4⟩ := h2 rfl
    rw [if_neg (by decide)]
    unfold F_model_New
    rw [Option.bind_some]
    exact law_L1 h3 (fun n hn => ⟨h4 n hn, (hw n hn).1, (hw n hn).2⟩) fuel0 0 (T_model_Model.mk mnone mnone mnone [] [] 0 0) 0 ⟨Nat.le_refl _, fun e he => by (cases he), Nat.le_refl _, fun x hx => by (cases hx), rfl, fun e he => by (cases he), [], Nat.le_refl _, fun k hk => (hk rfl).elim⟩ (Nat.zero_le _) (fuel_lt (by omega))
end Go.Proofs.Ytidbgejnkpoeeaa
