/- Plain text: All, Flush, Next. -/
import Derived.Test.YtkpnocgfhipidaaGreatEP
set_option linter.unusedVariables false
namespace Go.Proofs.YtkpnocgfhipidaaGreat
open Go Go.Ox Go.Ox.Ring
theorem seq_L {xs : List Rc} (hx : xs.length ≤ 4096) : ∀ (f t : Nat), t ≤ xs.length → xs.length < f + t →
    F_slices_AppendSeq_flow_Record_flow_Record_Zfslices_Values_flow_Record_flow_Record_1_L1 xs f (t : Int) (xs.take t) = some (xs, xs)
  | 0, t, h1, h2 => by omega
  | f + 1, t, h1, h2 => by
    show F_slices_AppendSeq_flow_Record_flow_Record_Zfslices_Values_flow_Record_flow_Record_1_l1 (F_slices_AppendSeq_flow_Record_flow_Record_Zfslices_Values_flow_Record_flow_Record_1_L1 xs f) xs (t : Int) (xs.take t) = _
    unfold F_slices_AppendSeq_flow_Record_flow_Record_Zfslices_Values_flow_Record_flow_Record_1_l1
    by_cases hl : t = xs.length
    · subst hl
      rw [if_neg (dF (by omega)), List.take_length]
    · obtain ⟨r, hr⟩ : ∃ r, xs[t]? = some r := ⟨_, List.getElem?_eq_getElem (by omega)⟩
      have htk : xs.take (t + 1) = xs.take t ++ [r] := by rw [List.take_add_one, hr]; rfl
      have := List.length_take_le t xs
      rw [if_pos (dT (by omega)), gidx_nat hr, Option.bind_some, if_pos (limk (by simp; omega)), nx4 (by omega), ← htk]
      exact seq_L hx f (t + 1) (by omega) (by omega)
/-- All flows, by their keys. -/
def al (xs : List Rc) : List Rc := st (fun _ => 0) xs
theorem all_eq {c : Ca} (h : c.f_flows.length ≤ 4096) : F_cache_Cache_All c = some (al c.f_flows, c) := by
  unfold F_cache_Cache_All F_slices_SortedFunc_flow_Record_fslices_Values_flow_Record_flow_Record_1fcache_byKey F_slices_Collect_flow_Record_fslices_Values_flow_Record_flow_Record_1 F_slices_AppendSeq_flow_Record_flow_Record_Zfslices_Values_flow_Record_flow_Record_1
  have k := seq_L h fuel0 0 (by omega) (by unfold fuel0; omega)
  rw [List.take_zero] at k
  rw [show F_slices_AppendSeq_flow_Record_flow_Record_Zfslices_Values_flow_Record_flow_Record_1_L1 c.f_flows fuel0 0 [] = _ from k, Option.bind_some, Option.bind_some]
  unfold F_slices_SortFunc_flow_Record_flow_Record_cache_byKey
  rw [if_pos (limk (show c.f_flows.length < _ by omega)), Option.bind_some, Option.bind_some, cfb_eq]
  rfl
theorem flush_spec {n : Nat} {c : Ca} (h : CI n c) :
    ∃ c', F_cache_Cache_Flush c = some ((al c.f_flows).map (fun r => rs r 4), c') ∧ CI n c' ∧ c'.f_tick = c.f_tick ∧ c'.f_bounds = c.f_bounds ∧ c'.f_flows = [] := by
  have hsm := h.small
  generalize hy : al c.f_flows = y
  have hyp : y.Perm c.f_flows := by rw [← hy]; exact st_perm _ _
  have hpl := hyp.length_eq
  have key := ends_gen (n := n) (b := c.f_bounds) (tk := c.f_tick) (rz := fun _ => 4) (y := y) (rest := [])
    (G := fun f c out t => F_cache_Cache_ends_fcache_forced_L1 y f c.f_tick c.f_bounds.f_Flows c.f_bounds.f_Idle c.f_bounds.f_Active c.f_bounds.f_Packets c.f_bounds.f_Bytes c.f_places.f_slots c.f_places.f_many c.f_flows out t) (by omega)
    (fun f c2 out t r hr hb ht ho => by
      show F_cache_Cache_ends_fcache_forced_l1 (F_cache_Cache_ends_fcache_forced_L1 y f) y c2.f_tick c2.f_bounds.f_Flows c2.f_bounds.f_Idle c2.f_bounds.f_Active c2.f_bounds.f_Packets c2.f_bounds.f_Bytes c2.f_places.f_slots c2.f_places.f_many c2.f_flows out (t : Int) = _
      have hlt := (List.getElem?_eq_some_iff.1 hr).1
      unfold F_cache_Cache_ends_fcache_forced_l1
      rw [if_pos (dT (by omega)), gidx_nat hr, Option.bind_some]
      unfold F_cache_forced
      rw [Option.bind_some, nx4 (by omega)]
      have hlim : ∀ q : Rc, decide (out.length + ([q] : List Rc).length ≤ lim) = true := fun q => limk (by simp; omega)
      simp only [hlim, if_true])
    (fun f c2 out => by
      show F_cache_Cache_ends_fcache_forced_l1 (F_cache_Cache_ends_fcache_forced_L1 y f) y c2.f_tick c2.f_bounds.f_Flows c2.f_bounds.f_Idle c2.f_bounds.f_Active c2.f_bounds.f_Packets c2.f_bounds.f_Bytes c2.f_places.f_slots c2.f_places.f_many c2.f_flows out (y.length : Int) = _
      unfold F_cache_Cache_ends_fcache_forced_l1
      rw [if_neg (dF (by omega))])
  obtain ⟨c', e, h1, h2, h3, h4⟩ := key fuel0 0 c [] h rfl rfl (by omega) (by unfold fuel0; omega) rfl (by simpa using hyp.symm)
  refine ⟨c', ?_, h1, h2, h3, h4.eq_nil⟩
  unfold F_cache_Cache_Flush F_cache_Cache_ends_fcache_forced
  rw [all_eq hsm, hy, Option.bind_some]
  show (F_cache_Cache_ends_fcache_forced_L1 y fuel0 c.f_tick c.f_bounds.f_Flows c.f_bounds.f_Idle c.f_bounds.f_Active c.f_bounds.f_Packets c.f_bounds.f_Bytes c.f_places.f_slots c.f_places.f_many c.f_flows [] 0).bind _ = _
  have e2 : F_cache_Cache_ends_fcache_forced_L1 y fuel0 c.f_tick c.f_bounds.f_Flows c.f_bounds.f_Idle c.f_bounds.f_Active c.f_bounds.f_Packets c.f_bounds.f_Bytes c.f_places.f_slots c.f_places.f_many c.f_flows [] 0 = some (y.map (fun r => rs r 4), c') := by simpa using e
  rw [e2]; rfl
/-- The least due tick. -/
def Nxt (b : Bd) (xs : List Rc) (m : Int) (ok : Bool) : Prop := (xs = [] ∧ ok = false ∧ m = 0) ∨ (ok = true ∧ (∃ r ∈ xs, du b r = m) ∧ ∀ r ∈ xs, m ≤ du b r)
theorem next_L {c : Ca} (h : c.f_flows.length ≤ 4096) : ∀ (f t : Nat) (m : Int) (ok : Bool), t ≤ c.f_flows.length → c.f_flows.length < f + t → Nxt c.f_bounds (c.f_flows.take t) m ok →
    ∃ m' ok', F_cache_Cache_Next_L1 c f m ok (t : Int) = some (m', ok', c) ∧ Nxt c.f_bounds c.f_flows m' ok'
  | 0, t, m, ok, h1, h2, _ => by omega
  | f + 1, t, m, ok, h1, h2, hn => by
    show ∃ m' ok', F_cache_Cache_Next_l1 (F_cache_Cache_Next_L1 c f) c m ok (t : Int) = some (m', ok', c) ∧ _
    unfold F_cache_Cache_Next_l1
    by_cases hl : t = c.f_flows.length
    · subst hl
      rw [if_neg (dF (by omega))]
      rw [List.take_length] at hn
      exact ⟨m, ok, rfl, hn⟩
    · obtain ⟨r, hr⟩ : ∃ r, c.f_flows[t]? = some r := ⟨_, List.getElem?_eq_getElem (by omega)⟩
      have htk : c.f_flows.take (t + 1) = c.f_flows.take t ++ [r] := by rw [List.take_add_one, hr]; rfl
      rw [if_pos (dT (by omega)), gidx_nat hr, Option.bind_some, due_eq, Option.bind_some]
      unfold F_cache_Cache_Next_j2 F_cache_Cache_Next_j1
      rw [nx4 (by omega)]
      have new : (∀ x ∈ c.f_flows.take t, du c.f_bounds r ≤ du c.f_bounds x) → Nxt c.f_bounds (c.f_flows.take (t + 1)) (du c.f_bounds r) true := fun hx => by
        rw [htk]
        refine .inr ⟨rfl, ⟨r, by simp, rfl⟩, fun x hx2 => ?_⟩
        rcases List.mem_append.1 hx2 with hx2 | hx2
        · exact hx x hx2
        · rw [List.mem_singleton.1 hx2]; exact Int.le_refl _
      rcases hn with ⟨e1, e2, e3⟩ | ⟨e1, ⟨q, hq, e2⟩, e3⟩
      · rw [e2, if_pos (by decide)]
        exact next_L h f (t + 1) _ _ (by omega) (by omega) (new (fun x hx => by rw [e1] at hx; cases hx))
      · rw [e1, if_neg (by decide)]
        by_cases hd : du c.f_bounds r < m
        · rw [if_pos (dT hd)]
          exact next_L h f (t + 1) _ _ (by omega) (by omega) (new (fun x hx => by have := e3 x hx; omega))
        · rw [if_neg (dF hd)]
          refine next_L h f (t + 1) _ _ (by omega) (by omega) ?_
          rw [htk]
          refine .inr ⟨rfl, ⟨q, List.mem_append_left _ hq, e2⟩, fun x hx2 => ?_⟩
          rcases List.mem_append.1 hx2 with hx2 | hx2
          · exact e3 x hx2
          · rw [List.mem_singleton.1 hx2]; omega
theorem next_spec {c : Ca} (h : c.f_flows.length ≤ 4096) : ∃ m ok, F_cache_Cache_Next c = some (m, ok, c) ∧ Nxt c.f_bounds c.f_flows m ok :=
  next_L h fuel0 0 0 false (by omega) (by unfold fuel0; omega) (.inl ⟨rfl, rfl, rfl⟩)
end Go.Proofs.YtkpnocgfhipidaaGreat
