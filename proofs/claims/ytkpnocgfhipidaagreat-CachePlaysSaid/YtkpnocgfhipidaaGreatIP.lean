/- Plain text: the reference's cache, that has its flows in the order of their keys. -/
import Derived.Test.YtkpnocgfhipidaaGreatFP
set_option linter.unusedVariables false
namespace Go.Proofs.YtkpnocgfhipidaaGreat
open Go Go.Ox Go.Ox.Ring
def rK (k : T_packet_Key) : T_ref08_Key := ⟨k.f_Src, k.f_Dst, k.f_Proto, k.f_SrcPort, k.f_DstPort⟩
def rR (r : Rc) : T_ref22_Record := ⟨rK r.f_Key, r.f_Packets, r.f_Bytes, r.f_First, r.f_Last, r.f_Flags, r.f_Reason, r.f_Class⟩
def rP (p : T_packet_Packet) : T_ref08_Packet := ⟨rK p.f_Key, p.f_Length, p.f_Flags, p.f_Fragment⟩
abbrev k0 (r : Rc) : Int := 0
theorem al_eq (xs : List Rc) : al xs = st k0 xs := rfl
/-- Numbers that are no greater than a word. -/
structure UR (r : Rc) : Prop where
  p : 0 ≤ r.f_Packets ∧ r.f_Packets < 18446744073709551616
  b : 0 ≤ r.f_Bytes ∧ r.f_Bytes < 18446744073709551616
  f : 0 ≤ r.f_First ∧ r.f_First < 18446744073709551616
  l : 0 ≤ r.f_Last ∧ r.f_Last < 18446744073709551616
structure UB (b : Bd) : Prop where
  i : 0 ≤ b.f_Idle ∧ b.f_Idle < 18446744073709551616
  a : 0 ≤ b.f_Active ∧ b.f_Active < 18446744073709551616
theorem rplus_eq {a b : Int} (ha : 0 ≤ a ∧ a < 18446744073709551616) (hb : 0 ≤ b ∧ b < 18446744073709551616) : F_ref10_Plus a b = some (pl a b) := by
  unfold F_ref10_Plus F_ref10_most
  rw [Option.bind_some, wu64i (by omega) (by omega), Option.bind_some]
  have e1 : hi64 a b = if a + b < 18446744073709551616 then 0 else 1 := by
    unfold hi64
    split <;> omega
  unfold pl
  rw [e1]
  by_cases h : a + b < 18446744073709551616
  · rw [if_neg (dF (by omega)), if_pos h, if_neg (by decide), wu64i (by omega) (by omega)]
    unfold lo64
    congr 1; omega
  · rw [if_pos (dT (by omega)), if_neg h, if_pos (by decide)]
theorem pl_rng {a b : Int} : 0 ≤ pl a b ∧ pl a b < 18446744073709551616 := by
  unfold pl hi64 lo64
  split <;> omega
theorem ridle_eq {b : Bd} (ub : UB b) {r : Rc} (ur : UR r) (tk : Int) (L : List T_ref22_Record) : F_ref24_Cache_idle ⟨tk, b, L⟩ (rR r) = some (idl b r) := by
  unfold F_ref24_Cache_idle
  show (F_ref10_Plus r.f_Last b.f_Idle).bind _ = _
  rw [rplus_eq ur.l ub.i, Option.bind_some]; rfl
theorem rdue_eq {b : Bd} (ub : UB b) {r : Rc} (ur : UR r) (tk : Int) (L : List T_ref22_Record) : F_ref24_Cache_due ⟨tk, b, L⟩ (rR r) = some (du b r) := by
  unfold F_ref24_Cache_due
  rw [ridle_eq ub ur, Option.bind_some]
  show (F_ref10_Plus r.f_First b.f_Active).bind _ = _
  rw [rplus_eq ur.f ub.a, Option.bind_some]; rfl
/-- A reference's cache with these flows. -/
def RC (tk : Int) (b : Bd) (L : List Rc) : T_ref24_Cache := ⟨tk, b, L.map rR⟩
theorem rat {L : List Rc} {i : Nat} {r : Rc} (h : L[i]? = some r) : gidx (L.map rR) (i : Int) = some (rR r) := gidx_nat (by simp [h])
/-! ### Next -/
theorem rnext_L {tk : Int} {b : Bd} (ub : UB b) {L : List Rc} (hu : ∀ r ∈ L, UR r) (h : L.length ≤ 4096) : ∀ (f t : Nat) (m : Int) (ok : Bool), t ≤ L.length → L.length < f + t → Nxt b (L.take t) m ok →
    ∃ m' ok', F_ref24_Cache_Next_L1 (RC tk b L) f m ok (t : Int) = some (m', ok', RC tk b L) ∧ Nxt b L m' ok'
  | 0, t, m, ok, h1, h2, _ => by omega
  | f + 1, t, m, ok, h1, h2, hn => by
    show ∃ m' ok', F_ref24_Cache_Next_l1 (F_ref24_Cache_Next_L1 (RC tk b L) f) (RC tk b L) m ok (t : Int) = some (m', ok', RC tk b L) ∧ _
    unfold F_ref24_Cache_Next_l1
    have hlen : (RC tk b L).f_L.length = L.length := by simp [RC]
    rw [hlen]
    by_cases hl : t = L.length
    · subst hl
      rw [if_neg (dF (by omega))]
      rw [List.take_length] at hn
      exact ⟨m, ok, rfl, hn⟩
    · obtain ⟨r, hr⟩ : ∃ r, L[t]? = some r := ⟨_, List.getElem?_eq_getElem (by omega)⟩
      have htk : L.take (t + 1) = L.take t ++ [r] := by rw [List.take_add_one, hr]; rfl
      have hg : gidx (RC tk b L).f_L (t : Int) = some (rR r) := rat hr
      have hd : F_ref24_Cache_due (RC tk b L) (rR r) = some (du b r) := rdue_eq ub (hu r (List.mem_of_getElem? hr)) _ _
      rw [if_pos (dT (by omega))]
      unfold F_ref24_Cache_Next_j2 F_ref24_Cache_Next_j1
      rw [nx4 (by omega)]
      have new : (∀ x ∈ L.take t, du b r ≤ du b x) → Nxt b (L.take (t + 1)) (du b r) true := fun hx => by
        rw [htk]
        refine .inr ⟨rfl, ⟨r, by simp, rfl⟩, fun x hx2 => ?_⟩
        rcases List.mem_append.1 hx2 with hx2 | hx2
        · exact hx x hx2
        · rw [List.mem_singleton.1 hx2]; exact Int.le_refl _
      rcases hn with ⟨e1, e2, e3⟩ | ⟨e1, ⟨q, hq, e2⟩, e3⟩
      · rw [e2, if_pos (by decide), if_pos rfl, hg, Option.bind_some, hd, Option.bind_some]
        exact rnext_L ub hu h f (t + 1) _ _ (by omega) (by omega) (new (fun x hx => by rw [e1] at hx; cases hx))
      · rw [e1, if_neg (by decide), hg, Option.bind_some, hd, Option.bind_some, Option.bind_some, hd, Option.bind_some]
        by_cases hdd : du b r < m
        · rw [if_pos (dT hdd)]
          exact rnext_L ub hu h f (t + 1) _ _ (by omega) (by omega) (new (fun x hx => by have := e3 x hx; omega))
        · rw [if_neg (dF hdd)]
          refine rnext_L ub hu h f (t + 1) _ _ (by omega) (by omega) ?_
          rw [htk]
          refine .inr ⟨rfl, ⟨q, List.mem_append_left _ hq, e2⟩, fun x hx2 => ?_⟩
          rcases List.mem_append.1 hx2 with hx2 | hx2
          · exact e3 x hx2
          · rw [List.mem_singleton.1 hx2]; omega
theorem rnext_spec {tk : Int} {b : Bd} (ub : UB b) {L : List Rc} (hu : ∀ r ∈ L, UR r) (h : L.length ≤ 4096) : ∃ m ok, F_ref24_Cache_Next (RC tk b L) = some (m, ok, RC tk b L) ∧ Nxt b L m ok :=
  rnext_L ub hu h fuel0 0 0 false (by omega) (by unfold fuel0; omega) (.inl ⟨rfl, rfl, rfl⟩)
theorem nxt_uniq {b : Bd} {xs ys : List Rc} {m m' : Int} {ok ok' : Bool} (hp : xs.Perm ys) (h : Nxt b xs m ok) (h' : Nxt b ys m' ok') : m = m' ∧ ok = ok' := by
  rcases h with ⟨e1, e2, e3⟩ | ⟨e1, ⟨q, hq, e2⟩, e3⟩ <;> rcases h' with ⟨d1, d2, d3⟩ | ⟨d1, ⟨r, hr, d2⟩, d3⟩
  · exact ⟨by rw [e3, d3], by rw [e2, d2]⟩
  · subst e1
    have := hp.nil_eq
    subst this; cases hr
  · subst d1
    have := hp.symm.nil_eq
    subst this; cases hq
  · have h1 := e3 r (hp.mem_iff.2 hr)
    have h2 := d3 q (hp.mem_iff.1 hq)
    exact ⟨by omega, by rw [e1, d1]⟩
/-! ### One flow ends -/
theorem rend_eq {tk : Int} {b : Bd} {L : List Rc} (h : L.length ≤ 5000) {i : Nat} {r : Rc} (hi : L[i]? = some r) (z : Int) : F_ref24_Cache_end (RC tk b L) (i : Int) z = some (rR (rs r z), RC tk b (L.eraseIdx i)) := by
  have hil := (List.getElem?_eq_some_iff.1 hi).1
  unfold F_ref24_Cache_end
  have hg : gidx (RC tk b L).f_L (i : Int) = some (rR r) := rat hi
  have hlen : (RC tk b L).f_L.length = L.length := by simp [RC]
  have c1 : gcut (RC tk b L).f_L 0 (i : Int) = some ((L.take i).map rR) := by
    rw [gcut_in (Int.le_refl _) (by omega) (by rw [hlen]; omega)]
    simp [RC, List.map_take]
  have c2 : gcut (RC tk b L).f_L ((i + 1 : Nat) : Int) ((RC tk b L).f_L.length : Int) = some ((L.drop (i + 1)).map rR) := by
    rw [gcut_in (by omega) (by rw [hlen]; omega) (Int.le_refl _), hlen]
    simp only [RC, Int.toNat_natCast, ← List.map_drop, ← List.map_take]
    rw [List.take_of_length_le (by rw [List.length_drop]; omega)]
  have l1 := List.length_take_le i L
  have l2 : (L.drop (i + 1)).length ≤ L.length := by rw [List.length_drop]; omega
  rw [hg, Option.bind_some, c1, Option.bind_some, if_pos (limk (by rw [List.length_map]; omega)), nx4 (by omega), c2, Option.bind_some, if_pos (limk (by rw [List.length_map, List.length_map]; omega))]
  simp only [RC, List.eraseIdx_eq_take_drop_succ, List.map_append]
  rfl
end Go.Proofs.YtkpnocgfhipidaaGreat
