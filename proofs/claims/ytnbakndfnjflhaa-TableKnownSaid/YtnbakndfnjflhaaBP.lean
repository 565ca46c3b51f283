/- Plain text: what a table's calls do, by the ring's lemmas. -/
import Derived.Test.YtnbakndfnjflhaaAP
set_option linter.unusedVariables false
namespace Go.Proofs.Ytnbakndfnjflhaa
open Go Go.Ox Go.Ox.Ring
def usd (S : List Sl) : Nat := S.countP fun s => s.f_Used
/-- A table that is whole: places, keys in order from their homes, and how many. -/
structure TT (n : Nat) (S : List Sl) (m : Int) : Prop extends WT n S where
  inv : ∃ b, Inv n KE (hm n) (tab S) b
  many : m = (usd S : Int)
theorem usd_le (S : List Sl) : usd S ≤ S.length := List.countP_le_length
theorem usd_set {S : List Sl} {q : Nat} {s e : Sl} (h : S[q]? = some s) : usd (S.set q e) + (if s.f_Used = true then 1 else 0) = usd S + (if e.f_Used = true then 1 else 0) := by
  obtain ⟨hq, he⟩ := List.getElem?_eq_some_iff.1 h
  unfold usd
  rw [List.countP_set hq, he]
  by_cases hs : s.f_Used = true
  · have : 0 < S.countP fun s => s.f_Used := List.countP_pos_iff.2 ⟨s, List.mem_of_getElem? h, hs⟩
    rw [if_pos hs]
    omega
  · rw [if_neg hs]; omega
theorem get_lt {n : Nat} {S : List Sl} (w : WT n S) {q : Nat} (hq : q < n) : ∃ s, S[q]? = some s := ⟨_, List.getElem?_eq_getElem (by rw [w.len]; exact hq)⟩
/-- What a search may find. -/
theorem find_cases {n : Nat} {S : List Sl} {m : Int} (t : TT n S m) {k : T_packet_Key} (hk : WK k) :
    (∃ q s, q < n ∧ S[q]? = some s ∧ s.f_Used = true ∧ s.f_Key = k ∧ F_table_Table_find ⟨S, m⟩ k = some ((q : Int), ((sub n q (hm n k) + 1 : Nat) : Int), ⟨S, m⟩)) ∨
    (Absent n KE (tab S) k ∧ ((∃ j s, Ring.Ends n KE (hm n) (tab S) k j ∧ S[add n (hm n k) j]? = some s ∧ s.f_Used = false ∧ F_table_Table_find ⟨S, m⟩ k = some (((add n (hm n k) j : Nat) : Int), ((j + 1 : Nat) : Int), ⟨S, m⟩)) ∨
      (usd S = n ∧ F_table_Table_find ⟨S, m⟩ k = some (-1, (n : Int), ⟨S, m⟩)))) := by
  obtain ⟨b, hb⟩ := t.inv
  have w := t.toWT
  have hh : ∀ k, hm n k < n := hm_lt w.pos
  rcases ends_or (n := n) (key := KE) (home := hm n) (A := tab S) k with ⟨j, hj⟩ | hno
  · have hf := find_ends (m := m) w hk hj
    have hq : add n (hm n k) j < n := add_lt (hh k) (Nat.le_of_lt hj.lt)
    obtain ⟨s, hs⟩ := get_lt w hq
    cases hu : s.f_Used with
    | true =>
      have ht := tab_some.2 ⟨hs, hu⟩
      refine .inl ⟨_, s, hq, hs, hu, hj.has ht, ?_⟩
      rw [sub_add (hh k) hj.lt]
      exact hf
    | false =>
      exact .inr ⟨hb.absent hh hj ((tab_none hs).2 hu), .inl ⟨j, s, hj, hs, hu, hf⟩⟩
  · obtain ⟨ha, hful⟩ := no_ends hh hno
    refine .inr ⟨ha, .inr ⟨?_, find_none w hk hno⟩⟩
    rw [← w.len]
    refine List.countP_eq_length.2 fun s hs => ?_
    obtain ⟨q, hq⟩ := List.getElem?_of_mem hs
    have hql : q < n := by rw [← w.len]; exact (List.getElem?_eq_some_iff.1 hq).1
    cases hu : s.f_Used with
    | true => rfl
    | false => exact (hful q hql ((tab_none hq).2 hu)).elim
/-- A key that is there. -/
theorem find_in {n : Nat} {S : List Sl} {m : Int} (t : TT n S m) {q : Nat} {s : Sl} (hs : S[q]? = some s) (hu : s.f_Used = true) : F_table_Table_find ⟨S, m⟩ s.f_Key = some ((q : Int), ((sub n q (hm n s.f_Key) + 1 : Nat) : Int), ⟨S, m⟩) := by
  obtain ⟨b, hb⟩ := t.inv
  have w := t.toWT
  have hh : ∀ k, hm n k < n := hm_lt w.pos
  have hq : q < n := by rw [← w.len]; exact (List.getElem?_eq_some_iff.1 hs).1
  have he := hb.ends hh hq (tab_some.2 ⟨hs, hu⟩)
  have := find_ends (m := m) w (w.key s (List.mem_of_getElem? hs)) he
  rw [this, add_sub hq (hh _)]
def Mem (S : List Sl) (k : T_packet_Key) (v : Int) : Prop := ∃ (q : Nat) (s : Sl), S[q]? = some s ∧ s.f_Used = true ∧ s.f_Key = k ∧ s.f_N = v
theorem absent_mem {n : Nat} {S : List Sl} (w : WT n S) {k : T_packet_Key} (h : Absent n KE (tab S) k) {v : Int} : ¬ Mem S k v := fun ⟨q, s, hs, hu, hk, _⟩ => h q s (by rw [← w.len]; exact (List.getElem?_eq_some_iff.1 hs).1) (tab_some.2 ⟨hs, hu⟩) hk
/-! ### Has, Get, Probes -/
theorem has_in {n : Nat} {S : List Sl} {m : Int} (t : TT n S m) {q : Nat} {s : Sl} (hs : S[q]? = some s) (hu : s.f_Used = true) : F_table_Table_has ⟨S, m⟩ s.f_Key = some ((q : Int), ⟨S, m⟩) := by
  unfold F_table_Table_has F_table_Table_has_j1
  rw [find_in t hs hu, Option.bind_some]
  dsimp only
  rw [if_pos (dT (by omega)), gidx_nat hs, Option.bind_some, hu]
  rfl
theorem has_out {n : Nat} {S : List Sl} {m : Int} (t : TT n S m) {k : T_packet_Key} (hk : WK k) (h : Absent n KE (tab S) k) : F_table_Table_has ⟨S, m⟩ k = some (-1, ⟨S, m⟩) := by
  unfold F_table_Table_has F_table_Table_has_j1
  rcases find_cases t hk with ⟨q, s, hq, hs, hu, hks, hf⟩ | ⟨_, ⟨j, s, hj, hs, hu, hf⟩ | ⟨_, hf⟩⟩
  · exact (h q s hq (tab_some.2 ⟨hs, hu⟩) hks).elim
  · rw [hf, Option.bind_some]
    dsimp only
    rw [if_pos (dT (by omega)), gidx_nat hs, Option.bind_some, hu]
    rfl
  · rw [hf, Option.bind_some]
    rfl
theorem get_in {n : Nat} {S : List Sl} {m : Int} (t : TT n S m) {k : T_packet_Key} {v : Int} (h : Mem S k v) : F_table_Table_Get ⟨S, m⟩ k = some (v, true, ⟨S, m⟩) := by
  obtain ⟨q, s, hs, hu, rfl, rfl⟩ := h
  unfold F_table_Table_Get
  rw [has_in t hs hu, Option.bind_some]
  dsimp only
  rw [if_neg (dF (by omega)), gidx_nat hs, Option.bind_some]
theorem get_out {n : Nat} {S : List Sl} {m : Int} (t : TT n S m) {k : T_packet_Key} (hk : WK k) (h : Absent n KE (tab S) k) : F_table_Table_Get ⟨S, m⟩ k = some (0, false, ⟨S, m⟩) := by
  unfold F_table_Table_Get
  rw [has_out t hk h, Option.bind_some]
  rfl
theorem probes_in {n : Nat} {S : List Sl} {m : Int} (t : TT n S m) {q : Nat} {s : Sl} (hs : S[q]? = some s) (hu : s.f_Used = true) : F_table_Table_Probes ⟨S, m⟩ s.f_Key = some (((sub n q (hm n s.f_Key) + 1 : Nat) : Int), ⟨S, m⟩) := by
  unfold F_table_Table_Probes
  rw [find_in t hs hu, Option.bind_some]
/-! ### Put -/
theorem put_wrong {n : Nat} {S : List Sl} {m : Int} (t : TT n S m) {k : T_packet_Key} (hk : WK k) (hr : kr k = false) (v : Int) : F_table_Table_Put ⟨S, m⟩ k v = some (2, ⟨S, m⟩) := by
  have : ∃ p c, F_table_Table_find ⟨S, m⟩ k = some (p, c, ⟨S, m⟩) := by
    rcases find_cases t hk with ⟨q, s, hq, hs, hu, hks, hf⟩ | ⟨_, ⟨j, s, hj, hs, hu, hf⟩ | ⟨_, hf⟩⟩ <;> exact ⟨_, _, hf⟩
  obtain ⟨p, c, hf⟩ := this
  unfold F_table_Table_Put
  rw [hf, Option.bind_some, kright_eq, Option.bind_some, hr]
  rfl
theorem put_over {n : Nat} {S : List Sl} {m : Int} (t : TT n S m) {q : Nat} {s : Sl} (hs : S[q]? = some s) (hu : s.f_Used = true) (hr : kr s.f_Key = true) (v : Int) : F_table_Table_Put ⟨S, m⟩ s.f_Key v = some (0, ⟨S.set q ⟨true, s.f_Key, v⟩, m⟩) ∧ TT n (S.set q ⟨true, s.f_Key, v⟩) m := by
  have w := t.toWT
  have hq : q < n := by rw [← w.len]; exact (List.getElem?_eq_some_iff.1 hs).1
  refine ⟨?_, ?_⟩
  · unfold F_table_Table_Put F_table_Table_Put_j1
    rw [find_in t hs hu, Option.bind_some, kright_eq, Option.bind_some, hr]
    dsimp only
    rw [if_neg (by decide), if_neg (dF (by omega)), gidx_nat hs, Option.bind_some, hu, if_neg (by decide), Option.bind_some]
    rfl
  · obtain ⟨b, hb⟩ := t.inv
    refine ⟨w.set q (w.key s (List.mem_of_getElem? hs)), ⟨b, ?_⟩, ?_⟩
    · rw [tab_upd rfl (by rw [w.len]; exact hq)]
      exact hb.over hq (tab_some.2 ⟨hs, hu⟩) rfl
    · rw [t.many]
      have := usd_set (e := ⟨true, s.f_Key, v⟩) hs
      rw [if_pos hu, if_pos rfl] at this
      omega
theorem put_new {n : Nat} {S : List Sl} {m : Int} (t : TT n S m) {k : T_packet_Key} (hk : WK k) (h : Absent n KE (tab S) k) (hl : usd S < n) (hr : kr k = true) (v : Int) :
    ∃ q s, S[q]? = some s ∧ s.f_Used = false ∧ F_table_Table_Put ⟨S, m⟩ k v = some (0, ⟨S.set q ⟨true, k, v⟩, m + 1⟩) ∧ TT n (S.set q ⟨true, k, v⟩) (m + 1) := by
  have w := t.toWT
  rcases find_cases t hk with ⟨q, s, hq, hs, hu, hks, hf⟩ | ⟨_, ⟨j, s, hj, hs, hu, hf⟩ | ⟨he, hf⟩⟩
  · exact (h q s hq (tab_some.2 ⟨hs, hu⟩) hks).elim
  · have hh : ∀ k, hm n k < n := hm_lt w.pos
    have hq : add n (hm n k) j < n := add_lt (hh k) (Nat.le_of_lt hj.lt)
    have hus := usd_set (e := ⟨true, k, v⟩) hs
    rw [hu, if_neg (by decide), if_pos rfl] at hus
    refine ⟨add n (hm n k) j, s, hs, hu, ?_, ?_⟩
    · unfold F_table_Table_Put F_table_Table_Put_j1
      rw [hf, Option.bind_some, kright_eq, Option.bind_some, hr]
      dsimp only
      have hm1 : IntKind.i64.wrap (m + 1) = m + 1 := wi64 (by have := t.many; omega) (by have := t.many; have := w.le; omega)
      rw [if_neg (by decide), if_neg (dF (by omega)), gidx_nat hs, Option.bind_some, hu, if_pos (by decide), Option.bind_some, hm1]
      rfl
    · obtain ⟨b, hb⟩ := t.inv
      refine ⟨w.set _ hk, ⟨add n (add n (hm n k) j) 1, ?_⟩, ?_⟩
      · rw [tab_upd rfl (by rw [w.len]; exact hq)]
        exact hb.put (e := (⟨true, k, v⟩ : Sl)) hh h hj
      · rw [t.many]; omega
  · omega
theorem put_full {n : Nat} {S : List Sl} {m : Int} (t : TT n S m) {k : T_packet_Key} (hk : WK k) (h : Absent n KE (tab S) k) (hl : usd S = n) (hr : kr k = true) (v : Int) : F_table_Table_Put ⟨S, m⟩ k v = some (230, ⟨S, m⟩) := by
  have w := t.toWT
  rcases find_cases t hk with ⟨q, s, hq, hs, hu, hks, hf⟩ | ⟨_, ⟨j, s, hj, hs, hu, hf⟩ | ⟨he, hf⟩⟩
  · exact (h q s hq (tab_some.2 ⟨hs, hu⟩) hks).elim
  · have hus := usd_set (e := ⟨true, k, v⟩) hs
    rw [hu, if_neg (by decide), if_pos rfl] at hus
    have := usd_le (S.set (add n (hm n k) j) ⟨true, k, v⟩)
    rw [List.length_set, w.len] at this
    omega
  · unfold F_table_Table_Put
    rw [hf, Option.bind_some, kright_eq, Option.bind_some, hr]
    rfl
/-! ### Delete -/
/-- No entry is farther from its home than it was. -/
def Near (n : Nat) (S T : List Sl) : Prop := ∀ (q : Nat) (e : Sl), S[q]? = some e → e.f_Used = true → ∃ p, p < n ∧ T[p]? = some e ∧ sub n p (hm n e.f_Key) ≤ sub n q (hm n e.f_Key)
def Back (S T : List Sl) : Prop := ∀ (q : Nat) (e : Sl), T[q]? = some e → e.f_Used = true → ∃ p : Nat, S[p]? = some e
theorem del_L {n : Nat} {m : Int} {a : Nat} {X : T_table_Table} (hX : X.f_slots.length = n) (ha : a < n) : ∀ (f i : Nat) (S : List Sl) {b : Nat}, WT n S → i + 1 ≤ n → n ≤ f + i →
    ((sub n a b + 1 + i < n ∧ Del n KE (hm n) (tab S) b (sub n a b + 1 + i)) ∨ Inv n KE (hm n) (tab S) b) →
    ∃ T, F_table_Table_Delete_L1 ((a : Int), X) f S m (i : Int) = some (true, ⟨T, m⟩) ∧ WT n T ∧ Inv n KE (hm n) (tab T) b ∧ usd T = usd S ∧ Near n S T ∧ Back S T
  | 0, i, S, b, w, h1, h2, h3 => by omega
  | f + 1, i, S, b, w, h1, h2, h3 => by
    have hh : ∀ k, hm n k < n := hm_lt w.pos
    have hle := w.le
    show ∃ T, F_table_Table_Delete_l1 (F_table_Table_Delete_L1 ((a : Int), X) f) ((a : Int), X) S m (i : Int) = _ ∧ _
    unfold F_table_Table_Delete_l1 F_table_Table_Delete_j1
    dsimp only
    have e1 : IntKind.i64.wrap ((X.f_slots.length : Int) - 1) = (n : Int) - 1 := by rw [hX]; exact wi64 (by omega) (by omega)
    have e2 : IntKind.i64.wrap (IntKind.i64.wrap ((a : Int) + 1) + (i : Int)) = ((a + (1 + i) : Nat) : Int) := by rw [wi64 (n := (a : Int) + 1) (by omega) (by omega), wi64 (by omega) (by omega)]; omega
    have same : Near n S S ∧ Back S S := ⟨fun q e he _ => ⟨q, by rw [← w.len]; exact (List.getElem?_eq_some_iff.1 he).1, he, Nat.le_refl _⟩, fun q e he _ => ⟨q, he⟩⟩
    by_cases hi : i + 1 < n
    · have e3 : Int.tmod (IntKind.i64.wrap (IntKind.i64.wrap ((a : Int) + 1) + (i : Int))) (X.f_slots.length : Int) = ((add n a (1 + i) : Nat) : Int) := by
        rw [e2, hX, tmod_nat, add_mod ha (by omega)]
      have hp : add n a (1 + i) < n := add_lt ha (by omega)
      obtain ⟨s, hs⟩ := get_lt w hp
      rw [e1, if_pos (dT (by omega)), if_pos (by have := w.pos; rw [hX]; simp; omega), e3, gidx_nat hs, Option.bind_some]
      cases hu : s.f_Used with
      | false =>
        rw [if_pos (by decide)]
        refine ⟨S, rfl, w, ?_, rfl, same.1, same.2⟩
        rcases h3 with ⟨h4, h5⟩ | h5
        · have hb := h5.lt
          refine h5.free hh h4 ?_
          have : add n b (sub n a b + 1 + i) = add n a (1 + i) := by
            have := add_sub ha hb
            revert this h4
            unfold add sub
            intro h4 this
            repeat' split
            all_goals (split at h4 <;> split at this <;> omega)
          rw [this]
          exact (tab_none hs).2 hu
        · exact h5
      | true =>
        rw [if_neg (by decide), Option.bind_some]
        generalize hpe : add n a (1 + i) = p at *
        have wks := w.key s (List.mem_of_getElem? hs)
        have hpl : p < S.length := by rw [w.len]; exact hp
        have ht := tab_some.2 ⟨hs, hu⟩
        have w1 : WT n (S.set p E0) := w.set p wk0
        have htc : tab (S.set p E0) = clr (tab S) p := tab_clr rfl
        have key : ∃ j, Ring.Ends n KE (hm n) (clr (tab S) p) s.f_Key j ∧ clr (tab S) p (add n (hm n s.f_Key) j) = none ∧ j ≤ sub n p (hm n s.f_Key) ∧
            ((sub n a b + 1 + (i + 1) < n ∧ Del n KE (hm n) (upd (clr (tab S) p) (add n (hm n s.f_Key) j) s) b (sub n a b + 1 + (i + 1))) ∨ Inv n KE (hm n) (upd (clr (tab S) p) (add n (hm n s.f_Key) j) s) b) := by
          rcases h3 with ⟨h4, h5⟩ | h5
          · have hb := h5.lt
            have hbp : add n b (sub n a b + 1 + i) = p := by
              rw [← hpe]
              have := add_sub ha hb
              revert this h4
              unfold add sub
              intro h4 this
              repeat' split
              all_goals (split at h4 <;> split at this <;> omega)
            obtain ⟨j, k1, k2, k3, k4⟩ := h5.step hh h4 (x := s) (by rw [hbp]; exact ht)
            rw [hbp] at k1 k2 k3 k4
            refine ⟨j, k1, k2, k3, ?_⟩
            rcases Nat.lt_or_ge (sub n a b + 1 + (i + 1)) n with h6 | h6
            · exact .inl ⟨h6, k4⟩
            · exact .inr (k4.done (by omega))
          · have k1 := h5.again hh hp ht
            refine ⟨_, k1, ?_, Nat.le_refl _, .inr ?_⟩
            · show clr (tab S) p (add n (hm n (KE s)) (sub n p (hm n (KE s)))) = none
              rw [add_sub hp (hh _)]; exact clr_at
            · show Inv n KE (hm n) (upd (clr (tab S) p) (add n (hm n (KE s)) (sub n p (hm n (KE s)))) s) b
              rw [add_sub hp (hh _), upd_clr ht]; exact h5
        obtain ⟨j, k1, k2, k3, k4⟩ := key
        rw [← htc] at k1 k2
        have hf := find_ends (m := m) w1 wks k1
        have hq : add n (hm n s.f_Key) j < n := add_lt (hh _) (Nat.le_of_lt k1.lt)
        obtain ⟨z, hz⟩ := get_lt w1 hq
        have hzu : z.f_Used = false := (tab_none hz).1 k2
        have hql : add n (hm n s.f_Key) j < (S.set p E0).length := by rw [w1.len]; exact hq
        show ∃ T, ((F_table_Table_find ⟨S.set p E0, m⟩ s.f_Key).bind _) = _ ∧ _
        rw [hf, Option.bind_some]
        dsimp only
        rw [gidx_nat hz, Option.bind_some, show IntKind.i64.wrap ((i : Int) + 1) = ((i + 1 : Nat) : Int) by rw [wi64 (by omega) (by omega)]; omega]
        have w2 : WT n ((S.set p E0).set (add n (hm n s.f_Key) j) s) := w1.set _ wks
        have ht2 : tab ((S.set p E0).set (add n (hm n s.f_Key) j) s) = upd (clr (tab S) p) (add n (hm n s.f_Key) j) s := by rw [tab_upd hu hql, htc]
        rw [← ht2] at k4
        obtain ⟨T, t1, t2, t3, t4, t5, t6⟩ := del_L hX ha f (i + 1) _ w2 (by omega) (by omega) k4
        have hj2 : sub n (add n (hm n s.f_Key) j) (hm n s.f_Key) = j := sub_add (hh _) k1.lt
        refine ⟨T, t1, t2, t3, ?_, ?_, ?_⟩
        · rw [t4]
          have u1 := usd_set (e := E0) hs
          have u2 := usd_set (e := s) hz
          rw [if_pos hu, if_neg (by decide)] at u1
          rw [hzu, if_neg (by decide), if_pos hu] at u2
          omega
        · intro q e he hue
          by_cases hqp : q = p
          · subst hqp
            rw [hs] at he; injection he with he; subst he
            obtain ⟨p', g1, g2, g3⟩ := t5 (add n (hm n s.f_Key) j) s (List.getElem?_set_self hql) hu
            exact ⟨p', g1, g2, by rw [hj2] at g3; omega⟩
          · have hne : q ≠ add n (hm n s.f_Key) j := fun h7 => by
              rw [← h7, List.getElem?_set_ne (fun h => hqp h.symm)] at hz
              rw [he] at hz; injection hz with hz; subst hz
              rw [hue] at hzu; cases hzu
            obtain ⟨p', g1, g2, g3⟩ := t5 q e (by rw [List.getElem?_set_ne (fun h => hne h.symm), List.getElem?_set_ne (fun h => hqp h.symm)]; exact he) hue
            exact ⟨p', g1, g2, g3⟩
        · intro q e he hue
          obtain ⟨p', g1⟩ := t6 q e he hue
          by_cases hn : p' = add n (hm n s.f_Key) j
          · rw [hn, List.getElem?_set_self hql] at g1
            injection g1 with g1; subst g1
            exact ⟨p, hs⟩
          · rw [List.getElem?_set_ne (fun h => hn h.symm)] at g1
            by_cases hn2 : p' = p
            · rw [hn2, List.getElem?_set_self hpl] at g1
              injection g1 with g1; subst g1
              cases hue
            · rw [List.getElem?_set_ne (fun h => hn2 h.symm)] at g1
              exact ⟨p', g1⟩
    · rw [e1, if_neg (dF (by omega))]
      refine ⟨S, rfl, w, ?_, rfl, same.1, same.2⟩
      rcases h3 with ⟨h4, h5⟩ | h5
      · omega
      · exact h5
theorem del_in {n : Nat} {S : List Sl} {m : Int} (t : TT n S m) {a : Nat} {s : Sl} (hs : S[a]? = some s) (hu : s.f_Used = true) :
    ∃ T, F_table_Table_Delete ⟨S, m⟩ s.f_Key = some (true, ⟨T, m - 1⟩) ∧ TT n T (m - 1) ∧ Near n (S.set a E0) T ∧ Back (S.set a E0) T := by
  have w := t.toWT
  have hh : ∀ k, hm n k < n := hm_lt w.pos
  have ha : a < n := by rw [← w.len]; exact (List.getElem?_eq_some_iff.1 hs).1
  obtain ⟨b, hb⟩ := t.inv
  have hbl := hb.lt
  have hus := usd_set (e := E0) hs
  rw [if_pos hu, if_neg (by decide)] at hus
  have hul := usd_le S
  rw [w.len] at hul
  have hd := hb.del hh ha
  have htc : tab (S.set a E0) = clr (tab S) a := tab_clr rfl
  rw [← htc] at hd
  have hsl := sub_lt ha hbl
  have h0 : (sub n a b + 1 + 0 < n ∧ Del n KE (hm n) (tab (S.set a E0)) b (sub n a b + 1 + 0)) ∨ Inv n KE (hm n) (tab (S.set a E0)) b := by
    rcases Nat.lt_or_ge (sub n a b + 1) n with h1 | h1
    · exact .inl ⟨h1, hd⟩
    · exact .inr (hd.done (by omega))
  obtain ⟨T, t1, t2, t3, t4, t5, t6⟩ := del_L (m := m - 1) (X := ⟨S, m⟩) w.len ha fuel0 0 _ (w.set a wk0) (by have := w.pos; omega) (by have := w.le; unfold fuel0; omega) h0
  refine ⟨T, ?_, ⟨t2, ⟨b, t3⟩, ?_⟩, t5, t6⟩
  · unfold F_table_Table_Delete
    rw [has_in t hs hu, Option.bind_some]
    dsimp only
    have hm1 : IntKind.i64.wrap (m - 1) = m - 1 := wi64 (by have := t.many; omega) (by have := t.many; have := w.le; omega)
    rw [if_neg (dF (by omega)), gidx_nat hs, Option.bind_some, hm1]
    exact t1
  · rw [t.many, t4]; omega
theorem del_out {n : Nat} {S : List Sl} {m : Int} (t : TT n S m) {k : T_packet_Key} (hk : WK k) (h : Absent n KE (tab S) k) : F_table_Table_Delete ⟨S, m⟩ k = some (false, ⟨S, m⟩) := by
  unfold F_table_Table_Delete
  rw [has_out t hk h, Option.bind_some]
  rfl
end Go.Proofs.Ytnbakndfnjflhaa
