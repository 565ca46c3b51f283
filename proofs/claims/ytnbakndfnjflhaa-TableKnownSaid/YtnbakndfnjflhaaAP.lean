/- Plain text: a table of places and its search, by the ring's lemmas. -/
import Derived.Test.YtnbakndfnjflhaaSrt
import Derived.Test.YtnbakndfnjflhaaRT
set_option linter.unusedVariables false
namespace Go.Proofs.Ytnbakndfnjflhaa
open Go Go.Ox Go.Ox.Ring
/-! ### Keys -/
structure WK (k : T_packet_Key) : Prop where
  src : k.f_Src.f_B.length = 16
  dst : k.f_Dst.f_B.length = 16
  sp : 0 ≤ k.f_SrcPort ∧ k.f_SrcPort < 65536
  dp : 0 ≤ k.f_DstPort ∧ k.f_DstPort < 65536
theorem arrEq_eq {a b : List Int} {n : Nat} (ha : a.length = n) (hb : b.length = n) : arrEq n a b = true ↔ a = b := by
  simp only [arrEq, List.all_eq_true, List.mem_range, beq_iff_eq]
  constructor
  · intro h
    apply List.ext_getElem (by omega)
    intro i h1 h2
    have := h i (by omega)
    simpa [List.getD, h1, h2] using this
  · intro h i _
    rw [h]
theorem qaddr_iff {a b : T_addr_Addr} (ha : a.f_B.length = 16) (hb : b.f_B.length = 16) : q_addr_Addr a b = true ↔ a = b := by
  obtain ⟨s, x⟩ := a; obtain ⟨t, y⟩ := b
  simp only [q_addr_Addr, Bool.and_true, Bool.and_eq_true, beq_iff_eq, arrEq_eq ha hb, T_addr_Addr.mk.injEq]
theorem qkey_iff {a b : T_packet_Key} (ha : WK a) (hb : WK b) : q_packet_Key a b = true ↔ a = b := by
  unfold q_packet_Key
  rw [Bool.and_eq_true, Bool.and_eq_true, qaddr_iff ha.src hb.src, qaddr_iff ha.dst hb.dst]
  obtain ⟨a1, a2, a3, a4, a5⟩ := a; obtain ⟨b1, b2, b3, b4, b5⟩ := b
  simp
/-! ### Hash -/
def hst (h b : Int) : Int := IntKind.u64.wrap ((bits .xor .u64 h (IntKind.u64.wrap b)) * 1099511628211)
def hsh (k : T_packet_Key) : Int := (kb k).foldl hst 14695981039346656037
theorem hsh_U (k : T_packet_Key) : U (hsh k) := by
  have : ∀ (xs : List Int) (h : Int), U h → U (xs.foldl hst h) := by
    intro xs
    induction xs with
    | nil => exact fun h hu => hu
    | cons x xs ih => exact fun h _ => ih _ (by unfold hst; rw [wu64]; exact ⟨by omega, by omega⟩)
  exact this _ _ ⟨by decide, by decide⟩
theorem hash_L {y : List Int} (hy : y.length < 1000) : ∀ (k : Nat) (t : Nat) (h : Int), t ≤ y.length → y.length < k + t → F_table_Hash_L1 y k h (t : Int) = some ((y.drop t).foldl hst h)
  | 0, t, h, h1, h2 => by omega
  | k + 1, t, h, h1, h2 => by
    show F_table_Hash_l1 (F_table_Hash_L1 y k) y h (t : Int) = _
    unfold F_table_Hash_l1
    by_cases ht : t < y.length
    · rw [if_pos (by simpa using ht), gidx_nat (List.getElem?_eq_getElem ht), Option.bind_some, show IntKind.i64.wrap ((t : Int) + 1) = ((t + 1 : Nat) : Int) by rw [wi64 (by omega) (by omega)]; omega, hash_L hy k (t + 1) _ (by omega) (by omega), List.drop_eq_getElem_cons ht]
      rfl
    · rw [if_neg (by simpa using ht), show t = y.length by omega]
      simp
theorem hash_eq (k : T_packet_Key) : F_table_Hash k = some (hsh k) := by
  have h := kb_len k
  unfold F_table_Hash
  rw [kbytes_eq, Option.bind_some]
  exact hash_L (by omega) fuel0 0 _ (by omega) (by unfold fuel0; omega)
/-! ### Places -/
def hm (n : Nat) (k : T_packet_Key) : Nat := (hsh k).toNat % n
theorem hm_lt {n : Nat} (hn : 0 < n) (k : T_packet_Key) : hm n k < n := Nat.mod_lt _ hn
theorem add_mod {n h i : Nat} (hh : h < n) (hi : i ≤ n) : (h + i) % n = add n h i := by
  unfold add
  split
  · exact Nat.mod_eq_of_lt (by assumption)
  · rw [Nat.mod_eq_sub_mod (by omega), Nat.mod_eq_of_lt (by omega)]
theorem tmod_nat (a b : Nat) : Int.tmod (a : Int) (b : Int) = ((a % b : Nat) : Int) := rfl
theorem place {n : Nat} (hd : n ∣ 2 ^ 64) (hn : 0 < n) (h64 : n ≤ 64) {h : Int} (hu : U h) {i : Nat} (hi : i < n) : IntKind.i64.wrap (Int.tmod (IntKind.u64.wrap (h + (i : Int))) (IntKind.u64.wrap (n : Int))) = ((add n (h.toNat % n) i : Nat) : Int) := by
  obtain ⟨H, rfl⟩ := Int.eq_ofNat_of_zero_le hu.1
  have e1 : IntKind.u64.wrap (n : Int) = (n : Int) := wu64i (by omega) (by omega)
  have e2 : IntKind.u64.wrap ((H : Int) + (i : Int)) = (((H + i) % 2 ^ 64 : Nat) : Int) := by rw [wu64]; omega
  have e3 : (H + i) % 2 ^ 64 % n = add n (H % n) i := by
    rw [Nat.mod_mod_of_dvd _ hd, ← add_mod (Nat.mod_lt _ hn) (by omega), Nat.mod_add_mod]
  rw [e1, e2, tmod_nat, e3, Int.toNat_natCast]
  have := add_lt (Nat.mod_lt H hn) (show i ≤ n by omega)
  exact wi64 (by omega) (by omega)
/-! ### Slots as places -/
abbrev Sl := T_table_Slot
def tab (S : List Sl) : Tab Sl := fun q => (S[q]?).bind fun s => if s.f_Used = true then some s else none
def E0 : Sl := ⟨false, ⟨⟨false, List.replicate 16 0⟩, ⟨false, List.replicate 16 0⟩, 0, 0, 0⟩, 0⟩
structure WT (n : Nat) (S : List Sl) : Prop where
  len : S.length = n
  pos : 0 < n
  le : n ≤ 64
  dvd : n ∣ 2 ^ 64
  key : ∀ s ∈ S, WK s.f_Key
theorem tab_some {S : List Sl} {q : Nat} {e : Sl} : tab S q = some e ↔ S[q]? = some e ∧ e.f_Used = true := by
  unfold tab
  cases h : S[q]? with
  | none => simp
  | some s =>
    simp only [Option.bind_some, Option.some.injEq]
    cases hu : s.f_Used with
    | true =>
      rw [if_pos rfl, Option.some.injEq]
      constructor
      · intro h; subst h; exact ⟨rfl, hu⟩
      · exact fun h => h.1
    | false => simp; intro h; subst h; exact hu
theorem tab_none {S : List Sl} {q : Nat} {s : Sl} (h : S[q]? = some s) : tab S q = none ↔ s.f_Used = false := by
  unfold tab
  rw [h, Option.bind_some]
  cases s.f_Used <;> simp
theorem tab_clr {S : List Sl} {q : Nat} {e : Sl} (he : e.f_Used = false) : tab (S.set q e) = clr (tab S) q := by
  funext p
  unfold clr
  by_cases hp : p = q
  · subst hp
    rw [if_pos rfl]
    unfold tab
    rw [List.getElem?_set_self']
    cases S[p]? <;> simp [he]
  · rw [if_neg hp]
    unfold tab
    rw [List.getElem?_set_ne (fun h => hp h.symm)]
theorem tab_upd {S : List Sl} {q : Nat} {e : Sl} (he : e.f_Used = true) (hq : q < S.length) : tab (S.set q e) = upd (tab S) q e := by
  funext p
  unfold upd
  by_cases hp : p = q
  · subst hp
    rw [if_pos rfl]
    unfold tab
    rw [List.getElem?_set_self hq]
    simp [he]
  · rw [if_neg hp]
    unfold tab
    rw [List.getElem?_set_ne (fun h => hp h.symm)]
theorem WT.set {n : Nat} {S : List Sl} (h : WT n S) (q : Nat) {e : Sl} (he : WK e.f_Key) : WT n (S.set q e) :=
  ⟨by rw [List.length_set, h.len], h.pos, h.le, h.dvd, fun s hs => by
    rcases List.mem_or_eq_of_mem_set hs with h1 | h1
    · exact h.key s h1
    · rw [h1]; exact he⟩
theorem wk0 : WK E0.f_Key := ⟨rfl, rfl, by decide, by decide⟩
abbrev KE (s : Sl) : T_packet_Key := s.f_Key
/-! ### The search -/
theorem stop_iff {n : Nat} {S : List Sl} (w : WT n S) {k : T_packet_Key} (hk : WK k) {q : Nat} {s : Sl} (hs : S[q]? = some s) : Stop KE (tab S) k q ↔ s.f_Used = false ∨ q_packet_Key s.f_Key k = true := by
  have wk := w.key s (List.mem_of_getElem? hs)
  unfold Stop
  rw [tab_none hs, qkey_iff wk hk]
  cases hu : s.f_Used with
  | false => simp
  | true =>
    simp only [Bool.true_eq_false, false_or]
    constructor
    · rintro ⟨e, he, hk⟩
      have := (tab_some.1 he).1
      rw [hs] at this
      injection this with this
      subst this
      exact hk
    · intro h
      exact ⟨s, tab_some.2 ⟨hs, hu⟩, h⟩
theorem find_step {n : Nat} {S : List Sl} {m : Int} (w : WT n S) {k : T_packet_Key} (hk : WK k) {i : Nat} (hi : i < n) (rec : Int → Int → Option (Int × Int × T_table_Table)) :
    F_table_Table_find_l1 rec k ((n : Int), ⟨S, m⟩) i i = open Classical in if Stop KE (tab S) k (add n (hm n k) i) then some (((add n (hm n k) i : Nat) : Int), ((i + 1 : Nat) : Int), ⟨S, m⟩) else rec ((i + 1 : Nat) : Int) ((i + 1 : Nat) : Int) := by
  have e1 : IntKind.u64.wrap (n : Int) = (n : Int) := wu64i (by omega) (by have := w.le; omega)
  have e2 : IntKind.u64.wrap ((i : Int) + 1) = ((i + 1 : Nat) : Int) := by rw [wu64i (by omega) (by have := w.le; omega)]; omega
  have e3 : IntKind.i64.wrap ((i : Int) + 1) = ((i + 1 : Nat) : Int) := by rw [wi64 (by omega) (by have := w.le; omega)]; omega
  have e4 : IntKind.i64.wrap (Int.tmod (IntKind.u64.wrap (hsh k + (i : Int))) (IntKind.u64.wrap (n : Int))) = ((add n (hm n k) i : Nat) : Int) := place w.dvd w.pos w.le (hsh_U k) hi
  have hq : add n (hm n k) i < S.length := by rw [w.len]; exact add_lt (hm_lt w.pos k) (by omega)
  have hg := List.getElem?_eq_getElem hq
  unfold F_table_Table_find_l1
  dsimp only
  rw [e1] at e4
  rw [e1, if_pos (by simpa using hi), hash_eq, Option.bind_some, if_pos (by have := w.pos; simp; omega), e4]
  show ((gidx S ((add n (hm n k) i : Nat) : Int)).bind _) = _
  rw [gidx_nat hg, Option.bind_some]
  have hst := stop_iff w hk hg
  unfold F_table_Table_find_j1 F_table_Table_find_j2
  dsimp only
  rw [e1, e4, e2, e3]
  cases hu : S[add n (hm n k) i].f_Used with
  | false =>
    rw [if_pos (by decide), if_pos rfl, if_pos (hst.2 (.inl hu))]
  | true =>
    rw [if_neg (by decide), Option.bind_some]
    cases hqk : q_packet_Key S[add n (hm n k) i].f_Key k with
    | true => rw [if_pos rfl, if_pos (hst.2 (.inr hqk))]
    | false => rw [if_neg (by decide), if_neg (fun h => by rcases hst.1 h with h1 | h1 <;> simp_all)]
theorem find_end {n : Nat} {S : List Sl} {m : Int} (w : WT n S) {k : T_packet_Key} (rec : Int → Int → Option (Int × Int × T_table_Table)) :
    F_table_Table_find_l1 rec k ((n : Int), ⟨S, m⟩) n n = some (-1, (n : Int), ⟨S, m⟩) := by
  have e1 : IntKind.u64.wrap (n : Int) = (n : Int) := wu64i (by omega) (by have := w.le; omega)
  unfold F_table_Table_find_l1
  dsimp only
  rw [e1, if_neg (by simp)]
  rfl
theorem find_L {n : Nat} {S : List Sl} {m : Int} (w : WT n S) {k : T_packet_Key} (hk : WK k) {j : Nat} (hj : Ring.Ends n KE (hm n) (tab S) k j) : ∀ (f i : Nat), i ≤ j → j < f + i → F_table_Table_find_L1 k ((n : Int), ⟨S, m⟩) f i i = some (((add n (hm n k) j : Nat) : Int), ((j + 1 : Nat) : Int), ⟨S, m⟩)
  | 0, i, h1, h2 => by omega
  | f + 1, i, h1, h2 => by
    show F_table_Table_find_l1 (F_table_Table_find_L1 k ((n : Int), ⟨S, m⟩) f) k _ i i = _
    have := hj.lt
    rw [find_step w hk (by omega)]
    by_cases h : i = j
    · subst h; rw [if_pos hj.stop]
    · rw [if_neg (hj.no i (by omega))]
      exact find_L w hk hj f (i + 1) (by omega) (by omega)
theorem find_ends {n : Nat} {S : List Sl} {m : Int} (w : WT n S) {k : T_packet_Key} (hk : WK k) {j : Nat} (hj : Ring.Ends n KE (hm n) (tab S) k j) : F_table_Table_find ⟨S, m⟩ k = some (((add n (hm n k) j : Nat) : Int), ((j + 1 : Nat) : Int), ⟨S, m⟩) := by
  unfold F_table_Table_find F_table_Table_Size
  rw [Option.bind_some]
  show F_table_Table_find_L1 k ((S.length : Int), ⟨S, m⟩) fuel0 0 0 = _
  rw [w.len]
  have := hj.lt; have := w.le
  exact find_L w hk hj fuel0 0 (by omega) (by unfold fuel0; omega)
theorem find_N {n : Nat} {S : List Sl} {m : Int} (w : WT n S) {k : T_packet_Key} (hk : WK k) (hj : ∀ i, i < n → ¬ Stop KE (tab S) k (add n (hm n k) i)) : ∀ (f i : Nat), i ≤ n → n < f + i → F_table_Table_find_L1 k ((n : Int), ⟨S, m⟩) f i i = some (-1, (n : Int), ⟨S, m⟩)
  | 0, i, h1, h2 => by omega
  | f + 1, i, h1, h2 => by
    show F_table_Table_find_l1 (F_table_Table_find_L1 k ((n : Int), ⟨S, m⟩) f) k _ i i = _
    by_cases h : i = n
    · subst h; rw [find_end w]
    · rw [find_step w hk (by omega), if_neg (hj i (by omega))]
      exact find_N w hk hj f (i + 1) (by omega) (by omega)
theorem find_none {n : Nat} {S : List Sl} {m : Int} (w : WT n S) {k : T_packet_Key} (hk : WK k) (hj : ∀ i, i < n → ¬ Stop KE (tab S) k (add n (hm n k) i)) : F_table_Table_find ⟨S, m⟩ k = some (-1, (n : Int), ⟨S, m⟩) := by
  unfold F_table_Table_find F_table_Table_Size
  rw [Option.bind_some]
  show F_table_Table_find_L1 k ((S.length : Int), ⟨S, m⟩) fuel0 0 0 = _
  rw [w.len]
  have := w.le
  exact find_N w hk hj fuel0 0 (by omega) (by unfold fuel0; omega)
end Go.Proofs.Ytnbakndfnjflhaa
