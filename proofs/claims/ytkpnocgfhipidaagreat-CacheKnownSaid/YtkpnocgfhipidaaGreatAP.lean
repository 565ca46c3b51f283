/- Plain text: a table of places: what its calls do (turned from the texts of chapter 23: greater tables); keys that are right. -/
import Derived.Test.YtkpnocgfhipidaaGreatSrt
import Derived.Test.YtkpnocgfhipidaaGreatRT
set_option linter.unusedVariables false
namespace Go.Proofs.YtkpnocgfhipidaaGreat
open Go Go.Ox Go.Ox.Ring
structure WK (k : Xe) : Prop where
  src : k.XL.f_B.length = 16
  dst : k.XN.f_B.length = 16
  sp : 0 ≤ k.X6 ∧ k.X6 < 65536
  dp : 0 ≤ k.X1 ∧ k.X1 < 65536
theorem arrEq_eq {a b : List Int} {n : Nat} (ha : a.length = n) (hb : b.length = n) : arrEq n a b = true ↔ a = b := by
  simp only [arrEq, List.all_eq_true, List.mem_range, beq_iff_eq]
  constructor
  · intro h
    apply List.ext_getElem (by omega)
    intro i h1 h2
    have := h i (by omega)
    simpa [List.getD, h1, h2] using this
  · intro h i _
    rw [h]
theorem qaddr_iff {a b : Xd} (ha : a.f_B.length = 16) (hb : b.f_B.length = 16) : KO a b = true ↔ a = b := by
  obtain ⟨s, x⟩ := a; obtain ⟨t, y⟩ := b
  simp only [KO, Bool.and_true, Bool.and_eq_true, beq_iff_eq, arrEq_eq ha hb, Xd.mk.injEq]
theorem qkey_iff {a b : Xe} (ha : WK a) (hb : WK b) : Yg a b = true ↔ a = b := by
  unfold Yg
  rw [Bool.and_eq_true, Bool.and_eq_true, qaddr_iff ha.src hb.src, qaddr_iff ha.dst hb.dst]
  obtain ⟨a1, a2, a3, a4, a5⟩ := a; obtain ⟨b1, b2, b3, b4, b5⟩ := b
  simp
def hst (h b : Int) : Int := IntKind.u64.wrap ((bits .xor .u64 h (IntKind.u64.wrap b)) * 1099511628211)
def hsh (k : Xe) : Int := (kb k).foldl hst 14695981039346656037
theorem hsh_U (k : Xe) : U (hsh k) := by
  have : ∀ (xs : List Int) (h : Int), U h → U (xs.foldl hst h) := by
    intro xs
    induction xs with
    | nil => exact fun h hu => hu
    | cons x xs ih => exact fun h _ => ih _ (by unfold hst; rw [wu64]; exact ⟨by omega, by omega⟩)
  exact this _ _ ⟨by decide, by decide⟩
theorem hash_L {y : List Int} (hy : y.length < 1000) : ∀ (k : Nat) (t : Nat) (h : Int), t ≤ y.length → y.length < k + t → KW y k h (t : Int) = some ((y.drop t).foldl hst h)
  | 0, t, h, h1, h2 => by omega
  | k + 1, t, h, h1, h2 => by
    show Uu (KW y k) y h (t : Int) = _
    unfold Uu
    by_cases ht : t < y.length
    · rw [if_pos (by simpa using ht), gidx_nat (List.getElem?_eq_getElem ht), Option.bind_some, show IntKind.i64.wrap ((t : Int) + 1) = ((t + 1 : Nat) : Int) by rw [wi64 (by omega) (by omega)]; omega, hash_L hy k (t + 1) _ (by omega) (by omega), List.drop_eq_getElem_cons ht]
      rfl
    · rw [if_neg (by simpa using ht), show t = y.length by omega]
      simp
theorem hash_eq (k : Xe) : Vp k = some (hsh k) := by
  have h := kb_len k
  unfold Vp
  rw [kbytes_eq, Option.bind_some]
  exact hash_L (by omega) fuel0 0 _ (by omega) (by unfold fuel0; omega)
def hm (n : Nat) (k : Xe) : Nat := (hsh k).toNat % n
theorem hm_lt {n : Nat} (hn : 0 < n) (k : Xe) : hm n k < n := Nat.mod_lt _ hn
theorem add_mod {n h i : Nat} (hh : h < n) (hi : i ≤ n) : (h + i) % n = add n h i := by
  unfold add
  split
  · exact Nat.mod_eq_of_lt (by assumption)
  · rw [Nat.mod_eq_sub_mod (by omega), Nat.mod_eq_of_lt (by omega)]
theorem tmod_nat (a b : Nat) : Int.tmod (a : Int) (b : Int) = ((a % b : Nat) : Int) := rfl
theorem place {n : Nat} (hd : n ∣ 2 ^ 64) (hn : 0 < n) (h64 : n ≤ 65536) {h : Int} (hu : U h) {i : Nat} (hi : i < n) : IntKind.i64.wrap (Int.tmod (IntKind.u64.wrap (h + (i : Int))) (IntKind.u64.wrap (n : Int))) = ((add n (h.toNat % n) i : Nat) : Int) := by
  obtain ⟨H, rfl⟩ := Int.eq_ofNat_of_zero_le hu.1
  have e1 : IntKind.u64.wrap (n : Int) = (n : Int) := wu64i (by omega) (by omega)
  have e2 : IntKind.u64.wrap ((H : Int) + (i : Int)) = (((H + i) % 2 ^ 64 : Nat) : Int) := by rw [wu64]; omega
  have e3 : (H + i) % 2 ^ 64 % n = add n (H % n) i := by
    rw [Nat.mod_mod_of_dvd _ hd, ← add_mod (Nat.mod_lt _ hn) (by omega), Nat.mod_add_mod]
  rw [e1, e2, tmod_nat, e3, Int.toNat_natCast]
  have := add_lt (Nat.mod_lt H hn) (show i ≤ n by omega)
  exact wi64 (by omega) (by omega)
abbrev Sl := Xm
def tab (S : List Sl) : Tab Sl := fun q => (S[q]?).bind fun s => if s.Ja = true then some s else none
def E0 : Sl := ⟨false, ⟨⟨false, List.replicate 16 0⟩, ⟨false, List.replicate 16 0⟩, 0, 0, 0⟩, 0⟩
structure WT (n : Nat) (S : List Sl) : Prop where
  len : S.length = n
  pos : 0 < n
  le : n ≤ 65536
  dvd : n ∣ 2 ^ 64
  key : ∀ s ∈ S, WK s.Xo
theorem tab_some {S : List Sl} {q : Nat} {e : Sl} : tab S q = some e ↔ S[q]? = some e ∧ e.Ja = true := by
  unfold tab
  cases h : S[q]? with
  | none => simp
  | some s =>
    simp only [Option.bind_some, Option.some.injEq]
    cases hu : s.Ja with
    | true =>
      rw [if_pos rfl, Option.some.injEq]
      constructor
      · intro h; subst h; exact ⟨rfl, hu⟩
      · exact fun h => h.1
    | false => simp; intro h; subst h; exact hu
theorem tab_none {S : List Sl} {q : Nat} {s : Sl} (h : S[q]? = some s) : tab S q = none ↔ s.Ja = false := by
  unfold tab
  rw [h, Option.bind_some]
  cases s.Ja <;> simp
theorem tab_clr {S : List Sl} {q : Nat} {e : Sl} (he : e.Ja = false) : tab (S.set q e) = clr (tab S) q := by
  funext p
  unfold clr
  by_cases hp : p = q
  · subst hp
    rw [if_pos rfl]
    unfold tab
    rw [List.getElem?_set_self']
    cases S[p]? <;> simp [he]
  · rw [if_neg hp]
    unfold tab
    rw [List.getElem?_set_ne (fun h => hp h.symm)]
theorem tab_upd {S : List Sl} {q : Nat} {e : Sl} (he : e.Ja = true) (hq : q < S.length) : tab (S.set q e) = upd (tab S) q e := by
  funext p
  unfold upd
  by_cases hp : p = q
  · subst hp
    rw [if_pos rfl]
    unfold tab
    rw [List.getElem?_set_self hq]
    simp [he]
  · rw [if_neg hp]
    unfold tab
    rw [List.getElem?_set_ne (fun h => hp h.symm)]
theorem WT.set {n : Nat} {S : List Sl} (h : WT n S) (q : Nat) {e : Sl} (he : WK e.Xo) : WT n (S.set q e) :=
  ⟨by rw [List.length_set, h.len], h.pos, h.le, h.dvd, fun s hs => by
    rcases List.mem_or_eq_of_mem_set hs with h1 | h1
    · exact h.key s h1
    · rw [h1]; exact he⟩
theorem wk0 : WK E0.Xo := ⟨rfl, rfl, by decide, by decide⟩
abbrev KE (s : Sl) : Xe := s.Xo
theorem stop_iff {n : Nat} {S : List Sl} (w : WT n S) {k : Xe} (hk : WK k) {q : Nat} {s : Sl} (hs : S[q]? = some s) : Stop KE (tab S) k q ↔ s.Ja = false ∨ Yg s.Xo k = true := by
  have wk := w.key s (List.mem_of_getElem? hs)
  unfold Stop
  rw [tab_none hs, qkey_iff wk hk]
  cases hu : s.Ja with
  | false => simp
  | true =>
    simp only [Bool.true_eq_false, false_or]
    constructor
    · rintro ⟨e, he, hk⟩
      have := (tab_some.1 he).1
      rw [hs] at this
      injection this with this
      subst this
      exact hk
    · intro h
      exact ⟨s, tab_some.2 ⟨hs, hu⟩, h⟩
theorem find_step {n : Nat} {S : List Sl} {m : Int} (w : WT n S) {k : Xe} (hk : WK k) {i : Nat} (hi : i < n) (rec : Int → Int → Option (Int × Int × Xw)) :
    YM rec k ((n : Int), ⟨S, m⟩) i i = open Classical in if Stop KE (tab S) k (add n (hm n k) i) then some (((add n (hm n k) i : Nat) : Int), ((i + 1 : Nat) : Int), ⟨S, m⟩) else rec ((i + 1 : Nat) : Int) ((i + 1 : Nat) : Int) := by
  have e1 : IntKind.u64.wrap (n : Int) = (n : Int) := wu64i (by omega) (by have := w.le; omega)
  have e2 : IntKind.u64.wrap ((i : Int) + 1) = ((i + 1 : Nat) : Int) := by rw [wu64i (by omega) (by have := w.le; omega)]; omega
  have e3 : IntKind.i64.wrap ((i : Int) + 1) = ((i + 1 : Nat) : Int) := by rw [wi64 (by omega) (by have := w.le; omega)]; omega
  have e4 : IntKind.i64.wrap (Int.tmod (IntKind.u64.wrap (hsh k + (i : Int))) (IntKind.u64.wrap (n : Int))) = ((add n (hm n k) i : Nat) : Int) := place w.dvd w.pos w.le (hsh_U k) hi
  have hq : add n (hm n k) i < S.length := by rw [w.len]; exact add_lt (hm_lt w.pos k) (by omega)
  have hg := List.getElem?_eq_getElem hq
  unfold YM
  dsimp only
  rw [e1] at e4
  rw [e1, if_pos (by simpa using hi), hash_eq, Option.bind_some, if_pos (by have := w.pos; simp; omega), e4]
  show ((gidx S ((add n (hm n k) i : Nat) : Int)).bind _) = _
  rw [gidx_nat hg, Option.bind_some]
  have hst := stop_iff w hk hg
  unfold JJ KL
  dsimp only
  rw [e1, e4, e2, e3]
  cases hu : S[add n (hm n k) i].Ja with
  | false =>
    rw [if_pos (by decide), if_pos rfl, if_pos (hst.2 (.inl hu))]
  | true =>
    rw [if_neg (by decide), Option.bind_some]
    cases hqk : Yg S[add n (hm n k) i].Xo k with
    | true => rw [if_pos rfl, if_pos (hst.2 (.inr hqk))]
    | false => rw [if_neg (by decide), if_neg (fun h => by rcases hst.1 h with h1 | h1 <;> simp_all)]
theorem find_end {n : Nat} {S : List Sl} {m : Int} (w : WT n S) {k : Xe} (rec : Int → Int → Option (Int × Int × Xw)) :
    YM rec k ((n : Int), ⟨S, m⟩) n n = some (-1, (n : Int), ⟨S, m⟩) := by
  have e1 : IntKind.u64.wrap (n : Int) = (n : Int) := wu64i (by omega) (by have := w.le; omega)
  unfold YM
  dsimp only
  rw [e1, if_neg (by simp)]
  rfl
theorem find_L {n : Nat} {S : List Sl} {m : Int} (w : WT n S) {k : Xe} (hk : WK k) {j : Nat} (hj : Ring.Ends n KE (hm n) (tab S) k j) : ∀ (f i : Nat), i ≤ j → j < f + i → Yq k ((n : Int), ⟨S, m⟩) f i i = some (((add n (hm n k) j : Nat) : Int), ((j + 1 : Nat) : Int), ⟨S, m⟩)
  | 0, i, h1, h2 => by omega
  | f + 1, i, h1, h2 => by
    show YM (Yq k ((n : Int), ⟨S, m⟩) f) k _ i i = _
    have := hj.lt
    rw [find_step w hk (by omega)]
    by_cases h : i = j
    · subst h; rw [if_pos hj.stop]
    · rw [if_neg (hj.no i (by omega))]
      exact find_L w hk hj f (i + 1) (by omega) (by omega)
theorem find_ends {n : Nat} {S : List Sl} {m : Int} (w : WT n S) {k : Xe} (hk : WK k) {j : Nat} (hj : Ring.Ends n KE (hm n) (tab S) k j) : Ym ⟨S, m⟩ k = some (((add n (hm n k) j : Nat) : Int), ((j + 1 : Nat) : Int), ⟨S, m⟩) := by
  unfold Ym KN
  rw [Option.bind_some]
  show Yq k ((S.length : Int), ⟨S, m⟩) fuel0 0 0 = _
  rw [w.len]
  have := hj.lt; have := w.le
  exact find_L w hk hj fuel0 0 (by omega) (by unfold fuel0; omega)
theorem find_N {n : Nat} {S : List Sl} {m : Int} (w : WT n S) {k : Xe} (hk : WK k) (hj : ∀ i, i < n → ¬ Stop KE (tab S) k (add n (hm n k) i)) : ∀ (f i : Nat), i ≤ n → n < f + i → Yq k ((n : Int), ⟨S, m⟩) f i i = some (-1, (n : Int), ⟨S, m⟩)
  | 0, i, h1, h2 => by omega
  | f + 1, i, h1, h2 => by
    show YM (Yq k ((n : Int), ⟨S, m⟩) f) k _ i i = _
    by_cases h : i = n
    · subst h; rw [find_end w]
    · rw [find_step w hk (by omega), if_neg (hj i (by omega))]
      exact find_N w hk hj f (i + 1) (by omega) (by omega)
theorem find_none {n : Nat} {S : List Sl} {m : Int} (w : WT n S) {k : Xe} (hk : WK k) (hj : ∀ i, i < n → ¬ Stop KE (tab S) k (add n (hm n k) i)) : Ym ⟨S, m⟩ k = some (-1, (n : Int), ⟨S, m⟩) := by
  unfold Ym KN
  rw [Option.bind_some]
  show Yq k ((S.length : Int), ⟨S, m⟩) fuel0 0 0 = _
  rw [w.len]
  have := w.le
  exact find_N w hk hj fuel0 0 (by omega) (by unfold fuel0; omega)
def usd (S : List Sl) : Nat := S.countP fun s => s.Ja
structure TT (n : Nat) (S : List Sl) (m : Int) : Prop extends WT n S where
  inv : ∃ b, Inv n KE (hm n) (tab S) b
  many : m = (usd S : Int)
theorem usd_le (S : List Sl) : usd S ≤ S.length := List.countP_le_length
theorem usd_set {S : List Sl} {q : Nat} {s e : Sl} (h : S[q]? = some s) : usd (S.set q e) + (if s.Ja = true then 1 else 0) = usd S + (if e.Ja = true then 1 else 0) := by
  obtain ⟨hq, he⟩ := List.getElem?_eq_some_iff.1 h
  unfold usd
  rw [List.countP_set hq, he]
  by_cases hs : s.Ja = true
  · have : 0 < S.countP fun s => s.Ja := List.countP_pos_iff.2 ⟨s, List.mem_of_getElem? h, hs⟩
    rw [if_pos hs]
    omega
  · rw [if_neg hs]; omega
theorem get_lt {n : Nat} {S : List Sl} (w : WT n S) {q : Nat} (hq : q < n) : ∃ s, S[q]? = some s := ⟨_, List.getElem?_eq_getElem (by rw [w.len]; exact hq)⟩
theorem find_cases {n : Nat} {S : List Sl} {m : Int} (t : TT n S m) {k : Xe} (hk : WK k) :
    (∃ q s, q < n ∧ S[q]? = some s ∧ s.Ja = true ∧ s.Xo = k ∧ Ym ⟨S, m⟩ k = some ((q : Int), ((sub n q (hm n k) + 1 : Nat) : Int), ⟨S, m⟩)) ∨
    (Absent n KE (tab S) k ∧ ((∃ j s, Ring.Ends n KE (hm n) (tab S) k j ∧ S[add n (hm n k) j]? = some s ∧ s.Ja = false ∧ Ym ⟨S, m⟩ k = some (((add n (hm n k) j : Nat) : Int), ((j + 1 : Nat) : Int), ⟨S, m⟩)) ∨
      (usd S = n ∧ Ym ⟨S, m⟩ k = some (-1, (n : Int), ⟨S, m⟩)))) := by
  obtain ⟨b, hb⟩ := t.inv
  have w := t.toWT
  have hh : ∀ k, hm n k < n := hm_lt w.pos
  rcases ends_or (n := n) (key := KE) (home := hm n) (A := tab S) k with ⟨j, hj⟩ | hno
  · have hf := find_ends (m := m) w hk hj
    have hq : add n (hm n k) j < n := add_lt (hh k) (Nat.le_of_lt hj.lt)
    obtain ⟨s, hs⟩ := get_lt w hq
    cases hu : s.Ja with
    | true =>
      have ht := tab_some.2 ⟨hs, hu⟩
      refine .inl ⟨_, s, hq, hs, hu, hj.has ht, ?_⟩
      rw [sub_add (hh k) hj.lt]
      exact hf
    | false =>
      exact .inr ⟨hb.absent hh hj ((tab_none hs).2 hu), .inl ⟨j, s, hj, hs, hu, hf⟩⟩
  · obtain ⟨ha, hful⟩ := no_ends hh hno
    refine .inr ⟨ha, .inr ⟨?_, find_none w hk hno⟩⟩
    rw [← w.len]
    refine List.countP_eq_length.2 fun s hs => ?_
    obtain ⟨q, hq⟩ := List.getElem?_of_mem hs
    have hql : q < n := by rw [← w.len]; exact (List.getElem?_eq_some_iff.1 hq).1
    cases hu : s.Ja with
    | true => rfl
    | false => exact (hful q hql ((tab_none hq).2 hu)).elim
theorem find_in {n : Nat} {S : List Sl} {m : Int} (t : TT n S m) {q : Nat} {s : Sl} (hs : S[q]? = some s) (hu : s.Ja = true) : Ym ⟨S, m⟩ s.Xo = some ((q : Int), ((sub n q (hm n s.Xo) + 1 : Nat) : Int), ⟨S, m⟩) := by
  obtain ⟨b, hb⟩ := t.inv
  have w := t.toWT
  have hh : ∀ k, hm n k < n := hm_lt w.pos
  have hq : q < n := by rw [← w.len]; exact (List.getElem?_eq_some_iff.1 hs).1
  have he := hb.ends hh hq (tab_some.2 ⟨hs, hu⟩)
  have := find_ends (m := m) w (w.key s (List.mem_of_getElem? hs)) he
  rw [this, add_sub hq (hh _)]
def Mem (S : List Sl) (k : Xe) (v : Int) : Prop := ∃ (q : Nat) (s : Sl), S[q]? = some s ∧ s.Ja = true ∧ s.Xo = k ∧ s.f_N = v
theorem has_in {n : Nat} {S : List Sl} {m : Int} (t : TT n S m) {q : Nat} {s : Sl} (hs : S[q]? = some s) (hu : s.Ja = true) : Z7 ⟨S, m⟩ s.Xo = some ((q : Int), ⟨S, m⟩) := by
  unfold Z7 Jo
  rw [find_in t hs hu, Option.bind_some]
  dsimp only
  rw [if_pos (dT (by omega)), gidx_nat hs, Option.bind_some, hu]
  rfl
theorem has_out {n : Nat} {S : List Sl} {m : Int} (t : TT n S m) {k : Xe} (hk : WK k) (h : Absent n KE (tab S) k) : Z7 ⟨S, m⟩ k = some (-1, ⟨S, m⟩) := by
  unfold Z7 Jo
  rcases find_cases t hk with ⟨q, s, hq, hs, hu, hks, hf⟩ | ⟨_, ⟨j, s, hj, hs, hu, hf⟩ | ⟨_, hf⟩⟩
  · exact (h q s hq (tab_some.2 ⟨hs, hu⟩) hks).elim
  · rw [hf, Option.bind_some]
    dsimp only
    rw [if_pos (dT (by omega)), gidx_nat hs, Option.bind_some, hu]
    rfl
  · rw [hf, Option.bind_some]
    rfl
theorem get_in {n : Nat} {S : List Sl} {m : Int} (t : TT n S m) {k : Xe} {v : Int} (h : Mem S k v) : Yt ⟨S, m⟩ k = some (v, true, ⟨S, m⟩) := by
  obtain ⟨q, s, hs, hu, rfl, rfl⟩ := h
  unfold Yt
  rw [has_in t hs hu, Option.bind_some]
  dsimp only
  rw [if_neg (dF (by omega)), gidx_nat hs, Option.bind_some]
theorem get_out {n : Nat} {S : List Sl} {m : Int} (t : TT n S m) {k : Xe} (hk : WK k) (h : Absent n KE (tab S) k) : Yt ⟨S, m⟩ k = some (0, false, ⟨S, m⟩) := by
  unfold Yt
  rw [has_out t hk h, Option.bind_some]
  rfl
theorem put_over {n : Nat} {S : List Sl} {m : Int} (t : TT n S m) {q : Nat} {s : Sl} (hs : S[q]? = some s) (hu : s.Ja = true) (hr : kr s.Xo = true) (v : Int) : YX ⟨S, m⟩ s.Xo v = some (0, ⟨S.set q ⟨true, s.Xo, v⟩, m⟩) ∧ TT n (S.set q ⟨true, s.Xo, v⟩) m := by
  have w := t.toWT
  have hq : q < n := by rw [← w.len]; exact (List.getElem?_eq_some_iff.1 hs).1
  refine ⟨?_, ?_⟩
  · unfold YX Jl
    rw [find_in t hs hu, Option.bind_some, kright_eq, Option.bind_some, hr]
    dsimp only
    rw [if_neg (by decide), if_neg (dF (by omega)), gidx_nat hs, Option.bind_some, hu, if_neg (by decide), Option.bind_some]
    rfl
  · obtain ⟨b, hb⟩ := t.inv
    refine ⟨w.set q (w.key s (List.mem_of_getElem? hs)), ⟨b, ?_⟩, ?_⟩
    · rw [tab_upd rfl (by rw [w.len]; exact hq)]
      exact hb.over hq (tab_some.2 ⟨hs, hu⟩) rfl
    · rw [t.many]
      have := usd_set (e := ⟨true, s.Xo, v⟩) hs
      rw [if_pos hu, if_pos rfl] at this
      omega
theorem put_new {n : Nat} {S : List Sl} {m : Int} (t : TT n S m) {k : Xe} (hk : WK k) (h : Absent n KE (tab S) k) (hl : usd S < n) (hr : kr k = true) (v : Int) :
    ∃ q s, S[q]? = some s ∧ s.Ja = false ∧ YX ⟨S, m⟩ k v = some (0, ⟨S.set q ⟨true, k, v⟩, m + 1⟩) ∧ TT n (S.set q ⟨true, k, v⟩) (m + 1) := by
  have w := t.toWT
  rcases find_cases t hk with ⟨q, s, hq, hs, hu, hks, hf⟩ | ⟨_, ⟨j, s, hj, hs, hu, hf⟩ | ⟨he, hf⟩⟩
  · exact (h q s hq (tab_some.2 ⟨hs, hu⟩) hks).elim
  · have hh : ∀ k, hm n k < n := hm_lt w.pos
    have hq : add n (hm n k) j < n := add_lt (hh k) (Nat.le_of_lt hj.lt)
    have hus := usd_set (e := ⟨true, k, v⟩) hs
    rw [hu, if_neg (by decide), if_pos rfl] at hus
    refine ⟨add n (hm n k) j, s, hs, hu, ?_, ?_⟩
    · unfold YX Jl
      rw [hf, Option.bind_some, kright_eq, Option.bind_some, hr]
      dsimp only
      have hm1 : IntKind.i64.wrap (m + 1) = m + 1 := wi64 (by have := t.many; omega) (by have := t.many; have := w.le; omega)
      rw [if_neg (by decide), if_neg (dF (by omega)), gidx_nat hs, Option.bind_some, hu, if_pos (by decide), Option.bind_some, hm1]
      rfl
    · obtain ⟨b, hb⟩ := t.inv
      refine ⟨w.set _ hk, ⟨add n (add n (hm n k) j) 1, ?_⟩, ?_⟩
      · rw [tab_upd rfl (by rw [w.len]; exact hq)]
        exact hb.put (e := (⟨true, k, v⟩ : Sl)) hh h hj
      · rw [t.many]; omega
  · omega
def Near (n : Nat) (S T : List Sl) : Prop := ∀ (q : Nat) (e : Sl), S[q]? = some e → e.Ja = true → ∃ p, p < n ∧ T[p]? = some e ∧ sub n p (hm n e.Xo) ≤ sub n q (hm n e.Xo)
def Back (S T : List Sl) : Prop := ∀ (q : Nat) (e : Sl), T[q]? = some e → e.Ja = true → ∃ p : Nat, S[p]? = some e
theorem del_L {n : Nat} {m : Int} {a : Nat} {X : Xw} (hX : X.Xp.length = n) (ha : a < n) : ∀ (f i : Nat) (S : List Sl) {b : Nat}, WT n S → i + 1 ≤ n → n ≤ f + i →
    ((sub n a b + 1 + i < n ∧ Del n KE (hm n) (tab S) b (sub n a b + 1 + i)) ∨ Inv n KE (hm n) (tab S) b) →
    ∃ T, ZD ((a : Int), X) f S m (i : Int) = some (true, ⟨T, m⟩) ∧ WT n T ∧ Inv n KE (hm n) (tab T) b ∧ usd T = usd S ∧ Near n S T ∧ Back S T
  | 0, i, S, b, w, h1, h2, h3 => by omega
  | f + 1, i, S, b, w, h1, h2, h3 => by
    have hh : ∀ k, hm n k < n := hm_lt w.pos
    have hle := w.le
    show ∃ T, Jg (ZD ((a : Int), X) f) ((a : Int), X) S m (i : Int) = _ ∧ _
    unfold Jg Jd
    dsimp only
    have e1 : IntKind.i64.wrap ((X.Xp.length : Int) - 1) = (n : Int) - 1 := by rw [hX]; exact wi64 (by omega) (by omega)
    have e2 : IntKind.i64.wrap (IntKind.i64.wrap ((a : Int) + 1) + (i : Int)) = ((a + (1 + i) : Nat) : Int) := by rw [wi64 (n := (a : Int) + 1) (by omega) (by omega), wi64 (by omega) (by omega)]; omega
    have same : Near n S S ∧ Back S S := ⟨fun q e he _ => ⟨q, by rw [← w.len]; exact (List.getElem?_eq_some_iff.1 he).1, he, Nat.le_refl _⟩, fun q e he _ => ⟨q, he⟩⟩
    by_cases hi : i + 1 < n
    · have e3 : Int.tmod (IntKind.i64.wrap (IntKind.i64.wrap ((a : Int) + 1) + (i : Int))) (X.Xp.length : Int) = ((add n a (1 + i) : Nat) : Int) := by
        rw [e2, hX, tmod_nat, add_mod ha (by omega)]
      have hp : add n a (1 + i) < n := add_lt ha (by omega)
      obtain ⟨s, hs⟩ := get_lt w hp
      rw [e1, if_pos (dT (by omega)), if_pos (by have := w.pos; rw [hX]; simp; omega), e3, gidx_nat hs, Option.bind_some]
      cases hu : s.Ja with
      | false =>
        rw [if_pos (by decide)]
        refine ⟨S, rfl, w, ?_, rfl, same.1, same.2⟩
        rcases h3 with ⟨h4, h5⟩ | h5
        · have hb := h5.lt
          refine h5.free hh h4 ?_
          have : add n b (sub n a b + 1 + i) = add n a (1 + i) := by
            have := add_sub ha hb
            revert this h4
            unfold add sub
            intro h4 this
            repeat' split
            all_goals (split at h4 <;> split at this <;> omega)
          rw [this]
          exact (tab_none hs).2 hu
        · exact h5
      | true =>
        rw [if_neg (by decide), Option.bind_some]
        generalize hpe : add n a (1 + i) = p at *
        have wks := w.key s (List.mem_of_getElem? hs)
        have hpl : p < S.length := by rw [w.len]; exact hp
        have ht := tab_some.2 ⟨hs, hu⟩
        have w1 : WT n (S.set p E0) := w.set p wk0
        have htc : tab (S.set p E0) = clr (tab S) p := tab_clr rfl
        have key : ∃ j, Ring.Ends n KE (hm n) (clr (tab S) p) s.Xo j ∧ clr (tab S) p (add n (hm n s.Xo) j) = none ∧ j ≤ sub n p (hm n s.Xo) ∧
            ((sub n a b + 1 + (i + 1) < n ∧ Del n KE (hm n) (upd (clr (tab S) p) (add n (hm n s.Xo) j) s) b (sub n a b + 1 + (i + 1))) ∨ Inv n KE (hm n) (upd (clr (tab S) p) (add n (hm n s.Xo) j) s) b) := by
          rcases h3 with ⟨h4, h5⟩ | h5
          · have hb := h5.lt
            have hbp : add n b (sub n a b + 1 + i) = p := by
              rw [← hpe]
              have := add_sub ha hb
              revert this h4
              unfold add sub
              intro h4 this
              repeat' split
              all_goals (split at h4 <;> split at this <;> omega)
            obtain ⟨j, k1, k2, k3, k4⟩ := h5.step hh h4 (x := s) (by rw [hbp]; exact ht)
            rw [hbp] at k1 k2 k3 k4
            refine ⟨j, k1, k2, k3, ?_⟩
            rcases Nat.lt_or_ge (sub n a b + 1 + (i + 1)) n with h6 | h6
            · exact .inl ⟨h6, k4⟩
            · exact .inr (k4.done (by omega))
          · have k1 := h5.again hh hp ht
            refine ⟨_, k1, ?_, Nat.le_refl _, .inr ?_⟩
            · show clr (tab S) p (add n (hm n (KE s)) (sub n p (hm n (KE s)))) = none
              rw [add_sub hp (hh _)]; exact clr_at
            · show Inv n KE (hm n) (upd (clr (tab S) p) (add n (hm n (KE s)) (sub n p (hm n (KE s)))) s) b
              rw [add_sub hp (hh _), upd_clr ht]; exact h5
        obtain ⟨j, k1, k2, k3, k4⟩ := key
        rw [← htc] at k1 k2
        have hf := find_ends (m := m) w1 wks k1
        have hq : add n (hm n s.Xo) j < n := add_lt (hh _) (Nat.le_of_lt k1.lt)
        obtain ⟨z, hz⟩ := get_lt w1 hq
        have hzu : z.Ja = false := (tab_none hz).1 k2
        have hql : add n (hm n s.Xo) j < (S.set p E0).length := by rw [w1.len]; exact hq
        show ∃ T, ((Ym ⟨S.set p E0, m⟩ s.Xo).bind _) = _ ∧ _
        rw [hf, Option.bind_some]
        dsimp only
        rw [gidx_nat hz, Option.bind_some, show IntKind.i64.wrap ((i : Int) + 1) = ((i + 1 : Nat) : Int) by rw [wi64 (by omega) (by omega)]; omega]
        have w2 : WT n ((S.set p E0).set (add n (hm n s.Xo) j) s) := w1.set _ wks
        have ht2 : tab ((S.set p E0).set (add n (hm n s.Xo) j) s) = upd (clr (tab S) p) (add n (hm n s.Xo) j) s := by rw [tab_upd hu hql, htc]
        rw [← ht2] at k4
        obtain ⟨T, t1, t2, t3, t4, t5, t6⟩ := del_L hX ha f (i + 1) _ w2 (by omega) (by omega) k4
        have hj2 : sub n (add n (hm n s.Xo) j) (hm n s.Xo) = j := sub_add (hh _) k1.lt
        refine ⟨T, t1, t2, t3, ?_, ?_, ?_⟩
        · rw [t4]
          have u1 := usd_set (e := E0) hs
          have u2 := usd_set (e := s) hz
          rw [if_pos hu, if_neg (by decide)] at u1
          rw [hzu, if_neg (by decide), if_pos hu] at u2
          omega
        · intro q e he hue
          by_cases hqp : q = p
          · subst hqp
            rw [hs] at he; injection he with he; subst he
            obtain ⟨p', g1, g2, g3⟩ := t5 (add n (hm n s.Xo) j) s (List.getElem?_set_self hql) hu
            exact ⟨p', g1, g2, by rw [hj2] at g3; omega⟩
          · have hne : q ≠ add n (hm n s.Xo) j := fun h7 => by
              rw [← h7, List.getElem?_set_ne (fun h => hqp h.symm)] at hz
              rw [he] at hz; injection hz with hz; subst hz
              rw [hue] at hzu; cases hzu
            obtain ⟨p', g1, g2, g3⟩ := t5 q e (by rw [List.getElem?_set_ne (fun h => hne h.symm), List.getElem?_set_ne (fun h => hqp h.symm)]; exact he) hue
            exact ⟨p', g1, g2, g3⟩
        · intro q e he hue
          obtain ⟨p', g1⟩ := t6 q e he hue
          by_cases hn : p' = add n (hm n s.Xo) j
          · rw [hn, List.getElem?_set_self hql] at g1
            injection g1 with g1; subst g1
            exact ⟨p, hs⟩
          · rw [List.getElem?_set_ne (fun h => hn h.symm)] at g1
            by_cases hn2 : p' = p
            · rw [hn2, List.getElem?_set_self hpl] at g1
              injection g1 with g1; subst g1
              cases hue
            · rw [List.getElem?_set_ne (fun h => hn2 h.symm)] at g1
              exact ⟨p', g1⟩
    · rw [e1, if_neg (dF (by omega))]
      refine ⟨S, rfl, w, ?_, rfl, same.1, same.2⟩
      rcases h3 with ⟨h4, h5⟩ | h5
      · omega
      · exact h5
theorem del_in {n : Nat} {S : List Sl} {m : Int} (t : TT n S m) {a : Nat} {s : Sl} (hs : S[a]? = some s) (hu : s.Ja = true) :
    ∃ T, Jn ⟨S, m⟩ s.Xo = some (true, ⟨T, m - 1⟩) ∧ TT n T (m - 1) ∧ Near n (S.set a E0) T ∧ Back (S.set a E0) T := by
  have w := t.toWT
  have hh : ∀ k, hm n k < n := hm_lt w.pos
  have ha : a < n := by rw [← w.len]; exact (List.getElem?_eq_some_iff.1 hs).1
  obtain ⟨b, hb⟩ := t.inv
  have hbl := hb.lt
  have hus := usd_set (e := E0) hs
  rw [if_pos hu, if_neg (by decide)] at hus
  have hul := usd_le S
  rw [w.len] at hul
  have hd := hb.del hh ha
  have htc : tab (S.set a E0) = clr (tab S) a := tab_clr rfl
  rw [← htc] at hd
  have hsl := sub_lt ha hbl
  have h0 : (sub n a b + 1 + 0 < n ∧ Del n KE (hm n) (tab (S.set a E0)) b (sub n a b + 1 + 0)) ∨ Inv n KE (hm n) (tab (S.set a E0)) b := by
    rcases Nat.lt_or_ge (sub n a b + 1) n with h1 | h1
    · exact .inl ⟨h1, hd⟩
    · exact .inr (hd.done (by omega))
  obtain ⟨T, t1, t2, t3, t4, t5, t6⟩ := del_L (m := m - 1) (X := ⟨S, m⟩) w.len ha fuel0 0 _ (w.set a wk0) (by have := w.pos; omega) (by have := w.le; unfold fuel0; omega) h0
  refine ⟨T, ?_, ⟨t2, ⟨b, t3⟩, ?_⟩, t5, t6⟩
  · unfold Jn
    rw [has_in t hs hu, Option.bind_some]
    dsimp only
    have hm1 : IntKind.i64.wrap (m - 1) = m - 1 := wi64 (by have := t.many; omega) (by have := t.many; have := w.le; omega)
    rw [if_neg (dF (by omega)), gidx_nat hs, Option.bind_some, hm1]
    exact t1
  · rw [t.many, t4]; omega
structure RL (n : Nat) (S : List Sl) (m : Int) (ks : List Xe) (ns : List Int) : Prop extends TT n S m where
  kl : ks.length = usd S
  nl : ns.length = usd S
  mem : ∀ (i : Nat) k, ks[i]? = some k → ∃ v, ns[i]? = some v ∧ Mem S k v
  all : ∀ k v, Mem S k v → k ∈ ks
  one : ∀ (i j : Nat) k, ks[i]? = some k → ks[j]? = some k → i = j
theorem RL.wk {n : Nat} {S : List Sl} {m : Int} {ks : List Xe} {ns : List Int} (r : RL n S m ks ns) {k : Xe} (hk : k ∈ ks) : WK k := by
  obtain ⟨i, hi⟩ := List.getElem?_of_mem hk
  obtain ⟨v, _, q, s, hs, _, rfl, _⟩ := r.mem i k hi
  exact r.key s (List.mem_of_getElem? hs)
theorem RL.absent {n : Nat} {S : List Sl} {m : Int} {ks : List Xe} {ns : List Int} (r : RL n S m ks ns) {k : Xe} (hk : k ∉ ks) : Absent n KE (tab S) k := fun q e hq he hke => by
  obtain ⟨h1, h2⟩ := tab_some.1 he
  exact hk (r.all k e.f_N ⟨q, e, h1, h2, hke, rfl⟩)
theorem RL.uniq {n : Nat} {S : List Sl} {m : Int} (t : TT n S m) {q p : Nat} {s e : Sl} (hs : S[q]? = some s) (hu : s.Ja = true) (he : S[p]? = some e) (heu : e.Ja = true) (hk : s.Xo = e.Xo) : q = p := by
  obtain ⟨b, hb⟩ := t.inv
  exact hb.one q p s e (by rw [← t.len]; exact (List.getElem?_eq_some_iff.1 hs).1) (by rw [← t.len]; exact (List.getElem?_eq_some_iff.1 he).1) (tab_some.2 ⟨hs, hu⟩) (tab_some.2 ⟨he, heu⟩) hk
theorem RL.over {n : Nat} {S : List Sl} {m : Int} {ks : List Xe} {ns : List Int} (r : RL n S m ks ns) {i q : Nat} {s : Sl} (hi : ks[i]? = some s.Xo) (hs : S[q]? = some s) (hu : s.Ja = true) {v : Int}
    (t : TT n (S.set q ⟨true, s.Xo, v⟩) m) : RL n (S.set q ⟨true, s.Xo, v⟩) m ks (ns.set i v) := by
  have hq : q < S.length := (List.getElem?_eq_some_iff.1 hs).1
  have hus := usd_set (e := ⟨true, s.Xo, v⟩) hs
  rw [if_pos hu, if_pos rfl] at hus
  have hil : i < ks.length := (List.getElem?_eq_some_iff.1 hi).1
  refine ⟨t, by rw [r.kl]; omega, by rw [List.length_set, r.nl]; omega, fun j k hk => ?_, fun k w hm => ?_, r.one⟩
  · by_cases hj : j = i
    · subst hj
      rw [hi] at hk; injection hk with hk; subst hk
      refine ⟨v, ?_, q, _, List.getElem?_set_self hq, rfl, rfl, rfl⟩
      rw [List.getElem?_set_self]
      rw [r.nl, ← r.kl]; exact hil
    · obtain ⟨w, hw, p, e, he, heu, hek, hen⟩ := r.mem j k hk
      refine ⟨w, by rw [List.getElem?_set_ne (fun h => hj h.symm)]; exact hw, p, e, ?_, heu, hek, hen⟩
      rw [List.getElem?_set_ne]
      · exact he
      · intro h
        subst h
        rw [hs] at he; injection he with he; subst he
        subst hek
        exact hj (r.one j i _ hk hi)
  · obtain ⟨p, e, he, heu, hek, hen⟩ := hm
    by_cases hp : p = q
    · subst hp
      rw [List.getElem?_set_self hq] at he; injection he with he; subst he
      rw [← hek]; exact List.mem_of_getElem? hi
    · rw [List.getElem?_set_ne (fun h => hp h.symm)] at he
      exact r.all k w ⟨p, e, he, heu, hek, hen⟩
theorem RL.new {n : Nat} {S : List Sl} {m : Int} {ks : List Xe} {ns : List Int} (r : RL n S m ks ns) {k : Xe} (hk : k ∉ ks) {q : Nat} {s : Sl} (hs : S[q]? = some s) (hu : s.Ja = false) {v : Int} {m' : Int}
    (t : TT n (S.set q ⟨true, k, v⟩) m') : RL n (S.set q ⟨true, k, v⟩) m' (ks ++ [k]) (ns ++ [v]) := by
  have hq : q < S.length := (List.getElem?_eq_some_iff.1 hs).1
  have hus := usd_set (e := ⟨true, k, v⟩) hs
  rw [hu, if_neg (by decide), if_pos rfl] at hus
  have app : ∀ (j : Nat) k', (ks ++ [k])[j]? = some k' → (j < ks.length ∧ ks[j]? = some k') ∨ (j = ks.length ∧ k' = k) := fun j k' h => by
    rcases Nat.lt_or_ge j ks.length with h1 | h1
    · rw [List.getElem?_append_left h1] at h; exact .inl ⟨h1, h⟩
    · rw [List.getElem?_append_right h1] at h
      have h2 : j - ks.length = 0 := by
        have := (List.getElem?_eq_some_iff.1 h).1
        simpa using this
      rw [h2] at h
      injection h with h
      exact .inr ⟨by omega, h.symm⟩
  refine ⟨t, by rw [List.length_append, r.kl]; simp; omega, by rw [List.length_append, r.nl]; simp; omega, fun j k' hk' => ?_, fun k' w hm => ?_, fun i j k' h1 h2 => ?_⟩
  · rcases app j k' hk' with ⟨h1, h2⟩ | ⟨rfl, rfl⟩
    · obtain ⟨w, hw, p, e, he, heu, hek, hen⟩ := r.mem j k' h2
      refine ⟨w, by rw [List.getElem?_append_left (by rw [r.nl, ← r.kl]; exact h1)]; exact hw, p, e, ?_, heu, hek, hen⟩
      rw [List.getElem?_set_ne]
      · exact he
      · intro h; subst h
        rw [hs] at he; injection he with he; subst he
        rw [hu] at heu; cases heu
    · refine ⟨v, ?_, q, _, List.getElem?_set_self hq, rfl, rfl, rfl⟩
      rw [List.getElem?_append_right (by rw [r.nl, r.kl]; exact Nat.le_refl _), r.nl, r.kl]; simp
  · obtain ⟨p, e, he, heu, hek, hen⟩ := hm
    by_cases hp : p = q
    · subst hp
      rw [List.getElem?_set_self hq] at he; injection he with he; subst he
      rw [← hek]; simp
    · rw [List.getElem?_set_ne (fun h => hp h.symm)] at he
      exact List.mem_append_left _ (r.all k' w ⟨p, e, he, heu, hek, hen⟩)
  · rcases app i k' h1 with ⟨a1, a2⟩ | ⟨a1, a2⟩ <;> rcases app j k' h2 with ⟨b1, b2⟩ | ⟨b1, b2⟩
    · exact r.one i j k' a2 b2
    · exact (hk (by rw [← b2]; exact List.mem_of_getElem? a2)).elim
    · exact (hk (by rw [← a2]; exact List.mem_of_getElem? b2)).elim
    · omega
theorem swap_get {α : Type} {xs : List α} {a i : Nat} {x : α} (hi : i + 1 < xs.length) : ((xs.set a x).take (xs.length - 1))[i]? = if i = a then some x else xs[i]? := by
  rw [List.getElem?_take, if_pos (by omega)]
  by_cases h : i = a
  · subst h; rw [if_pos rfl, List.getElem?_set_self (by omega)]
  · rw [if_neg h, List.getElem?_set_ne (fun h' => h h'.symm)]
theorem RL.del {n : Nat} {S : List Sl} {m : Int} {ks : List Xe} {ns : List Int} (r : RL n S m ks ns) {a q : Nat} {s : Sl} (ha : ks[a]? = some s.Xo) (hs : S[q]? = some s) (hu : s.Ja = true) {T : List Sl}
    (t : TT n T (m - 1)) (hN : Near n (S.set q E0) T) (hB : Back (S.set q E0) T) {kl : Xe} {nl : Int} (hkl : ks[ks.length - 1]? = some kl) (hnl : ns[ks.length - 1]? = some nl) :
    RL n T (m - 1) ((ks.set a kl).take (ks.length - 1)) ((ns.set a nl).take (ns.length - 1)) := by
  have hq : q < S.length := (List.getElem?_eq_some_iff.1 hs).1
  have hal : a < ks.length := (List.getElem?_eq_some_iff.1 ha).1
  have hml : ns.length = ks.length := by rw [r.kl, r.nl]
  have hT : usd T + 1 = usd S := by have h1 := t.many; have h2 := r.many; omega
  have len : ((ks.set a kl).take (ks.length - 1)).length = ks.length - 1 := by simp
  have toS : ∀ k v, Mem T k v → Mem S k v ∧ k ≠ s.Xo := fun k v ⟨p, e, he, heu, hek, hen⟩ => by
    obtain ⟨p', hp'⟩ := hB p e he heu
    by_cases h1 : p' = q
    · subst h1
      rw [List.getElem?_set_self hq] at hp'; injection hp' with hp'; subst hp'
      cases heu
    · rw [List.getElem?_set_ne (fun h => h1 h.symm)] at hp'
      refine ⟨⟨p', e, hp', heu, hek, hen⟩, fun h2 => ?_⟩
      exact h1 (RL.uniq r.toTT hp' heu hs hu (by rw [hek, h2]))
  have toT : ∀ k v, Mem S k v → k ≠ s.Xo → Mem T k v := fun k v ⟨p, e, he, heu, hek, hen⟩ hne => by
    have h1 : p ≠ q := fun h => by
      subst h; rw [hs] at he; injection he with he; subst he; exact hne hek.symm
    obtain ⟨p', _, g, _⟩ := hN p e (by rw [List.getElem?_set_ne (fun h => h1 h.symm)]; exact he) heu
    exact ⟨p', e, g, heu, hek, hen⟩
  have idx : ∀ (i : Nat) k, ((ks.set a kl).take (ks.length - 1))[i]? = some k → ∃ j, j ≠ a ∧ ks[j]? = some k ∧ ((ns.set a nl).take (ns.length - 1))[i]? = ns[j]? ∧ i + 1 < ks.length ∧ j = if i = a then ks.length - 1 else i := fun i k hk => by
    have hil : i + 1 < ks.length := by have := (List.getElem?_eq_some_iff.1 hk).1; rw [len] at this; omega
    rw [swap_get hil] at hk
    rw [swap_get (by rw [hml]; exact hil)]
    by_cases hia : i = a
    · rw [if_pos hia] at hk
      injection hk with hk; subst hk
      exact ⟨ks.length - 1, by omega, hkl, by rw [if_pos hia, hnl], hil, by rw [if_pos hia]⟩
    · rw [if_neg hia] at hk
      exact ⟨i, hia, hk, by rw [if_neg hia], hil, by rw [if_neg hia]⟩
  refine ⟨t, by rw [len, r.kl]; omega, by simp; rw [r.nl]; omega, fun i k hk => ?_, fun k v hm => ?_, fun i j k h1 h2 => ?_⟩
  · obtain ⟨j, hja, hj, hnj, _⟩ := idx i k hk
    obtain ⟨v, hv, hm⟩ := r.mem j k hj
    exact ⟨v, by rw [hnj]; exact hv, toT k v hm fun h => by subst h; exact hja (r.one j a _ hj ha)⟩
  · obtain ⟨hm', hne⟩ := toS k v hm
    obtain ⟨j, hj⟩ := List.getElem?_of_mem (r.all k v hm')
    have hja : j ≠ a := fun h => by subst h; rw [ha] at hj; injection hj with hj; exact hne hj.symm
    have hjl : j < ks.length := (List.getElem?_eq_some_iff.1 hj).1
    by_cases h1 : j = ks.length - 1
    · subst h1
      rw [hkl] at hj; injection hj with hj; subst hj
      refine List.mem_of_getElem? (i := a) ?_
      rw [swap_get (by omega), if_pos rfl]
    · refine List.mem_of_getElem? (i := j) ?_
      rw [swap_get (by omega), if_neg hja]; exact hj
  · obtain ⟨i', a1, a2, _, a3, a4⟩ := idx i k h1
    obtain ⟨j', b1, b2, _, b3, b4⟩ := idx j k h2
    have := r.one i' j' k a2 b2
    rw [a4, b4] at this
    split at this <;> split at this <;> omega
theorem empty_get {n q : Nat} {s : Sl} (h : (List.replicate n E0)[q]? = some s) : s = E0 := by
  have := List.mem_of_getElem? h
  exact List.eq_of_mem_replicate this
theorem tt_empty {n : Nat} (h1 : 1 ≤ n) (h2 : n ≤ 65536) (hd : n ∣ 2 ^ 64) : TT n (List.replicate n E0) 0 := by
  have hnone : ∀ q, tab (List.replicate n E0) q = none := fun q => by
    cases h : tab (List.replicate n E0) q with
    | none => rfl
    | some e =>
      obtain ⟨a, b⟩ := tab_some.1 h
      rw [empty_get a] at b; cases b
  refine ⟨⟨List.length_replicate, by omega, h2, hd, fun s hs => by rw [List.eq_of_mem_replicate hs]; exact wk0⟩, ⟨0, ⟨by omega, ?_, ?_, ?_⟩⟩, ?_⟩
  · intro p q e f _ _ h; rw [hnone] at h; cases h
  · intro q e _ h; rw [hnone] at h; cases h
  · intro q e _ h; rw [hnone] at h; cases h
  · unfold usd
    rw [List.countP_eq_zero.2 (fun s hs => by rw [List.eq_of_mem_replicate hs]; decide)]
    rfl
theorem arrEq_refl (n : Nat) (x : List Int) : arrEq n x x = true := by simp [arrEq]
theorem Xa0 (x : Xd) : KO x x = true := by simp [KO, arrEq_refl]
theorem arrEq_iff {n : Nat} {x y : List Int} : arrEq n x y = true ↔ ∀ i, i < n → x.getD i 0 = y.getD i 0 := by
  unfold arrEq
  rw [List.all_eq_true]
  constructor
  · intro h i hi
    exact eq_of_beq (h i (List.mem_range.2 hi))
  · intro h i hi
    exact beq_iff_eq.2 (h i (List.mem_range.1 hi))
theorem range_get {f : Nat → Int} {n i : Nat} (hi : i < n) : ((List.range n).map f).getD i 0 = f i := by
  simp [List.getD, hi]
theorem cpA_get {n m i : Nat} {xs ys : List Int} (hi : i < n) : (cpA n m xs ys).getD i 0 = if i < m then ys.getD i 0 else xs.getD i 0 := range_get hi
theorem arrL_get {n i : Nat} {xs : List Int} (hi : i < n) : (arrL n xs).getD i 0 = xs.getD i 0 := range_get hi
theorem rep_get {n i : Nat} : (List.replicate n (0 : Int)).getD i 0 = 0 := by
  by_cases h : i < n <;> simp [List.getD, h]
def Rt (a : Xd) : Prop := a.YQ = true ∨ ∀ i, 4 ≤ i → i < 16 → a.f_B.getD i 0 = 0
open Classical in
theorem addr_right (a : Xd) : ZC a = some (decide (Rt a)) := by
  unfold ZC J8
  have fin : ∀ s : Nat, s ≤ 16 → (arrEq 16 a.f_B (cpA 16 (Nat.min (arrL 16 a.f_B).length s) (List.replicate 16 0) (arrL 16 a.f_B)) = true ↔ ∀ i, s ≤ i → i < 16 → a.f_B.getD i 0 = 0) := fun s hs => by
    rw [arrEq_iff, arrL_len, show Nat.min 16 s = s from Nat.min_eq_right hs]
    constructor
    · intro h i h1 h2
      have := h i h2
      rw [cpA_get h2, if_neg (by omega), rep_get] at this
      exact this
    · intro h i h2
      rw [cpA_get h2]
      by_cases h1 : i < s
      · rw [if_pos h1, arrL_get h2]
      · rw [if_neg h1, rep_get]; exact h i (by omega) h2
  by_cases h : a.YQ = true
  · rw [if_pos h, Option.bind_some, gcut_in (by omega) (by omega) (by rw [arrL_len]; omega), Option.bind_some]
    have hl : (List.take ((16 : Int).toNat - (0 : Int).toNat) (List.drop (0 : Int).toNat (arrL 16 (List.replicate 16 0)))).length = 16 := by simp [arrL_len]
    rw [hl]
    congr 1
    rw [Bool.eq_iff_iff, fin 16 (by omega), decide_eq_true_iff]
    exact ⟨fun _ => .inl h, fun _ i h1 h2 => by omega⟩
  · rw [if_neg h, Option.bind_some, gcut_in (by omega) (by omega) (by rw [arrL_len]; omega), Option.bind_some]
    have hl : (List.take ((4 : Int).toNat - (0 : Int).toNat) (List.drop (0 : Int).toNat (arrL 16 (List.replicate 16 0)))).length = 4 := by simp [arrL_len]
    rw [hl]
    congr 1
    rw [Bool.eq_iff_iff, fin 4 (by omega), decide_eq_true_iff]
    exact ⟨.inr, fun k => k.resolve_left h⟩
open Classical in
structure RK (k : Xe) : Prop extends WK k where
  right : kr k = true
  sb : Wf 256 k.XL.f_B
  db : Wf 256 k.XN.f_B
  pb : 0 ≤ k.X2 ∧ k.X2 < 256
theorem lx_neg : ∀ X Y : List UInt8, lx Y X = - lx X Y
  | [], [] => rfl
  | [], _ :: _ => rfl
  | _ :: _, [] => rfl
  | a :: X, b :: Y => by
    have ih := lx_neg X Y
    unfold lx
    by_cases h1 : a < b
    · have h2 : ¬ b < a := fun h => by have h3 : a.toNat < b.toNat := h1; have h4 : b.toNat < a.toNat := h; omega
      simp [h1, h2]
    · by_cases h2 : b < a
      · simp [h1, h2]
      · simp [h1, h2, ih]
theorem lx_zero : ∀ X Y : List UInt8, lx X Y = 0 → X = Y
  | [], [], _ => rfl
  | [], _ :: _, h => by simp [lx] at h
  | _ :: _, [], h => by simp [lx] at h
  | a :: X, b :: Y, h => by
    unfold lx at h
    by_cases h1 : a < b
    · rw [if_pos h1] at h; omega
    · rw [if_neg h1] at h
      by_cases h2 : b < a
      · rw [if_pos h2] at h; omega
      · rw [if_neg h2] at h
        rw [u8_tri h1 h2, lx_zero X Y h]
theorem less_lx : ∀ X Y : List UInt8, Op.bytesLess X Y = decide (lx X Y < 0)
  | [], [] => rfl
  | [], _ :: _ => rfl
  | _ :: _, [] => rfl
  | a :: X, b :: Y => by
    have ih := less_lx X Y
    unfold Op.bytesLess lx
    by_cases h1 : a < b
    · rw [if_pos h1]; simp [h1]
    · rw [if_neg h1]
      by_cases h2 : b < a
      · rw [if_pos h2]
        have h3 : (a == b) = false := by
          rw [beq_eq_false_iff_ne]; intro h; subst h; exact u8_irr a h2
        simp [h1, h3]
      · rw [if_neg h2, u8_tri h1 h2, ih]
        simp
theorem nb_inj : ∀ {x y : List Int}, Wf 256 x → Wf 256 y → nb x = nb y → x = y
  | [], [], _, _, _ => rfl
  | [], _ :: _, _, _, h => by simp [nb] at h
  | _ :: _, [], _, _, h => by simp [nb] at h
  | a :: x, b :: y, hx, hy, h => by
    simp only [nb, List.map_cons, List.cons.injEq] at h
    have ha := hx a (by simp); have hb := hy b (by simp)
    have e := congrArg UInt8.toNat h.1
    simp only [UInt8.toNat_ofNat'] at e
    rw [nb_inj (fun z hz => hx z (by simp [hz])) (fun z hz => hy z (by simp [hz])) h.2, show a = b by omega]
theorem wf_take {xs : List Int} (h : Wf 256 xs) (n : Nat) : Wf 256 (xs.take n) := fun x hx => h x (List.mem_of_mem_take hx)
theorem arrL_id {xs : List Int} (h : xs.length = 16) : arrL 16 xs = xs := by
  apply List.ext_getElem (by rw [Ox.arrL_len, h])
  intro i h1 h2
  unfold arrL
  simp [List.getD, h2]
theorem ab_wf {a : Xd} (hl : a.f_B.length = 16) (h : Wf 256 a.f_B) : Wf 256 (ab a) := by
  unfold ab; rw [arrL_id hl]; exact wf_take h _
theorem pb_wf (v : Int) : Wf 256 (pb v) := by
  unfold pb; split
  · exact put_wf _ _
  · exact Wf.nil
theorem kbs_wf {k : Xe} (r : RK k) : Wf 256 (kbs k) := by
  unfold kbs
  refine (((((Wf.cons ?_ Wf.nil).app (ab_wf r.src r.sb)).app (ab_wf r.dst r.db)).app (Wf.cons r.pb Wf.nil)).app (pb_wf _)).app (pb_wf _)
  split <;> decide
theorem right_parts {k : Xe} (h : kr k = true) : Rt k.XL ∧ Rt k.XN ∧ k.XL.YQ = k.XN.YQ := by
  classical
  have e := kright_eq k
  rw [h] at e
  have j1 : ∀ p q : Int, YG k p q = some true → Rt k.XL ∧ Rt k.XN ∧ k.XL.YQ = k.XN.YQ := fun p q e => by
    unfold YG YK at e
    simp only [addr_right, Option.bind_some] at e
    by_cases h1 : Rt k.XL
    · by_cases h2 : Rt k.XN
      · by_cases h3 : k.XL.YQ = k.XN.YQ
        · exact ⟨h1, h2, h3⟩
        · simp [h1, h2, h3] at e
      · simp [h1, h2] at e
    · simp [h1] at e
  unfold Yn at e
  simp only [ports_eq, icmp_eq, Option.bind_some] at e
  split at e
  · split at e
    · exact j1 _ _ e
    · exact j1 _ _ e
  · exact j1 _ _ e
theorem pb_put {v : Int} (h : 0 ≤ v ∧ v < 65536) : pb (IntKind.u64.wrap v) = put 2 (IntKind.u64.wrap v) := by
  unfold pb
  rw [if_pos]
  rw [fit_iff, wu64i h.1 (by omega)]
  exact ⟨by decide, by decide, by show v < 256 ^ 2; omega⟩
theorem ab_inj {a b : Xd} (ha : a.f_B.length = 16) (hb : b.f_B.length = 16) (ra : Rt a) (rb : Rt b) (h6 : a.YQ = b.YQ) (h : ab a = ab b) : a = b := by
  obtain ⟨s, x⟩ := a; obtain ⟨t, y⟩ := b
  simp only at h6 ha hb
  subst h6
  simp only [ab, asz, arrL_id ha, arrL_id hb] at h
  have : x = y := by
    cases s with
    | true =>
      simp only [if_pos] at h
      rwa [List.take_of_length_le (by omega), List.take_of_length_le (by omega)] at h
    | false =>
      simp only [Bool.false_eq_true, if_false] at h
      have ra' := ra.resolve_left Bool.false_ne_true
      have rb' := rb.resolve_left Bool.false_ne_true
      simp only at ra' rb'
      apply List.ext_getElem (by omega)
      intro i h1 h2
      rcases Nat.lt_or_ge i 4 with h4 | h4
      · have e := congrArg (fun l : List Int => l[i]?) h
        simp only [List.getElem?_take, h4, if_true] at e
        rw [List.getElem?_eq_getElem h1, List.getElem?_eq_getElem h2] at e
        injection e
      · have e1 := ra' i h4 (by omega)
        have e2 := rb' i h4 (by omega)
        simp only [List.getD, List.getElem?_eq_getElem h1, List.getElem?_eq_getElem h2, Option.getD_some] at e1 e2
        rw [e1, e2]
  rw [this]
theorem put2_inj {v w : Int} (hv : 0 ≤ v ∧ v < 65536) (hw : 0 ≤ w ∧ w < 65536) (h : put 2 v = put 2 w) : v = w := by
  simp only [put, List.nil_append, List.cons_append, List.cons.injEq, and_true] at h
  omega
theorem kb_inj {x y : Xe} (rx : RK x) (ry : RK y) (h : kb x = kb y) : x = y := by
  obtain ⟨x1, x2, x3⟩ := right_parts rx.right
  obtain ⟨y1, y2, y3⟩ := right_parts ry.right
  unfold kb at h
  rw [if_pos rx.right, if_pos ry.right] at h
  unfold kbs at h
  rw [pb_put rx.sp, pb_put rx.dp, pb_put ry.sp, pb_put ry.dp, wu64i rx.sp.1 (by have := rx.sp; omega), wu64i rx.dp.1 (by have := rx.dp; omega), wu64i ry.sp.1 (by have := ry.sp; omega), wu64i ry.dp.1 (by have := ry.dp; omega)] at h
  simp only [List.append_assoc, List.cons_append, List.nil_append, List.cons.injEq] at h
  obtain ⟨h0, h⟩ := h
  have h6 : x.XL.YQ = y.XL.YQ := by
    revert h0; cases x.XL.YQ <;> cases y.XL.YQ <;> simp
  have la : ∀ a : Xd, a.f_B.length = 16 → (ab a).length = asz a := fun a ha => by
    unfold ab; rw [arrL_id ha, List.length_take, ha]; have := asz_le a; omega
  have s1 : (ab x.XL).length = (ab y.XL).length := by rw [la _ rx.src, la _ ry.src]; unfold asz; rw [h6]
  obtain ⟨g1, h⟩ := List.append_inj h s1
  have h6' : x.XN.YQ = y.XN.YQ := by rw [← x3, ← y3, h6]
  have s2 : (ab x.XN).length = (ab y.XN).length := by rw [la _ rx.dst, la _ ry.dst]; unfold asz; rw [h6']
  obtain ⟨g2, h⟩ := List.append_inj h s2
  simp only [List.cons.injEq] at h
  obtain ⟨g3, h⟩ := h
  obtain ⟨g4, g5⟩ := List.append_inj h (by rw [put_len, put_len])
  have k1 := ab_inj rx.src ry.src x1 y1 h6 g1
  have k2 := ab_inj rx.dst ry.dst x2 y2 h6' g2
  have k4 := put2_inj rx.sp ry.sp g4
  have k5 := put2_inj rx.dp ry.dp g5
  obtain ⟨a1, a2, a3, a4, a5⟩ := x; obtain ⟨b1, b2, b3, b4, b5⟩ := y
  simp only at k1 k2 g3 k4 k5
  rw [k1, k2, g3, k4, k5]
end Go.Proofs.YtkpnocgfhipidaaGreat
