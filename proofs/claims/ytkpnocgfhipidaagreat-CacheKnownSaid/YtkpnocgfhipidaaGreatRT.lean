/- Plain text: places in a circle, and keys that look for one from their home on. No program is named here. -/
set_option linter.unusedVariables false
namespace Go.Ox.Ring
def add (n h j : Nat) : Nat := if h + j < n then h + j else h + j - n
def sub (n q h : Nat) : Nat := if h ≤ q then q - h else q + n - h
theorem add_lt {n h j : Nat} (h1 : h < n) (h2 : j ≤ n) : add n h j < n := by unfold add; split <;> omega
theorem sub_lt {n q h : Nat} (h1 : q < n) (h2 : h < n) : sub n q h < n := by unfold sub; split <;> omega
theorem add_sub {n q h : Nat} (h1 : q < n) (h2 : h < n) : add n h (sub n q h) = q := by unfold add sub; split <;> split <;> omega
theorem sub_add {n h j : Nat} (h1 : h < n) (h2 : j < n) : sub n (add n h j) h = j := by unfold add sub; split <;> split <;> omega
theorem lin_add {n b h j : Nat} (hb : b < n) (hh : h < n) (hl : sub n h b + j < n) : sub n (add n h j) b = sub n h b + j := by
  unfold add sub at *; split at hl <;> split <;> split <;> omega
theorem lin_path {n b h q : Nat} (hb : b < n) (hh : h < n) (hq : q < n) (hl : sub n h b + sub n q h < n) : sub n q b = sub n h b + sub n q h := by
  have := lin_add (j := sub n q h) hb hh hl
  rwa [add_sub hq hh] at this
section
variable {E K : Type} (n : Nat) (key : E → K) (home : K → Nat)
abbrev Tab (E : Type) := Nat → Option E
structure Inv (A : Tab E) (b : Nat) : Prop where
  lt : b < n
  one : ∀ p q e f, p < n → q < n → A p = some e → A q = some f → key e = key f → p = q
  cut : ∀ q e, q < n → A q = some e → sub n (home (key e)) b + sub n q (home (key e)) < n
  path : ∀ q e, q < n → A q = some e → ∀ j, j < sub n q (home (key e)) → ∃ f, A (add n (home (key e)) j) = some f
def Stop (A : Tab E) (k : K) (q : Nat) : Prop := A q = none ∨ ∃ e, A q = some e ∧ key e = k
structure Ends (A : Tab E) (k : K) (j : Nat) : Prop where
  lt : j < n
  stop : Stop key A k (add n (home k) j)
  no : ∀ i, i < j → ¬ Stop key A k (add n (home k) i)
def Absent (A : Tab E) (k : K) : Prop := ∀ q e, q < n → A q = some e → key e ≠ k
variable {n key home} (hh : ∀ k, home k < n)
theorem Ends.uniq {A : Tab E} {k : K} {i j : Nat} (h1 : Ends n key home A k i) (h2 : Ends n key home A k j) : i = j := by
  rcases Nat.lt_trichotomy i j with h | h | h
  · exact (h2.no i h h1.stop).elim
  · exact h
  · exact (h1.no j h h2.stop).elim
include hh
theorem Inv.ends {A : Tab E} {b q : Nat} {e : E} (h : Inv n key home A b) (hq : q < n) (he : A q = some e) : Ends n key home A (key e) (sub n q (home (key e))) := by
  have hk := hh (key e)
  refine ⟨sub_lt hq hk, .inr ⟨e, by rw [add_sub hq hk]; exact he, rfl⟩, fun i hi hs => ?_⟩
  obtain ⟨f, hf⟩ := h.path q e hq he i hi
  have hi' : i < n := Nat.lt_trans hi (sub_lt hq hk)
  rcases hs with h0 | ⟨f', hf', hkf⟩
  · rw [hf] at h0; cases h0
  · have := h.one _ _ _ _ (add_lt hk (Nat.le_of_lt hi')) hq hf' he hkf
    have e2 := sub_add hk hi'
    rw [this] at e2
    omega
theorem Inv.absent {A : Tab E} {b j : Nat} {k : K} (h : Inv n key home A b) (hj : Ends n key home A k j) (hn : A (add n (home k) j) = none) : Absent n key A k := fun q e hq he hk => by
  subst hk
  have h2 := h.ends hh hq he
  rw [hj.uniq h2, add_sub hq (hh _), he] at hn
  cases hn
omit hh in
theorem Ends.has {A : Tab E} {j : Nat} {k : K} {e : E} (hj : Ends n key home A k j) (he : A (add n (home k) j) = some e) : key e = k := by
  rcases hj.stop with h | ⟨f, hf, hk⟩
  · rw [he] at h; cases h
  · rw [he] at hf; injection hf with hf; subst hf; exact hk
theorem Absent.ends {A : Tab E} {k : K} {j : Nat} (h : Absent n key A k) (hj : Ends n key home A k j) : A (add n (home k) j) = none := by
  rcases hj.stop with h0 | ⟨f, hf, hk⟩
  · exact h0
  · exact (h _ _ (add_lt (hh k) (Nat.le_of_lt hj.lt)) hf hk).elim
omit hh in
theorem ends_or {A : Tab E} (k : K) : (∃ j, Ends n key home A k j) ∨ ∀ i, i < n → ¬ Stop key A k (add n (home k) i) := by
  have : ∀ m, m ≤ n → (∃ j, Ends n key home A k j) ∨ ∀ i, i < m → ¬ Stop key A k (add n (home k) i) := by
    intro m
    induction m with
    | zero => intro _; exact .inr fun i hi => by omega
    | succ m ih =>
      intro hm
      rcases ih (by omega) with h | h
      · exact .inl h
      · by_cases hs : Stop key A k (add n (home k) m)
        · exact .inl ⟨m, by omega, hs, h⟩
        · refine .inr fun i hi => ?_
          rcases Nat.lt_succ_iff_lt_or_eq.1 hi with h1 | h1
          · exact h i h1
          · subst h1; exact hs
  exact this n (Nat.le_refl _)
theorem no_ends {A : Tab E} {k : K} (h : ∀ i, i < n → ¬ Stop key A k (add n (home k) i)) : Absent n key A k ∧ ∀ q, q < n → A q ≠ none := by
  refine ⟨fun q e hq he hk => ?_, fun q hq h0 => ?_⟩
  · exact h (sub n q (home k)) (sub_lt hq (hh k)) (.inr ⟨e, by rw [add_sub hq (hh k)]; exact he, hk⟩)
  · exact h (sub n q (home k)) (sub_lt hq (hh k)) (.inl (by rw [add_sub hq (hh k)]; exact h0))
omit hh in
theorem off_path {x h q : Nat} (hx : x < n) (hk : h < n) (hq : q < n) (hne : ∀ j, j ≤ sub n q h → add n h j ≠ x) : sub n h (add n x 1) + sub n q h < n := by
  have h1 : sub n q h < sub n x h := Classical.byContradiction fun hc => hne (sub n x h) (by omega) (add_sub hx hk)
  revert h1
  unfold add sub
  intro h1
  split at h1 <;> split at h1 <;> split <;> split <;> omega
theorem Inv.recut {A : Tab E} {b x : Nat} (h : Inv n key home A b) (hx : x < n) (hn : A x = none) : Inv n key home A (add n x 1) := by
  refine ⟨add_lt hx (by omega), h.one, fun q e hq he => off_path hx (hh _) hq fun j hj e1 => ?_, h.path⟩
  rcases Nat.lt_or_ge j (sub n q (home (key e))) with hl | hl
  · obtain ⟨f, hf⟩ := h.path q e hq he j hl
    rw [e1, hn] at hf; cases hf
  · have : j = sub n q (home (key e)) := by omega
    subst this
    rw [add_sub hq (hh _)] at e1
    subst e1
    rw [he] at hn; cases hn
end
section
variable {E K : Type} {n : Nat} {key : E → K} {home : K → Nat} (hh : ∀ k, home k < n)
def upd (A : Tab E) (q : Nat) (e : E) : Tab E := fun p => if p = q then some e else A p
def clr (A : Tab E) (q : Nat) : Tab E := fun p => if p = q then none else A p
theorem upd_at {A : Tab E} {q : Nat} {e : E} : upd A q e q = some e := by simp [upd]
theorem upd_ne {A : Tab E} {p q : Nat} {e : E} (h : p ≠ q) : upd A q e p = A p := by simp [upd, h]
theorem clr_at {A : Tab E} {q : Nat} : clr A q q = none := by simp [clr]
theorem clr_ne {A : Tab E} {p q : Nat} (h : p ≠ q) : clr A q p = A p := by simp [clr, h]
theorem upd_clr {A : Tab E} {q : Nat} {e : E} (h : A q = some e) : upd (clr A q) q e = A := by
  funext p
  by_cases hp : p = q
  · subst hp; rw [upd_at, h]
  · rw [upd_ne hp, clr_ne hp]
include hh
theorem Inv.put {A : Tab E} {b j : Nat} {e : E} (h : Inv n key home A b) (ha : Absent n key A (key e)) (hj : Ends n key home A (key e) j) : Inv n key home (upd A (add n (home (key e)) j) e) (add n (add n (home (key e)) j) 1) := by
  have hk := hh (key e)
  have hq : add n (home (key e)) j < n := add_lt hk (Nat.le_of_lt hj.lt)
  have hn := ha.ends hh hj
  have hr := h.recut hh hq hn
  refine ⟨hr.lt, fun p q f g hp hq' hf hg hfg => ?_, fun q f hq' hf => ?_, fun q f hq' hf i hi => ?_⟩
  · by_cases h1 : p = add n (home (key e)) j <;> by_cases h2 : q = add n (home (key e)) j
    · omega
    · subst h1; rw [upd_at] at hf; injection hf with hf; subst hf; rw [upd_ne h2] at hg
      exact (ha q g hq' hg hfg.symm).elim
    · subst h2; rw [upd_at] at hg; injection hg with hg; subst hg; rw [upd_ne h1] at hf
      exact (ha p f hp hf hfg).elim
    · rw [upd_ne h1] at hf; rw [upd_ne h2] at hg
      exact h.one _ _ _ _ hp hq' hf hg hfg
  · by_cases h1 : q = add n (home (key e)) j
    · subst h1; rw [upd_at] at hf; injection hf with hf; subst hf
      rw [sub_add hk hj.lt]
      have hjl := hj.lt
      unfold sub add
      split <;> split <;> split <;> omega
    · rw [upd_ne h1] at hf
      exact hr.cut q f hq' hf
  · by_cases h1 : q = add n (home (key e)) j
    · subst h1; rw [upd_at] at hf; injection hf with hf; subst hf
      rw [sub_add hk hj.lt] at hi
      have hs := hj.no i hi
      cases hA : A (add n (home (key e)) i) with
      | none => exact (hs (.inl hA)).elim
      | some g =>
        by_cases h2 : add n (home (key e)) i = add n (home (key e)) j
        · exact ⟨e, by rw [h2]; exact upd_at⟩
        · exact ⟨g, by rw [upd_ne h2]; exact hA⟩
    · rw [upd_ne h1] at hf
      obtain ⟨g, hg⟩ := hr.path q f hq' hf i hi
      by_cases h2 : add n (home (key f)) i = add n (home (key e)) j
      · exact ⟨e, by rw [h2]; exact upd_at⟩
      · exact ⟨g, by rw [upd_ne h2]; exact hg⟩
omit hh in
theorem Inv.over {A : Tab E} {b q : Nat} {e f : E} (h : Inv n key home A b) (hq : q < n) (he : A q = some e) (hk : key f = key e) : Inv n key home (upd A q f) b := by
  have get : ∀ p g, upd A q f p = some g → ∃ g', A p = some g' ∧ key g' = key g := fun p g hg => by
    by_cases hp : p = q
    · subst hp; rw [upd_at] at hg; injection hg with hg; subst hg; exact ⟨e, he, hk.symm⟩
    · rw [upd_ne hp] at hg; exact ⟨g, hg, rfl⟩
  refine ⟨h.lt, fun p r g1 g2 hp hr h1 h2 h3 => ?_, fun r g hr hg => ?_, fun r g hr hg j hj => ?_⟩
  · obtain ⟨g1', a1, b1⟩ := get p g1 h1
    obtain ⟨g2', a2, b2⟩ := get r g2 h2
    exact h.one _ _ _ _ hp hr a1 a2 (by rw [b1, b2, h3])
  · obtain ⟨g', a1, b1⟩ := get r g hg
    have := h.cut r g' hr a1
    rwa [b1] at this
  · obtain ⟨g', a1, b1⟩ := get r g hg
    have := h.path r g' hr a1 j (by rw [b1]; exact hj)
    rw [b1] at this
    obtain ⟨f', hf'⟩ := this
    by_cases h2 : add n (home (key g)) j = q
    · exact ⟨f, by rw [h2]; exact upd_at⟩
    · exact ⟨f', by rw [upd_ne h2]; exact hf'⟩
structure Del (n : Nat) (key : E → K) (home : K → Nat) (A : Tab E) (b i : Nat) : Prop where
  lt : b < n
  one : ∀ p q e f, p < n → q < n → A p = some e → A q = some f → key e = key f → p = q
  cut : ∀ q e, q < n → A q = some e → sub n (home (key e)) b + sub n q (home (key e)) < n
  old : ∀ q e, q < n → A q = some e → sub n q b < i → ∀ j, j < sub n q (home (key e)) → ∃ f, A (add n (home (key e)) j) = some f
  new : ∀ q e, q < n → A q = some e → i ≤ sub n q b → ∀ j, j < sub n q (home (key e)) → i ≤ sub n (home (key e)) b + j → ∃ f, A (add n (home (key e)) j) = some f
theorem Inv.del {A : Tab E} {b a : Nat} (h : Inv n key home A b) (ha : a < n) : Del n key home (clr A a) b (sub n a b + 1) := by
  have get : ∀ q e, clr A a q = some e → q ≠ a ∧ A q = some e := fun q e he => by
    by_cases hq : q = a
    · subst hq; rw [clr_at] at he; cases he
    · exact ⟨hq, by rwa [clr_ne hq] at he⟩
  refine ⟨h.lt, fun p q e f hp hq he hf => h.one p q e f hp hq (get p e he).2 (get q f hf).2, fun q e hq he => h.cut q e hq (get q e he).2, fun q e hq he hl j hj => ?_, fun q e hq he hl j hj hi => ?_⟩
  · obtain ⟨h1, h2⟩ := get q e he
    obtain ⟨f, hf⟩ := h.path q e hq h2 j hj
    have hc := h.cut q e hq h2
    have l1 := lin_path h.lt (hh _) hq hc
    have l2 := lin_add (j := j) h.lt (hh (key e)) (by omega)
    have hne : add n (home (key e)) j ≠ a := fun e1 => by rw [e1] at l2; omega
    exact ⟨f, by rw [clr_ne hne]; exact hf⟩
  · obtain ⟨h1, h2⟩ := get q e he
    obtain ⟨f, hf⟩ := h.path q e hq h2 j hj
    have hc := h.cut q e hq h2
    have l2 := lin_add (j := j) h.lt (hh (key e)) (by omega)
    have hne : add n (home (key e)) j ≠ a := fun e1 => by rw [e1] at l2; omega
    exact ⟨f, by rw [clr_ne hne]; exact hf⟩
omit hh in
theorem Del.done {A : Tab E} {b i : Nat} (h : Del n key home A b i) (hi : i = n) : Inv n key home A b := by
  subst hi
  exact ⟨h.lt, h.one, h.cut, fun q e hq he => h.old q e hq he (sub_lt hq h.lt)⟩
theorem Del.free {A : Tab E} {b i : Nat} (h : Del n key home A b i) (hi : i < n) (hn : A (add n b i) = none) : Inv n key home A b := by
  refine ⟨h.lt, h.one, h.cut, fun q e hq he j hj => ?_⟩
  rcases Nat.lt_or_ge (sub n q b) i with hl | hl
  · exact h.old q e hq he hl j hj
  · have hc := h.cut q e hq he
    have l1 := lin_path h.lt (hh _) hq hc
    by_cases hs : i ≤ sub n (home (key e)) b
    · exact h.new q e hq he hl j hj (by omega)
    · exfalso
      have hli := sub_add h.lt hi
      by_cases hqi : sub n q b = i
      · have : q = add n b i := by rw [← hqi, add_sub hq h.lt]
        rw [this, hn] at he; cases he
      · obtain ⟨f, hf⟩ := h.new q e hq he hl (i - sub n (home (key e)) b) (by omega) (by omega)
        have l2 := lin_add (j := i - sub n (home (key e)) b) h.lt (hh (key e)) (by omega)
        have : add n (home (key e)) (i - sub n (home (key e)) b) = add n b i := by
          have h3 := add_sub (add_lt (hh (key e)) (show i - sub n (home (key e)) b ≤ n by omega)) h.lt
          rw [← h3, l2]
          congr 1; omega
        rw [this, hn] at hf; cases hf
theorem Del.step {A : Tab E} {b i : Nat} {x : E} (h : Del n key home A b i) (hi : i < n) (hx : A (add n b i) = some x) :
    ∃ j, Ends n key home (clr A (add n b i)) (key x) j ∧ clr A (add n b i) (add n (home (key x)) j) = none ∧ j ≤ sub n (add n b i) (home (key x)) ∧ Del n key home (upd (clr A (add n b i)) (add n (home (key x)) j) x) b (i + 1) := by
  have hp : add n b i < n := add_lt h.lt (Nat.le_of_lt hi)
  have hk := hh (key x)
  have hlp : sub n (add n b i) b = i := sub_add h.lt hi
  generalize hpe : add n b i = p at *
  have hc := h.cut p x hp hx
  have l1 := lin_path h.lt hk hp hc
  have habs : Absent n key (clr A p) (key x) := fun q e hq he hke => by
    by_cases hqp : q = p
    · subst hqp; rw [clr_at] at he; cases he
    · rw [clr_ne hqp] at he
      exact hqp (h.one _ _ _ _ hq hp he hx hke)
  obtain ⟨j, hj⟩ : ∃ j, Ends n key home (clr A p) (key x) j := by
    rcases ends_or (n := n) (key := key) (home := home) (A := clr A p) (key x) with h1 | h1
    · exact h1
    · exact (h1 (sub n p (home (key x))) (sub_lt hp hk) (.inl (by rw [add_sub hp hk]; exact clr_at))).elim
  have hjl : j ≤ sub n p (home (key x)) := Classical.byContradiction fun hc => hj.no (sub n p (home (key x))) (by omega) (.inl (by rw [add_sub hp hk]; exact clr_at))
  have hfree := habs.ends hh hj
  have hq0 : add n (home (key x)) j < n := add_lt hk (Nat.le_of_lt hj.lt)
  have lq0 : sub n (add n (home (key x)) j) b = sub n (home (key x)) b + j := lin_add h.lt hk (by omega)
  refine ⟨j, hj, hfree, hjl, ?_⟩
  generalize hqe : add n (home (key x)) j = q0 at *
  have used : ∀ q f, q ≠ p → A q = some f → ∃ g, upd (clr A p) q0 x q = some g := fun q f h1 h2 => by
    by_cases h3 : q = q0
    · exact ⟨x, by rw [h3]; exact upd_at⟩
    · exact ⟨f, by rw [upd_ne h3, clr_ne h1]; exact h2⟩
  have get : ∀ q e, upd (clr A p) q0 x q = some e → (q = q0 ∧ e = x) ∨ (q ≠ q0 ∧ q ≠ p ∧ A q = some e) := fun q e he => by
    by_cases h3 : q = q0
    · subst h3; rw [upd_at] at he; injection he with he; exact .inl ⟨rfl, he.symm⟩
    · rw [upd_ne h3] at he
      by_cases h4 : q = p
      · subst h4; rw [clr_at] at he; cases he
      · rw [clr_ne h4] at he; exact .inr ⟨h3, h4, he⟩
  refine ⟨h.lt, fun q r e f hq hr he hf hef => ?_, fun q e hq he => ?_, fun q e hq he hl i' hi' => ?_, fun q e hq he hl i' hi' hii => ?_⟩
  · rcases get q e he with ⟨rfl, rfl⟩ | ⟨a1, a2, a3⟩ <;> rcases get r f hf with ⟨rfl, rfl⟩ | ⟨b1, b2, b3⟩
    · rfl
    · exact (b2 (h.one _ _ _ _ hr hp b3 hx hef.symm)).elim
    · exact (a2 (h.one _ _ _ _ hq hp a3 hx hef)).elim
    · exact h.one _ _ _ _ hq hr a3 b3 hef
  · rcases get q e he with ⟨rfl, rfl⟩ | ⟨a1, a2, a3⟩
    · rw [← hqe, sub_add hk hj.lt]; omega
    · exact h.cut q e hq a3
  · rcases get q e he with ⟨rfl, rfl⟩ | ⟨a1, a2, a3⟩
    · rw [← hqe, sub_add hk hj.lt] at hi'
      have hs := hj.no i' hi'
      cases hA : clr A p (add n (home (key e)) i') with
      | none => exact (hs (.inl hA)).elim
      | some g =>
        by_cases h3 : add n (home (key e)) i' = q
        · exact ⟨e, by rw [h3]; exact upd_at⟩
        · exact ⟨g, by rw [upd_ne h3]; exact hA⟩
    · have hc2 := h.cut q e hq a3
      have l3 := lin_path h.lt (hh (key e)) hq hc2
      have hqi : sub n q b < i := by
        rcases Nat.lt_or_ge (sub n q b) i with h5 | h5
        · exact h5
        · have h6 : sub n q b = i := by omega
          exact (a2 (by rw [← add_sub hq h.lt, h6, hpe])).elim
      obtain ⟨f, hf⟩ := h.old q e hq a3 hqi i' hi'
      refine used _ f (fun e1 => ?_) hf
      have l2 := lin_add (j := i') h.lt (hh (key e)) (by omega)
      rw [e1, hlp] at l2
      omega
  · rcases get q e he with ⟨rfl, rfl⟩ | ⟨a1, a2, a3⟩
    · rw [lq0] at hl
      omega
    · have hc2 := h.cut q e hq a3
      obtain ⟨f, hf⟩ := h.new q e hq a3 (by omega) i' hi' (by omega)
      refine used _ f (fun e1 => ?_) hf
      have l2 := lin_add (j := i') h.lt (hh (key e)) (by omega)
      rw [e1, hlp] at l2
      omega
theorem Inv.again {A : Tab E} {b p : Nat} {x : E} (h : Inv n key home A b) (hp : p < n) (hx : A p = some x) : Ends n key home (clr A p) (key x) (sub n p (home (key x))) := by
  have hk := hh (key x)
  refine ⟨sub_lt hp hk, .inl (by rw [add_sub hp hk]; exact clr_at), fun i hi hs => ?_⟩
  obtain ⟨f, hf⟩ := h.path p x hp hx i hi
  have hi' : i < n := Nat.lt_trans hi (sub_lt hp hk)
  have hne : add n (home (key x)) i ≠ p := fun e1 => by
    have := sub_add hk hi'
    rw [e1] at this; omega
  rcases hs with h0 | ⟨g, hg, hkg⟩
  · rw [clr_ne hne, hf] at h0; cases h0
  · rw [clr_ne hne] at hg
    exact hne (h.one _ _ _ _ (add_lt hk (Nat.le_of_lt hi')) hp hg hx hkg)
end
end Go.Ox.Ring
