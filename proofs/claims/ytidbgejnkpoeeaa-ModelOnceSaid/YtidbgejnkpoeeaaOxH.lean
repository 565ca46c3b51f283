/- A plain library: an argument of a statement is opened to what the walks ask of it. No program is named here. -/
import Derived.Test.YtidbgejnkpoeeaaOxS
import Derived.WalkKit
import Derived.ProofKit
import Derived.OpenShut
import Derived.ShutString
import Derived.ChangeOld
import Derived.Below
set_option linter.unusedVariables false
namespace Go.Ox
open Go Go.ChangeShapes Go.WideShapes Go.ChangeAt Go.RowKit
section
variable {H : Type} {en : TypeId × Value → H} {P : Program} {w : World} {base : Nat} {spare : Nat → Bool} {held : Bool}
theorem cell_lt {a : Addr} {v : Value} (h : w.cell? a = some v) : a.block < w.heap.size := by
  unfold World.cell? at h
  by_cases hb : a.block < w.heap.size
  · exact hb
  · rw [Array.getElem?_eq_none (by omega)] at h; cases h
theorem add_add' (a : Addr) (i j : Nat) : (a.add i).add j = a.add (i + j) := by
  unfold Addr.add
  by_cases hi : i = 0 <;> by_cases hj : j = 0 <;> simp [hi, hj, Nat.add_assoc]
/-- Cells that are so at every step of s make one row. -/
theorem cs_rows {α : Type} {enc : α → List Value} {s : Nat} (ad : Addr) : ∀ (m : Nat) (o : Nat) (Φ : α → Prop), (∀ i, i < m → ∃ x, (enc x).length = s ∧ Φ x ∧ Cs w (ad.add ((o + i) * s)) (enc x)) →
    ∃ xs : List α, xs.length = m ∧ (∀ x ∈ xs, Φ x ∧ (enc x).length = s) ∧ Cs w (ad.add (o * s)) (xs.flatMap enc)
  | 0, o, Φ, h => ⟨[], rfl, (fun x hx => by cases hx), (fun j u hj => by simp at hj)⟩
  | m + 1, o, Φ, h => by
    obtain ⟨x, hl, hp, hc⟩ := h 0 (by omega)
    obtain ⟨xs, h1, h2, h3⟩ := cs_rows ad m (o + 1) Φ (fun i hi => by
      have := h (i + 1) (by omega)
      rwa [show o + (i + 1) = o + 1 + i by omega] at this)
    refine ⟨x :: xs, by simp [h1], fun y hy => ?_, fun j u hj => ?_⟩
    · rcases List.mem_cons.1 hy with rfl | hy
      · exact ⟨hp, hl⟩
      · exact h2 y hy
    · simp only [List.flatMap_cons] at hj
      by_cases hjs : j < s
      · rw [List.getElem?_append_left (by omega)] at hj
        simpa using hc j u hj
      · rw [List.getElem?_append_right (by omega), hl] at hj
        have := h3 (j - s) u hj
        rw [add_add'] at this ⊢
        rwa [show (o + 1) * s + (j - s) = o * s + j by rw [Nat.add_mul]; omega] at this
/-- A slice whose elements are opened by 'hel'. -/
theorem op_slice {α : Type} {enc : α → List Value} {Φ : α → Prop} {t e : TypeId} {s fuel : Nat} {A : Option Addr} {n c : Nat} {x : DataW H × List MemPlace} (ht : P.underlying t = some (.slice e)) (hs : P.cellsOf e = s) (hs0 : 0 < s)
    (hel : ∀ (f : Nat) (cs : List Value) (y : DataW H × List MemPlace), DataW.trod en P w base spare held f e cs = some y → ∃ a, cs = enc a ∧ Φ a)
    (h : DataW.trod en P w base spare held fuel t [.slice A n c] = some x) : ∃ xs : List α, n = xs.length ∧ Rd w A c s xs.length (xs.flatMap enc) ∧ ∀ a ∈ xs, Φ a := by
  rcases DataW.trod_slice ht h with ⟨h0, _⟩ | ⟨a, len, cap, elems, rest, m, _, hcs, _, hb, hl, hm, hlen, hat, _, _⟩
  · simp at h0
    obtain ⟨rfl, rfl, rfl⟩ := h0
    exact ⟨[], rfl, Rd.nilr, fun a ha => by cases ha⟩
  · simp at hcs
    obtain ⟨rfl, rfl, rfl⟩ := hcs
    have key : ∀ i, i < n → ∃ x, (enc x).length = s ∧ Φ x ∧ Cs w (a.add ((0 + i) * s)) (enc x) := by
      intro i hi
      have h1 := hat i hi
      rw [hs, List.getElem?_eq_getElem (by omega)] at h1
      obtain ⟨cs, hc, ht'⟩ := Option.bind_eq_some_iff.1 h1
      obtain ⟨_, hcl, hca⟩ := World.cells?_some hc
      obtain ⟨y, rfl, hp⟩ := hel _ _ _ ht'
      refine ⟨y, hcl, hp, fun j u hj => ?_⟩
      have hjl := (List.getElem?_eq_some_iff.1 hj).1
      rw [Nat.zero_add, hca j (by omega)]; exact hj
    obtain ⟨xs, hxl, hxp, hxc⟩ := cs_rows a n 0 Φ key
    subst hxl
    rw [Nat.zero_mul, Addr.add_zero'] at hxc
    refine ⟨xs, rfl, ⟨?_, hl, hm, fun hn => ?_, fun h => by cases h⟩, fun y hy => (hxp y hy).1⟩
    · have : ∀ (l : List α), (∀ x ∈ l, Φ x ∧ (enc x).length = s) → (l.flatMap enc).length = l.length * s := by
        intro l
        induction l with
        | nil => intro _; simp
        | cons y l ih =>
          intro hy
          have h1 := (hy y (by simp)).2
          have h2 := ih (fun z hz => hy z (by simp [hz]))
          simp only [List.flatMap_cons, List.length_append, List.length_cons, h1, h2, Nat.add_mul]; omega
      exact this xs hxp
    · refine ⟨a, rfl, ?_, hxc⟩
      cases xs with
      | nil => simp at hn
      | cons y ys =>
        have h1 := (hxp y (by simp)).2
        cases he : enc y with
        | nil => rw [he] at h1; simp at h1; omega
        | cons u r =>
          have hc2 : Cs w a (u :: (r ++ ys.flatMap enc)) := by simpa [List.flatMap_cons, he] using hxc
          exact cell_lt hc2.at0
theorem op_ints {t e : TypeId} {k : IntKind} {fuel : Nat} {A : Option Addr} {n c : Nat} {x : DataW H × List MemPlace} (ht : P.underlying t = some (.slice e)) (he : P.underlying e = some (.int k)) (hs : P.cellsOf e = 1)
    (h : DataW.trod en P w base spare held fuel t [.slice A n c] = some x) : ∃ xs : List Int, n = xs.length ∧ Rd w A c 1 xs.length (xs.flatMap (eI k)) ∧ ∀ a ∈ xs, (Lit.int k a).wf = true :=
  op_slice ht hs (by decide) (fun f cs y h => let ⟨m, h1, _, h3⟩ := DataW.trod_int he h; ⟨m, h1, h3⟩) h
theorem op_bools {t e : TypeId} {fuel : Nat} {A : Option Addr} {n c : Nat} {x : DataW H × List MemPlace} (ht : P.underlying t = some (.slice e)) (he : P.underlying e = some .bool) (hs : P.cellsOf e = 1)
    (h : DataW.trod en P w base spare held fuel t [.slice A n c] = some x) : ∃ xs : List Bool, n = xs.length ∧ Rd w A c 1 xs.length (xs.flatMap eB) :=
  let ⟨xs, h1, h2, _⟩ := op_slice (Φ := fun _ => True) ht hs (by decide) (fun f cs y h => let ⟨m, h1, _⟩ := DataW.trod_bool he h; ⟨m, h1, trivial⟩) h
  ⟨xs, h1, h2⟩
theorem op_strs {t e : TypeId} {fuel : Nat} {A : Option Addr} {n c : Nat} {x : DataW H × List MemPlace} (ht : P.underlying t = some (.slice e)) (he : P.underlying e = some .string) (hs : P.cellsOf e = 1)
    (h : DataW.trod en P w base spare held fuel t [.slice A n c] = some x) : ∃ xs : List ByteArray, n = xs.length ∧ Rd w A c 1 xs.length (xs.flatMap eS) ∧ ∀ a ∈ xs, a.size ≤ maxLen :=
  op_slice ht hs (by decide) (fun f cs y h => let ⟨m, h1, _, h3⟩ := DataW.trod_string he h; ⟨m, h1, h3⟩) h
theorem op_rows {t e q : TypeId} {k : IntKind} {fuel : Nat} {A : Option Addr} {n c : Nat} {x : DataW H × List MemPlace} (ht : P.underlying t = some (.slice e)) (he : P.underlying e = some (.slice q)) (hq : P.underlying q = some (.int k)) (hs : P.cellsOf e = 1) (hs2 : P.cellsOf q = 1)
    (h : DataW.trod en P w base spare held fuel t [.slice A n c] = some x) : ∃ xss : List (List Int), n = xss.length ∧ Rds [] w A c (eI k) 1 xss ∧ ∀ xs ∈ xss, ∀ a ∈ xs, (Lit.int k a).wf = true := by
  obtain ⟨vs, h1, h2, h3⟩ := op_slice (enc := fun v : Value => [v]) (Φ := fun v => ∃ (A' : Option Addr) (c' : Nat) (xs : List Int), v = .slice A' xs.length c' ∧ Rd w A' c' 1 xs.length (xs.flatMap (eI k)) ∧ ∀ a ∈ xs, (Lit.int k a).wf = true) ht hs (by decide)
    (fun f cs y h => by
      rcases DataW.trod_slice he h with ⟨h0, _⟩ | ⟨a, len, cap, elems, rest, m, _, hcs, _⟩
      · subst h0
        exact ⟨_, rfl, none, 0, [], rfl, Rd.nilr, fun a ha => by cases ha⟩
      · subst hcs
        obtain ⟨xs, e1, e2, e3⟩ := op_ints he hq hs2 h
        subst e1
        exact ⟨_, rfl, some a, cap, xs, rfl, e2, e3⟩) h
  have key : ∀ l : List Value, (∀ v ∈ l, ∃ (A' : Option Addr) (c' : Nat) (xs : List Int), v = .slice A' xs.length c' ∧ Rd w A' c' 1 xs.length (xs.flatMap (eI k)) ∧ ∀ a ∈ xs, (Lit.int k a).wf = true) →
      ∃ xss : List (List Int), xss.length = l.length ∧ (∀ xs ∈ xss, ∀ a ∈ xs, (Lit.int k a).wf = true) ∧ ∀ (i : Nat) (v : Value) (xs : List Int), l[i]? = some v → xss[i]? = some xs → ∃ A' c', v = .slice A' xs.length c' ∧ Rd w A' c' 1 xs.length (xs.flatMap (eI k)) ∧ Off [] xs.length A' := by
    intro l
    induction l with
    | nil => intro _; exact ⟨[], rfl, (fun _ h => by cases h), (fun i v xs h => by simp at h)⟩
    | cons v l ih =>
      intro hl
      obtain ⟨xss, k1, k2, k3⟩ := ih (fun u hu => hl u (by simp [hu]))
      obtain ⟨A', c', xs, e1, e2, e3⟩ := hl v (by simp)
      refine ⟨xs :: xss, by simp [k1], fun ys hy => ?_, fun i u ys hi hx => ?_⟩
      · rcases List.mem_cons.1 hy with rfl | hy
        · exact e3
        · exact k2 ys hy
      · cases i with
        | zero => simp at hi hx; subst hi; subst hx; exact ⟨A', c', e1, e2, Off.nil⟩
        | succ i => simp at hi hx; exact k3 i u ys hi hx
  obtain ⟨xss, k1, k2, k3⟩ := key vs h3
  refine ⟨xss, by rw [h1, k1], ⟨vs, k1.symm, ?_, Off.nil, k3⟩, k2⟩
  rw [k1]
  have : vs.flatMap (fun v : Value => [v]) = vs := by simp
  rwa [this] at h2
end
section
variable {H : Type}
/-- Whatever cells of type t are handed in, they are those of some value of α that Φ holds of. -/
def Opn (en : TypeId × Value → H) (P : Program) (w : World) (base : Nat) (spare : Nat → Bool) (held : Bool) (t : TypeId) {α : Type} (enc : α → List Value) (Φ : α → Prop) : Prop :=
  ∀ (f : Nat) (cs : List Value) (y : DataW H × List MemPlace), DataW.trod en P w base spare held f t cs = some y → ∃ a, cs = enc a ∧ Φ a
variable {en : TypeId × Value → H} {P : Program} {w : World} {base : Nat} {spare : Nat → Bool} {held : Bool}
theorem Opn.int {t : TypeId} {k : IntKind} (ht : P.underlying t = some (.int k)) : Opn en P w base spare held t (eI k) (fun n => (Lit.int k n).wf = true) := fun f cs y h =>
  let ⟨m, h1, _, h3⟩ := DataW.trod_int ht h; ⟨m, h1, h3⟩
theorem Opn.bool {t : TypeId} (ht : P.underlying t = some .bool) : Opn en P w base spare held t eB (fun _ => True) := fun f cs y h =>
  let ⟨m, h1, _⟩ := DataW.trod_bool ht h; ⟨m, h1, trivial⟩
theorem Opn.str {t : TypeId} (ht : P.underlying t = some .string) : Opn en P w base spare held t eS (fun _ => True) := fun f cs y h =>
  let ⟨m, h1, _⟩ := DataW.trod_string ht h; ⟨m, h1, trivial⟩
theorem Opn.arr {t e : TypeId} {n : Nat} {k : IntKind} (ht : P.underlying t = some (.array n e)) (he : P.underlying e = some (.int k)) (hs : P.cellsOf e = 1) (hc : P.cellsOf t = n) :
    Opn en P w base spare held t (arrC n k) (fun xs => xs.length = n ∧ ∀ x ∈ xs, (Lit.int k x).wf = true) := fun f cs y h => by
  obtain ⟨xs, m, _, _, hlen, hxl, hi⟩ := DataW.trod_array ht h
  rw [hs] at hi
  have key : ∀ i, i < n → ∃ z, cs[i]? = some (.int k z) ∧ (Lit.int k z).wf = true := fun i hin => by
    have h1 := hi i hin
    rw [List.getElem?_eq_getElem (by omega)] at h1
    obtain ⟨z, h2, _, h3⟩ := DataW.trod_int he h1
    refine ⟨z, ?_, h3⟩
    have h4 : ((cs.drop (i * 1)).take 1)[0]? = some (.int k z) := by rw [h2]; rfl
    simpa using h4
  have fam : ∀ (l : List Value) (o : Nat), (∀ i, i < l.length → ∃ z, l[i]? = some (.int k z) ∧ (Lit.int k z).wf = true) → ∃ zs : List Int, zs.length = l.length ∧ l = zs.map (fun z => .int k z) ∧ ∀ x ∈ zs, (Lit.int k x).wf = true := by
    intro l o
    induction l with
    | nil => intro _; exact ⟨[], rfl, rfl, fun x hx => by cases hx⟩
    | cons v l ih =>
      intro hv
      obtain ⟨z, h1, h2⟩ := hv 0 (by simp)
      obtain ⟨zs, h3, h4, h5⟩ := ih (fun i hil => by
        have := hv (i + 1) (by simp; omega)
        simpa using this)
      simp at h1
      refine ⟨z :: zs, by simp [h3], by rw [h1, h4]; rfl, fun x hx => ?_⟩
      rcases List.mem_cons.1 hx with rfl | hx
      · exact h2
      · exact h5 x hx
  have hcl : cs.length = n := by rw [hlen, hc]
  obtain ⟨zs, h1, h2, h3⟩ := fam cs 0 (fun i hil => key i (by omega))
  refine ⟨zs, ?_, by omega, h3⟩
  apply List.ext_getElem?
  intro i
  by_cases hin : i < n
  · rw [h2]
    have hz : i < zs.length := by omega
    simp [arrC, hin, hz, List.getD]
  · rw [List.getElem?_eq_none (by omega), List.getElem?_eq_none (by simp [arrC]; omega)]
/-- One field of a struct. -/
theorem opn_fld {t : TypeId} {fs : Array Field} {f : Nat} {cs : List Value} {y : DataW H × List MemPlace} (ht : P.underlying t = some (.struct fs)) (h : DataW.trod en P w base spare held f t cs = some y) :
    cs.length = P.cellsOf t ∧ ∀ (i o s : Nat) (ft : TypeId) {α : Type} (enc : α → List Value) (Φ : α → Prop), (fs[i]?.map fun g => (g.type, g.offset)) = some (ft, o) → P.cellsOf ft = s → Opn en P w base spare held ft enc Φ → ∃ a, (cs.drop o).take s = enc a ∧ Φ a := by
  obtain ⟨xs, m, _, _, hlen, hxl, hi⟩ := DataW.trod_struct ht h
  refine ⟨hlen, fun i o s ft {α} enc Φ hf hs hO => ?_⟩
  cases hg : fs[i]? with
  | none => rw [hg] at hf; cases hf
  | some g =>
    rw [hg] at hf
    simp at hf
    obtain ⟨rfl, rfl⟩ := hf
    have h1 := hi i g hg
    have hil : i < fs.size := (Array.getElem?_eq_some_iff.1 hg).1
    rw [List.getElem?_eq_getElem (by omega), hs] at h1
    exact hO _ _ _ h1
/-- A slice of numbers in a struct. -/
theorem Opn.sl {t e : TypeId} {k : IntKind} (ht : P.underlying t = some (.slice e)) (he : P.underlying e = some (.int k)) (hs : P.cellsOf e = 1) :
    Opn en P w base spare held t (fun y : Option Addr × Nat × List Int => [.slice y.1 y.2.2.length y.2.1]) (fun y => Rd w y.1 y.2.1 1 y.2.2.length (y.2.2.flatMap (eI k)) ∧ ∀ a ∈ y.2.2, (Lit.int k a).wf = true) := fun f cs y h => by
  rcases DataW.trod_slice ht h with ⟨h0, _⟩ | ⟨a, len, cap, elems, rest, m, _, hcs, _⟩
  · subst h0
    exact ⟨(none, 0, []), rfl, Rd.nilr, fun a ha => by cases ha⟩
  · subst hcs
    obtain ⟨xs, e1, e2, e3⟩ := op_ints ht he hs h
    subst e1
    exact ⟨(some a, cap, xs), rfl, e2, e3⟩
/-- Rows of structs that hold slices. -/
theorem op_rowsD {α : Type} {R : List (Option Nat) → World → α → List Value → Prop} {Φ : α → Prop} {t e : TypeId} {s fuel : Nat} {A : Option Addr} {n c : Nat} {x : DataW H × List MemPlace} (ht : P.underlying t = some (.slice e)) (hs : P.cellsOf e = s) (hs0 : 0 < s)
    (hl : ∀ x cs, R [] w x cs → cs.length = s) (hel : ∀ (f : Nat) (cs : List Value) (y : DataW H × List MemPlace), DataW.trod en P w base spare held f e cs = some y → ∃ a, R [] w a cs ∧ Φ a)
    (h : DataW.trod en P w base spare held fuel t [.slice A n c] = some x) : ∃ xs : List α, n = xs.length ∧ RdD R [] w A c s xs ∧ ∀ a ∈ xs, Φ a := by
  obtain ⟨css, h1, h2, h3⟩ := op_slice (enc := fun v : List Value => v) (Φ := fun v => ∃ a, R [] w a v ∧ Φ a) ht hs hs0 (fun f cs y h => ⟨cs, rfl, hel f cs y h⟩) h
  have key : ∀ l : List (List Value), (∀ v ∈ l, ∃ a, R [] w a v ∧ Φ a) → ∃ xs : List α, xs.length = l.length ∧ (∀ a ∈ xs, Φ a) ∧ ∀ (i : Nat) (cs : List Value) (x : α), l[i]? = some cs → xs[i]? = some x → R [] w x cs := by
    intro l
    induction l with
    | nil => intro _; exact ⟨[], rfl, (fun _ h => by cases h), (fun i v xs h => by simp at h)⟩
    | cons v l ih =>
      intro hv
      obtain ⟨xs, k1, k2, k3⟩ := ih (fun u hu => hv u (by simp [hu]))
      obtain ⟨a, e1, e2⟩ := hv v (by simp)
      refine ⟨a :: xs, by simp [k1], fun y hy => ?_, fun i u y hi hx => ?_⟩
      · rcases List.mem_cons.1 hy with rfl | hy
        · exact e2
        · exact k2 y hy
      · cases i with
        | zero => simp at hi hx; subst hi; subst hx; exact e1
        | succ i => simp at hi hx; exact k3 i u y hi hx
  obtain ⟨xs, k1, k2, k3⟩ := key css h3
  refine ⟨xs, by rw [h1, k1], ⟨css, k1.symm, fun cs hcs => ?_, ?_, Off.nil, k3⟩, k2⟩
  · obtain ⟨a, ha, _⟩ := h3 cs hcs
    exact hl a cs ha
  · rw [k1]
    have : css.flatMap (fun v : List Value => v) = css.flatten := by simp [List.flatMap]
    rwa [this] at h2
/-- A slice of structs that hold slices, in a struct. -/
theorem Opn.slD {α : Type} {R : List (Option Nat) → World → α → List Value → Prop} {Φ : α → Prop} {t e : TypeId} {s : Nat} (ht : P.underlying t = some (.slice e)) (hs : P.cellsOf e = s) (hs0 : 0 < s)
    (hl : ∀ x cs, R [] w x cs → cs.length = s) (hel : ∀ (f : Nat) (cs : List Value) (y : DataW H × List MemPlace), DataW.trod en P w base spare held f e cs = some y → ∃ a, R [] w a cs ∧ Φ a) :
    Opn en P w base spare held t (fun y : Option Addr × Nat × List α => [.slice y.1 y.2.2.length y.2.1]) (fun y => RdD R [] w y.1 y.2.1 s y.2.2 ∧ ∀ a ∈ y.2.2, Φ a) := fun f cs y h => by
  rcases DataW.trod_slice ht h with ⟨h0, _⟩ | ⟨a, len, cap, elems, rest, m, _, hcs, _⟩
  · subst h0
    exact ⟨(none, 0, []), rfl, RdD.nilr, fun a ha => by cases ha⟩
  · subst hcs
    obtain ⟨xs, e1, e2, e3⟩ := op_rowsD ht hs hs0 hl hel h
    subst e1
    exact ⟨(some a, cap, xs), rfl, e2, e3⟩
/-- A slice of structs without slices in them, within a struct. -/
theorem Opn.slF {α : Type} {enc : α → List Value} {Φ : α → Prop} {t e : TypeId} {s : Nat} (ht : P.underlying t = some (.slice e)) (hs : P.cellsOf e = s) (hs0 : 0 < s) (he : Opn en P w base spare held e enc Φ) :
    Opn en P w base spare held t (fun y : Option Addr × Nat × List α => [.slice y.1 y.2.2.length y.2.1]) (fun y => Rd w y.1 y.2.1 s y.2.2.length (y.2.2.flatMap enc) ∧ ∀ a ∈ y.2.2, Φ a) := fun f cs y h => by
  rcases DataW.trod_slice ht h with ⟨h0, _⟩ | ⟨a, len, cap, elems, rest, m, _, hcs, _⟩
  · subst h0
    exact ⟨(none, 0, []), rfl, Rd.nilr, fun a ha => by cases ha⟩
  · subst hcs
    obtain ⟨xs, e1, e2, e3⟩ := op_slice ht hs hs0 he h
    subst e1
    exact ⟨(some a, cap, xs), rfl, e2, e3⟩
theorem cut_drop {α : Type} {cs xs : List α} {o s : Nat} (h : (cs.drop o).take s = xs) : cs.drop o = xs ++ cs.drop (o + s) := by
  rw [← h, ← List.drop_drop, List.take_append_drop]
end
theorem wf_rng {k : IntKind} {n : Int} (h : (Lit.int k n).wf = true) : k.min ≤ n ∧ n ≤ k.max := by
  unfold Lit.wf at h
  simpa using h
theorem wf_u8 {n : Int} (h : (Lit.int .u8 n).wf = true) : 0 ≤ n ∧ n < 256 := by
  have h1 := wf_rng h
  have e1 : IntKind.u8.min = 0 := by decide
  have e2 : IntKind.u8.max = 255 := by decide
  omega
theorem wf_u16 {n : Int} (h : (Lit.int .u16 n).wf = true) : 0 ≤ n ∧ n < 65536 := by
  have h1 := wf_rng h
  have e1 : IntKind.u16.min = 0 := by decide
  have e2 : IntKind.u16.max = 65535 := by decide
  omega
theorem wf_u32 {n : Int} (h : (Lit.int .u32 n).wf = true) : 0 ≤ n ∧ n < 4294967296 := by
  have h1 := wf_rng h
  have e1 : IntKind.u32.min = 0 := by decide
  have e2 : IntKind.u32.max = 4294967295 := by decide
  omega
theorem wf_u64 {n : Int} (h : (Lit.int .u64 n).wf = true) : 0 ≤ n ∧ n < 18446744073709551616 := by
  have h1 := wf_rng h
  have e1 : IntKind.u64.min = 0 := by decide
  have e2 : IntKind.u64.max = 18446744073709551615 := by decide
  omega
theorem wf_i64 {n : Int} (h : (Lit.int .i64 n).wf = true) : -9223372036854775808 ≤ n ∧ n ≤ 9223372036854775807 := by
  have h1 := wf_rng h
  have e1 : IntKind.i64.min = -9223372036854775808 := by decide
  have e2 : IntKind.i64.max = 9223372036854775807 := by decide
  omega
end Go.Ox
