/- A plain library: objects that are taken together; rows of structs that hold rows of their own. No program is named here. -/
import Derived.Test.YtkpnocgfhipidaaGreatOxH
import Derived.Laws.IdiomStrings
set_option linter.unusedVariables false
namespace Go.Ox
open Go Go.RowKit
section
variable {F : Fence} {P : Program} {ops : Array Oper} {Q : Exit → Act → World → Prop} {rest : List Oper} {n d : Nat} {l l' : List (Nat × Value)} {w w0 w' : World} {L : List Ob} {S : List (Option Nat)}
variable {o : Op} {ty : TypeId} {pos : String} {after : Array Edge} {v : Value}
variable {x y z : Operand} {k k' k2 : IntKind} {p q : Int} {t t' e : TypeId} {A A2 : Option Addr} {s c c2 b m n1 : Nat}
variable {α : Type} {R : List (Option Nat) → World → α → List Value → Prop} {i j : Nat}
def Apart (a b : Ob) : Prop := ∀ g, a.has g → ¬ b.has g
inductive El3 (RO : α → List Value → List Ob → Prop) (s : Nat) : List α → List (List Value) → List Ob → Prop
  | nil : El3 RO s [] [] []
  | cons {x : α} {cs : List Value} {o1 o2 : List Ob} {xs : List α} {css : List (List Value)} : cs.length = s → RO x cs o1 → El3 RO s xs css o2 → El3 RO s (x :: xs) (cs :: css) (o1 ++ o2)
def Stand (os : List Ob) (Z : List Nat) (w : World) : Prop := (∀ o ∈ os, o.ok w ∧ ∀ g, o.has g → g ∈ Z) ∧ os.Pairwise Apart
def Els (RO : α → List Value → List Ob → Prop) (s : Nat) (xs : List α) (css : List (List Value)) (Z : List Nat) (w : World) : Prop := ∃ os, El3 RO s xs css os ∧ Stand os Z w
def Un (R : List (Option Nat) → World → α → List Value → Prop) (RO : α → List Value → List Ob → Prop) : Prop :=
  ∀ S w x cs os, RO x cs os → (∀ (i : Nat) (o : Ob), os[i]? = some o → o.ok w ∧ ∀ g, o.has g → some g ∉ S) → R S w x cs
variable {RO : α → List Value → List Ob → Prop}
theorem El3.len {xs : List α} {css : List (List Value)} {os : List Ob} (h : El3 RO s xs css os) : css.length = xs.length ∧ ∀ cs ∈ css, cs.length = s := by
  induction h with
  | nil => exact ⟨rfl, by simp⟩
  | cons h1 _ _ ih =>
    refine ⟨by simp [ih.1], fun c hc => ?_⟩
    rcases List.mem_cons.1 hc with rfl | hc
    · exact h1
    · exact ih.2 c hc
theorem El3.app {xs ys : List α} {css cs2 : List (List Value)} {o1 o2 : List Ob} (h : El3 RO s xs css o1) (k : El3 RO s ys cs2 o2) : El3 RO s (xs ++ ys) (css ++ cs2) (o1 ++ o2) := by
  induction h with
  | nil => exact k
  | cons h1 h2 _ ih => rw [List.append_assoc]; exact .cons h1 h2 ih
theorem El3.split {xs : List α} {css : List (List Value)} {os : List Ob} (h : El3 RO s xs css os) : ∀ {i : Nat} {x : α} {cs : List Value}, xs[i]? = some x → css[i]? = some cs →
    ∃ xs1 xs2 css1 css2 o1 o o2, xs = xs1 ++ x :: xs2 ∧ css = css1 ++ cs :: css2 ∧ xs1.length = i ∧ css1.length = i ∧ cs.length = s ∧ RO x cs o ∧ El3 RO s xs1 css1 o1 ∧ El3 RO s xs2 css2 o2 ∧ os = o1 ++ (o ++ o2) := by
  induction h with
  | nil => intro i x cs h; simp at h
  | @cons x0 cs0 p1 p2 xs css h1 h2 h3 ih =>
    intro i x cs hx hc
    cases i with
    | zero =>
      simp at hx hc
      subst hx; subst hc
      exact ⟨[], xs, [], css, [], p1, p2, rfl, rfl, rfl, rfl, h1, h2, .nil, h3, rfl⟩
    | succ i =>
      obtain ⟨xs1, xs2, css1, css2, o1, o, o2, e1, e2, e3, e4, e5, e6, e7, e8, e9⟩ := ih (i := i) (by simpa using hx) (by simpa using hc)
      exact ⟨x0 :: xs1, xs2, cs0 :: css1, css2, p1 ++ o1, o, o2, by simp [e1], by simp [e2], by simp [e3], by simp [e4], e5, e6, .cons h1 h2 e7, e8, by simp [e9]⟩
theorem Els.nil {Z : List Nat} : Els RO s [] [] Z w := ⟨[], .nil, by simp, .nil⟩
theorem sep_pair {Ls : List Ob} (hs : ∀ (i j : Nat) (a b : Ob) (g : Nat), Ls[i]? = some a → Ls[j]? = some b → a.has g → b.has g → i = j) : Ls.Pairwise Apart :=
  List.pairwise_iff_getElem.2 fun i j hi hj hl g ha hb => by
    have := hs i j _ _ g (List.getElem?_eq_getElem hi) (List.getElem?_eq_getElem hj) ha hb
    omega
theorem Els.lit {xs : List α} {css : List (List Value)} {os Ls : List Ob} {Z : List Nat} (h : El3 RO s xs css os) (e : os = Ls) (ho : ∀ (i : Nat) (o : Ob), Ls[i]? = some o → o.ok w) (hz : ∀ (i : Nat) (o : Ob) (g : Nat), Ls[i]? = some o → o.has g → g ∈ Z)
    (hs : ∀ (i j : Nat) (a b : Ob) (g : Nat), Ls[i]? = some a → Ls[j]? = some b → a.has g → b.has g → i = j) : Els RO s xs css Z w := by
  subst e
  exact ⟨os, h, fun o hm => by obtain ⟨i, hi, rfl⟩ := List.getElem_of_mem hm; exact ⟨ho i _ (List.getElem?_eq_getElem hi), fun g hg => hz i _ g (List.getElem?_eq_getElem hi) hg⟩, sep_pair hs⟩
theorem Els.app {Z1 Z2 Z : List Nat} {xs ys : List α} {css cs2 : List (List Value)} (h : Els RO s xs css Z1 w) (k : Els RO s ys cs2 Z2 w) (h1 : ∀ g ∈ Z1, g ∈ Z) (h2 : ∀ g ∈ Z2, g ∈ Z) (hd : ∀ g ∈ Z1, ¬ g ∈ Z2) : Els RO s (xs ++ ys) (css ++ cs2) Z w := by
  obtain ⟨o1, a1, b1, c1⟩ := h
  obtain ⟨o2, a2, b2, c2⟩ := k
  refine ⟨o1 ++ o2, a1.app a2, fun o ho => ?_, List.pairwise_append.2 ⟨c1, c2, fun a ha b hb g hga hgb => hd g ((b1 a ha).2 g hga) ((b2 b hb).2 g hgb)⟩⟩
  rcases List.mem_append.1 ho with ho | ho
  · exact ⟨(b1 o ho).1, fun g hg => h1 g ((b1 o ho).2 g hg)⟩
  · exact ⟨(b2 o ho).1, fun g hg => h2 g ((b2 o ho).2 g hg)⟩
theorem Els.get {Z : List Nat} {xs : List α} {css : List (List Value)} (h : Els RO s xs css Z w) (hU : Un R RO) : css.length = xs.length ∧ (∀ cs ∈ css, cs.length = s) ∧ ∀ S : List (Option Nat), (∀ g ∈ Z, some g ∉ S) → ∀ (i : Nat) (cs : List Value) (x : α), css[i]? = some cs → xs[i]? = some x → R S w x cs := by
  obtain ⟨os, a1, b1, c1⟩ := h
  refine ⟨a1.len.1, a1.len.2, fun S hS i cs x hc hx => ?_⟩
  obtain ⟨xs1, xs2, css1, css2, o1, o, o2, e1, e2, e3, e4, e5, e6, e7, e8, e9⟩ := a1.split hx hc
  refine hU S w x cs o e6 fun i u hu => ?_
  have := b1 u (by rw [e9]; simp [List.mem_of_getElem? hu])
  exact ⟨this.1, fun g hg => hS g (this.2 g hg)⟩
theorem Apart.symm {a b : Ob} (h : Apart a b) : Apart b a := fun g hb ha => h g ha hb
theorem Mem.refine {a : Ob} {Lr Ls : List Ob} (h : Mem w0 S w L) (hj : L[j]? = some a) (ks : List Nat) (hk : sel L ks = some Lr) (hnd : ks.Nodup) (hd : ks.contains j = false) (hok : ∀ o ∈ Ls, o.ok w) (hb : ∀ o ∈ Ls, ∀ g, o.has g → a.has g) (hs : Ls.Pairwise Apart) : Mem w0 S w (Lr ++ Ls) := by
  have hr := h.pick ks hk hnd
  have key : ∀ (i : Nat) (x : Ob) (g : Nat), Lr[i]? = some x → x.has g → ¬ a.has g := fun i x g hi hx ha => by
    obtain ⟨k, h1, h2⟩ := (sel_get hk).2 i x hi
    have e := h.sep _ _ _ _ g h2 hj hx ha
    subst e
    simp only [List.contains_eq_mem, decide_eq_false_iff_not] at hd
    exact hd (List.mem_of_getElem? h1)
  refine ⟨h.chg, fun i u hi => ?_, fun i u g hi hg => ?_, fun i i' x y g hi hi' hx hy => ?_⟩
  · rcases get_app hi with ⟨_, h2⟩ | ⟨_, h2⟩
    · exact hr.ok i u h2
    · exact hok u (List.mem_of_getElem? h2)
  · rcases get_app hi with ⟨_, h2⟩ | ⟨_, h2⟩
    · exact hr.own i u g h2 hg
    · exact h.own j a g hj (hb u (List.mem_of_getElem? h2) g hg)
  · rcases get_app hi with ⟨h1, h2⟩ | ⟨h1, h2⟩ <;> rcases get_app hi' with ⟨h3, h4⟩ | ⟨h3, h4⟩
    · exact hr.sep i i' x y g h2 h4 hx hy
    · exact (key i x g h2 hx (hb y (List.mem_of_getElem? h4) g hy)).elim
    · exact (key i' y g h4 hy (hb x (List.mem_of_getElem? h2) g hx)).elim
    · obtain ⟨l1, e1⟩ := List.getElem?_eq_some_iff.1 h2
      obtain ⟨l2, e2⟩ := List.getElem?_eq_some_iff.1 h4
      have hp := List.pairwise_iff_getElem.1 hs
      rcases Nat.lt_trichotomy (i - Lr.length) (i' - Lr.length) with hl | hl | hl
      · exact (hp _ _ l1 l2 hl g (e1 ▸ hx) (e2 ▸ hy)).elim
      · omega
      · exact (hp _ _ l2 l1 hl g (e2 ▸ hy) (e1 ▸ hx)).elim
end
end Go.Ox

set_option linter.unusedVariables false
namespace Go.Ox
open Go Go.RowKit
section
variable {F : Fence} {P : Program} {ops : Array Oper} {Q : Exit → Act → World → Prop} {rest : List Oper} {n d : Nat} {l l' : List (Nat × Value)} {w w0 w' : World} {L : List Ob} {S : List (Option Nat)}
variable {o : Op} {ty : TypeId} {pos : String} {after : Array Edge} {v : Value}
variable {x y z : Operand} {k k' k2 : IntKind} {p q : Int} {t t' e : TypeId} {A A2 : Option Addr} {s c c2 b m n1 : Nat} {i j : Nat}
def gidxS (a : ByteArray) (i : Int) : Option Int := if 0 ≤ i then (a[i.toNat]?).map (fun b => (b.toNat : Int)) else none
theorem O.idxS {a : ByteArray} {u : Int} (ht : P.underlying t = some .string) (hg : gidxS a p = some u) (hx : ev l x = some (.string a)) (hy : ev l y = some (.int k p)) : OpV P (.index t x y) ty l w (.int .u8 u) := fun ρ hρ _ _ _ _ => by
  unfold gidxS at hg
  split at hg
  · rename_i h0
    obtain ⟨b, hb, rfl⟩ := Option.map_eq_some_iff.1 hg
    simp only [execOp, hρ x _ hx, hρ y _ hy]
    simp [Instr.index, asIntOf, run_underlying ht, h0, hb]
  · cases hg
end
end Go.Ox
