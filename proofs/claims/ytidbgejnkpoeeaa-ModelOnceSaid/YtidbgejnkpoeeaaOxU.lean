/- A plain library: objects that are taken together; rows of structs that hold rows of their own. No program is named here. -/
import Derived.Test.YtidbgejnkpoeeaaOxS
set_option linter.unusedVariables false
namespace Go.Ox
open Go Go.RowKit
section
variable {F : Fence} {P : Program} {ops : Array Oper} {Q : Exit → Act → World → Prop} {rest : List Oper} {n d : Nat} {l l' : List (Nat × Value)} {w w0 w' : World} {L : List Ob} {S : List (Option Nat)}
variable {o : Op} {ty : TypeId} {pos : String} {after : Array Edge} {v : Value}
variable {x y z : Operand} {k k' k2 : IntKind} {p q : Int} {t t' e : TypeId} {A A2 : Option Addr} {s c c2 b m n1 : Nat}
variable {α : Type} {R : List (Option Nat) → World → α → List Value → Prop} {i j : Nat}

/-- Objects are taken together: of them is known what φ says, as long as their blocks are as they are. -/
theorem Mem.glue {Ls Lr : List Ob} (h : Mem w0 S w L) (js ks : List Nat) (hj : sel L js = some Ls) (hk : sel L ks = some Lr) (hdk : ks.Nodup) (hd : (ks.all fun k => !js.contains k) = true) (φ : List Nat → World → Prop)
    (hφ : ∀ (Z : List Nat) (w1 : World), (∀ (i : Nat) (o : Ob), Ls[i]? = some o → o.ok w1) → (∀ (i : Nat) (o : Ob) (g : Nat), Ls[i]? = some o → o.has g → g ∈ Z) → φ Z w1) : ∃ Z, Mem w0 S w (Lr ++ [.res Z (φ Z)]) := by
  have hr := h.pick ks hk hdk
  obtain ⟨Z, hzi⟩ : ∃ Z : List Nat, ∀ g, g ∈ Z ↔ some g ∈ Ls.flatMap Ob.blks := ⟨(Ls.flatMap Ob.blks).filterMap id, fun g => by simp⟩
  have hof : ∀ g, g ∈ Z → ∃ (jj : Nat) (oo : Ob), jj ∈ js ∧ L[jj]? = some oo ∧ oo.has g := fun g hg => by
    obtain ⟨i, o, hi, hb⟩ := map_blk ((hzi g).1 hg)
    obtain ⟨jj, h1, h2⟩ := (sel_get hj).2 i o hi
    exact ⟨jj, o, List.mem_of_getElem? h1, h2, hb⟩
  have key : ∀ (i : Nat) (a : Ob) (g : Nat), Lr[i]? = some a → a.has g → ¬ g ∈ Z := fun i a g hi ha hg => by
    obtain ⟨jj, oo, h1, h2, h3⟩ := hof g hg
    obtain ⟨kk, h4, h5⟩ := (sel_get hk).2 i a hi
    have e := h.sep _ _ _ _ g h2 h5 h3 ha
    subst e
    have := List.all_eq_true.1 hd jj (List.mem_of_getElem? h4)
    simp only [Bool.not_eq_true', List.contains_eq_mem, decide_eq_false_iff_not] at this
    exact this h1
  refine ⟨Z, h.chg, fun i u hi => ?_, fun i u g hi hg => ?_, fun i i' a b g hi hi' ha hb => ?_⟩
  · rcases get_app hi with ⟨_, h2⟩ | ⟨_, h2⟩
    · exact hr.ok i u h2
    · obtain ⟨rfl⟩ : u = .res Z (φ Z) := by
        cases hh : i - Lr.length with
        | zero => rw [hh] at h2; simpa using h2.symm
        | succ n => rw [hh] at h2; simp at h2
      refine ⟨fun g hg => ?_, fun w1 h1 => hφ _ w1 (fun i o hi => ?_) fun i o g hi hg => (hzi g).2 (List.mem_flatMap.2 ⟨o, List.mem_of_getElem? hi, hg⟩)⟩
      · obtain ⟨jj, oo, _, h2, h3⟩ := hof g hg
        exact h.lt h2 h3
      · obtain ⟨jj, _, h2⟩ := (sel_get hj).2 i o hi
        exact Ob.ok_keep (h.ok jj o h2) fun g hg => h1 g ((hzi g).2 (List.mem_flatMap.2 ⟨o, List.mem_of_getElem? hi, hg⟩))
  · rcases get_app hi with ⟨_, h2⟩ | ⟨_, h2⟩
    · exact hr.own i u g h2 hg
    · obtain ⟨rfl⟩ : u = .res Z (φ Z) := by
        cases hh : i - Lr.length with
        | zero => rw [hh] at h2; simpa using h2.symm
        | succ n => rw [hh] at h2; simp at h2
      obtain ⟨jj, oo, _, h2, h3⟩ := hof g (Ob.has_res.1 hg)
      exact h.own jj oo g h2 h3
  · have one : ∀ (i : Nat) (a : Ob), Lr.length ≤ i → [Ob.res Z (φ Z)][i - Lr.length]? = some a → a = .res Z (φ Z) ∧ i = Lr.length := fun i a hle h2 => by
      cases hh : i - Lr.length with
      | zero => rw [hh] at h2; exact ⟨by simpa using h2.symm, by omega⟩
      | succ n => rw [hh] at h2; simp at h2
    rcases get_app hi with ⟨h1, h2⟩ | ⟨h1, h2⟩ <;> rcases get_app hi' with ⟨h3, h4⟩ | ⟨h3, h4⟩
    · exact hr.sep i i' a b g h2 h4 ha hb
    · obtain ⟨rfl, _⟩ := one i' b h3 h4
      exact (key i a g h2 ha (Ob.has_res.1 hb)).elim
    · obtain ⟨rfl, _⟩ := one i a h1 h2
      exact (key i' b g h4 hb (Ob.has_res.1 ha)).elim
    · obtain ⟨_, e1⟩ := one i a h1 h2
      obtain ⟨_, e2⟩ := one i' b h3 h4
      omega

/-! ### What the cells of a row of structs are -/
/-- No block is both of a and of b. -/
def Apart (a b : Ob) : Prop := ∀ g, a.has g → ¬ b.has g
/-- The cells css are the values xs; what they hold are the objects os, as RO tells. -/
inductive El3 (RO : α → List Value → List Ob → Prop) (s : Nat) : List α → List (List Value) → List Ob → Prop
  | nil : El3 RO s [] [] []
  | cons {x : α} {cs : List Value} {o1 o2 : List Ob} {xs : List α} {css : List (List Value)} : cs.length = s → RO x cs o1 → El3 RO s xs css o2 → El3 RO s (x :: xs) (cs :: css) (o1 ++ o2)
/-- What is known of objects: they stand, in the blocks Z, and lie apart. -/
def Stand (os : List Ob) (Z : List Nat) (w : World) : Prop := (∀ o ∈ os, o.ok w ∧ ∀ g, o.has g → g ∈ Z) ∧ os.Pairwise Apart
/-- The cells css are the values xs; what they hold are objects of their own in the blocks Z. -/
def Els (RO : α → List Value → List Ob → Prop) (s : Nat) (xs : List α) (css : List (List Value)) (Z : List Nat) (w : World) : Prop := ∃ os, El3 RO s xs css os ∧ Stand os Z w
/-- What RO tells of objects lets R read them. -/
def Un (R : List (Option Nat) → World → α → List Value → Prop) (RO : α → List Value → List Ob → Prop) : Prop :=
  ∀ S w x cs os, RO x cs os → (∀ (i : Nat) (o : Ob), os[i]? = some o → o.ok w ∧ ∀ g, o.has g → some g ∉ S) → R S w x cs
variable {RO : α → List Value → List Ob → Prop}
theorem El3.len {xs : List α} {css : List (List Value)} {os : List Ob} (h : El3 RO s xs css os) : css.length = xs.length ∧ ∀ cs ∈ css, cs.length = s := by
  induction h with
  | nil => exact ⟨rfl, by simp⟩
  | cons h1 _ _ ih =>
    refine ⟨by simp [ih.1], fun c hc => ?_⟩
    rcases List.mem_cons.1 hc with rfl | hc
    · exact h1
    · exact ih.2 c hc
theorem El3.app {xs ys : List α} {css cs2 : List (List Value)} {o1 o2 : List Ob} (h : El3 RO s xs css o1) (k : El3 RO s ys cs2 o2) : El3 RO s (xs ++ ys) (css ++ cs2) (o1 ++ o2) := by
  induction h with
  | nil => exact k
  | cons h1 h2 _ ih => rw [List.append_assoc]; exact .cons h1 h2 ih
theorem El3.split {xs : List α} {css : List (List Value)} {os : List Ob} (h : El3 RO s xs css os) : ∀ {i : Nat} {x : α} {cs : List Value}, xs[i]? = some x → css[i]? = some cs →
    ∃ xs1 xs2 css1 css2 o1 o o2, xs = xs1 ++ x :: xs2 ∧ css = css1 ++ cs :: css2 ∧ xs1.length = i ∧ css1.length = i ∧ cs.length = s ∧ RO x cs o ∧ El3 RO s xs1 css1 o1 ∧ El3 RO s xs2 css2 o2 ∧ os = o1 ++ (o ++ o2) := by
  induction h with
  | nil => intro i x cs h; simp at h
  | @cons x0 cs0 p1 p2 xs css h1 h2 h3 ih =>
    intro i x cs hx hc
    cases i with
    | zero =>
      simp at hx hc
      subst hx; subst hc
      exact ⟨[], xs, [], css, [], p1, p2, rfl, rfl, rfl, rfl, h1, h2, .nil, h3, rfl⟩
    | succ i =>
      obtain ⟨xs1, xs2, css1, css2, o1, o, o2, e1, e2, e3, e4, e5, e6, e7, e8, e9⟩ := ih (i := i) (by simpa using hx) (by simpa using hc)
      exact ⟨x0 :: xs1, xs2, cs0 :: css1, css2, p1 ++ o1, o, o2, by simp [e1], by simp [e2], by simp [e3], by simp [e4], e5, e6, .cons h1 h2 e7, e8, by simp [e9]⟩
theorem Els.nil {Z : List Nat} : Els RO s [] [] Z w := ⟨[], .nil, by simp, .nil⟩
theorem sep_pair {Ls : List Ob} (hs : ∀ (i j : Nat) (a b : Ob) (g : Nat), Ls[i]? = some a → Ls[j]? = some b → a.has g → b.has g → i = j) : Ls.Pairwise Apart :=
  List.pairwise_iff_getElem.2 fun i j hi hj hl g ha hb => by
    have := hs i j _ _ g (List.getElem?_eq_getElem hi) (List.getElem?_eq_getElem hj) ha hb
    omega
/-- A literal's. -/
theorem Els.lit {xs : List α} {css : List (List Value)} {os Ls : List Ob} {Z : List Nat} (h : El3 RO s xs css os) (e : os = Ls) (ho : ∀ (i : Nat) (o : Ob), Ls[i]? = some o → o.ok w) (hz : ∀ (i : Nat) (o : Ob) (g : Nat), Ls[i]? = some o → o.has g → g ∈ Z)
    (hs : ∀ (i j : Nat) (a b : Ob) (g : Nat), Ls[i]? = some a → Ls[j]? = some b → a.has g → b.has g → i = j) : Els RO s xs css Z w := by
  subst e
  exact ⟨os, h, fun o hm => by obtain ⟨i, hi, rfl⟩ := List.getElem_of_mem hm; exact ⟨ho i _ (List.getElem?_eq_getElem hi), fun g hg => hz i _ g (List.getElem?_eq_getElem hi) hg⟩, sep_pair hs⟩
/-- Two rows' elements, one behind the other. -/
theorem Els.app {Z1 Z2 Z : List Nat} {xs ys : List α} {css cs2 : List (List Value)} (h : Els RO s xs css Z1 w) (k : Els RO s ys cs2 Z2 w) (h1 : ∀ g ∈ Z1, g ∈ Z) (h2 : ∀ g ∈ Z2, g ∈ Z) (hd : ∀ g ∈ Z1, ¬ g ∈ Z2) : Els RO s (xs ++ ys) (css ++ cs2) Z w := by
  obtain ⟨o1, a1, b1, c1⟩ := h
  obtain ⟨o2, a2, b2, c2⟩ := k
  refine ⟨o1 ++ o2, a1.app a2, fun o ho => ?_, List.pairwise_append.2 ⟨c1, c2, fun a ha b hb g hga hgb => hd g ((b1 a ha).2 g hga) ((b2 b hb).2 g hgb)⟩⟩
  rcases List.mem_append.1 ho with ho | ho
  · exact ⟨(b1 o ho).1, fun g hg => h1 g ((b1 o ho).2 g hg)⟩
  · exact ⟨(b2 o ho).1, fun g hg => h2 g ((b2 o ho).2 g hg)⟩
theorem Els.get {Z : List Nat} {xs : List α} {css : List (List Value)} (h : Els RO s xs css Z w) (hU : Un R RO) : css.length = xs.length ∧ (∀ cs ∈ css, cs.length = s) ∧ ∀ S : List (Option Nat), (∀ g ∈ Z, some g ∉ S) → ∀ (i : Nat) (cs : List Value) (x : α), css[i]? = some cs → xs[i]? = some x → R S w x cs := by
  obtain ⟨os, a1, b1, c1⟩ := h
  refine ⟨a1.len.1, a1.len.2, fun S hS i cs x hc hx => ?_⟩
  obtain ⟨xs1, xs2, css1, css2, o1, o, o2, e1, e2, e3, e4, e5, e6, e7, e8, e9⟩ := a1.split hx hc
  refine hU S w x cs o e6 fun i u hu => ?_
  have := b1 u (by rw [e9]; simp [List.mem_of_getElem? hu])
  exact ⟨this.1, fun g hg => hS g (this.2 g hg)⟩
/-- A row in Z lies apart from what is apart from Z. -/
theorem Off.ofOb {cs : List Value} (h : (Ob.row A c e s n1 cs).ok w ∧ ∀ g, (Ob.row A c e s n1 cs).has g → some g ∉ S) : Off S n1 A := fun hn ad had => by
  have hc : c ≠ 0 := by have := (Ob.rd h.1).cap; omega
  exact h.2 _ (Ob.has_row.2 (by rw [rblk_pos hc, had]; rfl))
/-- A row of structs of the call's own. -/
theorem Mem.rdD {xs : List α} {css : List (List Value)} {Z : List Nat} (h : Mem w0 S w L) (hU : Un R RO) (hi : L[i]? = some (.row A c e s xs.length css.flatten)) (hj : L[j]? = some (.res Z (Els RO s xs css Z))) : RdD R [] w A c s xs := by
  have hE := (Ob.res_φ (h.ok j _ hj)).get hU
  exact ⟨css, hE.1, hE.2.1, h.rd hi, Off.nil, hE.2.2 [] (by simp)⟩
theorem Mem.rdDo {xs : List α} {css : List (List Value)} {Z : List Nat} {Ls : List Ob} (h : Mem w0 S w L) (hU : Un R RO) (js : List Nat) (hs : sel L js = some Ls) (hi : L[i]? = some (.row A c e s xs.length css.flatten)) (hni : js.contains i = false) (hj : L[j]? = some (.res Z (Els RO s xs css Z))) (hnj : js.contains j = false) : RdD R (Ls.flatMap Ob.blks) w A c s xs := by
  have hE := (Ob.res_φ (h.ok j _ hj)).get hU
  refine ⟨css, hE.1, hE.2.1, h.rd hi, h.offR js hs hi hni, hE.2.2 _ fun g hg hS => ?_⟩
  obtain ⟨i', o', hi', hb'⟩ := map_blk hS
  obtain ⟨j', hj1, hj2⟩ := (sel_get hs).2 i' o' hi'
  have e := h.sep _ _ _ _ g hj2 hj hb' (Ob.has_res.2 hg)
  subst e
  simp only [List.contains_eq_mem, decide_eq_false_iff_not] at hnj
  exact hnj (List.mem_of_getElem? hj1)
/-- An element of it, and its cells. -/
theorem Mem.atD {xs : List α} {css : List (List Value)} {Z : List Nat} {u : α} (h : Mem w0 S w L) (hU : Un R RO) (hi : L[i]? = some (.row A c e s xs.length css.flatten)) (hj : L[j]? = some (.res Z (Els RO s xs css Z))) (hx : gidx xs p = some u) : ∃ cs, At w A s xs.length p cs ∧ css[p.toNat]? = some cs ∧ R [] w u cs := by
  have hE := (Ob.res_φ (h.ok j _ hj)).get hU
  obtain ⟨h0, hl, hg⟩ := gidx_some hx
  have hc : css[p.toNat]? = some (css[p.toNat]'(by rw [hE.1]; omega)) := List.getElem?_eq_getElem _
  obtain ⟨cs, hA, _⟩ := RdD.at (h.rdD hU hi hj) hx
  refine ⟨_, ⟨hA.isSome, hA.lo, hA.hi, fun j' u' hj' => ?_⟩, hc, hE.2.2 [] (by simp) _ _ _ hc hg⟩
  rw [add_add]
  have hjs : j' < s := by have := (List.getElem?_eq_some_iff.1 hj').1; rwa [hE.2.1 _ (List.getElem_mem _)] at this
  exact (h.rd hi).cs _ _ (by rw [flatten_getElem? css _ j' _ hE.2.1 hc hjs]; exact hj')
/-- It goes on. -/
theorem Mem.elAt {xs : List α} {css : List (List Value)} {cs : List Value} {Z : List Nat} {u : α} (h : Mem w0 S w L) (hU : Un R RO) (hj : L[j]? = some (.res Z (Els RO s xs css Z))) (hc : css[p.toNat]? = some cs) (hx : gidx xs p = some u) : R [] w u cs :=
  ((Ob.res_φ (h.ok j _ hj)).get hU).2.2 [] (by simp) _ _ _ hc (gidx_some hx).2.2

/-! ### One element is taken out, and laid back -/
theorem Apart.symm {a b : Ob} (h : Apart a b) : Apart b a := fun g hb ha => h g ha hb
/-- Object j is several. -/
theorem Mem.refine {a : Ob} {Lr Ls : List Ob} (h : Mem w0 S w L) (hj : L[j]? = some a) (ks : List Nat) (hk : sel L ks = some Lr) (hnd : ks.Nodup) (hd : ks.contains j = false) (hok : ∀ o ∈ Ls, o.ok w) (hb : ∀ o ∈ Ls, ∀ g, o.has g → a.has g) (hs : Ls.Pairwise Apart) : Mem w0 S w (Lr ++ Ls) := by
  have hr := h.pick ks hk hnd
  have key : ∀ (i : Nat) (x : Ob) (g : Nat), Lr[i]? = some x → x.has g → ¬ a.has g := fun i x g hi hx ha => by
    obtain ⟨k, h1, h2⟩ := (sel_get hk).2 i x hi
    have e := h.sep _ _ _ _ g h2 hj hx ha
    subst e
    simp only [List.contains_eq_mem, decide_eq_false_iff_not] at hd
    exact hd (List.mem_of_getElem? h1)
  refine ⟨h.chg, fun i u hi => ?_, fun i u g hi hg => ?_, fun i i' x y g hi hi' hx hy => ?_⟩
  · rcases get_app hi with ⟨_, h2⟩ | ⟨_, h2⟩
    · exact hr.ok i u h2
    · exact hok u (List.mem_of_getElem? h2)
  · rcases get_app hi with ⟨_, h2⟩ | ⟨_, h2⟩
    · exact hr.own i u g h2 hg
    · exact h.own j a g hj (hb u (List.mem_of_getElem? h2) g hg)
  · rcases get_app hi with ⟨h1, h2⟩ | ⟨h1, h2⟩ <;> rcases get_app hi' with ⟨h3, h4⟩ | ⟨h3, h4⟩
    · exact hr.sep i i' x y g h2 h4 hx hy
    · exact (key i x g h2 hx (hb y (List.mem_of_getElem? h4) g hy)).elim
    · exact (key i' y g h4 hy (hb x (List.mem_of_getElem? h2) g hx)).elim
    · obtain ⟨l1, e1⟩ := List.getElem?_eq_some_iff.1 h2
      obtain ⟨l2, e2⟩ := List.getElem?_eq_some_iff.1 h4
      have hp := List.pairwise_iff_getElem.1 hs
      rcases Nat.lt_trichotomy (i - Lr.length) (i' - Lr.length) with hl | hl | hl
      · exact (hp _ _ l1 l2 hl g (e1 ▸ hx) (e2 ▸ hy)).elim
      · omega
      · exact (hp _ _ l2 l1 hl g (e2 ▸ hy) (e1 ▸ hx)).elim
/-- A row of structs, of which element i is taken out. -/
def Hole (RO : α → List Value → List Ob → Prop) (s : Nat) (xs : List α) (css : List (List Value)) (i : Nat) (Z : List Nat) (w : World) : Prop :=
  ∃ xs1 x xs2 css1 cs css2 o1 o2, xs = xs1 ++ x :: xs2 ∧ css = css1 ++ cs :: css2 ∧ xs1.length = i ∧ css1.length = i ∧ cs.length = s ∧ El3 RO s xs1 css1 o1 ∧ El3 RO s xs2 css2 o2 ∧ Stand (o1 ++ o2) Z w
theorem Mem.openE {xs : List α} {css : List (List Value)} {cs : List Value} {Z : List Nat} {u : α} {os Lr : List Ob} (h : Mem w0 S w L) (ks : List Nat) (hk : sel L ks = some Lr) (hnd : ks.Nodup) (hd : ks.contains j = false) (hj : L[j]? = some (.res Z (Els RO s xs css Z))) (hc : css[p.toNat]? = some cs) (hx : gidx xs p = some u) (hos : ∀ o, RO u cs o → o = os) :
    ∃ Z', Mem w0 S w (Lr ++ (.res Z' (Hole RO s xs css p.toNat Z') :: os)) := by
  obtain ⟨oa, a1, b1, c1⟩ := Ob.res_φ (h.ok j _ hj)
  obtain ⟨xs1, xs2, css1, css2, o1, o, o2, e1, e2, e3, e4, e5, e6, e7, e8, e9⟩ := a1.split (gidx_some hx).2.2 hc
  obtain rfl := hos o e6
  subst e9
  obtain ⟨Z', hz⟩ : ∃ Z' : List Nat, ∀ g, g ∈ Z' ↔ ∃ q ∈ o1 ++ o2, q.has g := ⟨((o1 ++ o2).flatMap Ob.blks).filterMap id, fun g => by simp [Ob.has, or_and_right, exists_or]⟩
  have hm : ∀ q, q ∈ o1 ++ o2 → q ∈ o1 ++ (o ++ o2) := fun q hq => by
    simp only [List.mem_append] at hq ⊢
    rcases hq with h | h
    · exact .inl h
    · exact .inr (.inr h)
  have hmo : ∀ q, q ∈ o → q ∈ o1 ++ (o ++ o2) := fun q hq => by simp [hq]
  obtain ⟨c2, c3, c4⟩ := List.pairwise_append.1 c1
  obtain ⟨c5, c6, c7⟩ := List.pairwise_append.1 c3
  refine ⟨Z', h.refine hj ks hk hnd hd (fun q hq => ?_) (fun q hq g hg => ?_) (List.pairwise_cons.2 ⟨fun q hq g hg hg' => ?_, c5⟩)⟩
  · rcases List.mem_cons.1 hq with rfl | hq
    · refine ⟨fun g hg => ?_, fun w1 h1 => ⟨xs1, u, xs2, css1, cs, css2, o1, o2, e1, e2, e3, e4, e5, e7, e8, fun q hq => ⟨Ob.ok_keep (b1 q (hm q hq)).1 fun g hg => h1 g ((hz g).2 ⟨q, hq, hg⟩), fun g hg => (hz g).2 ⟨q, hq, hg⟩⟩, ?_⟩⟩
      · obtain ⟨q, hq, hg⟩ := (hz g).1 hg
        exact Ob.ok_lt (b1 q (hm q hq)).1 hg
      · exact List.pairwise_append.2 ⟨c2, c6, fun x hx y hy => c4 x hx y (by simp [hy])⟩
    · exact (b1 q (hmo q hq)).1
  · rcases List.mem_cons.1 hq with rfl | hq
    · obtain ⟨q, hq, hg⟩ := (hz g).1 (Ob.has_res.1 hg)
      exact Ob.has_res.2 ((b1 q (hm q hq)).2 g hg)
    · exact Ob.has_res.2 ((b1 q (hmo q hq)).2 g hg)
  · obtain ⟨q', hq', hg1⟩ := (hz g).1 (Ob.has_res.1 hg)
    rcases List.mem_append.1 hq' with h1 | h1
    · exact c4 q' h1 q (by simp [hq]) g hg1 hg'
    · exact c7 q hq q' h1 g hg' hg1
theorem Mem.closeE {i : Nat} {xs : List α} {css : List (List Value)} {cs : List Value} {Z : List Nat} {u' : α} {os Lr : List Ob} (h : Mem w0 S w L) (js ks : List Nat) (hj : sel L js = some (.res Z (Hole RO s xs css i Z) :: os)) (hdj : js.Nodup) (hk : sel L ks = some Lr) (hnd : ks.Nodup) (hd : (ks.all fun k => !js.contains k) = true) (hc : css[i]? = some cs) (hos : RO u' cs os) :
    ∃ Z', Mem w0 S w (Lr ++ [.res Z' (Els RO s (xs.set i u') css Z')]) := by
  have hp := sep_pair (h.pick js hj hdj).sep
  obtain ⟨hp1, hp2⟩ := List.pairwise_cons.1 hp
  refine h.glue js ks hj hk hnd hd _ fun Z' w1 ho hz => ?_
  obtain ⟨xs1, x, xs2, css1, cs0, css2, o1, o2, e1, e2, e3, e4, e5, e6, e7, b1, c1⟩ := Ob.res_φ (ho 0 _ rfl)
  have hcs : cs0 = cs := by rw [e2] at hc; subst e4; simpa using hc
  subst hcs
  have hset : xs.set i u' = xs1 ++ u' :: xs2 := by rw [e1]; subst e3; simp
  rw [hset, e2]
  obtain ⟨c2, c3, c4⟩ := List.pairwise_append.1 c1
  have hin : ∀ q, q ∈ o1 ++ o2 → ∀ g, q.has g → g ∈ Z' := fun q hq g hg => hz 0 _ g rfl (Ob.has_res.2 ((b1 q hq).2 g hg))
  have hok : ∀ q, q ∈ os → q.ok w1 ∧ ∀ g, q.has g → g ∈ Z' := fun q hq => by
    obtain ⟨k, hk, rfl⟩ := List.getElem_of_mem hq
    exact ⟨ho (k + 1) _ (by simp [hk]), fun g hg => hz (k + 1) _ g (by simp [hk]) hg⟩
  have hap : ∀ q, q ∈ o1 ++ o2 → ∀ q', q' ∈ os → Apart q q' := fun q hq q' hq' g hg hg' => hp1 q' hq' g (Ob.has_res.2 ((b1 q hq).2 g hg)) hg'
  refine ⟨o1 ++ (os ++ o2), e6.app (.cons e5 hos e7), fun q hq => ?_, List.pairwise_append.2 ⟨c2, List.pairwise_append.2 ⟨hp2, c3, fun a ha b hb => (hap b (by simp [hb]) a ha).symm⟩, fun a ha b hb => ?_⟩⟩
  · simp only [List.mem_append] at hq
    rcases hq with hq | hq | hq
    · exact ⟨(b1 q (by simp [hq])).1, hin q (by simp [hq])⟩
    · exact hok q hq
    · exact ⟨(b1 q (by simp [hq])).1, hin q (by simp [hq])⟩
  · rcases List.mem_append.1 hb with hb | hb
    · exact hap a (by simp [ha]) b hb
    · exact c4 a ha b hb
/-- A flat part of an element is another one. -/
theorem Mem.elSet {xs : List α} {css : List (List Value)} {cs cs' : List Value} {Z : List Nat} {u u' : α} (h : Mem w0 S w L) (hj : L[j]? = some (.res Z (Els RO s xs css Z))) (hc : css[p.toNat]? = some cs) (hx : gidx xs p = some u) (hl : cs'.length = s) (hos : ∀ o, RO u cs o → RO u' cs' o) :
    Mem w0 S w (L.set j (.res Z (Els RO s (xs.set p.toNat u') (css.set p.toNat cs') Z))) := by
  refine h.upd' (bk := none) hj ⟨rfl, rfl, rfl, Nat.le_refl _, fun _ _ _ => rfl⟩ (fun g e => by cases e) ⟨(h.ok j _ hj).1, fun w1 h1 => ?_⟩ (fun g hg => .inl (Ob.has_res.2 (Ob.has_res.1 hg)))
  obtain ⟨os, a1, b1⟩ := (h.ok j _ hj).2 w1 h1
  obtain ⟨xs1, xs2, css1, css2, o1, o, o2, e1, e2, e3, e4, e5, e6, e7, e8, e9⟩ := a1.split (gidx_some hx).2.2 hc
  refine ⟨os, ?_, b1⟩
  have h1 : xs.set p.toNat u' = xs1 ++ u' :: xs2 := by rw [e1, ← e3]; simp
  have h2 : css.set p.toNat cs' = css1 ++ cs' :: css2 := by rw [e2, ← e4]; simp
  rw [h1, h2, e9]
  exact e7.app (.cons hl (hos o e6) e8)
theorem Mem.rerow {n2 : Nat} {cs : List Value} (h : Mem w0 S w L) (hi : L[i]? = some (.row A c e s n1 cs)) (he : n1 = n2) : Mem w0 S w (L.set i (.row A c e s n2 cs)) := by
  subst he
  have : L.set i (.row A c e s n1 cs) = L := by
    apply List.ext_getElem?
    intro j
    by_cases h : i = j
    · subst h; rw [List.getElem?_set_self (List.getElem?_eq_some_iff.1 hi).1, hi]
    · rw [List.getElem?_set_ne h]
  rw [this]; exact h
theorem spl_flatten {vs : List Value} {off : Nat} {cs cs' : List Value} : ∀ {css : List (List Value)} {k : Nat}, (∀ cs ∈ css, cs.length = s) → css[k]? = some cs → spl cs off vs = cs' → off + vs.length ≤ s → spl css.flatten (k * s + off) vs = (css.set k cs').flatten
  | [], k, _, h, _, _ => by simp at h
  | y :: ys, 0, hl, h, hs, ho => by
    simp at h
    subst h
    have hy := hl y (by simp)
    simp only [Nat.zero_mul, Nat.zero_add, List.flatten_cons, List.set_cons_zero, ← hs]
    unfold spl
    rw [List.take_append_of_le_length (by rw [hy]; omega), List.drop_append_of_le_length (by rw [hy]; omega)]
    simp
  | y :: ys, k + 1, hl, h, hs, ho => by
    have hy := hl y (by simp)
    have ih := spl_flatten (css := ys) (k := k) (fun cs h => hl cs (by simp [h])) (by simpa using h) hs ho
    rw [List.flatten_cons, List.set_cons_succ, List.flatten_cons, ← ih]
    unfold spl
    have e1 : (k + 1) * s + off = y.length + (k * s + off) := by rw [hy, Nat.add_mul]; omega
    rw [e1, List.take_append, List.drop_append]
    simp only [List.append_assoc, Nat.add_sub_cancel_left]
    rw [List.take_of_length_le (by omega)]
    have e2 : y.length + (k * s + off) + vs.length - y.length = k * s + off + vs.length := by omega
    rw [List.drop_of_length_le (by omega), e2]
    simp
/-- A store into a flat part of an element of such a row. -/
theorem E.stD {xs : List α} {css : List (List Value)} {cs cs' : List Value} {Z : List Nat} {u u' : α} {i off : Nat} {vs : List Value} {a : Addr} (hM : Mem w0 S w L) (hi : L[i]? = some (.row A c e s xs.length css.flatten)) (hj : L[j]? = some (.res Z (Els RO s xs css Z))) (hne : Nat.beq i j = false) (hc : css[p.toNat]? = some cs) (hp : gidx xs p = some u) (ht : sizeT P t vs.length = true)
    (hx : ev l x = some (.pointer (some a))) (ha : a = (A.getD zad).add (p.toNat * s + off)) (hy : ev l y = some v) (hv : v.cells = vs.toArray) (h1 : One vs) (hsp : spl cs off vs = cs') (ho : Nat.ble (off + vs.length) s = true) (hos : ∀ o, RO u cs o → RO u' cs' o) :
    EffS P (.store t x y) ty l w (fun w' => Mem w0 S w' ((L.set i (.row A c e s (xs.set p.toNat u').length (css.set p.toNat cs').flatten)).set j (.res Z (Els RO s (xs.set p.toNat u') (css.set p.toNat cs') Z))) ∧ xs.length = (xs.set p.toNat u').length) := by
  obtain ⟨os, a1, _⟩ := Ob.res_φ (hM.ok j _ hj)
  obtain ⟨h0, hlt, hg⟩ := gidx_some hp
  have ho' : off + vs.length ≤ s := Nat.le_of_ble_eq_true ho
  have hfl := spl_flatten a1.len.2 hc hsp ho'
  have hlc : cs.length = s := a1.len.2 cs (List.mem_of_getElem? hc)
  have hlen : css.flatten.length = xs.length * s := (hM.rd hi).len
  have hl : p.toNat * s + off + vs.length ≤ css.flatten.length := by
    rw [hlen]
    have : (p.toNat + 1) * s ≤ xs.length * s := Nat.mul_le_mul_right _ (by omega)
    rw [Nat.add_mul] at this
    omega
  obtain ⟨w', hrun, hM'⟩ := run_stR (v := v) hM hi ht hv h1 (by omega) hl
  rw [hfl] at hM'
  have hne' : i ≠ j := fun e => by subst e; simp at hne
  have hM2 := (hM'.elSet (u' := u') (cs' := cs') (by rw [List.getElem?_set_ne hne']; exact hj) hc hp (by rw [← hsp, spl_length (by omega)]; exact hlc) hos).rerow (i := i) (n2 := (xs.set p.toNat u').length) (by rw [List.getElem?_set_ne (Ne.symm hne')]; exact List.getElem?_set_self (List.getElem?_eq_some_iff.1 hi).1) (by simp)
  subst ha
  refine ⟨w', fun ρ hρ _ _ _ _ => ?_, ?_, by simp⟩
  · simp only [execOp, hρ x _ hx, hρ y _ hy]
    simp [Instr.storeAt, Instr.sureAddr, hrun]
  · rw [List.set_comm _ _ (Ne.symm hne'), List.set_set] at hM2
    exact hM2

/-! ### Literals, and append -/
theorem E.bslD {css : List (List Value)} {parts : Array (Nat × Operand)} {vs : List (Nat × Value)} {z : List Value} {len : Nat} (hM : Mem w0 S w L) (ht : SliceT P t e s b) (hz : ZeroT P e z)
    (hv : evps l parts.toList = some vs) (hl : Nat.ble (len * s) 16777216 = true) (hs : Nat.blt 0 s = true) (hxs : css.length = len) (hcs : css.flatten.length = len * s)
    (hf : fillL (fun i => some (i * s, s)) ((List.range (len * s)).map fun j => z.getD (j % z.length) default) vs = some css.flatten) (hpos : Nat.ble 1 (len * s) = true) :
    Eff P (.buildSlice t len parts) ty l w (fun v w' => ∃ A', v = .slice A' len len ∧ Mem w0 S w' (L ++ [.row A' len e s len css.flatten]) ∧ Chg [] w w') := by
  have hf := fill_eq _ _ _ _ hf
  rw [← zero_cells] at hf
  generalize hcse : css.flatten = cs at *
  have hlm : len ≤ maxLen := by
    have h1 : len * s ≤ 16777216 := Nat.le_of_ble_eq_true hl
    have h2 : 0 < s := by simpa using hs
    have : len * 1 ≤ len * s := Nat.mul_le_mul_left _ h2
    simp only [maxLen]; omega
  obtain ⟨i, hinf, hsz, hb⟩ := ht.info
  obtain ⟨zv, hzv, hzc⟩ := hz.info hinf
  have hl' : len * s ≤ 16777216 := Nat.le_of_ble_eq_true hl
  refine ⟨.slice (some ⟨w.heap.size, 0, none⟩) len len, { w with heap := w.heap.push (.cells cs.toArray e) }, fun ρ hρ _ _ _ _ => ?_, some ⟨w.heap.size, 0, none⟩, rfl, hM.push (below_push w) (Ob.ok_row (ownsRow_new rfl hcs hlm)) (fun g hg => by have := (rblk_some (Ob.has_row.1 hg)).2; simp at this; omega), .of_below (below_push w)⟩
  have hmap := evps_map hρ hv
  simp only [execOp, hmap]
  have hn : ¬ 16777216 < len * s := by omega
  have h0 : ¬ len * s = 0 := by have := Nat.le_of_ble_eq_true hpos; omega
  simp only [Instr.buildSlice, Sem.run_bind, run_underlying ht.1, Result.andThen_ok]
  simp [sizeOf, typeInfo, hinf, hsz, h0, hn, zeroValue, hzv, hzc, newRow]
  have hf' := hf
  simp at hf'
  rw [hf']
  simp
theorem E.appD {xs ys : List α} {css cs2 : List (List Value)} {z : List Value} (hM : Mem w0 S w L) (hi : L[j]? = some (.row A c e s xs.length css.flatten)) (ht : SliceT P t e s b) (hz : ZeroT P e z) (hzs : Nat.beq z.length s = true) (hs : Nat.blt 0 s = true) (hb : Nat.ble b 128 = true)
    (hx : ev l x = some (.slice A xs.length c)) (hy : ev l y = some (.slice A2 ys.length c2)) (hr : Rd w A2 c2 s ys.length cs2.flatten) (h1 : One cs2.flatten) (hmax : xs.length + ys.length ≤ lim) :
    Eff P (.call ⟨.builtin .append, #[x, y], #[t, t]⟩) ty l w (fun v w' => ∃ A' c', v = .slice A' (xs ++ ys).length c' ∧ Mem w0 S w' (L.set j (.row A' c' e s (xs ++ ys).length (css ++ cs2).flatten)) ∧ Chg [rblk A c] w w') := by
  have hb' : b ≤ 128 := Nat.le_of_ble_eq_true hb
  have hm2 : (xs.length + ys.length) * b ≤ 1099511627776 * 128 := Nat.mul_le_mul hmax hb'
  obtain ⟨A', c', w', hrun, hM', hch⟩ := run_app (ty := ty) hM hi ht hz (Nat.eq_of_beq_eq_true hzs) (by simpa using hs) hr h1 (by omega) (by simp only [maxLen]; simp only [lim] at hmax; omega)
  have e1 : xs.length + ys.length = (xs ++ ys).length := by simp
  have e2 : css.flatten ++ cs2.flatten = (css ++ cs2).flatten := by simp
  rw [e1] at hrun
  rw [e1, e2] at hM'
  refine ⟨.slice A' (xs ++ ys).length c', w', fun ρ hρ _ _ _ _ => ?_, A', c', rfl, hM', hch⟩
  simp only [execOp]
  simp [resolve, invoke, builtin, hρ x _ hx, hρ y _ hy, hrun]
end
end Go.Ox
