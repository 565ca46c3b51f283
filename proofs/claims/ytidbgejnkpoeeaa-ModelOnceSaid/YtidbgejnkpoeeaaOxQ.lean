/- A plain library: equality of structs and of arrays of numbers. No program is named here. -/
import Derived.Test.YtidbgejnkpoeeaaOxT
import Derived.Laws.StructEq
import Derived.Laws.Tables
set_option linter.unusedVariables false
namespace Go.Ox
open Go Go.RowKit
variable {P : Program} {w : World}
def arrC (n : Nat) (k : IntKind) (x : List Int) : List Value := (List.range n).map fun i => .int k (x.getD i 0)
def arrEq (n : Nat) (x y : List Int) : Bool := (List.range n).all fun i => x.getD i 0 == y.getD i 0
theorem eq_arr {t e : TypeId} {n : Nat} {k : IntKind} (ht : P.underlying t = some (.array n e)) (he : P.underlying e = some (.int k)) (ha : ∀ w, (isAgg e).run P w = .ok false w) (hs : ∀ w, (sizeOf e).run P w = .ok 1 w) (d : Nat) (x y : List Int) :
    (Op.equalIn (d + 2) t (.agg (arrC n k x).toArray) (.agg (arrC n k y).toArray)).run P w = .ok (arrEq n x y) w := by
  rw [show d + 2 = (d + 1) + 1 from rfl, Op.equalIn]
  simp only [Sem.run_bind, run_underlying ht, Result.andThen_ok, hs]
  simp only [Std.Legacy.Range.forIn_eq_forIn_range', Std.Legacy.Range.size, Nat.sub_zero, Nat.add_sub_cancel, Nat.div_one]
  have key : ∀ l : List Nat, (∀ i ∈ l, i < n) → (forIn (m := Sem) l ((none, ()) : Option Bool × Unit) fun i r => do
      if (!(← Op.equalIn (d + 1) e (← part e (arrC n k x).toArray (i * 1)) (← part e (arrC n k y).toArray (i * 1)))) = true then pure (ForInStep.done (some false, ()))
      else pure (ForInStep.yield (none, ()))).run P w = .ok (if l.all (fun i => x.getD i 0 == y.getD i 0) then (none, ()) else (some false, ())) w := by
    intro l
    induction l with
    | nil => intro _; simp
    | cons i l ih =>
      intro hi
      have hx : ∀ z : List Int, (part e (arrC n k z).toArray (i * 1)).run P w = .ok (.int k (z.getD i 0)) w := fun z => by
        have : (arrC n k z).toArray[i]? = some (.int k (z.getD i 0)) := by simp [arrC, hi i (by simp)]
        simp [part, ha, this]
      simp only [List.forIn_cons, Sem.run_bind, hx, Result.andThen_ok, run_equalIn_int w d e k k _ _ he]
      cases h : (x.getD i 0 == y.getD i 0)
      · simp only [Bool.not_false, if_true, Sem.run_pure, Result.andThen_ok, List.all_cons, h, Bool.false_and, Bool.false_eq_true, if_false]
      · simp only [Bool.not_true, Bool.false_eq_true, if_false, Sem.run_pure, Result.andThen_ok, List.all_cons, h, Bool.true_and]
        exact ih (fun j hj => hi j (by simp [hj]))
  rw [key (List.range' 0 n) (fun i hi => by simp at hi; omega), Result.andThen_ok]
  unfold arrEq
  rw [List.range_eq_range']
  cases (List.range' 0 n).all fun i => x.getD i 0 == y.getD i 0 <;> rfl

def fld3 (f : Field) : Bool × Nat × Nat := (f.name == "_", f.type, f.offset)
def EqT (P : Program) (w : World) (d : Nat) (xs ys : Array Value) : List (Bool × Nat × Nat) → Bool → Prop
  | [], b => b = true
  | (un, t, o) :: r, b => ∃ u v q b', un = false ∧ (part t xs o).run P w = .ok u w ∧ (part t ys o).run P w = .ok v w ∧ (Op.equalIn d t u v).run P w = .ok q w ∧ EqT P w d xs ys r b' ∧ b = (q && b')
theorem EqT.run {d : Nat} {xs ys : Array Value} : ∀ {fs : List Field} {tr : List (Bool × Nat × Nat)} {b : Bool}, fs.map fld3 = tr → EqT P w d xs ys tr b → (Op.eqFields d xs ys fs).run P w = .ok b w
  | [], _, b, hl, h => by subst hl; simp [EqT] at h; subst h; simp [Op.eqFields]
  | f :: fs, _, b, hl, h => by
    subst hl
    simp only [List.map_cons, fld3, EqT] at h
    obtain ⟨u, v, q, b', hn, hx, hy, he, hr, rfl⟩ := h
    have ih := EqT.run (fs := fs) rfl hr
    have hne : f.name ≠ "_" := by simpa using hn
    simp only [Op.eqFields, hne, ne_eq, not_false_eq_true, if_true, Sem.run_bind, hx, hy, he, Result.andThen_ok]
    cases q
    · simp
    · simpa using ih

theorem part_s {t o : Nat} {u : Value} {xs : List Value} (h : isScalar P t = true) (hx : xs[o]? = some u) : (part t xs.toArray o).run P w = .ok u w := by
  simp [part, run_isAgg_scalar h, hx]
theorem part_a {t o : Nat} {us xs : List Value} (h : isAggT P t us.length = true) (hx : (xs.drop o).take us.length = us) : (part t xs.toArray o).run P w = .ok (.agg us.toArray) w := by
  obtain ⟨h1, h2⟩ := isAggT_run h w
  simp only [part, Sem.run_bind, h1, Result.andThen_ok, if_true, h2, Sem.run_pure]
  have : xs.toArray.extract o (o + us.length) = us.toArray := by
    apply Array.ext'
    simp [hx]
  rw [this]
theorem eq_arr' {t e : TypeId} {n : Nat} {k : IntKind} (ht : P.underlying t = some (.array n e)) (he : P.underlying e = some (.int k)) (hs : sizeT P e 1 = true) (d : Nat) (x y : List Int) (w : World) :
    (Op.equalIn (d + 2) t (.agg (arrC n k x).toArray) (.agg (arrC n k y).toArray)).run P w = .ok (arrEq n x y) w :=
  eq_arr ht he (run_isAgg_scalar (by unfold isScalar; rw [he])) (sizeT_run hs) d x y
end Go.Ox
