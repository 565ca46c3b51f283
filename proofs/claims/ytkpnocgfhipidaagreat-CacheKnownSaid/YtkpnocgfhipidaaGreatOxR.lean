/- A plain library: equality of structs and of arrays of numbers. No program is named here. -/
import Derived.Test.YtkpnocgfhipidaaGreatOxT
import Derived.Laws.StructEq
import Derived.Laws.Tables
import Derived.Laws.CopyRow
set_option linter.unusedVariables false
namespace Go.Ox
open Go Go.RowKit
variable {P : Program} {w : World}
def arrC (n : Nat) (k : IntKind) (x : List Int) : List Value := (List.range n).map fun i => .int k (x.getD i 0)
def arrEq (n : Nat) (x y : List Int) : Bool := (List.range n).all fun i => x.getD i 0 == y.getD i 0
theorem eq_arr {t e : TypeId} {n : Nat} {k : IntKind} (ht : P.underlying t = some (.array n e)) (he : P.underlying e = some (.int k)) (ha : ∀ w, (isAgg e).run P w = .ok false w) (hs : ∀ w, (sizeOf e).run P w = .ok 1 w) (d : Nat) (x y : List Int) :
    (Op.equalIn (d + 2) t (.agg (arrC n k x).toArray) (.agg (arrC n k y).toArray)).run P w = .ok (arrEq n x y) w := by
  rw [show d + 2 = (d + 1) + 1 from rfl, Op.equalIn]
  simp only [Sem.run_bind, run_underlying ht, Result.andThen_ok, hs]
  simp only [Std.Legacy.Range.forIn_eq_forIn_range', Std.Legacy.Range.size, Nat.sub_zero, Nat.add_sub_cancel, Nat.div_one]
  have key : ∀ l : List Nat, (∀ i ∈ l, i < n) → (forIn (m := Sem) l ((none, ()) : Option Bool × Unit) fun i r => do
      if (!(← Op.equalIn (d + 1) e (← part e (arrC n k x).toArray (i * 1)) (← part e (arrC n k y).toArray (i * 1)))) = true then pure (ForInStep.done (some false, ()))
      else pure (ForInStep.yield (none, ()))).run P w = .ok (if l.all (fun i => x.getD i 0 == y.getD i 0) then (none, ()) else (some false, ())) w := by
    intro l
    induction l with
    | nil => intro _; simp
    | cons i l ih =>
      intro hi
      have hx : ∀ z : List Int, (part e (arrC n k z).toArray (i * 1)).run P w = .ok (.int k (z.getD i 0)) w := fun z => by
        have : (arrC n k z).toArray[i]? = some (.int k (z.getD i 0)) := by simp [arrC, hi i (by simp)]
        simp [part, ha, this]
      simp only [List.forIn_cons, Sem.run_bind, hx, Result.andThen_ok, run_equalIn_int w d e k k _ _ he]
      cases h : (x.getD i 0 == y.getD i 0)
      · simp only [Bool.not_false, if_true, Sem.run_pure, Result.andThen_ok, List.all_cons, h, Bool.false_and, Bool.false_eq_true, if_false]
      · simp only [Bool.not_true, Bool.false_eq_true, if_false, Sem.run_pure, Result.andThen_ok, List.all_cons, h, Bool.true_and]
        exact ih (fun j hj => hi j (by simp [hj]))
  rw [key (List.range' 0 n) (fun i hi => by simp at hi; omega), Result.andThen_ok]
  unfold arrEq
  rw [List.range_eq_range']
  cases (List.range' 0 n).all fun i => x.getD i 0 == y.getD i 0 <;> rfl
def fld3 (f : Field) : Bool × Nat × Nat := (f.name == "_", f.type, f.offset)
def EqT (P : Program) (w : World) (d : Nat) (xs ys : Array Value) : List (Bool × Nat × Nat) → Bool → Prop
  | [], b => b = true
  | (un, t, o) :: r, b => ∃ u v q b', un = false ∧ (part t xs o).run P w = .ok u w ∧ (part t ys o).run P w = .ok v w ∧ (Op.equalIn d t u v).run P w = .ok q w ∧ EqT P w d xs ys r b' ∧ b = (q && b')
theorem EqT.run {d : Nat} {xs ys : Array Value} : ∀ {fs : List Field} {tr : List (Bool × Nat × Nat)} {b : Bool}, fs.map fld3 = tr → EqT P w d xs ys tr b → (Op.eqFields d xs ys fs).run P w = .ok b w
  | [], _, b, hl, h => by subst hl; simp [EqT] at h; subst h; simp [Op.eqFields]
  | f :: fs, _, b, hl, h => by
    subst hl
    simp only [List.map_cons, fld3, EqT] at h
    obtain ⟨u, v, q, b', hn, hx, hy, he, hr, rfl⟩ := h
    have ih := EqT.run (fs := fs) rfl hr
    have hne : f.name ≠ "_" := by simpa using hn
    simp only [Op.eqFields, hne, ne_eq, not_false_eq_true, if_true, Sem.run_bind, hx, hy, he, Result.andThen_ok]
    cases q
    · simp
    · simpa using ih
theorem part_s {t o : Nat} {u : Value} {xs : List Value} (h : isScalar P t = true) (hx : xs[o]? = some u) : (part t xs.toArray o).run P w = .ok u w := by
  simp [part, run_isAgg_scalar h, hx]
theorem part_a {t o : Nat} {us xs : List Value} (h : isAggT P t us.length = true) (hx : (xs.drop o).take us.length = us) : (part t xs.toArray o).run P w = .ok (.agg us.toArray) w := by
  obtain ⟨h1, h2⟩ := isAggT_run h w
  simp only [part, Sem.run_bind, h1, Result.andThen_ok, if_true, h2, Sem.run_pure]
  have : xs.toArray.extract o (o + us.length) = us.toArray := by
    apply Array.ext'
    simp [hx]
  rw [this]
theorem eq_arr' {t e : TypeId} {n : Nat} {k : IntKind} (ht : P.underlying t = some (.array n e)) (he : P.underlying e = some (.int k)) (hs : sizeT P e 1 = true) (d : Nat) (x y : List Int) (w : World) :
    (Op.equalIn (d + 2) t (.agg (arrC n k x).toArray) (.agg (arrC n k y).toArray)).run P w = .ok (arrEq n x y) w :=
  eq_arr ht he (run_isAgg_scalar (by unfold isScalar; rw [he])) (sizeT_run hs) d x y
end Go.Ox

set_option linter.unusedVariables false
namespace Go.Ox
open Go Go.RowKit
section
variable {F : Fence} {P : Program} {ops : Array Oper} {Q : Exit → Act → World → Prop} {rest : List Oper} {n d : Nat} {l l' : List (Nat × Value)} {w w' : World}
variable {o : Op} {ty : TypeId} {pos : String} {after : Array Edge} {v : Value} {x y : Operand} {k k' : IntKind} {p q : Int} {t e : TypeId}
def gidxA (n : Nat) (xs : List Int) (i : Int) : Option Int := if 0 ≤ i ∧ i < n then some (xs.getD i.toNat 0) else none
theorem gidxA_some {xs : List Int} {i z : Int} (h : gidxA n xs i = some z) : 0 ≤ i ∧ i < n ∧ xs.getD i.toNat 0 = z := by
  unfold gidxA at h
  split at h
  · rename_i hi; cases h; exact ⟨hi.1, hi.2, rfl⟩
  · cases h
theorem O.idxP {a : Addr} {xs : List Int} {z : Int} (ht : P.underlying t = some (.array n e)) (hs : sizeT P e 1 = true) (hg : gidxA n xs p = some z) (hx : ev l x = some (.pointer (some a))) (hy : ev l y = some (.int k p)) :
    OpV P (.indexAddr t x y) ty l w (.pointer (some (a.add (p.toNat * 1)))) := fun ρ hρ _ _ _ _ => by
  obtain ⟨h0, h1, _⟩ := gidxA_some hg
  simp only [execOp, hρ x _ hx, hρ y _ hy]
  simp [Instr.indexAt, asIntOf, run_underlying ht, sizeT_run hs, Instr.sureAddr, h0, h1]
theorem Cs.arrAt {a : Addr} {cs : List Value} {xs : List Int} {z : Int} (offs : List Nat) (h : Cs w a cs) (hd : (cs.drop (offs.foldr (· + ·) 0)).take (arrC n k xs).length = arrC n k xs) (hg : gidxA n xs p = some z) :
    w.cell? ((offs.foldl Addr.add a).add (p.toNat * 1)) = some (.int k z) := by
  obtain ⟨h0, h1, rfl⟩ := gidxA_some hg
  have hc := Cs.addsN offs h hd
  have hi : p.toNat < n := by omega
  exact hc _ _ (by simp [arrC, hi])
def arrL (n : Nat) (xs : List Int) : List Int := (List.range n).map fun i => xs.getD i 0
theorem arrL_len {xs : List Int} : (arrL n xs).length = n := by simp [arrL]
theorem flat_map (ys : List Int) : ys.flatMap (eI k) = ys.map fun z => Value.int k z := by
  induction ys with
  | nil => rfl
  | cons z zs ih => rw [List.flatMap_cons, ih]; rfl
theorem arrL_enc {xs : List Int} : (arrL n xs).flatMap (eI k) = arrC n k xs := by
  rw [flat_map]
  simp [arrL, arrC]
theorem O.slArr {a : Addr} {xs : List Int} (ht : P.underlying t = some (.array n e)) (hs : sizeT P e 1 = true) (hn : Nat.beq n 0 = false) (hx : ev l x = some (.pointer (some a))) :
    OpV P (.slice t x none none none) ty l w (.slice (some (a.add (0 * 1))) (arrL n xs).length n) := fun ρ hρ _ _ _ _ => by
  have hn0 : n ≠ 0 := fun h => by subst h; simp at hn
  simp only [execOp, hρ x _ hx, arrL_len]
  simp [Instr.sliceAt, run_underlying ht, sizeT_run hs, Instr.sureAddr, Instr.sliceBounds, hn0]
theorem O.slArrTo {a : Addr} {xs ys : List Int} (ht : P.underlying t = some (.array n e)) (hs : sizeT P e 1 = true) (hn : Nat.beq n 0 = false) (hg : gcut (arrL n xs) 0 q = some ys) (hx : ev l x = some (.pointer (some a))) (hy : ev l y = some (.int k q)) :
    OpV P (.slice t x none (some y) none) ty l w (.slice (some (a.add (0 * 1))) ys.length n) := fun ρ hρ _ _ _ _ => by
  have hn0 : n ≠ 0 := fun h => by subst h; simp at hn
  obtain ⟨h3, h4, h5, _, h6⟩ := gcut_some hg
  rw [arrL_len] at h5
  simp only [execOp, hρ x _ hx, h6]
  simp [Instr.sliceAt, run_underlying ht, sizeT_run hs, Instr.sureAddr, Instr.sliceBounds, hn0, hρ y _ hy, Instr.sliceBound, asIntOf, h4, h5]
theorem Rd.arr {a : Addr} {xs : List Int} (h : Cs w a (arrC n k xs)) (hn : Nat.beq n 0 = false) (hm : Nat.ble n 4096 = true) : Rd w (some (a.add (0 * 1))) n 1 (arrL n xs).length ((arrL n xs).flatMap (eI k)) := by
  have hn0 : n ≠ 0 := fun h => by subst h; simp at hn
  have hm := Nat.le_of_ble_eq_true hm
  have e : a.add (0 * 1) = a := by simp [Addr.add]
  rw [e, arrL_enc, arrL_len]
  refine ⟨by simp [arrC], Nat.le_refl _, by unfold maxLen; omega, fun _ => ⟨a, rfl, ?_, h⟩, fun h => by cases h⟩
  have h0 := h 0 (.int k (xs.getD 0 0)) (by simp only [arrC, List.getElem?_map]; rw [List.getElem?_range (by omega)]; rfl)
  have e0 : a.add 0 = a := by simp [Addr.add]
  rw [e0] at h0
  unfold World.cell? at h0
  by_cases hb : a.block < w.heap.size
  · exact hb
  · rw [Array.getElem?_eq_none (by omega)] at h0; cases h0
def cpA (n m : Nat) (xs ys : List Int) : List Int := (List.range n).map fun i => if i < m then ys.getD i 0 else xs.getD i 0
theorem E.copyA {S : List (Option Nat)} {L : List Ob} {w0 : World} {j g n m b c : Nat} {e0 ta tb ea : TypeId} {a : Addr} {xs ys : List Int} (hM : Mem w0 S w L) (hi : L[j]? = some (.box g e0 (arrC n k xs))) (ht : SliceT P ta ea 1 b)
    (hx : ev l x = some (.slice (some ((⟨g, 0, none⟩ : Addr).add (0 * 1))) m n)) (hm : m ≤ n) (hy : ev l y = some (.slice (some a) ys.length c)) (hr : Rd w (some a) c 1 ys.length (ys.flatMap (eI k))) :
    Eff P (.call ⟨.builtin .copy, #[x, y], #[ta, tb]⟩) ty l w (fun v w' => v = .int .i64 (Nat.min ys.length m : Nat) ∧ Mem w0 S w' (L.set j (.box g e0 (arrC n k (cpA n (Nat.min ys.length m) xs ys))))) := by
  obtain ⟨i, hinfo, hsz, _⟩ := ht.info
  have hsrc : Cs w a (ys.flatMap (eI k)) := hr.cs
  refine ⟨_, w.setRow g (arrC n k (cpA n (Nat.min ys.length m) xs ys)).toArray, fun ρ hρ _ _ _ _ => ?_, rfl, hM.setBox hi⟩
  have e : ((⟨g, 0, none⟩ : Addr).add (0 * 1)) = ⟨g, 0, none⟩ := by simp [Addr.add]
  rw [e] at hx
  have hmap := flat_map (k := k) ys
  have hcp := run_copy_row (P := P) w ta tb ty ea g 0 m n a ys.length c (arrC n k xs).toArray e0 ((ys.take (Nat.min ys.length m)).map fun z => Value.int k z) ht.1 (by simp [hinfo, hsz]) (hM.ok j _ hi) (by simp)
    (fun q u hq => hsrc q u (by
      rw [hmap]
      simp only [List.getElem?_map, List.getElem?_take] at hq ⊢
      split at hq
      · exact hq
      · simp at hq)) (by simp [arrC]; omega) (fun u hu => by obtain ⟨z, _, rfl⟩ := List.mem_map.1 hu; rfl)
  have hout : ((arrC n k xs).toArray.toList.take 0 ++ (ys.take (Nat.min ys.length m)).map (fun z => Value.int k z) ++ (arrC n k xs).toArray.toList.drop (0 + ((ys.take (Nat.min ys.length m)).map fun z => Value.int k z).length)) = arrC n k (cpA n (Nat.min ys.length m) xs ys) := by
    have hml : ((ys.take (Nat.min ys.length m)).map fun z => Value.int k z).length = Nat.min ys.length m := by simp
    have hm1 : Nat.min ys.length m ≤ ys.length := Nat.min_le_left _ _
    have hm2 : Nat.min ys.length m ≤ m := Nat.min_le_right _ _
    apply List.ext_getElem?
    intro i
    simp only [List.take_zero, List.nil_append, Nat.zero_add, hml]
    by_cases h1 : i < Nat.min ys.length m
    · rw [List.getElem?_append_left (by omega)]
      have h2 : i < n := by omega
      have h3 : i < ys.length := by omega
      simp [arrC, cpA, h2, h1, h3]
    · rw [List.getElem?_append_right (by omega), hml]
      by_cases h2 : i < n
      · have h4 : Nat.min ys.length m + (i - Nat.min ys.length m) = i := by omega
        simp [arrC, cpA, h2, h1, h4]
      · have h4 : ¬ Nat.min ys.length m + (i - Nat.min ys.length m) < n := by omega
        simp [arrC, cpA, h2, h4]
  rw [hout] at hcp
  simp only [execOp]
  simp [resolve, invoke, builtin, hρ x _ hx, hρ y _ hy, hcp, goInt]
theorem arr_cut_le {n : Nat} {p q : Int} {xs ys : List Int} (hg : gcut (arrL n xs) p q = some ys) : ys.length ≤ n := by
  obtain ⟨h3, h4, h5, _, h6⟩ := gcut_some hg
  rw [arrL_len] at h5
  omega
theorem eqArrT {t e : TypeId} {n : Nat} {k : IntKind} (ht : P.underlying t = some (.array n e)) (he : P.underlying e = some (.int k)) (hs : sizeT P e 1 = true) (x y : List Int) {xs ys : List Value} (w : World) (hx : xs = arrC n k x) (hy : ys = arrC n k y) :
    (Op.equalIn 10000 t (.agg xs.toArray) (.agg ys.toArray)).run P w = .ok (arrEq n x y) w := by
  subst hx; subst hy; exact eq_arr' ht he hs 9998 x y w
theorem Rd.arrTo {n : Nat} {a : Addr} {xs ys : List Int} (h : Cs w a (arrC n k xs)) (hn : Nat.beq n 0 = false) (hm : Nat.ble n 4096 = true) (hg : gcut (arrL n xs) 0 q = some ys) : Rd w (some (a.add (0 * 1))) n 1 ys.length (ys.flatMap (eI k)) := by
  have h1 := Rd.arr h hn hm
  obtain ⟨h3, h4, h5, h6, h7⟩ := gcut_some hg
  have e : ys = (arrL n xs).take q.toNat := by simpa using h6
  rw [arrL_len] at h5
  have e2 : ys.flatMap (eI k) = ((arrL n xs).flatMap (eI k)).take ys.length := by
    rw [flat_map, flat_map, ← List.map_take, h7, e]
    simp
  refine ⟨by rw [flat_map]; simp, by omega, h1.most, fun h0 => ?_, fun h => by cases h⟩
  obtain ⟨ad, ea, hb, hc⟩ := h1.adr (by rw [arrL_len]; omega)
  exact ⟨ad, ea, hb, by rw [e2]; exact hc.take _⟩
end
end Go.Ox
