/- A plain library: strings and rows, arrays of slices, what lies apart. No program is named here. -/
import Derived.Test.YtidbgejnkpoeeaaOxU
import Derived.Laws.IdiomStrings
set_option linter.unusedVariables false
namespace Go.Ox
open Go Go.RowKit
section
variable {F : Fence} {P : Program} {ops : Array Oper} {Q : Exit → Act → World → Prop} {rest : List Oper} {n d : Nat} {l l' : List (Nat × Value)} {w w0 w' : World} {L : List Ob} {S : List (Option Nat)}
variable {o : Op} {ty : TypeId} {pos : String} {after : Array Edge} {v : Value}
variable {x y z : Operand} {k k' k2 : IntKind} {p q : Int} {t t' e : TypeId} {A A2 : Option Addr} {s c c2 b m n1 : Nat} {i j : Nat}

/-! ### A byte of a string -/
def gidxS (a : ByteArray) (i : Int) : Option Int := if 0 ≤ i then (a[i.toNat]?).map (fun b => (b.toNat : Int)) else none
theorem O.idxS {a : ByteArray} {u : Int} (ht : P.underlying t = some .string) (hg : gidxS a p = some u) (hx : ev l x = some (.string a)) (hy : ev l y = some (.int k p)) : OpV P (.index t x y) ty l w (.int .u8 u) := fun ρ hρ _ _ _ _ => by
  unfold gidxS at hg
  split at hg
  · rename_i h0
    obtain ⟨b, hb, rfl⟩ := Option.map_eq_some_iff.1 hg
    simp only [execOp, hρ x _ hx, hρ y _ hy]
    simp [Instr.index, asIntOf, run_underlying ht, h0, hb]
  · cases hg

/-! ### An array of a slice -/
theorem O.s2a (ht : P.underlying t = some (.array n e)) (hn : n ≤ m) (hx : ev l x = some (.slice A m c)) : OpV P (.sliceToArrayPointer t x) ty l w (.pointer A) := fun ρ hρ _ _ _ _ => by
  simp only [execOp, hρ x _ hx]
  simp [Instr.arrayAt, run_underlying ht, Nat.not_lt.2 hn]
theorem O.nilps (hA : A.isSome = true) (hx : ev l x = some (.pointer A)) : OpV P (.nilCheck x) ty l w (.pointer A) := by
  obtain ⟨ad, rfl⟩ := Option.isSome_iff_exists.1 hA
  exact O.nilp hx
theorem O.loadNs {cs : List Value} (hA : A.isSome = true) (ht : isAggT P t cs.length = true) (hx : ev l x = some (.pointer A)) (hc : Cs w (A.getD zad) cs) : OpV P (.load t x) ty l w (.agg cs.toArray) := by
  obtain ⟨ad, rfl⟩ := Option.isSome_iff_exists.1 hA
  exact O.loadN ht hx hc
theorem Rd.arrCs {xs : List Int} (h : Rd w A c 1 xs.length (xs.flatMap (eI k))) (hn : n ≤ xs.length) : Cs w (A.getD zad) (arrC n k (arrL n xs)) := by
  intro j u hj
  rw [flat_map] at h
  have hjn : j < n := by have := (List.getElem?_eq_some_iff.1 hj).1; simpa [arrC] using this
  refine h.cs j u ?_
  rw [← hj]
  have hjx : j < xs.length := by omega
  simp [arrC, arrL, hjn, hjx]

/-! ### What lies apart from what is lent -/
theorem Mem.offB {cs : List Value} {g : Nat} {Ls : List Ob} (h : Mem w0 S w L) (js : List Nat) (hj : sel L js = some Ls) (hi : L[i]? = some (.box g e cs)) (hne : js.contains i = false) : Off (Ls.flatMap Ob.blks) n1 (some (Addr.add ⟨g, 0, none⟩ (0 * 1))) := fun hn ad had hS => by
  cases had
  obtain ⟨i', o', hi', hb'⟩ := map_blk hS
  obtain ⟨j', hj1, hj2⟩ := (sel_get hj).2 i' o' hi'
  rw [add_block] at hb'
  have e := h.sep _ _ _ _ g hj2 hi hb' (Ob.has_box.2 rfl)
  subst e
  simp only [List.contains_eq_mem, decide_eq_false_iff_not] at hne
  exact hne (List.mem_of_getElem? hj1)
theorem adds_block {a : Addr} : ∀ (offs : List Nat), (offs.foldl Addr.add a).block = a.block
  | [] => rfl
  | o :: r => by rw [List.foldl_cons, adds_block r, add_block]
theorem Mem.offBx {cs : List Value} {g : Nat} {Ls : List Ob} (h : Mem w0 S w L) (js : List Nat) (hj : sel L js = some Ls) (hi : L[i]? = some (.box g e cs)) (offs : List Nat) (hne : js.contains i = false) {a : Addr} (ha : a = offs.foldl Addr.add ⟨g, 0, none⟩) : Off (Ls.flatMap Ob.blks) n1 (some (Addr.add a (0 * 1))) := fun hn ad had hS => by
  cases had
  subst ha
  obtain ⟨i', o', hi', hb'⟩ := map_blk hS
  obtain ⟨j', hj1, hj2⟩ := (sel_get hj).2 i' o' hi'
  rw [add_block, adds_block] at hb'
  have e := h.sep _ _ _ _ g hj2 hi hb' (Ob.has_box.2 rfl)
  subst e
  simp only [List.contains_eq_mem, decide_eq_false_iff_not] at hne
  exact hne (List.mem_of_getElem? hj1)

/-! ### []byte(s): a row that is read alone -/
def numsOfStr (a : ByteArray) : List Int := a.data.toList.map fun b => (b.toNat : Int)
def RdP (A : Option Addr) (c s n : Nat) (cs : List Value) (w : World) : Prop := Rd w A c s n cs
theorem Mem.rdP {Z : List Nat} {cs : List Value} (h : Mem w0 S w L) (hi : L[i]? = some (.res Z (RdP A c s n1 cs))) : Rd w A c s n1 cs := Ob.res_φ (h.ok i _ hi)
theorem E.s2b {a : ByteArray} (hM : Mem w0 S w L) (hs : P.underlying t = some .string) (ht : SliceT P t' e s b) (he : P.underlying e = some (.int .u8)) (hx : ev l x = some (.string a)) (hl : a.size ≤ lim) :
    Eff P (.convert t t' x) ty l w (fun v w' => ∃ A' c' Z, v = .slice A' (numsOfStr a).length c' ∧ Mem w0 S w' (L ++ [.res Z (RdP A' c' 1 (numsOfStr a).length ((numsOfStr a).flatMap (eI .u8)))]) ∧ Chg [] w w') := by
  have hlen : (numsOfStr a).length = a.size := by rw [numsOfStr, List.length_map]; exact Array.length_toList
  generalize hc : grownCap w a.size 0 e = c'
  have hcap : a.size ≤ c' ∧ c' ≤ maxLen := by
    rw [← hc]
    exact ⟨grownCap_ge _ _ _ _, grownCap_le_maxLen _ _ _ _ (by simp only [lim] at hl; simp only [maxLen]; omega)⟩
  have hch : Chg [] w (w.drew.alloc (.cells (bytesRow a c') e ((bytesRow a c').size, (bytesRow a c').size + 1))) := ⟨rfl, rfl, rfl, by show w.heap.size ≤ (w.heap.push _).size; simp, fun k hk _ => by
    show (w.heap.push _)[k]? = _
    simp [Array.getElem?_push, Nat.ne_of_lt hk], Nat.le_succ _⟩
  refine ⟨.slice (some ⟨w.heap.size, 0, none⟩) a.size c', w.drew.alloc (.cells (bytesRow a c') e ((bytesRow a c').size, (bytesRow a c').size + 1)), fun ρ hρ _ _ _ _ => ?_, some ⟨w.heap.size, 0, none⟩, c', [w.heap.size], by rw [hlen], ?_, hch⟩
  · simp only [execOp, hρ x _ hx, Sem.run_bind, run_bytes_of_string w t t' e a hs ht.1 he, hc]
    rfl
  · have hcell : ∀ w1 : World, (∀ g ∈ [w.heap.size], w1.heap[g]? = (w.drew.alloc (.cells (bytesRow a c') e ((bytesRow a c').size, (bytesRow a c').size + 1))).heap[g]?) → w1.heap[w.heap.size]? = some (.cells (bytesRow a c') e ((bytesRow a c').size, (bytesRow a c').size + 1)) := fun w1 h1 => by
      rw [h1 _ (by simp)]
      show (w.heap.push _)[w.heap.size]? = _
      simp
    refine hM.push ⟨hch.os, hch.tape, hch.output, hch.size, fun k hk => hch.block k hk (by simp)⟩ ⟨fun g hg => ?_, fun w1 h1 => ?_⟩ (fun g hg => by have := Ob.has_res.1 hg; simp at this; omega)
    · simp at hg
      subst hg
      show w.heap.size < (w.heap.push _).size
      simp
    · have h2 := hcell w1 h1
      refine ⟨by rw [flat_length (s := 1) (fun _ => rfl)], by rw [hlen]; exact hcap.1, hcap.2, fun hn => ⟨_, rfl, (Array.getElem?_eq_some_iff.1 h2).1, fun j u hj => ?_⟩, fun h => by cases h⟩
      rw [add_at]
      unfold World.cell?
      simp only [h2]
      rw [flat_map] at hj
      have hjl : j < a.size := by have := (List.getElem?_eq_some_iff.1 hj).1; simpa [hlen] using this
      simp only [numsOfStr, List.map_map, List.getElem?_map] at hj
      simp at hj
      obtain ⟨b, hb, rfl⟩ := hj
      simp [bytesRow, Array.getElem?_append, hb]
      exact fun h => by omega
end
end Go.Ox
