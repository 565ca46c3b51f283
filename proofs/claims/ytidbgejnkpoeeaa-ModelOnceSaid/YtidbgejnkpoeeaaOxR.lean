/- A plain library: arrays of numbers behind a pointer: an index, a slice of the whole or of a head of it. No program is named here. -/
import Derived.Test.YtidbgejnkpoeeaaOxQ
import Derived.Laws.CopyRow
set_option linter.unusedVariables false
namespace Go.Ox
open Go Go.RowKit
section
variable {F : Fence} {P : Program} {ops : Array Oper} {Q : Exit → Act → World → Prop} {rest : List Oper} {n d : Nat} {l l' : List (Nat × Value)} {w w' : World}
variable {o : Op} {ty : TypeId} {pos : String} {after : Array Edge} {v : Value} {x y : Operand} {k k' : IntKind} {p q : Int} {t e : TypeId}
def gidxA (n : Nat) (xs : List Int) (i : Int) : Option Int := if 0 ≤ i ∧ i < n then some (xs.getD i.toNat 0) else none
theorem gidxA_some {xs : List Int} {i z : Int} (h : gidxA n xs i = some z) : 0 ≤ i ∧ i < n ∧ xs.getD i.toNat 0 = z := by
  unfold gidxA at h
  split at h
  · rename_i hi; cases h; exact ⟨hi.1, hi.2, rfl⟩
  · cases h
theorem O.idxP {a : Addr} {xs : List Int} {z : Int} (ht : P.underlying t = some (.array n e)) (hs : sizeT P e 1 = true) (hg : gidxA n xs p = some z) (hx : ev l x = some (.pointer (some a))) (hy : ev l y = some (.int k p)) :
    OpV P (.indexAddr t x y) ty l w (.pointer (some (a.add (p.toNat * 1)))) := fun ρ hρ _ _ _ _ => by
  obtain ⟨h0, h1, _⟩ := gidxA_some hg
  simp only [execOp, hρ x _ hx, hρ y _ hy]
  simp [Instr.indexAt, asIntOf, run_underlying ht, sizeT_run hs, Instr.sureAddr, h0, h1]
theorem Cs.arrAt {a : Addr} {cs : List Value} {xs : List Int} {z : Int} (offs : List Nat) (h : Cs w a cs) (hd : (cs.drop (offs.foldr (· + ·) 0)).take (arrC n k xs).length = arrC n k xs) (hg : gidxA n xs p = some z) :
    w.cell? ((offs.foldl Addr.add a).add (p.toNat * 1)) = some (.int k z) := by
  obtain ⟨h0, h1, rfl⟩ := gidxA_some hg
  have hc := Cs.addsN offs h hd
  have hi : p.toNat < n := by omega
  exact hc _ _ (by simp [arrC, hi])

/-- The n numbers of an array. -/
def arrL (n : Nat) (xs : List Int) : List Int := (List.range n).map fun i => xs.getD i 0
theorem arrL_len {xs : List Int} : (arrL n xs).length = n := by simp [arrL]
theorem flat_map (ys : List Int) : ys.flatMap (eI k) = ys.map fun z => Value.int k z := by
  induction ys with
  | nil => rfl
  | cons z zs ih => rw [List.flatMap_cons, ih]; rfl
theorem arrL_enc {xs : List Int} : (arrL n xs).flatMap (eI k) = arrC n k xs := by
  rw [flat_map]
  simp [arrL, arrC]
theorem O.slArr {a : Addr} {xs : List Int} (ht : P.underlying t = some (.array n e)) (hs : sizeT P e 1 = true) (hn : Nat.beq n 0 = false) (hx : ev l x = some (.pointer (some a))) :
    OpV P (.slice t x none none none) ty l w (.slice (some (a.add (0 * 1))) (arrL n xs).length n) := fun ρ hρ _ _ _ _ => by
  have hn0 : n ≠ 0 := fun h => by subst h; simp at hn
  simp only [execOp, hρ x _ hx, arrL_len]
  simp [Instr.sliceAt, run_underlying ht, sizeT_run hs, Instr.sureAddr, Instr.sliceBounds, hn0]
theorem O.slArrTo {a : Addr} {xs ys : List Int} (ht : P.underlying t = some (.array n e)) (hs : sizeT P e 1 = true) (hn : Nat.beq n 0 = false) (hg : gcut (arrL n xs) 0 q = some ys) (hx : ev l x = some (.pointer (some a))) (hy : ev l y = some (.int k q)) :
    OpV P (.slice t x none (some y) none) ty l w (.slice (some (a.add (0 * 1))) ys.length n) := fun ρ hρ _ _ _ _ => by
  have hn0 : n ≠ 0 := fun h => by subst h; simp at hn
  obtain ⟨h3, h4, h5, _, h6⟩ := gcut_some hg
  rw [arrL_len] at h5
  simp only [execOp, hρ x _ hx, h6]
  simp [Instr.sliceAt, run_underlying ht, sizeT_run hs, Instr.sureAddr, Instr.sliceBounds, hn0, hρ y _ hy, Instr.sliceBound, asIntOf, h4, h5]
theorem Rd.arr {a : Addr} {xs : List Int} (h : Cs w a (arrC n k xs)) (hn : Nat.beq n 0 = false) (hm : Nat.ble n 4096 = true) : Rd w (some (a.add (0 * 1))) n 1 (arrL n xs).length ((arrL n xs).flatMap (eI k)) := by
  have hn0 : n ≠ 0 := fun h => by subst h; simp at hn
  have hm := Nat.le_of_ble_eq_true hm
  have e : a.add (0 * 1) = a := by simp [Addr.add]
  rw [e, arrL_enc, arrL_len]
  refine ⟨by simp [arrC], Nat.le_refl _, by unfold maxLen; omega, fun _ => ⟨a, rfl, ?_, h⟩, fun h => by cases h⟩
  have h0 := h 0 (.int k (xs.getD 0 0)) (by simp only [arrC, List.getElem?_map]; rw [List.getElem?_range (by omega)]; rfl)
  have e0 : a.add 0 = a := by simp [Addr.add]
  rw [e0] at h0
  unfold World.cell? at h0
  by_cases hb : a.block < w.heap.size
  · exact hb
  · rw [Array.getElem?_eq_none (by omega)] at h0; cases h0
/-- What an array holds once m numbers were copied to its head. -/
def cpA (n m : Nat) (xs ys : List Int) : List Int := (List.range n).map fun i => if i < m then ys.getD i 0 else xs.getD i 0
theorem E.copyA {S : List (Option Nat)} {L : List Ob} {w0 : World} {j g n m b c : Nat} {e0 ta tb ea : TypeId} {a : Addr} {xs ys : List Int} (hM : Mem w0 S w L) (hi : L[j]? = some (.box g e0 (arrC n k xs))) (ht : SliceT P ta ea 1 b)
    (hx : ev l x = some (.slice (some ((⟨g, 0, none⟩ : Addr).add (0 * 1))) m n)) (hm : m ≤ n) (hy : ev l y = some (.slice (some a) ys.length c)) (hr : Rd w (some a) c 1 ys.length (ys.flatMap (eI k))) :
    Eff P (.call ⟨.builtin .copy, #[x, y], #[ta, tb]⟩) ty l w (fun v w' => v = .int .i64 (Nat.min ys.length m : Nat) ∧ Mem w0 S w' (L.set j (.box g e0 (arrC n k (cpA n (Nat.min ys.length m) xs ys))))) := by
  obtain ⟨i, hinfo, hsz, _⟩ := ht.info
  have hsrc : Cs w a (ys.flatMap (eI k)) := hr.cs
  refine ⟨_, w.setRow g (arrC n k (cpA n (Nat.min ys.length m) xs ys)).toArray, fun ρ hρ _ _ _ _ => ?_, rfl, hM.setBox hi⟩
  have e : ((⟨g, 0, none⟩ : Addr).add (0 * 1)) = ⟨g, 0, none⟩ := by simp [Addr.add]
  rw [e] at hx
  have hmap := flat_map (k := k) ys
  have hcp := run_copy_row (P := P) w ta tb ty ea g 0 m n a ys.length c (arrC n k xs).toArray e0 ((ys.take (Nat.min ys.length m)).map fun z => Value.int k z) ht.1 (by simp [hinfo, hsz]) (hM.ok j _ hi) (by simp)
    (fun q u hq => hsrc q u (by
      rw [hmap]
      simp only [List.getElem?_map, List.getElem?_take] at hq ⊢
      split at hq
      · exact hq
      · simp at hq)) (by simp [arrC]; omega) (fun u hu => by obtain ⟨z, _, rfl⟩ := List.mem_map.1 hu; rfl)
  have hout : ((arrC n k xs).toArray.toList.take 0 ++ (ys.take (Nat.min ys.length m)).map (fun z => Value.int k z) ++ (arrC n k xs).toArray.toList.drop (0 + ((ys.take (Nat.min ys.length m)).map fun z => Value.int k z).length)) = arrC n k (cpA n (Nat.min ys.length m) xs ys) := by
    have hml : ((ys.take (Nat.min ys.length m)).map fun z => Value.int k z).length = Nat.min ys.length m := by simp
    have hm1 : Nat.min ys.length m ≤ ys.length := Nat.min_le_left _ _
    have hm2 : Nat.min ys.length m ≤ m := Nat.min_le_right _ _
    apply List.ext_getElem?
    intro i
    simp only [List.take_zero, List.nil_append, Nat.zero_add, hml]
    by_cases h1 : i < Nat.min ys.length m
    · rw [List.getElem?_append_left (by omega)]
      have h2 : i < n := by omega
      have h3 : i < ys.length := by omega
      simp [arrC, cpA, h2, h1, h3]
    · rw [List.getElem?_append_right (by omega), hml]
      by_cases h2 : i < n
      · have h4 : Nat.min ys.length m + (i - Nat.min ys.length m) = i := by omega
        simp [arrC, cpA, h2, h1, h4]
      · have h4 : ¬ Nat.min ys.length m + (i - Nat.min ys.length m) < n := by omega
        simp [arrC, cpA, h2, h4]
  rw [hout] at hcp
  simp only [execOp]
  simp [resolve, invoke, builtin, hρ x _ hx, hρ y _ hy, hcp, goInt]
theorem arr_cut_le {n : Nat} {p q : Int} {xs ys : List Int} (hg : gcut (arrL n xs) p q = some ys) : ys.length ≤ n := by
  obtain ⟨h3, h4, h5, _, h6⟩ := gcut_some hg
  rw [arrL_len] at h5
  omega
theorem arr_all_le {n : Nat} {xs : List Int} : (arrL n xs).length ≤ n := Nat.le_of_eq arrL_len
/-- Equality of two arrays. -/
theorem eqArrT {t e : TypeId} {n : Nat} {k : IntKind} (ht : P.underlying t = some (.array n e)) (he : P.underlying e = some (.int k)) (hs : sizeT P e 1 = true) (x y : List Int) {xs ys : List Value} (w : World) (hx : xs = arrC n k x) (hy : ys = arrC n k y) :
    (Op.equalIn 10000 t (.agg xs.toArray) (.agg ys.toArray)).run P w = .ok (arrEq n x y) w := by
  subst hx; subst hy; exact eq_arr' ht he hs 9998 x y w
/-- The head of an array. -/
theorem Rd.arrTo {n : Nat} {a : Addr} {xs ys : List Int} (h : Cs w a (arrC n k xs)) (hn : Nat.beq n 0 = false) (hm : Nat.ble n 4096 = true) (hg : gcut (arrL n xs) 0 q = some ys) : Rd w (some (a.add (0 * 1))) n 1 ys.length (ys.flatMap (eI k)) := by
  have h1 := Rd.arr h hn hm
  obtain ⟨h3, h4, h5, h6, h7⟩ := gcut_some hg
  have e : ys = (arrL n xs).take q.toNat := by simpa using h6
  rw [arrL_len] at h5
  have e2 : ys.flatMap (eI k) = ((arrL n xs).flatMap (eI k)).take ys.length := by
    rw [flat_map, flat_map, ← List.map_take, h7, e]
    simp
  refine ⟨by rw [flat_map]; simp, by omega, h1.most, fun h0 => ?_, fun h => by cases h⟩
  obtain ⟨ad, ea, hb, hc⟩ := h1.adr (by rw [arrL_len]; omega)
  exact ⟨ad, ea, hb, by rw [e2]; exact hc.take _⟩
/-! ### An array of numbers as a value -/
theorem O.bldA {n s : Nat} {z cs : List Value} {parts : Array (Nat × Operand)} {vs : List (Nat × Value)} (ht : P.underlying t = some (.array n e)) (hs : sizeT P e s = true) (hz : ZeroT P t z) (hv : evps l parts.toList = some vs)
    (hf0 : fillL (fun i => some (i * s, s)) z vs = some cs) : OpV P (.build t parts) ty l w (.agg cs.toArray) := fun ρ hρ _ _ _ _ => by
  have hf := fill_eq _ _ _ _ hf0
  unfold ZeroT at hz
  obtain ⟨i, hi, h2⟩ := Option.map_eq_some_iff.1 hz
  obtain ⟨zv, hzv, hzc⟩ := Option.map_eq_some_iff.1 h2
  simp only [execOp, evps_map hρ hv, Instr.build, Sem.run_bind, zeroValue, typeInfo, run_program, Result.andThen_ok, hi, Sem.run_pure, hzv, run_underlying ht, sizeT_run hs, hzc]
  simp [hf]
theorem O.idxAr {n : Nat} {cs : List Value} {xs : List Int} {z : Int} (ht : P.underlying t = some (.array n e)) (hs : sizeT P e 1 = true) (hsc : isScalar P e = true) (hg : gidxA n xs p = some z) (hx : ev l x = some (.agg cs.toArray)) (hc : cs = arrC n k xs) (hy : ev l y = some (.int k' p)) :
    OpV P (.index t x y) ty l w (.int k z) := fun ρ hρ _ _ _ _ => by
  subst hc
  obtain ⟨h0, h1, rfl⟩ := gidxA_some hg
  have hi : p.toNat < n := by omega
  simp only [execOp, hρ x _ hx, hρ y _ hy]
  have : (arrC n k xs)[p.toNat]? = some (.int k (xs.getD p.toNat 0)) := by simp [arrC, hi]
  simp [Instr.index, asIntOf, run_underlying ht, h0, h1, sizeT_run hs, part, run_isAgg_scalar hsc, this]
end
end Go.Ox
