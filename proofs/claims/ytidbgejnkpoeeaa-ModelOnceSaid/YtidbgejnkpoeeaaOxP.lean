/- A plain library: numbers and lists as the printed functions name them. No program is named here. -/
import Derived.Test.YtidbgejnkpoeeaaOxF
set_option linter.unusedVariables false
namespace Go.Ox
open Go Go.RowKit
theorem wu8 (n : Int) : IntKind.u8.wrap n = n % 256 := IntKind.wrap_u8 n
theorem wu16 (n : Int) : IntKind.u16.wrap n = n % 65536 := IntKind.wrap_u16 n
theorem wu32 (n : Int) : IntKind.u32.wrap n = n % 4294967296 := IntKind.wrap_u32 n
theorem wu64 (n : Int) : IntKind.u64.wrap n = n % 18446744073709551616 := IntKind.wrap_u64 n
theorem wi64 {n : Int} (h0 : -9223372036854775808 ≤ n) (h1 : n ≤ 9223372036854775807) : IntKind.i64.wrap n = n := by rw [IntKind.wrap_i64]; omega
theorem wu8i {n : Int} (h0 : 0 ≤ n) (h1 : n < 256) : IntKind.u8.wrap n = n := by rw [wu8]; omega
theorem wu16i {n : Int} (h0 : 0 ≤ n) (h1 : n < 65536) : IntKind.u16.wrap n = n := by rw [wu16]; omega
theorem wu32i {n : Int} (h0 : 0 ≤ n) (h1 : n < 4294967296) : IntKind.u32.wrap n = n := by rw [wu32]; omega
theorem wu64i {n : Int} (h0 : 0 ≤ n) (h1 : n < 18446744073709551616) : IntKind.u64.wrap n = n := by rw [wu64]; omega
theorem tdiv_nn {a b : Int} (h : 0 ≤ a) : Int.tdiv a b = a / b := Int.tdiv_eq_ediv_of_nonneg h
theorem tmod_nn {a b : Int} (h : 0 ≤ a) : Int.tmod a b = a % b := Int.tmod_eq_emod_of_nonneg h
/-- All in a row lie from 0 up to below m. -/
def Wf (m : Int) (xs : List Int) : Prop := ∀ x ∈ xs, 0 ≤ x ∧ x < m
theorem Wf.nil {m : Int} : Wf m [] := fun x h => by cases h
theorem Wf.cons {m : Int} {x : Int} {xs : List Int} (h : 0 ≤ x ∧ x < m) (hr : Wf m xs) : Wf m (x :: xs) := fun y hy => by
  rcases List.mem_cons.1 hy with rfl | hy
  · exact h
  · exact hr y hy
theorem Wf.head {m : Int} {x : Int} {xs : List Int} (h : Wf m (x :: xs)) : 0 ≤ x ∧ x < m := h x (by simp)
theorem Wf.tail {m : Int} {x : Int} {xs : List Int} (h : Wf m (x :: xs)) : Wf m xs := fun y hy => h y (by simp [hy])
theorem Wf.app {m : Int} {xs ys : List Int} (h : Wf m xs) (k : Wf m ys) : Wf m (xs ++ ys) := fun y hy => by
  rcases List.mem_append.1 hy with hy | hy
  · exact h y hy
  · exact k y hy
theorem Wf.left {m : Int} {xs ys : List Int} (h : Wf m (xs ++ ys)) : Wf m xs := fun y hy => h y (by simp [hy])
theorem Wf.right {m : Int} {xs ys : List Int} (h : Wf m (xs ++ ys)) : Wf m ys := fun y hy => h y (by simp [hy])
theorem Wf.drop {m : Int} {xs : List Int} (h : Wf m xs) (n : Nat) : Wf m (xs.drop n) := fun y hy => h y (List.mem_of_mem_drop hy)
theorem Wf.take {m : Int} {xs : List Int} (h : Wf m xs) (n : Nat) : Wf m (xs.take n) := fun y hy => h y (List.mem_of_mem_take hy)
theorem Wf.get {m : Int} {xs : List Int} (h : Wf m xs) {i : Nat} {x : Int} (hi : xs[i]? = some x) : 0 ≤ x ∧ x < m := h x (List.mem_of_getElem? hi)
theorem Wf.set {m : Int} {xs : List Int} (h : Wf m xs) (i : Nat) {x : Int} (hx : 0 ≤ x ∧ x < m) : Wf m (xs.set i x) := fun y hy => by
  rcases List.mem_or_eq_of_mem_set hy with hy | rfl
  · exact h y hy
  · exact hx
theorem gidx_nat {α : Type} {xs : List α} {i : Nat} {x : α} (h : xs[i]? = some x) : gidx xs (i : Int) = some x := by
  unfold gidx; rw [if_pos (by omega)]; simpa using h
theorem gidx_in {α : Type} {xs : List α} {i : Int} (h0 : 0 ≤ i) (h1 : i < xs.length) : gidx xs i = some (xs[i.toNat]'(by omega)) := by
  unfold gidx; rw [if_pos h0]; exact List.getElem?_eq_getElem (by omega)
theorem gcut_in {α : Type} {xs : List α} {p q : Int} (h0 : 0 ≤ p) (h1 : p ≤ q) (h2 : q ≤ xs.length) : gcut xs p q = some ((xs.drop p.toNat).take (q.toNat - p.toNat)) := by
  unfold gcut; rw [if_pos ⟨h0, h1, h2⟩]
theorem lim_le {n : Nat} (h : n < 1000000000000) : decide (n ≤ lim) = true := decide_eq_true (Nat.le_of_lt (Nat.lt_of_lt_of_le h (by decide)))
end Go.Ox
