/- A plain library: a row that grows while parts of it are held elsewhere. No program is named here. -/
import Derived.Test.YtidbgejnkpoeeaaOxN
set_option linter.unusedVariables false
namespace Go.Ox
open Go Go.RowKit
section
variable {P : Program} {l : List (Nat × Value)} {w w0 w' : World} {L : List Ob} {S : List (Option Nat)} {o : Op} {ty : TypeId} {v : Value}
variable {x y : Operand} {t e : TypeId} {A A2 : Option Addr} {s c c2 b m n1 : Nat} {α : Type} {enc : α → List Value}
/-- append: in place, or into a new block; then the old row stays as it was. -/
theorem E.appK {xs ys : List α} {z : List Value} {j : Nat} (hM : Mem w0 S w L) (hi : L[j]? = some (.row A c e s xs.length (xs.flatMap enc))) (ht : SliceT P t e s b) (hz : ZeroT P e z) (hzs : Nat.beq z.length s = true) (hs : Nat.blt 0 s = true) (hb : Nat.ble b 128 = true)
    (hx : ev l x = some (.slice A xs.length c)) (hy : ev l y = some (.slice A2 ys.length c2)) (hr : Rd w A2 c2 s ys.length (ys.flatMap enc)) (h1 : ∀ x, One (enc x)) (hmax : xs.length + ys.length ≤ lim) (hpos : 0 < ys.length) :
    Eff P (.call ⟨.builtin .append, #[x, y], #[t, t]⟩) ty l w (fun v w' => ∃ A' c', v = .slice A' (xs ++ ys).length c' ∧
      (((A' = A ∨ xs = []) ∧ Mem w0 S w' (L.set j (.row A' c' e s (xs ++ ys).length ((xs ++ ys).flatMap enc)))) ∨ Mem w0 S w' (L ++ [.row A' c' e s (xs ++ ys).length ((xs ++ ys).flatMap enc)]))) := by
  have hb' : b ≤ 128 := Nat.le_of_ble_eq_true hb
  have hm2 : (xs.length + ys.length) * b ≤ 1099511627776 * 128 := Nat.mul_le_mul hmax hb'
  have hzs' := Nat.eq_of_beq_eq_true hzs
  have hs' : 0 < s := by simpa using hs
  have hmx : xs.length + ys.length ≤ maxLen := by simp only [maxLen]; simp only [lim] at hmax; omega
  obtain ⟨A', c', w', hrun, hM', hch⟩ := run_app (ty := ty) hM hi ht hz hzs' hs' hr (One.flat h1) (by omega) hmx
  have e1 : xs.length + ys.length = (xs ++ ys).length := by simp
  have e2 : xs.flatMap enc ++ ys.flatMap enc = (xs ++ ys).flatMap enc := by simp
  have hjl : j < L.length := (List.getElem?_eq_some_iff.1 hi).1
  have fin : ((A' = A ∨ xs = []) ∧ Mem w0 S w' (L.set j (.row A' c' e s (xs ++ ys).length ((xs ++ ys).flatMap enc)))) ∨ Mem w0 S w' (L ++ [.row A' c' e s (xs ++ ys).length ((xs ++ ys).flatMap enc)]) := by
    rw [← e1, ← e2]
    have hok := hM.ok j _ hi
    by_cases hc0 : c = 0
    · have h0 := (hok.2 hc0).1
      exact .inl ⟨.inr (List.eq_nil_of_length_eq_zero h0), hM'⟩
    · have hown := hok.1 hc0
      obtain ⟨ad, rfl, _, hcs⟩ := hr.adr hpos
      obtain ⟨i, hinf, hsz, hbz⟩ := ht.info
      obtain ⟨zv, hzv, hzc⟩ := hz.info hinf
      rcases hown.2 with ⟨hv, _⟩ | ⟨g, cap, cur, hv, _, hg, hnc, hcm, hcsz, htake⟩
      · injection hv with _ _ h3; exact (hc0 h3).elim
      · injection hv with h3 _ h4
        subst h3; subst h4; subst hsz; subst hbz
        have hnews : ∀ j u, (ys.flatMap enc)[j]? = some u → w.cell? (ad.add j) = some u := fun j u hu => hcs j u hu
        by_cases hroom : xs.length + ys.length ≤ c
        · have hfit : xs.length * i.size + (ys.flatMap enc).length ≤ cur.size := by rw [hr.len, hcsz, ← Nat.add_mul]; exact Nat.mul_le_mul_right _ hroom
          have hrr := run_append_room (P := P) w t ty e i ht.1 hinf g xs.length c cur hg ad ys.length c2 _ hr.len hnews (One.flat h1) hroom hfit
          rw [hrun] at hrr
          injection hrr with h5 h6
          injection h5 with h7 _ h8
          exact .inl ⟨.inl h7, hM'⟩
        · have holds : ∀ j u, (xs.flatMap enc)[j]? = some u → w.cell? ((⟨g, 0, none⟩ : Addr).add j) = some u := hown.cells (g := g) rfl
          have hrr := run_append_grow (P := P) w t ty e i zv ht.1 hinf hzv ⟨g, 0, none⟩ xs.length c _ hown.1 holds ad ys.length c2 _ hr.len hnews (by omega) (by simp only [maxLen] at hmx; omega) (growslice_fits (by omega) (by omega))
          rw [hrun] at hrr
          injection hrr with h5 h6
          injection h5 with h7 _ h8
          have hrow := hM'.ok j _ (List.getElem?_set_self hjl)
          refine .inr (hM.push (w' := w') ?_ hrow (fun g' hg' => ?_) (run_drawn _ _ hrun))
          · rw [h6]
            exact ⟨rfl, rfl, rfl, by simp, fun k hk => heap_alloc_old w.drew _ hk⟩
          · have := (rblk_some (Ob.has_row.1 hg')).2
            rw [h7] at this
            simp at this; omega
  rw [e1] at hrun
  refine ⟨.slice A' (xs ++ ys).length c', w', fun ρ hρ _ _ _ _ => ?_, A', c', rfl, fin⟩
  simp only [execOp]
  simp [resolve, invoke, builtin, hρ x _ hx, hρ y _ hy, hrun]
end
end Go.Ox
