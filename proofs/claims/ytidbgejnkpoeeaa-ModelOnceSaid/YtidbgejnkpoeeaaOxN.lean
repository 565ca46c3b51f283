/- A plain library: boxes that are only looked at. No program is named here. -/
import Derived.Test.YtidbgejnkpoeeaaOxL
import Derived.Test.YtidbgejnkpoeeaaOxM
set_option linter.unusedVariables false
namespace Go.Ox
open Go Go.RowKit Go.Shelf Go.Proofs
def Ob.isBox : Ob → Bool
  | .box .. => true
  | _ => false
theorem Ob.isBox_eq {o : Ob} (h : o.isBox = true) : ∃ g e cs, o = .box g e cs := by
  cases o with
  | box g e cs => exact ⟨g, e, cs, rfl⟩
  | row A c e s n cs => cases h
  | res Z φ => cases h
theorem Ob.box_all {Ls : List Ob} (hb : Ls.all Ob.isBox = true) {i : Nat} {o : Ob} (hi : Ls[i]? = some o) : ∃ g e cs, o = .box g e cs :=
  Ob.isBox_eq (List.all_eq_true.1 hb o (List.mem_of_getElem? hi))
/-- What was lent is as it was: nothing has turned. -/
theorem Mem.still {w w' : World} {Ls : List Ob} {S : List (Option Nat)} (h : Mem w S w' Ls) (hL : Lent w Ls) (hb : Ls.all Ob.isBox = true) (hS : Ls.flatMap Ob.blks = S) : Mem w [] w' [] := by
  refine ⟨⟨h.chg.os, h.chg.tape, h.chg.output, h.chg.size, fun k hk _ => ?_, h.chg.drawn⟩, fun i o hi => by simp at hi, fun i o g hi => by simp at hi, fun i j a b g hi => by simp at hi⟩
  by_cases hm : some k ∈ S
  · rw [← hS] at hm
    obtain ⟨i, o, hi, hg⟩ := map_blk hm
    obtain ⟨g, e, cs, rfl⟩ := Ob.box_all hb hi
    have hgk := Ob.has_box.1 hg
    subst hgk
    have h1 : w'.heap[g]? = some (.cells cs.toArray e (0, 0)) := h.ok i _ hi
    have h2 : w.heap[g]? = some (.cells cs.toArray e (0, 0)) := hL.ok i _ hi
    rw [h1, h2]
  · exact h.chg.block k hk hm
variable {P : Program} {ρ : Ren} {α : Type} [Inhabited α] {enc : α → List Value} {w w0 w' : World} {A : Option Addr} {s c k : Nat} {e : TypeId}
/-- slices.SortFunc on a row that is lent, by a comparison that looks at boxes. -/
theorem c_srtC {Ls : List Ob} (L : SlLaysF0.n6 P ρ) (ha : isAggT P (ρ.t 24) s = true) (hlen : ∀ x, (enc x).length = s) (h1 : ∀ x, One (enc x)) (hs : Nat.blt 0 s = true) {cf : α → α → Int} (hO : Sort.SWO (ltOf cf)) {g : Nat} {fn : Func} (hf : P.funcs[g]? = some fn) (hb : (!(fn.name == "runtime.NumGoroutine") && !fn.body.isNone) = true) {cb : List Value}
    {xs : List α} (hL : Lent w (.row A c e s xs.length (xs.flatMap enc) :: Ls)) (hB : Ls.all Ob.isBox = true) (hn : xs.length ≤ lim)
    (hcmp : ∀ w1 : World, Lent w1 Ls → ∀ x y, CallsR P g ([.agg (enc x).toArray, .agg (enc y).toArray] ++ cb) w1 (fun v w' => v = .int .i64 (cf x y) ∧ Mem w1 [] w' [])) :
    CallsR P (ρ.f 6) [.slice A xs.length c, .func (.func g) #[] cb.toArray] w (fun v w' => v = .tuple #[] ∧ xs.length = (srt cf xs).length ∧ Mem w [rblk A c] w' [.row A c e s (srt cf xs).length ((srt cf xs).flatMap enc)]) := by
  have hR : Lent w [.row A c e s xs.length (xs.flatMap enc)] := ⟨fun i o hi => by
    cases i with
    | zero => exact hL.ok 0 o (by simpa using hi)
    | succ i => simp at hi, fun i j a b g hi hj _ _ => by
    cases i <;> cases j <;> simp at hi hj
    rfl⟩
  refine c_srt L ha hlen h1 hs hO hf hb hR hn fun w1 hsz hbl x y => hcmp w1 ⟨fun i o hi => ?_, fun i j a b g hi hj ha hb => ?_⟩ x y
  · obtain ⟨g, e', cs, rfl⟩ := Ob.box_all hB hi
    have h2 : (Ob.box g e' cs).ok w := hL.ok (i + 1) _ (by simpa using hi)
    have h2 : w.heap[g]? = some (.cells cs.toArray e' (0, 0)) := h2
    have hlt : g < w.heap.size := (Array.getElem?_eq_some_iff.1 h2).1
    have hne : rblk A c ≠ some g := fun he => by
      have := hL.sep 0 (i + 1) _ _ g rfl (by simpa using hi) (Ob.has_row.2 he) (Ob.has_box.2 rfl)
      omega
    show w1.heap[g]? = some (.cells cs.toArray e' (0, 0))
    rw [hbl g hlt hne]; exact h2
  · have := hL.sep (i + 1) (j + 1) a b g (by simpa using hi) (by simpa using hj) ha hb
    omega
end Go.Ox
