/- A plain library: objects that are taken together; rows of structs that hold rows of their own. No program is named here. -/
import Derived.Test.YteafnfoponjoeaaOxS
set_option linter.unusedVariables false
namespace Go.Ox
open Go Go.RowKit
section
variable {P : Program} {ops : Array Oper} {Q : Exit → Act → World → Prop} {rest : List Oper} {n d : Nat} {l l' : List (Nat × Value)} {w w0 w' : World} {L : List Ob} {S : List (Option Nat)}
variable {o : Op} {ty : TypeId} {pos : String} {after : Array Edge} {v : Value}
variable {x y z : Operand} {k k' k2 : IntKind} {p q : Int} {t t' e : TypeId} {A A2 : Option Addr} {s c c2 b m n1 : Nat}
variable {α : Type} {R : List (Option Nat) → World → α → List Value → Prop} {i j : Nat}

/-- Objects are taken together: of them is known what φ says, as long as their blocks are as they are. -/
theorem Mem.glue {Ls Lr : List Ob} (h : Mem w0 S w L) (js ks : List Nat) (hj : sel L js = some Ls) (hk : sel L ks = some Lr) (hdk : ks.Nodup) (hd : (ks.all fun k => !js.contains k) = true) (φ : List Nat → World → Prop)
    (hφ : ∀ (Z : List Nat) (w1 : World), (∀ (i : Nat) (o : Ob), Ls[i]? = some o → o.ok w1) → (∀ (i : Nat) (o : Ob) (g : Nat), Ls[i]? = some o → o.has g → g ∈ Z) → φ Z w1) : ∃ Z, Mem w0 S w (Lr ++ [.res Z (φ Z)]) := by
  have hr := h.pick ks hk hdk
  obtain ⟨Z, hzi⟩ : ∃ Z : List Nat, ∀ g, g ∈ Z ↔ some g ∈ Ls.flatMap Ob.blks := ⟨(Ls.flatMap Ob.blks).filterMap id, fun g => by simp⟩
  have hof : ∀ g, g ∈ Z → ∃ (jj : Nat) (oo : Ob), jj ∈ js ∧ L[jj]? = some oo ∧ oo.has g := fun g hg => by
    obtain ⟨i, o, hi, hb⟩ := map_blk ((hzi g).1 hg)
    obtain ⟨jj, h1, h2⟩ := (sel_get hj).2 i o hi
    exact ⟨jj, o, List.mem_of_getElem? h1, h2, hb⟩
  have key : ∀ (i : Nat) (a : Ob) (g : Nat), Lr[i]? = some a → a.has g → ¬ g ∈ Z := fun i a g hi ha hg => by
    obtain ⟨jj, oo, h1, h2, h3⟩ := hof g hg
    obtain ⟨kk, h4, h5⟩ := (sel_get hk).2 i a hi
    have e := h.sep _ _ _ _ g h2 h5 h3 ha
    subst e
    have := List.all_eq_true.1 hd jj (List.mem_of_getElem? h4)
    simp only [Bool.not_eq_true', List.contains_eq_mem, decide_eq_false_iff_not] at this
    exact this h1
  refine ⟨Z, h.chg, fun i u hi => ?_, fun i u g hi hg => ?_, fun i i' a b g hi hi' ha hb => ?_⟩
  · rcases get_app hi with ⟨_, h2⟩ | ⟨_, h2⟩
    · exact hr.ok i u h2
    · obtain ⟨rfl⟩ : u = .res Z (φ Z) := by
        cases hh : i - Lr.length with
        | zero => rw [hh] at h2; simpa using h2.symm
        | succ n => rw [hh] at h2; simp at h2
      refine ⟨fun g hg => ?_, fun w1 h1 => hφ _ w1 (fun i o hi => ?_) fun i o g hi hg => (hzi g).2 (List.mem_flatMap.2 ⟨o, List.mem_of_getElem? hi, hg⟩)⟩
      · obtain ⟨jj, oo, _, h2, h3⟩ := hof g hg
        exact h.lt h2 h3
      · obtain ⟨jj, _, h2⟩ := (sel_get hj).2 i o hi
        exact Ob.ok_keep (h.ok jj o h2) fun g hg => h1 g ((hzi g).2 (List.mem_flatMap.2 ⟨o, List.mem_of_getElem? hi, hg⟩))
  · rcases get_app hi with ⟨_, h2⟩ | ⟨_, h2⟩
    · exact hr.own i u g h2 hg
    · obtain ⟨rfl⟩ : u = .res Z (φ Z) := by
        cases hh : i - Lr.length with
        | zero => rw [hh] at h2; simpa using h2.symm
        | succ n => rw [hh] at h2; simp at h2
      obtain ⟨jj, oo, _, h2, h3⟩ := hof g (Ob.has_res.1 hg)
      exact h.own jj oo g h2 h3
  · have one : ∀ (i : Nat) (a : Ob), Lr.length ≤ i → [Ob.res Z (φ Z)][i - Lr.length]? = some a → a = .res Z (φ Z) ∧ i = Lr.length := fun i a hle h2 => by
      cases hh : i - Lr.length with
      | zero => rw [hh] at h2; exact ⟨by simpa using h2.symm, by omega⟩
      | succ n => rw [hh] at h2; simp at h2
    rcases get_app hi with ⟨h1, h2⟩ | ⟨h1, h2⟩ <;> rcases get_app hi' with ⟨h3, h4⟩ | ⟨h3, h4⟩
    · exact hr.sep i i' a b g h2 h4 ha hb
    · obtain ⟨rfl, _⟩ := one i' b h3 h4
      exact (key i a g h2 ha (Ob.has_res.1 hb)).elim
    · obtain ⟨rfl, _⟩ := one i a h1 h2
      exact (key i' b g h4 hb (Ob.has_res.1 ha)).elim
    · obtain ⟨_, e1⟩ := one i a h1 h2
      obtain ⟨_, e2⟩ := one i' b h3 h4
      omega

/-! ### What the cells of a row of structs are -/
/-- The cells css are the values xs; what they hold lies in the blocks Z. -/
def Els (R : List (Option Nat) → World → α → List Value → Prop) (s : Nat) (xs : List α) (css : List (List Value)) (Z : List Nat) (w : World) : Prop :=
  css.length = xs.length ∧ (∀ cs ∈ css, cs.length = s) ∧ ∀ S : List (Option Nat), (∀ g ∈ Z, some g ∉ S) → ∀ (i : Nat) (cs : List Value) (x : α), css[i]? = some cs → xs[i]? = some x → R S w x cs
theorem Els.nil {Z : List Nat} : Els R s [] [] Z w := ⟨rfl, by simp, fun S hS i cs x h => by simp at h⟩
theorem Els.cons {Z : List Nat} {u : α} {cs : List Value} {xs : List α} {css : List (List Value)} (hl : cs.length = s) (hx : ∀ S : List (Option Nat), (∀ g ∈ Z, some g ∉ S) → R S w u cs) (h : Els R s xs css Z w) : Els R s (u :: xs) (cs :: css) Z w := by
  refine ⟨by simp [h.1], fun c hc => ?_, fun S hS i c y hi hy => ?_⟩
  · rcases List.mem_cons.1 hc with rfl | hc
    · exact hl
    · exact h.2.1 c hc
  · cases i with
    | zero => simp at hi hy; subst hi; subst hy; exact hx S hS
    | succ i => exact h.2.2 S hS i c y (by simpa using hi) (by simpa using hy)
theorem Els.mono {Z Z' : List Nat} {xs : List α} {css : List (List Value)} (h : Els R s xs css Z w) (hz : ∀ g ∈ Z, g ∈ Z') : Els R s xs css Z' w :=
  ⟨h.1, h.2.1, fun S hS => h.2.2 S fun g hg => hS g (hz g hg)⟩
theorem Els.app {Z : List Nat} {xs ys : List α} {css cs2 : List (List Value)} (h : Els R s xs css Z w) (k : Els R s ys cs2 Z w) : Els R s (xs ++ ys) (css ++ cs2) Z w := by
  refine ⟨by simp [h.1, k.1], fun c hc => ?_, fun S hS i c y hi hy => ?_⟩
  · rcases List.mem_append.1 hc with hc | hc
    · exact h.2.1 c hc
    · exact k.2.1 c hc
  · rcases Nat.lt_or_ge i xs.length with hl | hl
    · rw [List.getElem?_append_left (by rw [h.1]; exact hl)] at hi
      rw [List.getElem?_append_left hl] at hy
      exact h.2.2 S hS i c y hi hy
    · rw [List.getElem?_append_right (by rw [h.1]; exact hl), h.1] at hi
      rw [List.getElem?_append_right hl] at hy
      exact k.2.2 S hS _ c y hi hy
/-- A row in Z lies apart from what is apart from Z. -/
theorem Off.ofZ {Z : List Nat} {cs : List Value} (hok : (Ob.row A c e s n1 cs).ok w) (hz : ∀ g, (Ob.row A c e s n1 cs).has g → g ∈ Z) (hS : ∀ g ∈ Z, some g ∉ S) : Off S n1 A := fun hn ad had => by
  have hc : c ≠ 0 := by have := (Ob.rd hok).cap; omega
  exact hS _ (hz _ (Ob.has_row.2 (by rw [rblk_pos hc, had]; rfl)))
/-- A row of structs of the call's own. -/
theorem Mem.rdD {xs : List α} {css : List (List Value)} {Z : List Nat} (h : Mem w0 S w L) (hi : L[i]? = some (.row A c e s xs.length css.flatten)) (hj : L[j]? = some (.res Z (Els R s xs css Z))) : RdD R [] w A c s xs := by
  have hE := (Ob.res_φ (h.ok j _ hj))
  exact ⟨css, hE.1, hE.2.1, h.rd hi, Off.nil, hE.2.2 [] (by simp)⟩
theorem Mem.rdDo {xs : List α} {css : List (List Value)} {Z : List Nat} {Ls : List Ob} (h : Mem w0 S w L) (js : List Nat) (hs : sel L js = some Ls) (hi : L[i]? = some (.row A c e s xs.length css.flatten)) (hni : js.contains i = false) (hj : L[j]? = some (.res Z (Els R s xs css Z))) (hnj : js.contains j = false) : RdD R (Ls.flatMap Ob.blks) w A c s xs := by
  have hE := (Ob.res_φ (h.ok j _ hj))
  refine ⟨css, hE.1, hE.2.1, h.rd hi, h.offR js hs hi hni, hE.2.2 _ fun g hg hS => ?_⟩
  obtain ⟨i', o', hi', hb'⟩ := map_blk hS
  obtain ⟨j', hj1, hj2⟩ := (sel_get hs).2 i' o' hi'
  have e := h.sep _ _ _ _ g hj2 hj hb' (Ob.has_res.2 hg)
  subst e
  simp only [List.contains_eq_mem, decide_eq_false_iff_not] at hnj
  exact hnj (List.mem_of_getElem? hj1)
/-- An element of it, and its cells. -/
theorem Mem.atD {xs : List α} {css : List (List Value)} {Z : List Nat} {u : α} (h : Mem w0 S w L) (hi : L[i]? = some (.row A c e s xs.length css.flatten)) (hj : L[j]? = some (.res Z (Els R s xs css Z))) (hx : gidx xs p = some u) : ∃ cs, At w A s xs.length p cs ∧ css[p.toNat]? = some cs ∧ R [] w u cs := by
  have hE := (Ob.res_φ (h.ok j _ hj))
  obtain ⟨h0, hl, hg⟩ := gidx_some hx
  have hc : css[p.toNat]? = some (css[p.toNat]'(by rw [hE.1]; omega)) := List.getElem?_eq_getElem _
  obtain ⟨cs, hA, _⟩ := RdD.at (h.rdD hi hj) hx
  refine ⟨_, ⟨hA.isSome, hA.lo, hA.hi, fun j' u' hj' => ?_⟩, hc, hE.2.2 [] (by simp) _ _ _ hc hg⟩
  rw [add_add]
  have hjs : j' < s := by have := (List.getElem?_eq_some_iff.1 hj').1; rwa [hE.2.1 _ (List.getElem_mem _)] at this
  exact (h.rd hi).cs _ _ (by rw [flatten_getElem? css _ j' _ hE.2.1 hc hjs]; exact hj')
/-- It goes on. -/
theorem Mem.elAt {xs : List α} {css : List (List Value)} {cs : List Value} {Z : List Nat} {u : α} (h : Mem w0 S w L) (hj : L[j]? = some (.res Z (Els R s xs css Z))) (hc : css[p.toNat]? = some cs) (hx : gidx xs p = some u) : R [] w u cs :=
  (Ob.res_φ (h.ok j _ hj)).2.2 [] (by simp) _ _ _ hc (gidx_some hx).2.2

/-! ### Literals, and append -/
theorem E.bslD {css : List (List Value)} {parts : Array (Nat × Operand)} {vs : List (Nat × Value)} {z : List Value} {len : Nat} (hM : Mem w0 S w L) (ht : SliceT P t e s b) (hz : ZeroT P e z)
    (hv : evps l parts.toList = some vs) (hl : Nat.ble (len * s) 16777216 = true) (hs : Nat.blt 0 s = true) (hxs : css.length = len) (hcs : css.flatten.length = len * s)
    (hf : fillL (fun i => some (i * s, s)) ((List.range (len * s)).map fun j => z.getD (j % z.length) default) vs = some css.flatten) (hpos : Nat.ble 1 (len * s) = true) :
    Eff P (.buildSlice t len parts) ty l w (fun v w' => ∃ A', v = .slice A' len len ∧ Mem w0 S w' (L ++ [.row A' len e s len css.flatten]) ∧ Chg [] w w') := by
  have hf := fill_eq _ _ _ _ hf
  rw [← zero_cells] at hf
  generalize hcse : css.flatten = cs at *
  have hlm : len ≤ maxLen := by
    have h1 : len * s ≤ 16777216 := Nat.le_of_ble_eq_true hl
    have h2 : 0 < s := by simpa using hs
    have : len * 1 ≤ len * s := Nat.mul_le_mul_left _ h2
    simp only [maxLen]; omega
  obtain ⟨i, hinf, hsz, hb⟩ := ht.info
  obtain ⟨zv, hzv, hzc⟩ := hz.info hinf
  have hl' : len * s ≤ 16777216 := Nat.le_of_ble_eq_true hl
  refine ⟨.slice (some ⟨w.heap.size, 0, none⟩) len len, { w with heap := w.heap.push (.cells cs.toArray e) }, fun ρ hρ _ _ _ _ => ?_, some ⟨w.heap.size, 0, none⟩, rfl, hM.push (below_push w) (Ob.ok_row (ownsRow_new rfl hcs hlm)) (fun g hg => by have := (rblk_some (Ob.has_row.1 hg)).2; simp at this; omega), .of_below (below_push w)⟩
  have hmap := evps_map hρ hv
  simp only [execOp, hmap]
  have hn : ¬ 16777216 < len * s := by omega
  have h0 : ¬ len * s = 0 := by have := Nat.le_of_ble_eq_true hpos; omega
  simp only [Instr.buildSlice, Sem.run_bind, run_underlying ht.1, Result.andThen_ok]
  simp [sizeOf, typeInfo, hinf, hsz, h0, hn, zeroValue, hzv, hzc, newRow]
  have hf' := hf
  simp at hf'
  rw [hf']
  simp
theorem E.appD {xs ys : List α} {css cs2 : List (List Value)} {z : List Value} (hM : Mem w0 S w L) (hi : L[j]? = some (.row A c e s xs.length css.flatten)) (ht : SliceT P t e s b) (hz : ZeroT P e z) (hzs : Nat.beq z.length s = true) (hs : Nat.blt 0 s = true) (hb : Nat.ble b 128 = true)
    (hx : ev l x = some (.slice A xs.length c)) (hy : ev l y = some (.slice A2 ys.length c2)) (hr : Rd w A2 c2 s ys.length cs2.flatten) (h1 : One cs2.flatten) (hmax : xs.length + ys.length ≤ lim) :
    Eff P (.call ⟨.builtin .append, #[x, y], #[t, t]⟩) ty l w (fun v w' => ∃ A' c', v = .slice A' (xs ++ ys).length c' ∧ Mem w0 S w' (L.set j (.row A' c' e s (xs ++ ys).length (css ++ cs2).flatten)) ∧ Chg [rblk A c] w w') := by
  have hb' : b ≤ 128 := Nat.le_of_ble_eq_true hb
  have hm2 : (xs.length + ys.length) * b ≤ 1099511627776 * 128 := Nat.mul_le_mul hmax hb'
  obtain ⟨A', c', w', hrun, hM', hch⟩ := run_app (ty := ty) hM hi ht hz (Nat.eq_of_beq_eq_true hzs) (by simpa using hs) hr h1 (by omega) (by simp only [maxLen]; simp only [lim] at hmax; omega)
  have e1 : xs.length + ys.length = (xs ++ ys).length := by simp
  have e2 : css.flatten ++ cs2.flatten = (css ++ cs2).flatten := by simp
  rw [e1] at hrun
  rw [e1, e2] at hM'
  refine ⟨.slice A' (xs ++ ys).length c', w', fun ρ hρ _ _ _ _ => ?_, A', c', rfl, hM', hch⟩
  simp only [execOp]
  simp [resolve, invoke, builtin, hρ x _ hx, hρ y _ hy, hrun]
end
end Go.Ox
