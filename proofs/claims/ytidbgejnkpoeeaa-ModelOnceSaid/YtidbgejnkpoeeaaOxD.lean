/- A plain library: operations that make or write memory. No program is named here. -/
import Derived.Test.YtidbgejnkpoeeaaOxC
import Derived.Maps.AppendAt
set_option linter.unusedVariables false
namespace Go.Ox
open Go Go.RowKit

/-- An element type's zero. -/
def ZeroT (P : Program) (e : TypeId) (z : List Value) : Prop := (P.info? e).map (fun i => i.zero.map (·.cells)) = some (some z.toArray)
theorem ZeroT.info {P : Program} {e : TypeId} {z : List Value} (h : ZeroT P e z) {i : TypeInfo} (hi : P.info? e = some i) : ∃ v, i.zero = some v ∧ v.cells = z.toArray := by
  unfold ZeroT at h
  rw [hi] at h
  simp only [Option.map_some, Option.some.injEq] at h
  exact Option.map_eq_some_iff.1 h
def One (cs : List Value) : Prop := ∀ u ∈ cs, u.oneCell' = true
theorem One.int {k : IntKind} {xs : List Int} : One (xs.map (Value.int k)) := fun u hu => by obtain ⟨_, _, rfl⟩ := List.mem_map.1 hu; rfl
theorem One.map {α : Type} {f : α → Value} (hf : ∀ x, (f x).oneCell' = true) {xs : List α} : One (xs.map f) := fun u hu => by obtain ⟨_, _, rfl⟩ := List.mem_map.1 hu; exact hf _
theorem One.flat {α : Type} {f : α → List Value} (hf : ∀ x, One (f x)) {xs : List α} : One (xs.flatMap f) := fun u hu => by
  obtain ⟨x, _, hx⟩ := List.mem_flatMap.1 hu; exact hf x u hx
theorem One.nil : One [] := fun u hu => by cases hu
theorem One.cons {v : Value} {vs : List Value} (hv : v.oneCell' = true) (h : One vs) : One (v :: vs) := fun u hu => by
  rcases List.mem_cons.1 hu with rfl | hu
  · exact hv
  · exact h u hu
theorem One.app {vs ws : List Value} (h1 : One vs) (h2 : One ws) : One (vs ++ ws) := fun u hu => by
  rcases List.mem_append.1 hu with hu | hu
  · exact h1 u hu
  · exact h2 u hu
/-- Cells, some of them other ones. -/
def spl (cs : List Value) (off : Nat) (vs : List Value) : List Value := cs.take off ++ vs ++ cs.drop (off + vs.length)
theorem spl_length {cs vs : List Value} {off : Nat} (h : off + vs.length ≤ cs.length) : (spl cs off vs).length = cs.length := by
  simp [spl]; omega

/-- 'fill', over lists. -/
def fillL (place : Nat → Option (Nat × Nat)) (cells : List Value) : List (Nat × Value) → Option (List Value)
  | [] => some cells
  | p :: rest => match place p.1 with
    | none => none
    | some q => bif Nat.beq p.2.cells.toList.length q.2 && Nat.ble (q.1 + p.2.cells.toList.length) cells.length then fillL place (spl cells q.1 p.2.cells.toList) rest else none
theorem foldl_spl (off : Nat) : ∀ (vs : List Value) (k : Nat) (cells : List Value), off + k + vs.length ≤ cells.length →
    ((vs.zipIdx k).foldl (fun (cs : Array Value) (x : Value × Nat) => cs.setIfInBounds (off + x.2) x.1) cells.toArray) = (spl cells (off + k) vs).toArray
  | [], k, cells, _ => by simp [spl]
  | v :: vs, k, cells, h => by
    simp only [List.zipIdx_cons, List.foldl_cons, List.length_cons] at h ⊢
    have hset : cells.toArray.setIfInBounds (off + k) v = (cells.set (off + k) v).toArray := by simp
    rw [hset, foldl_spl off vs (k + 1) _ (by simp; omega)]
    congr 1
    unfold spl
    apply List.ext_getElem?
    intro i
    simp only [List.getElem?_append, List.length_append, List.length_take, List.length_set, List.getElem?_take, List.getElem?_drop, List.length_cons, List.getElem?_set]
    grind
theorem fill_eq (place : Nat → Option (Nat × Nat)) : ∀ (parts : List (Nat × Value)) (cells cs : List Value), fillL place cells parts = some cs → Instr.fill place cells.toArray parts = some cs.toArray
  | [], cells, cs, h => by
    obtain rfl := Option.some.inj h
    rfl
  | (i, v) :: rest, cells, cs, h => by
    unfold fillL at h
    unfold Instr.fill
    cases hp : place i with
    | none => simp [hp] at h
    | some q =>
      obtain ⟨off, size⟩ := q
      simp only [hp] at h ⊢
      cases hc : (Nat.beq v.cells.toList.length size && Nat.ble (off + v.cells.toList.length) cells.length) with
      | false => rw [hc] at h; cases h
      | true =>
        rw [hc] at h
        simp only [Bool.and_eq_true] at hc
        have h1 := Nat.eq_of_beq_eq_true hc.1
        have h2 := Nat.le_of_ble_eq_true hc.2
        simp only [Array.length_toList] at h1 h2
        have hn : ¬ ((v.cells.size ≠ size || decide (off + v.cells.size > cells.toArray.size)) = true) := by simp [h1]; omega
        rw [if_neg hn]
        have hf := foldl_spl off v.cells.toList 0 cells (by simpa using h2)
        have e : (v.cells.zipIdx.foldl (fun cs (x : Value × Nat) => cs.setIfInBounds (off + x.2) x.1) cells.toArray) = (spl cells off v.cells.toList).toArray := by
          rw [← Array.foldl_toList]
          simpa using hf
        rw [e]
        exact fill_eq place rest _ cs h
theorem zero_cells (z : List Value) (m : Nat) : ((Array.range m).map fun j => z.toArray[j % z.toArray.size]!) = ((List.range m).map fun j => z.getD (j % z.length) default).toArray := by
  apply Array.ext'
  simp only [Array.toList_map, Array.toList_range]
  apply List.map_congr_left
  intro j _
  simp [List.getD, getElem!_def]
  cases z[j % z.length]? <;> rfl
/-- The parts of a literal. -/
def evps (l : List (Nat × Value)) : List (Nat × Operand) → Option (List (Nat × Value))
  | [] => some []
  | p :: r => match ev l p.2, evps l r with
    | some v, some vs => some ((p.1, v) :: vs)
    | _, _ => none
theorem evps_list {l : List (Nat × Value)} {ρ : Operand → Value} (hρ : ∀ x u, ev l x = some u → ρ x = u) : ∀ {ps : List (Nat × Operand)} {vs : List (Nat × Value)}, evps l ps = some vs → ps.map (fun (i, x) => (i, ρ x)) = vs
  | [], vs, h => by simpa [evps] using h
  | p :: r, vs, h => by
    unfold evps at h
    split at h
    · rename_i v ws h1 h2
      obtain rfl := Option.some.inj h
      simp [hρ _ _ h1, evps_list hρ h2]
    · cases h
theorem evps_map {l : List (Nat × Value)} {ρ : Operand → Value} (hρ : ∀ x u, ev l x = some u → ρ x = u) {ps : Array (Nat × Operand)} {vs : List (Nat × Value)} (h : evps l ps.toList = some vs) : ps.map (fun (i, x) => (i, ρ x)) = vs.toArray := by
  apply Array.ext'
  rw [Array.toList_map, evps_list hρ h]
theorem flat_one {α : Type} {f : α → Value} (xs : List α) : (xs.flatMap fun x => [f x]) = xs.map f := by
  induction xs with
  | nil => rfl
  | cons x xs ih => simp [ih]
theorem flat_length {α : Type} {enc : α → List Value} {s : Nat} (hf : ∀ x, (enc x).length = s) : ∀ (xs : List α), (xs.flatMap enc).length = xs.length * s
  | [] => by simp
  | x :: xs => by rw [List.flatMap_cons, List.length_append, hf, flat_length hf xs, List.length_cons, Nat.add_mul]; omega
section
variable {F : Fence} {P : Program} {ops : Array Oper} {Q : Exit → Act → World → Prop} {rest : List Oper} {n : Fr} {d : Nat} {l l' : List (Nat × Value)} {w w0 w' : World} {L : List Ob} {S : List (Option Nat)}
variable {o : Op} {ty : TypeId} {pos : String} {after : Array Edge} {v : Value}
variable {x y : Operand} {k k' : IntKind} {p q : Int} {t t' e : TypeId} {A A2 : Option Addr} {s c c2 b m n1 : Nat}

/-- The operation yields some value and leaves some world, of which R holds. -/
def Eff (P : Program) (o : Op) (ty : TypeId) (l : List (Nat × Value)) (w : World) (R : Value → World → Prop) : Prop := ∃ v w', OpR P o ty l w v w' ∧ R v w'
def EffS (P : Program) (o : Op) (ty : TypeId) (l : List (Nat × Value)) (w : World) (R : World → Prop) : Prop := ∃ w', OpS P o ty l w w' ∧ R w'
theorem RL.eff [WF F] {R : Value → World → Prop} (h : Eff P o ty l w R) (hd : Nat.blt d n.n = true) (hk : ∀ v w', R v w' → RL F P ops Q rest n ((d, v) :: l) w') : RL F P ops Q (⟨some d, o, ty, pos, after, none⟩ :: rest) n l w := by
  obtain ⟨v, w', ho, hR⟩ := h
  exact RL.val ho hd (hk v w' hR)
theorem RL.geff [WF F] {R : Value → World → Prop} {j : Nat} {b : Bool} (hy : yl ops l j = some b) (hj : ylt ops j n = true) (h : Eff P o ty l w R) (hd : Nat.blt d n.n = true) (hk : ∀ v w', R v w' → RL F P ops Q rest n ((d, v) :: l) w') :
    RL F P ops Q (⟨some d, o, ty, pos, after, some (j, b)⟩ :: rest) n l w := by
  obtain ⟨v, w', ho, hR⟩ := h
  exact RL.gval hy hj ho hd (hk v w' hR)
theorem RL.effs [WF F] {R : World → Prop} (h : EffS P o ty l w R) (hk : ∀ w', R w' → RL F P ops Q rest n l w') : RL F P ops Q (⟨none, o, ty, pos, after, none⟩ :: rest) n l w := by
  obtain ⟨w', ho, hR⟩ := h
  exact RL.st ho (hk w' hR)

/-! ### append -/
theorem append_none (ht : SliceT P t e s b) {cs : List Value} {B : Nat} (hown : w.ownsRow B e s (.slice A n1 c) n1 cs) : (Builtin.append_ #[t, t] ty #[.slice A n1 c, .slice none 0 c2]).run P w = .ok (.slice A n1 c) w := by
  obtain ⟨i, hi, hs, _⟩ := ht.info
  have hr := ownsRow_rd hown
  have := hr.cap
  cases A with
  | none => simp [Builtin.append_, run_underlying ht.1, sizeOf, typeInfo, hi, Builtin.lenOf, Builtin.firstCells, this]
  | some a => simp [Builtin.append_, run_underlying ht.1, sizeOf, typeInfo, hi, Builtin.lenOf, Builtin.firstCells, this, storeCells]
theorem load0 (a : Addr) (w : World) : (loadCells a 0).run P w = .ok #[] w := by
  have := run_loadCells_list (P := P) w a [] (fun j u h => by simp at h)
  simpa using this
theorem append_nomatter {B : Option Addr} {y : Value} {m : Nat} (ht : SliceT P t e s b) (hy : y = .slice A2 m c2) (hm : 0 < m) (hmax : m * b ≤ 140737488355328) (hml : m ≤ maxLen) : (Builtin.append_ #[t, t] ty #[.slice A 0 0, y]).run P w = (Builtin.append_ #[t, t] ty #[.slice B 0 0, y]).run P w := by
  subst hy
  obtain ⟨i, hi, hs, hb⟩ := ht.info
  have h1 : ¬ m = 0 := by omega
  have h2 : Builtin.nextslicecap m 0 = m := by simp [Builtin.nextslicecap, h1]
  have h3 : ¬ (281474976710656 < m * b) := by omega
  have h4 : ¬ ((9223372036854775807 : Int) < (m : Int)) := by simp only [maxLen] at hml; omega
  rcases A with _ | a <;> rcases B with _ | b' <;> simp [Builtin.append_, run_underlying ht.1, sizeOf, typeInfo, hi, Builtin.lenOf, Builtin.firstCells, h1, h2, hb, hs, h3, h4, load0]
theorem run_app1 {cs news z : List Value} {j : Nat} (hM : Mem w0 S w L) (hi : L[j]? = some (.row A c e s n1 cs)) (ht : SliceT P t e s b) (hz : ZeroT P e z) (hzs : z.length = s) (hs : 0 < s)
    (hr : Rd w A2 c2 s m news) (h1 : One news) (hmax : (n1 + m) * b ≤ 140737488355328) (hm : n1 + m ≤ maxLen) (hblk : rblk A c = A.map (·.block)) (hown : w.ownsRow 0 e s (.slice A n1 c) n1 cs) :
    ∃ A' c' w', (Builtin.append_ #[t, t] ty #[.slice A n1 c, .slice A2 m c2]).run P w = .ok (.slice A' (n1 + m) c') w' ∧ Mem w0 S w' (L.set j (.row A' c' e s (n1 + m) (cs ++ news))) ∧ Chg [rblk A c] w w' := by
  have hjl : j < L.length := (List.getElem?_eq_some_iff.1 hi).1
  rcases A2 with _ | ad
  · have hm0 : m = 0 := by
      rcases Nat.eq_zero_or_pos m with h0 | h0
      · exact h0
      · obtain ⟨ad, h, _⟩ := hr.adr h0; cases h
    subst hm0
    have hn : news = [] := List.eq_nil_of_length_eq_zero (by simpa using hr.len)
    subst hn
    refine ⟨A, c, w, append_none ht hown, ?_⟩
    have e1 : L.set j (.row A c e s (n1 + 0) (cs ++ [])) = L := by
      apply List.ext_getElem?
      intro i
      by_cases h : j = i
      · subst h; rw [List.getElem?_set_self hjl, List.append_nil, Nat.add_zero, hi]
      · rw [List.getElem?_set_ne h]
    rw [e1]
    exact ⟨hM, .refl⟩
  · obtain ⟨i, hinf, hsz, hb⟩ := ht.info
    obtain ⟨zv, hzv, hzc⟩ := hz.info hinf
    have hcells : ∀ j u, news[j]? = some u → w.cell? (ad.add j) = some u := by
      intro j u hu
      have := hr.cs j u hu
      exact this
    obtain ⟨v', w', hrun, h2, h3, _, h5⟩ := run_append_own_at (P := P) w 0 t ty e i zv s b ht.1 hinf hzv hsz hb (by rw [hzc]; simpa using hzs) hs (.slice A n1 c) n1 cs hown ad m c2 news hr.len hcells h1 hm hmax (Nat.zero_le _)
    have hform : ∃ A' c', v' = .slice A' (n1 + m) c' := by
      rcases h2.2 with ⟨hv, h0⟩ | ⟨g, cap, cur, hv, _⟩
      · exact ⟨none, 0, by rw [hv, h0]⟩
      · exact ⟨_, _, hv⟩
    obtain ⟨A', c', rfl⟩ := hform
    rw [Ob.blk_row] at h3 h5
    refine ⟨A', c', w', hrun, hM.updR (hd := run_drawn _ _ hrun) hi (by rw [hblk]; exact h3) (Ob.ok_row h2) ?_, Chg.grown (by rw [hblk]; exact h3) (run_drawn _ _ hrun)⟩
    rw [Ob.blk_row] at h5
    rw [hblk]
    by_cases hc' : c' = 0
    · exact .inr fun g hg => absurd hc' (rblk_some hg).1
    rcases h5 with h | h
    · exact .inl (by rw [rblk_pos hc']; exact h)
    · exact .inr fun g hg => by
        have : A'.map (·.block) = some g := (rblk_some hg).2
        rw [h] at this; injection this with this; omega
theorem run_app {cs news z : List Value} {j : Nat} (hM : Mem w0 S w L) (hi : L[j]? = some (.row A c e s n1 cs)) (ht : SliceT P t e s b) (hz : ZeroT P e z) (hzs : z.length = s) (hs : 0 < s)
    (hr : Rd w A2 c2 s m news) (h1 : One news) (hmax : (n1 + m) * b ≤ 140737488355328) (hm : n1 + m ≤ maxLen) :
    ∃ A' c' w', (Builtin.append_ #[t, t] ty #[.slice A n1 c, .slice A2 m c2]).run P w = .ok (.slice A' (n1 + m) c') w' ∧ Mem w0 S w' (L.set j (.row A' c' e s (n1 + m) (cs ++ news))) ∧ Chg [rblk A c] w w' := by
  have hok := hM.ok j _ hi
  by_cases hc0 : c = 0
  · obtain ⟨rfl, rfl⟩ := hok.2 hc0
    subst hc0
    have hjl : j < L.length := (List.getElem?_eq_some_iff.1 hi).1
    rcases Nat.eq_zero_or_pos m with h0 | h0
    · subst h0
      have hn : news = [] := List.eq_nil_of_length_eq_zero (by simpa using hr.len)
      subst hn
      refine ⟨A, 0, w, ?_, ?_⟩
      · obtain ⟨i, hinf, hsi, _⟩ := ht.info
        cases A <;> cases A2 <;> simp [Builtin.append_, run_underlying ht.1, sizeOf, typeInfo, hinf, Builtin.lenOf, Builtin.firstCells, storeCells, load0]
      · have e1 : L.set j (.row A 0 e s (0 + 0) ([] ++ [])) = L := by
          apply List.ext_getElem?
          intro i
          by_cases h : j = i
          · subst h; rw [List.getElem?_set_self hjl, List.append_nil, Nat.add_zero, hi]
          · rw [List.getElem?_set_ne h]
        rw [e1]
        exact ⟨hM, .refl⟩
    · have hM1 : Mem w0 S w (L.set j (.row none 0 e s 0 [])) := hM.updR hi ⟨rfl, rfl, rfl, Nat.le_refl _, fun _ _ _ => rfl⟩ (Ob.ok_row (World.ownsRow_nil w _ e s)) (.inl rfl)
      obtain ⟨A', c', w', hrun, hM', hch⟩ := run_app1 (ty := ty) hM1 (List.getElem?_set_self hjl) ht hz hzs hs hr h1 hmax hm rfl (World.ownsRow_nil w _ e s)
      refine ⟨A', c', w', ?_, (by rw [List.set_set] at hM'; exact hM'), (show Chg [rblk A 0] w w' from hch)⟩
      rw [append_nomatter (B := none) ht rfl h0 (by simpa using hmax) (by simpa using hm)]
      exact hrun
  · exact run_app1 hM hi ht hz hzs hs hr h1 hmax hm (rblk_pos hc0) (hok.1 hc0)
/-- The greatest length that a slice may grow to here. -/
def lim : Nat := 1099511627776
variable {α : Type} {enc : α → List Value}
theorem E.app {xs ys : List α} {z : List Value} {j : Nat} (hM : Mem w0 S w L) (hi : L[j]? = some (.row A c e s xs.length (xs.flatMap enc))) (ht : SliceT P t e s b) (hz : ZeroT P e z) (hzs : Nat.beq z.length s = true) (hs : Nat.blt 0 s = true) (hb : Nat.ble b 128 = true)
    (hx : ev l x = some (.slice A xs.length c)) (hy : ev l y = some (.slice A2 ys.length c2)) (hr : Rd w A2 c2 s ys.length (ys.flatMap enc)) (h1 : ∀ x, One (enc x)) (hmax : xs.length + ys.length ≤ lim) :
    Eff P (.call ⟨.builtin .append, #[x, y], #[t, t]⟩) ty l w (fun v w' => ∃ A' c', v = .slice A' (xs ++ ys).length c' ∧ Mem w0 S w' (L.set j (.row A' c' e s (xs ++ ys).length ((xs ++ ys).flatMap enc))) ∧ Chg [rblk A c] w w') := by
  have hb' : b ≤ 128 := Nat.le_of_ble_eq_true hb
  have hm2 : (xs.length + ys.length) * b ≤ 1099511627776 * 128 := Nat.mul_le_mul hmax hb'
  obtain ⟨A', c', w', hrun, hM', hch⟩ := run_app (ty := ty) hM hi ht hz (Nat.eq_of_beq_eq_true hzs) (by simpa using hs) hr (One.flat h1) (by omega) (by simp only [maxLen]; simp only [lim] at hmax; omega)
  have e1 : xs.length + ys.length = (xs ++ ys).length := by simp
  have e2 : xs.flatMap enc ++ ys.flatMap enc = (xs ++ ys).flatMap enc := by simp
  rw [e1] at hrun
  rw [e1, e2] at hM'
  refine ⟨.slice A' (xs ++ ys).length c', w', fun ρ hρ _ _ _ _ => ?_, A', c', rfl, hM', hch⟩
  simp only [execOp]
  simp [resolve, invoke, builtin, hρ x _ hx, hρ y _ hy, hrun]
/-- append onto nil: the row begins here. -/
theorem E.app0 {ys : List α} {z : List Value} (hM : Mem w0 S w L) (ht : SliceT P t e s b) (hz : ZeroT P e z) (hzs : Nat.beq z.length s = true) (hs : Nat.blt 0 s = true) (hb : Nat.ble b 128 = true)
    (hx : ev l x = some (.slice none 0 0)) (hy : ev l y = some (.slice A2 ys.length c2)) (hr : Rd w A2 c2 s ys.length (ys.flatMap enc)) (h1 : ∀ x, One (enc x)) (hmax : ys.length ≤ lim) :
    Eff P (.call ⟨.builtin .append, #[x, y], #[t, t]⟩) ty l w (fun v w' => ∃ A' c', v = .slice A' ys.length c' ∧ Mem w0 S w' (L ++ [.row A' c' e s ys.length (ys.flatMap enc)]) ∧ Chg [] w w') := by
  have hM1 : Mem w0 S w (L ++ [.row none 0 e s ([] : List α).length (([] : List α).flatMap enc)]) := hM.nilrow e s
  obtain ⟨v, w', ho, A', c', hv, hM', hch⟩ := E.app (ty := ty) (j := L.length) (xs := []) hM1 (by simp) ht hz hzs hs hb hx hy hr h1 (by simpa using hmax)
  exact ⟨v, w', ho, A', c', by simpa using hv, by simpa using hM', ⟨hch.os, hch.tape, hch.output, hch.size, fun k hk _ => hch.block k hk (by simp [rblk]), hch.drawn⟩⟩

/-! ### New blocks -/
theorem ownsRow_new {cs : List Value} {w : World} {w1 : World} (hw : w1.heap = w.heap.push (.cells cs.toArray e)) {s n1 : Nat} (hl : cs.length = n1 * s) (hm : n1 ≤ maxLen) : w1.ownsRow 0 e s (.slice (some ⟨w.heap.size, 0, none⟩) n1 n1) n1 cs := by
  refine ⟨hl, .inr ⟨w.heap.size, n1, cs.toArray, rfl, Nat.zero_le _, by rw [hw]; simp, Nat.le_refl _, hm, by simpa using hl, ?_⟩⟩
  rw [← hl]
  simp
theorem below_push {o : Obj} (w : World) : Below w.heap.size w { w with heap := w.heap.push o } :=
  ⟨rfl, rfl, rfl, by simp, fun k hk => by simp [Array.getElem?_push, Nat.ne_of_lt hk]⟩
/-- '[]T{..}', each place told. -/
theorem E.bsl {xs : List α} {parts : Array (Nat × Operand)} {vs : List (Nat × Value)} {z : List Value} {len : Nat} (hM : Mem w0 S w L) (ht : SliceT P t e s b) (hz : ZeroT P e z)
    (hv : evps l parts.toList = some vs) (hl : Nat.ble (len * s) 16777216 = true) (hs : Nat.blt 0 s = true) (hlen : ∀ x, (enc x).length = s) (hxs : xs.length = len)
    (hf : fillL (fun i => some (i * s, s)) ((List.range (len * s)).map fun j => z.getD (j % z.length) default) vs = some (xs.flatMap enc)) (hpos : Nat.ble 1 (len * s) = true) :
    Eff P (.buildSlice t len parts) ty l w (fun v w' => ∃ A', v = .slice A' xs.length len ∧ Mem w0 S w' (L ++ [.row A' len e s xs.length (xs.flatMap enc)]) ∧ Chg [] w w') := by
  subst hxs
  have hf := fill_eq _ _ _ _ hf
  rw [← zero_cells] at hf
  generalize hcse : xs.flatMap enc = cs at *
  have hlm : xs.length ≤ maxLen := by
    have h1 : xs.length * s ≤ 16777216 := Nat.le_of_ble_eq_true hl
    have h2 : 0 < s := by simpa using hs
    have : xs.length * 1 ≤ xs.length * s := Nat.mul_le_mul_left _ h2
    simp only [maxLen]; omega
  have hcs : cs.length = xs.length * s := by rw [← hcse]; exact flat_length hlen xs
  generalize hle : xs.length = len at *
  obtain ⟨i, hinf, hsz, hb⟩ := ht.info
  obtain ⟨zv, hzv, hzc⟩ := hz.info hinf
  have hl' : len * s ≤ 16777216 := Nat.le_of_ble_eq_true hl
  refine ⟨.slice (some ⟨w.heap.size, 0, none⟩) len len, { w with heap := w.heap.push (.cells cs.toArray e) }, fun ρ hρ _ _ _ _ => ?_, some ⟨w.heap.size, 0, none⟩, rfl, hM.push (below_push w) (Ob.ok_row (ownsRow_new rfl hcs hlm)) (fun g hg => by have := (rblk_some (Ob.has_row.1 hg)).2; simp at this; omega), .of_below (below_push w)⟩
  have hmap := evps_map hρ hv
  simp only [execOp, hmap]
  have hn : ¬ 16777216 < len * s := by omega
  have h0 : ¬ len * s = 0 := by have := Nat.le_of_ble_eq_true hpos; omega
  simp only [Instr.buildSlice, Sem.run_bind, run_underlying ht.1, Result.andThen_ok]
  simp [sizeOf, typeInfo, hinf, hsz, h0, hn, zeroValue, hzv, hzc, newRow]
  have hf' := hf
  simp at hf'
  rw [hf']
  simp
theorem E.bsl0 (hM : Mem w0 S w L) (ht : SliceT P t e s b) :
    Eff P (.buildSlice t 0 #[]) ty l w (fun v w' => ∃ A', v = .slice A' 0 0 ∧ Mem w0 S w' (L ++ [.row A' 0 e s 0 []]) ∧ Chg [] w w') := by
  obtain ⟨i, hinf, hsz, hb⟩ := ht.info
  refine ⟨.slice (some ⟨w.heap.size, 0, none⟩) 0 0, { w with heap := w.heap.push (.cells #[] e) }, fun ρ hρ _ _ _ _ => ?_, some ⟨w.heap.size, 0, none⟩, rfl, hM.push (below_push w) (Ob.ok_row (ownsRow_new (cs := []) rfl (by simp) (Nat.zero_le _))) (fun g hg => by simp [Ob.has_row, rblk] at hg), .of_below (below_push w)⟩
  simp only [execOp, Instr.buildSlice, Sem.run_bind, run_underlying ht.1, Result.andThen_ok]
  have hr0 : (Array.map (fun _ => (default : Value)) (Array.range 0)) = #[] := by simp
  simp [sizeOf, typeInfo, hinf, hsz, Instr.fill, newRow]
  rw [hr0]

/-- A variable of its own: 'x := &T{..}', a variable whose address is taken. -/
theorem E.box (hM : Mem w0 S w L) {vs : List Value} (hx : ev l x = some v) (hv : v.cells = vs.toArray) :
    Eff P (.box e x) ty l w (fun v w' => ∃ g, v = .pointer (some ⟨g, 0, none⟩) ∧ Mem w0 S w' (L ++ [.box g e vs]) ∧ Chg [] w w') := by
  refine ⟨.pointer (some ⟨w.heap.size, 0, none⟩), { w with heap := w.heap.push (.cells vs.toArray e) }, fun ρ hρ _ _ _ _ => ?_, w.heap.size, rfl, hM.push (o := .box w.heap.size e vs) (below_push w) (by simp [Ob.ok]) (fun g hg => by have := Ob.has_box.1 hg; omega), .of_below (below_push w)⟩
  simp only [execOp, hρ x _ hx]
  simp [Instr.box, newVar, newRow, hv]
theorem E.alloc (hM : Mem w0 S w L) {z : List Value} (hz : ZeroT P e z) :
    Eff P (.alloc e) ty l w (fun v w' => ∃ g, v = .pointer (some ⟨g, 0, none⟩) ∧ Mem w0 S w' (L ++ [.box g e z]) ∧ Chg [] w w') := by
  refine ⟨.pointer (some ⟨w.heap.size, 0, none⟩), { w with heap := w.heap.push (.cells z.toArray e) }, fun ρ hρ _ _ _ _ => ?_, w.heap.size, rfl, hM.push (o := .box w.heap.size e z) (below_push w) (by simp [Ob.ok]) (fun g hg => by have := Ob.has_box.1 hg; omega), .of_below (below_push w)⟩
  unfold ZeroT at hz
  obtain ⟨i, hi, h2⟩ := Option.map_eq_some_iff.1 hz
  obtain ⟨zv, hzv, hzc⟩ := Option.map_eq_some_iff.1 h2
  simp only [execOp]
  simp [Instr.alloc, newVar, newRow, zeroValue, typeInfo, hi, hzv, hzc]

/-! ### Stores -/
def sizeT (P : Program) (t : TypeId) (s : Nat) : Bool := (P.info? t).map (·.size) == some s
theorem sizeT_run (h : sizeT P t s = true) (w : World) : (sizeOf t).run P w = .ok s w := by
  unfold sizeT at h
  simp only [beq_iff_eq] at h
  obtain ⟨i, hi, hs⟩ := Option.map_eq_some_iff.1 h
  simp [sizeOf, typeInfo, hi, hs]
theorem grown_setRow {g : Nat} {cs : Array Value} : w.grownBy (w.setRow g cs) (some g) :=
  ⟨rfl, rfl, rfl, by simp [World.setRow], fun k hk hne => setRow_other w g k cs (fun h => hne (by rw [h]))⟩
theorem run_storeVar {g off : Nat} {cur vs : List Value} (ht : sizeT P t vs.length = true) (hv : v.cells = vs.toArray) (h1 : One vs) (hg : w.heap[g]? = some (.cells cur.toArray e (0, 0))) (hl : off + vs.length ≤ cur.length) :
    (storeVar t ((⟨g, 0, none⟩ : Addr).add off) v).run P w = .ok () (w.setRow g (spl cur off vs).toArray) := by
  rw [add_at]
  have := run_storeCells_at P g off e vs 0 cur.toArray w hg (by simpa using hl) h1
  simp only [storeVar, Sem.run_bind, sizeT_run ht, Result.andThen_ok, hv]
  simp [this, spl]
theorem Mem.setBox (hM : Mem w0 S w L) {j g : Nat} {cur cs : List Value} (hi : L[j]? = some (.box g e cur)) : Mem w0 S (w.setRow g cs.toArray) (L.set j (.box g e cs)) :=
  hM.updB hi grown_setRow (setRow_heap w g _ _ e _ (hM.ok j _ hi))
theorem E.stB {j g off : Nat} {cur vs cs' : List Value} {a : Addr} (hM : Mem w0 S w L) (hi : L[j]? = some (.box g e cur)) (ht : sizeT P t vs.length = true) (hx : ev l x = some (.pointer (some a))) (ha : a = (⟨g, 0, none⟩ : Addr).add off) (hy : ev l y = some v) (hv : v.cells = vs.toArray) (h1 : One vs)
    (hl : Nat.ble (off + vs.length) cur.length = true) (hsp : spl cur off vs = cs') : EffS P (.store t x y) ty l w (fun w' => Mem w0 S w' (L.set j (.box g e cs'))) := by
  subst ha
  subst hsp
  refine ⟨w.setRow g (spl cur off vs).toArray, fun ρ hρ _ _ _ _ => ?_, hM.setBox hi⟩
  simp only [execOp, hρ x _ hx, hρ y _ hy]
  simp [Instr.storeAt, Instr.sureAddr, run_storeVar ht hv h1 (hM.ok j _ hi) (Nat.le_of_ble_eq_true hl)]
theorem Mem.row_block (hM : Mem w0 S w L) {j : Nat} {cs : List Value} (hi : L[j]? = some (.row A c e s n1 cs)) (hn : 0 < n1) : ∃ g cur, A = some ⟨g, 0, none⟩ ∧ w.heap[g]? = some (.cells cur e (0, 0)) ∧ n1 ≤ c ∧ cur.size = c * s ∧ cur.toList.take (n1 * s) = cs := by
  have hc0 : c ≠ 0 := fun h => by have := ((hM.ok j _ hi).2 h).1; omega
  rcases ((hM.ok j _ hi).1 hc0).2 with ⟨_, h0⟩ | ⟨g, cap, cur, hv, hb, hh, hn', hc, hs, ht⟩
  · omega
  · injection hv with hA _ hc'
    subst hc'
    exact ⟨g, cur, hA, hh, hn', hs, ht⟩
theorem run_stR {j off : Nat} {cs vs : List Value} (hM : Mem w0 S w L) (hi : L[j]? = some (.row A c e s n1 cs)) (ht : sizeT P t vs.length = true) (hv : v.cells = vs.toArray) (h1 : One vs) (h0 : 0 < n1)
    (hl : off + vs.length ≤ cs.length) : ∃ w', (storeVar t ((A.getD zad).add off) v).run P w = .ok () w' ∧ Mem w0 S w' (L.set j (.row A c e s n1 (spl cs off vs))) := by
  obtain ⟨g, cur, rfl, hg, hnc, hsz, htk⟩ := hM.row_block hi h0
  have hlen : cs.length = n1 * s := (hM.rd hi).len
  have hc0 : c ≠ 0 := by omega
  have hle : n1 * s ≤ cur.size := by rw [hsz]; exact Nat.mul_le_mul_right _ hnc
  refine ⟨w.setRow g (spl cur.toList off vs).toArray, run_storeVar (P := P) (t := t) (w := w) (v := v) (g := g) (off := off) (cur := cur.toList) (e := e) ht hv h1 hg (by simp; omega), hM.updR hi (by rw [show rblk (some ⟨g, 0, none⟩) c = some g from rblk_pos hc0]; exact grown_setRow) (Ob.ok_row ?_) (.inl rfl)⟩
  have hspl := spl_length (cs := cs) (off := off) (vs := vs) hl
  have hspl2 := spl_length (cs := cur.toList) (off := off) (vs := vs) (by simp; omega)
  refine ⟨by rw [hspl]; exact hlen, .inr ⟨g, c, (spl cur.toList off vs).toArray, rfl, Nat.zero_le _, setRow_heap w g _ _ e _ hg, hnc, (hM.rd hi).most, by simpa [hsz] using hspl2, ?_⟩⟩
  simp only []
  rw [← htk]
  unfold spl
  rw [List.take_append, List.take_append]
  simp only [List.length_append, List.length_take, Array.length_toList]
  rw [List.take_take, List.take_take, Nat.min_eq_right (by omega : off ≤ n1 * s), Nat.min_eq_left (by omega : off ≤ n1 * s)]
  have e2 : vs.take (n1 * s - min off cur.size) = vs := List.take_of_length_le (by rw [Nat.min_eq_left (by omega)]; omega)
  rw [e2]
  congr 1
  rw [List.drop_take]
  congr 1
  omega
theorem spl_flat (hlen : ∀ x, (enc x).length = s) {vs : List Value} {off : Nat} {x' : α} : ∀ {xs : List α} {k : Nat} {x : α}, xs[k]? = some x → spl (enc x) off vs = enc x' → off + vs.length ≤ s → spl (xs.flatMap enc) (k * s + off) vs = (xs.set k x').flatMap enc
  | [], k, x, h, _, _ => by simp at h
  | y :: ys, 0, x, h, hs, ho => by
    simp at h
    subst h
    simp only [Nat.zero_mul, Nat.zero_add, List.flatMap_cons, List.set_cons_zero, ← hs]
    unfold spl
    rw [List.take_append_of_le_length (by rw [hlen]; omega), List.drop_append_of_le_length (by rw [hlen]; omega)]
    simp
  | y :: ys, k + 1, x, h, hs, ho => by
    have ih := spl_flat hlen (xs := ys) (k := k) (x := x) (by simpa using h) hs ho
    rw [List.flatMap_cons, List.set_cons_succ, List.flatMap_cons, ← ih]
    unfold spl
    have e1 : (k + 1) * s + off = (enc y).length + (k * s + off) := by rw [hlen, Nat.add_mul]; omega
    rw [e1, List.take_append, List.drop_append]
    simp only [List.append_assoc, Nat.add_sub_cancel_left]
    rw [List.take_of_length_le (by omega)]
    have e2 : (enc y).length + (k * s + off) + vs.length - (enc y).length = k * s + off + vs.length := by omega
    rw [List.drop_of_length_le (by omega), e2]
    simp
/-- A store into an element, or a part of it, of a row of the call's own. -/
theorem E.stR {xs : List α} {xe x' : α} {j off : Nat} {vs : List Value} {a : Addr} (hM : Mem w0 S w L) (hi : L[j]? = some (.row A c e s xs.length (xs.flatMap enc))) (hlen : ∀ x, (enc x).length = s) (hp : gidx xs p = some xe) (ht : sizeT P t vs.length = true)
    (hx : ev l x = some (.pointer (some a))) (ha : a = (A.getD zad).add (p.toNat * s + off)) (hy : ev l y = some v) (hv : v.cells = vs.toArray) (h1 : One vs) (hsp : spl (enc xe) off vs = enc x') (ho : Nat.ble (off + vs.length) s = true) :
    EffS P (.store t x y) ty l w (fun w' => Mem w0 S w' (L.set j (.row A c e s (xs.set p.toNat x').length ((xs.set p.toNat x').flatMap enc))) ∧ xs.length = (xs.set p.toNat x').length) := by
  obtain ⟨h0, hlt, hg⟩ := gidx_some hp
  have ho' : off + vs.length ≤ s := Nat.le_of_ble_eq_true ho
  have hfl := spl_flat hlen hg hsp ho'
  have hl : p.toNat * s + off + vs.length ≤ (xs.flatMap enc).length := by
    rw [flat_length hlen]
    have : (p.toNat + 1) * s ≤ xs.length * s := Nat.mul_le_mul_right _ (by omega)
    rw [Nat.add_mul] at this
    omega
  obtain ⟨w', hrun, hM'⟩ := run_stR (v := v) hM hi ht hv h1 (by omega) hl
  rw [hfl, ← List.length_set (i := p.toNat) (a := x')] at hM'
  subst ha
  refine ⟨w', fun ρ hρ _ _ _ _ => ?_, hM', by simp⟩
  simp only [execOp, hρ x _ hx, hρ y _ hy]
  simp [Instr.storeAt, Instr.sureAddr, hrun]

/-! ### A part of a slice -/
theorem run_bound {code : BoundsCode} {Y : Nat} (h0 : 0 ≤ p) (h1 : p ≤ Y) : (Instr.sliceBound (.int k p) Y code).run P w = .ok p.toNat w := run_sliceBound w k p Y code h0 h1
/-- x[lo:hi] -/
theorem O.cut {lo hi : Operand} (ht : SliceT P t e s b) (hx : ev l x = some (.slice A m c)) (hlo : ev l lo = some (.int k p)) (hhi : ev l hi = some (.int k' q)) (h0 : 0 ≤ p) (h1 : p ≤ q) (h2 : q ≤ c) :
    OpV P (.slice t x (some lo) (some hi) none) ty l w (.slice (if c = p.toNat then A else A.map (·.add (p.toNat * s))) (q.toNat - p.toNat) (c - p.toNat)) := fun ρ hρ _ _ _ _ => by
  obtain ⟨i, hi', rfl, _⟩ := ht.info
  have h3 : p ≤ (q.toNat : Int) := by omega
  simp only [execOp, hρ x _ hx, hρ lo _ hlo, hρ hi _ hhi, Option.map_some, Option.map_none]
  simp [Instr.sliceAt, Instr.slice, run_underlying ht.1, Instr.sliceBounds, run_bound (P := P) (w := w) (k := k') (Int.le_trans h0 h1) h2, run_bound (P := P) (w := w) (k := k) h0 h3, sizeOf, typeInfo, hi']
/-- x[lo:] -/
theorem O.cutl {lo : Operand} (ht : SliceT P t e s b) (hx : ev l x = some (.slice A m c)) (hlo : ev l lo = some (.int k p)) (h0 : 0 ≤ p) (h1 : p ≤ m) :
    OpV P (.slice t x (some lo) none none) ty l w (.slice (if c = p.toNat then A else A.map (·.add (p.toNat * s))) (m - p.toNat) (c - p.toNat)) := fun ρ hρ _ _ _ _ => by
  obtain ⟨i, hi', rfl, _⟩ := ht.info
  simp only [execOp, hρ x _ hx, hρ lo _ hlo, Option.map_some, Option.map_none]
  simp [Instr.sliceAt, Instr.slice, run_underlying ht.1, Instr.sliceBounds, run_bound (P := P) (w := w) (k := k) h0 h1, sizeOf, typeInfo, hi']
/-- x[:hi] -/
theorem O.cuth {hi : Operand} (ht : SliceT P t e s b) (hx : ev l x = some (.slice A m c)) (hhi : ev l hi = some (.int k q)) (h0 : 0 ≤ q) (h2 : q ≤ c) :
    OpV P (.slice t x none (some hi) none) ty l w (.slice (if c = 0 then A else A.map (·.add (0 * s))) (q.toNat - 0) (c - 0)) := fun ρ hρ _ _ _ _ => by
  obtain ⟨i, hi', rfl, _⟩ := ht.info
  simp only [execOp, hρ x _ hx, hρ hi _ hhi, Option.map_some, Option.map_none]
  simp [Instr.sliceAt, Instr.slice, run_underlying ht.1, Instr.sliceBounds, run_bound (P := P) (w := w) (k := k) h0 h2, sizeOf, typeInfo, hi']
/-- x[:] -/
theorem O.cuta (ht : SliceT P t e s b) (hx : ev l x = some (.slice A m c)) :
    OpV P (.slice t x none none none) ty l w (.slice (if c = 0 then A else A.map (·.add (0 * s))) (m - 0) (c - 0)) := fun ρ hρ _ _ _ _ => by
  obtain ⟨i, hi', rfl, _⟩ := ht.info
  simp only [execOp, hρ x _ hx, Option.map_none]
  simp [Instr.sliceAt, Instr.slice, run_underlying ht.1, Instr.sliceBounds, sizeOf, typeInfo, hi']

/-! ### Strings -/
theorem O.b2s {xs : List Int} (ht : SliceT P t e s b) (he : P.underlying e = some (.int .u8)) (hd : P.underlying t' = some .string) (hx : ev l x = some (.slice A m c)) (hr : Rd w A c 1 m (xs.flatMap fun n => [Value.int .u8 n])) : OpV P (.convert t t' x) ty l w (.string (strOfNums xs)) := fun ρ hρ _ _ _ _ => by
  rw [flat_one] at hr
  have hl : xs.length = m := by have := hr.len; simpa using this
  simp only [execOp, hρ x _ hx, convert, Sem.run_bind, run_underlying ht.1, run_underlying hd, Result.andThen_ok, run_underlying he]
  rcases A with _ | ad
  · have h0 : m = 0 := by
      rcases Nat.eq_zero_or_pos m with h0 | h0
      · exact h0
      · obtain ⟨ad, h, _⟩ := hr.adr h0; cases h
    subst h0
    have : xs = [] := List.eq_nil_of_length_eq_zero hl
    subst this
    simp [Conv.bytesToString, strOfNums]
    rfl
  · have h1 := run_loadCells_list (P := P) w ad (xs.map (Value.int .u8)) (fun j u hj => hr.cs j u hj)
    rw [show (xs.map (Value.int .u8)).length = m by simpa using hl] at h1
    rw [run_bytesToString w ad m c xs h1, foldl_push_bytes]
    simp [strOfNums, ByteArray.empty, ByteArray.emptyWithCapacity]
    rfl
end
end Go.Ox
