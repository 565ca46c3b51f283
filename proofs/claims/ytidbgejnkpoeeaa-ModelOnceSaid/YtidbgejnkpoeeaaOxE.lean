/- A plain library: more operations: results that lie in variables, fields and literals of structs, parts of slices, copy, make. No program is named here. -/
import Derived.Test.YtidbgejnkpoeeaaOxG
set_option linter.unusedVariables false
namespace Go.Ox
open Go Go.RowKit
section
variable {F : Fence} {P : Program} {ops : Array Oper} {Q : Exit → Act → World → Prop} {rest : List Oper} {n : Fr} {d : Nat} {l l' : List (Nat × Value)} {w w0 w' : World} {L : List Ob} {S : List (Option Nat)}
variable {o : Op} {ty : TypeId} {pos : String} {after : Array Edge} {v : Value}
variable {x y : Operand} {k k' : IntKind} {p q : Int} {t t' e : TypeId} {A A2 : Option Addr} {s c c2 b m n1 : Nat}
variable {α : Type} {enc : α → List Value}

theorem Mem.bx (h : Mem w0 S w L) {i g : Nat} {cs : List Value} (hi : L[i]? = some (.box g e cs)) : Cs w ⟨g, 0, none⟩ cs := fun j u hj => by
  rw [add_at, cell_of_row w g j cs.toArray e (0, 0) (h.ok i _ hi)]
  simpa using hj
theorem Cs.fut {a : Addr} {cs : List Value} (h : Cs w a cs) (hf : Fut w w') : Cs w' a cs := fun j u hj => by
  have h1 := h j u hj
  exact (World.cell?_of_block (w := w) (hf.block _ (World.block_lt_of_cell? w _ h1) (by simp))).trans h1
theorem At.fut {cs : List Value} (h : At w A s m p cs) (hf : Fut w w') : At w' A s m p cs := ⟨h.isSome, h.lo, h.hi, h.cells.fut hf⟩
theorem Rd.fut {cs : List Value} (h : Rd w A c s m cs) (hf : Fut w w') : Rd w' A c s m cs := h.chg hf Off.nil
theorem fut_drewN (w : World) (k : Nat) : Fut w (w.drewN k) := ⟨rfl, rfl, rfl, Nat.le_refl _, fun _ _ _ => rfl, Nat.le_add_right _ _⟩
theorem Mem.fut {L1 : List Ob} (h : Mem w [] w' L1) : Fut w w' := h.chg

/-! ### Results -/
theorem run_loadVar1 {a : Addr} {u : Value} (ht : isScalar P t = true) (hc : w.cell? a = some u) : (loadVar t a).run P w = .ok u w := by
  simp [loadVar, run_isAgg_scalar ht, hc]
theorem run_loadVarN {a : Addr} {cs : List Value} (ht : isAggT P t cs.length = true) (hc : Cs w a cs) : (loadVar t a).run P w = .ok (.agg cs.toArray) w := by
  obtain ⟨h1, h2⟩ := isAggT_run ht w
  simp [loadVar, h1, h2, run_loadCells_list w a cs hc]
/-- What a result variable holds. -/
def RV (P : Program) (l : List (Nat × Value)) (w : World) : ResultVar → Value → Prop
  | .tmp t, v => lk l t = some v
  | .cell a t, v => ∃ ad, lk l a = some (.pointer (some ad)) ∧ (loadVar t ad).run P w = .ok v w
theorem RV.tm {u : Nat} (h : lk l u = some v) : RV P l w (.tmp u) v := h
theorem RV.c1 {a : Nat} {ad : Addr} (h : lk l a = some (.pointer (some ad))) (ht : isScalar P t = true) (hc : w.cell? ad = some v) : RV P l w (.cell a t) v := ⟨ad, h, run_loadVar1 ht hc⟩
theorem RV.cN {a : Nat} {ad : Addr} {cs : List Value} (h : lk l a = some (.pointer (some ad))) (ht : isAggT P t cs.length = true) (hc : Cs w ad cs) : RV P l w (.cell a t) (.agg cs.toArray) := ⟨ad, h, run_loadVarN ht hc⟩
def RVs (P : Program) (l : List (Nat × Value)) (w : World) : List ResultVar → List Value → Prop
  | [], [] => True
  | r :: rs, v :: vs => RV P l w r v ∧ RVs P l w rs vs
  | _, _ => False
def tupled : List Value → Value
  | [v] => v
  | vs => .tuple vs.toArray
def rvGo (tmps : Array Value) : ResultVar → Sem Value
  | .tmp t => Pure.pure (tmps.getD t undef)
  | .cell b t => do loadVar t (← asAddr (tmps.getD b undef))
theorem results_eq (fn : Func) (tmps : Array Value) : results fn tmps = (do
    let vs ← fn.results.mapM (rvGo tmps)
    Pure.pure (if h : vs.size = 1 then vs[0] else .tuple vs)) := by
  unfold results
  congr 2
theorem RV.run {a : Act} (ha : Kn n l a) {r : ResultVar} (h : RV P l w r v) : (rvGo a.tmps r).run P w = .ok v w := by
  cases r with
  | tmp t => simp only [rvGo, Sem.run_pure, ha.get t v h]
  | cell b t =>
    obtain ⟨ad, h1, h2⟩ := h
    simp only [rvGo, ha.get b _ h1, asAddr, Sem.run_bind, Sem.run_pure, Result.andThen_ok, h2]
theorem RVs.run {a : Act} (ha : Kn n l a) : ∀ {rs : List ResultVar} {vs : List Value}, RVs P l w rs vs → (List.mapM (rvGo a.tmps) rs).run P w = .ok vs w
  | [], [], _ => by simp
  | [], _ :: _, h => h.elim
  | _ :: _, [], h => h.elim
  | r :: rs, v :: vs, ⟨h1, h2⟩ => by
    rw [List.mapM_cons]
    simp only [Sem.run_bind, RV.run ha h1, Result.andThen_ok, RVs.run ha h2, Sem.run_pure]
theorem KQ.rets {n : Nat} {fn : Func} {R : Ending → World → Prop} {rs : List ResultVar} {vs : List Value} (hr : fn.results = rs.toArray) (h : RVs P l w rs vs) (hR : R (.returned (tupled vs)) w) : KQ (bodyPost P fn R) .ret (Fr.mk n []) l w := fun a ha => by
  refine ⟨ha.defs, tupled vs, ?_, hR⟩
  have h1 := RVs.run ha h
  rw [results_eq, hr, List.mapM_toArray]
  simp only [Sem.run_bind, Sem.run_map, h1, Result.andThen_ok, Sem.run_pure]
  match vs with
  | [] => rfl
  | [v] => rfl
  | v :: v' :: r => rfl
theorem KQ.endr {n : Nat} {fn : Func} {R : Ending → World → Prop} {rs : List ResultVar} {vs : List Value} (hr : fn.results = rs.toArray) (h : RVs P l w rs vs) (hR : R (.returned (tupled vs)) w) : KQ (bodyPost P fn R) .normal (Fr.mk n []) l w := fun a ha =>
  KQ.rets hr h hR a ha

/-! ### Structs -/
theorem FieldT.parts {f off fs : Nat} {ft : TypeId} (ht : FieldT P t f off ft fs) : ∃ fl fd i, P.underlying t = some (.struct fl) ∧ fl[f]? = some fd ∧ fd.offset = off ∧ fd.type = ft ∧ P.info? ft = some i ∧ i.size = fs := by
  obtain ⟨h1, h2⟩ := ht
  obtain ⟨i, hi, hs⟩ := Option.map_eq_some_iff.1 h2
  cases hu : P.underlying t with
  | none => simp [hu] at h1
  | some dd =>
    cases dd <;> simp [hu] at h1
    rename_i fl
    obtain ⟨fd, hfd, h3, h4⟩ := h1
    exact ⟨fl, fd, i, rfl, hfd, h3, h4, hi, hs⟩
theorem O.fld {f off : Nat} {ft : TypeId} {cs : List Value} {u : Value} (ht : FieldT P t f off ft 1) (hs : isScalar P ft = true) (hx : ev l x = some (.agg cs.toArray)) (hu : cs[off]? = some u) : OpV P (.field t x f) ty l w u := fun ρ hρ _ _ _ _ => by
  obtain ⟨fl, fd, i, h1, h2, rfl, rfl, _, _⟩ := ht.parts
  simp only [execOp, hρ x _ hx]
  simp [Instr.field, run_underlying h1, h2, asAgg, part, run_isAgg_scalar hs, hu]
theorem O.fldN {f off fs : Nat} {ft : TypeId} {cs cs' : List Value} (ht : FieldT P t f off ft fs) (hs : isAggT P ft fs = true) (hx : ev l x = some (.agg cs.toArray)) (hu : (cs.drop off).take fs = cs') : OpV P (.field t x f) ty l w (.agg cs'.toArray) := fun ρ hρ _ _ _ _ => by
  obtain ⟨fl, fd, i, h1, h2, rfl, rfl, _, _⟩ := ht.parts
  obtain ⟨h3, h4⟩ := isAggT_run hs w
  subst hu
  simp only [execOp, hρ x _ hx]
  simp [Instr.field, run_underlying h1, h2, asAgg, part, h3, h4]
  try (rw [List.extract_eq_take_drop]; congr 1; omega)
/-- A struct type's fields, as 'build' fills them. -/
def BuildT (P : Program) (t : TypeId) (places : List (Nat × Nat)) (z : List Value) : Prop :=
  (match P.underlying t with
    | some (.struct fl) => some (fl.toList.map fun f => (P.info? f.type).map fun i => (f.offset, i.size))
    | _ => none) = some (places.map some) ∧ ZeroT P t z
theorem run_places : ∀ (fl : List Field) (places : List (Nat × Nat)), (fl.map fun f => (P.info? f.type).map fun i => (f.offset, i.size)) = places.map some →
    (fl.mapM (m := Sem) fun f => do Pure.pure (f.offset, ← sizeOf f.type)).run P w = .ok places w
  | [], [], _ => by simp
  | [], _ :: _, h => by simp at h
  | f :: fl, [], h => by simp at h
  | f :: fl, pl :: places, h => by
    simp only [List.map_cons, List.cons.injEq] at h
    obtain ⟨i, hi, rfl⟩ := Option.map_eq_some_iff.1 h.1
    have ih := run_places fl places h.2
    rw [List.mapM_cons]
    simp only [Sem.run_bind, sizeOf, typeInfo, run_program, Result.andThen_ok, hi, Sem.run_pure]
    simp only [sizeOf, typeInfo] at ih
    rw [ih]
    simp
theorem O.bld {places : List (Nat × Nat)} {z cs : List Value} {parts : Array (Nat × Operand)} {vs : List (Nat × Value)} (ht : BuildT P t places z) (hv : evps l parts.toList = some vs)
    (hf0 : fillL (fun i => places[i]?) z vs = some cs) : OpV P (.build t parts) ty l w (.agg cs.toArray) := fun ρ hρ _ _ _ _ => by
  have hf := fill_eq _ _ _ _ hf0
  obtain ⟨h1, hz⟩ := ht
  unfold ZeroT at hz
  obtain ⟨i, hi, h2⟩ := Option.map_eq_some_iff.1 hz
  obtain ⟨zv, hzv, hzc⟩ := Option.map_eq_some_iff.1 h2
  cases hu : P.underlying t with
  | none => simp [hu] at h1
  | some dd =>
    cases dd <;> simp only [hu] at h1 <;> first | cases h1 | skip
    rename_i fl
    simp only [Option.some.injEq] at h1
    have hp := run_places (P := P) (w := w) _ _ h1
    simp only [execOp, evps_map hρ hv, Instr.build, Sem.run_bind, zeroValue, typeInfo, run_program, Result.andThen_ok, hi, Sem.run_pure, hzv, run_underlying hu]
    have hm : (Array.mapM (m := Sem) (fun f => do Pure.pure (f.offset, ← sizeOf f.type)) fl).run P w = .ok places.toArray w := by
      rw [← Array.toArray_toList (xs := fl), List.mapM_toArray, Sem.run_map]
      rw [hp]
      rfl
    rw [hm]
    simp only [Result.andThen_ok, hzc]
    have : (fun (i : Nat) => places.toArray[i]?) = fun (i : Nat) => places[i]? := by funext i; simp
    rw [this, hf]
    simp

/-! ### Parts of slices, typed -/
def gcut {α : Type} (xs : List α) (p q : Int) : Option (List α) := if 0 ≤ p ∧ p ≤ q ∧ q ≤ xs.length then some ((xs.drop p.toNat).take (q.toNat - p.toNat)) else none
theorem drop_flat (hl : ∀ x, (enc x).length = s) : ∀ (xs : List α) (k : Nat), (xs.flatMap enc).drop (k * s) = (xs.drop k).flatMap enc
  | [], k => by simp
  | x :: xs, 0 => by simp
  | x :: xs, k + 1 => by
    rw [List.flatMap_cons, List.drop_succ_cons, ← drop_flat hl xs k, List.drop_append, List.drop_of_length_le (by rw [hl, Nat.add_mul]; omega), List.nil_append, hl]
    congr 1
    rw [Nat.add_mul]; omega
theorem take_flat (hl : ∀ x, (enc x).length = s) : ∀ (xs : List α) (k : Nat), (xs.flatMap enc).take (k * s) = (xs.take k).flatMap enc
  | [], k => by simp
  | x :: xs, 0 => by simp
  | x :: xs, k + 1 => by
    rw [List.flatMap_cons, List.take_succ_cons, List.flatMap_cons, ← take_flat hl xs k, List.take_append, List.take_of_length_le (by rw [hl, Nat.add_mul]; omega), hl]
    congr 2
    rw [Nat.add_mul]; omega
theorem gcut_some {xs ys : List α} (h : gcut xs p q = some ys) : 0 ≤ p ∧ p ≤ q ∧ q ≤ xs.length ∧ ys = (xs.drop p.toNat).take (q.toNat - p.toNat) ∧ ys.length = q.toNat - p.toNat := by
  unfold gcut at h
  split at h
  · rename_i hc
    obtain rfl := Option.some.inj h
    refine ⟨hc.1, hc.2.1, hc.2.2, rfl, ?_⟩
    simp; omega
  · cases h
theorem Rd.cutT {xs ys : List α} (hl : ∀ x, (enc x).length = s) (h : Rd w A c s xs.length (xs.flatMap enc)) (hy : gcut xs p q = some ys) {m : Nat} (h1 : q.toNat ≤ m) (h2 : m ≤ c) :
    Rd w (if m = p.toNat then A else A.map (·.add (p.toNat * s))) (m - p.toNat) s ys.length (ys.flatMap enc) := by
  obtain ⟨h3, h4, h5, rfl, h6⟩ := gcut_some hy
  have := h.cut (lo := p.toNat) (hi := q.toNat) (m := m) (by omega) (by omega) h1 h2
  rw [h6]
  have e : ((xs.flatMap enc).drop (p.toNat * s)).take ((q.toNat - p.toNat) * s) = ((xs.drop p.toNat).take (q.toNat - p.toNat)).flatMap enc := by
    rw [drop_flat hl, take_flat hl]
  rw [← e]
  exact this
/-- x[p:q], q not above the length. -/
theorem O.cutT {w1 : World} {xs ys : List α} {lo hi : Operand} (ht : SliceT P t e s b) (hr : Rd w1 A c s xs.length (xs.flatMap enc)) (hy : gcut xs p q = some ys) (hx : ev l x = some (.slice A xs.length c)) (hlo : ev l lo = some (.int k p)) (hhi : ev l hi = some (.int k' q)) :
    OpV P (.slice t x (some lo) (some hi) none) ty l w (.slice (if c = p.toNat then A else A.map (·.add (p.toNat * s))) ys.length (c - p.toNat)) := by
  obtain ⟨h3, h4, h5, _, h6⟩ := gcut_some hy
  rw [h6]
  exact O.cut ht hx hlo hhi h3 h4 (by have := hr.cap; omega)
theorem O.cutlT {w1 : World} {xs ys : List α} {lo : Operand} (ht : SliceT P t e s b) (hr : Rd w1 A c s xs.length (xs.flatMap enc)) (hy : gcut xs p xs.length = some ys) (hx : ev l x = some (.slice A xs.length c)) (hlo : ev l lo = some (.int k p)) :
    OpV P (.slice t x (some lo) none none) ty l w (.slice (if c = p.toNat then A else A.map (·.add (p.toNat * s))) ys.length (c - p.toNat)) := by
  obtain ⟨h3, h4, h5, _, h6⟩ := gcut_some hy
  rw [h6]
  simp only [Int.toNat_natCast]
  exact O.cutl ht hx hlo h3 h4
theorem O.cuthT {w1 : World} {xs ys : List α} {hi : Operand} (ht : SliceT P t e s b) (hr : Rd w1 A c s xs.length (xs.flatMap enc)) (hy : gcut xs 0 q = some ys) (hx : ev l x = some (.slice A xs.length c)) (hhi : ev l hi = some (.int k' q)) :
    OpV P (.slice t x none (some hi) none) ty l w (.slice (if c = (0 : Int).toNat then A else A.map (·.add ((0 : Int).toNat * s))) ys.length (c - (0 : Int).toNat)) := by
  obtain ⟨h3, h4, h5, _, h6⟩ := gcut_some hy
  rw [h6]
  exact O.cuth ht hx hhi h4 (by have := hr.cap; omega)
/-- Where a part of a slice lies, under names of its own. -/
theorem cutN (A : Option Addr) (c p s : Nat) : ∃ A' c', A' = (if c = p then A else A.map (·.add (p * s))) ∧ c' = c - p := ⟨_, _, rfl, rfl⟩
theorem Off.cut {α : Type} {S : List (Option Nat)} {c p' s : Nat} {xs ys : List α} {p q : Int} (h : Off S xs.length A) (hy : gcut xs p q = some ys) : Off S ys.length (if c = p' then A else A.map (·.add (p' * s))) := fun hn ad had => by
  obtain ⟨h3, h4, h5, _, h6⟩ := gcut_some hy
  have hx : 0 < xs.length := by omega
  split at had
  · exact h hx ad had
  · cases A with
    | none => cases had
    | some a =>
      simp at had
      subst had
      rw [add_block]
      exact h hx a rfl
theorem At.chg {cs : List Value} (h : At w A s m p cs) (hc : Chg S w w') (ho : Off S m A) : At w' A s m p cs := by
  obtain ⟨ad, rfl⟩ := Option.isSome_iff_exists.1 h.isSome
  have hm : 0 < m := by have := h.lo; have := h.hi; omega
  refine ⟨rfl, h.lo, h.hi, fun j u hj => ?_⟩
  have h1 := h.cells j u hj
  have hb : (((some ad : Option Addr).getD zad).add (p.toNat * s)).add j = ad.add (p.toNat * s + j) := by rw [add_add]; rfl
  rw [hb] at h1 ⊢
  have hlt := World.block_lt_of_cell? w _ h1
  exact (World.cell?_of_block (w := w) (hc.block _ hlt (by rw [add_block]; exact ho hm ad rfl))).trans h1
end
end Go.Ox
