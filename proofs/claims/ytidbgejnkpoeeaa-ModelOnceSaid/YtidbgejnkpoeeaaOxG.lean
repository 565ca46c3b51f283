/- A plain library: a region whose order Go leaves open: one walk, in an order in which what only reads is taken as early as it may be, serves every order. No program is named here. -/
import Derived.Test.YtidbgejnkpoeeaaOxD
import Derived.Deep.RegionHeld3
import Derived.OrdersIn
set_option linter.unusedVariables false
namespace Go.Ox
open Go Go.RowKit

/-- Nothing of what is there has turned. -/
abbrev Fut (w w' : World) : Prop := Chg [] w w'
theorem Chg.trans {S : List (Option Nat)} {a b c : World} (h : Chg S a b) (k : Chg S b c) : Chg S a c :=
  ⟨k.os.trans h.os, k.tape.trans h.tape, k.output.trans h.output, Nat.le_trans h.size k.size, fun i hi hs => (k.block i (Nat.lt_of_lt_of_le hi h.size) hs).trans (h.block i hi hs), Nat.le_trans h.drawn k.drawn⟩
theorem Chg.wide {S T : List (Option Nat)} {a b : World} (h : Chg S a b) (hs : ∀ k, some k ∈ S → some k ∈ T) : Chg T a b := ⟨h.os, h.tape, h.output, h.size, fun k hk hkT => h.block k hk fun hkS => hkT (hs k hkS), h.drawn⟩
theorem Chg.wide0 {T : List (Option Nat)} {a b : World} (h : Chg [] a b) : Chg T a b := h.wide (by simp)
section
variable {F : Fence} {P : Program} {ops : Array Oper} {Q : Exit → Act → World → Prop} {ld mv pu : List Nat} {X : List (Option Nat)}

/-- A later world; or any, for what asks nothing of the world. -/
def FutB (X : List (Option Nat)) (b : Bool) (w w' : World) : Prop := b = true ∨ Chg X w w'
theorem FutB.trans {b : Bool} {w w' w'' : World} (h : FutB X b w w') (k : FutB X b w' w'') : FutB X b w w'' := by
  rcases h with h | h
  · exact .inl h
  · rcases k with k | k
    · exact .inl k
    · exact .inr (h.trans k)
/-- In the state a, in the world w and in every later one, operation o leaves v in its slot. -/
def YieldsF (P : Program) (X : List (Option Nat)) (ops : Array Oper) (o : Oper) (v : Value) (b : Bool) (a : Act) (w : World) : Prop :=
  (Region.wanted o (yielded ops a.tmps) = true ∧ ∀ w', FutB X b w w' → (execOp a.eval o).run P w' = .ok (.value v) w') ∨
  (Region.wanted o (yielded ops a.tmps) = false ∧ v = undef)
variable {b : Bool}
theorem YieldsF.later {o : Oper} {v : Value} {a : Act} {w w' : World} (h : YieldsF P X ops o v b a w) (hf : FutB X b w w') : YieldsF P X ops o v b a w' :=
  h.imp (fun ⟨h1, h2⟩ => ⟨h1, fun w'' hf' => h2 w'' (hf.trans hf')⟩) id
theorem YieldsF.of_same {o : Oper} {v : Value} {a a' : Act} {w : World} (hy : YieldsF P X ops o v b a w) (he : execOp a'.eval o = execOp a.eval o)
    (hw : Region.wanted o (yielded ops a'.tmps) = Region.wanted o (yielded ops a.tmps)) : YieldsF P X ops o v b a' w := by
  unfold YieldsF at *
  rw [he, hw]
  exact hy
theorem YieldsF.wpOpIn [WF F] {i : Nat} {o : Oper} {v : Value} {a : Act} {w : World} (hi : ops[i]? = some o) (hy : YieldsF P X ops o v b a w) {K : Act → World → Prop} (h : K (a.put o.dst v) w) : wpOpIn F 0 P ops Q i K a w := by
  unfold Go.wpOpIn
  simp only [hi]
  rcases hy with ⟨hw, hv⟩ | ⟨hw, rfl⟩
  · simp only [hw, if_true]; exact inVal (hv w (.inr .refl)) h
  · simp only [hw, Bool.false_eq_true, if_false]; exact ⟨fun f _ => WF.fn f, h⟩

/-- Whatever order is picked from here on; what is not in ld turns nothing that is there. -/
def wpAnyF (F : Fence) (P : Program) (X : List (Option Nat)) (ops : Array Oper) (Q : Exit → Act → World → Prop) (ld : List Nat) : Nat → Array Bool → Act → World → Prop
  | 0, listed, a, w => Region.ready .any ops listed = [] ∧ Q .normal a w
  | fuel + 1, listed, a, w =>
    (Region.ready .any ops listed = [] → Q .normal a w) ∧
    ∀ i ∈ Region.ready .any ops listed, Go.wpOpIn F 0 P ops Q i (fun a' w' => (ld.contains i = false → Chg X w w') ∧ wpAnyF F P X ops Q ld fuel (listed.setIfInBounds i true) a' w') a w
theorem wpAnyF.any : ∀ (fuel : Nat) (listed : Array Bool) (a : Act) (w : World), wpAnyF F P X ops Q ld fuel listed a w → wpAnyIn F 0 P .any ops Q fuel listed a w
  | 0, _, _, _, h => h
  | fuel + 1, _, _, _, h => ⟨h.1, fun i hi => wpOpIn_mono (fun a' w' h' => wpAnyF.any fuel _ a' w' h'.2) (h.2 i hi)⟩

theorem wpOp_putF [WF F] {j : Nat} {oi oj : Oper} {v : Value} (hj : ops[j]? = some oj) (hap : oi.apart ops oj = true)
    (hsi : ∀ cs b, oi.op ≠ .select cs b) (hsj : ∀ cs b, oj.op ≠ .select cs b) (hnj : ∀ c, oj.op ≠ .defer c) {K : Act → World → Prop} {a : Act} {w : World} (hQ : ∀ c a w, ¬ Q (.panic c) a w)
    (hy : YieldsF P X ops oi v b a w) (h : Go.wpOpIn F 0 P ops Q j (fun a' w' => FutB X b w w' ∧ K a' w') (a.put oi.dst v) w) :
    Go.wpOpIn F 0 P ops Q j (fun a' w' => FutB X b w w' ∧ YieldsF P X ops oi v b a' w' ∧ K (a'.put oi.dst v) w') a w := by
  obtain ⟨h1, h2, h3⟩ := Oper.apart_spec hap
  have keep : ∀ (w' : World), FutB X b w w' → ∀ u, YieldsF P X ops oi v b (a.put oj.dst u) w' := fun w' hf u =>
    (hy.later hf).of_same (execOp_put oi hsi a oj.dst u h3) (wanted_put oi a oj.dst u h3)
  have keepD : ∀ (w' : World), FutB X b w w' → ∀ d u, YieldsF P X ops oi v b (({ a with defers := d :: a.defers } : Act).put oj.dst u) w' := fun w' hf d u =>
    YieldsF.of_same (a := { a with defers := d :: a.defers }) ((hy.later hf).of_same rfl rfl) (execOp_put oi hsi _ oj.dst u h3) (wanted_put oi _ oj.dst u h3)
  unfold Go.wpOpIn at *
  simp only [hj] at *
  rw [wanted_put oj a oi.dst v h1] at h
  split
  · rename_i hw
    simp only [hw, if_true] at h
    refine ⟨fun f _ => WF.fn f, ?_⟩
    have h := h.2
    rw [Oper.semAt_eq _ _ _ hnj] at h ⊢
    rw [execOp_put oj hsj a oi.dst v h1] at h
    generalize (execOp a.eval oj).run P w = r at *
    cases r with
    | ok n w' =>
      cases n <;> simp only [Oper.uponIn] at h ⊢
      case value u => exact ⟨h.1, keep _ h.1 u, by rw [← Act.put_comm a v u h2]; exact h.2⟩
      case skip => exact ⟨h.1, keep _ h.1 _, by rw [← Act.put_comm a v undef h2]; exact h.2⟩
      case defer d =>
        refine ⟨h.1, keepD _ h.1 d _, ?_⟩
        rw [← Act.put_comm _ v undef h2, ← Act.put_defers]
        exact h.2
      case enter f args =>
        refine ⟨h.1, CallsIn.mono h.2 fun e w'' he => ?_⟩
        cases e with
        | returned u => exact ⟨he.1, keep _ he.1 u, by rw [← Act.put_comm a v u h2]; exact he.2⟩
        | panicked c => exact (hQ _ _ _ he).elim
        | outgrown => exact he
      case row row args => exact ⟨h.1, RowsIn.mono h.2 fun u w'' he => ⟨he.1, keep _ he.1 u, by rw [← Act.put_comm a v u h2]; exact he.2⟩⟩
      case round l f tmps assign body =>
        refine ⟨h.1, RoundIn.mono h.2 fun e w'' he => ?_⟩
        cases e with
        | returned u => exact ⟨he.1, keep _ he.1 u, by rw [← Act.put_comm a v u h2]; exact he.2⟩
        | panicked c => exact (hQ _ _ _ he).elim
        | outgrown => exact he
    | halt x w' =>
      cases x <;> simp only [Oper.uponIn] at h ⊢
      case panic u => exact (hQ _ _ _ h).elim
  · rename_i hw
    simp only [hw] at h
    have h := h.2
    exact ⟨fun f _ => WF.fn f, h.1, keep _ h.1 _, by rw [← Act.put_comm a v undef h2]; exact h.2⟩

/-- What waits for i, at once or behind others. -/
def waitC (ops : Array Oper) (i : Nat) : List Nat := (List.range ops.size).foldl (fun C j => match ops[j]? with
  | some oj => if oj.after.toList.any (fun e => Region.binds .any e && C.contains e.on) then j :: C else C
  | none => C) [i]
/-- Each operation that has not come up waits for i, or is apart from it and turns nothing. -/
def freeC (ops : Array Oper) (ld : List Nat) (b : Bool) (listed : Array Bool) (C : List Nat) (i : Nat) : Bool :=
  match ops[i]? with
  | some oi => (C.all fun j => !listed.getD j true && (j == i || (match ops[j]? with
      | some oj => oj.after.toList.any (fun e => Region.binds .any e && C.contains e.on)
      | none => false))) && (List.range ops.size).all fun j => C.contains j || listed.getD j true || (match ops[j]? with
    | some oj => oi.apart ops oj && (b || !ld.contains j)
    | none => true)
  | none => false
def freeF (ops : Array Oper) (ld : List Nat) (b : Bool) (listed : Array Bool) (i : Nat) : Bool := freeC ops ld b listed (waitC ops i) i
theorem freeC_spec {listed : Array Bool} {C : List Nat} {i : Nat} {oi : Oper} (hi : ops[i]? = some oi) (h : freeC ops ld b listed C i = true) :
    (∀ j ∈ C, listed.getD j true = false) ∧ (∀ j ∈ C, j ≠ i → ∀ oj, ops[j]? = some oj → ∃ e ∈ oj.after, Region.binds .any e = true ∧ e.on ∈ C) ∧
    ∀ j oj, ops[j]? = some oj → j ∉ C → listed.getD j true = false → oi.apart ops oj = true ∧ (b = true ∨ ld.contains j = false) := by
  unfold freeC at h
  simp only [hi, Bool.and_eq_true, List.all_eq_true, List.mem_range] at h
  obtain ⟨h1, h2⟩ := h
  refine ⟨fun j hj => by simpa using (h1 j hj).1, fun j hj hne oj hoj => ?_, fun j oj hj hne hl => ?_⟩
  · have := (h1 j hj).2
    simp only [hoj, Bool.or_eq_true, beq_iff_eq, hne, false_or, List.any_eq_true, Bool.and_eq_true] at this
    obtain ⟨e, he, hb, hc⟩ := this
    exact ⟨e, by simpa using he, hb, by simpa using hc⟩
  · have := h2 j (Array.getElem?_eq_some_iff.1 hj).1
    have hc : C.contains j = false := by simpa using hne
    simp only [hl, hj, hc, Bool.or_false, Bool.false_or, Bool.and_eq_true, Bool.or_eq_true, Bool.not_eq_true'] at this
    exact this
theorem wpAnyF_first [WF F] {C : List Nat} {i : Nat} {oi : Oper} {v : Value} (hi : ops[i]? = some oi) (hsel : ∀ (j : Nat) (o : Oper) cs b, ops[j]? = some o → o.op ≠ .select cs b) (hnd : ∀ (j : Nat) (o : Oper) c, ops[j]? = some o → o.op ≠ .defer c) (hQ : ∀ c a w, ¬ Q (.panic c) a w)
    (hcl : ∀ j ∈ C, j ≠ i → ∀ oj, ops[j]? = some oj → ∃ e ∈ oj.after, Region.binds .any e = true ∧ e.on ∈ C) :
    ∀ (fuel : Nat) (listed : Array Bool) (a : Act) (w : World),
      (∀ j ∈ C, listed.getD j true = false) →
      (∀ j oj, ops[j]? = some oj → j ∉ C → listed.getD j true = false → oi.apart ops oj = true ∧ (b = true ∨ ld.contains j = false)) →
      i ∈ Region.ready .any ops listed → YieldsF P X ops oi v b a w →
      wpAnyF F P X ops Q ld fuel (listed.setIfInBounds i true) (a.put oi.dst v) w → wpAnyF F P X ops Q ld (fuel + 1) listed a w := by
  intro fuel
  induction fuel with
  | zero =>
    intro listed a w _ _ hr hy H
    refine ⟨fun h => (by rw [h] at hr; cases hr), fun j hj => ?_⟩
    by_cases hji : j = i
    · subst hji; exact hy.wpOpIn hi ⟨fun _ => .refl, H⟩
    · have := ready_mono hj hji
      rw [H.1] at this
      cases this
  | succ fuel ih =>
    intro listed a w hC hfree hr hy H
    refine ⟨fun h => (by rw [h] at hr; cases hr), fun j hj => ?_⟩
    by_cases hji : j = i
    · subst hji; exact hy.wpOpIn hi ⟨fun _ => .refl, H⟩
    · have h1 := H.2 j (ready_mono hj hji)
      obtain ⟨hjun, oj, hoj, hall⟩ := mem_ready.1 hj
      have hjC : j ∉ C := fun hmem => by
        obtain ⟨e, he, hb, hon⟩ := hcl j hmem hji oj hoj
        have h1 := hall e he hb
        have h0 := hC _ hon
        rcases Nat.lt_or_ge e.on listed.size with h' | h'
        · simp [h'] at h0 h1; rw [h0] at h1; cases h1
        · simp [Array.getElem?_eq_none h'] at h1
      obtain ⟨hap, hld⟩ := hfree j oj hoj hjC hjun
      have h1' : Go.wpOpIn F 0 P ops Q j (fun a' w' => FutB X b w w' ∧ ((ld.contains j = false → Chg X w w') ∧ wpAnyF F P X ops Q ld fuel ((listed.setIfInBounds i true).setIfInBounds j true) a' w')) (a.put oi.dst v) w := wpOpIn_mono (fun a' w' h => ⟨hld.imp id h.1, h⟩) h1
      have h2 := wpOp_putF (K := fun a' w' => (ld.contains j = false → Chg X w w') ∧ wpAnyF F P X ops Q ld fuel ((listed.setIfInBounds i true).setIfInBounds j true) a' w') hoj hap (fun cs b => hsel i oi cs b hi) (fun cs b => hsel j oj cs b hoj) (fun c => hnd j oj c hoj) hQ hy h1'
      have hC' : ∀ k ∈ C, (listed.setIfInBounds j true).getD k true = false := fun k hk => by
        rw [getD_set_ne true (fun e => hjC (by rw [e]; exact hk))]; exact hC k hk
      have hfree' : ∀ k ok, ops[k]? = some ok → k ∉ C → (listed.setIfInBounds j true).getD k true = false → oi.apart ops ok = true ∧ (b = true ∨ ld.contains k = false) := fun k ok hk hki hun => by
        refine hfree k ok hk hki ?_
        by_cases hjk : j = k
        · subst hjk; exact hjun
        · rw [getD_set_ne true hjk] at hun; exact hun
      refine wpOpIn_mono (fun a' w' h3 => ⟨h3.2.2.1, ih (listed.setIfInBounds j true) a' w' hC' hfree' (ready_mono hr (Ne.symm hji)) h3.2.1 ?_⟩) h2
      rw [Array.setIfInBounds_comm _ _ hji]
      exact h3.2.2.2

/-- An order in which the operations come up; at 'alt' either of two acting ones may come first. -/
inductive Ordr where
  | nil
  | cons (i : Nat) (r : Ordr)
  | alt (i : Nat) (r : Ordr) (j : Nat) (s : Ordr)
  | alt3 (i : Nat) (r : Ordr) (j : Nat) (s : Ordr) (k : Nat) (t : Ordr)
def Ordr.len : Ordr → Nat
  | .nil => 0
  | .cons _ r => r.len + 1
  | .alt _ r _ _ => r.len + 1
  | .alt3 _ r _ _ _ _ => r.len + 1
def Ordr.ofList : List Nat → Ordr
  | [] => .nil
  | i :: r => .cons i (Ordr.ofList r)
/-- The walk in one order: those of mv are carried out where they stand, all others are taken first. -/
def WD1 (F : Fence) (P : Program) (ops : Array Oper) (Q : Exit → Act → World → Prop) (ld mv pu : List Nat) (X : List (Option Nat)) (i : Nat) (K : Act → World → Prop) (a : Act) (w : World) : Prop :=
  match ops[i]? with
  | none => False
  | some o => match mv.contains i with
    | true => Go.wpOpIn F 0 P ops Q i (fun a' w' => (ld.contains i = false → Chg X w w') ∧ K a' w') a w
    | false => ∃ v, YieldsF P X ops o v (pu.contains i) a w ∧ K (a.put o.dst v) w
def WD (F : Fence) (P : Program) (ops : Array Oper) (Q : Exit → Act → World → Prop) (ld mv pu : List Nat) (X : List (Option Nat)) : Ordr → Act → World → Prop
  | .nil, a, w => Q .normal a w
  | .cons i r, a, w => WD1 F P ops Q ld mv pu X i (WD F P ops Q ld mv pu X r) a w
  | .alt i r j s, a, w => WD1 F P ops Q ld mv pu X i (WD F P ops Q ld mv pu X r) a w ∧ WD1 F P ops Q ld mv pu X j (WD F P ops Q ld mv pu X s) a w
  | .alt3 i r j s k t, a, w => WD1 F P ops Q ld mv pu X i (WD F P ops Q ld mv pu X r) a w ∧ WD1 F P ops Q ld mv pu X j (WD F P ops Q ld mv pu X s) a w ∧ WD1 F P ops Q ld mv pu X k (WD F P ops Q ld mv pu X t) a w
def chkD (ops : Array Oper) (ld mv pu : List Nat) : Ordr → Array Bool → Bool
  | .nil, listed => (Region.ready .any ops listed).isEmpty
  | .cons i r, listed => (match mv.contains i with
    | true => Region.ready .any ops listed == [i]
    | false => (Region.ready .any ops listed).contains i && freeF ops ld (pu.contains i) listed i) && chkD ops ld mv pu r (listed.setIfInBounds i true)
  | .alt i r j s, listed => (Region.ready .any ops listed == [i, j] && mv.contains i && mv.contains j && Nat.beq r.len s.len) && chkD ops ld mv pu r (listed.setIfInBounds i true) && chkD ops ld mv pu s (listed.setIfInBounds j true)
  | .alt3 i r j s k t, listed => (Region.ready .any ops listed == [i, j, k] && mv.contains i && mv.contains j && mv.contains k && Nat.beq r.len s.len && Nat.beq r.len t.len) && chkD ops ld mv pu r (listed.setIfInBounds i true) && chkD ops ld mv pu s (listed.setIfInBounds j true) && chkD ops ld mv pu t (listed.setIfInBounds k true)
theorem WD.any [WF F] (hnd : ∀ (j : Nat) (o : Oper) c, ops[j]? = some o → o.op ≠ .defer c) (hsel : Region.noSelect ops = true) (hQ : ∀ c a w, ¬ Q (.panic c) a w) : ∀ (ord : Ordr) (listed : Array Bool) (a : Act) (w : World), chkD ops ld mv pu ord listed = true → WD F P ops Q ld mv pu X ord a w → wpAnyF F P X ops Q ld ord.len listed a w
  | .nil, listed, a, w, hc, h => ⟨by simpa [chkD] using hc, h⟩
  | .cons i r, listed, a, w, hc, h => by
    simp only [chkD, Bool.and_eq_true] at hc
    unfold WD WD1 at h
    obtain ⟨hc1, hc2⟩ := hc
    cases ho : ops[i]? with
    | none => rw [ho] at h; exact h.elim
    | some o =>
      rw [ho] at h
      cases hm : mv.contains i with
      | true =>
        rw [hm] at h hc1
        simp only [beq_iff_eq] at hc1
        refine ⟨fun e => (by rw [hc1] at e; cases e), fun j hj => ?_⟩
        rw [hc1] at hj
        simp at hj
        subst hj
        exact wpOpIn_mono (fun a' w' h' => ⟨h'.1, WD.any hnd hsel hQ r _ a' w' hc2 h'.2⟩) h
      | false =>
        rw [hm] at h hc1
        simp only [Bool.and_eq_true, List.contains_iff_mem] at hc1
        obtain ⟨v, hy, h'⟩ := h
        obtain ⟨q1, q2, q3⟩ := freeC_spec ho hc1.2
        exact wpAnyF_first ho (Region.noSelect_spec hsel) hnd hQ q2 r.len listed a w q1 q3 hc1.1 hy (WD.any hnd hsel hQ r _ _ w hc2 h')
  | .alt i r j s, listed, a, w, hc, h => by
    simp only [chkD, Bool.and_eq_true, beq_iff_eq] at hc
    obtain ⟨⟨⟨⟨⟨hr, hi⟩, hj⟩, hl⟩, hc1⟩, hc2⟩ := hc
    have hl := Nat.eq_of_beq_eq_true hl
    unfold WD WD1 at h
    rw [hi, hj] at h
    obtain ⟨h1, h2⟩ := h
    refine ⟨fun e => (by rw [hr] at e; cases e), fun k hk => ?_⟩
    rw [hr] at hk
    simp only [List.mem_cons, List.not_mem_nil, or_false] at hk
    rcases hk with rfl | rfl
    · cases ho : ops[k]? with
      | none => rw [ho] at h1; exact h1.elim
      | some o =>
        rw [ho] at h1
        exact wpOpIn_mono (fun a' w' h' => ⟨h'.1, WD.any hnd hsel hQ r _ a' w' hc1 h'.2⟩) h1
    · cases ho : ops[k]? with
      | none => rw [ho] at h2; exact h2.elim
      | some o =>
        rw [ho] at h2
        show Go.wpOpIn F 0 P ops Q k (fun a' w' => (ld.contains k = false → Chg X w w') ∧ wpAnyF F P X ops Q ld r.len (listed.setIfInBounds k true) a' w') a w
        rw [hl]
        exact wpOpIn_mono (fun a' w' h' => ⟨h'.1, WD.any hnd hsel hQ s _ a' w' hc2 h'.2⟩) h2
  | .alt3 i r j s m t, listed, a, w, hc, h => by
    simp only [chkD, Bool.and_eq_true, beq_iff_eq] at hc
    obtain ⟨⟨⟨⟨⟨⟨⟨⟨hr, hi⟩, hj⟩, hm⟩, hl⟩, hl2⟩, hc1⟩, hc2⟩, hc3⟩ := hc
    have hl := Nat.eq_of_beq_eq_true hl
    have hl2 := Nat.eq_of_beq_eq_true hl2
    unfold WD WD1 at h
    rw [hi, hj, hm] at h
    obtain ⟨h1, h2, h3⟩ := h
    refine ⟨fun e => (by rw [hr] at e; cases e), fun k hk => ?_⟩
    rw [hr] at hk
    simp only [List.mem_cons, List.not_mem_nil, or_false] at hk
    rcases hk with rfl | rfl | rfl
    · cases ho : ops[k]? with
      | none => rw [ho] at h1; exact h1.elim
      | some o =>
        rw [ho] at h1
        exact wpOpIn_mono (fun a' w' h' => ⟨h'.1, WD.any hnd hsel hQ r _ a' w' hc1 h'.2⟩) h1
    · cases ho : ops[k]? with
      | none => rw [ho] at h2; exact h2.elim
      | some o =>
        rw [ho] at h2
        show Go.wpOpIn F 0 P ops Q k (fun a' w' => (ld.contains k = false → Chg X w w') ∧ wpAnyF F P X ops Q ld r.len (listed.setIfInBounds k true) a' w') a w
        rw [hl]
        exact wpOpIn_mono (fun a' w' h' => ⟨h'.1, WD.any hnd hsel hQ s _ a' w' hc2 h'.2⟩) h2
    · cases ho : ops[k]? with
      | none => rw [ho] at h3; exact h3.elim
      | some o =>
        rw [ho] at h3
        show Go.wpOpIn F 0 P ops Q k (fun a' w' => (ld.contains k = false → Chg X w w') ∧ wpAnyF F P X ops Q ld r.len (listed.setIfInBounds k true) a' w') a w
        rw [hl2]
        exact wpOpIn_mono (fun a' w' h' => ⟨h'.1, WD.any hnd hsel hQ t _ a' w' hc3 h'.2⟩) h3
def RD (F : Fence) (P : Program) (ops : Array Oper) (Q : Exit → Act → World → Prop) (ld mv pu : List Nat) (X : List (Option Nat)) (ord : Ordr) (n : Fr) (l : List (Nat × Value)) (w : World) : Prop :=
  ∀ a, Kn n l a → WD F P ops (NoPanic Q) ld mv pu X ord a w
def noDefer (ops : Array Oper) : Bool := ops.toList.all fun o => match o.op with
  | .defer _ => false
  | _ => true
theorem noDefer_spec (h : noDefer ops = true) : ∀ (j : Nat) (o : Oper) c, ops[j]? = some o → o.op ≠ .defer c := fun j o c hj hc => by
  have := List.all_eq_true.1 h o (by simpa using Array.mem_of_getElem? hj)
  rw [hc] at this
  cases this
def chkR (ops : Array Oper) (ld mv pu : List Nat) (ord : Ordr) : Bool := (Region.noSelect ops && noDefer ops) && Nat.beq ord.len ops.size && chkD ops ld mv pu ord (Array.replicate ops.size false)

variable {n : Fr} {d : Nat} {l l' : List (Nat × Value)} {w w' : World} {ord : Ordr}
theorem KC.draw [WF F] {id : Nat} (X : List (Option Nat)) (ld mv pu : List Nat) (ord : Ordr) (hm : P.follows .mixedOrders = true) (hc : chkR ops ld mv pu ord = true) (h : RD F P ops Q ld mv pu X ord n l (w.drewN 1)) : KC F P (.region id ops true) Q n l w := fun a ha => by
  unfold chkR at hc
  simp only [Bool.and_eq_true] at hc
  obtain ⟨⟨⟨h1, h1'⟩, h2⟩, h3⟩ := hc
  refine wpIn_mono (wpIn_region_any hm ?_) NoPanic.imp
  have := WD.any (Q := NoPanic Q) (noDefer_spec h1') h1 (fun c a w h => h) ord _ a _ h3 (h a ha)
  rw [Nat.eq_of_beq_eq_true h2] at this
  exact this.any
theorem RD.alt {i j : Nat} {r s : Ordr} (h1 : RD F P ops Q ld mv pu X (.cons i r) n l w) (h2 : RD F P ops Q ld mv pu X (.cons j s) n l w) : RD F P ops Q ld mv pu X (.alt i r j s) n l w := fun a ha => ⟨h1 a ha, h2 a ha⟩
theorem RD.alt3 {i j k : Nat} {r s t : Ordr} (h1 : RD F P ops Q ld mv pu X (.cons i r) n l w) (h2 : RD F P ops Q ld mv pu X (.cons j s) n l w) (h3 : RD F P ops Q ld mv pu X (.cons k t) n l w) : RD F P ops Q ld mv pu X (.alt3 i r j s k t) n l w := fun a ha => ⟨h1 a ha, h2 a ha, h3 a ha⟩
theorem RD.nil (h : KQ Q .normal n l w) : RD F P ops Q ld mv pu X .nil n l w := fun a ha => NoPanic.normal (h a ha)
variable {o : Op} {ty : TypeId} {pos : String} {after : Array Edge} {v : Value} {i j : Nat} {b b' : Bool} {r s : Ordr}
/-- It only reads. -/
theorem RD.q (ho : ops[i]? = some ⟨some d, o, ty, pos, after, none⟩) (hm : mv.contains i = false) (hp : pu.contains i = false) (hd : Nat.blt d n.n = true) (h : ∀ w', Chg X w w' → OpV P o ty l w' v) (hk : RD F P ops Q ld mv pu X r n ((d, v) :: l) w) : RD F P ops Q ld mv pu X (.cons i r) n l w := fun a ha => by
  unfold WD WD1
  rw [ho, hm, hp]
  exact ⟨v, .inl ⟨rfl, fun w' hf => h w' (hf.resolve_left (by decide)) a.eval (fun x u hx => ha.ev hx) _ _ _ _⟩, hk _ (ha.put hd)⟩
theorem RD.gq (ho : ops[i]? = some ⟨some d, o, ty, pos, after, some (j, b)⟩) (hm : mv.contains i = false) (hp : pu.contains i = false) (hy : yl ops l j = some b) (hj : ylt ops j n = true) (hd : Nat.blt d n.n = true) (h : ∀ w', Chg X w w' → OpV P o ty l w' v) (hk : RD F P ops Q ld mv pu X r n ((d, v) :: l) w) : RD F P ops Q ld mv pu X (.cons i r) n l w := fun a ha => by
  unfold WD WD1
  rw [ho, hm, hp]
  exact ⟨v, .inl ⟨by simp [Region.wanted, yl_yielded ha hy (ylt_spec hj)], fun w' hf => h w' (hf.resolve_left (by decide)) a.eval (fun x u hx => ha.ev hx) _ _ _ _⟩, hk _ (ha.put hd)⟩
theorem RD.p (ho : ops[i]? = some ⟨some d, o, ty, pos, after, none⟩) (hm : mv.contains i = false) (hp : pu.contains i = true) (hd : Nat.blt d n.n = true) (h : ∀ w', OpV P o ty l w' v) (hk : RD F P ops Q ld mv pu X r n ((d, v) :: l) w) : RD F P ops Q ld mv pu X (.cons i r) n l w := fun a ha => by
  unfold WD WD1
  rw [ho, hm, hp]
  exact ⟨v, .inl ⟨rfl, fun w' hf => h w' a.eval (fun x u hx => ha.ev hx) _ _ _ _⟩, hk _ (ha.put hd)⟩
theorem RD.gp (ho : ops[i]? = some ⟨some d, o, ty, pos, after, some (j, b)⟩) (hm : mv.contains i = false) (hp : pu.contains i = true) (hy : yl ops l j = some b) (hj : ylt ops j n = true) (hd : Nat.blt d n.n = true) (h : ∀ w', OpV P o ty l w' v) (hk : RD F P ops Q ld mv pu X r n ((d, v) :: l) w) : RD F P ops Q ld mv pu X (.cons i r) n l w := fun a ha => by
  unfold WD WD1
  rw [ho, hm, hp]
  exact ⟨v, .inl ⟨by simp [Region.wanted, yl_yielded ha hy (ylt_spec hj)], fun w' hf => h w' a.eval (fun x u hx => ha.ev hx) _ _ _ _⟩, hk _ (ha.put hd)⟩
theorem not_wanted {a : Act} (ha : Kn n l a) (hy : yl ops l j = some b') (hj : ylt ops j n = true) (hne : (b' == b) = false) : Region.wanted ⟨some d, o, ty, pos, after, some (j, b)⟩ (yielded ops a.tmps) = false := by
  simp [Region.wanted, yl_yielded ha hy (ylt_spec hj)]
  simpa using hne
/-- It is passed over (whether it stands among mv or not). -/
theorem RD.gskip [WF F] (ho : ops[i]? = some ⟨some d, o, ty, pos, after, some (j, b)⟩) (hy : yl ops l j = some b') (hj : ylt ops j n = true) (hne : (b' == b) = false) (hd : Nat.blt d n.n = true) (hk : RD F P ops Q ld mv pu X r n ((d, undef) :: l) w) : RD F P ops Q ld mv pu X (.cons i r) n l w := fun a ha => by
  have hw := not_wanted (d := d) (o := o) (ty := ty) (pos := pos) (after := after) ha hy hj hne
  unfold WD WD1
  rw [ho]
  cases hm : mv.contains i with
  | false => exact ⟨undef, .inr ⟨hw, rfl⟩, hk _ (ha.put hd)⟩
  | true =>
    simp only [Go.wpOpIn, ho, hw, Bool.false_eq_true, if_false]
    exact ⟨fun f _ => WF.fn f, fun _ => .refl, hk _ (ha.put hd)⟩
theorem RD.gskip' [WF F] (ho : ops[i]? = some ⟨some d, o, ty, pos, after, some (j, b)⟩) (hy : yu ops l j = true) (hj : ylt ops j n = true) (hd : Nat.blt d n.n = true) (hk : RD F P ops Q ld mv pu X r n ((d, undef) :: l) w) : RD F P ops Q ld mv pu X (.cons i r) n l w := fun a ha => by
  have hw : Region.wanted ⟨some d, o, ty, pos, after, some (j, b)⟩ (yielded ops a.tmps) = false := by
    simp [Region.wanted, yl_none_yielded ha (yu_spec hy) (ylt_spec hj)]
  unfold WD WD1
  rw [ho]
  cases hm : mv.contains i with
  | false => exact ⟨undef, .inr ⟨hw, rfl⟩, hk _ (ha.put hd)⟩
  | true =>
    simp only [Go.wpOpIn, ho, hw, Bool.false_eq_true, if_false]
    exact ⟨fun f _ => WF.fn f, fun _ => .refl, hk _ (ha.put hd)⟩
/-- A step of the plain walk, carried out where it stands: it leaves its slot and a later world, or it is among ld. -/
theorem RD.step [WF F] {ov : Oper} (ho : ops[i]? = some ov) (hm : mv.contains i = true) (h : ∀ K : Act → World → Prop, (∀ a' w', (ld.contains i = false → Chg X w w') ∧ WD F P ops (NoPanic Q) ld mv pu X r a' w' → K a' w') → ∀ a, Kn n l a → (if Region.wanted ov (yielded ops a.tmps) then ov.wpIn F 0 P a w K (NoPanic Q) else (∀ f, ov.about P w a.eval = some f → F.fn f) ∧ K (a.put ov.dst undef) w)) : RD F P ops Q ld mv pu X (.cons i r) n l w := fun a ha => by
  unfold WD WD1
  rw [ho, hm]
  have := h _ (fun _ _ h => h) a ha
  simp only [Go.wpOpIn, ho]
  split <;> rename_i hw
  · rw [if_pos hw] at this; exact this
  · rw [if_neg hw] at this; exact this
theorem RD.mval [WF F] (ho : ops[i]? = some ⟨some d, o, ty, pos, after, none⟩) (hm : mv.contains i = true) (hd : Nat.blt d n.n = true) (h : OpR P o ty l w v w') (hf : ld.contains i = false → Chg X w w') (hk : RD F P ops Q ld mv pu X r n ((d, v) :: l) w') : RD F P ops Q ld mv pu X (.cons i r) n l w :=
  RD.step ho hm fun K hK a ha => by
    rw [if_pos (show Region.wanted _ _ = true from rfl)]
    exact inVal (h a.eval (fun x u hx => ha.ev hx) _ _ _ _) (hK _ _ ⟨hf, hk _ (ha.put hd)⟩)
theorem RD.gmval [WF F] (ho : ops[i]? = some ⟨some d, o, ty, pos, after, some (j, b)⟩) (hm : mv.contains i = true) (hy : yl ops l j = some b) (hj : ylt ops j n = true) (hd : Nat.blt d n.n = true) (h : OpR P o ty l w v w') (hf : ld.contains i = false → Chg X w w') (hk : RD F P ops Q ld mv pu X r n ((d, v) :: l) w') : RD F P ops Q ld mv pu X (.cons i r) n l w :=
  RD.step ho hm fun K hK a ha => by
    rw [if_pos (by simp [Region.wanted, yl_yielded ha hy (ylt_spec hj)])]
    exact inVal (h a.eval (fun x u hx => ha.ev hx) _ _ _ _) (hK _ _ ⟨hf, hk _ (ha.put hd)⟩)
theorem RD.mst [WF F] (ho : ops[i]? = some ⟨none, o, ty, pos, after, none⟩) (hm : mv.contains i = true) (hl : ld.contains i = true) (h : OpS P o ty l w w') (hk : RD F P ops Q ld mv pu X r n l w') : RD F P ops Q ld mv pu X (.cons i r) n l w :=
  RD.step ho hm fun K hK a ha => by
    rw [if_pos (show Region.wanted _ _ = true from rfl)]
    exact inSkip (h a.eval (fun x u hx => ha.ev hx) _ _ _ _) (hK _ _ ⟨fun e => (by rw [hl] at e; cases e), hk _ ha⟩)
theorem RD.mcall [WF F] {f : FuncId} {fn : Func} {vs : List Value} {dst : Option Nat} {args : List Operand} {ats : Array TypeId} {R : Value → World → Prop} {gd : Option (Nat × Bool)}
    (ho : ops[i]? = some ⟨dst, .call ⟨.value (.func f), args.toArray, ats⟩, ty, pos, after, gd⟩) (hm : mv.contains i = true)
    (hg : match gd with
      | none => True
      | some (j, b) => yl ops l j = some b ∧ ylt ops j n = true)
    (hf : P.funcs[f]? = some fn) (hb : (!(fn.name == "runtime.NumGoroutine") && !fn.body.isNone) = true) (hv : evs l args = some vs) (hd : (match dst with
      | some d => Nat.blt d n.n
      | none => true) = true)
    (h : CallsR P f vs w R) (hk : ∀ v w', R v w' → (ld.contains i = false → Chg X w w') ∧ RD F P ops Q ld mv pu X r n (match dst with
      | some d => (d, v) :: l
      | none => l) w') : RD F P ops Q ld mv pu X (.cons i r) n l w :=
  RD.step ho hm fun K hK a ha => by
    have hw : Region.wanted ⟨dst, .call ⟨.value (.func f), args.toArray, ats⟩, ty, pos, after, gd⟩ (yielded ops a.tmps) = true := by
      cases gd with
      | none => rfl
      | some jb => obtain ⟨j, b⟩ := jb; simp [Region.wanted, yl_yielded ha hg.1 (ylt_spec hg.2)]
    rw [if_pos hw]
    refine wpIn_call (first := #[]) (captured := #[]) rfl hf hb (by simp [ha.evs hv]) h fun v w' hr => hK _ _ ⟨(hk v w' hr).1, (hk v w' hr).2 _ ?_⟩
    cases dst with
    | none => exact ha
    | some d => exact ha.put hd
/-- A Bool that is known by a term is true, or it is false. -/
theorem RD.bcase {t : Nat} (ht : lk l t = some (.bool b)) (h1 : b = true → RD F P ops Q ld mv pu X r n ((t, .bool true) :: l) w) (h0 : b = false → RD F P ops Q ld mv pu X r n ((t, .bool false) :: l) w) : RD F P ops Q ld mv pu X r n l w := by
  cases b with
  | true => exact fun a ha => h1 rfl a (ha.less (less_cons ht (fun _ _ h => h)))
  | false => exact fun a ha => h0 rfl a (ha.less (less_cons ht (fun _ _ h => h)))
theorem RL.bcase [WF F] {rest : List Oper} {t : Nat} (ht : lk l t = some (.bool b)) (h1 : b = true → RL F P ops Q rest n ((t, .bool true) :: l) w) (h0 : b = false → RL F P ops Q rest n ((t, .bool false) :: l) w) : RL F P ops Q rest n l w := by
  cases b with
  | true => exact fun a ha => h1 rfl a (ha.less (less_cons ht (fun _ _ h => h)))
  | false => exact fun a ha => h0 rfl a (ha.less (less_cons ht (fun _ _ h => h)))
end
end Go.Ox
