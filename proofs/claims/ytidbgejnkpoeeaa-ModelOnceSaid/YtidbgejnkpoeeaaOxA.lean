/- A plain library: a walk over the operations of one function in which the frame is known by a list of slots. No program is named here. -/
import Derived.WalkKit
import Derived.RangeFuncNested
import Derived.RangeFuncLeaves
import Derived.Deep.QuietTactic
import Derived.Deep.Draws
set_option linter.unusedVariables false
namespace Go.Ox
open Go

/-- What is known of the slots of a frame: the first entry of a slot is the one that holds. -/
def lk : List (Nat × Value) → Nat → Option Value
  | [], _ => none
  | (k, v) :: r, t => bif Nat.beq k t then some v else lk r t
/-- An operand's value, if it is known. -/
def ev (l : List (Nat × Value)) : Operand → Option Value
  | .tmp t => lk l t
  | .const v => some v
  | .global g => some (.pointer (some ⟨g, 0, none⟩))
  | .func f => some (.func (.func f) #[] #[])
def evs (l : List (Nat × Value)) : List Operand → Option (List Value)
  | [] => some []
  | x :: r => match ev l x, evs l r with
    | some v, some vs => some (v :: vs)
    | _, _ => none
/-- How many slots a frame has, and what it has deferred. -/
structure Fr where
  n : Nat
  ds : List Deferred
instance (k : Nat) : OfNat Fr k := ⟨⟨k, []⟩⟩
instance : Coe Nat Fr := ⟨fun k => ⟨k, []⟩⟩
instance : Coe Fr Nat := ⟨Fr.n⟩
/-- A fence that lets all in: of a call's frame, or of a round's. -/
class WF (F : Fence) : Prop where
  eq : F = Fence.wide ∨ ∃ l, F = Fence.wide.inRound l
instance : WF Fence.wide := ⟨.inl rfl⟩
instance {l : Nat} : WF (Fence.wide.inRound l) := ⟨.inr ⟨l, rfl⟩⟩
theorem WF.fn {F : Fence} [WF F] (f : FuncId) : F.fn f := by rcases WF.eq (F := F) with rfl | ⟨l, rfl⟩ <;> trivial
theorem WF.depth {F : Fence} [WF F] : F.depth = none := by rcases WF.eq (F := F) with rfl | ⟨l, rfl⟩ <;> rfl
/-- A frame of which the list is true. -/
structure Kn (n : Fr) (l : List (Nat × Value)) (a : Act) : Prop where
  size : a.tmps.size = n.n
  defs : a.defers = n.ds
  get : ∀ t v, lk l t = some v → a.tmps.getD t undef = v

theorem beq_ne {a b : Nat} (h : ¬ a = b) : Nat.beq a b = false := by
  cases hb : Nat.beq a b with
  | false => rfl
  | true => exact absurd (Nat.eq_of_beq_eq_true hb) h

theorem Kn.ev {n : Fr} {l : List (Nat × Value)} {a : Act} (h : Kn n l a) {x : Operand} {v : Value} (hx : ev l x = some v) : a.eval x = v := by
  cases x with
  | tmp t => exact h.get t v hx
  | const c => simpa [Ox.ev, Act.eval] using hx
  | global g => simpa [Ox.ev, Act.eval] using hx
  | func f => simpa [Ox.ev, Act.eval] using hx
theorem Kn.evs {n : Fr} {l : List (Nat × Value)} {a : Act} (h : Kn n l a) : ∀ {xs : List Operand} {vs : List Value}, evs l xs = some vs → xs.map a.eval = vs
  | [], vs, hx => by simpa [Ox.evs] using hx
  | x :: r, vs, hx => by
    unfold Ox.evs at hx
    split at hx
    · rename_i v ws h1 h2
      obtain rfl := Option.some.inj hx
      simp [h.ev h1, Kn.evs h h2]
    · cases hx
theorem Kn.put {n : Fr} {l : List (Nat × Value)} {a : Act} (h : Kn n l a) {d : Nat} {v : Value} (hd : Nat.blt d n.n = true) : Kn n ((d, v) :: l) (a.put (some d) v) := by
  have hd' : d < n.n := by simpa using hd
  refine ⟨by simp [Act.put, h.size], h.defs, fun t u hu => ?_⟩
  unfold lk at hu
  by_cases e : d = t
  · subst e
    simp at hu
    subst hu
    simp [Act.put, Array.getD, h.size, hd']
  · have hb : Nat.beq d t = false := beq_ne e
    simp [hb] at hu
    have := h.get t u hu
    rw [← this]
    simp [Act.put, Array.getElem?_setIfInBounds_ne e]
/-- Less may be known. -/
theorem Kn.less {n : Fr} {l l' : List (Nat × Value)} {a : Act} (h : Kn n l a) (hl : ∀ t v, lk l' t = some v → lk l t = some v) : Kn n l' a :=
  ⟨h.size, h.defs, fun t v ht => h.get t v (hl t v ht)⟩
theorem less_nil {l : List (Nat × Value)} : ∀ t v, lk [] t = some v → lk l t = some v := fun _ _ h => by cases h
theorem less_cons {l l' : List (Nat × Value)} {d : Nat} {u : Value} (h1 : lk l d = some u) (h : ∀ t v, lk l' t = some v → lk l t = some v) :
    ∀ t v, lk ((d, u) :: l') t = some v → lk l t = some v := by
  intro t v hv
  unfold lk at hv
  by_cases e : d = t
  · subst e; simp at hv; subst hv; exact h1
  · have hb : Nat.beq d t = false := beq_ne e
    simp [hb] at hv
    exact h t v hv

section
variable (F : Fence) (P : Program)
/-- The operations that are left of a region, from any frame of which the list is true. -/
def RL (ops : Array Oper) (Q : Exit → Act → World → Prop) (rest : List Oper) (n : Fr) (l : List (Nat × Value)) (w : World) : Prop :=
  ∀ a, Kn n l a → wpListIn F 0 P ops Q rest a w
def KC (c : Code) (Q : Exit → Act → World → Prop) (n : Fr) (l : List (Nat × Value)) (w : World) : Prop :=
  ∀ a, Kn n l a → c.wpIn F 0 P Q a w
end
def KQ (Q : Exit → Act → World → Prop) (e : Exit) (n : Fr) (l : List (Nat × Value)) (w : World) : Prop := ∀ a, Kn n l a → Q e a w

section
variable {F : Fence} {P : Program} {ops : Array Oper} {Q : Exit → Act → World → Prop} {rest : List Oper} {n : Fr} {l l' : List (Nat × Value)} {w w' : World}

theorem KC.less {c : Code} (h : KC F P c Q n l' w) (hl : ∀ t v, lk l' t = some v → lk l t = some v) : KC F P c Q n l w := fun a ha => h a (ha.less hl)
theorem RL.less (h : RL F P ops Q rest n l' w) (hl : ∀ t v, lk l' t = some v → lk l t = some v) : RL F P ops Q rest n l w := fun a ha => h a (ha.less hl)
theorem KQ.less {e : Exit} (h : KQ Q e n l' w) (hl : ∀ t v, lk l' t = some v → lk l t = some v) : KQ Q e n l w := fun a ha => h a (ha.less hl)

/-! ### Control -/
theorem KC.seq {x y : Code} (h : KC F P x (Exit.then (y.wpIn F 0 P Q) Q) n l w) : KC F P (.seq x y) Q n l w := fun a ha => wpIn_seq (h a ha)
theorem KC.skip (h : KQ Q .normal n l w) : KC F P .skip Q n l w := fun a ha => wpIn_skip (h a ha)
theorem KC.ret (h : KQ Q .ret n l w) : KC F P .ret Q n l w := fun a ha => wpIn_ret (h a ha)
theorem KC.exit {id : Nat} (h : KQ Q (.exit id) n l w) : KC F P (.exit id) Q n l w := fun a ha => wpIn_exit (h a ha)
theorem KC.label {k : Nat} (h : KQ Q .normal n l w) : KC F P (.label k) Q n l w := fun a ha => wpIn_label (h a ha)
theorem KC.block {id : Nat} {c : Code} (h : KC F P c (Exit.inBlock id Q) n l w) : KC F P (.block id c) Q n l w := fun a ha => wpIn_block (h a ha)
theorem KC.cond {c : Operand} {x y : Code} {b : Bool} (hc : ev l c = some (.bool b)) (ht : b = true → KC F P x Q n l w) (hf : b = false → KC F P y Q n l w) :
    KC F P (.cond c x y) Q n l w := fun a ha => wpIn_cond_split (ha.ev hc) (fun e => ht e a ha) (fun e => hf e a ha)
theorem KC.region {id : Nat} {lo : List Oper} (h : RL F P lo.toArray Q lo n l w) : KC F P (.region id lo.toArray false) Q n l w := fun a ha => wpIn_region_lit (h a ha)
theorem RL.nil (h : KQ Q .normal n l w) : RL F P ops Q [] n l w := fun a ha => wpListIn_nil (h a ha)

theorem KQ.then_n {y : Code} (h : KC F P y Q n l w) : KQ (Exit.then (y.wpIn F 0 P Q) Q) .normal n l w := h
theorem KQ.then_x {N : Act → World → Prop} {id : Nat} (h : KQ Q (.exit id) n l w) : KQ (Exit.then N Q) (.exit id) n l w := h
theorem KQ.then_r {N : Act → World → Prop} (h : KQ Q .ret n l w) : KQ (Exit.then N Q) .ret n l w := h
theorem KQ.then_k {N : Act → World → Prop} (h : ∀ a, Kn n l a → N a w) : KQ (Exit.then N Q) .normal n l w := h
theorem KQ.blk_n {id : Nat} (h : KQ Q .normal n l w) : KQ (Exit.inBlock id Q) .normal n l w := h
theorem KQ.blk_r {id : Nat} (h : KQ Q .ret n l w) : KQ (Exit.inBlock id Q) .ret n l w := h
theorem KQ.blk_x {id : Nat} (h : KQ Q .normal n l w) : KQ (Exit.inBlock id Q) (.exit id) n l w := fun a ha => by
  simp only [Exit.inBlock, if_true]; exact h a ha
theorem KQ.blk_y {id id' : Nat} (hne : Nat.beq id' id = false) (h : KQ Q (.exit id') n l w) : KQ (Exit.inBlock id Q) (.exit id') n l w := fun a ha => by
  have : id' ≠ id := Nat.ne_of_beq_eq_false hne
  simp only [Exit.inBlock, this, if_false]; exact h a ha

/-- A cut: what holds behind the first piece is told by a predicate. -/
theorem KC.cut {x y : Code} (M : Act → World → Prop) (h1 : KC F P x (Exit.then M Q) n l w) (h2 : ∀ a w', M a w' → y.wpIn F 0 P Q a w') : KC F P (.seq x y) Q n l w :=
  fun a ha => wpIn_seq (wpIn_mono (h1 a ha) fun e a' w' hq => by cases e <;> first | exact h2 _ _ hq | exact hq)

theorem wpIn_loop_fuel {c : Code} {a : Act} (I : Nat → Act → World → Prop) (h0 : ∃ k, I k a w)
    (hr : ∀ k a w, I k a w → c.wpIn F 0 P (Exit.then (fun a' w' => ∃ k', k' < k ∧ I k' a' w') Q) a w) : (Code.loop c).wpIn F 0 P Q a w := by
  obtain ⟨k, hk⟩ := h0
  intro b K cs hro hb hrm
  have key : ∀ k a w, I k a w → ∃ e a' w', Q e a' w' ∧ ArrivesIn (Machine.fenced P F) P (lone (b.atR a (.code c :: .inLoop c :: K)) cs w) b K cs e a' w' := by
    intro k
    induction k using Nat.strongRecOn with
    | _ k ih =>
      intro a w hI
      obtain ⟨e, a₁, w₁, hq, harr⟩ := hr k a w hI b (.inLoop c :: K) cs hro hb hrm
      cases e with
      | normal =>
        obtain ⟨k', hlt, hI₁⟩ := hq
        obtain ⟨e₂, a₂, w₂, hq₂, harr₂⟩ := ih k' hlt a₁ w₁ hI₁
        exact ⟨e₂, a₂, w₂, hq₂, .of_steps (StepsIn.trans harr (.one (fenced_calm hb hrm rfl) stepR_inLoop)) harr₂⟩
      | exit id => exact ⟨_, a₁, w₁, hq, .pass (x := .inLoop c) rfl (fun _ _ => .inl (by simp)) harr⟩
      | goto l => exact ⟨_, a₁, w₁, hq, .pass (x := .inLoop c) rfl (fun _ _ => .inl (by simp)) harr⟩
      | ret => exact ⟨_, a₁, w₁, hq, .pass (x := .inLoop c) rfl (fun _ _ => .inl (by simp)) harr⟩
      | panic ch => exact ⟨_, a₁, w₁, hq, .pass (x := .inLoop c) rfl (fun _ _ => .inl (by simp)) harr⟩
      | outgrown => exact ⟨_, a₁, w₁, hq, .pass (x := .inLoop c) rfl (fun _ _ => .inl (by simp)) harr⟩
  obtain ⟨e, a', w', hq, harr⟩ := key k a w hk
  exact ⟨e, a', w', hq, .of_steps (.one (fenced_calm hb hrm rfl) stepR_loop) harr⟩
theorem KC.loop {c : Code} (I : Nat → Act → World → Prop) (h0 : ∀ a, Kn n l a → ∃ k, I k a w)
    (hr : ∀ k a w, I k a w → c.wpIn F 0 P (Exit.then (fun a' w' => ∃ k', k' < k ∧ I k' a' w') Q) a w) : KC F P (.loop c) Q n l w :=
  fun a ha => wpIn_loop_fuel I (h0 a ha) hr
theorem stepR_scope' {b : Frame} {a : Act} {k : List Item} {cs : List Frame} {c : Code} : step P (lone (b.atR a (.code (.scope c) :: k)) cs w) = .next (lone (b.atR a (.code c :: .inScope c :: k)) cs w) :=
  step_lone_go (by simp [stepG, stepG.exec, Frame.atR])
theorem stepR_inScope' {b : Frame} {a : Act} {k : List Item} {cs : List Frame} {c : Code} : step P (lone (b.atR a (.inScope c :: k)) cs w) = .next (lone (b.atR a k) cs w) :=
  step_lone_go (by simp [stepG, stepG.exec, Frame.atR])
theorem wpIn_scope' {c : Code} {a : Act} (h : c.wpIn F 0 P (Exit.noGoto Q) a w) : (Code.scope c).wpIn F 0 P Q a w := by
  intro b k cs hro hb hr
  have h0 : (lone (b.atR a (.code (.scope c) :: k)) cs w).fenced P F := fenced_calm hb hr rfl
  obtain ⟨e, a₁, w₁, hq, harr⟩ := h b (.inScope c :: k) cs hro hb hr
  cases e with
  | normal => exact ⟨.normal, a₁, w₁, hq, .head h0 stepR_scope' (StepsIn.trans harr (.one (fenced_calm hb hr rfl) stepR_inScope'))⟩
  | exit id =>
    have hx : exitTo id (.inScope c :: k) = exitTo id k := by simp [exitTo]
    exact ⟨.exit id, a₁, w₁, hq, fun k' hk => .head h0 stepR_scope' (harr.1 k' (by rw [hx]; exact hk)),
      fun hr' hk => let ⟨k₁, h1, h2⟩ := harr.2 hr' (by rw [hx]; exact hk); ⟨k₁, h1, .head h0 stepR_scope' h2⟩⟩
  | goto l => exact hq.elim
  | ret => exact ⟨_, a₁, w₁, hq, .of_steps (.one h0 stepR_scope') harr⟩
  | panic ch => exact ⟨_, a₁, w₁, hq, .of_steps (.one h0 stepR_scope') harr⟩
  | outgrown => exact ⟨_, a₁, w₁, hq, .of_steps (.one h0 stepR_scope') harr⟩

/-! ### A call's beginning and its end -/
theorem calls_of_KC {f : FuncId} {fn : Func} {c : Code} {args : List Value} {R : Ending → World → Prop} (hf : P.funcs[f]? = some fn) (hb : fn.body = some c) {m : Nat} (hm : fn.ntmps = m) (hs : Nat.ble args.length m = true)
    (h : KC Fence.wide P c (bodyPost P fn R) m ((List.range args.length).zip args) w) : Calls P f args.toArray w R := by
  have hs' : args.length ≤ m := Nat.le_of_ble_eq_true hs
  refine calls_of_wp hf hb (wpIn_wide.1 (h _ ⟨by simp [hm]; omega, rfl, fun t v hv => ?_⟩))
  have key : ∀ (xs : List Value) (k : Nat), lk (((List.range' k xs.length).zip xs)) t = some v → ∃ j, t = k + j ∧ xs[j]? = some v := by
    intro xs
    induction xs with
    | nil => intro k h; simp [lk] at h
    | cons x xs ih =>
      intro k h
      simp only [List.length_cons, List.range'_succ, List.zip_cons_cons] at h
      unfold lk at h
      by_cases e : k = t
      · subst e; simp at h; subst h; exact ⟨0, rfl, rfl⟩
      · have hb : Nat.beq k t = false := beq_ne e
        simp [hb] at h
        obtain ⟨j, rfl, hj⟩ := ih (k + 1) h
        exact ⟨j + 1, by omega, by simpa using hj⟩
  rw [List.range_eq_range'] at hv
  obtain ⟨j, rfl, hj⟩ := key args 0 hv
  have hlt : j < args.length := (List.getElem?_eq_some_iff.1 hj).1
  have hg : args[j] = v := (List.getElem?_eq_some_iff.1 hj).2
  simp only [Nat.zero_add, Array.getD]
  rw [dif_pos (by simp; omega)]
  simp [hlt, hg]

variable {n : Nat}
theorem KQ.end0 {fn : Func} {R : Ending → World → Prop} (hr : fn.results = #[]) (h : R (.returned (.tuple #[])) w) : KQ (bodyPost P fn R) .normal (Fr.mk n []) l w :=
  fun a ha => ⟨ha.defs, _, results_none hr _ _ _, h⟩
theorem KQ.ret0 {fn : Func} {R : Ending → World → Prop} (hr : fn.results = #[]) (h : R (.returned (.tuple #[])) w) : KQ (bodyPost P fn R) .ret (Fr.mk n []) l w :=
  fun a ha => ⟨ha.defs, _, results_none hr _ _ _, h⟩
theorem KQ.ret1 {fn : Func} {R : Ending → World → Prop} {t : Nat} {v : Value} (hr : fn.results = #[.tmp t]) (ht : lk l t = some v) (h : R (.returned v) w) : KQ (bodyPost P fn R) .ret (Fr.mk n []) l w :=
  fun a ha => ⟨ha.defs, v, by rw [results_tmp hr, ha.get t v ht], h⟩
theorem KQ.ret2 {fn : Func} {R : Ending → World → Prop} {t u : Nat} {v x : Value} (hr : fn.results = #[.tmp t, .tmp u]) (ht : lk l t = some v) (hu : lk l u = some x) (h : R (.returned (.tuple #[v, x])) w) : KQ (bodyPost P fn R) .ret (Fr.mk n []) l w :=
  fun a ha => ⟨ha.defs, _, by rw [results_tmp2 hr, ha.get t v ht, ha.get u x hu], h⟩
theorem KQ.ret3 {fn : Func} {R : Ending → World → Prop} {t0 t1 t2 : Nat} {v0 v1 v2 : Value} (hr : fn.results = #[.tmp t0, .tmp t1, .tmp t2]) (h0 : lk l t0 = some v0) (h1 : lk l t1 = some v1) (h2 : lk l t2 = some v2) (h : R (.returned (.tuple #[v0, v1, v2])) w) : KQ (bodyPost P fn R) .ret (Fr.mk n []) l w :=
  fun a ha => ⟨ha.defs, _, by simp only [results, hr]; simp; rfl, by simp only [← Array.getD_eq_getD_getElem?]; rw [ha.get _ _ h0, ha.get _ _ h1, ha.get _ _ h2]; exact h⟩
theorem KQ.ret4 {fn : Func} {R : Ending → World → Prop} {t0 t1 t2 t3 : Nat} {v0 v1 v2 v3 : Value} (hr : fn.results = #[.tmp t0, .tmp t1, .tmp t2, .tmp t3]) (h0 : lk l t0 = some v0) (h1 : lk l t1 = some v1) (h2 : lk l t2 = some v2) (h3 : lk l t3 = some v3) (h : R (.returned (.tuple #[v0, v1, v2, v3])) w) : KQ (bodyPost P fn R) .ret (Fr.mk n []) l w :=
  fun a ha => ⟨ha.defs, _, by simp only [results, hr]; simp; rfl, by simp only [← Array.getD_eq_getD_getElem?]; rw [ha.get _ _ h0, ha.get _ _ h1, ha.get _ _ h2, ha.get _ _ h3]; exact h⟩
theorem KQ.ret5 {fn : Func} {R : Ending → World → Prop} {t0 t1 t2 t3 t4 : Nat} {v0 v1 v2 v3 v4 : Value} (hr : fn.results = #[.tmp t0, .tmp t1, .tmp t2, .tmp t3, .tmp t4]) (h0 : lk l t0 = some v0) (h1 : lk l t1 = some v1) (h2 : lk l t2 = some v2) (h3 : lk l t3 = some v3) (h4 : lk l t4 = some v4) (h : R (.returned (.tuple #[v0, v1, v2, v3, v4])) w) : KQ (bodyPost P fn R) .ret (Fr.mk n []) l w :=
  fun a ha => ⟨ha.defs, _, by simp only [results, hr]; simp; rfl, by simp only [← Array.getD_eq_getD_getElem?]; rw [ha.get _ _ h0, ha.get _ _ h1, ha.get _ _ h2, ha.get _ _ h3, ha.get _ _ h4]; exact h⟩
theorem KQ.ret6 {fn : Func} {R : Ending → World → Prop} {t0 t1 t2 t3 t4 t5 : Nat} {v0 v1 v2 v3 v4 v5 : Value} (hr : fn.results = #[.tmp t0, .tmp t1, .tmp t2, .tmp t3, .tmp t4, .tmp t5]) (h0 : lk l t0 = some v0) (h1 : lk l t1 = some v1) (h2 : lk l t2 = some v2) (h3 : lk l t3 = some v3) (h4 : lk l t4 = some v4) (h5 : lk l t5 = some v5) (h : R (.returned (.tuple #[v0, v1, v2, v3, v4, v5])) w) : KQ (bodyPost P fn R) .ret (Fr.mk n []) l w :=
  fun a ha => ⟨ha.defs, _, by simp only [results, hr]; simp; rfl, by simp only [← Array.getD_eq_getD_getElem?]; rw [ha.get _ _ h0, ha.get _ _ h1, ha.get _ _ h2, ha.get _ _ h3, ha.get _ _ h4, ha.get _ _ h5]; exact h⟩
end
end Go.Ox
