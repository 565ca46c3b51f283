/- A plain library: a range over a function: the function that is ranged over is walked in place, and so is the loop's body where it calls yield. No program is named here. -/
import Derived.Test.YtidbgejnkpoeeaaOxV
set_option linter.unusedVariables false
namespace Go.Ox
open Go Go.RowKit
/-- The loop's record lies there. -/
def LoopAt (l0 : Nat) (rc : Loop) (st : LoopState) (pe : Option Code) (w : World) : Prop := w.heap[l0]? = some (.loop { rc with state := st, pending := pe })
/-- The block for what rounds defer lies there, and is empty. -/
def DefAt (D : Nat) (w : World) : Prop := w.heap[D]? = some (.deferred (some []))
/-- The mark of that block. -/
def mark (D : Nat) : Deferred := { target := .collected D, args := #[] }
section
variable {F : Fence} {P : Program} {ops : Array Oper} {Q : Exit → Act → World → Prop} {rest : List Oper} {n n0 : Fr} {d : Nat} {l l1 l' : List (Nat × Value)} {w w0 w' : World} {L : List Ob} {S : List (Option Nat)}
variable {ty : TypeId} {pos : String} {after : Array Edge} {v : Value} {i j : Nat}

theorem Mem.turn {g : Nat} {φ φ' : World → Prop} {o : Obj} (hM : Mem w0 S w L) (hi : L[i]? = some (.res [g] φ)) (hφ : ∀ w1 : World, w1.heap[g]? = some o → φ' w1) : Mem w0 S (w.putObj g o) (L.set i (.res [g] φ')) := by
  have hlt : g < w.heap.size := (hM.ok i _ hi).1 g (by simp)
  refine hM.upd' hi (grownBy_putObj' w g o) (fun g' h => by cases h; exact Ob.has_res.2 (by simp)) ⟨fun g' hg' => ?_, fun w1 h1 => hφ w1 ?_⟩ (fun g' hg => .inl (Ob.has_res.2 (Ob.has_res.1 hg)))
  · simp at hg'; subst hg'; simpa using hlt
  · rw [h1 g (by simp)]; exact World.putObj_heap_same hlt
theorem Mem.loopAt {l0 : Nat} {rc : Loop} {st : LoopState} {pe : Option Code} (hM : Mem w0 S w L) (hi : L[i]? = some (.res [l0] (LoopAt l0 rc st pe))) : w.heap[l0]? = some (.loop { rc with state := st, pending := pe }) := Ob.res_φ (hM.ok i _ hi)

theorem kn_start {args : List Value} {m : Nat} (hs : Nat.ble args.length m = true) : Kn (Fr.mk m []) ((List.range args.length).zip args) { tmps := args.toArray ++ Array.replicate (m - args.toArray.size) undef, defers := [] } := by
  have hs' : args.length ≤ m := Nat.le_of_ble_eq_true hs
  refine ⟨by simp; omega, rfl, fun t v hv => ?_⟩
  have key : ∀ (xs : List Value) (k : Nat), lk (((List.range' k xs.length).zip xs)) t = some v → ∃ j, t = k + j ∧ xs[j]? = some v := by
    intro xs
    induction xs with
    | nil => intro k h; simp [lk] at h
    | cons x xs ih =>
      intro k h
      simp only [List.length_cons, List.range'_succ, List.zip_cons_cons] at h
      unfold lk at h
      by_cases e : k = t
      · subst e; simp at h; subst h; exact ⟨0, rfl, rfl⟩
      · have hb : Nat.beq k t = false := beq_ne e
        simp [hb] at h
        obtain ⟨j, rfl, hj⟩ := ih (k + 1) h
        exact ⟨j + 1, by omega, by simpa using hj⟩
  rw [List.range_eq_range'] at hv
  obtain ⟨j, rfl, hj⟩ := key args 0 hv
  have hlt : j < args.length := (List.getElem?_eq_some_iff.1 hj).1
  have hg : args[j] = v := (List.getElem?_eq_some_iff.1 hj).2
  simp only [Nat.zero_add, Array.getD]
  rw [dif_pos (by simp; omega)]
  simp [hlt, hg]

/-! ### A function that holds such a loop -/
theorem calls_KCM {f : FuncId} {fn : Func} {c : Code} {args : List Value} {R : Value → World → Prop} (hf : P.funcs[f]? = some fn) (hb : fn.body = some c) {m : Nat} (hm : fn.ntmps = m) (hs : Nat.ble args.length m = true)
    (h : KC Fence.wide P c (bodyPostM Fence.wide 0 P fn fun e w' => ∃ v, e = .returned v ∧ R v w') (Fr.mk m []) ((List.range args.length).zip args) w) : CallsR P f args w R := by
  subst hm
  exact callsIn_wide.1 (callsIn_of_wp_marks hf hb trivial (h _ (kn_start hs)))
theorem KQ.retsM {n : Nat} {fn : Func} {R : Ending → World → Prop} {rs : List ResultVar} {vs : List Value} (hr : fn.results = rs.toArray) (h : RVs P l w rs vs) (hR : R (.returned (tupled vs)) w) : KQ (bodyPostM Fence.wide 0 P fn R) .ret (Fr.mk n []) l w := fun a ha => by
  obtain ⟨_, v, h1, h2⟩ := KQ.rets hr h hR a ha
  show LeavesInM Fence.wide 0 P fn a.tmps R a.defers .returning w
  rw [ha.defs]
  exact ⟨v, h1, h2⟩
theorem KQ.endrM {n : Nat} {fn : Func} {R : Ending → World → Prop} {rs : List ResultVar} {vs : List Value} (hr : fn.results = rs.toArray) (h : RVs P l w rs vs) (hR : R (.returned (tupled vs)) w) : KQ (bodyPostM Fence.wide 0 P fn R) .normal (Fr.mk n []) l w := fun a ha =>
  KQ.retsM hr h hR a ha
/-- A mark is come to on the way out. -/
theorem KQ.unmark {n D : Nat} {ds : List Deferred} {fn : Func} {R : Ending → World → Prop} (hM : Mem w0 S w L) (hi : L[i]? = some (.res [D] (DefAt D)))
    (h : ∀ w', Mem w0 S w' (L.set i (.res [D] fun _ => True)) → KQ (bodyPostM Fence.wide 0 P fn R) .ret (Fr.mk n ds) l w') : KQ (bodyPostM Fence.wide 0 P fn R) .ret (Fr.mk n (mark D :: ds)) l w := fun a ha => by
  show LeavesInM Fence.wide 0 P fn a.tmps R a.defers .returning w
  rw [ha.defs]
  have hd : w.heap[D]? = some (.deferred (some [])) := Ob.res_φ (hM.ok i _ hi)
  refine ⟨by simp, .inl ⟨D, _, rfl, run_takeDeferred hd, ?_⟩⟩
  have := h _ (hM.turn (o := .deferred none) (φ' := fun _ => True) hi fun _ _ => trivial) { a with defers := ds } ⟨ha.size, rfl, ha.get⟩
  exact this
theorem KQ.unmarkE {n D : Nat} {ds : List Deferred} {fn : Func} {R : Ending → World → Prop} (hM : Mem w0 S w L) (hi : L[i]? = some (.res [D] (DefAt D)))
    (h : ∀ w', Mem w0 S w' (L.set i (.res [D] fun _ => True)) → KQ (bodyPostM Fence.wide 0 P fn R) .normal (Fr.mk n ds) l w') : KQ (bodyPostM Fence.wide 0 P fn R) .normal (Fr.mk n (mark D :: ds)) l w := KQ.unmark (i := i) hM hi h

/-! ### The statement -/
theorem KC.range {g : Operand} {ps : List Tmp} {assign body c : Code} {gf : FuncId} {fn : Func} {lb : List Value} {m : Nat} (hM : Mem w0 S w L)
    (hg : ev l g = some (.func (.func gf) #[] lb.toArray)) (hf : P.funcs[gf]? = some fn) (hb : (!(fn.name == "runtime.NumGoroutine") && !fn.body.isNone) = true) (hbody : fn.body = some c) (hm : fn.ntmps = m) (hs : Nat.ble (lb.length + 1) m = true)
    (h : ∀ (a0 : Act) (rc : Loop) (l0 D : Nat) (w1 : World), Kn n l a0 → (rc.tmps = a0.tmps ∧ rc.params = ps.toArray ∧ rc.assign = assign ∧ rc.body = body) → Mem w0 S w1 (L ++ [.res [D] (DefAt D), .res [l0] (LoopAt l0 rc .ready none)]) → Chg [] w w1 →
      KC Fence.wide P c (bodyPost P fn (rangePost Fence.wide 0 P l0 Q ⟨a0.tmps, mark D :: a0.defers⟩)) (Fr.mk m []) ((List.range (lb.length + 1)).zip (.func (.yield l0) #[] #[] :: lb)) w1) :
    KC Fence.wide P (.rangeFunc g ps.toArray assign body) Q n l w := fun a ha => by
  refine wpIn_rangeFunc fun fi hfi => ?_
  have hga := ha.ev hg
  let rc : Loop := { state := .ready, pending := none, fn := fi, tmps := a.tmps, params := ps.toArray, assign, body, defers := w.heap.size }
  refine ⟨w.heap.size + 1, [mark w.heap.size], (w.alloc (.deferred (some []))).alloc (.loop rc), { target := .fn (.func gf) lb.toArray, args := #[.func (.yield (w.heap.size + 1)) #[] #[]] }, (w.alloc (.deferred (some []))).alloc (.loop rc), gf,
    (.func (.yield (w.heap.size + 1)) #[] #[] :: lb).toArray, (w.alloc (.deferred (some []))).alloc (.loop rc), run_enterLoop_outer fi a.tmps ps.toArray assign body, ?_, fun _ _ => trivial, ?_, fun hd => (by cases hd), ?_⟩
  · simp only [resolve, hga]
    simp [go_sem]
  · simp only [invoke]
    have hq := run_callFunc (P := P) (w := (w.alloc (.deferred (some []))).alloc (.loop rc)) hf hb (.func (.yield (w.heap.size + 1)) #[] #[] :: lb).toArray
    simpa [go_sem] using hq
  · have hM1 := hM.push (o := .res [w.heap.size] (DefAt w.heap.size)) (w' := w.alloc (.deferred (some []))) ((Below.refl _ w).alloc (Nat.le_refl _) _) ⟨fun g hg => by simp at hg; subst hg; simp, fun w1 h1 => by
      rw [DefAt, h1 _ (by simp)]; exact World.alloc_heap_new w _⟩ (fun g hg => by have := Ob.has_res.1 hg; simp at this; omega)
    have hsz : (w.alloc (.deferred (some []))).heap.size = w.heap.size + 1 := World.size_alloc ..
    have hM2 := hM1.push (o := .res [w.heap.size + 1] (LoopAt (w.heap.size + 1) rc .ready none)) (w' := (w.alloc (.deferred (some []))).alloc (.loop rc)) ((Below.refl _ _).alloc (Nat.le_refl _) _) ⟨fun g hg => by simp at hg; subst hg; simp, fun w1 h1 => by
      rw [LoopAt, h1 _ (by simp), ← hsz]; exact World.alloc_heap_new _ _⟩ (fun g hg => by have := Ob.has_res.1 hg; simp at this; omega)
    have hch : Chg [] w ((w.alloc (.deferred (some []))).alloc (.loop rc)) := .of_below (((Below.refl _ w).alloc (Nat.le_refl _) _).alloc (by simp) _)
    have hk := h a rc (w.heap.size + 1) w.heap.size _ ha ⟨rfl, rfl, rfl, rfl⟩ (by simpa using hM2) hch
    refine callsIn_wide.2 (calls_of_KC hf hbody hm (by simpa using hs) ?_)
    exact hk

/-- What is asked behind the assignments of a round. -/
def RB (P : Program) (l0 : Nat) (body : Code) (R : Ending → World → Prop) : Act → World → Prop := fun a1 w1 => ∃ w2, (Instr.beginRound l0).run P w1 = .ok () w2 ∧ body.wpIn (Fence.wide.inRound l0) 0 P (roundPost P l0 R) a1 w2
/-- A call of yield goes on. -/
def YC (C : List (Nat × Value) → World → Prop) (lf : Value → List (Nat × Value)) : Ending → World → Prop
  | .returned v, w' => C (lf v) w'
  | _, _ => False
theorem kn_puts {n0 : Fr} : ∀ {ps : List Tmp} {vs : List Value} {tm : Array Value} {l1 : List (Nat × Value)}, Kn (Fr.mk n0.n []) l1 { tmps := tm, defers := [] } → ps.length = vs.length → (ps.all fun t => Nat.blt t n0.n) = true →
    Kn (Fr.mk n0.n []) ((ps.zip vs).reverse ++ l1) { tmps := (ps.zip vs).foldl (fun tmps (t, a) => tmps.setIfInBounds t a) tm, defers := [] }
  | [], vs, tm, l1, h, _, _ => by simpa using h
  | t :: ps, [], tm, l1, h, hl, _ => by simp at hl
  | t :: ps, v :: vs, tm, l1, h, hl, ha => by
    simp only [List.all_cons, Bool.and_eq_true] at ha
    have h1 : Kn (Fr.mk n0.n []) ((t, v) :: l1) { tmps := tm.setIfInBounds t v, defers := [] } := h.put ha.1
    have := kn_puts (n0 := n0) h1 (by simpa using hl) ha.2
    simpa [List.zip_cons_cons] using this
theorem zip_fold {ps : List Tmp} {vs : List Value} (tm : Array Value) : (ps.toArray.zip vs.toArray).foldl (fun tmps (t, a) => tmps.setIfInBounds t a) tm = (ps.zip vs).foldl (fun tmps (t, a) => tmps.setIfInBounds t a) tm := by
  simp
theorem wpIn_yield {l0 : Nat} {rc : Loop} {a0 a : Act} {ps : List Tmp} {vs : List Value} {assign body : Code} {fx : Operand} {args : Array Operand} {ats : Array TypeId} {dst : Option Nat} {gd : Option (Nat × Bool)} {Y : Ending → World → Prop} {K : Act → World → Prop} (hM : Mem w0 S w L) (hi : L[i]? = some (.res [l0] (LoopAt l0 rc .ready none)))
    (ha0 : Kn n0 l1 a0) (hr : rc.tmps = a0.tmps ∧ rc.params = ps.toArray ∧ rc.assign = assign ∧ rc.body = body)
    (hfx : a.eval fx = .func (.yield l0) #[] #[]) (e1 : args.map a.eval = vs.toArray) (hlen : Nat.beq ps.length vs.length = true) (hps : (ps.all fun t => Nat.blt t n0.n) = true)
    (hY : ∀ e w', Y e w' → ∃ v, e = .returned v ∧ K (a.put dst v) w')
    (h : KC (Fence.wide.inRound l0) P assign (Exit.then (RB P l0 body Y) (fun _ _ _ => False)) (Fr.mk n0.n []) ((ps.zip vs).reverse ++ l1) w) :
    Oper.wpIn Fence.wide 0 P ⟨dst, .call ⟨.value fx, args, ats⟩, ty, pos, after, gd⟩ a w K Q := by
  obtain ⟨r1, r2, r3, r4⟩ := hr
  refine ⟨fun f _ => trivial, ?_⟩
  rw [Oper.semAt_eq _ _ _ (fun c hc => by cases hc)]
  unfold execOp
  have hl := hM.loopAt hi
  have hy := run_yield (P := P) (args := vs.toArray) hl (by
    show vs.toArray.size = rc.params.size
    rw [r2]; simpa using (Nat.eq_of_beq_eq_true hlen).symm)
  simp only [resolve, hfx, Deferred.ofValue, Sem.run_bind, Sem.run_pure, Result.andThen_ok, invoke]
  rw [show (#[] ++ args.map a.eval : Array Value) = vs.toArray by rw [e1]; simp, hy]
  refine ⟨fun hdd => (by cases hdd), ?_⟩
  refine RoundIn.mono (roundIn_of_wpIn (R := Y) trivial ?_) ?_
  · have hk0 : Kn (Fr.mk n0.n []) l1 { tmps := rc.tmps, defers := [] } := ⟨by rw [r1]; exact ha0.size, rfl, by rw [r1]; exact ha0.get⟩
    have hk := h _ (kn_puts hk0 (Nat.eq_of_beq_eq_true hlen) hps)
    show Code.wpIn (Fence.wide.inRound l0) 0 P rc.assign (Exit.then (fun a₁ w₁ => ∃ w₂, (Instr.beginRound l0).run P w₁ = .ok () w₂ ∧ rc.body.wpIn (Fence.wide.inRound l0) 0 P (roundPost P l0 Y) a₁ w₂) (fun _ _ _ => False)) { tmps := (rc.params.zip vs.toArray).foldl (fun tmps (t, a) => tmps.setIfInBounds t a) rc.tmps, defers := [] } w
    rw [r2, r3, r4, zip_fold]
    exact hk
  · rintro e w'' he
    obtain ⟨v, rfl, hk⟩ := hY e w'' he
    exact hk
theorem RL.yield {l0 : Nat} {rc : Loop} {a0 : Act} {ps : List Tmp} {vs : List Value} {assign body : Code} {fx : Operand} {args : List Operand} {ats : Array TypeId} (hM : Mem w0 S w L) (hi : L[i]? = some (.res [l0] (LoopAt l0 rc .ready none)))
    (ha0 : Kn n0 l1 a0) (hr : rc.tmps = a0.tmps ∧ rc.params = ps.toArray ∧ rc.assign = assign ∧ rc.body = body)
    (hfx : ev l fx = some (.func (.yield l0) #[] #[])) (hv : evs l args = some vs) (hlen : Nat.beq ps.length vs.length = true) (hps : (ps.all fun t => Nat.blt t n0.n) = true) (hd : Nat.blt d n.n = true)
    (h : KC (Fence.wide.inRound l0) P assign (Exit.then (RB P l0 body (YC (fun l w => RL Fence.wide P ops Q rest n l w) fun v => (d, v) :: l)) (fun _ _ _ => False)) (Fr.mk n0.n []) ((ps.zip vs).reverse ++ l1) w) :
    RL Fence.wide P ops Q (⟨some d, .call ⟨.value fx, args.toArray, ats⟩, ty, pos, after, none⟩ :: rest) n l w :=
  fun a ha => wpListIn_plain rfl fun K hK => wpIn_yield hM hi ha0 hr (ha.ev hfx) (by simp [ha.evs hv]) hlen hps (fun e w' he => by
    cases e with
    | returned v => exact ⟨v, rfl, hK _ _ (he _ (ha.put hd))⟩
    | panicked ch => exact he.elim
    | outgrown => exact he.elim) h
theorem RL.yield0 {l0 : Nat} {rc : Loop} {a0 : Act} {ps : List Tmp} {vs : List Value} {assign body : Code} {fx : Operand} {args : List Operand} {ats : Array TypeId} (hM : Mem w0 S w L) (hi : L[i]? = some (.res [l0] (LoopAt l0 rc .ready none)))
    (ha0 : Kn n0 l1 a0) (hr : rc.tmps = a0.tmps ∧ rc.params = ps.toArray ∧ rc.assign = assign ∧ rc.body = body)
    (hfx : ev l fx = some (.func (.yield l0) #[] #[])) (hv : evs l args = some vs) (hlen : Nat.beq ps.length vs.length = true) (hps : (ps.all fun t => Nat.blt t n0.n) = true)
    (h : KC (Fence.wide.inRound l0) P assign (Exit.then (RB P l0 body (YC (fun l w => RL Fence.wide P ops Q rest n l w) fun _ => l)) (fun _ _ _ => False)) (Fr.mk n0.n []) ((ps.zip vs).reverse ++ l1) w) :
    RL Fence.wide P ops Q (⟨none, .call ⟨.value fx, args.toArray, ats⟩, ty, pos, after, none⟩ :: rest) n l w :=
  fun a ha => wpListIn_plain rfl fun K hK => wpIn_yield hM hi ha0 hr (ha.ev hfx) (by simp [ha.evs hv]) hlen hps (fun e w' he => by
    cases e with
    | returned v => exact ⟨v, rfl, hK _ _ (he _ ha)⟩
    | panicked ch => exact he.elim
    | outgrown => exact he.elim) h
theorem RD.myield {ld mv pu : List Nat} {X : List (Option Nat)} {r : Ordr} {ix l0 : Nat} {rc : Loop} {a0 : Act} {ps : List Tmp} {vs : List Value} {assign body : Code} {fx : Operand} {args : List Operand} {ats : Array TypeId} (hM : Mem w0 S w L) (hi : L[i]? = some (.res [l0] (LoopAt l0 rc .ready none)))
    (ha0 : Kn n0 l1 a0) (hr : rc.tmps = a0.tmps ∧ rc.params = ps.toArray ∧ rc.assign = assign ∧ rc.body = body)
    (ho : ops[ix]? = some ⟨some d, .call ⟨.value fx, args.toArray, ats⟩, ty, pos, after, none⟩) (hm : mv.contains ix = true) (hld : ld.contains ix = true)
    (hfx : ev l fx = some (.func (.yield l0) #[] #[])) (hv : evs l args = some vs) (hlen : Nat.beq ps.length vs.length = true) (hps : (ps.all fun t => Nat.blt t n0.n) = true) (hd : Nat.blt d n.n = true)
    (h : KC (Fence.wide.inRound l0) P assign (Exit.then (RB P l0 body (YC (fun l w => RD Fence.wide P ops Q ld mv pu X r n l w) fun v => (d, v) :: l)) (fun _ _ _ => False)) (Fr.mk n0.n []) ((ps.zip vs).reverse ++ l1) w) :
    RD Fence.wide P ops Q ld mv pu X (.cons ix r) n l w :=
  RD.step ho hm fun K hK a ha => by
    have hw : Region.wanted ⟨some d, .call ⟨.value fx, args.toArray, ats⟩, ty, pos, after, none⟩ (yielded ops a.tmps) = true := rfl
    rw [if_pos hw]
    exact wpIn_yield hM hi ha0 hr (ha.ev hfx) (by simp [ha.evs hv]) hlen hps (fun e w' he => by
      cases e with
      | returned v => exact ⟨v, rfl, hK _ _ ⟨fun h => (by rw [hld] at h; cases h), he _ (ha.put hd)⟩⟩
      | panicked ch => exact he.elim
      | outgrown => exact he.elim) h
theorem KQ.begin {l0 : Nat} {rc : Loop} {body : Code} {R : Ending → World → Prop} {N : Exit → Act → World → Prop} (hM : Mem w0 S w L) (hi : L[i]? = some (.res [l0] (LoopAt l0 rc .ready none)))
    (h : ∀ w2, Mem w0 S w2 (L.set i (.res [l0] (LoopAt l0 rc .busy none))) → Chg [some l0] w w2 → KC (Fence.wide.inRound l0) P body (roundPost P l0 R) n l w2) : KQ (Exit.then (RB P l0 body R) N) .normal n l w := fun a ha => by
  have hl := hM.loopAt hi
  exact ⟨_, run_beginRound hl rfl, h _ (hM.turn (o := .loop { rc with state := .busy, pending := none }) (φ' := LoopAt l0 rc .busy none) hi fun w1 h1 => h1) (.grown (grownBy_putObj' ..)) a ha⟩
/-- A round's end. -/
theorem KQ.rnorm {l0 : Nat} {rc : Loop} {n' : Fr} {l' : List (Nat × Value)} {lf : Value → List (Nat × Value)} {C : List (Nat × Value) → World → Prop} (hM : Mem w0 S w L) (hi : L[i]? = some (.res [l0] (LoopAt l0 rc .busy none)))
    (h : ∀ w2, Mem w0 S w2 (L.set i (.res [l0] (LoopAt l0 rc .ready none))) → Chg [some l0] w w2 → C (lf (.bool true)) w2) : KQ (roundPost P l0 (YC C lf)) .normal n' l' w := fun a ha =>
  ⟨_, _, run_endRound none (hM.loopAt hi), h _ (hM.turn (φ' := LoopAt l0 rc .ready none) hi fun w1 h1 => h1) (.grown (grownBy_putObj' ..))⟩
theorem KQ.rret {l0 : Nat} {rc : Loop} {n' : Fr} {l' : List (Nat × Value)} {lf : Value → List (Nat × Value)} {C : List (Nat × Value) → World → Prop} (hM : Mem w0 S w L) (hi : L[i]? = some (.res [l0] (LoopAt l0 rc .busy none)))
    (h : ∀ w2, Mem w0 S w2 (L.set i (.res [l0] (LoopAt l0 rc .done (some .ret)))) → Chg [some l0] w w2 → C (lf (.bool false)) w2) : KQ (roundPost P l0 (YC C lf)) .ret n' l' w := fun a ha =>
  ⟨_, _, run_endRound (some .ret) (hM.loopAt hi), h _ (hM.turn (φ' := LoopAt l0 rc .done (some .ret)) hi fun w1 h1 => h1) (.grown (grownBy_putObj' ..))⟩
theorem KQ.rexit {l0 id : Nat} {rc : Loop} {n' : Fr} {l' : List (Nat × Value)} {lf : Value → List (Nat × Value)} {C : List (Nat × Value) → World → Prop} (hM : Mem w0 S w L) (hi : L[i]? = some (.res [l0] (LoopAt l0 rc .busy none)))
    (h : ∀ w2, Mem w0 S w2 (L.set i (.res [l0] (LoopAt l0 rc .done (some (.exit id))))) → Chg [some l0] w w2 → C (lf (.bool false)) w2) : KQ (roundPost P l0 (YC C lf)) (.exit id) n' l' w := fun a ha =>
  ⟨_, _, run_endRound (some (.exit id)) (hM.loopAt hi), h _ (hM.turn (φ' := LoopAt l0 rc .done (some (.exit id))) hi fun w1 h1 => h1) (.grown (grownBy_putObj' ..))⟩

/-! ### The end of the function that was ranged over -/
theorem rend {l0 D : Nat} {rc : Loop} {a0 : Act} {st : LoopState} (hM : Mem w0 S w L) (hi : L[i]? = some (.res [l0] (LoopAt l0 rc st none))) (hst : st ≠ .busy) (ha0 : Kn n0 l1 a0)
    (h : ∀ w2, Mem w0 S w2 (L.set i (.res [l0] fun _ => True)) → Chg [some l0] w w2 → KQ Q .normal (Fr.mk n0.n (mark D :: n0.ds)) l1 w2) :
    rangePost Fence.wide 0 P l0 Q ⟨a0.tmps, mark D :: a0.defers⟩ (.returned v) w := by
  have hl := hM.loopAt hi
  have hk : Kn (Fr.mk n0.n (mark D :: n0.ds)) l1 ⟨a0.tmps, mark D :: a0.defers⟩ := ⟨ha0.size, by show mark D :: a0.defers = mark D :: n0.ds; rw [ha0.defs], ha0.get⟩
  have hh := h _ (hM.turn (o := .loop { rc with state := .exhausted, pending := none }) (φ' := fun _ => True) hi fun _ _ => trivial) (.grown (grownBy_putObj' ..))
  exact ⟨none, _, run_endLoop hl hst, hh _ hk⟩
theorem KQ.rendR {m l0 D : Nat} {fn : Func} {rc : Loop} {a0 : Act} {st : LoopState} {lc : List (Nat × Value)} (hr : fn.results = #[]) (hM : Mem w0 S w L) (hi : L[i]? = some (.res [l0] (LoopAt l0 rc st none))) (hst : st ≠ .busy) (ha0 : Kn n0 l1 a0)
    (h : ∀ w2, Mem w0 S w2 (L.set i (.res [l0] fun _ => True)) → Chg [some l0] w w2 → KQ Q .normal (Fr.mk n0.n (mark D :: n0.ds)) l1 w2) :
    KQ (bodyPost P fn (rangePost Fence.wide 0 P l0 Q ⟨a0.tmps, mark D :: a0.defers⟩)) .ret (Fr.mk m []) lc w := KQ.ret0 hr (rend hM hi hst ha0 h)
theorem KQ.rendN {m l0 D : Nat} {fn : Func} {rc : Loop} {a0 : Act} {st : LoopState} {lc : List (Nat × Value)} (hr : fn.results = #[]) (hM : Mem w0 S w L) (hi : L[i]? = some (.res [l0] (LoopAt l0 rc st none))) (hst : st ≠ .busy) (ha0 : Kn n0 l1 a0)
    (h : ∀ w2, Mem w0 S w2 (L.set i (.res [l0] fun _ => True)) → Chg [some l0] w w2 → KQ Q .normal (Fr.mk n0.n (mark D :: n0.ds)) l1 w2) :
    KQ (bodyPost P fn (rangePost Fence.wide 0 P l0 Q ⟨a0.tmps, mark D :: a0.defers⟩)) .normal (Fr.mk m []) lc w := KQ.end0 hr (rend hM hi hst ha0 h)
theorem rendC {l0 D : Nat} {rc : Loop} {a0 : Act} {st : LoopState} {c : Code} (hM : Mem w0 S w L) (hi : L[i]? = some (.res [l0] (LoopAt l0 rc st (some c)))) (hst : st ≠ .busy) (ha0 : Kn n0 l1 a0)
    (h : ∀ w2, Mem w0 S w2 (L.set i (.res [l0] fun _ => True)) → Chg [some l0] w w2 → KC Fence.wide P c Q (Fr.mk n0.n (mark D :: n0.ds)) l1 w2) :
    rangePost Fence.wide 0 P l0 Q ⟨a0.tmps, mark D :: a0.defers⟩ (.returned v) w := by
  have hl := hM.loopAt hi
  have hk : Kn (Fr.mk n0.n (mark D :: n0.ds)) l1 ⟨a0.tmps, mark D :: a0.defers⟩ := ⟨ha0.size, by show mark D :: a0.defers = mark D :: n0.ds; rw [ha0.defs], ha0.get⟩
  have hh := h _ (hM.turn (o := .loop { rc with state := .exhausted, pending := (some c) }) (φ' := fun _ => True) hi fun _ _ => trivial) (.grown (grownBy_putObj' ..))
  exact ⟨(some c), _, run_endLoop hl hst, hh _ hk⟩
theorem KQ.rendRC {m l0 D : Nat} {fn : Func} {rc : Loop} {a0 : Act} {st : LoopState} {c : Code} {lc : List (Nat × Value)} (hr : fn.results = #[]) (hM : Mem w0 S w L) (hi : L[i]? = some (.res [l0] (LoopAt l0 rc st (some c)))) (hst : st ≠ .busy) (ha0 : Kn n0 l1 a0)
    (h : ∀ w2, Mem w0 S w2 (L.set i (.res [l0] fun _ => True)) → Chg [some l0] w w2 → KC Fence.wide P c Q (Fr.mk n0.n (mark D :: n0.ds)) l1 w2) :
    KQ (bodyPost P fn (rangePost Fence.wide 0 P l0 Q ⟨a0.tmps, mark D :: a0.defers⟩)) .ret (Fr.mk m []) lc w := KQ.ret0 hr (rendC hM hi hst ha0 h)
theorem KQ.rendNC {m l0 D : Nat} {fn : Func} {rc : Loop} {a0 : Act} {st : LoopState} {c : Code} {lc : List (Nat × Value)} (hr : fn.results = #[]) (hM : Mem w0 S w L) (hi : L[i]? = some (.res [l0] (LoopAt l0 rc st (some c)))) (hst : st ≠ .busy) (ha0 : Kn n0 l1 a0)
    (h : ∀ w2, Mem w0 S w2 (L.set i (.res [l0] fun _ => True)) → Chg [some l0] w w2 → KC Fence.wide P c Q (Fr.mk n0.n (mark D :: n0.ds)) l1 w2) :
    KQ (bodyPost P fn (rangePost Fence.wide 0 P l0 Q ⟨a0.tmps, mark D :: a0.defers⟩)) .normal (Fr.mk m []) lc w := KQ.end0 hr (rendC hM hi hst ha0 h)
/-! ### A call that is walked in place -/
theorem RL.icall [WF F] {f : FuncId} {fn : Func} {c : Code} {vs : List Value} {args : List Operand} {ats : Array TypeId} {m : Nat}
    (hf : P.funcs[f]? = some fn) (hb : (!(fn.name == "runtime.NumGoroutine") && !fn.body.isNone) = true) (hv : evs l args = some vs) (hd : Nat.blt d n.n = true) (hbody : fn.body = some c) (hm : fn.ntmps = m) (hs : Nat.ble vs.length m = true)
    (h : KC Fence.wide P c (bodyPost P fn fun e w' => ∃ v, e = .returned v ∧ RL F P ops Q rest n ((d, v) :: l) w') (Fr.mk m []) ((List.range vs.length).zip vs) w) :
    RL F P ops Q (⟨some d, .call ⟨.value (.func f), args.toArray, ats⟩, ty, pos, after, none⟩ :: rest) n l w :=
  RL.call hf hb hv hd (calls_KC hf hbody hm hs h) fun v w' h => h
theorem RD.micall [WF F] {ld mv pu : List Nat} {X : List (Option Nat)} {r : Ordr} {ix : Nat} {f : FuncId} {fn : Func} {c : Code} {vs : List Value} {args : List Operand} {ats : Array TypeId} {m : Nat}
    (ho : ops[ix]? = some ⟨some d, .call ⟨.value (.func f), args.toArray, ats⟩, ty, pos, after, none⟩) (hmv : mv.contains ix = true) (hld : ld.contains ix = true)
    (hf : P.funcs[f]? = some fn) (hb : (!(fn.name == "runtime.NumGoroutine") && !fn.body.isNone) = true) (hv : evs l args = some vs) (hd : Nat.blt d n.n = true) (hbody : fn.body = some c) (hm : fn.ntmps = m) (hs : Nat.ble vs.length m = true)
    (h : KC Fence.wide P c (bodyPost P fn fun e w' => ∃ v, e = .returned v ∧ RD F P ops Q ld mv pu X r n ((d, v) :: l) w') (Fr.mk m []) ((List.range vs.length).zip vs) w) :
    RD F P ops Q ld mv pu X (.cons ix r) n l w :=
  RD.mcall (dst := some d) (gd := none) ho hmv trivial hf hb hv hd (calls_KC hf hbody hm hs h) fun v w' h => ⟨fun e => (by rw [hld] at e; cases e), h⟩
end
end Go.Ox
