/- A plain library: what one operation does, for a frame that is known by a list of slots. No program is named here. -/
import Derived.Test.YtidbgejnkpoeeaaOxA
set_option linter.unusedVariables false
namespace Go.Ox
open Go

/-- The operation yields the value v and leaves the world w'. -/
def OpR (P : Program) (o : Op) (ty : TypeId) (l : List (Nat × Value)) (w : World) (v : Value) (w' : World) : Prop :=
  ∀ (ρ : Operand → Value), (∀ x u, ev l x = some u → ρ x = u) → ∀ dst pos after g, (execOp ρ ⟨dst, o, ty, pos, after, g⟩).run P w = .ok (.value v) w'
/-- The operation yields nothing and leaves the world w'. -/
def OpS (P : Program) (o : Op) (ty : TypeId) (l : List (Nat × Value)) (w : World) (w' : World) : Prop :=
  ∀ (ρ : Operand → Value), (∀ x u, ev l x = some u → ρ x = u) → ∀ dst pos after g, (execOp ρ ⟨dst, o, ty, pos, after, g⟩).run P w = .ok .skip w'
/-- A value in the world as it is. -/
abbrev OpV (P : Program) (o : Op) (ty : TypeId) (l : List (Nat × Value)) (w : World) (v : Value) : Prop := OpR P o ty l w v w

section
variable {F : Fence} {P : Program} {ops : Array Oper} {Q : Exit → Act → World → Prop} {rest : List Oper} {n : Fr} {d : Nat} {l l' : List (Nat × Value)} {w w' : World}
variable {o : Op} {ty : TypeId} {pos : String} {after : Array Edge} {v : Value}

/-! ### The fenced layer -/
theorem no_defer {o : Oper} {ρ : Operand → Value} {x : Next} (h : (execOp ρ o).run P w = .ok x w') (hx : ∀ d, x ≠ .defer d) : ∀ c, o.op ≠ .defer c := fun c hc => by
  unfold execOp at h
  rw [hc] at h
  simp only [Sem.run_bind] at h
  cases hr : (resolve ρ c o.type).run P w with
  | ok d w1 =>
    rw [hr] at h
    simp only [Result.andThen_ok, Sem.run_pure, Result.ok.injEq] at h
    exact hx d h.1.symm
  | halt y w1 =>
    rw [hr] at h
    cases h
theorem inVal [WF F] {o : Oper} {a : Act} {K : Act → World → Prop} (h : (execOp a.eval o).run P w = .ok (.value v) w') (hk : K (a.put o.dst v) w') : o.wpIn F 0 P a w K Q := by
  refine ⟨fun f _ => WF.fn f, ?_⟩
  rw [Oper.semAt_eq _ _ _ (no_defer h (fun d e => by cases e)), h]
  exact hk
theorem inSkip [WF F] {o : Oper} {a : Act} {K : Act → World → Prop} (h : (execOp a.eval o).run P w = .ok .skip w') (hk : K (a.put o.dst undef) w') : o.wpIn F 0 P a w K Q := by
  refine ⟨fun f _ => WF.fn f, ?_⟩
  rw [Oper.semAt_eq _ _ _ (no_defer h (fun d e => by cases e)), h]
  exact hk
theorem RL.val [WF F] (h : OpR P o ty l w v w') (hd : Nat.blt d n.n = true) (hk : RL F P ops Q rest n ((d, v) :: l) w') : RL F P ops Q (⟨some d, o, ty, pos, after, none⟩ :: rest) n l w :=
  fun a ha => wpListIn_plain rfl fun K hK => by
    exact inVal (h a.eval (fun x u hx => ha.ev hx) _ _ _ _) (hK _ _ (hk _ (ha.put hd)))
theorem RL.val0 [WF F] (h : OpR P o ty l w v w') (hk : RL F P ops Q rest n l w') : RL F P ops Q (⟨none, o, ty, pos, after, none⟩ :: rest) n l w :=
  fun a ha => wpListIn_plain rfl fun K hK => by
    exact inVal (h a.eval (fun x u hx => ha.ev hx) _ _ _ _) (hK _ _ (hk _ ha))
theorem RL.st [WF F] (h : OpS P o ty l w w') (hk : RL F P ops Q rest n l w') : RL F P ops Q (⟨none, o, ty, pos, after, none⟩ :: rest) n l w :=
  fun a ha => wpListIn_plain rfl fun K hK => by
    exact inSkip (h a.eval (fun x u hx => ha.ev hx) _ _ _ _) (hK _ _ (hk _ ha))

/-- The slot of operation j is known to hold this Bool. -/
def yl (ops : Array Oper) (l : List (Nat × Value)) (j : Nat) : Option Bool :=
  match (ops[j]?).bind (·.dst) with
  | some t => match lk l t with
    | some (.bool b) => some b
    | _ => none
  | none => none
theorem yl_yielded {a : Act} (ha : Kn n l a) {j : Nat} {b : Bool} (h : yl ops l j = some b) (hj : ∀ t, (ops[j]?).bind (·.dst) = some t → t < n.n) : yielded ops a.tmps j = some b := by
  unfold yl at h
  unfold yielded
  split at h
  · rename_i t ht
    have hlt := hj t ht
    rw [ht]
    split at h
    · rename_i b' hb'
      have hg := ha.get t _ hb'
      obtain rfl := Option.some.inj h
      have : a.tmps[t]? = some (.bool b') := by
        rw [Array.getD_eq_getD_getElem?] at hg
        rw [Array.getElem?_eq_getElem (by rw [ha.size]; exact hlt)] at hg ⊢
        simpa using hg
      simp [this]
    · cases h
  · cases h
def ylt (ops : Array Oper) (j n : Nat) : Bool := match (ops[j]?).bind (·.dst) with
  | some t => Nat.blt t n
  | none => true
theorem ylt_spec {j : Nat} (h : ylt ops j n = true) : ∀ t, (ops[j]?).bind (·.dst) = some t → t < n.n := by
  intro t ht
  unfold ylt at h
  rw [ht] at h
  simpa using h
/-- A guarded operation that is wanted. -/
theorem RL.gval [WF F] {j : Nat} {b : Bool} (hy : yl ops l j = some b) (hj : ylt ops j n = true) (h : OpR P o ty l w v w') (hd : Nat.blt d n.n = true) (hk : RL F P ops Q rest n ((d, v) :: l) w') :
    RL F P ops Q (⟨some d, o, ty, pos, after, some (j, b)⟩ :: rest) n l w :=
  fun a ha => wpListIn_step fun K hK => by
    have hw : Region.wanted ⟨some d, o, ty, pos, after, some (j, b)⟩ (yielded ops a.tmps) = true := by simp [Region.wanted, yl_yielded ha hy (ylt_spec hj)]
    rw [if_pos hw]
    exact inVal (h a.eval (fun x u hx => ha.ev hx) _ _ _ _) (hK _ _ (hk _ (ha.put hd)))
/-- A guarded operation that is passed over. -/
theorem RL.gskip [WF F] {j : Nat} {b b' : Bool} (hy : yl ops l j = some b') (hj : ylt ops j n = true) (hne : (b' == b) = false) (hd : Nat.blt d n.n = true) (hk : RL F P ops Q rest n ((d, undef) :: l) w) :
    RL F P ops Q (⟨some d, o, ty, pos, after, some (j, b)⟩ :: rest) n l w :=
  fun a ha => wpListIn_step fun K hK => by
    have hw : Region.wanted ⟨some d, o, ty, pos, after, some (j, b)⟩ (yielded ops a.tmps) = false := by
      simp [Region.wanted, yl_yielded ha hy (ylt_spec hj)]
      simpa using hne
    rw [if_neg (by rw [hw]; simp)]
    exact ⟨fun f _ => WF.fn f, hK _ _ (hk _ (ha.put hd))⟩
theorem yl_none_yielded {a : Act} (ha : Kn n l a) {j : Nat} (hj : ∀ t, (ops[j]?).bind (·.dst) = some t → lk l t = some undef) (hjn : ∀ t, (ops[j]?).bind (·.dst) = some t → t < n.n) : yielded ops a.tmps j = none := by
  unfold yielded
  cases ht : (ops[j]?).bind (·.dst) with
  | none => rfl
  | some t =>
    have hg := ha.get t _ (hj t ht)
    have : a.tmps[t]? = some undef := by
      rw [Array.getD_eq_getD_getElem?] at hg
      rw [Array.getElem?_eq_getElem (by rw [ha.size]; exact hjn t ht)] at hg ⊢
      simpa using hg
    simp [this, undef]
def yu (ops : Array Oper) (l : List (Nat × Value)) (j : Nat) : Bool :=
  match (ops[j]?).bind (·.dst) with
  | some t => match lk l t with
    | some (.tuple ⟨[]⟩) => true
    | _ => false
  | none => false
theorem yu_spec {j : Nat} (h : yu ops l j = true) : ∀ t, (ops[j]?).bind (·.dst) = some t → lk l t = some undef := by
  intro t ht
  unfold yu at h
  rw [ht] at h
  simp only at h
  split at h
  · rename_i he; exact he
  · cases h
/-- A guarded operation whose guard was itself passed over. -/
theorem RL.gskip' [WF F] {j : Nat} {b : Bool} (hy : yu ops l j = true) (hj : ylt ops j n = true) (hd : Nat.blt d n.n = true) (hk : RL F P ops Q rest n ((d, undef) :: l) w) :
    RL F P ops Q (⟨some d, o, ty, pos, after, some (j, b)⟩ :: rest) n l w :=
  fun a ha => wpListIn_step fun K hK => by
    have hw : Region.wanted ⟨some d, o, ty, pos, after, some (j, b)⟩ (yielded ops a.tmps) = false := by
      simp [Region.wanted, yl_none_yielded ha (yu_spec hy) (ylt_spec hj)]
    rw [if_neg (by rw [hw]; simp)]
    exact ⟨fun f _ => WF.fn f, hK _ _ (hk _ (ha.put hd))⟩

/-! ### Calls -/
/-- The contract of a call that returns. -/
def CallsR (P : Program) (f : FuncId) (args : List Value) (w : World) (R : Value → World → Prop) : Prop :=
  Calls P f args.toArray w fun e w' => ∃ v, e = .returned v ∧ R v w'
theorem CallsR.mono {f : FuncId} {args : List Value} {R R' : Value → World → Prop} (h : CallsR P f args w R) (hr : ∀ v w', R v w' → R' v w') : CallsR P f args w R' :=
  Calls.mono h fun _ _ ⟨v, he, hv⟩ => ⟨v, he, hr v _ hv⟩

def bodied (P : Program) (f : FuncId) : Bool := match P.funcs[f]? with
  | some fn => !(fn.name == "runtime.NumGoroutine") && !fn.body.isNone
  | none => false
theorem run_callFunc {f : FuncId} {fn : Func} (hf : P.funcs[f]? = some fn) (hb : (!(fn.name == "runtime.NumGoroutine") && !fn.body.isNone) = true) (args : Array Value) :
    (callFunc f args).run P w = .ok (.enter f args) w := by
  have h1 : ¬ fn.name = "runtime.NumGoroutine" := by
    intro h; rw [h] at hb; simp at hb
  have h2 : ¬ fn.body = Option.none := by
    intro h; rw [h] at hb; simp at hb
  simp [callFunc, hf, h1, h2]

theorem callsIn_of [WF F] {f : FuncId} {args : Array Value} {R : Ending → World → Prop} (h : Calls P f args w R) : CallsIn F 0 P f args w R := by
  rcases WF.eq (F := F) with rfl | ⟨l, rfl⟩
  · exact callsIn_wide.2 h
  · exact CallsIn.inRound l (callsIn_wide.2 h)
theorem wpIn_call [WF F] {f : FuncId} {fn : Func} {vs : List Value} {dst : Option Tmp} {gd : Option (Nat × Bool)} {args : Array Operand} {ats : Array TypeId} {R : Value → World → Prop} {a : Act} {K : Act → World → Prop} {first captured : Array Value} {fx : Operand}
    (hfx : a.eval fx = .func (.func f) first captured)
    (hf : P.funcs[f]? = some fn) (hb : (!(fn.name == "runtime.NumGoroutine") && !fn.body.isNone) = true) (ha : (first ++ args.map a.eval ++ captured) = vs.toArray)
    (h : CallsR P f vs w R) (hk : ∀ v w', R v w' → K (a.put dst v) w') : Oper.wpIn F 0 P ⟨dst, .call ⟨.value fx, args, ats⟩, ty, pos, after, gd⟩ a w K Q := by
  refine ⟨fun f _ => WF.fn f, ?_⟩
  rw [Oper.semAt_eq _ _ _ (fun c hc => by cases hc)]
  unfold execOp
  simp only [resolve, hfx, Deferred.ofValue, Sem.run_bind, Sem.run_pure, Result.andThen_ok, invoke]
  rw [ha, run_callFunc hf hb]
  refine ⟨fun hd => (by rw [WF.depth] at hd; cases hd), callsIn_of (Calls.mono h fun e w' ⟨v, he, hr⟩ => by subst he; exact hk v w' hr)⟩
theorem RL.call [WF F] {f : FuncId} {fn : Func} {vs : List Value} {args : List Operand} {ats : Array TypeId} {R : Value → World → Prop}
    (hf : P.funcs[f]? = some fn) (hb : (!(fn.name == "runtime.NumGoroutine") && !fn.body.isNone) = true) (hv : evs l args = some vs) (hd : Nat.blt d n.n = true)
    (h : CallsR P f vs w R) (hk : ∀ v w', R v w' → RL F P ops Q rest n ((d, v) :: l) w') : RL F P ops Q (⟨some d, .call ⟨.value (.func f), args.toArray, ats⟩, ty, pos, after, none⟩ :: rest) n l w :=
  fun a ha => wpListIn_plain rfl fun K hK => wpIn_call (first := #[]) (captured := #[]) rfl hf hb (by simp [ha.evs hv]) h fun v w' hr => hK _ _ (hk v w' hr _ (ha.put hd))
theorem RL.call0 [WF F] {f : FuncId} {fn : Func} {vs : List Value} {args : List Operand} {ats : Array TypeId} {R : Value → World → Prop}
    (hf : P.funcs[f]? = some fn) (hb : (!(fn.name == "runtime.NumGoroutine") && !fn.body.isNone) = true) (hv : evs l args = some vs)
    (h : CallsR P f vs w R) (hk : ∀ v w', R v w' → RL F P ops Q rest n l w') : RL F P ops Q (⟨none, .call ⟨.value (.func f), args.toArray, ats⟩, ty, pos, after, none⟩ :: rest) n l w :=
  fun a ha => wpListIn_plain rfl fun K hK => wpIn_call (first := #[]) (captured := #[]) rfl hf hb (by simp [ha.evs hv]) h fun v w' hr => hK _ _ (hk v w' hr _ ha)
/-- A call of a function value. -/
theorem RL.callv [WF F] {f : FuncId} {fn : Func} {first captured : List Value} {vs : List Value} {fx : Operand} {args : List Operand} {ats : Array TypeId} {R : Value → World → Prop}
    (hfx : ev l fx = some (.func (.func f) first.toArray captured.toArray))
    (hf : P.funcs[f]? = some fn) (hb : (!(fn.name == "runtime.NumGoroutine") && !fn.body.isNone) = true) (hv : evs l args = some vs) (hd : Nat.blt d n.n = true)
    (h : CallsR P f (first ++ vs ++ captured) w R) (hk : ∀ v w', R v w' → RL F P ops Q rest n ((d, v) :: l) w') : RL F P ops Q (⟨some d, .call ⟨.value fx, args.toArray, ats⟩, ty, pos, after, none⟩ :: rest) n l w :=
  fun a ha => wpListIn_plain rfl fun K hK => wpIn_call (ha.ev hfx) hf hb (by simp [ha.evs hv]) h fun v w' hr => hK _ _ (hk v w' hr _ (ha.put hd))
theorem RL.callv0 [WF F] {f : FuncId} {fn : Func} {first captured : List Value} {vs : List Value} {fx : Operand} {args : List Operand} {ats : Array TypeId} {R : Value → World → Prop}
    (hfx : ev l fx = some (.func (.func f) first.toArray captured.toArray))
    (hf : P.funcs[f]? = some fn) (hb : (!(fn.name == "runtime.NumGoroutine") && !fn.body.isNone) = true) (hv : evs l args = some vs)
    (h : CallsR P f (first ++ vs ++ captured) w R) (hk : ∀ v w', R v w' → RL F P ops Q rest n l w') : RL F P ops Q (⟨none, .call ⟨.value fx, args.toArray, ats⟩, ty, pos, after, none⟩ :: rest) n l w :=
  fun a ha => wpListIn_plain rfl fun K hK => wpIn_call (ha.ev hfx) hf hb (by simp [ha.evs hv]) h fun v w' hr => hK _ _ (hk v w' hr _ ha)
/-- A guarded call that is wanted. -/
theorem RL.gcall [WF F] {f : FuncId} {fn : Func} {vs : List Value} {args : List Operand} {ats : Array TypeId} {R : Value → World → Prop} {j : Nat} {b : Bool} (hy : yl ops l j = some b) (hj : ylt ops j n = true)
    (hf : P.funcs[f]? = some fn) (hb : (!(fn.name == "runtime.NumGoroutine") && !fn.body.isNone) = true) (hv : evs l args = some vs) (hd : Nat.blt d n.n = true)
    (h : CallsR P f vs w R) (hk : ∀ v w', R v w' → RL F P ops Q rest n ((d, v) :: l) w') : RL F P ops Q (⟨some d, .call ⟨.value (.func f), args.toArray, ats⟩, ty, pos, after, some (j, b)⟩ :: rest) n l w :=
  fun a ha => wpListIn_step fun K hK => by
    have hw : Region.wanted ⟨some d, .call ⟨.value (.func f), args.toArray, ats⟩, ty, pos, after, some (j, b)⟩ (yielded ops a.tmps) = true := by simp [Region.wanted, yl_yielded ha hy (ylt_spec hj)]
    rw [if_pos hw]
    exact wpIn_call (first := #[]) (captured := #[]) rfl hf hb (by simp [ha.evs hv]) h fun v w' hr => hK _ _ (hk v w' hr _ (ha.put hd))
theorem calls_KC {f : FuncId} {fn : Func} {c : Code} {args : List Value} {R : Value → World → Prop} (hf : P.funcs[f]? = some fn) (hb : fn.body = some c) {m : Nat} (hm : fn.ntmps = m) (hs : Nat.ble args.length m = true)
    (h : KC Fence.wide P c (bodyPost P fn fun e w' => ∃ v, e = .returned v ∧ R v w') m ((List.range args.length).zip args) w) : CallsR P f args w R := calls_of_KC hf hb hm hs h

/-! ### Operations that touch no memory -/
theorem O.move {x : Operand} {u : Value} (h : ev l x = some u) : OpV P (.move x) ty l w u := fun ρ hρ _ _ _ _ => by simp [execOp, hρ x u h]
theorem O.assign {x : Operand} {u : Value} (h : ev l x = some u) : OpV P (.assign x) ty l w u := fun ρ hρ _ _ _ _ => by simp [execOp, hρ x u h]

variable {x y : Operand} {k k' : IntKind} {p q : Int} {t t' : TypeId}
theorem O.bin {op : BinOp} {r : Value} (hx : ev l x = some (.int k p)) (hy : ev l y = some (.int k' q)) (hr : (binOp op t (.int k p) (.int k' q)).run P w = .ok r w) : OpV P (.binOp op t x y t') ty l w r := fun ρ hρ _ _ _ _ => by
  simp only [execOp, hρ x _ hx, hρ y _ hy, eqGuard_at_int]
  simp [hr]
theorem O.add (hx : ev l x = some (.int k p)) (hy : ev l y = some (.int k q)) : OpV P (.binOp .add t x y t') ty l w (.int k (k.wrap (p + q))) := O.bin hx hy (by rw [binOp_add]; rfl)
theorem O.sub (hx : ev l x = some (.int k p)) (hy : ev l y = some (.int k q)) : OpV P (.binOp .sub t x y t') ty l w (.int k (k.wrap (p - q))) := O.bin hx hy (by rw [binOp_sub]; rfl)
theorem O.mul (hx : ev l x = some (.int k p)) (hy : ev l y = some (.int k q)) : OpV P (.binOp .mul t x y t') ty l w (.int k (k.wrap (p * q))) := O.bin hx hy (by rw [binOp_mul]; rfl)
theorem O.quo (hx : ev l x = some (.int k p)) (hy : ev l y = some (.int k q)) (hq : q ≠ 0) : OpV P (.binOp .quo t x y t') ty l w (.int k (k.wrap (p.tdiv q))) := O.bin hx hy (by rw [binOp_quo]; simp [Op.intDiv, hq])
theorem O.rem (hx : ev l x = some (.int k p)) (hy : ev l y = some (.int k q)) (hq : q ≠ 0) : OpV P (.binOp .rem t x y t') ty l w (.int k (p.tmod q)) := O.bin hx hy (by rw [binOp_rem]; simp [Op.intDiv, hq])
theorem O.and (hx : ev l x = some (.int k p)) (hy : ev l y = some (.int k q)) : OpV P (.binOp .and t x y t') ty l w (.int k (bits .and k p q)) := O.bin hx hy (by rw [binOp_and, intBits_and]; rfl)
theorem O.or (hx : ev l x = some (.int k p)) (hy : ev l y = some (.int k q)) : OpV P (.binOp .or t x y t') ty l w (.int k (bits .or k p q)) := O.bin hx hy (by rw [binOp_or, intBits_or]; rfl)
theorem O.xor (hx : ev l x = some (.int k p)) (hy : ev l y = some (.int k q)) : OpV P (.binOp .xor t x y t') ty l w (.int k (bits .xor k p q)) := O.bin hx hy (by rw [binOp_xor, intBits_xor]; rfl)
theorem O.andNot (hx : ev l x = some (.int k p)) (hy : ev l y = some (.int k q)) : OpV P (.binOp .andNot t x y t') ty l w (.int k (bits .andNot k p q)) := O.bin hx hy (by rw [binOp_andNot, intBits_andNot]; rfl)
/-- Go's '<<' at one kind. -/
def shl (k : IntKind) (p q : Int) : Int := k.wrap (p * 2 ^ (min q.toNat k.bits))
/-- Go's '>>' at one kind. -/
def shr (k : IntKind) (p q : Int) : Int := p.fdiv (2 ^ (min q.toNat k.bits))
theorem O.shl (hx : ev l x = some (.int k p)) (hy : ev l y = some (.int k' q)) (hq : ¬ q < 0) : OpV P (.binOp .shl t x y t') ty l w (.int k (shl k p q)) := O.bin hx hy (by rw [binOp_shl]; simp [Op.shift, hq, Ox.shl])
theorem O.shr (hx : ev l x = some (.int k p)) (hy : ev l y = some (.int k' q)) (hq : ¬ q < 0) : OpV P (.binOp .shr t x y t') ty l w (.int k (shr k p q)) := O.bin hx hy (by rw [binOp_shr]; simp [Op.shift, hq, Ox.shr])
theorem O.eql (hx : ev l x = some (.int k p)) (hy : ev l y = some (.int k q)) : OpV P (.binOp .eql t x y t') ty l w (.bool (p == q)) := O.bin hx hy (by rw [binOp_eql]; rfl)
theorem O.neq (hx : ev l x = some (.int k p)) (hy : ev l y = some (.int k q)) : OpV P (.binOp .neq t x y t') ty l w (.bool (p != q)) := O.bin hx hy (by rw [binOp_neq]; rfl)
theorem O.lss (hx : ev l x = some (.int k p)) (hy : ev l y = some (.int k q)) : OpV P (.binOp .lss t x y t') ty l w (.bool (decide (p < q))) := O.bin hx hy (by rw [binOp_lss]; rfl)
theorem O.leq (hx : ev l x = some (.int k p)) (hy : ev l y = some (.int k q)) : OpV P (.binOp .leq t x y t') ty l w (.bool (decide (p ≤ q))) := O.bin hx hy (by rw [binOp_leq]; rfl)
theorem O.gtr (hx : ev l x = some (.int k p)) (hy : ev l y = some (.int k q)) : OpV P (.binOp .gtr t x y t') ty l w (.bool (decide (q < p))) := O.bin hx hy (by rw [binOp_gtr]; rfl)
theorem O.geq (hx : ev l x = some (.int k p)) (hy : ev l y = some (.int k q)) : OpV P (.binOp .geq t x y t') ty l w (.bool (decide (q ≤ p))) := O.bin hx hy (by rw [binOp_geq]; rfl)
theorem O.not {b : Bool} (hx : ev l x = some (.bool b)) : OpV P (.unOp .not t x) ty l w (.bool (!b)) := fun ρ hρ _ _ _ _ => by simp [execOp, hρ x _ hx, Op.unary]
theorem O.neg (hx : ev l x = some (.int k p)) : OpV P (.unOp .neg t x) ty l w (.int k (k.wrap (0 - p))) := fun ρ hρ _ _ _ _ => by simp [execOp, hρ x _ hx, Op.unary, Op.intArith]
def inv (k : IntKind) (p : Int) : Int := bits .xor k (if k.signed then -1 else k.max) p
theorem O.com (hx : ev l x = some (.int k p)) : OpV P (.unOp .xor t x) ty l w (.int k (inv k p)) := fun ρ hρ _ _ _ _ => by
  simp only [execOp, hρ x _ hx, Op.unary, intBits_xor]; rfl
/-- Values that '==' takes to Op.equal. -/
def other : Value → Bool
  | .int .. | .float .. | .complex .. | .string .. => false
  | _ => true
theorem binOp_eql_other {u v : Value} (hu : other u = true) : binOp .eql t u v = (do Pure.pure (.bool (← Op.equal t u v))) := by
  cases u <;> first | rfl | (cases v <;> rfl) | cases hu
theorem binOp_neq_other {u v : Value} (hu : other u = true) : binOp .neq t u v = (do Pure.pure (.bool (!(← Op.equal t u v)))) := by
  cases u <;> first | rfl | (cases v <;> rfl) | cases hu
theorem O.eq_other {u v : Value} {b : Bool} (hx : ev l x = some u) (hy : ev l y = some v) (hu : other u = true) (hg : (eqGuard .eql t x y u v).run P w = .ok () w) (h : (Op.equalIn 10000 t u v).run P w = .ok b w) : OpV P (.binOp .eql t x y t') ty l w (.bool b) := fun ρ hρ _ _ _ _ => by
  simp only [execOp, hρ x _ hx, hρ y _ hy, binOp_eql_other hu]
  simp [hg, Op.equal, Op.maxDepth, h]
theorem O.ne_other {u v : Value} {b : Bool} (hx : ev l x = some u) (hy : ev l y = some v) (hu : other u = true) (hg : (eqGuard .neq t x y u v).run P w = .ok () w) (h : (Op.equalIn 10000 t u v).run P w = .ok b w) : OpV P (.binOp .neq t x y t') ty l w (.bool (!b)) := fun ρ hρ _ _ _ _ => by
  simp only [execOp, hρ x _ hx, hρ y _ hy, binOp_neq_other hu]
  simp [hg, Op.equal, Op.maxDepth, h]
theorem O.eqlb {b c : Bool} (ht : P.underlying t = some .bool) (hx : ev l x = some (.bool b)) (hy : ev l y = some (.bool c)) : OpV P (.binOp .eql t x y t') ty l w (.bool (b == c)) :=
  O.eq_other hx hy rfl (by rw [eqGuard_at_bool]; rfl) (run_equalIn_bool' w 9999 t b c ht)
theorem O.neqb {b c : Bool} (ht : P.underlying t = some .bool) (hx : ev l x = some (.bool b)) (hy : ev l y = some (.bool c)) : OpV P (.binOp .neq t x y t') ty l w (.bool (!(b == c))) :=
  O.ne_other hx hy rfl (by rw [eqGuard_at_bool]; rfl) (run_equalIn_bool' w 9999 t b c ht)
theorem equalIn_ptr_nil {q : Option Addr} {e : TypeId} (ht : P.underlying t = some (.pointer e)) (d : Nat) : (Op.equalIn (d + 1) t (.pointer q) (.pointer none)).run P w = .ok q.isNone w := by
  cases q <;> simp [Op.equalIn, run_underlying ht]
/-- A pointer against nil. -/
theorem O.peqn {q : Option Addr} {e : TypeId} (ht : P.underlying t = some (.pointer e)) (hx : ev l x = some (.pointer q)) (hy : ev l y = some (.pointer none)) : OpV P (.binOp .eql t x y t') ty l w (.bool q.isNone) :=
  O.eq_other hx hy rfl (by rw [eqGuard_at_pointer]; rfl) (equalIn_ptr_nil ht 9999)
theorem O.pnen {q : Option Addr} {e : TypeId} (ht : P.underlying t = some (.pointer e)) (hx : ev l x = some (.pointer q)) (hy : ev l y = some (.pointer none)) : OpV P (.binOp .neq t x y t') ty l w (.bool (!q.isNone)) :=
  O.ne_other hx hy rfl (by rw [eqGuard_at_pointer]; rfl) (equalIn_ptr_nil ht 9999)
theorem O.streq {a b : ByteArray} (hx : ev l x = some (.string a)) (hy : ev l y = some (.string b)) : OpV P (.binOp .eql t x y t') ty l w (.bool (a.toList == b.toList)) := fun ρ hρ _ _ _ _ => by
  simp only [execOp, hρ x _ hx, hρ y _ hy, eqGuard_at_string]
  simp [binOp, Op.stringOp]
theorem O.strne {a b : ByteArray} (hx : ev l x = some (.string a)) (hy : ev l y = some (.string b)) : OpV P (.binOp .neq t x y t') ty l w (.bool (!(a.toList == b.toList))) := fun ρ hρ _ _ _ _ => by
  simp only [execOp, hρ x _ hx, hρ y _ hy, eqGuard_at_string]
  simp [binOp, Op.stringOp]
theorem O.conv (hs : (P.underlying t).isSome = true) (ht : P.underlying t' = some (.int k')) (hx : ev l x = some (.int k p)) : OpV P (.convert t t' x) ty l w (.int k' (k'.wrap p)) := fun ρ hρ _ _ _ _ => by
  obtain ⟨ds, hds⟩ := Option.isSome_iff_exists.1 hs
  simp only [execOp, hρ x _ hx, convert, Sem.run_bind, run_underlying hds, run_underlying ht, Result.andThen_ok]
  cases ds <;> simp [Conv.intToInt]
theorem O.pickt {c : Operand} {u : Value} (hc : ev l c = some (.bool true)) (hx : ev l x = some u) : OpV P (.pick c x y) ty l w u := fun ρ hρ _ _ _ _ => by simp [execOp, hρ c _ hc, hρ x _ hx, asBool]
theorem O.pickf {c : Operand} {u : Value} (hc : ev l c = some (.bool false)) (hy : ev l y = some u) : OpV P (.pick c x y) ty l w u := fun ρ hρ _ _ _ _ => by simp [execOp, hρ c _ hc, hρ y _ hy, asBool]
theorem O.nilp {ad : Addr} (hx : ev l x = some (.pointer (some ad))) : OpV P (.nilCheck x) ty l w (.pointer (some ad)) := fun ρ hρ _ _ _ _ => by simp [execOp, hρ x _ hx]
theorem O.nilf {f : FuncId} {a b : Array Value} (hx : ev l x = some (.func (.func f) a b)) : OpV P (.nilCheck x) ty l w (.func (.func f) a b) := fun ρ hρ _ _ _ _ => by simp [execOp, hρ x _ hx]
theorem O.ext {vs : Array Value} {i : Nat} {u : Value} (hx : ev l x = some (.tuple vs)) (hi : vs[i]? = some u) : OpV P (.extract x i) ty l w u := fun ρ hρ _ _ _ _ => by
  simp [execOp, hρ x _ hx, Instr.extract, hi]
end
end Go.Ox
