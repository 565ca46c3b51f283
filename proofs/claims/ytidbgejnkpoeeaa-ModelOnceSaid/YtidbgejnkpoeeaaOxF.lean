/- A plain library: what the printed walks name. No program is named here. -/
import Derived.Laws.Externs
import Derived.Test.YtidbgejnkpoeeaaOxE
set_option linter.unusedVariables false
namespace Go.Ox
open Go Go.RowKit

abbrev eI (k : IntKind) : Int → List Value := fun n => [.int k n]
abbrev eB : Bool → List Value := fun b => [.bool b]
abbrev eS : ByteArray → List Value := fun s => [.string s]
/-- How often a loop's plain function may go round. -/
def fuel0 : Nat := 1099511627776
theorem ne_true {b : Bool} (h : b = false) : ¬ b = true := by rw [h]; exact Bool.false_ne_true
theorem none_some {α : Type} {r : α} (h : (none : Option α) = some r) : False := by cases h
theorem obind {α β : Type} {o : Option α} {f : α → Option β} {r : β} (h : o.bind f = some r) : ∃ x, o = some x ∧ f x = some r := by
  cases o with
  | none => cases h
  | some x => exact ⟨x, rfl, h⟩
/-- The same, without a case split over a great goal. -/
theorem obindE {α β : Type} {o : Option α} {f : α → Option β} {r : β} {G : Prop} (h : o.bind f = some r) (k : ∀ x, o = some x → f x = some r → G) : G := by
  obtain ⟨x, h1, h2⟩ := obind h
  exact k x h1 h2
theorem cut_some {α : Type} {c : Bool} {x : Option α} {r : α} (h : (if c = true then x else none) = some r) : c = true ∧ x = some r := by
  cases c with
  | false => simp at h
  | true => exact ⟨rfl, by simpa using h⟩
theorem cut_someE {α : Type} {c : Bool} {x : Option α} {r : α} {G : Prop} (h : (if c = true then x else none) = some r) (k : c = true → x = some r → G) : G := k (cut_some h).1 (cut_some h).2
theorem One.all {cs : List Value} (h : cs.all Value.oneCell' = true) : One cs := fun u hu => List.all_eq_true.1 h u hu
def gmax (a b : Int) : Int := if b > a then b else a
def gmin (a b : Int) : Int := if b < a then b else a

section
variable {F : Fence} {P : Program} {ops : Array Oper} {Q : Exit → Act → World → Prop} {rest : List Oper} {n : Fr} {d : Nat} {l l' : List (Nat × Value)} {w w0 w' : World} {L : List Ob} {S : List (Option Nat)}
variable {o : Op} {ty : TypeId} {pos : String} {after : Array Edge} {v : Value}
variable {x y : Operand} {k k' : IntKind} {p q : Int} {t t' e : TypeId} {A A2 : Option Addr} {s c c2 b m n1 : Nat}
variable {α : Type} {enc : α → List Value} {i j g : Nat} {ld mv pu : List Nat} {X : List (Option Nat)} {r : Ordr}

theorem KC.app {c : Code} {a : Act} (ha : Kn n l a) (h : KC F P c Q n l w) : c.wpIn F 0 P Q a w := h a ha
theorem KC.condT {c : Operand} {x y : Code} (hc : ev l c = some (.bool true)) (h : KC F P x Q n l w) : KC F P (.cond c x y) Q n l w := KC.cond hc (fun _ => h) (fun e => by cases e)
theorem KC.condF {c : Operand} {x y : Code} (hc : ev l c = some (.bool false)) (h : KC F P y Q n l w) : KC F P (.cond c x y) Q n l w := KC.cond hc (fun e => by cases e) (fun _ => h)
theorem KC.scope {c : Code} (h : KC F P c (Exit.noGoto Q) n l w) : KC F P (.scope c) Q n l w := fun a ha => wpIn_scope' (h a ha)
theorem KQ.sc_n (h : KQ Q .normal n l w) : KQ (Exit.noGoto Q) .normal n l w := h
theorem KQ.sc_x {id : Nat} (h : KQ Q (.exit id) n l w) : KQ (Exit.noGoto Q) (.exit id) n l w := h
theorem KQ.sc_r (h : KQ Q .ret n l w) : KQ (Exit.noGoto Q) .ret n l w := h

theorem RD.mq [WF F] (ho : ops[i]? = some ⟨some d, o, ty, pos, after, none⟩) (hm : mv.contains i = true) (h : OpV P o ty l w v) (hd : Nat.blt d n.n = true) (hk : RD F P ops Q ld mv pu X r n ((d, v) :: l) w) : RD F P ops Q ld mv pu X (.cons i r) n l w :=
  RD.mval ho hm hd h (fun _ => Chg.refl) hk
theorem RD.gmq [WF F] {bb : Bool} (ho : ops[i]? = some ⟨some d, o, ty, pos, after, some (j, bb)⟩) (hm : mv.contains i = true) (hy : yl ops l j = some bb) (hj : ylt ops j n = true) (h : OpV P o ty l w v) (hd : Nat.blt d n.n = true) (hk : RD F P ops Q ld mv pu X r n ((d, v) :: l) w) : RD F P ops Q ld mv pu X (.cons i r) n l w :=
  RD.gmval ho hm hy hj hd h (fun _ => Chg.refl) hk
theorem RD.meff [WF F] {R : Value → World → Prop} (ho : ops[i]? = some ⟨some d, o, ty, pos, after, none⟩) (hm : mv.contains i = true) (h : Eff P o ty l w R) (hd : Nat.blt d n.n = true) (hk : ∀ v w', R v w' → (ld.contains i = false → Chg X w w') ∧ RD F P ops Q ld mv pu X r n ((d, v) :: l) w') : RD F P ops Q ld mv pu X (.cons i r) n l w := by
  obtain ⟨v, w', h1, hR⟩ := h
  exact RD.mval ho hm hd h1 (hk v w' hR).1 (hk v w' hR).2
theorem RD.gmeff [WF F] {R : Value → World → Prop} {bb : Bool} (ho : ops[i]? = some ⟨some d, o, ty, pos, after, some (j, bb)⟩) (hm : mv.contains i = true) (hy : yl ops l j = some bb) (hj : ylt ops j n = true) (h : Eff P o ty l w R) (hd : Nat.blt d n.n = true) (hk : ∀ v w', R v w' → (ld.contains i = false → Chg X w w') ∧ RD F P ops Q ld mv pu X r n ((d, v) :: l) w') : RD F P ops Q ld mv pu X (.cons i r) n l w := by
  obtain ⟨v, w', h1, hR⟩ := h
  exact RD.gmval ho hm hy hj hd h1 (hk v w' hR).1 (hk v w' hR).2
theorem RD.meffs [WF F] {R : World → Prop} (ho : ops[i]? = some ⟨none, o, ty, pos, after, none⟩) (hm : mv.contains i = true) (hl : ld.contains i = true) (h : EffS P o ty l w R) (hk : ∀ w', R w' → RD F P ops Q ld mv pu X r n l w') : RD F P ops Q ld mv pu X (.cons i r) n l w := by
  obtain ⟨w', h1, hR⟩ := h
  exact RD.mst ho hm hl h1 (hk w' hR)
theorem RL.gcall0 [WF F] {f : FuncId} {fn : Func} {vs : List Value} {args : List Operand} {ats : Array TypeId} {R : Value → World → Prop} {j : Nat} {b : Bool} (hy : yl ops l j = some b) (hj : ylt ops j n = true)
    (hf : P.funcs[f]? = some fn) (hb : (!(fn.name == "runtime.NumGoroutine") && !fn.body.isNone) = true) (hv : evs l args = some vs)
    (h : CallsR P f vs w R) (hk : ∀ v w', R v w' → RL F P ops Q rest n l w') : RL F P ops Q (⟨none, .call ⟨.value (.func f), args.toArray, ats⟩, ty, pos, after, some (j, b)⟩ :: rest) n l w :=
  fun a ha => wpListIn_step fun K hK => by
    have hw : Region.wanted ⟨none, .call ⟨.value (.func f), args.toArray, ats⟩, ty, pos, after, some (j, b)⟩ (yielded ops a.tmps) = true := by simp [Region.wanted, yl_yielded ha hy (ylt_spec hj)]
    rw [if_pos hw]
    exact wpIn_call (first := #[]) (captured := #[]) rfl hf hb (by simp [ha.evs hv]) h fun v w' hr => hK _ _ (hk v w' hr _ ha)

theorem RVs.nil : RVs P l w [] [] := trivial
theorem RVs.cons {rr : ResultVar} {rs : List ResultVar} {vs : List Value} (h : RV P l w rr v) (hr : RVs P l w rs vs) : RVs P l w (rr :: rs) (v :: vs) := ⟨h, hr⟩

/-- A slot's slice under another name of its length. -/
theorem RL.reslot [WF F] {rest : List Oper} {t n2 n3 : Nat} (h : lk l t = some (.slice A n2 c)) (hn : n2 = n3) (hk : RL F P ops Q rest n ((t, .slice A n3 c) :: l) w) : RL F P ops Q rest n l w := by
  subst hn
  exact fun a ha => hk a (ha.less (less_cons h (fun _ _ h => h)))
theorem RD.reslot {t n2 n3 : Nat} (h : lk l t = some (.slice A n2 c)) (hn : n2 = n3) (hk : RD F P ops Q ld mv pu X r n ((t, .slice A n3 c) :: l) w) : RD F P ops Q ld mv pu X r n l w := by
  subst hn
  exact fun a ha => hk a (ha.less (less_cons h (fun _ _ h => h)))

/-! ### Addresses -/
theorem adds_eq {a : Addr} (offs : List Nat) {k : Nat} (hk : Nat.beq (offs.foldr (· + ·) 0) k = true) : offs.foldl Addr.add a = a.add k := by
  obtain rfl := Nat.eq_of_beq_eq_true hk
  induction offs generalizing a with
  | nil => exact (Addr.add_zero' a).symm
  | cons x r ih => simp only [List.foldl_cons, List.foldr_cons]; rw [ih (Nat.beq_refl _), add_add]
theorem addsR_eq {a : Addr} {m : Nat} (offs : List Nat) {k : Nat} (hk : Nat.beq (offs.foldr (· + ·) 0) k = true) : offs.foldl Addr.add (a.add m) = a.add (m + k) := by
  rw [adds_eq offs hk, add_add]
theorem Cs.adds {a : Addr} {cs : List Value} {u : Value} (offs : List Nat) (h : Cs w a cs) (hu : cs[offs.foldr (· + ·) 0]? = some u) : w.cell? (offs.foldl Addr.add a) = some u := by
  rw [adds_eq offs (k := offs.foldr (· + ·) 0) (Nat.beq_refl _)]
  exact h.at hu
theorem Cs.addsN {a : Addr} {cs cs' : List Value} (offs : List Nat) (h : Cs w a cs) (hu : (cs.drop (offs.foldr (· + ·) 0)).take cs'.length = cs') : Cs w (offs.foldl Addr.add a) cs' := by
  rw [adds_eq offs (k := offs.foldr (· + ·) 0) (Nat.beq_refl _)]
  rw [← hu]
  exact (h.sub _).take _

/-! ### More operations -/
theorem O.mkf {f : FuncId} {first captured : Array Operand} {fs cs : List Value} (h1 : evs l first.toList = some fs) (h2 : evs l captured.toList = some cs) : OpV P (.makeFunc (.func f) first captured) ty l w (.func (.func f) fs.toArray cs.toArray) := fun ρ hρ _ _ _ _ => by
  have key : ∀ (xs : List Operand) (vs : List Value), evs l xs = some vs → xs.map ρ = vs := by
    intro xs
    induction xs with
    | nil => intro vs h; simp [evs] at h; simp [h]
    | cons x r ih =>
      intro vs h
      unfold evs at h
      split at h
      · rename_i v ws h1 h2
        obtain rfl := Option.some.inj h
        simp [hρ _ _ h1, ih _ h2]
      · cases h
  have e1 : first.map ρ = fs.toArray := by rw [← key _ _ h1, ← Array.toList_map, Array.toArray_toList]
  have e2 : captured.map ρ = cs.toArray := by rw [← key _ _ h2, ← Array.toList_map, Array.toArray_toList]
  simp only [execOp, e1, e2]
  rfl
theorem O.max2 {ats : Array TypeId} (hx : ev l x = some (.int k p)) (hy : ev l y = some (.int k q)) : OpV P (.call ⟨.builtin .max, #[x, y], ats⟩) ty l w (.int k (gmax p q)) := fun ρ hρ _ _ _ _ => by
  simp only [execOp]
  simp [resolve, invoke, builtin, Builtin.max_, Builtin.max2, hρ x _ hx, hρ y _ hy, gmax, List.foldlM]
theorem O.min2 {ats : Array TypeId} (hx : ev l x = some (.int k p)) (hy : ev l y = some (.int k q)) : OpV P (.call ⟨.builtin .min, #[x, y], ats⟩) ty l w (.int k (gmin p q)) := fun ρ hρ _ _ _ _ => by
  simp only [execOp]
  simp [resolve, invoke, builtin, Builtin.min_, Builtin.min2, hρ x _ hx, hρ y _ hy, gmin, List.foldlM]
theorem eqGuard_agg {op : BinOp} {xs ys : Array Value} (ht : P.eqGuardType P.depth t = false) : (eqGuard op t x y (.agg xs) (.agg ys)).run P w = .ok () w := by
  cases op <;> first | rfl | simp [eqGuard, ht]
theorem O.steq {cs cs' : List Value} {bb : Bool} (ht : P.eqGuardType P.depth t = false) (hx : ev l x = some (.agg cs.toArray)) (hy : ev l y = some (.agg cs'.toArray)) (h : (Op.equalIn 10000 t (.agg cs.toArray) (.agg cs'.toArray)).run P w = .ok bb w) : OpV P (.binOp .eql t x y t') ty l w (.bool bb) :=
  O.eq_other hx hy rfl (eqGuard_agg ht) h
theorem O.stne {cs cs' : List Value} {bb : Bool} (ht : P.eqGuardType P.depth t = false) (hx : ev l x = some (.agg cs.toArray)) (hy : ev l y = some (.agg cs'.toArray)) (h : (Op.equalIn 10000 t (.agg cs.toArray) (.agg cs'.toArray)).run P w = .ok bb w) : OpV P (.binOp .neq t x y t') ty l w (.bool (!bb)) :=
  O.ne_other hx hy rfl (eqGuard_agg ht) h

/-! ### A stand-in of the model -/
def lo64 (p q : Int) : Int := (((p.toNat + q.toNat) % 18446744073709551616 : Nat) : Int)
def hi64 (p q : Int) : Int := (((p.toNat + q.toNat) / 18446744073709551616 : Nat) : Int)
theorem run_add64' (p q : Int) (w : World) : (add64Entry #[.int .u64 p, .int .u64 q, .int .u64 0]).run P w = .ok (.tuple #[.int .u64 (lo64 p q), .int .u64 (hi64 p q)]) w := by
  rfl
theorem O.add64 {f : FuncId} {fn : Func} {c : Operand} {ats : Array TypeId} {p q : Int} (hf : P.funcs[f]? = some fn) (hname : (fn.name == "runtime.NumGoroutine") = false) (hb : fn.body.isNone = true) (hn : Extern.findNext fn = none) (he : Extern.find fn = some add64Entry)
    (hx : ev l x = some (.int .u64 p)) (hy : ev l y = some (.int .u64 q)) (hc : ev l c = some (.int .u64 0)) : OpV P (.call ⟨.value (.func f), #[x, y, c], ats⟩) ty l w (.tuple #[.int .u64 (lo64 p q), .int .u64 (hi64 p q)]) := fun ρ hρ _ _ _ _ => by
  unfold execOp
  simp only [resolve, hρ (.func f) (.func (.func f) #[] #[]) rfl, Deferred.ofValue, Sem.run_bind, Sem.run_pure, Result.andThen_ok, invoke]
  rw [show (#[] ++ Array.map ρ #[x, y, c] ++ #[] : Array Value) = #[.int .u64 p, .int .u64 q, .int .u64 0] by simp [hρ x _ hx, hρ y _ hy, hρ c _ hc], run_callFunc_extern hf hname hb hn he, run_add64']
  rfl

/-! ### What is lent -/
/-- Objects that are lent: they stand, and lie apart. -/
structure Lent (w : World) (Ls : List Ob) : Prop where
  ok : ∀ (i : Nat) (o : Ob), Ls[i]? = some o → o.ok w
  sep : ∀ (i j : Nat) (a b : Ob) (g : Nat), Ls[i]? = some a → Ls[j]? = some b → a.has g → b.has g → i = j
theorem map_blk {Ls : List Ob} {g : Nat} (h : some g ∈ Ls.flatMap Ob.blks) : ∃ (i : Nat) (o : Ob), Ls[i]? = some o ∧ o.has g := by
  obtain ⟨o, ho, hb⟩ := List.mem_flatMap.1 h
  obtain ⟨i, hi, he⟩ := List.getElem_of_mem ho
  exact ⟨i, o, by rw [List.getElem?_eq_getElem hi, he], hb⟩
theorem Mem.lendN {Ls : List Ob} (h : Lent w Ls) : Mem w (Ls.flatMap Ob.blks) w Ls :=
  ⟨.refl, h.ok, fun i o g hi hg => .inr (List.mem_flatMap.2 ⟨o, List.mem_of_getElem? hi, hg⟩), h.sep⟩
theorem Mem.lent {Ls : List Ob} (h : Mem w0 S w L) (js : List Nat) (hj : sel L js = some Ls) (hd : js.Nodup) : Lent w Ls := ⟨(h.pick js hj hd).ok, (h.pick js hj hd).sep⟩
theorem sel_at {js : List Nat} {Ls : List Ob} (h : sel L js = some Ls) {k j : Nat} (hk : js[k]? = some j) : ∃ o, Ls[k]? = some o ∧ L[j]? = some o := by
  obtain ⟨hl, hget⟩ := sel_get h
  have hk' : k < Ls.length := by rw [← hl]; exact (List.getElem?_eq_some_iff.1 hk).1
  obtain ⟨j', h1, h2⟩ := hget k _ (List.getElem?_eq_getElem hk')
  rw [hk] at h1; cases h1
  exact ⟨_, List.getElem?_eq_getElem hk', h2⟩
/-- A callee has turned the objects that were lent to it. -/
theorem Mem.callL {Ls Lr L1 : List Ob} (h : Mem w0 S w L) (js ks : List Nat) (hj : sel L js = some Ls) (hk : sel L ks = some Lr) (hdj : ks.Nodup) (hd : (ks.all fun k => !js.contains k) = true) (h1 : Mem w (Ls.flatMap Ob.blks) w' L1) : Mem w0 S w' (Lr ++ L1) := by
  refine (h.pick ks hk hdj).calls (fun k hkS => ?_) (fun i o g hi hg hgS => ?_) h1
  · obtain ⟨i, o, hi, hb⟩ := map_blk hkS
    obtain ⟨j, _, h2⟩ := (sel_get hj).2 i o hi
    exact h.own j o k h2 hb
  · obtain ⟨i', o', hi', hb'⟩ := map_blk hgS
    obtain ⟨j', hj1, hj2⟩ := (sel_get hj).2 i' o' hi'
    obtain ⟨k', hk1, hk2⟩ := (sel_get hk).2 i o hi
    have e := h.sep _ _ _ _ g hj2 hk2 hb' hg
    subst e
    have := List.all_eq_true.1 hd j' (List.mem_of_getElem? hk1)
    simp only [Bool.not_eq_true', List.contains_eq_mem, decide_eq_false_iff_not] at this
    exact this (List.mem_of_getElem? hj1)
/-- A row that is not lent lies apart from what is. -/
theorem Mem.offR {cs : List Value} {Ls : List Ob} (h : Mem w0 S w L) (js : List Nat) (hj : sel L js = some Ls) (hi : L[i]? = some (.row A c e s n1 cs)) (hne : js.contains i = false) : Off (Ls.flatMap Ob.blks) n1 A := fun hn ad had hS => by
  subst had
  obtain ⟨i', o', hi', hb'⟩ := map_blk hS
  obtain ⟨j', hj1, hj2⟩ := (sel_get hj).2 i' o' hi'
  have hc : c ≠ 0 := by have := (h.rd hi).cap; omega
  have e := h.sep _ _ _ _ ad.block hj2 hi hb' (Ob.has_row.2 (by rw [rblk_pos hc]; rfl))
  subst e
  simp only [List.contains_eq_mem, decide_eq_false_iff_not] at hne
  exact hne (List.mem_of_getElem? hj1)
/-- So does what came in. -/
theorem Mem.offI {cs : List Value} {Ls : List Ob} (h : Mem w0 S w L) (js : List Nat) (hj : sel L js = some Ls) (hr : Rd w0 A c s n1 cs) (ho : Off S n1 A) : Off (Ls.flatMap Ob.blks) n1 A := fun hn ad had hS => by
  obtain ⟨ad', h1, h2, _⟩ := hr.adr hn
  rw [h1] at had
  injection had with had
  subst had
  obtain ⟨i', o', hi', hb'⟩ := map_blk hS
  obtain ⟨j', hj1, hj2⟩ := (sel_get hj).2 i' o' hi'
  rcases h.own _ _ _ hj2 hb' with h3 | h3
  · omega
  · exact ho hn _ h1 h3
/-! ### Rows of rows that are read -/
theorem Rd.nilr : Rd w none 0 s 0 [] := ⟨by simp, Nat.le_refl _, Nat.zero_le _, fun h => absurd h (by omega), fun _ => rfl⟩
/-- A slice of slices, apart from the blocks of S. -/
def Rds (S : List (Option Nat)) (w : World) (A : Option Addr) (c : Nat) (enc : α → List Value) (s : Nat) (xss : List (List α)) : Prop :=
  ∃ vs : List Value, vs.length = xss.length ∧ Rd w A c 1 xss.length vs ∧ Off S xss.length A ∧
    ∀ (i : Nat) (v : Value) (xs : List α), vs[i]? = some v → xss[i]? = some xs → ∃ A' c', v = .slice A' xs.length c' ∧ Rd w A' c' s xs.length (xs.flatMap enc) ∧ Off S xs.length A'
theorem Rds.chg {xss : List (List α)} (h : Rds S w A c enc s xss) (hf : Chg S w w') : Rds S w' A c enc s xss := by
  obtain ⟨vs, h1, h2, h3, h4⟩ := h
  exact ⟨vs, h1, h2.chg hf h3, h3, fun i v xs hi hx => let ⟨A', c', h5, h6, h7⟩ := h4 i v xs hi hx; ⟨A', c', h5, h6.chg hf h7, h7⟩⟩
theorem Rds.fut {xss : List (List α)} (h : Rds [] w A c enc s xss) (hf : Fut w w') : Rds [] w' A c enc s xss := h.chg hf
theorem Rds.nilr : Rds S w none 0 enc s ([] : List (List α)) := ⟨[], rfl, Rd.nilr, Off.zero, fun i v xs h => by simp at h⟩
theorem Rds.at {xss : List (List α)} {xs : List α} (h : Rds S w A c enc s xss) (hx : gidx xss p = some xs) : ∃ A' c', At w A 1 xss.length p [.slice A' xs.length c'] ∧ Rd w A' c' s xs.length (xs.flatMap enc) ∧ Off S xs.length A' ∧ Off S xss.length A := by
  obtain ⟨vs, h1, h2, h3', h3⟩ := h
  obtain ⟨h0, hl, hg⟩ := gidx_some hx
  have hv : vs[p.toNat]? = some (vs[p.toNat]'(by omega)) := List.getElem?_eq_getElem (by omega)
  obtain ⟨A', c', h4, h5, h6⟩ := h3 _ _ _ hv hg
  refine ⟨A', c', ⟨h2.isSome (by omega), h0, hl, fun j u hj => ?_⟩, h5, h6, h3'⟩
  have : j = 0 := by
    have := (List.getElem?_eq_some_iff.1 hj).1
    simp at this; omega
  subst this
  simp at hj
  subst hj
  rw [add_add]
  exact h2.cs _ _ (by simp [hv, h4])
theorem Mem.offs {xss : List (List α)} {Ls : List Ob} (h : Mem w0 S w L) (js : List Nat) (hj : sel L js = some Ls) (hr : Rds S w0 A c enc s xss) : Rds (Ls.flatMap Ob.blks) w A c enc s xss := by
  obtain ⟨vs, h1, h2, h3, h4⟩ := hr
  exact ⟨vs, h1, h2.chg h.chg h3, h.offI js hj h2 h3, fun i v xs hi hx => let ⟨A', c', h5, h6, h7⟩ := h4 i v xs hi hx; ⟨A', c', h5, h6.chg h.chg h7, h.offI js hj h6 h7⟩⟩
/-- The slices of a literal. -/
def Rdl (w : World) (enc : α → List Value) (s : Nat) (xss : List (List α)) (vs : List Value) : Prop :=
  vs.length = xss.length ∧ ∀ (i : Nat) (v : Value) (xs : List α), vs[i]? = some v → xss[i]? = some xs → ∃ A' c', v = .slice A' xs.length c' ∧ Rd w A' c' s xs.length (xs.flatMap enc)
theorem Rdl.nil : Rdl w enc s [] [] := ⟨rfl, fun i v xs h => by simp at h⟩
theorem Rdl.cons {xs : List α} {xss : List (List α)} {vs : List Value} (h : Rd w A c s xs.length (xs.flatMap enc)) (hr : Rdl w enc s xss vs) : Rdl w enc s (xs :: xss) (.slice A xs.length c :: vs) :=
  ⟨by simp [hr.1], fun i v ys hi hx => by
    cases i with
    | zero => simp at hi hx; subst hi; subst hx; exact ⟨A, c, rfl, h⟩
    | succ i => exact hr.2 i v ys (by simpa using hi) (by simpa using hx)⟩
theorem E.bslR {xss : List (List α)} {us : List Value} {parts : Array (Nat × Operand)} {vs : List (Nat × Value)} {z : List Value} {len : Nat} (hr : Rdl w enc s xss us) (hM : Mem w0 S w L) (ht : SliceT P t e 1 b) (hz : ZeroT P e z)
    (hv : evps l parts.toList = some vs) (hl : Nat.ble (len * 1) 16777216 = true) (hxs : us.length = len)
    (hf : fillL (fun i => some (i * 1, 1)) ((List.range (len * 1)).map fun j => z.getD (j % z.length) default) vs = some us) (hpos : Nat.ble 1 (len * 1) = true) :
    Eff P (.buildSlice t len parts) ty l w (fun v w' => ∃ A', v = .slice A' xss.length len ∧ Mem w0 S w' L ∧ Chg [] w w' ∧ Rds [] w' A' len enc s xss) := by
  have e1 : us.flatMap (fun u => [u]) = us := by rw [flat_one]; simp
  obtain ⟨v, w', ho, A', h1, h2, h3⟩ := E.bsl (ty := ty) (enc := fun u => [u]) (xs := us) hM ht hz hv hl rfl (fun _ => rfl) hxs (by rw [e1]; exact hf) hpos
  rw [e1] at h2
  have hrd : Rd w' A' len 1 us.length us := h2.rd (i := L.length) (e := e) (by simp)
  rw [hr.1] at hrd
  rw [hr.1] at h1
  refine ⟨v, w', ho, A', h1, ?_, h3, us, hr.1, hrd, Off.nil, fun i v xs hi hx => let ⟨A', c', h4, h5⟩ := hr.2 i v xs hi hx; ⟨A', c', h4, h5.fut h3, Off.nil⟩⟩
  exact ⟨h2.chg, fun i o hi => h2.ok i o (by rw [List.getElem?_append_left (List.getElem?_eq_some_iff.1 hi).1]; exact hi), fun i o k hi hk => h2.own i o k (by rw [List.getElem?_append_left (List.getElem?_eq_some_iff.1 hi).1]; exact hi) hk,
    fun i j a b k hi hj ha hb => h2.sep i j a b k (by rw [List.getElem?_append_left (List.getElem?_eq_some_iff.1 hi).1]; exact hi) (by rw [List.getElem?_append_left (List.getElem?_eq_some_iff.1 hj).1]; exact hj) ha hb⟩
end
end Go.Ox
