/- A plain library: maps whose keys are structs: made, asked, written, copied, emptied, ranged over. No program is named here. -/
import Derived.Test.YtidbgejnkpoeeaaOxN
import Derived.Test.YtidbgejnkpoeeaaOxW
import Derived.Maps.RangeRun
set_option linter.unusedVariables false
namespace Go.Ox
open Go Go.RowKit
/-- Any of the values that may come serves: what comes then hangs on none of them. -/
noncomputable def demon {α β : Type} (p : α → Prop) (f : α → Option β) : Option β :=
  open Classical in if h : ∃ r, ∀ a, p a → f a = some r then some (Classical.choose h) else none
theorem demon_some {α β : Type} {p : α → Prop} {f : α → Option β} {r : β} (h : demon p f = some r) : ∀ a, p a → f a = some r := by
  unfold demon at h
  split at h
  · rename_i hh
    have := Option.some.inj h
    intro a ha
    rw [← this]
    exact Classical.choose_spec hh a ha
  · cases h
/-- Just this value. -/
def theOne {α β : Type} (a : α) (f : α → Option β) : Option β := f a
theorem theOne_some {α β : Type} {a : α} {f : α → Option β} {r : β} (h : theOne a f = some r) : ∀ x, x = a → f x = some r := fun x hx => by rw [hx]; exact h
/-- All that a closed proposition tells must be so. -/
noncomputable def guardP {β : Type} (p : Prop) (f : Option β) : Option β := open Classical in if p then f else none
theorem guardP_some {β : Type} {p : Prop} {f : Option β} {r : β} (h : guardP p f = some r) : p ∧ f = some r := by
  unfold guardP at h
  split at h
  · rename_i hp; exact ⟨hp, h⟩
  · cases h
/-- What is known of a map's type. -/
structure MapT (P : Program) (t kt et : TypeId) {K V : Type} (ek : K → List Value) (ew : V → List Value) (q : K → K → Bool) : Prop where
  und : P.underlying t = some (.map kt et)
  kind : ∃ fs, P.underlying kt = some (.struct fs)
  chk : ∀ (e : Bool) k w, (Instr.checkKey e 10000 kt (.agg (ek k).toArray)).run P w = .ok () w
  eq : ∀ x y w, (Op.equalIn 10000 kt (.agg (ek x).toArray) (.agg (ek y).toArray)).run P w = .ok (q x y) w
  one : ∀ x y, q x y = true → ek x = ek y
  refl : ∀ x, q x x = true
  bits : ∀ x, Instr.sameBits 10000 (.agg (ek x).toArray) (.agg (ek x).toArray) = true
/-- An entry. -/
def mentry {K V : Type} (ek : K → List Value) (ew : V → List Value) (a : K × V × Nat) : MapEntry := ⟨.agg (ek a.1).toArray, .agg (ew a.2.1).toArray, a.2.2⟩
/-- The entries of a map that holds m. -/
structure MFit {K V : Type} (q : K → K → Bool) (L : List (K × V × Nat)) (ck : Nat) (m : K → Option V) : Prop where
  lt : ∀ a ∈ L, a.2.2 < ck
  nd : (L.map fun a => a.2.2).Nodup
  df : L.Pairwise fun a b => q a.1 b.1 = false
  get : ∀ k, m k = (L.find? fun a => q k a.1).map fun a => a.2.1
/-- The map m lies there. -/
def MapR {K V : Type} (ek : K → List Value) (ew : V → List Value) (q : K → K → Bool) (g : Nat) (m : K → Option V) (w : World) : Prop :=
  ∃ L ck, w.heap[g]? = some (.map (L.map (mentry ek ew)).toArray ck) ∧ MFit q L ck m
/-- The map with one entry more, or another one. -/
def mput {K V : Type} (q : K → K → Bool) (m : K → Option V) (k : K) (v : V) : K → Option V := fun x => if q x k = true then some v else m x
def mnone {K V : Type} : K → Option V := fun _ => none
section
variable {F : Fence} {P : Program} {ops : Array Oper} {Q : Exit → Act → World → Prop} {rest : List Oper} {n n0 : Fr} {d : Nat} {l l1 l' : List (Nat × Value)} {w w0 w' : World} {L : List Ob} {S : List (Option Nat)}
variable {ty t kt et : TypeId} {pos : String} {after : Array Edge} {v : Value} {i j g : Nat} {x y z : Operand}
variable {K V : Type} {ek : K → List Value} {ew : V → List Value} {q : K → K → Bool} {m : K → Option V} {k : K} {u : V} {E : List (K × V × Nat)} {ck : Nat}
theorem MapT.iff (T : MapT P t kt et ek ew q) (a b : K) : q a b = true ↔ ek a = ek b := by
  refine ⟨T.one a b, fun h => ?_⟩
  have h1 := T.eq a b default
  have h2 := T.eq a a default
  rw [← h] at h1
  rw [h1] at h2
  injection h2 with h3
  rw [h3]; exact T.refl a
theorem MapT.symm (T : MapT P t kt et ek ew q) {a b : K} (h : q a b = true) : q b a = true := (T.iff b a).2 ((T.iff a b).1 h).symm
theorem MapT.trans (T : MapT P t kt et ek ew q) {a b c : K} (h : q a b = true) (h2 : q b c = true) : q a c = true := (T.iff a c).2 (((T.iff a b).1 h).trans ((T.iff b c).1 h2))
theorem MapT.left (T : MapT P t kt et ek ew q) {a b : K} (h : q a b = true) (c : K) : q a c = q b c := by
  cases h1 : q b c with
  | true => exact T.trans h h1
  | false =>
    cases h2 : q a c with
    | false => rfl
    | true => rw [T.trans (T.symm h) h2] at h1; cases h1
theorem MapT.right (T : MapT P t kt et ek ew q) {a b : K} (h : q a b = true) (c : K) : q c a = q c b := by
  cases h1 : q c b with
  | true => exact T.trans h1 (T.symm h)
  | false =>
    cases h2 : q c a with
    | false => rfl
    | true => rw [T.trans h2 h] at h1; cases h1
theorem mput_congr (T : MapT P t kt et ek ew q) {k' : K} (h : q k k' = true) : mput q m k u = mput q m k' u := by
  funext x; unfold mput; rw [T.right h]
/-- The first entry of a key. -/
def fidx (q : K → K → Bool) (ew : V → List Value) (k : K) : List (K × V × Nat) → Nat → Option (Nat × Value)
  | [], _ => none
  | a :: r, i => if q k a.1 = true then some (i, .agg (ew a.2.1).toArray) else fidx q ew k r (i + 1)
theorem run_asking (T : MapT P t kt et ek ew q) (k : K) : ∀ (E : List (K × V × Nat)) (i : Nat), (Instr.findAsking kt (.agg (ek k).toArray) (E.map (mentry ek ew)) i).run P w = .ok (fidx q ew k E i) w
  | [], i => by simp [Instr.findAsking, fidx]
  | a :: r, i => by
    have h1 : (Op.equal kt (.agg (ek k).toArray) (mentry ek ew a).key).run P w = .ok (q k a.1) w := T.eq k a.1 w
    rw [List.map_cons]
    unfold Instr.findAsking fidx
    simp only [Sem.run_bind, h1, Result.andThen_ok]
    cases hq : q k a.1 with
    | true => simp [mentry]
    | false => simpa using run_asking T k r (i + 1)
theorem run_finds (T : MapT P t kt et ek ew q) (k : K) (E : List (K × V × Nat)) : (Instr.findKey kt (.agg (ek k).toArray) (E.map (mentry ek ew))).run P w = .ok (fidx q ew k E 0) w := by
  obtain ⟨fs, hk⟩ := T.kind
  unfold Instr.findKey
  simp only [Sem.run_bind, run_underlying hk, Result.andThen_ok]
  cases E with
  | nil => simp [Instr.findNow, fidx]
  | cons a r =>
    have h1 : Instr.findNow (.struct fs) (.agg (ek k).toArray) (List.map (mentry ek ew) (a :: r)) 0 = none := by simp [Instr.findNow, Instr.sameNow]
    simp only [h1]
    exact run_asking T k (a :: r) 0
theorem fidx_none {k : K} : ∀ {E : List (K × V × Nat)} {i : Nat}, fidx q ew k E i = none → ∀ a ∈ E, q k a.1 = false
  | [], _, _ => fun a ha => by cases ha
  | b :: r, i, h => fun a ha => by
    unfold fidx at h
    split at h
    · cases h
    · rename_i hb
      rcases List.mem_cons.1 ha with rfl | ha
      · simpa using hb
      · exact fidx_none h a ha
theorem fidx_some {k : K} {j : Nat} {v : Value} : ∀ {E : List (K × V × Nat)} {i : Nat}, fidx q ew k E i = some (j, v) → ∃ pre a post, E = pre ++ a :: post ∧ j = i + pre.length ∧ v = .agg (ew a.2.1).toArray ∧ q k a.1 = true ∧ ∀ b ∈ pre, q k b.1 = false
  | [], _, h => by cases h
  | b :: r, i, h => by
    unfold fidx at h
    split at h
    · rename_i hb
      have := Option.some.inj h
      injection this with h1 h2
      exact ⟨[], b, r, rfl, by simp [h1], h2.symm, hb, fun b hb => by cases hb⟩
    · rename_i hb
      obtain ⟨pre, a, post, rfl, h1, h2, h3, h4⟩ := fidx_some h
      refine ⟨b :: pre, a, post, rfl, by simp; omega, h2, h3, fun c hc => ?_⟩
      rcases List.mem_cons.1 hc with rfl | hc
      · simpa using hb
      · exact h4 c hc
theorem find_none {k : K} {E : List (K × V × Nat)} (h : ∀ a ∈ E, q k a.1 = false) : E.find? (fun a => q k a.1) = none := by
  rw [List.find?_eq_none]
  intro a ha
  simp [h a ha]
theorem find_pre {k : K} {pre post : List (K × V × Nat)} {a : K × V × Nat} (h : ∀ b ∈ pre, q k b.1 = false) (ha : q k a.1 = true) : (pre ++ a :: post).find? (fun a => q k a.1) = some a := by
  rw [List.find?_append, find_none h]
  simp [ha]
theorem MFit.no (E0 : MFit q E ck m) (h : fidx q ew k E 0 = none) : m k = none := by rw [E0.get, find_none (fidx_none h)]; rfl
theorem MFit.yes {j : Nat} {v : Value} (E0 : MFit q E ck m) (h : fidx q ew k E 0 = some (j, v)) : ∃ u, m k = some u ∧ v = .agg (ew u).toArray := by
  obtain ⟨pre, a, post, rfl, _, h2, h3, h4⟩ := fidx_some h
  exact ⟨a.2.1, by rw [E0.get, find_pre h4 h3]; rfl, h2⟩
theorem MFit.emp : MFit q ([] : List (K × V × Nat)) ck (mnone : K → Option V) := ⟨fun a h => (by cases h), by simp, List.Pairwise.nil, fun k => rfl⟩
theorem MFit.push (T : MapT P t kt et ek ew q) (h : MFit q E ck m) (hk : ∀ a ∈ E, q k a.1 = false) : MFit q (E ++ [(k, u, ck)]) (ck + 1) (mput q m k u) := by
  refine ⟨fun a ha => ?_, ?_, ?_, fun x => ?_⟩
  · rcases List.mem_append.1 ha with ha | ha
    · exact Nat.lt_succ_of_lt (h.lt a ha)
    · simp at ha; subst ha; exact Nat.lt_succ_self _
  · rw [List.map_append, List.nodup_append]
    refine ⟨h.nd, by simp, ?_⟩
    intro a ha b hb
    simp at hb
    subst hb
    obtain ⟨c, hc, rfl⟩ := List.mem_map.1 ha
    exact Nat.ne_of_lt (h.lt c hc)
  · rw [List.pairwise_append]
    refine ⟨h.df, List.pairwise_singleton _ _, fun a ha b hb => ?_⟩
    simp at hb
    subst hb
    cases hq : q a.1 k with
    | false => rfl
    | true => have := hk a ha; rw [T.symm hq] at this; cases this
  · unfold mput
    rw [List.find?_append]
    cases hq : q x k with
    | true =>
      rw [find_none (fun a ha => by rw [T.left hq]; exact hk a ha)]
      simp [hq]
    | false => rw [h.get]; simp [hq]
theorem MFit.upd (T : MapT P t kt et ek ew q) {pre post : List (K × V × Nat)} {a : K × V × Nat} (h : MFit q (pre ++ a :: post) ck m) (ha : q k a.1 = true) (hp : ∀ b ∈ pre, q k b.1 = false) : MFit q (pre ++ (k, u, a.2.2) :: post) ck (mput q m k u) := by
  have hd := h.df
  rw [List.pairwise_append, List.pairwise_cons] at hd
  refine ⟨fun b hb => ?_, ?_, ?_, fun x => ?_⟩
  · rcases List.mem_append.1 hb with hb | hb
    · exact h.lt b (by simp [hb])
    · rcases List.mem_cons.1 hb with rfl | hb
      · exact h.lt a (by simp)
      · exact h.lt b (by simp [hb])
  · have := h.nd
    simp only [List.map_append, List.map_cons] at this ⊢
    exact this
  · rw [List.pairwise_append, List.pairwise_cons]
    refine ⟨hd.1, ⟨fun b hb => by rw [T.left ha]; exact hd.2.1.1 b hb, hd.2.1.2⟩, fun b hb c hc => ?_⟩
    rcases List.mem_cons.1 hc with rfl | hc
    · show q b.1 k = false
      rw [T.right ha]; exact hd.2.2 b hb a (by simp)
    · exact hd.2.2 b hb c (by simp [hc])
  · unfold mput
    rw [h.get]
    cases hq : q x k with
    | true =>
      have hx : pre.find? (fun a => q x a.1) = none := find_none (fun b hb => by rw [T.left hq]; exact hp b hb)
      simp [List.find?_append, hx, hq]
    | false =>
      have h1 : q x a.1 = false := by rw [← T.right ha]; exact hq
      simp [List.find?_append, hq, h1]
theorem Mem.mapR (hM : Mem w0 S w L) (hi : L[i]? = some (.res [g] (MapR ek ew q g m))) : MapR ek ew q g m w := Ob.res_φ (hM.ok i _ hi)
theorem MapR.fut (h : MapR ek ew q g m w) (hf : Chg [] w w') : MapR ek ew q g m w' := by
  obtain ⟨E, ck, h1, h2⟩ := h
  have hlt : g < w.heap.size := (Array.getElem?_eq_some_iff.1 h1).1
  exact ⟨E, ck, by rw [hf.block g hlt (by simp)]; exact h1, h2⟩
/-- The kit's world behind a write, as a set block. -/
theorem E.mkmapR (hM : Mem w0 S w L) : Eff P (.makeMap t none) ty l w (fun v w' => ∃ g, v = .map (some g) ∧ Mem w0 S w' (L ++ [.res [g] (MapR ek ew q g mnone)]) ∧ Chg [] w w') := by
  have hb : Below w.heap.size w (w.alloc (.map #[] 0)) := (Below.refl _ w).alloc (Nat.le_refl _) _
  refine ⟨.map (some w.heap.size), w.alloc (.map #[] 0), fun ρ hρ _ _ _ _ => ?_, w.heap.size, rfl, hM.push (o := .res [w.heap.size] (MapR ek ew q w.heap.size mnone)) hb ⟨fun g hg => by simp at hg; subst hg; simp, fun w1 h1 => ⟨[], 0, by
    rw [h1 _ (by simp)]; exact World.alloc_heap_new w _, MFit.emp⟩⟩ (fun g hg => by have := Ob.has_res.1 hg; simp at this; omega), .of_below hb⟩
  simp [execOp, Instr.makeMap, Result.andThen]
/-- m[k]. -/
theorem O.lkR {ks vs : List Value} {zv : V} (T : MapT P t kt et ek ew q) (hb : MapR ek ew q g m w) (he : (P.info? et).map (fun i => i.zero) = some (some (.agg (ew zv).toArray))) (hks : ks = ek k) (hvs : ew ((m k).getD zv) = vs)
    (hx : ev l x = some (.map (some g))) (hy : ev l y = some (.agg ks.toArray)) : OpV P (.lookup t x y false) ty l w (.agg vs.toArray) := fun ρ hρ _ _ _ _ => by
  subst hks; subst hvs
  obtain ⟨E, ck, h1, h2⟩ := hb
  simp only [execOp, hρ x _ hx, hρ y _ hy]
  obtain ⟨i, hi, h3⟩ := Option.map_eq_some_iff.1 he
  have hzr : (zeroValue et).run P w = .ok (.agg (ew zv).toArray) w := by simp [zeroValue, typeInfo, hi, h3]
  have hc : ∀ e, (Instr.checkKey e 10000 kt (.agg (ek k).toArray)).run P w = .ok () w := fun e => T.chk e k w
  have hf : (Instr.findKey kt (.agg (ek k).toArray) (E.map (mentry ek ew))).run P w = .ok (fidx q ew k E 0) w := run_finds T k E
  cases hq : fidx q ew k E 0 with
  | none =>
    rw [hq] at hf
    simp [Instr.lookup, run_underlying T.und, MapKept.run_getObj_map h1, hc, hf, Result.andThen, hzr, h2.no hq]
  | some p =>
    obtain ⟨j, v⟩ := p
    rw [hq] at hf
    obtain ⟨u, hu, rfl⟩ := h2.yes hq
    simp [Instr.lookup, run_underlying T.und, MapKept.run_getObj_map h1, hc, hf, Result.andThen, hu]
theorem modify_split {α : Type} (f : α → α) (pre : List α) (a : α) (post : List α) : (pre ++ a :: post).toArray.modify pre.length f = (pre ++ f a :: post).toArray := by
  apply Array.ext'
  have h : ∀ pre : List α, (pre ++ a :: post).modify pre.length f = pre ++ f a :: post := fun pre => by
    induction pre with
    | nil => rfl
    | cons b r ih => simp [ih]
  simp [h]
/-- m[k] = u. -/
theorem E.mup {ks us : List Value} (T : MapT P t kt et ek ew q) (hM : Mem w0 S w L) (hi : L[j]? = some (.res [g] (MapR ek ew q g m))) (hks : ks = ek k) (hus : us = ew u)
    (hx : ev l x = some (.map (some g))) (hy : ev l y = some (.agg ks.toArray)) (hz : ev l z = some (.agg us.toArray)) :
    EffS P (.mapUpdate t x y z) ty l w (fun w' => Mem w0 S w' (L.set j (.res [g] (MapR ek ew q g (mput q m k u))))) := by
  subst hks; subst hus
  obtain ⟨E, ck, h1, h2⟩ := hM.mapR hi
  have hc : ∀ e, (Instr.checkKey e 10000 kt (.agg (ek k).toArray)).run P w = .ok () w := fun e => T.chk e k w
  have hf : (Instr.findKey kt (.agg (ek k).toArray) (E.map (mentry ek ew))).run P w = .ok (fidx q ew k E 0) w := run_finds T k E
  cases hq : fidx q ew k E 0 with
  | none =>
    rw [hq] at hf
    refine ⟨w.putObj g (.map ((E ++ [(k, u, ck)]).map (mentry ek ew)).toArray (ck + 1)), fun ρ hρ _ _ _ _ => ?_, hM.turn (o := .map ((E ++ [(k, u, ck)]).map (mentry ek ew)).toArray (ck + 1)) hi fun w1 h => ⟨_, _, h, h2.push T (fidx_none hq)⟩⟩
    simp only [execOp, hρ x _ hx, hρ y _ hy, hρ z _ hz]
    simp [Instr.mapUpdate, run_underlying T.und, MapKept.run_getObj_map h1, hc, hf, MapKept.run_setObj_map _ h1, Result.andThen, World.putObj, mentry]
  | some p =>
    obtain ⟨i, v⟩ := p
    rw [hq] at hf
    obtain ⟨pre, a, post, rfl, hj, h3, h4, h5⟩ := fidx_some hq
    simp at hj
    subst hj
    have hkk : ek k = ek a.1 := T.one _ _ h4
    have hst : ∀ o : Nat, (Instr.keyThatStays (.agg (ek a.1).toArray) (.agg (ek k).toArray)).run P w = .ok (.agg (ek k).toArray) w := fun o => by
      unfold Instr.keyThatStays
      rw [← hkk, if_pos (T.bits k)]; rfl
    have hget : ((pre ++ a :: post).map (mentry ek ew)).toArray[pre.length]? = some (mentry ek ew a) := by simp
    refine ⟨w.putObj g (.map ((pre ++ (k, u, a.2.2) :: post).map (mentry ek ew)).toArray ck), fun ρ hρ _ _ _ _ => ?_, hM.turn (o := .map ((pre ++ (k, u, a.2.2) :: post).map (mentry ek ew)).toArray ck) hi fun w1 h => ⟨_, _, h, h2.upd T h4 h5⟩⟩
    simp only [execOp, hρ x _ hx, hρ y _ hy, hρ z _ hz]
    have hmod : ∀ f : MapEntry → MapEntry, ((pre ++ a :: post).map (mentry ek ew)).toArray.modify pre.length f = (pre.map (mentry ek ew) ++ f (mentry ek ew a) :: post.map (mentry ek ew)).toArray := fun f => by
      rw [List.map_append, List.map_cons]
      have := modify_split f (pre.map (mentry ek ew)) (mentry ek ew a) (post.map (mentry ek ew))
      rw [List.length_map] at this
      exact this
    have hke : (((pre ++ a :: post).map (mentry ek ew)).toArray[pre.length]?.map (·.key)).getD (.agg (ek k).toArray) = .agg (ek a.1).toArray := by rw [hget]; rfl
    simp only [Instr.mapUpdate, run_underlying T.und, MapKept.run_getObj_map h1, hc, hf, Sem.run_bind, Result.andThen_ok, hke, hst 0, hmod]
    simp [MapKept.run_setObj_map _ h1, World.putObj, mentry]
/-- The same map in a new block (runtime's clone). -/
theorem E.cloneR {f : FuncId} {fn : Func} {ats : Array TypeId} (hf : P.funcs[f]? = some fn) (hname : (fn.name == "runtime.NumGoroutine") = false) (hb : fn.body.isNone = true) (hn : Extern.findNext fn = none) (he : Extern.find fn = some Extern.MapsClone.clone)
    (hM : Mem w0 S w L) (hi : MapR ek ew q g m w) (hx : ev l x = some (.iface t (.map (some g)))) :
    Eff P (.call ⟨.value (.func f), #[x], ats⟩) ty l w (fun v w' => ∃ g', v = .iface t (.map (some g')) ∧ Mem w0 S w' (L ++ [.res [g'] (MapR ek ew q g' m)]) ∧ Chg [] w w') := by
  obtain ⟨E, ck, h1, h2⟩ := hi
  have hbl : Below w.heap.size w (w.alloc (.map (E.map (mentry ek ew)).toArray ck)) := (Below.refl _ w).alloc (Nat.le_refl _) _
  refine ⟨.iface t (.map (some w.heap.size)), w.alloc (.map (E.map (mentry ek ew)).toArray ck), fun ρ hρ _ _ _ _ => ?_, w.heap.size, rfl, hM.push (o := .res [w.heap.size] (MapR ek ew q w.heap.size m)) hbl ⟨fun g hg => by simp at hg; subst hg; simp, fun w1 h => ⟨E, ck, by
    rw [h _ (by simp)]; exact World.alloc_heap_new w _, h2⟩⟩ (fun g hg => by have := Ob.has_res.1 hg; simp at this; omega), .of_below hbl⟩
  unfold execOp
  simp only [resolve, hρ (.func f) (.func (.func f) #[] #[]) rfl, Deferred.ofValue, Sem.run_bind, Sem.run_pure, Result.andThen_ok, invoke]
  rw [show (#[] ++ Array.map ρ #[x] ++ #[] : Array Value) = #[.iface t (.map (some g))] by simp [hρ x _ hx], run_callFunc_extern hf hname hb hn he]
  have e : Extern.MapsClone.clone #[.iface t (.map (some g))] = (getObj g >>= fun o => match o with
      | .map entries clock => (newObj (.map entries clock) >>= fun n => pure (.iface t (.map (some n))))
      | _ => stuck "maps.clone: a map expected") := rfl
  rw [e]
  simp [MapKept.run_getObj_map h1, Result.andThen]
theorem O.mkif {u : Value} (ht : P.underlying t = some (.map kt et)) (hx : ev l x = some u) : OpV P (.makeInterface t x) ty l w (.iface t u) := fun ρ hρ _ _ _ _ => by
  simp only [execOp, hρ x _ hx]
  simp [Instr.makeInterface, run_underlying ht]
theorem O.tas {u : Value} {it : TypeId} (ht : P.underlying t = some (.map kt et)) (hx : ev l x = some (.iface t u)) : OpV P (.typeAssert x it t false) ty l w u := fun ρ hρ _ _ _ _ => by
  simp only [execOp, hρ x _ hx]
  simp [Instr.typeAssert, run_underlying ht]
theorem O.mapnn {t' : TypeId} (ht : P.underlying t = some (.map kt et)) (hg : P.eqGuardType P.depth t = false) (hx : ev l x = some (.map (some g))) (hy : ev l y = some (.map none)) : OpV P (.binOp .eql t x y t') ty l w (.bool false) := by
  refine O.eq_other hx hy rfl ?_ ?_
  · simp [eqGuard]
  · show (Op.equalIn (9999 + 1) t _ _).run P w = _
    unfold Op.equalIn
    simp [run_underlying ht]
/-- The place of one function in a row of them. -/
theorem O.idxF {n' j : Nat} {a : Addr} {κ : IntKind} {p : Int} {e : TypeId} (ht : P.underlying t = some (.array n' e)) (hs : sizeT P e 1 = true) (hj : (p == (j : Int)) = true) (hn : Nat.blt j n' = true) (hx : ev l x = some (.pointer (some a))) (hy : ev l y = some (.int κ p)) :
    OpV P (.indexAddr t x y) ty l w (.pointer (some (a.add j))) := fun ρ hρ _ _ _ _ => by
  have hj' : p = (j : Int) := by simpa using hj
  have hn' : j < n' := by simpa using hn
  subst hj'
  simp only [execOp, hρ x _ hx, hρ y _ hy]
  have h0 : ¬ ((j : Int) < 0) := by omega
  simp [Instr.indexAt, asIntOf, run_underlying ht, sizeT_run hs, Instr.sureAddr, hn']
/-- clear(m). -/
theorem E.clearR (T : MapT P t kt et ek ew q) (hM : Mem w0 S w L) (hi : L[j]? = some (.res [g] (MapR ek ew q g m))) (hx : ev l x = some (.map (some g))) :
    Eff P (.call ⟨.builtin .clear, #[x], #[t]⟩) ty l w (fun v w' => Mem w0 S w' (L.set j (.res [g] (MapR ek ew q g mnone)))) := by
  obtain ⟨E, ck, h1, h2⟩ := hM.mapR hi
  refine ⟨.tuple #[], w.putObj g (.map #[] ck), fun ρ hρ _ _ _ _ => ?_, hM.turn (o := .map #[] ck) hi fun w1 h => ⟨[], ck, h, MFit.emp⟩⟩
  simp only [execOp]
  simp [resolve, invoke, builtin, hρ x _ hx, Builtin.clear_, run_underlying T.und, MapKept.run_getObj_map h1, MapKept.run_setObj_map _ h1, Result.andThen, World.putObj]
/-! ### A range over it -/
/-- The range over the map in block g has handed out these entries. -/
def IterAt (r g since : Nat) (seen : List Nat) (w : World) : Prop := w.heap[r]? = some (.mapIter (some g) since seen.toArray since)
theorem Mem.iterAt {r since : Nat} {seen : List Nat} (hM : Mem w0 S w L) (hi : L[i]? = some (.res [r] (IterAt r g since seen))) : w.heap[r]? = some (.mapIter (some g) since seen.toArray since) := Ob.res_φ (hM.ok i _ hi)
/-- The map that is ranged over, with its entries and its clock. -/
def MapE (ek : K → List Value) (ew : V → List Value) (q : K → K → Bool) (g : Nat) (E : List (K × V × Nat)) (ck : Nat) (m : K → Option V) (w : World) : Prop := w.heap[g]? = some (.map (E.map (mentry ek ew)).toArray ck) ∧ MFit q E ck m
theorem MapE.toR (h : MapE ek ew q g E ck m w) : MapR ek ew q g m w := ⟨E, ck, h⟩
theorem Mem.mapE (hM : Mem w0 S w L) (hi : L[i]? = some (.res [g] (MapE ek ew q g E ck m))) : MapE ek ew q g E ck m w := Ob.res_φ (hM.ok i _ hi)
/-- One may name the entries. -/
theorem Mem.toE (hM : Mem w0 S w L) (hi : L[i]? = some (.res [g] (MapR ek ew q g m))) : ∃ E ck, Mem w0 S w (L.set i (.res [g] (MapE ek ew q g E ck m))) := by
  obtain ⟨E, ck, h1, h2⟩ := hM.mapR hi
  refine ⟨E, ck, hM.upd' (bk := none) hi ⟨rfl, rfl, rfl, Nat.le_refl _, fun _ _ _ => rfl⟩ (fun g h => by cases h) ⟨fun g' hg' => (hM.ok i _ hi).1 g' hg', fun w1 hw => ⟨by rw [hw g (by simp)]; exact h1, h2⟩⟩ (fun g' hg => .inl (Ob.has_res.2 (Ob.has_res.1 hg)))⟩
theorem Mem.toR (hM : Mem w0 S w L) (hi : L[i]? = some (.res [g] (MapE ek ew q g E ck m))) : Mem w0 S w (L.set i (.res [g] (MapR ek ew q g m))) := by
  have h := hM.mapE hi
  exact hM.upd' (bk := none) hi ⟨rfl, rfl, rfl, Nat.le_refl _, fun _ _ _ => rfl⟩ (fun g h => by cases h) ⟨fun g' hg' => (hM.ok i _ hi).1 g' hg', fun w1 hw => ⟨E, ck, by rw [hw g (by simp)]; exact h.1, h.2⟩⟩ (fun g' hg => .inl (Ob.has_res.2 (Ob.has_res.1 hg)))
theorem MapR.toE (h : MapR ek ew q g m w) : ∃ E ck, MapE ek ew q g E ck m w := h
theorem MapE.fut (h : MapE ek ew q g E ck m w) (hf : Chg [] w w') : MapE ek ew q g E ck m w' := by
  have hlt : g < w.heap.size := (Array.getElem?_eq_some_iff.1 h.1).1
  exact ⟨by rw [hf.block g hlt (by simp)]; exact h.1, h.2⟩
theorem E.rangeR (hM : Mem w0 S w L) (h : MapE ek ew q g E ck m w) (ht : P.underlying t = some (.map kt et)) (hx : ev l x = some (.map (some g))) :
    Eff P (.range t x) ty l w (fun v w' => ∃ r, v = .pointer (some ⟨r, 0, none⟩) ∧ Mem w0 S w' (L ++ [.res [r] (IterAt r g ck [])]) ∧ Chg [] w w') := by
  have h1 := h.1
  have hb : Below w.heap.size w (w.alloc (.mapIter (some g) ck #[] ck)) := (Below.refl _ w).alloc (Nat.le_refl _) _
  refine ⟨.pointer (some ⟨w.heap.size, 0, none⟩), w.alloc (.mapIter (some g) ck #[] ck), fun ρ hρ _ _ _ _ => ?_, w.heap.size, rfl, hM.push (o := .res [w.heap.size] (IterAt w.heap.size g ck [])) hb ⟨fun g hg => by simp at hg; subst hg; simp, fun w1 h => by
    rw [IterAt, h _ (by simp)]; exact World.alloc_heap_new w _⟩ (fun g hg => by have := Ob.has_res.1 hg; simp at this; omega), .of_below hb⟩
  simp only [execOp, hρ x _ hx]
  simp [Instr.range, run_underlying ht, MapKept.run_getObj_map h1, Result.andThen]
/-- How many entries are left. -/
def leftN (E : List (K × V × Nat)) (seen : List Nat) : Nat := (E.filter fun a => !seen.contains a.2.2).length
theorem leftN_nil : leftN E [] + ([] : List Nat).length = E.length := by simp [leftN]
theorem leftN_step {seen : List Nat} {e : K × V × Nat} (hnd : (E.map fun a => a.2.2).Nodup) (he : e ∈ E) (hn : e.2.2 ∉ seen) : leftN E (seen ++ [e.2.2]) + 1 = leftN E seen := by
  induction E with
  | nil => cases he
  | cons a r ih =>
    rw [List.map_cons, List.nodup_cons] at hnd
    unfold leftN at ih ⊢
    rcases List.mem_cons.1 he with rfl | he
    · have h0 : r.filter (fun a => !(seen ++ [e.2.2]).contains a.2.2) = r.filter (fun a => !seen.contains a.2.2) := by
        refine List.filter_congr fun b hb => ?_
        have : b.2.2 ≠ e.2.2 := fun h => hnd.1 (h ▸ List.mem_map.2 ⟨b, hb, rfl⟩)
        simp [this]
      have h1 : (!(seen ++ [e.2.2]).contains e.2.2) = false := by simp
      have h2 : (!seen.contains e.2.2) = true := by simp [hn]
      rw [List.filter_cons, List.filter_cons, h1, h2, h0]
      simp
    · have hne : a.2.2 ≠ e.2.2 := fun h => hnd.1 (h ▸ List.mem_map.2 ⟨e, he, rfl⟩)
      have h1 : (!(seen ++ [e.2.2]).contains a.2.2) = (!seen.contains a.2.2) := by simp [hne]
      have := ih hnd.2 he
      rw [List.filter_cons, List.filter_cons, h1]
      split
      · simp only [List.length_cons]; omega
      · exact this
theorem leftN_lt {seen : List Nat} {e : K × V × Nat} {k : Nat} (hnd : (E.map fun a => a.2.2).Nodup) (he : e ∈ E) (hn : e.2.2 ∉ seen) (h : leftN E seen ≤ k + 0) : leftN E (seen ++ [e.2.2]) < k := by
  have := leftN_step hnd he hn; omega
theorem leftN_sum {seen : List Nat} {e : K × V × Nat} (hnd : (E.map fun a => a.2.2).Nodup) (he : e ∈ E) (hn : e.2.2 ∉ seen) (h : leftN E seen + seen.length = E.length) : leftN E (seen ++ [e.2.2]) + (seen ++ [e.2.2]).length = E.length := by
  have := leftN_step hnd he hn; simp only [List.length_append, List.length_cons, List.length_nil]; omega
theorem leftN_more {seen : List Nat} {e : K × V × Nat} (hnd : (E.map fun a => a.2.2).Nodup) (he : e ∈ E) (hn : e.2.2 ∉ seen) : 0 < leftN E seen := by
  have := leftN_step hnd he hn; omega
theorem MFit.ne (h : MFit q E ck m) {e : K × V × Nat} (he : e ∈ E) (T : MapT P t kt et ek ew q) : ¬ m e.1 = none := by
  rw [h.get]
  intro hn
  rw [Option.map_eq_none_iff, List.find?_eq_none] at hn
  exact hn e he (T.refl _)
/-- The map has no more than so many keys. -/
def SmallM (q : K → K → Bool) (m : K → Option V) : Prop := ∃ l : List K, l.length ≤ 1000000 ∧ ∀ k, m k ≠ none → ∃ x ∈ l, q k x = true
theorem few_keys (T : MapT P t kt et ek ew q) : ∀ (l : List K) (E : List (K × V × Nat)), E.Pairwise (fun a b => q a.1 b.1 = false) → (∀ a ∈ E, ∃ x ∈ l, q a.1 x = true) → E.length ≤ l.length
  | [], E, _, h => by
    cases E with
    | nil => exact Nat.le_refl _
    | cons a r => obtain ⟨x, hx, _⟩ := h a (by simp); cases hx
  | y :: l, E, hp, h => by
    have key : ∀ r : List (K × V × Nat), r.Pairwise (fun a b => q a.1 b.1 = false) → (∀ a ∈ r, q a.1 y = true) → r.length ≤ 1 := fun r hr hq => by
      match r, hr, hq with
      | [], _, _ => simp
      | [a], _, _ => simp
      | a :: b :: r, hr, hq =>
        have hab : q a.1 b.1 = false := (List.pairwise_cons.1 hr).1 b (by simp)
        rw [T.trans (hq a (by simp)) (T.symm (hq b (by simp)))] at hab; cases hab
    have h1 : (E.filter fun a => q a.1 y).length ≤ 1 := key _ (hp.filter _) fun a ha => (List.mem_filter.1 ha).2
    have h2 : (E.filter fun a => !q a.1 y).length ≤ l.length := few_keys T l _ (hp.filter _) fun a ha => by
      obtain ⟨ha1, ha2⟩ := List.mem_filter.1 ha
      obtain ⟨x, hx, hq⟩ := h a ha1
      rcases List.mem_cons.1 hx with rfl | hx
      · simp [hq] at ha2
      · exact ⟨x, hx, hq⟩
    have h3 : ∀ E : List (K × V × Nat), E.length = (E.filter fun a => q a.1 y).length + (E.filter fun a => !q a.1 y).length := fun E => by
      induction E with
      | nil => rfl
      | cons a r ih =>
        rw [List.filter_cons, List.filter_cons]
        cases hq : q a.1 y <;> simp <;> omega
    have h3 := h3 E
    simp only [List.length_cons]; omega
theorem SmallM.len (h : SmallM q m) (T : MapT P t kt et ek ew q) (hf : MFit q E ck m) : E.length ≤ 1000000 := by
  obtain ⟨l, hl, h2⟩ := h
  exact Nat.le_trans (few_keys T l E hf.df fun a ha => h2 a.1 (hf.ne ha T)) hl
/-- Two maps in one: what both have is put together. -/
def mmerge (f : V → V → V) (z : V) (a b : K → Option V) : K → Option V := fun k => match b k with
  | some t => some (f ((a k).getD z) t)
  | none => a k
/-- The same, as far as it has come. -/
def mergeS (q : K → K → Bool) (f : V → V → V) (z : V) (E : List (K × V × Nat)) (seen : List Nat) (a : K → Option V) : K → Option V := fun k => match E.find? (fun e => q k e.1) with
  | some e => if seen.contains e.2.2 = true then some (f ((a k).getD z) e.2.1) else a k
  | none => a k
theorem mergeS_nil {f : V → V → V} {z : V} {a : K → Option V} : mergeS q f z E [] a = a := by
  funext k
  unfold mergeS
  cases E.find? (fun e => q k e.1) <;> simp
theorem mergeS_all {f : V → V → V} {z : V} {a : K → Option V} {seen : List Nat} (T : MapT P t kt et ek ew q) (h : MFit q E ck m) (hall : ∀ e ∈ E, e.2.2 ∈ seen) : mergeS q f z E seen a = mmerge f z a m := by
  funext k
  unfold mergeS mmerge
  rw [h.get]
  cases hf : E.find? (fun e => q k e.1) with
  | none => rfl
  | some e => simp [hall e (List.mem_of_find?_eq_some hf)]
theorem MapR.resp (h : MapR ek ew q g m w) (T : MapT P t kt et ek ew q) : ∀ k k', q k k' = true → m k = m k' := fun k k' hq => by
  obtain ⟨E, ck, _, h2⟩ := h
  rw [h2.get, h2.get]
  have : (fun a : K × V × Nat => q k a.1) = fun a => q k' a.1 := by funext a; exact T.left hq a.1
  rw [this]
theorem find_of {e : K × V × Nat} {k : K} (T : MapT P t kt et ek ew q) : ∀ {E : List (K × V × Nat)}, E.Pairwise (fun a b => q a.1 b.1 = false) → e ∈ E → q k e.1 = true → E.find? (fun a => q k a.1) = some e
  | [], _, he, _ => by cases he
  | a :: r, hp, he, hq => by
    rw [List.pairwise_cons] at hp
    rw [List.find?_cons]
    rcases List.mem_cons.1 he with rfl | he
    · simp [hq]
    · have : q k a.1 = false := by
        cases h : q k a.1 with
        | false => rfl
        | true => have h2 := hp.1 e he; rw [T.trans (T.symm h) hq] at h2; cases h2
      simp [this, find_of T hp.2 he hq]
theorem nd_born {e a : K × V × Nat} : ∀ {E : List (K × V × Nat)}, (E.map fun a => a.2.2).Nodup → e ∈ E → a ∈ E → a.2.2 = e.2.2 → a = e
  | [], _, he, _, _ => by cases he
  | b :: r, hn, he, ha, hb => by
    rw [List.map_cons, List.nodup_cons] at hn
    rcases List.mem_cons.1 he with h1 | he <;> rcases List.mem_cons.1 ha with h2 | ha
    · rw [h1, h2]
    · exact absurd (List.mem_map.2 ⟨a, ha, hb.trans (by rw [h1])⟩) hn.1
    · exact absurd (List.mem_map.2 ⟨e, he, by rw [← hb, h2]⟩) hn.1
    · exact nd_born hn.2 he ha hb
theorem mergeS_step {f : V → V → V} {z : V} {a x y : K → Option V} {seen : List Nat} {e : K × V × Nat} (T : MapT P t kt et ek ew q) (h : MFit q E ck m) (hr : ∀ k k', q k k' = true → a k = a k') (he : e ∈ E) (hn : e.2.2 ∉ seen) (hx : x = mergeS q f z E seen a)
    (hy : y = mput q x e.1 (f ((x e.1).getD z) e.2.1)) : y = mergeS q f z E (seen ++ [e.2.2]) a := by
  subst hx; subst hy
  funext k
  unfold mput
  have h0 : mergeS q f z E seen a e.1 = a e.1 := by
    unfold mergeS
    rw [find_of T h.df he (T.refl _)]
    simp [hn]
  cases hq : q k e.1 with
  | true =>
    rw [if_pos rfl, h0]
    unfold mergeS
    rw [find_of T h.df he hq, hr k e.1 hq]
    simp
  | false =>
    simp only [Bool.false_eq_true, if_false]
    unfold mergeS
    cases hf : E.find? (fun e => q k e.1) with
    | none => rfl
    | some c =>
      have hc := List.mem_of_find?_eq_some hf
      have hqc : q k c.1 = true := by simpa using List.find?_some hf
      have hne : c.2.2 ≠ e.2.2 := fun hb => by
        rw [nd_born h.nd he hc hb] at hqc; rw [hqc] at hq; cases hq
      simp [hne]
/-- A step of it: nothing is left, or an entry that was not handed out yet. -/
theorem RL.nextR [WF F] {r : Nat} {seen : List Nat} (hM : Mem w0 S w L) (h1 : MapE ek ew q g E ck m w) (hj : L[j]? = some (.res [r] (IterAt r g ck seen))) (hx : ev l x = some (.pointer (some ⟨r, 0, none⟩))) (hd : Nat.blt d n.n = true)
    (h0 : ∀ w', (∀ a ∈ E, a.2.2 ∈ seen) → Mem w0 S w' L → RL F P ops Q rest n ((d, .tuple #[.bool false]) :: l) w')
    (hk : ∀ w' a, a ∈ E → a.2.2 ∉ seen → Mem w0 S w' (L.set j (.res [r] (IterAt r g ck (seen ++ [a.2.2])))) → RL F P ops Q rest n ((d, .tuple #[.bool true, .agg (ek a.1).toArray, .agg (ew a.2.1).toArray]) :: l) w') :
    RL F P ops Q (⟨some d, .next x false, ty, pos, after, none⟩ :: rest) n l w := by
  have h2 := hM.iterAt hj
  have hE : ∀ y ∈ (E.map (mentry ek ew)).toArray.toList, y.born < ck := fun y hy => by
    simp only [List.mem_map] at hy
    obtain ⟨a, ha, rfl⟩ := hy
    exact h1.2.lt a ha
  rcases run_next_at (P := P) w ty r g ck ck seen.toArray (E.map (mentry ek ew)).toArray ck h2 h1.1 hE (Nat.le_refl _) with ⟨h3, h4⟩ | ⟨e, he, w1, hw1, h4⟩
  · have ho : OpR P (.next x false) ty l w (.tuple #[.bool false]) w := fun ρ hρ _ _ _ _ => by
      simp only [execOp, hρ x _ hx]
      simp [h4]
    exact RL.eff (R := fun v w' => v = .tuple #[.bool false] ∧ w' = w) ⟨_, _, ho, rfl, rfl⟩ hd fun v w' hv => by
      obtain ⟨rfl, rfl⟩ := hv
      refine h0 _ (fun a ha => ?_) hM
      refine Classical.byContradiction fun hn => ?_
      have h5 : mentry ek ew a ∈ leftOf (E.map (mentry ek ew)).toArray seen.toArray := by
        unfold leftOf
        simp only [Array.mem_filter, List.mem_toArray, List.mem_map]
        exact ⟨⟨a, ha, rfl⟩, by simpa [mentry] using hn⟩
      rw [Array.eq_empty_of_size_eq_zero h3] at h5
      simp at h5
  · obtain ⟨h5, h6⟩ : e ∈ (E.map (mentry ek ew)).toArray.toList ∧ seen.toArray.contains e.born = false := by
      unfold leftOf at he
      simpa using he
    simp only [List.mem_map] at h5
    obtain ⟨a, ha, rfl⟩ := h5
    have ho : OpR P (.next x false) ty l w (.tuple #[.bool true, .agg (ek a.1).toArray, .agg (ew a.2.1).toArray]) (w1.putObj r (.mapIter (some g) ck (seen ++ [a.2.2]).toArray ck)) := fun ρ hρ _ _ _ _ => by
      simp only [execOp, hρ x _ hx]
      simp [h4, mentry, ChangeMaps.setBlock, World.putObj]
    have hM1 : Mem w0 S w1 L := by
      rcases hw1 with rfl | rfl
      · exact hM
      · exact hM.drewN 1
    exact RL.eff (R := fun v w' => v = .tuple #[.bool true, .agg (ek a.1).toArray, .agg (ew a.2.1).toArray] ∧ w' = w1.putObj r (.mapIter (some g) ck (seen ++ [a.2.2]).toArray ck)) ⟨_, _, ho, rfl, rfl⟩ hd fun v w' hv => by
      obtain ⟨rfl, rfl⟩ := hv
      refine hk _ a ha ?_ (hM1.turn (φ' := IterAt r g ck (seen ++ [a.2.2])) (o := .mapIter (some g) ck (seen ++ [a.2.2]).toArray ck) hj fun w1 h => h)
      simpa [mentry] using h6
/-- The entry that was handed out last. -/
theorem O.entryR {r : Nat} {seen : List Nat} {e : K × V × Nat} {ks vs : List Value} (h1 : MapE ek ew q g E ck m w) (h2 : w.heap[r]? = some (.mapIter (some g) ck (seen ++ [e.2.2]).toArray ck)) (he : e ∈ E) (hks : ek e.1 = ks) (hvs : ew e.2.1 = vs) (hx : ev l x = some (.pointer (some ⟨r, 0, none⟩))) :
    OpV P (.entry x) ty l w (.tuple #[.agg ks.toArray, .agg vs.toArray]) := fun ρ hρ _ _ _ _ => by
  subst hks; subst hvs
  have h3 : w.heap[r]? = some (.mapIter (some g) ck (seen.toArray.push (mentry ek ew e).born) ck) := by rw [h2]; simp [mentry]
  have hn : ((E.map (mentry ek ew)).toArray.toList.map (·.born)).Nodup := by
    have : ((E.map (mentry ek ew)).toArray.toList.map (·.born)) = E.map fun a => a.2.2 := by simp [mentry, Function.comp_def]
    rw [this]; exact h1.2.nd
  have h4 := run_entry_at (P := P) w r g ck seen.toArray (E.map (mentry ek ew)).toArray ck (mentry ek ew e) h3 h1.1 (by simp only [List.mem_map]; exact ⟨e, he, rfl⟩) hn
  simp only [execOp, hρ x _ hx]
  simp [h4, mentry]
end
end Go.Ox
