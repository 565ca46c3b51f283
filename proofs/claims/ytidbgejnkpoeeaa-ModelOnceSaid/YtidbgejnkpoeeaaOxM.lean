/- A plain library: a map of few entries, keyed by numbers, that is made and asked in place; a range over a constant string; calls in place of function values. No program is named here. -/
import Derived.Test.YtidbgejnkpoeeaaOxK
import Derived.MapKept
set_option linter.unusedVariables false
namespace Go.Ox
open Go Go.RowKit
section
variable {F : Fence} {P : Program} {ops : Array Oper} {Q : Exit → Act → World → Prop} {rest : List Oper} {n n0 : Fr} {d : Nat} {l l1 l' : List (Nat × Value)} {w w0 w' : World} {L : List Ob} {S : List (Option Nat)}
variable {ty t kt et : TypeId} {pos : String} {after : Array Edge} {v : Value} {i j : Nat} {x y z : Operand}
/-- The map of these entries lies there. -/
def MapAt (g : Nat) (es : List MapEntry) (ck : Nat) (w : World) : Prop := w.heap[g]? = some (.map es.toArray ck)
theorem Mem.mapAt {g ck : Nat} {es : List MapEntry} (hM : Mem w0 S w L) (hi : L[i]? = some (.res [g] (MapAt g es ck))) : MapAt g es ck w := Ob.res_φ (hM.ok i _ hi)
theorem MapAt.fut {g ck : Nat} {es : List MapEntry} (h : MapAt g es ck w) (hf : Chg [] w w') : MapAt g es ck w' := by
  have hlt : g < w.heap.size := (Array.getElem?_eq_some_iff.1 h).1
  unfold MapAt at h ⊢
  rw [hf.block g hlt (by simp)]; exact h
theorem E.mkmap (hM : Mem w0 S w L) : Eff P (.makeMap t none) ty l w (fun v w' => ∃ g, v = .map (some g) ∧ Mem w0 S w' (L ++ [.res [g] (MapAt g [] 0)]) ∧ Chg [] w w') := by
  have hb : Below w.heap.size w (w.alloc (.map #[] 0)) := (Below.refl _ w).alloc (Nat.le_refl _) _
  refine ⟨.map (some w.heap.size), w.alloc (.map #[] 0), fun ρ hρ _ _ _ _ => ?_, w.heap.size, rfl, hM.push (o := .res [w.heap.size] (MapAt w.heap.size [] 0)) hb ⟨fun g hg => by simp at hg; subst hg; simp, fun w1 h1 => by
    rw [MapAt, h1 _ (by simp)]; exact World.alloc_heap_new w _⟩ (fun g hg => by have := Ob.has_res.1 hg; simp at this; omega), .of_below hb⟩
  simp [execOp, Instr.makeMap, Result.andThen]
theorem E.mins {g ck ck' : Nat} {es es' : List MapEntry} {κ : IntKind} {k : Int} {u : Value} (hM : Mem w0 S w L) (hi : L[j]? = some (.res [g] (MapAt g es ck))) (hm : P.underlying t = some (.map kt et)) (hd : P.underlying kt = some (.int κ))
    (hx : ev l x = some (.map (some g))) (hy : ev l y = some (.int κ k)) (hz : ev l z = some u) (hn : Instr.findNow (.int κ) (.int κ k) es 0 = some none) (he : es ++ [⟨.int κ k, u, ck⟩] = es') (hc : ck + 1 = ck') :
    EffS P (.insert t x y z) ty l w (fun w' => Mem w0 S w' (L.set j (.res [g] (MapAt g es' ck')))) := by
  subst he
  subst hc
  have hb := hM.mapAt hi
  unfold MapAt at hb
  refine ⟨w.putObj g (.map (es ++ [(⟨.int κ k, u, ck⟩ : MapEntry)]).toArray (ck + 1)), fun ρ hρ _ _ _ _ => ?_, hM.turn (φ' := MapAt g (es ++ [(⟨.int κ k, u, ck⟩ : MapEntry)]) (ck + 1)) (o := .map (es ++ [(⟨.int κ k, u, ck⟩ : MapEntry)]).toArray (ck + 1)) hi fun w1 h1 => h1⟩
  simp only [execOp, hρ x _ hx, hρ y _ hy, hρ z _ hz]
  have hk : MapKept.IsKey (.int κ) (.int κ k) := rfl
  simp [Instr.mapUpdate, run_underlying hm, MapKept.run_getObj_map hb, MapKept.run_checkKey hd hk, MapKept.run_findKey hd hn, MapKept.run_setObj_map _ hb, Result.andThen, World.putObj]
theorem lk_hit {κ : IntKind} {k k0 : Int} {u : Value} {b m : Nat} {es : List MapEntry} (h : (k == k0) = true) : Instr.findNow (.int κ) (.int κ k) (⟨.int κ k0, u, b⟩ :: es) m = some (some (m, u)) := by
  simp [Instr.findNow, Instr.sameNow, h]
theorem lk_miss {κ : IntKind} {k k0 : Int} {u : Value} {b m : Nat} {es : List MapEntry} {r : Option (Option (Nat × Value))} (h : ¬ (k == k0) = true) (hr : Instr.findNow (.int κ) (.int κ k) es (m + 1) = r) : Instr.findNow (.int κ) (.int κ k) (⟨.int κ k0, u, b⟩ :: es) m = r := by
  have h' : (k == k0) = false := by simpa using h
  rw [← hr]
  simp only [Instr.findNow, Instr.sameNow, h', if_pos]
theorem lk_nil {κ : IntKind} {k : Int} {m : Nat} : Instr.findNow (.int κ) (.int κ k) [] m = some none := rfl
theorem O.lkT {g ck m : Nat} {es : List MapEntry} {κ : IntKind} {k : Int} {u : Value} (hb : MapAt g es ck w) (hm : P.underlying t = some (.map kt et)) (hd : P.underlying kt = some (.int κ))
    (hx : ev l x = some (.map (some g))) (hy : ev l y = some (.int κ k)) (hn : Instr.findNow (.int κ) (.int κ k) es 0 = some (some (m, u))) : OpV P (.lookup t x y true) ty l w (.tuple #[u, .bool true]) := fun ρ hρ _ _ _ _ => by
  unfold MapAt at hb
  simp only [execOp, hρ x _ hx, hρ y _ hy]
  have hk : MapKept.IsKey (.int κ) (.int κ k) := rfl
  simp [Instr.lookup, run_underlying hm, MapKept.run_getObj_map hb, MapKept.run_checkKey hd hk, MapKept.run_findKey hd hn, Result.andThen]
theorem O.lkF {g ck : Nat} {es : List MapEntry} {κ : IntKind} {k : Int} {cs : List Value} (hb : MapAt g es ck w) (hm : P.underlying t = some (.map kt et)) (hd : P.underlying kt = some (.int κ)) (he : (P.info? et).map (fun i => i.zero) = some (some (.agg cs.toArray)))
    (hx : ev l x = some (.map (some g))) (hy : ev l y = some (.int κ k)) (hn : Instr.findNow (.int κ) (.int κ k) es 0 = some none) : OpV P (.lookup t x y true) ty l w (.tuple #[.agg cs.toArray, .bool false]) := fun ρ hρ _ _ _ _ => by
  unfold MapAt at hb
  simp only [execOp, hρ x _ hx, hρ y _ hy]
  have hk : MapKept.IsKey (.int κ) (.int κ k) := rfl
  obtain ⟨i, hi, h2⟩ := Option.map_eq_some_iff.1 he
  have hzr : (zeroValue et).run P w = .ok (.agg cs.toArray) w := by simp [zeroValue, typeInfo, hi, h2]
  simp [Instr.lookup, run_underlying hm, MapKept.run_getObj_map hb, MapKept.run_checkKey hd hk, MapKept.run_findKey hd hn, Result.andThen, hzr]
theorem O.lkT1 {g ck m : Nat} {es : List MapEntry} {κ : IntKind} {k : Int} {u : Value} (hb : MapAt g es ck w) (hm : P.underlying t = some (.map kt et)) (hd : P.underlying kt = some (.int κ))
    (hx : ev l x = some (.map (some g))) (hy : ev l y = some (.int κ k)) (hn : Instr.findNow (.int κ) (.int κ k) es 0 = some (some (m, u))) : OpV P (.lookup t x y false) ty l w u := fun ρ hρ _ _ _ _ => by
  unfold MapAt at hb
  simp only [execOp, hρ x _ hx, hρ y _ hy]
  have hk : MapKept.IsKey (.int κ) (.int κ k) := rfl
  simp [Instr.lookup, run_underlying hm, MapKept.run_getObj_map hb, MapKept.run_checkKey hd hk, MapKept.run_findKey hd hn, Result.andThen]
theorem O.lkF1 {g ck : Nat} {es : List MapEntry} {κ : IntKind} {k : Int} {cs : List Value} (hb : MapAt g es ck w) (hm : P.underlying t = some (.map kt et)) (hd : P.underlying kt = some (.int κ)) (he : (P.info? et).map (fun i => i.zero) = some (some (.agg cs.toArray)))
    (hx : ev l x = some (.map (some g))) (hy : ev l y = some (.int κ k)) (hn : Instr.findNow (.int κ) (.int κ k) es 0 = some none) : OpV P (.lookup t x y false) ty l w (.agg cs.toArray) := fun ρ hρ _ _ _ _ => by
  unfold MapAt at hb
  simp only [execOp, hρ x _ hx, hρ y _ hy]
  have hk : MapKept.IsKey (.int κ) (.int κ k) := rfl
  obtain ⟨i, hi, h2⟩ := Option.map_eq_some_iff.1 he
  have hzr : (zeroValue et).run P w = .ok (.agg cs.toArray) w := by simp [zeroValue, typeInfo, hi, h2]
  simp [Instr.lookup, run_underlying hm, MapKept.run_getObj_map hb, MapKept.run_checkKey hd hk, MapKept.run_findKey hd hn, Result.andThen, hzr]
/-! ### A range over a constant string of small letters -/
/-- The range over the string s stands at its byte p. -/
def StrAt (g : Nat) (s : ByteArray) (p : Nat) (w : World) : Prop := w.heap[g]? = some (.stringIter s p)
theorem Mem.strAt {g p : Nat} {s : ByteArray} (hM : Mem w0 S w L) (hi : L[i]? = some (.res [g] (StrAt g s p))) : w.heap[g]? = some (.stringIter s p) := Ob.res_φ (hM.ok i _ hi)
theorem E.range {s : ByteArray} (hM : Mem w0 S w L) (hs : P.underlying t = some .string) (hx : ev l x = some (.string s)) : Eff P (.range t x) ty l w (fun v w' => ∃ g, v = .pointer (some ⟨g, 0, none⟩) ∧ Mem w0 S w' (L ++ [.res [g] (StrAt g s 0)]) ∧ Chg [] w w') := by
  have hb : Below w.heap.size w (w.alloc (.stringIter s 0)) := (Below.refl _ w).alloc (Nat.le_refl _) _
  refine ⟨.pointer (some ⟨w.heap.size, 0, none⟩), w.alloc (.stringIter s 0), fun ρ hρ _ _ _ _ => ?_, w.heap.size, rfl, hM.push (o := .res [w.heap.size] (StrAt w.heap.size s 0)) hb ⟨fun g hg => by simp at hg; subst hg; simp, fun w1 h1 => by
    rw [StrAt, h1 _ (by simp)]; exact World.alloc_heap_new w _⟩ (fun g hg => by have := Ob.has_res.1 hg; simp at this; omega), .of_below hb⟩
  simp only [execOp, hρ x _ hx]
  simp [Instr.range, run_underlying hs, Result.andThen]
/-- Every byte of it is a letter by itself. -/
def asc (s : ByteArray) : Bool := s.toList.all fun b => b.toNat < 128
theorem dec_asc {s : ByteArray} {p : Nat} (h : asc s = true) (hp : p < s.size) : Utf8.decode s p = ((s.get! p).toNat, 1) := by
  unfold asc at h
  rw [List.all_eq_true] at h
  have h1 := h (s.get! p) (by
    rw [ByteArray.toList_eq]
    have : s.get! p = s.data.toList[p]'(by simpa using hp) := by
      simp only [ByteArray.get!, Array.getElem_toList]
      exact getElem!_pos s.data p hp
    rw [this]
    exact List.getElem_mem _)
  simp at h1
  unfold Utf8.decode
  simp [h1]
theorem E.nextT {g p : Nat} {s : ByteArray} (hM : Mem w0 S w L) (hi : L[j]? = some (.res [g] (StrAt g s p))) (ha : asc s = true) (hp : p < s.size) (hx : ev l x = some (.pointer (some ⟨g, 0, none⟩))) :
    Eff P (.next x true) ty l w (fun v w' => v = .tuple #[.bool true, .int .i64 (p : Int), .int .i32 ((s.get! p).toNat : Int)] ∧ Mem w0 S w' (L.set j (.res [g] (StrAt g s (p + 1)))) ∧ Chg [some g] w w') := by
  have hb := hM.strAt hi
  refine ⟨_, w.putObj g (.stringIter s (p + 1)), fun ρ hρ _ _ _ _ => ?_, rfl, hM.turn (φ' := StrAt g s (p + 1)) (o := .stringIter s (p + 1)) hi fun w1 h1 => h1, .grown (grownBy_putObj' ..)⟩
  simp only [execOp, hρ x _ hx]
  have h1 : (getObj g).run P w = .ok (.stringIter s p) w := by simp [getObj, Sem.run, hb]
  have h2 : ∀ o : Obj, (setObj g o).run P w = .ok () (w.putObj g o) := fun o => by simp [setObj, Sem.run, hb, World.putObj]
  simp [Instr.next, h1, h2, hp, dec_asc ha hp, Result.andThen, goInt]
theorem O.nextF {g p : Nat} {s : ByteArray} (hb : w.heap[g]? = some (.stringIter s p)) (hp : ¬ p < s.size) (hx : ev l x = some (.pointer (some ⟨g, 0, none⟩))) :
    OpV P (.next x true) ty l w (.tuple #[.bool false]) := fun ρ hρ _ _ _ _ => by
  simp only [execOp, hρ x _ hx]
  have h1 : (getObj g).run P w = .ok (.stringIter s p) w := by simp [getObj, Sem.run, hb]
  simp [Instr.next, h1, hp, Result.andThen]
/-! ### Calls in place -/
theorem RD.mcallv [WF F] {ld mv pu : List Nat} {X : List (Option Nat)} {r : Ordr} {f : FuncId} {fn : Func} {first captured vs : List Value} {dst : Option Nat} {fx : Operand} {args : List Operand} {ats : Array TypeId} {R : Value → World → Prop} {gd : Option (Nat × Bool)}
    (ho : ops[i]? = some ⟨dst, .call ⟨.value fx, args.toArray, ats⟩, ty, pos, after, gd⟩) (hm : mv.contains i = true)
    (hg : match gd with
      | none => True
      | some (j, b) => yl ops l j = some b ∧ ylt ops j n = true)
    (hfx : ev l fx = some (.func (.func f) first.toArray captured.toArray))
    (hf : P.funcs[f]? = some fn) (hb : (!(fn.name == "runtime.NumGoroutine") && !fn.body.isNone) = true) (hv : evs l args = some vs) (hd : (match dst with
      | some d => Nat.blt d n.n
      | none => true) = true)
    (h : CallsR P f (first ++ vs ++ captured) w R) (hk : ∀ v w', R v w' → (ld.contains i = false → Chg X w w') ∧ RD F P ops Q ld mv pu X r n (match dst with
      | some d => (d, v) :: l
      | none => l) w') : RD F P ops Q ld mv pu X (.cons i r) n l w :=
  RD.step ho hm fun K hK a ha => by
    have hw : Region.wanted ⟨dst, .call ⟨.value fx, args.toArray, ats⟩, ty, pos, after, gd⟩ (yielded ops a.tmps) = true := by
      cases gd with
      | none => rfl
      | some jb => obtain ⟨j, b⟩ := jb; simp [Region.wanted, yl_yielded ha hg.1 (ylt_spec hg.2)]
    rw [if_pos hw]
    refine wpIn_call (ha.ev hfx) hf hb (by simp [ha.evs hv]) h fun v w' hr => hK _ _ ⟨(hk v w' hr).1, (hk v w' hr).2 _ ?_⟩
    cases dst with
    | none => exact ha
    | some d => exact ha.put hd
theorem RL.icallv [WF F] {f : FuncId} {fn : Func} {first captured : List Value} {c : Code} {vs : List Value} {fx : Operand} {args : List Operand} {ats : Array TypeId} {m : Nat}
    (hfx : ev l fx = some (.func (.func f) first.toArray captured.toArray))
    (hf : P.funcs[f]? = some fn) (hb : (!(fn.name == "runtime.NumGoroutine") && !fn.body.isNone) = true) (hv : evs l args = some vs) (hd : Nat.blt d n.n = true) (hbody : fn.body = some c) (hm : fn.ntmps = m) (hs : Nat.ble (first ++ vs ++ captured).length m = true)
    (h : KC Fence.wide P c (bodyPost P fn fun e w' => ∃ v, e = .returned v ∧ RL F P ops Q rest n ((d, v) :: l) w') (Fr.mk m []) ((List.range (first ++ vs ++ captured).length).zip (first ++ vs ++ captured)) w) :
    RL F P ops Q (⟨some d, .call ⟨.value fx, args.toArray, ats⟩, ty, pos, after, none⟩ :: rest) n l w :=
  RL.callv hfx hf hb hv hd (calls_KC hf hbody hm hs h) fun v w' h => h
theorem RL.gicall [WF F] {f : FuncId} {fn : Func} {c : Code} {vs : List Value} {args : List Operand} {ats : Array TypeId} {m j : Nat} {b : Bool} (hy : yl ops l j = some b) (hj : ylt ops j n = true)
    (hf : P.funcs[f]? = some fn) (hb : (!(fn.name == "runtime.NumGoroutine") && !fn.body.isNone) = true) (hv : evs l args = some vs) (hd : Nat.blt d n.n = true) (hbody : fn.body = some c) (hm : fn.ntmps = m) (hs : Nat.ble vs.length m = true)
    (h : KC Fence.wide P c (bodyPost P fn fun e w' => ∃ v, e = .returned v ∧ RL F P ops Q rest n ((d, v) :: l) w') (Fr.mk m []) ((List.range vs.length).zip vs) w) :
    RL F P ops Q (⟨some d, .call ⟨.value (.func f), args.toArray, ats⟩, ty, pos, after, some (j, b)⟩ :: rest) n l w :=
  RL.gcall hy hj hf hb hv hd (calls_KC hf hbody hm hs h) fun v w' h => h
end
end Go.Ox
