/- A plain library: rows that Go's library sorts. No program is named here. -/
import Derived.Test.YtkpnocgfhipidaaGreatOxK
import Derived.Shelf.SlSortCmp.WholeK
import Derived.Shelf.SlSortCmp.NoneTotal
import Derived.MapKept
set_option linter.unusedVariables false
namespace Go.Ox
open Go Go.RowKit Go.Shelf Go.Proofs
section
variable {P : Program} {ρ : Ren} {α : Type} [Inhabited α] {enc : α → List Value} {w w0 w' : World} {A : Option Addr} {s c k : Nat} {e : TypeId}
theorem Chg.grow (h : Chg [] w w') : ∃ q os, w' = Sort.grow (w.drewN q) os := by
  refine ⟨w'.drawn - w.drawn, w'.heap.extract w.heap.size w'.heap.size, ?_⟩
  have h1 := h.os; have h2 := h.tape; have h3 := h.output; have h4 := h.drawn; have h5 := h.size; have h6 := h.block
  cases w with
  | mk heap tape drawn os output =>
    cases w' with
    | mk heap' tape' drawn' os' output' =>
      simp only at h1 h2 h3 h4 h5 h6
      subst h1; subst h2; subst h3
      simp only [Sort.grow, World.drewN, World.mk.injEq, true_and, and_true]
      refine ⟨?_, by omega⟩
      apply Array.ext_getElem?
      intro i
      by_cases hi : i < heap.size
      · rw [Array.getElem?_append_left hi]
        exact h6 i hi (by simp)
      · rw [Array.getElem?_append_right (by omega), Array.getElem?_extract]
        split
        · congr 1; omega
        · rw [Array.getElem?_eq_none (by omega)]
theorem sortW_other {blk m : Nat} {dk : Array α} {os : Array Obj} {b : Nat} (hb : b ≠ blk) (hl : b < w.heap.size) : (sortWorldK enc k w blk 0 m dk os).heap[b]? = w.heap[b]? := by
  have hs : (Sort.putRow id (Sort.ahead w m) blk 0 (Sort.flatK enc k dk)).heap.size = w.heap.size := by simp
  show ((Sort.putRow id (Sort.ahead w m) blk 0 (Sort.flatK enc k dk)).heap ++ os)[b]? = _
  rw [Array.getElem?_append_left (by rw [hs]; exact hl)]
  simp only [Sort.putRow, Sort.mapBlock, Array.getElem?_modify]
  rw [if_neg (fun e => hb e.symm)]
  rfl
theorem sortW_own {blk m : Nat} {dk : Array α} {os : Array Obj} {cur : Array Value} (hg : w.heap[blk]? = some (.cells cur e (0, 0))) : (sortWorldK enc k w blk 0 m dk os).heap[blk]? = some (.cells (Sort.putCells id 0 (Sort.flatK enc k dk) cur) e (0, 0)) := by
  have hl : blk < w.heap.size := (Array.getElem?_eq_some_iff.1 hg).1
  have hs : (Sort.putRow id (Sort.ahead w m) blk 0 (Sort.flatK enc k dk)).heap.size = w.heap.size := by simp
  show ((Sort.putRow id (Sort.ahead w m) blk 0 (Sort.flatK enc k dk)).heap ++ os)[blk]? = _
  rw [Array.getElem?_append_left (by rw [hs]; exact hl)]
  simp only [Sort.putRow, Sort.mapBlock, Array.getElem?_modify, if_true]
  show Option.map _ (w.heap[blk]?) = _
  rw [hg]
  rfl
theorem flatK_list (hk : ∀ x, (enc x).length = s) (hs : 0 < s) (d : Array α) : (Sort.flatK enc s d).toList = d.toList.flatMap enc := by
  apply List.ext_getElem?
  intro i
  by_cases hi : i < d.size * s
  · have hq : i / s < d.size := (Nat.div_lt_iff_lt_mul hs).2 hi
    have h1 := flatMap_getElem? hk d.toList (i / s) (i % s) d[i / s]! (by simp [hq]) (Nat.mod_lt _ hs)
    rw [Nat.div_add_mod' i s] at h1
    rw [h1]
    have hm : i % s < (enc d[i / s]!).length := by rw [hk]; exact Nat.mod_lt _ hs
    have h2 := Sort.get_flatK enc s d i hi
    have hsz : i < (Sort.flatK enc s d).toList.length := by simpa using hi
    rw [List.getElem?_eq_getElem hsz, List.getElem?_eq_getElem hm]
    have hsz' : i < (Sort.flatK enc s d).size := by simpa using hi
    rw [getElem!_pos (Sort.flatK enc s d) i hsz', getElem!_pos (enc d[i / s]!) (i % s) hm] at h2
    simpa using h2
  · rw [List.getElem?_eq_none (by simp; omega), List.getElem?_eq_none (by rw [flat_length hk]; simp; omega)]
def srt (cf : α → α → Int) (xs : List α) : List α := (Sort.pdq (ltOf cf) xs.toArray 0 xs.toArray.size (Lib.bitLen xs.toArray.size) true true).toList
theorem srt_spec {cf : α → α → Int} (hO : Sort.SWO (ltOf cf)) (xs : List α) : (srt cf xs).Perm xs ∧ (srt cf xs).Pairwise (fun x y => ltOf cf y x = false) := by
  obtain ⟨⟨h1, h2, h3⟩, h4⟩ := Sort.pdq_sorts (ltOf cf) hO xs.toArray 0 xs.toArray.size (Lib.bitLen xs.toArray.size) true true (Nat.zero_le _) (Nat.le_refl _) (Or.inl rfl)
  generalize hd : Sort.pdq (ltOf cf) xs.toArray 0 xs.toArray.size (Lib.bitLen xs.toArray.size) true true = d at *
  have e : srt cf xs = d.toList := by unfold srt; rw [hd]
  rw [e]
  refine ⟨?_, ?_⟩
  · have h5 : (d.extract 0 xs.toArray.size).toList = d.toList := by rw [← h1]; simp
    have h6 : (xs.toArray.extract 0 xs.toArray.size).toList = xs := by simp
    rwa [h5, h6] at h3
  · rw [List.pairwise_iff_getElem]
    intro i j hi hj hij
    simp at hi hj
    have := h4 i j (Nat.zero_le _) hij (by rw [← h1]; exact hj)
    rw [getElem!_pos d i hi, getElem!_pos d j hj] at this
    simpa using this
theorem srt_len {cf : α → α → Int} (hO : Sort.SWO (ltOf cf)) (xs : List α) : (srt cf xs).length = xs.length := (srt_spec hO xs).1.length_eq
theorem Xbt (L : SlLaysF0.n6 P ρ) (ha : isAggT P (ρ.t 24) s = true) (hlen : ∀ x, (enc x).length = s) (h1 : ∀ x, One (enc x)) (hs : Nat.blt 0 s = true) {cf : α → α → Int} (hO : Sort.SWO (ltOf cf)) {g : Nat} {fn : Func} (hf : P.funcs[g]? = some fn) (hb : (!(fn.name == "runtime.NumGoroutine") && !fn.body.isNone) = true) {cb : List Value}
    {xs : List α} (hL : Lent w [.row A c e s xs.length (xs.flatMap enc)]) (hn : xs.length ≤ lim)
    (hcmp : ∀ w1 : World, w.heap.size ≤ w1.heap.size → (∀ b, b < w.heap.size → rblk A c ≠ some b → w1.heap[b]? = w.heap[b]?) → ∀ x y, CallsR P g ([.agg (enc x).toArray, .agg (enc y).toArray] ++ cb) w1 (fun v w' => v = .int .i64 (cf x y) ∧ Mem w1 [] w' [])) :
    CallsR P (ρ.f 6) [.slice A xs.length c, .func (.func g) #[] cb.toArray] w (fun v w' => v = .tuple #[] ∧ xs.length = (srt cf xs).length ∧ Mem w [rblk A c] w' [.row A c e s (srt cf xs).length ((srt cf xs).flatMap enc)]) := by
  have hs' : 0 < s := by simpa using hs
  have hM : Mem w [rblk A c] w [.row A c e s xs.length (xs.flatMap enc)] := Mem.lendN hL
  by_cases h0 : xs.length = 0
  · have hx0 : xs = [] := List.eq_nil_of_length_eq_zero h0
    subst hx0
    have hz : srt cf ([] : List α) = [] := List.eq_nil_of_length_eq_zero (srt_len hO _)
    rw [hz]
    refine Calls.mono (AnyF.slices_SortFunc_none L A c _ w) fun e w' ⟨he, hw⟩ => ?_
    subst hw
    exact ⟨_, he, rfl, rfl, hM⟩
  · obtain ⟨blk, cur, rfl, hg, hnc, hsz, htk⟩ := hM.row_block (j := 0) rfl (by omega)
    have hc0 : c ≠ 0 := by omega
    have hrb : rblk (some ⟨blk, 0, none⟩ : Option Addr) c = some blk := rblk_pos hc0
    have hlt : blk < w.heap.size := (Array.getElem?_eq_some_iff.1 hg).1
    have hfl : (Sort.flatK enc s xs.toArray).toList = xs.flatMap enc := by rw [flatK_list hlen hs']
    have hle : xs.length * s ≤ cur.size := by rw [hsz]; exact Nat.mul_le_mul_right _ hnc
    have hH : Sort.HoldsK enc s w blk 0 xs.toArray := fun j hj => by
      have hj' : j < xs.length * s := by simpa using hj
      have hcell : cur[j]? = some ((Sort.flatK enc s xs.toArray)[j]!) := by
        have h2 : (cur.toList.take (xs.length * s))[j]? = (xs.flatMap enc)[j]? := by rw [htk]
        rw [List.getElem?_take_of_lt hj', ← hfl] at h2
        simp only [Array.getElem?_toList] at h2
        rw [h2, getElem!_pos (Sort.flatK enc s xs.toArray) j hj, Array.getElem?_eq_getElem hj]
      constructor
      · show w.cell? ⟨blk, 0 + j, none⟩ = _
        rw [Nat.zero_add]
        have hcl := cell_of_row w blk j cur e (0, 0) hg
        rw [hcl, hcell]
        rfl
      · show w.frozen? ⟨blk, 0 + j, none⟩ = false
        unfold World.frozen?
        simp [hg]
    obtain ⟨a1, a2⟩ : (∀ w, (isAgg (ρ.t 24)).run P w = .ok true w) ∧ ∀ w, (Go.sizeOf (ρ.t 24)).run P w = .ok s w := ⟨fun w => (isAggT_run ha w).1, fun w => (isAggT_run ha w).2⟩
    have heg : ∀ args w, (callFunc g args).run P w = .ok (.enter g args) w := fun args w => run_callFunc (w := w) hf hb args
    have hcl : CmpLays P g cb.toArray enc s cf blk 0 xs.toArray.size w := fun m os dk hdk x y => by
      have h2 := hcmp (sortWorldK enc s w blk 0 m dk os) (by show w.heap.size ≤ ((Sort.putRow id (Sort.ahead w m) blk 0 (Sort.flatK enc s dk)).heap ++ os).size; simp) (fun b hb hne => sortW_other (fun e => hne (by rw [hrb, e])) hb) x y
      rw [show (#[Value.agg (enc x).toArray, Value.agg (enc y).toArray] ++ cb.toArray : Array Value) = ([Value.agg (enc x).toArray, Value.agg (enc y).toArray] ++ cb).toArray by simp]
      refine Calls.mono h2 fun e w' ⟨v, he, hv, hm⟩ => ?_
      subst hv
      obtain ⟨q, os', hw⟩ := hm.chg.grow
      exact ⟨he, q, os', hw⟩
    have hlim : xs.toArray.size < 4611686018427387904 := by simp only [lim] at hn; simp; omega
    have key := AnyQ.slices_SortFunc_eq L s a1 a2 enc hlen (fun x v hv => h1 x v hv) cf hO g cb.toArray blk 0 c xs.toArray w heg hcl hH hlt hlim
    refine Calls.mono key fun ee w' ⟨he, nn, os, hw⟩ => ?_
    have hsl := srt_len hO xs
    generalize hd : Sort.pdq (ltOf cf) xs.toArray 0 xs.toArray.size (Lib.bitLen xs.toArray.size) true true = dd at hw
    have hds : srt cf xs = dd.toList := by unfold srt; rw [hd]
    rw [hds] at hsl ⊢
    have hfd : (Sort.flatK enc s dd).toList = dd.toList.flatMap enc := flatK_list hlen hs' dd
    have hdz : dd.size = xs.length := by simpa using hsl
    subst hw
    refine ⟨_, he, rfl, hsl.symm, ?_⟩
    rw [hrb]
    refine ⟨⟨rfl, rfl, rfl, by show w.heap.size ≤ ((Sort.putRow id (Sort.ahead w nn) blk 0 (Sort.flatK enc s dd)).heap ++ os).size; simp, fun b hb hne => sortW_other (fun e => hne (by simp [e])) hb, by show w.drawn ≤ w.drawn + nn; omega⟩, fun i o hi => ?_, fun i o gg hi hgg => ?_, fun i j a b gg hi hj ha hb => ?_⟩
    · cases i <;> simp at hi
      subst hi
      refine Ob.ok_row ⟨by rw [flat_length hlen]; simp, .inr ⟨blk, c, _, rfl, Nat.zero_le _, sortW_own hg, by rw [hdz]; exact hnc, (hM.rd (i := 0) rfl).most, by simp [Sort.putCells, hsz], ?_⟩⟩
      rw [hdz]
      apply List.ext_getElem?
      intro i
      by_cases hi : i < xs.length * s
      · rw [List.getElem?_take_of_lt hi, ← hfd]
        have hic : i < cur.size := by omega
        have hif : i < (Sort.flatK enc s dd).size := by simp [hdz]; exact hi
        simp only [Array.getElem?_toList, Sort.putCells, Array.getElem?_mapIdx, Array.getElem?_eq_getElem hic, Option.map_some, Nat.sub_zero]
        rw [if_pos ⟨Nat.zero_le _, by omega⟩, Array.getElem?_eq_getElem hif, getElem!_pos (Sort.flatK enc s dd) i hif]
        rfl
      · rw [List.getElem?_eq_none (by simp [Sort.putCells]; omega), List.getElem?_eq_none (by rw [flat_length hlen, hsl]; omega)]
    · cases i <;> simp at hi
      subst hi
      have := Ob.has_row.1 hgg
      rw [hrb] at this
      exact .inr (by simp [← this])
    · cases i <;> simp at hi
      cases j <;> simp at hj
      rfl
end
end Go.Ox

set_option linter.unusedVariables false
namespace Go.Ox
open Go Go.RowKit
section
variable {F : Fence} {P : Program} {ops : Array Oper} {Q : Exit → Act → World → Prop} {rest : List Oper} {n n0 : Fr} {d : Nat} {l l1 l' : List (Nat × Value)} {w w0 w' : World} {L : List Ob} {S : List (Option Nat)}
variable {ty t kt et : TypeId} {pos : String} {after : Array Edge} {v : Value} {i j : Nat} {x y z : Operand}
def MapAt (g : Nat) (es : List MapEntry) (ck : Nat) (w : World) : Prop := w.heap[g]? = some (.map es.toArray ck)
theorem MapAt.fut {g ck : Nat} {es : List MapEntry} (h : MapAt g es ck w) (hf : Chg [] w w') : MapAt g es ck w' := by
  have hlt : g < w.heap.size := (Array.getElem?_eq_some_iff.1 h).1
  unfold MapAt at h ⊢
  rw [hf.block g hlt (by simp)]; exact h
def StrAt (g : Nat) (s : ByteArray) (p : Nat) (w : World) : Prop := w.heap[g]? = some (.stringIter s p)
theorem E.range {s : ByteArray} (hM : Mem w0 S w L) (hs : P.underlying t = some .string) (hx : ev l x = some (.string s)) : Eff P (.range t x) ty l w (fun v w' => ∃ g, v = .pointer (some ⟨g, 0, none⟩) ∧ Mem w0 S w' (L ++ [.res [g] (StrAt g s 0)]) ∧ Chg [] w w') := by
  have hb : Below w.heap.size w (w.alloc (.stringIter s 0)) := (Below.refl _ w).alloc (Nat.le_refl _) _
  refine ⟨.pointer (some ⟨w.heap.size, 0, none⟩), w.alloc (.stringIter s 0), fun ρ hρ _ _ _ _ => ?_, w.heap.size, rfl, hM.push (o := .res [w.heap.size] (StrAt w.heap.size s 0)) hb ⟨fun g hg => by simp at hg; subst hg; simp, fun w1 h1 => by
    rw [StrAt, h1 _ (by simp)]; exact World.alloc_heap_new w _⟩ (fun g hg => by have := Ob.has_res.1 hg; simp at this; omega), .of_below hb⟩
  simp only [execOp, hρ x _ hx]
  simp [Instr.range, run_underlying hs, Result.andThen]
theorem RD.mcallv [WF F] {ld mv pu : List Nat} {X : List (Option Nat)} {r : Ordr} {f : FuncId} {fn : Func} {first captured vs : List Value} {dst : Option Nat} {fx : Operand} {args : List Operand} {ats : Array TypeId} {R : Value → World → Prop} {gd : Option (Nat × Bool)}
    (ho : ops[i]? = some ⟨dst, .call ⟨.value fx, args.toArray, ats⟩, ty, pos, after, gd⟩) (hm : mv.contains i = true)
    (hg : match gd with
      | none => True
      | some (j, b) => yl ops l j = some b ∧ ylt ops j n = true)
    (hfx : ev l fx = some (.func (.func f) first.toArray captured.toArray))
    (hf : P.funcs[f]? = some fn) (hb : (!(fn.name == "runtime.NumGoroutine") && !fn.body.isNone) = true) (hv : evs l args = some vs) (hd : (match dst with
      | some d => Nat.blt d n.n
      | none => true) = true)
    (h : CallsR P f (first ++ vs ++ captured) w R) (hk : ∀ v w', R v w' → (ld.contains i = false → Chg X w w') ∧ RD F P ops Q ld mv pu X r n (match dst with
      | some d => (d, v) :: l
      | none => l) w') : RD F P ops Q ld mv pu X (.cons i r) n l w :=
  RD.step ho hm fun K hK a ha => by
    have hw : Region.wanted ⟨dst, .call ⟨.value fx, args.toArray, ats⟩, ty, pos, after, gd⟩ (yielded ops a.tmps) = true := by
      cases gd with
      | none => rfl
      | some jb => obtain ⟨j, b⟩ := jb; simp [Region.wanted, yl_yielded ha hg.1 (ylt_spec hg.2)]
    rw [if_pos hw]
    refine wpIn_call (ha.ev hfx) hf hb (by simp [ha.evs hv]) h fun v w' hr => hK _ _ ⟨(hk v w' hr).1, (hk v w' hr).2 _ ?_⟩
    cases dst with
    | none => exact ha
    | some d => exact ha.put hd
end
end Go.Ox

set_option linter.unusedVariables false
namespace Go.Ox
open Go Go.RowKit Go.Shelf Go.Proofs
def Ob.isBox : Ob → Bool
  | .box .. => true
  | _ => false
theorem Ob.isBox_eq {o : Ob} (h : o.isBox = true) : ∃ g e cs, o = .box g e cs := by
  cases o with
  | box g e cs => exact ⟨g, e, cs, rfl⟩
  | row A c e s n cs => cases h
  | res Z φ => cases h
theorem Ob.box_all {Ls : List Ob} (hb : Ls.all Ob.isBox = true) {i : Nat} {o : Ob} (hi : Ls[i]? = some o) : ∃ g e cs, o = .box g e cs :=
  Ob.isBox_eq (List.all_eq_true.1 hb o (List.mem_of_getElem? hi))
theorem Mem.still {w w' : World} {Ls : List Ob} {S : List (Option Nat)} (h : Mem w S w' Ls) (hL : Lent w Ls) (hb : Ls.all Ob.isBox = true) (hS : Ls.flatMap Ob.blks = S) : Mem w [] w' [] := by
  refine ⟨⟨h.chg.os, h.chg.tape, h.chg.output, h.chg.size, fun k hk _ => ?_, h.chg.drawn⟩, fun i o hi => by simp at hi, fun i o g hi => by simp at hi, fun i j a b g hi => by simp at hi⟩
  by_cases hm : some k ∈ S
  · rw [← hS] at hm
    obtain ⟨i, o, hi, hg⟩ := map_blk hm
    obtain ⟨g, e, cs, rfl⟩ := Ob.box_all hb hi
    have hgk := Ob.has_box.1 hg
    subst hgk
    have h1 : w'.heap[g]? = some (.cells cs.toArray e (0, 0)) := h.ok i _ hi
    have h2 : w.heap[g]? = some (.cells cs.toArray e (0, 0)) := hL.ok i _ hi
    rw [h1, h2]
  · exact h.chg.block k hk hm
variable {P : Program} {ρ : Ren} {α : Type} [Inhabited α] {enc : α → List Value} {w w0 w' : World} {A : Option Addr} {s c k : Nat} {e : TypeId}
theorem Xbu {Ls : List Ob} (L : SlLaysF0.n6 P ρ) (ha : isAggT P (ρ.t 24) s = true) (hlen : ∀ x, (enc x).length = s) (h1 : ∀ x, One (enc x)) (hs : Nat.blt 0 s = true) {cf : α → α → Int} (hO : Sort.SWO (ltOf cf)) {g : Nat} {fn : Func} (hf : P.funcs[g]? = some fn) (hb : (!(fn.name == "runtime.NumGoroutine") && !fn.body.isNone) = true) {cb : List Value}
    {xs : List α} (hL : Lent w (.row A c e s xs.length (xs.flatMap enc) :: Ls)) (hB : Ls.all Ob.isBox = true) (hn : xs.length ≤ lim)
    (hcmp : ∀ w1 : World, Lent w1 Ls → ∀ x y, CallsR P g ([.agg (enc x).toArray, .agg (enc y).toArray] ++ cb) w1 (fun v w' => v = .int .i64 (cf x y) ∧ Mem w1 [] w' [])) :
    CallsR P (ρ.f 6) [.slice A xs.length c, .func (.func g) #[] cb.toArray] w (fun v w' => v = .tuple #[] ∧ xs.length = (srt cf xs).length ∧ Mem w [rblk A c] w' [.row A c e s (srt cf xs).length ((srt cf xs).flatMap enc)]) := by
  have hR : Lent w [.row A c e s xs.length (xs.flatMap enc)] := ⟨fun i o hi => by
    cases i with
    | zero => exact hL.ok 0 o (by simpa using hi)
    | succ i => simp at hi, fun i j a b g hi hj _ _ => by
    cases i <;> cases j <;> simp at hi hj
    rfl⟩
  refine Xbt L ha hlen h1 hs hO hf hb hR hn fun w1 hsz hbl x y => hcmp w1 ⟨fun i o hi => ?_, fun i j a b g hi hj ha hb => ?_⟩ x y
  · obtain ⟨g, e', cs, rfl⟩ := Ob.box_all hB hi
    have h2 : (Ob.box g e' cs).ok w := hL.ok (i + 1) _ (by simpa using hi)
    have h2 : w.heap[g]? = some (.cells cs.toArray e' (0, 0)) := h2
    have hlt : g < w.heap.size := (Array.getElem?_eq_some_iff.1 h2).1
    have hne : rblk A c ≠ some g := fun he => by
      have := hL.sep 0 (i + 1) _ _ g rfl (by simpa using hi) (Ob.has_row.2 he) (Ob.has_box.2 rfl)
      omega
    show w1.heap[g]? = some (.cells cs.toArray e' (0, 0))
    rw [hbl g hlt hne]; exact h2
  · have := hL.sep (i + 1) (j + 1) a b g (by simpa using hi) (by simpa using hj) ha hb
    omega
end Go.Ox
