/- A plain library: rows that Go's library sorts. No program is named here. -/
import Derived.Test.YtidbgejnkpoeeaaOxK
import Derived.Shelf.SlSortCmp.WholeK
import Derived.Shelf.SlSortCmp.NoneTotal
set_option linter.unusedVariables false
namespace Go.Ox
open Go Go.RowKit Go.Shelf Go.Proofs
section
variable {P : Program} {ρ : Ren} {α : Type} [Inhabited α] {enc : α → List Value} {w w0 w' : World} {A : Option Addr} {s c k : Nat} {e : TypeId}
theorem Chg.grow (h : Chg [] w w') : ∃ q os, w' = Sort.grow (w.drewN q) os := by
  refine ⟨w'.drawn - w.drawn, w'.heap.extract w.heap.size w'.heap.size, ?_⟩
  have h1 := h.os; have h2 := h.tape; have h3 := h.output; have h4 := h.drawn; have h5 := h.size; have h6 := h.block
  cases w with
  | mk heap tape drawn os output =>
    cases w' with
    | mk heap' tape' drawn' os' output' =>
      simp only at h1 h2 h3 h4 h5 h6
      subst h1; subst h2; subst h3
      simp only [Sort.grow, World.drewN, World.mk.injEq, true_and, and_true]
      refine ⟨?_, by omega⟩
      apply Array.ext_getElem?
      intro i
      by_cases hi : i < heap.size
      · rw [Array.getElem?_append_left hi]
        exact h6 i hi (by simp)
      · rw [Array.getElem?_append_right (by omega), Array.getElem?_extract]
        split
        · congr 1; omega
        · rw [Array.getElem?_eq_none (by omega)]
theorem sortW_other {blk m : Nat} {dk : Array α} {os : Array Obj} {b : Nat} (hb : b ≠ blk) (hl : b < w.heap.size) : (sortWorldK enc k w blk 0 m dk os).heap[b]? = w.heap[b]? := by
  have hs : (Sort.putRow id (Sort.ahead w m) blk 0 (Sort.flatK enc k dk)).heap.size = w.heap.size := by simp
  show ((Sort.putRow id (Sort.ahead w m) blk 0 (Sort.flatK enc k dk)).heap ++ os)[b]? = _
  rw [Array.getElem?_append_left (by rw [hs]; exact hl)]
  simp only [Sort.putRow, Sort.mapBlock, Array.getElem?_modify]
  rw [if_neg (fun e => hb e.symm)]
  rfl
theorem sortW_own {blk m : Nat} {dk : Array α} {os : Array Obj} {cur : Array Value} (hg : w.heap[blk]? = some (.cells cur e (0, 0))) : (sortWorldK enc k w blk 0 m dk os).heap[blk]? = some (.cells (Sort.putCells id 0 (Sort.flatK enc k dk) cur) e (0, 0)) := by
  have hl : blk < w.heap.size := (Array.getElem?_eq_some_iff.1 hg).1
  have hs : (Sort.putRow id (Sort.ahead w m) blk 0 (Sort.flatK enc k dk)).heap.size = w.heap.size := by simp
  show ((Sort.putRow id (Sort.ahead w m) blk 0 (Sort.flatK enc k dk)).heap ++ os)[blk]? = _
  rw [Array.getElem?_append_left (by rw [hs]; exact hl)]
  simp only [Sort.putRow, Sort.mapBlock, Array.getElem?_modify, if_true]
  show Option.map _ (w.heap[blk]?) = _
  rw [hg]
  rfl
theorem flatK_list (hk : ∀ x, (enc x).length = s) (hs : 0 < s) (d : Array α) : (Sort.flatK enc s d).toList = d.toList.flatMap enc := by
  apply List.ext_getElem?
  intro i
  by_cases hi : i < d.size * s
  · have hq : i / s < d.size := (Nat.div_lt_iff_lt_mul hs).2 hi
    have h1 := flatMap_getElem? hk d.toList (i / s) (i % s) d[i / s]! (by simp [hq]) (Nat.mod_lt _ hs)
    rw [Nat.div_add_mod' i s] at h1
    rw [h1]
    have hm : i % s < (enc d[i / s]!).length := by rw [hk]; exact Nat.mod_lt _ hs
    have h2 := Sort.get_flatK enc s d i hi
    have hsz : i < (Sort.flatK enc s d).toList.length := by simpa using hi
    rw [List.getElem?_eq_getElem hsz, List.getElem?_eq_getElem hm]
    have hsz' : i < (Sort.flatK enc s d).size := by simpa using hi
    rw [getElem!_pos (Sort.flatK enc s d) i hsz', getElem!_pos (enc d[i / s]!) (i % s) hm] at h2
    simpa using h2
  · rw [List.getElem?_eq_none (by simp; omega), List.getElem?_eq_none (by rw [flat_length hk]; simp; omega)]
/-- What Go's library makes of a row, sorted. -/
def srt (cf : α → α → Int) (xs : List α) : List α := (Sort.pdq (ltOf cf) xs.toArray 0 xs.toArray.size (Lib.bitLen xs.toArray.size) true true).toList
theorem srt_spec {cf : α → α → Int} (hO : Sort.SWO (ltOf cf)) (xs : List α) : (srt cf xs).Perm xs ∧ (srt cf xs).Pairwise (fun x y => ltOf cf y x = false) := by
  obtain ⟨⟨h1, h2, h3⟩, h4⟩ := Sort.pdq_sorts (ltOf cf) hO xs.toArray 0 xs.toArray.size (Lib.bitLen xs.toArray.size) true true (Nat.zero_le _) (Nat.le_refl _) (Or.inl rfl)
  generalize hd : Sort.pdq (ltOf cf) xs.toArray 0 xs.toArray.size (Lib.bitLen xs.toArray.size) true true = d at *
  have e : srt cf xs = d.toList := by unfold srt; rw [hd]
  rw [e]
  refine ⟨?_, ?_⟩
  · have h5 : (d.extract 0 xs.toArray.size).toList = d.toList := by rw [← h1]; simp
    have h6 : (xs.toArray.extract 0 xs.toArray.size).toList = xs := by simp
    rwa [h5, h6] at h3
  · rw [List.pairwise_iff_getElem]
    intro i j hi hj hij
    simp at hi hj
    have := h4 i j (Nat.zero_le _) hij (by rw [← h1]; exact hj)
    rw [getElem!_pos d i hi, getElem!_pos d j hj] at this
    simpa using this
theorem srt_len {cf : α → α → Int} (hO : Sort.SWO (ltOf cf)) (xs : List α) : (srt cf xs).length = xs.length := (srt_spec hO xs).1.length_eq
/-- slices.SortFunc on a row that is lent. -/
theorem c_srt (L : SlLaysF0.n6 P ρ) (ha : isAggT P (ρ.t 24) s = true) (hlen : ∀ x, (enc x).length = s) (h1 : ∀ x, One (enc x)) (hs : Nat.blt 0 s = true) {cf : α → α → Int} (hO : Sort.SWO (ltOf cf)) {g : Nat} {fn : Func} (hf : P.funcs[g]? = some fn) (hb : (!(fn.name == "runtime.NumGoroutine") && !fn.body.isNone) = true) {cb : List Value}
    {xs : List α} (hL : Lent w [.row A c e s xs.length (xs.flatMap enc)]) (hn : xs.length ≤ lim)
    (hcmp : ∀ w1 : World, w.heap.size ≤ w1.heap.size → (∀ b, b < w.heap.size → rblk A c ≠ some b → w1.heap[b]? = w.heap[b]?) → ∀ x y, CallsR P g ([.agg (enc x).toArray, .agg (enc y).toArray] ++ cb) w1 (fun v w' => v = .int .i64 (cf x y) ∧ Mem w1 [] w' [])) :
    CallsR P (ρ.f 6) [.slice A xs.length c, .func (.func g) #[] cb.toArray] w (fun v w' => v = .tuple #[] ∧ xs.length = (srt cf xs).length ∧ Mem w [rblk A c] w' [.row A c e s (srt cf xs).length ((srt cf xs).flatMap enc)]) := by
  have hs' : 0 < s := by simpa using hs
  have hM : Mem w [rblk A c] w [.row A c e s xs.length (xs.flatMap enc)] := Mem.lendN hL
  by_cases h0 : xs.length = 0
  · have hx0 : xs = [] := List.eq_nil_of_length_eq_zero h0
    subst hx0
    have hz : srt cf ([] : List α) = [] := List.eq_nil_of_length_eq_zero (srt_len hO _)
    rw [hz]
    refine Calls.mono (AnyF.slices_SortFunc_none L A c _ w) fun e w' ⟨he, hw⟩ => ?_
    subst hw
    exact ⟨_, he, rfl, rfl, hM⟩
  · obtain ⟨blk, cur, rfl, hg, hnc, hsz, htk⟩ := hM.row_block (j := 0) rfl (by omega)
    have hc0 : c ≠ 0 := by omega
    have hrb : rblk (some ⟨blk, 0, none⟩ : Option Addr) c = some blk := rblk_pos hc0
    have hlt : blk < w.heap.size := (Array.getElem?_eq_some_iff.1 hg).1
    have hfl : (Sort.flatK enc s xs.toArray).toList = xs.flatMap enc := by rw [flatK_list hlen hs']
    have hle : xs.length * s ≤ cur.size := by rw [hsz]; exact Nat.mul_le_mul_right _ hnc
    have hH : Sort.HoldsK enc s w blk 0 xs.toArray := fun j hj => by
      have hj' : j < xs.length * s := by simpa using hj
      have hcell : cur[j]? = some ((Sort.flatK enc s xs.toArray)[j]!) := by
        have h2 : (cur.toList.take (xs.length * s))[j]? = (xs.flatMap enc)[j]? := by rw [htk]
        rw [List.getElem?_take_of_lt hj', ← hfl] at h2
        simp only [Array.getElem?_toList] at h2
        rw [h2, getElem!_pos (Sort.flatK enc s xs.toArray) j hj, Array.getElem?_eq_getElem hj]
      constructor
      · show w.cell? ⟨blk, 0 + j, none⟩ = _
        rw [Nat.zero_add]
        have hcl := cell_of_row w blk j cur e (0, 0) hg
        rw [hcl, hcell]
        rfl
      · show w.frozen? ⟨blk, 0 + j, none⟩ = false
        unfold World.frozen?
        simp [hg]
    obtain ⟨a1, a2⟩ : (∀ w, (isAgg (ρ.t 24)).run P w = .ok true w) ∧ ∀ w, (Go.sizeOf (ρ.t 24)).run P w = .ok s w := ⟨fun w => (isAggT_run ha w).1, fun w => (isAggT_run ha w).2⟩
    have heg : ∀ args w, (callFunc g args).run P w = .ok (.enter g args) w := fun args w => run_callFunc (w := w) hf hb args
    have hcl : CmpLays P g cb.toArray enc s cf blk 0 xs.toArray.size w := fun m os dk hdk x y => by
      have h2 := hcmp (sortWorldK enc s w blk 0 m dk os) (by show w.heap.size ≤ ((Sort.putRow id (Sort.ahead w m) blk 0 (Sort.flatK enc s dk)).heap ++ os).size; simp) (fun b hb hne => sortW_other (fun e => hne (by rw [hrb, e])) hb) x y
      rw [show (#[Value.agg (enc x).toArray, Value.agg (enc y).toArray] ++ cb.toArray : Array Value) = ([Value.agg (enc x).toArray, Value.agg (enc y).toArray] ++ cb).toArray by simp]
      refine Calls.mono h2 fun e w' ⟨v, he, hv, hm⟩ => ?_
      subst hv
      obtain ⟨q, os', hw⟩ := hm.chg.grow
      exact ⟨he, q, os', hw⟩
    have hlim : xs.toArray.size < 4611686018427387904 := by simp only [lim] at hn; simp; omega
    have key := AnyQ.slices_SortFunc_eq L s a1 a2 enc hlen (fun x v hv => h1 x v hv) cf hO g cb.toArray blk 0 c xs.toArray w heg hcl hH hlt hlim
    refine Calls.mono key fun ee w' ⟨he, nn, os, hw⟩ => ?_
    have hsl := srt_len hO xs
    generalize hd : Sort.pdq (ltOf cf) xs.toArray 0 xs.toArray.size (Lib.bitLen xs.toArray.size) true true = dd at hw
    have hds : srt cf xs = dd.toList := by unfold srt; rw [hd]
    rw [hds] at hsl ⊢
    have hfd : (Sort.flatK enc s dd).toList = dd.toList.flatMap enc := flatK_list hlen hs' dd
    have hdz : dd.size = xs.length := by simpa using hsl
    subst hw
    refine ⟨_, he, rfl, hsl.symm, ?_⟩
    rw [hrb]
    refine ⟨⟨rfl, rfl, rfl, by show w.heap.size ≤ ((Sort.putRow id (Sort.ahead w nn) blk 0 (Sort.flatK enc s dd)).heap ++ os).size; simp, fun b hb hne => sortW_other (fun e => hne (by simp [e])) hb, by show w.drawn ≤ w.drawn + nn; omega⟩, fun i o hi => ?_, fun i o gg hi hgg => ?_, fun i j a b gg hi hj ha hb => ?_⟩
    · cases i <;> simp at hi
      subst hi
      refine Ob.ok_row ⟨by rw [flat_length hlen]; simp, .inr ⟨blk, c, _, rfl, Nat.zero_le _, sortW_own hg, by rw [hdz]; exact hnc, (hM.rd (i := 0) rfl).most, by simp [Sort.putCells, hsz], ?_⟩⟩
      rw [hdz]
      apply List.ext_getElem?
      intro i
      by_cases hi : i < xs.length * s
      · rw [List.getElem?_take_of_lt hi, ← hfd]
        have hic : i < cur.size := by omega
        have hif : i < (Sort.flatK enc s dd).size := by simp [hdz]; exact hi
        simp only [Array.getElem?_toList, Sort.putCells, Array.getElem?_mapIdx, Array.getElem?_eq_getElem hic, Option.map_some, Nat.sub_zero]
        rw [if_pos ⟨Nat.zero_le _, by omega⟩, Array.getElem?_eq_getElem hif, getElem!_pos (Sort.flatK enc s dd) i hif]
        rfl
      · rw [List.getElem?_eq_none (by simp [Sort.putCells]; omega), List.getElem?_eq_none (by rw [flat_length hlen, hsl]; omega)]
    · cases i <;> simp at hi
      subst hi
      have := Ob.has_row.1 hgg
      rw [hrb] at this
      exact .inr (by simp [← this])
    · cases i <;> simp at hi
      cases j <;> simp at hj
      rfl
end
end Go.Ox
