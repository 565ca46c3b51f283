/- A plain library: parts of strings, strings put together, noughts that are appended, rows that are cut short. No program is named here. -/
import Derived.Test.YtidbgejnkpoeeaaOxI
set_option linter.unusedVariables false
namespace Go.Ox
open Go Go.RowKit
section
variable {F : Fence} {P : Program} {ops : Array Oper} {Q : Exit → Act → World → Prop} {rest : List Oper} {n : Fr} {d : Nat} {l l' : List (Nat × Value)} {w w0 w' : World} {L : List Ob} {S : List (Option Nat)}
variable {o : Op} {ty : TypeId} {pos : String} {after : Array Edge} {v : Value}
variable {x y z : Operand} {k k' k2 : IntKind} {p q : Int} {t t' e : TypeId} {A A2 : Option Addr} {s c c2 b m n1 : Nat} {i j : Nat}
variable {α : Type} {enc : α → List Value}

/-! ### Strings -/
def gcutS (a : ByteArray) (p q : Int) : Option ByteArray := if 0 ≤ p ∧ p ≤ q ∧ q ≤ a.size then some (a.extract p.toNat q.toNat) else none
theorem gcutS_some {a r : ByteArray} (h : gcutS a p q = some r) : 0 ≤ p ∧ p ≤ q ∧ q ≤ a.size ∧ r = a.extract p.toNat q.toNat := by
  unfold gcutS at h
  split at h
  · rename_i hc
    exact ⟨hc.1, hc.2.1, hc.2.2, (Option.some.inj h).symm⟩
  · cases h
theorem O.cutS {a r : ByteArray} {lo hi : Operand} (ht : P.underlying t = some .string) (h : gcutS a p q = some r) (hx : ev l x = some (.string a)) (hlo : ev l lo = some (.int k p)) (hhi : ev l hi = some (.int k' q)) :
    OpV P (.slice t x (some lo) (some hi) none) ty l w (.string r) := fun ρ hρ _ _ _ _ => by
  obtain ⟨h0, h1, h2, rfl⟩ := gcutS_some h
  have h3 : p ≤ (q.toNat : Int) := by omega
  simp only [execOp, hρ x _ hx, hρ lo _ hlo, hρ hi _ hhi, Option.map_some, Option.map_none]
  simp [Instr.sliceAt, Instr.slice, run_underlying ht, Instr.sliceBounds, run_bound (P := P) (w := w) (k := k') (Int.le_trans h0 h1) h2, run_bound (P := P) (w := w) (k := k) h0 h3]
theorem O.cutSl {a r : ByteArray} {lo : Operand} (ht : P.underlying t = some .string) (h : gcutS a p a.size = some r) (hx : ev l x = some (.string a)) (hlo : ev l lo = some (.int k p)) :
    OpV P (.slice t x (some lo) none none) ty l w (.string r) := fun ρ hρ _ _ _ _ => by
  obtain ⟨h0, h1, h2, rfl⟩ := gcutS_some h
  simp only [execOp, hρ x _ hx, hρ lo _ hlo, Option.map_some, Option.map_none]
  simp [Instr.sliceAt, Instr.slice, run_underlying ht, Instr.sliceBounds, run_bound (P := P) (w := w) (k := k) h0 h1]
theorem O.cutSh {a r : ByteArray} {hi : Operand} (ht : P.underlying t = some .string) (h : gcutS a 0 q = some r) (hx : ev l x = some (.string a)) (hhi : ev l hi = some (.int k q)) :
    OpV P (.slice t x none (some hi) none) ty l w (.string r) := fun ρ hρ _ _ _ _ => by
  obtain ⟨h0, h1, h2, rfl⟩ := gcutS_some h
  simp only [execOp, hρ x _ hx, hρ hi _ hhi, Option.map_some, Option.map_none]
  simp [Instr.sliceAt, Instr.slice, run_underlying ht, Instr.sliceBounds, run_bound (P := P) (w := w) (k := k) h1 h2]
theorem O.addS {a r : ByteArray} (h : a.size + r.size ≤ lim) (hx : ev l x = some (.string a)) (hy : ev l y = some (.string r)) : OpV P (.binOp .add t x y t') ty l w (.string (a ++ r)) := fun ρ hρ _ _ _ _ => by
  have h2 : ¬ ((a.size + r.size : Nat) : Int) > IntKind.i64.max := by
    have : IntKind.i64.max = 9223372036854775807 := by decide
    rw [this]; simp only [lim] at h; omega
  have h3 : ¬ IntKind.i64.max < (a.size : Int) + (r.size : Int) := by simpa using h2
  simp only [execOp, hρ x _ hx, hρ y _ hy, eqGuard_at_string]
  simp [binOp, Op.stringOp]
  simp only [lim] at h; omega
/-! ### What nil holds -/
theorem O.cap {A : Option Addr} (ht : SliceT P t e s b) (hx : ev l x = some (.slice A m c)) : OpV P (.call ⟨.builtin .cap, #[x], #[t]⟩) ty l w (.int .i64 c) := fun ρ hρ _ _ _ _ => by
  simp only [execOp]
  simp [resolve, invoke, builtin, hρ x _ hx, Builtin.cap_, run_underlying ht.1, goInt]
theorem O.capn (ht : SliceT P t e s b) (hx : ev l x = some (.slice none 0 0)) : OpV P (.call ⟨.builtin .cap, #[x], #[t]⟩) ty l w (.int .i64 0) := O.cap ht hx
theorem O.lenn (ht : SliceT P t e s b) (hx : ev l x = some (.slice none 0 0)) : OpV P (.call ⟨.builtin .len, #[x], #[t]⟩) ty l w (.int .i64 0) := O.len ht hx
theorem O.cutn {hi : Operand} (ht : SliceT P t e s b) (hx : ev l x = some (.slice none 0 0)) (hhi : ev l hi = some (.int k 0)) :
    OpV P (.slice t x none (some hi) none) ty l w (.slice none 0 0) := fun ρ hρ _ _ _ _ => by
  obtain ⟨i, hi', rfl, _⟩ := ht.info
  simp only [execOp, hρ x _ hx, hρ hi _ hhi, Option.map_some, Option.map_none]
  simp [Instr.sliceAt, Instr.slice, run_underlying ht.1, Instr.sliceBounds, run_bound (P := P) (w := w) (k := k) (p := 0) (Y := 0) (by omega) (by omega), sizeOf, typeInfo, hi']
/-! ### Noughts that are appended to nil -/
theorem zero_flat {zr : α} {zs : List Value} (hs : 0 < s) (hlen : ∀ x, (enc x).length = s) (hzr : enc zr = zs) (m : Nat) : (Builtin.zeroCells zs.toArray m).toList = (List.replicate m zr).flatMap enc := by
  have h := made_flat hs hlen hzr m
  have e1 : zs.length = s := by rw [← hzr]; exact hlen zr
  rw [← h]
  simp [Builtin.zeroCells, madeCells, e1]
theorem E.appz0 {zr : α} {zs : List Value} (hM : Mem w0 S w L) (ht : SliceT P t e s b) (hz : ZeroT P e zs) (hs : Nat.blt 0 s = true) (hb : Nat.ble b 128 = true) (hlen : ∀ x, (enc x).length = s) (hzr : enc zr = zs) (hk : P.underlying t' = some (.int .i64))
    (hx : ev l x = some (.slice none 0 0)) (hy : ev l y = some (.int .i64 p)) (hp : 0 ≤ p ∧ p ≤ lim) :
    Eff P (.call ⟨.builtin .append, #[x, y], #[t, t']⟩) ty l w (fun v w' => ∃ A' c', v = .slice A' (List.replicate p.toNat zr).length c' ∧ Mem w0 S w' (L ++ [.row A' c' e s (List.replicate p.toNat zr).length ((List.replicate p.toNat zr).flatMap enc)]) ∧ Chg [] w w') := by
  obtain ⟨i, hinf, hsi, hbb⟩ := ht.info
  obtain ⟨zv, hzv, hzc⟩ := hz.info hinf
  obtain ⟨h0, hl⟩ := hp
  have hb' : b ≤ 128 := Nat.le_of_ble_eq_true hb
  have hl' : p ≤ 1099511627776 := hl
  have hs' : 0 < s := by simpa using hs
  have hw : IntKind.i64.wrap p = p := by
    rw [IntKind.wrap_i64]; omega
  obtain ⟨m, rfl⟩ : ∃ m : Nat, p = m := ⟨p.toNat, by omega⟩
  have hbn : m * b ≤ 140737488355328 := Nat.le_trans (Nat.mul_le_mul (show m ≤ 1099511627776 by omega) hb') (by decide)
  have hbp : (m : Int) * (b : Int) ≤ 140737488355328 := by rw [← Int.natCast_mul]; omega
  have hzf := zero_flat hs' hlen hzr m
  simp only [Int.toNat_natCast] at *
  rcases Nat.eq_zero_or_pos m with hm | hm
  · subst hm
    refine ⟨.slice none 0 0, w, fun ρ hρ _ _ _ _ => ?_, none, 0, rfl, hM.nilrow e s, .refl⟩
    simp only [execOp]
    have hw0 : IntKind.i64.wrap 0 = 0 := by rw [IntKind.wrap_i64]; omega
    simp [resolve, invoke, builtin, hρ x _ hx, hρ y _ hy, Builtin.append_, run_underlying ht.1, run_underlying hk, sizeOf, typeInfo, hinf, asInt, asIntOf, hw0]
  · have h48 : ¬ (281474976710656 < (m : Int) * (i.bytes : Int)) := by rw [hbb]; omega
    have h48' : ¬ (281474976710656 < Builtin.nextslicecap m 0 * i.bytes) := by
      rw [nextslicecap_zero hm, hbb]
      omega
    have hm0 : m ≠ 0 := by omega
    have h63 : ¬ (9223372036854775807 < (m : Int)) := by omega
    have hge := grownCap_ge w m 0 e
    have hneg : ¬ ((m : Int) < 0) := by omega
    have hms : ¬ (m * s = 0) := Nat.ne_of_gt (Nat.mul_pos hm hs')
    have hcm : grownCap w m 0 e ≤ maxLen := grownCap_le_maxLen w m 0 e (by simp only [maxLen]; omega)
    have hsz : zs.length = s := by rw [← hzr]; exact hlen zr
    refine ⟨.slice (some ⟨w.heap.size, 0, none⟩) m (grownCap w m 0 e), w.drew.alloc (.cells (Builtin.zeroCells zs.toArray m ++ Builtin.zeroCells zs.toArray (grownCap w m 0 e - m)) e), fun ρ hρ _ _ _ _ => ?_, some ⟨w.heap.size, 0, none⟩, grownCap w m 0 e, by simp, ?_, .of_below ?_⟩
    · simp only [execOp]
      simp [resolve, invoke, builtin, hρ x _ hx, hρ y _ hy, Builtin.append_, run_underlying ht.1, run_underlying hk, sizeOf, typeInfo, hinf, asInt, asIntOf, hw, h48, h48', h63, hm0, hsi, zeroValue, hzv, hzc, Question.forced, run_firstCells_none, newRow, grownCap, hneg, hms]
    · refine hM.push (w' := w.drew.alloc (.cells (Builtin.zeroCells zs.toArray m ++ Builtin.zeroCells zs.toArray (grownCap w m 0 e - m)) e)) (o := .row (some ⟨w.heap.size, 0, none⟩) (grownCap w m 0 e) e s (List.replicate m zr).length ((List.replicate m zr).flatMap enc)) ⟨rfl, rfl, rfl, by simp, fun k hk => Below.heap_alloc w.drew _ k hk⟩ (Ob.ok_row ⟨by rw [flat_length hlen], .inr ⟨w.heap.size, _, _, by simp, Nat.zero_le _, heap_alloc_new w.drew _, by simpa using hge, hcm, ?_, ?_⟩⟩) (fun g hg => by have h9 := (rblk_some (Ob.has_row.1 hg)).2; simp at h9; omega)
      · simp only [Array.size_append, size_zeroCells, List.size_toArray, hsz, ← Nat.add_mul]
        congr 1
        omega
      · simp only [Array.toList_append, List.length_replicate]
        rw [hzf, show m * s = ((List.replicate m zr).flatMap enc).length by rw [flat_length hlen]; simp]
        exact List.take_left
    · exact ⟨rfl, rfl, rfl, by simp, fun k hk => Below.heap_alloc w.drew _ k hk⟩
/-! ### A row that is cut short -/
theorem O.short {hi : Operand} {xs ys : List α} (ht : SliceT P t e s b) (hr : xs.length ≤ c) (hy : gcut xs 0 q = some ys) (hx : ev l x = some (.slice A xs.length c)) (hhi : ev l hi = some (.int k q)) :
    OpV P (.slice t x none (some hi) none) ty l w (.slice A ys.length c) := by
  obtain ⟨h3, h4, h5, _, h6⟩ := gcut_some hy
  have h := O.cuth (w := w) (ty := ty) ht hx hhi h4 (by omega)
  rw [h6]
  have e1 : (if c = 0 then A else A.map (·.add (0 * s))) = A := by
    split
    · rfl
    · cases A with
      | none => rfl
      | some a => simp [Addr.add_zero']
  rw [e1] at h
  simpa using h
theorem Mem.short {xs ys : List α} (h : Mem w0 S w L) (hlen : ∀ x, (enc x).length = s) (hi : L[i]? = some (.row A c e s xs.length (xs.flatMap enc))) (hy : gcut xs 0 q = some ys) : Mem w0 S w (L.set i (.row A c e s ys.length (ys.flatMap enc))) := by
  obtain ⟨h3, h4, h5, h7, h6⟩ := gcut_some hy
  have hok := h.ok i _ hi
  refine h.updR hi (w' := w) ⟨rfl, rfl, rfl, Nat.le_refl _, fun _ _ _ => rfl⟩ ⟨fun hc => ?_, fun hc => ?_⟩ (.inl rfl)
  · obtain ⟨h1, h2⟩ := hok.1 hc
    refine ⟨by rw [flat_length hlen], ?_⟩
    rcases h2 with ⟨hv, h0⟩ | ⟨g, cap, cur, hv, hb, hh, hn', hcm, hsz, htk⟩
    · injection hv with _ _ hc'; exact absurd hc' hc
    · injection hv with hA hn hc'
      subst hA; subst hc'
      refine .inr ⟨g, c, cur, rfl, hb, hh, by omega, hcm, hsz, ?_⟩
      have h8 : ys.length ≤ xs.length := by omega
      have e2 : (xs.flatMap enc).take (ys.length * s) = ys.flatMap enc := by
        rw [take_flat hlen, h7]
        congr 1
        simp
      rw [← e2, ← htk, List.take_take, Nat.min_eq_left (Nat.mul_le_mul_right _ h8)]
  · obtain ⟨h0, hcs⟩ := hok.2 hc
    have : ys.length = 0 := by omega
    exact ⟨this, by rw [List.eq_nil_of_length_eq_zero this]; rfl⟩
end
end Go.Ox
