/- A plain library: makes, copies to a part of a row, slices with three bounds, rows of structs that hold slices. No program is named here. -/
import Derived.Test.YtidbgejnkpoeeaaOxR
import Derived.Laws.MakeOwn
set_option linter.unusedVariables false
namespace Go.Ox
open Go Go.RowKit
section
variable {F : Fence} {P : Program} {ops : Array Oper} {Q : Exit → Act → World → Prop} {rest : List Oper} {n d : Nat} {l l' : List (Nat × Value)} {w w0 w' : World} {L : List Ob} {S : List (Option Nat)}
variable {o : Op} {ty : TypeId} {pos : String} {after : Array Edge} {v : Value}
variable {x y z : Operand} {k k' k2 : IntKind} {p q : Int} {t t' e : TypeId} {A A2 : Option Addr} {s c c2 b m n1 i0 : Nat}
variable {α : Type} {enc : α → List Value}

/-! ### make -/
theorem made_flat {zr : α} {zs : List Value} (hs : 0 < s) (hlen : ∀ x, (enc x).length = s) (hz : enc zr = zs) (n : Nat) : (madeCells zs.toArray (n * s)).toList = (List.replicate n zr).flatMap enc := by
  apply List.ext_getElem?
  intro i
  subst hz
  have hl : (enc zr).length = s := hlen zr
  by_cases hi : i < n * s
  · have hk : i / s < n := (Nat.div_lt_iff_lt_mul hs).2 hi
    have h1 := flatMap_getElem? hlen (List.replicate n zr) (i / s) (i % s) zr (by simp [hk]) (Nat.mod_lt _ hs)
    rw [Nat.div_add_mod' i s] at h1
    rw [h1]
    have hm : i % s < (enc zr).length := by rw [hl]; exact Nat.mod_lt _ hs
    rw [List.getElem?_eq_getElem hm]
    simp [madeCells, hi, hl, getElem!_def, List.getElem?_eq_getElem hm]
  · rw [List.getElem?_eq_none (by simp [madeCells]; omega), List.getElem?_eq_none (by rw [flat_length hlen]; simp; omega)]
theorem E.mks {zr : α} {zs : List Value} (hM : Mem w0 S w L) (ht : SliceT P t e s b) (hz : ZeroT P e zs) (hs : Nat.blt 0 s = true) (hb : Nat.ble b 128 = true) (hlen : ∀ x, (enc x).length = s) (hzr : enc zr = zs)
    (hx : ev l x = some (.int k p)) (hy : ev l y = some (.int k' p)) (hp : 0 ≤ p ∧ p ≤ lim) :
    Eff P (.makeSlice t x y) ty l w (fun v w' => ∃ A', v = .slice A' (List.replicate p.toNat zr).length p.toNat ∧ Mem w0 S w' (L ++ [.row A' p.toNat e s (List.replicate p.toNat zr).length ((List.replicate p.toNat zr).flatMap enc)]) ∧ Chg [] w w') := by
  obtain ⟨i, hinf, hsz, hbb⟩ := ht.info
  obtain ⟨zv, hzv, hzc⟩ := hz.info hinf
  obtain ⟨h0, hl⟩ := hp
  have hb' : b ≤ 128 := Nat.le_of_ble_eq_true hb
  have hl' : p ≤ 1099511627776 := hl
  have hbp : (b : Int) * p ≤ 128 * p := Int.mul_le_mul_of_nonneg_right (by omega) h0
  have hs' : 0 < s := by simpa using hs
  have hmf := made_flat hs' hlen hzr p.toNat
  have hrun := fun w => run_make (P := P) w t e i zv ht.1 hinf hzv k k' p p h0 (Int.le_refl _) (by rw [hbb]; omega) (by omega)
  rw [hsz, hzc] at hrun
  refine ⟨.slice (some ⟨w.heap.size, 0, none⟩) p.toNat p.toNat, { w with heap := w.heap.push (.cells ((List.replicate p.toNat zr).flatMap enc).toArray e) }, fun ρ hρ _ _ _ _ => ?_, some ⟨w.heap.size, 0, none⟩, by simp, ?_, .of_below (below_push w)⟩
  · simp only [execOp, hρ x _ hx, hρ y _ hy]
    simp only [Sem.run_bind, hrun, Result.andThen_ok]
    rw [← hmf]
    rfl
  · have hlr : (List.replicate p.toNat zr).length = p.toNat := by simp
    refine hM.push (below_push w) (Ob.ok_row ?_) (fun g hg => by have := (rblk_some (Ob.has_row.1 hg)).2; simp at this; omega)
    rw [hlr]
    exact ownsRow_new rfl (by rw [flat_length hlen]; simp) (by simp only [maxLen]; omega)

/-! ### What stays where just some blocks may turn -/
theorem Mem.bxX {g : Nat} {cs : List Value} {Ls : List Ob} (h : Mem w0 S w L) (hi : L[i0]? = some (.box g e cs)) (js : List Nat) (hj : sel L js = some Ls) (hne : js.contains i0 = false) (hf : Chg (Ls.flatMap Ob.blks) w w') : Cs w' ⟨g, 0, none⟩ cs := fun j u hu => by
  have h1 := h.bx hi j u hu
  have hlt := World.block_lt_of_cell? w _ h1
  refine (World.cell?_of_block (w := w) (hf.block _ hlt fun hS => ?_)).trans h1
  rw [add_block] at hS
  obtain ⟨i', o', hi', hb'⟩ := map_blk hS
  obtain ⟨j', hj1, hj2⟩ := (sel_get hj).2 i' o' hi'
  have e := h.sep _ _ _ _ g hj2 hi hb' (Ob.has_box.2 rfl)
  subst e
  simp only [List.contains_eq_mem, decide_eq_false_iff_not] at hne
  exact hne (List.mem_of_getElem? hj1)

/-! ### Slices with three bounds -/
theorem O.cut30 (ht : SliceT P t e s b) (hx : ev l x = some (.slice A m c)) (hy : ev l y = some (.int k 0)) (hz : ev l z = some (.int k' 0)) :
    OpV P (.slice t x none (some y) (some z)) ty l w (.slice A 0 0) := fun ρ hρ _ _ _ _ => by
  obtain ⟨i, hi', hsz, _⟩ := ht.info
  simp only [execOp, hρ x _ hx, hρ y _ hy, hρ z _ hz, Option.map_some, Option.map_none]
  simp [Instr.sliceAt, Instr.slice, run_underlying ht.1, Instr.sliceBounds, run_bound (P := P) (w := w) (Int.le_refl 0), sizeOf, typeInfo, hi']
theorem O.cut3 {lo hi mx : Operand} (ht : SliceT P t e s b) (hx : ev l x = some (.slice A m c)) (hlo : ev l lo = some (.int k p)) (hhi : ev l hi = some (.int k' q)) (hmx : ev l mx = some (.int k2 q)) (h0 : 0 ≤ p) (h1 : p ≤ q) (h2 : q ≤ c) :
    OpV P (.slice t x (some lo) (some hi) (some mx)) ty l w (.slice (if q.toNat = p.toNat then A else A.map (·.add (p.toNat * s))) (q.toNat - p.toNat) (q.toNat - p.toNat)) := fun ρ hρ _ _ _ _ => by
  obtain ⟨i, hi', rfl, _⟩ := ht.info
  have h3 : p ≤ (q.toNat : Int) := by omega
  have h4 : q ≤ (q.toNat : Int) := by omega
  simp only [execOp, hρ x _ hx, hρ lo _ hlo, hρ hi _ hhi, hρ mx _ hmx, Option.map_some]
  simp [Instr.sliceAt, Instr.slice, run_underlying ht.1, Instr.sliceBounds, run_bound (P := P) (w := w) (k := k2) (Int.le_trans h0 h1) h2, run_bound (P := P) (w := w) (k := k') (Int.le_trans h0 h1) h4, run_bound (P := P) (w := w) (k := k) h0 h3, sizeOf, typeInfo, hi']
theorem O.cut3T {w1 : World} {xs ys : List α} {lo hi mx : Operand} (ht : SliceT P t e s b) (hr : Rd w1 A c s xs.length (xs.flatMap enc)) (hy : gcut xs p q = some ys) (hx : ev l x = some (.slice A xs.length c)) (hlo : ev l lo = some (.int k p)) (hhi : ev l hi = some (.int k' q)) (hmx : ev l mx = some (.int k2 q)) :
    OpV P (.slice t x (some lo) (some hi) (some mx)) ty l w (.slice (if q.toNat = p.toNat then A else A.map (·.add (p.toNat * s))) ys.length (q.toNat - p.toNat)) := by
  obtain ⟨h3, h4, h5, _, h6⟩ := gcut_some hy
  rw [h6]
  exact O.cut3 ht hx hlo hhi hmx h3 h4 (by have := hr.cap; omega)
theorem cutN3 (A : Option Addr) (q p s : Nat) : ∃ A' c', A' = (if q = p then A else A.map (·.add (p * s))) ∧ c' = q - p := ⟨_, _, rfl, rfl⟩
/-- string(nil) and the like: a slice without elements. -/
theorem gcut_all (xs : List α) : gcut xs 0 xs.length = some xs := by simp [gcut]

/-! ### copy to a part of a row -/
def cpR (p m : Nat) (xs ys : List Int) : List Int := xs.take p ++ ys.take m ++ xs.drop (p + m)
theorem cpR_len {p m : Nat} {xs ys : List Int} (h : p + m ≤ xs.length) (h2 : m ≤ ys.length) : (cpR p m xs ys).length = xs.length := by simp [cpR]; omega
theorem E.copyR {j b c' : Nat} {ta tb ea : TypeId} {xs cs ys : List Int} {A1 : Option Addr} {m1 : Nat} (hM : Mem w0 S w L) (hi : L[j]? = some (.row A c e 1 xs.length (xs.flatMap (eI k)))) (ht : SliceT P ta ea 1 b)
    (hg : gcut xs p q = some cs) (hA : A1 = (if m1 = p.toNat then A else A.map (·.add (p.toNat * 1)))) (hm1 : cs.length ≠ 0 → m1 ≠ p.toNat)
    (hx : ev l x = some (.slice A1 cs.length c')) (hy : ev l y = some (.slice A2 ys.length c2)) (hr : Rd w A2 c2 1 ys.length (ys.flatMap (eI k))) :
    Eff P (.call ⟨.builtin .copy, #[x, y], #[ta, tb]⟩) ty l w (fun v w' => v = .int .i64 (Nat.min ys.length cs.length : Nat) ∧
      Mem w0 S w' (L.set j (.row A c e 1 (cpR p.toNat (Nat.min ys.length cs.length) xs ys).length ((cpR p.toNat (Nat.min ys.length cs.length) xs ys).flatMap (eI k)))) ∧ xs.length = (cpR p.toNat (Nat.min ys.length cs.length) xs ys).length) := by
  obtain ⟨i, hinfo, hsz, _⟩ := ht.info
  obtain ⟨h3, h4, h5, hcs, h6⟩ := gcut_some hg
  have hjl : j < L.length := (List.getElem?_eq_some_iff.1 hi).1
  have hmy : Nat.min ys.length cs.length ≤ ys.length := Nat.min_le_left _ _
  have hmc : Nat.min ys.length cs.length ≤ cs.length := Nat.min_le_right _ _
  have hlen : (cpR p.toNat (Nat.min ys.length cs.length) xs ys).length = xs.length := cpR_len (by omega) hmy
  rcases Nat.eq_zero_or_pos (Nat.min ys.length cs.length) with h0 | h0
  · have e1 : cpR p.toNat 0 xs ys = xs := by simp [cpR]
    refine ⟨_, w, fun ρ hρ _ _ _ _ => ?_, rfl, ?_, hlen.symm⟩
    · simp only [execOp]
      have hm0 : min ys.length cs.length = 0 := h0
      cases A1 <;> cases A2 <;> simp [resolve, invoke, builtin, hρ x _ hx, hρ y _ hy, Builtin.copy_, run_underlying ht.1, sizeOf, typeInfo, hinfo, Builtin.lenOf, Builtin.firstCells, hm0, goInt, storeCells, load0]
    · rw [h0, e1]
      have : L.set j (.row A c e 1 xs.length (xs.flatMap (eI k))) = L := by
        apply List.ext_getElem?
        intro i
        by_cases h : j = i
        · subst h; rw [List.getElem?_set_self hjl, hi]
        · rw [List.getElem?_set_ne h]
      rw [this]; exact hM
  · have hxl : 0 < xs.length := by omega
    obtain ⟨g, cur, rfl, hgc, hnc, hcsz, htk⟩ := hM.row_block hi hxl
    rw [if_neg (hm1 (by omega))] at hA
    simp only [Option.map_some, Nat.mul_one, add_at] at hA
    subst hA
    obtain ⟨a2, rfl, _, hsrc⟩ := hr.adr (by omega)
    have hmap := flat_map (k := k) ys
    have hcur : cur.toList.take xs.length = xs.flatMap (eI k) := by simpa using htk
    have hcl : xs.length ≤ cur.size := by rw [hcsz]; simpa using hnc
    have hcp := run_copy_row (P := P) w ta tb ty ea g p.toNat cs.length c' a2 ys.length c2 cur e ((ys.take (Nat.min ys.length cs.length)).map fun z => Value.int k z) ht.1 (by simp [hinfo, hsz]) hgc (by simp)
      (fun q u hq => hsrc q u (by
        rw [hmap]
        simp only [List.getElem?_map, List.getElem?_take] at hq ⊢
        split at hq
        · exact hq
        · simp at hq)) (by simp; omega) (fun u hu => by obtain ⟨z, _, rfl⟩ := List.mem_map.1 hu; rfl)
    refine ⟨_, w.setRow g (cur.toList.take p.toNat ++ ((ys.take (Nat.min ys.length cs.length)).map fun z => Value.int k z) ++ cur.toList.drop (p.toNat + ((ys.take (Nat.min ys.length cs.length)).map fun z => Value.int k z).length)).toArray, fun ρ hρ _ _ _ _ => ?_, rfl, hM.updR hi (by rw [show rblk (some ⟨g, 0, none⟩) c = some g from rblk_pos (by omega)]; exact grown_setRow) (Ob.ok_row ?_) (.inl rfl), hlen.symm⟩
    · simp only [execOp]
      simp [resolve, invoke, builtin, hρ x _ hx, hρ y _ hy, hcp, goInt]
    · rw [hlen]
      refine ⟨by rw [flat_length (s := 1) (fun _ => rfl), hlen], .inr ⟨g, c, _, rfl, Nat.zero_le _, setRow_heap w g _ _ e _ hgc, hnc, (hM.rd hi).most, by simp; omega, ?_⟩⟩
      simp only [Nat.mul_one]
      have e2 : (cpR p.toNat (Nat.min ys.length cs.length) xs ys).flatMap (eI k) = (xs.flatMap (eI k)).take p.toNat ++ (ys.take (Nat.min ys.length cs.length)).map (fun z => Value.int k z) ++ (xs.flatMap (eI k)).drop (p.toNat + Nat.min ys.length cs.length) := by
        rw [flat_map, flat_map]
        simp [cpR, List.map_take, List.map_drop]
      rw [e2, ← hcur]
      have hml : ((ys.take (Nat.min ys.length cs.length)).map fun z => Value.int k z).length = Nat.min ys.length cs.length := by simp
      apply List.ext_getElem?
      intro i
      simp only [List.getElem?_take, List.getElem?_append, List.length_append, List.length_take, Array.length_toList, List.getElem?_drop, hml]
      have e3 : min (min p.toNat xs.length) cur.size = p.toNat := by omega
      grind

theorem E.copyR0 {j b : Nat} {ta tb ea : TypeId} {xs ys : List Int} (hM : Mem w0 S w L) (hi : L[j]? = some (.row A c e 1 xs.length (xs.flatMap (eI k)))) (ht : SliceT P ta ea 1 b)
    (hx : ev l x = some (.slice A xs.length c)) (hy : ev l y = some (.slice A2 ys.length c2)) (hr : Rd w A2 c2 1 ys.length (ys.flatMap (eI k))) :
    Eff P (.call ⟨.builtin .copy, #[x, y], #[ta, tb]⟩) ty l w (fun v w' => v = .int .i64 (Nat.min ys.length xs.length : Nat) ∧
      Mem w0 S w' (L.set j (.row A c e 1 (cpR 0 (Nat.min ys.length xs.length) xs ys).length ((cpR 0 (Nat.min ys.length xs.length) xs ys).flatMap (eI k)))) ∧ xs.length = (cpR 0 (Nat.min ys.length xs.length) xs ys).length) :=
  E.copyR (p := 0) (m1 := 1) (cs := xs) hM hi ht (gcut_all xs) (by cases A <;> simp [Addr.add]) (fun _ => by simp) hx hy hr
theorem cut_room {cells : List Value} {xs cs : List α} (hr : Rd w A c s xs.length cells) (hg : gcut xs p q = some cs) : cs.length ≠ 0 → c ≠ p.toNat := fun h => by
  obtain ⟨h3, h4, h5, _, h6⟩ := gcut_some hg
  have := hr.cap
  omega
theorem Rd.nilf : Rd w none 0 s ([] : List α).length (([] : List α).flatMap enc) := Rd.nilr
/-- A variable's cells under other names. -/
theorem Mem.rebox {i g : Nat} {cs cs' : List Value} (h : Mem w0 S w L) (hi : L[i]? = some (.box g e cs)) (he : cs = cs') : Mem w0 S w (L.set i (.box g e cs')) := by
  subst he
  have : L.set i (.box g e cs) = L := by
    apply List.ext_getElem?
    intro j
    by_cases h : i = j
    · subst h; rw [List.getElem?_set_self (List.getElem?_eq_some_iff.1 hi).1, hi]
    · rw [List.getElem?_set_ne h]
  rw [this]; exact h

/-! ### A slice against nil -/
theorem equalIn_sl_nil (ht : P.underlying t = some (.slice e)) (d : Nat) : (Op.equalIn (d + 1) t (.slice A m c) (.slice none 0 0)).run P w = .ok A.isNone w := by
  cases A <;> simp [Op.equalIn, run_underlying ht]
theorem O.sleqn (ht : SliceT P t e s b) (hx : ev l x = some (.slice A m c)) (hy : ev l y = some (.slice none 0 0)) : OpV P (.binOp .eql t x y t') ty l w (.bool A.isNone) :=
  O.eq_other hx hy rfl (by rw [eqGuard_at_slice]; rfl) (equalIn_sl_nil ht.1 9999)
theorem O.slnen (ht : SliceT P t e s b) (hx : ev l x = some (.slice A m c)) (hy : ev l y = some (.slice none 0 0)) : OpV P (.binOp .neq t x y t') ty l w (.bool (!A.isNone)) :=
  O.ne_other hx hy rfl (by rw [eqGuard_at_slice]; rfl) (equalIn_sl_nil ht.1 9999)
theorem Rd.none_nil {xs : List α} {cells : List Value} (h : Rd w A c s xs.length cells) (hA : A.isNone = true) : xs = [] := by
  have h1 := h.nil (by simpa using hA)
  have h2 := h.cap
  exact List.eq_nil_of_length_eq_zero (by omega)

/-! ### Rows of structs that hold slices -/
/-- R S w x cs: in the world w the cells cs are the value x; what they hold lies apart from the blocks of S. -/
def RdD (R : List (Option Nat) → World → α → List Value → Prop) (S : List (Option Nat)) (w : World) (A : Option Addr) (c s : Nat) (xs : List α) : Prop :=
  ∃ css : List (List Value), css.length = xs.length ∧ (∀ cs ∈ css, cs.length = s) ∧ Rd w A c s xs.length css.flatten ∧ Off S xs.length A ∧ ∀ (i : Nat) (cs : List Value) (x : α), css[i]? = some cs → xs[i]? = some x → R S w x cs
/-- What R says goes on where nothing of S has turned, and to other blocks. -/
def Mv (R : List (Option Nat) → World → α → List Value → Prop) : Prop := ∀ S S' w w' x cs, R S w x cs → Chg S w w' → (∀ A c s n cs, Rd w A c s n cs → Off S n A → Off S' n A) → R S' w' x cs
theorem RdD.mv {R : List (Option Nat) → World → α → List Value → Prop} (hR : Mv R) {S' : List (Option Nat)} {xs : List α} (h : RdD R S w A c s xs) (hf : Chg S w w') (ho : ∀ A c s n cs, Rd w A c s n cs → Off S n A → Off S' n A) : RdD R S' w' A c s xs := by
  obtain ⟨css, h1, h2, h3, h4, h5⟩ := h
  exact ⟨css, h1, h2, h3.chg hf h4, ho _ _ _ _ _ h3 h4, fun i cs x hi hx => hR _ _ _ _ _ _ (h5 i cs x hi hx) hf ho⟩
theorem RdD.chg {R : List (Option Nat) → World → α → List Value → Prop} (hR : Mv R) {xs : List α} (h : RdD R S w A c s xs) (hf : Chg S w w') : RdD R S w' A c s xs := h.mv hR hf fun _ _ _ _ _ _ h => h
theorem RdD.weak {R : List (Option Nat) → World → α → List Value → Prop} (hR : Mv R) {xs : List α} (h : RdD R S w A c s xs) : RdD R [] w A c s xs := h.mv hR .refl fun _ _ _ _ _ _ _ => Off.nil
theorem Rds.weak {xss : List (List α)} (h : Rds S w A c enc s xss) : Rds [] w A c enc s xss := by
  obtain ⟨vs, h1, h2, h3, h4⟩ := h
  exact ⟨vs, h1, h2, Off.nil, fun i v xs hi hx => let ⟨A', c', h5, h6, _⟩ := h4 i v xs hi hx; ⟨A', c', h5, h6, Off.nil⟩⟩
theorem Mem.offsD {R : List (Option Nat) → World → α → List Value → Prop} (hR : Mv R) {xs : List α} {Ls : List Ob} (h : Mem w0 S w L) (js : List Nat) (hj : sel L js = some Ls) (hr : RdD R S w0 A c s xs) : RdD R (Ls.flatMap Ob.blks) w A c s xs :=
  hr.mv hR h.chg fun _ _ _ _ _ h1 h2 => h.offI js hj h1 h2
theorem flatten_getElem? : ∀ (css : List (List Value)) (k j : Nat) (cs : List Value), (∀ cs ∈ css, cs.length = s) → css[k]? = some cs → j < s → css.flatten[k * s + j]? = cs[j]?
  | [], k, j, x, _, h, _ => by simp at h
  | y :: ys, 0, j, x, hl, h, hj => by
    simp at h
    subst h
    have := hl y (by simp)
    simp [List.flatten_cons, List.getElem?_append_left, this, hj]
  | y :: ys, k + 1, j, x, hl, h, hj => by
    have hy := hl y (by simp)
    rw [List.flatten_cons, List.getElem?_append_right (by rw [hy, Nat.add_mul]; omega), hy, ← flatten_getElem? ys k j x (fun cs h => hl cs (by simp [h])) (by simpa using h) hj]
    congr 1
    rw [Nat.add_mul]; omega
theorem RdD.at {R : List (Option Nat) → World → α → List Value → Prop} {xs : List α} {x : α} (h : RdD R S w A c s xs) (hx : gidx xs p = some x) : ∃ cs, At w A s xs.length p cs ∧ R S w x cs ∧ Off S xs.length A := by
  obtain ⟨css, h1, h2, h3, h4, h5⟩ := h
  obtain ⟨h0, hl, hg⟩ := gidx_some hx
  have hc : css[p.toNat]? = some (css[p.toNat]'(by omega)) := List.getElem?_eq_getElem (by omega)
  refine ⟨_, ⟨h3.isSome (by omega), h0, hl, fun j u hj => ?_⟩, h5 _ _ _ hc hg, h4⟩
  rw [add_add]
  have hjs : j < s := by have := (List.getElem?_eq_some_iff.1 hj).1; rwa [h2 _ (List.getElem_mem _)] at this
  exact h3.cs _ _ (by rw [flatten_getElem? css _ j _ h2 hc hjs]; exact hj)
theorem RdD.nilr {R : List (Option Nat) → World → α → List Value → Prop} : RdD R S w none 0 s ([] : List α) := ⟨[], rfl, by simp, by simpa using Rd.nilr, Off.zero, fun i v xs h => by simp at h⟩
end
end Go.Ox
