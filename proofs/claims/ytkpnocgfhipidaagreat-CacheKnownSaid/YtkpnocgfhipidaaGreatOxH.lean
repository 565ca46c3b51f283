/- A plain library: makes, copies to a part of a row, slices with three bounds, rows of structs that hold slices. No program is named here. -/
import Derived.Test.YtkpnocgfhipidaaGreatOxR
import Derived.Laws.MakeOwn
import Derived.WalkKit
import Derived.ProofKit
import Derived.OpenShut
import Derived.ShutString
import Derived.ChangeOld
import Derived.Below
set_option linter.unusedVariables false
namespace Go.Ox
open Go Go.RowKit
section
variable {F : Fence} {P : Program} {ops : Array Oper} {Q : Exit → Act → World → Prop} {rest : List Oper} {n d : Nat} {l l' : List (Nat × Value)} {w w0 w' : World} {L : List Ob} {S : List (Option Nat)}
variable {o : Op} {ty : TypeId} {pos : String} {after : Array Edge} {v : Value}
variable {x y z : Operand} {k k' k2 : IntKind} {p q : Int} {t t' e : TypeId} {A A2 : Option Addr} {s c c2 b m n1 i0 : Nat}
variable {α : Type} {enc : α → List Value}
theorem made_flat {zr : α} {zs : List Value} (hs : 0 < s) (hlen : ∀ x, (enc x).length = s) (hz : enc zr = zs) (n : Nat) : (madeCells zs.toArray (n * s)).toList = (List.replicate n zr).flatMap enc := by
  apply List.ext_getElem?
  intro i
  subst hz
  have hl : (enc zr).length = s := hlen zr
  by_cases hi : i < n * s
  · have hk : i / s < n := (Nat.div_lt_iff_lt_mul hs).2 hi
    have h1 := flatMap_getElem? hlen (List.replicate n zr) (i / s) (i % s) zr (by simp [hk]) (Nat.mod_lt _ hs)
    rw [Nat.div_add_mod' i s] at h1
    rw [h1]
    have hm : i % s < (enc zr).length := by rw [hl]; exact Nat.mod_lt _ hs
    rw [List.getElem?_eq_getElem hm]
    simp [madeCells, hi, hl, getElem!_def, List.getElem?_eq_getElem hm]
  · rw [List.getElem?_eq_none (by simp [madeCells]; omega), List.getElem?_eq_none (by rw [flat_length hlen]; simp; omega)]
theorem E.mks {zr : α} {zs : List Value} (hM : Mem w0 S w L) (ht : SliceT P t e s b) (hz : ZeroT P e zs) (hs : Nat.blt 0 s = true) (hb : Nat.ble b 128 = true) (hlen : ∀ x, (enc x).length = s) (hzr : enc zr = zs)
    (hx : ev l x = some (.int k p)) (hy : ev l y = some (.int k' p)) (hp : 0 ≤ p ∧ p ≤ lim) :
    Eff P (.makeSlice t x y) ty l w (fun v w' => ∃ A', v = .slice A' (List.replicate p.toNat zr).length p.toNat ∧ Mem w0 S w' (L ++ [.row A' p.toNat e s (List.replicate p.toNat zr).length ((List.replicate p.toNat zr).flatMap enc)]) ∧ Chg [] w w') := by
  obtain ⟨i, hinf, hsz, hbb⟩ := ht.info
  obtain ⟨zv, hzv, hzc⟩ := hz.info hinf
  obtain ⟨h0, hl⟩ := hp
  have hb' : b ≤ 128 := Nat.le_of_ble_eq_true hb
  have hl' : p ≤ 1099511627776 := hl
  have hbp : (b : Int) * p ≤ 128 * p := Int.mul_le_mul_of_nonneg_right (by omega) h0
  have hs' : 0 < s := by simpa using hs
  have hmf := made_flat hs' hlen hzr p.toNat
  have hrun := fun w => run_make (P := P) w t e i zv ht.1 hinf hzv k k' p p h0 (Int.le_refl _) (by rw [hbb]; omega) (by omega)
  rw [hsz, hzc] at hrun
  refine ⟨.slice (some ⟨w.heap.size, 0, none⟩) p.toNat p.toNat, { w with heap := w.heap.push (.cells ((List.replicate p.toNat zr).flatMap enc).toArray e) }, fun ρ hρ _ _ _ _ => ?_, some ⟨w.heap.size, 0, none⟩, by simp, ?_, .of_below (below_push w)⟩
  · simp only [execOp, hρ x _ hx, hρ y _ hy]
    simp only [Sem.run_bind, hrun, Result.andThen_ok]
    rw [← hmf]
    rfl
  · have hlr : (List.replicate p.toNat zr).length = p.toNat := by simp
    refine hM.push (below_push w) (Ob.ok_row ?_) (fun g hg => by have := (rblk_some (Ob.has_row.1 hg)).2; simp at this; omega)
    rw [hlr]
    exact ownsRow_new rfl (by rw [flat_length hlen]; simp) (by simp only [maxLen]; omega)
theorem Mem.rebox {i g : Nat} {cs cs' : List Value} (h : Mem w0 S w L) (hi : L[i]? = some (.box g e cs)) (he : cs = cs') : Mem w0 S w (L.set i (.box g e cs')) := by
  subst he
  have : L.set i (.box g e cs) = L := by
    apply List.ext_getElem?
    intro j
    by_cases h : i = j
    · subst h; rw [List.getElem?_set_self (List.getElem?_eq_some_iff.1 hi).1, hi]
    · rw [List.getElem?_set_ne h]
  rw [this]; exact h
theorem equalIn_sl_nil (ht : P.underlying t = some (.slice e)) (d : Nat) : (Op.equalIn (d + 1) t (.slice A m c) (.slice none 0 0)).run P w = .ok A.isNone w := by
  cases A <;> simp [Op.equalIn, run_underlying ht]
theorem O.sleqn (ht : SliceT P t e s b) (hx : ev l x = some (.slice A m c)) (hy : ev l y = some (.slice none 0 0)) : OpV P (.binOp .eql t x y t') ty l w (.bool A.isNone) :=
  O.eq_other hx hy rfl (by rw [eqGuard_at_slice]; rfl) (equalIn_sl_nil ht.1 9999)
theorem Rd.none_nil {xs : List α} {cells : List Value} (h : Rd w A c s xs.length cells) (hA : A.isNone = true) : xs = [] := by
  have h1 := h.nil (by simpa using hA)
  have h2 := h.cap
  exact List.eq_nil_of_length_eq_zero (by omega)
def RdD (R : List (Option Nat) → World → α → List Value → Prop) (S : List (Option Nat)) (w : World) (A : Option Addr) (c s : Nat) (xs : List α) : Prop :=
  ∃ css : List (List Value), css.length = xs.length ∧ (∀ cs ∈ css, cs.length = s) ∧ Rd w A c s xs.length css.flatten ∧ Off S xs.length A ∧ ∀ (i : Nat) (cs : List Value) (x : α), css[i]? = some cs → xs[i]? = some x → R S w x cs
def Mv (R : List (Option Nat) → World → α → List Value → Prop) : Prop := ∀ S S' w w' x cs, R S w x cs → Chg S w w' → (∀ A c s n cs, Rd w A c s n cs → Off S n A → Off S' n A) → R S' w' x cs
theorem RdD.mv {R : List (Option Nat) → World → α → List Value → Prop} (hR : Mv R) {S' : List (Option Nat)} {xs : List α} (h : RdD R S w A c s xs) (hf : Chg S w w') (ho : ∀ A c s n cs, Rd w A c s n cs → Off S n A → Off S' n A) : RdD R S' w' A c s xs := by
  obtain ⟨css, h1, h2, h3, h4, h5⟩ := h
  exact ⟨css, h1, h2, h3.chg hf h4, ho _ _ _ _ _ h3 h4, fun i cs x hi hx => hR _ _ _ _ _ _ (h5 i cs x hi hx) hf ho⟩
theorem RdD.chg {R : List (Option Nat) → World → α → List Value → Prop} (hR : Mv R) {xs : List α} (h : RdD R S w A c s xs) (hf : Chg S w w') : RdD R S w' A c s xs := h.mv hR hf fun _ _ _ _ _ _ h => h
theorem flatten_getElem? : ∀ (css : List (List Value)) (k j : Nat) (cs : List Value), (∀ cs ∈ css, cs.length = s) → css[k]? = some cs → j < s → css.flatten[k * s + j]? = cs[j]?
  | [], k, j, x, _, h, _ => by simp at h
  | y :: ys, 0, j, x, hl, h, hj => by
    simp at h
    subst h
    have := hl y (by simp)
    simp [List.flatten_cons, List.getElem?_append_left, this, hj]
  | y :: ys, k + 1, j, x, hl, h, hj => by
    have hy := hl y (by simp)
    rw [List.flatten_cons, List.getElem?_append_right (by rw [hy, Nat.add_mul]; omega), hy, ← flatten_getElem? ys k j x (fun cs h => hl cs (by simp [h])) (by simpa using h) hj]
    congr 1
    rw [Nat.add_mul]; omega
theorem RdD.at {R : List (Option Nat) → World → α → List Value → Prop} {xs : List α} {x : α} (h : RdD R S w A c s xs) (hx : gidx xs p = some x) : ∃ cs, At w A s xs.length p cs ∧ R S w x cs ∧ Off S xs.length A := by
  obtain ⟨css, h1, h2, h3, h4, h5⟩ := h
  obtain ⟨h0, hl, hg⟩ := gidx_some hx
  have hc : css[p.toNat]? = some (css[p.toNat]'(by omega)) := List.getElem?_eq_getElem (by omega)
  refine ⟨_, ⟨h3.isSome (by omega), h0, hl, fun j u hj => ?_⟩, h5 _ _ _ hc hg, h4⟩
  rw [add_add]
  have hjs : j < s := by have := (List.getElem?_eq_some_iff.1 hj).1; rwa [h2 _ (List.getElem_mem _)] at this
  exact h3.cs _ _ (by rw [flatten_getElem? css _ j _ h2 hc hjs]; exact hj)
theorem RdD.nilr {R : List (Option Nat) → World → α → List Value → Prop} : RdD R S w none 0 s ([] : List α) := ⟨[], rfl, by simp, by simpa using Rd.nilr, Off.zero, fun i v xs h => by simp at h⟩
end
end Go.Ox

set_option linter.unusedVariables false
namespace Go.Ox
open Go Go.ChangeShapes Go.WideShapes Go.ChangeAt Go.RowKit
section
variable {H : Type} {en : TypeId × Value → H} {P : Program} {w : World} {base : Nat} {spare : Nat → Bool} {held : Bool}
theorem cell_lt {a : Addr} {v : Value} (h : w.cell? a = some v) : a.block < w.heap.size := by
  unfold World.cell? at h
  by_cases hb : a.block < w.heap.size
  · exact hb
  · rw [Array.getElem?_eq_none (by omega)] at h; cases h
theorem add_add' (a : Addr) (i j : Nat) : (a.add i).add j = a.add (i + j) := by
  unfold Addr.add
  by_cases hi : i = 0 <;> by_cases hj : j = 0 <;> simp [hi, hj, Nat.add_assoc]
theorem cs_rows {α : Type} {enc : α → List Value} {s : Nat} (ad : Addr) : ∀ (m : Nat) (o : Nat) (Φ : α → Prop), (∀ i, i < m → ∃ x, (enc x).length = s ∧ Φ x ∧ Cs w (ad.add ((o + i) * s)) (enc x)) →
    ∃ xs : List α, xs.length = m ∧ (∀ x ∈ xs, Φ x ∧ (enc x).length = s) ∧ Cs w (ad.add (o * s)) (xs.flatMap enc)
  | 0, o, Φ, h => ⟨[], rfl, (fun x hx => by cases hx), (fun j u hj => by simp at hj)⟩
  | m + 1, o, Φ, h => by
    obtain ⟨x, hl, hp, hc⟩ := h 0 (by omega)
    obtain ⟨xs, h1, h2, h3⟩ := cs_rows ad m (o + 1) Φ (fun i hi => by
      have := h (i + 1) (by omega)
      rwa [show o + (i + 1) = o + 1 + i by omega] at this)
    refine ⟨x :: xs, by simp [h1], fun y hy => ?_, fun j u hj => ?_⟩
    · rcases List.mem_cons.1 hy with rfl | hy
      · exact ⟨hp, hl⟩
      · exact h2 y hy
    · simp only [List.flatMap_cons] at hj
      by_cases hjs : j < s
      · rw [List.getElem?_append_left (by omega)] at hj
        simpa using hc j u hj
      · rw [List.getElem?_append_right (by omega), hl] at hj
        have := h3 (j - s) u hj
        rw [add_add'] at this ⊢
        rwa [show (o + 1) * s + (j - s) = o * s + j by rw [Nat.add_mul]; omega] at this
theorem op_slice {α : Type} {enc : α → List Value} {Φ : α → Prop} {t e : TypeId} {s fuel : Nat} {A : Option Addr} {n c : Nat} {x : DataW H × List MemPlace} (ht : P.underlying t = some (.slice e)) (hs : P.cellsOf e = s) (hs0 : 0 < s)
    (hel : ∀ (f : Nat) (cs : List Value) (y : DataW H × List MemPlace), DataW.trod en P w base spare held f e cs = some y → ∃ a, cs = enc a ∧ Φ a)
    (h : DataW.trod en P w base spare held fuel t [.slice A n c] = some x) : ∃ xs : List α, n = xs.length ∧ Rd w A c s xs.length (xs.flatMap enc) ∧ ∀ a ∈ xs, Φ a := by
  rcases DataW.trod_slice ht h with ⟨h0, _⟩ | ⟨a, len, cap, elems, rest, m, _, hcs, _, hb, hl, hm, hlen, hat, _, _⟩
  · simp at h0
    obtain ⟨rfl, rfl, rfl⟩ := h0
    exact ⟨[], rfl, Rd.nilr, fun a ha => by cases ha⟩
  · simp at hcs
    obtain ⟨rfl, rfl, rfl⟩ := hcs
    have key : ∀ i, i < n → ∃ x, (enc x).length = s ∧ Φ x ∧ Cs w (a.add ((0 + i) * s)) (enc x) := by
      intro i hi
      have h1 := hat i hi
      rw [hs, List.getElem?_eq_getElem (by omega)] at h1
      obtain ⟨cs, hc, ht'⟩ := Option.bind_eq_some_iff.1 h1
      obtain ⟨_, hcl, hca⟩ := World.cells?_some hc
      obtain ⟨y, rfl, hp⟩ := hel _ _ _ ht'
      refine ⟨y, hcl, hp, fun j u hj => ?_⟩
      have hjl := (List.getElem?_eq_some_iff.1 hj).1
      rw [Nat.zero_add, hca j (by omega)]; exact hj
    obtain ⟨xs, hxl, hxp, hxc⟩ := cs_rows a n 0 Φ key
    subst hxl
    rw [Nat.zero_mul, Addr.add_zero'] at hxc
    refine ⟨xs, rfl, ⟨?_, hl, hm, fun hn => ?_, fun h => by cases h⟩, fun y hy => (hxp y hy).1⟩
    · have : ∀ (l : List α), (∀ x ∈ l, Φ x ∧ (enc x).length = s) → (l.flatMap enc).length = l.length * s := by
        intro l
        induction l with
        | nil => intro _; simp
        | cons y l ih =>
          intro hy
          have h1 := (hy y (by simp)).2
          have h2 := ih (fun z hz => hy z (by simp [hz]))
          simp only [List.flatMap_cons, List.length_append, List.length_cons, h1, h2, Nat.add_mul]; omega
      exact this xs hxp
    · refine ⟨a, rfl, ?_, hxc⟩
      cases xs with
      | nil => simp at hn
      | cons y ys =>
        have h1 := (hxp y (by simp)).2
        cases he : enc y with
        | nil => rw [he] at h1; simp at h1; omega
        | cons u r =>
          have hc2 : Cs w a (u :: (r ++ ys.flatMap enc)) := by simpa [List.flatMap_cons, he] using hxc
          exact cell_lt hc2.at0
theorem op_ints {t e : TypeId} {k : IntKind} {fuel : Nat} {A : Option Addr} {n c : Nat} {x : DataW H × List MemPlace} (ht : P.underlying t = some (.slice e)) (he : P.underlying e = some (.int k)) (hs : P.cellsOf e = 1)
    (h : DataW.trod en P w base spare held fuel t [.slice A n c] = some x) : ∃ xs : List Int, n = xs.length ∧ Rd w A c 1 xs.length (xs.flatMap (eI k)) ∧ ∀ a ∈ xs, (Lit.int k a).wf = true :=
  op_slice ht hs (by decide) (fun f cs y h => let ⟨m, h1, _, h3⟩ := DataW.trod_int he h; ⟨m, h1, h3⟩) h
end
section
variable {H : Type}
def Opn (en : TypeId × Value → H) (P : Program) (w : World) (base : Nat) (spare : Nat → Bool) (held : Bool) (t : TypeId) {α : Type} (enc : α → List Value) (Φ : α → Prop) : Prop :=
  ∀ (f : Nat) (cs : List Value) (y : DataW H × List MemPlace), DataW.trod en P w base spare held f t cs = some y → ∃ a, cs = enc a ∧ Φ a
variable {en : TypeId × Value → H} {P : Program} {w : World} {base : Nat} {spare : Nat → Bool} {held : Bool}
theorem Opn.int {t : TypeId} {k : IntKind} (ht : P.underlying t = some (.int k)) : Opn en P w base spare held t (eI k) (fun n => (Lit.int k n).wf = true) := fun f cs y h =>
  let ⟨m, h1, _, h3⟩ := DataW.trod_int ht h; ⟨m, h1, h3⟩
theorem Opn.bool {t : TypeId} (ht : P.underlying t = some .bool) : Opn en P w base spare held t eB (fun _ => True) := fun f cs y h =>
  let ⟨m, h1, _⟩ := DataW.trod_bool ht h; ⟨m, h1, trivial⟩
theorem Opn.arr {t e : TypeId} {n : Nat} {k : IntKind} (ht : P.underlying t = some (.array n e)) (he : P.underlying e = some (.int k)) (hs : P.cellsOf e = 1) (hc : P.cellsOf t = n) :
    Opn en P w base spare held t (arrC n k) (fun xs => xs.length = n ∧ ∀ x ∈ xs, (Lit.int k x).wf = true) := fun f cs y h => by
  obtain ⟨xs, m, _, _, hlen, hxl, hi⟩ := DataW.trod_array ht h
  rw [hs] at hi
  have key : ∀ i, i < n → ∃ z, cs[i]? = some (.int k z) ∧ (Lit.int k z).wf = true := fun i hin => by
    have h1 := hi i hin
    rw [List.getElem?_eq_getElem (by omega)] at h1
    obtain ⟨z, h2, _, h3⟩ := DataW.trod_int he h1
    refine ⟨z, ?_, h3⟩
    have h4 : ((cs.drop (i * 1)).take 1)[0]? = some (.int k z) := by rw [h2]; rfl
    simpa using h4
  have fam : ∀ (l : List Value) (o : Nat), (∀ i, i < l.length → ∃ z, l[i]? = some (.int k z) ∧ (Lit.int k z).wf = true) → ∃ zs : List Int, zs.length = l.length ∧ l = zs.map (fun z => .int k z) ∧ ∀ x ∈ zs, (Lit.int k x).wf = true := by
    intro l o
    induction l with
    | nil => intro _; exact ⟨[], rfl, rfl, fun x hx => by cases hx⟩
    | cons v l ih =>
      intro hv
      obtain ⟨z, h1, h2⟩ := hv 0 (by simp)
      obtain ⟨zs, h3, h4, h5⟩ := ih (fun i hil => by
        have := hv (i + 1) (by simp; omega)
        simpa using this)
      simp at h1
      refine ⟨z :: zs, by simp [h3], by rw [h1, h4]; rfl, fun x hx => ?_⟩
      rcases List.mem_cons.1 hx with rfl | hx
      · exact h2
      · exact h5 x hx
  have hcl : cs.length = n := by rw [hlen, hc]
  obtain ⟨zs, h1, h2, h3⟩ := fam cs 0 (fun i hil => key i (by omega))
  refine ⟨zs, ?_, by omega, h3⟩
  apply List.ext_getElem?
  intro i
  by_cases hin : i < n
  · rw [h2]
    have hz : i < zs.length := by omega
    simp [arrC, hin, hz, List.getD]
  · rw [List.getElem?_eq_none (by omega), List.getElem?_eq_none (by simp [arrC]; omega)]
theorem Opn.sl {t e : TypeId} {k : IntKind} (ht : P.underlying t = some (.slice e)) (he : P.underlying e = some (.int k)) (hs : P.cellsOf e = 1) :
    Opn en P w base spare held t (fun y : Option Addr × Nat × List Int => [.slice y.1 y.2.2.length y.2.1]) (fun y => Rd w y.1 y.2.1 1 y.2.2.length (y.2.2.flatMap (eI k)) ∧ ∀ a ∈ y.2.2, (Lit.int k a).wf = true) := fun f cs y h => by
  rcases DataW.trod_slice ht h with ⟨h0, _⟩ | ⟨a, len, cap, elems, rest, m, _, hcs, _⟩
  · subst h0
    exact ⟨(none, 0, []), rfl, Rd.nilr, fun a ha => by cases ha⟩
  · subst hcs
    obtain ⟨xs, e1, e2, e3⟩ := op_ints ht he hs h
    subst e1
    exact ⟨(some a, cap, xs), rfl, e2, e3⟩
end
end Go.Ox
