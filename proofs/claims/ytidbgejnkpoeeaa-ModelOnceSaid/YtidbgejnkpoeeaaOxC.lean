/- A plain library: memory: slices that are read, and objects that the call itself owns. No program is named here. -/
import Derived.Test.YtidbgejnkpoeeaaOxB
set_option linter.unusedVariables false
namespace Go.Ox
open Go Go.RowKit

/-! ### Types, by closed facts -/
def isScalar (P : Program) (t : TypeId) : Bool := match P.underlying t with
  | some (.struct _) => false
  | some (.array ..) => false
  | some _ => true
  | none => false
theorem run_isAgg_scalar {P : Program} {t : TypeId} (h : isScalar P t = true) (w : World) : (isAgg t).run P w = .ok false w := by
  unfold isScalar at h
  cases hu : P.underlying t with
  | none => simp [hu] at h
  | some d => cases d <;> simp [hu] at h <;> simp [isAgg, run_underlying hu]
/-- t is a slice type, its elements of type e have s cells and b bytes. -/
def SliceT (P : Program) (t e : TypeId) (s b : Nat) : Prop := P.underlying t = some (.slice e) ∧ (P.info? e).map (fun i => (i.size, i.bytes)) = some (s, b)
theorem SliceT.info {P : Program} {t e : TypeId} {s b : Nat} (h : SliceT P t e s b) : ∃ i, P.info? e = some i ∧ i.size = s ∧ i.bytes = b := by
  obtain ⟨i, hi, hzz⟩ := Option.map_eq_some_iff.1 h.2
  simp only [Prod.mk.injEq] at hzz
  exact ⟨i, hi, hzz.1, hzz.2⟩
/-- Field f of struct type t: at off, of type ft, with cells. -/
def FieldT (P : Program) (t : TypeId) (f off : Nat) (ft : TypeId) (fs : Nat) : Prop :=
  (match P.underlying t with
    | some (.struct fl) => (fl[f]?).map (fun x => (x.offset, x.type))
    | _ => none) = some (off, ft) ∧ (P.info? ft).map (·.size) = some fs

def zad : Addr := ⟨0, 0, none⟩
theorem add_add (a : Addr) (i j : Nat) : (a.add i).add j = a.add (i + j) := by
  unfold Addr.add
  by_cases hi : i = 0 <;> by_cases hj : j = 0 <;> simp [hi, hj, Nat.add_assoc]
theorem add_block (a : Addr) (i : Nat) : (a.add i).block = a.block := by unfold Addr.add; split <;> rfl
theorem add_at (g i : Nat) : (⟨g, 0, none⟩ : Addr).add i = ⟨g, i, none⟩ := by unfold Addr.add; split <;> simp_all

/-- The cells from a on are these. -/
def Cs (w : World) (a : Addr) (cs : List Value) : Prop := ∀ j u, cs[j]? = some u → w.cell? (a.add j) = some u
theorem Cs.at0 {w : World} {a : Addr} {u : Value} {r : List Value} (h : Cs w a (u :: r)) : w.cell? a = some u := by
  have := h 0 u rfl
  rwa [Addr.add_zero'] at this
theorem Cs.at {w : World} {a : Addr} {cs : List Value} (h : Cs w a cs) {j : Nat} {u : Value} (hj : cs[j]? = some u) : w.cell? (a.add j) = some u := h j u hj
theorem Cs.sub {w : World} {a : Addr} {cs : List Value} (h : Cs w a cs) (i : Nat) : Cs w (a.add i) (cs.drop i) := by
  intro j u hj
  rw [add_add]
  exact h _ u (by simpa using hj)
theorem Cs.pre {w : World} {a : Addr} {cs ds : List Value} (h : Cs w a (cs ++ ds)) : Cs w a cs := fun j u hj => h j u (by rw [List.getElem?_append_left (List.getElem?_eq_some_iff.1 hj).1]; exact hj)
theorem Cs.take {w : World} {a : Addr} {cs : List Value} (h : Cs w a cs) (n : Nat) : Cs w a (cs.take n) := Cs.pre (ds := cs.drop n) (by rwa [List.take_append_drop])
theorem Cs.below {w w' : World} {B : Nat} {a : Addr} {cs : List Value} (h : Cs w a cs) (hb : Below B w w') (ha : a.block < B) : Cs w' a cs :=
  fun j u hj => (hb.cell (p := a.add j) (by rw [add_block]; exact ha)).trans (h j u hj)

/-- A slice (with address A, capacity c) reads as n elements of s cells each. -/
structure Rd (w : World) (A : Option Addr) (c s n : Nat) (cs : List Value) : Prop where
  len : cs.length = n * s
  cap : n ≤ c
  most : c ≤ maxLen
  adr : 0 < n → ∃ ad, A = some ad ∧ ad.block < w.heap.size ∧ Cs w ad cs
  nil : A = none → c = 0
theorem Rd.below {w w' : World} {A : Option Addr} {c s n : Nat} {cs : List Value} (h : Rd w A c s n cs) (hb : Below w.heap.size w w') : Rd w' A c s n cs :=
  ⟨h.len, h.cap, h.most, fun hn => let ⟨ad, e, h1, h2⟩ := h.adr hn; ⟨ad, e, Nat.lt_of_lt_of_le h1 hb.size, h2.below hb h1⟩, h.nil⟩
theorem Rd.cs {w : World} {A : Option Addr} {c s n : Nat} {cs : List Value} (h : Rd w A c s n cs) : Cs w (A.getD zad) cs := by
  intro j u hj
  have hl : j < cs.length := (List.getElem?_eq_some_iff.1 hj).1
  have hn : 0 < n := by
    rcases Nat.eq_zero_or_pos n with h0 | h0
    · rw [h.len, h0] at hl; simp at hl
    · exact h0
  obtain ⟨ad, rfl, _, h2⟩ := h.adr hn
  exact h2 j u hj
theorem Rd.isSome {w : World} {A : Option Addr} {c s n : Nat} {cs : List Value} (h : Rd w A c s n cs) (hn : 0 < n) : A.isSome = true := by
  obtain ⟨ad, rfl, _⟩ := h.adr hn; rfl
/-- A part of it. -/
theorem Rd.cut {w : World} {A : Option Addr} {c s n : Nat} {cs : List Value} (h : Rd w A c s n cs) {lo hi m : Nat} (h1 : lo ≤ hi) (h2 : hi ≤ n) (h3 : hi ≤ m) (h4 : m ≤ c) :
    Rd w (if m = lo then A else A.map (·.add (lo * s))) (m - lo) s (hi - lo) ((cs.drop (lo * s)).take ((hi - lo) * s)) := by
  refine ⟨?_, by omega, by have := h.most; omega, fun hn => ?_, fun hA => ?_⟩
  · rw [List.length_take, List.length_drop, h.len, Nat.min_eq_left]
    rw [Nat.sub_mul]
    have : hi * s ≤ n * s := Nat.mul_le_mul_right _ h2
    omega
  · obtain ⟨ad, rfl, hb, hc⟩ := h.adr (by omega)
    rw [if_neg (by omega)]
    exact ⟨ad.add (lo * s), rfl, by rw [add_block]; exact hb, (hc.sub (lo * s)).take _⟩
  · cases A with
    | none => have := h.nil rfl; omega
    | some ad =>
      split at hA
      · cases hA
      · cases hA

/-- Go's index: inside the bounds alone. -/
def gidx {α : Type} (xs : List α) (i : Int) : Option α := if 0 ≤ i then xs[i.toNat]? else none
theorem gidx_some {α : Type} {xs : List α} {i : Int} {x : α} (h : gidx xs i = some x) : 0 ≤ i ∧ i < xs.length ∧ xs[i.toNat]? = some x := by
  unfold gidx at h
  split at h
  · rename_i h0
    have := (List.getElem?_eq_some_iff.1 h).1
    exact ⟨h0, by omega, h⟩
  · cases h
/-- An element's place: what is asked for an index, and its cells. -/
structure At (w : World) (A : Option Addr) (s n : Nat) (i : Int) (cs : List Value) : Prop where
  isSome : A.isSome = true
  lo : 0 ≤ i
  hi : i < n
  cells : Cs w ((A.getD zad).add (i.toNat * s)) cs
theorem Rd.at1 {α : Type} {w : World} {A : Option Addr} {c n : Nat} {f : α → Value} {xs : List α} {i : Int} {x : α} (h : Rd w A c 1 n (xs.map f)) (hx : gidx xs i = some x) : At w A 1 n i [f x] := by
  obtain ⟨h0, h1, h2⟩ := gidx_some hx
  have hl := h.len
  simp at hl
  refine ⟨h.isSome (by omega), h0, by omega, fun j u hj => ?_⟩
  rw [add_add]
  have : j = 0 := by
    have := (List.getElem?_eq_some_iff.1 hj).1
    simp at this; omega
  subst this
  simp at hj
  subst hj
  exact h.cs _ _ (by simp [h2])
theorem flatMap_getElem? {α : Type} {f : α → List Value} {s : Nat} (hf : ∀ x, (f x).length = s) : ∀ (xs : List α) (k j : Nat) (x : α), xs[k]? = some x → j < s → (xs.flatMap f)[k * s + j]? = (f x)[j]?
  | [], k, j, x, h, _ => by simp at h
  | y :: ys, 0, j, x, h, hj => by
    simp at h
    subst h
    simp [List.flatMap_cons, List.getElem?_append_left, hf, hj]
  | y :: ys, k + 1, j, x, h, hj => by
    rw [List.flatMap_cons, List.getElem?_append_right (by rw [hf, Nat.add_mul]; omega), hf, ← flatMap_getElem? hf ys k j x (by simpa using h) hj]
    congr 1
    rw [Nat.add_mul]; omega
theorem Rd.atN {α : Type} {w : World} {A : Option Addr} {c s n : Nat} {f : α → List Value} {xs : List α} {i : Int} {x : α} (hf : ∀ x, (f x).length = s) (hs : 0 < s) (h : Rd w A c s n (xs.flatMap f)) (hx : gidx xs i = some x) : At w A s n i (f x) := by
  obtain ⟨h0, h1, h2⟩ := gidx_some hx
  have hl := h.len
  have hlen : (xs.flatMap f).length = xs.length * s := by
    rw [List.length_flatMap]
    clear h hx h0 h1 h2 hl
    induction xs with
    | nil => simp
    | cons y ys ih => simp [hf] at ih ⊢; rw [ih, Nat.add_mul]; omega
  rw [hlen] at hl
  have hn : xs.length = n := Nat.eq_of_mul_eq_mul_right hs hl
  refine ⟨h.isSome (by omega), h0, by omega, fun j u hj => ?_⟩
  rw [add_add]
  have hjs : j < s := by have := (List.getElem?_eq_some_iff.1 hj).1; rwa [hf] at this
  exact h.cs _ _ (by rw [flatMap_getElem? hf xs _ j x h2 hjs]; exact hj)

/-! ### Objects that the call owns -/
inductive Ob where
  | row (A : Option Addr) (c : Nat) (e : TypeId) (s n : Nat) (cs : List Value)
  | box (g : Nat) (e : TypeId) (cs : List Value)
  /-- Blocks, and what is known of them. -/
  | res (Z : List Nat) (φ : World → Prop)
/-- A row's block; a row without room has none. -/
def rblk (A : Option Addr) (c : Nat) : Option Nat := if c = 0 then none else A.map (·.block)
def Ob.blks : Ob → List (Option Nat)
  | .row A c _ _ _ _ => [rblk A c]
  | .box g _ _ => [some g]
  | .res Z _ => Z.map some
def Ob.has (o : Ob) (g : Nat) : Prop := some g ∈ o.blks
def Ob.ok (w : World) : Ob → Prop
  | .row A c e s n cs => (c ≠ 0 → w.ownsRow 0 e s (.slice A n c) n cs) ∧ (c = 0 → n = 0 ∧ cs = [])
  | .box g e cs => w.heap[g]? = some (.cells cs.toArray e (0, 0))
  | .res Z φ => (∀ g ∈ Z, g < w.heap.size) ∧ ∀ w1 : World, (∀ g ∈ Z, w1.heap[g]? = w.heap[g]?) → φ w1
theorem Ob.has_row {A : Option Addr} {c n s : Nat} {e : TypeId} {cs : List Value} {g : Nat} : (Ob.row A c e s n cs).has g ↔ rblk A c = some g := by simp [Ob.has, Ob.blks, eq_comm]
theorem Ob.has_box {e : TypeId} {cs : List Value} {g g' : Nat} : (Ob.box g' e cs).has g ↔ g' = g := by simp [Ob.has, Ob.blks, eq_comm]
theorem Ob.has_res {Z : List Nat} {φ : World → Prop} {g : Nat} : (Ob.res Z φ).has g ↔ g ∈ Z := by simp [Ob.has, Ob.blks]
theorem Ob.blk_row {A : Option Addr} {n c : Nat} : (Value.slice A n c).ownBlock = A.map (·.block) := by cases A <;> rfl
theorem rblk_some {A : Option Addr} {c g : Nat} (h : rblk A c = some g) : c ≠ 0 ∧ A.map (·.block) = some g := by
  unfold rblk at h
  split at h
  · cases h
  · exact ⟨by assumption, h⟩
theorem rblk_pos {A : Option Addr} {c : Nat} (h : c ≠ 0) : rblk A c = A.map (·.block) := if_neg h
theorem Ob.ok_row {w : World} {A : Option Addr} {c : Nat} {e : TypeId} {s n : Nat} {cs : List Value} (h : w.ownsRow 0 e s (.slice A n c) n cs) : (Ob.row A c e s n cs).ok w :=
  ⟨fun _ => h, fun hc => by
    subst hc
    have hn : n = 0 := by
      rcases h.2 with ⟨_, h0⟩ | ⟨g, cap, cur, hv, hb, hh, hn', _⟩
      · exact h0
      · injection hv with _ _ hc; omega
    subst hn
    exact ⟨rfl, List.eq_nil_of_length_eq_zero (by simpa using h.1)⟩⟩
theorem Ob.ok_lt {w : World} {o : Ob} (h : o.ok w) {g : Nat} (hg : o.has g) : g < w.heap.size := by
  cases o with
  | row A c e s n cs =>
    obtain ⟨h1, h2⟩ := rblk_some (Ob.has_row.1 hg)
    exact (World.ownsRow.lt (h.1 h1) g (by rw [Ob.blk_row]; exact h2)).2
  | box g' e cs =>
    have := Ob.has_box.1 hg
    subst this
    exact (Array.getElem?_eq_some_iff.1 h).1
  | res Z φ => exact h.1 g (Ob.has_res.1 hg)
/-- Its blocks are as they were. -/
theorem Ob.ok_keep {w w' : World} {o : Ob} (h : o.ok w) (hk : ∀ g, o.has g → w'.heap[g]? = w.heap[g]?) : o.ok w' := by
  cases o with
  | row A c e s n cs =>
    refine ⟨fun hc => ?_, h.2⟩
    have h := h.1 hc
    refine ⟨h.1, ?_⟩
    rcases h.2 with hn | ⟨g, cap, cur, hv, hb, hh, rest⟩
    · exact .inl hn
    · refine .inr ⟨g, cap, cur, hv, hb, ?_, rest⟩
      injection hv with hA _ _
      rw [hk g (Ob.has_row.2 (by subst hA; exact rblk_pos hc))]
      exact hh
  | box g e cs => exact (hk g (Ob.has_box.2 rfl)).trans h
  | res Z φ =>
    refine ⟨fun g hg => ?_, fun w1 h1 => h.2 w1 fun g hg => ?_⟩
    · have h1 := hk g (Ob.has_res.2 hg)
      rw [Array.getElem?_eq_getElem (h.1 g hg)] at h1
      exact (Array.getElem?_eq_some_iff.1 h1).1
    · rw [h1 g hg]
      exact hk g (Ob.has_res.2 hg)
theorem Ob.ok_keep' {w w' : World} {o : Ob} (h : o.ok w) (hs : w.heap.size ≤ w'.heap.size) (hk : ∀ g, o.has g → w'.heap[g]? = w.heap[g]?) : o.ok w' := Ob.ok_keep h hk
theorem Ob.res_φ {w : World} {Z : List Nat} {φ : World → Prop} (h : (Ob.res Z φ).ok w) : φ w := h.2 w fun _ _ => rfl

/-! ### How much is drawn never goes back -/
theorem ask_drawn {α : Type} : ∀ (k : Ask α) (w : World), w.drawn ≤ (w.ask k).2.drawn
  | .done a, w => by simp [World.ask]
  | .ask what range k, w => by
    unfold World.ask
    dsimp only
    split
    · exact ask_drawn (k 0) w
    · exact Nat.le_trans (Nat.le_succ _) (ask_drawn (k _) { w with drawn := w.drawn + 1 })
theorem sys_drawn (w : World) (c : Sys) : w.drawn ≤ (w.sys c).2.drawn := by
  have h := ask_drawn (Kernel.perform c w.os) w
  unfold World.sys
  split
  · exact Nat.le_refl _
  · rename_i e
    rw [e] at h
    exact h
theorem viewStore_drawn {P : Program} {w w' : World} {at_ : Addr} {u : TypeId} {k : Addr} {v : Value} {b : Bool} {l : List Addr} (h : w.viewStore P at_ u k v b = .ok (w', l)) : w'.drawn = w.drawn := by
  unfold World.viewStore at h
  simp only [bind, Except.bind, pure, Except.pure] at h
  repeat' split at h
  all_goals first | cases h; done | (injection h with h; injection h with h1 h2; rw [← h1]) | skip
theorem freeze_drawn (w : World) (a : Addr) (n : Nat) : (w.freeze a n).drawn = w.drawn := by
  unfold World.freeze; split <;> rfl
theorem run_drawn {P : Program} {α : Type} {v0 : α} {w' : World} (s : Sem α) : ∀ (w : World), s.run P w = .ok v0 w' → w.drawn ≤ w'.drawn := by
  induction s with
  | pure a => intro w h; simp only [Sem.run] at h; injection h with _ h; rw [h]; exact Nat.le_refl _
  | load m a k ih =>
    intro w h
    simp only [Sem.run] at h
    split at h
    · exact ih _ w h
    · split at h
      · exact ih _ w h
      · cases h
  | store m a v k ih =>
    intro w h
    have key : ∀ u : Value, (match w.cell? a with
      | some _ => if w.frozen? a then Result.halt (.unsupported (.unsafePointer "a write to bytes that a string shares")) w else k.run P (w.setCell a u)
      | none => match w.farStore P a u (m == Mode.atomic) with
        | .ok (w, _) => k.run P w
        | .error h => .halt h w) = .ok v0 w' → w.drawn ≤ w'.drawn := fun u h => by
      split at h
      · split at h
        · cases h
        · exact ih (w.setCell a u) h
      · split at h
        · rename_i w2 l e
          have h2 := ih w2 h
          have h3 : w2.drawn = w.drawn := by
            unfold World.farStore at e
            split at e
            · split at e
              · rename_i r e2
                injection e with e
                subst e
                exact viewStore_drawn e2
              · cases e
            · cases e
          rwa [h3] at h2
        · cases h
    cases v <;> simp only [Sem.run] at h <;> first | (cases h; done) | exact key _ h
  | new o k ih => intro w h; simp only [Sem.run] at h; exact ih _ { w with heap := w.heap.push o } h
  | shape r k ih => intro w h; simp only [Sem.run] at h; exact ih _ _ h
  | freeze a n k ih =>
    intro w h
    simp only [Sem.run] at h
    have := ih (w.freeze a n) h
    rwa [freeze_drawn] at this
  | frozen a k ih => intro w h; simp only [Sem.run] at h; exact ih _ _ h
  | getObj r k ih =>
    intro w h
    simp only [Sem.run] at h
    split at h
    · cases h
    · exact ih _ _ h
    · cases h
  | setObj r o k ih =>
    intro w h
    simp only [Sem.run] at h
    split at h
    · cases h
    · exact ih { w with heap := w.heap.setIfInBounds r o } h
    · cases h
  | choose q k ih =>
    intro w h
    simp only [Sem.run] at h
    split at h
    · exact ih _ _ h
    · exact Nat.le_trans (Nat.le_succ _) (ih _ _ h)
  | sys c k ih =>
    intro w h
    simp only [Sem.run] at h
    exact Nat.le_trans (sys_drawn w c) (ih _ _ h)
  | program k ih => intro w h; simp only [Sem.run] at h; exact ih _ _ h
  | mark m k ih => intro w h; simp only [Sem.run] at h; exact ih _ h
  | halt x => intro w h; simp only [Sem.run] at h; cases h
/-- Nothing of what was there has turned but the blocks of S. -/
structure Chg (S : List (Option Nat)) (w w' : World) : Prop where
  os : w'.os = w.os
  tape : w'.tape = w.tape
  output : w'.output = w.output
  size : w.heap.size ≤ w'.heap.size
  block : ∀ k, k < w.heap.size → some k ∉ S → w'.heap[k]? = w.heap[k]?
  drawn : w.drawn ≤ w'.drawn
theorem Chg.refl {S : List (Option Nat)} {w : World} : Chg S w w := ⟨rfl, rfl, rfl, Nat.le_refl _, fun _ _ _ => rfl, Nat.le_refl _⟩
theorem Chg.below {w w' : World} (h : Chg [] w w') : Below w.heap.size w w' := ⟨h.os, h.tape, h.output, h.size, fun k hk => h.block k hk (by simp)⟩
theorem Chg.of_below {S : List (Option Nat)} {w w' : World} (h : Below w.heap.size w w') (hd : w.drawn ≤ w'.drawn := by first | exact Nat.le_refl _ | (simp; done) | exact Nat.le_succ _) : Chg S w w' := ⟨h.os, h.tape, h.output, h.size, fun k hk _ => h.block k hk, hd⟩
theorem Chg.grown {w w' : World} {r : Option Nat} (h : w.grownBy w' r) (hd : w.drawn ≤ w'.drawn := by first | exact Nat.le_refl _ | (simp; done) | exact Nat.le_succ _) : Chg [r] w w' := ⟨h.os, h.tape, h.output, h.size, fun k hk hs => h.block k hk (fun e => hs (by simp [e])), hd⟩
/-- What a call has done to memory so far: nothing of what was there has turned but the blocks of S, and these objects are its own. -/
structure Mem (w0 : World) (S : List (Option Nat)) (w : World) (L : List Ob) : Prop where
  chg : Chg S w0 w
  ok : ∀ (i : Nat) (o : Ob), L[i]? = some o → o.ok w
  own : ∀ (i : Nat) (o : Ob) (g : Nat), L[i]? = some o → o.has g → w0.heap.size ≤ g ∨ some g ∈ S
  sep : ∀ (i j : Nat) (a b : Ob) (g : Nat), L[i]? = some a → L[j]? = some b → a.has g → b.has g → i = j
section
variable {F : Fence} {P : Program} {ops : Array Oper} {Q : Exit → Act → World → Prop} {rest : List Oper} {n : Fr} {d : Nat} {l l' : List (Nat × Value)} {w w0 w' : World} {L : List Ob} {S : List (Option Nat)}
variable {o : Op} {ty : TypeId} {pos : String} {after : Array Edge} {v : Value}

theorem Mem.init (w : World) : Mem w [] w [] := ⟨.refl, fun i o h => by simp at h, fun i o g h => by simp at h, fun i j a b g h => by simp at h⟩
theorem Mem.below (h : Mem w0 [] w L) : Below w0.heap.size w0 w := h.chg.below
theorem Mem.drewN (h : Mem w0 S w L) (k : Nat) : Mem w0 S (w.drewN k) L := ⟨⟨h.chg.os, h.chg.tape, h.chg.output, h.chg.size, h.chg.block, Nat.le_trans h.chg.drawn (Nat.le_add_right _ _)⟩, fun i o hi => Ob.ok_keep' (h.ok i o hi) (Nat.le_refl _) fun _ _ => rfl, h.own, h.sep⟩
theorem Mem.lt (h : Mem w0 S w L) {i : Nat} {o : Ob} (hi : L[i]? = some o) {g : Nat} (hg : o.has g) : g < w.heap.size := Ob.ok_lt (h.ok i o hi) hg
theorem get_app {α : Type} {L L1 : List α} {i : Nat} {u : α} (hi : (L ++ L1)[i]? = some u) : (i < L.length ∧ L[i]? = some u) ∨ (L.length ≤ i ∧ L1[i - L.length]? = some u) := by
  rcases Nat.lt_or_ge i L.length with hl | hl
  · rw [List.getElem?_append_left hl] at hi; exact .inl ⟨hl, hi⟩
  · rw [List.getElem?_append_right hl] at hi; exact .inr ⟨hl, hi⟩
/-- A callee has turned the blocks of S1, which are those of no object of L, and leaves the objects L1. -/
theorem Mem.calls {S1 : List (Option Nat)} {L1 : List Ob} (h : Mem w0 S w L) (hs : ∀ k, some k ∈ S1 → w0.heap.size ≤ k ∨ some k ∈ S) (hn : ∀ (i : Nat) (o : Ob) (g : Nat), L[i]? = some o → o.has g → some g ∉ S1) (h1 : Mem w S1 w' L1) : Mem w0 S w' (L ++ L1) := by
  have hkeep : ∀ (i : Nat) (o : Ob), L[i]? = some o → o.ok w' := fun i o hi => Ob.ok_keep' (h.ok i o hi) h1.chg.size fun g hg => h1.chg.block g (h.lt hi hg) (hn i o g hi hg)
  refine ⟨⟨h1.chg.os.trans h.chg.os, h1.chg.tape.trans h.chg.tape, h1.chg.output.trans h.chg.output, Nat.le_trans h.chg.size h1.chg.size, fun k hk hkS => ?_, Nat.le_trans h.chg.drawn h1.chg.drawn⟩, fun i u hi => ?_, fun i u g hi hg => ?_, fun i j a b g hi hj ha hb => ?_⟩
  · refine (h1.chg.block k (Nat.lt_of_lt_of_le hk h.chg.size) (fun hkS1 => ?_)).trans (h.chg.block k hk hkS)
    rcases hs k hkS1 with h2 | h2
    · omega
    · exact hkS h2
  · rcases get_app hi with ⟨_, h2⟩ | ⟨_, h2⟩
    · exact hkeep i u h2
    · exact h1.ok _ u h2
  · rcases get_app hi with ⟨_, h2⟩ | ⟨_, h2⟩
    · exact h.own i u g h2 hg
    · rcases h1.own _ u g h2 hg with h3 | h3
      · exact .inl (Nat.le_trans h.chg.size h3)
      · exact hs g h3
  · have key : ∀ (i j : Nat) (a b : Ob), i < L.length → L[i]? = some a → L.length ≤ j → L1[j - L.length]? = some b → a.has g → b.has g → False := fun i j a b _ h2 _ h4 ha hb => by
      rcases h1.own _ b g h4 hb with h5 | h5
      · have := h.lt h2 ha; omega
      · exact hn i a g h2 ha h5
    rcases get_app hi with ⟨h1', h2⟩ | ⟨h1', h2⟩ <;> rcases get_app hj with ⟨h3', h4⟩ | ⟨h3', h4⟩
    · exact h.sep i j a b g h2 h4 ha hb
    · exact (key i j a b h1' h2 h3' h4 ha hb).elim
    · exact (key j i b a h3' h4 h1' h2 hb ha).elim
    · have := h1.sep _ _ a b g h2 h4 ha hb; omega
/-- A callee that turned nothing. -/
theorem Mem.call {L1 : List Ob} (h : Mem w0 S w L) (h1 : Mem w [] w' L1) : Mem w0 S w' (L ++ L1) := h.calls (by simp) (by simp) h1
theorem Mem.call0 (h : Mem w0 S w L) (h1 : Mem w [] w' []) : Mem w0 S w' L := by simpa using h.call h1
theorem Mem.push (h : Mem w0 S w L) (hb : Below w.heap.size w w') {o : Ob} (ho : o.ok w') (hbase : ∀ g, o.has g → w.heap.size ≤ g) (hd : w.drawn ≤ w'.drawn := by first | exact Nat.le_refl _ | (simp; done) | exact Nat.le_succ _) : Mem w0 S w' (L ++ [o]) := by
  refine h.call ⟨.of_below hb hd, fun i u hi => ?_, fun i u g hi hg => ?_, fun i j a b g hi hj ha hb' => ?_⟩
  · cases i <;> simp at hi
    subst hi; exact ho
  · cases i <;> simp at hi
    subst hi; exact .inl (hbase g hg)
  · cases i <;> simp at hi
    cases j <;> simp at hj
    rfl
theorem Mem.below_ (h : Mem w0 S w L) (hb : Below w.heap.size w w') (hd : w.drawn ≤ w'.drawn := by first | exact Nat.le_refl _ | (simp; done) | exact Nat.le_succ _) : Mem w0 S w' L :=
  h.call0 ⟨.of_below hb hd, fun i o h => by simp at h, fun i o g h => by simp at h, fun i j a b g h => by simp at h⟩
theorem Mem.nilrow (h : Mem w0 S w L) (e : TypeId) (s : Nat) : Mem w0 S w (L ++ [.row none 0 e s 0 []]) := h.push (Below.refl _ _) (Ob.ok_row (World.ownsRow_nil w _ e s)) (fun g hg => by simp [Ob.has_row, rblk] at hg)
/-- A row without room, wherever it is said to lie. -/
theorem Mem.row0 (h : Mem w0 S w L) (A : Option Addr) (e : TypeId) (s : Nat) : Mem w0 S w (L ++ [.row A 0 e s 0 []]) := h.push (Below.refl _ _) ⟨fun h => absurd rfl h, fun _ => ⟨rfl, rfl⟩⟩ (fun g hg => by simp [Ob.has_row, rblk] at hg)
/-- Object i has turned; all other blocks are as they were. -/
theorem Mem.upd' (h : Mem w0 S w L) {i : Nat} {a o : Ob} {bk : Option Nat} (hi : L[i]? = some a) (hg : w.grownBy w' bk) (hbk : ∀ g, bk = some g → a.has g) (ho : o.ok w') (hblk : ∀ g, o.has g → a.has g ∨ w.heap.size ≤ g) (hd : w.drawn ≤ w'.drawn := by first | exact Nat.le_refl _ | (simp; done) | exact Nat.le_succ _) : Mem w0 S w' (L.set i o) := by
  have hil : i < L.length := (List.getElem?_eq_some_iff.1 hi).1
  have hget : ∀ j u, (L.set i o)[j]? = some u → (j = i ∧ u = o) ∨ (j ≠ i ∧ L[j]? = some u) := by
    intro j u hj
    by_cases e : i = j
    · subst e; simp [hil] at hj; exact .inl ⟨rfl, hj.symm⟩
    · rw [List.getElem?_set_ne e] at hj; exact .inr ⟨fun h => e h.symm, hj⟩
  refine ⟨⟨hg.os.trans h.chg.os, hg.tape.trans h.chg.tape, hg.output.trans h.chg.output, Nat.le_trans h.chg.size hg.size, fun k hk hkS => ?_, Nat.le_trans h.chg.drawn hd⟩, fun j u hj => ?_, fun j u g hj hu => ?_, fun j k x y g hj hk hx hy => ?_⟩
  · refine (hg.block k (Nat.lt_of_lt_of_le hk h.chg.size) (fun e => ?_)).trans (h.chg.block k hk hkS)
    rcases h.own i a k hi (hbk k e.symm) with h2 | h2
    · omega
    · exact hkS h2
  · rcases hget j u hj with ⟨rfl, rfl⟩ | ⟨hne, hj'⟩
    · exact ho
    · exact Ob.ok_keep' (h.ok j u hj') hg.size fun g hgg => hg.block g (h.lt hj' hgg) (fun e => hne (h.sep j i u a g hj' hi hgg (hbk g e.symm)))
  · rcases hget j u hj with ⟨rfl, rfl⟩ | ⟨hne, hj'⟩
    · rcases hblk g hu with e | e
      · exact h.own j a g hi e
      · exact .inl (Nat.le_trans h.chg.size e)
    · exact h.own j u g hj' hu
  · have hne : ∀ j u g, j ≠ i → L[j]? = some u → u.has g → ¬ o.has g := by
      intro j u g hne hj hu ho'
      rcases hblk g ho' with e | e
      · exact hne (h.sep j i u a g hj hi hu e)
      · have := h.lt hj hu; omega
    rcases hget j x hj with ⟨rfl, rfl⟩ | ⟨h1, h2⟩ <;> rcases hget k y hk with ⟨rfl, rfl⟩ | ⟨h3, h4⟩
    · rfl
    · exact absurd hx (hne k y g h3 h4 hy)
    · exact absurd hy (hne j x g h1 h2 hx)
    · exact h.sep j k x y g h2 h4 hx hy
theorem Mem.updR (h : Mem w0 S w L) {i : Nat} {A A' : Option Addr} {c c' s s' n n' : Nat} {e e' : TypeId} {cs cs' : List Value} (hi : L[i]? = some (.row A c e s n cs)) (hg : w.grownBy w' (rblk A c)) (ho : (Ob.row A' c' e' s' n' cs').ok w') (hblk : rblk A' c' = rblk A c ∨ ∀ g, rblk A' c' = some g → w.heap.size ≤ g) (hd : w.drawn ≤ w'.drawn := by first | exact Nat.le_refl _ | (simp; done) | exact Nat.le_succ _) : Mem w0 S w' (L.set i (.row A' c' e' s' n' cs')) :=
  h.upd' (hd := hd) hi hg (fun g e => Ob.has_row.2 e) ho fun g hgg => by
    have hgg := Ob.has_row.1 hgg
    rcases hblk with e | e
    · exact .inl (Ob.has_row.2 (e ▸ hgg))
    · exact .inr (e g hgg)
theorem Mem.updB (h : Mem w0 S w L) {i g : Nat} {e : TypeId} {cs cs' : List Value} (hi : L[i]? = some (.box g e cs)) (hg : w.grownBy w' (some g)) (ho : (Ob.box g e cs').ok w') (hd : w.drawn ≤ w'.drawn := by first | exact Nat.le_refl _ | (simp; done) | exact Nat.le_succ _) : Mem w0 S w' (L.set i (.box g e cs')) :=
  h.upd' (hd := hd) hi hg (fun k e => Ob.has_box.2 (Option.some.inj e)) ho fun k hk => .inl (Ob.has_box.2 (Ob.has_box.1 hk))
/-- The objects at the places js. -/
def sel (L : List Ob) : List Nat → Option (List Ob)
  | [] => some []
  | j :: r => match L[j]?, sel L r with
    | some o, some os => some (o :: os)
    | _, _ => none
theorem sel_get {L : List Ob} : ∀ {js : List Nat} {L' : List Ob}, sel L js = some L' → js.length = L'.length ∧ ∀ (k : Nat) (u : Ob), L'[k]? = some u → ∃ j, js[k]? = some j ∧ L[j]? = some u
  | [], L', h => by
    simp [sel] at h
    subst h
    exact ⟨rfl, fun k u hk => by simp at hk⟩
  | j :: r, L', h => by
    unfold sel at h
    split at h
    · rename_i o os h1 h2
      obtain rfl := Option.some.inj h
      obtain ⟨h3, h4⟩ := sel_get h2
      refine ⟨by simp [h3], fun k u hk => ?_⟩
      cases k with
      | zero => simp at hk; subst hk; exact ⟨j, rfl, h1⟩
      | succ k => simp at hk; obtain ⟨j', h5, h6⟩ := h4 k u hk; exact ⟨j', by simpa using h5, h6⟩
    · cases h
/-- Some objects need not be known any more: those at the places js stay. -/
theorem Mem.pick (h : Mem w0 S w L) {L' : List Ob} (js : List Nat) (hj : sel L js = some L') (hd : js.Nodup) : Mem w0 S w L' := by
  obtain ⟨hl, hget⟩ := sel_get hj
  refine ⟨h.chg, fun i u hi => ?_, fun i u g hi hg => ?_, fun i j a b g hi hj' ha hb => ?_⟩
  · obtain ⟨j, _, h2⟩ := hget i u hi
    exact h.ok j u h2
  · obtain ⟨j, _, h2⟩ := hget i u hi
    exact h.own j u g h2 hg
  · obtain ⟨j1, h1, h2⟩ := hget i a hi
    obtain ⟨j2, h3, h4⟩ := hget j b hj'
    have e := h.sep _ _ a b g h2 h4 ha hb
    subst e
    obtain ⟨h5, h6⟩ := List.getElem?_eq_some_iff.1 h1
    obtain ⟨h7, h8⟩ := List.getElem?_eq_some_iff.1 h3
    have hp := List.pairwise_iff_getElem.1 hd
    rcases Nat.lt_trichotomy i j with hl | hl | hl
    · exact absurd (h6.trans h8.symm) (hp i j h5 h7 hl)
    · exact hl
    · exact absurd (h8.trans h6.symm) (hp j i h7 h5 hl)
/-- A row reads. -/
theorem ownsRow_rd {B : Nat} {A : Option Addr} {c : Nat} {e : TypeId} {s n : Nat} {cs : List Value} (h : w.ownsRow B e s (.slice A n c) n cs) : Rd w A c s n cs := by
  rcases h.2 with ⟨hv, h0⟩ | ⟨g, cap, cur, hv, hb, hh, hn, hc, hs, ht⟩
  · injection hv with hA hn hc
    subst hA; subst h0; subst hc
    exact ⟨h.1, Nat.le_refl _, Nat.zero_le _, fun h => absurd h (by omega), fun _ => rfl⟩
  · injection hv with hA hn' hc'
    subst hA; subst hc'
    refine ⟨h.1, hn, hc, fun h0 => ⟨_, rfl, (Array.getElem?_eq_some_iff.1 hh).1, ?_⟩, fun h => by cases h⟩
    exact World.ownsRow.cells (v := .slice (some ⟨g, 0, none⟩) n c) h rfl
theorem Ob.rd {A : Option Addr} {c : Nat} {e : TypeId} {s n : Nat} {cs : List Value} (h : (Ob.row A c e s n cs).ok w) : Rd w A c s n cs := by
  by_cases hc : c = 0
  · obtain ⟨rfl, rfl⟩ := h.2 hc
    exact ⟨by simp, Nat.zero_le _, by subst hc; exact Nat.zero_le _, fun h => absurd h (by omega), fun _ => hc⟩
  · exact ownsRow_rd (h.1 hc)
theorem Mem.rd (h : Mem w0 S w L) {i : Nat} {A : Option Addr} {c : Nat} {e : TypeId} {s n : Nat} {cs : List Value} (hi : L[i]? = some (.row A c e s n cs)) : Rd w A c s n cs := Ob.rd (h.ok i _ hi)
/-- A block that lies apart from the blocks of S. -/
def Off (S : List (Option Nat)) (n : Nat) (A : Option Addr) : Prop := 0 < n → ∀ ad, A = some ad → some ad.block ∉ S
theorem Off.nil {n : Nat} {A : Option Addr} : Off [] n A := fun _ _ _ => by simp
theorem Off.zero {S : List (Option Nat)} {A : Option Addr} : Off S 0 A := fun h => absurd h (by omega)
theorem Rd.chg {A : Option Addr} {c s n : Nat} {cs : List Value} (h : Rd w A c s n cs) (hc : Chg S w w') (ho : Off S n A) : Rd w' A c s n cs :=
  ⟨h.len, h.cap, h.most, fun hn => let ⟨ad, e, h1, h2⟩ := h.adr hn
    ⟨ad, e, Nat.lt_of_lt_of_le h1 hc.size, fun j u hj => (World.cell?_of_block (w := w) (a := ad.add j) (by rw [add_block]; exact hc.block _ h1 (ho hn ad e))).trans (h2 j u hj)⟩, h.nil⟩
theorem Mem.inp (h : Mem w0 S w L) {A : Option Addr} {c s n : Nat} {cs : List Value} (hr : Rd w0 A c s n cs) (ho : Off S n A) : Rd w A c s n cs := hr.chg h.chg ho

/-! ### Loads and addresses -/
variable {x y : Operand} {k k' : IntKind} {p q : Int} {t t' e : TypeId} {A : Option Addr} {s c b m : Nat}
theorem O.idxA {cs : List Value} (ht : SliceT P t e s b) (h : At w A s m p cs) (hx : ev l x = some (.slice A m c)) (hy : ev l y = some (.int k p)) : OpV P (.indexAddr t x y) ty l w (.pointer (some ((A.getD zad).add (p.toNat * s)))) := fun ρ hρ _ _ _ _ => by
  obtain ⟨i, hi, rfl, _⟩ := ht.info
  obtain ⟨ad, rfl⟩ := Option.isSome_iff_exists.1 h.isSome
  simp only [execOp, hρ x _ hx, hρ y _ hy]
  simp [Instr.indexAt, asIntOf, run_underlying ht.1, sizeOf, typeInfo, hi, h.lo, h.hi]
theorem O.load {a : Addr} {u : Value} (ht : isScalar P t = true) (hx : ev l x = some (.pointer (some a))) (hc : w.cell? a = some u) : OpV P (.load t x) ty l w u := fun ρ hρ _ _ _ _ => by
  simp only [execOp, hρ x _ hx]
  simp [Instr.loadAt, Instr.sureAddr, loadVar, run_isAgg_scalar ht, hc]
def isAggT (P : Program) (t : TypeId) (s : Nat) : Bool := (match P.underlying t with
  | some (.struct _) => true
  | some (.array ..) => true
  | _ => false) && ((P.info? t).map (·.size) == some s)
theorem isAggT_run {P : Program} {t : TypeId} {s : Nat} (h : isAggT P t s = true) (w : World) : (isAgg t).run P w = .ok true w ∧ (sizeOf t).run P w = .ok s w := by
  unfold isAggT at h
  simp only [Bool.and_eq_true, beq_iff_eq] at h
  obtain ⟨h1, h2⟩ := h
  obtain ⟨i, hi, hs⟩ := Option.map_eq_some_iff.1 h2
  constructor
  · cases hu : P.underlying t with
    | none => simp [hu] at h1
    | some d => cases d <;> simp [hu] at h1 <;> simp [isAgg, run_underlying hu]
  · simp [sizeOf, typeInfo, hi, hs]
theorem O.loadN {a : Addr} {cs : List Value} (ht : isAggT P t cs.length = true) (hx : ev l x = some (.pointer (some a))) (hc : Cs w a cs) : OpV P (.load t x) ty l w (.agg cs.toArray) := fun ρ hρ _ _ _ _ => by
  obtain ⟨h1, h2⟩ := isAggT_run ht w
  simp only [execOp, hρ x _ hx]
  simp [Instr.loadAt, Instr.sureAddr, loadVar, h1, h2, run_loadCells_list w a cs hc]
theorem O.fldA {a : Addr} {f off fs : Nat} {ft : TypeId} (ht : FieldT P t f off ft fs) (hfs : fs ≠ 0) (hx : ev l x = some (.pointer (some a))) : OpV P (.fieldAddr t x f) ty l w (.pointer (some (a.add off))) := fun ρ hρ _ _ _ _ => by
  obtain ⟨h1, h2⟩ := ht
  obtain ⟨i, hi, hs⟩ := Option.map_eq_some_iff.1 h2
  cases hu : P.underlying t with
  | none => simp [hu] at h1
  | some dd =>
    cases dd <;> simp [hu] at h1
    rename_i fl
    obtain ⟨fd, hfd, rfl, rfl⟩ := h1
    simp only [execOp, hρ x _ hx]
    simp [Instr.fieldAt, Instr.sureAddr, run_underlying hu, hfd, fieldPlace, sizeOf, typeInfo, hi, hs, hfs]
theorem O.len {ats : TypeId} (ht : SliceT P ats e s b) (hx : ev l x = some (.slice A m c)) : OpV P (.call ⟨.builtin .len, #[x], #[ats]⟩) ty l w (.int .i64 m) := fun ρ hρ _ _ _ _ => by
  simp only [execOp]
  simp [resolve, invoke, builtin, Builtin.len_, hρ x _ hx, run_underlying ht.1, goInt]
theorem O.lens {ats : TypeId} {a : ByteArray} (ht : P.underlying ats = some .string) (hx : ev l x = some (.string a)) : OpV P (.call ⟨.builtin .len, #[x], #[ats]⟩) ty l w (.int .i64 a.size) := fun ρ hρ _ _ _ _ => by
  simp only [execOp]
  simp [resolve, invoke, builtin, Builtin.len_, hρ x _ hx, run_underlying ht, goInt]
end
end Go.Ox
