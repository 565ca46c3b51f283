/- A plain library: a row of operations that are passed by, or that hand on Bools that are known, in one step. No program is named here. -/
import Derived.Test.YtidbgejnkpoeeaaOxF
set_option linter.unusedVariables false
namespace Go.Ox
open Go Go.RowKit
def bval : Option Value → Option Bool
  | some (.bool b) => some b
  | _ => none
theorem bval_some {o : Option Value} {b : Bool} (h : bval o = some b) : o = some (.bool b) := by
  unfold bval at h
  split at h
  · cases h; rfl
  · cases h
def bskip (ops : Array Oper) (n : Nat) (l : List (Nat × Value)) (d j : Nat) (b : Bool) : Option (Nat × Value) :=
  bif Nat.blt d n && ylt ops j n then match yl ops l j with
    | some b' => bif b' == b then none else some (d, undef)
    | none => bif yu ops l j then some (d, undef) else none
  else none
def bop (n : Nat) (l : List (Nat × Value)) (d : Nat) : Op → Option (Nat × Value)
  | .move x => bif Nat.blt d n then (bval (ev l x)).map fun b => (d, .bool b) else none
  | .pick c x y => bif Nat.blt d n then (match bval (ev l c) with
      | some true => (bval (ev l x)).map fun b => (d, .bool b)
      | some false => (bval (ev l y)).map fun b => (d, .bool b)
      | none => none) else none
  | _ => none
/-- What an operation leaves, if it is passed by, or hands on a Bool that is known. -/
def bstep (ops : Array Oper) (n : Nat) (l : List (Nat × Value)) (o : Oper) : Option (Nat × Value) :=
  match o.dst, o.guard with
  | some d, some jb => bskip ops n l d jb.1 jb.2
  | some d, none => bop n l d o.op
  | none, _ => none
section
variable {F : Fence} {P : Program} {ops : Array Oper} {Q : Exit → Act → World → Prop} {rest : List Oper} {n : Fr} {d : Nat} {l l' : List (Nat × Value)} {w : World}
variable {o : Op} {ty : TypeId} {pos : String} {after : Array Edge} {i j : Nat} {b : Bool} {ld mv pu : List Nat} {X : List (Option Nat)} {r : Ordr} {e : Nat × Value}
theorem bop_some (h : bop n l d o = some e) : Nat.blt d n.n = true ∧ ∃ b, e = (d, .bool b) ∧ ∀ w, OpV P o ty l w (.bool b) := by
  unfold bop at h
  split at h
  · cases hd : Nat.blt d n with
    | false => rw [hd] at h; cases h
    | true =>
      rw [hd] at h
      obtain ⟨b, hb, rfl⟩ := Option.map_eq_some_iff.1 h
      exact ⟨rfl, b, rfl, fun w => O.move (bval_some hb)⟩
  · cases hd : Nat.blt d n with
    | false => rw [hd] at h; cases h
    | true =>
      rw [hd] at h
      simp only [cond_true] at h
      split at h
      · rename_i hc
        obtain ⟨b, hb, rfl⟩ := Option.map_eq_some_iff.1 h
        exact ⟨rfl, b, rfl, fun w => O.pickt (bval_some hc) (bval_some hb)⟩
      · rename_i hc
        obtain ⟨b, hb, rfl⟩ := Option.map_eq_some_iff.1 h
        exact ⟨rfl, b, rfl, fun w => O.pickf (bval_some hc) (bval_some hb)⟩
      · cases h
  · cases h
theorem bskip_some (h : bskip ops n l d j b = some e) : Nat.blt d n.n = true ∧ ylt ops j n = true ∧ e = (d, undef) ∧ ((∃ b', yl ops l j = some b' ∧ (b' == b) = false) ∨ yu ops l j = true) := by
  unfold bskip at h
  cases hd : Nat.blt d n && ylt ops j n with
  | false => rw [hd] at h; cases h
  | true =>
    rw [hd] at h
    simp only [Bool.and_eq_true] at hd
    simp only [cond_true] at h
    split at h
    · rename_i b' hb
      cases hc : b' == b with
      | true => rw [hc] at h; cases h
      | false => rw [hc] at h; cases h; exact ⟨hd.1, hd.2, rfl, .inl ⟨b', hb, hc⟩⟩
    · cases hu : yu ops l j with
      | false => rw [hu] at h; cases h
      | true => rw [hu] at h; cases h; exact ⟨hd.1, hd.2, rfl, .inr rfl⟩
theorem RL.bstep [WF F] {ov : Oper} (h : bstep ops n l ov = some e) (hk : RL F P ops Q rest n (e :: l) w) : RL F P ops Q (ov :: rest) n l w := by
  obtain ⟨dst, o, ty, pos, after, g⟩ := ov
  unfold Ox.bstep at h
  split at h
  · rename_i d jb hd hg
    simp only at hd hg
    subst hd; subst hg
    obtain ⟨j, b⟩ := jb
    obtain ⟨h1, h2, rfl, h3⟩ := bskip_some h
    rcases h3 with ⟨b', h4, h5⟩ | h4
    · exact RL.gskip h4 h2 h5 h1 hk
    · exact RL.gskip' h4 h2 h1 hk
  · rename_i d hd hg
    simp only at hd hg
    subst hd; subst hg
    obtain ⟨h1, b, rfl, h3⟩ := bop_some (P := P) (ty := ty) h
    exact RL.val (h3 w) h1 hk
  · cases h
theorem RD.bstep [WF F] {ov : Oper} (ho : ops[i]? = some ov) (h : bstep ops n l ov = some e) (hk : RD F P ops Q ld mv pu X r n (e :: l) w) : RD F P ops Q ld mv pu X (.cons i r) n l w := by
  obtain ⟨dst, o, ty, pos, after, g⟩ := ov
  unfold Ox.bstep at h
  split at h
  · rename_i d jb hd hg
    simp only at hd hg
    subst hd; subst hg
    obtain ⟨j, b⟩ := jb
    obtain ⟨h1, h2, rfl, h3⟩ := bskip_some h
    rcases h3 with ⟨b', h4, h5⟩ | h4
    · exact RD.gskip ho h4 h2 h5 h1 hk
    · exact RD.gskip' ho h4 h2 h1 hk
  · rename_i d hd hg
    simp only at hd hg
    subst hd; subst hg
    obtain ⟨h1, b, rfl, h3⟩ := bop_some (P := P) (ty := ty) h
    cases hm : mv.contains i with
    | true => exact RD.mq ho hm (h3 w) h1 hk
    | false =>
      cases hp : pu.contains i with
      | true => exact RD.p ho hm hp h1 (fun w' => h3 w') hk
      | false => exact RD.q ho hm hp h1 (fun w' _ => h3 w') hk
  · cases h
def brunL (ops : Array Oper) (n : Nat) : List Oper → List (Nat × Value) → Option (List (Nat × Value))
  | [], l => some l
  | o :: r, l => match bstep ops n l o with
    | some e => bif (lk l e.1).isNone then brunL ops n r (e :: l) else none
    | none => none
def brunD (ops : Array Oper) (n : Nat) : List Nat → List (Nat × Value) → Option (List (Nat × Value))
  | [], l => some l
  | i :: r, l => match ops[i]? with
    | some o => match bstep ops n l o with
      | some e => bif (lk l e.1).isNone then brunD ops n r (e :: l) else none
      | none => none
    | none => none
theorem lk_new {t : Nat} {v : Value} (he : (lk l e.1).isNone = true) (h : lk l t = some v) : lk (e :: l) t = some v := by
  obtain ⟨k, u⟩ := e
  simp only [lk]
  cases hk : Nat.beq k t with
  | true =>
    have := Nat.eq_of_beq_eq_true hk
    subst this
    simp only at he
    rw [h] at he; cases he
  | false => exact h
theorem RL.brun [WF F] : ∀ {os rest : List Oper} {l l' : List (Nat × Value)}, brunL ops n os l = some l' → RL F P ops Q rest n l' w → RL F P ops Q (os ++ rest) n l w ∧ ∀ t v, lk l t = some v → lk l' t = some v
  | [], rest, l, l', h, hk => by cases h; exact ⟨hk, fun _ _ h => h⟩
  | o :: os, rest, l, l', h, hk => by
    unfold brunL at h
    split at h
    · rename_i e he
      cases hn : (lk l e.1).isNone with
      | false => rw [hn] at h; cases h
      | true =>
        rw [hn] at h
        have ih := RL.brun (os := os) h hk
        exact ⟨RL.bstep he ih.1, fun t v ht => ih.2 t v (lk_new hn ht)⟩
    · cases h
def consA : List Nat → Ordr → Ordr
  | [], r => r
  | i :: s, r => .cons i (consA s r)
theorem RD.brun [WF F] : ∀ {ids : List Nat} {r : Ordr} {l l' : List (Nat × Value)}, brunD ops n ids l = some l' → RD F P ops Q ld mv pu X r n l' w → RD F P ops Q ld mv pu X (consA ids r) n l w ∧ ∀ t v, lk l t = some v → lk l' t = some v
  | [], r, l, l', h, hk => by cases h; exact ⟨hk, fun _ _ h => h⟩
  | i :: ids, r, l, l', h, hk => by
    unfold brunD at h
    split at h
    · rename_i o ho
      split at h
      · rename_i e he
        cases hn : (lk l e.1).isNone with
        | false => rw [hn] at h; cases h
        | true =>
          rw [hn] at h
          have ih := RD.brun (ids := ids) h hk
          exact ⟨RD.bstep ho he ih.1, fun t v ht => ih.2 t v (lk_new hn ht)⟩
      · cases h
    · cases h
theorem brunL_less : ∀ {os : List Oper} {l l' : List (Nat × Value)}, brunL ops n os l = some l' → ∀ t v, lk l t = some v → lk l' t = some v
  | [], l, l', h => by cases h; exact fun _ _ h => h
  | o :: os, l, l', h => by
    unfold brunL at h
    split at h
    · rename_i e he
      cases hn : (lk l e.1).isNone with
      | false => rw [hn] at h; cases h
      | true => rw [hn] at h; exact fun t v ht => brunL_less h t v (lk_new hn ht)
    · cases h
theorem brunD_less : ∀ {ids : List Nat} {l l' : List (Nat × Value)}, brunD ops n ids l = some l' → ∀ t v, lk l t = some v → lk l' t = some v
  | [], l, l', h => by cases h; exact fun _ _ h => h
  | i :: ids, l, l', h => by
    unfold brunD at h
    split at h
    · split at h
      · rename_i e he
        cases hn : (lk l e.1).isNone with
        | false => rw [hn] at h; cases h
        | true => rw [hn] at h; exact fun t v ht => brunD_less h t v (lk_new hn ht)
      · cases h
    · cases h
/-- Of a row of such operations just some Bools are kept. -/
def bhas (o : Option (List (Nat × Value))) (ks : List (Nat × Bool)) : Bool := match o with
  | some l => ks.all fun k => match lk l k.1 with
    | some (.bool b) => b == k.2
    | _ => false
  | none => false
def keepB : List (Nat × Bool) → List (Nat × Value) → List (Nat × Value)
  | [], l => l
  | k :: r, l => (k.1, .bool k.2) :: keepB r l
theorem keep_less {ks : List (Nat × Bool)} (h : ∀ k ∈ ks, lk l' k.1 = some (.bool k.2)) (hl : ∀ t v, lk l t = some v → lk l' t = some v) : ∀ t v, lk (keepB ks l) t = some v → lk l' t = some v := by
  induction ks with
  | nil => exact hl
  | cons k ks ih => exact less_cons (h k (by simp)) (ih fun k' hk' => h k' (by simp [hk']))
theorem bhas_some {o : Option (List (Nat × Value))} {ks : List (Nat × Bool)} (h : bhas o ks = true) : ∃ l, o = some l ∧ ∀ k ∈ ks, lk l k.1 = some (.bool k.2) := by
  unfold bhas at h
  split at h
  · rename_i l
    refine ⟨l, rfl, fun k hk => ?_⟩
    have := List.all_eq_true.1 h k hk
    split at this
    · rename_i b hb
      rw [hb]
      simp at this
      rw [this]
    · cases this
  · cases h
theorem RL.bruns [WF F] (m : Nat) (ks : List (Nat × Bool)) (h : bhas (brunL ops n (rest.take m) l) ks = true) (hk : RL F P ops Q (rest.drop m) n (keepB ks l) w) : RL F P ops Q rest n l w := by
  obtain ⟨l', h1, h2⟩ := bhas_some h
  have hl := keep_less h2 (brunL_less h1)
  have := (RL.brun (P := P) (Q := Q) (w := w) (rest := rest.drop m) h1 (fun a ha => hk a (ha.less hl))).1
  rwa [List.take_append_drop] at this
theorem RD.bruns [WF F] (ids : List Nat) (ks : List (Nat × Bool)) (h : bhas (brunD ops n ids l) ks = true) (hk : RD F P ops Q ld mv pu X r n (keepB ks l) w) : RD F P ops Q ld mv pu X (consA ids r) n l w := by
  obtain ⟨l', h1, h2⟩ := bhas_some h
  exact (RD.brun h1 (fun a ha => hk a (ha.less (keep_less h2 (brunD_less h1))))).1
theorem RL.brun1 [WF F] (m : Nat) (k1 : Nat) (b1 : Bool) (h : bhas (brunL ops n (rest.take m) l) [(k1, b1)] = true) (hk : RL F P ops Q (rest.drop m) n ((k1, .bool b1) :: l) w) : RL F P ops Q rest n l w := RL.bruns m _ h hk
theorem RL.brun2 [WF F] (m : Nat) (k1 : Nat) (b1 : Bool) (k2 : Nat) (b2 : Bool) (h : bhas (brunL ops n (rest.take m) l) [(k1, b1), (k2, b2)] = true) (hk : RL F P ops Q (rest.drop m) n ((k1, .bool b1) :: (k2, .bool b2) :: l) w) : RL F P ops Q rest n l w := RL.bruns m _ h hk
theorem RD.brun1 [WF F] (ids : List Nat) (k1 : Nat) (b1 : Bool) (h : bhas (brunD ops n ids l) [(k1, b1)] = true) (hk : RD F P ops Q ld mv pu X r n ((k1, .bool b1) :: l) w) : RD F P ops Q ld mv pu X (consA ids r) n l w := RD.bruns ids _ h hk
theorem RD.brun2 [WF F] (ids : List Nat) (k1 : Nat) (b1 : Bool) (k2 : Nat) (b2 : Bool) (h : bhas (brunD ops n ids l) [(k1, b1), (k2, b2)] = true) (hk : RD F P ops Q ld mv pu X r n ((k1, .bool b1) :: (k2, .bool b2) :: l) w) : RD F P ops Q ld mv pu X (consA ids r) n l w := RD.bruns ids _ h hk
end
end Go.Ox
