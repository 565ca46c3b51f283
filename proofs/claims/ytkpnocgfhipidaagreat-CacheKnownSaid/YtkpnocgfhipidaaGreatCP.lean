/- Plain text: the order of flows; flows that end one by one; Advance. -/
import Derived.Test.YtkpnocgfhipidaaGreatBP
set_option linter.unusedVariables false
namespace Go.Proofs.YtkpnocgfhipidaaGreat
open Go Go.Ox Go.Ox.Ring
theorem kb_wf {k : Xe} (r : RK k) : Wf 256 (kb k) := by unfold kb; rw [if_pos r.right]; exact kbs_wf r
theorem kc_neg (x y : Xe) : kc y x = - kc x y := lx_neg _ _
theorem kc_ne {x y : Xe} (rx : RK x) (ry : RK y) (hne : x ≠ y) : kc x y ≠ 0 := fun h0 => hne (kb_inj rx ry (nb_inj (kb_wf rx) (kb_wf ry) (lx_zero _ _ h0)))
theorem kc_refl (x : Xe) : kc x x = 0 := lx_refl _
def LT (f : Rc → Int) (x y : Rc) : Prop := lk f x y < 0
theorem LT.asymm {f : Rc → Int} {x y : Rc} (h : LT f x y) : ¬ LT f y x := by
  unfold LT at *
  rw [lk_lt] at *
  have := kc_neg x.Xo y.Xo
  omega
theorem LT.trans {f : Rc → Int} {x y z : Rc} (h : LT f x y) (h2 : LT f y z) : LT f x z := by
  have := (swo_lk f).trans x y z
  simp only [Go.Proofs.ltOf, decide_eq_true_eq] at this
  exact this h h2
theorem LT.tot {f : Rc → Int} {x y : Rc} (rx : RK x.Xo) (ry : RK y.Xo) (hne : x.Xo ≠ y.Xo) (h : ¬ LT f y x) : LT f x y := by
  unfold LT at *
  rw [lk_lt] at *
  have h1 := kc_neg x.Xo y.Xo
  have h2 := kc_ne rx ry hne
  omega
theorem sort_uniq {α : Type} {R : α → α → Prop} (hA : ∀ x y, R x y → ¬ R y x) : ∀ {l1 l2 : List α}, l1.Perm l2 → l1.Pairwise R → l2.Pairwise R → l1 = l2
  | [], l2, h, _, _ => h.nil_eq
  | a :: l1, [], h, _, _ => h.symm.nil_eq.symm
  | a :: l1, b :: l2, h, h1, h2 => by
    have ha := h.mem_iff.1 (List.mem_cons_self)
    have hb := h.mem_iff.2 (List.mem_cons_self)
    have e : a = b := by
      rcases List.mem_cons.1 ha with ha | ha
      · exact ha
      · rcases List.mem_cons.1 hb with hb | hb
        · exact hb.symm
        · exact (hA _ _ (List.rel_of_pairwise_cons h1 hb) (List.rel_of_pairwise_cons h2 ha)).elim
    subst e
    rw [sort_uniq hA (List.Perm.cons_inv h) (List.Pairwise.of_cons h1) (List.Pairwise.of_cons h2)]
structure FL (xs : List Rc) : Prop where
  rk : ∀ r ∈ xs, RK r.Xo
  ne : xs.Pairwise (fun x y => x.Xo ≠ y.Xo)
theorem FL.perm {xs ys : List Rc} (h : FL xs) (p : xs.Perm ys) : FL ys := ⟨fun r hr => h.rk r (p.mem_iff.2 hr), (p.pairwise_iff (fun h => h.symm)).1 h.ne⟩
theorem FL.sub {xs ys : List Rc} (h : FL xs) (s : List.Sublist ys xs) : FL ys := ⟨fun r hr => h.rk r (s.subset hr), h.ne.sublist s⟩
theorem FL.filter {xs : List Rc} (h : FL xs) (p : Rc → Bool) : FL (xs.filter p) := h.sub List.filter_sublist
theorem CI.fl {n : Nat} {c : Ca} (h : CI n c) : FL c.Xh := ⟨h.rk, h.dist⟩
def st (f : Rc → Int) (xs : List Rc) : List Rc := srt (lk f) xs
theorem st_perm (f : Rc → Int) (xs : List Rc) : (st f xs).Perm xs := (srt_spec (swo_lk f) xs).1
theorem st_lt (f : Rc → Int) {xs : List Rc} (h : FL xs) : (st f xs).Pairwise (LT f) := by
  have h1 := (srt_spec (swo_lk f) xs).2
  have h2 := (h.perm (st_perm f xs).symm)
  refine (h1.and h2.ne).imp_of_mem fun {a b} ha hb hab => ?_
  refine LT.tot (h2.rk a ha) (h2.rk b hb) hab.2 ?_
  have h3 := hab.1
  simpa [Go.Proofs.ltOf, LT] using h3
theorem st_uniq (f : Rc → Int) {xs ys : List Rc} (h : FL xs) (p : ys.Perm xs) (hs : ys.Pairwise (LT f)) : st f xs = ys :=
  sort_uniq (fun _ _ => LT.asymm) ((st_perm f xs).trans p.symm) (st_lt f h) hs
theorem st_eq (f : Rc → Int) {xs ys : List Rc} (h : FL xs) (p : xs.Perm ys) : st f xs = st f ys := st_uniq f h ((st_perm f ys).trans p.symm) (st_lt f (h.perm p))
def rsn (b : Bd) (r : Rc) : Int := if idl b r = du b r then 1 else 2
theorem adv2_eq (c : Ca) (r : Rc) : ZE r c = some (rsn c.Xb r) := by
  unfold ZE rsn
  rw [idle_eq, Option.bind_some, due_eq, Option.bind_some]
  by_cases h : idl c.Xb r = du c.Xb r
  · rw [if_pos (by simp [h]), if_pos h]
  · rw [if_neg (by simpa using h), if_neg h]
theorem ends_gen {n : Nat} {b : Bd} {tk : Int} {rz : Rc → Int} {G : Nat → Ca → List Rc → Int → Option (List Rc × Ca)} {y rest : List Rc} (hy : y.length ≤ 4096)
    (hs : ∀ (f : Nat) (c : Ca) (out : List Rc) (t : Nat) (r : Rc), y[t]? = some r → c.Xb = b → c.XB = tk → out.length < 100000 → G (f + 1) c out (t : Int) = (Ys c r.Xo (rz r)).bind fun q => G f q.2 (out ++ [q.1]) ((t + 1 : Nat) : Int))
    (hz : ∀ (f : Nat) (c : Ca) (out : List Rc), G (f + 1) c out (y.length : Int) = some (out, c)) :
    ∀ (f t : Nat) (c : Ca) (out : List Rc), CI n c → c.Xb = b → c.XB = tk → t ≤ y.length → y.length < f + t → out.length = t → c.Xh.Perm (y.drop t ++ rest) →
      ∃ c', G f c out (t : Int) = some (out ++ (y.drop t).map (fun r => rs r (rz r)), c') ∧ CI n c' ∧ c'.XB = tk ∧ c'.Xb = b ∧ c'.Xh.Perm rest
  | 0, t, c, out, _, _, _, h1, h2, _, _ => by omega
  | f + 1, t, c, out, hc, hb, ht, h1, h2, ho, hp => by
    by_cases hl : t = y.length
    · subst hl
      rw [hz]
      refine ⟨c, ?_, hc, ht, hb, ?_⟩
      · simp
      · simpa using hp
    · have hlt : t < y.length := by omega
      obtain ⟨r, hr⟩ : ∃ r, y[t]? = some r := ⟨_, List.getElem?_eq_getElem hlt⟩
      have hdr : y.drop t = r :: y.drop (t + 1) := by rw [List.drop_eq_getElem_cons hlt, (List.getElem?_eq_some_iff.1 hr).2]
      have hm : r ∈ c.Xh := hp.mem_iff.2 (by rw [hdr]; simp)
      obtain ⟨i, hi⟩ := List.getElem?_of_mem hm
      obtain ⟨c1, e1, hc1, ht1, hb1, hp1⟩ := end_spec hc hi (rz r)
      rw [hs f c out t r hr hb ht (by omega), e1, Option.bind_some]
      have hp2 : c1.Xh.Perm (y.drop (t + 1) ++ rest) := by
        have h3 := hp1.symm.trans hp
        rw [hdr] at h3
        exact h3.cons_inv
      obtain ⟨c2, e2, hc2, ht2, hb2, hp3⟩ := ends_gen hy hs hz f (t + 1) c1 (out ++ [rs r (rz r)]) hc1 (hb1.trans hb) (ht1.trans ht) (by omega) (by omega) (by simp [ho]) hp2
      refine ⟨c2, ?_, hc2, ht2, hb2, hp3⟩
      rw [hdr]
      simpa using e2
theorem adv_ends {n : Nat} {c : Ca} {y rest : List Rc} (hy : y.length ≤ 4096) (h : CI n c) (hp : c.Xh.Perm (y ++ rest)) :
    ∃ c', Yv y fuel0 c.XB c.Xb.Xz c.Xb.XI c.Xb.XA c.Xb.Xk c.Xb.Xr c.Xf.Xp c.Xf.XG c.Xh [] 0 = some (y.map (fun r => rs r (rsn c.Xb r)), c') ∧
      CI n c' ∧ c'.XB = c.XB ∧ c'.Xb = c.Xb ∧ c'.Xh.Perm rest := by
  have key := ends_gen (n := n) (b := c.Xb) (tk := c.XB) (rz := rsn c.Xb) (y := y) (rest := rest)
    (G := fun f c out t => Yv y f c.XB c.Xb.Xz c.Xb.XI c.Xb.XA c.Xb.Xk c.Xb.Xr c.Xf.Xp c.Xf.XG c.Xh out t) hy
    (fun f c2 out t r hr hb ht ho => by
      show YT (Yv y f) y c2.XB c2.Xb.Xz c2.Xb.XI c2.Xb.XA c2.Xb.Xk c2.Xb.Xr c2.Xf.Xp c2.Xf.XG c2.Xh out (t : Int) = _
      have hlt := (List.getElem?_eq_some_iff.1 hr).1
      unfold YT
      rw [if_pos (dT (by omega)), gidx_nat hr, Option.bind_some, adv2_eq, Option.bind_some, show IntKind.i64.wrap ((t : Int) + 1) = ((t + 1 : Nat) : Int) by rw [wi64 (by omega) (by omega)]; omega]
      have hlim : ∀ q : Rc, decide (out.length + ([q] : List Rc).length ≤ lim) = true := fun q => limk (by simp; omega)
      simp only [hlim, if_true]
      rw [← hb])
    (fun f c2 out => by
      show YT (Yv y f) y c2.XB c2.Xb.Xz c2.Xb.XI c2.Xb.XA c2.Xb.Xk c2.Xb.Xr c2.Xf.Xp c2.Xf.XG c2.Xh out (y.length : Int) = _
      unfold YT
      rw [if_neg (dF (by omega))])
  obtain ⟨c', e, h1⟩ := key fuel0 0 c [] h rfl rfl (by omega) (by unfold fuel0; omega) rfl (by simpa using hp)
  exact ⟨c', by simpa using e, h1⟩
def dueB (b : Bd) (tick : Int) (r : Rc) : Bool := decide (du b r ≤ tick)
theorem adv_L1 {c : Ca} {tick : Int} (hs : c.Xh.length ≤ 4096) : ∀ (f t : Nat), t ≤ c.Xh.length → c.Xh.length < f + t →
    YU c tick f ((c.Xh.take t).filter (dueB c.Xb tick)) (t : Int) =
      (XY (c.Xh.filter (dueB c.Xb tick)) ⟨tick, c.Xb, c.Xf, c.Xh⟩).bind fun y =>
        Yv y fuel0 tick c.Xb.Xz c.Xb.XI c.Xb.XA c.Xb.Xk c.Xb.Xr c.Xf.Xp c.Xf.XG c.Xh [] 0
  | 0, t, h1, h2 => by omega
  | f + 1, t, h1, h2 => by
    show ZU (YU c tick f) c tick _ (t : Int) = _
    unfold ZU
    by_cases hl : t = c.Xh.length
    · subst hl
      rw [if_neg (dF (by omega)), List.take_length]
    · have hlt : t < c.Xh.length := by omega
      obtain ⟨r, hr⟩ : ∃ r, c.Xh[t]? = some r := ⟨_, List.getElem?_eq_getElem hlt⟩
      have ih := adv_L1 hs f (t + 1) (by omega) (by omega) (tick := tick)
      have htk : c.Xh.take (t + 1) = c.Xh.take t ++ [r] := by rw [List.take_add_one, hr]; rfl
      rw [htk, List.filter_append] at ih
      have hfl : ((c.Xh.take t).filter (dueB c.Xb tick)).length ≤ 4096 := by
        have := List.length_filter_le (dueB c.Xb tick) (c.Xh.take t)
        have := List.length_take_le t c.Xh
        omega
      rw [if_pos (dT (by omega)), gidx_nat hr, Option.bind_some, due_eq, Option.bind_some]
      unfold ZV
      rw [show IntKind.i64.wrap ((t : Int) + 1) = ((t + 1 : Nat) : Int) by rw [wi64 (by omega) (by omega)]; omega]
      by_cases hd : du c.Xb r ≤ tick
      · have h3 : [r].filter (dueB c.Xb tick) = [r] := by simp [dueB, hd]
        rw [h3] at ih
        rw [if_pos (dT hd), if_pos (limk (by simp; omega))]
        exact ih
      · have h3 : [r].filter (dueB c.Xb tick) = [] := by simp [dueB, hd]
        rw [h3, List.append_nil] at ih
        rw [if_neg (dF hd)]
        exact ih
theorem filter_split (p : Rc → Bool) : ∀ xs : List Rc, xs.Perm (xs.filter p ++ xs.filter (fun r => !p r))
  | [] => .refl _
  | a :: xs => by
    have ih := filter_split p xs
    cases h : p a with
    | true => simp only [List.filter_cons, h, if_true, Bool.not_true]; exact ih.cons a
    | false =>
      simp only [List.filter_cons, h, Bool.not_false, if_true]
      exact (ih.cons a).trans List.perm_middle.symm
def adv (b : Bd) (tick : Int) (xs : List Rc) : List Rc := (st (du b) (xs.filter (dueB b tick))).map fun r => rs r (rsn b r)
theorem advance_old {c : Ca} {tick : Int} (h : tick < c.XB) : X5 c tick = some ([], c) := by
  unfold X5 Z6
  rw [if_pos (dT h)]
theorem advance_spec {n : Nat} {c : Ca} (h : CI n c) {tick : Int} (ht : c.XB ≤ tick) :
    ∃ c', X5 c tick = some (adv c.Xb tick c.Xh, c') ∧ CI n c' ∧ c'.XB = tick ∧ c'.Xb = c.Xb ∧ c'.Xh.Perm (c.Xh.filter (fun r => !dueB c.Xb tick r)) := by
  have hsm := h.small
  have hfl : (c.Xh.filter (dueB c.Xb tick)).length ≤ 4096 := by have := List.length_filter_le (dueB c.Xb tick) c.Xh; omega
  have h2 : CI n ⟨tick, c.Xb, c.Xf, c.Xh⟩ := ⟨h.mp, h.rk, h.b0, h.b1, h.le, h.ln⟩
  have hp := (filter_split (dueB c.Xb tick) c.Xh).trans ((st_perm (du c.Xb) (c.Xh.filter (dueB c.Xb tick))).symm.append_right _)
  have hsl := (st_perm (du c.Xb) (c.Xh.filter (dueB c.Xb tick))).length_eq
  obtain ⟨c', e, hc, h3, h4, h5⟩ := adv_ends (by omega) h2 hp
  refine ⟨c', ?_, hc, h3, h4, h5⟩
  unfold X5 Z6
  rw [if_neg (dF (by omega))]
  have k := adv_L1 hsm (tick := tick) fuel0 0 (by omega) (by unfold fuel0; omega)
  rw [List.take_zero, List.filter_nil] at k
  refine k.trans ?_
  unfold XY
  rw [if_pos (limk (by omega)), Option.bind_some, cfa_eq]
  exact e
end Go.Proofs.YtkpnocgfhipidaaGreat
