/- Plain text: All, Flush, Next. -/
import Derived.Test.YtkpnocgfhipidaaGreatEP
set_option linter.unusedVariables false
namespace Go.Proofs.YtkpnocgfhipidaaGreat
open Go Go.Ox Go.Ox.Ring
theorem seq_L {xs : List Rc} (hx : xs.length ≤ 4096) : ∀ (f t : Nat), t ≤ xs.length → xs.length < f + t →
    XE xs f (t : Int) (xs.take t) = some (xs, xs)
  | 0, t, h1, h2 => by omega
  | f + 1, t, h1, h2 => by
    show XM (XE xs f) xs (t : Int) (xs.take t) = _
    unfold XM
    by_cases hl : t = xs.length
    · subst hl
      rw [if_neg (dF (by omega)), List.take_length]
    · obtain ⟨r, hr⟩ : ∃ r, xs[t]? = some r := ⟨_, List.getElem?_eq_getElem (by omega)⟩
      have htk : xs.take (t + 1) = xs.take t ++ [r] := by rw [List.take_add_one, hr]; rfl
      have := List.length_take_le t xs
      rw [if_pos (dT (by omega)), gidx_nat hr, Option.bind_some, if_pos (limk (by simp; omega)), nx4 (by omega), ← htk]
      exact seq_L hx f (t + 1) (by omega) (by omega)
def al (xs : List Rc) : List Rc := st (fun _ => 0) xs
theorem all_eq {c : Ca} (h : c.Xh.length ≤ 4096) : YI c = some (al c.Xh, c) := by
  unfold YI XS X3 XT
  have k := seq_L h fuel0 0 (by omega) (by unfold fuel0; omega)
  rw [List.take_zero] at k
  rw [show XE c.Xh fuel0 0 [] = _ from k, Option.bind_some, Option.bind_some]
  unfold Yj
  rw [if_pos (limk (show c.Xh.length < _ by omega)), Option.bind_some, Option.bind_some, cfb_eq]
  rfl
theorem flush_spec {n : Nat} {c : Ca} (h : CI n c) :
    ∃ c', ZL c = some ((al c.Xh).map (fun r => rs r 4), c') ∧ CI n c' ∧ c'.XB = c.XB ∧ c'.Xb = c.Xb ∧ c'.Xh = [] := by
  have hsm := h.small
  generalize hy : al c.Xh = y
  have hyp : y.Perm c.Xh := by rw [← hy]; exact st_perm _ _
  have hpl := hyp.length_eq
  have key := ends_gen (n := n) (b := c.Xb) (tk := c.XB) (rz := fun _ => 4) (y := y) (rest := [])
    (G := fun f c out t => X7 y f c.XB c.Xb.Xz c.Xb.XI c.Xb.XA c.Xb.Xk c.Xb.Xr c.Xf.Xp c.Xf.XG c.Xh out t) (by omega)
    (fun f c2 out t r hr hb ht ho => by
      show Yh (X7 y f) y c2.XB c2.Xb.Xz c2.Xb.XI c2.Xb.XA c2.Xb.Xk c2.Xb.Xr c2.Xf.Xp c2.Xf.XG c2.Xh out (t : Int) = _
      have hlt := (List.getElem?_eq_some_iff.1 hr).1
      unfold Yh
      rw [if_pos (dT (by omega)), gidx_nat hr, Option.bind_some]
      unfold Vn
      rw [Option.bind_some, nx4 (by omega)]
      have hlim : ∀ q : Rc, decide (out.length + ([q] : List Rc).length ≤ lim) = true := fun q => limk (by simp; omega)
      simp only [hlim, if_true])
    (fun f c2 out => by
      show Yh (X7 y f) y c2.XB c2.Xb.Xz c2.Xb.XI c2.Xb.XA c2.Xb.Xk c2.Xb.Xr c2.Xf.Xp c2.Xf.XG c2.Xh out (y.length : Int) = _
      unfold Yh
      rw [if_neg (dF (by omega))])
  obtain ⟨c', e, h1, h2, h3, h4⟩ := key fuel0 0 c [] h rfl rfl (by omega) (by unfold fuel0; omega) rfl (by simpa using hyp.symm)
  refine ⟨c', ?_, h1, h2, h3, h4.eq_nil⟩
  unfold ZL Zm
  rw [all_eq hsm, hy, Option.bind_some]
  show (X7 y fuel0 c.XB c.Xb.Xz c.Xb.XI c.Xb.XA c.Xb.Xk c.Xb.Xr c.Xf.Xp c.Xf.XG c.Xh [] 0).bind _ = _
  have e2 : X7 y fuel0 c.XB c.Xb.Xz c.Xb.XI c.Xb.XA c.Xb.Xk c.Xb.Xr c.Xf.Xp c.Xf.XG c.Xh [] 0 = some (y.map (fun r => rs r 4), c') := by simpa using e
  rw [e2]; rfl
def Nxt (b : Bd) (xs : List Rc) (m : Int) (ok : Bool) : Prop := (xs = [] ∧ ok = false ∧ m = 0) ∨ (ok = true ∧ (∃ r ∈ xs, du b r = m) ∧ ∀ r ∈ xs, m ≤ du b r)
theorem next_L {c : Ca} (h : c.Xh.length ≤ 4096) : ∀ (f t : Nat) (m : Int) (ok : Bool), t ≤ c.Xh.length → c.Xh.length < f + t → Nxt c.Xb (c.Xh.take t) m ok →
    ∃ m' ok', Y5 c f m ok (t : Int) = some (m', ok', c) ∧ Nxt c.Xb c.Xh m' ok'
  | 0, t, m, ok, h1, h2, _ => by omega
  | f + 1, t, m, ok, h1, h2, hn => by
    show ∃ m' ok', JY (Y5 c f) c m ok (t : Int) = some (m', ok', c) ∧ _
    unfold JY
    by_cases hl : t = c.Xh.length
    · subst hl
      rw [if_neg (dF (by omega))]
      rw [List.take_length] at hn
      exact ⟨m, ok, rfl, hn⟩
    · obtain ⟨r, hr⟩ : ∃ r, c.Xh[t]? = some r := ⟨_, List.getElem?_eq_getElem (by omega)⟩
      have htk : c.Xh.take (t + 1) = c.Xh.take t ++ [r] := by rw [List.take_add_one, hr]; rfl
      rw [if_pos (dT (by omega)), gidx_nat hr, Option.bind_some, due_eq, Option.bind_some]
      unfold JT JP
      rw [nx4 (by omega)]
      have new : (∀ x ∈ c.Xh.take t, du c.Xb r ≤ du c.Xb x) → Nxt c.Xb (c.Xh.take (t + 1)) (du c.Xb r) true := fun hx => by
        rw [htk]
        refine .inr ⟨rfl, ⟨r, by simp, rfl⟩, fun x hx2 => ?_⟩
        rcases List.mem_append.1 hx2 with hx2 | hx2
        · exact hx x hx2
        · rw [List.mem_singleton.1 hx2]; exact Int.le_refl _
      rcases hn with ⟨e1, e2, e3⟩ | ⟨e1, ⟨q, hq, e2⟩, e3⟩
      · rw [e2, if_pos (by decide)]
        exact next_L h f (t + 1) _ _ (by omega) (by omega) (new (fun x hx => by rw [e1] at hx; cases hx))
      · rw [e1, if_neg (by decide)]
        by_cases hd : du c.Xb r < m
        · rw [if_pos (dT hd)]
          exact next_L h f (t + 1) _ _ (by omega) (by omega) (new (fun x hx => by have := e3 x hx; omega))
        · rw [if_neg (dF hd)]
          refine next_L h f (t + 1) _ _ (by omega) (by omega) ?_
          rw [htk]
          refine .inr ⟨rfl, ⟨q, List.mem_append_left _ hq, e2⟩, fun x hx2 => ?_⟩
          rcases List.mem_append.1 hx2 with hx2 | hx2
          · exact e3 x hx2
          · rw [List.mem_singleton.1 hx2]; omega
theorem next_spec {c : Ca} (h : c.Xh.length ≤ 4096) : ∃ m ok, J0 c = some (m, ok, c) ∧ Nxt c.Xb c.Xh m ok :=
  next_L h fuel0 0 0 false (by omega) (by unfold fuel0; omega) (.inl ⟨rfl, rfl, rfl⟩)
end Go.Proofs.YtkpnocgfhipidaaGreat

set_option linter.unusedVariables false
namespace Go.Proofs.YtkpnocgfhipidaaGreat
open Go Go.Ox Go.Ox.Ring
def rK (k : Xe) : XR := ⟨k.XL, k.XN, k.X2, k.X6, k.X1⟩
def rR (r : Rc) : Xi := ⟨rK r.Xo, r.Xk, r.Xr, r.X4, r.Ya, r.XO, r.X9, r.XU⟩
def rP (p : XC) : Zd := ⟨rK p.Xo, p.Yk, p.XO, p.YS⟩
abbrev k0 (r : Rc) : Int := 0
structure UR (r : Rc) : Prop where
  p : 0 ≤ r.Xk ∧ r.Xk < 18446744073709551616
  b : 0 ≤ r.Xr ∧ r.Xr < 18446744073709551616
  f : 0 ≤ r.X4 ∧ r.X4 < 18446744073709551616
  l : 0 ≤ r.Ya ∧ r.Ya < 18446744073709551616
structure UB (b : Bd) : Prop where
  i : 0 ≤ b.XI ∧ b.XI < 18446744073709551616
  a : 0 ≤ b.XA ∧ b.XA < 18446744073709551616
theorem rplus_eq {a b : Int} (ha : 0 ≤ a ∧ a < 18446744073709551616) (hb : 0 ≤ b ∧ b < 18446744073709551616) : Jt a b = some (pl a b) := by
  unfold Jt Vv
  rw [Option.bind_some, wu64i (by omega) (by omega), Option.bind_some]
  have e1 : hi64 a b = if a + b < 18446744073709551616 then 0 else 1 := by
    unfold hi64
    split <;> omega
  unfold pl
  rw [e1]
  by_cases h : a + b < 18446744073709551616
  · rw [if_neg (dF (by omega)), if_pos h, if_neg (by decide), wu64i (by omega) (by omega)]
    unfold lo64
    congr 1; omega
  · rw [if_pos (dT (by omega)), if_neg h, if_pos (by decide)]
theorem pl_rng {a b : Int} : 0 ≤ pl a b ∧ pl a b < 18446744073709551616 := by
  unfold pl hi64 lo64
  split <;> omega
theorem ridle_eq {b : Bd} (ub : UB b) {r : Rc} (ur : UR r) (tk : Int) (L : List Xi) : ZF ⟨tk, b, L⟩ (rR r) = some (idl b r) := by
  unfold ZF
  show (Jt r.Ya b.XI).bind _ = _
  rw [rplus_eq ur.l ub.i, Option.bind_some]; rfl
theorem rdue_eq {b : Bd} (ub : UB b) {r : Rc} (ur : UR r) (tk : Int) (L : List Xi) : Zc ⟨tk, b, L⟩ (rR r) = some (du b r) := by
  unfold Zc
  rw [ridle_eq ub ur, Option.bind_some]
  show (Jt r.X4 b.XA).bind _ = _
  rw [rplus_eq ur.f ub.a, Option.bind_some]; rfl
def RC (tk : Int) (b : Bd) (L : List Rc) : Xq := ⟨tk, b, L.map rR⟩
theorem rat {L : List Rc} {i : Nat} {r : Rc} (h : L[i]? = some r) : gidx (L.map rR) (i : Int) = some (rR r) := gidx_nat (by simp [h])
theorem rnext_L {tk : Int} {b : Bd} (ub : UB b) {L : List Rc} (hu : ∀ r ∈ L, UR r) (h : L.length ≤ 4096) : ∀ (f t : Nat) (m : Int) (ok : Bool), t ≤ L.length → L.length < f + t → Nxt b (L.take t) m ok →
    ∃ m' ok', Y7 (RC tk b L) f m ok (t : Int) = some (m', ok', RC tk b L) ∧ Nxt b L m' ok'
  | 0, t, m, ok, h1, h2, _ => by omega
  | f + 1, t, m, ok, h1, h2, hn => by
    show ∃ m' ok', JR (Y7 (RC tk b L) f) (RC tk b L) m ok (t : Int) = some (m', ok', RC tk b L) ∧ _
    unfold JR
    have hlen : (RC tk b L).f_L.length = L.length := by simp [RC]
    rw [hlen]
    by_cases hl : t = L.length
    · subst hl
      rw [if_neg (dF (by omega))]
      rw [List.take_length] at hn
      exact ⟨m, ok, rfl, hn⟩
    · obtain ⟨r, hr⟩ : ∃ r, L[t]? = some r := ⟨_, List.getElem?_eq_getElem (by omega)⟩
      have htk : L.take (t + 1) = L.take t ++ [r] := by rw [List.take_add_one, hr]; rfl
      have hg : gidx (RC tk b L).f_L (t : Int) = some (rR r) := rat hr
      have hd : Zc (RC tk b L) (rR r) = some (du b r) := rdue_eq ub (hu r (List.mem_of_getElem? hr)) _ _
      rw [if_pos (dT (by omega))]
      unfold JS JU
      rw [nx4 (by omega)]
      have new : (∀ x ∈ L.take t, du b r ≤ du b x) → Nxt b (L.take (t + 1)) (du b r) true := fun hx => by
        rw [htk]
        refine .inr ⟨rfl, ⟨r, by simp, rfl⟩, fun x hx2 => ?_⟩
        rcases List.mem_append.1 hx2 with hx2 | hx2
        · exact hx x hx2
        · rw [List.mem_singleton.1 hx2]; exact Int.le_refl _
      rcases hn with ⟨e1, e2, e3⟩ | ⟨e1, ⟨q, hq, e2⟩, e3⟩
      · rw [e2, if_pos (by decide), if_pos rfl, hg, Option.bind_some, hd, Option.bind_some]
        exact rnext_L ub hu h f (t + 1) _ _ (by omega) (by omega) (new (fun x hx => by rw [e1] at hx; cases hx))
      · rw [e1, if_neg (by decide), hg, Option.bind_some, hd, Option.bind_some, Option.bind_some, hd, Option.bind_some]
        by_cases hdd : du b r < m
        · rw [if_pos (dT hdd)]
          exact rnext_L ub hu h f (t + 1) _ _ (by omega) (by omega) (new (fun x hx => by have := e3 x hx; omega))
        · rw [if_neg (dF hdd)]
          refine rnext_L ub hu h f (t + 1) _ _ (by omega) (by omega) ?_
          rw [htk]
          refine .inr ⟨rfl, ⟨q, List.mem_append_left _ hq, e2⟩, fun x hx2 => ?_⟩
          rcases List.mem_append.1 hx2 with hx2 | hx2
          · exact e3 x hx2
          · rw [List.mem_singleton.1 hx2]; omega
theorem rnext_spec {tk : Int} {b : Bd} (ub : UB b) {L : List Rc} (hu : ∀ r ∈ L, UR r) (h : L.length ≤ 4096) : ∃ m ok, J3 (RC tk b L) = some (m, ok, RC tk b L) ∧ Nxt b L m ok :=
  rnext_L ub hu h fuel0 0 0 false (by omega) (by unfold fuel0; omega) (.inl ⟨rfl, rfl, rfl⟩)
theorem nxt_uniq {b : Bd} {xs ys : List Rc} {m m' : Int} {ok ok' : Bool} (hp : xs.Perm ys) (h : Nxt b xs m ok) (h' : Nxt b ys m' ok') : m = m' ∧ ok = ok' := by
  rcases h with ⟨e1, e2, e3⟩ | ⟨e1, ⟨q, hq, e2⟩, e3⟩ <;> rcases h' with ⟨d1, d2, d3⟩ | ⟨d1, ⟨r, hr, d2⟩, d3⟩
  · exact ⟨by rw [e3, d3], by rw [e2, d2]⟩
  · subst e1
    have := hp.nil_eq
    subst this; cases hr
  · subst d1
    have := hp.symm.nil_eq
    subst this; cases hq
  · have h1 := e3 r (hp.mem_iff.2 hr)
    have h2 := d3 q (hp.mem_iff.1 hq)
    exact ⟨by omega, by rw [e1, d1]⟩
theorem rend_eq {tk : Int} {b : Bd} {L : List Rc} (h : L.length ≤ 5000) {i : Nat} {r : Rc} (hi : L[i]? = some r) (z : Int) : Yd (RC tk b L) (i : Int) z = some (rR (rs r z), RC tk b (L.eraseIdx i)) := by
  have hil := (List.getElem?_eq_some_iff.1 hi).1
  unfold Yd
  have hg : gidx (RC tk b L).f_L (i : Int) = some (rR r) := rat hi
  have hlen : (RC tk b L).f_L.length = L.length := by simp [RC]
  have c1 : gcut (RC tk b L).f_L 0 (i : Int) = some ((L.take i).map rR) := by
    rw [gcut_in (Int.le_refl _) (by omega) (by rw [hlen]; omega)]
    simp [RC, List.map_take]
  have c2 : gcut (RC tk b L).f_L ((i + 1 : Nat) : Int) ((RC tk b L).f_L.length : Int) = some ((L.drop (i + 1)).map rR) := by
    rw [gcut_in (by omega) (by rw [hlen]; omega) (Int.le_refl _), hlen]
    simp only [RC, Int.toNat_natCast, ← List.map_drop, ← List.map_take]
    rw [List.take_of_length_le (by rw [List.length_drop]; omega)]
  have l1 := List.length_take_le i L
  have l2 : (L.drop (i + 1)).length ≤ L.length := by rw [List.length_drop]; omega
  rw [hg, Option.bind_some, c1, Option.bind_some, if_pos (limk (by rw [List.length_map]; omega)), nx4 (by omega), c2, Option.bind_some, if_pos (limk (by rw [List.length_map, List.length_map]; omega))]
  simp only [RC, List.eraseIdx_eq_take_drop_succ, List.map_append]
  rfl
end Go.Proofs.YtkpnocgfhipidaaGreat
