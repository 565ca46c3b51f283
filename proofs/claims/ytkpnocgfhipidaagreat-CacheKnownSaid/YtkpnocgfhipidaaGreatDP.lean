/- Plain text: flows begin; Account, Next, All, Flush, Get, Clear. -/
import Derived.Test.YtkpnocgfhipidaaGreatCP
set_option linter.unusedVariables false
namespace Go.Proofs.YtkpnocgfhipidaaGreat
open Go Go.Ox Go.Ox.Ring
theorem fplus_eq (a b : Int) : VF a b = some (pl a b) := plus_eq a b
def wth (r : Rc) (p : XC) (tk : Int) : Rc := ⟨r.Xo, pl r.Xk 1, pl r.Xr (IntKind.u64.wrap (gmax 0 p.Yk)), r.X4, gmax r.Ya tk, bits .or .u8 r.XO p.XO, r.X9, r.XU⟩
theorem with_eq (r : Rc) (p : XC) (tk : Int) : KH r p tk = some (wth r p tk) := by
  unfold KH Zp UW KG KF
  simp only [fplus_eq, Option.bind_some]
  rfl
def sn (p : XC) : Bool := (p.Xo.X2 == 6) && (!p.YS && decide (0 < bits .and .u8 p.XO 5))
theorem seen_eq (p : XC) : Vr p = some (sn p) := by
  unfold Vr KU sn
  cases h1 : (p.Xo.X2 == 6) <;> cases h2 : p.YS <;> simp
def stt (k : Xe) (cl tk : Int) : Rc := ⟨k, 0, 0, tk, tk, 0, 0, cl⟩
theorem nx4 {t : Nat} (h : t ≤ 100000) : IntKind.i64.wrap ((t : Int) + 1) = ((t + 1 : Nat) : Int) := by rw [wi64 (by omega) (by omega)]; omega
abbrev Ls (r : Rc) : Int := r.Ya
theorem min_L {xs : List Rc} (hx : xs.length ≤ 4096) : ∀ (f t : Nat) (m : Rc), t ≤ xs.length → xs.length < f + t → m ∈ xs.take t → (∀ x ∈ xs.take t, ¬ LT Ls x m) →
    ∃ r, XP xs f m.Xo.XL.YQ m.Xo.XL.f_B m.Xo.XN.YQ m.Xo.XN.f_B m.Xo.X2 m.Xo.X6 m.Xo.X1 m.Xk m.Xr m.X4 m.Ya m.XO m.X9 m.XU (t : Int) = some r ∧ r ∈ xs ∧ ∀ x ∈ xs, ¬ LT Ls x r
  | 0, t, m, h1, h2, _, _ => by omega
  | f + 1, t, m, h1, h2, hm, hl => by
    show ∃ r, XW (XP xs f) xs m.Xo.XL.YQ m.Xo.XL.f_B m.Xo.XN.YQ m.Xo.XN.f_B m.Xo.X2 m.Xo.X6 m.Xo.X1 m.Xk m.Xr m.X4 m.Ya m.XO m.X9 m.XU (t : Int) = some r ∧ r ∈ xs ∧ ∀ x ∈ xs, ¬ LT Ls x r
    unfold XW
    by_cases he : t = xs.length
    · subst he
      rw [if_neg (dF (by omega))]
      rw [List.take_length] at hm hl
      exact ⟨m, rfl, hm, hl⟩
    · have hlt : t < xs.length := by omega
      obtain ⟨x, hx2⟩ : ∃ x, xs[t]? = some x := ⟨_, List.getElem?_eq_getElem hlt⟩
      have htk : xs.take (t + 1) = xs.take t ++ [x] := by rw [List.take_add_one, hx2]; rfl
      rw [if_pos (dT (by omega)), gidx_nat hx2, Option.bind_some]
      unfold XV
      rw [nx4 (by omega)]
      have e1 : ZP x (Xc.mk (Xe.mk (Xd.mk m.Xo.XL.YQ m.Xo.XL.f_B) (Xd.mk m.Xo.XN.YQ m.Xo.XN.f_B) m.Xo.X2 m.Xo.X6 m.Xo.X1) m.Xk m.Xr m.X4 m.Ya m.XO m.X9 m.XU) = some (lk Ls x m) := beg1_eq x m
      rw [e1, Option.bind_some]
      by_cases hd : lk Ls x m < 0
      · rw [if_pos (dT hd), Option.bind_some]
        refine min_L hx f (t + 1) x (by omega) (by omega) (by rw [htk]; simp) fun y hy => ?_
        rw [htk] at hy
        rcases List.mem_append.1 hy with hy | hy
        · exact fun h => hl y hy (h.trans hd)
        · have : y = x := by simpa using hy
          subst this
          exact fun h => h.asymm h
      · rw [if_neg (dF hd)]
        refine min_L hx f (t + 1) m (by omega) (by omega) (by rw [htk]; exact List.mem_append_left _ hm) fun y hy => ?_
        rw [htk] at hy
        rcases List.mem_append.1 hy with hy | hy
        · exact hl y hy
        · have : y = x := by simpa using hy
          subst this
          exact hd
theorem min_spec {xs : List Rc} (hx : xs.length ≤ 4096) (h1 : 1 ≤ xs.length) : ∃ r, X0 xs = some r ∧ r ∈ xs ∧ ∀ x ∈ xs, ¬ LT Ls x r := by
  obtain ⟨m, hm⟩ : ∃ m, xs[0]? = some m := ⟨_, List.getElem?_eq_getElem (by omega)⟩
  unfold X0 X8
  rw [if_neg (dF (by omega)), show gidx xs 0 = some m from gidx_nat hm, Option.bind_some]
  have htk : xs.take 1 = [m] := by
    have := List.take_add_one (l := xs) (i := 0)
    rw [hm] at this; simpa using this
  exact min_L hx fuel0 1 m h1 (by unfold fuel0; omega) (by rw [htk]; simp) fun x hx => by
    rw [htk] at hx
    have : x = m := by simpa using hx
    subst this
    exact fun h => h.asymm h
theorem begin_j1 {n : Nat} {c : Ca} (h : CI n c) {k : Xe} (rk : RK k) (hk : ∀ r ∈ c.Xh, r.Xo ≠ k) (hl : (c.Xh.length : Int) < c.Xb.Xz) (cl : Int) (out : List Rc) :
    ∃ c', ZH k cl c.XB c.Xb.Xz c.Xb.XI c.Xb.XA c.Xb.Xk c.Xb.Xr c.Xf.Xp c.Xf.XG c.Xh out = some (out, c') ∧ CI n c' ∧ c'.XB = c.XB ∧ c'.Xb = c.Xb ∧ c'.Xh.Perm (stt k cl c.XB :: c.Xh) := by
  have hsm := h.small
  have hln := h.ln
  obtain ⟨T', hp, hm⟩ := mp_new h.mp rk (fun hm => by
    obtain ⟨r, hr, he⟩ := List.mem_map.1 hm
    exact hk r hr he) (by rw [List.length_map]; omega)
  rw [List.length_map] at hp
  unfold ZH
  rw [wu64i (by omega) (by omega)]
  show ∃ c', (YX c.Xf k (c.Xh.length : Int)).bind _ = _ ∧ _
  rw [hp, Option.bind_some]
  unfold VS
  rw [Option.bind_some, if_pos (limk (by simp; omega))]
  refine ⟨_, rfl, ⟨?_, fun r hr => ?_, h.b0, h.b1, ?_, h.ln⟩, rfl, rfl, List.perm_append_comm (l₂ := [stt k cl c.XB])⟩
  · show MP n T' ((c.Xh ++ [stt k cl c.XB]).map (·.Xo))
    rw [List.map_append]; exact hm
  · rcases List.mem_append.1 hr with hr | hr
    · exact h.rk r hr
    · have : r = stt k cl c.XB := List.mem_singleton.1 hr
      subst this; exact rk
  · show ((c.Xh ++ [stt k cl c.XB]).length : Int) ≤ c.Xb.Xz
    rw [List.length_append]; simp; omega
def Beg (b : Bd) (xs : List Rc) (B rest : List Rc) : Prop :=
  ((xs.length : Int) ≠ b.Xz ∧ B = [] ∧ rest = xs) ∨ ((xs.length : Int) = b.Xz ∧ ∃ m, m ∈ xs ∧ (∀ x ∈ xs, ¬ LT Ls x m) ∧ B = [rs m 5] ∧ xs.Perm (m :: rest))
theorem begin_spec {n : Nat} {c : Ca} (h : CI n c) {k : Xe} (rk : RK k) (hk : ∀ r ∈ c.Xh, r.Xo ≠ k) (cl : Int) :
    ∃ B c' rest, ZM c k cl = some (B, c') ∧ CI n c' ∧ c'.XB = c.XB ∧ c'.Xb = c.Xb ∧ c'.Xh.Perm (stt k cl c.XB :: rest) ∧ Beg c.Xb c.Xh B rest ∧ B.length ≤ 1 := by
  have hsm := h.small
  have hb0 := h.b0
  have hle := h.le
  unfold ZM
  by_cases hf : (c.Xh.length : Int) = c.Xb.Xz
  · obtain ⟨m, e, hm, hmin⟩ := min_spec hsm (by omega)
    obtain ⟨i, hi⟩ := List.getElem?_of_mem hm
    obtain ⟨c1, e1, hc1, ht1, hb1, hp1⟩ := end_spec h hi 5
    have hpl := hp1.length_eq
    simp only [List.length_cons] at hpl
    obtain ⟨c2, e2, hc2, ht2, hb2, hp2⟩ := begin_j1 hc1 rk (fun r hr => hk r (hp1.mem_iff.2 (List.mem_cons_of_mem _ hr))) (by rw [hb1]; omega) cl [rs m 5]
    rw [if_pos (by simpa using hf), e, Option.bind_some, e1, Option.bind_some, if_pos (limk (by simp))]
    exact ⟨_, c2, c1.Xh, e2, hc2, ht2.trans ht1, hb2.trans hb1, by rw [ht1] at hp2; exact hp2, .inr ⟨hf, m, hm, hmin, rfl, hp1⟩, by simp⟩
  · obtain ⟨c2, e2, hc2, ht2, hb2, hp2⟩ := begin_j1 h rk hk (by omega) cl []
    rw [if_neg (by simpa using hf)]
    exact ⟨_, c2, c.Xh, e2, hc2, ht2, hb2, hp2, .inl ⟨hf, rfl, rfl⟩, by simp⟩
theorem set_perm2 {r r2 : Rc} : ∀ (xs : List Rc) (i : Nat), xs[i]? = some r → ∃ ys, xs.Perm (r :: ys) ∧ (xs.set i r2).Perm (r2 :: ys)
  | [], i, h => by simp at h
  | a :: xs, 0, h => by simp at h; subst h; exact ⟨xs, .refl _, .refl _⟩
  | a :: xs, i + 1, h => by
    simp at h
    obtain ⟨ys, h1, h2⟩ := set_perm2 xs i h
    exact ⟨a :: ys, (h1.cons a).trans (.swap _ _ _), (h2.cons a).trans (.swap _ _ _)⟩
def Met (b : Bd) (p : XC) (r : Rc) (rest C xs : List Rc) : Prop :=
  (sn p = true ∧ C = [rs r 3] ∧ xs.Perm rest) ∨ (sn p = false ∧ (b.Xk ≤ r.Xk ∨ b.Xr ≤ r.Xr) ∧ C = [rs r 4] ∧ xs.Perm rest) ∨
    (sn p = false ∧ ¬ (b.Xk ≤ r.Xk ∨ b.Xr ≤ r.Xr) ∧ C = [] ∧ xs.Perm (r :: rest))
theorem acc_j1 {n : Nat} {c : Ca} (h : CI n c) {p : XC} {r0 : Rc} {rest : List Rc} (hp : c.Xh.Perm (r0 :: rest)) (hk : r0.Xo = p.Xo) {out : List Rc} (ho : out.length ≤ 100000) :
    ∃ C c', Yx p c.XB c.Xb.Xz c.Xb.XI c.Xb.XA c.Xb.Xk c.Xb.Xr c.Xf.Xp c.Xf.XG c.Xh out = some (out ++ C, 0, c') ∧ CI n c' ∧ c'.XB = c.XB ∧ c'.Xb = c.Xb ∧
      Met c.Xb p (wth r0 p c.XB) rest C c'.Xh := by
  obtain ⟨i, hi⟩ := List.getElem?_of_mem (hp.mem_iff.2 List.mem_cons_self)
  have hlim : ∀ q : Rc, decide (out.length + ([q] : List Rc).length ≤ lim) = true := fun q => limk (by simp; omega)
  generalize hr : wth r0 p c.XB = r
  have hrk : r.Xo = p.Xo := by rw [← hr]; exact hk
  obtain ⟨ys, p1, p2⟩ := set_perm2 (r2 := r) c.Xh i hi
  have hys : ys.Perm rest := (p1.symm.trans hp).cons_inv
  have hq : (c.Xh.set i r).Perm (r :: rest) := p2.trans (hys.cons r)
  let c2 : Ca := ⟨c.XB, c.Xb, c.Xf, c.Xh.set i r⟩
  have hil := (List.getElem?_eq_some_iff.1 hi).1
  have h2 : CI n c2 := by
    have hm : c2.Xh.map (·.Xo) = c.Xh.map (·.Xo) := by
      show (c.Xh.set i r).map (·.Xo) = _
      rw [List.map_set]
      apply List.ext_getElem?
      intro j
      by_cases hj : j = i
      · subst hj
        rw [List.getElem?_set_self (by simpa using hil)]
        simp [hi, hrk, hk]
      · rw [List.getElem?_set_ne (fun e => hj e.symm)]
    refine ⟨by show MP n c.Xf (c2.Xh.map (·.Xo)); rw [hm]; exact h.mp, fun x hx => ?_, h.b0, h.b1, by show ((c.Xh.set i r).length : Int) ≤ _; rw [List.length_set]; exact h.le, h.ln⟩
    rcases List.mem_cons.1 (hq.mem_iff.1 hx) with hx | hx
    · subst hx
      rw [hrk, ← hk]; exact h.rk r0 (List.mem_of_getElem? hi)
    · exact h.rk x (hp.mem_iff.2 (List.mem_cons_of_mem _ hx))
  have hi2 : c2.Xh[i]? = some r := List.getElem?_set_self hil
  have tail : ∀ z : Int, ∃ c', Ys c2 p.Xo z = some (rs r z, c') ∧ CI n c' ∧ c'.XB = c.XB ∧ c'.Xb = c.Xb ∧ c'.Xh.Perm rest := fun z => by
    obtain ⟨c', e, a1, a2, a3, a4⟩ := end_spec h2 hi2 z
    rw [hrk] at e
    exact ⟨c', e, a1, a2, a3, (a4.symm.trans hq).cons_inv⟩
  let J : Bool → Option (List Rc × Int × Ca) := fun t => if t = true then (Ys c2 p.Xo 4).bind fun q => if decide (out.length + ([q.1] : List Rc).length ≤ lim) = true then some (out ++ [q.1], 0, q.2) else none else some (out, 0, c2)
  have step : Yx p c.XB c.Xb.Xz c.Xb.XI c.Xb.XA c.Xb.Xk c.Xb.Xr c.Xf.Xp c.Xf.XG c.Xh out =
      if sn p = true then (Ys c2 p.Xo 3).bind fun q => if decide (out.length + ([q.1] : List Rc).length ≤ lim) = true then some (out ++ [q.1], 0, q.2) else none
      else if decide (c.Xb.Xk ≤ r.Xk) = true then J true else J (decide (c.Xb.Xr ≤ r.Xr)) := by
    unfold Yx
    show (Yt c.Xf p.Xo).bind _ = _
    rw [mp_get h.mp (i := i) (k := p.Xo) (by simp [hi, hk]), Option.bind_some, gidx_nat hi, Option.bind_some, with_eq, Option.bind_some, hr]
    unfold J2
    rw [gidx_nat hi, Option.bind_some, seen_eq, Option.bind_some]
    rfl
  rw [step]
  cases hs : sn p with
  | true =>
    obtain ⟨c', e, a1, a2, a3, a4⟩ := tail 3
    rw [if_pos rfl, e, Option.bind_some, if_pos (hlim _)]
    exact ⟨_, c', rfl, a1, a2, a3, .inl ⟨hs, rfl, a4⟩⟩
  | false =>
    rw [if_neg (by decide)]
    obtain ⟨c', e, a1, a2, a3, a4⟩ := tail 4
    have jt : J true = some (out ++ [rs r 4], 0, c') := by
      show (if true = true then (Ys c2 p.Xo 4).bind _ else _) = _
      rw [if_pos rfl, e, Option.bind_some, if_pos (hlim _)]
    by_cases h1 : c.Xb.Xk ≤ r.Xk
    · rw [if_pos (dT h1), jt]
      exact ⟨_, c', rfl, a1, a2, a3, .inr (.inl ⟨hs, .inl h1, rfl, a4⟩)⟩
    · rw [if_neg (dF h1)]
      by_cases h3 : c.Xb.Xr ≤ r.Xr
      · rw [dT h3, jt]
        exact ⟨_, c', rfl, a1, a2, a3, .inr (.inl ⟨hs, .inr h3, rfl, a4⟩)⟩
      · rw [decide_eq_false h3]
        refine ⟨[], c2, ?_, h2, rfl, rfl, .inr (.inr ⟨hs, ?_, rfl, hq⟩)⟩
        · rw [List.append_nil]; rfl
        · omega
def Acc (b : Bd) (tk : Int) (p : XC) (cl : Int) (xs O ys : List Rc) : Prop :=
  ∃ B C r0 rest, O = B ++ C ∧ Met b p (wth r0 p tk) rest C ys ∧ ((B = [] ∧ r0.Xo = p.Xo ∧ xs.Perm (r0 :: rest)) ∨ ((∀ r ∈ xs, r.Xo ≠ p.Xo) ∧ r0 = stt p.Xo cl tk ∧ Beg b xs B rest))
theorem acc_in {n : Nat} {c : Ca} (h : CI n c) {p : XC} (rk : RK p.Xo) (cl : Int) {A : List Rc} (hA : A.length ≤ 5000) :
    ∃ O c', (Yt c.Xf p.Xo).bind (fun y46 => if (!y46.2.1) = true then
      (ZM (Xl.mk c.XB c.Xb y46.2.2 c.Xh) p.Xo cl).bind fun y54 =>
      if (decide (A.length + y54.1.length ≤ lim)) = true then
      Yx p y54.2.XB y54.2.Xb.Xz y54.2.Xb.XI y54.2.Xb.XA y54.2.Xb.Xk y54.2.Xb.Xr y54.2.Xf.Xp y54.2.Xf.XG y54.2.Xh (A ++ y54.1)
      else none
      else Yx p c.XB c.Xb.Xz c.Xb.XI c.Xb.XA c.Xb.Xk c.Xb.Xr y46.2.2.Xp y46.2.2.XG c.Xh A) = some (A ++ O, 0, c') ∧
      CI n c' ∧ c'.XB = c.XB ∧ c'.Xb = c.Xb ∧ Acc c.Xb c.XB p cl c.Xh O c'.Xh := by
  by_cases hx : ∃ r0 ∈ c.Xh, r0.Xo = p.Xo
  · obtain ⟨r0, hm, hk⟩ := hx
    obtain ⟨i, hi⟩ := List.getElem?_of_mem hm
    obtain ⟨ys, p1, _⟩ := set_perm2 (r2 := r0) c.Xh i hi
    rw [mp_get h.mp (i := i) (k := p.Xo) (by simp [hi, hk]), Option.bind_some, if_neg (by simp)]
    obtain ⟨C, c', e, a1, a2, a3, a4⟩ := acc_j1 h p1 hk (out := A) (by omega)
    exact ⟨C, c', e, a1, a2, a3, [], C, r0, ys, rfl, a4, .inl ⟨rfl, hk, p1⟩⟩
  · have hno : ∀ r ∈ c.Xh, r.Xo ≠ p.Xo := fun r hr he => hx ⟨r, hr, he⟩
    rw [mp_out h.mp rk.toWK (fun hm => by
      obtain ⟨r, hr, he⟩ := List.mem_map.1 hm
      exact hno r hr he), Option.bind_some, if_pos (by simp)]
    obtain ⟨B, c1, rest, e, a1, a2, a3, a4, a5, a6⟩ := begin_spec h rk hno cl
    show ∃ O c', (ZM c p.Xo cl).bind _ = _ ∧ _
    rw [e, Option.bind_some, if_pos (limk (show A.length + B.length < _ by omega))]
    obtain ⟨C, c', e2, b1, b2, b3, b4⟩ := acc_j1 a1 (p := p) a4 rfl (out := A ++ B) (by rw [List.length_append]; omega)
    rw [a2, a3] at b4
    exact ⟨B ++ C, c', by rw [← List.append_assoc]; exact e2, b1, b2.trans a2, b3.trans a3, B, C, _, rest, rfl, b4, .inr ⟨hno, rfl, a5⟩⟩
theorem acc_wrong {c : Ca} {p : XC} (hr : kr p.Xo = false) (cl tick : Int) : XQ c p cl tick = some ([], 2, c) := by
  unfold XQ
  rw [kright_eq, Option.bind_some, hr, if_pos (by decide)]
theorem acc_old {n : Nat} {c : Ca} (h : CI n c) {p : XC} (rk : RK p.Xo) (cl : Int) {tick : Int} (ht : tick < c.XB) :
    ∃ O c', XQ c p cl tick = some (O, 0, c') ∧ CI n c' ∧ c'.XB = c.XB ∧ c'.Xb = c.Xb ∧ Acc c.Xb c.XB p cl c.Xh O c'.Xh := by
  obtain ⟨O, c', e, a⟩ := acc_in h rk cl (A := []) (by simp)
  refine ⟨O, c', ?_, a⟩
  unfold XQ
  rw [kright_eq, Option.bind_some, rk.right, if_neg (by decide), advance_old ht, Option.bind_some]
  exact e
theorem adv_len {b : Bd} {tick : Int} {xs : List Rc} : (adv b tick xs).length ≤ xs.length := by
  unfold adv
  rw [List.length_map, (st_perm _ _).length_eq]
  exact List.length_filter_le _ _
theorem acc_spec {n : Nat} {c : Ca} (h : CI n c) {p : XC} (rk : RK p.Xo) (cl : Int) {tick : Int} (ht : c.XB ≤ tick) :
    ∃ c1 O c', X5 c tick = some (adv c.Xb tick c.Xh, c1) ∧ CI n c1 ∧ c1.Xh.Perm (c.Xh.filter (fun r => !dueB c.Xb tick r)) ∧
      XQ c p cl tick = some (adv c.Xb tick c.Xh ++ O, 0, c') ∧ CI n c' ∧ c'.XB = tick ∧ c'.Xb = c.Xb ∧ Acc c.Xb tick p cl c1.Xh O c'.Xh := by
  obtain ⟨c1, e1, h1, t1, b1, p1⟩ := advance_spec h ht
  obtain ⟨O, c', e, a1, a2, a3, a4⟩ := acc_in h1 rk cl (A := adv c.Xb tick c.Xh) (by have := adv_len (b := c.Xb) (tick := tick) (xs := c.Xh); have := h.small; omega)
  rw [b1, t1] at a4
  refine ⟨c1, O, c', e1, h1, p1, ?_, a1, a2.trans t1, a3.trans b1, a4⟩
  unfold XQ
  rw [kright_eq, Option.bind_some, rk.right, if_neg (by decide), e1, Option.bind_some]
  exact e
end Go.Proofs.YtkpnocgfhipidaaGreat
