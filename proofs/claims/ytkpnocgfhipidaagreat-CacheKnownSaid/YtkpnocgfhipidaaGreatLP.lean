/- Plain text: the cache and the reference's cache, call by call. -/
import Derived.Test.YtkpnocgfhipidaaGreatKP
set_option linter.unusedVariables false
namespace Go.Proofs.YtkpnocgfhipidaaGreat
open Go Go.Ox Go.Ox.Ring
abbrev RCa := Xq
theorem same_L {X : List Rc} (hX : X.length ≤ 100000) : ∀ (f i : Nat) (p : List Rc), p.length = X.length → p.drop i = X.drop i → i ≤ X.length → X.length < f + i → ∃ z, JB (X.map rR) f p (i : Int) = some (true, z)
  | 0, i, p, h1, h2, h3, h4 => by omega
  | f + 1, i, p, h1, h2, h3, h4 => by
    show ∃ z, Kj (JB (X.map rR) f) (X.map rR) p (i : Int) = _
    unfold Kj
    by_cases hl : i = X.length
    · rw [if_neg (dF (by omega))]; exact ⟨p, rfl⟩
    · obtain ⟨r, hr⟩ : ∃ r, X[i]? = some r := ⟨_, List.getElem?_eq_getElem (by omega)⟩
      have hp : p[i]? = some r := by
        have h5 : (p.drop i)[0]? = (X.drop i)[0]? := by rw [h2]
        rw [List.getElem?_drop, List.getElem?_drop] at h5
        exact h5.trans hr
      rw [if_pos (dT (by omega)), gidx_nat hp, Option.bind_some, rat hr, Option.bind_some]
      show ∃ z, (if (!(Kd (rR r) (rR r))) = true then _ else _) = _
      rw [rq_refl, if_neg (by decide), Option.bind_some, nx4 (by omega)]
      refine same_L hX f (i + 1) _ (by rw [List.length_set, h1]) ?_ (by omega) (by omega)
      rw [Int.toNat_natCast, List.drop_set_of_lt (by omega)]
      have h5 : (p.drop i).drop 1 = (X.drop i).drop 1 := by rw [h2]
      rwa [List.drop_drop, List.drop_drop] at h5
theorem same_eq {X : List Rc} (hX : X.length ≤ 100000) : ∃ z, Za X (X.map rR) = some (true, z) := by
  unfold Za
  rw [if_neg (by simp)]
  exact same_L hX fuel0 0 X rfl rfl (by omega) (by unfold fuel0; omega)
theorem rflush_L {tk : Int} {b : Bd} : ∀ (f : Nat) (L : List Rc) (out : List Xi), L.length ≤ 4096 → L.length < f → out.length + L.length ≤ 5000 →
    Zf f tk b.Xz b.XI b.XA b.Xk b.Xr (L.map rR) out = some (out ++ (L.map (fun r => rs r 4)).map rR, RC tk b [])
  | 0, L, out, h1, h2, h3 => by omega
  | f + 1, L, out, h1, h2, h3 => by
    show Jw (Zf f) tk b.Xz b.XI b.XA b.Xk b.Xr (L.map rR) out = _
    unfold Jw
    cases L with
    | nil => rw [if_neg (by decide), List.map_nil, List.map_nil, List.map_nil, List.append_nil]; rfl
    | cons r L =>
      have he := rend_eq (tk := tk) (b := b) (L := r :: L) (by omega) (i := 0) (r := r) rfl 4
      rw [if_pos (dT (by simp))]
      show (Yd (RC tk b (r :: L)) ((0 : Nat) : Int) 4).bind _ = _
      rw [he, Option.bind_some, if_pos (limk (by simp only [List.length_cons, List.length_nil] at *; omega))]
      show Zf f tk b.Xz b.XI b.XA b.Xk b.Xr (L.map rR) (out ++ [rR (rs r 4)]) = _
      simp only [List.length_cons] at h1 h2 h3
      rw [rflush_L f L _ (by omega) (by omega) (by rw [List.length_append, List.length_singleton]; omega)]
      simp
theorem rflush_eq {tk : Int} {b : Bd} {L : List Rc} (h : L.length ≤ 4096) : K0 (RC tk b L) = some ((L.map (fun r => rs r 4)).map rR, RC tk b []) := by
  have := rflush_L (tk := tk) (b := b) fuel0 L [] h (by unfold fuel0; omega) (by simp; omega)
  rw [List.nil_append] at this
  exact this
structure PI (n : Nat) (c : Ca) (L : List Rc) : Prop where
  ci : CI n c
  ur : ∀ r ∈ c.Xh, UR r
  ub : UB c.Xb
  tk : 0 ≤ c.XB ∧ c.XB < 18446744073709551616
  sl : SL L
  pm : c.Xh.Perm L
theorem sl_nil : SL [] := ⟨⟨fun r hr => (by cases hr), List.Pairwise.nil⟩, List.Pairwise.nil⟩
theorem PI.len {n : Nat} {c : Ca} {L : List Rc} (h : PI n c L) : (L.length : Int) ≤ c.Xb.Xz := by rw [← h.pm.length_eq]; exact h.ci.le
theorem PI.small {n : Nat} {c : Ca} {L : List Rc} (h : PI n c L) : L.length ≤ 4096 := by rw [← h.pm.length_eq]; exact h.ci.small
theorem PI.url {n : Nat} {c : Ca} {L : List Rc} (h : PI n c L) : ∀ r ∈ L, UR r := fun r hr => h.ur r (h.pm.mem_iff.2 hr)
theorem PI.al {n : Nat} {c : Ca} {L : List Rc} (h : PI n c L) : al c.Xh = L := al_of h.sl h.pm.symm
theorem adv_perm {b : Bd} {T : Int} {xs ys : List Rc} (h : FL xs) (p : xs.Perm ys) : adv b T xs = adv b T ys := by
  unfold adv
  rw [st_eq (du b) (h.filter _) (p.filter _)]
theorem clear_ci {n : Nat} {c : Ca} (h : CI n c) : ∃ T, K2 c.Xf = some T ∧ CI n ⟨c.XB, c.Xb, T, []⟩ := by
  refine ⟨_, rfl, ?_⟩
  have t := h.mp.toTT
  have ht := tt_empty (n := n) t.pos t.le t.dvd
  have hz : usd (List.replicate n E0) = 0 := by have := ht.many; omega
  have hl := t.len
  rw [hl]
  refine ⟨⟨ht, hz.symm, hz.symm, fun i k hk => (by simp at hk), fun k v hm => ?_, fun i j k hk => (by simp at hk)⟩, fun r hr => (by simp at hr), h.b0, h.b1, ?_, h.ln⟩
  · obtain ⟨q, s, hs, hu, _⟩ := hm
    have := empty_get hs
    subst this
    cases hu
  · have := h.b0
    show ((([] : List Rc).length : Nat) : Int) ≤ c.Xb.Xz
    simp; omega
structure AW (a : XF) : Prop where
  pw : PW a.XH
  fl : 0 ≤ a.XH.XO ∧ a.XH.XO < 256
  tk : 0 ≤ a.XK ∧ a.XK < 18446744073709551616
theorem acc_both {n : Nat} {c : Ca} {L : List Rc} (h : PI n c L) {a : XF} (w : AW a) :
    ∃ X z c' L', X.length ≤ 100000 ∧ XQ c a.XH a.XU a.XK = some (X, z, c') ∧ Yo (RC c.XB c.Xb L) (rP a.XH) a.XU a.XK = some (X.map rR, z, RC c'.XB c'.Xb L') ∧ PI n c' L' := by
  cases hr : kr a.XH.Xo with
  | false => exact ⟨[], 2, c, L, by simp, acc_wrong hr _ _, racc_wrong hr _ _, h⟩
  | true =>
    have rk := w.pw.rk hr
    have hb : 1 ≤ c.Xb.Xz ∧ c.Xb.Xz ≤ 4096 := ⟨h.ci.b0, h.ci.b1⟩
    have olen : ∀ {O ys xs : List Rc} {b tk}, Acc b tk a.XH a.XU xs O ys → O.length ≤ 2 := by
      rintro O ys xs b tk ⟨B, C, r0, rest, rfl, m, o⟩
      have h1 : B.length ≤ 1 := by
        rcases o with ⟨rfl, _, _⟩ | ⟨_, _, ⟨_, rfl, _⟩ | ⟨_, _, _, _, rfl, _⟩⟩ <;> simp
      have h2 : C.length ≤ 1 := by
        rcases m with ⟨_, rfl, _⟩ | ⟨_, _, rfl, _⟩ | ⟨_, _, rfl, _⟩ <;> simp
      rw [List.length_append]; omega
    by_cases ht : a.XK < c.XB
    · obtain ⟨O, c', e1, g1, g2, g3, A1⟩ := acc_old h.ci rk a.XU ht
      obtain ⟨O2, Y, e2, A2, sY⟩ := racc_old hb h.sl h.len h.url h.tk w.fl rk a.XU ht
      obtain ⟨e3, p3⟩ := acc_det h.ci.fl h.pm A1 A2
      subst e3
      refine ⟨O, 0, c', Y, by have := olen A1; omega, e1, ?_, g1, acc_ur A1 h.ur h.tk, by rw [g3]; exact h.ub, by rw [g2]; exact h.tk, sY, p3⟩
      rw [e2, g2, g3]
    · obtain ⟨c1, O, c', _, h1, p1, e1, g1, g2, g3, A1⟩ := acc_spec h.ci rk a.XU (Int.not_lt.1 ht)
      obtain ⟨O2, Y, e2, A2, sY⟩ := racc_new h.ub hb h.sl h.len h.url w.fl rk a.XU w.tk (Int.not_lt.1 ht)
      obtain ⟨e3, p3⟩ := acc_det h1.fl (p1.trans (h.pm.filter _)) A1 A2
      subst e3
      have hu1 : ∀ r ∈ c1.Xh, UR r := fun r hr => h.ur r (List.mem_filter.1 (p1.mem_iff.1 hr)).1
      refine ⟨adv c.Xb a.XK c.Xh ++ O, 0, c', Y, ?_, e1, ?_, g1, acc_ur A1 hu1 w.tk, by rw [g3]; exact h.ub, by rw [g2]; exact w.tk, sY, p3⟩
      · have := olen A1
        have := adv_len (b := c.Xb) (tick := a.XK) (xs := c.Xh)
        have := h.ci.small
        rw [List.length_append]; omega
      · rw [e2, g2, g3, adv_perm h.ci.fl h.pm]
theorem adv_both {n : Nat} {c : Ca} {L : List Rc} (h : PI n c L) {T : Int} (hT : 0 ≤ T ∧ T < 18446744073709551616) :
    ∃ X c' L', X.length ≤ 100000 ∧ X5 c T = some (X, c') ∧ YN (RC c.XB c.Xb L) T = some (X.map rR, RC c'.XB c'.Xb L') ∧ PI n c' L' := by
  by_cases ht : T < c.XB
  · exact ⟨[], c, L, by simp, advance_old ht, radvance_old ht, h⟩
  · obtain ⟨c1, e1, h1, t1, b1, p1⟩ := advance_spec h.ci (Int.not_lt.1 ht)
    have e2 := radvance_eq h.ub h.sl h.small h.url (Int.not_lt.1 ht)
    refine ⟨adv c.Xb T c.Xh, c1, L.filter (fun r => !dueB c.Xb T r), ?_, e1, ?_, h1, ?_, by rw [b1]; exact h.ub, by rw [t1]; exact hT, h.sl.sub List.filter_sublist, p1.trans (h.pm.filter _)⟩
    · have := adv_len (b := c.Xb) (tick := T) (xs := c.Xh)
      have := h.ci.small
      omega
    · rw [e2, t1, b1, adv_perm h.ci.fl h.pm]
    · exact fun r hr => h.ur r (List.mem_filter.1 (p1.mem_iff.1 hr)).1
theorem does_both {n : Nat} {c : Ca} {L : List Rc} (h : PI n c L) {a : XF} (w : AW a) :
    ∃ c' L', UN c (RC c.XB c.Xb L) a = some (true, c', RC c'.XB c'.Xb L') ∧ PI n c' L' := by
  have k1 : ∃ t, UN c (RC c.XB c.Xb L) a = Jk c (RC c.XB c.Xb L) a t := by
    unfold UN
    repeat' split
    all_goals exact ⟨_, rfl⟩
  obtain ⟨t, e⟩ := k1
  rw [e]
  unfold Jk
  cases t with
  | true =>
    obtain ⟨X, z, c', L', hX, e1, e2, hp⟩ := acc_both h w
    obtain ⟨y, e3⟩ := same_eq hX
    refine ⟨c', L', ?_, hp⟩
    rw [if_pos rfl, e1, Option.bind_some]
    show (Yo (RC c.XB c.Xb L) (rP a.XH) a.XU a.XK).bind _ = _
    rw [e2, Option.bind_some]
    dsimp only
    rw [if_pos (by simp), e3, Option.bind_some]
    rfl
  | false =>
    have k2 : ∃ t, (if (a.Xas == 5) = true then JO c (RC c.XB c.Xb L) a (a.Xas == 5) else JO c (RC c.XB c.Xb L) a (a.Xas == 6)) = JO c (RC c.XB c.Xb L) a t := by
      split
      all_goals exact ⟨_, rfl⟩
    obtain ⟨t, e⟩ := k2
    rw [if_neg (by decide), e]
    unfold JO
    cases t with
    | true =>
      obtain ⟨X, c', L', hX, e1, e2, hp⟩ := adv_both h w.tk
      obtain ⟨y, e3⟩ := same_eq hX
      refine ⟨c', L', ?_, hp⟩
      rw [if_pos rfl, e1, Option.bind_some, e2, Option.bind_some]
      dsimp only
      rw [e3, Option.bind_some]
      rfl
    | false =>
      rw [if_neg (by decide)]
      split
      · obtain ⟨c', e1, h1, t1, b1, f1⟩ := flush_spec h.ci
        obtain ⟨y, e3⟩ := same_eq (X := L.map (fun r => rs r 4)) (by rw [List.length_map]; have := h.small; omega)
        rw [h.al] at e1
        refine ⟨c', [], ?_, h1, fun r hr => (by rw [f1] at hr; cases hr), by rw [b1]; exact h.ub, by rw [t1]; exact h.tk, sl_nil, by rw [f1]⟩
        rw [e1, Option.bind_some, rflush_eq h.small, Option.bind_some]
        dsimp only
        rw [e3, Option.bind_some, t1, b1]
      · split
        · obtain ⟨T, e1, h1⟩ := clear_ci h.ci
          refine ⟨⟨c.XB, c.Xb, T, []⟩, [], ?_, h1, fun r hr => (by cases hr), h.ub, h.tk, sl_nil, .nil⟩
          unfold KZ
          rw [e1, Option.bind_some, Option.bind_some]
          have hl : ((c.Xh.length : Int) == ((RC c.XB c.Xb L).f_L.length : Int)) = true := by
            show ((c.Xh.length : Int) == ((L.map rR).length : Int)) = true
            rw [List.length_map, h.pm.length_eq]; simp
          rw [hl]
          rfl
        · exact ⟨c, L, rfl, h⟩
theorem get_both {n : Nat} {c : Ca} {L : List Rc} (h : PI n c L) {k : Xe} (wk : WK k) :
    ∃ r t, KX c k = some (r, t, c) ∧ Kf (RC c.XB c.Xb L) (rK k) = some (rR r, t, RC c.XB c.Xb L) := by
  unfold KX Kf
  by_cases hx : ∃ r ∈ c.Xh, r.Xo = k
  · obtain ⟨r, hm, rfl⟩ := hx
    obtain ⟨i, hi⟩ := List.getElem?_of_mem hm
    obtain ⟨j, hj⟩ := List.getElem?_of_mem (h.pm.mem_iff.1 hm)
    rw [mp_get h.ci.mp (i := i) (k := r.Xo) (by simp [hi]), Option.bind_some, rfind_in (by have := h.small; omega) h.sl hj, Option.bind_some]
    dsimp only
    rw [if_neg (by decide), if_neg (by decide), gidx_nat hi, Option.bind_some]
    have hg : gidx (RC c.XB c.Xb L).f_L (j : Int) = some (rR r) := rat hj
    rw [hg, Option.bind_some]
    exact ⟨r, true, rfl, rfl⟩
  · have hno : ∀ r ∈ c.Xh, r.Xo ≠ k := fun r hr he => hx ⟨r, hr, he⟩
    obtain ⟨j, e, _⟩ := rfind_out (tk := c.XB) (b := c.Xb) (by have := h.small; omega) h.sl wk (fun r hr => hno r (h.pm.mem_iff.2 hr))
    rw [mp_out h.ci.mp wk (by rw [List.mem_map]; rintro ⟨r, hr, he⟩; exact hno r hr he), Option.bind_some, e, Option.bind_some]
    dsimp only
    rw [if_pos (by decide), if_pos (by decide)]
    exact ⟨_, _, rfl, rfl⟩
theorem is_both {n : Nat} {c : Ca} {L : List Rc} (h : PI n c L) {k : Xe} (wk : WK k) : Vh c (RC c.XB c.Xb L) k = some (true, c, RC c.XB c.Xb L) := by
  obtain ⟨m, ok, e1, n1⟩ := next_spec h.ci.small
  obtain ⟨m2, ok2, e2, n2⟩ := rnext_spec (tk := c.XB) h.ub h.url h.small
  obtain ⟨rfl, rfl⟩ := nxt_uniq h.pm n1 n2
  obtain ⟨r, t, e3, e4⟩ := get_both h wk
  obtain ⟨y, e5⟩ := same_eq (X := L) (by have := h.small; omega)
  have e6 := all_eq h.ci.small
  rw [h.al] at e6
  unfold Vh
  rw [e1, Option.bind_some, e2, Option.bind_some]
  dsimp only
  rw [e3, Option.bind_some]
  show (Kf (RC c.XB c.Xb L) (rK k)).bind _ = _
  rw [e4, Option.bind_some]
  dsimp only
  rw [if_pos (by simp), if_pos (by simp)]
  show (if Kd (rR r) (rR r) = true then _ else _) = _
  rw [rq_refl, if_pos rfl, if_pos (by simp), e6, Option.bind_some]
  dsimp only
  show (Za L (L.map rR)).bind _ = _
  rw [e5, Option.bind_some, if_pos rfl, e6, Option.bind_some]
  show (Za L (L.map rR)).bind _ = _
  rw [e5, Option.bind_some, if_pos rfl]
  show JE (rR r, t, RC c.XB c.Xb L) c.XB c.Xb.Xz c.Xb.XI c.Xb.XA c.Xb.Xk c.Xb.Xr c.Xf.Xp c.Xf.XG c.Xh (c.XB == c.XB) = _
  rw [beq_self_eq_true]
  rfl
theorem wk00 : WK ⟨⟨false, List.replicate 16 0⟩, ⟨false, List.replicate 16 0⟩, 0, 0, 0⟩ := wk0
def pq_ (rec : Int → Int → Int → Int → Int → Int → (List Xm) → Int → (List Xc) → Int → Int → Int → Int → Int → Int → (List Xi) → Int → Option Bool) (c : Ca) (r : RCa) (i : Int) : Option Bool :=
  rec c.XB c.Xb.Xz c.Xb.XI c.Xb.XA c.Xb.Xk c.Xb.Xr c.Xf.Xp c.Xf.XG c.Xh r.XK r.Xu.Xz r.Xu.XI r.Xu.XA r.Xu.Xk r.Xu.Xr r.f_L i
theorem plays_L {n : Nat} {lv : List XF} (hl : lv.length ≤ 60) (hw : ∀ a ∈ lv, AW a) : ∀ (f i : Nat) (c : Ca) (L : List Rc), PI n c L → i ≤ lv.length → lv.length < f + i → pq_ (Zr lv f) c (RC c.XB c.Xb L) (i : Int) = some true
  | 0, i, c, L, h, h1, h2 => by omega
  | f + 1, i, c, L, h, h1, h2 => by
    show pq_ (JG (Zr lv f) lv) c (RC c.XB c.Xb L) (i : Int) = some true
    unfold pq_ JG
    by_cases hi : i < lv.length
    · obtain ⟨a, ha⟩ : ∃ a, lv[i]? = some a := ⟨_, List.getElem?_eq_getElem hi⟩
      have w := hw a (List.mem_of_getElem? ha)
      rw [if_pos (dT (by omega)), gidx_nat ha, Option.bind_some]
      obtain ⟨c', L', e1, h'⟩ := does_both h w
      show (UN c (RC c.XB c.Xb L) a).bind _ = _
      rw [e1, Option.bind_some]
      dsimp only
      rw [if_neg (by decide), Option.bind_some]
      rw [is_both h' w.pw.toWK, Option.bind_some]
      unfold Jx
      dsimp only
      rw [if_neg (by decide), nx4 (by omega)]
      exact plays_L hl hw f (i + 1) c' L' h' (by omega) (by omega)
    · rw [if_neg (dF (by omega))]
      show (Vh c (RC c.XB c.Xb L) _).bind _ = _
      rw [is_both h wk00, Option.bind_some]
      dsimp only
      rw [if_pos rfl, works_eq]
      rfl
theorem plays_eq {tick : Int} {b : Bd} {lv : List XF} (ht : 0 ≤ tick ∧ tick < 18446744073709551616) (ub : UB b) (hw : ∀ a ∈ lv, AW a) : Jc tick b lv = some true := by
  unfold Jc
  by_cases hl : 60 < lv.length
  · rw [if_pos (dT (by omega)), works_eq]; rfl
  · rw [if_neg (dF (by omega)), chain (YE tick b lv) b]
    unfold YE K4
    cases g : bad b with
    | true =>
      rw [if_pos rfl, Option.bind_some, chain YB b, g]
      unfold YB KA
      rw [if_pos rfl, if_neg (by decide), works_eq]; rfl
    | false =>
      rw [if_neg (by decide)]
      obtain ⟨e, he, hf, k⟩ := sized g
      rw [k (Zu tick b lv)]
      unfold Zu K4
      obtain ⟨r1, r2⟩ := room he
      rw [if_neg (by decide), if_pos r1, Option.bind_some, chain (YD tick b lv (e : Int) b) b, g]
      unfold YD Kr
      rw [if_neg (by decide), if_neg (by decide), r2]
      exact plays_L (by omega) hw fuel0 0 (c0 e tick b) [] ⟨new_ci he g hf tick, fun r hr => (by cases hr), ub, ht, sl_nil, .nil⟩ (by omega) (by unfold fuel0; omega)
end Go.Proofs.YtkpnocgfhipidaaGreat
