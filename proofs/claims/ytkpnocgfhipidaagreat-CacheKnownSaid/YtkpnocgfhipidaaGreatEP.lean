/- Plain text: CacheNone; the chapter's examples. -/
import Derived.Test.YtkpnocgfhipidaaGreatSrt
import Derived.Test.YtkpnocgfhipidaaGreatDP
set_option linter.unusedVariables false
namespace Go.Proofs.YtkpnocgfhipidaaGreat
open Go Go.Ox Go.RowKit
theorem works_eq : Yw = some true := by decide +kernel
theorem none_eq (a : XF) : KS a = some true := by
  unfold KS
  rw [works_eq]
  rfl
end Go.Proofs.YtkpnocgfhipidaaGreat

set_option linter.unusedVariables false
namespace Go.Proofs.YtkpnocgfhipidaaGreat
open Go Go.Ox Go.Ox.Ring
def bad (b : Bd) : Bool := decide (b.Xz < 1) || (decide (4096 < b.Xz) || ((b.XI == 0) || ((b.XA == 0) || ((b.Xk == 0) || (b.Xr == 0)))))
theorem chain {α : Type} (J : Bool → α) (b : Bd) : (if (decide (b.Xz < 1)) = true then J true else if (decide (4096 < b.Xz)) = true then J true else if (b.XI == 0) = true then J true else if (b.XA == 0) = true then J true else if (b.Xk == 0) = true then J true else J (b.Xr == 0)) = J (bad b) := by
  unfold bad
  cases decide (b.Xz < 1) <;> cases decide (4096 < b.Xz) <;> cases (b.XI == 0) <;> cases (b.XA == 0) <;> cases (b.Xk == 0) <;> rfl
theorem good {b : Bd} (h : bad b = false) : 1 ≤ b.Xz ∧ b.Xz ≤ 4096 := by
  unfold bad at h
  simp only [Bool.or_eq_false_iff, decide_eq_false_iff_not] at h
  omega
theorem len_a : ∀ x : Fin 256, ∃ e : Fin 9, Jm (x.val : Int) 0 = some (e.val : Int) ∧ x.val < 2 ^ e.val := by decide +kernel
theorem len_b : ∀ x : Fin 17, ∃ e : Fin 6, Jm (x.val : Int) 8 = some ((e.val + 8 : Nat) : Int) ∧ x.val < 2 ^ e.val := by decide +kernel
theorem len_eq {v : Nat} (hv : v ≤ 4096) : ∃ e : Nat, e ≤ 13 ∧ Zb (v : Int) = some (e : Int) ∧ v < 2 ^ e := by
  unfold Zb US Kb Ka
  rw [if_neg (dF (by omega)), if_neg (dF (by omega))]
  by_cases h : v < 256
  · obtain ⟨e, h1, h2⟩ := len_a ⟨v, h⟩
    rw [if_neg (dF (by omega)), h1, Option.bind_some]
    exact ⟨e.val, by omega, rfl, h2⟩
  · obtain ⟨e, h1, h2⟩ := len_b ⟨v / 256, by omega⟩
    rw [if_pos (dT (by omega)), shr8 (by omega), show (v : Int) / 256 = ((v / 256 : Nat) : Int) from rfl, show IntKind.i64.wrap (0 + 8) = 8 by decide, h1, Option.bind_some]
    refine ⟨e.val + 8, by omega, rfl, ?_⟩
    rw [Nat.pow_add]
    simp only at h2
    omega
theorem pow_ok : ∀ e : Fin 14, Ox.shl .i64 1 (e.val : Int) = ((2 ^ e.val : Nat) : Int) ∧ (bits .and .i64 (Ox.shl .i64 1 (e.val : Int)) (IntKind.i64.wrap ((Ox.shl .i64 1 (e.val : Int)) - 1)) != 0) = false ∧ 2 ^ e.val ∣ 2 ^ 64 ∧ 1 ≤ 2 ^ e.val ∧ 2 ^ e.val ≤ 8192 := by decide +kernel
theorem sized {b : Bd} (g : bad b = false) : ∃ e : Nat, e ≤ 13 ∧ b.Xz < ((2 ^ e : Nat) : Int) ∧ ∀ J : Int → Bool → Option Bool, ((Zb (IntKind.u64.wrap b.Xz)).bind fun y =>
    if (decide (¬ y < 0)) = true then if (decide ((Ox.shl .i64 1 y) < 1)) = true then J y true else if (decide (65536 < (Ox.shl .i64 1 y))) = true then J y true else J y ((bits .and .i64 (Ox.shl .i64 1 y) (IntKind.i64.wrap ((Ox.shl .i64 1 y) - 1))) != 0) else none) = J (e : Int) false := by
  have h := good g
  obtain ⟨e, h1, h2, h3⟩ := len_eq (v := b.Xz.toNat) (by omega)
  obtain ⟨p1, p2, p3, p4, p5⟩ := pow_ok ⟨e, by omega⟩
  dsimp only at p1 p2 p3 p4 p5
  have hv : b.Xz = ((b.Xz.toNat : Nat) : Int) := by omega
  refine ⟨e, h1, by omega, fun J => ?_⟩
  rw [wu64i (by omega) (by omega), hv, h2, Option.bind_some, if_pos (dT (by omega)), if_neg (dF (by rw [p1]; omega)), if_neg (dF (by rw [p1]; omega)), p2]
def c0 (e : Nat) (tick : Int) (b : Bd) : Ca := ⟨tick, b, ⟨List.replicate (2 ^ e) E0, 0⟩, []⟩
theorem room {e : Nat} (h : e ≤ 13) : decide (0 ≤ (Ox.shl .i64 1 (e : Int)) ∧ (Ox.shl .i64 1 (e : Int)) ≤ lim) = true ∧ Int.toNat (Ox.shl .i64 1 (e : Int)) = 2 ^ e := by
  obtain ⟨p1, p2, p3, p4, p5⟩ := pow_ok ⟨e, by omega⟩
  dsimp only at p1 p4 p5
  rw [p1]
  exact ⟨dT (by simp only [lim]; omega), by omega⟩
theorem new_ci {e : Nat} (he : e ≤ 13) {b : Bd} (g : bad b = false) (hf : b.Xz < ((2 ^ e : Nat) : Int)) (tick : Int) : CI (2 ^ e) (c0 e tick b) := by
  obtain ⟨p1, p2, p3, p4, p5⟩ := pow_ok ⟨e, by omega⟩
  dsimp only at p3 p4 p5
  have h := good g
  have ht := tt_empty p4 (show 2 ^ e ≤ 65536 by omega) p3
  have hz : usd (List.replicate (2 ^ e) E0) = 0 := by have := ht.many; omega
  refine ⟨⟨ht, hz.symm, hz.symm, fun i k hk => (by simp [c0] at hk), fun k v hm => ?_, fun i j k hk => (by simp [c0] at hk)⟩, fun r hr => (by simp [c0] at hr), h.1, h.2, by show ((([] : List Rc).length : Nat) : Int) ≤ b.Xz; simp; omega, hf⟩
  obtain ⟨q, s, hs, hu, _⟩ := hm
  have := empty_get hs
  subst this
  cases hu
theorem VZ (x : Xe) : Yg x x = true := by simp [Yg, Xa0]
theorem Xbq (x : Rc) : UV x x = true := by simp [UV, VZ]
structure PW (p : XC) : Prop extends WK p.Xo where
  sb : Wf 256 p.Xo.XL.f_B
  db : Wf 256 p.Xo.XN.f_B
  pb : 0 ≤ p.Xo.X2 ∧ p.Xo.X2 < 256
theorem PW.rk {p : XC} (h : PW p) (hr : kr p.Xo = true) : RK p.Xo := ⟨h.toWK, hr, h.sb, h.db, h.pb⟩
theorem l3_eq {c1 : Ca} {X : List Rc} (hx : X.length ≤ 5000) : ∀ (f i : Nat), i ≤ X.length → X.length < f + i → ZZ (X, c1) X f (i : Int) = some true
  | 0, i, h1, h2 => by omega
  | f + 1, i, h1, h2 => by
    show JQ (ZZ (X, c1) X f) (X, c1) X (i : Int) = _
    unfold JQ
    by_cases hl : i = X.length
    · rw [if_neg (dF (by omega)), works_eq]; rfl
    · obtain ⟨r, hr⟩ : ∃ r, X[i]? = some r := ⟨_, List.getElem?_eq_getElem (by omega)⟩
      rw [if_pos (dT (by omega)), gidx_nat hr, Option.bind_some, Option.bind_some, Xbq, if_neg (by decide), nx4 (by omega)]
      exact l3_eq hx f (i + 1) (by omega) (by omega)
theorem fil_fil {P Q : Rc → Bool} (h : ∀ r, P r = true → Q r = true) : ∀ xs : List Rc, (xs.filter P ++ (xs.filter (fun r => !P r)).filter Q).Perm (xs.filter Q)
  | [] => .refl _
  | a :: xs => by
    have ih := fil_fil h xs
    cases hp : P a with
    | true =>
      have hq := h a hp
      simp only [List.filter_cons, hp, hq, if_true, Bool.not_true]
      exact ih.cons a
    | false =>
      cases hq : Q a with
      | true =>
        simp only [List.filter_cons, hp, Bool.not_false, if_true, hq]
        exact List.perm_middle.trans (ih.cons a)
      | false =>
        simp only [List.filter_cons, hp, Bool.not_false, if_true, hq]
        exact ih
theorem fil_not {P Q : Rc → Bool} (h : ∀ r, P r = true → Q r = true) (xs : List Rc) : (xs.filter (fun r => !P r)).filter (fun r => !Q r) = xs.filter (fun r => !Q r) := by
  rw [List.filter_filter]
  apply List.filter_congr
  intro r _
  cases hp : P r <;> cases hq : Q r <;> simp
  rw [h r hp] at hq; cases hq
theorem two_goes {b : Bd} {T : Int} {P : Rc → Bool} {xs ys : List Rc} (h : FL xs) (hy : ys.Perm (xs.filter (fun r => !P r))) (h1 : ∀ r, P r = true → du b r ≤ T) (h2 : ∀ r q, P r = true → P q = false → du b r < du b q) :
    st (du b) (xs.filter P) ++ st (du b) (ys.filter (dueB b T)) = st (du b) (xs.filter (dueB b T)) := by
  have hPQ : ∀ r, P r = true → dueB b T r = true := fun r hr => decide_eq_true (h1 r hr)
  have hyf : FL ys := (h.filter _).perm hy.symm
  symm
  refine st_uniq _ (h.filter _) ?_ ?_
  · refine ((st_perm _ _).append (st_perm _ _)).trans ?_
    exact ((hy.filter _).append_left _).trans (fil_fil hPQ xs)
  · rw [List.pairwise_append]
    refine ⟨st_lt _ (h.filter _), st_lt _ (hyf.filter _), fun x hx y hy2 => ?_⟩
    have hx1 := (List.mem_filter.1 ((st_perm _ _).mem_iff.1 hx)).2
    have hy1 := (List.mem_filter.1 ((st_perm _ _).mem_iff.1 hy2)).1
    have hy3 := (List.mem_filter.1 (hy.mem_iff.1 hy1)).2
    have hy4 : P y = false := by simpa using hy3
    exact lk_lt.2 (.inl (h2 x y hx1 hy4))
theorem l2_eq {n : Nat} {b : Bd} {ticks tick : Int} {N : Nat} (hN : IntKind.u64.wrap (Int.tmod ticks 151) = (N : Int)) (hN2 : N ≤ 150) (ht : 0 ≤ tick ∧ tick ≤ 1000) {xs : List Rc} (hx : FL xs) (hxl : xs.length ≤ 4096) {c1 : Ca} :
    ∀ (f t : Nat) (d : Ca) (P : Rc → Bool), CI n d → d.Xb = b → d.XB ≤ tick + t → t ≤ N + 1 → N + 1 < f + t → d.Xh.Perm (xs.filter (fun r => !P r)) → (∀ r, P r = true → du b r < tick + t) → (∀ r q, P r = true → P q = false → du b r < du b q) → (t = 0 ∨ P = dueB b (tick + t - 1)) →
      Zy ticks tick (adv b (tick + N) xs, c1) f d.XB d.Xb.Xz d.Xb.XI d.Xb.XA d.Xb.Xk d.Xb.Xr d.Xf.Xp d.Xf.XG d.Xh ((st (du b) (xs.filter P)).map (fun r => rs r (rsn b r))) (t : Int) = some true
  | 0, t, d, P, _, _, _, h1, h2, _, _, _, _ => by omega
  | f + 1, t, d, P, hd, hb, htk, h1, h2, hp, g1, g2, g3 => by
    show JL (Zy ticks tick (adv b (tick + N) xs, c1) f) ticks tick (adv b (tick + N) xs, c1) d.XB d.Xb.Xz d.Xb.XI d.Xb.XA d.Xb.Xk d.Xb.Xr d.Xf.Xp d.Xf.XG d.Xh _ (t : Int) = _
    unfold JL
    rw [hN]
    have hgl : ((st (du b) (xs.filter P)).map (fun r => rs r (rsn b r))).length ≤ 4096 := by
      rw [List.length_map, (st_perm _ _).length_eq]
      have := List.length_filter_le P xs
      omega
    by_cases hl : t ≤ N
    · obtain ⟨d2, e, c1', t1, b1, p1⟩ := advance_spec hd htk
      rw [if_pos (dT (by omega)), wu64i (n := tick + (t : Int)) (by omega) (by omega)]
      show (X5 d (tick + t)).bind _ = _
      rw [e, Option.bind_some, hb]
      have hal := adv_len (b := b) (tick := tick + t) (xs := d.Xh)
      have hdl := hd.small
      rw [if_pos (limk (by show _ + (adv b (tick + t) d.Xh).length < _; omega)), show IntKind.u64.wrap ((t : Int) + 1) = ((t + 1 : Nat) : Int) by rw [wu64i (by omega) (by omega)]; omega]
      have key := two_goes hx hp (T := tick + t) (b := b) (fun r hr => by have := g1 r hr; omega) g2
      have hgot : (st (du b) (xs.filter P)).map (fun r => rs r (rsn b r)) ++ adv b (tick + t) d.Xh = (st (du b) (xs.filter (dueB b (tick + t)))).map (fun r => rs r (rsn b r)) := by
        rw [← key, List.map_append]; rfl
      show Zy ticks tick (adv b (tick + N) xs, c1) f d2.XB d2.Xb.Xz d2.Xb.XI d2.Xb.XA d2.Xb.Xk d2.Xb.Xr d2.Xf.Xp d2.Xf.XG d2.Xh ((st (du b) (xs.filter P)).map (fun r => rs r (rsn b r)) ++ adv b (tick + t) d.Xh) ((t + 1 : Nat) : Int) = _
      rw [hgot]
      refine l2_eq hN hN2 ht hx hxl f (t + 1) d2 (dueB b (tick + t)) c1' (b1.trans hb) (by rw [t1]; omega) (by omega) (by omega) ?_ (fun r hr => ?_) (fun r q hr hq => ?_) (.inr ?_)
      · rw [hb] at p1
        refine p1.trans ((hp.filter _).trans (List.Perm.of_eq ?_))
        exact fil_not (fun r hr => decide_eq_true (by have := g1 r hr; omega)) xs
      · have := of_decide_eq_true hr; omega
      · have h3 := of_decide_eq_true hr
        have h4 := of_decide_eq_false hq
        omega
      · have e : tick + ((t + 1 : Nat) : Int) - 1 = tick + t := by omega
        rw [e]
    · have hP : P = dueB b (tick + N) := by
        rcases g3 with g3 | g3
        · omega
        · rw [g3]; congr 1; omega
      rw [if_neg (dF (by omega)), hP]
      have he : (st (du b) (xs.filter (dueB b (tick + N)))).map (fun r => rs r (rsn b r)) = adv b (tick + N) xs := rfl
      rw [he, if_neg (by simp)]
      have hal := adv_len (b := b) (tick := tick + N) (xs := xs)
      exact l3_eq (by omega) fuel0 0 (by omega) (by unfold fuel0; omega)
theorem l1_eq {n : Nat} {b : Bd} {lv : List XF} {ticks : Int} (hl : lv.length ≤ 20) (hw : ∀ a ∈ lv, PW a.XH ∧ 0 ≤ a.XK) (ht8 : 0 ≤ ticks ∧ ticks < 256) :
    ∀ (f i : Nat) (c : Ca) (tick : Int), CI n c → c.Xb = b → c.XB ≤ tick → 0 ≤ tick → tick ≤ 7 * i → i ≤ lv.length → lv.length < f + i →
      Zo lv ticks f c.XB c.Xb.Xz c.Xb.XI c.Xb.XA c.Xb.Xk c.Xb.Xr c.Xf.Xp c.Xf.XG c.Xh c.XB c.Xb.Xz c.Xb.XI c.Xb.XA c.Xb.Xk c.Xb.Xr c.Xf.Xp c.Xf.XG c.Xh tick (i : Int) = some true
  | 0, i, c, tick, _, _, _, _, _, h1, h2 => by omega
  | f + 1, i, c, tick, hc, hb, hct, ht0, ht7, h1, h2 => by
    show JN (Zo lv ticks f) lv ticks c.XB c.Xb.Xz c.Xb.XI c.Xb.XA c.Xb.Xk c.Xb.Xr c.Xf.Xp c.Xf.XG c.Xh c.XB c.Xb.Xz c.Xb.XI c.Xb.XA c.Xb.Xk c.Xb.Xr c.Xf.Xp c.Xf.XG c.Xh tick (i : Int) = _
    unfold JN
    by_cases hi : i < lv.length
    · obtain ⟨x, hx⟩ : ∃ x, lv[i]? = some x := ⟨_, List.getElem?_eq_getElem hi⟩
      obtain ⟨pw, h0⟩ := hw x (List.mem_of_getElem? hx)
      have hm : Int.tmod x.XK 8 = x.XK % 8 := Int.tmod_eq_emod_of_nonneg h0
      rw [if_pos (dT (by omega)), gidx_nat hx, Option.bind_some, Option.bind_some, Option.bind_some, hm, wu64i (n := tick + x.XK % 8) (by omega) (by omega)]
      have tot : ∃ A e c', XQ c x.XH x.XU (tick + x.XK % 8) = some (A, e, c') ∧ CI n c' ∧ c'.Xb = b ∧ c'.XB ≤ tick + x.XK % 8 := by
        cases hr : kr x.XH.Xo with
        | false => exact ⟨_, _, c, acc_wrong hr _ _, hc, hb, by omega⟩
        | true =>
          obtain ⟨c1, O, c', _, _, _, e, a1, a2, a3, _⟩ := acc_spec hc (pw.rk hr) x.XU (tick := tick + x.XK % 8) (by omega)
          exact ⟨_, _, c', e, a1, a3.trans hb, by omega⟩
      obtain ⟨A, e, c', he, a1, a2, a3⟩ := tot
      show (XQ c x.XH x.XU (tick + x.XK % 8)).bind (fun y474 => Option.bind (some x) fun xv492 => Option.bind (some x) fun xv495 => (XQ c xv492.XH xv495.XU (tick + x.XK % 8)).bind _) = _
      rw [he, Option.bind_some, Option.bind_some, Option.bind_some, he, Option.bind_some, if_neg (by simp)]
      unfold Jz
      rw [if_neg (by simp), hm, wu64i (n := tick + x.XK % 8) (by omega) (by omega), nx4 (by omega)]
      exact l1_eq hl hw ht8 f (i + 1) c' (tick + x.XK % 8) a1 a2 a3 (by omega) (by omega) (by omega) (by omega)
    · have hN : IntKind.u64.wrap (Int.tmod ticks 151) = ((ticks.toNat % 151 : Nat) : Int) := by
        have h3 : Int.tmod ticks 151 = ticks % 151 := Int.tmod_eq_emod_of_nonneg ht8.1
        rw [h3, wu64i (by omega) (by omega)]; omega
      rw [if_neg (dF (by omega)), hN, wu64i (n := tick + ((ticks.toNat % 151 : Nat) : Int)) (by omega) (by omega)]
      obtain ⟨d2, e, c1', t1, b1, p1⟩ := advance_spec hc (tick := tick + ((ticks.toNat % 151 : Nat) : Int)) (by omega)
      show (X5 c (tick + ((ticks.toNat % 151 : Nat) : Int))).bind _ = _
      rw [e, Option.bind_some, hb]
      have hnil : c.Xh.filter (fun _ => false) = [] := by simp
      have key := l2_eq (n := n) (b := b) (c1 := d2) hN (by omega) (tick := tick) ⟨ht0, by omega⟩ hc.fl hc.small fuel0 0 c (fun _ => false) hc hb (by omega) (by omega) (by unfold fuel0; omega) (List.Perm.of_eq (List.filter_eq_self.2 (fun _ _ => rfl)).symm) (fun r hr => by cases hr) (fun r q hr => by cases hr) (.inl rfl)
      rw [hnil, hb, show st (du b) [] = [] from (st_perm _ _).eq_nil] at key
      exact key
theorem ticks_eq {b : Bd} {lv : List XF} {ticks : Int} (hw : ∀ a ∈ lv, PW a.XH ∧ 0 ≤ a.XK) (ht8 : 0 ≤ ticks ∧ ticks < 256) : Ji b lv ticks = some true := by
  unfold Ji
  by_cases hl : 20 < lv.length
  · rw [if_pos (dT (by omega)), works_eq]; rfl
  · rw [if_neg (dF (by omega)), chain (YH b lv ticks) b]
    unfold YH
    cases g : bad b with
    | true =>
      rw [if_pos rfl, chain (YF b) b, g]
      unfold YF Kz KD
      rw [if_pos rfl, works_eq]; rfl
    | false =>
      rw [if_neg (by decide)]
      obtain ⟨e, he, hf, k⟩ := sized g
      rw [k (Zi b lv ticks)]
      unfold Zi
      obtain ⟨r1, r2⟩ := room he
      rw [if_neg (by decide), if_pos r1, chain (Yy b lv ticks (e : Int)) b, g]
      unfold Yy
      rw [if_neg (by decide), k (Zh b lv ticks (e : Int))]
      unfold Zh Kq
      rw [if_neg (by decide), if_pos r1, r2]
      exact l1_eq (by omega) hw ht8 fuel0 0 (c0 e 0 b) 0 (new_ci he g hf 0) rfl (by show (0 : Int) ≤ 0; omega) (by omega) (by omega) (by omega) (by unfold fuel0; omega)
end Go.Proofs.YtkpnocgfhipidaaGreat
