/- Plain text: what a cache's calls do, in terms of the flows it has, in whatever order. -/
import Derived.Test.YtkpnocgfhipidaaGreatAP
set_option linter.unusedVariables false
namespace Go.Proofs.YtkpnocgfhipidaaGreat
open Go Go.Ox Go.Ox.Ring
abbrev Ca := Xl
def rng (l : Nat) : List Int := (List.range l).map fun i : Nat => (i : Int)
theorem rng_len (l : Nat) : (rng l).length = l := by simp [rng]
theorem rng_get {l i : Nat} (h : i < l) : (rng l)[i]? = some (i : Int) := by simp [rng, h]
theorem rng_ext {l : Nat} {xs : List Int} (hl : xs.length = l) (h : ∀ i, i < l → xs[i]? = some (i : Int)) : xs = rng l := by
  apply List.ext_getElem?
  intro i
  by_cases hi : i < l
  · rw [h i hi, rng_get hi]
  · rw [List.getElem?_eq_none (by omega), List.getElem?_eq_none (by rw [rng_len]; omega)]
abbrev MP (n : Nat) (T : Xw) (ks : List Xe) : Prop := RL n T.Xp T.XG ks (rng ks.length)
theorem mp_get {n : Nat} {T : Xw} {ks : List Xe} (h : MP n T ks) {i : Nat} {k : Xe} (hi : ks[i]? = some k) : Yt T k = some ((i : Int), true, T) := by
  obtain ⟨v, hv, hm⟩ := h.mem i k hi
  rw [rng_get (List.getElem?_eq_some_iff.1 hi).1] at hv
  injection hv with hv; subst hv
  exact get_in h.toTT hm
theorem mp_out {n : Nat} {T : Xw} {ks : List Xe} (h : MP n T ks) {k : Xe} (hw : WK k) (hk : k ∉ ks) : Yt T k = some (0, false, T) := get_out h.toTT hw (h.absent hk)
theorem mp_new {n : Nat} {T : Xw} {ks : List Xe} (h : MP n T ks) {k : Xe} (r : RK k) (hk : k ∉ ks) (hl : ks.length < n) :
    ∃ T', YX T k (ks.length : Int) = some (0, T') ∧ MP n T' (ks ++ [k]) := by
  obtain ⟨q, s, hs, hu, hp, ht⟩ := put_new h.toTT r.toWK (h.absent hk) (by rw [← h.kl]; exact hl) r.right (ks.length : Int)
  refine ⟨_, hp, ?_⟩
  have h2 := h.new hk hs hu ht
  have e : rng (ks ++ [k]).length = rng ks.length ++ [(ks.length : Int)] := by simp [rng, List.range_succ]
  show RL n _ _ _ (rng _)
  rw [e]; exact h2
theorem mp_del {n : Nat} {T : Xw} {ks : List Xe} (h : MP n T ks) {i : Nat} {k kl : Xe} (hi : ks[i]? = some k) (hl : ks[ks.length - 1]? = some kl) :
    ∃ T1, Jn T k = some (true, T1) ∧ (i = ks.length - 1 → MP n T1 ((ks.set i kl).take (ks.length - 1))) ∧
      (i ≠ ks.length - 1 → kr kl = true → ∃ T2, YX T1 kl (i : Int) = some (0, T2) ∧ MP n T2 ((ks.set i kl).take (ks.length - 1))) := by
  have hil := (List.getElem?_eq_some_iff.1 hi).1
  obtain ⟨v, hv, q, s, hs, hu, hk, hn⟩ := h.mem i k hi
  subst hk
  obtain ⟨T', hd, ht, hN, hB⟩ := del_in h.toTT hs hu
  have hr := h.del hi hs hu ht hN hB hl (rng_get (by omega))
  have hlen : ((ks.set i kl).take (ks.length - 1)).length = ks.length - 1 := by simp
  have hg : ∀ j, j < ks.length - 1 → (((rng ks.length).set i ((ks.length - 1 : Nat) : Int)).take ((rng ks.length).length - 1))[j]? = if j = i then some ((ks.length - 1 : Nat) : Int) else some (j : Int) := fun j hj => by
    rw [swap_get (by rw [rng_len]; omega)]
    by_cases hji : j = i
    · rw [if_pos hji, if_pos hji]
    · rw [if_neg hji, if_neg hji, rng_get (by omega)]
  have hgl : (((rng ks.length).set i ((ks.length - 1 : Nat) : Int)).take ((rng ks.length).length - 1)).length = ks.length - 1 := by simp [rng_len]
  refine ⟨_, hd, fun he => ?_, fun hne hkr => ?_⟩
  · show RL n _ _ _ (rng _)
    rw [hlen, ← rng_ext hgl (fun j hj => by rw [hg j hj, if_neg (by omega)])]
    exact hr
  · have hki : ((ks.set i kl).take (ks.length - 1))[i]? = some kl := by rw [swap_get (by omega), if_pos rfl]
    obtain ⟨w, hw, p, e, he, heu, hek, hen⟩ := hr.mem i kl hki
    subst hek
    obtain ⟨hp, ht2⟩ := put_over hr.toTT he heu hkr (i : Int)
    refine ⟨_, hp, ?_⟩
    have h3 := hr.over hki he heu ht2
    show RL n _ _ _ (rng _)
    rw [hlen, ← rng_ext (xs := (((rng ks.length).set i ((ks.length - 1 : Nat) : Int)).take ((rng ks.length).length - 1)).set i (i : Int)) (by rw [List.length_set, hgl]) (fun j hj => by
      by_cases hji : j = i
      · subst hji; rw [List.getElem?_set_self (by rw [hgl]; exact hj)]
      · rw [List.getElem?_set_ne (fun e => hji e.symm), hg j hj, if_neg hji])]
    exact h3
structure CI (n : Nat) (c : Ca) : Prop where
  mp : MP n c.Xf (c.Xh.map (·.Xo))
  rk : ∀ r ∈ c.Xh, RK r.Xo
  b0 : 1 ≤ c.Xb.Xz
  b1 : c.Xb.Xz ≤ 4096
  le : (c.Xh.length : Int) ≤ c.Xb.Xz
  ln : c.Xb.Xz < n
theorem CI.small {n : Nat} {c : Ca} (h : CI n c) : c.Xh.length ≤ 4096 := by have := h.le; have := h.b1; omega
theorem CI.one {n : Nat} {c : Ca} (h : CI n c) {i j : Nat} {x y : Rc} (hi : c.Xh[i]? = some x) (hj : c.Xh[j]? = some y) (hk : x.Xo = y.Xo) : i = j :=
  h.mp.one i j x.Xo (by simp [hi]) (by simp [hj, hk])
theorem CI.dist {n : Nat} {c : Ca} (h : CI n c) : c.Xh.Pairwise (fun x y => x.Xo ≠ y.Xo) := by
  rw [List.pairwise_iff_getElem]
  intro i j hi hj hij hk
  have := h.one (List.getElem?_eq_getElem hi) (List.getElem?_eq_getElem hj) hk
  omega
def rs (r : Rc) (z : Int) : Rc := ⟨r.Xo, r.Xk, r.Xr, r.X4, r.Ya, r.XO, z, r.XU⟩
theorem set_perm {r l : Rc} : ∀ (ys : List Rc) (i : Nat), ys[i]? = some r → (l :: ys).Perm (r :: ys.set i l)
  | [], i, h => by simp at h
  | a :: ys, 0, h => by simp at h; subst h; exact .swap _ _ _
  | a :: ys, i + 1, h => by
    simp at h
    exact (List.Perm.swap _ _ _).trans (((set_perm ys i h).cons a).trans (.swap _ _ _))
theorem swp_perm {xs : List Rc} {i : Nat} {r l : Rc} (hi : xs[i]? = some r) (hl : xs[xs.length - 1]? = some l) : xs.Perm (r :: (xs.set i l).take (xs.length - 1)) := by
  have hil := (List.getElem?_eq_some_iff.1 hi).1
  have e : xs = xs.take (xs.length - 1) ++ [l] := by
    have h2 := List.take_append_drop (xs.length - 1) xs
    have h3 : xs.drop (xs.length - 1) = [l] := by
      rw [List.drop_eq_getElem_cons (by omega), (List.getElem?_eq_some_iff.1 hl).2, List.drop_of_length_le (by omega)]
    rw [h3] at h2; exact h2.symm
  by_cases h : i = xs.length - 1
  · have : r = l := by rw [h, hl] at hi; injection hi with hi; exact hi.symm
    subst this
    have h4 : (xs.set i r).take (xs.length - 1) = xs.take (xs.length - 1) := by
      rw [List.take_set_of_le (by omega)]
    rw [h4]
    exact (List.Perm.of_eq e).trans (List.perm_append_comm (l₂ := [r]))
  · have h5 : (xs.set i l).take (xs.length - 1) = (xs.take (xs.length - 1)).set i l := by rw [List.take_set]
    rw [h5]
    refine ((List.Perm.of_eq e).trans (List.perm_append_comm (l₂ := [l]))).trans (set_perm _ _ ?_)
    show (xs.take (xs.length - 1))[i]? = some r
    rw [List.getElem?_take_of_lt (by omega)]; exact hi
theorem end_spec {n : Nat} {c : Ca} (h : CI n c) {i : Nat} {r : Rc} (hi : c.Xh[i]? = some r) (z : Int) :
    ∃ c', Ys c r.Xo z = some (rs r z, c') ∧ CI n c' ∧ c'.XB = c.XB ∧ c'.Xb = c.Xb ∧ c.Xh.Perm (r :: c'.Xh) := by
  have hil := (List.getElem?_eq_some_iff.1 hi).1
  have hsm := h.small
  have hlt : c.Xh.length - 1 < c.Xh.length := by omega
  obtain ⟨l, hl⟩ : ∃ l, c.Xh[c.Xh.length - 1]? = some l := ⟨_, List.getElem?_eq_getElem hlt⟩
  have hkl : (c.Xh.map (·.Xo)).length = c.Xh.length := by simp
  obtain ⟨T1, hd, d1, d2⟩ := mp_del h.mp (i := i) (k := r.Xo) (kl := l.Xo) (by simp [hi]) (by rw [hkl]; simp [hl])
  rw [hkl] at d1 d2
  have hms : ∀ (xs : List Rc), ((xs.map (·.Xo)).set i l.Xo).take (xs.length - 1) = ((xs.set i l).take (xs.length - 1)).map (·.Xo) := fun xs => by rw [List.map_take, List.map_set]
  have hw1 : IntKind.i64.wrap ((c.Xh.length : Int) - 1) = ((c.Xh.length - 1 : Nat) : Int) := by rw [wi64 (by omega) (by omega)]; omega
  have hcut : ∀ xs : List Rc, xs.length = c.Xh.length → gcut xs 0 ((c.Xh.length - 1 : Nat) : Int) = some (xs.take (c.Xh.length - 1)) := fun xs hx => by
    rw [gcut_in (Int.le_refl _) (by omega) (by omega)]; simp
  have hp := swp_perm hi hl
  have hpl := hp.length_eq
  simp only [List.length_cons] at hpl
  have fin : ∀ T2, MP n T2 (((c.Xh.set i l).take (c.Xh.length - 1)).map (·.Xo)) → CI n ⟨c.XB, c.Xb, T2, (c.Xh.set i l).take (c.Xh.length - 1)⟩ := fun T2 hm =>
    ⟨hm, fun x hx => h.rk x (hp.mem_iff.2 (List.mem_cons_of_mem _ hx)), h.b0, h.b1, by have := h.le; show (((c.Xh.set i l).take (c.Xh.length - 1)).length : Int) ≤ c.Xb.Xz; omega, h.ln⟩
  unfold Ys
  rw [mp_get h.mp (i := i) (by simp [hi]), Option.bind_some, gidx_nat hi, Option.bind_some, hd, Option.bind_some, hw1, gidx_nat hl, Option.bind_some, wu64i (by omega) (by omega)]
  by_cases he : i = c.Xh.length - 1
  · rw [if_neg (by simp [he])]
    unfold Jq
    rw [hw1, hcut _ rfl, Option.bind_some]
    have hset : (c.Xh.set i l).take (c.Xh.length - 1) = c.Xh.take (c.Xh.length - 1) := List.take_set_of_le (by omega)
    have h2 := fin T1 (by rw [← hms]; exact d1 he)
    rw [hset] at h2 hp
    exact ⟨_, rfl, h2, rfl, rfl, hp⟩
  · rw [if_pos (by simp; omega), Option.bind_some]
    dsimp only
    obtain ⟨T2, hp2, hm2⟩ := d2 he (h.rk l (List.mem_of_getElem? hl)).right
    rw [hp2, Option.bind_some]
    unfold Jq
    rw [hw1, Int.toNat_natCast, hcut _ (by simp), Option.bind_some]
    exact ⟨_, rfl, fin T2 (by rw [← hms]; exact hm2), rfl, rfl, hp⟩
end Go.Proofs.YtkpnocgfhipidaaGreat
