/- Plain text: CacheKeeps. -/
import Derived.Test.YtkpnocgfhipidaaGreatGP
set_option linter.unusedVariables false
namespace Go.Proofs.YtkpnocgfhipidaaGreat
open Go Go.Ox Go.Ox.Ring
theorem pl_le {a b : Int} (ha : 0 ≤ a) (hb : 0 ≤ b) : pl a b ≤ a + b := by
  unfold pl hi64 lo64
  split <;> omega
theorem pl_add {a b : Int} (ha : 0 ≤ a) (hb : 0 ≤ b) (h : a + b < 18446744073709551616) : pl a b = a + b := by
  unfold pl hi64 lo64
  rw [if_neg (by omega)]; omega
theorem gmin_le (a b : Int) : gmin a b ≤ a ∧ gmin a b ≤ b := by unfold gmin; split <;> omega
structure FV (tk : Int) (r : Rc) : Prop where
  p1 : 1 ≤ r.Xk
  b0 : 0 ≤ r.Xr
  f0 : 0 ≤ r.X4
  fl : r.X4 ≤ r.Ya
  lt : r.Ya ≤ tk
theorem FV.mono {tk tk2 : Int} {r : Rc} (h : FV tk r) (h2 : tk ≤ tk2) : FV tk2 r := ⟨h.p1, h.b0, h.f0, h.fl, by have := h.lt; omega⟩
theorem FV.rt {tk : Int} {r : Rc} (h : FV tk r) (rk : RK r.Xo) {z : Int} (hz : 1 ≤ z ∧ z ≤ 5) : RT (rs r z) := ⟨rk, h.p1, h.b0, h.fl, hz⟩
theorem rsn_ok (b : Bd) (r : Rc) : 1 ≤ rsn b r ∧ rsn b r ≤ 5 := by unfold rsn; split <;> omega
abbrev Msr (m : Rc → Int) : Prop := ∀ r z, m (rs r z) = m r
theorem msr_p : Msr rp := fun _ _ => rfl
theorem msr_b : Msr rb := fun _ _ => rfl
theorem adv_num {m : Rc → Int} (hm : Msr m) (b : Bd) (T : Int) (xs : List Rc) (k : Xe) : sR m (adv b T xs) k + sR m (xs.filter (fun r => !dueB b T r)) k = sR m xs k := by
  have h1 : sR m (adv b T xs) k = sR m (xs.filter (dueB b T)) k := by
    unfold adv
    have e : sR m ((st (du b) (xs.filter (dueB b T))).map (fun r => rs r (rsn b r))) k = sR m (st (du b) (xs.filter (dueB b T))) k := sR_map (g := fun r => rs r (rsn b r)) (fun _ => rfl) (fun r => hm r _) k _
    rw [e]
    exact sR_perm (st_perm _ _) k
  have h2 := sR_perm (m := m) (filter_split (dueB b T) xs) k
  rw [sR_app] at h2
  omega
theorem adv_mem {b : Bd} {T : Int} {xs : List Rc} {r : Rc} (h : r ∈ adv b T xs) : ∃ q ∈ xs, r = rs q (rsn b q) := by
  obtain ⟨q, hq, rfl⟩ := List.mem_map.1 h
  exact ⟨q, (List.mem_filter.1 ((st_perm _ _).mem_iff.1 hq)).1, rfl⟩
theorem acc_num {m : Rc → Int} (hm : Msr m) {b : Bd} {tk cl : Int} {p : XC} {xs O ys : List Rc} {δ : Int} (h : Acc b tk p cl xs O ys) (h0 : m (stt p.Xo cl tk) = 0) (hw : ∀ r0, (r0 ∈ xs ∨ r0 = stt p.Xo cl tk) → m (wth r0 p tk) = m r0 + δ) (k : Xe) :
    sR m O k + sR m ys k = sR m xs k + one p.Xo k δ := by
  obtain ⟨B, C, r0, rest, rfl, hmet, hor⟩ := h
  have hk : r0.Xo = p.Xo := by
    rcases hor with ⟨_, h, _⟩ | ⟨_, h, _⟩
    · exact h
    · rw [h]; rfl
  have hr0 : r0 ∈ xs ∨ r0 = stt p.Xo cl tk := by
    rcases hor with ⟨_, _, h⟩ | ⟨_, h, _⟩
    · exact .inl (h.mem_iff.2 List.mem_cons_self)
    · exact .inr h
  have hwk : (wth r0 p tk).Xo = p.Xo := hk
  have hwv := hw r0 hr0
  have c1 : sR m C k + sR m ys k = one p.Xo k (m r0 + δ) + sR m rest k := by
    rcases hmet with ⟨_, rfl, h⟩ | ⟨_, _, rfl, h⟩ | ⟨_, _, rfl, h⟩
    · rw [sR_perm h]; simp only [sR, hm, hwv]; show one (wth r0 p tk).Xo k _ + 0 + _ = _; rw [hwk]; omega
    · rw [sR_perm h]; simp only [sR, hm, hwv]; show one (wth r0 p tk).Xo k _ + 0 + _ = _; rw [hwk]; omega
    · rw [sR_perm h]; simp only [sR, hwv, hwk]; omega
  have c2 : sR m B k + one p.Xo k (m r0) + sR m rest k = sR m xs k := by
    rcases hor with ⟨rfl, _, h⟩ | ⟨_, h, hb⟩
    · rw [sR_perm h]; simp only [sR, hk]; omega
    · have e0 : one p.Xo k (m r0) = 0 := by rw [h, h0]; unfold one; split <;> rfl
      rcases hb with ⟨_, rfl, rfl⟩ | ⟨_, q, hq, _, rfl, h2⟩
      · rw [e0]; simp only [sR]; omega
      · rw [sR_perm h2, e0]; simp only [sR, hm]; show one q.Xo k _ + 0 + 0 + _ = _; omega
  rw [sR_app]
  rw [one_add] at c1
  omega
theorem len_ok {p : XC} (hl : p.Yk < 100000) : (0 ≤ gmax 0 p.Yk ∧ gmax 0 p.Yk < 100000) ∧ IntKind.u64.wrap (gmax 0 p.Yk) = gmax 0 p.Yk := by
  have h : 0 ≤ gmax 0 p.Yk ∧ gmax 0 p.Yk < 100000 := by unfold gmax; split <;> omega
  exact ⟨h, wu64i (by omega) (by omega)⟩
theorem gmax_r (a b : Int) : b ≤ gmax a b ∧ a ≤ gmax a b := by unfold gmax; split <;> omega
theorem acc_ok {b : Bd} {tk cl : Int} {p : XC} {xs O ys : List Rc} (h : Acc b tk p cl xs O ys) (rk : RK p.Xo) (hx : ∀ r ∈ xs, RK r.Xo ∧ FV tk r ∧ r.Xk ≤ 1000 ∧ r.Xr ≤ 1000000000) (ht : 0 ≤ tk) (hl : p.Yk < 100000) :
    (∀ r ∈ O, RT r) ∧ (∀ r ∈ ys, FV tk r) ∧ O.length ≤ 2 := by
  obtain ⟨B, C, r0, rest, rfl, hmet, hor⟩ := h
  obtain ⟨hg, hL⟩ := len_ok hl
  have hrest : ∀ r ∈ rest, r ∈ xs := fun r hr => by
    rcases hor with ⟨_, _, h⟩ | ⟨_, _, ⟨_, _, rfl⟩ | ⟨_, q, _, _, _, h⟩⟩
    · exact h.mem_iff.2 (List.mem_cons_of_mem _ hr)
    · exact hr
    · exact h.mem_iff.2 (List.mem_cons_of_mem _ hr)
  have hw : RK (wth r0 p tk).Xo ∧ FV tk (wth r0 p tk) := by
    have body : RK r0.Xo → 0 ≤ r0.Xk → r0.Xk ≤ 1000 → 0 ≤ r0.Xr → r0.Xr ≤ 1000000000 → 0 ≤ r0.X4 → r0.X4 ≤ r0.Ya → r0.Ya ≤ tk → RK (wth r0 p tk).Xo ∧ FV tk (wth r0 p tk) := fun a1 a2 a3 a4 a5 a6 a7 a8 => by
      refine ⟨a1, ?_, ?_, a6, ?_, ?_⟩
      · show 1 ≤ pl r0.Xk 1
        rw [pl_add a2 (by omega) (by omega)]; omega
      · show 0 ≤ pl r0.Xr (IntKind.u64.wrap (gmax 0 p.Yk))
        rw [hL, pl_add a4 hg.1 (by omega)]; omega
      · show r0.X4 ≤ gmax r0.Ya tk
        have := (gmax_r r0.Ya tk).2; omega
      · show gmax r0.Ya tk ≤ tk
        unfold gmax; split <;> omega
    rcases hor with ⟨_, _, h⟩ | ⟨_, h, _⟩
    · obtain ⟨a1, a2, a3, a4⟩ := hx r0 (h.mem_iff.2 List.mem_cons_self)
      exact body a1 (by have := a2.p1; omega) a3 a2.b0 a4 a2.f0 a2.fl a2.lt
    · subst h
      exact body rk (Int.le_refl _) (by show (0 : Int) ≤ 1000; omega) (Int.le_refl _) (by show (0 : Int) ≤ 1000000000; omega) ht (Int.le_refl _) (Int.le_refl _)
  refine ⟨fun r hr => ?_, fun r hr => ?_, ?_⟩
  · rcases List.mem_append.1 hr with hr | hr
    · rcases hor with ⟨rfl, _, _⟩ | ⟨_, _, ⟨_, rfl, _⟩ | ⟨_, q, hq, _, rfl, _⟩⟩
      · cases hr
      · cases hr
      · rw [List.mem_singleton.1 hr]
        obtain ⟨a1, a2, _⟩ := hx q hq
        exact a2.rt a1 (by omega)
    · rcases hmet with ⟨_, rfl, _⟩ | ⟨_, _, rfl, _⟩ | ⟨_, _, rfl, _⟩
      · rw [List.mem_singleton.1 hr]; exact hw.2.rt hw.1 (by omega)
      · rw [List.mem_singleton.1 hr]; exact hw.2.rt hw.1 (by omega)
      · cases hr
  · rcases hmet with ⟨_, _, h⟩ | ⟨_, _, _, h⟩ | ⟨_, _, _, h⟩
    · exact (hx r (hrest r (h.mem_iff.1 hr))).2.1
    · exact (hx r (hrest r (h.mem_iff.1 hr))).2.1
    · rcases List.mem_cons.1 (h.mem_iff.1 hr) with hr | hr
      · rw [hr]; exact hw.2
      · exact (hx r (hrest r hr)).2.1
  · have h1 : B.length ≤ 1 := by
      rcases hor with ⟨rfl, _, _⟩ | ⟨_, _, ⟨_, rfl, _⟩ | ⟨_, q, hq, _, rfl, _⟩⟩ <;> simp
    have h2 : C.length ≤ 1 := by
      rcases hmet with ⟨_, rfl, _⟩ | ⟨_, _, rfl, _⟩ | ⟨_, _, rfl, _⟩ <;> simp
    rw [List.length_append]; omega
theorem young_L {c : Ca} {b : Bd} {y : Int × Bool × Ca} {X : List Rc} (hX : X.length ≤ 5000) (h : ∀ r ∈ X, FV c.XB r ∧ c.XB < r.X4 + b.XA ∧ c.XB < r.Ya + b.XI) (ht : c.XB < 18446744073709551616) : ∀ (f i : Nat), i ≤ X.length → X.length < f + i →
    J9 b (X, c) f (i : Int) = some (true, c)
  | 0, i, h1, h2 => by omega
  | f + 1, i, h1, h2 => by
    show K9 (J9 b (X, c) f) b (X, c) (i : Int) = _
    unfold K9
    dsimp only
    by_cases hl : i = X.length
    · rw [if_neg (dF (by omega))]
    · obtain ⟨r, hr⟩ : ∃ r, X[i]? = some r := ⟨_, List.getElem?_eq_getElem (by omega)⟩
      obtain ⟨v, a1, a2⟩ := h r (List.mem_of_getElem? hr)
      have := v.f0; have := v.fl; have := v.lt
      unfold YL K7
      rw [if_pos (dT (by omega)), gidx_nat hr, Option.bind_some, Option.bind_some, Option.bind_some, Option.bind_some]
      dsimp only
      rw [wu64i (n := c.XB - r.X4) (by omega) (by omega), if_neg (dF (by omega)), wu64i (n := c.XB - r.Ya) (by omega) (by omega), if_neg (dF (by omega)), nx4 (by omega)]
      exact young_L (y := y) hX h ht f (i + 1) (by omega) (by omega)
theorem young_spec {n : Nat} {c : Ca} (hc : CI n c) (hfv : ∀ r ∈ c.Xh, FV c.XB r) (hd : ∀ r ∈ c.Xh, c.XB < du c.Xb r) (hA : 0 ≤ c.Xb.XA) (hI : 0 ≤ c.Xb.XI) (ht : c.XB < 18446744073709551616) : UY c c.Xb = some (true, c) := by
  obtain ⟨m, ok, e, hn⟩ := next_spec hc.small
  have hal : (al c.Xh).length ≤ 5000 := by have := (st_perm (fun _ => 0) c.Xh).length_eq; have := hc.small; show (st _ _).length ≤ _; omega
  have L := young_L (b := c.Xb) (y := (0, false, c)) hal (fun r hr => by
    have hm : r ∈ c.Xh := (st_perm _ _).mem_iff.1 hr
    have v := hfv r hm
    have h1 := hd r hm
    have h2 := gmin_le (idl c.Xb r) (pl r.X4 c.Xb.XA)
    have h3 := pl_le v.f0 hA
    have h4 : idl c.Xb r ≤ r.Ya + c.Xb.XI := pl_le (by have := v.f0; have := v.fl; omega) hI
    unfold du at h1
    exact ⟨v, by omega, by omega⟩) ht fuel0 0 (by omega) (by unfold fuel0; omega)
  have fin : Ku c.Xb (m, ok, c) false = some (true, c) := by
    unfold Ku
    rw [if_neg (by decide), all_eq hc.small, Option.bind_some]
    exact L
  unfold UY
  rw [e, Option.bind_some]
  rcases hn with ⟨_, e2, _⟩ | ⟨e2, ⟨r, hr, e3⟩, _⟩
  · rw [e2]; rw [e2] at fin
    rw [if_neg (by simp)]; exact fin
  · rw [e2]; rw [e2] at fin
    unfold YL
    have := hd r hr
    rw [if_pos rfl, Option.bind_some, decide_eq_false (by show ¬ m ≤ c.XB; omega)]
    exact fin
structure KI (n : Nat) (b : Bd) (i : Nat) (c : Ca) (inn out : List Sm) : Prop where
  ci : CI n c
  bb : c.Xb = b
  t0 : 0 ≤ c.XB
  t1 : c.XB < 18446744073709551616
  fv : ∀ r ∈ c.Xh, FV c.XB r
  gi : GS inn
  go : GS out
  li : inn.length ≤ i
  lo : out.length ≤ 5000 * i
  ep : ∀ k, sS sp inn k = sS sp out k + sR rp c.Xh k
  eb : ∀ k, sS sb inn k = sS sb out k + sR rb c.Xh k
  mp : ∀ k, sS sp inn k ≤ i
  mb : ∀ k, sS sb inn k ≤ 100000 * i
theorem fv_rp {tk : Int} {xs : List Rc} (h : ∀ r ∈ xs, FV tk r) (k : Xe) : 0 ≤ sR rp xs k := sR_nn fun r hr => by have := (h r hr).p1; show 0 ≤ r.Xk; omega
theorem fv_rb {tk : Int} {xs : List Rc} (h : ∀ r ∈ xs, FV tk r) (k : Xe) : 0 ≤ sR rb xs k := sR_nn fun r hr => (h r hr).b0
theorem KI.sm {n : Nat} {b : Bd} {i : Nat} {c : Ca} {inn out : List Sm} (h : KI n b i c inn out) (hi : i ≤ 80) : ∀ r ∈ c.Xh, RK r.Xo ∧ FV c.XB r ∧ r.Xk ≤ 1000 ∧ r.Xr ≤ 1000000000 := fun r hr => by
  have h1 := sR_ge (m := rp) (fun r hr => by have := (h.fv r hr).p1; show 0 ≤ r.Xk; omega) hr
  have h2 := sR_ge (m := rb) (fun r hr => (h.fv r hr).b0) hr
  have h3 := h.ep r.Xo; have h4 := h.eb r.Xo; have h5 := h.mp r.Xo; have h6 := h.mb r.Xo
  have h7 := sS_nn (m := sp) (k := r.Xo) h.go.p0
  have h8 := sS_nn (m := sb) (k := r.Xo) h.go.b0
  simp only [rp, rb] at h1 h2
  exact ⟨h.ci.rk r hr, h.fv r hr, by omega, by omega⟩
abbrev RecT := Int → Int → Int → Int → Int → Int → List Xm → Int → List Xc → List XD → List XD → Int → Option Bool
def rc_ (rec : RecT) (c : Ca) (inn out : List Sm) (i : Int) : Option Bool := rec c.XB c.Xb.Xz c.Xb.XI c.Xb.XA c.Xb.Xk c.Xb.Xr c.Xf.Xp c.Xf.XG c.Xh inn out i
theorem j4_eq {n : Nat} {b : Bd} {i : Nat} (hi : i < 80) {c : Ca} {inn out : List Sm} {done : List Rc} (rec : RecT) (ci : CI n c) (bb : c.Xb = b) (t0 : 0 ≤ c.XB) (t1 : c.XB < 18446744073709551616) (fv : ∀ r ∈ c.Xh, FV c.XB r) (gi : GS inn) (go : GS out) (li : inn.length ≤ i + 1) (lo : out.length ≤ 5000 * i)
    (hd : done.length ≤ 5000) (hr : ∀ r ∈ done, RT r) (ep : ∀ k, sS sp inn k = sS sp out k + sR rp done k + sR rp c.Xh k) (eb : ∀ k, sS sb inn k = sS sb out k + sR rb done k + sR rb c.Xh k) (mp : ∀ k, sS sp inn k ≤ (i + 1 : Nat)) (mb : ∀ k, sS sb inn k ≤ 100000 * (i + 1 : Nat)) :
    ∃ out', Zv b out (i : Int) rec c.XB c.Xb.Xz c.Xb.XI c.Xb.XA c.Xb.Xk c.Xb.Xr c.Xf.Xp c.Xf.XG c.Xh inn done = rc_ rec c inn out' ((i + 1 : Nat) : Int) ∧ KI n b (i + 1) c inn out' := by
  obtain ⟨out', e, g, hl, s1, s2⟩ := ended_spec (done := done) (out := out) (by omega) hr go (by omega) (fun k hk => by have := ep k; have := mp k; have := fv_rp fv k; omega) (fun k hk => by have := eb k; have := mb k; have := fv_rb fv k; omega)
  refine ⟨out', ?_, ci, bb, t0, t1, fv, gi, g, li, by omega, fun k => by rw [s1]; exact ep k, fun k => by rw [s2]; exact eb k, mp, mb⟩
  unfold Zv
  rw [e, Option.bind_some, if_neg (by simp)]
  show (YI c).bind _ = _
  rw [all_eq ci.small, Option.bind_some]
  unfold JH ZR
  have hle : ¬ b.Xz < ((al c.Xh).length : Int) := by
    have h1 := (st_perm (fun _ => 0) c.Xh).length_eq
    have h2 := ci.le
    rw [bb] at h2
    show ¬ b.Xz < ((st (fun _ => 0) c.Xh).length : Int)
    omega
  rw [if_neg (dF hle), nx4 (by omega)]
  rfl
theorem keeps_end {n : Nat} {b : Bd} {i : Nat} (hi : i ≤ 80) {c : Ca} {inn out : List Sm} (h : KI n b i c inn out) : ((YI c).bind fun y904 => Y0 inn y904 fuel0 out 0) = some true := by
  rw [all_eq h.ci.small, Option.bind_some]
  have hp := st_perm (fun _ => 0) c.Xh
  have hal : (al c.Xh).length ≤ 4096 := by have := hp.length_eq; have := h.ci.small; show (st _ _).length ≤ _; omega
  have hlo := h.lo
  obtain ⟨out', e, g, hl, s1, s2⟩ := sums_gen (done := al c.Xh) (by omega) (G := fun f out i => Y0 inn (al c.Xh, c) f out i) (E := fun o => (UL inn o).bind fun y998 => if y998 = true then (UL o inn).bind fun y1002 => if y1002 = true then (Yw).bind fun y1006 => Y6 y1006 else Y6 false else Y6 false)
    (fun f out i r l' hri he => by
      show Zs (Y0 inn (al c.Xh, c) f) inn (al c.Xh, c) out (i : Int) = _
      have hlt := (List.getElem?_eq_some_iff.1 hri).1
      unfold Zs
      dsimp only
      rw [if_pos (dT (by omega)), gidx_nat hri, Option.bind_some, Option.bind_some]
      unfold Zp
      rw [Option.bind_some, he, Option.bind_some, nx4 (by omega)])
    (fun f out => by
      show Zs (Y0 inn (al c.Xh, c) f) inn (al c.Xh, c) out ((al c.Xh).length : Int) = _
      unfold Zs
      dsimp only
      rw [if_neg (dF (by omega))])
    (fun r hr => by
      have hm : r ∈ c.Xh := hp.mem_iff.1 hr
      exact ⟨(h.ci.rk r hm).toWK, (h.fv r hm).p1, (h.fv r hm).b0⟩) fuel0 0 out (by omega) (by unfold fuel0; omega) h.go (by omega)
    (fun k hk => by have h1 := h.ep k; have h2 := h.mp k; have h3 := sR_perm (m := rp) hp k; show sS sp out k + sR rp (st (fun _ => 0) c.Xh) k < _; omega)
    (fun k hk => by have h1 := h.eb k; have h2 := h.mb k; have h3 := sR_perm (m := rb) hp k; show sS sb out k + sR rb (st (fun _ => 0) c.Xh) k < _; omega)
  have q1 : ∀ k, sS sp inn k = sS sp out' k := fun k => by
    have h1 := h.ep k; have h2 := s1 k; have h3 := sR_perm (m := rp) hp k
    rw [List.drop_zero] at h2
    have h4 : sR rp (al c.Xh) k = sR rp c.Xh k := h3
    omega
  have q2 : ∀ k, sS sb inn k = sS sb out' k := fun k => by
    have h1 := h.eb k; have h2 := s2 k; have h3 := sR_perm (m := rb) hp k
    rw [List.drop_zero] at h2
    have h4 : sR rb (al c.Xh) k = sR rb c.Xh k := h3
    omega
  refine e.trans ?_
  have hli := h.li
  rw [same_spec (by omega) (by omega) (same_of h.gi g (fun k _ => q1 k) (fun k _ => q2 k)), Option.bind_some, if_pos rfl, same_spec (by omega) (by omega) (same_of g h.gi (fun k _ => (q1 k).symm) (fun k _ => (q2 k).symm)), Option.bind_some, if_pos rfl, works_eq]
  rfl
theorem tmod_rng (a : Int) : Int.tmod a 100000 < 100000 := by
  have := Int.tmod_lt_of_pos a (b := 100000) (by omega)
  omega
theorem acc_all {n : Nat} {b : Bd} {i : Nat} (hi : i ≤ 80) {c : Ca} {inn out : List Sm} (h : KI n b i c inn out) {p : XC} (rk : RK p.Xo) (hl : p.Yk < 100000) (cl : Int) {T : Int} (hT : 0 ≤ T ∧ T < 18446744073709551616) :
    ∃ done c', XQ c p cl T = some (done, 0, c') ∧ CI n c' ∧ c'.Xb = b ∧ 0 ≤ c'.XB ∧ c'.XB < 18446744073709551616 ∧ (∀ r ∈ done, RT r) ∧ done.length ≤ 5000 ∧ (∀ r ∈ c'.Xh, FV c'.XB r) ∧
      (∀ k, sR rp done k + sR rp c'.Xh k = sR rp c.Xh k + one p.Xo k 1) ∧ (∀ k, sR rb done k + sR rb c'.Xh k = sR rb c.Xh k + one p.Xo k (gmax 0 p.Yk)) := by
  have hsm := h.sm hi
  obtain ⟨hg, hL⟩ := len_ok hl
  have ht0 := h.t0
  have ht1 := h.t1
  have wp : ∀ (xs : List Rc) (tk : Int), (∀ r ∈ xs, r.Xk ≤ 1000 ∧ 0 ≤ r.Xk) → ∀ r0, (r0 ∈ xs ∨ r0 = stt p.Xo cl tk) → rp (wth r0 p tk) = rp r0 + 1 := fun xs tk hx r0 hr => by
    show pl r0.Xk 1 = r0.Xk + 1
    rcases hr with hr | hr
    · have := hx r0 hr
      exact pl_add (by omega) (by omega) (by omega)
    · subst hr; exact pl_add (Int.le_refl _) (by omega) (by show (0 : Int) + 1 < _; omega)
  have wb : ∀ (xs : List Rc) (tk : Int), (∀ r ∈ xs, r.Xr ≤ 1000000000 ∧ 0 ≤ r.Xr) → ∀ r0, (r0 ∈ xs ∨ r0 = stt p.Xo cl tk) → rb (wth r0 p tk) = rb r0 + gmax 0 p.Yk := fun xs tk hx r0 hr => by
    show pl r0.Xr (IntKind.u64.wrap (gmax 0 p.Yk)) = r0.Xr + gmax 0 p.Yk
    rw [hL]
    rcases hr with hr | hr
    · have := hx r0 hr
      exact pl_add (by omega) (by omega) (by omega)
    · subst hr; exact pl_add (Int.le_refl _) (by omega) (by show (0 : Int) + _ < _; omega)
  by_cases ho : T < c.XB
  · obtain ⟨O, c', e, a1, a2, a3, a4⟩ := acc_old h.ci rk cl ho
    obtain ⟨b1, b2, b3⟩ := acc_ok a4 rk hsm h.t0 hl
    refine ⟨O, c', e, a1, a3.trans h.bb, by omega, by omega, b1, by omega, fun r hr => by rw [a2]; exact b2 r hr, fun k => ?_, fun k => ?_⟩
    · exact acc_num msr_p a4 rfl (wp _ _ fun r hr => by obtain ⟨_, v, h1, _⟩ := hsm r hr; have := v.p1; omega) k
    · exact acc_num msr_b a4 rfl (wb _ _ fun r hr => by obtain ⟨_, v, _, h1⟩ := hsm r hr; have := v.b0; omega) k
  · obtain ⟨c1, O, c', e1, hc1, hp1, e, a1, a2, a3, a4⟩ := acc_spec h.ci rk cl (tick := T) (by omega)
    have hx : ∀ r ∈ c1.Xh, RK r.Xo ∧ FV T r ∧ r.Xk ≤ 1000 ∧ r.Xr ≤ 1000000000 := fun r hr => by
      obtain ⟨q1, q2, q3⟩ := hsm r (List.mem_filter.1 (hp1.mem_iff.1 hr)).1
      exact ⟨q1, q2.mono (by omega), q3⟩
    obtain ⟨b1, b2, b3⟩ := acc_ok a4 rk hx hT.1 hl
    have hal := adv_len (b := c.Xb) (tick := T) (xs := c.Xh)
    have hcs := h.ci.small
    refine ⟨_, c', e, a1, a3.trans h.bb, by omega, by omega, fun r hr => ?_, by rw [List.length_append]; omega, fun r hr => by rw [a2]; exact b2 r hr, fun k => ?_, fun k => ?_⟩
    · rcases List.mem_append.1 hr with hr | hr
      · obtain ⟨q, hq, rfl⟩ := adv_mem hr
        exact (h.fv q hq).rt (h.ci.rk q hq) (rsn_ok _ _)
      · exact b1 r hr
    · have h1 := acc_num msr_p a4 rfl (wp _ _ fun r hr => by obtain ⟨_, v, h1, _⟩ := hx r hr; have := v.p1; omega) k
      have h3 := sR_perm (m := rp) hp1 k
      have h2 : sR rp (adv c.Xb T c.Xh) k + sR rp c1.Xh k = sR rp c.Xh k := by rw [h3]; exact adv_num msr_p c.Xb T c.Xh k
      rw [sR_app]; omega
    · have h1 := acc_num msr_b a4 rfl (wb _ _ fun r hr => by obtain ⟨_, v, _, h1⟩ := hx r hr; have := v.b0; omega) k
      have h3 := sR_perm (m := rb) hp1 k
      have h2 : sR rb (adv c.Xb T c.Xh) k + sR rb c1.Xh k = sR rb c.Xh k := by rw [h3]; exact adv_num msr_b c.Xb T c.Xh k
      rw [sR_app]; omega
theorem keeps_step {n : Nat} {b : Bd} (hA : 0 ≤ b.XA) (hI : 0 ≤ b.XI) {i : Nat} (hi : i < 80) {c : Ca} {inn out : List Sm} (h : KI n b i c inn out) (rec : RecT) {x : XF} (pw : PW x.XH) (htk : 0 ≤ x.XK ∧ x.XK < 18446744073709551616) (t : Bool) :
    ∃ c' inn' out', Zx b c.XB c.Xb.Xz c.Xb.XI c.Xb.XA c.Xb.Xk c.Xb.Xr c.Xf.Xp c.Xf.XG c.Xh inn out (i : Int) rec x t = rc_ rec c' inn' out' ((i + 1 : Nat) : Int) ∧ KI n b (i + 1) c' inn' out' := by
  have hsm := h.sm (by omega)
  have hbb := h.bb
  have mono : KI n b (i + 1) c inn out := ⟨h.ci, h.bb, h.t0, h.t1, h.fv, h.gi, h.go, by have := h.li; omega, by have := h.lo; omega, h.ep, h.eb, fun k => by have := h.mp k; omega, fun k => by have := h.mb k; omega⟩
  unfold Zx
  cases t with
  | true =>
    rw [if_pos rfl]
    unfold YL
    rw [Option.bind_some]
    show ∃ c' inn' out', (X5 c x.XK).bind _ = _ ∧ _
    by_cases ho : x.XK < c.XB
    · rw [advance_old ho, Option.bind_some, if_neg (dF (by show ¬ c.XB ≤ x.XK; omega))]
      unfold Z3
      rw [if_neg (by decide)]
      obtain ⟨out', e, k⟩ := j4_eq hi (done := []) rec h.ci h.bb h.t0 h.t1 h.fv h.gi h.go (by have := h.li; omega) h.lo (by simp) (fun r hr => by cases hr) (fun k => by have := h.ep k; simp only [sR]; omega) (fun k => by have := h.eb k; simp only [sR]; omega) (fun k => by have := h.mp k; omega) (fun k => by have := h.mb k; omega)
      exact ⟨c, inn, out', e, k⟩
    · obtain ⟨c1, e1, hc1, ht1, hb1, hp1⟩ := advance_spec h.ci (tick := x.XK) (by omega)
      have fv1 : ∀ r ∈ c1.Xh, FV c1.XB r := fun r hr => (h.fv r (List.mem_filter.1 (hp1.mem_iff.1 hr)).1).mono (by rw [ht1]; omega)
      rw [← hb1] at hp1 e1
      have dd : ∀ r ∈ c1.Xh, c1.XB < du c1.Xb r := fun r hr => by
        have h2 := (List.mem_filter.1 (hp1.mem_iff.1 hr)).2
        have h3 : ¬ du c1.Xb r ≤ x.XK := by simpa [dueB] using h2
        omega
      rw [e1, Option.bind_some, if_pos (dT (by show c.XB ≤ x.XK; omega))]
      have hb2 : b = c1.Xb := h.bb.symm.trans hb1.symm
      subst hb2
      have yy := young_spec hc1 fv1 dd hA hI (by omega)
      show ∃ c' inn' out', (UY c1 c1.Xb).bind _ = _ ∧ _
      rw [yy, Option.bind_some]
      unfold Z3
      rw [if_neg (by simp)]
      have hal := adv_len (b := c1.Xb) (tick := x.XK) (xs := c.Xh)
      have hcs := h.ci.small
      obtain ⟨out', e, k⟩ := j4_eq hi (done := adv c1.Xb x.XK c.Xh) rec hc1 rfl (by omega) (by omega) fv1 h.gi h.go (by have := h.li; omega) h.lo (by omega) (fun r hr => by
          obtain ⟨q, hq, rfl⟩ := adv_mem hr
          exact (h.fv q hq).rt (h.ci.rk q hq) (rsn_ok _ _))
        (fun k => by have h1 := h.ep k; have h3 := sR_perm (m := rp) hp1 k; have h2 : sR rp (adv c1.Xb x.XK c.Xh) k + sR rp c1.Xh k = sR rp c.Xh k := (by rw [h3]; exact adv_num msr_p c1.Xb x.XK c.Xh k); omega)
        (fun k => by have h1 := h.eb k; have h3 := sR_perm (m := rb) hp1 k; have h2 : sR rb (adv c1.Xb x.XK c.Xh) k + sR rb c1.Xh k = sR rb c.Xh k := (by rw [h3]; exact adv_num msr_b c1.Xb x.XK c.Xh k); omega) (fun k => by have := h.mp k; omega) (fun k => by have := h.mb k; omega)
      exact ⟨c1, inn, out', e, k⟩
  | false =>
    rw [if_neg (by decide), kright_eq, Option.bind_some]
    cases hr : kr x.XH.Xo with
    | false =>
      rw [if_pos (by decide)]
      unfold ZR
      rw [nx4 (by omega)]
      exact ⟨c, inn, out, rfl, mono⟩
    | true =>
      rw [if_neg (by decide)]
      have rk := pw.rk hr
      have hL1 : Int.tmod x.XH.Yk 100000 < 100000 := tmod_rng _
      obtain ⟨done, c', e, a1, a2, a3, a4, a5, a6, a7, a8, a9⟩ := acc_all (by omega) h (p := ⟨x.XH.Xo, Int.tmod x.XH.Yk 100000, x.XH.XO, x.XH.YS⟩) rk hL1 x.XU htk
      obtain ⟨hg, hL⟩ := len_ok (p := ⟨x.XH.Xo, Int.tmod x.XH.Yk 100000, x.XH.XO, x.XH.YS⟩) hL1
      dsimp only at hg hL a8 a9
      show ∃ c' inn' out', (XQ c _ x.XU x.XK).bind _ = _ ∧ _
      rw [e, Option.bind_some, if_neg (by simp), hL]
      have m1 := h.mp x.XH.Xo; have m2 := h.mb x.XH.Xo
      obtain ⟨inn', f1, g1, g2, g3, g4⟩ := add_spec h.gi pw.toWK (t := ⟨1, gmax 0 (Int.tmod x.XH.Yk 100000)⟩) (Int.le_refl _) hg.1 (by have := h.li; omega) (show sS sp inn x.XH.Xo + 1 < _ by omega) (show sS sb inn x.XH.Xo + gmax 0 (Int.tmod x.XH.Yk 100000) < _ by omega)
      rw [f1, Option.bind_some]
      dsimp only at g3 g4
      obtain ⟨out', e2, k⟩ := j4_eq hi (done := done) (inn := inn') (out := out) rec a1 a2 a3 a4 a7 g1 h.go (by have := h.li; omega) h.lo a6 a5 (fun k => by rw [g3]; have h1 := a8 k; have h2 := h.ep k; omega) (fun k => by rw [g4]; have h1 := a9 k; have h2 := h.eb k; omega)
        (fun k => by rw [g3]; have h1 := h.mp k; have h2 := one_le (k := x.XH.Xo) (k' := k) (v := 1) (by omega); omega) (fun k => by rw [g4]; have h1 := h.mb k; have h2 := one_le (k := x.XH.Xo) (k' := k) hg.1; omega)
      exact ⟨c', inn', out', e2, k⟩
theorem pick_eq (d : Int) : ∃ p, V0 d 8 = some p := by
  unfold V0
  rw [if_neg (by decide), if_pos (by decide), if_pos (by decide)]
  exact ⟨_, rfl⟩
theorem keeps_L {n : Nat} {b : Bd} (hA : 0 ≤ b.XA) (hI : 0 ≤ b.XI) {lv : List XF} (hl : lv.length ≤ 80) (hw : ∀ a ∈ lv, PW a.XH ∧ 0 ≤ a.XK ∧ a.XK < 18446744073709551616) : ∀ (f i : Nat) (c : Ca) (inn out : List Sm), KI n b i c inn out → i ≤ lv.length → lv.length < f + i →
    rc_ (Yf b lv f) c inn out (i : Int) = some true
  | 0, i, c, inn, out, _, h1, h2 => by omega
  | f + 1, i, c, inn, out, h, h1, h2 => by
    show JM (Yf b lv f) b lv c.XB c.Xb.Xz c.Xb.XI c.Xb.XA c.Xb.Xk c.Xb.Xr c.Xf.Xp c.Xf.XG c.Xh inn out (i : Int) = _
    unfold JM
    by_cases hi : i < lv.length
    · obtain ⟨x, hx⟩ : ∃ x, lv[i]? = some x := ⟨_, List.getElem?_eq_getElem hi⟩
      obtain ⟨pw, ht⟩ := hw x (List.mem_of_getElem? hx)
      obtain ⟨d, hd⟩ := pick_eq x.Xas
      rw [if_pos (dT (by omega)), gidx_nat hx, Option.bind_some, hd, Option.bind_some]
      have step : ∀ t, Zx b c.XB c.Xb.Xz c.Xb.XI c.Xb.XA c.Xb.Xk c.Xb.Xr c.Xf.Xp c.Xf.XG c.Xh inn out (i : Int) (Yf b lv f) x t = some true := fun t => by
        obtain ⟨c', inn', out', e, k⟩ := keeps_step hA hI (by omega) h (Yf b lv f) pw ht t
        rw [e]
        exact keeps_L hA hI hl hw f (i + 1) c' inn' out' k (by omega) (by omega)
      by_cases h7 : (d == 7) = true
      · rw [if_pos h7]
        obtain ⟨c', e, a1, a2, a3, a4⟩ := flush_spec h.ci
        have hp := st_perm (fun _ => 0) c.Xh
        have hcs := h.ci.small
        have hpl := hp.length_eq
        show (ZL c).bind _ = _
        rw [e, Option.bind_some]
        obtain ⟨out', e2, k⟩ := j4_eq (b := b) (i := i) (by omega) (c := c') (inn := inn) (out := out) (done := (al c.Xh).map (fun r => rs r 4)) (Yf b lv f) a1 (a3.trans h.bb) (by rw [a2]; exact h.t0) (by rw [a2]; exact h.t1) (fun r hr => by rw [a4] at hr; cases hr) h.gi h.go (by have := h.li; omega) h.lo (by rw [List.length_map]; show (st _ _).length ≤ _; omega)
          (fun r hr => by
            obtain ⟨q, hq, rfl⟩ := List.mem_map.1 hr
            have hm : q ∈ c.Xh := hp.mem_iff.1 hq
            exact (h.fv q hm).rt (h.ci.rk q hm) (by omega))
          (fun k => by
            have h1 := h.ep k
            have h2 : sR rp ((al c.Xh).map (fun r => rs r 4)) k = sR rp (al c.Xh) k := sR_map (g := fun r => rs r 4) (fun _ => rfl) (fun r => rfl) k _
            have h3 : sR rp (al c.Xh) k = sR rp c.Xh k := sR_perm hp k
            rw [a4, h2, h3]; simp only [sR]; omega)
          (fun k => by
            have h1 := h.eb k
            have h2 : sR rb ((al c.Xh).map (fun r => rs r 4)) k = sR rb (al c.Xh) k := sR_map (g := fun r => rs r 4) (fun _ => rfl) (fun r => rfl) k _
            have h3 : sR rb (al c.Xh) k = sR rb c.Xh k := sR_perm hp k
            rw [a4, h2, h3]; simp only [sR]; omega)
          (fun k => by have := h.mp k; omega) (fun k => by have := h.mb k; omega)
        refine e2.trans ?_
        exact keeps_L hA hI hl hw f (i + 1) c' inn out' k (by omega) (by omega)
      · rw [if_neg h7]
        by_cases h5 : (d == 5) = true
        · rw [if_pos h5]; exact step _
        · rw [if_neg h5]; exact step _
    · rw [if_neg (dF (by omega))]
      exact keeps_end (by omega) h
theorem keeps_eq {b : Bd} (hA : 0 ≤ b.XA) (hI : 0 ≤ b.XI) {lv : List XF} (hw : ∀ a ∈ lv, PW a.XH ∧ 0 ≤ a.XK ∧ a.XK < 18446744073709551616) : Jf b lv = some true := by
  unfold Jf
  by_cases hl : 80 < lv.length
  · rw [if_pos (dT (by omega)), works_eq]; rfl
  · rw [if_neg (dF (by omega)), chain (YA b lv) b]
    unfold YA
    cases g : bad b with
    | true => rw [if_pos rfl, works_eq]; rfl
    | false =>
      rw [if_neg (by decide)]
      obtain ⟨e, he, hf, k⟩ := sized g
      rw [k (Zn b lv)]
      unfold Zn
      obtain ⟨r1, r2⟩ := room he
      rw [if_neg (by decide), if_pos r1, r2]
      exact keeps_L hA hI (by omega) hw fuel0 0 (c0 e 0 b) [] [] ⟨new_ci he g hf 0, rfl, by show (0 : Int) ≤ 0; omega, by show (0 : Int) < _; omega, fun r hr => (by cases hr), GS.nil, GS.nil, by simp, by simp, fun k => rfl, fun k => rfl, fun k => by simp [sS], fun k => by simp [sS]⟩ (by omega) (by unfold fuel0; omega)
end Go.Proofs.YtkpnocgfhipidaaGreat
