/- Plain text: sums by keys. -/
import Derived.Test.YtkpnocgfhipidaaGreatIP
set_option linter.unusedVariables false
namespace Go.Proofs.YtkpnocgfhipidaaGreat
open Go Go.Ox Go.Ox.Ring
abbrev Sm := XD
theorem nx6 {t : Nat} (h : t ≤ 10000000) : IntKind.i64.wrap ((t : Int) + 1) = ((t + 1 : Nat) : Int) := by rw [wi64 (by omega) (by omega)]; omega
def one (k k' : Xe) (v : Int) : Int := if Yg k k' = true then v else 0
theorem one_self (k : Xe) (v : Int) : one k k v = v := by unfold one; rw [if_pos (VZ k)]
theorem one_nn {k k' : Xe} {v : Int} (h : 0 ≤ v) : 0 ≤ one k k' v := by unfold one; split <;> omega
theorem one_add (k k' : Xe) (v w : Int) : one k k' (v + w) = one k k' v + one k k' w := by unfold one; split <;> omega
theorem one_le {k k' : Xe} {v : Int} (h : 0 ≤ v) : one k k' v ≤ v := by unfold one; split <;> omega
def sS (m : Sm → Int) : List Sm → Xe → Int
  | [], _ => 0
  | s :: l, k => one s.Xo k (m s) + sS m l k
def sR (m : Rc → Int) : List Rc → Xe → Int
  | [], _ => 0
  | r :: l, k => one r.Xo k (m r) + sR m l k
theorem sR_perm {m : Rc → Int} {xs ys : List Rc} (h : xs.Perm ys) (k : Xe) : sR m xs k = sR m ys k := by
  induction h with
  | nil => rfl
  | cons x _ ih => simp only [sR, ih]
  | swap x y l => simp only [sR]; omega
  | trans _ _ h1 h2 => rw [h1, h2]
theorem sR_app (m : Rc → Int) (k : Xe) : ∀ xs ys : List Rc, sR m (xs ++ ys) k = sR m xs k + sR m ys k
  | [], ys => by simp [sR]
  | x :: xs, ys => by simp only [List.cons_append, sR, sR_app m k xs ys]; omega
theorem sR_map {m : Rc → Int} {g : Rc → Rc} (hk : ∀ r, (g r).Xo = r.Xo) (hm : ∀ r, m (g r) = m r) (k : Xe) : ∀ xs : List Rc, sR m (xs.map g) k = sR m xs k
  | [] => rfl
  | x :: xs => by simp only [List.map_cons, sR, hk, hm, sR_map hk hm k xs]
theorem sR_nn {m : Rc → Int} {k : Xe} : ∀ {xs : List Rc}, (∀ r ∈ xs, 0 ≤ m r) → 0 ≤ sR m xs k
  | [], _ => Int.le_refl _
  | x :: xs, h => by
    have h1 := one_nn (k := x.Xo) (k' := k) (h x List.mem_cons_self)
    have h2 := sR_nn (m := m) (k := k) (xs := xs) (fun r hr => h r (List.mem_cons_of_mem _ hr))
    simp only [sR]; omega
theorem sR_ge {m : Rc → Int} {r : Rc} : ∀ {xs : List Rc}, (∀ r ∈ xs, 0 ≤ m r) → r ∈ xs → m r ≤ sR m xs r.Xo
  | x :: xs, h, hr => by
    have h1 := one_nn (k := x.Xo) (k' := r.Xo) (h x List.mem_cons_self)
    have hx : ∀ r ∈ xs, 0 ≤ m r := fun r hr => h r (List.mem_cons_of_mem _ hr)
    simp only [sR]
    rcases List.mem_cons.1 hr with hr | hr
    · subst hr
      have := sR_nn (m := m) (k := r.Xo) hx
      rw [one_self]; omega
    · have := sR_ge hx hr
      omega
theorem sS_app (m : Sm → Int) (k : Xe) : ∀ xs ys : List Sm, sS m (xs ++ ys) k = sS m xs k + sS m ys k
  | [], ys => by simp [sS]
  | x :: xs, ys => by simp only [List.cons_append, sS, sS_app m k xs ys]; omega
theorem sS_nn {m : Sm → Int} {k : Xe} : ∀ {xs : List Sm}, (∀ r ∈ xs, 0 ≤ m r) → 0 ≤ sS m xs k
  | [], _ => Int.le_refl _
  | x :: xs, h => by
    have h1 := one_nn (k := x.Xo) (k' := k) (h x List.mem_cons_self)
    have h2 := sS_nn (m := m) (k := k) (xs := xs) (fun r hr => h r (List.mem_cons_of_mem _ hr))
    simp only [sS]; omega
theorem sS_ge {m : Sm → Int} {r : Sm} : ∀ {xs : List Sm}, (∀ r ∈ xs, 0 ≤ m r) → r ∈ xs → m r ≤ sS m xs r.Xo
  | x :: xs, h, hr => by
    have h1 := one_nn (k := x.Xo) (k' := r.Xo) (h x List.mem_cons_self)
    have hx : ∀ r ∈ xs, 0 ≤ m r := fun r hr => h r (List.mem_cons_of_mem _ hr)
    simp only [sS]
    rcases List.mem_cons.1 hr with hr | hr
    · subst hr
      have := sS_nn (m := m) (k := r.Xo) hx
      rw [one_self]; omega
    · have := sS_ge hx hr
      omega
theorem sS_set {m : Sm → Int} {s s' : Sm} (k : Xe) : ∀ {xs : List Sm} {j : Nat}, xs[j]? = some s → sS m (xs.set j s') k = sS m xs k - one s.Xo k (m s) + one s'.Xo k (m s')
  | [], j, h => by simp at h
  | x :: xs, 0, h => by simp at h; subst h; simp only [List.set_cons_zero, sS]; omega
  | x :: xs, j + 1, h => by simp at h; simp only [List.set_cons_succ, sS, sS_set k h]; omega
theorem sS_pos {m : Sm → Int} {k : Xe} : ∀ {xs : List Sm}, 0 < sS m xs k → ∃ s ∈ xs, Yg s.Xo k = true
  | [], h => by simp [sS] at h
  | x :: xs, h => by
    cases hq : Yg x.Xo k with
    | true => exact ⟨x, List.mem_cons_self, hq⟩
    | false =>
      have : one x.Xo k (m x) = 0 := by unfold one; rw [hq]; rfl
      simp only [sS, this] at h
      obtain ⟨s, h1, h2⟩ := sS_pos (m := m) (k := k) (xs := xs) (by omega)
      exact ⟨s, List.mem_cons_of_mem _ h1, h2⟩
def sp (s : Sm) : Int := s.Zj.Xk
def sb (s : Sm) : Int := s.Zj.Xr
def rp (r : Rc) : Int := r.Xk
def rb (r : Rc) : Int := r.Xr
structure GS (l : List Sm) : Prop where
  wk : ∀ s ∈ l, WK s.Xo
  ne : (l.map (·.Xo)).Pairwise (· ≠ ·)
  p1 : ∀ s ∈ l, 1 ≤ sp s
  b0 : ∀ s ∈ l, 0 ≤ sb s
theorem GS.nil : GS [] := ⟨fun s h => (by cases h), List.Pairwise.nil, fun s h => (by cases h), fun s h => (by cases h)⟩
theorem GS.p0 {l : List Sm} (g : GS l) : ∀ s ∈ l, 0 ≤ sp s := fun s h => by have := g.p1 s h; omega
theorem sS_at {m : Sm → Int} {s : Sm} : ∀ {l : List Sm}, (∀ s ∈ l, WK s.Xo) → (l.map (·.Xo)).Pairwise (· ≠ ·) → s ∈ l → sS m l s.Xo = m s
  | x :: xs, hw, hn, hs => by
    simp only [List.map_cons, List.pairwise_cons] at hn
    have hwx : ∀ s ∈ xs, WK s.Xo := fun s h => hw s (List.mem_cons_of_mem _ h)
    have zero : ∀ (k : Xe), WK k → (∀ s ∈ xs, k ≠ s.Xo) → sS m xs k = 0 := fun k hk h => by
      have : ∀ ys : List Sm, (∀ s ∈ ys, WK s.Xo ∧ k ≠ s.Xo) → sS m ys k = 0 := fun ys => by
        induction ys with
        | nil => intro _; rfl
        | cons y ys ih =>
          intro hy
          obtain ⟨a, b⟩ := hy y List.mem_cons_self
          have h1 : one y.Xo k (m y) = 0 := by
            unfold one
            rw [if_neg (fun hq => b ((qkey_iff a hk).1 hq).symm)]
          simp only [sS, h1, ih (fun s hs => hy s (List.mem_cons_of_mem _ hs))]; rfl
      exact this xs fun s hs => ⟨hwx s hs, h s hs⟩
    simp only [sS]
    rcases List.mem_cons.1 hs with hs | hs
    · subst hs
      rw [one_self, zero s.Xo (hw s List.mem_cons_self) (fun t ht => hn.1 t.Xo (List.mem_map.2 ⟨t, ht, rfl⟩))]; omega
    · have hne := hn.1 s.Xo (List.mem_map.2 ⟨s, hs, rfl⟩)
      have h1 : one x.Xo s.Xo (m x) = 0 := by
        unfold one
        rw [if_neg (fun hq => hne ((qkey_iff (hw x List.mem_cons_self) (hwx s hs)).1 hq))]
      rw [h1, sS_at hwx hn.2 hs]; omega
theorem add_L {l : List Sm} {k : Xe} {t : Yc} (hl : l.length ≤ 1000000) : ∀ (f i : Nat), i ≤ l.length → l.length < f + i → (∀ s ∈ l.take i, Yg s.Xo k = false) →
    (∃ (j : Nat) (s : Sm), l[j]? = some s ∧ Yg s.Xo k = true ∧ JF l k t f (i : Int) = some (l.set j ⟨s.Xo, ⟨IntKind.u64.wrap (s.Zj.Xk + t.Xk), IntKind.u64.wrap (s.Zj.Xr + t.Xr)⟩⟩)) ∨
      ((∀ s ∈ l, Yg s.Xo k = false) ∧ JF l k t f (i : Int) = some (l ++ [⟨k, t⟩]))
  | 0, i, h1, h2, _ => by omega
  | f + 1, i, h1, h2, hn => by
    have e : JF l k t (f + 1) (i : Int) = U1 (JF l k t f) l k t (i : Int) := rfl
    rw [e]
    unfold U1
    by_cases hi : i = l.length
    · subst hi
      rw [List.take_length] at hn
      rw [if_neg (dF (by omega)), if_pos (limk (by simp; omega))]
      exact .inr ⟨hn, rfl⟩
    · obtain ⟨s, hs⟩ : ∃ s, l[i]? = some s := ⟨_, List.getElem?_eq_getElem (by omega)⟩
      have htk : l.take (i + 1) = l.take i ++ [s] := by rw [List.take_add_one, hs]; rfl
      rw [if_pos (dT (by omega)), gidx_nat hs, Option.bind_some]
      cases hq : Yg s.Xo k with
      | true =>
        rw [if_pos rfl]
        exact .inl ⟨i, s, hs, hq, by simp⟩
      | false =>
        rw [if_neg (by decide), nx6 (by omega)]
        refine add_L hl f (i + 1) (by omega) (by omega) fun x hx => ?_
        rw [htk] at hx
        rcases List.mem_append.1 hx with hx | hx
        · exact hn x hx
        · rw [List.mem_singleton.1 hx]; exact hq
theorem map_set_same {l : List Sm} {j : Nat} {s s' : Sm} (hs : l[j]? = some s) (hk : s'.Xo = s.Xo) : (l.set j s').map (·.Xo) = l.map (·.Xo) := by
  rw [List.map_set]
  apply List.ext_getElem?
  intro i
  by_cases hi : i = j
  · subst hi
    rw [List.getElem?_set_self (by simpa using (List.getElem?_eq_some_iff.1 hs).1)]
    simp [hs, hk]
  · rw [List.getElem?_set_ne (fun e => hi e.symm)]
theorem add_spec {l : List Sm} {k : Xe} {t : Yc} (g : GS l) (hk : WK k) (hp : 1 ≤ t.Xk) (hb : 0 ≤ t.Xr) (hl : l.length ≤ 1000000) (np : sS sp l k + t.Xk < 1000000000000000) (nb : sS sb l k + t.Xr < 1000000000000000) :
    ∃ l', UD l k t = some l' ∧ GS l' ∧ l'.length ≤ l.length + 1 ∧ (∀ k', sS sp l' k' = sS sp l k' + one k k' t.Xk) ∧ (∀ k', sS sb l' k' = sS sb l k' + one k k' t.Xr) := by
  have key : UD l k t = JF l k t fuel0 (0 : Nat) := rfl
  rw [key]
  rcases add_L (k := k) (t := t) hl fuel0 0 (by omega) (by unfold fuel0; omega) (fun s hs => by simp at hs) with ⟨j, s, hs, hq, e⟩ | ⟨hn, e⟩
  · have hm := List.mem_of_getElem? hs
    have hsk : s.Xo = k := (qkey_iff (g.wk s hm) hk).1 hq
    have h1 := sS_ge g.p0 hm
    have h2 := sS_ge g.b0 hm
    have h3 := g.p1 s hm
    have h4 := g.b0 s hm
    rw [hsk] at h1 h2
    simp only [sp, sb] at h1 h2 h3 h4
    rw [wu64i (n := s.Zj.Xk + t.Xk) (by omega) (by omega), wu64i (n := s.Zj.Xr + t.Xr) (by omega) (by omega)] at e
    refine ⟨_, e, ⟨fun x hx => ?_, ?_, fun x hx => ?_, fun x hx => ?_⟩, by rw [List.length_set]; omega, fun k' => ?_, fun k' => ?_⟩
    · rcases List.mem_or_eq_of_mem_set hx with h | h
      · exact g.wk x h
      · rw [h]; exact g.wk s hm
    · rw [map_set_same (s' := ⟨s.Xo, ⟨s.Zj.Xk + t.Xk, s.Zj.Xr + t.Xr⟩⟩) hs rfl]; exact g.ne
    · rcases List.mem_or_eq_of_mem_set hx with h | h
      · exact g.p1 x h
      · rw [h]; show 1 ≤ s.Zj.Xk + t.Xk; omega
    · rcases List.mem_or_eq_of_mem_set hx with h | h
      · exact g.b0 x h
      · rw [h]; show 0 ≤ s.Zj.Xr + t.Xr; omega
    · rw [sS_set k' hs, hsk]
      show _ + one k k' (s.Zj.Xk + t.Xk) = _
      rw [one_add]; simp only [sp]; omega
    · rw [sS_set k' hs, hsk]
      show _ + one k k' (s.Zj.Xr + t.Xr) = _
      rw [one_add]; simp only [sb]; omega
  · refine ⟨_, e, ⟨fun x hx => ?_, ?_, fun x hx => ?_, fun x hx => ?_⟩, by simp, fun k' => ?_, fun k' => ?_⟩
    · rcases List.mem_append.1 hx with h | h
      · exact g.wk x h
      · rw [List.mem_singleton.1 h]; exact hk
    · rw [List.map_append, List.pairwise_append]
      refine ⟨g.ne, by simp, fun a ha b hb2 => ?_⟩
      obtain ⟨x, hx, rfl⟩ := List.mem_map.1 ha
      have : b = k := by simpa using hb2
      subst this
      intro he
      have h := hn x hx
      rw [he, VZ] at h; cases h
    · rcases List.mem_append.1 hx with h | h
      · exact g.p1 x h
      · rw [List.mem_singleton.1 h]; exact hp
    · rcases List.mem_append.1 hx with h | h
      · exact g.b0 x h
      · rw [List.mem_singleton.1 h]; exact hb
    · rw [sS_app]; simp only [sS, sp]; omega
    · rw [sS_app]; simp only [sS, sb]; omega
structure RT (r : Rc) : Prop where
  rk : RK r.Xo
  p1 : 1 ≤ r.Xk
  b0 : 0 ≤ r.Xr
  fl : r.X4 ≤ r.Ya
  rn : 1 ≤ r.X9 ∧ r.X9 ≤ 5
theorem RT.right {r : Rc} (h : RT r) : Km r = some true := by
  unfold Km YP
  rw [kright_eq, Option.bind_some, h.rk.right, if_pos rfl, if_pos (dT (by have := h.p1; omega)), if_pos (dT h.fl), if_pos (dT h.rn.1), dT h.rn.2]
theorem sums_gen {done : List Rc} (hd : done.length ≤ 10000) {β : Type} {G : Nat → List Sm → Int → β} {E : List Sm → β}
    (hs : ∀ (f : Nat) (out : List Sm) (i : Nat) (r : Rc) (l' : List Sm), done[i]? = some r → UD out r.Xo ⟨r.Xk, r.Xr⟩ = some l' → G (f + 1) out (i : Int) = G f l' ((i + 1 : Nat) : Int))
    (hz : ∀ (f : Nat) (out : List Sm), G (f + 1) out (done.length : Int) = E out) (hr : ∀ r ∈ done, WK r.Xo ∧ 1 ≤ r.Xk ∧ 0 ≤ r.Xr) :
    ∀ (f i : Nat) (out : List Sm), i ≤ done.length → done.length < f + i → GS out → out.length + (done.length - i) ≤ 1000000 → (∀ k, WK k → sS sp out k + sR rp (done.drop i) k < 1000000000000000) → (∀ k, WK k → sS sb out k + sR rb (done.drop i) k < 1000000000000000) →
      ∃ out', G f out (i : Int) = E out' ∧ GS out' ∧ out'.length ≤ out.length + (done.length - i) ∧ (∀ k, sS sp out' k = sS sp out k + sR rp (done.drop i) k) ∧ (∀ k, sS sb out' k = sS sb out k + sR rb (done.drop i) k)
  | 0, i, out, h1, h2, _, _, _, _ => by omega
  | f + 1, i, out, h1, h2, g, hl, np, nb => by
    by_cases hi : i = done.length
    · subst hi
      exact ⟨out, hz f out, g, by omega, fun k => by simp [sR], fun k => by simp [sR]⟩
    · have hlt : i < done.length := by omega
      obtain ⟨r, hri⟩ : ∃ r, done[i]? = some r := ⟨_, List.getElem?_eq_getElem hlt⟩
      have hdr : done.drop i = r :: done.drop (i + 1) := by rw [List.drop_eq_getElem_cons hlt, (List.getElem?_eq_some_iff.1 hri).2]
      have hm := List.mem_of_getElem? hri
      obtain ⟨w, p1, b0⟩ := hr r hm
      have hnp : ∀ k, 0 ≤ sR rp (done.drop (i + 1)) k := fun k => sR_nn fun q hq => by
        have := (hr q (List.mem_of_mem_drop hq)).2.1
        show 0 ≤ q.Xk; omega
      have hnb : ∀ k, 0 ≤ sR rb (done.drop (i + 1)) k := fun k => sR_nn fun q hq => (hr q (List.mem_of_mem_drop hq)).2.2
      have a1 := np r.Xo w
      have a2 := nb r.Xo w
      rw [hdr] at a1 a2
      simp only [sR, one_self] at a1 a2
      have b1 := hnp r.Xo
      have b2 := hnb r.Xo
      simp only [rp, rb] at a1 a2 b1 b2
      obtain ⟨l', e, g', hl', s1, s2⟩ := add_spec g w (t := ⟨r.Xk, r.Xr⟩) p1 b0 (by omega) (show sS sp out r.Xo + r.Xk < _ by omega) (show sS sb out r.Xo + r.Xr < _ by omega)
      have q1 : ∀ k, sS sp out k + sR rp (done.drop i) k = sS sp l' k + sR rp (done.drop (i + 1)) k := fun k => by rw [hdr, s1]; simp only [sR, rp]; omega
      have q2 : ∀ k, sS sb out k + sR rb (done.drop i) k = sS sb l' k + sR rb (done.drop (i + 1)) k := fun k => by rw [hdr, s2]; simp only [sR, rb]; omega
      obtain ⟨out', e2, g2, hl2, t1, t2⟩ := sums_gen hd hs hz hr f (i + 1) l' (by omega) (by omega) g' (by omega) (fun k hk => by rw [← q1]; exact np k hk) (fun k hk => by rw [← q2]; exact nb k hk)
      exact ⟨out', by rw [hs f out i r l' hri e]; exact e2, g2, by omega, fun k => by rw [t1, q1], fun k => by rw [t2, q2]⟩
theorem ended_spec {done : List Rc} {out : List Sm} (hd : done.length ≤ 10000) (hr : ∀ r ∈ done, RT r) (g : GS out) (hl : out.length + done.length ≤ 1000000) (np : ∀ k, WK k → sS sp out k + sR rp done k < 1000000000000000) (nb : ∀ k, WK k → sS sb out k + sR rb done k < 1000000000000000) :
    ∃ out', VA done out = some (out', true) ∧ GS out' ∧ out'.length ≤ out.length + done.length ∧ (∀ k, sS sp out' k = sS sp out k + sR rp done k) ∧ (∀ k, sS sb out' k = sS sb out k + sR rb done k) := by
  obtain ⟨out', e, h⟩ := sums_gen hd (G := fun f out i => J5 done f out i) (E := fun o => some (o, true))
    (fun f out i r l' hri he => by
      show J7 (J5 done f) done out (i : Int) = _
      have hlt := (List.getElem?_eq_some_iff.1 hri).1
      unfold J7
      rw [if_pos (dT (by omega)), gidx_nat hri, Option.bind_some, (hr r (List.mem_of_getElem? hri)).right, Option.bind_some, if_neg (by decide), Option.bind_some, Option.bind_some]
      unfold Zp
      rw [Option.bind_some, he, Option.bind_some, nx6 (by omega)])
    (fun f out => by
      show J7 (J5 done f) done out (done.length : Int) = _
      unfold J7
      rw [if_neg (dF (by omega))])
    (fun r h => ⟨(hr r h).rk.toWK, (hr r h).p1, (hr r h).b0⟩) fuel0 0 out (by omega) (by unfold fuel0; omega) g (by omega) (by simpa using np) (by simpa using nb)
  exact ⟨out', e, by simpa using h⟩
theorem same_L2 {a b : List Sm} {i : Nat} {s : Sm} (hs : a[i]? = some s) (hb : b.length ≤ 1000000) (rec : Int → Option Bool) : ∀ (f k : Nat) (found : Bool), k ≤ b.length → b.length < f + k → (found = true ∨ ∃ (j : Nat) (x : Sm), k ≤ j ∧ b[j]? = some x ∧ UJ x s = true) →
    Ko a b (i : Int) rec f found (k : Int) = rec (IntKind.i64.wrap ((i : Int) + 1))
  | 0, k, found, h1, h2, _ => by omega
  | f + 1, k, found, h1, h2, h => by
    show UK (Ko a b (i : Int) rec f) a b (i : Int) rec found (k : Int) = _
    unfold UK Uy
    by_cases hk : k = b.length
    · have : found = true := by
        rcases h with h | ⟨j, x, h3, h4, _⟩
        · exact h
        · have := (List.getElem?_eq_some_iff.1 h4).1; omega
      rw [if_neg (dF (by omega)), this, if_neg (by decide)]
    · obtain ⟨x, hx⟩ : ∃ x, b[k]? = some x := ⟨_, List.getElem?_eq_getElem (by omega)⟩
      rw [if_pos (dT (by omega)), nx6 (by omega)]
      cases found with
      | true =>
        rw [if_pos rfl]
        exact same_L2 hs hb rec f (k + 1) true (by omega) (by omega) (.inl rfl)
      | false =>
        rw [if_neg (by decide), gidx_nat hx, Option.bind_some, gidx_nat hs, Option.bind_some]
        refine same_L2 hs hb rec f (k + 1) _ (by omega) (by omega) ?_
        rcases h with h | ⟨j, y, h3, h4, h5⟩
        · cases h
        · by_cases hj : j = k
          · subst hj
            rw [hx] at h4; injection h4 with h4; subst h4
            exact .inl h5
          · exact .inr ⟨j, y, by omega, h4, h5⟩
theorem same_spec {a b : List Sm} (ha : a.length ≤ 1000000) (hb : b.length ≤ 1000000) (h : ∀ s ∈ a, ∃ x ∈ b, UJ x s = true) : UL a b = some true := by
  have key : ∀ (f i : Nat), i ≤ a.length → a.length < f + i → Zt a b f (i : Int) = some true := by
    intro f
    induction f with
    | zero => intro i h1 h2; omega
    | succ f ih =>
      intro i h1 h2
      show UG (Zt a b f) a b (i : Int) = _
      unfold UG
      by_cases hi : i = a.length
      · rw [if_neg (dF (by omega))]
      · obtain ⟨s, hs⟩ : ∃ s, a[i]? = some s := ⟨_, List.getElem?_eq_getElem (by omega)⟩
        obtain ⟨x, hx, hq⟩ := h s (List.mem_of_getElem? hs)
        obtain ⟨j, hj⟩ := List.getElem?_of_mem hx
        rw [if_pos (dT (by omega)), gidx_nat hs, Option.bind_some]
        refine (same_L2 hs hb (Zt a b f) fuel0 0 _ (by omega) (by unfold fuel0; omega) (.inr ⟨j, x, by omega, hj, hq⟩)).trans ?_
        rw [nx6 (by omega)]
        exact ih (i + 1) (by omega) (by omega)
  exact key fuel0 0 (by omega) (by unfold fuel0; omega)
theorem same_of {a b : List Sm} (ga : GS a) (gb : GS b) (hp : ∀ k, WK k → sS sp a k = sS sp b k) (hb : ∀ k, WK k → sS sb a k = sS sb b k) : ∀ s ∈ a, ∃ x ∈ b, UJ x s = true := fun s hs => by
  have hw := ga.wk s hs
  have h1 := sS_at (m := sp) ga.wk ga.ne hs
  have h2 := sS_at (m := sb) ga.wk ga.ne hs
  have h3 := ga.p1 s hs
  obtain ⟨x, hx, hq⟩ := sS_pos (m := sp) (k := s.Xo) (xs := b) (by rw [← hp _ hw]; omega)
  have hk := (qkey_iff (gb.wk x hx) hw).1 hq
  have h4 := sS_at (m := sp) gb.wk gb.ne hx
  have h5 := sS_at (m := sb) gb.wk gb.ne hx
  rw [hk, ← hp _ hw, h1] at h4
  rw [hk, ← hb _ hw, h2] at h5
  refine ⟨x, hx, ?_⟩
  simp only [sp, sb] at h4 h5
  simp [UJ, U8, hq, h4, h5]
end Go.Proofs.YtkpnocgfhipidaaGreat
