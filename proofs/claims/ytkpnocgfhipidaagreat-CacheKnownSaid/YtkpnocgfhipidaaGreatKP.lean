/- Plain text: the reference's Account; both tell the same. -/
import Derived.Test.YtkpnocgfhipidaaGreatJP
set_option linter.unusedVariables false
namespace Go.Proofs.YtkpnocgfhipidaaGreat
open Go Go.Ox Go.Ox.Ring
theorem rwith_eq {r : Rc} (ur : UR r) (p : XC) (tk : Int) : U5 (rR r) (rP p) tk = some (rR (wth r p tk)) := by
  unfold U5
  show (Jt r.Xk 1).bind (fun y15 => (Jt r.Xr (IntKind.u64.wrap (gmax 0 p.Yk))).bind _) = _
  rw [rplus_eq ur.p (by omega), Option.bind_some, rplus_eq ur.b (by rw [wu64]; omega), Option.bind_some]
  rfl
theorem flag_tab : ∀ x : Fin 256, decide (0 < bits .and .u8 (x.val : Int) 5) = ((Int.tmod (x.val : Int) 2 == 1) || (Int.tmod (IntKind.u8.wrap (Int.tdiv (x.val : Int) 4)) 2 == 1)) := by decide +kernel
theorem rseen {α : Type} (J : Bool → α) (p : XC) (hf : 0 ≤ p.XO ∧ p.XO < 256) : (if (p.Xo.X2 == 6) = true then if (!p.YS) = true then if ((Int.tmod p.XO 2) == 1) = true then J true else J ((Int.tmod (IntKind.u8.wrap (Int.tdiv p.XO 4)) 2) == 1) else J false else J false) = J (sn p) := by
  have h := flag_tab ⟨p.XO.toNat, by omega⟩
  have e : ((p.XO.toNat : Nat) : Int) = p.XO := by omega
  dsimp only at h
  rw [e] at h
  unfold sn
  rw [h]
  cases (p.Xo.X2 == 6) <;> cases p.YS <;> cases ((Int.tmod p.XO 2) == 1) <;> rfl
theorem so_keys (L : List Rc) : L.Pairwise (LT k0) ↔ (L.map (·.Xo)).Pairwise (fun a b => kc a b < 0) := by
  rw [List.pairwise_map]
  exact ⟨fun h => h.imp (fun h => lt0.1 h), fun h => h.imp (fun h => lt0.2 h)⟩
theorem rmap_set {L : List Rc} {j : Nat} {s s' : Rc} (hs : L[j]? = some s) (hk : s'.Xo = s.Xo) : (L.set j s').map (·.Xo) = L.map (·.Xo) := by
  rw [List.map_set]
  apply List.ext_getElem?
  intro i
  by_cases hi : i = j
  · subst hi
    rw [List.getElem?_set_self (by simpa using (List.getElem?_eq_some_iff.1 hs).1)]
    simp [hs, hk]
  · rw [List.getElem?_set_ne (fun e => hi e.symm)]
theorem SL.set {L : List Rc} (s : SL L) {i : Nat} {r0 r : Rc} (hi : L[i]? = some r0) (hk : r.Xo = r0.Xo) : SL (L.set i r) := by
  have hm := rmap_set hi hk
  refine ⟨⟨fun x hx => ?_, ?_⟩, ?_⟩
  · have : x.Xo ∈ L.map (·.Xo) := by rw [← hm]; exact List.mem_map.2 ⟨x, hx, rfl⟩
    obtain ⟨y, hy, he⟩ := List.mem_map.1 this
    rw [← he]; exact s.rk y hy
  · have h := s.ne
    have h2 : (L.map (·.Xo)).Pairwise (· ≠ ·) := List.pairwise_map.2 h
    rw [← hm] at h2
    exact List.pairwise_map.1 h2
  · rw [so_keys, hm, ← so_keys]; exact s.so
theorem erase_set {L : List Rc} {i : Nat} {r : Rc} : (L.set i r).eraseIdx i = L.eraseIdx i := by
  rw [List.eraseIdx_eq_take_drop_succ, List.eraseIdx_eq_take_drop_succ, List.take_set_of_le (Nat.le_refl _), List.drop_set_of_lt (by omega)]
theorem racc_j1 {tk : Int} {b : Bd} {L : List Rc} (s : SL L) (hL : L.length ≤ 4096) {p : XC} (hf : 0 ≤ p.XO ∧ p.XO < 256) {i : Nat} {r0 : Rc} (hi : L[i]? = some r0) (hk : r0.Xo = p.Xo) (ur : UR r0) {out : List Rc} (ho : out.length ≤ 100000) :
    ∃ C Y, Yu (rP p) tk b.Xz b.XI b.XA b.Xk b.Xr (L.map rR) (out.map rR) = some ((out ++ C).map rR, 0, RC tk b Y) ∧ Met b p (wth r0 p tk) (L.eraseIdx i) C Y ∧ SL Y := by
  generalize hr : wth r0 p tk = r
  have hrk : r.Xo = r0.Xo := by rw [← hr]; rfl
  have hil := (List.getElem?_eq_some_iff.1 hi).1
  have hlim : ∀ q : Xi, decide ((out.map rR).length + ([q] : List Xi).length ≤ lim) = true := fun q => limk (by simp; omega)
  have hset : (L.map rR).set i (rR r) = (L.set i r).map rR := by rw [List.map_set]
  have hrend : ∀ z, Yd (RC tk b (L.set i r)) (i : Int) z = some (rR (rs r z), RC tk b (L.eraseIdx i)) := fun z => by
    rw [rend_eq (by rw [List.length_set]; omega) (List.getElem?_set_self hil) z, erase_set]
  have se : SL (L.eraseIdx i) := s.sub (List.eraseIdx_sublist _ _)
  have ss : SL (L.set i r) := s.set hi hrk
  have hpset : (L.set i r).Perm (r :: L.eraseIdx i) := by
    have h := erase_perm (L := L.set i r) (i := i) (x := r) (List.getElem?_set_self hil)
    rw [erase_set] at h; exact h
  let J : Bool → Option (List Xi × Int × Xq) := fun t => if t = true then (Yd (RC tk b (L.set i r)) (i : Int) 4).bind fun q => if decide ((out.map rR).length + ([q.1] : List Xi).length ≤ lim) = true then some ((out.map rR) ++ [q.1], 0, q.2) else none else some (out.map rR, 0, RC tk b (L.set i r))
  let K : Bool → Option (List Xi × Int × Xq) := fun t => if t = true then (Yd (RC tk b (L.set i r)) (i : Int) 3).bind fun q => if decide ((out.map rR).length + ([q.1] : List Xi).length ≤ lim) = true then some ((out.map rR) ++ [q.1], 0, q.2) else none else if decide (b.Xk ≤ r.Xk) = true then J true else J (decide (b.Xr ≤ r.Xr))
  have step : Yu (rP p) tk b.Xz b.XI b.XA b.Xk b.Xr (L.map rR) (out.map rR) = K (sn p) := by
    unfold Yu
    have hfi := rfind_in (tk := tk) (b := b) (by omega) s hi
    rw [hk] at hfi
    have hg : gidx (RC tk b L).f_L (i : Int) = some (rR r0) := rat hi
    show (YJ (RC tk b L) (rK p.Xo)).bind _ = _
    rw [hfi, Option.bind_some]
    dsimp only
    rw [hg, Option.bind_some]
    have hw : U5 (rR r0) (rP p) (RC tk b L).XK = some (rR r) := by rw [← hr]; exact rwith_eq ur p tk
    rw [hw, Option.bind_some]
    unfold J1
    dsimp only
    rw [hg, Option.bind_some]
    refine Eq.trans (b := (if (p.Xo.X2 == 6) = true then if (!p.YS) = true then if ((Int.tmod p.XO 2) == 1) = true then K true else K ((Int.tmod (IntKind.u8.wrap (Int.tdiv p.XO 4)) 2) == 1) else K false else K false)) ?_ (rseen K p hf)
    have hKs : ∀ t, YW (out.map rR) ((i : Int), true, RC tk b L) (rR r).Xo.XL.YQ (rR r).Xo.XL.f_B (rR r).Xo.XN.YQ (rR r).Xo.XN.f_B (rR r).Xo.X2 (rR r).Xo.X6 (rR r).Xo.X1 (rR r).Xk (rR r).Xr (rR r).X4 (rR r).Ya (rR r).XO (rR r).X9 (rR r).XU t = K t := fun t => by
      have e : (RC tk b (L.set i r)) = ⟨tk, b, (L.map rR).set i (rR r)⟩ := by rw [hset]; rfl
      show _ = (if t = true then (Yd (RC tk b (L.set i r)) (i : Int) 3).bind _ else if decide (b.Xk ≤ r.Xk) = true then (if true = true then (Yd (RC tk b (L.set i r)) (i : Int) 4).bind _ else _) else (if decide (b.Xr ≤ r.Xr) = true then (Yd (RC tk b (L.set i r)) (i : Int) 4).bind _ else some (out.map rR, 0, RC tk b (L.set i r))))
      rw [e]
      rfl
    simp only [hKs]
    rfl
  rw [step]
  have k3 : K true = some ((out ++ [rs r 3]).map rR, 0, RC tk b (L.eraseIdx i)) := by
    show (if true = true then (Yd (RC tk b (L.set i r)) (i : Int) 3).bind _ else _) = _
    rw [if_pos rfl, hrend 3, Option.bind_some, if_pos (hlim _), List.map_append]; rfl
  have j4 : J true = some ((out ++ [rs r 4]).map rR, 0, RC tk b (L.eraseIdx i)) := by
    show (if true = true then (Yd (RC tk b (L.set i r)) (i : Int) 4).bind _ else _) = _
    rw [if_pos rfl, hrend 4, Option.bind_some, if_pos (hlim _), List.map_append]; rfl
  cases hs : sn p with
  | true => exact ⟨_, _, k3, .inl ⟨hs, rfl, .refl _⟩, se⟩
  | false =>
    show ∃ C Y, (if false = true then _ else if decide (b.Xk ≤ r.Xk) = true then J true else J (decide (b.Xr ≤ r.Xr))) = _ ∧ _
    rw [if_neg (by decide)]
    by_cases h1 : b.Xk ≤ r.Xk
    · rw [if_pos (dT h1)]
      exact ⟨_, _, j4, .inr (.inl ⟨hs, .inl h1, rfl, .refl _⟩), se⟩
    · rw [if_neg (dF h1)]
      by_cases h3 : b.Xr ≤ r.Xr
      · rw [dT h3]
        exact ⟨_, _, j4, .inr (.inl ⟨hs, .inr h3, rfl, .refl _⟩), se⟩
      · rw [decide_eq_false h3]
        refine ⟨[], L.set i r, ?_, .inr (.inr ⟨hs, by omega, rfl, hpset⟩), ss⟩
        rw [List.append_nil]; rfl
theorem rbeg_j1 {tk : Int} {b : Bd} {L : List Rc} (s : SL L) (hL : L.length ≤ 4096) {k : Xe} (rk : RK k) (hk : ∀ r ∈ L, r.Xo ≠ k) (cl : Int) (out : List Xi) :
    ∃ Y, Zg (rK k) cl tk b.Xz b.XI b.XA b.Xk b.Xr (L.map rR) out = some (out, RC tk b Y) ∧ Y.Perm (stt k cl tk :: L) ∧ SL Y := by
  obtain ⟨j, e, hj, h1, h2⟩ := rfind_out (tk := tk) (b := b) (by omega) s rk.toWK hk
  obtain ⟨i1, i2⟩ := ins_sl s (x := stt k cl tk) rk h1 (h2 rk)
  refine ⟨_, ?_, i2, i1⟩
  unfold Zg
  show (YJ (RC tk b L) (rK k)).bind _ = _
  rw [e, Option.bind_some]
  dsimp only
  have hlen : (RC tk b L).f_L.length = L.length := by simp [RC]
  have c1 : gcut (RC tk b L).f_L 0 (j : Int) = some ((L.take j).map rR) := by
    rw [gcut_in (Int.le_refl _) (by omega) (by rw [hlen]; omega)]
    simp [RC, List.map_take]
  have c2 : gcut (RC tk b L).f_L (j : Int) ((RC tk b L).f_L.length : Int) = some ((L.drop j).map rR) := by
    rw [gcut_in (by omega) (by rw [hlen]; omega) (Int.le_refl _), hlen]
    simp only [RC, Int.toNat_natCast, ← List.map_drop, ← List.map_take]
    rw [List.take_of_length_le (by rw [List.length_drop]; omega)]
  have l1 := List.length_take_le j L
  have l2 : (L.drop j).length ≤ L.length := by rw [List.length_drop]; omega
  unfold VC
  rw [c1, Option.bind_some, if_pos (limk (by rw [List.length_map]; omega)), Option.bind_some, if_pos (limk (by rw [List.length_map]; simp; omega)), c2, Option.bind_some, if_pos (limk (by rw [List.length_append, List.length_map, List.length_map]; simp; omega))]
  simp only [RC, List.map_append, List.map_cons, List.map_nil]
  rfl
theorem rbeg_L {tk : Int} {b : Bd} {L : List Rc} (s : SL L) (hL : L.length ≤ 4096) (k : XR) (cl : Int) : ∀ (f i j : Nat) (x : Rc), i ≤ L.length → L.length < f + i → L[j]? = some x → j < i → (∀ y ∈ L.take i, ¬ LT Ls y x) →
    ∃ (j' : Nat) (m : Rc), L[j']? = some m ∧ (∀ y ∈ L, ¬ LT Ls y m) ∧ Yz (RC tk b L) k cl f (j : Int) (i : Int) = (Yd (RC tk b L) (j' : Int) 5).bind fun y75 => if (decide (([y75.1] : List Xi).length ≤ lim)) = true then Zg k cl y75.2.XK y75.2.Xu.Xz y75.2.Xu.XI y75.2.Xu.XA y75.2.Xu.Xk y75.2.Xu.Xr y75.2.f_L ([y75.1] : List Xi) else none
  | 0, i, j, x, h1, h2, _, _, _ => by omega
  | f + 1, i, j, x, h1, h2, hj, hji, hm => by
    have e0 : Yz (RC tk b L) k cl (f + 1) (j : Int) (i : Int) = Jv (Yz (RC tk b L) k cl f) (RC tk b L) k cl (j : Int) (i : Int) := rfl
    rw [e0]
    unfold Jv
    have hlen : (RC tk b L).f_L.length = L.length := by simp [RC]
    rw [hlen]
    by_cases hl : i = L.length
    · subst hl
      rw [if_neg (dF (by omega))]
      rw [List.take_length] at hm
      exact ⟨j, x, hj, hm, rfl⟩
    · obtain ⟨y, hy⟩ : ∃ y, L[i]? = some y := ⟨_, List.getElem?_eq_getElem (by omega)⟩
      have g1 : gidx (RC tk b L).f_L (i : Int) = some (rR y) := rat hy
      have g2 : gidx (RC tk b L).f_L (j : Int) = some (rR x) := rat hj
      have htk : L.take (i + 1) = L.take i ++ [y] := by rw [List.take_add_one, hy]; rfl
      have hjl := (List.getElem?_eq_some_iff.1 hj).1
      have hil := (List.getElem?_eq_some_iff.1 hy).1
      rw [if_pos (dT (by omega)), g1, Option.bind_some, g2, Option.bind_some]
      unfold JA
      rw [nx4 (by omega)]
      show ∃ (j' : Nat) (m : Rc), L[j']? = some m ∧ (∀ y ∈ L, ¬ LT Ls y m) ∧ (if (decide (y.Ya < x.Ya)) = true then Yz (RC tk b L) k cl f (i : Int) ((i + 1 : Nat) : Int) else Yz (RC tk b L) k cl f (j : Int) ((i + 1 : Nat) : Int)) = _
      by_cases hd : y.Ya < x.Ya
      · rw [if_pos (dT hd)]
        refine rbeg_L s hL k cl f (i + 1) i y (by omega) (by omega) hy (by omega) fun z hz => ?_
        rw [htk] at hz
        rcases List.mem_append.1 hz with hz | hz
        · intro h
          have a1 := hm z hz
          unfold LT at a1 h
          rw [lk_lt] at a1 h
          simp only [Ls] at a1 h
          omega
        · rw [List.mem_singleton.1 hz]; exact fun h => h.asymm h
      · rw [if_neg (dF hd)]
        refine rbeg_L s hL k cl f (i + 1) j x (by omega) (by omega) hj (by omega) fun z hz => ?_
        rw [htk] at hz
        rcases List.mem_append.1 hz with hz | hz
        · exact hm z hz
        · rw [List.mem_singleton.1 hz]
          intro h
          unfold LT at h
          rw [lk_lt] at h
          simp only [Ls] at h
          have hp := List.pairwise_iff_getElem.1 s.so j i hjl hil hji
          rw [(List.getElem?_eq_some_iff.1 hj).2, (List.getElem?_eq_some_iff.1 hy).2] at hp
          have hp2 := lt0.1 hp
          have := kc_neg x.Xo y.Xo
          omega
theorem rbeg_eq {tk : Int} {b : Bd} (hb : 1 ≤ b.Xz) {L : List Rc} (s : SL L) (hL : L.length ≤ 4096) {k : Xe} (rk : RK k) (hk : ∀ r ∈ L, r.Xo ≠ k) (cl : Int) :
    ∃ B Y rest, ZN (RC tk b L) (rK k) cl = some (B.map rR, RC tk b Y) ∧ Y.Perm (stt k cl tk :: rest) ∧ SL Y ∧ Beg b L B rest ∧ B.length ≤ 1 := by
  unfold ZN
  have hlen : (RC tk b L).f_L.length = L.length := by simp [RC]
  rw [hlen]
  by_cases hf : (L.length : Int) = b.Xz
  · rw [if_pos (by show ((L.length : Int) == b.Xz) = true; simpa using hf)]
    obtain ⟨x, hx⟩ : ∃ x, L[0]? = some x := ⟨_, List.getElem?_eq_getElem (by omega)⟩
    have ht1 : L.take 1 = [x] := by
      have := List.take_add_one (l := L) (i := 0)
      rw [hx] at this; simpa using this
    obtain ⟨j, m, hj, hm, e⟩ := rbeg_L (tk := tk) (b := b) s hL (rK k) cl fuel0 1 0 x (by omega) (by unfold fuel0; omega) hx (by omega) (fun y hy => by
      rw [ht1] at hy
      rw [List.mem_singleton.1 hy]; exact fun h => h.asymm h)
    have hle := (erase_perm hj).length_eq
    simp only [List.length_cons] at hle
    obtain ⟨Y, e2, p2, s2⟩ := rbeg_j1 (tk := tk) (b := b) (s.sub (List.eraseIdx_sublist L j)) (by omega) rk (fun r hr => hk r ((List.eraseIdx_sublist L j).subset hr)) cl [rR (rs m 5)]
    refine ⟨[rs m 5], Y, L.eraseIdx j, ?_, p2, s2, .inr ⟨hf, m, List.mem_of_getElem? hj, hm, rfl, erase_perm hj⟩, by simp⟩
    refine (show _ = _ from e).trans ?_
    rw [rend_eq (by omega) hj, Option.bind_some, if_pos (limk (by simp))]
    exact e2
  · rw [if_neg (by show ¬ ((L.length : Int) == b.Xz) = true; simpa using hf)]
    obtain ⟨Y, e2, p2, s2⟩ := rbeg_j1 (tk := tk) (b := b) s hL rk hk cl []
    exact ⟨[], Y, L, e2, p2, s2, .inl ⟨hf, rfl, rfl⟩, by simp⟩
theorem racc_in {tk : Int} {b : Bd} (hb : 1 ≤ b.Xz ∧ b.Xz ≤ 4096) {L : List Rc} (s : SL L) (hL : (L.length : Int) ≤ b.Xz) (hu : ∀ r ∈ L, UR r) (htk : 0 ≤ tk ∧ tk < 18446744073709551616) {p : XC} (hf : 0 ≤ p.XO ∧ p.XO < 256) (rk : RK p.Xo) (cl : Int) {A : List Rc} (hA : A.length ≤ 5000) :
    ∃ O Y, (YJ (RC tk b L) (rK p.Xo)).bind (fun y35 => if (!y35.2.1) = true then
      (ZN y35.2.2 (rP p).Xo cl).bind fun y43 =>
      if (decide ((A.map rR).length + y43.1.length ≤ lim)) = true then
      Yu (rP p) y43.2.XK y43.2.Xu.Xz y43.2.Xu.XI y43.2.Xu.XA y43.2.Xu.Xk y43.2.Xu.Xr y43.2.f_L (A.map rR ++ y43.1)
      else none
      else
      Yu (rP p) y35.2.2.XK y35.2.2.Xu.Xz y35.2.2.Xu.XI y35.2.2.Xu.XA y35.2.2.Xu.Xk y35.2.2.Xu.Xr y35.2.2.f_L (A.map rR)) = some ((A ++ O).map rR, 0, RC tk b Y) ∧ Acc b tk p cl L O Y ∧ SL Y := by
  by_cases hx : ∃ r0 ∈ L, r0.Xo = p.Xo
  · obtain ⟨r0, hm, hk⟩ := hx
    obtain ⟨i, hi⟩ := List.getElem?_of_mem hm
    have hfi := rfind_in (tk := tk) (b := b) (by omega) s hi
    rw [hk] at hfi
    rw [hfi, Option.bind_some, if_neg (by simp)]
    obtain ⟨C, Y, e, hmet, sY⟩ := racc_j1 (tk := tk) (b := b) s (by omega) hf hi hk (hu r0 hm) (out := A) (by omega)
    exact ⟨C, Y, e, ⟨[], C, r0, L.eraseIdx i, rfl, hmet, .inl ⟨rfl, hk, erase_perm hi⟩⟩, sY⟩
  · have hno : ∀ r ∈ L, r.Xo ≠ p.Xo := fun r hr he => hx ⟨r, hr, he⟩
    obtain ⟨j, e, _, _, _⟩ := rfind_out (tk := tk) (b := b) (by omega) s rk.toWK hno
    rw [e, Option.bind_some, if_pos (by simp)]
    obtain ⟨B, Y1, rest, e1, p1, s1, hbeg, hB⟩ := rbeg_eq (tk := tk) hb.1 s (by omega) rk hno cl
    show ∃ O Y, (ZN (RC tk b L) (rK p.Xo) cl).bind _ = _ ∧ _
    rw [e1, Option.bind_some, if_pos (limk (show (A.map rR).length + (B.map rR).length < _ by rw [List.length_map, List.length_map]; omega))]
    have hl1 := p1.length_eq
    simp only [List.length_cons] at hl1
    have hY1 : Y1.length ≤ 4096 := by
      rcases hbeg with ⟨h1, _, h2⟩ | ⟨_, m, _, _, _, h2⟩
      · subst h2; omega
      · have := h2.length_eq; simp only [List.length_cons] at this; omega
    have hm := p1.mem_iff.2 (List.mem_cons_self)
    obtain ⟨i, hi⟩ := List.getElem?_of_mem hm
    have ur0 : UR (stt p.Xo cl tk) := ⟨by show (0 : Int) ≤ 0 ∧ (0 : Int) < _; omega, by show (0 : Int) ≤ 0 ∧ (0 : Int) < _; omega, htk, htk⟩
    obtain ⟨C, Y, e2, hmet, sY⟩ := racc_j1 (tk := tk) (b := b) s1 hY1 hf hi rfl ur0 (out := A ++ B) (by rw [List.length_append]; omega)
    have hrest : (Y1.eraseIdx i).Perm rest := ((erase_perm hi).symm.trans p1).cons_inv
    have hmet2 : Met b p (wth (stt p.Xo cl tk) p tk) rest C Y := by
      rcases hmet with ⟨h1, h2, h3⟩ | ⟨h1, h2, h3, h4⟩ | ⟨h1, h2, h3, h4⟩
      · exact .inl ⟨h1, h2, h3.trans hrest⟩
      · exact .inr (.inl ⟨h1, h2, h3, h4.trans hrest⟩)
      · exact .inr (.inr ⟨h1, h2, h3, h4.trans (hrest.cons _)⟩)
    refine ⟨B ++ C, Y, ?_, ⟨B, C, _, rest, rfl, hmet2, .inr ⟨hno, rfl, hbeg⟩⟩, sY⟩
    rw [← List.append_assoc, ← e2, List.map_append]
    rfl
theorem racc_wrong {r : Xq} {p : XC} (hr : kr p.Xo = false) (cl T : Int) : Yo r (rP p) cl T = some ([], 2, r) := by
  unfold Yo
  show (JD (rK p.Xo)).bind _ = _
  rw [rright_eq, Option.bind_some, hr, if_pos (by decide)]
theorem racc_old {tk : Int} {b : Bd} (hb : 1 ≤ b.Xz ∧ b.Xz ≤ 4096) {L : List Rc} (s : SL L) (hL : (L.length : Int) ≤ b.Xz) (hu : ∀ r ∈ L, UR r) (htk : 0 ≤ tk ∧ tk < 18446744073709551616) {p : XC} (hf : 0 ≤ p.XO ∧ p.XO < 256) (rk : RK p.Xo) (cl : Int) {T : Int} (ht : T < tk) :
    ∃ O Y, Yo (RC tk b L) (rP p) cl T = some (O.map rR, 0, RC tk b Y) ∧ Acc b tk p cl L O Y ∧ SL Y := by
  obtain ⟨O, Y, e, a⟩ := racc_in (tk := tk) hb s hL hu htk hf rk cl (A := []) (by simp)
  refine ⟨O, Y, ?_, a⟩
  unfold Yo
  show (JD (rK p.Xo)).bind _ = _
  rw [rright_eq, Option.bind_some, rk.right, if_neg (by decide), radvance_old ht, Option.bind_some]
  exact e
theorem racc_new {tk : Int} {b : Bd} (ub : UB b) (hb : 1 ≤ b.Xz ∧ b.Xz ≤ 4096) {L : List Rc} (s : SL L) (hL : (L.length : Int) ≤ b.Xz) (hu : ∀ r ∈ L, UR r) {p : XC} (hf : 0 ≤ p.XO ∧ p.XO < 256) (rk : RK p.Xo) (cl : Int) {T : Int} (hT : 0 ≤ T ∧ T < 18446744073709551616) (ht : tk ≤ T) :
    ∃ O Y, Yo (RC tk b L) (rP p) cl T = some ((adv b T L ++ O).map rR, 0, RC T b Y) ∧ Acc b T p cl (L.filter (fun r => !dueB b T r)) O Y ∧ SL Y := by
  have hfl := List.length_filter_le (fun r => !dueB b T r) L
  obtain ⟨O, Y, e, a⟩ := racc_in (tk := T) hb (s.sub (List.filter_sublist (p := fun r => !dueB b T r))) (by omega) (fun r hr => hu r (List.mem_filter.1 hr).1) hT hf rk cl (A := adv b T L) (by have := adv_len (b := b) (tick := T) (xs := L); omega)
  refine ⟨O, Y, ?_, a⟩
  unfold Yo
  show (JD (rK p.Xo)).bind _ = _
  rw [rright_eq, Option.bind_some, rk.right, if_neg (by decide), radvance_eq ub s (by omega) hu ht, Option.bind_some]
  exact e
theorem fl_key {xs : List Rc} (h : FL xs) {x y : Rc} (hx : x ∈ xs) (hy : y ∈ xs) (hk : x.Xo = y.Xo) : x = y := by
  obtain ⟨i, hi⟩ := List.getElem?_of_mem hx
  obtain ⟨j, hj⟩ := List.getElem?_of_mem hy
  have hil := (List.getElem?_eq_some_iff.1 hi).1
  have hjl := (List.getElem?_eq_some_iff.1 hj).1
  have hp := List.pairwise_iff_getElem.1 h.ne
  rcases Nat.lt_trichotomy i j with hl | hl | hl
  · have := hp i j hil hjl hl
    rw [(List.getElem?_eq_some_iff.1 hi).2, (List.getElem?_eq_some_iff.1 hj).2] at this
    exact (this hk).elim
  · subst hl; rw [hi] at hj; injection hj
  · have := hp j i hjl hil hl
    rw [(List.getElem?_eq_some_iff.1 hi).2, (List.getElem?_eq_some_iff.1 hj).2] at this
    exact (this hk.symm).elim
theorem acc_det {b : Bd} {tk cl : Int} {p : XC} {xs ys O O' zs zs' : List Rc} (h : FL xs) (hp : xs.Perm ys) (h1 : Acc b tk p cl xs O zs) (h2 : Acc b tk p cl ys O' zs') : O = O' ∧ zs.Perm zs' := by
  obtain ⟨B, C, r0, rest, rfl, m1, o1⟩ := h1
  obtain ⟨B', C', r0', rest', rfl, m2, o2⟩ := h2
  have key : B = B' ∧ r0 = r0' ∧ rest.Perm rest' := by
    rcases o1 with ⟨b1, k1, p1⟩ | ⟨n1, s1, g1⟩ <;> rcases o2 with ⟨b2, k2, p2⟩ | ⟨n2, s2, g2⟩
    · have e : r0 = r0' := fl_key h (p1.mem_iff.2 List.mem_cons_self) (hp.mem_iff.2 (p2.mem_iff.2 List.mem_cons_self)) (by rw [k1, k2])
      subst e
      exact ⟨by rw [b1, b2], rfl, (p1.symm.trans (hp.trans p2)).cons_inv⟩
    · exact (n2 r0 (hp.mem_iff.1 (p1.mem_iff.2 List.mem_cons_self)) k1).elim
    · exact (n1 r0' (hp.mem_iff.2 (p2.mem_iff.2 List.mem_cons_self)) k2).elim
    · have hl := hp.length_eq
      rcases g1 with ⟨f1, b1, q1⟩ | ⟨f1, m, hm, hmin, b1, q1⟩ <;> rcases g2 with ⟨f2, b2, q2⟩ | ⟨f2, m', hm', hmin', b2, q2⟩
      · subst q1; subst q2
        exact ⟨by rw [b1, b2], by rw [s1, s2], hp⟩
      · rw [hl] at f1; exact (f1 f2).elim
      · rw [hl] at f1; exact (f2 f1).elim
      · have hm2 := hp.mem_iff.2 hm'
        have e : m = m' := by
          by_cases hk : m.Xo = m'.Xo
          · exact fl_key h hm hm2 hk
          · exact (hmin' m (hp.mem_iff.1 hm) (LT.tot (h.rk m hm) (h.rk m' hm2) hk (hmin m' hm2))).elim
        subst e
        exact ⟨by rw [b1, b2], by rw [s1, s2], (q1.symm.trans (hp.trans q2)).cons_inv⟩
  obtain ⟨k1, k2, k3⟩ := key
  subst k1; subst k2
  rcases m1 with ⟨a1, a2, a3⟩ | ⟨a1, a2, a3, a4⟩ | ⟨a1, a2, a3, a4⟩ <;> rcases m2 with ⟨c1, c2, c3⟩ | ⟨c1, c2, c3, c4⟩ | ⟨c1, c2, c3, c4⟩
  · exact ⟨by rw [a2, c2], a3.trans (k3.trans c3.symm)⟩
  · rw [a1] at c1; cases c1
  · rw [a1] at c1; cases c1
  · rw [a1] at c1; cases c1
  · exact ⟨by rw [a3, c3], a4.trans (k3.trans c4.symm)⟩
  · exact (c2 a2).elim
  · rw [a1] at c1; cases c1
  · exact (a2 c2).elim
  · exact ⟨by rw [a3, c3], a4.trans ((k3.cons _).trans c4.symm)⟩
theorem acc_ur {b : Bd} {tk cl : Int} {p : XC} {xs O ys : List Rc} (h : Acc b tk p cl xs O ys) (hu : ∀ r ∈ xs, UR r) (ht : 0 ≤ tk ∧ tk < 18446744073709551616) : ∀ r ∈ ys, UR r := by
  obtain ⟨B, C, r0, rest, rfl, hmet, hor⟩ := h
  have hrest : ∀ r ∈ rest, UR r := fun r hr => by
    rcases hor with ⟨_, _, h⟩ | ⟨_, _, ⟨_, _, rfl⟩ | ⟨_, q, _, _, _, h⟩⟩
    · exact hu r (h.mem_iff.2 (List.mem_cons_of_mem _ hr))
    · exact hu r hr
    · exact hu r (h.mem_iff.2 (List.mem_cons_of_mem _ hr))
  have h0 : UR r0 := by
    rcases hor with ⟨_, _, h⟩ | ⟨_, h, _⟩
    · exact hu r0 (h.mem_iff.2 List.mem_cons_self)
    · rw [h]; exact ⟨by show (0 : Int) ≤ 0 ∧ (0 : Int) < _; omega, by show (0 : Int) ≤ 0 ∧ (0 : Int) < _; omega, ht, ht⟩
  have hw : UR (wth r0 p tk) := ⟨pl_rng, pl_rng, h0.f, by
    show 0 ≤ gmax r0.Ya tk ∧ gmax r0.Ya tk < _
    have := h0.l
    unfold gmax; split <;> omega⟩
  intro r hr
  rcases hmet with ⟨_, _, h⟩ | ⟨_, _, _, h⟩ | ⟨_, _, _, h⟩
  · exact hrest r (h.mem_iff.1 hr)
  · exact hrest r (h.mem_iff.1 hr)
  · rcases List.mem_cons.1 (h.mem_iff.1 hr) with hr | hr
    · rw [hr]; exact hw
    · exact hrest r hr
end Go.Proofs.YtkpnocgfhipidaaGreat
