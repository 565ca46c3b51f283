/- Plain text: the reference's calls. -/
import Derived.Test.YtkpnocgfhipidaaGreatIP
set_option linter.unusedVariables false
namespace Go.Proofs.YtkpnocgfhipidaaGreat
open Go Go.Ox Go.Ox.Ring
open Classical in
theorem ref_L (a : Xd) (k : Nat) : ∀ j : Nat, j ≤ 16 → 16 < k + j → Jr a k j = some (decide (a.YQ = true ∨ ∀ i, j ≤ i → i < 16 → a.f_B.getD i 0 = 0)) := by
  induction k with
  | zero => intro j h1 h2; omega
  | succ k ih =>
    intro j h1 h2
    have e0 : Jr a (k + 1) j = Ub (Jr a k) a j := rfl
    rw [e0]
    unfold Ub
    by_cases h : j < 16
    · have e1 : IntKind.i64.wrap ((j : Int) + 1) = ((j + 1 : Nat) : Int) := by rw [wi64 (by omega) (by omega)]; omega
      rw [if_pos (by simp; omega)]
      by_cases h6 : a.YQ = true
      · rw [if_neg (by simp [h6])]
        unfold Kx
        rw [if_neg (by decide), e1, ih (j + 1) (by omega) (by omega)]
        congr 1
        simp [h6]
      · rw [if_pos (by simp [h6])]
        have hg : gidxA 16 a.f_B (j : Int) = some (a.f_B.getD j 0) := by unfold gidxA; rw [if_pos ⟨by omega, by omega⟩]; simp
        rw [hg, Option.bind_some]
        unfold Kx
        by_cases hz : a.f_B.getD j 0 = 0
        · rw [if_neg (by simp only [hz]; decide), e1, ih (j + 1) (by omega) (by omega)]
          congr 1
          rw [decide_eq_decide]
          constructor
          · intro hh
            refine .inr fun i h3 h4 => ?_
            by_cases hij : i = j
            · subst hij; exact hz
            · exact (hh.resolve_left h6) i (by omega) h4
          · intro hh
            exact .inr fun i h3 h4 => (hh.resolve_left h6) i (by omega) h4
        · rw [if_pos (by simp only [bne_iff_ne]; exact hz)]
          congr 1
          symm
          rw [decide_eq_false_iff_not]
          exact fun hh => hz ((hh.resolve_left h6) j (by omega) h)
    · rw [if_neg (by simp; omega)]
      congr 1
      symm
      rw [decide_eq_true_iff]
      exact .inr fun i h3 h4 => by omega
theorem addr_both (a : Xd) : ∃ b, ZC a = some b ∧ UX a = some b := by
  refine ⟨_, addr_right a, ?_⟩
  have h := ref_L a fuel0 4 (by omega) (by unfold fuel0; omega)
  refine (show UX a = _ from h).trans ?_
  congr 1
  rw [decide_eq_decide]
  exact Iff.rfl
theorem Xbv (k : Xe) (p q : Int) : Yg k ⟨k.XL, k.XN, k.X2, p, q⟩ = (k.X6 == p && k.X1 == q) := by
  simp [Yg, Xa0]
theorem key_right (k : Xe) : ∃ b, Yn k = some b ∧ JD (rK k) = some b := by
  obtain ⟨b1, s1, s2⟩ := addr_both k.XL
  obtain ⟨b2, d1, d2⟩ := addr_both k.XN
  unfold Yn JD YG Kw YK J6
  unfold Ud UU VB VL Kg Ky Uc Uw
  simp only [rK, s1, s2, d1, d2, Xbv]
  by_cases h3 : k.XL.YQ = k.XN.YQ <;> by_cases h4 : k.X2 = 6 <;> by_cases h5 : k.X2 = 17 <;> by_cases h6 : k.X2 = 1 <;> by_cases h7 : k.X2 = 58 <;> by_cases h8 : k.X6 = 0 <;> cases b1 <;> cases b2 <;> simp [h3, h4, h5, h6, h7, h8]
theorem rput_L : ∀ (k n : Nat) (v : Int), U v → n ≤ 8 → n < k → K5 k v (n : Int) = some (put n v)
  | 0, n, v, hv, h8, hk => by omega
  | k + 1, 0, v, hv, h8, hk => by
    show K1 (K5 k) v _ = _
    unfold K1
    rw [if_pos (by simp)]; rfl
  | k + 1, n + 1, v, hv, h8, hk => by
    have h := hv.1; have h' := hv.2
    show K1 (K5 k) v _ = _
    unfold K1
    have e : IntKind.i64.wrap (((n + 1 : Nat) : Int) - 1) = (n : Int) := by rw [wi64 (by omega) (by omega)]; omega
    rw [if_neg (by simp; omega), tdiv_nn h, tmod_nn h, wu64i (by omega) (by omega), e, rput_L k n (v / 256) ⟨by omega, by omega⟩ (by omega) (by omega), Option.bind_some, if_pos (lim_le (by simp [put_len]; omega)), wu8i (by omega) (by omega)]
    rfl
theorem rput_eq {v : Int} (hv : U v) {n : Int} (h0 : 0 ≤ n) (hn : n ≤ 8) : VH v n = some (put n.toNat v) := by
  obtain ⟨m, rfl⟩ := Int.eq_ofNat_of_zero_le h0
  exact rput_L _ _ _ hv (by omega) (by unfold fuel0; omega)
def vl (a : Int) (b : List Int) : Int := b.foldl (fun a x => a * 256 + x) a
def val (b : List Int) : Int := vl 0 b
theorem rright_eq (k : Xe) : JD (rK k) = some (kr k) := by
  obtain ⟨b, h1, h2⟩ := key_right k
  rw [h2, ← h1, kright_eq]
theorem rab_eq (a : Xd) : Vd a = some (ab a) := by
  obtain ⟨six, B⟩ := a
  cases six <;> kernel_rfl
theorem rkb_eq {k : Xe} (w : WK k) : UQ (rK k) = some (kb k) := by
  have rp : ∀ v : Int, 0 ≤ v ∧ v < 65536 → VH (IntKind.u64.wrap v) 2 = some (pb (IntKind.u64.wrap v)) := fun v h => by
    rw [rput_eq (by rw [wu64i h.1 (by omega)]; exact ⟨h.1, by omega⟩) (by decide) (by decide), pb_put h]
    rfl
  have j1 : ∀ v, Kv (rK k) [v] = some ([v] ++ ab k.XL ++ ab k.XN ++ [k.X2] ++ pb (IntKind.u64.wrap k.X6) ++ pb (IntKind.u64.wrap k.X1)) := fun v => by
    have h1 := ab_len k.XL; have h2 := ab_len k.XN; have h3 := pb_len (IntKind.u64.wrap k.X6); have h4 := pb_len (IntKind.u64.wrap k.X1)
    unfold Kv rK
    dsimp only
    rw [rab_eq, Option.bind_some, if_pos (limk (by simp; omega)), rab_eq, Option.bind_some, if_pos (limk (by simp; omega)), if_pos (limk (by simp; omega)), rp _ w.sp, Option.bind_some, if_pos (limk (by simp; omega)), rp _ w.dp, Option.bind_some, if_pos (limk (by simp; omega))]
  unfold UQ kb kbs
  rw [rright_eq, Option.bind_some]
  cases kr k with
  | false => rfl
  | true =>
    rw [if_neg (by decide), if_pos rfl]
    show (if k.XL.YQ = true then _ else _) = _
    split
    · exact j1 6
    · exact j1 4
theorem rcmp_eq {x y : Xe} (wx : WK x) (wy : WK y) : ∃ v, Vk (rK x) (rK y) = some v ∧ decide (v < 0) = decide (kc x y < 0) := by
  unfold Vk
  rw [rkb_eq wx, Option.bind_some, rkb_eq wy, Option.bind_some, ByteArray.toList_eq, ByteArray.toList_eq, str_list, str_list, less_lx]
  show ∃ v, (if decide (kc x y < 0) = true then some (-1) else if (!(decide (kc x y < 0) || _)) = true then some 1 else some 0) = some v ∧ _
  by_cases h : kc x y < 0
  · rw [if_pos (dT h)]
    exact ⟨_, rfl, by rw [dT h]; rfl⟩
  · rw [if_neg (dF h)]
    split
    · exact ⟨_, rfl, by rw [decide_eq_false h]; rfl⟩
    · exact ⟨_, rfl, by rw [decide_eq_false h]; rfl⟩
theorem rq_refl (r : Rc) : Kd (rR r) (rR r) = true := by
  have h : Vm (rK r.Xo) (rK r.Xo) = true := VZ r.Xo
  have h2 : (rR r).Xo = rK r.Xo := rfl
  simp [Kd, h2, h]
structure SL (L : List Rc) : Prop extends FL L where
  so : L.Pairwise (LT k0)
theorem lt0 {x y : Rc} : LT k0 x y ↔ kc x.Xo y.Xo < 0 := by
  unfold LT
  rw [lk_lt]
  show (0 : Int) < 0 ∨ ((0 : Int) = 0 ∧ kc x.Xo y.Xo < 0) ↔ _
  simp
theorem SL.al {xs : List Rc} (h : FL xs) : SL (al xs) := ⟨h.perm (st_perm _ _).symm, st_lt _ h⟩
theorem SL.sub {xs ys : List Rc} (h : SL xs) (s : List.Sublist ys xs) : SL ys := ⟨h.toFL.sub s, h.so.sublist s⟩
theorem al_of {xs L : List Rc} (h : SL L) (p : L.Perm xs) : al xs = L := st_uniq _ (h.toFL.perm p) p h.so
theorem rfind_L {tk : Int} {b : Bd} {L : List Rc} (hL : L.length ≤ 5000) (hr : ∀ r ∈ L, WK r.Xo) {k : Xe} (hk : WK k) : ∀ (f t : Nat), t ≤ L.length → L.length < f + t → (∀ r ∈ L.take t, kc r.Xo k < 0) →
    ∃ (j : Nat) (ok : Bool), Y4 (RC tk b L) (rK k) f (t : Int) = some ((j : Int), ok, RC tk b L) ∧ j ≤ L.length ∧ (∀ r ∈ L.take j, kc r.Xo k < 0) ∧ ((j = L.length ∧ ok = false) ∨ ∃ r, L[j]? = some r ∧ ¬ kc r.Xo k < 0 ∧ ok = Yg r.Xo k)
  | 0, t, h1, h2, _ => by omega
  | f + 1, t, h1, h2, h => by
    have e0 : Y4 (RC tk b L) (rK k) (f + 1) (t : Int) = JW (Y4 (RC tk b L) (rK k) f) (RC tk b L) (rK k) (t : Int) := rfl
    rw [e0]
    unfold JW
    have hlen : (RC tk b L).f_L.length = L.length := by simp [RC]
    by_cases hl : t = L.length
    · subst hl
      rw [hlen, if_neg (dF (by omega))]
      unfold ZS ZQ
      rw [hlen, if_neg (by decide), if_neg (dF (by omega))]
      exact ⟨_, false, rfl, Nat.le_refl _, h, .inl ⟨rfl, rfl⟩⟩
    · obtain ⟨r, hr1⟩ : ∃ r, L[t]? = some r := ⟨_, List.getElem?_eq_getElem (by omega)⟩
      have hg : gidx (RC tk b L).f_L (t : Int) = some (rR r) := rat hr1
      obtain ⟨v, hv, hd⟩ := rcmp_eq (hr r (List.mem_of_getElem? hr1)) hk
      have hv2 : Vk (rR r).Xo (rK k) = some v := hv
      have htk : L.take (t + 1) = L.take t ++ [r] := by rw [List.take_add_one, hr1]; rfl
      rw [hlen, if_pos (dT (by omega)), hg, Option.bind_some, hv2, Option.bind_some, hd]
      unfold ZS ZQ
      by_cases hc : kc r.Xo k < 0
      · rw [if_pos (dT hc), nx4 (by omega)]
        refine rfind_L hL hr hk f (t + 1) (by omega) (by omega) fun x hx => ?_
        rw [htk] at hx
        rcases List.mem_append.1 hx with hx | hx
        · exact h x hx
        · rw [List.mem_singleton.1 hx]; exact hc
      · rw [if_neg (dF hc), hlen, if_pos (dT (by omega)), hg, Option.bind_some]
        exact ⟨t, _, rfl, by omega, h, .inr ⟨r, hr1, hc, rfl⟩⟩
theorem rfind_in {tk : Int} {b : Bd} {L : List Rc} (hL : L.length ≤ 5000) (s : SL L) {i : Nat} {r : Rc} (hi : L[i]? = some r) : YJ (RC tk b L) (rK r.Xo) = some ((i : Int), true, RC tk b L) := by
  obtain ⟨j, ok, e, h1, h2, h3⟩ := rfind_L (tk := tk) (b := b) hL (fun r hr => (s.rk r hr).toWK) (s.rk r (List.mem_of_getElem? hi)).toWK fuel0 0 (by omega) (by unfold fuel0; omega) (by simp)
  have hil := (List.getElem?_eq_some_iff.1 hi).1
  have hij : j ≤ i := Nat.le_of_not_lt fun hlt => by
    have hm : r ∈ L.take j := List.mem_of_getElem? (i := i) (by rw [List.getElem?_take_of_lt hlt]; exact hi)
    have := h2 r hm
    rw [kc_refl] at this; omega
  rcases h3 with ⟨h3, _⟩ | ⟨r', hr', hn, hok⟩
  · omega
  · have : j = i := by
      rcases Nat.lt_or_ge j i with h | h
      · have hp := List.pairwise_iff_getElem.1 s.so j i (by omega) hil h
        rw [(List.getElem?_eq_some_iff.1 hr').2, (List.getElem?_eq_some_iff.1 hi).2] at hp
        exact (hn (lt0.1 hp)).elim
      · omega
    subst this
    rw [hi] at hr'; injection hr' with hr'; subst hr'
    rw [hok, VZ] at e
    exact e
theorem rfind_out {tk : Int} {b : Bd} {L : List Rc} (hL : L.length ≤ 5000) (s : SL L) {k : Xe} (wk : WK k) (hk : ∀ r ∈ L, r.Xo ≠ k) : ∃ j : Nat, YJ (RC tk b L) (rK k) = some ((j : Int), false, RC tk b L) ∧ j ≤ L.length ∧ (∀ r ∈ L.take j, kc r.Xo k < 0) ∧ (RK k → ∀ r ∈ L.drop j, kc k r.Xo < 0) := by
  obtain ⟨j, ok, e, h1, h2, h3⟩ := rfind_L (tk := tk) (b := b) hL (fun r hr => (s.rk r hr).toWK) wk fuel0 0 (by omega) (by unfold fuel0; omega) (by simp)
  rcases h3 with ⟨h3, h4⟩ | ⟨r', hr', hn, hok⟩
  · subst h4
    refine ⟨j, e, h1, h2, fun _ r hr => ?_⟩
    rw [List.drop_of_length_le (by omega)] at hr; cases hr
  · have hm := List.mem_of_getElem? hr'
    have hq : Yg r'.Xo k = false := by
      cases h : Yg r'.Xo k with
      | false => rfl
      | true => exact (hk r' hm ((qkey_iff (s.rk r' hm).toWK wk).1 h)).elim
    rw [hok, hq] at e
    refine ⟨j, e, h1, h2, fun rk r hr => ?_⟩
    have hjl := (List.getElem?_eq_some_iff.1 hr').1
    have hd : L.drop j = r' :: L.drop (j + 1) := by rw [List.drop_eq_getElem_cons hjl, (List.getElem?_eq_some_iff.1 hr').2]
    have h5 : kc k r'.Xo < 0 := by
      have a1 := kc_neg r'.Xo k
      have a2 := kc_ne (s.rk r' hm) rk (hk r' hm)
      omega
    have hso : (L.drop j).Pairwise (LT k0) := s.so.sublist (List.drop_sublist _ _)
    rw [hd] at hr hso
    rcases List.mem_cons.1 hr with hr | hr
    · rw [hr]; exact h5
    · exact lx_lt_trans _ _ _ h5 (lt0.1 (List.rel_of_pairwise_cons hso hr))
theorem ins_sl {L : List Rc} (s : SL L) {x : Rc} (rk : RK x.Xo) {j : Nat} (h1 : ∀ r ∈ L.take j, kc r.Xo x.Xo < 0) (h2 : ∀ r ∈ L.drop j, kc x.Xo r.Xo < 0) : SL (L.take j ++ [x] ++ L.drop j) ∧ (L.take j ++ [x] ++ L.drop j).Perm (x :: L) := by
  have hp : (L.take j ++ [x] ++ L.drop j).Perm (x :: L) := by
    rw [List.append_assoc]
    refine (List.perm_middle (l₁ := L.take j) (l₂ := L.drop j) (a := x)).trans ?_
    rw [List.take_append_drop]
  have hne : ∀ r ∈ L, x.Xo ≠ r.Xo := fun r hr he => by
    rw [← List.take_append_drop j L] at hr
    rcases List.mem_append.1 hr with hr | hr
    · have := h1 r hr; rw [← he, kc_refl] at this; omega
    · have := h2 r hr; rw [← he, kc_refl] at this; omega
  have hf : FL (x :: L) := ⟨fun r hr => by
    rcases List.mem_cons.1 hr with hr | hr
    · rw [hr]; exact rk
    · exact s.rk r hr, List.pairwise_cons.2 ⟨hne, s.ne⟩⟩
  refine ⟨⟨hf.perm hp.symm, ?_⟩, hp⟩
  have hso := s.so
  rw [← List.take_append_drop j L, List.pairwise_append] at hso
  obtain ⟨s1, s2, s3⟩ := hso
  rw [List.append_assoc, List.pairwise_append]
  refine ⟨s1, List.pairwise_cons.2 ⟨fun r hr => lt0.2 (h2 r hr), s2⟩, fun a ha c hc => ?_⟩
  rcases List.mem_cons.1 hc with hc | hc
  · rw [hc]; exact lt0.2 (h1 a ha)
  · exact s3 a ha c hc
theorem erase_perm {L : List Rc} {i : Nat} {x : Rc} (hi : L[i]? = some x) : L.Perm (x :: L.eraseIdx i) := by
  have hil := (List.getElem?_eq_some_iff.1 hi).1
  rw [List.eraseIdx_eq_take_drop_succ]
  have h := List.take_append_drop i L
  rw [List.drop_eq_getElem_cons hil, (List.getElem?_eq_some_iff.1 hi).2] at h
  conv => lhs; rw [← h]
  exact List.perm_middle
theorem after {L : List Rc} (s : SL L) {i : Nat} {x y : Rc} (hi : L[i]? = some x) (hy : y ∈ L.drop (i + 1)) : LT k0 x y := by
  have hil := (List.getElem?_eq_some_iff.1 hi).1
  have hso : (L.drop i).Pairwise (LT k0) := s.so.sublist (List.drop_sublist _ _)
  rw [List.drop_eq_getElem_cons hil, (List.getElem?_eq_some_iff.1 hi).2] at hso
  exact List.rel_of_pairwise_cons hso hy
theorem erase_mem {L : List Rc} {i : Nat} {y : Rc} (h : y ∈ L.eraseIdx i) : y ∈ L.take i ∨ y ∈ L.drop (i + 1) := by
  rw [List.eraseIdx_eq_take_drop_succ] at h
  exact List.mem_append.1 h
theorem adv_cons {b : Bd} {T : Int} {L : List Rc} (s : SL L) {i : Nat} {x : Rc} (hi : L[i]? = some x) (hd : du b x ≤ T) (hm : ∀ r ∈ L, du b x ≤ du b r) (hf : ∀ r ∈ L.take i, du b r ≠ du b x) : adv b T L = rs x (rsn b x) :: adv b T (L.eraseIdx i) := by
  have s2 : SL (L.eraseIdx i) := s.sub (List.eraseIdx_sublist _ _)
  have key : st (du b) (L.filter (dueB b T)) = x :: st (du b) ((L.eraseIdx i).filter (dueB b T)) := by
    refine st_uniq _ (s.toFL.filter _) ?_ ?_
    · refine ((st_perm _ _).cons x).trans ?_
      have h1 := (erase_perm hi).filter (dueB b T)
      have h2 : dueB b T x = true := dT hd
      simp only [List.filter_cons, h2, if_true] at h1
      exact h1.symm
    · refine List.pairwise_cons.2 ⟨fun y hy => ?_, st_lt _ (s2.toFL.filter _)⟩
      have hy2 := (List.mem_filter.1 ((st_perm _ _).mem_iff.1 hy)).1
      have hyL : y ∈ L := (List.eraseIdx_sublist L i).subset hy2
      have h3 := hm y hyL
      refine lk_lt.2 ?_
      rcases erase_mem hy2 with h | h
      · have := hf y h
        left; omega
      · have := lt0.1 (after s hi h)
        by_cases he : du b x = du b y
        · exact .inr ⟨he, this⟩
        · left; omega
  unfold adv
  rw [key]; rfl
theorem radv_L2 {tk : Int} {b : Bd} (ub : UB b) {L : List Rc} (hL : L.length ≤ 4096) (hu : ∀ r ∈ L, UR r) {m : Int} (out) (rec) : ∀ (f t : Nat), t ≤ L.length → L.length < f + t → (∀ r ∈ L.take t, du b r ≠ m) → (∃ r ∈ L, du b r = m) →
    ∃ (i : Nat) (x : Rc), L[i]? = some x ∧ du b x = m ∧ (∀ r ∈ L.take i, du b r ≠ m) ∧ YV out rec (m, true, RC tk b L) f (t : Int) = Zk out rec (m, true, RC tk b L) (i : Int) (rsn b x)
  | 0, t, h1, h2, _, _ => by omega
  | f + 1, t, h1, h2, h, he => by
    have e0 : YV out rec (m, true, RC tk b L) (f + 1) (t : Int) = Z5 (YV out rec (m, true, RC tk b L) f) out rec (m, true, RC tk b L) (t : Int) := rfl
    rw [e0]
    have hlt : t < L.length := Nat.lt_of_not_le fun hge => by
      obtain ⟨r, hr, hd⟩ := he
      rw [List.take_of_length_le hge] at h
      exact h r hr hd
    obtain ⟨r, hr⟩ : ∃ r, L[t]? = some r := ⟨_, List.getElem?_eq_getElem hlt⟩
    have hg : gidx (RC tk b L).f_L (t : Int) = some (rR r) := rat hr
    have ur := hu r (List.mem_of_getElem? hr)
    have hd : Zc (RC tk b L) (rR r) = some (du b r) := rdue_eq ub ur _ _
    have hid : ZF (RC tk b L) (rR r) = some (idl b r) := ridle_eq ub ur _ _
    have htk : L.take (t + 1) = L.take t ++ [r] := by rw [List.take_add_one, hr]; rfl
    unfold Z5
    dsimp only
    rw [hg, Option.bind_some, hd, Option.bind_some]
    by_cases hm : du b r = m
    · rw [if_neg (by simp [hm]), Option.bind_some, hid, Option.bind_some]
      refine ⟨t, r, hr, hm, h, ?_⟩
      unfold rsn
      by_cases hq : idl b r = du b r
      · rw [if_pos (by rw [hq, hm]; simp), if_pos hq]
      · rw [if_neg (by rw [← hm]; simpa using hq), if_neg hq]
    · rw [if_pos (by simpa using hm), nx4 (by omega)]
      refine radv_L2 ub hL hu out rec f (t + 1) (by omega) (by omega) (fun x hx => ?_) he
      rw [htk] at hx
      rcases List.mem_append.1 hx with hx | hx
      · exact h x hx
      · rw [List.mem_singleton.1 hx]; exact hm
theorem radv_L1 {tk T : Int} {b : Bd} (ub : UB b) : ∀ (f : Nat) (L : List Rc) (out : List Rc), SL L → L.length ≤ 4096 → (∀ r ∈ L, UR r) → L.length < f → out.length + L.length ≤ 5000 →
    Ye T f tk b.Xz b.XI b.XA b.Xk b.Xr (L.map rR) (out.map rR) = some ((out ++ adv b T L).map rR, RC tk b (L.filter (fun r => !dueB b T r)))
  | 0, L, out, _, _, _, h, _ => by omega
  | f + 1, L, out, s, hL, hu, h, ho => by
    show ZY (Ye T f) T tk b.Xz b.XI b.XA b.Xk b.Xr (L.map rR) (out.map rR) = _
    unfold ZY
    obtain ⟨m, ok, e, hn⟩ := rnext_spec (tk := tk) ub hu hL
    show (J3 (RC tk b L)).bind _ = _
    rw [e, Option.bind_some]
    have none : (∀ r ∈ L, ¬ du b r ≤ T) → some ((out.map rR), RC tk b L) = some ((out ++ adv b T L).map rR, RC tk b (L.filter (fun r => !dueB b T r))) := fun hno => by
      have h1 : L.filter (dueB b T) = [] := List.filter_eq_nil_iff.2 fun r hr => by simpa [dueB] using hno r hr
      have h2 : L.filter (fun r => !dueB b T r) = L := List.filter_eq_self.2 fun r hr => by simpa [dueB] using hno r hr
      have h3 : adv b T L = [] := by unfold adv; rw [h1, show st (du b) [] = [] from (st_perm _ _).eq_nil]; rfl
      rw [h2, h3, List.append_nil]
    rcases hn with ⟨e1, e2, e3⟩ | ⟨e1, ex, e3⟩
    · subst e2
      unfold Zl
      rw [if_pos (by simp), if_pos rfl]
      exact none (fun r hr => by rw [e1] at hr; cases hr)
    · subst e1
      rw [if_neg (by simp)]
      unfold Zl
      by_cases hT : T < m
      · rw [if_pos (dT hT)]
        exact none (fun r hr => by have := e3 r hr; omega)
      · rw [if_neg (dF hT)]
        obtain ⟨i, x, hi, hx, hf, e4⟩ := radv_L2 (tk := tk) ub hL hu (m := m) (out.map rR) (Ye T f) fuel0 0 (by omega) (by unfold fuel0; omega) (by simp) ex
        refine (show _ = _ from e4).trans ?_
        unfold Zk
        dsimp only
        have hle : (L.eraseIdx i).length + 1 = L.length := by have := (erase_perm hi).length_eq; simp only [List.length_cons] at this; omega
        rw [rend_eq (by omega) hi, Option.bind_some, if_pos (limk (by simp; omega))]
        have s2 : SL (L.eraseIdx i) := s.sub (List.eraseIdx_sublist _ _)
        have ih := radv_L1 ub (tk := tk) (T := T) f (L.eraseIdx i) (out ++ [rs x (rsn b x)]) s2 (by omega) (fun r hr => hu r ((List.eraseIdx_sublist L i).subset hr)) (by omega) (by simp; omega)
        have hxd : dueB b T x = true := dT (by omega)
        have hfil : (L.eraseIdx i).filter (fun r => !dueB b T r) = L.filter (fun r => !dueB b T r) := by
          have hil := (List.getElem?_eq_some_iff.1 hi).1
          have h8 := List.take_append_drop i L
          rw [List.drop_eq_getElem_cons hil, (List.getElem?_eq_some_iff.1 hi).2] at h8
          rw [List.eraseIdx_eq_take_drop_succ]
          conv => rhs; rw [← h8]
          simp [List.filter_append, hxd]
        rw [adv_cons s hi (by omega) (by rw [hx]; exact e3) (by rw [hx]; exact hf)]
        rw [hfil] at ih
        simp only [List.map_append, List.map_cons, List.map_nil, List.append_assoc, List.cons_append, List.nil_append] at ih ⊢
        exact ih
theorem radvance_eq {tk T : Int} {b : Bd} (ub : UB b) {L : List Rc} (s : SL L) (hL : L.length ≤ 4096) (hu : ∀ r ∈ L, UR r) (ht : tk ≤ T) : YN (RC tk b L) T = some ((adv b T L).map rR, RC T b (L.filter (fun r => !dueB b T r))) := by
  unfold YN
  rw [if_neg (dF (by show ¬ T < tk; omega))]
  have h := radv_L1 (tk := T) (T := T) ub fuel0 L [] s hL hu (by unfold fuel0; omega) (by simp; omega)
  simp only [List.map_nil, List.nil_append] at h
  exact h
theorem radvance_old {tk T : Int} {b : Bd} {L : List Rc} (ht : T < tk) : YN (RC tk b L) T = some ([], RC tk b L) := by
  unfold YN
  rw [if_pos (dT (by show T < tk; omega))]
end Go.Proofs.YtkpnocgfhipidaaGreat
