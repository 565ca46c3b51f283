/- The plain law of the chapter on IP's headers: options. No program's code is named here. -/
import Derived.Test.YtjfdfjmnajjjaaaAP
set_option linter.unusedVariables false
namespace Go.Proofs.Ytjfdfjmnajjjaaa
open Go Go.Ox Go.RowKit

theorem works_eq : F_law05_works = some true := by decide +kernel

/-! ### Strings that rows make -/
theorem nums_str : ∀ {xs : List Int}, Wf 256 xs → numsOfStr (strOfNums xs) = xs
  | [], _ => rfl
  | x :: xs, h => by
    have ih := nums_str (xs := xs) h.tail
    have hx := h.head
    simp only [numsOfStr, strOfNums, List.map_cons] at ih ⊢
    rw [ih]
    congr 1
    have : (UInt8.ofNat x.toNat).toNat = x.toNat := by
      rw [UInt8.toNat_ofNat']; exact Nat.mod_eq_of_lt (by omega)
    rw [this]; omega
theorem str_size (xs : List Int) : (strOfNums xs).size = xs.length := strOfNums_size xs
theorem gS {xs : List Int} (hw : Wf 256 xs) {i : Nat} (h : i < xs.length) : gidxS (strOfNums xs) (i : Int) = some xs[i] := by
  have hsz : i < (strOfNums xs).size := by rw [str_size]; exact h
  have hx := hw.get (List.getElem?_eq_getElem h)
  unfold gidxS
  rw [if_pos (by omega), Int.toNat_natCast, getElem?_pos (strOfNums xs) i hsz]
  have e : (strOfNums xs)[i] = UInt8.ofNat (xs[i].toNat) := by
    show (strOfNums xs).data[i] = _
    simp [strOfNums]
  rw [e, Option.map_some, UInt8.toNat_ofNat']
  congr 1
  rw [Nat.mod_eq_of_lt (by omega)]
  omega
theorem str_ext {a b : ByteArray} (h : a.data.toList = b.data.toList) : a = b := by
  cases a; cases b; simp at h; simpa using h
theorem cS {xs : List Int} {p q : Int} (h0 : 0 ≤ p) (h1 : p ≤ q) (h2 : q ≤ xs.length) : gcutS (strOfNums xs) p q = some (strOfNums ((xs.drop p.toNat).take (q.toNat - p.toNat))) := by
  unfold gcutS
  rw [if_pos ⟨h0, h1, by rw [str_size]; exact h2⟩]
  congr 1
  apply str_ext
  simp [strOfNums, List.map_drop, List.map_take]
theorem cSl {xs : List Int} {p : Int} (h0 : 0 ≤ p) (h1 : p ≤ xs.length) : gcutS (strOfNums xs) p ((strOfNums xs).size : Int) = some (strOfNums (xs.drop p.toNat)) := by
  rw [str_size, cS h0 h1 (Int.le_refl _)]
  congr 2
  exact List.take_of_length_le (by simp)
theorem eqS {xs ys : List Int} (hx : Wf 256 xs) (hy : Wf 256 ys) : ((strOfNums xs).toList == (strOfNums ys).toList) = (xs == ys) := by
  rw [ByteArray.toList_eq, ByteArray.toList_eq]
  by_cases h : xs = ys
  · subst h; simp
  · have : ¬ (strOfNums xs).data.toList = (strOfNums ys).data.toList := fun e => h (by
      have e2 : strOfNums xs = strOfNums ys := str_ext e
      rw [← nums_str hx, ← nums_str hy, e2])
    rw [beq_eq_false_iff_ne.2 this, beq_eq_false_iff_ne.2 h]
theorem eqS_same (xs : List Int) : ((strOfNums xs).toList == (strOfNums xs).toList) = true := by simp

/-! ### Options -/
def opts : Nat → List Int → Option (List T_ip_Option)
  | 0, _ => some []
  | k + 1, b => match b with
    | [] => some []
    | x :: r => if x = 0 then some [] else if x = 1 then opts k r else
      match r with
      | [] => none
      | n :: _ => if n < 2 ∨ (b.length : Int) < n then none else (opts k (b.drop n.toNat)).map (⟨x, (b.drop 2).take (n.toNat - 2)⟩ :: ·)
def rOpt (o : T_ip_Option) : T_ref05_Option := ⟨o.f_Kind, strOfNums o.f_Data⟩
theorem gcut_l {b : List Int} {p : Int} (h0 : 0 ≤ p) (h1 : p ≤ b.length) : gcut b p ((b).length) = some (b.drop p.toNat) := by
  rw [gcut_in h0 h1 (Int.le_refl _)]
  congr 1
  exact List.take_of_length_le (by simp)
theorem fopts : ∀ (k K : Nat) (b : List Int) (acc : List T_ip_Option), Wf 256 b → b.length ≤ k → k < K → b.length ≤ 1000 → acc.length + b.length ≤ 2000 →
    F_ip_Options_L1 K b acc = some (match opts k b with | some l => (acc ++ l, 0) | none => ([], 51))
  | k, 0, b, acc, _, _, h, _, _ => by omega
  | 0, K + 1, b, acc, hw, hk, h, hl, ha => by
    have : b = [] := List.eq_nil_of_length_eq_zero (by omega)
    subst this
    show F_ip_Options_l1 (F_ip_Options_L1 K) [] acc = _
    simp [F_ip_Options_l1, F_ip_Options_j1, opts]
  | k + 1, K + 1, b, acc, hw, hk, h, hl, ha => by
    show F_ip_Options_l1 (F_ip_Options_L1 K) b acc = _
    unfold F_ip_Options_l1
    match b, hw, hk, hl, ha with
    | [], _, _, _, _ => simp [F_ip_Options_j1, opts]
    | x :: r, hw, hk, hl, ha =>
      have hx := hw.head
      simp only [List.length_cons] at hk hl ha
      rw [if_pos (by simp <;> omega), show gidx (x :: r) 0 = some x from rfl, Option.bind_some]
      unfold F_ip_Options_j1
      by_cases h0 : x = 0
      · subst h0; rw [if_neg (by decide)]; simp [opts]
      · rw [if_pos (by simp <;> omega), show gidx (x :: r) 0 = some x from rfl, Option.bind_some]
        by_cases h1 : x = 1
        · subst h1
          rw [if_pos (by decide), gcut_l (by omega) (by simp <;> omega), Option.bind_some, show ((1 : Int) :: r).drop (1 : Int).toNat = r from rfl,
            fopts k K r acc hw.tail (by omega) (by omega) (by omega) (by omega)]
          simp [opts]
        · rw [if_neg (by simpa using h1)]
          match r, hw, hk, hl, ha with
          | [], _, _, _, _ => simp [F_ip_Options_j2, opts, h0, h1]
          | n :: r, hw, hk, hl, ha =>
            have hn := hw.tail.head
            simp only [List.length_cons] at hk hl ha
            have e1 : gidx (x :: n :: r) 1 = some n := rfl
            have e0 : gidx (x :: n :: r) 0 = some x := rfl
            rw [if_neg (by simp <;> omega), e1, Option.bind_some]
            have hbad : (n < 2 ∨ ((x :: n :: r).length : Int) < n) → opts (k + 1) (x :: n :: r) = none := fun hc => by
              simp only [opts]; rw [if_neg h0, if_neg h1, if_pos hc]
            by_cases h2 : n < 2
            · rw [if_pos (by simpa using h2), hbad (.inl h2)]; rfl
            · rw [if_neg (by simpa using h2), Option.bind_some, wi64 (by omega) (by omega)]
              by_cases h3 : ((x :: n :: r).length : Int) < n
              · rw [decide_eq_true h3, hbad (.inr h3)]; rfl
              · rw [decide_eq_false h3]
                unfold F_ip_Options_j2
                have h3' : n ≤ ((x :: n :: r).length : Int) := by omega
                rw [if_neg (by decide), e1, Option.bind_some, e0, Option.bind_some, wi64 (by omega) (by omega), gcut_in (by omega) (by omega) h3', Option.bind_some,
                  clone_eq (by simp at h3' ⊢; omega), Option.bind_some, if_pos (limk (by simp <;> omega)), gcut_l (by omega) h3', Option.bind_some]
                have hlen : ((x :: n :: r).drop n.toNat).length + 2 ≤ r.length + 2 := by simp; omega
                rw [fopts k K _ _ (hw.drop _) (by omega) (by omega) (by omega) (by simp at hlen ⊢; omega)]
                simp only [opts]
                rw [if_neg h0, if_neg h1, if_neg (by simp at h3' ⊢; omega)]
                cases opts k ((x :: n :: r).drop n.toNat) with
                | none => rfl
                | some l => simp
theorem ropts : ∀ (k K : Nat) (b : List Int), Wf 256 b → b.length ≤ k → k < K → b.length ≤ 1000 →
    F_ref05_Options_R K (strOfNums b) = some (match opts k b with | some l => (l.map rOpt, 0) | none => ([], 51)) ∧ ∀ l, opts k b = some l → l.length ≤ b.length
  | k, 0, b, _, _, h, _ => by omega
  | 0, K + 1, b, hw, hk, h, hl => by
    have : b = [] := List.eq_nil_of_length_eq_zero (by omega)
    subst this
    refine ⟨?_, fun l hl => by simp [opts] at hl; subst hl; simp⟩
    show F_ref05_Options_B (F_ref05_Options_R K) (strOfNums []) = _
    unfold F_ref05_Options_B
    rw [if_pos (by rw [ByteArray.toList_eq, ByteArray.toList_eq]; rfl)]
    simp [F_ref05_Options_j1, opts]
  | k + 1, K + 1, b, hw, hk, h, hl => by
    show F_ref05_Options_B (F_ref05_Options_R K) (strOfNums b) = _ ∧ _
    unfold F_ref05_Options_B
    match b, hw, hk, hl with
    | [], _, _, _ =>
      rw [if_pos (by rw [ByteArray.toList_eq, ByteArray.toList_eq]; rfl)]
      exact ⟨by simp [F_ref05_Options_j1, opts], fun l hl => by simp [opts] at hl; subst hl; simp⟩
    | x :: r, hw, hk, hl =>
      have hx := hw.head
      simp only [List.length_cons] at hk hl
      have e0 : gidxS (strOfNums (x :: r)) 0 = some x := gS hw (i := 0) (by simp)
      rw [if_neg (by rw [ByteArray.toList_eq, ByteArray.toList_eq]; simp [strOfNums]), e0, Option.bind_some]
      unfold F_ref05_Options_j1
      by_cases h0 : x = 0
      · subst h0; rw [if_pos (by decide)]
        exact ⟨by simp [opts], fun l hl => by simp [opts] at hl; subst hl; simp⟩
      · rw [if_neg (by simpa using h0), e0, Option.bind_some]
        by_cases h1 : x = 1
        · subst h1
          obtain ⟨i1, i2⟩ := ropts k K r hw.tail (by omega) (by omega) (by omega)
          rw [if_pos (by decide), cSl (by omega) (by simp <;> omega), Option.bind_some, show ((1 : Int) :: r).drop (1 : Int).toNat = r from rfl, i1, Option.bind_some]
          refine ⟨by simp [opts], fun l hl => ?_⟩
          have := i2 l (by simpa [opts] using hl)
          simp; omega
        · rw [if_neg (by simpa using h1)]
          match r, hw, hk, hl, e0 with
          | [], _, _, _, _ => exact ⟨by simp [F_ref05_Options_j2, opts, h0, h1, str_size], fun l hl => by simp [opts, h0, h1] at hl⟩
          | n :: r, hw, hk, hl, e0 =>
            have hn := hw.tail.head
            simp only [List.length_cons] at hk hl
            have e1 : gidxS (strOfNums (x :: n :: r)) 1 = some n := gS hw (i := 1) (by simp)
            rw [if_neg (by rw [str_size]; simp; omega), e1, Option.bind_some]
            have hbad : (n < 2 ∨ ((x :: n :: r).length : Int) < n) → opts (k + 1) (x :: n :: r) = none := fun hc => by
              simp only [opts]; rw [if_neg h0, if_neg h1, if_pos hc]
            by_cases h2 : n < 2
            · rw [if_pos (by simpa using h2), hbad (.inl h2)]
              exact ⟨rfl, fun l hl => by cases hl⟩
            · rw [if_neg (by simpa using h2), Option.bind_some, wi64 (by omega) (by omega), str_size]
              by_cases h3 : ((x :: n :: r).length : Int) < n
              · rw [decide_eq_true h3, hbad (.inr h3)]
                exact ⟨rfl, fun l hl => by cases hl⟩
              · rw [decide_eq_false h3]
                unfold F_ref05_Options_j2
                have h3' : n ≤ ((x :: n :: r).length : Int) := by omega
                have hlen : ((x :: n :: r).drop n.toNat).length + 2 ≤ r.length + 2 := by simp; omega
                obtain ⟨i1, i2⟩ := ropts k K ((x :: n :: r).drop n.toNat) (hw.drop _) (by omega) (by omega) (by omega)
                rw [if_neg (by decide), e1, Option.bind_some, cSl (by omega) h3', Option.bind_some, i1, Option.bind_some]
                have eo : opts (k + 1) (x :: n :: r) = (opts k ((x :: n :: r).drop n.toNat)).map (⟨x, ((x :: n :: r).drop 2).take (n.toNat - 2)⟩ :: ·) := by
                  simp only [opts]; rw [if_neg h0, if_neg h1, if_neg (by omega)]
                rw [eo]
                cases ho : opts k ((x :: n :: r).drop n.toNat) with
                | none => exact ⟨by simp, fun l hl => by simp at hl⟩
                | some l =>
                  have hl2 := i2 l ho
                  refine ⟨?_, fun l' hl' => ?_⟩
                  · simp only [Option.map_some]
                    rw [if_neg (by decide), e0, Option.bind_some, Option.bind_some, cS (by omega) (by omega) h3', Option.bind_some, if_pos (limk (by simp at hl2 ⊢ <;> omega))]
                    simp [rOpt]
                  · simp at hl'; subst hl'; simp at hlen hl2 ⊢; omega
theorem spoil_L3 {i : Nat} {rec : List T_ip_Option → Int → Option Bool} : ∀ (k j : Nat) (l : List T_ip_Option) (o : T_ip_Option), l[i]? = some o → o.f_Data.length ≤ 1000 → j ≤ o.f_Data.length → o.f_Data.length < k + j →
    ∃ l', l'.length = l.length ∧ (∀ m : Nat, m ≠ i → l'[m]? = l[m]?) ∧ F_law05_IpOptions_L3 (i : Int) rec k l (j : Int) = rec l' (IntKind.i64.wrap ((i : Int) + 1))
  | 0, j, l, o, ho, hd, hj, hk => by omega
  | k + 1, j, l, o, ho, hd, hj, hk => by
    show ∃ l', _ ∧ _ ∧ F_law05_IpOptions_l3 (F_law05_IpOptions_L3 (i : Int) rec k) (i : Int) rec l (j : Int) = _
    unfold F_law05_IpOptions_l3
    rw [gidx_nat ho, Option.bind_some]
    by_cases hlt : j < o.f_Data.length
    · rw [if_pos (by simp <;> omega), Option.bind_some, gidx_nat (List.getElem?_eq_getElem hlt), Option.bind_some, Option.bind_some, wi64 (by omega) (by omega)]
      obtain ⟨l', h1, h2, h3⟩ := spoil_L3 (i := i) (rec := rec) k (j + 1) (l.set i ⟨o.f_Kind, o.f_Data.set j (IntKind.u8.wrap (o.f_Data[j] + 1))⟩) ⟨o.f_Kind, o.f_Data.set j (IntKind.u8.wrap (o.f_Data[j] + 1))⟩
        (by rw [List.getElem?_set_self (List.getElem?_eq_some_iff.1 ho).1]) (by simpa using hd) (by simp <;> omega) (by simp <;> omega)
      refine ⟨l', by simpa using h1, fun m hm => ?_, ?_⟩
      · rw [h2 m hm, List.getElem?_set_ne (fun e => hm e.symm)]
      · rw [show ((j : Int) + 1) = ((j + 1 : Nat) : Int) by omega, ← h3]
        simp
    · rw [if_neg (by simp <;> omega)]
      exact ⟨l, rfl, fun _ _ => rfl, rfl⟩
theorem cmp_L2 {ls : List T_ip_Option} {t : Int} {rec : Int → Option Bool} (hl : ls.length ≤ 1000) (hd : ∀ o ∈ ls, o.f_Data.length ≤ 1000) : ∀ (k i : Nat) (l : List T_ip_Option), l.length = ls.length → (∀ m, i ≤ m → l[m]? = ls[m]?) → i ≤ l.length → l.length < k + i →
    F_law05_IpOptions_L2 (ls.map rOpt, 0) t rec k l (i : Int) = rec (IntKind.i64.wrap (t + 1))
  | 0, i, l, _, _, h1, h2 => by omega
  | k + 1, i, l, he, hs, h1, h2 => by
    show F_law05_IpOptions_l2 (F_law05_IpOptions_L2 (ls.map rOpt, 0) t rec k) (ls.map rOpt, 0) t rec l (i : Int) = _
    unfold F_law05_IpOptions_l2
    by_cases hlt : i < l.length
    · have ho : ls[i]? = some ls[i] := List.getElem?_eq_getElem (by omega)
      have ho1 := (hs i (Nat.le_refl _)).trans ho
      rw [if_pos (by simp <;> omega), gidx_nat ho1, Option.bind_some, gidx_nat (x := rOpt ls[i]) (by simp [ho]), Option.bind_some]
      rw [if_neg (by simp [rOpt]), Option.bind_some, Option.bind_some]
      have hj : (!((strOfNums ls[i].f_Data).toList == (rOpt ls[i]).f_Data.toList)) = false := by simp [rOpt]
      rw [hj]
      unfold F_law05_IpOptions_j2
      rw [if_neg (by decide)]
      have hdl := hd ls[i] (List.getElem_mem _)
      obtain ⟨l', q1, q2, q3⟩ := spoil_L3 (rec := F_law05_IpOptions_L2 (ls.map rOpt, 0) t rec k) fuel0 0 l ls[i] ho1 hdl (Nat.zero_le _) (by unfold fuel0; omega)
      rw [show ((0 : Nat) : Int) = 0 from rfl] at q3
      rw [q3, wi64 (by omega) (by omega), show ((i : Int) + 1) = ((i + 1 : Nat) : Int) by omega]
      exact cmp_L2 hl hd k (i + 1) l' (by omega) (fun m hm => by rw [q2 m (by omega)]; exact hs m (by omega)) (by omega) (by omega)
    · rw [if_neg (by simp <;> omega)]
theorem opts_data : ∀ (k : Nat) (b : List Int) (l : List T_ip_Option), opts k b = some l → ∀ o ∈ l, o.f_Data.length ≤ b.length
  | 0, b, l, h, o, ho => by simp [opts] at h; subst h; simp at ho
  | k + 1, b, l, h, o, ho => by
    match b with
    | [] => simp [opts] at h; subst h; simp at ho
    | x :: r =>
      simp only [opts] at h
      split at h
      · obtain rfl := Option.some.inj h; simp at ho
      · split at h
        · have := opts_data k r l h o ho; simp; omega
        · match r with
          | [] => simp at h
          | n :: r =>
            simp only at h
            split at h
            · cases h
            · obtain ⟨l', h1, h2⟩ := Option.map_eq_some_iff.1 h
              subst h2
              rcases List.mem_cons.1 ho with rfl | ho
              · simp; omega
              · have := opts_data k _ l' h1 o ho; simp at this ⊢; omega
def orf : Option (List T_ip_Option) → List T_ref05_Option × Int
  | some l => (l.map rOpt, 0)
  | none => ([], 51)
def off_ : Option (List T_ip_Option) → List T_ip_Option × Int
  | some l => (l, 0)
  | none => ([], 51)
theorem options_eq {b : List Int} (hw : Wf 256 b) : F_law05_IpOptions b = some true := by
  unfold F_law05_IpOptions
  by_cases h : 100 < (b.length : Int)
  · rw [if_pos (by simpa using h), works_eq]; rfl
  · rw [if_neg (by simpa using h)]
    have hf := fun acc => fopts b.length fuel0 b acc hw (Nat.le_refl _) (by unfold fuel0; omega) (by omega)
    obtain ⟨r1, r2⟩ := ropts b.length fuel0 b hw (Nat.le_refl _) (by unfold fuel0; omega) (by omega)
    have e1 : F_ref05_Options (strOfNums b) = some (orf (opts b.length b)) := by
      refine Eq.trans r1 ?_
      cases opts b.length b <;> rfl
    have e2 : F_ip_Options b = some (off_ (opts b.length b)) := by
      refine Eq.trans (hf [] (by simp; omega)) ?_
      cases opts b.length b <;> simp [off_]
    rw [e1, Option.bind_some]
    have hdat := opts_data b.length b
    clear e1 hf r1
    generalize opts b.length b = ob at *
    have key : ∀ (k : Nat) (t : Nat), t ≤ 2 → 2 < k + t → F_law05_IpOptions_L1 b (orf ob) k (t : Int) = some true := by
      intro k
      induction k with
      | zero => intro t h1 h2; omega
      | succ k ih =>
        intro t h1 h2
        show F_law05_IpOptions_l1 (F_law05_IpOptions_L1 b (orf ob) k) b (orf ob) (t : Int) = _
        unfold F_law05_IpOptions_l1
        by_cases ht : t < 2
        · have ih' := ih (t + 1) (by omega) (by omega)
          rw [if_pos (by simp <;> omega), e2, Option.bind_some]
          cases hob : ob with
          | none =>
            subst hob
            rw [if_neg (by simp [orf, off_])]
            show F_law05_IpOptions_j1 ([], 51) (t : Int) (F_law05_IpOptions_L1 b ([], 51) k) [] false = _
            unfold F_law05_IpOptions_j1
            rw [if_neg (by decide)]
            have := cmp_L2 (ls := []) (t := (t : Int)) (rec := F_law05_IpOptions_L1 b ([], 51) k) (by simp) (by simp) fuel0 0 [] rfl (fun _ _ => rfl) (by simp) (by unfold fuel0; simp)
            have hz : F_law05_IpOptions_L2 ([], 51) (t : Int) (F_law05_IpOptions_L1 b ([], 51) k) fuel0 [] 0 = F_law05_IpOptions_L1 b ([], 51) k (IntKind.i64.wrap ((t : Int) + 1)) := by
              rw [show fuel0 = (fuel0 - 1) + 1 by unfold fuel0; rfl]
              show F_law05_IpOptions_l2 _ _ _ _ [] 0 = _
              unfold F_law05_IpOptions_l2
              rw [if_neg (by decide)]
            rw [hz, wi64 (by omega) (by omega)]
            exact ih'
          | some l =>
            subst hob
            rw [if_neg (by simp [orf, off_])]
            show F_law05_IpOptions_j1 (l.map rOpt, 0) (t : Int) (F_law05_IpOptions_L1 b (l.map rOpt, 0) k) l ((l.length : Int) != ((l.map rOpt).length : Int)) = _
            unfold F_law05_IpOptions_j1
            rw [if_neg (by simp)]
            have hll := r2 l rfl
            have := cmp_L2 (ls := l) (t := (t : Int)) (rec := F_law05_IpOptions_L1 b (l.map rOpt, 0) k) (by omega) (fun o ho => by have := hdat l rfl o ho; omega) fuel0 0 l rfl (fun _ _ => rfl) (Nat.zero_le _) (by unfold fuel0; omega)
            rw [show ((0 : Nat) : Int) = 0 from rfl] at this
            rw [this, wi64 (by omega) (by omega)]
            exact ih'
        · rw [if_neg (by simp <;> omega), works_eq]; rfl
    have hk := key fuel0 0 (by omega) (by unfold fuel0; omega)
    rw [show ((0 : Nat) : Int) = 0 from rfl] at hk
    exact hk

/-! ### Headers -/
structure WH (h : T_ip_Header) : Prop where
  tos : 0 ≤ h.f_TOS ∧ h.f_TOS < 256
  total : 0 ≤ h.f_Total ∧ h.f_Total < 65536
  id : 0 ≤ h.f_ID ∧ h.f_ID < 65536
  frag : 0 ≤ h.f_Frag ∧ h.f_Frag < 65536
  ttl : 0 ≤ h.f_TTL ∧ h.f_TTL < 256
  proto : 0 ≤ h.f_Proto ∧ h.f_Proto < 256
  srcl : h.f_Src.length = 4
  src : Wf 256 h.f_Src
  dstl : h.f_Dst.length = 4
  dst : Wf 256 h.f_Dst
  opt : Wf 256 h.f_Options
theorem arrL_len : ∀ {n : Nat} {xs : List Int}, xs.length = n → arrL n xs = xs := fun {n xs} h => by
  subst h
  apply List.ext_getElem?
  intro i
  by_cases hi : i < xs.length
  · simp [arrL, hi, List.getD]
  · rw [List.getElem?_eq_none (by simp [arrL]; omega), List.getElem?_eq_none (by omega)]
/-- The document's header of one. -/
def rH (h : T_ip_Header) : T_ref05_Header := ⟨h.f_TOS, h.f_Total, h.f_ID, h.f_DF, h.f_MF, h.f_Frag, h.f_TTL, h.f_Proto, strOfNums h.f_Src, strOfNums h.f_Dst, strOfNums h.f_Options⟩
theorem docs_eq {h : T_ip_Header} (w : WH h) : F_docs_Ip h = some (rH h) := by
  unfold F_docs_Ip rH
  rw [arrL_len w.srcl, arrL_len w.dstl]
def rgt (h : T_ip_Header) : Bool := decide (h.f_Frag ≤ 8191 ∧ h.f_Options.length % 4 = 0 ∧ h.f_Options.length ≤ 40 ∧ (20 + h.f_Options.length : Int) ≤ h.f_Total)
theorem len_eq {h : T_ip_Header} (hl : h.f_Options.length < 1000000) : F_ip_Header_length h = some (20 + (h.f_Options.length : Int)) := by
  unfold F_ip_Header_length
  rw [wi64 (by omega) (by omega)]
theorem right_eq {h : T_ip_Header} (w : WH h) (hl : h.f_Options.length < 1000000) : F_ip_Right h = some (rgt h) := by
  have ht := w.total
  unfold F_ip_Right rgt F_ip_Right_j1
  by_cases h1 : h.f_Frag ≤ 8191
  · rw [if_pos (by simpa using h1), tmod_nn (by omega)]
    by_cases h2 : h.f_Options.length % 4 = 0
    · rw [if_pos (by simp; omega)]
      by_cases h3 : h.f_Options.length ≤ 40
      · rw [if_pos (by simp; omega), len_eq hl, Option.bind_some, wi64 (by omega) (by omega)]
        simp [h1, h2, h3]
      · rw [if_neg (by simp; omega)]; simp [h3]
    · rw [if_neg (by simp; omega)]; simp [h2]
  · rw [if_neg (by simpa using h1)]; simp [h1]
theorem rright_eq {h : T_ip_Header} (w : WH h) (hl : h.f_Options.length < 1000000) : F_ref05_Right (rH h) = some (rgt h) := by
  have ht := w.total
  unfold F_ref05_Right rgt F_ref05_Right_j1 rH
  simp only [str_size]
  by_cases h1 : h.f_Frag ≤ 8191
  · rw [if_pos (by simp; omega), tmod_nn (by omega)]
    by_cases h2 : h.f_Options.length % 4 = 0
    · rw [if_pos (by simp; omega)]
      by_cases h3 : h.f_Options.length ≤ 40
      · rw [if_pos (by simp; omega), wi64 (by omega) (by omega), wi64 (by omega) (by omega)]
        simp [h1, h2, h3]
      · rw [if_neg (by simp; omega)]; simp [h3]
    · rw [if_neg (by simp; omega)]; simp [h2]
  · rw [if_neg (by simp; omega)]; simp [h1]
def flg (h : T_ip_Header) : Int := (if h.f_DF = true then 16384 else 0) + (if h.f_MF = true then 8192 else 0) + h.f_Frag
/-- How a header stands, with a checksum. -/
def st (h : T_ip_Header) (s : Int) : List Int :=
  [(64 + (20 + (h.f_Options.length : Int)) / 4) % 256, h.f_TOS, h.f_Total / 256 % 256, h.f_Total % 256, h.f_ID / 256 % 256, h.f_ID % 256, flg h / 256 % 256, flg h % 256, h.f_TTL, h.f_Proto, s / 256 % 256, s % 256] ++ h.f_Src ++ h.f_Dst ++ h.f_Options
theorem put1 (v : Int) : put 1 v = [v % 256] := rfl
theorem put2 (v : Int) : put 2 v = [v / 256 % 256, v % 256] := rfl
theorem rput1 {v : Int} (hv : U v) : F_ref01_Put v 1 = some [v % 256] := rput_eq hv (by decide) (by decide)
theorem rput2 {v : Int} (hv : U v) : F_ref01_Put v 2 = some [v / 256 % 256, v % 256] := rput_eq hv (by decide) (by decide)
theorem flg_bd {h : T_ip_Header} (w : WH h) (hr : rgt h = true) : 0 ≤ flg h ∧ flg h < 32768 := by
  have hf := w.frag
  have : h.f_Frag ≤ 8191 := by simp [rgt] at hr; exact hr.1
  unfold flg; split <;> split <;> omega
theorem str_app (a b : List Int) : strOfNums a ++ strOfNums b = strOfNums (a ++ b) := by
  apply str_ext; simp [strOfNums]
theorem stands_eq {h : T_ip_Header} (w : WH h) (hr : rgt h = true) {s : Int} (hs : 0 ≤ s ∧ s < 65536) : F_ref05_stands (rH h) s = some (st h s) := by
  have ⟨hr1, hr2, hr3, hr4⟩ : h.f_Frag ≤ 8191 ∧ h.f_Options.length % 4 = 0 ∧ h.f_Options.length ≤ 40 ∧ (20 + h.f_Options.length : Int) ≤ h.f_Total := by simpa [rgt] using hr
  have hto := w.tos; have ht := w.total; have hi := w.id; have hf := w.frag; have htt := w.ttl; have hp := w.proto; have hfl := flg_bd w hr
  unfold F_ref05_stands F_ref05_bit
  have e0 : (rH h).f_Options.size = h.f_Options.length := str_size _
  have e1 : (rH h).f_Src.size = 4 := (str_size _).trans w.srcl
  have e2 : (rH h).f_Dst.size = 4 := (str_size _).trans w.dstl
  rw [e0, e1, e2, wi64 (n := 20 + _) (by omega) (by omega), tdiv_nn (by omega), wi64 (n := (20 + (h.f_Options.length : Int)) / 4) (by omega) (by omega), wi64 (n := 64 + _) (by omega) (by omega), wu64i (by omega) (by omega), rput1 ⟨by omega, by omega⟩, Option.bind_some, if_pos (limk (by simp))]
  show (F_ref01_Put (IntKind.u64.wrap h.f_Total) 2).bind _ = _
  rw [wu64i (by omega) (by omega), rput2 ⟨by omega, by omega⟩, Option.bind_some, join_eq (by simp) (by simp), Option.bind_some]
  show (F_ref01_Put (IntKind.u64.wrap h.f_ID) 2).bind _ = _
  rw [wu64i (by omega) (by omega), rput2 ⟨by omega, by omega⟩, Option.bind_some, join_eq (by simp) (by simp), Option.bind_some]
  have eb : ∀ (x : Bool) (v : Int), (if x = true then some v else some 0) = some (if x = true then v else 0) := fun x v => by cases x <;> rfl
  rw [eb, eb, Option.bind_some, Option.bind_some]
  have ef : IntKind.u64.wrap (IntKind.u64.wrap ((if (rH h).f_DF = true then 16384 else 0) + (if (rH h).f_MF = true then 8192 else 0)) + IntKind.u64.wrap (rH h).f_Frag) = flg h := by
    show IntKind.u64.wrap (IntKind.u64.wrap ((if h.f_DF = true then 16384 else 0) + (if h.f_MF = true then 8192 else 0)) + IntKind.u64.wrap h.f_Frag) = flg h
    unfold flg
    have hA : 0 ≤ (if h.f_DF = true then (16384 : Int) else 0) ∧ (if h.f_DF = true then (16384 : Int) else 0) ≤ 16384 := by split <;> omega
    have hB : 0 ≤ (if h.f_MF = true then (8192 : Int) else 0) ∧ (if h.f_MF = true then (8192 : Int) else 0) ≤ 8192 := by split <;> omega
    generalize (if h.f_DF = true then (16384 : Int) else 0) = a at *
    generalize (if h.f_MF = true then (8192 : Int) else 0) = b at *
    rw [wu64i (n := h.f_Frag) (by omega) (by omega), wu64i (n := a + b) (by omega) (by omega), wu64i (by omega) (by omega)]
  rw [ef, rput2 ⟨by omega, by omega⟩, Option.bind_some, join_eq (by simp) (by simp), Option.bind_some, if_pos (limk (by simp)), wu64i (by omega) (by omega), rput2 ⟨by omega, by omega⟩, Option.bind_some, join_eq (by simp) (by simp), Option.bind_some, if_pos (limk (by omega))]
  have e3 : (rH h).f_Src ++ (rH h).f_Dst = strOfNums (h.f_Src ++ h.f_Dst) := str_app _ _
  rw [e3, str_size]
  have e4 : strOfNums (h.f_Src ++ h.f_Dst) ++ (rH h).f_Options = strOfNums (h.f_Src ++ h.f_Dst ++ h.f_Options) := str_app _ _
  rw [e4, str_size, if_pos (limk (by simp [w.srcl, w.dstl]; omega)), if_pos (limk (by simp [w.srcl, w.dstl]; omega)), nums_str ((w.src.app w.dst).app w.opt), join_eq (by simp) (by simp [w.srcl, w.dstl]; omega), Option.bind_some]
  simp [st, rH]
theorem st_len {h : T_ip_Header} (w : WH h) (s : Int) : (st h s).length = 20 + h.f_Options.length := by
  simp [st, w.srcl, w.dstl]; omega
theorem md {x : Int} : 0 ≤ x % 256 ∧ x % 256 < 256 := by omega
theorem st_wf {h : T_ip_Header} (w : WH h) (s : Int) : Wf 256 (st h s) := by
  unfold st
  refine (((Wf.cons md (.cons w.tos (.cons md (.cons md (.cons md (.cons md (.cons md (.cons md (.cons w.ttl (.cons w.proto (.cons md (.cons md .nil)))))))))))).app w.src).app w.dst).app w.opt
/-- The checksum. -/
def ck (h : T_ip_Header) : Int := 65535 - fld (ws (st h 0))
theorem ck_bd {h : T_ip_Header} (w : WH h) : 0 ≤ ck h ∧ ck h < 65536 := by
  have := fld_bd (ws_bd (st_wf w 0)).1
  unfold ck; omega
theorem rputh_eq {h : T_ip_Header} (w : WH h) (hl : h.f_Options.length < 1000000) : F_ref05_Put (rH h) = some (if rgt h = true then (st h (ck h), 0) else ([], 51)) := by
  unfold F_ref05_Put
  rw [rright_eq w hl, Option.bind_some]
  cases hr : rgt h with
  | false => rfl
  | true =>
    have hr3 : h.f_Options.length ≤ 40 := by simp [rgt] at hr; exact hr.2.2.1
    rw [if_neg (by decide), stands_eq w hr ⟨by omega, by omega⟩, Option.bind_some, rof_eq (st_wf w 0) (by rw [st_len w]; omega), Option.bind_some]
    show (F_ref05_stands (rH h) (ck h)).bind _ = _
    rw [stands_eq w hr (ck_bd w)]
    rfl
end Go.Proofs.Ytjfdfjmnajjjaaa
