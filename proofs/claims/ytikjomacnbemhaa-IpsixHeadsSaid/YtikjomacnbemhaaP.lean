/- The plain law of the chapter on headers of version 6: what the printed functions compute. No program's code is named here. -/
import Derived.Test.YtikjomacnbemhaaF
import Derived.Test.YtikjomacnbemhaaOxP
set_option linter.unusedVariables false
namespace Go.Proofs.Ytikjomacnbemhaa
open Go Go.Ox Go.RowKit

theorem works_eq : F_law06_works = some true := by decide +kernel
def U (v : Int) : Prop := 0 ≤ v ∧ v < 18446744073709551616
def I (v : Int) : Prop := -9223372036854775808 ≤ v ∧ v ≤ 9223372036854775807
theorem p256 (n : Nat) : (0 : Int) < 256 ^ n := Int.pow_pos (by decide)
theorem p256s (n : Nat) : (256 : Int) ^ (n + 1) = 256 ^ n * 256 := Int.pow_succ _ _
theorem e8 : (256 : Int) ^ 8 = 18446744073709551616 := by decide
theorem e7 : (256 : Int) ^ 7 = 72057594037927936 := by decide
theorem pmono {m n : Nat} (h : m ≤ n) : (256 : Int) ^ m ≤ 256 ^ n := by
  induction n with
  | zero => rw [show m = 0 by omega]; exact Int.le_refl _
  | succ n ih =>
    rcases Nat.lt_or_ge n m with h1 | h1
    · rw [show m = n + 1 by omega]; exact Int.le_refl _
    · have := ih h1; have := p256 n; rw [p256s]; omega
def dgs : Nat → Int → Int
  | 0, _ => 0
  | m + 1, v => if 0 < v then 1 + dgs m (v / 256) else 0
theorem dgs_nn : ∀ (m : Nat) (v : Int), 0 ≤ dgs m v
  | 0, v => by simp [dgs]
  | m + 1, v => by have := dgs_nn m (v / 256); unfold dgs; split <;> omega
theorem dgs_le : ∀ (m : Nat) (v : Int) (n : Nat), 0 ≤ v → v < 256 ^ m → (dgs m v ≤ n ↔ v < 256 ^ n)
  | 0, v, n, h0, h1 => by
    have := p256 n
    simp at h1
    simp only [dgs]
    omega
  | m + 1, v, n, h0, h1 => by
    rw [p256s] at h1
    unfold dgs
    by_cases hv : 0 < v
    · rw [if_pos hv]
      cases n with
      | zero => have := dgs_nn m (v / 256); simp; omega
      | succ n =>
        have ih := dgs_le m (v / 256) n (by omega) (by omega)
        rw [p256s]
        have hp := p256 n
        constructor
        · intro h
          have := ih.1 (by omega)
          omega
        · intro h
          have := ih.2 (by omega)
          omega
    · rw [if_neg hv]
      have := p256 n
      omega
def lst (v : Int) : Int := 1 + dgs 8 (v / 256)
theorem lst_pos (v : Int) : 1 ≤ lst v := by have := dgs_nn 8 (v / 256); unfold lst; omega
theorem lst_le {v : Int} (hv : U v) {n : Nat} (hn : 1 ≤ n) : lst v ≤ n ↔ v < 256 ^ n := by
  obtain ⟨m, rfl⟩ : ∃ m, n = m + 1 := ⟨n - 1, by omega⟩
  have h := dgs_le 8 (v / 256) m (by have := hv.1; omega) (by have := hv.2; rw [e8]; omega)
  unfold lst
  rw [p256s]
  have := p256 m
  constructor
  · intro h1
    have := h.1 (by omega)
    omega
  · intro h1
    have := h.2 (by omega)
    omega
theorem lst_8 {v : Int} (hv : U v) : lst v ≤ 8 := (lst_le hv (n := 8) (by decide)).2 (by have := hv.2; rw [e8]; omega)
theorem shr8 {n : Int} (h0 : 0 ≤ n) : Ox.shr .u64 n 8 = n / 256 := by
  show n.fdiv (2 ^ (min 8 64)) = _
  rw [Int.fdiv_eq_ediv_of_nonneg _ (by decide)]
  rfl
theorem least_L : ∀ (m k : Nat) (v n : Int), 0 ≤ v → v < 256 ^ m → m < k → 0 ≤ n → n + m ≤ 1000 → F_bits_Least_L1 k v n = some (n + dgs m v)
  | m, 0, v, n, h0, h1, h2, h3, h4 => by omega
  | 0, k + 1, v, n, h0, h1, h2, h3, h4 => by
    simp at h1
    show F_bits_Least_l1 (F_bits_Least_L1 k) v n = _
    unfold F_bits_Least_l1
    rw [if_neg (by simp; omega)]
    simp [dgs]
  | m + 1, k + 1, v, n, h0, h1, h2, h3, h4 => by
    rw [p256s] at h1
    show F_bits_Least_l1 (F_bits_Least_L1 k) v n = _
    unfold F_bits_Least_l1
    by_cases hv : 0 < v
    · rw [if_pos (by simpa using hv), shr8 h0, wi64 (by omega) (by omega), least_L m k _ _ (by omega) (by omega) (by omega) (by omega) (by omega)]
      simp only [dgs, if_pos hv]
      congr 1; omega
    · rw [if_neg (by simpa using hv)]
      simp [dgs, if_neg hv]
theorem least_eq {v : Int} (hv : U v) : F_bits_Least v = some (lst v) := by
  have h := hv.1; have h2 := hv.2
  unfold F_bits_Least
  rw [shr8 h]
  exact least_L 8 _ _ _ (by omega) (by rw [e8]; omega) (by unfold fuel0; omega) (by omega) (by omega)
def fit (v n : Int) : Bool := decide (1 ≤ n) && decide (n ≤ 8) && decide (v < 256 ^ n.toNat)
theorem fit_iff {v n : Int} : fit v n = true ↔ 1 ≤ n ∧ n ≤ 8 ∧ v < 256 ^ n.toNat := by simp [fit, and_assoc]
theorem fit_lst {v : Int} (hv : U v) {n : Int} (h1 : 1 ≤ n) (h8 : n ≤ 8) : fit v n = decide (lst v ≤ n) := by
  have := lst_le hv (n := n.toNat) (by omega)
  rw [show ((n.toNat : Nat) : Int) = n by omega] at this
  simp only [fit, h1, h8, decide_true, Bool.true_and]
  exact decide_eq_decide.2 this.symm
theorem bfits_eq {v n : Int} (hv : U v) : F_bits_fits v n = some (fit v n) := by
  unfold F_bits_fits F_bits_right F_bits_right_j1
  by_cases h1 : 1 ≤ n
  · rw [if_pos (by simpa using h1), Option.bind_some]
    by_cases h8 : n ≤ 8
    · rw [if_pos (by simpa using h8), least_eq hv, Option.bind_some, fit_lst hv h1 h8]; rfl
    · rw [if_neg (by simpa using h8)]
      simp [F_bits_fits_j1, fit, h8]
  · rw [if_neg (by simpa using h1), Option.bind_some, if_neg (by decide)]
    simp [F_bits_fits_j1, fit, h1]
def put : Nat → Int → List Int
  | 0, _ => []
  | n + 1, v => put n (v / 256) ++ [v % 256]
theorem put_len : ∀ (n : Nat) (v : Int), (put n v).length = n
  | 0, v => rfl
  | n + 1, v => by simp [put, put_len n]
theorem put_wf : ∀ (n : Nat) (v : Int), Wf 256 (put n v)
  | 0, v => Wf.nil
  | n + 1, v => (put_wf n _).app (Wf.cons (by omega) Wf.nil)
theorem put_front : ∀ (n : Nat) (v : Int), put (n + 1) v = (v / 256 ^ n % 256) :: put n v
  | 0, v => by simp [put]
  | n + 1, v => by
    rw [put, put_front n (v / 256)]
    simp only [put, List.cons_append, List.cons.injEq, and_true]
    rw [p256s, Int.mul_comm, Int.ediv_ediv_of_nonneg (by decide)]
theorem shr_t {v : Int} (hv : 0 ≤ v) {t : Nat} (ht : t ≤ 7) : Ox.shr .u64 v (8 * (t : Int)) = v / 256 ^ t := by
  have : t = 0 ∨ t = 1 ∨ t = 2 ∨ t = 3 ∨ t = 4 ∨ t = 5 ∨ t = 6 ∨ t = 7 := by omega
  have e : ∀ m : Nat, v.fdiv (2 ^ m) = v / 2 ^ m := fun m => Int.fdiv_eq_ediv_of_nonneg _ (Int.le_of_lt (Int.pow_pos (by decide)))
  rcases this with rfl | rfl | rfl | rfl | rfl | rfl | rfl | rfl <;> (unfold Ox.shr; rw [e]; rfl)
theorem of_L {v : Int} (hv : U v) {n : Nat} (hn : n ≤ 8) : ∀ (k t : Nat), t ≤ n → n < k + t → F_bits_of_L1 v n k (List.replicate (n - t) 0 ++ put t v) (t : Int) = some (put n v)
  | 0, t, h1, h2 => by omega
  | k + 1, t, h1, h2 => by
    show F_bits_of_l1 (F_bits_of_L1 v n k) v n _ _ = _
    unfold F_bits_of_l1
    by_cases h : t < n
    · obtain ⟨m, hm⟩ : ∃ m, n - t = m + 1 := ⟨n - t - 1, by omega⟩
      have e0 : IntKind.i64.wrap ((n : Int) - 1) = (n : Int) - 1 := wi64 (by omega) (by omega)
      have e1 : IntKind.i64.wrap ((n : Int) - 1 - t) = (m : Int) := by rw [wi64 (by omega) (by omega)]; omega
      have e2 : IntKind.i64.wrap (8 * (t : Int)) = 8 * (t : Int) := wi64 (by omega) (by omega)
      have e3 : IntKind.i64.wrap ((t : Int) + 1) = ((t + 1 : Nat) : Int) := by rw [wi64 (by omega) (by omega)]; omega
      rw [if_pos (by simpa using h), e2, if_pos (by simp; omega), e0, e1, hm]
      have hg : gidx (List.replicate (m + 1) 0 ++ put t v) (m : Int) = some 0 := gidx_nat (by rw [List.getElem?_append_left (by simp)]; simp)
      rw [hg, Option.bind_some, e3, shr_t hv.1 (by omega), wu8]
      have hs : (List.replicate (m + 1) 0 ++ put t v).set (m : Int).toNat (v / 256 ^ t % 256) = List.replicate (n - (t + 1)) 0 ++ put (t + 1) v := by
        rw [put_front, List.replicate_succ', show n - (t + 1) = m by omega]
        simp
      rw [hs]
      exact of_L hv hn k (t + 1) (by omega) (by omega)
    · rw [if_neg (by simpa using h), show t = n by omega]
      simp
theorem of_eq {v : Int} (hv : U v) {n : Int} (h0 : 0 ≤ n) (hn : n ≤ 8) : F_bits_of v n = some (put n.toNat v) := by
  obtain ⟨m, rfl⟩ := Int.eq_ofNat_of_zero_le h0
  unfold F_bits_of
  rw [if_pos (by simp only [lim]; simp; omega)]
  have := of_L hv (n := m) (by omega) fuel0 0 (by omega) (by unfold fuel0; omega)
  simpa [put] using this
theorem rput_L : ∀ (k n : Nat) (v : Int), U v → n ≤ 8 → n < k → F_ref01_Put_R k v (n : Int) = some (put n v)
  | 0, n, v, hv, h8, hk => by omega
  | k + 1, 0, v, hv, h8, hk => by
    show F_ref01_Put_B (F_ref01_Put_R k) v _ = _
    unfold F_ref01_Put_B
    rw [if_pos (by simp)]; rfl
  | k + 1, n + 1, v, hv, h8, hk => by
    have h := hv.1; have h' := hv.2
    show F_ref01_Put_B (F_ref01_Put_R k) v _ = _
    unfold F_ref01_Put_B
    have e : IntKind.i64.wrap (((n + 1 : Nat) : Int) - 1) = (n : Int) := by rw [wi64 (by omega) (by omega)]; omega
    rw [if_neg (by simp; omega), tdiv_nn h, tmod_nn h, wu64i (by omega) (by omega), e, rput_L k n (v / 256) ⟨by omega, by omega⟩ (by omega) (by omega), Option.bind_some, if_pos (lim_le (by simp [put_len]; omega)), wu8i (by omega) (by omega)]
    rfl
theorem rput_eq {v : Int} (hv : U v) {n : Int} (h0 : 0 ≤ n) (hn : n ≤ 8) : F_ref01_Put v n = some (put n.toNat v) := by
  obtain ⟨m, rfl⟩ := Int.eq_ofNat_of_zero_le h0
  exact rput_L _ _ _ hv (by omega) (by unfold fuel0; omega)
def vl (a : Int) (b : List Int) : Int := b.foldl (fun a x => a * 256 + x) a
def val (b : List Int) : Int := vl 0 b
theorem vl_snoc (a : Int) (b : List Int) (x : Int) : vl a (b ++ [x]) = vl a b * 256 + x := by simp [vl]
theorem vl_bd : ∀ (b : List Int) (a : Int), 0 ≤ a → Wf 256 b → 0 ≤ vl a b ∧ vl a b < (a + 1) * 256 ^ b.length
  | [], a, h, hw => by simp [vl]; omega
  | x :: b, a, h, hw => by
    have hx := hw.head
    have ih := vl_bd b (a * 256 + x) (by omega) hw.tail
    refine ⟨ih.1, Int.lt_of_lt_of_le ih.2 ?_⟩
    rw [List.length_cons, p256s, Int.mul_comm (256 ^ b.length), ← Int.mul_assoc]
    exact Int.mul_le_mul_of_nonneg_right (by omega) (Int.le_of_lt (p256 _))
theorem val_put : ∀ (n : Nat) (v : Int), 0 ≤ v → v < 256 ^ n → val (put n v) = v
  | 0, v, h0, h1 => by simp at h1; simp [put, val, vl]; omega
  | n + 1, v, h0, h1 => by
    rw [p256s] at h1
    unfold val
    rw [put, vl_snoc]
    have := val_put n (v / 256) (by omega) (by omega)
    unfold val at this
    rw [this]; omega
theorem or8 {v x : Int} (h0 : 0 ≤ v) (h1 : v * 256 < 18446744073709551616) (hx : 0 ≤ x ∧ x < 256) : bits .or .u64 (Ox.shl .u64 v 8) (IntKind.u64.wrap x) = v * 256 + x := by
  have e : Ox.shl .u64 v 8 = v * 256 := by
    show IntKind.u64.wrap (v * 256) = _
    rw [wu64i (by omega) h1]
  rw [e, wu64i hx.1 (by omega)]
  obtain ⟨m, rfl⟩ := Int.eq_ofNat_of_zero_le h0
  obtain ⟨y, rfl⟩ := Int.eq_ofNat_of_zero_le hx.1
  show IntKind.u64.wrap ((BitVec.ofInt 64 ((m : Int) * 256) ||| BitVec.ofInt 64 (y : Int)).toNat : Int) = _
  have e1 : (BitVec.ofInt 64 ((m : Int) * 256)).toNat = m * 256 := by rw [show (m : Int) * 256 = ((m * 256 : Nat) : Int) by omega, BitVec.ofInt_natCast, BitVec.toNat_ofNat]; exact Nat.mod_eq_of_lt (by omega)
  have e2 : (BitVec.ofInt 64 (y : Int)).toNat = y := by rw [BitVec.ofInt_natCast, BitVec.toNat_ofNat]; exact Nat.mod_eq_of_lt (by omega)
  have e3 : m * 256 ||| y = m * 256 + y := by
    have := Nat.shiftLeft_add_eq_or_of_lt (a := m) (i := 8) (b := y) (by omega)
    rw [Nat.shiftLeft_eq] at this
    exact this.symm
  rw [BitVec.toNat_or, e1, e2, e3, wu64i (by omega) (by omega)]
  omega
theorem value_L {b : List Int} (hw : Wf 256 b) (hl : b.length ≤ 8) : ∀ (k j : Nat), j ≤ b.length → b.length < k + j → F_bits_value_L1 b k (val (b.take j)) (j : Int) = some (val b)
  | 0, j, h1, h2 => by omega
  | k + 1, j, h1, h2 => by
    show F_bits_value_l1 (F_bits_value_L1 b k) b _ _ = _
    unfold F_bits_value_l1
    by_cases h : j < b.length
    · have hg : b[j]? = some b[j] := List.getElem?_eq_getElem h
      have hx := hw.get hg
      have hb := vl_bd (b.take j) 0 (by omega) (hw.take j)
      have hlt : (256 : Int) ^ (b.take j).length ≤ 256 ^ 7 := pmono (by simp; omega)
      have e3 : IntKind.i64.wrap ((j : Int) + 1) = ((j + 1 : Nat) : Int) := by rw [wi64 (by omega) (by omega)]; omega
      have hb2 : vl 0 (b.take j) < 256 ^ 7 := by omega
      rw [e7] at hb2
      rw [if_pos (by simpa using h), gidx_nat hg, Option.bind_some]
      unfold val
      rw [or8 hb.1 (by omega) hx, e3, ← vl_snoc, show List.take j b ++ [b[j]] = List.take (j + 1) b by rw [List.take_add_one, hg]; rfl]
      exact value_L hw hl k (j + 1) (by omega) (by omega)
    · rw [if_neg (by simpa using h), show j = b.length by omega, List.take_length]
theorem value_eq {b : List Int} (hw : Wf 256 b) (hl : b.length ≤ 8) : F_bits_value b = some (val b) := by
  have := value_L hw hl fuel0 0 (by omega) (by unfold fuel0; omega)
  exact this
def gt (b : List Int) (p n : Int) : Int × Int := if n < 1 ∨ 8 < n ∨ p < 0 then (0, 2) else if b.length < p + n then (0, 10) else (val ((b.drop p.toNat).take n.toNat), 0)
theorem bget_eq {b : List Int} (hw : Wf 256 b) (hl : b.length < 100000000) {p n : Int} (hp : I p) : F_bits_Get b p n = some (gt b p n) := by
  have hp1 := hp.1; have hp2 := hp.2
  have key : ¬ (n < 1 ∨ 8 < n ∨ p < 0) → F_bits_Get_j1 b p n false = some (gt b p n) := fun hc => by
    unfold F_bits_Get_j1 gt
    rw [if_neg (by decide), if_neg hc]
    by_cases h : (b.length : Int) < p
    · rw [if_pos (by simpa using h), if_pos (by omega)]; rfl
    · rw [if_neg (by simpa using h), wi64 (by omega) (by omega)]
      unfold F_bits_Get_j2
      by_cases h2 : (b.length : Int) < p + n
      · rw [if_pos (by simp; omega), if_pos h2]
      · rw [if_neg (by simp; omega), if_neg h2, wi64 (by omega) (by omega), gcut_in (by omega) (by omega) (by omega), Option.bind_some, show (p + n).toNat - p.toNat = n.toNat by omega, value_eq ((hw.drop _).take _) (by simp; omega)]
        rfl
  have bad : (n < 1 ∨ 8 < n ∨ p < 0) → F_bits_Get_j1 b p n true = some (gt b p n) := fun hc => by
    unfold F_bits_Get_j1 gt
    rw [if_pos (by decide), if_pos hc]
  unfold F_bits_Get F_bits_right F_bits_right_j1
  by_cases h1 : 1 ≤ n
  · rw [if_pos (by simpa using h1), Option.bind_some]
    by_cases h8 : n ≤ 8
    · rw [if_neg (by simpa using h8)]
      by_cases h0 : p < 0
      · rw [decide_eq_true h0]; exact bad (by omega)
      · rw [decide_eq_false h0]; exact key (by omega)
    · rw [if_pos (by simpa using h8)]; exact bad (by omega)
  · rw [if_neg (by simpa using h1), Option.bind_some, if_pos (by decide)]
    exact bad (by omega)
theorem rget_L {b : List Int} (hw : Wf 256 b) (hl : b.length < 100000000) {p n : Int} (hp : 0 ≤ p) (hp2 : p ≤ 9223372036854775807) (hn : 1 ≤ n) (h8 : n ≤ 8) : ∀ (k i : Nat), (i : Int) ≤ n → n < k + i → (0 < i → p + i ≤ b.length) →
    F_ref01_Get_L1 b p n k (val ((b.drop p.toNat).take i)) (i : Int) = some (gt b p n)
  | 0, i, h1, h2, h3 => by omega
  | k + 1, i, h1, h2, h3 => by
    show F_ref01_Get_l1 (F_ref01_Get_L1 b p n k) b p n _ _ = _
    have hc : ¬ (n < 1 ∨ 8 < n ∨ p < 0) := by omega
    unfold F_ref01_Get_l1
    by_cases h : (i : Int) < n
    · rw [if_pos (by simpa using h)]
      unfold F_ref01_Get_j2
      by_cases hA : (b.length : Int) < p
      · rw [if_pos (by simpa using hA), if_pos (by decide)]
        unfold gt
        rw [if_neg hc, if_pos (by omega)]
      · rw [if_neg (by simpa using hA), wi64 (by omega) (by omega)]
        by_cases hB : (b.length : Int) ≤ p + i
        · rw [if_pos (by simpa using hB)]
          unfold gt
          rw [if_neg hc, if_pos (by omega)]
        · rw [if_neg (by simpa using hB)]
          have hpi : p + (i : Int) = ((p.toNat + i : Nat) : Int) := by omega
          have hlt : p.toNat + i < b.length := by omega
          have hg : b[p.toNat + i]? = some b[p.toNat + i] := List.getElem?_eq_getElem hlt
          have hx := hw.get hg
          have hb := vl_bd ((b.drop p.toNat).take i) 0 (by omega) ((hw.drop _).take i)
          have hle : (256 : Int) ^ ((b.drop p.toNat).take i).length ≤ 256 ^ 7 := pmono (by simp; omega)
          have hb2 : vl 0 ((b.drop p.toNat).take i) < 256 ^ 7 := by omega
          rw [e7] at hb2
          have e3 : IntKind.i64.wrap ((i : Int) + 1) = ((i + 1 : Nat) : Int) := by rw [wi64 (by omega) (by omega)]; omega
          have ev : IntKind.u64.wrap (IntKind.u64.wrap (val ((b.drop p.toNat).take i) * 256) + IntKind.u64.wrap b[p.toNat + i]) = val ((b.drop p.toNat).take i) * 256 + b[p.toNat + i] := by
            unfold val
            have := hb.1
            rw [wu64i (n := _ * 256) (by omega) (by omega), wu64i hx.1 (by omega), wu64i (by omega) (by omega)]
          rw [hpi, gidx_nat hg, Option.bind_some, ev, e3]
          unfold val
          have ht : (b.drop p.toNat).take i ++ [b[p.toNat + i]] = (b.drop p.toNat).take (i + 1) := by
            rw [List.take_add_one, List.getElem?_drop, hg]; rfl
          rw [← vl_snoc, ht]
          exact rget_L hw hl hp hp2 hn h8 k (i + 1) (by omega) (by omega) (by omega)
    · rw [if_neg (by simpa using h)]
      have : (i : Int) = n := by omega
      unfold gt
      rw [if_neg hc, if_neg (by have := h3 (by omega); omega), show n.toNat = i by omega]
theorem rget_eq {b : List Int} (hw : Wf 256 b) (hl : b.length < 100000000) {p n : Int} (hp : I p) : F_ref01_Get b p n = some (gt b p n) := by
  have bad : (n < 1 ∨ 8 < n ∨ p < 0) → F_ref01_Get_j1 b p n true = some (gt b p n) := fun hc => by
    unfold F_ref01_Get_j1 gt
    rw [if_pos (by decide), if_pos hc]
  unfold F_ref01_Get
  by_cases h1 : n < 1
  · rw [if_pos (by simpa using h1)]; exact bad (by omega)
  · rw [if_neg (by simpa using h1)]
    by_cases h8 : 8 < n
    · rw [if_pos (by simpa using h8)]; exact bad (by omega)
    · rw [if_neg (by simpa using h8)]
      by_cases h0 : p < 0
      · rw [decide_eq_true h0]; exact bad (by omega)
      · rw [decide_eq_false h0]
        unfold F_ref01_Get_j1
        rw [if_neg (by decide)]
        have := rget_L hw hl (p := p) (n := n) (by omega) hp.2 (by omega) (by omega) fuel0 0 (by omega) (by unfold fuel0; omega) (by omega)
        simpa [val, vl] using this
theorem limk {n : Nat} (h : n < 1000000000000) : decide (n ≤ lim) = true := lim_le h
theorem wput_eq {w : List Int} (hl : w.length < 1000000) {v n : Int} (hv : U v) : F_bits_Writer_Put ⟨w⟩ v n = some (if fit v n = true then (0, ⟨w ++ put n.toNat v⟩) else (2, ⟨w⟩)) := by
  unfold F_bits_Writer_Put
  rw [bfits_eq hv, Option.bind_some]
  cases hf : fit v n with
  | false => simp
  | true =>
    obtain ⟨h1, h8, _⟩ := fit_iff.1 hf
    rw [if_neg (by decide), of_eq hv (by omega) h8, Option.bind_some]
    unfold F_bits_Writer_Raw
    rw [if_pos (limk (by simp [put_len]; omega)), Option.bind_some, if_pos rfl]
theorem clone_eq {w : List Int} (hl : w.length < 1000000) : F_slices_Clone_byte_byte w = some w := by
  unfold F_slices_Clone_byte_byte
  rw [if_pos (limk (by simp; omega))]; rfl
theorem wbytes_eq {w : List Int} (hl : w.length < 1000000) : F_bits_Writer_Bytes ⟨w⟩ = some (w, ⟨w⟩) := by
  unfold F_bits_Writer_Bytes
  rw [clone_eq hl, Option.bind_some]
theorem gidx_nn {xs : List Int} {j : Nat} (h : j < xs.length) : gidx xs (j : Int) = some xs[j] := gidx_nat (List.getElem?_eq_getElem h)

/-! ### Headers -/
theorem arrEq_refl (n : Nat) (x : List Int) : arrEq n x x = true := by simp [arrEq]
theorem arrL_self {n : Nat} {xs : List Int} (h : xs.length = n) : arrL n xs = xs := by
  subst h
  apply List.ext_getElem?
  intro i
  by_cases hi : i < xs.length
  · simp [arrL, hi, List.getD]
  · rw [List.getElem?_eq_none (by simp [arrL]; omega), List.getElem?_eq_none (by omega)]
theorem nums_str : ∀ {xs : List Int}, Wf 256 xs → numsOfStr (strOfNums xs) = xs
  | [], _ => rfl
  | x :: xs, h => by
    have ih := nums_str (xs := xs) h.tail
    have hx := h.head
    simp only [numsOfStr, strOfNums, List.map_cons] at ih ⊢
    rw [ih]
    congr 1
    have : (UInt8.ofNat x.toNat).toNat = x.toNat := by
      rw [UInt8.toNat_ofNat']; exact Nat.mod_eq_of_lt (by omega)
    rw [this]; omega
theorem str_size (xs : List Int) : (strOfNums xs).size = xs.length := strOfNums_size xs
/-- What a header is made of. -/
structure WH (h : T_ipsix_Header) : Prop where
  c : 0 ≤ h.f_Class ∧ h.f_Class < 256
  f : 0 ≤ h.f_Flow ∧ h.f_Flow < 4294967296
  l : 0 ≤ h.f_Length ∧ h.f_Length < 65536
  n : 0 ≤ h.f_Next ∧ h.f_Next < 256
  o : 0 ≤ h.f_Hops ∧ h.f_Hops < 256
  s : h.f_Src.length = 16 ∧ Wf 256 h.f_Src
  d : h.f_Dst.length = 16 ∧ Wf 256 h.f_Dst
def hn (h : T_ipsix_Header) : Int := 1610612736 + h.f_Class * 1048576 + h.f_Flow
def hb (h : T_ipsix_Header) : List Int := put 4 (hn h) ++ put 2 h.f_Length ++ [h.f_Next, h.f_Hops] ++ h.f_Src ++ h.f_Dst
theorem orN {a b : Nat} {m k : Nat} (hb : b < 2 ^ k) (ha : a = m * 2 ^ k) : a ||| b = a + b := by
  subst ha
  have := Nat.shiftLeft_add_eq_or_of_lt hb m
  rw [Nat.shiftLeft_eq] at this
  exact this.symm
theorem or64 {a b : Int} {m k : Nat} (h0 : 0 ≤ b) (hk : k < 64) (hb : b.toNat < 2 ^ k) (ha : a = (m * 2 ^ k : Nat)) (hs : a + b < 18446744073709551616) : bits .or .u64 a b = a + b := by
  obtain ⟨y, rfl⟩ := Int.eq_ofNat_of_zero_le h0
  subst ha
  show IntKind.u64.wrap ((BitVec.ofInt 64 ((m * 2 ^ k : Nat) : Int) ||| BitVec.ofInt 64 (y : Int)).toNat : Int) = _
  have e1 : (BitVec.ofInt 64 ((m * 2 ^ k : Nat) : Int)).toNat = m * 2 ^ k := by rw [BitVec.ofInt_natCast, BitVec.toNat_ofNat]; exact Nat.mod_eq_of_lt (by omega)
  have e2 : (BitVec.ofInt 64 (y : Int)).toNat = y := by rw [BitVec.ofInt_natCast, BitVec.toNat_ofNat]; exact Nat.mod_eq_of_lt (by omega)
  rw [BitVec.toNat_or, e1, e2, orN (by simpa using hb) rfl, wu64i (by omega) (by omega)]
  omega
theorem hn_or {h : T_ipsix_Header} (w : WH h) (hf : h.f_Flow < 1048576) : bits .or .u64 (bits .or .u64 1610612736 (Ox.shl .u64 (IntKind.u64.wrap h.f_Class) 20)) (IntKind.u64.wrap h.f_Flow) = hn h := by
  have hc := w.c; have hf0 := w.f.1
  have e1 : Ox.shl .u64 (IntKind.u64.wrap h.f_Class) 20 = h.f_Class * 1048576 := by
    show IntKind.u64.wrap (IntKind.u64.wrap h.f_Class * 1048576) = _
    simp only [wu64]; omega
  rw [e1, wu64i (n := h.f_Flow) hf0 (by omega)]
  have o1 : bits .or .u64 1610612736 (h.f_Class * 1048576) = 1610612736 + h.f_Class * 1048576 := or64 (m := 6) (k := 28) (by omega) (by decide) (by omega) (by decide) (by omega)
  rw [o1, or64 (m := 6 * 256 + h.f_Class.toNat) (k := 20) hf0 (by decide) (by omega) (by omega) (by omega)]
  rfl
theorem hn_bd {h : T_ipsix_Header} (w : WH h) (hf : h.f_Flow < 1048576) : 0 ≤ hn h ∧ hn h < 4294967296 := by
  have hc := w.c; have hf0 := w.f.1
  unfold hn; omega
theorem raw_eq {w b : List Int} (hl : w.length < 1000000) (h2 : b.length < 1000000) : F_bits_Writer_Raw ⟨w⟩ b = some (0, ⟨w ++ b⟩) := by
  unfold F_bits_Writer_Raw
  rw [if_pos (limk (by dsimp only; omega))]
theorem hfits {v : Int} {n : Nat} (h1 : 1 ≤ n) (h8 : n ≤ 8) (hv : v < 256 ^ n) : fit v (n : Int) = true := fit_iff.2 ⟨by omega, by omega, by simpa using hv⟩
theorem e4 : (256 : Int) ^ 4 = 4294967296 := by decide
theorem e2 : (256 : Int) ^ 2 = 65536 := by decide
theorem hput_eq {h : T_ipsix_Header} (w : WH h) : F_ipsix_Put h = some (if h.f_Flow < 1048576 then (hb h, 0) else ([], 51)) := by
  unfold F_ipsix_Put
  by_cases hf : h.f_Flow < 1048576
  · have hbd := hn_bd w hf
    have hl := w.l
    rw [if_neg (by simpa using hf), if_pos hf, hn_or w hf, wput_eq (by simp) ⟨hbd.1, by omega⟩, Option.bind_some]
    have f1 : fit (hn h) 4 = true := hfits (n := 4) (by decide) (by decide) (by rw [e4]; omega)
    rw [if_pos f1, wu64i hl.1 (by omega)]
    dsimp only
    rw [wput_eq (by simp [put_len]) ⟨hl.1, by omega⟩, Option.bind_some]
    have f2 : fit h.f_Length 2 = true := hfits (n := 2) (by decide) (by decide) (by rw [e2]; omega)
    rw [if_pos f2]
    dsimp only
    have hs := w.s.1; have hd := w.d.1
    rw [raw_eq (by simp [put_len]) (by simp), Option.bind_some]
    dsimp only
    rw [raw_eq (by simp [put_len]) (by simp [arrL]), Option.bind_some]
    dsimp only
    rw [raw_eq (by simp [put_len, arrL]) (by simp [arrL]), Option.bind_some]
    dsimp only
    rw [wbytes_eq (by simp [put_len, arrL]), Option.bind_some, arrL_self hs, arrL_self hd]
    rfl
  · rw [if_pos (by simpa using hf), if_neg hf]
theorem rhput_eq {h : T_ipsix_Header} (w : WH h) : F_ref06_Put ⟨h.f_Class, h.f_Flow, h.f_Length, h.f_Next, h.f_Hops, strOfNums h.f_Src, strOfNums h.f_Dst⟩ = some (if h.f_Flow < 1048576 then (hb h, 0) else ([], 51)) := by
  unfold F_ref06_Put
  dsimp only
  by_cases hf : h.f_Flow < 1048576
  · have hbd := hn_bd w hf
    have hc := w.c; have hl := w.l; have hf0 := w.f.1
    have e : IntKind.u64.wrap (IntKind.u64.wrap (1610612736 + IntKind.u64.wrap (IntKind.u64.wrap h.f_Class * 1048576)) + IntKind.u64.wrap h.f_Flow) = hn h := by
      simp only [wu64, hn]; omega
    have hs := w.s.1; have hd := w.d.1
    rw [if_neg (by simpa using hf), if_pos hf, e, rput_eq ⟨hbd.1, by omega⟩ (by decide) (by decide), Option.bind_some, wu64i hl.1 (by omega), rput_eq ⟨hl.1, by omega⟩ (by decide) (by decide), Option.bind_some,
      if_pos (limk (by simp [put_len])), if_pos (limk (by simp [put_len])), if_pos (limk (by rw [str_size]; omega)), nums_str w.s.2, nums_str w.d.2, if_pos (limk (by simp [put_len, hs])), if_pos (limk (by rw [str_size]; omega)), if_pos (limk (by simp [put_len, hs, hd]))]
    rfl
  · rw [if_pos (by simpa using hf), if_neg hf]
theorem shr64 {v : Int} (h0 : 0 ≤ v) (m : Nat) (hm : m ≤ 63) : Ox.shr .u64 v (m : Int) = v / 2 ^ m := by
  show v.fdiv (2 ^ (min (m : Int).toNat 64)) = _
  rw [show min (m : Int).toNat 64 = m by simp; omega, Int.fdiv_eq_ediv_of_nonneg _ (Int.le_of_lt (Int.pow_pos (by decide)))]
theorem and64 {v : Int} (h0 : 0 ≤ v) (h1 : v < 18446744073709551616) (m : Nat) (hm : m ≤ 63) : bits .and .u64 v ((2 ^ m - 1 : Nat) : Int) = v % 2 ^ m := by
  obtain ⟨y, rfl⟩ := Int.eq_ofNat_of_zero_le h0
  have hlt : 2 ^ m - 1 < 18446744073709551616 := by
    have : 2 ^ m ≤ 2 ^ 63 := Nat.pow_le_pow_right (by decide) hm
    omega
  show IntKind.u64.wrap ((BitVec.ofInt 64 (y : Int) &&& BitVec.ofInt 64 ((2 ^ m - 1 : Nat) : Int)).toNat : Int) = _
  have e1 : (BitVec.ofInt 64 (y : Int)).toNat = y := by rw [BitVec.ofInt_natCast, BitVec.toNat_ofNat]; exact Nat.mod_eq_of_lt (by omega)
  have e2 : (BitVec.ofInt 64 ((2 ^ m - 1 : Nat) : Int)).toNat = 2 ^ m - 1 := by rw [BitVec.ofInt_natCast, BitVec.toNat_ofNat]; exact Nat.mod_eq_of_lt (by omega)
  have hml : y % 2 ^ m ≤ y := Nat.mod_le _ _
  rw [BitVec.toNat_and, e1, e2, Nat.and_two_pow_sub_one_eq_mod, wu64i (by omega) (by omega)]
  simp
theorem shr28 {v : Int} (h0 : 0 ≤ v) : Ox.shr .u64 v 28 = v / 268435456 := shr64 h0 28 (by decide)
theorem shr20 {v : Int} (h0 : 0 ≤ v) : Ox.shr .u64 v 20 = v / 1048576 := shr64 h0 20 (by decide)
theorem and20 {v : Int} (h0 : 0 ≤ v) (h1 : v < 18446744073709551616) : bits .and .u64 v 1048575 = v % 1048576 := and64 h0 h1 20 (by decide)
def zH : T_ipsix_Header := ⟨0, 0, 0, 0, 0, List.replicate 16 0, List.replicate 16 0⟩
def nb (b : List Int) : Int := val (b.take 4)
/-- The header that stands at the head of bytes. -/
def hp (b : List Int) : T_ipsix_Header := ⟨nb b / 1048576 % 256, nb b % 1048576, val ((b.drop 4).take 2), b.getD 6 0, b.getD 7 0, (b.drop 8).take 16, (b.drop 24).take 16⟩
def hpE (b : List Int) : Int := if (b.length : Int) < 40 then 10 else if nb b / 268435456 = 6 then 0 else 50
theorem gt04 {b : List Int} (h : ¬ (b.length : Int) < 40) : gt b 0 4 = (nb b, 0) := by
  unfold gt
  rw [if_neg (by decide), if_neg (by omega)]; rfl
theorem gt42 {b : List Int} (h : ¬ (b.length : Int) < 40) : gt b 4 2 = (val ((b.drop 4).take 2), 0) := by
  unfold gt
  rw [if_neg (by decide), if_neg (by omega)]; rfl
theorem nb_bd {b : List Int} (hw : Wf 256 b) : 0 ≤ nb b ∧ nb b < 4294967296 := by
  have h := vl_bd (b.take 4) 0 (by omega) (hw.take 4)
  have h2 : (256 : Int) ^ (b.take 4).length ≤ 256 ^ 4 := pmono (by simp; omega)
  have e : (256 : Int) ^ 4 = 4294967296 := by decide
  unfold nb val
  omega
theorem lb_bd {b : List Int} (hw : Wf 256 b) : 0 ≤ val ((b.drop 4).take 2) ∧ val ((b.drop 4).take 2) < 65536 := by
  have h := vl_bd ((b.drop 4).take 2) 0 (by omega) ((hw.drop 4).take 2)
  have h2 : (256 : Int) ^ ((b.drop 4).take 2).length ≤ 256 ^ 2 := pmono (by simp; omega)
  have e : (256 : Int) ^ 2 = 65536 := by decide
  unfold val
  omega
theorem gidxN {b : List Int} {i : Nat} (h : i < b.length) : gidx b (i : Int) = some (b.getD i 0) := by
  rw [gidx_nat (List.getElem?_eq_getElem h)]
  simp [List.getD, List.getElem?_eq_getElem h]
theorem gx6 {b : List Int} (h : 40 ≤ b.length) : gidx b 6 = some (b.getD 6 0) := gidxN (i := 6) (by omega)
theorem gx7 {b : List Int} (h : 40 ≤ b.length) : gidx b 7 = some (b.getD 7 0) := gidxN (i := 7) (by omega)
theorem hparse_eq {b : List Int} (hw : Wf 256 b) (hl : b.length < 1000000) : F_ipsix_Parse b = some (if hpE b = 0 then hp b else zH, hpE b) := by
  unfold F_ipsix_Parse hpE
  by_cases h : (b.length : Int) < 40
  · rw [if_pos (by simpa using h), if_pos h]; rfl
  · have hI0 : I 0 := ⟨by decide, by decide⟩
    have hI4 : I 4 := ⟨by decide, by decide⟩
    have hn := nb_bd hw; have hlb := lb_bd hw
    rw [if_neg (by simpa using h), if_neg h, bget_eq hw (by omega) hI0, Option.bind_some, bget_eq hw (by omega) hI4, Option.bind_some, gt04 h, gt42 h]
    dsimp only
    rw [shr28 hn.1]
    by_cases h6 : nb b / 268435456 = 6
    · rw [if_neg (by simpa using h6), if_pos h6, gx6 (by omega), Option.bind_some, gx7 (by omega), Option.bind_some, gcut_in (by decide) (by decide) (by omega), Option.bind_some, if_pos (by simp; omega), gcut_in (by decide) (by decide) (by omega), Option.bind_some, if_pos (by simp; omega), if_pos rfl]
      rw [shr20 hn.1, and20 hn.1 (by omega), wu8, wu32i (by omega) (by omega), wu16i hlb.1 hlb.2]
      rw [arrL_self (by simp; omega), arrL_self (by simp; omega)]
      rfl
    · rw [if_pos (by simpa using h6), if_neg h6]; rfl
def eH : T_ref06_Header := ⟨0, 0, 0, 0, 0, ByteArray.empty, ByteArray.empty⟩
def h6 (h : T_ipsix_Header) : T_ref06_Header := ⟨h.f_Class, h.f_Flow, h.f_Length, h.f_Next, h.f_Hops, strOfNums h.f_Src, strOfNums h.f_Dst⟩
theorem rhparse_eq {b : List Int} (hw : Wf 256 b) (hl : b.length < 1000000) : F_ref06_Parse b = some (if hpE b = 0 then h6 (hp b) else eH, hpE b) := by
  unfold F_ref06_Parse hpE
  by_cases h : (b.length : Int) < 40
  · rw [if_pos (by simpa using h), if_pos h]; rfl
  · have hI0 : I 0 := ⟨by decide, by decide⟩
    have hI4 : I 4 := ⟨by decide, by decide⟩
    have hn := nb_bd hw; have hlb := lb_bd hw
    rw [if_neg (by simpa using h), if_neg h, rget_eq hw (by omega) hI0, Option.bind_some, gt04 h]
    dsimp only
    rw [tdiv_nn hn.1, tdiv_nn hn.1, tmod_nn hn.1, wu64i (n := nb b / 268435456) (by omega) (by omega), wu64i (n := nb b / 1048576) (by omega) (by omega)]
    by_cases h6' : nb b / 268435456 = 6
    · rw [if_neg (by simpa using h6'), if_pos h6', rget_eq hw (by omega) hI4, Option.bind_some, gt42 h, gx6 (by omega), Option.bind_some, gx7 (by omega), Option.bind_some, gcut_in (by decide) (by decide) (by omega), Option.bind_some, gcut_in (by decide) (by decide) (by omega), Option.bind_some, if_pos rfl]
      dsimp only
      rw [tmod_nn (by omega), wu8i (by omega) (by omega), wu32i (by omega) (by omega), wu16i hlb.1 hlb.2]
      rfl
    · rw [if_pos (by simpa using h6'), if_neg h6']; rfl
theorem q6_refl (x : T_ref06_Header) : q_ref06_Header x x = true := by simp [q_ref06_Header]
theorem dzero : F_docs_Ipsix zH = some (h6 zH) := by
  unfold F_docs_Ipsix
  rw [arrL_self (n := 16) (xs := zH.f_Src) rfl, arrL_self (n := 16) (xs := zH.f_Dst) rfl]; rfl
theorem dIp {h : T_ipsix_Header} (hs : h.f_Src.length = 16) (hd : h.f_Dst.length = 16) : F_docs_Ipsix h = some (h6 h) := by
  unfold F_docs_Ipsix
  rw [arrL_self hs, arrL_self hd]; rfl
theorem hp_len {b : List Int} (h : hpE b = 0) : (hp b).f_Src.length = 16 ∧ (hp b).f_Dst.length = 16 := by
  unfold hpE at h
  split at h
  · cases h
  · simp [hp]; omega
theorem no_eq (b : List Int) : F_docs_NoIpsix (if hpE b = 0 then h6 (hp b) else eH) = some (h6 (if hpE b = 0 then hp b else zH)) := by
  unfold F_docs_NoIpsix
  by_cases h : hpE b = 0
  · rw [if_pos h, if_pos h, if_neg]
    have hl := (hp_len h).1
    intro he
    have he := eq_of_beq he
    have h1 := congrArg List.length he
    rw [ByteArray.toList_eq, ByteArray.toList_eq] at h1
    simp [h6, strOfNums, hl] at h1
  · rw [if_neg h, if_neg h, if_pos (by rw [ByteArray.toList_eq, ByteArray.toList_eq]; rfl)]
    show (F_docs_Ipsix zH).bind _ = _
    rw [dzero, Option.bind_some]
theorem sb_L {a : List Int} (hl : a.length < 1000000) : ∀ (k i : Nat), i ≤ a.length → a.length < k + i → F_kit_SameBytes_L1 a a k (i : Int) = some true
  | 0, i, h1, h2 => by omega
  | k + 1, i, h1, h2 => by
    show F_kit_SameBytes_l1 (F_kit_SameBytes_L1 a a k) a a _ = _
    unfold F_kit_SameBytes_l1
    by_cases h : i < a.length
    · have e3 : IntKind.i64.wrap ((i : Int) + 1) = ((i + 1 : Nat) : Int) := by rw [wi64 (by omega) (by omega)]; omega
      rw [if_pos (by simpa using h), gidx_nn h, Option.bind_some, Option.bind_some, if_neg (by simp), e3]
      exact sb_L hl k (i + 1) (by omega) (by omega)
    · rw [if_neg (by simpa using h)]
theorem sb_eq {a : List Int} (hl : a.length < 1000000) : F_kit_SameBytes a a = some true := by
  unfold F_kit_SameBytes
  rw [if_neg (by simp)]
  exact sb_L hl fuel0 0 (by omega) (by unfold fuel0; omega)
theorem hb_len {h : T_ipsix_Header} (w : WH h) : (hb h).length = 40 := by simp [hb, put_len, w.s.1, w.d.1]
theorem hb_wf {h : T_ipsix_Header} (w : WH h) : Wf 256 (hb h) := by
  refine ((((put_wf _ _).app (put_wf _ _)).app ?_).app w.s.2).app w.d.2
  exact Wf.cons w.n (Wf.cons w.o Wf.nil)
/-- What was put is parsed as it was. -/
theorem hback {h : T_ipsix_Header} (w : WH h) (hf : h.f_Flow < 1048576) (b : List Int) : hpE (hb h ++ b) = 0 ∧ hp (hb h ++ b) = h := by
  have hbd := hn_bd w hf
  have hc := w.c; have hl := w.l; have hf0 := w.f.1; have hs := w.s.1; have hd := w.d.1
  have e4 : (256 : Int) ^ 4 = 4294967296 := by decide
  have e2 : (256 : Int) ^ 2 = 65536 := by decide
  have p4 : (put 4 (hn h)).length = 4 := put_len _ _
  have p2 : (put 2 h.f_Length).length = 2 := put_len _ _
  have n4 : nb (hb h ++ b) = hn h := by
    unfold nb hb
    rw [List.append_assoc, List.append_assoc, List.append_assoc, List.append_assoc, List.take_append_of_le_length (by omega), List.take_of_length_le (by omega), val_put 4 _ hbd.1 (by omega)]
  have d4 : (hb h ++ b).drop 4 = put 2 h.f_Length ++ ([h.f_Next, h.f_Hops] ++ (h.f_Src ++ (h.f_Dst ++ b))) := by
    unfold hb
    rw [List.append_assoc, List.append_assoc, List.append_assoc, List.append_assoc, List.drop_append_of_le_length (by omega), List.drop_of_length_le (by omega), List.nil_append]
  have d6 : (hb h ++ b).drop 6 = [h.f_Next, h.f_Hops] ++ (h.f_Src ++ (h.f_Dst ++ b)) := by
    rw [show 6 = 4 + 2 by rfl, ← List.drop_drop, d4, List.drop_append_of_le_length (by omega), List.drop_of_length_le (by omega), List.nil_append]
  have d8 : (hb h ++ b).drop 8 = h.f_Src ++ (h.f_Dst ++ b) := by
    rw [show 8 = 6 + 2 by rfl, ← List.drop_drop, d6]; rfl
  have d24 : (hb h ++ b).drop 24 = h.f_Dst ++ b := by
    rw [show 24 = 8 + 16 by rfl, ← List.drop_drop, d8, List.drop_append_of_le_length (by omega), List.drop_of_length_le (by omega), List.nil_append]
  have g6 : (hb h ++ b).getD 6 0 = h.f_Next := by
    have : (hb h ++ b)[6]? = ((hb h ++ b).drop 6)[0]? := by simp
    rw [List.getD, this, d6]; rfl
  have g7 : (hb h ++ b).getD 7 0 = h.f_Hops := by
    have : (hb h ++ b)[7]? = ((hb h ++ b).drop 6)[1]? := by simp
    rw [List.getD, this, d6]; rfl
  have hlen : ¬ ((hb h ++ b).length : Int) < 40 := by rw [List.length_append, hb_len w]; omega
  have hnv : hn h = 1610612736 + h.f_Class * 1048576 + h.f_Flow := rfl
  refine ⟨?_, ?_⟩
  · unfold hpE
    rw [if_neg hlen, n4, if_pos (by omega)]
  · unfold hp
    rw [n4, d4, d8, d24, g6, g7, List.take_append_of_le_length (by omega), List.take_of_length_le (by omega), val_put 2 _ hl.1 (by omega), List.take_append_of_le_length (by omega), List.take_of_length_le (by omega), List.take_append_of_le_length (by omega), List.take_of_length_le (by omega), show hn h / 1048576 % 256 = h.f_Class by omega, show hn h % 1048576 = h.f_Flow by omega]
theorem qH_refl (x : T_ipsix_Header) : q_ipsix_Header x x = true := by simp [q_ipsix_Header, arrEq_refl]
theorem heads_eq {h : T_ipsix_Header} (w : WH h) {b : List Int} (hw : Wf 256 b) : F_law06_IpsixHeads h b = some true := by
  unfold F_law06_IpsixHeads
  by_cases hl : 100 < b.length
  · rw [if_pos (by simp; omega), works_eq]; rfl
  · rw [if_neg (by simp; omega), dIp w.s.1 w.d.1, Option.bind_some, hput_eq w, Option.bind_some]
    have hr := rhput_eq w
    unfold h6
    rw [hr, Option.bind_some, hparse_eq hw (by omega), Option.bind_some]
    unfold F_kit_Own
    rw [if_pos (limk (by omega)), Option.bind_some, rhparse_eq hw (by omega), Option.bind_some, if_neg (by simp)]
    have hsl : (if h.f_Flow < 1048576 then (hb h, (0 : Int)) else ([], 51)).1.length < 1000000 := by
      split
      · rw [hb_len w]; decide
      · simp
    rw [sb_eq hsl, Option.bind_some, if_neg (by decide), if_neg (by simp)]
    dsimp only
    have hx : F_docs_Ipsix (if hpE b = 0 then hp b else zH) = some (h6 (if hpE b = 0 then hp b else zH)) := by
      split
      · rename_i h0; exact dIp (hp_len h0).1 (hp_len h0).2
      · exact dzero
    rw [hx, Option.bind_some, no_eq, Option.bind_some, q6_refl]
    unfold F_law06_IpsixHeads_j1
    rw [if_neg (by decide)]
    by_cases hf : h.f_Flow < 1048576
    · rw [if_pos hf]
      dsimp only
      have hbk := hback w hf b
      rw [if_pos (by decide), if_pos (limk (by rw [hb_len w]; omega)), hparse_eq ((hb_wf w).app hw) (by rw [List.length_append, hb_len w]; omega), Option.bind_some, hbk.1]
      dsimp only
      rw [if_pos (by decide), if_pos rfl, hbk.2, if_pos (qH_refl h), works_eq]
      rfl
    · rw [if_neg hf]
      dsimp only
      rw [if_neg (by decide), works_eq]; rfl
end Go.Proofs.Ytikjomacnbemhaa
