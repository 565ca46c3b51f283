/- The plain law of the chapter on bits: what the printed functions compute. No program's code is named here. -/
import Derived.Test.YtpbkjellpboefaaF
import Derived.Test.YtpbkjellpboefaaOxP
set_option linter.unusedVariables false
namespace Go.Proofs.Ytpbkjellpboefaa
open Go Go.Ox Go.RowKit

theorem works_eq : F_law01_works = some true := by decide +kernel
def U (v : Int) : Prop := 0 ≤ v ∧ v < 18446744073709551616
def I (v : Int) : Prop := -9223372036854775808 ≤ v ∧ v ≤ 9223372036854775807
theorem p256 (n : Nat) : (0 : Int) < 256 ^ n := Int.pow_pos (by decide)
theorem p256s (n : Nat) : (256 : Int) ^ (n + 1) = 256 ^ n * 256 := Int.pow_succ _ _

theorem e8 : (256 : Int) ^ 8 = 18446744073709551616 := by decide
theorem e7 : (256 : Int) ^ 7 = 72057594037927936 := by decide
theorem pmono {m n : Nat} (h : m ≤ n) : (256 : Int) ^ m ≤ 256 ^ n := by
  induction n with
  | zero => rw [show m = 0 by omega]; exact Int.le_refl _
  | succ n ih =>
    rcases Nat.lt_or_ge n m with h1 | h1
    · rw [show m = n + 1 by omega]; exact Int.le_refl _
    · have := ih h1; have := p256 n; rw [p256s]; omega

/-! ### Sizes -/
def dgs : Nat → Int → Int
  | 0, _ => 0
  | m + 1, v => if 0 < v then 1 + dgs m (v / 256) else 0
theorem dgs_nn : ∀ (m : Nat) (v : Int), 0 ≤ dgs m v
  | 0, v => by simp [dgs]
  | m + 1, v => by have := dgs_nn m (v / 256); unfold dgs; split <;> omega
theorem dgs_le : ∀ (m : Nat) (v : Int) (n : Nat), 0 ≤ v → v < 256 ^ m → (dgs m v ≤ n ↔ v < 256 ^ n)
  | 0, v, n, h0, h1 => by
    have := p256 n
    simp at h1
    simp only [dgs]
    omega
  | m + 1, v, n, h0, h1 => by
    rw [p256s] at h1
    unfold dgs
    by_cases hv : 0 < v
    · rw [if_pos hv]
      cases n with
      | zero => have := dgs_nn m (v / 256); simp; omega
      | succ n =>
        have ih := dgs_le m (v / 256) n (by omega) (by omega)
        rw [p256s]
        have hp := p256 n
        constructor
        · intro h
          have := ih.1 (by omega)
          omega
        · intro h
          have := ih.2 (by omega)
          omega
    · rw [if_neg hv]
      have := p256 n
      omega
/-- The least size of a number. -/
def lst (v : Int) : Int := 1 + dgs 8 (v / 256)
theorem lst_pos (v : Int) : 1 ≤ lst v := by have := dgs_nn 8 (v / 256); unfold lst; omega
theorem lst_le {v : Int} (hv : U v) {n : Nat} (hn : 1 ≤ n) : lst v ≤ n ↔ v < 256 ^ n := by
  obtain ⟨m, rfl⟩ : ∃ m, n = m + 1 := ⟨n - 1, by omega⟩
  have h := dgs_le 8 (v / 256) m (by have := hv.1; omega) (by have := hv.2; rw [e8]; omega)
  unfold lst
  rw [p256s]
  have := p256 m
  constructor
  · intro h1
    have := h.1 (by omega)
    omega
  · intro h1
    have := h.2 (by omega)
    omega
theorem lst_8 {v : Int} (hv : U v) : lst v ≤ 8 := (lst_le hv (n := 8) (by decide)).2 (by have := hv.2; rw [e8]; omega)
theorem shr8 {n : Int} (h0 : 0 ≤ n) : Ox.shr .u64 n 8 = n / 256 := by
  show n.fdiv (2 ^ (min 8 64)) = _
  rw [Int.fdiv_eq_ediv_of_nonneg _ (by decide)]
  rfl
theorem least_L : ∀ (m k : Nat) (v n : Int), 0 ≤ v → v < 256 ^ m → m < k → 0 ≤ n → n + m ≤ 1000 → F_bits_Least_L1 k v n = some (n + dgs m v)
  | m, 0, v, n, h0, h1, h2, h3, h4 => by omega
  | 0, k + 1, v, n, h0, h1, h2, h3, h4 => by
    simp at h1
    show F_bits_Least_l1 (F_bits_Least_L1 k) v n = _
    unfold F_bits_Least_l1
    rw [if_neg (by simp; omega)]
    simp [dgs]
  | m + 1, k + 1, v, n, h0, h1, h2, h3, h4 => by
    rw [p256s] at h1
    show F_bits_Least_l1 (F_bits_Least_L1 k) v n = _
    unfold F_bits_Least_l1
    by_cases hv : 0 < v
    · rw [if_pos (by simpa using hv), shr8 h0, wi64 (by omega) (by omega), least_L m k _ _ (by omega) (by omega) (by omega) (by omega) (by omega)]
      simp only [dgs, if_pos hv]
      congr 1; omega
    · rw [if_neg (by simpa using hv)]
      simp [dgs, if_neg hv]
theorem least_eq {v : Int} (hv : U v) : F_bits_Least v = some (lst v) := by
  have h := hv.1; have h2 := hv.2
  unfold F_bits_Least
  rw [shr8 h]
  exact least_L 8 _ _ _ (by omega) (by rw [e8]; omega) (by unfold fuel0; omega) (by omega) (by omega)
/-- Does a number fit a size? -/
def fit (v n : Int) : Bool := decide (1 ≤ n) && decide (n ≤ 8) && decide (v < 256 ^ n.toNat)
theorem fit_iff {v n : Int} : fit v n = true ↔ 1 ≤ n ∧ n ≤ 8 ∧ v < 256 ^ n.toNat := by simp [fit, and_assoc]
theorem fit_lst {v : Int} (hv : U v) {n : Int} (h1 : 1 ≤ n) (h8 : n ≤ 8) : fit v n = decide (lst v ≤ n) := by
  have := lst_le hv (n := n.toNat) (by omega)
  rw [show ((n.toNat : Nat) : Int) = n by omega] at this
  simp only [fit, h1, h8, decide_true, Bool.true_and]
  exact decide_eq_decide.2 this.symm
theorem bfits_eq {v n : Int} (hv : U v) : F_bits_fits v n = some (fit v n) := by
  unfold F_bits_fits F_bits_right F_bits_right_j1
  by_cases h1 : 1 ≤ n
  · rw [if_pos (by simpa using h1), Option.bind_some]
    by_cases h8 : n ≤ 8
    · rw [if_pos (by simpa using h8), least_eq hv, Option.bind_some, fit_lst hv h1 h8]; rfl
    · rw [if_neg (by simpa using h8)]
      simp [F_bits_fits_j1, fit, h8]
  · rw [if_neg (by simpa using h1), Option.bind_some, if_neg (by decide)]
    simp [F_bits_fits_j1, fit, h1]
theorem power_eq {n : Int} (h0 : 0 ≤ n) (h8 : n ≤ 8) : F_ref01_Power n = some (256 ^ n.toNat - 1) := by
  obtain ⟨m, rfl⟩ := Int.eq_ofNat_of_zero_le h0
  have : m = 0 ∨ m = 1 ∨ m = 2 ∨ m = 3 ∨ m = 4 ∨ m = 5 ∨ m = 6 ∨ m = 7 ∨ m = 8 := by omega
  rcases this with rfl | rfl | rfl | rfl | rfl | rfl | rfl | rfl | rfl <;> decide +kernel
theorem rfits_eq {v n : Int} : F_ref01_Fits v n = some (fit v n) := by
  unfold F_ref01_Fits F_ref01_Fits_j1
  by_cases h1 : 1 ≤ n
  · rw [if_pos (by simpa using h1)]
    by_cases h8 : n ≤ 8
    · rw [if_pos (by simpa using h8), power_eq (by omega) h8, Option.bind_some]
      simp only [fit, h1, h8, decide_true, Bool.true_and]
      congr 1
      exact decide_eq_decide.2 (by omega)
    · rw [if_neg (by simpa using h8)]; simp [fit, h8]
  · rw [if_neg (by simpa using h1)]; simp [fit, h1]
theorem rleast_L {v : Int} (hv : U v) : ∀ (k : Nat) (n : Int), 1 ≤ n → n ≤ lst v → 8 - n < k → F_ref01_Least_L1 v k n = some (lst v)
  | 0, n, h1, h2, h3 => by have := lst_8 hv; omega
  | k + 1, n, h1, h2, h3 => by
    have h8 := lst_8 hv
    show F_ref01_Least_l1 (F_ref01_Least_L1 v k) v n = _
    unfold F_ref01_Least_l1
    by_cases h : n < 8
    · rw [if_pos (by simpa using h), rfits_eq, Option.bind_some, fit_lst hv h1 (by omega)]
      by_cases hl : lst v ≤ n
      · rw [if_pos (by simpa using hl)]; congr 1; omega
      · rw [if_neg (by simpa using hl), wi64 (by omega) (by omega), rleast_L hv k _ (by omega) (by omega) (by omega)]
    · rw [if_neg (by simpa using h)]; congr 1; omega
theorem rleast_eq {v : Int} (hv : U v) : F_ref01_Least v = some (lst v) := rleast_L hv _ 1 (by omega) (lst_pos v) (by unfold fuel0; omega)

/-! ### Bytes -/
def put : Nat → Int → List Int
  | 0, _ => []
  | n + 1, v => put n (v / 256) ++ [v % 256]
theorem put_len : ∀ (n : Nat) (v : Int), (put n v).length = n
  | 0, v => rfl
  | n + 1, v => by simp [put, put_len n]
theorem put_wf : ∀ (n : Nat) (v : Int), Wf 256 (put n v)
  | 0, v => Wf.nil
  | n + 1, v => (put_wf n _).app (Wf.cons (by omega) Wf.nil)
theorem put_front : ∀ (n : Nat) (v : Int), put (n + 1) v = (v / 256 ^ n % 256) :: put n v
  | 0, v => by simp [put]
  | n + 1, v => by
    rw [put, put_front n (v / 256)]
    simp only [put, List.cons_append, List.cons.injEq, and_true]
    rw [p256s, Int.mul_comm, Int.ediv_ediv_of_nonneg (by decide)]
theorem shr_t {v : Int} (hv : 0 ≤ v) {t : Nat} (ht : t ≤ 7) : Ox.shr .u64 v (8 * (t : Int)) = v / 256 ^ t := by
  have : t = 0 ∨ t = 1 ∨ t = 2 ∨ t = 3 ∨ t = 4 ∨ t = 5 ∨ t = 6 ∨ t = 7 := by omega
  have e : ∀ m : Nat, v.fdiv (2 ^ m) = v / 2 ^ m := fun m => Int.fdiv_eq_ediv_of_nonneg _ (Int.le_of_lt (Int.pow_pos (by decide)))
  rcases this with rfl | rfl | rfl | rfl | rfl | rfl | rfl | rfl <;> (unfold Ox.shr; rw [e]; rfl)
theorem of_L {v : Int} (hv : U v) {n : Nat} (hn : n ≤ 8) : ∀ (k t : Nat), t ≤ n → n < k + t → F_bits_of_L1 v n k (List.replicate (n - t) 0 ++ put t v) (t : Int) = some (put n v)
  | 0, t, h1, h2 => by omega
  | k + 1, t, h1, h2 => by
    show F_bits_of_l1 (F_bits_of_L1 v n k) v n _ _ = _
    unfold F_bits_of_l1
    by_cases h : t < n
    · obtain ⟨m, hm⟩ : ∃ m, n - t = m + 1 := ⟨n - t - 1, by omega⟩
      have e0 : IntKind.i64.wrap ((n : Int) - 1) = (n : Int) - 1 := wi64 (by omega) (by omega)
      have e1 : IntKind.i64.wrap ((n : Int) - 1 - t) = (m : Int) := by rw [wi64 (by omega) (by omega)]; omega
      have e2 : IntKind.i64.wrap (8 * (t : Int)) = 8 * (t : Int) := wi64 (by omega) (by omega)
      have e3 : IntKind.i64.wrap ((t : Int) + 1) = ((t + 1 : Nat) : Int) := by rw [wi64 (by omega) (by omega)]; omega
      rw [if_pos (by simpa using h), e2, if_pos (by simp; omega), e0, e1, hm]
      have hg : gidx (List.replicate (m + 1) 0 ++ put t v) (m : Int) = some 0 := gidx_nat (by rw [List.getElem?_append_left (by simp)]; simp)
      rw [hg, Option.bind_some, e3, shr_t hv.1 (by omega), wu8]
      have hs : (List.replicate (m + 1) 0 ++ put t v).set (m : Int).toNat (v / 256 ^ t % 256) = List.replicate (n - (t + 1)) 0 ++ put (t + 1) v := by
        rw [put_front, List.replicate_succ', show n - (t + 1) = m by omega]
        simp
      rw [hs]
      exact of_L hv hn k (t + 1) (by omega) (by omega)
    · rw [if_neg (by simpa using h), show t = n by omega]
      simp
theorem of_eq {v : Int} (hv : U v) {n : Int} (h0 : 0 ≤ n) (hn : n ≤ 8) : F_bits_of v n = some (put n.toNat v) := by
  obtain ⟨m, rfl⟩ := Int.eq_ofNat_of_zero_le h0
  unfold F_bits_of
  rw [if_pos (by simp only [lim]; simp; omega)]
  have := of_L hv (n := m) (by omega) fuel0 0 (by omega) (by unfold fuel0; omega)
  simpa [put] using this
theorem rput_L : ∀ (k n : Nat) (v : Int), U v → n ≤ 8 → n < k → F_ref01_Put_R k v (n : Int) = some (put n v)
  | 0, n, v, hv, h8, hk => by omega
  | k + 1, 0, v, hv, h8, hk => by
    show F_ref01_Put_B (F_ref01_Put_R k) v _ = _
    unfold F_ref01_Put_B
    rw [if_pos (by simp)]; rfl
  | k + 1, n + 1, v, hv, h8, hk => by
    have h := hv.1; have h' := hv.2
    show F_ref01_Put_B (F_ref01_Put_R k) v _ = _
    unfold F_ref01_Put_B
    have e : IntKind.i64.wrap (((n + 1 : Nat) : Int) - 1) = (n : Int) := by rw [wi64 (by omega) (by omega)]; omega
    rw [if_neg (by simp; omega), tdiv_nn h, tmod_nn h, wu64i (by omega) (by omega), e, rput_L k n (v / 256) ⟨by omega, by omega⟩ (by omega) (by omega), Option.bind_some, if_pos (lim_le (by simp [put_len]; omega)), wu8i (by omega) (by omega)]
    rfl
theorem rput_eq {v : Int} (hv : U v) {n : Int} (h0 : 0 ≤ n) (hn : n ≤ 8) : F_ref01_Put v n = some (put n.toNat v) := by
  obtain ⟨m, rfl⟩ := Int.eq_ofNat_of_zero_le h0
  exact rput_L _ _ _ hv (by omega) (by unfold fuel0; omega)

/-! ### Numbers of bytes -/
def vl (a : Int) (b : List Int) : Int := b.foldl (fun a x => a * 256 + x) a
def val (b : List Int) : Int := vl 0 b
theorem vl_snoc (a : Int) (b : List Int) (x : Int) : vl a (b ++ [x]) = vl a b * 256 + x := by simp [vl]
theorem vl_bd : ∀ (b : List Int) (a : Int), 0 ≤ a → Wf 256 b → 0 ≤ vl a b ∧ vl a b < (a + 1) * 256 ^ b.length
  | [], a, h, hw => by simp [vl]; omega
  | x :: b, a, h, hw => by
    have hx := hw.head
    have ih := vl_bd b (a * 256 + x) (by omega) hw.tail
    refine ⟨ih.1, Int.lt_of_lt_of_le ih.2 ?_⟩
    rw [List.length_cons, p256s, Int.mul_comm (256 ^ b.length), ← Int.mul_assoc]
    exact Int.mul_le_mul_of_nonneg_right (by omega) (Int.le_of_lt (p256 _))
theorem val_put : ∀ (n : Nat) (v : Int), 0 ≤ v → v < 256 ^ n → val (put n v) = v
  | 0, v, h0, h1 => by simp at h1; simp [put, val, vl]; omega
  | n + 1, v, h0, h1 => by
    rw [p256s] at h1
    unfold val
    rw [put, vl_snoc]
    have := val_put n (v / 256) (by omega) (by omega)
    unfold val at this
    rw [this]; omega
theorem or8 {v x : Int} (h0 : 0 ≤ v) (h1 : v * 256 < 18446744073709551616) (hx : 0 ≤ x ∧ x < 256) : bits .or .u64 (Ox.shl .u64 v 8) (IntKind.u64.wrap x) = v * 256 + x := by
  have e : Ox.shl .u64 v 8 = v * 256 := by
    show IntKind.u64.wrap (v * 256) = _
    rw [wu64i (by omega) h1]
  rw [e, wu64i hx.1 (by omega)]
  obtain ⟨m, rfl⟩ := Int.eq_ofNat_of_zero_le h0
  obtain ⟨y, rfl⟩ := Int.eq_ofNat_of_zero_le hx.1
  show IntKind.u64.wrap ((BitVec.ofInt 64 ((m : Int) * 256) ||| BitVec.ofInt 64 (y : Int)).toNat : Int) = _
  have e1 : (BitVec.ofInt 64 ((m : Int) * 256)).toNat = m * 256 := by rw [show (m : Int) * 256 = ((m * 256 : Nat) : Int) by omega, BitVec.ofInt_natCast, BitVec.toNat_ofNat]; exact Nat.mod_eq_of_lt (by omega)
  have e2 : (BitVec.ofInt 64 (y : Int)).toNat = y := by rw [BitVec.ofInt_natCast, BitVec.toNat_ofNat]; exact Nat.mod_eq_of_lt (by omega)
  have e3 : m * 256 ||| y = m * 256 + y := by
    have := Nat.shiftLeft_add_eq_or_of_lt (a := m) (i := 8) (b := y) (by omega)
    rw [Nat.shiftLeft_eq] at this
    exact this.symm
  rw [BitVec.toNat_or, e1, e2, e3, wu64i (by omega) (by omega)]
  omega
theorem value_L {b : List Int} (hw : Wf 256 b) (hl : b.length ≤ 8) : ∀ (k j : Nat), j ≤ b.length → b.length < k + j → F_bits_value_L1 b k (val (b.take j)) (j : Int) = some (val b)
  | 0, j, h1, h2 => by omega
  | k + 1, j, h1, h2 => by
    show F_bits_value_l1 (F_bits_value_L1 b k) b _ _ = _
    unfold F_bits_value_l1
    by_cases h : j < b.length
    · have hg : b[j]? = some b[j] := List.getElem?_eq_getElem h
      have hx := hw.get hg
      have hb := vl_bd (b.take j) 0 (by omega) (hw.take j)
      have hlt : (256 : Int) ^ (b.take j).length ≤ 256 ^ 7 := pmono (by simp; omega)
      have e3 : IntKind.i64.wrap ((j : Int) + 1) = ((j + 1 : Nat) : Int) := by rw [wi64 (by omega) (by omega)]; omega
      have hb2 : vl 0 (b.take j) < 256 ^ 7 := by omega
      rw [e7] at hb2
      rw [if_pos (by simpa using h), gidx_nat hg, Option.bind_some]
      unfold val
      rw [or8 hb.1 (by omega) hx, e3, ← vl_snoc, show List.take j b ++ [b[j]] = List.take (j + 1) b by rw [List.take_add_one, hg]; rfl]
      exact value_L hw hl k (j + 1) (by omega) (by omega)
    · rw [if_neg (by simpa using h), show j = b.length by omega, List.take_length]
theorem value_eq {b : List Int} (hw : Wf 256 b) (hl : b.length ≤ 8) : F_bits_value b = some (val b) := by
  have := value_L hw hl fuel0 0 (by omega) (by unfold fuel0; omega)
  exact this
/-- The number at a place, and how it went. -/
def gt (b : List Int) (p n : Int) : Int × Int := if n < 1 ∨ 8 < n ∨ p < 0 then (0, 2) else if b.length < p + n then (0, 10) else (val ((b.drop p.toNat).take n.toNat), 0)
theorem bget_eq {b : List Int} (hw : Wf 256 b) (hl : b.length < 100000000) {p n : Int} (hp : I p) : F_bits_Get b p n = some (gt b p n) := by
  have hp1 := hp.1; have hp2 := hp.2
  have key : ¬ (n < 1 ∨ 8 < n ∨ p < 0) → F_bits_Get_j1 b p n false = some (gt b p n) := fun hc => by
    unfold F_bits_Get_j1 gt
    rw [if_neg (by decide), if_neg hc]
    by_cases h : (b.length : Int) < p
    · rw [if_pos (by simpa using h), if_pos (by omega)]; rfl
    · rw [if_neg (by simpa using h), wi64 (by omega) (by omega)]
      unfold F_bits_Get_j2
      by_cases h2 : (b.length : Int) < p + n
      · rw [if_pos (by simp; omega), if_pos h2]
      · rw [if_neg (by simp; omega), if_neg h2, wi64 (by omega) (by omega), gcut_in (by omega) (by omega) (by omega), Option.bind_some, show (p + n).toNat - p.toNat = n.toNat by omega, value_eq ((hw.drop _).take _) (by simp; omega)]
        rfl
  have bad : (n < 1 ∨ 8 < n ∨ p < 0) → F_bits_Get_j1 b p n true = some (gt b p n) := fun hc => by
    unfold F_bits_Get_j1 gt
    rw [if_pos (by decide), if_pos hc]
  unfold F_bits_Get F_bits_right F_bits_right_j1
  by_cases h1 : 1 ≤ n
  · rw [if_pos (by simpa using h1), Option.bind_some]
    by_cases h8 : n ≤ 8
    · rw [if_neg (by simpa using h8)]
      by_cases h0 : p < 0
      · rw [decide_eq_true h0]; exact bad (by omega)
      · rw [decide_eq_false h0]; exact key (by omega)
    · rw [if_pos (by simpa using h8)]; exact bad (by omega)
  · rw [if_neg (by simpa using h1), Option.bind_some, if_pos (by decide)]
    exact bad (by omega)
theorem rget_L {b : List Int} (hw : Wf 256 b) (hl : b.length < 100000000) {p n : Int} (hp : 0 ≤ p) (hp2 : p ≤ 9223372036854775807) (hn : 1 ≤ n) (h8 : n ≤ 8) : ∀ (k i : Nat), (i : Int) ≤ n → n < k + i → (0 < i → p + i ≤ b.length) →
    F_ref01_Get_L1 b p n k (val ((b.drop p.toNat).take i)) (i : Int) = some (gt b p n)
  | 0, i, h1, h2, h3 => by omega
  | k + 1, i, h1, h2, h3 => by
    show F_ref01_Get_l1 (F_ref01_Get_L1 b p n k) b p n _ _ = _
    have hc : ¬ (n < 1 ∨ 8 < n ∨ p < 0) := by omega
    unfold F_ref01_Get_l1
    by_cases h : (i : Int) < n
    · rw [if_pos (by simpa using h)]
      unfold F_ref01_Get_j2
      by_cases hA : (b.length : Int) < p
      · rw [if_pos (by simpa using hA), if_pos (by decide)]
        unfold gt
        rw [if_neg hc, if_pos (by omega)]
      · rw [if_neg (by simpa using hA), wi64 (by omega) (by omega)]
        by_cases hB : (b.length : Int) ≤ p + i
        · rw [if_pos (by simpa using hB)]
          unfold gt
          rw [if_neg hc, if_pos (by omega)]
        · rw [if_neg (by simpa using hB)]
          have hpi : p + (i : Int) = ((p.toNat + i : Nat) : Int) := by omega
          have hlt : p.toNat + i < b.length := by omega
          have hg : b[p.toNat + i]? = some b[p.toNat + i] := List.getElem?_eq_getElem hlt
          have hx := hw.get hg
          have hb := vl_bd ((b.drop p.toNat).take i) 0 (by omega) ((hw.drop _).take i)
          have hle : (256 : Int) ^ ((b.drop p.toNat).take i).length ≤ 256 ^ 7 := pmono (by simp; omega)
          have hb2 : vl 0 ((b.drop p.toNat).take i) < 256 ^ 7 := by omega
          rw [e7] at hb2
          have e3 : IntKind.i64.wrap ((i : Int) + 1) = ((i + 1 : Nat) : Int) := by rw [wi64 (by omega) (by omega)]; omega
          have ev : IntKind.u64.wrap (IntKind.u64.wrap (val ((b.drop p.toNat).take i) * 256) + IntKind.u64.wrap b[p.toNat + i]) = val ((b.drop p.toNat).take i) * 256 + b[p.toNat + i] := by
            unfold val
            have := hb.1
            rw [wu64i (n := _ * 256) (by omega) (by omega), wu64i hx.1 (by omega), wu64i (by omega) (by omega)]
          rw [hpi, gidx_nat hg, Option.bind_some, ev, e3]
          unfold val
          have ht : (b.drop p.toNat).take i ++ [b[p.toNat + i]] = (b.drop p.toNat).take (i + 1) := by
            rw [List.take_add_one, List.getElem?_drop, hg]; rfl
          rw [← vl_snoc, ht]
          exact rget_L hw hl hp hp2 hn h8 k (i + 1) (by omega) (by omega) (by omega)
    · rw [if_neg (by simpa using h)]
      have : (i : Int) = n := by omega
      unfold gt
      rw [if_neg hc, if_neg (by have := h3 (by omega); omega), show n.toNat = i by omega]
theorem rget_eq {b : List Int} (hw : Wf 256 b) (hl : b.length < 100000000) {p n : Int} (hp : I p) : F_ref01_Get b p n = some (gt b p n) := by
  have bad : (n < 1 ∨ 8 < n ∨ p < 0) → F_ref01_Get_j1 b p n true = some (gt b p n) := fun hc => by
    unfold F_ref01_Get_j1 gt
    rw [if_pos (by decide), if_pos hc]
  unfold F_ref01_Get
  by_cases h1 : n < 1
  · rw [if_pos (by simpa using h1)]; exact bad (by omega)
  · rw [if_neg (by simpa using h1)]
    by_cases h8 : 8 < n
    · rw [if_pos (by simpa using h8)]; exact bad (by omega)
    · rw [if_neg (by simpa using h8)]
      by_cases h0 : p < 0
      · rw [decide_eq_true h0]; exact bad (by omega)
      · rw [decide_eq_false h0]
        unfold F_ref01_Get_j1
        rw [if_neg (by decide)]
        have := rget_L hw hl (p := p) (n := n) (by omega) hp.2 (by omega) (by omega) fuel0 0 (by omega) (by unfold fuel0; omega) (by omega)
        simpa [val, vl] using this
theorem gets_eq {b : List Int} (hw : Wf 256 b) {p n v : Int} (hp : I p) (hv : U v) : F_law01_BitsGets b p n v = some true := by
  unfold F_law01_BitsGets F_law01_BitsGets_j1
  by_cases h : 300 < b.length
  · rw [if_pos (by simp; omega), works_eq]; rfl
  · rw [if_neg (by simp; omega), bget_eq hw (by omega) hp, Option.bind_some, rget_eq hw (by omega) hp, Option.bind_some, if_pos (by simp), if_pos (by simp), least_eq hv, Option.bind_some, rleast_eq hv, Option.bind_some, if_pos (by simp), works_eq]
    rfl
theorem none_eq (a : T_law01_Act) : F_law01_BitsNone a = some true := by
  simp [F_law01_BitsNone, F_bits_Reader_Get_N, F_bits_Reader_Take_N, F_bits_Writer_Put_N, F_bits_Writer_Raw_N, F_bits_Writer_Set_N, F_bits_Writer_Bytes_N, F_bits_Writer_Len_N, F_bits_Reader_Left_N, F_bits_Reader_At_N, works_eq, F_law01_BitsNone_j1]

/-! ### A writer -/
theorem limk {n : Nat} (h : n < 1000000000000) : decide (n ≤ lim) = true := lim_le h
theorem wput_eq {w : List Int} (hl : w.length < 1000000) {v n : Int} (hv : U v) : F_bits_Writer_Put ⟨w⟩ v n = some (if fit v n = true then (0, ⟨w ++ put n.toNat v⟩) else (2, ⟨w⟩)) := by
  unfold F_bits_Writer_Put
  rw [bfits_eq hv, Option.bind_some]
  cases hf : fit v n with
  | false => simp
  | true =>
    obtain ⟨h1, h8, _⟩ := fit_iff.1 hf
    rw [if_neg (by decide), of_eq hv (by omega) h8, Option.bind_some]
    unfold F_bits_Writer_Raw
    rw [if_pos (limk (by simp [put_len]; omega)), Option.bind_some, if_pos rfl]
theorem cpR_put {w : List Int} {p n : Int} {v : Int} (h0 : 0 ≤ p) (hp : p ≤ w.length) (hn : 0 ≤ n) (hle : p + n ≤ w.length) : cpR p.toNat (Nat.min (put n.toNat v).length (w.drop p.toNat).length) w (put n.toNat v) = w.take p.toNat ++ put n.toNat v ++ w.drop (p + n).toNat := by
  have e : Nat.min (put n.toNat v).length (w.drop p.toNat).length = n.toNat := by
    rw [put_len, List.length_drop]
    exact Nat.min_eq_left (by omega)
  rw [e]
  unfold cpR
  rw [List.take_of_length_le (l := put n.toNat v) (by rw [put_len]; omega), show p.toNat + n.toNat = (p + n).toNat by omega]
theorem wset_eq {w : List Int} (hl : w.length < 1000000) {p v n : Int} (hv : U v) : F_bits_Writer_Set ⟨w⟩ p v n =
    some (if (fit v n && decide (0 ≤ p) && decide (p + n ≤ w.length)) = true then (0, ⟨w.take p.toNat ++ put n.toNat v ++ w.drop (p + n).toNat⟩) else (2, ⟨w⟩)) := by
  unfold F_bits_Writer_Set
  rw [bfits_eq hv, Option.bind_some]
  cases hf : fit v n with
  | false => simp [F_bits_Writer_Set_j1]
  | true =>
    obtain ⟨h1, h8, _⟩ := fit_iff.1 hf
    rw [if_neg (by decide)]
    unfold F_bits_Writer_Set_j1
    dsimp only
    by_cases h0 : p < 0
    · rw [if_pos (by simpa using h0), if_pos (by decide), if_neg (by simp; omega)]
    · rw [if_neg (by simpa using h0)]
      by_cases hA : (w.length : Int) < p
      · rw [if_pos (by simpa using hA), if_pos (by decide), if_neg (by simp; omega)]
      · rw [if_neg (by simpa using hA), wi64 (by omega) (by omega)]
        by_cases hB : (w.length : Int) - p < n
        · rw [if_pos (by simpa using hB), if_neg (by simp; omega)]
        · rw [if_neg (by simpa using hB), gcut_in (by omega) (by omega) (by omega), Option.bind_some, of_eq hv (by omega) h8, Option.bind_some, if_pos (by simp; omega)]
          have e : (w.drop p.toNat).take ((w.length : Int).toNat - p.toNat) = w.drop p.toNat := List.take_of_length_le (by simp)
          rw [e, cpR_put (by omega) (by omega) (by omega) (by omega)]
theorem clone_eq {w : List Int} (hl : w.length < 1000000) : F_slices_Clone_byte_byte w = some w := by
  unfold F_slices_Clone_byte_byte
  rw [if_pos (limk (by simp; omega))]; rfl
theorem wbytes_eq {w : List Int} (hl : w.length < 1000000) : F_bits_Writer_Bytes ⟨w⟩ = some (w, ⟨w⟩) := by
  unfold F_bits_Writer_Bytes
  rw [clone_eq hl, Option.bind_some]
theorem join_eq {a b : List Int} (ha : a.length < 1000000) (hb : b.length < 1000000) : F_ref01_Join a b = some (a ++ b) := by
  unfold F_ref01_Join
  rw [if_pos (limk (by omega)), if_pos (limk (by omega))]
theorem same_eq (a : List Int) : F_ref01_Same a a = some true := by simp [F_ref01_Same]
theorem setF_wf {w : List Int} (hw : Wf 256 w) {p n : Int} {v : Int} (k : Nat) : Wf 256 (w.take p.toNat ++ put n.toNat v ++ w.drop k) := ((hw.take _).app (put_wf _ _)).app (hw.drop _)

/-! ### What is put is got -/
/-- All that is put. -/
def pts : List Int → List Int → List Int
  | v :: l, n :: s => (if fit v n = true then put n.toNat v else []) ++ pts l s
  | _, _ => []
theorem pts_len : ∀ (l s : List Int), (pts l s).length ≤ 8 * l.length
  | [], _ => by simp [pts]
  | v :: l, [] => by simp [pts]
  | v :: l, n :: s => by
    have := pts_len l s
    have h8 : (if fit v n = true then put n.toNat v else []).length ≤ 8 := by
      split
      · rename_i h; have := (fit_iff.1 h).2.1; rw [put_len]; omega
      · simp
    simp only [pts, List.length_append, List.length_cons]
    omega
theorem pts_wf : ∀ (l s : List Int), Wf 256 (pts l s)
  | [], _ => Wf.nil
  | v :: l, [] => Wf.nil
  | v :: l, n :: s => by
    refine Wf.app ?_ (pts_wf l s)
    split
    · exact put_wf _ _
    · exact Wf.nil
theorem back3 {p : Int} {was now : List Int} {w1 w2 : T_bits_Writer} {n : Int} (hp : 0 ≤ p) (hn : 0 ≤ n) (hpn : p + n ≤ was.length) (hl : was.length < 1000000) (hlen : now.length = was.length) (hsame : ∀ i : Nat, (i : Int) < p ∨ p + n ≤ i → now[i]? = was[i]?) :
    ∀ (k i : Nat), i ≤ now.length → now.length < k + i → F_law01_BitsBack_L3 p (was, w1) n (now, w2) k (i : Int) = some true
  | 0, i, h1, h2 => by omega
  | k + 1, i, h1, h2 => by
    show F_law01_BitsBack_l3 (F_law01_BitsBack_L3 p (was, w1) n (now, w2) k) p (was, w1) n (now, w2) _ = _
    unfold F_law01_BitsBack_l3 F_law01_BitsBack_j9
    by_cases h : i < now.length
    · have e3 : IntKind.i64.wrap ((i : Int) + 1) = ((i + 1 : Nat) : Int) := by rw [wi64 (by omega) (by omega)]; omega
      have hg : now[i]? = some now[i] := List.getElem?_eq_getElem h
      have ih := back3 (w1 := w1) (w2 := w2) hp hn hpn hl hlen hsame k (i + 1) (by omega) (by omega)
      rw [if_pos (by simpa using h)]
      by_cases hA : (i : Int) < p
      · have hw : was[i]? = some now[i] := by rw [← hsame i (.inl hA), hg]
        rw [if_pos (by simpa using hA), gidx_nat hg, Option.bind_some, gidx_nat hw, Option.bind_some, if_neg (by simp), e3]
        exact ih
      · rw [if_neg (by simpa using hA), wi64 (by omega) (by omega)]
        by_cases hB : p + n ≤ i
        · have hw : was[i]? = some now[i] := by rw [← hsame i (.inr hB), hg]
          rw [if_pos (by simpa using hB), gidx_nat hg, Option.bind_some, gidx_nat hw, Option.bind_some, if_neg (by simp), e3]
          exact ih
        · rw [if_neg (by simpa using hB), if_neg (by decide), e3]
          exact ih
    · rw [if_neg (by simpa using h), works_eq]; rfl
theorem back_end {w : List Int} (hw : Wf 256 w) (hl : w.length < 100000) {p v : Int} (hp : I p) (hv : U v) (ww : T_bits_Writer) :
    ((F_bits_Writer_Bytes ⟨w⟩).bind fun y298 => (F_bits_Least v).bind fun y308 => (F_bits_Reader_Left ⟨w, w.length⟩).bind fun y312 =>
      if (y312.1 != 0) = true then F_law01_BitsBack_j6 p v y298 y308 y298.2.f_b y312.2.f_b y312.2.f_at true
      else (F_bits_Writer_Set y298.2 p v y308).bind fun y319 => F_law01_BitsBack_j6 p v y298 y308 y319.2.f_b y312.2.f_b y312.2.f_at (y319.1 != 0)) = some true := by
  have hp1 := hp.1; have hp2 := hp.2
  have l1 := lst_pos v; have l8 := lst_8 hv
  have hleft : F_bits_Reader_Left ⟨w, w.length⟩ = some (0, ⟨w, w.length⟩) := by
    unfold F_bits_Reader_Left
    simp only [Int.sub_self]
    rw [wi64 (by omega) (by omega)]
  have hfit : fit v (lst v) = true := by rw [fit_lst hv l1 l8]; simp
  have hset := wset_eq (w := w) (p := p) (n := lst v) (by omega) hv
  rw [wbytes_eq (by omega), Option.bind_some, least_eq hv, Option.bind_some, hleft, Option.bind_some]
  show (F_bits_Writer_Set ⟨w⟩ p v (lst v)).bind _ = _
  by_cases hc : 0 ≤ p ∧ p + lst v ≤ w.length
  · rw [if_pos (by simp [hfit, hc.1, hc.2])] at hset
    rw [hset, Option.bind_some]
    unfold F_law01_BitsBack_j6
    rw [if_neg (by simp)]
    generalize hnow : w.take p.toNat ++ put (lst v).toNat v ++ w.drop (p + lst v).toNat = now
    have hnl : now.length = w.length := by rw [← hnow]; simp [put_len]; omega
    have hnw : Wf 256 now := by rw [← hnow]; exact setF_wf hw _
    simp only
    rw [wbytes_eq (by omega), Option.bind_some, bget_eq hnw (by omega) hp, Option.bind_some]
    have hgt : gt now p (lst v) = (v, 0) := by
      unfold gt
      rw [if_neg (by omega), if_neg (by omega)]
      have e1 : (w.take p.toNat).length = p.toNat := by simp; omega
      have e : (now.drop p.toNat).take (lst v).toNat = put (lst v).toNat v := by
        rw [← hnow, List.append_assoc, List.drop_append, e1, Nat.sub_self, List.drop_of_length_le (by omega), List.nil_append, List.drop_zero, List.take_append_of_le_length (by rw [put_len]; exact Nat.le_refl _), List.take_of_length_le (by rw [put_len]; exact Nat.le_refl _)]
      rw [e, val_put _ _ hv.1 (fit_iff.1 hfit).2.2]
    rw [hgt, if_neg (by simp [hnl]), if_neg (by simp)]
    unfold F_law01_BitsBack_j8
    rw [if_neg (by simp)]
    refine back3 hc.1 (by omega) hc.2 (by omega) hnl (fun i hi => ?_) fuel0 0 (by omega) (by unfold fuel0; omega)
    rw [← hnow]
    have e1 : (w.take p.toNat).length = p.toNat := by simp; omega
    rcases hi with hi | hi
    · rw [List.append_assoc, List.getElem?_append_left (by omega), List.getElem?_take, if_pos (by omega)]
    · rw [List.getElem?_append_right (by simp [put_len]; omega), List.getElem?_drop]
      congr 1
      simp [put_len]; omega
  · rw [if_neg (by simp [hfit]; omega)] at hset
    rw [hset, Option.bind_some]
    unfold F_law01_BitsBack_j6
    rw [if_pos (by simp)]
    simp only
    rw [hleft, Option.bind_some, if_pos (by simp), wbytes_eq (by omega), Option.bind_some, same_eq, Option.bind_some, if_pos rfl, works_eq]
    rfl
theorem getl {l : List Int} {i : Nat} (h : i < l.length) : l.drop i = l[i] :: l.drop (i + 1) := List.drop_eq_getElem_cons h
theorem back2 {l s : List Int} (hs : l.length ≤ s.length) (h40 : l.length ≤ 40) (hlw : ∀ x ∈ l, U x) {w : List Int} (hw : Wf 256 w) (hl : w.length < 100000) {p v : Int} (hp : I p) (hv : U v) (w0 : List Int) :
    ∀ (k i : Nat) (a : Int), i ≤ l.length → l.length < k + i → 0 ≤ a → a ≤ w.length → w.drop a.toNat = pts (l.drop i) (s.drop i) → F_law01_BitsBack_L2 l s p v (w0, ⟨w⟩) k w a (i : Int) = some true
  | 0, i, a, h1, h2, h3, h4, h5 => by omega
  | k + 1, i, a, h1, h2, h3, h4, h5 => by
    show F_law01_BitsBack_l2 (F_law01_BitsBack_L2 l s p v (w0, ⟨w⟩) k) l s p v (w0, ⟨w⟩) w a _ = _
    unfold F_law01_BitsBack_l2
    by_cases h : i < l.length
    · have hg : l[i]? = some l[i] := List.getElem?_eq_getElem h
      have hsi : i < s.length := by omega
      have hgs : s[i]? = some s[i] := List.getElem?_eq_getElem hsi
      have hU := hlw l[i] (List.getElem_mem h)
      have e3 : IntKind.i64.wrap ((i : Int) + 1) = ((i + 1 : Nat) : Int) := by rw [wi64 (by omega) (by omega)]; omega
      rw [getl h, getl hsi] at h5
      simp only [pts] at h5
      have skip : fit l[i] s[i] = false → F_law01_BitsBack_j4 l s w a (i : Int) (F_law01_BitsBack_L2 l s p v (w0, ⟨w⟩) k) true = some true := fun hf => by
        rw [hf] at h5
        simp only [Bool.false_eq_true, if_false, List.nil_append] at h5
        unfold F_law01_BitsBack_j4 F_law01_BitsBack_j3
        rw [if_pos rfl, e3]
        exact back2 hs h40 hlw hw hl hp hv w0 k (i + 1) a (by omega) (by omega) h3 h4 h5
      rw [if_pos (by simpa using h), gidx_nat hgs, Option.bind_some]
      by_cases n1 : s[i] < 1
      · rw [if_pos (by simpa using n1)]
        exact skip (by simp [fit]; omega)
      · rw [if_neg (by simpa using n1), Option.bind_some]
        by_cases n8 : 8 < s[i]
        · rw [if_pos (by simpa using n8)]
          exact skip (by simp [fit]; omega)
        · rw [if_neg (by simpa using n8), gidx_nat hg, Option.bind_some, Option.bind_some, rfits_eq, Option.bind_some]
          cases hf : fit l[i] s[i] with
          | false => exact skip hf
          | true =>
            rw [hf, if_pos rfl] at h5
            have hlen : (put s[i].toNat l[i]).length = s[i].toNat := put_len _ _
            have hle : a.toNat + s[i].toNat ≤ w.length := by
              have := congrArg List.length h5
              simp only [List.length_drop, List.length_append, hlen] at this
              omega
            have htk : (w.drop a.toNat).take s[i].toNat = put s[i].toNat l[i] := by
              rw [h5, List.take_append_of_le_length (by omega), List.take_of_length_le (by omega)]
            have hgt : gt w a s[i] = (l[i], 0) := by
              unfold gt
              rw [if_neg (by omega), if_neg (by omega), htk, val_put _ _ hU.1 (fit_iff.1 hf).2.2]
            unfold F_law01_BitsBack_j4 F_bits_Reader_Get F_bits_Reader_Get_j1
            rw [if_neg (by decide), gidx_nat hgs, Option.bind_some]
            simp only
            rw [bget_eq hw (by omega) ⟨by omega, by omega⟩, Option.bind_some, hgt, if_pos (by simp), Option.bind_some, if_neg (by simp), gidx_nat hg, Option.bind_some]
            unfold F_law01_BitsBack_j5 F_law01_BitsBack_j3
            have ea : IntKind.i64.wrap (a + s[i]) = a + s[i] := wi64 (by omega) (by omega)
            rw [if_neg (by simp), e3, ea]
            dsimp only
            refine back2 hs h40 hlw hw hl hp hv w0 k (i + 1) (a + s[i]) (by omega) (by omega) (by omega) (by omega) ?_
            have e : (a + s[i]).toNat = a.toNat + s[i].toNat := by omega
            rw [e, ← List.drop_drop, h5, List.drop_append_of_le_length (by omega), List.drop_of_length_le (by omega), List.nil_append]
    · rw [if_neg (by simpa using h)]
      have hd : l.drop i = [] := List.drop_of_length_le (by omega)
      rw [hd] at h5
      have : a = w.length := by
        have := congrArg List.length h5
        simp [pts] at this
        omega
      subst this
      exact back_end hw hl hp hv ⟨w⟩
theorem back1 {l s : List Int} (hs : l.length ≤ s.length) (h40 : l.length ≤ 40) (hlw : ∀ x ∈ l, U x) {p v : Int} (hp : I p) (hv : U v) :
    ∀ (k i : Nat) (w : List Int), i ≤ l.length → l.length < k + i → w.length ≤ 8 * i → w ++ pts (l.drop i) (s.drop i) = pts l s → F_law01_BitsBack_L1 l s p v k w (i : Int) = some true
  | 0, i, w, h1, h2, h3, h5 => by omega
  | k + 1, i, w, h1, h2, h3, h5 => by
    show F_law01_BitsBack_l1 (F_law01_BitsBack_L1 l s p v k) l s p v w _ = _
    unfold F_law01_BitsBack_l1
    by_cases h : i < l.length
    · have hg : l[i]? = some l[i] := List.getElem?_eq_getElem h
      have hsi : i < s.length := by omega
      have hgs : s[i]? = some s[i] := List.getElem?_eq_getElem hsi
      have hU := hlw l[i] (List.getElem_mem h)
      have e3 : IntKind.i64.wrap ((i : Int) + 1) = ((i + 1 : Nat) : Int) := by rw [wi64 (by omega) (by omega)]; omega
      rw [getl h, getl hsi] at h5
      simp only [pts] at h5
      rw [if_pos (by simpa using h), gidx_nat hgs, Option.bind_some, gidx_nat hg, Option.bind_some, wput_eq (by omega) hU, Option.bind_some]
      have next : ∀ y : Int × T_bits_Writer, y.2.f_b = w ++ (if fit l[i] s[i] = true then put s[i].toNat l[i] else []) → F_law01_BitsBack_L1 l s p v k y.2.f_b (IntKind.i64.wrap ((i : Int) + 1)) = some true := fun y hy => by
        rw [e3, hy]
        refine back1 hs h40 hlw hp hv k (i + 1) _ (by omega) (by omega) ?_ (by rw [List.append_assoc]; exact h5)
        split
        · rename_i hf; have := (fit_iff.1 hf).2.1; simp [put_len]; omega
        · simp; omega
      unfold F_law01_BitsBack_j2
      by_cases n8 : s[i] ≤ 8
      · rw [if_pos (by simpa using n8), Option.bind_some, least_eq hU, Option.bind_some]
        cases hf : fit l[i] s[i] with
        | false =>
          have : decide (lst l[i] ≤ s[i]) = false := by
            by_cases n1 : 1 ≤ s[i]
            · rw [← fit_lst hU n1 n8]; exact hf
            · have := lst_pos l[i]; simp; omega
          rw [if_neg (by simp [this])]
          exact next _ (by simp [hf])
        | true =>
          have : decide (lst l[i] ≤ s[i]) = true := by
            rw [← fit_lst hU (fit_iff.1 hf).1 n8]; exact hf
          rw [if_neg (by simp [this])]
          exact next _ (by simp [hf])
      · have hf : fit l[i] s[i] = false := by simp [fit]; omega
        rw [if_neg (by simpa using n8), if_neg (by simp [hf])]
        exact next _ (by simp [hf])
    · rw [if_neg (by simpa using h)]
      have hd : l.drop i = [] := List.drop_of_length_le (by omega)
      rw [hd] at h5
      simp only [pts, List.append_nil] at h5
      have hwl : w.length < 100000 := by omega
      have hw : Wf 256 w := by rw [h5]; exact pts_wf _ _
      rw [wbytes_eq (by omega), Option.bind_some]
      unfold F_bits_Read
      simp only
      rw [clone_eq (by omega), Option.bind_some, Option.bind_some]
      simp only
      exact back2 hs h40 hlw hw hwl hp hv w fuel0 0 0 (by omega) (by unfold fuel0; omega) (by omega) (by omega) (by simpa using h5)
theorem back_eq {l s : List Int} (hlw : ∀ x ∈ l, U x) {p v : Int} (hp : I p) (hv : U v) : F_law01_BitsBack l s p v = some true := by
  unfold F_law01_BitsBack F_law01_BitsBack_j1
  by_cases h : 40 < l.length
  · rw [if_pos (by simp; omega), if_pos rfl, works_eq]; rfl
  · rw [if_neg (by simp; omega)]
    by_cases h2 : s.length < l.length
    · rw [if_pos (by simpa using h2), works_eq]; rfl
    · rw [if_neg (by simpa using h2)]
      exact back1 (by omega) (by omega) hlw hp hv fuel0 0 [] (by omega) (by unfold fuel0; omega) (by simp) (by simp)

/-! ### What is read -/
theorem gidx_nn {xs : List Int} {j : Nat} (h : j < xs.length) : gidx xs (j : Int) = some xs[j] := gidx_nat (List.getElem?_eq_getElem h)
theorem take_eq {b : List Int} (hl : b.length < 1000000) {a m : Int} (h0 : 0 ≤ a) (h1 : a ≤ b.length) (hm : 0 ≤ m) (hm2 : m ≤ 9223372036854775807) :
    F_bits_Reader_Take ⟨b, a⟩ m = some (if (b.length : Int) - a < m then ([], 10, ⟨b, a⟩) else ((b.drop a.toNat).take m.toNat, 0, ⟨b, a + m⟩)) := by
  unfold F_bits_Reader_Take F_bits_Reader_Left
  rw [if_neg (by simp; omega), Option.bind_some]
  dsimp only
  rw [wi64 (n := (b.length : Int) - a) (by omega) (by omega)]
  by_cases h : (b.length : Int) - a < m
  · rw [if_pos (by simpa using h), if_pos h]
  · rw [if_neg (by simpa using h), if_neg h, wi64 (by omega) (by omega), gcut_in (by omega) (by omega) (by omega), Option.bind_some, show (a + m).toNat - a.toNat = m.toNat by omega, clone_eq (by simp; omega), Option.bind_some]
theorem reads1 {b s : List Int} (hl : b.length ≤ 300) : ∀ (k j : Nat) (own : List Int), own.length = b.length → j ≤ own.length → own.length < k + j → F_law01_BitsReads_L1 b s ⟨b, 0⟩ k own (j : Int) = F_law01_BitsReads_L2 b s fuel0 b 0 0 0
  | 0, j, own, h0, h1, h2 => by omega
  | k + 1, j, own, h0, h1, h2 => by
    show F_law01_BitsReads_l1 (F_law01_BitsReads_L1 b s ⟨b, 0⟩ k) b s ⟨b, 0⟩ own _ = _
    unfold F_law01_BitsReads_l1
    by_cases h : j < own.length
    · have e3 : IntKind.i64.wrap ((j : Int) + 1) = ((j + 1 : Nat) : Int) := by rw [wi64 (by omega) (by omega)]; omega
      rw [if_pos (by simpa using h), gidx_nn h, Option.bind_some, Option.bind_some, e3]
      exact reads1 hl k (j + 1) _ (by simpa using h0) (by simp; omega) (by simp; omega)
    · rw [if_neg (by simpa using h)]
theorem reads3 {b : List Int} {i : Int} {rec : List Int → Int → Int → Int → Option Bool} {y : List Int × Int × T_bits_Reader} {a : Int} : ∀ (k j : Nat) (l : List Int), l.length < 1000000 → j ≤ l.length → l.length < k + j →
    F_law01_BitsReads_L3 b i rec y a k l (j : Int) = F_law01_BitsReads_j2 b i rec y.2.2.f_b y.2.2.f_at a
  | 0, j, l, h0, h1, h2 => by omega
  | k + 1, j, l, h0, h1, h2 => by
    show F_law01_BitsReads_l3 (F_law01_BitsReads_L3 b i rec y a k) b i rec y a l _ = _
    unfold F_law01_BitsReads_l3
    by_cases h : j < l.length
    · have e3 : IntKind.i64.wrap ((j : Int) + 1) = ((j + 1 : Nat) : Int) := by rw [wi64 (by omega) (by omega)]; omega
      rw [if_pos (by simpa using h), gidx_nn h, Option.bind_some, Option.bind_some, e3]
      exact reads3 k (j + 1) _ (by simpa using h0) (by simp; omega) (by simp; omega)
    · rw [if_neg (by simpa using h)]
theorem reads_j2 {b : List Int} (hl : b.length ≤ 300) {i a : Int} {rec : List Int → Int → Int → Int → Option Bool} (h0 : 0 ≤ a) (h1 : a ≤ b.length) : F_law01_BitsReads_j2 b i rec b a a = rec b a a (IntKind.i64.wrap (i + 1)) := by
  unfold F_law01_BitsReads_j2 F_bits_Reader_At F_bits_Reader_Left F_law01_BitsReads_j3
  simp
theorem reads2 {b s : List Int} (hw : Wf 256 b) (hl : b.length ≤ 300) (hs : ∀ x ∈ s, I x) (h40 : s.length ≤ 40) : ∀ (k i : Nat) (a : Int), i ≤ s.length → s.length < k + i → 0 ≤ a → a ≤ b.length → F_law01_BitsReads_L2 b s k b a a (i : Int) = some true
  | 0, i, a, h1, h2, h3, h4 => by omega
  | k + 1, i, a, h1, h2, h3, h4 => by
    show F_law01_BitsReads_l2 (F_law01_BitsReads_L2 b s k) b s b a a _ = _
    unfold F_law01_BitsReads_l2
    by_cases h : i < s.length
    · have hI := hs s[i] (List.getElem_mem h)
      have hI1 := hI.1; have hI2 := hI.2
      have e3 : IntKind.i64.wrap ((i : Int) + 1) = ((i + 1 : Nat) : Int) := by rw [wi64 (by omega) (by omega)]; omega
      rw [if_pos (by simpa using h), gidx_nn h, Option.bind_some]
      generalize s[i] = n at *
      by_cases hn : n < -9
      · have em : IntKind.i64.wrap (-10 - n) = -10 - n := wi64 (by omega) (by omega)
        rw [if_pos (by simpa using hn), em, take_eq (by omega) h3 h4 (by omega) (by omega), Option.bind_some, wi64 (n := (b.length : Int) - a) (by omega) (by omega)]
        generalize hmd : -10 - n = m at *
        by_cases hc : (b.length : Int) - a < m
        · rw [if_pos (by simpa using hc), if_pos hc, if_neg (by simp)]
          unfold F_law01_BitsReads_j5 F_law01_BitsReads_j4
          rw [if_neg (by simp)]
          have := reads3 (b := b) (i := (i : Int)) (rec := F_law01_BitsReads_L2 b s k) (y := (([] : List Int), (10 : Int), (⟨b, a⟩ : T_bits_Reader))) (a := a) fuel0 0 [] (by simp) (by simp) (by simp [fuel0])
          refine this.trans ?_
          dsimp only
          rw [reads_j2 hl h3 h4, e3]
          exact reads2 hw hl hs h40 k (i + 1) a (by omega) (by omega) h3 h4
        · rw [if_neg (by simpa using hc), if_neg hc, if_neg (by simp), wi64 (n := a + m) (by omega) (by omega), gcut_in (by omega) (by omega) (by omega), Option.bind_some, show (a + m).toNat - a.toNat = m.toNat by omega, same_eq, Option.bind_some]
          unfold F_law01_BitsReads_j6 F_law01_BitsReads_j4
          rw [if_neg (by simp)]
          generalize hL : (b.drop a.toNat).take m.toNat = L
          have hLl : L.length < 1000000 := by rw [← hL]; simp; omega
          have := reads3 (b := b) (i := (i : Int)) (rec := F_law01_BitsReads_L2 b s k) (y := (L, (0 : Int), (⟨b, a + m⟩ : T_bits_Reader))) (a := a + m) fuel0 0 L hLl (by omega) (by simp [fuel0]; omega)
          rw [hmd, em, wi64 (n := a + m) (by omega) (by omega)]
          refine this.trans ?_
          dsimp only
          rw [reads_j2 hl (by omega) (by omega), e3]
          exact reads2 hw hl hs h40 k (i + 1) (a + m) (by omega) (by omega) (by omega) (by omega)
      · have hIa : I a := ⟨by omega, by omega⟩
        rw [if_neg (by simpa using hn)]
        unfold F_bits_Reader_Get F_bits_Reader_Get_j1
        dsimp only
        rw [bget_eq hw (by omega) hIa, Option.bind_some, rget_eq hw (by omega) hIa]
        have hgt2 : (gt b a n).2 = 0 → 0 ≤ a + n ∧ a + n ≤ b.length := fun hz => by
          unfold gt at hz
          split at hz
          · cases hz
          · split at hz
            · cases hz
            · omega
        unfold F_law01_BitsReads_j7
        by_cases hz : (gt b a n).2 = 0
        · have := hgt2 hz
          rw [if_pos (by simp [hz]), Option.bind_some, Option.bind_some, if_neg (by simp), if_neg (by simp), if_pos (by simp [hz]), wi64 (n := a + n) (by omega) (by omega)]
          dsimp only
          rw [reads_j2 hl this.1 this.2, e3]
          exact reads2 hw hl hs h40 k (i + 1) (a + n) (by omega) (by omega) this.1 this.2
        · rw [if_neg (by simp [hz]), Option.bind_some, Option.bind_some, if_neg (by simp), if_neg (by simp), if_neg (by simp [hz])]
          dsimp only
          rw [reads_j2 hl h3 h4, e3]
          exact reads2 hw hl hs h40 k (i + 1) a (by omega) (by omega) h3 h4
    · rw [if_neg (by simpa using h)]
      unfold F_bits_Reader_Take
      rw [if_pos (by decide), Option.bind_some, if_pos (by simp), works_eq]
      rfl
theorem reads_eq {b s : List Int} (hw : Wf 256 b) (hs : ∀ x ∈ s, I x) : F_law01_BitsReads b s = some true := by
  unfold F_law01_BitsReads F_law01_BitsReads_j1
  by_cases h : 300 < b.length
  · rw [if_pos (by simp; omega), if_pos rfl, works_eq]; rfl
  · rw [if_neg (by simp; omega)]
    by_cases h2 : 40 < s.length
    · rw [if_pos (by simp; omega), works_eq]; rfl
    · rw [if_neg (by simp; omega), join_eq (by simp) (by omega), Option.bind_some, List.nil_append]
      unfold F_bits_Read
      rw [clone_eq (by omega), Option.bind_some, Option.bind_some]
      have := reads1 (s := s) (by omega) fuel0 0 b rfl (by omega) (by unfold fuel0; omega)
      refine this.trans ?_
      exact reads2 hw (by omega) hs (by omega) fuel0 0 0 (by omega) (by unfold fuel0; omega) (by omega) (by omega)

/-! ### What is written -/
def WA (a : T_law01_Act) : Prop := I a.f_At ∧ U a.f_V ∧ I a.f_Size ∧ Wf 256 a.f_B
theorem few_L {l : List T_law01_Act} : ∀ (k i : Nat), i ≤ l.length → i ≤ 100 → 100 < k + i → (∀ (j : Nat) (a : T_law01_Act), j < i → l[j]? = some a → a.f_B.length ≤ 60) →
    ∃ t, F_law01_few_L1 l 40 k (i : Int) = some t ∧ (t = true → l.length ≤ 40 ∧ ∀ a ∈ l, a.f_B.length ≤ 60)
  | 0, i, h1, h2, hm, h3 => by omega
  | k + 1, i, h1, h2, hm, h3 => by
    have fin : (l.length ≤ 40 → l.length ≤ i) → ∃ t, (some (decide ((l.length : Int) ≤ 40)) : Option Bool) = some t ∧ (t = true → l.length ≤ 40 ∧ ∀ a ∈ l, a.f_B.length ≤ 60) := fun hi => by
      refine ⟨_, rfl, fun ht => ?_⟩
      have h40 : l.length ≤ 40 := by simp at ht; omega
      refine ⟨h40, fun a ha => ?_⟩
      obtain ⟨j, hj, he⟩ := List.getElem_of_mem ha
      exact h3 j a (by have := hi h40; omega) (by rw [List.getElem?_eq_getElem hj, he])
    show ∃ t, F_law01_few_l1 (F_law01_few_L1 l 40 k) l 40 _ = some t ∧ _
    unfold F_law01_few_l1 F_law01_few_j1
    by_cases h : i < l.length
    · rw [if_pos (by simpa using h)]
      by_cases hh : i < 100
      · have hg : l[i]? = some l[i] := List.getElem?_eq_getElem h
        rw [if_pos (by simp; omega), gidx_nat hg, Option.bind_some]
        by_cases h6 : 60 < l[i].f_B.length
        · rw [if_pos (by simp; omega)]; exact ⟨false, rfl, fun h => by cases h⟩
        · have e3 : IntKind.i64.wrap ((i : Int) + 1) = ((i + 1 : Nat) : Int) := by rw [wi64 (by omega) (by omega)]; omega
          rw [if_neg (by simp; omega), e3]
          refine few_L k (i + 1) (by omega) (by omega) (by omega) (fun j a hj ha => ?_)
          by_cases hji : j = i
          · subst hji; rw [hg] at ha; cases ha; omega
          · exact h3 j a (by omega) ha
      · rw [if_neg (by simp; omega)]; exact fin (by omega)
    · rw [if_neg (by simpa using h), if_neg (by decide)]; exact fin (by omega)
theorem writes2 {i : Int} {rec : List Int → List Int → Int → Option Bool} {want wv : List Int} : ∀ (k j : Nat) (l : List Int), l.length < 1000000 → j ≤ l.length → l.length < k + j → F_law01_BitsWrites_L2 i rec want wv k l (j : Int) = rec wv want (IntKind.i64.wrap (i + 1))
  | 0, j, l, h0, h1, h2 => by omega
  | k + 1, j, l, h0, h1, h2 => by
    show F_law01_BitsWrites_l2 (F_law01_BitsWrites_L2 i rec want wv k) i rec want wv l _ = _
    unfold F_law01_BitsWrites_l2
    by_cases h : j < l.length
    · have e3 : IntKind.i64.wrap ((j : Int) + 1) = ((j + 1 : Nat) : Int) := by rw [wi64 (by omega) (by omega)]; omega
      rw [if_pos (by simpa using h), gidx_nn h, Option.bind_some, Option.bind_some, e3]
      exact writes2 k (j + 1) _ (by simpa using h0) (by simp; omega) (by simp; omega)
    · rw [if_neg (by simpa using h)]
theorem writes3 {w : List Int} {i : Int} {rec : List Int → List Int → Int → Option Bool} {x : T_law01_Act} {y : Int × T_bits_Writer} : ∀ (k j : Nat) (l : List Int), l.length < 1000000 → j ≤ l.length → l.length < k + j →
    F_law01_BitsWrites_L3 w i rec x y k l (j : Int) = (F_ref01_Join w x.f_B).bind fun z => F_law01_BitsWrites_j1 i rec y.2.f_b z
  | 0, j, l, h0, h1, h2 => by omega
  | k + 1, j, l, h0, h1, h2 => by
    show F_law01_BitsWrites_l3 (F_law01_BitsWrites_L3 w i rec x y k) w i rec x y l _ = _
    unfold F_law01_BitsWrites_l3
    by_cases h : j < l.length
    · have e3 : IntKind.i64.wrap ((j : Int) + 1) = ((j + 1 : Nat) : Int) := by rw [wi64 (by omega) (by omega)]; omega
      rw [if_pos (by simpa using h), gidx_nn h, Option.bind_some, Option.bind_some, e3]
      exact writes3 k (j + 1) _ (by simpa using h0) (by simp; omega) (by simp; omega)
    · rw [if_neg (by simpa using h)]
theorem writes_j1 {w : List Int} (hl : w.length < 1000000) {i : Int} {rec : List Int → List Int → Int → Option Bool} : F_law01_BitsWrites_j1 i rec w w = rec w w (IntKind.i64.wrap (i + 1)) := by
  unfold F_law01_BitsWrites_j1 F_law01_BitsWrites_j2 F_bits_Writer_Len
  rw [wbytes_eq hl, Option.bind_some, same_eq, Option.bind_some, if_neg (by simp), Option.bind_some, if_neg (by simp)]
  exact writes2 fuel0 0 w hl (by omega) (by unfold fuel0; omega)
theorem writes1 {l : List T_law01_Act} (hw : ∀ a ∈ l, WA a) (h40 : l.length ≤ 40) (h60 : ∀ a ∈ l, a.f_B.length ≤ 60) : ∀ (k i : Nat) (w : List Int), i ≤ l.length → l.length < k + i → w.length ≤ 60 * i → F_law01_BitsWrites_L1 l k w w (i : Int) = some true
  | 0, i, w, h1, h2, h3 => by omega
  | k + 1, i, w, h1, h2, h3 => by
    show F_law01_BitsWrites_l1 (F_law01_BitsWrites_L1 l k) l w w _ = _
    unfold F_law01_BitsWrites_l1
    by_cases h : i < l.length
    · have e3 : IntKind.i64.wrap ((i : Int) + 1) = ((i + 1 : Nat) : Int) := by rw [wi64 (by omega) (by omega)]; omega
      have hg : l[i]? = some l[i] := List.getElem?_eq_getElem h
      have hm := List.getElem_mem h
      obtain ⟨hA, hV, hS, hB⟩ := hw _ hm
      have hB6 := h60 _ hm
      rw [if_pos (by simpa using h), gidx_nat hg, Option.bind_some, rfits_eq, Option.bind_some]
      generalize l[i] = a at *
      have next : ∀ w' : List Int, w'.length ≤ w.length + 60 → F_law01_BitsWrites_j1 (i : Int) (F_law01_BitsWrites_L1 l k) w' w' = some true := fun w' hw' => by
        rw [writes_j1 (by omega), e3]
        exact writes1 hw h40 h60 k (i + 1) w' (by omega) (by omega) (by omega)
      obtain ⟨q, hq⟩ : ∃ q, F_kit_Pick a.f_Do 4 = some q := ⟨_, by simp [F_kit_Pick]; rfl⟩
      rw [hq, Option.bind_some]
      by_cases q0 : q = 0
      · rw [if_pos (by simp [q0]), wput_eq (by omega) hV, Option.bind_some]
        unfold F_law01_BitsWrites_j3
        cases hf : fit a.f_V a.f_Size with
        | false =>
          simp
          exact next w (by omega)
        | true =>
          obtain ⟨f1, f8, _⟩ := fit_iff.1 hf
          simp [rput_eq hV (by omega) f8]
          rw [join_eq (by omega) (by simp [put_len]; omega), Option.bind_some]
          exact next _ (by simp [put_len]; omega)
      · rw [if_neg (by simpa using q0)]
        by_cases q1 : q = 1
        · rw [if_pos (by simp [q1]), join_eq (by simp) (by omega), Option.bind_some, List.nil_append]
          unfold F_bits_Writer_Raw
          dsimp only
          rw [if_pos (limk (by omega)), Option.bind_some, if_neg (by simp)]
          refine (writes3 fuel0 0 a.f_B (by omega) (by omega) (by unfold fuel0; omega)).trans ?_
          rw [join_eq (by omega) (by omega), Option.bind_some]
          exact next _ (by simp; omega)
        · rw [if_neg (by simpa using q1)]
          by_cases q2 : q = 2
          · rw [if_pos (by simp [q2])]
            have hset := wset_eq (w := w) (p := a.f_At) (n := a.f_Size) (by omega) hV
            have hA1 := hA.1; have hA2 := hA.2
            have no : (fit a.f_V a.f_Size && decide (0 ≤ a.f_At) && decide (a.f_At + a.f_Size ≤ w.length)) = false → F_law01_BitsWrites_j4 w (i : Int) (F_law01_BitsWrites_L1 l k) a (2, ⟨w⟩) false = some true := fun _ => by
              unfold F_law01_BitsWrites_j4 F_law01_BitsWrites_j5
              rw [if_neg (by simp), if_pos (by simp), if_neg (by simp), if_neg (by simp)]
              exact next w (by omega)
            cases hc : (fit a.f_V a.f_Size && decide (0 ≤ a.f_At) && decide (a.f_At + a.f_Size ≤ w.length)) with
            | false =>
              rw [hc, if_neg (by simp)] at hset
              rw [hset, Option.bind_some]
              have hno := no hc
              cases hf : fit a.f_V a.f_Size with
              | false => rw [if_neg (by simp)]; exact hno
              | true =>
                rw [hf] at hc
                rw [if_pos rfl]
                by_cases c0 : 0 ≤ a.f_At
                · rw [if_pos (by simpa using c0)]
                  by_cases c1 : a.f_At ≤ w.length
                  · have : decide (a.f_Size ≤ IntKind.i64.wrap ((w.length : Int) - a.f_At)) = false := by
                      rw [wi64 (by omega) (by omega)]
                      simp [c0] at hc
                      simp; omega
                    rw [if_pos (by simpa using c1), this]; exact hno
                  · rw [if_neg (by simpa using c1)]; exact hno
                · rw [if_neg (by simpa using c0)]; exact hno
            | true =>
              rw [hc, if_pos rfl] at hset
              rw [hset, Option.bind_some]
              simp only [Bool.and_eq_true, decide_eq_true_eq] at hc
              obtain ⟨⟨hf, c0⟩, c2⟩ := hc
              obtain ⟨f1, f8, _⟩ := fit_iff.1 hf
              have hmay : decide (a.f_Size ≤ IntKind.i64.wrap ((w.length : Int) - a.f_At)) = true := by
                rw [wi64 (by omega) (by omega)]; simp; omega
              rw [if_pos hf, if_pos (by simpa using c0), if_pos (by simp; omega), hmay]
              unfold F_law01_BitsWrites_j4 F_law01_BitsWrites_j5
              have l1 : ((w.drop (0 : Int).toNat).take (a.f_At.toNat - (0 : Int).toNat)).length < 1000000 := by simp; omega
              rw [if_neg (by simp), if_neg (by simp), if_neg (by simp), if_pos rfl, gcut_in (by omega) (by omega) (by omega), Option.bind_some, wi64 (n := a.f_At + a.f_Size) (by omega) (by omega), gcut_in (by omega) (by omega) (by omega), Option.bind_some, rput_eq hV (by omega) f8, Option.bind_some,
                join_eq (by simp; omega) (by simp [put_len]; omega), Option.bind_some, join_eq (by simp [put_len]; omega) (by simp; omega), Option.bind_some]
              have e1 : (w.drop (0 : Int).toNat).take (a.f_At.toNat - (0 : Int).toNat) = w.take a.f_At.toNat := by simp
              have e2 : (w.drop (a.f_At + a.f_Size).toNat).take ((w.length : Int).toNat - (a.f_At + a.f_Size).toNat) = w.drop (a.f_At + a.f_Size).toNat := List.take_of_length_le (by simp)
              rw [e1, e2]
              exact next _ (by simp [put_len]; omega)
          · rw [if_neg (by simpa using q2)]
            exact next w (by omega)
    · rw [if_neg (by simpa using h), works_eq]; rfl
theorem writes_eq {l : List T_law01_Act} (hw : ∀ a ∈ l, WA a) : F_law01_BitsWrites l = some true := by
  unfold F_law01_BitsWrites F_law01_few
  obtain ⟨t, ht, hk⟩ := few_L (l := l) fuel0 0 (by omega) (by omega) (by unfold fuel0; omega) (fun j a hj => by omega)
  have ht' : F_law01_few_L1 l 40 fuel0 0 = some t := ht
  rw [ht', Option.bind_some]
  cases t with
  | false => rw [if_pos (by decide), works_eq]; rfl
  | true =>
    obtain ⟨h40, h60⟩ := hk rfl
    rw [if_neg (by decide)]
    exact writes1 hw h40 h60 fuel0 0 [] (by omega) (by unfold fuel0; omega) (by simp)
end Go.Proofs.Ytpbkjellpboefaa
