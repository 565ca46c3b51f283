/- The plain law of the chapter on headers of version 6: what the printed functions compute. No program's code is named here. -/
import Derived.Test.YtikjomacnbemhaaF
import Derived.Test.YtikjomacnbemhaaOxP
set_option linter.unusedVariables false
namespace Go.Proofs.Ytikjomacnbemhaa
open Go Go.Ox Go.RowKit

theorem works_eq : F_law06_works = some true := by decide +kernel
def U (v : Int) : Prop := 0 ≤ v ∧ v < 18446744073709551616
def I (v : Int) : Prop := -9223372036854775808 ≤ v ∧ v ≤ 9223372036854775807
theorem p256 (n : Nat) : (0 : Int) < 256 ^ n := Int.pow_pos (by decide)
theorem p256s (n : Nat) : (256 : Int) ^ (n + 1) = 256 ^ n * 256 := Int.pow_succ _ _
theorem e8 : (256 : Int) ^ 8 = 18446744073709551616 := by decide
theorem e7 : (256 : Int) ^ 7 = 72057594037927936 := by decide
theorem pmono {m n : Nat} (h : m ≤ n) : (256 : Int) ^ m ≤ 256 ^ n := by
  induction n with
  | zero => rw [show m = 0 by omega]; exact Int.le_refl _
  | succ n ih =>
    rcases Nat.lt_or_ge n m with h1 | h1
    · rw [show m = n + 1 by omega]; exact Int.le_refl _
    · have := ih h1; have := p256 n; rw [p256s]; omega
def dgs : Nat → Int → Int
  | 0, _ => 0
  | m + 1, v => if 0 < v then 1 + dgs m (v / 256) else 0
theorem dgs_nn : ∀ (m : Nat) (v : Int), 0 ≤ dgs m v
  | 0, v => by simp [dgs]
  | m + 1, v => by have := dgs_nn m (v / 256); unfold dgs; split <;> omega
theorem dgs_le : ∀ (m : Nat) (v : Int) (n : Nat), 0 ≤ v → v < 256 ^ m → (dgs m v ≤ n ↔ v < 256 ^ n)
  | 0, v, n, h0, h1 => by
    have := p256 n
    simp at h1
    simp only [dgs]
    omega
  | m + 1, v, n, h0, h1 => by
    rw [p256s] at h1
    unfold dgs
    by_cases hv : 0 < v
    · rw [if_pos hv]
      cases n with
      | zero => have := dgs_nn m (v / 256); simp; omega
      | succ n =>
        have ih := dgs_le m (v / 256) n (by omega) (by omega)
        rw [p256s]
        have hp := p256 n
        constructor
        · intro h
          have := ih.1 (by omega)
          omega
        · intro h
          have := ih.2 (by omega)
          omega
    · rw [if_neg hv]
      have := p256 n
      omega
def lst (v : Int) : Int := 1 + dgs 8 (v / 256)
theorem lst_pos (v : Int) : 1 ≤ lst v := by have := dgs_nn 8 (v / 256); unfold lst; omega
theorem lst_le {v : Int} (hv : U v) {n : Nat} (hn : 1 ≤ n) : lst v ≤ n ↔ v < 256 ^ n := by
  obtain ⟨m, rfl⟩ : ∃ m, n = m + 1 := ⟨n - 1, by omega⟩
  have h := dgs_le 8 (v / 256) m (by have := hv.1; omega) (by have := hv.2; rw [e8]; omega)
  unfold lst
  rw [p256s]
  have := p256 m
  constructor
  · intro h1
    have := h.1 (by omega)
    omega
  · intro h1
    have := h.2 (by omega)
    omega
theorem lst_8 {v : Int} (hv : U v) : lst v ≤ 8 := (lst_le hv (n := 8) (by decide)).2 (by have := hv.2; rw [e8]; omega)
theorem shr8 {n : Int} (h0 : 0 ≤ n) : Ox.shr .u64 n 8 = n / 256 := by
  show n.fdiv (2 ^ (min 8 64)) = _
  rw [Int.fdiv_eq_ediv_of_nonneg _ (by decide)]
  rfl
theorem least_L : ∀ (m k : Nat) (v n : Int), 0 ≤ v → v < 256 ^ m → m < k → 0 ≤ n → n + m ≤ 1000 → F_bits_Least_L1 k v n = some (n + dgs m v)
  | m, 0, v, n, h0, h1, h2, h3, h4 => by omega
  | 0, k + 1, v, n, h0, h1, h2, h3, h4 => by
    simp at h1
    show F_bits_Least_l1 (F_bits_Least_L1 k) v n = _
    unfold F_bits_Least_l1
    rw [if_neg (by simp; omega)]
    simp [dgs]
  | m + 1, k + 1, v, n, h0, h1, h2, h3, h4 => by
    rw [p256s] at h1
    show F_bits_Least_l1 (F_bits_Least_L1 k) v n = _
    unfold F_bits_Least_l1
    by_cases hv : 0 < v
    · rw [if_pos (by simpa using hv), shr8 h0, wi64 (by omega) (by omega), least_L m k _ _ (by omega) (by omega) (by omega) (by omega) (by omega)]
      simp only [dgs, if_pos hv]
      congr 1; omega
    · rw [if_neg (by simpa using hv)]
      simp [dgs, if_neg hv]
theorem least_eq {v : Int} (hv : U v) : F_bits_Least v = some (lst v) := by
  have h := hv.1; have h2 := hv.2
  unfold F_bits_Least
  rw [shr8 h]
  exact least_L 8 _ _ _ (by omega) (by rw [e8]; omega) (by unfold fuel0; omega) (by omega) (by omega)
def fit (v n : Int) : Bool := decide (1 ≤ n) && decide (n ≤ 8) && decide (v < 256 ^ n.toNat)
theorem fit_iff {v n : Int} : fit v n = true ↔ 1 ≤ n ∧ n ≤ 8 ∧ v < 256 ^ n.toNat := by simp [fit, and_assoc]
theorem fit_lst {v : Int} (hv : U v) {n : Int} (h1 : 1 ≤ n) (h8 : n ≤ 8) : fit v n = decide (lst v ≤ n) := by
  have := lst_le hv (n := n.toNat) (by omega)
  rw [show ((n.toNat : Nat) : Int) = n by omega] at this
  simp only [fit, h1, h8, decide_true, Bool.true_and]
  exact decide_eq_decide.2 this.symm
theorem bfits_eq {v n : Int} (hv : U v) : F_bits_fits v n = some (fit v n) := by
  unfold F_bits_fits F_bits_right F_bits_right_j1
  by_cases h1 : 1 ≤ n
  · rw [if_pos (by simpa using h1), Option.bind_some]
    by_cases h8 : n ≤ 8
    · rw [if_pos (by simpa using h8), least_eq hv, Option.bind_some, fit_lst hv h1 h8]; rfl
    · rw [if_neg (by simpa using h8)]
      simp [F_bits_fits_j1, fit, h8]
  · rw [if_neg (by simpa using h1), Option.bind_some, if_neg (by decide)]
    simp [F_bits_fits_j1, fit, h1]
def put : Nat → Int → List Int
  | 0, _ => []
  | n + 1, v => put n (v / 256) ++ [v % 256]
theorem put_len : ∀ (n : Nat) (v : Int), (put n v).length = n
  | 0, v => rfl
  | n + 1, v => by simp [put, put_len n]
theorem put_wf : ∀ (n : Nat) (v : Int), Wf 256 (put n v)
  | 0, v => Wf.nil
  | n + 1, v => (put_wf n _).app (Wf.cons (by omega) Wf.nil)
theorem put_front : ∀ (n : Nat) (v : Int), put (n + 1) v = (v / 256 ^ n % 256) :: put n v
  | 0, v => by simp [put]
  | n + 1, v => by
    rw [put, put_front n (v / 256)]
    simp only [put, List.cons_append, List.cons.injEq, and_true]
    rw [p256s, Int.mul_comm, Int.ediv_ediv_of_nonneg (by decide)]
theorem shr_t {v : Int} (hv : 0 ≤ v) {t : Nat} (ht : t ≤ 7) : Ox.shr .u64 v (8 * (t : Int)) = v / 256 ^ t := by
  have : t = 0 ∨ t = 1 ∨ t = 2 ∨ t = 3 ∨ t = 4 ∨ t = 5 ∨ t = 6 ∨ t = 7 := by omega
  have e : ∀ m : Nat, v.fdiv (2 ^ m) = v / 2 ^ m := fun m => Int.fdiv_eq_ediv_of_nonneg _ (Int.le_of_lt (Int.pow_pos (by decide)))
  rcases this with rfl | rfl | rfl | rfl | rfl | rfl | rfl | rfl <;> (unfold Ox.shr; rw [e]; rfl)
theorem of_L {v : Int} (hv : U v) {n : Nat} (hn : n ≤ 8) : ∀ (k t : Nat), t ≤ n → n < k + t → F_bits_of_L1 v n k (List.replicate (n - t) 0 ++ put t v) (t : Int) = some (put n v)
  | 0, t, h1, h2 => by omega
  | k + 1, t, h1, h2 => by
    show F_bits_of_l1 (F_bits_of_L1 v n k) v n _ _ = _
    unfold F_bits_of_l1
    by_cases h : t < n
    · obtain ⟨m, hm⟩ : ∃ m, n - t = m + 1 := ⟨n - t - 1, by omega⟩
      have e0 : IntKind.i64.wrap ((n : Int) - 1) = (n : Int) - 1 := wi64 (by omega) (by omega)
      have e1 : IntKind.i64.wrap ((n : Int) - 1 - t) = (m : Int) := by rw [wi64 (by omega) (by omega)]; omega
      have e2 : IntKind.i64.wrap (8 * (t : Int)) = 8 * (t : Int) := wi64 (by omega) (by omega)
      have e3 : IntKind.i64.wrap ((t : Int) + 1) = ((t + 1 : Nat) : Int) := by rw [wi64 (by omega) (by omega)]; omega
      rw [if_pos (by simpa using h), e2, if_pos (by simp; omega), e0, e1, hm]
      have hg : gidx (List.replicate (m + 1) 0 ++ put t v) (m : Int) = some 0 := gidx_nat (by rw [List.getElem?_append_left (by simp)]; simp)
      rw [hg, Option.bind_some, e3, shr_t hv.1 (by omega), wu8]
      have hs : (List.replicate (m + 1) 0 ++ put t v).set (m : Int).toNat (v / 256 ^ t % 256) = List.replicate (n - (t + 1)) 0 ++ put (t + 1) v := by
        rw [put_front, List.replicate_succ', show n - (t + 1) = m by omega]
        simp
      rw [hs]
      exact of_L hv hn k (t + 1) (by omega) (by omega)
    · rw [if_neg (by simpa using h), show t = n by omega]
      simp
theorem of_eq {v : Int} (hv : U v) {n : Int} (h0 : 0 ≤ n) (hn : n ≤ 8) : F_bits_of v n = some (put n.toNat v) := by
  obtain ⟨m, rfl⟩ := Int.eq_ofNat_of_zero_le h0
  unfold F_bits_of
  rw [if_pos (by simp only [lim]; simp; omega)]
  have := of_L hv (n := m) (by omega) fuel0 0 (by omega) (by unfold fuel0; omega)
  simpa [put] using this
theorem rput_L : ∀ (k n : Nat) (v : Int), U v → n ≤ 8 → n < k → F_ref01_Put_R k v (n : Int) = some (put n v)
  | 0, n, v, hv, h8, hk => by omega
  | k + 1, 0, v, hv, h8, hk => by
    show F_ref01_Put_B (F_ref01_Put_R k) v _ = _
    unfold F_ref01_Put_B
    rw [if_pos (by simp)]; rfl
  | k + 1, n + 1, v, hv, h8, hk => by
    have h := hv.1; have h' := hv.2
    show F_ref01_Put_B (F_ref01_Put_R k) v _ = _
    unfold F_ref01_Put_B
    have e : IntKind.i64.wrap (((n + 1 : Nat) : Int) - 1) = (n : Int) := by rw [wi64 (by omega) (by omega)]; omega
    rw [if_neg (by simp; omega), tdiv_nn h, tmod_nn h, wu64i (by omega) (by omega), e, rput_L k n (v / 256) ⟨by omega, by omega⟩ (by omega) (by omega), Option.bind_some, if_pos (lim_le (by simp [put_len]; omega)), wu8i (by omega) (by omega)]
    rfl
theorem rput_eq {v : Int} (hv : U v) {n : Int} (h0 : 0 ≤ n) (hn : n ≤ 8) : F_ref01_Put v n = some (put n.toNat v) := by
  obtain ⟨m, rfl⟩ := Int.eq_ofNat_of_zero_le h0
  exact rput_L _ _ _ hv (by omega) (by unfold fuel0; omega)
def vl (a : Int) (b : List Int) : Int := b.foldl (fun a x => a * 256 + x) a
def val (b : List Int) : Int := vl 0 b
theorem vl_snoc (a : Int) (b : List Int) (x : Int) : vl a (b ++ [x]) = vl a b * 256 + x := by simp [vl]
theorem vl_bd : ∀ (b : List Int) (a : Int), 0 ≤ a → Wf 256 b → 0 ≤ vl a b ∧ vl a b < (a + 1) * 256 ^ b.length
  | [], a, h, hw => by simp [vl]; omega
  | x :: b, a, h, hw => by
    have hx := hw.head
    have ih := vl_bd b (a * 256 + x) (by omega) hw.tail
    refine ⟨ih.1, Int.lt_of_lt_of_le ih.2 ?_⟩
    rw [List.length_cons, p256s, Int.mul_comm (256 ^ b.length), ← Int.mul_assoc]
    exact Int.mul_le_mul_of_nonneg_right (by omega) (Int.le_of_lt (p256 _))
theorem val_put : ∀ (n : Nat) (v : Int), 0 ≤ v → v < 256 ^ n → val (put n v) = v
  | 0, v, h0, h1 => by simp at h1; simp [put, val, vl]; omega
  | n + 1, v, h0, h1 => by
    rw [p256s] at h1
    unfold val
    rw [put, vl_snoc]
    have := val_put n (v / 256) (by omega) (by omega)
    unfold val at this
    rw [this]; omega
theorem or8 {v x : Int} (h0 : 0 ≤ v) (h1 : v * 256 < 18446744073709551616) (hx : 0 ≤ x ∧ x < 256) : bits .or .u64 (Ox.shl .u64 v 8) (IntKind.u64.wrap x) = v * 256 + x := by
  have e : Ox.shl .u64 v 8 = v * 256 := by
    show IntKind.u64.wrap (v * 256) = _
    rw [wu64i (by omega) h1]
  rw [e, wu64i hx.1 (by omega)]
  obtain ⟨m, rfl⟩ := Int.eq_ofNat_of_zero_le h0
  obtain ⟨y, rfl⟩ := Int.eq_ofNat_of_zero_le hx.1
  show IntKind.u64.wrap ((BitVec.ofInt 64 ((m : Int) * 256) ||| BitVec.ofInt 64 (y : Int)).toNat : Int) = _
  have e1 : (BitVec.ofInt 64 ((m : Int) * 256)).toNat = m * 256 := by rw [show (m : Int) * 256 = ((m * 256 : Nat) : Int) by omega, BitVec.ofInt_natCast, BitVec.toNat_ofNat]; exact Nat.mod_eq_of_lt (by omega)
  have e2 : (BitVec.ofInt 64 (y : Int)).toNat = y := by rw [BitVec.ofInt_natCast, BitVec.toNat_ofNat]; exact Nat.mod_eq_of_lt (by omega)
  have e3 : m * 256 ||| y = m * 256 + y := by
    have := Nat.shiftLeft_add_eq_or_of_lt (a := m) (i := 8) (b := y) (by omega)
    rw [Nat.shiftLeft_eq] at this
    exact this.symm
  rw [BitVec.toNat_or, e1, e2, e3, wu64i (by omega) (by omega)]
  omega
theorem value_L {b : List Int} (hw : Wf 256 b) (hl : b.length ≤ 8) : ∀ (k j : Nat), j ≤ b.length → b.length < k + j → F_bits_value_L1 b k (val (b.take j)) (j : Int) = some (val b)
  | 0, j, h1, h2 => by omega
  | k + 1, j, h1, h2 => by
    show F_bits_value_l1 (F_bits_value_L1 b k) b _ _ = _
    unfold F_bits_value_l1
    by_cases h : j < b.length
    · have hg : b[j]? = some b[j] := List.getElem?_eq_getElem h
      have hx := hw.get hg
      have hb := vl_bd (b.take j) 0 (by omega) (hw.take j)
      have hlt : (256 : Int) ^ (b.take j).length ≤ 256 ^ 7 := pmono (by simp; omega)
      have e3 : IntKind.i64.wrap ((j : Int) + 1) = ((j + 1 : Nat) : Int) := by rw [wi64 (by omega) (by omega)]; omega
      have hb2 : vl 0 (b.take j) < 256 ^ 7 := by omega
      rw [e7] at hb2
      rw [if_pos (by simpa using h), gidx_nat hg, Option.bind_some]
      unfold val
      rw [or8 hb.1 (by omega) hx, e3, ← vl_snoc, show List.take j b ++ [b[j]] = List.take (j + 1) b by rw [List.take_add_one, hg]; rfl]
      exact value_L hw hl k (j + 1) (by omega) (by omega)
    · rw [if_neg (by simpa using h), show j = b.length by omega, List.take_length]
theorem value_eq {b : List Int} (hw : Wf 256 b) (hl : b.length ≤ 8) : F_bits_value b = some (val b) := by
  have := value_L hw hl fuel0 0 (by omega) (by unfold fuel0; omega)
  exact this
def gt (b : List Int) (p n : Int) : Int × Int := if n < 1 ∨ 8 < n ∨ p < 0 then (0, 2) else if b.length < p + n then (0, 10) else (val ((b.drop p.toNat).take n.toNat), 0)
theorem bget_eq {b : List Int} (hw : Wf 256 b) (hl : b.length < 100000000) {p n : Int} (hp : I p) : F_bits_Get b p n = some (gt b p n) := by
  have hp1 := hp.1; have hp2 := hp.2
  have key : ¬ (n < 1 ∨ 8 < n ∨ p < 0) → F_bits_Get_j1 b p n false = some (gt b p n) := fun hc => by
    unfold F_bits_Get_j1 gt
    rw [if_neg (by decide), if_neg hc]
    by_cases h : (b.length : Int) < p
    · rw [if_pos (by simpa using h), if_pos (by omega)]; rfl
    · rw [if_neg (by simpa using h), wi64 (by omega) (by omega)]
      unfold F_bits_Get_j2
      by_cases h2 : (b.length : Int) < p + n
      · rw [if_pos (by simp; omega), if_pos h2]
      · rw [if_neg (by simp; omega), if_neg h2, wi64 (by omega) (by omega), gcut_in (by omega) (by omega) (by omega), Option.bind_some, show (p + n).toNat - p.toNat = n.toNat by omega, value_eq ((hw.drop _).take _) (by simp; omega)]
        rfl
  have bad : (n < 1 ∨ 8 < n ∨ p < 0) → F_bits_Get_j1 b p n true = some (gt b p n) := fun hc => by
    unfold F_bits_Get_j1 gt
    rw [if_pos (by decide), if_pos hc]
  unfold F_bits_Get F_bits_right F_bits_right_j1
  by_cases h1 : 1 ≤ n
  · rw [if_pos (by simpa using h1), Option.bind_some]
    by_cases h8 : n ≤ 8
    · rw [if_neg (by simpa using h8)]
      by_cases h0 : p < 0
      · rw [decide_eq_true h0]; exact bad (by omega)
      · rw [decide_eq_false h0]; exact key (by omega)
    · rw [if_pos (by simpa using h8)]; exact bad (by omega)
  · rw [if_neg (by simpa using h1), Option.bind_some, if_pos (by decide)]
    exact bad (by omega)
theorem rget_L {b : List Int} (hw : Wf 256 b) (hl : b.length < 100000000) {p n : Int} (hp : 0 ≤ p) (hp2 : p ≤ 9223372036854775807) (hn : 1 ≤ n) (h8 : n ≤ 8) : ∀ (k i : Nat), (i : Int) ≤ n → n < k + i → (0 < i → p + i ≤ b.length) →
    F_ref01_Get_L1 b p n k (val ((b.drop p.toNat).take i)) (i : Int) = some (gt b p n)
  | 0, i, h1, h2, h3 => by omega
  | k + 1, i, h1, h2, h3 => by
    show F_ref01_Get_l1 (F_ref01_Get_L1 b p n k) b p n _ _ = _
    have hc : ¬ (n < 1 ∨ 8 < n ∨ p < 0) := by omega
    unfold F_ref01_Get_l1
    by_cases h : (i : Int) < n
    · rw [if_pos (by simpa using h)]
      unfold F_ref01_Get_j2
      by_cases hA : (b.length : Int) < p
      · rw [if_pos (by simpa using hA), if_pos (by decide)]
        unfold gt
        rw [if_neg hc, if_pos (by omega)]
      · rw [if_neg (by simpa using hA), wi64 (by omega) (by omega)]
        by_cases hB : (b.length : Int) ≤ p + i
        · rw [if_pos (by simpa using hB)]
          unfold gt
          rw [if_neg hc, if_pos (by omega)]
        · rw [if_neg (by simpa using hB)]
          have hpi : p + (i : Int) = ((p.toNat + i : Nat) : Int) := by omega
          have hlt : p.toNat + i < b.length := by omega
          have hg : b[p.toNat + i]? = some b[p.toNat + i] := List.getElem?_eq_getElem hlt
          have hx := hw.get hg
          have hb := vl_bd ((b.drop p.toNat).take i) 0 (by omega) ((hw.drop _).take i)
          have hle : (256 : Int) ^ ((b.drop p.toNat).take i).length ≤ 256 ^ 7 := pmono (by simp; omega)
          have hb2 : vl 0 ((b.drop p.toNat).take i) < 256 ^ 7 := by omega
          rw [e7] at hb2
          have e3 : IntKind.i64.wrap ((i : Int) + 1) = ((i + 1 : Nat) : Int) := by rw [wi64 (by omega) (by omega)]; omega
          have ev : IntKind.u64.wrap (IntKind.u64.wrap (val ((b.drop p.toNat).take i) * 256) + IntKind.u64.wrap b[p.toNat + i]) = val ((b.drop p.toNat).take i) * 256 + b[p.toNat + i] := by
            unfold val
            have := hb.1
            rw [wu64i (n := _ * 256) (by omega) (by omega), wu64i hx.1 (by omega), wu64i (by omega) (by omega)]
          rw [hpi, gidx_nat hg, Option.bind_some, ev, e3]
          unfold val
          have ht : (b.drop p.toNat).take i ++ [b[p.toNat + i]] = (b.drop p.toNat).take (i + 1) := by
            rw [List.take_add_one, List.getElem?_drop, hg]; rfl
          rw [← vl_snoc, ht]
          exact rget_L hw hl hp hp2 hn h8 k (i + 1) (by omega) (by omega) (by omega)
    · rw [if_neg (by simpa using h)]
      have : (i : Int) = n := by omega
      unfold gt
      rw [if_neg hc, if_neg (by have := h3 (by omega); omega), show n.toNat = i by omega]
theorem rget_eq {b : List Int} (hw : Wf 256 b) (hl : b.length < 100000000) {p n : Int} (hp : I p) : F_ref01_Get b p n = some (gt b p n) := by
  have bad : (n < 1 ∨ 8 < n ∨ p < 0) → F_ref01_Get_j1 b p n true = some (gt b p n) := fun hc => by
    unfold F_ref01_Get_j1 gt
    rw [if_pos (by decide), if_pos hc]
  unfold F_ref01_Get
  by_cases h1 : n < 1
  · rw [if_pos (by simpa using h1)]; exact bad (by omega)
  · rw [if_neg (by simpa using h1)]
    by_cases h8 : 8 < n
    · rw [if_pos (by simpa using h8)]; exact bad (by omega)
    · rw [if_neg (by simpa using h8)]
      by_cases h0 : p < 0
      · rw [decide_eq_true h0]; exact bad (by omega)
      · rw [decide_eq_false h0]
        unfold F_ref01_Get_j1
        rw [if_neg (by decide)]
        have := rget_L hw hl (p := p) (n := n) (by omega) hp.2 (by omega) (by omega) fuel0 0 (by omega) (by unfold fuel0; omega) (by omega)
        simpa [val, vl] using this
theorem limk {n : Nat} (h : n < 1000000000000) : decide (n ≤ lim) = true := lim_le h
theorem wput_eq {w : List Int} (hl : w.length < 1000000) {v n : Int} (hv : U v) : F_bits_Writer_Put ⟨w⟩ v n = some (if fit v n = true then (0, ⟨w ++ put n.toNat v⟩) else (2, ⟨w⟩)) := by
  unfold F_bits_Writer_Put
  rw [bfits_eq hv, Option.bind_some]
  cases hf : fit v n with
  | false => simp
  | true =>
    obtain ⟨h1, h8, _⟩ := fit_iff.1 hf
    rw [if_neg (by decide), of_eq hv (by omega) h8, Option.bind_some]
    unfold F_bits_Writer_Raw
    rw [if_pos (limk (by simp [put_len]; omega)), Option.bind_some, if_pos rfl]
theorem clone_eq {w : List Int} (hl : w.length < 1000000) : F_slices_Clone_byte_byte w = some w := by
  unfold F_slices_Clone_byte_byte
  rw [if_pos (limk (by simp; omega))]; rfl
theorem wbytes_eq {w : List Int} (hl : w.length < 1000000) : F_bits_Writer_Bytes ⟨w⟩ = some (w, ⟨w⟩) := by
  unfold F_bits_Writer_Bytes
  rw [clone_eq hl, Option.bind_some]
theorem gidx_nn {xs : List Int} {j : Nat} (h : j < xs.length) : gidx xs (j : Int) = some xs[j] := gidx_nat (List.getElem?_eq_getElem h)

/-! ### Headers -/
theorem arrEq_refl (n : Nat) (x : List Int) : arrEq n x x = true := by simp [arrEq]
theorem arrL_self {n : Nat} {xs : List Int} (h : xs.length = n) : arrL n xs = xs := by
  subst h
  apply List.ext_getElem?
  intro i
  by_cases hi : i < xs.length
  · simp [arrL, hi, List.getD]
  · rw [List.getElem?_eq_none (by simp [arrL]; omega), List.getElem?_eq_none (by omega)]
theorem nums_str : ∀ {xs : List Int}, Wf 256 xs → numsOfStr (strOfNums xs) = xs
  | [], _ => rfl
  | x :: xs, h => by
    have ih := nums_str (xs := xs) h.tail
    have hx := h.head
    simp only [numsOfStr, strOfNums, List.map_cons] at ih ⊢
    rw [ih]
    congr 1
    have : (UInt8.ofNat x.toNat).toNat = x.toNat := by
      rw [UInt8.toNat_ofNat']; exact Nat.mod_eq_of_lt (by omega)
    rw [this]; omega
theorem str_size (xs : List Int) : (strOfNums xs).size = xs.length := strOfNums_size xs
/-- What a header is made of. -/
structure WH (h : T_ipsix_Header) : Prop where
  c : 0 ≤ h.f_Class ∧ h.f_Class < 256
  f : 0 ≤ h.f_Flow ∧ h.f_Flow < 4294967296
  l : 0 ≤ h.f_Length ∧ h.f_Length < 65536
  n : 0 ≤ h.f_Next ∧ h.f_Next < 256
  o : 0 ≤ h.f_Hops ∧ h.f_Hops < 256
  s : h.f_Src.length = 16 ∧ Wf 256 h.f_Src
  d : h.f_Dst.length = 16 ∧ Wf 256 h.f_Dst
def hn (h : T_ipsix_Header) : Int := 1610612736 + h.f_Class * 1048576 + h.f_Flow
def hb (h : T_ipsix_Header) : List Int := put 4 (hn h) ++ put 2 h.f_Length ++ [h.f_Next, h.f_Hops] ++ h.f_Src ++ h.f_Dst
theorem orN {a b : Nat} {m k : Nat} (hb : b < 2 ^ k) (ha : a = m * 2 ^ k) : a ||| b = a + b := by
  subst ha
  have := Nat.shiftLeft_add_eq_or_of_lt hb m
  rw [Nat.shiftLeft_eq] at this
  exact this.symm
theorem or64 {a b : Int} {m k : Nat} (h0 : 0 ≤ b) (hk : k < 64) (hb : b.toNat < 2 ^ k) (ha : a = (m * 2 ^ k : Nat)) (hs : a + b < 18446744073709551616) : bits .or .u64 a b = a + b := by
  obtain ⟨y, rfl⟩ := Int.eq_ofNat_of_zero_le h0
  subst ha
  show IntKind.u64.wrap ((BitVec.ofInt 64 ((m * 2 ^ k : Nat) : Int) ||| BitVec.ofInt 64 (y : Int)).toNat : Int) = _
  have e1 : (BitVec.ofInt 64 ((m * 2 ^ k : Nat) : Int)).toNat = m * 2 ^ k := by rw [BitVec.ofInt_natCast, BitVec.toNat_ofNat]; exact Nat.mod_eq_of_lt (by omega)
  have e2 : (BitVec.ofInt 64 (y : Int)).toNat = y := by rw [BitVec.ofInt_natCast, BitVec.toNat_ofNat]; exact Nat.mod_eq_of_lt (by omega)
  rw [BitVec.toNat_or, e1, e2, orN (by simpa using hb) rfl, wu64i (by omega) (by omega)]
  omega
theorem hn_or {h : T_ipsix_Header} (w : WH h) (hf : h.f_Flow < 1048576) : bits .or .u64 (bits .or .u64 1610612736 (Ox.shl .u64 (IntKind.u64.wrap h.f_Class) 20)) (IntKind.u64.wrap h.f_Flow) = hn h := by
  have hc := w.c; have hf0 := w.f.1
  have e1 : Ox.shl .u64 (IntKind.u64.wrap h.f_Class) 20 = h.f_Class * 1048576 := by
    show IntKind.u64.wrap (IntKind.u64.wrap h.f_Class * 1048576) = _
    simp only [wu64]; omega
  rw [e1, wu64i (n := h.f_Flow) hf0 (by omega)]
  have o1 : bits .or .u64 1610612736 (h.f_Class * 1048576) = 1610612736 + h.f_Class * 1048576 := or64 (m := 6) (k := 28) (by omega) (by decide) (by omega) (by decide) (by omega)
  rw [o1, or64 (m := 6 * 256 + h.f_Class.toNat) (k := 20) hf0 (by decide) (by omega) (by omega) (by omega)]
  rfl
theorem hn_bd {h : T_ipsix_Header} (w : WH h) (hf : h.f_Flow < 1048576) : 0 ≤ hn h ∧ hn h < 4294967296 := by
  have hc := w.c; have hf0 := w.f.1
  unfold hn; omega
theorem raw_eq {w b : List Int} (hl : w.length < 1000000) (h2 : b.length < 1000000) : F_bits_Writer_Raw ⟨w⟩ b = some (0, ⟨w ++ b⟩) := by
  unfold F_bits_Writer_Raw
  rw [if_pos (limk (by dsimp only; omega))]
theorem hfits {v : Int} {n : Nat} (h1 : 1 ≤ n) (h8 : n ≤ 8) (hv : v < 256 ^ n) : fit v (n : Int) = true := fit_iff.2 ⟨by omega, by omega, by simpa using hv⟩
theorem e4 : (256 : Int) ^ 4 = 4294967296 := by decide
theorem e2 : (256 : Int) ^ 2 = 65536 := by decide
theorem hput_eq {h : T_ipsix_Header} (w : WH h) : F_ipsix_Put h = some (if h.f_Flow < 1048576 then (hb h, 0) else ([], 51)) := by
  unfold F_ipsix_Put
  by_cases hf : h.f_Flow < 1048576
  · have hbd := hn_bd w hf
    have hl := w.l
    rw [if_neg (by simpa using hf), if_pos hf, hn_or w hf, wput_eq (by simp) ⟨hbd.1, by omega⟩, Option.bind_some]
    have f1 : fit (hn h) 4 = true := hfits (n := 4) (by decide) (by decide) (by rw [e4]; omega)
    rw [if_pos f1, wu64i hl.1 (by omega)]
    dsimp only
    rw [wput_eq (by simp [put_len]) ⟨hl.1, by omega⟩, Option.bind_some]
    have f2 : fit h.f_Length 2 = true := hfits (n := 2) (by decide) (by decide) (by rw [e2]; omega)
    rw [if_pos f2]
    dsimp only
    have hs := w.s.1; have hd := w.d.1
    rw [raw_eq (by simp [put_len]) (by simp), Option.bind_some]
    dsimp only
    rw [raw_eq (by simp [put_len]) (by simp [arrL]), Option.bind_some]
    dsimp only
    rw [raw_eq (by simp [put_len, arrL]) (by simp [arrL]), Option.bind_some]
    dsimp only
    rw [wbytes_eq (by simp [put_len, arrL]), Option.bind_some, arrL_self hs, arrL_self hd]
    rfl
  · rw [if_pos (by simpa using hf), if_neg hf]
theorem rhput_eq {h : T_ipsix_Header} (w : WH h) : F_ref06_Put ⟨h.f_Class, h.f_Flow, h.f_Length, h.f_Next, h.f_Hops, strOfNums h.f_Src, strOfNums h.f_Dst⟩ = some (if h.f_Flow < 1048576 then (hb h, 0) else ([], 51)) := by
  unfold F_ref06_Put
  dsimp only
  by_cases hf : h.f_Flow < 1048576
  · have hbd := hn_bd w hf
    have hc := w.c; have hl := w.l; have hf0 := w.f.1
    have e : IntKind.u64.wrap (IntKind.u64.wrap (1610612736 + IntKind.u64.wrap (IntKind.u64.wrap h.f_Class * 1048576)) + IntKind.u64.wrap h.f_Flow) = hn h := by
      simp only [wu64, hn]; omega
    have hs := w.s.1; have hd := w.d.1
    rw [if_neg (by simpa using hf), if_pos hf, e, rput_eq ⟨hbd.1, by omega⟩ (by decide) (by decide), Option.bind_some, wu64i hl.1 (by omega), rput_eq ⟨hl.1, by omega⟩ (by decide) (by decide), Option.bind_some,
      if_pos (limk (by simp [put_len])), if_pos (limk (by simp [put_len])), if_pos (limk (by rw [str_size]; omega)), nums_str w.s.2, nums_str w.d.2, if_pos (limk (by simp [put_len, hs])), if_pos (limk (by rw [str_size]; omega)), if_pos (limk (by simp [put_len, hs, hd]))]
    rfl
  · rw [if_pos (by simpa using hf), if_neg hf]
theorem shr64 {v : Int} (h0 : 0 ≤ v) (m : Nat) (hm : m ≤ 63) : Ox.shr .u64 v (m : Int) = v / 2 ^ m := by
  show v.fdiv (2 ^ (min (m : Int).toNat 64)) = _
  rw [show min (m : Int).toNat 64 = m by simp; omega, Int.fdiv_eq_ediv_of_nonneg _ (Int.le_of_lt (Int.pow_pos (by decide)))]
theorem and64 {v : Int} (h0 : 0 ≤ v) (h1 : v < 18446744073709551616) (m : Nat) (hm : m ≤ 63) : bits .and .u64 v ((2 ^ m - 1 : Nat) : Int) = v % 2 ^ m := by
  obtain ⟨y, rfl⟩ := Int.eq_ofNat_of_zero_le h0
  have hlt : 2 ^ m - 1 < 18446744073709551616 := by
    have : 2 ^ m ≤ 2 ^ 63 := Nat.pow_le_pow_right (by decide) hm
    omega
  show IntKind.u64.wrap ((BitVec.ofInt 64 (y : Int) &&& BitVec.ofInt 64 ((2 ^ m - 1 : Nat) : Int)).toNat : Int) = _
  have e1 : (BitVec.ofInt 64 (y : Int)).toNat = y := by rw [BitVec.ofInt_natCast, BitVec.toNat_ofNat]; exact Nat.mod_eq_of_lt (by omega)
  have e2 : (BitVec.ofInt 64 ((2 ^ m - 1 : Nat) : Int)).toNat = 2 ^ m - 1 := by rw [BitVec.ofInt_natCast, BitVec.toNat_ofNat]; exact Nat.mod_eq_of_lt (by omega)
  have hml : y % 2 ^ m ≤ y := Nat.mod_le _ _
  rw [BitVec.toNat_and, e1, e2, Nat.and_two_pow_sub_one_eq_mod, wu64i (by omega) (by omega)]
  simp
theorem shr28 {v : Int} (h0 : 0 ≤ v) : Ox.shr .u64 v 28 = v / 268435456 := shr64 h0 28 (by decide)
theorem shr20 {v : Int} (h0 : 0 ≤ v) : Ox.shr .u64 v 20 = v / 1048576 := shr64 h0 20 (by decide)
theorem and20 {v : Int} (h0 : 0 ≤ v) (h1 : v < 18446744073709551616) : bits .and .u64 v 1048575 = v % 1048576 := and64 h0 h1 20 (by decide)
def zH : T_ipsix_Header := ⟨0, 0, 0, 0, 0, List.replicate 16 0, List.replicate 16 0⟩
def nb (b : List Int) : Int := val (b.take 4)
/-- The header that stands at the head of bytes. -/
def hp (b : List Int) : T_ipsix_Header := ⟨nb b / 1048576 % 256, nb b % 1048576, val ((b.drop 4).take 2), b.getD 6 0, b.getD 7 0, (b.drop 8).take 16, (b.drop 24).take 16⟩
def hpE (b : List Int) : Int := if (b.length : Int) < 40 then 10 else if nb b / 268435456 = 6 then 0 else 50
theorem gt04 {b : List Int} (h : ¬ (b.length : Int) < 40) : gt b 0 4 = (nb b, 0) := by
  unfold gt
  rw [if_neg (by decide), if_neg (by omega)]; rfl
theorem gt42 {b : List Int} (h : ¬ (b.length : Int) < 40) : gt b 4 2 = (val ((b.drop 4).take 2), 0) := by
  unfold gt
  rw [if_neg (by decide), if_neg (by omega)]; rfl
theorem nb_bd {b : List Int} (hw : Wf 256 b) : 0 ≤ nb b ∧ nb b < 4294967296 := by
  have h := vl_bd (b.take 4) 0 (by omega) (hw.take 4)
  have h2 : (256 : Int) ^ (b.take 4).length ≤ 256 ^ 4 := pmono (by simp; omega)
  have e : (256 : Int) ^ 4 = 4294967296 := by decide
  unfold nb val
  omega
theorem lb_bd {b : List Int} (hw : Wf 256 b) : 0 ≤ val ((b.drop 4).take 2) ∧ val ((b.drop 4).take 2) < 65536 := by
  have h := vl_bd ((b.drop 4).take 2) 0 (by omega) ((hw.drop 4).take 2)
  have h2 : (256 : Int) ^ ((b.drop 4).take 2).length ≤ 256 ^ 2 := pmono (by simp; omega)
  have e : (256 : Int) ^ 2 = 65536 := by decide
  unfold val
  omega
theorem gidxN {b : List Int} {i : Nat} (h : i < b.length) : gidx b (i : Int) = some (b.getD i 0) := by
  rw [gidx_nat (List.getElem?_eq_getElem h)]
  simp [List.getD, List.getElem?_eq_getElem h]
theorem gx6 {b : List Int} (h : 40 ≤ b.length) : gidx b 6 = some (b.getD 6 0) := gidxN (i := 6) (by omega)
theorem gx7 {b : List Int} (h : 40 ≤ b.length) : gidx b 7 = some (b.getD 7 0) := gidxN (i := 7) (by omega)
theorem hparse_eq {b : List Int} (hw : Wf 256 b) (hl : b.length < 1000000) : F_ipsix_Parse b = some (if hpE b = 0 then hp b else zH, hpE b) := by
  unfold F_ipsix_Parse hpE
  by_cases h : (b.length : Int) < 40
  · rw [if_pos (by simpa using h), if_pos h]; rfl
  · have hI0 : I 0 := ⟨by decide, by decide⟩
    have hI4 : I 4 := ⟨by decide, by decide⟩
    have hn := nb_bd hw; have hlb := lb_bd hw
    rw [if_neg (by simpa using h), if_neg h, bget_eq hw (by omega) hI0, Option.bind_some, bget_eq hw (by omega) hI4, Option.bind_some, gt04 h, gt42 h]
    dsimp only
    rw [shr28 hn.1]
    by_cases h6 : nb b / 268435456 = 6
    · rw [if_neg (by simpa using h6), if_pos h6, gx6 (by omega), Option.bind_some, gx7 (by omega), Option.bind_some, gcut_in (by decide) (by decide) (by omega), Option.bind_some, if_pos (by simp; omega), gcut_in (by decide) (by decide) (by omega), Option.bind_some, if_pos (by simp; omega), if_pos rfl]
      rw [shr20 hn.1, and20 hn.1 (by omega), wu8, wu32i (by omega) (by omega), wu16i hlb.1 hlb.2]
      rw [arrL_self (by simp; omega), arrL_self (by simp; omega)]
      rfl
    · rw [if_pos (by simpa using h6), if_neg h6]; rfl
def eH : T_ref06_Header := ⟨0, 0, 0, 0, 0, ByteArray.empty, ByteArray.empty⟩
def h6 (h : T_ipsix_Header) : T_ref06_Header := ⟨h.f_Class, h.f_Flow, h.f_Length, h.f_Next, h.f_Hops, strOfNums h.f_Src, strOfNums h.f_Dst⟩
theorem rhparse_eq {b : List Int} (hw : Wf 256 b) (hl : b.length < 1000000) : F_ref06_Parse b = some (if hpE b = 0 then h6 (hp b) else eH, hpE b) := by
  unfold F_ref06_Parse hpE
  by_cases h : (b.length : Int) < 40
  · rw [if_pos (by simpa using h), if_pos h]; rfl
  · have hI0 : I 0 := ⟨by decide, by decide⟩
    have hI4 : I 4 := ⟨by decide, by decide⟩
    have hn := nb_bd hw; have hlb := lb_bd hw
    rw [if_neg (by simpa using h), if_neg h, rget_eq hw (by omega) hI0, Option.bind_some, gt04 h]
    dsimp only
    rw [tdiv_nn hn.1, tdiv_nn hn.1, tmod_nn hn.1, wu64i (n := nb b / 268435456) (by omega) (by omega), wu64i (n := nb b / 1048576) (by omega) (by omega)]
    by_cases h6' : nb b / 268435456 = 6
    · rw [if_neg (by simpa using h6'), if_pos h6', rget_eq hw (by omega) hI4, Option.bind_some, gt42 h, gx6 (by omega), Option.bind_some, gx7 (by omega), Option.bind_some, gcut_in (by decide) (by decide) (by omega), Option.bind_some, gcut_in (by decide) (by decide) (by omega), Option.bind_some, if_pos rfl]
      dsimp only
      rw [tmod_nn (by omega), wu8i (by omega) (by omega), wu32i (by omega) (by omega), wu16i hlb.1 hlb.2]
      rfl
    · rw [if_pos (by simpa using h6'), if_neg h6']; rfl
theorem q6_refl (x : T_ref06_Header) : q_ref06_Header x x = true := by simp [q_ref06_Header]
theorem dzero : F_docs_Ipsix zH = some (h6 zH) := by
  unfold F_docs_Ipsix
  rw [arrL_self (n := 16) (xs := zH.f_Src) rfl, arrL_self (n := 16) (xs := zH.f_Dst) rfl]; rfl
theorem dIp {h : T_ipsix_Header} (hs : h.f_Src.length = 16) (hd : h.f_Dst.length = 16) : F_docs_Ipsix h = some (h6 h) := by
  unfold F_docs_Ipsix
  rw [arrL_self hs, arrL_self hd]; rfl
theorem hp_len {b : List Int} (h : hpE b = 0) : (hp b).f_Src.length = 16 ∧ (hp b).f_Dst.length = 16 := by
  unfold hpE at h
  split at h
  · cases h
  · simp [hp]; omega
theorem no_eq (b : List Int) : F_docs_NoIpsix (if hpE b = 0 then h6 (hp b) else eH) = some (h6 (if hpE b = 0 then hp b else zH)) := by
  unfold F_docs_NoIpsix
  by_cases h : hpE b = 0
  · rw [if_pos h, if_pos h, if_neg]
    have hl := (hp_len h).1
    intro he
    have he := eq_of_beq he
    have h1 := congrArg List.length he
    rw [ByteArray.toList_eq, ByteArray.toList_eq] at h1
    simp [h6, strOfNums, hl] at h1
  · rw [if_neg h, if_neg h, if_pos (by rw [ByteArray.toList_eq, ByteArray.toList_eq]; rfl)]
    show (F_docs_Ipsix zH).bind _ = _
    rw [dzero, Option.bind_some]
theorem sb_L {a : List Int} (hl : a.length < 1000000) : ∀ (k i : Nat), i ≤ a.length → a.length < k + i → F_kit_SameBytes_L1 a a k (i : Int) = some true
  | 0, i, h1, h2 => by omega
  | k + 1, i, h1, h2 => by
    show F_kit_SameBytes_l1 (F_kit_SameBytes_L1 a a k) a a _ = _
    unfold F_kit_SameBytes_l1
    by_cases h : i < a.length
    · have e3 : IntKind.i64.wrap ((i : Int) + 1) = ((i + 1 : Nat) : Int) := by rw [wi64 (by omega) (by omega)]; omega
      rw [if_pos (by simpa using h), gidx_nn h, Option.bind_some, Option.bind_some, if_neg (by simp), e3]
      exact sb_L hl k (i + 1) (by omega) (by omega)
    · rw [if_neg (by simpa using h)]
theorem sb_eq {a : List Int} (hl : a.length < 1000000) : F_kit_SameBytes a a = some true := by
  unfold F_kit_SameBytes
  rw [if_neg (by simp)]
  exact sb_L hl fuel0 0 (by omega) (by unfold fuel0; omega)
theorem hb_len {h : T_ipsix_Header} (w : WH h) : (hb h).length = 40 := by simp [hb, put_len, w.s.1, w.d.1]
theorem hb_wf {h : T_ipsix_Header} (w : WH h) : Wf 256 (hb h) := by
  refine ((((put_wf _ _).app (put_wf _ _)).app ?_).app w.s.2).app w.d.2
  exact Wf.cons w.n (Wf.cons w.o Wf.nil)
/-- What was put is parsed as it was. -/
theorem hback {h : T_ipsix_Header} (w : WH h) (hf : h.f_Flow < 1048576) (b : List Int) : hpE (hb h ++ b) = 0 ∧ hp (hb h ++ b) = h := by
  have hbd := hn_bd w hf
  have hc := w.c; have hl := w.l; have hf0 := w.f.1; have hs := w.s.1; have hd := w.d.1
  have e4 : (256 : Int) ^ 4 = 4294967296 := by decide
  have e2 : (256 : Int) ^ 2 = 65536 := by decide
  have p4 : (put 4 (hn h)).length = 4 := put_len _ _
  have p2 : (put 2 h.f_Length).length = 2 := put_len _ _
  have n4 : nb (hb h ++ b) = hn h := by
    unfold nb hb
    rw [List.append_assoc, List.append_assoc, List.append_assoc, List.append_assoc, List.take_append_of_le_length (by omega), List.take_of_length_le (by omega), val_put 4 _ hbd.1 (by omega)]
  have d4 : (hb h ++ b).drop 4 = put 2 h.f_Length ++ ([h.f_Next, h.f_Hops] ++ (h.f_Src ++ (h.f_Dst ++ b))) := by
    unfold hb
    rw [List.append_assoc, List.append_assoc, List.append_assoc, List.append_assoc, List.drop_append_of_le_length (by omega), List.drop_of_length_le (by omega), List.nil_append]
  have d6 : (hb h ++ b).drop 6 = [h.f_Next, h.f_Hops] ++ (h.f_Src ++ (h.f_Dst ++ b)) := by
    rw [show 6 = 4 + 2 by rfl, ← List.drop_drop, d4, List.drop_append_of_le_length (by omega), List.drop_of_length_le (by omega), List.nil_append]
  have d8 : (hb h ++ b).drop 8 = h.f_Src ++ (h.f_Dst ++ b) := by
    rw [show 8 = 6 + 2 by rfl, ← List.drop_drop, d6]; rfl
  have d24 : (hb h ++ b).drop 24 = h.f_Dst ++ b := by
    rw [show 24 = 8 + 16 by rfl, ← List.drop_drop, d8, List.drop_append_of_le_length (by omega), List.drop_of_length_le (by omega), List.nil_append]
  have g6 : (hb h ++ b).getD 6 0 = h.f_Next := by
    have : (hb h ++ b)[6]? = ((hb h ++ b).drop 6)[0]? := by simp
    rw [List.getD, this, d6]; rfl
  have g7 : (hb h ++ b).getD 7 0 = h.f_Hops := by
    have : (hb h ++ b)[7]? = ((hb h ++ b).drop 6)[1]? := by simp
    rw [List.getD, this, d6]; rfl
  have hlen : ¬ ((hb h ++ b).length : Int) < 40 := by rw [List.length_append, hb_len w]; omega
  have hnv : hn h = 1610612736 + h.f_Class * 1048576 + h.f_Flow := rfl
  refine ⟨?_, ?_⟩
  · unfold hpE
    rw [if_neg hlen, n4, if_pos (by omega)]
  · unfold hp
    rw [n4, d4, d8, d24, g6, g7, List.take_append_of_le_length (by omega), List.take_of_length_le (by omega), val_put 2 _ hl.1 (by omega), List.take_append_of_le_length (by omega), List.take_of_length_le (by omega), List.take_append_of_le_length (by omega), List.take_of_length_le (by omega), show hn h / 1048576 % 256 = h.f_Class by omega, show hn h % 1048576 = h.f_Flow by omega]
theorem qH_refl (x : T_ipsix_Header) : q_ipsix_Header x x = true := by simp [q_ipsix_Header, arrEq_refl]
theorem heads_eq {h : T_ipsix_Header} (w : WH h) {b : List Int} (hw : Wf 256 b) : F_law06_IpsixHeads h b = some true := by
  unfold F_law06_IpsixHeads
  by_cases hl : 100 < b.length
  · rw [if_pos (by simp; omega), works_eq]; rfl
  · rw [if_neg (by simp; omega), dIp w.s.1 w.d.1, Option.bind_some, hput_eq w, Option.bind_some]
    have hr := rhput_eq w
    unfold h6
    rw [hr, Option.bind_some, hparse_eq hw (by omega), Option.bind_some]
    unfold F_kit_Own
    rw [if_pos (limk (by omega)), Option.bind_some, rhparse_eq hw (by omega), Option.bind_some, if_neg (by simp)]
    have hsl : (if h.f_Flow < 1048576 then (hb h, (0 : Int)) else ([], 51)).1.length < 1000000 := by
      split
      · rw [hb_len w]; decide
      · simp
    rw [sb_eq hsl, Option.bind_some, if_neg (by decide), if_neg (by simp)]
    dsimp only
    have hx : F_docs_Ipsix (if hpE b = 0 then hp b else zH) = some (h6 (if hpE b = 0 then hp b else zH)) := by
      split
      · rename_i h0; exact dIp (hp_len h0).1 (hp_len h0).2
      · exact dzero
    rw [hx, Option.bind_some, no_eq, Option.bind_some, q6_refl]
    unfold F_law06_IpsixHeads_j1
    rw [if_neg (by decide)]
    by_cases hf : h.f_Flow < 1048576
    · rw [if_pos hf]
      dsimp only
      have hbk := hback w hf b
      rw [if_pos (by decide), if_pos (limk (by rw [hb_len w]; omega)), hparse_eq ((hb_wf w).app hw) (by rw [List.length_append, hb_len w]; omega), Option.bind_some, hbk.1]
      dsimp only
      rw [if_pos (by decide), if_pos rfl, hbk.2, if_pos (qH_refl h), works_eq]
      rfl
    · rw [if_neg hf]
      dsimp only
      rw [if_neg (by decide), works_eq]; rfl

/-! ### Chains -/
def bh (k : Int) : Bool := k == 0 || k == 43 || k == 44 || k == 60
theorem bh_eq (k : Int) : F_ipsix_behind k = some (bh k) := by
  unfold F_ipsix_behind F_ipsix_behind_j1 bh
  by_cases h0 : k = 0
  · subst h0; rfl
  · rw [if_neg (by simpa using h0)]
    by_cases h1 : k = 43
    · subst h1; rfl
    · rw [if_neg (by simpa using h1)]
      by_cases h2 : k = 44
      · subst h2; rfl
      · rw [if_neg (by simpa using h2)]
        by_cases h3 : k = 60
        · subst h3; rfl
        · rw [if_neg (by simpa using h3)]; simp [h0, h1, h2, h3]
structure WE (x : T_ipsix_Ext) : Prop where
  k : 0 ≤ x.f_Kind ∧ x.f_Kind < 256
  d : Wf 256 x.f_Data
  l : x.f_Data.length < 100000
def sn (x : T_ipsix_Ext) : Int := (gt x.f_Data 0 2).1
theorem sn_bd {x : T_ipsix_Ext} (w : WE x) : 0 ≤ sn x ∧ sn x < 65536 := by
  unfold sn gt
  rw [if_neg (by decide)]
  split
  · decide
  · have h := vl_bd ((x.f_Data.drop (0 : Int).toNat).take (2 : Int).toNat) 0 (by omega) ((w.d.drop _).take _)
    have h2 : (256 : Int) ^ ((x.f_Data.drop (0 : Int).toNat).take (2 : Int).toNat).length ≤ 256 ^ 2 := pmono (by simp; omega)
    have h3 := e2
    unfold val
    dsimp only
    omega
theorem shr3 {v : Int} (h0 : 0 ≤ v) : Ox.shr .u64 v 3 = v / 8 := shr64 h0 3 (by decide)
theorem shr1 {v : Int} (h0 : 0 ≤ v) : Ox.shr .u64 v 1 = v / 2 := shr64 h0 1 (by decide)
theorem and2 {v : Int} (h0 : 0 ≤ v) (h1 : v < 18446744073709551616) : bits .and .u64 v 3 = v % 4 := and64 h0 h1 2 (by decide)
theorem and1 {v : Int} (h0 : 0 ≤ v) (h1 : v < 18446744073709551616) : bits .and .u64 v 1 = v % 2 := and64 h0 h1 1 (by decide)
theorem says_eq {x : T_ipsix_Ext} (w : WE x) : F_ipsix_Ext_says x = some (sn x / 8, sn x / 2 % 4, sn x % 2 == 1) := by
  have hb := sn_bd w
  have hl := w.l
  unfold F_ipsix_Ext_says
  rw [bget_eq w.d (by omega) ⟨by decide, by decide⟩, Option.bind_some]
  show some (IntKind.u16.wrap (Ox.shr .u64 (sn x) 3), IntKind.u8.wrap (bits .and .u64 (Ox.shr .u64 (sn x) 1) 3), bits .and .u64 (sn x) 1 == 1) = _
  rw [shr3 hb.1, shr1 hb.1, and2 (by omega) (by omega), and1 hb.1 (by omega), wu16i (by omega) (by omega), wu8i (by omega) (by omega)]
def rightE (x : T_ipsix_Ext) : Bool := if x.f_Kind = 44 then decide (x.f_Data.length = 6) && decide (sn x / 2 % 4 = 0) else bh x.f_Kind && decide (x.f_Data.length % 8 = 6) && decide (x.f_Data.length ≤ 2046)
def laterE (x : T_ipsix_Ext) : Bool := x.f_Kind == 44 && decide (0 < sn x / 8)
theorem right_eq {x : T_ipsix_Ext} (w : WE x) : F_ipsix_Ext_right x = some (rightE x) := by
  unfold F_ipsix_Ext_right rightE F_ipsix_Ext_right_j1 F_ipsix_Ext_right_j2
  by_cases h : x.f_Kind = 44
  · rw [if_neg (by simpa using h), if_pos h, says_eq w, Option.bind_some]
    by_cases h6 : x.f_Data.length = 6
    · rw [if_pos (by simp; omega)]; simp [h6]; rfl
    · rw [if_neg (by simp; omega)]; simp [h6]
  · rw [if_pos (by simpa using h), if_neg h, bh_eq, Option.bind_some]
    cases bh x.f_Kind with
    | false => simp
    | true =>
      rw [if_pos rfl]
      have e : Int.tmod (x.f_Data.length : Int) 8 = ((x.f_Data.length % 8 : Nat) : Int) := by rw [tmod_nn (by omega)]; omega
      rw [e]
      by_cases h8 : x.f_Data.length % 8 = 6
      · rw [if_pos (by simp; omega)]; simp [h8]; omega
      · rw [if_neg (by simp; omega)]; simp [h8]
theorem later_eq {x : T_ipsix_Ext} (w : WE x) : F_ipsix_Ext_later x = some (laterE x) := by
  unfold F_ipsix_Ext_later laterE F_ipsix_Ext_later_j1
  rw [says_eq w, Option.bind_some]
  by_cases h : x.f_Kind = 44
  · rw [if_pos (by simpa using h)]; simp [h]
  · rw [if_neg (by simpa using h)]; simp [h]
theorem idx_L {s : List T_ipsix_Ext} (hw : ∀ x ∈ s, WE x) (hl : s.length < 1000000) : ∀ (k i : Nat), i ≤ s.length → s.length < k + i → ∃ y, F_slices_IndexFunc_ipsix_Ext_ipsix_Ext_fipsix_Right_1_L1 s k (i : Int) = some y ∧ (decide (0 ≤ y) = !(s.drop i).all rightE)
  | 0, i, h1, h2 => by omega
  | k + 1, i, h1, h2 => by
    show ∃ y, F_slices_IndexFunc_ipsix_Ext_ipsix_Ext_fipsix_Right_1_l1 (F_slices_IndexFunc_ipsix_Ext_ipsix_Ext_fipsix_Right_1_L1 s k) s _ = some y ∧ _
    unfold F_slices_IndexFunc_ipsix_Ext_ipsix_Ext_fipsix_Right_1_l1 F_ipsix_Right_1
    by_cases h : i < s.length
    · have e3 : IntKind.i64.wrap ((i : Int) + 1) = ((i + 1 : Nat) : Int) := by rw [wi64 (by omega) (by omega)]; omega
      have hg : s[i]? = some s[i] := List.getElem?_eq_getElem h
      rw [if_pos (by simpa using h), gidx_nat hg, Option.bind_some, right_eq (hw _ (List.getElem_mem h)), Option.bind_some, Option.bind_some, List.drop_eq_getElem_cons h, List.all_cons]
      cases hr : rightE s[i] with
      | false => rw [if_pos (by decide)]; exact ⟨_, rfl, by simp⟩
      | true =>
        rw [if_neg (by decide), e3]
        obtain ⟨y, h3, h4⟩ := idx_L hw hl k (i + 1) (by omega) (by omega)
        exact ⟨y, h3, by rw [h4]; simp⟩
    · rw [if_neg (by simpa using h), List.drop_of_length_le (by omega)]
      exact ⟨_, rfl, by simp⟩
theorem cf_eq {s : List T_ipsix_Ext} (hw : ∀ x ∈ s, WE x) (hl : s.length < 1000000) : F_slices_ContainsFunc_ipsix_Ext_ipsix_Ext_fipsix_Right_1 s = some (!s.all rightE) := by
  obtain ⟨y, h1, h2⟩ := idx_L hw hl fuel0 0 (by omega) (by unfold fuel0; omega)
  unfold F_slices_ContainsFunc_ipsix_Ext_ipsix_Ext_fipsix_Right_1 F_slices_IndexFunc_ipsix_Ext_ipsix_Ext_fipsix_Right_1
  have h1' : F_slices_IndexFunc_ipsix_Ext_ipsix_Ext_fipsix_Right_1_L1 s fuel0 0 = some y := h1
  rw [h1', Option.bind_some, h2, List.drop_zero]
/-- Kinds stand where they may. -/
def okD : Nat → List T_ipsix_Ext → Int → Bool
  | _, [], p => !bh p
  | i, [x], p => !(x.f_Kind == 0 && decide (0 < i)) && (!bh p || laterE x)
  | i, x :: y :: r, p => !(x.f_Kind == 0 && decide (0 < i)) && (!laterE x && okD (i + 1) (y :: r) p)
theorem okR_L {c : T_ipsix_Chain} (hw : ∀ x ∈ c.f_Exts, WE x) (hl : c.f_Exts.length < 1000000) : ∀ (k i : Nat), (i < c.f_Exts.length ∨ c.f_Exts = []) → c.f_Exts.length < k + i → i ≤ c.f_Exts.length → F_ipsix_Right_L1 c k (i : Int) = some (okD i (c.f_Exts.drop i) c.f_Proto)
  | 0, i, h0, h1, h2 => by omega
  | k + 1, i, h0, h1, h2 => by
    show F_ipsix_Right_l1 (F_ipsix_Right_L1 c k) c _ = _
    unfold F_ipsix_Right_l1
    have en : IntKind.i64.wrap ((c.f_Exts.length : Int) - 1) = (c.f_Exts.length : Int) - 1 := wi64 (by omega) (by omega)
    rw [en]
    by_cases h : i < c.f_Exts.length
    · have e3 : IntKind.i64.wrap ((i : Int) + 1) = ((i + 1 : Nat) : Int) := by rw [wi64 (by omega) (by omega)]; omega
      have hg : c.f_Exts[i]? = some c.f_Exts[i] := List.getElem?_eq_getElem h
      have wx := hw _ (List.getElem_mem h)
      rw [if_pos (by simpa using h), gidx_nat hg, Option.bind_some, List.drop_eq_getElem_cons h]
      have hend : ∀ t : Bool, (t = false ∨ t = (laterE c.f_Exts[i] && decide ((i : Int) < (c.f_Exts.length : Int) - 1))) → t = (laterE c.f_Exts[i] && decide ((i : Int) < (c.f_Exts.length : Int) - 1)) → (c.f_Exts[i].f_Kind == 0 && decide (0 < i)) = false →
          F_ipsix_Right_j2 (i : Int) (F_ipsix_Right_L1 c k) t = some (okD i (c.f_Exts[i] :: c.f_Exts.drop (i + 1)) c.f_Proto) := fun t _ ht hk => by
        unfold F_ipsix_Right_j2
        rw [e3]
        by_cases hlast : i + 1 < c.f_Exts.length
        · have hd : c.f_Exts.drop (i + 1) = c.f_Exts[i + 1] :: c.f_Exts.drop (i + 2) := List.drop_eq_getElem_cons hlast
          have ih := okR_L hw hl k (i + 1) (.inl hlast) (by omega) (by omega)
          rw [hd] at ih ⊢
          have hlt : decide ((i : Int) < (c.f_Exts.length : Int) - 1) = true := by simp; omega
          rw [hlt, Bool.and_true] at ht
          subst ht
          simp only [okD, hk, Bool.not_false, Bool.true_and]
          cases laterE c.f_Exts[i] with
          | true => rfl
          | false => rw [if_neg (by decide), ih]; rfl
        · have hd : c.f_Exts.drop (i + 1) = [] := List.drop_of_length_le (by omega)
          have hlt : decide ((i : Int) < (c.f_Exts.length : Int) - 1) = false := by simp; omega
          rw [hlt, Bool.and_false] at ht
          subst ht
          rw [if_neg (by decide), hd]
          simp only [okD, hk, Bool.not_false, Bool.true_and]
          have hi1 : i + 1 = c.f_Exts.length := by omega
          cases k with
          | zero => omega
          | succ k =>
            show F_ipsix_Right_l1 (F_ipsix_Right_L1 c k) c _ = _
            unfold F_ipsix_Right_l1 F_ipsix_Right_j3
            rw [en, if_neg (by simp; omega), bh_eq, Option.bind_some]
            cases bh c.f_Proto with
            | false => rfl
            | true =>
              rw [if_neg (by decide), if_pos (by simp; omega), show (c.f_Exts.length : Int) - 1 = (i : Int) by omega, gidx_nat hg, Option.bind_some, later_eq wx, Option.bind_some]
              rfl
      by_cases hk0 : c.f_Exts[i].f_Kind = 0
      · rw [if_pos (by simp [hk0])]
        by_cases hi0 : 0 < i
        · rw [if_pos (by simp; omega)]
          unfold F_ipsix_Right_j2
          rw [if_pos rfl]
          have hf : (!(c.f_Exts[i].f_Kind == 0 && decide (0 < i))) = false := by simp [hk0, hi0]
          cases hd : c.f_Exts.drop (i + 1) with
          | nil => simp only [okD, hf, Bool.false_and]
          | cons y r => simp only [okD, hf, Bool.false_and]
        · rw [if_neg (by simp; omega), later_eq wx, Option.bind_some]
          have hlz : laterE c.f_Exts[i] = false := by simp [laterE, hk0]
          rw [hlz, if_neg (by decide)]
          exact hend _ (.inl rfl) (by rw [hlz]; rfl) (by simp; omega)
      · rw [if_neg (by simpa using hk0), later_eq wx, Option.bind_some]
        cases hlz : laterE c.f_Exts[i] with
        | true => rw [if_pos rfl]; exact hend _ (.inr (by rw [hlz]; rfl)) (by rw [hlz]; rfl) (by simp [hk0])
        | false => rw [if_neg (by decide)]; exact hend _ (.inl rfl) (by rw [hlz]; rfl) (by simp [hk0])
    · have he : c.f_Exts = [] := h0.resolve_left h
      rw [if_neg (by simpa using h), bh_eq, Option.bind_some, he]
      unfold F_ipsix_Right_j3
      simp only [List.drop_nil, okD]
      cases bh c.f_Proto with
      | false => rfl
      | true => rw [if_neg (by decide), if_neg (by simp)]; rfl
def okC (c : T_ipsix_Chain) : Bool := decide (c.f_Exts.length ≤ 16) && (c.f_Exts.all rightE && okD 0 c.f_Exts c.f_Proto)
theorem Right_eq {c : T_ipsix_Chain} (hw : ∀ x ∈ c.f_Exts, WE x) (hl : c.f_Exts.length < 1000000) : F_ipsix_Right c = some (okC c) := by
  unfold F_ipsix_Right F_ipsix_Right_j1 okC
  by_cases h : 16 < c.f_Exts.length
  · rw [if_pos (by simp; omega), if_pos rfl]; simp; omega
  · rw [if_neg (by simp; omega), cf_eq hw hl, Option.bind_some]
    have h16 : decide (c.f_Exts.length ≤ 16) = true := by simp; omega
    rw [h16]
    cases c.f_Exts.all rightE with
    | false => rfl
    | true =>
      rw [if_neg (by decide)]
      have := okR_L hw hl fuel0 0 (by cases c.f_Exts <;> simp) (by unfold fuel0; omega) (by omega)
      exact this
/-! ### How a chain stands -/
def fk : List T_ipsix_Ext → Int → Int
  | [], p => p
  | x :: _, _ => x.f_Kind
def lb (x : T_ipsix_Ext) : Int := ((x.f_Data.length : Int) + 2) / 8 - 1
def pc : List T_ipsix_Ext → Int → List Int
  | [], _ => []
  | x :: r, p => [fk r p, lb x % 256] ++ x.f_Data ++ pc r p
theorem kinds_get {p : Int} : ∀ (l : List T_ipsix_Ext) (i : Nat), i ≤ l.length → (l.map (·.f_Kind) ++ [p])[i]? = some (fk (l.drop i) p)
  | [], i, h => by
    have : i = 0 := by simpa using h
    subst this; rfl
  | x :: l, 0, h => rfl
  | x :: l, i + 1, h => by simpa using kinds_get l i (by simpa using h)
theorem pcl {p : Int} : ∀ {l : List T_ipsix_Ext} {m : Nat}, (∀ x ∈ l, x.f_Data.length ≤ m) → (pc l p).length ≤ l.length * (m + 2)
  | [], m, h => by simp [pc]
  | x :: l, m, h => by
    have h1 := h x (by simp)
    have h2 := pcl (p := p) (l := l) (m := m) (fun y hy => h y (by simp [hy]))
    simp only [pc, List.length_append, List.length_cons, List.length_nil, Nat.add_mul]
    omega
theorem put_L2 {c : T_ipsix_Chain} (h20 : c.f_Exts.length ≤ 20) (hd : ∀ x ∈ c.f_Exts, x.f_Data.length ≤ 5000) : ∀ (k i : Nat) (b : List Int), i ≤ c.f_Exts.length → c.f_Exts.length < k + i → b.length ≤ i * 5002 →
    F_ipsix_PutChain_L2 c (c.f_Exts.map (·.f_Kind)) k b (i : Int) = some (b ++ pc (c.f_Exts.drop i) c.f_Proto, fk c.f_Exts c.f_Proto, 0)
  | 0, i, b, h1, h2, h3 => by omega
  | k + 1, i, b, h1, h2, h3 => by
    show F_ipsix_PutChain_l2 (F_ipsix_PutChain_L2 c (c.f_Exts.map (·.f_Kind)) k) c (c.f_Exts.map (·.f_Kind)) b _ = _
    unfold F_ipsix_PutChain_l2
    by_cases h : i < c.f_Exts.length
    · have e3 : IntKind.i64.wrap ((i : Int) + 1) = ((i + 1 : Nat) : Int) := by rw [wi64 (by omega) (by omega)]; omega
      have hg : c.f_Exts[i]? = some c.f_Exts[i] := List.getElem?_eq_getElem h
      have hx := hd _ (List.getElem_mem h)
      have eb : IntKind.u8.wrap (IntKind.i64.wrap (IntKind.i64.wrap (Int.tdiv (IntKind.i64.wrap ((c.f_Exts[i].f_Data.length : Int) + 2)) 8) - 1)) = lb c.f_Exts[i] % 256 := by
        rw [wi64 (n := (c.f_Exts[i].f_Data.length : Int) + 2) (by omega) (by omega), tdiv_nn (by omega), wi64 (n := _ / 8) (by omega) (by omega), wi64 (by omega) (by omega), wu8]
        rfl
      have hgm : gidx (c.f_Exts.map (·.f_Kind) ++ [c.f_Proto]) ((i + 1 : Nat) : Int) = some (fk (c.f_Exts.drop (i + 1)) c.f_Proto) := gidx_nat (kinds_get _ _ (by omega))
      rw [if_pos (by simpa using h), gidx_nat hg, Option.bind_some, e3, hgm, Option.bind_some, eb, if_pos (limk (by simp; omega)), if_pos (limk (by simp; omega)), put_L2 h20 hd k (i + 1) _ (by omega) (by omega) (by simp; omega), List.drop_eq_getElem_cons h]
      simp [pc]
    · rw [if_neg (by simpa using h), List.drop_of_length_le (by omega)]
      have hg0 : gidx (c.f_Exts.map (·.f_Kind) ++ [c.f_Proto]) 0 = some (fk c.f_Exts c.f_Proto) := gidx_nat (i := 0) (kinds_get c.f_Exts 0 (by omega))
      rw [hg0, Option.bind_some]
      simp [pc]
theorem put_L1 {c : T_ipsix_Chain} (h20 : c.f_Exts.length ≤ 20) : ∀ (k i : Nat), i ≤ c.f_Exts.length → c.f_Exts.length < k + i →
    F_ipsix_PutChain_L1 c k ((c.f_Exts.map (·.f_Kind)).take i) (i : Int) = F_ipsix_PutChain_L2 c (c.f_Exts.map (·.f_Kind)) fuel0 [] 0
  | 0, i, h1, h2 => by omega
  | k + 1, i, h1, h2 => by
    show F_ipsix_PutChain_l1 (F_ipsix_PutChain_L1 c k) c _ _ = _
    unfold F_ipsix_PutChain_l1
    by_cases h : i < c.f_Exts.length
    · have e3 : IntKind.i64.wrap ((i : Int) + 1) = ((i + 1 : Nat) : Int) := by rw [wi64 (by omega) (by omega)]; omega
      have hg : c.f_Exts[i]? = some c.f_Exts[i] := List.getElem?_eq_getElem h
      have ht : (c.f_Exts.map (·.f_Kind)).take i ++ [c.f_Exts[i].f_Kind] = (c.f_Exts.map (·.f_Kind)).take (i + 1) := by
        rw [List.take_add_one]; simp [h]
      rw [if_pos (by simpa using h), gidx_nat hg, Option.bind_some, if_pos (limk (by simp; omega)), ht, e3]
      exact put_L1 h20 k (i + 1) (by omega) (by omega)
    · rw [if_neg (by simpa using h), if_pos (limk (by simp; omega)), List.take_of_length_le (by simp; omega)]
theorem PutChain_eq {c : T_ipsix_Chain} (hw : ∀ x ∈ c.f_Exts, WE x) (h20 : c.f_Exts.length ≤ 20) (hd : ∀ x ∈ c.f_Exts, x.f_Data.length ≤ 5000) : F_ipsix_PutChain c = some (if okC c = true then (pc c.f_Exts c.f_Proto, fk c.f_Exts c.f_Proto, 0) else ([], 0, 60)) := by
  unfold F_ipsix_PutChain
  rw [Right_eq hw (by omega), Option.bind_some]
  cases okC c with
  | false => rfl
  | true =>
    rw [if_neg (by decide), if_pos rfl]
    have h1 := put_L1 h20 fuel0 0 (by omega) (by unfold fuel0; omega)
    have h2 := put_L2 h20 hd fuel0 0 [] (by omega) (by unfold fuel0; omega) (by simp)
    simp only [List.take_zero] at h1
    exact h1.trans h2

/-! ### How bytes are parsed as a chain -/
theorem bh_rng {p : Int} (h : bh p = true) : 0 ≤ p ∧ p < 256 := by
  simp [bh] at h; omega
def nx (p : Int) (rest : List Int) : Nat := if p = 44 then 8 else 8 * ((rest.getD 1 0).toNat + 1)
def xe (p : Int) (rest : List Int) : T_ipsix_Ext := ⟨p, (rest.drop 2).take (nx p rest - 2)⟩
theorem nx_bd {p : Int} {rest : List Int} (hw : Wf 256 rest) : 8 ≤ nx p rest ∧ nx p rest ≤ 2048 := by
  unfold nx
  split
  · omega
  · have : (rest.getD 1 0).toNat < 256 := by
      by_cases h : 1 < rest.length
      · have := hw.get (List.getElem?_eq_getElem h)
        simp [List.getD, List.getElem?_eq_getElem h]; omega
      · simp [List.getD, List.getElem?_eq_none (Nat.not_lt.1 h)]
    omega
theorem xe_we {p : Int} {rest : List Int} (hp : 0 ≤ p ∧ p < 256) (hw : Wf 256 rest) : WE (xe p rest) ∧ (xe p rest).f_Data.length ≤ 2046 := by
  have := (nx_bd (p := p) hw).2
  refine ⟨⟨hp, (hw.drop _).take _, ?_⟩, ?_⟩ <;> simp [xe] <;> omega
theorem one_ok {exts : List T_ipsix_Ext} {p : Int} {b : List Int} {a : Int} (hp : 0 ≤ p ∧ p < 256) (hw : Wf 256 b) (hl : b.length < 1000000) (h0 : 0 ≤ a) (h1 : a ≤ b.length) {rest : List Int} (hr : b.drop a.toNat = rest)
    (c1 : exts.length < 16) (c2 : p = 0 → exts.length = 0) (c3 : nx p rest ≤ rest.length) (c4 : p = 44 → rest.getD 1 0 = 0 ∧ rightE (xe p rest) = true) :
    F_ipsix_reader_one_I ⟨⟨exts, p⟩, b, a⟩ = some (0, ⟨⟨exts ++ [xe p rest], rest.getD 0 0⟩, b, a + nx p rest⟩) := by
  have hrw : Wf 256 rest := by rw [← hr]; exact hw.drop _
  have hrl : rest.length = b.length - a.toNat := by rw [← hr]; simp
  have hn := nx_bd (p := p) hrw
  have hxe := xe_we hp hrw
  have hcut : gcut b a (b.length : Int) = some rest := by
    rw [gcut_in h0 h1 (by omega), List.take_of_length_le (by simp), hr]
  have j4 : F_ipsix_reader_one_I_j4 ⟨⟨exts, p⟩, b, a⟩ rest (nx p rest) (xe p rest).f_Data exts false = some (0, ⟨⟨exts ++ [xe p rest], rest.getD 0 0⟩, b, a + nx p rest⟩) := by
    unfold F_ipsix_reader_one_I_j4
    have hg0 : gidx rest 0 = some (rest.getD 0 0) := gidxN (i := 0) (by omega)
    rw [if_neg (by decide), hg0, Option.bind_some, if_pos (limk (by simp; omega))]
    dsimp only
    rw [wi64 (by omega) (by omega)]
    rfl
  have hg1 : gidx rest 1 = some (rest.getD 1 0) := gidxN (i := 1) (by omega)
  have j2 : F_ipsix_reader_one_I_j2 ⟨⟨exts, p⟩, b, a⟩ rest exts (nx p rest) = some (0, ⟨⟨exts ++ [xe p rest], rest.getD 0 0⟩, b, a + nx p rest⟩) := by
    unfold F_ipsix_reader_one_I_j2
    have hcl : F_bytes_Clone (xe p rest).f_Data = some (xe p rest).f_Data := by
      unfold F_bytes_Clone
      rw [if_pos (limk (by have := hxe.2; simp; omega))]; rfl
    rw [if_neg (by simp; omega), gcut_in (by omega) (by omega) (by omega), Option.bind_some]
    have e : (rest.drop (2 : Int).toNat).take ((nx p rest : Int).toNat - (2 : Int).toNat) = (xe p rest).f_Data := rfl
    rw [e, hcl, Option.bind_some]
    unfold F_ipsix_reader_one_I_j3
    dsimp only
    by_cases h44 : p = 44
    · have := c4 h44
      rw [if_pos (by simpa using h44), hg1, Option.bind_some, this.1, if_neg (by decide)]
      have hre : F_ipsix_Ext_right ⟨p, (xe p rest).f_Data⟩ = some true := by
        have := right_eq hxe.1
        rw [c4 h44 |>.2] at this
        exact this
      rw [hre, Option.bind_some]
      exact j4
    · rw [if_neg (by simpa using h44)]
      exact j4
  have j1 : F_ipsix_reader_one_I_j1 ⟨⟨exts, p⟩, b, a⟩ exts false = some (0, ⟨⟨exts ++ [xe p rest], rest.getD 0 0⟩, b, a + nx p rest⟩) := by
    unfold F_ipsix_reader_one_I_j1
    dsimp only
    rw [if_neg (by decide), hcut, Option.bind_some, if_neg (by simp; omega), hg1, Option.bind_some]
    by_cases h44 : p = 44
    · have e : nx p rest = 8 := by unfold nx; rw [if_pos h44]
      rw [if_pos (by simpa using h44)]
      rw [e] at j2
      rw [e]
      exact j2
    · have hr1 : 0 ≤ rest.getD 1 0 ∧ rest.getD 1 0 < 256 := by
        have h1l : 1 < rest.length := by omega
        have := hrw.get (List.getElem?_eq_getElem h1l)
        simp [List.getD, List.getElem?_eq_getElem h1l]; omega
      have e : IntKind.i64.wrap (8 * IntKind.i64.wrap (IntKind.i64.wrap (rest.getD 1 0) + 1)) = (nx p rest : Int) := by
        rw [wi64 (n := rest.getD 1 0) (by omega) (by omega), wi64 (n := rest.getD 1 0 + 1) (by omega) (by omega), wi64 (by omega) (by omega)]
        unfold nx
        rw [if_neg h44]; omega
      rw [if_neg (by simpa using h44), e]
      exact j2
  unfold F_ipsix_reader_one_I
  dsimp only
  rw [if_neg (by simp; omega)]
  by_cases hz : p = 0
  · rw [if_pos (by simpa using hz), show decide (0 < (exts.length : Int)) = false by simp; exact List.eq_nil_of_length_eq_zero (c2 hz)]
    exact j1
  · rw [if_neg (by simpa using hz)]
    exact j1
/-- Otherwise it is refused. -/
theorem one_no {exts : List T_ipsix_Ext} {p : Int} {b : List Int} {a : Int} (hp : 0 ≤ p ∧ p < 256) (hw : Wf 256 b) (hl : b.length < 1000000) (h0 : 0 ≤ a) (h1 : a ≤ b.length) {rest : List Int} (hr : b.drop a.toNat = rest) (h16 : exts.length ≤ 16)
    (hno : ¬ (exts.length < 16 ∧ (p = 0 → exts.length = 0) ∧ nx p rest ≤ rest.length ∧ (p = 44 → rest.getD 1 0 = 0 ∧ rightE (xe p rest) = true))) :
    ∃ (e : Int) (r : T_ipsix_reader), e ≠ 0 ∧ F_ipsix_reader_one_I ⟨⟨exts, p⟩, b, a⟩ = some (e, r) := by
  have hrw : Wf 256 rest := by rw [← hr]; exact hw.drop _
  have hn := nx_bd (p := p) hrw
  have hxe := xe_we hp hrw
  have hcut : gcut b a (b.length : Int) = some rest := by
    rw [gcut_in h0 h1 (by omega), List.take_of_length_le (by simp), hr]
  have bad1 : F_ipsix_reader_one_I_j1 ⟨⟨exts, p⟩, b, a⟩ exts true = some (60, ⟨⟨exts, p⟩, b, a⟩) := by
    unfold F_ipsix_reader_one_I_j1
    rw [if_pos rfl]
  unfold F_ipsix_reader_one_I
  dsimp only
  by_cases c1 : exts.length = 16
  · rw [if_pos (by simp; omega), bad1]; exact ⟨_, _, by decide, rfl⟩
  · rw [if_neg (by simp; omega)]
    by_cases c2 : p = 0 ∧ 0 < exts.length
    · rw [if_pos (by simpa using c2.1), show decide (0 < (exts.length : Int)) = true from decide_eq_true (by have := c2.2; omega), bad1]; exact ⟨_, _, by decide, rfl⟩
    · have hj : ∃ (e : Int) (r : T_ipsix_reader), e ≠ 0 ∧ F_ipsix_reader_one_I_j1 ⟨⟨exts, p⟩, b, a⟩ exts false = some (e, r) := by
        unfold F_ipsix_reader_one_I_j1
        dsimp only
        rw [if_neg (by decide), hcut, Option.bind_some]
        by_cases h2 : rest.length < 2
        · rw [if_pos (by simp; omega)]; exact ⟨_, _, by decide, rfl⟩
        · have hg1 : gidx rest 1 = some (rest.getD 1 0) := gidxN (i := 1) (by omega)
          rw [if_neg (by simp; omega), hg1, Option.bind_some]
          have hj2 : ∃ (e : Int) (r : T_ipsix_reader), e ≠ 0 ∧ F_ipsix_reader_one_I_j2 ⟨⟨exts, p⟩, b, a⟩ rest exts (nx p rest) = some (e, r) := by
            unfold F_ipsix_reader_one_I_j2
            by_cases h3 : rest.length < nx p rest
            · rw [if_pos (by simp; omega)]; exact ⟨_, _, by decide, rfl⟩
            · have h44 : p = 44 := by
                rcases Classical.em (p = 44) with h | h
                · exact h
                · exact (hno ⟨by omega, fun hz => by
                    rcases Nat.eq_zero_or_pos exts.length with h' | h'
                    · exact h'
                    · exact (c2 ⟨hz, h'⟩).elim, by omega, fun hh => (h hh).elim⟩).elim
              have hcl : F_bytes_Clone (xe p rest).f_Data = some (xe p rest).f_Data := by
                unfold F_bytes_Clone
                rw [if_pos (limk (by have := hxe.2; simp; omega))]; rfl
              have e : (rest.drop (2 : Int).toNat).take ((nx p rest : Int).toNat - (2 : Int).toNat) = (xe p rest).f_Data := rfl
              rw [if_neg (by simp; omega), gcut_in (by omega) (by omega) (by omega), Option.bind_some, e, hcl, Option.bind_some]
              unfold F_ipsix_reader_one_I_j3 F_ipsix_reader_one_I_j4
              dsimp only
              rw [if_pos (by simpa using h44), hg1, Option.bind_some]
              by_cases hz : rest.getD 1 0 = 0
              · have hre : F_ipsix_Ext_right ⟨p, (xe p rest).f_Data⟩ = some (rightE (xe p rest)) := right_eq hxe.1
                have hrf : rightE (xe p rest) = false := by
                  cases hh : rightE (xe p rest) with
                  | false => rfl
                  | true => exact (hno ⟨by omega, (fun h => by omega), by omega, fun _ => ⟨hz, hh⟩⟩).elim
                rw [if_neg (by simpa using hz), hre, Option.bind_some, hrf, if_pos (by decide)]; exact ⟨_, _, by decide, rfl⟩
              · rw [if_pos (by simpa using hz), if_pos rfl]; exact ⟨_, _, by decide, rfl⟩
          by_cases h44 : p = 44
          · have e : nx p rest = 8 := by unfold nx; rw [if_pos h44]
            rw [if_pos (by simpa using h44)]
            rw [e] at hj2
            exact hj2
          · have hr1 : 0 ≤ rest.getD 1 0 ∧ rest.getD 1 0 < 256 := by
              have h1l : 1 < rest.length := by omega
              have := hrw.get (List.getElem?_eq_getElem h1l)
              simp [List.getD, List.getElem?_eq_getElem h1l]; omega
            have e : IntKind.i64.wrap (8 * IntKind.i64.wrap (IntKind.i64.wrap (rest.getD 1 0) + 1)) = (nx p rest : Int) := by
              rw [wi64 (n := rest.getD 1 0) (by omega) (by omega), wi64 (n := rest.getD 1 0 + 1) (by omega) (by omega), wi64 (by omega) (by omega)]
              unfold nx
              rw [if_neg h44]; omega
            rw [if_neg (by simpa using h44), e]
            exact hj2
      by_cases hz : p = 0
      · rw [if_pos (by simpa using hz), show decide (0 < (exts.length : Int)) = false from decide_eq_false (fun h => c2 ⟨hz, by omega⟩)]
        exact hj
      · rw [if_neg (by simpa using hz)]
        exact hj
/-- The error with which it is refused. -/
def er (n : Nat) (p : Int) (rest : List Int) : Int := if n = 16 ∨ (p = 0 ∧ 0 < n) then 60 else if rest.length < 2 then 10 else if rest.length < nx p rest then 10 else if p = 44 ∧ ¬ (rest.getD 1 0 = 0 ∧ rightE (xe p rest) = true) then 60 else 0
theorem one_er {exts : List T_ipsix_Ext} {p : Int} {b : List Int} {a : Int} (hp : 0 ≤ p ∧ p < 256) (hw : Wf 256 b) (hl : b.length < 1000000) (h0 : 0 ≤ a) (h1 : a ≤ b.length) {rest : List Int} (hr : b.drop a.toNat = rest) (h16 : exts.length ≤ 16)
    (hno : er exts.length p rest ≠ 0) : ∃ (r : T_ipsix_reader), F_ipsix_reader_one_I ⟨⟨exts, p⟩, b, a⟩ = some (er exts.length p rest, r) := by
  have hrw : Wf 256 rest := by rw [← hr]; exact hw.drop _
  have hn := nx_bd (p := p) hrw
  have hxe := xe_we hp hrw
  have hcut : gcut b a (b.length : Int) = some rest := by
    rw [gcut_in h0 h1 (by omega), List.take_of_length_le (by simp), hr]
  have bad1 : F_ipsix_reader_one_I_j1 ⟨⟨exts, p⟩, b, a⟩ exts true = some (60, ⟨⟨exts, p⟩, b, a⟩) := by
    unfold F_ipsix_reader_one_I_j1
    rw [if_pos rfl]
  unfold F_ipsix_reader_one_I
  dsimp only
  by_cases c1 : exts.length = 16
  · have he : er exts.length p rest = 60 := by unfold er; rw [if_pos (.inl c1)]
    rw [if_pos (by simp; omega), bad1, he]; exact ⟨_, rfl⟩
  · rw [if_neg (by simp; omega)]
    by_cases c2 : p = 0 ∧ 0 < exts.length
    · have he : er exts.length p rest = 60 := by unfold er; rw [if_pos (.inr c2)]
      rw [if_pos (by simpa using c2.1), show decide (0 < (exts.length : Int)) = true from decide_eq_true (by have := c2.2; omega), bad1, he]; exact ⟨_, rfl⟩
    · have c12 : ¬ (exts.length = 16 ∨ (p = 0 ∧ 0 < exts.length)) := fun h => h.elim c1 c2
      have hj : ∃ (r : T_ipsix_reader), F_ipsix_reader_one_I_j1 ⟨⟨exts, p⟩, b, a⟩ exts false = some (er exts.length p rest, r) := by
        unfold F_ipsix_reader_one_I_j1
        dsimp only
        rw [if_neg (by decide), hcut, Option.bind_some]
        by_cases h2 : rest.length < 2
        · have he : er exts.length p rest = 10 := by unfold er; rw [if_neg c12, if_pos h2]
          rw [if_pos (by simp; omega), he]; exact ⟨_, rfl⟩
        · have hg1 : gidx rest 1 = some (rest.getD 1 0) := gidxN (i := 1) (by omega)
          rw [if_neg (by simp; omega), hg1, Option.bind_some]
          have hj2 : ∃ (r : T_ipsix_reader), F_ipsix_reader_one_I_j2 ⟨⟨exts, p⟩, b, a⟩ rest exts (nx p rest) = some (er exts.length p rest, r) := by
            unfold F_ipsix_reader_one_I_j2
            by_cases h3 : rest.length < nx p rest
            · have he : er exts.length p rest = 10 := by unfold er; rw [if_neg c12, if_neg h2, if_pos h3]
              rw [if_pos (by simp; omega), he]; exact ⟨_, rfl⟩
            · have hbad : p = 44 ∧ ¬ (rest.getD 1 0 = 0 ∧ rightE (xe p rest) = true) := by
                rcases Classical.em (p = 44 ∧ ¬ (rest.getD 1 0 = 0 ∧ rightE (xe p rest) = true)) with h | h
                · exact h
                · exact (hno (by unfold er; rw [if_neg c12, if_neg h2, if_neg h3, if_neg h])).elim
              have he : er exts.length p rest = 60 := by unfold er; rw [if_neg c12, if_neg h2, if_neg h3, if_pos hbad]
              rw [he]
              have h44 := hbad.1
              have hcl : F_bytes_Clone (xe p rest).f_Data = some (xe p rest).f_Data := by
                unfold F_bytes_Clone
                rw [if_pos (limk (by have := hxe.2; simp; omega))]; rfl
              have e : (rest.drop (2 : Int).toNat).take ((nx p rest : Int).toNat - (2 : Int).toNat) = (xe p rest).f_Data := rfl
              rw [if_neg (by simp; omega), gcut_in (by omega) (by omega) (by omega), Option.bind_some, e, hcl, Option.bind_some]
              unfold F_ipsix_reader_one_I_j3 F_ipsix_reader_one_I_j4
              dsimp only
              rw [if_pos (by simpa using h44), hg1, Option.bind_some]
              by_cases hz : rest.getD 1 0 = 0
              · have hre : F_ipsix_Ext_right ⟨p, (xe p rest).f_Data⟩ = some (rightE (xe p rest)) := right_eq hxe.1
                have hrf : rightE (xe p rest) = false := by
                  cases hh : rightE (xe p rest) with
                  | false => rfl
                  | true => exact (hbad.2 ⟨hz, hh⟩).elim
                rw [if_neg (by simpa using hz), hre, Option.bind_some, hrf, if_pos (by decide)]; exact ⟨_, rfl⟩
              · rw [if_pos (by simpa using hz), if_pos rfl]; exact ⟨_, rfl⟩
          by_cases h44 : p = 44
          · have e : nx p rest = 8 := by unfold nx; rw [if_pos h44]
            rw [if_pos (by simpa using h44)]
            rw [e] at hj2
            exact hj2
          · have hr1 : 0 ≤ rest.getD 1 0 ∧ rest.getD 1 0 < 256 := by
              have h1l : 1 < rest.length := by omega
              have := hrw.get (List.getElem?_eq_getElem h1l)
              simp [List.getD, List.getElem?_eq_getElem h1l]; omega
            have e : IntKind.i64.wrap (8 * IntKind.i64.wrap (IntKind.i64.wrap (rest.getD 1 0) + 1)) = (nx p rest : Int) := by
              rw [wi64 (n := rest.getD 1 0) (by omega) (by omega), wi64 (n := rest.getD 1 0 + 1) (by omega) (by omega), wi64 (by omega) (by omega)]
              unfold nx
              rw [if_neg h44]; omega
            rw [if_neg (by simpa using h44), e]
            exact hj2
      by_cases hz : p = 0
      · rw [if_pos (by simpa using hz), show decide (0 < (exts.length : Int)) = false from decide_eq_false (fun h => c2 ⟨hz, by omega⟩)]
        exact hj
      · rw [if_neg (by simpa using hz)]
        exact hj
theorem last_get {acc : List T_ipsix_Ext} {x : T_ipsix_Ext} (h : acc.length ≤ 16) : gidx (acc ++ [x]) (IntKind.i64.wrap (((acc ++ [x]).length : Int) - 1)) = some x := by
  have e : ((acc ++ [x]).length : Int) - 1 = (acc.length : Int) := by simp
  rw [e, wi64 (by omega) (by omega)]
  exact gidx_nat (by simp)
/-- The cells of a header at the head of a row. -/
theorem rest_split {p : Int} {rest : List Int} (hw : Wf 256 rest) (h : nx p rest ≤ rest.length) : rest = [rest.getD 0 0, rest.getD 1 0] ++ (xe p rest).f_Data ++ rest.drop (nx p rest) := by
  have hn := (nx_bd (p := p) hw).1
  match rest, h, hn with
  | u :: v :: r, h, hn =>
    have e : (u :: v :: r).drop (nx p (u :: v :: r)) = r.drop (nx p (u :: v :: r) - 2) := by
      obtain ⟨m, hm⟩ : ∃ m, nx p (u :: v :: r) = m + 2 := ⟨nx p (u :: v :: r) - 2, by omega⟩
      rw [hm]; rfl
    rw [e]
    show u :: v :: r = u :: v :: (r.take (nx p (u :: v :: r) - 2) ++ r.drop (nx p (u :: v :: r) - 2))
    rw [List.take_append_drop]
  | [], h, hn => simp at h; omega
  | [u], h, hn => simp at h; omega
theorem pz {b : List Int} (hw : Wf 256 b) (hl : b.length < 1000000) : ∀ (k : Nat) (acc : List T_ipsix_Ext) (p a : Int), acc.length ≤ 16 → 17 ≤ k + acc.length → 0 ≤ p ∧ p < 256 → 0 ≤ a → a ≤ b.length →
    ∃ res, F_ipsix_ParseChain_L1 k acc p b a = some res ∧ ((∃ e, e ≠ 0 ∧ res = (⟨[], 0⟩, 0, e)) ∨
      ∃ (ex : List T_ipsix_Ext) (p' a' : Int), res = (⟨acc ++ ex, p'⟩, a', 0) ∧ a ≤ a' ∧ a' ≤ b.length ∧ acc.length + ex.length ≤ 16 ∧ (∀ x ∈ ex, WE x ∧ x.f_Data.length ≤ 2046) ∧ ex.all rightE = true ∧ okD acc.length ex p' = true ∧ fk ex p' = p ∧ b.drop a.toNat = pc ex p' ++ b.drop a'.toNat)
  | 0, acc, p, a, h1, h2, h3, h4, h5 => by omega
  | k + 1, acc, p, a, h1, h2, h3, h4, h5 => by
    show ∃ res, F_ipsix_ParseChain_l1 (F_ipsix_ParseChain_L1 k) acc p b a = some res ∧ _
    unfold F_ipsix_ParseChain_l1
    rw [bh_eq, Option.bind_some]
    cases hb : bh p with
    | false =>
      rw [if_neg (by decide)]
      exact ⟨_, rfl, .inr ⟨[], p, a, by rw [List.append_nil], Int.le_refl _, h5, by simpa using h1, (fun x hx => by cases hx), rfl, by simp [okD, hb], rfl, by simp [pc]⟩⟩
    | true =>
      rw [if_pos rfl]
      generalize hr : b.drop a.toNat = rest
      have hrw : Wf 256 rest := by rw [← hr]; exact hw.drop _
      have hrl : rest.length = b.length - a.toNat := by rw [← hr]; simp
      by_cases hc : acc.length < 16 ∧ (p = 0 → acc.length = 0) ∧ nx p rest ≤ rest.length ∧ (p = 44 → rest.getD 1 0 = 0 ∧ rightE (xe p rest) = true)
      · obtain ⟨c1, c2, c3, c4⟩ := hc
        have hxe := xe_we h3 hrw
        have hnb := nx_bd (p := p) hrw
        have hdl : (xe p rest).f_Data.length = nx p rest - 2 := by simp [xe]; omega
        have hr0 : 0 ≤ rest.getD 0 0 ∧ rest.getD 0 0 < 256 := by
          have h1l : 0 < rest.length := by omega
          have := hrw.get (List.getElem?_eq_getElem h1l)
          simp [List.getD, List.getElem?_eq_getElem h1l]; omega
        have hr1 : 0 ≤ rest.getD 1 0 ∧ rest.getD 1 0 < 256 := by
          have h1l : 1 < rest.length := by omega
          have := hrw.get (List.getElem?_eq_getElem h1l)
          simp [List.getD, List.getElem?_eq_getElem h1l]; omega
        have hlb : lb (xe p rest) % 256 = rest.getD 1 0 := by
          unfold lb
          rw [hdl]
          by_cases h44 : p = 44
          · have e : nx p rest = 8 := by unfold nx; rw [if_pos h44]
            rw [e, (c4 h44).1]; rfl
          · have e : nx p rest = 8 * ((rest.getD 1 0).toNat + 1) := by unfold nx; rw [if_neg h44]
            rw [e]; omega
        have hright : rightE (xe p rest) = true := by
          by_cases h44 : p = 44
          · exact (c4 h44).2
          · have e : nx p rest = 8 * ((rest.getD 1 0).toNat + 1) := by unfold nx; rw [if_neg h44]
            unfold rightE
            have hbk : bh (xe p rest).f_Kind = true := hb
            have e1 : (8 * ((rest.getD 1 0).toNat + 1) - 2) % 8 = 6 := by omega
            have e3 : 8 * ((rest.getD 1 0).toNat + 1) - 2 ≤ 2046 := by omega
            rw [if_neg (by exact h44), hdl, e, hbk, decide_eq_true e1, decide_eq_true e3]
            rfl
        have hspl := rest_split (p := p) hrw c3
        have hadd : b.drop (a + nx p rest).toNat = rest.drop (nx p rest) := by
          rw [← hr, List.drop_drop]; congr 1; omega
        have hkz : ((xe p rest).f_Kind == 0 && decide (0 < acc.length)) = false := by
          by_cases hz : p = 0
          · simp [c2 hz]
          · have : ((xe p rest).f_Kind == 0) = false := by simpa [xe] using hz
            rw [this]; rfl
        rw [one_ok h3 hw hl h4 h5 hr c1 c2 c3 c4, Option.bind_some, if_neg (by simp)]
        dsimp only
        rw [last_get h1, Option.bind_some, later_eq hxe.1, Option.bind_some]
        cases hlt : laterE (xe p rest) with
        | true =>
          rw [if_pos rfl]
          refine ⟨_, rfl, .inr ⟨[xe p rest], rest.getD 0 0, a + nx p rest, rfl, by omega, by omega, by simp; omega, ?_, by simp [hright], ?_, rfl, ?_⟩⟩
          · intro x hx; simp at hx; subst hx; exact hxe
          · simp only [okD, hkz, hlt, Bool.or_true, Bool.not_false, Bool.and_self]
          · rw [hadd]
            simp only [pc, fk, hlb, List.append_nil]
            exact hspl
        | false =>
          rw [if_neg (by decide)]
          obtain ⟨res, hres, hcase⟩ := pz hw hl k (acc ++ [xe p rest]) (rest.getD 0 0) (a + nx p rest) (by simp; omega) (by simp; omega) hr0 (by omega) (by omega)
          refine ⟨res, hres, ?_⟩
          rcases hcase with he | ⟨ex, p', a', q1, q2, q3, q4, q5, q6, q7, q8, q9⟩
          · exact .inl he
          · refine .inr ⟨xe p rest :: ex, p', a', by rw [q1]; simp, by omega, q3, by simp at q4 ⊢; omega, ?_, by simp [hright, q6], ?_, rfl, ?_⟩
            · intro x hx
              rcases List.mem_cons.1 hx with rfl | hx
              · exact hxe
              · exact q5 x hx
            · rw [List.length_append, List.length_singleton] at q7
              cases ex with
              | nil => simp only [okD] at q7 ⊢; simp only [hkz, q7, Bool.not_false, Bool.true_or, Bool.and_self]
              | cons y r => simp only [okD]; simp only [hkz, hlt, q7, Bool.not_false, Bool.and_self]
            · simp only [pc, q8, hlb]
              rw [List.append_assoc, ← q9, hadd]
              exact hspl
      · obtain ⟨e, r, he, hone⟩ := one_no h3 hw hl h4 h5 hr h1 hc
        rw [hone, Option.bind_some, if_pos (by simpa using he)]
        exact ⟨_, rfl, .inl ⟨e, he, rfl⟩⟩

theorem dropl {a b c : List Int} : (a ++ b ++ c).drop a.length = b ++ c := by rw [List.append_assoc, List.drop_left]
/-- What was put is parsed as it was. -/
theorem pa {p : Int} (hp : 0 ≤ p ∧ p < 256) : ∀ (ex : List T_ipsix_Ext) (k : Nat) (acc : List T_ipsix_Ext) (pre suf : List Int), (∀ x ∈ ex, WE x ∧ rightE x = true) → okD acc.length ex p = true → acc.length + ex.length ≤ 16 → ex.length < k →
    Wf 256 (pre ++ pc ex p ++ suf) → (pre ++ pc ex p ++ suf).length < 1000000 →
    F_ipsix_ParseChain_L1 k acc (fk ex p) (pre ++ pc ex p ++ suf) (pre.length : Int) = some (⟨acc ++ ex, p⟩, ((pre.length + (pc ex p).length : Nat) : Int), 0)
  | ex, 0, acc, pre, suf, h1, h2, h3, h4, hw, hl => by omega
  | [], k + 1, acc, pre, suf, h1, h2, h3, h4, hw, hl => by
    show F_ipsix_ParseChain_l1 (F_ipsix_ParseChain_L1 k) acc (fk [] p) _ _ = _
    unfold F_ipsix_ParseChain_l1
    have hb : bh p = false := by simpa [okD] using h2
    rw [bh_eq, Option.bind_some]
    simp only [fk, hb]
    rw [if_neg (by decide), List.append_nil]
    rfl
  | x :: r, k + 1, acc, pre, suf, h1, h2, h3, h4, hw, hl => by
    obtain ⟨wx, hrx⟩ := h1 x (by simp)
    have hl3 : acc.length < 16 := by simp at h3; omega
    have hkz : ¬ (x.f_Kind = 0 ∧ 0 < acc.length) := by
      intro hh
      cases r <;> simp [okD, hh.1, hh.2] at h2
    have hlen : x.f_Data.length % 8 = 6 ∧ x.f_Data.length ≤ 2046 ∧ bh x.f_Kind = true ∧ (x.f_Kind = 44 → x.f_Data.length = 6) := by
      unfold rightE at hrx
      split at hrx
      · rename_i h44
        simp at hrx
        refine ⟨by omega, by omega, by rw [h44]; rfl, fun _ => hrx.1⟩
      · rename_i h44
        simp at hrx
        exact ⟨hrx.1.2, hrx.2, hrx.1.1, fun h => (h44 h).elim⟩
    have hlb : 0 ≤ lb x ∧ lb x < 256 := by unfold lb; omega
    generalize hrest : (pre ++ pc (x :: r) p ++ suf).drop pre.length = rest
    have hre : rest = [fk r p, lb x % 256] ++ x.f_Data ++ (pc r p ++ suf) := by
      rw [← hrest, dropl]; simp [pc]
    have g1 : rest.getD 1 0 = lb x % 256 := by rw [hre]; rfl
    have g0 : rest.getD 0 0 = fk r p := by rw [hre]; rfl
    have hnx : nx x.f_Kind rest = x.f_Data.length + 2 := by
      unfold nx
      rw [g1]
      split
      · rename_i h44; have := hlen.2.2.2 h44; omega
      · unfold lb at hlb ⊢; omega
    have hxe : xe x.f_Kind rest = x := by
      unfold xe
      rw [hnx, hre]
      have : (([fk r p, lb x % 256] ++ x.f_Data ++ (pc r p ++ suf)).drop 2).take (x.f_Data.length + 2 - 2) = x.f_Data := by
        show (x.f_Data ++ (pc r p ++ suf)).take (x.f_Data.length + 2 - 2) = _
        rw [List.take_append_of_le_length (by omega), List.take_of_length_le (by omega)]
      rw [this]
    have hrl : nx x.f_Kind rest ≤ rest.length := by rw [hnx, hre]; simp only [List.length_append, List.length_cons, List.length_nil]; omega
    have hone := one_ok (exts := acc) (p := x.f_Kind) (b := pre ++ pc (x :: r) p ++ suf) (a := (pre.length : Int)) wx.k hw hl (by omega) (by simp; omega) (rest := rest) (by simpa using hrest) hl3
      (fun hz => by
        rcases Nat.eq_zero_or_pos acc.length with h | h
        · exact h
        · exact (hkz ⟨hz, h⟩).elim) hrl (fun h44 => ⟨by rw [g1]; have := hlen.2.2.2 h44; unfold lb; omega, by rw [hxe]; exact hrx⟩)
    show F_ipsix_ParseChain_l1 (F_ipsix_ParseChain_L1 k) acc (fk (x :: r) p) _ _ = _
    unfold F_ipsix_ParseChain_l1
    rw [bh_eq, Option.bind_some]
    have hbx : bh (fk (x :: r) p) = true := hlen.2.2.1
    rw [hbx, if_pos rfl]
    have hone' : F_ipsix_reader_one_I ⟨⟨acc, fk (x :: r) p⟩, pre ++ pc (x :: r) p ++ suf, (pre.length : Int)⟩ = _ := hone
    rw [hone', Option.bind_some, if_neg (by simp)]
    dsimp only
    rw [hxe, last_get (by omega), Option.bind_some, later_eq wx, Option.bind_some, g0, hnx]
    have hat : (pre.length : Int) + ((x.f_Data.length + 2 : Nat) : Int) = (((pre ++ ([fk r p, lb x % 256] ++ x.f_Data)).length : Nat) : Int) := by simp; omega
    have hbe : pre ++ pc (x :: r) p ++ suf = (pre ++ ([fk r p, lb x % 256] ++ x.f_Data)) ++ pc r p ++ suf := by simp [pc]
    cases hlt : laterE x with
    | true =>
      have hr0 : r = [] := by
        cases r with
        | nil => rfl
        | cons y r => simp [okD, hlt] at h2
      subst hr0
      rw [if_pos rfl, hat]
      simp [pc, F_ipsix_ParseChain_j1, F_ipsix_ParseChain_j2, fk]
    | false =>
      rw [if_neg (by decide), hat, hbe]
      rw [hbe] at hw hl
      rw [pa hp r k (acc ++ [x]) (pre ++ ([fk r p, lb x % 256] ++ x.f_Data)) suf (fun y hy => h1 y (by simp [hy])) ?_ (by simp at h3 ⊢; omega) (by simp at h4; omega) hw hl]
      · simp [pc]; omega
      · rw [List.length_append, List.length_singleton]
        cases r with
        | nil => simp [okD, hlt] at h2 ⊢; exact h2.2
        | cons y r => simp [okD, hlt] at h2; exact h2.2
theorem eqf_L {s : List T_ipsix_Ext} (hl : s.length < 1000000) : ∀ (k i : Nat), i ≤ s.length → s.length < k + i → F_slices_EqualFunc_ipsix_Ext_ipsix_Ext_ipsix_Ext_ipsix_Ext_fipsix_Same_1_L1 s s k (i : Int) = some true
  | 0, i, h1, h2 => by omega
  | k + 1, i, h1, h2 => by
    show F_slices_EqualFunc_ipsix_Ext_ipsix_Ext_ipsix_Ext_ipsix_Ext_fipsix_Same_1_l1 (F_slices_EqualFunc_ipsix_Ext_ipsix_Ext_ipsix_Ext_ipsix_Ext_fipsix_Same_1_L1 s s k) s s _ = _
    unfold F_slices_EqualFunc_ipsix_Ext_ipsix_Ext_ipsix_Ext_ipsix_Ext_fipsix_Same_1_l1 F_ipsix_Same_1 F_ipsix_Same_1_j1 F_bytes_Equal
    by_cases h : i < s.length
    · have e3 : IntKind.i64.wrap ((i : Int) + 1) = ((i + 1 : Nat) : Int) := by rw [wi64 (by omega) (by omega)]; omega
      have hg : s[i]? = some s[i] := List.getElem?_eq_getElem h
      rw [if_pos (by simpa using h), gidx_nat hg, Option.bind_some, Option.bind_some, if_pos (by simp), Option.bind_some, Option.bind_some, if_neg (by simp), e3]
      exact eqf_L hl k (i + 1) (by omega) (by omega)
    · rw [if_neg (by simpa using h)]
theorem csame {c : T_ipsix_Chain} (hl : c.f_Exts.length < 1000000) : F_ipsix_Same c c = some true := by
  unfold F_ipsix_Same F_slices_EqualFunc_ipsix_Ext_ipsix_Ext_ipsix_Ext_ipsix_Ext_fipsix_Same_1 F_ipsix_Same_j1
  have := eqf_L hl fuel0 0 (by omega) (by unfold fuel0; omega)
  rw [if_pos (by simp), if_neg (by simp)]
  have h' : F_slices_EqualFunc_ipsix_Ext_ipsix_Ext_ipsix_Ext_ipsix_Ext_fipsix_Same_1_L1 c.f_Exts c.f_Exts fuel0 0 = some true := this
  rw [h', Option.bind_some]
theorem fewc_L {c : T_ipsix_Chain} : ∀ (k i : Nat), i ≤ c.f_Exts.length → i ≤ 21 → 21 < k + i → (∀ (j : Nat) (a : T_ipsix_Ext), j < i → c.f_Exts[j]? = some a → a.f_Data.length ≤ 2060) →
    ∃ t, F_law06_few_L1 c k (i : Int) = some t ∧ (t = true → c.f_Exts.length ≤ 20 ∧ ∀ a ∈ c.f_Exts, a.f_Data.length ≤ 2060)
  | 0, i, h1, h2, hm, h3 => by omega
  | k + 1, i, h1, h2, hm, h3 => by
    have fin : (c.f_Exts.length ≤ 20 → c.f_Exts.length ≤ i) → ∃ t, (some (decide ((c.f_Exts.length : Int) ≤ 20)) : Option Bool) = some t ∧ (t = true → c.f_Exts.length ≤ 20 ∧ ∀ a ∈ c.f_Exts, a.f_Data.length ≤ 2060) := fun hi => by
      refine ⟨_, rfl, fun ht => ?_⟩
      have h40 : c.f_Exts.length ≤ 20 := by simp at ht; omega
      refine ⟨h40, fun a ha => ?_⟩
      obtain ⟨j, hj, he⟩ := List.getElem_of_mem ha
      exact h3 j a (by have := hi h40; omega) (by rw [List.getElem?_eq_getElem hj, he])
    show ∃ t, F_law06_few_l1 (F_law06_few_L1 c k) c _ = some t ∧ _
    unfold F_law06_few_l1 F_law06_few_j1
    by_cases h : i < c.f_Exts.length
    · rw [if_pos (by simpa using h)]
      by_cases hh : i < 21
      · have hg : c.f_Exts[i]? = some c.f_Exts[i] := List.getElem?_eq_getElem h
        rw [if_pos (by simp; omega), gidx_nat hg, Option.bind_some]
        by_cases h6 : 2060 < c.f_Exts[i].f_Data.length
        · rw [if_pos (by simp; omega)]; exact ⟨false, rfl, fun h => by cases h⟩
        · have e3 : IntKind.i64.wrap ((i : Int) + 1) = ((i + 1 : Nat) : Int) := by rw [wi64 (by omega) (by omega)]; omega
          rw [if_neg (by simp; omega), e3]
          refine fewc_L k (i + 1) (by omega) (by omega) (by omega) (fun j a hj ha => ?_)
          by_cases hji : j = i
          · subst hji; rw [hg] at ha; cases ha; omega
          · exact h3 j a (by omega) ha
      · rw [if_neg (by simp; omega)]; exact fin (by omega)
    · rw [if_neg (by simpa using h), if_neg (by decide)]; exact fin (by omega)

theorem parse_back {c : T_ipsix_Chain} (hw : ∀ x ∈ c.f_Exts, WE x) (hp : 0 ≤ c.f_Proto ∧ c.f_Proto < 256) (hok : okC c = true) {suf : List Int} (hs : Wf 256 suf) (hl : suf.length < 100000) :
    F_ipsix_ParseChain (fk c.f_Exts c.f_Proto) (pc c.f_Exts c.f_Proto ++ suf) = some (c, ((pc c.f_Exts c.f_Proto).length : Int), 0) ∧ (pc c.f_Exts c.f_Proto).length ≤ 40000 ∧ Wf 256 (pc c.f_Exts c.f_Proto) := by
  unfold okC at hok
  simp only [Bool.and_eq_true, decide_eq_true_eq] at hok
  obtain ⟨h16, hall, hokD⟩ := hok
  have hr : ∀ x ∈ c.f_Exts, WE x ∧ rightE x = true := fun x hx => ⟨hw x hx, List.all_eq_true.1 hall x hx⟩
  have hlen : ∀ x ∈ c.f_Exts, x.f_Data.length ≤ 2046 := fun x hx => by
    have := (hr x hx).2
    unfold rightE at this
    split at this
    · simp at this; omega
    · simp at this; exact this.2
  have hpl := pcl (p := c.f_Proto) hlen
  have hpl2 : (pc c.f_Exts c.f_Proto).length ≤ 40000 := by
    have : c.f_Exts.length * (2046 + 2) ≤ 16 * (2046 + 2) := Nat.mul_le_mul_right _ h16
    omega
  have hpw : ∀ l : List T_ipsix_Ext, (∀ x ∈ l, WE x) → Wf 256 (pc l c.f_Proto) := by
    intro l
    induction l with
    | nil => intro _; exact Wf.nil
    | cons x r ih =>
      intro hx
      have hfk : 0 ≤ fk r c.f_Proto ∧ fk r c.f_Proto < 256 := by
        cases r with
        | nil => exact hp
        | cons y r => exact (hx y (by simp)).k
      exact ((Wf.cons hfk (Wf.cons (by omega) Wf.nil)).app (hx x (by simp)).d).app (ih fun y hy => hx y (by simp [hy]))
  have hpcw := hpw _ hw
  refine ⟨?_, hpl2, hpcw⟩
  have := pa hp c.f_Exts fuel0 [] [] suf hr hokD (by simpa using h16) (by unfold fuel0; omega) (by simpa using hpcw.app hs) (by simp; omega)
  simp only [List.nil_append, List.length_nil, Nat.zero_add] at this
  exact this
theorem back2 {first : Int} (hf : 0 ≤ first ∧ first < 256) {b : List Int} (hw : Wf 256 b) (hl : b.length ≤ 3000) : F_law06_IpsixBack_j2 first b = some true := by
  unfold F_law06_IpsixBack_j2 F_ipsix_ParseChain
  obtain ⟨res, h1, h2⟩ := pz hw (by omega) fuel0 [] first 0 (by simp) (by unfold fuel0; simp) hf (by omega) (by omega)
  rw [h1, Option.bind_some]
  rcases h2 with ⟨e, he, rfl⟩ | ⟨ex, p', a', rfl, q2, q3, q4, q5, q6, q7, q8, q9⟩
  · rw [if_pos (by simpa using he), if_pos (by simp), if_pos (by simp), works_eq]; rfl
  · simp only [List.nil_append, List.length_nil, Nat.zero_add] at *
    have hok : okC ⟨ex, p'⟩ = true := by
      unfold okC
      simp only [Bool.and_eq_true, decide_eq_true_eq]
      exact ⟨q4, q6, q7⟩
    have hwe : ∀ x ∈ ex, WE x := fun x hx => (q5 x hx).1
    rw [if_neg (by simp), PutChain_eq (c := ⟨ex, p'⟩) hwe (by dsimp only; omega) (fun x hx => by have := (q5 x hx).2; omega), Option.bind_some, Right_eq (c := ⟨ex, p'⟩) hwe (by dsimp only; omega), Option.bind_some, hok, if_pos rfl, if_pos rfl]
    dsimp only
    have hbt : b = pc ex p' ++ b.drop a'.toNat := by simpa using q9
    have hpl : (pc ex p').length = a'.toNat := by
      have := congrArg List.length hbt
      simp at this
      omega
    have hcut : gcut b 0 a' = some (pc ex p') := by
      rw [gcut_in (by omega) q2 q3]
      have e : (b.drop (0 : Int).toNat).take (a'.toNat - (0 : Int).toNat) = pc ex p' := by
        show b.take (a'.toNat - 0) = _
        rw [hbt, List.take_append_of_le_length (by omega), List.take_of_length_le (by omega)]
      rw [e]
    rw [if_pos (by simp), if_pos (by simpa using q8), if_pos (by simpa using q3), hcut, Option.bind_some, sb_eq (by omega), Option.bind_some, if_pos rfl, works_eq]
    rfl
theorem back_eq {h : T_ipsix_Header} (w : WH h) {c : T_ipsix_Chain} (hk : ∀ x ∈ c.f_Exts, (0 ≤ x.f_Kind ∧ x.f_Kind < 256) ∧ Wf 256 x.f_Data) (hp : 0 ≤ c.f_Proto ∧ c.f_Proto < 256) {behind : List Int} (wb : Wf 256 behind)
    {first : Int} (hf : 0 ≤ first ∧ first < 256) {b : List Int} (hw : Wf 256 b) : F_law06_IpsixBack h c behind first b = some true := by
  unfold F_law06_IpsixBack F_law06_few
  obtain ⟨t, ht, hkk⟩ := fewc_L (c := c) fuel0 0 (by omega) (by omega) (by unfold fuel0; omega) (fun j a hj => by omega)
  have ht' : F_law06_few_L1 c fuel0 0 = some t := ht
  have triv : F_law06_IpsixBack_j1 h c behind first b true = some true := by
    unfold F_law06_IpsixBack_j1
    rw [if_pos rfl, works_eq]; rfl
  rw [ht', Option.bind_some]
  cases t with
  | false => rw [if_pos (by decide)]; exact triv
  | true =>
    obtain ⟨h20, h2060⟩ := hkk rfl
    rw [if_neg (by decide)]
    by_cases hb2 : 200 < behind.length
    · rw [if_pos (by simp; omega)]; exact triv
    · rw [if_neg (by simp; omega)]
      by_cases hb3 : 3000 < b.length
      · rw [decide_eq_true (by omega)]; exact triv
      · rw [decide_eq_false (by omega)]
        have hwe : ∀ x ∈ c.f_Exts, WE x := fun x hx => ⟨(hk x hx).1, (hk x hx).2, by have := h2060 x hx; omega⟩
        have hb2' := back2 hf hw (by omega : b.length ≤ 3000)
        unfold F_law06_IpsixBack_j1
        rw [if_neg (by decide), PutChain_eq hwe h20 (fun x hx => by have := h2060 x hx; omega), Option.bind_some]
        cases hok : okC c with
        | false => rw [if_neg (by simp)]; exact hb2'
        | true =>
          rw [if_pos rfl]
          obtain ⟨hpb, hsl, hsw⟩ := parse_back hwe hp hok wb (by omega)
          have hfk : 0 ≤ fk c.f_Exts c.f_Proto ∧ fk c.f_Exts c.f_Proto < 256 := by
            cases hc : c.f_Exts with
            | nil => exact hp
            | cons y r => exact (hwe y (by rw [hc]; simp)).k
          generalize pc c.f_Exts c.f_Proto = s at *
          generalize fk c.f_Exts c.f_Proto = kd at *
          dsimp only
          unfold F_kit_Own
          rw [if_pos (by decide), if_pos (limk (by omega)), Option.bind_some, if_pos (limk (by omega)), hpb, Option.bind_some, if_neg (by simp), if_neg (by simp)]
          dsimp only
          rw [csame (by omega), Option.bind_some]
          unfold F_law06_IpsixBack_j5
          rw [if_neg (by decide)]
          have hf0 := w.f.1
          have eL : IntKind.u16.wrap (gmin 65535 (IntKind.i64.wrap ((s.length : Int) + (behind.length : Int)))) = (s.length : Int) + behind.length := by
            rw [wi64 (by omega) (by omega)]
            unfold gmin
            rw [if_pos (by omega), wu16i (by omega) (by omega)]
          have eF : Int.tmod h.f_Flow 1048576 = h.f_Flow % 1048576 := tmod_nn hf0
          dsimp only
          rw [eL, eF]
          generalize hh' : (⟨h.f_Class, h.f_Flow % 1048576, (s.length : Int) + behind.length, kd, h.f_Hops, h.f_Src, h.f_Dst⟩ : T_ipsix_Header) = h'
          have w' : WH h' := by
            subst hh'
            exact ⟨w.c, ⟨by dsimp only; omega, by dsimp only; omega⟩, ⟨by dsimp only; omega, by dsimp only; omega⟩, hfk, w.o, w.s, w.d⟩
          have hF' : h'.f_Flow < 1048576 := by subst hh'; dsimp only; omega
          have hL' : h'.f_Length = (s.length : Int) + behind.length := by subst hh'; rfl
          have hN' : h'.f_Next = kd := by subst hh'; rfl
          have h40 := hb_len w'
          rw [hput_eq w', if_pos hF', Option.bind_some]
          dsimp only
          rw [if_pos (limk (by omega)), if_pos (limk (by simp; omega)), if_pos (limk (by simp; omega))]
          have hbk := hback w' hF' (s ++ behind ++ [1, 2, 3])
          have eass : hb h' ++ s ++ behind ++ [1, 2, 3] = hb h' ++ (s ++ behind ++ [1, 2, 3]) := by simp
          have hwf : Wf 256 (hb h' ++ (s ++ behind ++ [1, 2, 3])) := (hb_wf w').app ((hsw.app wb).app (Wf.cons (by decide) (Wf.cons (by decide) (Wf.cons (by decide) Wf.nil))))
          have hlen : (hb h' ++ (s ++ behind ++ [1, 2, 3])).length = 40 + s.length + behind.length + 3 := by simp; omega
          have d40 : (hb h' ++ (s ++ behind ++ [1, 2, 3])).drop 40 = s ++ behind ++ [1, 2, 3] := by
            rw [← h40, List.drop_left]
          have hbody : F_ipsix_Body (hb h' ++ s ++ behind ++ [1, 2, 3]) = some (h', c, behind, 0) := by
            rw [eass]
            unfold F_ipsix_Body
            rw [hparse_eq hwf (by omega), Option.bind_some, hbk.1, hbk.2, if_pos rfl, if_neg (by simp)]
            dsimp only
            rw [hL', wi64 (n := (s.length : Int) + behind.length) (by omega) (by omega), wi64 (n := 40 + _) (by omega) (by omega), if_neg (by simp; omega), gcut_in (by omega) (by omega) (by omega), Option.bind_some]
            have e1 : ((hb h' ++ (s ++ behind ++ [1, 2, 3])).drop (40 : Int).toNat).take ((40 + ((s.length : Int) + behind.length)).toNat - (40 : Int).toNat) = s ++ behind := by
              show ((hb h' ++ (s ++ behind ++ [1, 2, 3])).drop 40).take _ = _
              rw [d40, List.take_append_of_le_length (by simp; omega), List.take_of_length_le (by simp; omega)]
            rw [e1, hN', hpb, Option.bind_some]
            unfold F_ipsix_Body_j1 F_ipsix_Body_j2
            dsimp only
            rw [if_neg (by decide), hL', wi64 (n := (s.length : Int) + behind.length) (by omega) (by omega), wi64 (n := 40 + (s.length : Int)) (by omega) (by omega), wi64 (n := 40 + ((s.length : Int) + behind.length)) (by omega) (by omega), gcut_in (by omega) (by omega) (by omega), Option.bind_some]
            have e3 : ((hb h' ++ (s ++ behind ++ [1, 2, 3])).drop (40 + (s.length : Int)).toNat).take ((40 + ((s.length : Int) + behind.length)).toNat - (40 + (s.length : Int)).toNat) = behind := by
              rw [show (40 + (s.length : Int)).toNat = 40 + s.length by omega, ← List.drop_drop, d40, List.append_assoc, List.drop_left, List.take_append_of_le_length (by omega), List.take_of_length_le (by omega)]
            rw [e3]
            unfold F_bytes_Clone
            rw [if_pos (limk (by simp; omega)), Option.bind_some]
            rfl
          rw [hbody, Option.bind_some, if_neg (by simp), if_pos (by simp; omega), if_neg (by simp)]
          dsimp only
          rw [qH_refl, if_neg (by decide), csame (by omega), Option.bind_some, if_neg (by decide), sb_eq (by omega), Option.bind_some]
          unfold F_law06_IpsixBack_j6
          rw [if_neg (by decide)]
          exact hb2'

/-! ### The document's chains -/
def re (x : T_ipsix_Ext) : T_ref06_Ext := ⟨x.f_Kind, strOfNums x.f_Data⟩
def rc (c : T_ipsix_Chain) : T_ref06_Chain := ⟨c.f_Exts.map re, c.f_Proto⟩
theorem docs_L {c : T_ipsix_Chain} (hl : c.f_Exts.length ≤ 20) : ∀ (k i : Nat), i ≤ c.f_Exts.length → c.f_Exts.length < k + i → F_docs_Chain_L1 c k ((c.f_Exts.map re).take i) (i : Int) = some (rc c)
  | 0, i, h1, h2 => by omega
  | k + 1, i, h1, h2 => by
    show F_docs_Chain_l1 (F_docs_Chain_L1 c k) c _ _ = _
    unfold F_docs_Chain_l1
    by_cases h : i < c.f_Exts.length
    · have e3 : IntKind.i64.wrap ((i : Int) + 1) = ((i + 1 : Nat) : Int) := by rw [wi64 (by omega) (by omega)]; omega
      have hg : c.f_Exts[i]? = some c.f_Exts[i] := List.getElem?_eq_getElem h
      have ht : (c.f_Exts.map re).take i ++ [⟨c.f_Exts[i].f_Kind, strOfNums c.f_Exts[i].f_Data⟩] = (c.f_Exts.map re).take (i + 1) := by
        rw [List.take_add_one]; simp [h, re]
      rw [if_pos (by simpa using h), gidx_nat hg, Option.bind_some, Option.bind_some, if_pos (limk (by simp; omega)), ht, e3]
      exact docs_L hl k (i + 1) (by omega) (by omega)
    · rw [if_neg (by simpa using h), List.take_of_length_le (by simp; omega)]
      rfl
theorem docs_eq {c : T_ipsix_Chain} (hl : c.f_Exts.length ≤ 20) : F_docs_Chain c = some (rc c) := docs_L hl fuel0 0 (by omega) (by unfold fuel0; omega)
theorem rkind_eq (k : Int) : F_ref06_kind k = some (bh k) := by
  unfold F_ref06_kind F_ref06_kind_j1 bh
  by_cases h0 : k = 0
  · subst h0; rfl
  · rw [if_neg (by simpa using h0)]
    by_cases h1 : k = 43
    · subst h1; rfl
    · rw [if_neg (by simpa using h1)]
      by_cases h2 : k = 44
      · subst h2; rfl
      · rw [if_neg (by simpa using h2)]; simp [h0, h1, h2]
theorem gS {xs : List Int} (hw : Wf 256 xs) {i : Nat} (h : i < xs.length) : gidxS (strOfNums xs) (i : Int) = some (xs.getD i 0) := by
  have hsz : i < (strOfNums xs).size := by rw [str_size]; exact h
  have hx := hw.get (List.getElem?_eq_getElem h)
  unfold gidxS
  rw [if_pos (by omega), Int.toNat_natCast, getElem?_pos (strOfNums xs) i hsz]
  have e : (strOfNums xs)[i] = UInt8.ofNat (xs[i].toNat) := by
    show (strOfNums xs).data[i] = _
    simp [strOfNums]
  rw [e, Option.map_some, UInt8.toNat_ofNat']
  congr 1
  rw [Nat.mod_eq_of_lt (by omega)]
  simp [List.getD, List.getElem?_eq_getElem h]
  omega
theorem sn2 {x : T_ipsix_Ext} (h : 2 ≤ x.f_Data.length) : sn x = x.f_Data.getD 0 0 * 256 + x.f_Data.getD 1 0 := by
  unfold sn gt
  rw [if_neg (by decide), if_neg (by omega)]
  match hd : x.f_Data, h with
  | u :: v :: r, _ => simp [val, vl]
  | [], h => simp at h
  | [u], h => simp at h
theorem sn1 {x : T_ipsix_Ext} (h : x.f_Data.length < 2) : sn x = 0 := by
  unfold sn gt
  rw [if_neg (by decide), if_pos (by omega)]
theorem byte_bd {xs : List Int} (hw : Wf 256 xs) (i : Nat) : 0 ≤ xs.getD i 0 ∧ xs.getD i 0 < 256 := by
  by_cases h : i < xs.length
  · have := hw.get (List.getElem?_eq_getElem h)
    simpa [List.getD, List.getElem?_eq_getElem h] using this
  · simp [List.getD, List.getElem?_eq_none (Nat.not_lt.1 h)]
theorem rright_eq {x : T_ipsix_Ext} (w : WE x) : F_ref06_rightExt (re x) = some (rightE x) := by
  unfold F_ref06_rightExt F_ref06_rightExt_j1 F_ref06_rightExt_j2 rightE re
  dsimp only
  rw [str_size]
  by_cases h : x.f_Kind = 44
  · rw [if_pos (by simpa using h), if_pos h]
    by_cases h6 : x.f_Data.length = 6
    · have h1 : gidxS (strOfNums x.f_Data) 1 = some (x.f_Data.getD 1 0) := gS w.d (i := 1) (by omega)
      have hb := byte_bd w.d 1; have hb0 := byte_bd w.d 0
      rw [if_pos (by simp; omega), h1, Option.bind_some, sn2 (by omega)]
      generalize x.f_Data.getD 1 0 = v at *
      generalize x.f_Data.getD 0 0 = u at *
      rw [tdiv_nn hb.1, wu8i (by omega) (by omega), tmod_nn (by omega), decide_eq_true h6, Bool.true_and]
      congr 1
      rw [Bool.eq_iff_iff]
      simp only [beq_iff_eq, decide_eq_true_eq]
      omega
    · rw [if_neg (by simp; omega)]; simp [h6]
  · rw [if_neg (by simpa using h), if_neg h, rkind_eq, Option.bind_some]
    cases bh x.f_Kind with
    | false => simp
    | true =>
      rw [if_pos rfl]
      have e : Int.tmod (x.f_Data.length : Int) 8 = ((x.f_Data.length % 8 : Nat) : Int) := by rw [tmod_nn (by omega)]; omega
      rw [e]
      by_cases h8 : x.f_Data.length % 8 = 6
      · rw [if_pos (by simp; omega)]; simp [h8]; omega
      · rw [if_neg (by simp; omega)]; simp [h8]
theorem rlater_eq {x : T_ipsix_Ext} (w : WE x) : F_ref06_later (re x) = some (laterE x) := by
  unfold F_ref06_later F_ref06_later_j1 laterE re
  dsimp only
  rw [str_size]
  by_cases h : x.f_Kind = 44
  · rw [if_pos (by simpa using h)]
    by_cases h2 : 2 ≤ x.f_Data.length
    · have h0 : gidxS (strOfNums x.f_Data) 0 = some (x.f_Data.getD 0 0) := gS w.d (i := 0) (by omega)
      have h1 : gidxS (strOfNums x.f_Data) 1 = some (x.f_Data.getD 1 0) := gS w.d (i := 1) (by omega)
      have hb := byte_bd w.d 1; have hb0 := byte_bd w.d 0
      rw [if_pos (by simp; omega), h0, Option.bind_some, h1, sn2 h2]
      generalize x.f_Data.getD 1 0 = v at *
      generalize x.f_Data.getD 0 0 = u at *
      by_cases hu : 0 < u
      · rw [if_pos (by simpa using hu)]
        simp [h]; omega
      · rw [if_neg (by simpa using hu), Option.bind_some]
        congr 1
        rw [Bool.eq_iff_iff]
        simp [h]; omega
    · rw [if_neg (by simp; omega), sn1 (by omega)]; simp
  · rw [if_neg (by simpa using h)]; simp [h]
def rr (p : Int) : Bool → Nat → List T_ipsix_Ext → Bool
  | last, _, [] => last || !bh p
  | last, i, x :: r => rightE x && (!(x.f_Kind == 0 && decide (0 < i)) && (!last && rr p (laterE x) (i + 1) r))
theorem rr_eq (p : Int) : ∀ (l : List T_ipsix_Ext) (i : Nat), rr p false i l = (l.all rightE && okD i l p)
  | [], i => by simp [rr, okD]
  | [x], i => by
    simp only [rr, okD, List.all_cons, List.all_nil, Bool.not_false, Bool.true_and, Bool.and_true]
    cases bh p <;> cases laterE x <;> simp
  | x :: y :: r, i => by
    have ih := rr_eq p (y :: r) (i + 1)
    simp only [rr, okD, List.all_cons, Bool.not_false, Bool.true_and] at ih ⊢
    cases hl : laterE x with
    | true => simp
    | false => simp only [Bool.not_false, Bool.true_and, ih]; simp only [Bool.and_assoc]; cases rightE x <;> cases (x.f_Kind == 0 && decide (0 < i)) <;> simp
theorem rRight_L {c : T_ipsix_Chain} (hw : ∀ x ∈ c.f_Exts, WE x) (hl : c.f_Exts.length < 1000000) : ∀ (k i : Nat) (last : Bool), i ≤ c.f_Exts.length → c.f_Exts.length < k + i → F_ref06_Right_L1 (rc c) k last (i : Int) = some (rr c.f_Proto last i (c.f_Exts.drop i))
  | 0, i, last, h1, h2 => by omega
  | k + 1, i, last, h1, h2 => by
    show F_ref06_Right_l1 (F_ref06_Right_L1 (rc c) k) (rc c) last _ = _
    have hlen : (rc c).f_Exts.length = c.f_Exts.length := by simp [rc]
    unfold F_ref06_Right_l1
    rw [hlen]
    by_cases h : i < c.f_Exts.length
    · have e3 : IntKind.i64.wrap ((i : Int) + 1) = ((i + 1 : Nat) : Int) := by rw [wi64 (by omega) (by omega)]; omega
      have hg : (rc c).f_Exts[i]? = some (re c.f_Exts[i]) := by simp [rc, h]
      have wx := hw _ (List.getElem_mem h)
      rw [if_pos (by simpa using h), gidx_nat hg, Option.bind_some, rright_eq wx, Option.bind_some, List.drop_eq_getElem_cons h]
      have j1t : F_ref06_Right_j1 (i : Int) (F_ref06_Right_L1 (rc c) k) (re c.f_Exts[i]) true = some false := by unfold F_ref06_Right_j1; rw [if_pos rfl]
      simp only [rr]
      cases hr : rightE c.f_Exts[i] with
      | false => rw [if_pos (by decide), j1t]; rfl
      | true =>
        rw [if_neg (by decide), Bool.true_and]
        have hlst : F_ref06_Right_j1 (i : Int) (F_ref06_Right_L1 (rc c) k) (re c.f_Exts[i]) last = some (!last && rr c.f_Proto (laterE c.f_Exts[i]) (i + 1) (c.f_Exts.drop (i + 1))) := by
          cases last with
          | true => rw [j1t]; rfl
          | false =>
            unfold F_ref06_Right_j1
            rw [if_neg (by decide), rlater_eq wx, Option.bind_some, e3, rRight_L hw hl k (i + 1) _ (by omega) (by omega)]
            rfl
        have hk : (re c.f_Exts[i]).f_Kind = c.f_Exts[i].f_Kind := rfl
        rw [hk]
        by_cases h0 : c.f_Exts[i].f_Kind = 0
        · rw [if_pos (by simpa using h0)]
          by_cases hi : 0 < i
          · rw [if_pos (by simp; omega), j1t]; simp [h0, hi]
          · rw [if_neg (by simp; omega), hlst]; simp [hi]
        · rw [if_neg (by simpa using h0), hlst]
          have : (c.f_Exts[i].f_Kind == 0) = false := by simpa using h0
          rw [this]; simp
    · rw [if_neg (by simpa using h), List.drop_of_length_le (by omega)]
      unfold F_ref06_Right_j2
      cases last with
      | true => rfl
      | false => rw [if_neg (by decide), rkind_eq, Option.bind_some]; rfl
theorem rRight_eq {c : T_ipsix_Chain} (hw : ∀ x ∈ c.f_Exts, WE x) (hl : c.f_Exts.length < 1000000) : F_ref06_Right (rc c) = some (okC c) := by
  have hlen : (rc c).f_Exts.length = c.f_Exts.length := by simp [rc]
  unfold F_ref06_Right okC
  rw [hlen]
  by_cases h : 16 < c.f_Exts.length
  · rw [if_pos (by simp; omega)]; simp; omega
  · have h16 : decide (c.f_Exts.length ≤ 16) = true := by simp; omega
    rw [if_neg (by simp; omega), h16, Bool.true_and, ← rr_eq]
    exact rRight_L hw hl fuel0 0 false (by omega) (by unfold fuel0; omega)
theorem rPut_L {c : T_ipsix_Chain} (hw : ∀ x ∈ c.f_Exts, WE x) (h20 : c.f_Exts.length ≤ 20) (hd : ∀ x ∈ c.f_Exts, x.f_Data.length ≤ 5000) : ∀ (k j : Nat), j ≤ c.f_Exts.length → j < k →
    F_ref06_PutChain_L1 (rc c) k (pc (c.f_Exts.drop j) c.f_Proto) (fk (c.f_Exts.drop j) c.f_Proto) ((j : Int) - 1) = some (pc c.f_Exts c.f_Proto, fk c.f_Exts c.f_Proto, 0)
  | 0, j, h1, h2 => by omega
  | k + 1, 0, h1, h2 => by
    show F_ref06_PutChain_l1 (F_ref06_PutChain_L1 (rc c) k) (rc c) _ _ _ = _
    unfold F_ref06_PutChain_l1
    rw [if_neg (by decide)]; rfl
  | k + 1, j + 1, h1, h2 => by
    show F_ref06_PutChain_l1 (F_ref06_PutChain_L1 (rc c) k) (rc c) _ _ _ = _
    unfold F_ref06_PutChain_l1
    have h : j < c.f_Exts.length := by omega
    have e : ((j + 1 : Nat) : Int) - 1 = (j : Int) := by omega
    have hg : (rc c).f_Exts[j]? = some (re c.f_Exts[j]) := by simp [rc, h]
    have wx := hw _ (List.getElem_mem h)
    have hx := hd _ (List.getElem_mem h)
    have hpl := pcl (p := c.f_Proto) (l := c.f_Exts.drop (j + 1)) (m := 5000) (fun y hy => hd y (List.mem_of_mem_drop hy))
    have hpl2 : (pc (c.f_Exts.drop (j + 1)) c.f_Proto).length ≤ 200000 := by
      have : (c.f_Exts.drop (j + 1)).length * (5000 + 2) ≤ 20 * (5000 + 2) := Nat.mul_le_mul_right _ (by simp; omega)
      omega
    have hs : (re c.f_Exts[j]).f_Data.size = c.f_Exts[j].f_Data.length := str_size _
    have hn : numsOfStr (re c.f_Exts[j]).f_Data = c.f_Exts[j].f_Data := nums_str wx.d
    have eb : IntKind.u8.wrap (IntKind.i64.wrap (IntKind.i64.wrap (Int.tdiv (IntKind.i64.wrap ((c.f_Exts[j].f_Data.length : Int) + 2)) 8) - 1)) = lb c.f_Exts[j] % 256 := by
      rw [wi64 (n := (c.f_Exts[j].f_Data.length : Int) + 2) (by omega) (by omega), tdiv_nn (by omega), wi64 (n := _ / 8) (by omega) (by omega), wi64 (by omega) (by omega), wu8]
      rfl
    rw [e, if_pos (by simp), gidx_nat hg, Option.bind_some, hs, hn, eb, if_pos (limk (by omega)), if_pos (limk (by simp; omega)), if_pos (limk (by simp; omega)), wi64 (by omega) (by omega)]
    have := rPut_L hw h20 hd k j (by omega) (by omega)
    rw [List.drop_eq_getElem_cons h] at this
    simp only [pc, fk] at this
    exact this
theorem rPut_eq {c : T_ipsix_Chain} (hw : ∀ x ∈ c.f_Exts, WE x) (h20 : c.f_Exts.length ≤ 20) (hd : ∀ x ∈ c.f_Exts, x.f_Data.length ≤ 5000) : F_ref06_PutChain (rc c) = some (if okC c = true then (pc c.f_Exts c.f_Proto, fk c.f_Exts c.f_Proto, 0) else ([], 0, 60)) := by
  have hlen : (rc c).f_Exts.length = c.f_Exts.length := by simp [rc]
  unfold F_ref06_PutChain
  rw [rRight_eq hw (by omega), Option.bind_some]
  cases okC c with
  | false => rfl
  | true =>
    rw [if_neg (by decide), if_pos rfl, hlen, wi64 (by omega) (by omega)]
    have := rPut_L hw h20 hd fuel0 c.f_Exts.length (by omega) (by unfold fuel0; omega)
    rw [List.drop_length] at this
    exact this
/-! ### Fragments, and equality -/
def fq (x : T_ipsix_Ext) : Int × Bool × Int × Bool := (sn x / 8, sn x % 2 == 1, IntKind.u32.wrap (gt x.f_Data 2 4).1, true)
def f44 (l : List T_ipsix_Ext) : Option T_ipsix_Ext := l.find? fun x => x.f_Kind == 44
def fr (c : T_ipsix_Chain) : Int × Bool × Int × Bool := match f44 c.f_Exts with
  | none => (0, false, 0, false)
  | some x => if okC c = true then fq x else (0, false, 0, false)
theorem ix44 {s : List T_ipsix_Ext} (hl : s.length < 1000000) : ∀ (k i : Nat), i ≤ s.length → s.length < k + i → ∃ y, F_slices_IndexFunc_ipsix_Ext_ipsix_Ext_fipsix_Frag_1_L1 s k (i : Int) = some y ∧ ((y = -1 ∧ f44 (s.drop i) = none) ∨ ∃ (j : Nat) (x : T_ipsix_Ext), y = (j : Int) ∧ s[j]? = some x ∧ f44 (s.drop i) = some x)
  | 0, i, h1, h2 => by omega
  | k + 1, i, h1, h2 => by
    show ∃ y, F_slices_IndexFunc_ipsix_Ext_ipsix_Ext_fipsix_Frag_1_l1 (F_slices_IndexFunc_ipsix_Ext_ipsix_Ext_fipsix_Frag_1_L1 s k) s _ = some y ∧ _
    unfold F_slices_IndexFunc_ipsix_Ext_ipsix_Ext_fipsix_Frag_1_l1 F_ipsix_Frag_1
    by_cases h : i < s.length
    · have e3 : IntKind.i64.wrap ((i : Int) + 1) = ((i + 1 : Nat) : Int) := by rw [wi64 (by omega) (by omega)]; omega
      have hg : s[i]? = some s[i] := List.getElem?_eq_getElem h
      rw [if_pos (by simpa using h), gidx_nat hg, Option.bind_some, Option.bind_some, List.drop_eq_getElem_cons h]
      unfold f44
      rw [List.find?_cons]
      cases hr : (s[i].f_Kind == 44) with
      | true => rw [if_pos rfl]; exact ⟨_, rfl, .inr ⟨i, s[i], rfl, hg, rfl⟩⟩
      | false =>
        rw [if_neg (by decide), e3]
        exact ix44 hl k (i + 1) (by omega) (by omega)
    · rw [if_neg (by simpa using h), List.drop_of_length_le (by omega)]
      exact ⟨_, rfl, .inl ⟨rfl, rfl⟩⟩
theorem Frag_eq {c : T_ipsix_Chain} (hw : ∀ x ∈ c.f_Exts, WE x) (hl : c.f_Exts.length < 1000000) : F_ipsix_Frag c = some (fr c) := by
  unfold F_ipsix_Frag F_slices_IndexFunc_ipsix_Ext_ipsix_Ext_fipsix_Frag_1 fr
  obtain ⟨y, h1, h2⟩ := ix44 (s := c.f_Exts) hl fuel0 0 (by omega) (by unfold fuel0; omega)
  have h1' : F_slices_IndexFunc_ipsix_Ext_ipsix_Ext_fipsix_Frag_1_L1 c.f_Exts fuel0 0 = some y := h1
  rw [h1', Option.bind_some]
  rw [List.drop_zero] at h2
  rcases h2 with ⟨rfl, hn⟩ | ⟨j, x, rfl, hx, hs⟩
  · rw [hn, if_pos (by decide)]; rfl
  · rw [hs, if_neg (by simp), Right_eq hw hl, Option.bind_some]
    unfold F_ipsix_Frag_j1
    cases okC c with
    | false => rfl
    | true =>
      have wx := hw x (List.mem_of_getElem? hx)
      have hxl := wx.l
      rw [if_neg (by decide), gidx_nat hx, Option.bind_some, says_eq wx, Option.bind_some, Option.bind_some, bget_eq wx.d (by omega) ⟨by decide, by decide⟩, Option.bind_some]
      rfl
theorem rFrag_L {c : T_ipsix_Chain} (hw : ∀ x ∈ c.f_Exts, WE x) (hl : c.f_Exts.length < 1000000) : ∀ (k i : Nat), i ≤ c.f_Exts.length → c.f_Exts.length < k + i → F_ref06_Frag_L1 (rc c) k (i : Int) = some (match f44 (c.f_Exts.drop i) with
      | none => (0, false, 0, false)
      | some x => if okC c = true then fq x else (0, false, 0, false))
  | 0, i, h1, h2 => by omega
  | k + 1, i, h1, h2 => by
    show F_ref06_Frag_l1 (F_ref06_Frag_L1 (rc c) k) (rc c) _ = _
    have hlen : (rc c).f_Exts.length = c.f_Exts.length := by simp [rc]
    unfold F_ref06_Frag_l1 F_ref06_Frag_j1
    rw [hlen]
    by_cases h : i < c.f_Exts.length
    · have e3 : IntKind.i64.wrap ((i : Int) + 1) = ((i + 1 : Nat) : Int) := by rw [wi64 (by omega) (by omega)]; omega
      have hg : (rc c).f_Exts[i]? = some (re c.f_Exts[i]) := by simp [rc, h]
      have wx := hw _ (List.getElem_mem h)
      rw [if_pos (by simpa using h), rRight_eq hw hl, Option.bind_some]
      cases hok : okC c with
      | false =>
        rw [if_neg (by decide)]
        cases f44 (c.f_Exts.drop i) <;> rfl
      | true =>
        rw [if_pos rfl, gidx_nat hg, Option.bind_some, Option.bind_some, List.drop_eq_getElem_cons h]
        have hk : (re c.f_Exts[i]).f_Kind = c.f_Exts[i].f_Kind := rfl
        rw [hk]
        have ih := rFrag_L hw hl k (i + 1) (by omega) (by omega)
        rw [hok] at ih
        unfold f44 at ih ⊢
        rw [List.find?_cons]
        cases hr : (c.f_Exts[i].f_Kind == 44) with
        | false => rw [if_neg (by decide), e3]; exact ih
        | true =>
          have hn : numsOfStr (re c.f_Exts[i]).f_Data = c.f_Exts[i].f_Data := nums_str wx.d
          have hs : (re c.f_Exts[i]).f_Data.size = c.f_Exts[i].f_Data.length := str_size _
          have hxl := wx.l
          have hsb := sn_bd wx
          rw [if_pos rfl, hs, hn, if_pos (limk (by omega)), rget_eq wx.d (by omega) ⟨by decide, by decide⟩, Option.bind_some, rget_eq wx.d (by omega) ⟨by decide, by decide⟩, Option.bind_some]
          show some (IntKind.u16.wrap (IntKind.u64.wrap (Int.tdiv (sn c.f_Exts[i]) 8)), Int.tmod (sn c.f_Exts[i]) 2 == 1, IntKind.u32.wrap (gt c.f_Exts[i].f_Data 2 4).1, true) = some (fq c.f_Exts[i])
          rw [tdiv_nn hsb.1, tmod_nn hsb.1, wu64i (by omega) (by omega), wu16i (by omega) (by omega)]
          rfl
    · rw [if_neg (by simpa using h), if_neg (by decide), List.drop_of_length_le (by omega)]
      rfl
def se (x y : T_ipsix_Ext) : Bool := x.f_Kind == y.f_Kind && (strOfNums x.f_Data).toList == (strOfNums y.f_Data).toList
theorem same1_eq (x y : T_ipsix_Ext) : F_ipsix_Same_1 x y = some (se x y) := by
  unfold F_ipsix_Same_1 F_ipsix_Same_1_j1 F_bytes_Equal se
  cases (x.f_Kind == y.f_Kind) with
  | false => rfl
  | true => rw [if_pos rfl, Option.bind_some, Bool.true_and]
theorem qre_eq (x y : T_ipsix_Ext) : q_ref06_Ext (re x) (re y) = se x y := by simp [q_ref06_Ext, re, se]
def al : List T_ipsix_Ext → List T_ipsix_Ext → Bool
  | x :: r, y :: s => se x y && al r s
  | _, _ => true
theorem eqs_L {a b : List T_ipsix_Ext} (hl : a.length < 1000000) (hab : a.length = b.length) : ∀ (k i : Nat), i ≤ a.length → a.length < k + i → F_slices_EqualFunc_ipsix_Ext_ipsix_Ext_ipsix_Ext_ipsix_Ext_fipsix_Same_1_L1 a b k (i : Int) = some (al (a.drop i) (b.drop i))
  | 0, i, h1, h2 => by omega
  | k + 1, i, h1, h2 => by
    show F_slices_EqualFunc_ipsix_Ext_ipsix_Ext_ipsix_Ext_ipsix_Ext_fipsix_Same_1_l1 (F_slices_EqualFunc_ipsix_Ext_ipsix_Ext_ipsix_Ext_ipsix_Ext_fipsix_Same_1_L1 a b k) a b _ = _
    unfold F_slices_EqualFunc_ipsix_Ext_ipsix_Ext_ipsix_Ext_ipsix_Ext_fipsix_Same_1_l1
    by_cases h : i < a.length
    · have e3 : IntKind.i64.wrap ((i : Int) + 1) = ((i + 1 : Nat) : Int) := by rw [wi64 (by omega) (by omega)]; omega
      have hb : i < b.length := by omega
      have hg : a[i]? = some a[i] := List.getElem?_eq_getElem h
      have hg2 : b[i]? = some b[i] := List.getElem?_eq_getElem hb
      rw [if_pos (by simpa using h), gidx_nat hg, Option.bind_some, gidx_nat hg2, Option.bind_some, same1_eq, Option.bind_some, List.drop_eq_getElem_cons h, List.drop_eq_getElem_cons hb]
      simp only [al]
      cases se a[i] b[i] with
      | false => rfl
      | true => rw [if_neg (by decide), e3, eqs_L hl hab k (i + 1) (by omega) (by omega)]; rfl
    · rw [if_neg (by simpa using h), List.drop_of_length_le (by omega), List.drop_of_length_le (by omega)]; rfl
theorem rsame_L {a b : T_ipsix_Chain} (hl : a.f_Exts.length < 1000000) (hab : a.f_Exts.length = b.f_Exts.length) : ∀ (k i : Nat), i ≤ a.f_Exts.length → a.f_Exts.length < k + i → F_ref06_Same_L1 (rc a) (rc b) k (i : Int) = some (al (a.f_Exts.drop i) (b.f_Exts.drop i) && (a.f_Proto == b.f_Proto))
  | 0, i, h1, h2 => by omega
  | k + 1, i, h1, h2 => by
    show F_ref06_Same_l1 (F_ref06_Same_L1 (rc a) (rc b) k) (rc a) (rc b) _ = _
    have hlen : (rc a).f_Exts.length = a.f_Exts.length := by simp [rc]
    unfold F_ref06_Same_l1
    rw [hlen]
    by_cases h : i < a.f_Exts.length
    · have e3 : IntKind.i64.wrap ((i : Int) + 1) = ((i + 1 : Nat) : Int) := by rw [wi64 (by omega) (by omega)]; omega
      have hb : i < b.f_Exts.length := by omega
      have hg : (rc a).f_Exts[i]? = some (re a.f_Exts[i]) := by simp [rc, h]
      have hg2 : (rc b).f_Exts[i]? = some (re b.f_Exts[i]) := by simp [rc, hb]
      rw [if_pos (by simpa using h), gidx_nat hg, Option.bind_some, gidx_nat hg2, Option.bind_some, qre_eq, List.drop_eq_getElem_cons h, List.drop_eq_getElem_cons hb]
      simp only [al]
      cases se a.f_Exts[i] b.f_Exts[i] with
      | false => rfl
      | true => rw [if_neg (by decide), e3, rsame_L hl hab k (i + 1) (by omega) (by omega)]; rfl
    · rw [if_neg (by simpa using h), List.drop_of_length_le (by omega), List.drop_of_length_le (by omega)]; rfl
def sm (a b : T_ipsix_Chain) : Bool := decide (a.f_Exts.length = b.f_Exts.length) && (al a.f_Exts b.f_Exts && (a.f_Proto == b.f_Proto))
theorem eqf_eq {a b : List T_ipsix_Ext} (hl : a.length < 1000000) : F_slices_EqualFunc_ipsix_Ext_ipsix_Ext_ipsix_Ext_ipsix_Ext_fipsix_Same_1 a b = some (decide (a.length = b.length) && al a b) := by
  unfold F_slices_EqualFunc_ipsix_Ext_ipsix_Ext_ipsix_Ext_ipsix_Ext_fipsix_Same_1
  by_cases h : a.length = b.length
  · have := eqs_L hl h fuel0 0 (by omega) (by unfold fuel0; omega)
    have h' : F_slices_EqualFunc_ipsix_Ext_ipsix_Ext_ipsix_Ext_ipsix_Ext_fipsix_Same_1_L1 a b fuel0 0 = some (al a b) := this
    rw [if_neg (by simp; omega), h', decide_eq_true h]; rfl
  · rw [if_pos (by simp; omega), decide_eq_false h]; rfl
theorem Same_eq {a b : T_ipsix_Chain} (hl : a.f_Exts.length < 1000000) : F_ipsix_Same a b = some (sm a b) := by
  unfold F_ipsix_Same F_ipsix_Same_j1 sm
  rw [eqf_eq hl]
  cases (a.f_Proto == b.f_Proto) with
  | false => simp
  | true => rw [if_pos rfl, Option.bind_some]; simp
theorem rSame_eq {a b : T_ipsix_Chain} (hl : a.f_Exts.length < 1000000) : F_ref06_Same (rc a) (rc b) = some (sm a b) := by
  have h1 : (rc a).f_Exts.length = a.f_Exts.length := by simp [rc]
  have h2 : (rc b).f_Exts.length = b.f_Exts.length := by simp [rc]
  unfold F_ref06_Same sm
  rw [h1, h2]
  by_cases h : a.f_Exts.length = b.f_Exts.length
  · have := rsame_L hl h fuel0 0 (by omega) (by unfold fuel0; omega)
    have h' : F_ref06_Same_L1 (rc a) (rc b) fuel0 0 = some (al a.f_Exts b.f_Exts && (a.f_Proto == b.f_Proto)) := this
    rw [if_neg (by simp; omega), h', decide_eq_true h]; rfl
  · rw [if_pos (by simp; omega), decide_eq_false h]; rfl
theorem al_refl : ∀ l : List T_ipsix_Ext, al l l = true
  | [] => rfl
  | x :: r => by simp [al, se, al_refl r]
theorem sm_refl (a : T_ipsix_Chain) : sm a a = true := by simp [sm, al_refl]
theorem chains_eq {c o : T_ipsix_Chain} (hk : ∀ x ∈ c.f_Exts, (0 ≤ x.f_Kind ∧ x.f_Kind < 256) ∧ Wf 256 x.f_Data) (ho : ∀ x ∈ o.f_Exts, (0 ≤ x.f_Kind ∧ x.f_Kind < 256) ∧ Wf 256 x.f_Data) : F_law06_IpsixChains c o = some true := by
  unfold F_law06_IpsixChains F_law06_few
  obtain ⟨t, ht, hkk⟩ := fewc_L (c := c) fuel0 0 (by omega) (by omega) (by unfold fuel0; omega) (fun j a hj => by omega)
  obtain ⟨t2, ht2, hkk2⟩ := fewc_L (c := o) fuel0 0 (by omega) (by omega) (by unfold fuel0; omega) (fun j a hj => by omega)
  have ht' : F_law06_few_L1 c fuel0 0 = some t := ht
  have ht2' : F_law06_few_L1 o fuel0 0 = some t2 := ht2
  have triv : F_law06_IpsixChains_j1 c o true = some true := by
    unfold F_law06_IpsixChains_j1
    rw [if_pos rfl, works_eq]; rfl
  rw [ht', Option.bind_some]
  cases t with
  | false => rw [if_pos (by decide)]; exact triv
  | true =>
    rw [if_neg (by decide), ht2', Option.bind_some]
    cases t2 with
    | false => exact triv
    | true =>
      obtain ⟨h20, h2060⟩ := hkk rfl
      obtain ⟨o20, _⟩ := hkk2 rfl
      have hwe : ∀ x ∈ c.f_Exts, WE x := fun x hx => ⟨(hk x hx).1, (hk x hx).2, by have := h2060 x hx; omega⟩
      have hd5 : ∀ x ∈ c.f_Exts, x.f_Data.length ≤ 5000 := fun x hx => by have := h2060 x hx; omega
      unfold F_law06_IpsixChains_j1
      rw [if_neg (by decide), docs_eq h20, Option.bind_some, docs_eq o20, Option.bind_some]
      unfold F_law06_IpsixChains_j2
      have erc : (⟨(rc c).f_Exts, (rc c).f_Proto⟩ : T_ref06_Chain) = rc c := rfl
      have eroc : (⟨(rc o).f_Exts, (rc o).f_Proto⟩ : T_ref06_Chain) = rc o := rfl
      rw [erc, eroc]
      have hsl : (if okC c = true then (pc c.f_Exts c.f_Proto, fk c.f_Exts c.f_Proto, (0 : Int)) else ([], 0, 60)).1.length < 1000000 := by
        split
        · have hpl := pcl (p := c.f_Proto) hd5
          have : c.f_Exts.length * (5000 + 2) ≤ 20 * (5000 + 2) := Nat.mul_le_mul_right _ h20
          dsimp only; omega
        · simp
      have hfr : F_ref06_Frag (rc c) = some (fr c) := rFrag_L hwe (by omega) fuel0 0 (by omega) (by unfold fuel0; omega)
      rw [PutChain_eq hwe h20 hd5, Option.bind_some, rPut_eq hwe h20 hd5, Option.bind_some, Frag_eq hwe (by omega), Option.bind_some, hfr, Option.bind_some, if_pos (by simp), if_pos (by simp), sb_eq hsl, Option.bind_some, if_pos rfl, if_pos (by simp), if_pos (by simp), if_pos (by simp), if_pos (by simp),
        Right_eq hwe (by omega), Option.bind_some, rRight_eq hwe (by omega), Option.bind_some, if_pos (by simp), Same_eq (by omega), Option.bind_some, rSame_eq (by omega), Option.bind_some, if_pos (by simp), Same_eq (by omega), Option.bind_some, sm_refl, if_pos rfl, docs_eq h20, Option.bind_some, rSame_eq (by omega), Option.bind_some, sm_refl, if_pos rfl, works_eq]
      rfl
/-! ### Any bytes as a chain, and as a packet -/
theorem er_ok {n : Nat} {p : Int} {rest : List Int} (hn : n ≤ 16) (hw : Wf 256 rest) (h : er n p rest = 0) : n < 16 ∧ (p = 0 → n = 0) ∧ nx p rest ≤ rest.length ∧ (p = 44 → rest.getD 1 0 = 0 ∧ rightE (xe p rest) = true) := by
  unfold er at h
  split at h
  · cases h
  · rename_i h1
    split at h
    · cases h
    · split at h
      · cases h
      · rename_i h2 h3
        split at h
        · cases h
        · rename_i h4
          refine ⟨by omega, fun hz => by omega, by omega, fun h44 => ?_⟩
          rcases Classical.em (rest.getD 1 0 = 0 ∧ rightE (xe p rest) = true) with hh | hh
          · exact hh
          · exact (h4 ⟨h44, hh⟩).elim
/-- What is parsed. -/
def psr (b : List Int) : Nat → Int → List T_ipsix_Ext → Int → T_ipsix_Chain × Int × Int
  | 0, _, _, _ => (⟨[], 0⟩, 0, 60)
  | k + 1, p, acc, a => if bh p = false then (⟨acc, p⟩, a, 0) else if er acc.length p (b.drop a.toNat) ≠ 0 then (⟨[], 0⟩, 0, er acc.length p (b.drop a.toNat)) else
      if laterE (xe p (b.drop a.toNat)) = true then (⟨acc ++ [xe p (b.drop a.toNat)], (b.drop a.toNat).getD 0 0⟩, a + nx p (b.drop a.toNat), 0) else psr b k ((b.drop a.toNat).getD 0 0) (acc ++ [xe p (b.drop a.toNat)]) (a + nx p (b.drop a.toNat))
theorem psr_eq {b : List Int} (hw : Wf 256 b) (hl : b.length < 1000000) : ∀ (k : Nat) (acc : List T_ipsix_Ext) (p a : Int), acc.length ≤ 16 → 17 ≤ k + acc.length → 0 ≤ p ∧ p < 256 → 0 ≤ a → a ≤ b.length → (∀ x ∈ acc, x.f_Data.length ≤ 2046) →
    (∀ j, k ≤ j → F_ipsix_ParseChain_L1 j acc p b a = some (psr b k p acc a)) ∧ (∀ j, k < j → F_ref06_ParseChain_L1 b j p (acc.map re) a false = some (rc (psr b k p acc a).1, (psr b k p acc a).2)) ∧
      ((psr b k p acc a).1.f_Exts.length ≤ 16 ∧ (∀ x ∈ (psr b k p acc a).1.f_Exts, x.f_Data.length ≤ 2046) ∧ 0 ≤ (psr b k p acc a).2.1 ∧ (psr b k p acc a).2.1 ≤ b.length)
  | 0, acc, p, a, h1, h2, h3, h4, h5, h6 => by omega
  | k + 1, acc, p, a, h1, h2, h3, h4, h5, h6 => by
    have hstop : ∀ (j : Nat) (q : Int) (l : List T_ipsix_Ext) (c : Int), 0 < j → F_ref06_ParseChain_L1 b j q (l.map re) c true = some (rc ⟨l, q⟩, c, 0) := fun j q l c hj => by
      obtain ⟨j', rfl⟩ : ∃ j', j = j' + 1 := ⟨j - 1, by omega⟩
      show F_ref06_ParseChain_l1 (F_ref06_ParseChain_L1 b j') b q (l.map re) c true = _
      unfold F_ref06_ParseChain_l1 F_ref06_ParseChain_j1
      rw [rkind_eq, Option.bind_some]
      cases bh q <;> rfl
    unfold psr
    cases hb : bh p with
    | false =>
      rw [if_pos rfl]
      refine ⟨fun j hj => ?_, fun j hj => ?_, h1, h6, h4, h5⟩
      · obtain ⟨j', rfl⟩ : ∃ j', j = j' + 1 := ⟨j - 1, by omega⟩
        show F_ipsix_ParseChain_l1 (F_ipsix_ParseChain_L1 j') acc p b a = _
        unfold F_ipsix_ParseChain_l1
        rw [bh_eq, Option.bind_some, hb, if_neg (by decide)]
        rfl
      · obtain ⟨j', rfl⟩ : ∃ j', j = j' + 1 := ⟨j - 1, by omega⟩
        show F_ref06_ParseChain_l1 (F_ref06_ParseChain_L1 b j') b p (acc.map re) a false = _
        unfold F_ref06_ParseChain_l1 F_ref06_ParseChain_j1
        rw [rkind_eq, Option.bind_some, hb, if_neg (by decide), if_neg (by decide)]
        rfl
    | true =>
      rw [if_neg (by decide)]
      generalize hr : b.drop a.toNat = rest
      have hrw : Wf 256 rest := by rw [← hr]; exact hw.drop _
      have hrl : rest.length = b.length - a.toNat := by rw [← hr]; simp
      have hxe := xe_we h3 hrw
      have hnb := nx_bd (p := p) hrw
      have hgb : ∀ i : Nat, rest.getD i 0 = b.getD (a.toNat + i) 0 := fun i => by rw [← hr]; simp [List.getD, List.getElem?_drop]
      -- the reference's step
      have hstep : ∀ j', F_ref06_ParseChain_L1 b (j' + 1) p (acc.map re) a false = if er acc.length p rest ≠ 0 then some (rc ⟨[], 0⟩, 0, er acc.length p rest) else F_ref06_ParseChain_L1 b j' (rest.getD 0 0) ((acc ++ [xe p rest]).map re) (a + nx p rest) (laterE (xe p rest)) := fun j' => by
        show F_ref06_ParseChain_l1 (F_ref06_ParseChain_L1 b j') b p (acc.map re) a false = _
        unfold F_ref06_ParseChain_l1
        rw [rkind_eq, Option.bind_some, hb, if_pos rfl]
        unfold F_ref06_ParseChain_j1
        have bad : F_ref06_ParseChain_j2 b p (acc.map re) a (F_ref06_ParseChain_L1 b j') true = some (rc ⟨[], 0⟩, 0, 60) := by unfold F_ref06_ParseChain_j2; rw [if_pos rfl]; rfl
        rw [show (!false) = true from rfl, if_pos rfl, List.length_map]
        by_cases c1 : acc.length = 16
        · have he : er acc.length p rest = 60 := by unfold er; rw [if_pos (.inl c1)]
          rw [if_pos (by simp; omega), bad, he, if_pos (by decide)]
        · rw [if_neg (by simp; omega)]
          by_cases c2 : p = 0 ∧ 0 < acc.length
          · have he : er acc.length p rest = 60 := by unfold er; rw [if_pos (.inr c2)]
            rw [if_pos (by simpa using c2.1), show decide (0 < (acc.length : Int)) = true from decide_eq_true (by have := c2.2; omega), bad, he, if_pos (by decide)]
          · have c12 : ¬ (acc.length = 16 ∨ (p = 0 ∧ 0 < acc.length)) := fun h => h.elim c1 c2
            have hj : F_ref06_ParseChain_j2 b p (acc.map re) a (F_ref06_ParseChain_L1 b j') false = if er acc.length p rest ≠ 0 then some (rc ⟨[], 0⟩, 0, er acc.length p rest) else F_ref06_ParseChain_L1 b j' (rest.getD 0 0) ((acc ++ [xe p rest]).map re) (a + nx p rest) (laterE (xe p rest)) := by
              unfold F_ref06_ParseChain_j2
              rw [if_neg (by decide), wi64 (n := a + 2) (by omega) (by omega)]
              by_cases h2 : rest.length < 2
              · have he : er acc.length p rest = 10 := by unfold er; rw [if_neg c12, if_pos h2]
                rw [if_pos (by simp; omega), he, if_pos (by decide)]; rfl
              · have hg1 : gidx b (IntKind.i64.wrap (a + 1)) = some (rest.getD 1 0) := by
                  rw [wi64 (by omega) (by omega), show a + 1 = ((a.toNat + 1 : Nat) : Int) by omega, gidxN (by omega), ← hgb]
                have hr1 : 0 ≤ rest.getD 1 0 ∧ rest.getD 1 0 < 256 := byte_bd hrw 1
                have e : (if (p == 44) = true then F_ref06_ParseChain_j3 b p (acc.map re) a (F_ref06_ParseChain_L1 b j') 8 else F_ref06_ParseChain_j3 b p (acc.map re) a (F_ref06_ParseChain_L1 b j') (IntKind.i64.wrap (8 * IntKind.i64.wrap (IntKind.i64.wrap (rest.getD 1 0) + 1)))) = F_ref06_ParseChain_j3 b p (acc.map re) a (F_ref06_ParseChain_L1 b j') (nx p rest) := by
                  by_cases h44 : p = 44
                  · rw [if_pos (by simpa using h44), show nx p rest = 8 by unfold nx; rw [if_pos h44]]; rfl
                  · rw [if_neg (by simpa using h44), wi64 (n := rest.getD 1 0) (by omega) (by omega), wi64 (n := rest.getD 1 0 + 1) (by omega) (by omega), wi64 (by omega) (by omega)]
                    unfold nx
                    rw [if_neg h44]; congr 1; omega
                rw [if_neg (by simp; omega), hg1, Option.bind_some, e]
                unfold F_ref06_ParseChain_j3
                rw [wi64 (n := a + nx p rest) (by omega) (by omega), wi64 (n := a + 2) (by omega) (by omega)]
                by_cases h3' : rest.length < nx p rest
                · have he : er acc.length p rest = 10 := by unfold er; rw [if_neg c12, if_neg h2, if_pos h3']
                  rw [if_pos (by simp; omega), he, if_pos (by decide)]; rfl
                · have hcut : gcut b (a + 2) (a + nx p rest) = some (xe p rest).f_Data := by
                    rw [gcut_in (by omega) (by omega) (by omega)]
                    congr 1
                    show _ = (rest.drop 2).take (nx p rest - 2)
                    rw [← hr, List.drop_drop]
                    congr 1
                    · omega
                    · congr 1; omega
                  rw [if_neg (by simp; omega), hcut, Option.bind_some]
                  have hx : T_ref06_Ext.mk p (strOfNums (xe p rest).f_Data) = re (xe p rest) := rfl
                  have bad4 : F_ref06_ParseChain_j4 b p (acc.map re) a (F_ref06_ParseChain_L1 b j') (nx p rest) (xe p rest).f_Data true = some (rc ⟨[], 0⟩, 0, 60) := by unfold F_ref06_ParseChain_j4; rw [if_pos rfl]; rfl
                  have good4 : F_ref06_ParseChain_j4 b p (acc.map re) a (F_ref06_ParseChain_L1 b j') (nx p rest) (xe p rest).f_Data false = F_ref06_ParseChain_L1 b j' (rest.getD 0 0) ((acc ++ [xe p rest]).map re) (a + nx p rest) (laterE (xe p rest)) := by
                    unfold F_ref06_ParseChain_j4
                    have hg0 : gidx b a = some (rest.getD 0 0) := by
                      rw [show a = ((a.toNat + 0 : Nat) : Int) by omega, gidxN (by omega), ← hgb]
                    rw [if_neg (by decide), if_pos (limk (by simp; omega)), hx, rlater_eq hxe.1, Option.bind_some, hg0, Option.bind_some, wi64 (by omega) (by omega), List.map_append]
                    rfl
                  by_cases hbad : p = 44 ∧ ¬ (rest.getD 1 0 = 0 ∧ rightE (xe p rest) = true)
                  · have he : er acc.length p rest = 60 := by unfold er; rw [if_neg c12, if_neg h2, if_neg h3', if_pos hbad]
                    rw [if_pos (by simpa using hbad.1), hg1, Option.bind_some, he, if_pos (show (60 : Int) ≠ 0 by decide)]
                    by_cases hz : rest.getD 1 0 = 0
                    · have hrf : rightE (xe p rest) = false := by
                        cases hh : rightE (xe p rest) with
                        | false => rfl
                        | true => exact (hbad.2 ⟨hz, hh⟩).elim
                      rw [if_neg (by simpa using hz), hx, rright_eq hxe.1, Option.bind_some, hrf]
                      exact bad4
                    · rw [if_pos (by simpa using hz)]
                      exact bad4
                  · have he : er acc.length p rest = 0 := by unfold er; rw [if_neg c12, if_neg h2, if_neg h3', if_neg hbad]
                    rw [he, if_neg (show ¬ (0 : Int) ≠ 0 by decide)]
                    by_cases h44 : p = 44
                    · have hh : rest.getD 1 0 = 0 ∧ rightE (xe p rest) = true := by
                        rcases Classical.em (rest.getD 1 0 = 0 ∧ rightE (xe p rest) = true) with hh | hh
                        · exact hh
                        · exact (hbad ⟨h44, hh⟩).elim
                      rw [if_pos (by simpa using h44), hg1, Option.bind_some, if_neg (by simpa using hh.1), hx, rright_eq hxe.1, Option.bind_some, hh.2]
                      exact good4
                    · rw [if_neg (by simpa using h44)]
                      exact good4
            by_cases hz : p = 0
            · rw [if_pos (by simpa using hz), show decide (0 < (acc.length : Int)) = false from decide_eq_false (fun h => c2 ⟨hz, by omega⟩)]
              exact hj
            · rw [if_neg (by simpa using hz)]
              exact hj
      by_cases hc : er acc.length p rest = 0
      · obtain ⟨c1, c2, c3, c4⟩ := er_ok h1 hrw hc
        have hr0 : 0 ≤ rest.getD 0 0 ∧ rest.getD 0 0 < 256 := byte_bd hrw 0
        have hdat : ∀ x ∈ acc ++ [xe p rest], x.f_Data.length ≤ 2046 := fun x hx => by
          rcases List.mem_append.1 hx with hx | hx
          · exact h6 x hx
          · simp at hx; subst hx; exact hxe.2
        have himp : ∀ j', F_ipsix_ParseChain_L1 (j' + 1) acc p b a = if laterE (xe p rest) = true then F_ipsix_ParseChain_j1 (acc ++ [xe p rest]) (rest.getD 0 0) (a + nx p rest) else F_ipsix_ParseChain_L1 j' (acc ++ [xe p rest]) (rest.getD 0 0) b (a + nx p rest) := fun j' => by
          show F_ipsix_ParseChain_l1 (F_ipsix_ParseChain_L1 j') acc p b a = _
          unfold F_ipsix_ParseChain_l1
          rw [bh_eq, Option.bind_some, hb, if_pos rfl, one_ok h3 hw hl h4 h5 hr c1 c2 c3 c4, Option.bind_some, if_neg (by simp)]
          dsimp only
          rw [last_get h1, Option.bind_some, later_eq hxe.1, Option.bind_some]
        rw [if_neg (by simpa using hc)]
        cases hlt : laterE (xe p rest) with
        | true =>
          rw [if_pos rfl]
          refine ⟨fun j hj => ?_, fun j hj => ?_, by simp; omega, hdat, by dsimp only; omega, by dsimp only; omega⟩
          · obtain ⟨j', rfl⟩ : ∃ j', j = j' + 1 := ⟨j - 1, by omega⟩
            rw [himp, hlt, if_pos rfl]
            rfl
          · obtain ⟨j', rfl⟩ : ∃ j', j = j' + 1 := ⟨j - 1, by omega⟩
            rw [hstep, if_neg (by simpa using hc), hlt]
            exact hstop j' _ _ _ (by omega)
        | false =>
          rw [if_neg (by decide)]
          obtain ⟨q1, q2, q3⟩ := psr_eq hw hl k (acc ++ [xe p rest]) (rest.getD 0 0) (a + nx p rest) (by simp; omega) (by simp; omega) hr0 (by omega) (by omega) hdat
          refine ⟨fun j hj => ?_, fun j hj => ?_, q3⟩
          · obtain ⟨j', rfl⟩ : ∃ j', j = j' + 1 := ⟨j - 1, by omega⟩
            rw [himp, hlt, if_neg (by decide)]
            exact q1 j' (by omega)
          · obtain ⟨j', rfl⟩ : ∃ j', j = j' + 1 := ⟨j - 1, by omega⟩
            rw [hstep, if_neg (by simpa using hc), hlt]
            exact q2 j' (by omega)
      · obtain ⟨r, hone⟩ := one_er h3 hw hl h4 h5 hr h1 hc
        rw [if_pos (by simpa using hc)]
        refine ⟨fun j hj => ?_, fun j hj => ?_, by simp, by simp, Int.le_refl _, by dsimp only; omega⟩
        · obtain ⟨j', rfl⟩ : ∃ j', j = j' + 1 := ⟨j - 1, by omega⟩
          show F_ipsix_ParseChain_l1 (F_ipsix_ParseChain_L1 j') acc p b a = _
          unfold F_ipsix_ParseChain_l1
          rw [bh_eq, Option.bind_some, hb, if_pos rfl, hone, Option.bind_some, if_pos (by simpa using hc)]
        · obtain ⟨j', rfl⟩ : ∃ j', j = j' + 1 := ⟨j - 1, by omega⟩
          rw [hstep, if_pos (by simpa using hc)]
def pcs (first : Int) (b : List Int) : T_ipsix_Chain × Int × Int := psr b 17 first [] 0
theorem pcs_eq {b : List Int} (hw : Wf 256 b) (hl : b.length < 1000000) {first : Int} (hf : 0 ≤ first ∧ first < 256) : F_ipsix_ParseChain first b = some (pcs first b) ∧ F_ref06_ParseChain first b = some (rc (pcs first b).1, (pcs first b).2) ∧
      ((pcs first b).1.f_Exts.length ≤ 16 ∧ (∀ x ∈ (pcs first b).1.f_Exts, x.f_Data.length ≤ 2046) ∧ 0 ≤ (pcs first b).2.1 ∧ (pcs first b).2.1 ≤ b.length) := by
  obtain ⟨q1, q2, q3⟩ := psr_eq hw hl 17 [] first 0 (by simp) (by simp) hf (by omega) (by omega) (by simp)
  exact ⟨q1 fuel0 (by unfold fuel0; omega), q2 fuel0 (by unfold fuel0; omega), q3⟩
def zC : T_ipsix_Chain := ⟨[], 0⟩
theorem no_ok {b : List Int} (h : hpE b = 0) : F_docs_NoIpsix (h6 (hp b)) = some (h6 (hp b)) := by
  have := no_eq b
  rwa [if_pos h, if_pos h] at this
theorem no_e : F_docs_NoIpsix eH = some (h6 zH) := by
  have := no_eq []
  rwa [if_neg (by decide), if_neg (by decide)] at this
/-- A whole packet: its two readings. -/
theorem body_both {b : List Int} (hw : Wf 256 b) (hl : b.length ≤ 3000) : ∃ (h : T_ipsix_Header) (k : T_ref06_Header) (c : T_ipsix_Chain) (r : List Int) (e : Int),
    F_ipsix_Body b = some (h, c, r, e) ∧ F_ref06_Body b = some (k, rc c, r, e) ∧ (∃ x, F_docs_Ipsix h = some x ∧ F_docs_NoIpsix k = some x) ∧ c.f_Exts.length ≤ 16 ∧ (∀ x ∈ c.f_Exts, x.f_Data.length ≤ 2046) ∧ r.length ≤ 3000 := by
  by_cases he : hpE b = 0
  · have hlen := hp_len he
    have hb := lb_bd hw
    have hL : (hp b).f_Length = val ((b.drop 4).take 2) := rfl
    have hL6 : (h6 (hp b)).f_Length = val ((b.drop 4).take 2) := rfl
    have hN6 : (h6 (hp b)).f_Next = (hp b).f_Next := rfl
    have hN : 0 ≤ (hp b).f_Next ∧ (hp b).f_Next < 256 := byte_bd hw 6
    have h40 : ¬ (b.length : Int) < 40 := by
      unfold hpE at he
      split at he
      · cases he
      · assumption
    generalize hn : val ((b.drop 4).take 2) = n at hb hL hL6
    by_cases hs : (b.length : Int) < 40 + n
    · have hI : F_ipsix_Body b = some (zH, zC, [], 10) := by
        unfold F_ipsix_Body
        rw [hparse_eq hw (by omega), if_pos he, Option.bind_some]
        dsimp only
        rw [he, if_neg (by decide), hL, wi64 (n := n) (by omega) (by omega), wi64 (by omega) (by omega), if_pos (by simpa using hs)]
        rfl
      have hR : F_ref06_Body b = some (eH, rc zC, [], 10) := by
        unfold F_ref06_Body
        rw [rhparse_eq hw (by omega), if_pos he, Option.bind_some]
        dsimp only
        rw [he, if_neg (by decide), hL6, wi64 (n := n) (by omega) (by omega), wi64 (by omega) (by omega), if_pos (by simpa using hs)]
        rfl
      exact ⟨zH, eH, zC, [], 10, hI, hR, ⟨_, dzero, no_e⟩, by simp [zC], by simp [zC], by simp⟩
    · generalize hrest : (b.drop (40 : Int).toNat).take ((40 + n).toNat - (40 : Int).toNat) = rest
      have hwr : Wf 256 rest := by rw [← hrest]; exact (hw.drop _).take _
      have hlr : rest.length = n.toNat := by rw [← hrest]; simp; omega
      have hcut : gcut b 40 (40 + n) = some rest := by rw [gcut_in (by omega) (by omega) (by omega), hrest]
      obtain ⟨p1, p2, p3, p4, p5, p6⟩ := pcs_eq hwr (by omega) hN
      generalize pcs (hp b).f_Next rest = q at p1 p2 p3 p4 p5 p6
      obtain ⟨c, m, e⟩ := q
      dsimp only at p2 p3 p4 p5 p6
      by_cases hee : e = 0
      · subst hee
        have hc2 : gcut b (40 + m) (40 + n) = some (rest.drop m.toNat) := by
          rw [gcut_in (by omega) (by omega) (by omega), ← hrest, List.drop_take, List.drop_drop]
          congr 2
          · omega
          · congr 1; omega
        have hc3 : gcut rest m (rest.length : Int) = some (rest.drop m.toNat) := by
          rw [gcut_in p5 p6 (by omega), List.take_of_length_le (by simp)]
        have hI : F_ipsix_Body b = some (hp b, c, rest.drop m.toNat, 0) := by
          unfold F_ipsix_Body
          rw [hparse_eq hw (by omega), if_pos he, Option.bind_some]
          dsimp only
          rw [he, if_neg (by decide), hL, wi64 (n := n) (by omega) (by omega), wi64 (n := 40 + n) (by omega) (by omega), if_neg (by simpa using hs), hcut, Option.bind_some, p1, Option.bind_some]
          unfold F_ipsix_Body_j1 F_ipsix_Body_j2
          dsimp only
          rw [if_neg (by decide), hL, wi64 (n := n) (by omega) (by omega), wi64 (n := 40 + n) (by omega) (by omega), wi64 (n := 40 + m) (by omega) (by omega), hc2, Option.bind_some]
          unfold F_bytes_Clone
          rw [if_pos (limk (by simp; omega))]
          rfl
        have hR : F_ref06_Body b = some (h6 (hp b), rc c, rest.drop m.toNat, 0) := by
          unfold F_ref06_Body
          rw [rhparse_eq hw (by omega), if_pos he, Option.bind_some]
          dsimp only
          rw [he, if_neg (by decide), hL6, wi64 (n := n) (by omega) (by omega), wi64 (n := 40 + n) (by omega) (by omega), if_neg (by simpa using hs), hcut, Option.bind_some, hN6, p2, Option.bind_some]
          dsimp only
          rw [if_neg (by decide), hc3, Option.bind_some]
          rfl
        exact ⟨hp b, h6 (hp b), c, _, 0, hI, hR, ⟨_, dIp hlen.1 hlen.2, no_ok he⟩, p3, p4, by simp; omega⟩
      · have hI : F_ipsix_Body b = some (zH, zC, [], e) := by
          unfold F_ipsix_Body
          rw [hparse_eq hw (by omega), if_pos he, Option.bind_some]
          dsimp only
          rw [he, if_neg (by decide), hL, wi64 (n := n) (by omega) (by omega), wi64 (n := 40 + n) (by omega) (by omega), if_neg (by simpa using hs), hcut, Option.bind_some, p1, Option.bind_some]
          unfold F_ipsix_Body_j1
          rw [if_pos (by simpa using hee)]
          rfl
        have hR : F_ref06_Body b = some (eH, rc zC, [], e) := by
          unfold F_ref06_Body
          rw [rhparse_eq hw (by omega), if_pos he, Option.bind_some]
          dsimp only
          rw [he, if_neg (by decide), hL6, wi64 (n := n) (by omega) (by omega), wi64 (n := 40 + n) (by omega) (by omega), if_neg (by simpa using hs), hcut, Option.bind_some, hN6, p2, Option.bind_some]
          dsimp only
          rw [if_pos (by simpa using hee)]
          rfl
        exact ⟨zH, eH, zC, [], e, hI, hR, ⟨_, dzero, no_e⟩, by simp [zC], by simp [zC], by simp⟩
  · have hI : F_ipsix_Body b = some (zH, zC, [], hpE b) := by
      unfold F_ipsix_Body
      rw [hparse_eq hw (by omega), if_neg he, Option.bind_some]
      dsimp only
      rw [if_pos (by simpa using he)]
      rfl
    have hR : F_ref06_Body b = some (eH, rc zC, [], hpE b) := by
      unfold F_ref06_Body
      rw [rhparse_eq hw (by omega), if_neg he, Option.bind_some]
      dsimp only
      rw [if_pos (by simpa using he)]
      rfl
    exact ⟨zH, eH, zC, [], hpE b, hI, hR, ⟨_, dzero, no_e⟩, by simp [zC], by simp [zC], by simp⟩
theorem spoil_L (k : Nat) : ∀ (b : List Int) (j : Nat), j ≤ b.length → b.length < k + j → b.length < 1000000 → ∃ c, F_kit_Spoil_L1 k b j = some c := by
  induction k with
  | zero => intro b j h1 h2; omega
  | succ k ih =>
    intro b j h1 h2 h3
    show ∃ c, F_kit_Spoil_l1 (F_kit_Spoil_L1 k) b j = _
    unfold F_kit_Spoil_l1
    by_cases h : j < b.length
    · have e1 : IntKind.i64.wrap ((j : Int) + 1) = ((j + 1 : Nat) : Int) := by rw [wi64 (by omega) (by omega)]; omega
      rw [if_pos (by simp; omega), gidx_nat (List.getElem?_eq_getElem h), Option.bind_some, e1]
      exact ih _ (j + 1) (by simp; omega) (by simp; omega) (by simpa using h3)
    · rw [if_neg (by simp; omega)]
      exact ⟨_, rfl⟩
theorem spoil_eq {b : List Int} (h : b.length < 1000000) : ∃ c, F_kit_Spoil b = some c := spoil_L fuel0 b 0 (by omega) (by unfold fuel0; omega) h
def Sh (l : List T_ipsix_Ext) : Prop := ∀ x ∈ l, x.f_Data.length ≤ 2046
theorem pl3_eq {t : Int} {rec : Int → Option Bool} (k : Nat) : ∀ (l : List T_ipsix_Ext) (j : Nat), j ≤ l.length → l.length < k + j → l.length < 1000000 → (∀ i, j ≤ i → ∀ x, l[i]? = some x → x.f_Data.length ≤ 2046) → F_law06_IpsixParses_L3 t rec k l j = rec (IntKind.i64.wrap (t + 1)) := by
  induction k with
  | zero => intro b j h1 h2; omega
  | succ k ih =>
    intro b j h1 h2 h3 hb
    show F_law06_IpsixParses_l3 (F_law06_IpsixParses_L3 t rec k) t rec b j = _
    unfold F_law06_IpsixParses_l3
    by_cases h : j < b.length
    · have e1 : IntKind.i64.wrap ((j : Int) + 1) = ((j + 1 : Nat) : Int) := by rw [wi64 (by omega) (by omega)]; omega
      obtain ⟨c, hc⟩ := spoil_eq (b := b[j].f_Data) (by have := hb j (Nat.le_refl _) _ (List.getElem?_eq_getElem h); omega)
      rw [if_pos (by simp; omega), gidx_nat (List.getElem?_eq_getElem h), Option.bind_some, hc, Option.bind_some, Int.toNat_natCast, e1]
      refine ih _ (j + 1) (by simp; omega) (by simp; omega) (by simpa using h3) fun i hi x hx => ?_
      rw [List.getElem?_set_ne (by omega)] at hx
      exact hb i (by omega) x hx
    · rw [if_neg (by simp; omega)]
theorem pl2_eq {t : Int} {rec : Int → Option Bool} {m : List T_ipsix_Ext} (hm : m.length ≤ 16) (hs : Sh m) (k : Nat) : ∀ (l : List T_ipsix_Ext) (j : Nat), j ≤ l.length → l.length < k + j → l.length < 1000000 → (∀ i, j ≤ i → ∀ x, l[i]? = some x → x.f_Data.length ≤ 2046) → F_law06_IpsixParses_L2 t rec k l m j = rec (IntKind.i64.wrap (t + 1)) := by
  induction k with
  | zero => intro b j h1 h2; omega
  | succ k ih =>
    intro b j h1 h2 h3 hb
    show F_law06_IpsixParses_l2 (F_law06_IpsixParses_L2 t rec k) t rec b m j = _
    unfold F_law06_IpsixParses_l2
    by_cases h : j < b.length
    · have e1 : IntKind.i64.wrap ((j : Int) + 1) = ((j + 1 : Nat) : Int) := by rw [wi64 (by omega) (by omega)]; omega
      obtain ⟨c, hc⟩ := spoil_eq (b := b[j].f_Data) (by have := hb j (Nat.le_refl _) _ (List.getElem?_eq_getElem h); omega)
      rw [if_pos (by simp; omega), gidx_nat (List.getElem?_eq_getElem h), Option.bind_some, hc, Option.bind_some, Int.toNat_natCast, e1]
      refine ih _ (j + 1) (by simp; omega) (by simp; omega) (by simpa using h3) fun i hi x hx => ?_
      rw [List.getElem?_set_ne (by omega)] at hx
      exact hb i (by omega) x hx
    · rw [if_neg (by simp; omega)]
      exact pl3_eq fuel0 m 0 (by omega) (by unfold fuel0; omega) (by omega) fun i _ x hx => hs x (List.mem_of_getElem? hx)
theorem pl1_eq {first : Int} (hf : 0 ≤ first ∧ first < 256) {b : List Int} (hw : Wf 256 b) (hl : b.length ≤ 3000) (k : Nat) : ∀ t : Nat, t ≤ 2 → 2 < k + t → F_law06_IpsixParses_L1 first b b k t = some true := by
  obtain ⟨p1, p2, p3, p4, p5, p6⟩ := pcs_eq hw (by omega) hf
  obtain ⟨h, kk, c, r, e, b1, b2, ⟨x, b3, b4⟩, b5, b6, b7⟩ := body_both hw hl
  induction k with
  | zero => intro t h1 h2; omega
  | succ k ih =>
    intro t g1 g2
    show F_law06_IpsixParses_l1 (F_law06_IpsixParses_L1 first b b k) first b b t = _
    unfold F_law06_IpsixParses_l1
    by_cases ht : t < 2
    · have e1 : IntKind.i64.wrap ((t : Int) + 1) = ((t + 1 : Nat) : Int) := by rw [wi64 (by omega) (by omega)]; omega
      obtain ⟨sp, hsp⟩ := spoil_eq (b := r) (by omega)
      rw [if_pos (by simp; omega), p1, p2, Option.bind_some, Option.bind_some, if_neg (by simp), if_neg (by simp), docs_eq (by omega), Option.bind_some, rSame_eq (by omega), Option.bind_some, sm_refl]
      unfold F_law06_IpsixParses_j1 F_law06_IpsixParses_j2
      rw [show (!true) = false from rfl, if_neg (by decide), b1, b2, Option.bind_some, Option.bind_some, if_neg (by simp)]
      dsimp only
      rw [b3, b4, Option.bind_some, Option.bind_some, q6_refl, if_neg (by decide), docs_eq (c := c) (by omega), Option.bind_some, rSame_eq (by omega), Option.bind_some, sm_refl, if_neg (by decide), sb_eq (by omega), Option.bind_some, show (!true) = false from rfl, if_neg (by decide), hsp, Option.bind_some]
      refine (pl2_eq b5 b6 fuel0 _ 0 (by omega) (by unfold fuel0; omega) (by omega) fun i _ x hx => p4 x (List.mem_of_getElem? hx)).trans ?_
      rw [e1]
      exact ih (t + 1) (by omega) (by omega)
    · rw [if_neg (by simp; omega), sb_eq (by omega), Option.bind_some, if_pos rfl, works_eq]
      rfl
theorem parses_eq {first : Int} (hf : 0 ≤ first ∧ first < 256) {b : List Int} (hw : Wf 256 b) : F_law06_IpsixParses first b = some true := by
  unfold F_law06_IpsixParses
  by_cases h : 3000 < b.length
  · rw [if_pos (by simp; omega), works_eq]; rfl
  · unfold F_kit_Own
    rw [if_neg (by simp; omega), if_pos (limk (by omega)), Option.bind_some]
    exact pl1_eq hf hw (by omega) fuel0 0 (by omega) (by unfold fuel0; omega)
end Go.Proofs.Ytikjomacnbemhaa
