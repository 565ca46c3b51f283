/- The plain law of the chapter on segments, what bits and sums are: what the printed functions compute. No program's code is named here. -/
import Derived.Test.YtcinagdkkclapaaF
import Derived.Test.YtcinagdkkclapaaOxP
set_option linter.unusedVariables false
namespace Go.Proofs.Ytcinagdkkclapaa
open Go Go.Ox Go.RowKit
def U (v : Int) : Prop := 0 ≤ v ∧ v < 18446744073709551616
def I (v : Int) : Prop := -9223372036854775808 ≤ v ∧ v ≤ 9223372036854775807
theorem p256 (n : Nat) : (0 : Int) < 256 ^ n := Int.pow_pos (by decide)
theorem p256s (n : Nat) : (256 : Int) ^ (n + 1) = 256 ^ n * 256 := Int.pow_succ _ _

theorem e8 : (256 : Int) ^ 8 = 18446744073709551616 := by decide
theorem e7 : (256 : Int) ^ 7 = 72057594037927936 := by decide
theorem pmono {m n : Nat} (h : m ≤ n) : (256 : Int) ^ m ≤ 256 ^ n := by
 induction n with
 | zero => rw [show m = 0 by omega]; exact Int.le_refl _
 | succ n ih =>
  rcases Nat.lt_or_ge n m with h1 | h1
  ·rw [show m = n + 1 by omega]; exact Int.le_refl _
  ·have := ih h1; have := p256 n; rw [p256s]; omega

def dgs : Nat → Int → Int
 | 0, _ => 0
 | m + 1, v => if 0 < v then 1 + dgs m (v / 256) else 0
theorem dgs_nn : ∀ (m : Nat) (v : Int), 0 ≤ dgs m v
 | 0, v => by simp [dgs]
 | m + 1, v => by have := dgs_nn m (v / 256); unfold dgs; split <;> omega
theorem dgs_le : ∀ (m : Nat) (v : Int) (n : Nat), 0 ≤ v → v < 256 ^ m → (dgs m v ≤ n ↔ v < 256 ^ n)
 | 0, v, n, h0, h1 => by
  have := p256 n
  simp at h1
  simp only [dgs]
  omega
 | m + 1, v, n, h0, h1 => by
  rw [p256s] at h1
  unfold dgs
  by_cases hv : 0 < v
  ·rw [if_pos hv]
   cases n with
   | zero => have := dgs_nn m (v / 256); simp; omega
   | succ n =>
    have ih := dgs_le m (v / 256) n (by omega) (by omega)
    rw [p256s]
    have hp := p256 n
    constructor
    ·intro h
     have := ih.1 (by omega)
     omega
    ·intro h
     have := ih.2 (by omega)
     omega
  ·rw [if_neg hv]
   have := p256 n
   omega
def lst (v : Int) : Int := 1 + dgs 8 (v / 256)
theorem lst_pos (v : Int) : 1 ≤ lst v := by have := dgs_nn 8 (v / 256); unfold lst; omega
theorem lst_le {v : Int} (hv : U v) {n : Nat} (hn : 1 ≤ n) : lst v ≤ n ↔ v < 256 ^ n := by
 obtain ⟨m, rfl⟩ : ∃ m, n = m + 1 := ⟨n - 1, by omega⟩
 have h := dgs_le 8 (v / 256) m (by have := hv.1; omega) (by have := hv.2; rw [e8]; omega)
 unfold lst
 rw [p256s]
 have := p256 m
 constructor
 ·intro h1
  have := h.1 (by omega)
  omega
 ·intro h1
  have := h.2 (by omega)
  omega
theorem lst_8 {v : Int} (hv : U v) : lst v ≤ 8 := (lst_le hv (n := 8) (by decide)).2 (by have := hv.2; rw [e8]; omega)
theorem shr8 {n : Int} (h0 : 0 ≤ n) : Ox.shr .u64 n 8 = n / 256 := by
 show n.fdiv (2 ^ (min 8 64)) = _
 rw [Int.fdiv_eq_ediv_of_nonneg _ (by decide)]
 rfl
theorem least_L : ∀ (m k : Nat) (v n : Int), 0 ≤ v → v < 256 ^ m → m < k → 0 ≤ n → n + m ≤ 1000 → F_bits_Least_L1 k v n = some (n + dgs m v)
 | m, 0, v, n, h0, h1, h2, h3, h4 => by omega
 | 0, k + 1, v, n, h0, h1, h2, h3, h4 => by
  simp at h1
  show F_bits_Least_l1 (F_bits_Least_L1 k) v n = _
  unfold F_bits_Least_l1
  rw [if_neg (by simp; omega)]
  simp [dgs]
 | m + 1, k + 1, v, n, h0, h1, h2, h3, h4 => by
  rw [p256s] at h1
  show F_bits_Least_l1 (F_bits_Least_L1 k) v n = _
  unfold F_bits_Least_l1
  by_cases hv : 0 < v
  ·rw [if_pos (by simpa using hv), shr8 h0, wi64 (by omega) (by omega), least_L m k _ _ (by omega) (by omega) (by omega) (by omega) (by omega)]
   simp only [dgs, if_pos hv]
   congr 1; omega
  ·rw [if_neg (by simpa using hv)]
   simp [dgs, if_neg hv]
theorem least_eq {v : Int} (hv : U v) : F_bits_Least v = some (lst v) := by
 have h := hv.1; have h2 := hv.2
 unfold F_bits_Least
 rw [shr8 h]
 exact least_L 8 _ _ _ (by omega) (by rw [e8]; omega) (by unfold fuel0; omega) (by omega) (by omega)
def fit (v n : Int) : Bool := decide (1 ≤ n) && decide (n ≤ 8) && decide (v < 256 ^ n.toNat)
theorem fit_iff {v n : Int} : fit v n = true ↔ 1 ≤ n ∧ n ≤ 8 ∧ v < 256 ^ n.toNat := by simp [fit, and_assoc]
theorem fit_lst {v : Int} (hv : U v) {n : Int} (h1 : 1 ≤ n) (h8 : n ≤ 8) : fit v n = decide (lst v ≤ n) := by
 have := lst_le hv (n := n.toNat) (by omega)
 rw [show ((n.toNat : Nat) : Int) = n by omega] at this
 simp only [fit, h1, h8, decide_true, Bool.true_and]
 exact decide_eq_decide.2 this.symm
theorem bfits_eq {v n : Int} (hv : U v) : F_bits_fits v n = some (fit v n) := by
 unfold F_bits_fits F_bits_right F_bits_right_j1
 by_cases h1 : 1 ≤ n
 ·rw [if_pos (by simpa using h1), Option.bind_some]
  by_cases h8 : n ≤ 8
  ·rw [if_pos (by simpa using h8), least_eq hv, Option.bind_some, fit_lst hv h1 h8]; rfl
  ·rw [if_neg (by simpa using h8)]
   simp [F_bits_fits_j1, fit, h8]
 ·rw [if_neg (by simpa using h1), Option.bind_some, if_neg (by decide)]
  simp [F_bits_fits_j1, fit, h1]
def put : Nat → Int → List Int
 | 0, _ => []
 | n + 1, v => put n (v / 256) ++ [v % 256]
theorem put_len : ∀ (n : Nat) (v : Int), (put n v).length = n
 | 0, v => rfl
 | n + 1, v => by simp [put, put_len n]
theorem put_wf : ∀ (n : Nat) (v : Int), Wf 256 (put n v)
 | 0, v => Wf.nil
 | n + 1, v => (put_wf n _).app (Wf.cons (by omega) Wf.nil)
theorem put_front : ∀ (n : Nat) (v : Int), put (n + 1) v = (v / 256 ^ n % 256) :: put n v
 | 0, v => by simp [put]
 | n + 1, v => by
  rw [put, put_front n (v / 256)]
  simp only [put, List.cons_append, List.cons.injEq, and_true]
  rw [p256s, Int.mul_comm, Int.ediv_ediv_of_nonneg (by decide)]
theorem shr_t {v : Int} (hv : 0 ≤ v) {t : Nat} (ht : t ≤ 7) : Ox.shr .u64 v (8 * (t : Int)) = v / 256 ^ t := by
 have : t = 0 ∨ t = 1 ∨ t = 2 ∨ t = 3 ∨ t = 4 ∨ t = 5 ∨ t = 6 ∨ t = 7 := by omega
 have e : ∀ m : Nat, v.fdiv (2 ^ m) = v / 2 ^ m := fun m => Int.fdiv_eq_ediv_of_nonneg _ (Int.le_of_lt (Int.pow_pos (by decide)))
 rcases this with rfl | rfl | rfl | rfl | rfl | rfl | rfl | rfl <;> (unfold Ox.shr; rw [e]; rfl)
theorem of_L {v : Int} (hv : U v) {n : Nat} (hn : n ≤ 8) : ∀ (k t : Nat), t ≤ n → n < k + t → F_bits_of_L1 v n k (List.replicate (n - t) 0 ++ put t v) (t : Int) = some (put n v)
 | 0, t, h1, h2 => by omega
 | k + 1, t, h1, h2 => by
  show F_bits_of_l1 (F_bits_of_L1 v n k) v n _ _ = _
  unfold F_bits_of_l1
  by_cases h : t < n
  ·obtain ⟨m, hm⟩ : ∃ m, n - t = m + 1 := ⟨n - t - 1, by omega⟩
   have e0 : IntKind.i64.wrap ((n : Int) - 1) = (n : Int) - 1 := wi64 (by omega) (by omega)
   have e1 : IntKind.i64.wrap ((n : Int) - 1 - t) = (m : Int) := by rw [wi64 (by omega) (by omega)]; omega
   have e2 : IntKind.i64.wrap (8 * (t : Int)) = 8 * (t : Int) := wi64 (by omega) (by omega)
   have e3 : IntKind.i64.wrap ((t : Int) + 1) = ((t + 1 : Nat) : Int) := by rw [wi64 (by omega) (by omega)]; omega
   rw [if_pos (by simpa using h), e2, if_pos (by simp; omega), e0, e1, hm]
   have hg : gidx (List.replicate (m + 1) 0 ++ put t v) (m : Int) = some 0 := gidx_nat (by rw [List.getElem?_append_left (by simp)]; simp)
   rw [hg, Option.bind_some, e3, shr_t hv.1 (by omega), wu8]
   have hs : (List.replicate (m + 1) 0 ++ put t v).set (m : Int).toNat (v / 256 ^ t % 256) = List.replicate (n - (t + 1)) 0 ++ put (t + 1) v := by
    rw [put_front, List.replicate_succ', show n - (t + 1) = m by omega]
    simp
   rw [hs]
   exact of_L hv hn k (t + 1) (by omega) (by omega)
  ·rw [if_neg (by simpa using h), show t = n by omega]
   simp
theorem of_eq {v : Int} (hv : U v) {n : Int} (h0 : 0 ≤ n) (hn : n ≤ 8) : F_bits_of v n = some (put n.toNat v) := by
 obtain ⟨m, rfl⟩ := Int.eq_ofNat_of_zero_le h0
 unfold F_bits_of
 rw [if_pos (by simp only [lim]; simp; omega)]
 have := of_L hv (n := m) (by omega) fuel0 0 (by omega) (by unfold fuel0; omega)
 simpa [put] using this
theorem rput_L : ∀ (k n : Nat) (v : Int), U v → n ≤ 8 → n < k → F_ref01_Put_R k v (n : Int) = some (put n v)
 | 0, n, v, hv, h8, hk => by omega
 | k + 1, 0, v, hv, h8, hk => by
  show F_ref01_Put_B (F_ref01_Put_R k) v _ = _
  unfold F_ref01_Put_B
  rw [if_pos (by simp)]; rfl
 | k + 1, n + 1, v, hv, h8, hk => by
  have h := hv.1; have h' := hv.2
  show F_ref01_Put_B (F_ref01_Put_R k) v _ = _
  unfold F_ref01_Put_B
  have e : IntKind.i64.wrap (((n + 1 : Nat) : Int) - 1) = (n : Int) := by rw [wi64 (by omega) (by omega)]; omega
  rw [if_neg (by simp; omega), tdiv_nn h, tmod_nn h, wu64i (by omega) (by omega), e, rput_L k n (v / 256) ⟨by omega, by omega⟩ (by omega) (by omega), Option.bind_some, if_pos (lim_le (by simp [put_len]; omega)), wu8i (by omega) (by omega)]
  rfl
theorem rput_eq {v : Int} (hv : U v) {n : Int} (h0 : 0 ≤ n) (hn : n ≤ 8) : F_ref01_Put v n = some (put n.toNat v) := by
 obtain ⟨m, rfl⟩ := Int.eq_ofNat_of_zero_le h0
 exact rput_L _ _ _ hv (by omega) (by unfold fuel0; omega)

def vl (a : Int) (b : List Int) : Int := b.foldl (fun a x => a * 256 + x) a
def val (b : List Int) : Int := vl 0 b
theorem vl_snoc (a : Int) (b : List Int) (x : Int) : vl a (b ++ [x]) = vl a b * 256 + x := by simp [vl]
theorem vl_bd : ∀ (b : List Int) (a : Int), 0 ≤ a → Wf 256 b → 0 ≤ vl a b ∧ vl a b < (a + 1) * 256 ^ b.length
 | [], a, h, hw => by simp [vl]; omega
 | x :: b, a, h, hw => by
  have hx := hw.head
  have ih := vl_bd b (a * 256 + x) (by omega) hw.tail
  refine ⟨ih.1, Int.lt_of_lt_of_le ih.2 ?_⟩
  rw [List.length_cons, p256s, Int.mul_comm (256 ^ b.length), ← Int.mul_assoc]
  exact Int.mul_le_mul_of_nonneg_right (by omega) (Int.le_of_lt (p256 _))
theorem val_put : ∀ (n : Nat) (v : Int), 0 ≤ v → v < 256 ^ n → val (put n v) = v
 | 0, v, h0, h1 => by simp at h1; simp [put, val, vl]; omega
 | n + 1, v, h0, h1 => by
  rw [p256s] at h1
  unfold val
  rw [put, vl_snoc]
  have := val_put n (v / 256) (by omega) (by omega)
  unfold val at this
  rw [this]; omega
theorem or8 {v x : Int} (h0 : 0 ≤ v) (h1 : v * 256 < 18446744073709551616) (hx : 0 ≤ x ∧ x < 256) : bits .or .u64 (Ox.shl .u64 v 8) (IntKind.u64.wrap x) = v * 256 + x := by
 have e : Ox.shl .u64 v 8 = v * 256 := by
  show IntKind.u64.wrap (v * 256) = _
  rw [wu64i (by omega) h1]
 rw [e, wu64i hx.1 (by omega)]
 obtain ⟨m, rfl⟩ := Int.eq_ofNat_of_zero_le h0
 obtain ⟨y, rfl⟩ := Int.eq_ofNat_of_zero_le hx.1
 show IntKind.u64.wrap ((BitVec.ofInt 64 ((m : Int) * 256) ||| BitVec.ofInt 64 (y : Int)).toNat : Int) = _
 have e1 : (BitVec.ofInt 64 ((m : Int) * 256)).toNat = m * 256 := by rw [show (m : Int) * 256 = ((m * 256 : Nat) : Int) by omega, BitVec.ofInt_natCast, BitVec.toNat_ofNat]; exact Nat.mod_eq_of_lt (by omega)
 have e2 : (BitVec.ofInt 64 (y : Int)).toNat = y := by rw [BitVec.ofInt_natCast, BitVec.toNat_ofNat]; exact Nat.mod_eq_of_lt (by omega)
 have e3 : m * 256 ||| y = m * 256 + y := by
  have := Nat.shiftLeft_add_eq_or_of_lt (a := m) (i := 8) (b := y) (by omega)
  rw [Nat.shiftLeft_eq] at this
  exact this.symm
 rw [BitVec.toNat_or, e1, e2, e3, wu64i (by omega) (by omega)]
 omega
theorem value_L {b : List Int} (hw : Wf 256 b) (hl : b.length ≤ 8) : ∀ (k j : Nat), j ≤ b.length → b.length < k + j → F_bits_value_L1 b k (val (b.take j)) (j : Int) = some (val b)
 | 0, j, h1, h2 => by omega
 | k + 1, j, h1, h2 => by
  show F_bits_value_l1 (F_bits_value_L1 b k) b _ _ = _
  unfold F_bits_value_l1
  by_cases h : j < b.length
  ·have hg : b[j]? = some b[j] := List.getElem?_eq_getElem h
   have hx := hw.get hg
   have hb := vl_bd (b.take j) 0 (by omega) (hw.take j)
   have hlt : (256 : Int) ^ (b.take j).length ≤ 256 ^ 7 := pmono (by simp; omega)
   have e3 : IntKind.i64.wrap ((j : Int) + 1) = ((j + 1 : Nat) : Int) := by rw [wi64 (by omega) (by omega)]; omega
   have hb2 : vl 0 (b.take j) < 256 ^ 7 := by omega
   rw [e7] at hb2
   rw [if_pos (by simpa using h), gidx_nat hg, Option.bind_some]
   unfold val
   rw [or8 hb.1 (by omega) hx, e3, ← vl_snoc, show List.take j b ++ [b[j]] = List.take (j + 1) b by rw [List.take_add_one, hg]; rfl]
   exact value_L hw hl k (j + 1) (by omega) (by omega)
  ·rw [if_neg (by simpa using h), show j = b.length by omega, List.take_length]
theorem value_eq {b : List Int} (hw : Wf 256 b) (hl : b.length ≤ 8) : F_bits_value b = some (val b) := by
 have := value_L hw hl fuel0 0 (by omega) (by unfold fuel0; omega)
 exact this
def gt (b : List Int) (p n : Int) : Int × Int := if n < 1 ∨ 8 < n ∨ p < 0 then (0, 2) else if b.length < p + n then (0, 10) else (val ((b.drop p.toNat).take n.toNat), 0)
theorem bget_eq {b : List Int} (hw : Wf 256 b) (hl : b.length < 100000000) {p n : Int} (hp : I p) : F_bits_Get b p n = some (gt b p n) := by
 have hp1 := hp.1; have hp2 := hp.2
 have key : ¬ (n < 1 ∨ 8 < n ∨ p < 0) → F_bits_Get_j1 b p n false = some (gt b p n) := fun hc => by
  unfold F_bits_Get_j1 gt
  rw [if_neg (by decide), if_neg hc]
  by_cases h : (b.length : Int) < p
  ·rw [if_pos (by simpa using h), if_pos (by omega)]; rfl
  ·rw [if_neg (by simpa using h), wi64 (by omega) (by omega)]
   unfold F_bits_Get_j2
   by_cases h2 : (b.length : Int) < p + n
   ·rw [if_pos (by simp; omega), if_pos h2]
   ·rw [if_neg (by simp; omega), if_neg h2, wi64 (by omega) (by omega), gcut_in (by omega) (by omega) (by omega), Option.bind_some, show (p + n).toNat - p.toNat = n.toNat by omega, value_eq ((hw.drop _).take _) (by simp; omega)]
    rfl
 have bad : (n < 1 ∨ 8 < n ∨ p < 0) → F_bits_Get_j1 b p n true = some (gt b p n) := fun hc => by
  unfold F_bits_Get_j1 gt
  rw [if_pos (by decide), if_pos hc]
 unfold F_bits_Get F_bits_right F_bits_right_j1
 by_cases h1 : 1 ≤ n
 ·rw [if_pos (by simpa using h1), Option.bind_some]
  by_cases h8 : n ≤ 8
  ·rw [if_neg (by simpa using h8)]
   by_cases h0 : p < 0
   ·rw [decide_eq_true h0]; exact bad (by omega)
   ·rw [decide_eq_false h0]; exact key (by omega)
  ·rw [if_pos (by simpa using h8)]; exact bad (by omega)
 ·rw [if_neg (by simpa using h1), Option.bind_some, if_pos (by decide)]
  exact bad (by omega)
theorem rget_L {b : List Int} (hw : Wf 256 b) (hl : b.length < 100000000) {p n : Int} (hp : 0 ≤ p) (hp2 : p ≤ 9223372036854775807) (hn : 1 ≤ n) (h8 : n ≤ 8) : ∀ (k i : Nat), (i : Int) ≤ n → n < k + i → (0 < i → p + i ≤ b.length) →
  F_ref01_Get_L1 b p n k (val ((b.drop p.toNat).take i)) (i : Int) = some (gt b p n)
 | 0, i, h1, h2, h3 => by omega
 | k + 1, i, h1, h2, h3 => by
  show F_ref01_Get_l1 (F_ref01_Get_L1 b p n k) b p n _ _ = _
  have hc : ¬ (n < 1 ∨ 8 < n ∨ p < 0) := by omega
  unfold F_ref01_Get_l1
  by_cases h : (i : Int) < n
  ·rw [if_pos (by simpa using h)]
   unfold F_ref01_Get_j2
   by_cases hA : (b.length : Int) < p
   ·rw [if_pos (by simpa using hA), if_pos (by decide)]
    unfold gt
    rw [if_neg hc, if_pos (by omega)]
   ·rw [if_neg (by simpa using hA), wi64 (by omega) (by omega)]
    by_cases hB : (b.length : Int) ≤ p + i
    ·rw [if_pos (by simpa using hB)]
     unfold gt
     rw [if_neg hc, if_pos (by omega)]
    ·rw [if_neg (by simpa using hB)]
     have hpi : p + (i : Int) = ((p.toNat + i : Nat) : Int) := by omega
     have hlt : p.toNat + i < b.length := by omega
     have hg : b[p.toNat + i]? = some b[p.toNat + i] := List.getElem?_eq_getElem hlt
     have hx := hw.get hg
     have hb := vl_bd ((b.drop p.toNat).take i) 0 (by omega) ((hw.drop _).take i)
     have hle : (256 : Int) ^ ((b.drop p.toNat).take i).length ≤ 256 ^ 7 := pmono (by simp; omega)
     have hb2 : vl 0 ((b.drop p.toNat).take i) < 256 ^ 7 := by omega
     rw [e7] at hb2
     have e3 : IntKind.i64.wrap ((i : Int) + 1) = ((i + 1 : Nat) : Int) := by rw [wi64 (by omega) (by omega)]; omega
     have ev : IntKind.u64.wrap (IntKind.u64.wrap (val ((b.drop p.toNat).take i) * 256) + IntKind.u64.wrap b[p.toNat + i]) = val ((b.drop p.toNat).take i) * 256 + b[p.toNat + i] := by
      unfold val
      have := hb.1
      rw [wu64i (n := _ * 256) (by omega) (by omega), wu64i hx.1 (by omega), wu64i (by omega) (by omega)]
     rw [hpi, gidx_nat hg, Option.bind_some, ev, e3]
     unfold val
     have ht : (b.drop p.toNat).take i ++ [b[p.toNat + i]] = (b.drop p.toNat).take (i + 1) := by
      rw [List.take_add_one, List.getElem?_drop, hg]; rfl
     rw [← vl_snoc, ht]
     exact rget_L hw hl hp hp2 hn h8 k (i + 1) (by omega) (by omega) (by omega)
  ·rw [if_neg (by simpa using h)]
   have : (i : Int) = n := by omega
   unfold gt
   rw [if_neg hc, if_neg (by have := h3 (by omega); omega), show n.toNat = i by omega]
theorem rget_eq {b : List Int} (hw : Wf 256 b) (hl : b.length < 100000000) {p n : Int} (hp : I p) : F_ref01_Get b p n = some (gt b p n) := by
 have bad : (n < 1 ∨ 8 < n ∨ p < 0) → F_ref01_Get_j1 b p n true = some (gt b p n) := fun hc => by
  unfold F_ref01_Get_j1 gt
  rw [if_pos (by decide), if_pos hc]
 unfold F_ref01_Get
 by_cases h1 : n < 1
 ·rw [if_pos (by simpa using h1)]; exact bad (by omega)
 ·rw [if_neg (by simpa using h1)]
  by_cases h8 : 8 < n
  ·rw [if_pos (by simpa using h8)]; exact bad (by omega)
  ·rw [if_neg (by simpa using h8)]
   by_cases h0 : p < 0
   ·rw [decide_eq_true h0]; exact bad (by omega)
   ·rw [decide_eq_false h0]
    unfold F_ref01_Get_j1
    rw [if_neg (by decide)]
    have := rget_L hw hl (p := p) (n := n) (by omega) hp.2 (by omega) (by omega) fuel0 0 (by omega) (by unfold fuel0; omega) (by omega)
    simpa [val, vl] using this
theorem limk {n : Nat} (h : n < 1000000000000) : decide (n ≤ lim) = true := lim_le h
theorem wput_eq {w : List Int} (hl : w.length < 1000000) {v n : Int} (hv : U v) : F_bits_Writer_Put ⟨w⟩ v n = some (if fit v n = true then (0, ⟨w ++ put n.toNat v⟩) else (2, ⟨w⟩)) := by
 unfold F_bits_Writer_Put
 rw [bfits_eq hv, Option.bind_some]
 cases hf : fit v n with
 | false => simp
 | true =>
  obtain ⟨h1, h8, _⟩ := fit_iff.1 hf
  rw [if_neg (by decide), of_eq hv (by omega) h8, Option.bind_some]
  unfold F_bits_Writer_Raw
  rw [if_pos (limk (by simp [put_len]; omega)), Option.bind_some, if_pos rfl]
theorem cpR_put {w : List Int} {p n : Int} {v : Int} (h0 : 0 ≤ p) (hp : p ≤ w.length) (hn : 0 ≤ n) (hle : p + n ≤ w.length) : cpR p.toNat (Nat.min (put n.toNat v).length (w.drop p.toNat).length) w (put n.toNat v) = w.take p.toNat ++ put n.toNat v ++ w.drop (p + n).toNat := by
 have e : Nat.min (put n.toNat v).length (w.drop p.toNat).length = n.toNat := by
  rw [put_len, List.length_drop]
  exact Nat.min_eq_left (by omega)
 rw [e]
 unfold cpR
 rw [List.take_of_length_le (l := put n.toNat v) (by rw [put_len]; omega), show p.toNat + n.toNat = (p + n).toNat by omega]
theorem wset_eq {w : List Int} (hl : w.length < 1000000) {p v n : Int} (hv : U v) : F_bits_Writer_Set ⟨w⟩ p v n =
  some (if (fit v n && decide (0 ≤ p) && decide (p + n ≤ w.length)) = true then (0, ⟨w.take p.toNat ++ put n.toNat v ++ w.drop (p + n).toNat⟩) else (2, ⟨w⟩)) := by
 unfold F_bits_Writer_Set
 rw [bfits_eq hv, Option.bind_some]
 cases hf : fit v n with
 | false => simp [F_bits_Writer_Set_j1]
 | true =>
  obtain ⟨h1, h8, _⟩ := fit_iff.1 hf
  rw [if_neg (by decide)]
  unfold F_bits_Writer_Set_j1
  dsimp only
  by_cases h0 : p < 0
  ·rw [if_pos (by simpa using h0), if_pos (by decide), if_neg (by simp; omega)]
  ·rw [if_neg (by simpa using h0)]
   by_cases hA : (w.length : Int) < p
   ·rw [if_pos (by simpa using hA), if_pos (by decide), if_neg (by simp; omega)]
   ·rw [if_neg (by simpa using hA), wi64 (by omega) (by omega)]
    by_cases hB : (w.length : Int) - p < n
    ·rw [if_pos (by simpa using hB), if_neg (by simp; omega)]
    ·rw [if_neg (by simpa using hB), gcut_in (by omega) (by omega) (by omega), Option.bind_some, of_eq hv (by omega) h8, Option.bind_some, if_pos (by simp; omega)]
     have e : (w.drop p.toNat).take ((w.length : Int).toNat - p.toNat) = w.drop p.toNat := List.take_of_length_le (by simp)
     rw [e, cpR_put (by omega) (by omega) (by omega) (by omega)]
theorem clone_eq {w : List Int} (hl : w.length < 1000000) : F_slices_Clone_byte_byte w = some w := by
 unfold F_slices_Clone_byte_byte
 rw [if_pos (limk (by simp; omega))]; rfl
theorem wbytes_eq {w : List Int} (hl : w.length < 1000000) : F_bits_Writer_Bytes ⟨w⟩ = some (w, ⟨w⟩) := by
 unfold F_bits_Writer_Bytes
 rw [clone_eq hl, Option.bind_some]
theorem join_eq {a b : List Int} (ha : a.length < 1000000) (hb : b.length < 1000000) : F_ref01_Join a b = some (a ++ b) := by
 unfold F_ref01_Join
 rw [if_pos (limk (by omega)), if_pos (limk (by omega))]
theorem same_eq (a : List Int) : F_ref01_Same a a = some true := by simp [F_ref01_Same]
def fld (n : Int) : Int := if n = 0 then 0 else (n - 1) % 65535 + 1
theorem fld_bd {n : Int} (h : 0 ≤ n) : 0 ≤ fld n ∧ fld n ≤ 65535 := by unfold fld; split <;> omega
theorem fld_small {n : Int} (h0 : 0 ≤ n) (h1 : n ≤ 65535) : fld n = n := by unfold fld; split <;> omega
theorem fld_step {n : Int} (h : 65535 < n) : fld (n / 65536 + n % 65536) = fld n := by
 unfold fld
 rw [if_neg (by omega), if_neg (by omega)]
 have e : n - 1 = (n / 65536 + n % 65536 - 1) + 65535 * (n / 65536) := by omega
 rw [e, Int.add_mul_emod_self_left]
theorem fld_congr {a b : Int} (ha : 0 ≤ a) (hb : 0 ≤ b) (h : a % 65535 = b % 65535) (hz : a = 0 ↔ b = 0) : fld a = fld b := by
 unfold fld
 by_cases h0 : a = 0
 ·rw [if_pos h0, if_pos (hz.1 h0)]
 ·rw [if_neg h0, if_neg (fun e => h0 (hz.2 e))]
  omega
theorem fld_mod {n : Int} (h : 0 ≤ n) : fld n % 65535 = n % 65535 := by unfold fld; split <;> omega
theorem fld_zero {n : Int} (h : 0 ≤ n) : fld n = 0 ↔ n = 0 := by unfold fld; split <;> omega

theorem rfold_L (k : Nat) : ∀ n : Int, 0 ≤ n → n < k → n < 18446744073709551616 → F_ref03_Fold_L1 k n = some (fld n) := by
 induction k with
 | zero => intro n h0 h1; omega
 | succ k ih =>
  intro n h0 h1 h2
  show F_ref03_Fold_l1 (F_ref03_Fold_L1 k) n = _
  unfold F_ref03_Fold_l1
  by_cases h : 65535 < n
  ·have e : IntKind.u64.wrap (IntKind.u64.wrap (n / 65536) + n % 65536) = n / 65536 + n % 65536 := by simp only [wu64]; omega
   rw [if_pos (by simpa using h), tdiv_nn h0, tmod_nn h0, e, ih _ (by omega) (by omega) (by omega), fld_step h]
  ·rw [if_neg (by simpa using h), fld_small h0 (by omega)]
theorem rfold_eq {n : Int} (h0 : 0 ≤ n) (h1 : n < 1000000000000) : F_ref03_Fold n = some (fld n) := rfold_L _ n h0 (by unfold fuel0; omega) (by omega)
theorem band_ffff {n : Int} (h0 : 0 ≤ n) (h1 : n < 18446744073709551616) : bits .and .u64 n 65535 = n % 65536 := by
 show IntKind.u64.wrap ((BitVec.ofInt 64 n &&& BitVec.ofInt 64 65535).toNat : Int) = _
 obtain ⟨m, rfl⟩ := Int.eq_ofNat_of_zero_le h0
 have e1 : (BitVec.ofInt 64 (m : Int)).toNat = m := by rw [BitVec.ofInt_natCast, BitVec.toNat_ofNat]; exact Nat.mod_eq_of_lt (by omega)
 have e2 : (BitVec.ofInt 64 65535).toNat = 2 ^ 16 - 1 := by decide
 rw [BitVec.toNat_and, e1, e2, Nat.and_two_pow_sub_one_eq_mod, wu64]
 omega
theorem shr16 {n : Int} (h0 : 0 ≤ n) : Ox.shr .u64 n 16 = n / 65536 := by
 show n.fdiv (2 ^ (min 16 64)) = _
 rw [Int.fdiv_eq_ediv_of_nonneg _ (by decide)]
 rfl
theorem sfold_L (k : Nat) : ∀ n : Int, 0 ≤ n → n < k → n < 18446744073709551616 → F_sum_fold_L1 k n = some (fld n) := by
 induction k with
 | zero => intro n h0 h1; omega
 | succ k ih =>
  intro n h0 h1 h2
  show F_sum_fold_l1 (F_sum_fold_L1 k) n = _
  unfold F_sum_fold_l1
  by_cases h : n ≤ 65535
  ·rw [if_pos (by simpa using h), wu16i h0 (by omega), fld_small h0 h]
  ·rw [if_neg (by simpa using h), band_ffff h0 h2, shr16 h0, wu64i (by omega) (by omega), ih _ (by omega) (by omega) (by omega)]
   have := fld_step (n := n) (by omega)
   rw [Int.add_comm] at this
   rw [this]
theorem sfold_eq {n : Int} (h0 : 0 ≤ n) (h1 : n < 1000000000000) : F_sum_fold n = some (fld n) := sfold_L _ n h0 (by unfold fuel0; omega) (by omega)

def wds : List Int → List Int
 | [] => []
 | [a] => [a * 256]
 | a :: b :: r => (a * 256 + b) :: wds r
def lsum : List Int → Int
 | [] => 0
 | x :: r => x + lsum r
theorem lsum_app (a b : List Int) : lsum (a ++ b) = lsum a + lsum b := by
 induction a with
 | nil => simp [lsum]
 | cons x a ih => simp [lsum, ih]; omega
def ws : List Int → Int
 | [] => 0
 | [a] => a * 256
 | a :: b :: r => a * 256 + b + ws r
theorem lsum_wds : ∀ b : List Int, lsum (wds b) = ws b
 | [] => rfl
 | [a] => by simp [wds, lsum, ws]
 | a :: b :: r => by simp [wds, lsum, ws, lsum_wds r]
theorem wds_len : ∀ b : List Int, (wds b).length = (b.length + 1) / 2
 | [] => by simp [wds]
 | [a] => by simp [wds]
 | a :: b :: r => by simp [wds, wds_len r]; omega
theorem wds_wf : ∀ {b : List Int}, Wf 256 b → Wf 65536 (wds b)
 | [], _ => Wf.nil
 | [a], h => Wf.cons (by have := h.head; omega) Wf.nil
 | a :: b :: r, h => Wf.cons (by have := h.head; have := h.tail.head; omega) (wds_wf h.tail.tail)
theorem ws_bd : ∀ {b : List Int}, Wf 256 b → 0 ≤ ws b ∧ ws b ≤ 65535 * b.length
 | [], _ => by simp [ws]
 | [a], h => by have := h.head; simp [ws]; omega
 | a :: b :: r, h => by have := h.head; have := h.tail.head; have := ws_bd h.tail.tail; simp [ws]; omega

theorem words_L (b : List Int) (hw : Wf 256 b) (hl : b.length < 1000000000000) (k : Nat) : ∀ (j : Nat) (out : List Int), 2 * j ≤ b.length + 1 → b.length + 1 < k + 2 * j → out.length = j →
  F_ref03_Words_L1 b k out (2 * j : Nat) = some (out ++ wds (b.drop (2 * j))) := by
 induction k with
 | zero =>
  intro j out h1 h2 h3
  omega
 | succ k ih =>
  intro j out h1 h2 h3
  show F_ref03_Words_l1 (F_ref03_Words_L1 b k) b out _ = _
  unfold F_ref03_Words_l1
  by_cases h : 2 * j < b.length
  ·rw [if_pos (by simp; omega)]
   have hg : b[2 * j]? = some b[2 * j] := List.getElem?_eq_getElem h
   have hx := hw.get hg
   rw [gidx_nat hg, Option.bind_some, wi64 (by omega) (by omega)]
   have hnext : IntKind.i64.wrap (((2 * j : Nat) : Int) + 2) = ((2 * (j + 1) : Nat) : Int) := by rw [wi64 (by omega) (by omega)]; omega
   by_cases h5 : 2 * j + 1 < b.length
   ·rw [if_pos (by simp; omega)]
    have hg1 : b[2 * j + 1]? = some b[2 * j + 1] := List.getElem?_eq_getElem h5
    have hx1 := hw.get hg1
    have e : (((2 * j : Nat) : Int) + 1) = ((2 * j + 1 : Nat) : Int) := by omega
    rw [e, gidx_nat hg1, Option.bind_some]
    unfold F_ref03_Words_j1
    rw [if_pos (lim_le (by first | omega | (simp; omega))), hnext, ih (j + 1) _ (by omega) (by omega) (by simp [h3])]
    have ev : IntKind.u64.wrap (IntKind.u64.wrap (IntKind.u64.wrap b[2 * j] * 256) + IntKind.u64.wrap b[2 * j + 1]) = b[2 * j] * 256 + b[2 * j + 1] := by simp only [wu64]; omega
    rw [ev]
    have ed : b.drop (2 * j) = b[2 * j] :: b[2 * j + 1] :: b.drop (2 * (j + 1)) := by
     rw [List.drop_eq_getElem_cons h, List.drop_eq_getElem_cons h5, show 2 * j + 1 + 1 = 2 * (j + 1) by omega]
    rw [ed]
    simp [wds]
   ·rw [if_neg (by simp; omega)]
    unfold F_ref03_Words_j1
    rw [if_pos (lim_le (by first | omega | (simp; omega))), hnext, wu64i hx.1 (by omega), wu64i (by omega) (by omega), ih (j + 1) _ (by omega) (by omega) (by simp [h3])]
    have ed : b.drop (2 * j) = [b[2 * j]] := by
     rw [List.drop_eq_getElem_cons h, List.drop_of_length_le (by omega)]
    have ee : b.drop (2 * (j + 1)) = [] := List.drop_of_length_le (by omega)
    rw [ed, ee]
    simp [wds]
  ·rw [if_neg (by simp; omega)]
   rw [List.drop_of_length_le (by omega)]
   simp [wds]
theorem words_eq {b : List Int} (hw : Wf 256 b) (hl : b.length < 100000000) : F_ref03_Words b = some (wds b) := by
 have h := words_L b hw (by omega) fuel0 0 [] (by omega) (by unfold fuel0; omega) rfl
 simp only [Nat.mul_zero, List.drop_zero, List.nil_append] at h
 exact h
theorem rsum_L (l : List Int) (hw : Wf 65536 l) (hl : l.length < 1000000) (k : Nat) : ∀ (j : Nat) (n : Int), j ≤ l.length → l.length < k + j → 0 ≤ n → n ≤ 65536 * j →
  F_ref03_Sum_L1 l k n (j : Int) = some (fld (n + lsum (l.drop j))) := by
 induction k with
 | zero => intro j n h1 h2; omega
 | succ k ih =>
  intro j n h1 h2 h3 h4
  show F_ref03_Sum_l1 (F_ref03_Sum_L1 l k) l n _ = _
  unfold F_ref03_Sum_l1
  by_cases h : j < l.length
  ·have hg : l[j]? = some l[j] := List.getElem?_eq_getElem h
   have hx := hw.get hg
   rw [if_pos (by simpa using h), gidx_nat hg, Option.bind_some, wu64i (by omega) (by omega), wi64 (by omega) (by omega)]
   have e : ((j : Int) + 1) = ((j + 1 : Nat) : Int) := by omega
   rw [e, ih (j + 1) _ (by omega) (by omega) (by omega) (by omega), List.drop_eq_getElem_cons h]
   simp [lsum]
   congr 1; omega
  ·rw [if_neg (by simpa using h), rfold_eq h3 (by omega)]
   rw [List.drop_of_length_le (by omega)]
   simp [lsum]
theorem rsum_eq {b : List Int} (hw : Wf 256 b) (hl : b.length < 100000) : F_ref03_Sum b = some (fld (ws b)) := by
 unfold F_ref03_Sum
 rw [words_eq hw (by omega), Option.bind_some]
 have := rsum_L (wds b) (wds_wf hw) (by rw [wds_len]; omega) fuel0 0 0 (by omega) (by rw [wds_len]; unfold fuel0; omega) (by omega) (by omega)
 simp only [Int.zero_add, List.drop_zero, lsum_wds] at this
 exact this
theorem rof_eq {b : List Int} (hw : Wf 256 b) (hl : b.length < 100000) : F_ref03_Of b = some (65535 - fld (ws b)) := by
 have hb := fld_bd (ws_bd hw).1
 unfold F_ref03_Of
 rw [rsum_eq hw hl, Option.bind_some, wu64i (by omega) (by omega), wu16i (by omega) (by omega)]
theorem rwhole_eq {b : List Int} (hw : Wf 256 b) (hl : b.length < 100000) : F_ref03_Whole b = some (fld (ws b) == 65535 || fld (ws b) == 0) := by
 unfold F_ref03_Whole F_ref03_Whole_j1
 simp only [rsum_eq hw hl, Option.bind_some]
 by_cases h : (fld (ws b) == 65535) = true
 ·rw [if_pos h, h]; rfl
 ·rw [if_neg h]
  simp only [Bool.not_eq_true] at h
  rw [h]; rfl

def wt (m : Nat) (x : Int) : Int := if m % 2 = 0 then x * 256 else x
def wsf : Nat → List Int → Int
 | _, [] => 0
 | m, x :: r => wt m x + wsf (m + 1) r
theorem wsf_two (m : Nat) : ∀ (l : List Int), wsf (m + 2) l = wsf m l
 | [] => rfl
 | x :: r => by
  have h := wsf_two (m + 1) r
  simp only [wsf]
  rw [show m + 2 + 1 = m + 1 + 2 by omega, h]
  have : wt (m + 2) x = wt m x := by unfold wt; congr 1; simp
  rw [this]
theorem wsf_ws : ∀ (l : List Int), wsf 0 l = ws l
 | [] => rfl
 | [a] => by simp [wsf, ws, wt]
 | a :: b :: r => by
  have := wsf_ws r
  simp only [wsf, ws]
  rw [wsf_two 0, this]
  simp [wt]
  omega
theorem wsf_app : ∀ (m : Nat) (a b : List Int), wsf m (a ++ b) = wsf m a + wsf (m + a.length) b
 | m, [], b => by simp [wsf]
 | m, x :: a, b => by
  have := wsf_app (m + 1) a b
  simp only [List.cons_append, wsf, List.length_cons]
  rw [this, show m + 1 + a.length = m + (a.length + 1) by omega]
  omega
theorem wt_bd {m : Nat} {x : Int} (h : 0 ≤ x ∧ x < 256) : 0 ≤ wt m x ∧ wt m x ≤ 65280 ∧ (wt m x = 0 ↔ x = 0) := by unfold wt; split <;> omega
theorem wsf_nn : ∀ {m : Nat} {l : List Int}, Wf 256 l → 0 ≤ wsf m l
 | _, [], _ => by simp [wsf]
 | m, x :: r, h => by
  have := wt_bd (m := m) h.head
  have := wsf_nn (m := m + 1) h.tail
  simp only [wsf]; omega
def Like (n s : Int) : Prop := 0 ≤ n ∧ n ≤ 200000 ∧ 0 ≤ s ∧ n % 65535 = s % 65535 ∧ (n = 0 ↔ s = 0)
theorem Like.fld {n s : Int} (h : Like n s) : fld n = fld s := fld_congr h.1 h.2.2.1 h.2.2.2.1 h.2.2.2.2
theorem Like.step {n s v : Int} (h : Like n s) (h0 : 0 ≤ v) (h1 : v ≤ 65280) : Like (Proofs.Ytcinagdkkclapaa.fld n + v) (s + v) := by
 have hb := fld_bd h.1
 have hm := fld_mod h.1
 have hz := fld_zero h.1
 obtain ⟨a, b, c, d, e⟩ := h
 refine ⟨by omega, by omega, by omega, by omega, ?_⟩
 constructor <;> intro k <;> omega
theorem Like.zero : Like 0 0 := ⟨by omega, by omega, by omega, rfl, Iff.rfl⟩

theorem add_L (b : List Int) (hw : Wf 256 b) (hl : b.length < 1000000000) (k : Nat) : ∀ (j : Nat) (n s : Int) (m : Nat), j ≤ b.length → b.length < k + j → Like n s → m < 1000000000000 + j →
  ∃ n', F_sum_Sum_Add_L1 b k n m j = some ⟨n', ((m + (b.length - j) : Nat) : Int)⟩ ∧ Like n' (s + wsf m (b.drop j)) := by
 induction k with
 | zero => intro j n s m h1 h2; omega
 | succ k ih =>
  intro j n s m h1 h2 h3 h4
  have e0 : F_sum_Sum_Add_L1 b (k + 1) n m j = F_sum_Sum_Add_l1 (F_sum_Sum_Add_L1 b k) b n m j := rfl
  rw [e0]
  unfold F_sum_Sum_Add_l1
  by_cases h : j < b.length
  ·have hg : b[j]? = some b[j] := List.getElem?_eq_getElem h
   have hx := hw.get hg
   have hv := wt_bd (m := m) hx
   have hs := h3.step hv.1 hv.2.1
   have hb := fld_bd h3.1
   have e1 : IntKind.i64.wrap ((j : Int) + 1) = ((j + 1 : Nat) : Int) := by rw [wi64 (by omega) (by omega)]; omega
   have e2 : IntKind.i64.wrap ((m : Int) + 1) = ((m + 1 : Nat) : Int) := by rw [wi64 (by omega) (by omega)]; omega
   obtain ⟨n', hn, hk⟩ := ih (j + 1) _ _ (m + 1) (by omega) (by omega) hs (by omega)
   refine ⟨n', ?_, ?_⟩
   ·have hj : F_sum_Sum_Add_j1 n m j (F_sum_Sum_Add_L1 b k) (wt m b[j]) = some ⟨n', ((m + (b.length - j) : Nat) : Int)⟩ := by
     unfold F_sum_Sum_Add_j1
     rw [sfold_eq h3.1 (by have := h3.2.1; omega), Option.bind_some, wu64i hb.1 (by omega), wu64i (by omega) (by omega), e1, e2, hn, show m + 1 + (b.length - (j + 1)) = m + (b.length - j) by omega]
    rw [if_pos (by simpa using h), gidx_nat hg, Option.bind_some, tmod_nn (by omega)]
    rw [← hj]
    unfold wt
    by_cases hp : m % 2 = 0
    ·rw [if_pos (by simp; omega), if_pos hp]
     have : Ox.shl .u64 (IntKind.u64.wrap b[j]) 8 = b[j] * 256 := by
      show IntKind.u64.wrap (IntKind.u64.wrap b[j] * 256) = _
      simp only [wu64]; omega
     rw [this]
    ·rw [if_neg (by simp; omega), if_neg hp, wu64i hx.1 (by omega)]
   ·rw [List.drop_eq_getElem_cons h]
    simp only [wsf]
    rw [← Int.add_assoc]
    exact hk
  ·rw [if_neg (by simpa using h)]
   rw [List.drop_of_length_le (by omega)]
   refine ⟨n, ?_, by simpa [wsf] using h3⟩
   rw [show m + (b.length - j) = m by omega]
theorem add_eq {b : List Int} (hw : Wf 256 b) (hl : b.length < 1000000000) {n s : Int} {m : Nat} (h : Like n s) (hm : m < 1000000000000) :
  ∃ n', F_sum_Sum_Add ⟨n, m⟩ b = some ⟨n', ((m + b.length : Nat) : Int)⟩ ∧ Like n' (s + wsf m b) := by
 obtain ⟨n', h1, h2⟩ := add_L b hw hl fuel0 0 n s m (by omega) (by unfold fuel0; omega) h (by omega)
 exact ⟨n', h1, by simpa using h2⟩
def lens (l : List (List Int)) : Nat := l.flatten.length
theorem lens_cons (b : List Int) (l : List (List Int)) : lens (b :: l) = b.length + lens l := by simp [lens]
theorem lens_drop (l : List (List Int)) {j : Nat} (h : j < l.length) : lens (l.drop j) = l[j].length + lens (l.drop (j + 1)) := by rw [List.drop_eq_getElem_cons h, lens_cons]
def WfR (l : List (List Int)) : Prop := ∀ b ∈ l, Wf 256 b
theorem WfR.flat {l : List (List Int)} (h : WfR l) : Wf 256 l.flatten := fun x hx => by
 obtain ⟨b, hb, hx⟩ := List.mem_flatten.1 hx
 exact h b hb x hx
theorem each_L (l : List (List Int)) (hw : WfR l) (k : Nat) : ∀ (j : Nat) (n s : Int) (m : Nat), j ≤ l.length → l.length < k + j → Like n s → m + lens (l.drop j) < 1000000000 → l.length < 1000000000 →
  ∃ n', F_sum_each_fsum_Sum_Add_L1 l k n m j = some ⟨n', ((m + lens (l.drop j) : Nat) : Int)⟩ ∧ Like n' (s + wsf m (l.drop j).flatten) := by
 induction k with
 | zero => intro j n s m h1 h2; omega
 | succ k ih =>
  intro j n s m h1 h2 h3 h4 h5
  have e0 : F_sum_each_fsum_Sum_Add_L1 l (k + 1) n m j = F_sum_each_fsum_Sum_Add_l1 (F_sum_each_fsum_Sum_Add_L1 l k) l n m j := rfl
  rw [e0]
  unfold F_sum_each_fsum_Sum_Add_l1
  by_cases h : j < l.length
  ·have hg : l[j]? = some l[j] := List.getElem?_eq_getElem h
   have hx := hw _ (List.mem_of_getElem? hg)
   have e1 : IntKind.i64.wrap ((j : Int) + 1) = ((j + 1 : Nat) : Int) := by rw [wi64 (by omega) (by omega)]; omega
   have hle := lens_drop l h
   obtain ⟨n1, hn1, hk1⟩ := add_eq hx (by omega) h3 (m := m) (by omega)
   obtain ⟨n', hn, hk⟩ := ih (j + 1) _ _ (m + l[j].length) (by omega) (by omega) hk1 (by omega) h5
   refine ⟨n', ?_, ?_⟩
   ·rw [if_pos (by simpa using h), gidx_nat hg, Option.bind_some, hn1, Option.bind_some, e1, hn, hle, show m + l[j].length + lens (l.drop (j + 1)) = m + (l[j].length + lens (l.drop (j + 1))) by omega]
   ·rw [List.drop_eq_getElem_cons h, List.flatten_cons, wsf_app, ← Int.add_assoc]
    exact hk
  ·rw [if_neg (by simpa using h)]
   rw [List.drop_of_length_le (by omega)]
   refine ⟨n, ?_, by simpa [wsf] using h3⟩
   simp [lens]
theorem each_eq {l : List (List Int)} (hw : WfR l) (hl : l.length < 1000000000) (ht : lens l < 1000000000) :
  ∃ n', F_sum_each_fsum_Sum_Add l ⟨0, 0⟩ = some ⟨n', (lens l : Int)⟩ ∧ Like n' (ws l.flatten) := by
 obtain ⟨n', h1, h2⟩ := each_L l hw fuel0 0 0 0 0 (by omega) (by unfold fuel0; omega) Like.zero (by simpa using ht) hl
 refine ⟨n', ?_, ?_⟩
 ·rw [List.drop_zero, Nat.zero_add] at h1
  exact h1
 ·rw [List.drop_zero, wsf_ws, Int.zero_add] at h2
  exact h2
theorem svalue_eq {n s : Int} {m : Int} (h : Like n s) : F_sum_Sum_Value ⟨n, m⟩ = some (65535 - fld s, ⟨n, m⟩) := by
 have hb := fld_bd h.1
 unfold F_sum_Sum_Value
 rw [sfold_eq h.1 (by have := h.2.1; omega), Option.bind_some, wu16i (by omega) (by omega), h.fld]
theorem sof_eq {l : List (List Int)} (hw : WfR l) (hl : l.length < 1000000000) (ht : lens l < 1000000000) : F_sum_Of l = some (65535 - fld (ws l.flatten)) := by
 obtain ⟨n, h1, h2⟩ := each_eq hw hl ht
 unfold F_sum_Of
 rw [h1, Option.bind_some, svalue_eq h2, Option.bind_some]
theorem whole_eq {l : List (List Int)} (hw : WfR l) (hl : l.length < 1000000000) (ht : lens l < 1000000000) : F_sum_Whole l = some (fld (ws l.flatten) == 65535 || fld (ws l.flatten) == 0) := by
 have hb := fld_bd (ws_bd hw.flat).1
 unfold F_sum_Whole F_sum_Whole_j1
 rw [sof_eq hw hl ht, Option.bind_some]
 by_cases h : fld (ws l.flatten) = 65535
 ·rw [if_pos (by simp; omega), h]; rfl
 ·rw [if_neg (by simp; omega)]
  congr 1
  rw [Bool.eq_iff_iff]
  simp
  omega
theorem fldz {n : Int} (h : 0 ≤ n) : (fld n == 65535 || fld n == 0) = (n % 65535 == 0) := by
 rw [Bool.eq_iff_iff]
 simp
 unfold fld
 split <;> omega
theorem pick_eq {i n : Int} (h0 : 0 < n) (h1 : n < 1000000000) : ∃ p : Nat, F_kit_Pick i n = some (p : Int) ∧ (p : Int) < n := by
 have hb1 : -n < Int.tmod i n := Int.lt_tmod_of_pos _ h0
 have hb2 : Int.tmod i n < n := Int.tmod_lt_of_pos _ h0
 refine ⟨((Int.tmod i n + n) % n).toNat, ?_, ?_⟩
 ·unfold F_kit_Pick
  rw [if_neg (by simp; omega), if_pos (by simp; omega), if_pos (by simp; omega), wi64 (by omega) (by omega), tmod_nn (by omega)]
  have := Int.emod_nonneg (Int.tmod i n + n) (by omega : n ≠ 0)
  congr 1; omega
 ·have := Int.emod_nonneg (Int.tmod i n + n) (by omega : n ≠ 0)
  have := Int.emod_lt_of_pos (Int.tmod i n + n) h0
  omega
theorem wsf_set : ∀ (m : Nat) (b : List Int) (i : Nat) (x y : Int), b[i]? = some y → wsf m (b.set i x) = wsf m b - wt (m + i) y + wt (m + i) x
 | m, [], i, x, y, h => by simp at h
 | m, a :: b, 0, x, y, h => by
  simp at h; subst h
  simp only [List.set_cons_zero, wsf, Nat.add_zero]; omega
 | m, a :: b, i + 1, x, y, h => by
  simp only [List.getElem?_cons_succ] at h
  have := wsf_set (m + 1) b i x y h
  simp only [List.set_cons_succ, wsf]
  rw [this, show m + 1 + i = m + (i + 1) by omega]; omega
theorem ws_set {b : List Int} {i : Nat} {x y : Int} (h : b[i]? = some y) : ws (b.set i x) = ws b - wt i y + wt i x := by
 have := wsf_set 0 b i x y h
 rw [wsf_ws, wsf_ws, Nat.zero_add] at this
 exact this
theorem wt_even (p : Nat) (x : Int) : wt (2 * p) x = x * 256 := by unfold wt; rw [if_pos (by omega)]
theorem wt_odd (p : Nat) (x : Int) : wt (2 * p + 1) x = x := by unfold wt; rw [if_neg (by omega)]
theorem ws_two {b : List Int} (h : b.length % 2 = 0) (x y : Int) : ws (b ++ [x, y]) = ws b + x * 256 + y := by
 rw [← wsf_ws, wsf_app, wsf_ws, Nat.zero_add]
 simp only [wsf, wt]
 rw [if_pos h, if_neg (by omega)]; omega
theorem one_wf {b : List Int} (h : Wf 256 b) : WfR [b] := fun x hx => by simp at hx; subst hx; exact h
theorem two_wf {b c : List Int} (h : Wf 256 b) (k : Wf 256 c) : WfR [b, c] := fun x hx => by
 simp at hx
 rcases hx with rfl | rfl
 ·exact h
 ·exact k

end Go.Proofs.Ytcinagdkkclapaa
