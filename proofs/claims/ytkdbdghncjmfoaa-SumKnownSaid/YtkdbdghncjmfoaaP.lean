/- The plain law of the chapter on checksums: what the printed functions compute. No program's code is named here. -/
import Derived.Test.YtkdbdghncjmfoaaF
import Derived.Test.YtkdbdghncjmfoaaOxP
set_option linter.unusedVariables false
namespace Go.Proofs.Ytkdbdghncjmfoaa
open Go Go.Ox Go.RowKit

/-- A folded sum. -/
def fld (n : Int) : Int := if n = 0 then 0 else (n - 1) % 65535 + 1
theorem fld_bd {n : Int} (h : 0 ≤ n) : 0 ≤ fld n ∧ fld n ≤ 65535 := by unfold fld; split <;> omega
theorem fld_small {n : Int} (h0 : 0 ≤ n) (h1 : n ≤ 65535) : fld n = n := by unfold fld; split <;> omega
theorem fld_step {n : Int} (h : 65535 < n) : fld (n / 65536 + n % 65536) = fld n := by
  unfold fld
  rw [if_neg (by omega), if_neg (by omega)]
  have e : n - 1 = (n / 65536 + n % 65536 - 1) + 65535 * (n / 65536) := by omega
  rw [e, Int.add_mul_emod_self_left]
/-- Two sums that are one by 65535, and are 0 together, fold alike. -/
theorem fld_congr {a b : Int} (ha : 0 ≤ a) (hb : 0 ≤ b) (h : a % 65535 = b % 65535) (hz : a = 0 ↔ b = 0) : fld a = fld b := by
  unfold fld
  by_cases h0 : a = 0
  · rw [if_pos h0, if_pos (hz.1 h0)]
  · rw [if_neg h0, if_neg (fun e => h0 (hz.2 e))]
    omega
theorem fld_mod {n : Int} (h : 0 ≤ n) : fld n % 65535 = n % 65535 := by unfold fld; split <;> omega
theorem fld_zero {n : Int} (h : 0 ≤ n) : fld n = 0 ↔ n = 0 := by unfold fld; split <;> omega

theorem rfold_L (k : Nat) : ∀ n : Int, 0 ≤ n → n < k → n < 18446744073709551616 → F_ref03_Fold_L1 k n = some (fld n) := by
  induction k with
  | zero => intro n h0 h1; omega
  | succ k ih =>
    intro n h0 h1 h2
    show F_ref03_Fold_l1 (F_ref03_Fold_L1 k) n = _
    unfold F_ref03_Fold_l1
    by_cases h : 65535 < n
    · have e : IntKind.u64.wrap (IntKind.u64.wrap (n / 65536) + n % 65536) = n / 65536 + n % 65536 := by simp only [wu64]; omega
      rw [if_pos (by simpa using h), tdiv_nn h0, tmod_nn h0, e, ih _ (by omega) (by omega) (by omega), fld_step h]
    · rw [if_neg (by simpa using h), fld_small h0 (by omega)]
theorem rfold_eq {n : Int} (h0 : 0 ≤ n) (h1 : n < 1000000000000) : F_ref03_Fold n = some (fld n) := rfold_L _ n h0 (by unfold fuel0; omega) (by omega)
theorem band_ffff {n : Int} (h0 : 0 ≤ n) (h1 : n < 18446744073709551616) : bits .and .u64 n 65535 = n % 65536 := by
  show IntKind.u64.wrap ((BitVec.ofInt 64 n &&& BitVec.ofInt 64 65535).toNat : Int) = _
  obtain ⟨m, rfl⟩ := Int.eq_ofNat_of_zero_le h0
  have e1 : (BitVec.ofInt 64 (m : Int)).toNat = m := by rw [BitVec.ofInt_natCast, BitVec.toNat_ofNat]; exact Nat.mod_eq_of_lt (by omega)
  have e2 : (BitVec.ofInt 64 65535).toNat = 2 ^ 16 - 1 := by decide
  rw [BitVec.toNat_and, e1, e2, Nat.and_two_pow_sub_one_eq_mod, wu64]
  omega
theorem shr16 {n : Int} (h0 : 0 ≤ n) : Ox.shr .u64 n 16 = n / 65536 := by
  show n.fdiv (2 ^ (min 16 64)) = _
  rw [Int.fdiv_eq_ediv_of_nonneg _ (by decide)]
  rfl
theorem sfold_L (k : Nat) : ∀ n : Int, 0 ≤ n → n < k → n < 18446744073709551616 → F_sum_fold_L1 k n = some (fld n) := by
  induction k with
  | zero => intro n h0 h1; omega
  | succ k ih =>
    intro n h0 h1 h2
    show F_sum_fold_l1 (F_sum_fold_L1 k) n = _
    unfold F_sum_fold_l1
    by_cases h : n ≤ 65535
    · rw [if_pos (by simpa using h), wu16i h0 (by omega), fld_small h0 h]
    · rw [if_neg (by simpa using h), band_ffff h0 h2, shr16 h0, wu64i (by omega) (by omega), ih _ (by omega) (by omega) (by omega)]
      have := fld_step (n := n) (by omega)
      rw [Int.add_comm] at this
      rw [this]
theorem sfold_eq {n : Int} (h0 : 0 ≤ n) (h1 : n < 1000000000000) : F_sum_fold n = some (fld n) := sfold_L _ n h0 (by unfold fuel0; omega) (by omega)

/-- The words of bytes. -/
def wds : List Int → List Int
  | [] => []
  | [a] => [a * 256]
  | a :: b :: r => (a * 256 + b) :: wds r
def lsum : List Int → Int
  | [] => 0
  | x :: r => x + lsum r
theorem lsum_app (a b : List Int) : lsum (a ++ b) = lsum a + lsum b := by
  induction a with
  | nil => simp [lsum]
  | cons x a ih => simp [lsum, ih]; omega
/-- The sum of bytes by their places' weights. -/
def ws : List Int → Int
  | [] => 0
  | [a] => a * 256
  | a :: b :: r => a * 256 + b + ws r
theorem lsum_wds : ∀ b : List Int, lsum (wds b) = ws b
  | [] => rfl
  | [a] => by simp [wds, lsum, ws]
  | a :: b :: r => by simp [wds, lsum, ws, lsum_wds r]
theorem wds_len : ∀ b : List Int, (wds b).length = (b.length + 1) / 2
  | [] => by simp [wds]
  | [a] => by simp [wds]
  | a :: b :: r => by simp [wds, wds_len r]; omega
theorem wds_wf : ∀ {b : List Int}, Wf 256 b → Wf 65536 (wds b)
  | [], _ => Wf.nil
  | [a], h => Wf.cons (by have := h.head; omega) Wf.nil
  | a :: b :: r, h => Wf.cons (by have := h.head; have := h.tail.head; omega) (wds_wf h.tail.tail)
theorem ws_bd : ∀ {b : List Int}, Wf 256 b → 0 ≤ ws b ∧ ws b ≤ 65535 * b.length
  | [], _ => by simp [ws]
  | [a], h => by have := h.head; simp [ws]; omega
  | a :: b :: r, h => by have := h.head; have := h.tail.head; have := ws_bd h.tail.tail; simp [ws]; omega

theorem words_L (b : List Int) (hw : Wf 256 b) (hl : b.length < 1000000000000) (k : Nat) : ∀ (j : Nat) (out : List Int), 2 * j ≤ b.length + 1 → b.length + 1 < k + 2 * j → out.length = j →
    F_ref03_Words_L1 b k out (2 * j : Nat) = some (out ++ wds (b.drop (2 * j))) := by
  induction k with
  | zero =>
    intro j out h1 h2 h3
    omega
  | succ k ih =>
    intro j out h1 h2 h3
    show F_ref03_Words_l1 (F_ref03_Words_L1 b k) b out _ = _
    unfold F_ref03_Words_l1
    by_cases h : 2 * j < b.length
    · rw [if_pos (by simp; omega)]
      have hg : b[2 * j]? = some b[2 * j] := List.getElem?_eq_getElem h
      have hx := hw.get hg
      rw [gidx_nat hg, Option.bind_some, wi64 (by omega) (by omega)]
      have hnext : IntKind.i64.wrap (((2 * j : Nat) : Int) + 2) = ((2 * (j + 1) : Nat) : Int) := by rw [wi64 (by omega) (by omega)]; omega
      by_cases h5 : 2 * j + 1 < b.length
      · rw [if_pos (by simp; omega)]
        have hg1 : b[2 * j + 1]? = some b[2 * j + 1] := List.getElem?_eq_getElem h5
        have hx1 := hw.get hg1
        have e : (((2 * j : Nat) : Int) + 1) = ((2 * j + 1 : Nat) : Int) := by omega
        rw [e, gidx_nat hg1, Option.bind_some]
        unfold F_ref03_Words_j1
        rw [if_pos (lim_le (by first | omega | (simp; omega))), hnext, ih (j + 1) _ (by omega) (by omega) (by simp [h3])]
        have ev : IntKind.u64.wrap (IntKind.u64.wrap (IntKind.u64.wrap b[2 * j] * 256) + IntKind.u64.wrap b[2 * j + 1]) = b[2 * j] * 256 + b[2 * j + 1] := by simp only [wu64]; omega
        rw [ev]
        have ed : b.drop (2 * j) = b[2 * j] :: b[2 * j + 1] :: b.drop (2 * (j + 1)) := by
          rw [List.drop_eq_getElem_cons h, List.drop_eq_getElem_cons h5, show 2 * j + 1 + 1 = 2 * (j + 1) by omega]
        rw [ed]
        simp [wds]
      · rw [if_neg (by simp; omega)]
        unfold F_ref03_Words_j1
        rw [if_pos (lim_le (by first | omega | (simp; omega))), hnext, wu64i hx.1 (by omega), wu64i (by omega) (by omega), ih (j + 1) _ (by omega) (by omega) (by simp [h3])]
        have ed : b.drop (2 * j) = [b[2 * j]] := by
          rw [List.drop_eq_getElem_cons h, List.drop_of_length_le (by omega)]
        have ee : b.drop (2 * (j + 1)) = [] := List.drop_of_length_le (by omega)
        rw [ed, ee]
        simp [wds]
    · rw [if_neg (by simp; omega)]
      rw [List.drop_of_length_le (by omega)]
      simp [wds]
theorem words_eq {b : List Int} (hw : Wf 256 b) (hl : b.length < 100000000) : F_ref03_Words b = some (wds b) := by
  have h := words_L b hw (by omega) fuel0 0 [] (by omega) (by unfold fuel0; omega) rfl
  simp only [Nat.mul_zero, List.drop_zero, List.nil_append] at h
  exact h
theorem rsum_L (l : List Int) (hw : Wf 65536 l) (hl : l.length < 1000000) (k : Nat) : ∀ (j : Nat) (n : Int), j ≤ l.length → l.length < k + j → 0 ≤ n → n ≤ 65536 * j →
    F_ref03_Sum_L1 l k n (j : Int) = some (fld (n + lsum (l.drop j))) := by
  induction k with
  | zero => intro j n h1 h2; omega
  | succ k ih =>
    intro j n h1 h2 h3 h4
    show F_ref03_Sum_l1 (F_ref03_Sum_L1 l k) l n _ = _
    unfold F_ref03_Sum_l1
    by_cases h : j < l.length
    · have hg : l[j]? = some l[j] := List.getElem?_eq_getElem h
      have hx := hw.get hg
      rw [if_pos (by simpa using h), gidx_nat hg, Option.bind_some, wu64i (by omega) (by omega), wi64 (by omega) (by omega)]
      have e : ((j : Int) + 1) = ((j + 1 : Nat) : Int) := by omega
      rw [e, ih (j + 1) _ (by omega) (by omega) (by omega) (by omega), List.drop_eq_getElem_cons h]
      simp [lsum]
      congr 1; omega
    · rw [if_neg (by simpa using h), rfold_eq h3 (by omega)]
      rw [List.drop_of_length_le (by omega)]
      simp [lsum]
theorem rsum_eq {b : List Int} (hw : Wf 256 b) (hl : b.length < 100000) : F_ref03_Sum b = some (fld (ws b)) := by
  unfold F_ref03_Sum
  rw [words_eq hw (by omega), Option.bind_some]
  have := rsum_L (wds b) (wds_wf hw) (by rw [wds_len]; omega) fuel0 0 0 (by omega) (by rw [wds_len]; unfold fuel0; omega) (by omega) (by omega)
  simp only [Int.zero_add, List.drop_zero, lsum_wds] at this
  exact this
theorem rof_eq {b : List Int} (hw : Wf 256 b) (hl : b.length < 100000) : F_ref03_Of b = some (65535 - fld (ws b)) := by
  have hb := fld_bd (ws_bd hw).1
  unfold F_ref03_Of
  rw [rsum_eq hw hl, Option.bind_some, wu64i (by omega) (by omega), wu16i (by omega) (by omega)]
theorem rwhole_eq {b : List Int} (hw : Wf 256 b) (hl : b.length < 100000) : F_ref03_Whole b = some (fld (ws b) == 65535 || fld (ws b) == 0) := by
  unfold F_ref03_Whole F_ref03_Whole_j1
  simp only [rsum_eq hw hl, Option.bind_some]
  by_cases h : (fld (ws b) == 65535) = true
  · rw [if_pos h, h]; rfl
  · rw [if_neg h]
    simp only [Bool.not_eq_true] at h
    rw [h]; rfl

/-! ### The program's own sum: byte by byte -/
/-- The weight of byte number m. -/
def wt (m : Nat) (x : Int) : Int := if m % 2 = 0 then x * 256 else x
def wsf : Nat → List Int → Int
  | _, [] => 0
  | m, x :: r => wt m x + wsf (m + 1) r
theorem wsf_two (m : Nat) : ∀ (l : List Int), wsf (m + 2) l = wsf m l
  | [] => rfl
  | x :: r => by
    have h := wsf_two (m + 1) r
    simp only [wsf]
    rw [show m + 2 + 1 = m + 1 + 2 by omega, h]
    have : wt (m + 2) x = wt m x := by unfold wt; congr 1; simp
    rw [this]
theorem wsf_ws : ∀ (l : List Int), wsf 0 l = ws l
  | [] => rfl
  | [a] => by simp [wsf, ws, wt]
  | a :: b :: r => by
    have := wsf_ws r
    simp only [wsf, ws]
    rw [wsf_two 0, this]
    simp [wt]
    omega
theorem wsf_app : ∀ (m : Nat) (a b : List Int), wsf m (a ++ b) = wsf m a + wsf (m + a.length) b
  | m, [], b => by simp [wsf]
  | m, x :: a, b => by
    have := wsf_app (m + 1) a b
    simp only [List.cons_append, wsf, List.length_cons]
    rw [this, show m + 1 + a.length = m + (a.length + 1) by omega]
    omega
theorem wt_bd {m : Nat} {x : Int} (h : 0 ≤ x ∧ x < 256) : 0 ≤ wt m x ∧ wt m x ≤ 65280 ∧ (wt m x = 0 ↔ x = 0) := by unfold wt; split <;> omega
theorem wsf_nn : ∀ {m : Nat} {l : List Int}, Wf 256 l → 0 ≤ wsf m l
  | _, [], _ => by simp [wsf]
  | m, x :: r, h => by
    have := wt_bd (m := m) h.head
    have := wsf_nn (m := m + 1) h.tail
    simp only [wsf]; omega
/-- n stands for the sum s. -/
def Like (n s : Int) : Prop := 0 ≤ n ∧ n ≤ 200000 ∧ 0 ≤ s ∧ n % 65535 = s % 65535 ∧ (n = 0 ↔ s = 0)
theorem Like.fld {n s : Int} (h : Like n s) : fld n = fld s := fld_congr h.1 h.2.2.1 h.2.2.2.1 h.2.2.2.2
theorem Like.step {n s v : Int} (h : Like n s) (h0 : 0 ≤ v) (h1 : v ≤ 65280) : Like (Proofs.Ytkdbdghncjmfoaa.fld n + v) (s + v) := by
  have hb := fld_bd h.1
  have hm := fld_mod h.1
  have hz := fld_zero h.1
  obtain ⟨a, b, c, d, e⟩ := h
  refine ⟨by omega, by omega, by omega, by omega, ?_⟩
  constructor <;> intro k <;> omega
theorem Like.zero : Like 0 0 := ⟨by omega, by omega, by omega, rfl, Iff.rfl⟩

theorem add_L (b : List Int) (hw : Wf 256 b) (hl : b.length < 1000000000) (k : Nat) : ∀ (j : Nat) (n s : Int) (m : Nat), j ≤ b.length → b.length < k + j → Like n s → m < 1000000000000 + j →
    ∃ n', F_sum_Sum_Add_L1 b k n m j = some ⟨n', ((m + (b.length - j) : Nat) : Int)⟩ ∧ Like n' (s + wsf m (b.drop j)) := by
  induction k with
  | zero => intro j n s m h1 h2; omega
  | succ k ih =>
    intro j n s m h1 h2 h3 h4
    have e0 : F_sum_Sum_Add_L1 b (k + 1) n m j = F_sum_Sum_Add_l1 (F_sum_Sum_Add_L1 b k) b n m j := rfl
    rw [e0]
    unfold F_sum_Sum_Add_l1
    by_cases h : j < b.length
    · have hg : b[j]? = some b[j] := List.getElem?_eq_getElem h
      have hx := hw.get hg
      have hv := wt_bd (m := m) hx
      have hs := h3.step hv.1 hv.2.1
      have hb := fld_bd h3.1
      have e1 : IntKind.i64.wrap ((j : Int) + 1) = ((j + 1 : Nat) : Int) := by rw [wi64 (by omega) (by omega)]; omega
      have e2 : IntKind.i64.wrap ((m : Int) + 1) = ((m + 1 : Nat) : Int) := by rw [wi64 (by omega) (by omega)]; omega
      obtain ⟨n', hn, hk⟩ := ih (j + 1) _ _ (m + 1) (by omega) (by omega) hs (by omega)
      refine ⟨n', ?_, ?_⟩
      · have hj : F_sum_Sum_Add_j1 n m j (F_sum_Sum_Add_L1 b k) (wt m b[j]) = some ⟨n', ((m + (b.length - j) : Nat) : Int)⟩ := by
          unfold F_sum_Sum_Add_j1
          rw [sfold_eq h3.1 (by have := h3.2.1; omega), Option.bind_some, wu64i hb.1 (by omega), wu64i (by omega) (by omega), e1, e2, hn, show m + 1 + (b.length - (j + 1)) = m + (b.length - j) by omega]
        rw [if_pos (by simpa using h), gidx_nat hg, Option.bind_some, tmod_nn (by omega)]
        rw [← hj]
        unfold wt
        by_cases hp : m % 2 = 0
        · rw [if_pos (by simp; omega), if_pos hp]
          have : Ox.shl .u64 (IntKind.u64.wrap b[j]) 8 = b[j] * 256 := by
            show IntKind.u64.wrap (IntKind.u64.wrap b[j] * 256) = _
            simp only [wu64]; omega
          rw [this]
        · rw [if_neg (by simp; omega), if_neg hp, wu64i hx.1 (by omega)]
      · rw [List.drop_eq_getElem_cons h]
        simp only [wsf]
        rw [← Int.add_assoc]
        exact hk
    · rw [if_neg (by simpa using h)]
      rw [List.drop_of_length_le (by omega)]
      refine ⟨n, ?_, by simpa [wsf] using h3⟩
      rw [show m + (b.length - j) = m by omega]
theorem add_eq {b : List Int} (hw : Wf 256 b) (hl : b.length < 1000000000) {n s : Int} {m : Nat} (h : Like n s) (hm : m < 1000000000000) :
    ∃ n', F_sum_Sum_Add ⟨n, m⟩ b = some ⟨n', ((m + b.length : Nat) : Int)⟩ ∧ Like n' (s + wsf m b) := by
  obtain ⟨n', h1, h2⟩ := add_L b hw hl fuel0 0 n s m (by omega) (by unfold fuel0; omega) h (by omega)
  exact ⟨n', h1, by simpa using h2⟩
def lens (l : List (List Int)) : Nat := l.flatten.length
theorem lens_cons (b : List Int) (l : List (List Int)) : lens (b :: l) = b.length + lens l := by simp [lens]
theorem lens_drop (l : List (List Int)) {j : Nat} (h : j < l.length) : lens (l.drop j) = l[j].length + lens (l.drop (j + 1)) := by rw [List.drop_eq_getElem_cons h, lens_cons]
def WfR (l : List (List Int)) : Prop := ∀ b ∈ l, Wf 256 b
theorem WfR.flat {l : List (List Int)} (h : WfR l) : Wf 256 l.flatten := fun x hx => by
  obtain ⟨b, hb, hx⟩ := List.mem_flatten.1 hx
  exact h b hb x hx
theorem each_L (l : List (List Int)) (hw : WfR l) (k : Nat) : ∀ (j : Nat) (n s : Int) (m : Nat), j ≤ l.length → l.length < k + j → Like n s → m + lens (l.drop j) < 1000000000 → l.length < 1000000000 →
    ∃ n', F_sum_each_fsum_Sum_Add_L1 l k n m j = some ⟨n', ((m + lens (l.drop j) : Nat) : Int)⟩ ∧ Like n' (s + wsf m (l.drop j).flatten) := by
  induction k with
  | zero => intro j n s m h1 h2; omega
  | succ k ih =>
    intro j n s m h1 h2 h3 h4 h5
    have e0 : F_sum_each_fsum_Sum_Add_L1 l (k + 1) n m j = F_sum_each_fsum_Sum_Add_l1 (F_sum_each_fsum_Sum_Add_L1 l k) l n m j := rfl
    rw [e0]
    unfold F_sum_each_fsum_Sum_Add_l1
    by_cases h : j < l.length
    · have hg : l[j]? = some l[j] := List.getElem?_eq_getElem h
      have hx := hw _ (List.mem_of_getElem? hg)
      have e1 : IntKind.i64.wrap ((j : Int) + 1) = ((j + 1 : Nat) : Int) := by rw [wi64 (by omega) (by omega)]; omega
      have hle := lens_drop l h
      obtain ⟨n1, hn1, hk1⟩ := add_eq hx (by omega) h3 (m := m) (by omega)
      obtain ⟨n', hn, hk⟩ := ih (j + 1) _ _ (m + l[j].length) (by omega) (by omega) hk1 (by omega) h5
      refine ⟨n', ?_, ?_⟩
      · rw [if_pos (by simpa using h), gidx_nat hg, Option.bind_some, hn1, Option.bind_some, e1, hn, hle, show m + l[j].length + lens (l.drop (j + 1)) = m + (l[j].length + lens (l.drop (j + 1))) by omega]
      · rw [List.drop_eq_getElem_cons h, List.flatten_cons, wsf_app, ← Int.add_assoc]
        exact hk
    · rw [if_neg (by simpa using h)]
      rw [List.drop_of_length_le (by omega)]
      refine ⟨n, ?_, by simpa [wsf] using h3⟩
      simp [lens]
theorem each_eq {l : List (List Int)} (hw : WfR l) (hl : l.length < 1000000000) (ht : lens l < 1000000000) :
    ∃ n', F_sum_each_fsum_Sum_Add l ⟨0, 0⟩ = some ⟨n', (lens l : Int)⟩ ∧ Like n' (ws l.flatten) := by
  obtain ⟨n', h1, h2⟩ := each_L l hw fuel0 0 0 0 0 (by omega) (by unfold fuel0; omega) Like.zero (by simpa using ht) hl
  refine ⟨n', ?_, ?_⟩
  · rw [List.drop_zero, Nat.zero_add] at h1
    exact h1
  · rw [List.drop_zero, wsf_ws, Int.zero_add] at h2
    exact h2
theorem value_eq {n s : Int} {m : Int} (h : Like n s) : F_sum_Sum_Value ⟨n, m⟩ = some (65535 - fld s, ⟨n, m⟩) := by
  have hb := fld_bd h.1
  unfold F_sum_Sum_Value
  rw [sfold_eq h.1 (by have := h.2.1; omega), Option.bind_some, wu16i (by omega) (by omega), h.fld]
theorem of_eq {l : List (List Int)} (hw : WfR l) (hl : l.length < 1000000000) (ht : lens l < 1000000000) : F_sum_Of l = some (65535 - fld (ws l.flatten)) := by
  obtain ⟨n, h1, h2⟩ := each_eq hw hl ht
  unfold F_sum_Of
  rw [h1, Option.bind_some, value_eq h2, Option.bind_some]
theorem whole_eq {l : List (List Int)} (hw : WfR l) (hl : l.length < 1000000000) (ht : lens l < 1000000000) : F_sum_Whole l = some (fld (ws l.flatten) == 65535 || fld (ws l.flatten) == 0) := by
  have hb := fld_bd (ws_bd hw.flat).1
  unfold F_sum_Whole F_sum_Whole_j1
  rw [of_eq hw hl ht, Option.bind_some]
  by_cases h : fld (ws l.flatten) = 65535
  · rw [if_pos (by simp; omega), h]; rfl
  · rw [if_neg (by simp; omega)]
    congr 1
    rw [Bool.eq_iff_iff]
    simp
    omega
theorem fldz {n : Int} (h : 0 ≤ n) : (fld n == 65535 || fld n == 0) = (n % 65535 == 0) := by
  rw [Bool.eq_iff_iff]
  simp
  unfold fld
  split <;> omega
theorem works_eq : F_law03_works = some true := by decide +kernel
theorem pick_eq {i n : Int} (h0 : 0 < n) (h1 : n < 1000000000) : ∃ p : Nat, F_kit_Pick i n = some (p : Int) ∧ (p : Int) < n := by
  have hb1 : -n < Int.tmod i n := Int.lt_tmod_of_pos _ h0
  have hb2 : Int.tmod i n < n := Int.tmod_lt_of_pos _ h0
  refine ⟨((Int.tmod i n + n) % n).toNat, ?_, ?_⟩
  · unfold F_kit_Pick
    rw [if_neg (by simp; omega), if_pos (by simp; omega), if_pos (by simp; omega), wi64 (by omega) (by omega), tmod_nn (by omega)]
    have := Int.emod_nonneg (Int.tmod i n + n) (by omega : n ≠ 0)
    congr 1; omega
  · have := Int.emod_nonneg (Int.tmod i n + n) (by omega : n ≠ 0)
    have := Int.emod_lt_of_pos (Int.tmod i n + n) h0
    omega
theorem wsf_set : ∀ (m : Nat) (b : List Int) (i : Nat) (x y : Int), b[i]? = some y → wsf m (b.set i x) = wsf m b - wt (m + i) y + wt (m + i) x
  | m, [], i, x, y, h => by simp at h
  | m, a :: b, 0, x, y, h => by
    simp at h; subst h
    simp only [List.set_cons_zero, wsf, Nat.add_zero]; omega
  | m, a :: b, i + 1, x, y, h => by
    simp only [List.getElem?_cons_succ] at h
    have := wsf_set (m + 1) b i x y h
    simp only [List.set_cons_succ, wsf]
    rw [this, show m + 1 + i = m + (i + 1) by omega]; omega
theorem ws_set {b : List Int} {i : Nat} {x y : Int} (h : b[i]? = some y) : ws (b.set i x) = ws b - wt i y + wt i x := by
  have := wsf_set 0 b i x y h
  rw [wsf_ws, wsf_ws, Nat.zero_add] at this
  exact this
theorem wt_even (p : Nat) (x : Int) : wt (2 * p) x = x * 256 := by unfold wt; rw [if_pos (by omega)]
theorem wt_odd (p : Nat) (x : Int) : wt (2 * p + 1) x = x := by unfold wt; rw [if_neg (by omega)]
theorem ws_two {b : List Int} (h : b.length % 2 = 0) (x y : Int) : ws (b ++ [x, y]) = ws b + x * 256 + y := by
  rw [← wsf_ws, wsf_app, wsf_ws, Nat.zero_add]
  simp only [wsf, wt]
  rw [if_pos h, if_neg (by omega)]; omega
theorem bytes_of {y : Int} (h0 : 0 ≤ y) (h1 : y < 65536) : IntKind.u8.wrap (IntKind.u16.wrap (Int.tdiv y 256)) = y / 256 ∧ IntKind.u8.wrap (Int.tmod y 256) = y % 256 ∧ 0 ≤ y / 256 ∧ y / 256 < 256 := by
  rw [tdiv_nn h0, tmod_nn h0, wu16, wu8, wu8]; omega
theorem one_wf {b : List Int} (h : Wf 256 b) : WfR [b] := fun x hx => by simp at hx; subst hx; exact h
theorem two_wf {b c : List Int} (h : Wf 256 b) (k : Wf 256 c) : WfR [b, c] := fun x hx => by
  simp at hx
  rcases hx with rfl | rfl
  · exact h
  · exact k
theorem change_eq {s f t : Int} (hs : 0 ≤ s ∧ s < 65536) (hf : 0 ≤ f ∧ f < 65536) (ht : 0 ≤ t ∧ t < 65536) : F_sum_Change s f t = some (65535 - fld (65535 - s + (65535 - f) + t)) := by
  unfold F_sum_Change
  have e : IntKind.u64.wrap ((IntKind.u64.wrap ((IntKind.u64.wrap (IntKind.u16.wrap (65535 - s))) + (IntKind.u64.wrap (IntKind.u16.wrap (65535 - f))))) + (IntKind.u64.wrap t)) = 65535 - s + (65535 - f) + t := by simp only [wu64, wu16]; omega
  have hb := fld_bd (n := 65535 - s + (65535 - f) + t) (by omega)
  rw [e, sfold_eq (by omega) (by omega), Option.bind_some, wu16i (by omega) (by omega)]
theorem rchange_eq {s f t : Int} (hs : 0 ≤ s ∧ s < 65536) (hf : 0 ≤ f ∧ f < 65536) (ht : 0 ≤ t ∧ t < 65536) : F_ref03_Change s f t = some (65535 - fld (65535 - s + (65535 - f) + t)) := by
  unfold F_ref03_Change
  have e : (IntKind.u64.wrap ((IntKind.u64.wrap ((IntKind.u64.wrap ((IntKind.u64.wrap (65535 - (IntKind.u64.wrap s))) + 65535)) - (IntKind.u64.wrap f))) + (IntKind.u64.wrap t))) = 65535 - s + (65535 - f) + t := by simp only [wu64]; omega
  have hb := fld_bd (n := 65535 - s + (65535 - f) + t) (by omega)
  rw [e, rfold_eq (by omega) (by omega), Option.bind_some, wu64i (by omega) (by omega), wu16i (by omega) (by omega)]

theorem keeps_j1 {b : List Int} (hw : Wf 256 b) (hl : b.length ≤ 600) (he : b.length % 2 = 0) (i k : Int) {t : Int} (ht : 0 ≤ t ∧ t < 65536) : F_law03_SumKeeps_j1 i k t b = some true := by
  have hn := ws_bd hw
  have hb := fld_bd hn.1
  unfold F_law03_SumKeeps_j1
  rw [of_eq (one_wf hw) (by simp) (by simp [lens]; omega), Option.bind_some]
  simp only [List.flatten_cons, List.flatten_nil, List.append_nil]
  obtain ⟨e1, e2, e3, e4⟩ := bytes_of (y := 65535 - fld (ws b)) (by omega) (by omega)
  rw [e1, e2]
  have hw2 : Wf 256 [(65535 - fld (ws b)) / 256, (65535 - fld (ws b)) % 256] := Wf.cons ⟨e3, e4⟩ (Wf.cons (by omega) Wf.nil)
  rw [whole_eq (two_wf hw hw2) (by simp) (by simp [lens]; omega), Option.bind_some]
  have hm := fld_mod hn.1
  have hz := fld_zero hn.1
  rw [fldz (ws_bd (two_wf hw hw2).flat).1]
  simp only [List.flatten_cons, List.flatten_nil, List.append_nil]
  rw [ws_two he]
  rw [if_neg (by simp; omega)]
  by_cases h0 : b.length = 0
  · have hb0 : b = [] := List.eq_nil_of_length_eq_zero h0
    subst hb0
    rw [if_pos (by simp), if_pos (by simp [ws, fld]), works_eq]
    rfl
  · rw [if_neg (by simp; intro h; subst h; simp at h0), tdiv_nn (by omega), wi64 (by omega) (by omega)]
    obtain ⟨p, hp, hpl⟩ := pick_eq (i := i) (n := (b.length : Int) / 2) (by omega) (by omega)
    obtain ⟨q, hq, hql⟩ := pick_eq (i := k) (n := (b.length : Int) / 2) (by omega) (by omega)
    rw [hp, hq]
    simp only [Option.bind_some]
    rw [if_pos (lim_le (by omega))]
    have w1 : IntKind.i64.wrap (2 * (q : Int)) = ((2 * q : Nat) : Int) := by rw [wi64 (by omega) (by omega)]; omega
    have w2 : IntKind.i64.wrap (2 * (p : Int)) = ((2 * p : Nat) : Int) := by rw [wi64 (by omega) (by omega)]; omega
    have w3 : IntKind.i64.wrap (((2 * q : Nat) : Int) + 1) = ((2 * q + 1 : Nat) : Int) := by rw [wi64 (by omega) (by omega)]; omega
    have w4 : IntKind.i64.wrap (((2 * p : Nat) : Int) + 1) = ((2 * p + 1 : Nat) : Int) := by rw [wi64 (by omega) (by omega)]; omega
    rw [w1, w2, w3, w4]
    simp only [Int.toNat_natCast]
    have g1 : b[2 * p]? = some b[2 * p] := List.getElem?_eq_getElem (by omega)
    have g2 : b[2 * p + 1]? = some b[2 * p + 1] := List.getElem?_eq_getElem (by omega)
    have g3 : b[2 * q]? = some b[2 * q] := List.getElem?_eq_getElem (by omega)
    have g4 : b[2 * q + 1]? = some b[2 * q + 1] := List.getElem?_eq_getElem (by omega)
    have x1 := hw.get g1
    have x2 := hw.get g2
    have x3 := hw.get g3
    have x4 := hw.get g4
    generalize hu1 : b[2 * p] = u1 at *
    generalize hu2 : b[2 * p + 1] = u2 at *
    generalize hu3 : b[2 * q] = u3 at *
    generalize hu4 : b[2 * q + 1] = u4 at *
    have s1 : (b.set (2 * p) u3)[2 * p + 1]? = some u2 := by rw [List.getElem?_set_ne (by omega)]; exact g2
    have s2 : ((b.set (2 * p) u3).set (2 * p + 1) u4)[2 * q]? = some u3 := by
      rw [List.getElem?_set_ne (by omega)]
      by_cases hpq : p = q
      · subst hpq; rw [List.getElem?_set_self (by omega)]
      · rw [List.getElem?_set_ne (by omega)]; exact g3
    have s3 : (((b.set (2 * p) u3).set (2 * p + 1) u4).set (2 * q) u1)[2 * q + 1]? = some u4 := by
      rw [List.getElem?_set_ne (by omega)]
      by_cases hpq : p = q
      · subst hpq; rw [List.getElem?_set_self (by simp; omega)]
      · rw [List.getElem?_set_ne (by omega), List.getElem?_set_ne (by omega)]; exact g4
    simp only [gidx_nat g3, gidx_nat g1, gidx_nat g4, gidx_nat s1, gidx_nat s2, gidx_nat g2, gidx_nat s3, Option.bind_some]
    have hw4 := (((hw.set (2 * p) x3).set (2 * p + 1) x4).set (2 * q) x1).set (2 * q + 1) x2
    rw [of_eq (one_wf hw4) (by simp) (by simp [lens]; omega), Option.bind_some]
    simp only [List.flatten_cons, List.flatten_nil, List.append_nil]
    rw [ws_set s3, ws_set s2, ws_set s1, ws_set g1, wt_even, wt_even, wt_even, wt_even, wt_odd, wt_odd, wt_odd, wt_odd]
    have ew : ws b - u1 * 256 + u3 * 256 - u2 + u4 - u3 * 256 + u1 * 256 - u4 + u2 = ws b := by omega
    rw [ew, if_neg (by simp)]
    have ef : (IntKind.u16.wrap ((IntKind.u16.wrap ((IntKind.u16.wrap u1) * 256)) + (IntKind.u16.wrap u2))) = u1 * 256 + u2 := by simp only [wu16]; omega
    rw [ef, change_eq (by omega) (by omega) ht, Option.bind_some, if_pos (lim_le (by first | omega | (simp; omega)))]
    obtain ⟨t1, t2, t3, t4⟩ := bytes_of ht.1 ht.2
    rw [t1, t2]
    have r1 : (b.set (2 * p) (t / 256))[2 * p + 1]? = some u2 := by rw [List.getElem?_set_ne (by omega)]; exact g2
    rw [gidx_nat r1, Option.bind_some]
    have hN : 0 ≤ 65535 - (65535 - fld (ws b)) + (65535 - (u1 * 256 + u2)) + t := by omega
    have hB := fld_bd hN
    have hM := fld_mod hN
    generalize hF : fld (65535 - (65535 - fld (ws b)) + (65535 - (u1 * 256 + u2)) + t) = F at *
    obtain ⟨f1, f2, f3, f4⟩ := bytes_of (y := 65535 - F) (by omega) (by omega)
    rw [f1, f2]
    have hwA := (hw.set (2 * p) (x := t / 256) ⟨t3, t4⟩).set (2 * p + 1) (x := t % 256) (by omega)
    have hwB : Wf 256 [(65535 - F) / 256, (65535 - F) % 256] := Wf.cons ⟨f3, f4⟩ (Wf.cons (by omega) Wf.nil)
    rw [whole_eq (two_wf hwA hwB) (by simp) (by simp [lens]; omega), Option.bind_some]
    have hE := (ws_bd (two_wf hwA hwB).flat).1
    rw [fldz hE]
    simp only [List.flatten_cons, List.flatten_nil, List.append_nil] at hE ⊢
    rw [ws_two (by simpa using he), ws_set r1, ws_set g1, wt_even, wt_even, wt_odd, wt_odd] at hE ⊢
    rw [if_pos (by simp; omega), works_eq]
    rfl
theorem keeps_eq {b : List Int} (hw : Wf 256 b) (i k : Int) {t : Int} (ht : 0 ≤ t ∧ t < 65536) : F_law03_SumKeeps b i k t = some true := by
  unfold F_law03_SumKeeps
  by_cases h : 600 < b.length
  · rw [if_pos (by simp; omega), works_eq]; rfl
  · rw [if_neg (by simp; omega), tmod_nn (by omega)]
    by_cases h2 : b.length % 2 = 1
    · rw [if_pos (by simp; omega), gcut_in (by omega) (by omega) (by omega), Option.bind_some]
      exact keeps_j1 ((hw.drop _).take _) (by simp; omega) (by simp; omega) i k ht
    · rw [if_neg (by simp; omega)]
      exact keeps_j1 hw (by omega) (by omega) i k ht
theorem wds_set : ∀ {b : List Int} {p : Nat} {x y : Int}, b[p]? = some y → ∃ w, (wds b)[p / 2]? = some w ∧ (wds (b.set p x))[p / 2]? = some (w - wt p y + wt p x)
  | [], p, x, y, h => by simp at h
  | [a], p, x, y, h => by
    cases p with
    | zero => simp at h; subst h; exact ⟨a * 256, by simp [wds], by simp [wds, wt]⟩
    | succ p => simp at h
  | a :: c :: r, 0, x, y, h => by
    simp at h; subst h
    exact ⟨a * 256 + c, by simp [wds], by simp [wds, wt]; omega⟩
  | a :: c :: r, 1, x, y, h => by
    simp at h; subst h
    exact ⟨a * 256 + c, by simp [wds], by simp [wds, wt]⟩
  | a :: c :: r, p + 2, x, y, h => by
    simp at h
    obtain ⟨w, h1, h2⟩ := wds_set (x := x) h
    refine ⟨w, ?_, ?_⟩
    · simp only [wds]
      rw [show (p + 2) / 2 = p / 2 + 1 by omega, List.getElem?_cons_succ]; exact h1
    · have e : (a :: c :: r).set (p + 2) x = a :: c :: r.set p x := by simp
      have e2 : ∀ z, wt (p + 2) z = wt p z := fun z => by unfold wt; congr 1; simp
      rw [e, e2, e2]
      simp only [wds]
      rw [show (p + 2) / 2 = p / 2 + 1 by omega, List.getElem?_cons_succ]; exact h2
theorem finds_j1 {b : List Int} (hw : Wf 256 b) (t : Bool) (ht : t = false → b.length ≤ 600 ∧ 2 ≤ b.length ∧ ws b % 65535 = 0) (i y : Int) : F_law03_SumFinds_j1 b i y t = some true := by
  unfold F_law03_SumFinds_j1
  cases t with
  | true => rw [if_pos rfl, works_eq]; rfl
  | false =>
    obtain ⟨h1, h2, h3⟩ := ht rfl
    rw [if_neg (by decide)]
    obtain ⟨p, hp, hpl⟩ := pick_eq (i := i) (n := (b.length : Int)) (by omega) (by omega)
    rw [hp, Option.bind_some, if_pos (lim_le (by first | omega | (simp; omega)))]
    have g1 : b[p]? = some b[p] := List.getElem?_eq_getElem (by omega)
    have x1 := hw.get g1
    generalize hu1 : b[p] = u1 at *
    have hx : 0 ≤ IntKind.u8.wrap (u1 + y) ∧ IntKind.u8.wrap (u1 + y) < 256 := by rw [wu8]; omega
    rw [gidx_nat g1, Option.bind_some, Option.bind_some, Int.toNat_natCast]
    generalize IntKind.u8.wrap (u1 + y) = x at *
    obtain ⟨w, k1, k2⟩ := wds_set (x := x) g1
    have hw2 := hw.set p hx
    rw [words_eq hw (by omega), words_eq hw2 (by simp; omega), Option.bind_some, tdiv_nn (by omega), wi64 (by omega) (by omega)]
    have ed : ((p : Int) / 2) = ((p / 2 : Nat) : Int) := by omega
    rw [ed, gidx_nat k1, Option.bind_some, Option.bind_some, gidx_nat k2, Option.bind_some]
    rw [whole_eq (one_wf hw) (by simp) (by simp [lens]; omega), Option.bind_some, whole_eq (one_wf hw2) (by simp) (by simp [lens]; omega), Option.bind_some]
    rw [fldz (ws_bd (one_wf hw).flat).1, fldz (ws_bd (one_wf hw2).flat).1]
    have hn2 := (ws_bd hw2).1
    simp only [List.flatten_cons, List.flatten_nil, List.append_nil]
    rw [ws_set g1] at hn2 ⊢
    rw [if_pos (by simpa using h3)]
    have b1 := (wds_wf hw).get k1
    have b2 := (wds_wf hw2).get k2
    rw [tmod_nn b1.1, tmod_nn b2.1]
    have eb : ((ws b - wt p u1 + wt p x) % 65535 == 0) = (w % 65535 == (w - wt p u1 + wt p x) % 65535) := by
      rw [Bool.eq_iff_iff]; simp; omega
    rw [eb, if_pos (by simp), works_eq]
    rfl
theorem finds_eq {b : List Int} (hw : Wf 256 b) (i y : Int) : F_law03_SumFinds b i y = some true := by
  unfold F_law03_SumFinds
  by_cases h : 600 < b.length
  · rw [if_pos (by simp; omega)]; exact finds_j1 hw true (fun h => by cases h) i y
  · rw [if_neg (by simp; omega)]
    by_cases h2 : b.length < 2
    · rw [if_pos (by simp; omega)]; exact finds_j1 hw true (fun h => by cases h) i y
    · rw [if_neg (by simp; omega), rwhole_eq hw (by omega), Option.bind_some, fldz (ws_bd hw).1]
      refine finds_j1 hw _ (fun hf => ⟨by omega, by omega, ?_⟩) i y
      simpa using hf
theorem joined_L (l : List (List Int)) (k : Nat) : ∀ (j : Nat) (out : List Int), j ≤ l.length → j ≤ 20 → out.length ≤ 300 * j → 20 < k + j →
    (F_law03_joined_L1 l k out j = some ([], false)) ∨ (l.length ≤ 20 ∧ (out ++ (l.drop j).flatten).length ≤ 6000 ∧ F_law03_joined_L1 l k out j = some (out ++ (l.drop j).flatten, true)) := by
  induction k with
  | zero => intro j out h1 h2 h3 h4; omega
  | succ k ih =>
    intro j out h1 h2 h3 h4
    have e0 : F_law03_joined_L1 l (k + 1) out j = F_law03_joined_l1 (F_law03_joined_L1 l k) l out j := rfl
    rw [e0]
    unfold F_law03_joined_l1 F_law03_joined_j1
    by_cases h : j < l.length
    · rw [if_pos (by simpa using h)]
      by_cases h20 : j = 20
      · rw [if_pos (by simp [h20]), if_pos rfl]; exact Or.inl rfl
      · rw [if_neg (by simp; omega)]
        have hg : l[j]? = some l[j] := List.getElem?_eq_getElem h
        rw [gidx_nat hg, Option.bind_some]
        by_cases h300 : 300 < l[j].length
        · rw [if_pos (by simp; omega)]; exact Or.inl rfl
        · rw [if_neg (by simp; omega), Option.bind_some, if_pos (lim_le (by first | omega | (simp; omega)))]
          have e1 : IntKind.i64.wrap ((j : Int) + 1) = ((j + 1 : Nat) : Int) := by rw [wi64 (by omega) (by omega)]; omega
          rw [e1]
          have := ih (j + 1) (out ++ l[j]) (by omega) (by omega) (by simp; omega) (by omega)
          rw [List.drop_eq_getElem_cons h, List.flatten_cons, ← List.append_assoc]
          exact this
    · rw [if_neg (by simpa using h)]
      have hd : l.drop j = [] := List.drop_of_length_le (by omega)
      rw [hd]
      refine Or.inr ⟨by omega, by simp; omega, by simp⟩
theorem joined_eq (l : List (List Int)) : (F_law03_joined l = some ([], false)) ∨ (l.length ≤ 20 ∧ l.flatten.length ≤ 6000 ∧ F_law03_joined l = some (l.flatten, true)) := by
  have h := joined_L l fuel0 0 [] (by omega) (by omega) (by simp) (by unfold fuel0; omega)
  simp only [List.drop_zero, List.nil_append] at h
  exact h
theorem tells_L (l : List (List Int)) (hw : WfR l) (h20 : l.length ≤ 20) (hlen : l.flatten.length ≤ 6000) {a b c : Int} (ha : 0 ≤ a ∧ a < 65536) (hb : 0 ≤ b ∧ b < 65536) (hc : 0 ≤ c ∧ c < 65536)
    (hJ : F_law03_joined l = some (l.flatten, true)) (k : Nat) : ∀ (j : Nat) (n s : Int) (m : Nat), j ≤ l.length → l.length < k + j → Like n s → m + lens (l.drop j) = lens l → s + wsf m (l.drop j).flatten = ws l.flatten →
    F_law03_SumTells_L1 l a b c (l.flatten, true) k n m j = some true := by
  induction k with
  | zero => intro j n s m h1 h2; omega
  | succ k ih =>
    intro j n s m h1 h2 h3 h4 h5
    have e0 : F_law03_SumTells_L1 l a b c (l.flatten, true) (k + 1) n m j = F_law03_SumTells_l1 (F_law03_SumTells_L1 l a b c (l.flatten, true) k) l a b c (l.flatten, true) n m j := rfl
    rw [e0]
    have hL : lens l ≤ 6000 := hlen
    unfold F_law03_SumTells_l1
    by_cases h : j < l.length
    · have hg : l[j]? = some l[j] := List.getElem?_eq_getElem h
      have hx := hw _ (List.mem_of_getElem? hg)
      have hle := lens_drop l h
      have e1 : IntKind.i64.wrap ((j : Int) + 1) = ((j + 1 : Nat) : Int) := by rw [wi64 (by omega) (by omega)]; omega
      obtain ⟨n1, hn1, hk1⟩ := add_eq hx (by omega) h3 (m := m) (by omega)
      rw [if_pos (by simpa using h), gidx_nat hg, Option.bind_some, hn1, Option.bind_some, Option.bind_some]
      unfold F_sum_Sum_Add_N
      rw [Option.bind_some, e1]
      refine ih (j + 1) n1 _ (m + l[j].length) (by omega) (by omega) hk1 (by omega) ?_
      rw [← h5, List.drop_eq_getElem_cons h, List.flatten_cons, wsf_app]
      omega
    · have hd : l.drop j = [] := List.drop_of_length_le (by omega)
      rw [hd] at h4 h5
      simp only [List.flatten_nil, wsf, Int.add_zero] at h5
      have hm : m = l.flatten.length := by simpa [lens] using h4
      have hf := hw.flat
      rw [if_neg (by simpa using h), hJ, Option.bind_some, of_eq hw (by omega) (by omega), Option.bind_some, rof_eq hf (by omega), Option.bind_some, if_pos (by simp)]
      rw [whole_eq hw (by omega) (by omega), Option.bind_some, rwhole_eq hf (by omega), Option.bind_some, if_pos (by simp)]
      rw [value_eq h3, Option.bind_some, h5, Option.bind_some, if_pos (by simp)]
      simp only
      rw [value_eq h3, Option.bind_some]
      simp only
      rw [value_eq h3, Option.bind_some, if_pos (by simp)]
      unfold F_sum_Sum_Len
      rw [Option.bind_some, if_pos (by simp [hm]), change_eq ha hb hc, Option.bind_some, rchange_eq ha hb hc, Option.bind_some, if_pos (by simp)]
      unfold F_sum_Sum_Value_N F_sum_Sum_Len_N
      rw [Option.bind_some, if_pos (by simp), Option.bind_some, if_pos (by simp)]
      unfold F_ref01_Same
      rw [Option.bind_some, if_pos (by simp), works_eq]
      rfl
theorem tells_eq {l : List (List Int)} (hw : WfR l) {a b c : Int} (ha : 0 ≤ a ∧ a < 65536) (hb : 0 ≤ b ∧ b < 65536) (hc : 0 ≤ c ∧ c < 65536) : F_law03_SumTells l a b c = some true := by
  unfold F_law03_SumTells
  rcases joined_eq l with hJ | ⟨h20, hlen, hJ⟩
  · rw [hJ, Option.bind_some, if_pos (by simp), works_eq]; rfl
  · rw [hJ, Option.bind_some, if_neg (by simp)]
    exact tells_L l hw h20 hlen ha hb hc hJ fuel0 0 0 0 0 (by omega) (by unfold fuel0; omega) Like.zero (by simp) (by simp [wsf_ws])

theorem gidx_wf {m : Int} {xs : List Int} (h : Wf m xs) {i : Int} (h0 : 0 ≤ i) (h1 : i < xs.length) : ∃ x, gidx xs i = some x ∧ 0 ≤ x ∧ x < m := by
  have e := gidx_in (xs := xs) h0 h1
  exact ⟨_, e, h _ (List.getElem_mem _)⟩
theorem known_L3 (k : Nat) : ∀ j : Nat, j ≤ 16 → 16 < k + j → F_law03_SumKnown_L3 k j = some true := by
  induction k with
  | zero => intro j h1 h2; omega
  | succ k ih =>
    intro j h1 h2
    have e0 : F_law03_SumKnown_L3 (k + 1) j = F_law03_SumKnown_l3 (F_law03_SumKnown_L3 k) j := rfl
    rw [e0]
    unfold F_law03_SumKnown_l3
    by_cases h : j < 16
    · have hW : Wf 65536 [0, 1, 65535, 65534] := by unfold Wf; decide
      have e1 : IntKind.i64.wrap ((j : Int) + 1) = ((j + 1 : Nat) : Int) := by rw [wi64 (by omega) (by omega)]; omega
      rw [if_pos (by simp; omega), tmod_nn (by omega), tdiv_nn (by omega), wi64 (n := (j : Int) / 4) (by omega) (by omega), wi64 (n := (j : Int) + (j : Int) / 4) (by omega) (by omega), tmod_nn (by omega)]
      obtain ⟨x1, g1, hx1⟩ := gidx_wf hW (i := (j : Int) % 4) (by omega) (by simp; omega)
      obtain ⟨x2, g2, hx2⟩ := gidx_wf hW (i := (j : Int) / 4) (by omega) (by simp; omega)
      obtain ⟨x3, g3, hx3⟩ := gidx_wf hW (i := ((j : Int) + (j : Int) / 4) % 4) (by omega) (by simp; omega)
      have hW0 : Wf 256 [0, 0, 0, 0] := by unfold Wf; decide
      have hW1 : Wf 256 [255, 255] := by unfold Wf; decide
      have t1 : F_law03_SumTells [] x1 x2 x3 = some true := tells_eq (fun b h => by cases h) hx1 hx2 hx3
      simp only [g1, g2, g3, Option.bind_some, t1, keeps_eq hW0 0 1 hx1, keeps_eq hW1 0 0 hx1]
      unfold F_law03_SumKnown_j3
      rw [if_neg (by decide), if_neg (by decide), if_neg (by decide), e1]
      exact ih (j + 1) (by omega) (by omega)
    · rw [if_neg (by simp; omega), works_eq]; rfl
theorem known_L2 (b279 : List Int) (i280 : Int) (rec282 : (List Int) → Int → Option Bool) (xv289 y330 : Int) (whole351 : List Int) (hw : Wf 256 (whole351 ++ [(IntKind.u8.wrap (IntKind.u16.wrap (Int.tdiv y330 256))), (IntKind.u8.wrap (Int.tmod y330 256))])) (k : Nat) :
    ∀ j : Nat, j ≤ 4 → 4 < k + j → F_law03_SumKnown_L2 b279 i280 rec282 xv289 y330 whole351 k j = rec282 (b279 ++ [xv289]) (IntKind.i64.wrap (i280 + 1)) := by
  induction k with
  | zero => intro j h1 h2; omega
  | succ k ih =>
    intro j h1 h2
    have e0 : F_law03_SumKnown_L2 b279 i280 rec282 xv289 y330 whole351 (k + 1) j = F_law03_SumKnown_l2 (F_law03_SumKnown_L2 b279 i280 rec282 xv289 y330 whole351 k) b279 i280 rec282 xv289 y330 whole351 j := rfl
    rw [e0]
    unfold F_law03_SumKnown_l2
    by_cases h : j < 4
    · have e1 : IntKind.i64.wrap ((j : Int) + 1) = ((j + 1 : Nat) : Int) := by rw [wi64 (by omega) (by omega)]; omega
      rw [if_pos (by simp; omega), finds_eq hw, Option.bind_some, if_neg (by decide), e1]
      exact ih (j + 1) (by omega) (by omega)
    · rw [if_neg (by simp; omega)]
theorem known_L1 (k : Nat) : ∀ (j : Nat) (b : List Int), j ≤ 60 → 60 < k + j → b.length = j → Wf 256 b → F_law03_SumKnown_L1 k b j = some true := by
  induction k with
  | zero => intro j b h1 h2; omega
  | succ k ih =>
    intro j b h1 h2 hb hw
    have e0 : F_law03_SumKnown_L1 (k + 1) b j = F_law03_SumKnown_l1 (F_law03_SumKnown_L1 k) b j := rfl
    rw [e0]
    unfold F_law03_SumKnown_l1
    by_cases h : j < 60
    · have hW : Wf 256 [255, 255, 0, (IntKind.u8.wrap (IntKind.i64.wrap ((j : Int) * 37))), 1, 254] :=
        Wf.cons (by omega) (Wf.cons (by omega) (Wf.cons (by omega) (Wf.cons (by rw [wu8]; omega) (Wf.cons (by omega) (Wf.cons (by omega) Wf.nil)))))
      have e1 : IntKind.i64.wrap ((j : Int) + 1) = ((j + 1 : Nat) : Int) := by rw [wi64 (by omega) (by omega)]; omega
      rw [if_pos (by simp; omega), tmod_nn (by omega), tdiv_nn (by omega), tdiv_nn (by omega), wi64 (n := (j : Int) / 2) (by omega) (by omega), wi64 (n := (j : Int) / 3) (by omega) (by omega)]
      obtain ⟨x, g1, hx1⟩ := gidx_wf hW (i := (j : Int) % 6) (by omega) (by simp; omega)
      have hB : Wf 256 (b ++ [x]) := hw.app (Wf.cons hx1 Wf.nil)
      have hl : (b ++ [x]).length = j + 1 := by simp [hb]
      rw [g1, Option.bind_some, if_pos (lim_le (by simp; omega)), gcut_in (by omega) (by omega) (by rw [hl]; omega), gcut_in (by omega) (by rw [hl]; omega) (by omega), Option.bind_some, Option.bind_some]
      have hR : WfR [(b ++ [x]), ((b ++ [x]).drop (0 : Int).toNat).take (((j : Int) / 2).toNat - (0 : Int).toNat), [], ((b ++ [x]).drop ((j : Int) / 3).toNat).take ((((b ++ [x]).length : Nat) : Int).toNat - ((j : Int) / 3).toNat)] := fun y hy => by
        simp only [List.mem_cons, List.not_mem_nil, or_false] at hy
        rcases hy with rfl | rfl | rfl | rfl
        · exact hB
        · exact (hB.drop _).take _
        · exact Wf.nil
        · exact (hB.drop _).take _
      have hu : ∀ n : Int, 0 ≤ IntKind.u16.wrap n ∧ IntKind.u16.wrap n < 65536 := fun n => by rw [wu16]; omega
      rw [tells_eq hR (hu _) (hu _) (hu _), Option.bind_some, if_neg (by decide), keeps_eq hB _ _ (hu _), Option.bind_some, if_neg (by decide), finds_eq hB, Option.bind_some]
      unfold F_law03_SumKnown_j1
      rw [if_neg (by decide), rof_eq hB (by rw [hl]; omega), Option.bind_some, if_pos (lim_le (by rw [hl]; omega))]
      have hbn := fld_bd (ws_bd hB).1
      have hu8 : ∀ n : Int, 0 ≤ IntKind.u8.wrap n ∧ IntKind.u8.wrap n < 256 := fun n => by rw [wu8]; omega
      have fin : ∀ wh : List Int, Wf 256 wh → wh.length < 1000 → F_law03_SumKnown_j2 b j (F_law03_SumKnown_L1 k) x (65535 - fld (ws (b ++ [x]))) wh = some true := fun wh hwh hlw => by
        unfold F_law03_SumKnown_j2
        rw [if_pos (lim_le (by simp; omega)), show (0 : Int) = ((0 : Nat) : Int) from rfl, known_L2 _ _ _ _ _ _ (hwh.app (Wf.cons (hu8 _) (Wf.cons (hu8 _) Wf.nil))) fuel0 0 (by omega) (by unfold fuel0; omega), e1]
        exact ih (j + 1) _ (by omega) (by omega) hl hB
      by_cases hp : (Int.tmod ((b ++ [x]).length : Int) 2 == 1) = true
      · rw [if_pos hp, if_pos (lim_le (by simp; omega))]
        exact fin _ (hB.app (Wf.cons (by omega) Wf.nil)) (by simp; omega)
      · rw [if_neg hp]
        exact fin _ hB (by rw [hl]; omega)
    · rw [if_neg (by simp; omega)]
      exact known_L3 fuel0 0 (by omega) (by unfold fuel0; omega)
theorem known_eq : F_law03_SumKnown = some true := known_L1 fuel0 0 [] (by omega) (by unfold fuel0; omega) rfl Wf.nil
end Go.Proofs.Ytkdbdghncjmfoaa
