/- Plain text: what orders keys, and how this program bears the library's sort. No program's code is named here. -/
import Derived.Test.YtkpnocgfhipidaaGreatF
import Derived.Test.YtkpnocgfhipidaaGreatOxP
import Derived.Test.YtkpnocgfhipidaaGreatOxN
import Derived.Test.YtkpnocgfhipidaaGreatProg
import Derived.Shelf.SlLaysF0
set_option linter.unusedVariables false
namespace Go.Proofs.YtkpnocgfhipidaaGreat
open Go Go.Ox Go.RowKit Go.Shelf
def U (v : Int) : Prop := 0 ≤ v ∧ v < 18446744073709551616
def I (v : Int) : Prop := -9223372036854775808 ≤ v ∧ v ≤ 9223372036854775807
theorem p256 (n : Nat) : (0 : Int) < 256 ^ n := Int.pow_pos (by decide)
theorem p256s (n : Nat) : (256 : Int) ^ (n + 1) = 256 ^ n * 256 := Int.pow_succ _ _
theorem e8 : (256 : Int) ^ 8 = 18446744073709551616 := by decide
theorem e7 : (256 : Int) ^ 7 = 72057594037927936 := by decide
def dgs : Nat → Int → Int
  | 0, _ => 0
  | m + 1, v => if 0 < v then 1 + dgs m (v / 256) else 0
theorem dgs_nn : ∀ (m : Nat) (v : Int), 0 ≤ dgs m v
  | 0, v => by simp [dgs]
  | m + 1, v => by have := dgs_nn m (v / 256); unfold dgs; split <;> omega
theorem dgs_le : ∀ (m : Nat) (v : Int) (n : Nat), 0 ≤ v → v < 256 ^ m → (dgs m v ≤ n ↔ v < 256 ^ n)
  | 0, v, n, h0, h1 => by
    have := p256 n
    simp at h1
    simp only [dgs]
    omega
  | m + 1, v, n, h0, h1 => by
    rw [p256s] at h1
    unfold dgs
    by_cases hv : 0 < v
    · rw [if_pos hv]
      cases n with
      | zero => have := dgs_nn m (v / 256); simp; omega
      | succ n =>
        have ih := dgs_le m (v / 256) n (by omega) (by omega)
        rw [p256s]
        have hp := p256 n
        constructor
        · intro h
          have := ih.1 (by omega)
          omega
        · intro h
          have := ih.2 (by omega)
          omega
    · rw [if_neg hv]
      have := p256 n
      omega
def lst (v : Int) : Int := 1 + dgs 8 (v / 256)
theorem lst_le {v : Int} (hv : U v) {n : Nat} (hn : 1 ≤ n) : lst v ≤ n ↔ v < 256 ^ n := by
  obtain ⟨m, rfl⟩ : ∃ m, n = m + 1 := ⟨n - 1, by omega⟩
  have h := dgs_le 8 (v / 256) m (by have := hv.1; omega) (by have := hv.2; rw [e8]; omega)
  unfold lst
  rw [p256s]
  have := p256 m
  constructor
  · intro h1
    have := h.1 (by omega)
    omega
  · intro h1
    have := h.2 (by omega)
    omega
theorem shr8 {n : Int} (h0 : 0 ≤ n) : Ox.shr .u64 n 8 = n / 256 := by
  show n.fdiv (2 ^ (min 8 64)) = _
  rw [Int.fdiv_eq_ediv_of_nonneg _ (by decide)]
  rfl
theorem least_L : ∀ (m k : Nat) (v n : Int), 0 ≤ v → v < 256 ^ m → m < k → 0 ≤ n → n + m ≤ 1000 → Kp k v n = some (n + dgs m v)
  | m, 0, v, n, h0, h1, h2, h3, h4 => by omega
  | 0, k + 1, v, n, h0, h1, h2, h3, h4 => by
    simp at h1
    show Ki (Kp k) v n = _
    unfold Ki
    rw [if_neg (by simp; omega)]
    simp [dgs]
  | m + 1, k + 1, v, n, h0, h1, h2, h3, h4 => by
    rw [p256s] at h1
    show Ki (Kp k) v n = _
    unfold Ki
    by_cases hv : 0 < v
    · rw [if_pos (by simpa using hv), shr8 h0, wi64 (by omega) (by omega), least_L m k _ _ (by omega) (by omega) (by omega) (by omega) (by omega)]
      simp only [dgs, if_pos hv]
      congr 1; omega
    · rw [if_neg (by simpa using hv)]
      simp [dgs, if_neg hv]
theorem least_eq {v : Int} (hv : U v) : Vq v = some (lst v) := by
  have h := hv.1; have h2 := hv.2
  unfold Vq
  rw [shr8 h]
  exact least_L 8 _ _ _ (by omega) (by rw [e8]; omega) (by unfold fuel0; omega) (by omega) (by omega)
def fit (v n : Int) : Bool := decide (1 ≤ n) && decide (n ≤ 8) && decide (v < 256 ^ n.toNat)
theorem fit_iff {v n : Int} : fit v n = true ↔ 1 ≤ n ∧ n ≤ 8 ∧ v < 256 ^ n.toNat := by simp [fit, and_assoc]
theorem fit_lst {v : Int} (hv : U v) {n : Int} (h1 : 1 ≤ n) (h8 : n ≤ 8) : fit v n = decide (lst v ≤ n) := by
  have := lst_le hv (n := n.toNat) (by omega)
  rw [show ((n.toNat : Nat) : Int) = n by omega] at this
  simp only [fit, h1, h8, decide_true, Bool.true_and]
  exact decide_eq_decide.2 this.symm
theorem bfits_eq {v n : Int} (hv : U v) : VE v n = some (fit v n) := by
  unfold VE VQ UM
  by_cases h1 : 1 ≤ n
  · rw [if_pos (by simpa using h1), Option.bind_some]
    by_cases h8 : n ≤ 8
    · rw [if_pos (by simpa using h8), least_eq hv, Option.bind_some, fit_lst hv h1 h8]; rfl
    · rw [if_neg (by simpa using h8)]
      simp [Ue, fit, h8]
  · rw [if_neg (by simpa using h1), Option.bind_some, if_neg (by decide)]
    simp [Ue, fit, h1]
def put : Nat → Int → List Int
  | 0, _ => []
  | n + 1, v => put n (v / 256) ++ [v % 256]
theorem put_len : ∀ (n : Nat) (v : Int), (put n v).length = n
  | 0, v => rfl
  | n + 1, v => by simp [put, put_len n]
theorem put_wf : ∀ (n : Nat) (v : Int), Wf 256 (put n v)
  | 0, v => Wf.nil
  | n + 1, v => (put_wf n _).app (Wf.cons (by omega) Wf.nil)
theorem put_front : ∀ (n : Nat) (v : Int), put (n + 1) v = (v / 256 ^ n % 256) :: put n v
  | 0, v => by simp [put]
  | n + 1, v => by
    rw [put, put_front n (v / 256)]
    simp only [put, List.cons_append, List.cons.injEq, and_true]
    rw [p256s, Int.mul_comm, Int.ediv_ediv_of_nonneg (by decide)]
theorem shr_t {v : Int} (hv : 0 ≤ v) {t : Nat} (ht : t ≤ 7) : Ox.shr .u64 v (8 * (t : Int)) = v / 256 ^ t := by
  have : t = 0 ∨ t = 1 ∨ t = 2 ∨ t = 3 ∨ t = 4 ∨ t = 5 ∨ t = 6 ∨ t = 7 := by omega
  have e : ∀ m : Nat, v.fdiv (2 ^ m) = v / 2 ^ m := fun m => Int.fdiv_eq_ediv_of_nonneg _ (Int.le_of_lt (Int.pow_pos (by decide)))
  rcases this with rfl | rfl | rfl | rfl | rfl | rfl | rfl | rfl <;> (unfold Ox.shr; rw [e]; rfl)
theorem of_L {v : Int} (hv : U v) {n : Nat} (hn : n ≤ 8) : ∀ (k t : Nat), t ≤ n → n < k + t → U7 v n k (List.replicate (n - t) 0 ++ put t v) (t : Int) = some (put n v)
  | 0, t, h1, h2 => by omega
  | k + 1, t, h1, h2 => by
    show Vt (U7 v n k) v n _ _ = _
    unfold Vt
    by_cases h : t < n
    · obtain ⟨m, hm⟩ : ∃ m, n - t = m + 1 := ⟨n - t - 1, by omega⟩
      have e0 : IntKind.i64.wrap ((n : Int) - 1) = (n : Int) - 1 := wi64 (by omega) (by omega)
      have e1 : IntKind.i64.wrap ((n : Int) - 1 - t) = (m : Int) := by rw [wi64 (by omega) (by omega)]; omega
      have e2 : IntKind.i64.wrap (8 * (t : Int)) = 8 * (t : Int) := wi64 (by omega) (by omega)
      have e3 : IntKind.i64.wrap ((t : Int) + 1) = ((t + 1 : Nat) : Int) := by rw [wi64 (by omega) (by omega)]; omega
      rw [if_pos (by simpa using h), e2, if_pos (by simp; omega), e0, e1, hm]
      have hg : gidx (List.replicate (m + 1) 0 ++ put t v) (m : Int) = some 0 := gidx_nat (by rw [List.getElem?_append_left (by simp)]; simp)
      rw [hg, Option.bind_some, e3, shr_t hv.1 (by omega), wu8]
      have hs : (List.replicate (m + 1) 0 ++ put t v).set (m : Int).toNat (v / 256 ^ t % 256) = List.replicate (n - (t + 1)) 0 ++ put (t + 1) v := by
        rw [put_front, List.replicate_succ', show n - (t + 1) = m by omega]
        simp
      rw [hs]
      exact of_L hv hn k (t + 1) (by omega) (by omega)
    · rw [if_neg (by simpa using h), show t = n by omega]
      simp
theorem of_eq {v : Int} (hv : U v) {n : Int} (h0 : 0 ≤ n) (hn : n ≤ 8) : Xag v n = some (put n.toNat v) := by
  obtain ⟨m, rfl⟩ := Int.eq_ofNat_of_zero_le h0
  unfold Xag
  rw [if_pos (by simp only [lim]; simp; omega)]
  have := of_L hv (n := m) (by omega) fuel0 0 (by omega) (by unfold fuel0; omega)
  simpa [put] using this
theorem limk {n : Nat} (h : n < 1000000000000) : decide (n ≤ lim) = true := lim_le h
theorem wput_eq {w : List Int} (hl : w.length < 1000000) {v n : Int} (hv : U v) : JC ⟨w⟩ v n = some (if fit v n = true then (0, ⟨w ++ put n.toNat v⟩) else (2, ⟨w⟩)) := by
  unfold JC
  rw [bfits_eq hv, Option.bind_some]
  cases hf : fit v n with
  | false => simp
  | true =>
    obtain ⟨h1, h8, _⟩ := fit_iff.1 hf
    rw [if_neg (by decide), of_eq hv (by omega) h8, Option.bind_some]
    unfold ZB
    rw [if_pos (limk (by simp [put_len]; omega)), Option.bind_some, if_pos rfl]
theorem clone_eq {w : List Int} (hl : w.length < 1000000) : Z9 w = some w := by
  unfold Z9
  rw [if_pos (limk (by simp; omega))]; rfl
theorem wbytes_eq {w : List Int} (hl : w.length < 1000000) : Kl ⟨w⟩ = some (w, ⟨w⟩) := by
  unfold Kl
  rw [clone_eq hl, Option.bind_some]
theorem dT {p : Prop} [Decidable p] (h : p) : decide p = true := decide_eq_true h
theorem dF {p : Prop} [Decidable p] (h : ¬ p) : ¬ decide p = true := by simp [h]
def asz (a : Xd) : Nat := if a.YQ = true then 16 else 4
theorem asz_le (a : Xd) : asz a ≤ 16 := by unfold asz; split <;> omega
theorem asize_eq (a : Xd) : J8 a = some (asz a : Int) := by
  unfold J8 asz; split <;> rfl
def ab (a : Xd) : List Int := (arrL 16 a.f_B).take (asz a)
theorem ab_len (a : Xd) : (ab a).length ≤ 16 := by simp [ab]; have := asz_le a; omega
theorem gcut_arr (xs : List Int) (n : Nat) (h : n ≤ 16) : gcut (arrL 16 xs) 0 (n : Int) = some ((arrL 16 xs).take n) := by
  rw [gcut_in (Int.le_refl _) (by omega) (by rw [Ox.arrL_len]; omega)]
  simp
theorem abytes_eq (a : Xd) : Ke a = some (ab a) := by
  unfold Ke Vz
  have h := ab_len a
  rw [asize_eq, Option.bind_some, gcut_arr _ _ (asz_le a), Option.bind_some]
  show (if decide (([] : List Int).length + (ab a).length ≤ lim) = true then some (([] : List Int) ++ ab a) else none).bind _ = _
  rw [if_pos (limk (by simp; omega))]
  rfl
theorem aright_tot (a : Xd) : ∃ b, ZC a = some b := by
  unfold ZC
  rw [asize_eq, Option.bind_some, gcut_arr _ _ (asz_le a), Option.bind_some]
  exact ⟨_, rfl⟩
theorem ports_eq (p : Int) : Ud p = some (p == 6 || p == 17) := by
  unfold Ud Kg
  cases h : p == 6 <;> simp
theorem icmp_eq (p : Int) : UU p = some (p == 1 || p == 58) := by
  unfold UU Ky
  cases h : p == 1 <;> simp
theorem kright_tot (k : Xe) : ∃ b, Yn k = some b := by
  have j1 : ∀ p q, ∃ b, YG k p q = some b := fun p q => by
    obtain ⟨b1, h1⟩ := aright_tot k.XL
    obtain ⟨b2, h2⟩ := aright_tot k.XN
    unfold YG YK
    rw [h1, Option.bind_some, h2, Option.bind_some]
    split
    · split
      · split <;> exact ⟨_, rfl⟩
      · exact ⟨_, rfl⟩
    · exact ⟨_, rfl⟩
  unfold Yn
  rw [ports_eq, Option.bind_some, icmp_eq, Option.bind_some]
  split
  · split <;> exact j1 _ _
  · exact j1 _ _
def kr (k : Xe) : Bool := (Yn k).getD false
theorem kright_eq (k : Xe) : Yn k = some (kr k) := by
  obtain ⟨b, h⟩ := kright_tot k
  unfold kr; rw [h]; rfl
def pb (v : Int) : List Int := if fit v 2 = true then put 2 v else []
theorem pb_len (v : Int) : (pb v).length ≤ 2 := by unfold pb; split <;> simp [put_len]
theorem wp2 {w : List Int} (hl : w.length < 1000) (v : Int) : ∃ e, JC ⟨w⟩ (IntKind.u64.wrap v) 2 = some (e, ⟨w ++ pb (IntKind.u64.wrap v)⟩) := by
  rw [wput_eq (by omega) (by rw [wu64]; exact ⟨by omega, by omega⟩)]
  unfold pb
  cases fit (IntKind.u64.wrap v) 2 with
  | true => exact ⟨0, rfl⟩
  | false => exact ⟨2, by simp⟩
def kbs (k : Xe) : List Int := [if k.XL.YQ = true then 6 else 4] ++ ab k.XL ++ ab k.XN ++ [k.X2] ++ pb (IntKind.u64.wrap k.X6) ++ pb (IntKind.u64.wrap k.X1)
theorem kbs_len (k : Xe) : (kbs k).length ≤ 38 := by
  have h1 := ab_len k.XL; have h2 := ab_len k.XN; have h3 := pb_len (IntKind.u64.wrap k.X6); have h4 := pb_len (IntKind.u64.wrap k.X1)
  simp [kbs]; omega
def kb (k : Xe) : List Int := if kr k = true then kbs k else []
theorem kb_len (k : Xe) : (kb k).length ≤ 38 := by have := kbs_len k; unfold kb; split <;> simp <;> omega
theorem kbytes_eq (k : Xe) : Jh k = some (kb k) := by
  have j1 : ∀ v, ZX k v = some ([v] ++ ab k.XL ++ ab k.XN ++ [k.X2] ++ pb (IntKind.u64.wrap k.X6) ++ pb (IntKind.u64.wrap k.X1)) := fun v => by
    have h1 := ab_len k.XL; have h2 := ab_len k.XN; have h3 := pb_len (IntKind.u64.wrap k.X6); have h4 := pb_len (IntKind.u64.wrap k.X1)
    unfold ZX ZB
    dsimp only
    rw [if_pos (limk (by simp)), Option.bind_some, abytes_eq, Option.bind_some, if_pos (limk (by simp; omega)), Option.bind_some, abytes_eq, Option.bind_some, if_pos (limk (by simp; omega)), Option.bind_some, if_pos (limk (by simp; omega)), Option.bind_some]
    obtain ⟨e1, q1⟩ := wp2 (w := [] ++ [v] ++ ab k.XL ++ ab k.XN ++ [k.X2]) (by simp; omega) k.X6
    obtain ⟨e2, q2⟩ := wp2 (w := [] ++ [v] ++ ab k.XL ++ ab k.XN ++ [k.X2] ++ pb (IntKind.u64.wrap k.X6)) (by simp; omega) k.X1
    rw [q1, Option.bind_some]
    dsimp only
    rw [q2, Option.bind_some]
    dsimp only
    rw [wbytes_eq (by simp; omega), Option.bind_some, List.nil_append]
  unfold Jh kb kbs
  rw [kright_eq, Option.bind_some]
  cases kr k with
  | false => rfl
  | true =>
    rw [if_neg (by decide), if_pos rfl]
    split <;> exact j1 _
def lx : List UInt8 → List UInt8 → Int
  | [], [] => 0
  | [], _ :: _ => -1
  | _ :: _, [] => 1
  | a :: x, b :: y => if a < b then -1 else if b < a then 1 else lx x y
def cmpL (X Y : List UInt8) : Int :=
  match (List.range (min X.length Y.length)).find? fun i => X.getD i 0 != Y.getD i 0 with
  | some i => if X.getD i 0 < Y.getD i 0 then -1 else 1
  | none => if X.length < Y.length then -1 else if X.length > Y.length then 1 else 0
theorem u8_tri {a b : UInt8} (h1 : ¬ a < b) (h2 : ¬ b < a) : a = b := by
  have h3 : ¬ a.toNat < b.toNat := h1
  have h4 : ¬ b.toNat < a.toNat := h2
  exact UInt8.toNat_inj.1 (by omega)
theorem u8_irr (a : UInt8) : ¬ a < a := by show ¬ a.toNat < a.toNat; omega
theorem cmpL_lx : ∀ X Y : List UInt8, cmpL X Y = lx X Y
  | [], [] => rfl
  | [], _ :: _ => by simp [cmpL, lx]
  | _ :: _, [] => by simp [cmpL, lx]
  | a :: X, b :: Y => by
    have ih := cmpL_lx X Y
    unfold cmpL lx
    have hm : min (a :: X).length (b :: Y).length = min X.length Y.length + 1 := by simp
    rw [hm, List.range_succ_eq_map, List.find?_cons]
    by_cases hab : a = b
    · subst hab
      have e0 : ((a :: X).getD 0 0 != (a :: Y).getD 0 0) = false := by simp
      rw [e0]
      dsimp only
      rw [List.find?_map, if_neg (u8_irr a), if_neg (u8_irr a), ← ih]
      unfold cmpL
      have ec : ((fun i => (a :: X).getD i 0 != (a :: Y).getD i 0) ∘ Nat.succ) = fun i => X.getD i 0 != Y.getD i 0 := by funext i; simp
      rw [ec]
      cases (List.range (min X.length Y.length)).find? fun i => X.getD i 0 != Y.getD i 0 with
      | none => simp
      | some i => simp
    · have e0 : ((a :: X).getD 0 0 != (b :: Y).getD 0 0) = true := by simpa using hab
      rw [e0]
      dsimp only
      show (if a < b then (-1 : Int) else 1) = if a < b then -1 else if b < a then 1 else lx X Y
      by_cases h1 : a < b
      · rw [if_pos h1, if_pos h1]
      · rw [if_neg h1, if_neg h1, if_pos (Classical.byContradiction fun h2 => hab (u8_tri h1 h2))]
def nb (xs : List Int) : List UInt8 := xs.map fun x => UInt8.ofNat x.toNat
theorem str_list (xs : List Int) : (strOfNums xs).data.toList = nb xs := by simp [strOfNums, nb]
theorem get_str (xs : List Int) (i : Nat) : (strOfNums xs)[i]! = (nb xs).getD i 0 := by
  have hs : (strOfNums xs).size = (nb xs).length := by rw [← str_list]; simp
  by_cases h : i < (strOfNums xs).size
  · rw [getElem!_pos (strOfNums xs) i h]
    show (strOfNums xs).data[i] = _
    have : (strOfNums xs).data.toList[i]? = (nb xs)[i]? := by rw [str_list]
    have hd : i < (strOfNums xs).data.size := h
    rw [Array.getElem?_toList, Array.getElem?_eq_getElem hd] at this
    simp [List.getD, ← this]
  · rw [getElem!_neg (strOfNums xs) i h]
    simp [List.getD, List.getElem?_eq_none (show (nb xs).length ≤ i by omega)]
    rfl
theorem bcmp_lx (xs ys : List Int) : bcmp xs ys = lx (nb xs) (nb ys) := by
  rw [← cmpL_lx]
  have hs : ∀ xs, (strOfNums xs).size = (nb xs).length := fun xs => by rw [← str_list]; simp
  unfold bcmp Extern.BytealgCompare.cmp cmpL
  simp only [get_str, hs]
  rfl
theorem lx_refl : ∀ X, lx X X = 0
  | [] => rfl
  | a :: X => by unfold lx; rw [if_neg (u8_irr a), if_neg (u8_irr a), lx_refl X]
theorem lx_lt_trans : ∀ X Y Z, lx X Y < 0 → lx Y Z < 0 → lx X Z < 0
  | [], [], Z, h, _ => by simp [lx] at h
  | _ :: _, [], Z, h, _ => by simp [lx] at h
  | [], _ :: _, [], _, h => by simp [lx] at h
  | [], _ :: _, _ :: _, _, _ => by simp [lx]
  | _ :: _, _ :: _, [], _, h => by simp [lx] at h
  | a :: X, b :: Y, c :: Z, h1, h2 => by
    have ih := lx_lt_trans X Y Z
    unfold lx at h1 h2 ⊢
    have key : ∀ x y : UInt8, x < y ↔ x.toNat < y.toNat := fun x y => Iff.rfl
    simp only [key] at h1 h2 ⊢
    by_cases hab : a.toNat < b.toNat
    · by_cases hbc : b.toNat < c.toNat
      · rw [if_pos (by omega)]; decide
      · rw [if_neg hbc] at h2
        by_cases hcb : c.toNat < b.toNat
        · rw [if_pos hcb] at h2; omega
        · rw [if_pos (by omega)]; decide
    · rw [if_neg hab] at h1
      by_cases hba : b.toNat < a.toNat
      · rw [if_pos hba] at h1; omega
      · rw [if_neg hba] at h1
        by_cases hbc : b.toNat < c.toNat
        · rw [if_pos (by omega)]; decide
        · rw [if_neg hbc] at h2
          by_cases hcb : c.toNat < b.toNat
          · rw [if_pos hcb] at h2; omega
          · rw [if_neg hcb] at h2
            rw [if_neg (by omega), if_neg (by omega)]
            exact ih h1 h2
theorem lx_ge_trans : ∀ X Y Z, ¬ lx X Y < 0 → ¬ lx Y Z < 0 → ¬ lx X Z < 0
  | X, [], [], h, _ => h
  | X, [], _ :: _, _, h => by simp [lx] at h
  | [], _ :: _, Z, h, _ => by simp [lx] at h
  | _ :: _, _ :: _, [], _, _ => by simp [lx]
  | a :: X, b :: Y, c :: Z, h1, h2 => by
    have ih := lx_ge_trans X Y Z
    unfold lx at h1 h2 ⊢
    have key : ∀ x y : UInt8, x < y ↔ x.toNat < y.toNat := fun x y => Iff.rfl
    simp only [key] at h1 h2 ⊢
    by_cases hab : a.toNat < b.toNat
    · rw [if_pos hab] at h1; omega
    · rw [if_neg hab] at h1
      by_cases hbc : b.toNat < c.toNat
      · rw [if_pos hbc] at h2; omega
      · rw [if_neg hbc] at h2
        by_cases hac : c.toNat < a.toNat
        · rw [if_neg (by omega), if_pos hac]; decide
        · rw [if_neg (by omega)] at h1
          rw [if_neg (by omega)] at h2
          rw [if_neg (by omega), if_neg (by omega)]
          exact ih h1 h2
theorem pcmp_eq (x y : Xe) : Vs x y = some (lx (nb (kb x)) (nb (kb y))) := by
  unfold Vs Vf
  rw [kbytes_eq, Option.bind_some, kbytes_eq, Option.bind_some, Option.bind_some, bcmp_lx]
abbrev Rc := Xc
abbrev Bd := Xg
def kc (x y : Xe) : Int := lx (nb (kb x)) (nb (kb y))
def c3 (a b : Int) : Int := if a < b then -1 else if b < a then 1 else 0
def orr (a b : Int) : Int := if a = 0 then b else a
theorem c3_eq (a b : Int) : Jp a b = some (c3 a b) := by
  unfold Jp KJ c3
  have h : ∀ x : Int, (x != x) = false := fun x => by simp
  rw [Option.bind_some, Option.bind_some, h, h, if_neg (by decide), if_neg (by decide)]
  by_cases h1 : a < b
  · rw [if_pos (decide_eq_true h1), if_pos h1]
  · rw [if_neg (by simp [h1]), if_neg h1]
    by_cases h2 : b < a
    · rw [if_pos (decide_eq_true h2), if_pos h2]
    · rw [if_neg (by simp [h2]), if_neg h2]
theorem or_eq (a b : Int) : Vo [a, b] = some (orr a b) := by
  show ZJ [a, b] (1099511627773 + 1 + 1 + 1) 0 = _
  have e1 : IntKind.i64.wrap (0 + 1) = 1 := by decide
  have e2 : IntKind.i64.wrap (1 + 1) = 2 := by decide
  have s3 : ∀ k, ZJ [a, b] (k + 1) 2 = some 0 := fun k => by
    show Jb (ZJ [a, b] k) [a, b] 2 = _
    unfold Jb
    rw [if_neg (by simp)]
  have s2 : ∀ k, ZJ [a, b] (k + 1 + 1) 1 = some b := fun k => by
    show Jb (ZJ [a, b] (k + 1)) [a, b] 1 = _
    unfold Jb
    rw [if_pos (by simp), show gidx [a, b] 1 = some b from rfl, Option.bind_some, e2, s3]
    by_cases h : b = 0
    · rw [if_neg (by simp [h]), h]
    · rw [if_pos (by simpa using h)]
  show Jb (ZJ [a, b] (1099511627773 + 1 + 1)) [a, b] 0 = _
  unfold Jb orr
  rw [if_pos (by simp), show gidx [a, b] 0 = some a from rfl, Option.bind_some, e1, s2]
  by_cases h : a = 0
  · rw [if_neg (by simp [h]), if_pos h]
  · rw [if_pos (by simpa using h), if_neg h]
theorem bykey_eq (x y : Rc) : KB x y = some (kc x.Xo y.Xo) := by
  unfold KB
  rw [pcmp_eq, Option.bind_some]
  rfl
def pl (a b : Int) : Int := if 0 < hi64 a b then 18446744073709551615 else lo64 a b
theorem plus_eq (a b : Int) : U6 a b = some (pl a b) := by
  unfold U6 pl
  by_cases h : 0 < hi64 a b
  · rw [if_pos (decide_eq_true h), if_pos h]
  · rw [if_neg (by simp [h]), if_neg h]
def idl (b : Bd) (r : Rc) : Int := pl r.Ya b.XI
def du (b : Bd) (r : Rc) : Int := gmin (idl b r) (pl r.X4 b.XA)
theorem idle_eq (c : Xl) (r : Rc) : Je c r = some (idl c.Xb r) := by
  unfold Je
  rw [plus_eq, Option.bind_some]
  rfl
theorem due_eq (c : Xl) (r : Rc) : Ze c r = some (du c.Xb r) := by
  unfold Ze
  rw [idle_eq, Option.bind_some, plus_eq, Option.bind_some]
  rfl
def lk (f : Rc → Int) (x y : Rc) : Int := orr (c3 (f x) (f y)) (kc x.Xo y.Xo)
theorem lk_lt {f : Rc → Int} {x y : Rc} : lk f x y < 0 ↔ f x < f y ∨ (f x = f y ∧ kc x.Xo y.Xo < 0) := by
  unfold lk orr c3
  by_cases h1 : f x < f y
  · simp [h1]
  · by_cases h2 : f y < f x
    · rw [if_neg h1, if_pos h2, if_neg (by decide)]
      constructor
      · intro h; omega
      · intro h; omega
    · rw [if_neg h1, if_neg h2, if_pos rfl]
      constructor
      · intro h; exact .inr ⟨by omega, h⟩
      · intro h
        rcases h with h | h
        · omega
        · exact h.2
theorem swo_lk (f : Rc → Int) : Sort.SWO (Go.Proofs.ltOf (lk f)) := by
  refine ⟨fun x => ?_, fun x y z h1 h2 => ?_, fun x y z h1 h2 => ?_⟩
  · have h : ¬ lk f x x < 0 := by rw [lk_lt]; simp [kc, lx_refl]
    simpa [Go.Proofs.ltOf] using h
  · simp only [Go.Proofs.ltOf, decide_eq_true_eq, lk_lt] at h1 h2 ⊢
    rcases h1 with h1 | ⟨h1, k1⟩ <;> rcases h2 with h2 | ⟨h2, k2⟩
    · left; omega
    · left; omega
    · left; omega
    · right; exact ⟨by omega, lx_lt_trans _ _ _ k1 k2⟩
  · simp only [Go.Proofs.ltOf, decide_eq_false_iff_not, lk_lt, not_or, not_and] at h1 h2 ⊢
    refine ⟨by omega, fun e => ?_⟩
    exact lx_ge_trans _ _ _ (h1.2 (by omega)) (h2.2 (by omega))
theorem adv1_eq (x y : Rc) (c : Xl) : Y8 x y c = some (lk (du c.Xb) x y) := by
  unfold Y8
  rw [due_eq, Option.bind_some, due_eq, Option.bind_some, c3_eq, Option.bind_some, bykey_eq, Option.bind_some, or_eq, Option.bind_some]
  rfl
theorem beg1_eq (x y : Rc) : ZP x y = some (lk (·.Ya) x y) := by
  unfold ZP
  rw [c3_eq, Option.bind_some, bykey_eq, Option.bind_some, or_eq, Option.bind_some]
  rfl
theorem cfa_eq (c : Xl) : cf_cache_Cache_Advance_1 c = lk (du c.Xb) := by
  funext x y
  unfold cf_cache_Cache_Advance_1
  rw [adv1_eq]; rfl
theorem lk0 (x y : Rc) : lk (fun _ => 0) x y = kc x.Xo y.Xo := by simp [lk, c3, orr]
theorem cfb_eq : cf_cache_byKey = lk (fun _ => 0) := by
  funext x y
  unfold cf_cache_byKey
  rw [bykey_eq, lk0]; rfl
theorem swo_cache_byKey : Sort.SWO (Go.Proofs.ltOf cf_cache_byKey) := by rw [cfb_eq]; exact swo_lk _
theorem tot_cache_byKey (x y : Rc) : KB x y = some (cf_cache_byKey x y) := by rw [cfb_eq, lk0, bykey_eq]
theorem swo_cache_Cache_Advance_1 (p : Xl) : Sort.SWO (Go.Proofs.ltOf (cf_cache_Cache_Advance_1 p)) := by rw [cfa_eq]; exact swo_lk _
theorem tot_cache_Cache_Advance_1 (p : Xl) (x y : Rc) : Y8 x y p = some (cf_cache_Cache_Advance_1 p x y) := by rw [cfa_eq, adv1_eq]
def lsort48_ren : Go.Shelf.Ren := ⟨fun | 6 => 48 | 15 => 20 | 14 => 82 | 28 => 56 | 29 => 57 | 20 => 97 | 21 => 98 | 22 => 99 | 23 => 100 | 24 => 101 | 25 => 102 | 26 => 103 | 27 => 104 | 46 => 111 | 47 => 112 | 48 => 113 | 49 => 114 | 50 => 115 | 57 => 126 | n => n, fun | 22 => 55 | 24 => 62 | 25 => 114 | 3 => 3 | 39 => 67 | 0 => 0 | 53 => 121 | 55 => 22 | 4 => 4 | 46 => 163 | 45 => 162 | 50 => 124 | 5 => 5 | 9 => 9 | 66 => 175 | 70 => 178 | 76 => 188 | 77 => 157 | n => n, fun | n => n⟩
theorem lsort48 : SlLaysF0.n6 Tryz.prog lsort48_ren := {
  mixed := by kernel_rfl,
  f6 := ⟨Tryz.f48.name, by decide, Tryz.func48.trans (congrArg some (by kernel_rfl))⟩,
  f14 := ⟨Tryz.f82.name, by decide, Tryz.func82.trans (congrArg some (by kernel_rfl))⟩,
  f15 := Tryz.func20.trans (congrArg some (by kernel_rfl)),
  f20 := ⟨Tryz.f97.name, by decide, Tryz.func97.trans (congrArg some (by kernel_rfl))⟩,
  f21 := ⟨Tryz.f98.name, by decide, Tryz.func98.trans (congrArg some (by kernel_rfl))⟩,
  f22 := ⟨Tryz.f99.name, by decide, Tryz.func99.trans (congrArg some (by kernel_rfl))⟩,
  f23 := ⟨Tryz.f100.name, by decide, Tryz.func100.trans (congrArg some (by kernel_rfl))⟩,
  f24 := ⟨Tryz.f101.name, by decide, Tryz.func101.trans (congrArg some (by kernel_rfl))⟩,
  f25 := ⟨Tryz.f102.name, by decide, Tryz.func102.trans (congrArg some (by kernel_rfl))⟩,
  f26 := ⟨Tryz.f103.name, by decide, Tryz.func103.trans (congrArg some (by kernel_rfl))⟩,
  f27 := ⟨Tryz.f104.name, by decide, Tryz.func104.trans (congrArg some (by kernel_rfl))⟩,
  f28 := Tryz.func56.trans (congrArg some (by kernel_rfl)),
  f29 := Tryz.func57.trans (congrArg some (by kernel_rfl)),
  f46 := ⟨Tryz.f111.name, by decide, Tryz.func111.trans (congrArg some (by kernel_rfl))⟩,
  f47 := Tryz.func112.trans (congrArg some (by kernel_rfl)),
  f48 := Tryz.func113.trans (congrArg some (by kernel_rfl)),
  f49 := ⟨Tryz.f114.name, by decide, Tryz.func114.trans (congrArg some (by kernel_rfl))⟩,
  f50 := ⟨Tryz.f115.name, by decide, Tryz.func115.trans (congrArg some (by kernel_rfl))⟩,
  f57 := ⟨Tryz.f126.name, by decide, Tryz.func126.trans (congrArg some (by kernel_rfl))⟩,
  t0 := Tryz.underlying0,
  a0 := Tryz.isAgg0,
  z0 := Tryz.sizeOf0,
  v0 := Tryz.zeroValue0,
  t3 := Tryz.underlying3,
  a3 := Tryz.isAgg3,
  z3 := Tryz.sizeOf3,
  v3 := Tryz.zeroValue3,
  t4 := Tryz.underlying4,
  a4 := Tryz.isAgg4,
  z4 := Tryz.sizeOf4,
  v4 := Tryz.zeroValue4,
  t5 := Tryz.underlying5,
  a5 := Tryz.isAgg5,
  z5 := Tryz.sizeOf5,
  v5 := Tryz.zeroValue5,
  t9 := Tryz.underlying9,
  a9 := Tryz.isAgg9,
  z9 := Tryz.sizeOf9,
  v9 := Tryz.zeroValue9,
  t22 := Tryz.underlying55,
  a22 := Tryz.isAgg55,
  z22 := Tryz.sizeOf55,
  v22 := Tryz.zeroValue55,
  t25 := Tryz.underlying114,
  a25 := Tryz.isAgg114,
  z25 := Tryz.sizeOf114,
  v25 := Tryz.zeroValue114,
  t39 := Tryz.underlying67,
  a39 := Tryz.isAgg67,
  z39 := Tryz.sizeOf67,
  v39 := Tryz.zeroValue67,
  t45 := Tryz.underlying162,
  a45 := Tryz.isAgg162,
  z45 := Tryz.sizeOf162,
  v45 := Tryz.zeroValue162,
  t46 := Tryz.underlying163,
  a46 := Tryz.isAgg163,
  z46 := Tryz.sizeOf163,
  v46 := Tryz.zeroValue163,
  t50 := Tryz.underlying124,
  a50 := Tryz.isAgg124,
  z50 := Tryz.sizeOf124,
  v50 := Tryz.zeroValue124,
  t53 := Tryz.underlying121,
  a53 := Tryz.isAgg121,
  z53 := Tryz.sizeOf121,
  v53 := Tryz.zeroValue121,
  t55 := Tryz.underlying22,
  a55 := Tryz.isAgg22,
  z55 := Tryz.sizeOf22,
  v55 := Tryz.zeroValue22,
  t66 := Tryz.underlying175,
  a66 := Tryz.isAgg175,
  z66 := Tryz.sizeOf175,
  v66 := Tryz.zeroValue175,
  t70 := Tryz.underlying178,
  a70 := Tryz.isAgg178,
  z70 := Tryz.sizeOf178,
  v70 := Tryz.zeroValue178,
  t76 := Tryz.underlying188,
  a76 := Tryz.isAgg188,
  z76 := Tryz.sizeOf188,
  v76 := Tryz.zeroValue188,
  t77 := Tryz.underlying157,
  a77 := Tryz.isAgg157,
  z77 := Tryz.sizeOf157,
  v77 := Tryz.zeroValue157 }
end Go.Proofs.YtkpnocgfhipidaaGreat
