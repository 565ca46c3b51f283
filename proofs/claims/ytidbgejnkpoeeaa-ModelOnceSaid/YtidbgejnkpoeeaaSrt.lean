/- Plain text: what orders keys, and how this program bears the library's sort. No program's code is named here. -/
import Derived.Test.YtidbgejnkpoeeaaF
import Derived.Test.YtidbgejnkpoeeaaOxP
import Derived.Test.YtidbgejnkpoeeaaOxL
import Derived.Test.YtidbgejnkpoeeaaProg
import Derived.Shelf.SlLaysF0
set_option linter.unusedVariables false
namespace Go.Proofs.Ytidbgejnkpoeeaa
open Go Go.Ox Go.RowKit Go.Shelf
def U (v : Int) : Prop := 0 ≤ v ∧ v < 18446744073709551616
def I (v : Int) : Prop := -9223372036854775808 ≤ v ∧ v ≤ 9223372036854775807
theorem p256 (n : Nat) : (0 : Int) < 256 ^ n := Int.pow_pos (by decide)
theorem p256s (n : Nat) : (256 : Int) ^ (n + 1) = 256 ^ n * 256 := Int.pow_succ _ _

theorem e8 : (256 : Int) ^ 8 = 18446744073709551616 := by decide
theorem e7 : (256 : Int) ^ 7 = 72057594037927936 := by decide
theorem pmono {m n : Nat} (h : m ≤ n) : (256 : Int) ^ m ≤ 256 ^ n := by
  induction n with
  | zero => rw [show m = 0 by omega]; exact Int.le_refl _
  | succ n ih =>
    rcases Nat.lt_or_ge n m with h1 | h1
    · rw [show m = n + 1 by omega]; exact Int.le_refl _
    · have := ih h1; have := p256 n; rw [p256s]; omega

def dgs : Nat → Int → Int
  | 0, _ => 0
  | m + 1, v => if 0 < v then 1 + dgs m (v / 256) else 0
theorem dgs_nn : ∀ (m : Nat) (v : Int), 0 ≤ dgs m v
  | 0, v => by simp [dgs]
  | m + 1, v => by have := dgs_nn m (v / 256); unfold dgs; split <;> omega
theorem dgs_le : ∀ (m : Nat) (v : Int) (n : Nat), 0 ≤ v → v < 256 ^ m → (dgs m v ≤ n ↔ v < 256 ^ n)
  | 0, v, n, h0, h1 => by
    have := p256 n
    simp at h1
    simp only [dgs]
    omega
  | m + 1, v, n, h0, h1 => by
    rw [p256s] at h1
    unfold dgs
    by_cases hv : 0 < v
    · rw [if_pos hv]
      cases n with
      | zero => have := dgs_nn m (v / 256); simp; omega
      | succ n =>
        have ih := dgs_le m (v / 256) n (by omega) (by omega)
        rw [p256s]
        have hp := p256 n
        constructor
        · intro h
          have := ih.1 (by omega)
          omega
        · intro h
          have := ih.2 (by omega)
          omega
    · rw [if_neg hv]
      have := p256 n
      omega
def lst (v : Int) : Int := 1 + dgs 8 (v / 256)
theorem lst_pos (v : Int) : 1 ≤ lst v := by have := dgs_nn 8 (v / 256); unfold lst; omega
theorem lst_le {v : Int} (hv : U v) {n : Nat} (hn : 1 ≤ n) : lst v ≤ n ↔ v < 256 ^ n := by
  obtain ⟨m, rfl⟩ : ∃ m, n = m + 1 := ⟨n - 1, by omega⟩
  have h := dgs_le 8 (v / 256) m (by have := hv.1; omega) (by have := hv.2; rw [e8]; omega)
  unfold lst
  rw [p256s]
  have := p256 m
  constructor
  · intro h1
    have := h.1 (by omega)
    omega
  · intro h1
    have := h.2 (by omega)
    omega
theorem lst_8 {v : Int} (hv : U v) : lst v ≤ 8 := (lst_le hv (n := 8) (by decide)).2 (by have := hv.2; rw [e8]; omega)
theorem shr8 {n : Int} (h0 : 0 ≤ n) : Ox.shr .u64 n 8 = n / 256 := by
  show n.fdiv (2 ^ (min 8 64)) = _
  rw [Int.fdiv_eq_ediv_of_nonneg _ (by decide)]
  rfl
theorem least_L : ∀ (m k : Nat) (v n : Int), 0 ≤ v → v < 256 ^ m → m < k → 0 ≤ n → n + m ≤ 1000 → F_bits_Least_L1 k v n = some (n + dgs m v)
  | m, 0, v, n, h0, h1, h2, h3, h4 => by omega
  | 0, k + 1, v, n, h0, h1, h2, h3, h4 => by
    simp at h1
    show F_bits_Least_l1 (F_bits_Least_L1 k) v n = _
    unfold F_bits_Least_l1
    rw [if_neg (by simp; omega)]
    simp [dgs]
  | m + 1, k + 1, v, n, h0, h1, h2, h3, h4 => by
    rw [p256s] at h1
    show F_bits_Least_l1 (F_bits_Least_L1 k) v n = _
    unfold F_bits_Least_l1
    by_cases hv : 0 < v
    · rw [if_pos (by simpa using hv), shr8 h0, wi64 (by omega) (by omega), least_L m k _ _ (by omega) (by omega) (by omega) (by omega) (by omega)]
      simp only [dgs, if_pos hv]
      congr 1; omega
    · rw [if_neg (by simpa using hv)]
      simp [dgs, if_neg hv]
theorem least_eq {v : Int} (hv : U v) : F_bits_Least v = some (lst v) := by
  have h := hv.1; have h2 := hv.2
  unfold F_bits_Least
  rw [shr8 h]
  exact least_L 8 _ _ _ (by omega) (by rw [e8]; omega) (by unfold fuel0; omega) (by omega) (by omega)
def fit (v n : Int) : Bool := decide (1 ≤ n) && decide (n ≤ 8) && decide (v < 256 ^ n.toNat)
theorem fit_iff {v n : Int} : fit v n = true ↔ 1 ≤ n ∧ n ≤ 8 ∧ v < 256 ^ n.toNat := by simp [fit, and_assoc]
theorem fit_lst {v : Int} (hv : U v) {n : Int} (h1 : 1 ≤ n) (h8 : n ≤ 8) : fit v n = decide (lst v ≤ n) := by
  have := lst_le hv (n := n.toNat) (by omega)
  rw [show ((n.toNat : Nat) : Int) = n by omega] at this
  simp only [fit, h1, h8, decide_true, Bool.true_and]
  exact decide_eq_decide.2 this.symm
theorem bfits_eq {v n : Int} (hv : U v) : F_bits_fits v n = some (fit v n) := by
  unfold F_bits_fits F_bits_right F_bits_right_j1
  by_cases h1 : 1 ≤ n
  · rw [if_pos (by simpa using h1), Option.bind_some]
    by_cases h8 : n ≤ 8
    · rw [if_pos (by simpa using h8), least_eq hv, Option.bind_some, fit_lst hv h1 h8]; rfl
    · rw [if_neg (by simpa using h8)]
      simp [F_bits_fits_j1, fit, h8]
  · rw [if_neg (by simpa using h1), Option.bind_some, if_neg (by decide)]
    simp [F_bits_fits_j1, fit, h1]
def put : Nat → Int → List Int
  | 0, _ => []
  | n + 1, v => put n (v / 256) ++ [v % 256]
theorem put_len : ∀ (n : Nat) (v : Int), (put n v).length = n
  | 0, v => rfl
  | n + 1, v => by simp [put, put_len n]
theorem put_wf : ∀ (n : Nat) (v : Int), Wf 256 (put n v)
  | 0, v => Wf.nil
  | n + 1, v => (put_wf n _).app (Wf.cons (by omega) Wf.nil)
theorem put_front : ∀ (n : Nat) (v : Int), put (n + 1) v = (v / 256 ^ n % 256) :: put n v
  | 0, v => by simp [put]
  | n + 1, v => by
    rw [put, put_front n (v / 256)]
    simp only [put, List.cons_append, List.cons.injEq, and_true]
    rw [p256s, Int.mul_comm, Int.ediv_ediv_of_nonneg (by decide)]
theorem shr_t {v : Int} (hv : 0 ≤ v) {t : Nat} (ht : t ≤ 7) : Ox.shr .u64 v (8 * (t : Int)) = v / 256 ^ t := by
  have : t = 0 ∨ t = 1 ∨ t = 2 ∨ t = 3 ∨ t = 4 ∨ t = 5 ∨ t = 6 ∨ t = 7 := by omega
  have e : ∀ m : Nat, v.fdiv (2 ^ m) = v / 2 ^ m := fun m => Int.fdiv_eq_ediv_of_nonneg _ (Int.le_of_lt (Int.pow_pos (by decide)))
  rcases this with rfl | rfl | rfl | rfl | rfl | rfl | rfl | rfl <;> (unfold Ox.shr; rw [e]; rfl)
theorem of_L {v : Int} (hv : U v) {n : Nat} (hn : n ≤ 8) : ∀ (k t : Nat), t ≤ n → n < k + t → F_bits_of_L1 v n k (List.replicate (n - t) 0 ++ put t v) (t : Int) = some (put n v)
  | 0, t, h1, h2 => by omega
  | k + 1, t, h1, h2 => by
    show F_bits_of_l1 (F_bits_of_L1 v n k) v n _ _ = _
    unfold F_bits_of_l1
    by_cases h : t < n
    · obtain ⟨m, hm⟩ : ∃ m, n - t = m + 1 := ⟨n - t - 1, by omega⟩
      have e0 : IntKind.i64.wrap ((n : Int) - 1) = (n : Int) - 1 := wi64 (by omega) (by omega)
      have e1 : IntKind.i64.wrap ((n : Int) - 1 - t) = (m : Int) := by rw [wi64 (by omega) (by omega)]; omega
      have e2 : IntKind.i64.wrap (8 * (t : Int)) = 8 * (t : Int) := wi64 (by omega) (by omega)
      have e3 : IntKind.i64.wrap ((t : Int) + 1) = ((t + 1 : Nat) : Int) := by rw [wi64 (by omega) (by omega)]; omega
      rw [if_pos (by simpa using h), e2, if_pos (by simp; omega), e0, e1, hm]
      have hg : gidx (List.replicate (m + 1) 0 ++ put t v) (m : Int) = some 0 := gidx_nat (by rw [List.getElem?_append_left (by simp)]; simp)
      rw [hg, Option.bind_some, e3, shr_t hv.1 (by omega), wu8]
      have hs : (List.replicate (m + 1) 0 ++ put t v).set (m : Int).toNat (v / 256 ^ t % 256) = List.replicate (n - (t + 1)) 0 ++ put (t + 1) v := by
        rw [put_front, List.replicate_succ', show n - (t + 1) = m by omega]
        simp
      rw [hs]
      exact of_L hv hn k (t + 1) (by omega) (by omega)
    · rw [if_neg (by simpa using h), show t = n by omega]
      simp
theorem of_eq {v : Int} (hv : U v) {n : Int} (h0 : 0 ≤ n) (hn : n ≤ 8) : F_bits_of v n = some (put n.toNat v) := by
  obtain ⟨m, rfl⟩ := Int.eq_ofNat_of_zero_le h0
  unfold F_bits_of
  rw [if_pos (by simp only [lim]; simp; omega)]
  have := of_L hv (n := m) (by omega) fuel0 0 (by omega) (by unfold fuel0; omega)
  simpa [put] using this
theorem limk {n : Nat} (h : n < 1000000000000) : decide (n ≤ lim) = true := lim_le h
theorem wput_eq {w : List Int} (hl : w.length < 1000000) {v n : Int} (hv : U v) : F_bits_Writer_Put ⟨w⟩ v n = some (if fit v n = true then (0, ⟨w ++ put n.toNat v⟩) else (2, ⟨w⟩)) := by
  unfold F_bits_Writer_Put
  rw [bfits_eq hv, Option.bind_some]
  cases hf : fit v n with
  | false => simp
  | true =>
    obtain ⟨h1, h8, _⟩ := fit_iff.1 hf
    rw [if_neg (by decide), of_eq hv (by omega) h8, Option.bind_some]
    unfold F_bits_Writer_Raw
    rw [if_pos (limk (by simp [put_len]; omega)), Option.bind_some, if_pos rfl]
theorem clone_eq {w : List Int} (hl : w.length < 1000000) : F_slices_Clone_byte_byte w = some w := by
  unfold F_slices_Clone_byte_byte
  rw [if_pos (limk (by simp; omega))]; rfl
theorem wbytes_eq {w : List Int} (hl : w.length < 1000000) : F_bits_Writer_Bytes ⟨w⟩ = some w := by
  unfold F_bits_Writer_Bytes
  rw [clone_eq hl, Option.bind_some]
theorem dT {p : Prop} [Decidable p] (h : p) : decide p = true := decide_eq_true h
theorem dF {p : Prop} [Decidable p] (h : ¬ p) : ¬ decide p = true := by simp [h]
/-! ### A key's bytes -/
def asz (a : T_addr_Addr) : Nat := if a.f_Six = true then 16 else 4
theorem asz_le (a : T_addr_Addr) : asz a ≤ 16 := by unfold asz; split <;> omega
theorem asize_eq (a : T_addr_Addr) : F_addr_Addr_size a = some (asz a : Int) := by
  unfold F_addr_Addr_size asz; split <;> rfl
def ab (a : T_addr_Addr) : List Int := (arrL 16 a.f_B).take (asz a)
theorem ab_len (a : T_addr_Addr) : (ab a).length ≤ 16 := by simp [ab]; have := asz_le a; omega
theorem gcut_arr (xs : List Int) (n : Nat) (h : n ≤ 16) : gcut (arrL 16 xs) 0 (n : Int) = some ((arrL 16 xs).take n) := by
  rw [gcut_in (Int.le_refl _) (by omega) (by rw [Ox.arrL_len]; omega)]
  simp
theorem abytes_eq (a : T_addr_Addr) : F_addr_Addr_Bytes a = some (ab a) := by
  unfold F_addr_Addr_Bytes F_bytes_Clone
  have h := ab_len a
  rw [asize_eq, Option.bind_some, gcut_arr _ _ (asz_le a), Option.bind_some]
  show (if decide (([] : List Int).length + (ab a).length ≤ lim) = true then some (([] : List Int) ++ ab a) else none).bind _ = _
  rw [if_pos (limk (by simp; omega))]
  rfl
theorem aright_tot (a : T_addr_Addr) : ∃ b, F_addr_Addr_Right a = some b := by
  unfold F_addr_Addr_Right
  rw [asize_eq, Option.bind_some, gcut_arr _ _ (asz_le a), Option.bind_some]
  exact ⟨_, rfl⟩
theorem ports_eq (p : Int) : F_packet_ports p = some (p == 6 || p == 17) := by
  unfold F_packet_ports F_packet_ports_j1
  cases h : p == 6 <;> simp
theorem icmp_eq (p : Int) : F_packet_icmp p = some (p == 1 || p == 58) := by
  unfold F_packet_icmp F_packet_icmp_j1
  cases h : p == 1 <;> simp
theorem kright_tot (k : T_packet_Key) : ∃ b, F_packet_Key_Right k = some b := by
  have j1 : ∀ p q, ∃ b, F_packet_Key_Right_j1 k p q = some b := fun p q => by
    obtain ⟨b1, h1⟩ := aright_tot k.f_Src
    obtain ⟨b2, h2⟩ := aright_tot k.f_Dst
    unfold F_packet_Key_Right_j1 F_packet_Key_Right_j2
    rw [h1, Option.bind_some, h2, Option.bind_some]
    split
    · split
      · split <;> exact ⟨_, rfl⟩
      · exact ⟨_, rfl⟩
    · exact ⟨_, rfl⟩
  unfold F_packet_Key_Right
  rw [ports_eq, Option.bind_some, icmp_eq, Option.bind_some]
  split
  · split <;> exact j1 _ _
  · exact j1 _ _
def kr (k : T_packet_Key) : Bool := (F_packet_Key_Right k).getD false
theorem kright_eq (k : T_packet_Key) : F_packet_Key_Right k = some (kr k) := by
  obtain ⟨b, h⟩ := kright_tot k
  unfold kr; rw [h]; rfl
def pb (v : Int) : List Int := if fit v 2 = true then put 2 v else []
theorem pb_len (v : Int) : (pb v).length ≤ 2 := by unfold pb; split <;> simp [put_len]
theorem wp2 {w : List Int} (hl : w.length < 1000) (v : Int) : ∃ e, F_bits_Writer_Put ⟨w⟩ (IntKind.u64.wrap v) 2 = some (e, ⟨w ++ pb (IntKind.u64.wrap v)⟩) := by
  rw [wput_eq (by omega) (by rw [wu64]; exact ⟨by omega, by omega⟩)]
  unfold pb
  cases fit (IntKind.u64.wrap v) 2 with
  | true => exact ⟨0, rfl⟩
  | false => exact ⟨2, by simp⟩
def kbs (k : T_packet_Key) : List Int := [if k.f_Src.f_Six = true then 6 else 4] ++ ab k.f_Src ++ ab k.f_Dst ++ [k.f_Proto] ++ pb (IntKind.u64.wrap k.f_SrcPort) ++ pb (IntKind.u64.wrap k.f_DstPort)
theorem kbs_len (k : T_packet_Key) : (kbs k).length ≤ 38 := by
  have h1 := ab_len k.f_Src; have h2 := ab_len k.f_Dst; have h3 := pb_len (IntKind.u64.wrap k.f_SrcPort); have h4 := pb_len (IntKind.u64.wrap k.f_DstPort)
  simp [kbs]; omega
def kb (k : T_packet_Key) : List Int := if kr k = true then kbs k else []
theorem kb_len (k : T_packet_Key) : (kb k).length ≤ 38 := by have := kbs_len k; unfold kb; split <;> simp <;> omega
theorem kbytes_eq (k : T_packet_Key) : F_packet_Key_Bytes k = some (kb k) := by
  have j1 : ∀ v, F_packet_Key_Bytes_j1 k v = some ([v] ++ ab k.f_Src ++ ab k.f_Dst ++ [k.f_Proto] ++ pb (IntKind.u64.wrap k.f_SrcPort) ++ pb (IntKind.u64.wrap k.f_DstPort)) := fun v => by
    have h1 := ab_len k.f_Src; have h2 := ab_len k.f_Dst; have h3 := pb_len (IntKind.u64.wrap k.f_SrcPort); have h4 := pb_len (IntKind.u64.wrap k.f_DstPort)
    unfold F_packet_Key_Bytes_j1 F_bits_Writer_Raw
    dsimp only
    rw [if_pos (limk (by simp)), Option.bind_some, abytes_eq, Option.bind_some, if_pos (limk (by simp; omega)), Option.bind_some, abytes_eq, Option.bind_some, if_pos (limk (by simp; omega)), Option.bind_some, if_pos (limk (by simp; omega)), Option.bind_some]
    obtain ⟨e1, q1⟩ := wp2 (w := [] ++ [v] ++ ab k.f_Src ++ ab k.f_Dst ++ [k.f_Proto]) (by simp; omega) k.f_SrcPort
    obtain ⟨e2, q2⟩ := wp2 (w := [] ++ [v] ++ ab k.f_Src ++ ab k.f_Dst ++ [k.f_Proto] ++ pb (IntKind.u64.wrap k.f_SrcPort)) (by simp; omega) k.f_DstPort
    rw [q1, Option.bind_some]
    dsimp only
    rw [q2, Option.bind_some]
    dsimp only
    rw [wbytes_eq (by simp; omega), Option.bind_some, List.nil_append]
  unfold F_packet_Key_Bytes kb kbs
  rw [kright_eq, Option.bind_some]
  cases kr k with
  | false => rfl
  | true =>
    rw [if_neg (by decide), if_pos rfl]
    split <;> exact j1 _

/-! ### The order of rows of bytes -/
def lx : List UInt8 → List UInt8 → Int
  | [], [] => 0
  | [], _ :: _ => -1
  | _ :: _, [] => 1
  | a :: x, b :: y => if a < b then -1 else if b < a then 1 else lx x y
def cmpL (X Y : List UInt8) : Int :=
  match (List.range (min X.length Y.length)).find? fun i => X.getD i 0 != Y.getD i 0 with
  | some i => if X.getD i 0 < Y.getD i 0 then -1 else 1
  | none => if X.length < Y.length then -1 else if X.length > Y.length then 1 else 0
theorem u8_tri {a b : UInt8} (h1 : ¬ a < b) (h2 : ¬ b < a) : a = b := by
  have h3 : ¬ a.toNat < b.toNat := h1
  have h4 : ¬ b.toNat < a.toNat := h2
  exact UInt8.toNat_inj.1 (by omega)
theorem u8_irr (a : UInt8) : ¬ a < a := by show ¬ a.toNat < a.toNat; omega
theorem cmpL_lx : ∀ X Y : List UInt8, cmpL X Y = lx X Y
  | [], [] => rfl
  | [], _ :: _ => by simp [cmpL, lx]
  | _ :: _, [] => by simp [cmpL, lx]
  | a :: X, b :: Y => by
    have ih := cmpL_lx X Y
    unfold cmpL lx
    have hm : min (a :: X).length (b :: Y).length = min X.length Y.length + 1 := by simp
    rw [hm, List.range_succ_eq_map, List.find?_cons]
    by_cases hab : a = b
    · subst hab
      have e0 : ((a :: X).getD 0 0 != (a :: Y).getD 0 0) = false := by simp
      rw [e0]
      dsimp only
      rw [List.find?_map, if_neg (u8_irr a), if_neg (u8_irr a), ← ih]
      unfold cmpL
      have ec : ((fun i => (a :: X).getD i 0 != (a :: Y).getD i 0) ∘ Nat.succ) = fun i => X.getD i 0 != Y.getD i 0 := by funext i; simp
      rw [ec]
      cases (List.range (min X.length Y.length)).find? fun i => X.getD i 0 != Y.getD i 0 with
      | none => simp
      | some i => simp
    · have e0 : ((a :: X).getD 0 0 != (b :: Y).getD 0 0) = true := by simpa using hab
      rw [e0]
      dsimp only
      show (if a < b then (-1 : Int) else 1) = if a < b then -1 else if b < a then 1 else lx X Y
      by_cases h1 : a < b
      · rw [if_pos h1, if_pos h1]
      · rw [if_neg h1, if_neg h1, if_pos (Classical.byContradiction fun h2 => hab (u8_tri h1 h2))]
def nb (xs : List Int) : List UInt8 := xs.map fun x => UInt8.ofNat x.toNat
theorem str_list (xs : List Int) : (strOfNums xs).data.toList = nb xs := by simp [strOfNums, nb]
theorem get_str (xs : List Int) (i : Nat) : (strOfNums xs)[i]! = (nb xs).getD i 0 := by
  have hs : (strOfNums xs).size = (nb xs).length := by rw [← str_list]; simp
  by_cases h : i < (strOfNums xs).size
  · rw [getElem!_pos (strOfNums xs) i h]
    show (strOfNums xs).data[i] = _
    have : (strOfNums xs).data.toList[i]? = (nb xs)[i]? := by rw [str_list]
    have hd : i < (strOfNums xs).data.size := h
    rw [Array.getElem?_toList, Array.getElem?_eq_getElem hd] at this
    simp [List.getD, ← this]
  · rw [getElem!_neg (strOfNums xs) i h]
    simp [List.getD, List.getElem?_eq_none (show (nb xs).length ≤ i by omega)]
    rfl
theorem bcmp_lx (xs ys : List Int) : bcmp xs ys = lx (nb xs) (nb ys) := by
  rw [← cmpL_lx]
  have hs : ∀ xs, (strOfNums xs).size = (nb xs).length := fun xs => by rw [← str_list]; simp
  unfold bcmp Extern.BytealgCompare.cmp cmpL
  simp only [get_str, hs]
  rfl
theorem lx_refl : ∀ X, lx X X = 0
  | [] => rfl
  | a :: X => by unfold lx; rw [if_neg (u8_irr a), if_neg (u8_irr a), lx_refl X]
theorem lx_lt_trans : ∀ X Y Z, lx X Y < 0 → lx Y Z < 0 → lx X Z < 0
  | [], [], Z, h, _ => by simp [lx] at h
  | _ :: _, [], Z, h, _ => by simp [lx] at h
  | [], _ :: _, [], _, h => by simp [lx] at h
  | [], _ :: _, _ :: _, _, _ => by simp [lx]
  | _ :: _, _ :: _, [], _, h => by simp [lx] at h
  | a :: X, b :: Y, c :: Z, h1, h2 => by
    have ih := lx_lt_trans X Y Z
    unfold lx at h1 h2 ⊢
    have key : ∀ x y : UInt8, x < y ↔ x.toNat < y.toNat := fun x y => Iff.rfl
    simp only [key] at h1 h2 ⊢
    by_cases hab : a.toNat < b.toNat
    · by_cases hbc : b.toNat < c.toNat
      · rw [if_pos (by omega)]; decide
      · rw [if_neg hbc] at h2
        by_cases hcb : c.toNat < b.toNat
        · rw [if_pos hcb] at h2; omega
        · rw [if_pos (by omega)]; decide
    · rw [if_neg hab] at h1
      by_cases hba : b.toNat < a.toNat
      · rw [if_pos hba] at h1; omega
      · rw [if_neg hba] at h1
        by_cases hbc : b.toNat < c.toNat
        · rw [if_pos (by omega)]; decide
        · rw [if_neg hbc] at h2
          by_cases hcb : c.toNat < b.toNat
          · rw [if_pos hcb] at h2; omega
          · rw [if_neg hcb] at h2
            rw [if_neg (by omega), if_neg (by omega)]
            exact ih h1 h2
theorem lx_ge_trans : ∀ X Y Z, ¬ lx X Y < 0 → ¬ lx Y Z < 0 → ¬ lx X Z < 0
  | X, [], [], h, _ => h
  | X, [], _ :: _, _, h => by simp [lx] at h
  | [], _ :: _, Z, h, _ => by simp [lx] at h
  | _ :: _, _ :: _, [], _, _ => by simp [lx]
  | a :: X, b :: Y, c :: Z, h1, h2 => by
    have ih := lx_ge_trans X Y Z
    unfold lx at h1 h2 ⊢
    have key : ∀ x y : UInt8, x < y ↔ x.toNat < y.toNat := fun x y => Iff.rfl
    simp only [key] at h1 h2 ⊢
    by_cases hab : a.toNat < b.toNat
    · rw [if_pos hab] at h1; omega
    · rw [if_neg hab] at h1
      by_cases hbc : b.toNat < c.toNat
      · rw [if_pos hbc] at h2; omega
      · rw [if_neg hbc] at h2
        by_cases hac : c.toNat < a.toNat
        · rw [if_neg (by omega), if_pos hac]; decide
        · rw [if_neg (by omega)] at h1
          rw [if_neg (by omega)] at h2
          rw [if_neg (by omega), if_neg (by omega)]
          exact ih h1 h2

/-! ### The comparison of keys -/
theorem pcmp_eq (x y : T_packet_Key) : F_packet_Cmp x y = some (lx (nb (kb x)) (nb (kb y))) := by
  unfold F_packet_Cmp F_bytes_Compare
  rw [kbytes_eq, Option.bind_some, kbytes_eq, Option.bind_some, Option.bind_some, bcmp_lx]
theorem cf_eq (x y : T_packet_Key) : cf_packet_Cmp x y = lx (nb (kb x)) (nb (kb y)) := by unfold cf_packet_Cmp; rw [pcmp_eq]; rfl
theorem tot_packet_Cmp (x y : T_packet_Key) : F_packet_Cmp x y = some (cf_packet_Cmp x y) := by rw [cf_eq, pcmp_eq]
theorem swo_packet_Cmp : Sort.SWO (Go.Proofs.ltOf cf_packet_Cmp) := by
  refine ⟨fun x => ?_, fun x y z h1 h2 => ?_, fun x y z h1 h2 => ?_⟩
  · simp only [Go.Proofs.ltOf, cf_eq, lx_refl]; decide
  · simp only [Go.Proofs.ltOf, cf_eq, decide_eq_true_eq] at h1 h2 ⊢
    exact lx_lt_trans _ _ _ h1 h2
  · simp only [Go.Proofs.ltOf, cf_eq, decide_eq_false_iff_not] at h1 h2 ⊢
    exact lx_ge_trans _ _ _ h1 h2
/-! ### How this program bears the sort -/
def lsort48_ren : Go.Shelf.Ren := ⟨fun | 6 => 48 | 15 => 64 | 14 => 63 | 28 => 80 | 29 => 81 | 20 => 72 | 21 => 73 | 22 => 74 | 23 => 75 | 24 => 76 | 25 => 77 | 26 => 78 | 27 => 79 | 46 => 86 | 47 => 87 | 48 => 88 | 49 => 89 | 50 => 90 | 57 => 93 | n => n, fun | 22 => 44 | 24 => 34 | 25 => 73 | 3 => 3 | 39 => 106 | 0 => 0 | 53 => 39 | 55 => 35 | 4 => 4 | 46 => 115 | 45 => 114 | 50 => 119 | 5 => 5 | 9 => 9 | 66 => 127 | 70 => 130 | 76 => 132 | 77 => 133 | n => n, fun | n => n⟩
theorem lsort48 : SlLaysF0.n6 Try.prog lsort48_ren := {
  mixed := by kernel_rfl,
  f6 := ⟨Try.f48.name, by decide, Try.func48.trans (congrArg some (by kernel_rfl))⟩,
  f14 := ⟨Try.f63.name, by decide, Try.func63.trans (congrArg some (by kernel_rfl))⟩,
  f15 := Try.func64.trans (congrArg some (by kernel_rfl)),
  f20 := ⟨Try.f72.name, by decide, Try.func72.trans (congrArg some (by kernel_rfl))⟩,
  f21 := ⟨Try.f73.name, by decide, Try.func73.trans (congrArg some (by kernel_rfl))⟩,
  f22 := ⟨Try.f74.name, by decide, Try.func74.trans (congrArg some (by kernel_rfl))⟩,
  f23 := ⟨Try.f75.name, by decide, Try.func75.trans (congrArg some (by kernel_rfl))⟩,
  f24 := ⟨Try.f76.name, by decide, Try.func76.trans (congrArg some (by kernel_rfl))⟩,
  f25 := ⟨Try.f77.name, by decide, Try.func77.trans (congrArg some (by kernel_rfl))⟩,
  f26 := ⟨Try.f78.name, by decide, Try.func78.trans (congrArg some (by kernel_rfl))⟩,
  f27 := ⟨Try.f79.name, by decide, Try.func79.trans (congrArg some (by kernel_rfl))⟩,
  f28 := Try.func80.trans (congrArg some (by kernel_rfl)),
  f29 := Try.func81.trans (congrArg some (by kernel_rfl)),
  f46 := ⟨Try.f86.name, by decide, Try.func86.trans (congrArg some (by kernel_rfl))⟩,
  f47 := Try.func87.trans (congrArg some (by kernel_rfl)),
  f48 := Try.func88.trans (congrArg some (by kernel_rfl)),
  f49 := ⟨Try.f89.name, by decide, Try.func89.trans (congrArg some (by kernel_rfl))⟩,
  f50 := ⟨Try.f90.name, by decide, Try.func90.trans (congrArg some (by kernel_rfl))⟩,
  f57 := ⟨Try.f93.name, by decide, Try.func93.trans (congrArg some (by kernel_rfl))⟩,
  t0 := Try.underlying0,
  a0 := Try.isAgg0,
  z0 := Try.sizeOf0,
  v0 := Try.zeroValue0,
  t3 := Try.underlying3,
  a3 := Try.isAgg3,
  z3 := Try.sizeOf3,
  v3 := Try.zeroValue3,
  t4 := Try.underlying4,
  a4 := Try.isAgg4,
  z4 := Try.sizeOf4,
  v4 := Try.zeroValue4,
  t5 := Try.underlying5,
  a5 := Try.isAgg5,
  z5 := Try.sizeOf5,
  v5 := Try.zeroValue5,
  t9 := Try.underlying9,
  a9 := Try.isAgg9,
  z9 := Try.sizeOf9,
  v9 := Try.zeroValue9,
  t22 := Try.underlying44,
  a22 := Try.isAgg44,
  z22 := Try.sizeOf44,
  v22 := Try.zeroValue44,
  t25 := Try.underlying73,
  a25 := Try.isAgg73,
  z25 := Try.sizeOf73,
  v25 := Try.zeroValue73,
  t39 := Try.underlying106,
  a39 := Try.isAgg106,
  z39 := Try.sizeOf106,
  v39 := Try.zeroValue106,
  t45 := Try.underlying114,
  a45 := Try.isAgg114,
  z45 := Try.sizeOf114,
  v45 := Try.zeroValue114,
  t46 := Try.underlying115,
  a46 := Try.isAgg115,
  z46 := Try.sizeOf115,
  v46 := Try.zeroValue115,
  t50 := Try.underlying119,
  a50 := Try.isAgg119,
  z50 := Try.sizeOf119,
  v50 := Try.zeroValue119,
  t53 := Try.underlying39,
  a53 := Try.isAgg39,
  z53 := Try.sizeOf39,
  v53 := Try.zeroValue39,
  t55 := Try.underlying35,
  a55 := Try.isAgg35,
  z55 := Try.sizeOf35,
  v55 := Try.zeroValue35,
  t66 := Try.underlying127,
  a66 := Try.isAgg127,
  z66 := Try.sizeOf127,
  v66 := Try.zeroValue127,
  t70 := Try.underlying130,
  a70 := Try.isAgg130,
  z70 := Try.sizeOf130,
  v70 := Try.zeroValue130,
  t76 := Try.underlying132,
  a76 := Try.isAgg132,
  z76 := Try.sizeOf132,
  v76 := Try.zeroValue132,
  t77 := Try.underlying133,
  a77 := Try.isAgg133,
  z77 := Try.sizeOf133,
  v77 := Try.zeroValue133 }
end Go.Proofs.Ytidbgejnkpoeeaa
