/- The plain law of the chapter on IP's headers: how they are put, parsed, and hop. No program's code is named here. -/
import Derived.Test.YtjfdfjmnajjjaaaP
import Derived.Laws.BitsLemmas
set_option linter.unusedVariables false
namespace Go.Proofs.Ytjfdfjmnajjjaaa
open Go Go.Ox Go.RowKit

theorem dT {p : Prop} [Decidable p] (h : p) : decide p = true := decide_eq_true h
theorem dF {p : Prop} [Decidable p] (h : ¬ p) : ¬ decide p = true := by simp [h]
theorem nT {x y : Int} (h : x ≠ y) : (x != y) = true := by simpa using h
theorem nF {x y : Int} (h : x = y) : ¬ (x != y) = true := by simpa using h
theorem ifand (c x : Bool) : (if c = true then some x else some false) = some (c && x) := by cases c <;> rfl
theorem u64or {x y : Int} (i : Nat) (hx₀ : 0 ≤ x) (hx : x % 2 ^ i = 0) (hx₁ : x < 2 ^ 63) (hy₀ : 0 ≤ y) (hy : y < 2 ^ i) (hy₁ : y < 2 ^ 63) : bits .or .u64 x y = x + y :=
  bits_join .u64 63 (by decide) (fun n h0 h1 => wu64i h0 (Int.lt_trans h1 (by decide))) i x y hx₀ hx hx₁ hy₀ hy hy₁
theorem u8and {x : Int} (h0 : 0 ≤ x) (h1 : x < 256) : bits .and .u8 x 15 = x % 16 :=
  bits_mask .u8 8 (by decide) wraps_u8 4 (by decide) x h0 h1
theorem u16and {x : Int} (h0 : 0 ≤ x) (h1 : x < 65536) : bits .and .u16 x 8191 = x % 8192 :=
  bits_mask .u16 16 (by decide) (fun n h0 h1 => wu16i h0 h1) 13 (by decide) x h0 h1
theorem and_pow (a i : Nat) : a &&& 2 ^ i = if a.testBit i = true then 2 ^ i else 0 := by
  apply Nat.eq_of_testBit_eq
  intro j
  by_cases h : a.testBit i = true
  · rw [if_pos h, Nat.testBit_and, Nat.testBit_two_pow]
    by_cases hij : i = j
    · subst hij; simp [h]
    · simp [hij]
  · rw [if_neg h, Nat.testBit_and, Nat.testBit_two_pow]
    by_cases hij : i = j
    · subst hij; simp [h]
    · simp [hij]
theorem u16bit {x : Int} (h0 : 0 ≤ x) (h1 : x < 65536) {i : Nat} (hi : i < 16) : decide (0 < bits .and .u16 x ((2 ^ i : Nat) : Int)) = decide (x / ((2 ^ i : Nat) : Int) % 2 = 1) := by
  obtain ⟨a, rfl⟩ := Int.eq_ofNat_of_zero_le h0
  have hp : 2 ^ i < 2 ^ 16 := Nat.pow_lt_pow_right (by decide) hi
  have e : bits .and .u16 (a : Int) ((2 ^ i : Nat) : Int) = ((a &&& 2 ^ i : Nat) : Int) := by
    show IntKind.u16.wrap ((BitVec.ofInt 16 (a : Int) &&& BitVec.ofInt 16 ((2 ^ i : Nat) : Int)).toNat : Int) = _
    have e1 : (BitVec.ofInt 16 (a : Int)).toNat = a := by rw [BitVec.ofInt_natCast, BitVec.toNat_ofNat]; exact Nat.mod_eq_of_lt (by omega)
    have e2 : (BitVec.ofInt 16 ((2 ^ i : Nat) : Int)).toNat = 2 ^ i := by rw [BitVec.ofInt_natCast, BitVec.toNat_ofNat]; exact Nat.mod_eq_of_lt hp
    have e3 : a &&& 2 ^ i < 2 ^ 16 := Nat.and_lt_two_pow _ hp
    rw [BitVec.toNat_and, e1, e2, wu16i (by omega) (by omega)]
  rw [e, and_pow]
  have hq : (a.testBit i) = decide (a / 2 ^ i % 2 = 1) := Nat.testBit_eq_decide_div_mod_eq
  have hpos : 0 < 2 ^ i := Nat.two_pow_pos i
  rw [hq]
  by_cases h : a / 2 ^ i % 2 = 1
  · have h' : ((a : Int) / ((2 ^ i : Nat) : Int)) % 2 = 1 := by exact_mod_cast h
    rw [decide_eq_true h, decide_eq_true h']
    simp
    exact_mod_cast hpos
  · have h' : ¬ ((a : Int) / ((2 ^ i : Nat) : Int)) % 2 = 1 := by exact_mod_cast h
    rw [decide_eq_false h, decide_eq_false h']
    simp

/-! ### What is put -/
theorem wp_L {n : Int} (h0 : 1 ≤ n) (h8 : n ≤ 8) (l : List Int) (hU : ∀ v ∈ l, fit v n = true ∧ U v) (hl : l.length ≤ 1000) : ∀ (k i : Nat) (w : List Int), i ≤ l.length → l.length < k + i → w.length ≤ 1000 + 8 * i →
    F_ip_writer_put_L1 n l k w (i : Int) = some ⟨⟨w ++ (l.drop i).flatMap (put n.toNat)⟩⟩
  | 0, i, w, h1, h2, _ => by omega
  | k + 1, i, w, h1, h2, h3 => by
    show F_ip_writer_put_l1 (F_ip_writer_put_L1 n l k) n l w (i : Int) = _
    unfold F_ip_writer_put_l1
    by_cases hlt : i < l.length
    · rw [if_pos (dT (by omega)), gidx_nat (List.getElem?_eq_getElem hlt), Option.bind_some]
      obtain ⟨hf, hu⟩ := hU l[i] (List.getElem_mem _)
      rw [wput_eq (by omega) hu, hf, if_pos rfl, Option.bind_some]
      show F_ip_writer_put_L1 n l k (w ++ put n.toNat l[i]) (IntKind.i64.wrap ((i : Int) + 1)) = _
      rw [wi64 (by omega) (by omega), show ((i : Int) + 1) = ((i + 1 : Nat) : Int) by omega, wp_L h0 h8 l hU hl k (i + 1) _ (by omega) (by omega) (by simp [put_len]; omega), List.drop_eq_getElem_cons hlt, List.flatMap_cons, List.append_assoc]
    · rw [if_neg (dF (by omega)), List.drop_of_length_le (by omega)]
      simp
theorem wp_eq {n : Int} (h0 : 1 ≤ n) (h8 : n ≤ 8) {l w : List Int} (hU : ∀ v ∈ l, fit v n = true ∧ U v) (hl : l.length ≤ 1000) (hw : w.length ≤ 1000) :
    F_ip_writer_put ⟨⟨w⟩⟩ n l = some ⟨⟨w ++ l.flatMap (put n.toNat)⟩⟩ := by
  have := wp_L h0 h8 l hU hl fuel0 0 w (Nat.zero_le _) (by unfold fuel0; omega) (by omega)
  rw [List.drop_zero] at this
  exact this
theorem cat_L1 (l : List (List Int)) (hl : l.length ≤ 1000) : ∀ (k i s : Nat), i ≤ l.length → l.length < k + i → s + lens (l.drop i) < 1000000 →
    F_slices_Concat_byte_byte_L1 l k (s : Int) (i : Int) = F_slices_Concat_byte_byte_j2 l ((s + lens (l.drop i) : Nat) : Int)
  | 0, i, s, h1, h2, _ => by omega
  | k + 1, i, s, h1, h2, h3 => by
    show F_slices_Concat_byte_byte_l1 (F_slices_Concat_byte_byte_L1 l k) l (s : Int) (i : Int) = _
    unfold F_slices_Concat_byte_byte_l1
    by_cases hlt : i < l.length
    · have hd := lens_drop l hlt
      rw [if_pos (dT (by omega)), gidx_nat (List.getElem?_eq_getElem hlt), Option.bind_some, wi64 (by omega) (by omega), if_neg (dF (by omega))]
      unfold F_slices_Concat_byte_byte_j1
      rw [wi64 (by omega) (by omega), show ((i : Int) + 1) = ((i + 1 : Nat) : Int) by omega, show ((s : Int) + (l[i].length : Int)) = ((s + l[i].length : Nat) : Int) by omega, cat_L1 l hl k (i + 1) _ (by omega) (by omega) (by omega)]
      congr 1
      omega
    · rw [if_neg (dF (by omega)), if_neg (dF (by omega)), List.drop_of_length_le (by omega)]
      rfl
theorem cat_L2 (l : List (List Int)) (hl : l.length ≤ 1000) : ∀ (k i : Nat) (w : List Int), i ≤ l.length → l.length < k + i → w.length + lens (l.drop i) < 1000000 →
    F_slices_Concat_byte_byte_L2 l k w (i : Int) = some (w ++ (l.drop i).flatten)
  | 0, i, w, h1, h2, _ => by omega
  | k + 1, i, w, h1, h2, h3 => by
    show F_slices_Concat_byte_byte_l2 (F_slices_Concat_byte_byte_L2 l k) l w (i : Int) = _
    unfold F_slices_Concat_byte_byte_l2
    by_cases hlt : i < l.length
    · have hd := lens_drop l hlt
      rw [if_pos (dT (by omega)), gidx_nat (List.getElem?_eq_getElem hlt), Option.bind_some, if_pos (limk (by omega)), wi64 (by omega) (by omega), show ((i : Int) + 1) = ((i + 1 : Nat) : Int) by omega, cat_L2 l hl k (i + 1) _ (by omega) (by omega) (by simp; omega), List.drop_eq_getElem_cons hlt, List.flatten_cons, List.append_assoc]
    · rw [if_neg (dF (by omega)), List.drop_of_length_le (by omega)]
      simp
theorem cat_eq {l : List (List Int)} (hl : l.length ≤ 1000) (ht : lens l < 1000000) : F_slices_Concat_byte_byte l = some l.flatten := by
  have h1 := cat_L1 l hl fuel0 0 0 (Nat.zero_le _) (by unfold fuel0; omega) (by simpa using ht)
  rw [List.drop_zero, Nat.zero_add] at h1
  refine Eq.trans h1 ?_
  unfold F_slices_Concat_byte_byte_j2
  have h2 : F_slices_Concat_byte_byte_j3 l [] = some l.flatten := by
    have := cat_L2 l hl fuel0 0 [] (Nat.zero_le _) (by unfold fuel0; omega) (by simpa using ht)
    rw [List.drop_zero] at this
    exact this
  have e : IntKind.i64.wrap ((lens l : Int) - IntKind.i64.wrap (0 - 0)) = (lens l : Int) := by
    rw [show IntKind.i64.wrap (0 - 0) = 0 from rfl, wi64 (by omega) (by omega)]; omega
  rw [e]
  by_cases h0 : 0 < (lens l : Int)
  · rw [if_pos (dT h0), if_pos (dT ⟨by omega, by unfold lim; omega⟩), gcut_in (by omega) (by omega) (by simp), Option.bind_some]
    exact h2
  · rw [if_neg (dF h0)]; exact h2
theorem flag_eq (b : Bool) (v : Int) : F_ip_flag b v = some (if b = true then v else 0) := by cases b <;> rfl
theorem fit1 {v : Int} (h : 0 ≤ v ∧ v < 256) : fit v 1 = true ∧ U v := ⟨fit_iff.2 ⟨by decide, by decide, by show v < 256 ^ 1; omega⟩, h.1, by omega⟩
theorem fit2 {v : Int} (h : 0 ≤ v ∧ v < 65536) : fit v 2 = true ∧ U v := ⟨fit_iff.2 ⟨by decide, by decide, by show v < 256 ^ 2; omega⟩, h.1, by omega⟩
def pt (h : T_ip_Header) : List Int × Int := if rgt h = true then (st h (ck h), 0) else ([], 51)
theorem arrT {n : Nat} {xs : List Int} (h : n ≤ xs.length) : arrL n xs = xs.take n := by
  apply List.ext_getElem?
  intro i
  by_cases hi : i < n
  · rw [List.getElem?_take_of_lt hi]
    simp [arrL, hi, List.getD, (by omega : i < xs.length)]
  · rw [List.getElem?_eq_none (by simp [arrL]; omega), List.getElem?_eq_none (by simp; omega)]
theorem put_eq {h : T_ip_Header} (w : WH h) (hl : h.f_Options.length < 1000000) : F_ip_Put h = some (pt h) := by
  unfold F_ip_Put pt
  rw [right_eq w hl, Option.bind_some]
  cases hr : rgt h with
  | false => rfl
  | true =>
    have ⟨hr1, hr2, hr3, hr4⟩ : h.f_Frag ≤ 8191 ∧ h.f_Options.length % 4 = 0 ∧ h.f_Options.length ≤ 40 ∧ (20 + h.f_Options.length : Int) ≤ h.f_Total := by simpa [rgt] using hr
    have hto := w.tos; have ht := w.total; have hi := w.id; have hf := w.frag; have htt := w.ttl; have hp := w.proto; have hfl := flg_bd w hr
    rw [if_neg (by decide), if_pos rfl, len_eq hl, Option.bind_some, tdiv_nn (by omega), wi64 (n := (20 + (h.f_Options.length : Int)) / 4) (by omega) (by omega), wu64i (n := (20 + (h.f_Options.length : Int)) / 4) (by omega) (by omega), u64or 6 (by decide) (by decide) (by decide) (by omega) (by omega) (by omega), wu64i (n := h.f_TOS) (by omega) (by omega)]
    rw [wp_eq (by decide) (by decide) (fun v hv => by
      simp at hv
      rcases hv with rfl | rfl
      · exact fit1 ⟨by omega, by omega⟩
      · exact fit1 hto) (by simp) (by simp), Option.bind_some, flag_eq, Option.bind_some, flag_eq, Option.bind_some, wu64i (n := h.f_Total) (by omega) (by omega), wu64i (n := h.f_ID) (by omega) (by omega), wu64i (n := h.f_Frag) (by omega) (by omega)]
    have ef : bits .or .u64 (bits .or .u64 (if h.f_DF = true then 16384 else 0) (if h.f_MF = true then 8192 else 0)) h.f_Frag = flg h := by
      unfold flg
      have hA : bits .or .u64 (if h.f_DF = true then 16384 else 0) (if h.f_MF = true then 8192 else 0) = (if h.f_DF = true then 16384 else 0) + (if h.f_MF = true then 8192 else 0) := by
        cases h.f_DF <;> cases h.f_MF <;> rfl
      have hB : 0 ≤ (if h.f_DF = true then (16384 : Int) else 0) + (if h.f_MF = true then (8192 : Int) else 0) ∧ ((if h.f_DF = true then (16384 : Int) else 0) + (if h.f_MF = true then (8192 : Int) else 0)) % 2 ^ 13 = 0 ∧ (if h.f_DF = true then (16384 : Int) else 0) + (if h.f_MF = true then (8192 : Int) else 0) < 2 ^ 63 := by
        cases h.f_DF <;> cases h.f_MF <;> decide
      rw [hA, u64or 13 hB.1 hB.2.1 hB.2.2 (by omega) (by omega) (by omega)]
    rw [ef, wp_eq (by decide) (by decide) (fun v hv => by
      simp at hv
      rcases hv with rfl | rfl | rfl
      · exact fit2 ht
      · exact fit2 hi
      · exact fit2 ⟨by omega, by omega⟩) (by simp) (by simp [put_len]), Option.bind_some, wu64i (n := h.f_TTL) (by omega) (by omega), wu64i (n := h.f_Proto) (by omega) (by omega), wp_eq (by decide) (by decide) (fun v hv => by
      simp at hv
      rcases hv with rfl | rfl
      · exact fit1 htt
      · exact fit1 hp) (by simp) (by simp [put_len]), Option.bind_some, wp_eq (by decide) (by decide) (fun v hv => by
      simp at hv
      subst hv
      exact fit2 ⟨by decide, by decide⟩) (by simp) (by simp [put_len]), Option.bind_some, arrL_len w.srcl, arrL_len w.dstl, cat_eq (by simp) (by simp [lens, w.srcl, w.dstl]; omega), Option.bind_some]
    have e0 : (List.flatMap (put (Int.toNat 1)) [64 + (20 + (h.f_Options.length : Int)) / 4, h.f_TOS]) = [(64 + (20 + (h.f_Options.length : Int)) / 4) % 256, h.f_TOS] := by
      show [(64 + (20 + (h.f_Options.length : Int)) / 4) % 256, h.f_TOS % 256] = _
      rw [show h.f_TOS % 256 = h.f_TOS by omega]
    have e1 : (List.flatMap (put (Int.toNat 1)) [h.f_TTL, h.f_Proto]) = [h.f_TTL, h.f_Proto] := by
      show [h.f_TTL % 256, h.f_Proto % 256] = _
      rw [show h.f_TTL % 256 = h.f_TTL by omega, show h.f_Proto % 256 = h.f_Proto by omega]
    rw [e0, e1]
    have e2 : [] ++ [(64 + (20 + (h.f_Options.length : Int)) / 4) % 256, h.f_TOS] ++ List.flatMap (put (Int.toNat 2)) [h.f_Total, h.f_ID, flg h] ++ [h.f_TTL, h.f_Proto] ++ List.flatMap (put (Int.toNat 2)) [0] ++ [h.f_Src, h.f_Dst, h.f_Options].flatten = st h 0 := by
      simp [st]
      rfl
    have hln := st_len w 0
    unfold F_bits_Writer_Raw
    dsimp only
    rw [if_pos (limk (by rw [← List.length_append, e2]; omega)), Option.bind_some]
    dsimp only
    rw [e2, wbytes_eq (by omega), Option.bind_some, sof_eq (one_wf (st_wf w 0)) (by simp) (by simp [lens, hln]; omega), Option.bind_some]
    have ek : (65535 - fld (ws [st h 0].flatten)) = ck h := by simp [ck]
    have hk := ck_bd w
    rw [ek, wu64i (by omega) (by omega), wset_eq (by omega) ⟨by omega, by omega⟩, (fit2 hk).1, if_pos (by simp [hln]; omega), Option.bind_some]
    dsimp only
    have e3 : (st h 0).take (Int.toNat 10) ++ put (Int.toNat 2) (ck h) ++ (st h 0).drop (Int.toNat (10 + 2)) = st h (ck h) := by
      show (st h 0).take 10 ++ [ck h / 256 % 256, ck h % 256] ++ (st h 0).drop 12 = _
      simp [st]
    rw [e3, wbytes_eq (by rw [st_len w]; omega), Option.bind_some]

/-! ### Same -/
def sm (a b : T_ip_Header) : Bool := (a.f_TOS == b.f_TOS) && ((a.f_Total == b.f_Total) && ((a.f_ID == b.f_ID) && ((a.f_DF == b.f_DF) && ((a.f_MF == b.f_MF) && ((a.f_Frag == b.f_Frag) && ((a.f_TTL == b.f_TTL) && ((a.f_Proto == b.f_Proto) && ((a.f_Src == b.f_Src) && ((a.f_Dst == b.f_Dst) && (a.f_Options == b.f_Options))))))))))
theorem arrEq_eq {a b : List Int} {n : Nat} (ha : a.length = n) (hb : b.length = n) : arrEq n a b = (a == b) := by
  rw [Bool.eq_iff_iff]
  simp only [arrEq, List.all_eq_true, List.mem_range, beq_iff_eq]
  constructor
  · intro h
    apply List.ext_getElem (by omega)
    intro i h1 h2
    have := h i (by omega)
    simpa [List.getD, h1, h2] using this
  · intro h i _
    rw [h]
theorem same5_eq {a b : T_ip_Header} (wa : WH a) (wb : WH b) : F_ip_Same a b = some (sm a b) := by
  have e1 : ∀ p, F_ip_Same_j1 a b p = some (p && ((a.f_TTL == b.f_TTL) && ((a.f_Proto == b.f_Proto) && ((a.f_Src == b.f_Src) && ((a.f_Dst == b.f_Dst) && (a.f_Options == b.f_Options)))))) := by
    intro p
    simp only [F_ip_Same_j1, F_ip_Same_j2, F_bytes_Equal, Option.bind_some, arrEq_eq wa.srcl wb.srcl, arrEq_eq wa.dstl wb.dstl, eqS wa.opt wb.opt, ifand]
  unfold F_ip_Same sm
  simp only [e1, Bool.false_and, ifand]
theorem sm_iff {a b : T_ip_Header} : sm a b = true ↔ a = b := by
  cases a; cases b
  simp [sm]
theorem qsm {a b : T_ip_Header} (wa : WH a) (wb : WH b) : q_ref05_Header (rH a) (rH b) = sm a b := by
  unfold q_ref05_Header rH sm
  simp only [eqS wa.src wb.src, eqS wa.dst wb.dst, eqS wa.opt wb.opt, Bool.and_true]
theorem q_refl (x : T_ref05_Header) : q_ref05_Header x x = true := by simp [q_ref05_Header]

/-! ### IpPuts -/
theorem spoilP {t : Int} {rec : Int → Option Bool} : ∀ (k i : Nat) (l : List Int), i ≤ l.length → l.length < k + i → l.length ≤ 1000 →
    F_law05_IpPuts_L2 t rec k l (i : Int) = rec (IntKind.i64.wrap (t + 1))
  | 0, i, l, h1, h2, _ => by omega
  | k + 1, i, l, h1, h2, h3 => by
    show F_law05_IpPuts_l2 (F_law05_IpPuts_L2 t rec k) t rec l (i : Int) = _
    unfold F_law05_IpPuts_l2
    by_cases hlt : i < l.length
    · rw [if_pos (dT (by omega)), gidx_nat (List.getElem?_eq_getElem hlt), Option.bind_some, Option.bind_some, wi64 (n := (i : Int) + 1) (by omega) (by omega), show ((i : Int) + 1) = ((i + 1 : Nat) : Int) by omega]
      exact spoilP k (i + 1) _ (by simp; omega) (by simp; omega) (by simp; omega)
    · rw [if_neg (dF (by omega))]
theorem pt_len {h : T_ip_Header} (w : WH h) (hl : h.f_Options.length ≤ 100) : (pt h).1.length ≤ 1000 := by
  unfold pt
  split
  · rw [st_len w]; omega
  · simp
theorem puts_eq {h o : T_ip_Header} (w : WH h) (v : WH o) : F_law05_IpPuts h o = some true := by
  have key : ∀ b, (b = false → h.f_Options.length ≤ 100 ∧ o.f_Options.length ≤ 100) → F_law05_IpPuts_j1 h o b = some true := by
    intro b hb
    unfold F_law05_IpPuts_j1
    cases b with
    | true => rw [if_pos rfl, works_eq]; rfl
    | false =>
      obtain ⟨hl, hlo⟩ := hb rfl
      rw [if_neg (by decide), docs_eq w, Option.bind_some, rputh_eq w (by omega), Option.bind_some]
      have ept : (if rgt h = true then (st h (ck h), (0 : Int)) else ([], 51)) = pt h := rfl
      rw [ept]
      have loop : ∀ (k : Nat) (t : Nat), t ≤ 2 → 2 < k + t → F_law05_IpPuts_L1 h o (rH h) (pt h) k (t : Int) = some true := by
        intro k
        induction k with
        | zero => intro t h1 h2; omega
        | succ k ih =>
          intro t h1 h2
          show F_law05_IpPuts_l1 (F_law05_IpPuts_L1 h o (rH h) (pt h) k) h o (rH h) (pt h) (t : Int) = _
          unfold F_law05_IpPuts_l1
          by_cases ht : t < 2
          · rw [if_pos (dT (by omega)), put_eq w (by omega), Option.bind_some, if_neg (nF rfl), same_eq, Option.bind_some]
            unfold F_law05_IpPuts_j2
            rw [if_neg (by decide)]
            have := spoilP (t := (t : Int)) (rec := F_law05_IpPuts_L1 h o (rH h) (pt h) k) fuel0 0 (pt h).1 (Nat.zero_le _) (by have := pt_len w hl; unfold fuel0; omega) (pt_len w hl)
            refine Eq.trans this ?_
            rw [wi64 (by omega) (by omega)]
            exact ih (t + 1) (by omega) (by omega)
          · rw [if_neg (dF (by omega)), right_eq w (by omega), Option.bind_some, rright_eq w (by omega), Option.bind_some, if_pos (by simp), same5_eq w v, Option.bind_some, docs_eq v, Option.bind_some, qsm w v, if_pos (by simp), same5_eq w w, Option.bind_some, sm_iff.2 rfl, if_pos rfl, docs_eq w, Option.bind_some, q_refl, if_pos rfl, works_eq]
            rfl
      exact loop fuel0 0 (by omega) (by unfold fuel0; omega)
  unfold F_law05_IpPuts
  by_cases h1 : 100 < (h.f_Options.length : Int)
  · rw [if_pos (dT h1)]; exact key true (fun e => by cases e)
  · rw [if_neg (dF h1)]
    by_cases h2 : 100 < (o.f_Options.length : Int)
    · rw [decide_eq_true h2]; exact key true (fun e => by cases e)
    · rw [decide_eq_false h2]; exact key false (fun _ => ⟨by omega, by omega⟩)
end Go.Proofs.Ytjfdfjmnajjjaaa
