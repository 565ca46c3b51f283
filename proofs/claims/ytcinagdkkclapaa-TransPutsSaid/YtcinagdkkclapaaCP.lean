/- Plain text: pseudo headers, and what is put. -/
import Derived.Test.YtcinagdkkclapaaBP
set_option linter.unusedVariables false
namespace Go.Proofs.Ytcinagdkkclapaa
open Go Go.Ox Go.RowKit
theorem cat_L1 (l : List (List Int)) (hl : l.length ≤ 1000) : ∀ (k i s : Nat), i ≤ l.length → l.length < k + i → s + lens (l.drop i) < 1000000 →
  F_slices_Concat_byte_byte_L1 l k (s : Int) (i : Int) = F_slices_Concat_byte_byte_j2 l ((s + lens (l.drop i) : Nat) : Int)
 | 0, i, s, h1, h2, _ => by omega
 | k + 1, i, s, h1, h2, h3 => by
  show F_slices_Concat_byte_byte_l1 (F_slices_Concat_byte_byte_L1 l k) l (s : Int) (i : Int) = _
  unfold F_slices_Concat_byte_byte_l1
  by_cases hlt : i < l.length
  ·have hd := lens_drop l hlt
   rw [if_pos (dT (by omega)), gidx_nat (List.getElem?_eq_getElem hlt), Option.bind_some, wi64 (by omega) (by omega), if_neg (dF (by omega))]
   unfold F_slices_Concat_byte_byte_j1
   rw [wi64 (by omega) (by omega), show ((i : Int) + 1) = ((i + 1 : Nat) : Int) by omega, show ((s : Int) + (l[i].length : Int)) = ((s + l[i].length : Nat) : Int) by omega, cat_L1 l hl k (i + 1) _ (by omega) (by omega) (by omega)]
   congr 1
   omega
  ·rw [if_neg (dF (by omega)), if_neg (dF (by omega)), List.drop_of_length_le (by omega)]
   rfl
theorem cat_L2 (l : List (List Int)) (hl : l.length ≤ 1000) : ∀ (k i : Nat) (w : List Int), i ≤ l.length → l.length < k + i → w.length + lens (l.drop i) < 1000000 →
  F_slices_Concat_byte_byte_L2 l k w (i : Int) = some (w ++ (l.drop i).flatten)
 | 0, i, w, h1, h2, _ => by omega
 | k + 1, i, w, h1, h2, h3 => by
  show F_slices_Concat_byte_byte_l2 (F_slices_Concat_byte_byte_L2 l k) l w (i : Int) = _
  unfold F_slices_Concat_byte_byte_l2
  by_cases hlt : i < l.length
  ·have hd := lens_drop l hlt
   rw [if_pos (dT (by omega)), gidx_nat (List.getElem?_eq_getElem hlt), Option.bind_some, if_pos (limk (by omega)), wi64 (by omega) (by omega), show ((i : Int) + 1) = ((i + 1 : Nat) : Int) by omega, cat_L2 l hl k (i + 1) _ (by omega) (by omega) (by simp; omega), List.drop_eq_getElem_cons hlt, List.flatten_cons, List.append_assoc]
  ·rw [if_neg (dF (by omega)), List.drop_of_length_le (by omega)]
   simp
theorem cat_eq {l : List (List Int)} (hl : l.length ≤ 1000) (ht : lens l < 1000000) : F_slices_Concat_byte_byte l = some l.flatten := by
 have h1 := cat_L1 l hl fuel0 0 0 (Nat.zero_le _) (by unfold fuel0; omega) (by simpa using ht)
 rw [List.drop_zero, Nat.zero_add] at h1
 refine Eq.trans h1 ?_
 unfold F_slices_Concat_byte_byte_j2
 have h2 : F_slices_Concat_byte_byte_j3 l [] = some l.flatten := by
  have := cat_L2 l hl fuel0 0 [] (Nat.zero_le _) (by unfold fuel0; omega) (by simpa using ht)
  rw [List.drop_zero] at this
  exact this
 have e : IntKind.i64.wrap ((lens l : Int) - IntKind.i64.wrap (0 - 0)) = (lens l : Int) := by
  rw [show IntKind.i64.wrap (0 - 0) = 0 from rfl, wi64 (by omega) (by omega)]; omega
 rw [e]
 by_cases h0 : 0 < (lens l : Int)
 ·rw [if_pos (dT h0), if_pos (dT ⟨by omega, by unfold lim; omega⟩), gcut_in (by omega) (by omega) (by simp), Option.bind_some]
  exact h2
 ·rw [if_neg (dF h0)]; exact h2

/-! ### Numbers of a size -/
theorem teach_L {n : Int} {l : List Int} (hf : ∀ v ∈ l, U v ∧ fit v n = true) (hl : l.length ≤ 100) : ∀ (k j : Nat) (w : List Int), j ≤ l.length → l.length < k + j → w.length + 8 * (l.length - j) < 1000000 → F_trans_each_L1 n l k w (j : Int) = some ⟨w ++ (l.drop j).flatMap (put n.toNat)⟩
 | 0, j, w, h1, h2, h3 => by omega
 | k + 1, j, w, h1, h2, h3 => by
  show F_trans_each_l1 (F_trans_each_L1 n l k) n l w (j : Int) = _
  unfold F_trans_each_l1
  by_cases h : j < l.length
  ·obtain ⟨hu, hfit⟩ := hf l[j] (List.getElem_mem h)
   obtain ⟨_, h8, _⟩ := fit_iff.1 hfit
   rw [if_pos (dT (by omega)), gidx_nat (List.getElem?_eq_getElem h), Option.bind_some, wput_eq (by omega) hu, Option.bind_some, if_pos hfit]
   dsimp only
   rw [show IntKind.i64.wrap ((j : Int) + 1) = ((j + 1 : Nat) : Int) by rw [wi64 (by omega) (by omega)]; omega, teach_L hf hl k (j + 1) _ (by omega) (by omega) (by rw [List.length_append, put_len]; omega), List.drop_eq_getElem_cons h, List.flatMap_cons, List.append_assoc]
  ·rw [if_neg (dF (by omega)), List.drop_eq_nil_of_le (by omega)]
   simp
theorem teach_eq {n : Int} {l w : List Int} (hf : ∀ v ∈ l, U v ∧ fit v n = true) (hl : l.length ≤ 100) (hw : w.length < 900000) : F_trans_each ⟨w⟩ n l = some ⟨w ++ l.flatMap (put n.toNat)⟩ := by
 unfold F_trans_each
 exact teach_L hf hl fuel0 0 w (by omega) (by unfold fuel0; omega) (by omega)
theorem ufit {v : Int} {n : Nat} (h1 : 1 ≤ n) (h8 : n ≤ 8) (h0 : 0 ≤ v) (h : v < 256 ^ n) : U v ∧ fit v (n : Int) = true := by
 have h2 := pmono h8
 rw [e8] at h2
 exact ⟨⟨h0, by omega⟩, fit_iff.2 ⟨by omega, by omega, by rw [Int.toNat_natCast]; exact h⟩⟩
theorem q1 : (256 : Int) ^ 1 = 256 := by decide
theorem q2 : (256 : Int) ^ 2 = 65536 := by decide
theorem q4 : (256 : Int) ^ 4 = 4294967296 := by decide
theorem f1 {v : Int} (h : 0 ≤ v ∧ v < 256) : U v ∧ fit v 1 = true := ufit (n := 1) (by decide) (by decide) h.1 (by rw [q1]; exact h.2)
theorem f2 {v : Int} (h : 0 ≤ v ∧ v < 65536) : U v ∧ fit v 2 = true := ufit (n := 2) (by decide) (by decide) h.1 (by rw [q2]; exact h.2)
theorem f4 {v : Int} (h : 0 ≤ v ∧ v < 4294967296) : U v ∧ fit v 4 = true := ufit (n := 4) (by decide) (by decide) h.1 (by rw [q4]; exact h.2)
theorem put1 {v : Int} (h : 0 ≤ v ∧ v < 256) : put 1 v = [v] := by
 simp only [put, List.nil_append]; rw [Int.emod_eq_of_lt h.1 h.2]
/-! ### Pseudo headers -/
def ps (p n : Int) (src dst : List Int) : List Int := if src.length = 4 then src ++ dst ++ [0, p] ++ put 2 n else src ++ dst ++ put 4 n ++ put 4 p
def pso (p n : Int) (src dst : List Int) : List Int × Bool := if src.length ≠ dst.length ∨ (src.length ≠ 4 ∧ src.length ≠ 16) then ([], false) else if p = 1 then ([], true) else (ps p n src dst, true)
theorem pseudo_eq {p n : Int} {src dst : List Int} (hp : 0 ≤ p ∧ p < 256) (hn : 0 ≤ n ∧ n ≤ 65535) (hs : src.length ≤ 40) (hd : dst.length ≤ 40) : F_trans_pseudo p n src dst = some (pso p n src dst) := by
 have hj : ∀ w : List Int, w.length < 1000000 → F_trans_pseudo_j1 p w = some (if p = 1 then ([], true) else (w, true)) := fun w hw => by
  unfold F_trans_pseudo_j1
  by_cases h1 : p = 1
  ·rw [if_pos (by simpa using h1), if_pos h1]
  ·rw [if_neg (by simpa using h1), if_neg h1, wbytes_eq hw, Option.bind_some]
 have un : IntKind.u64.wrap n = n := wu64i (by omega) (by omega)
 have up : IntKind.u64.wrap p = p := wu64i (by omega) (by omega)
 unfold F_trans_pseudo F_bits_Writer_Raw
 rw [cat_eq (by simp) (by simp [lens]; omega), Option.bind_some, if_pos (limk (by simp; omega)), Option.bind_some]
 dsimp only
 have e0 : ([] : List Int) ++ [src, dst].flatten = src ++ dst := by simp
 rw [e0]
 unfold pso
 by_cases h1 : src.length = dst.length
 ·rw [if_neg (by simp; omega)]
  by_cases h4 : src.length = 4
  ·rw [if_pos (by simp; omega), if_neg (by omega), teach_eq (n := 1) (fun v hv => by
    simp only [List.mem_cons, List.not_mem_nil, or_false] at hv
    rcases hv with rfl | rfl
    ·exact f1 (by omega)
    ·rw [up]; exact f1 hp) (by simp) (by simp; omega), Option.bind_some, un, wput_eq (by simp [put_len]; omega) (f2 ⟨hn.1, by omega⟩).1, Option.bind_some, if_pos (f2 ⟨hn.1, by omega⟩).2]
   dsimp only
   rw [hj _ (by simp [put_len]; omega), up]
   congr 2
   unfold ps
   rw [if_pos h4]
   simp only [List.flatMap_cons, List.flatMap_nil, List.append_nil]
   rw [show (1 : Int).toNat = 1 from rfl, put1 (by omega), put1 hp]
   rfl
  ·rw [if_neg (by simp; omega)]
   by_cases h16 : src.length = 16
   ·rw [if_pos (by simp; omega), if_neg (by omega), un, wput_eq (by simp; omega) (f4 ⟨hn.1, by omega⟩).1, Option.bind_some, if_pos (f4 ⟨hn.1, by omega⟩).2]
    dsimp only
    rw [up, wput_eq (by simp [put_len]; omega) (f4 ⟨hp.1, by omega⟩).1, Option.bind_some, if_pos (f4 ⟨hp.1, by omega⟩).2]
    dsimp only
    rw [hj _ (by simp [put_len]; omega)]
    congr 2
    unfold ps
    rw [if_neg h4]
    rfl
   ·rw [if_neg (by simp; omega), if_pos (.inr ⟨h4, h16⟩)]
 ·rw [if_pos (by simp; omega), if_pos (.inl h1)]
theorem two_eq {v : Int} (h : 0 ≤ v ∧ v < 65536) : F_ref07_two v = some (strOfNums (put 2 v)) := by
 unfold F_ref07_two
 rw [wu64i h.1 (by omega), rput_eq (f2 h).1 (by decide) (by decide), Option.bind_some]
 rfl
theorem four_eq {v : Int} (h : 0 ≤ v ∧ v < 4294967296) : F_ref07_four v = some (strOfNums (put 4 v)) := by
 unfold F_ref07_four
 rw [wu64i h.1 (by omega), rput_eq (f4 h).1 (by decide) (by decide), Option.bind_some]
 rfl
theorem one_eq (v : Int) : F_ref07_one v = some (strOfNums [v]) := rfl
theorem snil : (⟨#[]⟩ : ByteArray) = strOfNums [] := rfl
theorem rpseudo_eq {p n : Int} {src dst : List Int} (hp : 0 ≤ p ∧ p < 256) (hn : 0 ≤ n ∧ n ≤ 65535) (hs : src.length ≤ 40) (hd : dst.length ≤ 40) : F_ref07_pseudo p n (strOfNums src) (strOfNums dst) = some (strOfNums (pso p n src dst).1, (pso p n src dst).2) := by
 have u2 : IntKind.u16.wrap n = n := wu16i hn.1 (by omega)
 have u4 : IntKind.u32.wrap n = n := by rw [IntKind.wrap_u32]; omega
 have p4 : IntKind.u32.wrap p = p := by rw [IntKind.wrap_u32]; omega
 have hbad : F_ref07_pseudo_j1 p n (strOfNums src) (strOfNums dst) true = some (strOfNums [], false) := rfl
 have hok : src.length = dst.length → (src.length = 4 ∨ src.length = 16) → F_ref07_pseudo_j1 p n (strOfNums src) (strOfNums dst) false = some (if p = 1 then (strOfNums [], true) else (strOfNums (ps p n src dst), true)) := fun h1 h2 => by
  unfold F_ref07_pseudo_j1
  rw [if_neg (by decide)]
  by_cases hp1 : p = 1
  ·rw [if_pos (by simpa using hp1), if_pos hp1]; rfl
  ·rw [if_neg (by simpa using hp1), if_neg hp1, str_size, str_size, str_app, one_eq, one_eq, u2, u4, p4, two_eq ⟨hn.1, by omega⟩, four_eq ⟨hn.1, by omega⟩, four_eq ⟨hp.1, by omega⟩]
   simp only [Option.bind_some, str_app, str_size]
   unfold ps
   by_cases h4 : src.length = 4
   ·rw [if_pos (by simp; omega), if_pos h4, if_pos (limk (by omega)), if_pos (limk (by simp; omega)), if_pos (limk (by simp; omega)), if_pos (limk (by simp [put_len]; omega))]
    simp
   ·rw [if_neg (by simp; omega), if_neg h4, if_pos (limk (by omega)), if_pos (limk (by simp [put_len]; omega)), if_pos (limk (by simp [put_len]; omega))]
 unfold F_ref07_pseudo pso
 rw [str_size, str_size]
 by_cases h1 : src.length = dst.length
 ·rw [if_neg (by simp; omega)]
  by_cases h4 : src.length = 4
  ·rw [if_neg (by simp; omega), hok h1 (.inl h4), if_neg (show ¬ (src.length ≠ dst.length ∨ (src.length ≠ 4 ∧ src.length ≠ 16)) by omega)]
   split <;> rfl
  ·rw [if_pos (by simp; omega)]
   by_cases h16 : src.length = 16
   ·rw [show ((src.length : Int) != 16) = false by simp; omega, hok h1 (.inr h16), if_neg (show ¬ (src.length ≠ dst.length ∨ (src.length ≠ 4 ∧ src.length ≠ 16)) by omega)]
    split <;> rfl
   ·rw [show ((src.length : Int) != 16) = true by simp; omega, hbad, if_pos (.inr ⟨h4, h16⟩)]
 ·rw [if_pos (by simp; omega), hbad, if_pos (.inl h1)]
/-! ### How a segment stands -/
def sa (s : T_trans_Segment) : List Int := if s.f_Proto = 6 then put 2 s.f_Src ++ put 2 s.f_Dst ++ put 4 s.f_Seq ++ put 4 s.f_Ack ++ [80 + 4 * (s.f_Options.length : Int)] ++ [s.f_Flags] ++ put 2 s.f_Window
 else if s.f_Proto = 17 then put 2 s.f_Src ++ put 2 s.f_Dst ++ put 2 (8 + (s.f_Data.length : Int)) else [s.f_Type] ++ [s.f_Code]
def sb (s : T_trans_Segment) : List Int := if s.f_Proto = 6 then put 2 s.f_Urgent ++ s.f_Options ++ s.f_Data else s.f_Data
def st (s : T_trans_Segment) (c : Int) : List Int := sa s ++ put 2 c ++ sb s
theorem st_len (s : T_trans_Segment) (c : Int) : (st s c).length ≤ 20 + s.f_Options.length + s.f_Data.length := by
 unfold st sa sb
 split
 ·simp [put_len]; omega
 ·split <;> simp [put_len] <;> omega
theorem rstands_eq {s : T_trans_Segment} (w : WS s) (ho : s.f_Options.length ≤ 40) (hd : s.f_Data.length ≤ 65535) (h17 : s.f_Proto = 17 → s.f_Data.length ≤ 65527) {c : Int} (hc : 0 ≤ c ∧ c < 65536) : F_ref07_stands (r7 s) c = some (strOfNums (st s c)) := by
 unfold F_ref07_stands st sa sb r7
 dsimp only
 by_cases h6 : s.f_Proto = 6
 ·have e : IntKind.u8.wrap (IntKind.i64.wrap (80 + IntKind.i64.wrap ((s.f_Options.length : Int) * 4))) = 80 + 4 * (s.f_Options.length : Int) := by
   rw [wi64 (n := (s.f_Options.length : Int) * 4) (by omega) (by omega), wi64 (by omega) (by omega), wu8i (by omega) (by omega)]; omega
  rw [if_pos (by simpa using h6), if_pos h6, if_pos h6, two_eq w.sr, two_eq w.ds, four_eq w.sq, four_eq w.ak, one_eq, one_eq, two_eq w.wi, two_eq hc, two_eq w.ur, str_size, e]
  simp only [Option.bind_some, str_app, str_size]
  rw [if_pos (limk (by simp [put_len])), if_pos (limk (by simp [put_len])), if_pos (limk (by simp [put_len])), if_pos (limk (by simp [put_len])), if_pos (limk (by simp [put_len])), if_pos (limk (by simp [put_len])), if_pos (limk (by simp [put_len])), if_pos (limk (by simp [put_len])), if_pos (limk (by simp [put_len]; omega)), if_pos (limk (by simp [put_len]; omega))]
  simp only [List.append_assoc]
 ·rw [if_neg (by simpa using h6), if_neg h6, if_neg h6]
  by_cases hp : s.f_Proto = 17
  ·have hb := h17 hp
   have e : IntKind.u16.wrap (IntKind.i64.wrap (8 + (s.f_Data.length : Int))) = 8 + (s.f_Data.length : Int) := by
    rw [wi64 (by omega) (by omega), wu16i (by omega) (by omega)]
   rw [if_pos (by simpa using hp), if_pos hp, two_eq w.sr, two_eq w.ds, str_size, e, two_eq (v := 8 + (s.f_Data.length : Int)) ⟨by omega, by omega⟩, two_eq hc]
   simp only [Option.bind_some, str_app, str_size]
   rw [if_pos (limk (by simp [put_len])), if_pos (limk (by simp [put_len])), if_pos (limk (by simp [put_len])), if_pos (limk (by simp [put_len]; omega))]
  ·rw [if_neg (by simpa using hp), if_neg hp, one_eq, one_eq, two_eq hc]
   simp only [Option.bind_some, str_app, str_size]
   rw [if_pos (limk (by simp)), if_pos (limk (by simp [put_len])), if_pos (limk (by simp [put_len]; omega))]
end Go.Proofs.Ytcinagdkkclapaa
