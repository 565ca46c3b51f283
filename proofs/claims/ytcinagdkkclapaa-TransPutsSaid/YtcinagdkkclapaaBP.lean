/- Plain text: segments that are right, and how they stand. -/
import Derived.Test.YtcinagdkkclapaaAP
set_option linter.unusedVariables false
namespace Go.Proofs.Ytcinagdkkclapaa
open Go Go.Ox Go.RowKit
theorem works_eq : F_law07_works = some true := by decide +kernel
theorem dT {p : Prop} [Decidable p] (h : p) : decide p = true := decide_eq_true h
theorem dF {p : Prop} [Decidable p] (h : ¬ p) : ¬ decide p = true := by simp [h]
/-! ### Strings that rows make -/
theorem nums_str : ∀ {xs : List Int}, Wf 256 xs → numsOfStr (strOfNums xs) = xs
 | [], _ => rfl
 | x :: xs, h => by
  have ih := nums_str (xs := xs) h.tail
  have hx := h.head
  simp only [numsOfStr, strOfNums, List.map_cons] at ih ⊢
  rw [ih]
  congr 1
  have : (UInt8.ofNat x.toNat).toNat = x.toNat := by
   rw [UInt8.toNat_ofNat']; exact Nat.mod_eq_of_lt (by omega)
  rw [this]; omega
theorem str_size (xs : List Int) : (strOfNums xs).size = xs.length := strOfNums_size xs
theorem gS {xs : List Int} (hw : Wf 256 xs) {i : Nat} (h : i < xs.length) : gidxS (strOfNums xs) (i : Int) = some xs[i] := by
 have hsz : i < (strOfNums xs).size := by rw [str_size]; exact h
 have hx := hw.get (List.getElem?_eq_getElem h)
 unfold gidxS
 rw [if_pos (by omega), Int.toNat_natCast, getElem?_pos (strOfNums xs) i hsz]
 have e : (strOfNums xs)[i] = UInt8.ofNat (xs[i].toNat) := by
  show (strOfNums xs).data[i] = _
  simp [strOfNums]
 rw [e, Option.map_some, UInt8.toNat_ofNat']
 congr 1
 rw [Nat.mod_eq_of_lt (by omega)]
 omega
theorem str_ext {a b : ByteArray} (h : a.data.toList = b.data.toList) : a = b := by
 cases a; cases b; simp at h; simpa using h
theorem cS {xs : List Int} {p q : Int} (h0 : 0 ≤ p) (h1 : p ≤ q) (h2 : q ≤ xs.length) : gcutS (strOfNums xs) p q = some (strOfNums ((xs.drop p.toNat).take (q.toNat - p.toNat))) := by
 unfold gcutS
 rw [if_pos ⟨h0, h1, by rw [str_size]; exact h2⟩]
 congr 1
 apply str_ext
 simp [strOfNums, List.map_drop, List.map_take]
theorem cSl {xs : List Int} {p : Int} (h0 : 0 ≤ p) (h1 : p ≤ xs.length) : gcutS (strOfNums xs) p ((strOfNums xs).size : Int) = some (strOfNums (xs.drop p.toNat)) := by
 rw [str_size, cS h0 h1 (Int.le_refl _)]
 congr 2
 exact List.take_of_length_le (by simp)
theorem eqS {xs ys : List Int} (hx : Wf 256 xs) (hy : Wf 256 ys) : ((strOfNums xs).toList == (strOfNums ys).toList) = (xs == ys) := by
 rw [ByteArray.toList_eq, ByteArray.toList_eq]
 by_cases h : xs = ys
 ·subst h; simp
 ·have : ¬ (strOfNums xs).data.toList = (strOfNums ys).data.toList := fun e => h (by
   have e2 : strOfNums xs = strOfNums ys := str_ext e
   rw [← nums_str hx, ← nums_str hy, e2])
  rw [beq_eq_false_iff_ne.2 this, beq_eq_false_iff_ne.2 h]
theorem eqS_same (xs : List Int) : ((strOfNums xs).toList == (strOfNums xs).toList) = true := by simp

theorem str_app (a b : List Int) : strOfNums a ++ strOfNums b = strOfNums (a ++ b) := by
 apply str_ext; simp [strOfNums]
/-! ### Segments -/
structure WS (s : T_trans_Segment) : Prop where
 pr : 0 ≤ s.f_Proto ∧ s.f_Proto < 256
 sr : 0 ≤ s.f_Src ∧ s.f_Src < 65536
 ds : 0 ≤ s.f_Dst ∧ s.f_Dst < 65536
 sq : 0 ≤ s.f_Seq ∧ s.f_Seq < 4294967296
 ak : 0 ≤ s.f_Ack ∧ s.f_Ack < 4294967296
 fl : 0 ≤ s.f_Flags ∧ s.f_Flags < 256
 wi : 0 ≤ s.f_Window ∧ s.f_Window < 65536
 ur : 0 ≤ s.f_Urgent ∧ s.f_Urgent < 65536
 op : Wf 256 s.f_Options
 ty : 0 ≤ s.f_Type ∧ s.f_Type < 256
 co : 0 ≤ s.f_Code ∧ s.f_Code < 256
 da : Wf 256 s.f_Data
def r7 (s : T_trans_Segment) : T_ref07_Segment := ⟨s.f_Proto, s.f_Src, s.f_Dst, s.f_Seq, s.f_Ack, s.f_Flags, s.f_Window, s.f_Urgent, strOfNums s.f_Options, s.f_Type, s.f_Code, strOfNums s.f_Data⟩
theorem docs_eq (s : T_trans_Segment) : F_docs_Trans s = some (r7 s) := rfl
theorem ifandf {α : Type} (c x : Bool) (f : Bool → α) : (if c = true then f x else f false) = f (c && x) := by cases c <;> rfl
/-! ### Same -/
def sm (a b : T_trans_Segment) : Bool := ((a.f_Proto == b.f_Proto) && ((a.f_Src == b.f_Src) && ((a.f_Dst == b.f_Dst) && ((a.f_Type == b.f_Type) && (a.f_Code == b.f_Code))))) && (((a.f_Seq == b.f_Seq) && ((a.f_Ack == b.f_Ack) && ((a.f_Flags == b.f_Flags) && ((a.f_Window == b.f_Window) && (a.f_Urgent == b.f_Urgent))))) && ((a.f_Options == b.f_Options) && (a.f_Data == b.f_Data)))
theorem tsame_eq {a b : T_trans_Segment} (oa : Wf 256 a.f_Options) (ob : Wf 256 b.f_Options) (da : Wf 256 a.f_Data) (db : Wf 256 b.f_Data) : F_trans_Same a b = some (sm a b) := by
 have j2 : ∀ p q, F_trans_Same_j2 a b p q = some (p && (q && ((a.f_Options == b.f_Options) && (a.f_Data == b.f_Data)))) := fun p q => by
  unfold F_trans_Same_j2 F_bytes_Equal F_trans_Same_j3
  rw [eqS oa ob, eqS da db]
  cases p <;> cases q <;> cases (a.f_Options == b.f_Options) <;> rfl
 have j1 : ∀ p, F_trans_Same_j1 a b p = F_trans_Same_j2 a b p ((a.f_Seq == b.f_Seq) && ((a.f_Ack == b.f_Ack) && ((a.f_Flags == b.f_Flags) && ((a.f_Window == b.f_Window) && (a.f_Urgent == b.f_Urgent))))) := fun p => by
  unfold F_trans_Same_j1
  rw [ifandf _ _ (F_trans_Same_j2 a b p), ifandf _ _ (F_trans_Same_j2 a b p), ifandf _ _ (F_trans_Same_j2 a b p), ifandf _ _ (F_trans_Same_j2 a b p)]
 unfold F_trans_Same
 rw [ifandf _ _ (F_trans_Same_j1 a b), ifandf _ _ (F_trans_Same_j1 a b), ifandf _ _ (F_trans_Same_j1 a b), ifandf _ _ (F_trans_Same_j1 a b), j1, j2]
 rfl
theorem sm_refl (a : T_trans_Segment) : sm a a = true := by simp [sm]
theorem qseg_eq {a b : T_trans_Segment} (oa : Wf 256 a.f_Options) (ob : Wf 256 b.f_Options) (da : Wf 256 a.f_Data) (db : Wf 256 b.f_Data) : q_ref07_Segment (r7 a) (r7 b) = sm a b := by
 unfold q_ref07_Segment r7 sm
 dsimp only
 rw [eqS oa ob, eqS da db, Bool.eq_iff_iff]
 simp only [Bool.and_eq_true, Bool.and_true]
 constructor
 ·rintro ⟨h1, h2, h3, h4, h5, h6, h7, h8, h9, h10, h11, h12⟩
  exact ⟨⟨h1, h2, h3, h10, h11⟩, ⟨h4, h5, h6, h7, h8⟩, h9, h12⟩
 ·rintro ⟨⟨h1, h2, h3, h10, h11⟩, ⟨h4, h5, h6, h7, h8⟩, h9, h12⟩
  exact ⟨h1, h2, h3, h4, h5, h6, h7, h8, h9, h10, h11, h12⟩
/-! ### Right -/
def ol (s : T_trans_Segment) : Int := (s.f_Options.length : Int)
def dl (s : T_trans_Segment) : Int := (s.f_Data.length : Int)
def fin (s : T_trans_Segment) (h : Int) : Bool := (Int.tmod (s.f_Options.length : Int) 4 == 0) && (decide ((s.f_Options.length : Int) ≤ 40) && decide (h + (s.f_Options.length : Int) + (s.f_Data.length : Int) ≤ 65535))
def zt (s : T_trans_Segment) : Bool := (s.f_Seq == 0) && ((s.f_Ack == 0) && ((s.f_Flags == 0) && ((s.f_Window == 0) && ((s.f_Urgent == 0) && (s.f_Options == [])))))
def rt (s : T_trans_Segment) : Bool :=
 if s.f_Proto = 6 then ((s.f_Type == 0) && (s.f_Code == 0)) && fin s 20
 else if s.f_Proto = 17 then (zt s && ((s.f_Type == 0) && (s.f_Code == 0))) && fin s 8
 else if s.f_Proto = 1 ∨ s.f_Proto = 58 then (zt s && ((s.f_Src == 0) && (s.f_Dst == 0))) && fin s 4 else false
def NL (s : T_trans_Segment) : Prop := s.f_Options.length ≤ 140737488351232 ∧ s.f_Data.length ≤ 140737488351232
theorem wlen {h a b : Int} (h0 : 0 ≤ h ∧ h ≤ 100) (ha : 0 ≤ a ∧ a ≤ 140737488351232) (hb : 0 ≤ b ∧ b ≤ 140737488351232) : IntKind.i64.wrap (IntKind.i64.wrap (h + a) + b) = h + a + b := by
 rw [wi64 (n := h + a) (by omega) (by omega), wi64 (by omega) (by omega)]
theorem right_eq {s : T_trans_Segment} (w : WS s) (n : NL s) : F_trans_Right s = some (rt s) := by
 have hn : ∀ h : Int, 0 ≤ h ∧ h ≤ 100 → IntKind.i64.wrap (IntKind.i64.wrap (h + (s.f_Options.length : Int)) + (s.f_Data.length : Int)) = h + (s.f_Options.length : Int) + (s.f_Data.length : Int) := fun h hh => wlen hh ⟨by omega, by have := n.1; omega⟩ ⟨by omega, by have := n.2; omega⟩
 have ends : ∀ (c : Bool) (h : Int), (if c = true then (if (Int.tmod (s.f_Options.length : Int) 4 == 0) = true then (if (decide ((s.f_Options.length : Int) ≤ 40)) = true then some (decide (h + (s.f_Options.length : Int) + (s.f_Data.length : Int) ≤ 65535)) else some false) else some false) else some false) = some (c && fin s h) := fun c h => by
  unfold fin
  cases c <;> cases (Int.tmod (s.f_Options.length : Int) 4 == 0) <;> cases (decide ((s.f_Options.length : Int) ≤ 40)) <;> rfl
 unfold F_trans_Right F_trans_protocols rt
 rw [Option.bind_some]
 by_cases h6 : s.f_Proto = 6
 ·rw [if_pos (by simpa using h6), if_pos h6]
  unfold F_trans_Right_j1 F_trans_Right_j2
  rw [tsame_eq (a := s) (b := ⟨s.f_Proto, s.f_Src, s.f_Dst, s.f_Seq, s.f_Ack, s.f_Flags, s.f_Window, s.f_Urgent, s.f_Options, 0, 0, s.f_Data⟩) w.op w.op w.da w.da, Option.bind_some, hn 20 (by omega), ends]
  simp [sm]
 ·rw [if_neg (by simpa using h6), if_neg h6]
  by_cases h17 : s.f_Proto = 17
  ·rw [if_pos (by simpa using h17), if_pos h17]
   unfold F_trans_Right_j3 F_trans_Right_j4
   rw [tsame_eq (a := s) (b := ⟨s.f_Proto, s.f_Src, s.f_Dst, 0, 0, 0, 0, 0, [], 0, 0, s.f_Data⟩) w.op Wf.nil w.da w.da, Option.bind_some, hn 8 (by omega), ends]
   congr 2
   simp only [sm, zt, beq_self_eq_true, Bool.true_and, Bool.and_true]
   rw [Bool.and_comm]
   simp only [Bool.and_assoc]
  ·rw [if_neg (by simpa using h17), if_neg h17]
   have tail : ∀ j, F_trans_Right_j1 = F_trans_Right_j1 → j = (F_trans_Same s ⟨s.f_Proto, 0, 0, 0, 0, 0, 0, 0, [], s.f_Type, s.f_Code, s.f_Data⟩).bind (fun y => if y = true then (if (Int.tmod (s.f_Options.length : Int) 4 == 0) = true then (if (decide ((s.f_Options.length : Int) ≤ 40)) = true then some (decide (4 + (s.f_Options.length : Int) + (s.f_Data.length : Int) ≤ 65535)) else some false) else some false) else some false) → j = some ((zt s && ((s.f_Src == 0) && (s.f_Dst == 0))) && fin s 4) := fun j _ hj => by
    rw [hj, tsame_eq (a := s) (b := ⟨s.f_Proto, 0, 0, 0, 0, 0, 0, 0, [], s.f_Type, s.f_Code, s.f_Data⟩) w.op Wf.nil w.da w.da, Option.bind_some, ends]
    congr 2
    simp only [sm, zt, beq_self_eq_true, Bool.true_and, Bool.and_true]
    rw [Bool.and_comm]
    simp only [Bool.and_assoc]
   by_cases h1 : s.f_Proto = 1
   ·rw [if_pos (by simpa using h1), if_pos (.inl h1)]
    refine tail _ rfl ?_
    unfold F_trans_Right_j5 F_trans_Right_j6
    rw [hn 4 (by omega)]
   ·rw [if_neg (by simpa using h1)]
    by_cases h58 : s.f_Proto = 58
    ·rw [if_pos (by simpa using h58), if_pos (.inr h58)]
     refine tail _ rfl ?_
     unfold F_trans_Right_j7 F_trans_Right_j8
     rw [hn 4 (by omega)]
    ·rw [if_neg (by simpa using h58), if_neg (by omega)]
/-! ### The reference: Right -/
def hd (p : Int) : Int := if p = 6 then 20 else if p = 17 then 8 else if p = 1 ∨ p = 58 then 4 else 0
theorem head_eq (p : Int) : F_ref07_Head p = some (hd p) := by
 unfold F_ref07_Head F_ref07_Head_j1 hd
 by_cases h6 : p = 6
 ·simp [h6]
 ·by_cases h17 : p = 17
  ·simp [h17]
  ·by_cases h1 : p = 1
   ·simp [h1]
   ·by_cases h58 : p = 58
    ·simp [h58]
    ·simp [h6, h17, h1, h58]
theorem rlen_eq {s : T_trans_Segment} (n : NL s) : F_ref07_Length (r7 s) = some (hd s.f_Proto + (s.f_Options.length : Int) + (s.f_Data.length : Int)) := by
 have hb : 0 ≤ hd s.f_Proto ∧ hd s.f_Proto ≤ 100 := by
  unfold hd
  repeat' split
  all_goals omega
 unfold F_ref07_Length r7
 dsimp only
 rw [head_eq, Option.bind_some, str_size, str_size, wlen hb ⟨by omega, by have := n.1; omega⟩ ⟨by omega, by have := n.2; omega⟩]
theorem rright_eq {s : T_trans_Segment} (w : WS s) (n : NL s) : F_ref07_Right (r7 s) = some (rt s) := by
 have ez : ((strOfNums s.f_Options).toList == (⟨#[]⟩ : ByteArray).toList) = (s.f_Options == []) := eqS w.op Wf.nil
 have j1f : F_ref07_Right_j1 (r7 s) false = F_ref07_Right_j2 (r7 s) (zt s) := by
  unfold F_ref07_Right_j1 zt
  rw [if_neg (by decide)]
  show (if (s.f_Seq == 0) = true then _ else _) = _
  rw [ifandf _ _ (F_ref07_Right_j2 (r7 s)), ifandf _ _ (F_ref07_Right_j2 (r7 s)), ifandf _ _ (F_ref07_Right_j2 (r7 s)), ifandf _ _ (F_ref07_Right_j2 (r7 s)), ifandf _ _ (F_ref07_Right_j2 (r7 s))]
  show F_ref07_Right_j2 (r7 s) ((s.f_Seq == 0) && ((s.f_Ack == 0) && ((s.f_Flags == 0) && ((s.f_Window == 0) && ((s.f_Urgent == 0) && ((strOfNums s.f_Options).toList == (⟨#[]⟩ : ByteArray).toList)))))) = _
  rw [ez]
 have j1t : F_ref07_Right_j1 (r7 s) true = some false := rfl
 have hfin : ∀ (h : Int) (b c : Bool), hd s.f_Proto = h → c = (b && fin s h) → F_ref07_Right_j2 (r7 s) (zt s) = some b →
   (if (decide (65535 < h + (s.f_Options.length : Int) + (s.f_Data.length : Int))) = true then F_ref07_Right_j1 (r7 s) true else if ((Int.tmod (s.f_Options.length : Int) 4) != 0) = true then F_ref07_Right_j1 (r7 s) true else F_ref07_Right_j1 (r7 s) (decide (40 < (s.f_Options.length : Int)))) = some c := fun h b c hh hc hj => by
  subst hc
  unfold fin
  by_cases g1 : 65535 < h + (s.f_Options.length : Int) + (s.f_Data.length : Int)
  ·rw [if_pos (dT g1), j1t, show decide (h + (s.f_Options.length : Int) + (s.f_Data.length : Int) ≤ 65535) = false from decide_eq_false (by omega)]
   simp
  ·rw [if_neg (dF g1), dT (show h + (s.f_Options.length : Int) + (s.f_Data.length : Int) ≤ 65535 by omega)]
   cases g2 : (Int.tmod (s.f_Options.length : Int) 4) == 0 with
   | false => rw [if_pos (by simp [bne, g2]), j1t] <;> simp
   | true =>
    rw [if_neg (by simp [bne, g2])]
    by_cases g3 : 40 < (s.f_Options.length : Int)
    ·rw [dT g3, j1t, show decide ((s.f_Options.length : Int) ≤ 40) = false from decide_eq_false (by omega)] <;> simp
    ·rw [decide_eq_false g3, j1f, hj, dT (show (s.f_Options.length : Int) ≤ 40 by omega)] <;> simp
 unfold F_ref07_Right
 rw [rlen_eq n, Option.bind_some]
 show (F_ref07_Head s.f_Proto).bind _ = _
 rw [head_eq, Option.bind_some]
 show (if (hd s.f_Proto == 0) = true then F_ref07_Right_j1 (r7 s) true else if (decide (65535 < hd s.f_Proto + (s.f_Options.length : Int) + (s.f_Data.length : Int))) = true then F_ref07_Right_j1 (r7 s) true else if ((Int.tmod ((strOfNums s.f_Options).size : Int) 4) != 0) = true then F_ref07_Right_j1 (r7 s) true else F_ref07_Right_j1 (r7 s) (decide (40 < ((strOfNums s.f_Options).size : Int)))) = _
 rw [str_size]
 unfold rt
 by_cases h6 : s.f_Proto = 6
 ·have e : hd s.f_Proto = 20 := by unfold hd; rw [if_pos h6]
  rw [e, if_neg (by decide), if_pos h6]
  refine hfin 20 _ _ e rfl ?_
  unfold F_ref07_Right_j2 F_ref07_Right_j3
  show (if (s.f_Proto == 6) = true then (if (s.f_Type == 0) = true then _ else _) else _) = _
  rw [if_pos (by simpa using h6)]
  exact ifandf (s.f_Type == 0) (s.f_Code == 0) some
 ·by_cases h17 : s.f_Proto = 17
  ·have e : hd s.f_Proto = 8 := by unfold hd; rw [if_neg h6, if_pos h17]
   rw [e, if_neg (by decide), if_neg h6, if_pos h17]
   refine hfin 8 _ _ e rfl ?_
   unfold F_ref07_Right_j2 F_ref07_Right_j4
   show (if (s.f_Proto == 6) = true then _ else if (s.f_Proto == 17) = true then (if zt s = true then (if (s.f_Type == 0) = true then _ else _) else _) else _) = _
   rw [if_neg (by simpa using h6), if_pos (by simpa using h17)]
   show (if zt s = true then (if (s.f_Type == 0) = true then some (s.f_Code == 0) else some false) else some false) = _
   rw [ifandf _ _ some, ifandf _ _ some]
  ·by_cases h1 : s.f_Proto = 1 ∨ s.f_Proto = 58
   ·have e : hd s.f_Proto = 4 := by unfold hd; rw [if_neg h6, if_neg h17, if_pos h1]
    rw [e, if_neg (by decide), if_neg h6, if_neg h17, if_pos h1]
    refine hfin 4 _ _ e rfl ?_
    unfold F_ref07_Right_j2 F_ref07_Right_j5
    show (if (s.f_Proto == 6) = true then _ else if (s.f_Proto == 17) = true then _ else (if zt s = true then (if (s.f_Src == 0) = true then _ else _) else _)) = _
    rw [if_neg (by simpa using h6), if_neg (by simpa using h17)]
    show (if zt s = true then (if (s.f_Src == 0) = true then some (s.f_Dst == 0) else some false) else some false) = _
    rw [ifandf _ _ some, ifandf _ _ some]
   ·have e : hd s.f_Proto = 0 := by unfold hd; rw [if_neg h6, if_neg h17, if_neg h1]
    rw [e, if_pos (by decide), if_neg h6, if_neg h17, if_neg h1, j1t]
/-! ### Flags -/
theorem flags_all : ∀ f : Fin 256, ∃ s, F_trans_Flags (f.val : Int) = some s ∧ F_ref07_Flags (f.val : Int) = some s := by
 have h : ∀ f : Fin 256, (F_trans_Flags (f.val : Int)).isSome = true ∧ F_trans_Flags (f.val : Int) = F_ref07_Flags (f.val : Int) := by decide +kernel
 intro f
 obtain ⟨h1, h2⟩ := h f
 obtain ⟨s, hs⟩ := Option.isSome_iff_exists.1 h1
 exact ⟨s, hs, by rw [← h2]; exact hs⟩
theorem flags_eq {f : Int} (h : 0 ≤ f ∧ f < 256) : ∃ s, F_trans_Flags f = some s ∧ F_ref07_Flags f = some s := by
 obtain ⟨n, rfl⟩ := Int.eq_ofNat_of_zero_le h.1
 exact flags_all ⟨n, by omega⟩
end Go.Proofs.Ytcinagdkkclapaa
