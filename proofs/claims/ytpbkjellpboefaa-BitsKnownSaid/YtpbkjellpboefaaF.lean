/- Plain functions, printed by a program of this claim: what each Go function computes, where it returns. -/
import Derived.Test.YtpbkjellpboefaaOxW
set_option linter.unusedVariables false
namespace Go.Proofs.Ytpbkjellpboefaa
open Go Go.Ox
abbrev v8 (n : Int) : Value := .int .u8 n
abbrev v16 (n : Int) : Value := .int .u16 n
abbrev v32 (n : Int) : Value := .int .u32 n
abbrev v64 (n : Int) : Value := .int .u64 n
abbrev vI (n : Int) : Value := .int .i64 n
abbrev vB (b : Bool) : Value := .bool b
structure T_bits_Writer where
  f_b : List Int
structure T_law01_Act where
  f_Do : Int
  f_At : Int
  f_V : Int
  f_Size : Int
  f_B : List Int
structure T_bits_Reader where
  f_b : List Int
  f_at : Int

def F_bits_right_j1 (t3 : Bool) : Option Bool :=
  some t3
def F_bits_right (size1 : Int) : Option Bool :=
  if (decide (1 ≤ size1)) = true then
  F_bits_right_j1 (decide (size1 ≤ 8))
  else
  F_bits_right_j1 false
def F_bits_Least_l1 (rec17 : Int → Int → Option Int) (v14 : Int) (nv15 : Int) : Option Int :=
  if (decide (0 < v14)) = true then
  rec17 (Ox.shr .u64 v14 8) (IntKind.i64.wrap (nv15 + 1))
  else
  some nv15
def F_bits_Least_L1 : Nat → Int → Int → Option Int
  | 0 => fun _ _ => none
  | k + 1 => F_bits_Least_l1 (F_bits_Least_L1 k)
def F_bits_Least (v1 : Int) : Option Int :=
  F_bits_Least_L1 fuel0 (Ox.shr .u64 v1 8) 1
def F_bits_fits_j1 (t12 : Bool) : Option Bool :=
  some t12
def F_bits_fits (v1 : Int) (size2 : Int) : Option Bool :=
  (F_bits_right size2).bind fun y4 =>
  if y4 = true then
  (F_bits_Least v1).bind fun y8 =>
  F_bits_fits_j1 (decide (y8 ≤ size2))
  else
  F_bits_fits_j1 false
def F_bits_of_l1 (rec42 : (List Int) → Int → Option ((List Int))) (v1 : Int) (size2 : Int) (b39 : List Int) (t40 : Int) : Option ((List Int)) :=
  if (decide (t40 < size2)) = true then
  if (decide (¬ (IntKind.i64.wrap (8 * t40)) < 0)) = true then
  (gidx b39 (IntKind.i64.wrap ((IntKind.i64.wrap (size2 - 1)) - t40))).bind fun xv51 =>
  rec42 (b39.set ((IntKind.i64.wrap ((IntKind.i64.wrap (size2 - 1)) - t40)) : Int).toNat (IntKind.u8.wrap (Ox.shr .u64 v1 (IntKind.i64.wrap (8 * t40))))) (IntKind.i64.wrap (t40 + 1))
  else none
  else
  some b39
def F_bits_of_L1 (v1 : Int) (size2 : Int) : Nat → (List Int) → Int → Option ((List Int))
  | 0 => fun _ _ => none
  | k + 1 => F_bits_of_l1 (F_bits_of_L1 v1 size2 k) v1 size2
def F_bits_of (v1 : Int) (size2 : Int) : Option ((List Int)) :=
  if (decide (0 ≤ size2 ∧ size2 ≤ lim)) = true then
  F_bits_of_L1 v1 size2 fuel0 (List.replicate (Int.toNat size2) (0 : Int)) 0
  else none
def F_bits_Writer_Raw (wv1 : T_bits_Writer) (b8 : List Int) : Option (Int × T_bits_Writer) :=
  if (decide (wv1.f_b.length + b8.length ≤ lim)) = true then
  some (0, (T_bits_Writer.mk (wv1.f_b ++ b8)))
  else none
def F_bits_Writer_Put (wv1 : T_bits_Writer) (v8 : Int) (size9 : Int) : Option (Int × T_bits_Writer) :=
  (F_bits_fits v8 size9).bind fun y16 =>
  if (!y16) = true then
  some (2, wv1)
  else
  (F_bits_of v8 size9).bind fun y22 =>
  (F_bits_Writer_Raw wv1 y22).bind fun y29 =>
  some (y29.1, y29.2)
def F_bits_value_l1 (rec27 : Int → Int → Option Int) (b1 : List Int) (v24 : Int) (t25 : Int) : Option Int :=
  if (decide (t25 < (b1.length : Int))) = true then
  (gidx b1 t25).bind fun xv35 =>
  rec27 (bits .or .u64 (Ox.shl .u64 v24 8) (IntKind.u64.wrap xv35)) (IntKind.i64.wrap (t25 + 1))
  else
  some v24
def F_bits_value_L1 (b1 : List Int) : Nat → Int → Int → Option Int
  | 0 => fun _ _ => none
  | k + 1 => F_bits_value_l1 (F_bits_value_L1 b1 k) b1
def F_bits_value (b1 : List Int) : Option Int :=
  F_bits_value_L1 b1 fuel0 0 0
def F_bits_Get_j2 (b1 : List Int) (atv5 : Int) (size6 : Int) (t16 : Bool) : Option (Int × Int) :=
  if t16 = true then
  some (0, 10)
  else
  (gcut b1 atv5 (IntKind.i64.wrap (atv5 + size6))).bind fun cut20 =>
  (F_bits_value cut20).bind fun y27 =>
  some (y27, 0)
def F_bits_Get_j1 (b1 : List Int) (atv5 : Int) (size6 : Int) (t13 : Bool) : Option (Int × Int) :=
  if t13 = true then
  some (0, 2)
  else
  if (decide ((b1.length : Int) < atv5)) = true then
  F_bits_Get_j2 b1 atv5 size6 true
  else
  F_bits_Get_j2 b1 atv5 size6 (decide ((IntKind.i64.wrap ((b1.length : Int) - atv5)) < size6))
def F_bits_Get (b1 : List Int) (atv5 : Int) (size6 : Int) : Option (Int × Int) :=
  (F_bits_right size6).bind fun y9 =>
  if (!y9) = true then
  F_bits_Get_j1 b1 atv5 size6 true
  else
  F_bits_Get_j1 b1 atv5 size6 (decide (atv5 < 0))
def F_slices_Clone_byte_byte (s1 : List Int) : Option ((List Int)) :=
  if (decide (([] : List Int).length + s1.length ≤ lim)) = true then
  some (([] : List Int) ++ s1)
  else none
def F_bits_Writer_Bytes (wv1 : T_bits_Writer) : Option ((List Int) × T_bits_Writer) :=
  (F_slices_Clone_byte_byte wv1.f_b).bind fun y13 =>
  some (y13, wv1)
def F_ref01_Same (av1 : List Int) (b5 : List Int) : Option Bool :=
  some ((strOfNums av1).toList == (strOfNums b5).toList)
def F_law01_works_j1 (t59 : Bool) : Option Bool :=
  some t59
def F_law01_works : Option Bool :=
  (F_bits_Writer_Put (T_bits_Writer.mk ([] : List Int)) 258 3).bind fun y8 =>
  (F_bits_Writer_Put y8.2 256 1).bind fun y15 =>
  (F_bits_Get ([1, 2, 3] : List Int) 1 2).bind fun y26 =>
  if (y8.1 == 0) = true then
  if (y15.1 == 2) = true then
  (F_bits_Writer_Bytes y15.2).bind fun y30 =>
  (F_ref01_Same y30.1 ([0, 1, 2] : List Int)).bind fun y43 =>
  if y43 = true then
  if (y26.1 == 515) = true then
  if (y26.2 == 0) = true then
  (F_bits_Least 0).bind fun y47 =>
  if (y47 == 1) = true then
  (F_bits_Least 255).bind fun y51 =>
  if (y51 == 1) = true then
  (F_bits_Least 256).bind fun y55 =>
  F_law01_works_j1 (y55 == 2)
  else
  F_law01_works_j1 false
  else
  F_law01_works_j1 false
  else
  F_law01_works_j1 false
  else
  F_law01_works_j1 false
  else
  F_law01_works_j1 false
  else
  F_law01_works_j1 false
  else
  F_law01_works_j1 false
def F_ref01_Get_j2 (b1 : List Int) (atv5 : Int) (v37 : Int) (i38 : Int) (rec40 : Int → Int → Option (Int × Int)) (t46 : Bool) : Option (Int × Int) :=
  if t46 = true then
  some (0, 10)
  else
  (gidx b1 (IntKind.i64.wrap (atv5 + i38))).bind fun xv51 =>
  rec40 (IntKind.u64.wrap ((IntKind.u64.wrap (v37 * 256)) + (IntKind.u64.wrap xv51))) (IntKind.i64.wrap (i38 + 1))
def F_ref01_Get_l1 (rec40 : Int → Int → Option (Int × Int)) (b1 : List Int) (atv5 : Int) (size6 : Int) (v37 : Int) (i38 : Int) : Option (Int × Int) :=
  if (decide (i38 < size6)) = true then
  if (decide ((b1.length : Int) < atv5)) = true then
  F_ref01_Get_j2 b1 atv5 v37 i38 rec40 true
  else
  F_ref01_Get_j2 b1 atv5 v37 i38 rec40 (decide ((b1.length : Int) ≤ (IntKind.i64.wrap (atv5 + i38))))
  else
  some (v37, 0)
def F_ref01_Get_L1 (b1 : List Int) (atv5 : Int) (size6 : Int) : Nat → Int → Int → Option (Int × Int)
  | 0 => fun _ _ => none
  | k + 1 => F_ref01_Get_l1 (F_ref01_Get_L1 b1 atv5 size6 k) b1 atv5 size6
def F_ref01_Get_j1 (b1 : List Int) (atv5 : Int) (size6 : Int) (t9 : Bool) : Option (Int × Int) :=
  if t9 = true then
  some (0, 2)
  else
  F_ref01_Get_L1 b1 atv5 size6 fuel0 0 0
def F_ref01_Get (b1 : List Int) (atv5 : Int) (size6 : Int) : Option (Int × Int) :=
  if (decide (size6 < 1)) = true then
  F_ref01_Get_j1 b1 atv5 size6 true
  else
  if (decide (8 < size6)) = true then
  F_ref01_Get_j1 b1 atv5 size6 true
  else
  F_ref01_Get_j1 b1 atv5 size6 (decide (atv5 < 0))
def F_ref01_Power_l1 (rec17 : Int → Int → Option Int) (size1 : Int) (nv14 : Int) (i15 : Int) : Option Int :=
  if (decide (i15 < size1)) = true then
  rec17 (IntKind.u64.wrap ((IntKind.u64.wrap (nv14 * 256)) + 255)) (IntKind.i64.wrap (i15 + 1))
  else
  some nv14
def F_ref01_Power_L1 (size1 : Int) : Nat → Int → Int → Option Int
  | 0 => fun _ _ => none
  | k + 1 => F_ref01_Power_l1 (F_ref01_Power_L1 size1 k) size1
def F_ref01_Power (size1 : Int) : Option Int :=
  F_ref01_Power_L1 size1 fuel0 0 0
def F_ref01_Fits_j1 (t8 : Bool) : Option Bool :=
  some t8
def F_ref01_Fits (v1 : Int) (size2 : Int) : Option Bool :=
  if (decide (1 ≤ size2)) = true then
  if (decide (size2 ≤ 8)) = true then
  (F_ref01_Power size2).bind fun y4 =>
  F_ref01_Fits_j1 (decide (v1 ≤ y4))
  else
  F_ref01_Fits_j1 false
  else
  F_ref01_Fits_j1 false
def F_ref01_Least_l1 (rec26 : Int → Option Int) (v1 : Int) (nv24 : Int) : Option Int :=
  if (decide (nv24 < 8)) = true then
  (F_ref01_Fits v1 nv24).bind fun y32 =>
  if y32 = true then
  some nv24
  else
  rec26 (IntKind.i64.wrap (nv24 + 1))
  else
  some 8
def F_ref01_Least_L1 (v1 : Int) : Nat → Int → Option Int
  | 0 => fun _ => none
  | k + 1 => F_ref01_Least_l1 (F_ref01_Least_L1 v1 k) v1
def F_ref01_Least (v1 : Int) : Option Int :=
  F_ref01_Least_L1 v1 fuel0 1
def F_law01_BitsGets_j1 (t38 : Bool) : Option Bool :=
  some t38
def F_law01_BitsGets (b1 : List Int) (atv5 : Int) (size6 : Int) (v7 : Int) : Option Bool :=
  if (decide (300 < (b1.length : Int))) = true then
  (F_law01_works).bind fun y12 =>
  some y12
  else
  (F_bits_Get b1 atv5 size6).bind fun y17 =>
  (F_ref01_Get b1 atv5 size6).bind fun y22 =>
  if (y17.1 == y22.1) = true then
  if (y17.2 == y22.2) = true then
  (F_bits_Least v7).bind fun y26 =>
  (F_ref01_Least v7).bind fun y30 =>
  if (y26 == y30) = true then
  (F_law01_works).bind fun y34 =>
  F_law01_BitsGets_j1 y34
  else
  F_law01_BitsGets_j1 false
  else
  F_law01_BitsGets_j1 false
  else
  F_law01_BitsGets_j1 false
def F_law01_few_j1 (lv1 : List T_law01_Act) (most5 : Int) (i42 : Int) (rec44 : Int → Option Bool) (t47 : Bool) : Option Bool :=
  if t47 = true then
  (gidx lv1 i42).bind fun xv53 =>
  if (decide (60 < (xv53.f_B.length : Int))) = true then
  some false
  else
  rec44 (IntKind.i64.wrap (i42 + 1))
  else
  some (decide ((lv1.length : Int) ≤ most5))
def F_law01_few_l1 (rec44 : Int → Option Bool) (lv1 : List T_law01_Act) (most5 : Int) (i42 : Int) : Option Bool :=
  if (decide (i42 < (lv1.length : Int))) = true then
  F_law01_few_j1 lv1 most5 i42 rec44 (decide (i42 < 100))
  else
  F_law01_few_j1 lv1 most5 i42 rec44 false
def F_law01_few_L1 (lv1 : List T_law01_Act) (most5 : Int) : Nat → Int → Option Bool
  | 0 => fun _ => none
  | k + 1 => F_law01_few_l1 (F_law01_few_L1 lv1 most5 k) lv1 most5
def F_law01_few (lv1 : List T_law01_Act) (most5 : Int) : Option Bool :=
  F_law01_few_L1 lv1 most5 fuel0 0
def F_kit_Pick (i1 : Int) (nv2 : Int) : Option Int :=
  if (decide (nv2 ≤ 0)) = true then
  some 0
  else
  if (decide (nv2 ≠ 0)) = true then
  if (decide (nv2 ≠ 0)) = true then
  some (Int.tmod (IntKind.i64.wrap ((Int.tmod i1 nv2) + nv2)) nv2)
  else none
  else none
def F_ref01_Put_B (recF : Int → Int → Option ((List Int))) (v1 : Int) (size2 : Int) : Option ((List Int)) :=
  if (size2 == 0) = true then
  some ([])
  else
  (recF (IntKind.u64.wrap (Int.tdiv v1 256)) (IntKind.i64.wrap (size2 - 1))).bind fun y8 =>
  if (decide (y8.length + ([(IntKind.u8.wrap (Int.tmod v1 256))] : List Int).length ≤ lim)) = true then
  some (y8 ++ ([(IntKind.u8.wrap (Int.tmod v1 256))] : List Int))
  else none
def F_ref01_Put_R : Nat → Int → Int → Option ((List Int))
  | 0 => fun _ _ => none
  | k + 1 => F_ref01_Put_B (F_ref01_Put_R k)
def F_ref01_Put (v1 : Int) (size2 : Int) : Option ((List Int)) := F_ref01_Put_R fuel0 v1 size2
def F_ref01_Join (av1 : List Int) (b5 : List Int) : Option ((List Int)) :=
  if (decide (av1.length ≤ lim)) = true then
  if (decide (av1.length + b5.length ≤ lim)) = true then
  some (av1 ++ b5)
  else none
  else none
def F_bits_Writer_Set_j1 (wv1 : T_bits_Writer) (atv8 : Int) (v9 : Int) (size10 : Int) (t22 : Bool) : Option (Int × T_bits_Writer) :=
  if t22 = true then
  some (2, wv1)
  else
  (gcut wv1.f_b atv8 ((wv1.f_b).length)).bind fun cut26 =>
  (F_bits_of v9 size10).bind fun y33 =>
  some (0, (T_bits_Writer.mk (cpR (Int.toNat atv8) (Nat.min y33.length cut26.length) wv1.f_b y33)))
def F_bits_Writer_Set (wv1 : T_bits_Writer) (atv8 : Int) (v9 : Int) (size10 : Int) : Option (Int × T_bits_Writer) :=
  (F_bits_fits v9 size10).bind fun y16 =>
  if (!y16) = true then
  F_bits_Writer_Set_j1 wv1 atv8 v9 size10 true
  else
  if (decide (atv8 < 0)) = true then
  F_bits_Writer_Set_j1 wv1 atv8 v9 size10 true
  else
  if (decide ((wv1.f_b.length : Int) < atv8)) = true then
  F_bits_Writer_Set_j1 wv1 atv8 v9 size10 true
  else
  F_bits_Writer_Set_j1 wv1 atv8 v9 size10 (decide ((IntKind.i64.wrap ((wv1.f_b.length : Int) - atv8)) < size10))
def F_bits_Writer_Len (wv1 : T_bits_Writer) : Option (Int × T_bits_Writer) :=
  some ((wv1.f_b.length : Int), wv1)
def F_law01_BitsWrites_l2 (rec925 : (List Int) → Int → Option Bool) (i637 : Int) (rec639 : (List Int) → (List Int) → Int → Option Bool) (want850 : List Int) (wv879 : List Int) (b922 : List Int) (kv923 : Int) : Option Bool :=
  if (decide (kv923 < (b922.length : Int))) = true then
  (gidx b922 kv923).bind fun xv932 =>
  (gidx b922 kv923).bind fun xv935 =>
  rec925 (b922.set (kv923 : Int).toNat (IntKind.u8.wrap (xv932 + 1))) (IntKind.i64.wrap (kv923 + 1))
  else
  rec639 wv879 want850 (IntKind.i64.wrap (i637 + 1))
def F_law01_BitsWrites_L2 (i637 : Int) (rec639 : (List Int) → (List Int) → Int → Option Bool) (want850 : List Int) (wv879 : List Int) : Nat → (List Int) → Int → Option Bool
  | 0 => fun _ _ => none
  | k + 1 => F_law01_BitsWrites_l2 (F_law01_BitsWrites_L2 i637 rec639 want850 wv879 k) i637 rec639 want850 wv879
def F_law01_BitsWrites_j2 (i637 : Int) (rec639 : (List Int) → (List Int) → Int → Option Bool) (want850 : List Int) (y853 : (List Int) × T_bits_Writer) (wv879 : List Int) (t882 : Bool) : Option Bool :=
  if t882 = true then
  some false
  else
  F_law01_BitsWrites_L2 i637 rec639 want850 wv879 fuel0 y853.1 0
def F_law01_BitsWrites_j1 (i637 : Int) (rec639 : (List Int) → (List Int) → Int → Option Bool) (wv846 : List Int) (want850 : List Int) : Option Bool :=
  (F_bits_Writer_Bytes (T_bits_Writer.mk wv846)).bind fun y853 =>
  (F_ref01_Same y853.1 want850).bind fun y864 =>
  if (!y864) = true then
  F_law01_BitsWrites_j2 i637 rec639 want850 y853 y853.2.f_b true
  else
  (F_bits_Writer_Len y853.2).bind fun y868 =>
  F_law01_BitsWrites_j2 i637 rec639 want850 y853 y868.2.f_b (y868.1 != (want850.length : Int))
def F_law01_BitsWrites_j3 (want636 : List Int) (i637 : Int) (rec639 : (List Int) → (List Int) → Int → Option Bool) (xv647 : T_law01_Act) (y660 : Bool) (y671 : Int × T_bits_Writer) (t683 : Bool) : Option Bool :=
  if t683 = true then
  some false
  else
  if y660 = true then
  (F_ref01_Put xv647.f_V xv647.f_Size).bind fun y687 =>
  (F_ref01_Join want636 y687).bind fun y694 =>
  F_law01_BitsWrites_j1 i637 rec639 y671.2.f_b y694
  else
  F_law01_BitsWrites_j1 i637 rec639 y671.2.f_b want636
def F_law01_BitsWrites_l3 (rec763 : (List Int) → Int → Option Bool) (want636 : List Int) (i637 : Int) (rec639 : (List Int) → (List Int) → Int → Option Bool) (xv647 : T_law01_Act) (y712 : Int × T_bits_Writer) (own760 : List Int) (kv761 : Int) : Option Bool :=
  if (decide (kv761 < (own760.length : Int))) = true then
  (gidx own760 kv761).bind fun xv770 =>
  (gidx own760 kv761).bind fun xv773 =>
  rec763 (own760.set (kv761 : Int).toNat (IntKind.u8.wrap (xv770 + 1))) (IntKind.i64.wrap (kv761 + 1))
  else
  (F_ref01_Join want636 xv647.f_B).bind fun y776 =>
  F_law01_BitsWrites_j1 i637 rec639 y712.2.f_b y776
def F_law01_BitsWrites_L3 (want636 : List Int) (i637 : Int) (rec639 : (List Int) → (List Int) → Int → Option Bool) (xv647 : T_law01_Act) (y712 : Int × T_bits_Writer) : Nat → (List Int) → Int → Option Bool
  | 0 => fun _ _ => none
  | k + 1 => F_law01_BitsWrites_l3 (F_law01_BitsWrites_L3 want636 i637 rec639 xv647 y712 k) want636 i637 rec639 xv647 y712
def F_law01_BitsWrites_j5 (want636 : List Int) (i637 : Int) (rec639 : (List Int) → (List Int) → Int → Option Bool) (xv647 : T_law01_Act) (y785 : Int × T_bits_Writer) (may796 : Bool) (t803 : Bool) : Option Bool :=
  if t803 = true then
  some false
  else
  if may796 = true then
  (gcut want636 0 xv647.f_At).bind fun cut807 =>
  (gcut want636 (IntKind.i64.wrap (xv647.f_At + xv647.f_Size)) ((want636).length)).bind fun cut814 =>
  (F_ref01_Put xv647.f_V xv647.f_Size).bind fun y821 =>
  (F_ref01_Join cut807 y821).bind fun y828 =>
  (F_ref01_Join y828 cut814).bind fun y835 =>
  F_law01_BitsWrites_j1 i637 rec639 y785.2.f_b y835
  else
  F_law01_BitsWrites_j1 i637 rec639 y785.2.f_b want636
def F_law01_BitsWrites_j4 (want636 : List Int) (i637 : Int) (rec639 : (List Int) → (List Int) → Int → Option Bool) (xv647 : T_law01_Act) (y785 : Int × T_bits_Writer) (may796 : Bool) : Option Bool :=
  if (!(may796 == (y785.1 == 0))) = true then
  F_law01_BitsWrites_j5 want636 i637 rec639 xv647 y785 may796 true
  else
  if (!may796) = true then
  F_law01_BitsWrites_j5 want636 i637 rec639 xv647 y785 may796 (y785.1 != 2)
  else
  F_law01_BitsWrites_j5 want636 i637 rec639 xv647 y785 may796 false
def F_law01_BitsWrites_l1 (rec639 : (List Int) → (List Int) → Int → Option Bool) (lv1 : List T_law01_Act) (wv632 : List Int) (want636 : List Int) (i637 : Int) : Option Bool :=
  if (decide (i637 < (lv1.length : Int))) = true then
  (gidx lv1 i637).bind fun xv647 =>
  (F_ref01_Fits xv647.f_V xv647.f_Size).bind fun y660 =>
  (F_kit_Pick xv647.f_Do 4).bind fun y665 =>
  if (y665 == 0) = true then
  (F_bits_Writer_Put (T_bits_Writer.mk wv632) xv647.f_V xv647.f_Size).bind fun y671 =>
  if (!((y671.1 == 0) == y660)) = true then
  F_law01_BitsWrites_j3 want636 i637 rec639 xv647 y660 y671 true
  else
  if (!y660) = true then
  F_law01_BitsWrites_j3 want636 i637 rec639 xv647 y660 y671 (y671.1 != 2)
  else
  F_law01_BitsWrites_j3 want636 i637 rec639 xv647 y660 y671 false
  else
  if (y665 == 1) = true then
  (F_ref01_Join [] xv647.f_B).bind fun y703 =>
  (F_bits_Writer_Raw (T_bits_Writer.mk wv632) y703).bind fun y712 =>
  if (y712.1 != 0) = true then
  some false
  else
  F_law01_BitsWrites_L3 want636 i637 rec639 xv647 y712 fuel0 y703 0
  else
  if (y665 == 2) = true then
  (F_bits_Writer_Set (T_bits_Writer.mk wv632) xv647.f_At xv647.f_V xv647.f_Size).bind fun y785 =>
  if y660 = true then
  if (decide (0 ≤ xv647.f_At)) = true then
  if (decide (xv647.f_At ≤ (want636.length : Int))) = true then
  F_law01_BitsWrites_j4 want636 i637 rec639 xv647 y785 (decide (xv647.f_Size ≤ (IntKind.i64.wrap ((want636.length : Int) - xv647.f_At))))
  else
  F_law01_BitsWrites_j4 want636 i637 rec639 xv647 y785 false
  else
  F_law01_BitsWrites_j4 want636 i637 rec639 xv647 y785 false
  else
  F_law01_BitsWrites_j4 want636 i637 rec639 xv647 y785 false
  else
  F_law01_BitsWrites_j1 i637 rec639 wv632 want636
  else
  (F_law01_works).bind fun y939 =>
  some y939
def F_law01_BitsWrites_L1 (lv1 : List T_law01_Act) : Nat → (List Int) → (List Int) → Int → Option Bool
  | 0 => fun _ _ _ => none
  | k + 1 => F_law01_BitsWrites_l1 (F_law01_BitsWrites_L1 lv1 k) lv1
def F_law01_BitsWrites (lv1 : List T_law01_Act) : Option Bool :=
  (F_law01_few lv1 40).bind fun y8 =>
  if (!y8) = true then
  (F_law01_works).bind fun y13 =>
  some y13
  else
  F_law01_BitsWrites_L1 lv1 fuel0 ([]) ([]) 0
def F_bits_Read (b1 : List Int) : Option T_bits_Reader :=
  (F_slices_Clone_byte_byte b1).bind fun y7 =>
  some (T_bits_Reader.mk y7 0)
def F_bits_Reader_Get_j1 (rv1 : T_bits_Reader) (y14 : Int × Int) (p22 : Int) : Option (Int × Int × T_bits_Reader) :=
  some (y14.1, y14.2, (T_bits_Reader.mk rv1.f_b p22))
def F_bits_Reader_Get (rv1 : T_bits_Reader) (size8 : Int) : Option (Int × Int × T_bits_Reader) :=
  (F_bits_Get rv1.f_b rv1.f_at size8).bind fun y14 =>
  if (y14.2 == 0) = true then
  F_bits_Reader_Get_j1 rv1 y14 (IntKind.i64.wrap (rv1.f_at + size8))
  else
  F_bits_Reader_Get_j1 rv1 y14 rv1.f_at
def F_bits_Reader_Left (rv1 : T_bits_Reader) : Option (Int × T_bits_Reader) :=
  some ((IntKind.i64.wrap ((rv1.f_b.length : Int) - rv1.f_at)), rv1)
def F_law01_BitsBack_j2 (i98 : Int) (rec100 : (List Int) → Int → Option Bool) (y113 : Int × T_bits_Writer) (t129 : Bool) : Option Bool :=
  if t129 = true then
  some false
  else
  rec100 y113.2.f_b (IntKind.i64.wrap (i98 + 1))
def F_law01_BitsBack_j3 (i281 : Int) (rec283 : (List Int) → Int → Int → Option Bool) (rv337 : List Int) (rv338 : Int) : Option Bool :=
  rec283 rv337 rv338 (IntKind.i64.wrap (i281 + 1))
def F_law01_BitsBack_j5 (i281 : Int) (rec283 : (List Int) → Int → Int → Option Bool) (y314 : Int × Int × T_bits_Reader) (t328 : Bool) : Option Bool :=
  if t328 = true then
  some false
  else
  F_law01_BitsBack_j3 i281 rec283 y314.2.2.f_b y314.2.2.f_at
def F_law01_BitsBack_j4 (lv1 : List Int) (sizes5 : List Int) (rv279 : List Int) (rv280 : Int) (i281 : Int) (rec283 : (List Int) → Int → Int → Option Bool) (t308 : Bool) : Option Bool :=
  if t308 = true then
  F_law01_BitsBack_j3 i281 rec283 rv279 rv280
  else
  (gidx sizes5 i281).bind fun xv313 =>
  (F_bits_Reader_Get (T_bits_Reader.mk rv279 rv280) xv313).bind fun y314 =>
  if (y314.2.1 != 0) = true then
  F_law01_BitsBack_j5 i281 rec283 y314 true
  else
  (gidx lv1 i281).bind fun xv323 =>
  F_law01_BitsBack_j5 i281 rec283 y314 (y314.1 != xv323)
def F_law01_BitsBack_j7 (t410 : Bool) : Option Bool :=
  some t410
def F_law01_BitsBack_j9 (i481 : Int) (rec483 : Int → Option Bool) (t502 : Bool) : Option Bool :=
  if t502 = true then
  some false
  else
  rec483 (IntKind.i64.wrap (i481 + 1))
def F_law01_BitsBack_l3 (rec483 : Int → Option Bool) (atv9 : Int) (y341 : (List Int) × T_bits_Writer) (y352 : Int) (y413 : (List Int) × T_bits_Writer) (i481 : Int) : Option Bool :=
  if (decide (i481 < (y413.1.length : Int))) = true then
  if (decide (i481 < atv9)) = true then
  (gidx y413.1 i481).bind fun xv490 =>
  (gidx y341.1 i481).bind fun xv493 =>
  F_law01_BitsBack_j9 i481 rec483 (xv490 != xv493)
  else
  if (decide ((IntKind.i64.wrap (atv9 + y352)) ≤ i481)) = true then
  (gidx y413.1 i481).bind fun xv496 =>
  (gidx y341.1 i481).bind fun xv499 =>
  F_law01_BitsBack_j9 i481 rec483 (xv496 != xv499)
  else
  F_law01_BitsBack_j9 i481 rec483 false
  else
  (F_law01_works).bind fun y506 =>
  some y506
def F_law01_BitsBack_L3 (atv9 : Int) (y341 : (List Int) × T_bits_Writer) (y352 : Int) (y413 : (List Int) × T_bits_Writer) : Nat → Int → Option Bool
  | 0 => fun _ => none
  | k + 1 => F_law01_BitsBack_l3 (F_law01_BitsBack_L3 atv9 y341 y352 y413 k) atv9 y341 y352 y413
def F_law01_BitsBack_j8 (atv9 : Int) (y341 : (List Int) × T_bits_Writer) (y352 : Int) (y413 : (List Int) × T_bits_Writer) (t431 : Bool) : Option Bool :=
  if t431 = true then
  some false
  else
  F_law01_BitsBack_L3 atv9 y341 y352 y413 fuel0 0
def F_law01_BitsBack_j6 (atv9 : Int) (v10 : Int) (y341 : (List Int) × T_bits_Writer) (y352 : Int) (wv375 : List Int) (rv380 : List Int) (rv381 : Int) (t383 : Bool) : Option Bool :=
  if t383 = true then
  (F_bits_Reader_Left (T_bits_Reader.mk rv380 rv381)).bind fun y385 =>
  if (y385.1 == 0) = true then
  (F_bits_Writer_Bytes (T_bits_Writer.mk wv375)).bind fun y392 =>
  (F_ref01_Same y392.1 y341.1).bind fun y402 =>
  if y402 = true then
  (F_law01_works).bind fun y406 =>
  F_law01_BitsBack_j7 y406
  else
  F_law01_BitsBack_j7 false
  else
  F_law01_BitsBack_j7 false
  else
  (F_bits_Writer_Bytes (T_bits_Writer.mk wv375)).bind fun y413 =>
  (F_bits_Get y413.1 atv9 y352).bind fun y424 =>
  if ((y413.1.length : Int) != (y341.1.length : Int)) = true then
  F_law01_BitsBack_j8 atv9 y341 y352 y413 true
  else
  if (y424.2 != 0) = true then
  F_law01_BitsBack_j8 atv9 y341 y352 y413 true
  else
  F_law01_BitsBack_j8 atv9 y341 y352 y413 (y424.1 != v10)
def F_law01_BitsBack_l2 (rec283 : (List Int) → Int → Int → Option Bool) (lv1 : List Int) (sizes5 : List Int) (atv9 : Int) (v10 : Int) (y133 : (List Int) × T_bits_Writer) (rv279 : List Int) (rv280 : Int) (i281 : Int) : Option Bool :=
  if (decide (i281 < (lv1.length : Int))) = true then
  (gidx sizes5 i281).bind fun xv290 =>
  if (decide (xv290 < 1)) = true then
  F_law01_BitsBack_j4 lv1 sizes5 rv279 rv280 i281 rec283 true
  else
  (gidx sizes5 i281).bind fun xv293 =>
  if (decide (8 < xv293)) = true then
  F_law01_BitsBack_j4 lv1 sizes5 rv279 rv280 i281 rec283 true
  else
  (gidx lv1 i281).bind fun xv296 =>
  (gidx sizes5 i281).bind fun xv299 =>
  (F_ref01_Fits xv296 xv299).bind fun y300 =>
  F_law01_BitsBack_j4 lv1 sizes5 rv279 rv280 i281 rec283 (!y300)
  else
  (F_bits_Writer_Bytes y133.2).bind fun y341 =>
  (F_bits_Least v10).bind fun y352 =>
  (F_bits_Reader_Left (T_bits_Reader.mk rv279 rv280)).bind fun y357 =>
  if (y357.1 != 0) = true then
  F_law01_BitsBack_j6 atv9 v10 y341 y352 y341.2.f_b y357.2.f_b y357.2.f_at true
  else
  (F_bits_Writer_Set y341.2 atv9 v10 y352).bind fun y364 =>
  F_law01_BitsBack_j6 atv9 v10 y341 y352 y364.2.f_b y357.2.f_b y357.2.f_at (y364.1 != 0)
def F_law01_BitsBack_L2 (lv1 : List Int) (sizes5 : List Int) (atv9 : Int) (v10 : Int) (y133 : (List Int) × T_bits_Writer) : Nat → (List Int) → Int → Int → Option Bool
  | 0 => fun _ _ _ => none
  | k + 1 => F_law01_BitsBack_l2 (F_law01_BitsBack_L2 lv1 sizes5 atv9 v10 y133 k) lv1 sizes5 atv9 v10 y133
def F_law01_BitsBack_l1 (rec100 : (List Int) → Int → Option Bool) (lv1 : List Int) (sizes5 : List Int) (atv9 : Int) (v10 : Int) (wv97 : List Int) (i98 : Int) : Option Bool :=
  if (decide (i98 < (lv1.length : Int))) = true then
  (gidx sizes5 i98).bind fun xv108 =>
  (gidx lv1 i98).bind fun xv112 =>
  (F_bits_Writer_Put (T_bits_Writer.mk wv97) xv112 xv108).bind fun y113 =>
  if (decide (xv108 ≤ 8)) = true then
  (gidx lv1 i98).bind fun xv122 =>
  (F_bits_Least xv122).bind fun y123 =>
  F_law01_BitsBack_j2 i98 rec100 y113 (!((y113.1 == 0) == (decide (y123 ≤ xv108))))
  else
  F_law01_BitsBack_j2 i98 rec100 y113 (!((y113.1 == 0) == false))
  else
  (F_bits_Writer_Bytes (T_bits_Writer.mk wv97)).bind fun y133 =>
  (F_bits_Read y133.1).bind fun y143 =>
  F_law01_BitsBack_L2 lv1 sizes5 atv9 v10 y133 fuel0 y143.f_b y143.f_at 0
def F_law01_BitsBack_L1 (lv1 : List Int) (sizes5 : List Int) (atv9 : Int) (v10 : Int) : Nat → (List Int) → Int → Option Bool
  | 0 => fun _ _ => none
  | k + 1 => F_law01_BitsBack_l1 (F_law01_BitsBack_L1 lv1 sizes5 atv9 v10 k) lv1 sizes5 atv9 v10
def F_law01_BitsBack_j1 (lv1 : List Int) (sizes5 : List Int) (atv9 : Int) (v10 : Int) (t13 : Bool) : Option Bool :=
  if t13 = true then
  (F_law01_works).bind fun y16 =>
  some y16
  else
  F_law01_BitsBack_L1 lv1 sizes5 atv9 v10 fuel0 ([]) 0
def F_law01_BitsBack (lv1 : List Int) (sizes5 : List Int) (atv9 : Int) (v10 : Int) : Option Bool :=
  if (decide (40 < (lv1.length : Int))) = true then
  F_law01_BitsBack_j1 lv1 sizes5 atv9 v10 true
  else
  F_law01_BitsBack_j1 lv1 sizes5 atv9 v10 (decide ((sizes5.length : Int) < (lv1.length : Int)))
def F_bits_Reader_Take (rv1 : T_bits_Reader) (nv8 : Int) : Option ((List Int) × Int × T_bits_Reader) :=
  if (decide (nv8 < 0)) = true then
  some ([], 2, rv1)
  else
  (F_bits_Reader_Left rv1).bind fun y16 =>
  if (decide (y16.1 < nv8)) = true then
  some ([], 10, y16.2)
  else
  (gcut y16.2.f_b y16.2.f_at (IntKind.i64.wrap (y16.2.f_at + nv8))).bind fun cut25 =>
  (F_slices_Clone_byte_byte cut25).bind fun y35 =>
  some (y35, 0, (T_bits_Reader.mk y16.2.f_b (IntKind.i64.wrap (y16.2.f_at + nv8))))
def F_bits_Reader_At (rv1 : T_bits_Reader) : Option (Int × T_bits_Reader) :=
  some (rv1.f_at, rv1)
def F_law01_BitsReads_j3 (i410 : Int) (rec412 : (List Int) → Int → Int → Int → Option Bool) (atv541 : Int) (rv561 : List Int) (rv562 : Int) (t563 : Bool) : Option Bool :=
  if t563 = true then
  some false
  else
  rec412 rv561 rv562 atv541 (IntKind.i64.wrap (i410 + 1))
def F_law01_BitsReads_j2 (b1 : List Int) (i410 : Int) (rec412 : (List Int) → Int → Int → Int → Option Bool) (rv539 : List Int) (rv540 : Int) (atv541 : Int) : Option Bool :=
  (F_bits_Reader_At (T_bits_Reader.mk rv539 rv540)).bind fun y543 =>
  if (y543.1 != atv541) = true then
  F_law01_BitsReads_j3 i410 rec412 atv541 y543.2.f_b y543.2.f_at true
  else
  (F_bits_Reader_Left y543.2).bind fun y550 =>
  F_law01_BitsReads_j3 i410 rec412 atv541 y550.2.f_b y550.2.f_at (y550.1 != (IntKind.i64.wrap ((b1.length : Int) - atv541)))
def F_law01_BitsReads_l3 (rec502 : (List Int) → Int → Option Bool) (b1 : List Int) (i410 : Int) (rec412 : (List Int) → Int → Int → Int → Option Bool) (y424 : (List Int) × Int × T_bits_Reader) (atv461 : Int) (lv499 : List Int) (kv500 : Int) : Option Bool :=
  if (decide (kv500 < (lv499.length : Int))) = true then
  (gidx lv499 kv500).bind fun xv509 =>
  (gidx lv499 kv500).bind fun xv512 =>
  rec502 (lv499.set (kv500 : Int).toNat (IntKind.u8.wrap (xv509 + 1))) (IntKind.i64.wrap (kv500 + 1))
  else
  F_law01_BitsReads_j2 b1 i410 rec412 y424.2.2.f_b y424.2.2.f_at atv461
def F_law01_BitsReads_L3 (b1 : List Int) (i410 : Int) (rec412 : (List Int) → Int → Int → Int → Option Bool) (y424 : (List Int) × Int × T_bits_Reader) (atv461 : Int) : Nat → (List Int) → Int → Option Bool
  | 0 => fun _ _ => none
  | k + 1 => F_law01_BitsReads_l3 (F_law01_BitsReads_L3 b1 i410 rec412 y424 atv461 k) b1 i410 rec412 y424 atv461
def F_law01_BitsReads_j4 (b1 : List Int) (i410 : Int) (rec412 : (List Int) → Int → Int → Int → Option Bool) (y424 : (List Int) × Int × T_bits_Reader) (atv461 : Int) : Option Bool :=
  F_law01_BitsReads_L3 b1 i410 rec412 y424 atv461 fuel0 y424.1 0
def F_law01_BitsReads_j5 (b1 : List Int) (atv409 : Int) (i410 : Int) (rec412 : (List Int) → Int → Int → Int → Option Bool) (y424 : (List Int) × Int × T_bits_Reader) (t438 : Bool) : Option Bool :=
  if t438 = true then
  some false
  else
  F_law01_BitsReads_j4 b1 i410 rec412 y424 atv409
def F_law01_BitsReads_j6 (b1 : List Int) (atv409 : Int) (i410 : Int) (rec412 : (List Int) → Int → Int → Int → Option Bool) (xv420 : Int) (y424 : (List Int) × Int × T_bits_Reader) (t456 : Bool) : Option Bool :=
  if t456 = true then
  some false
  else
  F_law01_BitsReads_j4 b1 i410 rec412 y424 (IntKind.i64.wrap (atv409 + (IntKind.i64.wrap ((-10) - xv420))))
def F_law01_BitsReads_j7 (b1 : List Int) (atv409 : Int) (i410 : Int) (rec412 : (List Int) → Int → Int → Int → Option Bool) (xv420 : Int) (y516 : Int × Int × T_bits_Reader) (t531 : Bool) : Option Bool :=
  if t531 = true then
  some false
  else
  if (y516.2.1 == 0) = true then
  F_law01_BitsReads_j2 b1 i410 rec412 y516.2.2.f_b y516.2.2.f_at (IntKind.i64.wrap (atv409 + xv420))
  else
  F_law01_BitsReads_j2 b1 i410 rec412 y516.2.2.f_b y516.2.2.f_at atv409
def F_law01_BitsReads_j8 (t581 : Bool) : Option Bool :=
  some t581
def F_law01_BitsReads_l2 (rec412 : (List Int) → Int → Int → Int → Option Bool) (b1 : List Int) (sizes5 : List Int) (rv407 : List Int) (rv408 : Int) (atv409 : Int) (i410 : Int) : Option Bool :=
  if (decide (i410 < (sizes5.length : Int))) = true then
  (gidx sizes5 i410).bind fun xv420 =>
  if (decide (xv420 < (-9))) = true then
  (F_bits_Reader_Take (T_bits_Reader.mk rv407 rv408) (IntKind.i64.wrap ((-10) - xv420))).bind fun y424 =>
  if (decide ((IntKind.i64.wrap ((b1.length : Int) - atv409)) < (IntKind.i64.wrap ((-10) - xv420)))) = true then
  if (y424.2.1 != 10) = true then
  F_law01_BitsReads_j5 b1 atv409 i410 rec412 y424 true
  else
  F_law01_BitsReads_j5 b1 atv409 i410 rec412 y424 (decide (0 < (y424.1.length : Int)))
  else
  if (y424.2.1 != 0) = true then
  F_law01_BitsReads_j6 b1 atv409 i410 rec412 xv420 y424 true
  else
  (gcut b1 atv409 (IntKind.i64.wrap (atv409 + (IntKind.i64.wrap ((-10) - xv420))))).bind fun cut442 =>
  (F_ref01_Same y424.1 cut442).bind fun y449 =>
  F_law01_BitsReads_j6 b1 atv409 i410 rec412 xv420 y424 (!y449)
  else
  (F_bits_Reader_Get (T_bits_Reader.mk rv407 rv408) xv420).bind fun y516 =>
  (F_ref01_Get b1 atv409 xv420).bind fun y524 =>
  if (y516.1 != y524.1) = true then
  F_law01_BitsReads_j7 b1 atv409 i410 rec412 xv420 y516 true
  else
  F_law01_BitsReads_j7 b1 atv409 i410 rec412 xv420 y516 (y516.2.1 != y524.2)
  else
  (F_bits_Reader_Take (T_bits_Reader.mk rv407 rv408) (-1)).bind fun y567 =>
  if (y567.2.1 == 2) = true then
  (F_law01_works).bind fun y577 =>
  F_law01_BitsReads_j8 y577
  else
  F_law01_BitsReads_j8 false
def F_law01_BitsReads_L2 (b1 : List Int) (sizes5 : List Int) : Nat → (List Int) → Int → Int → Int → Option Bool
  | 0 => fun _ _ _ _ => none
  | k + 1 => F_law01_BitsReads_l2 (F_law01_BitsReads_L2 b1 sizes5 k) b1 sizes5
def F_law01_BitsReads_l1 (rec75 : (List Int) → Int → Option Bool) (b1 : List Int) (sizes5 : List Int) (y27 : T_bits_Reader) (own70 : List Int) (kv73 : Int) : Option Bool :=
  if (decide (kv73 < (own70.length : Int))) = true then
  (gidx own70 kv73).bind fun xv82 =>
  (gidx own70 kv73).bind fun xv85 =>
  rec75 (own70.set (kv73 : Int).toNat (IntKind.u8.wrap (xv82 + 1))) (IntKind.i64.wrap (kv73 + 1))
  else
  F_law01_BitsReads_L2 b1 sizes5 fuel0 y27.f_b y27.f_at 0 0
def F_law01_BitsReads_L1 (b1 : List Int) (sizes5 : List Int) (y27 : T_bits_Reader) : Nat → (List Int) → Int → Option Bool
  | 0 => fun _ _ => none
  | k + 1 => F_law01_BitsReads_l1 (F_law01_BitsReads_L1 b1 sizes5 y27 k) b1 sizes5 y27
def F_law01_BitsReads_j1 (b1 : List Int) (sizes5 : List Int) (t11 : Bool) : Option Bool :=
  if t11 = true then
  (F_law01_works).bind fun y14 =>
  some y14
  else
  (F_ref01_Join [] b1).bind fun y19 =>
  (F_bits_Read y19).bind fun y27 =>
  F_law01_BitsReads_L1 b1 sizes5 y27 fuel0 y19 0
def F_law01_BitsReads (b1 : List Int) (sizes5 : List Int) : Option Bool :=
  if (decide (300 < (b1.length : Int))) = true then
  F_law01_BitsReads_j1 b1 sizes5 true
  else
  F_law01_BitsReads_j1 b1 sizes5 (decide (40 < (sizes5.length : Int)))
def F_bits_Reader_Get_N (size1 : Int) : Option (Int × Int) :=
  some (0, 1)
def F_bits_Reader_Take_N (nv1 : Int) : Option ((List Int) × Int) :=
  some ([], 1)
def F_bits_Writer_Put_N (v1 : Int) (size2 : Int) : Option Int :=
  some 1
def F_bits_Writer_Raw_N (b1 : List Int) : Option Int :=
  some 1
def F_bits_Writer_Set_N (atv1 : Int) (v2 : Int) (size3 : Int) : Option Int :=
  some 1
def F_bits_Writer_Bytes_N : Option ((List Int)) :=
  some ([])
def F_bits_Writer_Len_N : Option Int :=
  some 0
def F_bits_Reader_Left_N : Option Int :=
  some 0
def F_bits_Reader_At_N : Option Int :=
  some 0
def F_law01_BitsNone_j1 (t59 : Bool) : Option Bool :=
  some t59
def F_law01_BitsNone (av1 : T_law01_Act) : Option Bool :=
  (F_bits_Reader_Get_N av1.f_Size).bind fun y12 =>
  (F_bits_Reader_Take_N av1.f_At).bind fun y17 =>
  (F_bits_Writer_Put_N av1.f_V av1.f_Size).bind fun y24 =>
  if (y24 == 1) = true then
  (F_bits_Writer_Raw_N av1.f_B).bind fun y28 =>
  if (y28 == 1) = true then
  (F_bits_Writer_Set_N av1.f_At av1.f_V av1.f_Size).bind fun y32 =>
  if (y32 == 1) = true then
  (F_bits_Writer_Bytes_N).bind fun y36 =>
  if ((y36.length : Int) == 0) = true then
  (F_bits_Writer_Len_N).bind fun y43 =>
  if (y43 == 0) = true then
  if (y12.2 == 1) = true then
  if (y17.2 == 1) = true then
  (F_bits_Reader_Left_N).bind fun y47 =>
  if (y47 == 0) = true then
  (F_bits_Reader_At_N).bind fun y51 =>
  if (y51 == 0) = true then
  (F_law01_works).bind fun y55 =>
  F_law01_BitsNone_j1 y55
  else
  F_law01_BitsNone_j1 false
  else
  F_law01_BitsNone_j1 false
  else
  F_law01_BitsNone_j1 false
  else
  F_law01_BitsNone_j1 false
  else
  F_law01_BitsNone_j1 false
  else
  F_law01_BitsNone_j1 false
  else
  F_law01_BitsNone_j1 false
  else
  F_law01_BitsNone_j1 false
  else
  F_law01_BitsNone_j1 false
end Go.Proofs.Ytpbkjellpboefaa
