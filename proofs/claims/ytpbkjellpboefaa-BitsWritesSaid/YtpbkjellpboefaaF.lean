/- Plain functions, printed by a program of this claim: what each Go function computes, where it returns. -/
import Derived.Test.YtpbkjellpboefaaOxS
set_option linter.unusedVariables false
namespace Go.Proofs.Ytpbkjellpboefaa
open Go Go.Ox
structure T_bits_Writer where
  f_b : List Int
structure T_law01_Act where
  f_Do : Int
  f_At : Int
  f_V : Int
  f_Size : Int
  f_B : List Int
structure T_bits_Reader where
  f_b : List Int
  f_at : Int

def F_bits_right_j1 (t2 : Bool) : Option Bool :=
  some t2
def F_bits_right (size1 : Int) : Option Bool :=
  if (decide (1 ≤ size1)) = true then
  F_bits_right_j1 (decide (size1 ≤ 8))
  else
  F_bits_right_j1 false
def F_bits_Least_l1 (rec7 : Int → Int → Option Int) (v4 : Int) (nv5 : Int) : Option Int :=
  if (decide (0 < v4)) = true then
  rec7 (Ox.shr .u64 v4 8) (IntKind.i64.wrap (nv5 + 1))
  else
  some nv5
def F_bits_Least_L1 : Nat → Int → Int → Option Int
  | 0 => fun _ _ => none
  | k + 1 => F_bits_Least_l1 (F_bits_Least_L1 k)
def F_bits_Least (v1 : Int) : Option Int :=
  F_bits_Least_L1 fuel0 (Ox.shr .u64 v1 8) 1
def F_bits_fits_j1 (t11 : Bool) : Option Bool :=
  some t11
def F_bits_fits (v1 : Int) (size2 : Int) : Option Bool :=
  (F_bits_right size2).bind fun y3 =>
  if y3 = true then
  (F_bits_Least v1).bind fun y7 =>
  F_bits_fits_j1 (decide (y7 ≤ size2))
  else
  F_bits_fits_j1 false
def F_bits_of_l1 (rec30 : (List Int) → Int → Option ((List Int))) (v1 : Int) (size2 : Int) (b27 : List Int) (t28 : Int) : Option ((List Int)) :=
  if (decide (t28 < size2)) = true then
  if (decide (¬ (IntKind.i64.wrap (8 * t28)) < 0)) = true then
  (gidx b27 (IntKind.i64.wrap ((IntKind.i64.wrap (size2 - 1)) - t28))).bind fun xv35 =>
  rec30 (b27.set ((IntKind.i64.wrap ((IntKind.i64.wrap (size2 - 1)) - t28))).toNat (IntKind.u8.wrap (Ox.shr .u64 v1 (IntKind.i64.wrap (8 * t28))))) (IntKind.i64.wrap (t28 + 1))
  else none
  else
  some b27
def F_bits_of_L1 (v1 : Int) (size2 : Int) : Nat → (List Int) → Int → Option ((List Int))
  | 0 => fun _ _ => none
  | k + 1 => F_bits_of_l1 (F_bits_of_L1 v1 size2 k) v1 size2
def F_bits_of (v1 : Int) (size2 : Int) : Option ((List Int)) :=
  if (decide (0 ≤ size2 ∧ size2 ≤ lim)) = true then
  F_bits_of_L1 v1 size2 fuel0 (List.replicate (Int.toNat size2) 0) 0
  else none
def F_bits_Writer_Raw (wv1 : T_bits_Writer) (b7 : List Int) : Option (Int × T_bits_Writer) :=
  if (decide (wv1.f_b.length + b7.length ≤ lim)) = true then
  some (0, (T_bits_Writer.mk (wv1.f_b ++ b7)))
  else none
def F_bits_Writer_Put (wv1 : T_bits_Writer) (v7 : Int) (size8 : Int) : Option (Int × T_bits_Writer) :=
  (F_bits_fits v7 size8).bind fun y10 =>
  if (!y10) = true then
  some (2, wv1)
  else
  (F_bits_of v7 size8).bind fun y14 =>
  (F_bits_Writer_Raw wv1 y14).bind fun y21 =>
  some (y21.1, y21.2)
def F_bits_value_l1 (rec16 : Int → Int → Option Int) (b1 : List Int) (v13 : Int) (t14 : Int) : Option Int :=
  if (decide (t14 < (b1.length : Int))) = true then
  (gidx b1 t14).bind fun xv20 =>
  rec16 (bits .or .u64 (Ox.shl .u64 v13 8) (IntKind.u64.wrap xv20)) (IntKind.i64.wrap (t14 + 1))
  else
  some v13
def F_bits_value_L1 (b1 : List Int) : Nat → Int → Int → Option Int
  | 0 => fun _ _ => none
  | k + 1 => F_bits_value_l1 (F_bits_value_L1 b1 k) b1
def F_bits_value (b1 : List Int) : Option Int :=
  F_bits_value_L1 b1 fuel0 0 0
def F_bits_Get_j2 (b1 : List Int) (atv5 : Int) (size6 : Int) (t13 : Bool) : Option (Int × Int) :=
  if t13 = true then
  some (0, 10)
  else
  (gcut b1 atv5 (IntKind.i64.wrap (atv5 + size6))).bind fun cut15 =>
  (F_bits_value cut15).bind fun y22 =>
  some (y22, 0)
def F_bits_Get_j1 (b1 : List Int) (atv5 : Int) (size6 : Int) (t11 : Bool) : Option (Int × Int) :=
  if t11 = true then
  some (0, 2)
  else
  if (decide ((b1.length : Int) < atv5)) = true then
  F_bits_Get_j2 b1 atv5 size6 true
  else
  F_bits_Get_j2 b1 atv5 size6 (decide ((IntKind.i64.wrap ((b1.length : Int) - atv5)) < size6))
def F_bits_Get (b1 : List Int) (atv5 : Int) (size6 : Int) : Option (Int × Int) :=
  (F_bits_right size6).bind fun y7 =>
  if (!y7) = true then
  F_bits_Get_j1 b1 atv5 size6 true
  else
  F_bits_Get_j1 b1 atv5 size6 (decide (atv5 < 0))
def F_slices_Clone_byte_byte (s1 : List Int) : Option ((List Int)) :=
  if (decide (([] : List Int).length + s1.length ≤ lim)) = true then
  some (([] : List Int) ++ s1)
  else none
def F_bits_Writer_Bytes (wv1 : T_bits_Writer) : Option ((List Int) × T_bits_Writer) :=
  (F_slices_Clone_byte_byte wv1.f_b).bind fun y8 =>
  some (y8, wv1)
def F_ref01_Same (av1 : List Int) (b5 : List Int) : Option Bool :=
  some ((strOfNums av1).toList == (strOfNums b5).toList)
def F_law01_works_j1 (t55 : Bool) : Option Bool :=
  some t55
def F_law01_works : Option Bool :=
  (F_bits_Writer_Put (T_bits_Writer.mk ([] : List Int)) 258 3).bind fun y5 =>
  (F_bits_Writer_Put y5.2 256 1).bind fun y12 =>
  (F_bits_Get ([1, 2, 3]) 1 2).bind fun y22 =>
  if (y5.1 == 0) = true then
  if (y12.1 == 2) = true then
  (F_bits_Writer_Bytes y12.2).bind fun y26 =>
  (F_ref01_Same y26.1 ([0, 1, 2])).bind fun y39 =>
  if y39 = true then
  if (y22.1 == 515) = true then
  if (y22.2 == 0) = true then
  (F_bits_Least 0).bind fun y43 =>
  if (y43 == 1) = true then
  (F_bits_Least 255).bind fun y47 =>
  if (y47 == 1) = true then
  (F_bits_Least 256).bind fun y51 =>
  F_law01_works_j1 (y51 == 2)
  else
  F_law01_works_j1 false
  else
  F_law01_works_j1 false
  else
  F_law01_works_j1 false
  else
  F_law01_works_j1 false
  else
  F_law01_works_j1 false
  else
  F_law01_works_j1 false
  else
  F_law01_works_j1 false
def F_ref01_Get_j2 (b1 : List Int) (atv5 : Int) (v21 : Int) (i22 : Int) (rec24 : Int → Int → Option (Int × Int)) (t26 : Bool) : Option (Int × Int) :=
  if t26 = true then
  some (0, 10)
  else
  (gidx b1 (IntKind.i64.wrap (atv5 + i22))).bind fun xv30 =>
  rec24 (IntKind.u64.wrap ((IntKind.u64.wrap (v21 * 256)) + (IntKind.u64.wrap xv30))) (IntKind.i64.wrap (i22 + 1))
def F_ref01_Get_l1 (rec24 : Int → Int → Option (Int × Int)) (b1 : List Int) (atv5 : Int) (size6 : Int) (v21 : Int) (i22 : Int) : Option (Int × Int) :=
  if (decide (i22 < size6)) = true then
  if (decide ((b1.length : Int) < atv5)) = true then
  F_ref01_Get_j2 b1 atv5 v21 i22 rec24 true
  else
  F_ref01_Get_j2 b1 atv5 v21 i22 rec24 (decide ((b1.length : Int) ≤ (IntKind.i64.wrap (atv5 + i22))))
  else
  some (v21, 0)
def F_ref01_Get_L1 (b1 : List Int) (atv5 : Int) (size6 : Int) : Nat → Int → Int → Option (Int × Int)
  | 0 => fun _ _ => none
  | k + 1 => F_ref01_Get_l1 (F_ref01_Get_L1 b1 atv5 size6 k) b1 atv5 size6
def F_ref01_Get_j1 (b1 : List Int) (atv5 : Int) (size6 : Int) (t7 : Bool) : Option (Int × Int) :=
  if t7 = true then
  some (0, 2)
  else
  F_ref01_Get_L1 b1 atv5 size6 fuel0 0 0
def F_ref01_Get (b1 : List Int) (atv5 : Int) (size6 : Int) : Option (Int × Int) :=
  if (decide (size6 < 1)) = true then
  F_ref01_Get_j1 b1 atv5 size6 true
  else
  if (decide (8 < size6)) = true then
  F_ref01_Get_j1 b1 atv5 size6 true
  else
  F_ref01_Get_j1 b1 atv5 size6 (decide (atv5 < 0))
def F_ref01_Power_l1 (rec7 : Int → Int → Option Int) (size1 : Int) (nv4 : Int) (i5 : Int) : Option Int :=
  if (decide (i5 < size1)) = true then
  rec7 (IntKind.u64.wrap ((IntKind.u64.wrap (nv4 * 256)) + 255)) (IntKind.i64.wrap (i5 + 1))
  else
  some nv4
def F_ref01_Power_L1 (size1 : Int) : Nat → Int → Int → Option Int
  | 0 => fun _ _ => none
  | k + 1 => F_ref01_Power_l1 (F_ref01_Power_L1 size1 k) size1
def F_ref01_Power (size1 : Int) : Option Int :=
  F_ref01_Power_L1 size1 fuel0 0 0
def F_ref01_Fits_j1 (t7 : Bool) : Option Bool :=
  some t7
def F_ref01_Fits (v1 : Int) (size2 : Int) : Option Bool :=
  if (decide (1 ≤ size2)) = true then
  if (decide (size2 ≤ 8)) = true then
  (F_ref01_Power size2).bind fun y3 =>
  F_ref01_Fits_j1 (decide (v1 ≤ y3))
  else
  F_ref01_Fits_j1 false
  else
  F_ref01_Fits_j1 false
def F_ref01_Least_l1 (rec13 : Int → Option Int) (v1 : Int) (nv11 : Int) : Option Int :=
  if (decide (nv11 < 8)) = true then
  (F_ref01_Fits v1 nv11).bind fun y15 =>
  if y15 = true then
  some nv11
  else
  rec13 (IntKind.i64.wrap (nv11 + 1))
  else
  some 8
def F_ref01_Least_L1 (v1 : Int) : Nat → Int → Option Int
  | 0 => fun _ => none
  | k + 1 => F_ref01_Least_l1 (F_ref01_Least_L1 v1 k) v1
def F_ref01_Least (v1 : Int) : Option Int :=
  F_ref01_Least_L1 v1 fuel0 1
def F_law01_BitsGets_j1 (t32 : Bool) : Option Bool :=
  some t32
def F_law01_BitsGets (b1 : List Int) (atv5 : Int) (size6 : Int) (v7 : Int) : Option Bool :=
  if (decide (300 < (b1.length : Int))) = true then
  (F_law01_works).bind fun y8 =>
  some y8
  else
  (F_bits_Get b1 atv5 size6).bind fun y12 =>
  (F_ref01_Get b1 atv5 size6).bind fun y16 =>
  if (y12.1 == y16.1) = true then
  if (y12.2 == y16.2) = true then
  (F_bits_Least v7).bind fun y20 =>
  (F_ref01_Least v7).bind fun y24 =>
  if (y20 == y24) = true then
  (F_law01_works).bind fun y28 =>
  F_law01_BitsGets_j1 y28
  else
  F_law01_BitsGets_j1 false
  else
  F_law01_BitsGets_j1 false
  else
  F_law01_BitsGets_j1 false
def F_law01_few_j1 (lv1 : List T_law01_Act) (most5 : Int) (i31 : Int) (rec33 : Int → Option Bool) (t35 : Bool) : Option Bool :=
  if t35 = true then
  (gidx lv1 i31).bind fun xv39 =>
  if (decide (60 < (xv39.f_B.length : Int))) = true then
  some false
  else
  rec33 (IntKind.i64.wrap (i31 + 1))
  else
  some (decide ((lv1.length : Int) ≤ most5))
def F_law01_few_l1 (rec33 : Int → Option Bool) (lv1 : List T_law01_Act) (most5 : Int) (i31 : Int) : Option Bool :=
  if (decide (i31 < (lv1.length : Int))) = true then
  F_law01_few_j1 lv1 most5 i31 rec33 (decide (i31 < 100))
  else
  F_law01_few_j1 lv1 most5 i31 rec33 false
def F_law01_few_L1 (lv1 : List T_law01_Act) (most5 : Int) : Nat → Int → Option Bool
  | 0 => fun _ => none
  | k + 1 => F_law01_few_l1 (F_law01_few_L1 lv1 most5 k) lv1 most5
def F_law01_few (lv1 : List T_law01_Act) (most5 : Int) : Option Bool :=
  F_law01_few_L1 lv1 most5 fuel0 0
def F_kit_Pick (i1 : Int) (nv2 : Int) : Option Int :=
  if (decide (nv2 ≤ 0)) = true then
  some 0
  else
  if (decide (nv2 ≠ 0)) = true then
  if (decide (nv2 ≠ 0)) = true then
  some (Int.tmod (IntKind.i64.wrap ((Int.tmod i1 nv2) + nv2)) nv2)
  else none
  else none
def F_ref01_Put_B (recF : Int → Int → Option ((List Int))) (v1 : Int) (size2 : Int) : Option ((List Int)) :=
  if (size2 == 0) = true then
  some ([])
  else
  (recF (IntKind.u64.wrap (Int.tdiv v1 256)) (IntKind.i64.wrap (size2 - 1))).bind fun y3 =>
  if (decide (y3.length + ([(IntKind.u8.wrap (Int.tmod v1 256))]).length ≤ lim)) = true then
  some (y3 ++ [(IntKind.u8.wrap (Int.tmod v1 256))])
  else none
def F_ref01_Put_R : Nat → Int → Int → Option ((List Int))
  | 0 => fun _ _ => none
  | k + 1 => F_ref01_Put_B (F_ref01_Put_R k)
def F_ref01_Put (v1 : Int) (size2 : Int) : Option ((List Int)) := F_ref01_Put_R fuel0 v1 size2
def F_ref01_Join (av1 : List Int) (b5 : List Int) : Option ((List Int)) :=
  if (decide (av1.length ≤ lim)) = true then
  if (decide (av1.length + b5.length ≤ lim)) = true then
  some (av1 ++ b5)
  else none
  else none
def F_bits_Writer_Set_j1 (wv1 : T_bits_Writer) (atv7 : Int) (v8 : Int) (size9 : Int) (t17 : Bool) : Option (Int × T_bits_Writer) :=
  if t17 = true then
  some (2, wv1)
  else
  (gcut wv1.f_b atv7 ((wv1.f_b).length)).bind fun cut19 =>
  (F_bits_of v8 size9).bind fun y26 =>
  some (0, (T_bits_Writer.mk (cpR (Int.toNat atv7) (Nat.min y26.length cut19.length) wv1.f_b y26)))
def F_bits_Writer_Set (wv1 : T_bits_Writer) (atv7 : Int) (v8 : Int) (size9 : Int) : Option (Int × T_bits_Writer) :=
  (F_bits_fits v8 size9).bind fun y11 =>
  if (!y11) = true then
  F_bits_Writer_Set_j1 wv1 atv7 v8 size9 true
  else
  if (decide (atv7 < 0)) = true then
  F_bits_Writer_Set_j1 wv1 atv7 v8 size9 true
  else
  if (decide ((wv1.f_b.length : Int) < atv7)) = true then
  F_bits_Writer_Set_j1 wv1 atv7 v8 size9 true
  else
  F_bits_Writer_Set_j1 wv1 atv7 v8 size9 (decide ((IntKind.i64.wrap ((wv1.f_b.length : Int) - atv7)) < size9))
def F_bits_Writer_Len (wv1 : T_bits_Writer) : Option (Int × T_bits_Writer) :=
  some ((wv1.f_b.length : Int), wv1)
def F_law01_BitsWrites_l2 (rec785 : (List Int) → Int → Option Bool) (i539 : Int) (rec541 : (List Int) → (List Int) → Int → Option Bool) (want720 : List Int) (wv747 : List Int) (b782 : List Int) (kv783 : Int) : Option Bool :=
  if (decide (kv783 < (b782.length : Int))) = true then
  (gidx b782 kv783).bind fun xv789 =>
  (gidx b782 kv783).bind fun xv792 =>
  rec785 (b782.set (kv783).toNat (IntKind.u8.wrap (xv789 + 1))) (IntKind.i64.wrap (kv783 + 1))
  else
  rec541 wv747 want720 (IntKind.i64.wrap (i539 + 1))
def F_law01_BitsWrites_L2 (i539 : Int) (rec541 : (List Int) → (List Int) → Int → Option Bool) (want720 : List Int) (wv747 : List Int) : Nat → (List Int) → Int → Option Bool
  | 0 => fun _ _ => none
  | k + 1 => F_law01_BitsWrites_l2 (F_law01_BitsWrites_L2 i539 rec541 want720 wv747 k) i539 rec541 want720 wv747
def F_law01_BitsWrites_j2 (i539 : Int) (rec541 : (List Int) → (List Int) → Int → Option Bool) (want720 : List Int) (y722 : (List Int) × T_bits_Writer) (wv747 : List Int) (t750 : Bool) : Option Bool :=
  if t750 = true then
  some false
  else
  F_law01_BitsWrites_L2 i539 rec541 want720 wv747 fuel0 y722.1 0
def F_law01_BitsWrites_j1 (i539 : Int) (rec541 : (List Int) → (List Int) → Int → Option Bool) (wv716 : List Int) (want720 : List Int) : Option Bool :=
  (F_bits_Writer_Bytes (T_bits_Writer.mk wv716)).bind fun y722 =>
  (F_ref01_Same y722.1 want720).bind fun y732 =>
  if (!y732) = true then
  F_law01_BitsWrites_j2 i539 rec541 want720 y722 y722.2.f_b true
  else
  (F_bits_Writer_Len y722.2).bind fun y736 =>
  F_law01_BitsWrites_j2 i539 rec541 want720 y722 y736.2.f_b (y736.1 != (want720.length : Int))
def F_law01_BitsWrites_j3 (want538 : List Int) (i539 : Int) (rec541 : (List Int) → (List Int) → Int → Option Bool) (xv545 : T_law01_Act) (y557 : Bool) (y565 : Int × T_bits_Writer) (t576 : Bool) : Option Bool :=
  if t576 = true then
  some false
  else
  if y557 = true then
  (F_ref01_Put xv545.f_V xv545.f_Size).bind fun y578 =>
  (F_ref01_Join want538 y578).bind fun y585 =>
  F_law01_BitsWrites_j1 i539 rec541 y565.2.f_b y585
  else
  F_law01_BitsWrites_j1 i539 rec541 y565.2.f_b want538
def F_law01_BitsWrites_l3 (rec641 : (List Int) → Int → Option Bool) (want538 : List Int) (i539 : Int) (rec541 : (List Int) → (List Int) → Int → Option Bool) (xv545 : T_law01_Act) (y599 : Int × T_bits_Writer) (own638 : List Int) (kv639 : Int) : Option Bool :=
  if (decide (kv639 < (own638.length : Int))) = true then
  (gidx own638 kv639).bind fun xv645 =>
  (gidx own638 kv639).bind fun xv648 =>
  rec641 (own638.set (kv639).toNat (IntKind.u8.wrap (xv645 + 1))) (IntKind.i64.wrap (kv639 + 1))
  else
  (F_ref01_Join want538 xv545.f_B).bind fun y651 =>
  F_law01_BitsWrites_j1 i539 rec541 y599.2.f_b y651
def F_law01_BitsWrites_L3 (want538 : List Int) (i539 : Int) (rec541 : (List Int) → (List Int) → Int → Option Bool) (xv545 : T_law01_Act) (y599 : Int × T_bits_Writer) : Nat → (List Int) → Int → Option Bool
  | 0 => fun _ _ => none
  | k + 1 => F_law01_BitsWrites_l3 (F_law01_BitsWrites_L3 want538 i539 rec541 xv545 y599 k) want538 i539 rec541 xv545 y599
def F_law01_BitsWrites_j5 (want538 : List Int) (i539 : Int) (rec541 : (List Int) → (List Int) → Int → Option Bool) (xv545 : T_law01_Act) (y658 : Int × T_bits_Writer) (may669 : Bool) (t675 : Bool) : Option Bool :=
  if t675 = true then
  some false
  else
  if may669 = true then
  (gcut want538 0 xv545.f_At).bind fun cut677 =>
  (gcut want538 (IntKind.i64.wrap (xv545.f_At + xv545.f_Size)) ((want538).length)).bind fun cut684 =>
  (F_ref01_Put xv545.f_V xv545.f_Size).bind fun y691 =>
  (F_ref01_Join cut677 y691).bind fun y698 =>
  (F_ref01_Join y698 cut684).bind fun y705 =>
  F_law01_BitsWrites_j1 i539 rec541 y658.2.f_b y705
  else
  F_law01_BitsWrites_j1 i539 rec541 y658.2.f_b want538
def F_law01_BitsWrites_j4 (want538 : List Int) (i539 : Int) (rec541 : (List Int) → (List Int) → Int → Option Bool) (xv545 : T_law01_Act) (y658 : Int × T_bits_Writer) (may669 : Bool) : Option Bool :=
  if (!(may669 == (y658.1 == 0))) = true then
  F_law01_BitsWrites_j5 want538 i539 rec541 xv545 y658 may669 true
  else
  if (!may669) = true then
  F_law01_BitsWrites_j5 want538 i539 rec541 xv545 y658 may669 (y658.1 != 2)
  else
  F_law01_BitsWrites_j5 want538 i539 rec541 xv545 y658 may669 false
def F_law01_BitsWrites_l1 (rec541 : (List Int) → (List Int) → Int → Option Bool) (lv1 : List T_law01_Act) (wv534 : List Int) (want538 : List Int) (i539 : Int) : Option Bool :=
  if (decide (i539 < (lv1.length : Int))) = true then
  (gidx lv1 i539).bind fun xv545 =>
  (F_ref01_Fits xv545.f_V xv545.f_Size).bind fun y557 =>
  (F_kit_Pick xv545.f_Do 4).bind fun y561 =>
  if (y561 == 0) = true then
  (F_bits_Writer_Put (T_bits_Writer.mk wv534) xv545.f_V xv545.f_Size).bind fun y565 =>
  if (!((y565.1 == 0) == y557)) = true then
  F_law01_BitsWrites_j3 want538 i539 rec541 xv545 y557 y565 true
  else
  if (!y557) = true then
  F_law01_BitsWrites_j3 want538 i539 rec541 xv545 y557 y565 (y565.1 != 2)
  else
  F_law01_BitsWrites_j3 want538 i539 rec541 xv545 y557 y565 false
  else
  if (y561 == 1) = true then
  (F_ref01_Join [] xv545.f_B).bind fun y592 =>
  (F_bits_Writer_Raw (T_bits_Writer.mk wv534) y592).bind fun y599 =>
  if (y599.1 != 0) = true then
  some false
  else
  F_law01_BitsWrites_L3 want538 i539 rec541 xv545 y599 fuel0 y592 0
  else
  if (y561 == 2) = true then
  (F_bits_Writer_Set (T_bits_Writer.mk wv534) xv545.f_At xv545.f_V xv545.f_Size).bind fun y658 =>
  if y557 = true then
  if (decide (0 ≤ xv545.f_At)) = true then
  if (decide (xv545.f_At ≤ (want538.length : Int))) = true then
  F_law01_BitsWrites_j4 want538 i539 rec541 xv545 y658 (decide (xv545.f_Size ≤ (IntKind.i64.wrap ((want538.length : Int) - xv545.f_At))))
  else
  F_law01_BitsWrites_j4 want538 i539 rec541 xv545 y658 false
  else
  F_law01_BitsWrites_j4 want538 i539 rec541 xv545 y658 false
  else
  F_law01_BitsWrites_j4 want538 i539 rec541 xv545 y658 false
  else
  F_law01_BitsWrites_j1 i539 rec541 wv534 want538
  else
  (F_law01_works).bind fun y795 =>
  some y795
def F_law01_BitsWrites_L1 (lv1 : List T_law01_Act) : Nat → (List Int) → (List Int) → Int → Option Bool
  | 0 => fun _ _ _ => none
  | k + 1 => F_law01_BitsWrites_l1 (F_law01_BitsWrites_L1 lv1 k) lv1
def F_law01_BitsWrites (lv1 : List T_law01_Act) : Option Bool :=
  (F_law01_few lv1 40).bind fun y5 =>
  if (!y5) = true then
  (F_law01_works).bind fun y9 =>
  some y9
  else
  F_law01_BitsWrites_L1 lv1 fuel0 ([]) ([]) 0
def F_bits_Read (b1 : List Int) : Option T_bits_Reader :=
  (F_slices_Clone_byte_byte b1).bind fun y5 =>
  some (T_bits_Reader.mk y5 0)
def F_bits_Reader_Get_j1 (rv1 : T_bits_Reader) (y9 : Int × Int) (p16 : Int) : Option (Int × Int × T_bits_Reader) :=
  some (y9.1, y9.2, (T_bits_Reader.mk rv1.f_b p16))
def F_bits_Reader_Get (rv1 : T_bits_Reader) (size7 : Int) : Option (Int × Int × T_bits_Reader) :=
  (F_bits_Get rv1.f_b rv1.f_at size7).bind fun y9 =>
  if (y9.2 == 0) = true then
  F_bits_Reader_Get_j1 rv1 y9 (IntKind.i64.wrap (rv1.f_at + size7))
  else
  F_bits_Reader_Get_j1 rv1 y9 rv1.f_at
def F_bits_Reader_Left (rv1 : T_bits_Reader) : Option (Int × T_bits_Reader) :=
  some ((IntKind.i64.wrap ((rv1.f_b.length : Int) - rv1.f_at)), rv1)
def F_law01_BitsBack_j2 (i80 : Int) (rec82 : (List Int) → Int → Option Bool) (y90 : Int × T_bits_Writer) (t106 : Bool) : Option Bool :=
  if t106 = true then
  some false
  else
  rec82 y90.2.f_b (IntKind.i64.wrap (i80 + 1))
def F_law01_BitsBack_j3 (i244 : Int) (rec246 : (List Int) → Int → Int → Option Bool) (rv295 : List Int) (rv296 : Int) : Option Bool :=
  rec246 rv295 rv296 (IntKind.i64.wrap (i244 + 1))
def F_law01_BitsBack_j5 (i244 : Int) (rec246 : (List Int) → Int → Int → Option Bool) (y273 : Int × Int × T_bits_Reader) (t287 : Bool) : Option Bool :=
  if t287 = true then
  some false
  else
  F_law01_BitsBack_j3 i244 rec246 y273.2.2.f_b y273.2.2.f_at
def F_law01_BitsBack_j4 (lv1 : List Int) (sizes5 : List Int) (rv242 : List Int) (rv243 : Int) (i244 : Int) (rec246 : (List Int) → Int → Int → Option Bool) (t268 : Bool) : Option Bool :=
  if t268 = true then
  F_law01_BitsBack_j3 i244 rec246 rv242 rv243
  else
  (gidx sizes5 i244).bind fun xv272 =>
  (F_bits_Reader_Get (T_bits_Reader.mk rv242 rv243) xv272).bind fun y273 =>
  if (y273.2.1 != 0) = true then
  F_law01_BitsBack_j5 i244 rec246 y273 true
  else
  (gidx lv1 i244).bind fun xv282 =>
  F_law01_BitsBack_j5 i244 rec246 y273 (y273.1 != xv282)
def F_law01_BitsBack_j7 (t365 : Bool) : Option Bool :=
  some t365
def F_law01_BitsBack_j9 (i422 : Int) (rec424 : Int → Option Bool) (t440 : Bool) : Option Bool :=
  if t440 = true then
  some false
  else
  rec424 (IntKind.i64.wrap (i422 + 1))
def F_law01_BitsBack_l3 (rec424 : Int → Option Bool) (atv9 : Int) (y298 : (List Int) × T_bits_Writer) (y308 : Int) (y367 : (List Int) × T_bits_Writer) (i422 : Int) : Option Bool :=
  if (decide (i422 < (y367.1.length : Int))) = true then
  if (decide (i422 < atv9)) = true then
  (gidx y367.1 i422).bind fun xv428 =>
  (gidx y298.1 i422).bind fun xv431 =>
  F_law01_BitsBack_j9 i422 rec424 (xv428 != xv431)
  else
  if (decide ((IntKind.i64.wrap (atv9 + y308)) ≤ i422)) = true then
  (gidx y367.1 i422).bind fun xv434 =>
  (gidx y298.1 i422).bind fun xv437 =>
  F_law01_BitsBack_j9 i422 rec424 (xv434 != xv437)
  else
  F_law01_BitsBack_j9 i422 rec424 false
  else
  (F_law01_works).bind fun y442 =>
  some y442
def F_law01_BitsBack_L3 (atv9 : Int) (y298 : (List Int) × T_bits_Writer) (y308 : Int) (y367 : (List Int) × T_bits_Writer) : Nat → Int → Option Bool
  | 0 => fun _ => none
  | k + 1 => F_law01_BitsBack_l3 (F_law01_BitsBack_L3 atv9 y298 y308 y367 k) atv9 y298 y308 y367
def F_law01_BitsBack_j8 (atv9 : Int) (y298 : (List Int) × T_bits_Writer) (y308 : Int) (y367 : (List Int) × T_bits_Writer) (t383 : Bool) : Option Bool :=
  if t383 = true then
  some false
  else
  F_law01_BitsBack_L3 atv9 y298 y308 y367 fuel0 0
def F_law01_BitsBack_j6 (atv9 : Int) (v10 : Int) (y298 : (List Int) × T_bits_Writer) (y308 : Int) (wv330 : List Int) (rv335 : List Int) (rv336 : Int) (t338 : Bool) : Option Bool :=
  if t338 = true then
  (F_bits_Reader_Left (T_bits_Reader.mk rv335 rv336)).bind fun y340 =>
  if (y340.1 == 0) = true then
  (F_bits_Writer_Bytes (T_bits_Writer.mk wv330)).bind fun y347 =>
  (F_ref01_Same y347.1 y298.1).bind fun y357 =>
  if y357 = true then
  (F_law01_works).bind fun y361 =>
  F_law01_BitsBack_j7 y361
  else
  F_law01_BitsBack_j7 false
  else
  F_law01_BitsBack_j7 false
  else
  (F_bits_Writer_Bytes (T_bits_Writer.mk wv330)).bind fun y367 =>
  (F_bits_Get y367.1 atv9 y308).bind fun y377 =>
  if ((y367.1.length : Int) != (y298.1.length : Int)) = true then
  F_law01_BitsBack_j8 atv9 y298 y308 y367 true
  else
  if (y377.2 != 0) = true then
  F_law01_BitsBack_j8 atv9 y298 y308 y367 true
  else
  F_law01_BitsBack_j8 atv9 y298 y308 y367 (y377.1 != v10)
def F_law01_BitsBack_l2 (rec246 : (List Int) → Int → Int → Option Bool) (lv1 : List Int) (sizes5 : List Int) (atv9 : Int) (v10 : Int) (y108 : (List Int) × T_bits_Writer) (rv242 : List Int) (rv243 : Int) (i244 : Int) : Option Bool :=
  if (decide (i244 < (lv1.length : Int))) = true then
  (gidx sizes5 i244).bind fun xv250 =>
  if (decide (xv250 < 1)) = true then
  F_law01_BitsBack_j4 lv1 sizes5 rv242 rv243 i244 rec246 true
  else
  (gidx sizes5 i244).bind fun xv253 =>
  if (decide (8 < xv253)) = true then
  F_law01_BitsBack_j4 lv1 sizes5 rv242 rv243 i244 rec246 true
  else
  (gidx lv1 i244).bind fun xv256 =>
  (gidx sizes5 i244).bind fun xv259 =>
  (F_ref01_Fits xv256 xv259).bind fun y260 =>
  F_law01_BitsBack_j4 lv1 sizes5 rv242 rv243 i244 rec246 (!y260)
  else
  (F_bits_Writer_Bytes y108.2).bind fun y298 =>
  (F_bits_Least v10).bind fun y308 =>
  (F_bits_Reader_Left (T_bits_Reader.mk rv242 rv243)).bind fun y312 =>
  if (y312.1 != 0) = true then
  F_law01_BitsBack_j6 atv9 v10 y298 y308 y298.2.f_b y312.2.f_b y312.2.f_at true
  else
  (F_bits_Writer_Set y298.2 atv9 v10 y308).bind fun y319 =>
  F_law01_BitsBack_j6 atv9 v10 y298 y308 y319.2.f_b y312.2.f_b y312.2.f_at (y319.1 != 0)
def F_law01_BitsBack_L2 (lv1 : List Int) (sizes5 : List Int) (atv9 : Int) (v10 : Int) (y108 : (List Int) × T_bits_Writer) : Nat → (List Int) → Int → Int → Option Bool
  | 0 => fun _ _ _ => none
  | k + 1 => F_law01_BitsBack_l2 (F_law01_BitsBack_L2 lv1 sizes5 atv9 v10 y108 k) lv1 sizes5 atv9 v10 y108
def F_law01_BitsBack_l1 (rec82 : (List Int) → Int → Option Bool) (lv1 : List Int) (sizes5 : List Int) (atv9 : Int) (v10 : Int) (wv79 : List Int) (i80 : Int) : Option Bool :=
  if (decide (i80 < (lv1.length : Int))) = true then
  (gidx sizes5 i80).bind fun xv86 =>
  (gidx lv1 i80).bind fun xv89 =>
  (F_bits_Writer_Put (T_bits_Writer.mk wv79) xv89 xv86).bind fun y90 =>
  if (decide (xv86 ≤ 8)) = true then
  (gidx lv1 i80).bind fun xv99 =>
  (F_bits_Least xv99).bind fun y100 =>
  F_law01_BitsBack_j2 i80 rec82 y90 (!((y90.1 == 0) == (decide (y100 ≤ xv86))))
  else
  F_law01_BitsBack_j2 i80 rec82 y90 (!((y90.1 == 0) == false))
  else
  (F_bits_Writer_Bytes (T_bits_Writer.mk wv79)).bind fun y108 =>
  (F_bits_Read y108.1).bind fun y118 =>
  F_law01_BitsBack_L2 lv1 sizes5 atv9 v10 y108 fuel0 y118.f_b y118.f_at 0
def F_law01_BitsBack_L1 (lv1 : List Int) (sizes5 : List Int) (atv9 : Int) (v10 : Int) : Nat → (List Int) → Int → Option Bool
  | 0 => fun _ _ => none
  | k + 1 => F_law01_BitsBack_l1 (F_law01_BitsBack_L1 lv1 sizes5 atv9 v10 k) lv1 sizes5 atv9 v10
def F_law01_BitsBack_j1 (lv1 : List Int) (sizes5 : List Int) (atv9 : Int) (v10 : Int) (t11 : Bool) : Option Bool :=
  if t11 = true then
  (F_law01_works).bind fun y13 =>
  some y13
  else
  F_law01_BitsBack_L1 lv1 sizes5 atv9 v10 fuel0 ([]) 0
def F_law01_BitsBack (lv1 : List Int) (sizes5 : List Int) (atv9 : Int) (v10 : Int) : Option Bool :=
  if (decide (40 < (lv1.length : Int))) = true then
  F_law01_BitsBack_j1 lv1 sizes5 atv9 v10 true
  else
  F_law01_BitsBack_j1 lv1 sizes5 atv9 v10 (decide ((sizes5.length : Int) < (lv1.length : Int)))
def F_bits_Reader_Take (rv1 : T_bits_Reader) (nv7 : Int) : Option ((List Int) × Int × T_bits_Reader) :=
  if (decide (nv7 < 0)) = true then
  some ([], 2, rv1)
  else
  (F_bits_Reader_Left rv1).bind fun y9 =>
  if (decide (y9.1 < nv7)) = true then
  some ([], 10, y9.2)
  else
  (gcut y9.2.f_b y9.2.f_at (IntKind.i64.wrap (y9.2.f_at + nv7))).bind fun cut16 =>
  (F_slices_Clone_byte_byte cut16).bind fun y24 =>
  some (y24, 0, (T_bits_Reader.mk y9.2.f_b (IntKind.i64.wrap (y9.2.f_at + nv7))))
def F_bits_Reader_At (rv1 : T_bits_Reader) : Option (Int × T_bits_Reader) :=
  some (rv1.f_at, rv1)
def F_law01_BitsReads_j3 (i337 : Int) (rec339 : (List Int) → Int → Int → Int → Option Bool) (atv442 : Int) (rv462 : List Int) (rv463 : Int) (t464 : Bool) : Option Bool :=
  if t464 = true then
  some false
  else
  rec339 rv462 rv463 atv442 (IntKind.i64.wrap (i337 + 1))
def F_law01_BitsReads_j2 (b1 : List Int) (i337 : Int) (rec339 : (List Int) → Int → Int → Int → Option Bool) (rv440 : List Int) (rv441 : Int) (atv442 : Int) : Option Bool :=
  (F_bits_Reader_At (T_bits_Reader.mk rv440 rv441)).bind fun y444 =>
  if (y444.1 != atv442) = true then
  F_law01_BitsReads_j3 i337 rec339 atv442 y444.2.f_b y444.2.f_at true
  else
  (F_bits_Reader_Left y444.2).bind fun y451 =>
  F_law01_BitsReads_j3 i337 rec339 atv442 y451.2.f_b y451.2.f_at (y451.1 != (IntKind.i64.wrap ((b1.length : Int) - atv442)))
def F_law01_BitsReads_l3 (rec411 : (List Int) → Int → Option Bool) (b1 : List Int) (i337 : Int) (rec339 : (List Int) → Int → Int → Int → Option Bool) (y344 : (List Int) × Int × T_bits_Reader) (atv377 : Int) (lv408 : List Int) (kv409 : Int) : Option Bool :=
  if (decide (kv409 < (lv408.length : Int))) = true then
  (gidx lv408 kv409).bind fun xv415 =>
  (gidx lv408 kv409).bind fun xv418 =>
  rec411 (lv408.set (kv409).toNat (IntKind.u8.wrap (xv415 + 1))) (IntKind.i64.wrap (kv409 + 1))
  else
  F_law01_BitsReads_j2 b1 i337 rec339 y344.2.2.f_b y344.2.2.f_at atv377
def F_law01_BitsReads_L3 (b1 : List Int) (i337 : Int) (rec339 : (List Int) → Int → Int → Int → Option Bool) (y344 : (List Int) × Int × T_bits_Reader) (atv377 : Int) : Nat → (List Int) → Int → Option Bool
  | 0 => fun _ _ => none
  | k + 1 => F_law01_BitsReads_l3 (F_law01_BitsReads_L3 b1 i337 rec339 y344 atv377 k) b1 i337 rec339 y344 atv377
def F_law01_BitsReads_j4 (b1 : List Int) (i337 : Int) (rec339 : (List Int) → Int → Int → Int → Option Bool) (y344 : (List Int) × Int × T_bits_Reader) (atv377 : Int) : Option Bool :=
  F_law01_BitsReads_L3 b1 i337 rec339 y344 atv377 fuel0 y344.1 0
def F_law01_BitsReads_j5 (b1 : List Int) (atv336 : Int) (i337 : Int) (rec339 : (List Int) → Int → Int → Int → Option Bool) (y344 : (List Int) × Int × T_bits_Reader) (t357 : Bool) : Option Bool :=
  if t357 = true then
  some false
  else
  F_law01_BitsReads_j4 b1 i337 rec339 y344 atv336
def F_law01_BitsReads_j6 (b1 : List Int) (atv336 : Int) (i337 : Int) (rec339 : (List Int) → Int → Int → Int → Option Bool) (xv343 : Int) (y344 : (List Int) × Int × T_bits_Reader) (t373 : Bool) : Option Bool :=
  if t373 = true then
  some false
  else
  F_law01_BitsReads_j4 b1 i337 rec339 y344 (IntKind.i64.wrap (atv336 + (IntKind.i64.wrap ((-10) - xv343))))
def F_law01_BitsReads_j7 (b1 : List Int) (atv336 : Int) (i337 : Int) (rec339 : (List Int) → Int → Int → Int → Option Bool) (xv343 : Int) (y421 : Int × Int × T_bits_Reader) (t434 : Bool) : Option Bool :=
  if t434 = true then
  some false
  else
  if (y421.2.1 == 0) = true then
  F_law01_BitsReads_j2 b1 i337 rec339 y421.2.2.f_b y421.2.2.f_at (IntKind.i64.wrap (atv336 + xv343))
  else
  F_law01_BitsReads_j2 b1 i337 rec339 y421.2.2.f_b y421.2.2.f_at atv336
def F_law01_BitsReads_j8 (t480 : Bool) : Option Bool :=
  some t480
def F_law01_BitsReads_l2 (rec339 : (List Int) → Int → Int → Int → Option Bool) (b1 : List Int) (sizes5 : List Int) (rv334 : List Int) (rv335 : Int) (atv336 : Int) (i337 : Int) : Option Bool :=
  if (decide (i337 < (sizes5.length : Int))) = true then
  (gidx sizes5 i337).bind fun xv343 =>
  if (decide (xv343 < (-9))) = true then
  (F_bits_Reader_Take (T_bits_Reader.mk rv334 rv335) (IntKind.i64.wrap ((-10) - xv343))).bind fun y344 =>
  if (decide ((IntKind.i64.wrap ((b1.length : Int) - atv336)) < (IntKind.i64.wrap ((-10) - xv343)))) = true then
  if (y344.2.1 != 10) = true then
  F_law01_BitsReads_j5 b1 atv336 i337 rec339 y344 true
  else
  F_law01_BitsReads_j5 b1 atv336 i337 rec339 y344 (decide (0 < (y344.1.length : Int)))
  else
  if (y344.2.1 != 0) = true then
  F_law01_BitsReads_j6 b1 atv336 i337 rec339 xv343 y344 true
  else
  (gcut b1 atv336 (IntKind.i64.wrap (atv336 + (IntKind.i64.wrap ((-10) - xv343))))).bind fun cut359 =>
  (F_ref01_Same y344.1 cut359).bind fun y366 =>
  F_law01_BitsReads_j6 b1 atv336 i337 rec339 xv343 y344 (!y366)
  else
  (F_bits_Reader_Get (T_bits_Reader.mk rv334 rv335) xv343).bind fun y421 =>
  (F_ref01_Get b1 atv336 xv343).bind fun y428 =>
  if (y421.1 != y428.1) = true then
  F_law01_BitsReads_j7 b1 atv336 i337 rec339 xv343 y421 true
  else
  F_law01_BitsReads_j7 b1 atv336 i337 rec339 xv343 y421 (y421.2.1 != y428.2)
  else
  (F_bits_Reader_Take (T_bits_Reader.mk rv334 rv335) (-1)).bind fun y466 =>
  if (y466.2.1 == 2) = true then
  (F_law01_works).bind fun y476 =>
  F_law01_BitsReads_j8 y476
  else
  F_law01_BitsReads_j8 false
def F_law01_BitsReads_L2 (b1 : List Int) (sizes5 : List Int) : Nat → (List Int) → Int → Int → Int → Option Bool
  | 0 => fun _ _ _ _ => none
  | k + 1 => F_law01_BitsReads_l2 (F_law01_BitsReads_L2 b1 sizes5 k) b1 sizes5
def F_law01_BitsReads_l1 (rec62 : (List Int) → Int → Option Bool) (b1 : List Int) (sizes5 : List Int) (y22 : T_bits_Reader) (own57 : List Int) (kv60 : Int) : Option Bool :=
  if (decide (kv60 < (own57.length : Int))) = true then
  (gidx own57 kv60).bind fun xv66 =>
  (gidx own57 kv60).bind fun xv69 =>
  rec62 (own57.set (kv60).toNat (IntKind.u8.wrap (xv66 + 1))) (IntKind.i64.wrap (kv60 + 1))
  else
  F_law01_BitsReads_L2 b1 sizes5 fuel0 y22.f_b y22.f_at 0 0
def F_law01_BitsReads_L1 (b1 : List Int) (sizes5 : List Int) (y22 : T_bits_Reader) : Nat → (List Int) → Int → Option Bool
  | 0 => fun _ _ => none
  | k + 1 => F_law01_BitsReads_l1 (F_law01_BitsReads_L1 b1 sizes5 y22 k) b1 sizes5 y22
def F_law01_BitsReads_j1 (b1 : List Int) (sizes5 : List Int) (t9 : Bool) : Option Bool :=
  if t9 = true then
  (F_law01_works).bind fun y11 =>
  some y11
  else
  (F_ref01_Join [] b1).bind fun y15 =>
  (F_bits_Read y15).bind fun y22 =>
  F_law01_BitsReads_L1 b1 sizes5 y22 fuel0 y15 0
def F_law01_BitsReads (b1 : List Int) (sizes5 : List Int) : Option Bool :=
  if (decide (300 < (b1.length : Int))) = true then
  F_law01_BitsReads_j1 b1 sizes5 true
  else
  F_law01_BitsReads_j1 b1 sizes5 (decide (40 < (sizes5.length : Int)))
def F_bits_Reader_Get_N (size1 : Int) : Option (Int × Int) :=
  some (0, 1)
def F_bits_Reader_Take_N (nv1 : Int) : Option ((List Int) × Int) :=
  some ([], 1)
def F_bits_Writer_Put_N (v1 : Int) (size2 : Int) : Option Int :=
  some 1
def F_bits_Writer_Raw_N (b1 : List Int) : Option Int :=
  some 1
def F_bits_Writer_Set_N (atv1 : Int) (v2 : Int) (size3 : Int) : Option Int :=
  some 1
def F_bits_Writer_Bytes_N : Option ((List Int)) :=
  some ([])
def F_bits_Writer_Len_N : Option Int :=
  some 0
def F_bits_Reader_Left_N : Option Int :=
  some 0
def F_bits_Reader_At_N : Option Int :=
  some 0
def F_law01_BitsNone_j1 (t54 : Bool) : Option Bool :=
  some t54
def F_law01_BitsNone (av1 : T_law01_Act) : Option Bool :=
  (F_bits_Reader_Get_N av1.f_Size).bind fun y8 =>
  (F_bits_Reader_Take_N av1.f_At).bind fun y12 =>
  (F_bits_Writer_Put_N av1.f_V av1.f_Size).bind fun y19 =>
  if (y19 == 1) = true then
  (F_bits_Writer_Raw_N av1.f_B).bind fun y23 =>
  if (y23 == 1) = true then
  (F_bits_Writer_Set_N av1.f_At av1.f_V av1.f_Size).bind fun y27 =>
  if (y27 == 1) = true then
  (F_bits_Writer_Bytes_N).bind fun y31 =>
  if ((y31.length : Int) == 0) = true then
  (F_bits_Writer_Len_N).bind fun y38 =>
  if (y38 == 0) = true then
  if (y8.2 == 1) = true then
  if (y12.2 == 1) = true then
  (F_bits_Reader_Left_N).bind fun y42 =>
  if (y42 == 0) = true then
  (F_bits_Reader_At_N).bind fun y46 =>
  if (y46 == 0) = true then
  (F_law01_works).bind fun y50 =>
  F_law01_BitsNone_j1 y50
  else
  F_law01_BitsNone_j1 false
  else
  F_law01_BitsNone_j1 false
  else
  F_law01_BitsNone_j1 false
  else
  F_law01_BitsNone_j1 false
  else
  F_law01_BitsNone_j1 false
  else
  F_law01_BitsNone_j1 false
  else
  F_law01_BitsNone_j1 false
  else
  F_law01_BitsNone_j1 false
  else
  F_law01_BitsNone_j1 false
end Go.Proofs.Ytpbkjellpboefaa
