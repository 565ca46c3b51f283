/- Plain functions, printed by a program of this claim: what each Go function computes, where it returns. -/
import Derived.Test.YtkdbdghncjmfoaaOxF
set_option linter.unusedVariables false
namespace Go.Proofs.Ytkdbdghncjmfoaa
open Go Go.Ox
structure T_sum_Sum where
  f_n : Int
  f_many : Int
def e_sum_Sum (x : T_sum_Sum) : List Value := [.int .u64 x.f_n, .int .i64 x.f_many]
def F_sum_fold_l1 (rec5 : Int → Option Int) (nv3 : Int) : Option Int :=
  if (decide (nv3 ≤ 65535)) = true then
  some (IntKind.u16.wrap nv3)
  else
  rec5 (IntKind.u64.wrap ((bits .and .u64 nv3 65535) + (Ox.shr .u64 nv3 16)))
def F_sum_fold_L1 : Nat → Int → Option Int
  | 0 => fun _ => none
  | k + 1 => F_sum_fold_l1 (F_sum_fold_L1 k)
def F_sum_fold (nv1 : Int) : Option Int :=
  F_sum_fold_L1 fuel0 nv1
def F_sum_Sum_Add_j1 (p39 : Int) (p40 : Int) (t41 : Int) (rec43 : Int → Int → Int → Option T_sum_Sum) (v49 : Int) : Option T_sum_Sum :=
  (F_sum_fold p39).bind fun y51 =>
  rec43 (IntKind.u64.wrap ((IntKind.u64.wrap y51) + v49)) (IntKind.i64.wrap (p40 + 1)) (IntKind.i64.wrap (t41 + 1))
def F_sum_Sum_Add_l1 (rec43 : Int → Int → Int → Option T_sum_Sum) (b5 : List Int) (p39 : Int) (p40 : Int) (t41 : Int) : Option T_sum_Sum :=
  if (decide (t41 < (b5.length : Int))) = true then
  (gidx b5 t41).bind fun xv47 =>
  if ((Int.tmod p40 2) == 0) = true then
  F_sum_Sum_Add_j1 p39 p40 t41 rec43 (Ox.shl .u64 (IntKind.u64.wrap xv47) 8)
  else
  F_sum_Sum_Add_j1 p39 p40 t41 rec43 (IntKind.u64.wrap xv47)
  else
  some (T_sum_Sum.mk p39 p40)
def F_sum_Sum_Add_L1 (b5 : List Int) : Nat → Int → Int → Int → Option T_sum_Sum
  | 0 => fun _ _ _ => none
  | k + 1 => F_sum_Sum_Add_l1 (F_sum_Sum_Add_L1 b5 k) b5
def F_sum_Sum_Add (s1 : T_sum_Sum) (b5 : List Int) : Option T_sum_Sum :=
  F_sum_Sum_Add_L1 b5 fuel0 s1.f_n s1.f_many 0
def F_sum_each_fsum_Sum_Add_l1 (rec42 : Int → Int → Int → Option T_sum_Sum) (lv1 : List (List Int)) (p38 : Int) (p39 : Int) (t40 : Int) : Option T_sum_Sum :=
  if (decide (t40 < (lv1.length : Int))) = true then
  (gidx lv1 t40).bind fun xv46 =>
  (F_sum_Sum_Add (T_sum_Sum.mk p38 p39) xv46).bind fun y52 =>
  rec42 y52.f_n y52.f_many (IntKind.i64.wrap (t40 + 1))
  else
  some (T_sum_Sum.mk p38 p39)
def F_sum_each_fsum_Sum_Add_L1 (lv1 : List (List Int)) : Nat → Int → Int → Int → Option T_sum_Sum
  | 0 => fun _ _ _ => none
  | k + 1 => F_sum_each_fsum_Sum_Add_l1 (F_sum_each_fsum_Sum_Add_L1 lv1 k) lv1
def F_sum_each_fsum_Sum_Add (lv1 : List (List Int)) (does5 : T_sum_Sum) : Option T_sum_Sum :=
  F_sum_each_fsum_Sum_Add_L1 lv1 fuel0 does5.f_n does5.f_many 0
def F_sum_Sum_Value (s1 : T_sum_Sum) : Option (Int × T_sum_Sum) :=
  (F_sum_fold s1.f_n).bind fun y5 =>
  some ((IntKind.u16.wrap (65535 - y5)), s1)
def F_sum_Of (lv1 : List (List Int)) : Option Int :=
  (F_sum_each_fsum_Sum_Add lv1 (T_sum_Sum.mk 0 0)).bind fun y8 =>
  (F_sum_Sum_Value y8).bind fun y12 =>
  some y12.1
def F_sum_Whole_j1 (t9 : Bool) : Option Bool :=
  some t9
def F_sum_Whole (lv1 : List (List Int)) : Option Bool :=
  (F_sum_Of lv1).bind fun y5 =>
  if (y5 == 0) = true then
  F_sum_Whole_j1 true
  else
  F_sum_Whole_j1 (y5 == 65535)
def F_sum_Change (sum1 : Int) (fromv2 : Int) (tov3 : Int) : Option Int :=
  (F_sum_fold (IntKind.u64.wrap ((IntKind.u64.wrap ((IntKind.u64.wrap (IntKind.u16.wrap (65535 - sum1))) + (IntKind.u64.wrap (IntKind.u16.wrap (65535 - fromv2))))) + (IntKind.u64.wrap tov3)))).bind fun y4 =>
  some (IntKind.u16.wrap (65535 - y4))
def F_law03_works_j1 (t42 : Bool) : Option Bool :=
  some t42
def F_law03_works : Option Bool :=
  (F_sum_Of ([[1, 2], [3]])).bind fun y53 =>
  if (y53 == 64509) = true then
  (F_sum_Of []).bind fun y57 =>
  if (y57 == 65535) = true then
  (F_sum_Whole ([[0, 0]])).bind fun y67 =>
  if y67 = true then
  (F_sum_Whole ([[1, 2, 254, 253]])).bind fun y77 =>
  if y77 = true then
  (F_sum_Change 64509 768 769).bind fun y81 =>
  F_law03_works_j1 (y81 == 64508)
  else
  F_law03_works_j1 false
  else
  F_law03_works_j1 false
  else
  F_law03_works_j1 false
  else
  F_law03_works_j1 false
def F_kit_Pick (i1 : Int) (nv2 : Int) : Option Int :=
  if (decide (nv2 ≤ 0)) = true then
  some 0
  else
  if (decide (nv2 ≠ 0)) = true then
  if (decide (nv2 ≠ 0)) = true then
  some (Int.tmod (IntKind.i64.wrap ((Int.tmod i1 nv2) + nv2)) nv2)
  else none
  else none
def F_law03_SumKeeps_j2 (t45 : Bool) : Option Bool :=
  some t45
def F_law03_SumKeeps_j3 (t142 : Bool) : Option Bool :=
  some t142
def F_law03_SumKeeps_j1 (i5 : Int) (kv6 : Int) (tov7 : Int) (b22 : List Int) : Option Bool :=
  (F_sum_Of ([b22])).bind fun y27 =>
  (F_sum_Whole ([b22, [(IntKind.u8.wrap (IntKind.u16.wrap (Int.tdiv y27 256))), (IntKind.u8.wrap (Int.tmod y27 256))]])).bind fun y37 =>
  if (!y37) = true then
  some false
  else
  if ((b22.length : Int) == 0) = true then
  if (y27 == 65535) = true then
  (F_law03_works).bind fun y47 =>
  F_law03_SumKeeps_j2 y47
  else
  F_law03_SumKeeps_j2 false
  else
  (F_kit_Pick i5 (IntKind.i64.wrap (Int.tdiv (b22.length : Int) 2))).bind fun y51 =>
  (F_kit_Pick kv6 (IntKind.i64.wrap (Int.tdiv (b22.length : Int) 2))).bind fun y55 =>
  if (decide (b22.length ≤ lim)) = true then
  (gidx b22 (IntKind.i64.wrap (2 * y55))).bind fun xv66 =>
  (gidx b22 (IntKind.i64.wrap (2 * y51))).bind fun xv69 =>
  (gidx b22 (IntKind.i64.wrap ((IntKind.i64.wrap (2 * y55)) + 1))).bind fun xv74 =>
  (gidx (b22.set ((IntKind.i64.wrap (2 * y51))).toNat xv66) (IntKind.i64.wrap ((IntKind.i64.wrap (2 * y51)) + 1))).bind fun xv77 =>
  (gidx b22 (IntKind.i64.wrap (2 * y51))).bind fun xv82 =>
  (gidx ((b22.set ((IntKind.i64.wrap (2 * y51))).toNat xv66).set ((IntKind.i64.wrap ((IntKind.i64.wrap (2 * y51)) + 1))).toNat xv74) (IntKind.i64.wrap (2 * y55))).bind fun xv85 =>
  (gidx b22 (IntKind.i64.wrap ((IntKind.i64.wrap (2 * y51)) + 1))).bind fun xv90 =>
  (gidx (((b22.set ((IntKind.i64.wrap (2 * y51))).toNat xv66).set ((IntKind.i64.wrap ((IntKind.i64.wrap (2 * y51)) + 1))).toNat xv74).set ((IntKind.i64.wrap (2 * y55))).toNat xv82) (IntKind.i64.wrap ((IntKind.i64.wrap (2 * y55)) + 1))).bind fun xv93 =>
  (F_sum_Of ([((((b22.set ((IntKind.i64.wrap (2 * y51))).toNat xv66).set ((IntKind.i64.wrap ((IntKind.i64.wrap (2 * y51)) + 1))).toNat xv74).set ((IntKind.i64.wrap (2 * y55))).toNat xv82).set ((IntKind.i64.wrap ((IntKind.i64.wrap (2 * y55)) + 1))).toNat xv90)])).bind fun y99 =>
  if (y99 != y27) = true then
  some false
  else
  (gidx b22 (IntKind.i64.wrap (2 * y51))).bind fun xv105 =>
  (gidx b22 (IntKind.i64.wrap ((IntKind.i64.wrap (2 * y51)) + 1))).bind fun xv108 =>
  (F_sum_Change y27 (IntKind.u16.wrap ((IntKind.u16.wrap ((IntKind.u16.wrap xv105) * 256)) + (IntKind.u16.wrap xv108))) tov7).bind fun y109 =>
  if (decide (b22.length ≤ lim)) = true then
  (gidx b22 (IntKind.i64.wrap (2 * y51))).bind fun xv120 =>
  (gidx (b22.set ((IntKind.i64.wrap (2 * y51))).toNat (IntKind.u8.wrap (IntKind.u16.wrap (Int.tdiv tov7 256)))) (IntKind.i64.wrap ((IntKind.i64.wrap (2 * y51)) + 1))).bind fun xv125 =>
  (F_sum_Whole ([((b22.set ((IntKind.i64.wrap (2 * y51))).toNat (IntKind.u8.wrap (IntKind.u16.wrap (Int.tdiv tov7 256)))).set ((IntKind.i64.wrap ((IntKind.i64.wrap (2 * y51)) + 1))).toNat (IntKind.u8.wrap (Int.tmod tov7 256))), [(IntKind.u8.wrap (IntKind.u16.wrap (Int.tdiv y109 256))), (IntKind.u8.wrap (Int.tmod y109 256))]])).bind fun y150 =>
  if y150 = true then
  (F_law03_works).bind fun y154 =>
  F_law03_SumKeeps_j3 y154
  else
  F_law03_SumKeeps_j3 false
  else none
  else none
def F_law03_SumKeeps (b1 : List Int) (i5 : Int) (kv6 : Int) (tov7 : Int) : Option Bool :=
  if (decide (600 < (b1.length : Int))) = true then
  (F_law03_works).bind fun y8 =>
  some y8
  else
  if ((Int.tmod (b1.length : Int) 2) == 1) = true then
  (gcut b1 1 ((b1).length)).bind fun cut158 =>
  F_law03_SumKeeps_j1 i5 kv6 tov7 cut158
  else
  F_law03_SumKeeps_j1 i5 kv6 tov7 b1
def F_ref03_Words_j1 (out52 : List Int) (i53 : Int) (rec55 : (List Int) → Int → Option ((List Int))) (nv64 : Int) : Option ((List Int)) :=
  if (decide (out52.length + ([nv64]).length ≤ lim)) = true then
  rec55 (out52 ++ [nv64]) (IntKind.i64.wrap (i53 + 2))
  else none
def F_ref03_Words_l1 (rec55 : (List Int) → Int → Option ((List Int))) (b1 : List Int) (out52 : List Int) (i53 : Int) : Option ((List Int)) :=
  if (decide (i53 < (b1.length : Int))) = true then
  (gidx b1 i53).bind fun xv59 =>
  if (decide ((IntKind.i64.wrap (i53 + 1)) < (b1.length : Int))) = true then
  (gidx b1 (IntKind.i64.wrap (i53 + 1))).bind fun xv76 =>
  F_ref03_Words_j1 out52 i53 rec55 (IntKind.u64.wrap ((IntKind.u64.wrap ((IntKind.u64.wrap xv59) * 256)) + (IntKind.u64.wrap xv76)))
  else
  F_ref03_Words_j1 out52 i53 rec55 (IntKind.u64.wrap ((IntKind.u64.wrap xv59) * 256))
  else
  some out52
def F_ref03_Words_L1 (b1 : List Int) : Nat → (List Int) → Int → Option ((List Int))
  | 0 => fun _ _ => none
  | k + 1 => F_ref03_Words_l1 (F_ref03_Words_L1 b1 k) b1
def F_ref03_Words (b1 : List Int) : Option ((List Int)) :=
  F_ref03_Words_L1 b1 fuel0 ([]) 0
def F_ref03_Fold_l1 (rec5 : Int → Option Int) (nv3 : Int) : Option Int :=
  if (decide (65535 < nv3)) = true then
  rec5 (IntKind.u64.wrap ((IntKind.u64.wrap (Int.tdiv nv3 65536)) + (Int.tmod nv3 65536)))
  else
  some nv3
def F_ref03_Fold_L1 : Nat → Int → Option Int
  | 0 => fun _ => none
  | k + 1 => F_ref03_Fold_l1 (F_ref03_Fold_L1 k)
def F_ref03_Fold (nv1 : Int) : Option Int :=
  F_ref03_Fold_L1 fuel0 nv1
def F_ref03_Sum_l1 (rec25 : Int → Int → Option Int) (y5 : (List Int)) (nv21 : Int) (i23 : Int) : Option Int :=
  if (decide (i23 < (y5.length : Int))) = true then
  (gidx y5 i23).bind fun xv29 =>
  rec25 (IntKind.u64.wrap (nv21 + xv29)) (IntKind.i64.wrap (i23 + 1))
  else
  (F_ref03_Fold nv21).bind fun y30 =>
  some y30
def F_ref03_Sum_L1 (y5 : (List Int)) : Nat → Int → Int → Option Int
  | 0 => fun _ _ => none
  | k + 1 => F_ref03_Sum_l1 (F_ref03_Sum_L1 y5 k) y5
def F_ref03_Sum (b1 : List Int) : Option Int :=
  (F_ref03_Words b1).bind fun y5 =>
  F_ref03_Sum_L1 y5 fuel0 0 0
def F_ref03_Whole_j1 (t13 : Bool) : Option Bool :=
  some t13
def F_ref03_Whole (b1 : List Int) : Option Bool :=
  (F_ref03_Sum b1).bind fun y15 =>
  if (y15 == 65535) = true then
  F_ref03_Whole_j1 true
  else
  (F_ref03_Sum b1).bind fun y19 =>
  F_ref03_Whole_j1 (y19 == 0)
def F_law03_SumFinds_j2 (t72 : Bool) : Option Bool :=
  some t72
def F_law03_SumFinds_j1 (b1 : List Int) (i5 : Int) (byv6 : Int) (t11 : Bool) : Option Bool :=
  if t11 = true then
  (F_law03_works).bind fun y13 =>
  some y13
  else
  (F_kit_Pick i5 (b1.length : Int)).bind fun y17 =>
  if (decide (b1.length ≤ lim)) = true then
  (gidx b1 y17).bind fun xv28 =>
  (gidx b1 y17).bind fun xv31 =>
  (F_ref03_Words b1).bind fun y34 =>
  (gidx y34 (IntKind.i64.wrap (Int.tdiv y17 2))).bind fun xv43 =>
  (F_ref03_Words (b1.set (y17).toNat (IntKind.u8.wrap (xv28 + byv6)))).bind fun y44 =>
  (gidx y44 (IntKind.i64.wrap (Int.tdiv y17 2))).bind fun xv53 =>
  (F_sum_Whole ([b1])).bind fun y77 =>
  if y77 = true then
  (F_sum_Whole ([(b1.set (y17).toNat (IntKind.u8.wrap (xv28 + byv6)))])).bind fun y84 =>
  if (y84 == ((Int.tmod xv43 65535) == (Int.tmod xv53 65535))) = true then
  (F_law03_works).bind fun y88 =>
  F_law03_SumFinds_j2 y88
  else
  F_law03_SumFinds_j2 false
  else
  F_law03_SumFinds_j2 false
  else none
def F_law03_SumFinds (b1 : List Int) (i5 : Int) (byv6 : Int) : Option Bool :=
  if (decide (600 < (b1.length : Int))) = true then
  F_law03_SumFinds_j1 b1 i5 byv6 true
  else
  if (decide ((b1.length : Int) < 2)) = true then
  F_law03_SumFinds_j1 b1 i5 byv6 true
  else
  (F_ref03_Whole b1).bind fun y92 =>
  F_law03_SumFinds_j1 b1 i5 byv6 (!y92)
def F_law03_joined_j1 (lv1 : List (List Int)) (out76 : List Int) (i77 : Int) (rec79 : (List Int) → Int → Option ((List Int) × Bool)) (t90 : Bool) : Option ((List Int) × Bool) :=
  if t90 = true then
  some ([], false)
  else
  (gidx lv1 i77).bind fun xv94 =>
  if (decide (out76.length + xv94.length ≤ lim)) = true then
  rec79 (out76 ++ xv94) (IntKind.i64.wrap (i77 + 1))
  else none
def F_law03_joined_l1 (rec79 : (List Int) → Int → Option ((List Int) × Bool)) (lv1 : List (List Int)) (out76 : List Int) (i77 : Int) : Option ((List Int) × Bool) :=
  if (decide (i77 < (lv1.length : Int))) = true then
  if (i77 == 20) = true then
  F_law03_joined_j1 lv1 out76 i77 rec79 true
  else
  (gidx lv1 i77).bind fun xv107 =>
  F_law03_joined_j1 lv1 out76 i77 rec79 (decide (300 < (xv107.length : Int)))
  else
  some (out76, true)
def F_law03_joined_L1 (lv1 : List (List Int)) : Nat → (List Int) → Int → Option ((List Int) × Bool)
  | 0 => fun _ _ => none
  | k + 1 => F_law03_joined_l1 (F_law03_joined_L1 lv1 k) lv1
def F_law03_joined (lv1 : List (List Int)) : Option ((List Int) × Bool) :=
  F_law03_joined_L1 lv1 fuel0 ([]) 0
def F_sum_Sum_Add_N (b1 : List Int) : Option Unit :=
  some ()
def F_ref03_Of (b1 : List Int) : Option Int :=
  (F_ref03_Sum b1).bind fun y5 =>
  some (IntKind.u16.wrap (IntKind.u64.wrap (65535 - y5)))
def F_sum_Sum_Len (s1 : T_sum_Sum) : Option (Int × T_sum_Sum) :=
  some (s1.f_many, s1)
def F_ref03_Change (sum1 : Int) (fromv2 : Int) (tov3 : Int) : Option Int :=
  (F_ref03_Fold (IntKind.u64.wrap ((IntKind.u64.wrap ((IntKind.u64.wrap ((IntKind.u64.wrap (65535 - (IntKind.u64.wrap sum1))) + 65535)) - (IntKind.u64.wrap fromv2))) + (IntKind.u64.wrap tov3)))).bind fun y4 =>
  some (IntKind.u16.wrap (IntKind.u64.wrap (65535 - y4)))
def F_sum_Sum_Value_N : Option Int :=
  some 65535
def F_sum_Sum_Len_N : Option Int :=
  some 0
def F_ref01_Same (av1 : List Int) (b5 : List Int) : Option Bool :=
  some ((strOfNums av1).toList == (strOfNums b5).toList)
def F_law03_SumTells_j1 (t174 : Bool) : Option Bool :=
  some t174
def F_law03_SumTells_l1 (rec81 : Int → Int → Int → Option Bool) (lv1 : List (List Int)) (av5 : Int) (b6 : Int) (cv7 : Int) (y8 : (List Int) × Bool) (s77 : Int) (s78 : Int) (i79 : Int) : Option Bool :=
  if (decide (i79 < (lv1.length : Int))) = true then
  (gidx lv1 i79).bind fun xv85 =>
  (F_sum_Sum_Add (T_sum_Sum.mk s77 s78) xv85).bind fun y91 =>
  (gidx lv1 i79).bind fun xv97 =>
  (F_sum_Sum_Add_N xv97).bind fun y103 =>
  rec81 y91.f_n y91.f_many (IntKind.i64.wrap (i79 + 1))
  else
  (F_law03_joined lv1).bind fun y107 =>
  (F_sum_Of lv1).bind fun y176 =>
  (F_ref03_Of y8.1).bind fun y180 =>
  if (y176 == y180) = true then
  (F_sum_Whole lv1).bind fun y184 =>
  (F_ref03_Whole y8.1).bind fun y188 =>
  if (y184 == y188) = true then
  (F_sum_Sum_Value (T_sum_Sum.mk s77 s78)).bind fun y192 =>
  (F_ref03_Of y8.1).bind fun y196 =>
  if (y192.1 == y196) = true then
  (F_sum_Sum_Value y192.2).bind fun y200 =>
  (F_sum_Sum_Value y200.2).bind fun y204 =>
  if (y200.1 == y204.1) = true then
  (F_sum_Sum_Len y204.2).bind fun y208 =>
  if (y208.1 == (y8.1.length : Int)) = true then
  (F_sum_Change av5 b6 cv7).bind fun y212 =>
  (F_ref03_Change av5 b6 cv7).bind fun y216 =>
  if (y212 == y216) = true then
  (F_sum_Sum_Value_N).bind fun y220 =>
  if (y220 == 65535) = true then
  (F_sum_Sum_Len_N).bind fun y224 =>
  if (y224 == 0) = true then
  (F_ref01_Same y107.1 y8.1).bind fun y228 =>
  if y228 = true then
  (F_law03_works).bind fun y232 =>
  F_law03_SumTells_j1 y232
  else
  F_law03_SumTells_j1 false
  else
  F_law03_SumTells_j1 false
  else
  F_law03_SumTells_j1 false
  else
  F_law03_SumTells_j1 false
  else
  F_law03_SumTells_j1 false
  else
  F_law03_SumTells_j1 false
  else
  F_law03_SumTells_j1 false
  else
  F_law03_SumTells_j1 false
  else
  F_law03_SumTells_j1 false
def F_law03_SumTells_L1 (lv1 : List (List Int)) (av5 : Int) (b6 : Int) (cv7 : Int) (y8 : (List Int) × Bool) : Nat → Int → Int → Int → Option Bool
  | 0 => fun _ _ _ => none
  | k + 1 => F_law03_SumTells_l1 (F_law03_SumTells_L1 lv1 av5 b6 cv7 y8 k) lv1 av5 b6 cv7 y8
def F_law03_SumTells (lv1 : List (List Int)) (av5 : Int) (b6 : Int) (cv7 : Int) : Option Bool :=
  (F_law03_joined lv1).bind fun y8 =>
  if (!y8.2) = true then
  (F_law03_works).bind fun y15 =>
  some y15
  else
  F_law03_SumTells_L1 lv1 av5 b6 cv7 y8 fuel0 0 0 0
def F_law03_SumKnown_l2 (rec376 : Int → Option Bool) (b279 : List Int) (i280 : Int) (rec282 : (List Int) → Int → Option Bool) (xv289 : Int) (y330 : Int) (whole351 : List Int) (kv374 : Int) : Option Bool :=
  if (decide (kv374 < 4)) = true then
  (F_law03_SumFinds (whole351 ++ [(IntKind.u8.wrap (IntKind.u16.wrap (Int.tdiv y330 256))), (IntKind.u8.wrap (Int.tmod y330 256))]) (IntKind.i64.wrap (i280 * kv374)) (IntKind.u8.wrap (IntKind.i64.wrap (1 + (IntKind.i64.wrap (kv374 * 85)))))).bind fun y378 =>
  if (!y378) = true then
  some false
  else
  rec376 (IntKind.i64.wrap (kv374 + 1))
  else
  rec282 (b279 ++ [xv289]) (IntKind.i64.wrap (i280 + 1))
def F_law03_SumKnown_L2 (b279 : List Int) (i280 : Int) (rec282 : (List Int) → Int → Option Bool) (xv289 : Int) (y330 : Int) (whole351 : List Int) : Nat → Int → Option Bool
  | 0 => fun _ => none
  | k + 1 => F_law03_SumKnown_l2 (F_law03_SumKnown_L2 b279 i280 rec282 xv289 y330 whole351 k) b279 i280 rec282 xv289 y330 whole351
def F_law03_SumKnown_j2 (b279 : List Int) (i280 : Int) (rec282 : (List Int) → Int → Option Bool) (xv289 : Int) (y330 : Int) (whole351 : List Int) : Option Bool :=
  if (decide (whole351.length + ([(IntKind.u8.wrap (IntKind.u16.wrap (Int.tdiv y330 256))), (IntKind.u8.wrap (Int.tmod y330 256))]).length ≤ lim)) = true then
  F_law03_SumKnown_L2 b279 i280 rec282 xv289 y330 whole351 fuel0 0
  else none
def F_law03_SumKnown_j1 (b279 : List Int) (i280 : Int) (rec282 : (List Int) → Int → Option Bool) (xv289 : Int) (t328 : Bool) : Option Bool :=
  if t328 = true then
  some false
  else
  (F_ref03_Of (b279 ++ [xv289])).bind fun y330 =>
  if (decide ((b279 ++ [xv289]).length ≤ lim)) = true then
  if ((Int.tmod ((b279 ++ [xv289]).length : Int) 2) == 1) = true then
  if (decide ((b279 ++ [xv289]).length + ([0]).length ≤ lim)) = true then
  F_law03_SumKnown_j2 b279 i280 rec282 xv289 y330 ((b279 ++ [xv289]) ++ [0])
  else none
  else
  F_law03_SumKnown_j2 b279 i280 rec282 xv289 y330 (b279 ++ [xv289])
  else none
def F_law03_SumKnown_j3 (i562 : Int) (rec564 : Int → Option Bool) (t602 : Bool) : Option Bool :=
  if t602 = true then
  some false
  else
  rec564 (IntKind.i64.wrap (i562 + 1))
def F_law03_SumKnown_l3 (rec564 : Int → Option Bool) (i562 : Int) : Option Bool :=
  if (decide (i562 < 16)) = true then
  (gidx ([0, 1, 65535, 65534]) (Int.tmod i562 4)).bind fun xv606 =>
  (gidx ([0, 1, 65535, 65534]) (IntKind.i64.wrap (Int.tdiv i562 4))).bind fun xv609 =>
  (gidx ([0, 1, 65535, 65534]) (Int.tmod (IntKind.i64.wrap (i562 + (IntKind.i64.wrap (Int.tdiv i562 4)))) 4)).bind fun xv612 =>
  (F_law03_SumTells [] xv606 xv609 xv612).bind fun y613 =>
  if (!y613) = true then
  F_law03_SumKnown_j3 i562 rec564 true
  else
  (gidx ([0, 1, 65535, 65534]) (Int.tmod i562 4)).bind fun xv619 =>
  (F_law03_SumKeeps ([0, 0, 0, 0]) 0 1 xv619).bind fun y623 =>
  if (!y623) = true then
  F_law03_SumKnown_j3 i562 rec564 true
  else
  (gidx ([0, 1, 65535, 65534]) (Int.tmod i562 4)).bind fun xv629 =>
  (F_law03_SumKeeps ([255, 255]) 0 0 xv629).bind fun y633 =>
  F_law03_SumKnown_j3 i562 rec564 (!y633)
  else
  (F_law03_works).bind fun y637 =>
  some y637
def F_law03_SumKnown_L3 : Nat → Int → Option Bool
  | 0 => fun _ => none
  | k + 1 => F_law03_SumKnown_l3 (F_law03_SumKnown_L3 k)
def F_law03_SumKnown_l1 (rec282 : (List Int) → Int → Option Bool) (b279 : List Int) (i280 : Int) : Option Bool :=
  if (decide (i280 < 60)) = true then
  (gidx ([255, 255, 0, (IntKind.u8.wrap (IntKind.i64.wrap (i280 * 37))), 1, 254]) (Int.tmod i280 6)).bind fun xv289 =>
  if (decide (b279.length + ([xv289]).length ≤ lim)) = true then
  (gcut (b279 ++ [xv289]) 0 (IntKind.i64.wrap (Int.tdiv i280 2))).bind fun cut390 =>
  (gcut (b279 ++ [xv289]) (IntKind.i64.wrap (Int.tdiv i280 3)) (((b279 ++ [xv289])).length)).bind fun cut397 =>
  (F_law03_SumTells ([(b279 ++ [xv289]), cut390, [], cut397]) (IntKind.u16.wrap (IntKind.i64.wrap (i280 * 1111))) (IntKind.u16.wrap (IntKind.i64.wrap (i280 * 777))) (IntKind.u16.wrap (IntKind.i64.wrap ((IntKind.i64.wrap (i280 * i280)) * 31)))).bind fun y407 =>
  if (!y407) = true then
  F_law03_SumKnown_j1 b279 i280 rec282 xv289 true
  else
  (F_law03_SumKeeps (b279 ++ [xv289]) (IntKind.i64.wrap (i280 * 5)) (IntKind.i64.wrap (i280 * 7)) (IntKind.u16.wrap (IntKind.i64.wrap (i280 * 4321)))).bind fun y411 =>
  if (!y411) = true then
  F_law03_SumKnown_j1 b279 i280 rec282 xv289 true
  else
  (F_law03_SumFinds (b279 ++ [xv289]) i280 (IntKind.u8.wrap i280)).bind fun y415 =>
  F_law03_SumKnown_j1 b279 i280 rec282 xv289 (!y415)
  else none
  else
  F_law03_SumKnown_L3 fuel0 0
def F_law03_SumKnown_L1 : Nat → (List Int) → Int → Option Bool
  | 0 => fun _ _ => none
  | k + 1 => F_law03_SumKnown_l1 (F_law03_SumKnown_L1 k)
def F_law03_SumKnown : Option Bool :=
  F_law03_SumKnown_L1 fuel0 ([]) 0
end Go.Proofs.Ytkdbdghncjmfoaa
