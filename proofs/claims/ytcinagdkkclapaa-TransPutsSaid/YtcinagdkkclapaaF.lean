/- Plain functions, printed by a program of this claim: what each Go function computes, where it returns. -/
import Derived.Test.YtcinagdkkclapaaOxM
set_option linter.unusedVariables false
namespace Go.Proofs.Ytcinagdkkclapaa
open Go Go.Ox
abbrev v8 (n : Int) : Value := .int .u8 n
abbrev v16 (n : Int) : Value := .int .u16 n
abbrev v32 (n : Int) : Value := .int .u32 n
abbrev v64 (n : Int) : Value := .int .u64 n
abbrev vI (n : Int) : Value := .int .i64 n
abbrev vB (b : Bool) : Value := .bool b
structure T_trans_Segment where
  f_Proto : Int
  f_Src : Int
  f_Dst : Int
  f_Seq : Int
  f_Ack : Int
  f_Flags : Int
  f_Window : Int
  f_Urgent : Int
  f_Options : List Int
  f_Type : Int
  f_Code : Int
  f_Data : List Int
structure T_bits_Writer where
  f_b : List Int
structure T_sum_Sum where
  f_n : Int
  f_many : Int
def e_sum_Sum (x : T_sum_Sum) : List Value := [.int .u64 x.f_n, .int .i64 x.f_many]
structure T_bits_Reader where
  f_b : List Int
  f_at : Int
structure T_ref07_Segment where
  f_Proto : Int
  f_Src : Int
  f_Dst : Int
  f_Seq : Int
  f_Ack : Int
  f_Flags : Int
  f_Window : Int
  f_Urgent : Int
  f_Options : ByteArray
  f_Type : Int
  f_Code : Int
  f_Data : ByteArray
def e_ref07_Segment (x : T_ref07_Segment) : List Value := [.int .u8 x.f_Proto, .int .u16 x.f_Src, .int .u16 x.f_Dst, .int .u32 x.f_Seq, .int .u32 x.f_Ack, .int .u8 x.f_Flags, .int .u16 x.f_Window, .int .u16 x.f_Urgent, .string x.f_Options, .int .u8 x.f_Type, .int .u8 x.f_Code, .string x.f_Data]
def q_ref07_Segment (x y : T_ref07_Segment) : Bool := ((x.f_Proto == y.f_Proto) && ((x.f_Src == y.f_Src) && ((x.f_Dst == y.f_Dst) && ((x.f_Seq == y.f_Seq) && ((x.f_Ack == y.f_Ack) && ((x.f_Flags == y.f_Flags) && ((x.f_Window == y.f_Window) && ((x.f_Urgent == y.f_Urgent) && ((x.f_Options.toList == y.f_Options.toList) && ((x.f_Type == y.f_Type) && ((x.f_Code == y.f_Code) && ((x.f_Data.toList == y.f_Data.toList) && true))))))))))))
def F_law07_few_j1 (t12 : Bool) : Option Bool :=
  some t12
def F_law07_few (s1 : T_trans_Segment) : Option Bool :=
  if (decide ((s1.f_Options.length : Int) ≤ 100)) = true then
  if (decide ((s1.f_Data.length : Int) ≤ 300)) = true then
  F_law07_few_j1 true
  else
  F_law07_few_j1 (decide (65535 < (s1.f_Data.length : Int)))
  else
  F_law07_few_j1 false
def F_trans_protocols : Option Unit :=
  some ()
def F_bytes_Equal (av1 : List Int) (b5 : List Int) : Option Bool :=
  some ((strOfNums av1).toList == (strOfNums b5).toList)
def F_trans_Same_j3 (t38 : Bool) : Option Bool :=
  some t38
def F_trans_Same_j2 (av1 : T_trans_Segment) (b8 : T_trans_Segment) (ports24 : Bool) (tcp28 : Bool) : Option Bool :=
  if ports24 = true then
  if tcp28 = true then
  (F_bytes_Equal av1.f_Options b8.f_Options).bind fun y30 =>
  if y30 = true then
  (F_bytes_Equal av1.f_Data b8.f_Data).bind fun y34 =>
  F_trans_Same_j3 y34
  else
  F_trans_Same_j3 false
  else
  F_trans_Same_j3 false
  else
  F_trans_Same_j3 false
def F_trans_Same_j1 (av1 : T_trans_Segment) (b8 : T_trans_Segment) (ports24 : Bool) : Option Bool :=
  if (av1.f_Seq == b8.f_Seq) = true then
  if (av1.f_Ack == b8.f_Ack) = true then
  if (av1.f_Flags == b8.f_Flags) = true then
  if (av1.f_Window == b8.f_Window) = true then
  F_trans_Same_j2 av1 b8 ports24 (av1.f_Urgent == b8.f_Urgent)
  else
  F_trans_Same_j2 av1 b8 ports24 false
  else
  F_trans_Same_j2 av1 b8 ports24 false
  else
  F_trans_Same_j2 av1 b8 ports24 false
  else
  F_trans_Same_j2 av1 b8 ports24 false
def F_trans_Same (av1 : T_trans_Segment) (b8 : T_trans_Segment) : Option Bool :=
  if (av1.f_Proto == b8.f_Proto) = true then
  if (av1.f_Src == b8.f_Src) = true then
  if (av1.f_Dst == b8.f_Dst) = true then
  if (av1.f_Type == b8.f_Type) = true then
  F_trans_Same_j1 av1 b8 (av1.f_Code == b8.f_Code)
  else
  F_trans_Same_j1 av1 b8 false
  else
  F_trans_Same_j1 av1 b8 false
  else
  F_trans_Same_j1 av1 b8 false
  else
  F_trans_Same_j1 av1 b8 false
def F_trans_Right_j2 (t64 : Bool) : Option Bool :=
  some t64
def F_trans_Right_j1 (s1 : T_trans_Segment) : Option Bool :=
  (F_trans_Same s1 (T_trans_Segment.mk s1.f_Proto s1.f_Src s1.f_Dst s1.f_Seq s1.f_Ack s1.f_Flags s1.f_Window s1.f_Urgent s1.f_Options 0 0 s1.f_Data)).bind fun y52 =>
  if y52 = true then
  if ((Int.tmod (s1.f_Options.length : Int) 4) == 0) = true then
  if (decide ((s1.f_Options.length : Int) ≤ 40)) = true then
  F_trans_Right_j2 (decide ((IntKind.i64.wrap ((IntKind.i64.wrap (20 + (s1.f_Options.length : Int))) + (s1.f_Data.length : Int))) ≤ 65535))
  else
  F_trans_Right_j2 false
  else
  F_trans_Right_j2 false
  else
  F_trans_Right_j2 false
def F_trans_Right_j4 (t108 : Bool) : Option Bool :=
  some t108
def F_trans_Right_j3 (s1 : T_trans_Segment) : Option Bool :=
  (F_trans_Same s1 (T_trans_Segment.mk s1.f_Proto s1.f_Src s1.f_Dst 0 0 0 0 0 ([]) 0 0 s1.f_Data)).bind fun y96 =>
  if y96 = true then
  if ((Int.tmod (s1.f_Options.length : Int) 4) == 0) = true then
  if (decide ((s1.f_Options.length : Int) ≤ 40)) = true then
  F_trans_Right_j4 (decide ((IntKind.i64.wrap ((IntKind.i64.wrap (8 + (s1.f_Options.length : Int))) + (s1.f_Data.length : Int))) ≤ 65535))
  else
  F_trans_Right_j4 false
  else
  F_trans_Right_j4 false
  else
  F_trans_Right_j4 false
def F_trans_Right_j6 (t152 : Bool) : Option Bool :=
  some t152
def F_trans_Right_j5 (s1 : T_trans_Segment) : Option Bool :=
  (F_trans_Same s1 (T_trans_Segment.mk s1.f_Proto 0 0 0 0 0 0 0 ([]) s1.f_Type s1.f_Code s1.f_Data)).bind fun y140 =>
  if y140 = true then
  if ((Int.tmod (s1.f_Options.length : Int) 4) == 0) = true then
  if (decide ((s1.f_Options.length : Int) ≤ 40)) = true then
  F_trans_Right_j6 (decide ((IntKind.i64.wrap ((IntKind.i64.wrap (4 + (s1.f_Options.length : Int))) + (s1.f_Data.length : Int))) ≤ 65535))
  else
  F_trans_Right_j6 false
  else
  F_trans_Right_j6 false
  else
  F_trans_Right_j6 false
def F_trans_Right_j8 (t196 : Bool) : Option Bool :=
  some t196
def F_trans_Right_j7 (s1 : T_trans_Segment) : Option Bool :=
  (F_trans_Same s1 (T_trans_Segment.mk s1.f_Proto 0 0 0 0 0 0 0 ([]) s1.f_Type s1.f_Code s1.f_Data)).bind fun y184 =>
  if y184 = true then
  if ((Int.tmod (s1.f_Options.length : Int) 4) == 0) = true then
  if (decide ((s1.f_Options.length : Int) ≤ 40)) = true then
  F_trans_Right_j8 (decide ((IntKind.i64.wrap ((IntKind.i64.wrap (4 + (s1.f_Options.length : Int))) + (s1.f_Data.length : Int))) ≤ 65535))
  else
  F_trans_Right_j8 false
  else
  F_trans_Right_j8 false
  else
  F_trans_Right_j8 false
def F_trans_Right (s1 : T_trans_Segment) : Option Bool :=
  (F_trans_protocols).bind fun y13 =>
  if (s1.f_Proto == 6) = true then
  F_trans_Right_j1 s1
  else
  if (s1.f_Proto == 17) = true then
  F_trans_Right_j3 s1
  else
  if (s1.f_Proto == 1) = true then
  F_trans_Right_j5 s1
  else
  if (s1.f_Proto == 58) = true then
  F_trans_Right_j7 s1
  else
  some false
def F_slices_Concat_byte_byte_j1 (t42 : Int) (rec44 : Int → Int → Option ((List Int))) (size59 : Int) : Option ((List Int)) :=
  rec44 size59 (IntKind.i64.wrap (t42 + 1))
def F_slices_Concat_byte_byte_l2 (rec128 : (List Int) → Int → Option ((List Int))) (slices1 : List (List Int)) (newslice125 : List Int) (t126 : Int) : Option ((List Int)) :=
  if (decide (t126 < (slices1.length : Int))) = true then
  (gidx slices1 t126).bind fun xv136 =>
  if (decide (newslice125.length + xv136.length ≤ lim)) = true then
  rec128 (newslice125 ++ xv136) (IntKind.i64.wrap (t126 + 1))
  else none
  else
  some newslice125
def F_slices_Concat_byte_byte_L2 (slices1 : List (List Int)) : Nat → (List Int) → Int → Option ((List Int))
  | 0 => fun _ _ => none
  | k + 1 => F_slices_Concat_byte_byte_l2 (F_slices_Concat_byte_byte_L2 slices1 k) slices1
def F_slices_Concat_byte_byte_j3 (slices1 : List (List Int)) (slices78 : List Int) : Option ((List Int)) :=
  F_slices_Concat_byte_byte_L2 slices1 fuel0 slices78 0
def F_slices_Concat_byte_byte_j2 (slices1 : List (List Int)) (size41 : Int) : Option ((List Int)) :=
  if (decide (0 < (IntKind.i64.wrap (size41 - (IntKind.i64.wrap (0 - 0)))))) = true then
  if (decide (0 ≤ (IntKind.i64.wrap (size41 - (IntKind.i64.wrap (0 - 0)))) ∧ (IntKind.i64.wrap (size41 - (IntKind.i64.wrap (0 - 0)))) ≤ lim)) = true then
  (gcut (List.replicate (Int.toNat (IntKind.i64.wrap (size41 - (IntKind.i64.wrap (0 - 0))))) (0 : Int)) 0 0).bind fun cut72 =>
  F_slices_Concat_byte_byte_j3 slices1 cut72
  else none
  else
  F_slices_Concat_byte_byte_j3 slices1 ([])
def F_slices_Concat_byte_byte_l1 (rec44 : Int → Int → Option ((List Int))) (slices1 : List (List Int)) (size41 : Int) (t42 : Int) : Option ((List Int)) :=
  if (decide (t42 < (slices1.length : Int))) = true then
  (gidx slices1 t42).bind fun xv51 =>
  if (decide ((IntKind.i64.wrap (size41 + (xv51.length : Int))) < 0)) = true then
  none
  else
  F_slices_Concat_byte_byte_j1 t42 rec44 (IntKind.i64.wrap (size41 + (xv51.length : Int)))
  else
  if (decide (size41 < 0)) = true then
  none
  else
  F_slices_Concat_byte_byte_j2 slices1 size41
def F_slices_Concat_byte_byte_L1 (slices1 : List (List Int)) : Nat → Int → Int → Option ((List Int))
  | 0 => fun _ _ => none
  | k + 1 => F_slices_Concat_byte_byte_l1 (F_slices_Concat_byte_byte_L1 slices1 k) slices1
def F_slices_Concat_byte_byte (slices1 : List (List Int)) : Option ((List Int)) :=
  F_slices_Concat_byte_byte_L1 slices1 fuel0 0 0
def F_bits_Writer_Raw (wv1 : T_bits_Writer) (b8 : List Int) : Option (Int × T_bits_Writer) :=
  if (decide (wv1.f_b.length + b8.length ≤ lim)) = true then
  some (0, (T_bits_Writer.mk (wv1.f_b ++ b8)))
  else none
def F_bits_right_j1 (t3 : Bool) : Option Bool :=
  some t3
def F_bits_right (size1 : Int) : Option Bool :=
  if (decide (1 ≤ size1)) = true then
  F_bits_right_j1 (decide (size1 ≤ 8))
  else
  F_bits_right_j1 false
def F_bits_Least_l1 (rec17 : Int → Int → Option Int) (v14 : Int) (nv15 : Int) : Option Int :=
  if (decide (0 < v14)) = true then
  rec17 (Ox.shr .u64 v14 8) (IntKind.i64.wrap (nv15 + 1))
  else
  some nv15
def F_bits_Least_L1 : Nat → Int → Int → Option Int
  | 0 => fun _ _ => none
  | k + 1 => F_bits_Least_l1 (F_bits_Least_L1 k)
def F_bits_Least (v1 : Int) : Option Int :=
  F_bits_Least_L1 fuel0 (Ox.shr .u64 v1 8) 1
def F_bits_fits_j1 (t12 : Bool) : Option Bool :=
  some t12
def F_bits_fits (v1 : Int) (size2 : Int) : Option Bool :=
  (F_bits_right size2).bind fun y4 =>
  if y4 = true then
  (F_bits_Least v1).bind fun y8 =>
  F_bits_fits_j1 (decide (y8 ≤ size2))
  else
  F_bits_fits_j1 false
def F_bits_of_l1 (rec42 : (List Int) → Int → Option ((List Int))) (v1 : Int) (size2 : Int) (b39 : List Int) (t40 : Int) : Option ((List Int)) :=
  if (decide (t40 < size2)) = true then
  if (decide (¬ (IntKind.i64.wrap (8 * t40)) < 0)) = true then
  (gidx b39 (IntKind.i64.wrap ((IntKind.i64.wrap (size2 - 1)) - t40))).bind fun xv51 =>
  rec42 (b39.set ((IntKind.i64.wrap ((IntKind.i64.wrap (size2 - 1)) - t40)) : Int).toNat (IntKind.u8.wrap (Ox.shr .u64 v1 (IntKind.i64.wrap (8 * t40))))) (IntKind.i64.wrap (t40 + 1))
  else none
  else
  some b39
def F_bits_of_L1 (v1 : Int) (size2 : Int) : Nat → (List Int) → Int → Option ((List Int))
  | 0 => fun _ _ => none
  | k + 1 => F_bits_of_l1 (F_bits_of_L1 v1 size2 k) v1 size2
def F_bits_of (v1 : Int) (size2 : Int) : Option ((List Int)) :=
  if (decide (0 ≤ size2 ∧ size2 ≤ lim)) = true then
  F_bits_of_L1 v1 size2 fuel0 (List.replicate (Int.toNat size2) (0 : Int)) 0
  else none
def F_bits_Writer_Put (wv1 : T_bits_Writer) (v8 : Int) (size9 : Int) : Option (Int × T_bits_Writer) :=
  (F_bits_fits v8 size9).bind fun y16 =>
  if (!y16) = true then
  some (2, wv1)
  else
  (F_bits_of v8 size9).bind fun y22 =>
  (F_bits_Writer_Raw wv1 y22).bind fun y29 =>
  some (y29.1, y29.2)
def F_trans_each_l1 (rec57 : (List Int) → Int → Option T_bits_Writer) (size8 : Int) (lv9 : List Int) (p54 : List Int) (t55 : Int) : Option T_bits_Writer :=
  if (decide (t55 < (lv9.length : Int))) = true then
  (gidx lv9 t55).bind fun xv65 =>
  (F_bits_Writer_Put (T_bits_Writer.mk p54) xv65 size8).bind fun y66 =>
  rec57 y66.2.f_b (IntKind.i64.wrap (t55 + 1))
  else
  some (T_bits_Writer.mk p54)
def F_trans_each_L1 (size8 : Int) (lv9 : List Int) : Nat → (List Int) → Int → Option T_bits_Writer
  | 0 => fun _ _ => none
  | k + 1 => F_trans_each_l1 (F_trans_each_L1 size8 lv9 k) size8 lv9
def F_trans_each (wv1 : T_bits_Writer) (size8 : Int) (lv9 : List Int) : Option T_bits_Writer :=
  F_trans_each_L1 size8 lv9 fuel0 wv1.f_b 0
def F_slices_Clone_byte_byte (s1 : List Int) : Option ((List Int)) :=
  if (decide (([] : List Int).length + s1.length ≤ lim)) = true then
  some (([] : List Int) ++ s1)
  else none
def F_bits_Writer_Bytes (wv1 : T_bits_Writer) : Option ((List Int) × T_bits_Writer) :=
  (F_slices_Clone_byte_byte wv1.f_b).bind fun y13 =>
  some (y13, wv1)
def F_trans_pseudo_j1 (proto1 : Int) (wv77 : List Int) : Option ((List Int) × Bool) :=
  if (proto1 == 1) = true then
  some ([], true)
  else
  (F_bits_Writer_Bytes (T_bits_Writer.mk wv77)).bind fun y83 =>
  some (y83.1, true)
def F_trans_pseudo (proto1 : Int) (nv2 : Int) (src3 : List Int) (dst7 : List Int) : Option ((List Int) × Bool) :=
  (F_slices_Concat_byte_byte ([src3, dst7])).bind fun y20 =>
  (F_bits_Writer_Raw (T_bits_Writer.mk ([] : List Int)) y20).bind fun y28 =>
  if ((src3.length : Int) != (dst7.length : Int)) = true then
  some ([], false)
  else
  if ((src3.length : Int) == 4) = true then
  (F_trans_each y28.2 1 ([0, (IntKind.u64.wrap proto1)] : List Int)).bind fun y42 =>
  (F_bits_Writer_Put y42 (IntKind.u64.wrap nv2) 2).bind fun y49 =>
  F_trans_pseudo_j1 proto1 y49.2.f_b
  else
  if ((src3.length : Int) == 16) = true then
  (F_bits_Writer_Put y28.2 (IntKind.u64.wrap nv2) 4).bind fun y58 =>
  (F_bits_Writer_Put y58.2 (IntKind.u64.wrap proto1) 4).bind fun y65 =>
  F_trans_pseudo_j1 proto1 y65.2.f_b
  else
  some ([], false)
def F_trans_putTCP (wv1 : T_bits_Writer) (s8 : T_trans_Segment) : Option T_bits_Writer :=
  (F_trans_each wv1 2 ([(IntKind.u64.wrap s8.f_Src), (IntKind.u64.wrap s8.f_Dst)] : List Int)).bind fun y26 =>
  (F_trans_each y26 4 ([(IntKind.u64.wrap s8.f_Seq), (IntKind.u64.wrap s8.f_Ack)] : List Int)).bind fun y37 =>
  (F_trans_each y37 1 ([(IntKind.u64.wrap (Ox.shl .i64 (IntKind.i64.wrap (Int.tdiv (IntKind.i64.wrap (20 + (s8.f_Options.length : Int))) 4)) 4)), (IntKind.u64.wrap s8.f_Flags)] : List Int)).bind fun y48 =>
  (F_trans_each y48 2 ([(IntKind.u64.wrap s8.f_Window), 0, (IntKind.u64.wrap s8.f_Urgent)] : List Int)).bind fun y59 =>
  (F_bits_Writer_Raw y59 s8.f_Options).bind fun y66 =>
  some y66.2
def F_sum_fold_l1 (rec12 : Int → Option Int) (nv10 : Int) : Option Int :=
  if (decide (nv10 ≤ 65535)) = true then
  some (IntKind.u16.wrap nv10)
  else
  rec12 (IntKind.u64.wrap ((bits .and .u64 nv10 65535) + (Ox.shr .u64 nv10 16)))
def F_sum_fold_L1 : Nat → Int → Option Int
  | 0 => fun _ => none
  | k + 1 => F_sum_fold_l1 (F_sum_fold_L1 k)
def F_sum_fold (nv1 : Int) : Option Int :=
  F_sum_fold_L1 fuel0 nv1
def F_sum_Sum_Add_j1 (p57 : Int) (p58 : Int) (t59 : Int) (rec61 : Int → Int → Int → Option T_sum_Sum) (v73 : Int) : Option T_sum_Sum :=
  (F_sum_fold p57).bind fun y76 =>
  rec61 (IntKind.u64.wrap ((IntKind.u64.wrap y76) + v73)) (IntKind.i64.wrap (p58 + 1)) (IntKind.i64.wrap (t59 + 1))
def F_sum_Sum_Add_l1 (rec61 : Int → Int → Int → Option T_sum_Sum) (b5 : List Int) (p57 : Int) (p58 : Int) (t59 : Int) : Option T_sum_Sum :=
  if (decide (t59 < (b5.length : Int))) = true then
  (gidx b5 t59).bind fun xv69 =>
  if ((Int.tmod p58 2) == 0) = true then
  F_sum_Sum_Add_j1 p57 p58 t59 rec61 (Ox.shl .u64 (IntKind.u64.wrap xv69) 8)
  else
  F_sum_Sum_Add_j1 p57 p58 t59 rec61 (IntKind.u64.wrap xv69)
  else
  some (T_sum_Sum.mk p57 p58)
def F_sum_Sum_Add_L1 (b5 : List Int) : Nat → Int → Int → Int → Option T_sum_Sum
  | 0 => fun _ _ _ => none
  | k + 1 => F_sum_Sum_Add_l1 (F_sum_Sum_Add_L1 b5 k) b5
def F_sum_Sum_Add (s1 : T_sum_Sum) (b5 : List Int) : Option T_sum_Sum :=
  F_sum_Sum_Add_L1 b5 fuel0 s1.f_n s1.f_many 0
def F_sum_each_fsum_Sum_Add_l1 (rec52 : Int → Int → Int → Option T_sum_Sum) (lv1 : List (List Int)) (p48 : Int) (p49 : Int) (t50 : Int) : Option T_sum_Sum :=
  if (decide (t50 < (lv1.length : Int))) = true then
  (gidx lv1 t50).bind fun xv60 =>
  (F_sum_Sum_Add (T_sum_Sum.mk p48 p49) xv60).bind fun y66 =>
  rec52 y66.f_n y66.f_many (IntKind.i64.wrap (t50 + 1))
  else
  some (T_sum_Sum.mk p48 p49)
def F_sum_each_fsum_Sum_Add_L1 (lv1 : List (List Int)) : Nat → Int → Int → Int → Option T_sum_Sum
  | 0 => fun _ _ _ => none
  | k + 1 => F_sum_each_fsum_Sum_Add_l1 (F_sum_each_fsum_Sum_Add_L1 lv1 k) lv1
def F_sum_each_fsum_Sum_Add (lv1 : List (List Int)) (does5 : T_sum_Sum) : Option T_sum_Sum :=
  F_sum_each_fsum_Sum_Add_L1 lv1 fuel0 does5.f_n does5.f_many 0
def F_sum_Sum_Value (s1 : T_sum_Sum) : Option (Int × T_sum_Sum) :=
  (F_sum_fold s1.f_n).bind fun y10 =>
  some ((IntKind.u16.wrap (65535 - y10)), s1)
def F_sum_Of (lv1 : List (List Int)) : Option Int :=
  (F_sum_each_fsum_Sum_Add lv1 (T_sum_Sum.mk 0 0)).bind fun y11 =>
  (F_sum_Sum_Value y11).bind fun y16 =>
  some y16.1
def F_bits_Writer_Set_j1 (wv1 : T_bits_Writer) (atv8 : Int) (v9 : Int) (size10 : Int) (t22 : Bool) : Option (Int × T_bits_Writer) :=
  if t22 = true then
  some (2, wv1)
  else
  (gcut wv1.f_b atv8 ((wv1.f_b).length)).bind fun cut26 =>
  (F_bits_of v9 size10).bind fun y33 =>
  some (0, (T_bits_Writer.mk (cpR (Int.toNat atv8) (Nat.min y33.length cut26.length) wv1.f_b y33)))
def F_bits_Writer_Set (wv1 : T_bits_Writer) (atv8 : Int) (v9 : Int) (size10 : Int) : Option (Int × T_bits_Writer) :=
  (F_bits_fits v9 size10).bind fun y16 =>
  if (!y16) = true then
  F_bits_Writer_Set_j1 wv1 atv8 v9 size10 true
  else
  if (decide (atv8 < 0)) = true then
  F_bits_Writer_Set_j1 wv1 atv8 v9 size10 true
  else
  if (decide ((wv1.f_b.length : Int) < atv8)) = true then
  F_bits_Writer_Set_j1 wv1 atv8 v9 size10 true
  else
  F_bits_Writer_Set_j1 wv1 atv8 v9 size10 (decide ((IntKind.i64.wrap ((wv1.f_b.length : Int) - atv8)) < size10))
def F_trans_putUDP (wv1 : T_bits_Writer) (s8 : T_trans_Segment) : Option T_bits_Writer :=
  (F_trans_each wv1 2 ([(IntKind.u64.wrap s8.f_Src), (IntKind.u64.wrap s8.f_Dst), (IntKind.u64.wrap (IntKind.i64.wrap (8 + (s8.f_Data.length : Int)))), 0] : List Int)).bind fun y25 =>
  some y25
def F_trans_putICMP (wv1 : T_bits_Writer) (s8 : T_trans_Segment) : Option T_bits_Writer :=
  (F_trans_each wv1 1 ([(IntKind.u64.wrap s8.f_Type), (IntKind.u64.wrap s8.f_Code)] : List Int)).bind fun y26 =>
  (F_trans_each y26 2 ([0] : List Int)).bind fun y36 =>
  some y36
def F_trans_Put_j2 (y103 : (List Int) × T_bits_Writer) (nv128 : Int) : Option ((List Int) × Int) :=
  (F_bits_Writer_Set y103.2 16 (IntKind.u64.wrap nv128) 2).bind fun y131 =>
  (F_bits_Writer_Bytes y131.2).bind fun y139 =>
  some (y139.1, 0)
def F_trans_Put_j3 (y103 : (List Int) × T_bits_Writer) (y116 : Int) (t123 : Bool) : Option ((List Int) × Int) :=
  if t123 = true then
  F_trans_Put_j2 y103 65535
  else
  F_trans_Put_j2 y103 y116
def F_trans_Put_j1 (s1 : T_trans_Segment) (ok72 : Bool) (ahead76 : List Int) : Option ((List Int) × Int) :=
  if (!ok72) = true then
  some ([], 2)
  else
  (F_trans_putTCP (T_bits_Writer.mk ([] : List Int)) s1).bind fun y87 =>
  (F_bits_Writer_Raw y87 s1.f_Data).bind fun y95 =>
  (F_bits_Writer_Bytes y95.2).bind fun y103 =>
  (F_sum_Of ([ahead76, y103.1])).bind fun y116 =>
  if (y116 == 0) = true then
  F_trans_Put_j3 y103 y116 (s1.f_Proto == 17)
  else
  F_trans_Put_j3 y103 y116 false
def F_trans_Put_j5 (y225 : (List Int) × T_bits_Writer) (nv250 : Int) : Option ((List Int) × Int) :=
  (F_bits_Writer_Set y225.2 6 (IntKind.u64.wrap nv250) 2).bind fun y253 =>
  (F_bits_Writer_Bytes y253.2).bind fun y261 =>
  some (y261.1, 0)
def F_trans_Put_j6 (y225 : (List Int) × T_bits_Writer) (y238 : Int) (t245 : Bool) : Option ((List Int) × Int) :=
  if t245 = true then
  F_trans_Put_j5 y225 65535
  else
  F_trans_Put_j5 y225 y238
def F_trans_Put_j4 (s1 : T_trans_Segment) (ok194 : Bool) (ahead198 : List Int) : Option ((List Int) × Int) :=
  if (!ok194) = true then
  some ([], 2)
  else
  (F_trans_putUDP (T_bits_Writer.mk ([] : List Int)) s1).bind fun y209 =>
  (F_bits_Writer_Raw y209 s1.f_Data).bind fun y217 =>
  (F_bits_Writer_Bytes y217.2).bind fun y225 =>
  (F_sum_Of ([ahead198, y225.1])).bind fun y238 =>
  if (y238 == 0) = true then
  F_trans_Put_j6 y225 y238 (s1.f_Proto == 17)
  else
  F_trans_Put_j6 y225 y238 false
def F_trans_Put_j8 (y347 : (List Int) × T_bits_Writer) (nv372 : Int) : Option ((List Int) × Int) :=
  (F_bits_Writer_Set y347.2 2 (IntKind.u64.wrap nv372) 2).bind fun y375 =>
  (F_bits_Writer_Bytes y375.2).bind fun y383 =>
  some (y383.1, 0)
def F_trans_Put_j9 (y347 : (List Int) × T_bits_Writer) (y360 : Int) (t367 : Bool) : Option ((List Int) × Int) :=
  if t367 = true then
  F_trans_Put_j8 y347 65535
  else
  F_trans_Put_j8 y347 y360
def F_trans_Put_j7 (s1 : T_trans_Segment) (ok316 : Bool) (ahead320 : List Int) : Option ((List Int) × Int) :=
  if (!ok316) = true then
  some ([], 2)
  else
  (F_trans_putICMP (T_bits_Writer.mk ([] : List Int)) s1).bind fun y331 =>
  (F_bits_Writer_Raw y331 s1.f_Data).bind fun y339 =>
  (F_bits_Writer_Bytes y339.2).bind fun y347 =>
  (F_sum_Of ([ahead320, y347.1])).bind fun y360 =>
  if (y360 == 0) = true then
  F_trans_Put_j9 y347 y360 (s1.f_Proto == 17)
  else
  F_trans_Put_j9 y347 y360 false
def F_trans_Put_j11 (y469 : (List Int) × T_bits_Writer) (nv494 : Int) : Option ((List Int) × Int) :=
  (F_bits_Writer_Set y469.2 2 (IntKind.u64.wrap nv494) 2).bind fun y497 =>
  (F_bits_Writer_Bytes y497.2).bind fun y505 =>
  some (y505.1, 0)
def F_trans_Put_j12 (y469 : (List Int) × T_bits_Writer) (y482 : Int) (t489 : Bool) : Option ((List Int) × Int) :=
  if t489 = true then
  F_trans_Put_j11 y469 65535
  else
  F_trans_Put_j11 y469 y482
def F_trans_Put_j10 (s1 : T_trans_Segment) (ok438 : Bool) (ahead442 : List Int) : Option ((List Int) × Int) :=
  if (!ok438) = true then
  some ([], 2)
  else
  (F_trans_putICMP (T_bits_Writer.mk ([] : List Int)) s1).bind fun y453 =>
  (F_bits_Writer_Raw y453 s1.f_Data).bind fun y461 =>
  (F_bits_Writer_Bytes y461.2).bind fun y469 =>
  (F_sum_Of ([ahead442, y469.1])).bind fun y482 =>
  if (y482 == 0) = true then
  F_trans_Put_j12 y469 y482 (s1.f_Proto == 17)
  else
  F_trans_Put_j12 y469 y482 false
def F_trans_Put (s1 : T_trans_Segment) (src8 : List Int) (dst12 : List Int) : Option ((List Int) × Int) :=
  (F_trans_protocols).bind fun y21 =>
  if (s1.f_Proto == 6) = true then
  (F_trans_Right s1).bind fun y35 =>
  if (!y35) = true then
  some ([], 51)
  else
  (F_trans_pseudo s1.f_Proto (IntKind.i64.wrap ((IntKind.i64.wrap (20 + (s1.f_Options.length : Int))) + (s1.f_Data.length : Int))) src8 dst12).bind fun y48 =>
  F_trans_Put_j1 s1 y48.2 y48.1
  else
  if (s1.f_Proto == 17) = true then
  (F_trans_Right s1).bind fun y157 =>
  if (!y157) = true then
  some ([], 51)
  else
  (F_trans_pseudo s1.f_Proto (IntKind.i64.wrap ((IntKind.i64.wrap (8 + (s1.f_Options.length : Int))) + (s1.f_Data.length : Int))) src8 dst12).bind fun y170 =>
  F_trans_Put_j4 s1 y170.2 y170.1
  else
  if (s1.f_Proto == 1) = true then
  (F_trans_Right s1).bind fun y279 =>
  if (!y279) = true then
  some ([], 51)
  else
  (F_trans_pseudo s1.f_Proto (IntKind.i64.wrap ((IntKind.i64.wrap (4 + (s1.f_Options.length : Int))) + (s1.f_Data.length : Int))) src8 dst12).bind fun y292 =>
  F_trans_Put_j7 s1 y292.2 y292.1
  else
  if (s1.f_Proto == 58) = true then
  (F_trans_Right s1).bind fun y401 =>
  if (!y401) = true then
  some ([], 51)
  else
  (F_trans_pseudo s1.f_Proto (IntKind.i64.wrap ((IntKind.i64.wrap (4 + (s1.f_Options.length : Int))) + (s1.f_Data.length : Int))) src8 dst12).bind fun y414 =>
  F_trans_Put_j10 s1 y414.2 y414.1
  else
  some ([], 70)
def F_bits_Read (b1 : List Int) : Option T_bits_Reader :=
  (F_slices_Clone_byte_byte b1).bind fun y7 =>
  some (T_bits_Reader.mk y7 0)
def F_bits_value_l1 (rec27 : Int → Int → Option Int) (b1 : List Int) (v24 : Int) (t25 : Int) : Option Int :=
  if (decide (t25 < (b1.length : Int))) = true then
  (gidx b1 t25).bind fun xv35 =>
  rec27 (bits .or .u64 (Ox.shl .u64 v24 8) (IntKind.u64.wrap xv35)) (IntKind.i64.wrap (t25 + 1))
  else
  some v24
def F_bits_value_L1 (b1 : List Int) : Nat → Int → Int → Option Int
  | 0 => fun _ _ => none
  | k + 1 => F_bits_value_l1 (F_bits_value_L1 b1 k) b1
def F_bits_value (b1 : List Int) : Option Int :=
  F_bits_value_L1 b1 fuel0 0 0
def F_bits_Get_j2 (b1 : List Int) (atv5 : Int) (size6 : Int) (t16 : Bool) : Option (Int × Int) :=
  if t16 = true then
  some (0, 10)
  else
  (gcut b1 atv5 (IntKind.i64.wrap (atv5 + size6))).bind fun cut20 =>
  (F_bits_value cut20).bind fun y27 =>
  some (y27, 0)
def F_bits_Get_j1 (b1 : List Int) (atv5 : Int) (size6 : Int) (t13 : Bool) : Option (Int × Int) :=
  if t13 = true then
  some (0, 2)
  else
  if (decide ((b1.length : Int) < atv5)) = true then
  F_bits_Get_j2 b1 atv5 size6 true
  else
  F_bits_Get_j2 b1 atv5 size6 (decide ((IntKind.i64.wrap ((b1.length : Int) - atv5)) < size6))
def F_bits_Get (b1 : List Int) (atv5 : Int) (size6 : Int) : Option (Int × Int) :=
  (F_bits_right size6).bind fun y9 =>
  if (!y9) = true then
  F_bits_Get_j1 b1 atv5 size6 true
  else
  F_bits_Get_j1 b1 atv5 size6 (decide (atv5 < 0))
def F_bits_Reader_Get_j1 (rv1 : T_bits_Reader) (y14 : Int × Int) (p22 : Int) : Option (Int × Int × T_bits_Reader) :=
  some (y14.1, y14.2, (T_bits_Reader.mk rv1.f_b p22))
def F_bits_Reader_Get (rv1 : T_bits_Reader) (size8 : Int) : Option (Int × Int × T_bits_Reader) :=
  (F_bits_Get rv1.f_b rv1.f_at size8).bind fun y14 =>
  if (y14.2 == 0) = true then
  F_bits_Reader_Get_j1 rv1 y14 (IntKind.i64.wrap (rv1.f_at + size8))
  else
  F_bits_Reader_Get_j1 rv1 y14 rv1.f_at
def F_trans_number (rv1 : T_bits_Reader) (size8 : Int) : Option (Int × T_bits_Reader) :=
  (F_bits_Reader_Get rv1 size8).bind fun y12 =>
  some (y12.1, y12.2.2)
def F_bits_Reader_Left (rv1 : T_bits_Reader) : Option (Int × T_bits_Reader) :=
  some ((IntKind.i64.wrap ((rv1.f_b.length : Int) - rv1.f_at)), rv1)
def F_bits_Reader_Take (rv1 : T_bits_Reader) (nv8 : Int) : Option ((List Int) × Int × T_bits_Reader) :=
  if (decide (nv8 < 0)) = true then
  some ([], 2, rv1)
  else
  (F_bits_Reader_Left rv1).bind fun y16 =>
  if (decide (y16.1 < nv8)) = true then
  some ([], 10, y16.2)
  else
  (gcut y16.2.f_b y16.2.f_at (IntKind.i64.wrap (y16.2.f_at + nv8))).bind fun cut25 =>
  (F_slices_Clone_byte_byte cut25).bind fun y35 =>
  some (y35, 0, (T_bits_Reader.mk y16.2.f_b (IntKind.i64.wrap (y16.2.f_at + nv8))))
def F_trans_rest (rv1 : T_bits_Reader) : Option ((List Int) × T_bits_Reader) :=
  (F_bits_Reader_Left rv1).bind fun y11 =>
  (F_bits_Reader_Take y11.2 y11.1).bind fun y18 =>
  some (y18.1, y18.2.2)
def F_trans_readTCP (rv1 : T_bits_Reader) : Option (T_trans_Segment × Int × T_bits_Reader) :=
  (F_trans_number rv1 2).bind fun y14 =>
  (F_trans_number y14.2 2).bind fun y21 =>
  (F_trans_number y21.2 4).bind fun y31 =>
  (F_trans_number y31.2 4).bind fun y38 =>
  (F_trans_number y38.2 1).bind fun y48 =>
  (F_trans_number y48.2 1).bind fun y56 =>
  (F_trans_number y56.2 2).bind fun y65 =>
  (F_trans_number y65.2 2).bind fun y74 =>
  (F_trans_number y74.2 2).bind fun y82 =>
  if (decide ((IntKind.i64.wrap ((IntKind.i64.wrap ((IntKind.i64.wrap (Ox.shr .u64 y48.1 4)) * 4)) - 20)) < 0)) = true then
  some ((T_trans_Segment.mk 0 0 0 0 0 0 0 0 ([]) 0 0 ([])), 51, y82.2)
  else
  (F_bits_Reader_Take y82.2 (IntKind.i64.wrap ((IntKind.i64.wrap ((IntKind.i64.wrap (Ox.shr .u64 y48.1 4)) * 4)) - 20))).bind fun y97 =>
  if (y97.2.1 != 0) = true then
  some ((T_trans_Segment.mk 0 0 0 0 0 0 0 0 ([]) 0 0 ([])), y97.2.1, y97.2.2)
  else
  (F_trans_rest y97.2.2).bind fun y113 =>
  some ((T_trans_Segment.mk 0 (IntKind.u16.wrap y14.1) (IntKind.u16.wrap y21.1) (IntKind.u32.wrap y31.1) (IntKind.u32.wrap y38.1) (IntKind.u8.wrap y56.1) (IntKind.u16.wrap y65.1) (IntKind.u16.wrap y82.1) y97.1 0 0 y113.1), 0, y113.2)
def F_trans_readUDP (rv1 : T_bits_Reader) : Option (T_trans_Segment × Int × T_bits_Reader) :=
  (F_trans_number rv1 2).bind fun y14 =>
  (F_trans_number y14.2 2).bind fun y21 =>
  (F_trans_number y21.2 2).bind fun y31 =>
  (F_trans_number y31.2 2).bind fun y39 =>
  if (decide ((IntKind.i64.wrap ((IntKind.i64.wrap y31.1) - 8)) < 0)) = true then
  some ((T_trans_Segment.mk 0 0 0 0 0 0 0 0 ([]) 0 0 ([])), 51, y39.2)
  else
  (F_bits_Reader_Take y39.2 (IntKind.i64.wrap ((IntKind.i64.wrap y31.1) - 8))).bind fun y53 =>
  if (y53.2.1 != 0) = true then
  some ((T_trans_Segment.mk 0 0 0 0 0 0 0 0 ([]) 0 0 ([])), y53.2.1, y53.2.2)
  else
  some ((T_trans_Segment.mk 0 (IntKind.u16.wrap y14.1) (IntKind.u16.wrap y21.1) 0 0 0 0 0 ([]) 0 0 y53.1), 0, y53.2.2)
def F_trans_readICMP (rv1 : T_bits_Reader) : Option (T_trans_Segment × Int × T_bits_Reader) :=
  (F_trans_number rv1 1).bind fun y14 =>
  (F_trans_number y14.2 1).bind fun y21 =>
  (F_trans_number y21.2 2).bind fun y31 =>
  (F_trans_rest y31.2).bind fun y39 =>
  some ((T_trans_Segment.mk 0 0 0 0 0 0 0 0 ([]) (IntKind.u8.wrap y14.1) (IntKind.u8.wrap y21.1) y39.1), 0, y39.2)
def F_trans_Parse_j1 (proto1 : Int) (s105 : Int) (s106 : Int) (s107 : Int) (s108 : Int) (s109 : Int) (s110 : Int) (s111 : Int) (s115 : List Int) (s116 : Int) (s117 : Int) (s121 : List Int) (ev122 : Int) : Option (T_trans_Segment × Int) :=
  if (ev122 != 0) = true then
  some ((T_trans_Segment.mk 0 0 0 0 0 0 0 0 ([]) 0 0 ([])), ev122)
  else
  some ((T_trans_Segment.mk proto1 s105 s106 s107 s108 s109 s110 s111 s115 s116 s117 s121), 0)
def F_trans_Parse_j2 (proto1 : Int) (s222 : Int) (s223 : Int) (s224 : Int) (s225 : Int) (s226 : Int) (s227 : Int) (s228 : Int) (s232 : List Int) (s233 : Int) (s234 : Int) (s238 : List Int) (ev239 : Int) : Option (T_trans_Segment × Int) :=
  if (ev239 != 0) = true then
  some ((T_trans_Segment.mk 0 0 0 0 0 0 0 0 ([]) 0 0 ([])), ev239)
  else
  some ((T_trans_Segment.mk proto1 s222 s223 s224 s225 s226 s227 s228 s232 s233 s234 s238), 0)
def F_trans_Parse_j3 (proto1 : Int) (s339 : Int) (s340 : Int) (s341 : Int) (s342 : Int) (s343 : Int) (s344 : Int) (s345 : Int) (s349 : List Int) (s350 : Int) (s351 : Int) (s355 : List Int) (ev356 : Int) : Option (T_trans_Segment × Int) :=
  if (ev356 != 0) = true then
  some ((T_trans_Segment.mk 0 0 0 0 0 0 0 0 ([]) 0 0 ([])), ev356)
  else
  some ((T_trans_Segment.mk proto1 s339 s340 s341 s342 s343 s344 s345 s349 s350 s351 s355), 0)
def F_trans_Parse_j4 (proto1 : Int) (s456 : Int) (s457 : Int) (s458 : Int) (s459 : Int) (s460 : Int) (s461 : Int) (s462 : Int) (s466 : List Int) (s467 : Int) (s468 : Int) (s472 : List Int) (ev473 : Int) : Option (T_trans_Segment × Int) :=
  if (ev473 != 0) = true then
  some ((T_trans_Segment.mk 0 0 0 0 0 0 0 0 ([]) 0 0 ([])), ev473)
  else
  some ((T_trans_Segment.mk proto1 s456 s457 s458 s459 s460 s461 s462 s466 s467 s468 s472), 0)
def F_trans_Parse (proto1 : Int) (b2 : List Int) : Option (T_trans_Segment × Int) :=
  (F_trans_protocols).bind fun y11 =>
  if (proto1 == 6) = true then
  if (decide ((b2.length : Int) < 20)) = true then
  some ((T_trans_Segment.mk 0 0 0 0 0 0 0 0 ([]) 0 0 ([])), 10)
  else
  if (decide (65535 < (b2.length : Int))) = true then
  some ((T_trans_Segment.mk 0 0 0 0 0 0 0 0 ([]) 0 0 ([])), 51)
  else
  (F_bits_Read b2).bind fun y32 =>
  (F_trans_readTCP y32).bind fun y41 =>
  F_trans_Parse_j1 proto1 y41.1.f_Src y41.1.f_Dst y41.1.f_Seq y41.1.f_Ack y41.1.f_Flags y41.1.f_Window y41.1.f_Urgent y41.1.f_Options y41.1.f_Type y41.1.f_Code y41.1.f_Data y41.2.1
  else
  if (proto1 == 17) = true then
  if (decide ((b2.length : Int) < 8)) = true then
  some ((T_trans_Segment.mk 0 0 0 0 0 0 0 0 ([]) 0 0 ([])), 10)
  else
  if (decide (65535 < (b2.length : Int))) = true then
  some ((T_trans_Segment.mk 0 0 0 0 0 0 0 0 ([]) 0 0 ([])), 51)
  else
  (F_bits_Read b2).bind fun y149 =>
  (F_trans_readUDP y149).bind fun y158 =>
  F_trans_Parse_j2 proto1 y158.1.f_Src y158.1.f_Dst y158.1.f_Seq y158.1.f_Ack y158.1.f_Flags y158.1.f_Window y158.1.f_Urgent y158.1.f_Options y158.1.f_Type y158.1.f_Code y158.1.f_Data y158.2.1
  else
  if (proto1 == 1) = true then
  if (decide ((b2.length : Int) < 4)) = true then
  some ((T_trans_Segment.mk 0 0 0 0 0 0 0 0 ([]) 0 0 ([])), 10)
  else
  if (decide (65535 < (b2.length : Int))) = true then
  some ((T_trans_Segment.mk 0 0 0 0 0 0 0 0 ([]) 0 0 ([])), 51)
  else
  (F_bits_Read b2).bind fun y266 =>
  (F_trans_readICMP y266).bind fun y275 =>
  F_trans_Parse_j3 proto1 y275.1.f_Src y275.1.f_Dst y275.1.f_Seq y275.1.f_Ack y275.1.f_Flags y275.1.f_Window y275.1.f_Urgent y275.1.f_Options y275.1.f_Type y275.1.f_Code y275.1.f_Data y275.2.1
  else
  if (proto1 == 58) = true then
  if (decide ((b2.length : Int) < 4)) = true then
  some ((T_trans_Segment.mk 0 0 0 0 0 0 0 0 ([]) 0 0 ([])), 10)
  else
  if (decide (65535 < (b2.length : Int))) = true then
  some ((T_trans_Segment.mk 0 0 0 0 0 0 0 0 ([]) 0 0 ([])), 51)
  else
  (F_bits_Read b2).bind fun y383 =>
  (F_trans_readICMP y383).bind fun y392 =>
  F_trans_Parse_j4 proto1 y392.1.f_Src y392.1.f_Dst y392.1.f_Seq y392.1.f_Ack y392.1.f_Flags y392.1.f_Window y392.1.f_Urgent y392.1.f_Options y392.1.f_Type y392.1.f_Code y392.1.f_Data y392.2.1
  else
  some ((T_trans_Segment.mk 0 0 0 0 0 0 0 0 ([]) 0 0 ([])), 70)
def F_ref01_Same (av1 : List Int) (b5 : List Int) : Option Bool :=
  some ((strOfNums av1).toList == (strOfNums b5).toList)
def F_trans_Flags_l1 (rec54 : (List Int) → Nat → Option ByteArray) (f1 : Int) (lv50 : List Int) (t52 : Nat) : Option ByteArray :=
  if (decide (t52 < (⟨#[70, 83, 82, 80, 65, 85]⟩ : ByteArray).size)) = true then
  if (decide (¬ (t52 : Int) < 0)) = true then
  if ((bits .and .u8 (Ox.shr .u8 f1 (t52 : Int)) 1) == 1) = true then
  if (decide (lv50.length + ([(IntKind.u8.wrap (((⟨#[70, 83, 82, 80, 65, 85]⟩ : ByteArray).get! t52).toNat : Int))] : List Int).length ≤ lim)) = true then
  rec54 (lv50 ++ ([(IntKind.u8.wrap (((⟨#[70, 83, 82, 80, 65, 85]⟩ : ByteArray).get! t52).toNat : Int))] : List Int)) (t52 + 1)
  else none
  else
  rec54 lv50 (t52 + 1)
  else none
  else
  some (strOfNums lv50)
def F_trans_Flags_L1 (f1 : Int) : Nat → (List Int) → Nat → Option ByteArray
  | 0 => fun _ _ => none
  | k + 1 => F_trans_Flags_l1 (F_trans_Flags_L1 f1 k) f1
def F_trans_Flags (f1 : Int) : Option ByteArray :=
  F_trans_Flags_L1 f1 fuel0 ([]) 0
def F_law07_works_j1 (t77 : Bool) : Option Bool :=
  some t77
def F_law07_works : Option Bool :=
  (F_trans_Put (T_trans_Segment.mk 1 0 0 0 0 0 0 0 ([]) 8 0 ([1, 2, 3, 4] : List Int)) ([1, 2, 3, 4] : List Int) ([1, 2, 3, 4] : List Int)).bind fun y7 =>
  (F_trans_Parse 17 ([0, 53, 1, 0, 0, 8, 0, 0] : List Int)).bind fun y18 =>
  if (decide (0 ≤ 7 ∧ 7 ≤ lim)) = true then
  (F_trans_Parse 17 (List.replicate (Int.toNat 7) (0 : Int))).bind fun y37 =>
  (F_trans_Parse 2 []).bind fun y52 =>
  if (y7.2 == 0) = true then
  (F_ref01_Same y7.1 ([8, 0, 243, 249, 1, 2, 3, 4] : List Int)).bind fun y69 =>
  if y69 = true then
  if (y18.2 == 0) = true then
  if (y18.1.f_Src == 53) = true then
  if (y18.1.f_Dst == 256) = true then
  if (y37.2 == 10) = true then
  if (y52.2 == 70) = true then
  (F_trans_Flags 18).bind fun y73 =>
  F_law07_works_j1 (y73.toList == (⟨#[83, 65]⟩ : ByteArray).toList)
  else
  F_law07_works_j1 false
  else
  F_law07_works_j1 false
  else
  F_law07_works_j1 false
  else
  F_law07_works_j1 false
  else
  F_law07_works_j1 false
  else
  F_law07_works_j1 false
  else
  F_law07_works_j1 false
  else none
def F_docs_Trans (s1 : T_trans_Segment) : Option T_ref07_Segment :=
  some (T_ref07_Segment.mk s1.f_Proto s1.f_Src s1.f_Dst s1.f_Seq s1.f_Ack s1.f_Flags s1.f_Window s1.f_Urgent (strOfNums s1.f_Options) s1.f_Type s1.f_Code (strOfNums s1.f_Data))
def F_ref07_Head_j1 (t10 : Bool) : Option Int :=
  if t10 = true then
  some 4
  else
  some 0
def F_ref07_Head (proto1 : Int) : Option Int :=
  if (proto1 == 6) = true then
  some 20
  else
  if (proto1 == 17) = true then
  some 8
  else
  if (proto1 == 1) = true then
  F_ref07_Head_j1 (proto1 == 1)
  else
  F_ref07_Head_j1 (proto1 == 58)
def F_ref07_Length (s1 : T_ref07_Segment) : Option Int :=
  (F_ref07_Head s1.f_Proto).bind fun y7 =>
  some (IntKind.i64.wrap ((IntKind.i64.wrap (y7 + (s1.f_Options.size : Int))) + (s1.f_Data.size : Int)))
def F_ref07_Right_j3 (t25 : Bool) : Option Bool :=
  some t25
def F_ref07_Right_j4 (t28 : Bool) : Option Bool :=
  some t28
def F_ref07_Right_j5 (t30 : Bool) : Option Bool :=
  some t30
def F_ref07_Right_j2 (s1 : T_ref07_Segment) (tcp20 : Bool) : Option Bool :=
  if (s1.f_Proto == 6) = true then
  if (s1.f_Type == 0) = true then
  F_ref07_Right_j3 (s1.f_Code == 0)
  else
  F_ref07_Right_j3 false
  else
  if (s1.f_Proto == 17) = true then
  if tcp20 = true then
  if (s1.f_Type == 0) = true then
  F_ref07_Right_j4 (s1.f_Code == 0)
  else
  F_ref07_Right_j4 false
  else
  F_ref07_Right_j4 false
  else
  if tcp20 = true then
  if (s1.f_Src == 0) = true then
  F_ref07_Right_j5 (s1.f_Dst == 0)
  else
  F_ref07_Right_j5 false
  else
  F_ref07_Right_j5 false
def F_ref07_Right_j1 (s1 : T_ref07_Segment) (t16 : Bool) : Option Bool :=
  if t16 = true then
  some false
  else
  if (s1.f_Seq == 0) = true then
  if (s1.f_Ack == 0) = true then
  if (s1.f_Flags == 0) = true then
  if (s1.f_Window == 0) = true then
  if (s1.f_Urgent == 0) = true then
  F_ref07_Right_j2 s1 (s1.f_Options.toList == (⟨#[]⟩ : ByteArray).toList)
  else
  F_ref07_Right_j2 s1 false
  else
  F_ref07_Right_j2 s1 false
  else
  F_ref07_Right_j2 s1 false
  else
  F_ref07_Right_j2 s1 false
  else
  F_ref07_Right_j2 s1 false
def F_ref07_Right (s1 : T_ref07_Segment) : Option Bool :=
  (F_ref07_Head s1.f_Proto).bind fun y7 =>
  if (y7 == 0) = true then
  F_ref07_Right_j1 s1 true
  else
  (F_ref07_Length s1).bind fun y11 =>
  if (decide (65535 < y11)) = true then
  F_ref07_Right_j1 s1 true
  else
  if ((Int.tmod (s1.f_Options.size : Int) 4) != 0) = true then
  F_ref07_Right_j1 s1 true
  else
  F_ref07_Right_j1 s1 (decide (40 < (s1.f_Options.size : Int)))
def F_ref07_one (nv1 : Int) : Option ByteArray :=
  some (strOfNums ([nv1] : List Int))
def F_ref01_Put_B (recF : Int → Int → Option ((List Int))) (v1 : Int) (size2 : Int) : Option ((List Int)) :=
  if (size2 == 0) = true then
  some ([])
  else
  (recF (IntKind.u64.wrap (Int.tdiv v1 256)) (IntKind.i64.wrap (size2 - 1))).bind fun y8 =>
  if (decide (y8.length + ([(IntKind.u8.wrap (Int.tmod v1 256))] : List Int).length ≤ lim)) = true then
  some (y8 ++ ([(IntKind.u8.wrap (Int.tmod v1 256))] : List Int))
  else none
def F_ref01_Put_R : Nat → Int → Int → Option ((List Int))
  | 0 => fun _ _ => none
  | k + 1 => F_ref01_Put_B (F_ref01_Put_R k)
def F_ref01_Put (v1 : Int) (size2 : Int) : Option ((List Int)) := F_ref01_Put_R fuel0 v1 size2
def F_ref07_two (nv1 : Int) : Option ByteArray :=
  (F_ref01_Put (IntKind.u64.wrap nv1) 2).bind fun y4 =>
  some (strOfNums y4)
def F_ref07_four (nv1 : Int) : Option ByteArray :=
  (F_ref01_Put (IntKind.u64.wrap nv1) 4).bind fun y4 =>
  some (strOfNums y4)
def F_ref07_pseudo_j1 (proto1 : Int) (nv2 : Int) (src3 : ByteArray) (dst4 : ByteArray) (t7 : Bool) : Option (ByteArray × Bool) :=
  if t7 = true then
  some ((⟨#[]⟩ : ByteArray), false)
  else
  if (proto1 == 1) = true then
  some ((⟨#[]⟩ : ByteArray), true)
  else
  if ((src3.size : Int) == 4) = true then
  if (decide (src3.size + dst4.size ≤ lim)) = true then
  (F_ref07_one 0).bind fun y17 =>
  if (decide ((src3 ++ dst4).size + y17.size ≤ lim)) = true then
  (F_ref07_one proto1).bind fun y22 =>
  if (decide (((src3 ++ dst4) ++ y17).size + y22.size ≤ lim)) = true then
  (F_ref07_two (IntKind.u16.wrap nv2)).bind fun y27 =>
  if (decide ((((src3 ++ dst4) ++ y17) ++ y22).size + y27.size ≤ lim)) = true then
  some (((((src3 ++ dst4) ++ y17) ++ y22) ++ y27), true)
  else none
  else none
  else none
  else none
  else
  if (decide (src3.size + dst4.size ≤ lim)) = true then
  (F_ref07_four (IntKind.u32.wrap nv2)).bind fun y34 =>
  if (decide ((src3 ++ dst4).size + y34.size ≤ lim)) = true then
  (F_ref07_four (IntKind.u32.wrap proto1)).bind fun y39 =>
  if (decide (((src3 ++ dst4) ++ y34).size + y39.size ≤ lim)) = true then
  some ((((src3 ++ dst4) ++ y34) ++ y39), true)
  else none
  else none
  else none
def F_ref07_pseudo (proto1 : Int) (nv2 : Int) (src3 : ByteArray) (dst4 : ByteArray) : Option (ByteArray × Bool) :=
  if ((src3.size : Int) != (dst4.size : Int)) = true then
  F_ref07_pseudo_j1 proto1 nv2 src3 dst4 true
  else
  if ((src3.size : Int) != 4) = true then
  F_ref07_pseudo_j1 proto1 nv2 src3 dst4 ((src3.size : Int) != 16)
  else
  F_ref07_pseudo_j1 proto1 nv2 src3 dst4 false
def F_ref07_stands (s1 : T_ref07_Segment) (sum2 : Int) : Option ByteArray :=
  if (s1.f_Proto == 6) = true then
  (F_ref07_two s1.f_Src).bind fun y11 =>
  (F_ref07_two s1.f_Dst).bind fun y15 =>
  if (decide (y11.size + y15.size ≤ lim)) = true then
  (F_ref07_four s1.f_Seq).bind fun y20 =>
  if (decide ((y11 ++ y15).size + y20.size ≤ lim)) = true then
  (F_ref07_four s1.f_Ack).bind fun y25 =>
  if (decide (((y11 ++ y15) ++ y20).size + y25.size ≤ lim)) = true then
  (F_ref07_one (IntKind.u8.wrap (IntKind.i64.wrap (80 + (IntKind.i64.wrap ((s1.f_Options.size : Int) * 4)))))).bind fun y30 =>
  if (decide ((((y11 ++ y15) ++ y20) ++ y25).size + y30.size ≤ lim)) = true then
  (F_ref07_one s1.f_Flags).bind fun y35 =>
  if (decide (((((y11 ++ y15) ++ y20) ++ y25) ++ y30).size + y35.size ≤ lim)) = true then
  (F_ref07_two s1.f_Window).bind fun y40 =>
  if (decide ((((((y11 ++ y15) ++ y20) ++ y25) ++ y30) ++ y35).size + y40.size ≤ lim)) = true then
  (F_ref07_two sum2).bind fun y45 =>
  if (decide (((((((y11 ++ y15) ++ y20) ++ y25) ++ y30) ++ y35) ++ y40).size + y45.size ≤ lim)) = true then
  (F_ref07_two s1.f_Urgent).bind fun y50 =>
  if (decide ((((((((y11 ++ y15) ++ y20) ++ y25) ++ y30) ++ y35) ++ y40) ++ y45).size + y50.size ≤ lim)) = true then
  if (decide (((((((((y11 ++ y15) ++ y20) ++ y25) ++ y30) ++ y35) ++ y40) ++ y45) ++ y50).size + s1.f_Options.size ≤ lim)) = true then
  if (decide ((((((((((y11 ++ y15) ++ y20) ++ y25) ++ y30) ++ y35) ++ y40) ++ y45) ++ y50) ++ s1.f_Options).size + s1.f_Data.size ≤ lim)) = true then
  some ((((((((((y11 ++ y15) ++ y20) ++ y25) ++ y30) ++ y35) ++ y40) ++ y45) ++ y50) ++ s1.f_Options) ++ s1.f_Data)
  else none
  else none
  else none
  else none
  else none
  else none
  else none
  else none
  else none
  else none
  else
  if (s1.f_Proto == 17) = true then
  (F_ref07_two s1.f_Src).bind fun y59 =>
  (F_ref07_two s1.f_Dst).bind fun y63 =>
  if (decide (y59.size + y63.size ≤ lim)) = true then
  (F_ref07_two (IntKind.u16.wrap (IntKind.i64.wrap (8 + (s1.f_Data.size : Int))))).bind fun y68 =>
  if (decide ((y59 ++ y63).size + y68.size ≤ lim)) = true then
  (F_ref07_two sum2).bind fun y73 =>
  if (decide (((y59 ++ y63) ++ y68).size + y73.size ≤ lim)) = true then
  if (decide ((((y59 ++ y63) ++ y68) ++ y73).size + s1.f_Data.size ≤ lim)) = true then
  some ((((y59 ++ y63) ++ y68) ++ y73) ++ s1.f_Data)
  else none
  else none
  else none
  else none
  else
  (F_ref07_one s1.f_Type).bind fun y80 =>
  (F_ref07_one s1.f_Code).bind fun y84 =>
  if (decide (y80.size + y84.size ≤ lim)) = true then
  (F_ref07_two sum2).bind fun y89 =>
  if (decide ((y80 ++ y84).size + y89.size ≤ lim)) = true then
  if (decide (((y80 ++ y84) ++ y89).size + s1.f_Data.size ≤ lim)) = true then
  some (((y80 ++ y84) ++ y89) ++ s1.f_Data)
  else none
  else none
  else none
def F_ref03_Words_j1 (out60 : List Int) (i61 : Int) (rec63 : (List Int) → Int → Option ((List Int))) (nv77 : Int) : Option ((List Int)) :=
  if (decide (out60.length + ([nv77] : List Int).length ≤ lim)) = true then
  rec63 (out60 ++ ([nv77] : List Int)) (IntKind.i64.wrap (i61 + 2))
  else none
def F_ref03_Words_l1 (rec63 : (List Int) → Int → Option ((List Int))) (b1 : List Int) (out60 : List Int) (i61 : Int) : Option ((List Int)) :=
  if (decide (i61 < (b1.length : Int))) = true then
  (gidx b1 i61).bind fun xv71 =>
  if (decide ((IntKind.i64.wrap (i61 + 1)) < (b1.length : Int))) = true then
  (gidx b1 (IntKind.i64.wrap (i61 + 1))).bind fun xv75 =>
  F_ref03_Words_j1 out60 i61 rec63 (IntKind.u64.wrap ((IntKind.u64.wrap ((IntKind.u64.wrap xv71) * 256)) + (IntKind.u64.wrap xv75)))
  else
  F_ref03_Words_j1 out60 i61 rec63 (IntKind.u64.wrap ((IntKind.u64.wrap xv71) * 256))
  else
  some out60
def F_ref03_Words_L1 (b1 : List Int) : Nat → (List Int) → Int → Option ((List Int))
  | 0 => fun _ _ => none
  | k + 1 => F_ref03_Words_l1 (F_ref03_Words_L1 b1 k) b1
def F_ref03_Words (b1 : List Int) : Option ((List Int)) :=
  F_ref03_Words_L1 b1 fuel0 ([]) 0
def F_ref03_Fold_l1 (rec11 : Int → Option Int) (nv9 : Int) : Option Int :=
  if (decide (65535 < nv9)) = true then
  rec11 (IntKind.u64.wrap ((IntKind.u64.wrap (Int.tdiv nv9 65536)) + (Int.tmod nv9 65536)))
  else
  some nv9
def F_ref03_Fold_L1 : Nat → Int → Option Int
  | 0 => fun _ => none
  | k + 1 => F_ref03_Fold_l1 (F_ref03_Fold_L1 k)
def F_ref03_Fold (nv1 : Int) : Option Int :=
  F_ref03_Fold_L1 fuel0 nv1
def F_ref03_Sum_l1 (rec36 : Int → Int → Option Int) (y8 : (List Int)) (nv32 : Int) (i34 : Int) : Option Int :=
  if (decide (i34 < (y8.length : Int))) = true then
  (gidx y8 i34).bind fun xv43 =>
  rec36 (IntKind.u64.wrap (nv32 + xv43)) (IntKind.i64.wrap (i34 + 1))
  else
  (F_ref03_Fold nv32).bind fun y45 =>
  some y45
def F_ref03_Sum_L1 (y8 : (List Int)) : Nat → Int → Int → Option Int
  | 0 => fun _ _ => none
  | k + 1 => F_ref03_Sum_l1 (F_ref03_Sum_L1 y8 k) y8
def F_ref03_Sum (b1 : List Int) : Option Int :=
  (F_ref03_Words b1).bind fun y8 =>
  F_ref03_Sum_L1 y8 fuel0 0 0
def F_ref03_Of (b1 : List Int) : Option Int :=
  (F_ref03_Sum b1).bind fun y7 =>
  some (IntKind.u16.wrap (IntKind.u64.wrap (65535 - y7)))
def F_ref07_Put_j1 (s1 : T_ref07_Segment) (nv60 : Int) : Option ((List Int) × Int) :=
  (F_ref07_stands s1 nv60).bind fun y63 =>
  if (decide (y63.size ≤ lim)) = true then
  some ((numsOfStr y63), 0)
  else none
def F_ref07_Put_j2 (s1 : T_ref07_Segment) (y52 : Int) (t57 : Bool) : Option ((List Int) × Int) :=
  if t57 = true then
  F_ref07_Put_j1 s1 65535
  else
  F_ref07_Put_j1 s1 y52
def F_ref07_Put (s1 : T_ref07_Segment) (src2 : ByteArray) (dst3 : ByteArray) : Option ((List Int) × Int) :=
  (F_ref07_Head s1.f_Proto).bind fun y10 =>
  if (y10 == 0) = true then
  some (([] : List Int), 70)
  else
  (F_ref07_Right s1).bind fun y19 =>
  if (!y19) = true then
  some (([] : List Int), 51)
  else
  (F_ref07_Length s1).bind fun y27 =>
  (F_ref07_pseudo s1.f_Proto y27 src2 dst3).bind fun y31 =>
  if (!y31.2) = true then
  some (([] : List Int), 2)
  else
  (F_ref07_stands s1 0).bind fun y41 =>
  if (decide (y31.1.size + y41.size ≤ lim)) = true then
  if (decide ((y31.1 ++ y41).size ≤ lim)) = true then
  (F_ref03_Of (numsOfStr (y31.1 ++ y41))).bind fun y52 =>
  if (y52 == 0) = true then
  F_ref07_Put_j2 s1 y52 (s1.f_Proto == 17)
  else
  F_ref07_Put_j2 s1 y52 false
  else none
  else none
def F_ref07_Flags_j1 (f27 : Int) (i29 : Int) (rec31 : Int → ByteArray → Int → Option ByteArray) (s40 : ByteArray) : Option ByteArray :=
  rec31 (IntKind.u8.wrap (Int.tdiv f27 2)) s40 (IntKind.i64.wrap (i29 + 1))
def F_ref07_Flags_l1 (rec31 : Int → ByteArray → Int → Option ByteArray) (f27 : Int) (s28 : ByteArray) (i29 : Int) : Option ByteArray :=
  if (decide (i29 < 6)) = true then
  if ((Int.tmod f27 2) == 1) = true then
  (gcutS (⟨#[70, 83, 82, 80, 65, 85]⟩ : ByteArray) i29 (IntKind.i64.wrap (i29 + 1))).bind fun cut37 =>
  if (decide (s28.size + cut37.size ≤ lim)) = true then
  F_ref07_Flags_j1 f27 i29 rec31 (s28 ++ cut37)
  else none
  else
  F_ref07_Flags_j1 f27 i29 rec31 s28
  else
  some s28
def F_ref07_Flags_L1 : Nat → Int → ByteArray → Int → Option ByteArray
  | 0 => fun _ _ _ => none
  | k + 1 => F_ref07_Flags_l1 (F_ref07_Flags_L1 k)
def F_ref07_Flags (f1 : Int) : Option ByteArray :=
  F_ref07_Flags_L1 fuel0 f1 (⟨#[]⟩ : ByteArray) 0
def F_law07_TransPuts_l2 (rec308 : (List Int) → Int → Option Bool) (t238 : Int) (rec240 : Int → Option Bool) (b305 : List Int) (i306 : Int) : Option Bool :=
  if (decide (i306 < (b305.length : Int))) = true then
  (gidx b305 i306).bind fun xv315 =>
  (gidx b305 i306).bind fun xv318 =>
  rec308 (b305.set (i306 : Int).toNat (IntKind.u8.wrap (xv315 + 1))) (IntKind.i64.wrap (i306 + 1))
  else
  rec240 (IntKind.i64.wrap (t238 + 1))
def F_law07_TransPuts_L2 (t238 : Int) (rec240 : Int → Option Bool) : Nat → (List Int) → Int → Option Bool
  | 0 => fun _ _ => none
  | k + 1 => F_law07_TransPuts_l2 (F_law07_TransPuts_L2 t238 rec240 k) t238 rec240
def F_law07_TransPuts_j2 (t238 : Int) (rec240 : Int → Option Bool) (y246 : (List Int) × Int) (t263 : Bool) : Option Bool :=
  if t263 = true then
  some false
  else
  F_law07_TransPuts_L2 t238 rec240 fuel0 y246.1 0
def F_law07_TransPuts_j3 (t360 : Bool) : Option Bool :=
  some t360
def F_law07_TransPuts_l1 (rec240 : Int → Option Bool) (s1 : T_trans_Segment) (other8 : T_trans_Segment) (src15 : List Int) (dst19 : List Int) (f23 : Int) (y50 : T_ref07_Segment) (y59 : (List Int) × Int) (t238 : Int) : Option Bool :=
  if (decide (t238 < 2)) = true then
  (F_trans_Put s1 src15 dst19).bind fun y246 =>
  if (y246.2 != y59.2) = true then
  F_law07_TransPuts_j2 t238 rec240 y246 true
  else
  (F_ref01_Same y246.1 y59.1).bind fun y255 =>
  F_law07_TransPuts_j2 t238 rec240 y246 (!y255)
  else
  (F_trans_Right s1).bind fun y324 =>
  (F_ref07_Right y50).bind fun y328 =>
  if (y324 == y328) = true then
  (F_trans_Same s1 other8).bind fun y332 =>
  (F_docs_Trans other8).bind fun y336 =>
  if (y332 == (q_ref07_Segment y50 y336)) = true then
  (F_trans_Same s1 s1).bind fun y340 =>
  if y340 = true then
  (F_docs_Trans s1).bind fun y344 =>
  if (q_ref07_Segment y344 y50) = true then
  (F_trans_Flags f23).bind fun y348 =>
  (F_ref07_Flags f23).bind fun y352 =>
  if (y348.toList == y352.toList) = true then
  (F_law07_works).bind fun y356 =>
  F_law07_TransPuts_j3 y356
  else
  F_law07_TransPuts_j3 false
  else
  F_law07_TransPuts_j3 false
  else
  F_law07_TransPuts_j3 false
  else
  F_law07_TransPuts_j3 false
  else
  F_law07_TransPuts_j3 false
def F_law07_TransPuts_L1 (s1 : T_trans_Segment) (other8 : T_trans_Segment) (src15 : List Int) (dst19 : List Int) (f23 : Int) (y50 : T_ref07_Segment) (y59 : (List Int) × Int) : Nat → Int → Option Bool
  | 0 => fun _ => none
  | k + 1 => F_law07_TransPuts_l1 (F_law07_TransPuts_L1 s1 other8 src15 dst19 f23 y50 y59 k) s1 other8 src15 dst19 f23 y50 y59
def F_law07_TransPuts_j1 (s1 : T_trans_Segment) (other8 : T_trans_Segment) (src15 : List Int) (dst19 : List Int) (f23 : Int) (t42 : Bool) : Option Bool :=
  if t42 = true then
  (F_law07_works).bind fun y45 =>
  some y45
  else
  (F_docs_Trans s1).bind fun y50 =>
  (F_ref07_Put y50 (strOfNums src15) (strOfNums dst19)).bind fun y59 =>
  F_law07_TransPuts_L1 s1 other8 src15 dst19 f23 y50 y59 fuel0 0
def F_law07_TransPuts (s1 : T_trans_Segment) (other8 : T_trans_Segment) (src15 : List Int) (dst19 : List Int) (f23 : Int) : Option Bool :=
  (F_law07_few s1).bind fun y32 =>
  if (!y32) = true then
  F_law07_TransPuts_j1 s1 other8 src15 dst19 f23 true
  else
  (F_law07_few other8).bind fun y36 =>
  if (!y36) = true then
  F_law07_TransPuts_j1 s1 other8 src15 dst19 f23 true
  else
  if (decide (40 < (src15.length : Int))) = true then
  F_law07_TransPuts_j1 s1 other8 src15 dst19 f23 true
  else
  F_law07_TransPuts_j1 s1 other8 src15 dst19 f23 (decide (40 < (dst19.length : Int)))
def F_ref01_Get_j2 (b1 : List Int) (atv5 : Int) (v37 : Int) (i38 : Int) (rec40 : Int → Int → Option (Int × Int)) (t46 : Bool) : Option (Int × Int) :=
  if t46 = true then
  some (0, 10)
  else
  (gidx b1 (IntKind.i64.wrap (atv5 + i38))).bind fun xv51 =>
  rec40 (IntKind.u64.wrap ((IntKind.u64.wrap (v37 * 256)) + (IntKind.u64.wrap xv51))) (IntKind.i64.wrap (i38 + 1))
def F_ref01_Get_l1 (rec40 : Int → Int → Option (Int × Int)) (b1 : List Int) (atv5 : Int) (size6 : Int) (v37 : Int) (i38 : Int) : Option (Int × Int) :=
  if (decide (i38 < size6)) = true then
  if (decide ((b1.length : Int) < atv5)) = true then
  F_ref01_Get_j2 b1 atv5 v37 i38 rec40 true
  else
  F_ref01_Get_j2 b1 atv5 v37 i38 rec40 (decide ((b1.length : Int) ≤ (IntKind.i64.wrap (atv5 + i38))))
  else
  some (v37, 0)
def F_ref01_Get_L1 (b1 : List Int) (atv5 : Int) (size6 : Int) : Nat → Int → Int → Option (Int × Int)
  | 0 => fun _ _ => none
  | k + 1 => F_ref01_Get_l1 (F_ref01_Get_L1 b1 atv5 size6 k) b1 atv5 size6
def F_ref01_Get_j1 (b1 : List Int) (atv5 : Int) (size6 : Int) (t9 : Bool) : Option (Int × Int) :=
  if t9 = true then
  some (0, 2)
  else
  F_ref01_Get_L1 b1 atv5 size6 fuel0 0 0
def F_ref01_Get (b1 : List Int) (atv5 : Int) (size6 : Int) : Option (Int × Int) :=
  if (decide (size6 < 1)) = true then
  F_ref01_Get_j1 b1 atv5 size6 true
  else
  if (decide (8 < size6)) = true then
  F_ref01_Get_j1 b1 atv5 size6 true
  else
  F_ref01_Get_j1 b1 atv5 size6 (decide (atv5 < 0))
def F_ref07_number (b1 : ByteArray) (atv2 : Int) (size3 : Int) : Option Int :=
  if (decide (b1.size ≤ lim)) = true then
  (F_ref01_Get (numsOfStr b1) atv2 size3).bind fun y12 =>
  some y12.1
  else none
def F_ref07_Parse_j1 (proto1 : Int) (s121 : Int) (s122 : Int) (s123 : Int) (s124 : Int) (s125 : Int) (s126 : Int) (s127 : Int) (s128 : ByteArray) (s129 : Int) (s130 : Int) (s131 : ByteArray) : Option (T_ref07_Segment × Int) :=
  some ((T_ref07_Segment.mk proto1 s121 s122 s123 s124 s125 s126 s127 s128 s129 s130 s131), 0)
def F_ref07_Parse (proto1 : Int) (b2 : ByteArray) : Option (T_ref07_Segment × Int) :=
  (F_ref07_Head proto1).bind fun y9 =>
  if (y9 == 0) = true then
  some ((T_ref07_Segment.mk 0 0 0 0 0 0 0 0 ByteArray.empty 0 0 ByteArray.empty), 70)
  else
  (F_ref07_Head proto1).bind fun y18 =>
  if (decide ((b2.size : Int) < y18)) = true then
  some ((T_ref07_Segment.mk 0 0 0 0 0 0 0 0 ByteArray.empty 0 0 ByteArray.empty), 10)
  else
  if (decide (65535 < (b2.size : Int))) = true then
  some ((T_ref07_Segment.mk 0 0 0 0 0 0 0 0 ByteArray.empty 0 0 ByteArray.empty), 51)
  else
  if (proto1 == 6) = true then
  (gidxS b2 12).bind fun xv38 =>
  if (decide ((IntKind.i64.wrap ((IntKind.i64.wrap (Int.tdiv (IntKind.i64.wrap xv38) 16)) * 4)) < 20)) = true then
  some ((T_ref07_Segment.mk 0 0 0 0 0 0 0 0 ByteArray.empty 0 0 ByteArray.empty), 51)
  else
  if (decide ((b2.size : Int) < (IntKind.i64.wrap ((IntKind.i64.wrap (Int.tdiv (IntKind.i64.wrap xv38) 16)) * 4)))) = true then
  some ((T_ref07_Segment.mk 0 0 0 0 0 0 0 0 ByteArray.empty 0 0 ByteArray.empty), 10)
  else
  (gidxS b2 13).bind fun xv50 =>
  (gcutS b2 20 (IntKind.i64.wrap ((IntKind.i64.wrap (Int.tdiv (IntKind.i64.wrap xv38) 16)) * 4))).bind fun cut52 =>
  (gcutS b2 (IntKind.i64.wrap ((IntKind.i64.wrap (Int.tdiv (IntKind.i64.wrap xv38) 16)) * 4)) (b2.size : Int)).bind fun cut54 =>
  (F_ref07_number b2 0 2).bind fun y56 =>
  (F_ref07_number b2 2 2).bind fun y60 =>
  (F_ref07_number b2 4 4).bind fun y64 =>
  (F_ref07_number b2 8 4).bind fun y68 =>
  (F_ref07_number b2 14 2).bind fun y72 =>
  (F_ref07_number b2 18 2).bind fun y76 =>
  F_ref07_Parse_j1 proto1 (IntKind.u16.wrap y56) (IntKind.u16.wrap y60) (IntKind.u32.wrap y64) (IntKind.u32.wrap y68) xv50 (IntKind.u16.wrap y72) (IntKind.u16.wrap y76) cut52 0 0 cut54
  else
  if (proto1 == 17) = true then
  (F_ref07_number b2 4 2).bind fun y83 =>
  if (decide ((IntKind.i64.wrap y83) < 8)) = true then
  some ((T_ref07_Segment.mk 0 0 0 0 0 0 0 0 ByteArray.empty 0 0 ByteArray.empty), 51)
  else
  if (decide ((b2.size : Int) < (IntKind.i64.wrap y83))) = true then
  some ((T_ref07_Segment.mk 0 0 0 0 0 0 0 0 ByteArray.empty 0 0 ByteArray.empty), 10)
  else
  (F_ref07_number b2 0 2).bind fun y98 =>
  (F_ref07_number b2 2 2).bind fun y104 =>
  (gcutS b2 8 (IntKind.i64.wrap y83)).bind fun cut109 =>
  F_ref07_Parse_j1 proto1 (IntKind.u16.wrap y98) (IntKind.u16.wrap y104) 0 0 0 0 0 ByteArray.empty 0 0 cut109
  else
  (gidxS b2 0).bind fun xv113 =>
  (gidxS b2 1).bind fun xv117 =>
  (gcutS b2 4 (b2.size : Int)).bind fun cut120 =>
  F_ref07_Parse_j1 proto1 0 0 0 0 0 0 0 ByteArray.empty xv113 xv117 cut120
def F_sum_Whole_j1 (t11 : Bool) : Option Bool :=
  some t11
def F_sum_Whole (lv1 : List (List Int)) : Option Bool :=
  (F_sum_Of lv1).bind fun y7 =>
  if (y7 == 0) = true then
  F_sum_Whole_j1 true
  else
  F_sum_Whole_j1 (y7 == 65535)
def F_trans_Sound_j2 (t83 : Bool) : Option Bool :=
  some t83
def F_trans_Sound_j1 (cut49 : List Int) (y57 : (List Int) × Bool) (none74 : Bool) : Option Bool :=
  if none74 = true then
  F_trans_Sound_j2 true
  else
  (F_sum_Whole ([y57.1, cut49])).bind fun y79 =>
  F_trans_Sound_j2 y79
def F_trans_Sound_j4 (t128 : Bool) : Option Bool :=
  some t128
def F_trans_Sound_j3 (cut94 : List Int) (y102 : (List Int) × Bool) (none119 : Bool) : Option Bool :=
  if none119 = true then
  F_trans_Sound_j4 true
  else
  (F_sum_Whole ([y102.1, cut94])).bind fun y124 =>
  F_trans_Sound_j4 y124
def F_trans_Sound_j6 (t173 : Bool) : Option Bool :=
  some t173
def F_trans_Sound_j5 (cut139 : List Int) (y147 : (List Int) × Bool) (none164 : Bool) : Option Bool :=
  if none164 = true then
  F_trans_Sound_j6 true
  else
  (F_sum_Whole ([y147.1, cut139])).bind fun y169 =>
  F_trans_Sound_j6 y169
def F_trans_Sound_j8 (t218 : Bool) : Option Bool :=
  some t218
def F_trans_Sound_j7 (cut184 : List Int) (y192 : (List Int) × Bool) (none209 : Bool) : Option Bool :=
  if none209 = true then
  F_trans_Sound_j8 true
  else
  (F_sum_Whole ([y192.1, cut184])).bind fun y214 =>
  F_trans_Sound_j8 y214
def F_trans_Sound_j10 (t263 : Bool) : Option Bool :=
  some t263
def F_trans_Sound_j9 (cut229 : List Int) (y237 : (List Int) × Bool) (none254 : Bool) : Option Bool :=
  if none254 = true then
  F_trans_Sound_j10 true
  else
  (F_sum_Whole ([y237.1, cut229])).bind fun y259 =>
  F_trans_Sound_j10 y259
def F_trans_Sound (proto1 : Int) (b2 : List Int) (src6 : List Int) (dst10 : List Int) : Option Bool :=
  (F_trans_Parse proto1 b2).bind fun y16 =>
  if (y16.2 != 0) = true then
  some false
  else
  (F_trans_protocols).bind fun y34 =>
  if (proto1 == 6) = true then
  (gcut b2 0 (IntKind.i64.wrap ((IntKind.i64.wrap (20 + (y16.1.f_Options.length : Int))) + (y16.1.f_Data.length : Int)))).bind fun cut49 =>
  (F_trans_pseudo proto1 (cut49.length : Int) src6 dst10).bind fun y57 =>
  if (!y57.2) = true then
  some false
  else
  if (proto1 == 17) = true then
  if ((src6.length : Int) == 4) = true then
  (gidx cut49 6).bind fun xv69 =>
  if (xv69 == 0) = true then
  (gidx cut49 7).bind fun xv72 =>
  F_trans_Sound_j1 cut49 y57 (xv72 == 0)
  else
  F_trans_Sound_j1 cut49 y57 false
  else
  F_trans_Sound_j1 cut49 y57 false
  else
  F_trans_Sound_j1 cut49 y57 false
  else
  if (proto1 == 17) = true then
  (gcut b2 0 (IntKind.i64.wrap ((IntKind.i64.wrap (8 + (y16.1.f_Options.length : Int))) + (y16.1.f_Data.length : Int)))).bind fun cut94 =>
  (F_trans_pseudo proto1 (cut94.length : Int) src6 dst10).bind fun y102 =>
  if (!y102.2) = true then
  some false
  else
  if (proto1 == 17) = true then
  if ((src6.length : Int) == 4) = true then
  (gidx cut94 6).bind fun xv114 =>
  if (xv114 == 0) = true then
  (gidx cut94 7).bind fun xv117 =>
  F_trans_Sound_j3 cut94 y102 (xv117 == 0)
  else
  F_trans_Sound_j3 cut94 y102 false
  else
  F_trans_Sound_j3 cut94 y102 false
  else
  F_trans_Sound_j3 cut94 y102 false
  else
  if (proto1 == 1) = true then
  (gcut b2 0 (IntKind.i64.wrap ((IntKind.i64.wrap (4 + (y16.1.f_Options.length : Int))) + (y16.1.f_Data.length : Int)))).bind fun cut139 =>
  (F_trans_pseudo proto1 (cut139.length : Int) src6 dst10).bind fun y147 =>
  if (!y147.2) = true then
  some false
  else
  if (proto1 == 17) = true then
  if ((src6.length : Int) == 4) = true then
  (gidx cut139 6).bind fun xv159 =>
  if (xv159 == 0) = true then
  (gidx cut139 7).bind fun xv162 =>
  F_trans_Sound_j5 cut139 y147 (xv162 == 0)
  else
  F_trans_Sound_j5 cut139 y147 false
  else
  F_trans_Sound_j5 cut139 y147 false
  else
  F_trans_Sound_j5 cut139 y147 false
  else
  if (proto1 == 58) = true then
  (gcut b2 0 (IntKind.i64.wrap ((IntKind.i64.wrap (4 + (y16.1.f_Options.length : Int))) + (y16.1.f_Data.length : Int)))).bind fun cut184 =>
  (F_trans_pseudo proto1 (cut184.length : Int) src6 dst10).bind fun y192 =>
  if (!y192.2) = true then
  some false
  else
  if (proto1 == 17) = true then
  if ((src6.length : Int) == 4) = true then
  (gidx cut184 6).bind fun xv204 =>
  if (xv204 == 0) = true then
  (gidx cut184 7).bind fun xv207 =>
  F_trans_Sound_j7 cut184 y192 (xv207 == 0)
  else
  F_trans_Sound_j7 cut184 y192 false
  else
  F_trans_Sound_j7 cut184 y192 false
  else
  F_trans_Sound_j7 cut184 y192 false
  else
  (gcut b2 0 (IntKind.i64.wrap ((IntKind.i64.wrap (0 + (y16.1.f_Options.length : Int))) + (y16.1.f_Data.length : Int)))).bind fun cut229 =>
  (F_trans_pseudo proto1 (cut229.length : Int) src6 dst10).bind fun y237 =>
  if (!y237.2) = true then
  some false
  else
  if (proto1 == 17) = true then
  if ((src6.length : Int) == 4) = true then
  (gidx cut229 6).bind fun xv249 =>
  if (xv249 == 0) = true then
  (gidx cut229 7).bind fun xv252 =>
  F_trans_Sound_j9 cut229 y237 (xv252 == 0)
  else
  F_trans_Sound_j9 cut229 y237 false
  else
  F_trans_Sound_j9 cut229 y237 false
  else
  F_trans_Sound_j9 cut229 y237 false
def F_ref03_Whole_j1 (t14 : Bool) : Option Bool :=
  some t14
def F_ref03_Whole (b1 : List Int) : Option Bool :=
  (F_ref03_Sum b1).bind fun y6 =>
  if (y6 == 65535) = true then
  F_ref03_Whole_j1 true
  else
  (F_ref03_Sum b1).bind fun y10 =>
  F_ref03_Whole_j1 (y10 == 0)
def F_ref07_Sound_j1 (cut23 : ByteArray) (y26 : ByteArray × Bool) (t38 : Bool) : Option Bool :=
  if t38 = true then
  some true
  else
  if (decide (y26.1.size + cut23.size ≤ lim)) = true then
  if (decide ((y26.1 ++ cut23).size ≤ lim)) = true then
  (F_ref03_Whole (numsOfStr (y26.1 ++ cut23))).bind fun y49 =>
  some y49
  else none
  else none
def F_ref07_Sound (proto1 : Int) (b2 : ByteArray) (src3 : ByteArray) (dst4 : ByteArray) : Option Bool :=
  (F_ref07_Parse proto1 b2).bind fun y7 =>
  if (y7.2 != 0) = true then
  some false
  else
  (F_ref07_Length y7.1).bind fun y19 =>
  (gcutS b2 0 y19).bind fun cut23 =>
  (F_ref07_pseudo proto1 (cut23.size : Int) src3 dst4).bind fun y26 =>
  if (!y26.2) = true then
  some false
  else
  if (proto1 == 17) = true then
  if ((src3.size : Int) == 4) = true then
  (gidxS cut23 6).bind fun xv34 =>
  if (xv34 == 0) = true then
  (gidxS cut23 7).bind fun xv36 =>
  F_ref07_Sound_j1 cut23 y26 (xv36 == 0)
  else
  F_ref07_Sound_j1 cut23 y26 false
  else
  F_ref07_Sound_j1 cut23 y26 false
  else
  F_ref07_Sound_j1 cut23 y26 false
def F_law07_TransParses_l3 (rec440 : (List Int) → Int → Option Bool) (t312 : Int) (rec314 : Int → Option Bool) (s436 : List Int) (i438 : Int) : Option Bool :=
  if (decide (i438 < (s436.length : Int))) = true then
  (gidx s436 i438).bind fun xv447 =>
  (gidx s436 i438).bind fun xv450 =>
  rec440 (s436.set (i438 : Int).toNat (IntKind.u8.wrap (xv447 + 1))) (IntKind.i64.wrap (i438 + 1))
  else
  rec314 (IntKind.i64.wrap (t312 + 1))
def F_law07_TransParses_L3 (t312 : Int) (rec314 : Int → Option Bool) : Nat → (List Int) → Int → Option Bool
  | 0 => fun _ _ => none
  | k + 1 => F_law07_TransParses_l3 (F_law07_TransParses_L3 t312 rec314 k) t312 rec314
def F_law07_TransParses_l2 (rec387 : (List Int) → Int → Option Bool) (t312 : Int) (rec314 : Int → Option Bool) (y320 : T_trans_Segment × Int) (s384 : List Int) (i385 : Int) : Option Bool :=
  if (decide (i385 < (s384.length : Int))) = true then
  (gidx s384 i385).bind fun xv394 =>
  (gidx s384 i385).bind fun xv397 =>
  rec387 (s384.set (i385 : Int).toNat (IntKind.u8.wrap (xv394 + 1))) (IntKind.i64.wrap (i385 + 1))
  else
  F_law07_TransParses_L3 t312 rec314 fuel0 y320.1.f_Options 0
def F_law07_TransParses_L2 (t312 : Int) (rec314 : Int → Option Bool) (y320 : T_trans_Segment × Int) : Nat → (List Int) → Int → Option Bool
  | 0 => fun _ _ => none
  | k + 1 => F_law07_TransParses_l2 (F_law07_TransParses_L2 t312 rec314 y320 k) t312 rec314 y320
def F_law07_TransParses_j2 (t312 : Int) (rec314 : Int → Option Bool) (y320 : T_trans_Segment × Int) (t343 : Bool) : Option Bool :=
  if t343 = true then
  some false
  else
  F_law07_TransParses_L2 t312 rec314 y320 fuel0 y320.1.f_Data 0
def F_law07_TransParses_j3 (t465 : Bool) : Option Bool :=
  some t465
def F_law07_TransParses_l1 (rec314 : Int → Option Bool) (proto1 : Int) (b2 : List Int) (src6 : List Int) (dst10 : List Int) (y25 : T_ref07_Segment × Int) (t312 : Int) : Option Bool :=
  if (decide (t312 < 2)) = true then
  (F_trans_Parse proto1 b2).bind fun y320 =>
  if (y320.2 != y25.2) = true then
  F_law07_TransParses_j2 t312 rec314 y320 true
  else
  (F_docs_Trans y320.1).bind fun y335 =>
  F_law07_TransParses_j2 t312 rec314 y320 (!(q_ref07_Segment y335 y25.1))
  else
  (F_trans_Sound proto1 b2 src6 dst10).bind fun y453 =>
  (F_ref07_Sound proto1 (strOfNums b2) (strOfNums src6) (strOfNums dst10)).bind fun y457 =>
  if (y453 == y457) = true then
  if ((strOfNums b2).toList == (strOfNums b2).toList) = true then
  (F_law07_works).bind fun y461 =>
  F_law07_TransParses_j3 y461
  else
  F_law07_TransParses_j3 false
  else
  F_law07_TransParses_j3 false
def F_law07_TransParses_L1 (proto1 : Int) (b2 : List Int) (src6 : List Int) (dst10 : List Int) (y25 : T_ref07_Segment × Int) : Nat → Int → Option Bool
  | 0 => fun _ => none
  | k + 1 => F_law07_TransParses_l1 (F_law07_TransParses_L1 proto1 b2 src6 dst10 y25 k) proto1 b2 src6 dst10 y25
def F_law07_TransParses_j1 (proto1 : Int) (b2 : List Int) (src6 : List Int) (dst10 : List Int) (t16 : Bool) : Option Bool :=
  if t16 = true then
  (F_law07_works).bind fun y19 =>
  some y19
  else
  (F_ref07_Parse proto1 (strOfNums b2)).bind fun y25 =>
  F_law07_TransParses_L1 proto1 b2 src6 dst10 y25 fuel0 0
def F_law07_TransParses (proto1 : Int) (b2 : List Int) (src6 : List Int) (dst10 : List Int) : Option Bool :=
  if (decide (400 < (b2.length : Int))) = true then
  F_law07_TransParses_j1 proto1 b2 src6 dst10 true
  else
  if (decide (40 < (src6.length : Int))) = true then
  F_law07_TransParses_j1 proto1 b2 src6 dst10 true
  else
  F_law07_TransParses_j1 proto1 b2 src6 dst10 (decide (40 < (dst10.length : Int)))
def F_ref01_Join (av1 : List Int) (b5 : List Int) : Option ((List Int)) :=
  if (decide (av1.length ≤ lim)) = true then
  if (decide (av1.length + b5.length ≤ lim)) = true then
  some (av1 ++ b5)
  else none
  else none
def F_kit_Pick (i1 : Int) (nv2 : Int) : Option Int :=
  if (decide (nv2 ≤ 0)) = true then
  some 0
  else
  if (decide (nv2 ≠ 0)) = true then
  if (decide (nv2 ≠ 0)) = true then
  some (Int.tmod (IntKind.i64.wrap ((Int.tmod i1 nv2) + nv2)) nv2)
  else none
  else none
def F_law07_shorter_j1 (t8 : Bool) : Option Bool :=
  some t8
def F_law07_shorter (proto1 : Int) (b2 : List Int) (atv6 : Int) : Option Bool :=
  if (proto1 == 17) = true then
  if (atv6 == 4) = true then
  F_law07_shorter_j1 true
  else
  F_law07_shorter_j1 (atv6 == 5)
  else
  F_law07_shorter_j1 false
def F_law07_TransBack_j2 (t45 : Bool) : Option Bool :=
  some t45
def F_law07_TransBack_j5 (t121 : Bool) : Option Bool :=
  if t121 = true then
  some false
  else
  (F_law07_works).bind fun y125 =>
  some y125
def F_law07_TransBack_j4 (s1 : T_trans_Segment) (src8 : List Int) (dst12 : List Int) (byv17 : Int) (y81 : (List Int)) (y89 : Int) (xv96 : Int) (none110 : Bool) : Option Bool :=
  if (decide (0 < byv17)) = true then
  if (!none110) = true then
  (F_trans_Sound s1.f_Proto (y81.set (y89 : Int).toNat (IntKind.u8.wrap (xv96 + byv17))) src8 dst12).bind fun y113 =>
  if y113 = true then
  (F_law07_shorter s1.f_Proto (y81.set (y89 : Int).toNat (IntKind.u8.wrap (xv96 + byv17))) y89).bind fun y117 =>
  F_law07_TransBack_j5 (!y117)
  else
  F_law07_TransBack_j5 false
  else
  F_law07_TransBack_j5 false
  else
  F_law07_TransBack_j5 false
def F_law07_TransBack_j3 (s1 : T_trans_Segment) (src8 : List Int) (dst12 : List Int) (atv16 : Int) (byv17 : Int) (y32 : (List Int) × Int) (t77 : Bool) : Option Bool :=
  if t77 = true then
  some false
  else
  (F_ref01_Join [] y32.1).bind fun y81 =>
  (F_kit_Pick atv16 (gmax 1 (y81.length : Int))).bind fun y89 =>
  (gidx y81 y89).bind fun xv96 =>
  (gidx y81 y89).bind fun xv99 =>
  if (s1.f_Proto == 17) = true then
  (gidx (y81.set (y89 : Int).toNat (IntKind.u8.wrap (xv96 + byv17))) 6).bind fun xv104 =>
  if (xv104 == 0) = true then
  (gidx (y81.set (y89 : Int).toNat (IntKind.u8.wrap (xv96 + byv17))) 7).bind fun xv107 =>
  F_law07_TransBack_j4 s1 src8 dst12 byv17 y81 y89 xv96 (xv107 == 0)
  else
  F_law07_TransBack_j4 s1 src8 dst12 byv17 y81 y89 xv96 false
  else
  F_law07_TransBack_j4 s1 src8 dst12 byv17 y81 y89 xv96 false
def F_law07_TransBack_j1 (s1 : T_trans_Segment) (src8 : List Int) (dst12 : List Int) (atv16 : Int) (byv17 : Int) (t24 : Bool) : Option Bool :=
  if t24 = true then
  (F_law07_works).bind fun y27 =>
  some y27
  else
  (F_trans_Put s1 src8 dst12).bind fun y32 =>
  if (y32.2 != 0) = true then
  if ((y32.1.length : Int) == 0) = true then
  (F_law07_works).bind fun y41 =>
  F_law07_TransBack_j2 y41
  else
  F_law07_TransBack_j2 false
  else
  (F_trans_Parse s1.f_Proto y32.1).bind fun y48 =>
  if (y48.2 != 0) = true then
  F_law07_TransBack_j3 s1 src8 dst12 atv16 byv17 y32 true
  else
  (F_trans_Same y48.1 s1).bind fun y63 =>
  if (!y63) = true then
  F_law07_TransBack_j3 s1 src8 dst12 atv16 byv17 y32 true
  else
  (F_trans_Sound s1.f_Proto y32.1 src8 dst12).bind fun y67 =>
  if (!y67) = true then
  F_law07_TransBack_j3 s1 src8 dst12 atv16 byv17 y32 true
  else
  (F_trans_Sound s1.f_Proto y32.1 dst12 src8).bind fun y71 =>
  F_law07_TransBack_j3 s1 src8 dst12 atv16 byv17 y32 (!y71)
def F_law07_TransBack (s1 : T_trans_Segment) (src8 : List Int) (dst12 : List Int) (atv16 : Int) (byv17 : Int) : Option Bool :=
  if (decide (100 < (s1.f_Options.length : Int))) = true then
  F_law07_TransBack_j1 s1 src8 dst12 atv16 byv17 true
  else
  if (decide (300 < (s1.f_Data.length : Int))) = true then
  F_law07_TransBack_j1 s1 src8 dst12 atv16 byv17 true
  else
  if (decide (40 < (src8.length : Int))) = true then
  F_law07_TransBack_j1 s1 src8 dst12 atv16 byv17 true
  else
  F_law07_TransBack_j1 s1 src8 dst12 atv16 byv17 (decide (40 < (dst12.length : Int)))
def F_law07_TransKnown_j9 (nv1446 : Int) (rec1448 : Int → Option Bool) (t1537 : Bool) : Option Bool :=
  if t1537 = true then
  some false
  else
  rec1448 (IntKind.i64.wrap (nv1446 + 1))
def F_law07_TransKnown_j8 (src1077 : List Int) (dst1081 : List Int) (s1147 : Int) (y1239 : (List Int) × Int) (nv1446 : Int) (rec1448 : Int → Option Bool) (turned1492 : List Int) : Option Bool :=
  (gcut y1239.1 0 nv1446).bind fun cut1494 =>
  (F_law07_TransParses s1147 cut1494 src1077 dst1081).bind fun y1501 =>
  if (!y1501) = true then
  F_law07_TransKnown_j9 nv1446 rec1448 true
  else
  (F_law07_TransParses s1147 turned1492 src1077 dst1081).bind fun y1505 =>
  if (!y1505) = true then
  F_law07_TransKnown_j9 nv1446 rec1448 true
  else
  (gcut src1077 0 3).bind fun cut1509 =>
  if (decide (turned1492.length + ([1] : List Int).length ≤ lim)) = true then
  (F_law07_TransParses s1147 (turned1492 ++ ([1] : List Int)) dst1081 cut1509).bind fun y1524 =>
  F_law07_TransKnown_j9 nv1446 rec1448 (!y1524)
  else none
def F_law07_TransKnown_j7 (data1034 : List Int) (i1037 : Int) (rec1039 : (List Int) → Int → Option Bool) (src1077 : List Int) (dst1081 : List Int) (s1147 : Int) (y1239 : (List Int) × Int) (nv1446 : Int) (rec1448 : Int → Option Bool) (t1460 : Bool) : Option Bool :=
  if t1460 = true then
  (F_ref01_Join [] y1239.1).bind fun y1464 =>
  if (decide (nv1446 < (y1239.1.length : Int))) = true then
  (gidx y1464 nv1446).bind fun xv1474 =>
  (gidx y1464 nv1446).bind fun xv1477 =>
  F_law07_TransKnown_j8 src1077 dst1081 s1147 y1239 nv1446 rec1448 (y1464.set (nv1446 : Int).toNat (IntKind.u8.wrap (xv1474 + 16)))
  else
  F_law07_TransKnown_j8 src1077 dst1081 s1147 y1239 nv1446 rec1448 y1464
  else
  rec1039 (data1034 ++ ([(IntKind.u8.wrap (IntKind.i64.wrap (i1037 * 53)))] : List Int)) (IntKind.i64.wrap (i1037 + 1))
def F_law07_TransKnown_l2 (rec1448 : Int → Option Bool) (data1034 : List Int) (i1037 : Int) (rec1039 : (List Int) → Int → Option Bool) (src1077 : List Int) (dst1081 : List Int) (s1147 : Int) (y1239 : (List Int) × Int) (nv1446 : Int) : Option Bool :=
  if (decide (nv1446 ≤ (y1239.1.length : Int))) = true then
  F_law07_TransKnown_j7 data1034 i1037 rec1039 src1077 dst1081 s1147 y1239 nv1446 rec1448 (decide (i1037 < 12))
  else
  F_law07_TransKnown_j7 data1034 i1037 rec1039 src1077 dst1081 s1147 y1239 nv1446 rec1448 false
def F_law07_TransKnown_L2 (data1034 : List Int) (i1037 : Int) (rec1039 : (List Int) → Int → Option Bool) (src1077 : List Int) (dst1081 : List Int) (s1147 : Int) (y1239 : (List Int) × Int) : Nat → Int → Option Bool
  | 0 => fun _ => none
  | k + 1 => F_law07_TransKnown_l2 (F_law07_TransKnown_L2 data1034 i1037 rec1039 src1077 dst1081 s1147 y1239 k) data1034 i1037 rec1039 src1077 dst1081 s1147 y1239
def F_law07_TransKnown_j6 (data1034 : List Int) (i1037 : Int) (rec1039 : (List Int) → Int → Option Bool) (src1077 : List Int) (dst1081 : List Int) (s1122 : List Int) (s1147 : Int) (s1148 : Int) (s1149 : Int) (s1150 : Int) (s1151 : Int) (s1152 : Int) (s1153 : Int) (s1154 : Int) (s1158 : List Int) (s1159 : Int) (s1160 : Int) (t1235 : Bool) : Option Bool :=
  if t1235 = true then
  some false
  else
  (F_trans_Put (T_trans_Segment.mk s1147 s1148 s1149 s1150 s1151 s1152 s1153 s1154 s1158 s1159 s1160 s1122) src1077 dst1081).bind fun y1239 =>
  F_law07_TransKnown_L2 data1034 i1037 rec1039 src1077 dst1081 s1147 y1239 fuel0 0
def F_law07_TransKnown_j5 (data1034 : List Int) (i1037 : Int) (rec1039 : (List Int) → Int → Option Bool) (src1077 : List Int) (dst1081 : List Int) (s1122 : List Int) (s1147 : Int) (s1148 : Int) (s1149 : Int) (s1150 : Int) (s1151 : Int) (s1152 : Int) (s1153 : Int) (s1154 : Int) (s1158 : List Int) (s1159 : Int) (s1160 : Int) (t1199 : Int) (t1200 : Int) (t1204 : List Int) (t1205 : Int) : Option Bool :=
  (F_law07_TransPuts (T_trans_Segment.mk s1147 s1148 s1149 s1150 s1151 s1152 s1153 s1154 s1158 s1159 s1160 s1122) (T_trans_Segment.mk t1199 t1200 s1149 s1150 s1151 s1152 s1153 s1154 t1204 t1205 s1160 s1122) src1077 dst1081 (IntKind.u8.wrap (IntKind.i64.wrap (i1037 * 3)))).bind fun y1208 =>
  if (!y1208) = true then
  F_law07_TransKnown_j6 data1034 i1037 rec1039 src1077 dst1081 s1122 s1147 s1148 s1149 s1150 s1151 s1152 s1153 s1154 s1158 s1159 s1160 true
  else
  (gcut dst1081 0 (IntKind.i64.wrap ((dst1081.length : Int) - (Int.tmod i1037 2)))).bind fun cut1212 =>
  (F_law07_TransPuts (T_trans_Segment.mk t1199 t1200 s1149 s1150 s1151 s1152 s1153 s1154 t1204 t1205 s1160 s1122) (T_trans_Segment.mk s1147 s1148 s1149 s1150 s1151 s1152 s1153 s1154 s1158 s1159 s1160 s1122) src1077 cut1212 255).bind fun y1219 =>
  if (!y1219) = true then
  F_law07_TransKnown_j6 data1034 i1037 rec1039 src1077 dst1081 s1122 s1147 s1148 s1149 s1150 s1151 s1152 s1153 s1154 s1158 s1159 s1160 true
  else
  (F_law07_TransBack (T_trans_Segment.mk s1147 s1148 s1149 s1150 s1151 s1152 s1153 s1154 s1158 s1159 s1160 s1122) src1077 dst1081 (IntKind.i64.wrap (i1037 * 3)) (IntKind.u8.wrap (IntKind.i64.wrap (1 + i1037)))).bind fun y1223 =>
  F_law07_TransKnown_j6 data1034 i1037 rec1039 src1077 dst1081 s1122 s1147 s1148 s1149 s1150 s1151 s1152 s1153 s1154 s1158 s1159 s1160 (!y1223)
def F_law07_TransKnown_j4 (data1034 : List Int) (i1037 : Int) (rec1039 : (List Int) → Int → Option Bool) (src1077 : List Int) (dst1081 : List Int) (s1122 : List Int) (s1147 : Int) (s1148 : Int) (s1149 : Int) (s1150 : Int) (s1151 : Int) (s1152 : Int) (s1153 : Int) (s1154 : Int) (s1158 : List Int) (s1159 : Int) (s1160 : Int) : Option Bool :=
  if ((Int.tmod i1037 7) == 0) = true then
  F_law07_TransKnown_j5 data1034 i1037 rec1039 src1077 dst1081 s1122 s1147 s1148 s1149 s1150 s1151 s1152 s1153 s1154 s1158 s1159 s1160 s1147 s1148 s1158 1
  else
  if ((Int.tmod i1037 7) == 1) = true then
  F_law07_TransKnown_j5 data1034 i1037 rec1039 src1077 dst1081 s1122 s1147 s1148 s1149 s1150 s1151 s1152 s1153 s1154 s1158 s1159 s1160 s1147 9 s1158 s1159
  else
  if ((Int.tmod i1037 7) == 2) = true then
  (gcut (data1034 ++ ([(IntKind.u8.wrap (IntKind.i64.wrap (i1037 * 53)))] : List Int)) 0 (gmin 3 ((data1034 ++ ([(IntKind.u8.wrap (IntKind.i64.wrap (i1037 * 53)))] : List Int)).length : Int))).bind fun cut1174 =>
  F_law07_TransKnown_j5 data1034 i1037 rec1039 src1077 dst1081 s1122 s1147 s1148 s1149 s1150 s1151 s1152 s1153 s1154 s1158 s1159 s1160 s1147 s1148 cut1174 s1159
  else
  if ((Int.tmod i1037 7) == 3) = true then
  F_law07_TransKnown_j5 data1034 i1037 rec1039 src1077 dst1081 s1122 s1147 s1148 s1149 s1150 s1151 s1152 s1153 s1154 s1158 s1159 s1160 (IntKind.u8.wrap i1037) s1148 s1158 s1159
  else
  if ((Int.tmod i1037 7) == 4) = true then
  if (decide (0 ≤ 44 ∧ 44 ≤ lim)) = true then
  F_law07_TransKnown_j5 data1034 i1037 rec1039 src1077 dst1081 s1122 s1147 s1148 s1149 s1150 s1151 s1152 s1153 s1154 s1158 s1159 s1160 s1147 s1148 (List.replicate (Int.toNat 44) (0 : Int)) s1159
  else none
  else
  F_law07_TransKnown_j5 data1034 i1037 rec1039 src1077 dst1081 s1122 s1147 s1148 s1149 s1150 s1151 s1152 s1153 s1154 s1158 s1159 s1160 s1147 s1148 s1158 s1159
def F_law07_TransKnown_j3 (data1034 : List Int) (i1037 : Int) (rec1039 : (List Int) → Int → Option Bool) (src1077 : List Int) (dst1081 : List Int) (s1118 : Int) (s1122 : List Int) : Option Bool :=
  if ((Int.tmod i1037 4) == 0) = true then
  (gcut (data1034 ++ ([(IntKind.u8.wrap (IntKind.i64.wrap (i1037 * 53)))] : List Int)) 0 (Int.tmod (IntKind.i64.wrap ((IntKind.i64.wrap (Int.tdiv i1037 4)) * 4)) 44)).bind fun cut1126 =>
  F_law07_TransKnown_j4 data1034 i1037 rec1039 src1077 dst1081 s1122 6 (IntKind.u16.wrap i1037) 80 (Ox.shl .u32 (IntKind.u32.wrap i1037) 24) 2147483648 (IntKind.u8.wrap (IntKind.i64.wrap (i1037 * 5))) 65535 (IntKind.u16.wrap i1037) cut1126 0 0
  else
  if ((Int.tmod i1037 4) == 1) = true then
  F_law07_TransKnown_j4 data1034 i1037 rec1039 src1077 dst1081 s1122 s1118 (IntKind.u16.wrap (IntKind.i64.wrap (i1037 * 1300))) 53 0 0 0 0 0 ([]) 0 0
  else
  F_law07_TransKnown_j4 data1034 i1037 rec1039 src1077 dst1081 s1122 s1118 0 0 0 0 0 0 0 ([]) (IntKind.u8.wrap i1037) (IntKind.u8.wrap (IntKind.i64.wrap (Int.tdiv i1037 5)))
def F_law07_TransKnown_j2 (data1034 : List Int) (i1037 : Int) (rec1039 : (List Int) → Int → Option Bool) (src1077 : List Int) (dst1081 : List Int) : Option Bool :=
  if (decide (((data1034 ++ ([(IntKind.u8.wrap (IntKind.i64.wrap (i1037 * 53)))] : List Int)).length : Int) ≠ 0)) = true then
  (gcut (data1034 ++ ([(IntKind.u8.wrap (IntKind.i64.wrap (i1037 * 53)))] : List Int)) 0 (Int.tmod (Int.tmod (IntKind.i64.wrap (i1037 * 7)) 48) ((data1034 ++ ([(IntKind.u8.wrap (IntKind.i64.wrap (i1037 * 53)))] : List Int)).length : Int))).bind fun cut1084 =>
  (gidx ([6, 17, 1, 58] : List Int) (Int.tmod i1037 4)).bind fun xv1096 =>
  F_law07_TransKnown_j3 data1034 i1037 rec1039 src1077 dst1081 xv1096 cut1084
  else none
def F_law07_TransKnown_j10 (t1566 : Bool) : Option Bool :=
  some t1566
def F_law07_TransKnown_l1 (rec1039 : (List Int) → Int → Option Bool) (data1034 : List Int) (i1037 : Int) : Option Bool :=
  if (decide (i1037 < 48)) = true then
  if (decide (data1034.length + ([(IntKind.u8.wrap (IntKind.i64.wrap (i1037 * 53)))] : List Int).length ≤ lim)) = true then
  if (decide (2 < (Int.tmod i1037 5))) = true then
  if (decide (([] : List Int).length + (List.replicate (Int.toNat 16) (0 : Int)).length ≤ lim)) = true then
  (gidx (([] : List Int) ++ (List.replicate (Int.toNat 16) (0 : Int))) 15).bind fun xv1068 =>
  F_law07_TransKnown_j2 data1034 i1037 rec1039 (List.replicate (Int.toNat 16) (0 : Int)) ((([] : List Int) ++ (List.replicate (Int.toNat 16) (0 : Int))).set (15 : Int).toNat (IntKind.u8.wrap i1037))
  else none
  else
  F_law07_TransKnown_j2 data1034 i1037 rec1039 ([10, 0, 0, 1] : List Int) ([10, 0, 0, (IntKind.u8.wrap i1037)] : List Int)
  else none
  else
  (F_law07_TransParses 17 ([0, 1, 0, 1, 0, 8, 0, 0] : List Int) ([10, 0, 0, 1] : List Int) ([10, 0, 0, 1] : List Int)).bind fun y1543 =>
  if y1543 = true then
  (F_law07_TransParses 17 ([0, 1, 0, 1, 0, 8, 0, 0] : List Int) (List.replicate (Int.toNat 16) (0 : Int)) (List.replicate (Int.toNat 16) (0 : Int))).bind fun y1550 =>
  if y1550 = true then
  if (decide (0 ≤ 65536 ∧ 65536 ≤ lim)) = true then
  (F_law07_TransPuts (T_trans_Segment.mk 17 0 0 0 0 0 0 0 ([]) 0 0 (List.replicate (Int.toNat 65536) (0 : Int))) (T_trans_Segment.mk 0 0 0 0 0 0 0 0 ([]) 0 0 ([])) ([10, 0, 0, 1] : List Int) ([10, 0, 0, 1] : List Int) 0).bind fun y1558 =>
  if y1558 = true then
  (F_law07_works).bind fun y1562 =>
  F_law07_TransKnown_j10 y1562
  else
  F_law07_TransKnown_j10 false
  else none
  else
  F_law07_TransKnown_j10 false
  else
  F_law07_TransKnown_j10 false
def F_law07_TransKnown_L1 : Nat → (List Int) → Int → Option Bool
  | 0 => fun _ _ => none
  | k + 1 => F_law07_TransKnown_l1 (F_law07_TransKnown_L1 k)
def F_law07_TransKnown_j1 : Option Bool :=
  F_law07_TransKnown_L1 fuel0 ([]) 0
def F_law07_TransKnown : Option Bool :=
  if (decide (0 ≤ 16 ∧ 16 ≤ lim)) = true then
  F_law07_TransKnown_j1
  else none
def F_trans_protocols_1 (s1 : T_trans_Segment) : Option T_trans_Segment :=
  some (T_trans_Segment.mk 0 0 0 0 0 0 0 0 ([]) s1.f_Type s1.f_Code ([]))
def F_trans_protocols_3 (s1 : T_trans_Segment) : Option T_trans_Segment :=
  some (T_trans_Segment.mk 0 s1.f_Src s1.f_Dst 0 0 0 0 0 ([]) 0 0 ([]))
end Go.Proofs.Ytcinagdkkclapaa
