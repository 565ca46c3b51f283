/- Plain functions, printed by a program of this claim: what each Go function computes, where it returns. -/
import Derived.Test.YtjfdfjmnajjjaaaOxK
set_option linter.unusedVariables false
namespace Go.Proofs.Ytjfdfjmnajjjaaa
open Go Go.Ox
structure T_ip_Header where
  f_TOS : Int
  f_Total : Int
  f_ID : Int
  f_DF : Bool
  f_MF : Bool
  f_Frag : Int
  f_TTL : Int
  f_Proto : Int
  f_Src : List Int
  f_Dst : List Int
  f_Options : List Int
structure T_bits_Writer where
  f_b : List Int
structure T_ip_writer where
  f_Writer : T_bits_Writer
structure T_sum_Sum where
  f_n : Int
  f_many : Int
def e_sum_Sum (x : T_sum_Sum) : List Value := [.int .u64 x.f_n, .int .i64 x.f_many]
structure T_ip_Option where
  f_Kind : Int
  f_Data : List Int
structure T_ref05_Option where
  f_Kind : Int
  f_Data : ByteArray
def e_ref05_Option (x : T_ref05_Option) : List Value := [.int .u8 x.f_Kind, .string x.f_Data]
structure T_ref05_Header where
  f_TOS : Int
  f_Total : Int
  f_ID : Int
  f_DF : Bool
  f_MF : Bool
  f_Frag : Int
  f_TTL : Int
  f_Proto : Int
  f_Src : ByteArray
  f_Dst : ByteArray
  f_Options : ByteArray
def e_ref05_Header (x : T_ref05_Header) : List Value := [.int .u8 x.f_TOS, .int .u16 x.f_Total, .int .u16 x.f_ID, .bool x.f_DF, .bool x.f_MF, .int .u16 x.f_Frag, .int .u8 x.f_TTL, .int .u8 x.f_Proto, .string x.f_Src, .string x.f_Dst, .string x.f_Options]
def q_ref05_Header (x y : T_ref05_Header) : Bool := ((x.f_TOS == y.f_TOS) && ((x.f_Total == y.f_Total) && ((x.f_ID == y.f_ID) && ((x.f_DF == y.f_DF) && ((x.f_MF == y.f_MF) && ((x.f_Frag == y.f_Frag) && ((x.f_TTL == y.f_TTL) && ((x.f_Proto == y.f_Proto) && ((x.f_Src.toList == y.f_Src.toList) && ((x.f_Dst.toList == y.f_Dst.toList) && ((x.f_Options.toList == y.f_Options.toList) && true)))))))))))
def F_ip_Header_length (h1 : T_ip_Header) : Option Int :=
  some (IntKind.i64.wrap (20 + (h1.f_Options.length : Int)))
def F_ip_Right_j1 (t13 : Bool) : Option Bool :=
  some t13
def F_ip_Right (h1 : T_ip_Header) : Option Bool :=
  if (decide (h1.f_Frag ≤ 8191)) = true then
  if ((Int.tmod (h1.f_Options.length : Int) 4) == 0) = true then
  if (decide ((h1.f_Options.length : Int) ≤ 40)) = true then
  (F_ip_Header_length h1).bind fun y9 =>
  F_ip_Right_j1 (decide (y9 ≤ (IntKind.i64.wrap h1.f_Total)))
  else
  F_ip_Right_j1 false
  else
  F_ip_Right_j1 false
  else
  F_ip_Right_j1 false
def F_bits_right_j1 (t3 : Bool) : Option Bool :=
  some t3
def F_bits_right (size1 : Int) : Option Bool :=
  if (decide (1 ≤ size1)) = true then
  F_bits_right_j1 (decide (size1 ≤ 8))
  else
  F_bits_right_j1 false
def F_bits_Least_l1 (rec17 : Int → Int → Option Int) (v14 : Int) (nv15 : Int) : Option Int :=
  if (decide (0 < v14)) = true then
  rec17 (Ox.shr .u64 v14 8) (IntKind.i64.wrap (nv15 + 1))
  else
  some nv15
def F_bits_Least_L1 : Nat → Int → Int → Option Int
  | 0 => fun _ _ => none
  | k + 1 => F_bits_Least_l1 (F_bits_Least_L1 k)
def F_bits_Least (v1 : Int) : Option Int :=
  F_bits_Least_L1 fuel0 (Ox.shr .u64 v1 8) 1
def F_bits_fits_j1 (t12 : Bool) : Option Bool :=
  some t12
def F_bits_fits (v1 : Int) (size2 : Int) : Option Bool :=
  (F_bits_right size2).bind fun y4 =>
  if y4 = true then
  (F_bits_Least v1).bind fun y8 =>
  F_bits_fits_j1 (decide (y8 ≤ size2))
  else
  F_bits_fits_j1 false
def F_bits_of_l1 (rec42 : (List Int) → Int → Option ((List Int))) (v1 : Int) (size2 : Int) (b39 : List Int) (t40 : Int) : Option ((List Int)) :=
  if (decide (t40 < size2)) = true then
  if (decide (¬ (IntKind.i64.wrap (8 * t40)) < 0)) = true then
  (gidx b39 (IntKind.i64.wrap ((IntKind.i64.wrap (size2 - 1)) - t40))).bind fun xv51 =>
  rec42 (b39.set ((IntKind.i64.wrap ((IntKind.i64.wrap (size2 - 1)) - t40)) : Int).toNat (IntKind.u8.wrap (Ox.shr .u64 v1 (IntKind.i64.wrap (8 * t40))))) (IntKind.i64.wrap (t40 + 1))
  else none
  else
  some b39
def F_bits_of_L1 (v1 : Int) (size2 : Int) : Nat → (List Int) → Int → Option ((List Int))
  | 0 => fun _ _ => none
  | k + 1 => F_bits_of_l1 (F_bits_of_L1 v1 size2 k) v1 size2
def F_bits_of (v1 : Int) (size2 : Int) : Option ((List Int)) :=
  if (decide (0 ≤ size2 ∧ size2 ≤ lim)) = true then
  F_bits_of_L1 v1 size2 fuel0 (List.replicate (Int.toNat size2) (0 : Int)) 0
  else none
def F_bits_Writer_Raw (wv1 : T_bits_Writer) (b8 : List Int) : Option (Int × T_bits_Writer) :=
  if (decide (wv1.f_b.length + b8.length ≤ lim)) = true then
  some (0, (T_bits_Writer.mk (wv1.f_b ++ b8)))
  else none
def F_bits_Writer_Put (wv1 : T_bits_Writer) (v8 : Int) (size9 : Int) : Option (Int × T_bits_Writer) :=
  (F_bits_fits v8 size9).bind fun y16 =>
  if (!y16) = true then
  some (2, wv1)
  else
  (F_bits_of v8 size9).bind fun y22 =>
  (F_bits_Writer_Raw wv1 y22).bind fun y29 =>
  some (y29.1, y29.2)
def F_ip_writer_put_l1 (rec57 : (List Int) → Int → Option T_ip_writer) (size8 : Int) (lv9 : List Int) (p54 : List Int) (t55 : Int) : Option T_ip_writer :=
  if (decide (t55 < (lv9.length : Int))) = true then
  (gidx lv9 t55).bind fun xv65 =>
  (F_bits_Writer_Put (T_bits_Writer.mk p54) xv65 size8).bind fun y66 =>
  rec57 y66.2.f_b (IntKind.i64.wrap (t55 + 1))
  else
  some (T_ip_writer.mk (T_bits_Writer.mk p54))
def F_ip_writer_put_L1 (size8 : Int) (lv9 : List Int) : Nat → (List Int) → Int → Option T_ip_writer
  | 0 => fun _ _ => none
  | k + 1 => F_ip_writer_put_l1 (F_ip_writer_put_L1 size8 lv9 k) size8 lv9
def F_ip_writer_put (wv1 : T_ip_writer) (size8 : Int) (lv9 : List Int) : Option T_ip_writer :=
  F_ip_writer_put_L1 size8 lv9 fuel0 wv1.f_Writer.f_b 0
def F_ip_flag (isv1 : Bool) (f2 : Int) : Option Int :=
  if isv1 = true then
  some f2
  else
  some 0
def F_slices_Concat_byte_byte_j1 (t42 : Int) (rec44 : Int → Int → Option ((List Int))) (size59 : Int) : Option ((List Int)) :=
  rec44 size59 (IntKind.i64.wrap (t42 + 1))
def F_slices_Concat_byte_byte_l2 (rec128 : (List Int) → Int → Option ((List Int))) (slices1 : List (List Int)) (newslice125 : List Int) (t126 : Int) : Option ((List Int)) :=
  if (decide (t126 < (slices1.length : Int))) = true then
  (gidx slices1 t126).bind fun xv136 =>
  if (decide (newslice125.length + xv136.length ≤ lim)) = true then
  rec128 (newslice125 ++ xv136) (IntKind.i64.wrap (t126 + 1))
  else none
  else
  some newslice125
def F_slices_Concat_byte_byte_L2 (slices1 : List (List Int)) : Nat → (List Int) → Int → Option ((List Int))
  | 0 => fun _ _ => none
  | k + 1 => F_slices_Concat_byte_byte_l2 (F_slices_Concat_byte_byte_L2 slices1 k) slices1
def F_slices_Concat_byte_byte_j3 (slices1 : List (List Int)) (slices78 : List Int) : Option ((List Int)) :=
  F_slices_Concat_byte_byte_L2 slices1 fuel0 slices78 0
def F_slices_Concat_byte_byte_j2 (slices1 : List (List Int)) (size41 : Int) : Option ((List Int)) :=
  if (decide (0 < (IntKind.i64.wrap (size41 - (IntKind.i64.wrap (0 - 0)))))) = true then
  if (decide (0 ≤ (IntKind.i64.wrap (size41 - (IntKind.i64.wrap (0 - 0)))) ∧ (IntKind.i64.wrap (size41 - (IntKind.i64.wrap (0 - 0)))) ≤ lim)) = true then
  (gcut (List.replicate (Int.toNat (IntKind.i64.wrap (size41 - (IntKind.i64.wrap (0 - 0))))) (0 : Int)) 0 0).bind fun cut72 =>
  F_slices_Concat_byte_byte_j3 slices1 cut72
  else none
  else
  F_slices_Concat_byte_byte_j3 slices1 ([])
def F_slices_Concat_byte_byte_l1 (rec44 : Int → Int → Option ((List Int))) (slices1 : List (List Int)) (size41 : Int) (t42 : Int) : Option ((List Int)) :=
  if (decide (t42 < (slices1.length : Int))) = true then
  (gidx slices1 t42).bind fun xv51 =>
  if (decide ((IntKind.i64.wrap (size41 + (xv51.length : Int))) < 0)) = true then
  none
  else
  F_slices_Concat_byte_byte_j1 t42 rec44 (IntKind.i64.wrap (size41 + (xv51.length : Int)))
  else
  if (decide (size41 < 0)) = true then
  none
  else
  F_slices_Concat_byte_byte_j2 slices1 size41
def F_slices_Concat_byte_byte_L1 (slices1 : List (List Int)) : Nat → Int → Int → Option ((List Int))
  | 0 => fun _ _ => none
  | k + 1 => F_slices_Concat_byte_byte_l1 (F_slices_Concat_byte_byte_L1 slices1 k) slices1
def F_slices_Concat_byte_byte (slices1 : List (List Int)) : Option ((List Int)) :=
  F_slices_Concat_byte_byte_L1 slices1 fuel0 0 0
def F_slices_Clone_byte_byte (s1 : List Int) : Option ((List Int)) :=
  if (decide (([] : List Int).length + s1.length ≤ lim)) = true then
  some (([] : List Int) ++ s1)
  else none
def F_bits_Writer_Bytes (wv1 : T_bits_Writer) : Option ((List Int) × T_bits_Writer) :=
  (F_slices_Clone_byte_byte wv1.f_b).bind fun y13 =>
  some (y13, wv1)
def F_sum_fold_l1 (rec12 : Int → Option Int) (nv10 : Int) : Option Int :=
  if (decide (nv10 ≤ 65535)) = true then
  some (IntKind.u16.wrap nv10)
  else
  rec12 (IntKind.u64.wrap ((bits .and .u64 nv10 65535) + (Ox.shr .u64 nv10 16)))
def F_sum_fold_L1 : Nat → Int → Option Int
  | 0 => fun _ => none
  | k + 1 => F_sum_fold_l1 (F_sum_fold_L1 k)
def F_sum_fold (nv1 : Int) : Option Int :=
  F_sum_fold_L1 fuel0 nv1
def F_sum_Sum_Add_j1 (p57 : Int) (p58 : Int) (t59 : Int) (rec61 : Int → Int → Int → Option T_sum_Sum) (v73 : Int) : Option T_sum_Sum :=
  (F_sum_fold p57).bind fun y76 =>
  rec61 (IntKind.u64.wrap ((IntKind.u64.wrap y76) + v73)) (IntKind.i64.wrap (p58 + 1)) (IntKind.i64.wrap (t59 + 1))
def F_sum_Sum_Add_l1 (rec61 : Int → Int → Int → Option T_sum_Sum) (b5 : List Int) (p57 : Int) (p58 : Int) (t59 : Int) : Option T_sum_Sum :=
  if (decide (t59 < (b5.length : Int))) = true then
  (gidx b5 t59).bind fun xv69 =>
  if ((Int.tmod p58 2) == 0) = true then
  F_sum_Sum_Add_j1 p57 p58 t59 rec61 (Ox.shl .u64 (IntKind.u64.wrap xv69) 8)
  else
  F_sum_Sum_Add_j1 p57 p58 t59 rec61 (IntKind.u64.wrap xv69)
  else
  some (T_sum_Sum.mk p57 p58)
def F_sum_Sum_Add_L1 (b5 : List Int) : Nat → Int → Int → Int → Option T_sum_Sum
  | 0 => fun _ _ _ => none
  | k + 1 => F_sum_Sum_Add_l1 (F_sum_Sum_Add_L1 b5 k) b5
def F_sum_Sum_Add (s1 : T_sum_Sum) (b5 : List Int) : Option T_sum_Sum :=
  F_sum_Sum_Add_L1 b5 fuel0 s1.f_n s1.f_many 0
def F_sum_each_fsum_Sum_Add_l1 (rec52 : Int → Int → Int → Option T_sum_Sum) (lv1 : List (List Int)) (p48 : Int) (p49 : Int) (t50 : Int) : Option T_sum_Sum :=
  if (decide (t50 < (lv1.length : Int))) = true then
  (gidx lv1 t50).bind fun xv60 =>
  (F_sum_Sum_Add (T_sum_Sum.mk p48 p49) xv60).bind fun y66 =>
  rec52 y66.f_n y66.f_many (IntKind.i64.wrap (t50 + 1))
  else
  some (T_sum_Sum.mk p48 p49)
def F_sum_each_fsum_Sum_Add_L1 (lv1 : List (List Int)) : Nat → Int → Int → Int → Option T_sum_Sum
  | 0 => fun _ _ _ => none
  | k + 1 => F_sum_each_fsum_Sum_Add_l1 (F_sum_each_fsum_Sum_Add_L1 lv1 k) lv1
def F_sum_each_fsum_Sum_Add (lv1 : List (List Int)) (does5 : T_sum_Sum) : Option T_sum_Sum :=
  F_sum_each_fsum_Sum_Add_L1 lv1 fuel0 does5.f_n does5.f_many 0
def F_sum_Sum_Value (s1 : T_sum_Sum) : Option (Int × T_sum_Sum) :=
  (F_sum_fold s1.f_n).bind fun y10 =>
  some ((IntKind.u16.wrap (65535 - y10)), s1)
def F_sum_Of (lv1 : List (List Int)) : Option Int :=
  (F_sum_each_fsum_Sum_Add lv1 (T_sum_Sum.mk 0 0)).bind fun y11 =>
  (F_sum_Sum_Value y11).bind fun y16 =>
  some y16.1
def F_bits_Writer_Set_j1 (wv1 : T_bits_Writer) (atv8 : Int) (v9 : Int) (size10 : Int) (t22 : Bool) : Option (Int × T_bits_Writer) :=
  if t22 = true then
  some (2, wv1)
  else
  (gcut wv1.f_b atv8 ((wv1.f_b).length)).bind fun cut26 =>
  (F_bits_of v9 size10).bind fun y33 =>
  some (0, (T_bits_Writer.mk (cpR (Int.toNat atv8) (Nat.min y33.length cut26.length) wv1.f_b y33)))
def F_bits_Writer_Set (wv1 : T_bits_Writer) (atv8 : Int) (v9 : Int) (size10 : Int) : Option (Int × T_bits_Writer) :=
  (F_bits_fits v9 size10).bind fun y16 =>
  if (!y16) = true then
  F_bits_Writer_Set_j1 wv1 atv8 v9 size10 true
  else
  if (decide (atv8 < 0)) = true then
  F_bits_Writer_Set_j1 wv1 atv8 v9 size10 true
  else
  if (decide ((wv1.f_b.length : Int) < atv8)) = true then
  F_bits_Writer_Set_j1 wv1 atv8 v9 size10 true
  else
  F_bits_Writer_Set_j1 wv1 atv8 v9 size10 (decide ((IntKind.i64.wrap ((wv1.f_b.length : Int) - atv8)) < size10))
def F_ip_Put (h1 : T_ip_Header) : Option ((List Int) × Int) :=
  (F_ip_Right h1).bind fun y11 =>
  if (!y11) = true then
  some ([], 51)
  else
  (F_ip_Header_length h1).bind fun y21 =>
  (F_ip_writer_put (T_ip_writer.mk (T_bits_Writer.mk ([] : List Int))) 1 ([(bits .or .u64 64 (IntKind.u64.wrap (IntKind.i64.wrap (Int.tdiv y21 4)))), (IntKind.u64.wrap h1.f_TOS)] : List Int)).bind fun y29 =>
  (F_ip_flag h1.f_DF 16384).bind fun y37 =>
  (F_ip_flag h1.f_MF 8192).bind fun y41 =>
  (F_ip_writer_put y29 2 ([(IntKind.u64.wrap h1.f_Total), (IntKind.u64.wrap h1.f_ID), (bits .or .u64 (bits .or .u64 y37 y41) (IntKind.u64.wrap h1.f_Frag))] : List Int)).bind fun y48 =>
  (F_ip_writer_put y48 1 ([(IntKind.u64.wrap h1.f_TTL), (IntKind.u64.wrap h1.f_Proto)] : List Int)).bind fun y59 =>
  (F_ip_writer_put y59 2 ([0] : List Int)).bind fun y70 =>
  (F_slices_Concat_byte_byte ([(arrL 4 h1.f_Src), (arrL 4 h1.f_Dst), h1.f_Options])).bind fun y83 =>
  (F_bits_Writer_Raw y70.f_Writer y83).bind fun y90 =>
  (F_bits_Writer_Bytes y90.2).bind fun y98 =>
  (F_sum_Of ([y98.1])).bind fun y111 =>
  (F_bits_Writer_Set y98.2 10 (IntKind.u64.wrap y111) 2).bind fun y115 =>
  (F_bits_Writer_Bytes y115.2).bind fun y123 =>
  some (y123.1, 0)
def F_bits_value_l1 (rec27 : Int → Int → Option Int) (b1 : List Int) (v24 : Int) (t25 : Int) : Option Int :=
  if (decide (t25 < (b1.length : Int))) = true then
  (gidx b1 t25).bind fun xv35 =>
  rec27 (bits .or .u64 (Ox.shl .u64 v24 8) (IntKind.u64.wrap xv35)) (IntKind.i64.wrap (t25 + 1))
  else
  some v24
def F_bits_value_L1 (b1 : List Int) : Nat → Int → Int → Option Int
  | 0 => fun _ _ => none
  | k + 1 => F_bits_value_l1 (F_bits_value_L1 b1 k) b1
def F_bits_value (b1 : List Int) : Option Int :=
  F_bits_value_L1 b1 fuel0 0 0
def F_bits_Get_j2 (b1 : List Int) (atv5 : Int) (size6 : Int) (t16 : Bool) : Option (Int × Int) :=
  if t16 = true then
  some (0, 10)
  else
  (gcut b1 atv5 (IntKind.i64.wrap (atv5 + size6))).bind fun cut20 =>
  (F_bits_value cut20).bind fun y27 =>
  some (y27, 0)
def F_bits_Get_j1 (b1 : List Int) (atv5 : Int) (size6 : Int) (t13 : Bool) : Option (Int × Int) :=
  if t13 = true then
  some (0, 2)
  else
  if (decide ((b1.length : Int) < atv5)) = true then
  F_bits_Get_j2 b1 atv5 size6 true
  else
  F_bits_Get_j2 b1 atv5 size6 (decide ((IntKind.i64.wrap ((b1.length : Int) - atv5)) < size6))
def F_bits_Get (b1 : List Int) (atv5 : Int) (size6 : Int) : Option (Int × Int) :=
  (F_bits_right size6).bind fun y9 =>
  if (!y9) = true then
  F_bits_Get_j1 b1 atv5 size6 true
  else
  F_bits_Get_j1 b1 atv5 size6 (decide (atv5 < 0))
def F_ip_word (b1 : List Int) (atv5 : Int) : Option Int :=
  (F_bits_Get b1 atv5 2).bind fun y8 =>
  some (IntKind.u16.wrap y8.1)
def F_sum_Whole_j1 (t11 : Bool) : Option Bool :=
  some t11
def F_sum_Whole (lv1 : List (List Int)) : Option Bool :=
  (F_sum_Of lv1).bind fun y7 =>
  if (y7 == 0) = true then
  F_sum_Whole_j1 true
  else
  F_sum_Whole_j1 (y7 == 65535)
def F_ip_Parse_j2 (b1 : List Int) (xv17 : Int) (y35 : Int) (h138 : Int) (h139 : Int) (h140 : Int) (h141 : Int) (h142 : Int) (h143 : List Int) (h144 : List Int) (h148 : List Int) (t154 : Bool) : Option (T_ip_Header × Int × Int) :=
  if t154 = true then
  some ((T_ip_Header.mk 0 0 0 false false 0 0 0 (List.replicate 4 0) (List.replicate 4 0) ([])), 0, 51)
  else
  (gcut b1 0 (IntKind.i64.wrap ((IntKind.i64.wrap (bits .and .u8 xv17 15)) * 4))).bind fun cut160 =>
  (F_sum_Whole ([cut160])).bind fun y170 =>
  if (!y170) = true then
  some ((T_ip_Header.mk 0 0 0 false false 0 0 0 (List.replicate 4 0) (List.replicate 4 0) ([])), 0, 52)
  else
  some ((T_ip_Header.mk h138 h139 h140 (decide (0 < (bits .and .u16 y35 16384))) (decide (0 < (bits .and .u16 y35 8192))) (bits .and .u16 y35 8191) h141 h142 h143 h144 h148), (IntKind.i64.wrap ((IntKind.i64.wrap (bits .and .u8 xv17 15)) * 4)), 0)
def F_ip_Parse_j1 (b1 : List Int) (xv17 : Int) (y35 : Int) (h138 : Int) (h139 : Int) (h140 : Int) (h141 : Int) (h142 : Int) (h143 : List Int) (h144 : List Int) (h148 : List Int) : Option (T_ip_Header × Int × Int) :=
  if (decide (0 < (bits .and .u16 y35 32768))) = true then
  F_ip_Parse_j2 b1 xv17 y35 h138 h139 h140 h141 h142 h143 h144 h148 true
  else
  F_ip_Parse_j2 b1 xv17 y35 h138 h139 h140 h141 h142 h143 h144 h148 (decide ((IntKind.i64.wrap h139) < (IntKind.i64.wrap ((IntKind.i64.wrap (bits .and .u8 xv17 15)) * 4))))
def F_ip_Parse (b1 : List Int) : Option (T_ip_Header × Int × Int) :=
  if (decide ((b1.length : Int) < 20)) = true then
  some ((T_ip_Header.mk 0 0 0 false false 0 0 0 (List.replicate 4 0) (List.replicate 4 0) ([])), 0, 10)
  else
  (gidx b1 0).bind fun xv17 =>
  (gidx b1 0).bind fun xv22 =>
  if ((Ox.shr .u8 xv22 4) != 4) = true then
  some ((T_ip_Header.mk 0 0 0 false false 0 0 0 (List.replicate 4 0) (List.replicate 4 0) ([])), 0, 50)
  else
  if (decide ((IntKind.i64.wrap ((IntKind.i64.wrap (bits .and .u8 xv17 15)) * 4)) < 20)) = true then
  some ((T_ip_Header.mk 0 0 0 false false 0 0 0 (List.replicate 4 0) (List.replicate 4 0) ([])), 0, 51)
  else
  if (decide ((b1.length : Int) < (IntKind.i64.wrap ((IntKind.i64.wrap (bits .and .u8 xv17 15)) * 4)))) = true then
  some ((T_ip_Header.mk 0 0 0 false false 0 0 0 (List.replicate 4 0) (List.replicate 4 0) ([])), 0, 10)
  else
  (F_ip_word b1 6).bind fun y35 =>
  (gidx b1 1).bind fun xv41 =>
  (gidx b1 8).bind fun xv44 =>
  (gidx b1 9).bind fun xv47 =>
  (gcut b1 12 ((b1).length)).bind fun cut48 =>
  if (decide (4 ≤ cut48.length)) = true then
  (gcut b1 16 ((b1).length)).bind fun cut56 =>
  if (decide (4 ≤ cut56.length)) = true then
  (gcut b1 20 (IntKind.i64.wrap ((IntKind.i64.wrap (bits .and .u8 xv17 15)) * 4))).bind fun cut64 =>
  (F_ip_word b1 2).bind fun y71 =>
  (F_ip_word b1 4).bind fun y75 =>
  (F_slices_Clone_byte_byte cut64).bind fun y79 =>
  F_ip_Parse_j1 b1 xv17 y35 xv41 y71 y75 xv44 xv47 (arrL 4 cut48) (arrL 4 cut56) y79
  else none
  else none
def F_ip_Options_j2 (b299 : List Int) (rec311 : (List Int) → (List T_ip_Option) → Option ((List T_ip_Option) × Int)) (t356 : Bool) (t366 : List T_ip_Option) : Option ((List T_ip_Option) × Int) :=
  if t356 = true then
  some ([], 51)
  else
  (gidx b299 1).bind fun xv392 =>
  (gidx b299 0).bind fun xv397 =>
  (gcut b299 2 (IntKind.i64.wrap xv392)).bind fun cut398 =>
  (F_slices_Clone_byte_byte cut398).bind fun y405 =>
  if (decide (t366.length + ([(T_ip_Option.mk xv397 y405)]).length ≤ lim)) = true then
  (gcut b299 (IntKind.i64.wrap xv392) ((b299).length)).bind fun cut438 =>
  rec311 cut438 (t366 ++ [(T_ip_Option.mk xv397 y405)])
  else none
def F_ip_Options_j1 (b299 : List Int) (rec311 : (List Int) → (List T_ip_Option) → Option ((List T_ip_Option) × Int)) (t320 : Bool) (t330 : List T_ip_Option) : Option ((List T_ip_Option) × Int) :=
  if t320 = true then
  (gidx b299 0).bind fun xv336 =>
  if (xv336 == 1) = true then
  (gcut b299 1 ((b299).length)).bind fun cut338 =>
  rec311 cut338 t330
  else
  if (decide ((b299.length : Int) < 2)) = true then
  F_ip_Options_j2 b299 rec311 true t330
  else
  (gidx b299 1).bind fun xv349 =>
  if (decide (xv349 < 2)) = true then
  F_ip_Options_j2 b299 rec311 true t330
  else
  (gidx b299 1).bind fun xv352 =>
  F_ip_Options_j2 b299 rec311 (decide ((b299.length : Int) < (IntKind.i64.wrap xv352))) t330
  else
  some (t330, 0)
def F_ip_Options_l1 (rec311 : (List Int) → (List T_ip_Option) → Option ((List T_ip_Option) × Int)) (b299 : List Int) (b309 : List T_ip_Option) : Option ((List T_ip_Option) × Int) :=
  if (decide (0 < (b299.length : Int))) = true then
  (gidx b299 0).bind fun xv316 =>
  F_ip_Options_j1 b299 rec311 (decide (0 < xv316)) b309
  else
  F_ip_Options_j1 b299 rec311 false b309
def F_ip_Options_L1 : Nat → (List Int) → (List T_ip_Option) → Option ((List T_ip_Option) × Int)
  | 0 => fun _ _ => none
  | k + 1 => F_ip_Options_l1 (F_ip_Options_L1 k)
def F_ip_Options (b1 : List Int) : Option ((List T_ip_Option) × Int) :=
  F_ip_Options_L1 fuel0 b1 ([])
def F_ref01_Same (av1 : List Int) (b5 : List Int) : Option Bool :=
  some ((strOfNums av1).toList == (strOfNums b5).toList)
def F_law05_works_j2 (t113 : Bool) : Option Bool :=
  some t113
def F_law05_works_j1 (y3 : (List Int) × Int) (y15 : T_ip_Header × Int × Int) (y31 : T_ip_Header × Int × Int) (lv64 : List T_ip_Option) (t65 : Bool) : Option Bool :=
  if t65 = true then
  some false
  else
  (gcut y3.1 0 10).bind fun cut68 =>
  (F_ref01_Same cut68 ([69, 0, 0, 20, 0, 0, 0, 0, 1, 6] : List Int)).bind fun y78 =>
  if y78 = true then
  if (y15.2.2 == 10) = true then
  if (y31.2.2 == 50) = true then
  (gidx lv64 0).bind fun xv84 =>
  if (xv84.f_Kind == 7) = true then
  (gidx lv64 0).bind fun xv96 =>
  (F_ref01_Same xv96.f_Data ([9] : List Int)).bind fun y109 =>
  F_law05_works_j2 y109
  else
  F_law05_works_j2 false
  else
  F_law05_works_j2 false
  else
  F_law05_works_j2 false
  else
  F_law05_works_j2 false
def F_law05_works : Option Bool :=
  (F_ip_Put (T_ip_Header.mk 0 20 0 false false 0 1 6 (List.replicate 4 0) (List.replicate 4 0) ([]))).bind fun y3 =>
  if (decide (0 ≤ 19 ∧ 19 ≤ lim)) = true then
  (F_ip_Parse (List.replicate (Int.toNat 19) (0 : Int))).bind fun y15 =>
  if (decide (0 ≤ 20 ∧ 20 ≤ lim)) = true then
  (F_ip_Parse (List.replicate (Int.toNat 20) (0 : Int))).bind fun y31 =>
  (F_ip_Options ([1, 7, 3, 9, 0, 5] : List Int)).bind fun y46 =>
  if (y3.2 != 0) = true then
  F_law05_works_j1 y3 y15 y31 y46.1 true
  else
  if ((y3.1.length : Int) != 20) = true then
  F_law05_works_j1 y3 y15 y31 y46.1 true
  else
  if (y46.2 != 0) = true then
  F_law05_works_j1 y3 y15 y31 y46.1 true
  else
  F_law05_works_j1 y3 y15 y31 y46.1 ((y46.1.length : Int) != 1)
  else none
  else none
def F_ref05_Options_j2 (b1 : ByteArray) (recF : ByteArray → Option ((List T_ref05_Option) × Int)) (t28 : Bool) : Option ((List T_ref05_Option) × Int) :=
  if t28 = true then
  some ([], 51)
  else
  (gidxS b1 1).bind fun xv32 =>
  (gcutS b1 xv32 (b1.size : Int)).bind fun cut34 =>
  (recF cut34).bind fun y36 =>
  if (y36.2 != 0) = true then
  some ([], y36.2)
  else
  (gidxS b1 0).bind fun xv47 =>
  (gidxS b1 1).bind fun xv49 =>
  (gcutS b1 2 xv49).bind fun cut51 =>
  if (decide (([(T_ref05_Option.mk xv47 cut51)] : List T_ref05_Option).length + y36.1.length ≤ lim)) = true then
  some ((([(T_ref05_Option.mk xv47 cut51)] : List T_ref05_Option) ++ y36.1), 0)
  else none
def F_ref05_Options_j1 (b1 : ByteArray) (recF : ByteArray → Option ((List T_ref05_Option) × Int)) (t6 : Bool) : Option ((List T_ref05_Option) × Int) :=
  if t6 = true then
  some ([], 0)
  else
  (gidxS b1 0).bind fun xv11 =>
  if (xv11 == 1) = true then
  (gcutS b1 1 (b1.size : Int)).bind fun cut14 =>
  (recF cut14).bind fun y16 =>
  some (y16.1, y16.2)
  else
  if (decide ((b1.size : Int) < 2)) = true then
  F_ref05_Options_j2 b1 recF true
  else
  (gidxS b1 1).bind fun xv24 =>
  if (decide (xv24 < 2)) = true then
  F_ref05_Options_j2 b1 recF true
  else
  (gidxS b1 1).bind fun xv26 =>
  F_ref05_Options_j2 b1 recF (decide ((b1.size : Int) < (IntKind.i64.wrap xv26)))
def F_ref05_Options_B (recF : ByteArray → Option ((List T_ref05_Option) × Int)) (b1 : ByteArray) : Option ((List T_ref05_Option) × Int) :=
  if (b1.toList == (⟨#[]⟩ : ByteArray).toList) = true then
  F_ref05_Options_j1 b1 recF true
  else
  (gidxS b1 0).bind fun xv4 =>
  F_ref05_Options_j1 b1 recF (xv4 == 0)
def F_ref05_Options_R : Nat → ByteArray → Option ((List T_ref05_Option) × Int)
  | 0 => fun _ => none
  | k + 1 => F_ref05_Options_B (F_ref05_Options_R k)
def F_ref05_Options (b1 : ByteArray) : Option ((List T_ref05_Option) × Int) := F_ref05_Options_R fuel0 b1
def F_law05_IpOptions_l3 (rec1841 : (List T_ip_Option) → Int → Option Bool) (i1690 : Int) (rec1692 : (List T_ip_Option) → Int → Option Bool) (lv1838 : List T_ip_Option) (kv1839 : Int) : Option Bool :=
  (gidx lv1838 i1690).bind fun xv1847 =>
  if (decide (kv1839 < (xv1847.f_Data.length : Int))) = true then
  (gidx lv1838 i1690).bind fun xv1860 =>
  (gidx xv1860.f_Data kv1839).bind fun xv1872 =>
  (gidx xv1860.f_Data kv1839).bind fun xv1875 =>
  rec1841 (lv1838.set (i1690 : Int).toNat (T_ip_Option.mk xv1860.f_Kind (xv1860.f_Data.set (kv1839 : Int).toNat (IntKind.u8.wrap (xv1872 + 1))))) (IntKind.i64.wrap (kv1839 + 1))
  else
  rec1692 lv1838 (IntKind.i64.wrap (i1690 + 1))
def F_law05_IpOptions_L3 (i1690 : Int) (rec1692 : (List T_ip_Option) → Int → Option Bool) : Nat → (List T_ip_Option) → Int → Option Bool
  | 0 => fun _ _ => none
  | k + 1 => F_law05_IpOptions_l3 (F_law05_IpOptions_L3 i1690 rec1692 k) i1690 rec1692
def F_law05_IpOptions_j2 (i1690 : Int) (rec1692 : (List T_ip_Option) → Int → Option Bool) (lv1735 : List T_ip_Option) (t1736 : Bool) : Option Bool :=
  if t1736 = true then
  some false
  else
  F_law05_IpOptions_L3 i1690 rec1692 fuel0 lv1735 0
def F_law05_IpOptions_l2 (rec1692 : (List T_ip_Option) → Int → Option Bool) (y14 : (List T_ref05_Option) × Int) (t1262 : Int) (rec1264 : Int → Option Bool) (lv1689 : List T_ip_Option) (i1690 : Int) : Option Bool :=
  if (decide (i1690 < (lv1689.length : Int))) = true then
  (gidx lv1689 i1690).bind fun xv1700 =>
  (gidx y14.1 i1690).bind fun xv1712 =>
  if (xv1700.f_Kind != xv1712.f_Kind) = true then
  F_law05_IpOptions_j2 i1690 rec1692 lv1689 true
  else
  (gidx lv1689 i1690).bind fun xv1715 =>
  (gidx y14.1 i1690).bind fun xv1727 =>
  F_law05_IpOptions_j2 i1690 rec1692 lv1689 (!((strOfNums xv1715.f_Data).toList == xv1727.f_Data.toList))
  else
  rec1264 (IntKind.i64.wrap (t1262 + 1))
def F_law05_IpOptions_L2 (y14 : (List T_ref05_Option) × Int) (t1262 : Int) (rec1264 : Int → Option Bool) : Nat → (List T_ip_Option) → Int → Option Bool
  | 0 => fun _ _ => none
  | k + 1 => F_law05_IpOptions_l2 (F_law05_IpOptions_L2 y14 t1262 rec1264 k) y14 t1262 rec1264
def F_law05_IpOptions_j1 (y14 : (List T_ref05_Option) × Int) (t1262 : Int) (rec1264 : Int → Option Bool) (lv1288 : List T_ip_Option) (t1289 : Bool) : Option Bool :=
  if t1289 = true then
  some false
  else
  F_law05_IpOptions_L2 y14 t1262 rec1264 fuel0 lv1288 0
def F_law05_IpOptions_l1 (rec1264 : Int → Option Bool) (b1 : List Int) (y14 : (List T_ref05_Option) × Int) (t1262 : Int) : Option Bool :=
  if (decide (t1262 < 2)) = true then
  (F_ip_Options b1).bind fun y1270 =>
  if (y1270.2 != y14.2) = true then
  F_law05_IpOptions_j1 y14 t1262 rec1264 y1270.1 true
  else
  F_law05_IpOptions_j1 y14 t1262 rec1264 y1270.1 ((y1270.1.length : Int) != (y14.1.length : Int))
  else
  (F_law05_works).bind fun y1885 =>
  some y1885
def F_law05_IpOptions_L1 (b1 : List Int) (y14 : (List T_ref05_Option) × Int) : Nat → Int → Option Bool
  | 0 => fun _ => none
  | k + 1 => F_law05_IpOptions_l1 (F_law05_IpOptions_L1 b1 y14 k) b1 y14
def F_law05_IpOptions (b1 : List Int) : Option Bool :=
  if (decide (100 < (b1.length : Int))) = true then
  (F_law05_works).bind fun y9 =>
  some y9
  else
  (F_ref05_Options (strOfNums b1)).bind fun y14 =>
  F_law05_IpOptions_L1 b1 y14 fuel0 0
def F_docs_Ip (h1 : T_ip_Header) : Option T_ref05_Header :=
  some (T_ref05_Header.mk h1.f_TOS h1.f_Total h1.f_ID h1.f_DF h1.f_MF h1.f_Frag h1.f_TTL h1.f_Proto (strOfNums (arrL 4 h1.f_Src)) (strOfNums (arrL 4 h1.f_Dst)) (strOfNums h1.f_Options))
def F_ref05_Right_j1 (t7 : Bool) : Option Bool :=
  some t7
def F_ref05_Right (h1 : T_ref05_Header) : Option Bool :=
  if (decide (h1.f_Frag < 8192)) = true then
  if ((Int.tmod (h1.f_Options.size : Int) 4) == 0) = true then
  if (decide ((h1.f_Options.size : Int) ≤ 40)) = true then
  F_ref05_Right_j1 (decide ((IntKind.i64.wrap (20 + (h1.f_Options.size : Int))) ≤ (IntKind.i64.wrap h1.f_Total)))
  else
  F_ref05_Right_j1 false
  else
  F_ref05_Right_j1 false
  else
  F_ref05_Right_j1 false
def F_ref01_Put_B (recF : Int → Int → Option ((List Int))) (v1 : Int) (size2 : Int) : Option ((List Int)) :=
  if (size2 == 0) = true then
  some ([])
  else
  (recF (IntKind.u64.wrap (Int.tdiv v1 256)) (IntKind.i64.wrap (size2 - 1))).bind fun y8 =>
  if (decide (y8.length + ([(IntKind.u8.wrap (Int.tmod v1 256))] : List Int).length ≤ lim)) = true then
  some (y8 ++ ([(IntKind.u8.wrap (Int.tmod v1 256))] : List Int))
  else none
def F_ref01_Put_R : Nat → Int → Int → Option ((List Int))
  | 0 => fun _ _ => none
  | k + 1 => F_ref01_Put_B (F_ref01_Put_R k)
def F_ref01_Put (v1 : Int) (size2 : Int) : Option ((List Int)) := F_ref01_Put_R fuel0 v1 size2
def F_ref01_Join (av1 : List Int) (b5 : List Int) : Option ((List Int)) :=
  if (decide (av1.length ≤ lim)) = true then
  if (decide (av1.length + b5.length ≤ lim)) = true then
  some (av1 ++ b5)
  else none
  else none
def F_ref05_bit (isv1 : Bool) (nv2 : Int) : Option Int :=
  if isv1 = true then
  some nv2
  else
  some 0
def F_ref05_stands (h1 : T_ref05_Header) (sum2 : Int) : Option ((List Int)) :=
  (F_ref01_Put (IntKind.u64.wrap (IntKind.i64.wrap (64 + (IntKind.i64.wrap (Int.tdiv (IntKind.i64.wrap (20 + (h1.f_Options.size : Int))) 4))))) 1).bind fun y8 =>
  if (decide (y8.length + ([h1.f_TOS] : List Int).length ≤ lim)) = true then
  (F_ref01_Put (IntKind.u64.wrap h1.f_Total) 2).bind fun y25 =>
  (F_ref01_Join (y8 ++ ([h1.f_TOS] : List Int)) y25).bind fun y32 =>
  (F_ref01_Put (IntKind.u64.wrap h1.f_ID) 2).bind fun y40 =>
  (F_ref01_Join y32 y40).bind fun y47 =>
  (F_ref05_bit h1.f_DF 16384).bind fun y55 =>
  (F_ref05_bit h1.f_MF 8192).bind fun y59 =>
  (F_ref01_Put (IntKind.u64.wrap ((IntKind.u64.wrap (y55 + y59)) + (IntKind.u64.wrap h1.f_Frag))) 2).bind fun y63 =>
  (F_ref01_Join y47 y63).bind fun y70 =>
  if (decide (y70.length + ([h1.f_TTL, h1.f_Proto] : List Int).length ≤ lim)) = true then
  (F_ref01_Put (IntKind.u64.wrap sum2) 2).bind fun y87 =>
  (F_ref01_Join (y70 ++ ([h1.f_TTL, h1.f_Proto] : List Int)) y87).bind fun y94 =>
  if (decide (h1.f_Src.size + h1.f_Dst.size ≤ lim)) = true then
  if (decide ((h1.f_Src ++ h1.f_Dst).size + h1.f_Options.size ≤ lim)) = true then
  if (decide (((h1.f_Src ++ h1.f_Dst) ++ h1.f_Options).size ≤ lim)) = true then
  (F_ref01_Join y94 (numsOfStr ((h1.f_Src ++ h1.f_Dst) ++ h1.f_Options))).bind fun y110 =>
  some y110
  else none
  else none
  else none
  else none
  else none
def F_ref03_Words_j1 (out60 : List Int) (i61 : Int) (rec63 : (List Int) → Int → Option ((List Int))) (nv77 : Int) : Option ((List Int)) :=
  if (decide (out60.length + ([nv77] : List Int).length ≤ lim)) = true then
  rec63 (out60 ++ ([nv77] : List Int)) (IntKind.i64.wrap (i61 + 2))
  else none
def F_ref03_Words_l1 (rec63 : (List Int) → Int → Option ((List Int))) (b1 : List Int) (out60 : List Int) (i61 : Int) : Option ((List Int)) :=
  if (decide (i61 < (b1.length : Int))) = true then
  (gidx b1 i61).bind fun xv71 =>
  if (decide ((IntKind.i64.wrap (i61 + 1)) < (b1.length : Int))) = true then
  (gidx b1 (IntKind.i64.wrap (i61 + 1))).bind fun xv75 =>
  F_ref03_Words_j1 out60 i61 rec63 (IntKind.u64.wrap ((IntKind.u64.wrap ((IntKind.u64.wrap xv71) * 256)) + (IntKind.u64.wrap xv75)))
  else
  F_ref03_Words_j1 out60 i61 rec63 (IntKind.u64.wrap ((IntKind.u64.wrap xv71) * 256))
  else
  some out60
def F_ref03_Words_L1 (b1 : List Int) : Nat → (List Int) → Int → Option ((List Int))
  | 0 => fun _ _ => none
  | k + 1 => F_ref03_Words_l1 (F_ref03_Words_L1 b1 k) b1
def F_ref03_Words (b1 : List Int) : Option ((List Int)) :=
  F_ref03_Words_L1 b1 fuel0 ([]) 0
def F_ref03_Fold_l1 (rec11 : Int → Option Int) (nv9 : Int) : Option Int :=
  if (decide (65535 < nv9)) = true then
  rec11 (IntKind.u64.wrap ((IntKind.u64.wrap (Int.tdiv nv9 65536)) + (Int.tmod nv9 65536)))
  else
  some nv9
def F_ref03_Fold_L1 : Nat → Int → Option Int
  | 0 => fun _ => none
  | k + 1 => F_ref03_Fold_l1 (F_ref03_Fold_L1 k)
def F_ref03_Fold (nv1 : Int) : Option Int :=
  F_ref03_Fold_L1 fuel0 nv1
def F_ref03_Sum_l1 (rec36 : Int → Int → Option Int) (y8 : (List Int)) (nv32 : Int) (i34 : Int) : Option Int :=
  if (decide (i34 < (y8.length : Int))) = true then
  (gidx y8 i34).bind fun xv43 =>
  rec36 (IntKind.u64.wrap (nv32 + xv43)) (IntKind.i64.wrap (i34 + 1))
  else
  (F_ref03_Fold nv32).bind fun y45 =>
  some y45
def F_ref03_Sum_L1 (y8 : (List Int)) : Nat → Int → Int → Option Int
  | 0 => fun _ _ => none
  | k + 1 => F_ref03_Sum_l1 (F_ref03_Sum_L1 y8 k) y8
def F_ref03_Sum (b1 : List Int) : Option Int :=
  (F_ref03_Words b1).bind fun y8 =>
  F_ref03_Sum_L1 y8 fuel0 0 0
def F_ref03_Of (b1 : List Int) : Option Int :=
  (F_ref03_Sum b1).bind fun y7 =>
  some (IntKind.u16.wrap (IntKind.u64.wrap (65535 - y7)))
def F_ref05_Put (h1 : T_ref05_Header) : Option ((List Int) × Int) :=
  (F_ref05_Right h1).bind fun y8 =>
  if (!y8) = true then
  some ([], 51)
  else
  (F_ref05_stands h1 0).bind fun y14 =>
  (F_ref03_Of y14).bind fun y21 =>
  (F_ref05_stands h1 y21).bind fun y25 =>
  some (y25, 0)
def F_bytes_Equal (av1 : List Int) (b5 : List Int) : Option Bool :=
  some ((strOfNums av1).toList == (strOfNums b5).toList)
def F_ip_Same_j2 (t24 : Bool) : Option Bool :=
  some t24
def F_ip_Same_j1 (av1 : T_ip_Header) (b5 : T_ip_Header) (plain18 : Bool) : Option Bool :=
  if plain18 = true then
  if (av1.f_TTL == b5.f_TTL) = true then
  if (av1.f_Proto == b5.f_Proto) = true then
  if (arrEq 4 av1.f_Src b5.f_Src) = true then
  if (arrEq 4 av1.f_Dst b5.f_Dst) = true then
  (F_bytes_Equal av1.f_Options b5.f_Options).bind fun y20 =>
  F_ip_Same_j2 y20
  else
  F_ip_Same_j2 false
  else
  F_ip_Same_j2 false
  else
  F_ip_Same_j2 false
  else
  F_ip_Same_j2 false
  else
  F_ip_Same_j2 false
def F_ip_Same (av1 : T_ip_Header) (b5 : T_ip_Header) : Option Bool :=
  if (av1.f_TOS == b5.f_TOS) = true then
  if (av1.f_Total == b5.f_Total) = true then
  if (av1.f_ID == b5.f_ID) = true then
  if (av1.f_DF == b5.f_DF) = true then
  if (av1.f_MF == b5.f_MF) = true then
  F_ip_Same_j1 av1 b5 (av1.f_Frag == b5.f_Frag)
  else
  F_ip_Same_j1 av1 b5 false
  else
  F_ip_Same_j1 av1 b5 false
  else
  F_ip_Same_j1 av1 b5 false
  else
  F_ip_Same_j1 av1 b5 false
  else
  F_ip_Same_j1 av1 b5 false
def F_law05_IpPuts_l2 (rec282 : (List Int) → Int → Option Bool) (t212 : Int) (rec214 : Int → Option Bool) (b279 : List Int) (i280 : Int) : Option Bool :=
  if (decide (i280 < (b279.length : Int))) = true then
  (gidx b279 i280).bind fun xv289 =>
  (gidx b279 i280).bind fun xv292 =>
  rec282 (b279.set (i280 : Int).toNat (IntKind.u8.wrap (xv289 + 1))) (IntKind.i64.wrap (i280 + 1))
  else
  rec214 (IntKind.i64.wrap (t212 + 1))
def F_law05_IpPuts_L2 (t212 : Int) (rec214 : Int → Option Bool) : Nat → (List Int) → Int → Option Bool
  | 0 => fun _ _ => none
  | k + 1 => F_law05_IpPuts_l2 (F_law05_IpPuts_L2 t212 rec214 k) t212 rec214
def F_law05_IpPuts_j2 (t212 : Int) (rec214 : Int → Option Bool) (y220 : (List Int) × Int) (t237 : Bool) : Option Bool :=
  if t237 = true then
  some false
  else
  F_law05_IpPuts_L2 t212 rec214 fuel0 y220.1 0
def F_law05_IpPuts_j3 (t323 : Bool) : Option Bool :=
  some t323
def F_law05_IpPuts_l1 (rec214 : Int → Option Bool) (h1 : T_ip_Header) (other5 : T_ip_Header) (y27 : T_ref05_Header) (y36 : (List Int) × Int) (t212 : Int) : Option Bool :=
  if (decide (t212 < 2)) = true then
  (F_ip_Put h1).bind fun y220 =>
  if (y220.2 != y36.2) = true then
  F_law05_IpPuts_j2 t212 rec214 y220 true
  else
  (F_ref01_Same y220.1 y36.1).bind fun y228 =>
  F_law05_IpPuts_j2 t212 rec214 y220 (!y228)
  else
  (F_ip_Right h1).bind fun y295 =>
  (F_ref05_Right y27).bind fun y299 =>
  if (y295 == y299) = true then
  (F_ip_Same h1 other5).bind fun y303 =>
  (F_docs_Ip other5).bind fun y307 =>
  if (y303 == (q_ref05_Header y27 y307)) = true then
  (F_ip_Same h1 h1).bind fun y311 =>
  if y311 = true then
  (F_docs_Ip h1).bind fun y315 =>
  if (q_ref05_Header y315 y27) = true then
  (F_law05_works).bind fun y319 =>
  F_law05_IpPuts_j3 y319
  else
  F_law05_IpPuts_j3 false
  else
  F_law05_IpPuts_j3 false
  else
  F_law05_IpPuts_j3 false
  else
  F_law05_IpPuts_j3 false
def F_law05_IpPuts_L1 (h1 : T_ip_Header) (other5 : T_ip_Header) (y27 : T_ref05_Header) (y36 : (List Int) × Int) : Nat → Int → Option Bool
  | 0 => fun _ => none
  | k + 1 => F_law05_IpPuts_l1 (F_law05_IpPuts_L1 h1 other5 y27 y36 k) h1 other5 y27 y36
def F_law05_IpPuts_j1 (h1 : T_ip_Header) (other5 : T_ip_Header) (t19 : Bool) : Option Bool :=
  if t19 = true then
  (F_law05_works).bind fun y22 =>
  some y22
  else
  (F_docs_Ip h1).bind fun y27 =>
  (F_ref05_Put y27).bind fun y36 =>
  F_law05_IpPuts_L1 h1 other5 y27 y36 fuel0 0
def F_law05_IpPuts (h1 : T_ip_Header) (other5 : T_ip_Header) : Option Bool :=
  if (decide (100 < (h1.f_Options.length : Int))) = true then
  F_law05_IpPuts_j1 h1 other5 true
  else
  F_law05_IpPuts_j1 h1 other5 (decide (100 < (other5.f_Options.length : Int)))
def F_kit_Pick (i1 : Int) (nv2 : Int) : Option Int :=
  if (decide (nv2 ≤ 0)) = true then
  some 0
  else
  if (decide (nv2 ≠ 0)) = true then
  if (decide (nv2 ≠ 0)) = true then
  some (Int.tmod (IntKind.i64.wrap ((Int.tmod i1 nv2) + nv2)) nv2)
  else none
  else none
def F_sum_Change (sum1 : Int) (fromv2 : Int) (tov3 : Int) : Option Int :=
  (F_sum_fold (IntKind.u64.wrap ((IntKind.u64.wrap ((IntKind.u64.wrap (IntKind.u16.wrap (65535 - sum1))) + (IntKind.u64.wrap (IntKind.u16.wrap (65535 - fromv2))))) + (IntKind.u64.wrap tov3)))).bind fun y6 =>
  some (IntKind.u16.wrap (65535 - y6))
def F_ip_Hop (b1 : List Int) : Option ((List Int) × Int) :=
  (F_ip_Parse b1).bind fun y7 =>
  if (y7.2.2 != 0) = true then
  some ([], y7.2.2)
  else
  if (y7.1.f_TTL == 0) = true then
  some ([], 51)
  else
  (F_slices_Clone_byte_byte b1).bind fun y24 =>
  (gidx y24 8).bind fun xv34 =>
  (gidx y24 8).bind fun xv37 =>
  (F_ip_word b1 10).bind fun y41 =>
  (F_ip_word b1 8).bind fun y45 =>
  (F_ip_word (y24.set (8 : Int).toNat (IntKind.u8.wrap (xv34 - 1))) 8).bind fun y49 =>
  (F_sum_Change y41 y45 y49).bind fun y53 =>
  (gidx (y24.set (8 : Int).toNat (IntKind.u8.wrap (xv34 - 1))) 10).bind fun xv60 =>
  (gidx ((y24.set (8 : Int).toNat (IntKind.u8.wrap (xv34 - 1))).set (10 : Int).toNat (IntKind.u8.wrap (Ox.shr .u16 y53 8))) 11).bind fun xv65 =>
  some ((((y24.set (8 : Int).toNat (IntKind.u8.wrap (xv34 - 1))).set (10 : Int).toNat (IntKind.u8.wrap (Ox.shr .u16 y53 8))).set (11 : Int).toNat (IntKind.u8.wrap y53)), 0)
def F_law05_IpBack_j4 (t135 : Bool) : Option Bool :=
  some t135
def F_law05_IpBack_j6 (t182 : Bool) : Option Bool :=
  some t182
def F_law05_IpBack_j5 (h1 : T_ip_Header) (behind5 : List Int) (y55 : T_ip_Header × Int × Int) (y122 : (List Int) × Int) (y138 : T_ip_Header × Int × Int) (t158 : Bool) : Option Bool :=
  if t158 = true then
  some false
  else
  (F_ip_Same (T_ip_Header.mk y138.1.f_TOS y138.1.f_Total y138.1.f_ID y138.1.f_DF y138.1.f_MF y138.1.f_Frag h1.f_TTL y138.1.f_Proto y138.1.f_Src y138.1.f_Dst y138.1.f_Options) h1).bind fun y163 =>
  if y163 = true then
  (gcut y122.1 y55.2.1 ((y122.1).length)).bind fun cut167 =>
  (F_ref01_Same cut167 behind5).bind fun y174 =>
  if y174 = true then
  (F_law05_works).bind fun y178 =>
  F_law05_IpBack_j6 y178
  else
  F_law05_IpBack_j6 false
  else
  F_law05_IpBack_j6 false
def F_law05_IpBack_j3 (h1 : T_ip_Header) (behind5 : List Int) (y47 : (List Int)) (y55 : T_ip_Header × Int × Int) (t118 : Bool) : Option Bool :=
  if t118 = true then
  some false
  else
  (F_ip_Hop y47).bind fun y122 =>
  if (h1.f_TTL == 0) = true then
  if (y122.2 == 51) = true then
  (F_law05_works).bind fun y131 =>
  F_law05_IpBack_j4 y131
  else
  F_law05_IpBack_j4 false
  else
  (F_ip_Parse y122.1).bind fun y138 =>
  if (y122.2 != 0) = true then
  F_law05_IpBack_j5 h1 behind5 y55 y122 y138 true
  else
  if (y138.2.2 != 0) = true then
  F_law05_IpBack_j5 h1 behind5 y55 y122 y138 true
  else
  if (y138.2.1 != y55.2.1) = true then
  F_law05_IpBack_j5 h1 behind5 y55 y122 y138 true
  else
  if ((y122.1.length : Int) != (y47.length : Int)) = true then
  F_law05_IpBack_j5 h1 behind5 y55 y122 y138 true
  else
  if (y138.1.f_TTL != (IntKind.u8.wrap (h1.f_TTL - 1))) = true then
  F_law05_IpBack_j5 h1 behind5 y55 y122 y138 true
  else
  (F_ip_Right y138.1).bind fun y150 =>
  F_law05_IpBack_j5 h1 behind5 y55 y122 y138 (!y150)
def F_law05_IpBack_j2 (h1 : T_ip_Header) (behind5 : List Int) (atv9 : Int) (byv10 : Int) (y25 : (List Int) × Int) (y47 : (List Int)) (y55 : T_ip_Header × Int × Int) (t74 : Bool) : Option Bool :=
  if t74 = true then
  some false
  else
  (F_ref01_Join [] y25.1).bind fun y78 =>
  (F_kit_Pick atv9 (gmax 1 (y78.length : Int))).bind fun y86 =>
  (gidx y78 y86).bind fun xv93 =>
  (gidx y78 y86).bind fun xv96 =>
  (F_ip_Parse (y78.set (y86 : Int).toNat (IntKind.u8.wrap (xv93 + byv10)))).bind fun y100 =>
  if (decide (0 < byv10)) = true then
  if (y86 != 10) = true then
  if (y86 != 11) = true then
  if (y100.2.2 == 0) = true then
  (F_ip_Same y100.1 h1).bind fun y112 =>
  F_law05_IpBack_j3 h1 behind5 y47 y55 y112
  else
  F_law05_IpBack_j3 h1 behind5 y47 y55 false
  else
  F_law05_IpBack_j3 h1 behind5 y47 y55 false
  else
  F_law05_IpBack_j3 h1 behind5 y47 y55 false
  else
  F_law05_IpBack_j3 h1 behind5 y47 y55 false
def F_law05_IpBack_j1 (h1 : T_ip_Header) (behind5 : List Int) (atv9 : Int) (byv10 : Int) (t17 : Bool) : Option Bool :=
  if t17 = true then
  (F_law05_works).bind fun y20 =>
  some y20
  else
  (F_ip_Put h1).bind fun y25 =>
  (F_ip_Right h1).bind fun y34 =>
  if (!((y25.2 == 0) == y34)) = true then
  some false
  else
  if (y25.2 != 0) = true then
  (F_law05_works).bind fun y42 =>
  some y42
  else
  (F_ref01_Join y25.1 behind5).bind fun y47 =>
  (F_ip_Parse y47).bind fun y55 =>
  if (y55.2.2 != 0) = true then
  F_law05_IpBack_j2 h1 behind5 atv9 byv10 y25 y47 y55 true
  else
  if (y55.2.1 != (y25.1.length : Int)) = true then
  F_law05_IpBack_j2 h1 behind5 atv9 byv10 y25 y47 y55 true
  else
  (F_ip_Same y55.1 h1).bind fun y67 =>
  F_law05_IpBack_j2 h1 behind5 atv9 byv10 y25 y47 y55 (!y67)
def F_law05_IpBack (h1 : T_ip_Header) (behind5 : List Int) (atv9 : Int) (byv10 : Int) : Option Bool :=
  if (decide (100 < (h1.f_Options.length : Int))) = true then
  F_law05_IpBack_j1 h1 behind5 atv9 byv10 true
  else
  F_law05_IpBack_j1 h1 behind5 atv9 byv10 (decide (300 < (behind5.length : Int)))
def F_ref01_Get_j2 (b1 : List Int) (atv5 : Int) (v37 : Int) (i38 : Int) (rec40 : Int → Int → Option (Int × Int)) (t46 : Bool) : Option (Int × Int) :=
  if t46 = true then
  some (0, 10)
  else
  (gidx b1 (IntKind.i64.wrap (atv5 + i38))).bind fun xv51 =>
  rec40 (IntKind.u64.wrap ((IntKind.u64.wrap (v37 * 256)) + (IntKind.u64.wrap xv51))) (IntKind.i64.wrap (i38 + 1))
def F_ref01_Get_l1 (rec40 : Int → Int → Option (Int × Int)) (b1 : List Int) (atv5 : Int) (size6 : Int) (v37 : Int) (i38 : Int) : Option (Int × Int) :=
  if (decide (i38 < size6)) = true then
  if (decide ((b1.length : Int) < atv5)) = true then
  F_ref01_Get_j2 b1 atv5 v37 i38 rec40 true
  else
  F_ref01_Get_j2 b1 atv5 v37 i38 rec40 (decide ((b1.length : Int) ≤ (IntKind.i64.wrap (atv5 + i38))))
  else
  some (v37, 0)
def F_ref01_Get_L1 (b1 : List Int) (atv5 : Int) (size6 : Int) : Nat → Int → Int → Option (Int × Int)
  | 0 => fun _ _ => none
  | k + 1 => F_ref01_Get_l1 (F_ref01_Get_L1 b1 atv5 size6 k) b1 atv5 size6
def F_ref01_Get_j1 (b1 : List Int) (atv5 : Int) (size6 : Int) (t9 : Bool) : Option (Int × Int) :=
  if t9 = true then
  some (0, 2)
  else
  F_ref01_Get_L1 b1 atv5 size6 fuel0 0 0
def F_ref01_Get (b1 : List Int) (atv5 : Int) (size6 : Int) : Option (Int × Int) :=
  if (decide (size6 < 1)) = true then
  F_ref01_Get_j1 b1 atv5 size6 true
  else
  if (decide (8 < size6)) = true then
  F_ref01_Get_j1 b1 atv5 size6 true
  else
  F_ref01_Get_j1 b1 atv5 size6 (decide (atv5 < 0))
def F_ref03_Whole_j1 (t14 : Bool) : Option Bool :=
  some t14
def F_ref03_Whole (b1 : List Int) : Option Bool :=
  (F_ref03_Sum b1).bind fun y6 =>
  if (y6 == 65535) = true then
  F_ref03_Whole_j1 true
  else
  (F_ref03_Sum b1).bind fun y10 =>
  F_ref03_Whole_j1 (y10 == 0)
def F_ref05_Parse_j1 (b1 : List Int) (xv30 : Int) (y42 : Int × Int) (y47 : Int × Int) (y52 : Int × Int) (t59 : Bool) : Option (T_ref05_Header × Int × Int) :=
  if t59 = true then
  some ((T_ref05_Header.mk 0 0 0 false false 0 0 0 ByteArray.empty ByteArray.empty ByteArray.empty), 0, 51)
  else
  (gcut b1 0 (IntKind.i64.wrap ((IntKind.i64.wrap (Int.tmod xv30 16)) * 4))).bind fun cut66 =>
  (F_ref03_Whole cut66).bind fun y73 =>
  if (!y73) = true then
  some ((T_ref05_Header.mk 0 0 0 false false 0 0 0 ByteArray.empty ByteArray.empty ByteArray.empty), 0, 52)
  else
  (gidx b1 1).bind fun xv83 =>
  (gidx b1 8).bind fun xv86 =>
  (gidx b1 9).bind fun xv89 =>
  (gcut b1 12 16).bind fun cut90 =>
  (gcut b1 16 20).bind fun cut97 =>
  (gcut b1 20 (IntKind.i64.wrap ((IntKind.i64.wrap (Int.tmod xv30 16)) * 4))).bind fun cut104 =>
  some ((T_ref05_Header.mk xv83 (IntKind.u16.wrap y42.1) (IntKind.u16.wrap y47.1) ((Int.tmod (IntKind.u64.wrap (Int.tdiv y52.1 16384)) 2) == 1) ((Int.tmod (IntKind.u64.wrap (Int.tdiv y52.1 8192)) 2) == 1) (IntKind.u16.wrap (Int.tmod y52.1 8192)) xv86 xv89 (strOfNums cut90) (strOfNums cut97) (strOfNums cut104)), (IntKind.i64.wrap ((IntKind.i64.wrap (Int.tmod xv30 16)) * 4)), 0)
def F_ref05_Parse (b1 : List Int) : Option (T_ref05_Header × Int × Int) :=
  if (decide ((b1.length : Int) < 20)) = true then
  some ((T_ref05_Header.mk 0 0 0 false false 0 0 0 ByteArray.empty ByteArray.empty ByteArray.empty), 0, 10)
  else
  (gidx b1 0).bind fun xv23 =>
  if ((IntKind.u8.wrap (Int.tdiv xv23 16)) != 4) = true then
  some ((T_ref05_Header.mk 0 0 0 false false 0 0 0 ByteArray.empty ByteArray.empty ByteArray.empty), 0, 50)
  else
  (gidx b1 0).bind fun xv30 =>
  if (decide ((IntKind.i64.wrap ((IntKind.i64.wrap (Int.tmod xv30 16)) * 4)) < 20)) = true then
  some ((T_ref05_Header.mk 0 0 0 false false 0 0 0 ByteArray.empty ByteArray.empty ByteArray.empty), 0, 51)
  else
  if (decide ((b1.length : Int) < (IntKind.i64.wrap ((IntKind.i64.wrap (Int.tmod xv30 16)) * 4)))) = true then
  some ((T_ref05_Header.mk 0 0 0 false false 0 0 0 ByteArray.empty ByteArray.empty ByteArray.empty), 0, 10)
  else
  (F_ref01_Get b1 2 2).bind fun y42 =>
  (F_ref01_Get b1 4 2).bind fun y47 =>
  (F_ref01_Get b1 6 2).bind fun y52 =>
  if (decide (32768 ≤ y52.1)) = true then
  F_ref05_Parse_j1 b1 xv30 y42 y47 y52 true
  else
  F_ref05_Parse_j1 b1 xv30 y42 y47 y52 (decide ((IntKind.i64.wrap y42.1) < (IntKind.i64.wrap ((IntKind.i64.wrap (Int.tmod xv30 16)) * 4))))
def F_ref05_Body (b1 : List Int) : Option ((List Int) × Int) :=
  (F_ref05_Parse b1).bind fun y7 =>
  if (y7.2.2 != 0) = true then
  some ([], y7.2.2)
  else
  if (decide ((b1.length : Int) < (IntKind.i64.wrap y7.1.f_Total))) = true then
  some ([], 10)
  else
  (gcut b1 y7.2.1 y7.1.f_Total).bind fun cut22 =>
  some (cut22, 0)
def F_ref03_Change (sum1 : Int) (fromv2 : Int) (tov3 : Int) : Option Int :=
  (F_ref03_Fold (IntKind.u64.wrap ((IntKind.u64.wrap ((IntKind.u64.wrap ((IntKind.u64.wrap (65535 - (IntKind.u64.wrap sum1))) + 65535)) - (IntKind.u64.wrap fromv2))) + (IntKind.u64.wrap tov3)))).bind fun y6 =>
  some (IntKind.u16.wrap (IntKind.u64.wrap (65535 - y6)))
def F_ref05_Hop (b1 : List Int) : Option ((List Int) × Int) :=
  (F_ref05_Parse b1).bind fun y7 =>
  if (y7.2.2 != 0) = true then
  some ([], y7.2.2)
  else
  if (y7.1.f_TTL == 0) = true then
  some ([], 51)
  else
  (F_ref01_Join [] b1).bind fun y22 =>
  (gidx b1 8).bind fun xv32 =>
  (gidx y22 8).bind fun xv35 =>
  (F_ref01_Get b1 10 2).bind fun y39 =>
  (F_ref01_Get b1 8 2).bind fun y44 =>
  (F_ref01_Get (y22.set (8 : Int).toNat (IntKind.u8.wrap (xv32 - 1))) 8 2).bind fun y49 =>
  (F_ref03_Change (IntKind.u16.wrap y39.1) (IntKind.u16.wrap y44.1) (IntKind.u16.wrap y49.1)).bind fun y54 =>
  (F_ref01_Put (IntKind.u64.wrap y54) 2).bind fun y58 =>
  (gidx y58 0).bind fun xv68 =>
  (gidx (y22.set (8 : Int).toNat (IntKind.u8.wrap (xv32 - 1))) 10).bind fun xv71 =>
  (gidx y58 1).bind fun xv77 =>
  (gidx ((y22.set (8 : Int).toNat (IntKind.u8.wrap (xv32 - 1))).set (10 : Int).toNat xv68) 11).bind fun xv80 =>
  some ((((y22.set (8 : Int).toNat (IntKind.u8.wrap (xv32 - 1))).set (10 : Int).toNat xv68).set (11 : Int).toNat xv77), 0)
def F_ip_Body (b1 : List Int) : Option ((List Int) × Int) :=
  (F_ip_Parse b1).bind fun y7 =>
  if (y7.2.2 != 0) = true then
  some ([], y7.2.2)
  else
  if (decide ((b1.length : Int) < (IntKind.i64.wrap y7.1.f_Total))) = true then
  some ([], 10)
  else
  (gcut b1 y7.2.1 y7.1.f_Total).bind fun cut24 =>
  (F_slices_Clone_byte_byte cut24).bind fun y31 =>
  some (y31, 0)
def F_law05_pad_j1 (h1 : T_ref05_Header) (h14 : ByteArray) (h15 : ByteArray) : Option T_ref05_Header :=
  some (T_ref05_Header.mk h1.f_TOS h1.f_Total h1.f_ID h1.f_DF h1.f_MF h1.f_Frag h1.f_TTL h1.f_Proto h14 h15 h1.f_Options)
def F_law05_pad (h1 : T_ref05_Header) : Option T_ref05_Header :=
  if (h1.f_Src.toList == (⟨#[]⟩ : ByteArray).toList) = true then
  F_law05_pad_j1 h1 (⟨#[0, 0, 0, 0]⟩ : ByteArray) (⟨#[0, 0, 0, 0]⟩ : ByteArray)
  else
  F_law05_pad_j1 h1 h1.f_Src h1.f_Dst
def F_law05_IpParses_l4 (rec728 : (List Int) → Int → Option Bool) (t510 : Int) (rec512 : Int → Option Bool) (y725 : List Int) (q726 : Int) : Option Bool :=
  if (decide (q726 < (y725.length : Int))) = true then
  (gidx y725 q726).bind fun xv735 =>
  (gidx y725 q726).bind fun xv738 =>
  rec728 (y725.set (q726 : Int).toNat (IntKind.u8.wrap (xv735 + 1))) (IntKind.i64.wrap (q726 + 1))
  else
  rec512 (IntKind.i64.wrap (t510 + 1))
def F_law05_IpParses_L4 (t510 : Int) (rec512 : Int → Option Bool) : Nat → (List Int) → Int → Option Bool
  | 0 => fun _ _ => none
  | k + 1 => F_law05_IpParses_l4 (F_law05_IpParses_L4 t510 rec512 k) t510 rec512
def F_law05_IpParses_l3 (rec675 : (List Int) → Int → Option Bool) (t510 : Int) (rec512 : Int → Option Bool) (y538 : (List Int) × Int) (xv671 : List Int) (q673 : Int) : Option Bool :=
  if (decide (q673 < (xv671.length : Int))) = true then
  (gidx xv671 q673).bind fun xv682 =>
  (gidx xv671 q673).bind fun xv685 =>
  rec675 (xv671.set (q673 : Int).toNat (IntKind.u8.wrap (xv682 + 1))) (IntKind.i64.wrap (q673 + 1))
  else
  F_law05_IpParses_L4 t510 rec512 fuel0 y538.1 0
def F_law05_IpParses_L3 (t510 : Int) (rec512 : Int → Option Bool) (y538 : (List Int) × Int) : Nat → (List Int) → Int → Option Bool
  | 0 => fun _ _ => none
  | k + 1 => F_law05_IpParses_l3 (F_law05_IpParses_L3 t510 rec512 y538 k) t510 rec512 y538
def F_law05_IpParses_l2 (rec619 : (List Int) → Int → Option Bool) (t510 : Int) (rec512 : Int → Option Bool) (y530 : (List Int) × Int) (y538 : (List Int) × Int) (h614 : List Int) (q617 : Int) : Option Bool :=
  if (decide (q617 < (h614.length : Int))) = true then
  (gidx h614 q617).bind fun xv626 =>
  (gidx h614 q617).bind fun xv629 =>
  rec619 (h614.set (q617 : Int).toNat (IntKind.u8.wrap (xv626 + 1))) (IntKind.i64.wrap (q617 + 1))
  else
  F_law05_IpParses_L3 t510 rec512 y538 fuel0 y530.1 0
def F_law05_IpParses_L2 (t510 : Int) (rec512 : Int → Option Bool) (y530 : (List Int) × Int) (y538 : (List Int) × Int) : Nat → (List Int) → Int → Option Bool
  | 0 => fun _ _ => none
  | k + 1 => F_law05_IpParses_l2 (F_law05_IpParses_L2 t510 rec512 y530 y538 k) t510 rec512 y530 y538
def F_law05_IpParses_j1 (t510 : Int) (rec512 : Int → Option Bool) (y518 : T_ip_Header × Int × Int) (y530 : (List Int) × Int) (y538 : (List Int) × Int) (t569 : Bool) : Option Bool :=
  if t569 = true then
  some false
  else
  F_law05_IpParses_L2 t510 rec512 y530 y538 fuel0 y518.1.f_Options 0
def F_law05_IpParses_j2 (t749 : Bool) : Option Bool :=
  some t749
def F_law05_IpParses_l1 (rec512 : Int → Option Bool) (b1 : List Int) (y14 : (List Int)) (y22 : T_ref05_Header × Int × Int) (y31 : (List Int) × Int) (y40 : (List Int) × Int) (t510 : Int) : Option Bool :=
  if (decide (t510 < 2)) = true then
  (F_ip_Parse b1).bind fun y518 =>
  (F_ip_Body b1).bind fun y530 =>
  (F_ip_Hop b1).bind fun y538 =>
  if (y518.2.2 != y22.2.2) = true then
  F_law05_IpParses_j1 t510 rec512 y518 y530 y538 true
  else
  if (y518.2.1 != y22.2.1) = true then
  F_law05_IpParses_j1 t510 rec512 y518 y530 y538 true
  else
  (F_docs_Ip y518.1).bind fun y546 =>
  (F_law05_pad y22.1).bind fun y550 =>
  if (!(q_ref05_Header y546 y550)) = true then
  F_law05_IpParses_j1 t510 rec512 y518 y530 y538 true
  else
  if (y530.2 != y31.2) = true then
  F_law05_IpParses_j1 t510 rec512 y518 y530 y538 true
  else
  (F_ref01_Same y530.1 y31.1).bind fun y554 =>
  if (!y554) = true then
  F_law05_IpParses_j1 t510 rec512 y518 y530 y538 true
  else
  if (y538.2 != y40.2) = true then
  F_law05_IpParses_j1 t510 rec512 y518 y530 y538 true
  else
  (F_ref01_Same y538.1 y40.1).bind fun y558 =>
  F_law05_IpParses_j1 t510 rec512 y518 y530 y538 (!y558)
  else
  (F_ref01_Same b1 y14).bind fun y741 =>
  if y741 = true then
  (F_law05_works).bind fun y745 =>
  F_law05_IpParses_j2 y745
  else
  F_law05_IpParses_j2 false
def F_law05_IpParses_L1 (b1 : List Int) (y14 : (List Int)) (y22 : T_ref05_Header × Int × Int) (y31 : (List Int) × Int) (y40 : (List Int) × Int) : Nat → Int → Option Bool
  | 0 => fun _ => none
  | k + 1 => F_law05_IpParses_l1 (F_law05_IpParses_L1 b1 y14 y22 y31 y40 k) b1 y14 y22 y31 y40
def F_law05_IpParses (b1 : List Int) : Option Bool :=
  if (decide (300 < (b1.length : Int))) = true then
  (F_law05_works).bind fun y9 =>
  some y9
  else
  (F_ref01_Join [] b1).bind fun y14 =>
  (F_ref05_Parse b1).bind fun y22 =>
  (F_ref05_Body b1).bind fun y31 =>
  (F_ref05_Hop b1).bind fun y40 =>
  F_law05_IpParses_L1 b1 y14 y22 y31 y40 fuel0 0
def F_law05_IpKnown_j2 (nv694 : Int) (rec696 : Int → Option Bool) (t735 : Bool) : Option Bool :=
  if t735 = true then
  some false
  else
  rec696 (IntKind.i64.wrap (nv694 + 1))
def F_law05_IpKnown_l2 (rec696 : Int → Option Bool) (more497 : List Int) (i498 : Int) (rec500 : (List Int) → Int → Option Bool) (xv511 : Int) (y600 : (List Int)) (nv694 : Int) : Option Bool :=
  if (decide (nv694 < (y600.length : Int))) = true then
  (F_ref01_Join [] y600).bind fun y702 =>
  (gidx y702 nv694).bind fun xv712 =>
  (gidx y702 nv694).bind fun xv715 =>
  if ((Int.tmod i498 4) == 0) = true then
  (gcut y600 0 nv694).bind fun cut718 =>
  (F_law05_IpParses cut718).bind fun y725 =>
  if (!y725) = true then
  F_law05_IpKnown_j2 nv694 rec696 true
  else
  (F_law05_IpParses (y702.set (nv694 : Int).toNat (IntKind.u8.wrap (xv712 + (IntKind.u8.wrap (IntKind.i64.wrap (1 + (IntKind.i64.wrap (i498 * 16))))))))).bind fun y729 =>
  F_law05_IpKnown_j2 nv694 rec696 (!y729)
  else
  F_law05_IpKnown_j2 nv694 rec696 false
  else
  (F_law05_IpParses y600).bind fun y739 =>
  if (!y739) = true then
  some false
  else
  rec500 (more497 ++ ([xv511] : List Int)) (IntKind.i64.wrap (i498 + 1))
def F_law05_IpKnown_L2 (more497 : List Int) (i498 : Int) (rec500 : (List Int) → Int → Option Bool) (xv511 : Int) (y600 : (List Int)) : Nat → Int → Option Bool
  | 0 => fun _ => none
  | k + 1 => F_law05_IpKnown_l2 (F_law05_IpKnown_L2 more497 i498 rec500 xv511 y600 k) more497 i498 rec500 xv511 y600
def F_law05_IpKnown_j1 (more497 : List Int) (i498 : Int) (rec500 : (List Int) → Int → Option Bool) (xv511 : Int) (cut540 : List Int) (t588 : Bool) : Option Bool :=
  if t588 = true then
  some false
  else
  (F_ip_Put (T_ip_Header.mk (IntKind.u8.wrap i498) (IntKind.u16.wrap (IntKind.i64.wrap (60 + i498))) (IntKind.u16.wrap (IntKind.i64.wrap (i498 * 4000))) ((Int.tmod i498 2) == 0) ((Int.tmod i498 3) == 0) (Int.tmod (IntKind.u16.wrap (IntKind.i64.wrap (8185 + i498))) 8192) (IntKind.u8.wrap (Int.tmod i498 4)) (IntKind.u8.wrap (IntKind.i64.wrap (i498 * 6))) ([(IntKind.u8.wrap i498), 2, 3, 4]) ([255, (IntKind.u8.wrap i498), 0, 1]) cut540)).bind fun y592 =>
  (F_ref01_Join y592.1 (more497 ++ ([xv511] : List Int))).bind fun y600 =>
  F_law05_IpKnown_L2 more497 i498 rec500 xv511 y600 fuel0 0
def F_law05_IpKnown_j3 (t773 : Bool) : Option Bool :=
  some t773
def F_law05_IpKnown_l1 (rec500 : (List Int) → Int → Option Bool) (more497 : List Int) (i498 : Int) : Option Bool :=
  if (decide (i498 < 44)) = true then
  (gidx ([1, 7, 4, 9, 2, 0] : List Int) (Int.tmod (IntKind.i64.wrap (i498 * 5)) 6)).bind fun xv511 =>
  if (decide (more497.length + ([xv511] : List Int).length ≤ lim)) = true then
  (gcut (more497 ++ ([xv511] : List Int)) 0 (gmin ((more497 ++ ([xv511] : List Int)).length : Int) (Int.tmod (IntKind.i64.wrap (i498 * 3)) 44))).bind fun cut521 =>
  (gcut (more497 ++ ([xv511] : List Int)) 0 (gmin (IntKind.i64.wrap ((IntKind.i64.wrap (Int.tdiv ((more497 ++ ([xv511] : List Int)).length : Int) 4)) * 4)) (Int.tmod (IntKind.i64.wrap ((IntKind.i64.wrap (Int.tdiv i498 4)) * 4)) 44))).bind fun cut540 =>
  (F_law05_IpPuts (T_ip_Header.mk (IntKind.u8.wrap i498) (IntKind.u16.wrap (IntKind.i64.wrap (18 + (IntKind.i64.wrap (i498 * 7))))) (IntKind.u16.wrap (IntKind.i64.wrap (i498 * 4000))) ((Int.tmod i498 2) == 0) ((Int.tmod i498 3) == 0) (IntKind.u16.wrap (IntKind.i64.wrap (8185 + i498))) (IntKind.u8.wrap (Int.tmod i498 4)) (IntKind.u8.wrap (IntKind.i64.wrap (i498 * 6))) ([(IntKind.u8.wrap i498), 2, 3, 4]) ([255, (IntKind.u8.wrap i498), 0, 1]) cut521) (T_ip_Header.mk (IntKind.u8.wrap i498) (IntKind.u16.wrap (IntKind.i64.wrap (60 + i498))) (IntKind.u16.wrap (IntKind.i64.wrap (i498 * 4000))) ((Int.tmod i498 2) == 0) ((Int.tmod i498 3) == 0) (Int.tmod (IntKind.u16.wrap (IntKind.i64.wrap (8185 + i498))) 8192) (IntKind.u8.wrap (Int.tmod i498 4)) (IntKind.u8.wrap (IntKind.i64.wrap (i498 * 6))) ([(IntKind.u8.wrap i498), 2, 3, 4]) ([255, (IntKind.u8.wrap i498), 0, 1]) cut540)).bind fun y551 =>
  if (!y551) = true then
  F_law05_IpKnown_j1 more497 i498 rec500 xv511 cut540 true
  else
  (F_law05_IpPuts (T_ip_Header.mk (IntKind.u8.wrap i498) (IntKind.u16.wrap (IntKind.i64.wrap (60 + i498))) (IntKind.u16.wrap (IntKind.i64.wrap (i498 * 4000))) ((Int.tmod i498 2) == 0) ((Int.tmod i498 3) == 0) (Int.tmod (IntKind.u16.wrap (IntKind.i64.wrap (8185 + i498))) 8192) (IntKind.u8.wrap (Int.tmod i498 4)) (IntKind.u8.wrap (IntKind.i64.wrap (i498 * 6))) ([(IntKind.u8.wrap i498), 2, 3, 4]) ([255, (IntKind.u8.wrap i498), 0, 1]) cut540) (T_ip_Header.mk (IntKind.u8.wrap i498) (IntKind.u16.wrap (IntKind.i64.wrap (60 + i498))) (IntKind.u16.wrap (IntKind.i64.wrap (i498 * 4000))) ((Int.tmod i498 2) == 0) ((Int.tmod i498 3) == 0) (Int.tmod (IntKind.u16.wrap (IntKind.i64.wrap (8185 + i498))) 8192) (IntKind.u8.wrap (Int.tmod i498 4)) (IntKind.u8.wrap (IntKind.i64.wrap (i498 * 6))) ([(IntKind.u8.wrap i498), 2, 3, 4]) ([255, (IntKind.u8.wrap i498), 0, 1]) cut540)).bind fun y555 =>
  if (!y555) = true then
  F_law05_IpKnown_j1 more497 i498 rec500 xv511 cut540 true
  else
  (F_law05_IpBack (T_ip_Header.mk (IntKind.u8.wrap i498) (IntKind.u16.wrap (IntKind.i64.wrap (18 + (IntKind.i64.wrap (i498 * 7))))) (IntKind.u16.wrap (IntKind.i64.wrap (i498 * 4000))) ((Int.tmod i498 2) == 0) ((Int.tmod i498 3) == 0) (IntKind.u16.wrap (IntKind.i64.wrap (8185 + i498))) (IntKind.u8.wrap (Int.tmod i498 4)) (IntKind.u8.wrap (IntKind.i64.wrap (i498 * 6))) ([(IntKind.u8.wrap i498), 2, 3, 4]) ([255, (IntKind.u8.wrap i498), 0, 1]) cut521) (more497 ++ ([xv511] : List Int)) i498 1).bind fun y559 =>
  if (!y559) = true then
  F_law05_IpKnown_j1 more497 i498 rec500 xv511 cut540 true
  else
  (gcut (more497 ++ ([xv511] : List Int)) 0 (Int.tmod i498 9)).bind fun cut563 =>
  (F_law05_IpBack (T_ip_Header.mk (IntKind.u8.wrap i498) (IntKind.u16.wrap (IntKind.i64.wrap (60 + i498))) (IntKind.u16.wrap (IntKind.i64.wrap (i498 * 4000))) ((Int.tmod i498 2) == 0) ((Int.tmod i498 3) == 0) (Int.tmod (IntKind.u16.wrap (IntKind.i64.wrap (8185 + i498))) 8192) (IntKind.u8.wrap (Int.tmod i498 4)) (IntKind.u8.wrap (IntKind.i64.wrap (i498 * 6))) ([(IntKind.u8.wrap i498), 2, 3, 4]) ([255, (IntKind.u8.wrap i498), 0, 1]) cut540) cut563 (IntKind.i64.wrap (i498 * 7)) (IntKind.u8.wrap (IntKind.i64.wrap (i498 * 5)))).bind fun y570 =>
  if (!y570) = true then
  F_law05_IpKnown_j1 more497 i498 rec500 xv511 cut540 true
  else
  (gcut (more497 ++ ([xv511] : List Int)) (IntKind.i64.wrap (Int.tdiv i498 2)) (((more497 ++ ([xv511] : List Int))).length)).bind fun cut574 =>
  (F_law05_IpOptions cut574).bind fun y581 =>
  F_law05_IpKnown_j1 more497 i498 rec500 xv511 cut540 (!y581)
  else none
  else
  (F_law05_IpParses []).bind fun y744 =>
  if y744 = true then
  (F_law05_IpOptions ([7] : List Int)).bind fun y751 =>
  if y751 = true then
  (F_law05_IpOptions ([7, 1] : List Int)).bind fun y758 =>
  if y758 = true then
  (F_law05_IpOptions ([7, 3] : List Int)).bind fun y765 =>
  if y765 = true then
  (F_law05_works).bind fun y769 =>
  F_law05_IpKnown_j3 y769
  else
  F_law05_IpKnown_j3 false
  else
  F_law05_IpKnown_j3 false
  else
  F_law05_IpKnown_j3 false
  else
  F_law05_IpKnown_j3 false
def F_law05_IpKnown_L1 : Nat → (List Int) → Int → Option Bool
  | 0 => fun _ _ => none
  | k + 1 => F_law05_IpKnown_l1 (F_law05_IpKnown_L1 k)
def F_law05_IpKnown : Option Bool :=
  F_law05_IpKnown_L1 fuel0 ([]) 0
end Go.Proofs.Ytjfdfjmnajjjaaa
