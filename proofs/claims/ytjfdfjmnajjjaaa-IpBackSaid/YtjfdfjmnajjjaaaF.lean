/- Plain functions, printed by a program of this claim: what each Go function computes, where it returns. -/
import Derived.Test.YtjfdfjmnajjjaaaOxJ
set_option linter.unusedVariables false
namespace Go.Proofs.Ytjfdfjmnajjjaaa
open Go Go.Ox
structure T_ip_Header where
  f_TOS : Int
  f_Total : Int
  f_ID : Int
  f_DF : Bool
  f_MF : Bool
  f_Frag : Int
  f_TTL : Int
  f_Proto : Int
  f_Src : List Int
  f_Dst : List Int
  f_Options : List Int
structure T_bits_Writer where
  f_b : List Int
structure T_ip_writer where
  f_Writer : T_bits_Writer
structure T_sum_Sum where
  f_n : Int
  f_many : Int
def e_sum_Sum (x : T_sum_Sum) : List Value := [.int .u64 x.f_n, .int .i64 x.f_many]
structure T_ip_Option where
  f_Kind : Int
  f_Data : List Int
structure T_ref05_Option where
  f_Kind : Int
  f_Data : ByteArray
def e_ref05_Option (x : T_ref05_Option) : List Value := [.int .u8 x.f_Kind, .string x.f_Data]
structure T_ref05_Header where
  f_TOS : Int
  f_Total : Int
  f_ID : Int
  f_DF : Bool
  f_MF : Bool
  f_Frag : Int
  f_TTL : Int
  f_Proto : Int
  f_Src : ByteArray
  f_Dst : ByteArray
  f_Options : ByteArray
def e_ref05_Header (x : T_ref05_Header) : List Value := [.int .u8 x.f_TOS, .int .u16 x.f_Total, .int .u16 x.f_ID, .bool x.f_DF, .bool x.f_MF, .int .u16 x.f_Frag, .int .u8 x.f_TTL, .int .u8 x.f_Proto, .string x.f_Src, .string x.f_Dst, .string x.f_Options]
def q_ref05_Header (x y : T_ref05_Header) : Bool := ((x.f_TOS == y.f_TOS) && ((x.f_Total == y.f_Total) && ((x.f_ID == y.f_ID) && ((x.f_DF == y.f_DF) && ((x.f_MF == y.f_MF) && ((x.f_Frag == y.f_Frag) && ((x.f_TTL == y.f_TTL) && ((x.f_Proto == y.f_Proto) && ((x.f_Src.toList == y.f_Src.toList) && ((x.f_Dst.toList == y.f_Dst.toList) && ((x.f_Options.toList == y.f_Options.toList) && true)))))))))))
def F_ip_Header_length (h1 : T_ip_Header) : Option Int :=
  some (IntKind.i64.wrap (20 + (h1.f_Options.length : Int)))
def F_ip_Right_j1 (t12 : Bool) : Option Bool :=
  some t12
def F_ip_Right (h1 : T_ip_Header) : Option Bool :=
  if (decide (h1.f_Frag ≤ 8191)) = true then
  if ((Int.tmod (h1.f_Options.length : Int) 4) == 0) = true then
  if (decide ((h1.f_Options.length : Int) ≤ 40)) = true then
  (F_ip_Header_length h1).bind fun y8 =>
  F_ip_Right_j1 (decide (y8 ≤ (IntKind.i64.wrap h1.f_Total)))
  else
  F_ip_Right_j1 false
  else
  F_ip_Right_j1 false
  else
  F_ip_Right_j1 false
def F_bits_right_j1 (t2 : Bool) : Option Bool :=
  some t2
def F_bits_right (size1 : Int) : Option Bool :=
  if (decide (1 ≤ size1)) = true then
  F_bits_right_j1 (decide (size1 ≤ 8))
  else
  F_bits_right_j1 false
def F_bits_Least_l1 (rec7 : Int → Int → Option Int) (v4 : Int) (nv5 : Int) : Option Int :=
  if (decide (0 < v4)) = true then
  rec7 (Ox.shr .u64 v4 8) (IntKind.i64.wrap (nv5 + 1))
  else
  some nv5
def F_bits_Least_L1 : Nat → Int → Int → Option Int
  | 0 => fun _ _ => none
  | k + 1 => F_bits_Least_l1 (F_bits_Least_L1 k)
def F_bits_Least (v1 : Int) : Option Int :=
  F_bits_Least_L1 fuel0 (Ox.shr .u64 v1 8) 1
def F_bits_fits_j1 (t11 : Bool) : Option Bool :=
  some t11
def F_bits_fits (v1 : Int) (size2 : Int) : Option Bool :=
  (F_bits_right size2).bind fun y3 =>
  if y3 = true then
  (F_bits_Least v1).bind fun y7 =>
  F_bits_fits_j1 (decide (y7 ≤ size2))
  else
  F_bits_fits_j1 false
def F_bits_of_l1 (rec30 : (List Int) → Int → Option ((List Int))) (v1 : Int) (size2 : Int) (b27 : List Int) (t28 : Int) : Option ((List Int)) :=
  if (decide (t28 < size2)) = true then
  if (decide (¬ (IntKind.i64.wrap (8 * t28)) < 0)) = true then
  (gidx b27 (IntKind.i64.wrap ((IntKind.i64.wrap (size2 - 1)) - t28))).bind fun xv35 =>
  rec30 (b27.set ((IntKind.i64.wrap ((IntKind.i64.wrap (size2 - 1)) - t28)) : Int).toNat (IntKind.u8.wrap (Ox.shr .u64 v1 (IntKind.i64.wrap (8 * t28))))) (IntKind.i64.wrap (t28 + 1))
  else none
  else
  some b27
def F_bits_of_L1 (v1 : Int) (size2 : Int) : Nat → (List Int) → Int → Option ((List Int))
  | 0 => fun _ _ => none
  | k + 1 => F_bits_of_l1 (F_bits_of_L1 v1 size2 k) v1 size2
def F_bits_of (v1 : Int) (size2 : Int) : Option ((List Int)) :=
  if (decide (0 ≤ size2 ∧ size2 ≤ lim)) = true then
  F_bits_of_L1 v1 size2 fuel0 (List.replicate (Int.toNat size2) (0 : Int)) 0
  else none
def F_bits_Writer_Raw (wv1 : T_bits_Writer) (b8 : List Int) : Option (Int × T_bits_Writer) :=
  if (decide (wv1.f_b.length + b8.length ≤ lim)) = true then
  some (0, (T_bits_Writer.mk (wv1.f_b ++ b8)))
  else none
def F_bits_Writer_Put (wv1 : T_bits_Writer) (v8 : Int) (size9 : Int) : Option (Int × T_bits_Writer) :=
  (F_bits_fits v8 size9).bind fun y11 =>
  if (!y11) = true then
  some (2, wv1)
  else
  (F_bits_of v8 size9).bind fun y15 =>
  (F_bits_Writer_Raw wv1 y15).bind fun y22 =>
  some (y22.1, y22.2)
def F_ip_writer_put_l1 (rec48 : (List Int) → Int → Option T_ip_writer) (size8 : Int) (lv9 : List Int) (p45 : List Int) (t46 : Int) : Option T_ip_writer :=
  if (decide (t46 < (lv9.length : Int))) = true then
  (gidx lv9 t46).bind fun xv52 =>
  (F_bits_Writer_Put (T_bits_Writer.mk p45) xv52 size8).bind fun y53 =>
  rec48 y53.2.f_b (IntKind.i64.wrap (t46 + 1))
  else
  some (T_ip_writer.mk (T_bits_Writer.mk p45))
def F_ip_writer_put_L1 (size8 : Int) (lv9 : List Int) : Nat → (List Int) → Int → Option T_ip_writer
  | 0 => fun _ _ => none
  | k + 1 => F_ip_writer_put_l1 (F_ip_writer_put_L1 size8 lv9 k) size8 lv9
def F_ip_writer_put (wv1 : T_ip_writer) (size8 : Int) (lv9 : List Int) : Option T_ip_writer :=
  F_ip_writer_put_L1 size8 lv9 fuel0 wv1.f_Writer.f_b 0
def F_ip_flag (isv1 : Bool) (f2 : Int) : Option Int :=
  if isv1 = true then
  some f2
  else
  some 0
def F_slices_Concat_byte_byte_j1 (t28 : Int) (rec30 : Int → Int → Option ((List Int))) (size40 : Int) : Option ((List Int)) :=
  rec30 size40 (IntKind.i64.wrap (t28 + 1))
def F_slices_Concat_byte_byte_l2 (rec93 : (List Int) → Int → Option ((List Int))) (slices1 : List (List Int)) (newslice90 : List Int) (t91 : Int) : Option ((List Int)) :=
  if (decide (t91 < (slices1.length : Int))) = true then
  (gidx slices1 t91).bind fun xv97 =>
  if (decide (newslice90.length + xv97.length ≤ lim)) = true then
  rec93 (newslice90 ++ xv97) (IntKind.i64.wrap (t91 + 1))
  else none
  else
  some newslice90
def F_slices_Concat_byte_byte_L2 (slices1 : List (List Int)) : Nat → (List Int) → Int → Option ((List Int))
  | 0 => fun _ _ => none
  | k + 1 => F_slices_Concat_byte_byte_l2 (F_slices_Concat_byte_byte_L2 slices1 k) slices1
def F_slices_Concat_byte_byte_j3 (slices1 : List (List Int)) (slices54 : List Int) : Option ((List Int)) :=
  F_slices_Concat_byte_byte_L2 slices1 fuel0 slices54 0
def F_slices_Concat_byte_byte_j2 (slices1 : List (List Int)) (size27 : Int) : Option ((List Int)) :=
  if (decide (0 < (IntKind.i64.wrap (size27 - (IntKind.i64.wrap (0 - 0)))))) = true then
  if (decide (0 ≤ (IntKind.i64.wrap (size27 - (IntKind.i64.wrap (0 - 0)))) ∧ (IntKind.i64.wrap (size27 - (IntKind.i64.wrap (0 - 0)))) ≤ lim)) = true then
  (gcut (List.replicate (Int.toNat (IntKind.i64.wrap (size27 - (IntKind.i64.wrap (0 - 0))))) (0 : Int)) 0 0).bind fun cut48 =>
  F_slices_Concat_byte_byte_j3 slices1 cut48
  else none
  else
  F_slices_Concat_byte_byte_j3 slices1 ([])
def F_slices_Concat_byte_byte_l1 (rec30 : Int → Int → Option ((List Int))) (slices1 : List (List Int)) (size27 : Int) (t28 : Int) : Option ((List Int)) :=
  if (decide (t28 < (slices1.length : Int))) = true then
  (gidx slices1 t28).bind fun xv34 =>
  if (decide ((IntKind.i64.wrap (size27 + (xv34.length : Int))) < 0)) = true then
  none
  else
  F_slices_Concat_byte_byte_j1 t28 rec30 (IntKind.i64.wrap (size27 + (xv34.length : Int)))
  else
  if (decide (size27 < 0)) = true then
  none
  else
  F_slices_Concat_byte_byte_j2 slices1 size27
def F_slices_Concat_byte_byte_L1 (slices1 : List (List Int)) : Nat → Int → Int → Option ((List Int))
  | 0 => fun _ _ => none
  | k + 1 => F_slices_Concat_byte_byte_l1 (F_slices_Concat_byte_byte_L1 slices1 k) slices1
def F_slices_Concat_byte_byte (slices1 : List (List Int)) : Option ((List Int)) :=
  F_slices_Concat_byte_byte_L1 slices1 fuel0 0 0
def F_slices_Clone_byte_byte (s1 : List Int) : Option ((List Int)) :=
  if (decide (([] : List Int).length + s1.length ≤ lim)) = true then
  some (([] : List Int) ++ s1)
  else none
def F_bits_Writer_Bytes (wv1 : T_bits_Writer) : Option ((List Int) × T_bits_Writer) :=
  (F_slices_Clone_byte_byte wv1.f_b).bind fun y9 =>
  some (y9, wv1)
def F_sum_fold_l1 (rec5 : Int → Option Int) (nv3 : Int) : Option Int :=
  if (decide (nv3 ≤ 65535)) = true then
  some (IntKind.u16.wrap nv3)
  else
  rec5 (IntKind.u64.wrap ((bits .and .u64 nv3 65535) + (Ox.shr .u64 nv3 16)))
def F_sum_fold_L1 : Nat → Int → Option Int
  | 0 => fun _ => none
  | k + 1 => F_sum_fold_l1 (F_sum_fold_L1 k)
def F_sum_fold (nv1 : Int) : Option Int :=
  F_sum_fold_L1 fuel0 nv1
def F_sum_Sum_Add_j1 (p40 : Int) (p41 : Int) (t42 : Int) (rec44 : Int → Int → Int → Option T_sum_Sum) (v50 : Int) : Option T_sum_Sum :=
  (F_sum_fold p40).bind fun y52 =>
  rec44 (IntKind.u64.wrap ((IntKind.u64.wrap y52) + v50)) (IntKind.i64.wrap (p41 + 1)) (IntKind.i64.wrap (t42 + 1))
def F_sum_Sum_Add_l1 (rec44 : Int → Int → Int → Option T_sum_Sum) (b5 : List Int) (p40 : Int) (p41 : Int) (t42 : Int) : Option T_sum_Sum :=
  if (decide (t42 < (b5.length : Int))) = true then
  (gidx b5 t42).bind fun xv48 =>
  if ((Int.tmod p41 2) == 0) = true then
  F_sum_Sum_Add_j1 p40 p41 t42 rec44 (Ox.shl .u64 (IntKind.u64.wrap xv48) 8)
  else
  F_sum_Sum_Add_j1 p40 p41 t42 rec44 (IntKind.u64.wrap xv48)
  else
  some (T_sum_Sum.mk p40 p41)
def F_sum_Sum_Add_L1 (b5 : List Int) : Nat → Int → Int → Int → Option T_sum_Sum
  | 0 => fun _ _ _ => none
  | k + 1 => F_sum_Sum_Add_l1 (F_sum_Sum_Add_L1 b5 k) b5
def F_sum_Sum_Add (s1 : T_sum_Sum) (b5 : List Int) : Option T_sum_Sum :=
  F_sum_Sum_Add_L1 b5 fuel0 s1.f_n s1.f_many 0
def F_sum_each_fsum_Sum_Add_l1 (rec43 : Int → Int → Int → Option T_sum_Sum) (lv1 : List (List Int)) (p39 : Int) (p40 : Int) (t41 : Int) : Option T_sum_Sum :=
  if (decide (t41 < (lv1.length : Int))) = true then
  (gidx lv1 t41).bind fun xv47 =>
  (F_sum_Sum_Add (T_sum_Sum.mk p39 p40) xv47).bind fun y53 =>
  rec43 y53.f_n y53.f_many (IntKind.i64.wrap (t41 + 1))
  else
  some (T_sum_Sum.mk p39 p40)
def F_sum_each_fsum_Sum_Add_L1 (lv1 : List (List Int)) : Nat → Int → Int → Int → Option T_sum_Sum
  | 0 => fun _ _ _ => none
  | k + 1 => F_sum_each_fsum_Sum_Add_l1 (F_sum_each_fsum_Sum_Add_L1 lv1 k) lv1
def F_sum_each_fsum_Sum_Add (lv1 : List (List Int)) (does5 : T_sum_Sum) : Option T_sum_Sum :=
  F_sum_each_fsum_Sum_Add_L1 lv1 fuel0 does5.f_n does5.f_many 0
def F_sum_Sum_Value (s1 : T_sum_Sum) : Option (Int × T_sum_Sum) :=
  (F_sum_fold s1.f_n).bind fun y6 =>
  some ((IntKind.u16.wrap (65535 - y6)), s1)
def F_sum_Of (lv1 : List (List Int)) : Option Int :=
  (F_sum_each_fsum_Sum_Add lv1 (T_sum_Sum.mk 0 0)).bind fun y8 =>
  (F_sum_Sum_Value y8).bind fun y12 =>
  some y12.1
def F_bits_Writer_Set_j1 (wv1 : T_bits_Writer) (atv8 : Int) (v9 : Int) (size10 : Int) (t18 : Bool) : Option (Int × T_bits_Writer) :=
  if t18 = true then
  some (2, wv1)
  else
  (gcut wv1.f_b atv8 ((wv1.f_b).length)).bind fun cut20 =>
  (F_bits_of v9 size10).bind fun y27 =>
  some (0, (T_bits_Writer.mk (cpR (Int.toNat atv8) (Nat.min y27.length cut20.length) wv1.f_b y27)))
def F_bits_Writer_Set (wv1 : T_bits_Writer) (atv8 : Int) (v9 : Int) (size10 : Int) : Option (Int × T_bits_Writer) :=
  (F_bits_fits v9 size10).bind fun y12 =>
  if (!y12) = true then
  F_bits_Writer_Set_j1 wv1 atv8 v9 size10 true
  else
  if (decide (atv8 < 0)) = true then
  F_bits_Writer_Set_j1 wv1 atv8 v9 size10 true
  else
  if (decide ((wv1.f_b.length : Int) < atv8)) = true then
  F_bits_Writer_Set_j1 wv1 atv8 v9 size10 true
  else
  F_bits_Writer_Set_j1 wv1 atv8 v9 size10 (decide ((IntKind.i64.wrap ((wv1.f_b.length : Int) - atv8)) < size10))
def F_ip_Put (h1 : T_ip_Header) : Option ((List Int) × Int) :=
  (F_ip_Right h1).bind fun y8 =>
  if (!y8) = true then
  some ([], 51)
  else
  (F_ip_Header_length h1).bind fun y15 =>
  (F_ip_writer_put (T_ip_writer.mk (T_bits_Writer.mk ([] : List Int))) 1 ([(bits .or .u64 64 (IntKind.u64.wrap (IntKind.i64.wrap (Int.tdiv y15 4)))), (IntKind.u64.wrap h1.f_TOS)] : List Int)).bind fun y23 =>
  (F_ip_flag h1.f_DF 16384).bind fun y30 =>
  (F_ip_flag h1.f_MF 8192).bind fun y34 =>
  (F_ip_writer_put y23 2 ([(IntKind.u64.wrap h1.f_Total), (IntKind.u64.wrap h1.f_ID), (bits .or .u64 (bits .or .u64 y30 y34) (IntKind.u64.wrap h1.f_Frag))] : List Int)).bind fun y41 =>
  (F_ip_writer_put y41 1 ([(IntKind.u64.wrap h1.f_TTL), (IntKind.u64.wrap h1.f_Proto)] : List Int)).bind fun y51 =>
  (F_ip_writer_put y51 2 ([0] : List Int)).bind fun y61 =>
  (F_slices_Concat_byte_byte ([(arrL 4 h1.f_Src), (arrL 4 h1.f_Dst), h1.f_Options])).bind fun y73 =>
  (F_bits_Writer_Raw y61.f_Writer y73).bind fun y80 =>
  (F_bits_Writer_Bytes y80.2).bind fun y87 =>
  (F_sum_Of ([y87.1])).bind fun y100 =>
  (F_bits_Writer_Set y87.2 10 (IntKind.u64.wrap y100) 2).bind fun y104 =>
  (F_bits_Writer_Bytes y104.2).bind fun y111 =>
  some (y111.1, 0)
def F_bits_value_l1 (rec16 : Int → Int → Option Int) (b1 : List Int) (v13 : Int) (t14 : Int) : Option Int :=
  if (decide (t14 < (b1.length : Int))) = true then
  (gidx b1 t14).bind fun xv20 =>
  rec16 (bits .or .u64 (Ox.shl .u64 v13 8) (IntKind.u64.wrap xv20)) (IntKind.i64.wrap (t14 + 1))
  else
  some v13
def F_bits_value_L1 (b1 : List Int) : Nat → Int → Int → Option Int
  | 0 => fun _ _ => none
  | k + 1 => F_bits_value_l1 (F_bits_value_L1 b1 k) b1
def F_bits_value (b1 : List Int) : Option Int :=
  F_bits_value_L1 b1 fuel0 0 0
def F_bits_Get_j2 (b1 : List Int) (atv5 : Int) (size6 : Int) (t13 : Bool) : Option (Int × Int) :=
  if t13 = true then
  some (0, 10)
  else
  (gcut b1 atv5 (IntKind.i64.wrap (atv5 + size6))).bind fun cut15 =>
  (F_bits_value cut15).bind fun y22 =>
  some (y22, 0)
def F_bits_Get_j1 (b1 : List Int) (atv5 : Int) (size6 : Int) (t11 : Bool) : Option (Int × Int) :=
  if t11 = true then
  some (0, 2)
  else
  if (decide ((b1.length : Int) < atv5)) = true then
  F_bits_Get_j2 b1 atv5 size6 true
  else
  F_bits_Get_j2 b1 atv5 size6 (decide ((IntKind.i64.wrap ((b1.length : Int) - atv5)) < size6))
def F_bits_Get (b1 : List Int) (atv5 : Int) (size6 : Int) : Option (Int × Int) :=
  (F_bits_right size6).bind fun y7 =>
  if (!y7) = true then
  F_bits_Get_j1 b1 atv5 size6 true
  else
  F_bits_Get_j1 b1 atv5 size6 (decide (atv5 < 0))
def F_ip_word (b1 : List Int) (atv5 : Int) : Option Int :=
  (F_bits_Get b1 atv5 2).bind fun y6 =>
  some (IntKind.u16.wrap y6.1)
def F_sum_Whole_j1 (t9 : Bool) : Option Bool :=
  some t9
def F_sum_Whole (lv1 : List (List Int)) : Option Bool :=
  (F_sum_Of lv1).bind fun y5 =>
  if (y5 == 0) = true then
  F_sum_Whole_j1 true
  else
  F_sum_Whole_j1 (y5 == 65535)
def F_ip_Parse_j2 (b1 : List Int) (xv12 : Int) (y22 : Int) (h125 : Int) (h126 : Int) (h127 : Int) (h128 : Int) (h129 : Int) (h130 : List Int) (h131 : List Int) (h135 : List Int) (t140 : Bool) : Option (T_ip_Header × Int × Int) :=
  if t140 = true then
  some ((T_ip_Header.mk 0 0 0 false false 0 0 0 (List.replicate 4 0) (List.replicate 4 0) ([])), 0, 51)
  else
  (gcut b1 0 (IntKind.i64.wrap ((IntKind.i64.wrap (bits .and .u8 xv12 15)) * 4))).bind fun cut144 =>
  (F_sum_Whole ([cut144])).bind fun y154 =>
  if (!y154) = true then
  some ((T_ip_Header.mk 0 0 0 false false 0 0 0 (List.replicate 4 0) (List.replicate 4 0) ([])), 0, 52)
  else
  some ((T_ip_Header.mk h125 h126 h127 (decide (0 < (bits .and .u16 y22 16384))) (decide (0 < (bits .and .u16 y22 8192))) (bits .and .u16 y22 8191) h128 h129 h130 h131 h135), (IntKind.i64.wrap ((IntKind.i64.wrap (bits .and .u8 xv12 15)) * 4)), 0)
def F_ip_Parse_j1 (b1 : List Int) (xv12 : Int) (y22 : Int) (h125 : Int) (h126 : Int) (h127 : Int) (h128 : Int) (h129 : Int) (h130 : List Int) (h131 : List Int) (h135 : List Int) : Option (T_ip_Header × Int × Int) :=
  if (decide (0 < (bits .and .u16 y22 32768))) = true then
  F_ip_Parse_j2 b1 xv12 y22 h125 h126 h127 h128 h129 h130 h131 h135 true
  else
  F_ip_Parse_j2 b1 xv12 y22 h125 h126 h127 h128 h129 h130 h131 h135 (decide ((IntKind.i64.wrap h126) < (IntKind.i64.wrap ((IntKind.i64.wrap (bits .and .u8 xv12 15)) * 4))))
def F_ip_Parse (b1 : List Int) : Option (T_ip_Header × Int × Int) :=
  if (decide ((b1.length : Int) < 20)) = true then
  some ((T_ip_Header.mk 0 0 0 false false 0 0 0 (List.replicate 4 0) (List.replicate 4 0) ([])), 0, 10)
  else
  (gidx b1 0).bind fun xv12 =>
  (gidx b1 0).bind fun xv15 =>
  if ((Ox.shr .u8 xv15 4) != 4) = true then
  some ((T_ip_Header.mk 0 0 0 false false 0 0 0 (List.replicate 4 0) (List.replicate 4 0) ([])), 0, 50)
  else
  if (decide ((IntKind.i64.wrap ((IntKind.i64.wrap (bits .and .u8 xv12 15)) * 4)) < 20)) = true then
  some ((T_ip_Header.mk 0 0 0 false false 0 0 0 (List.replicate 4 0) (List.replicate 4 0) ([])), 0, 51)
  else
  if (decide ((b1.length : Int) < (IntKind.i64.wrap ((IntKind.i64.wrap (bits .and .u8 xv12 15)) * 4)))) = true then
  some ((T_ip_Header.mk 0 0 0 false false 0 0 0 (List.replicate 4 0) (List.replicate 4 0) ([])), 0, 10)
  else
  (F_ip_word b1 6).bind fun y22 =>
  (gidx b1 1).bind fun xv28 =>
  (gidx b1 8).bind fun xv31 =>
  (gidx b1 9).bind fun xv34 =>
  (gcut b1 12 ((b1).length)).bind fun cut35 =>
  if (decide (4 ≤ cut35.length)) = true then
  (gcut b1 16 ((b1).length)).bind fun cut43 =>
  if (decide (4 ≤ cut43.length)) = true then
  (gcut b1 20 (IntKind.i64.wrap ((IntKind.i64.wrap (bits .and .u8 xv12 15)) * 4))).bind fun cut51 =>
  (F_ip_word b1 2).bind fun y58 =>
  (F_ip_word b1 4).bind fun y62 =>
  (F_slices_Clone_byte_byte cut51).bind fun y66 =>
  F_ip_Parse_j1 b1 xv12 y22 xv28 y58 y62 xv31 xv34 (arrL 4 cut35) (arrL 4 cut43) y66
  else none
  else none
def F_ip_Options_j2 (b261 : List Int) (rec273 : (List Int) → (List T_ip_Option) → Option ((List T_ip_Option) × Int)) (t313 : Bool) (t323 : List T_ip_Option) : Option ((List T_ip_Option) × Int) :=
  if t313 = true then
  some ([], 51)
  else
  (gidx b261 1).bind fun xv343 =>
  (gidx b261 0).bind fun xv346 =>
  (gcut b261 2 (IntKind.i64.wrap xv343)).bind fun cut347 =>
  (F_slices_Clone_byte_byte cut347).bind fun y354 =>
  if (decide (t323.length + ([(T_ip_Option.mk xv346 y354)]).length ≤ lim)) = true then
  (gcut b261 (IntKind.i64.wrap xv343) ((b261).length)).bind fun cut384 =>
  rec273 cut384 (t323 ++ [(T_ip_Option.mk xv346 y354)])
  else none
def F_ip_Options_j1 (b261 : List Int) (rec273 : (List Int) → (List T_ip_Option) → Option ((List T_ip_Option) × Int)) (t281 : Bool) (t291 : List T_ip_Option) : Option ((List T_ip_Option) × Int) :=
  if t281 = true then
  (gidx b261 0).bind fun xv295 =>
  if (xv295 == 1) = true then
  (gcut b261 1 ((b261).length)).bind fun cut296 =>
  rec273 cut296 t291
  else
  if (decide ((b261.length : Int) < 2)) = true then
  F_ip_Options_j2 b261 rec273 true t291
  else
  (gidx b261 1).bind fun xv306 =>
  if (decide (xv306 < 2)) = true then
  F_ip_Options_j2 b261 rec273 true t291
  else
  (gidx b261 1).bind fun xv309 =>
  F_ip_Options_j2 b261 rec273 (decide ((b261.length : Int) < (IntKind.i64.wrap xv309))) t291
  else
  some (t291, 0)
def F_ip_Options_l1 (rec273 : (List Int) → (List T_ip_Option) → Option ((List T_ip_Option) × Int)) (b261 : List Int) (b271 : List T_ip_Option) : Option ((List T_ip_Option) × Int) :=
  if (decide (0 < (b261.length : Int))) = true then
  (gidx b261 0).bind fun xv277 =>
  F_ip_Options_j1 b261 rec273 (decide (0 < xv277)) b271
  else
  F_ip_Options_j1 b261 rec273 false b271
def F_ip_Options_L1 : Nat → (List Int) → (List T_ip_Option) → Option ((List T_ip_Option) × Int)
  | 0 => fun _ _ => none
  | k + 1 => F_ip_Options_l1 (F_ip_Options_L1 k)
def F_ip_Options (b1 : List Int) : Option ((List T_ip_Option) × Int) :=
  F_ip_Options_L1 fuel0 b1 ([])
def F_ref01_Same (av1 : List Int) (b5 : List Int) : Option Bool :=
  some ((strOfNums av1).toList == (strOfNums b5).toList)
def F_law05_works_j2 (t106 : Bool) : Option Bool :=
  some t106
def F_law05_works_j1 (y1 : (List Int) × Int) (y12 : T_ip_Header × Int × Int) (y27 : T_ip_Header × Int × Int) (lv58 : List T_ip_Option) (t59 : Bool) : Option Bool :=
  if t59 = true then
  some false
  else
  (gcut y1.1 0 10).bind fun cut61 =>
  (F_ref01_Same cut61 ([69, 0, 0, 20, 0, 0, 0, 0, 1, 6] : List Int)).bind fun y71 =>
  if y71 = true then
  if (y12.2.2 == 10) = true then
  if (y27.2.2 == 50) = true then
  (gidx lv58 0).bind fun xv77 =>
  if (xv77.f_Kind == 7) = true then
  (gidx lv58 0).bind fun xv89 =>
  (F_ref01_Same xv89.f_Data ([9] : List Int)).bind fun y102 =>
  F_law05_works_j2 y102
  else
  F_law05_works_j2 false
  else
  F_law05_works_j2 false
  else
  F_law05_works_j2 false
  else
  F_law05_works_j2 false
def F_law05_works : Option Bool :=
  (F_ip_Put (T_ip_Header.mk 0 20 0 false false 0 1 6 (List.replicate 4 0) (List.replicate 4 0) ([]))).bind fun y1 =>
  if (decide (0 ≤ 19 ∧ 19 ≤ lim)) = true then
  (F_ip_Parse (List.replicate (Int.toNat 19) (0 : Int))).bind fun y12 =>
  if (decide (0 ≤ 20 ∧ 20 ≤ lim)) = true then
  (F_ip_Parse (List.replicate (Int.toNat 20) (0 : Int))).bind fun y27 =>
  (F_ip_Options ([1, 7, 3, 9, 0, 5] : List Int)).bind fun y41 =>
  if (y1.2 != 0) = true then
  F_law05_works_j1 y1 y12 y27 y41.1 true
  else
  if ((y1.1.length : Int) != 20) = true then
  F_law05_works_j1 y1 y12 y27 y41.1 true
  else
  if (y41.2 != 0) = true then
  F_law05_works_j1 y1 y12 y27 y41.1 true
  else
  F_law05_works_j1 y1 y12 y27 y41.1 ((y41.1.length : Int) != 1)
  else none
  else none
def F_ref05_Options_j2 (b1 : ByteArray) (recF : ByteArray → Option ((List T_ref05_Option) × Int)) (t21 : Bool) : Option ((List T_ref05_Option) × Int) :=
  if t21 = true then
  some ([], 51)
  else
  (gidxS b1 1).bind fun xv23 =>
  (gcutS b1 xv23 (b1.size : Int)).bind fun cut25 =>
  (recF cut25).bind fun y27 =>
  if (y27.2 != 0) = true then
  some ([], y27.2)
  else
  (gidxS b1 0).bind fun xv34 =>
  (gidxS b1 1).bind fun xv36 =>
  (gcutS b1 2 xv36).bind fun cut38 =>
  if (decide (([(T_ref05_Option.mk xv34 cut38)] : List T_ref05_Option).length + y27.1.length ≤ lim)) = true then
  some ((([(T_ref05_Option.mk xv34 cut38)] : List T_ref05_Option) ++ y27.1), 0)
  else none
def F_ref05_Options_j1 (b1 : ByteArray) (recF : ByteArray → Option ((List T_ref05_Option) × Int)) (t4 : Bool) : Option ((List T_ref05_Option) × Int) :=
  if t4 = true then
  some ([], 0)
  else
  (gidxS b1 0).bind fun xv6 =>
  if (xv6 == 1) = true then
  (gcutS b1 1 (b1.size : Int)).bind fun cut8 =>
  (recF cut8).bind fun y10 =>
  some (y10.1, y10.2)
  else
  if (decide ((b1.size : Int) < 2)) = true then
  F_ref05_Options_j2 b1 recF true
  else
  (gidxS b1 1).bind fun xv17 =>
  if (decide (xv17 < 2)) = true then
  F_ref05_Options_j2 b1 recF true
  else
  (gidxS b1 1).bind fun xv19 =>
  F_ref05_Options_j2 b1 recF (decide ((b1.size : Int) < (IntKind.i64.wrap xv19)))
def F_ref05_Options_B (recF : ByteArray → Option ((List T_ref05_Option) × Int)) (b1 : ByteArray) : Option ((List T_ref05_Option) × Int) :=
  if (b1.toList == (⟨#[]⟩ : ByteArray).toList) = true then
  F_ref05_Options_j1 b1 recF true
  else
  (gidxS b1 0).bind fun xv2 =>
  F_ref05_Options_j1 b1 recF (xv2 == 0)
def F_ref05_Options_R : Nat → ByteArray → Option ((List T_ref05_Option) × Int)
  | 0 => fun _ => none
  | k + 1 => F_ref05_Options_B (F_ref05_Options_R k)
def F_ref05_Options (b1 : ByteArray) : Option ((List T_ref05_Option) × Int) := F_ref05_Options_R fuel0 b1
def F_law05_IpOptions_l3 (rec1681 : (List T_ip_Option) → Int → Option Bool) (i1542 : Int) (rec1544 : (List T_ip_Option) → Int → Option Bool) (lv1678 : List T_ip_Option) (kv1679 : Int) : Option Bool :=
  (gidx lv1678 i1542).bind fun xv1685 =>
  if (decide (kv1679 < (xv1685.f_Data.length : Int))) = true then
  (gidx lv1678 i1542).bind fun xv1697 =>
  (gidx xv1697.f_Data kv1679).bind fun xv1709 =>
  (gidx xv1697.f_Data kv1679).bind fun xv1712 =>
  rec1681 (lv1678.set (i1542 : Int).toNat (T_ip_Option.mk xv1697.f_Kind (xv1697.f_Data.set (kv1679 : Int).toNat (IntKind.u8.wrap (xv1709 + 1))))) (IntKind.i64.wrap (kv1679 + 1))
  else
  rec1544 lv1678 (IntKind.i64.wrap (i1542 + 1))
def F_law05_IpOptions_L3 (i1542 : Int) (rec1544 : (List T_ip_Option) → Int → Option Bool) : Nat → (List T_ip_Option) → Int → Option Bool
  | 0 => fun _ _ => none
  | k + 1 => F_law05_IpOptions_l3 (F_law05_IpOptions_L3 i1542 rec1544 k) i1542 rec1544
def F_law05_IpOptions_j2 (i1542 : Int) (rec1544 : (List T_ip_Option) → Int → Option Bool) (lv1583 : List T_ip_Option) (t1584 : Bool) : Option Bool :=
  if t1584 = true then
  some false
  else
  F_law05_IpOptions_L3 i1542 rec1544 fuel0 lv1583 0
def F_law05_IpOptions_l2 (rec1544 : (List T_ip_Option) → Int → Option Bool) (y9 : (List T_ref05_Option) × Int) (t1151 : Int) (rec1153 : Int → Option Bool) (lv1541 : List T_ip_Option) (i1542 : Int) : Option Bool :=
  if (decide (i1542 < (lv1541.length : Int))) = true then
  (gidx lv1541 i1542).bind fun xv1548 =>
  (gidx y9.1 i1542).bind fun xv1560 =>
  if (xv1548.f_Kind != xv1560.f_Kind) = true then
  F_law05_IpOptions_j2 i1542 rec1544 lv1541 true
  else
  (gidx lv1541 i1542).bind fun xv1563 =>
  (gidx y9.1 i1542).bind fun xv1575 =>
  F_law05_IpOptions_j2 i1542 rec1544 lv1541 (!((strOfNums xv1563.f_Data).toList == xv1575.f_Data.toList))
  else
  rec1153 (IntKind.i64.wrap (t1151 + 1))
def F_law05_IpOptions_L2 (y9 : (List T_ref05_Option) × Int) (t1151 : Int) (rec1153 : Int → Option Bool) : Nat → (List T_ip_Option) → Int → Option Bool
  | 0 => fun _ _ => none
  | k + 1 => F_law05_IpOptions_l2 (F_law05_IpOptions_L2 y9 t1151 rec1153 k) y9 t1151 rec1153
def F_law05_IpOptions_j1 (y9 : (List T_ref05_Option) × Int) (t1151 : Int) (rec1153 : Int → Option Bool) (lv1172 : List T_ip_Option) (t1173 : Bool) : Option Bool :=
  if t1173 = true then
  some false
  else
  F_law05_IpOptions_L2 y9 t1151 rec1153 fuel0 lv1172 0
def F_law05_IpOptions_l1 (rec1153 : Int → Option Bool) (b1 : List Int) (y9 : (List T_ref05_Option) × Int) (t1151 : Int) : Option Bool :=
  if (decide (t1151 < 2)) = true then
  (F_ip_Options b1).bind fun y1155 =>
  if (y1155.2 != y9.2) = true then
  F_law05_IpOptions_j1 y9 t1151 rec1153 y1155.1 true
  else
  F_law05_IpOptions_j1 y9 t1151 rec1153 y1155.1 ((y1155.1.length : Int) != (y9.1.length : Int))
  else
  (F_law05_works).bind fun y1721 =>
  some y1721
def F_law05_IpOptions_L1 (b1 : List Int) (y9 : (List T_ref05_Option) × Int) : Nat → Int → Option Bool
  | 0 => fun _ => none
  | k + 1 => F_law05_IpOptions_l1 (F_law05_IpOptions_L1 b1 y9 k) b1 y9
def F_law05_IpOptions (b1 : List Int) : Option Bool :=
  if (decide (100 < (b1.length : Int))) = true then
  (F_law05_works).bind fun y5 =>
  some y5
  else
  (F_ref05_Options (strOfNums b1)).bind fun y9 =>
  F_law05_IpOptions_L1 b1 y9 fuel0 0
def F_docs_Ip (h1 : T_ip_Header) : Option T_ref05_Header :=
  some (T_ref05_Header.mk h1.f_TOS h1.f_Total h1.f_ID h1.f_DF h1.f_MF h1.f_Frag h1.f_TTL h1.f_Proto (strOfNums (arrL 4 h1.f_Src)) (strOfNums (arrL 4 h1.f_Dst)) (strOfNums h1.f_Options))
def F_ref05_Right_j1 (t5 : Bool) : Option Bool :=
  some t5
def F_ref05_Right (h1 : T_ref05_Header) : Option Bool :=
  if (decide (h1.f_Frag < 8192)) = true then
  if ((Int.tmod (h1.f_Options.size : Int) 4) == 0) = true then
  if (decide ((h1.f_Options.size : Int) ≤ 40)) = true then
  F_ref05_Right_j1 (decide ((IntKind.i64.wrap (20 + (h1.f_Options.size : Int))) ≤ (IntKind.i64.wrap h1.f_Total)))
  else
  F_ref05_Right_j1 false
  else
  F_ref05_Right_j1 false
  else
  F_ref05_Right_j1 false
def F_ref01_Put_B (recF : Int → Int → Option ((List Int))) (v1 : Int) (size2 : Int) : Option ((List Int)) :=
  if (size2 == 0) = true then
  some ([])
  else
  (recF (IntKind.u64.wrap (Int.tdiv v1 256)) (IntKind.i64.wrap (size2 - 1))).bind fun y3 =>
  if (decide (y3.length + ([(IntKind.u8.wrap (Int.tmod v1 256))] : List Int).length ≤ lim)) = true then
  some (y3 ++ ([(IntKind.u8.wrap (Int.tmod v1 256))] : List Int))
  else none
def F_ref01_Put_R : Nat → Int → Int → Option ((List Int))
  | 0 => fun _ _ => none
  | k + 1 => F_ref01_Put_B (F_ref01_Put_R k)
def F_ref01_Put (v1 : Int) (size2 : Int) : Option ((List Int)) := F_ref01_Put_R fuel0 v1 size2
def F_ref01_Join (av1 : List Int) (b5 : List Int) : Option ((List Int)) :=
  if (decide (av1.length ≤ lim)) = true then
  if (decide (av1.length + b5.length ≤ lim)) = true then
  some (av1 ++ b5)
  else none
  else none
def F_ref05_bit (isv1 : Bool) (nv2 : Int) : Option Int :=
  if isv1 = true then
  some nv2
  else
  some 0
def F_ref05_stands (h1 : T_ref05_Header) (sum2 : Int) : Option ((List Int)) :=
  (F_ref01_Put (IntKind.u64.wrap (IntKind.i64.wrap (64 + (IntKind.i64.wrap (Int.tdiv (IntKind.i64.wrap (20 + (h1.f_Options.size : Int))) 4))))) 1).bind fun y6 =>
  if (decide (y6.length + ([h1.f_TOS] : List Int).length ≤ lim)) = true then
  (F_ref01_Put (IntKind.u64.wrap h1.f_Total) 2).bind fun y21 =>
  (F_ref01_Join (y6 ++ ([h1.f_TOS] : List Int)) y21).bind fun y28 =>
  (F_ref01_Put (IntKind.u64.wrap h1.f_ID) 2).bind fun y35 =>
  (F_ref01_Join y28 y35).bind fun y42 =>
  (F_ref05_bit h1.f_DF 16384).bind fun y49 =>
  (F_ref05_bit h1.f_MF 8192).bind fun y53 =>
  (F_ref01_Put (IntKind.u64.wrap ((IntKind.u64.wrap (y49 + y53)) + (IntKind.u64.wrap h1.f_Frag))) 2).bind fun y57 =>
  (F_ref01_Join y42 y57).bind fun y64 =>
  if (decide (y64.length + ([h1.f_TTL, h1.f_Proto] : List Int).length ≤ lim)) = true then
  (F_ref01_Put (IntKind.u64.wrap sum2) 2).bind fun y79 =>
  (F_ref01_Join (y64 ++ ([h1.f_TTL, h1.f_Proto] : List Int)) y79).bind fun y86 =>
  if (decide (h1.f_Src.size + h1.f_Dst.size ≤ lim)) = true then
  if (decide ((h1.f_Src ++ h1.f_Dst).size + h1.f_Options.size ≤ lim)) = true then
  if (decide (((h1.f_Src ++ h1.f_Dst) ++ h1.f_Options).size ≤ lim)) = true then
  (F_ref01_Join y86 (numsOfStr ((h1.f_Src ++ h1.f_Dst) ++ h1.f_Options))).bind fun y101 =>
  some y101
  else none
  else none
  else none
  else none
  else none
def F_ref03_Words_j1 (out46 : List Int) (i47 : Int) (rec49 : (List Int) → Int → Option ((List Int))) (nv58 : Int) : Option ((List Int)) :=
  if (decide (out46.length + ([nv58] : List Int).length ≤ lim)) = true then
  rec49 (out46 ++ ([nv58] : List Int)) (IntKind.i64.wrap (i47 + 2))
  else none
def F_ref03_Words_l1 (rec49 : (List Int) → Int → Option ((List Int))) (b1 : List Int) (out46 : List Int) (i47 : Int) : Option ((List Int)) :=
  if (decide (i47 < (b1.length : Int))) = true then
  (gidx b1 i47).bind fun xv53 =>
  if (decide ((IntKind.i64.wrap (i47 + 1)) < (b1.length : Int))) = true then
  (gidx b1 (IntKind.i64.wrap (i47 + 1))).bind fun xv56 =>
  F_ref03_Words_j1 out46 i47 rec49 (IntKind.u64.wrap ((IntKind.u64.wrap ((IntKind.u64.wrap xv53) * 256)) + (IntKind.u64.wrap xv56)))
  else
  F_ref03_Words_j1 out46 i47 rec49 (IntKind.u64.wrap ((IntKind.u64.wrap xv53) * 256))
  else
  some out46
def F_ref03_Words_L1 (b1 : List Int) : Nat → (List Int) → Int → Option ((List Int))
  | 0 => fun _ _ => none
  | k + 1 => F_ref03_Words_l1 (F_ref03_Words_L1 b1 k) b1
def F_ref03_Words (b1 : List Int) : Option ((List Int)) :=
  F_ref03_Words_L1 b1 fuel0 ([]) 0
def F_ref03_Fold_l1 (rec5 : Int → Option Int) (nv3 : Int) : Option Int :=
  if (decide (65535 < nv3)) = true then
  rec5 (IntKind.u64.wrap ((IntKind.u64.wrap (Int.tdiv nv3 65536)) + (Int.tmod nv3 65536)))
  else
  some nv3
def F_ref03_Fold_L1 : Nat → Int → Option Int
  | 0 => fun _ => none
  | k + 1 => F_ref03_Fold_l1 (F_ref03_Fold_L1 k)
def F_ref03_Fold (nv1 : Int) : Option Int :=
  F_ref03_Fold_L1 fuel0 nv1
def F_ref03_Sum_l1 (rec25 : Int → Int → Option Int) (y5 : (List Int)) (nv21 : Int) (i23 : Int) : Option Int :=
  if (decide (i23 < (y5.length : Int))) = true then
  (gidx y5 i23).bind fun xv29 =>
  rec25 (IntKind.u64.wrap (nv21 + xv29)) (IntKind.i64.wrap (i23 + 1))
  else
  (F_ref03_Fold nv21).bind fun y30 =>
  some y30
def F_ref03_Sum_L1 (y5 : (List Int)) : Nat → Int → Int → Option Int
  | 0 => fun _ _ => none
  | k + 1 => F_ref03_Sum_l1 (F_ref03_Sum_L1 y5 k) y5
def F_ref03_Sum (b1 : List Int) : Option Int :=
  (F_ref03_Words b1).bind fun y5 =>
  F_ref03_Sum_L1 y5 fuel0 0 0
def F_ref03_Of (b1 : List Int) : Option Int :=
  (F_ref03_Sum b1).bind fun y5 =>
  some (IntKind.u16.wrap (IntKind.u64.wrap (65535 - y5)))
def F_ref05_Put (h1 : T_ref05_Header) : Option ((List Int) × Int) :=
  (F_ref05_Right h1).bind fun y5 =>
  if (!y5) = true then
  some ([], 51)
  else
  (F_ref05_stands h1 0).bind fun y9 =>
  (F_ref03_Of y9).bind fun y16 =>
  (F_ref05_stands h1 y16).bind fun y20 =>
  some (y20, 0)
def F_bytes_Equal (av1 : List Int) (b5 : List Int) : Option Bool :=
  some ((strOfNums av1).toList == (strOfNums b5).toList)
def F_ip_Same_j2 (t23 : Bool) : Option Bool :=
  some t23
def F_ip_Same_j1 (av1 : T_ip_Header) (b5 : T_ip_Header) (plain17 : Bool) : Option Bool :=
  if plain17 = true then
  if (av1.f_TTL == b5.f_TTL) = true then
  if (av1.f_Proto == b5.f_Proto) = true then
  if (arrEq 4 av1.f_Src b5.f_Src) = true then
  if (arrEq 4 av1.f_Dst b5.f_Dst) = true then
  (F_bytes_Equal av1.f_Options b5.f_Options).bind fun y19 =>
  F_ip_Same_j2 y19
  else
  F_ip_Same_j2 false
  else
  F_ip_Same_j2 false
  else
  F_ip_Same_j2 false
  else
  F_ip_Same_j2 false
  else
  F_ip_Same_j2 false
def F_ip_Same (av1 : T_ip_Header) (b5 : T_ip_Header) : Option Bool :=
  if (av1.f_TOS == b5.f_TOS) = true then
  if (av1.f_Total == b5.f_Total) = true then
  if (av1.f_ID == b5.f_ID) = true then
  if (av1.f_DF == b5.f_DF) = true then
  if (av1.f_MF == b5.f_MF) = true then
  F_ip_Same_j1 av1 b5 (av1.f_Frag == b5.f_Frag)
  else
  F_ip_Same_j1 av1 b5 false
  else
  F_ip_Same_j1 av1 b5 false
  else
  F_ip_Same_j1 av1 b5 false
  else
  F_ip_Same_j1 av1 b5 false
  else
  F_ip_Same_j1 av1 b5 false
def F_law05_IpPuts_l2 (rec230 : (List Int) → Int → Option Bool) (t173 : Int) (rec175 : Int → Option Bool) (b227 : List Int) (i228 : Int) : Option Bool :=
  if (decide (i228 < (b227.length : Int))) = true then
  (gidx b227 i228).bind fun xv234 =>
  (gidx b227 i228).bind fun xv237 =>
  rec230 (b227.set (i228 : Int).toNat (IntKind.u8.wrap (xv234 + 1))) (IntKind.i64.wrap (i228 + 1))
  else
  rec175 (IntKind.i64.wrap (t173 + 1))
def F_law05_IpPuts_L2 (t173 : Int) (rec175 : Int → Option Bool) : Nat → (List Int) → Int → Option Bool
  | 0 => fun _ _ => none
  | k + 1 => F_law05_IpPuts_l2 (F_law05_IpPuts_L2 t173 rec175 k) t173 rec175
def F_law05_IpPuts_j2 (t173 : Int) (rec175 : Int → Option Bool) (y177 : (List Int) × Int) (t193 : Bool) : Option Bool :=
  if t193 = true then
  some false
  else
  F_law05_IpPuts_L2 t173 rec175 fuel0 y177.1 0
def F_law05_IpPuts_j3 (t268 : Bool) : Option Bool :=
  some t268
def F_law05_IpPuts_l1 (rec175 : Int → Option Bool) (h1 : T_ip_Header) (other5 : T_ip_Header) (y23 : T_ref05_Header) (y31 : (List Int) × Int) (t173 : Int) : Option Bool :=
  if (decide (t173 < 2)) = true then
  (F_ip_Put h1).bind fun y177 =>
  if (y177.2 != y31.2) = true then
  F_law05_IpPuts_j2 t173 rec175 y177 true
  else
  (F_ref01_Same y177.1 y31.1).bind fun y184 =>
  F_law05_IpPuts_j2 t173 rec175 y177 (!y184)
  else
  (F_ip_Right h1).bind fun y240 =>
  (F_ref05_Right y23).bind fun y244 =>
  if (y240 == y244) = true then
  (F_ip_Same h1 other5).bind fun y248 =>
  (F_docs_Ip other5).bind fun y252 =>
  if (y248 == (q_ref05_Header y23 y252)) = true then
  (F_ip_Same h1 h1).bind fun y256 =>
  if y256 = true then
  (F_docs_Ip h1).bind fun y260 =>
  if (q_ref05_Header y260 y23) = true then
  (F_law05_works).bind fun y264 =>
  F_law05_IpPuts_j3 y264
  else
  F_law05_IpPuts_j3 false
  else
  F_law05_IpPuts_j3 false
  else
  F_law05_IpPuts_j3 false
  else
  F_law05_IpPuts_j3 false
def F_law05_IpPuts_L1 (h1 : T_ip_Header) (other5 : T_ip_Header) (y23 : T_ref05_Header) (y31 : (List Int) × Int) : Nat → Int → Option Bool
  | 0 => fun _ => none
  | k + 1 => F_law05_IpPuts_l1 (F_law05_IpPuts_L1 h1 other5 y23 y31 k) h1 other5 y23 y31
def F_law05_IpPuts_j1 (h1 : T_ip_Header) (other5 : T_ip_Header) (t17 : Bool) : Option Bool :=
  if t17 = true then
  (F_law05_works).bind fun y19 =>
  some y19
  else
  (F_docs_Ip h1).bind fun y23 =>
  (F_ref05_Put y23).bind fun y31 =>
  F_law05_IpPuts_L1 h1 other5 y23 y31 fuel0 0
def F_law05_IpPuts (h1 : T_ip_Header) (other5 : T_ip_Header) : Option Bool :=
  if (decide (100 < (h1.f_Options.length : Int))) = true then
  F_law05_IpPuts_j1 h1 other5 true
  else
  F_law05_IpPuts_j1 h1 other5 (decide (100 < (other5.f_Options.length : Int)))
def F_kit_Pick (i1 : Int) (nv2 : Int) : Option Int :=
  if (decide (nv2 ≤ 0)) = true then
  some 0
  else
  if (decide (nv2 ≠ 0)) = true then
  if (decide (nv2 ≠ 0)) = true then
  some (Int.tmod (IntKind.i64.wrap ((Int.tmod i1 nv2) + nv2)) nv2)
  else none
  else none
def F_sum_Change (sum1 : Int) (fromv2 : Int) (tov3 : Int) : Option Int :=
  (F_sum_fold (IntKind.u64.wrap ((IntKind.u64.wrap ((IntKind.u64.wrap (IntKind.u16.wrap (65535 - sum1))) + (IntKind.u64.wrap (IntKind.u16.wrap (65535 - fromv2))))) + (IntKind.u64.wrap tov3)))).bind fun y4 =>
  some (IntKind.u16.wrap (65535 - y4))
def F_ip_Hop (b1 : List Int) : Option ((List Int) × Int) :=
  (F_ip_Parse b1).bind fun y5 =>
  if (y5.2.2 != 0) = true then
  some ([], y5.2.2)
  else
  if (y5.1.f_TTL == 0) = true then
  some ([], 51)
  else
  (F_slices_Clone_byte_byte b1).bind fun y16 =>
  (gidx y16 8).bind fun xv25 =>
  (gidx y16 8).bind fun xv28 =>
  (F_ip_word b1 10).bind fun y31 =>
  (F_ip_word b1 8).bind fun y35 =>
  (F_ip_word (y16.set (8 : Int).toNat (IntKind.u8.wrap (xv25 - 1))) 8).bind fun y39 =>
  (F_sum_Change y31 y35 y39).bind fun y43 =>
  (gidx (y16.set (8 : Int).toNat (IntKind.u8.wrap (xv25 - 1))) 10).bind fun xv49 =>
  (gidx ((y16.set (8 : Int).toNat (IntKind.u8.wrap (xv25 - 1))).set (10 : Int).toNat (IntKind.u8.wrap (Ox.shr .u16 y43 8))) 11).bind fun xv54 =>
  some ((((y16.set (8 : Int).toNat (IntKind.u8.wrap (xv25 - 1))).set (10 : Int).toNat (IntKind.u8.wrap (Ox.shr .u16 y43 8))).set (11 : Int).toNat (IntKind.u8.wrap y43)), 0)
def F_law05_IpBack_j4 (t112 : Bool) : Option Bool :=
  some t112
def F_law05_IpBack_j6 (t155 : Bool) : Option Bool :=
  some t155
def F_law05_IpBack_j5 (h1 : T_ip_Header) (behind5 : List Int) (y43 : T_ip_Header × Int × Int) (y101 : (List Int) × Int) (y114 : T_ip_Header × Int × Int) (t133 : Bool) : Option Bool :=
  if t133 = true then
  some false
  else
  (F_ip_Same (T_ip_Header.mk y114.1.f_TOS y114.1.f_Total y114.1.f_ID y114.1.f_DF y114.1.f_MF y114.1.f_Frag h1.f_TTL y114.1.f_Proto y114.1.f_Src y114.1.f_Dst y114.1.f_Options) h1).bind fun y136 =>
  if y136 = true then
  (gcut y101.1 y43.2.1 ((y101.1).length)).bind fun cut140 =>
  (F_ref01_Same cut140 behind5).bind fun y147 =>
  if y147 = true then
  (F_law05_works).bind fun y151 =>
  F_law05_IpBack_j6 y151
  else
  F_law05_IpBack_j6 false
  else
  F_law05_IpBack_j6 false
def F_law05_IpBack_j3 (h1 : T_ip_Header) (behind5 : List Int) (y36 : (List Int)) (y43 : T_ip_Header × Int × Int) (t99 : Bool) : Option Bool :=
  if t99 = true then
  some false
  else
  (F_ip_Hop y36).bind fun y101 =>
  if (h1.f_TTL == 0) = true then
  if (y101.2 == 51) = true then
  (F_law05_works).bind fun y108 =>
  F_law05_IpBack_j4 y108
  else
  F_law05_IpBack_j4 false
  else
  (F_ip_Parse y101.1).bind fun y114 =>
  if (y101.2 != 0) = true then
  F_law05_IpBack_j5 h1 behind5 y43 y101 y114 true
  else
  if (y114.2.2 != 0) = true then
  F_law05_IpBack_j5 h1 behind5 y43 y101 y114 true
  else
  if (y114.2.1 != y43.2.1) = true then
  F_law05_IpBack_j5 h1 behind5 y43 y101 y114 true
  else
  if ((y101.1.length : Int) != (y36.length : Int)) = true then
  F_law05_IpBack_j5 h1 behind5 y43 y101 y114 true
  else
  if (y114.1.f_TTL != (IntKind.u8.wrap (h1.f_TTL - 1))) = true then
  F_law05_IpBack_j5 h1 behind5 y43 y101 y114 true
  else
  (F_ip_Right y114.1).bind fun y125 =>
  F_law05_IpBack_j5 h1 behind5 y43 y101 y114 (!y125)
def F_law05_IpBack_j2 (h1 : T_ip_Header) (behind5 : List Int) (atv9 : Int) (byv10 : Int) (y21 : (List Int) × Int) (y36 : (List Int)) (y43 : T_ip_Header × Int × Int) (t61 : Bool) : Option Bool :=
  if t61 = true then
  some false
  else
  (F_ref01_Join [] y21.1).bind fun y63 =>
  (F_kit_Pick atv9 (gmax 1 (y63.length : Int))).bind fun y70 =>
  (gidx y63 y70).bind fun xv76 =>
  (gidx y63 y70).bind fun xv79 =>
  (F_ip_Parse (y63.set (y70 : Int).toNat (IntKind.u8.wrap (xv76 + byv10)))).bind fun y82 =>
  if (decide (0 < byv10)) = true then
  if (y70 != 10) = true then
  if (y70 != 11) = true then
  if (y82.2.2 == 0) = true then
  (F_ip_Same y82.1 h1).bind fun y93 =>
  F_law05_IpBack_j3 h1 behind5 y36 y43 y93
  else
  F_law05_IpBack_j3 h1 behind5 y36 y43 false
  else
  F_law05_IpBack_j3 h1 behind5 y36 y43 false
  else
  F_law05_IpBack_j3 h1 behind5 y36 y43 false
  else
  F_law05_IpBack_j3 h1 behind5 y36 y43 false
def F_law05_IpBack_j1 (h1 : T_ip_Header) (behind5 : List Int) (atv9 : Int) (byv10 : Int) (t15 : Bool) : Option Bool :=
  if t15 = true then
  (F_law05_works).bind fun y17 =>
  some y17
  else
  (F_ip_Put h1).bind fun y21 =>
  (F_ip_Right h1).bind fun y28 =>
  if (!((y21.2 == 0) == y28)) = true then
  some false
  else
  if (y21.2 != 0) = true then
  (F_law05_works).bind fun y32 =>
  some y32
  else
  (F_ref01_Join y21.1 behind5).bind fun y36 =>
  (F_ip_Parse y36).bind fun y43 =>
  if (y43.2.2 != 0) = true then
  F_law05_IpBack_j2 h1 behind5 atv9 byv10 y21 y36 y43 true
  else
  if (y43.2.1 != (y21.1.length : Int)) = true then
  F_law05_IpBack_j2 h1 behind5 atv9 byv10 y21 y36 y43 true
  else
  (F_ip_Same y43.1 h1).bind fun y54 =>
  F_law05_IpBack_j2 h1 behind5 atv9 byv10 y21 y36 y43 (!y54)
def F_law05_IpBack (h1 : T_ip_Header) (behind5 : List Int) (atv9 : Int) (byv10 : Int) : Option Bool :=
  if (decide (100 < (h1.f_Options.length : Int))) = true then
  F_law05_IpBack_j1 h1 behind5 atv9 byv10 true
  else
  F_law05_IpBack_j1 h1 behind5 atv9 byv10 (decide (300 < (behind5.length : Int)))
def F_ref01_Get_j2 (b1 : List Int) (atv5 : Int) (v21 : Int) (i22 : Int) (rec24 : Int → Int → Option (Int × Int)) (t26 : Bool) : Option (Int × Int) :=
  if t26 = true then
  some (0, 10)
  else
  (gidx b1 (IntKind.i64.wrap (atv5 + i22))).bind fun xv30 =>
  rec24 (IntKind.u64.wrap ((IntKind.u64.wrap (v21 * 256)) + (IntKind.u64.wrap xv30))) (IntKind.i64.wrap (i22 + 1))
def F_ref01_Get_l1 (rec24 : Int → Int → Option (Int × Int)) (b1 : List Int) (atv5 : Int) (size6 : Int) (v21 : Int) (i22 : Int) : Option (Int × Int) :=
  if (decide (i22 < size6)) = true then
  if (decide ((b1.length : Int) < atv5)) = true then
  F_ref01_Get_j2 b1 atv5 v21 i22 rec24 true
  else
  F_ref01_Get_j2 b1 atv5 v21 i22 rec24 (decide ((b1.length : Int) ≤ (IntKind.i64.wrap (atv5 + i22))))
  else
  some (v21, 0)
def F_ref01_Get_L1 (b1 : List Int) (atv5 : Int) (size6 : Int) : Nat → Int → Int → Option (Int × Int)
  | 0 => fun _ _ => none
  | k + 1 => F_ref01_Get_l1 (F_ref01_Get_L1 b1 atv5 size6 k) b1 atv5 size6
def F_ref01_Get_j1 (b1 : List Int) (atv5 : Int) (size6 : Int) (t7 : Bool) : Option (Int × Int) :=
  if t7 = true then
  some (0, 2)
  else
  F_ref01_Get_L1 b1 atv5 size6 fuel0 0 0
def F_ref01_Get (b1 : List Int) (atv5 : Int) (size6 : Int) : Option (Int × Int) :=
  if (decide (size6 < 1)) = true then
  F_ref01_Get_j1 b1 atv5 size6 true
  else
  if (decide (8 < size6)) = true then
  F_ref01_Get_j1 b1 atv5 size6 true
  else
  F_ref01_Get_j1 b1 atv5 size6 (decide (atv5 < 0))
def F_ref03_Whole_j1 (t13 : Bool) : Option Bool :=
  some t13
def F_ref03_Whole (b1 : List Int) : Option Bool :=
  (F_ref03_Sum b1).bind fun y5 =>
  if (y5 == 65535) = true then
  F_ref03_Whole_j1 true
  else
  (F_ref03_Sum b1).bind fun y9 =>
  F_ref03_Whole_j1 (y9 == 0)
def F_ref05_Parse_j1 (b1 : List Int) (xv21 : Int) (y26 : Int × Int) (y30 : Int × Int) (y34 : Int × Int) (t40 : Bool) : Option (T_ref05_Header × Int × Int) :=
  if t40 = true then
  some ((T_ref05_Header.mk 0 0 0 false false 0 0 0 ByteArray.empty ByteArray.empty ByteArray.empty), 0, 51)
  else
  (gcut b1 0 (IntKind.i64.wrap ((IntKind.i64.wrap (Int.tmod xv21 16)) * 4))).bind fun cut44 =>
  (F_ref03_Whole cut44).bind fun y51 =>
  if (!y51) = true then
  some ((T_ref05_Header.mk 0 0 0 false false 0 0 0 ByteArray.empty ByteArray.empty ByteArray.empty), 0, 52)
  else
  (gidx b1 1).bind fun xv59 =>
  (gidx b1 8).bind fun xv62 =>
  (gidx b1 9).bind fun xv65 =>
  (gcut b1 12 16).bind fun cut66 =>
  (gcut b1 16 20).bind fun cut73 =>
  (gcut b1 20 (IntKind.i64.wrap ((IntKind.i64.wrap (Int.tmod xv21 16)) * 4))).bind fun cut80 =>
  some ((T_ref05_Header.mk xv59 (IntKind.u16.wrap y26.1) (IntKind.u16.wrap y30.1) ((Int.tmod (IntKind.u64.wrap (Int.tdiv y34.1 16384)) 2) == 1) ((Int.tmod (IntKind.u64.wrap (Int.tdiv y34.1 8192)) 2) == 1) (IntKind.u16.wrap (Int.tmod y34.1 8192)) xv62 xv65 (strOfNums cut66) (strOfNums cut73) (strOfNums cut80)), (IntKind.i64.wrap ((IntKind.i64.wrap (Int.tmod xv21 16)) * 4)), 0)
def F_ref05_Parse (b1 : List Int) : Option (T_ref05_Header × Int × Int) :=
  if (decide ((b1.length : Int) < 20)) = true then
  some ((T_ref05_Header.mk 0 0 0 false false 0 0 0 ByteArray.empty ByteArray.empty ByteArray.empty), 0, 10)
  else
  (gidx b1 0).bind fun xv16 =>
  if ((IntKind.u8.wrap (Int.tdiv xv16 16)) != 4) = true then
  some ((T_ref05_Header.mk 0 0 0 false false 0 0 0 ByteArray.empty ByteArray.empty ByteArray.empty), 0, 50)
  else
  (gidx b1 0).bind fun xv21 =>
  if (decide ((IntKind.i64.wrap ((IntKind.i64.wrap (Int.tmod xv21 16)) * 4)) < 20)) = true then
  some ((T_ref05_Header.mk 0 0 0 false false 0 0 0 ByteArray.empty ByteArray.empty ByteArray.empty), 0, 51)
  else
  if (decide ((b1.length : Int) < (IntKind.i64.wrap ((IntKind.i64.wrap (Int.tmod xv21 16)) * 4)))) = true then
  some ((T_ref05_Header.mk 0 0 0 false false 0 0 0 ByteArray.empty ByteArray.empty ByteArray.empty), 0, 10)
  else
  (F_ref01_Get b1 2 2).bind fun y26 =>
  (F_ref01_Get b1 4 2).bind fun y30 =>
  (F_ref01_Get b1 6 2).bind fun y34 =>
  if (decide (32768 ≤ y34.1)) = true then
  F_ref05_Parse_j1 b1 xv21 y26 y30 y34 true
  else
  F_ref05_Parse_j1 b1 xv21 y26 y30 y34 (decide ((IntKind.i64.wrap y26.1) < (IntKind.i64.wrap ((IntKind.i64.wrap (Int.tmod xv21 16)) * 4))))
def F_ref05_Body (b1 : List Int) : Option ((List Int) × Int) :=
  (F_ref05_Parse b1).bind fun y5 =>
  if (y5.2.2 != 0) = true then
  some ([], y5.2.2)
  else
  if (decide ((b1.length : Int) < (IntKind.i64.wrap y5.1.f_Total))) = true then
  some ([], 10)
  else
  (gcut b1 y5.2.1 y5.1.f_Total).bind fun cut13 =>
  some (cut13, 0)
def F_ref03_Change (sum1 : Int) (fromv2 : Int) (tov3 : Int) : Option Int :=
  (F_ref03_Fold (IntKind.u64.wrap ((IntKind.u64.wrap ((IntKind.u64.wrap ((IntKind.u64.wrap (65535 - (IntKind.u64.wrap sum1))) + 65535)) - (IntKind.u64.wrap fromv2))) + (IntKind.u64.wrap tov3)))).bind fun y4 =>
  some (IntKind.u16.wrap (IntKind.u64.wrap (65535 - y4)))
def F_ref05_Hop (b1 : List Int) : Option ((List Int) × Int) :=
  (F_ref05_Parse b1).bind fun y5 =>
  if (y5.2.2 != 0) = true then
  some ([], y5.2.2)
  else
  if (y5.1.f_TTL == 0) = true then
  some ([], 51)
  else
  (F_ref01_Join [] b1).bind fun y13 =>
  (gidx b1 8).bind fun xv22 =>
  (gidx y13 8).bind fun xv25 =>
  (F_ref01_Get b1 10 2).bind fun y28 =>
  (F_ref01_Get b1 8 2).bind fun y32 =>
  (F_ref01_Get (y13.set (8 : Int).toNat (IntKind.u8.wrap (xv22 - 1))) 8 2).bind fun y36 =>
  (F_ref03_Change (IntKind.u16.wrap y28.1) (IntKind.u16.wrap y32.1) (IntKind.u16.wrap y36.1)).bind fun y40 =>
  (F_ref01_Put (IntKind.u64.wrap y40) 2).bind fun y44 =>
  (gidx y44 0).bind fun xv53 =>
  (gidx (y13.set (8 : Int).toNat (IntKind.u8.wrap (xv22 - 1))) 10).bind fun xv56 =>
  (gidx y44 1).bind fun xv61 =>
  (gidx ((y13.set (8 : Int).toNat (IntKind.u8.wrap (xv22 - 1))).set (10 : Int).toNat xv53) 11).bind fun xv64 =>
  some ((((y13.set (8 : Int).toNat (IntKind.u8.wrap (xv22 - 1))).set (10 : Int).toNat xv53).set (11 : Int).toNat xv61), 0)
def F_ip_Body (b1 : List Int) : Option ((List Int) × Int) :=
  (F_ip_Parse b1).bind fun y5 =>
  if (y5.2.2 != 0) = true then
  some ([], y5.2.2)
  else
  if (decide ((b1.length : Int) < (IntKind.i64.wrap y5.1.f_Total))) = true then
  some ([], 10)
  else
  (gcut b1 y5.2.1 y5.1.f_Total).bind fun cut16 =>
  (F_slices_Clone_byte_byte cut16).bind fun y23 =>
  some (y23, 0)
def F_law05_pad_j1 (h1 : T_ref05_Header) (h11 : ByteArray) (h12 : ByteArray) : Option T_ref05_Header :=
  some (T_ref05_Header.mk h1.f_TOS h1.f_Total h1.f_ID h1.f_DF h1.f_MF h1.f_Frag h1.f_TTL h1.f_Proto h11 h12 h1.f_Options)
def F_law05_pad (h1 : T_ref05_Header) : Option T_ref05_Header :=
  if (h1.f_Src.toList == (⟨#[]⟩ : ByteArray).toList) = true then
  F_law05_pad_j1 h1 (⟨#[0, 0, 0, 0]⟩ : ByteArray) (⟨#[0, 0, 0, 0]⟩ : ByteArray)
  else
  F_law05_pad_j1 h1 h1.f_Src h1.f_Dst
def F_law05_IpParses_l4 (rec601 : (List Int) → Int → Option Bool) (t420 : Int) (rec422 : Int → Option Bool) (y598 : List Int) (q599 : Int) : Option Bool :=
  if (decide (q599 < (y598.length : Int))) = true then
  (gidx y598 q599).bind fun xv605 =>
  (gidx y598 q599).bind fun xv608 =>
  rec601 (y598.set (q599 : Int).toNat (IntKind.u8.wrap (xv605 + 1))) (IntKind.i64.wrap (q599 + 1))
  else
  rec422 (IntKind.i64.wrap (t420 + 1))
def F_law05_IpParses_L4 (t420 : Int) (rec422 : Int → Option Bool) : Nat → (List Int) → Int → Option Bool
  | 0 => fun _ _ => none
  | k + 1 => F_law05_IpParses_l4 (F_law05_IpParses_L4 t420 rec422 k) t420 rec422
def F_law05_IpParses_l3 (rec558 : (List Int) → Int → Option Bool) (t420 : Int) (rec422 : Int → Option Bool) (y442 : (List Int) × Int) (xv554 : List Int) (q556 : Int) : Option Bool :=
  if (decide (q556 < (xv554.length : Int))) = true then
  (gidx xv554 q556).bind fun xv562 =>
  (gidx xv554 q556).bind fun xv565 =>
  rec558 (xv554.set (q556 : Int).toNat (IntKind.u8.wrap (xv562 + 1))) (IntKind.i64.wrap (q556 + 1))
  else
  F_law05_IpParses_L4 t420 rec422 fuel0 y442.1 0
def F_law05_IpParses_L3 (t420 : Int) (rec422 : Int → Option Bool) (y442 : (List Int) × Int) : Nat → (List Int) → Int → Option Bool
  | 0 => fun _ _ => none
  | k + 1 => F_law05_IpParses_l3 (F_law05_IpParses_L3 t420 rec422 y442 k) t420 rec422 y442
def F_law05_IpParses_l2 (rec513 : (List Int) → Int → Option Bool) (t420 : Int) (rec422 : Int → Option Bool) (y435 : (List Int) × Int) (y442 : (List Int) × Int) (h508 : List Int) (q511 : Int) : Option Bool :=
  if (decide (q511 < (h508.length : Int))) = true then
  (gidx h508 q511).bind fun xv517 =>
  (gidx h508 q511).bind fun xv520 =>
  rec513 (h508.set (q511 : Int).toNat (IntKind.u8.wrap (xv517 + 1))) (IntKind.i64.wrap (q511 + 1))
  else
  F_law05_IpParses_L3 t420 rec422 y442 fuel0 y435.1 0
def F_law05_IpParses_L2 (t420 : Int) (rec422 : Int → Option Bool) (y435 : (List Int) × Int) (y442 : (List Int) × Int) : Nat → (List Int) → Int → Option Bool
  | 0 => fun _ _ => none
  | k + 1 => F_law05_IpParses_l2 (F_law05_IpParses_L2 t420 rec422 y435 y442 k) t420 rec422 y435 y442
def F_law05_IpParses_j1 (t420 : Int) (rec422 : Int → Option Bool) (y424 : T_ip_Header × Int × Int) (y435 : (List Int) × Int) (y442 : (List Int) × Int) (t472 : Bool) : Option Bool :=
  if t472 = true then
  some false
  else
  F_law05_IpParses_L2 t420 rec422 y435 y442 fuel0 y424.1.f_Options 0
def F_law05_IpParses_j2 (t619 : Bool) : Option Bool :=
  some t619
def F_law05_IpParses_l1 (rec422 : Int → Option Bool) (b1 : List Int) (y9 : (List Int)) (y16 : T_ref05_Header × Int × Int) (y24 : (List Int) × Int) (y32 : (List Int) × Int) (t420 : Int) : Option Bool :=
  if (decide (t420 < 2)) = true then
  (F_ip_Parse b1).bind fun y424 =>
  (F_ip_Body b1).bind fun y435 =>
  (F_ip_Hop b1).bind fun y442 =>
  if (y424.2.2 != y16.2.2) = true then
  F_law05_IpParses_j1 t420 rec422 y424 y435 y442 true
  else
  if (y424.2.1 != y16.2.1) = true then
  F_law05_IpParses_j1 t420 rec422 y424 y435 y442 true
  else
  (F_docs_Ip y424.1).bind fun y449 =>
  (F_law05_pad y16.1).bind fun y453 =>
  if (!(q_ref05_Header y449 y453)) = true then
  F_law05_IpParses_j1 t420 rec422 y424 y435 y442 true
  else
  if (y435.2 != y24.2) = true then
  F_law05_IpParses_j1 t420 rec422 y424 y435 y442 true
  else
  (F_ref01_Same y435.1 y24.1).bind fun y457 =>
  if (!y457) = true then
  F_law05_IpParses_j1 t420 rec422 y424 y435 y442 true
  else
  if (y442.2 != y32.2) = true then
  F_law05_IpParses_j1 t420 rec422 y424 y435 y442 true
  else
  (F_ref01_Same y442.1 y32.1).bind fun y461 =>
  F_law05_IpParses_j1 t420 rec422 y424 y435 y442 (!y461)
  else
  (F_ref01_Same b1 y9).bind fun y611 =>
  if y611 = true then
  (F_law05_works).bind fun y615 =>
  F_law05_IpParses_j2 y615
  else
  F_law05_IpParses_j2 false
def F_law05_IpParses_L1 (b1 : List Int) (y9 : (List Int)) (y16 : T_ref05_Header × Int × Int) (y24 : (List Int) × Int) (y32 : (List Int) × Int) : Nat → Int → Option Bool
  | 0 => fun _ => none
  | k + 1 => F_law05_IpParses_l1 (F_law05_IpParses_L1 b1 y9 y16 y24 y32 k) b1 y9 y16 y24 y32
def F_law05_IpParses (b1 : List Int) : Option Bool :=
  if (decide (300 < (b1.length : Int))) = true then
  (F_law05_works).bind fun y5 =>
  some y5
  else
  (F_ref01_Join [] b1).bind fun y9 =>
  (F_ref05_Parse b1).bind fun y16 =>
  (F_ref05_Body b1).bind fun y24 =>
  (F_ref05_Hop b1).bind fun y32 =>
  F_law05_IpParses_L1 b1 y9 y16 y24 y32 fuel0 0
def F_law05_IpKnown_j2 (nv593 : Int) (rec595 : Int → Option Bool) (t629 : Bool) : Option Bool :=
  if t629 = true then
  some false
  else
  rec595 (IntKind.i64.wrap (nv593 + 1))
def F_law05_IpKnown_l2 (rec595 : Int → Option Bool) (more423 : List Int) (i424 : Int) (rec426 : (List Int) → Int → Option Bool) (xv433 : Int) (y513 : (List Int)) (nv593 : Int) : Option Bool :=
  if (decide (nv593 < (y513.length : Int))) = true then
  (F_ref01_Join [] y513).bind fun y597 =>
  (gidx y597 nv593).bind fun xv606 =>
  (gidx y597 nv593).bind fun xv609 =>
  if ((Int.tmod i424 4) == 0) = true then
  (gcut y513 0 nv593).bind fun cut612 =>
  (F_law05_IpParses cut612).bind fun y619 =>
  if (!y619) = true then
  F_law05_IpKnown_j2 nv593 rec595 true
  else
  (F_law05_IpParses (y597.set (nv593 : Int).toNat (IntKind.u8.wrap (xv606 + (IntKind.u8.wrap (IntKind.i64.wrap (1 + (IntKind.i64.wrap (i424 * 16))))))))).bind fun y623 =>
  F_law05_IpKnown_j2 nv593 rec595 (!y623)
  else
  F_law05_IpKnown_j2 nv593 rec595 false
  else
  (F_law05_IpParses y513).bind fun y631 =>
  if (!y631) = true then
  some false
  else
  rec426 (more423 ++ ([xv433] : List Int)) (IntKind.i64.wrap (i424 + 1))
def F_law05_IpKnown_L2 (more423 : List Int) (i424 : Int) (rec426 : (List Int) → Int → Option Bool) (xv433 : Int) (y513 : (List Int)) : Nat → Int → Option Bool
  | 0 => fun _ => none
  | k + 1 => F_law05_IpKnown_l2 (F_law05_IpKnown_L2 more423 i424 rec426 xv433 y513 k) more423 i424 rec426 xv433 y513
def F_law05_IpKnown_j1 (more423 : List Int) (i424 : Int) (rec426 : (List Int) → Int → Option Bool) (xv433 : Int) (cut458 : List Int) (t504 : Bool) : Option Bool :=
  if t504 = true then
  some false
  else
  (F_ip_Put (T_ip_Header.mk (IntKind.u8.wrap i424) (IntKind.u16.wrap (IntKind.i64.wrap (60 + i424))) (IntKind.u16.wrap (IntKind.i64.wrap (i424 * 4000))) ((Int.tmod i424 2) == 0) ((Int.tmod i424 3) == 0) (Int.tmod (IntKind.u16.wrap (IntKind.i64.wrap (8185 + i424))) 8192) (IntKind.u8.wrap (Int.tmod i424 4)) (IntKind.u8.wrap (IntKind.i64.wrap (i424 * 6))) ([(IntKind.u8.wrap i424), 2, 3, 4]) ([255, (IntKind.u8.wrap i424), 0, 1]) cut458)).bind fun y506 =>
  (F_ref01_Join y506.1 (more423 ++ ([xv433] : List Int))).bind fun y513 =>
  F_law05_IpKnown_L2 more423 i424 rec426 xv433 y513 fuel0 0
def F_law05_IpKnown_j3 (t664 : Bool) : Option Bool :=
  some t664
def F_law05_IpKnown_l1 (rec426 : (List Int) → Int → Option Bool) (more423 : List Int) (i424 : Int) : Option Bool :=
  if (decide (i424 < 44)) = true then
  (gidx ([1, 7, 4, 9, 2, 0] : List Int) (Int.tmod (IntKind.i64.wrap (i424 * 5)) 6)).bind fun xv433 =>
  if (decide (more423.length + ([xv433] : List Int).length ≤ lim)) = true then
  (gcut (more423 ++ ([xv433] : List Int)) 0 (gmin ((more423 ++ ([xv433] : List Int)).length : Int) (Int.tmod (IntKind.i64.wrap (i424 * 3)) 44))).bind fun cut442 =>
  (gcut (more423 ++ ([xv433] : List Int)) 0 (gmin (IntKind.i64.wrap ((IntKind.i64.wrap (Int.tdiv ((more423 ++ ([xv433] : List Int)).length : Int) 4)) * 4)) (Int.tmod (IntKind.i64.wrap ((IntKind.i64.wrap (Int.tdiv i424 4)) * 4)) 44))).bind fun cut458 =>
  (F_law05_IpPuts (T_ip_Header.mk (IntKind.u8.wrap i424) (IntKind.u16.wrap (IntKind.i64.wrap (18 + (IntKind.i64.wrap (i424 * 7))))) (IntKind.u16.wrap (IntKind.i64.wrap (i424 * 4000))) ((Int.tmod i424 2) == 0) ((Int.tmod i424 3) == 0) (IntKind.u16.wrap (IntKind.i64.wrap (8185 + i424))) (IntKind.u8.wrap (Int.tmod i424 4)) (IntKind.u8.wrap (IntKind.i64.wrap (i424 * 6))) ([(IntKind.u8.wrap i424), 2, 3, 4]) ([255, (IntKind.u8.wrap i424), 0, 1]) cut442) (T_ip_Header.mk (IntKind.u8.wrap i424) (IntKind.u16.wrap (IntKind.i64.wrap (60 + i424))) (IntKind.u16.wrap (IntKind.i64.wrap (i424 * 4000))) ((Int.tmod i424 2) == 0) ((Int.tmod i424 3) == 0) (Int.tmod (IntKind.u16.wrap (IntKind.i64.wrap (8185 + i424))) 8192) (IntKind.u8.wrap (Int.tmod i424 4)) (IntKind.u8.wrap (IntKind.i64.wrap (i424 * 6))) ([(IntKind.u8.wrap i424), 2, 3, 4]) ([255, (IntKind.u8.wrap i424), 0, 1]) cut458)).bind fun y467 =>
  if (!y467) = true then
  F_law05_IpKnown_j1 more423 i424 rec426 xv433 cut458 true
  else
  (F_law05_IpPuts (T_ip_Header.mk (IntKind.u8.wrap i424) (IntKind.u16.wrap (IntKind.i64.wrap (60 + i424))) (IntKind.u16.wrap (IntKind.i64.wrap (i424 * 4000))) ((Int.tmod i424 2) == 0) ((Int.tmod i424 3) == 0) (Int.tmod (IntKind.u16.wrap (IntKind.i64.wrap (8185 + i424))) 8192) (IntKind.u8.wrap (Int.tmod i424 4)) (IntKind.u8.wrap (IntKind.i64.wrap (i424 * 6))) ([(IntKind.u8.wrap i424), 2, 3, 4]) ([255, (IntKind.u8.wrap i424), 0, 1]) cut458) (T_ip_Header.mk (IntKind.u8.wrap i424) (IntKind.u16.wrap (IntKind.i64.wrap (60 + i424))) (IntKind.u16.wrap (IntKind.i64.wrap (i424 * 4000))) ((Int.tmod i424 2) == 0) ((Int.tmod i424 3) == 0) (Int.tmod (IntKind.u16.wrap (IntKind.i64.wrap (8185 + i424))) 8192) (IntKind.u8.wrap (Int.tmod i424 4)) (IntKind.u8.wrap (IntKind.i64.wrap (i424 * 6))) ([(IntKind.u8.wrap i424), 2, 3, 4]) ([255, (IntKind.u8.wrap i424), 0, 1]) cut458)).bind fun y471 =>
  if (!y471) = true then
  F_law05_IpKnown_j1 more423 i424 rec426 xv433 cut458 true
  else
  (F_law05_IpBack (T_ip_Header.mk (IntKind.u8.wrap i424) (IntKind.u16.wrap (IntKind.i64.wrap (18 + (IntKind.i64.wrap (i424 * 7))))) (IntKind.u16.wrap (IntKind.i64.wrap (i424 * 4000))) ((Int.tmod i424 2) == 0) ((Int.tmod i424 3) == 0) (IntKind.u16.wrap (IntKind.i64.wrap (8185 + i424))) (IntKind.u8.wrap (Int.tmod i424 4)) (IntKind.u8.wrap (IntKind.i64.wrap (i424 * 6))) ([(IntKind.u8.wrap i424), 2, 3, 4]) ([255, (IntKind.u8.wrap i424), 0, 1]) cut442) (more423 ++ ([xv433] : List Int)) i424 1).bind fun y475 =>
  if (!y475) = true then
  F_law05_IpKnown_j1 more423 i424 rec426 xv433 cut458 true
  else
  (gcut (more423 ++ ([xv433] : List Int)) 0 (Int.tmod i424 9)).bind fun cut479 =>
  (F_law05_IpBack (T_ip_Header.mk (IntKind.u8.wrap i424) (IntKind.u16.wrap (IntKind.i64.wrap (60 + i424))) (IntKind.u16.wrap (IntKind.i64.wrap (i424 * 4000))) ((Int.tmod i424 2) == 0) ((Int.tmod i424 3) == 0) (Int.tmod (IntKind.u16.wrap (IntKind.i64.wrap (8185 + i424))) 8192) (IntKind.u8.wrap (Int.tmod i424 4)) (IntKind.u8.wrap (IntKind.i64.wrap (i424 * 6))) ([(IntKind.u8.wrap i424), 2, 3, 4]) ([255, (IntKind.u8.wrap i424), 0, 1]) cut458) cut479 (IntKind.i64.wrap (i424 * 7)) (IntKind.u8.wrap (IntKind.i64.wrap (i424 * 5)))).bind fun y486 =>
  if (!y486) = true then
  F_law05_IpKnown_j1 more423 i424 rec426 xv433 cut458 true
  else
  (gcut (more423 ++ ([xv433] : List Int)) (IntKind.i64.wrap (Int.tdiv i424 2)) (((more423 ++ ([xv433] : List Int))).length)).bind fun cut490 =>
  (F_law05_IpOptions cut490).bind fun y497 =>
  F_law05_IpKnown_j1 more423 i424 rec426 xv433 cut458 (!y497)
  else none
  else
  (F_law05_IpParses []).bind fun y635 =>
  if y635 = true then
  (F_law05_IpOptions ([7] : List Int)).bind fun y642 =>
  if y642 = true then
  (F_law05_IpOptions ([7, 1] : List Int)).bind fun y649 =>
  if y649 = true then
  (F_law05_IpOptions ([7, 3] : List Int)).bind fun y656 =>
  if y656 = true then
  (F_law05_works).bind fun y660 =>
  F_law05_IpKnown_j3 y660
  else
  F_law05_IpKnown_j3 false
  else
  F_law05_IpKnown_j3 false
  else
  F_law05_IpKnown_j3 false
  else
  F_law05_IpKnown_j3 false
def F_law05_IpKnown_L1 : Nat → (List Int) → Int → Option Bool
  | 0 => fun _ _ => none
  | k + 1 => F_law05_IpKnown_l1 (F_law05_IpKnown_L1 k)
def F_law05_IpKnown : Option Bool :=
  F_law05_IpKnown_L1 fuel0 ([]) 0
end Go.Proofs.Ytjfdfjmnajjjaaa
