/- Plain functions, printed by a program of this claim: what each Go function computes, where it returns. -/
import Derived.Test.YtikjomacnbemhaaOxV
set_option linter.unusedVariables false
namespace Go.Proofs.Ytikjomacnbemhaa
open Go Go.Ox
structure T_ipsix_Ext where
  f_Kind : Int
  f_Data : List Int
structure T_ipsix_Chain where
  f_Exts : List T_ipsix_Ext
  f_Proto : Int
structure T_ipsix_reader where
  f_Chain : T_ipsix_Chain
  f_b : List Int
  f_at : Int
structure T_ref06_Ext where
  f_Kind : Int
  f_Data : ByteArray
def e_ref06_Ext (x : T_ref06_Ext) : List Value := [.int .u8 x.f_Kind, .string x.f_Data]
structure T_ref06_Chain where
  f_Exts : List T_ref06_Ext
  f_Proto : Int
structure T_ipsix_Header where
  f_Class : Int
  f_Flow : Int
  f_Length : Int
  f_Next : Int
  f_Hops : Int
  f_Src : List Int
  f_Dst : List Int
def e_ipsix_Header (x : T_ipsix_Header) : List Value := [.int .u8 x.f_Class, .int .u32 x.f_Flow, .int .u16 x.f_Length, .int .u8 x.f_Next, .int .u8 x.f_Hops, .int .u8 (List.getD x.f_Src 0 0), .int .u8 (List.getD x.f_Src 1 0), .int .u8 (List.getD x.f_Src 2 0), .int .u8 (List.getD x.f_Src 3 0), .int .u8 (List.getD x.f_Src 4 0), .int .u8 (List.getD x.f_Src 5 0), .int .u8 (List.getD x.f_Src 6 0), .int .u8 (List.getD x.f_Src 7 0), .int .u8 (List.getD x.f_Src 8 0), .int .u8 (List.getD x.f_Src 9 0), .int .u8 (List.getD x.f_Src 10 0), .int .u8 (List.getD x.f_Src 11 0), .int .u8 (List.getD x.f_Src 12 0), .int .u8 (List.getD x.f_Src 13 0), .int .u8 (List.getD x.f_Src 14 0), .int .u8 (List.getD x.f_Src 15 0), .int .u8 (List.getD x.f_Dst 0 0), .int .u8 (List.getD x.f_Dst 1 0), .int .u8 (List.getD x.f_Dst 2 0), .int .u8 (List.getD x.f_Dst 3 0), .int .u8 (List.getD x.f_Dst 4 0), .int .u8 (List.getD x.f_Dst 5 0), .int .u8 (List.getD x.f_Dst 6 0), .int .u8 (List.getD x.f_Dst 7 0), .int .u8 (List.getD x.f_Dst 8 0), .int .u8 (List.getD x.f_Dst 9 0), .int .u8 (List.getD x.f_Dst 10 0), .int .u8 (List.getD x.f_Dst 11 0), .int .u8 (List.getD x.f_Dst 12 0), .int .u8 (List.getD x.f_Dst 13 0), .int .u8 (List.getD x.f_Dst 14 0), .int .u8 (List.getD x.f_Dst 15 0)]
structure T_ref06_Header where
  f_Class : Int
  f_Flow : Int
  f_Length : Int
  f_Next : Int
  f_Hops : Int
  f_Src : ByteArray
  f_Dst : ByteArray
def e_ref06_Header (x : T_ref06_Header) : List Value := [.int .u8 x.f_Class, .int .u32 x.f_Flow, .int .u16 x.f_Length, .int .u8 x.f_Next, .int .u8 x.f_Hops, .string x.f_Src, .string x.f_Dst]
structure T_bits_Writer where
  f_b : List Int
def q_ref06_Ext (x y : T_ref06_Ext) : Bool := ((x.f_Kind == y.f_Kind) && ((x.f_Data.toList == y.f_Data.toList) && true))
def q_ref06_Header (x y : T_ref06_Header) : Bool := ((x.f_Class == y.f_Class) && ((x.f_Flow == y.f_Flow) && ((x.f_Length == y.f_Length) && ((x.f_Next == y.f_Next) && ((x.f_Hops == y.f_Hops) && ((x.f_Src.toList == y.f_Src.toList) && ((x.f_Dst.toList == y.f_Dst.toList) && true)))))))
def q_ipsix_Header (x y : T_ipsix_Header) : Bool := ((x.f_Class == y.f_Class) && ((x.f_Flow == y.f_Flow) && ((x.f_Length == y.f_Length) && ((x.f_Next == y.f_Next) && ((x.f_Hops == y.f_Hops) && ((arrEq 16 x.f_Src y.f_Src) && ((arrEq 16 x.f_Dst y.f_Dst) && true)))))))
def F_law06_few_j1 (cv1 : T_ipsix_Chain) (i37 : Int) (rec39 : Int → Option Bool) (t42 : Bool) : Option Bool :=
  if t42 = true then
  (gidx cv1.f_Exts i37).bind fun xv46 =>
  if (decide (2060 < (xv46.f_Data.length : Int))) = true then
  some false
  else
  rec39 (IntKind.i64.wrap (i37 + 1))
  else
  some (decide ((cv1.f_Exts.length : Int) ≤ 20))
def F_law06_few_l1 (rec39 : Int → Option Bool) (cv1 : T_ipsix_Chain) (i37 : Int) : Option Bool :=
  if (decide (i37 < (cv1.f_Exts.length : Int))) = true then
  F_law06_few_j1 cv1 i37 rec39 (decide (i37 < 21))
  else
  F_law06_few_j1 cv1 i37 rec39 false
def F_law06_few_L1 (cv1 : T_ipsix_Chain) : Nat → Int → Option Bool
  | 0 => fun _ => none
  | k + 1 => F_law06_few_l1 (F_law06_few_L1 cv1 k) cv1
def F_law06_few (cv1 : T_ipsix_Chain) : Option Bool :=
  F_law06_few_L1 cv1 fuel0 0
def F_ipsix_behind_j1 (t2 : Bool) : Option Bool :=
  if t2 = true then
  some true
  else
  some false
def F_ipsix_behind (kind1 : Int) : Option Bool :=
  if (kind1 == 0) = true then
  F_ipsix_behind_j1 (kind1 == 0)
  else
  if (kind1 == 43) = true then
  F_ipsix_behind_j1 (kind1 == 43)
  else
  if (kind1 == 44) = true then
  F_ipsix_behind_j1 (kind1 == 44)
  else
  F_ipsix_behind_j1 (kind1 == 60)
def F_bits_right_j1 (t2 : Bool) : Option Bool :=
  some t2
def F_bits_right (size1 : Int) : Option Bool :=
  if (decide (1 ≤ size1)) = true then
  F_bits_right_j1 (decide (size1 ≤ 8))
  else
  F_bits_right_j1 false
def F_bits_value_l1 (rec16 : Int → Int → Option Int) (b1 : List Int) (v13 : Int) (t14 : Int) : Option Int :=
  if (decide (t14 < (b1.length : Int))) = true then
  (gidx b1 t14).bind fun xv20 =>
  rec16 (bits .or .u64 (Ox.shl .u64 v13 8) (IntKind.u64.wrap xv20)) (IntKind.i64.wrap (t14 + 1))
  else
  some v13
def F_bits_value_L1 (b1 : List Int) : Nat → Int → Int → Option Int
  | 0 => fun _ _ => none
  | k + 1 => F_bits_value_l1 (F_bits_value_L1 b1 k) b1
def F_bits_value (b1 : List Int) : Option Int :=
  F_bits_value_L1 b1 fuel0 0 0
def F_bits_Get_j2 (b1 : List Int) (atv5 : Int) (size6 : Int) (t13 : Bool) : Option (Int × Int) :=
  if t13 = true then
  some (0, 10)
  else
  (gcut b1 atv5 (IntKind.i64.wrap (atv5 + size6))).bind fun cut15 =>
  (F_bits_value cut15).bind fun y22 =>
  some (y22, 0)
def F_bits_Get_j1 (b1 : List Int) (atv5 : Int) (size6 : Int) (t11 : Bool) : Option (Int × Int) :=
  if t11 = true then
  some (0, 2)
  else
  if (decide ((b1.length : Int) < atv5)) = true then
  F_bits_Get_j2 b1 atv5 size6 true
  else
  F_bits_Get_j2 b1 atv5 size6 (decide ((IntKind.i64.wrap ((b1.length : Int) - atv5)) < size6))
def F_bits_Get (b1 : List Int) (atv5 : Int) (size6 : Int) : Option (Int × Int) :=
  (F_bits_right size6).bind fun y7 =>
  if (!y7) = true then
  F_bits_Get_j1 b1 atv5 size6 true
  else
  F_bits_Get_j1 b1 atv5 size6 (decide (atv5 < 0))
def F_ipsix_Ext_says (xv1 : T_ipsix_Ext) : Option (Int × Int × Bool) :=
  (F_bits_Get xv1.f_Data 0 2).bind fun y8 =>
  some ((IntKind.u16.wrap (Ox.shr .u64 y8.1 3)), (IntKind.u8.wrap (bits .and .u64 (Ox.shr .u64 y8.1 1) 3)), ((bits .and .u64 y8.1 1) == 1))
def F_ipsix_Ext_right_j1 (t12 : Bool) : Option Bool :=
  some t12
def F_ipsix_Ext_right_j2 (t18 : Bool) : Option Bool :=
  some t18
def F_ipsix_Ext_right (xv1 : T_ipsix_Ext) : Option Bool :=
  if (xv1.f_Kind != 44) = true then
  (F_ipsix_behind xv1.f_Kind).bind fun y8 =>
  if y8 = true then
  if ((Int.tmod (xv1.f_Data.length : Int) 8) == 6) = true then
  F_ipsix_Ext_right_j1 (decide ((xv1.f_Data.length : Int) ≤ 2046))
  else
  F_ipsix_Ext_right_j1 false
  else
  F_ipsix_Ext_right_j1 false
  else
  (F_ipsix_Ext_says xv1).bind fun y14 =>
  if ((xv1.f_Data.length : Int) == 6) = true then
  F_ipsix_Ext_right_j2 (y14.2.1 == 0)
  else
  F_ipsix_Ext_right_j2 false
def F_ipsix_Right_1 (xv1 : T_ipsix_Ext) : Option Bool :=
  (F_ipsix_Ext_right xv1).bind fun y8 =>
  some (!y8)
def F_slices_IndexFunc_ipsix_Ext_ipsix_Ext_fipsix_Right_1_l1 (rec36 : Int → Option Int) (s1 : List T_ipsix_Ext) (t34 : Int) : Option Int :=
  if (decide (t34 < (s1.length : Int))) = true then
  (gidx s1 t34).bind fun xv40 =>
  (F_ipsix_Right_1 xv40).bind fun y48 =>
  if y48 = true then
  some t34
  else
  rec36 (IntKind.i64.wrap (t34 + 1))
  else
  some (-1)
def F_slices_IndexFunc_ipsix_Ext_ipsix_Ext_fipsix_Right_1_L1 (s1 : List T_ipsix_Ext) : Nat → Int → Option Int
  | 0 => fun _ => none
  | k + 1 => F_slices_IndexFunc_ipsix_Ext_ipsix_Ext_fipsix_Right_1_l1 (F_slices_IndexFunc_ipsix_Ext_ipsix_Ext_fipsix_Right_1_L1 s1 k) s1
def F_slices_IndexFunc_ipsix_Ext_ipsix_Ext_fipsix_Right_1 (s1 : List T_ipsix_Ext) : Option Int :=
  F_slices_IndexFunc_ipsix_Ext_ipsix_Ext_fipsix_Right_1_L1 s1 fuel0 0
def F_slices_ContainsFunc_ipsix_Ext_ipsix_Ext_fipsix_Right_1 (s1 : List T_ipsix_Ext) : Option Bool :=
  (F_slices_IndexFunc_ipsix_Ext_ipsix_Ext_fipsix_Right_1 s1).bind fun y5 =>
  some (decide (0 ≤ y5))
def F_ipsix_Ext_later_j1 (t12 : Bool) : Option Bool :=
  some t12
def F_ipsix_Ext_later (xv1 : T_ipsix_Ext) : Option Bool :=
  (F_ipsix_Ext_says xv1).bind fun y8 =>
  if (xv1.f_Kind == 44) = true then
  F_ipsix_Ext_later_j1 (decide (0 < y8.1))
  else
  F_ipsix_Ext_later_j1 false
def F_ipsix_Right_j2 (t68 : Int) (rec70 : Int → Option Bool) (t95 : Bool) : Option Bool :=
  if t95 = true then
  some false
  else
  rec70 (IntKind.i64.wrap (t68 + 1))
def F_ipsix_Right_j3 (t115 : Bool) : Option Bool :=
  some t115
def F_ipsix_Right_l1 (rec70 : Int → Option Bool) (cv1 : T_ipsix_Chain) (t68 : Int) : Option Bool :=
  if (decide (t68 < (cv1.f_Exts.length : Int))) = true then
  (gidx cv1.f_Exts t68).bind fun xv74 =>
  if (xv74.f_Kind == 0) = true then
  if (decide (0 < t68)) = true then
  F_ipsix_Right_j2 t68 rec70 true
  else
  (F_ipsix_Ext_later xv74).bind fun y86 =>
  if y86 = true then
  F_ipsix_Right_j2 t68 rec70 (decide (t68 < (IntKind.i64.wrap ((cv1.f_Exts.length : Int) - 1))))
  else
  F_ipsix_Right_j2 t68 rec70 false
  else
  (F_ipsix_Ext_later xv74).bind fun y90 =>
  if y90 = true then
  F_ipsix_Right_j2 t68 rec70 (decide (t68 < (IntKind.i64.wrap ((cv1.f_Exts.length : Int) - 1))))
  else
  F_ipsix_Right_j2 t68 rec70 false
  else
  (F_ipsix_behind cv1.f_Proto).bind fun y97 =>
  if (!y97) = true then
  F_ipsix_Right_j3 true
  else
  if (decide (0 ≤ (IntKind.i64.wrap ((cv1.f_Exts.length : Int) - 1)))) = true then
  (gidx cv1.f_Exts (IntKind.i64.wrap ((cv1.f_Exts.length : Int) - 1))).bind fun xv103 =>
  (F_ipsix_Ext_later xv103).bind fun y111 =>
  F_ipsix_Right_j3 y111
  else
  F_ipsix_Right_j3 false
def F_ipsix_Right_L1 (cv1 : T_ipsix_Chain) : Nat → Int → Option Bool
  | 0 => fun _ => none
  | k + 1 => F_ipsix_Right_l1 (F_ipsix_Right_L1 cv1 k) cv1
def F_ipsix_Right_j1 (cv1 : T_ipsix_Chain) (t13 : Bool) : Option Bool :=
  if t13 = true then
  some false
  else
  F_ipsix_Right_L1 cv1 fuel0 0
def F_ipsix_Right (cv1 : T_ipsix_Chain) : Option Bool :=
  if (decide (16 < (cv1.f_Exts.length : Int))) = true then
  F_ipsix_Right_j1 cv1 true
  else
  (F_slices_ContainsFunc_ipsix_Ext_ipsix_Ext_fipsix_Right_1 cv1.f_Exts).bind fun y8 =>
  F_ipsix_Right_j1 cv1 y8
def F_ipsix_PutChain_l2 (rec177 : (List Int) → Int → Option ((List Int) × Int × Int)) (cv1 : T_ipsix_Chain) (kinds69 : List Int) (b173 : List Int) (t175 : Int) : Option ((List Int) × Int × Int) :=
  if (decide (t175 < (cv1.f_Exts.length : Int))) = true then
  (gidx cv1.f_Exts t175).bind fun xv181 =>
  (gidx (kinds69 ++ [cv1.f_Proto]) (IntKind.i64.wrap (t175 + 1))).bind fun xv195 =>
  if (decide (b173.length + ([xv195, (IntKind.u8.wrap (IntKind.i64.wrap ((IntKind.i64.wrap (Int.tdiv (IntKind.i64.wrap ((xv181.f_Data.length : Int) + 2)) 8)) - 1)))]).length ≤ lim)) = true then
  if (decide ((b173 ++ [xv195, (IntKind.u8.wrap (IntKind.i64.wrap ((IntKind.i64.wrap (Int.tdiv (IntKind.i64.wrap ((xv181.f_Data.length : Int) + 2)) 8)) - 1)))]).length + xv181.f_Data.length ≤ lim)) = true then
  rec177 ((b173 ++ [xv195, (IntKind.u8.wrap (IntKind.i64.wrap ((IntKind.i64.wrap (Int.tdiv (IntKind.i64.wrap ((xv181.f_Data.length : Int) + 2)) 8)) - 1)))]) ++ xv181.f_Data) (IntKind.i64.wrap (t175 + 1))
  else none
  else none
  else
  (gidx (kinds69 ++ [cv1.f_Proto]) 0).bind fun xv211 =>
  some (b173, xv211, 0)
def F_ipsix_PutChain_L2 (cv1 : T_ipsix_Chain) (kinds69 : List Int) : Nat → (List Int) → Int → Option ((List Int) × Int × Int)
  | 0 => fun _ _ => none
  | k + 1 => F_ipsix_PutChain_l2 (F_ipsix_PutChain_L2 cv1 kinds69 k) cv1 kinds69
def F_ipsix_PutChain_l1 (rec72 : (List Int) → Int → Option ((List Int) × Int × Int)) (cv1 : T_ipsix_Chain) (kinds69 : List Int) (t70 : Int) : Option ((List Int) × Int × Int) :=
  if (decide (t70 < (cv1.f_Exts.length : Int))) = true then
  (gidx cv1.f_Exts t70).bind fun xv76 =>
  if (decide (kinds69.length + ([xv76.f_Kind]).length ≤ lim)) = true then
  rec72 (kinds69 ++ [xv76.f_Kind]) (IntKind.i64.wrap (t70 + 1))
  else none
  else
  if (decide (kinds69.length + ([cv1.f_Proto]).length ≤ lim)) = true then
  F_ipsix_PutChain_L2 cv1 kinds69 fuel0 ([]) 0
  else none
def F_ipsix_PutChain_L1 (cv1 : T_ipsix_Chain) : Nat → (List Int) → Int → Option ((List Int) × Int × Int)
  | 0 => fun _ _ => none
  | k + 1 => F_ipsix_PutChain_l1 (F_ipsix_PutChain_L1 cv1 k) cv1
def F_ipsix_PutChain (cv1 : T_ipsix_Chain) : Option ((List Int) × Int × Int) :=
  (F_ipsix_Right cv1).bind fun y8 =>
  if (!y8) = true then
  some ([], 0, 60)
  else
  F_ipsix_PutChain_L1 cv1 fuel0 ([] : List Int) 0
def F_bytes_Clone (b1 : List Int) : Option ((List Int)) :=
  if (decide (([] : List Int).length + b1.length ≤ lim)) = true then
  some (([] : List Int) ++ b1)
  else none
def F_ipsix_reader_one_I_j4 (rv1 : T_ipsix_reader) (cut25 : List Int) (nv44 : Int) (xv89 : List Int) (p105 : List T_ipsix_Ext) (t108 : Bool) : Option (Int × T_ipsix_reader) :=
  if t108 = true then
  some (60, (T_ipsix_reader.mk (T_ipsix_Chain.mk p105 rv1.f_Chain.f_Proto) rv1.f_b rv1.f_at))
  else
  (gidx cut25 0).bind fun xv112 =>
  if (decide (p105.length + ([(T_ipsix_Ext.mk rv1.f_Chain.f_Proto xv89)]).length ≤ lim)) = true then
  some (0, (T_ipsix_reader.mk (T_ipsix_Chain.mk (p105 ++ [(T_ipsix_Ext.mk rv1.f_Chain.f_Proto xv89)]) xv112) rv1.f_b (IntKind.i64.wrap (rv1.f_at + nv44))))
  else none
def F_ipsix_reader_one_I_j3 (rv1 : T_ipsix_reader) (cut25 : List Int) (nv44 : Int) (p83 : List T_ipsix_Ext) (xv89 : List Int) : Option (Int × T_ipsix_reader) :=
  if (rv1.f_Chain.f_Proto == 44) = true then
  (gidx cut25 1).bind fun xv93 =>
  if (xv93 != 0) = true then
  F_ipsix_reader_one_I_j4 rv1 cut25 nv44 xv89 p83 true
  else
  (F_ipsix_Ext_right (T_ipsix_Ext.mk rv1.f_Chain.f_Proto xv89)).bind fun y94 =>
  F_ipsix_reader_one_I_j4 rv1 cut25 nv44 xv89 p83 (!y94)
  else
  F_ipsix_reader_one_I_j4 rv1 cut25 nv44 xv89 p83 false
def F_ipsix_reader_one_I_j2 (rv1 : T_ipsix_reader) (cut25 : List Int) (p43 : List T_ipsix_Ext) (nv44 : Int) : Option (Int × T_ipsix_reader) :=
  if (decide ((cut25.length : Int) < nv44)) = true then
  some (10, (T_ipsix_reader.mk (T_ipsix_Chain.mk p43 rv1.f_Chain.f_Proto) rv1.f_b rv1.f_at))
  else
  (gcut cut25 2 nv44).bind fun cut46 =>
  (F_bytes_Clone cut46).bind fun y54 =>
  F_ipsix_reader_one_I_j3 rv1 cut25 nv44 p43 y54
def F_ipsix_reader_one_I_j1 (rv1 : T_ipsix_reader) (p22 : List T_ipsix_Ext) (t23 : Bool) : Option (Int × T_ipsix_reader) :=
  if t23 = true then
  some (60, (T_ipsix_reader.mk (T_ipsix_Chain.mk p22 rv1.f_Chain.f_Proto) rv1.f_b rv1.f_at))
  else
  (gcut rv1.f_b rv1.f_at ((rv1.f_b).length)).bind fun cut25 =>
  if (decide ((cut25.length : Int) < 2)) = true then
  some (10, (T_ipsix_reader.mk (T_ipsix_Chain.mk p22 rv1.f_Chain.f_Proto) rv1.f_b rv1.f_at))
  else
  (gidx cut25 1).bind fun xv35 =>
  if (rv1.f_Chain.f_Proto == 44) = true then
  F_ipsix_reader_one_I_j2 rv1 cut25 p22 8
  else
  F_ipsix_reader_one_I_j2 rv1 cut25 p22 (IntKind.i64.wrap (8 * (IntKind.i64.wrap ((IntKind.i64.wrap xv35) + 1))))
def F_ipsix_reader_one_I (rv1 : T_ipsix_reader) : Option (Int × T_ipsix_reader) :=
  if ((rv1.f_Chain.f_Exts.length : Int) == 16) = true then
  F_ipsix_reader_one_I_j1 rv1 rv1.f_Chain.f_Exts true
  else
  if (rv1.f_Chain.f_Proto == 0) = true then
  F_ipsix_reader_one_I_j1 rv1 rv1.f_Chain.f_Exts (decide (0 < (rv1.f_Chain.f_Exts.length : Int)))
  else
  F_ipsix_reader_one_I_j1 rv1 rv1.f_Chain.f_Exts false
def F_ipsix_ParseChain_j2 (rv150 : Int) (rv155 : Int) (t166 : List T_ipsix_Ext) : Option (T_ipsix_Chain × Int × Int) :=
  some ((T_ipsix_Chain.mk t166 rv150), rv155, 0)
def F_ipsix_ParseChain_j1 (rv149 : List T_ipsix_Ext) (rv150 : Int) (rv155 : Int) : Option (T_ipsix_Chain × Int × Int) :=
  F_ipsix_ParseChain_j2 rv150 rv155 rv149
def F_ipsix_ParseChain_l1 (rec108 : (List T_ipsix_Ext) → Int → (List Int) → Int → Option (T_ipsix_Chain × Int × Int)) (rv100 : List T_ipsix_Ext) (rv101 : Int) (rv105 : List Int) (rv106 : Int) : Option (T_ipsix_Chain × Int × Int) :=
  (F_ipsix_behind rv101).bind fun y110 =>
  if y110 = true then
  (F_ipsix_reader_one_I (T_ipsix_reader.mk (T_ipsix_Chain.mk rv100 rv101) rv105 rv106)).bind fun y114 =>
  if (y114.1 != 0) = true then
  some ((T_ipsix_Chain.mk ([]) 0), 0, y114.1)
  else
  (gidx y114.2.f_Chain.f_Exts (IntKind.i64.wrap ((y114.2.f_Chain.f_Exts.length : Int) - 1))).bind fun xv131 =>
  (F_ipsix_Ext_later xv131).bind fun y139 =>
  if y139 = true then
  F_ipsix_ParseChain_j1 y114.2.f_Chain.f_Exts y114.2.f_Chain.f_Proto y114.2.f_at
  else
  rec108 y114.2.f_Chain.f_Exts y114.2.f_Chain.f_Proto y114.2.f_b y114.2.f_at
  else
  F_ipsix_ParseChain_j1 rv100 rv101 rv106
def F_ipsix_ParseChain_L1 : Nat → (List T_ipsix_Ext) → Int → (List Int) → Int → Option (T_ipsix_Chain × Int × Int)
  | 0 => fun _ _ _ _ => none
  | k + 1 => F_ipsix_ParseChain_l1 (F_ipsix_ParseChain_L1 k)
def F_ipsix_ParseChain (first1 : Int) (b2 : List Int) : Option (T_ipsix_Chain × Int × Int) :=
  F_ipsix_ParseChain_L1 fuel0 ([]) first1 b2 0
def F_ipsix_Frag_1 (xv1 : T_ipsix_Ext) : Option Bool :=
  some (xv1.f_Kind == 44)
def F_slices_IndexFunc_ipsix_Ext_ipsix_Ext_fipsix_Frag_1_l1 (rec36 : Int → Option Int) (s1 : List T_ipsix_Ext) (t34 : Int) : Option Int :=
  if (decide (t34 < (s1.length : Int))) = true then
  (gidx s1 t34).bind fun xv40 =>
  (F_ipsix_Frag_1 xv40).bind fun y48 =>
  if y48 = true then
  some t34
  else
  rec36 (IntKind.i64.wrap (t34 + 1))
  else
  some (-1)
def F_slices_IndexFunc_ipsix_Ext_ipsix_Ext_fipsix_Frag_1_L1 (s1 : List T_ipsix_Ext) : Nat → Int → Option Int
  | 0 => fun _ => none
  | k + 1 => F_slices_IndexFunc_ipsix_Ext_ipsix_Ext_fipsix_Frag_1_l1 (F_slices_IndexFunc_ipsix_Ext_ipsix_Ext_fipsix_Frag_1_L1 s1 k) s1
def F_slices_IndexFunc_ipsix_Ext_ipsix_Ext_fipsix_Frag_1 (s1 : List T_ipsix_Ext) : Option Int :=
  F_slices_IndexFunc_ipsix_Ext_ipsix_Ext_fipsix_Frag_1_L1 s1 fuel0 0
def F_ipsix_Frag_j1 (cv1 : T_ipsix_Chain) (y8 : Int) (t17 : Bool) : Option (Int × Bool × Int × Bool) :=
  if t17 = true then
  some (0, false, 0, false)
  else
  (gidx cv1.f_Exts y8).bind fun xv21 =>
  (F_ipsix_Ext_says xv21).bind fun y29 =>
  (gidx cv1.f_Exts y8).bind fun xv35 =>
  (F_bits_Get xv35.f_Data 2 4).bind fun y43 =>
  some (y29.1, y29.2.2, (IntKind.u32.wrap y43.1), true)
def F_ipsix_Frag (cv1 : T_ipsix_Chain) : Option (Int × Bool × Int × Bool) :=
  (F_slices_IndexFunc_ipsix_Ext_ipsix_Ext_fipsix_Frag_1 cv1.f_Exts).bind fun y8 =>
  if (decide (y8 < 0)) = true then
  F_ipsix_Frag_j1 cv1 y8 true
  else
  (F_ipsix_Right cv1).bind fun y12 =>
  F_ipsix_Frag_j1 cv1 y8 (!y12)
def F_kit_SameBytes_l1 (rec24 : Int → Option Bool) (av1 : List Int) (b5 : List Int) (i22 : Int) : Option Bool :=
  if (decide (i22 < (av1.length : Int))) = true then
  (gidx av1 i22).bind fun xv28 =>
  (gidx b5 i22).bind fun xv31 =>
  if (xv28 != xv31) = true then
  some false
  else
  rec24 (IntKind.i64.wrap (i22 + 1))
  else
  some true
def F_kit_SameBytes_L1 (av1 : List Int) (b5 : List Int) : Nat → Int → Option Bool
  | 0 => fun _ => none
  | k + 1 => F_kit_SameBytes_l1 (F_kit_SameBytes_L1 av1 b5 k) av1 b5
def F_kit_SameBytes (av1 : List Int) (b5 : List Int) : Option Bool :=
  if ((av1.length : Int) != (b5.length : Int)) = true then
  some false
  else
  F_kit_SameBytes_L1 av1 b5 fuel0 0
def F_law06_works_j1 (t77 : Bool) : Option Bool :=
  some t77
def F_law06_works : Option Bool :=
  if (decide (0 ≤ 6 ∧ 6 ≤ lim)) = true then
  (F_ipsix_PutChain (T_ipsix_Chain.mk ([(T_ipsix_Ext.mk 60 (List.replicate (Int.toNat 6) 0))]) 6)).bind fun y10 =>
  (F_ipsix_ParseChain 44 ([17, 0, 0, 9, 0, 0, 0, 5])).bind fun y20 =>
  (F_ipsix_Frag y20.1).bind fun y34 =>
  (F_ipsix_ParseChain 6 []).bind fun y38 =>
  if (decide (0 ≤ 8 ∧ 8 ≤ lim)) = true then
  (F_ipsix_ParseChain 60 (List.replicate (Int.toNat 8) 0)).bind fun y56 =>
  if (y10.2.2 == 0) = true then
  if (y10.2.1 == 60) = true then
  (F_kit_SameBytes y10.1 ([6, 0, 0, 0, 0, 0, 0, 0])).bind fun y73 =>
  if y73 = true then
  if (y20.2.2 == 0) = true then
  if (y20.2.1 == 8) = true then
  if (y20.1.f_Proto == 17) = true then
  if (y34.1 == 1) = true then
  if y34.2.1 = true then
  if (y34.2.2.1 == 5) = true then
  if y34.2.2.2 = true then
  if (y38.2.2 == 0) = true then
  if (y38.2.1 == 0) = true then
  if ((y38.1.f_Exts.length : Int) == 0) = true then
  F_law06_works_j1 (y56.2.2 == 60)
  else
  F_law06_works_j1 false
  else
  F_law06_works_j1 false
  else
  F_law06_works_j1 false
  else
  F_law06_works_j1 false
  else
  F_law06_works_j1 false
  else
  F_law06_works_j1 false
  else
  F_law06_works_j1 false
  else
  F_law06_works_j1 false
  else
  F_law06_works_j1 false
  else
  F_law06_works_j1 false
  else
  F_law06_works_j1 false
  else
  F_law06_works_j1 false
  else
  F_law06_works_j1 false
  else none
  else none
def F_docs_Chain_l1 (rec90 : (List T_ref06_Ext) → Int → Option T_ref06_Chain) (cv1 : T_ipsix_Chain) (out87 : List T_ref06_Ext) (i88 : Int) : Option T_ref06_Chain :=
  if (decide (i88 < (cv1.f_Exts.length : Int))) = true then
  (gidx cv1.f_Exts i88).bind fun xv94 =>
  (gidx cv1.f_Exts i88).bind fun xv104 =>
  if (decide (out87.length + ([(T_ref06_Ext.mk xv94.f_Kind (strOfNums xv104.f_Data))]).length ≤ lim)) = true then
  rec90 (out87 ++ [(T_ref06_Ext.mk xv94.f_Kind (strOfNums xv104.f_Data))]) (IntKind.i64.wrap (i88 + 1))
  else none
  else
  some (T_ref06_Chain.mk out87 cv1.f_Proto)
def F_docs_Chain_L1 (cv1 : T_ipsix_Chain) : Nat → (List T_ref06_Ext) → Int → Option T_ref06_Chain
  | 0 => fun _ _ => none
  | k + 1 => F_docs_Chain_l1 (F_docs_Chain_L1 cv1 k) cv1
def F_docs_Chain (cv1 : T_ipsix_Chain) : Option T_ref06_Chain :=
  F_docs_Chain_L1 cv1 fuel0 ([]) 0
def F_ref06_kind_j1 (t2 : Bool) : Option Bool :=
  some t2
def F_ref06_kind (kv1 : Int) : Option Bool :=
  if (kv1 == 0) = true then
  F_ref06_kind_j1 true
  else
  if (kv1 == 43) = true then
  F_ref06_kind_j1 true
  else
  if (kv1 == 44) = true then
  F_ref06_kind_j1 true
  else
  F_ref06_kind_j1 (kv1 == 60)
def F_ref06_rightExt_j1 (t7 : Bool) : Option Bool :=
  some t7
def F_ref06_rightExt_j2 (t13 : Bool) : Option Bool :=
  some t13
def F_ref06_rightExt (xv1 : T_ref06_Ext) : Option Bool :=
  if (xv1.f_Kind == 44) = true then
  if ((xv1.f_Data.size : Int) == 6) = true then
  (gidxS xv1.f_Data 1).bind fun xv5 =>
  F_ref06_rightExt_j1 ((Int.tmod (IntKind.u8.wrap (Int.tdiv xv5 2)) 4) == 0)
  else
  F_ref06_rightExt_j1 false
  else
  (F_ref06_kind xv1.f_Kind).bind fun y9 =>
  if y9 = true then
  if ((Int.tmod (xv1.f_Data.size : Int) 8) == 6) = true then
  F_ref06_rightExt_j2 (decide ((xv1.f_Data.size : Int) ≤ 2046))
  else
  F_ref06_rightExt_j2 false
  else
  F_ref06_rightExt_j2 false
def F_ref06_later_j1 (t9 : Bool) : Option Bool :=
  some t9
def F_ref06_later (xv1 : T_ref06_Ext) : Option Bool :=
  if (xv1.f_Kind == 44) = true then
  if (decide (1 < (xv1.f_Data.size : Int))) = true then
  (gidxS xv1.f_Data 0).bind fun xv5 =>
  if (decide (0 < xv5)) = true then
  F_ref06_later_j1 true
  else
  (gidxS xv1.f_Data 1).bind fun xv7 =>
  F_ref06_later_j1 (decide (8 ≤ xv7))
  else
  F_ref06_later_j1 false
  else
  F_ref06_later_j1 false
def F_ref06_Right_j1 (i51 : Int) (rec53 : Bool → Int → Option Bool) (xv57 : T_ref06_Ext) (t68 : Bool) : Option Bool :=
  if t68 = true then
  some false
  else
  (F_ref06_later xv57).bind fun y70 =>
  rec53 y70 (IntKind.i64.wrap (i51 + 1))
def F_ref06_Right_j2 (t78 : Bool) : Option Bool :=
  some t78
def F_ref06_Right_l1 (rec53 : Bool → Int → Option Bool) (cv1 : T_ref06_Chain) (last50 : Bool) (i51 : Int) : Option Bool :=
  if (decide (i51 < (cv1.f_Exts.length : Int))) = true then
  (gidx cv1.f_Exts i51).bind fun xv57 =>
  (F_ref06_rightExt xv57).bind fun y62 =>
  if (!y62) = true then
  F_ref06_Right_j1 i51 rec53 xv57 true
  else
  if (xv57.f_Kind == 0) = true then
  if (decide (0 < i51)) = true then
  F_ref06_Right_j1 i51 rec53 xv57 true
  else
  F_ref06_Right_j1 i51 rec53 xv57 last50
  else
  F_ref06_Right_j1 i51 rec53 xv57 last50
  else
  if last50 = true then
  F_ref06_Right_j2 true
  else
  (F_ref06_kind cv1.f_Proto).bind fun y74 =>
  F_ref06_Right_j2 (!y74)
def F_ref06_Right_L1 (cv1 : T_ref06_Chain) : Nat → Bool → Int → Option Bool
  | 0 => fun _ _ => none
  | k + 1 => F_ref06_Right_l1 (F_ref06_Right_L1 cv1 k) cv1
def F_ref06_Right (cv1 : T_ref06_Chain) : Option Bool :=
  if (decide (16 < (cv1.f_Exts.length : Int))) = true then
  some false
  else
  F_ref06_Right_L1 cv1 fuel0 false 0
def F_ref06_PutChain_l1 (rec79 : (List Int) → Int → Int → Option ((List Int) × Int × Int)) (cv1 : T_ref06_Chain) (out75 : List Int) (first76 : Int) (i77 : Int) : Option ((List Int) × Int × Int) :=
  if (decide (0 ≤ i77)) = true then
  (gidx cv1.f_Exts i77).bind fun xv83 =>
  if (decide (xv83.f_Data.size ≤ lim)) = true then
  if (decide (([first76, (IntKind.u8.wrap (IntKind.i64.wrap ((IntKind.i64.wrap (Int.tdiv (IntKind.i64.wrap ((xv83.f_Data.size : Int) + 2)) 8)) - 1)))]).length + (numsOfStr xv83.f_Data).length ≤ lim)) = true then
  if (decide (([first76, (IntKind.u8.wrap (IntKind.i64.wrap ((IntKind.i64.wrap (Int.tdiv (IntKind.i64.wrap ((xv83.f_Data.size : Int) + 2)) 8)) - 1)))] ++ (numsOfStr xv83.f_Data)).length + out75.length ≤ lim)) = true then
  rec79 (([first76, (IntKind.u8.wrap (IntKind.i64.wrap ((IntKind.i64.wrap (Int.tdiv (IntKind.i64.wrap ((xv83.f_Data.size : Int) + 2)) 8)) - 1)))] ++ (numsOfStr xv83.f_Data)) ++ out75) xv83.f_Kind (IntKind.i64.wrap (i77 - 1))
  else none
  else none
  else none
  else
  some (out75, first76, 0)
def F_ref06_PutChain_L1 (cv1 : T_ref06_Chain) : Nat → (List Int) → Int → Int → Option ((List Int) × Int × Int)
  | 0 => fun _ _ _ => none
  | k + 1 => F_ref06_PutChain_l1 (F_ref06_PutChain_L1 cv1 k) cv1
def F_ref06_PutChain (cv1 : T_ref06_Chain) : Option ((List Int) × Int × Int) :=
  (F_ref06_Right cv1).bind fun y8 =>
  if (!y8) = true then
  some ([], 0, 60)
  else
  F_ref06_PutChain_L1 cv1 fuel0 ([]) cv1.f_Proto (IntKind.i64.wrap ((cv1.f_Exts.length : Int) - 1))
def F_ref01_Get_j2 (b1 : List Int) (atv5 : Int) (v21 : Int) (i22 : Int) (rec24 : Int → Int → Option (Int × Int)) (t26 : Bool) : Option (Int × Int) :=
  if t26 = true then
  some (0, 10)
  else
  (gidx b1 (IntKind.i64.wrap (atv5 + i22))).bind fun xv30 =>
  rec24 (IntKind.u64.wrap ((IntKind.u64.wrap (v21 * 256)) + (IntKind.u64.wrap xv30))) (IntKind.i64.wrap (i22 + 1))
def F_ref01_Get_l1 (rec24 : Int → Int → Option (Int × Int)) (b1 : List Int) (atv5 : Int) (size6 : Int) (v21 : Int) (i22 : Int) : Option (Int × Int) :=
  if (decide (i22 < size6)) = true then
  if (decide ((b1.length : Int) < atv5)) = true then
  F_ref01_Get_j2 b1 atv5 v21 i22 rec24 true
  else
  F_ref01_Get_j2 b1 atv5 v21 i22 rec24 (decide ((b1.length : Int) ≤ (IntKind.i64.wrap (atv5 + i22))))
  else
  some (v21, 0)
def F_ref01_Get_L1 (b1 : List Int) (atv5 : Int) (size6 : Int) : Nat → Int → Int → Option (Int × Int)
  | 0 => fun _ _ => none
  | k + 1 => F_ref01_Get_l1 (F_ref01_Get_L1 b1 atv5 size6 k) b1 atv5 size6
def F_ref01_Get_j1 (b1 : List Int) (atv5 : Int) (size6 : Int) (t7 : Bool) : Option (Int × Int) :=
  if t7 = true then
  some (0, 2)
  else
  F_ref01_Get_L1 b1 atv5 size6 fuel0 0 0
def F_ref01_Get (b1 : List Int) (atv5 : Int) (size6 : Int) : Option (Int × Int) :=
  if (decide (size6 < 1)) = true then
  F_ref01_Get_j1 b1 atv5 size6 true
  else
  if (decide (8 < size6)) = true then
  F_ref01_Get_j1 b1 atv5 size6 true
  else
  F_ref01_Get_j1 b1 atv5 size6 (decide (atv5 < 0))
def F_ref06_Frag_j1 (cv1 : T_ref06_Chain) (i65 : Int) (rec67 : Int → Option (Int × Bool × Int × Bool)) (t74 : Bool) : Option (Int × Bool × Int × Bool) :=
  if t74 = true then
  (gidx cv1.f_Exts i65).bind fun xv78 =>
  if (xv78.f_Kind == 44) = true then
  (gidx cv1.f_Exts i65).bind fun xv81 =>
  if (decide (xv81.f_Data.size ≤ lim)) = true then
  (F_ref01_Get (numsOfStr xv81.f_Data) 0 2).bind fun y88 =>
  (F_ref01_Get (numsOfStr xv81.f_Data) 2 4).bind fun y92 =>
  some ((IntKind.u16.wrap (IntKind.u64.wrap (Int.tdiv y88.1 8))), ((Int.tmod y88.1 2) == 1), (IntKind.u32.wrap y92.1), true)
  else none
  else
  rec67 (IntKind.i64.wrap (i65 + 1))
  else
  some (0, false, 0, false)
def F_ref06_Frag_l1 (rec67 : Int → Option (Int × Bool × Int × Bool)) (cv1 : T_ref06_Chain) (i65 : Int) : Option (Int × Bool × Int × Bool) :=
  if (decide (i65 < (cv1.f_Exts.length : Int))) = true then
  (F_ref06_Right cv1).bind fun y69 =>
  F_ref06_Frag_j1 cv1 i65 rec67 y69
  else
  F_ref06_Frag_j1 cv1 i65 rec67 false
def F_ref06_Frag_L1 (cv1 : T_ref06_Chain) : Nat → Int → Option (Int × Bool × Int × Bool)
  | 0 => fun _ => none
  | k + 1 => F_ref06_Frag_l1 (F_ref06_Frag_L1 cv1 k) cv1
def F_ref06_Frag (cv1 : T_ref06_Chain) : Option (Int × Bool × Int × Bool) :=
  F_ref06_Frag_L1 cv1 fuel0 0
def F_bytes_Equal (av1 : List Int) (b5 : List Int) : Option Bool :=
  some ((strOfNums av1).toList == (strOfNums b5).toList)
def F_ipsix_Same_1_j1 (t19 : Bool) : Option Bool :=
  some t19
def F_ipsix_Same_1 (xv1 : T_ipsix_Ext) (y5 : T_ipsix_Ext) : Option Bool :=
  if (xv1.f_Kind == y5.f_Kind) = true then
  (F_bytes_Equal xv1.f_Data y5.f_Data).bind fun y15 =>
  F_ipsix_Same_1_j1 y15
  else
  F_ipsix_Same_1_j1 false
def F_slices_EqualFunc_ipsix_Ext_ipsix_Ext_ipsix_Ext_ipsix_Ext_fipsix_Same_1_l1 (rec76 : Int → Option Bool) (s1 : List T_ipsix_Ext) (s5 : List T_ipsix_Ext) (t74 : Int) : Option Bool :=
  if (decide (t74 < (s1.length : Int))) = true then
  (gidx s1 t74).bind fun xv80 =>
  (gidx s5 t74).bind fun xv94 =>
  (F_ipsix_Same_1 xv80 xv94).bind fun y106 =>
  if (!y106) = true then
  some false
  else
  rec76 (IntKind.i64.wrap (t74 + 1))
  else
  some true
def F_slices_EqualFunc_ipsix_Ext_ipsix_Ext_ipsix_Ext_ipsix_Ext_fipsix_Same_1_L1 (s1 : List T_ipsix_Ext) (s5 : List T_ipsix_Ext) : Nat → Int → Option Bool
  | 0 => fun _ => none
  | k + 1 => F_slices_EqualFunc_ipsix_Ext_ipsix_Ext_ipsix_Ext_ipsix_Ext_fipsix_Same_1_l1 (F_slices_EqualFunc_ipsix_Ext_ipsix_Ext_ipsix_Ext_ipsix_Ext_fipsix_Same_1_L1 s1 s5 k) s1 s5
def F_slices_EqualFunc_ipsix_Ext_ipsix_Ext_ipsix_Ext_ipsix_Ext_fipsix_Same_1 (s1 : List T_ipsix_Ext) (s5 : List T_ipsix_Ext) : Option Bool :=
  if ((s1.length : Int) != (s5.length : Int)) = true then
  some false
  else
  F_slices_EqualFunc_ipsix_Ext_ipsix_Ext_ipsix_Ext_ipsix_Ext_fipsix_Same_1_L1 s1 s5 fuel0 0
def F_ipsix_Same_j1 (t19 : Bool) : Option Bool :=
  some t19
def F_ipsix_Same (av1 : T_ipsix_Chain) (b5 : T_ipsix_Chain) : Option Bool :=
  if (av1.f_Proto == b5.f_Proto) = true then
  (F_slices_EqualFunc_ipsix_Ext_ipsix_Ext_ipsix_Ext_ipsix_Ext_fipsix_Same_1 av1.f_Exts b5.f_Exts).bind fun y15 =>
  F_ipsix_Same_j1 y15
  else
  F_ipsix_Same_j1 false
def F_ref06_Same_l1 (rec34 : Int → Option Bool) (av1 : T_ref06_Chain) (b5 : T_ref06_Chain) (i32 : Int) : Option Bool :=
  if (decide (i32 < (av1.f_Exts.length : Int))) = true then
  (gidx av1.f_Exts i32).bind fun xv38 =>
  (gidx b5.f_Exts i32).bind fun xv41 =>
  if (!(q_ref06_Ext xv38 xv41)) = true then
  some false
  else
  rec34 (IntKind.i64.wrap (i32 + 1))
  else
  some (av1.f_Proto == b5.f_Proto)
def F_ref06_Same_L1 (av1 : T_ref06_Chain) (b5 : T_ref06_Chain) : Nat → Int → Option Bool
  | 0 => fun _ => none
  | k + 1 => F_ref06_Same_l1 (F_ref06_Same_L1 av1 b5 k) av1 b5
def F_ref06_Same (av1 : T_ref06_Chain) (b5 : T_ref06_Chain) : Option Bool :=
  if ((av1.f_Exts.length : Int) != (b5.f_Exts.length : Int)) = true then
  some false
  else
  F_ref06_Same_L1 av1 b5 fuel0 0
def F_law06_IpsixChains_j3 (t299 : Bool) : Option Bool :=
  some t299
def F_law06_IpsixChains_j2 (cv1 : T_ipsix_Chain) (other5 : T_ipsix_Chain) (rv228 : List T_ref06_Ext) (rv229 : Int) (o235 : List T_ref06_Ext) (o236 : Int) : Option Bool :=
  (F_ipsix_PutChain cv1).bind fun y238 =>
  (F_ref06_PutChain (T_ref06_Chain.mk rv228 rv229)).bind fun y245 =>
  (F_ipsix_Frag cv1).bind fun y252 =>
  (F_ref06_Frag (T_ref06_Chain.mk rv228 rv229)).bind fun y256 =>
  if (y238.2.1 == y245.2.1) = true then
  if (y238.2.2 == y245.2.2) = true then
  (F_kit_SameBytes y238.1 y245.1).bind fun y260 =>
  if y260 = true then
  if (y252.1 == y256.1) = true then
  if (y252.2.1 == y256.2.1) = true then
  if (y252.2.2.1 == y256.2.2.1) = true then
  if (y252.2.2.2 == y256.2.2.2) = true then
  (F_ipsix_Right cv1).bind fun y264 =>
  (F_ref06_Right (T_ref06_Chain.mk rv228 rv229)).bind fun y268 =>
  if (y264 == y268) = true then
  (F_ipsix_Same cv1 other5).bind fun y272 =>
  (F_ref06_Same (T_ref06_Chain.mk rv228 rv229) (T_ref06_Chain.mk o235 o236)).bind fun y276 =>
  if (y272 == y276) = true then
  (F_ipsix_Same cv1 cv1).bind fun y280 =>
  if y280 = true then
  (F_docs_Chain cv1).bind fun y284 =>
  (F_ref06_Same y284 (T_ref06_Chain.mk rv228 rv229)).bind fun y291 =>
  if y291 = true then
  (F_law06_works).bind fun y295 =>
  F_law06_IpsixChains_j3 y295
  else
  F_law06_IpsixChains_j3 false
  else
  F_law06_IpsixChains_j3 false
  else
  F_law06_IpsixChains_j3 false
  else
  F_law06_IpsixChains_j3 false
  else
  F_law06_IpsixChains_j3 false
  else
  F_law06_IpsixChains_j3 false
  else
  F_law06_IpsixChains_j3 false
  else
  F_law06_IpsixChains_j3 false
  else
  F_law06_IpsixChains_j3 false
  else
  F_law06_IpsixChains_j3 false
  else
  F_law06_IpsixChains_j3 false
def F_law06_IpsixChains_j1 (cv1 : T_ipsix_Chain) (other5 : T_ipsix_Chain) (t25 : Bool) : Option Bool :=
  if t25 = true then
  (F_law06_works).bind fun y27 =>
  some y27
  else
  (F_docs_Chain cv1).bind fun y31 =>
  (F_docs_Chain other5).bind fun y38 =>
  F_law06_IpsixChains_j2 cv1 other5 y31.f_Exts y31.f_Proto y38.f_Exts y38.f_Proto
def F_law06_IpsixChains (cv1 : T_ipsix_Chain) (other5 : T_ipsix_Chain) : Option Bool :=
  (F_law06_few cv1).bind fun y15 =>
  if (!y15) = true then
  F_law06_IpsixChains_j1 cv1 other5 true
  else
  (F_law06_few other5).bind fun y19 =>
  F_law06_IpsixChains_j1 cv1 other5 (!y19)
def F_kit_Own (b1 : List Int) : Option ((List Int)) :=
  if (decide (b1.length ≤ lim)) = true then
  some b1
  else none
def F_ref06_ParseChain_j4 (b2 : List Int) (first149 : Int) (out155 : List T_ref06_Ext) (atv156 : Int) (rec159 : Int → (List T_ref06_Ext) → Int → Bool → Option (T_ref06_Chain × Int × Int)) (nv185 : Int) (cut189 : List Int) (t211 : Bool) : Option (T_ref06_Chain × Int × Int) :=
  if t211 = true then
  some ((T_ref06_Chain.mk ([]) 0), 0, 60)
  else
  if (decide (out155.length + ([(T_ref06_Ext.mk first149 (strOfNums cut189))]).length ≤ lim)) = true then
  (F_ref06_later (T_ref06_Ext.mk first149 (strOfNums cut189))).bind fun y224 =>
  (gidx b2 atv156).bind fun xv230 =>
  rec159 xv230 (out155 ++ [(T_ref06_Ext.mk first149 (strOfNums cut189))]) (IntKind.i64.wrap (atv156 + nv185)) y224
  else none
def F_ref06_ParseChain_j3 (b2 : List Int) (first149 : Int) (out155 : List T_ref06_Ext) (atv156 : Int) (rec159 : Int → (List T_ref06_Ext) → Int → Bool → Option (T_ref06_Chain × Int × Int)) (nv185 : Int) : Option (T_ref06_Chain × Int × Int) :=
  if (decide ((b2.length : Int) < (IntKind.i64.wrap (atv156 + nv185)))) = true then
  some ((T_ref06_Chain.mk ([]) 0), 0, 10)
  else
  (gcut b2 (IntKind.i64.wrap (atv156 + 2)) (IntKind.i64.wrap (atv156 + nv185))).bind fun cut189 =>
  if (first149 == 44) = true then
  (gidx b2 (IntKind.i64.wrap (atv156 + 1))).bind fun xv202 =>
  if (xv202 != 0) = true then
  F_ref06_ParseChain_j4 b2 first149 out155 atv156 rec159 nv185 cut189 true
  else
  (F_ref06_rightExt (T_ref06_Ext.mk first149 (strOfNums cut189))).bind fun y203 =>
  F_ref06_ParseChain_j4 b2 first149 out155 atv156 rec159 nv185 cut189 (!y203)
  else
  F_ref06_ParseChain_j4 b2 first149 out155 atv156 rec159 nv185 cut189 false
def F_ref06_ParseChain_j2 (b2 : List Int) (first149 : Int) (out155 : List T_ref06_Ext) (atv156 : Int) (rec159 : Int → (List T_ref06_Ext) → Int → Bool → Option (T_ref06_Chain × Int × Int)) (t173 : Bool) : Option (T_ref06_Chain × Int × Int) :=
  if t173 = true then
  some ((T_ref06_Chain.mk ([]) 0), 0, 60)
  else
  if (decide ((b2.length : Int) < (IntKind.i64.wrap (atv156 + 2)))) = true then
  some ((T_ref06_Chain.mk ([]) 0), 0, 10)
  else
  (gidx b2 (IntKind.i64.wrap (atv156 + 1))).bind fun xv181 =>
  if (first149 == 44) = true then
  F_ref06_ParseChain_j3 b2 first149 out155 atv156 rec159 8
  else
  F_ref06_ParseChain_j3 b2 first149 out155 atv156 rec159 (IntKind.i64.wrap (8 * (IntKind.i64.wrap ((IntKind.i64.wrap xv181) + 1))))
def F_ref06_ParseChain_j1 (b2 : List Int) (first149 : Int) (out155 : List T_ref06_Ext) (atv156 : Int) (rec159 : Int → (List T_ref06_Ext) → Int → Bool → Option (T_ref06_Chain × Int × Int)) (t168 : Bool) : Option (T_ref06_Chain × Int × Int) :=
  if t168 = true then
  if ((out155.length : Int) == 16) = true then
  F_ref06_ParseChain_j2 b2 first149 out155 atv156 rec159 true
  else
  if (first149 == 0) = true then
  F_ref06_ParseChain_j2 b2 first149 out155 atv156 rec159 (decide (0 < (out155.length : Int)))
  else
  F_ref06_ParseChain_j2 b2 first149 out155 atv156 rec159 false
  else
  some ((T_ref06_Chain.mk out155 first149), atv156, 0)
def F_ref06_ParseChain_l1 (rec159 : Int → (List T_ref06_Ext) → Int → Bool → Option (T_ref06_Chain × Int × Int)) (b2 : List Int) (first149 : Int) (out155 : List T_ref06_Ext) (atv156 : Int) (stop157 : Bool) : Option (T_ref06_Chain × Int × Int) :=
  (F_ref06_kind first149).bind fun y161 =>
  if y161 = true then
  F_ref06_ParseChain_j1 b2 first149 out155 atv156 rec159 (!stop157)
  else
  F_ref06_ParseChain_j1 b2 first149 out155 atv156 rec159 false
def F_ref06_ParseChain_L1 (b2 : List Int) : Nat → Int → (List T_ref06_Ext) → Int → Bool → Option (T_ref06_Chain × Int × Int)
  | 0 => fun _ _ _ _ => none
  | k + 1 => F_ref06_ParseChain_l1 (F_ref06_ParseChain_L1 b2 k) b2
def F_ref06_ParseChain (first1 : Int) (b2 : List Int) : Option (T_ref06_Chain × Int × Int) :=
  F_ref06_ParseChain_L1 b2 fuel0 first1 ([]) 0 false
def F_ipsix_Parse (b1 : List Int) : Option (T_ipsix_Header × Int) :=
  if (decide ((b1.length : Int) < 40)) = true then
  some ((T_ipsix_Header.mk 0 0 0 0 0 (List.replicate 16 0) (List.replicate 16 0)), 10)
  else
  (F_bits_Get b1 0 4).bind fun y10 =>
  (F_bits_Get b1 4 2).bind fun y14 =>
  if ((Ox.shr .u64 y10.1 28) != 6) = true then
  some ((T_ipsix_Header.mk 0 0 0 0 0 (List.replicate 16 0) (List.replicate 16 0)), 50)
  else
  (gidx b1 6).bind fun xv22 =>
  (gidx b1 7).bind fun xv25 =>
  (gcut b1 8 24).bind fun cut26 =>
  if (decide (16 ≤ cut26.length)) = true then
  (gcut b1 24 40).bind fun cut34 =>
  if (decide (16 ≤ cut34.length)) = true then
  some ((T_ipsix_Header.mk (IntKind.u8.wrap (Ox.shr .u64 y10.1 20)) (IntKind.u32.wrap (bits .and .u64 y10.1 1048575)) (IntKind.u16.wrap y14.1) xv22 xv25 (arrL 16 cut26) (arrL 16 cut34)), 0)
  else none
  else none
def F_ipsix_Body_j2 (y11 : T_ipsix_Header × Int) (cv77 : Int) (t120 : List T_ipsix_Ext) (t124 : List Int) : Option (T_ipsix_Header × T_ipsix_Chain × (List Int) × Int) :=
  some (y11.1, (T_ipsix_Chain.mk t120 cv77), t124, 0)
def F_ipsix_Body_j1 (b1 : List Int) (y11 : T_ipsix_Header × Int) (ev67 : Int) (cv76 : List T_ipsix_Ext) (cv77 : Int) (nv78 : Int) : Option (T_ipsix_Header × T_ipsix_Chain × (List Int) × Int) :=
  if (ev67 != 0) = true then
  some ((T_ipsix_Header.mk 0 0 0 0 0 (List.replicate 16 0) (List.replicate 16 0)), (T_ipsix_Chain.mk ([]) 0), [], ev67)
  else
  (gcut b1 (IntKind.i64.wrap (40 + nv78)) (IntKind.i64.wrap (40 + (IntKind.i64.wrap y11.1.f_Length)))).bind fun cut85 =>
  (F_bytes_Clone cut85).bind fun y92 =>
  F_ipsix_Body_j2 y11 cv77 cv76 y92
def F_ipsix_Body (b1 : List Int) : Option (T_ipsix_Header × T_ipsix_Chain × (List Int) × Int) :=
  (F_ipsix_Parse b1).bind fun y11 =>
  if (y11.2 != 0) = true then
  some ((T_ipsix_Header.mk 0 0 0 0 0 (List.replicate 16 0) (List.replicate 16 0)), (T_ipsix_Chain.mk ([]) 0), [], y11.2)
  else
  if (decide ((b1.length : Int) < (IntKind.i64.wrap (40 + (IntKind.i64.wrap y11.1.f_Length))))) = true then
  some ((T_ipsix_Header.mk 0 0 0 0 0 (List.replicate 16 0) (List.replicate 16 0)), (T_ipsix_Chain.mk ([]) 0), [], 10)
  else
  (gcut b1 40 (IntKind.i64.wrap (40 + (IntKind.i64.wrap y11.1.f_Length)))).bind fun cut29 =>
  (F_ipsix_ParseChain y11.1.f_Next cut29).bind fun y36 =>
  F_ipsix_Body_j1 b1 y11 y36.2.2 y36.1.f_Exts y36.1.f_Proto y36.2.1
def F_ref06_Parse (b1 : List Int) : Option (T_ref06_Header × Int) :=
  if (decide ((b1.length : Int) < 40)) = true then
  some ((T_ref06_Header.mk 0 0 0 0 0 ByteArray.empty ByteArray.empty), 10)
  else
  (F_ref01_Get b1 0 4).bind fun y10 =>
  if ((IntKind.u64.wrap (Int.tdiv y10.1 268435456)) != 6) = true then
  some ((T_ref06_Header.mk 0 0 0 0 0 ByteArray.empty ByteArray.empty), 50)
  else
  (F_ref01_Get b1 4 2).bind fun y16 =>
  (gidx b1 6).bind fun xv22 =>
  (gidx b1 7).bind fun xv25 =>
  (gcut b1 8 24).bind fun cut26 =>
  (gcut b1 24 40).bind fun cut33 =>
  some ((T_ref06_Header.mk (IntKind.u8.wrap (Int.tmod (IntKind.u64.wrap (Int.tdiv y10.1 1048576)) 256)) (IntKind.u32.wrap (Int.tmod y10.1 1048576)) (IntKind.u16.wrap y16.1) xv22 xv25 (strOfNums cut26) (strOfNums cut33)), 0)
def F_docs_Ipsix (h1 : T_ipsix_Header) : Option T_ref06_Header :=
  some (T_ref06_Header.mk h1.f_Class h1.f_Flow h1.f_Length h1.f_Next h1.f_Hops (strOfNums (arrL 16 h1.f_Src)) (strOfNums (arrL 16 h1.f_Dst)))
def F_bits_Least_l1 (rec7 : Int → Int → Option Int) (v4 : Int) (nv5 : Int) : Option Int :=
  if (decide (0 < v4)) = true then
  rec7 (Ox.shr .u64 v4 8) (IntKind.i64.wrap (nv5 + 1))
  else
  some nv5
def F_bits_Least_L1 : Nat → Int → Int → Option Int
  | 0 => fun _ _ => none
  | k + 1 => F_bits_Least_l1 (F_bits_Least_L1 k)
def F_bits_Least (v1 : Int) : Option Int :=
  F_bits_Least_L1 fuel0 (Ox.shr .u64 v1 8) 1
def F_bits_fits_j1 (t11 : Bool) : Option Bool :=
  some t11
def F_bits_fits (v1 : Int) (size2 : Int) : Option Bool :=
  (F_bits_right size2).bind fun y3 =>
  if y3 = true then
  (F_bits_Least v1).bind fun y7 =>
  F_bits_fits_j1 (decide (y7 ≤ size2))
  else
  F_bits_fits_j1 false
def F_bits_of_l1 (rec30 : (List Int) → Int → Option ((List Int))) (v1 : Int) (size2 : Int) (b27 : List Int) (t28 : Int) : Option ((List Int)) :=
  if (decide (t28 < size2)) = true then
  if (decide (¬ (IntKind.i64.wrap (8 * t28)) < 0)) = true then
  (gidx b27 (IntKind.i64.wrap ((IntKind.i64.wrap (size2 - 1)) - t28))).bind fun xv35 =>
  rec30 (b27.set ((IntKind.i64.wrap ((IntKind.i64.wrap (size2 - 1)) - t28))).toNat (IntKind.u8.wrap (Ox.shr .u64 v1 (IntKind.i64.wrap (8 * t28))))) (IntKind.i64.wrap (t28 + 1))
  else none
  else
  some b27
def F_bits_of_L1 (v1 : Int) (size2 : Int) : Nat → (List Int) → Int → Option ((List Int))
  | 0 => fun _ _ => none
  | k + 1 => F_bits_of_l1 (F_bits_of_L1 v1 size2 k) v1 size2
def F_bits_of (v1 : Int) (size2 : Int) : Option ((List Int)) :=
  if (decide (0 ≤ size2 ∧ size2 ≤ lim)) = true then
  F_bits_of_L1 v1 size2 fuel0 (List.replicate (Int.toNat size2) 0) 0
  else none
def F_bits_Writer_Raw (wv1 : T_bits_Writer) (b7 : List Int) : Option (Int × T_bits_Writer) :=
  if (decide (wv1.f_b.length + b7.length ≤ lim)) = true then
  some (0, (T_bits_Writer.mk (wv1.f_b ++ b7)))
  else none
def F_bits_Writer_Put (wv1 : T_bits_Writer) (v7 : Int) (size8 : Int) : Option (Int × T_bits_Writer) :=
  (F_bits_fits v7 size8).bind fun y10 =>
  if (!y10) = true then
  some (2, wv1)
  else
  (F_bits_of v7 size8).bind fun y14 =>
  (F_bits_Writer_Raw wv1 y14).bind fun y21 =>
  some (y21.1, y21.2)
def F_slices_Clone_byte_byte (s1 : List Int) : Option ((List Int)) :=
  if (decide (([] : List Int).length + s1.length ≤ lim)) = true then
  some (([] : List Int) ++ s1)
  else none
def F_bits_Writer_Bytes (wv1 : T_bits_Writer) : Option ((List Int) × T_bits_Writer) :=
  (F_slices_Clone_byte_byte wv1.f_b).bind fun y8 =>
  some (y8, wv1)
def F_ipsix_Put (h1 : T_ipsix_Header) : Option ((List Int) × Int) :=
  if (decide (1048576 ≤ h1.f_Flow)) = true then
  some ([], 51)
  else
  (F_bits_Writer_Put (T_bits_Writer.mk ([] : List Int)) (bits .or .u64 (bits .or .u64 1610612736 (Ox.shl .u64 (IntKind.u64.wrap h1.f_Class) 20)) (IntKind.u64.wrap h1.f_Flow)) 4).bind fun y9 =>
  (F_bits_Writer_Put y9.2 (IntKind.u64.wrap h1.f_Length) 2).bind fun y16 =>
  (F_bits_Writer_Raw y16.2 ([h1.f_Next, h1.f_Hops])).bind fun y26 =>
  (F_bits_Writer_Raw y26.2 (arrL 16 h1.f_Src)).bind fun y34 =>
  (F_bits_Writer_Raw y34.2 (arrL 16 h1.f_Dst)).bind fun y42 =>
  (F_bits_Writer_Bytes y42.2).bind fun y49 =>
  some (y49.1, 0)
def F_ref01_Put_B (recF : Int → Int → Option ((List Int))) (v1 : Int) (size2 : Int) : Option ((List Int)) :=
  if (size2 == 0) = true then
  some ([])
  else
  (recF (IntKind.u64.wrap (Int.tdiv v1 256)) (IntKind.i64.wrap (size2 - 1))).bind fun y3 =>
  if (decide (y3.length + ([(IntKind.u8.wrap (Int.tmod v1 256))]).length ≤ lim)) = true then
  some (y3 ++ [(IntKind.u8.wrap (Int.tmod v1 256))])
  else none
def F_ref01_Put_R : Nat → Int → Int → Option ((List Int))
  | 0 => fun _ _ => none
  | k + 1 => F_ref01_Put_B (F_ref01_Put_R k)
def F_ref01_Put (v1 : Int) (size2 : Int) : Option ((List Int)) := F_ref01_Put_R fuel0 v1 size2
def F_ref06_Put (h1 : T_ref06_Header) : Option ((List Int) × Int) :=
  if (decide (1048576 ≤ h1.f_Flow)) = true then
  some ([], 51)
  else
  (F_ref01_Put (IntKind.u64.wrap ((IntKind.u64.wrap (1610612736 + (IntKind.u64.wrap ((IntKind.u64.wrap h1.f_Class) * 1048576)))) + (IntKind.u64.wrap h1.f_Flow))) 4).bind fun y5 =>
  (F_ref01_Put (IntKind.u64.wrap h1.f_Length) 2).bind fun y12 =>
  if (decide (y5.length + y12.length ≤ lim)) = true then
  if (decide ((y5 ++ y12).length + ([h1.f_Next, h1.f_Hops]).length ≤ lim)) = true then
  if (decide (h1.f_Src.size ≤ lim)) = true then
  if (decide (((y5 ++ y12) ++ [h1.f_Next, h1.f_Hops]).length + (numsOfStr h1.f_Src).length ≤ lim)) = true then
  if (decide (h1.f_Dst.size ≤ lim)) = true then
  if (decide ((((y5 ++ y12) ++ [h1.f_Next, h1.f_Hops]) ++ (numsOfStr h1.f_Src)).length + (numsOfStr h1.f_Dst).length ≤ lim)) = true then
  some (((((y5 ++ y12) ++ [h1.f_Next, h1.f_Hops]) ++ (numsOfStr h1.f_Src)) ++ (numsOfStr h1.f_Dst)), 0)
  else none
  else none
  else none
  else none
  else none
  else none
def F_docs_NoIpsix (h1 : T_ref06_Header) : Option T_ref06_Header :=
  if (h1.f_Src.toList == (⟨#[]⟩ : ByteArray).toList) = true then
  (F_docs_Ipsix (T_ipsix_Header.mk 0 0 0 0 0 (List.replicate 16 0) (List.replicate 16 0))).bind fun y8 =>
  some y8
  else
  some h1
def F_law06_IpsixHeads_j2 (t91 : Bool) : Option Bool :=
  some t91
def F_law06_IpsixHeads_j1 (h1 : T_ipsix_Header) (b2 : List Int) (y21 : (List Int) × Int) (t72 : Bool) : Option Bool :=
  if t72 = true then
  some false
  else
  if (y21.2 == 0) = true then
  if (decide (y21.1.length + b2.length ≤ lim)) = true then
  (F_ipsix_Parse (y21.1 ++ b2)).bind fun y79 =>
  if (y79.2 == 0) = true then
  if (q_ipsix_Header y79.1 h1) = true then
  (F_law06_works).bind fun y87 =>
  F_law06_IpsixHeads_j2 y87
  else
  F_law06_IpsixHeads_j2 false
  else
  F_law06_IpsixHeads_j2 false
  else none
  else
  (F_law06_works).bind fun y93 =>
  some y93
def F_law06_IpsixHeads (h1 : T_ipsix_Header) (b2 : List Int) : Option Bool :=
  if (decide (100 < (b2.length : Int))) = true then
  (F_law06_works).bind fun y9 =>
  some y9
  else
  (F_docs_Ipsix h1).bind fun y13 =>
  (F_ipsix_Put h1).bind fun y21 =>
  (F_ref06_Put y13).bind fun y28 =>
  (F_ipsix_Parse b2).bind fun y35 =>
  (F_kit_Own b2).bind fun y43 =>
  (F_ref06_Parse y43).bind fun y50 =>
  if (y21.2 != y28.2) = true then
  F_law06_IpsixHeads_j1 h1 b2 y21 true
  else
  (F_kit_SameBytes y21.1 y28.1).bind fun y58 =>
  if (!y58) = true then
  F_law06_IpsixHeads_j1 h1 b2 y21 true
  else
  if (y35.2 != y50.2) = true then
  F_law06_IpsixHeads_j1 h1 b2 y21 true
  else
  (F_docs_Ipsix y35.1).bind fun y62 =>
  (F_docs_NoIpsix y50.1).bind fun y66 =>
  F_law06_IpsixHeads_j1 h1 b2 y21 (!(q_ref06_Header y62 y66))
def F_law06_IpsixBack_j3 (t153 : Bool) : Option Bool :=
  some t153
def F_law06_IpsixBack_j4 (t181 : Bool) : Option Bool :=
  some t181
def F_law06_IpsixBack_j2 (first10 : Int) (b11 : List Int) : Option Bool :=
  (F_ipsix_ParseChain first10 b11).bind fun y135 =>
  if (y135.2.2 != 0) = true then
  if (y135.2.1 == 0) = true then
  if ((y135.1.f_Exts.length : Int) == 0) = true then
  (F_law06_works).bind fun y149 =>
  F_law06_IpsixBack_j3 y149
  else
  F_law06_IpsixBack_j3 false
  else
  F_law06_IpsixBack_j3 false
  else
  (F_ipsix_PutChain y135.1).bind fun y155 =>
  (F_ipsix_Right y135.1).bind fun y162 =>
  if y162 = true then
  if (y155.2.2 == 0) = true then
  if (y155.2.1 == first10) = true then
  if (decide (y135.2.1 ≤ (b11.length : Int))) = true then
  (gcut b11 0 y135.2.1).bind fun cut166 =>
  (F_kit_SameBytes y155.1 cut166).bind fun y173 =>
  if y173 = true then
  (F_law06_works).bind fun y177 =>
  F_law06_IpsixBack_j4 y177
  else
  F_law06_IpsixBack_j4 false
  else
  F_law06_IpsixBack_j4 false
  else
  F_law06_IpsixBack_j4 false
  else
  F_law06_IpsixBack_j4 false
  else
  F_law06_IpsixBack_j4 false
def F_law06_IpsixBack_j6 (first10 : Int) (b11 : List Int) (t132 : Bool) : Option Bool :=
  if t132 = true then
  some false
  else
  F_law06_IpsixBack_j2 first10 b11
def F_law06_IpsixBack_j5 (h1 : T_ipsix_Header) (cv2 : T_ipsix_Chain) (behind6 : List Int) (first10 : Int) (b11 : List Int) (y33 : (List Int) × Int × Int) (t73 : Bool) : Option Bool :=
  if t73 = true then
  some false
  else
  (F_ipsix_Put (T_ipsix_Header.mk h1.f_Class (Int.tmod h1.f_Flow 1048576) (IntKind.u16.wrap (gmin 65535 (IntKind.i64.wrap ((y33.1.length : Int) + (behind6.length : Int))))) y33.2.1 h1.f_Hops h1.f_Src h1.f_Dst)).bind fun y78 =>
  if (decide (y78.1.length + y33.1.length ≤ lim)) = true then
  if (decide ((y78.1 ++ y33.1).length + behind6.length ≤ lim)) = true then
  if (decide (((y78.1 ++ y33.1) ++ behind6).length + ([1, 2, 3]).length ≤ lim)) = true then
  (F_ipsix_Body (((y78.1 ++ y33.1) ++ behind6) ++ [1, 2, 3])).bind fun y103 =>
  if (y78.2 != 0) = true then
  F_law06_IpsixBack_j6 first10 b11 true
  else
  if (decide ((y33.1.length : Int) ≤ 60000)) = true then
  if (y103.2.2.2 != 0) = true then
  F_law06_IpsixBack_j6 first10 b11 true
  else
  if (!(q_ipsix_Header y103.1 (T_ipsix_Header.mk h1.f_Class (Int.tmod h1.f_Flow 1048576) (IntKind.u16.wrap (gmin 65535 (IntKind.i64.wrap ((y33.1.length : Int) + (behind6.length : Int))))) y33.2.1 h1.f_Hops h1.f_Src h1.f_Dst))) = true then
  F_law06_IpsixBack_j6 first10 b11 true
  else
  (F_ipsix_Same y103.2.1 cv2).bind fun y124 =>
  if (!y124) = true then
  F_law06_IpsixBack_j6 first10 b11 true
  else
  (F_kit_SameBytes y103.2.2.1 behind6).bind fun y128 =>
  F_law06_IpsixBack_j6 first10 b11 (!y128)
  else
  F_law06_IpsixBack_j6 first10 b11 false
  else none
  else none
  else none
def F_law06_IpsixBack_j1 (h1 : T_ipsix_Header) (cv2 : T_ipsix_Chain) (behind6 : List Int) (first10 : Int) (b11 : List Int) (t27 : Bool) : Option Bool :=
  if t27 = true then
  (F_law06_works).bind fun y29 =>
  some y29
  else
  (F_ipsix_PutChain cv2).bind fun y33 =>
  if (y33.2.2 == 0) = true then
  (F_kit_Own y33.1).bind fun y40 =>
  if (decide (y40.length + behind6.length ≤ lim)) = true then
  (F_ipsix_ParseChain y33.2.1 (y40 ++ behind6)).bind fun y52 =>
  if (y52.2.2 != 0) = true then
  F_law06_IpsixBack_j5 h1 cv2 behind6 first10 b11 y33 true
  else
  if (y52.2.1 != (y33.1.length : Int)) = true then
  F_law06_IpsixBack_j5 h1 cv2 behind6 first10 b11 y33 true
  else
  (F_ipsix_Same y52.1 cv2).bind fun y66 =>
  F_law06_IpsixBack_j5 h1 cv2 behind6 first10 b11 y33 (!y66)
  else none
  else
  F_law06_IpsixBack_j2 first10 b11
def F_law06_IpsixBack (h1 : T_ipsix_Header) (cv2 : T_ipsix_Chain) (behind6 : List Int) (first10 : Int) (b11 : List Int) : Option Bool :=
  (F_law06_few cv2).bind fun y21 =>
  if (!y21) = true then
  F_law06_IpsixBack_j1 h1 cv2 behind6 first10 b11 true
  else
  if (decide (200 < (behind6.length : Int))) = true then
  F_law06_IpsixBack_j1 h1 cv2 behind6 first10 b11 true
  else
  F_law06_IpsixBack_j1 h1 cv2 behind6 first10 b11 (decide (3000 < (b11.length : Int)))
end Go.Proofs.Ytikjomacnbemhaa
