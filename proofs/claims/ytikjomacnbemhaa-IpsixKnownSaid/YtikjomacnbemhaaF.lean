/- Plain functions, printed by a program of this claim: what each Go function computes, where it returns. -/
import Derived.Test.YtikjomacnbemhaaOxV
set_option linter.unusedVariables false
namespace Go.Proofs.Ytikjomacnbemhaa
open Go Go.Ox
structure T_ipsix_Ext where
  f_Kind : Int
  f_Data : List Int
structure T_ipsix_Chain where
  f_Exts : List T_ipsix_Ext
  f_Proto : Int
structure T_ipsix_reader where
  f_Chain : T_ipsix_Chain
  f_b : List Int
  f_at : Int
structure T_ref06_Ext where
  f_Kind : Int
  f_Data : ByteArray
def e_ref06_Ext (x : T_ref06_Ext) : List Value := [.int .u8 x.f_Kind, .string x.f_Data]
structure T_ref06_Chain where
  f_Exts : List T_ref06_Ext
  f_Proto : Int
structure T_ipsix_Header where
  f_Class : Int
  f_Flow : Int
  f_Length : Int
  f_Next : Int
  f_Hops : Int
  f_Src : List Int
  f_Dst : List Int
def e_ipsix_Header (x : T_ipsix_Header) : List Value := [.int .u8 x.f_Class, .int .u32 x.f_Flow, .int .u16 x.f_Length, .int .u8 x.f_Next, .int .u8 x.f_Hops, .int .u8 (List.getD x.f_Src 0 0), .int .u8 (List.getD x.f_Src 1 0), .int .u8 (List.getD x.f_Src 2 0), .int .u8 (List.getD x.f_Src 3 0), .int .u8 (List.getD x.f_Src 4 0), .int .u8 (List.getD x.f_Src 5 0), .int .u8 (List.getD x.f_Src 6 0), .int .u8 (List.getD x.f_Src 7 0), .int .u8 (List.getD x.f_Src 8 0), .int .u8 (List.getD x.f_Src 9 0), .int .u8 (List.getD x.f_Src 10 0), .int .u8 (List.getD x.f_Src 11 0), .int .u8 (List.getD x.f_Src 12 0), .int .u8 (List.getD x.f_Src 13 0), .int .u8 (List.getD x.f_Src 14 0), .int .u8 (List.getD x.f_Src 15 0), .int .u8 (List.getD x.f_Dst 0 0), .int .u8 (List.getD x.f_Dst 1 0), .int .u8 (List.getD x.f_Dst 2 0), .int .u8 (List.getD x.f_Dst 3 0), .int .u8 (List.getD x.f_Dst 4 0), .int .u8 (List.getD x.f_Dst 5 0), .int .u8 (List.getD x.f_Dst 6 0), .int .u8 (List.getD x.f_Dst 7 0), .int .u8 (List.getD x.f_Dst 8 0), .int .u8 (List.getD x.f_Dst 9 0), .int .u8 (List.getD x.f_Dst 10 0), .int .u8 (List.getD x.f_Dst 11 0), .int .u8 (List.getD x.f_Dst 12 0), .int .u8 (List.getD x.f_Dst 13 0), .int .u8 (List.getD x.f_Dst 14 0), .int .u8 (List.getD x.f_Dst 15 0)]
structure T_ref06_Header where
  f_Class : Int
  f_Flow : Int
  f_Length : Int
  f_Next : Int
  f_Hops : Int
  f_Src : ByteArray
  f_Dst : ByteArray
def e_ref06_Header (x : T_ref06_Header) : List Value := [.int .u8 x.f_Class, .int .u32 x.f_Flow, .int .u16 x.f_Length, .int .u8 x.f_Next, .int .u8 x.f_Hops, .string x.f_Src, .string x.f_Dst]
structure T_bits_Writer where
  f_b : List Int
def q_ref06_Ext (x y : T_ref06_Ext) : Bool := ((x.f_Kind == y.f_Kind) && ((x.f_Data.toList == y.f_Data.toList) && true))
def q_ref06_Header (x y : T_ref06_Header) : Bool := ((x.f_Class == y.f_Class) && ((x.f_Flow == y.f_Flow) && ((x.f_Length == y.f_Length) && ((x.f_Next == y.f_Next) && ((x.f_Hops == y.f_Hops) && ((x.f_Src.toList == y.f_Src.toList) && ((x.f_Dst.toList == y.f_Dst.toList) && true)))))))
def q_ipsix_Header (x y : T_ipsix_Header) : Bool := ((x.f_Class == y.f_Class) && ((x.f_Flow == y.f_Flow) && ((x.f_Length == y.f_Length) && ((x.f_Next == y.f_Next) && ((x.f_Hops == y.f_Hops) && ((arrEq 16 x.f_Src y.f_Src) && ((arrEq 16 x.f_Dst y.f_Dst) && true)))))))
def F_law06_few_j1 (cv1 : T_ipsix_Chain) (i37 : Int) (rec39 : Int → Option Bool) (t42 : Bool) : Option Bool :=
  if t42 = true then
  (gidx cv1.f_Exts i37).bind fun xv46 =>
  if (decide (2060 < (xv46.f_Data.length : Int))) = true then
  some false
  else
  rec39 (IntKind.i64.wrap (i37 + 1))
  else
  some (decide ((cv1.f_Exts.length : Int) ≤ 20))
def F_law06_few_l1 (rec39 : Int → Option Bool) (cv1 : T_ipsix_Chain) (i37 : Int) : Option Bool :=
  if (decide (i37 < (cv1.f_Exts.length : Int))) = true then
  F_law06_few_j1 cv1 i37 rec39 (decide (i37 < 21))
  else
  F_law06_few_j1 cv1 i37 rec39 false
def F_law06_few_L1 (cv1 : T_ipsix_Chain) : Nat → Int → Option Bool
  | 0 => fun _ => none
  | k + 1 => F_law06_few_l1 (F_law06_few_L1 cv1 k) cv1
def F_law06_few (cv1 : T_ipsix_Chain) : Option Bool :=
  F_law06_few_L1 cv1 fuel0 0
def F_ipsix_behind_j1 (t2 : Bool) : Option Bool :=
  if t2 = true then
  some true
  else
  some false
def F_ipsix_behind (kind1 : Int) : Option Bool :=
  if (kind1 == 0) = true then
  F_ipsix_behind_j1 (kind1 == 0)
  else
  if (kind1 == 43) = true then
  F_ipsix_behind_j1 (kind1 == 43)
  else
  if (kind1 == 44) = true then
  F_ipsix_behind_j1 (kind1 == 44)
  else
  F_ipsix_behind_j1 (kind1 == 60)
def F_bits_right_j1 (t2 : Bool) : Option Bool :=
  some t2
def F_bits_right (size1 : Int) : Option Bool :=
  if (decide (1 ≤ size1)) = true then
  F_bits_right_j1 (decide (size1 ≤ 8))
  else
  F_bits_right_j1 false
def F_bits_value_l1 (rec16 : Int → Int → Option Int) (b1 : List Int) (v13 : Int) (t14 : Int) : Option Int :=
  if (decide (t14 < (b1.length : Int))) = true then
  (gidx b1 t14).bind fun xv20 =>
  rec16 (bits .or .u64 (Ox.shl .u64 v13 8) (IntKind.u64.wrap xv20)) (IntKind.i64.wrap (t14 + 1))
  else
  some v13
def F_bits_value_L1 (b1 : List Int) : Nat → Int → Int → Option Int
  | 0 => fun _ _ => none
  | k + 1 => F_bits_value_l1 (F_bits_value_L1 b1 k) b1
def F_bits_value (b1 : List Int) : Option Int :=
  F_bits_value_L1 b1 fuel0 0 0
def F_bits_Get_j2 (b1 : List Int) (atv5 : Int) (size6 : Int) (t13 : Bool) : Option (Int × Int) :=
  if t13 = true then
  some (0, 10)
  else
  (gcut b1 atv5 (IntKind.i64.wrap (atv5 + size6))).bind fun cut15 =>
  (F_bits_value cut15).bind fun y22 =>
  some (y22, 0)
def F_bits_Get_j1 (b1 : List Int) (atv5 : Int) (size6 : Int) (t11 : Bool) : Option (Int × Int) :=
  if t11 = true then
  some (0, 2)
  else
  if (decide ((b1.length : Int) < atv5)) = true then
  F_bits_Get_j2 b1 atv5 size6 true
  else
  F_bits_Get_j2 b1 atv5 size6 (decide ((IntKind.i64.wrap ((b1.length : Int) - atv5)) < size6))
def F_bits_Get (b1 : List Int) (atv5 : Int) (size6 : Int) : Option (Int × Int) :=
  (F_bits_right size6).bind fun y7 =>
  if (!y7) = true then
  F_bits_Get_j1 b1 atv5 size6 true
  else
  F_bits_Get_j1 b1 atv5 size6 (decide (atv5 < 0))
def F_ipsix_Ext_says (xv1 : T_ipsix_Ext) : Option (Int × Int × Bool) :=
  (F_bits_Get xv1.f_Data 0 2).bind fun y8 =>
  some ((IntKind.u16.wrap (Ox.shr .u64 y8.1 3)), (IntKind.u8.wrap (bits .and .u64 (Ox.shr .u64 y8.1 1) 3)), ((bits .and .u64 y8.1 1) == 1))
def F_ipsix_Ext_right_j1 (t12 : Bool) : Option Bool :=
  some t12
def F_ipsix_Ext_right_j2 (t18 : Bool) : Option Bool :=
  some t18
def F_ipsix_Ext_right (xv1 : T_ipsix_Ext) : Option Bool :=
  if (xv1.f_Kind != 44) = true then
  (F_ipsix_behind xv1.f_Kind).bind fun y8 =>
  if y8 = true then
  if ((Int.tmod (xv1.f_Data.length : Int) 8) == 6) = true then
  F_ipsix_Ext_right_j1 (decide ((xv1.f_Data.length : Int) ≤ 2046))
  else
  F_ipsix_Ext_right_j1 false
  else
  F_ipsix_Ext_right_j1 false
  else
  (F_ipsix_Ext_says xv1).bind fun y14 =>
  if ((xv1.f_Data.length : Int) == 6) = true then
  F_ipsix_Ext_right_j2 (y14.2.1 == 0)
  else
  F_ipsix_Ext_right_j2 false
def F_ipsix_Right_1 (xv1 : T_ipsix_Ext) : Option Bool :=
  (F_ipsix_Ext_right xv1).bind fun y8 =>
  some (!y8)
def F_slices_IndexFunc_ipsix_Ext_ipsix_Ext_fipsix_Right_1_l1 (rec36 : Int → Option Int) (s1 : List T_ipsix_Ext) (t34 : Int) : Option Int :=
  if (decide (t34 < (s1.length : Int))) = true then
  (gidx s1 t34).bind fun xv40 =>
  (F_ipsix_Right_1 xv40).bind fun y48 =>
  if y48 = true then
  some t34
  else
  rec36 (IntKind.i64.wrap (t34 + 1))
  else
  some (-1)
def F_slices_IndexFunc_ipsix_Ext_ipsix_Ext_fipsix_Right_1_L1 (s1 : List T_ipsix_Ext) : Nat → Int → Option Int
  | 0 => fun _ => none
  | k + 1 => F_slices_IndexFunc_ipsix_Ext_ipsix_Ext_fipsix_Right_1_l1 (F_slices_IndexFunc_ipsix_Ext_ipsix_Ext_fipsix_Right_1_L1 s1 k) s1
def F_slices_IndexFunc_ipsix_Ext_ipsix_Ext_fipsix_Right_1 (s1 : List T_ipsix_Ext) : Option Int :=
  F_slices_IndexFunc_ipsix_Ext_ipsix_Ext_fipsix_Right_1_L1 s1 fuel0 0
def F_slices_ContainsFunc_ipsix_Ext_ipsix_Ext_fipsix_Right_1 (s1 : List T_ipsix_Ext) : Option Bool :=
  (F_slices_IndexFunc_ipsix_Ext_ipsix_Ext_fipsix_Right_1 s1).bind fun y5 =>
  some (decide (0 ≤ y5))
def F_ipsix_Ext_later_j1 (t12 : Bool) : Option Bool :=
  some t12
def F_ipsix_Ext_later (xv1 : T_ipsix_Ext) : Option Bool :=
  (F_ipsix_Ext_says xv1).bind fun y8 =>
  if (xv1.f_Kind == 44) = true then
  F_ipsix_Ext_later_j1 (decide (0 < y8.1))
  else
  F_ipsix_Ext_later_j1 false
def F_ipsix_Right_j2 (t68 : Int) (rec70 : Int → Option Bool) (t95 : Bool) : Option Bool :=
  if t95 = true then
  some false
  else
  rec70 (IntKind.i64.wrap (t68 + 1))
def F_ipsix_Right_j3 (t115 : Bool) : Option Bool :=
  some t115
def F_ipsix_Right_l1 (rec70 : Int → Option Bool) (cv1 : T_ipsix_Chain) (t68 : Int) : Option Bool :=
  if (decide (t68 < (cv1.f_Exts.length : Int))) = true then
  (gidx cv1.f_Exts t68).bind fun xv74 =>
  if (xv74.f_Kind == 0) = true then
  if (decide (0 < t68)) = true then
  F_ipsix_Right_j2 t68 rec70 true
  else
  (F_ipsix_Ext_later xv74).bind fun y86 =>
  if y86 = true then
  F_ipsix_Right_j2 t68 rec70 (decide (t68 < (IntKind.i64.wrap ((cv1.f_Exts.length : Int) - 1))))
  else
  F_ipsix_Right_j2 t68 rec70 false
  else
  (F_ipsix_Ext_later xv74).bind fun y90 =>
  if y90 = true then
  F_ipsix_Right_j2 t68 rec70 (decide (t68 < (IntKind.i64.wrap ((cv1.f_Exts.length : Int) - 1))))
  else
  F_ipsix_Right_j2 t68 rec70 false
  else
  (F_ipsix_behind cv1.f_Proto).bind fun y97 =>
  if (!y97) = true then
  F_ipsix_Right_j3 true
  else
  if (decide (0 ≤ (IntKind.i64.wrap ((cv1.f_Exts.length : Int) - 1)))) = true then
  (gidx cv1.f_Exts (IntKind.i64.wrap ((cv1.f_Exts.length : Int) - 1))).bind fun xv103 =>
  (F_ipsix_Ext_later xv103).bind fun y111 =>
  F_ipsix_Right_j3 y111
  else
  F_ipsix_Right_j3 false
def F_ipsix_Right_L1 (cv1 : T_ipsix_Chain) : Nat → Int → Option Bool
  | 0 => fun _ => none
  | k + 1 => F_ipsix_Right_l1 (F_ipsix_Right_L1 cv1 k) cv1
def F_ipsix_Right_j1 (cv1 : T_ipsix_Chain) (t13 : Bool) : Option Bool :=
  if t13 = true then
  some false
  else
  F_ipsix_Right_L1 cv1 fuel0 0
def F_ipsix_Right (cv1 : T_ipsix_Chain) : Option Bool :=
  if (decide (16 < (cv1.f_Exts.length : Int))) = true then
  F_ipsix_Right_j1 cv1 true
  else
  (F_slices_ContainsFunc_ipsix_Ext_ipsix_Ext_fipsix_Right_1 cv1.f_Exts).bind fun y8 =>
  F_ipsix_Right_j1 cv1 y8
def F_ipsix_PutChain_l2 (rec177 : (List Int) → Int → Option ((List Int) × Int × Int)) (cv1 : T_ipsix_Chain) (kinds69 : List Int) (b173 : List Int) (t175 : Int) : Option ((List Int) × Int × Int) :=
  if (decide (t175 < (cv1.f_Exts.length : Int))) = true then
  (gidx cv1.f_Exts t175).bind fun xv181 =>
  (gidx (kinds69 ++ ([cv1.f_Proto] : List Int)) (IntKind.i64.wrap (t175 + 1))).bind fun xv195 =>
  if (decide (b173.length + ([xv195, (IntKind.u8.wrap (IntKind.i64.wrap ((IntKind.i64.wrap (Int.tdiv (IntKind.i64.wrap ((xv181.f_Data.length : Int) + 2)) 8)) - 1)))] : List Int).length ≤ lim)) = true then
  if (decide ((b173 ++ ([xv195, (IntKind.u8.wrap (IntKind.i64.wrap ((IntKind.i64.wrap (Int.tdiv (IntKind.i64.wrap ((xv181.f_Data.length : Int) + 2)) 8)) - 1)))] : List Int)).length + xv181.f_Data.length ≤ lim)) = true then
  rec177 ((b173 ++ ([xv195, (IntKind.u8.wrap (IntKind.i64.wrap ((IntKind.i64.wrap (Int.tdiv (IntKind.i64.wrap ((xv181.f_Data.length : Int) + 2)) 8)) - 1)))] : List Int)) ++ xv181.f_Data) (IntKind.i64.wrap (t175 + 1))
  else none
  else none
  else
  (gidx (kinds69 ++ ([cv1.f_Proto] : List Int)) 0).bind fun xv211 =>
  some (b173, xv211, 0)
def F_ipsix_PutChain_L2 (cv1 : T_ipsix_Chain) (kinds69 : List Int) : Nat → (List Int) → Int → Option ((List Int) × Int × Int)
  | 0 => fun _ _ => none
  | k + 1 => F_ipsix_PutChain_l2 (F_ipsix_PutChain_L2 cv1 kinds69 k) cv1 kinds69
def F_ipsix_PutChain_l1 (rec72 : (List Int) → Int → Option ((List Int) × Int × Int)) (cv1 : T_ipsix_Chain) (kinds69 : List Int) (t70 : Int) : Option ((List Int) × Int × Int) :=
  if (decide (t70 < (cv1.f_Exts.length : Int))) = true then
  (gidx cv1.f_Exts t70).bind fun xv76 =>
  if (decide (kinds69.length + ([xv76.f_Kind] : List Int).length ≤ lim)) = true then
  rec72 (kinds69 ++ ([xv76.f_Kind] : List Int)) (IntKind.i64.wrap (t70 + 1))
  else none
  else
  if (decide (kinds69.length + ([cv1.f_Proto] : List Int).length ≤ lim)) = true then
  F_ipsix_PutChain_L2 cv1 kinds69 fuel0 ([]) 0
  else none
def F_ipsix_PutChain_L1 (cv1 : T_ipsix_Chain) : Nat → (List Int) → Int → Option ((List Int) × Int × Int)
  | 0 => fun _ _ => none
  | k + 1 => F_ipsix_PutChain_l1 (F_ipsix_PutChain_L1 cv1 k) cv1
def F_ipsix_PutChain (cv1 : T_ipsix_Chain) : Option ((List Int) × Int × Int) :=
  (F_ipsix_Right cv1).bind fun y8 =>
  if (!y8) = true then
  some ([], 0, 60)
  else
  F_ipsix_PutChain_L1 cv1 fuel0 ([] : List Int) 0
def F_bytes_Clone (b1 : List Int) : Option ((List Int)) :=
  if (decide (([] : List Int).length + b1.length ≤ lim)) = true then
  some (([] : List Int) ++ b1)
  else none
def F_ipsix_reader_one_I_j4 (rv1 : T_ipsix_reader) (cut25 : List Int) (nv44 : Int) (xv89 : List Int) (p105 : List T_ipsix_Ext) (t108 : Bool) : Option (Int × T_ipsix_reader) :=
  if t108 = true then
  some (60, (T_ipsix_reader.mk (T_ipsix_Chain.mk p105 rv1.f_Chain.f_Proto) rv1.f_b rv1.f_at))
  else
  (gidx cut25 0).bind fun xv112 =>
  if (decide (p105.length + ([(T_ipsix_Ext.mk rv1.f_Chain.f_Proto xv89)]).length ≤ lim)) = true then
  some (0, (T_ipsix_reader.mk (T_ipsix_Chain.mk (p105 ++ [(T_ipsix_Ext.mk rv1.f_Chain.f_Proto xv89)]) xv112) rv1.f_b (IntKind.i64.wrap (rv1.f_at + nv44))))
  else none
def F_ipsix_reader_one_I_j3 (rv1 : T_ipsix_reader) (cut25 : List Int) (nv44 : Int) (p83 : List T_ipsix_Ext) (xv89 : List Int) : Option (Int × T_ipsix_reader) :=
  if (rv1.f_Chain.f_Proto == 44) = true then
  (gidx cut25 1).bind fun xv93 =>
  if (xv93 != 0) = true then
  F_ipsix_reader_one_I_j4 rv1 cut25 nv44 xv89 p83 true
  else
  (F_ipsix_Ext_right (T_ipsix_Ext.mk rv1.f_Chain.f_Proto xv89)).bind fun y94 =>
  F_ipsix_reader_one_I_j4 rv1 cut25 nv44 xv89 p83 (!y94)
  else
  F_ipsix_reader_one_I_j4 rv1 cut25 nv44 xv89 p83 false
def F_ipsix_reader_one_I_j2 (rv1 : T_ipsix_reader) (cut25 : List Int) (p43 : List T_ipsix_Ext) (nv44 : Int) : Option (Int × T_ipsix_reader) :=
  if (decide ((cut25.length : Int) < nv44)) = true then
  some (10, (T_ipsix_reader.mk (T_ipsix_Chain.mk p43 rv1.f_Chain.f_Proto) rv1.f_b rv1.f_at))
  else
  (gcut cut25 2 nv44).bind fun cut46 =>
  (F_bytes_Clone cut46).bind fun y54 =>
  F_ipsix_reader_one_I_j3 rv1 cut25 nv44 p43 y54
def F_ipsix_reader_one_I_j1 (rv1 : T_ipsix_reader) (p22 : List T_ipsix_Ext) (t23 : Bool) : Option (Int × T_ipsix_reader) :=
  if t23 = true then
  some (60, (T_ipsix_reader.mk (T_ipsix_Chain.mk p22 rv1.f_Chain.f_Proto) rv1.f_b rv1.f_at))
  else
  (gcut rv1.f_b rv1.f_at ((rv1.f_b).length)).bind fun cut25 =>
  if (decide ((cut25.length : Int) < 2)) = true then
  some (10, (T_ipsix_reader.mk (T_ipsix_Chain.mk p22 rv1.f_Chain.f_Proto) rv1.f_b rv1.f_at))
  else
  (gidx cut25 1).bind fun xv35 =>
  if (rv1.f_Chain.f_Proto == 44) = true then
  F_ipsix_reader_one_I_j2 rv1 cut25 p22 8
  else
  F_ipsix_reader_one_I_j2 rv1 cut25 p22 (IntKind.i64.wrap (8 * (IntKind.i64.wrap ((IntKind.i64.wrap xv35) + 1))))
def F_ipsix_reader_one_I (rv1 : T_ipsix_reader) : Option (Int × T_ipsix_reader) :=
  if ((rv1.f_Chain.f_Exts.length : Int) == 16) = true then
  F_ipsix_reader_one_I_j1 rv1 rv1.f_Chain.f_Exts true
  else
  if (rv1.f_Chain.f_Proto == 0) = true then
  F_ipsix_reader_one_I_j1 rv1 rv1.f_Chain.f_Exts (decide (0 < (rv1.f_Chain.f_Exts.length : Int)))
  else
  F_ipsix_reader_one_I_j1 rv1 rv1.f_Chain.f_Exts false
def F_ipsix_ParseChain_j2 (rv156 : Int) (rv161 : Int) (t172 : List T_ipsix_Ext) : Option (T_ipsix_Chain × Int × Int) :=
  some ((T_ipsix_Chain.mk t172 rv156), rv161, 0)
def F_ipsix_ParseChain_j1 (rv155 : List T_ipsix_Ext) (rv156 : Int) (rv161 : Int) : Option (T_ipsix_Chain × Int × Int) :=
  F_ipsix_ParseChain_j2 rv156 rv161 rv155
def F_ipsix_ParseChain_l1 (rec112 : (List T_ipsix_Ext) → Int → (List Int) → Int → Option (T_ipsix_Chain × Int × Int)) (rv104 : List T_ipsix_Ext) (rv105 : Int) (rv109 : List Int) (rv110 : Int) : Option (T_ipsix_Chain × Int × Int) :=
  (F_ipsix_behind rv105).bind fun y114 =>
  if y114 = true then
  (F_ipsix_reader_one_I (T_ipsix_reader.mk (T_ipsix_Chain.mk rv104 rv105) rv109 rv110)).bind fun y118 =>
  if (y118.1 != 0) = true then
  some ((T_ipsix_Chain.mk ([]) 0), 0, y118.1)
  else
  (gidx y118.2.f_Chain.f_Exts (IntKind.i64.wrap ((y118.2.f_Chain.f_Exts.length : Int) - 1))).bind fun xv135 =>
  (F_ipsix_Ext_later xv135).bind fun y145 =>
  if y145 = true then
  F_ipsix_ParseChain_j1 y118.2.f_Chain.f_Exts y118.2.f_Chain.f_Proto y118.2.f_at
  else
  rec112 y118.2.f_Chain.f_Exts y118.2.f_Chain.f_Proto y118.2.f_b y118.2.f_at
  else
  F_ipsix_ParseChain_j1 rv104 rv105 rv110
def F_ipsix_ParseChain_L1 : Nat → (List T_ipsix_Ext) → Int → (List Int) → Int → Option (T_ipsix_Chain × Int × Int)
  | 0 => fun _ _ _ _ => none
  | k + 1 => F_ipsix_ParseChain_l1 (F_ipsix_ParseChain_L1 k)
def F_ipsix_ParseChain (first1 : Int) (b2 : List Int) : Option (T_ipsix_Chain × Int × Int) :=
  F_ipsix_ParseChain_L1 fuel0 ([]) first1 b2 0
def F_ipsix_Frag_1 (xv1 : T_ipsix_Ext) : Option Bool :=
  some (xv1.f_Kind == 44)
def F_slices_IndexFunc_ipsix_Ext_ipsix_Ext_fipsix_Frag_1_l1 (rec36 : Int → Option Int) (s1 : List T_ipsix_Ext) (t34 : Int) : Option Int :=
  if (decide (t34 < (s1.length : Int))) = true then
  (gidx s1 t34).bind fun xv40 =>
  (F_ipsix_Frag_1 xv40).bind fun y48 =>
  if y48 = true then
  some t34
  else
  rec36 (IntKind.i64.wrap (t34 + 1))
  else
  some (-1)
def F_slices_IndexFunc_ipsix_Ext_ipsix_Ext_fipsix_Frag_1_L1 (s1 : List T_ipsix_Ext) : Nat → Int → Option Int
  | 0 => fun _ => none
  | k + 1 => F_slices_IndexFunc_ipsix_Ext_ipsix_Ext_fipsix_Frag_1_l1 (F_slices_IndexFunc_ipsix_Ext_ipsix_Ext_fipsix_Frag_1_L1 s1 k) s1
def F_slices_IndexFunc_ipsix_Ext_ipsix_Ext_fipsix_Frag_1 (s1 : List T_ipsix_Ext) : Option Int :=
  F_slices_IndexFunc_ipsix_Ext_ipsix_Ext_fipsix_Frag_1_L1 s1 fuel0 0
def F_ipsix_Frag_j1 (cv1 : T_ipsix_Chain) (y8 : Int) (t17 : Bool) : Option (Int × Bool × Int × Bool) :=
  if t17 = true then
  some (0, false, 0, false)
  else
  (gidx cv1.f_Exts y8).bind fun xv21 =>
  (F_ipsix_Ext_says xv21).bind fun y29 =>
  (gidx cv1.f_Exts y8).bind fun xv35 =>
  (F_bits_Get xv35.f_Data 2 4).bind fun y43 =>
  some (y29.1, y29.2.2, (IntKind.u32.wrap y43.1), true)
def F_ipsix_Frag (cv1 : T_ipsix_Chain) : Option (Int × Bool × Int × Bool) :=
  (F_slices_IndexFunc_ipsix_Ext_ipsix_Ext_fipsix_Frag_1 cv1.f_Exts).bind fun y8 =>
  if (decide (y8 < 0)) = true then
  F_ipsix_Frag_j1 cv1 y8 true
  else
  (F_ipsix_Right cv1).bind fun y12 =>
  F_ipsix_Frag_j1 cv1 y8 (!y12)
def F_kit_SameBytes_l1 (rec24 : Int → Option Bool) (av1 : List Int) (b5 : List Int) (i22 : Int) : Option Bool :=
  if (decide (i22 < (av1.length : Int))) = true then
  (gidx av1 i22).bind fun xv28 =>
  (gidx b5 i22).bind fun xv31 =>
  if (xv28 != xv31) = true then
  some false
  else
  rec24 (IntKind.i64.wrap (i22 + 1))
  else
  some true
def F_kit_SameBytes_L1 (av1 : List Int) (b5 : List Int) : Nat → Int → Option Bool
  | 0 => fun _ => none
  | k + 1 => F_kit_SameBytes_l1 (F_kit_SameBytes_L1 av1 b5 k) av1 b5
def F_kit_SameBytes (av1 : List Int) (b5 : List Int) : Option Bool :=
  if ((av1.length : Int) != (b5.length : Int)) = true then
  some false
  else
  F_kit_SameBytes_L1 av1 b5 fuel0 0
def F_law06_works_j1 (t78 : Bool) : Option Bool :=
  some t78
def F_law06_works : Option Bool :=
  if (decide (0 ≤ 6 ∧ 6 ≤ lim)) = true then
  (F_ipsix_PutChain (T_ipsix_Chain.mk ([(T_ipsix_Ext.mk 60 (List.replicate (Int.toNat 6) (0 : Int)))]) 6)).bind fun y11 =>
  (F_ipsix_ParseChain 44 ([17, 0, 0, 9, 0, 0, 0, 5] : List Int)).bind fun y21 =>
  (F_ipsix_Frag y21.1).bind fun y35 =>
  (F_ipsix_ParseChain 6 []).bind fun y39 =>
  if (decide (0 ≤ 8 ∧ 8 ≤ lim)) = true then
  (F_ipsix_ParseChain 60 (List.replicate (Int.toNat 8) (0 : Int))).bind fun y57 =>
  if (y11.2.2 == 0) = true then
  if (y11.2.1 == 60) = true then
  (F_kit_SameBytes y11.1 ([6, 0, 0, 0, 0, 0, 0, 0] : List Int)).bind fun y74 =>
  if y74 = true then
  if (y21.2.2 == 0) = true then
  if (y21.2.1 == 8) = true then
  if (y21.1.f_Proto == 17) = true then
  if (y35.1 == 1) = true then
  if y35.2.1 = true then
  if (y35.2.2.1 == 5) = true then
  if y35.2.2.2 = true then
  if (y39.2.2 == 0) = true then
  if (y39.2.1 == 0) = true then
  if ((y39.1.f_Exts.length : Int) == 0) = true then
  F_law06_works_j1 (y57.2.2 == 60)
  else
  F_law06_works_j1 false
  else
  F_law06_works_j1 false
  else
  F_law06_works_j1 false
  else
  F_law06_works_j1 false
  else
  F_law06_works_j1 false
  else
  F_law06_works_j1 false
  else
  F_law06_works_j1 false
  else
  F_law06_works_j1 false
  else
  F_law06_works_j1 false
  else
  F_law06_works_j1 false
  else
  F_law06_works_j1 false
  else
  F_law06_works_j1 false
  else
  F_law06_works_j1 false
  else none
  else none
def F_docs_Chain_l1 (rec90 : (List T_ref06_Ext) → Int → Option T_ref06_Chain) (cv1 : T_ipsix_Chain) (out87 : List T_ref06_Ext) (i88 : Int) : Option T_ref06_Chain :=
  if (decide (i88 < (cv1.f_Exts.length : Int))) = true then
  (gidx cv1.f_Exts i88).bind fun xv94 =>
  (gidx cv1.f_Exts i88).bind fun xv104 =>
  if (decide (out87.length + ([(T_ref06_Ext.mk xv94.f_Kind (strOfNums xv104.f_Data))] : List T_ref06_Ext).length ≤ lim)) = true then
  rec90 (out87 ++ ([(T_ref06_Ext.mk xv94.f_Kind (strOfNums xv104.f_Data))] : List T_ref06_Ext)) (IntKind.i64.wrap (i88 + 1))
  else none
  else
  some (T_ref06_Chain.mk out87 cv1.f_Proto)
def F_docs_Chain_L1 (cv1 : T_ipsix_Chain) : Nat → (List T_ref06_Ext) → Int → Option T_ref06_Chain
  | 0 => fun _ _ => none
  | k + 1 => F_docs_Chain_l1 (F_docs_Chain_L1 cv1 k) cv1
def F_docs_Chain (cv1 : T_ipsix_Chain) : Option T_ref06_Chain :=
  F_docs_Chain_L1 cv1 fuel0 ([]) 0
def F_ref06_kind_j1 (t2 : Bool) : Option Bool :=
  some t2
def F_ref06_kind (kv1 : Int) : Option Bool :=
  if (kv1 == 0) = true then
  F_ref06_kind_j1 true
  else
  if (kv1 == 43) = true then
  F_ref06_kind_j1 true
  else
  if (kv1 == 44) = true then
  F_ref06_kind_j1 true
  else
  F_ref06_kind_j1 (kv1 == 60)
def F_ref06_rightExt_j1 (t7 : Bool) : Option Bool :=
  some t7
def F_ref06_rightExt_j2 (t13 : Bool) : Option Bool :=
  some t13
def F_ref06_rightExt (xv1 : T_ref06_Ext) : Option Bool :=
  if (xv1.f_Kind == 44) = true then
  if ((xv1.f_Data.size : Int) == 6) = true then
  (gidxS xv1.f_Data 1).bind fun xv5 =>
  F_ref06_rightExt_j1 ((Int.tmod (IntKind.u8.wrap (Int.tdiv xv5 2)) 4) == 0)
  else
  F_ref06_rightExt_j1 false
  else
  (F_ref06_kind xv1.f_Kind).bind fun y9 =>
  if y9 = true then
  if ((Int.tmod (xv1.f_Data.size : Int) 8) == 6) = true then
  F_ref06_rightExt_j2 (decide ((xv1.f_Data.size : Int) ≤ 2046))
  else
  F_ref06_rightExt_j2 false
  else
  F_ref06_rightExt_j2 false
def F_ref06_later_j1 (t9 : Bool) : Option Bool :=
  some t9
def F_ref06_later (xv1 : T_ref06_Ext) : Option Bool :=
  if (xv1.f_Kind == 44) = true then
  if (decide (1 < (xv1.f_Data.size : Int))) = true then
  (gidxS xv1.f_Data 0).bind fun xv5 =>
  if (decide (0 < xv5)) = true then
  F_ref06_later_j1 true
  else
  (gidxS xv1.f_Data 1).bind fun xv7 =>
  F_ref06_later_j1 (decide (8 ≤ xv7))
  else
  F_ref06_later_j1 false
  else
  F_ref06_later_j1 false
def F_ref06_Right_j1 (i51 : Int) (rec53 : Bool → Int → Option Bool) (xv57 : T_ref06_Ext) (t68 : Bool) : Option Bool :=
  if t68 = true then
  some false
  else
  (F_ref06_later xv57).bind fun y70 =>
  rec53 y70 (IntKind.i64.wrap (i51 + 1))
def F_ref06_Right_j2 (t78 : Bool) : Option Bool :=
  some t78
def F_ref06_Right_l1 (rec53 : Bool → Int → Option Bool) (cv1 : T_ref06_Chain) (last50 : Bool) (i51 : Int) : Option Bool :=
  if (decide (i51 < (cv1.f_Exts.length : Int))) = true then
  (gidx cv1.f_Exts i51).bind fun xv57 =>
  (F_ref06_rightExt xv57).bind fun y62 =>
  if (!y62) = true then
  F_ref06_Right_j1 i51 rec53 xv57 true
  else
  if (xv57.f_Kind == 0) = true then
  if (decide (0 < i51)) = true then
  F_ref06_Right_j1 i51 rec53 xv57 true
  else
  F_ref06_Right_j1 i51 rec53 xv57 last50
  else
  F_ref06_Right_j1 i51 rec53 xv57 last50
  else
  if last50 = true then
  F_ref06_Right_j2 true
  else
  (F_ref06_kind cv1.f_Proto).bind fun y74 =>
  F_ref06_Right_j2 (!y74)
def F_ref06_Right_L1 (cv1 : T_ref06_Chain) : Nat → Bool → Int → Option Bool
  | 0 => fun _ _ => none
  | k + 1 => F_ref06_Right_l1 (F_ref06_Right_L1 cv1 k) cv1
def F_ref06_Right (cv1 : T_ref06_Chain) : Option Bool :=
  if (decide (16 < (cv1.f_Exts.length : Int))) = true then
  some false
  else
  F_ref06_Right_L1 cv1 fuel0 false 0
def F_ref06_PutChain_l1 (rec79 : (List Int) → Int → Int → Option ((List Int) × Int × Int)) (cv1 : T_ref06_Chain) (out75 : List Int) (first76 : Int) (i77 : Int) : Option ((List Int) × Int × Int) :=
  if (decide (0 ≤ i77)) = true then
  (gidx cv1.f_Exts i77).bind fun xv83 =>
  if (decide (xv83.f_Data.size ≤ lim)) = true then
  if (decide (([first76, (IntKind.u8.wrap (IntKind.i64.wrap ((IntKind.i64.wrap (Int.tdiv (IntKind.i64.wrap ((xv83.f_Data.size : Int) + 2)) 8)) - 1)))] : List Int).length + (numsOfStr xv83.f_Data).length ≤ lim)) = true then
  if (decide ((([first76, (IntKind.u8.wrap (IntKind.i64.wrap ((IntKind.i64.wrap (Int.tdiv (IntKind.i64.wrap ((xv83.f_Data.size : Int) + 2)) 8)) - 1)))] : List Int) ++ (numsOfStr xv83.f_Data)).length + out75.length ≤ lim)) = true then
  rec79 ((([first76, (IntKind.u8.wrap (IntKind.i64.wrap ((IntKind.i64.wrap (Int.tdiv (IntKind.i64.wrap ((xv83.f_Data.size : Int) + 2)) 8)) - 1)))] : List Int) ++ (numsOfStr xv83.f_Data)) ++ out75) xv83.f_Kind (IntKind.i64.wrap (i77 - 1))
  else none
  else none
  else none
  else
  some (out75, first76, 0)
def F_ref06_PutChain_L1 (cv1 : T_ref06_Chain) : Nat → (List Int) → Int → Int → Option ((List Int) × Int × Int)
  | 0 => fun _ _ _ => none
  | k + 1 => F_ref06_PutChain_l1 (F_ref06_PutChain_L1 cv1 k) cv1
def F_ref06_PutChain (cv1 : T_ref06_Chain) : Option ((List Int) × Int × Int) :=
  (F_ref06_Right cv1).bind fun y8 =>
  if (!y8) = true then
  some ([], 0, 60)
  else
  F_ref06_PutChain_L1 cv1 fuel0 ([]) cv1.f_Proto (IntKind.i64.wrap ((cv1.f_Exts.length : Int) - 1))
def F_ref01_Get_j2 (b1 : List Int) (atv5 : Int) (v21 : Int) (i22 : Int) (rec24 : Int → Int → Option (Int × Int)) (t26 : Bool) : Option (Int × Int) :=
  if t26 = true then
  some (0, 10)
  else
  (gidx b1 (IntKind.i64.wrap (atv5 + i22))).bind fun xv30 =>
  rec24 (IntKind.u64.wrap ((IntKind.u64.wrap (v21 * 256)) + (IntKind.u64.wrap xv30))) (IntKind.i64.wrap (i22 + 1))
def F_ref01_Get_l1 (rec24 : Int → Int → Option (Int × Int)) (b1 : List Int) (atv5 : Int) (size6 : Int) (v21 : Int) (i22 : Int) : Option (Int × Int) :=
  if (decide (i22 < size6)) = true then
  if (decide ((b1.length : Int) < atv5)) = true then
  F_ref01_Get_j2 b1 atv5 v21 i22 rec24 true
  else
  F_ref01_Get_j2 b1 atv5 v21 i22 rec24 (decide ((b1.length : Int) ≤ (IntKind.i64.wrap (atv5 + i22))))
  else
  some (v21, 0)
def F_ref01_Get_L1 (b1 : List Int) (atv5 : Int) (size6 : Int) : Nat → Int → Int → Option (Int × Int)
  | 0 => fun _ _ => none
  | k + 1 => F_ref01_Get_l1 (F_ref01_Get_L1 b1 atv5 size6 k) b1 atv5 size6
def F_ref01_Get_j1 (b1 : List Int) (atv5 : Int) (size6 : Int) (t7 : Bool) : Option (Int × Int) :=
  if t7 = true then
  some (0, 2)
  else
  F_ref01_Get_L1 b1 atv5 size6 fuel0 0 0
def F_ref01_Get (b1 : List Int) (atv5 : Int) (size6 : Int) : Option (Int × Int) :=
  if (decide (size6 < 1)) = true then
  F_ref01_Get_j1 b1 atv5 size6 true
  else
  if (decide (8 < size6)) = true then
  F_ref01_Get_j1 b1 atv5 size6 true
  else
  F_ref01_Get_j1 b1 atv5 size6 (decide (atv5 < 0))
def F_ref06_Frag_j1 (cv1 : T_ref06_Chain) (i65 : Int) (rec67 : Int → Option (Int × Bool × Int × Bool)) (t74 : Bool) : Option (Int × Bool × Int × Bool) :=
  if t74 = true then
  (gidx cv1.f_Exts i65).bind fun xv78 =>
  if (xv78.f_Kind == 44) = true then
  (gidx cv1.f_Exts i65).bind fun xv81 =>
  if (decide (xv81.f_Data.size ≤ lim)) = true then
  (F_ref01_Get (numsOfStr xv81.f_Data) 0 2).bind fun y88 =>
  (F_ref01_Get (numsOfStr xv81.f_Data) 2 4).bind fun y92 =>
  some ((IntKind.u16.wrap (IntKind.u64.wrap (Int.tdiv y88.1 8))), ((Int.tmod y88.1 2) == 1), (IntKind.u32.wrap y92.1), true)
  else none
  else
  rec67 (IntKind.i64.wrap (i65 + 1))
  else
  some (0, false, 0, false)
def F_ref06_Frag_l1 (rec67 : Int → Option (Int × Bool × Int × Bool)) (cv1 : T_ref06_Chain) (i65 : Int) : Option (Int × Bool × Int × Bool) :=
  if (decide (i65 < (cv1.f_Exts.length : Int))) = true then
  (F_ref06_Right cv1).bind fun y69 =>
  F_ref06_Frag_j1 cv1 i65 rec67 y69
  else
  F_ref06_Frag_j1 cv1 i65 rec67 false
def F_ref06_Frag_L1 (cv1 : T_ref06_Chain) : Nat → Int → Option (Int × Bool × Int × Bool)
  | 0 => fun _ => none
  | k + 1 => F_ref06_Frag_l1 (F_ref06_Frag_L1 cv1 k) cv1
def F_ref06_Frag (cv1 : T_ref06_Chain) : Option (Int × Bool × Int × Bool) :=
  F_ref06_Frag_L1 cv1 fuel0 0
def F_bytes_Equal (av1 : List Int) (b5 : List Int) : Option Bool :=
  some ((strOfNums av1).toList == (strOfNums b5).toList)
def F_ipsix_Same_1_j1 (t19 : Bool) : Option Bool :=
  some t19
def F_ipsix_Same_1 (xv1 : T_ipsix_Ext) (y5 : T_ipsix_Ext) : Option Bool :=
  if (xv1.f_Kind == y5.f_Kind) = true then
  (F_bytes_Equal xv1.f_Data y5.f_Data).bind fun y15 =>
  F_ipsix_Same_1_j1 y15
  else
  F_ipsix_Same_1_j1 false
def F_slices_EqualFunc_ipsix_Ext_ipsix_Ext_ipsix_Ext_ipsix_Ext_fipsix_Same_1_l1 (rec76 : Int → Option Bool) (s1 : List T_ipsix_Ext) (s5 : List T_ipsix_Ext) (t74 : Int) : Option Bool :=
  if (decide (t74 < (s1.length : Int))) = true then
  (gidx s1 t74).bind fun xv80 =>
  (gidx s5 t74).bind fun xv94 =>
  (F_ipsix_Same_1 xv80 xv94).bind fun y106 =>
  if (!y106) = true then
  some false
  else
  rec76 (IntKind.i64.wrap (t74 + 1))
  else
  some true
def F_slices_EqualFunc_ipsix_Ext_ipsix_Ext_ipsix_Ext_ipsix_Ext_fipsix_Same_1_L1 (s1 : List T_ipsix_Ext) (s5 : List T_ipsix_Ext) : Nat → Int → Option Bool
  | 0 => fun _ => none
  | k + 1 => F_slices_EqualFunc_ipsix_Ext_ipsix_Ext_ipsix_Ext_ipsix_Ext_fipsix_Same_1_l1 (F_slices_EqualFunc_ipsix_Ext_ipsix_Ext_ipsix_Ext_ipsix_Ext_fipsix_Same_1_L1 s1 s5 k) s1 s5
def F_slices_EqualFunc_ipsix_Ext_ipsix_Ext_ipsix_Ext_ipsix_Ext_fipsix_Same_1 (s1 : List T_ipsix_Ext) (s5 : List T_ipsix_Ext) : Option Bool :=
  if ((s1.length : Int) != (s5.length : Int)) = true then
  some false
  else
  F_slices_EqualFunc_ipsix_Ext_ipsix_Ext_ipsix_Ext_ipsix_Ext_fipsix_Same_1_L1 s1 s5 fuel0 0
def F_ipsix_Same_j1 (t19 : Bool) : Option Bool :=
  some t19
def F_ipsix_Same (av1 : T_ipsix_Chain) (b5 : T_ipsix_Chain) : Option Bool :=
  if (av1.f_Proto == b5.f_Proto) = true then
  (F_slices_EqualFunc_ipsix_Ext_ipsix_Ext_ipsix_Ext_ipsix_Ext_fipsix_Same_1 av1.f_Exts b5.f_Exts).bind fun y15 =>
  F_ipsix_Same_j1 y15
  else
  F_ipsix_Same_j1 false
def F_ref06_Same_l1 (rec34 : Int → Option Bool) (av1 : T_ref06_Chain) (b5 : T_ref06_Chain) (i32 : Int) : Option Bool :=
  if (decide (i32 < (av1.f_Exts.length : Int))) = true then
  (gidx av1.f_Exts i32).bind fun xv38 =>
  (gidx b5.f_Exts i32).bind fun xv41 =>
  if (!(q_ref06_Ext xv38 xv41)) = true then
  some false
  else
  rec34 (IntKind.i64.wrap (i32 + 1))
  else
  some (av1.f_Proto == b5.f_Proto)
def F_ref06_Same_L1 (av1 : T_ref06_Chain) (b5 : T_ref06_Chain) : Nat → Int → Option Bool
  | 0 => fun _ => none
  | k + 1 => F_ref06_Same_l1 (F_ref06_Same_L1 av1 b5 k) av1 b5
def F_ref06_Same (av1 : T_ref06_Chain) (b5 : T_ref06_Chain) : Option Bool :=
  if ((av1.f_Exts.length : Int) != (b5.f_Exts.length : Int)) = true then
  some false
  else
  F_ref06_Same_L1 av1 b5 fuel0 0
def F_law06_IpsixChains_j3 (t299 : Bool) : Option Bool :=
  some t299
def F_law06_IpsixChains_j2 (cv1 : T_ipsix_Chain) (other5 : T_ipsix_Chain) (rv228 : List T_ref06_Ext) (rv229 : Int) (o235 : List T_ref06_Ext) (o236 : Int) : Option Bool :=
  (F_ipsix_PutChain cv1).bind fun y238 =>
  (F_ref06_PutChain (T_ref06_Chain.mk rv228 rv229)).bind fun y245 =>
  (F_ipsix_Frag cv1).bind fun y252 =>
  (F_ref06_Frag (T_ref06_Chain.mk rv228 rv229)).bind fun y256 =>
  if (y238.2.1 == y245.2.1) = true then
  if (y238.2.2 == y245.2.2) = true then
  (F_kit_SameBytes y238.1 y245.1).bind fun y260 =>
  if y260 = true then
  if (y252.1 == y256.1) = true then
  if (y252.2.1 == y256.2.1) = true then
  if (y252.2.2.1 == y256.2.2.1) = true then
  if (y252.2.2.2 == y256.2.2.2) = true then
  (F_ipsix_Right cv1).bind fun y264 =>
  (F_ref06_Right (T_ref06_Chain.mk rv228 rv229)).bind fun y268 =>
  if (y264 == y268) = true then
  (F_ipsix_Same cv1 other5).bind fun y272 =>
  (F_ref06_Same (T_ref06_Chain.mk rv228 rv229) (T_ref06_Chain.mk o235 o236)).bind fun y276 =>
  if (y272 == y276) = true then
  (F_ipsix_Same cv1 cv1).bind fun y280 =>
  if y280 = true then
  (F_docs_Chain cv1).bind fun y284 =>
  (F_ref06_Same y284 (T_ref06_Chain.mk rv228 rv229)).bind fun y291 =>
  if y291 = true then
  (F_law06_works).bind fun y295 =>
  F_law06_IpsixChains_j3 y295
  else
  F_law06_IpsixChains_j3 false
  else
  F_law06_IpsixChains_j3 false
  else
  F_law06_IpsixChains_j3 false
  else
  F_law06_IpsixChains_j3 false
  else
  F_law06_IpsixChains_j3 false
  else
  F_law06_IpsixChains_j3 false
  else
  F_law06_IpsixChains_j3 false
  else
  F_law06_IpsixChains_j3 false
  else
  F_law06_IpsixChains_j3 false
  else
  F_law06_IpsixChains_j3 false
  else
  F_law06_IpsixChains_j3 false
def F_law06_IpsixChains_j1 (cv1 : T_ipsix_Chain) (other5 : T_ipsix_Chain) (t25 : Bool) : Option Bool :=
  if t25 = true then
  (F_law06_works).bind fun y27 =>
  some y27
  else
  (F_docs_Chain cv1).bind fun y31 =>
  (F_docs_Chain other5).bind fun y38 =>
  F_law06_IpsixChains_j2 cv1 other5 y31.f_Exts y31.f_Proto y38.f_Exts y38.f_Proto
def F_law06_IpsixChains (cv1 : T_ipsix_Chain) (other5 : T_ipsix_Chain) : Option Bool :=
  (F_law06_few cv1).bind fun y15 =>
  if (!y15) = true then
  F_law06_IpsixChains_j1 cv1 other5 true
  else
  (F_law06_few other5).bind fun y19 =>
  F_law06_IpsixChains_j1 cv1 other5 (!y19)
def F_kit_Own (b1 : List Int) : Option ((List Int)) :=
  if (decide (b1.length ≤ lim)) = true then
  some b1
  else none
def F_ref06_ParseChain_j4 (b2 : List Int) (first149 : Int) (out155 : List T_ref06_Ext) (atv156 : Int) (rec159 : Int → (List T_ref06_Ext) → Int → Bool → Option (T_ref06_Chain × Int × Int)) (nv185 : Int) (cut189 : List Int) (t211 : Bool) : Option (T_ref06_Chain × Int × Int) :=
  if t211 = true then
  some ((T_ref06_Chain.mk ([]) 0), 0, 60)
  else
  if (decide (out155.length + ([(T_ref06_Ext.mk first149 (strOfNums cut189))] : List T_ref06_Ext).length ≤ lim)) = true then
  (F_ref06_later (T_ref06_Ext.mk first149 (strOfNums cut189))).bind fun y224 =>
  (gidx b2 atv156).bind fun xv230 =>
  rec159 xv230 (out155 ++ ([(T_ref06_Ext.mk first149 (strOfNums cut189))] : List T_ref06_Ext)) (IntKind.i64.wrap (atv156 + nv185)) y224
  else none
def F_ref06_ParseChain_j3 (b2 : List Int) (first149 : Int) (out155 : List T_ref06_Ext) (atv156 : Int) (rec159 : Int → (List T_ref06_Ext) → Int → Bool → Option (T_ref06_Chain × Int × Int)) (nv185 : Int) : Option (T_ref06_Chain × Int × Int) :=
  if (decide ((b2.length : Int) < (IntKind.i64.wrap (atv156 + nv185)))) = true then
  some ((T_ref06_Chain.mk ([]) 0), 0, 10)
  else
  (gcut b2 (IntKind.i64.wrap (atv156 + 2)) (IntKind.i64.wrap (atv156 + nv185))).bind fun cut189 =>
  if (first149 == 44) = true then
  (gidx b2 (IntKind.i64.wrap (atv156 + 1))).bind fun xv202 =>
  if (xv202 != 0) = true then
  F_ref06_ParseChain_j4 b2 first149 out155 atv156 rec159 nv185 cut189 true
  else
  (F_ref06_rightExt (T_ref06_Ext.mk first149 (strOfNums cut189))).bind fun y203 =>
  F_ref06_ParseChain_j4 b2 first149 out155 atv156 rec159 nv185 cut189 (!y203)
  else
  F_ref06_ParseChain_j4 b2 first149 out155 atv156 rec159 nv185 cut189 false
def F_ref06_ParseChain_j2 (b2 : List Int) (first149 : Int) (out155 : List T_ref06_Ext) (atv156 : Int) (rec159 : Int → (List T_ref06_Ext) → Int → Bool → Option (T_ref06_Chain × Int × Int)) (t173 : Bool) : Option (T_ref06_Chain × Int × Int) :=
  if t173 = true then
  some ((T_ref06_Chain.mk ([]) 0), 0, 60)
  else
  if (decide ((b2.length : Int) < (IntKind.i64.wrap (atv156 + 2)))) = true then
  some ((T_ref06_Chain.mk ([]) 0), 0, 10)
  else
  (gidx b2 (IntKind.i64.wrap (atv156 + 1))).bind fun xv181 =>
  if (first149 == 44) = true then
  F_ref06_ParseChain_j3 b2 first149 out155 atv156 rec159 8
  else
  F_ref06_ParseChain_j3 b2 first149 out155 atv156 rec159 (IntKind.i64.wrap (8 * (IntKind.i64.wrap ((IntKind.i64.wrap xv181) + 1))))
def F_ref06_ParseChain_j1 (b2 : List Int) (first149 : Int) (out155 : List T_ref06_Ext) (atv156 : Int) (rec159 : Int → (List T_ref06_Ext) → Int → Bool → Option (T_ref06_Chain × Int × Int)) (t168 : Bool) : Option (T_ref06_Chain × Int × Int) :=
  if t168 = true then
  if ((out155.length : Int) == 16) = true then
  F_ref06_ParseChain_j2 b2 first149 out155 atv156 rec159 true
  else
  if (first149 == 0) = true then
  F_ref06_ParseChain_j2 b2 first149 out155 atv156 rec159 (decide (0 < (out155.length : Int)))
  else
  F_ref06_ParseChain_j2 b2 first149 out155 atv156 rec159 false
  else
  some ((T_ref06_Chain.mk out155 first149), atv156, 0)
def F_ref06_ParseChain_l1 (rec159 : Int → (List T_ref06_Ext) → Int → Bool → Option (T_ref06_Chain × Int × Int)) (b2 : List Int) (first149 : Int) (out155 : List T_ref06_Ext) (atv156 : Int) (stop157 : Bool) : Option (T_ref06_Chain × Int × Int) :=
  (F_ref06_kind first149).bind fun y161 =>
  if y161 = true then
  F_ref06_ParseChain_j1 b2 first149 out155 atv156 rec159 (!stop157)
  else
  F_ref06_ParseChain_j1 b2 first149 out155 atv156 rec159 false
def F_ref06_ParseChain_L1 (b2 : List Int) : Nat → Int → (List T_ref06_Ext) → Int → Bool → Option (T_ref06_Chain × Int × Int)
  | 0 => fun _ _ _ _ => none
  | k + 1 => F_ref06_ParseChain_l1 (F_ref06_ParseChain_L1 b2 k) b2
def F_ref06_ParseChain (first1 : Int) (b2 : List Int) : Option (T_ref06_Chain × Int × Int) :=
  F_ref06_ParseChain_L1 b2 fuel0 first1 ([]) 0 false
def F_ipsix_Parse (b1 : List Int) : Option (T_ipsix_Header × Int) :=
  if (decide ((b1.length : Int) < 40)) = true then
  some ((T_ipsix_Header.mk 0 0 0 0 0 (List.replicate 16 0) (List.replicate 16 0)), 10)
  else
  (F_bits_Get b1 0 4).bind fun y10 =>
  (F_bits_Get b1 4 2).bind fun y14 =>
  if ((Ox.shr .u64 y10.1 28) != 6) = true then
  some ((T_ipsix_Header.mk 0 0 0 0 0 (List.replicate 16 0) (List.replicate 16 0)), 50)
  else
  (gidx b1 6).bind fun xv22 =>
  (gidx b1 7).bind fun xv25 =>
  (gcut b1 8 24).bind fun cut26 =>
  if (decide (16 ≤ cut26.length)) = true then
  (gcut b1 24 40).bind fun cut34 =>
  if (decide (16 ≤ cut34.length)) = true then
  some ((T_ipsix_Header.mk (IntKind.u8.wrap (Ox.shr .u64 y10.1 20)) (IntKind.u32.wrap (bits .and .u64 y10.1 1048575)) (IntKind.u16.wrap y14.1) xv22 xv25 (arrL 16 cut26) (arrL 16 cut34)), 0)
  else none
  else none
def F_ipsix_Body_j2 (y11 : T_ipsix_Header × Int) (cv77 : Int) (t120 : List T_ipsix_Ext) (t124 : List Int) : Option (T_ipsix_Header × T_ipsix_Chain × (List Int) × Int) :=
  some (y11.1, (T_ipsix_Chain.mk t120 cv77), t124, 0)
def F_ipsix_Body_j1 (b1 : List Int) (y11 : T_ipsix_Header × Int) (ev67 : Int) (cv76 : List T_ipsix_Ext) (cv77 : Int) (nv78 : Int) : Option (T_ipsix_Header × T_ipsix_Chain × (List Int) × Int) :=
  if (ev67 != 0) = true then
  some ((T_ipsix_Header.mk 0 0 0 0 0 (List.replicate 16 0) (List.replicate 16 0)), (T_ipsix_Chain.mk ([]) 0), [], ev67)
  else
  (gcut b1 (IntKind.i64.wrap (40 + nv78)) (IntKind.i64.wrap (40 + (IntKind.i64.wrap y11.1.f_Length)))).bind fun cut85 =>
  (F_bytes_Clone cut85).bind fun y92 =>
  F_ipsix_Body_j2 y11 cv77 cv76 y92
def F_ipsix_Body (b1 : List Int) : Option (T_ipsix_Header × T_ipsix_Chain × (List Int) × Int) :=
  (F_ipsix_Parse b1).bind fun y11 =>
  if (y11.2 != 0) = true then
  some ((T_ipsix_Header.mk 0 0 0 0 0 (List.replicate 16 0) (List.replicate 16 0)), (T_ipsix_Chain.mk ([]) 0), [], y11.2)
  else
  if (decide ((b1.length : Int) < (IntKind.i64.wrap (40 + (IntKind.i64.wrap y11.1.f_Length))))) = true then
  some ((T_ipsix_Header.mk 0 0 0 0 0 (List.replicate 16 0) (List.replicate 16 0)), (T_ipsix_Chain.mk ([]) 0), [], 10)
  else
  (gcut b1 40 (IntKind.i64.wrap (40 + (IntKind.i64.wrap y11.1.f_Length)))).bind fun cut29 =>
  (F_ipsix_ParseChain y11.1.f_Next cut29).bind fun y36 =>
  F_ipsix_Body_j1 b1 y11 y36.2.2 y36.1.f_Exts y36.1.f_Proto y36.2.1
def F_ref06_Parse (b1 : List Int) : Option (T_ref06_Header × Int) :=
  if (decide ((b1.length : Int) < 40)) = true then
  some ((T_ref06_Header.mk 0 0 0 0 0 ByteArray.empty ByteArray.empty), 10)
  else
  (F_ref01_Get b1 0 4).bind fun y10 =>
  if ((IntKind.u64.wrap (Int.tdiv y10.1 268435456)) != 6) = true then
  some ((T_ref06_Header.mk 0 0 0 0 0 ByteArray.empty ByteArray.empty), 50)
  else
  (F_ref01_Get b1 4 2).bind fun y16 =>
  (gidx b1 6).bind fun xv22 =>
  (gidx b1 7).bind fun xv25 =>
  (gcut b1 8 24).bind fun cut26 =>
  (gcut b1 24 40).bind fun cut33 =>
  some ((T_ref06_Header.mk (IntKind.u8.wrap (Int.tmod (IntKind.u64.wrap (Int.tdiv y10.1 1048576)) 256)) (IntKind.u32.wrap (Int.tmod y10.1 1048576)) (IntKind.u16.wrap y16.1) xv22 xv25 (strOfNums cut26) (strOfNums cut33)), 0)
def F_ref06_Body_j1 (y11 : T_ref06_Header × Int) (y34 : T_ref06_Chain × Int × Int) (t66 : List Int) : Option (T_ref06_Header × T_ref06_Chain × (List Int) × Int) :=
  some (y11.1, y34.1, t66, 0)
def F_ref06_Body (b1 : List Int) : Option (T_ref06_Header × T_ref06_Chain × (List Int) × Int) :=
  (F_ref06_Parse b1).bind fun y11 =>
  if (y11.2 != 0) = true then
  some ((T_ref06_Header.mk 0 0 0 0 0 ByteArray.empty ByteArray.empty), (T_ref06_Chain.mk ([]) 0), [], y11.2)
  else
  if (decide ((b1.length : Int) < (IntKind.i64.wrap (40 + (IntKind.i64.wrap y11.1.f_Length))))) = true then
  some ((T_ref06_Header.mk 0 0 0 0 0 ByteArray.empty ByteArray.empty), (T_ref06_Chain.mk ([]) 0), [], 10)
  else
  (gcut b1 40 (IntKind.i64.wrap (40 + (IntKind.i64.wrap y11.1.f_Length)))).bind fun cut27 =>
  (F_ref06_ParseChain y11.1.f_Next cut27).bind fun y34 =>
  if (y34.2.2 != 0) = true then
  some ((T_ref06_Header.mk 0 0 0 0 0 ByteArray.empty ByteArray.empty), (T_ref06_Chain.mk ([]) 0), [], y34.2.2)
  else
  (gcut cut27 y34.2.1 ((cut27).length)).bind fun cut49 =>
  F_ref06_Body_j1 y11 y34 cut49
def F_docs_Ipsix (h1 : T_ipsix_Header) : Option T_ref06_Header :=
  some (T_ref06_Header.mk h1.f_Class h1.f_Flow h1.f_Length h1.f_Next h1.f_Hops (strOfNums (arrL 16 h1.f_Src)) (strOfNums (arrL 16 h1.f_Dst)))
def F_docs_NoIpsix (h1 : T_ref06_Header) : Option T_ref06_Header :=
  if (h1.f_Src.toList == (⟨#[]⟩ : ByteArray).toList) = true then
  (F_docs_Ipsix (T_ipsix_Header.mk 0 0 0 0 0 (List.replicate 16 0) (List.replicate 16 0))).bind fun y8 =>
  some y8
  else
  some h1
def F_kit_Spoil_l1 (rec25 : (List Int) → Int → Option ((List Int))) (p21 : List Int) (i23 : Int) : Option ((List Int)) :=
  if (decide (i23 < (p21.length : Int))) = true then
  (gidx p21 i23).bind fun xv29 =>
  rec25 (p21.set (i23 : Int).toNat 165) (IntKind.i64.wrap (i23 + 1))
  else
  some p21
def F_kit_Spoil_L1 : Nat → (List Int) → Int → Option ((List Int))
  | 0 => fun _ _ => none
  | k + 1 => F_kit_Spoil_l1 (F_kit_Spoil_L1 k)
def F_kit_Spoil (b1 : List Int) : Option ((List Int)) :=
  F_kit_Spoil_L1 fuel0 b1 0
def F_law06_IpsixParses_l3 (rec1004 : (List T_ipsix_Ext) → Int → Option Bool) (t690 : Int) (rec692 : Int → Option Bool) (xv1001 : List T_ipsix_Ext) (j1002 : Int) : Option Bool :=
  if (decide (j1002 < (xv1001.length : Int))) = true then
  (gidx xv1001 j1002).bind fun xv1008 =>
  (F_kit_Spoil xv1008.f_Data).bind fun y1021 =>
  rec1004 (xv1001.set (j1002 : Int).toNat (T_ipsix_Ext.mk xv1008.f_Kind y1021)) (IntKind.i64.wrap (j1002 + 1))
  else
  rec692 (IntKind.i64.wrap (t690 + 1))
def F_law06_IpsixParses_L3 (t690 : Int) (rec692 : Int → Option Bool) : Nat → (List T_ipsix_Ext) → Int → Option Bool
  | 0 => fun _ _ => none
  | k + 1 => F_law06_IpsixParses_l3 (F_law06_IpsixParses_L3 t690 rec692 k) t690 rec692
def F_law06_IpsixParses_l2 (rec912 : (List T_ipsix_Ext) → (List T_ipsix_Ext) → Int → Option Bool) (t690 : Int) (rec692 : Int → Option Bool) (cv901 : List T_ipsix_Ext) (xv909 : List T_ipsix_Ext) (j910 : Int) : Option Bool :=
  if (decide (j910 < (cv901.length : Int))) = true then
  (gidx cv901 j910).bind fun xv916 =>
  (F_kit_Spoil xv916.f_Data).bind fun y929 =>
  rec912 (cv901.set (j910 : Int).toNat (T_ipsix_Ext.mk xv916.f_Kind y929)) xv909 (IntKind.i64.wrap (j910 + 1))
  else
  F_law06_IpsixParses_L3 t690 rec692 fuel0 xv909 0
def F_law06_IpsixParses_L2 (t690 : Int) (rec692 : Int → Option Bool) : Nat → (List T_ipsix_Ext) → (List T_ipsix_Ext) → Int → Option Bool
  | 0 => fun _ _ _ => none
  | k + 1 => F_law06_IpsixParses_l2 (F_law06_IpsixParses_L2 t690 rec692 k) t690 rec692
def F_law06_IpsixParses_j2 (t690 : Int) (rec692 : Int → Option Bool) (y741 : T_ipsix_Header × T_ipsix_Chain × (List Int) × Int) (cv812 : List T_ipsix_Ext) (xv820 : List T_ipsix_Ext) (t822 : Bool) : Option Bool :=
  if t822 = true then
  some false
  else
  (F_kit_Spoil y741.2.2.1).bind fun y824 =>
  F_law06_IpsixParses_L2 t690 rec692 fuel0 cv812 xv820 0
def F_law06_IpsixParses_j1 (b2 : List Int) (y10 : (List Int)) (t690 : Int) (rec692 : Int → Option Bool) (cv738 : List T_ipsix_Ext) (t739 : Bool) : Option Bool :=
  if t739 = true then
  some false
  else
  (F_ipsix_Body b2).bind fun y741 =>
  (F_ref06_Body y10).bind fun y762 =>
  if (y741.2.2.2 != y762.2.2.2) = true then
  F_law06_IpsixParses_j2 t690 rec692 y741 cv738 y741.2.1.f_Exts true
  else
  (F_docs_Ipsix y741.1).bind fun y781 =>
  (F_docs_NoIpsix y762.1).bind fun y785 =>
  if (!(q_ref06_Header y781 y785)) = true then
  F_law06_IpsixParses_j2 t690 rec692 y741 cv738 y741.2.1.f_Exts true
  else
  (F_docs_Chain y741.2.1).bind fun y789 =>
  (F_ref06_Same y789 y762.2.1).bind fun y796 =>
  if (!y796) = true then
  F_law06_IpsixParses_j2 t690 rec692 y741 cv738 y741.2.1.f_Exts true
  else
  (F_kit_SameBytes y741.2.2.1 y762.2.2.1).bind fun y800 =>
  F_law06_IpsixParses_j2 t690 rec692 y741 cv738 y741.2.1.f_Exts (!y800)
def F_law06_IpsixParses_j3 (t1037 : Bool) : Option Bool :=
  some t1037
def F_law06_IpsixParses_l1 (rec692 : Int → Option Bool) (first1 : Int) (b2 : List Int) (y10 : (List Int)) (t690 : Int) : Option Bool :=
  if (decide (t690 < 2)) = true then
  (F_ipsix_ParseChain first1 b2).bind fun y694 =>
  (F_ref06_ParseChain first1 y10).bind fun y708 =>
  if (y694.2.2 != y708.2.2) = true then
  F_law06_IpsixParses_j1 b2 y10 t690 rec692 y694.1.f_Exts true
  else
  if (y694.2.1 != y708.2.1) = true then
  F_law06_IpsixParses_j1 b2 y10 t690 rec692 y694.1.f_Exts true
  else
  (F_docs_Chain y694.1).bind fun y719 =>
  (F_ref06_Same y719 y708.1).bind fun y726 =>
  F_law06_IpsixParses_j1 b2 y10 t690 rec692 y694.1.f_Exts (!y726)
  else
  (F_kit_SameBytes y10 b2).bind fun y1029 =>
  if y1029 = true then
  (F_law06_works).bind fun y1033 =>
  F_law06_IpsixParses_j3 y1033
  else
  F_law06_IpsixParses_j3 false
def F_law06_IpsixParses_L1 (first1 : Int) (b2 : List Int) (y10 : (List Int)) : Nat → Int → Option Bool
  | 0 => fun _ => none
  | k + 1 => F_law06_IpsixParses_l1 (F_law06_IpsixParses_L1 first1 b2 y10 k) first1 b2 y10
def F_law06_IpsixParses (first1 : Int) (b2 : List Int) : Option Bool :=
  if (decide (3000 < (b2.length : Int))) = true then
  (F_law06_works).bind fun y6 =>
  some y6
  else
  (F_kit_Own b2).bind fun y10 =>
  F_law06_IpsixParses_L1 first1 b2 y10 fuel0 0
def F_bits_Least_l1 (rec7 : Int → Int → Option Int) (v4 : Int) (nv5 : Int) : Option Int :=
  if (decide (0 < v4)) = true then
  rec7 (Ox.shr .u64 v4 8) (IntKind.i64.wrap (nv5 + 1))
  else
  some nv5
def F_bits_Least_L1 : Nat → Int → Int → Option Int
  | 0 => fun _ _ => none
  | k + 1 => F_bits_Least_l1 (F_bits_Least_L1 k)
def F_bits_Least (v1 : Int) : Option Int :=
  F_bits_Least_L1 fuel0 (Ox.shr .u64 v1 8) 1
def F_bits_fits_j1 (t11 : Bool) : Option Bool :=
  some t11
def F_bits_fits (v1 : Int) (size2 : Int) : Option Bool :=
  (F_bits_right size2).bind fun y3 =>
  if y3 = true then
  (F_bits_Least v1).bind fun y7 =>
  F_bits_fits_j1 (decide (y7 ≤ size2))
  else
  F_bits_fits_j1 false
def F_bits_of_l1 (rec30 : (List Int) → Int → Option ((List Int))) (v1 : Int) (size2 : Int) (b27 : List Int) (t28 : Int) : Option ((List Int)) :=
  if (decide (t28 < size2)) = true then
  if (decide (¬ (IntKind.i64.wrap (8 * t28)) < 0)) = true then
  (gidx b27 (IntKind.i64.wrap ((IntKind.i64.wrap (size2 - 1)) - t28))).bind fun xv35 =>
  rec30 (b27.set ((IntKind.i64.wrap ((IntKind.i64.wrap (size2 - 1)) - t28)) : Int).toNat (IntKind.u8.wrap (Ox.shr .u64 v1 (IntKind.i64.wrap (8 * t28))))) (IntKind.i64.wrap (t28 + 1))
  else none
  else
  some b27
def F_bits_of_L1 (v1 : Int) (size2 : Int) : Nat → (List Int) → Int → Option ((List Int))
  | 0 => fun _ _ => none
  | k + 1 => F_bits_of_l1 (F_bits_of_L1 v1 size2 k) v1 size2
def F_bits_of (v1 : Int) (size2 : Int) : Option ((List Int)) :=
  if (decide (0 ≤ size2 ∧ size2 ≤ lim)) = true then
  F_bits_of_L1 v1 size2 fuel0 (List.replicate (Int.toNat size2) (0 : Int)) 0
  else none
def F_bits_Writer_Raw (wv1 : T_bits_Writer) (b7 : List Int) : Option (Int × T_bits_Writer) :=
  if (decide (wv1.f_b.length + b7.length ≤ lim)) = true then
  some (0, (T_bits_Writer.mk (wv1.f_b ++ b7)))
  else none
def F_bits_Writer_Put (wv1 : T_bits_Writer) (v7 : Int) (size8 : Int) : Option (Int × T_bits_Writer) :=
  (F_bits_fits v7 size8).bind fun y10 =>
  if (!y10) = true then
  some (2, wv1)
  else
  (F_bits_of v7 size8).bind fun y14 =>
  (F_bits_Writer_Raw wv1 y14).bind fun y21 =>
  some (y21.1, y21.2)
def F_slices_Clone_byte_byte (s1 : List Int) : Option ((List Int)) :=
  if (decide (([] : List Int).length + s1.length ≤ lim)) = true then
  some (([] : List Int) ++ s1)
  else none
def F_bits_Writer_Bytes (wv1 : T_bits_Writer) : Option ((List Int) × T_bits_Writer) :=
  (F_slices_Clone_byte_byte wv1.f_b).bind fun y8 =>
  some (y8, wv1)
def F_ipsix_Put (h1 : T_ipsix_Header) : Option ((List Int) × Int) :=
  if (decide (1048576 ≤ h1.f_Flow)) = true then
  some ([], 51)
  else
  (F_bits_Writer_Put (T_bits_Writer.mk ([] : List Int)) (bits .or .u64 (bits .or .u64 1610612736 (Ox.shl .u64 (IntKind.u64.wrap h1.f_Class) 20)) (IntKind.u64.wrap h1.f_Flow)) 4).bind fun y9 =>
  (F_bits_Writer_Put y9.2 (IntKind.u64.wrap h1.f_Length) 2).bind fun y16 =>
  (F_bits_Writer_Raw y16.2 ([h1.f_Next, h1.f_Hops] : List Int)).bind fun y26 =>
  (F_bits_Writer_Raw y26.2 (arrL 16 h1.f_Src)).bind fun y34 =>
  (F_bits_Writer_Raw y34.2 (arrL 16 h1.f_Dst)).bind fun y42 =>
  (F_bits_Writer_Bytes y42.2).bind fun y49 =>
  some (y49.1, 0)
def F_ref01_Put_B (recF : Int → Int → Option ((List Int))) (v1 : Int) (size2 : Int) : Option ((List Int)) :=
  if (size2 == 0) = true then
  some ([])
  else
  (recF (IntKind.u64.wrap (Int.tdiv v1 256)) (IntKind.i64.wrap (size2 - 1))).bind fun y3 =>
  if (decide (y3.length + ([(IntKind.u8.wrap (Int.tmod v1 256))] : List Int).length ≤ lim)) = true then
  some (y3 ++ ([(IntKind.u8.wrap (Int.tmod v1 256))] : List Int))
  else none
def F_ref01_Put_R : Nat → Int → Int → Option ((List Int))
  | 0 => fun _ _ => none
  | k + 1 => F_ref01_Put_B (F_ref01_Put_R k)
def F_ref01_Put (v1 : Int) (size2 : Int) : Option ((List Int)) := F_ref01_Put_R fuel0 v1 size2
def F_ref06_Put (h1 : T_ref06_Header) : Option ((List Int) × Int) :=
  if (decide (1048576 ≤ h1.f_Flow)) = true then
  some ([], 51)
  else
  (F_ref01_Put (IntKind.u64.wrap ((IntKind.u64.wrap (1610612736 + (IntKind.u64.wrap ((IntKind.u64.wrap h1.f_Class) * 1048576)))) + (IntKind.u64.wrap h1.f_Flow))) 4).bind fun y5 =>
  (F_ref01_Put (IntKind.u64.wrap h1.f_Length) 2).bind fun y12 =>
  if (decide (y5.length + y12.length ≤ lim)) = true then
  if (decide ((y5 ++ y12).length + ([h1.f_Next, h1.f_Hops] : List Int).length ≤ lim)) = true then
  if (decide (h1.f_Src.size ≤ lim)) = true then
  if (decide (((y5 ++ y12) ++ ([h1.f_Next, h1.f_Hops] : List Int)).length + (numsOfStr h1.f_Src).length ≤ lim)) = true then
  if (decide (h1.f_Dst.size ≤ lim)) = true then
  if (decide ((((y5 ++ y12) ++ ([h1.f_Next, h1.f_Hops] : List Int)) ++ (numsOfStr h1.f_Src)).length + (numsOfStr h1.f_Dst).length ≤ lim)) = true then
  some (((((y5 ++ y12) ++ ([h1.f_Next, h1.f_Hops] : List Int)) ++ (numsOfStr h1.f_Src)) ++ (numsOfStr h1.f_Dst)), 0)
  else none
  else none
  else none
  else none
  else none
  else none
def F_law06_IpsixHeads_j2 (t91 : Bool) : Option Bool :=
  some t91
def F_law06_IpsixHeads_j1 (h1 : T_ipsix_Header) (b2 : List Int) (y21 : (List Int) × Int) (t72 : Bool) : Option Bool :=
  if t72 = true then
  some false
  else
  if (y21.2 == 0) = true then
  if (decide (y21.1.length + b2.length ≤ lim)) = true then
  (F_ipsix_Parse (y21.1 ++ b2)).bind fun y79 =>
  if (y79.2 == 0) = true then
  if (q_ipsix_Header y79.1 h1) = true then
  (F_law06_works).bind fun y87 =>
  F_law06_IpsixHeads_j2 y87
  else
  F_law06_IpsixHeads_j2 false
  else
  F_law06_IpsixHeads_j2 false
  else none
  else
  (F_law06_works).bind fun y93 =>
  some y93
def F_law06_IpsixHeads (h1 : T_ipsix_Header) (b2 : List Int) : Option Bool :=
  if (decide (100 < (b2.length : Int))) = true then
  (F_law06_works).bind fun y9 =>
  some y9
  else
  (F_docs_Ipsix h1).bind fun y13 =>
  (F_ipsix_Put h1).bind fun y21 =>
  (F_ref06_Put y13).bind fun y28 =>
  (F_ipsix_Parse b2).bind fun y35 =>
  (F_kit_Own b2).bind fun y43 =>
  (F_ref06_Parse y43).bind fun y50 =>
  if (y21.2 != y28.2) = true then
  F_law06_IpsixHeads_j1 h1 b2 y21 true
  else
  (F_kit_SameBytes y21.1 y28.1).bind fun y58 =>
  if (!y58) = true then
  F_law06_IpsixHeads_j1 h1 b2 y21 true
  else
  if (y35.2 != y50.2) = true then
  F_law06_IpsixHeads_j1 h1 b2 y21 true
  else
  (F_docs_Ipsix y35.1).bind fun y62 =>
  (F_docs_NoIpsix y50.1).bind fun y66 =>
  F_law06_IpsixHeads_j1 h1 b2 y21 (!(q_ref06_Header y62 y66))
def F_law06_IpsixBack_j3 (t153 : Bool) : Option Bool :=
  some t153
def F_law06_IpsixBack_j4 (t181 : Bool) : Option Bool :=
  some t181
def F_law06_IpsixBack_j2 (first10 : Int) (b11 : List Int) : Option Bool :=
  (F_ipsix_ParseChain first10 b11).bind fun y135 =>
  if (y135.2.2 != 0) = true then
  if (y135.2.1 == 0) = true then
  if ((y135.1.f_Exts.length : Int) == 0) = true then
  (F_law06_works).bind fun y149 =>
  F_law06_IpsixBack_j3 y149
  else
  F_law06_IpsixBack_j3 false
  else
  F_law06_IpsixBack_j3 false
  else
  (F_ipsix_PutChain y135.1).bind fun y155 =>
  (F_ipsix_Right y135.1).bind fun y162 =>
  if y162 = true then
  if (y155.2.2 == 0) = true then
  if (y155.2.1 == first10) = true then
  if (decide (y135.2.1 ≤ (b11.length : Int))) = true then
  (gcut b11 0 y135.2.1).bind fun cut166 =>
  (F_kit_SameBytes y155.1 cut166).bind fun y173 =>
  if y173 = true then
  (F_law06_works).bind fun y177 =>
  F_law06_IpsixBack_j4 y177
  else
  F_law06_IpsixBack_j4 false
  else
  F_law06_IpsixBack_j4 false
  else
  F_law06_IpsixBack_j4 false
  else
  F_law06_IpsixBack_j4 false
  else
  F_law06_IpsixBack_j4 false
def F_law06_IpsixBack_j6 (first10 : Int) (b11 : List Int) (t132 : Bool) : Option Bool :=
  if t132 = true then
  some false
  else
  F_law06_IpsixBack_j2 first10 b11
def F_law06_IpsixBack_j5 (h1 : T_ipsix_Header) (cv2 : T_ipsix_Chain) (behind6 : List Int) (first10 : Int) (b11 : List Int) (y33 : (List Int) × Int × Int) (t73 : Bool) : Option Bool :=
  if t73 = true then
  some false
  else
  (F_ipsix_Put (T_ipsix_Header.mk h1.f_Class (Int.tmod h1.f_Flow 1048576) (IntKind.u16.wrap (gmin 65535 (IntKind.i64.wrap ((y33.1.length : Int) + (behind6.length : Int))))) y33.2.1 h1.f_Hops h1.f_Src h1.f_Dst)).bind fun y78 =>
  if (decide (y78.1.length + y33.1.length ≤ lim)) = true then
  if (decide ((y78.1 ++ y33.1).length + behind6.length ≤ lim)) = true then
  if (decide (((y78.1 ++ y33.1) ++ behind6).length + ([1, 2, 3] : List Int).length ≤ lim)) = true then
  (F_ipsix_Body (((y78.1 ++ y33.1) ++ behind6) ++ ([1, 2, 3] : List Int))).bind fun y103 =>
  if (y78.2 != 0) = true then
  F_law06_IpsixBack_j6 first10 b11 true
  else
  if (decide ((y33.1.length : Int) ≤ 60000)) = true then
  if (y103.2.2.2 != 0) = true then
  F_law06_IpsixBack_j6 first10 b11 true
  else
  if (!(q_ipsix_Header y103.1 (T_ipsix_Header.mk h1.f_Class (Int.tmod h1.f_Flow 1048576) (IntKind.u16.wrap (gmin 65535 (IntKind.i64.wrap ((y33.1.length : Int) + (behind6.length : Int))))) y33.2.1 h1.f_Hops h1.f_Src h1.f_Dst))) = true then
  F_law06_IpsixBack_j6 first10 b11 true
  else
  (F_ipsix_Same y103.2.1 cv2).bind fun y124 =>
  if (!y124) = true then
  F_law06_IpsixBack_j6 first10 b11 true
  else
  (F_kit_SameBytes y103.2.2.1 behind6).bind fun y128 =>
  F_law06_IpsixBack_j6 first10 b11 (!y128)
  else
  F_law06_IpsixBack_j6 first10 b11 false
  else none
  else none
  else none
def F_law06_IpsixBack_j1 (h1 : T_ipsix_Header) (cv2 : T_ipsix_Chain) (behind6 : List Int) (first10 : Int) (b11 : List Int) (t27 : Bool) : Option Bool :=
  if t27 = true then
  (F_law06_works).bind fun y29 =>
  some y29
  else
  (F_ipsix_PutChain cv2).bind fun y33 =>
  if (y33.2.2 == 0) = true then
  (F_kit_Own y33.1).bind fun y40 =>
  if (decide (y40.length + behind6.length ≤ lim)) = true then
  (F_ipsix_ParseChain y33.2.1 (y40 ++ behind6)).bind fun y52 =>
  if (y52.2.2 != 0) = true then
  F_law06_IpsixBack_j5 h1 cv2 behind6 first10 b11 y33 true
  else
  if (y52.2.1 != (y33.1.length : Int)) = true then
  F_law06_IpsixBack_j5 h1 cv2 behind6 first10 b11 y33 true
  else
  (F_ipsix_Same y52.1 cv2).bind fun y66 =>
  F_law06_IpsixBack_j5 h1 cv2 behind6 first10 b11 y33 (!y66)
  else none
  else
  F_law06_IpsixBack_j2 first10 b11
def F_law06_IpsixBack (h1 : T_ipsix_Header) (cv2 : T_ipsix_Chain) (behind6 : List Int) (first10 : Int) (b11 : List Int) : Option Bool :=
  (F_law06_few cv2).bind fun y21 =>
  if (!y21) = true then
  F_law06_IpsixBack_j1 h1 cv2 behind6 first10 b11 true
  else
  if (decide (200 < (behind6.length : Int))) = true then
  F_law06_IpsixBack_j1 h1 cv2 behind6 first10 b11 true
  else
  F_law06_IpsixBack_j1 h1 cv2 behind6 first10 b11 (decide (3000 < (b11.length : Int)))
def F_law06_IpsixKnown_j3 (nv1701 : Int) (kv1710 : Int) (rec1712 : Int → (List T_ipsix_Ext) → Int → Option Bool) (xv1766 : Int) (cv1895 : List T_ipsix_Ext) (xv1900 : List Int) : Option Bool :=
  if (decide (cv1895.length + ([(T_ipsix_Ext.mk xv1766 xv1900)]).length ≤ lim)) = true then
  rec1712 (Int.tmod (IntKind.i64.wrap ((IntKind.i64.wrap ((IntKind.i64.wrap (nv1701 * 31)) + (IntKind.i64.wrap (7 * kv1710)))) + 11)) 100003) (cv1895 ++ [(T_ipsix_Ext.mk xv1766 xv1900)]) (IntKind.i64.wrap (kv1710 - 1))
  else none
def F_law06_IpsixKnown_j4 (nv1701 : Int) (kv1710 : Int) (rec1712 : Int → (List T_ipsix_Ext) → Int → Option Bool) (xv1766 : Int) (xv1837 : List Int) (cv1869 : List T_ipsix_Ext) (t1872 : Bool) : Option Bool :=
  if t1872 = true then
  (gidx xv1837 0).bind fun xv1876 =>
  (gidx (xv1837.set (0 : Int).toNat (IntKind.u8.wrap (Int.tmod nv1701 2))) 1).bind fun xv1881 =>
  (gidx (xv1837.set (0 : Int).toNat (IntKind.u8.wrap (Int.tmod nv1701 2))) 1).bind fun xv1884 =>
  F_law06_IpsixKnown_j3 nv1701 kv1710 rec1712 xv1766 cv1869 ((xv1837.set (0 : Int).toNat (IntKind.u8.wrap (Int.tmod nv1701 2))).set (1 : Int).toNat (bits .and .u8 xv1881 249))
  else
  F_law06_IpsixKnown_j3 nv1701 kv1710 rec1712 xv1766 cv1869 xv1837
def F_law06_IpsixKnown_j2 (i1329 : Int) (nv1701 : Int) (kv1710 : Int) (rec1712 : Int → (List T_ipsix_Ext) → Int → Option Bool) (xv1766 : Int) (xv1837 : List Int) (m1838 : Int) (rec1840 : (List T_ipsix_Ext) → (List Int) → Int → Option Bool) (cv1850 : List T_ipsix_Ext) (t1853 : Bool) : Option Bool :=
  if t1853 = true then
  if (decide (¬ m1838 < 0)) = true then
  (gidx xv1837 m1838).bind fun xv1858 =>
  rec1840 cv1850 (xv1837.set (m1838 : Int).toNat (IntKind.u8.wrap (Ox.shr .i64 nv1701 m1838))) (IntKind.i64.wrap (m1838 + 1))
  else none
  else
  if (xv1766 == 44) = true then
  if (decide (1 < (xv1837.length : Int))) = true then
  F_law06_IpsixKnown_j4 nv1701 kv1710 rec1712 xv1766 xv1837 cv1850 (decide (0 < (Int.tmod i1329 3)))
  else
  F_law06_IpsixKnown_j4 nv1701 kv1710 rec1712 xv1766 xv1837 cv1850 false
  else
  F_law06_IpsixKnown_j4 nv1701 kv1710 rec1712 xv1766 xv1837 cv1850 false
def F_law06_IpsixKnown_l3 (rec1840 : (List T_ipsix_Ext) → (List Int) → Int → Option Bool) (i1329 : Int) (nv1701 : Int) (kv1710 : Int) (rec1712 : Int → (List T_ipsix_Ext) → Int → Option Bool) (xv1766 : Int) (cv1832 : List T_ipsix_Ext) (xv1837 : List Int) (m1838 : Int) : Option Bool :=
  if (decide (m1838 < (xv1837.length : Int))) = true then
  F_law06_IpsixKnown_j2 i1329 nv1701 kv1710 rec1712 xv1766 xv1837 m1838 rec1840 cv1832 (decide (m1838 < 6))
  else
  F_law06_IpsixKnown_j2 i1329 nv1701 kv1710 rec1712 xv1766 xv1837 m1838 rec1840 cv1832 false
def F_law06_IpsixKnown_L3 (i1329 : Int) (nv1701 : Int) (kv1710 : Int) (rec1712 : Int → (List T_ipsix_Ext) → Int → Option Bool) (xv1766 : Int) : Nat → (List T_ipsix_Ext) → (List Int) → Int → Option Bool
  | 0 => fun _ _ _ => none
  | k + 1 => F_law06_IpsixKnown_l3 (F_law06_IpsixKnown_L3 i1329 nv1701 kv1710 rec1712 xv1766 k) i1329 nv1701 kv1710 rec1712 xv1766
def F_law06_IpsixKnown_j1 (i1329 : Int) (nv1701 : Int) (kv1710 : Int) (rec1712 : Int → (List T_ipsix_Ext) → Int → Option Bool) (cv1763 : List T_ipsix_Ext) (xv1766 : Int) (xv1770 : List Int) : Option Bool :=
  F_law06_IpsixKnown_L3 i1329 nv1701 kv1710 rec1712 xv1766 fuel0 cv1763 xv1770 0
def F_law06_IpsixKnown_j6 (i1329 : Int) (rec1331 : Int → Int → Option Bool) (nv1701 : Int) (t1991 : Bool) : Option Bool :=
  if t1991 = true then
  some false
  else
  rec1331 nv1701 (IntKind.i64.wrap (i1329 + 1))
def F_law06_IpsixKnown_j5 (i1329 : Int) (rec1331 : Int → Int → Option Bool) (nv1701 : Int) (xv1919 : Int) (y1921 : (List Int) × Int × Int) (cv1954 : List T_ipsix_Ext) (b1958 : List Int) : Option Bool :=
  (F_law06_IpsixChains (T_ipsix_Chain.mk cv1954 xv1919) (T_ipsix_Chain.mk cv1954 6)).bind fun y1960 =>
  if (!y1960) = true then
  F_law06_IpsixKnown_j6 i1329 rec1331 nv1701 true
  else
  if (decide (0 ≤ (Int.tmod nv1701 20) ∧ (Int.tmod nv1701 20) ≤ lim)) = true then
  (F_law06_IpsixBack (T_ipsix_Header.mk (IntKind.u8.wrap nv1701) (IntKind.u32.wrap nv1701) 0 0 1 (List.replicate 16 0) (List.replicate 16 0)) (T_ipsix_Chain.mk cv1954 xv1919) (List.replicate (Int.toNat (Int.tmod nv1701 20)) (0 : Int)) y1921.2.1 b1958).bind fun y1968 =>
  if (!y1968) = true then
  F_law06_IpsixKnown_j6 i1329 rec1331 nv1701 true
  else
  (gcut b1958 0 (IntKind.i64.wrap ((b1958.length : Int) - (IntKind.i64.wrap ((Int.tmod nv1701 2) * (gmin 1 (b1958.length : Int))))))).bind fun cut1972 =>
  (F_law06_IpsixParses y1921.2.1 cut1972).bind fun y1979 =>
  if (!y1979) = true then
  F_law06_IpsixKnown_j6 i1329 rec1331 nv1701 true
  else
  (gidx ([0, 43, 44, 60, 6, 17, 59, 255] : List Int) (Int.tmod nv1701 8)).bind fun xv1985 =>
  (F_law06_IpsixParses xv1985 b1958).bind fun y1986 =>
  F_law06_IpsixKnown_j6 i1329 rec1331 nv1701 (!y1986)
  else none
def F_law06_IpsixKnown_j7 (i1329 : Int) (rec1331 : Int → Int → Option Bool) (nv1701 : Int) (xv1919 : Int) (y1921 : (List Int) × Int × Int) (cv1936 : List T_ipsix_Ext) (t1938 : Bool) : Option Bool :=
  if t1938 = true then
  if (decide ((y1921.1.length : Int) ≠ 0)) = true then
  (gidx y1921.1 (Int.tmod nv1701 (y1921.1.length : Int))).bind fun xv1943 =>
  F_law06_IpsixKnown_j5 i1329 rec1331 nv1701 xv1919 y1921 cv1936 (y1921.1.set ((Int.tmod nv1701 (y1921.1.length : Int)) : Int).toNat (IntKind.u8.wrap nv1701))
  else none
  else
  F_law06_IpsixKnown_j5 i1329 rec1331 nv1701 xv1919 y1921 cv1936 y1921.1
def F_law06_IpsixKnown_l2 (rec1712 : Int → (List T_ipsix_Ext) → Int → Option Bool) (i1329 : Int) (rec1331 : Int → Int → Option Bool) (nv1701 : Int) (cv1709 : List T_ipsix_Ext) (kv1710 : Int) : Option Bool :=
  if (decide (0 < kv1710)) = true then
  if (decide ((IntKind.i64.wrap (4 + (Int.tmod i1329 2))) ≠ 0)) = true then
  (gidx ([0, 43, 44, 60, 6, 17, 59, 255] : List Int) (Int.tmod (Int.tmod (IntKind.i64.wrap (Int.tdiv nv1701 5)) 8) (IntKind.i64.wrap (4 + (Int.tmod i1329 2))))).bind fun xv1717 =>
  if (decide ((IntKind.i64.wrap (4 + (Int.tmod i1329 6))) ≠ 0)) = true then
  (gidx ([6, 6, 14, 22, 5, 7, 6, 2046, 2054] : List Int) (Int.tmod (Int.tmod (IntKind.i64.wrap (Int.tdiv nv1701 7)) 9) (IntKind.i64.wrap (4 + (Int.tmod i1329 6))))).bind fun xv1724 =>
  if (decide (0 ≤ xv1724 ∧ xv1724 ≤ lim)) = true then
  F_law06_IpsixKnown_j1 i1329 nv1701 kv1710 rec1712 cv1709 xv1717 (List.replicate (Int.toNat xv1724) (0 : Int))
  else none
  else none
  else none
  else
  (gidx ([0, 43, 44, 60, 6, 17, 59, 255] : List Int) (Int.tmod (IntKind.i64.wrap (Int.tdiv nv1701 3)) 8)).bind fun xv1919 =>
  (F_ipsix_PutChain (T_ipsix_Chain.mk cv1709 xv1919)).bind fun y1921 =>
  if (decide (3 < (y1921.1.length : Int))) = true then
  F_law06_IpsixKnown_j7 i1329 rec1331 nv1701 xv1919 y1921 cv1709 ((Int.tmod i1329 4) == 0)
  else
  F_law06_IpsixKnown_j7 i1329 rec1331 nv1701 xv1919 y1921 cv1709 false
def F_law06_IpsixKnown_L2 (i1329 : Int) (rec1331 : Int → Int → Option Bool) : Nat → Int → (List T_ipsix_Ext) → Int → Option Bool
  | 0 => fun _ _ _ => none
  | k + 1 => F_law06_IpsixKnown_l2 (F_law06_IpsixKnown_L2 i1329 rec1331 k) i1329 rec1331
def F_law06_IpsixKnown_j8 (i2085 : Int) (rec2087 : (List T_ipsix_Ext) → Int → Option Bool) (long2104 : List T_ipsix_Ext) (t2105 : Bool) : Option Bool :=
  if t2105 = true then
  some false
  else
  if (decide (0 ≤ 6 ∧ 6 ≤ lim)) = true then
  if (decide (long2104.length + ([(T_ipsix_Ext.mk 60 (List.replicate (Int.toNat 6) (0 : Int)))]).length ≤ lim)) = true then
  rec2087 (long2104 ++ [(T_ipsix_Ext.mk 60 (List.replicate (Int.toNat 6) (0 : Int)))]) (IntKind.i64.wrap (i2085 + 1))
  else none
  else none
def F_law06_IpsixKnown_j9 (i2316 : Int) (rec2318 : (List T_ipsix_Ext) → Int → Option Bool) (long2368 : List T_ipsix_Ext) (t2372 : Bool) : Option Bool :=
  if t2372 = true then
  some false
  else
  rec2318 long2368 (IntKind.i64.wrap (i2316 + 1))
def F_law06_IpsixKnown_j10 (t2393 : Bool) : Option Bool :=
  some t2393
def F_law06_IpsixKnown_l6 (rec2318 : (List T_ipsix_Ext) → Int → Option Bool) (many2164 : List Int) (y2178 : (List Int) × Int) (long2312 : List T_ipsix_Ext) (i2316 : Int) : Option Bool :=
  if (decide (i2316 ≤ (y2178.1.length : Int))) = true then
  (gcut y2178.1 0 i2316).bind fun cut2320 =>
  (F_law06_IpsixHeads (T_ipsix_Header.mk 255 1048575 7 6 9 ([1, 0, 0, 0, 0, 0, 0, 0, 0, 0, 0, 0, 0, 0, 0, 0]) ([0, 0, 0, 0, 0, 0, 0, 0, 0, 0, 0, 0, 0, 0, 0, 2])) cut2320).bind fun y2327 =>
  if (!y2327) = true then
  F_law06_IpsixKnown_j9 i2316 rec2318 long2312 true
  else
  (gcut y2178.1 0 i2316).bind fun cut2331 =>
  (gcut many2164 0 (Int.tmod i2316 9)).bind fun cut2338 =>
  (F_kit_Own cut2331).bind fun y2345 =>
  if (decide (y2345.length + cut2338.length ≤ lim)) = true then
  (F_law06_IpsixParses 6 (y2345 ++ cut2338)).bind fun y2357 =>
  F_law06_IpsixKnown_j9 i2316 rec2318 long2312 (!y2357)
  else none
  else
  (F_law06_IpsixChains (T_ipsix_Chain.mk long2312 6) (T_ipsix_Chain.mk ([]) 0)).bind fun y2374 =>
  if y2374 = true then
  (F_law06_IpsixParses 60 many2164).bind fun y2378 =>
  if y2378 = true then
  (F_law06_IpsixHeads (T_ipsix_Header.mk 0 1048576 0 0 0 (List.replicate 16 0) (List.replicate 16 0)) ([96] : List Int)).bind fun y2385 =>
  if y2385 = true then
  (F_law06_works).bind fun y2389 =>
  F_law06_IpsixKnown_j10 y2389
  else
  F_law06_IpsixKnown_j10 false
  else
  F_law06_IpsixKnown_j10 false
  else
  F_law06_IpsixKnown_j10 false
def F_law06_IpsixKnown_L6 (many2164 : List Int) (y2178 : (List Int) × Int) : Nat → (List T_ipsix_Ext) → Int → Option Bool
  | 0 => fun _ _ => none
  | k + 1 => F_law06_IpsixKnown_l6 (F_law06_IpsixKnown_L6 many2164 y2178 k) many2164 y2178
def F_law06_IpsixKnown_l5 (rec2167 : (List T_ipsix_Ext) → (List Int) → Int → Option Bool) (long2160 : List T_ipsix_Ext) (many2164 : List Int) (i2165 : Int) : Option Bool :=
  if (decide (i2165 < 136)) = true then
  (gidx many2164 i2165).bind fun xv2171 =>
  rec2167 long2160 (many2164.set (i2165 : Int).toNat 60) (IntKind.i64.wrap (i2165 + 8))
  else
  (F_ipsix_Put (T_ipsix_Header.mk 255 1048575 7 6 9 ([1, 0, 0, 0, 0, 0, 0, 0, 0, 0, 0, 0, 0, 0, 0, 0]) ([0, 0, 0, 0, 0, 0, 0, 0, 0, 0, 0, 0, 0, 0, 0, 2]))).bind fun y2178 =>
  F_law06_IpsixKnown_L6 many2164 y2178 fuel0 long2160 0
def F_law06_IpsixKnown_L5 : Nat → (List T_ipsix_Ext) → (List Int) → Int → Option Bool
  | 0 => fun _ _ _ => none
  | k + 1 => F_law06_IpsixKnown_l5 (F_law06_IpsixKnown_L5 k)
def F_law06_IpsixKnown_l4 (rec2087 : (List T_ipsix_Ext) → Int → Option Bool) (long2084 : List T_ipsix_Ext) (i2085 : Int) : Option Bool :=
  if (decide (i2085 < 17)) = true then
  (F_law06_IpsixChains (T_ipsix_Chain.mk long2084 6) (T_ipsix_Chain.mk long2084 6)).bind fun y2089 =>
  if (!y2089) = true then
  F_law06_IpsixKnown_j8 i2085 rec2087 long2084 true
  else
  (F_law06_IpsixBack (T_ipsix_Header.mk 0 0 0 0 0 (List.replicate 16 0) (List.replicate 16 0)) (T_ipsix_Chain.mk long2084 6) [] 60 []).bind fun y2093 =>
  F_law06_IpsixKnown_j8 i2085 rec2087 long2084 (!y2093)
  else
  if (decide (0 ≤ 136 ∧ 136 ≤ lim)) = true then
  F_law06_IpsixKnown_L5 fuel0 long2084 (List.replicate (Int.toNat 136) (0 : Int)) 0
  else none
def F_law06_IpsixKnown_L4 : Nat → (List T_ipsix_Ext) → Int → Option Bool
  | 0 => fun _ _ => none
  | k + 1 => F_law06_IpsixKnown_l4 (F_law06_IpsixKnown_L4 k)
def F_law06_IpsixKnown_l1 (rec1331 : Int → Int → Option Bool) (nv1328 : Int) (i1329 : Int) : Option Bool :=
  if (decide (i1329 < 300)) = true then
  F_law06_IpsixKnown_L2 i1329 rec1331 fuel0 nv1328 ([]) (Int.tmod nv1328 5)
  else
  F_law06_IpsixKnown_L4 fuel0 ([]) 0
def F_law06_IpsixKnown_L1 : Nat → Int → Int → Option Bool
  | 0 => fun _ _ => none
  | k + 1 => F_law06_IpsixKnown_l1 (F_law06_IpsixKnown_L1 k)
def F_law06_IpsixKnown : Option Bool :=
  F_law06_IpsixKnown_L1 fuel0 1 0
end Go.Proofs.Ytikjomacnbemhaa
