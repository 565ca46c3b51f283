/- Plain functions, printed by a program of this claim: what each Go function computes, where it returns. -/
import Derived.Test.YtnbakndfnjflhaaOxL
set_option linter.unusedVariables false
namespace Go.Proofs.Ytnbakndfnjflhaa
open Go Go.Ox
abbrev o8 (b : List Int) (i : Nat) : Value := .int .u8 (List.getD b i 0)
structure T_addr_Addr where
  f_Six : Bool
  f_B : List Int
def e_addr_Addr (x : T_addr_Addr) : List Value := [.bool x.f_Six, o8 x.f_B 0, o8 x.f_B 1, o8 x.f_B 2, o8 x.f_B 3, o8 x.f_B 4, o8 x.f_B 5, o8 x.f_B 6, o8 x.f_B 7, o8 x.f_B 8, o8 x.f_B 9, o8 x.f_B 10, o8 x.f_B 11, o8 x.f_B 12, o8 x.f_B 13, o8 x.f_B 14, o8 x.f_B 15]
structure T_packet_Key where
  f_Src : T_addr_Addr
  f_Dst : T_addr_Addr
  f_Proto : Int
  f_SrcPort : Int
  f_DstPort : Int
def e_packet_Key (x : T_packet_Key) : List Value := [.bool x.f_Src.f_Six, o8 x.f_Src.f_B 0, o8 x.f_Src.f_B 1, o8 x.f_Src.f_B 2, o8 x.f_Src.f_B 3, o8 x.f_Src.f_B 4, o8 x.f_Src.f_B 5, o8 x.f_Src.f_B 6, o8 x.f_Src.f_B 7, o8 x.f_Src.f_B 8, o8 x.f_Src.f_B 9, o8 x.f_Src.f_B 10, o8 x.f_Src.f_B 11, o8 x.f_Src.f_B 12, o8 x.f_Src.f_B 13, o8 x.f_Src.f_B 14, o8 x.f_Src.f_B 15, .bool x.f_Dst.f_Six, o8 x.f_Dst.f_B 0, o8 x.f_Dst.f_B 1, o8 x.f_Dst.f_B 2, o8 x.f_Dst.f_B 3, o8 x.f_Dst.f_B 4, o8 x.f_Dst.f_B 5, o8 x.f_Dst.f_B 6, o8 x.f_Dst.f_B 7, o8 x.f_Dst.f_B 8, o8 x.f_Dst.f_B 9, o8 x.f_Dst.f_B 10, o8 x.f_Dst.f_B 11, o8 x.f_Dst.f_B 12, o8 x.f_Dst.f_B 13, o8 x.f_Dst.f_B 14, o8 x.f_Dst.f_B 15, .int .u8 x.f_Proto, .int .u16 x.f_SrcPort, .int .u16 x.f_DstPort]
structure T_law23_Act where
  f_Do : Int
  f_K : T_packet_Key
  f_N : Int
def e_law23_Act (x : T_law23_Act) : List Value := [.int .i64 x.f_Do, .bool x.f_K.f_Src.f_Six, o8 x.f_K.f_Src.f_B 0, o8 x.f_K.f_Src.f_B 1, o8 x.f_K.f_Src.f_B 2, o8 x.f_K.f_Src.f_B 3, o8 x.f_K.f_Src.f_B 4, o8 x.f_K.f_Src.f_B 5, o8 x.f_K.f_Src.f_B 6, o8 x.f_K.f_Src.f_B 7, o8 x.f_K.f_Src.f_B 8, o8 x.f_K.f_Src.f_B 9, o8 x.f_K.f_Src.f_B 10, o8 x.f_K.f_Src.f_B 11, o8 x.f_K.f_Src.f_B 12, o8 x.f_K.f_Src.f_B 13, o8 x.f_K.f_Src.f_B 14, o8 x.f_K.f_Src.f_B 15, .bool x.f_K.f_Dst.f_Six, o8 x.f_K.f_Dst.f_B 0, o8 x.f_K.f_Dst.f_B 1, o8 x.f_K.f_Dst.f_B 2, o8 x.f_K.f_Dst.f_B 3, o8 x.f_K.f_Dst.f_B 4, o8 x.f_K.f_Dst.f_B 5, o8 x.f_K.f_Dst.f_B 6, o8 x.f_K.f_Dst.f_B 7, o8 x.f_K.f_Dst.f_B 8, o8 x.f_K.f_Dst.f_B 9, o8 x.f_K.f_Dst.f_B 10, o8 x.f_K.f_Dst.f_B 11, o8 x.f_K.f_Dst.f_B 12, o8 x.f_K.f_Dst.f_B 13, o8 x.f_K.f_Dst.f_B 14, o8 x.f_K.f_Dst.f_B 15, .int .u8 x.f_K.f_Proto, .int .u16 x.f_K.f_SrcPort, .int .u16 x.f_K.f_DstPort, .int .u64 x.f_N]
structure T_table_Slot where
  f_Used : Bool
  f_Key : T_packet_Key
  f_N : Int
def e_table_Slot (x : T_table_Slot) : List Value := [.bool x.f_Used, .bool x.f_Key.f_Src.f_Six, o8 x.f_Key.f_Src.f_B 0, o8 x.f_Key.f_Src.f_B 1, o8 x.f_Key.f_Src.f_B 2, o8 x.f_Key.f_Src.f_B 3, o8 x.f_Key.f_Src.f_B 4, o8 x.f_Key.f_Src.f_B 5, o8 x.f_Key.f_Src.f_B 6, o8 x.f_Key.f_Src.f_B 7, o8 x.f_Key.f_Src.f_B 8, o8 x.f_Key.f_Src.f_B 9, o8 x.f_Key.f_Src.f_B 10, o8 x.f_Key.f_Src.f_B 11, o8 x.f_Key.f_Src.f_B 12, o8 x.f_Key.f_Src.f_B 13, o8 x.f_Key.f_Src.f_B 14, o8 x.f_Key.f_Src.f_B 15, .bool x.f_Key.f_Dst.f_Six, o8 x.f_Key.f_Dst.f_B 0, o8 x.f_Key.f_Dst.f_B 1, o8 x.f_Key.f_Dst.f_B 2, o8 x.f_Key.f_Dst.f_B 3, o8 x.f_Key.f_Dst.f_B 4, o8 x.f_Key.f_Dst.f_B 5, o8 x.f_Key.f_Dst.f_B 6, o8 x.f_Key.f_Dst.f_B 7, o8 x.f_Key.f_Dst.f_B 8, o8 x.f_Key.f_Dst.f_B 9, o8 x.f_Key.f_Dst.f_B 10, o8 x.f_Key.f_Dst.f_B 11, o8 x.f_Key.f_Dst.f_B 12, o8 x.f_Key.f_Dst.f_B 13, o8 x.f_Key.f_Dst.f_B 14, o8 x.f_Key.f_Dst.f_B 15, .int .u8 x.f_Key.f_Proto, .int .u16 x.f_Key.f_SrcPort, .int .u16 x.f_Key.f_DstPort, .int .u64 x.f_N]
structure T_table_Table where
  f_slots : List T_table_Slot
  f_many : Int
structure T_bits_Writer where
  f_b : List Int
structure T_ref08_Key where
  f_Src : T_addr_Addr
  f_Dst : T_addr_Addr
  f_Proto : Int
  f_SrcPort : Int
  f_DstPort : Int
def e_ref08_Key (x : T_ref08_Key) : List Value := [.bool x.f_Src.f_Six, o8 x.f_Src.f_B 0, o8 x.f_Src.f_B 1, o8 x.f_Src.f_B 2, o8 x.f_Src.f_B 3, o8 x.f_Src.f_B 4, o8 x.f_Src.f_B 5, o8 x.f_Src.f_B 6, o8 x.f_Src.f_B 7, o8 x.f_Src.f_B 8, o8 x.f_Src.f_B 9, o8 x.f_Src.f_B 10, o8 x.f_Src.f_B 11, o8 x.f_Src.f_B 12, o8 x.f_Src.f_B 13, o8 x.f_Src.f_B 14, o8 x.f_Src.f_B 15, .bool x.f_Dst.f_Six, o8 x.f_Dst.f_B 0, o8 x.f_Dst.f_B 1, o8 x.f_Dst.f_B 2, o8 x.f_Dst.f_B 3, o8 x.f_Dst.f_B 4, o8 x.f_Dst.f_B 5, o8 x.f_Dst.f_B 6, o8 x.f_Dst.f_B 7, o8 x.f_Dst.f_B 8, o8 x.f_Dst.f_B 9, o8 x.f_Dst.f_B 10, o8 x.f_Dst.f_B 11, o8 x.f_Dst.f_B 12, o8 x.f_Dst.f_B 13, o8 x.f_Dst.f_B 14, o8 x.f_Dst.f_B 15, .int .u8 x.f_Proto, .int .u16 x.f_SrcPort, .int .u16 x.f_DstPort]
structure T_ref23_Slot where
  f_Used : Bool
  f_Key : T_ref08_Key
  f_N : Int
def e_ref23_Slot (x : T_ref23_Slot) : List Value := [.bool x.f_Used, .bool x.f_Key.f_Src.f_Six, o8 x.f_Key.f_Src.f_B 0, o8 x.f_Key.f_Src.f_B 1, o8 x.f_Key.f_Src.f_B 2, o8 x.f_Key.f_Src.f_B 3, o8 x.f_Key.f_Src.f_B 4, o8 x.f_Key.f_Src.f_B 5, o8 x.f_Key.f_Src.f_B 6, o8 x.f_Key.f_Src.f_B 7, o8 x.f_Key.f_Src.f_B 8, o8 x.f_Key.f_Src.f_B 9, o8 x.f_Key.f_Src.f_B 10, o8 x.f_Key.f_Src.f_B 11, o8 x.f_Key.f_Src.f_B 12, o8 x.f_Key.f_Src.f_B 13, o8 x.f_Key.f_Src.f_B 14, o8 x.f_Key.f_Src.f_B 15, .bool x.f_Key.f_Dst.f_Six, o8 x.f_Key.f_Dst.f_B 0, o8 x.f_Key.f_Dst.f_B 1, o8 x.f_Key.f_Dst.f_B 2, o8 x.f_Key.f_Dst.f_B 3, o8 x.f_Key.f_Dst.f_B 4, o8 x.f_Key.f_Dst.f_B 5, o8 x.f_Key.f_Dst.f_B 6, o8 x.f_Key.f_Dst.f_B 7, o8 x.f_Key.f_Dst.f_B 8, o8 x.f_Key.f_Dst.f_B 9, o8 x.f_Key.f_Dst.f_B 10, o8 x.f_Key.f_Dst.f_B 11, o8 x.f_Key.f_Dst.f_B 12, o8 x.f_Key.f_Dst.f_B 13, o8 x.f_Key.f_Dst.f_B 14, o8 x.f_Key.f_Dst.f_B 15, .int .u8 x.f_Key.f_Proto, .int .u16 x.f_Key.f_SrcPort, .int .u16 x.f_Key.f_DstPort, .int .u64 x.f_N]
def q_addr_Addr (x y : T_addr_Addr) : Bool := ((x.f_Six == y.f_Six) && ((arrEq 16 x.f_B y.f_B) && true))
def q_packet_Key (x y : T_packet_Key) : Bool := ((q_addr_Addr x.f_Src y.f_Src) && ((q_addr_Addr x.f_Dst y.f_Dst) && ((x.f_Proto == y.f_Proto) && ((x.f_SrcPort == y.f_SrcPort) && ((x.f_DstPort == y.f_DstPort) && true)))))
def q_ref08_Key (x y : T_ref08_Key) : Bool := ((q_addr_Addr x.f_Src y.f_Src) && ((q_addr_Addr x.f_Dst y.f_Dst) && ((x.f_Proto == y.f_Proto) && ((x.f_SrcPort == y.f_SrcPort) && ((x.f_DstPort == y.f_DstPort) && true)))))
def F_law23_key (nv1 : Int) : Option T_packet_Key :=
  (gidxA 16 (List.replicate 16 0) 0).bind fun xv13 =>
  some (T_packet_Key.mk (T_addr_Addr.mk false (setA 16 (List.replicate 16 0) 0 10)) (T_addr_Addr.mk false (List.replicate 16 0)) 17 (IntKind.u16.wrap nv1) 53)
def F_table_Table_find_N (kv1 : T_packet_Key) : Option (Int × Int) :=
  some ((-1), 0)
def F_table_Table_Put_N (kv1 : T_packet_Key) (nv2 : Int) : Option Int :=
  (F_table_Table_find_N kv1).bind fun y8 =>
  some 1
def F_table_Table_has_N_j1 (y7 : Int × Int) : Option Int :=
  some y7.1
def F_table_Table_has_N (kv1 : T_packet_Key) : Option Int :=
  (F_table_Table_find_N kv1).bind fun y7 =>
  if (decide (0 ≤ y7.1)) = true then
  none
  else
  F_table_Table_has_N_j1 y7
def F_table_Table_Get_N (kv1 : T_packet_Key) : Option (Int × Bool) :=
  (F_table_Table_has_N kv1).bind fun y7 =>
  if (decide (y7 < 0)) = true then
  some (0, false)
  else
  none
def F_table_Table_Size (t1 : T_table_Table) : Option (Int × T_table_Table) :=
  some ((t1.f_slots.length : Int), t1)
def F_packet_ports_j1 (t3 : Bool) : Option Bool :=
  some t3
def F_packet_ports (proto1 : Int) : Option Bool :=
  if (proto1 == 6) = true then
  F_packet_ports_j1 true
  else
  F_packet_ports_j1 (proto1 == 17)
def F_packet_icmp_j1 (t3 : Bool) : Option Bool :=
  some t3
def F_packet_icmp (proto1 : Int) : Option Bool :=
  if (proto1 == 1) = true then
  F_packet_icmp_j1 true
  else
  F_packet_icmp_j1 (proto1 == 58)
def F_addr_Addr_size (av1 : T_addr_Addr) : Option Int :=
  if av1.f_Six = true then
  some 16
  else
  some 4
def F_addr_Addr_Right (av1 : T_addr_Addr) : Option Bool :=
  (F_addr_Addr_size av1).bind fun y12 =>
  (gcut (arrL 16 (List.replicate 16 0)) 0 y12).bind fun cut17 =>
  some (arrEq 16 av1.f_B (cpA 16 (Nat.min (arrL 16 av1.f_B).length cut17.length) (List.replicate 16 0) (arrL 16 av1.f_B)))
def F_packet_Key_Right_j2 (t37 : Bool) : Option Bool :=
  some t37
def F_packet_Key_Right_j1 (kv1 : T_packet_Key) (plain26 : Int) (plain27 : Int) : Option Bool :=
  (F_addr_Addr_Right kv1.f_Src).bind fun y29 =>
  if y29 = true then
  (F_addr_Addr_Right kv1.f_Dst).bind fun y33 =>
  if y33 = true then
  if (kv1.f_Src.f_Six == kv1.f_Dst.f_Six) = true then
  F_packet_Key_Right_j2 (q_packet_Key kv1 (T_packet_Key.mk kv1.f_Src kv1.f_Dst kv1.f_Proto plain26 plain27))
  else
  F_packet_Key_Right_j2 false
  else
  F_packet_Key_Right_j2 false
  else
  F_packet_Key_Right_j2 false
def F_packet_Key_Right (kv1 : T_packet_Key) : Option Bool :=
  (F_packet_ports kv1.f_Proto).bind fun y12 =>
  if (!y12) = true then
  (F_packet_icmp kv1.f_Proto).bind fun y19 =>
  if (!y19) = true then
  F_packet_Key_Right_j1 kv1 0 0
  else
  F_packet_Key_Right_j1 kv1 0 kv1.f_DstPort
  else
  F_packet_Key_Right_j1 kv1 kv1.f_SrcPort kv1.f_DstPort
def F_bits_Writer_Raw (wv1 : T_bits_Writer) (b8 : List Int) : Option (Int × T_bits_Writer) :=
  if (decide (wv1.f_b.length + b8.length ≤ lim)) = true then
  some (0, (T_bits_Writer.mk (wv1.f_b ++ b8)))
  else none
def F_bytes_Clone (b1 : List Int) : Option ((List Int)) :=
  if (decide (([] : List Int).length + b1.length ≤ lim)) = true then
  some (([] : List Int) ++ b1)
  else none
def F_addr_Addr_Bytes (av1 : T_addr_Addr) : Option ((List Int)) :=
  (F_addr_Addr_size av1).bind fun y7 =>
  (gcut (arrL 16 av1.f_B) 0 y7).bind fun cut12 =>
  (F_bytes_Clone cut12).bind fun y14 =>
  some y14
def F_bits_right_j1 (t3 : Bool) : Option Bool :=
  some t3
def F_bits_right (size1 : Int) : Option Bool :=
  if (decide (1 ≤ size1)) = true then
  F_bits_right_j1 (decide (size1 ≤ 8))
  else
  F_bits_right_j1 false
def F_bits_Least_l1 (rec17 : Int → Int → Option Int) (v14 : Int) (nv15 : Int) : Option Int :=
  if (decide (0 < v14)) = true then
  rec17 (Ox.shr .u64 v14 8) (IntKind.i64.wrap (nv15 + 1))
  else
  some nv15
def F_bits_Least_L1 : Nat → Int → Int → Option Int
  | 0 => fun _ _ => none
  | k + 1 => F_bits_Least_l1 (F_bits_Least_L1 k)
def F_bits_Least (v1 : Int) : Option Int :=
  F_bits_Least_L1 fuel0 (Ox.shr .u64 v1 8) 1
def F_bits_fits_j1 (t12 : Bool) : Option Bool :=
  some t12
def F_bits_fits (v1 : Int) (size2 : Int) : Option Bool :=
  (F_bits_right size2).bind fun y4 =>
  if y4 = true then
  (F_bits_Least v1).bind fun y8 =>
  F_bits_fits_j1 (decide (y8 ≤ size2))
  else
  F_bits_fits_j1 false
def F_bits_of_l1 (rec42 : (List Int) → Int → Option ((List Int))) (v1 : Int) (size2 : Int) (b39 : List Int) (t40 : Int) : Option ((List Int)) :=
  if (decide (t40 < size2)) = true then
  if (decide (¬ (IntKind.i64.wrap (8 * t40)) < 0)) = true then
  (gidx b39 (IntKind.i64.wrap ((IntKind.i64.wrap (size2 - 1)) - t40))).bind fun xv51 =>
  rec42 (b39.set ((IntKind.i64.wrap ((IntKind.i64.wrap (size2 - 1)) - t40)) : Int).toNat (IntKind.u8.wrap (Ox.shr .u64 v1 (IntKind.i64.wrap (8 * t40))))) (IntKind.i64.wrap (t40 + 1))
  else none
  else
  some b39
def F_bits_of_L1 (v1 : Int) (size2 : Int) : Nat → (List Int) → Int → Option ((List Int))
  | 0 => fun _ _ => none
  | k + 1 => F_bits_of_l1 (F_bits_of_L1 v1 size2 k) v1 size2
def F_bits_of (v1 : Int) (size2 : Int) : Option ((List Int)) :=
  if (decide (0 ≤ size2 ∧ size2 ≤ lim)) = true then
  F_bits_of_L1 v1 size2 fuel0 (List.replicate (Int.toNat size2) (0 : Int)) 0
  else none
def F_bits_Writer_Put (wv1 : T_bits_Writer) (v8 : Int) (size9 : Int) : Option (Int × T_bits_Writer) :=
  (F_bits_fits v8 size9).bind fun y16 =>
  if (!y16) = true then
  some (2, wv1)
  else
  (F_bits_of v8 size9).bind fun y22 =>
  (F_bits_Writer_Raw wv1 y22).bind fun y29 =>
  some (y29.1, y29.2)
def F_slices_Clone_byte_byte (s1 : List Int) : Option ((List Int)) :=
  if (decide (([] : List Int).length + s1.length ≤ lim)) = true then
  some (([] : List Int) ++ s1)
  else none
def F_bits_Writer_Bytes (wv1 : T_bits_Writer) : Option ((List Int) × T_bits_Writer) :=
  (F_slices_Clone_byte_byte wv1.f_b).bind fun y13 =>
  some (y13, wv1)
def F_packet_Key_Bytes_j1 (kv1 : T_packet_Key) (version21 : Int) : Option ((List Int)) :=
  (F_bits_Writer_Raw (T_bits_Writer.mk ([] : List Int)) ([version21] : List Int)).bind fun y28 =>
  (F_addr_Addr_Bytes kv1.f_Src).bind fun y36 =>
  (F_bits_Writer_Raw y28.2 y36).bind fun y43 =>
  (F_addr_Addr_Bytes kv1.f_Dst).bind fun y51 =>
  (F_bits_Writer_Raw y43.2 y51).bind fun y58 =>
  (F_bits_Writer_Raw y58.2 ([kv1.f_Proto] : List Int)).bind fun y69 =>
  (F_bits_Writer_Put y69.2 (IntKind.u64.wrap kv1.f_SrcPort) 2).bind fun y77 =>
  (F_bits_Writer_Put y77.2 (IntKind.u64.wrap kv1.f_DstPort) 2).bind fun y85 =>
  (F_bits_Writer_Bytes y85.2).bind fun y93 =>
  some y93.1
def F_packet_Key_Bytes (kv1 : T_packet_Key) : Option ((List Int)) :=
  (F_packet_Key_Right kv1).bind fun y8 =>
  if (!y8) = true then
  some ([])
  else
  if kv1.f_Src.f_Six = true then
  F_packet_Key_Bytes_j1 kv1 6
  else
  F_packet_Key_Bytes_j1 kv1 4
def F_table_Hash_l1 (rec37 : Int → Int → Option Int) (y9 : (List Int)) (h33 : Int) (t35 : Int) : Option Int :=
  if (decide (t35 < (y9.length : Int))) = true then
  (gidx y9 t35).bind fun xv45 =>
  rec37 (IntKind.u64.wrap ((bits .xor .u64 h33 (IntKind.u64.wrap xv45)) * 1099511628211)) (IntKind.i64.wrap (t35 + 1))
  else
  some h33
def F_table_Hash_L1 (y9 : (List Int)) : Nat → Int → Int → Option Int
  | 0 => fun _ _ => none
  | k + 1 => F_table_Hash_l1 (F_table_Hash_L1 y9 k) y9
def F_table_Hash (kv1 : T_packet_Key) : Option Int :=
  (F_packet_Key_Bytes kv1).bind fun y9 =>
  F_table_Hash_L1 y9 fuel0 14695981039346656037 0
def F_table_Table_find_j2 (y46 : Int × T_table_Table) (t173 : Int) (t178 : Int) (y188 : Int) : Option (Int × Int × T_table_Table) :=
  some ((IntKind.i64.wrap (Int.tmod (IntKind.u64.wrap (y188 + t173)) (IntKind.u64.wrap y46.1))), (IntKind.i64.wrap (t178 + 1)), y46.2)
def F_table_Table_find_j1 (y46 : Int × T_table_Table) (t173 : Int) (t178 : Int) (rec181 : Int → Int → Option (Int × Int × T_table_Table)) (y188 : Int) (t209 : Bool) : Option (Int × Int × T_table_Table) :=
  if t209 = true then
  F_table_Table_find_j2 y46 t173 t178 y188
  else
  rec181 (IntKind.u64.wrap (t173 + 1)) (IntKind.i64.wrap (t178 + 1))
def F_table_Table_find_j3 (y46 : Int × T_table_Table) (t178 : Int) : Option (Int × Int × T_table_Table) :=
  some ((-1), t178, y46.2)
def F_table_Table_find_l1 (rec181 : Int → Int → Option (Int × Int × T_table_Table)) (kv8 : T_packet_Key) (y46 : Int × T_table_Table) (t173 : Int) (t178 : Int) : Option (Int × Int × T_table_Table) :=
  if (decide (t173 < (IntKind.u64.wrap y46.1))) = true then
  (F_table_Hash kv8).bind fun y188 =>
  if (decide ((IntKind.u64.wrap y46.1) ≠ 0)) = true then
  (gidx y46.2.f_slots (IntKind.i64.wrap (Int.tmod (IntKind.u64.wrap (y188 + t173)) (IntKind.u64.wrap y46.1)))).bind fun xv199 =>
  if (!xv199.f_Used) = true then
  F_table_Table_find_j1 y46 t173 t178 rec181 y188 true
  else
  (gidx y46.2.f_slots (IntKind.i64.wrap (Int.tmod (IntKind.u64.wrap (y188 + t173)) (IntKind.u64.wrap y46.1)))).bind fun xv202 =>
  F_table_Table_find_j1 y46 t173 t178 rec181 y188 (q_packet_Key xv202.f_Key kv8)
  else none
  else
  F_table_Table_find_j3 y46 t178
def F_table_Table_find_L1 (kv8 : T_packet_Key) (y46 : Int × T_table_Table) : Nat → Int → Int → Option (Int × Int × T_table_Table)
  | 0 => fun _ _ => none
  | k + 1 => F_table_Table_find_l1 (F_table_Table_find_L1 kv8 y46 k) kv8 y46
def F_table_Table_find (t1 : T_table_Table) (kv8 : T_packet_Key) : Option (Int × Int × T_table_Table) :=
  (F_table_Table_Size t1).bind fun y46 =>
  F_table_Table_find_L1 kv8 y46 fuel0 0 0
def F_table_Table_Put_j1 (kv8 : T_packet_Key) (nv9 : Int) (y16 : Int × Int × T_table_Table) (p39 : Int) : Option (Int × T_table_Table) :=
  (gidx y16.2.2.f_slots y16.1).bind fun xv45 =>
  some (0, (T_table_Table.mk (y16.2.2.f_slots.set (y16.1 : Int).toNat (T_table_Slot.mk true kv8 nv9)) p39))
def F_table_Table_Put (t1 : T_table_Table) (kv8 : T_packet_Key) (nv9 : Int) : Option (Int × T_table_Table) :=
  (F_table_Table_find t1 kv8).bind fun y16 =>
  (F_packet_Key_Right kv8).bind fun y25 =>
  if (!y25) = true then
  some (2, y16.2.2)
  else
  if (decide (y16.1 < 0)) = true then
  some (230, y16.2.2)
  else
  (gidx y16.2.2.f_slots y16.1).bind fun xv35 =>
  if (!xv35.f_Used) = true then
  F_table_Table_Put_j1 kv8 nv9 y16 (IntKind.i64.wrap (y16.2.2.f_many + 1))
  else
  F_table_Table_Put_j1 kv8 nv9 y16 y16.2.2.f_many
def F_table_Table_has_j1 (y15 : Int × Int × T_table_Table) (t28 : Bool) : Option (Int × T_table_Table) :=
  if t28 = true then
  some ((-1), y15.2.2)
  else
  some (y15.1, y15.2.2)
def F_table_Table_has (t1 : T_table_Table) (kv8 : T_packet_Key) : Option (Int × T_table_Table) :=
  (F_table_Table_find t1 kv8).bind fun y15 =>
  if (decide (0 ≤ y15.1)) = true then
  (gidx y15.2.2.f_slots y15.1).bind fun xv25 =>
  F_table_Table_has_j1 y15 (!xv25.f_Used)
  else
  F_table_Table_has_j1 y15 false
def F_table_Table_Get (t1 : T_table_Table) (kv8 : T_packet_Key) : Option (Int × Bool × T_table_Table) :=
  (F_table_Table_has t1 kv8).bind fun y15 =>
  if (decide (y15.1 < 0)) = true then
  some (0, false, y15.2)
  else
  (gidx y15.2.f_slots y15.1).bind fun xv28 =>
  some (xv28.f_N, true, y15.2)
def F_table_Table_Delete_j1 (p160 : List T_table_Slot) (p161 : Int) : Option (Bool × T_table_Table) :=
  some (true, (T_table_Table.mk p160 p161))
def F_table_Table_Delete_l1 (rec119 : (List T_table_Slot) → Int → Int → Option (Bool × T_table_Table)) (y15 : Int × T_table_Table) (p115 : List T_table_Slot) (p116 : Int) (t117 : Int) : Option (Bool × T_table_Table) :=
  if (decide (t117 < (IntKind.i64.wrap ((y15.2.f_slots.length : Int) - 1)))) = true then
  if (decide ((y15.2.f_slots.length : Int) ≠ 0)) = true then
  (gidx p115 (Int.tmod (IntKind.i64.wrap ((IntKind.i64.wrap (y15.1 + 1)) + t117)) (y15.2.f_slots.length : Int))).bind fun xv130 =>
  if (!xv130.f_Used) = true then
  F_table_Table_Delete_j1 p115 p116
  else
  (gidx p115 (Int.tmod (IntKind.i64.wrap ((IntKind.i64.wrap (y15.1 + 1)) + t117)) (y15.2.f_slots.length : Int))).bind fun xv140 =>
  (F_table_Table_find (T_table_Table.mk (p115.set ((Int.tmod (IntKind.i64.wrap ((IntKind.i64.wrap (y15.1 + 1)) + t117)) (y15.2.f_slots.length : Int)) : Int).toNat (T_table_Slot.mk false (T_packet_Key.mk (T_addr_Addr.mk false (List.replicate 16 0)) (T_addr_Addr.mk false (List.replicate 16 0)) 0 0 0) 0)) p116) xv130.f_Key).bind fun y144 =>
  (gidx y144.2.2.f_slots y144.1).bind fun xv153 =>
  rec119 (y144.2.2.f_slots.set (y144.1 : Int).toNat xv130) y144.2.2.f_many (IntKind.i64.wrap (t117 + 1))
  else none
  else
  F_table_Table_Delete_j1 p115 p116
def F_table_Table_Delete_L1 (y15 : Int × T_table_Table) : Nat → (List T_table_Slot) → Int → Int → Option (Bool × T_table_Table)
  | 0 => fun _ _ _ => none
  | k + 1 => F_table_Table_Delete_l1 (F_table_Table_Delete_L1 y15 k) y15
def F_table_Table_Delete (t1 : T_table_Table) (kv8 : T_packet_Key) : Option (Bool × T_table_Table) :=
  (F_table_Table_has t1 kv8).bind fun y15 =>
  if (decide (y15.1 < 0)) = true then
  some (false, y15.2)
  else
  (gidx y15.2.f_slots y15.1).bind fun xv29 =>
  F_table_Table_Delete_L1 y15 fuel0 (y15.2.f_slots.set (y15.1 : Int).toNat (T_table_Slot.mk false (T_packet_Key.mk (T_addr_Addr.mk false (List.replicate 16 0)) (T_addr_Addr.mk false (List.replicate 16 0)) 0 0 0) 0)) (IntKind.i64.wrap (y15.2.f_many - 1)) 0
def F_table_Table_Len (t1 : T_table_Table) : Option (Int × T_table_Table) :=
  some (t1.f_many, t1)
def F_law23_works_j4 : Option Bool :=
  some false
def F_law23_works_j5 (t139 : Bool) : Option Bool :=
  some t139
def F_law23_works_j3 : Option Bool :=
  if ((bits .and .i64 1 (IntKind.i64.wrap (1 - 1))) != 0) = true then
  (F_law23_key 1).bind fun y18 =>
  (F_table_Table_Put_N y18 5).bind fun y22 =>
  (F_law23_key 2).bind fun y27 =>
  (F_table_Table_Put_N y27 6).bind fun y31 =>
  (F_law23_key 1).bind fun y36 =>
  (F_table_Table_Put_N y36 7).bind fun y40 =>
  (F_law23_key 1).bind fun y45 =>
  (F_table_Table_Get_N y45).bind fun y49 =>
  F_law23_works_j4
  else
  if (decide (0 ≤ 1 ∧ 1 ≤ lim)) = true then
  (F_law23_key 1).bind fun y63 =>
  (F_table_Table_Put (T_table_Table.mk (List.replicate (Int.toNat 1) ((T_table_Slot.mk false (T_packet_Key.mk (T_addr_Addr.mk false (List.replicate 16 0)) (T_addr_Addr.mk false (List.replicate 16 0)) 0 0 0) 0) : T_table_Slot)) 0) y63 5).bind fun y67 =>
  (F_law23_key 2).bind fun y75 =>
  (F_table_Table_Put y67.2 y75 6).bind fun y79 =>
  (F_law23_key 1).bind fun y87 =>
  (F_table_Table_Put y79.2 y87 7).bind fun y91 =>
  (F_law23_key 1).bind fun y99 =>
  (F_table_Table_Get y91.2 y99).bind fun y103 =>
  if (y67.1 == 0) = true then
  if (y79.1 == 230) = true then
  if (y91.1 == 0) = true then
  if y103.2.1 = true then
  if (y103.1 == 7) = true then
  (F_law23_key 2).bind fun y110 =>
  (F_table_Table_Delete y103.2.2 y110).bind fun y114 =>
  if (!y114.1) = true then
  (F_law23_key 1).bind fun y121 =>
  (F_table_Table_Delete y114.2 y121).bind fun y125 =>
  if y125.1 = true then
  (F_table_Table_Len y125.2).bind fun y132 =>
  F_law23_works_j5 (y132.1 == 0)
  else
  F_law23_works_j5 false
  else
  F_law23_works_j5 false
  else
  F_law23_works_j5 false
  else
  F_law23_works_j5 false
  else
  F_law23_works_j5 false
  else
  F_law23_works_j5 false
  else
  F_law23_works_j5 false
  else none
def F_law23_works_j2 : Option Bool :=
  F_law23_works_j3
def F_law23_works_j8 : Option Bool :=
  some false
def F_law23_works_j9 : Option Bool :=
  some false
def F_law23_works_j7 : Option Bool :=
  if ((bits .and .i64 1 (IntKind.i64.wrap (1 - 1))) != 0) = true then
  (F_law23_key 1).bind fun y160 =>
  (F_table_Table_Put_N y160 5).bind fun y164 =>
  (F_law23_key 2).bind fun y169 =>
  (F_table_Table_Put_N y169 6).bind fun y173 =>
  (F_law23_key 1).bind fun y178 =>
  (F_table_Table_Put_N y178 7).bind fun y182 =>
  (F_law23_key 1).bind fun y187 =>
  (F_table_Table_Get_N y187).bind fun y191 =>
  F_law23_works_j8
  else
  if (decide (0 ≤ 1 ∧ 1 ≤ lim)) = true then
  (F_law23_key 1).bind fun y205 =>
  (F_table_Table_Put (T_table_Table.mk (List.replicate (Int.toNat 1) ((T_table_Slot.mk false (T_packet_Key.mk (T_addr_Addr.mk false (List.replicate 16 0)) (T_addr_Addr.mk false (List.replicate 16 0)) 0 0 0) 0) : T_table_Slot)) 0) y205 5).bind fun y209 =>
  (F_law23_key 2).bind fun y217 =>
  (F_table_Table_Put y209.2 y217 6).bind fun y221 =>
  (F_law23_key 1).bind fun y229 =>
  (F_table_Table_Put y221.2 y229 7).bind fun y233 =>
  (F_law23_key 1).bind fun y241 =>
  (F_table_Table_Get y233.2 y241).bind fun y245 =>
  F_law23_works_j9
  else none
def F_law23_works_j6 : Option Bool :=
  F_law23_works_j7
def F_law23_works_j1 : Option Bool :=
  if ((bits .and .i64 3 (IntKind.i64.wrap (3 - 1))) != 0) = true then
  F_law23_works_j2
  else
  if (decide (0 ≤ 3 ∧ 3 ≤ lim)) = true then
  F_law23_works_j6
  else none
def F_law23_works : Option Bool :=
  F_law23_works_j1
def F_kit_Pick (i1 : Int) (nv2 : Int) : Option Int :=
  if (decide (nv2 ≤ 0)) = true then
  some 0
  else
  if (decide (nv2 ≠ 0)) = true then
  if (decide (nv2 ≠ 0)) = true then
  some (Int.tmod (IntKind.i64.wrap ((Int.tmod i1 nv2) + nv2)) nv2)
  else none
  else none
def F_slices_Clone_table_Slot_table_Slot (s1 : List T_table_Slot) : Option ((List T_table_Slot)) :=
  if (decide (([] : List T_table_Slot).length + s1.length ≤ lim)) = true then
  some (([] : List T_table_Slot) ++ s1)
  else none
def F_table_Table_Slots (t1 : T_table_Table) : Option ((List T_table_Slot) × T_table_Table) :=
  (F_slices_Clone_table_Slot_table_Slot t1.f_slots).bind fun y13 =>
  some (y13, t1)
def F_table_Table_Probes (t1 : T_table_Table) (kv8 : T_packet_Key) : Option (Int × T_table_Table) :=
  (F_table_Table_find t1 kv8).bind fun y15 =>
  some (y15.2.1, y15.2.2)
def F_law23_reached_j1 (i202 : Int) (rec204 : (List T_table_Slot) → Int → Int → Option (Bool × T_table_Table)) (p284 : List T_table_Slot) (p285 : Int) : Option (Bool × T_table_Table) :=
  rec204 p284 p285 (IntKind.i64.wrap (i202 + 1))
def F_law23_reached_l2 (rec269 : Int → Option (Bool × T_table_Table)) (y11 : (List T_table_Slot) × T_table_Table) (i202 : Int) (rec204 : (List T_table_Slot) → Int → Int → Option (Bool × T_table_Table)) (y217 : Int × T_table_Table) (y228 : Int) (kv267 : Int) : Option (Bool × T_table_Table) :=
  if (decide (kv267 < y217.1)) = true then
  if (decide ((y11.1.length : Int) ≠ 0)) = true then
  (gidx y11.1 (Int.tmod (IntKind.i64.wrap ((IntKind.i64.wrap (Int.tmod y228 (IntKind.u64.wrap (y11.1.length : Int)))) + kv267)) (y11.1.length : Int))).bind fun xv278 =>
  if (!xv278.f_Used) = true then
  some (false, y217.2)
  else
  rec269 (IntKind.i64.wrap (kv267 + 1))
  else none
  else
  F_law23_reached_j1 i202 rec204 y217.2.f_slots y217.2.f_many
def F_law23_reached_L2 (y11 : (List T_table_Slot) × T_table_Table) (i202 : Int) (rec204 : (List T_table_Slot) → Int → Int → Option (Bool × T_table_Table)) (y217 : Int × T_table_Table) (y228 : Int) : Nat → Int → Option (Bool × T_table_Table)
  | 0 => fun _ => none
  | k + 1 => F_law23_reached_l2 (F_law23_reached_L2 y11 i202 rec204 y217 y228 k) y11 i202 rec204 y217 y228
def F_law23_reached_j2 (y11 : (List T_table_Slot) × T_table_Table) (i202 : Int) (rec204 : (List T_table_Slot) → Int → Int → Option (Bool × T_table_Table)) (y217 : Int × T_table_Table) (y228 : Int) (t238 : Bool) : Option (Bool × T_table_Table) :=
  if t238 = true then
  some (false, y217.2)
  else
  F_law23_reached_L2 y11 i202 rec204 y217 y228 fuel0 0
def F_law23_reached_l1 (rec204 : (List T_table_Slot) → Int → Int → Option (Bool × T_table_Table)) (y11 : (List T_table_Slot) × T_table_Table) (p199 : List T_table_Slot) (p200 : Int) (i202 : Int) : Option (Bool × T_table_Table) :=
  if (decide (i202 < (y11.1.length : Int))) = true then
  (gidx y11.1 i202).bind fun xv212 =>
  if (!xv212.f_Used) = true then
  F_law23_reached_j1 i202 rec204 p199 p200
  else
  (gidx y11.1 i202).bind fun xv216 =>
  (F_table_Table_Probes (T_table_Table.mk p199 p200) xv216.f_Key).bind fun y217 =>
  (gidx y11.1 i202).bind fun xv227 =>
  (F_table_Hash xv227.f_Key).bind fun y228 =>
  if (decide ((IntKind.u64.wrap (y11.1.length : Int)) ≠ 0)) = true then
  if (decide (y217.1 < 1)) = true then
  F_law23_reached_j2 y11 i202 rec204 y217 y228 true
  else
  if (decide ((y11.1.length : Int) ≠ 0)) = true then
  F_law23_reached_j2 y11 i202 rec204 y217 y228 ((Int.tmod (IntKind.i64.wrap ((IntKind.i64.wrap ((IntKind.i64.wrap (Int.tmod y228 (IntKind.u64.wrap (y11.1.length : Int)))) + y217.1)) - 1)) (y11.1.length : Int)) != i202)
  else none
  else none
  else
  some (true, (T_table_Table.mk p199 p200))
def F_law23_reached_L1 (y11 : (List T_table_Slot) × T_table_Table) : Nat → (List T_table_Slot) → Int → Int → Option (Bool × T_table_Table)
  | 0 => fun _ _ _ => none
  | k + 1 => F_law23_reached_l1 (F_law23_reached_L1 y11 k) y11
def F_law23_reached (t1 : T_table_Table) : Option (Bool × T_table_Table) :=
  (F_table_Table_Slots t1).bind fun y11 =>
  F_law23_reached_L1 y11 fuel0 y11.2.f_slots y11.2.f_many 0
def F_law23_TableKeeps_j3 (t27 : Bool) : Option Bool :=
  some t27
def F_law23_TableKeeps_j4 (kv957 : Int) (rec959 : Int → Int → Option Bool) (atv972 : Int) : Option Bool :=
  rec959 atv972 (IntKind.i64.wrap (kv957 + 1))
def F_law23_TableKeeps_j6 (kv1436 : Int) (rec1438 : (List T_table_Slot) → Int → Int → Option Bool) (y1447 : Int × Bool × T_table_Table) (t1461 : Bool) : Option Bool :=
  if t1461 = true then
  some false
  else
  rec1438 y1447.2.2.f_slots y1447.2.2.f_many (IntKind.i64.wrap (kv1436 + 1))
def F_law23_TableKeeps_l4 (rec1438 : (List T_table_Slot) → Int → Int → Option Bool) (i900 : Int) (rec902 : (List T_table_Slot) → Int → (List T_packet_Key) → (List Int) → Int → Option Bool) (keys1353 : List T_packet_Key) (numbers1357 : List Int) (t1432 : List T_table_Slot) (t1433 : Int) (kv1436 : Int) : Option Bool :=
  if (decide (kv1436 < (keys1353.length : Int))) = true then
  (gidx keys1353 kv1436).bind fun xv1446 =>
  (F_table_Table_Get (T_table_Table.mk t1432 t1433) xv1446).bind fun y1447 =>
  if (!y1447.2.1) = true then
  F_law23_TableKeeps_j6 kv1436 rec1438 y1447 true
  else
  (gidx numbers1357 kv1436).bind fun xv1456 =>
  F_law23_TableKeeps_j6 kv1436 rec1438 y1447 (y1447.1 != xv1456)
  else
  (F_law23_reached (T_table_Table.mk t1432 t1433)).bind fun y1465 =>
  if (!y1465.1) = true then
  some false
  else
  rec902 y1465.2.f_slots y1465.2.f_many keys1353 numbers1357 (IntKind.i64.wrap (i900 + 1))
def F_law23_TableKeeps_L4 (i900 : Int) (rec902 : (List T_table_Slot) → Int → (List T_packet_Key) → (List Int) → Int → Option Bool) (keys1353 : List T_packet_Key) (numbers1357 : List Int) : Nat → (List T_table_Slot) → Int → Int → Option Bool
  | 0 => fun _ _ _ => none
  | k + 1 => F_law23_TableKeeps_l4 (F_law23_TableKeeps_L4 i900 rec902 keys1353 numbers1357 k) i900 rec902 keys1353 numbers1357
def F_law23_TableKeeps_j5 (i900 : Int) (rec902 : (List T_table_Slot) → Int → (List T_packet_Key) → (List Int) → Int → Option Bool) (t1348 : List T_table_Slot) (t1349 : Int) (keys1353 : List T_packet_Key) (numbers1357 : List Int) : Option Bool :=
  (F_table_Table_Len (T_table_Table.mk t1348 t1349)).bind fun y1361 =>
  if (y1361.1 != (keys1353.length : Int)) = true then
  some false
  else
  F_law23_TableKeeps_L4 i900 rec902 keys1353 numbers1357 fuel0 y1361.2.f_slots y1361.2.f_many 0
def F_law23_TableKeeps_j9 (keys895 : List T_packet_Key) (i900 : Int) (rec902 : (List T_table_Slot) → Int → (List T_packet_Key) → (List Int) → Int → Option Bool) (xv910 : T_law23_Act) (y1078 : Int × T_table_Table) (numbers1117 : List Int) (t1125 : Bool) : Option Bool :=
  if t1125 = true then
  if (decide (keys895.length + ([xv910.f_K] : List T_packet_Key).length ≤ lim)) = true then
  if (decide (numbers1117.length + ([xv910.f_N] : List Int).length ≤ lim)) = true then
  F_law23_TableKeeps_j5 i900 rec902 y1078.2.f_slots y1078.2.f_many (keys895 ++ ([xv910.f_K] : List T_packet_Key)) (numbers1117 ++ ([xv910.f_N] : List Int))
  else none
  else none
  else
  F_law23_TableKeeps_j5 i900 rec902 y1078.2.f_slots y1078.2.f_many keys895 numbers1117
def F_law23_TableKeeps_j8 (keys895 : List T_packet_Key) (i900 : Int) (rec902 : (List T_table_Slot) → Int → (List T_packet_Key) → (List Int) → Int → Option Bool) (xv910 : T_law23_Act) (atv956 : Int) (y1078 : Int × T_table_Table) (may1094 : Bool) (numbers1117 : List Int) : Option Bool :=
  if may1094 = true then
  F_law23_TableKeeps_j9 keys895 i900 rec902 xv910 y1078 numbers1117 (decide (atv956 < 0))
  else
  F_law23_TableKeeps_j9 keys895 i900 rec902 xv910 y1078 numbers1117 false
def F_law23_TableKeeps_j10 (keys895 : List T_packet_Key) (numbers899 : List Int) (i900 : Int) (rec902 : (List T_table_Slot) → Int → (List T_packet_Key) → (List Int) → Int → Option Bool) (xv910 : T_law23_Act) (atv956 : Int) (y1078 : Int × T_table_Table) (may1094 : Bool) (t1104 : Bool) : Option Bool :=
  if t1104 = true then
  (gidx numbers899 atv956).bind fun xv1108 =>
  F_law23_TableKeeps_j8 keys895 i900 rec902 xv910 atv956 y1078 may1094 (numbers899.set (atv956 : Int).toNat xv910.f_N)
  else
  F_law23_TableKeeps_j8 keys895 i900 rec902 xv910 atv956 y1078 may1094 numbers899
def F_law23_TableKeeps_j7 (keys895 : List T_packet_Key) (numbers899 : List Int) (i900 : Int) (rec902 : (List T_table_Slot) → Int → (List T_packet_Key) → (List Int) → Int → Option Bool) (xv910 : T_law23_Act) (atv956 : Int) (y1078 : Int × T_table_Table) (may1094 : Bool) : Option Bool :=
  if (!(may1094 == (y1078.1 == 0))) = true then
  some false
  else
  if may1094 = true then
  F_law23_TableKeeps_j10 keys895 numbers899 i900 rec902 xv910 atv956 y1078 may1094 (decide (0 ≤ atv956))
  else
  F_law23_TableKeeps_j10 keys895 numbers899 i900 rec902 xv910 atv956 y1078 may1094 false
def F_law23_TableKeeps_j11 (kv1268 : Int) (rec1270 : (List T_table_Slot) → Int → Int → Option Bool) (t1310 : List T_table_Slot) (t1311 : Int) (t1315 : Bool) : Option Bool :=
  if t1315 = true then
  some false
  else
  rec1270 t1310 t1311 (IntKind.i64.wrap (kv1268 + 1))
def F_law23_TableKeeps_l5 (rec1270 : (List T_table_Slot) → Int → Int → Option Bool) (keys895 : List T_packet_Key) (numbers899 : List Int) (i900 : Int) (rec902 : (List T_table_Slot) → Int → (List T_packet_Key) → (List Int) → Int → Option Bool) (atv956 : Int) (before1045 : List Int) (t1263 : List T_table_Slot) (t1264 : Int) (kv1268 : Int) : Option Bool :=
  if (decide (kv1268 < (keys895.length : Int))) = true then
  if (kv1268 != atv956) = true then
  (gidx keys895 kv1268).bind fun xv1277 =>
  (F_table_Table_Probes (T_table_Table.mk t1263 t1264) xv1277).bind fun y1278 =>
  (gidx before1045 kv1268).bind fun xv1287 =>
  F_law23_TableKeeps_j11 kv1268 rec1270 y1278.2.f_slots y1278.2.f_many (decide (xv1287 < y1278.1))
  else
  F_law23_TableKeeps_j11 kv1268 rec1270 t1263 t1264 false
  else
  if (decide (0 ≤ atv956)) = true then
  (gidx keys895 (IntKind.i64.wrap ((keys895.length : Int) - 1))).bind fun xv1322 =>
  (gidx keys895 atv956).bind fun xv1325 =>
  (gidx numbers899 (IntKind.i64.wrap ((numbers899.length : Int) - 1))).bind fun xv1331 =>
  (gidx numbers899 atv956).bind fun xv1334 =>
  (gcut (keys895.set (atv956 : Int).toNat xv1322) 0 (IntKind.i64.wrap (((keys895.set (atv956 : Int).toNat xv1322).length : Int) - 1))).bind fun cut1338 =>
  (gcut (numbers899.set (atv956 : Int).toNat xv1331) 0 (IntKind.i64.wrap (((numbers899.set (atv956 : Int).toNat xv1331).length : Int) - 1))).bind fun cut1341 =>
  F_law23_TableKeeps_j5 i900 rec902 t1263 t1264 cut1338 cut1341
  else
  F_law23_TableKeeps_j5 i900 rec902 t1263 t1264 keys895 numbers899
def F_law23_TableKeeps_L5 (keys895 : List T_packet_Key) (numbers899 : List Int) (i900 : Int) (rec902 : (List T_table_Slot) → Int → (List T_packet_Key) → (List Int) → Int → Option Bool) (atv956 : Int) (before1045 : List Int) : Nat → (List T_table_Slot) → Int → Int → Option Bool
  | 0 => fun _ _ _ => none
  | k + 1 => F_law23_TableKeeps_l5 (F_law23_TableKeeps_L5 keys895 numbers899 i900 rec902 atv956 before1045 k) keys895 numbers899 i900 rec902 atv956 before1045
def F_law23_TableKeeps_l3 (rec1048 : (List T_table_Slot) → Int → (List Int) → Int → Option Bool) (size1 : Int) (keys895 : List T_packet_Key) (numbers899 : List Int) (i900 : Int) (rec902 : (List T_table_Slot) → Int → (List T_packet_Key) → (List Int) → Int → Option Bool) (xv910 : T_law23_Act) (atv956 : Int) (t1037 : List T_table_Slot) (t1038 : Int) (before1045 : List Int) (kv1046 : Int) : Option Bool :=
  if (decide (kv1046 < (keys895.length : Int))) = true then
  (gidx keys895 kv1046).bind fun xv1055 =>
  (F_table_Table_Probes (T_table_Table.mk t1037 t1038) xv1055).bind fun y1056 =>
  if (decide (before1045.length + ([y1056.1] : List Int).length ≤ lim)) = true then
  rec1048 y1056.2.f_slots y1056.2.f_many (before1045 ++ ([y1056.1] : List Int)) (IntKind.i64.wrap (kv1046 + 1))
  else none
  else
  (F_kit_Pick xv910.f_Do 8).bind fun y1072 =>
  if (decide (y1072 < 4)) = true then
  (F_table_Table_Put (T_table_Table.mk t1037 t1038) xv910.f_K xv910.f_N).bind fun y1078 =>
  (F_packet_Key_Right xv910.f_K).bind fun y1085 =>
  if y1085 = true then
  if (decide (0 ≤ atv956)) = true then
  F_law23_TableKeeps_j7 keys895 numbers899 i900 rec902 xv910 atv956 y1078 true
  else
  F_law23_TableKeeps_j7 keys895 numbers899 i900 rec902 xv910 atv956 y1078 (decide ((keys895.length : Int) < size1))
  else
  F_law23_TableKeeps_j7 keys895 numbers899 i900 rec902 xv910 atv956 y1078 false
  else
  if (decide (y1072 < 7)) = true then
  (F_table_Table_Delete (T_table_Table.mk t1037 t1038) xv910.f_K).bind fun y1147 =>
  if (!(y1147.1 == (decide (0 ≤ atv956)))) = true then
  some false
  else
  F_law23_TableKeeps_L5 keys895 numbers899 i900 rec902 atv956 before1045 fuel0 y1147.2.f_slots y1147.2.f_many 0
  else
  F_law23_TableKeeps_j5 i900 rec902 t1037 t1038 keys895 numbers899
def F_law23_TableKeeps_L3 (size1 : Int) (keys895 : List T_packet_Key) (numbers899 : List Int) (i900 : Int) (rec902 : (List T_table_Slot) → Int → (List T_packet_Key) → (List Int) → Int → Option Bool) (xv910 : T_law23_Act) (atv956 : Int) : Nat → (List T_table_Slot) → Int → (List Int) → Int → Option Bool
  | 0 => fun _ _ _ _ => none
  | k + 1 => F_law23_TableKeeps_l3 (F_law23_TableKeeps_L3 size1 keys895 numbers899 i900 rec902 xv910 atv956 k) size1 keys895 numbers899 i900 rec902 xv910 atv956
def F_law23_TableKeeps_l2 (rec959 : Int → Int → Option Bool) (size1 : Int) (t890 : List T_table_Slot) (t891 : Int) (keys895 : List T_packet_Key) (numbers899 : List Int) (i900 : Int) (rec902 : (List T_table_Slot) → Int → (List T_packet_Key) → (List Int) → Int → Option Bool) (xv910 : T_law23_Act) (atv956 : Int) (kv957 : Int) : Option Bool :=
  if (decide (kv957 < (keys895.length : Int))) = true then
  (gidx keys895 kv957).bind fun xv966 =>
  if (q_packet_Key xv966 xv910.f_K) = true then
  F_law23_TableKeeps_j4 kv957 rec959 kv957
  else
  F_law23_TableKeeps_j4 kv957 rec959 atv956
  else
  F_law23_TableKeeps_L3 size1 keys895 numbers899 i900 rec902 xv910 atv956 fuel0 t890 t891 ([]) 0
def F_law23_TableKeeps_L2 (size1 : Int) (t890 : List T_table_Slot) (t891 : Int) (keys895 : List T_packet_Key) (numbers899 : List Int) (i900 : Int) (rec902 : (List T_table_Slot) → Int → (List T_packet_Key) → (List Int) → Int → Option Bool) (xv910 : T_law23_Act) : Nat → Int → Int → Option Bool
  | 0 => fun _ _ => none
  | k + 1 => F_law23_TableKeeps_l2 (F_law23_TableKeeps_L2 size1 t890 t891 keys895 numbers899 i900 rec902 xv910 k) size1 t890 t891 keys895 numbers899 i900 rec902 xv910
def F_law23_TableKeeps_l1 (rec902 : (List T_table_Slot) → Int → (List T_packet_Key) → (List Int) → Int → Option Bool) (size1 : Int) (lv2 : List T_law23_Act) (t890 : List T_table_Slot) (t891 : Int) (keys895 : List T_packet_Key) (numbers899 : List Int) (i900 : Int) : Option Bool :=
  if (decide (i900 < (lv2.length : Int))) = true then
  (gidx lv2 i900).bind fun xv910 =>
  F_law23_TableKeeps_L2 size1 t890 t891 keys895 numbers899 i900 rec902 xv910 fuel0 (-1) 0
  else
  (F_law23_works).bind fun y1474 =>
  some y1474
def F_law23_TableKeeps_L1 (size1 : Int) (lv2 : List T_law23_Act) : Nat → (List T_table_Slot) → Int → (List T_packet_Key) → (List Int) → Int → Option Bool
  | 0 => fun _ _ _ _ _ => none
  | k + 1 => F_law23_TableKeeps_l1 (F_law23_TableKeeps_L1 size1 lv2 k) size1 lv2
def F_law23_TableKeeps_j2 (size1 : Int) (lv2 : List T_law23_Act) (f18 : Bool) : Option Bool :=
  if f18 = true then
  (F_law23_works).bind fun y23 =>
  F_law23_TableKeeps_j3 y23
  else
  if (decide (0 ≤ size1 ∧ size1 ≤ lim)) = true then
  F_law23_TableKeeps_L1 size1 lv2 fuel0 (List.replicate (Int.toNat size1) ((T_table_Slot.mk false (T_packet_Key.mk (T_addr_Addr.mk false (List.replicate 16 0)) (T_addr_Addr.mk false (List.replicate 16 0)) 0 0 0) 0) : T_table_Slot)) 0 ([]) ([]) 0
  else none
def F_law23_TableKeeps_j1 (size1 : Int) (lv2 : List T_law23_Act) (t8 : Bool) : Option Bool :=
  if t8 = true then
  (F_law23_works).bind fun y11 =>
  some y11
  else
  if (decide (size1 < 1)) = true then
  F_law23_TableKeeps_j2 size1 lv2 true
  else
  if (decide (65536 < size1)) = true then
  F_law23_TableKeeps_j2 size1 lv2 true
  else
  F_law23_TableKeeps_j2 size1 lv2 ((bits .and .i64 size1 (IntKind.i64.wrap (size1 - 1))) != 0)
def F_law23_TableKeeps (size1 : Int) (lv2 : List T_law23_Act) : Option Bool :=
  if (decide (64 < size1)) = true then
  F_law23_TableKeeps_j1 size1 lv2 true
  else
  F_law23_TableKeeps_j1 size1 lv2 (decide (60 < (lv2.length : Int)))
def F_ref23_New_l1 (rec26 : Int → Option ((List T_ref23_Slot) × Int)) (size1 : Int) (nv24 : Int) : Option ((List T_ref23_Slot) × Int) :=
  if (decide (nv24 ≤ 65536)) = true then
  if (nv24 == size1) = true then
  if (decide (0 ≤ size1 ∧ size1 ≤ lim)) = true then
  some ((List.replicate (Int.toNat size1) ((T_ref23_Slot.mk false (T_ref08_Key.mk (T_addr_Addr.mk false (List.replicate 16 0)) (T_addr_Addr.mk false (List.replicate 16 0)) 0 0 0) 0) : T_ref23_Slot)), 0)
  else none
  else
  rec26 (IntKind.i64.wrap (nv24 * 2))
  else
  some ([], 2)
def F_ref23_New_L1 (size1 : Int) : Nat → Int → Option ((List T_ref23_Slot) × Int)
  | 0 => fun _ => none
  | k + 1 => F_ref23_New_l1 (F_ref23_New_L1 size1 k) size1
def F_ref23_New (size1 : Int) : Option ((List T_ref23_Slot) × Int) :=
  F_ref23_New_L1 size1 fuel0 1
def F_docs_Addr (av1 : T_addr_Addr) : Option T_addr_Addr :=
  some av1
def F_docs_Key (kv1 : T_packet_Key) : Option T_ref08_Key :=
  (F_docs_Addr kv1.f_Src).bind fun y10 =>
  (F_docs_Addr kv1.f_Dst).bind fun y14 =>
  some (T_ref08_Key.mk y10 y14 kv1.f_Proto kv1.f_SrcPort kv1.f_DstPort)
def F_ref04_Right_j1 (i29 : Int) (rec31 : Int → Option Bool) (t39 : Bool) : Option Bool :=
  if t39 = true then
  some false
  else
  rec31 (IntKind.i64.wrap (i29 + 1))
def F_ref04_Right_l1 (rec31 : Int → Option Bool) (av1 : T_addr_Addr) (i29 : Int) : Option Bool :=
  if (decide (i29 < 16)) = true then
  if (!av1.f_Six) = true then
  (gidxA 16 av1.f_B i29).bind fun xv37 =>
  F_ref04_Right_j1 i29 rec31 (xv37 != 0)
  else
  F_ref04_Right_j1 i29 rec31 false
  else
  some true
def F_ref04_Right_L1 (av1 : T_addr_Addr) : Nat → Int → Option Bool
  | 0 => fun _ => none
  | k + 1 => F_ref04_Right_l1 (F_ref04_Right_L1 av1 k) av1
def F_ref04_Right (av1 : T_addr_Addr) : Option Bool :=
  F_ref04_Right_L1 av1 fuel0 4
def F_ref08_ports_j1 (t3 : Bool) : Option Bool :=
  some t3
def F_ref08_ports (proto1 : Int) : Option Bool :=
  if (proto1 == 6) = true then
  F_ref08_ports_j1 true
  else
  F_ref08_ports_j1 (proto1 == 17)
def F_ref08_icmp_j1 (t3 : Bool) : Option Bool :=
  some t3
def F_ref08_icmp (proto1 : Int) : Option Bool :=
  if (proto1 == 1) = true then
  F_ref08_icmp_j1 true
  else
  F_ref08_icmp_j1 (proto1 == 58)
def F_ref08_Right_j2 (t27 : Bool) : Option Bool :=
  some t27
def F_ref08_Right_j1 (kv1 : T_ref08_Key) (t16 : Bool) : Option Bool :=
  if t16 = true then
  some false
  else
  (F_ref08_ports kv1.f_Proto).bind fun y19 =>
  if y19 = true then
  F_ref08_Right_j2 true
  else
  if (kv1.f_SrcPort == 0) = true then
  (F_ref08_icmp kv1.f_Proto).bind fun y23 =>
  if y23 = true then
  F_ref08_Right_j2 true
  else
  F_ref08_Right_j2 (kv1.f_DstPort == 0)
  else
  F_ref08_Right_j2 false
def F_ref08_Right (kv1 : T_ref08_Key) : Option Bool :=
  (F_ref04_Right kv1.f_Src).bind fun y7 =>
  if (!y7) = true then
  F_ref08_Right_j1 kv1 true
  else
  (F_ref04_Right kv1.f_Dst).bind fun y11 =>
  if (!y11) = true then
  F_ref08_Right_j1 kv1 true
  else
  F_ref08_Right_j1 kv1 (!(kv1.f_Src.f_Six == kv1.f_Dst.f_Six))
def F_ref04_size (six1 : Bool) : Option Int :=
  if six1 = true then
  some 16
  else
  some 4
def F_ref04_Bytes_l1 (rec56 : (List Int) → Int → Option ((List Int))) (av1 : T_addr_Addr) (out53 : List Int) (i54 : Int) : Option ((List Int)) :=
  (F_ref04_size av1.f_Six).bind fun y60 =>
  if (decide (i54 < y60)) = true then
  (gidxA 16 av1.f_B i54).bind fun xv66 =>
  if (decide (out53.length + ([xv66] : List Int).length ≤ lim)) = true then
  rec56 (out53 ++ ([xv66] : List Int)) (IntKind.i64.wrap (i54 + 1))
  else none
  else
  some out53
def F_ref04_Bytes_L1 (av1 : T_addr_Addr) : Nat → (List Int) → Int → Option ((List Int))
  | 0 => fun _ _ => none
  | k + 1 => F_ref04_Bytes_l1 (F_ref04_Bytes_L1 av1 k) av1
def F_ref04_Bytes (av1 : T_addr_Addr) : Option ((List Int)) :=
  F_ref04_Bytes_L1 av1 fuel0 ([]) 0
def F_ref01_Put_B (recF : Int → Int → Option ((List Int))) (v1 : Int) (size2 : Int) : Option ((List Int)) :=
  if (size2 == 0) = true then
  some ([])
  else
  (recF (IntKind.u64.wrap (Int.tdiv v1 256)) (IntKind.i64.wrap (size2 - 1))).bind fun y8 =>
  if (decide (y8.length + ([(IntKind.u8.wrap (Int.tmod v1 256))] : List Int).length ≤ lim)) = true then
  some (y8 ++ ([(IntKind.u8.wrap (Int.tmod v1 256))] : List Int))
  else none
def F_ref01_Put_R : Nat → Int → Int → Option ((List Int))
  | 0 => fun _ _ => none
  | k + 1 => F_ref01_Put_B (F_ref01_Put_R k)
def F_ref01_Put (v1 : Int) (size2 : Int) : Option ((List Int)) := F_ref01_Put_R fuel0 v1 size2
def F_ref08_Bytes_j1 (kv1 : T_ref08_Key) (out27 : List Int) : Option ((List Int)) :=
  (F_ref04_Bytes kv1.f_Src).bind fun y30 =>
  if (decide (out27.length + y30.length ≤ lim)) = true then
  (F_ref04_Bytes kv1.f_Dst).bind fun y43 =>
  if (decide ((out27 ++ y30).length + y43.length ≤ lim)) = true then
  if (decide (((out27 ++ y30) ++ y43).length + ([kv1.f_Proto] : List Int).length ≤ lim)) = true then
  (F_ref01_Put (IntKind.u64.wrap kv1.f_SrcPort) 2).bind fun y65 =>
  if (decide ((((out27 ++ y30) ++ y43) ++ ([kv1.f_Proto] : List Int)).length + y65.length ≤ lim)) = true then
  (F_ref01_Put (IntKind.u64.wrap kv1.f_DstPort) 2).bind fun y78 =>
  if (decide (((((out27 ++ y30) ++ y43) ++ ([kv1.f_Proto] : List Int)) ++ y65).length + y78.length ≤ lim)) = true then
  some (((((out27 ++ y30) ++ y43) ++ ([kv1.f_Proto] : List Int)) ++ y65) ++ y78)
  else none
  else none
  else none
  else none
  else none
def F_ref08_Bytes (kv1 : T_ref08_Key) : Option ((List Int)) :=
  (F_ref08_Right kv1).bind fun y8 =>
  if (!y8) = true then
  some ([])
  else
  if kv1.f_Src.f_Six = true then
  (gidx ([4] : List Int) 0).bind fun xv20 =>
  F_ref08_Bytes_j1 kv1 (([4] : List Int).set (0 : Int).toNat 6)
  else
  F_ref08_Bytes_j1 kv1 ([4] : List Int)
def F_ref23_Hash_l1 (rec38 : Int → Int → Option Int) (y8 : (List Int)) (h34 : Int) (i36 : Int) : Option Int :=
  if (decide (i36 < (y8.length : Int))) = true then
  (gidx y8 i36).bind fun xv46 =>
  rec38 (IntKind.u64.wrap ((bits .xor .u64 h34 (IntKind.u64.wrap xv46)) * 1099511628211)) (IntKind.i64.wrap (i36 + 1))
  else
  some h34
def F_ref23_Hash_L1 (y8 : (List Int)) : Nat → Int → Int → Option Int
  | 0 => fun _ _ => none
  | k + 1 => F_ref23_Hash_l1 (F_ref23_Hash_L1 y8 k) y8
def F_ref23_Hash (kv1 : T_ref08_Key) : Option Int :=
  (F_ref08_Bytes kv1).bind fun y8 =>
  F_ref23_Hash_L1 y8 fuel0 14695981039346656037 0
def F_ref23_Find_j1 (t1 : List T_ref23_Slot) (atv52 : Int) (i53 : Int) (rec55 : Int → Int → Option (Int × Int)) (t68 : Bool) : Option (Int × Int) :=
  if t68 = true then
  some (atv52, (IntKind.i64.wrap (i53 + 1)))
  else
  if (decide ((t1.length : Int) ≠ 0)) = true then
  rec55 (Int.tmod (IntKind.i64.wrap (atv52 + 1)) (t1.length : Int)) (IntKind.i64.wrap (i53 + 1))
  else none
def F_ref23_Find_l1 (rec55 : Int → Int → Option (Int × Int)) (t1 : List T_ref23_Slot) (kv5 : T_ref08_Key) (atv52 : Int) (i53 : Int) : Option (Int × Int) :=
  if (decide (i53 < (t1.length : Int))) = true then
  (gidx t1 atv52).bind fun xv63 =>
  if (!xv63.f_Used) = true then
  F_ref23_Find_j1 t1 atv52 i53 rec55 true
  else
  (gidx t1 atv52).bind fun xv66 =>
  F_ref23_Find_j1 t1 atv52 i53 rec55 (q_ref08_Key xv66.f_Key kv5)
  else
  some ((-1), (t1.length : Int))
def F_ref23_Find_L1 (t1 : List T_ref23_Slot) (kv5 : T_ref08_Key) : Nat → Int → Int → Option (Int × Int)
  | 0 => fun _ _ => none
  | k + 1 => F_ref23_Find_l1 (F_ref23_Find_L1 t1 kv5 k) t1 kv5
def F_ref23_Find (t1 : List T_ref23_Slot) (kv5 : T_ref08_Key) : Option (Int × Int) :=
  (F_ref23_Hash kv5).bind fun y11 =>
  if (decide ((IntKind.u64.wrap (t1.length : Int)) ≠ 0)) = true then
  F_ref23_Find_L1 t1 kv5 fuel0 (IntKind.i64.wrap (Int.tmod y11 (IntKind.u64.wrap (t1.length : Int)))) 0
  else none
def F_ref23_with (t1 : List T_ref23_Slot) (atv5 : Int) (xv6 : T_ref23_Slot) : Option ((List T_ref23_Slot)) :=
  if (decide (t1.length ≤ lim)) = true then
  (gidx t1 atv5).bind fun xv21 =>
  some (t1.set (atv5 : Int).toNat xv6)
  else none
def F_ref23_Delete_l1 (rec118 : (List T_ref23_Slot) → Int → Option ((List T_ref23_Slot) × Bool)) (y13 : Int × Int) (t115 : List T_ref23_Slot) (i116 : Int) : Option ((List T_ref23_Slot) × Bool) :=
  if (decide (i116 < (t115.length : Int))) = true then
  if (decide ((t115.length : Int) ≠ 0)) = true then
  (gidx t115 (Int.tmod (IntKind.i64.wrap (y13.1 + i116)) (t115.length : Int))).bind fun xv127 =>
  if (!xv127.f_Used) = true then
  some (t115, true)
  else
  if (decide ((t115.length : Int) ≠ 0)) = true then
  (F_ref23_with t115 (Int.tmod (IntKind.i64.wrap (y13.1 + i116)) (t115.length : Int)) (T_ref23_Slot.mk false (T_ref08_Key.mk (T_addr_Addr.mk false (List.replicate 16 0)) (T_addr_Addr.mk false (List.replicate 16 0)) 0 0 0) 0)).bind fun y138 =>
  (F_ref23_Find y138 xv127.f_Key).bind fun y146 =>
  (F_ref23_with y138 y146.1 xv127).bind fun y150 =>
  rec118 y150 (IntKind.i64.wrap (i116 + 1))
  else none
  else none
  else
  some (t115, true)
def F_ref23_Delete_L1 (y13 : Int × Int) : Nat → (List T_ref23_Slot) → Int → Option ((List T_ref23_Slot) × Bool)
  | 0 => fun _ _ => none
  | k + 1 => F_ref23_Delete_l1 (F_ref23_Delete_L1 y13 k) y13
def F_ref23_Delete_j1 (t1 : List T_ref23_Slot) (y13 : Int × Int) (t22 : Bool) : Option ((List T_ref23_Slot) × Bool) :=
  if t22 = true then
  some (t1, false)
  else
  (F_ref23_with t1 y13.1 (T_ref23_Slot.mk false (T_ref08_Key.mk (T_addr_Addr.mk false (List.replicate 16 0)) (T_addr_Addr.mk false (List.replicate 16 0)) 0 0 0) 0)).bind fun y26 =>
  F_ref23_Delete_L1 y13 fuel0 y26 1
def F_ref23_Delete (t1 : List T_ref23_Slot) (kv6 : T_ref08_Key) : Option ((List T_ref23_Slot) × Bool) :=
  (F_ref23_Find t1 kv6).bind fun y13 =>
  if (decide (y13.1 < 0)) = true then
  F_ref23_Delete_j1 t1 y13 true
  else
  (gidx t1 y13.1).bind fun xv21 =>
  F_ref23_Delete_j1 t1 y13 (!xv21.f_Used)
def F_table_Table_Clear (t1 : T_table_Table) : Option T_table_Table :=
  some (T_table_Table.mk (List.replicate (t1.f_slots).length ((T_table_Slot.mk false (T_packet_Key.mk (T_addr_Addr.mk false (List.replicate 16 0)) (T_addr_Addr.mk false (List.replicate 16 0)) 0 0 0) 0) : T_table_Slot)) 0)
def F_ref23_Put (t1 : List T_ref23_Slot) (kv6 : T_ref08_Key) (nv7 : Int) : Option ((List T_ref23_Slot) × Int) :=
  (F_ref08_Right kv6).bind fun y15 =>
  if (!y15) = true then
  some (t1, 2)
  else
  (F_ref23_Find t1 kv6).bind fun y21 =>
  if (decide (y21.1 < 0)) = true then
  some (t1, 230)
  else
  (F_ref23_with t1 y21.1 (T_ref23_Slot.mk true kv6 nv7)).bind fun y29 =>
  some (y29, 0)
def F_ref23_Get_j1 (t1 : List T_ref23_Slot) (y11 : Int × Int) (t19 : Bool) : Option (Int × Bool) :=
  if t19 = true then
  some (0, false)
  else
  (gidx t1 y11.1).bind fun xv25 =>
  some (xv25.f_N, true)
def F_ref23_Get (t1 : List T_ref23_Slot) (kv5 : T_ref08_Key) : Option (Int × Bool) :=
  (F_ref23_Find t1 kv5).bind fun y11 =>
  if (decide (y11.1 < 0)) = true then
  F_ref23_Get_j1 t1 y11 true
  else
  (gidx t1 y11.1).bind fun xv18 =>
  F_ref23_Get_j1 t1 y11 (!xv18.f_Used)
def F_ref23_Len_j1 (i28 : Int) (rec30 : Int → Int → Option Int) (nv38 : Int) : Option Int :=
  rec30 nv38 (IntKind.i64.wrap (i28 + 1))
def F_ref23_Len_l1 (rec30 : Int → Int → Option Int) (t1 : List T_ref23_Slot) (nv27 : Int) (i28 : Int) : Option Int :=
  if (decide (i28 < (t1.length : Int))) = true then
  (gidx t1 i28).bind fun xv37 =>
  if xv37.f_Used = true then
  F_ref23_Len_j1 i28 rec30 (IntKind.i64.wrap (nv27 + 1))
  else
  F_ref23_Len_j1 i28 rec30 nv27
  else
  some nv27
def F_ref23_Len_L1 (t1 : List T_ref23_Slot) : Nat → Int → Int → Option Int
  | 0 => fun _ _ => none
  | k + 1 => F_ref23_Len_l1 (F_ref23_Len_L1 t1 k) t1
def F_ref23_Len (t1 : List T_ref23_Slot) : Option Int :=
  F_ref23_Len_L1 t1 fuel0 0 0
def F_bytes_Compare (av1 : List Int) (b5 : List Int) : Option Int :=
  some (bcmp av1 b5)
def F_packet_Cmp (av1 : T_packet_Key) (b2 : T_packet_Key) : Option Int :=
  (F_packet_Key_Bytes av1).bind fun y11 =>
  (F_packet_Key_Bytes b2).bind fun y18 =>
  (F_bytes_Compare y11 y18).bind fun y25 =>
  some y25
instance : Inhabited T_packet_Key := ⟨(T_packet_Key.mk (T_addr_Addr.mk false (List.replicate 16 0)) (T_addr_Addr.mk false (List.replicate 16 0)) 0 0 0)⟩
def cf_packet_Cmp (x y : T_packet_Key) : Int := (F_packet_Cmp x y).getD 0
def F_slices_SortFunc_packet_Key_packet_Key_packet_Cmp (xs : List T_packet_Key) : Option (List T_packet_Key) :=
  if decide (xs.length ≤ lim) = true then some (srt cf_packet_Cmp xs) else none
def F_table_Table_Keys_j1 (t92 : Int) (rec94 : (List T_packet_Key) → Int → Option ((List T_packet_Key) × T_table_Table)) (lv120 : List T_packet_Key) : Option ((List T_packet_Key) × T_table_Table) :=
  rec94 lv120 (IntKind.i64.wrap (t92 + 1))
def F_table_Table_Keys_l1 (rec94 : (List T_packet_Key) → Int → Option ((List T_packet_Key) × T_table_Table)) (y13 : (List T_table_Slot) × T_table_Table) (lv90 : List T_packet_Key) (t92 : Int) : Option ((List T_packet_Key) × T_table_Table) :=
  if (decide (t92 < (y13.1.length : Int))) = true then
  (gidx y13.1 t92).bind fun xv101 =>
  if xv101.f_Used = true then
  if (decide (lv90.length + ([xv101.f_Key] : List T_packet_Key).length ≤ lim)) = true then
  F_table_Table_Keys_j1 t92 rec94 (lv90 ++ ([xv101.f_Key] : List T_packet_Key))
  else none
  else
  F_table_Table_Keys_j1 t92 rec94 lv90
  else
  (F_slices_SortFunc_packet_Key_packet_Key_packet_Cmp lv90).bind fun y124 =>
  some (y124, y13.2)
def F_table_Table_Keys_L1 (y13 : (List T_table_Slot) × T_table_Table) : Nat → (List T_packet_Key) → Int → Option ((List T_packet_Key) × T_table_Table)
  | 0 => fun _ _ => none
  | k + 1 => F_table_Table_Keys_l1 (F_table_Table_Keys_L1 y13 k) y13
def F_table_Table_Keys (t1 : T_table_Table) : Option ((List T_packet_Key) × T_table_Table) :=
  (F_table_Table_Slots t1).bind fun y13 =>
  F_table_Table_Keys_L1 y13 fuel0 ([]) 0
def F_ref08_Cmp (av1 : T_ref08_Key) (b2 : T_ref08_Key) : Option Int :=
  (F_ref08_Bytes av1).bind fun y11 =>
  (F_ref08_Bytes b2).bind fun y18 =>
  if (Op.bytesLess (strOfNums y11).toList (strOfNums y18).toList) = true then
  some (-1)
  else
  if (!(Op.bytesLess (strOfNums y11).toList (strOfNums y18).toList || (strOfNums y11).toList == (strOfNums y18).toList)) = true then
  some 1
  else
  some 0
def F_law23_is_j2 (p49 : List T_table_Slot) (p50 : Int) (lv143 : List T_table_Slot) (i144 : Int) (rec146 : (List T_table_Slot) → Int → Option (Bool × T_table_Table)) (t177 : Bool) : Option (Bool × T_table_Table) :=
  if t177 = true then
  some (false, (T_table_Table.mk p49 p50))
  else
  (gidx lv143 i144).bind fun xv182 =>
  rec146 (lv143.set (i144 : Int).toNat (T_table_Slot.mk false xv182.f_Key xv182.f_N)) (IntKind.i64.wrap (i144 + 1))
def F_law23_is_j3 (rv8 : List T_ref23_Slot) (y186 : (List T_packet_Key) × T_table_Table) (i276 : Int) (rec278 : Int → Option (Bool × T_table_Table)) (t305 : Bool) : Option (Bool × T_table_Table) :=
  if t305 = true then
  some (false, y186.2)
  else
  (gidx y186.1 i276).bind fun xv311 =>
  (F_docs_Key xv311).bind fun y312 =>
  (F_ref23_Get rv8 y312).bind fun y316 =>
  if (!y316.2) = true then
  some (false, y186.2)
  else
  rec278 (IntKind.i64.wrap (i276 + 1))
def F_law23_is_l2 (rec278 : Int → Option (Bool × T_table_Table)) (rv8 : List T_ref23_Slot) (y186 : (List T_packet_Key) × T_table_Table) (i276 : Int) : Option (Bool × T_table_Table) :=
  if (decide (i276 < (y186.1.length : Int))) = true then
  if (decide (0 < i276)) = true then
  (gidx y186.1 (IntKind.i64.wrap (i276 - 1))).bind fun xv286 =>
  (gidx y186.1 i276).bind fun xv289 =>
  (F_docs_Key xv286).bind fun y290 =>
  (F_docs_Key xv289).bind fun y294 =>
  (F_ref08_Cmp y290 y294).bind fun y298 =>
  F_law23_is_j3 rv8 y186 i276 rec278 (decide (0 ≤ y298))
  else
  F_law23_is_j3 rv8 y186 i276 rec278 false
  else
  some (true, y186.2)
def F_law23_is_L2 (rv8 : List T_ref23_Slot) (y186 : (List T_packet_Key) × T_table_Table) : Nat → Int → Option (Bool × T_table_Table)
  | 0 => fun _ => none
  | k + 1 => F_law23_is_l2 (F_law23_is_L2 rv8 y186 k) rv8 y186
def F_law23_is_l1 (rec146 : (List T_table_Slot) → Int → Option (Bool × T_table_Table)) (rv8 : List T_ref23_Slot) (p49 : List T_table_Slot) (p50 : Int) (lv143 : List T_table_Slot) (i144 : Int) : Option (Bool × T_table_Table) :=
  if (decide (i144 < (lv143.length : Int))) = true then
  (gidx lv143 i144).bind fun xv154 =>
  (gidx rv8 i144).bind fun xv157 =>
  if (!(xv154.f_Used == xv157.f_Used)) = true then
  F_law23_is_j2 p49 p50 lv143 i144 rec146 true
  else
  (gidx lv143 i144).bind fun xv160 =>
  (gidx rv8 i144).bind fun xv163 =>
  (F_docs_Key xv160.f_Key).bind fun y164 =>
  if (!(q_ref08_Key y164 xv163.f_Key)) = true then
  F_law23_is_j2 p49 p50 lv143 i144 rec146 true
  else
  (gidx lv143 i144).bind fun xv170 =>
  (gidx rv8 i144).bind fun xv173 =>
  F_law23_is_j2 p49 p50 lv143 i144 rec146 (xv170.f_N != xv173.f_N)
  else
  (F_table_Table_Keys (T_table_Table.mk p49 p50)).bind fun y186 =>
  (F_ref23_Len rv8).bind fun y198 =>
  if ((y186.1.length : Int) != y198) = true then
  some (false, y186.2)
  else
  F_law23_is_L2 rv8 y186 fuel0 0
def F_law23_is_L1 (rv8 : List T_ref23_Slot) (p49 : List T_table_Slot) (p50 : Int) : Nat → (List T_table_Slot) → Int → Option (Bool × T_table_Table)
  | 0 => fun _ _ => none
  | k + 1 => F_law23_is_l1 (F_law23_is_L1 rv8 p49 p50 k) rv8 p49 p50
def F_law23_is_j1 (rv8 : List T_ref23_Slot) (y16 : (List T_table_Slot) × T_table_Table) (p49 : List T_table_Slot) (p50 : Int) (t52 : Bool) : Option (Bool × T_table_Table) :=
  if t52 = true then
  some (false, (T_table_Table.mk p49 p50))
  else
  F_law23_is_L1 rv8 p49 p50 fuel0 y16.1 0
def F_law23_is (t1 : T_table_Table) (rv8 : List T_ref23_Slot) : Option (Bool × T_table_Table) :=
  (F_table_Table_Slots t1).bind fun y16 =>
  if ((y16.1.length : Int) != (rv8.length : Int)) = true then
  F_law23_is_j1 rv8 y16 y16.2.f_slots y16.2.f_many true
  else
  (F_table_Table_Size y16.2).bind fun y27 =>
  if (y27.1 != (rv8.length : Int)) = true then
  F_law23_is_j1 rv8 y16 y27.2.f_slots y27.2.f_many true
  else
  (F_table_Table_Len y27.2).bind fun y34 =>
  (F_ref23_Len rv8).bind fun y41 =>
  F_law23_is_j1 rv8 y16 y34.2.f_slots y34.2.f_many (y34.1 != y41)
def F_law23_TablePlays_j3 (t31 : Bool) : Option Bool :=
  if t31 = true then
  some false
  else
  (F_law23_works).bind fun y37 =>
  some y37
def F_law23_TablePlays_j6 (i399 : Int) (rec401 : (List T_table_Slot) → Int → (List T_ref23_Slot) → Int → Option Bool) (rv502 : List T_ref23_Slot) (t550 : List T_table_Slot) (t551 : Int) (t553 : Bool) : Option Bool :=
  if t553 = true then
  some false
  else
  rec401 t550 t551 rv502 (IntKind.i64.wrap (i399 + 1))
def F_law23_TablePlays_j5 (i399 : Int) (rec401 : (List T_table_Slot) → Int → (List T_ref23_Slot) → Int → Option Bool) (xv409 : T_law23_Act) (y415 : T_ref08_Key) (t496 : List T_table_Slot) (t497 : Int) (rv502 : List T_ref23_Slot) : Option Bool :=
  (F_table_Table_Get (T_table_Table.mk t496 t497) xv409.f_K).bind fun y507 =>
  (F_ref23_Get rv502 y415).bind fun y515 =>
  (F_ref23_Find rv502 y415).bind fun y520 =>
  if (y507.1 != y515.1) = true then
  F_law23_TablePlays_j6 i399 rec401 rv502 y507.2.2.f_slots y507.2.2.f_many true
  else
  if (!(y507.2.1 == y515.2)) = true then
  F_law23_TablePlays_j6 i399 rec401 rv502 y507.2.2.f_slots y507.2.2.f_many true
  else
  (F_table_Table_Probes y507.2.2 xv409.f_K).bind fun y526 =>
  if (y526.1 != y520.2) = true then
  F_law23_TablePlays_j6 i399 rec401 rv502 y526.2.f_slots y526.2.f_many true
  else
  (F_table_Hash xv409.f_K).bind fun y534 =>
  (F_ref23_Hash y415).bind fun y538 =>
  if (y534 != y538) = true then
  F_law23_TablePlays_j6 i399 rec401 rv502 y526.2.f_slots y526.2.f_many true
  else
  (F_law23_is y526.2 rv502).bind fun y543 =>
  F_law23_TablePlays_j6 i399 rec401 rv502 y543.2.f_slots y543.2.f_many (!y543.1)
def F_law23_TablePlays_j7 (size1 : Int) (t392 : List T_table_Slot) (t393 : Int) (rv398 : List T_ref23_Slot) (i399 : Int) (rec401 : (List T_table_Slot) → Int → (List T_ref23_Slot) → Int → Option Bool) (xv409 : T_law23_Act) (y415 : T_ref08_Key) (y424 : Int) (t434 : Bool) : Option Bool :=
  if t434 = true then
  (F_ref23_Delete rv398 y415).bind fun y437 =>
  (F_table_Table_Delete (T_table_Table.mk t392 t393) xv409.f_K).bind fun y447 =>
  if (!(y447.1 == y437.2)) = true then
  some false
  else
  F_law23_TablePlays_j5 i399 rec401 xv409 y415 y447.2.f_slots y447.2.f_many y437.1
  else
  if (y424 == 6) = true then
  F_law23_TablePlays_j5 i399 rec401 xv409 y415 t392 t393 rv398
  else
  if (y424 == 7) = true then
  if ((Int.tmod xv409.f_N 8) == 0) = true then
  (F_table_Table_Clear (T_table_Table.mk t392 t393)).bind fun y461 =>
  (F_ref23_New size1).bind fun y468 =>
  F_law23_TablePlays_j5 i399 rec401 xv409 y415 y461.f_slots y461.f_many y468.1
  else
  F_law23_TablePlays_j5 i399 rec401 xv409 y415 t392 t393 rv398
  else
  (F_ref23_Put rv398 y415 xv409.f_N).bind fun y478 =>
  (F_table_Table_Put (T_table_Table.mk t392 t393) xv409.f_K xv409.f_N).bind fun y488 =>
  if (y488.1 != y478.2) = true then
  some false
  else
  F_law23_TablePlays_j5 i399 rec401 xv409 y415 y488.2.f_slots y488.2.f_many y478.1
def F_law23_TablePlays_l1 (rec401 : (List T_table_Slot) → Int → (List T_ref23_Slot) → Int → Option Bool) (size1 : Int) (lv2 : List T_law23_Act) (t392 : List T_table_Slot) (t393 : Int) (rv398 : List T_ref23_Slot) (i399 : Int) : Option Bool :=
  if (decide (i399 < (lv2.length : Int))) = true then
  (gidx lv2 i399).bind fun xv409 =>
  (F_docs_Key xv409.f_K).bind fun y415 =>
  (F_kit_Pick xv409.f_Do 8).bind fun y424 =>
  if (y424 == 4) = true then
  F_law23_TablePlays_j7 size1 t392 t393 rv398 i399 rec401 xv409 y415 y424 (y424 == 4)
  else
  F_law23_TablePlays_j7 size1 t392 t393 rv398 i399 rec401 xv409 y415 y424 (y424 == 5)
  else
  (F_law23_works).bind fun y558 =>
  some y558
def F_law23_TablePlays_L1 (size1 : Int) (lv2 : List T_law23_Act) : Nat → (List T_table_Slot) → Int → (List T_ref23_Slot) → Int → Option Bool
  | 0 => fun _ _ _ _ => none
  | k + 1 => F_law23_TablePlays_l1 (F_law23_TablePlays_L1 size1 lv2 k) size1 lv2
def F_law23_TablePlays_j4 (size1 : Int) (lv2 : List T_law23_Act) (y50 : (List T_ref23_Slot) × Int) (t61 : Bool) : Option Bool :=
  if t61 = true then
  some false
  else
  F_law23_TablePlays_L1 size1 lv2 fuel0 (List.replicate (Int.toNat size1) ((T_table_Slot.mk false (T_packet_Key.mk (T_addr_Addr.mk false (List.replicate 16 0)) (T_addr_Addr.mk false (List.replicate 16 0)) 0 0 0) 0) : T_table_Slot)) 0 y50.1 0
def F_law23_TablePlays_j2 (size1 : Int) (lv2 : List T_law23_Act) (nv18 : Bool) : Option Bool :=
  if nv18 = true then
  (F_ref23_New size1).bind fun y22 =>
  if (2 != y22.2) = true then
  F_law23_TablePlays_j3 true
  else
  F_law23_TablePlays_j3 (!(true == true))
  else
  if (decide (0 ≤ size1 ∧ size1 ≤ lim)) = true then
  (F_ref23_New size1).bind fun y50 =>
  if (0 != y50.2) = true then
  F_law23_TablePlays_j4 size1 lv2 y50 true
  else
  F_law23_TablePlays_j4 size1 lv2 y50 (!(false == false))
  else none
def F_law23_TablePlays_j1 (size1 : Int) (lv2 : List T_law23_Act) (t8 : Bool) : Option Bool :=
  if t8 = true then
  (F_law23_works).bind fun y11 =>
  some y11
  else
  if (decide (size1 < 1)) = true then
  F_law23_TablePlays_j2 size1 lv2 true
  else
  if (decide (65536 < size1)) = true then
  F_law23_TablePlays_j2 size1 lv2 true
  else
  F_law23_TablePlays_j2 size1 lv2 ((bits .and .i64 size1 (IntKind.i64.wrap (size1 - 1))) != 0)
def F_law23_TablePlays (size1 : Int) (lv2 : List T_law23_Act) : Option Bool :=
  if (decide (64 < size1)) = true then
  if (decide (size1 ≤ 65536)) = true then
  F_law23_TablePlays_j1 size1 lv2 true
  else
  F_law23_TablePlays_j1 size1 lv2 (decide (60 < (lv2.length : Int)))
  else
  F_law23_TablePlays_j1 size1 lv2 (decide (60 < (lv2.length : Int)))
def F_table_Table_Clear_N : Option Unit :=
  some ()
def F_table_Table_Delete_N (kv1 : T_packet_Key) : Option Bool :=
  (F_table_Table_has_N kv1).bind fun y7 =>
  if (decide (y7 < 0)) = true then
  some false
  else
  none
def F_table_Table_Probes_N (kv1 : T_packet_Key) : Option Int :=
  (F_table_Table_find_N kv1).bind fun y7 =>
  some y7.2
def F_table_Table_Len_N : Option Int :=
  some 0
def F_table_Table_Size_N : Option Int :=
  some 0
def F_table_Table_Slots_N : Option ((List T_table_Slot)) :=
  some ([])
def F_table_Table_Keys_N_j1 (t73 : Int) (rec75 : (List T_packet_Key) → Int → Option ((List T_packet_Key))) (lv99 : List T_packet_Key) : Option ((List T_packet_Key)) :=
  rec75 lv99 (IntKind.i64.wrap (t73 + 1))
def F_table_Table_Keys_N_l1 (rec75 : (List T_packet_Key) → Int → Option ((List T_packet_Key))) (y5 : (List T_table_Slot)) (lv71 : List T_packet_Key) (t73 : Int) : Option ((List T_packet_Key)) :=
  if (decide (t73 < (y5.length : Int))) = true then
  (gidx y5 t73).bind fun xv82 =>
  if xv82.f_Used = true then
  if (decide (lv71.length + ([xv82.f_Key] : List T_packet_Key).length ≤ lim)) = true then
  F_table_Table_Keys_N_j1 t73 rec75 (lv71 ++ ([xv82.f_Key] : List T_packet_Key))
  else none
  else
  F_table_Table_Keys_N_j1 t73 rec75 lv71
  else
  (F_slices_SortFunc_packet_Key_packet_Key_packet_Cmp lv71).bind fun y103 =>
  some y103
def F_table_Table_Keys_N_L1 (y5 : (List T_table_Slot)) : Nat → (List T_packet_Key) → Int → Option ((List T_packet_Key))
  | 0 => fun _ _ => none
  | k + 1 => F_table_Table_Keys_N_l1 (F_table_Table_Keys_N_L1 y5 k) y5
def F_table_Table_Keys_N : Option ((List T_packet_Key)) :=
  (F_table_Table_Slots_N).bind fun y5 =>
  F_table_Table_Keys_N_L1 y5 fuel0 ([]) 0
def F_law23_TableNone_j1 (t56 : Bool) : Option Bool :=
  some t56
def F_law23_TableNone (kv1 : T_packet_Key) (nv2 : Int) : Option Bool :=
  (F_table_Table_Get_N kv1).bind fun y9 =>
  (F_table_Table_Clear_N).bind fun y14 =>
  (F_table_Table_Put_N kv1 nv2).bind fun y18 =>
  if (y18 == 1) = true then
  if (y9.1 == 0) = true then
  if (!y9.2) = true then
  (F_table_Table_Delete_N kv1).bind fun y22 =>
  if (!y22) = true then
  (F_table_Table_Probes_N kv1).bind fun y26 =>
  if (y26 == 0) = true then
  (F_table_Table_Len_N).bind fun y30 =>
  if (y30 == 0) = true then
  (F_table_Table_Size_N).bind fun y34 =>
  if (y34 == 0) = true then
  (F_table_Table_Slots_N).bind fun y38 =>
  if ((y38.length : Int) == 0) = true then
  (F_table_Table_Keys_N).bind fun y45 =>
  if ((y45.length : Int) == 0) = true then
  (F_law23_works).bind fun y52 =>
  F_law23_TableNone_j1 y52
  else
  F_law23_TableNone_j1 false
  else
  F_law23_TableNone_j1 false
  else
  F_law23_TableNone_j1 false
  else
  F_law23_TableNone_j1 false
  else
  F_law23_TableNone_j1 false
  else
  F_law23_TableNone_j1 false
  else
  F_law23_TableNone_j1 false
  else
  F_law23_TableNone_j1 false
  else
  F_law23_TableNone_j1 false
def F_law23_TableKnown_j1 (lv662 : List T_law23_Act) (kv663 : Int) (nv664 : Int) (rec666 : (List T_law23_Act) → Int → Int → Option Bool) (y673 : T_packet_Key) (xv687 : List Int) : Option Bool :=
  if (decide (lv662.length + ([(T_law23_Act.mk (Int.tmod kv663 8) (T_packet_Key.mk (T_addr_Addr.mk y673.f_Src.f_Six xv687) y673.f_Dst y673.f_Proto y673.f_SrcPort y673.f_DstPort) (IntKind.u64.wrap (Int.tmod kv663 50)))] : List T_law23_Act).length ≤ lim)) = true then
  rec666 (lv662 ++ ([(T_law23_Act.mk (Int.tmod kv663 8) (T_packet_Key.mk (T_addr_Addr.mk y673.f_Src.f_Six xv687) y673.f_Dst y673.f_Proto y673.f_SrcPort y673.f_DstPort) (IntKind.u64.wrap (Int.tmod kv663 50)))] : List T_law23_Act)) (Int.tmod (IntKind.i64.wrap ((IntKind.i64.wrap ((IntKind.i64.wrap (kv663 * 31)) + (IntKind.i64.wrap (7 * nv664)))) + 11)) 100003) (IntKind.i64.wrap (nv664 + 1))
  else none
def F_law23_TableKnown_j3 (i583 : Int) (rec585 : Int → Option Bool) (t873 : Bool) : Option Bool :=
  if t873 = true then
  some false
  else
  rec585 (IntKind.i64.wrap (i583 + 1))
def F_law23_TableKnown_l4 (rec836 : (List T_law23_Act) → Int → Option Bool) (i583 : Int) (rec585 : Int → Option Bool) (full833 : List T_law23_Act) (nv834 : Int) : Option Bool :=
  if (decide (nv834 < 20)) = true then
  (F_law23_key (IntKind.i64.wrap ((IntKind.i64.wrap (i583 * 20)) + (Int.tmod (IntKind.i64.wrap (nv834 * 7)) 20)))).bind fun y841 =>
  (F_law23_key (IntKind.i64.wrap (i583 + nv834))).bind fun y845 =>
  if (decide (full833.length + ([(T_law23_Act.mk 4 y841 0), (T_law23_Act.mk 0 y845 1)] : List T_law23_Act).length ≤ lim)) = true then
  rec836 (full833 ++ ([(T_law23_Act.mk 4 y841 0), (T_law23_Act.mk 0 y845 1)] : List T_law23_Act)) (IntKind.i64.wrap (nv834 + 1))
  else none
  else
  (F_law23_TablePlays 16 full833).bind fun y857 =>
  if (!y857) = true then
  F_law23_TableKnown_j3 i583 rec585 true
  else
  (F_law23_TableKeeps 16 full833).bind fun y861 =>
  if (!y861) = true then
  F_law23_TableKnown_j3 i583 rec585 true
  else
  (F_law23_TablePlays 8 full833).bind fun y865 =>
  if (!y865) = true then
  F_law23_TableKnown_j3 i583 rec585 true
  else
  (F_law23_TableKeeps 4 full833).bind fun y869 =>
  F_law23_TableKnown_j3 i583 rec585 (!y869)
def F_law23_TableKnown_L4 (i583 : Int) (rec585 : Int → Option Bool) : Nat → (List T_law23_Act) → Int → Option Bool
  | 0 => fun _ _ => none
  | k + 1 => F_law23_TableKnown_l4 (F_law23_TableKnown_L4 i583 rec585 k) i583 rec585
def F_law23_TableKnown_l3 (rec768 : (List T_law23_Act) → Int → Option Bool) (i583 : Int) (rec585 : Int → Option Bool) (full765 : List T_law23_Act) (nv766 : Int) : Option Bool :=
  if (decide (nv766 < 20)) = true then
  (F_law23_key (IntKind.i64.wrap ((IntKind.i64.wrap (i583 * 20)) + nv766))).bind fun y773 =>
  if (decide (full765.length + ([(T_law23_Act.mk 0 y773 (IntKind.u64.wrap nv766))] : List T_law23_Act).length ≤ lim)) = true then
  rec768 (full765 ++ ([(T_law23_Act.mk 0 y773 (IntKind.u64.wrap nv766))] : List T_law23_Act)) (IntKind.i64.wrap (nv766 + 1))
  else none
  else
  F_law23_TableKnown_L4 i583 rec585 fuel0 full765 0
def F_law23_TableKnown_L3 (i583 : Int) (rec585 : Int → Option Bool) : Nat → (List T_law23_Act) → Int → Option Bool
  | 0 => fun _ _ => none
  | k + 1 => F_law23_TableKnown_l3 (F_law23_TableKnown_L3 i583 rec585 k) i583 rec585
def F_law23_TableKnown_j2 (i583 : Int) (rec585 : Int → Option Bool) (t721 : Bool) : Option Bool :=
  if t721 = true then
  some false
  else
  F_law23_TableKnown_L3 i583 rec585 fuel0 ([]) 0
def F_law23_TableKnown_l2 (rec666 : (List T_law23_Act) → Int → Int → Option Bool) (i583 : Int) (rec585 : Int → Option Bool) (lv662 : List T_law23_Act) (kv663 : Int) (nv664 : Int) : Option Bool :=
  if (decide (nv664 < 50)) = true then
  if (decide ((IntKind.i64.wrap (5 + i583)) ≠ 0)) = true then
  (F_law23_key (Int.tmod (IntKind.i64.wrap (Int.tdiv kv663 8)) (IntKind.i64.wrap (5 + i583)))).bind fun y673 =>
  if ((Int.tmod kv663 41) == 0) = true then
  (gidxA 16 y673.f_Src.f_B 9).bind fun xv683 =>
  F_law23_TableKnown_j1 lv662 kv663 nv664 rec666 y673 (setA 16 y673.f_Src.f_B 9 1)
  else
  F_law23_TableKnown_j1 lv662 kv663 nv664 rec666 y673 y673.f_Src.f_B
  else none
  else
  (gidx ([1, 2, 4, 8, 16, 32, 64, 3] : List Int) (Int.tmod i583 8)).bind fun xv704 =>
  (F_law23_TablePlays xv704 lv662).bind fun y706 =>
  if (!y706) = true then
  F_law23_TableKnown_j2 i583 rec585 true
  else
  (F_law23_TableKeeps xv704 lv662).bind fun y710 =>
  if (!y710) = true then
  F_law23_TableKnown_j2 i583 rec585 true
  else
  (gidx lv662 i583).bind fun xv716 =>
  (F_law23_TableNone xv716.f_K 5).bind fun y717 =>
  F_law23_TableKnown_j2 i583 rec585 (!y717)
def F_law23_TableKnown_L2 (i583 : Int) (rec585 : Int → Option Bool) : Nat → (List T_law23_Act) → Int → Int → Option Bool
  | 0 => fun _ _ _ => none
  | k + 1 => F_law23_TableKnown_l2 (F_law23_TableKnown_L2 i583 rec585 k) i583 rec585
def F_law23_TableKnown_j4 (t892 : Bool) : Option Bool :=
  some t892
def F_law23_TableKnown_l1 (rec585 : Int → Option Bool) (i583 : Int) : Option Bool :=
  if (decide (i583 < 40)) = true then
  F_law23_TableKnown_L2 i583 rec585 fuel0 ([]) i583 0
  else
  (F_law23_TablePlays (-4) []).bind fun y876 =>
  if y876 = true then
  (F_law23_TablePlays 131072 []).bind fun y880 =>
  if y880 = true then
  (F_law23_TablePlays 65537 []).bind fun y884 =>
  if y884 = true then
  (F_law23_works).bind fun y888 =>
  F_law23_TableKnown_j4 y888
  else
  F_law23_TableKnown_j4 false
  else
  F_law23_TableKnown_j4 false
  else
  F_law23_TableKnown_j4 false
def F_law23_TableKnown_L1 : Nat → Int → Option Bool
  | 0 => fun _ => none
  | k + 1 => F_law23_TableKnown_l1 (F_law23_TableKnown_L1 k)
def F_law23_TableKnown : Option Bool :=
  F_law23_TableKnown_L1 fuel0 0
def F_math_bits_Len64_j3 (xv15 : Int) (nv16 : Int) : Option Int :=
  (gidxS (⟨#[0, 1, 2, 2, 3, 3, 3, 3, 4, 4, 4, 4, 4, 4, 4, 4, 5, 5, 5, 5, 5, 5, 5, 5, 5, 5, 5, 5, 5, 5, 5, 5, 6, 6, 6, 6, 6, 6, 6, 6, 6, 6, 6, 6, 6, 6, 6, 6, 6, 6, 6, 6, 6, 6, 6, 6, 6, 6, 6, 6, 6, 6, 6, 6, 7, 7, 7, 7, 7, 7, 7, 7, 7, 7, 7, 7, 7, 7, 7, 7, 7, 7, 7, 7, 7, 7, 7, 7, 7, 7, 7, 7, 7, 7, 7, 7, 7, 7, 7, 7, 7, 7, 7, 7, 7, 7, 7, 7, 7, 7, 7, 7, 7, 7, 7, 7, 7, 7, 7, 7, 7, 7, 7, 7, 7, 7, 7, 7, 8, 8, 8, 8, 8, 8, 8, 8, 8, 8, 8, 8, 8, 8, 8, 8, 8, 8, 8, 8, 8, 8, 8, 8, 8, 8, 8, 8, 8, 8, 8, 8, 8, 8, 8, 8, 8, 8, 8, 8, 8, 8, 8, 8, 8, 8, 8, 8, 8, 8, 8, 8, 8, 8, 8, 8, 8, 8, 8, 8, 8, 8, 8, 8, 8, 8, 8, 8, 8, 8, 8, 8, 8, 8, 8, 8, 8, 8, 8, 8, 8, 8, 8, 8, 8, 8, 8, 8, 8, 8, 8, 8, 8, 8, 8, 8, 8, 8, 8, 8, 8, 8, 8, 8, 8, 8, 8, 8, 8, 8, 8, 8, 8, 8, 8, 8, 8, 8, 8, 8, 8, 8, 8, 8, 8, 8, 8, 8]⟩ : ByteArray) (IntKind.u8.wrap xv15)).bind fun xv19 =>
  some (IntKind.i64.wrap (nv16 + (IntKind.i64.wrap xv19)))
def F_math_bits_Len64_j2 (xv10 : Int) (nv11 : Int) : Option Int :=
  if (decide (256 ≤ xv10)) = true then
  F_math_bits_Len64_j3 (Ox.shr .u64 xv10 8) (IntKind.i64.wrap (nv11 + 8))
  else
  F_math_bits_Len64_j3 xv10 nv11
def F_math_bits_Len64_j1 (xv5 : Int) (nv6 : Int) : Option Int :=
  if (decide (65536 ≤ xv5)) = true then
  F_math_bits_Len64_j2 (Ox.shr .u64 xv5 16) (IntKind.i64.wrap (nv6 + 16))
  else
  F_math_bits_Len64_j2 xv5 nv6
def F_math_bits_Len64 (xv1 : Int) : Option Int :=
  if (decide (4294967296 ≤ xv1)) = true then
  F_math_bits_Len64_j1 (Ox.shr .u64 xv1 32) 32
  else
  F_math_bits_Len64_j1 xv1 0
def F_math_bits_Len (xv1 : Int) : Option Int :=
  (F_math_bits_Len64 xv1).bind fun y5 =>
  some y5
def F_math_bits_Len32_j2 (xv10 : Int) (nv11 : Int) : Option Int :=
  (gidxS (⟨#[0, 1, 2, 2, 3, 3, 3, 3, 4, 4, 4, 4, 4, 4, 4, 4, 5, 5, 5, 5, 5, 5, 5, 5, 5, 5, 5, 5, 5, 5, 5, 5, 6, 6, 6, 6, 6, 6, 6, 6, 6, 6, 6, 6, 6, 6, 6, 6, 6, 6, 6, 6, 6, 6, 6, 6, 6, 6, 6, 6, 6, 6, 6, 6, 7, 7, 7, 7, 7, 7, 7, 7, 7, 7, 7, 7, 7, 7, 7, 7, 7, 7, 7, 7, 7, 7, 7, 7, 7, 7, 7, 7, 7, 7, 7, 7, 7, 7, 7, 7, 7, 7, 7, 7, 7, 7, 7, 7, 7, 7, 7, 7, 7, 7, 7, 7, 7, 7, 7, 7, 7, 7, 7, 7, 7, 7, 7, 7, 8, 8, 8, 8, 8, 8, 8, 8, 8, 8, 8, 8, 8, 8, 8, 8, 8, 8, 8, 8, 8, 8, 8, 8, 8, 8, 8, 8, 8, 8, 8, 8, 8, 8, 8, 8, 8, 8, 8, 8, 8, 8, 8, 8, 8, 8, 8, 8, 8, 8, 8, 8, 8, 8, 8, 8, 8, 8, 8, 8, 8, 8, 8, 8, 8, 8, 8, 8, 8, 8, 8, 8, 8, 8, 8, 8, 8, 8, 8, 8, 8, 8, 8, 8, 8, 8, 8, 8, 8, 8, 8, 8, 8, 8, 8, 8, 8, 8, 8, 8, 8, 8, 8, 8, 8, 8, 8, 8, 8, 8, 8, 8, 8, 8, 8, 8, 8, 8, 8, 8, 8, 8, 8, 8, 8, 8, 8, 8]⟩ : ByteArray) (IntKind.u8.wrap xv10)).bind fun xv14 =>
  some (IntKind.i64.wrap (nv11 + (IntKind.i64.wrap xv14)))
def F_math_bits_Len32_j1 (xv5 : Int) (nv6 : Int) : Option Int :=
  if (decide (256 ≤ xv5)) = true then
  F_math_bits_Len32_j2 (Ox.shr .u32 xv5 8) (IntKind.i64.wrap (nv6 + 8))
  else
  F_math_bits_Len32_j2 xv5 nv6
def F_math_bits_Len32 (xv1 : Int) : Option Int :=
  if (decide (65536 ≤ xv1)) = true then
  F_math_bits_Len32_j1 (Ox.shr .u32 xv1 16) 16
  else
  F_math_bits_Len32_j1 xv1 0
def F_slices_nextPowerOfTwo (length1 : Int) : Option Int :=
  (F_math_bits_Len (IntKind.u64.wrap length1)).bind fun y4 =>
  if (decide (¬ y4 < 0)) = true then
  some (Ox.shl .u64 1 y4)
  else none
def F_slices_xorshift_Next (rv1 : Int) : Option (Int × Int) :=
  some ((bits .xor .u64 (bits .xor .u64 (bits .xor .u64 rv1 (Ox.shl .u64 rv1 13)) (Ox.shr .u64 (bits .xor .u64 rv1 (Ox.shl .u64 rv1 13)) 7)) (Ox.shl .u64 (bits .xor .u64 (bits .xor .u64 rv1 (Ox.shl .u64 rv1 13)) (Ox.shr .u64 (bits .xor .u64 rv1 (Ox.shl .u64 rv1 13)) 7)) 17)), (bits .xor .u64 (bits .xor .u64 (bits .xor .u64 rv1 (Ox.shl .u64 rv1 13)) (Ox.shr .u64 (bits .xor .u64 rv1 (Ox.shl .u64 rv1 13)) 7)) (Ox.shl .u64 (bits .xor .u64 (bits .xor .u64 rv1 (Ox.shl .u64 rv1 13)) (Ox.shr .u64 (bits .xor .u64 rv1 (Ox.shl .u64 rv1 13)) 7)) 17)))
end Go.Proofs.Ytnbakndfnjflhaa
