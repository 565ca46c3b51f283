/- Plain functions, printed by a program of this claim: what each Go function computes, where it returns. -/
import Derived.Test.YtidbgejnkpoeeaaOxX
set_option linter.unusedVariables false
namespace Go.Proofs.Ytidbgejnkpoeeaa
open Go Go.Ox
abbrev o8 (b : List Int) (i : Nat) : Value := .int .u8 (List.getD b i 0)
abbrev v8 (n : Int) : Value := .int .u8 n
abbrev v16 (n : Int) : Value := .int .u16 n
abbrev v32 (n : Int) : Value := .int .u32 n
abbrev v64 (n : Int) : Value := .int .u64 n
abbrev vI (n : Int) : Value := .int .i64 n
abbrev vB (b : Bool) : Value := .bool b
structure T_addr_Addr where
  f_Six : Bool
  f_B : List Int
def e_addr_Addr (x : T_addr_Addr) : List Value := [.bool x.f_Six, o8 x.f_B 0, o8 x.f_B 1, o8 x.f_B 2, o8 x.f_B 3, o8 x.f_B 4, o8 x.f_B 5, o8 x.f_B 6, o8 x.f_B 7, o8 x.f_B 8, o8 x.f_B 9, o8 x.f_B 10, o8 x.f_B 11, o8 x.f_B 12, o8 x.f_B 13, o8 x.f_B 14, o8 x.f_B 15]
structure T_packet_Key where
  f_Src : T_addr_Addr
  f_Dst : T_addr_Addr
  f_Proto : Int
  f_SrcPort : Int
  f_DstPort : Int
def e_packet_Key (x : T_packet_Key) : List Value := [.bool x.f_Src.f_Six, o8 x.f_Src.f_B 0, o8 x.f_Src.f_B 1, o8 x.f_Src.f_B 2, o8 x.f_Src.f_B 3, o8 x.f_Src.f_B 4, o8 x.f_Src.f_B 5, o8 x.f_Src.f_B 6, o8 x.f_Src.f_B 7, o8 x.f_Src.f_B 8, o8 x.f_Src.f_B 9, o8 x.f_Src.f_B 10, o8 x.f_Src.f_B 11, o8 x.f_Src.f_B 12, o8 x.f_Src.f_B 13, o8 x.f_Src.f_B 14, o8 x.f_Src.f_B 15, .bool x.f_Dst.f_Six, o8 x.f_Dst.f_B 0, o8 x.f_Dst.f_B 1, o8 x.f_Dst.f_B 2, o8 x.f_Dst.f_B 3, o8 x.f_Dst.f_B 4, o8 x.f_Dst.f_B 5, o8 x.f_Dst.f_B 6, o8 x.f_Dst.f_B 7, o8 x.f_Dst.f_B 8, o8 x.f_Dst.f_B 9, o8 x.f_Dst.f_B 10, o8 x.f_Dst.f_B 11, o8 x.f_Dst.f_B 12, o8 x.f_Dst.f_B 13, o8 x.f_Dst.f_B 14, o8 x.f_Dst.f_B 15, .int .u8 x.f_Proto, .int .u16 x.f_SrcPort, .int .u16 x.f_DstPort]
structure T_flow_Total where
  f_Packets : Int
  f_Bytes : Int
def e_flow_Total (x : T_flow_Total) : List Value := [.int .u64 x.f_Packets, .int .u64 x.f_Bytes]
structure T_flow_Record where
  f_Key : T_packet_Key
  f_Packets : Int
  f_Bytes : Int
  f_First : Int
  f_Last : Int
  f_Flags : Int
  f_Reason : Int
  f_Class : Int
def e_flow_Record (x : T_flow_Record) : List Value := [.bool x.f_Key.f_Src.f_Six, o8 x.f_Key.f_Src.f_B 0, o8 x.f_Key.f_Src.f_B 1, o8 x.f_Key.f_Src.f_B 2, o8 x.f_Key.f_Src.f_B 3, o8 x.f_Key.f_Src.f_B 4, o8 x.f_Key.f_Src.f_B 5, o8 x.f_Key.f_Src.f_B 6, o8 x.f_Key.f_Src.f_B 7, o8 x.f_Key.f_Src.f_B 8, o8 x.f_Key.f_Src.f_B 9, o8 x.f_Key.f_Src.f_B 10, o8 x.f_Key.f_Src.f_B 11, o8 x.f_Key.f_Src.f_B 12, o8 x.f_Key.f_Src.f_B 13, o8 x.f_Key.f_Src.f_B 14, o8 x.f_Key.f_Src.f_B 15, .bool x.f_Key.f_Dst.f_Six, o8 x.f_Key.f_Dst.f_B 0, o8 x.f_Key.f_Dst.f_B 1, o8 x.f_Key.f_Dst.f_B 2, o8 x.f_Key.f_Dst.f_B 3, o8 x.f_Key.f_Dst.f_B 4, o8 x.f_Key.f_Dst.f_B 5, o8 x.f_Key.f_Dst.f_B 6, o8 x.f_Key.f_Dst.f_B 7, o8 x.f_Key.f_Dst.f_B 8, o8 x.f_Key.f_Dst.f_B 9, o8 x.f_Key.f_Dst.f_B 10, o8 x.f_Key.f_Dst.f_B 11, o8 x.f_Key.f_Dst.f_B 12, o8 x.f_Key.f_Dst.f_B 13, o8 x.f_Key.f_Dst.f_B 14, o8 x.f_Key.f_Dst.f_B 15, .int .u8 x.f_Key.f_Proto, .int .u16 x.f_Key.f_SrcPort, .int .u16 x.f_Key.f_DstPort, .int .u64 x.f_Packets, .int .u64 x.f_Bytes, .int .u64 x.f_First, .int .u64 x.f_Last, .int .u8 x.f_Flags, .int .u8 x.f_Reason, .int .u8 x.f_Class]
structure T_model_Note where
  f_Kind : Int
  f_Key : T_packet_Key
  f_Total : T_flow_Total
  f_Records : List T_flow_Record
  f_Epoch : Int
  f_N : Int
  f_First : Int
  f_Next : Int
abbrev FM62 := T_packet_Key → Option T_flow_Total
structure T_model_Entry where
  f_Epoch : Int
  f_N : Int
  f_Records : List T_flow_Record
  f_There : Bool
  f_Synced : Bool
  f_Credited : Bool
structure T_model_Model where
  f_forwarded : FM62
  f_cached : FM62
  f_lost : FM62
  f_entries : List T_model_Entry
  f_line : List Int
  f_first : Int
  f_boot : Int
structure T_model_Parts where
  f_Forwarded : T_flow_Total
  f_Cached : T_flow_Total
  f_Volatile : T_flow_Total
  f_Durable : T_flow_Total
  f_Lost : T_flow_Total
  f_Credited : T_flow_Total
def e_model_Parts (x : T_model_Parts) : List Value := [.int .u64 x.f_Forwarded.f_Packets, .int .u64 x.f_Forwarded.f_Bytes, .int .u64 x.f_Cached.f_Packets, .int .u64 x.f_Cached.f_Bytes, .int .u64 x.f_Volatile.f_Packets, .int .u64 x.f_Volatile.f_Bytes, .int .u64 x.f_Durable.f_Packets, .int .u64 x.f_Durable.f_Bytes, .int .u64 x.f_Lost.f_Packets, .int .u64 x.f_Lost.f_Bytes, .int .u64 x.f_Credited.f_Packets, .int .u64 x.f_Credited.f_Bytes]
structure T_bits_Writer where
  f_b : List Int
def q_addr_Addr (x y : T_addr_Addr) : Bool := ((x.f_Six == y.f_Six) && ((arrEq 16 x.f_B y.f_B) && true))
def q_packet_Key (x y : T_packet_Key) : Bool := ((q_addr_Addr x.f_Src y.f_Src) && ((q_addr_Addr x.f_Dst y.f_Dst) && ((x.f_Proto == y.f_Proto) && ((x.f_SrcPort == y.f_SrcPort) && ((x.f_DstPort == y.f_DstPort) && true)))))
def q_flow_Total (x y : T_flow_Total) : Bool := ((x.f_Packets == y.f_Packets) && ((x.f_Bytes == y.f_Bytes) && true))
def q_model_Parts (x y : T_model_Parts) : Bool := ((q_flow_Total x.f_Forwarded y.f_Forwarded) && ((q_flow_Total x.f_Cached y.f_Cached) && ((q_flow_Total x.f_Volatile y.f_Volatile) && ((q_flow_Total x.f_Durable y.f_Durable) && ((q_flow_Total x.f_Lost y.f_Lost) && ((q_flow_Total x.f_Credited y.f_Credited) && true))))))
def F_law30_few_j1 (lv1 : List T_model_Note) (i41 : Int) (rec43 : Int → Option Bool) (t46 : Bool) : Option Bool :=
  if t46 = true then
  (gidx lv1 i41).bind fun xv52 =>
  if (decide (10 < (xv52.f_Records.length : Int))) = true then
  some false
  else
  rec43 (IntKind.i64.wrap (i41 + 1))
  else
  some (decide ((lv1.length : Int) ≤ 30))
def F_law30_few_l1 (rec43 : Int → Option Bool) (lv1 : List T_model_Note) (i41 : Int) : Option Bool :=
  if (decide (i41 < (lv1.length : Int))) = true then
  F_law30_few_j1 lv1 i41 rec43 (decide (i41 < 31))
  else
  F_law30_few_j1 lv1 i41 rec43 false
def F_law30_few_L1 (lv1 : List T_model_Note) : Nat → Int → Option Bool
  | 0 => fun _ => none
  | k + 1 => F_law30_few_l1 (F_law30_few_L1 lv1 k) lv1
def F_law30_few (lv1 : List T_model_Note) : Option Bool :=
  F_law30_few_L1 lv1 fuel0 0
def F_model_New : Option T_model_Model :=
  some (T_model_Model.mk (mnone : FM62) (mnone : FM62) (mnone : FM62) ([]) ([]) 0 0)
def F_law30_key (nv1 : Int) : Option T_packet_Key :=
  (gidxA 16 (List.replicate 16 0) 0).bind fun xv13 =>
  some (T_packet_Key.mk (T_addr_Addr.mk false (setA 16 (List.replicate 16 0) 0 10)) (T_addr_Addr.mk false (List.replicate 16 0)) 6 (IntKind.u16.wrap nv1) 80)
def F_packet_ports_j1 (t3 : Bool) : Option Bool :=
  some t3
def F_packet_ports (proto1 : Int) : Option Bool :=
  if (proto1 == 6) = true then
  F_packet_ports_j1 true
  else
  F_packet_ports_j1 (proto1 == 17)
def F_packet_icmp_j1 (t3 : Bool) : Option Bool :=
  some t3
def F_packet_icmp (proto1 : Int) : Option Bool :=
  if (proto1 == 1) = true then
  F_packet_icmp_j1 true
  else
  F_packet_icmp_j1 (proto1 == 58)
def F_addr_Addr_size (av1 : T_addr_Addr) : Option Int :=
  if av1.f_Six = true then
  some 16
  else
  some 4
def F_addr_Addr_Right (av1 : T_addr_Addr) : Option Bool :=
  (F_addr_Addr_size av1).bind fun y12 =>
  (gcut (arrL 16 (List.replicate 16 0)) 0 y12).bind fun cut17 =>
  some (arrEq 16 av1.f_B (cpA 16 (Nat.min (arrL 16 av1.f_B).length cut17.length) (List.replicate 16 0) (arrL 16 av1.f_B)))
def F_packet_Key_Right_j2 (t37 : Bool) : Option Bool :=
  some t37
def F_packet_Key_Right_j1 (kv1 : T_packet_Key) (plain26 : Int) (plain27 : Int) : Option Bool :=
  (F_addr_Addr_Right kv1.f_Src).bind fun y29 =>
  if y29 = true then
  (F_addr_Addr_Right kv1.f_Dst).bind fun y33 =>
  if y33 = true then
  if (kv1.f_Src.f_Six == kv1.f_Dst.f_Six) = true then
  F_packet_Key_Right_j2 (q_packet_Key kv1 (T_packet_Key.mk kv1.f_Src kv1.f_Dst kv1.f_Proto plain26 plain27))
  else
  F_packet_Key_Right_j2 false
  else
  F_packet_Key_Right_j2 false
  else
  F_packet_Key_Right_j2 false
def F_packet_Key_Right (kv1 : T_packet_Key) : Option Bool :=
  (F_packet_ports kv1.f_Proto).bind fun y12 =>
  if (!y12) = true then
  (F_packet_icmp kv1.f_Proto).bind fun y19 =>
  if (!y19) = true then
  F_packet_Key_Right_j1 kv1 0 0
  else
  F_packet_Key_Right_j1 kv1 0 kv1.f_DstPort
  else
  F_packet_Key_Right_j1 kv1 kv1.f_SrcPort kv1.f_DstPort
def F_flow_plus (av1 : Int) (b2 : Int) : Option Int :=
  if (decide (0 < (hi64 av1 b2))) = true then
  some 18446744073709551615
  else
  some (lo64 av1 b2)
def F_flow_Total_Plus (t1 : T_flow_Total) (u2 : T_flow_Total) : Option T_flow_Total :=
  (F_flow_plus t1.f_Packets u2.f_Packets).bind fun y14 =>
  (F_flow_plus t1.f_Bytes u2.f_Bytes).bind fun y18 =>
  some (T_flow_Total.mk y14 y18)
def plusT (a b : T_flow_Total) : T_flow_Total := (F_flow_Total_Plus a b).getD (T_flow_Total.mk 0 0)
def F_model_totals_add (t1 : FM62) (kv5 : T_packet_Key) (xv6 : T_flow_Total) : Option FM62 :=
  (F_flow_Total_Plus (T_flow_Total.mk (((t1 kv5).getD (T_flow_Total.mk 0 0)).f_Packets) (((t1 kv5).getD (T_flow_Total.mk 0 0)).f_Bytes)) xv6).bind fun y15 =>
  some (mput q_packet_Key t1 kv5 y15)
def F_model_Model_forward (m1 : T_model_Model) (nv20 : T_model_Note) : Option (Bool × T_model_Model) :=
  (F_packet_Key_Right nv20.f_Key).bind fun y32 =>
  if (!y32) = true then
  some (false, m1)
  else
  (F_model_totals_add m1.f_forwarded nv20.f_Key nv20.f_Total).bind fun y38 =>
  (F_model_totals_add m1.f_cached nv20.f_Key nv20.f_Total).bind fun y43 =>
  some (true, (T_model_Model.mk y38 y43 m1.f_lost m1.f_entries m1.f_line m1.f_first m1.f_boot))
def F_maps_Clone_model_totals_packet_Key_flow_Total (m1 : FM62) : Option FM62 :=
  some m1
def F_flow_Record_Total (rv1 : T_flow_Record) : Option T_flow_Total :=
  some (T_flow_Total.mk rv1.f_Packets rv1.f_Bytes)
def F_flow_Record_Right_j1 (t10 : Bool) : Option Bool :=
  some t10
def F_flow_Record_Right (rv1 : T_flow_Record) : Option Bool :=
  (F_packet_Key_Right rv1.f_Key).bind fun y6 =>
  if y6 = true then
  if (decide (0 < rv1.f_Packets)) = true then
  if (decide (rv1.f_First ≤ rv1.f_Last)) = true then
  if (decide (1 ≤ rv1.f_Reason)) = true then
  F_flow_Record_Right_j1 (decide (rv1.f_Reason ≤ 5))
  else
  F_flow_Record_Right_j1 false
  else
  F_flow_Record_Right_j1 false
  else
  F_flow_Record_Right_j1 false
  else
  F_flow_Record_Right_j1 false
def F_model_Model_next (m4 : T_model_Model) : Option Int :=
  some (IntKind.u64.wrap (m4.f_line.length : Int))
def F_slices_Clone_flow_Record_flow_Record (s1 : List T_flow_Record) : Option ((List T_flow_Record)) :=
  if (decide (([] : List T_flow_Record).length + s1.length ≤ lim)) = true then
  some (([] : List T_flow_Record) ++ s1)
  else none
def F_model_Entry_copied (ev1 : T_model_Entry) : Option T_model_Entry :=
  (F_slices_Clone_flow_Record_flow_Record ev1.f_Records).bind fun y13 =>
  some (T_model_Entry.mk ev1.f_Epoch ev1.f_N y13 ev1.f_There ev1.f_Synced ev1.f_Credited)
def F_model_Model_pack_j2 (m1 : T_model_Model) : Option (Bool × T_model_Model) :=
  some (false, m1)
def F_model_Model_pack_j1 (m1 : T_model_Model) (m460 : FM62) (t461 : Int) (rec464 : FM62 → Int → Option (Bool × T_model_Model)) (xv472 : T_flow_Record) (y478 : T_flow_Total) (t506 : Bool) : Option (Bool × T_model_Model) :=
  if t506 = true then
  F_model_Model_pack_j2 m1
  else
  rec464 (mput q_packet_Key m460 xv472.f_Key (T_flow_Total.mk (IntKind.u64.wrap (((m460 xv472.f_Key).getD (T_flow_Total.mk 0 0)).f_Packets - y478.f_Packets)) (IntKind.u64.wrap (((m460 xv472.f_Key).getD (T_flow_Total.mk 0 0)).f_Bytes - y478.f_Bytes)))) (IntKind.i64.wrap (t461 + 1))
def F_model_Model_pack_j3 (m1 : T_model_Model) (nv20 : T_model_Note) (m460 : FM62) (t747 : Bool) : Option (Bool × T_model_Model) :=
  if t747 = true then
  some (false, m1)
  else
  if (decide (m1.f_line.length + ([(m1.f_entries.length : Int)] : List Int).length ≤ lim)) = true then
  (F_model_Entry_copied (T_model_Entry.mk nv20.f_Epoch nv20.f_N nv20.f_Records true false false)).bind fun y763 =>
  if (decide (m1.f_entries.length + ([y763]).length ≤ lim)) = true then
  some (true, (T_model_Model.mk m1.f_forwarded m460 m1.f_lost (m1.f_entries ++ [y763]) (m1.f_line ++ ([(m1.f_entries.length : Int)] : List Int)) m1.f_first m1.f_boot))
  else none
  else none
def F_model_Model_pack_l1 (rec464 : FM62 → Int → Option (Bool × T_model_Model)) (m1 : T_model_Model) (nv20 : T_model_Note) (m460 : FM62) (t461 : Int) : Option (Bool × T_model_Model) :=
  if (decide (t461 < (nv20.f_Records.length : Int))) = true then
  (gidx nv20.f_Records t461).bind fun xv472 =>
  (F_flow_Record_Total xv472).bind fun y478 =>
  (F_flow_Record_Right xv472).bind fun y491 =>
  if (!y491) = true then
  F_model_Model_pack_j1 m1 m460 t461 rec464 xv472 y478 true
  else
  if (decide (((m460 xv472.f_Key).getD (T_flow_Total.mk 0 0)).f_Packets < y478.f_Packets)) = true then
  F_model_Model_pack_j1 m1 m460 t461 rec464 xv472 y478 true
  else
  F_model_Model_pack_j1 m1 m460 t461 rec464 xv472 y478 (decide (((m460 xv472.f_Key).getD (T_flow_Total.mk 0 0)).f_Bytes < y478.f_Bytes))
  else
  if (!(decide (0 < (nv20.f_Records.length : Int)))) = true then
  F_model_Model_pack_j3 m1 nv20 m460 true
  else
  if (m1.f_boot == 0) = true then
  F_model_Model_pack_j3 m1 nv20 m460 true
  else
  if (nv20.f_Epoch != m1.f_boot) = true then
  F_model_Model_pack_j3 m1 nv20 m460 true
  else
  (F_model_Model_next m1).bind fun y734 =>
  F_model_Model_pack_j3 m1 nv20 m460 (nv20.f_N != y734)
def F_model_Model_pack_L1 (m1 : T_model_Model) (nv20 : T_model_Note) : Nat → FM62 → Int → Option (Bool × T_model_Model)
  | 0 => fun _ _ => none
  | k + 1 => F_model_Model_pack_l1 (F_model_Model_pack_L1 m1 nv20 k) m1 nv20
def F_model_Model_pack (m1 : T_model_Model) (nv20 : T_model_Note) : Option (Bool × T_model_Model) :=
  (F_maps_Clone_model_totals_packet_Key_flow_Total m1.f_cached).bind fun y33 =>
  F_model_Model_pack_L1 m1 nv20 fuel0 y33 0
def F_model_Model_refuse_j1 (m1 : T_model_Model) (m460 : FM62) (t461 : Int) (rec464 : FM62 → Int → Option (Bool × T_model_Model)) (xv472 : T_flow_Record) (y478 : T_flow_Total) (t506 : Bool) : Option (Bool × T_model_Model) :=
  if t506 = true then
  some (false, m1)
  else
  rec464 (mput q_packet_Key m460 xv472.f_Key (T_flow_Total.mk (IntKind.u64.wrap (((m460 xv472.f_Key).getD (T_flow_Total.mk 0 0)).f_Packets - y478.f_Packets)) (IntKind.u64.wrap (((m460 xv472.f_Key).getD (T_flow_Total.mk 0 0)).f_Bytes - y478.f_Bytes)))) (IntKind.i64.wrap (t461 + 1))
def F_model_Model_refuse_l2 (rec749 : FM62 → Int → Option (Bool × T_model_Model)) (m1 : T_model_Model) (nv20 : T_model_Note) (m460 : FM62) (p743 : FM62) (t747 : Int) : Option (Bool × T_model_Model) :=
  if (decide (t747 < (nv20.f_Records.length : Int))) = true then
  (gidx nv20.f_Records t747).bind fun xv757 =>
  (F_flow_Record_Total xv757).bind fun y762 =>
  (F_model_totals_add p743 xv757.f_Key y762).bind fun y766 =>
  rec749 y766 (IntKind.i64.wrap (t747 + 1))
  else
  some (true, (T_model_Model.mk m1.f_forwarded m460 p743 m1.f_entries m1.f_line m1.f_first m1.f_boot))
def F_model_Model_refuse_L2 (m1 : T_model_Model) (nv20 : T_model_Note) (m460 : FM62) : Nat → FM62 → Int → Option (Bool × T_model_Model)
  | 0 => fun _ _ => none
  | k + 1 => F_model_Model_refuse_l2 (F_model_Model_refuse_L2 m1 nv20 m460 k) m1 nv20 m460
def F_model_Model_refuse_l1 (rec464 : FM62 → Int → Option (Bool × T_model_Model)) (m1 : T_model_Model) (nv20 : T_model_Note) (m460 : FM62) (t461 : Int) : Option (Bool × T_model_Model) :=
  if (decide (t461 < (nv20.f_Records.length : Int))) = true then
  (gidx nv20.f_Records t461).bind fun xv472 =>
  (F_flow_Record_Total xv472).bind fun y478 =>
  (F_flow_Record_Right xv472).bind fun y491 =>
  if (!y491) = true then
  F_model_Model_refuse_j1 m1 m460 t461 rec464 xv472 y478 true
  else
  if (decide (((m460 xv472.f_Key).getD (T_flow_Total.mk 0 0)).f_Packets < y478.f_Packets)) = true then
  F_model_Model_refuse_j1 m1 m460 t461 rec464 xv472 y478 true
  else
  F_model_Model_refuse_j1 m1 m460 t461 rec464 xv472 y478 (decide (((m460 xv472.f_Key).getD (T_flow_Total.mk 0 0)).f_Bytes < y478.f_Bytes))
  else
  if (!(decide (0 < (nv20.f_Records.length : Int)))) = true then
  some (false, m1)
  else
  F_model_Model_refuse_L2 m1 nv20 m460 fuel0 m1.f_lost 0
def F_model_Model_refuse_L1 (m1 : T_model_Model) (nv20 : T_model_Note) : Nat → FM62 → Int → Option (Bool × T_model_Model)
  | 0 => fun _ _ => none
  | k + 1 => F_model_Model_refuse_l1 (F_model_Model_refuse_L1 m1 nv20 k) m1 nv20
def F_model_Model_refuse (m1 : T_model_Model) (nv20 : T_model_Note) : Option (Bool × T_model_Model) :=
  (F_maps_Clone_model_totals_packet_Key_flow_Total m1.f_cached).bind fun y33 =>
  F_model_Model_refuse_L1 m1 nv20 fuel0 y33 0
def F_model_Model_sync_j1 (t193 : Int) (rec195 : (List T_model_Entry) → Int → Option (Bool × T_model_Model)) (p262 : List T_model_Entry) : Option (Bool × T_model_Model) :=
  rec195 p262 (IntKind.i64.wrap (t193 + 1))
def F_model_Model_sync_l1 (rec195 : (List T_model_Entry) → Int → Option (Bool × T_model_Model)) (m1 : T_model_Model) (p191 : List T_model_Entry) (t193 : Int) : Option (Bool × T_model_Model) :=
  if (decide (t193 < (m1.f_entries.length : Int))) = true then
  (gidx p191 t193).bind fun xv202 =>
  if xv202.f_Synced = true then
  (gidx p191 t193).bind fun xv214 =>
  F_model_Model_sync_j1 t193 rec195 (p191.set (t193 : Int).toNat (T_model_Entry.mk xv214.f_Epoch xv214.f_N xv214.f_Records xv214.f_There true xv214.f_Credited))
  else
  (gidx p191 t193).bind fun xv228 =>
  (gidx p191 t193).bind fun xv240 =>
  F_model_Model_sync_j1 t193 rec195 (p191.set (t193 : Int).toNat (T_model_Entry.mk xv240.f_Epoch xv240.f_N xv240.f_Records xv240.f_There xv228.f_There xv240.f_Credited))
  else
  some ((decide (0 < m1.f_boot)), (T_model_Model.mk m1.f_forwarded m1.f_cached m1.f_lost p191 m1.f_line m1.f_first m1.f_boot))
def F_model_Model_sync_L1 (m1 : T_model_Model) : Nat → (List T_model_Entry) → Int → Option (Bool × T_model_Model)
  | 0 => fun _ _ => none
  | k + 1 => F_model_Model_sync_l1 (F_model_Model_sync_L1 m1 k) m1
def F_model_Model_sync (m1 : T_model_Model) (t20 : T_model_Note) : Option (Bool × T_model_Model) :=
  F_model_Model_sync_L1 m1 fuel0 m1.f_entries 0
def F_model_Model_truncate_1 (ev1 : T_model_Entry) : Option Bool :=
  some ev1.f_Credited
def F_model_Model_all_1_hmodel_Model_truncate_1 (i1 : Int) (cv11 : T_model_Model) : Option Bool :=
  (gidx cv11.f_entries i1).bind fun xv28 =>
  (F_model_Model_truncate_1 xv28).bind fun y36 =>
  some (!y36)
def F_slices_IndexFunc_int_int_fmodel_Model_all_1hmodel_Model_truncate_1_l1 (rec59 : Int → Option Int) (s1 : List Int) (f14 : T_model_Model) (t57 : Int) : Option Int :=
  if (decide (t57 < (s1.length : Int))) = true then
  (gidx s1 t57).bind fun xv68 =>
  (F_model_Model_all_1_hmodel_Model_truncate_1 xv68 f14).bind fun y69 =>
  if y69 = true then
  some t57
  else
  rec59 (IntKind.i64.wrap (t57 + 1))
  else
  some (-1)
def F_slices_IndexFunc_int_int_fmodel_Model_all_1hmodel_Model_truncate_1_L1 (s1 : List Int) (f14 : T_model_Model) : Nat → Int → Option Int
  | 0 => fun _ => none
  | k + 1 => F_slices_IndexFunc_int_int_fmodel_Model_all_1hmodel_Model_truncate_1_l1 (F_slices_IndexFunc_int_int_fmodel_Model_all_1hmodel_Model_truncate_1_L1 s1 f14 k) s1 f14
def F_slices_IndexFunc_int_int_fmodel_Model_all_1hmodel_Model_truncate_1 (s1 : List Int) (f14 : T_model_Model) : Option Int :=
  F_slices_IndexFunc_int_int_fmodel_Model_all_1hmodel_Model_truncate_1_L1 s1 f14 fuel0 0
def F_slices_ContainsFunc_int_int_fmodel_Model_all_1hmodel_Model_truncate_1 (s1 : List Int) (f14 : T_model_Model) : Option Bool :=
  (F_slices_IndexFunc_int_int_fmodel_Model_all_1hmodel_Model_truncate_1 s1 f14).bind fun y29 =>
  some (decide (0 ≤ y29))
def F_model_Model_all_fmodel_Model_truncate_1 (m4 : T_model_Model) (fromv17 : Int) (tov18 : Int) : Option Bool :=
  (gcut m4.f_line fromv17 tov18).bind fun cut27 =>
  (F_slices_ContainsFunc_int_int_fmodel_Model_all_1hmodel_Model_truncate_1 cut27 m4).bind fun y34 =>
  some (!y34)
def F_model_Model_truncate_l1 (rec132 : (List T_model_Entry) → Int → Option (Bool × T_model_Model)) (m1 : T_model_Model) (nv20 : T_model_Note) (cut54 : List Int) (p127 : List T_model_Entry) (t130 : Int) : Option (Bool × T_model_Model) :=
  if (decide (t130 < (cut54.length : Int))) = true then
  (gidx cut54 t130).bind fun xv140 =>
  (gidx p127 xv140).bind fun xv143 =>
  rec132 (p127.set (xv140 : Int).toNat (T_model_Entry.mk xv143.f_Epoch xv143.f_N xv143.f_Records false xv143.f_Synced xv143.f_Credited)) (IntKind.i64.wrap (t130 + 1))
  else
  some (true, (T_model_Model.mk m1.f_forwarded m1.f_cached m1.f_lost p127 m1.f_line nv20.f_First m1.f_boot))
def F_model_Model_truncate_L1 (m1 : T_model_Model) (nv20 : T_model_Note) (cut54 : List Int) : Nat → (List T_model_Entry) → Int → Option (Bool × T_model_Model)
  | 0 => fun _ _ => none
  | k + 1 => F_model_Model_truncate_l1 (F_model_Model_truncate_L1 m1 nv20 cut54 k) m1 nv20 cut54
def F_model_Model_truncate_j1 (m1 : T_model_Model) (nv20 : T_model_Note) (t47 : Bool) : Option (Bool × T_model_Model) :=
  if t47 = true then
  some (false, m1)
  else
  (gcut m1.f_line 0 nv20.f_First).bind fun cut54 =>
  F_model_Model_truncate_L1 m1 nv20 cut54 fuel0 m1.f_entries 0
def F_model_Model_truncate (m1 : T_model_Model) (nv20 : T_model_Note) : Option (Bool × T_model_Model) :=
  if (decide (nv20.f_First < m1.f_first)) = true then
  F_model_Model_truncate_j1 m1 nv20 true
  else
  (F_model_Model_next m1).bind fun y31 =>
  if (decide (y31 < nv20.f_First)) = true then
  F_model_Model_truncate_j1 m1 nv20 true
  else
  (F_model_Model_all_fmodel_Model_truncate_1 m1 0 nv20.f_First).bind fun y35 =>
  F_model_Model_truncate_j1 m1 nv20 (!y35)
def F_model_Model_credit_j1 (m1 : T_model_Model) (nv200 : Int) (rec205 : Int → Option (Bool × T_model_Model)) (xv213 : T_model_Entry) (t243 : Bool) : Option (Bool × T_model_Model) :=
  if t243 = true then
  (gidx m1.f_entries nv200).bind fun xv250 =>
  some ((!xv213.f_Credited), (T_model_Model.mk m1.f_forwarded m1.f_cached m1.f_lost (m1.f_entries.set (nv200 : Int).toNat (T_model_Entry.mk xv250.f_Epoch xv250.f_N xv250.f_Records xv250.f_There xv250.f_Synced true)) m1.f_line m1.f_first m1.f_boot))
  else
  rec205 (IntKind.i64.wrap (nv200 - 1))
def F_model_Model_credit_l1 (rec205 : Int → Option (Bool × T_model_Model)) (m1 : T_model_Model) (nv20 : T_model_Note) (nv200 : Int) : Option (Bool × T_model_Model) :=
  if (decide (0 ≤ nv200)) = true then
  (gidx m1.f_entries nv200).bind fun xv213 =>
  if (xv213.f_Epoch == nv20.f_Epoch) = true then
  F_model_Model_credit_j1 m1 nv200 rec205 xv213 (xv213.f_N == nv20.f_N)
  else
  F_model_Model_credit_j1 m1 nv200 rec205 xv213 false
  else
  some (false, m1)
def F_model_Model_credit_L1 (m1 : T_model_Model) (nv20 : T_model_Note) : Nat → Int → Option (Bool × T_model_Model)
  | 0 => fun _ => none
  | k + 1 => F_model_Model_credit_l1 (F_model_Model_credit_L1 m1 nv20 k) m1 nv20
def F_model_Model_credit (m1 : T_model_Model) (nv20 : T_model_Note) : Option (Bool × T_model_Model) :=
  F_model_Model_credit_L1 m1 nv20 fuel0 (IntKind.i64.wrap ((m1.f_entries.length : Int) - 1))
def F_model_Model_crash_1 (ev1 : T_model_Entry) (cv8 : T_model_Note) : Option Bool :=
  some (decide (cv8.f_Epoch ≤ ev1.f_Epoch))
def F_slices_IndexFunc_model_Entry_model_Entry_fmodel_Model_crash_1_l1 (rec58 : Int → Option Int) (s1 : List T_model_Entry) (f8 : T_model_Note) (t56 : Int) : Option Int :=
  if (decide (t56 < (s1.length : Int))) = true then
  (gidx s1 t56).bind fun xv67 =>
  (F_model_Model_crash_1 xv67 f8).bind fun y75 =>
  if y75 = true then
  some t56
  else
  rec58 (IntKind.i64.wrap (t56 + 1))
  else
  some (-1)
def F_slices_IndexFunc_model_Entry_model_Entry_fmodel_Model_crash_1_L1 (s1 : List T_model_Entry) (f8 : T_model_Note) : Nat → Int → Option Int
  | 0 => fun _ => none
  | k + 1 => F_slices_IndexFunc_model_Entry_model_Entry_fmodel_Model_crash_1_l1 (F_slices_IndexFunc_model_Entry_model_Entry_fmodel_Model_crash_1_L1 s1 f8 k) s1 f8
def F_slices_IndexFunc_model_Entry_model_Entry_fmodel_Model_crash_1 (s1 : List T_model_Entry) (f8 : T_model_Note) : Option Int :=
  F_slices_IndexFunc_model_Entry_model_Entry_fmodel_Model_crash_1_L1 s1 f8 fuel0 0
def F_slices_ContainsFunc_model_Entry_model_Entry_fmodel_Model_crash_1 (s1 : List T_model_Entry) (f8 : T_model_Note) : Option Bool :=
  (F_slices_IndexFunc_model_Entry_model_Entry_fmodel_Model_crash_1 s1 f8).bind fun y14 =>
  some (decide (0 ≤ y14))
def F_model_Model_crash_2 (ev1 : T_model_Entry) : Option Bool :=
  some ev1.f_Credited
def F_model_Model_all_1_hmodel_Model_crash_2 (i1 : Int) (cv11 : T_model_Model) : Option Bool :=
  (gidx cv11.f_entries i1).bind fun xv28 =>
  (F_model_Model_crash_2 xv28).bind fun y36 =>
  some (!y36)
def F_slices_IndexFunc_int_int_fmodel_Model_all_1hmodel_Model_crash_2_l1 (rec59 : Int → Option Int) (s1 : List Int) (f14 : T_model_Model) (t57 : Int) : Option Int :=
  if (decide (t57 < (s1.length : Int))) = true then
  (gidx s1 t57).bind fun xv68 =>
  (F_model_Model_all_1_hmodel_Model_crash_2 xv68 f14).bind fun y69 =>
  if y69 = true then
  some t57
  else
  rec59 (IntKind.i64.wrap (t57 + 1))
  else
  some (-1)
def F_slices_IndexFunc_int_int_fmodel_Model_all_1hmodel_Model_crash_2_L1 (s1 : List Int) (f14 : T_model_Model) : Nat → Int → Option Int
  | 0 => fun _ => none
  | k + 1 => F_slices_IndexFunc_int_int_fmodel_Model_all_1hmodel_Model_crash_2_l1 (F_slices_IndexFunc_int_int_fmodel_Model_all_1hmodel_Model_crash_2_L1 s1 f14 k) s1 f14
def F_slices_IndexFunc_int_int_fmodel_Model_all_1hmodel_Model_crash_2 (s1 : List Int) (f14 : T_model_Model) : Option Int :=
  F_slices_IndexFunc_int_int_fmodel_Model_all_1hmodel_Model_crash_2_L1 s1 f14 fuel0 0
def F_slices_ContainsFunc_int_int_fmodel_Model_all_1hmodel_Model_crash_2 (s1 : List Int) (f14 : T_model_Model) : Option Bool :=
  (F_slices_IndexFunc_int_int_fmodel_Model_all_1hmodel_Model_crash_2 s1 f14).bind fun y29 =>
  some (decide (0 ≤ y29))
def F_model_Model_all_fmodel_Model_crash_2 (m4 : T_model_Model) (fromv17 : Int) (tov18 : Int) : Option Bool :=
  (gcut m4.f_line fromv17 tov18).bind fun cut27 =>
  (F_slices_ContainsFunc_int_int_fmodel_Model_all_1hmodel_Model_crash_2 cut27 m4).bind fun y34 =>
  some (!y34)
def F_model_Model_crash_3_j1 (t9 : Bool) : Option Bool :=
  some t9
def F_model_Model_crash_3 (ev1 : T_model_Entry) : Option Bool :=
  if ev1.f_Credited = true then
  F_model_Model_crash_3_j1 true
  else
  F_model_Model_crash_3_j1 (!ev1.f_Synced)
def F_model_Model_all_1_hmodel_Model_crash_3 (i1 : Int) (cv11 : T_model_Model) : Option Bool :=
  (gidx cv11.f_entries i1).bind fun xv28 =>
  (F_model_Model_crash_3 xv28).bind fun y36 =>
  some (!y36)
def F_slices_IndexFunc_int_int_fmodel_Model_all_1hmodel_Model_crash_3_l1 (rec59 : Int → Option Int) (s1 : List Int) (f14 : T_model_Model) (t57 : Int) : Option Int :=
  if (decide (t57 < (s1.length : Int))) = true then
  (gidx s1 t57).bind fun xv68 =>
  (F_model_Model_all_1_hmodel_Model_crash_3 xv68 f14).bind fun y69 =>
  if y69 = true then
  some t57
  else
  rec59 (IntKind.i64.wrap (t57 + 1))
  else
  some (-1)
def F_slices_IndexFunc_int_int_fmodel_Model_all_1hmodel_Model_crash_3_L1 (s1 : List Int) (f14 : T_model_Model) : Nat → Int → Option Int
  | 0 => fun _ => none
  | k + 1 => F_slices_IndexFunc_int_int_fmodel_Model_all_1hmodel_Model_crash_3_l1 (F_slices_IndexFunc_int_int_fmodel_Model_all_1hmodel_Model_crash_3_L1 s1 f14 k) s1 f14
def F_slices_IndexFunc_int_int_fmodel_Model_all_1hmodel_Model_crash_3 (s1 : List Int) (f14 : T_model_Model) : Option Int :=
  F_slices_IndexFunc_int_int_fmodel_Model_all_1hmodel_Model_crash_3_L1 s1 f14 fuel0 0
def F_slices_ContainsFunc_int_int_fmodel_Model_all_1hmodel_Model_crash_3 (s1 : List Int) (f14 : T_model_Model) : Option Bool :=
  (F_slices_IndexFunc_int_int_fmodel_Model_all_1hmodel_Model_crash_3 s1 f14).bind fun y29 =>
  some (decide (0 ≤ y29))
def F_model_Model_all_fmodel_Model_crash_3 (m4 : T_model_Model) (fromv17 : Int) (tov18 : Int) : Option Bool :=
  (gcut m4.f_line fromv17 tov18).bind fun cut27 =>
  (F_slices_ContainsFunc_int_int_fmodel_Model_all_1hmodel_Model_crash_3 cut27 m4).bind fun y34 =>
  some (!y34)
def F_slices_Clone_int_int (s1 : List Int) : Option ((List Int)) :=
  if (decide (([] : List Int).length + s1.length ≤ lim)) = true then
  some (([] : List Int) ++ s1)
  else none
def F_model_Model_crash_l2 (rec312 : (List T_model_Entry) → Int → Option (Bool × T_model_Model)) (m1 : T_model_Model) (nv20 : T_model_Note) (p114 : List Int) (cut206 : List Int) (p307 : List T_model_Entry) (t310 : Int) : Option (Bool × T_model_Model) :=
  if (decide (t310 < (cut206.length : Int))) = true then
  (gidx cut206 t310).bind fun xv320 =>
  (gidx p307 xv320).bind fun xv323 =>
  (gidx (p307.set (xv320 : Int).toNat (T_model_Entry.mk xv323.f_Epoch xv323.f_N xv323.f_Records true xv323.f_Synced xv323.f_Credited)) xv320).bind fun xv337 =>
  rec312 ((p307.set (xv320 : Int).toNat (T_model_Entry.mk xv323.f_Epoch xv323.f_N xv323.f_Records true xv323.f_Synced xv323.f_Credited)).set (xv320 : Int).toNat (T_model_Entry.mk xv337.f_Epoch xv337.f_N xv337.f_Records xv337.f_There true xv337.f_Credited)) (IntKind.i64.wrap (t310 + 1))
  else
  theOne (mmerge plusT (T_flow_Total.mk 0 0) m1.f_lost m1.f_cached : FM62) (fun p412 =>
  some (true, (T_model_Model.mk m1.f_forwarded (mnone : FM62) p412 p307 p114 nv20.f_First nv20.f_Epoch)))
def F_model_Model_crash_L2 (m1 : T_model_Model) (nv20 : T_model_Note) (p114 : List Int) (cut206 : List Int) : Nat → (List T_model_Entry) → Int → Option (Bool × T_model_Model)
  | 0 => fun _ _ => none
  | k + 1 => F_model_Model_crash_l2 (F_model_Model_crash_L2 m1 nv20 p114 cut206 k) m1 nv20 p114 cut206
def F_model_Model_crash_l1 (rec184 : (List T_model_Entry) → Int → Option (Bool × T_model_Model)) (m1 : T_model_Model) (nv20 : T_model_Note) (p114 : List Int) (p179 : List T_model_Entry) (t182 : Int) : Option (Bool × T_model_Model) :=
  if (decide (t182 < (m1.f_entries.length : Int))) = true then
  (gidx p179 t182).bind fun xv192 =>
  rec184 (p179.set (t182 : Int).toNat (T_model_Entry.mk xv192.f_Epoch xv192.f_N xv192.f_Records false xv192.f_Synced xv192.f_Credited)) (IntKind.i64.wrap (t182 + 1))
  else
  (gcut p114 nv20.f_First ((p114).length)).bind fun cut206 =>
  F_model_Model_crash_L2 m1 nv20 p114 cut206 fuel0 p179 0
def F_model_Model_crash_L1 (m1 : T_model_Model) (nv20 : T_model_Note) (p114 : List Int) : Nat → (List T_model_Entry) → Int → Option (Bool × T_model_Model)
  | 0 => fun _ _ => none
  | k + 1 => F_model_Model_crash_l1 (F_model_Model_crash_L1 m1 nv20 p114 k) m1 nv20 p114
def F_model_Model_crash_j3 (m1 : T_model_Model) (nv20 : T_model_Note) (p114 : List Int) : Option (Bool × T_model_Model) :=
  F_model_Model_crash_L1 m1 nv20 p114 fuel0 m1.f_entries 0
def F_model_Model_crash_j2 (m1 : T_model_Model) (nv20 : T_model_Note) (t72 : Bool) : Option (Bool × T_model_Model) :=
  if t72 = true then
  some (false, m1)
  else
  (gcut m1.f_line 0 nv20.f_Next).bind fun cut75 =>
  (F_slices_Clone_int_int cut75).bind fun y82 =>
  F_model_Model_crash_j3 m1 nv20 y82
def F_model_Model_crash_j1 (m1 : T_model_Model) (nv20 : T_model_Note) (t48 : Bool) : Option (Bool × T_model_Model) :=
  if t48 = true then
  some (false, m1)
  else
  (F_model_Model_all_fmodel_Model_crash_2 m1 0 nv20.f_First).bind fun y52 =>
  if (!y52) = true then
  F_model_Model_crash_j2 m1 nv20 true
  else
  (F_model_Model_next m1).bind fun y56 =>
  (F_model_Model_all_fmodel_Model_crash_3 m1 nv20.f_Next y56).bind fun y60 =>
  F_model_Model_crash_j2 m1 nv20 (!y60)
def F_model_Model_crash (m1 : T_model_Model) (nv20 : T_model_Note) : Option (Bool × T_model_Model) :=
  (F_slices_ContainsFunc_model_Entry_model_Entry_fmodel_Model_crash_1 m1.f_entries nv20).bind fun y31 =>
  if (!(!y31)) = true then
  F_model_Model_crash_j1 m1 nv20 true
  else
  if (nv20.f_Epoch == 0) = true then
  F_model_Model_crash_j1 m1 nv20 true
  else
  if (decide (nv20.f_Next < nv20.f_First)) = true then
  F_model_Model_crash_j1 m1 nv20 true
  else
  (F_model_Model_next m1).bind fun y36 =>
  F_model_Model_crash_j1 m1 nv20 (decide (y36 < nv20.f_Next))
def F_model_Model_Step_j1 (p181 : FM62) (p184 : FM62) (p187 : FM62) (p194 : List T_model_Entry) (p198 : List Int) (p199 : Int) (p200 : Int) (t201 : Bool) : Option (Int × T_model_Model) :=
  if t201 = true then
  some (2, (T_model_Model.mk p181 p184 p187 p194 p198 p199 p200))
  else
  some (0, (T_model_Model.mk p181 p184 p187 p194 p198 p199 p200))
def F_model_Model_Step (m1 : T_model_Model) (nv20 : T_model_Note) : Option (Int × T_model_Model) :=
  if (decide (nv20.f_Kind < 1)) = true then
  F_model_Model_Step_j1 m1.f_forwarded m1.f_cached m1.f_lost m1.f_entries m1.f_line m1.f_first m1.f_boot true
  else
  if (decide (8 ≤ nv20.f_Kind)) = true then
  F_model_Model_Step_j1 m1.f_forwarded m1.f_cached m1.f_lost m1.f_entries m1.f_line m1.f_first m1.f_boot true
  else
  if (nv20.f_Kind == 1) = true then
  (F_model_Model_forward m1 nv20).bind fun y39 =>
  F_model_Model_Step_j1 y39.2.f_forwarded y39.2.f_cached y39.2.f_lost y39.2.f_entries y39.2.f_line y39.2.f_first y39.2.f_boot (!y39.1)
  else
  if (nv20.f_Kind == 2) = true then
  (F_model_Model_pack m1 nv20).bind fun y59 =>
  F_model_Model_Step_j1 y59.2.f_forwarded y59.2.f_cached y59.2.f_lost y59.2.f_entries y59.2.f_line y59.2.f_first y59.2.f_boot (!y59.1)
  else
  if (nv20.f_Kind == 3) = true then
  (F_model_Model_refuse m1 nv20).bind fun y79 =>
  F_model_Model_Step_j1 y79.2.f_forwarded y79.2.f_cached y79.2.f_lost y79.2.f_entries y79.2.f_line y79.2.f_first y79.2.f_boot (!y79.1)
  else
  if (nv20.f_Kind == 4) = true then
  (F_model_Model_sync m1 nv20).bind fun y99 =>
  F_model_Model_Step_j1 y99.2.f_forwarded y99.2.f_cached y99.2.f_lost y99.2.f_entries y99.2.f_line y99.2.f_first y99.2.f_boot (!y99.1)
  else
  if (nv20.f_Kind == 5) = true then
  (F_model_Model_truncate m1 nv20).bind fun y119 =>
  F_model_Model_Step_j1 y119.2.f_forwarded y119.2.f_cached y119.2.f_lost y119.2.f_entries y119.2.f_line y119.2.f_first y119.2.f_boot (!y119.1)
  else
  if (nv20.f_Kind == 6) = true then
  (F_model_Model_credit m1 nv20).bind fun y139 =>
  F_model_Model_Step_j1 y139.2.f_forwarded y139.2.f_cached y139.2.f_lost y139.2.f_entries y139.2.f_line y139.2.f_first y139.2.f_boot (!y139.1)
  else
  if (nv20.f_Kind == 7) = true then
  (F_model_Model_crash m1 nv20).bind fun y159 =>
  F_model_Model_Step_j1 y159.2.f_forwarded y159.2.f_cached y159.2.f_lost y159.2.f_entries y159.2.f_line y159.2.f_first y159.2.f_boot (!y159.1)
  else
  none
def F_model_Model_Of_j1 (t767 : Int) (rec769 : Int → Int → Int → Int → Int → Int → Int → Int → Int → Option T_model_Parts) (p833 : Int) (p834 : Int) (p835 : Int) (p836 : Int) (p837 : Int) (p838 : Int) (p839 : Int) (p840 : Int) : Option T_model_Parts :=
  rec769 p833 p834 p835 p836 p837 p838 p839 p840 (IntKind.i64.wrap (t767 + 1))
def F_model_Model_Of_l2 (rec769 : Int → Int → Int → Int → Int → Int → Int → Int → Int → Option T_model_Parts) (kv17 : T_packet_Key) (t577 : Int) (rec579 : Int → Int → Int → Int → Int → Int → Int → Int → Int → Option T_model_Parts) (xv587 : T_model_Entry) (p758 : Int) (p759 : Int) (p760 : Int) (p761 : Int) (p762 : Int) (p763 : Int) (p764 : Int) (p765 : Int) (t767 : Int) : Option T_model_Parts :=
  if (decide (t767 < (xv587.f_Records.length : Int))) = true then
  (gidx xv587.f_Records t767).bind fun xv776 =>
  if (q_packet_Key xv776.f_Key kv17) = true then
  if xv587.f_Credited = true then
  (F_flow_Record_Total xv776).bind fun y790 =>
  (F_flow_Total_Plus (T_flow_Total.mk p764 p765) y790).bind fun y794 =>
  F_model_Model_Of_j1 t767 rec769 p758 p759 p760 p761 p762 p763 y794.f_Packets y794.f_Bytes
  else
  if (!xv587.f_There) = true then
  (F_flow_Record_Total xv776).bind fun y801 =>
  (F_flow_Total_Plus (T_flow_Total.mk p762 p763) y801).bind fun y805 =>
  F_model_Model_Of_j1 t767 rec769 p758 p759 p760 p761 y805.f_Packets y805.f_Bytes p764 p765
  else
  if xv587.f_Synced = true then
  (F_flow_Record_Total xv776).bind fun y812 =>
  (F_flow_Total_Plus (T_flow_Total.mk p760 p761) y812).bind fun y816 =>
  F_model_Model_Of_j1 t767 rec769 p758 p759 y816.f_Packets y816.f_Bytes p762 p763 p764 p765
  else
  (F_flow_Record_Total xv776).bind fun y822 =>
  (F_flow_Total_Plus (T_flow_Total.mk p758 p759) y822).bind fun y826 =>
  F_model_Model_Of_j1 t767 rec769 y826.f_Packets y826.f_Bytes p760 p761 p762 p763 p764 p765
  else
  F_model_Model_Of_j1 t767 rec769 p758 p759 p760 p761 p762 p763 p764 p765
  else
  rec579 p758 p759 p760 p761 p762 p763 p764 p765 (IntKind.i64.wrap (t577 + 1))
def F_model_Model_Of_L2 (kv17 : T_packet_Key) (t577 : Int) (rec579 : Int → Int → Int → Int → Int → Int → Int → Int → Int → Option T_model_Parts) (xv587 : T_model_Entry) : Nat → Int → Int → Int → Int → Int → Int → Int → Int → Int → Option T_model_Parts
  | 0 => fun _ _ _ _ _ _ _ _ _ => none
  | k + 1 => F_model_Model_Of_l2 (F_model_Model_Of_L2 kv17 t577 rec579 xv587 k) kv17 t577 rec579 xv587
def F_model_Model_Of_l1 (rec579 : Int → Int → Int → Int → Int → Int → Int → Int → Int → Option T_model_Parts) (m4 : T_model_Model) (kv17 : T_packet_Key) (p569 : Int) (p570 : Int) (p571 : Int) (p572 : Int) (p573 : Int) (p574 : Int) (p575 : Int) (p576 : Int) (t577 : Int) : Option T_model_Parts :=
  if (decide (t577 < (m4.f_entries.length : Int))) = true then
  (gidx m4.f_entries t577).bind fun xv587 =>
  F_model_Model_Of_L2 kv17 t577 rec579 xv587 fuel0 p569 p570 p571 p572 p573 p574 p575 p576 0
  else
  some (T_model_Parts.mk (T_flow_Total.mk (((m4.f_forwarded kv17).getD (T_flow_Total.mk 0 0)).f_Packets) (((m4.f_forwarded kv17).getD (T_flow_Total.mk 0 0)).f_Bytes)) (T_flow_Total.mk (((m4.f_cached kv17).getD (T_flow_Total.mk 0 0)).f_Packets) (((m4.f_cached kv17).getD (T_flow_Total.mk 0 0)).f_Bytes)) (T_flow_Total.mk p569 p570) (T_flow_Total.mk p571 p572) (T_flow_Total.mk p573 p574) (T_flow_Total.mk p575 p576))
def F_model_Model_Of_L1 (m4 : T_model_Model) (kv17 : T_packet_Key) : Nat → Int → Int → Int → Int → Int → Int → Int → Int → Int → Option T_model_Parts
  | 0 => fun _ _ _ _ _ _ _ _ _ => none
  | k + 1 => F_model_Model_Of_l1 (F_model_Model_Of_L1 m4 kv17 k) m4 kv17
def F_model_Model_Of (m4 : T_model_Model) (kv17 : T_packet_Key) : Option T_model_Parts :=
  F_model_Model_Of_L1 m4 kv17 fuel0 0 0 0 0 (((m4.f_lost kv17).getD (T_flow_Total.mk 0 0)).f_Packets) (((m4.f_lost kv17).getD (T_flow_Total.mk 0 0)).f_Bytes) 0 0 0
def F_law30_record (kv1 : T_packet_Key) (packets2 : Int) (bytes3 : Int) : Option T_flow_Record :=
  some (T_flow_Record.mk kv1 packets2 bytes3 1 2 0 1 0)
def F_model_Model_Entries_l1 (rec120 : (List T_model_Entry) → Int → Option ((List T_model_Entry))) (m4 : T_model_Model) (lv117 : List T_model_Entry) (t118 : Int) : Option ((List T_model_Entry)) :=
  if (decide (t118 < (m4.f_entries.length : Int))) = true then
  (gidx m4.f_entries t118).bind fun xv128 =>
  (F_model_Entry_copied xv128).bind fun y140 =>
  if (decide (lv117.length + ([y140]).length ≤ lim)) = true then
  rec120 (lv117 ++ [y140]) (IntKind.i64.wrap (t118 + 1))
  else none
  else
  some lv117
def F_model_Model_Entries_L1 (m4 : T_model_Model) : Nat → (List T_model_Entry) → Int → Option ((List T_model_Entry))
  | 0 => fun _ _ => none
  | k + 1 => F_model_Model_Entries_l1 (F_model_Model_Entries_L1 m4 k) m4
def F_model_Model_Entries (m4 : T_model_Model) : Option ((List T_model_Entry)) :=
  F_model_Model_Entries_L1 m4 fuel0 ([]) 0
def F_model_Model_Copy (m4 : T_model_Model) : Option T_model_Model :=
  (F_maps_Clone_model_totals_packet_Key_flow_Total m4.f_forwarded).bind fun y21 =>
  (F_maps_Clone_model_totals_packet_Key_flow_Total m4.f_cached).bind fun y27 =>
  (F_maps_Clone_model_totals_packet_Key_flow_Total m4.f_lost).bind fun y33 =>
  (F_model_Model_Entries m4).bind fun y39 =>
  (F_slices_Clone_int_int m4.f_line).bind fun y49 =>
  some (T_model_Model.mk y21 y27 y33 y39 y49 m4.f_first m4.f_boot)
def F_model_Parts_Whole (p1 : T_model_Parts) : Option Bool :=
  (F_flow_Total_Plus p1.f_Cached p1.f_Volatile).bind fun y7 =>
  (F_flow_Total_Plus y7 p1.f_Durable).bind fun y11 =>
  (F_flow_Total_Plus y11 p1.f_Lost).bind fun y15 =>
  (F_flow_Total_Plus y15 p1.f_Credited).bind fun y19 =>
  some (q_flow_Total p1.f_Forwarded y19)
def F_law30_works_j2 (t234 : Bool) : Option Bool :=
  some t234
def F_law30_works_j1 (y74 : T_model_Parts) (y110 : T_model_Parts) (y139 : T_model_Parts) (y210 : T_model_Parts) (t223 : Bool) : Option Bool :=
  if t223 = true then
  some false
  else
  if (y74.f_Forwarded.f_Bytes == 100) = true then
  if (y74.f_Cached.f_Bytes == 100) = true then
  if (y110.f_Volatile.f_Bytes == 100) = true then
  if (y139.f_Durable.f_Bytes == 100) = true then
  if (y210.f_Credited.f_Bytes == 100) = true then
  (F_model_Parts_Whole y210).bind fun y226 =>
  if y226 = true then
  (F_model_Parts_Whole (T_model_Parts.mk (T_flow_Total.mk 0 1) (T_flow_Total.mk 0 0) (T_flow_Total.mk 0 0) (T_flow_Total.mk 0 0) (T_flow_Total.mk 0 0) (T_flow_Total.mk 0 0))).bind fun y230 =>
  F_law30_works_j2 (!y230)
  else
  F_law30_works_j2 false
  else
  F_law30_works_j2 false
  else
  F_law30_works_j2 false
  else
  F_law30_works_j2 false
  else
  F_law30_works_j2 false
  else
  F_law30_works_j2 false
def F_law30_works : Option Bool :=
  (F_model_New).bind fun y3 =>
  (F_law30_key 1).bind fun y25 =>
  (F_model_Model_Step y3 (T_model_Note.mk 7 (T_packet_Key.mk (T_addr_Addr.mk false (List.replicate 16 0)) (T_addr_Addr.mk false (List.replicate 16 0)) 0 0 0) (T_flow_Total.mk 0 0) ([]) 1 0 0 0)).bind fun y34 =>
  (F_model_Model_Step y34.2 (T_model_Note.mk 1 y25 (T_flow_Total.mk 1 100) ([]) 0 0 0 0)).bind fun y54 =>
  (F_model_Model_Of y54.2 y25).bind fun y74 =>
  (F_law30_record y25 1 100).bind fun y83 =>
  (F_model_Model_Step y54.2 (T_model_Note.mk 2 (T_packet_Key.mk (T_addr_Addr.mk false (List.replicate 16 0)) (T_addr_Addr.mk false (List.replicate 16 0)) 0 0 0) (T_flow_Total.mk 0 0) ([y83] : List T_flow_Record) 1 0 0 0)).bind fun y90 =>
  (F_model_Model_Of y90.2 y25).bind fun y110 =>
  (F_model_Model_Step y90.2 (T_model_Note.mk 4 (T_packet_Key.mk (T_addr_Addr.mk false (List.replicate 16 0)) (T_addr_Addr.mk false (List.replicate 16 0)) 0 0 0) (T_flow_Total.mk 0 0) ([]) 0 0 0 0)).bind fun y119 =>
  (F_model_Model_Of y119.2 y25).bind fun y139 =>
  (F_model_Model_Copy y119.2).bind fun y148 =>
  (F_model_Model_Step y148 (T_model_Note.mk 7 (T_packet_Key.mk (T_addr_Addr.mk false (List.replicate 16 0)) (T_addr_Addr.mk false (List.replicate 16 0)) 0 0 0) (T_flow_Total.mk 0 0) ([]) 2 0 0 0)).bind fun y170 =>
  (F_model_Model_Step y119.2 (T_model_Note.mk 6 (T_packet_Key.mk (T_addr_Addr.mk false (List.replicate 16 0)) (T_addr_Addr.mk false (List.replicate 16 0)) 0 0 0) (T_flow_Total.mk 0 0) ([]) 1 0 0 0)).bind fun y190 =>
  (F_model_Model_Of y190.2 y25).bind fun y210 =>
  if (y34.1 != 0) = true then
  F_law30_works_j1 y74 y110 y139 y210 true
  else
  if (y54.1 != 0) = true then
  F_law30_works_j1 y74 y110 y139 y210 true
  else
  if (y90.1 != 0) = true then
  F_law30_works_j1 y74 y110 y139 y210 true
  else
  if (y119.1 != 0) = true then
  F_law30_works_j1 y74 y110 y139 y210 true
  else
  if (y170.1 != 2) = true then
  F_law30_works_j1 y74 y110 y139 y210 true
  else
  F_law30_works_j1 y74 y110 y139 y210 (y190.1 != 0)
noncomputable def F_slices_AppendSeq_packet_Key_packet_Key_Zfmaps_Keys_model_totals_packet_Key_flow_Total_1_K (seq4 : FM62) (kf : ((List T_packet_Key)) → Option Bool) : Option Bool :=
  guardP (SmallM q_packet_Key seq4) (demon (α := (List T_packet_Key)) (fun v108 => (v108).length ≤ 1000000) (fun v108 =>
  kf v108))
noncomputable def F_slices_Collect_packet_Key_fmaps_Keys_model_totals_packet_Key_flow_Total_1_K (seq4 : FM62) (kf : ((List T_packet_Key)) → Option Bool) : Option Bool :=
  F_slices_AppendSeq_packet_Key_packet_Key_Zfmaps_Keys_model_totals_packet_Key_flow_Total_1_K seq4 (fun y9 =>
  kf y9)
def F_bits_Writer_Raw (wv1 : T_bits_Writer) (b8 : List Int) : Option (Int × T_bits_Writer) :=
  if (decide (wv1.f_b.length + b8.length ≤ lim)) = true then
  some (0, (T_bits_Writer.mk (wv1.f_b ++ b8)))
  else none
def F_bytes_Clone (b1 : List Int) : Option ((List Int)) :=
  if (decide (([] : List Int).length + b1.length ≤ lim)) = true then
  some (([] : List Int) ++ b1)
  else none
def F_addr_Addr_Bytes (av1 : T_addr_Addr) : Option ((List Int)) :=
  (F_addr_Addr_size av1).bind fun y7 =>
  (gcut (arrL 16 av1.f_B) 0 y7).bind fun cut12 =>
  (F_bytes_Clone cut12).bind fun y14 =>
  some y14
def F_bits_right_j1 (t3 : Bool) : Option Bool :=
  some t3
def F_bits_right (size1 : Int) : Option Bool :=
  if (decide (1 ≤ size1)) = true then
  F_bits_right_j1 (decide (size1 ≤ 8))
  else
  F_bits_right_j1 false
def F_bits_Least_l1 (rec17 : Int → Int → Option Int) (v14 : Int) (nv15 : Int) : Option Int :=
  if (decide (0 < v14)) = true then
  rec17 (Ox.shr .u64 v14 8) (IntKind.i64.wrap (nv15 + 1))
  else
  some nv15
def F_bits_Least_L1 : Nat → Int → Int → Option Int
  | 0 => fun _ _ => none
  | k + 1 => F_bits_Least_l1 (F_bits_Least_L1 k)
def F_bits_Least (v1 : Int) : Option Int :=
  F_bits_Least_L1 fuel0 (Ox.shr .u64 v1 8) 1
def F_bits_fits_j1 (t12 : Bool) : Option Bool :=
  some t12
def F_bits_fits (v1 : Int) (size2 : Int) : Option Bool :=
  (F_bits_right size2).bind fun y4 =>
  if y4 = true then
  (F_bits_Least v1).bind fun y8 =>
  F_bits_fits_j1 (decide (y8 ≤ size2))
  else
  F_bits_fits_j1 false
def F_bits_of_l1 (rec42 : (List Int) → Int → Option ((List Int))) (v1 : Int) (size2 : Int) (b39 : List Int) (t40 : Int) : Option ((List Int)) :=
  if (decide (t40 < size2)) = true then
  if (decide (¬ (IntKind.i64.wrap (8 * t40)) < 0)) = true then
  (gidx b39 (IntKind.i64.wrap ((IntKind.i64.wrap (size2 - 1)) - t40))).bind fun xv51 =>
  rec42 (b39.set ((IntKind.i64.wrap ((IntKind.i64.wrap (size2 - 1)) - t40)) : Int).toNat (IntKind.u8.wrap (Ox.shr .u64 v1 (IntKind.i64.wrap (8 * t40))))) (IntKind.i64.wrap (t40 + 1))
  else none
  else
  some b39
def F_bits_of_L1 (v1 : Int) (size2 : Int) : Nat → (List Int) → Int → Option ((List Int))
  | 0 => fun _ _ => none
  | k + 1 => F_bits_of_l1 (F_bits_of_L1 v1 size2 k) v1 size2
def F_bits_of (v1 : Int) (size2 : Int) : Option ((List Int)) :=
  if (decide (0 ≤ size2 ∧ size2 ≤ lim)) = true then
  F_bits_of_L1 v1 size2 fuel0 (List.replicate (Int.toNat size2) (0 : Int)) 0
  else none
def F_bits_Writer_Put (wv1 : T_bits_Writer) (v8 : Int) (size9 : Int) : Option (Int × T_bits_Writer) :=
  (F_bits_fits v8 size9).bind fun y16 =>
  if (!y16) = true then
  some (2, wv1)
  else
  (F_bits_of v8 size9).bind fun y22 =>
  (F_bits_Writer_Raw wv1 y22).bind fun y29 =>
  some (y29.1, y29.2)
def F_slices_Clone_byte_byte (s1 : List Int) : Option ((List Int)) :=
  if (decide (([] : List Int).length + s1.length ≤ lim)) = true then
  some (([] : List Int) ++ s1)
  else none
def F_bits_Writer_Bytes (wv4 : T_bits_Writer) : Option ((List Int)) :=
  (F_slices_Clone_byte_byte wv4.f_b).bind fun y12 =>
  some y12
def F_packet_Key_Bytes_j1 (kv1 : T_packet_Key) (version21 : Int) : Option ((List Int)) :=
  (F_bits_Writer_Raw (T_bits_Writer.mk ([] : List Int)) ([version21] : List Int)).bind fun y28 =>
  (F_addr_Addr_Bytes kv1.f_Src).bind fun y36 =>
  (F_bits_Writer_Raw y28.2 y36).bind fun y43 =>
  (F_addr_Addr_Bytes kv1.f_Dst).bind fun y51 =>
  (F_bits_Writer_Raw y43.2 y51).bind fun y58 =>
  (F_bits_Writer_Raw y58.2 ([kv1.f_Proto] : List Int)).bind fun y69 =>
  (F_bits_Writer_Put y69.2 (IntKind.u64.wrap kv1.f_SrcPort) 2).bind fun y77 =>
  (F_bits_Writer_Put y77.2 (IntKind.u64.wrap kv1.f_DstPort) 2).bind fun y85 =>
  (F_bits_Writer_Bytes y85.2).bind fun y93 =>
  some y93
def F_packet_Key_Bytes (kv1 : T_packet_Key) : Option ((List Int)) :=
  (F_packet_Key_Right kv1).bind fun y8 =>
  if (!y8) = true then
  some ([])
  else
  if kv1.f_Src.f_Six = true then
  F_packet_Key_Bytes_j1 kv1 6
  else
  F_packet_Key_Bytes_j1 kv1 4
def F_bytes_Compare (av1 : List Int) (b5 : List Int) : Option Int :=
  some (bcmp av1 b5)
def F_packet_Cmp (av1 : T_packet_Key) (b2 : T_packet_Key) : Option Int :=
  (F_packet_Key_Bytes av1).bind fun y11 =>
  (F_packet_Key_Bytes b2).bind fun y18 =>
  (F_bytes_Compare y11 y18).bind fun y25 =>
  some y25
instance : Inhabited T_packet_Key := ⟨(T_packet_Key.mk (T_addr_Addr.mk false (List.replicate 16 0)) (T_addr_Addr.mk false (List.replicate 16 0)) 0 0 0)⟩
def cf_packet_Cmp (x y : T_packet_Key) : Int := (F_packet_Cmp x y).getD 0
def F_slices_SortFunc_packet_Key_packet_Key_packet_Cmp (xs : List T_packet_Key) : Option (List T_packet_Key) :=
  if decide (xs.length ≤ lim) = true then some (srt cf_packet_Cmp xs) else none
noncomputable def F_slices_SortedFunc_packet_Key_fmaps_Keys_model_totals_packet_Key_flow_Total_1fpacket_Cmp_K (seq4 : FM62) (kf : ((List T_packet_Key)) → Option Bool) : Option Bool :=
  F_slices_Collect_packet_Key_fmaps_Keys_model_totals_packet_Key_flow_Total_1_K seq4 (fun y9 =>
  (F_slices_SortFunc_packet_Key_packet_Key_packet_Cmp y9).bind fun y17 =>
  kf y17)
noncomputable def F_model_Model_Keys_K (m4 : T_model_Model) (kf : ((List T_packet_Key)) → Option Bool) : Option Bool :=
  F_slices_SortedFunc_packet_Key_fmaps_Keys_model_totals_packet_Key_flow_Total_1fpacket_Cmp_K m4.f_forwarded (fun y26 =>
  kf y26)
def F_model_Model_Boot (m4 : T_model_Model) : Option Int :=
  some m4.f_boot
def F_law30_ModelOnce_j3 (kv7274 : Int) (rec7276 : Int → Int → Option Bool) (many7301 : Int) (t7356 : Bool) : Option Bool :=
  if t7356 = true then
  some false
  else
  rec7276 many7301 (IntKind.i64.wrap (kv7274 + 1))
def F_law30_ModelOnce_j2 (m7045 : FM62) (m7048 : FM62) (m7051 : FM62) (m7058 : List T_model_Entry) (m7062 : List Int) (m7063 : Int) (m7064 : Int) (y7069 : (List T_model_Entry)) (kv7274 : Int) (rec7276 : Int → Int → Option Bool) (many7301 : Int) : Option Bool :=
  (gidx y7069 kv7274).bind fun xv7308 =>
  if xv7308.f_There = true then
  (gidx y7069 kv7274).bind fun xv7320 =>
  if (!xv7320.f_Synced) = true then
  (gidx y7069 kv7274).bind fun xv7332 =>
  (F_model_Model_Boot (T_model_Model.mk m7045 m7048 m7051 m7058 m7062 m7063 m7064)).bind fun y7342 =>
  F_law30_ModelOnce_j3 kv7274 rec7276 many7301 (xv7332.f_Epoch != y7342)
  else
  F_law30_ModelOnce_j3 kv7274 rec7276 many7301 false
  else
  F_law30_ModelOnce_j3 kv7274 rec7276 many7301 false
def F_law30_ModelOnce_j5 (nv10305 : Int) (rec10307 : Int → Int → Int → Option Bool) (sum10401 : Int) (sum10402 : Int) : Option Bool :=
  rec10307 sum10401 sum10402 (IntKind.i64.wrap (nv10305 + 1))
def F_law30_ModelOnce_j4 (y7069 : (List T_model_Entry)) (y7080 : (List T_packet_Key)) (kv9400 : Int) (q10080 : Int) (rec10082 : Int → Int → Int → Option Bool) (sum10303 : Int) (sum10304 : Int) (nv10305 : Int) (rec10307 : Int → Int → Int → Option Bool) (t10345 : Bool) : Option Bool :=
  if t10345 = true then
  (gidx y7069 q10080).bind fun xv10350 =>
  (gidx xv10350.f_Records nv10305).bind fun xv10362 =>
  (gidx y7080 kv9400).bind fun xv10365 =>
  if (q_packet_Key xv10362.f_Key xv10365) = true then
  (gidx y7069 q10080).bind fun xv10368 =>
  (gidx xv10368.f_Records nv10305).bind fun xv10380 =>
  (F_flow_Record_Total xv10380).bind fun y10381 =>
  (F_flow_Total_Plus (T_flow_Total.mk sum10303 sum10304) y10381).bind fun y10385 =>
  F_law30_ModelOnce_j5 nv10305 rec10307 y10385.f_Packets y10385.f_Bytes
  else
  F_law30_ModelOnce_j5 nv10305 rec10307 sum10303 sum10304
  else
  rec10082 sum10303 sum10304 (IntKind.i64.wrap (q10080 + 1))
def F_law30_ModelOnce_l5 (rec10307 : Int → Int → Int → Option Bool) (y7069 : (List T_model_Entry)) (y7080 : (List T_packet_Key)) (kv9400 : Int) (q10080 : Int) (rec10082 : Int → Int → Int → Option Bool) (sum10303 : Int) (sum10304 : Int) (nv10305 : Int) : Option Bool :=
  (gidx y7069 q10080).bind fun xv10312 =>
  if (decide (nv10305 < (xv10312.f_Records.length : Int))) = true then
  (gidx y7069 q10080).bind fun xv10324 =>
  F_law30_ModelOnce_j4 y7069 y7080 kv9400 q10080 rec10082 sum10303 sum10304 nv10305 rec10307 xv10324.f_Credited
  else
  F_law30_ModelOnce_j4 y7069 y7080 kv9400 q10080 rec10082 sum10303 sum10304 nv10305 rec10307 false
def F_law30_ModelOnce_L5 (y7069 : (List T_model_Entry)) (y7080 : (List T_packet_Key)) (kv9400 : Int) (q10080 : Int) (rec10082 : Int → Int → Int → Option Bool) : Nat → Int → Int → Int → Option Bool
  | 0 => fun _ _ _ => none
  | k + 1 => F_law30_ModelOnce_l5 (F_law30_ModelOnce_L5 y7069 y7080 kv9400 q10080 rec10082 k) y7069 y7080 kv9400 q10080 rec10082
def F_law30_ModelOnce_l4 (rec10082 : Int → Int → Int → Option Bool) (m7045 : FM62) (m7048 : FM62) (m7051 : FM62) (m7058 : List T_model_Entry) (m7062 : List Int) (m7063 : Int) (m7064 : Int) (y7069 : (List T_model_Entry)) (y7080 : (List T_packet_Key)) (kv9400 : Int) (rec9402 : Int → Option Bool) (sum10078 : Int) (sum10079 : Int) (q10080 : Int) : Option Bool :=
  if (decide (q10080 < (y7069.length : Int))) = true then
  F_law30_ModelOnce_L5 y7069 y7080 kv9400 q10080 rec10082 fuel0 sum10078 sum10079 0
  else
  (gidx y7080 kv9400).bind fun xv10407 =>
  (F_model_Model_Of (T_model_Model.mk m7045 m7048 m7051 m7058 m7062 m7063 m7064) xv10407).bind fun y10408 =>
  if (!(q_flow_Total y10408.f_Credited (T_flow_Total.mk sum10078 sum10079))) = true then
  some false
  else
  rec9402 (IntKind.i64.wrap (kv9400 + 1))
def F_law30_ModelOnce_L4 (m7045 : FM62) (m7048 : FM62) (m7051 : FM62) (m7058 : List T_model_Entry) (m7062 : List Int) (m7063 : Int) (m7064 : Int) (y7069 : (List T_model_Entry)) (y7080 : (List T_packet_Key)) (kv9400 : Int) (rec9402 : Int → Option Bool) : Nat → Int → Int → Int → Option Bool
  | 0 => fun _ _ _ => none
  | k + 1 => F_law30_ModelOnce_l4 (F_law30_ModelOnce_L4 m7045 m7048 m7051 m7058 m7062 m7063 m7064 y7069 y7080 kv9400 rec9402 k) m7045 m7048 m7051 m7058 m7062 m7063 m7064 y7069 y7080 kv9400 rec9402
def F_law30_ModelOnce_l3 (rec9402 : Int → Option Bool) (i6971 : Int) (rec6973 : FM62 → FM62 → FM62 → (List T_model_Entry) → (List Int) → Int → Int → Int → Int → Option Bool) (m7045 : FM62) (m7048 : FM62) (m7051 : FM62) (m7058 : List T_model_Entry) (m7062 : List Int) (m7063 : Int) (m7064 : Int) (credits7065 : Int) (y7069 : (List T_model_Entry)) (y7080 : (List T_packet_Key)) (many7270 : Int) (kv9400 : Int) : Option Bool :=
  if (decide (kv9400 < (y7080.length : Int))) = true then
  F_law30_ModelOnce_L4 m7045 m7048 m7051 m7058 m7062 m7063 m7064 y7069 y7080 kv9400 rec9402 fuel0 0 0 0
  else
  if (many7270 != credits7065) = true then
  some false
  else
  rec6973 m7045 m7048 m7051 m7058 m7062 m7063 m7064 credits7065 (IntKind.i64.wrap (i6971 + 1))
def F_law30_ModelOnce_L3 (i6971 : Int) (rec6973 : FM62 → FM62 → FM62 → (List T_model_Entry) → (List Int) → Int → Int → Int → Int → Option Bool) (m7045 : FM62) (m7048 : FM62) (m7051 : FM62) (m7058 : List T_model_Entry) (m7062 : List Int) (m7063 : Int) (m7064 : Int) (credits7065 : Int) (y7069 : (List T_model_Entry)) (y7080 : (List T_packet_Key)) (many7270 : Int) : Nat → Int → Option Bool
  | 0 => fun _ => none
  | k + 1 => F_law30_ModelOnce_l3 (F_law30_ModelOnce_L3 i6971 rec6973 m7045 m7048 m7051 m7058 m7062 m7063 m7064 credits7065 y7069 y7080 many7270 k) i6971 rec6973 m7045 m7048 m7051 m7058 m7062 m7063 m7064 credits7065 y7069 y7080 many7270
def F_law30_ModelOnce_l2 (rec7276 : Int → Int → Option Bool) (i6971 : Int) (rec6973 : FM62 → FM62 → FM62 → (List T_model_Entry) → (List Int) → Int → Int → Int → Int → Option Bool) (m7045 : FM62) (m7048 : FM62) (m7051 : FM62) (m7058 : List T_model_Entry) (m7062 : List Int) (m7063 : Int) (m7064 : Int) (credits7065 : Int) (y7069 : (List T_model_Entry)) (y7080 : (List T_packet_Key)) (many7270 : Int) (kv7274 : Int) : Option Bool :=
  if (decide (kv7274 < (y7069.length : Int))) = true then
  (gidx y7069 kv7274).bind fun xv7284 =>
  if xv7284.f_Credited = true then
  F_law30_ModelOnce_j2 m7045 m7048 m7051 m7058 m7062 m7063 m7064 y7069 kv7274 rec7276 (IntKind.i64.wrap (many7270 + 1))
  else
  F_law30_ModelOnce_j2 m7045 m7048 m7051 m7058 m7062 m7063 m7064 y7069 kv7274 rec7276 many7270
  else
  F_law30_ModelOnce_L3 i6971 rec6973 m7045 m7048 m7051 m7058 m7062 m7063 m7064 credits7065 y7069 y7080 many7270 fuel0 0
def F_law30_ModelOnce_L2 (i6971 : Int) (rec6973 : FM62 → FM62 → FM62 → (List T_model_Entry) → (List Int) → Int → Int → Int → Int → Option Bool) (m7045 : FM62) (m7048 : FM62) (m7051 : FM62) (m7058 : List T_model_Entry) (m7062 : List Int) (m7063 : Int) (m7064 : Int) (credits7065 : Int) (y7069 : (List T_model_Entry)) (y7080 : (List T_packet_Key)) : Nat → Int → Int → Option Bool
  | 0 => fun _ _ => none
  | k + 1 => F_law30_ModelOnce_l2 (F_law30_ModelOnce_L2 i6971 rec6973 m7045 m7048 m7051 m7058 m7062 m7063 m7064 credits7065 y7069 y7080 k) i6971 rec6973 m7045 m7048 m7051 m7058 m7062 m7063 m7064 credits7065 y7069 y7080
noncomputable def F_law30_ModelOnce_j1 (i6971 : Int) (rec6973 : FM62 → FM62 → FM62 → (List T_model_Entry) → (List Int) → Int → Int → Int → Int → Option Bool) (m7045 : FM62) (m7048 : FM62) (m7051 : FM62) (m7058 : List T_model_Entry) (m7062 : List Int) (m7063 : Int) (m7064 : Int) (credits7065 : Int) : Option Bool :=
  (F_model_Model_Entries (T_model_Model.mk m7045 m7048 m7051 m7058 m7062 m7063 m7064)).bind fun y7069 =>
  F_model_Model_Keys_K (T_model_Model.mk m7045 m7048 m7051 m7058 m7062 m7063 m7064) (fun y7080 =>
  F_law30_ModelOnce_L2 i6971 rec6973 m7045 m7048 m7051 m7058 m7062 m7063 m7064 credits7065 y7069 y7080 fuel0 0 0)
noncomputable def F_law30_ModelOnce_j6 (credits6970 : Int) (i6971 : Int) (rec6973 : FM62 → FM62 → FM62 → (List T_model_Entry) → (List Int) → Int → Int → Int → Int → Option Bool) (m7020 : FM62) (m7023 : FM62) (m7026 : FM62) (m7033 : List T_model_Entry) (m7037 : List Int) (m7038 : Int) (m7039 : Int) (t7040 : Bool) : Option Bool :=
  if t7040 = true then
  F_law30_ModelOnce_j1 i6971 rec6973 m7020 m7023 m7026 m7033 m7037 m7038 m7039 (IntKind.i64.wrap (credits6970 + 1))
  else
  F_law30_ModelOnce_j1 i6971 rec6973 m7020 m7023 m7026 m7033 m7037 m7038 m7039 credits6970
noncomputable def F_law30_ModelOnce_l1 (rec6973 : FM62 → FM62 → FM62 → (List T_model_Entry) → (List Int) → Int → Int → Int → Int → Option Bool) (lv1 : List T_model_Note) (m6950 : FM62) (m6953 : FM62) (m6956 : FM62) (m6963 : List T_model_Entry) (m6967 : List Int) (m6968 : Int) (m6969 : Int) (credits6970 : Int) (i6971 : Int) : Option Bool :=
  if (decide (i6971 < (lv1.length : Int))) = true then
  (gidx lv1 i6971).bind fun xv6980 =>
  (F_model_Model_Step (T_model_Model.mk m6950 m6953 m6956 m6963 m6967 m6968 m6969) xv6980).bind fun y6988 =>
  if (y6988.1 == 0) = true then
  (gidx lv1 i6971).bind fun xv7009 =>
  F_law30_ModelOnce_j6 credits6970 i6971 rec6973 y6988.2.f_forwarded y6988.2.f_cached y6988.2.f_lost y6988.2.f_entries y6988.2.f_line y6988.2.f_first y6988.2.f_boot (xv7009.f_Kind == 6)
  else
  F_law30_ModelOnce_j6 credits6970 i6971 rec6973 y6988.2.f_forwarded y6988.2.f_cached y6988.2.f_lost y6988.2.f_entries y6988.2.f_line y6988.2.f_first y6988.2.f_boot false
  else
  (F_law30_works).bind fun y10416 =>
  some y10416
noncomputable def F_law30_ModelOnce_L1 (lv1 : List T_model_Note) : Nat → FM62 → FM62 → FM62 → (List T_model_Entry) → (List Int) → Int → Int → Int → Int → Option Bool
  | 0 => fun _ _ _ _ _ _ _ _ _ => none
  | k + 1 => F_law30_ModelOnce_l1 (F_law30_ModelOnce_L1 lv1 k) lv1
noncomputable def F_law30_ModelOnce (lv1 : List T_model_Note) : Option Bool :=
  (F_law30_few lv1).bind fun y8 =>
  if (!y8) = true then
  (F_law30_works).bind fun y13 =>
  some y13
  else
  (F_model_New).bind fun y18 =>
  F_law30_ModelOnce_L1 lv1 fuel0 y18.f_forwarded y18.f_cached y18.f_lost y18.f_entries y18.f_line y18.f_first y18.f_boot 0 0
def F_model_Model_Span_N : Option (Int × Int) :=
  some (0, 0)
def F_model_Model_Step_N (nv1 : T_model_Note) : Option Int :=
  some 1
def F_model_Model_Of_N (kv1 : T_packet_Key) : Option T_model_Parts :=
  some (T_model_Parts.mk (T_flow_Total.mk 0 0) (T_flow_Total.mk 0 0) (T_flow_Total.mk 0 0) (T_flow_Total.mk 0 0) (T_flow_Total.mk 0 0) (T_flow_Total.mk 0 0))
def F_model_Model_Keys_N : Option ((List T_packet_Key)) :=
  some ([])
def F_model_Model_Entries_N : Option ((List T_model_Entry)) :=
  some ([])
def F_model_Model_Boot_N : Option Int :=
  some 0
def F_model_Model_Copy_N : Option Unit :=
  some ()
def F_law30_ModelNone_j1 (t59 : Bool) : Option Bool :=
  some t59
def F_law30_ModelNone (nv1 : T_model_Note) : Option Bool :=
  if (decide (10 < (nv1.f_Records.length : Int))) = true then
  (F_law30_works).bind fun y12 =>
  some y12
  else
  (F_model_Model_Span_N).bind fun y18 =>
  (F_model_Model_Step_N nv1).bind fun y22 =>
  if (y22 == 1) = true then
  (F_model_Model_Of_N nv1.f_Key).bind fun y26 =>
  if (q_model_Parts y26 (T_model_Parts.mk (T_flow_Total.mk 0 0) (T_flow_Total.mk 0 0) (T_flow_Total.mk 0 0) (T_flow_Total.mk 0 0) (T_flow_Total.mk 0 0) (T_flow_Total.mk 0 0))) = true then
  (F_model_Model_Keys_N).bind fun y30 =>
  if ((y30.length : Int) == 0) = true then
  (F_model_Model_Entries_N).bind fun y37 =>
  if ((y37.length : Int) == 0) = true then
  if (y18.1 == 0) = true then
  if (y18.2 == 0) = true then
  (F_model_Model_Boot_N).bind fun y47 =>
  if (y47 == 0) = true then
  (F_model_Model_Copy_N).bind fun y51 =>
  (F_law30_works).bind fun y55 =>
  F_law30_ModelNone_j1 y55
  else
  F_law30_ModelNone_j1 false
  else
  F_law30_ModelNone_j1 false
  else
  F_law30_ModelNone_j1 false
  else
  F_law30_ModelNone_j1 false
  else
  F_law30_ModelNone_j1 false
  else
  F_law30_ModelNone_j1 false
  else
  F_law30_ModelNone_j1 false
def F_model_Model_Span (m4 : T_model_Model) : Option (Int × Int) :=
  (F_model_Model_next m4).bind fun y21 =>
  some (m4.f_first, y21)
def F_math_bits_Len64_j3 (xv15 : Int) (nv16 : Int) : Option Int :=
  (gidxS (⟨#[0, 1, 2, 2, 3, 3, 3, 3, 4, 4, 4, 4, 4, 4, 4, 4, 5, 5, 5, 5, 5, 5, 5, 5, 5, 5, 5, 5, 5, 5, 5, 5, 6, 6, 6, 6, 6, 6, 6, 6, 6, 6, 6, 6, 6, 6, 6, 6, 6, 6, 6, 6, 6, 6, 6, 6, 6, 6, 6, 6, 6, 6, 6, 6, 7, 7, 7, 7, 7, 7, 7, 7, 7, 7, 7, 7, 7, 7, 7, 7, 7, 7, 7, 7, 7, 7, 7, 7, 7, 7, 7, 7, 7, 7, 7, 7, 7, 7, 7, 7, 7, 7, 7, 7, 7, 7, 7, 7, 7, 7, 7, 7, 7, 7, 7, 7, 7, 7, 7, 7, 7, 7, 7, 7, 7, 7, 7, 7, 8, 8, 8, 8, 8, 8, 8, 8, 8, 8, 8, 8, 8, 8, 8, 8, 8, 8, 8, 8, 8, 8, 8, 8, 8, 8, 8, 8, 8, 8, 8, 8, 8, 8, 8, 8, 8, 8, 8, 8, 8, 8, 8, 8, 8, 8, 8, 8, 8, 8, 8, 8, 8, 8, 8, 8, 8, 8, 8, 8, 8, 8, 8, 8, 8, 8, 8, 8, 8, 8, 8, 8, 8, 8, 8, 8, 8, 8, 8, 8, 8, 8, 8, 8, 8, 8, 8, 8, 8, 8, 8, 8, 8, 8, 8, 8, 8, 8, 8, 8, 8, 8, 8, 8, 8, 8, 8, 8, 8, 8, 8, 8, 8, 8, 8, 8, 8, 8, 8, 8, 8, 8, 8, 8, 8, 8, 8, 8]⟩ : ByteArray) (IntKind.u8.wrap xv15)).bind fun xv19 =>
  some (IntKind.i64.wrap (nv16 + (IntKind.i64.wrap xv19)))
def F_math_bits_Len64_j2 (xv10 : Int) (nv11 : Int) : Option Int :=
  if (decide (256 ≤ xv10)) = true then
  F_math_bits_Len64_j3 (Ox.shr .u64 xv10 8) (IntKind.i64.wrap (nv11 + 8))
  else
  F_math_bits_Len64_j3 xv10 nv11
def F_math_bits_Len64_j1 (xv5 : Int) (nv6 : Int) : Option Int :=
  if (decide (65536 ≤ xv5)) = true then
  F_math_bits_Len64_j2 (Ox.shr .u64 xv5 16) (IntKind.i64.wrap (nv6 + 16))
  else
  F_math_bits_Len64_j2 xv5 nv6
def F_math_bits_Len64 (xv1 : Int) : Option Int :=
  if (decide (4294967296 ≤ xv1)) = true then
  F_math_bits_Len64_j1 (Ox.shr .u64 xv1 32) 32
  else
  F_math_bits_Len64_j1 xv1 0
def F_math_bits_Len (xv1 : Int) : Option Int :=
  (F_math_bits_Len64 xv1).bind fun y5 =>
  some y5
def F_math_bits_Len32_j2 (xv10 : Int) (nv11 : Int) : Option Int :=
  (gidxS (⟨#[0, 1, 2, 2, 3, 3, 3, 3, 4, 4, 4, 4, 4, 4, 4, 4, 5, 5, 5, 5, 5, 5, 5, 5, 5, 5, 5, 5, 5, 5, 5, 5, 6, 6, 6, 6, 6, 6, 6, 6, 6, 6, 6, 6, 6, 6, 6, 6, 6, 6, 6, 6, 6, 6, 6, 6, 6, 6, 6, 6, 6, 6, 6, 6, 7, 7, 7, 7, 7, 7, 7, 7, 7, 7, 7, 7, 7, 7, 7, 7, 7, 7, 7, 7, 7, 7, 7, 7, 7, 7, 7, 7, 7, 7, 7, 7, 7, 7, 7, 7, 7, 7, 7, 7, 7, 7, 7, 7, 7, 7, 7, 7, 7, 7, 7, 7, 7, 7, 7, 7, 7, 7, 7, 7, 7, 7, 7, 7, 8, 8, 8, 8, 8, 8, 8, 8, 8, 8, 8, 8, 8, 8, 8, 8, 8, 8, 8, 8, 8, 8, 8, 8, 8, 8, 8, 8, 8, 8, 8, 8, 8, 8, 8, 8, 8, 8, 8, 8, 8, 8, 8, 8, 8, 8, 8, 8, 8, 8, 8, 8, 8, 8, 8, 8, 8, 8, 8, 8, 8, 8, 8, 8, 8, 8, 8, 8, 8, 8, 8, 8, 8, 8, 8, 8, 8, 8, 8, 8, 8, 8, 8, 8, 8, 8, 8, 8, 8, 8, 8, 8, 8, 8, 8, 8, 8, 8, 8, 8, 8, 8, 8, 8, 8, 8, 8, 8, 8, 8, 8, 8, 8, 8, 8, 8, 8, 8, 8, 8, 8, 8, 8, 8, 8, 8, 8, 8]⟩ : ByteArray) (IntKind.u8.wrap xv10)).bind fun xv14 =>
  some (IntKind.i64.wrap (nv11 + (IntKind.i64.wrap xv14)))
def F_math_bits_Len32_j1 (xv5 : Int) (nv6 : Int) : Option Int :=
  if (decide (256 ≤ xv5)) = true then
  F_math_bits_Len32_j2 (Ox.shr .u32 xv5 8) (IntKind.i64.wrap (nv6 + 8))
  else
  F_math_bits_Len32_j2 xv5 nv6
def F_math_bits_Len32 (xv1 : Int) : Option Int :=
  if (decide (65536 ≤ xv1)) = true then
  F_math_bits_Len32_j1 (Ox.shr .u32 xv1 16) 16
  else
  F_math_bits_Len32_j1 xv1 0
def F_slices_nextPowerOfTwo (length1 : Int) : Option Int :=
  (F_math_bits_Len (IntKind.u64.wrap length1)).bind fun y4 =>
  if (decide (¬ y4 < 0)) = true then
  some (Ox.shl .u64 1 y4)
  else none
def F_slices_xorshift_Next (rv1 : Int) : Option (Int × Int) :=
  some ((bits .xor .u64 (bits .xor .u64 (bits .xor .u64 rv1 (Ox.shl .u64 rv1 13)) (Ox.shr .u64 (bits .xor .u64 rv1 (Ox.shl .u64 rv1 13)) 7)) (Ox.shl .u64 (bits .xor .u64 (bits .xor .u64 rv1 (Ox.shl .u64 rv1 13)) (Ox.shr .u64 (bits .xor .u64 rv1 (Ox.shl .u64 rv1 13)) 7)) 17)), (bits .xor .u64 (bits .xor .u64 (bits .xor .u64 rv1 (Ox.shl .u64 rv1 13)) (Ox.shr .u64 (bits .xor .u64 rv1 (Ox.shl .u64 rv1 13)) 7)) (Ox.shl .u64 (bits .xor .u64 (bits .xor .u64 rv1 (Ox.shl .u64 rv1 13)) (Ox.shr .u64 (bits .xor .u64 rv1 (Ox.shl .u64 rv1 13)) 7)) 17)))
end Go.Proofs.Ytidbgejnkpoeeaa
