/- Plain functions, printed by a program of this claim: what each Go function computes, where it returns. -/
import Derived.Test.YteafnfoponjoeaaOxV
set_option linter.unusedVariables false
namespace Go.Proofs.Yteafnfoponjoeaa
open Go Go.Ox
structure T_addr_Addr where
  f_Six : Bool
  f_B : List Int
def e_addr_Addr (x : T_addr_Addr) : List Value := [.bool x.f_Six, .int .u8 (List.getD x.f_B 0 0), .int .u8 (List.getD x.f_B 1 0), .int .u8 (List.getD x.f_B 2 0), .int .u8 (List.getD x.f_B 3 0), .int .u8 (List.getD x.f_B 4 0), .int .u8 (List.getD x.f_B 5 0), .int .u8 (List.getD x.f_B 6 0), .int .u8 (List.getD x.f_B 7 0), .int .u8 (List.getD x.f_B 8 0), .int .u8 (List.getD x.f_B 9 0), .int .u8 (List.getD x.f_B 10 0), .int .u8 (List.getD x.f_B 11 0), .int .u8 (List.getD x.f_B 12 0), .int .u8 (List.getD x.f_B 13 0), .int .u8 (List.getD x.f_B 14 0), .int .u8 (List.getD x.f_B 15 0)]
structure T_packet_Key where
  f_Src : T_addr_Addr
  f_Dst : T_addr_Addr
  f_Proto : Int
  f_SrcPort : Int
  f_DstPort : Int
def e_packet_Key (x : T_packet_Key) : List Value := [.bool x.f_Src.f_Six, .int .u8 (List.getD x.f_Src.f_B 0 0), .int .u8 (List.getD x.f_Src.f_B 1 0), .int .u8 (List.getD x.f_Src.f_B 2 0), .int .u8 (List.getD x.f_Src.f_B 3 0), .int .u8 (List.getD x.f_Src.f_B 4 0), .int .u8 (List.getD x.f_Src.f_B 5 0), .int .u8 (List.getD x.f_Src.f_B 6 0), .int .u8 (List.getD x.f_Src.f_B 7 0), .int .u8 (List.getD x.f_Src.f_B 8 0), .int .u8 (List.getD x.f_Src.f_B 9 0), .int .u8 (List.getD x.f_Src.f_B 10 0), .int .u8 (List.getD x.f_Src.f_B 11 0), .int .u8 (List.getD x.f_Src.f_B 12 0), .int .u8 (List.getD x.f_Src.f_B 13 0), .int .u8 (List.getD x.f_Src.f_B 14 0), .int .u8 (List.getD x.f_Src.f_B 15 0), .bool x.f_Dst.f_Six, .int .u8 (List.getD x.f_Dst.f_B 0 0), .int .u8 (List.getD x.f_Dst.f_B 1 0), .int .u8 (List.getD x.f_Dst.f_B 2 0), .int .u8 (List.getD x.f_Dst.f_B 3 0), .int .u8 (List.getD x.f_Dst.f_B 4 0), .int .u8 (List.getD x.f_Dst.f_B 5 0), .int .u8 (List.getD x.f_Dst.f_B 6 0), .int .u8 (List.getD x.f_Dst.f_B 7 0), .int .u8 (List.getD x.f_Dst.f_B 8 0), .int .u8 (List.getD x.f_Dst.f_B 9 0), .int .u8 (List.getD x.f_Dst.f_B 10 0), .int .u8 (List.getD x.f_Dst.f_B 11 0), .int .u8 (List.getD x.f_Dst.f_B 12 0), .int .u8 (List.getD x.f_Dst.f_B 13 0), .int .u8 (List.getD x.f_Dst.f_B 14 0), .int .u8 (List.getD x.f_Dst.f_B 15 0), .int .u8 x.f_Proto, .int .u16 x.f_SrcPort, .int .u16 x.f_DstPort]
structure T_flow_Record where
  f_Key : T_packet_Key
  f_Packets : Int
  f_Bytes : Int
  f_First : Int
  f_Last : Int
  f_Flags : Int
  f_Reason : Int
  f_Class : Int
def e_flow_Record (x : T_flow_Record) : List Value := [.bool x.f_Key.f_Src.f_Six, .int .u8 (List.getD x.f_Key.f_Src.f_B 0 0), .int .u8 (List.getD x.f_Key.f_Src.f_B 1 0), .int .u8 (List.getD x.f_Key.f_Src.f_B 2 0), .int .u8 (List.getD x.f_Key.f_Src.f_B 3 0), .int .u8 (List.getD x.f_Key.f_Src.f_B 4 0), .int .u8 (List.getD x.f_Key.f_Src.f_B 5 0), .int .u8 (List.getD x.f_Key.f_Src.f_B 6 0), .int .u8 (List.getD x.f_Key.f_Src.f_B 7 0), .int .u8 (List.getD x.f_Key.f_Src.f_B 8 0), .int .u8 (List.getD x.f_Key.f_Src.f_B 9 0), .int .u8 (List.getD x.f_Key.f_Src.f_B 10 0), .int .u8 (List.getD x.f_Key.f_Src.f_B 11 0), .int .u8 (List.getD x.f_Key.f_Src.f_B 12 0), .int .u8 (List.getD x.f_Key.f_Src.f_B 13 0), .int .u8 (List.getD x.f_Key.f_Src.f_B 14 0), .int .u8 (List.getD x.f_Key.f_Src.f_B 15 0), .bool x.f_Key.f_Dst.f_Six, .int .u8 (List.getD x.f_Key.f_Dst.f_B 0 0), .int .u8 (List.getD x.f_Key.f_Dst.f_B 1 0), .int .u8 (List.getD x.f_Key.f_Dst.f_B 2 0), .int .u8 (List.getD x.f_Key.f_Dst.f_B 3 0), .int .u8 (List.getD x.f_Key.f_Dst.f_B 4 0), .int .u8 (List.getD x.f_Key.f_Dst.f_B 5 0), .int .u8 (List.getD x.f_Key.f_Dst.f_B 6 0), .int .u8 (List.getD x.f_Key.f_Dst.f_B 7 0), .int .u8 (List.getD x.f_Key.f_Dst.f_B 8 0), .int .u8 (List.getD x.f_Key.f_Dst.f_B 9 0), .int .u8 (List.getD x.f_Key.f_Dst.f_B 10 0), .int .u8 (List.getD x.f_Key.f_Dst.f_B 11 0), .int .u8 (List.getD x.f_Key.f_Dst.f_B 12 0), .int .u8 (List.getD x.f_Key.f_Dst.f_B 13 0), .int .u8 (List.getD x.f_Key.f_Dst.f_B 14 0), .int .u8 (List.getD x.f_Key.f_Dst.f_B 15 0), .int .u8 x.f_Key.f_Proto, .int .u16 x.f_Key.f_SrcPort, .int .u16 x.f_Key.f_DstPort, .int .u64 x.f_Packets, .int .u64 x.f_Bytes, .int .u64 x.f_First, .int .u64 x.f_Last, .int .u8 x.f_Flags, .int .u8 x.f_Reason, .int .u8 x.f_Class]
structure T_ref08_Key where
  f_Src : T_addr_Addr
  f_Dst : T_addr_Addr
  f_Proto : Int
  f_SrcPort : Int
  f_DstPort : Int
def e_ref08_Key (x : T_ref08_Key) : List Value := [.bool x.f_Src.f_Six, .int .u8 (List.getD x.f_Src.f_B 0 0), .int .u8 (List.getD x.f_Src.f_B 1 0), .int .u8 (List.getD x.f_Src.f_B 2 0), .int .u8 (List.getD x.f_Src.f_B 3 0), .int .u8 (List.getD x.f_Src.f_B 4 0), .int .u8 (List.getD x.f_Src.f_B 5 0), .int .u8 (List.getD x.f_Src.f_B 6 0), .int .u8 (List.getD x.f_Src.f_B 7 0), .int .u8 (List.getD x.f_Src.f_B 8 0), .int .u8 (List.getD x.f_Src.f_B 9 0), .int .u8 (List.getD x.f_Src.f_B 10 0), .int .u8 (List.getD x.f_Src.f_B 11 0), .int .u8 (List.getD x.f_Src.f_B 12 0), .int .u8 (List.getD x.f_Src.f_B 13 0), .int .u8 (List.getD x.f_Src.f_B 14 0), .int .u8 (List.getD x.f_Src.f_B 15 0), .bool x.f_Dst.f_Six, .int .u8 (List.getD x.f_Dst.f_B 0 0), .int .u8 (List.getD x.f_Dst.f_B 1 0), .int .u8 (List.getD x.f_Dst.f_B 2 0), .int .u8 (List.getD x.f_Dst.f_B 3 0), .int .u8 (List.getD x.f_Dst.f_B 4 0), .int .u8 (List.getD x.f_Dst.f_B 5 0), .int .u8 (List.getD x.f_Dst.f_B 6 0), .int .u8 (List.getD x.f_Dst.f_B 7 0), .int .u8 (List.getD x.f_Dst.f_B 8 0), .int .u8 (List.getD x.f_Dst.f_B 9 0), .int .u8 (List.getD x.f_Dst.f_B 10 0), .int .u8 (List.getD x.f_Dst.f_B 11 0), .int .u8 (List.getD x.f_Dst.f_B 12 0), .int .u8 (List.getD x.f_Dst.f_B 13 0), .int .u8 (List.getD x.f_Dst.f_B 14 0), .int .u8 (List.getD x.f_Dst.f_B 15 0), .int .u8 x.f_Proto, .int .u16 x.f_SrcPort, .int .u16 x.f_DstPort]
structure T_ref22_Record where
  f_Key : T_ref08_Key
  f_Packets : Int
  f_Bytes : Int
  f_First : Int
  f_Last : Int
  f_Flags : Int
  f_Reason : Int
  f_Class : Int
def e_ref22_Record (x : T_ref22_Record) : List Value := [.bool x.f_Key.f_Src.f_Six, .int .u8 (List.getD x.f_Key.f_Src.f_B 0 0), .int .u8 (List.getD x.f_Key.f_Src.f_B 1 0), .int .u8 (List.getD x.f_Key.f_Src.f_B 2 0), .int .u8 (List.getD x.f_Key.f_Src.f_B 3 0), .int .u8 (List.getD x.f_Key.f_Src.f_B 4 0), .int .u8 (List.getD x.f_Key.f_Src.f_B 5 0), .int .u8 (List.getD x.f_Key.f_Src.f_B 6 0), .int .u8 (List.getD x.f_Key.f_Src.f_B 7 0), .int .u8 (List.getD x.f_Key.f_Src.f_B 8 0), .int .u8 (List.getD x.f_Key.f_Src.f_B 9 0), .int .u8 (List.getD x.f_Key.f_Src.f_B 10 0), .int .u8 (List.getD x.f_Key.f_Src.f_B 11 0), .int .u8 (List.getD x.f_Key.f_Src.f_B 12 0), .int .u8 (List.getD x.f_Key.f_Src.f_B 13 0), .int .u8 (List.getD x.f_Key.f_Src.f_B 14 0), .int .u8 (List.getD x.f_Key.f_Src.f_B 15 0), .bool x.f_Key.f_Dst.f_Six, .int .u8 (List.getD x.f_Key.f_Dst.f_B 0 0), .int .u8 (List.getD x.f_Key.f_Dst.f_B 1 0), .int .u8 (List.getD x.f_Key.f_Dst.f_B 2 0), .int .u8 (List.getD x.f_Key.f_Dst.f_B 3 0), .int .u8 (List.getD x.f_Key.f_Dst.f_B 4 0), .int .u8 (List.getD x.f_Key.f_Dst.f_B 5 0), .int .u8 (List.getD x.f_Key.f_Dst.f_B 6 0), .int .u8 (List.getD x.f_Key.f_Dst.f_B 7 0), .int .u8 (List.getD x.f_Key.f_Dst.f_B 8 0), .int .u8 (List.getD x.f_Key.f_Dst.f_B 9 0), .int .u8 (List.getD x.f_Key.f_Dst.f_B 10 0), .int .u8 (List.getD x.f_Key.f_Dst.f_B 11 0), .int .u8 (List.getD x.f_Key.f_Dst.f_B 12 0), .int .u8 (List.getD x.f_Key.f_Dst.f_B 13 0), .int .u8 (List.getD x.f_Key.f_Dst.f_B 14 0), .int .u8 (List.getD x.f_Key.f_Dst.f_B 15 0), .int .u8 x.f_Key.f_Proto, .int .u16 x.f_Key.f_SrcPort, .int .u16 x.f_Key.f_DstPort, .int .u64 x.f_Packets, .int .u64 x.f_Bytes, .int .u64 x.f_First, .int .u64 x.f_Last, .int .u8 x.f_Flags, .int .u8 x.f_Reason, .int .u8 x.f_Class]
structure T_ref18_Value where
  f_N : Int
  f_B : ByteArray
def e_ref18_Value (x : T_ref18_Value) : List Value := [.int .u64 x.f_N, .string x.f_B]
structure T_field_Value where
  f_N : Int
  f_B : List Int
structure T_field_Spec where
  f_ID : Int
  f_PEN : Int
  f_Len : Int
def e_field_Spec (x : T_field_Spec) : List Value := [.int .u16 x.f_ID, .int .u32 x.f_PEN, .int .u16 x.f_Len]
structure T_packet_Packet where
  f_Key : T_packet_Key
  f_Length : Int
  f_Flags : Int
  f_Fragment : Bool
def e_packet_Packet (x : T_packet_Packet) : List Value := [.bool x.f_Key.f_Src.f_Six, .int .u8 (List.getD x.f_Key.f_Src.f_B 0 0), .int .u8 (List.getD x.f_Key.f_Src.f_B 1 0), .int .u8 (List.getD x.f_Key.f_Src.f_B 2 0), .int .u8 (List.getD x.f_Key.f_Src.f_B 3 0), .int .u8 (List.getD x.f_Key.f_Src.f_B 4 0), .int .u8 (List.getD x.f_Key.f_Src.f_B 5 0), .int .u8 (List.getD x.f_Key.f_Src.f_B 6 0), .int .u8 (List.getD x.f_Key.f_Src.f_B 7 0), .int .u8 (List.getD x.f_Key.f_Src.f_B 8 0), .int .u8 (List.getD x.f_Key.f_Src.f_B 9 0), .int .u8 (List.getD x.f_Key.f_Src.f_B 10 0), .int .u8 (List.getD x.f_Key.f_Src.f_B 11 0), .int .u8 (List.getD x.f_Key.f_Src.f_B 12 0), .int .u8 (List.getD x.f_Key.f_Src.f_B 13 0), .int .u8 (List.getD x.f_Key.f_Src.f_B 14 0), .int .u8 (List.getD x.f_Key.f_Src.f_B 15 0), .bool x.f_Key.f_Dst.f_Six, .int .u8 (List.getD x.f_Key.f_Dst.f_B 0 0), .int .u8 (List.getD x.f_Key.f_Dst.f_B 1 0), .int .u8 (List.getD x.f_Key.f_Dst.f_B 2 0), .int .u8 (List.getD x.f_Key.f_Dst.f_B 3 0), .int .u8 (List.getD x.f_Key.f_Dst.f_B 4 0), .int .u8 (List.getD x.f_Key.f_Dst.f_B 5 0), .int .u8 (List.getD x.f_Key.f_Dst.f_B 6 0), .int .u8 (List.getD x.f_Key.f_Dst.f_B 7 0), .int .u8 (List.getD x.f_Key.f_Dst.f_B 8 0), .int .u8 (List.getD x.f_Key.f_Dst.f_B 9 0), .int .u8 (List.getD x.f_Key.f_Dst.f_B 10 0), .int .u8 (List.getD x.f_Key.f_Dst.f_B 11 0), .int .u8 (List.getD x.f_Key.f_Dst.f_B 12 0), .int .u8 (List.getD x.f_Key.f_Dst.f_B 13 0), .int .u8 (List.getD x.f_Key.f_Dst.f_B 14 0), .int .u8 (List.getD x.f_Key.f_Dst.f_B 15 0), .int .u8 x.f_Key.f_Proto, .int .u16 x.f_Key.f_SrcPort, .int .u16 x.f_Key.f_DstPort, .int .i64 x.f_Length, .int .u8 x.f_Flags, .bool x.f_Fragment]
structure T_flow_Total where
  f_Packets : Int
  f_Bytes : Int
def e_flow_Total (x : T_flow_Total) : List Value := [.int .u64 x.f_Packets, .int .u64 x.f_Bytes]
def q_addr_Addr (x y : T_addr_Addr) : Bool := ((x.f_Six == y.f_Six) && ((arrEq 16 x.f_B y.f_B) && true))
def q_packet_Key (x y : T_packet_Key) : Bool := ((q_addr_Addr x.f_Src y.f_Src) && ((q_addr_Addr x.f_Dst y.f_Dst) && ((x.f_Proto == y.f_Proto) && ((x.f_SrcPort == y.f_SrcPort) && ((x.f_DstPort == y.f_DstPort) && true)))))
def q_ref18_Value (x y : T_ref18_Value) : Bool := ((x.f_N == y.f_N) && ((x.f_B.toList == y.f_B.toList) && true))
def q_field_Spec (x y : T_field_Spec) : Bool := ((x.f_ID == y.f_ID) && ((x.f_PEN == y.f_PEN) && ((x.f_Len == y.f_Len) && true)))
def q_flow_Record (x y : T_flow_Record) : Bool := ((q_packet_Key x.f_Key y.f_Key) && ((x.f_Packets == y.f_Packets) && ((x.f_Bytes == y.f_Bytes) && ((x.f_First == y.f_First) && ((x.f_Last == y.f_Last) && ((x.f_Flags == y.f_Flags) && ((x.f_Reason == y.f_Reason) && ((x.f_Class == y.f_Class) && true))))))))
def q_flow_Total (x y : T_flow_Total) : Bool := ((x.f_Packets == y.f_Packets) && ((x.f_Bytes == y.f_Bytes) && true))
def F_docs_Addr (av1 : T_addr_Addr) : Option T_addr_Addr :=
  some av1
def F_docs_Key (kv1 : T_packet_Key) : Option T_ref08_Key :=
  (F_docs_Addr kv1.f_Src).bind fun y8 =>
  (F_docs_Addr kv1.f_Dst).bind fun y12 =>
  some (T_ref08_Key.mk y8 y12 kv1.f_Proto kv1.f_SrcPort kv1.f_DstPort)
def F_docs_Record (rv1 : T_flow_Record) : Option T_ref22_Record :=
  (F_docs_Key rv1.f_Key).bind fun y8 =>
  some (T_ref22_Record.mk y8 rv1.f_Packets rv1.f_Bytes rv1.f_First rv1.f_Last rv1.f_Flags rv1.f_Reason rv1.f_Class)
def F_ref04_Right_j1 (i18 : Int) (rec20 : Int → Option Bool) (t25 : Bool) : Option Bool :=
  if t25 = true then
  some false
  else
  rec20 (IntKind.i64.wrap (i18 + 1))
def F_ref04_Right_l1 (rec20 : Int → Option Bool) (av1 : T_addr_Addr) (i18 : Int) : Option Bool :=
  if (decide (i18 < 16)) = true then
  if (!av1.f_Six) = true then
  (gidxA 16 av1.f_B i18).bind fun xv23 =>
  F_ref04_Right_j1 i18 rec20 (xv23 != 0)
  else
  F_ref04_Right_j1 i18 rec20 false
  else
  some true
def F_ref04_Right_L1 (av1 : T_addr_Addr) : Nat → Int → Option Bool
  | 0 => fun _ => none
  | k + 1 => F_ref04_Right_l1 (F_ref04_Right_L1 av1 k) av1
def F_ref04_Right (av1 : T_addr_Addr) : Option Bool :=
  F_ref04_Right_L1 av1 fuel0 4
def F_ref08_ports_j1 (t2 : Bool) : Option Bool :=
  some t2
def F_ref08_ports (proto1 : Int) : Option Bool :=
  if (proto1 == 6) = true then
  F_ref08_ports_j1 true
  else
  F_ref08_ports_j1 (proto1 == 17)
def F_ref08_icmp_j1 (t2 : Bool) : Option Bool :=
  some t2
def F_ref08_icmp (proto1 : Int) : Option Bool :=
  if (proto1 == 1) = true then
  F_ref08_icmp_j1 true
  else
  F_ref08_icmp_j1 (proto1 == 58)
def F_ref08_Right_j2 (t24 : Bool) : Option Bool :=
  some t24
def F_ref08_Right_j1 (kv1 : T_ref08_Key) (t14 : Bool) : Option Bool :=
  if t14 = true then
  some false
  else
  (F_ref08_ports kv1.f_Proto).bind fun y16 =>
  if y16 = true then
  F_ref08_Right_j2 true
  else
  if (kv1.f_SrcPort == 0) = true then
  (F_ref08_icmp kv1.f_Proto).bind fun y20 =>
  if y20 = true then
  F_ref08_Right_j2 true
  else
  F_ref08_Right_j2 (kv1.f_DstPort == 0)
  else
  F_ref08_Right_j2 false
def F_ref08_Right (kv1 : T_ref08_Key) : Option Bool :=
  (F_ref04_Right kv1.f_Src).bind fun y5 =>
  if (!y5) = true then
  F_ref08_Right_j1 kv1 true
  else
  (F_ref04_Right kv1.f_Dst).bind fun y9 =>
  if (!y9) = true then
  F_ref08_Right_j1 kv1 true
  else
  F_ref08_Right_j1 kv1 (!(kv1.f_Src.f_Six == kv1.f_Dst.f_Six))
def F_ref22_Right_j1 (t9 : Bool) : Option Bool :=
  some t9
def F_ref22_Right (rv1 : T_ref22_Record) : Option Bool :=
  (F_ref08_Right rv1.f_Key).bind fun y5 =>
  if y5 = true then
  if (decide (1 ≤ rv1.f_Packets)) = true then
  if (decide (rv1.f_First ≤ rv1.f_Last)) = true then
  if (decide (1 ≤ rv1.f_Reason)) = true then
  F_ref22_Right_j1 (decide (rv1.f_Reason ≤ 5))
  else
  F_ref22_Right_j1 false
  else
  F_ref22_Right_j1 false
  else
  F_ref22_Right_j1 false
  else
  F_ref22_Right_j1 false
def F_ref04_size (six1 : Bool) : Option Int :=
  if six1 = true then
  some 16
  else
  some 4
def F_ref04_Bytes_l1 (rec46 : (List Int) → Int → Option ((List Int))) (av1 : T_addr_Addr) (out43 : List Int) (i44 : Int) : Option ((List Int)) :=
  (F_ref04_size av1.f_Six).bind fun y48 =>
  if (decide (i44 < y48)) = true then
  (gidxA 16 av1.f_B i44).bind fun xv53 =>
  if (decide (out43.length + ([xv53]).length ≤ lim)) = true then
  rec46 (out43 ++ [xv53]) (IntKind.i64.wrap (i44 + 1))
  else none
  else
  some out43
def F_ref04_Bytes_L1 (av1 : T_addr_Addr) : Nat → (List Int) → Int → Option ((List Int))
  | 0 => fun _ _ => none
  | k + 1 => F_ref04_Bytes_l1 (F_ref04_Bytes_L1 av1 k) av1
def F_ref04_Bytes (av1 : T_addr_Addr) : Option ((List Int)) :=
  F_ref04_Bytes_L1 av1 fuel0 ([]) 0
def F_ref22_Values_l1 (rec64 : (List T_ref18_Value) → Int → Option ((List T_ref18_Value) × Int)) (rv1 : T_ref22_Record) (out61 : List T_ref18_Value) (i62 : Int) : Option ((List T_ref18_Value) × Int) :=
  if (decide (i62 < (([(IntKind.u64.wrap rv1.f_Key.f_Proto), (IntKind.u64.wrap rv1.f_Key.f_SrcPort), (IntKind.u64.wrap rv1.f_Key.f_DstPort), rv1.f_Bytes, rv1.f_Packets, rv1.f_First, rv1.f_Last, (IntKind.u64.wrap rv1.f_Flags), (IntKind.u64.wrap rv1.f_Reason), (IntKind.u64.wrap rv1.f_Class)]).length : Int))) = true then
  (gidx ([(IntKind.u64.wrap rv1.f_Key.f_Proto), (IntKind.u64.wrap rv1.f_Key.f_SrcPort), (IntKind.u64.wrap rv1.f_Key.f_DstPort), rv1.f_Bytes, rv1.f_Packets, rv1.f_First, rv1.f_Last, (IntKind.u64.wrap rv1.f_Flags), (IntKind.u64.wrap rv1.f_Reason), (IntKind.u64.wrap rv1.f_Class)]) i62).bind fun xv68 =>
  if (decide (out61.length + ([(T_ref18_Value.mk xv68 ByteArray.empty)]).length ≤ lim)) = true then
  rec64 (out61 ++ [(T_ref18_Value.mk xv68 ByteArray.empty)]) (IntKind.i64.wrap (i62 + 1))
  else none
  else
  some (out61, 0)
def F_ref22_Values_L1 (rv1 : T_ref22_Record) : Nat → (List T_ref18_Value) → Int → Option ((List T_ref18_Value) × Int)
  | 0 => fun _ _ => none
  | k + 1 => F_ref22_Values_l1 (F_ref22_Values_L1 rv1 k) rv1
def F_ref22_Values (rv1 : T_ref22_Record) : Option ((List T_ref18_Value) × Int) :=
  (F_ref22_Right rv1).bind fun y5 =>
  if (!y5) = true then
  some ([], 2)
  else
  (F_ref04_Bytes rv1.f_Key.f_Src).bind fun y12 =>
  (F_ref04_Bytes rv1.f_Key.f_Dst).bind fun y19 =>
  F_ref22_Values_L1 rv1 fuel0 ([(T_ref18_Value.mk 0 (strOfNums y12)), (T_ref18_Value.mk 0 (strOfNums y19))]) 0
def F_packet_ports_j1 (t2 : Bool) : Option Bool :=
  some t2
def F_packet_ports (proto1 : Int) : Option Bool :=
  if (proto1 == 6) = true then
  F_packet_ports_j1 true
  else
  F_packet_ports_j1 (proto1 == 17)
def F_packet_icmp_j1 (t2 : Bool) : Option Bool :=
  some t2
def F_packet_icmp (proto1 : Int) : Option Bool :=
  if (proto1 == 1) = true then
  F_packet_icmp_j1 true
  else
  F_packet_icmp_j1 (proto1 == 58)
def F_addr_Addr_size (av1 : T_addr_Addr) : Option Int :=
  if av1.f_Six = true then
  some 16
  else
  some 4
def F_addr_Addr_Right (av1 : T_addr_Addr) : Option Bool :=
  (F_addr_Addr_size av1).bind fun y9 =>
  (gcut (arrL 16 (List.replicate 16 0)) 0 y9).bind fun cut14 =>
  some (arrEq 16 av1.f_B (cpA 16 (Nat.min (arrL 16 av1.f_B).length cut14.length) (List.replicate 16 0) (arrL 16 av1.f_B)))
def F_packet_Key_Right_j2 (t32 : Bool) : Option Bool :=
  some t32
def F_packet_Key_Right_j1 (kv1 : T_packet_Key) (plain21 : Int) (plain22 : Int) : Option Bool :=
  (F_addr_Addr_Right kv1.f_Src).bind fun y24 =>
  if y24 = true then
  (F_addr_Addr_Right kv1.f_Dst).bind fun y28 =>
  if y28 = true then
  if (kv1.f_Src.f_Six == kv1.f_Dst.f_Six) = true then
  F_packet_Key_Right_j2 (q_packet_Key kv1 (T_packet_Key.mk kv1.f_Src kv1.f_Dst kv1.f_Proto plain21 plain22))
  else
  F_packet_Key_Right_j2 false
  else
  F_packet_Key_Right_j2 false
  else
  F_packet_Key_Right_j2 false
def F_packet_Key_Right (kv1 : T_packet_Key) : Option Bool :=
  (F_packet_ports kv1.f_Proto).bind fun y9 =>
  if (!y9) = true then
  (F_packet_icmp kv1.f_Proto).bind fun y14 =>
  if (!y14) = true then
  F_packet_Key_Right_j1 kv1 0 0
  else
  F_packet_Key_Right_j1 kv1 0 kv1.f_DstPort
  else
  F_packet_Key_Right_j1 kv1 kv1.f_SrcPort kv1.f_DstPort
def F_flow_Record_Right_j1 (t9 : Bool) : Option Bool :=
  some t9
def F_flow_Record_Right (rv1 : T_flow_Record) : Option Bool :=
  (F_packet_Key_Right rv1.f_Key).bind fun y5 =>
  if y5 = true then
  if (decide (0 < rv1.f_Packets)) = true then
  if (decide (rv1.f_First ≤ rv1.f_Last)) = true then
  if (decide (1 ≤ rv1.f_Reason)) = true then
  F_flow_Record_Right_j1 (decide (rv1.f_Reason ≤ 5))
  else
  F_flow_Record_Right_j1 false
  else
  F_flow_Record_Right_j1 false
  else
  F_flow_Record_Right_j1 false
  else
  F_flow_Record_Right_j1 false
def F_bytes_Clone (b1 : List Int) : Option ((List Int)) :=
  if (decide (([] : List Int).length + b1.length ≤ lim)) = true then
  some (([] : List Int) ++ b1)
  else none
def F_addr_Addr_Bytes (av1 : T_addr_Addr) : Option ((List Int)) :=
  (F_addr_Addr_size av1).bind fun y5 =>
  (gcut (arrL 16 av1.f_B) 0 y5).bind fun cut10 =>
  (F_bytes_Clone cut10).bind fun y12 =>
  some y12
def F_flow_Values_l1 (rec81 : (List T_field_Value) → Int → Option ((List T_field_Value) × Int)) (rv1 : T_flow_Record) (lv78 : List T_field_Value) (t79 : Int) : Option ((List T_field_Value) × Int) :=
  if (decide (t79 < 10)) = true then
  (gidxA 10 ([(IntKind.u64.wrap rv1.f_Key.f_Proto), (IntKind.u64.wrap rv1.f_Key.f_SrcPort), (IntKind.u64.wrap rv1.f_Key.f_DstPort), rv1.f_Bytes, rv1.f_Packets, rv1.f_First, rv1.f_Last, (IntKind.u64.wrap rv1.f_Flags), (IntKind.u64.wrap rv1.f_Reason), (IntKind.u64.wrap rv1.f_Class)]) t79).bind fun xv83 =>
  if (decide (lv78.length + ([(T_field_Value.mk xv83 ([]))]).length ≤ lim)) = true then
  rec81 (lv78 ++ [(T_field_Value.mk xv83 ([]))]) (IntKind.i64.wrap (t79 + 1))
  else none
  else
  some (lv78, 0)
def F_flow_Values_L1 (rv1 : T_flow_Record) : Nat → (List T_field_Value) → Int → Option ((List T_field_Value) × Int)
  | 0 => fun _ _ => none
  | k + 1 => F_flow_Values_l1 (F_flow_Values_L1 rv1 k) rv1
def F_flow_Values (rv1 : T_flow_Record) : Option ((List T_field_Value) × Int) :=
  (F_flow_Record_Right rv1).bind fun y5 =>
  if (!y5) = true then
  some ([], 2)
  else
  (F_addr_Addr_Bytes rv1.f_Key.f_Src).bind fun y10 =>
  (F_addr_Addr_Bytes rv1.f_Key.f_Dst).bind fun y17 =>
  F_flow_Values_L1 rv1 fuel0 ([(T_field_Value.mk 0 y10), (T_field_Value.mk 0 y17)]) 0
def F_flow_Specs_j1 (lv11 : List T_field_Spec) : Option ((List T_field_Spec)) :=
  if (decide (lv11.length + ([(T_field_Spec.mk 4 0 1), (T_field_Spec.mk 7 0 2), (T_field_Spec.mk 11 0 2), (T_field_Spec.mk 1 0 8), (T_field_Spec.mk 2 0 8), (T_field_Spec.mk 152 0 8), (T_field_Spec.mk 153 0 8), (T_field_Spec.mk 6 0 1), (T_field_Spec.mk 136 0 1), (T_field_Spec.mk 1 32473 1)]).length ≤ lim)) = true then
  some (lv11 ++ [(T_field_Spec.mk 4 0 1), (T_field_Spec.mk 7 0 2), (T_field_Spec.mk 11 0 2), (T_field_Spec.mk 1 0 8), (T_field_Spec.mk 2 0 8), (T_field_Spec.mk 152 0 8), (T_field_Spec.mk 153 0 8), (T_field_Spec.mk 6 0 1), (T_field_Spec.mk 136 0 1), (T_field_Spec.mk 1 32473 1)])
  else none
def F_flow_Specs (long1 : Bool) : Option ((List T_field_Spec)) :=
  if long1 = true then
  F_flow_Specs_j1 ([(T_field_Spec.mk 27 0 16), (T_field_Spec.mk 28 0 16)])
  else
  F_flow_Specs_j1 ([(T_field_Spec.mk 8 0 4), (T_field_Spec.mk 12 0 4)])
def F_docs_FieldValue (v1 : T_field_Value) : Option T_ref18_Value :=
  some (T_ref18_Value.mk v1.f_N (strOfNums v1.f_B))
def F_docs_SameValues_l1 (rec46 : Int → Option Bool) (lv1 : List T_field_Value) (rv5 : List T_ref18_Value) (i44 : Int) : Option Bool :=
  if (decide (i44 < (lv1.length : Int))) = true then
  (gidx lv1 i44).bind fun xv50 =>
  (gidx rv5 i44).bind fun xv60 =>
  (F_docs_FieldValue xv50).bind fun y61 =>
  if (!(q_ref18_Value y61 xv60)) = true then
  some false
  else
  rec46 (IntKind.i64.wrap (i44 + 1))
  else
  some true
def F_docs_SameValues_L1 (lv1 : List T_field_Value) (rv5 : List T_ref18_Value) : Nat → Int → Option Bool
  | 0 => fun _ => none
  | k + 1 => F_docs_SameValues_l1 (F_docs_SameValues_L1 lv1 rv5 k) lv1 rv5
def F_docs_SameValues (lv1 : List T_field_Value) (rv5 : List T_ref18_Value) : Option Bool :=
  if ((lv1.length : Int) != (rv5.length : Int)) = true then
  some false
  else
  F_docs_SameValues_L1 lv1 rv5 fuel0 0
def F_ref22_Specs_j1 (lv11 : List T_field_Spec) : Option ((List T_field_Spec)) :=
  if (decide (lv11.length + ([(T_field_Spec.mk 4 0 1), (T_field_Spec.mk 7 0 2), (T_field_Spec.mk 11 0 2), (T_field_Spec.mk 1 0 8), (T_field_Spec.mk 2 0 8), (T_field_Spec.mk 152 0 8), (T_field_Spec.mk 153 0 8), (T_field_Spec.mk 6 0 1), (T_field_Spec.mk 136 0 1), (T_field_Spec.mk 1 32473 1)]).length ≤ lim)) = true then
  some (lv11 ++ [(T_field_Spec.mk 4 0 1), (T_field_Spec.mk 7 0 2), (T_field_Spec.mk 11 0 2), (T_field_Spec.mk 1 0 8), (T_field_Spec.mk 2 0 8), (T_field_Spec.mk 152 0 8), (T_field_Spec.mk 153 0 8), (T_field_Spec.mk 6 0 1), (T_field_Spec.mk 136 0 1), (T_field_Spec.mk 1 32473 1)])
  else none
def F_ref22_Specs (six1 : Bool) : Option ((List T_field_Spec)) :=
  if six1 = true then
  F_ref22_Specs_j1 ([(T_field_Spec.mk 27 0 16), (T_field_Spec.mk 28 0 16)])
  else
  F_ref22_Specs_j1 ([(T_field_Spec.mk 8 0 4), (T_field_Spec.mk 12 0 4)])
def F_docs_FieldSpec (s1 : T_field_Spec) : Option T_field_Spec :=
  some s1
def F_docs_SameSpecs_l1 (rec32 : Int → Option Bool) (lv1 : List T_field_Spec) (rv5 : List T_field_Spec) (i30 : Int) : Option Bool :=
  if (decide (i30 < (lv1.length : Int))) = true then
  (gidx lv1 i30).bind fun xv36 =>
  (gidx rv5 i30).bind fun xv39 =>
  (F_docs_FieldSpec xv36).bind fun y40 =>
  if (!(q_field_Spec y40 xv39)) = true then
  some false
  else
  rec32 (IntKind.i64.wrap (i30 + 1))
  else
  some true
def F_docs_SameSpecs_L1 (lv1 : List T_field_Spec) (rv5 : List T_field_Spec) : Nat → Int → Option Bool
  | 0 => fun _ => none
  | k + 1 => F_docs_SameSpecs_l1 (F_docs_SameSpecs_L1 lv1 rv5 k) lv1 rv5
def F_docs_SameSpecs (lv1 : List T_field_Spec) (rv5 : List T_field_Spec) : Option Bool :=
  if ((lv1.length : Int) != (rv5.length : Int)) = true then
  some false
  else
  F_docs_SameSpecs_L1 lv1 rv5 fuel0 0
def F_kit_Spoil_l1 (rec25 : (List Int) → Int → Option ((List Int))) (p21 : List Int) (i23 : Int) : Option ((List Int)) :=
  if (decide (i23 < (p21.length : Int))) = true then
  (gidx p21 i23).bind fun xv29 =>
  rec25 (p21.set (i23).toNat 165) (IntKind.i64.wrap (i23 + 1))
  else
  some p21
def F_kit_Spoil_L1 : Nat → (List Int) → Int → Option ((List Int))
  | 0 => fun _ _ => none
  | k + 1 => F_kit_Spoil_l1 (F_kit_Spoil_L1 k)
def F_kit_Spoil (b1 : List Int) : Option ((List Int)) :=
  F_kit_Spoil_L1 fuel0 b1 0
def F_flow_Number (long1 : Bool) : Option Int :=
  if long1 = true then
  some 257
  else
  some 256
def F_ref22_Number (six1 : Bool) : Option Int :=
  if six1 = true then
  some 257
  else
  some 256
def F_flow_Start (kv1 : T_packet_Key) (class2 : Int) (tick3 : Int) : Option T_flow_Record :=
  some (T_flow_Record.mk kv1 0 0 tick3 tick3 0 0 class2)
def F_flow_Record_Total (rv1 : T_flow_Record) : Option T_flow_Total :=
  some (T_flow_Total.mk rv1.f_Packets rv1.f_Bytes)
def F_flow_plus (av1 : Int) (b2 : Int) : Option Int :=
  if (decide (0 < (hi64 av1 b2))) = true then
  some 18446744073709551615
  else
  some (lo64 av1 b2)
def F_flow_Total_Plus (t1 : T_flow_Total) (u2 : T_flow_Total) : Option T_flow_Total :=
  (F_flow_plus t1.f_Packets u2.f_Packets).bind fun y12 =>
  (F_flow_plus t1.f_Bytes u2.f_Bytes).bind fun y16 =>
  some (T_flow_Total.mk y12 y16)
def F_flow_Record_With_j2 (rv1 : T_flow_Record) (p2 : T_packet_Packet) (tick3 : Int) (t50 : Int) (t51 : Int) : Option T_flow_Record :=
  some (T_flow_Record.mk rv1.f_Key t50 t51 rv1.f_First (gmax rv1.f_Last tick3) (bits .or .u8 rv1.f_Flags p2.f_Flags) rv1.f_Reason rv1.f_Class)
def F_flow_Record_With_j1 (rv1 : T_flow_Record) (p2 : T_packet_Packet) (tick3 : Int) (t50 : Int) (t51 : Int) : Option T_flow_Record :=
  F_flow_Record_With_j2 rv1 p2 tick3 t50 t51
def F_flow_Record_With (rv1 : T_flow_Record) (p2 : T_packet_Packet) (tick3 : Int) : Option T_flow_Record :=
  (F_flow_Record_Total rv1).bind fun y13 =>
  (F_flow_Total_Plus y13 (T_flow_Total.mk 1 (IntKind.u64.wrap (gmax 0 p2.f_Length)))).bind fun y17 =>
  F_flow_Record_With_j1 rv1 p2 tick3 y17.f_Packets y17.f_Bytes
def F_law22_works_j2 (t74 : Bool) : Option Bool :=
  some t74
def F_law22_works_j1 (y1 : (List T_field_Spec)) (y8 : (List T_field_Spec)) (nv40 : Int) (m41 : Int) (i44 : Int) (rec46 : Int → Int → Int → Option Bool) (t50 : Bool) : Option Bool :=
  if t50 = true then
  (gidx y1 i44).bind fun xv54 =>
  (gidx y8 i44).bind fun xv57 =>
  rec46 (IntKind.i64.wrap (nv40 + (IntKind.i64.wrap xv54.f_Len))) (IntKind.i64.wrap (m41 + (IntKind.i64.wrap xv57.f_Len))) (IntKind.i64.wrap (i44 + 1))
  else
  (F_flow_Start (T_packet_Key.mk (T_addr_Addr.mk false (List.replicate 16 0)) (T_addr_Addr.mk false (List.replicate 16 0)) 0 0 0) 2 5).bind fun y58 =>
  (F_flow_Record_With y58 (T_packet_Packet.mk (T_packet_Key.mk (T_addr_Addr.mk false (List.replicate 16 0)) (T_addr_Addr.mk false (List.replicate 16 0)) 0 0 0) 40 2 false) 9).bind fun y62 =>
  if (nv40 == 48) = true then
  if (m41 == 72) = true then
  if (q_flow_Record y62 (T_flow_Record.mk (T_packet_Key.mk (T_addr_Addr.mk false (List.replicate 16 0)) (T_addr_Addr.mk false (List.replicate 16 0)) 0 0 0) 1 40 5 9 2 0 2)) = true then
  (F_flow_Total_Plus (T_flow_Total.mk 1 18446744073709551615) (T_flow_Total.mk 2 9)).bind fun y70 =>
  F_law22_works_j2 (q_flow_Total y70 (T_flow_Total.mk 3 18446744073709551615))
  else
  F_law22_works_j2 false
  else
  F_law22_works_j2 false
  else
  F_law22_works_j2 false
def F_law22_works_l1 (rec46 : Int → Int → Int → Option Bool) (y1 : (List T_field_Spec)) (y8 : (List T_field_Spec)) (nv40 : Int) (m41 : Int) (i44 : Int) : Option Bool :=
  if (decide (i44 < (y1.length : Int))) = true then
  F_law22_works_j1 y1 y8 nv40 m41 i44 rec46 (decide (i44 < (y8.length : Int)))
  else
  F_law22_works_j1 y1 y8 nv40 m41 i44 rec46 false
def F_law22_works_L1 (y1 : (List T_field_Spec)) (y8 : (List T_field_Spec)) : Nat → Int → Int → Int → Option Bool
  | 0 => fun _ _ _ => none
  | k + 1 => F_law22_works_l1 (F_law22_works_L1 y1 y8 k) y1 y8
def F_law22_works : Option Bool :=
  (F_flow_Specs false).bind fun y1 =>
  (F_flow_Specs true).bind fun y8 =>
  F_law22_works_L1 y1 y8 fuel0 0 0 0
def F_law22_FlowValues_l3 (rec655 : (List T_field_Spec) → Int → Option Bool) (t446 : Int) (rec448 : Int → Option Bool) (s652 : List T_field_Spec) (i653 : Int) : Option Bool :=
  if (decide (i653 < (s652.length : Int))) = true then
  (gidx s652 i653).bind fun xv659 =>
  rec655 (s652.set (i653).toNat (T_field_Spec.mk 77 0 0)) (IntKind.i64.wrap (i653 + 1))
  else
  rec448 (IntKind.i64.wrap (t446 + 1))
def F_law22_FlowValues_L3 (t446 : Int) (rec448 : Int → Option Bool) : Nat → (List T_field_Spec) → Int → Option Bool
  | 0 => fun _ _ => none
  | k + 1 => F_law22_FlowValues_l3 (F_law22_FlowValues_L3 t446 rec448 k) t446 rec448
def F_law22_FlowValues_l2 (rec591 : (List T_field_Value) → Int → Option Bool) (t446 : Int) (rec448 : Int → Option Bool) (y460 : (List T_field_Spec)) (lv587 : List T_field_Value) (i589 : Int) : Option Bool :=
  if (decide (i589 < (lv587.length : Int))) = true then
  (gidx lv587 i589).bind fun xv595 =>
  (F_kit_Spoil xv595.f_B).bind fun y608 =>
  (gidx (lv587.set (i589).toNat (T_field_Value.mk xv595.f_N y608)) i589).bind fun xv618 =>
  rec591 ((lv587.set (i589).toNat (T_field_Value.mk xv595.f_N y608)).set (i589).toNat (T_field_Value.mk 77 xv618.f_B)) (IntKind.i64.wrap (i589 + 1))
  else
  F_law22_FlowValues_L3 t446 rec448 fuel0 y460 0
def F_law22_FlowValues_L2 (t446 : Int) (rec448 : Int → Option Bool) (y460 : (List T_field_Spec)) : Nat → (List T_field_Value) → Int → Option Bool
  | 0 => fun _ _ => none
  | k + 1 => F_law22_FlowValues_l2 (F_law22_FlowValues_L2 t446 rec448 y460 k) t446 rec448 y460
def F_law22_FlowValues_j1 (t446 : Int) (rec448 : Int → Option Bool) (y460 : (List T_field_Spec)) (lv490 : List T_field_Value) (t492 : Bool) : Option Bool :=
  if t492 = true then
  some false
  else
  F_law22_FlowValues_L2 t446 rec448 y460 fuel0 lv490 0
def F_law22_FlowValues_j2 (t674 : Bool) : Option Bool :=
  some t674
def F_law22_FlowValues_l1 (rec448 : Int → Option Bool) (rv1 : T_flow_Record) (six2 : Bool) (y10 : (List T_ref18_Value) × Int) (t446 : Int) : Option Bool :=
  if (decide (t446 < 2)) = true then
  (F_flow_Values rv1).bind fun y450 =>
  (F_flow_Specs six2).bind fun y460 =>
  if (y10.2 != y450.2) = true then
  F_law22_FlowValues_j1 t446 rec448 y460 y450.1 true
  else
  (F_docs_SameValues y450.1 y10.1).bind fun y467 =>
  if (!y467) = true then
  F_law22_FlowValues_j1 t446 rec448 y460 y450.1 true
  else
  (F_ref22_Specs six2).bind fun y471 =>
  (F_docs_SameSpecs y460 y471).bind fun y478 =>
  F_law22_FlowValues_j1 t446 rec448 y460 y450.1 (!y478)
  else
  (F_flow_Number six2).bind fun y662 =>
  (F_ref22_Number six2).bind fun y666 =>
  if (y662 == y666) = true then
  (F_law22_works).bind fun y670 =>
  F_law22_FlowValues_j2 y670
  else
  F_law22_FlowValues_j2 false
def F_law22_FlowValues_L1 (rv1 : T_flow_Record) (six2 : Bool) (y10 : (List T_ref18_Value) × Int) : Nat → Int → Option Bool
  | 0 => fun _ => none
  | k + 1 => F_law22_FlowValues_l1 (F_law22_FlowValues_L1 rv1 six2 y10 k) rv1 six2 y10
def F_law22_FlowValues (rv1 : T_flow_Record) (six2 : Bool) : Option Bool :=
  (F_docs_Record rv1).bind fun y6 =>
  (F_ref22_Values y6).bind fun y10 =>
  F_law22_FlowValues_L1 rv1 six2 y10 fuel0 0
end Go.Proofs.Yteafnfoponjoeaa
