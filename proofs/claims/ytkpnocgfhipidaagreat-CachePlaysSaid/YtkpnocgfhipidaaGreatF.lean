/- Plain functions, printed by a program of this claim: what each Go function computes, where it returns. -/
import Derived.Test.YtkpnocgfhipidaaGreatOxN
set_option linter.unusedVariables false
namespace Go.Proofs.YtkpnocgfhipidaaGreat
open Go Go.Ox
abbrev o8 (b : List Int) (i : Nat) : Value := .int .u8 (List.getD b i 0)
abbrev a4 (b : List Int) : List Value := [o8 b 0, o8 b 1, o8 b 2, o8 b 3]
abbrev a16 (b : List Int) : List Value := [o8 b 0, o8 b 1, o8 b 2, o8 b 3, o8 b 4, o8 b 5, o8 b 6, o8 b 7, o8 b 8, o8 b 9, o8 b 10, o8 b 11, o8 b 12, o8 b 13, o8 b 14, o8 b 15]
abbrev v8 (n : Int) : Value := .int .u8 n
abbrev v16 (n : Int) : Value := .int .u16 n
abbrev v32 (n : Int) : Value := .int .u32 n
abbrev v64 (n : Int) : Value := .int .u64 n
abbrev vI (n : Int) : Value := .int .i64 n
abbrev vB (b : Bool) : Value := .bool b
structure T_cache_Bounds where
  f_Flows : Int
  f_Idle : Int
  f_Active : Int
  f_Packets : Int
  f_Bytes : Int
def e_cache_Bounds (x : T_cache_Bounds) : List Value := [.int .i64 x.f_Flows, .int .u64 x.f_Idle, .int .u64 x.f_Active, .int .u64 x.f_Packets, .int .u64 x.f_Bytes]
abbrev T_cache_Bounds.cs (x : T_cache_Bounds) : List Value := e_cache_Bounds x
structure T_addr_Addr where
  f_Six : Bool
  f_B : List Int
def e_addr_Addr (x : T_addr_Addr) : List Value := [.bool x.f_Six, o8 x.f_B 0, o8 x.f_B 1, o8 x.f_B 2, o8 x.f_B 3, o8 x.f_B 4, o8 x.f_B 5, o8 x.f_B 6, o8 x.f_B 7, o8 x.f_B 8, o8 x.f_B 9, o8 x.f_B 10, o8 x.f_B 11, o8 x.f_B 12, o8 x.f_B 13, o8 x.f_B 14, o8 x.f_B 15]
abbrev T_addr_Addr.cs (x : T_addr_Addr) : List Value := e_addr_Addr x
structure T_packet_Key where
  f_Src : T_addr_Addr
  f_Dst : T_addr_Addr
  f_Proto : Int
  f_SrcPort : Int
  f_DstPort : Int
def e_packet_Key (x : T_packet_Key) : List Value := [.bool x.f_Src.f_Six, o8 x.f_Src.f_B 0, o8 x.f_Src.f_B 1, o8 x.f_Src.f_B 2, o8 x.f_Src.f_B 3, o8 x.f_Src.f_B 4, o8 x.f_Src.f_B 5, o8 x.f_Src.f_B 6, o8 x.f_Src.f_B 7, o8 x.f_Src.f_B 8, o8 x.f_Src.f_B 9, o8 x.f_Src.f_B 10, o8 x.f_Src.f_B 11, o8 x.f_Src.f_B 12, o8 x.f_Src.f_B 13, o8 x.f_Src.f_B 14, o8 x.f_Src.f_B 15, .bool x.f_Dst.f_Six, o8 x.f_Dst.f_B 0, o8 x.f_Dst.f_B 1, o8 x.f_Dst.f_B 2, o8 x.f_Dst.f_B 3, o8 x.f_Dst.f_B 4, o8 x.f_Dst.f_B 5, o8 x.f_Dst.f_B 6, o8 x.f_Dst.f_B 7, o8 x.f_Dst.f_B 8, o8 x.f_Dst.f_B 9, o8 x.f_Dst.f_B 10, o8 x.f_Dst.f_B 11, o8 x.f_Dst.f_B 12, o8 x.f_Dst.f_B 13, o8 x.f_Dst.f_B 14, o8 x.f_Dst.f_B 15, .int .u8 x.f_Proto, .int .u16 x.f_SrcPort, .int .u16 x.f_DstPort]
abbrev T_packet_Key.cs (x : T_packet_Key) : List Value := e_packet_Key x
structure T_packet_Packet where
  f_Key : T_packet_Key
  f_Length : Int
  f_Flags : Int
  f_Fragment : Bool
def e_packet_Packet (x : T_packet_Packet) : List Value := [.bool x.f_Key.f_Src.f_Six, o8 x.f_Key.f_Src.f_B 0, o8 x.f_Key.f_Src.f_B 1, o8 x.f_Key.f_Src.f_B 2, o8 x.f_Key.f_Src.f_B 3, o8 x.f_Key.f_Src.f_B 4, o8 x.f_Key.f_Src.f_B 5, o8 x.f_Key.f_Src.f_B 6, o8 x.f_Key.f_Src.f_B 7, o8 x.f_Key.f_Src.f_B 8, o8 x.f_Key.f_Src.f_B 9, o8 x.f_Key.f_Src.f_B 10, o8 x.f_Key.f_Src.f_B 11, o8 x.f_Key.f_Src.f_B 12, o8 x.f_Key.f_Src.f_B 13, o8 x.f_Key.f_Src.f_B 14, o8 x.f_Key.f_Src.f_B 15, .bool x.f_Key.f_Dst.f_Six, o8 x.f_Key.f_Dst.f_B 0, o8 x.f_Key.f_Dst.f_B 1, o8 x.f_Key.f_Dst.f_B 2, o8 x.f_Key.f_Dst.f_B 3, o8 x.f_Key.f_Dst.f_B 4, o8 x.f_Key.f_Dst.f_B 5, o8 x.f_Key.f_Dst.f_B 6, o8 x.f_Key.f_Dst.f_B 7, o8 x.f_Key.f_Dst.f_B 8, o8 x.f_Key.f_Dst.f_B 9, o8 x.f_Key.f_Dst.f_B 10, o8 x.f_Key.f_Dst.f_B 11, o8 x.f_Key.f_Dst.f_B 12, o8 x.f_Key.f_Dst.f_B 13, o8 x.f_Key.f_Dst.f_B 14, o8 x.f_Key.f_Dst.f_B 15, .int .u8 x.f_Key.f_Proto, .int .u16 x.f_Key.f_SrcPort, .int .u16 x.f_Key.f_DstPort, .int .i64 x.f_Length, .int .u8 x.f_Flags, .bool x.f_Fragment]
abbrev T_packet_Packet.cs (x : T_packet_Packet) : List Value := e_packet_Packet x
structure T_law24_Act where
  f_Do : Int
  f_Packet : T_packet_Packet
  f_Class : Int
  f_Tick : Int
def e_law24_Act (x : T_law24_Act) : List Value := [.int .i64 x.f_Do, .bool x.f_Packet.f_Key.f_Src.f_Six, o8 x.f_Packet.f_Key.f_Src.f_B 0, o8 x.f_Packet.f_Key.f_Src.f_B 1, o8 x.f_Packet.f_Key.f_Src.f_B 2, o8 x.f_Packet.f_Key.f_Src.f_B 3, o8 x.f_Packet.f_Key.f_Src.f_B 4, o8 x.f_Packet.f_Key.f_Src.f_B 5, o8 x.f_Packet.f_Key.f_Src.f_B 6, o8 x.f_Packet.f_Key.f_Src.f_B 7, o8 x.f_Packet.f_Key.f_Src.f_B 8, o8 x.f_Packet.f_Key.f_Src.f_B 9, o8 x.f_Packet.f_Key.f_Src.f_B 10, o8 x.f_Packet.f_Key.f_Src.f_B 11, o8 x.f_Packet.f_Key.f_Src.f_B 12, o8 x.f_Packet.f_Key.f_Src.f_B 13, o8 x.f_Packet.f_Key.f_Src.f_B 14, o8 x.f_Packet.f_Key.f_Src.f_B 15, .bool x.f_Packet.f_Key.f_Dst.f_Six, o8 x.f_Packet.f_Key.f_Dst.f_B 0, o8 x.f_Packet.f_Key.f_Dst.f_B 1, o8 x.f_Packet.f_Key.f_Dst.f_B 2, o8 x.f_Packet.f_Key.f_Dst.f_B 3, o8 x.f_Packet.f_Key.f_Dst.f_B 4, o8 x.f_Packet.f_Key.f_Dst.f_B 5, o8 x.f_Packet.f_Key.f_Dst.f_B 6, o8 x.f_Packet.f_Key.f_Dst.f_B 7, o8 x.f_Packet.f_Key.f_Dst.f_B 8, o8 x.f_Packet.f_Key.f_Dst.f_B 9, o8 x.f_Packet.f_Key.f_Dst.f_B 10, o8 x.f_Packet.f_Key.f_Dst.f_B 11, o8 x.f_Packet.f_Key.f_Dst.f_B 12, o8 x.f_Packet.f_Key.f_Dst.f_B 13, o8 x.f_Packet.f_Key.f_Dst.f_B 14, o8 x.f_Packet.f_Key.f_Dst.f_B 15, .int .u8 x.f_Packet.f_Key.f_Proto, .int .u16 x.f_Packet.f_Key.f_SrcPort, .int .u16 x.f_Packet.f_Key.f_DstPort, .int .i64 x.f_Packet.f_Length, .int .u8 x.f_Packet.f_Flags, .bool x.f_Packet.f_Fragment, .int .u8 x.f_Class, .int .u64 x.f_Tick]
abbrev T_law24_Act.cs (x : T_law24_Act) : List Value := e_law24_Act x
structure T_table_Slot where
  f_Used : Bool
  f_Key : T_packet_Key
  f_N : Int
def e_table_Slot (x : T_table_Slot) : List Value := [.bool x.f_Used, .bool x.f_Key.f_Src.f_Six, o8 x.f_Key.f_Src.f_B 0, o8 x.f_Key.f_Src.f_B 1, o8 x.f_Key.f_Src.f_B 2, o8 x.f_Key.f_Src.f_B 3, o8 x.f_Key.f_Src.f_B 4, o8 x.f_Key.f_Src.f_B 5, o8 x.f_Key.f_Src.f_B 6, o8 x.f_Key.f_Src.f_B 7, o8 x.f_Key.f_Src.f_B 8, o8 x.f_Key.f_Src.f_B 9, o8 x.f_Key.f_Src.f_B 10, o8 x.f_Key.f_Src.f_B 11, o8 x.f_Key.f_Src.f_B 12, o8 x.f_Key.f_Src.f_B 13, o8 x.f_Key.f_Src.f_B 14, o8 x.f_Key.f_Src.f_B 15, .bool x.f_Key.f_Dst.f_Six, o8 x.f_Key.f_Dst.f_B 0, o8 x.f_Key.f_Dst.f_B 1, o8 x.f_Key.f_Dst.f_B 2, o8 x.f_Key.f_Dst.f_B 3, o8 x.f_Key.f_Dst.f_B 4, o8 x.f_Key.f_Dst.f_B 5, o8 x.f_Key.f_Dst.f_B 6, o8 x.f_Key.f_Dst.f_B 7, o8 x.f_Key.f_Dst.f_B 8, o8 x.f_Key.f_Dst.f_B 9, o8 x.f_Key.f_Dst.f_B 10, o8 x.f_Key.f_Dst.f_B 11, o8 x.f_Key.f_Dst.f_B 12, o8 x.f_Key.f_Dst.f_B 13, o8 x.f_Key.f_Dst.f_B 14, o8 x.f_Key.f_Dst.f_B 15, .int .u8 x.f_Key.f_Proto, .int .u16 x.f_Key.f_SrcPort, .int .u16 x.f_Key.f_DstPort, .int .u64 x.f_N]
abbrev T_table_Slot.cs (x : T_table_Slot) : List Value := e_table_Slot x
structure T_table_Table where
  f_slots : List T_table_Slot
  f_many : Int
structure T_flow_Record where
  f_Key : T_packet_Key
  f_Packets : Int
  f_Bytes : Int
  f_First : Int
  f_Last : Int
  f_Flags : Int
  f_Reason : Int
  f_Class : Int
def e_flow_Record (x : T_flow_Record) : List Value := [.bool x.f_Key.f_Src.f_Six, o8 x.f_Key.f_Src.f_B 0, o8 x.f_Key.f_Src.f_B 1, o8 x.f_Key.f_Src.f_B 2, o8 x.f_Key.f_Src.f_B 3, o8 x.f_Key.f_Src.f_B 4, o8 x.f_Key.f_Src.f_B 5, o8 x.f_Key.f_Src.f_B 6, o8 x.f_Key.f_Src.f_B 7, o8 x.f_Key.f_Src.f_B 8, o8 x.f_Key.f_Src.f_B 9, o8 x.f_Key.f_Src.f_B 10, o8 x.f_Key.f_Src.f_B 11, o8 x.f_Key.f_Src.f_B 12, o8 x.f_Key.f_Src.f_B 13, o8 x.f_Key.f_Src.f_B 14, o8 x.f_Key.f_Src.f_B 15, .bool x.f_Key.f_Dst.f_Six, o8 x.f_Key.f_Dst.f_B 0, o8 x.f_Key.f_Dst.f_B 1, o8 x.f_Key.f_Dst.f_B 2, o8 x.f_Key.f_Dst.f_B 3, o8 x.f_Key.f_Dst.f_B 4, o8 x.f_Key.f_Dst.f_B 5, o8 x.f_Key.f_Dst.f_B 6, o8 x.f_Key.f_Dst.f_B 7, o8 x.f_Key.f_Dst.f_B 8, o8 x.f_Key.f_Dst.f_B 9, o8 x.f_Key.f_Dst.f_B 10, o8 x.f_Key.f_Dst.f_B 11, o8 x.f_Key.f_Dst.f_B 12, o8 x.f_Key.f_Dst.f_B 13, o8 x.f_Key.f_Dst.f_B 14, o8 x.f_Key.f_Dst.f_B 15, .int .u8 x.f_Key.f_Proto, .int .u16 x.f_Key.f_SrcPort, .int .u16 x.f_Key.f_DstPort, .int .u64 x.f_Packets, .int .u64 x.f_Bytes, .int .u64 x.f_First, .int .u64 x.f_Last, .int .u8 x.f_Flags, .int .u8 x.f_Reason, .int .u8 x.f_Class]
abbrev T_flow_Record.cs (x : T_flow_Record) : List Value := e_flow_Record x
structure T_cache_Cache where
  f_tick : Int
  f_bounds : T_cache_Bounds
  f_places : T_table_Table
  f_flows : List T_flow_Record
structure T_bits_Writer where
  f_b : List Int
structure T_flow_Total where
  f_Packets : Int
  f_Bytes : Int
def e_flow_Total (x : T_flow_Total) : List Value := [.int .u64 x.f_Packets, .int .u64 x.f_Bytes]
structure T_ref08_Key where
  f_Src : T_addr_Addr
  f_Dst : T_addr_Addr
  f_Proto : Int
  f_SrcPort : Int
  f_DstPort : Int
def e_ref08_Key (x : T_ref08_Key) : List Value := [.bool x.f_Src.f_Six, o8 x.f_Src.f_B 0, o8 x.f_Src.f_B 1, o8 x.f_Src.f_B 2, o8 x.f_Src.f_B 3, o8 x.f_Src.f_B 4, o8 x.f_Src.f_B 5, o8 x.f_Src.f_B 6, o8 x.f_Src.f_B 7, o8 x.f_Src.f_B 8, o8 x.f_Src.f_B 9, o8 x.f_Src.f_B 10, o8 x.f_Src.f_B 11, o8 x.f_Src.f_B 12, o8 x.f_Src.f_B 13, o8 x.f_Src.f_B 14, o8 x.f_Src.f_B 15, .bool x.f_Dst.f_Six, o8 x.f_Dst.f_B 0, o8 x.f_Dst.f_B 1, o8 x.f_Dst.f_B 2, o8 x.f_Dst.f_B 3, o8 x.f_Dst.f_B 4, o8 x.f_Dst.f_B 5, o8 x.f_Dst.f_B 6, o8 x.f_Dst.f_B 7, o8 x.f_Dst.f_B 8, o8 x.f_Dst.f_B 9, o8 x.f_Dst.f_B 10, o8 x.f_Dst.f_B 11, o8 x.f_Dst.f_B 12, o8 x.f_Dst.f_B 13, o8 x.f_Dst.f_B 14, o8 x.f_Dst.f_B 15, .int .u8 x.f_Proto, .int .u16 x.f_SrcPort, .int .u16 x.f_DstPort]
abbrev T_ref08_Key.cs (x : T_ref08_Key) : List Value := e_ref08_Key x
structure T_ref22_Record where
  f_Key : T_ref08_Key
  f_Packets : Int
  f_Bytes : Int
  f_First : Int
  f_Last : Int
  f_Flags : Int
  f_Reason : Int
  f_Class : Int
def e_ref22_Record (x : T_ref22_Record) : List Value := [.bool x.f_Key.f_Src.f_Six, o8 x.f_Key.f_Src.f_B 0, o8 x.f_Key.f_Src.f_B 1, o8 x.f_Key.f_Src.f_B 2, o8 x.f_Key.f_Src.f_B 3, o8 x.f_Key.f_Src.f_B 4, o8 x.f_Key.f_Src.f_B 5, o8 x.f_Key.f_Src.f_B 6, o8 x.f_Key.f_Src.f_B 7, o8 x.f_Key.f_Src.f_B 8, o8 x.f_Key.f_Src.f_B 9, o8 x.f_Key.f_Src.f_B 10, o8 x.f_Key.f_Src.f_B 11, o8 x.f_Key.f_Src.f_B 12, o8 x.f_Key.f_Src.f_B 13, o8 x.f_Key.f_Src.f_B 14, o8 x.f_Key.f_Src.f_B 15, .bool x.f_Key.f_Dst.f_Six, o8 x.f_Key.f_Dst.f_B 0, o8 x.f_Key.f_Dst.f_B 1, o8 x.f_Key.f_Dst.f_B 2, o8 x.f_Key.f_Dst.f_B 3, o8 x.f_Key.f_Dst.f_B 4, o8 x.f_Key.f_Dst.f_B 5, o8 x.f_Key.f_Dst.f_B 6, o8 x.f_Key.f_Dst.f_B 7, o8 x.f_Key.f_Dst.f_B 8, o8 x.f_Key.f_Dst.f_B 9, o8 x.f_Key.f_Dst.f_B 10, o8 x.f_Key.f_Dst.f_B 11, o8 x.f_Key.f_Dst.f_B 12, o8 x.f_Key.f_Dst.f_B 13, o8 x.f_Key.f_Dst.f_B 14, o8 x.f_Key.f_Dst.f_B 15, .int .u8 x.f_Key.f_Proto, .int .u16 x.f_Key.f_SrcPort, .int .u16 x.f_Key.f_DstPort, .int .u64 x.f_Packets, .int .u64 x.f_Bytes, .int .u64 x.f_First, .int .u64 x.f_Last, .int .u8 x.f_Flags, .int .u8 x.f_Reason, .int .u8 x.f_Class]
abbrev T_ref22_Record.cs (x : T_ref22_Record) : List Value := e_ref22_Record x
structure T_ref24_Cache where
  f_Tick : Int
  f_Bounds : T_cache_Bounds
  f_L : List T_ref22_Record
structure T_ref08_Packet where
  f_Key : T_ref08_Key
  f_Length : Int
  f_Flags : Int
  f_Fragment : Bool
def e_ref08_Packet (x : T_ref08_Packet) : List Value := [.bool x.f_Key.f_Src.f_Six, o8 x.f_Key.f_Src.f_B 0, o8 x.f_Key.f_Src.f_B 1, o8 x.f_Key.f_Src.f_B 2, o8 x.f_Key.f_Src.f_B 3, o8 x.f_Key.f_Src.f_B 4, o8 x.f_Key.f_Src.f_B 5, o8 x.f_Key.f_Src.f_B 6, o8 x.f_Key.f_Src.f_B 7, o8 x.f_Key.f_Src.f_B 8, o8 x.f_Key.f_Src.f_B 9, o8 x.f_Key.f_Src.f_B 10, o8 x.f_Key.f_Src.f_B 11, o8 x.f_Key.f_Src.f_B 12, o8 x.f_Key.f_Src.f_B 13, o8 x.f_Key.f_Src.f_B 14, o8 x.f_Key.f_Src.f_B 15, .bool x.f_Key.f_Dst.f_Six, o8 x.f_Key.f_Dst.f_B 0, o8 x.f_Key.f_Dst.f_B 1, o8 x.f_Key.f_Dst.f_B 2, o8 x.f_Key.f_Dst.f_B 3, o8 x.f_Key.f_Dst.f_B 4, o8 x.f_Key.f_Dst.f_B 5, o8 x.f_Key.f_Dst.f_B 6, o8 x.f_Key.f_Dst.f_B 7, o8 x.f_Key.f_Dst.f_B 8, o8 x.f_Key.f_Dst.f_B 9, o8 x.f_Key.f_Dst.f_B 10, o8 x.f_Key.f_Dst.f_B 11, o8 x.f_Key.f_Dst.f_B 12, o8 x.f_Key.f_Dst.f_B 13, o8 x.f_Key.f_Dst.f_B 14, o8 x.f_Key.f_Dst.f_B 15, .int .u8 x.f_Key.f_Proto, .int .u16 x.f_Key.f_SrcPort, .int .u16 x.f_Key.f_DstPort, .int .i64 x.f_Length, .int .u8 x.f_Flags, .bool x.f_Fragment]
abbrev T_ref08_Packet.cs (x : T_ref08_Packet) : List Value := e_ref08_Packet x
structure T_law24_Sum where
  f_Key : T_packet_Key
  f_Total : T_flow_Total
def e_law24_Sum (x : T_law24_Sum) : List Value := [.bool x.f_Key.f_Src.f_Six, o8 x.f_Key.f_Src.f_B 0, o8 x.f_Key.f_Src.f_B 1, o8 x.f_Key.f_Src.f_B 2, o8 x.f_Key.f_Src.f_B 3, o8 x.f_Key.f_Src.f_B 4, o8 x.f_Key.f_Src.f_B 5, o8 x.f_Key.f_Src.f_B 6, o8 x.f_Key.f_Src.f_B 7, o8 x.f_Key.f_Src.f_B 8, o8 x.f_Key.f_Src.f_B 9, o8 x.f_Key.f_Src.f_B 10, o8 x.f_Key.f_Src.f_B 11, o8 x.f_Key.f_Src.f_B 12, o8 x.f_Key.f_Src.f_B 13, o8 x.f_Key.f_Src.f_B 14, o8 x.f_Key.f_Src.f_B 15, .bool x.f_Key.f_Dst.f_Six, o8 x.f_Key.f_Dst.f_B 0, o8 x.f_Key.f_Dst.f_B 1, o8 x.f_Key.f_Dst.f_B 2, o8 x.f_Key.f_Dst.f_B 3, o8 x.f_Key.f_Dst.f_B 4, o8 x.f_Key.f_Dst.f_B 5, o8 x.f_Key.f_Dst.f_B 6, o8 x.f_Key.f_Dst.f_B 7, o8 x.f_Key.f_Dst.f_B 8, o8 x.f_Key.f_Dst.f_B 9, o8 x.f_Key.f_Dst.f_B 10, o8 x.f_Key.f_Dst.f_B 11, o8 x.f_Key.f_Dst.f_B 12, o8 x.f_Key.f_Dst.f_B 13, o8 x.f_Key.f_Dst.f_B 14, o8 x.f_Key.f_Dst.f_B 15, .int .u8 x.f_Key.f_Proto, .int .u16 x.f_Key.f_SrcPort, .int .u16 x.f_Key.f_DstPort, .int .u64 x.f_Total.f_Packets, .int .u64 x.f_Total.f_Bytes]
abbrev T_law24_Sum.cs (x : T_law24_Sum) : List Value := e_law24_Sum x
def q_addr_Addr (x y : T_addr_Addr) : Bool := ((x.f_Six == y.f_Six) && ((arrEq 16 x.f_B y.f_B) && true))
def q_packet_Key (x y : T_packet_Key) : Bool := ((q_addr_Addr x.f_Src y.f_Src) && ((q_addr_Addr x.f_Dst y.f_Dst) && ((x.f_Proto == y.f_Proto) && ((x.f_SrcPort == y.f_SrcPort) && ((x.f_DstPort == y.f_DstPort) && true)))))
def q_ref08_Key (x y : T_ref08_Key) : Bool := ((q_addr_Addr x.f_Src y.f_Src) && ((q_addr_Addr x.f_Dst y.f_Dst) && ((x.f_Proto == y.f_Proto) && ((x.f_SrcPort == y.f_SrcPort) && ((x.f_DstPort == y.f_DstPort) && true)))))
def q_ref22_Record (x y : T_ref22_Record) : Bool := ((q_ref08_Key x.f_Key y.f_Key) && ((x.f_Packets == y.f_Packets) && ((x.f_Bytes == y.f_Bytes) && ((x.f_First == y.f_First) && ((x.f_Last == y.f_Last) && ((x.f_Flags == y.f_Flags) && ((x.f_Reason == y.f_Reason) && ((x.f_Class == y.f_Class) && true))))))))
def q_flow_Total (x y : T_flow_Total) : Bool := ((x.f_Packets == y.f_Packets) && ((x.f_Bytes == y.f_Bytes) && true))
def q_law24_Sum (x y : T_law24_Sum) : Bool := ((q_packet_Key x.f_Key y.f_Key) && ((q_flow_Total x.f_Total y.f_Total) && true))
def q_flow_Record (x y : T_flow_Record) : Bool := ((q_packet_Key x.f_Key y.f_Key) && ((x.f_Packets == y.f_Packets) && ((x.f_Bytes == y.f_Bytes) && ((x.f_First == y.f_First) && ((x.f_Last == y.f_Last) && ((x.f_Flags == y.f_Flags) && ((x.f_Reason == y.f_Reason) && ((x.f_Class == y.f_Class) && true))))))))
def F_math_bits_Len64_j3 (xv15 : Int) (nv16 : Int) : Option Int :=
  (gidxS (⟨#[0, 1, 2, 2, 3, 3, 3, 3, 4, 4, 4, 4, 4, 4, 4, 4, 5, 5, 5, 5, 5, 5, 5, 5, 5, 5, 5, 5, 5, 5, 5, 5, 6, 6, 6, 6, 6, 6, 6, 6, 6, 6, 6, 6, 6, 6, 6, 6, 6, 6, 6, 6, 6, 6, 6, 6, 6, 6, 6, 6, 6, 6, 6, 6, 7, 7, 7, 7, 7, 7, 7, 7, 7, 7, 7, 7, 7, 7, 7, 7, 7, 7, 7, 7, 7, 7, 7, 7, 7, 7, 7, 7, 7, 7, 7, 7, 7, 7, 7, 7, 7, 7, 7, 7, 7, 7, 7, 7, 7, 7, 7, 7, 7, 7, 7, 7, 7, 7, 7, 7, 7, 7, 7, 7, 7, 7, 7, 7, 8, 8, 8, 8, 8, 8, 8, 8, 8, 8, 8, 8, 8, 8, 8, 8, 8, 8, 8, 8, 8, 8, 8, 8, 8, 8, 8, 8, 8, 8, 8, 8, 8, 8, 8, 8, 8, 8, 8, 8, 8, 8, 8, 8, 8, 8, 8, 8, 8, 8, 8, 8, 8, 8, 8, 8, 8, 8, 8, 8, 8, 8, 8, 8, 8, 8, 8, 8, 8, 8, 8, 8, 8, 8, 8, 8, 8, 8, 8, 8, 8, 8, 8, 8, 8, 8, 8, 8, 8, 8, 8, 8, 8, 8, 8, 8, 8, 8, 8, 8, 8, 8, 8, 8, 8, 8, 8, 8, 8, 8, 8, 8, 8, 8, 8, 8, 8, 8, 8, 8, 8, 8, 8, 8, 8, 8, 8, 8]⟩ : ByteArray) (IntKind.u8.wrap xv15)).bind fun xv19 =>
  some (IntKind.i64.wrap (nv16 + (IntKind.i64.wrap xv19)))
def F_math_bits_Len64_j2 (xv10 : Int) (nv11 : Int) : Option Int :=
  if (decide (256 ≤ xv10)) = true then
  F_math_bits_Len64_j3 (Ox.shr .u64 xv10 8) (IntKind.i64.wrap (nv11 + 8))
  else
  F_math_bits_Len64_j3 xv10 nv11
def F_math_bits_Len64_j1 (xv5 : Int) (nv6 : Int) : Option Int :=
  if (decide (65536 ≤ xv5)) = true then
  F_math_bits_Len64_j2 (Ox.shr .u64 xv5 16) (IntKind.i64.wrap (nv6 + 16))
  else
  F_math_bits_Len64_j2 xv5 nv6
def F_math_bits_Len64 (xv1 : Int) : Option Int :=
  if (decide (4294967296 ≤ xv1)) = true then
  F_math_bits_Len64_j1 (Ox.shr .u64 xv1 32) 32
  else
  F_math_bits_Len64_j1 xv1 0
def F_math_bits_Len (xv1 : Int) : Option Int :=
  (F_math_bits_Len64 xv1).bind fun y5 =>
  some y5
def F_law24_udp1 (port1 : Int) : Option T_packet_Packet :=
  some (T_packet_Packet.mk (T_packet_Key.mk (T_addr_Addr.mk false (List.replicate 16 0)) (T_addr_Addr.mk false (List.replicate 16 0)) 17 port1 53) 40 0 false)
def F_packet_ports_j1 (t3 : Bool) : Option Bool :=
  some t3
def F_packet_ports (proto1 : Int) : Option Bool :=
  if (proto1 == 6) = true then
  F_packet_ports_j1 true
  else
  F_packet_ports_j1 (proto1 == 17)
def F_packet_icmp_j1 (t3 : Bool) : Option Bool :=
  some t3
def F_packet_icmp (proto1 : Int) : Option Bool :=
  if (proto1 == 1) = true then
  F_packet_icmp_j1 true
  else
  F_packet_icmp_j1 (proto1 == 58)
def F_addr_Addr_size (av1 : T_addr_Addr) : Option Int :=
  if av1.f_Six = true then
  some 16
  else
  some 4
def F_addr_Addr_Right (av1 : T_addr_Addr) : Option Bool :=
  (F_addr_Addr_size av1).bind fun y12 =>
  (gcut (arrL 16 (List.replicate 16 0)) 0 y12).bind fun cut17 =>
  some (arrEq 16 av1.f_B (cpA 16 (Nat.min (arrL 16 av1.f_B).length cut17.length) (List.replicate 16 0) (arrL 16 av1.f_B)))
def F_packet_Key_Right_j2 (t37 : Bool) : Option Bool :=
  some t37
def F_packet_Key_Right_j1 (kv1 : T_packet_Key) (plain26 : Int) (plain27 : Int) : Option Bool :=
  (F_addr_Addr_Right kv1.f_Src).bind fun y29 =>
  if y29 = true then
  (F_addr_Addr_Right kv1.f_Dst).bind fun y33 =>
  if y33 = true then
  if (kv1.f_Src.f_Six == kv1.f_Dst.f_Six) = true then
  F_packet_Key_Right_j2 (q_packet_Key kv1 (T_packet_Key.mk kv1.f_Src kv1.f_Dst kv1.f_Proto plain26 plain27))
  else
  F_packet_Key_Right_j2 false
  else
  F_packet_Key_Right_j2 false
  else
  F_packet_Key_Right_j2 false
def F_packet_Key_Right (kv1 : T_packet_Key) : Option Bool :=
  (F_packet_ports kv1.f_Proto).bind fun y12 =>
  if (!y12) = true then
  (F_packet_icmp kv1.f_Proto).bind fun y19 =>
  if (!y19) = true then
  F_packet_Key_Right_j1 kv1 0 0
  else
  F_packet_Key_Right_j1 kv1 0 kv1.f_DstPort
  else
  F_packet_Key_Right_j1 kv1 kv1.f_SrcPort kv1.f_DstPort
def F_cache_plus (av1 : Int) (b2 : Int) : Option Int :=
  if (decide (0 < (hi64 av1 b2))) = true then
  some 18446744073709551615
  else
  some (lo64 av1 b2)
def F_cache_Cache_idle (cv1 : T_cache_Cache) (rv7 : T_flow_Record) : Option Int :=
  (F_cache_plus rv7.f_Last cv1.f_bounds.f_Idle).bind fun y14 =>
  some y14
def F_cache_Cache_due (cv1 : T_cache_Cache) (rv7 : T_flow_Record) : Option Int :=
  (F_cache_Cache_idle cv1 rv7).bind fun y14 =>
  (F_cache_plus rv7.f_First cv1.f_bounds.f_Active).bind fun y18 =>
  some (gmin y14 y18)
def F_cmp_isNaN_uint64 (xv1 : Int) : Option Bool :=
  some (xv1 != xv1)
def F_cmp_Compare_uint64 (xv1 : Int) (y2 : Int) : Option Int :=
  (F_cmp_isNaN_uint64 xv1).bind fun y5 =>
  (F_cmp_isNaN_uint64 y2).bind fun y10 =>
  if y5 = true then
  if y10 = true then
  some 0
  else
  some (-1)
  else
  if y10 = true then
  some 1
  else
  if (decide (xv1 < y2)) = true then
  some (-1)
  else
  if (decide (y2 < xv1)) = true then
  some 1
  else
  some 0
def F_bits_Writer_Raw (wv1 : T_bits_Writer) (b8 : List Int) : Option (Int × T_bits_Writer) :=
  if (decide (wv1.f_b.length + b8.length ≤ lim)) = true then
  some (0, (T_bits_Writer.mk (wv1.f_b ++ b8)))
  else none
def F_bytes_Clone (b1 : List Int) : Option ((List Int)) :=
  if (decide (([] : List Int).length + b1.length ≤ lim)) = true then
  some (([] : List Int) ++ b1)
  else none
def F_addr_Addr_Bytes (av1 : T_addr_Addr) : Option ((List Int)) :=
  (F_addr_Addr_size av1).bind fun y7 =>
  (gcut (arrL 16 av1.f_B) 0 y7).bind fun cut12 =>
  (F_bytes_Clone cut12).bind fun y14 =>
  some y14
def F_bits_right_j1 (t3 : Bool) : Option Bool :=
  some t3
def F_bits_right (size1 : Int) : Option Bool :=
  if (decide (1 ≤ size1)) = true then
  F_bits_right_j1 (decide (size1 ≤ 8))
  else
  F_bits_right_j1 false
def F_bits_Least_l1 (rec17 : Int → Int → Option Int) (v14 : Int) (nv15 : Int) : Option Int :=
  if (decide (0 < v14)) = true then
  rec17 (Ox.shr .u64 v14 8) (IntKind.i64.wrap (nv15 + 1))
  else
  some nv15
def F_bits_Least_L1 : Nat → Int → Int → Option Int
  | 0 => fun _ _ => none
  | k + 1 => F_bits_Least_l1 (F_bits_Least_L1 k)
def F_bits_Least (v1 : Int) : Option Int :=
  F_bits_Least_L1 fuel0 (Ox.shr .u64 v1 8) 1
def F_bits_fits_j1 (t12 : Bool) : Option Bool :=
  some t12
def F_bits_fits (v1 : Int) (size2 : Int) : Option Bool :=
  (F_bits_right size2).bind fun y4 =>
  if y4 = true then
  (F_bits_Least v1).bind fun y8 =>
  F_bits_fits_j1 (decide (y8 ≤ size2))
  else
  F_bits_fits_j1 false
def F_bits_of_l1 (rec42 : (List Int) → Int → Option ((List Int))) (v1 : Int) (size2 : Int) (b39 : List Int) (t40 : Int) : Option ((List Int)) :=
  if (decide (t40 < size2)) = true then
  if (decide (¬ (IntKind.i64.wrap (8 * t40)) < 0)) = true then
  (gidx b39 (IntKind.i64.wrap ((IntKind.i64.wrap (size2 - 1)) - t40))).bind fun xv51 =>
  rec42 (b39.set ((IntKind.i64.wrap ((IntKind.i64.wrap (size2 - 1)) - t40)) : Int).toNat (IntKind.u8.wrap (Ox.shr .u64 v1 (IntKind.i64.wrap (8 * t40))))) (IntKind.i64.wrap (t40 + 1))
  else none
  else
  some b39
def F_bits_of_L1 (v1 : Int) (size2 : Int) : Nat → (List Int) → Int → Option ((List Int))
  | 0 => fun _ _ => none
  | k + 1 => F_bits_of_l1 (F_bits_of_L1 v1 size2 k) v1 size2
def F_bits_of (v1 : Int) (size2 : Int) : Option ((List Int)) :=
  if (decide (0 ≤ size2 ∧ size2 ≤ lim)) = true then
  F_bits_of_L1 v1 size2 fuel0 (List.replicate (Int.toNat size2) (0 : Int)) 0
  else none
def F_bits_Writer_Put (wv1 : T_bits_Writer) (v8 : Int) (size9 : Int) : Option (Int × T_bits_Writer) :=
  (F_bits_fits v8 size9).bind fun y16 =>
  if (!y16) = true then
  some (2, wv1)
  else
  (F_bits_of v8 size9).bind fun y22 =>
  (F_bits_Writer_Raw wv1 y22).bind fun y29 =>
  some (y29.1, y29.2)
def F_slices_Clone_byte_byte (s1 : List Int) : Option ((List Int)) :=
  if (decide (([] : List Int).length + s1.length ≤ lim)) = true then
  some (([] : List Int) ++ s1)
  else none
def F_bits_Writer_Bytes (wv1 : T_bits_Writer) : Option ((List Int) × T_bits_Writer) :=
  (F_slices_Clone_byte_byte wv1.f_b).bind fun y13 =>
  some (y13, wv1)
def F_packet_Key_Bytes_j1 (kv1 : T_packet_Key) (version21 : Int) : Option ((List Int)) :=
  (F_bits_Writer_Raw (T_bits_Writer.mk ([] : List Int)) ([version21] : List Int)).bind fun y28 =>
  (F_addr_Addr_Bytes kv1.f_Src).bind fun y36 =>
  (F_bits_Writer_Raw y28.2 y36).bind fun y43 =>
  (F_addr_Addr_Bytes kv1.f_Dst).bind fun y51 =>
  (F_bits_Writer_Raw y43.2 y51).bind fun y58 =>
  (F_bits_Writer_Raw y58.2 ([kv1.f_Proto] : List Int)).bind fun y69 =>
  (F_bits_Writer_Put y69.2 (IntKind.u64.wrap kv1.f_SrcPort) 2).bind fun y77 =>
  (F_bits_Writer_Put y77.2 (IntKind.u64.wrap kv1.f_DstPort) 2).bind fun y85 =>
  (F_bits_Writer_Bytes y85.2).bind fun y93 =>
  some y93.1
def F_packet_Key_Bytes (kv1 : T_packet_Key) : Option ((List Int)) :=
  (F_packet_Key_Right kv1).bind fun y8 =>
  if (!y8) = true then
  some ([])
  else
  if kv1.f_Src.f_Six = true then
  F_packet_Key_Bytes_j1 kv1 6
  else
  F_packet_Key_Bytes_j1 kv1 4
def F_bytes_Compare (av1 : List Int) (b5 : List Int) : Option Int :=
  some (bcmp av1 b5)
def F_packet_Cmp (av1 : T_packet_Key) (b2 : T_packet_Key) : Option Int :=
  (F_packet_Key_Bytes av1).bind fun y11 =>
  (F_packet_Key_Bytes b2).bind fun y18 =>
  (F_bytes_Compare y11 y18).bind fun y25 =>
  some y25
def F_cache_byKey (av1 : T_flow_Record) (b2 : T_flow_Record) : Option Int :=
  (F_packet_Cmp av1.f_Key b2.f_Key).bind fun y11 =>
  some y11
def F_cmp_Or_int_l1 (rec30 : Int → Option Int) (vals1 : List Int) (t28 : Int) : Option Int :=
  if (decide (t28 < (vals1.length : Int))) = true then
  (gidx vals1 t28).bind fun xv38 =>
  if (xv38 != 0) = true then
  some xv38
  else
  rec30 (IntKind.i64.wrap (t28 + 1))
  else
  some 0
def F_cmp_Or_int_L1 (vals1 : List Int) : Nat → Int → Option Int
  | 0 => fun _ => none
  | k + 1 => F_cmp_Or_int_l1 (F_cmp_Or_int_L1 vals1 k) vals1
def F_cmp_Or_int (vals1 : List Int) : Option Int :=
  F_cmp_Or_int_L1 vals1 fuel0 0
def F_cache_Cache_Advance_1 (av1 : T_flow_Record) (b2 : T_flow_Record) (cv3 : T_cache_Cache) : Option Int :=
  (F_cache_Cache_due cv3 av1).bind fun y21 =>
  (F_cache_Cache_due cv3 b2).bind fun y25 =>
  (F_cmp_Compare_uint64 y21 y25).bind fun y29 =>
  (F_cache_byKey av1 b2).bind fun y33 =>
  (F_cmp_Or_int ([y29, y33] : List Int)).bind fun y40 =>
  some y40
instance : Inhabited T_flow_Record := ⟨(T_flow_Record.mk (T_packet_Key.mk (T_addr_Addr.mk false (List.replicate 16 0)) (T_addr_Addr.mk false (List.replicate 16 0)) 0 0 0) 0 0 0 0 0 0 0)⟩
def cf_cache_Cache_Advance_1 (p : T_cache_Cache) (x y : T_flow_Record) : Int := (F_cache_Cache_Advance_1 x y p).getD 0
def F_slices_SortFunc_flow_Record_flow_Record_cache_Cache_Advance_1 (xs : List T_flow_Record) (p : T_cache_Cache) : Option (List T_flow_Record) :=
  if decide (xs.length ≤ lim) = true then some (srt (cf_cache_Cache_Advance_1 p) xs) else none
def F_cache_Cache_Advance_2 (rv1 : T_flow_Record) (cv2 : T_cache_Cache) : Option Int :=
  (F_cache_Cache_idle cv2 rv1).bind fun y18 =>
  (F_cache_Cache_due cv2 rv1).bind fun y22 =>
  if (y18 == y22) = true then
  some 1
  else
  some 2
def F_table_Table_Size (t1 : T_table_Table) : Option (Int × T_table_Table) :=
  some ((t1.f_slots.length : Int), t1)
def F_table_Hash_l1 (rec37 : Int → Int → Option Int) (y9 : (List Int)) (h33 : Int) (t35 : Int) : Option Int :=
  if (decide (t35 < (y9.length : Int))) = true then
  (gidx y9 t35).bind fun xv45 =>
  rec37 (IntKind.u64.wrap ((bits .xor .u64 h33 (IntKind.u64.wrap xv45)) * 1099511628211)) (IntKind.i64.wrap (t35 + 1))
  else
  some h33
def F_table_Hash_L1 (y9 : (List Int)) : Nat → Int → Int → Option Int
  | 0 => fun _ _ => none
  | k + 1 => F_table_Hash_l1 (F_table_Hash_L1 y9 k) y9
def F_table_Hash (kv1 : T_packet_Key) : Option Int :=
  (F_packet_Key_Bytes kv1).bind fun y9 =>
  F_table_Hash_L1 y9 fuel0 14695981039346656037 0
def F_table_Table_find_j2 (y46 : Int × T_table_Table) (t173 : Int) (t178 : Int) (y188 : Int) : Option (Int × Int × T_table_Table) :=
  some ((IntKind.i64.wrap (Int.tmod (IntKind.u64.wrap (y188 + t173)) (IntKind.u64.wrap y46.1))), (IntKind.i64.wrap (t178 + 1)), y46.2)
def F_table_Table_find_j1 (y46 : Int × T_table_Table) (t173 : Int) (t178 : Int) (rec181 : Int → Int → Option (Int × Int × T_table_Table)) (y188 : Int) (t209 : Bool) : Option (Int × Int × T_table_Table) :=
  if t209 = true then
  F_table_Table_find_j2 y46 t173 t178 y188
  else
  rec181 (IntKind.u64.wrap (t173 + 1)) (IntKind.i64.wrap (t178 + 1))
def F_table_Table_find_j3 (y46 : Int × T_table_Table) (t178 : Int) : Option (Int × Int × T_table_Table) :=
  some ((-1), t178, y46.2)
def F_table_Table_find_l1 (rec181 : Int → Int → Option (Int × Int × T_table_Table)) (kv8 : T_packet_Key) (y46 : Int × T_table_Table) (t173 : Int) (t178 : Int) : Option (Int × Int × T_table_Table) :=
  if (decide (t173 < (IntKind.u64.wrap y46.1))) = true then
  (F_table_Hash kv8).bind fun y188 =>
  if (decide ((IntKind.u64.wrap y46.1) ≠ 0)) = true then
  (gidx y46.2.f_slots (IntKind.i64.wrap (Int.tmod (IntKind.u64.wrap (y188 + t173)) (IntKind.u64.wrap y46.1)))).bind fun xv199 =>
  if (!xv199.f_Used) = true then
  F_table_Table_find_j1 y46 t173 t178 rec181 y188 true
  else
  (gidx y46.2.f_slots (IntKind.i64.wrap (Int.tmod (IntKind.u64.wrap (y188 + t173)) (IntKind.u64.wrap y46.1)))).bind fun xv202 =>
  F_table_Table_find_j1 y46 t173 t178 rec181 y188 (q_packet_Key xv202.f_Key kv8)
  else none
  else
  F_table_Table_find_j3 y46 t178
def F_table_Table_find_L1 (kv8 : T_packet_Key) (y46 : Int × T_table_Table) : Nat → Int → Int → Option (Int × Int × T_table_Table)
  | 0 => fun _ _ => none
  | k + 1 => F_table_Table_find_l1 (F_table_Table_find_L1 kv8 y46 k) kv8 y46
def F_table_Table_find (t1 : T_table_Table) (kv8 : T_packet_Key) : Option (Int × Int × T_table_Table) :=
  (F_table_Table_Size t1).bind fun y46 =>
  F_table_Table_find_L1 kv8 y46 fuel0 0 0
def F_table_Table_has_j1 (y15 : Int × Int × T_table_Table) (t28 : Bool) : Option (Int × T_table_Table) :=
  if t28 = true then
  some ((-1), y15.2.2)
  else
  some (y15.1, y15.2.2)
def F_table_Table_has (t1 : T_table_Table) (kv8 : T_packet_Key) : Option (Int × T_table_Table) :=
  (F_table_Table_find t1 kv8).bind fun y15 =>
  if (decide (0 ≤ y15.1)) = true then
  (gidx y15.2.2.f_slots y15.1).bind fun xv25 =>
  F_table_Table_has_j1 y15 (!xv25.f_Used)
  else
  F_table_Table_has_j1 y15 false
def F_table_Table_Get (t1 : T_table_Table) (kv8 : T_packet_Key) : Option (Int × Bool × T_table_Table) :=
  (F_table_Table_has t1 kv8).bind fun y15 =>
  if (decide (y15.1 < 0)) = true then
  some (0, false, y15.2)
  else
  (gidx y15.2.f_slots y15.1).bind fun xv28 =>
  some (xv28.f_N, true, y15.2)
def F_table_Table_Delete_j1 (p160 : List T_table_Slot) (p161 : Int) : Option (Bool × T_table_Table) :=
  some (true, (T_table_Table.mk p160 p161))
def F_table_Table_Delete_l1 (rec119 : (List T_table_Slot) → Int → Int → Option (Bool × T_table_Table)) (y15 : Int × T_table_Table) (p115 : List T_table_Slot) (p116 : Int) (t117 : Int) : Option (Bool × T_table_Table) :=
  if (decide (t117 < (IntKind.i64.wrap ((y15.2.f_slots.length : Int) - 1)))) = true then
  if (decide ((y15.2.f_slots.length : Int) ≠ 0)) = true then
  (gidx p115 (Int.tmod (IntKind.i64.wrap ((IntKind.i64.wrap (y15.1 + 1)) + t117)) (y15.2.f_slots.length : Int))).bind fun xv130 =>
  if (!xv130.f_Used) = true then
  F_table_Table_Delete_j1 p115 p116
  else
  (gidx p115 (Int.tmod (IntKind.i64.wrap ((IntKind.i64.wrap (y15.1 + 1)) + t117)) (y15.2.f_slots.length : Int))).bind fun xv140 =>
  (F_table_Table_find (T_table_Table.mk (p115.set ((Int.tmod (IntKind.i64.wrap ((IntKind.i64.wrap (y15.1 + 1)) + t117)) (y15.2.f_slots.length : Int)) : Int).toNat (T_table_Slot.mk false (T_packet_Key.mk (T_addr_Addr.mk false (List.replicate 16 0)) (T_addr_Addr.mk false (List.replicate 16 0)) 0 0 0) 0)) p116) xv130.f_Key).bind fun y144 =>
  (gidx y144.2.2.f_slots y144.1).bind fun xv153 =>
  rec119 (y144.2.2.f_slots.set (y144.1 : Int).toNat xv130) y144.2.2.f_many (IntKind.i64.wrap (t117 + 1))
  else none
  else
  F_table_Table_Delete_j1 p115 p116
def F_table_Table_Delete_L1 (y15 : Int × T_table_Table) : Nat → (List T_table_Slot) → Int → Int → Option (Bool × T_table_Table)
  | 0 => fun _ _ _ => none
  | k + 1 => F_table_Table_Delete_l1 (F_table_Table_Delete_L1 y15 k) y15
def F_table_Table_Delete (t1 : T_table_Table) (kv8 : T_packet_Key) : Option (Bool × T_table_Table) :=
  (F_table_Table_has t1 kv8).bind fun y15 =>
  if (decide (y15.1 < 0)) = true then
  some (false, y15.2)
  else
  (gidx y15.2.f_slots y15.1).bind fun xv29 =>
  F_table_Table_Delete_L1 y15 fuel0 (y15.2.f_slots.set (y15.1 : Int).toNat (T_table_Slot.mk false (T_packet_Key.mk (T_addr_Addr.mk false (List.replicate 16 0)) (T_addr_Addr.mk false (List.replicate 16 0)) 0 0 0) 0)) (IntKind.i64.wrap (y15.2.f_many - 1)) 0
def F_table_Table_Put_j1 (kv8 : T_packet_Key) (nv9 : Int) (y16 : Int × Int × T_table_Table) (p39 : Int) : Option (Int × T_table_Table) :=
  (gidx y16.2.2.f_slots y16.1).bind fun xv45 =>
  some (0, (T_table_Table.mk (y16.2.2.f_slots.set (y16.1 : Int).toNat (T_table_Slot.mk true kv8 nv9)) p39))
def F_table_Table_Put (t1 : T_table_Table) (kv8 : T_packet_Key) (nv9 : Int) : Option (Int × T_table_Table) :=
  (F_table_Table_find t1 kv8).bind fun y16 =>
  (F_packet_Key_Right kv8).bind fun y25 =>
  if (!y25) = true then
  some (2, y16.2.2)
  else
  if (decide (y16.1 < 0)) = true then
  some (230, y16.2.2)
  else
  (gidx y16.2.2.f_slots y16.1).bind fun xv35 =>
  if (!xv35.f_Used) = true then
  F_table_Table_Put_j1 kv8 nv9 y16 (IntKind.i64.wrap (y16.2.2.f_many + 1))
  else
  F_table_Table_Put_j1 kv8 nv9 y16 y16.2.2.f_many
def F_cache_Cache_end_j1 (cv1 : T_cache_Cache) (reason14 : Int) (xv34 : T_flow_Record) (p75 : List T_table_Slot) (p76 : Int) (p80 : List T_flow_Record) : Option (T_flow_Record × T_cache_Cache) :=
  (gcut p80 0 (IntKind.i64.wrap ((cv1.f_flows.length : Int) - 1))).bind fun cut85 =>
  some ((T_flow_Record.mk xv34.f_Key xv34.f_Packets xv34.f_Bytes xv34.f_First xv34.f_Last xv34.f_Flags reason14 xv34.f_Class), (T_cache_Cache.mk cv1.f_tick cv1.f_bounds (T_table_Table.mk p75 p76) cut85))
def F_cache_Cache_end (cv1 : T_cache_Cache) (kv13 : T_packet_Key) (reason14 : Int) : Option (T_flow_Record × T_cache_Cache) :=
  (F_table_Table_Get cv1.f_places kv13).bind fun y24 =>
  (gidx cv1.f_flows y24.1).bind fun xv34 =>
  (F_table_Table_Delete y24.2.2 kv13).bind fun y41 =>
  (gidx cv1.f_flows (IntKind.i64.wrap ((cv1.f_flows.length : Int) - 1))).bind fun xv51 =>
  if ((IntKind.u64.wrap (IntKind.i64.wrap ((cv1.f_flows.length : Int) - 1))) != y24.1) = true then
  (gidx cv1.f_flows y24.1).bind fun xv60 =>
  (F_table_Table_Put y41.2 xv51.f_Key y24.1).bind fun y63 =>
  F_cache_Cache_end_j1 cv1 reason14 xv34 y63.2.f_slots y63.2.f_many (cv1.f_flows.set (y24.1 : Int).toNat xv51)
  else
  F_cache_Cache_end_j1 cv1 reason14 xv34 y41.2.f_slots y41.2.f_many cv1.f_flows
def F_cache_Cache_Advance_j2 (t117 : Int) (rec119 : (List T_flow_Record) → Int → Option ((List T_flow_Record) × T_cache_Cache)) (lv152 : List T_flow_Record) : Option ((List T_flow_Record) × T_cache_Cache) :=
  rec119 lv152 (IntKind.i64.wrap (t117 + 1))
def F_cache_Cache_Advance_l2 (rec285 : Int → Int → Int → Int → Int → Int → (List T_table_Slot) → Int → (List T_flow_Record) → (List T_flow_Record) → Int → Option ((List T_flow_Record) × T_cache_Cache)) (y155 : List T_flow_Record) (p260 : Int) (p261 : Int) (p262 : Int) (p263 : Int) (p264 : Int) (p265 : Int) (p271 : List T_table_Slot) (p272 : Int) (p276 : List T_flow_Record) (xv281 : List T_flow_Record) (t283 : Int) : Option ((List T_flow_Record) × T_cache_Cache) :=
  if (decide (t283 < (y155.length : Int))) = true then
  (gidx y155 t283).bind fun xv293 =>
  (F_cache_Cache_Advance_2 xv293 (T_cache_Cache.mk p260 (T_cache_Bounds.mk p261 p262 p263 p264 p265) (T_table_Table.mk p271 p272) p276)).bind fun y298 =>
  (F_cache_Cache_end (T_cache_Cache.mk p260 (T_cache_Bounds.mk p261 p262 p263 p264 p265) (T_table_Table.mk p271 p272) p276) xv293.f_Key y298).bind fun y302 =>
  if (decide (xv281.length + ([y302.1] : List T_flow_Record).length ≤ lim)) = true then
  rec285 y302.2.f_tick y302.2.f_bounds.f_Flows y302.2.f_bounds.f_Idle y302.2.f_bounds.f_Active y302.2.f_bounds.f_Packets y302.2.f_bounds.f_Bytes y302.2.f_places.f_slots y302.2.f_places.f_many y302.2.f_flows (xv281 ++ ([y302.1] : List T_flow_Record)) (IntKind.i64.wrap (t283 + 1))
  else none
  else
  some (xv281, (T_cache_Cache.mk p260 (T_cache_Bounds.mk p261 p262 p263 p264 p265) (T_table_Table.mk p271 p272) p276))
def F_cache_Cache_Advance_L2 (y155 : List T_flow_Record) : Nat → Int → Int → Int → Int → Int → Int → (List T_table_Slot) → Int → (List T_flow_Record) → (List T_flow_Record) → Int → Option ((List T_flow_Record) × T_cache_Cache)
  | 0 => fun _ _ _ _ _ _ _ _ _ _ _ => none
  | k + 1 => F_cache_Cache_Advance_l2 (F_cache_Cache_Advance_L2 y155 k) y155
def F_cache_Cache_Advance_l1 (rec119 : (List T_flow_Record) → Int → Option ((List T_flow_Record) × T_cache_Cache)) (cv1 : T_cache_Cache) (tick13 : Int) (lv116 : List T_flow_Record) (t117 : Int) : Option ((List T_flow_Record) × T_cache_Cache) :=
  if (decide (t117 < (cv1.f_flows.length : Int))) = true then
  (gidx cv1.f_flows t117).bind fun xv126 =>
  (F_cache_Cache_due (T_cache_Cache.mk tick13 cv1.f_bounds cv1.f_places cv1.f_flows) xv126).bind fun y132 =>
  if (decide (y132 ≤ tick13)) = true then
  if (decide (lv116.length + ([xv126] : List T_flow_Record).length ≤ lim)) = true then
  F_cache_Cache_Advance_j2 t117 rec119 (lv116 ++ ([xv126] : List T_flow_Record))
  else none
  else
  F_cache_Cache_Advance_j2 t117 rec119 lv116
  else
  (F_slices_SortFunc_flow_Record_flow_Record_cache_Cache_Advance_1 lv116 (T_cache_Cache.mk tick13 cv1.f_bounds cv1.f_places cv1.f_flows)).bind fun y155 =>
  F_cache_Cache_Advance_L2 y155 fuel0 tick13 cv1.f_bounds.f_Flows cv1.f_bounds.f_Idle cv1.f_bounds.f_Active cv1.f_bounds.f_Packets cv1.f_bounds.f_Bytes cv1.f_places.f_slots cv1.f_places.f_many cv1.f_flows ([]) 0
def F_cache_Cache_Advance_L1 (cv1 : T_cache_Cache) (tick13 : Int) : Nat → (List T_flow_Record) → Int → Option ((List T_flow_Record) × T_cache_Cache)
  | 0 => fun _ _ => none
  | k + 1 => F_cache_Cache_Advance_l1 (F_cache_Cache_Advance_L1 cv1 tick13 k) cv1 tick13
def F_cache_Cache_Advance_j1 (cv1 : T_cache_Cache) (tick13 : Int) : Option ((List T_flow_Record) × T_cache_Cache) :=
  if (decide (tick13 < cv1.f_tick)) = true then
  some ([], cv1)
  else
  F_cache_Cache_Advance_L1 cv1 tick13 fuel0 ([]) 0
def F_cache_Cache_Advance (cv1 : T_cache_Cache) (tick13 : Int) : Option ((List T_flow_Record) × T_cache_Cache) :=
  F_cache_Cache_Advance_j1 cv1 tick13
def F_cache_Cache_begin_1 (av1 : T_flow_Record) (b2 : T_flow_Record) : Option Int :=
  (F_cmp_Compare_uint64 av1.f_Last b2.f_Last).bind fun y11 =>
  (F_cache_byKey av1 b2).bind fun y15 =>
  (F_cmp_Or_int ([y11, y15] : List Int)).bind fun y22 =>
  some y22
def F_slices_MinFunc_flow_Record_flow_Record_fcache_Cache_begin_1_j2 (i117 : Int) (rec119 : Bool → (List Int) → Bool → (List Int) → Int → Int → Int → Int → Int → Int → Int → Int → Int → Int → Int → Option T_flow_Record) (m137 : Bool) (m138 : List Int) (m139 : Bool) (m140 : List Int) (m141 : Int) (m142 : Int) (m143 : Int) (m144 : Int) (m145 : Int) (m146 : Int) (m147 : Int) (m148 : Int) (m149 : Int) (m150 : Int) : Option T_flow_Record :=
  rec119 m137 m138 m139 m140 m141 m142 m143 m144 m145 m146 m147 m148 m149 m150 (IntKind.i64.wrap (i117 + 1))
def F_slices_MinFunc_flow_Record_flow_Record_fcache_Cache_begin_1_l1 (rec119 : Bool → (List Int) → Bool → (List Int) → Int → Int → Int → Int → Int → Int → Int → Int → Int → Int → Int → Option T_flow_Record) (xv1 : List T_flow_Record) (m103 : Bool) (m104 : List Int) (m105 : Bool) (m106 : List Int) (m107 : Int) (m108 : Int) (m109 : Int) (m110 : Int) (m111 : Int) (m112 : Int) (m113 : Int) (m114 : Int) (m115 : Int) (m116 : Int) (i117 : Int) : Option T_flow_Record :=
  if (decide (i117 < (xv1.length : Int))) = true then
  (gidx xv1 i117).bind fun xv126 =>
  (F_cache_Cache_begin_1 xv126 (T_flow_Record.mk (T_packet_Key.mk (T_addr_Addr.mk m103 m104) (T_addr_Addr.mk m105 m106) m107 m108 m109) m110 m111 m112 m113 m114 m115 m116)).bind fun y127 =>
  if (decide (y127 < 0)) = true then
  (gidx xv1 i117).bind fun xv133 =>
  F_slices_MinFunc_flow_Record_flow_Record_fcache_Cache_begin_1_j2 i117 rec119 xv133.f_Key.f_Src.f_Six xv133.f_Key.f_Src.f_B xv133.f_Key.f_Dst.f_Six xv133.f_Key.f_Dst.f_B xv133.f_Key.f_Proto xv133.f_Key.f_SrcPort xv133.f_Key.f_DstPort xv133.f_Packets xv133.f_Bytes xv133.f_First xv133.f_Last xv133.f_Flags xv133.f_Reason xv133.f_Class
  else
  F_slices_MinFunc_flow_Record_flow_Record_fcache_Cache_begin_1_j2 i117 rec119 m103 m104 m105 m106 m107 m108 m109 m110 m111 m112 m113 m114 m115 m116
  else
  some (T_flow_Record.mk (T_packet_Key.mk (T_addr_Addr.mk m103 m104) (T_addr_Addr.mk m105 m106) m107 m108 m109) m110 m111 m112 m113 m114 m115 m116)
def F_slices_MinFunc_flow_Record_flow_Record_fcache_Cache_begin_1_L1 (xv1 : List T_flow_Record) : Nat → Bool → (List Int) → Bool → (List Int) → Int → Int → Int → Int → Int → Int → Int → Int → Int → Int → Int → Option T_flow_Record
  | 0 => fun _ _ _ _ _ _ _ _ _ _ _ _ _ _ _ => none
  | k + 1 => F_slices_MinFunc_flow_Record_flow_Record_fcache_Cache_begin_1_l1 (F_slices_MinFunc_flow_Record_flow_Record_fcache_Cache_begin_1_L1 xv1 k) xv1
def F_slices_MinFunc_flow_Record_flow_Record_fcache_Cache_begin_1_j1 (xv1 : List T_flow_Record) : Option T_flow_Record :=
  (gidx xv1 0).bind fun xv15 =>
  F_slices_MinFunc_flow_Record_flow_Record_fcache_Cache_begin_1_L1 xv1 fuel0 xv15.f_Key.f_Src.f_Six xv15.f_Key.f_Src.f_B xv15.f_Key.f_Dst.f_Six xv15.f_Key.f_Dst.f_B xv15.f_Key.f_Proto xv15.f_Key.f_SrcPort xv15.f_Key.f_DstPort xv15.f_Packets xv15.f_Bytes xv15.f_First xv15.f_Last xv15.f_Flags xv15.f_Reason xv15.f_Class 1
def F_slices_MinFunc_flow_Record_flow_Record_fcache_Cache_begin_1 (xv1 : List T_flow_Record) : Option T_flow_Record :=
  if (decide ((xv1.length : Int) < 1)) = true then
  none
  else
  F_slices_MinFunc_flow_Record_flow_Record_fcache_Cache_begin_1_j1 xv1
def F_flow_Start (kv1 : T_packet_Key) (class2 : Int) (tick3 : Int) : Option T_flow_Record :=
  some (T_flow_Record.mk kv1 0 0 tick3 tick3 0 0 class2)
def F_cache_Cache_begin_j1 (kv13 : T_packet_Key) (class14 : Int) (p51 : Int) (p52 : Int) (p53 : Int) (p54 : Int) (p55 : Int) (p56 : Int) (p62 : List T_table_Slot) (p63 : Int) (p67 : List T_flow_Record) (out72 : List T_flow_Record) : Option ((List T_flow_Record) × T_cache_Cache) :=
  (F_table_Table_Put (T_table_Table.mk p62 p63) kv13 (IntKind.u64.wrap (p67.length : Int))).bind fun y75 =>
  (F_flow_Start kv13 class14 p51).bind fun y83 =>
  if (decide (p67.length + ([y83] : List T_flow_Record).length ≤ lim)) = true then
  some (out72, (T_cache_Cache.mk p51 (T_cache_Bounds.mk p52 p53 p54 p55 p56) y75.2 (p67 ++ ([y83] : List T_flow_Record))))
  else none
def F_cache_Cache_begin (cv1 : T_cache_Cache) (kv13 : T_packet_Key) (class14 : Int) : Option ((List T_flow_Record) × T_cache_Cache) :=
  if ((cv1.f_flows.length : Int) == cv1.f_bounds.f_Flows) = true then
  (F_slices_MinFunc_flow_Record_flow_Record_fcache_Cache_begin_1 cv1.f_flows).bind fun y22 =>
  (F_cache_Cache_end cv1 y22.f_Key 5).bind fun y30 =>
  if (decide (([y30.1] : List T_flow_Record).length ≤ lim)) = true then
  F_cache_Cache_begin_j1 kv13 class14 y30.2.f_tick y30.2.f_bounds.f_Flows y30.2.f_bounds.f_Idle y30.2.f_bounds.f_Active y30.2.f_bounds.f_Packets y30.2.f_bounds.f_Bytes y30.2.f_places.f_slots y30.2.f_places.f_many y30.2.f_flows ([y30.1] : List T_flow_Record)
  else none
  else
  F_cache_Cache_begin_j1 kv13 class14 cv1.f_tick cv1.f_bounds.f_Flows cv1.f_bounds.f_Idle cv1.f_bounds.f_Active cv1.f_bounds.f_Packets cv1.f_bounds.f_Bytes cv1.f_places.f_slots cv1.f_places.f_many cv1.f_flows ([])
def F_flow_Record_Total (rv1 : T_flow_Record) : Option T_flow_Total :=
  some (T_flow_Total.mk rv1.f_Packets rv1.f_Bytes)
def F_flow_plus (av1 : Int) (b2 : Int) : Option Int :=
  if (decide (0 < (hi64 av1 b2))) = true then
  some 18446744073709551615
  else
  some (lo64 av1 b2)
def F_flow_Total_Plus (t1 : T_flow_Total) (u2 : T_flow_Total) : Option T_flow_Total :=
  (F_flow_plus t1.f_Packets u2.f_Packets).bind fun y14 =>
  (F_flow_plus t1.f_Bytes u2.f_Bytes).bind fun y18 =>
  some (T_flow_Total.mk y14 y18)
def F_flow_Record_With_j2 (rv1 : T_flow_Record) (p2 : T_packet_Packet) (tick3 : Int) (t51 : Int) (t52 : Int) : Option T_flow_Record :=
  some (T_flow_Record.mk rv1.f_Key t51 t52 rv1.f_First (gmax rv1.f_Last tick3) (bits .or .u8 rv1.f_Flags p2.f_Flags) rv1.f_Reason rv1.f_Class)
def F_flow_Record_With_j1 (rv1 : T_flow_Record) (p2 : T_packet_Packet) (tick3 : Int) (t51 : Int) (t52 : Int) : Option T_flow_Record :=
  F_flow_Record_With_j2 rv1 p2 tick3 t51 t52
def F_flow_Record_With (rv1 : T_flow_Record) (p2 : T_packet_Packet) (tick3 : Int) : Option T_flow_Record :=
  (F_flow_Record_Total rv1).bind fun y14 =>
  (F_flow_Total_Plus y14 (T_flow_Total.mk 1 (IntKind.u64.wrap (gmax 0 p2.f_Length)))).bind fun y18 =>
  F_flow_Record_With_j1 rv1 p2 tick3 y18.f_Packets y18.f_Bytes
def F_cache_seen_j1 (t6 : Bool) : Option Bool :=
  some t6
def F_cache_seen (p1 : T_packet_Packet) : Option Bool :=
  if (p1.f_Key.f_Proto == 6) = true then
  if (!p1.f_Fragment) = true then
  F_cache_seen_j1 (decide (0 < (bits .and .u8 p1.f_Flags 5)))
  else
  F_cache_seen_j1 false
  else
  F_cache_seen_j1 false
def F_cache_Cache_Account_j3 (p208 : Int) (p209 : Int) (p210 : Int) (p211 : Int) (p212 : Int) (p213 : Int) (p219 : List T_table_Slot) (p220 : Int) (p224 : List T_flow_Record) (out228 : List T_flow_Record) : Option ((List T_flow_Record) × Int × T_cache_Cache) :=
  some (out228, 0, (T_cache_Cache.mk p208 (T_cache_Bounds.mk p209 p210 p211 p212 p213) (T_table_Table.mk p219 p220) p224))
def F_cache_Cache_Account_j4 (p13 : T_packet_Packet) (p75 : Int) (p76 : Int) (p77 : Int) (p78 : Int) (p79 : Int) (p80 : Int) (p91 : List T_flow_Record) (out96 : List T_flow_Record) (y99 : Int × Bool × T_table_Table) (rv133 : Bool) (rv134 : List Int) (rv135 : Bool) (rv136 : List Int) (rv137 : Int) (rv138 : Int) (rv139 : Int) (rv140 : Int) (rv141 : Int) (rv142 : Int) (rv143 : Int) (rv144 : Int) (rv145 : Int) (rv146 : Int) (t185 : Bool) : Option ((List T_flow_Record) × Int × T_cache_Cache) :=
  if t185 = true then
  (F_cache_Cache_end (T_cache_Cache.mk p75 (T_cache_Bounds.mk p76 p77 p78 p79 p80) y99.2.2 (p91.set (y99.1 : Int).toNat (T_flow_Record.mk (T_packet_Key.mk (T_addr_Addr.mk rv133 rv134) (T_addr_Addr.mk rv135 rv136) rv137 rv138 rv139) rv140 rv141 rv142 rv143 rv144 rv145 rv146))) p13.f_Key 4).bind fun y187 =>
  if (decide (out96.length + ([y187.1] : List T_flow_Record).length ≤ lim)) = true then
  F_cache_Cache_Account_j3 y187.2.f_tick y187.2.f_bounds.f_Flows y187.2.f_bounds.f_Idle y187.2.f_bounds.f_Active y187.2.f_bounds.f_Packets y187.2.f_bounds.f_Bytes y187.2.f_places.f_slots y187.2.f_places.f_many y187.2.f_flows (out96 ++ ([y187.1] : List T_flow_Record))
  else none
  else
  F_cache_Cache_Account_j3 p75 p76 p77 p78 p79 p80 y99.2.2.f_slots y99.2.2.f_many (p91.set (y99.1 : Int).toNat (T_flow_Record.mk (T_packet_Key.mk (T_addr_Addr.mk rv133 rv134) (T_addr_Addr.mk rv135 rv136) rv137 rv138 rv139) rv140 rv141 rv142 rv143 rv144 rv145 rv146)) out96
def F_cache_Cache_Account_j2 (p13 : T_packet_Packet) (p75 : Int) (p76 : Int) (p77 : Int) (p78 : Int) (p79 : Int) (p80 : Int) (p91 : List T_flow_Record) (out96 : List T_flow_Record) (y99 : Int × Bool × T_table_Table) (rv133 : Bool) (rv134 : List Int) (rv135 : Bool) (rv136 : List Int) (rv137 : Int) (rv138 : Int) (rv139 : Int) (rv140 : Int) (rv141 : Int) (rv142 : Int) (rv143 : Int) (rv144 : Int) (rv145 : Int) (rv146 : Int) : Option ((List T_flow_Record) × Int × T_cache_Cache) :=
  (gidx p91 y99.1).bind fun xv151 =>
  (F_cache_seen p13).bind fun y155 =>
  if y155 = true then
  (F_cache_Cache_end (T_cache_Cache.mk p75 (T_cache_Bounds.mk p76 p77 p78 p79 p80) y99.2.2 (p91.set (y99.1 : Int).toNat (T_flow_Record.mk (T_packet_Key.mk (T_addr_Addr.mk rv133 rv134) (T_addr_Addr.mk rv135 rv136) rv137 rv138 rv139) rv140 rv141 rv142 rv143 rv144 rv145 rv146))) p13.f_Key 3).bind fun y159 =>
  if (decide (out96.length + ([y159.1] : List T_flow_Record).length ≤ lim)) = true then
  F_cache_Cache_Account_j3 y159.2.f_tick y159.2.f_bounds.f_Flows y159.2.f_bounds.f_Idle y159.2.f_bounds.f_Active y159.2.f_bounds.f_Packets y159.2.f_bounds.f_Bytes y159.2.f_places.f_slots y159.2.f_places.f_many y159.2.f_flows (out96 ++ ([y159.1] : List T_flow_Record))
  else none
  else
  if (decide (p79 ≤ rv140)) = true then
  F_cache_Cache_Account_j4 p13 p75 p76 p77 p78 p79 p80 p91 out96 y99 rv133 rv134 rv135 rv136 rv137 rv138 rv139 rv140 rv141 rv142 rv143 rv144 rv145 rv146 true
  else
  F_cache_Cache_Account_j4 p13 p75 p76 p77 p78 p79 p80 p91 out96 y99 rv133 rv134 rv135 rv136 rv137 rv138 rv139 rv140 rv141 rv142 rv143 rv144 rv145 rv146 (decide (p80 ≤ rv141))
def F_cache_Cache_Account_j1 (p13 : T_packet_Packet) (p75 : Int) (p76 : Int) (p77 : Int) (p78 : Int) (p79 : Int) (p80 : Int) (p86 : List T_table_Slot) (p87 : Int) (p91 : List T_flow_Record) (out96 : List T_flow_Record) : Option ((List T_flow_Record) × Int × T_cache_Cache) :=
  (F_table_Table_Get (T_table_Table.mk p86 p87) p13.f_Key).bind fun y99 =>
  (gidx p91 y99.1).bind fun xv108 =>
  (F_flow_Record_With xv108 p13 p75).bind fun y109 =>
  F_cache_Cache_Account_j2 p13 p75 p76 p77 p78 p79 p80 p91 out96 y99 y109.f_Key.f_Src.f_Six y109.f_Key.f_Src.f_B y109.f_Key.f_Dst.f_Six y109.f_Key.f_Dst.f_B y109.f_Key.f_Proto y109.f_Key.f_SrcPort y109.f_Key.f_DstPort y109.f_Packets y109.f_Bytes y109.f_First y109.f_Last y109.f_Flags y109.f_Reason y109.f_Class
def F_cache_Cache_Account (cv1 : T_cache_Cache) (p13 : T_packet_Packet) (class14 : Int) (tick15 : Int) : Option ((List T_flow_Record) × Int × T_cache_Cache) :=
  (F_packet_Key_Right p13.f_Key).bind fun y24 =>
  if (!y24) = true then
  some ([], 2, cv1)
  else
  (F_cache_Cache_Advance cv1 tick15).bind fun y30 =>
  (F_table_Table_Get y30.2.f_places p13.f_Key).bind fun y46 =>
  if (!y46.2.1) = true then
  (F_cache_Cache_begin (T_cache_Cache.mk y30.2.f_tick y30.2.f_bounds y46.2.2 y30.2.f_flows) p13.f_Key class14).bind fun y54 =>
  if (decide (y30.1.length + y54.1.length ≤ lim)) = true then
  F_cache_Cache_Account_j1 p13 y54.2.f_tick y54.2.f_bounds.f_Flows y54.2.f_bounds.f_Idle y54.2.f_bounds.f_Active y54.2.f_bounds.f_Packets y54.2.f_bounds.f_Bytes y54.2.f_places.f_slots y54.2.f_places.f_many y54.2.f_flows (y30.1 ++ y54.1)
  else none
  else
  F_cache_Cache_Account_j1 p13 y30.2.f_tick y30.2.f_bounds.f_Flows y30.2.f_bounds.f_Idle y30.2.f_bounds.f_Active y30.2.f_bounds.f_Packets y30.2.f_bounds.f_Bytes y46.2.2.f_slots y46.2.2.f_many y30.2.f_flows y30.1
def F_cache_Cache_Next_j1 (t86 : Int) (rec88 : Int → Bool → Int → Option (Int × Bool × T_cache_Cache)) (atv115 : Int) (ok116 : Bool) : Option (Int × Bool × T_cache_Cache) :=
  rec88 atv115 ok116 (IntKind.i64.wrap (t86 + 1))
def F_cache_Cache_Next_j2 (atv84 : Int) (ok85 : Bool) (t86 : Int) (rec88 : Int → Bool → Int → Option (Int × Bool × T_cache_Cache)) (y101 : Int) (t109 : Bool) : Option (Int × Bool × T_cache_Cache) :=
  if t109 = true then
  F_cache_Cache_Next_j1 t86 rec88 y101 true
  else
  F_cache_Cache_Next_j1 t86 rec88 atv84 ok85
def F_cache_Cache_Next_l1 (rec88 : Int → Bool → Int → Option (Int × Bool × T_cache_Cache)) (cv1 : T_cache_Cache) (atv84 : Int) (ok85 : Bool) (t86 : Int) : Option (Int × Bool × T_cache_Cache) :=
  if (decide (t86 < (cv1.f_flows.length : Int))) = true then
  (gidx cv1.f_flows t86).bind fun xv95 =>
  (F_cache_Cache_due cv1 xv95).bind fun y101 =>
  if (!ok85) = true then
  F_cache_Cache_Next_j2 atv84 ok85 t86 rec88 y101 true
  else
  F_cache_Cache_Next_j2 atv84 ok85 t86 rec88 y101 (decide (y101 < atv84))
  else
  some (atv84, ok85, cv1)
def F_cache_Cache_Next_L1 (cv1 : T_cache_Cache) : Nat → Int → Bool → Int → Option (Int × Bool × T_cache_Cache)
  | 0 => fun _ _ _ => none
  | k + 1 => F_cache_Cache_Next_l1 (F_cache_Cache_Next_L1 cv1 k) cv1
def F_cache_Cache_Next (cv1 : T_cache_Cache) : Option (Int × Bool × T_cache_Cache) :=
  F_cache_Cache_Next_L1 cv1 fuel0 0 false 0
def F_law24_works_j5 (t242 : Bool) : Option Bool :=
  some t242
def F_law24_works_j4 (one126 : Bool) (y169 : (List T_flow_Record) × Int × T_cache_Cache) (two194 : Bool) : Option Bool :=
  (F_law24_udp1 2).bind fun y197 =>
  (F_cache_Cache_Account y169.2.2 y197 0 12).bind fun y201 =>
  (F_law24_udp1 2).bind fun y217 =>
  (F_cache_Cache_Account y201.2.2 y217 0 12).bind fun y221 =>
  if one126 = true then
  if two194 = true then
  if ((y201.1.length : Int) == 0) = true then
  if ((y221.1.length : Int) == 1) = true then
  (gidx y221.1 0).bind fun xv238 =>
  if (xv238.f_Packets == 3) = true then
  (gidx y221.1 0).bind fun xv241 =>
  F_law24_works_j5 (xv241.f_Reason == 4)
  else
  F_law24_works_j5 false
  else
  F_law24_works_j5 false
  else
  F_law24_works_j5 false
  else
  F_law24_works_j5 false
  else
  F_law24_works_j5 false
def F_law24_works_j3 (y45 : T_packet_Packet) (y100 : (List T_flow_Record) × T_cache_Cache) (one126 : Bool) : Option Bool :=
  (F_cache_Cache_Account y100.2 y45 0 9).bind fun y129 =>
  (F_law24_udp1 2).bind fun y145 =>
  (F_cache_Cache_Account y129.2.2 y145 0 10).bind fun y149 =>
  (F_law24_udp1 3).bind fun y165 =>
  (F_cache_Cache_Account y149.2.2 y165 0 11).bind fun y169 =>
  if ((y169.1.length : Int) == 1) = true then
  (gidx y169.1 0).bind fun xv186 =>
  if (q_packet_Key xv186.f_Key y45.f_Key) = true then
  (gidx y169.1 0).bind fun xv189 =>
  F_law24_works_j4 one126 y169 (xv189.f_Reason == 5)
  else
  F_law24_works_j4 one126 y169 false
  else
  F_law24_works_j4 one126 y169 false
def F_law24_works_j2 (y11 : Int) (xv18 : Bool) : Option Bool :=
  if xv18 = true then
  some false
  else
  if (decide (0 ≤ (Ox.shl .i64 1 y11) ∧ (Ox.shl .i64 1 y11) ≤ lim)) = true then
  (F_law24_udp1 1).bind fun y45 =>
  (F_cache_Cache_Account (T_cache_Cache.mk 0 (T_cache_Bounds.mk 2 5 20 3 1000) (T_table_Table.mk (List.replicate (Int.toNat (Ox.shl .i64 1 y11)) ((T_table_Slot.mk false (T_packet_Key.mk (T_addr_Addr.mk false (List.replicate 16 0)) (T_addr_Addr.mk false (List.replicate 16 0)) 0 0 0) 0) : T_table_Slot)) 0) ([] : List T_flow_Record)) y45 0 1).bind fun y55 =>
  (F_cache_Cache_Account y55.2.2 y45 0 3).bind fun y71 =>
  (F_cache_Cache_Next y71.2.2).bind fun y87 =>
  (F_cache_Cache_Advance y87.2.2 8).bind fun y100 =>
  if ((y55.1.length : Int) == 0) = true then
  if ((y71.1.length : Int) == 0) = true then
  if (y87.1 == 8) = true then
  if y87.2.1 = true then
  if ((y100.1.length : Int) == 1) = true then
  (gidx y100.1 0).bind fun xv117 =>
  if (xv117.f_Packets == 2) = true then
  (gidx y100.1 0).bind fun xv120 =>
  F_law24_works_j3 y45 y100 (xv120.f_Reason == 1)
  else
  F_law24_works_j3 y45 y100 false
  else
  F_law24_works_j3 y45 y100 false
  else
  F_law24_works_j3 y45 y100 false
  else
  F_law24_works_j3 y45 y100 false
  else
  F_law24_works_j3 y45 y100 false
  else
  F_law24_works_j3 y45 y100 false
  else none
def F_law24_works_j1 : Option Bool :=
  (F_math_bits_Len (IntKind.u64.wrap 2)).bind fun y11 =>
  if (decide (¬ y11 < 0)) = true then
  if (decide ((Ox.shl .i64 1 y11) < 1)) = true then
  F_law24_works_j2 y11 true
  else
  if (decide (65536 < (Ox.shl .i64 1 y11))) = true then
  F_law24_works_j2 y11 true
  else
  F_law24_works_j2 y11 ((bits .and .i64 (Ox.shl .i64 1 y11) (IntKind.i64.wrap ((Ox.shl .i64 1 y11) - 1))) != 0)
  else none
def F_law24_works : Option Bool :=
  F_law24_works_j1
def F_docs_Bounds (b1 : T_cache_Bounds) : Option T_cache_Bounds :=
  some b1
def F_ref04_Right_j1 (i29 : Int) (rec31 : Int → Option Bool) (t39 : Bool) : Option Bool :=
  if t39 = true then
  some false
  else
  rec31 (IntKind.i64.wrap (i29 + 1))
def F_ref04_Right_l1 (rec31 : Int → Option Bool) (av1 : T_addr_Addr) (i29 : Int) : Option Bool :=
  if (decide (i29 < 16)) = true then
  if (!av1.f_Six) = true then
  (gidxA 16 av1.f_B i29).bind fun xv37 =>
  F_ref04_Right_j1 i29 rec31 (xv37 != 0)
  else
  F_ref04_Right_j1 i29 rec31 false
  else
  some true
def F_ref04_Right_L1 (av1 : T_addr_Addr) : Nat → Int → Option Bool
  | 0 => fun _ => none
  | k + 1 => F_ref04_Right_l1 (F_ref04_Right_L1 av1 k) av1
def F_ref04_Right (av1 : T_addr_Addr) : Option Bool :=
  F_ref04_Right_L1 av1 fuel0 4
def F_ref08_ports_j1 (t3 : Bool) : Option Bool :=
  some t3
def F_ref08_ports (proto1 : Int) : Option Bool :=
  if (proto1 == 6) = true then
  F_ref08_ports_j1 true
  else
  F_ref08_ports_j1 (proto1 == 17)
def F_ref08_icmp_j1 (t3 : Bool) : Option Bool :=
  some t3
def F_ref08_icmp (proto1 : Int) : Option Bool :=
  if (proto1 == 1) = true then
  F_ref08_icmp_j1 true
  else
  F_ref08_icmp_j1 (proto1 == 58)
def F_ref08_Right_j2 (t27 : Bool) : Option Bool :=
  some t27
def F_ref08_Right_j1 (kv1 : T_ref08_Key) (t16 : Bool) : Option Bool :=
  if t16 = true then
  some false
  else
  (F_ref08_ports kv1.f_Proto).bind fun y19 =>
  if y19 = true then
  F_ref08_Right_j2 true
  else
  if (kv1.f_SrcPort == 0) = true then
  (F_ref08_icmp kv1.f_Proto).bind fun y23 =>
  if y23 = true then
  F_ref08_Right_j2 true
  else
  F_ref08_Right_j2 (kv1.f_DstPort == 0)
  else
  F_ref08_Right_j2 false
def F_ref08_Right (kv1 : T_ref08_Key) : Option Bool :=
  (F_ref04_Right kv1.f_Src).bind fun y7 =>
  if (!y7) = true then
  F_ref08_Right_j1 kv1 true
  else
  (F_ref04_Right kv1.f_Dst).bind fun y11 =>
  if (!y11) = true then
  F_ref08_Right_j1 kv1 true
  else
  F_ref08_Right_j1 kv1 (!(kv1.f_Src.f_Six == kv1.f_Dst.f_Six))
def F_ref10_most : Option Int :=
  some 18446744073709551615
def F_ref10_Plus (av1 : Int) (b2 : Int) : Option Int :=
  (F_ref10_most).bind fun y6 =>
  if (decide ((IntKind.u64.wrap (y6 - b2)) < av1)) = true then
  (F_ref10_most).bind fun y11 =>
  some y11
  else
  some (IntKind.u64.wrap (av1 + b2))
def F_ref24_Cache_idle (cv1 : T_ref24_Cache) (rv6 : T_ref22_Record) : Option Int :=
  (F_ref10_Plus rv6.f_Last cv1.f_Bounds.f_Idle).bind fun y13 =>
  some y13
def F_ref24_Cache_due (cv1 : T_ref24_Cache) (rv6 : T_ref22_Record) : Option Int :=
  (F_ref24_Cache_idle cv1 rv6).bind fun y13 =>
  (F_ref10_Plus rv6.f_First cv1.f_Bounds.f_Active).bind fun y17 =>
  some (gmin y13 y17)
def F_ref24_Cache_Next_j1 (i65 : Int) (rec67 : Int → Bool → Int → Option (Int × Bool × T_ref24_Cache)) (best92 : Int) (ok93 : Bool) : Option (Int × Bool × T_ref24_Cache) :=
  rec67 best92 ok93 (IntKind.i64.wrap (i65 + 1))
def F_ref24_Cache_Next_j2 (cv1 : T_ref24_Cache) (best63 : Int) (ok64 : Bool) (i65 : Int) (rec67 : Int → Bool → Int → Option (Int × Bool × T_ref24_Cache)) (t80 : Bool) : Option (Int × Bool × T_ref24_Cache) :=
  if t80 = true then
  (gidx cv1.f_L i65).bind fun xv85 =>
  (F_ref24_Cache_due cv1 xv85).bind fun y86 =>
  F_ref24_Cache_Next_j1 i65 rec67 y86 true
  else
  F_ref24_Cache_Next_j1 i65 rec67 best63 ok64
def F_ref24_Cache_Next_l1 (rec67 : Int → Bool → Int → Option (Int × Bool × T_ref24_Cache)) (cv1 : T_ref24_Cache) (best63 : Int) (ok64 : Bool) (i65 : Int) : Option (Int × Bool × T_ref24_Cache) :=
  if (decide (i65 < (cv1.f_L.length : Int))) = true then
  if (!ok64) = true then
  F_ref24_Cache_Next_j2 cv1 best63 ok64 i65 rec67 true
  else
  (gidx cv1.f_L i65).bind fun xv73 =>
  (F_ref24_Cache_due cv1 xv73).bind fun y74 =>
  F_ref24_Cache_Next_j2 cv1 best63 ok64 i65 rec67 (decide (y74 < best63))
  else
  some (best63, ok64, cv1)
def F_ref24_Cache_Next_L1 (cv1 : T_ref24_Cache) : Nat → Int → Bool → Int → Option (Int × Bool × T_ref24_Cache)
  | 0 => fun _ _ _ => none
  | k + 1 => F_ref24_Cache_Next_l1 (F_ref24_Cache_Next_L1 cv1 k) cv1
def F_ref24_Cache_Next (cv1 : T_ref24_Cache) : Option (Int × Bool × T_ref24_Cache) :=
  F_ref24_Cache_Next_L1 cv1 fuel0 0 false 0
def F_ref24_Cache_end (cv1 : T_ref24_Cache) (atv8 : Int) (reason9 : Int) : Option (T_ref22_Record × T_ref24_Cache) :=
  (gidx cv1.f_L atv8).bind fun xv18 =>
  (gcut cv1.f_L 0 atv8).bind fun cut27 =>
  if (decide (cut27.length ≤ lim)) = true then
  (gcut cv1.f_L (IntKind.i64.wrap (atv8 + 1)) ((cv1.f_L).length)).bind fun cut40 =>
  if (decide (cut27.length + cut40.length ≤ lim)) = true then
  some ((T_ref22_Record.mk xv18.f_Key xv18.f_Packets xv18.f_Bytes xv18.f_First xv18.f_Last xv18.f_Flags reason9 xv18.f_Class), (T_ref24_Cache.mk cv1.f_Tick cv1.f_Bounds (cut27 ++ cut40)))
  else none
  else none
def F_ref24_Cache_Advance_j2 (out210 : List T_ref22_Record) (rec212 : Int → Int → Int → Int → Int → Int → (List T_ref22_Record) → (List T_ref22_Record) → Option ((List T_ref22_Record) × T_ref24_Cache)) (y215 : Int × Bool × T_ref24_Cache) (atv256 : Int) (reason281 : Int) : Option ((List T_ref22_Record) × T_ref24_Cache) :=
  (F_ref24_Cache_end y215.2.2 atv256 reason281).bind fun y283 =>
  if (decide (out210.length + ([y283.1] : List T_ref22_Record).length ≤ lim)) = true then
  rec212 y283.2.f_Tick y283.2.f_Bounds.f_Flows y283.2.f_Bounds.f_Idle y283.2.f_Bounds.f_Active y283.2.f_Bounds.f_Packets y283.2.f_Bounds.f_Bytes y283.2.f_L (out210 ++ ([y283.1] : List T_ref22_Record))
  else none
def F_ref24_Cache_Advance_l2 (rec258 : Int → Option ((List T_ref22_Record) × T_ref24_Cache)) (out210 : List T_ref22_Record) (rec212 : Int → Int → Int → Int → Int → Int → (List T_ref22_Record) → (List T_ref22_Record) → Option ((List T_ref22_Record) × T_ref24_Cache)) (y215 : Int × Bool × T_ref24_Cache) (atv256 : Int) : Option ((List T_ref22_Record) × T_ref24_Cache) :=
  (gidx y215.2.2.f_L atv256).bind fun xv264 =>
  (F_ref24_Cache_due y215.2.2 xv264).bind fun y265 =>
  if (y265 != y215.1) = true then
  rec258 (IntKind.i64.wrap (atv256 + 1))
  else
  (gidx y215.2.2.f_L atv256).bind fun xv273 =>
  (F_ref24_Cache_idle y215.2.2 xv273).bind fun y274 =>
  if (y274 == y215.1) = true then
  F_ref24_Cache_Advance_j2 out210 rec212 y215 atv256 1
  else
  F_ref24_Cache_Advance_j2 out210 rec212 y215 atv256 2
def F_ref24_Cache_Advance_L2 (out210 : List T_ref22_Record) (rec212 : Int → Int → Int → Int → Int → Int → (List T_ref22_Record) → (List T_ref22_Record) → Option ((List T_ref22_Record) × T_ref24_Cache)) (y215 : Int × Bool × T_ref24_Cache) : Nat → Int → Option ((List T_ref22_Record) × T_ref24_Cache)
  | 0 => fun _ => none
  | k + 1 => F_ref24_Cache_Advance_l2 (F_ref24_Cache_Advance_L2 out210 rec212 y215 k) out210 rec212 y215
def F_ref24_Cache_Advance_j1 (out210 : List T_ref22_Record) (rec212 : Int → Int → Int → Int → Int → Int → (List T_ref22_Record) → (List T_ref22_Record) → Option ((List T_ref22_Record) × T_ref24_Cache)) (y215 : Int × Bool × T_ref24_Cache) (t226 : Bool) : Option ((List T_ref22_Record) × T_ref24_Cache) :=
  if t226 = true then
  some (out210, y215.2.2)
  else
  F_ref24_Cache_Advance_L2 out210 rec212 y215 fuel0 0
def F_ref24_Cache_Advance_l1 (rec212 : Int → Int → Int → Int → Int → Int → (List T_ref22_Record) → (List T_ref22_Record) → Option ((List T_ref22_Record) × T_ref24_Cache)) (tick8 : Int) (p197 : Int) (p198 : Int) (p199 : Int) (p200 : Int) (p201 : Int) (p202 : Int) (p206 : List T_ref22_Record) (out210 : List T_ref22_Record) : Option ((List T_ref22_Record) × T_ref24_Cache) :=
  (F_ref24_Cache_Next (T_ref24_Cache.mk p197 (T_cache_Bounds.mk p198 p199 p200 p201 p202) p206)).bind fun y215 =>
  if (!y215.2.1) = true then
  F_ref24_Cache_Advance_j1 out210 rec212 y215 true
  else
  F_ref24_Cache_Advance_j1 out210 rec212 y215 (decide (tick8 < y215.1))
def F_ref24_Cache_Advance_L1 (tick8 : Int) : Nat → Int → Int → Int → Int → Int → Int → (List T_ref22_Record) → (List T_ref22_Record) → Option ((List T_ref22_Record) × T_ref24_Cache)
  | 0 => fun _ _ _ _ _ _ _ _ => none
  | k + 1 => F_ref24_Cache_Advance_l1 (F_ref24_Cache_Advance_L1 tick8 k) tick8
def F_ref24_Cache_Advance (cv1 : T_ref24_Cache) (tick8 : Int) : Option ((List T_ref22_Record) × T_ref24_Cache) :=
  if (decide (tick8 < cv1.f_Tick)) = true then
  some ([], cv1)
  else
  F_ref24_Cache_Advance_L1 tick8 fuel0 tick8 cv1.f_Bounds.f_Flows cv1.f_Bounds.f_Idle cv1.f_Bounds.f_Active cv1.f_Bounds.f_Packets cv1.f_Bounds.f_Bytes cv1.f_L ([])
def F_ref04_size (six1 : Bool) : Option Int :=
  if six1 = true then
  some 16
  else
  some 4
def F_ref04_Bytes_l1 (rec56 : (List Int) → Int → Option ((List Int))) (av1 : T_addr_Addr) (out53 : List Int) (i54 : Int) : Option ((List Int)) :=
  (F_ref04_size av1.f_Six).bind fun y60 =>
  if (decide (i54 < y60)) = true then
  (gidxA 16 av1.f_B i54).bind fun xv66 =>
  if (decide (out53.length + ([xv66] : List Int).length ≤ lim)) = true then
  rec56 (out53 ++ ([xv66] : List Int)) (IntKind.i64.wrap (i54 + 1))
  else none
  else
  some out53
def F_ref04_Bytes_L1 (av1 : T_addr_Addr) : Nat → (List Int) → Int → Option ((List Int))
  | 0 => fun _ _ => none
  | k + 1 => F_ref04_Bytes_l1 (F_ref04_Bytes_L1 av1 k) av1
def F_ref04_Bytes (av1 : T_addr_Addr) : Option ((List Int)) :=
  F_ref04_Bytes_L1 av1 fuel0 ([]) 0
def F_ref01_Put_B (recF : Int → Int → Option ((List Int))) (v1 : Int) (size2 : Int) : Option ((List Int)) :=
  if (size2 == 0) = true then
  some ([])
  else
  (recF (IntKind.u64.wrap (Int.tdiv v1 256)) (IntKind.i64.wrap (size2 - 1))).bind fun y8 =>
  if (decide (y8.length + ([(IntKind.u8.wrap (Int.tmod v1 256))] : List Int).length ≤ lim)) = true then
  some (y8 ++ ([(IntKind.u8.wrap (Int.tmod v1 256))] : List Int))
  else none
def F_ref01_Put_R : Nat → Int → Int → Option ((List Int))
  | 0 => fun _ _ => none
  | k + 1 => F_ref01_Put_B (F_ref01_Put_R k)
def F_ref01_Put (v1 : Int) (size2 : Int) : Option ((List Int)) := F_ref01_Put_R fuel0 v1 size2
def F_ref08_Bytes_j1 (kv1 : T_ref08_Key) (out27 : List Int) : Option ((List Int)) :=
  (F_ref04_Bytes kv1.f_Src).bind fun y30 =>
  if (decide (out27.length + y30.length ≤ lim)) = true then
  (F_ref04_Bytes kv1.f_Dst).bind fun y43 =>
  if (decide ((out27 ++ y30).length + y43.length ≤ lim)) = true then
  if (decide (((out27 ++ y30) ++ y43).length + ([kv1.f_Proto] : List Int).length ≤ lim)) = true then
  (F_ref01_Put (IntKind.u64.wrap kv1.f_SrcPort) 2).bind fun y65 =>
  if (decide ((((out27 ++ y30) ++ y43) ++ ([kv1.f_Proto] : List Int)).length + y65.length ≤ lim)) = true then
  (F_ref01_Put (IntKind.u64.wrap kv1.f_DstPort) 2).bind fun y78 =>
  if (decide (((((out27 ++ y30) ++ y43) ++ ([kv1.f_Proto] : List Int)) ++ y65).length + y78.length ≤ lim)) = true then
  some (((((out27 ++ y30) ++ y43) ++ ([kv1.f_Proto] : List Int)) ++ y65) ++ y78)
  else none
  else none
  else none
  else none
  else none
def F_ref08_Bytes (kv1 : T_ref08_Key) : Option ((List Int)) :=
  (F_ref08_Right kv1).bind fun y8 =>
  if (!y8) = true then
  some ([])
  else
  if kv1.f_Src.f_Six = true then
  (gidx ([4] : List Int) 0).bind fun xv20 =>
  F_ref08_Bytes_j1 kv1 (([4] : List Int).set (0 : Int).toNat 6)
  else
  F_ref08_Bytes_j1 kv1 ([4] : List Int)
def F_ref08_Cmp (av1 : T_ref08_Key) (b2 : T_ref08_Key) : Option Int :=
  (F_ref08_Bytes av1).bind fun y11 =>
  (F_ref08_Bytes b2).bind fun y18 =>
  if (Op.bytesLess (strOfNums y11).toList (strOfNums y18).toList) = true then
  some (-1)
  else
  if (!(Op.bytesLess (strOfNums y11).toList (strOfNums y18).toList || (strOfNums y11).toList == (strOfNums y18).toList)) = true then
  some 1
  else
  some 0
def F_ref24_Cache_find_j2 (cv1 : T_ref24_Cache) (atv49 : Int) (t71 : Bool) : Option (Int × Bool × T_ref24_Cache) :=
  some (atv49, t71, cv1)
def F_ref24_Cache_find_j1 (cv1 : T_ref24_Cache) (kv8 : T_ref08_Key) (atv49 : Int) (rec51 : Int → Option (Int × Bool × T_ref24_Cache)) (t64 : Bool) : Option (Int × Bool × T_ref24_Cache) :=
  if t64 = true then
  rec51 (IntKind.i64.wrap (atv49 + 1))
  else
  if (decide (atv49 < (cv1.f_L.length : Int))) = true then
  (gidx cv1.f_L atv49).bind fun xv68 =>
  F_ref24_Cache_find_j2 cv1 atv49 (q_ref08_Key xv68.f_Key kv8)
  else
  F_ref24_Cache_find_j2 cv1 atv49 false
def F_ref24_Cache_find_l1 (rec51 : Int → Option (Int × Bool × T_ref24_Cache)) (cv1 : T_ref24_Cache) (kv8 : T_ref08_Key) (atv49 : Int) : Option (Int × Bool × T_ref24_Cache) :=
  if (decide (atv49 < (cv1.f_L.length : Int))) = true then
  (gidx cv1.f_L atv49).bind fun xv56 =>
  (F_ref08_Cmp xv56.f_Key kv8).bind fun y57 =>
  F_ref24_Cache_find_j1 cv1 kv8 atv49 rec51 (decide (y57 < 0))
  else
  F_ref24_Cache_find_j1 cv1 kv8 atv49 rec51 false
def F_ref24_Cache_find_L1 (cv1 : T_ref24_Cache) (kv8 : T_ref08_Key) : Nat → Int → Option (Int × Bool × T_ref24_Cache)
  | 0 => fun _ => none
  | k + 1 => F_ref24_Cache_find_l1 (F_ref24_Cache_find_L1 cv1 kv8 k) cv1 kv8
def F_ref24_Cache_find (cv1 : T_ref24_Cache) (kv8 : T_ref08_Key) : Option (Int × Bool × T_ref24_Cache) :=
  F_ref24_Cache_find_L1 cv1 kv8 fuel0 0
def F_ref22_Start (kv1 : T_ref08_Key) (class2 : Int) (tick3 : Int) : Option T_ref22_Record :=
  some (T_ref22_Record.mk kv1 0 0 tick3 tick3 0 0 class2)
def F_ref24_Cache_begin_j1 (kv8 : T_ref08_Key) (class9 : Int) (p91 : Int) (p92 : Int) (p93 : Int) (p94 : Int) (p95 : Int) (p96 : Int) (p100 : List T_ref22_Record) (out105 : List T_ref22_Record) : Option ((List T_ref22_Record) × T_ref24_Cache) :=
  (F_ref24_Cache_find (T_ref24_Cache.mk p91 (T_cache_Bounds.mk p92 p93 p94 p95 p96) p100) kv8).bind fun y108 =>
  (gcut y108.2.2.f_L 0 y108.1).bind fun cut117 =>
  if (decide (cut117.length ≤ lim)) = true then
  (F_ref22_Start kv8 class9 y108.2.2.f_Tick).bind fun y130 =>
  if (decide (cut117.length + ([y130] : List T_ref22_Record).length ≤ lim)) = true then
  (gcut y108.2.2.f_L y108.1 ((y108.2.2.f_L).length)).bind fun cut143 =>
  if (decide ((cut117 ++ ([y130] : List T_ref22_Record)).length + cut143.length ≤ lim)) = true then
  some (out105, (T_ref24_Cache.mk y108.2.2.f_Tick y108.2.2.f_Bounds ((cut117 ++ ([y130] : List T_ref22_Record)) ++ cut143)))
  else none
  else none
  else none
def F_ref24_Cache_begin_j2 (i57 : Int) (rec59 : Int → Int → Option ((List T_ref22_Record) × T_ref24_Cache)) (best73 : Int) : Option ((List T_ref22_Record) × T_ref24_Cache) :=
  rec59 best73 (IntKind.i64.wrap (i57 + 1))
def F_ref24_Cache_begin_l1 (rec59 : Int → Int → Option ((List T_ref22_Record) × T_ref24_Cache)) (cv1 : T_ref24_Cache) (kv8 : T_ref08_Key) (class9 : Int) (best56 : Int) (i57 : Int) : Option ((List T_ref22_Record) × T_ref24_Cache) :=
  if (decide (i57 < (cv1.f_L.length : Int))) = true then
  (gidx cv1.f_L i57).bind fun xv66 =>
  (gidx cv1.f_L best56).bind fun xv69 =>
  if (decide (xv66.f_Last < xv69.f_Last)) = true then
  F_ref24_Cache_begin_j2 i57 rec59 i57
  else
  F_ref24_Cache_begin_j2 i57 rec59 best56
  else
  (F_ref24_Cache_end cv1 best56 5).bind fun y75 =>
  if (decide (([y75.1] : List T_ref22_Record).length ≤ lim)) = true then
  F_ref24_Cache_begin_j1 kv8 class9 y75.2.f_Tick y75.2.f_Bounds.f_Flows y75.2.f_Bounds.f_Idle y75.2.f_Bounds.f_Active y75.2.f_Bounds.f_Packets y75.2.f_Bounds.f_Bytes y75.2.f_L ([y75.1] : List T_ref22_Record)
  else none
def F_ref24_Cache_begin_L1 (cv1 : T_ref24_Cache) (kv8 : T_ref08_Key) (class9 : Int) : Nat → Int → Int → Option ((List T_ref22_Record) × T_ref24_Cache)
  | 0 => fun _ _ => none
  | k + 1 => F_ref24_Cache_begin_l1 (F_ref24_Cache_begin_L1 cv1 kv8 class9 k) cv1 kv8 class9
def F_ref24_Cache_begin (cv1 : T_ref24_Cache) (kv8 : T_ref08_Key) (class9 : Int) : Option ((List T_ref22_Record) × T_ref24_Cache) :=
  if ((cv1.f_L.length : Int) == cv1.f_Bounds.f_Flows) = true then
  F_ref24_Cache_begin_L1 cv1 kv8 class9 fuel0 0 1
  else
  F_ref24_Cache_begin_j1 kv8 class9 cv1.f_Tick cv1.f_Bounds.f_Flows cv1.f_Bounds.f_Idle cv1.f_Bounds.f_Active cv1.f_Bounds.f_Packets cv1.f_Bounds.f_Bytes cv1.f_L ([])
def F_ref22_With (rv1 : T_ref22_Record) (p2 : T_ref08_Packet) (tick3 : Int) : Option T_ref22_Record :=
  (F_ref10_Plus rv1.f_Packets 1).bind fun y15 =>
  (F_ref10_Plus rv1.f_Bytes (IntKind.u64.wrap (gmax 0 p2.f_Length))).bind fun y21 =>
  some (T_ref22_Record.mk rv1.f_Key y15 y21 rv1.f_First (gmax rv1.f_Last tick3) (bits .or .u8 rv1.f_Flags p2.f_Flags) rv1.f_Reason rv1.f_Class)
def F_ref24_Cache_Account_j3 (p171 : Int) (p172 : Int) (p173 : Int) (p174 : Int) (p175 : Int) (p176 : Int) (p180 : List T_ref22_Record) (out184 : List T_ref22_Record) : Option ((List T_ref22_Record) × Int × T_ref24_Cache) :=
  some (out184, 0, (T_ref24_Cache.mk p171 (T_cache_Bounds.mk p172 p173 p174 p175 p176) p180))
def F_ref24_Cache_Account_j5 (out73 : List T_ref22_Record) (y76 : Int × Bool × T_ref24_Cache) (rv108 : Bool) (rv109 : List Int) (rv110 : Bool) (rv111 : List Int) (rv112 : Int) (rv113 : Int) (rv114 : Int) (rv115 : Int) (rv116 : Int) (rv117 : Int) (rv118 : Int) (rv119 : Int) (rv120 : Int) (rv121 : Int) (t153 : Bool) : Option ((List T_ref22_Record) × Int × T_ref24_Cache) :=
  if t153 = true then
  (F_ref24_Cache_end (T_ref24_Cache.mk y76.2.2.f_Tick y76.2.2.f_Bounds (y76.2.2.f_L.set (y76.1 : Int).toNat (T_ref22_Record.mk (T_ref08_Key.mk (T_addr_Addr.mk rv108 rv109) (T_addr_Addr.mk rv110 rv111) rv112 rv113 rv114) rv115 rv116 rv117 rv118 rv119 rv120 rv121))) y76.1 4).bind fun y155 =>
  if (decide (out73.length + ([y155.1] : List T_ref22_Record).length ≤ lim)) = true then
  F_ref24_Cache_Account_j3 y155.2.f_Tick y155.2.f_Bounds.f_Flows y155.2.f_Bounds.f_Idle y155.2.f_Bounds.f_Active y155.2.f_Bounds.f_Packets y155.2.f_Bounds.f_Bytes y155.2.f_L (out73 ++ ([y155.1] : List T_ref22_Record))
  else none
  else
  F_ref24_Cache_Account_j3 y76.2.2.f_Tick y76.2.2.f_Bounds.f_Flows y76.2.2.f_Bounds.f_Idle y76.2.2.f_Bounds.f_Active y76.2.2.f_Bounds.f_Packets y76.2.2.f_Bounds.f_Bytes (y76.2.2.f_L.set (y76.1 : Int).toNat (T_ref22_Record.mk (T_ref08_Key.mk (T_addr_Addr.mk rv108 rv109) (T_addr_Addr.mk rv110 rv111) rv112 rv113 rv114) rv115 rv116 rv117 rv118 rv119 rv120 rv121)) out73
def F_ref24_Cache_Account_j4 (out73 : List T_ref22_Record) (y76 : Int × Bool × T_ref24_Cache) (rv108 : Bool) (rv109 : List Int) (rv110 : Bool) (rv111 : List Int) (rv112 : Int) (rv113 : Int) (rv114 : Int) (rv115 : Int) (rv116 : Int) (rv117 : Int) (rv118 : Int) (rv119 : Int) (rv120 : Int) (rv121 : Int) (t133 : Bool) : Option ((List T_ref22_Record) × Int × T_ref24_Cache) :=
  if t133 = true then
  (F_ref24_Cache_end (T_ref24_Cache.mk y76.2.2.f_Tick y76.2.2.f_Bounds (y76.2.2.f_L.set (y76.1 : Int).toNat (T_ref22_Record.mk (T_ref08_Key.mk (T_addr_Addr.mk rv108 rv109) (T_addr_Addr.mk rv110 rv111) rv112 rv113 rv114) rv115 rv116 rv117 rv118 rv119 rv120 rv121))) y76.1 3).bind fun y135 =>
  if (decide (out73.length + ([y135.1] : List T_ref22_Record).length ≤ lim)) = true then
  F_ref24_Cache_Account_j3 y135.2.f_Tick y135.2.f_Bounds.f_Flows y135.2.f_Bounds.f_Idle y135.2.f_Bounds.f_Active y135.2.f_Bounds.f_Packets y135.2.f_Bounds.f_Bytes y135.2.f_L (out73 ++ ([y135.1] : List T_ref22_Record))
  else none
  else
  if (decide (y76.2.2.f_Bounds.f_Packets ≤ rv115)) = true then
  F_ref24_Cache_Account_j5 out73 y76 rv108 rv109 rv110 rv111 rv112 rv113 rv114 rv115 rv116 rv117 rv118 rv119 rv120 rv121 true
  else
  F_ref24_Cache_Account_j5 out73 y76 rv108 rv109 rv110 rv111 rv112 rv113 rv114 rv115 rv116 rv117 rv118 rv119 rv120 rv121 (decide (y76.2.2.f_Bounds.f_Bytes ≤ rv116))
def F_ref24_Cache_Account_j2 (p8 : T_ref08_Packet) (out73 : List T_ref22_Record) (y76 : Int × Bool × T_ref24_Cache) (rv108 : Bool) (rv109 : List Int) (rv110 : Bool) (rv111 : List Int) (rv112 : Int) (rv113 : Int) (rv114 : Int) (rv115 : Int) (rv116 : Int) (rv117 : Int) (rv118 : Int) (rv119 : Int) (rv120 : Int) (rv121 : Int) : Option ((List T_ref22_Record) × Int × T_ref24_Cache) :=
  (gidx y76.2.2.f_L y76.1).bind fun xv126 =>
  if (p8.f_Key.f_Proto == 6) = true then
  if (!p8.f_Fragment) = true then
  if ((Int.tmod p8.f_Flags 2) == 1) = true then
  F_ref24_Cache_Account_j4 out73 y76 rv108 rv109 rv110 rv111 rv112 rv113 rv114 rv115 rv116 rv117 rv118 rv119 rv120 rv121 true
  else
  F_ref24_Cache_Account_j4 out73 y76 rv108 rv109 rv110 rv111 rv112 rv113 rv114 rv115 rv116 rv117 rv118 rv119 rv120 rv121 ((Int.tmod (IntKind.u8.wrap (Int.tdiv p8.f_Flags 4)) 2) == 1)
  else
  F_ref24_Cache_Account_j4 out73 y76 rv108 rv109 rv110 rv111 rv112 rv113 rv114 rv115 rv116 rv117 rv118 rv119 rv120 rv121 false
  else
  F_ref24_Cache_Account_j4 out73 y76 rv108 rv109 rv110 rv111 rv112 rv113 rv114 rv115 rv116 rv117 rv118 rv119 rv120 rv121 false
def F_ref24_Cache_Account_j1 (p8 : T_ref08_Packet) (p59 : Int) (p60 : Int) (p61 : Int) (p62 : Int) (p63 : Int) (p64 : Int) (p68 : List T_ref22_Record) (out73 : List T_ref22_Record) : Option ((List T_ref22_Record) × Int × T_ref24_Cache) :=
  (F_ref24_Cache_find (T_ref24_Cache.mk p59 (T_cache_Bounds.mk p60 p61 p62 p63 p64) p68) p8.f_Key).bind fun y76 =>
  (gidx y76.2.2.f_L y76.1).bind fun xv85 =>
  (F_ref22_With xv85 p8 y76.2.2.f_Tick).bind fun y86 =>
  F_ref24_Cache_Account_j2 p8 out73 y76 y86.f_Key.f_Src.f_Six y86.f_Key.f_Src.f_B y86.f_Key.f_Dst.f_Six y86.f_Key.f_Dst.f_B y86.f_Key.f_Proto y86.f_Key.f_SrcPort y86.f_Key.f_DstPort y86.f_Packets y86.f_Bytes y86.f_First y86.f_Last y86.f_Flags y86.f_Reason y86.f_Class
def F_ref24_Cache_Account (cv1 : T_ref24_Cache) (p8 : T_ref08_Packet) (class9 : Int) (tick10 : Int) : Option ((List T_ref22_Record) × Int × T_ref24_Cache) :=
  (F_ref08_Right p8.f_Key).bind fun y18 =>
  if (!y18) = true then
  some ([], 2, cv1)
  else
  (F_ref24_Cache_Advance cv1 tick10).bind fun y24 =>
  (F_ref24_Cache_find y24.2 p8.f_Key).bind fun y35 =>
  if (!y35.2.1) = true then
  (F_ref24_Cache_begin y35.2.2 p8.f_Key class9).bind fun y43 =>
  if (decide (y24.1.length + y43.1.length ≤ lim)) = true then
  F_ref24_Cache_Account_j1 p8 y43.2.f_Tick y43.2.f_Bounds.f_Flows y43.2.f_Bounds.f_Idle y43.2.f_Bounds.f_Active y43.2.f_Bounds.f_Packets y43.2.f_Bounds.f_Bytes y43.2.f_L (y24.1 ++ y43.1)
  else none
  else
  F_ref24_Cache_Account_j1 p8 y35.2.2.f_Tick y35.2.2.f_Bounds.f_Flows y35.2.2.f_Bounds.f_Idle y35.2.2.f_Bounds.f_Active y35.2.2.f_Bounds.f_Packets y35.2.2.f_Bounds.f_Bytes y35.2.2.f_L y24.1
def F_docs_Addr (av1 : T_addr_Addr) : Option T_addr_Addr :=
  some av1
def F_docs_Key (kv1 : T_packet_Key) : Option T_ref08_Key :=
  (F_docs_Addr kv1.f_Src).bind fun y10 =>
  (F_docs_Addr kv1.f_Dst).bind fun y14 =>
  some (T_ref08_Key.mk y10 y14 kv1.f_Proto kv1.f_SrcPort kv1.f_DstPort)
def F_docs_Packet (p1 : T_packet_Packet) : Option T_ref08_Packet :=
  (F_docs_Key p1.f_Key).bind fun y10 =>
  some (T_ref08_Packet.mk y10 p1.f_Length p1.f_Flags p1.f_Fragment)
def F_docs_Record (rv1 : T_flow_Record) : Option T_ref22_Record :=
  (F_docs_Key rv1.f_Key).bind fun y10 =>
  some (T_ref22_Record.mk y10 rv1.f_Packets rv1.f_Bytes rv1.f_First rv1.f_Last rv1.f_Flags rv1.f_Reason rv1.f_Class)
def F_docs_SameFlows_l1 (rec68 : (List T_flow_Record) → Int → Option (Bool × (List T_flow_Record))) (rv5 : List T_ref22_Record) (p64 : List T_flow_Record) (i66 : Int) : Option (Bool × (List T_flow_Record)) :=
  if (decide (i66 < (p64.length : Int))) = true then
  (gidx p64 i66).bind fun xv77 =>
  (gidx rv5 i66).bind fun xv80 =>
  (F_docs_Record xv77).bind fun y81 =>
  if (!(q_ref22_Record y81 xv80)) = true then
  some (false, p64)
  else
  (gidx p64 i66).bind fun xv88 =>
  rec68 (p64.set (i66 : Int).toNat (T_flow_Record.mk (T_packet_Key.mk (T_addr_Addr.mk false (List.replicate 16 0)) (T_addr_Addr.mk false (List.replicate 16 0)) 0 0 0) 0 0 0 0 0 77 0)) (IntKind.i64.wrap (i66 + 1))
  else
  some (true, p64)
def F_docs_SameFlows_L1 (rv5 : List T_ref22_Record) : Nat → (List T_flow_Record) → Int → Option (Bool × (List T_flow_Record))
  | 0 => fun _ _ => none
  | k + 1 => F_docs_SameFlows_l1 (F_docs_SameFlows_L1 rv5 k) rv5
def F_docs_SameFlows (lv1 : List T_flow_Record) (rv5 : List T_ref22_Record) : Option (Bool × (List T_flow_Record)) :=
  if ((lv1.length : Int) != (rv5.length : Int)) = true then
  some (false, lv1)
  else
  F_docs_SameFlows_L1 rv5 fuel0 lv1 0
def F_slices_AppendSeq_flow_Record_flow_Record_Zfslices_Values_flow_Record_flow_Record_1_l1 (rec104 : Int → (List T_flow_Record) → Option ((List T_flow_Record) × (List T_flow_Record))) (seq1 : List T_flow_Record) (t97 : Int) (t102 : List T_flow_Record) : Option ((List T_flow_Record) × (List T_flow_Record)) :=
  if (decide (t97 < (seq1.length : Int))) = true then
  (gidx seq1 t97).bind fun xv112 =>
  if (decide (t102.length + ([xv112] : List T_flow_Record).length ≤ lim)) = true then
  rec104 (IntKind.i64.wrap (t97 + 1)) (t102 ++ ([xv112] : List T_flow_Record))
  else none
  else
  some (t102, seq1)
def F_slices_AppendSeq_flow_Record_flow_Record_Zfslices_Values_flow_Record_flow_Record_1_L1 (seq1 : List T_flow_Record) : Nat → Int → (List T_flow_Record) → Option ((List T_flow_Record) × (List T_flow_Record))
  | 0 => fun _ _ => none
  | k + 1 => F_slices_AppendSeq_flow_Record_flow_Record_Zfslices_Values_flow_Record_flow_Record_1_l1 (F_slices_AppendSeq_flow_Record_flow_Record_Zfslices_Values_flow_Record_flow_Record_1_L1 seq1 k) seq1
def F_slices_AppendSeq_flow_Record_flow_Record_Zfslices_Values_flow_Record_flow_Record_1 (seq1 : List T_flow_Record) : Option ((List T_flow_Record) × (List T_flow_Record)) :=
  F_slices_AppendSeq_flow_Record_flow_Record_Zfslices_Values_flow_Record_flow_Record_1_L1 seq1 fuel0 0 ([])
def F_slices_Collect_flow_Record_fslices_Values_flow_Record_flow_Record_1 (seq1 : List T_flow_Record) : Option ((List T_flow_Record) × (List T_flow_Record)) :=
  (F_slices_AppendSeq_flow_Record_flow_Record_Zfslices_Values_flow_Record_flow_Record_1 seq1).bind fun y12 =>
  some (y12.1, seq1)
def cf_cache_byKey (x y : T_flow_Record) : Int := (F_cache_byKey x y).getD 0
def F_slices_SortFunc_flow_Record_flow_Record_cache_byKey (xs : List T_flow_Record) : Option (List T_flow_Record) :=
  if decide (xs.length ≤ lim) = true then some (srt cf_cache_byKey xs) else none
def F_slices_SortedFunc_flow_Record_fslices_Values_flow_Record_flow_Record_1fcache_byKey (seq1 : List T_flow_Record) : Option ((List T_flow_Record) × (List T_flow_Record)) :=
  (F_slices_Collect_flow_Record_fslices_Values_flow_Record_flow_Record_1 seq1).bind fun y12 =>
  (F_slices_SortFunc_flow_Record_flow_Record_cache_byKey y12.1).bind fun y21 =>
  some (y21, seq1)
def F_cache_Cache_All (cv1 : T_cache_Cache) : Option ((List T_flow_Record) × T_cache_Cache) :=
  (F_slices_SortedFunc_flow_Record_fslices_Values_flow_Record_flow_Record_1fcache_byKey cv1.f_flows).bind fun y23 =>
  some (y23.1, cv1)
def F_cache_forced (t1 : T_flow_Record) : Option Int :=
  some 4
def F_cache_Cache_ends_fcache_forced_l1 (rec187 : Int → Int → Int → Int → Int → Int → (List T_table_Slot) → Int → (List T_flow_Record) → (List T_flow_Record) → Int → Option ((List T_flow_Record) × T_cache_Cache)) (lv13 : List T_flow_Record) (p164 : Int) (p165 : Int) (p166 : Int) (p167 : Int) (p168 : Int) (p169 : Int) (p175 : List T_table_Slot) (p176 : Int) (p180 : List T_flow_Record) (out184 : List T_flow_Record) (t185 : Int) : Option ((List T_flow_Record) × T_cache_Cache) :=
  if (decide (t185 < (lv13.length : Int))) = true then
  (gidx lv13 t185).bind fun xv195 =>
  (F_cache_forced xv195).bind fun y200 =>
  (F_cache_Cache_end (T_cache_Cache.mk p164 (T_cache_Bounds.mk p165 p166 p167 p168 p169) (T_table_Table.mk p175 p176) p180) xv195.f_Key y200).bind fun y204 =>
  if (decide (out184.length + ([y204.1] : List T_flow_Record).length ≤ lim)) = true then
  rec187 y204.2.f_tick y204.2.f_bounds.f_Flows y204.2.f_bounds.f_Idle y204.2.f_bounds.f_Active y204.2.f_bounds.f_Packets y204.2.f_bounds.f_Bytes y204.2.f_places.f_slots y204.2.f_places.f_many y204.2.f_flows (out184 ++ ([y204.1] : List T_flow_Record)) (IntKind.i64.wrap (t185 + 1))
  else none
  else
  some (out184, (T_cache_Cache.mk p164 (T_cache_Bounds.mk p165 p166 p167 p168 p169) (T_table_Table.mk p175 p176) p180))
def F_cache_Cache_ends_fcache_forced_L1 (lv13 : List T_flow_Record) : Nat → Int → Int → Int → Int → Int → Int → (List T_table_Slot) → Int → (List T_flow_Record) → (List T_flow_Record) → Int → Option ((List T_flow_Record) × T_cache_Cache)
  | 0 => fun _ _ _ _ _ _ _ _ _ _ _ => none
  | k + 1 => F_cache_Cache_ends_fcache_forced_l1 (F_cache_Cache_ends_fcache_forced_L1 lv13 k) lv13
def F_cache_Cache_ends_fcache_forced (cv1 : T_cache_Cache) (lv13 : List T_flow_Record) : Option ((List T_flow_Record) × T_cache_Cache) :=
  F_cache_Cache_ends_fcache_forced_L1 lv13 fuel0 cv1.f_tick cv1.f_bounds.f_Flows cv1.f_bounds.f_Idle cv1.f_bounds.f_Active cv1.f_bounds.f_Packets cv1.f_bounds.f_Bytes cv1.f_places.f_slots cv1.f_places.f_many cv1.f_flows ([]) 0
def F_cache_Cache_Flush (cv1 : T_cache_Cache) : Option ((List T_flow_Record) × T_cache_Cache) :=
  (F_cache_Cache_All cv1).bind fun y18 =>
  (F_cache_Cache_ends_fcache_forced y18.2 y18.1).bind fun y33 =>
  some (y33.1, y33.2)
def F_ref24_Cache_Flush_l1 (rec77 : Int → Int → Int → Int → Int → Int → (List T_ref22_Record) → (List T_ref22_Record) → Option ((List T_ref22_Record) × T_ref24_Cache)) (p62 : Int) (p63 : Int) (p64 : Int) (p65 : Int) (p66 : Int) (p67 : Int) (p71 : List T_ref22_Record) (out75 : List T_ref22_Record) : Option ((List T_ref22_Record) × T_ref24_Cache) :=
  if (decide (0 < (p71.length : Int))) = true then
  (F_ref24_Cache_end (T_ref24_Cache.mk p62 (T_cache_Bounds.mk p63 p64 p65 p66 p67) p71) 0 4).bind fun y81 =>
  if (decide (out75.length + ([y81.1] : List T_ref22_Record).length ≤ lim)) = true then
  rec77 y81.2.f_Tick y81.2.f_Bounds.f_Flows y81.2.f_Bounds.f_Idle y81.2.f_Bounds.f_Active y81.2.f_Bounds.f_Packets y81.2.f_Bounds.f_Bytes y81.2.f_L (out75 ++ ([y81.1] : List T_ref22_Record))
  else none
  else
  some (out75, (T_ref24_Cache.mk p62 (T_cache_Bounds.mk p63 p64 p65 p66 p67) p71))
def F_ref24_Cache_Flush_L1 : Nat → Int → Int → Int → Int → Int → Int → (List T_ref22_Record) → (List T_ref22_Record) → Option ((List T_ref22_Record) × T_ref24_Cache)
  | 0 => fun _ _ _ _ _ _ _ _ => none
  | k + 1 => F_ref24_Cache_Flush_l1 (F_ref24_Cache_Flush_L1 k)
def F_ref24_Cache_Flush (cv1 : T_ref24_Cache) : Option ((List T_ref22_Record) × T_ref24_Cache) :=
  F_ref24_Cache_Flush_L1 fuel0 cv1.f_Tick cv1.f_Bounds.f_Flows cv1.f_Bounds.f_Idle cv1.f_Bounds.f_Active cv1.f_Bounds.f_Packets cv1.f_Bounds.f_Bytes cv1.f_L ([])
def F_table_Table_Clear (t1 : T_table_Table) : Option T_table_Table :=
  some (T_table_Table.mk (List.replicate (t1.f_slots).length ((T_table_Slot.mk false (T_packet_Key.mk (T_addr_Addr.mk false (List.replicate 16 0)) (T_addr_Addr.mk false (List.replicate 16 0)) 0 0 0) 0) : T_table_Slot)) 0)
def F_cache_Cache_Clear (cv1 : T_cache_Cache) : Option (Int × T_cache_Cache) :=
  (F_table_Table_Clear cv1.f_places).bind fun y19 =>
  some ((cv1.f_flows.length : Int), (T_cache_Cache.mk cv1.f_tick cv1.f_bounds y19 ([])))
def F_law24_does_j2 (y42 : (List T_flow_Record) × Int × T_cache_Cache) (y62 : (List T_ref22_Record) × Int × T_ref24_Cache) (t83 : Bool) : Option (Bool × T_cache_Cache × T_ref24_Cache) :=
  some (t83, y42.2.2, y62.2.2)
def F_law24_does_j4 (p156 : Int) (p157 : Int) (p158 : Int) (p159 : Int) (p160 : Int) (p161 : Int) (p167 : List T_table_Slot) (p168 : Int) (p172 : List T_flow_Record) (p174 : Int) (p175 : Int) (p176 : Int) (p177 : Int) (p178 : Int) (p179 : Int) (p183 : List T_ref22_Record) (t184 : Bool) : Option (Bool × T_cache_Cache × T_ref24_Cache) :=
  some (t184, (T_cache_Cache.mk p156 (T_cache_Bounds.mk p157 p158 p159 p160 p161) (T_table_Table.mk p167 p168) p172), (T_ref24_Cache.mk p174 (T_cache_Bounds.mk p175 p176 p177 p178 p179) p183))
def F_law24_does_j3 (cv1 : T_cache_Cache) (rv13 : T_ref24_Cache) (av20 : T_law24_Act) (t93 : Bool) : Option (Bool × T_cache_Cache × T_ref24_Cache) :=
  if t93 = true then
  (F_cache_Cache_Advance cv1 av20.f_Tick).bind fun y95 =>
  (F_ref24_Cache_Advance rv13 av20.f_Tick).bind fun y110 =>
  (F_docs_SameFlows y95.1 y110.1).bind fun y120 =>
  F_law24_does_j4 y95.2.f_tick y95.2.f_bounds.f_Flows y95.2.f_bounds.f_Idle y95.2.f_bounds.f_Active y95.2.f_bounds.f_Packets y95.2.f_bounds.f_Bytes y95.2.f_places.f_slots y95.2.f_places.f_many y95.2.f_flows y110.2.f_Tick y110.2.f_Bounds.f_Flows y110.2.f_Bounds.f_Idle y110.2.f_Bounds.f_Active y110.2.f_Bounds.f_Packets y110.2.f_Bounds.f_Bytes y110.2.f_L y120.1
  else
  if (av20.f_Do == 7) = true then
  (F_cache_Cache_Flush cv1).bind fun y188 =>
  (F_ref24_Cache_Flush rv13).bind fun y203 =>
  (F_docs_SameFlows y188.1 y203.1).bind fun y213 =>
  some (y213.1, y188.2, y203.2)
  else
  if (av20.f_Do == 8) = true then
  (F_cache_Cache_Clear cv1).bind fun y223 =>
  some ((y223.1 == (rv13.f_L.length : Int)), y223.2, (T_ref24_Cache.mk rv13.f_Tick rv13.f_Bounds ([])))
  else
  some (true, cv1, rv13)
def F_law24_does_j1 (cv1 : T_cache_Cache) (rv13 : T_ref24_Cache) (av20 : T_law24_Act) (t39 : Bool) : Option (Bool × T_cache_Cache × T_ref24_Cache) :=
  if t39 = true then
  (F_cache_Cache_Account cv1 av20.f_Packet av20.f_Class av20.f_Tick).bind fun y42 =>
  (F_docs_Packet av20.f_Packet).bind fun y58 =>
  (F_ref24_Cache_Account rv13 y58 av20.f_Class av20.f_Tick).bind fun y62 =>
  if (y42.2.1 == y62.2.1) = true then
  (F_docs_SameFlows y42.1 y62.1).bind fun y72 =>
  F_law24_does_j2 y42 y62 y72.1
  else
  F_law24_does_j2 y42 y62 false
  else
  if (av20.f_Do == 5) = true then
  F_law24_does_j3 cv1 rv13 av20 (av20.f_Do == 5)
  else
  F_law24_does_j3 cv1 rv13 av20 (av20.f_Do == 6)
def F_law24_does (cv1 : T_cache_Cache) (rv13 : T_ref24_Cache) (av20 : T_law24_Act) : Option (Bool × T_cache_Cache × T_ref24_Cache) :=
  if (av20.f_Do == 0) = true then
  F_law24_does_j1 cv1 rv13 av20 (av20.f_Do == 0)
  else
  if (av20.f_Do == 1) = true then
  F_law24_does_j1 cv1 rv13 av20 (av20.f_Do == 1)
  else
  if (av20.f_Do == 2) = true then
  F_law24_does_j1 cv1 rv13 av20 (av20.f_Do == 2)
  else
  if (av20.f_Do == 3) = true then
  F_law24_does_j1 cv1 rv13 av20 (av20.f_Do == 3)
  else
  F_law24_does_j1 cv1 rv13 av20 (av20.f_Do == 4)
def F_cache_Cache_Get (cv1 : T_cache_Cache) (kv13 : T_packet_Key) : Option (T_flow_Record × Bool × T_cache_Cache) :=
  (F_table_Table_Get cv1.f_places kv13).bind fun y25 =>
  if (!y25.2.1) = true then
  some ((T_flow_Record.mk (T_packet_Key.mk (T_addr_Addr.mk false (List.replicate 16 0)) (T_addr_Addr.mk false (List.replicate 16 0)) 0 0 0) 0 0 0 0 0 0 0), false, (T_cache_Cache.mk cv1.f_tick cv1.f_bounds y25.2.2 cv1.f_flows))
  else
  (gidx cv1.f_flows y25.1).bind fun xv40 =>
  some (xv40, true, (T_cache_Cache.mk cv1.f_tick cv1.f_bounds y25.2.2 cv1.f_flows))
def F_ref24_Cache_Get (cv1 : T_ref24_Cache) (kv8 : T_ref08_Key) : Option (T_ref22_Record × Bool × T_ref24_Cache) :=
  (F_ref24_Cache_find cv1 kv8).bind fun y18 =>
  if (!y18.2.1) = true then
  some ((T_ref22_Record.mk (T_ref08_Key.mk (T_addr_Addr.mk false (List.replicate 16 0)) (T_addr_Addr.mk false (List.replicate 16 0)) 0 0 0) 0 0 0 0 0 0 0), false, y18.2.2)
  else
  (gidx y18.2.2.f_L y18.1).bind fun xv33 =>
  some (xv33, true, y18.2.2)
def F_cache_Cache_Tick (cv1 : T_cache_Cache) : Option Int :=
  some cv1.f_tick
def F_law24_is_j1 (y69 : T_ref22_Record × Bool × T_ref24_Cache) (p221 : Int) (p222 : Int) (p223 : Int) (p224 : Int) (p225 : Int) (p226 : Int) (p232 : List T_table_Slot) (p233 : Int) (p237 : List T_flow_Record) (t240 : Bool) : Option (Bool × T_cache_Cache × T_ref24_Cache) :=
  some (t240, (T_cache_Cache.mk p221 (T_cache_Bounds.mk p222 p223 p224 p225 p226) (T_table_Table.mk p232 p233) p237), y69.2.2)
def F_law24_is (cv1 : T_cache_Cache) (rv13 : T_ref24_Cache) (kv20 : T_packet_Key) : Option (Bool × T_cache_Cache × T_ref24_Cache) :=
  (F_cache_Cache_Next cv1).bind fun y27 =>
  (F_ref24_Cache_Next rv13).bind fun y40 =>
  (F_cache_Cache_Get y27.2.2 kv20).bind fun y48 =>
  (F_docs_Key kv20).bind fun y65 =>
  (F_ref24_Cache_Get y40.2.2 y65).bind fun y69 =>
  if (y27.1 == y40.1) = true then
  if (y27.2.1 == y40.2.1) = true then
  (F_docs_Record y48.1).bind fun y80 =>
  if (q_ref22_Record y80 y69.1) = true then
  if (y48.2.1 == y69.2.1) = true then
  (F_cache_Cache_All y48.2.2).bind fun y84 =>
  (F_docs_SameFlows y84.1 y69.2.2.f_L).bind fun y99 =>
  if y99.1 = true then
  (F_cache_Cache_All y84.2).bind fun y104 =>
  (F_docs_SameFlows y104.1 y69.2.2.f_L).bind fun y119 =>
  if y119.1 = true then
  (F_cache_Cache_Tick y104.2).bind fun y124 =>
  F_law24_is_j1 y69 y104.2.f_tick y104.2.f_bounds.f_Flows y104.2.f_bounds.f_Idle y104.2.f_bounds.f_Active y104.2.f_bounds.f_Packets y104.2.f_bounds.f_Bytes y104.2.f_places.f_slots y104.2.f_places.f_many y104.2.f_flows (y124 == y69.2.2.f_Tick)
  else
  F_law24_is_j1 y69 y104.2.f_tick y104.2.f_bounds.f_Flows y104.2.f_bounds.f_Idle y104.2.f_bounds.f_Active y104.2.f_bounds.f_Packets y104.2.f_bounds.f_Bytes y104.2.f_places.f_slots y104.2.f_places.f_many y104.2.f_flows false
  else
  F_law24_is_j1 y69 y84.2.f_tick y84.2.f_bounds.f_Flows y84.2.f_bounds.f_Idle y84.2.f_bounds.f_Active y84.2.f_bounds.f_Packets y84.2.f_bounds.f_Bytes y84.2.f_places.f_slots y84.2.f_places.f_many y84.2.f_flows false
  else
  F_law24_is_j1 y69 y48.2.2.f_tick y48.2.2.f_bounds.f_Flows y48.2.2.f_bounds.f_Idle y48.2.2.f_bounds.f_Active y48.2.2.f_bounds.f_Packets y48.2.2.f_bounds.f_Bytes y48.2.2.f_places.f_slots y48.2.2.f_places.f_many y48.2.2.f_flows false
  else
  F_law24_is_j1 y69 y48.2.2.f_tick y48.2.2.f_bounds.f_Flows y48.2.2.f_bounds.f_Idle y48.2.2.f_bounds.f_Active y48.2.2.f_bounds.f_Packets y48.2.2.f_bounds.f_Bytes y48.2.2.f_places.f_slots y48.2.2.f_places.f_many y48.2.2.f_flows false
  else
  F_law24_is_j1 y69 y48.2.2.f_tick y48.2.2.f_bounds.f_Flows y48.2.2.f_bounds.f_Idle y48.2.2.f_bounds.f_Active y48.2.2.f_bounds.f_Packets y48.2.2.f_bounds.f_Bytes y48.2.2.f_places.f_slots y48.2.2.f_places.f_many y48.2.2.f_flows false
  else
  F_law24_is_j1 y69 y48.2.2.f_tick y48.2.2.f_bounds.f_Flows y48.2.2.f_bounds.f_Idle y48.2.2.f_bounds.f_Active y48.2.2.f_bounds.f_Packets y48.2.2.f_bounds.f_Bytes y48.2.2.f_places.f_slots y48.2.2.f_places.f_many y48.2.2.f_flows false
def F_law24_CachePlays_j3 : Option Bool :=
  if (!(true == true)) = true then
  some false
  else
  (F_law24_works).bind fun y50 =>
  some y50
def F_law24_CachePlays_j4 : Option Bool :=
  some false
def F_law24_CachePlays_j2 (t40 : Bool) : Option Bool :=
  if t40 = true then
  F_law24_CachePlays_j3
  else
  F_law24_CachePlays_j4
def F_law24_CachePlays_j7 : Option Bool :=
  if (!(true == true)) = true then
  some false
  else
  (F_law24_works).bind fun y99 =>
  some y99
def F_law24_CachePlays_j8 : Option Bool :=
  some false
def F_law24_CachePlays_j6 (t89 : Bool) : Option Bool :=
  if t89 = true then
  F_law24_CachePlays_j7
  else
  F_law24_CachePlays_j8
def F_law24_CachePlays_j10 : Option Bool :=
  some false
def F_law24_CachePlays_j12 (i367 : Int) (rec369 : Int → Int → Int → Int → Int → Int → (List T_table_Slot) → Int → (List T_flow_Record) → Int → Int → Int → Int → Int → Int → (List T_ref22_Record) → Int → Option Bool) (cv411 : Int) (cv412 : Int) (cv413 : Int) (cv414 : Int) (cv415 : Int) (cv416 : Int) (cv422 : List T_table_Slot) (cv423 : Int) (cv427 : List T_flow_Record) (rv429 : Int) (rv430 : Int) (rv431 : Int) (rv432 : Int) (rv433 : Int) (rv434 : Int) (rv438 : List T_ref22_Record) (t439 : Bool) : Option Bool :=
  if t439 = true then
  some false
  else
  rec369 cv411 cv412 cv413 cv414 cv415 cv416 cv422 cv423 cv427 rv429 rv430 rv431 rv432 rv433 rv434 rv438 (IntKind.i64.wrap (i367 + 1))
def F_law24_CachePlays_j13 (t461 : Bool) : Option Bool :=
  some t461
def F_law24_CachePlays_l1 (rec369 : Int → Int → Int → Int → Int → Int → (List T_table_Slot) → Int → (List T_flow_Record) → Int → Int → Int → Int → Int → Int → (List T_ref22_Record) → Int → Option Bool) (lv3 : List T_law24_Act) (cv339 : Int) (cv340 : Int) (cv341 : Int) (cv342 : Int) (cv343 : Int) (cv344 : Int) (cv350 : List T_table_Slot) (cv351 : Int) (cv355 : List T_flow_Record) (rv357 : Int) (rv358 : Int) (rv359 : Int) (rv360 : Int) (rv361 : Int) (rv362 : Int) (rv366 : List T_ref22_Record) (i367 : Int) : Option Bool :=
  if (decide (i367 < (lv3.length : Int))) = true then
  (gidx lv3 i367).bind fun xv376 =>
  (F_law24_does (T_cache_Cache.mk cv339 (T_cache_Bounds.mk cv340 cv341 cv342 cv343 cv344) (T_table_Table.mk cv350 cv351) cv355) (T_ref24_Cache.mk rv357 (T_cache_Bounds.mk rv358 rv359 rv360 rv361 rv362) rv366) xv376).bind fun y377 =>
  if (!y377.1) = true then
  F_law24_CachePlays_j12 i367 rec369 y377.2.1.f_tick y377.2.1.f_bounds.f_Flows y377.2.1.f_bounds.f_Idle y377.2.1.f_bounds.f_Active y377.2.1.f_bounds.f_Packets y377.2.1.f_bounds.f_Bytes y377.2.1.f_places.f_slots y377.2.1.f_places.f_many y377.2.1.f_flows y377.2.2.f_Tick y377.2.2.f_Bounds.f_Flows y377.2.2.f_Bounds.f_Idle y377.2.2.f_Bounds.f_Active y377.2.2.f_Bounds.f_Packets y377.2.2.f_Bounds.f_Bytes y377.2.2.f_L true
  else
  (gidx lv3 i367).bind fun xv394 =>
  (F_law24_is y377.2.1 y377.2.2 xv394.f_Packet.f_Key).bind fun y395 =>
  F_law24_CachePlays_j12 i367 rec369 y395.2.1.f_tick y395.2.1.f_bounds.f_Flows y395.2.1.f_bounds.f_Idle y395.2.1.f_bounds.f_Active y395.2.1.f_bounds.f_Packets y395.2.1.f_bounds.f_Bytes y395.2.1.f_places.f_slots y395.2.1.f_places.f_many y395.2.1.f_flows y395.2.2.f_Tick y395.2.2.f_Bounds.f_Flows y395.2.2.f_Bounds.f_Idle y395.2.2.f_Bounds.f_Active y395.2.2.f_Bounds.f_Packets y395.2.2.f_Bounds.f_Bytes y395.2.2.f_L (!y395.1)
  else
  (F_law24_is (T_cache_Cache.mk cv339 (T_cache_Bounds.mk cv340 cv341 cv342 cv343 cv344) (T_table_Table.mk cv350 cv351) cv355) (T_ref24_Cache.mk rv357 (T_cache_Bounds.mk rv358 rv359 rv360 rv361 rv362) rv366) (T_packet_Key.mk (T_addr_Addr.mk false (List.replicate 16 0)) (T_addr_Addr.mk false (List.replicate 16 0)) 0 0 0)).bind fun y442 =>
  if y442.1 = true then
  (F_law24_works).bind fun y457 =>
  F_law24_CachePlays_j13 y457
  else
  F_law24_CachePlays_j13 false
def F_law24_CachePlays_L1 (lv3 : List T_law24_Act) : Nat → Int → Int → Int → Int → Int → Int → (List T_table_Slot) → Int → (List T_flow_Record) → Int → Int → Int → Int → Int → Int → (List T_ref22_Record) → Int → Option Bool
  | 0 => fun _ _ _ _ _ _ _ _ _ _ _ _ _ _ _ _ _ => none
  | k + 1 => F_law24_CachePlays_l1 (F_law24_CachePlays_L1 lv3 k) lv3
def F_law24_CachePlays_j11 (tick1 : Int) (b2 : T_cache_Bounds) (lv3 : List T_law24_Act) (y63 : Int) (y126 : T_cache_Bounds) : Option Bool :=
  if (!(false == false)) = true then
  some false
  else
  F_law24_CachePlays_L1 lv3 fuel0 tick1 b2.f_Flows b2.f_Idle b2.f_Active b2.f_Packets b2.f_Bytes (List.replicate (Int.toNat (Ox.shl .i64 1 y63)) ((T_table_Slot.mk false (T_packet_Key.mk (T_addr_Addr.mk false (List.replicate 16 0)) (T_addr_Addr.mk false (List.replicate 16 0)) 0 0 0) 0) : T_table_Slot)) 0 ([]) tick1 y126.f_Flows y126.f_Idle y126.f_Active y126.f_Packets y126.f_Bytes ([]) 0
def F_law24_CachePlays_j9 (tick1 : Int) (b2 : T_cache_Bounds) (lv3 : List T_law24_Act) (y63 : Int) (y126 : T_cache_Bounds) (t136 : Bool) : Option Bool :=
  if t136 = true then
  F_law24_CachePlays_j10
  else
  F_law24_CachePlays_j11 tick1 b2 lv3 y63 y126
def F_law24_CachePlays_j5 (tick1 : Int) (b2 : T_cache_Bounds) (lv3 : List T_law24_Act) (y63 : Int) (t70 : Bool) : Option Bool :=
  if t70 = true then
  (F_docs_Bounds b2).bind fun y79 =>
  if (decide (y79.f_Flows < 1)) = true then
  F_law24_CachePlays_j6 true
  else
  if (decide (4096 < y79.f_Flows)) = true then
  F_law24_CachePlays_j6 true
  else
  if (y79.f_Idle == 0) = true then
  F_law24_CachePlays_j6 true
  else
  if (y79.f_Active == 0) = true then
  F_law24_CachePlays_j6 true
  else
  if (y79.f_Packets == 0) = true then
  F_law24_CachePlays_j6 true
  else
  F_law24_CachePlays_j6 (y79.f_Bytes == 0)
  else
  if (decide (0 ≤ (Ox.shl .i64 1 y63) ∧ (Ox.shl .i64 1 y63) ≤ lim)) = true then
  (F_docs_Bounds b2).bind fun y126 =>
  if (decide (y126.f_Flows < 1)) = true then
  F_law24_CachePlays_j9 tick1 b2 lv3 y63 y126 true
  else
  if (decide (4096 < y126.f_Flows)) = true then
  F_law24_CachePlays_j9 tick1 b2 lv3 y63 y126 true
  else
  if (y126.f_Idle == 0) = true then
  F_law24_CachePlays_j9 tick1 b2 lv3 y63 y126 true
  else
  if (y126.f_Active == 0) = true then
  F_law24_CachePlays_j9 tick1 b2 lv3 y63 y126 true
  else
  if (y126.f_Packets == 0) = true then
  F_law24_CachePlays_j9 tick1 b2 lv3 y63 y126 true
  else
  F_law24_CachePlays_j9 tick1 b2 lv3 y63 y126 (y126.f_Bytes == 0)
  else none
def F_law24_CachePlays_j1 (tick1 : Int) (b2 : T_cache_Bounds) (lv3 : List T_law24_Act) (t25 : Bool) : Option Bool :=
  if t25 = true then
  (F_docs_Bounds b2).bind fun y30 =>
  if (decide (y30.f_Flows < 1)) = true then
  F_law24_CachePlays_j2 true
  else
  if (decide (4096 < y30.f_Flows)) = true then
  F_law24_CachePlays_j2 true
  else
  if (y30.f_Idle == 0) = true then
  F_law24_CachePlays_j2 true
  else
  if (y30.f_Active == 0) = true then
  F_law24_CachePlays_j2 true
  else
  if (y30.f_Packets == 0) = true then
  F_law24_CachePlays_j2 true
  else
  F_law24_CachePlays_j2 (y30.f_Bytes == 0)
  else
  (F_math_bits_Len (IntKind.u64.wrap b2.f_Flows)).bind fun y63 =>
  if (decide (¬ y63 < 0)) = true then
  if (decide ((Ox.shl .i64 1 y63) < 1)) = true then
  F_law24_CachePlays_j5 tick1 b2 lv3 y63 true
  else
  if (decide (65536 < (Ox.shl .i64 1 y63))) = true then
  F_law24_CachePlays_j5 tick1 b2 lv3 y63 true
  else
  F_law24_CachePlays_j5 tick1 b2 lv3 y63 ((bits .and .i64 (Ox.shl .i64 1 y63) (IntKind.i64.wrap ((Ox.shl .i64 1 y63) - 1))) != 0)
  else none
def F_law24_CachePlays (tick1 : Int) (b2 : T_cache_Bounds) (lv3 : List T_law24_Act) : Option Bool :=
  if (decide (60 < (lv3.length : Int))) = true then
  (F_law24_works).bind fun y14 =>
  some y14
  else
  if (decide (b2.f_Flows < 1)) = true then
  F_law24_CachePlays_j1 tick1 b2 lv3 true
  else
  if (decide (4096 < b2.f_Flows)) = true then
  F_law24_CachePlays_j1 tick1 b2 lv3 true
  else
  if (b2.f_Idle == 0) = true then
  F_law24_CachePlays_j1 tick1 b2 lv3 true
  else
  if (b2.f_Active == 0) = true then
  F_law24_CachePlays_j1 tick1 b2 lv3 true
  else
  if (b2.f_Packets == 0) = true then
  F_law24_CachePlays_j1 tick1 b2 lv3 true
  else
  F_law24_CachePlays_j1 tick1 b2 lv3 (b2.f_Bytes == 0)
def F_law24_act_j1 (nv1 : Int) (tick2 : Int) (kv16 : Int) (kv17 : Int) (kv18 : Int) : Option T_law24_Act :=
  if (decide ((IntKind.i64.wrap (6 + (IntKind.i64.wrap ((IntKind.i64.wrap (Int.tdiv (Int.tmod nv1 29) 26)) * 3)))) ≠ 0)) = true then
  if (decide (¬ (Int.tmod (IntKind.i64.wrap (Int.tdiv nv1 7)) 8) < 0)) = true then
  some (T_law24_Act.mk (Int.tmod (Int.tmod (IntKind.i64.wrap (Int.tdiv nv1 5)) 10) (IntKind.i64.wrap (6 + (IntKind.i64.wrap ((IntKind.i64.wrap (Int.tdiv (Int.tmod nv1 29) 26)) * 3))))) (T_packet_Packet.mk (T_packet_Key.mk (T_addr_Addr.mk false (List.replicate 16 0)) (T_addr_Addr.mk false (List.replicate 16 0)) kv16 kv17 kv18) (Int.tmod nv1 400) (Ox.shl .u8 1 (Int.tmod (IntKind.i64.wrap (Int.tdiv nv1 7)) 8)) ((Int.tmod nv1 13) == 0)) (IntKind.u8.wrap (Int.tmod nv1 3)) tick2)
  else none
  else none
def F_law24_act (nv1 : Int) (tick2 : Int) : Option T_law24_Act :=
  if ((Int.tmod nv1 19) == 0) = true then
  F_law24_act_j1 nv1 tick2 0 1 0
  else
  F_law24_act_j1 nv1 tick2 (IntKind.u8.wrap (IntKind.i64.wrap (6 + (IntKind.i64.wrap (11 * (Int.tmod nv1 2)))))) (IntKind.u16.wrap (Int.tmod nv1 5)) 80
def F_kit_Pick (i1 : Int) (nv2 : Int) : Option Int :=
  if (decide (nv2 ≤ 0)) = true then
  some 0
  else
  if (decide (nv2 ≠ 0)) = true then
  if (decide (nv2 ≠ 0)) = true then
  some (Int.tmod (IntKind.i64.wrap ((Int.tmod i1 nv2) + nv2)) nv2)
  else none
  else none
def F_law24_young_j2 (y46 : (List T_flow_Record) × T_cache_Cache) (i128 : Int) (rec130 : Int → Option (Bool × T_cache_Cache)) (t155 : Bool) : Option (Bool × T_cache_Cache) :=
  if t155 = true then
  some (false, y46.2)
  else
  rec130 (IntKind.i64.wrap (i128 + 1))
def F_law24_young_l1 (rec130 : Int → Option (Bool × T_cache_Cache)) (b13 : T_cache_Bounds) (y46 : (List T_flow_Record) × T_cache_Cache) (i128 : Int) : Option (Bool × T_cache_Cache) :=
  if (decide (i128 < (y46.1.length : Int))) = true then
  (gidx y46.1 i128).bind fun xv137 =>
  (F_cache_Cache_Tick y46.2).bind fun y138 =>
  if (decide (b13.f_Active ≤ (IntKind.u64.wrap (y138 - xv137.f_First)))) = true then
  F_law24_young_j2 y46 i128 rec130 true
  else
  (gidx y46.1 i128).bind fun xv144 =>
  (F_cache_Cache_Tick y46.2).bind fun y145 =>
  F_law24_young_j2 y46 i128 rec130 (decide (b13.f_Idle ≤ (IntKind.u64.wrap (y145 - xv144.f_Last))))
  else
  some (true, y46.2)
def F_law24_young_L1 (b13 : T_cache_Bounds) (y46 : (List T_flow_Record) × T_cache_Cache) : Nat → Int → Option (Bool × T_cache_Cache)
  | 0 => fun _ => none
  | k + 1 => F_law24_young_l1 (F_law24_young_L1 b13 y46 k) b13 y46
def F_law24_young_j1 (b13 : T_cache_Bounds) (y20 : Int × Bool × T_cache_Cache) (t42 : Bool) : Option (Bool × T_cache_Cache) :=
  if t42 = true then
  some (false, y20.2.2)
  else
  (F_cache_Cache_All y20.2.2).bind fun y46 =>
  F_law24_young_L1 b13 y46 fuel0 0
def F_law24_young (cv1 : T_cache_Cache) (b13 : T_cache_Bounds) : Option (Bool × T_cache_Cache) :=
  (F_cache_Cache_Next cv1).bind fun y20 =>
  if y20.2.1 = true then
  (F_cache_Cache_Tick y20.2.2).bind fun y33 =>
  F_law24_young_j1 b13 y20 (decide (y20.1 ≤ y33))
  else
  F_law24_young_j1 b13 y20 false
def F_law24_add_l1 (rec66 : Int → Option ((List T_law24_Sum))) (lv1 : List T_law24_Sum) (kv5 : T_packet_Key) (t6 : T_flow_Total) (i64 : Int) : Option ((List T_law24_Sum)) :=
  if (decide (i64 < (lv1.length : Int))) = true then
  (gidx lv1 i64).bind fun xv74 =>
  if (q_packet_Key xv74.f_Key kv5) = true then
  (gidx lv1 i64).bind fun xv78 =>
  (gidx lv1 i64).bind fun xv81 =>
  (gidx lv1 i64).bind fun xv84 =>
  some (lv1.set (i64 : Int).toNat (T_law24_Sum.mk xv84.f_Key (T_flow_Total.mk (IntKind.u64.wrap (xv78.f_Total.f_Packets + t6.f_Packets)) (IntKind.u64.wrap (xv81.f_Total.f_Bytes + t6.f_Bytes)))))
  else
  rec66 (IntKind.i64.wrap (i64 + 1))
  else
  if (decide (lv1.length + ([(T_law24_Sum.mk kv5 t6)] : List T_law24_Sum).length ≤ lim)) = true then
  some (lv1 ++ ([(T_law24_Sum.mk kv5 t6)] : List T_law24_Sum))
  else none
def F_law24_add_L1 (lv1 : List T_law24_Sum) (kv5 : T_packet_Key) (t6 : T_flow_Total) : Nat → Int → Option ((List T_law24_Sum))
  | 0 => fun _ => none
  | k + 1 => F_law24_add_l1 (F_law24_add_L1 lv1 kv5 t6 k) lv1 kv5 t6
def F_law24_add (lv1 : List T_law24_Sum) (kv5 : T_packet_Key) (t6 : T_flow_Total) : Option ((List T_law24_Sum)) :=
  F_law24_add_L1 lv1 kv5 t6 fuel0 0
def F_flow_Record_Right_j1 (t10 : Bool) : Option Bool :=
  some t10
def F_flow_Record_Right (rv1 : T_flow_Record) : Option Bool :=
  (F_packet_Key_Right rv1.f_Key).bind fun y6 =>
  if y6 = true then
  if (decide (0 < rv1.f_Packets)) = true then
  if (decide (rv1.f_First ≤ rv1.f_Last)) = true then
  if (decide (1 ≤ rv1.f_Reason)) = true then
  F_flow_Record_Right_j1 (decide (rv1.f_Reason ≤ 5))
  else
  F_flow_Record_Right_j1 false
  else
  F_flow_Record_Right_j1 false
  else
  F_flow_Record_Right_j1 false
  else
  F_flow_Record_Right_j1 false
def F_law24_ended_l1 (rec85 : (List T_law24_Sum) → Int → Option ((List T_law24_Sum) × Bool)) (lv1 : List T_flow_Record) (sums82 : List T_law24_Sum) (i83 : Int) : Option ((List T_law24_Sum) × Bool) :=
  if (decide (i83 < (lv1.length : Int))) = true then
  (gidx lv1 i83).bind fun xv94 =>
  (F_flow_Record_Right xv94).bind fun y95 =>
  if (!y95) = true then
  some (sums82, false)
  else
  (gidx lv1 i83).bind fun xv102 =>
  (gidx lv1 i83).bind fun xv105 =>
  (F_flow_Record_Total xv105).bind fun y106 =>
  (F_law24_add sums82 xv102.f_Key y106).bind fun y110 =>
  rec85 y110 (IntKind.i64.wrap (i83 + 1))
  else
  some (sums82, true)
def F_law24_ended_L1 (lv1 : List T_flow_Record) : Nat → (List T_law24_Sum) → Int → Option ((List T_law24_Sum) × Bool)
  | 0 => fun _ _ => none
  | k + 1 => F_law24_ended_l1 (F_law24_ended_L1 lv1 k) lv1
def F_law24_ended (lv1 : List T_flow_Record) (sums6 : List T_law24_Sum) : Option ((List T_law24_Sum) × Bool) :=
  F_law24_ended_L1 lv1 fuel0 sums6 0
def F_law24_same_j1 (kv145 : Int) (rec147 : Bool → Int → Option Bool) (found157 : Bool) : Option Bool :=
  rec147 found157 (IntKind.i64.wrap (kv145 + 1))
def F_law24_same_l2 (rec147 : Bool → Int → Option Bool) (av1 : List T_law24_Sum) (b5 : List T_law24_Sum) (i109 : Int) (rec111 : Int → Option Bool) (found144 : Bool) (kv145 : Int) : Option Bool :=
  if (decide (kv145 < (b5.length : Int))) = true then
  if found144 = true then
  F_law24_same_j1 kv145 rec147 true
  else
  (gidx b5 kv145).bind fun xv153 =>
  (gidx av1 i109).bind fun xv156 =>
  F_law24_same_j1 kv145 rec147 (q_law24_Sum xv153 xv156)
  else
  if (!found144) = true then
  some false
  else
  rec111 (IntKind.i64.wrap (i109 + 1))
def F_law24_same_L2 (av1 : List T_law24_Sum) (b5 : List T_law24_Sum) (i109 : Int) (rec111 : Int → Option Bool) : Nat → Bool → Int → Option Bool
  | 0 => fun _ _ => none
  | k + 1 => F_law24_same_l2 (F_law24_same_L2 av1 b5 i109 rec111 k) av1 b5 i109 rec111
def F_law24_same_l1 (rec111 : Int → Option Bool) (av1 : List T_law24_Sum) (b5 : List T_law24_Sum) (i109 : Int) : Option Bool :=
  if (decide (i109 < (av1.length : Int))) = true then
  (gidx av1 i109).bind fun xv119 =>
  F_law24_same_L2 av1 b5 i109 rec111 fuel0 (q_flow_Total xv119.f_Total (T_flow_Total.mk 0 0)) 0
  else
  some true
def F_law24_same_L1 (av1 : List T_law24_Sum) (b5 : List T_law24_Sum) : Nat → Int → Option Bool
  | 0 => fun _ => none
  | k + 1 => F_law24_same_l1 (F_law24_same_L1 av1 b5 k) av1 b5
def F_law24_same (av1 : List T_law24_Sum) (b5 : List T_law24_Sum) : Option Bool :=
  F_law24_same_L1 av1 b5 fuel0 0
def F_law24_CacheKeeps_j3 (i643 : Int) (rec645 : Int → Int → Int → Int → Int → Int → (List T_table_Slot) → Int → (List T_flow_Record) → (List T_law24_Sum) → (List T_law24_Sum) → Int → Option Bool) (cv877 : Int) (cv878 : Int) (cv879 : Int) (cv880 : Int) (cv881 : Int) (cv882 : Int) (cv888 : List T_table_Slot) (cv889 : Int) (cv893 : List T_flow_Record) (inv897 : List T_law24_Sum) (out901 : List T_law24_Sum) : Option Bool :=
  rec645 cv877 cv878 cv879 cv880 cv881 cv882 cv888 cv889 cv893 inv897 out901 (IntKind.i64.wrap (i643 + 1))
def F_law24_CacheKeeps_j5 (i643 : Int) (rec645 : Int → Int → Int → Int → Int → Int → (List T_table_Slot) → Int → (List T_flow_Record) → (List T_law24_Sum) → (List T_law24_Sum) → Int → Option Bool) (inv805 : List T_law24_Sum) (y813 : (List T_law24_Sum) × Bool) (cv853 : Int) (cv854 : Int) (cv855 : Int) (cv856 : Int) (cv857 : Int) (cv858 : Int) (cv864 : List T_table_Slot) (cv865 : Int) (cv869 : List T_flow_Record) (t872 : Bool) : Option Bool :=
  if t872 = true then
  some false
  else
  F_law24_CacheKeeps_j3 i643 rec645 cv853 cv854 cv855 cv856 cv857 cv858 cv864 cv865 cv869 inv805 y813.1
def F_law24_CacheKeeps_j4 (b1 : T_cache_Bounds) (out642 : List T_law24_Sum) (i643 : Int) (rec645 : Int → Int → Int → Int → Int → Int → (List T_table_Slot) → Int → (List T_flow_Record) → (List T_law24_Sum) → (List T_law24_Sum) → Int → Option Bool) (cv785 : Int) (cv786 : Int) (cv787 : Int) (cv788 : Int) (cv789 : Int) (cv790 : Int) (cv796 : List T_table_Slot) (cv797 : Int) (cv801 : List T_flow_Record) (inv805 : List T_law24_Sum) (done810 : List T_flow_Record) : Option Bool :=
  (F_law24_ended done810 out642).bind fun y813 =>
  if (!y813.2) = true then
  F_law24_CacheKeeps_j5 i643 rec645 inv805 y813 cv785 cv786 cv787 cv788 cv789 cv790 cv796 cv797 cv801 true
  else
  (F_cache_Cache_All (T_cache_Cache.mk cv785 (T_cache_Bounds.mk cv786 cv787 cv788 cv789 cv790) (T_table_Table.mk cv796 cv797) cv801)).bind fun y821 =>
  F_law24_CacheKeeps_j5 i643 rec645 inv805 y813 y821.2.f_tick y821.2.f_bounds.f_Flows y821.2.f_bounds.f_Idle y821.2.f_bounds.f_Active y821.2.f_bounds.f_Packets y821.2.f_bounds.f_Bytes y821.2.f_places.f_slots y821.2.f_places.f_many y821.2.f_flows (decide (b1.f_Flows < (y821.1.length : Int)))
def F_law24_CacheKeeps_j7 (b1 : T_cache_Bounds) (inv638 : List T_law24_Sum) (out642 : List T_law24_Sum) (i643 : Int) (rec645 : Int → Int → Int → Int → Int → Int → (List T_table_Slot) → Int → (List T_flow_Record) → (List T_law24_Sum) → (List T_law24_Sum) → Int → Option Bool) (y696 : (List T_flow_Record) × T_cache_Cache) (cv725 : Int) (cv726 : Int) (cv727 : Int) (cv728 : Int) (cv729 : Int) (cv730 : Int) (cv736 : List T_table_Slot) (cv737 : Int) (cv741 : List T_flow_Record) (t745 : Bool) : Option Bool :=
  if t745 = true then
  some false
  else
  F_law24_CacheKeeps_j4 b1 out642 i643 rec645 cv725 cv726 cv727 cv728 cv729 cv730 cv736 cv737 cv741 inv638 y696.1
def F_law24_CacheKeeps_j6 (b1 : T_cache_Bounds) (cv618 : Int) (cv619 : Int) (cv620 : Int) (cv621 : Int) (cv622 : Int) (cv623 : Int) (cv629 : List T_table_Slot) (cv630 : Int) (cv634 : List T_flow_Record) (inv638 : List T_law24_Sum) (out642 : List T_law24_Sum) (i643 : Int) (rec645 : Int → Int → Int → Int → Int → Int → (List T_table_Slot) → Int → (List T_flow_Record) → (List T_law24_Sum) → (List T_law24_Sum) → Int → Option Bool) (xv652 : T_law24_Act) (t688 : Bool) : Option Bool :=
  if t688 = true then
  (F_cache_Cache_Tick (T_cache_Cache.mk cv618 (T_cache_Bounds.mk cv619 cv620 cv621 cv622 cv623) (T_table_Table.mk cv629 cv630) cv634)).bind fun y691 =>
  (F_cache_Cache_Advance (T_cache_Cache.mk cv618 (T_cache_Bounds.mk cv619 cv620 cv621 cv622 cv623) (T_table_Table.mk cv629 cv630) cv634) xv652.f_Tick).bind fun y696 =>
  if (decide (y691 ≤ xv652.f_Tick)) = true then
  (F_law24_young y696.2 b1).bind fun y711 =>
  F_law24_CacheKeeps_j7 b1 inv638 out642 i643 rec645 y696 y711.2.f_tick y711.2.f_bounds.f_Flows y711.2.f_bounds.f_Idle y711.2.f_bounds.f_Active y711.2.f_bounds.f_Packets y711.2.f_bounds.f_Bytes y711.2.f_places.f_slots y711.2.f_places.f_many y711.2.f_flows (!y711.1)
  else
  F_law24_CacheKeeps_j7 b1 inv638 out642 i643 rec645 y696 y696.2.f_tick y696.2.f_bounds.f_Flows y696.2.f_bounds.f_Idle y696.2.f_bounds.f_Active y696.2.f_bounds.f_Packets y696.2.f_bounds.f_Bytes y696.2.f_places.f_slots y696.2.f_places.f_many y696.2.f_flows false
  else
  (F_packet_Key_Right xv652.f_Packet.f_Key).bind fun y750 =>
  if (!y750) = true then
  F_law24_CacheKeeps_j3 i643 rec645 cv618 cv619 cv620 cv621 cv622 cv623 cv629 cv630 cv634 inv638 out642
  else
  (F_cache_Cache_Account (T_cache_Cache.mk cv618 (T_cache_Bounds.mk cv619 cv620 cv621 cv622 cv623) (T_table_Table.mk cv629 cv630) cv634) (T_packet_Packet.mk xv652.f_Packet.f_Key (Int.tmod xv652.f_Packet.f_Length 100000) xv652.f_Packet.f_Flags xv652.f_Packet.f_Fragment) xv652.f_Class xv652.f_Tick).bind fun y757 =>
  if (y757.2.1 != 0) = true then
  some false
  else
  (F_law24_add inv638 xv652.f_Packet.f_Key (T_flow_Total.mk 1 (IntKind.u64.wrap (gmax 0 (Int.tmod xv652.f_Packet.f_Length 100000))))).bind fun y776 =>
  F_law24_CacheKeeps_j4 b1 out642 i643 rec645 y757.2.2.f_tick y757.2.2.f_bounds.f_Flows y757.2.2.f_bounds.f_Idle y757.2.2.f_bounds.f_Active y757.2.2.f_bounds.f_Packets y757.2.2.f_bounds.f_Bytes y757.2.2.f_places.f_slots y757.2.2.f_places.f_many y757.2.2.f_flows y776 y757.1
def F_law24_CacheKeeps_j8 (t1010 : Bool) : Option Bool :=
  some t1010
def F_law24_CacheKeeps_l2 (rec976 : (List T_law24_Sum) → Int → Option Bool) (inv638 : List T_law24_Sum) (y904 : (List T_flow_Record) × T_cache_Cache) (out972 : List T_law24_Sum) (i974 : Int) : Option Bool :=
  if (decide (i974 < (y904.1.length : Int))) = true then
  (gidx y904.1 i974).bind fun xv983 =>
  (gidx y904.1 i974).bind fun xv986 =>
  (F_flow_Record_Total xv986).bind fun y987 =>
  (F_law24_add out972 xv983.f_Key y987).bind fun y991 =>
  rec976 y991 (IntKind.i64.wrap (i974 + 1))
  else
  (F_law24_same inv638 out972).bind fun y998 =>
  if y998 = true then
  (F_law24_same out972 inv638).bind fun y1002 =>
  if y1002 = true then
  (F_law24_works).bind fun y1006 =>
  F_law24_CacheKeeps_j8 y1006
  else
  F_law24_CacheKeeps_j8 false
  else
  F_law24_CacheKeeps_j8 false
def F_law24_CacheKeeps_L2 (inv638 : List T_law24_Sum) (y904 : (List T_flow_Record) × T_cache_Cache) : Nat → (List T_law24_Sum) → Int → Option Bool
  | 0 => fun _ _ => none
  | k + 1 => F_law24_CacheKeeps_l2 (F_law24_CacheKeeps_L2 inv638 y904 k) inv638 y904
def F_law24_CacheKeeps_l1 (rec645 : Int → Int → Int → Int → Int → Int → (List T_table_Slot) → Int → (List T_flow_Record) → (List T_law24_Sum) → (List T_law24_Sum) → Int → Option Bool) (b1 : T_cache_Bounds) (lv2 : List T_law24_Act) (cv618 : Int) (cv619 : Int) (cv620 : Int) (cv621 : Int) (cv622 : Int) (cv623 : Int) (cv629 : List T_table_Slot) (cv630 : Int) (cv634 : List T_flow_Record) (inv638 : List T_law24_Sum) (out642 : List T_law24_Sum) (i643 : Int) : Option Bool :=
  if (decide (i643 < (lv2.length : Int))) = true then
  (gidx lv2 i643).bind fun xv652 =>
  (F_kit_Pick xv652.f_Do 8).bind fun y659 =>
  if (y659 == 7) = true then
  (F_cache_Cache_Flush (T_cache_Cache.mk cv618 (T_cache_Bounds.mk cv619 cv620 cv621 cv622 cv623) (T_table_Table.mk cv629 cv630) cv634)).bind fun y664 =>
  F_law24_CacheKeeps_j4 b1 out642 i643 rec645 y664.2.f_tick y664.2.f_bounds.f_Flows y664.2.f_bounds.f_Idle y664.2.f_bounds.f_Active y664.2.f_bounds.f_Packets y664.2.f_bounds.f_Bytes y664.2.f_places.f_slots y664.2.f_places.f_many y664.2.f_flows inv638 y664.1
  else
  if (y659 == 5) = true then
  F_law24_CacheKeeps_j6 b1 cv618 cv619 cv620 cv621 cv622 cv623 cv629 cv630 cv634 inv638 out642 i643 rec645 xv652 (y659 == 5)
  else
  F_law24_CacheKeeps_j6 b1 cv618 cv619 cv620 cv621 cv622 cv623 cv629 cv630 cv634 inv638 out642 i643 rec645 xv652 (y659 == 6)
  else
  (F_cache_Cache_All (T_cache_Cache.mk cv618 (T_cache_Bounds.mk cv619 cv620 cv621 cv622 cv623) (T_table_Table.mk cv629 cv630) cv634)).bind fun y904 =>
  F_law24_CacheKeeps_L2 inv638 y904 fuel0 out642 0
def F_law24_CacheKeeps_L1 (b1 : T_cache_Bounds) (lv2 : List T_law24_Act) : Nat → Int → Int → Int → Int → Int → Int → (List T_table_Slot) → Int → (List T_flow_Record) → (List T_law24_Sum) → (List T_law24_Sum) → Int → Option Bool
  | 0 => fun _ _ _ _ _ _ _ _ _ _ _ _ => none
  | k + 1 => F_law24_CacheKeeps_l1 (F_law24_CacheKeeps_L1 b1 lv2 k) b1 lv2
def F_law24_CacheKeeps_j2 (b1 : T_cache_Bounds) (lv2 : List T_law24_Act) (y36 : Int) (ok43 : Bool) : Option Bool :=
  if ok43 = true then
  (F_law24_works).bind fun y54 =>
  some y54
  else
  if (decide (0 ≤ (Ox.shl .i64 1 y36) ∧ (Ox.shl .i64 1 y36) ≤ lim)) = true then
  F_law24_CacheKeeps_L1 b1 lv2 fuel0 0 b1.f_Flows b1.f_Idle b1.f_Active b1.f_Packets b1.f_Bytes (List.replicate (Int.toNat (Ox.shl .i64 1 y36)) ((T_table_Slot.mk false (T_packet_Key.mk (T_addr_Addr.mk false (List.replicate 16 0)) (T_addr_Addr.mk false (List.replicate 16 0)) 0 0 0) 0) : T_table_Slot)) 0 ([]) ([]) ([]) 0
  else none
def F_law24_CacheKeeps_j1 (b1 : T_cache_Bounds) (lv2 : List T_law24_Act) (t24 : Bool) : Option Bool :=
  if t24 = true then
  (F_law24_works).bind fun y31 =>
  some y31
  else
  (F_math_bits_Len (IntKind.u64.wrap b1.f_Flows)).bind fun y36 =>
  if (decide (¬ y36 < 0)) = true then
  if (decide ((Ox.shl .i64 1 y36) < 1)) = true then
  F_law24_CacheKeeps_j2 b1 lv2 y36 true
  else
  if (decide (65536 < (Ox.shl .i64 1 y36))) = true then
  F_law24_CacheKeeps_j2 b1 lv2 y36 true
  else
  F_law24_CacheKeeps_j2 b1 lv2 y36 ((bits .and .i64 (Ox.shl .i64 1 y36) (IntKind.i64.wrap ((Ox.shl .i64 1 y36) - 1))) != 0)
  else none
def F_law24_CacheKeeps (b1 : T_cache_Bounds) (lv2 : List T_law24_Act) : Option Bool :=
  if (decide (80 < (lv2.length : Int))) = true then
  (F_law24_works).bind fun y13 =>
  some y13
  else
  if (decide (b1.f_Flows < 1)) = true then
  F_law24_CacheKeeps_j1 b1 lv2 true
  else
  if (decide (4096 < b1.f_Flows)) = true then
  F_law24_CacheKeeps_j1 b1 lv2 true
  else
  if (b1.f_Idle == 0) = true then
  F_law24_CacheKeeps_j1 b1 lv2 true
  else
  if (b1.f_Active == 0) = true then
  F_law24_CacheKeeps_j1 b1 lv2 true
  else
  if (b1.f_Packets == 0) = true then
  F_law24_CacheKeeps_j1 b1 lv2 true
  else
  F_law24_CacheKeeps_j1 b1 lv2 (b1.f_Bytes == 0)
def F_law24_CacheTicks_j4 (t46 : Bool) : Option Bool :=
  some t46
def F_law24_CacheTicks_j3 : Option Bool :=
  (F_law24_works).bind fun y42 =>
  F_law24_CacheTicks_j4 y42
def F_law24_CacheTicks_j7 (t70 : Bool) : Option Bool :=
  some t70
def F_law24_CacheTicks_j6 : Option Bool :=
  (F_law24_works).bind fun y66 =>
  F_law24_CacheTicks_j7 y66
def F_law24_CacheTicks_j9 : Option Bool :=
  some false
def F_law24_CacheTicks_j8 : Option Bool :=
  F_law24_CacheTicks_j9
def F_law24_CacheTicks_j5 (y49 : Int) (h56 : Bool) : Option Bool :=
  if h56 = true then
  F_law24_CacheTicks_j6
  else
  if (decide (0 ≤ (Ox.shl .i64 1 y49) ∧ (Ox.shl .i64 1 y49) ≤ lim)) = true then
  F_law24_CacheTicks_j8
  else none
def F_law24_CacheTicks_j2 (b1 : T_cache_Bounds) (t36 : Bool) : Option Bool :=
  if t36 = true then
  F_law24_CacheTicks_j3
  else
  (F_math_bits_Len (IntKind.u64.wrap b1.f_Flows)).bind fun y49 =>
  if (decide (¬ y49 < 0)) = true then
  if (decide ((Ox.shl .i64 1 y49) < 1)) = true then
  F_law24_CacheTicks_j5 y49 true
  else
  if (decide (65536 < (Ox.shl .i64 1 y49))) = true then
  F_law24_CacheTicks_j5 y49 true
  else
  F_law24_CacheTicks_j5 y49 ((bits .and .i64 (Ox.shl .i64 1 y49) (IntKind.i64.wrap ((Ox.shl .i64 1 y49) - 1))) != 0)
  else none
def F_law24_CacheTicks_j13 (t125 : Bool) : Option Bool :=
  some t125
def F_law24_CacheTicks_j12 : Option Bool :=
  (F_law24_works).bind fun y121 =>
  F_law24_CacheTicks_j13 y121
def F_law24_CacheTicks_j16 (t149 : Bool) : Option Bool :=
  some t149
def F_law24_CacheTicks_j15 : Option Bool :=
  (F_law24_works).bind fun y145 =>
  F_law24_CacheTicks_j16 y145
def F_law24_CacheTicks_j18 : Option Bool :=
  some false
def F_law24_CacheTicks_j17 : Option Bool :=
  F_law24_CacheTicks_j18
def F_law24_CacheTicks_j14 (y128 : Int) (h135 : Bool) : Option Bool :=
  if h135 = true then
  F_law24_CacheTicks_j15
  else
  if (decide (0 ≤ (Ox.shl .i64 1 y128) ∧ (Ox.shl .i64 1 y128) ≤ lim)) = true then
  F_law24_CacheTicks_j17
  else none
def F_law24_CacheTicks_j11 (b1 : T_cache_Bounds) (t115 : Bool) : Option Bool :=
  if t115 = true then
  F_law24_CacheTicks_j12
  else
  (F_math_bits_Len (IntKind.u64.wrap b1.f_Flows)).bind fun y128 =>
  if (decide (¬ y128 < 0)) = true then
  if (decide ((Ox.shl .i64 1 y128) < 1)) = true then
  F_law24_CacheTicks_j14 y128 true
  else
  if (decide (65536 < (Ox.shl .i64 1 y128))) = true then
  F_law24_CacheTicks_j14 y128 true
  else
  F_law24_CacheTicks_j14 y128 ((bits .and .i64 (Ox.shl .i64 1 y128) (IntKind.i64.wrap ((Ox.shl .i64 1 y128) - 1))) != 0)
  else none
def F_law24_CacheTicks_j21 : Option Bool :=
  some false
def F_law24_CacheTicks_j20 : Option Bool :=
  F_law24_CacheTicks_j21
def F_law24_CacheTicks_j24 : Option Bool :=
  some false
def F_law24_CacheTicks_j23 : Option Bool :=
  F_law24_CacheTicks_j24
def F_law24_CacheTicks_j26 (tick455 : Int) (i456 : Int) (rec458 : Int → Int → Int → Int → Int → Int → (List T_table_Slot) → Int → (List T_flow_Record) → Int → Int → Int → Int → Int → Int → (List T_table_Slot) → Int → (List T_flow_Record) → Int → Int → Option Bool) (xv466 : T_law24_Act) (y474 : (List T_flow_Record) × Int × T_cache_Cache) (y496 : (List T_flow_Record) × Int × T_cache_Cache) (t519 : Bool) : Option Bool :=
  if t519 = true then
  some false
  else
  rec458 y474.2.2.f_tick y474.2.2.f_bounds.f_Flows y474.2.2.f_bounds.f_Idle y474.2.2.f_bounds.f_Active y474.2.2.f_bounds.f_Packets y474.2.2.f_bounds.f_Bytes y474.2.2.f_places.f_slots y474.2.2.f_places.f_many y474.2.2.f_flows y496.2.2.f_tick y496.2.2.f_bounds.f_Flows y496.2.2.f_bounds.f_Idle y496.2.2.f_bounds.f_Active y496.2.2.f_bounds.f_Packets y496.2.2.f_bounds.f_Bytes y496.2.2.f_places.f_slots y496.2.2.f_places.f_many y496.2.2.f_flows (IntKind.u64.wrap (tick455 + (Int.tmod xv466.f_Tick 8))) (IntKind.i64.wrap (i456 + 1))
def F_law24_CacheTicks_l3 (rec696 : Int → Option Bool) (y524 : (List T_flow_Record) × T_cache_Cache) (got634 : List T_flow_Record) (i694 : Int) : Option Bool :=
  if (decide (i694 < (got634.length : Int))) = true then
  (gidx got634 i694).bind fun xv704 =>
  (gidx y524.1 i694).bind fun xv707 =>
  if (!(q_flow_Record xv704 xv707)) = true then
  some false
  else
  rec696 (IntKind.i64.wrap (i694 + 1))
  else
  (F_law24_works).bind fun y710 =>
  some y710
def F_law24_CacheTicks_L3 (y524 : (List T_flow_Record) × T_cache_Cache) (got634 : List T_flow_Record) : Nat → Int → Option Bool
  | 0 => fun _ => none
  | k + 1 => F_law24_CacheTicks_l3 (F_law24_CacheTicks_L3 y524 got634 k) y524 got634
def F_law24_CacheTicks_l2 (rec637 : Int → Int → Int → Int → Int → Int → (List T_table_Slot) → Int → (List T_flow_Record) → (List T_flow_Record) → Int → Option Bool) (ticks6 : Int) (tick455 : Int) (y524 : (List T_flow_Record) × T_cache_Cache) (d613 : Int) (d614 : Int) (d615 : Int) (d616 : Int) (d617 : Int) (d618 : Int) (d624 : List T_table_Slot) (d625 : Int) (d629 : List T_flow_Record) (got634 : List T_flow_Record) (t635 : Int) : Option Bool :=
  if (decide (t635 ≤ (IntKind.u64.wrap (Int.tmod ticks6 151)))) = true then
  (F_cache_Cache_Advance (T_cache_Cache.mk d613 (T_cache_Bounds.mk d614 d615 d616 d617 d618) (T_table_Table.mk d624 d625) d629) (IntKind.u64.wrap (tick455 + t635))).bind fun y642 =>
  if (decide (got634.length + y642.1.length ≤ lim)) = true then
  rec637 y642.2.f_tick y642.2.f_bounds.f_Flows y642.2.f_bounds.f_Idle y642.2.f_bounds.f_Active y642.2.f_bounds.f_Packets y642.2.f_bounds.f_Bytes y642.2.f_places.f_slots y642.2.f_places.f_many y642.2.f_flows (got634 ++ y642.1) (IntKind.u64.wrap (t635 + 1))
  else none
  else
  if ((got634.length : Int) != (y524.1.length : Int)) = true then
  some false
  else
  F_law24_CacheTicks_L3 y524 got634 fuel0 0
def F_law24_CacheTicks_L2 (ticks6 : Int) (tick455 : Int) (y524 : (List T_flow_Record) × T_cache_Cache) : Nat → Int → Int → Int → Int → Int → Int → (List T_table_Slot) → Int → (List T_flow_Record) → (List T_flow_Record) → Int → Option Bool
  | 0 => fun _ _ _ _ _ _ _ _ _ _ _ => none
  | k + 1 => F_law24_CacheTicks_l2 (F_law24_CacheTicks_L2 ticks6 tick455 y524 k) ticks6 tick455 y524
def F_law24_CacheTicks_l1 (rec458 : Int → Int → Int → Int → Int → Int → (List T_table_Slot) → Int → (List T_flow_Record) → Int → Int → Int → Int → Int → Int → (List T_table_Slot) → Int → (List T_flow_Record) → Int → Int → Option Bool) (lv2 : List T_law24_Act) (ticks6 : Int) (cv420 : Int) (cv421 : Int) (cv422 : Int) (cv423 : Int) (cv424 : Int) (cv425 : Int) (cv431 : List T_table_Slot) (cv432 : Int) (cv436 : List T_flow_Record) (d438 : Int) (d439 : Int) (d440 : Int) (d441 : Int) (d442 : Int) (d443 : Int) (d449 : List T_table_Slot) (d450 : Int) (d454 : List T_flow_Record) (tick455 : Int) (i456 : Int) : Option Bool :=
  if (decide (i456 < (lv2.length : Int))) = true then
  (gidx lv2 i456).bind fun xv466 =>
  (gidx lv2 i456).bind fun xv470 =>
  (gidx lv2 i456).bind fun xv473 =>
  (F_cache_Cache_Account (T_cache_Cache.mk cv420 (T_cache_Bounds.mk cv421 cv422 cv423 cv424 cv425) (T_table_Table.mk cv431 cv432) cv436) xv470.f_Packet xv473.f_Class (IntKind.u64.wrap (tick455 + (Int.tmod xv466.f_Tick 8)))).bind fun y474 =>
  (gidx lv2 i456).bind fun xv492 =>
  (gidx lv2 i456).bind fun xv495 =>
  (F_cache_Cache_Account (T_cache_Cache.mk d438 (T_cache_Bounds.mk d439 d440 d441 d442 d443) (T_table_Table.mk d449 d450) d454) xv492.f_Packet xv495.f_Class (IntKind.u64.wrap (tick455 + (Int.tmod xv466.f_Tick 8)))).bind fun y496 =>
  if (y474.2.1 != y496.2.1) = true then
  F_law24_CacheTicks_j26 tick455 i456 rec458 xv466 y474 y496 true
  else
  F_law24_CacheTicks_j26 tick455 i456 rec458 xv466 y474 y496 ((y474.1.length : Int) != (y496.1.length : Int))
  else
  (F_cache_Cache_Advance (T_cache_Cache.mk cv420 (T_cache_Bounds.mk cv421 cv422 cv423 cv424 cv425) (T_table_Table.mk cv431 cv432) cv436) (IntKind.u64.wrap (tick455 + (IntKind.u64.wrap (Int.tmod ticks6 151))))).bind fun y524 =>
  F_law24_CacheTicks_L2 ticks6 tick455 y524 fuel0 d438 d439 d440 d441 d442 d443 d449 d450 d454 ([]) 0
def F_law24_CacheTicks_L1 (lv2 : List T_law24_Act) (ticks6 : Int) : Nat → Int → Int → Int → Int → Int → Int → (List T_table_Slot) → Int → (List T_flow_Record) → Int → Int → Int → Int → Int → Int → (List T_table_Slot) → Int → (List T_flow_Record) → Int → Int → Option Bool
  | 0 => fun _ _ _ _ _ _ _ _ _ _ _ _ _ _ _ _ _ _ _ _ => none
  | k + 1 => F_law24_CacheTicks_l1 (F_law24_CacheTicks_L1 lv2 ticks6 k) lv2 ticks6
def F_law24_CacheTicks_j25 (b1 : T_cache_Bounds) (lv2 : List T_law24_Act) (ticks6 : Int) (y93 : Int) (y206 : Int) : Option Bool :=
  F_law24_CacheTicks_L1 lv2 ticks6 fuel0 0 b1.f_Flows b1.f_Idle b1.f_Active b1.f_Packets b1.f_Bytes (List.replicate (Int.toNat (Ox.shl .i64 1 y93)) ((T_table_Slot.mk false (T_packet_Key.mk (T_addr_Addr.mk false (List.replicate 16 0)) (T_addr_Addr.mk false (List.replicate 16 0)) 0 0 0) 0) : T_table_Slot)) 0 ([]) 0 b1.f_Flows b1.f_Idle b1.f_Active b1.f_Packets b1.f_Bytes (List.replicate (Int.toNat (Ox.shl .i64 1 y206)) ((T_table_Slot.mk false (T_packet_Key.mk (T_addr_Addr.mk false (List.replicate 16 0)) (T_addr_Addr.mk false (List.replicate 16 0)) 0 0 0) 0) : T_table_Slot)) 0 ([]) 0 0
def F_law24_CacheTicks_j22 (b1 : T_cache_Bounds) (lv2 : List T_law24_Act) (ticks6 : Int) (y93 : Int) (y206 : Int) (h213 : Bool) : Option Bool :=
  if h213 = true then
  F_law24_CacheTicks_j23
  else
  if (decide (0 ≤ (Ox.shl .i64 1 y206) ∧ (Ox.shl .i64 1 y206) ≤ lim)) = true then
  F_law24_CacheTicks_j25 b1 lv2 ticks6 y93 y206
  else none
def F_law24_CacheTicks_j19 (b1 : T_cache_Bounds) (lv2 : List T_law24_Act) (ticks6 : Int) (y93 : Int) (t192 : Bool) : Option Bool :=
  if t192 = true then
  F_law24_CacheTicks_j20
  else
  (F_math_bits_Len (IntKind.u64.wrap b1.f_Flows)).bind fun y206 =>
  if (decide (¬ y206 < 0)) = true then
  if (decide ((Ox.shl .i64 1 y206) < 1)) = true then
  F_law24_CacheTicks_j22 b1 lv2 ticks6 y93 y206 true
  else
  if (decide (65536 < (Ox.shl .i64 1 y206))) = true then
  F_law24_CacheTicks_j22 b1 lv2 ticks6 y93 y206 true
  else
  F_law24_CacheTicks_j22 b1 lv2 ticks6 y93 y206 ((bits .and .i64 (Ox.shl .i64 1 y206) (IntKind.i64.wrap ((Ox.shl .i64 1 y206) - 1))) != 0)
  else none
def F_law24_CacheTicks_j10 (b1 : T_cache_Bounds) (lv2 : List T_law24_Act) (ticks6 : Int) (y93 : Int) (h100 : Bool) : Option Bool :=
  if h100 = true then
  if (decide (b1.f_Flows < 1)) = true then
  F_law24_CacheTicks_j11 b1 true
  else
  if (decide (4096 < b1.f_Flows)) = true then
  F_law24_CacheTicks_j11 b1 true
  else
  if (b1.f_Idle == 0) = true then
  F_law24_CacheTicks_j11 b1 true
  else
  if (b1.f_Active == 0) = true then
  F_law24_CacheTicks_j11 b1 true
  else
  if (b1.f_Packets == 0) = true then
  F_law24_CacheTicks_j11 b1 true
  else
  F_law24_CacheTicks_j11 b1 (b1.f_Bytes == 0)
  else
  if (decide (0 ≤ (Ox.shl .i64 1 y93) ∧ (Ox.shl .i64 1 y93) ≤ lim)) = true then
  if (decide (b1.f_Flows < 1)) = true then
  F_law24_CacheTicks_j19 b1 lv2 ticks6 y93 true
  else
  if (decide (4096 < b1.f_Flows)) = true then
  F_law24_CacheTicks_j19 b1 lv2 ticks6 y93 true
  else
  if (b1.f_Idle == 0) = true then
  F_law24_CacheTicks_j19 b1 lv2 ticks6 y93 true
  else
  if (b1.f_Active == 0) = true then
  F_law24_CacheTicks_j19 b1 lv2 ticks6 y93 true
  else
  if (b1.f_Packets == 0) = true then
  F_law24_CacheTicks_j19 b1 lv2 ticks6 y93 true
  else
  F_law24_CacheTicks_j19 b1 lv2 ticks6 y93 (b1.f_Bytes == 0)
  else none
def F_law24_CacheTicks_j1 (b1 : T_cache_Bounds) (lv2 : List T_law24_Act) (ticks6 : Int) (t25 : Bool) : Option Bool :=
  if t25 = true then
  if (decide (b1.f_Flows < 1)) = true then
  F_law24_CacheTicks_j2 b1 true
  else
  if (decide (4096 < b1.f_Flows)) = true then
  F_law24_CacheTicks_j2 b1 true
  else
  if (b1.f_Idle == 0) = true then
  F_law24_CacheTicks_j2 b1 true
  else
  if (b1.f_Active == 0) = true then
  F_law24_CacheTicks_j2 b1 true
  else
  if (b1.f_Packets == 0) = true then
  F_law24_CacheTicks_j2 b1 true
  else
  F_law24_CacheTicks_j2 b1 (b1.f_Bytes == 0)
  else
  (F_math_bits_Len (IntKind.u64.wrap b1.f_Flows)).bind fun y93 =>
  if (decide (¬ y93 < 0)) = true then
  if (decide ((Ox.shl .i64 1 y93) < 1)) = true then
  F_law24_CacheTicks_j10 b1 lv2 ticks6 y93 true
  else
  if (decide (65536 < (Ox.shl .i64 1 y93))) = true then
  F_law24_CacheTicks_j10 b1 lv2 ticks6 y93 true
  else
  F_law24_CacheTicks_j10 b1 lv2 ticks6 y93 ((bits .and .i64 (Ox.shl .i64 1 y93) (IntKind.i64.wrap ((Ox.shl .i64 1 y93) - 1))) != 0)
  else none
def F_law24_CacheTicks (b1 : T_cache_Bounds) (lv2 : List T_law24_Act) (ticks6 : Int) : Option Bool :=
  if (decide (20 < (lv2.length : Int))) = true then
  (F_law24_works).bind fun y14 =>
  some y14
  else
  if (decide (b1.f_Flows < 1)) = true then
  F_law24_CacheTicks_j1 b1 lv2 ticks6 true
  else
  if (decide (4096 < b1.f_Flows)) = true then
  F_law24_CacheTicks_j1 b1 lv2 ticks6 true
  else
  if (b1.f_Idle == 0) = true then
  F_law24_CacheTicks_j1 b1 lv2 ticks6 true
  else
  if (b1.f_Active == 0) = true then
  F_law24_CacheTicks_j1 b1 lv2 ticks6 true
  else
  if (b1.f_Packets == 0) = true then
  F_law24_CacheTicks_j1 b1 lv2 ticks6 true
  else
  F_law24_CacheTicks_j1 b1 lv2 ticks6 (b1.f_Bytes == 0)
def F_cache_Cache_Account_N (p1 : T_packet_Packet) (class2 : Int) (tick3 : Int) : Option ((List T_flow_Record) × Int) :=
  some ([], 1)
def F_cache_Cache_Next_N : Option (Int × Bool) :=
  some (0, false)
def F_cache_Cache_Get_N (kv1 : T_packet_Key) : Option (T_flow_Record × Bool) :=
  some ((T_flow_Record.mk (T_packet_Key.mk (T_addr_Addr.mk false (List.replicate 16 0)) (T_addr_Addr.mk false (List.replicate 16 0)) 0 0 0) 0 0 0 0 0 0 0), false)
def F_cache_Cache_Advance_N_j1 : Option ((List T_flow_Record)) :=
  some ([])
def F_cache_Cache_Advance_N (tick1 : Int) : Option ((List T_flow_Record)) :=
  F_cache_Cache_Advance_N_j1
def F_cache_Cache_Flush_N : Option ((List T_flow_Record)) :=
  some ([])
def F_cache_Cache_All_N : Option ((List T_flow_Record)) :=
  some ([])
def F_cache_Cache_Tick_N : Option Int :=
  some 0
def F_cache_Cache_Clear_N : Option Int :=
  some 0
def F_law24_CacheNone_j1 (t62 : Bool) : Option Bool :=
  some t62
def F_law24_CacheNone (av1 : T_law24_Act) : Option Bool :=
  (F_cache_Cache_Account_N av1.f_Packet av1.f_Class av1.f_Tick).bind fun y8 =>
  (F_cache_Cache_Next_N).bind fun y16 =>
  (F_cache_Cache_Get_N av1.f_Packet.f_Key).bind fun y21 =>
  if ((y8.1.length : Int) == 0) = true then
  if (y8.2 == 1) = true then
  (F_cache_Cache_Advance_N av1.f_Tick).bind fun y29 =>
  if ((y29.length : Int) == 0) = true then
  (F_cache_Cache_Flush_N).bind fun y36 =>
  if ((y36.length : Int) == 0) = true then
  if (y16.1 == 0) = true then
  if (!y16.2) = true then
  (F_cache_Cache_All_N).bind fun y43 =>
  if ((y43.length : Int) == 0) = true then
  if (q_flow_Record y21.1 (T_flow_Record.mk (T_packet_Key.mk (T_addr_Addr.mk false (List.replicate 16 0)) (T_addr_Addr.mk false (List.replicate 16 0)) 0 0 0) 0 0 0 0 0 0 0)) = true then
  if (!y21.2) = true then
  (F_cache_Cache_Tick_N).bind fun y50 =>
  if (y50 == 0) = true then
  (F_cache_Cache_Clear_N).bind fun y54 =>
  if (y54 == 0) = true then
  (F_law24_works).bind fun y58 =>
  F_law24_CacheNone_j1 y58
  else
  F_law24_CacheNone_j1 false
  else
  F_law24_CacheNone_j1 false
  else
  F_law24_CacheNone_j1 false
  else
  F_law24_CacheNone_j1 false
  else
  F_law24_CacheNone_j1 false
  else
  F_law24_CacheNone_j1 false
  else
  F_law24_CacheNone_j1 false
  else
  F_law24_CacheNone_j1 false
  else
  F_law24_CacheNone_j1 false
  else
  F_law24_CacheNone_j1 false
  else
  F_law24_CacheNone_j1 false
def F_law24_CacheKnown_j1 (nv212 : Int) (rec214 : Int → Int → Option Bool) (kv264 : Int) (t315 : Bool) : Option Bool :=
  if t315 = true then
  some false
  else
  rec214 kv264 (IntKind.i64.wrap (nv212 + 1))
def F_law24_CacheKnown_l2 (rec272 : Int → (List T_law24_Act) → Int → Int → Option Bool) (nv212 : Int) (rec214 : Int → Int → Option Bool) (kv264 : Int) (lv268 : List T_law24_Act) (tick269 : Int) (i270 : Int) : Option Bool :=
  if (decide (i270 < 50)) = true then
  (F_law24_act kv264 (IntKind.u64.wrap (tick269 + (IntKind.u64.wrap (Int.tmod kv264 4))))).bind fun y279 =>
  if (decide (lv268.length + ([y279] : List T_law24_Act).length ≤ lim)) = true then
  rec272 (Int.tmod (IntKind.i64.wrap ((IntKind.i64.wrap ((IntKind.i64.wrap (kv264 * 31)) + (IntKind.i64.wrap (7 * i270)))) + 11)) 100003) (lv268 ++ ([y279] : List T_law24_Act)) (IntKind.u64.wrap (tick269 + (IntKind.u64.wrap (Int.tmod kv264 4)))) (IntKind.i64.wrap (i270 + 1))
  else none
  else
  (F_law24_CachePlays (IntKind.u64.wrap (Int.tmod nv212 3)) (T_cache_Bounds.mk (IntKind.i64.wrap (1 + (Int.tmod nv212 6))) (IntKind.u64.wrap (IntKind.i64.wrap (1 + (Int.tmod nv212 9)))) (IntKind.u64.wrap (IntKind.i64.wrap (1 + (Int.tmod (IntKind.i64.wrap (nv212 * 3)) 40)))) (IntKind.u64.wrap (IntKind.i64.wrap (1 + (Int.tmod nv212 7)))) (IntKind.u64.wrap (IntKind.i64.wrap (1 + (Int.tmod (IntKind.i64.wrap (nv212 * 37)) 2000))))) lv268).bind fun y296 =>
  if (!y296) = true then
  F_law24_CacheKnown_j1 nv212 rec214 kv264 true
  else
  (F_law24_CacheKeeps (T_cache_Bounds.mk (IntKind.i64.wrap (1 + (Int.tmod nv212 6))) (IntKind.u64.wrap (IntKind.i64.wrap (1 + (Int.tmod nv212 9)))) (IntKind.u64.wrap (IntKind.i64.wrap (1 + (Int.tmod (IntKind.i64.wrap (nv212 * 3)) 40)))) (IntKind.u64.wrap (IntKind.i64.wrap (1 + (Int.tmod nv212 7)))) (IntKind.u64.wrap (IntKind.i64.wrap (1 + (Int.tmod (IntKind.i64.wrap (nv212 * 37)) 2000))))) lv268).bind fun y300 =>
  if (!y300) = true then
  F_law24_CacheKnown_j1 nv212 rec214 kv264 true
  else
  (gcut lv268 0 20).bind fun cut304 =>
  (F_law24_CacheTicks (T_cache_Bounds.mk (IntKind.i64.wrap (1 + (Int.tmod nv212 6))) (IntKind.u64.wrap (IntKind.i64.wrap (1 + (Int.tmod nv212 9)))) (IntKind.u64.wrap (IntKind.i64.wrap (1 + (Int.tmod (IntKind.i64.wrap (nv212 * 3)) 40)))) (IntKind.u64.wrap (IntKind.i64.wrap (1 + (Int.tmod nv212 7)))) (IntKind.u64.wrap (IntKind.i64.wrap (1 + (Int.tmod (IntKind.i64.wrap (nv212 * 37)) 2000))))) cut304 (IntKind.u8.wrap nv212)).bind fun y311 =>
  F_law24_CacheKnown_j1 nv212 rec214 kv264 (!y311)
def F_law24_CacheKnown_L2 (nv212 : Int) (rec214 : Int → Int → Option Bool) : Nat → Int → (List T_law24_Act) → Int → Int → Option Bool
  | 0 => fun _ _ _ _ => none
  | k + 1 => F_law24_CacheKnown_l2 (F_law24_CacheKnown_L2 nv212 rec214 k) nv212 rec214
def F_law24_CacheKnown_j2 (i424 : Int) (rec426 : Int → Option Bool) (t473 : Bool) : Option Bool :=
  if t473 = true then
  some false
  else
  rec426 (IntKind.i64.wrap (i424 + 1))
def F_law24_CacheKnown_j3 (t488 : Bool) : Option Bool :=
  some t488
def F_law24_CacheKnown_l3 (rec426 : Int → Option Bool) (i424 : Int) : Option Bool :=
  if (decide (i424 < (([(T_cache_Bounds.mk 0 0 0 0 0), (T_cache_Bounds.mk 1 1 1 1 0), (T_cache_Bounds.mk 4097 1 1 1 1), (T_cache_Bounds.mk 4096 18446744073709551615 18446744073709551615 18446744073709551615 18446744073709551615), (T_cache_Bounds.mk (-9223372036854775808) 1 1 1 1), (T_cache_Bounds.mk 1 2 18446744073709551615 9 18446744073709551615)] : List T_cache_Bounds).length : Int))) = true then
  (F_law24_act 10 (IntKind.u64.wrap (18446744073709551615 - 1))).bind fun y432 =>
  (F_law24_act 11 (IntKind.u64.wrap (18446744073709551615 - 1))).bind fun y436 =>
  (F_law24_act 12 18446744073709551615).bind fun y440 =>
  (F_law24_act 10 3).bind fun y444 =>
  (gidx ([(T_cache_Bounds.mk 0 0 0 0 0), (T_cache_Bounds.mk 1 1 1 1 0), (T_cache_Bounds.mk 4097 1 1 1 1), (T_cache_Bounds.mk 4096 18446744073709551615 18446744073709551615 18446744073709551615 18446744073709551615), (T_cache_Bounds.mk (-9223372036854775808) 1 1 1 1), (T_cache_Bounds.mk 1 2 18446744073709551615 9 18446744073709551615)] : List T_cache_Bounds) i424).bind fun xv453 =>
  (F_law24_CachePlays (IntKind.u64.wrap (18446744073709551615 - 2)) xv453 ([y432, y436, (T_law24_Act.mk 5 (T_packet_Packet.mk (T_packet_Key.mk (T_addr_Addr.mk false (List.replicate 16 0)) (T_addr_Addr.mk false (List.replicate 16 0)) 0 0 0) 0 0 false) 0 18446744073709551615), y440, y444, (T_law24_Act.mk 5 (T_packet_Packet.mk (T_packet_Key.mk (T_addr_Addr.mk false (List.replicate 16 0)) (T_addr_Addr.mk false (List.replicate 16 0)) 0 0 0) 0 0 false) 0 18446744073709551615)] : List T_law24_Act)).bind fun y454 =>
  if (!y454) = true then
  F_law24_CacheKnown_j2 i424 rec426 true
  else
  (gidx ([(T_cache_Bounds.mk 0 0 0 0 0), (T_cache_Bounds.mk 1 1 1 1 0), (T_cache_Bounds.mk 4097 1 1 1 1), (T_cache_Bounds.mk 4096 18446744073709551615 18446744073709551615 18446744073709551615 18446744073709551615), (T_cache_Bounds.mk (-9223372036854775808) 1 1 1 1), (T_cache_Bounds.mk 1 2 18446744073709551615 9 18446744073709551615)] : List T_cache_Bounds) i424).bind fun xv460 =>
  (F_law24_CacheKeeps xv460 ([y432, y436, (T_law24_Act.mk 5 (T_packet_Packet.mk (T_packet_Key.mk (T_addr_Addr.mk false (List.replicate 16 0)) (T_addr_Addr.mk false (List.replicate 16 0)) 0 0 0) 0 0 false) 0 18446744073709551615), y440, y444, (T_law24_Act.mk 5 (T_packet_Packet.mk (T_packet_Key.mk (T_addr_Addr.mk false (List.replicate 16 0)) (T_addr_Addr.mk false (List.replicate 16 0)) 0 0 0) 0 0 false) 0 18446744073709551615)] : List T_law24_Act)).bind fun y461 =>
  if (!y461) = true then
  F_law24_CacheKnown_j2 i424 rec426 true
  else
  (gidx ([(T_cache_Bounds.mk 0 0 0 0 0), (T_cache_Bounds.mk 1 1 1 1 0), (T_cache_Bounds.mk 4097 1 1 1 1), (T_cache_Bounds.mk 4096 18446744073709551615 18446744073709551615 18446744073709551615 18446744073709551615), (T_cache_Bounds.mk (-9223372036854775808) 1 1 1 1), (T_cache_Bounds.mk 1 2 18446744073709551615 9 18446744073709551615)] : List T_cache_Bounds) i424).bind fun xv467 =>
  (F_law24_CacheTicks xv467 ([y432, y436, (T_law24_Act.mk 5 (T_packet_Packet.mk (T_packet_Key.mk (T_addr_Addr.mk false (List.replicate 16 0)) (T_addr_Addr.mk false (List.replicate 16 0)) 0 0 0) 0 0 false) 0 18446744073709551615), y440, y444, (T_law24_Act.mk 5 (T_packet_Packet.mk (T_packet_Key.mk (T_addr_Addr.mk false (List.replicate 16 0)) (T_addr_Addr.mk false (List.replicate 16 0)) 0 0 0) 0 0 false) 0 18446744073709551615)] : List T_law24_Act) 9).bind fun y468 =>
  F_law24_CacheKnown_j2 i424 rec426 (!y468)
  else
  (F_law24_act 1 1).bind fun y476 =>
  (F_law24_CacheNone y476).bind fun y480 =>
  if y480 = true then
  (F_law24_works).bind fun y484 =>
  F_law24_CacheKnown_j3 y484
  else
  F_law24_CacheKnown_j3 false
def F_law24_CacheKnown_L3 : Nat → Int → Option Bool
  | 0 => fun _ => none
  | k + 1 => F_law24_CacheKnown_l3 (F_law24_CacheKnown_L3 k)
def F_law24_CacheKnown_l1 (rec214 : Int → Int → Option Bool) (kv211 : Int) (nv212 : Int) : Option Bool :=
  if (decide (nv212 < 100)) = true then
  F_law24_CacheKnown_L2 nv212 rec214 fuel0 kv211 ([]) 0 0
  else
  F_law24_CacheKnown_L3 fuel0 0
def F_law24_CacheKnown_L1 : Nat → Int → Int → Option Bool
  | 0 => fun _ _ => none
  | k + 1 => F_law24_CacheKnown_l1 (F_law24_CacheKnown_L1 k)
def F_law24_CacheKnown : Option Bool :=
  F_law24_CacheKnown_L1 fuel0 1 0
def F_math_bits_Len32_j2 (xv10 : Int) (nv11 : Int) : Option Int :=
  (gidxS (⟨#[0, 1, 2, 2, 3, 3, 3, 3, 4, 4, 4, 4, 4, 4, 4, 4, 5, 5, 5, 5, 5, 5, 5, 5, 5, 5, 5, 5, 5, 5, 5, 5, 6, 6, 6, 6, 6, 6, 6, 6, 6, 6, 6, 6, 6, 6, 6, 6, 6, 6, 6, 6, 6, 6, 6, 6, 6, 6, 6, 6, 6, 6, 6, 6, 7, 7, 7, 7, 7, 7, 7, 7, 7, 7, 7, 7, 7, 7, 7, 7, 7, 7, 7, 7, 7, 7, 7, 7, 7, 7, 7, 7, 7, 7, 7, 7, 7, 7, 7, 7, 7, 7, 7, 7, 7, 7, 7, 7, 7, 7, 7, 7, 7, 7, 7, 7, 7, 7, 7, 7, 7, 7, 7, 7, 7, 7, 7, 7, 8, 8, 8, 8, 8, 8, 8, 8, 8, 8, 8, 8, 8, 8, 8, 8, 8, 8, 8, 8, 8, 8, 8, 8, 8, 8, 8, 8, 8, 8, 8, 8, 8, 8, 8, 8, 8, 8, 8, 8, 8, 8, 8, 8, 8, 8, 8, 8, 8, 8, 8, 8, 8, 8, 8, 8, 8, 8, 8, 8, 8, 8, 8, 8, 8, 8, 8, 8, 8, 8, 8, 8, 8, 8, 8, 8, 8, 8, 8, 8, 8, 8, 8, 8, 8, 8, 8, 8, 8, 8, 8, 8, 8, 8, 8, 8, 8, 8, 8, 8, 8, 8, 8, 8, 8, 8, 8, 8, 8, 8, 8, 8, 8, 8, 8, 8, 8, 8, 8, 8, 8, 8, 8, 8, 8, 8, 8, 8]⟩ : ByteArray) (IntKind.u8.wrap xv10)).bind fun xv14 =>
  some (IntKind.i64.wrap (nv11 + (IntKind.i64.wrap xv14)))
def F_math_bits_Len32_j1 (xv5 : Int) (nv6 : Int) : Option Int :=
  if (decide (256 ≤ xv5)) = true then
  F_math_bits_Len32_j2 (Ox.shr .u32 xv5 8) (IntKind.i64.wrap (nv6 + 8))
  else
  F_math_bits_Len32_j2 xv5 nv6
def F_math_bits_Len32 (xv1 : Int) : Option Int :=
  if (decide (65536 ≤ xv1)) = true then
  F_math_bits_Len32_j1 (Ox.shr .u32 xv1 16) 16
  else
  F_math_bits_Len32_j1 xv1 0
def F_slices_nextPowerOfTwo (length1 : Int) : Option Int :=
  (F_math_bits_Len (IntKind.u64.wrap length1)).bind fun y4 =>
  if (decide (¬ y4 < 0)) = true then
  some (Ox.shl .u64 1 y4)
  else none
def F_slices_xorshift_Next (rv1 : Int) : Option (Int × Int) :=
  some ((bits .xor .u64 (bits .xor .u64 (bits .xor .u64 rv1 (Ox.shl .u64 rv1 13)) (Ox.shr .u64 (bits .xor .u64 rv1 (Ox.shl .u64 rv1 13)) 7)) (Ox.shl .u64 (bits .xor .u64 (bits .xor .u64 rv1 (Ox.shl .u64 rv1 13)) (Ox.shr .u64 (bits .xor .u64 rv1 (Ox.shl .u64 rv1 13)) 7)) 17)), (bits .xor .u64 (bits .xor .u64 (bits .xor .u64 rv1 (Ox.shl .u64 rv1 13)) (Ox.shr .u64 (bits .xor .u64 rv1 (Ox.shl .u64 rv1 13)) 7)) (Ox.shl .u64 (bits .xor .u64 (bits .xor .u64 rv1 (Ox.shl .u64 rv1 13)) (Ox.shr .u64 (bits .xor .u64 rv1 (Ox.shl .u64 rv1 13)) 7)) 17)))
end Go.Proofs.YtkpnocgfhipidaaGreat
