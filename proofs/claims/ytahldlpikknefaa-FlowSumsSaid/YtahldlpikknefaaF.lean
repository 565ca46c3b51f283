/- Plain functions, printed by a program of this claim: what each Go function computes, where it returns. -/
import Derived.Test.YtahldlpikknefaaOxQ
set_option linter.unusedVariables false
namespace Go.Proofs.Ytahldlpikknefaa
open Go Go.Ox
structure T_addr_Addr where
  f_Six : Bool
  f_B : List Int
def e_addr_Addr (x : T_addr_Addr) : List Value := [.bool x.f_Six, .int .u8 (List.getD x.f_B 0 0), .int .u8 (List.getD x.f_B 1 0), .int .u8 (List.getD x.f_B 2 0), .int .u8 (List.getD x.f_B 3 0), .int .u8 (List.getD x.f_B 4 0), .int .u8 (List.getD x.f_B 5 0), .int .u8 (List.getD x.f_B 6 0), .int .u8 (List.getD x.f_B 7 0), .int .u8 (List.getD x.f_B 8 0), .int .u8 (List.getD x.f_B 9 0), .int .u8 (List.getD x.f_B 10 0), .int .u8 (List.getD x.f_B 11 0), .int .u8 (List.getD x.f_B 12 0), .int .u8 (List.getD x.f_B 13 0), .int .u8 (List.getD x.f_B 14 0), .int .u8 (List.getD x.f_B 15 0)]
structure T_packet_Key where
  f_Src : T_addr_Addr
  f_Dst : T_addr_Addr
  f_Proto : Int
  f_SrcPort : Int
  f_DstPort : Int
def e_packet_Key (x : T_packet_Key) : List Value := [.bool x.f_Src.f_Six, .int .u8 (List.getD x.f_Src.f_B 0 0), .int .u8 (List.getD x.f_Src.f_B 1 0), .int .u8 (List.getD x.f_Src.f_B 2 0), .int .u8 (List.getD x.f_Src.f_B 3 0), .int .u8 (List.getD x.f_Src.f_B 4 0), .int .u8 (List.getD x.f_Src.f_B 5 0), .int .u8 (List.getD x.f_Src.f_B 6 0), .int .u8 (List.getD x.f_Src.f_B 7 0), .int .u8 (List.getD x.f_Src.f_B 8 0), .int .u8 (List.getD x.f_Src.f_B 9 0), .int .u8 (List.getD x.f_Src.f_B 10 0), .int .u8 (List.getD x.f_Src.f_B 11 0), .int .u8 (List.getD x.f_Src.f_B 12 0), .int .u8 (List.getD x.f_Src.f_B 13 0), .int .u8 (List.getD x.f_Src.f_B 14 0), .int .u8 (List.getD x.f_Src.f_B 15 0), .bool x.f_Dst.f_Six, .int .u8 (List.getD x.f_Dst.f_B 0 0), .int .u8 (List.getD x.f_Dst.f_B 1 0), .int .u8 (List.getD x.f_Dst.f_B 2 0), .int .u8 (List.getD x.f_Dst.f_B 3 0), .int .u8 (List.getD x.f_Dst.f_B 4 0), .int .u8 (List.getD x.f_Dst.f_B 5 0), .int .u8 (List.getD x.f_Dst.f_B 6 0), .int .u8 (List.getD x.f_Dst.f_B 7 0), .int .u8 (List.getD x.f_Dst.f_B 8 0), .int .u8 (List.getD x.f_Dst.f_B 9 0), .int .u8 (List.getD x.f_Dst.f_B 10 0), .int .u8 (List.getD x.f_Dst.f_B 11 0), .int .u8 (List.getD x.f_Dst.f_B 12 0), .int .u8 (List.getD x.f_Dst.f_B 13 0), .int .u8 (List.getD x.f_Dst.f_B 14 0), .int .u8 (List.getD x.f_Dst.f_B 15 0), .int .u8 x.f_Proto, .int .u16 x.f_SrcPort, .int .u16 x.f_DstPort]
structure T_flow_Total where
  f_Packets : Int
  f_Bytes : Int
def e_flow_Total (x : T_flow_Total) : List Value := [.int .u64 x.f_Packets, .int .u64 x.f_Bytes]
structure T_field_Spec where
  f_ID : Int
  f_PEN : Int
  f_Len : Int
def e_field_Spec (x : T_field_Spec) : List Value := [.int .u16 x.f_ID, .int .u32 x.f_PEN, .int .u16 x.f_Len]
structure T_flow_Record where
  f_Key : T_packet_Key
  f_Packets : Int
  f_Bytes : Int
  f_First : Int
  f_Last : Int
  f_Flags : Int
  f_Reason : Int
  f_Class : Int
def e_flow_Record (x : T_flow_Record) : List Value := [.bool x.f_Key.f_Src.f_Six, .int .u8 (List.getD x.f_Key.f_Src.f_B 0 0), .int .u8 (List.getD x.f_Key.f_Src.f_B 1 0), .int .u8 (List.getD x.f_Key.f_Src.f_B 2 0), .int .u8 (List.getD x.f_Key.f_Src.f_B 3 0), .int .u8 (List.getD x.f_Key.f_Src.f_B 4 0), .int .u8 (List.getD x.f_Key.f_Src.f_B 5 0), .int .u8 (List.getD x.f_Key.f_Src.f_B 6 0), .int .u8 (List.getD x.f_Key.f_Src.f_B 7 0), .int .u8 (List.getD x.f_Key.f_Src.f_B 8 0), .int .u8 (List.getD x.f_Key.f_Src.f_B 9 0), .int .u8 (List.getD x.f_Key.f_Src.f_B 10 0), .int .u8 (List.getD x.f_Key.f_Src.f_B 11 0), .int .u8 (List.getD x.f_Key.f_Src.f_B 12 0), .int .u8 (List.getD x.f_Key.f_Src.f_B 13 0), .int .u8 (List.getD x.f_Key.f_Src.f_B 14 0), .int .u8 (List.getD x.f_Key.f_Src.f_B 15 0), .bool x.f_Key.f_Dst.f_Six, .int .u8 (List.getD x.f_Key.f_Dst.f_B 0 0), .int .u8 (List.getD x.f_Key.f_Dst.f_B 1 0), .int .u8 (List.getD x.f_Key.f_Dst.f_B 2 0), .int .u8 (List.getD x.f_Key.f_Dst.f_B 3 0), .int .u8 (List.getD x.f_Key.f_Dst.f_B 4 0), .int .u8 (List.getD x.f_Key.f_Dst.f_B 5 0), .int .u8 (List.getD x.f_Key.f_Dst.f_B 6 0), .int .u8 (List.getD x.f_Key.f_Dst.f_B 7 0), .int .u8 (List.getD x.f_Key.f_Dst.f_B 8 0), .int .u8 (List.getD x.f_Key.f_Dst.f_B 9 0), .int .u8 (List.getD x.f_Key.f_Dst.f_B 10 0), .int .u8 (List.getD x.f_Key.f_Dst.f_B 11 0), .int .u8 (List.getD x.f_Key.f_Dst.f_B 12 0), .int .u8 (List.getD x.f_Key.f_Dst.f_B 13 0), .int .u8 (List.getD x.f_Key.f_Dst.f_B 14 0), .int .u8 (List.getD x.f_Key.f_Dst.f_B 15 0), .int .u8 x.f_Key.f_Proto, .int .u16 x.f_Key.f_SrcPort, .int .u16 x.f_Key.f_DstPort, .int .u64 x.f_Packets, .int .u64 x.f_Bytes, .int .u64 x.f_First, .int .u64 x.f_Last, .int .u8 x.f_Flags, .int .u8 x.f_Reason, .int .u8 x.f_Class]
structure T_packet_Packet where
  f_Key : T_packet_Key
  f_Length : Int
  f_Flags : Int
  f_Fragment : Bool
def e_packet_Packet (x : T_packet_Packet) : List Value := [.bool x.f_Key.f_Src.f_Six, .int .u8 (List.getD x.f_Key.f_Src.f_B 0 0), .int .u8 (List.getD x.f_Key.f_Src.f_B 1 0), .int .u8 (List.getD x.f_Key.f_Src.f_B 2 0), .int .u8 (List.getD x.f_Key.f_Src.f_B 3 0), .int .u8 (List.getD x.f_Key.f_Src.f_B 4 0), .int .u8 (List.getD x.f_Key.f_Src.f_B 5 0), .int .u8 (List.getD x.f_Key.f_Src.f_B 6 0), .int .u8 (List.getD x.f_Key.f_Src.f_B 7 0), .int .u8 (List.getD x.f_Key.f_Src.f_B 8 0), .int .u8 (List.getD x.f_Key.f_Src.f_B 9 0), .int .u8 (List.getD x.f_Key.f_Src.f_B 10 0), .int .u8 (List.getD x.f_Key.f_Src.f_B 11 0), .int .u8 (List.getD x.f_Key.f_Src.f_B 12 0), .int .u8 (List.getD x.f_Key.f_Src.f_B 13 0), .int .u8 (List.getD x.f_Key.f_Src.f_B 14 0), .int .u8 (List.getD x.f_Key.f_Src.f_B 15 0), .bool x.f_Key.f_Dst.f_Six, .int .u8 (List.getD x.f_Key.f_Dst.f_B 0 0), .int .u8 (List.getD x.f_Key.f_Dst.f_B 1 0), .int .u8 (List.getD x.f_Key.f_Dst.f_B 2 0), .int .u8 (List.getD x.f_Key.f_Dst.f_B 3 0), .int .u8 (List.getD x.f_Key.f_Dst.f_B 4 0), .int .u8 (List.getD x.f_Key.f_Dst.f_B 5 0), .int .u8 (List.getD x.f_Key.f_Dst.f_B 6 0), .int .u8 (List.getD x.f_Key.f_Dst.f_B 7 0), .int .u8 (List.getD x.f_Key.f_Dst.f_B 8 0), .int .u8 (List.getD x.f_Key.f_Dst.f_B 9 0), .int .u8 (List.getD x.f_Key.f_Dst.f_B 10 0), .int .u8 (List.getD x.f_Key.f_Dst.f_B 11 0), .int .u8 (List.getD x.f_Key.f_Dst.f_B 12 0), .int .u8 (List.getD x.f_Key.f_Dst.f_B 13 0), .int .u8 (List.getD x.f_Key.f_Dst.f_B 14 0), .int .u8 (List.getD x.f_Key.f_Dst.f_B 15 0), .int .u8 x.f_Key.f_Proto, .int .u16 x.f_Key.f_SrcPort, .int .u16 x.f_Key.f_DstPort, .int .i64 x.f_Length, .int .u8 x.f_Flags, .bool x.f_Fragment]
def q_addr_Addr (x y : T_addr_Addr) : Bool := ((x.f_Six == y.f_Six) && ((arrEq 16 x.f_B y.f_B) && true))
def q_packet_Key (x y : T_packet_Key) : Bool := ((q_addr_Addr x.f_Src y.f_Src) && ((q_addr_Addr x.f_Dst y.f_Dst) && ((x.f_Proto == y.f_Proto) && ((x.f_SrcPort == y.f_SrcPort) && ((x.f_DstPort == y.f_DstPort) && true)))))
def q_flow_Record (x y : T_flow_Record) : Bool := ((q_packet_Key x.f_Key y.f_Key) && ((x.f_Packets == y.f_Packets) && ((x.f_Bytes == y.f_Bytes) && ((x.f_First == y.f_First) && ((x.f_Last == y.f_Last) && ((x.f_Flags == y.f_Flags) && ((x.f_Reason == y.f_Reason) && ((x.f_Class == y.f_Class) && true))))))))
def q_flow_Total (x y : T_flow_Total) : Bool := ((x.f_Packets == y.f_Packets) && ((x.f_Bytes == y.f_Bytes) && true))
def F_flow_Specs_j1 (lv11 : List T_field_Spec) : Option ((List T_field_Spec)) :=
  if (decide (lv11.length + ([(T_field_Spec.mk 4 0 1), (T_field_Spec.mk 7 0 2), (T_field_Spec.mk 11 0 2), (T_field_Spec.mk 1 0 8), (T_field_Spec.mk 2 0 8), (T_field_Spec.mk 152 0 8), (T_field_Spec.mk 153 0 8), (T_field_Spec.mk 6 0 1), (T_field_Spec.mk 136 0 1), (T_field_Spec.mk 1 32473 1)]).length ≤ lim)) = true then
  some (lv11 ++ [(T_field_Spec.mk 4 0 1), (T_field_Spec.mk 7 0 2), (T_field_Spec.mk 11 0 2), (T_field_Spec.mk 1 0 8), (T_field_Spec.mk 2 0 8), (T_field_Spec.mk 152 0 8), (T_field_Spec.mk 153 0 8), (T_field_Spec.mk 6 0 1), (T_field_Spec.mk 136 0 1), (T_field_Spec.mk 1 32473 1)])
  else none
def F_flow_Specs (long1 : Bool) : Option ((List T_field_Spec)) :=
  if long1 = true then
  F_flow_Specs_j1 ([(T_field_Spec.mk 27 0 16), (T_field_Spec.mk 28 0 16)])
  else
  F_flow_Specs_j1 ([(T_field_Spec.mk 8 0 4), (T_field_Spec.mk 12 0 4)])
def F_flow_Start (kv1 : T_packet_Key) (class2 : Int) (tick3 : Int) : Option T_flow_Record :=
  some (T_flow_Record.mk kv1 0 0 tick3 tick3 0 0 class2)
def F_flow_Record_Total (rv1 : T_flow_Record) : Option T_flow_Total :=
  some (T_flow_Total.mk rv1.f_Packets rv1.f_Bytes)
def F_flow_plus (av1 : Int) (b2 : Int) : Option Int :=
  if (decide (0 < (hi64 av1 b2))) = true then
  some 18446744073709551615
  else
  some (lo64 av1 b2)
def F_flow_Total_Plus (t1 : T_flow_Total) (u2 : T_flow_Total) : Option T_flow_Total :=
  (F_flow_plus t1.f_Packets u2.f_Packets).bind fun y12 =>
  (F_flow_plus t1.f_Bytes u2.f_Bytes).bind fun y16 =>
  some (T_flow_Total.mk y12 y16)
def F_flow_Record_With (rv1 : T_flow_Record) (p2 : T_packet_Packet) (tick3 : Int) : Option T_flow_Record :=
  (F_flow_Record_Total rv1).bind fun y13 =>
  (F_flow_Total_Plus y13 (T_flow_Total.mk 1 (IntKind.u64.wrap (gmax 0 p2.f_Length)))).bind fun y17 =>
  some (T_flow_Record.mk rv1.f_Key y17.f_Packets y17.f_Bytes rv1.f_First (gmax rv1.f_Last tick3) (bits .or .u8 rv1.f_Flags p2.f_Flags) rv1.f_Reason rv1.f_Class)
def F_law22_works_j2 (t74 : Bool) : Option Bool :=
  some t74
def F_law22_works_j1 (y1 : (List T_field_Spec)) (y8 : (List T_field_Spec)) (nv40 : Int) (m41 : Int) (i44 : Int) (rec46 : Int → Int → Int → Option Bool) (t50 : Bool) : Option Bool :=
  if t50 = true then
  (gidx y1 i44).bind fun xv54 =>
  (gidx y8 i44).bind fun xv57 =>
  rec46 (IntKind.i64.wrap (nv40 + (IntKind.i64.wrap xv54.f_Len))) (IntKind.i64.wrap (m41 + (IntKind.i64.wrap xv57.f_Len))) (IntKind.i64.wrap (i44 + 1))
  else
  (F_flow_Start (T_packet_Key.mk (T_addr_Addr.mk false (List.replicate 16 0)) (T_addr_Addr.mk false (List.replicate 16 0)) 0 0 0) 2 5).bind fun y58 =>
  (F_flow_Record_With y58 (T_packet_Packet.mk (T_packet_Key.mk (T_addr_Addr.mk false (List.replicate 16 0)) (T_addr_Addr.mk false (List.replicate 16 0)) 0 0 0) 40 2 false) 9).bind fun y62 =>
  if (nv40 == 48) = true then
  if (m41 == 72) = true then
  if (q_flow_Record y62 (T_flow_Record.mk (T_packet_Key.mk (T_addr_Addr.mk false (List.replicate 16 0)) (T_addr_Addr.mk false (List.replicate 16 0)) 0 0 0) 1 40 5 9 2 0 2)) = true then
  (F_flow_Total_Plus (T_flow_Total.mk 1 18446744073709551615) (T_flow_Total.mk 2 9)).bind fun y76 =>
  F_law22_works_j2 (q_flow_Total y76 (T_flow_Total.mk 3 18446744073709551615))
  else
  F_law22_works_j2 false
  else
  F_law22_works_j2 false
  else
  F_law22_works_j2 false
def F_law22_works_l1 (rec46 : Int → Int → Int → Option Bool) (y1 : (List T_field_Spec)) (y8 : (List T_field_Spec)) (nv40 : Int) (m41 : Int) (i44 : Int) : Option Bool :=
  if (decide (i44 < (y1.length : Int))) = true then
  F_law22_works_j1 y1 y8 nv40 m41 i44 rec46 (decide (i44 < (y8.length : Int)))
  else
  F_law22_works_j1 y1 y8 nv40 m41 i44 rec46 false
def F_law22_works_L1 (y1 : (List T_field_Spec)) (y8 : (List T_field_Spec)) : Nat → Int → Int → Int → Option Bool
  | 0 => fun _ _ _ => none
  | k + 1 => F_law22_works_l1 (F_law22_works_L1 y1 y8 k) y1 y8
def F_law22_works : Option Bool :=
  (F_flow_Specs false).bind fun y1 =>
  (F_flow_Specs true).bind fun y8 =>
  F_law22_works_L1 y1 y8 fuel0 0 0 0
def F_law22_FlowSums_j3 (sum168 : Int) (last169 : Int) (i170 : Int) (rec172 : Bool → (List Int) → Bool → (List Int) → Int → Int → Int → Int → Int → Int → Int → Int → Int → Int → Int → Int → Int → Option Bool) (y188 : T_flow_Record) (xv195 : Int) (xv198 : Int) (t209 : Bool) : Option Bool :=
  if t209 = true then
  some false
  else
  rec172 y188.f_Key.f_Src.f_Six y188.f_Key.f_Src.f_B y188.f_Key.f_Dst.f_Six y188.f_Key.f_Dst.f_B y188.f_Key.f_Proto y188.f_Key.f_SrcPort y188.f_Key.f_DstPort y188.f_Packets y188.f_Bytes y188.f_First y188.f_Last y188.f_Flags y188.f_Reason y188.f_Class (IntKind.u64.wrap (sum168 + (IntKind.u64.wrap xv195))) (gmax last169 xv198) (IntKind.i64.wrap (i170 + 1))
def F_law22_FlowSums_j4 (t236 : Bool) : Option Bool :=
  some t236
def F_law22_FlowSums_j2 (kv1 : T_packet_Key) (lengths2 : List Int) (ticks6 : List Int) (t10 : T_flow_Total) (u11 : T_flow_Total) (v12 : T_flow_Total) (rv154 : Bool) (rv155 : List Int) (rv156 : Bool) (rv157 : List Int) (rv158 : Int) (rv159 : Int) (rv160 : Int) (rv161 : Int) (rv162 : Int) (rv163 : Int) (rv164 : Int) (rv165 : Int) (rv166 : Int) (rv167 : Int) (sum168 : Int) (last169 : Int) (i170 : Int) (rec172 : Bool → (List Int) → Bool → (List Int) → Int → Int → Int → Int → Int → Int → Int → Int → Int → Int → Int → Int → Int → Option Bool) (t179 : Bool) : Option Bool :=
  if t179 = true then
  (gidx lengths2 i170).bind fun xv183 =>
  if (decide (¬ (Int.tmod i170 8) < 0)) = true then
  (gidx ticks6 i170).bind fun xv187 =>
  (F_flow_Record_With (T_flow_Record.mk (T_packet_Key.mk (T_addr_Addr.mk rv154 rv155) (T_addr_Addr.mk rv156 rv157) rv158 rv159 rv160) rv161 rv162 rv163 rv164 rv165 rv166 rv167) (T_packet_Packet.mk (T_packet_Key.mk (T_addr_Addr.mk false (List.replicate 16 0)) (T_addr_Addr.mk false (List.replicate 16 0)) 0 0 0) (IntKind.i64.wrap xv183) (Ox.shl .u8 1 (Int.tmod i170 8)) false) xv187).bind fun y188 =>
  (gidx lengths2 i170).bind fun xv195 =>
  (gidx ticks6 i170).bind fun xv198 =>
  (F_flow_Record_Total y188).bind fun y211 =>
  if (!(q_flow_Total y211 (T_flow_Total.mk (IntKind.u64.wrap (IntKind.i64.wrap (i170 + 1))) (IntKind.u64.wrap (sum168 + (IntKind.u64.wrap xv195)))))) = true then
  F_law22_FlowSums_j3 sum168 last169 i170 rec172 y188 xv195 xv198 true
  else
  if (y188.f_Last != (gmax last169 xv198)) = true then
  F_law22_FlowSums_j3 sum168 last169 i170 rec172 y188 xv195 xv198 true
  else
  if (y188.f_First != 100) = true then
  F_law22_FlowSums_j3 sum168 last169 i170 rec172 y188 xv195 xv198 true
  else
  if (decide (¬ (Int.tmod i170 8) < 0)) = true then
  F_law22_FlowSums_j3 sum168 last169 i170 rec172 y188 xv195 xv198 ((bits .and .u8 y188.f_Flags (Ox.shl .u8 1 (Int.tmod i170 8))) == 0)
  else none
  else none
  else
  if (q_packet_Key (T_packet_Key.mk (T_addr_Addr.mk rv154 rv155) (T_addr_Addr.mk rv156 rv157) rv158 rv159 rv160) kv1) = true then
  if (rv167 == 3) = true then
  (F_flow_Total_Plus t10 u11).bind fun y238 =>
  (F_flow_Total_Plus y238 v12).bind fun y242 =>
  (F_flow_Total_Plus u11 v12).bind fun y246 =>
  (F_flow_Total_Plus t10 y246).bind fun y250 =>
  if (q_flow_Total y242 y250) = true then
  (F_law22_works).bind fun y254 =>
  F_law22_FlowSums_j4 y254
  else
  F_law22_FlowSums_j4 false
  else
  F_law22_FlowSums_j4 false
  else
  F_law22_FlowSums_j4 false
def F_law22_FlowSums_l1 (rec172 : Bool → (List Int) → Bool → (List Int) → Int → Int → Int → Int → Int → Int → Int → Int → Int → Int → Int → Int → Int → Option Bool) (kv1 : T_packet_Key) (lengths2 : List Int) (ticks6 : List Int) (t10 : T_flow_Total) (u11 : T_flow_Total) (v12 : T_flow_Total) (rv154 : Bool) (rv155 : List Int) (rv156 : Bool) (rv157 : List Int) (rv158 : Int) (rv159 : Int) (rv160 : Int) (rv161 : Int) (rv162 : Int) (rv163 : Int) (rv164 : Int) (rv165 : Int) (rv166 : Int) (rv167 : Int) (sum168 : Int) (last169 : Int) (i170 : Int) : Option Bool :=
  if (decide (i170 < (lengths2.length : Int))) = true then
  F_law22_FlowSums_j2 kv1 lengths2 ticks6 t10 u11 v12 rv154 rv155 rv156 rv157 rv158 rv159 rv160 rv161 rv162 rv163 rv164 rv165 rv166 rv167 sum168 last169 i170 rec172 (decide (i170 < (ticks6.length : Int)))
  else
  F_law22_FlowSums_j2 kv1 lengths2 ticks6 t10 u11 v12 rv154 rv155 rv156 rv157 rv158 rv159 rv160 rv161 rv162 rv163 rv164 rv165 rv166 rv167 sum168 last169 i170 rec172 false
def F_law22_FlowSums_L1 (kv1 : T_packet_Key) (lengths2 : List Int) (ticks6 : List Int) (t10 : T_flow_Total) (u11 : T_flow_Total) (v12 : T_flow_Total) : Nat → Bool → (List Int) → Bool → (List Int) → Int → Int → Int → Int → Int → Int → Int → Int → Int → Int → Int → Int → Int → Option Bool
  | 0 => fun _ _ _ _ _ _ _ _ _ _ _ _ _ _ _ _ _ => none
  | k + 1 => F_law22_FlowSums_l1 (F_law22_FlowSums_L1 kv1 lengths2 ticks6 t10 u11 v12 k) kv1 lengths2 ticks6 t10 u11 v12
def F_law22_FlowSums_j1 (kv1 : T_packet_Key) (lengths2 : List Int) (ticks6 : List Int) (t10 : T_flow_Total) (u11 : T_flow_Total) (v12 : T_flow_Total) (t29 : Bool) : Option Bool :=
  if t29 = true then
  (F_law22_works).bind fun y31 =>
  some y31
  else
  (F_flow_Start kv1 3 100).bind fun y35 =>
  F_law22_FlowSums_L1 kv1 lengths2 ticks6 t10 u11 v12 fuel0 y35.f_Key.f_Src.f_Six y35.f_Key.f_Src.f_B y35.f_Key.f_Dst.f_Six y35.f_Key.f_Dst.f_B y35.f_Key.f_Proto y35.f_Key.f_SrcPort y35.f_Key.f_DstPort y35.f_Packets y35.f_Bytes y35.f_First y35.f_Last y35.f_Flags y35.f_Reason y35.f_Class 0 100 0
def F_law22_FlowSums (kv1 : T_packet_Key) (lengths2 : List Int) (ticks6 : List Int) (t10 : T_flow_Total) (u11 : T_flow_Total) (v12 : T_flow_Total) : Option Bool :=
  if (decide (50 < (lengths2.length : Int))) = true then
  F_law22_FlowSums_j1 kv1 lengths2 ticks6 t10 u11 v12 true
  else
  F_law22_FlowSums_j1 kv1 lengths2 ticks6 t10 u11 v12 (decide (50 < (ticks6.length : Int)))
end Go.Proofs.Ytahldlpikknefaa
