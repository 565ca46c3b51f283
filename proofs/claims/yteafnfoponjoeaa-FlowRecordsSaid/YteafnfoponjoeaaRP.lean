/- The plain law of the chapter on flow records: FlowRecords. No program's code is named here. -/
import Derived.Test.YteafnfoponjoeaaRF
import Derived.Test.YteafnfoponjoeaaOxP
set_option linter.unusedVariables false
namespace Go.Proofs.Yteafnfoponjoeaa
open Go Go.Ox Go.RowKit

theorem works_eq : F_law22_works = some true := by decide +kernel
theorem arrEq_refl (n : Nat) (x : List Int) : arrEq n x x = true := by simp [arrEq]
theorem q_addr_refl (x : T_addr_Addr) : q_addr_Addr x x = true := by simp [q_addr_Addr, arrEq_refl]
theorem q_key8_refl (x : T_ref08_Key) : q_ref08_Key x x = true := by simp [q_ref08_Key, q_addr_refl]
theorem q_rec_refl (x : T_ref22_Record) : q_ref22_Record x x = true := by simp [q_ref22_Record, q_key8_refl]
theorem q_total_refl (x : T_flow_Total) : q_flow_Total x x = true := by simp [q_flow_Total]
def sat (a b : Int) : Int := if 18446744073709551616 ≤ a + b then 18446744073709551615 else a + b
def U (a : Int) : Prop := 0 ≤ a ∧ a < 18446744073709551616
theorem sat_comm (a b : Int) : sat a b = sat b a := by unfold sat; rw [Int.add_comm]
theorem plus_eq {a b : Int} (ha : U a) (hb : U b) : F_flow_plus a b = some (sat a b) := by
  unfold F_flow_plus hi64 lo64 sat U at *
  obtain ⟨x, rfl⟩ := Int.eq_ofNat_of_zero_le ha.1
  obtain ⟨y, rfl⟩ := Int.eq_ofNat_of_zero_le hb.1
  simp only [Int.toNat_natCast]
  by_cases h : 18446744073709551616 ≤ x + y
  · rw [if_pos (by simp; omega), if_pos (by omega)]
  · rw [if_neg (by simp; omega), if_neg (by omega)]
    congr 1; omega
theorem rplus_eq {a b : Int} (ha : U a) (hb : U b) : F_ref10_Plus a b = some (sat a b) := by
  unfold F_ref10_Plus F_ref10_most sat U at *
  rw [Option.bind_some, wu64i (by omega) (by omega)]
  by_cases h : 18446744073709551616 ≤ a + b
  · rw [if_pos (by simp; omega), if_pos (by omega)]; rfl
  · rw [if_neg (by simp; omega), if_neg (by omega), wu64i (by omega) (by omega)]
def UT (t : T_flow_Total) : Prop := U t.f_Packets ∧ U t.f_Bytes
def satT (t u : T_flow_Total) : T_flow_Total := ⟨sat t.f_Packets u.f_Packets, sat t.f_Bytes u.f_Bytes⟩
theorem Plus_eq {t u : T_flow_Total} (h : UT t) (k : UT u) : F_flow_Total_Plus t u = some (satT t u) := by
  unfold F_flow_Total_Plus
  rw [plus_eq h.1 k.1, Option.bind_some, plus_eq h.2 k.2, Option.bind_some]
  rfl
theorem rPlus_eq {t u : T_flow_Total} (h : UT t) (k : UT u) : F_ref22_Plus t u = some (satT t u) := by
  unfold F_ref22_Plus
  rw [rplus_eq h.1 k.1, Option.bind_some, rplus_eq h.2 k.2, Option.bind_some]
  rfl
theorem satT_comm (t u : T_flow_Total) : satT t u = satT u t := by unfold satT; rw [sat_comm, sat_comm t.f_Bytes]

theorem arrEq_iff {n : Nat} {x y : List Int} : arrEq n x y = true ↔ ∀ i, i < n → x.getD i 0 = y.getD i 0 := by
  unfold arrEq
  rw [List.all_eq_true]
  constructor
  · intro h i hi
    exact eq_of_beq (h i (List.mem_range.2 hi))
  · intro h i hi
    exact beq_iff_eq.2 (h i (List.mem_range.1 hi))
theorem range_get {f : Nat → Int} {n i : Nat} (hi : i < n) : ((List.range n).map f).getD i 0 = f i := by
  simp [List.getD, hi]
theorem cpA_get {n m i : Nat} {xs ys : List Int} (hi : i < n) : (cpA n m xs ys).getD i 0 = if i < m then ys.getD i 0 else xs.getD i 0 := range_get hi
theorem arrL_get {n i : Nat} {xs : List Int} (hi : i < n) : (arrL n xs).getD i 0 = xs.getD i 0 := range_get hi
theorem rep_get {n i : Nat} : (List.replicate n (0 : Int)).getD i 0 = 0 := by
  by_cases h : i < n <;> simp [List.getD, h]
/-- An address whose bytes behind its size are 0. -/
def Rt (a : T_addr_Addr) : Prop := a.f_Six = true ∨ ∀ i, 4 ≤ i → i < 16 → a.f_B.getD i 0 = 0
open Classical in
theorem addr_right (a : T_addr_Addr) : F_addr_Addr_Right a = some (decide (Rt a)) := by
  unfold F_addr_Addr_Right F_addr_Addr_size
  have fin : ∀ s : Nat, s ≤ 16 → (arrEq 16 a.f_B (cpA 16 (Nat.min (arrL 16 a.f_B).length s) (List.replicate 16 0) (arrL 16 a.f_B)) = true ↔ ∀ i, s ≤ i → i < 16 → a.f_B.getD i 0 = 0) := fun s hs => by
    rw [arrEq_iff, arrL_len, show Nat.min 16 s = s from Nat.min_eq_right hs]
    constructor
    · intro h i h1 h2
      have := h i h2
      rw [cpA_get h2, if_neg (by omega), rep_get] at this
      exact this
    · intro h i h2
      rw [cpA_get h2]
      by_cases h1 : i < s
      · rw [if_pos h1, arrL_get h2]
      · rw [if_neg h1, rep_get]; exact h i (by omega) h2
  by_cases h : a.f_Six = true
  · rw [if_pos h, Option.bind_some, gcut_in (by omega) (by omega) (by rw [arrL_len]; omega), Option.bind_some]
    have hl : (List.take ((16 : Int).toNat - (0 : Int).toNat) (List.drop (0 : Int).toNat (arrL 16 (List.replicate 16 0)))).length = 16 := by simp [arrL_len]
    rw [hl]
    congr 1
    rw [Bool.eq_iff_iff, fin 16 (by omega), decide_eq_true_iff]
    exact ⟨fun _ => .inl h, fun _ i h1 h2 => by omega⟩
  · rw [if_neg h, Option.bind_some, gcut_in (by omega) (by omega) (by rw [arrL_len]; omega), Option.bind_some]
    have hl : (List.take ((4 : Int).toNat - (0 : Int).toNat) (List.drop (0 : Int).toNat (arrL 16 (List.replicate 16 0)))).length = 4 := by simp [arrL_len]
    rw [hl]
    congr 1
    rw [Bool.eq_iff_iff, fin 4 (by omega), decide_eq_true_iff]
    exact ⟨.inr, fun k => k.resolve_left h⟩
open Classical in
theorem ref_L (a : T_addr_Addr) (k : Nat) : ∀ j : Nat, j ≤ 16 → 16 < k + j → F_ref04_Right_L1 a k j = some (decide (a.f_Six = true ∨ ∀ i, j ≤ i → i < 16 → a.f_B.getD i 0 = 0)) := by
  induction k with
  | zero => intro j h1 h2; omega
  | succ k ih =>
    intro j h1 h2
    have e0 : F_ref04_Right_L1 a (k + 1) j = F_ref04_Right_l1 (F_ref04_Right_L1 a k) a j := rfl
    rw [e0]
    unfold F_ref04_Right_l1
    by_cases h : j < 16
    · have e1 : IntKind.i64.wrap ((j : Int) + 1) = ((j + 1 : Nat) : Int) := by rw [wi64 (by omega) (by omega)]; omega
      rw [if_pos (by simp; omega)]
      by_cases h6 : a.f_Six = true
      · rw [if_neg (by simp [h6])]
        unfold F_ref04_Right_j1
        rw [if_neg (by decide), e1, ih (j + 1) (by omega) (by omega)]
        congr 1
        simp [h6]
      · rw [if_pos (by simp [h6])]
        have hg : gidxA 16 a.f_B (j : Int) = some (a.f_B.getD j 0) := by unfold gidxA; rw [if_pos ⟨by omega, by omega⟩]; simp
        rw [hg, Option.bind_some]
        unfold F_ref04_Right_j1
        by_cases hz : a.f_B.getD j 0 = 0
        · rw [if_neg (by simp only [hz]; decide), e1, ih (j + 1) (by omega) (by omega)]
          congr 1
          rw [decide_eq_decide]
          constructor
          · intro hh
            refine .inr fun i h3 h4 => ?_
            by_cases hij : i = j
            · subst hij; exact hz
            · exact (hh.resolve_left h6) i (by omega) h4
          · intro hh
            exact .inr fun i h3 h4 => (hh.resolve_left h6) i (by omega) h4
        · rw [if_pos (by simp only [bne_iff_ne]; exact hz)]
          congr 1
          symm
          rw [decide_eq_false_iff_not]
          exact fun hh => hz ((hh.resolve_left h6) j (by omega) h)
    · rw [if_neg (by simp; omega)]
      congr 1
      symm
      rw [decide_eq_true_iff]
      exact .inr fun i h3 h4 => by omega
theorem addr_both (a : T_addr_Addr) : ∃ b, F_addr_Addr_Right a = some b ∧ F_ref04_Right a = some b := by
  refine ⟨_, addr_right a, ?_⟩
  have h := ref_L a fuel0 4 (by omega) (by unfold fuel0; omega)
  refine (show F_ref04_Right a = _ from h).trans ?_
  congr 1
  rw [decide_eq_decide]
  exact Iff.rfl
def k8 (k : T_packet_Key) : T_ref08_Key := ⟨k.f_Src, k.f_Dst, k.f_Proto, k.f_SrcPort, k.f_DstPort⟩
theorem key_eq (k : T_packet_Key) : F_docs_Key k = some (k8 k) := rfl
theorem q_key (k : T_packet_Key) (p q : Int) : q_packet_Key k ⟨k.f_Src, k.f_Dst, k.f_Proto, p, q⟩ = (k.f_SrcPort == p && k.f_DstPort == q) := by
  simp [q_packet_Key, q_addr_refl]
theorem key_right (k : T_packet_Key) : ∃ b, F_packet_Key_Right k = some b ∧ F_ref08_Right (k8 k) = some b := by
  obtain ⟨b1, s1, s2⟩ := addr_both k.f_Src
  obtain ⟨b2, d1, d2⟩ := addr_both k.f_Dst
  unfold F_packet_Key_Right F_ref08_Right F_packet_Key_Right_j1 F_ref08_Right_j1 F_packet_Key_Right_j2 F_ref08_Right_j2
  unfold F_packet_ports F_packet_icmp F_ref08_ports F_ref08_icmp F_packet_ports_j1 F_packet_icmp_j1 F_ref08_ports_j1 F_ref08_icmp_j1
  simp only [k8, s1, s2, d1, d2, q_key]
  by_cases h3 : k.f_Src.f_Six = k.f_Dst.f_Six <;> by_cases h4 : k.f_Proto = 6 <;> by_cases h5 : k.f_Proto = 17 <;> by_cases h6 : k.f_Proto = 1 <;> by_cases h7 : k.f_Proto = 58 <;> by_cases h8 : k.f_SrcPort = 0 <;> cases b1 <;> cases b2 <;> simp [h3, h4, h5, h6, h7, h8]
def r22 (r : T_flow_Record) : T_ref22_Record := ⟨k8 r.f_Key, r.f_Packets, r.f_Bytes, r.f_First, r.f_Last, r.f_Flags, r.f_Reason, r.f_Class⟩
theorem rec_eq (r : T_flow_Record) : F_docs_Record r = some (r22 r) := rfl
theorem rec_right (r : T_flow_Record) : ∃ b, F_flow_Record_Right r = some b ∧ F_ref22_Right (r22 r) = some b := by
  obtain ⟨b, h1, h2⟩ := key_right r.f_Key
  unfold F_flow_Record_Right F_ref22_Right F_flow_Record_Right_j1 F_ref22_Right_j1
  simp only [r22, h1, h2, Option.bind_some]
  have e : decide (0 < r.f_Packets) = decide (1 ≤ r.f_Packets) := by rw [decide_eq_decide]; omega
  rw [e]
  by_cases g1 : 1 ≤ r.f_Packets <;> by_cases g2 : r.f_First ≤ r.f_Last <;> by_cases g3 : 1 ≤ r.f_Reason <;> cases b <;> simp [g1, g2, g3] <;> rfl
theorem records_eq {r : T_flow_Record} {p : T_packet_Packet} {tick : Int} {t u : T_flow_Total} (hp : U r.f_Packets) (hb : U r.f_Bytes) (hl : -9223372036854775808 ≤ p.f_Length ∧ p.f_Length ≤ 9223372036854775807) (ht : UT t) (hu : UT u) :
    F_law22_FlowRecords r p tick t u = some true := by
  have hg : 0 ≤ gmax 0 p.f_Length ∧ gmax 0 p.f_Length < 18446744073709551616 := by unfold gmax; split <;> omega
  have h1 : UT ⟨r.f_Packets, r.f_Bytes⟩ := ⟨hp, hb⟩
  have h2 : UT ⟨1, gmax 0 p.f_Length⟩ := ⟨⟨by show (0 : Int) ≤ 1; omega, by show (1 : Int) < _; omega⟩, hg⟩
  have hw : F_flow_Record_With r p tick = some ⟨r.f_Key, sat r.f_Packets 1, sat r.f_Bytes (gmax 0 p.f_Length), r.f_First, gmax r.f_Last tick, bits .or .u8 r.f_Flags p.f_Flags, r.f_Reason, r.f_Class⟩ := by
    unfold F_flow_Record_With F_flow_Record_Total
    rw [Option.bind_some, wu64i hg.1 hg.2, Plus_eq h1 h2, Option.bind_some]
    rfl
  have hr : F_ref22_With (r22 r) ⟨k8 p.f_Key, p.f_Length, p.f_Flags, p.f_Fragment⟩ tick = some ⟨k8 r.f_Key, sat r.f_Packets 1, sat r.f_Bytes (gmax 0 p.f_Length), r.f_First, gmax r.f_Last tick, bits .or .u8 r.f_Flags p.f_Flags, r.f_Reason, r.f_Class⟩ := by
    unfold F_ref22_With r22
    simp only
    rw [rplus_eq hp ⟨by omega, by omega⟩, Option.bind_some, wu64i hg.1 hg.2, rplus_eq hb hg, Option.bind_some]
  obtain ⟨b, k1, k2⟩ := rec_right r
  unfold F_law22_FlowRecords
  rw [rec_eq, Option.bind_some]
  unfold F_flow_Start
  rw [Option.bind_some, rec_eq, Option.bind_some, hw, Option.bind_some, rec_eq, Option.bind_some, k1, Option.bind_some, k2, Option.bind_some, if_pos (by simp), key_eq, Option.bind_some]
  unfold F_ref22_Start
  rw [Option.bind_some, if_pos (by exact q_rec_refl _)]
  unfold F_docs_Packet
  rw [key_eq, Option.bind_some, Option.bind_some, hr, Option.bind_some, if_pos (by exact q_rec_refl _)]
  unfold F_flow_Record_Total
  rw [Option.bind_some, if_pos (by exact q_total_refl _), Plus_eq ht hu, Option.bind_some]
  unfold F_docs_Total
  rw [Option.bind_some, Option.bind_some, Option.bind_some, rPlus_eq ht hu, Option.bind_some, if_pos (by exact q_total_refl _), Option.bind_some, Plus_eq hu ht, Option.bind_some, satT_comm t u, if_pos (by exact q_total_refl _), works_eq]
  rfl
end Go.Proofs.Yteafnfoponjoeaa
