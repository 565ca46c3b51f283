/- The plain law of the chapter on flow records: FlowSums. No program's code is named here. -/
import Derived.Test.YtahldlpikknefaaF
import Derived.Test.YtahldlpikknefaaOxP
set_option linter.unusedVariables false
namespace Go.Proofs.Ytahldlpikknefaa
open Go Go.Ox Go.RowKit

theorem works_eq : F_law22_works = some true := by decide +kernel
theorem arrEq_refl (n : Nat) (x : List Int) : arrEq n x x = true := by simp [arrEq]
theorem q_addr_refl (x : T_addr_Addr) : q_addr_Addr x x = true := by simp [q_addr_Addr, arrEq_refl]
theorem q_key_refl (x : T_packet_Key) : q_packet_Key x x = true := by simp [q_packet_Key, q_addr_refl]
theorem q_total_refl (x : T_flow_Total) : q_flow_Total x x = true := by simp [q_flow_Total]
def sat (a b : Int) : Int := if 18446744073709551616 ≤ a + b then 18446744073709551615 else a + b
def U (a : Int) : Prop := 0 ≤ a ∧ a < 18446744073709551616
theorem sat_U {a b : Int} (ha : U a) (hb : U b) : U (sat a b) := by unfold U sat at *; split <;> omega
theorem sat_assoc {a b c : Int} (ha : U a) (hb : U b) (hc : U c) : sat (sat a b) c = sat a (sat b c) := by
  unfold U sat at *
  split <;> split <;> split <;> split <;> omega
theorem plus_eq {a b : Int} (ha : U a) (hb : U b) : F_flow_plus a b = some (sat a b) := by
  unfold F_flow_plus hi64 lo64 sat U at *
  obtain ⟨x, rfl⟩ := Int.eq_ofNat_of_zero_le ha.1
  obtain ⟨y, rfl⟩ := Int.eq_ofNat_of_zero_le hb.1
  simp only [Int.toNat_natCast]
  by_cases h : 18446744073709551616 ≤ x + y
  · rw [if_pos (by simp; omega), if_pos (by omega)]
  · rw [if_neg (by simp; omega), if_neg (by omega)]
    congr 1; omega
def UT (t : T_flow_Total) : Prop := U t.f_Packets ∧ U t.f_Bytes
def satT (t u : T_flow_Total) : T_flow_Total := ⟨sat t.f_Packets u.f_Packets, sat t.f_Bytes u.f_Bytes⟩
theorem satT_U {t u : T_flow_Total} (h : UT t) (k : UT u) : UT (satT t u) := ⟨sat_U h.1 k.1, sat_U h.2 k.2⟩
theorem Plus_eq {t u : T_flow_Total} (h : UT t) (k : UT u) : F_flow_Total_Plus t u = some (satT t u) := by
  unfold F_flow_Total_Plus
  rw [plus_eq h.1 k.1, Option.bind_some, plus_eq h.2 k.2, Option.bind_some]
  rfl
theorem satT_assoc {t u v : T_flow_Total} (h : UT t) (k : UT u) (m : UT v) : satT (satT t u) v = satT t (satT u v) := by
  unfold satT
  simp only
  rw [sat_assoc h.1 k.1 m.1, sat_assoc h.2 k.2 m.2]
theorem flag_ok : ∀ f : Fin 256, ∀ m : Fin 8, (bits .and .u8 (bits .or .u8 (f.val : Int) (Ox.shl .u8 1 (m.val : Int))) (Ox.shl .u8 1 (m.val : Int)) == 0) = false := by decide +kernel
theorem flag_rng (a b : Int) : 0 ≤ bits .or .u8 a b ∧ bits .or .u8 a b < 256 := by
  show 0 ≤ IntKind.u8.wrap _ ∧ IntKind.u8.wrap _ < 256
  rw [wu8]; omega
theorem flag_eq {f : Int} (hf : 0 ≤ f ∧ f < 256) {m : Int} (hm : 0 ≤ m ∧ m < 8) : (bits .and .u8 (bits .or .u8 f (Ox.shl .u8 1 m)) (Ox.shl .u8 1 m) == 0) = false := by
  have h := flag_ok ⟨f.toNat, by omega⟩ ⟨m.toNat, by omega⟩
  have e1 : ((f.toNat : Nat) : Int) = f := by omega
  have e2 : ((m.toNat : Nat) : Int) = m := by omega
  simp only [e1, e2] at h
  exact h
theorem with_eq {r : T_flow_Record} {p : T_packet_Packet} {tick : Int} (hp : 0 ≤ r.f_Packets ∧ r.f_Packets < 1000000) (hb : 0 ≤ r.f_Bytes ∧ r.f_Bytes < 1000000000) (hl : 0 ≤ p.f_Length ∧ p.f_Length < 65536) :
    F_flow_Record_With r p tick = some ⟨r.f_Key, r.f_Packets + 1, r.f_Bytes + p.f_Length, r.f_First, gmax r.f_Last tick, bits .or .u8 r.f_Flags p.f_Flags, r.f_Reason, r.f_Class⟩ := by
  unfold F_flow_Record_With F_flow_Record_Total
  have hg : gmax 0 p.f_Length = p.f_Length := by unfold gmax; split <;> omega
  have h1 : UT ⟨r.f_Packets, r.f_Bytes⟩ := ⟨⟨hp.1, by show r.f_Packets < _; omega⟩, ⟨hb.1, by show r.f_Bytes < _; omega⟩⟩
  have h2 : UT ⟨1, p.f_Length⟩ := ⟨⟨by show (0 : Int) ≤ 1; omega, by show (1 : Int) < _; omega⟩, ⟨hl.1, by show p.f_Length < _; omega⟩⟩
  rw [Option.bind_some, hg, wu64i hl.1 (by omega), Plus_eq h1 h2, Option.bind_some]
  unfold satT sat
  simp only
  rw [if_neg (by omega), if_neg (by omega)]
theorem sums_L (kv1 : T_packet_Key) (ls ts : List Int) (hl : ls.length ≤ 50) (hw : Wf 65536 ls) {t u v : T_flow_Total} (ht : UT t) (hu : UT u) (hv : UT v) (k : Nat) :
    ∀ (j : Nat) (sum last flags reason : Int), j ≤ ls.length → ls.length < k + j → 0 ≤ sum ∧ sum ≤ 65536 * j → 0 ≤ flags ∧ flags < 256 →
      F_law22_FlowSums_L1 kv1 ls ts t u v k kv1.f_Src.f_Six kv1.f_Src.f_B kv1.f_Dst.f_Six kv1.f_Dst.f_B kv1.f_Proto kv1.f_SrcPort kv1.f_DstPort j sum 100 last flags reason 3 sum last j = some true := by
  induction k with
  | zero => intro j sum last flags reason h1 h2; omega
  | succ k ih =>
    intro j sum last flags reason h1 h2 h3 h4
    have e0 : F_law22_FlowSums_L1 kv1 ls ts t u v (k + 1) kv1.f_Src.f_Six kv1.f_Src.f_B kv1.f_Dst.f_Six kv1.f_Dst.f_B kv1.f_Proto kv1.f_SrcPort kv1.f_DstPort j sum 100 last flags reason 3 sum last j
      = F_law22_FlowSums_l1 (F_law22_FlowSums_L1 kv1 ls ts t u v k) kv1 ls ts t u v kv1.f_Src.f_Six kv1.f_Src.f_B kv1.f_Dst.f_Six kv1.f_Dst.f_B kv1.f_Proto kv1.f_SrcPort kv1.f_DstPort j sum 100 last flags reason 3 sum last j := rfl
    rw [e0]
    have fin : F_law22_FlowSums_j2 kv1 ls ts t u v kv1.f_Src.f_Six kv1.f_Src.f_B kv1.f_Dst.f_Six kv1.f_Dst.f_B kv1.f_Proto kv1.f_SrcPort kv1.f_DstPort j sum 100 last flags reason 3 sum last j (F_law22_FlowSums_L1 kv1 ls ts t u v k) false = some true := by
      unfold F_law22_FlowSums_j2
      rw [if_neg (by decide), if_pos (q_key_refl kv1), if_pos (by decide), Plus_eq ht hu, Option.bind_some, Plus_eq (satT_U ht hu) hv, Option.bind_some, Plus_eq hu hv, Option.bind_some, Plus_eq ht (satT_U hu hv), Option.bind_some, satT_assoc ht hu hv, if_pos (q_total_refl _), works_eq]
      rfl
    unfold F_law22_FlowSums_l1
    by_cases h : j < ls.length
    · rw [if_pos (by simpa using h)]
      by_cases h5 : j < ts.length
      · have ed : decide ((j : Int) < (ts.length : Int)) = true := by simpa using h5
        rw [ed]
        have g1 : ls[j]? = some ls[j] := List.getElem?_eq_getElem h
        have g2 : ts[j]? = some ts[j] := List.getElem?_eq_getElem h5
        have hx := hw.get g1
        unfold F_law22_FlowSums_j2
        rw [if_pos rfl, gidx_nat g1, Option.bind_some, tmod_nn (by omega), if_pos (by simp; omega), gidx_nat g2, Option.bind_some, wi64 (n := ls[j]) (by omega) (by omega)]
        rw [with_eq (by simp only; omega) (by simp only; omega) (by simp only; omega)]
        simp only [Option.bind_some, F_flow_Record_Total]
        have e1 : IntKind.i64.wrap ((j : Int) + 1) = ((j + 1 : Nat) : Int) := by rw [wi64 (by omega) (by omega)]; omega
        have e2 : IntKind.u64.wrap ((j + 1 : Nat) : Int) = (j : Int) + 1 := by rw [wu64i (by omega) (by omega)]; omega
        have e3 : IntKind.u64.wrap (sum + IntKind.u64.wrap ls[j]) = sum + ls[j] := by simp only [wu64]; omega
        rw [e1, e2, e3, q_total_refl, if_neg (by decide), if_neg (by simp), if_neg (by decide), if_pos (by simp; omega), flag_eq h4 (by omega)]
        unfold F_law22_FlowSums_j3
        rw [if_neg (by decide), e1, e3]
        have ej : (j : Int) + 1 = ((j + 1 : Nat) : Int) := by omega
        simp only [ej]
        exact ih (j + 1) _ _ _ _ (by omega) (by omega) (by omega) (flag_rng _ _)
      · have ed : decide ((j : Int) < (ts.length : Int)) = false := by simpa using h5
        rw [ed]; exact fin
    · rw [if_neg (by simpa using h)]; exact fin
theorem sums_eq {kv1 : T_packet_Key} {ls ts : List Int} (hw : Wf 65536 ls) {t u v : T_flow_Total} (ht : UT t) (hu : UT u) (hv : UT v) : F_law22_FlowSums kv1 ls ts t u v = some true := by
  have hj : ∀ b : Bool, (b = false → ls.length ≤ 50) → F_law22_FlowSums_j1 kv1 ls ts t u v b = some true := fun b hb => by
    unfold F_law22_FlowSums_j1
    cases b with
    | true => rw [if_pos rfl, works_eq]; rfl
    | false =>
      rw [if_neg (by decide)]
      unfold F_flow_Start
      rw [Option.bind_some]
      exact sums_L kv1 ls ts (hb rfl) hw ht hu hv fuel0 0 0 100 0 0 (by omega) (by have := hb rfl; unfold fuel0; omega) (by omega) (by omega)
  unfold F_law22_FlowSums
  by_cases h : 50 < ls.length
  · rw [if_pos (by simp; omega)]; exact hj _ (fun h => by cases h)
  · rw [if_neg (by simp; omega)]; exact hj _ (fun _ => by omega)
end Go.Proofs.Ytahldlpikknefaa
