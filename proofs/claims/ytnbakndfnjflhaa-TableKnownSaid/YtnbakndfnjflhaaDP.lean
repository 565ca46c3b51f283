/- Plain text: TablePlays. -/
import Derived.Test.YtnbakndfnjflhaaCP
set_option linter.unusedVariables false
namespace Go.Proofs.Ytnbakndfnjflhaa
open Go Go.Ox Go.Ox.Ring
/-! ### Keys that are right -/
theorem arrEq_refl (n : Nat) (x : List Int) : arrEq n x x = true := by simp [arrEq]
theorem q_addr_refl (x : T_addr_Addr) : q_addr_Addr x x = true := by simp [q_addr_Addr, arrEq_refl]
theorem arrEq_iff {n : Nat} {x y : List Int} : arrEq n x y = true ↔ ∀ i, i < n → x.getD i 0 = y.getD i 0 := by
  unfold arrEq
  rw [List.all_eq_true]
  constructor
  · intro h i hi
    exact eq_of_beq (h i (List.mem_range.2 hi))
  · intro h i hi
    exact beq_iff_eq.2 (h i (List.mem_range.1 hi))
theorem range_get {f : Nat → Int} {n i : Nat} (hi : i < n) : ((List.range n).map f).getD i 0 = f i := by
  simp [List.getD, hi]
theorem cpA_get {n m i : Nat} {xs ys : List Int} (hi : i < n) : (cpA n m xs ys).getD i 0 = if i < m then ys.getD i 0 else xs.getD i 0 := range_get hi
theorem arrL_get {n i : Nat} {xs : List Int} (hi : i < n) : (arrL n xs).getD i 0 = xs.getD i 0 := range_get hi
theorem rep_get {n i : Nat} : (List.replicate n (0 : Int)).getD i 0 = 0 := by
  by_cases h : i < n <;> simp [List.getD, h]
/-- An address whose bytes behind its size are 0. -/
def Rt (a : T_addr_Addr) : Prop := a.f_Six = true ∨ ∀ i, 4 ≤ i → i < 16 → a.f_B.getD i 0 = 0
open Classical in
theorem addr_right (a : T_addr_Addr) : F_addr_Addr_Right a = some (decide (Rt a)) := by
  unfold F_addr_Addr_Right F_addr_Addr_size
  have fin : ∀ s : Nat, s ≤ 16 → (arrEq 16 a.f_B (cpA 16 (Nat.min (arrL 16 a.f_B).length s) (List.replicate 16 0) (arrL 16 a.f_B)) = true ↔ ∀ i, s ≤ i → i < 16 → a.f_B.getD i 0 = 0) := fun s hs => by
    rw [arrEq_iff, arrL_len, show Nat.min 16 s = s from Nat.min_eq_right hs]
    constructor
    · intro h i h1 h2
      have := h i h2
      rw [cpA_get h2, if_neg (by omega), rep_get] at this
      exact this
    · intro h i h2
      rw [cpA_get h2]
      by_cases h1 : i < s
      · rw [if_pos h1, arrL_get h2]
      · rw [if_neg h1, rep_get]; exact h i (by omega) h2
  by_cases h : a.f_Six = true
  · rw [if_pos h, Option.bind_some, gcut_in (by omega) (by omega) (by rw [arrL_len]; omega), Option.bind_some]
    have hl : (List.take ((16 : Int).toNat - (0 : Int).toNat) (List.drop (0 : Int).toNat (arrL 16 (List.replicate 16 0)))).length = 16 := by simp [arrL_len]
    rw [hl]
    congr 1
    rw [Bool.eq_iff_iff, fin 16 (by omega), decide_eq_true_iff]
    exact ⟨fun _ => .inl h, fun _ i h1 h2 => by omega⟩
  · rw [if_neg h, Option.bind_some, gcut_in (by omega) (by omega) (by rw [arrL_len]; omega), Option.bind_some]
    have hl : (List.take ((4 : Int).toNat - (0 : Int).toNat) (List.drop (0 : Int).toNat (arrL 16 (List.replicate 16 0)))).length = 4 := by simp [arrL_len]
    rw [hl]
    congr 1
    rw [Bool.eq_iff_iff, fin 4 (by omega), decide_eq_true_iff]
    exact ⟨.inr, fun k => k.resolve_left h⟩
open Classical in
theorem ref_L (a : T_addr_Addr) (k : Nat) : ∀ j : Nat, j ≤ 16 → 16 < k + j → F_ref04_Right_L1 a k j = some (decide (a.f_Six = true ∨ ∀ i, j ≤ i → i < 16 → a.f_B.getD i 0 = 0)) := by
  induction k with
  | zero => intro j h1 h2; omega
  | succ k ih =>
    intro j h1 h2
    have e0 : F_ref04_Right_L1 a (k + 1) j = F_ref04_Right_l1 (F_ref04_Right_L1 a k) a j := rfl
    rw [e0]
    unfold F_ref04_Right_l1
    by_cases h : j < 16
    · have e1 : IntKind.i64.wrap ((j : Int) + 1) = ((j + 1 : Nat) : Int) := by rw [wi64 (by omega) (by omega)]; omega
      rw [if_pos (by simp; omega)]
      by_cases h6 : a.f_Six = true
      · rw [if_neg (by simp [h6])]
        unfold F_ref04_Right_j1
        rw [if_neg (by decide), e1, ih (j + 1) (by omega) (by omega)]
        congr 1
        simp [h6]
      · rw [if_pos (by simp [h6])]
        have hg : gidxA 16 a.f_B (j : Int) = some (a.f_B.getD j 0) := by unfold gidxA; rw [if_pos ⟨by omega, by omega⟩]; simp
        rw [hg, Option.bind_some]
        unfold F_ref04_Right_j1
        by_cases hz : a.f_B.getD j 0 = 0
        · rw [if_neg (by simp only [hz]; decide), e1, ih (j + 1) (by omega) (by omega)]
          congr 1
          rw [decide_eq_decide]
          constructor
          · intro hh
            refine .inr fun i h3 h4 => ?_
            by_cases hij : i = j
            · subst hij; exact hz
            · exact (hh.resolve_left h6) i (by omega) h4
          · intro hh
            exact .inr fun i h3 h4 => (hh.resolve_left h6) i (by omega) h4
        · rw [if_pos (by simp only [bne_iff_ne]; exact hz)]
          congr 1
          symm
          rw [decide_eq_false_iff_not]
          exact fun hh => hz ((hh.resolve_left h6) j (by omega) h)
    · rw [if_neg (by simp; omega)]
      congr 1
      symm
      rw [decide_eq_true_iff]
      exact .inr fun i h3 h4 => by omega
theorem addr_both (a : T_addr_Addr) : ∃ b, F_addr_Addr_Right a = some b ∧ F_ref04_Right a = some b := by
  refine ⟨_, addr_right a, ?_⟩
  have h := ref_L a fuel0 4 (by omega) (by unfold fuel0; omega)
  refine (show F_ref04_Right a = _ from h).trans ?_
  congr 1
  rw [decide_eq_decide]
  exact Iff.rfl
def rK (k : T_packet_Key) : T_ref08_Key := ⟨k.f_Src, k.f_Dst, k.f_Proto, k.f_SrcPort, k.f_DstPort⟩
theorem q_key (k : T_packet_Key) (p q : Int) : q_packet_Key k ⟨k.f_Src, k.f_Dst, k.f_Proto, p, q⟩ = (k.f_SrcPort == p && k.f_DstPort == q) := by
  simp [q_packet_Key, q_addr_refl]
theorem key_right (k : T_packet_Key) : ∃ b, F_packet_Key_Right k = some b ∧ F_ref08_Right (rK k) = some b := by
  obtain ⟨b1, s1, s2⟩ := addr_both k.f_Src
  obtain ⟨b2, d1, d2⟩ := addr_both k.f_Dst
  unfold F_packet_Key_Right F_ref08_Right F_packet_Key_Right_j1 F_ref08_Right_j1 F_packet_Key_Right_j2 F_ref08_Right_j2
  unfold F_packet_ports F_packet_icmp F_ref08_ports F_ref08_icmp F_packet_ports_j1 F_packet_icmp_j1 F_ref08_ports_j1 F_ref08_icmp_j1
  simp only [rK, s1, s2, d1, d2, q_key]
  by_cases h3 : k.f_Src.f_Six = k.f_Dst.f_Six <;> by_cases h4 : k.f_Proto = 6 <;> by_cases h5 : k.f_Proto = 17 <;> by_cases h6 : k.f_Proto = 1 <;> by_cases h7 : k.f_Proto = 58 <;> by_cases h8 : k.f_SrcPort = 0 <;> cases b1 <;> cases b2 <;> simp [h3, h4, h5, h6, h7, h8]
theorem rput_L : ∀ (k n : Nat) (v : Int), U v → n ≤ 8 → n < k → F_ref01_Put_R k v (n : Int) = some (put n v)
  | 0, n, v, hv, h8, hk => by omega
  | k + 1, 0, v, hv, h8, hk => by
    show F_ref01_Put_B (F_ref01_Put_R k) v _ = _
    unfold F_ref01_Put_B
    rw [if_pos (by simp)]; rfl
  | k + 1, n + 1, v, hv, h8, hk => by
    have h := hv.1; have h' := hv.2
    show F_ref01_Put_B (F_ref01_Put_R k) v _ = _
    unfold F_ref01_Put_B
    have e : IntKind.i64.wrap (((n + 1 : Nat) : Int) - 1) = (n : Int) := by rw [wi64 (by omega) (by omega)]; omega
    rw [if_neg (by simp; omega), tdiv_nn h, tmod_nn h, wu64i (by omega) (by omega), e, rput_L k n (v / 256) ⟨by omega, by omega⟩ (by omega) (by omega), Option.bind_some, if_pos (lim_le (by simp [put_len]; omega)), wu8i (by omega) (by omega)]
    rfl
theorem rput_eq {v : Int} (hv : U v) {n : Int} (h0 : 0 ≤ n) (hn : n ≤ 8) : F_ref01_Put v n = some (put n.toNat v) := by
  obtain ⟨m, rfl⟩ := Int.eq_ofNat_of_zero_le h0
  exact rput_L _ _ _ hv (by omega) (by unfold fuel0; omega)

def vl (a : Int) (b : List Int) : Int := b.foldl (fun a x => a * 256 + x) a
def val (b : List Int) : Int := vl 0 b
theorem rright_eq (k : T_packet_Key) : F_ref08_Right (rK k) = some (kr k) := by
  obtain ⟨b, h1, h2⟩ := key_right k
  rw [h2, ← h1, kright_eq]
theorem rab_eq (a : T_addr_Addr) : F_ref04_Bytes a = some (ab a) := by
  obtain ⟨six, B⟩ := a
  cases six <;> kernel_rfl
theorem pb_put {v : Int} (h : 0 ≤ v ∧ v < 65536) : pb (IntKind.u64.wrap v) = put 2 (IntKind.u64.wrap v) := by
  unfold pb
  rw [if_pos]
  rw [fit_iff, wu64i h.1 (by omega)]
  exact ⟨by decide, by decide, by show v < 256 ^ 2; omega⟩
theorem rkb_eq {k : T_packet_Key} (w : WK k) : F_ref08_Bytes (rK k) = some (kb k) := by
  have rp : ∀ v : Int, 0 ≤ v ∧ v < 65536 → F_ref01_Put (IntKind.u64.wrap v) 2 = some (pb (IntKind.u64.wrap v)) := fun v h => by
    rw [rput_eq (by rw [wu64i h.1 (by omega)]; exact ⟨h.1, by omega⟩) (by decide) (by decide), pb_put h]
    rfl
  have j1 : ∀ v, F_ref08_Bytes_j1 (rK k) [v] = some ([v] ++ ab k.f_Src ++ ab k.f_Dst ++ [k.f_Proto] ++ pb (IntKind.u64.wrap k.f_SrcPort) ++ pb (IntKind.u64.wrap k.f_DstPort)) := fun v => by
    have h1 := ab_len k.f_Src; have h2 := ab_len k.f_Dst; have h3 := pb_len (IntKind.u64.wrap k.f_SrcPort); have h4 := pb_len (IntKind.u64.wrap k.f_DstPort)
    unfold F_ref08_Bytes_j1 rK
    dsimp only
    rw [rab_eq, Option.bind_some, if_pos (limk (by simp; omega)), rab_eq, Option.bind_some, if_pos (limk (by simp; omega)), if_pos (limk (by simp; omega)), rp _ w.sp, Option.bind_some, if_pos (limk (by simp; omega)), rp _ w.dp, Option.bind_some, if_pos (limk (by simp; omega))]
  unfold F_ref08_Bytes kb kbs
  rw [rright_eq, Option.bind_some]
  cases kr k with
  | false => rfl
  | true =>
    rw [if_neg (by decide), if_pos rfl]
    show (if k.f_Src.f_Six = true then _ else _) = _
    split
    · exact j1 6
    · exact j1 4
theorem rhash_L {y : List Int} (hy : y.length < 1000) : ∀ (k : Nat) (t : Nat) (h : Int), t ≤ y.length → y.length < k + t → F_ref23_Hash_L1 y k h (t : Int) = some ((y.drop t).foldl hst h)
  | 0, t, h, h1, h2 => by omega
  | k + 1, t, h, h1, h2 => by
    show F_ref23_Hash_l1 (F_ref23_Hash_L1 y k) y h (t : Int) = _
    unfold F_ref23_Hash_l1
    by_cases ht : t < y.length
    · rw [if_pos (by simpa using ht), gidx_nat (List.getElem?_eq_getElem ht), Option.bind_some, show IntKind.i64.wrap ((t : Int) + 1) = ((t + 1 : Nat) : Int) by rw [wi64 (by omega) (by omega)]; omega, rhash_L hy k (t + 1) _ (by omega) (by omega), List.drop_eq_getElem_cons ht]
      rfl
    · rw [if_neg (by simpa using ht), show t = y.length by omega]
      simp
theorem rhash_eq {k : T_packet_Key} (w : WK k) : F_ref23_Hash (rK k) = some (hsh k) := by
  have h := kb_len k
  unfold F_ref23_Hash
  rw [rkb_eq w, Option.bind_some]
  exact rhash_L (by omega) fuel0 0 _ (by omega) (by unfold fuel0; omega)
/-! ### The reference's places -/
def rS (s : Sl) : T_ref23_Slot := ⟨s.f_Used, rK s.f_Key, s.f_N⟩
theorem rget {S : List Sl} {q : Nat} {s : Sl} (h : S[q]? = some s) : (S.map rS)[q]? = some (rS s) := by rw [List.getElem?_map, h]; rfl
theorem rfind_step {n : Nat} {S : List Sl} (w : WT n S) {k : T_packet_Key} (hk : WK k) {i : Nat} (hi : i < n) (rec : Int → Int → Option (Int × Int)) :
    F_ref23_Find_l1 rec (S.map rS) (rK k) ((add n (hm n k) i : Nat) : Int) i = open Classical in if Stop KE (tab S) k (add n (hm n k) i) then some (((add n (hm n k) i : Nat) : Int), ((i + 1 : Nat) : Int)) else rec ((add n (hm n k) (i + 1) : Nat) : Int) ((i + 1 : Nat) : Int) := by
  have hh := hm_lt w.pos k
  have hle := w.le
  have hql : add n (hm n k) i < n := add_lt hh (by omega)
  have hq : add n (hm n k) i < S.length := by rw [w.len]; exact hql
  have hg := List.getElem?_eq_getElem hq
  have hlen : ((S.map rS).length : Int) = (n : Int) := by rw [List.length_map, w.len]
  have e3 : IntKind.i64.wrap ((i : Int) + 1) = ((i + 1 : Nat) : Int) := nx hi (by omega)
  have e4 : Int.tmod (IntKind.i64.wrap (((add n (hm n k) i : Nat) : Int) + 1)) (n : Int) = ((add n (hm n k) (i + 1) : Nat) : Int) := by
    rw [nx hql (by omega), tmod_nat, ← add_mod hh (show i + 1 ≤ n by omega), ← add_mod hh (show i ≤ n by omega), Nat.mod_add_mod]
    rfl
  have hst := stop_iff w hk hg
  unfold F_ref23_Find_l1 F_ref23_Find_j1
  rw [hlen, if_pos (dT (by omega)), gidx_nat (rget hg), Option.bind_some, e3, e4, if_pos (dT (show (n : Int) ≠ 0 by omega))]
  show (if (!S[add n (hm n k) i].f_Used) = true then _ else _) = _
  cases hu : S[add n (hm n k) i].f_Used with
  | false =>
    rw [if_pos (by decide), if_pos rfl, if_pos (hst.2 (.inl hu))]
  | true =>
    rw [if_neg (by decide), Option.bind_some]
    show (if q_packet_Key S[add n (hm n k) i].f_Key k = true then _ else _) = _
    cases hqk : q_packet_Key S[add n (hm n k) i].f_Key k with
    | true => rw [if_pos rfl, if_pos (hst.2 (.inr hqk))]
    | false => rw [if_neg (by decide), if_neg (fun h => by rcases hst.1 h with h1 | h1 <;> simp_all)]
theorem rfind_L {n : Nat} {S : List Sl} (w : WT n S) {k : T_packet_Key} (hk : WK k) {j : Nat} (hj : Ring.Ends n KE (hm n) (tab S) k j) : ∀ (f i : Nat), i ≤ j → j < f + i → F_ref23_Find_L1 (S.map rS) (rK k) f ((add n (hm n k) i : Nat) : Int) i = some (((add n (hm n k) j : Nat) : Int), ((j + 1 : Nat) : Int))
  | 0, i, h1, h2 => by omega
  | f + 1, i, h1, h2 => by
    show F_ref23_Find_l1 (F_ref23_Find_L1 (S.map rS) (rK k) f) (S.map rS) (rK k) _ i = _
    have := hj.lt
    rw [rfind_step w hk (by omega)]
    by_cases h : i = j
    · subst h; rw [if_pos hj.stop]
    · rw [if_neg (hj.no i (by omega))]
      exact rfind_L w hk hj f (i + 1) (by omega) (by omega)
theorem rfind_N {n : Nat} {S : List Sl} (w : WT n S) {k : T_packet_Key} (hk : WK k) (hj : ∀ i, i < n → ¬ Stop KE (tab S) k (add n (hm n k) i)) : ∀ (f i : Nat), i ≤ n → n < f + i → F_ref23_Find_L1 (S.map rS) (rK k) f ((add n (hm n k) i : Nat) : Int) i = some (-1, (n : Int))
  | 0, i, h1, h2 => by omega
  | f + 1, i, h1, h2 => by
    show F_ref23_Find_l1 (F_ref23_Find_L1 (S.map rS) (rK k) f) (S.map rS) (rK k) _ i = _
    by_cases h : i = n
    · unfold F_ref23_Find_l1
      rw [if_neg (dF (by rw [List.length_map, w.len]; omega)), List.length_map, w.len]
    · rw [rfind_step w hk (by omega), if_neg (hj i (by omega))]
      exact rfind_N w hk hj f (i + 1) (by omega) (by omega)
/-- Both searches answer alike. -/
theorem find_sim {n : Nat} {S : List Sl} (m : Int) (w : WT n S) {k : T_packet_Key} (hk : WK k) : ∃ p c, F_table_Table_find ⟨S, m⟩ k = some (p, c, ⟨S, m⟩) ∧ F_ref23_Find (S.map rS) (rK k) = some (p, c) ∧ (p = -1 ∨ ∃ q : Nat, q < n ∧ p = q) := by
  have hh := hm_lt w.pos k
  have hle := w.le
  have hlen : ((S.map rS).length : Int) = (n : Int) := by rw [List.length_map, w.len]
  have h0 : hm n k = add n (hm n k) 0 := by unfold add; rw [if_pos (by omega)]; rfl
  have e0 : F_ref23_Find (S.map rS) (rK k) = F_ref23_Find_L1 (S.map rS) (rK k) fuel0 ((add n (hm n k) 0 : Nat) : Int) ((0 : Nat) : Int) := by
    unfold F_ref23_Find
    rw [rhash_eq hk, Option.bind_some, hlen, if_pos (dT (by rw [wu64i (by omega) (by omega)]; have := w.pos; omega)), home_eq w.pos w.le, ← h0]
    rfl
  rcases ends_or (n := n) (key := KE) (home := hm n) (A := tab S) k with ⟨j, hj⟩ | hno
  · exact ⟨_, _, find_ends w hk hj, by rw [e0]; exact rfind_L w hk hj fuel0 0 (by omega) (by have := hj.lt; unfold fuel0; omega), .inr ⟨_, add_lt hh (Nat.le_of_lt hj.lt), rfl⟩⟩
  · exact ⟨_, _, find_none w hk hno, by rw [e0]; exact rfind_N w hk hno fuel0 0 (by omega) (by unfold fuel0; omega), .inl rfl⟩
theorem gidx_m1 {α : Type} {xs : List α} : gidx xs (-1) = none := by unfold gidx; rw [if_neg (by decide)]
theorem rwith_eq {n : Nat} {S : List Sl} (w : WT n S) {q : Nat} (hq : q < n) (e : Sl) : F_ref23_with (S.map rS) (q : Int) (rS e) = some ((S.set q e).map rS) := by
  have hle := w.le
  obtain ⟨s, hs⟩ := get_lt w hq
  unfold F_ref23_with
  rw [if_pos (limk (by rw [List.length_map, w.len]; omega)), gidx_nat (rget hs), Option.bind_some, List.map_set]
  rfl
theorem get_sim {n : Nat} {S : List Sl} {m : Int} (w : WT n S) {k : T_packet_Key} (hk : WK k) : F_ref23_Get (S.map rS) (rK k) = (F_table_Table_Get ⟨S, m⟩ k).map fun r => (r.1, r.2.1) := by
  obtain ⟨p, c, h1, h2, h3⟩ := find_sim m w hk
  unfold F_ref23_Get F_ref23_Get_j1 F_table_Table_Get F_table_Table_has F_table_Table_has_j1
  rw [h1, h2, Option.bind_some, Option.bind_some]
  dsimp only
  rcases h3 with rfl | ⟨q, hq, rfl⟩
  · rfl
  · obtain ⟨s, hs⟩ := get_lt w hq
    have hu0 : (rS s).f_Used = s.f_Used := rfl
    rw [if_neg (dF (by omega)), if_pos (dT (by omega)), gidx_nat (rget hs), gidx_nat hs]
    simp only [Option.bind_some, hu0]
    cases s.f_Used with
    | false => rfl
    | true =>
      simp only [Bool.not_true, Bool.false_eq_true, ↓reduceIte, Option.bind_some]
      rw [if_neg (dF (by omega)), gidx_nat hs]
      rfl
theorem put_sim {n : Nat} {S : List Sl} {m : Int} (w : WT n S) {k : T_packet_Key} (hk : WK k) (v : Int) : F_ref23_Put (S.map rS) (rK k) v = (F_table_Table_Put ⟨S, m⟩ k v).map fun r => (r.2.f_slots.map rS, r.1) := by
  obtain ⟨p, c, h1, h2, h3⟩ := find_sim m w hk
  unfold F_ref23_Put F_table_Table_Put F_table_Table_Put_j1
  rw [rright_eq, kright_eq, h1, h2, Option.bind_some, Option.bind_some, Option.bind_some, Option.bind_some]
  dsimp only
  cases kr k with
  | false => rfl
  | true =>
    simp only [Bool.not_true, Bool.false_eq_true, ↓reduceIte]
    rcases h3 with rfl | ⟨q, hq, rfl⟩
    · rfl
    · obtain ⟨s, hs⟩ := get_lt w hq
      have hw := rwith_eq w hq ⟨true, k, v⟩
      rw [show decide ((q : Int) < 0) = false from decide_eq_false (by omega), gidx_nat hs]
      simp only [Bool.false_eq_true, ↓reduceIte, Option.bind_some]
      show (F_ref23_with (S.map rS) (q : Int) (rS ⟨true, k, v⟩)).bind _ = _
      rw [hw, Option.bind_some]
      cases s.f_Used <;> rfl
theorem del_sim_L {n : Nat} {m : Int} {a : Nat} {X : T_table_Table} {c0 : Int} (hX : X.f_slots.length = n) (ha : a < n) : ∀ (f i : Nat) (S : List Sl), WT n S → i + 1 ≤ n →
    F_ref23_Delete_L1 ((a : Int), c0) f (S.map rS) ((i + 1 : Nat) : Int) = (F_table_Table_Delete_L1 ((a : Int), X) f S m (i : Int)).map fun r => (r.2.f_slots.map rS, r.1)
  | 0, i, S, w, h1 => rfl
  | f + 1, i, S, w, h1 => by
    have hle := w.le
    show F_ref23_Delete_l1 (F_ref23_Delete_L1 ((a : Int), c0) f) ((a : Int), c0) (S.map rS) ((i + 1 : Nat) : Int) = (F_table_Table_Delete_l1 (F_table_Table_Delete_L1 ((a : Int), X) f) ((a : Int), X) S m (i : Int)).map _
    unfold F_table_Table_Delete_l1 F_table_Table_Delete_j1 F_ref23_Delete_l1
    dsimp only
    have e1 : IntKind.i64.wrap ((X.f_slots.length : Int) - 1) = (n : Int) - 1 := by rw [hX]; exact wi64 (by omega) (by omega)
    have e2 : IntKind.i64.wrap (IntKind.i64.wrap ((a : Int) + 1) + (i : Int)) = ((a + (1 + i) : Nat) : Int) := by rw [wi64 (n := (a : Int) + 1) (by omega) (by omega), wi64 (by omega) (by omega)]; omega
    have e2' : IntKind.i64.wrap ((a : Int) + ((i + 1 : Nat) : Int)) = ((a + (1 + i) : Nat) : Int) := by rw [wi64 (by omega) (by omega)]; omega
    have hlen : ((S.map rS).length : Int) = (n : Int) := by rw [List.length_map, w.len]
    by_cases hi : i + 1 < n
    · have e3 : Int.tmod (IntKind.i64.wrap (IntKind.i64.wrap ((a : Int) + 1) + (i : Int))) (X.f_slots.length : Int) = ((add n a (1 + i) : Nat) : Int) := by
        rw [e2, hX, tmod_nat, add_mod ha (by omega)]
      have e3' : Int.tmod (IntKind.i64.wrap ((a : Int) + ((i + 1 : Nat) : Int))) (n : Int) = ((add n a (1 + i) : Nat) : Int) := by
        rw [e2', tmod_nat, add_mod ha (by omega)]
      have hp : add n a (1 + i) < n := add_lt ha (by omega)
      obtain ⟨s, hs⟩ := get_lt w hp
      rw [e1, hlen, dT (show ((i + 1 : Nat) : Int) < (n : Int) by omega), dT (show (i : Int) < (n : Int) - 1 by omega), dT (show (n : Int) ≠ 0 by omega), dT (show (X.f_slots.length : Int) ≠ 0 by rw [hX]; omega), e3, e3', gidx_nat hs, gidx_nat (rget hs)]
      have hu0 : (rS s).f_Used = s.f_Used := rfl
      simp only [Option.bind_some, hu0, ↓reduceIte]
      cases hu : s.f_Used with
      | false => rfl
      | true =>
        simp only [Bool.not_true, Bool.false_eq_true, ↓reduceIte]
        have wks := w.key s (List.mem_of_getElem? hs)
        have w1 : WT n (S.set (add n a (1 + i)) E0) := w.set _ wk0
        obtain ⟨p, c, g1, g2, g3⟩ := find_sim m w1 wks
        show ((F_ref23_with (S.map rS) ((add n a (1 + i) : Nat) : Int) (rS E0)).bind _) = ((F_table_Table_find ⟨S.set (add n a (1 + i)) E0, m⟩ s.f_Key).bind _).map _
        rw [rwith_eq w hp, Option.bind_some, g1, Option.bind_some]
        show ((F_ref23_Find ((S.set (add n a (1 + i)) E0).map rS) (rK s.f_Key)).bind _) = _
        rw [g2, Option.bind_some]
        dsimp only
        rcases g3 with rfl | ⟨q, hq, rfl⟩
        · unfold F_ref23_with
          rw [gidx_m1, gidx_m1, if_pos (limk (by rw [List.length_map, w1.len]; omega))]
          rfl
        · obtain ⟨z, hz⟩ := get_lt w1 hq
          rw [rwith_eq w1 hq, Option.bind_some, gidx_nat hz, Option.bind_some, show IntKind.i64.wrap ((i : Int) + 1) = ((i + 1 : Nat) : Int) from nx (n := 100) (by omega) (by omega), show IntKind.i64.wrap (((i + 1 : Nat) : Int) + 1) = ((i + 1 + 1 : Nat) : Int) from nx (n := 100) (by omega) (by omega)]
          exact del_sim_L hX ha f (i + 1) _ (w1.set q wks) (by omega)
    · rw [e1, hlen, if_neg (dF (by omega)), if_neg (dF (by omega))]
      rfl
theorem del_sim {n : Nat} {S : List Sl} {m : Int} (w : WT n S) {k : T_packet_Key} (hk : WK k) : F_ref23_Delete (S.map rS) (rK k) = (F_table_Table_Delete ⟨S, m⟩ k).map fun r => (r.2.f_slots.map rS, r.1) := by
  obtain ⟨p, c, h1, h2, h3⟩ := find_sim m w hk
  have hle := w.le; have hpos := w.pos
  unfold F_ref23_Delete F_ref23_Delete_j1 F_table_Table_Delete F_table_Table_has F_table_Table_has_j1
  rw [h1, h2, Option.bind_some, Option.bind_some]
  dsimp only
  rcases h3 with rfl | ⟨q, hq, rfl⟩
  · rfl
  · obtain ⟨s, hs⟩ := get_lt w hq
    have hu0 : (rS s).f_Used = s.f_Used := rfl
    rw [if_neg (dF (by omega)), if_pos (dT (by omega)), gidx_nat (rget hs), gidx_nat hs]
    simp only [Option.bind_some, hu0]
    cases s.f_Used with
    | false => rfl
    | true =>
      simp only [Bool.not_true, Bool.false_eq_true, ↓reduceIte, Option.bind_some]
      rw [if_neg (dF (by omega)), gidx_nat hs, Option.bind_some]
      show ((F_ref23_with (S.map rS) (q : Int) (rS E0)).bind _) = _
      rw [rwith_eq w hq, Option.bind_some]
      exact del_sim_L w.len hq fuel0 0 _ (w.set q wk0) (by omega)
end Go.Proofs.Ytnbakndfnjflhaa
