/- Plain text: TableKeeps. -/
import Derived.Test.YtnbakndfnjflhaaBP
set_option linter.unusedVariables false
namespace Go.Proofs.Ytnbakndfnjflhaa
open Go Go.Ox Go.Ox.Ring
theorem nx {i n : Nat} (h : i < n) (hn : n < 1000000) : IntKind.i64.wrap ((i : Int) + 1) = ((i + 1 : Nat) : Int) := by rw [wi64 (by omega) (by omega)]; omega
/-! ### Reached -/
theorem slots_eq {n : Nat} {S : List Sl} {m : Int} (w : WT n S) : F_table_Table_Slots ⟨S, m⟩ = some (S, ⟨S, m⟩) := by
  unfold F_table_Table_Slots F_slices_Clone_table_Slot_table_Slot
  dsimp only
  rw [if_pos (limk (by have := w.len; have := w.le; simp; omega)), Option.bind_some]
  rfl
theorem home_eq {n : Nat} (hn : 0 < n) (h64 : n ≤ 64) (k : T_packet_Key) : IntKind.i64.wrap (Int.tmod (hsh k) (IntKind.u64.wrap (n : Int))) = ((hm n k : Nat) : Int) := by
  have h := hsh_U k
  obtain ⟨H, hH⟩ := Int.eq_ofNat_of_zero_le h.1
  have e1 : IntKind.u64.wrap (n : Int) = (n : Int) := wu64i (by omega) (by omega)
  unfold hm
  rw [hH, e1, tmod_nat, Int.toNat_natCast]
  have := Nat.mod_lt H hn
  exact wi64 (by omega) (by omega)
theorem reach_L2 {n : Nat} {S : List Sl} {m : Int} (w : WT n S) {k : T_packet_Key} {h d : Nat} (hk : IntKind.i64.wrap (Int.tmod (hsh k) (IntKind.u64.wrap (n : Int))) = ((h : Nat) : Int)) (hh : h < n) (hd : d < n) (hp : ∀ j, j ≤ d → ∃ s, S[add n h j]? = some s ∧ s.f_Used = true) (i : Int) (rec) :
    ∀ (f c : Nat), c ≤ d + 1 → d + 1 < f + c → F_law23_reached_L2 (S, ⟨S, m⟩) i rec (((d + 1 : Nat) : Int), ⟨S, m⟩) (hsh k) f (c : Int) = F_law23_reached_j1 i rec S m
  | 0, c, h1, h2 => by omega
  | f + 1, c, h1, h2 => by
    show F_law23_reached_l2 (F_law23_reached_L2 (S, ⟨S, m⟩) i rec (((d + 1 : Nat) : Int), ⟨S, m⟩) (hsh k) f) _ i rec _ _ (c : Int) = _
    have hle := w.le
    unfold F_law23_reached_l2
    dsimp only
    by_cases hc : c < d + 1
    · obtain ⟨s, hs, hu⟩ := hp c (by omega)
      rw [if_pos (dT (by omega)), w.len, if_pos (dT (by have := w.pos; omega)), hk, show IntKind.i64.wrap ((h : Int) + (c : Int)) = ((h + c : Nat) : Int) by rw [wi64 (by omega) (by omega)]; omega, tmod_nat, add_mod hh (by omega), gidx_nat hs, Option.bind_some, hu, if_neg (by decide), nx (n := 100) (by omega) (by omega)]
      exact reach_L2 w hk hh hd hp i rec f (c + 1) (by omega) (by omega)
    · rw [if_neg (dF (by omega))]
theorem reach_L1 {n : Nat} {S : List Sl} {m : Int} (t : TT n S m) : ∀ (f i : Nat), i ≤ n → n < f + i → F_law23_reached_L1 (S, ⟨S, m⟩) f S m (i : Int) = some (true, ⟨S, m⟩)
  | 0, i, h1, h2 => by omega
  | f + 1, i, h1, h2 => by
    show F_law23_reached_l1 (F_law23_reached_L1 (S, ⟨S, m⟩) f) _ S m (i : Int) = _
    have w := t.toWT
    have hle := w.le
    have hh : ∀ k, hm n k < n := hm_lt w.pos
    unfold F_law23_reached_l1
    dsimp only
    rw [w.len]
    by_cases hi : i < n
    · obtain ⟨s, hs⟩ := get_lt w hi
      have ih := reach_L1 t f (i + 1) (by omega) (by omega)
      rw [if_pos (dT (by omega)), gidx_nat hs, Option.bind_some]
      cases hu : s.f_Used with
      | false =>
        rw [if_pos (by decide)]
        unfold F_law23_reached_j1
        rw [nx hi (by omega)]
        exact ih
      | true =>
        obtain ⟨b, hb⟩ := t.inv
        have ht := tab_some.2 ⟨hs, hu⟩
        have hk := hh s.f_Key
        have hsl := sub_lt hi hk
        have hpa : ∀ j, j ≤ sub n i (hm n s.f_Key) → ∃ s', S[add n (hm n s.f_Key) j]? = some s' ∧ s'.f_Used = true := fun j hj => by
          rcases Nat.lt_or_ge j (sub n i (hm n s.f_Key)) with h3 | h3
          · obtain ⟨g, hg⟩ := hb.path i s hi ht j h3
            exact ⟨g, tab_some.1 hg⟩
          · have : j = sub n i (hm n s.f_Key) := by omega
            subst this
            rw [add_sub hi hk]; exact ⟨s, hs, hu⟩
        rw [if_neg (by decide), Option.bind_some, probes_in t hs hu, Option.bind_some, Option.bind_some, hash_eq, Option.bind_some]
        dsimp only
        have hL := reach_L2 (m := m) w (home_eq w.pos w.le s.f_Key) hk hsl hpa (i : Int) (F_law23_reached_L1 (S, ⟨S, m⟩) f) fuel0 0 (by omega) (by unfold fuel0; omega)
        rw [if_pos (dT (by rw [wu64i (by omega) (by omega)]; have := w.pos; omega)), if_neg (dF (by omega)), if_pos (dT (by have := w.pos; omega)), home_eq w.pos w.le,
          show IntKind.i64.wrap (IntKind.i64.wrap (((hm n s.f_Key : Nat) : Int) + ((sub n i (hm n s.f_Key) + 1 : Nat) : Int)) - 1) = ((hm n s.f_Key + sub n i (hm n s.f_Key) : Nat) : Int) by rw [wi64 (n := ((hm n s.f_Key : Nat) : Int) + _) (by omega) (by omega), wi64 (by omega) (by omega)]; omega,
          tmod_nat, add_mod hk (by omega), add_sub hi hk]
        unfold F_law23_reached_j2
        rw [if_neg (by simp)]
        refine hL.trans ?_
        unfold F_law23_reached_j1
        rw [nx hi (by omega)]
        exact ih
    · rw [if_neg (dF (by omega))]
theorem reached_eq {n : Nat} {S : List Sl} {m : Int} (t : TT n S m) : F_law23_reached ⟨S, m⟩ = some (true, ⟨S, m⟩) := by
  unfold F_law23_reached
  rw [slots_eq t.toWT, Option.bind_some]
  exact reach_L1 t fuel0 0 (by omega) (by have := t.le; unfold fuel0; omega)
/-! ### The state -/
structure RL (n : Nat) (S : List Sl) (m : Int) (ks : List T_packet_Key) (ns : List Int) : Prop extends TT n S m where
  kl : ks.length = usd S
  nl : ns.length = usd S
  mem : ∀ (i : Nat) k, ks[i]? = some k → ∃ v, ns[i]? = some v ∧ Mem S k v
  all : ∀ k v, Mem S k v → k ∈ ks
  one : ∀ (i j : Nat) k, ks[i]? = some k → ks[j]? = some k → i = j
theorem RL.kle {n : Nat} {S : List Sl} {m : Int} {ks : List T_packet_Key} {ns : List Int} (r : RL n S m ks ns) : ks.length ≤ n := by
  have := usd_le S; rw [r.kl, ← r.len]; exact this
theorem RL.wk {n : Nat} {S : List Sl} {m : Int} {ks : List T_packet_Key} {ns : List Int} (r : RL n S m ks ns) {k : T_packet_Key} (hk : k ∈ ks) : WK k := by
  obtain ⟨i, hi⟩ := List.getElem?_of_mem hk
  obtain ⟨v, _, q, s, hs, _, rfl, _⟩ := r.mem i k hi
  exact r.key s (List.mem_of_getElem? hs)
theorem RL.absent {n : Nat} {S : List Sl} {m : Int} {ks : List T_packet_Key} {ns : List Int} (r : RL n S m ks ns) {k : T_packet_Key} (hk : k ∉ ks) : Absent n KE (tab S) k := fun q e hq he hke => by
  obtain ⟨h1, h2⟩ := tab_some.1 he
  exact hk (r.all k e.f_N ⟨q, e, h1, h2, hke, rfl⟩)
/-! ### What is asked after each call -/
theorem l4_eq {n : Nat} {S : List Sl} {m : Int} {ks : List T_packet_Key} {ns : List Int} (r : RL n S m ks ns) (i : Int) (rec) : ∀ (f c : Nat), c ≤ ks.length → ks.length < f + c → F_law23_TableKeeps_L4 i rec ks ns f S m (c : Int) = rec S m ks ns (IntKind.i64.wrap (i + 1))
  | 0, c, h1, h2 => by omega
  | f + 1, c, h1, h2 => by
    show F_law23_TableKeeps_l4 (F_law23_TableKeeps_L4 i rec ks ns f) i rec ks ns S m (c : Int) = _
    unfold F_law23_TableKeeps_l4
    by_cases hc : c < ks.length
    · obtain ⟨k, hk⟩ : ∃ k, ks[c]? = some k := ⟨_, List.getElem?_eq_getElem hc⟩
      obtain ⟨v, hv, hm⟩ := r.mem c k hk
      rw [if_pos (dT (by omega)), gidx_nat hk, Option.bind_some, get_in r.toTT hm, Option.bind_some]
      dsimp only
      rw [if_neg (by decide), gidx_nat hv, Option.bind_some]
      unfold F_law23_TableKeeps_j6
      rw [if_neg (by simp), nx hc (by have := r.kle; have := r.le; omega)]
      exact l4_eq r i rec f (c + 1) (by omega) (by omega)
    · rw [if_neg (dF (by omega)), reached_eq r.toTT, Option.bind_some]
      rfl
theorem j5_eq {n : Nat} {S : List Sl} {m : Int} {ks : List T_packet_Key} {ns : List Int} (r : RL n S m ks ns) (i : Int) (rec) : F_law23_TableKeeps_j5 i rec S m ks ns = rec S m ks ns (IntKind.i64.wrap (i + 1)) := by
  unfold F_law23_TableKeeps_j5 F_table_Table_Len
  rw [Option.bind_some]
  dsimp only
  rw [r.many, r.kl, if_neg (by simp)]
  have := r.many
  subst this
  exact l4_eq r i rec fuel0 0 (by omega) (by have := r.kle; have := r.le; unfold fuel0; omega)
/-! ### The key's place among the keys -/
def AT (ks : List T_packet_Key) (k : T_packet_Key) (a : Int) : Prop := (∃ i : Nat, ks[i]? = some k ∧ a = i) ∨ (k ∉ ks ∧ a = -1)
theorem l2_eq {size : Int} {S : List Sl} {m : Int} {ks : List T_packet_Key} {ns : List Int} (hl : ks.length ≤ 64) (hw : ∀ k ∈ ks, WK k) {x : T_law23_Act} (hx : WK x.f_K) (i : Int) (rec) :
    ∀ (f c : Nat) (a : Int), AT (ks.take c) x.f_K a → c ≤ ks.length → ks.length < f + c → ∃ a', AT ks x.f_K a' ∧ F_law23_TableKeeps_L2 size S m ks ns i rec x f a (c : Int) = F_law23_TableKeeps_L3 size ks ns i rec x a' fuel0 S m [] 0
  | 0, c, a, h0, h1, h2 => by omega
  | f + 1, c, a, h0, h1, h2 => by
    show ∃ a', _ ∧ F_law23_TableKeeps_l2 (F_law23_TableKeeps_L2 size S m ks ns i rec x f) size S m ks ns i rec x a (c : Int) = _
    unfold F_law23_TableKeeps_l2 F_law23_TableKeeps_j4
    by_cases hc : c < ks.length
    · obtain ⟨k, hk⟩ : ∃ k, ks[c]? = some k := ⟨_, List.getElem?_eq_getElem hc⟩
      have hq := qkey_iff (hw k (List.mem_of_getElem? hk)) hx
      have htk : ks.take (c + 1) = ks.take c ++ [k] := by rw [List.take_add_one, hk]; rfl
      rw [if_pos (dT (by omega)), gidx_nat hk, Option.bind_some, nx hc (by omega)]
      by_cases he : k = x.f_K
      · rw [if_pos (hq.2 he)]
        refine l2_eq hl hw hx i rec f (c + 1) _ (.inl ⟨c, ?_, rfl⟩) (by omega) (by omega)
        rw [htk, List.getElem?_append_right (by rw [List.length_take]; omega), he, List.length_take, show c - min c ks.length = 0 by omega]
        rfl
      · rw [if_neg (fun h => he (hq.1 h))]
        refine l2_eq hl hw hx i rec f (c + 1) _ ?_ (by omega) (by omega)
        rw [htk]
        rcases h0 with ⟨j, hj, ha⟩ | ⟨hn, ha⟩
        · refine .inl ⟨j, ?_, ha⟩
          rw [List.getElem?_append_left (List.getElem?_eq_some_iff.1 hj).1]; exact hj
        · refine .inr ⟨?_, ha⟩
          rw [List.mem_append, List.mem_singleton]
          rintro (h3 | h3)
          · exact hn h3
          · exact he h3.symm
    · rw [if_neg (dF (by omega))]
      refine ⟨a, ?_, rfl⟩
      rwa [List.take_of_length_le (by omega)] at h0
/-! ### How many places the keys' searches looked at -/
def PB (n : Nat) (S : List Sl) (k : T_packet_Key) (p : Int) : Prop := ∃ (q : Nat) (s : Sl), S[q]? = some s ∧ s.f_Used = true ∧ s.f_Key = k ∧ p = ((sub n q (hm n k) + 1 : Nat) : Int)
theorem l3_eq {n : Nat} {size : Int} {S : List Sl} {m : Int} {ks : List T_packet_Key} {ns : List Int} (r : RL n S m ks ns) {x : T_law23_Act} (a i : Int) (rec) :
    ∀ (f c : Nat) (bf : List Int), bf.length = c → (∀ (j : Nat) k, j < c → ks[j]? = some k → ∃ p, bf[j]? = some p ∧ PB n S k p) → c ≤ ks.length → ks.length < f + c →
    ∃ bf' g, (∀ (j : Nat) k, ks[j]? = some k → ∃ p, bf'[j]? = some p ∧ PB n S k p) ∧ F_law23_TableKeeps_L3 size ks ns i rec x a f S m bf (c : Int) = F_law23_TableKeeps_l3 g size ks ns i rec x a S m bf' (ks.length : Int)
  | 0, c, bf, h0, hb, h1, h2 => by omega
  | f + 1, c, bf, h0, hb, h1, h2 => by
    have hkl := r.kle; have hle := r.le
    by_cases hc : c < ks.length
    · obtain ⟨k, hk⟩ : ∃ k, ks[c]? = some k := ⟨_, List.getElem?_eq_getElem hc⟩
      obtain ⟨v, hv, q, s, hs, hu, rfl, hn⟩ := r.mem c k hk
      show ∃ bf' g, _ ∧ F_law23_TableKeeps_l3 (F_law23_TableKeeps_L3 size ks ns i rec x a f) size ks ns i rec x a S m bf (c : Int) = _
      have e1 : F_law23_TableKeeps_l3 (F_law23_TableKeeps_L3 size ks ns i rec x a f) size ks ns i rec x a S m bf (c : Int) = F_law23_TableKeeps_L3 size ks ns i rec x a f S m (bf ++ [((sub n q (hm n s.f_Key) + 1 : Nat) : Int)]) ((c + 1 : Nat) : Int) := by
        conv => lhs; unfold F_law23_TableKeeps_l3
        rw [if_pos (dT (by omega)), gidx_nat hk, Option.bind_some, probes_in r.toTT hs hu, Option.bind_some]
        dsimp only
        rw [if_pos (limk (by simp; omega)), nx hc (by omega)]
      rw [e1]
      refine l3_eq r a i rec f (c + 1) _ (by simp [h0]) (fun j k' hj hk' => ?_) (by omega) (by omega)
      rcases Nat.lt_or_ge j c with h3 | h3
      · obtain ⟨p, hp, hpb⟩ := hb j k' h3 hk'
        exact ⟨p, by rw [List.getElem?_append_left (by omega)]; exact hp, hpb⟩
      · have : j = c := by omega
        subst this
        rw [hk] at hk'; injection hk' with hk'; subst hk'
        exact ⟨_, by rw [List.getElem?_append_right (by omega), h0]; simp, q, s, hs, hu, rfl, rfl⟩
    · have : c = ks.length := by omega
      subst this
      exact ⟨bf, F_law23_TableKeeps_L3 size ks ns i rec x a f, fun j k hk => hb j k (List.getElem?_eq_some_iff.1 hk).1 hk, rfl⟩
theorem l5_eq {n : Nat} {T : List Sl} {m : Int} {ks : List T_packet_Key} {ns bf : List Int} (t : TT n T m) (a i : Int) (rec) (hkl : ks.length ≤ 64)
    (hb : ∀ (j : Nat) k, ks[j]? = some k → (j : Int) ≠ a → ∃ p p', bf[j]? = some p ∧ PB n T k p' ∧ p' ≤ p) : ∀ (f c : Nat), c ≤ ks.length → ks.length < f + c →
    ∃ g, F_law23_TableKeeps_L5 ks ns i rec a bf f T m (c : Int) = F_law23_TableKeeps_l5 g ks ns i rec a bf T m (ks.length : Int)
  | 0, c, h1, h2 => by omega
  | f + 1, c, h1, h2 => by
    by_cases hc : c < ks.length
    · obtain ⟨k, hk⟩ : ∃ k, ks[c]? = some k := ⟨_, List.getElem?_eq_getElem hc⟩
      show ∃ g, F_law23_TableKeeps_l5 (F_law23_TableKeeps_L5 ks ns i rec a bf f) ks ns i rec a bf T m (c : Int) = _
      have e1 : F_law23_TableKeeps_l5 (F_law23_TableKeeps_L5 ks ns i rec a bf f) ks ns i rec a bf T m (c : Int) = F_law23_TableKeeps_L5 ks ns i rec a bf f T m ((c + 1 : Nat) : Int) := by
        conv => lhs; unfold F_law23_TableKeeps_l5 F_law23_TableKeeps_j11
        rw [if_pos (dT (by omega)), nx hc (by omega)]
        by_cases hca : (c : Int) = a
        · rw [if_neg (by simpa using hca)]; rfl
        · obtain ⟨p, p', hp, ⟨q, s, hs, hu, rfl, rfl⟩, hle⟩ := hb c k hk hca
          rw [if_pos (by simpa using hca), gidx_nat hk, Option.bind_some, probes_in t hs hu, Option.bind_some, gidx_nat hp, Option.bind_some]
          dsimp only
          rw [if_neg (dF (by omega))]
      rw [e1]
      exact l5_eq t a i rec hkl hb f (c + 1) (by omega) (by omega)
    · have : c = ks.length := by omega
      subst this
      exact ⟨F_law23_TableKeeps_L5 ks ns i rec a bf f, rfl⟩
/-! ### The next state -/
theorem RL.uniq {n : Nat} {S : List Sl} {m : Int} (t : TT n S m) {q p : Nat} {s e : Sl} (hs : S[q]? = some s) (hu : s.f_Used = true) (he : S[p]? = some e) (heu : e.f_Used = true) (hk : s.f_Key = e.f_Key) : q = p := by
  obtain ⟨b, hb⟩ := t.inv
  exact hb.one q p s e (by rw [← t.len]; exact (List.getElem?_eq_some_iff.1 hs).1) (by rw [← t.len]; exact (List.getElem?_eq_some_iff.1 he).1) (tab_some.2 ⟨hs, hu⟩) (tab_some.2 ⟨he, heu⟩) hk
theorem RL.over {n : Nat} {S : List Sl} {m : Int} {ks : List T_packet_Key} {ns : List Int} (r : RL n S m ks ns) {i q : Nat} {s : Sl} (hi : ks[i]? = some s.f_Key) (hs : S[q]? = some s) (hu : s.f_Used = true) {v : Int}
    (t : TT n (S.set q ⟨true, s.f_Key, v⟩) m) : RL n (S.set q ⟨true, s.f_Key, v⟩) m ks (ns.set i v) := by
  have hq : q < S.length := (List.getElem?_eq_some_iff.1 hs).1
  have hus := usd_set (e := ⟨true, s.f_Key, v⟩) hs
  rw [if_pos hu, if_pos rfl] at hus
  have hil : i < ks.length := (List.getElem?_eq_some_iff.1 hi).1
  refine ⟨t, by rw [r.kl]; omega, by rw [List.length_set, r.nl]; omega, fun j k hk => ?_, fun k w hm => ?_, r.one⟩
  · by_cases hj : j = i
    · subst hj
      rw [hi] at hk; injection hk with hk; subst hk
      refine ⟨v, ?_, q, _, List.getElem?_set_self hq, rfl, rfl, rfl⟩
      rw [List.getElem?_set_self]
      rw [r.nl, ← r.kl]; exact hil
    · obtain ⟨w, hw, p, e, he, heu, hek, hen⟩ := r.mem j k hk
      refine ⟨w, by rw [List.getElem?_set_ne (fun h => hj h.symm)]; exact hw, p, e, ?_, heu, hek, hen⟩
      rw [List.getElem?_set_ne]
      · exact he
      · intro h
        subst h
        rw [hs] at he; injection he with he; subst he
        subst hek
        exact hj (r.one j i _ hk hi)
  · obtain ⟨p, e, he, heu, hek, hen⟩ := hm
    by_cases hp : p = q
    · subst hp
      rw [List.getElem?_set_self hq] at he; injection he with he; subst he
      rw [← hek]; exact List.mem_of_getElem? hi
    · rw [List.getElem?_set_ne (fun h => hp h.symm)] at he
      exact r.all k w ⟨p, e, he, heu, hek, hen⟩
theorem RL.new {n : Nat} {S : List Sl} {m : Int} {ks : List T_packet_Key} {ns : List Int} (r : RL n S m ks ns) {k : T_packet_Key} (hk : k ∉ ks) {q : Nat} {s : Sl} (hs : S[q]? = some s) (hu : s.f_Used = false) {v : Int} {m' : Int}
    (t : TT n (S.set q ⟨true, k, v⟩) m') : RL n (S.set q ⟨true, k, v⟩) m' (ks ++ [k]) (ns ++ [v]) := by
  have hq : q < S.length := (List.getElem?_eq_some_iff.1 hs).1
  have hus := usd_set (e := ⟨true, k, v⟩) hs
  rw [hu, if_neg (by decide), if_pos rfl] at hus
  have app : ∀ (j : Nat) k', (ks ++ [k])[j]? = some k' → (j < ks.length ∧ ks[j]? = some k') ∨ (j = ks.length ∧ k' = k) := fun j k' h => by
    rcases Nat.lt_or_ge j ks.length with h1 | h1
    · rw [List.getElem?_append_left h1] at h; exact .inl ⟨h1, h⟩
    · rw [List.getElem?_append_right h1] at h
      have h2 : j - ks.length = 0 := by
        have := (List.getElem?_eq_some_iff.1 h).1
        simpa using this
      rw [h2] at h
      injection h with h
      exact .inr ⟨by omega, h.symm⟩
  refine ⟨t, by rw [List.length_append, r.kl]; simp; omega, by rw [List.length_append, r.nl]; simp; omega, fun j k' hk' => ?_, fun k' w hm => ?_, fun i j k' h1 h2 => ?_⟩
  · rcases app j k' hk' with ⟨h1, h2⟩ | ⟨rfl, rfl⟩
    · obtain ⟨w, hw, p, e, he, heu, hek, hen⟩ := r.mem j k' h2
      refine ⟨w, by rw [List.getElem?_append_left (by rw [r.nl, ← r.kl]; exact h1)]; exact hw, p, e, ?_, heu, hek, hen⟩
      rw [List.getElem?_set_ne]
      · exact he
      · intro h; subst h
        rw [hs] at he; injection he with he; subst he
        rw [hu] at heu; cases heu
    · refine ⟨v, ?_, q, _, List.getElem?_set_self hq, rfl, rfl, rfl⟩
      rw [List.getElem?_append_right (by rw [r.nl, r.kl]; exact Nat.le_refl _), r.nl, r.kl]; simp
  · obtain ⟨p, e, he, heu, hek, hen⟩ := hm
    by_cases hp : p = q
    · subst hp
      rw [List.getElem?_set_self hq] at he; injection he with he; subst he
      rw [← hek]; simp
    · rw [List.getElem?_set_ne (fun h => hp h.symm)] at he
      exact List.mem_append_left _ (r.all k' w ⟨p, e, he, heu, hek, hen⟩)
  · rcases app i k' h1 with ⟨a1, a2⟩ | ⟨a1, a2⟩ <;> rcases app j k' h2 with ⟨b1, b2⟩ | ⟨b1, b2⟩
    · exact r.one i j k' a2 b2
    · exact (hk (by rw [← b2]; exact List.mem_of_getElem? a2)).elim
    · exact (hk (by rw [← a2]; exact List.mem_of_getElem? b2)).elim
    · omega
theorem swap_get {α : Type} {xs : List α} {a i : Nat} {x : α} (hi : i + 1 < xs.length) : ((xs.set a x).take (xs.length - 1))[i]? = if i = a then some x else xs[i]? := by
  rw [List.getElem?_take, if_pos (by omega)]
  by_cases h : i = a
  · subst h; rw [if_pos rfl, List.getElem?_set_self (by omega)]
  · rw [if_neg h, List.getElem?_set_ne (fun h' => h h'.symm)]
theorem RL.del {n : Nat} {S : List Sl} {m : Int} {ks : List T_packet_Key} {ns : List Int} (r : RL n S m ks ns) {a q : Nat} {s : Sl} (ha : ks[a]? = some s.f_Key) (hs : S[q]? = some s) (hu : s.f_Used = true) {T : List Sl}
    (t : TT n T (m - 1)) (hN : Near n (S.set q E0) T) (hB : Back (S.set q E0) T) {kl : T_packet_Key} {nl : Int} (hkl : ks[ks.length - 1]? = some kl) (hnl : ns[ks.length - 1]? = some nl) :
    RL n T (m - 1) ((ks.set a kl).take (ks.length - 1)) ((ns.set a nl).take (ns.length - 1)) := by
  have hq : q < S.length := (List.getElem?_eq_some_iff.1 hs).1
  have hal : a < ks.length := (List.getElem?_eq_some_iff.1 ha).1
  have hml : ns.length = ks.length := by rw [r.kl, r.nl]
  have hT : usd T + 1 = usd S := by have h1 := t.many; have h2 := r.many; omega
  have len : ((ks.set a kl).take (ks.length - 1)).length = ks.length - 1 := by simp
  have toS : ∀ k v, Mem T k v → Mem S k v ∧ k ≠ s.f_Key := fun k v ⟨p, e, he, heu, hek, hen⟩ => by
    obtain ⟨p', hp'⟩ := hB p e he heu
    by_cases h1 : p' = q
    · subst h1
      rw [List.getElem?_set_self hq] at hp'; injection hp' with hp'; subst hp'
      cases heu
    · rw [List.getElem?_set_ne (fun h => h1 h.symm)] at hp'
      refine ⟨⟨p', e, hp', heu, hek, hen⟩, fun h2 => ?_⟩
      exact h1 (RL.uniq r.toTT hp' heu hs hu (by rw [hek, h2]))
  have toT : ∀ k v, Mem S k v → k ≠ s.f_Key → Mem T k v := fun k v ⟨p, e, he, heu, hek, hen⟩ hne => by
    have h1 : p ≠ q := fun h => by
      subst h; rw [hs] at he; injection he with he; subst he; exact hne hek.symm
    obtain ⟨p', _, g, _⟩ := hN p e (by rw [List.getElem?_set_ne (fun h => h1 h.symm)]; exact he) heu
    exact ⟨p', e, g, heu, hek, hen⟩
  have idx : ∀ (i : Nat) k, ((ks.set a kl).take (ks.length - 1))[i]? = some k → ∃ j, j ≠ a ∧ ks[j]? = some k ∧ ((ns.set a nl).take (ns.length - 1))[i]? = ns[j]? ∧ i + 1 < ks.length ∧ j = if i = a then ks.length - 1 else i := fun i k hk => by
    have hil : i + 1 < ks.length := by have := (List.getElem?_eq_some_iff.1 hk).1; rw [len] at this; omega
    rw [swap_get hil] at hk
    rw [swap_get (by rw [hml]; exact hil)]
    by_cases hia : i = a
    · rw [if_pos hia] at hk
      injection hk with hk; subst hk
      exact ⟨ks.length - 1, by omega, hkl, by rw [if_pos hia, hnl], hil, by rw [if_pos hia]⟩
    · rw [if_neg hia] at hk
      exact ⟨i, hia, hk, by rw [if_neg hia], hil, by rw [if_neg hia]⟩
  refine ⟨t, by rw [len, r.kl]; omega, by simp; rw [r.nl]; omega, fun i k hk => ?_, fun k v hm => ?_, fun i j k h1 h2 => ?_⟩
  · obtain ⟨j, hja, hj, hnj, _⟩ := idx i k hk
    obtain ⟨v, hv, hm⟩ := r.mem j k hj
    exact ⟨v, by rw [hnj]; exact hv, toT k v hm fun h => by subst h; exact hja (r.one j a _ hj ha)⟩
  · obtain ⟨hm', hne⟩ := toS k v hm
    obtain ⟨j, hj⟩ := List.getElem?_of_mem (r.all k v hm')
    have hja : j ≠ a := fun h => by subst h; rw [ha] at hj; injection hj with hj; exact hne hj.symm
    have hjl : j < ks.length := (List.getElem?_eq_some_iff.1 hj).1
    by_cases h1 : j = ks.length - 1
    · subst h1
      rw [hkl] at hj; injection hj with hj; subst hj
      refine List.mem_of_getElem? (i := a) ?_
      rw [swap_get (by omega), if_pos rfl]
    · refine List.mem_of_getElem? (i := j) ?_
      rw [swap_get (by omega), if_neg hja]; exact hj
  · obtain ⟨i', a1, a2, _, a3, a4⟩ := idx i k h1
    obtain ⟨j', b1, b2, _, b3, b4⟩ := idx j k h2
    have := r.one i' j' k a2 b2
    rw [a4, b4] at this
    split at this <;> split at this <;> omega
/-! ### One call -/
theorem pick_eq (d : Int) : ∃ p, F_kit_Pick d 8 = some p := by
  unfold F_kit_Pick
  rw [if_neg (by decide), if_pos (by decide), if_pos (by decide)]
  exact ⟨_, rfl⟩
theorem l3_step {n : Nat} {S : List Sl} {m : Int} {ks : List T_packet_Key} {ns bf : List Int} (r : RL n S m ks ns) {x : T_law23_Act} (hx : WK x.f_K) {a : Int} (hat : AT ks x.f_K a) (i : Int) (rec) (g)
    (hb : ∀ (j : Nat) k, ks[j]? = some k → ∃ p, bf[j]? = some p ∧ PB n S k p) :
    ∃ S' m' ks' ns', RL n S' m' ks' ns' ∧ F_law23_TableKeeps_l3 g (n : Int) ks ns i rec x a S m bf (ks.length : Int) = rec S' m' ks' ns' (IntKind.i64.wrap (i + 1)) := by
  have hkl := r.kle; have hle := r.le
  obtain ⟨d, hd⟩ := pick_eq x.f_Do
  unfold F_law23_TableKeeps_l3
  rw [if_neg (dF (by omega)), hd, Option.bind_some]
  by_cases h4 : d < 4
  · rw [if_pos (dT h4)]
    cases hr : kr x.f_K with
    | false =>
      rw [put_wrong r.toTT hx hr, Option.bind_some, kright_eq, Option.bind_some, hr, if_neg (by decide)]
      refine ⟨S, m, ks, ns, r, ?_⟩
      unfold F_law23_TableKeeps_j7 F_law23_TableKeeps_j10 F_law23_TableKeeps_j8 F_law23_TableKeeps_j9
      dsimp only
      rw [if_neg (by decide), if_neg (by decide), if_neg (by decide), if_neg (by decide), if_neg (by decide)]
      exact j5_eq r i rec
    | true =>
      rcases hat with ⟨j, hj, ha⟩ | ⟨hn, ha⟩
      · obtain ⟨v, hv, q, s, hs, hu, hks, hsn⟩ := r.mem j _ hj
        have hpo := put_over r.toTT hs hu (by rw [hks]; exact hr) x.f_N
        rw [hks] at hpo
        obtain ⟨p1, p2⟩ := hpo
        rw [p1, Option.bind_some, kright_eq, Option.bind_some, hr, if_pos rfl, if_pos (dT (by omega))]
        have ro := r.over (v := x.f_N) (by rw [hks]; exact hj) hs hu (by rw [hks]; exact p2)
        rw [hks] at ro
        refine ⟨_, _, _, _, ro, ?_⟩
        unfold F_law23_TableKeeps_j7 F_law23_TableKeeps_j10 F_law23_TableKeeps_j8 F_law23_TableKeeps_j9
        dsimp only
        rw [if_neg (by decide), if_pos rfl, ha, if_pos (dT (by omega)), gidx_nat hv, Option.bind_some, if_pos rfl, if_neg (dF (by omega))]
        exact j5_eq ro i rec
      · have hab := r.absent hn
        rcases Nat.lt_or_ge ks.length n with hlt | hge
        · obtain ⟨q, s, hs, hu, p1, p2⟩ := put_new r.toTT hx hab (by rw [← r.kl]; exact hlt) hr x.f_N
          rw [p1, Option.bind_some, kright_eq, Option.bind_some, hr, if_pos rfl, ha, if_neg (by decide)]
          have rn := r.new hn hs hu p2
          refine ⟨_, _, _, _, rn, ?_⟩
          unfold F_law23_TableKeeps_j7 F_law23_TableKeeps_j10 F_law23_TableKeeps_j8 F_law23_TableKeeps_j9
          dsimp only
          have hnl := r.nl; have hkk := r.kl
          rw [dT (show (ks.length : Int) < (n : Int) by omega), if_neg (by decide), if_pos rfl, if_neg (by decide), if_pos rfl, if_pos (by decide), if_pos (limk (by simp; omega)), if_pos (limk (by simp; omega))]
          exact j5_eq rn i rec
        · rw [put_full r.toTT hx hab (by rw [← r.kl]; omega) hr, Option.bind_some, kright_eq, Option.bind_some, hr, if_pos rfl, ha, if_neg (by decide)]
          refine ⟨S, m, ks, ns, r, ?_⟩
          unfold F_law23_TableKeeps_j7 F_law23_TableKeeps_j10 F_law23_TableKeeps_j8 F_law23_TableKeeps_j9
          dsimp only
          rw [show decide ((ks.length : Int) < (n : Int)) = false from decide_eq_false (by omega), if_neg (by decide), if_neg (by decide), if_neg (by decide), if_neg (by decide), if_neg (by decide)]
          exact j5_eq r i rec
  · rw [if_neg (dF h4)]
    by_cases h7 : d < 7
    · rw [if_pos (dT h7)]
      rcases hat with ⟨j, hj, ha⟩ | ⟨hn, ha⟩
      · obtain ⟨v, hv, q, s, hs, hu, hks, hsn⟩ := r.mem j _ hj
        obtain ⟨T, d1, d2, d3, d4⟩ := del_in r.toTT hs hu
        rw [hks] at d1
        rw [d1, Option.bind_some]
        dsimp only
        rw [ha, dT (show (0 : Int) ≤ ((j : Nat) : Int) by omega), if_neg (by decide)]
        have hq : q < S.length := (List.getElem?_eq_some_iff.1 hs).1
        have hjl : j < ks.length := (List.getElem?_eq_some_iff.1 hj).1
        have hml : ns.length = ks.length := by rw [r.kl, r.nl]
        obtain ⟨g', hg'⟩ := l5_eq (ks := ks) (ns := ns) (bf := bf) d2 (j : Int) i rec (by omega) (fun j' k hk hne => by
          obtain ⟨p, hp, q', e, he, heu, hek, hpe⟩ := hb j' k hk
          have hqq : q' ≠ q := fun h => by
            subst h; rw [hs] at he; injection he with he; subst he
            rw [hks] at hek; subst hek
            have := r.one j' j _ hk hj
            omega
          obtain ⟨p', _, g1, g2⟩ := d3 q' e (by rw [List.getElem?_set_ne (fun h => hqq h.symm)]; exact he) heu
          rw [hek] at g2
          exact ⟨p, _, hp, ⟨p', e, g1, heu, hek, rfl⟩, by rw [hpe]; omega⟩) fuel0 0 (by omega) (by unfold fuel0; omega)
        obtain ⟨kl, hkl'⟩ : ∃ kl, ks[ks.length - 1]? = some kl := ⟨_, List.getElem?_eq_getElem (by omega)⟩
        obtain ⟨nl, hnl'⟩ : ∃ nl, ns[ks.length - 1]? = some nl := ⟨_, List.getElem?_eq_getElem (by omega)⟩
        have rd := r.del (by rw [hks]; exact hj) hs hu d2 d3 d4 hkl' hnl'
        refine ⟨_, _, _, _, rd, ?_⟩
        refine hg'.trans ?_
        unfold F_law23_TableKeeps_l5
        have e1 : IntKind.i64.wrap ((ks.length : Int) - 1) = ((ks.length - 1 : Nat) : Int) := by rw [wi64 (by omega) (by omega)]; omega
        have e2 : IntKind.i64.wrap ((ns.length : Int) - 1) = ((ks.length - 1 : Nat) : Int) := by rw [hml]; exact e1
        have e3 : ∀ {α : Type} (xs : List α) (y : α), xs.length = ks.length → gcut (xs.set j y) 0 (IntKind.i64.wrap (((xs.set j y).length : Int) - 1)) = some ((xs.set j y).take (xs.length - 1)) := fun xs y hxl => by
          rw [List.length_set, hxl, e1, gcut_in (Int.le_refl _) (by omega) (by rw [List.length_set]; omega)]
          simp
        rw [if_neg (dF (by omega)), if_pos (dT (by omega)), e1, gidx_nat hkl', Option.bind_some, gidx_nat hj, Option.bind_some, e2, gidx_nat hnl', Option.bind_some, gidx_nat hv, Option.bind_some]
        show ((gcut (ks.set j kl) 0 (IntKind.i64.wrap (((ks.set j kl).length : Int) - 1))).bind _) = _
        rw [e3 ks kl rfl, Option.bind_some]
        show ((gcut (ns.set j nl) 0 (IntKind.i64.wrap (((ns.set j nl).length : Int) - 1))).bind _) = _
        rw [e3 ns nl hml, Option.bind_some]
        exact j5_eq rd i rec
      · rw [del_out r.toTT hx (r.absent hn), Option.bind_some]
        dsimp only
        rw [ha, if_neg (by decide)]
        obtain ⟨g', hg'⟩ := l5_eq (ks := ks) (ns := ns) (bf := bf) r.toTT (-1) i rec (by omega) (fun j' k hk hne => by
          obtain ⟨p, hp, hpb⟩ := hb j' k hk
          exact ⟨p, p, hp, hpb, Int.le_refl _⟩) fuel0 0 (by omega) (by unfold fuel0; omega)
        refine ⟨_, _, _, _, r, ?_⟩
        refine hg'.trans ?_
        unfold F_law23_TableKeeps_l5
        rw [if_neg (dF (by omega)), if_neg (by decide)]
        exact j5_eq r i rec
    · rw [if_neg (dF h7)]
      exact ⟨_, _, _, _, r, j5_eq r i rec⟩
theorem works_eq : F_law23_works = some true := by decide +kernel
theorem keeps_L {n : Nat} {lv : List T_law23_Act} (hx : ∀ a ∈ lv, WK a.f_K) (hl : lv.length ≤ 60) : ∀ (f i : Nat) (S : List Sl) (m : Int) (ks : List T_packet_Key) (ns : List Int), RL n S m ks ns → i ≤ lv.length → lv.length < f + i → F_law23_TableKeeps_L1 (n : Int) lv f S m ks ns (i : Int) = some true
  | 0, i, S, m, ks, ns, r, h1, h2 => by omega
  | f + 1, i, S, m, ks, ns, r, h1, h2 => by
    show F_law23_TableKeeps_l1 (F_law23_TableKeeps_L1 (n : Int) lv f) (n : Int) lv S m ks ns (i : Int) = _
    unfold F_law23_TableKeeps_l1
    by_cases hi : i < lv.length
    · obtain ⟨x, hxi⟩ : ∃ x, lv[i]? = some x := ⟨_, List.getElem?_eq_getElem hi⟩
      have wx := hx x (List.mem_of_getElem? hxi)
      have hkl := r.kle; have hle := r.le
      rw [if_pos (dT (by omega)), gidx_nat hxi, Option.bind_some]
      obtain ⟨a, ha, q1⟩ := l2_eq (size := (n : Int)) (S := S) (m := m) (ns := ns) (by omega) (fun k hk => r.wk hk) wx (i : Int) (F_law23_TableKeeps_L1 (n : Int) lv f) fuel0 0 (-1) (.inr ⟨by simp, rfl⟩) (by omega) (by unfold fuel0; omega)
      obtain ⟨bf, g, hb, q2⟩ := l3_eq (size := (n : Int)) (x := x) r a (i : Int) (F_law23_TableKeeps_L1 (n : Int) lv f) fuel0 0 [] rfl (fun j k h => by omega) (by omega) (by unfold fuel0; omega)
      obtain ⟨S', m', ks', ns', r', q3⟩ := l3_step r wx ha (i : Int) (F_law23_TableKeeps_L1 (n : Int) lv f) g hb
      refine q1.trans (q2.trans (q3.trans ?_))
      rw [nx hi (by omega)]
      exact keeps_L hx hl f (i + 1) S' m' ks' ns' r' (by omega) (by omega)
    · rw [if_neg (dF (by omega)), works_eq]
      rfl
theorem pow_dvd : ∀ s : Fin 65, 1 ≤ s.val → ((bits .and .i64 (s.val : Int) (IntKind.i64.wrap ((s.val : Int) - 1))) != 0) = false → s.val ∣ 2 ^ 64 := by decide +kernel
theorem empty_get {n q : Nat} {s : Sl} (h : (List.replicate n E0)[q]? = some s) : s = E0 := by
  have := List.mem_of_getElem? h
  exact List.eq_of_mem_replicate this
theorem tt_empty {n : Nat} (h1 : 1 ≤ n) (h2 : n ≤ 64) (hd : n ∣ 2 ^ 64) : TT n (List.replicate n E0) 0 := by
  have hnone : ∀ q, tab (List.replicate n E0) q = none := fun q => by
    cases h : tab (List.replicate n E0) q with
    | none => rfl
    | some e =>
      obtain ⟨a, b⟩ := tab_some.1 h
      rw [empty_get a] at b; cases b
  refine ⟨⟨List.length_replicate, by omega, h2, hd, fun s hs => by rw [List.eq_of_mem_replicate hs]; exact wk0⟩, ⟨0, ⟨by omega, ?_, ?_, ?_⟩⟩, ?_⟩
  · intro p q e f _ _ h; rw [hnone] at h; cases h
  · intro q e _ h; rw [hnone] at h; cases h
  · intro q e _ h; rw [hnone] at h; cases h
  · unfold usd
    rw [List.countP_eq_zero.2 (fun s hs => by rw [List.eq_of_mem_replicate hs]; decide)]
    rfl
theorem keeps_eq {size : Int} {lv : List T_law23_Act} (hx : ∀ a ∈ lv, WK a.f_K) : F_law23_TableKeeps size lv = some true := by
  have w3 : ∀ b, F_law23_TableKeeps_j3 b = some b := fun b => rfl
  have bad : F_law23_TableKeeps_j2 size lv true = some true := by
    unfold F_law23_TableKeeps_j2
    rw [if_pos rfl, works_eq]; rfl
  have j1t : F_law23_TableKeeps_j1 size lv true = some true := by
    unfold F_law23_TableKeeps_j1
    rw [if_pos rfl, works_eq]; rfl
  unfold F_law23_TableKeeps
  by_cases h64 : 64 < size
  · rw [if_pos (dT h64)]; exact j1t
  · rw [if_neg (dF h64)]
    by_cases h60 : 60 < (lv.length : Int)
    · rw [dT h60]; exact j1t
    · rw [show decide (60 < (lv.length : Int)) = false from decide_eq_false h60]
      unfold F_law23_TableKeeps_j1
      rw [if_neg (by decide)]
      by_cases h1 : size < 1
      · rw [if_pos (dT h1)]; exact bad
      · rw [if_neg (dF h1), if_neg (dF (by omega))]
        obtain ⟨n, rfl⟩ := Int.eq_ofNat_of_zero_le (show 0 ≤ size by omega)
        cases hb : (bits .and .i64 (n : Int) (IntKind.i64.wrap ((n : Int) - 1))) != 0 with
        | true => exact bad
        | false =>
          have hd := pow_dvd ⟨n, by omega⟩ (by show 1 ≤ n; omega) hb
          unfold F_law23_TableKeeps_j2
          rw [if_neg (by decide), if_pos (dT ⟨by omega, by unfold lim; omega⟩)]
          have t := tt_empty (n := n) (by omega) (by omega) hd
          have hu0 : usd (List.replicate n E0) = 0 := by have := t.many; omega
          refine keeps_L hx (by omega) fuel0 0 _ 0 [] [] ⟨t, ?_, ?_, ?_, ?_, ?_⟩ (by omega) (by unfold fuel0; omega)
          · exact hu0.symm
          · exact hu0.symm
          · intro i k h; simp at h
          · intro k v ⟨q, s, hs, hu, _⟩; rw [empty_get hs] at hu; cases hu
          · intro i j k h; simp at h
/-! ### A table that is not there -/
theorem none_eq (k : T_packet_Key) (v : Int) : F_law23_TableNone k v = some true := by
  have hk : F_table_Table_Keys_N = some [] := by
    have h0 : srt cf_packet_Cmp [] = [] := List.eq_nil_of_length_eq_zero (srt_len swo_packet_Cmp _)
    suffices h1 : ∀ k, F_table_Table_Keys_N_L1 [] (k + 1) [] 0 = some [] from h1 1099511627775
    intro k
    show F_table_Table_Keys_N_l1 (F_table_Table_Keys_N_L1 [] k) [] [] 0 = _
    unfold F_table_Table_Keys_N_l1 F_slices_SortFunc_packet_Key_packet_Key_packet_Cmp
    rw [if_neg (by decide), if_pos (limk (by decide)), h0]
    rfl
  unfold F_law23_TableNone F_law23_TableNone_j1 F_table_Table_Get_N F_table_Table_Put_N F_table_Table_Delete_N F_table_Table_has_N F_table_Table_has_N_j1 F_table_Table_Probes_N F_table_Table_find_N F_table_Table_Clear_N F_table_Table_Len_N F_table_Table_Size_N F_table_Table_Slots_N
  rw [hk, works_eq]
  rfl
end Go.Proofs.Ytnbakndfnjflhaa
