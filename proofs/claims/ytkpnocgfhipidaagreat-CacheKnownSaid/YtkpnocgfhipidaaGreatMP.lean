/- Plain text: the closed statement of caches. -/
import Derived.Test.YtkpnocgfhipidaaGreatLP
import Derived.Test.YtkpnocgfhipidaaGreatHP
set_option linter.unusedVariables false
namespace Go.Proofs.YtkpnocgfhipidaaGreat
open Go Go.Ox Go.Ox.Ring
theorem shl8 : ∀ s : Fin 8, 0 ≤ Ox.shl .u8 1 (s.val : Int) ∧ Ox.shl .u8 1 (s.val : Int) < 256 := by decide +kernel
theorem wf0 : Wf 256 (List.replicate 16 (0 : Int)) := fun y hy => by rw [List.eq_of_mem_replicate hy]; decide
theorem act_j1 {m : Nat} (hm : m < 200000) {tick x y z : Int} (ht : 0 ≤ tick ∧ tick < 18446744073709551616) (hx : 0 ≤ x ∧ x < 256) (hy : 0 ≤ y ∧ y < 65536) (hz : 0 ≤ z ∧ z < 65536) : ∃ a, Uf (m : Int) tick x y z = some a ∧ AW a := by
  have e1 : Int.tmod (m : Int) 29 = ((m % 29 : Nat) : Int) := rfl
  have e2 : Int.tdiv ((m % 29 : Nat) : Int) 26 = ((m % 29 / 26 : Nat) : Int) := rfl
  have e3 : Int.tdiv (m : Int) 7 = ((m / 7 : Nat) : Int) := rfl
  have e4 : Int.tmod ((m / 7 : Nat) : Int) 8 = ((m / 7 % 8 : Nat) : Int) := rfl
  unfold Uf
  rw [e1, e2, e3, wi64 (n := ((m / 7 : Nat) : Int)) (by omega) (by omega), e4]
  rw [wi64 (n := ((m % 29 / 26 : Nat) : Int)) (by omega) (by omega), wi64 (n := ((m % 29 / 26 : Nat) : Int) * 3) (by omega) (by omega), wi64 (n := 6 + ((m % 29 / 26 : Nat) : Int) * 3) (by omega) (by omega)]
  rw [if_pos (dT (by omega)), if_pos (dT (by omega))]
  have hs := shl8 ⟨m / 7 % 8, by omega⟩
  exact ⟨_, rfl, ⟨⟨⟨rfl, rfl, hy, hz⟩, wf0, wf0, hx⟩, hs, ht⟩⟩
theorem act_ok {m : Nat} (hm : m < 200000) {tick : Int} (ht : 0 ≤ tick ∧ tick < 18446744073709551616) : ∃ a, ZO (m : Int) tick = some a ∧ AW a := by
  unfold ZO
  split
  · exact act_j1 hm ht (by omega) (by omega) (by omega)
  · exact act_j1 hm ht (by rw [wu8]; omega) (by rw [wu16]; omega) (by omega)
theorem knb {nv : Nat} (hn : nv < 100) : UB (Xg.mk (IntKind.i64.wrap (1 + (Int.tmod (nv : Int) 6))) (IntKind.u64.wrap (IntKind.i64.wrap (1 + (Int.tmod (nv : Int) 9)))) (IntKind.u64.wrap (IntKind.i64.wrap (1 + (Int.tmod (IntKind.i64.wrap ((nv : Int) * 3)) 40)))) (IntKind.u64.wrap (IntKind.i64.wrap (1 + (Int.tmod (nv : Int) 7)))) (IntKind.u64.wrap (IntKind.i64.wrap (1 + (Int.tmod (IntKind.i64.wrap ((nv : Int) * 37)) 2000))))) := by
  refine ⟨?_, ?_⟩
  · show 0 ≤ IntKind.u64.wrap _ ∧ IntKind.u64.wrap _ < _
    rw [wu64]; omega
  · show 0 ≤ IntKind.u64.wrap _ ∧ IntKind.u64.wrap _ < _
    rw [wu64]; omega
theorem kn_all {tick : Int} (ht : 0 ≤ tick ∧ tick < 18446744073709551616) {b : Xg} (ub : UB b) {lv : List XF} (hw : ∀ a ∈ lv, AW a) : Jc tick b lv = some true ∧ Jf b lv = some true ∧ ∀ tk : Int, 0 ≤ tk ∧ tk < 256 → Ji b lv tk = some true :=
  ⟨plays_eq ht ub hw, keeps_eq ub.a.1 ub.i.1 (fun a ha => ⟨(hw a ha).pw, (hw a ha).tk⟩), fun tk htk => ticks_eq (fun a ha => ⟨(hw a ha).pw, (hw a ha).tk.1⟩) htk⟩
theorem kn_L2 {nv : Nat} (hn : nv < 100) (rec : Int → Int → Option Bool) : ∀ (f i k : Nat) (lv : List XF) (tick : Int), k < 100003 → lv.length = i → (∀ a ∈ lv, AW a) → 0 ≤ tick ∧ tick < 18446744073709551616 → i ≤ 50 → 50 < f + i →
    ∃ k2 : Nat, k2 < 100003 ∧ Z8 (nv : Int) rec f (k : Int) lv tick (i : Int) = rec (k2 : Int) ((nv + 1 : Nat) : Int)
  | 0, i, k, lv, tick, _, _, _, _, h1, h2 => by omega
  | f + 1, i, k, lv, tick, hk, hl, hw, ht, h1, h2 => by
    show ∃ k2 : Nat, k2 < 100003 ∧ JK (Z8 (nv : Int) rec f) (nv : Int) rec (k : Int) lv tick (i : Int) = _
    unfold JK
    by_cases hi : i < 50
    · have ht2 : 0 ≤ IntKind.u64.wrap (tick + (IntKind.u64.wrap (Int.tmod (k : Int) 4))) ∧ IntKind.u64.wrap (tick + (IntKind.u64.wrap (Int.tmod (k : Int) 4))) < 18446744073709551616 := by rw [wu64 (tick + _)]; omega
      obtain ⟨a, ha, wa⟩ := act_ok (m := k) (by omega) ht2
      have e1 : Int.tmod (IntKind.i64.wrap ((IntKind.i64.wrap ((IntKind.i64.wrap ((k : Int) * 31)) + (IntKind.i64.wrap (7 * (i : Int))))) + 11)) 100003 = (((k * 31 + 7 * i + 11) % 100003 : Nat) : Int) := by
        rw [wi64 (n := (k : Int) * 31) (by omega) (by omega), wi64 (n := 7 * (i : Int)) (by omega) (by omega), wi64 (n := (k : Int) * 31 + 7 * (i : Int)) (by omega) (by omega), wi64 (by omega) (by omega)]
        rfl
      rw [if_pos (dT (by omega)), ha, Option.bind_some, if_pos (limk (by simp; omega)), e1, nx4 (by omega)]
      exact kn_L2 hn rec f (i + 1) _ _ _ (Nat.mod_lt _ (by omega)) (by simp [hl]) (fun x hx => by
        rcases List.mem_append.1 hx with hx | hx
        · exact hw x hx
        · rw [List.mem_singleton.1 hx]; exact wa) ht2 (by omega) (by omega)
    · have hi2 : i = 50 := by omega
      subst hi2
      have ub := knb hn
      obtain ⟨e1, e2, e3⟩ := kn_all (tick := IntKind.u64.wrap (Int.tmod (nv : Int) 3)) (by rw [wu64]; omega) ub hw
      have hg : gcut lv 0 20 = some ((lv.drop (0 : Int).toNat).take ((20 : Int).toNat - (0 : Int).toNat)) := gcut_in (by omega) (by omega) (by omega)
      obtain ⟨_, _, e4⟩ := kn_all (tick := 0) (by omega) ub (lv := (lv.drop (0 : Int).toNat).take ((20 : Int).toNat - (0 : Int).toNat)) (fun a ha => hw a (List.mem_of_mem_drop (List.mem_of_mem_take ha)))
      refine ⟨k, hk, ?_⟩
      rw [if_neg (by decide), e1, Option.bind_some, if_neg (by decide), e2, Option.bind_some, if_neg (by decide), hg, Option.bind_some, e4 _ (by rw [wu8]; omega), Option.bind_some]
      unfold ZW
      rw [if_neg (by decide), nx4 (by omega)]
abbrev edgs : List Xg := [(Xg.mk 0 0 0 0 0), (Xg.mk 1 1 1 1 0), (Xg.mk 4097 1 1 1 1), (Xg.mk 4096 18446744073709551615 18446744073709551615 18446744073709551615 18446744073709551615), (Xg.mk (-9223372036854775808) 1 1 1 1), (Xg.mk 1 2 18446744073709551615 9 18446744073709551615)]
theorem edgs_ub : ∀ b ∈ edgs, UB b := fun b hb => by
  have h : ∀ b ∈ edgs, (0 ≤ b.XI ∧ b.XI < 18446744073709551616) ∧ (0 ≤ b.XA ∧ b.XA < 18446744073709551616) := by decide
  exact ⟨(h b hb).1, (h b hb).2⟩
abbrev gon : XF := XF.mk 5 (XC.mk (Xe.mk (Xd.mk false (List.replicate 16 0)) (Xd.mk false (List.replicate 16 0)) 0 0 0) 0 0 false) 0 18446744073709551615
theorem gon_w : AW gon := ⟨⟨⟨rfl, rfl, by decide, by decide⟩, wf0, wf0, by decide⟩, by decide, by decide⟩
theorem kn_L3 : ∀ (f i : Nat), i ≤ 6 → 6 < f + i → Zq f (i : Int) = some true
  | 0, i, h1, h2 => by omega
  | f + 1, i, h1, h2 => by
    show JV (Zq f) (i : Int) = _
    unfold JV
    by_cases hi : i < 6
    · obtain ⟨b, hb⟩ : ∃ b, edgs[i]? = some b := ⟨_, List.getElem?_eq_getElem (l := edgs) hi⟩
      have ub := edgs_ub b (List.mem_of_getElem? hb)
      have hg := gidx_nat hb
      obtain ⟨a1, ha1, w1⟩ := act_ok (m := 10) (by omega) (tick := IntKind.u64.wrap (18446744073709551615 - 1)) (by decide)
      obtain ⟨a2, ha2, w2⟩ := act_ok (m := 11) (by omega) (tick := IntKind.u64.wrap (18446744073709551615 - 1)) (by decide)
      obtain ⟨a3, ha3, w3⟩ := act_ok (m := 12) (by omega) (tick := 18446744073709551615) (by decide)
      obtain ⟨a4, ha4, w4⟩ := act_ok (m := 10) (by omega) (tick := 3) (by decide)
      obtain ⟨e1, e2, e3⟩ := kn_all (tick := IntKind.u64.wrap (18446744073709551615 - 2)) (by decide) ub (lv := [a1, a2, gon, a3, a4, gon]) (fun a ha => by
        simp only [List.mem_cons, List.not_mem_nil, or_false] at ha
        rcases ha with rfl | rfl | rfl | rfl | rfl | rfl
        · exact w1
        · exact w2
        · exact gon_w
        · exact w3
        · exact w4
        · exact gon_w)
      have hlt : (i : Int) < ((edgs.length : Nat) : Int) := by show (i : Int) < 6; omega
      rw [if_pos (dT hlt)]
      show (ZO ((10 : Nat) : Int) _).bind _ = _
      rw [ha1, Option.bind_some]
      show (ZO ((11 : Nat) : Int) _).bind _ = _
      rw [ha2, Option.bind_some]
      show (ZO ((12 : Nat) : Int) _).bind _ = _
      rw [ha3, Option.bind_some]
      show (ZO ((10 : Nat) : Int) _).bind _ = _
      rw [ha4, Option.bind_some, hg, Option.bind_some, e1, Option.bind_some, if_neg (by decide), Option.bind_some, e2, Option.bind_some, if_neg (by decide), Option.bind_some, e3 9 (by decide), Option.bind_some]
      unfold ZT
      rw [if_neg (by decide), nx4 (by omega)]
      exact kn_L3 f (i + 1) (by omega) (by omega)
    · have hi2 : i = 6 := by omega
      subst hi2
      obtain ⟨a, ha, _⟩ := act_ok (m := 1) (by omega) (tick := 1) (by decide)
      rw [if_neg (by decide)]
      show (ZO ((1 : Nat) : Int) _).bind _ = _
      rw [ha, Option.bind_some, none_eq, Option.bind_some, if_pos rfl, works_eq]
      rfl
theorem kn_L1 : ∀ (f nv k : Nat), k < 100003 → nv ≤ 100 → 100 < f + nv → Yr f (k : Int) (nv : Int) = some true
  | 0, nv, k, hk, h1, h2 => by omega
  | f + 1, nv, k, hk, h1, h2 => by
    show JX (Yr f) (k : Int) (nv : Int) = _
    unfold JX
    by_cases hi : nv < 100
    · rw [if_pos (dT (by omega))]
      obtain ⟨k2, hk2, e⟩ := kn_L2 hi (Yr f) fuel0 0 k [] 0 hk rfl (fun a ha => by cases ha) (by omega) (by omega) (by unfold fuel0; omega)
      exact e.trans (kn_L1 f (nv + 1) k2 hk2 (by omega) (by omega))
    · rw [if_neg (dF (by omega))]
      exact kn_L3 fuel0 0 (by omega) (by unfold fuel0; omega)
theorem known_eq : Va = some true := kn_L1 fuel0 0 1 (by omega) (by omega) (by unfold fuel0; omega)
end Go.Proofs.YtkpnocgfhipidaaGreat
