/- The plain law of the chapter on IP's headers: the closed statement. No program's code is named here. -/
import Derived.Test.YtjfdfjmnajjjaaaDP
set_option linter.unusedVariables false
namespace Go.Proofs.Ytjfdfjmnajjjaaa
open Go Go.Ox Go.RowKit

theorem whk {a b c g t p x y : Int} {d m : Bool} {o : List Int} (hg : 0 ≤ g ∧ g < 65536) (ho : Wf 256 o) : WH ⟨IntKind.u8.wrap a, IntKind.u16.wrap b, IntKind.u16.wrap c, d, m, g, IntKind.u8.wrap t, IntKind.u8.wrap p, [IntKind.u8.wrap x, 2, 3, 4], [255, IntKind.u8.wrap y, 0, 1], o⟩ := by
  have h8 : ∀ n : Int, 0 ≤ IntKind.u8.wrap n ∧ IntKind.u8.wrap n < 256 := fun n => by rw [wu8]; omega
  have h16 : ∀ n : Int, 0 ≤ IntKind.u16.wrap n ∧ IntKind.u16.wrap n < 65536 := fun n => by rw [wu16]; omega
  exact ⟨h8 _, h16 _, h16 _, hg, h8 _, h8 _, rfl, .cons (h8 _) (.cons ⟨by decide, by decide⟩ (.cons ⟨by decide, by decide⟩ (.cons ⟨by decide, by decide⟩ .nil))), rfl, .cons ⟨by decide, by decide⟩ (.cons (h8 _) (.cons ⟨by decide, by decide⟩ (.cons ⟨by decide, by decide⟩ .nil))), ho⟩
theorem gcut_wf {xs : List Int} {p q : Int} (hw : Wf 256 xs) (h0 : 0 ≤ p) (h1 : p ≤ q) (h2 : q ≤ xs.length) : ∃ c, gcut xs p q = some c ∧ Wf 256 c ∧ c.length ≤ xs.length :=
  ⟨_, gcut_in h0 h1 h2, (hw.drop _).take _, by simp; omega⟩
theorem gmin_bd (a b : Int) (ha : 0 ≤ a) (hb : 0 ≤ b) : 0 ≤ gmin a b ∧ gmin a b ≤ a := by
  unfold gmin; split <;> omega
theorem kn_L2 {more : List Int} {i x : Int} {rec : List Int → Int → Option Bool} {b : List Int} (hb : Wf 256 b) (hl : b.length ≤ 300) (hi : 0 ≤ i ∧ i < 100) : ∀ (k n : Nat), n ≤ b.length → b.length < k + n →
    F_law05_IpKnown_L2 more i rec x b k (n : Int) = rec (more ++ [x]) (IntKind.i64.wrap (i + 1))
  | 0, n, h1, h2 => by omega
  | k + 1, n, h1, h2 => by
    show F_law05_IpKnown_l2 (F_law05_IpKnown_L2 more i rec x b k) more i rec x b (n : Int) = _
    unfold F_law05_IpKnown_l2
    have hnx : F_law05_IpKnown_j2 (n : Int) (F_law05_IpKnown_L2 more i rec x b k) false = F_law05_IpKnown_L2 more i rec x b k (IntKind.i64.wrap ((n : Int) + 1)) := rfl
    by_cases h : n < b.length
    · have ih := kn_L2 (more := more) (i := i) (x := x) (rec := rec) hb hl hi k (n + 1) (by omega) (by omega)
      have e : IntKind.i64.wrap ((n : Int) + 1) = ((n + 1 : Nat) : Int) := by rw [wi64 (by omega) (by omega)]; omega
      rw [e] at hnx
      rw [if_pos (dT (by omega)), join_eq (by simp) (by omega), Option.bind_some, List.nil_append, gidx_nat (List.getElem?_eq_getElem h), Option.bind_some, Option.bind_some]
      by_cases h4 : Int.tmod i 4 = 0
      · obtain ⟨c, hc, hcw, _⟩ := gcut_wf (p := 0) (q := n) hb (by omega) (by omega) (by omega)
        rw [if_pos (by simpa using h4), hc, Option.bind_some, parses_eq hcw, Option.bind_some, if_neg (by decide), parses_eq (hb.set _ (by rw [wu8]; omega)), Option.bind_some]
        exact hnx.trans ih
      · rw [if_neg (by simpa using h4)]
        exact hnx.trans ih
    · rw [if_neg (dF (by omega)), parses_eq hb, Option.bind_some, if_neg (by decide)]
theorem kn_L1 : ∀ (k i : Nat) (more : List Int), i ≤ 44 → 44 < k + i → more.length = i → Wf 256 more → F_law05_IpKnown_L1 k more (i : Int) = some true
  | 0, i, more, h1, h2, _, _ => by omega
  | k + 1, i, more, h1, h2, h3, hw => by
    show F_law05_IpKnown_l1 (F_law05_IpKnown_L1 k) more (i : Int) = _
    unfold F_law05_IpKnown_l1
    by_cases h : i < 44
    · have e5 : IntKind.i64.wrap ((i : Int) * 5) = i * 5 := wi64 (by omega) (by omega)
      have e3 : IntKind.i64.wrap ((i : Int) * 3) = i * 3 := wi64 (by omega) (by omega)
      obtain ⟨x, hx, hxb⟩ : ∃ x, gidx ([1, 7, 4, 9, 2, 0] : List Int) (Int.tmod (IntKind.i64.wrap ((i : Int) * 5)) 6) = some x ∧ 0 ≤ x ∧ x < 256 := by
        rw [e5, tmod_nn (by omega)]
        refine ⟨_, gidx_in (by omega) (by simp; omega), ?_⟩
        exact (show Wf 256 [1, 7, 4, 9, 2, 0] from fun y hy => by simp at hy; omega) _ (List.getElem_mem _)
      have hw' : Wf 256 (more ++ [x]) := hw.app (.cons hxb .nil)
      have hlen : (more ++ [x]).length = i + 1 := by simp [h3]
      rw [if_pos (dT (by omega)), hx, Option.bind_some, if_pos (limk (by simp; omega))]
      generalize hm : more ++ [x] = m at *
      have q1 : Int.tmod (IntKind.i64.wrap ((i : Int) * 3)) 44 = (i * 3) % 44 := by rw [e3, tmod_nn (by omega)]
      have b1 := gmin_bd (m.length : Int) (Int.tmod (IntKind.i64.wrap ((i : Int) * 3)) 44) (by omega) (by rw [q1]; omega)
      obtain ⟨c1, hc1, w1, l1⟩ := gcut_wf hw' (Int.le_refl 0) b1.1 b1.2
      have q2 : IntKind.i64.wrap ((IntKind.i64.wrap (Int.tdiv (m.length : Int) 4)) * 4) = (m.length : Int) / 4 * 4 := by
        rw [tdiv_nn (by omega), wi64 (n := (m.length : Int) / 4) (by omega) (by omega), wi64 (by omega) (by omega)]
      have q3 : Int.tmod (IntKind.i64.wrap ((IntKind.i64.wrap (Int.tdiv (i : Int) 4)) * 4)) 44 = (i : Int) / 4 * 4 % 44 := by
        rw [tdiv_nn (by omega), wi64 (n := (i : Int) / 4) (by omega) (by omega), wi64 (by omega) (by omega), tmod_nn (by omega)]
      have b2 := gmin_bd (IntKind.i64.wrap ((IntKind.i64.wrap (Int.tdiv (m.length : Int) 4)) * 4)) (Int.tmod (IntKind.i64.wrap ((IntKind.i64.wrap (Int.tdiv (i : Int) 4)) * 4)) 44) (by rw [q2]; omega) (by rw [q3]; omega)
      obtain ⟨c2, hc2, w2', l2⟩ := gcut_wf hw' (Int.le_refl 0) b2.1 (by have := b2.2; omega)
      have hg : 0 ≤ IntKind.u16.wrap (IntKind.i64.wrap (8185 + (i : Int))) ∧ IntKind.u16.wrap (IntKind.i64.wrap (8185 + (i : Int))) < 65536 := by rw [wu16]; omega
      have hg2 : 0 ≤ Int.tmod (IntKind.u16.wrap (IntKind.i64.wrap (8185 + (i : Int)))) 8192 ∧ Int.tmod (IntKind.u16.wrap (IntKind.i64.wrap (8185 + (i : Int)))) 8192 < 65536 := by rw [tmod_nn hg.1]; omega
      obtain ⟨c3, hc3, w3, l3⟩ := gcut_wf (p := 0) (q := Int.tmod (i : Int) 9) hw' (Int.le_refl 0) (by rw [tmod_nn (by omega)]; omega) (by rw [tmod_nn (by omega)]; omega)
      have q4 : IntKind.i64.wrap (Int.tdiv (i : Int) 2) = (i : Int) / 2 := by rw [tdiv_nn (by omega), wi64 (by omega) (by omega)]
      obtain ⟨c4, hc4, w4, l4⟩ := gcut_wf (p := IntKind.i64.wrap (Int.tdiv (i : Int) 2)) (q := m.length) hw' (by rw [q4]; omega) (by rw [q4]; omega) (Int.le_refl _)
      rw [hc1, Option.bind_some, hc2, Option.bind_some, puts_eq (whk hg w1) (whk hg2 w2'), Option.bind_some, if_neg (by decide), puts_eq (whk hg2 w2') (whk hg2 w2'), Option.bind_some, if_neg (by decide), back_eq (whk hg w1) hw' ⟨by decide, by decide⟩, Option.bind_some, if_neg (by decide), hc3, Option.bind_some,
        back_eq (whk hg2 w2') w3 (by rw [wu8]; omega), Option.bind_some, if_neg (by decide), hc4, Option.bind_some, options_eq w4, Option.bind_some]
      unfold F_law05_IpKnown_j1
      have wk := whk (a := i) (b := IntKind.i64.wrap (60 + (i : Int))) (c := IntKind.i64.wrap ((i : Int) * 4000)) (t := Int.tmod i 4) (p := IntKind.i64.wrap ((i : Int) * 6)) (x := i) (y := i) (d := (Int.tmod (i : Int) 2) == 0) (m := (Int.tmod (i : Int) 3) == 0) hg2 w2'
      have hpl := pt_len wk (by show c2.length ≤ 100; omega)
      rw [if_neg (by decide), put_eq wk (by show c2.length < 1000000; omega), Option.bind_some, hm, join_eq (by omega) (by omega), Option.bind_some]
      have hpw : Wf 256 (pt ⟨IntKind.u8.wrap i, IntKind.u16.wrap (IntKind.i64.wrap (60 + (i : Int))), IntKind.u16.wrap (IntKind.i64.wrap ((i : Int) * 4000)), (Int.tmod (i : Int) 2) == 0, (Int.tmod (i : Int) 3) == 0, Int.tmod (IntKind.u16.wrap (IntKind.i64.wrap (8185 + (i : Int)))) 8192, IntKind.u8.wrap (Int.tmod i 4), IntKind.u8.wrap (IntKind.i64.wrap ((i : Int) * 6)), [IntKind.u8.wrap i, 2, 3, 4], [255, IntKind.u8.wrap i, 0, 1], c2⟩).1 := by
        unfold pt
        split
        · exact st_wf wk _
        · exact .nil
      have hpl2 : (pt ⟨IntKind.u8.wrap i, IntKind.u16.wrap (IntKind.i64.wrap (60 + (i : Int))), IntKind.u16.wrap (IntKind.i64.wrap ((i : Int) * 4000)), (Int.tmod (i : Int) 2) == 0, (Int.tmod (i : Int) 3) == 0, Int.tmod (IntKind.u16.wrap (IntKind.i64.wrap (8185 + (i : Int)))) 8192, IntKind.u8.wrap (Int.tmod i 4), IntKind.u8.wrap (IntKind.i64.wrap ((i : Int) * 6)), [IntKind.u8.wrap i, 2, 3, 4], [255, IntKind.u8.wrap i, 0, 1], c2⟩).1.length ≤ 100 := by
        unfold pt
        split
        · rw [st_len wk]; show 20 + c2.length ≤ 100; omega
        · simp
      refine Eq.trans (kn_L2 (b := _ ++ m) (hpw.app hw') (by rw [List.length_append]; omega) ⟨by omega, by omega⟩ fuel0 0 (Nat.zero_le _) (by rw [List.length_append]; unfold fuel0; omega)) ?_
      rw [hm, wi64 (by omega) (by omega), show ((i : Int) + 1) = ((i + 1 : Nat) : Int) by omega]
      exact kn_L1 k (i + 1) m (by omega) (by omega) hlen hw'
    · rw [if_neg (dF (by omega)), parses_eq .nil, Option.bind_some, if_pos rfl, options_eq (.cons ⟨by decide, by decide⟩ .nil), Option.bind_some, if_pos rfl, options_eq (.cons ⟨by decide, by decide⟩ (.cons ⟨by decide, by decide⟩ .nil)), Option.bind_some, if_pos rfl, options_eq (.cons ⟨by decide, by decide⟩ (.cons ⟨by decide, by decide⟩ .nil)), Option.bind_some, if_pos rfl, works_eq]
      rfl
theorem known_eq : F_law05_IpKnown = some true := kn_L1 fuel0 0 [] (by omega) (by unfold fuel0; omega) rfl .nil
end Go.Proofs.Ytjfdfjmnajjjaaa
