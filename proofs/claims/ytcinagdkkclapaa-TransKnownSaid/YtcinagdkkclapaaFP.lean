/- Plain text: Sound, and TransParses. -/
import Derived.Test.YtcinagdkkclapaaEP
set_option linter.unusedVariables false
namespace Go.Proofs.Ytcinagdkkclapaa
open Go Go.Ox Go.RowKit
/-! ### What is parsed -/
def tl (p : Int) (b : List Int) : Int := hd p + ((prs p b).1.f_Options.length : Int) + ((prs p b).1.f_Data.length : Int)
structure OK (p : Int) (b : List Int) : Prop where
 hp : hd p ≠ 0
 len : hd p ≤ tl p b ∧ tl p b ≤ b.length
 most : b.length ≤ 65535
 op : (prs p b).1.f_Options.length ≤ 40
 pr : (prs p b).1.f_Proto = p
theorem hd_cases {p : Int} (h : hd p ≠ 0) : p = 6 ∨ p = 17 ∨ p = 1 ∨ p = 58 := by
 unfold hd at h
 by_cases h6 : p = 6
 ·exact .inl h6
 ·rw [if_neg h6] at h
  by_cases h17 : p = 17
  ·exact .inr (.inl h17)
  ·rw [if_neg h17] at h
   by_cases h1 : p = 1 ∨ p = 58
   ·exact .inr (.inr h1)
   ·rw [if_neg h1] at h; exact (h rfl).elim
theorem prs_ok {p : Int} {b : List Int} (hw : Wf 256 b) (h : (prs p b).2 = 0) : OK p b := by
 have h0 : hd p ≠ 0 := fun h0 => by unfold prs at h; rw [if_pos h0] at h; cases h
 have hs : ¬ (b.length : Int) < hd p := fun hs => by unfold prs at h; rw [if_neg h0, if_pos hs] at h; cases h
 have hg : ¬ 65535 < b.length := fun hg => by unfold prs at h; rw [if_neg h0, if_neg hs, if_pos hg] at h; cases h
 rcases hd_cases h0 with rfl | rfl | hp
 ·have ht := tn_bd hw
  have g1 : ¬ tn b < 20 := fun g1 => by unfold prs at h; rw [if_neg h0, if_neg hs, if_neg hg, if_pos rfl, if_pos g1] at h; cases h
  have g2 : ¬ (b.length : Int) < tn b := fun g2 => by unfold prs at h; rw [if_neg h0, if_neg hs, if_neg hg, if_pos rfl, if_neg g1, if_pos g2] at h; cases h
  have e : prs 6 b = (⟨6, nm b 0 2, nm b 2 2, nm b 4 4, nm b 8 4, nm b 13 1, nm b 14 2, nm b 18 2, (b.drop 20).take ((tn b).toNat - 20), 0, 0, b.drop (tn b).toNat⟩, 0) := by unfold prs; rw [if_neg h0, if_neg hs, if_neg hg, if_pos rfl, if_neg g1, if_neg g2]
  have eo : (prs 6 b).1.f_Options.length = (tn b).toNat - 20 := by rw [e]; simp; omega
  have ed : (prs 6 b).1.f_Data.length = b.length - (tn b).toNat := by rw [e]; simp
  refine ⟨h0, ?_, by omega, by omega, by rw [e]⟩
  unfold tl
  rw [eo, ed, hd6]
  omega
 ·have ht := nm2 hw 4
  have g1 : ¬ nm b 4 2 < 8 := fun g1 => by unfold prs at h; rw [if_neg h0, if_neg hs, if_neg hg, if_neg (show ¬ (17 : Int) = 6 by decide), if_pos rfl, if_pos g1] at h; cases h
  have g2 : ¬ (b.length : Int) < nm b 4 2 := fun g2 => by unfold prs at h; rw [if_neg h0, if_neg hs, if_neg hg, if_neg (show ¬ (17 : Int) = 6 by decide), if_pos rfl, if_neg g1, if_pos g2] at h; cases h
  have e : prs 17 b = (⟨17, nm b 0 2, nm b 2 2, 0, 0, 0, 0, 0, [], 0, 0, (b.drop 8).take ((nm b 4 2).toNat - 8)⟩, 0) := by unfold prs; rw [if_neg h0, if_neg hs, if_neg hg, if_neg (show ¬ (17 : Int) = 6 by decide), if_pos rfl, if_neg g1, if_neg g2]
  have eo : (prs 17 b).1.f_Options.length = 0 := by rw [e]; rfl
  have ed : (prs 17 b).1.f_Data.length = (nm b 4 2).toNat - 8 := by rw [e]; simp; omega
  refine ⟨h0, ?_, by omega, by omega, by rw [e]⟩
  unfold tl
  rw [eo, ed, hd17]
  omega
 ·have n6 : ¬ p = 6 := by omega
  have n17 : ¬ p = 17 := by omega
  have e4 : hd p = 4 := by unfold hd; rw [if_neg n6, if_neg n17, if_pos hp]
  have e : prs p b = (⟨p, 0, 0, 0, 0, 0, 0, 0, [], nm b 0 1, nm b 1 1, b.drop 4⟩, 0) := by unfold prs; rw [if_neg h0, if_neg hs, if_neg hg, if_neg n6, if_neg n17]
  have eo : (prs p b).1.f_Options.length = 0 := by rw [e]; rfl
  have ed : (prs p b).1.f_Data.length = b.length - 4 := by rw [e]; simp
  refine ⟨h0, ?_, by omega, by omega, by rw [e]⟩
  unfold tl
  rw [eo, ed, e4]
  omega
/-! ### Sound -/
def ct (p : Int) (b : List Int) : List Int := b.take (tl p b).toNat
def non (p : Int) (src c : List Int) : Bool := (p == 17) && (((src.length : Int) == 4) && ((c.getD 6 0 == 0) && (c.getD 7 0 == 0)))
def snd (p : Int) (b src dst : List Int) : Bool :=
 if (prs p b).2 = 0 then (if (pso p (ct p b).length src dst).2 = true then non p src (ct p b) || (ws ((pso p (ct p b).length src dst).1 ++ ct p b) % 65535 == 0) else false) else false
theorem ct_len {p : Int} {b : List Int} (o : OK p b) : ((ct p b).length : Int) = tl p b := by
 have h1 := o.len; have h2 : 4 ≤ hd p := by rcases hd_cases o.hp with rfl | rfl | rfl | rfl <;> decide
 unfold ct
 rw [List.length_take, Nat.min_eq_left (by omega)]
 omega
theorem ct_wf {p : Int} {b : List Int} (hw : Wf 256 b) : Wf 256 (ct p b) := fun x hx => hw x (List.mem_of_mem_take hx)
theorem gidxD {c : List Int} {i : Nat} (h : i < c.length) : gidx c (i : Int) = some (c.getD i 0) := by
 rw [gidx_nat (List.getElem?_eq_getElem h)]
 simp [List.getD, h]
/-- The end of Sound, alike for all protocols. -/
theorem snd_end {p : Int} {b src dst : List Int} (hp : 0 ≤ p ∧ p < 256) (hw : Wf 256 b) (a : AD src dst) (o : OK p b) (h0 : (prs p b).2 = 0) {t : Int} (ht : t = tl p b) :
  ((gcut b 0 t).bind fun cut => (F_trans_pseudo p (cut.length : Int) src dst).bind fun y => if (!y.2) = true then some false else
   if (p == 17) = true then (if ((src.length : Int) == 4) = true then (gidx cut 6).bind fun x => if (x == 0) = true then (gidx cut 7).bind fun z => F_trans_Sound_j1 cut y (z == 0) else F_trans_Sound_j1 cut y false else F_trans_Sound_j1 cut y false) else F_trans_Sound_j1 cut y false) = some (snd p b src dst) := by
 have h4 : 4 ≤ hd p := by rcases hd_cases o.hp with rfl | rfl | rfl | rfl <;> decide
 have hl := o.len; have hm := o.most
 have hcl := ct_len o
 subst ht
 rw [gcut_in (Int.le_refl _) (by omega) (by omega), Option.bind_some]
 have ec : (b.drop (0 : Int).toNat).take ((tl p b).toNat - (0 : Int).toNat) = ct p b := by unfold ct; simp
 rw [ec, pseudo_eq hp (by omega) a.sl a.dl, Option.bind_some]
 have hcw := ct_wf (p := p) hw
 have haw : Wf 256 (pso p (ct p b).length src dst).1 := pso_wf hp a.sw a.dw
 have hal := pso_len p (ct p b).length a.sl a.dl
 have j : ∀ q : Bool, F_trans_Sound_j1 (ct p b) (pso p (ct p b).length src dst) q = some (q || (ws ((pso p (ct p b).length src dst).1 ++ ct p b) % 65535 == 0)) := fun q => by
  unfold F_trans_Sound_j1 F_trans_Sound_j2
  cases q with
  | true => rfl
  | false =>
   rw [if_neg (by decide), whole_eq (two_wf haw hcw) (by simp) (by simp [lens]; omega), Option.bind_some]
   have hfl : [(pso p (ct p b).length src dst).1, ct p b].flatten = (pso p (ct p b).length src dst).1 ++ ct p b := by simp
   rw [hfl, fldz (ws_bd (haw.app hcw)).1]
   simp
 unfold snd
 rw [if_pos h0]
 cases hq : (pso p (ct p b).length src dst).2 with
 | false => rfl
 | true =>
  rw [if_neg (by decide), if_pos rfl]
  unfold non
  cases h17 : (p == 17) with
  | false => rw [if_neg (by decide), j]; simp
  | true =>
   have e17 : p = 17 := by simpa using h17
   have h8 : 8 ≤ (ct p b).length := by
    have : hd p = 8 := by rw [e17]; rfl
    omega
   rw [if_pos rfl]
   cases hs4 : ((src.length : Int) == 4) with
   | false => rw [if_neg (by decide), j]; simp
   | true =>
    have i6 : gidx (ct p b) 6 = some ((ct p b).getD 6 0) := gidxD (i := 6) (by omega)
    have i7 : gidx (ct p b) 7 = some ((ct p b).getD 7 0) := gidxD (i := 7) (by omega)
    rw [if_pos rfl, i6, Option.bind_some]
    cases h6 : ((ct p b).getD 6 0 == 0) with
    | false => rw [if_neg (by decide), j]; simp
    | true => rw [if_pos rfl, i7, Option.bind_some, j]; simp
theorem sound_eq {p : Int} {b src dst : List Int} (hp : 0 ≤ p ∧ p < 256) (hw : Wf 256 b) (a : AD src dst) : F_trans_Sound p b src dst = some (snd p b src dst) := by
 unfold F_trans_Sound F_trans_protocols
 rw [tparse_eq hw, Option.bind_some]
 by_cases h0 : (prs p b).2 = 0
 ·have o := prs_ok hw h0
  have ho := o.op; have hl := o.len; have hm := o.most
  have h4 : 4 ≤ hd p := by rcases hd_cases o.hp with rfl | rfl | rfl | rfl <;> decide
  have hd_ : (prs p b).1.f_Data.length ≤ 65535 := by unfold tl at hl; omega
  have hn : ∀ h : Int, 0 ≤ h ∧ h ≤ 100 → IntKind.i64.wrap (IntKind.i64.wrap (h + ((prs p b).1.f_Options.length : Int)) + ((prs p b).1.f_Data.length : Int)) = h + ((prs p b).1.f_Options.length : Int) + ((prs p b).1.f_Data.length : Int) := fun h hh => wlen hh ⟨by omega, by omega⟩ ⟨by omega, by omega⟩
  rw [if_neg (by simpa using h0), Option.bind_some]
  by_cases h6 : p = 6
  ·rw [if_pos (by simpa using h6), hn 20 (by omega)]
   exact snd_end hp hw a o h0 (by unfold tl; rw [h6]; rfl)
  ·rw [if_neg (by simpa using h6)]
   by_cases h17 : p = 17
   ·rw [if_pos (by simpa using h17), hn 8 (by omega)]
    exact snd_end hp hw a o h0 (by unfold tl; rw [h17]; rfl)
   ·rw [if_neg (by simpa using h17)]
    by_cases h1 : p = 1
    ·rw [if_pos (by simpa using h1), hn 4 (by omega)]
     exact snd_end hp hw a o h0 (by unfold tl; rw [h1]; rfl)
    ·rw [if_neg (by simpa using h1)]
     by_cases h58 : p = 58
     ·rw [if_pos (by simpa using h58), hn 4 (by omega)]
      exact snd_end hp hw a o h0 (by unfold tl; rw [h58]; rfl)
     ·rcases hd_cases o.hp with h | h | h | h <;> omega
 ·rw [if_pos (by simpa using h0)]
  unfold snd
  rw [if_neg h0]
theorem prs_nl {p : Int} {b : List Int} (hw : Wf 256 b) (o : OK p b) : NL (prs p b).1 := by
 have := o.op; have hl := o.len; have := o.most
 unfold tl at hl
 have h4 : 4 ≤ hd p := by rcases hd_cases o.hp with rfl | rfl | rfl | rfl <;> decide
 exact ⟨by omega, by omega⟩
theorem rsound_eq {p : Int} {b src dst : List Int} (hp : 0 ≤ p ∧ p < 256) (hw : Wf 256 b) (a : AD src dst) : F_ref07_Sound p (strOfNums b) (strOfNums src) (strOfNums dst) = some (snd p b src dst) := by
 unfold F_ref07_Sound
 rw [rparse_eq hw, Option.bind_some]
 by_cases h0 : (prs p b).2 = 0
 ·have o := prs_ok hw h0
  have hl := o.len; have hm := o.most
  have h4 : 4 ≤ hd p := by rcases hd_cases o.hp with rfl | rfl | rfl | rfl <;> decide
  have hcl := ct_len o
  have hcw := ct_wf (p := p) hw
  have haw : Wf 256 (pso p (ct p b).length src dst).1 := pso_wf hp a.sw a.dw
  have hal := pso_len p (ct p b).length a.sl a.dl
  have el : F_ref07_Length (r7 (prs p b).1) = some (tl p b) := by
   rw [rlen_eq (prs_nl hw o), o.pr]; rfl
  rw [if_neg (by simpa using h0)]
  dsimp only
  rw [el, Option.bind_some, cS (Int.le_refl _) (by omega) (by omega), Option.bind_some]
  have ec : (b.drop (0 : Int).toNat).take ((tl p b).toNat - (0 : Int).toNat) = ct p b := by unfold ct; simp
  rw [ec, str_size, rpseudo_eq hp (by omega) a.sl a.dl, Option.bind_some]
  dsimp only
  have j : ∀ q : Bool, F_ref07_Sound_j1 (strOfNums (ct p b)) (strOfNums (pso p (ct p b).length src dst).1, (pso p (ct p b).length src dst).2) q = some (q || (ws ((pso p (ct p b).length src dst).1 ++ ct p b) % 65535 == 0)) := fun q => by
   unfold F_ref07_Sound_j1
   cases q with
   | true => rfl
   | false =>
    dsimp only
    rw [if_neg (by decide), str_app, str_size, str_size, str_size, if_pos (limk (by omega)), if_pos (limk (by simp; omega)), nums_str (haw.app hcw), rwhole_eq (haw.app hcw) (by simp; omega), Option.bind_some, fldz (ws_bd (haw.app hcw)).1]
    simp
  unfold snd
  rw [if_pos h0]
  cases hq : (pso p (ct p b).length src dst).2 with
  | false => rfl
  | true =>
   rw [hq] at j
   rw [if_neg (by decide), if_pos rfl, str_size]
   unfold non
   cases h17 : (p == 17) with
   | false => rw [if_neg (by decide), j]; simp
   | true =>
    have e17 : p = 17 := by simpa using h17
    have h8 : 8 ≤ (ct p b).length := by
     have : hd p = 8 := by rw [e17]; rfl
     omega
    rw [if_pos rfl]
    cases hs4 : ((src.length : Int) == 4) with
    | false => rw [if_neg (by decide), j]; simp
    | true =>
     have i6 : gidxS (strOfNums (ct p b)) 6 = some ((ct p b).getD 6 0) := by
      have := gS hcw (i := 6) (by omega)
      rw [show (ct p b).getD 6 0 = (ct p b)[6] by simp [List.getD, show 6 < (ct p b).length by omega]]
      exact this
     have i7 : gidxS (strOfNums (ct p b)) 7 = some ((ct p b).getD 7 0) := by
      have := gS hcw (i := 7) (by omega)
      rw [show (ct p b).getD 7 0 = (ct p b)[7] by simp [List.getD, show 7 < (ct p b).length by omega]]
      exact this
     rw [if_pos rfl, i6, Option.bind_some]
     cases h6 : ((ct p b).getD 6 0 == 0) with
     | false => rw [if_neg (by decide), j]; simp
     | true => rw [if_pos rfl, i7, Option.bind_some, j]; simp
 ·rw [if_pos (by simpa using h0)]
  unfold snd
  rw [if_neg h0]
/-! ### The law -/
theorem inc3_L (t : Int) (rec) : ∀ (f i : Nat) (b : List Int), i ≤ b.length → b.length < f + i → b.length < 1000000000 → F_law07_TransParses_L3 t rec f b (i : Int) = rec (IntKind.i64.wrap (t + 1))
 | 0, i, b, h1, h2, h3 => by omega
 | f + 1, i, b, h1, h2, h3 => by
  show F_law07_TransParses_l3 (F_law07_TransParses_L3 t rec f) t rec b (i : Int) = _
  unfold F_law07_TransParses_l3
  by_cases h : i < b.length
  ·rw [if_pos (dT (by omega)), gidx_nat (List.getElem?_eq_getElem h), Option.bind_some, Option.bind_some, show IntKind.i64.wrap ((i : Int) + 1) = ((i + 1 : Nat) : Int) by rw [wi64 (by omega) (by omega)]; omega]
   exact inc3_L t rec f (i + 1) _ (by rw [List.length_set]; omega) (by rw [List.length_set]; omega) (by rw [List.length_set]; omega)
  ·rw [if_neg (dF (by omega))]
theorem inc2_L (t : Int) (rec) (y : T_trans_Segment × Int) : ∀ (f i : Nat) (b : List Int), i ≤ b.length → b.length < f + i → b.length < 1000000000 → F_law07_TransParses_L2 t rec y f b (i : Int) = F_law07_TransParses_L3 t rec fuel0 y.1.f_Options 0
 | 0, i, b, h1, h2, h3 => by omega
 | f + 1, i, b, h1, h2, h3 => by
  show F_law07_TransParses_l2 (F_law07_TransParses_L2 t rec y f) t rec y b (i : Int) = _
  unfold F_law07_TransParses_l2
  by_cases h : i < b.length
  ·rw [if_pos (dT (by omega)), gidx_nat (List.getElem?_eq_getElem h), Option.bind_some, Option.bind_some, show IntKind.i64.wrap ((i : Int) + 1) = ((i + 1 : Nat) : Int) by rw [wi64 (by omega) (by omega)]; omega]
   exact inc2_L t rec y f (i + 1) _ (by rw [List.length_set]; omega) (by rw [List.length_set]; omega) (by rw [List.length_set]; omega)
  ·rw [if_neg (dF (by omega))]
theorem prs_lens (p : Int) {b : List Int} (hw : Wf 256 b) : (prs p b).1.f_Options.length < 1000000000 ∧ (prs p b).1.f_Data.length < 1000000000 := by
 unfold prs
 repeat' split
 all_goals first | exact ⟨by decide, by decide⟩ | (constructor <;> simp <;> omega)
theorem prs_wf (p : Int) {b : List Int} (hw : Wf 256 b) : Wf 256 (prs p b).1.f_Options ∧ Wf 256 (prs p b).1.f_Data := by
 have hd_ : ∀ n, Wf 256 (b.drop n) := fun n x hx => hw x (List.mem_of_mem_drop hx)
 have ht : ∀ n m, Wf 256 ((b.drop n).take m) := fun n m x hx => hw x (List.mem_of_mem_drop (List.mem_of_mem_take hx))
 unfold prs
 repeat' split
 all_goals first | exact ⟨Wf.nil, Wf.nil⟩ | exact ⟨ht _ _, hd_ _⟩ | exact ⟨Wf.nil, ht _ _⟩ | exact ⟨Wf.nil, hd_ _⟩
theorem parses_eq {p : Int} {b src dst : List Int} (hp : 0 ≤ p ∧ p < 256) (hw : Wf 256 b) (hs : Wf 256 src) (hd_ : Wf 256 dst) : F_law07_TransParses p b src dst = some true := by
 have bad : F_law07_TransParses_j1 p b src dst true = some true := by
  unfold F_law07_TransParses_j1
  rw [if_pos rfl, works_eq]; rfl
 have good : src.length ≤ 40 → dst.length ≤ 40 → F_law07_TransParses_j1 p b src dst false = some true := fun h1 h2 => by
  have a : AD src dst := ⟨h1, h2, hs, hd_⟩
  obtain ⟨l1, l2⟩ := prs_lens p hw
  obtain ⟨v1, v2⟩ := prs_wf p hw
  have step : ∀ (k : Nat) (t : Nat), t < 2 → F_law07_TransParses_l1 (F_law07_TransParses_L1 p b src dst (r7 (prs p b).1, (prs p b).2) k) p b src dst (r7 (prs p b).1, (prs p b).2) (t : Int) = F_law07_TransParses_L1 p b src dst (r7 (prs p b).1, (prs p b).2) k ((t + 1 : Nat) : Int) := fun k t ht => by
   unfold F_law07_TransParses_l1
   rw [if_pos (dT (by omega)), tparse_eq hw, Option.bind_some, if_neg (by simp), docs_eq, Option.bind_some, qseg_eq v1 v1 v2 v2, sm_refl]
   unfold F_law07_TransParses_j2
   rw [if_neg (by decide)]
   have i2 := inc2_L (t : Int) (F_law07_TransParses_L1 p b src dst (r7 (prs p b).1, (prs p b).2) k) (prs p b) fuel0 0 (prs p b).1.f_Data (by omega) (by unfold fuel0; omega) l2
   have i3 := inc3_L (t : Int) (F_law07_TransParses_L1 p b src dst (r7 (prs p b).1, (prs p b).2) k) fuel0 0 (prs p b).1.f_Options (by omega) (by unfold fuel0; omega) l1
   refine Eq.trans i2 (Eq.trans i3 ?_)
   rw [wi64 (by omega) (by omega)]
   rfl
  have last : ∀ rec, F_law07_TransParses_l1 rec p b src dst (r7 (prs p b).1, (prs p b).2) 2 = some true := fun rec => by
   unfold F_law07_TransParses_l1 F_law07_TransParses_j3
   rw [if_neg (by decide), sound_eq hp hw a, Option.bind_some, rsound_eq hp hw a, Option.bind_some, if_pos (by simp), if_pos (by simp), works_eq]
   rfl
  unfold F_law07_TransParses_j1
  rw [if_neg (by decide), rparse_eq hw, Option.bind_some]
  have e : ∀ k, F_law07_TransParses_L1 p b src dst (r7 (prs p b).1, (prs p b).2) (k + 3) 0 = some true := fun k => by
   show F_law07_TransParses_l1 (F_law07_TransParses_L1 p b src dst (r7 (prs p b).1, (prs p b).2) (k + 2)) p b src dst (r7 (prs p b).1, (prs p b).2) ((0 : Nat) : Int) = _
   rw [step _ 0 (by decide)]
   show F_law07_TransParses_l1 (F_law07_TransParses_L1 p b src dst (r7 (prs p b).1, (prs p b).2) (k + 1)) p b src dst (r7 (prs p b).1, (prs p b).2) ((1 : Nat) : Int) = _
   rw [step _ 1 (by decide)]
   exact last _
  exact e 1099511627773
 unfold F_law07_TransParses
 by_cases h0 : 400 < (b.length : Int)
 ·rw [if_pos (dT h0)]; exact bad
 ·rw [if_neg (dF h0)]
  by_cases h1 : 40 < (src.length : Int)
  ·rw [if_pos (dT h1)]; exact bad
  ·rw [if_neg (dF h1)]
   by_cases h2 : 40 < (dst.length : Int)
   ·rw [dT h2]; exact bad
   ·rw [decide_eq_false h2]; exact good (by omega) (by omega)
end Go.Proofs.Ytcinagdkkclapaa
