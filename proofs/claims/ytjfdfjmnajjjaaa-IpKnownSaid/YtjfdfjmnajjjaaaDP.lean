/- The plain law of the chapter on IP's headers: what was put is parsed as it was. No program's code is named here. -/
import Derived.Test.YtjfdfjmnajjjaaaCP
set_option linter.unusedVariables false
namespace Go.Proofs.Ytjfdfjmnajjjaaa
open Go Go.Ox Go.RowKit

theorem take_l {α : Type} {a b : List α} {n : Nat} (h : a.length = n) : (a ++ b).take n = a := by subst h; simp
theorem drop_l {α : Type} {a b : List α} {n : Nat} (h : a.length = n) : (a ++ b).drop n = b := by subst h; simp
theorem rgt_of {h : T_ip_Header} (hr : rgt h = true) : h.f_Frag ≤ 8191 ∧ h.f_Options.length % 4 = 0 ∧ h.f_Options.length ≤ 40 ∧ (20 + h.f_Options.length : Int) ≤ h.f_Total := by simpa [rgt] using hr
theorem st_tl (h : T_ip_Header) (s : Int) (tl : List Int) : st h s ++ tl = (64 + (20 + (h.f_Options.length : Int)) / 4) % 256 :: h.f_TOS :: h.f_Total / 256 % 256 :: h.f_Total % 256 :: h.f_ID / 256 % 256 :: h.f_ID % 256 :: flg h / 256 % 256 :: flg h % 256 :: h.f_TTL :: h.f_Proto :: s / 256 % 256 :: s % 256 :: (h.f_Src ++ (h.f_Dst ++ (h.f_Options ++ tl))) := by
  simp [st]
theorem st_parse {h : T_ip_Header} (w : WH h) (hr : rgt h = true) {s : Int} (hs : 0 ≤ s ∧ s < 65536) (hz : ws (st h s) % 65535 = 0) (tl : List Int) :
    pr (st h s ++ tl) = (h, 20 + (h.f_Options.length : Int), 0) ∧ w2 (st h s ++ tl) 10 = s ∧ w2 (st h s ++ tl) 8 = h.f_TTL * 256 + h.f_Proto := by
  obtain ⟨r1, r2, r3, r4⟩ := rgt_of hr
  have ht := w.total; have hi := w.id; have hf := flg_bd w hr
  have hlen : (st h s ++ tl).length = 20 + h.f_Options.length + tl.length := by rw [List.length_append, st_len w]
  have h0 : (st h s ++ tl).getD 0 0 = 64 + (20 + (h.f_Options.length : Int)) / 4 := by
    rw [st_tl]; show (64 + (20 + (h.f_Options.length : Int)) / 4) % 256 = _; omega
  have hn : nn (st h s ++ tl) = 20 + h.f_Options.length := by unfold nn; rw [h0]; omega
  have h6 : w2 (st h s ++ tl) 6 = flg h := by rw [st_tl]; show flg h / 256 % 256 * 256 + flg h % 256 = _; omega
  have h2 : w2 (st h s ++ tl) 2 = h.f_Total := by rw [st_tl]; show h.f_Total / 256 % 256 * 256 + h.f_Total % 256 = _; omega
  have h4 : w2 (st h s ++ tl) 4 = h.f_ID := by rw [st_tl]; show h.f_ID / 256 % 256 * 256 + h.f_ID % 256 = _; omega
  have htk : (st h s ++ tl).take (20 + h.f_Options.length) = st h s := take_l (st_len w s)
  refine ⟨?_, ?_, ?_⟩
  · unfold pr
    rw [if_neg (by omega), if_neg (by rw [h0]; omega), hn, if_neg (by omega), if_neg (by omega), h6, h2, if_neg (by omega), htk, if_neg (by omega)]
    have d12 : (st h s ++ tl).drop 12 = h.f_Src ++ (h.f_Dst ++ (h.f_Options ++ tl)) := by rw [st_tl]; rfl
    have d16 : (st h s ++ tl).drop 16 = h.f_Dst ++ (h.f_Options ++ tl) := by rw [show 16 = 12 + 4 from rfl, ← List.drop_drop, d12, drop_l w.srcl]
    have d20 : (st h s ++ tl).drop 20 = h.f_Options ++ tl := by rw [show 20 = 16 + 4 from rfl, ← List.drop_drop, d16, drop_l w.dstl]
    have e : hd (st h s ++ tl) (20 + h.f_Options.length) = h := by
      unfold hd
      rw [h2, h4, h6, d12, d16, d20, take_l w.srcl, take_l w.dstl, take_l (n := 20 + h.f_Options.length - 20) (by omega)]
      have a1 : (st h s ++ tl).getD 1 0 = h.f_TOS := by rw [st_tl]; rfl
      have a8 : (st h s ++ tl).getD 8 0 = h.f_TTL := by rw [st_tl]; rfl
      have a9 : (st h s ++ tl).getD 9 0 = h.f_Proto := by rw [st_tl]; rfl
      have f0 := w.frag
      have c1 : decide (flg h / 16384 % 2 = 1) = h.f_DF := by
        unfold flg; cases h.f_DF <;> cases h.f_MF <;> simp <;> omega
      have c2 : decide (flg h / 8192 % 2 = 1) = h.f_MF := by
        unfold flg; cases h.f_DF <;> cases h.f_MF <;> simp <;> omega
      have c3 : flg h % 8192 = h.f_Frag := by
        unfold flg; cases h.f_DF <;> cases h.f_MF <;> simp <;> omega
      rw [a1, a8, a9, c1, c2, c3]
    rw [e]
    simp
  · rw [st_tl]; show s / 256 % 256 * 256 + s % 256 = _; omega
  · rw [st_tl]; rfl
theorem ws_st (h : T_ip_Header) {s : Int} (hs : 0 ≤ s ∧ s < 65536) : ws (st h s) = ws (st h 0) + s := by
  have e := st_tl h s []; have e0 := st_tl h 0 []
  rw [List.append_nil] at e e0
  rw [e, e0]
  simp only [ws]
  omega
theorem ck_whole {h : T_ip_Header} (w : WH h) : ws (st h (ck h)) % 65535 = 0 := by
  have h0 := (ws_bd (st_wf w 0)).1
  have := fld_mod h0
  rw [ws_st h (ck_bd w)]
  unfold ck
  omega
theorem uncons {b : List Int} (h : 0 < b.length) : ∃ x r, b = x :: r := by
  cases b with
  | nil => simp at h
  | cons x r => exact ⟨x, r, rfl⟩
theorem parse_st {b : List Int} (hw : Wf 256 b) (h : (pr b).2.2 = 0) : b.take (nn b) = st (pr b).1 (w2 b 10) ∧ (pr b).1.f_Options.length = nn b - 20 ∧ 20 ≤ nn b := by
  obtain ⟨q1, q2, q3, q4, q5, q6, q7, q8⟩ := pr_ok h
  rw [q8]
  have hnn := nn_bd hw
  have hol : (hd b (nn b)).f_Options.length = nn b - 20 := by simp [hd]; omega
  refine ⟨?_, hol, q3⟩
  have y0 := gDb hw 0; have y1 := gDb hw 1; have y2 := gDb hw 2; have y3 := gDb hw 3; have y4 := gDb hw 4; have y5 := gDb hw 5; have y6 := gDb hw 6; have y7 := gDb hw 7; have y10 := gDb hw 10; have y11 := gDb hw 11
  have e := st_tl (hd b (nn b)) (w2 b 10) []
  rw [List.append_nil] at e
  rw [e, hol]
  clear e h
  generalize nn b = n at *
  have hfl : flg (hd b n) = w2 b 6 := by
    have z0 : 0 ≤ w2 b 6 := (w2_bd hw 6).1
    show (if decide (w2 b 6 / 16384 % 2 = 1) = true then (16384 : Int) else 0) + (if decide (w2 b 6 / 8192 % 2 = 1) = true then (8192 : Int) else 0) + w2 b 6 % 8192 = w2 b 6
    simp only [decide_eq_true_eq]
    split <;> split <;> omega
  rw [hfl]
  obtain ⟨k, rfl⟩ : ∃ k, n = 4 + (4 + k) + 12 := ⟨n - 20, by omega⟩
  have f1 : (b.drop 12).take (4 + (4 + k)) = (b.drop 12).take 4 ++ ((b.drop 16).take 4 ++ (b.drop 20).take k) := by
    rw [List.take_add, List.take_add, List.drop_drop, List.drop_drop]
  show _ = _ :: b.getD 1 0 :: w2 b 2 / 256 % 256 :: w2 b 2 % 256 :: w2 b 4 / 256 % 256 :: w2 b 4 % 256 :: w2 b 6 / 256 % 256 :: w2 b 6 % 256 :: b.getD 8 0 :: b.getD 9 0 :: w2 b 10 / 256 % 256 :: w2 b 10 % 256 :: ((b.drop 12).take 4 ++ ((b.drop 16).take 4 ++ ((b.drop 20).take (4 + (4 + k) + 12 - 20) ++ [])))
  have f0 : b.getD 0 0 = (64 + (20 + ((4 + (4 + k) + 12 - 20 : Nat) : Int)) / 4) % 256 := by omega
  have f2 : w2 b 2 / 256 % 256 = b.getD 2 0 := by show (b.getD 2 0 * 256 + b.getD 3 0) / 256 % 256 = _; omega
  have f3 : w2 b 2 % 256 = b.getD 3 0 := by show (b.getD 2 0 * 256 + b.getD 3 0) % 256 = _; omega
  have f4 : w2 b 4 / 256 % 256 = b.getD 4 0 := by show (b.getD 4 0 * 256 + b.getD 5 0) / 256 % 256 = _; omega
  have f5 : w2 b 4 % 256 = b.getD 5 0 := by show (b.getD 4 0 * 256 + b.getD 5 0) % 256 = _; omega
  have f6 : w2 b 6 / 256 % 256 = b.getD 6 0 := by show (b.getD 6 0 * 256 + b.getD 7 0) / 256 % 256 = _; omega
  have f7 : w2 b 6 % 256 = b.getD 7 0 := by show (b.getD 6 0 * 256 + b.getD 7 0) % 256 = _; omega
  have f10 : w2 b 10 / 256 % 256 = b.getD 10 0 := by show (b.getD 10 0 * 256 + b.getD 11 0) / 256 % 256 = _; omega
  have f11 : w2 b 10 % 256 = b.getD 11 0 := by show (b.getD 10 0 * 256 + b.getD 11 0) % 256 = _; omega
  rw [← f0, f2, f3, f4, f5, f6, f7, f10, f11, List.append_nil, show 4 + (4 + k) + 12 - 20 = k by omega, ← f1]
  clear f0 f1 f2 f3 f4 f5 f6 f7 f10 f11 hfl y0 y1 y2 y3 y4 y5 y6 y7 y10 y11 q8 q7 q6 q5 q2 hol hnn
  clear hw q4 q3
  obtain ⟨x0, b, rfl⟩ := uncons (b := b) (by omega)
  rw [List.length_cons] at q1
  obtain ⟨x1, b, rfl⟩ := uncons (b := b) (by omega)
  rw [List.length_cons] at q1
  obtain ⟨x2, b, rfl⟩ := uncons (b := b) (by omega)
  rw [List.length_cons] at q1
  obtain ⟨x3, b, rfl⟩ := uncons (b := b) (by omega)
  rw [List.length_cons] at q1
  obtain ⟨x4, b, rfl⟩ := uncons (b := b) (by omega)
  rw [List.length_cons] at q1
  obtain ⟨x5, b, rfl⟩ := uncons (b := b) (by omega)
  rw [List.length_cons] at q1
  obtain ⟨x6, b, rfl⟩ := uncons (b := b) (by omega)
  rw [List.length_cons] at q1
  obtain ⟨x7, b, rfl⟩ := uncons (b := b) (by omega)
  rw [List.length_cons] at q1
  obtain ⟨x8, b, rfl⟩ := uncons (b := b) (by omega)
  rw [List.length_cons] at q1
  obtain ⟨x9, b, rfl⟩ := uncons (b := b) (by omega)
  rw [List.length_cons] at q1
  obtain ⟨x10, b, rfl⟩ := uncons (b := b) (by omega)
  rw [List.length_cons] at q1
  obtain ⟨x11, b, rfl⟩ := uncons (b := b) (by omega)
  rfl
/-- Only the checksum's places hang on the checksum. -/
theorem st_get (h : T_ip_Header) (s s' : Int) : ∀ i : Nat, i ≠ 10 → i ≠ 11 → (st h s)[i]? = (st h s')[i]? := by
  intro i h0 h1
  have e := st_tl h s []; have e' := st_tl h s' []
  rw [List.append_nil] at e e'
  rw [e, e']
  match i, h0, h1 with
  | 0, _, _ => rfl
  | 1, _, _ => rfl
  | 2, _, _ => rfl
  | 3, _, _ => rfl
  | 4, _, _ => rfl
  | 5, _, _ => rfl
  | 6, _, _ => rfl
  | 7, _, _ => rfl
  | 8, _, _ => rfl
  | 9, _, _ => rfl
  | 10, h, _ => exact (h rfl).elim
  | 11, _, h => exact (h rfl).elim
  | i + 12, _, _ => rfl
theorem turned {h : T_ip_Header} (w : WH h) {s x v : Int} {p : Nat} (hwf : Wf 256 ((st h s).set p v)) (hx : (st h s)[p]? = some x) (hv : v ≠ x) (h10 : p ≠ 10) (h11 : p ≠ 11) (hok : (pr ((st h s).set p v)).2.2 = 0) : ¬ (pr ((st h s).set p v)).1 = h := by
  intro he
  obtain ⟨g1, g2, g3⟩ := parse_st hwf hok
  rw [he] at g1 g2
  have hlen : ((st h s).set p v).length = nn ((st h s).set p v) := by
    rw [List.length_set, st_len w]; omega
  rw [← hlen, List.take_length] at g1
  have hp : p < (st h s).length := (List.getElem?_eq_some_iff.1 hx).1
  have k1 := st_get h s (w2 ((st h s).set p v) 10) p h10 h11
  rw [← g1, hx, List.getElem?_set_self hp] at k1
  exact hv (Option.some.inj k1).symm

/-! ### Hops -/
def dn (h : T_ip_Header) : T_ip_Header := { h with f_TTL := h.f_TTL - 1 }
theorem hop_st {h : T_ip_Header} (w : WH h) (hr : rgt h = true) (h0 : h.f_TTL ≠ 0) {s : Int} (hs : 0 ≤ s ∧ s < 65536) (hz : ws (st h s) % 65535 = 0) {tl : List Int} (ht : Wf 256 tl) :
    hp (st h s ++ tl) = (st (dn h) (cs (st h s ++ tl)) ++ tl, 0) ∧ (0 ≤ cs (st h s ++ tl) ∧ cs (st h s ++ tl) < 65536) ∧ ws (st (dn h) (cs (st h s ++ tl))) % 65535 = 0 := by
  obtain ⟨p1, p2, p3⟩ := st_parse w hr hs hz tl
  have hwf : Wf 256 (st h s ++ tl) := (st_wf w s).app ht
  have a8 : (st h s ++ tl).getD 8 0 = h.f_TTL := by rw [st_tl]; rfl
  have hc := cs_bd hwf (by rw [a8]; exact h0)
  have htt := w.ttl; have hpp := w.proto
  have w8 : w2 ((st h s ++ tl).set 8 (h.f_TTL - 1)) 8 = (h.f_TTL - 1) * 256 + h.f_Proto := by rw [st_tl]; rfl
  have ec : cs (st h s ++ tl) = 65535 - fld (131070 - s - 256) := by
    unfold cs
    rw [p2, p3, a8, w8]
    congr 2
    omega
  refine ⟨?_, hc, ?_⟩
  · unfold hp
    rw [p1, if_neg (by simp), if_neg h0]
    unfold hpd
    rw [a8, st_tl (dn h)]
    generalize cs (st h s ++ tl) = c at *
    rw [st_tl h s]
    have e1 : c / 256 % 256 = c / 256 := by omega
    rw [e1]
    rfl
  · have hd0 : ws (st (dn h) (cs (st h s ++ tl))) = ws (st h s) - 256 - s + cs (st h s ++ tl) := by
      have e := st_tl h s []; have e' := st_tl (dn h) (cs (st h s ++ tl)) []
      rw [List.append_nil] at e e'
      generalize cs (st h s ++ tl) = c at *
      rw [e, e']
      have f : flg (dn h) = flg h := rfl
      rw [f]
      simp only [ws, dn]
      omega
    rw [hd0, ec]
    have := fld_mod (n := 131070 - s - 256) (by omega)
    omega
theorem wh_dn {h : T_ip_Header} (w : WH h) (h0 : h.f_TTL ≠ 0) : WH (dn h) := ⟨w.tos, w.total, w.id, w.frag, by have := w.ttl; show 0 ≤ h.f_TTL - 1 ∧ h.f_TTL - 1 < 256; omega, w.proto, w.srcl, w.src, w.dstl, w.dst, w.opt⟩

/-! ### IpBack -/
theorem gmax_bd (n : Nat) : 0 < gmax 1 (n : Int) ∧ gmax 1 (n : Int) ≤ n + 1 ∧ (0 < n → gmax 1 (n : Int) = n) := by
  unfold gmax
  split <;> omega
theorem back_eq {h : T_ip_Header} {bh : List Int} {a y : Int} (w : WH h) (hb : Wf 256 bh) (hy : 0 ≤ y ∧ y < 256) : F_law05_IpBack h bh a y = some true := by
  have key : ∀ b, (b = false → h.f_Options.length ≤ 100 ∧ bh.length ≤ 300) → F_law05_IpBack_j1 h bh a y b = some true := by
    intro b hbb
    unfold F_law05_IpBack_j1
    cases b with
    | true => rw [if_pos rfl, works_eq]; rfl
    | false =>
      obtain ⟨hl, hlb⟩ := hbb rfl
      rw [if_neg (by decide), put_eq w (by omega), Option.bind_some, right_eq w (by omega), Option.bind_some]
      unfold pt
      cases hr : rgt h with
      | false =>
        rw [if_neg Bool.false_ne_true]
        dsimp only
        rw [if_neg (by decide), if_pos (by decide), works_eq]; rfl
      | true =>
        have hk := ck_bd w
        have hwh := ck_whole w
        have hln := st_len w (ck h)
        have hwf := st_wf w (ck h)
        obtain ⟨p1, p2, p3⟩ := st_parse w hr hk hwh bh
        rw [if_pos rfl]
        dsimp only
        rw [if_neg (by decide), if_neg (by decide), join_eq (by omega) (by omega), Option.bind_some, parse_eq (hwf.app hb) (by simp; omega), Option.bind_some, p1]
        dsimp only
        rw [if_neg (by decide), if_neg (nF (by rw [hln]; omega)), same5_eq w w, Option.bind_some, sm_iff.2 rfl]
        unfold F_law05_IpBack_j2
        dsimp only
        rw [if_neg (by decide), join_eq (by simp) (by omega), Option.bind_some, List.nil_append]
        obtain ⟨g1, g2, g3⟩ := gmax_bd (st h (ck h)).length
        obtain ⟨p, q1, q2⟩ := pick_eq (i := a) (n := gmax 1 ((st h (ck h)).length : Int)) g1 (by omega)
        have hpl : p < (st h (ck h)).length := by have := g3 (by omega); omega
        have hx := List.getElem?_eq_getElem hpl
        have hxb := hwf.get hx
        rw [q1, Option.bind_some, gidx_nat hx, Option.bind_some, Option.bind_some, wu8, Int.toNat_natCast]
        have hwf' : Wf 256 ((st h (ck h)).set p (((st h (ck h))[p] + y) % 256)) := hwf.set p ⟨by omega, by omega⟩
        rw [parse_eq hwf' (by simp; omega), Option.bind_some]
        have fin : F_law05_IpBack_j3 h bh (st h (ck h) ++ bh) (h, 20 + (h.f_Options.length : Int), 0) false = some true := by
          unfold F_law05_IpBack_j3
          rw [if_neg (by decide), hop_eq (hwf.app hb) (by simp; omega), Option.bind_some]
          by_cases h0 : h.f_TTL = 0
          · have e : hp (st h (ck h) ++ bh) = ([], 51) := by unfold Proofs.Ytjfdfjmnajjjaaa.hp; rw [p1, if_neg (by simp), if_pos h0]
            rw [if_pos (by simpa using h0), e, if_pos (by decide), works_eq]; rfl
          · obtain ⟨s1, s2, s3⟩ := hop_st w hr h0 hk hwh hb
            have wd := wh_dn w h0
            have hrd : rgt (dn h) = true := hr
            obtain ⟨t1, _, _⟩ := st_parse wd hrd s2 s3 bh
            have hld := st_len wd (cs (st h (ck h) ++ bh))
            have htt := w.ttl
            have hdo : (dn h).f_Options.length = h.f_Options.length := rfl
            rw [if_neg (by simpa using h0), s1]
            dsimp only
            rw [parse_eq ((st_wf wd _).app hb) (by simp; omega), Option.bind_some, t1]
            dsimp only
            rw [if_neg (by decide), if_neg (by decide), if_neg (nF (by omega)), if_neg (nF (by simp; omega)), if_neg (nF (by rw [wu8i (by omega) (by omega)]; rfl)), right_eq wd (by omega), Option.bind_some, hrd]
            unfold F_law05_IpBack_j5
            rw [if_neg (by decide)]
            have e : (T_ip_Header.mk (dn h).f_TOS (dn h).f_Total (dn h).f_ID (dn h).f_DF (dn h).f_MF (dn h).f_Frag h.f_TTL (dn h).f_Proto (dn h).f_Src (dn h).f_Dst (dn h).f_Options) = h := rfl
            dsimp only
            rw [e, same5_eq w w, Option.bind_some, sm_iff.2 rfl, if_pos rfl, gcut_l (by omega) (by simp; omega), Option.bind_some, show (20 + (h.f_Options.length : Int)).toNat = 20 + h.f_Options.length by omega, drop_l (by omega), same_eq, Option.bind_some, if_pos rfl, works_eq]
            rfl
        by_cases h1 : 0 < y
        · rw [if_pos (dT h1)]
          by_cases h2 : p = 10
          · subst h2; rw [if_neg (by decide)]; exact fin
          · rw [if_pos (nT (by omega))]
            by_cases h3 : p = 11
            · subst h3; rw [if_neg (by decide)]; exact fin
            · rw [if_pos (nT (by omega))]
              by_cases h4 : (pr ((st h (ck h)).set p (((st h (ck h))[p] + y) % 256))).2.2 = 0
              · rw [if_pos (by simpa using h4), same5_eq (wh_pr hwf') w, Option.bind_some]
                have hne := turned w hwf' hx (by omega) h2 h3 h4
                have : sm (pr ((st h (ck h)).set p (((st h (ck h))[p] + y) % 256))).1 h = false := by
                  cases hs : sm (pr ((st h (ck h)).set p (((st h (ck h))[p] + y) % 256))).1 h with
                  | false => rfl
                  | true => exact (hne (sm_iff.1 hs)).elim
                rw [this]; exact fin
              · rw [if_neg (by simpa using h4)]; exact fin
        · rw [if_neg (dF h1)]; exact fin
  unfold F_law05_IpBack
  by_cases h1 : 100 < (h.f_Options.length : Int)
  · rw [if_pos (dT h1)]; exact key true (fun e => by cases e)
  · rw [if_neg (dF h1)]
    by_cases h2 : 300 < (bh.length : Int)
    · rw [decide_eq_true h2]; exact key true (fun e => by cases e)
    · rw [decide_eq_false h2]; exact key false (fun _ => ⟨by omega, by omega⟩)
end Go.Proofs.Ytjfdfjmnajjjaaa
