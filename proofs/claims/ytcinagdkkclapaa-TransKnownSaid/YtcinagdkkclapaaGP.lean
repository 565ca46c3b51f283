/- Plain text: TransBack. -/
import Derived.Test.YtcinagdkkclapaaFP
set_option linter.unusedVariables false
namespace Go.Proofs.Ytcinagdkkclapaa
open Go Go.Ox Go.RowKit
/-! ### What was put is parsed -/
theorem nm_at {b X Y : List Int} {p n : Nat} {v : Int} (hb : b = X ++ (put n v ++ Y)) (hp : X.length = p) (h0 : 0 ≤ v) (h1 : v < 256 ^ n) : nm b p n = v := by
 subst hb; subst hp
 unfold nm
 rw [List.drop_left, List.take_append_of_le_length (by rw [put_len]; exact Nat.le_refl _), List.take_of_length_le (by rw [put_len]; exact Nat.le_refl _)]
 exact val_put n v h0 h1
theorem put1' {v : Int} (h : 0 ≤ v ∧ v < 256) : [v] = put 1 v := (put1 h).symm
theorem st_length {s : T_trans_Segment} (r : RT s) (c : Int) : ((st s c).length : Int) = nn s := by
 unfold st nn
 rw [List.length_append, List.length_append, put_len]
 have h := sa_len r
 unfold sb
 by_cases h6 : s.f_Proto = 6
 ·rw [if_pos h6] at h ⊢
  simp only [List.length_append, put_len]
  rw [h6, hd6]; omega
 ·rw [if_neg h6] at h ⊢
  by_cases h17 : s.f_Proto = 17
  ·rw [if_pos h17] at h
   rw [h17, hd17, (r.udp h17).2.2.2.2.2.1]; simp; omega
  ·rw [if_neg h17] at h
   have h1 : s.f_Proto = 1 ∨ s.f_Proto = 58 := by rcases r.one with h | h | h | h <;> omega
   have e4 : hd s.f_Proto = 4 := by unfold hd; rw [if_neg h6, if_neg h17, if_pos h1]
   rw [e4, (r.icmp h1).2.2.2.2.2.1]; simp; omega
theorem back_parse {s : T_trans_Segment} (w : WS s) (r : RT s) {c : Int} (hc : 0 ≤ c ∧ c < 65536) : prs s.f_Proto (st s c) = (s, 0) := by
 have hlen := st_length r c
 have hnn := nn_rng r
 have hp := r.hpos
 have ho := r.le
 have h0 : ¬ hd s.f_Proto = 0 := by omega
 have hs : ¬ ((st s c).length : Int) < hd s.f_Proto := by rw [hlen]; unfold nn; omega
 have hg : ¬ 65535 < (st s c).length := by omega
 have k1 := w.sr; have k2 := w.ds; have k3 := w.sq; have k4 := w.ak; have k5 := w.fl; have k6 := w.wi; have k7 := w.ur; have k8 := w.ty; have k9 := w.co
 unfold prs
 rw [if_neg h0, if_neg hs, if_neg hg]
 by_cases h6 : s.f_Proto = 6
 ·obtain ⟨z1, z2⟩ := r.six h6
  have e : st s c = put 2 s.f_Src ++ (put 2 s.f_Dst ++ (put 4 s.f_Seq ++ (put 4 s.f_Ack ++ (put 1 (80 + 4 * (s.f_Options.length : Int)) ++ (put 1 s.f_Flags ++ (put 2 s.f_Window ++ (put 2 c ++ (put 2 s.f_Urgent ++ (s.f_Options ++ s.f_Data))))))))) := by
   unfold st sa sb
   rw [if_pos h6, if_pos h6, put1' k5, put1' (v := 80 + 4 * (s.f_Options.length : Int)) ⟨by omega, by omega⟩]
   simp only [List.append_assoc]
  have n1 : nm (st s c) 0 2 = s.f_Src := nm_at (X := []) (by rw [e]; rfl) rfl k1.1 (by rw [q2]; exact k1.2)
  have n2 : nm (st s c) 2 2 = s.f_Dst := nm_at (X := put 2 s.f_Src) (by rw [e]) (by simp [put_len]) k2.1 (by rw [q2]; exact k2.2)
  have n3 : nm (st s c) 4 4 = s.f_Seq := nm_at (X := put 2 s.f_Src ++ put 2 s.f_Dst) (by rw [e]; simp only [List.append_assoc]; rfl) (by simp [put_len]) k3.1 (by rw [q4]; exact k3.2)
  have n4 : nm (st s c) 8 4 = s.f_Ack := nm_at (X := put 2 s.f_Src ++ put 2 s.f_Dst ++ put 4 s.f_Seq) (by rw [e]; simp only [List.append_assoc]; rfl) (by simp [put_len]) k4.1 (by rw [q4]; exact k4.2)
  have n5 : nm (st s c) 12 1 = 80 + 4 * (s.f_Options.length : Int) := nm_at (X := put 2 s.f_Src ++ put 2 s.f_Dst ++ put 4 s.f_Seq ++ put 4 s.f_Ack) (by rw [e]; simp only [List.append_assoc]; rfl) (by simp [put_len]) (by omega) (by rw [q1]; omega)
  have n6 : nm (st s c) 13 1 = s.f_Flags := nm_at (X := put 2 s.f_Src ++ put 2 s.f_Dst ++ put 4 s.f_Seq ++ put 4 s.f_Ack ++ put 1 (80 + 4 * (s.f_Options.length : Int))) (by rw [e]; simp only [List.append_assoc]; rfl) (by simp [put_len]) k5.1 (by rw [q1]; exact k5.2)
  have n7 : nm (st s c) 14 2 = s.f_Window := nm_at (X := put 2 s.f_Src ++ put 2 s.f_Dst ++ put 4 s.f_Seq ++ put 4 s.f_Ack ++ put 1 (80 + 4 * (s.f_Options.length : Int)) ++ put 1 s.f_Flags) (by rw [e]; simp only [List.append_assoc]; rfl) (by simp [put_len]) k6.1 (by rw [q2]; exact k6.2)
  have n8 : nm (st s c) 18 2 = s.f_Urgent := nm_at (X := put 2 s.f_Src ++ put 2 s.f_Dst ++ put 4 s.f_Seq ++ put 4 s.f_Ack ++ put 1 (80 + 4 * (s.f_Options.length : Int)) ++ put 1 s.f_Flags ++ put 2 s.f_Window ++ put 2 c) (by rw [e]; simp only [List.append_assoc]; rfl) (by simp [put_len]) k7.1 (by rw [q2]; exact k7.2)
  have et : tn (st s c) = 20 + (s.f_Options.length : Int) := by unfold tn; rw [n5]; have := r.mod; omega
  have e20 : st s c = (put 2 s.f_Src ++ put 2 s.f_Dst ++ put 4 s.f_Seq ++ put 4 s.f_Ack ++ put 1 (80 + 4 * (s.f_Options.length : Int)) ++ put 1 s.f_Flags ++ put 2 s.f_Window ++ put 2 c ++ put 2 s.f_Urgent) ++ (s.f_Options ++ s.f_Data) := by rw [e]; simp only [List.append_assoc]
  have l20 : (put 2 s.f_Src ++ put 2 s.f_Dst ++ put 4 s.f_Seq ++ put 4 s.f_Ack ++ put 1 (80 + 4 * (s.f_Options.length : Int)) ++ put 1 s.f_Flags ++ put 2 s.f_Window ++ put 2 c ++ put 2 s.f_Urgent).length = 20 := by simp [put_len]
  have d1 : ((st s c).drop 20).take ((tn (st s c)).toNat - 20) = s.f_Options := by
   rw [et, e20, List.drop_left' l20, show (20 + (s.f_Options.length : Int)).toNat - 20 = s.f_Options.length by omega, List.take_left]
  have d2 : (st s c).drop (tn (st s c)).toNat = s.f_Data := by
   rw [et, e20, show (20 + (s.f_Options.length : Int)).toNat = 20 + s.f_Options.length by omega, ← List.drop_drop, List.drop_left' l20, List.drop_left]
  rw [if_pos h6, if_neg (by omega), if_neg (by rw [hlen, et]; unfold nn; rw [h6, hd6]; omega), n1, n2, n3, n4, n6, n7, n8, d1, d2]
  obtain ⟨a1, a2, a3, a4, a5, a6, a7, a8, a9, a10, a11, a12⟩ := s
  simp only at z1 z2 ⊢
  rw [z1, z2]
 ·rw [if_neg h6]
  by_cases h17 : s.f_Proto = 17
  ·obtain ⟨z1, z2, z3, z4, z5, z6, z7, z8⟩ := r.udp h17
   have hu := r.ulen h17
   have e : st s c = put 2 s.f_Src ++ (put 2 s.f_Dst ++ (put 2 (8 + (s.f_Data.length : Int)) ++ (put 2 c ++ s.f_Data))) := by
    unfold st sa sb
    rw [if_neg h6, if_pos h17, if_neg h6]
    simp only [List.append_assoc]
   have n1 : nm (st s c) 0 2 = s.f_Src := nm_at (X := []) (by rw [e]; rfl) rfl k1.1 (by rw [q2]; exact k1.2)
   have n2 : nm (st s c) 2 2 = s.f_Dst := nm_at (X := put 2 s.f_Src) (by rw [e]) (by simp [put_len]) k2.1 (by rw [q2]; exact k2.2)
   have n3 : nm (st s c) 4 2 = 8 + (s.f_Data.length : Int) := nm_at (X := put 2 s.f_Src ++ put 2 s.f_Dst) (by rw [e]; simp only [List.append_assoc]; rfl) (by simp [put_len]) (by omega) (by rw [q2]; omega)
   have e8_ : st s c = (put 2 s.f_Src ++ put 2 s.f_Dst ++ put 2 (8 + (s.f_Data.length : Int)) ++ put 2 c) ++ s.f_Data := by rw [e]; simp only [List.append_assoc]
   have l8 : (put 2 s.f_Src ++ put 2 s.f_Dst ++ put 2 (8 + (s.f_Data.length : Int)) ++ put 2 c).length = 8 := by simp [put_len]
   have d1 : ((st s c).drop 8).take ((8 + (s.f_Data.length : Int)).toNat - 8) = s.f_Data := by
    rw [e8_, List.drop_left' l8, List.take_of_length_le (by omega)]
   rw [if_pos h17, n3, if_neg (by omega), if_neg (by rw [hlen]; unfold nn; rw [h17, hd17]; omega), n1, n2, d1]
   obtain ⟨a1, a2, a3, a4, a5, a6, a7, a8, a9, a10, a11, a12⟩ := s
   simp only at z1 z2 z3 z4 z5 z6 z7 z8 ⊢
   rw [z1, z2, z3, z4, z5, z6, z7, z8]
  ·have h1 : s.f_Proto = 1 ∨ s.f_Proto = 58 := by rcases r.one with h | h | h | h <;> omega
   obtain ⟨z1, z2, z3, z4, z5, z6, z7, z8⟩ := r.icmp h1
   have e : st s c = put 1 s.f_Type ++ (put 1 s.f_Code ++ (put 2 c ++ s.f_Data)) := by
    unfold st sa sb
    rw [if_neg h6, if_neg h17, if_neg h6, put1' k8, put1' k9]
    simp only [List.append_assoc]
   have n1 : nm (st s c) 0 1 = s.f_Type := nm_at (X := []) (by rw [e]; rfl) rfl k8.1 (by rw [q1]; exact k8.2)
   have n2 : nm (st s c) 1 1 = s.f_Code := nm_at (X := put 1 s.f_Type) (by rw [e]) (by simp [put_len]) k9.1 (by rw [q1]; exact k9.2)
   have e4_ : st s c = (put 1 s.f_Type ++ put 1 s.f_Code ++ put 2 c) ++ s.f_Data := by rw [e]; simp only [List.append_assoc]
   have l4 : (put 1 s.f_Type ++ put 1 s.f_Code ++ put 2 c).length = 4 := by simp [put_len]
   have d1 : (st s c).drop 4 = s.f_Data := by rw [e4_, List.drop_left' l4]
   rw [if_neg h17, n1, n2, d1]
   obtain ⟨a1, a2, a3, a4, a5, a6, a7, a8, a9, a10, a11, a12⟩ := s
   simp only at z1 z2 z3 z4 z5 z6 z7 z8 ⊢
   rw [z1, z2, z3, z4, z5, z6, z7, z8]
/-! ### It is sound -/
theorem ws_app {a b : List Int} (h : a.length % 2 = 0) : ws (a ++ b) = ws a + ws b := by
 rw [← wsf_ws, wsf_app, wsf_ws, Nat.zero_add]
 obtain ⟨k, hk⟩ : ∃ k, a.length = 2 * k := ⟨a.length / 2, by omega⟩
 rw [hk]
 have : ∀ k : Nat, wsf (2 * k) b = wsf 0 b := fun k => by
  induction k with
  | zero => rfl
  | succ k ih => rw [show 2 * (k + 1) = 2 * k + 2 by omega, wsf_two, ih]
 rw [this, wsf_ws]
theorem ws_put2 {c : Int} (hc : 0 ≤ c ∧ c < 65536) : ws (put 2 c) = c := by
 show ws [c / 256 % 256, c % 256] = c
 unfold ws
 simp only [ws]
 omega
theorem sa_even (s : T_trans_Segment) : (sa s).length % 2 = 0 := by
 unfold sa
 split
 ·simp [put_len]
 ·split <;> simp [put_len]
theorem pso_even {p n : Int} {src dst : List Int} (h : (pso p n src dst).2 = true) : (pso p n src dst).1.length % 2 = 0 ∧ src.length % 2 = 0 ∧ dst.length % 2 = 0 := by
 unfold pso at h ⊢
 by_cases h1 : src.length ≠ dst.length ∨ (src.length ≠ 4 ∧ src.length ≠ 16)
 ·rw [if_pos h1] at h; cases h
 ·rw [if_neg h1]
  refine ⟨?_, by omega, by omega⟩
  split
  ·rfl
  ·unfold ps
   split <;> simp [put_len] <;> omega
theorem sum_zero {s : T_trans_Segment} {src dst : List Int} (w : WS s) (r : RT s) (a : AD src dst) (hq : (pso s.f_Proto (nn s) src dst).2 = true) : ws (ah s src dst ++ st s (ck s src dst)) % 65535 = 0 := by
 have hev : (ah s src dst).length % 2 = 0 := (pso_even hq).1
 have hc := ck_rng w r.le a.sw a.dw
 have hsum : ∀ c : Int, 0 ≤ c ∧ c < 65536 → ws (ah s src dst ++ st s c) = ws (ah s src dst) + (ws (sa s) + (c + ws (sb s))) := fun c hc => by
  unfold st
  rw [ws_app hev, List.append_assoc, ws_app (sa_even s), ws_app (by rw [put_len]), ws_put2 hc]
 have h0 := hsum 0 (by omega)
 have hW := ws_bd ((pso_wf (n := nn s) w.pr a.sw a.dw).app (st_wf w r.le 0))
 have hb := fld_bd hW.1
 have hm := fld_mod hW.1
 have hW' : 0 ≤ ws (ah s src dst ++ st s 0) := hW.1
 change fld (ws (ah s src dst ++ st s 0)) % 65535 = ws (ah s src dst ++ st s 0) % 65535 at hm
 change 0 ≤ fld (ws (ah s src dst ++ st s 0)) ∧ fld (ws (ah s src dst ++ st s 0)) ≤ 65535 at hb
 rw [hsum _ hc]
 have e : ws (ah s src dst) + (ws (sa s) + (ck s src dst + ws (sb s))) = ws (ah s src dst ++ st s 0) + ck s src dst := by omega
 rw [e]
 unfold ck
 generalize ws (ah s src dst ++ st s 0) = W at *
 split
 ·rename_i h; omega
 ·omega
theorem pso_swap {p n : Int} {src dst : List Int} : (pso p n dst src).2 = (pso p n src dst).2 := by
 unfold pso
 by_cases h1 : src.length ≠ dst.length ∨ (src.length ≠ 4 ∧ src.length ≠ 16)
 ·rw [if_pos h1, if_pos (by omega)]
 ·rw [if_neg h1, if_neg (by omega)]
  split <;> rfl
theorem pso_ws {p n : Int} {src dst : List Int} (h : (pso p n src dst).2 = true) : ws (pso p n dst src).1 = ws (pso p n src dst).1 := by
 obtain ⟨_, h2, h3⟩ := pso_even h
 unfold pso at h ⊢
 by_cases h1 : src.length ≠ dst.length ∨ (src.length ≠ 4 ∧ src.length ≠ 16)
 ·rw [if_pos h1] at h; cases h
 ·rw [if_neg h1, if_neg (by omega)]
  split
  ·rfl
  ·unfold ps
   by_cases h4 : src.length = 4
   ·rw [if_pos h4, if_pos (by omega)]
    simp only [List.append_assoc]
    rw [ws_app h3, ws_app h2, ws_app h2, ws_app h3]; omega
   ·rw [if_neg h4, if_neg (by omega)]
    simp only [List.append_assoc]
    rw [ws_app h3, ws_app h2, ws_app h2, ws_app h3]; omega
theorem snd_of {p : Int} {b src dst : List Int} (h0 : (prs p b).2 = 0) (ht : tl p b = b.length) : snd p b src dst = if (pso p b.length src dst).2 = true then non p src b || (ws ((pso p b.length src dst).1 ++ b) % 65535 == 0) else false := by
 have : ct p b = b := by unfold ct; rw [ht]; simp
 unfold snd
 rw [if_pos h0, this]
/-! ### A byte is changed -/
theorem tl_len {p : Int} {b : List Int} (hw : Wf 256 b) (h : (prs p b).2 = 0) (hn : p ≠ 17) : tl p b = b.length := by
 have o := prs_ok hw h
 have h0 := o.hp
 have hl := o.len; have hm := o.most
 have hs : ¬ (b.length : Int) < hd p := by omega
 have hg : ¬ 65535 < b.length := by omega
 rcases hd_cases h0 with rfl | rfl | hp
 ·have ht := tn_bd hw
  have g1 : ¬ tn b < 20 := fun g1 => by unfold prs at h; rw [if_neg h0, if_neg hs, if_neg hg, if_pos rfl, if_pos g1] at h; cases h
  have g2 : ¬ (b.length : Int) < tn b := fun g2 => by unfold prs at h; rw [if_neg h0, if_neg hs, if_neg hg, if_pos rfl, if_neg g1, if_pos g2] at h; cases h
  have e : prs 6 b = (⟨6, nm b 0 2, nm b 2 2, nm b 4 4, nm b 8 4, nm b 13 1, nm b 14 2, nm b 18 2, (b.drop 20).take ((tn b).toNat - 20), 0, 0, b.drop (tn b).toNat⟩, 0) := by unfold prs; rw [if_neg h0, if_neg hs, if_neg hg, if_pos rfl, if_neg g1, if_neg g2]
  have eo : (prs 6 b).1.f_Options.length = (tn b).toNat - 20 := by rw [e]; simp; omega
  have ed : (prs 6 b).1.f_Data.length = b.length - (tn b).toNat := by rw [e]; simp
  unfold tl
  rw [eo, ed, hd6]; omega
 ·exact (hn rfl).elim
 ·have n6 : ¬ p = 6 := by omega
  have e4 : hd p = 4 := by unfold hd; rw [if_neg n6, if_neg hn, if_pos hp]
  have e : prs p b = (⟨p, 0, 0, 0, 0, 0, 0, 0, [], nm b 0 1, nm b 1 1, b.drop 4⟩, 0) := by unfold prs; rw [if_neg h0, if_neg hs, if_neg hg, if_neg n6, if_neg hn]
  have eo : (prs p b).1.f_Options.length = 0 := by rw [e]; rfl
  have ed : (prs p b).1.f_Data.length = b.length - 4 := by rw [e]; simp
  unfold tl
  rw [eo, ed, e4]; omega
theorem tl_udp {b : List Int} (hw : Wf 256 b) (h : (prs 17 b).2 = 0) : tl 17 b = nm b 4 2 := by
 have o := prs_ok hw h
 have h0 := o.hp
 have hl := o.len; have hm := o.most
 have hs : ¬ (b.length : Int) < hd 17 := by omega
 have hg : ¬ 65535 < b.length := by omega
 have ht := nm2 hw 4
 have g1 : ¬ nm b 4 2 < 8 := fun g1 => by unfold prs at h; rw [if_neg h0, if_neg hs, if_neg hg, if_neg (show ¬ (17 : Int) = 6 by decide), if_pos rfl, if_pos g1] at h; cases h
 have g2 : ¬ (b.length : Int) < nm b 4 2 := fun g2 => by unfold prs at h; rw [if_neg h0, if_neg hs, if_neg hg, if_neg (show ¬ (17 : Int) = 6 by decide), if_pos rfl, if_neg g1, if_pos g2] at h; cases h
 have e : prs 17 b = (⟨17, nm b 0 2, nm b 2 2, 0, 0, 0, 0, 0, [], 0, 0, (b.drop 8).take ((nm b 4 2).toNat - 8)⟩, 0) := by unfold prs; rw [if_neg h0, if_neg hs, if_neg hg, if_neg (show ¬ (17 : Int) = 6 by decide), if_pos rfl, if_neg g1, if_neg g2]
 have eo : (prs 17 b).1.f_Options.length = 0 := by rw [e]; rfl
 have ed : (prs 17 b).1.f_Data.length = (nm b 4 2).toNat - 8 := by rw [e]; simp; omega
 unfold tl
 rw [eo, ed, hd17]; omega
theorem nm_set {b : List Int} {i : Nat} {x : Int} (h4 : i ≠ 4) (h5 : i ≠ 5) : nm (b.set i x) 4 2 = nm b 4 2 := by
 unfold nm
 congr 1
 apply List.ext_getElem?
 intro j
 rw [List.getElem?_take, List.getElem?_take]
 split
 ·rw [List.getElem?_drop, List.getElem?_drop, List.getElem?_set_ne (by omega)]
 ·rfl
theorem change_no {p : Int} {b src dst : List Int} (hw : Wf 256 b) (h0 : (prs p b).2 = 0) (ht : tl p b = b.length) (hW : ws ((pso p b.length src dst).1 ++ b) % 65535 = 0) {i : Nat} {x y : Int} (hi : b[i]? = some y) (hx : 0 ≤ x ∧ x < 256) (hne : x ≠ y)
  (hnon : ((p == 17) && (((b.set i x).getD 6 0 == 0) && ((b.set i x).getD 7 0 == 0))) = false) (hs : snd p (b.set i x) src dst = true) : p = 17 ∧ (i = 4 ∨ i = 5) := by
 refine Classical.byContradiction fun hc => ?_
 have hy := hw.get hi
 have hw' : Wf 256 (b.set i x) := fun z hz => by
  rcases List.mem_or_eq_of_mem_set hz with h | h
  ·exact hw z h
  ·rw [h]; exact hx
 have g0 : (prs p (b.set i x)).2 = 0 := Classical.byContradiction fun h => by unfold snd at hs; rw [if_neg h] at hs; cases hs
 have gt_ : tl p (b.set i x) = (b.set i x).length := by
  by_cases h17 : p = 17
  ·subst h17
   rw [tl_udp hw' g0, nm_set (fun h => hc ⟨rfl, .inl h⟩) (fun h => hc ⟨rfl, .inr h⟩), ← tl_udp hw h0, ht, List.length_set]
  ·exact tl_len hw' g0 h17
 rw [snd_of g0 gt_, List.length_set] at hs
 cases hq : (pso p b.length src dst).2 with
 | false => rw [hq] at hs; cases hs
 | true =>
  rw [hq, if_pos rfl] at hs
  have hn : non p src (b.set i x) = false := by
   unfold non
   cases h1 : (p == 17) with
   | false => rfl
   | true =>
    rw [h1] at hnon
    rw [Bool.true_and] at hnon
    rw [hnon]; simp
  rw [hn, Bool.false_or, beq_iff_eq] at hs
  have hset : (pso p b.length src dst).1 ++ b.set i x = ((pso p b.length src dst).1 ++ b).set ((pso p b.length src dst).1.length + i) x := by
   rw [List.set_append_right _ _ (by omega)]
   congr 2; omega
  have hgi : ((pso p b.length src dst).1 ++ b)[(pso p b.length src dst).1.length + i]? = some y := by
   rw [List.getElem?_append_right (by omega)]
   rw [show (pso p b.length src dst).1.length + i - (pso p b.length src dst).1.length = i by omega]; exact hi
  rw [hset, ws_set hgi] at hs
  revert hs
  unfold wt
  split <;> intro hs <;> omega
/-! ### The law -/
theorem snd_true {s : T_trans_Segment} {src dst : List Int} (w : WS s) (r : RT s) (a : AD src dst) (hq : (pso s.f_Proto (nn s) src dst).2 = true) : snd s.f_Proto (st s (ck s src dst)) src dst = true ∧ snd s.f_Proto (st s (ck s src dst)) dst src = true := by
 have hc := ck_rng w r.le a.sw a.dw
 have hbp := back_parse w r hc
 have h0 : (prs s.f_Proto (st s (ck s src dst))).2 = 0 := by rw [hbp]
 have hlen := st_length r (ck s src dst)
 have ht : tl s.f_Proto (st s (ck s src dst)) = (st s (ck s src dst)).length := by
  unfold tl; rw [hbp, hlen]; rfl
 have hz := sum_zero w r a hq
 have hev := pso_even hq
 rw [snd_of h0 ht, snd_of h0 ht, hlen, hq, pso_swap (src := src) (dst := dst), hq]
 refine ⟨?_, ?_⟩
 ·rw [if_pos rfl]
  have : ws ((pso s.f_Proto (nn s) src dst).1 ++ st s (ck s src dst)) % 65535 = 0 := hz
  rw [this]; simp
 ·rw [if_pos rfl]
  have e2 : (pso s.f_Proto (nn s) dst src).1.length % 2 = 0 := (pso_even (by rw [pso_swap]; exact hq)).1
  have : ws ((pso s.f_Proto (nn s) dst src).1 ++ st s (ck s src dst)) % 65535 = 0 := by
   rw [ws_app e2, pso_ws hq, ← ws_app hev.1]; exact hz
  rw [this]; simp
theorem back_eq {s : T_trans_Segment} {src dst : List Int} {at_ by_ : Int} (w : WS s) (hs : Wf 256 src) (hd_ : Wf 256 dst) (hby : 0 ≤ by_ ∧ by_ < 256) : F_law07_TransBack s src dst at_ by_ = some true := by
 have bad : F_law07_TransBack_j1 s src dst at_ by_ true = some true := by
  unfold F_law07_TransBack_j1
  rw [if_pos rfl, works_eq]; rfl
 have good : s.f_Options.length ≤ 100 → s.f_Data.length ≤ 300 → src.length ≤ 40 → dst.length ≤ 40 → F_law07_TransBack_j1 s src dst at_ by_ false = some true := fun g1 g2 h1 h2 => by
  have a : AD src dst := ⟨h1, h2, hs, hd_⟩
  have a' : AD dst src := ⟨h2, h1, hd_, hs⟩
  have n : NL s := ⟨by omega, by omega⟩
  have err : ∀ e : Int, e ≠ 0 → pt s src dst = ([], e) → F_law07_TransBack_j1 s src dst at_ by_ false = some true := fun e he hp => by
   unfold F_law07_TransBack_j1 F_law07_TransBack_j2
   rw [if_neg (by decide), put_eq w n a, Option.bind_some, hp, if_pos (by simpa using he), if_pos (by rfl), works_eq]
   rfl
  by_cases k0 : hd s.f_Proto = 0
  ·exact err 70 (by decide) (by unfold pt; rw [if_pos k0])
  ·cases k1 : rt s with
   | false => exact err 51 (by decide) (by unfold pt; rw [if_neg k0, if_pos k1])
   | true =>
    cases k2 : (pso s.f_Proto (nn s) src dst).2 with
    | false => exact err 2 (by decide) (by unfold pt; rw [if_neg k0, if_neg (by rw [k1]; decide), if_pos k2])
    | true =>
     have hp : pt s src dst = (st s (ck s src dst), 0) := by unfold pt; rw [if_neg k0, if_neg (by rw [k1]; decide), if_neg (by rw [k2]; decide)]
     have r := rt_spec k1
     have hc := ck_rng w r.le a.sw a.dw
     have hbp := back_parse w r hc
     have hbw := st_wf w r.le (ck s src dst)
     obtain ⟨t1, t2⟩ := snd_true w r a k2
     have hlen := st_length r (ck s src dst)
     have hnn := nn_rng r; have hpos := r.hpos
     have hz := sum_zero w r a k2
     have hnb : hd s.f_Proto ≤ nn s := by unfold nn; omega
     unfold F_law07_TransBack_j1
     rw [if_neg (by decide), put_eq w n a, Option.bind_some, hp, if_neg (by simp), tparse_eq hbw, Option.bind_some, hbp, if_neg (by simp)]
     dsimp only
     rw [tsame_eq w.op w.op w.da w.da, Option.bind_some, sm_refl, if_neg (by decide), sound_eq w.pr hbw a, Option.bind_some, t1, if_neg (by decide), sound_eq w.pr hbw a', Option.bind_some, t2]
     unfold F_law07_TransBack_j3
     rw [if_neg (by decide), join_eq (by simp) (by show (st s (ck s src dst)).length < _; omega), Option.bind_some, List.nil_append]
     dsimp only
     generalize hb : st s (ck s src dst) = b at *
     have hgm : gmax 1 (b.length : Int) = (b.length : Int) := by unfold gmax; split <;> omega
     obtain ⟨i, hi1, hi2⟩ := pick_eq (i := at_) (n := (b.length : Int)) (by omega) (by omega)
     have hil : i < b.length := by omega
     obtain ⟨y, hy⟩ : ∃ y, b[i]? = some y := ⟨_, List.getElem?_eq_getElem hil⟩
     have hyb := hbw.get hy
     rw [hgm, hi1, Option.bind_some, gidx_nat hy, Option.bind_some, Option.bind_some, Int.toNat_natCast, wu8]
     have hx : 0 ≤ (y + by_) % 256 ∧ (y + by_) % 256 < 256 := by omega
     have hcw : Wf 256 (b.set i ((y + by_) % 256)) := fun z hz => by
      rcases List.mem_or_eq_of_mem_set hz with h | h
      ·exact hbw z h
      ·rw [h]; exact hx
     have h0 : (prs s.f_Proto b).2 = 0 := by rw [hbp]
     have ht : tl s.f_Proto b = b.length := by unfold tl; rw [hbp, hlen]; rfl
     have hz' : ws ((pso s.f_Proto b.length src dst).1 ++ b) % 65535 = 0 := by rw [hlen]; exact hz
     have fin4 : ∀ no : Bool, ((s.f_Proto == 17) && (((b.set i ((y + by_) % 256)).getD 6 0 == 0) && ((b.set i ((y + by_) % 256)).getD 7 0 == 0))) = no → F_law07_TransBack_j4 s src dst by_ b (i : Int) y no = some true := fun no hno => by
      unfold F_law07_TransBack_j4 F_law07_TransBack_j5
      have wk : (F_law07_works).bind (fun y125 => some y125) = some true := by rw [works_eq]; rfl
      by_cases b0 : 0 < by_
      ·rw [if_pos (dT b0)]
       cases no with
       | true => rw [if_neg (by decide), if_neg (by decide)]; exact wk
       | false =>
        rw [if_pos (by decide), Int.toNat_natCast, wu8, sound_eq w.pr hcw a, Option.bind_some]
        cases hsn : snd s.f_Proto (b.set i ((y + by_) % 256)) src dst with
        | false => rw [if_neg (by decide), if_neg (by decide)]; exact wk
        | true =>
         obtain ⟨c1, c2⟩ := change_no hbw h0 ht hz' hy hx (by omega) hno hsn
         have hsh : F_law07_shorter s.f_Proto (b.set i ((y + by_) % 256)) (i : Int) = some true := by
          unfold F_law07_shorter F_law07_shorter_j1
          rw [if_pos (by simpa using c1)]
          rcases c2 with c2 | c2
          ·rw [if_pos (by simp [c2])]
          ·rw [if_neg (by simp [c2]), c2]; rfl
         rw [if_pos rfl, hsh, Option.bind_some, if_neg (by decide)]; exact wk
      ·rw [if_neg (dF b0), if_neg (by decide)]; exact wk
     cases h17 : (s.f_Proto == 17) with
     | false =>
      rw [if_neg (by decide)]
      exact fin4 false (by rw [h17]; rfl)
     | true =>
      have e17 : s.f_Proto = 17 := by simpa using h17
      have h8 : 8 ≤ (b.set i ((y + by_) % 256)).length := by rw [List.length_set]; rw [e17, hd17] at hnb; omega
      have i6 : gidx (b.set i ((y + by_) % 256)) 6 = some ((b.set i ((y + by_) % 256)).getD 6 0) := gidxD (i := 6) (by omega)
      have i7 : gidx (b.set i ((y + by_) % 256)) 7 = some ((b.set i ((y + by_) % 256)).getD 7 0) := gidxD (i := 7) (by omega)
      rw [if_pos rfl, i6, Option.bind_some]
      cases z6 : ((b.set i ((y + by_) % 256)).getD 6 0 == 0) with
      | false =>
       rw [if_neg (by decide)]
       exact fin4 false (by rw [h17, z6]; rfl)
      | true =>
       rw [if_pos rfl, i7, Option.bind_some]
       exact fin4 _ (by rw [h17, z6]; rfl)
 unfold F_law07_TransBack
 by_cases c1 : 100 < (s.f_Options.length : Int)
 ·rw [if_pos (dT c1)]; exact bad
 ·rw [if_neg (dF c1)]
  by_cases c2 : 300 < (s.f_Data.length : Int)
  ·rw [if_pos (dT c2)]; exact bad
  ·rw [if_neg (dF c2)]
   by_cases c3 : 40 < (src.length : Int)
   ·rw [if_pos (dT c3)]; exact bad
   ·rw [if_neg (dF c3)]
    by_cases c4 : 40 < (dst.length : Int)
    ·rw [dT c4]; exact bad
    ·rw [decide_eq_false c4]; exact good (by omega) (by omega) (by omega) (by omega)
end Go.Proofs.Ytcinagdkkclapaa
