/- Plain text: TransKnown. -/
import Derived.Test.YtcinagdkkclapaaGP
set_option linter.unusedVariables false
namespace Go.Proofs.Ytcinagdkkclapaa
open Go Go.Ox Go.RowKit
structure KA (src dst : List Int) : Prop where
 sw : Wf 256 src
 dw : Wf 256 dst
 sl : 4 ≤ src.length ∧ src.length ≤ 16
 dl : 4 ≤ dst.length ∧ dst.length ≤ 16
theorem wf_pre {xs : List Int} (h : Wf 256 xs) (n : Nat) : Wf 256 (xs.take n) := fun x hx => h x (List.mem_of_mem_take hx)
theorem cut0 {xs : List Int} {q : Int} (h0 : 0 ≤ q) (h : q ≤ xs.length) : gcut xs 0 q = some (xs.take q.toNat) := by
 rw [gcut_in (Int.le_refl _) h0 h]; simp
/-- What goes on with well-formed segments. -/
structure KS (s : T_trans_Segment) : Prop where
 ws : WS s
 nl : NL s
theorem known_l2 {i : Nat} (hi : i < 48) {data src dst : List Int} (rec) (a : KA src dst) {p : Int} (hp : 0 ≤ p ∧ p < 256) {y : List Int × Int} (hy : Wf 256 y.1) (hl : y.1.length < 100000) :
  ∀ (f n : Nat), n ≤ y.1.length + 1 → y.1.length + 1 < f + n → F_law07_TransKnown_L2 data (i : Int) rec src dst p y f (n : Int) = rec (data ++ ([IntKind.u8.wrap (IntKind.i64.wrap ((i : Int) * 53))] : List Int)) (IntKind.i64.wrap ((i : Int) + 1))
 | 0, n, h1, h2 => by omega
 | f + 1, n, h1, h2 => by
  show F_law07_TransKnown_l2 (F_law07_TransKnown_L2 data (i : Int) rec src dst p y f) data (i : Int) rec src dst p y (n : Int) = _
  unfold F_law07_TransKnown_l2
  have stop : F_law07_TransKnown_j7 data (i : Int) rec src dst p y (n : Int) (F_law07_TransKnown_L2 data (i : Int) rec src dst p y f) false = rec (data ++ ([IntKind.u8.wrap (IntKind.i64.wrap ((i : Int) * 53))] : List Int)) (IntKind.i64.wrap ((i : Int) + 1)) := by
   unfold F_law07_TransKnown_j7
   rw [if_neg (by decide)]
  by_cases hn : n ≤ y.1.length
  ·rw [if_pos (dT (by omega))]
   by_cases h12 : (i : Int) < 12
   ·rw [dT h12]
    have ih := known_l2 hi rec a hp hy hl (data := data) f (n + 1) (by omega) (by omega)
    have j8 : ∀ t : List Int, Wf 256 t → t.length < 1000000 → F_law07_TransKnown_j8 src dst p y (n : Int) (F_law07_TransKnown_L2 data (i : Int) rec src dst p y f) t = rec (data ++ ([IntKind.u8.wrap (IntKind.i64.wrap ((i : Int) * 53))] : List Int)) (IntKind.i64.wrap ((i : Int) + 1)) := fun t ht htl => by
     unfold F_law07_TransKnown_j8
     have hsl := a.sl
     rw [cut0 (by omega) (by omega), Option.bind_some, parses_eq hp (wf_pre hy _) a.sw a.dw, Option.bind_some, if_neg (by decide), parses_eq hp ht a.sw a.dw, Option.bind_some, if_neg (by decide), cut0 (by omega) (by omega), Option.bind_some, if_pos (limk (by simp; omega)), parses_eq hp (ht.app (Wf.cons (by omega) Wf.nil)) a.dw (wf_pre a.sw _), Option.bind_some]
     unfold F_law07_TransKnown_j9
     rw [if_neg (by decide), show IntKind.i64.wrap ((n : Int) + 1) = ((n + 1 : Nat) : Int) by rw [wi64 (by omega) (by omega)]; omega]
     exact ih
    unfold F_law07_TransKnown_j7
    rw [if_pos rfl, join_eq (by simp) (by omega), Option.bind_some, List.nil_append]
    by_cases hn2 : n < y.1.length
    ·rw [if_pos (dT (by omega)), gidx_nat (List.getElem?_eq_getElem hn2), Option.bind_some, Option.bind_some]
     refine j8 _ (fun z hz => ?_) (by rw [List.length_set]; omega)
     rcases List.mem_or_eq_of_mem_set hz with h | h
     ·exact hy z h
     ·rw [h, wu8]; omega
    ·rw [if_neg (dF (by omega))]
     exact j8 _ hy (by omega)
   ·rw [decide_eq_false h12]; exact stop
  ·rw [if_neg (dF (by omega))]; exact stop
theorem pt_wf {s : T_trans_Segment} {src dst : List Int} (w : WS s) : Wf 256 (pt s src dst).1 ∧ (pt s src dst).1.length < 100000 := by
 unfold pt
 split
 ·exact ⟨Wf.nil, by simp⟩
 ·split
  ·exact ⟨Wf.nil, by simp⟩
  ·split
   ·exact ⟨Wf.nil, by simp⟩
   ·rename_i h1 h2 h3
    have r := rt_spec (Bool.not_eq_false _ ▸ h2 : rt s = true)
    refine ⟨st_wf w r.le _, ?_⟩
    have := st_len s (ck s src dst); have := r.le; have := r.dlen
    show (st s (ck s src dst)).length < _
    omega
theorem known_j5 {i : Nat} (hi : i < 48) {data src dst : List Int} (rec) (a : KA src dst) {s t : T_trans_Segment} (ks : KS s) (kt : KS t)
  (h1 : t.f_Dst = s.f_Dst) (h2 : t.f_Seq = s.f_Seq) (h3 : t.f_Ack = s.f_Ack) (h4 : t.f_Flags = s.f_Flags) (h5 : t.f_Window = s.f_Window) (h6 : t.f_Urgent = s.f_Urgent) (h7 : t.f_Code = s.f_Code) (h8 : t.f_Data = s.f_Data) :
  F_law07_TransKnown_j5 data (i : Int) rec src dst s.f_Data s.f_Proto s.f_Src s.f_Dst s.f_Seq s.f_Ack s.f_Flags s.f_Window s.f_Urgent s.f_Options s.f_Type s.f_Code t.f_Proto t.f_Src t.f_Options t.f_Type = rec (data ++ ([IntKind.u8.wrap (IntKind.i64.wrap ((i : Int) * 53))] : List Int)) (IntKind.i64.wrap ((i : Int) + 1)) := by
 have et : (⟨t.f_Proto, t.f_Src, s.f_Dst, s.f_Seq, s.f_Ack, s.f_Flags, s.f_Window, s.f_Urgent, t.f_Options, t.f_Type, s.f_Code, s.f_Data⟩ : T_trans_Segment) = t := by
  rw [← h1, ← h2, ← h3, ← h4, ← h5, ← h6, ← h7, ← h8]
 have u8b : ∀ v : Int, 0 ≤ IntKind.u8.wrap v ∧ IntKind.u8.wrap v < 256 := fun v => by rw [wu8]; omega
 have hdl := a.dl; have hsl := a.sl
 have em : Int.tmod (i : Int) 2 = ((i % 2 : Nat) : Int) := rfl
 unfold F_law07_TransKnown_j5
 rw [et]
 show (F_law07_TransPuts s t src dst _).bind _ = _
 rw [puts_eq ks.ws kt.ws ks.nl a.sw a.dw (u8b _), Option.bind_some, if_neg (by decide), em, wi64 (n := (dst.length : Int) - ((i % 2 : Nat) : Int)) (by omega) (by omega), cut0 (by omega) (by omega), Option.bind_some]
 show (F_law07_TransPuts t s src _ 255).bind _ = _
 rw [puts_eq kt.ws ks.ws kt.nl a.sw (wf_pre a.dw _) (by omega), Option.bind_some, if_neg (by decide)]
 show (F_law07_TransBack s src dst _ _).bind _ = _
 rw [back_eq ks.ws a.sw a.dw (u8b _), Option.bind_some]
 unfold F_law07_TransKnown_j6
 rw [if_neg (by decide)]
 show (F_trans_Put s src dst).bind _ = _
 rw [put_eq ks.ws ks.nl ⟨by omega, by omega, a.sw, a.dw⟩, Option.bind_some]
 obtain ⟨p1, p2⟩ := pt_wf (src := src) (dst := dst) ks.ws
 exact known_l2 hi rec a ks.ws.pr p1 p2 fuel0 0 (by omega) (by unfold fuel0; omega)
theorem known_j4 {i : Nat} (hi : i < 48) {data src dst : List Int} (hd0 : data.length = i) (hdw : Wf 256 data) (rec) (a : KA src dst) {s : T_trans_Segment} (ks : KS s) :
  F_law07_TransKnown_j4 data (i : Int) rec src dst s.f_Data s.f_Proto s.f_Src s.f_Dst s.f_Seq s.f_Ack s.f_Flags s.f_Window s.f_Urgent s.f_Options s.f_Type s.f_Code = rec (data ++ ([IntKind.u8.wrap (IntKind.i64.wrap ((i : Int) * 53))] : List Int)) (IntKind.i64.wrap ((i : Int) + 1)) := by
 have w := ks.ws; have n := ks.nl
 have hw1 : Wf 256 (data ++ ([IntKind.u8.wrap (IntKind.i64.wrap ((i : Int) * 53))] : List Int)) := hdw.app (Wf.cons (by rw [wu8]; omega) Wf.nil)
 have hl1 : (data ++ ([IntKind.u8.wrap (IntKind.i64.wrap ((i : Int) * 53))] : List Int)).length = i + 1 := by simp [hd0]
 unfold F_law07_TransKnown_j4
 generalize hD : data ++ ([IntKind.u8.wrap (IntKind.i64.wrap ((i : Int) * 53))] : List Int) = D at *
 have fin := fun t (kt : KS t) h1 h2 h3 h4 h5 h6 h7 h8 => (known_j5 (data := data) hi rec a ks (t := t) kt h1 h2 h3 h4 h5 h6 h7 h8).trans (by rw [hD])
 split
 ·exact fin ⟨s.f_Proto, s.f_Src, s.f_Dst, s.f_Seq, s.f_Ack, s.f_Flags, s.f_Window, s.f_Urgent, s.f_Options, 1, s.f_Code, s.f_Data⟩ ⟨⟨w.pr, w.sr, w.ds, w.sq, w.ak, w.fl, w.wi, w.ur, w.op, by show (0 : Int) ≤ 1 ∧ (1 : Int) < 256; omega, w.co, w.da⟩, n⟩ rfl rfl rfl rfl rfl rfl rfl rfl
 ·split
  ·exact fin ⟨s.f_Proto, 9, s.f_Dst, s.f_Seq, s.f_Ack, s.f_Flags, s.f_Window, s.f_Urgent, s.f_Options, s.f_Type, s.f_Code, s.f_Data⟩ ⟨⟨w.pr, by show (0 : Int) ≤ 9 ∧ (9 : Int) < 65536; omega, w.ds, w.sq, w.ak, w.fl, w.wi, w.ur, w.op, w.ty, w.co, w.da⟩, n⟩ rfl rfl rfl rfl rfl rfl rfl rfl
  ·split
   ·have hg : 0 ≤ gmin 3 (D.length : Int) ∧ gmin 3 (D.length : Int) ≤ D.length := by unfold gmin; split <;> omega
    rw [cut0 hg.1 hg.2, Option.bind_some]
    exact fin ⟨s.f_Proto, s.f_Src, s.f_Dst, s.f_Seq, s.f_Ack, s.f_Flags, s.f_Window, s.f_Urgent, D.take (gmin 3 (D.length : Int)).toNat, s.f_Type, s.f_Code, s.f_Data⟩ ⟨⟨w.pr, w.sr, w.ds, w.sq, w.ak, w.fl, w.wi, w.ur, wf_pre hw1 _, w.ty, w.co, w.da⟩, ⟨by show (D.take _).length ≤ _; rw [List.length_take]; omega, n.2⟩⟩ rfl rfl rfl rfl rfl rfl rfl rfl
   ·split
    ·exact fin ⟨IntKind.u8.wrap (i : Int), s.f_Src, s.f_Dst, s.f_Seq, s.f_Ack, s.f_Flags, s.f_Window, s.f_Urgent, s.f_Options, s.f_Type, s.f_Code, s.f_Data⟩ ⟨⟨by show 0 ≤ IntKind.u8.wrap (i : Int) ∧ IntKind.u8.wrap (i : Int) < 256; rw [wu8]; omega, w.sr, w.ds, w.sq, w.ak, w.fl, w.wi, w.ur, w.op, w.ty, w.co, w.da⟩, n⟩ rfl rfl rfl rfl rfl rfl rfl rfl
    ·split
     ·rw [if_pos (dT ⟨by omega, by unfold lim; omega⟩)]
      exact fin ⟨s.f_Proto, s.f_Src, s.f_Dst, s.f_Seq, s.f_Ack, s.f_Flags, s.f_Window, s.f_Urgent, List.replicate (Int.toNat 44) 0, s.f_Type, s.f_Code, s.f_Data⟩ ⟨⟨w.pr, w.sr, w.ds, w.sq, w.ak, w.fl, w.wi, w.ur, fun x hx => by rw [List.eq_of_mem_replicate hx]; omega, w.ty, w.co, w.da⟩, ⟨by show (List.replicate (Int.toNat 44) (0 : Int)).length ≤ _; simp, n.2⟩⟩ rfl rfl rfl rfl rfl rfl rfl rfl
     ·exact fin s ks rfl rfl rfl rfl rfl rfl rfl rfl
theorem known_j2 {i : Nat} (hi : i < 48) {data src dst : List Int} (hd0 : data.length = i) (hdw : Wf 256 data) (rec) (a : KA src dst) : F_law07_TransKnown_j2 data (i : Int) rec src dst = rec (data ++ ([IntKind.u8.wrap (IntKind.i64.wrap ((i : Int) * 53))] : List Int)) (IntKind.i64.wrap ((i : Int) + 1)) := by
 have hw1 : Wf 256 (data ++ ([IntKind.u8.wrap (IntKind.i64.wrap ((i : Int) * 53))] : List Int)) := hdw.app (Wf.cons (by rw [wu8]; omega) Wf.nil)
 have hl1 : (data ++ ([IntKind.u8.wrap (IntKind.i64.wrap ((i : Int) * 53))] : List Int)).length = i + 1 := by simp [hd0]
 have j4 := fun s ks => known_j4 (s := s) hi hd0 hdw rec a ks
 unfold F_law07_TransKnown_j2
 generalize hD : data ++ ([IntKind.u8.wrap (IntKind.i64.wrap ((i : Int) * 53))] : List Int) = D at *
 have em : Int.tmod (Int.tmod (IntKind.i64.wrap ((i : Int) * 7)) 48) (D.length : Int) = ((i * 7 % 48 % D.length : Nat) : Int) := by
  rw [wi64 (by omega) (by omega)]; rfl
 have hm : i * 7 % 48 % D.length < D.length := Nat.mod_lt _ (by omega)
 rw [if_pos (dT (by omega)), em, cut0 (by omega) (by omega), Option.bind_some, Int.toNat_natCast]
 have dw := wf_pre hw1 (i * 7 % 48 % D.length)
 have dl : (D.take (i * 7 % 48 % D.length)).length ≤ 100 := by rw [List.length_take]; omega
 have e4 : Int.tmod (i : Int) 4 = ((i % 4 : Nat) : Int) := rfl
 obtain ⟨pr, hpr, hpb⟩ : ∃ pr, gidx ([6, 17, 1, 58] : List Int) (Int.tmod (i : Int) 4) = some pr ∧ 0 ≤ pr ∧ pr < 256 := by
  rw [e4]
  have h4 : i % 4 < 4 := Nat.mod_lt _ (by decide)
  have : i % 4 = 0 ∨ i % 4 = 1 ∨ i % 4 = 2 ∨ i % 4 = 3 := by omega
  rcases this with h | h | h | h <;> rw [h] <;> exact ⟨_, rfl, by decide, by decide⟩
 rw [hpr, Option.bind_some]
 have u8b : ∀ v : Int, 0 ≤ IntKind.u8.wrap v ∧ IntKind.u8.wrap v < 256 := fun v => by rw [wu8]; omega
 have u16b : ∀ v : Int, 0 ≤ IntKind.u16.wrap v ∧ IntKind.u16.wrap v < 65536 := fun v => by rw [IntKind.wrap_u16]; omega
 unfold F_law07_TransKnown_j3
 rw [hD]
 split
 ·have eo : Int.tmod (IntKind.i64.wrap (IntKind.i64.wrap (Int.tdiv (i : Int) 4) * 4)) 44 = ((i / 4 * 4 % 44 : Nat) : Int) := by
   have : Int.tdiv (i : Int) 4 = ((i / 4 : Nat) : Int) := rfl
   rw [this, wi64 (n := ((i / 4 : Nat) : Int)) (by omega) (by omega), wi64 (by omega) (by omega)]; rfl
  have ho : i / 4 * 4 % 44 ≤ i := by omega
  rw [eo, cut0 (by omega) (by omega), Option.bind_some, Int.toNat_natCast]
  refine j4 ⟨6, IntKind.u16.wrap (i : Int), 80, Ox.shl .u32 (IntKind.u32.wrap (i : Int)) 24, 2147483648, IntKind.u8.wrap (IntKind.i64.wrap ((i : Int) * 5)), 65535, IntKind.u16.wrap (i : Int), D.take (i / 4 * 4 % 44), 0, 0, D.take (i * 7 % 48 % D.length)⟩ ⟨⟨?_, u16b _, ?_, ?_, ?_, u8b _, ?_, u16b _, wf_pre hw1 _, ?_, ?_, dw⟩, ⟨?_, ?_⟩⟩
  ·show (0 : Int) ≤ 6 ∧ (6 : Int) < 256; omega
  ·show (0 : Int) ≤ 80 ∧ (80 : Int) < 65536; omega
  ·show 0 ≤ Ox.shl .u32 _ 24 ∧ Ox.shl .u32 _ 24 < 4294967296
   unfold Ox.shl; rw [IntKind.wrap_u32]; omega
  ·show (0 : Int) ≤ 2147483648 ∧ (2147483648 : Int) < 4294967296; omega
  ·show (0 : Int) ≤ 65535 ∧ (65535 : Int) < 65536; omega
  ·show (0 : Int) ≤ 0 ∧ (0 : Int) < 256; omega
  ·show (0 : Int) ≤ 0 ∧ (0 : Int) < 256; omega
  ·show (D.take _).length ≤ _; rw [List.length_take]; omega
  ·show (D.take _).length ≤ _; omega
 ·split
  ·refine j4 ⟨pr, IntKind.u16.wrap (IntKind.i64.wrap ((i : Int) * 1300)), 53, 0, 0, 0, 0, 0, [], 0, 0, D.take (i * 7 % 48 % D.length)⟩ ⟨⟨hpb, u16b _, ?_, ?_, ?_, ?_, ?_, ?_, Wf.nil, ?_, ?_, dw⟩, ⟨?_, ?_⟩⟩
   ·show (0 : Int) ≤ 53 ∧ (53 : Int) < 65536; omega
   all_goals first | (show (0 : Int) ≤ 0 ∧ (0 : Int) < _; omega) | (show ([] : List Int).length ≤ _; simp) | (show (D.take _).length ≤ _; omega)
  ·refine j4 ⟨pr, 0, 0, 0, 0, 0, 0, 0, [], IntKind.u8.wrap (i : Int), IntKind.u8.wrap (IntKind.i64.wrap (Int.tdiv (i : Int) 5)), D.take (i * 7 % 48 % D.length)⟩ ⟨⟨hpb, ?_, ?_, ?_, ?_, ?_, ?_, ?_, Wf.nil, u8b _, u8b _, dw⟩, ⟨?_, ?_⟩⟩
   all_goals first | (show (0 : Int) ≤ 0 ∧ (0 : Int) < _; omega) | (show ([] : List Int).length ≤ _; simp) | (show (D.take _).length ≤ _; omega)
theorem rep_wf (n : Nat) : Wf 256 (List.replicate n (0 : Int)) := fun x hx => by rw [List.eq_of_mem_replicate hx]; omega
theorem dec_wf {xs : List Int} (h : xs.all (fun x => decide (0 ≤ x ∧ x < 256)) = true) : Wf 256 xs := fun x hx => by simpa using List.all_eq_true.1 h x hx
theorem known_1 : ∀ (f i : Nat) (data : List Int), data.length = i → Wf 256 data → i ≤ 48 → 48 < f + i → F_law07_TransKnown_L1 f data (i : Int) = some true
 | 0, i, data, h0, hw, h1, h2 => by omega
 | f + 1, i, data, h0, hw, h1, h2 => by
  show F_law07_TransKnown_l1 (F_law07_TransKnown_L1 f) data (i : Int) = _
  unfold F_law07_TransKnown_l1
  by_cases hi : i < 48
  ·have go : ∀ src dst, KA src dst → F_law07_TransKnown_j2 data (i : Int) (F_law07_TransKnown_L1 f) src dst = some true := fun src dst a => by
    rw [known_j2 hi h0 hw (F_law07_TransKnown_L1 f) a, show IntKind.i64.wrap ((i : Int) + 1) = ((i + 1 : Nat) : Int) by rw [wi64 (by omega) (by omega)]; omega]
    exact known_1 f (i + 1) _ (by simp [h0]) (hw.app (Wf.cons (by rw [wu8]; omega) Wf.nil)) (by omega) (by omega)
   rw [if_pos (dT (by omega)), if_pos (limk (by simp; omega))]
   split
   ·rw [if_pos (limk (by simp)), List.nil_append]
    have hg : gidx (List.replicate (Int.toNat 16) (0 : Int)) 15 = some 0 := rfl
    rw [hg, Option.bind_some]
    refine go _ _ ⟨rep_wf _, fun z hz => ?_, by simp, by simp⟩
    rcases List.mem_or_eq_of_mem_set hz with h | h
    ·exact rep_wf _ z h
    ·rw [h, wu8]; omega
   ·exact go _ _ ⟨dec_wf (by decide), Wf.cons (by omega) (Wf.cons (by omega) (Wf.cons (by omega) (Wf.cons (by rw [wu8]; omega) Wf.nil))), by simp, by simp⟩
  ·have n8 : Wf 256 ([0, 1, 0, 1, 0, 8, 0, 0] : List Int) := dec_wf (by decide)
   have n4 : Wf 256 ([10, 0, 0, 1] : List Int) := dec_wf (by decide)
   rw [if_neg (dF (by omega)), parses_eq (by omega) n8 n4 n4, Option.bind_some, if_pos rfl, parses_eq (by omega) n8 (rep_wf _) (rep_wf _), Option.bind_some, if_pos rfl, if_pos (dT ⟨by omega, by unfold lim; omega⟩)]
   have z16 : (0 : Int) ≤ 0 ∧ (0 : Int) < 65536 := by omega
   have z32 : (0 : Int) ≤ 0 ∧ (0 : Int) < 4294967296 := by omega
   have z8 : (0 : Int) ≤ 0 ∧ (0 : Int) < 256 := by omega
   have w1 : WS ⟨17, 0, 0, 0, 0, 0, 0, 0, [], 0, 0, List.replicate (Int.toNat 65536) (0 : Int)⟩ := ⟨by show (0 : Int) ≤ 17 ∧ (17 : Int) < 256; omega, z16, z16, z32, z32, z8, z16, z16, Wf.nil, z8, z8, rep_wf _⟩
   have w2 : WS ⟨0, 0, 0, 0, 0, 0, 0, 0, [], 0, 0, []⟩ := ⟨z8, z16, z16, z32, z32, z8, z16, z16, Wf.nil, z8, z8, Wf.nil⟩
   rw [puts_eq w1 w2 ⟨by show ([] : List Int).length ≤ _; simp, by show (List.replicate (Int.toNat 65536) (0 : Int)).length ≤ _; rw [List.length_replicate]; omega⟩ n4 n4 (by omega), Option.bind_some, if_pos rfl, works_eq]
   rfl
theorem known_eq : F_law07_TransKnown = some true := by
 unfold F_law07_TransKnown F_law07_TransKnown_j1
 rw [if_pos (dT ⟨by omega, by unfold lim; omega⟩)]
 exact known_1 fuel0 0 [] rfl Wf.nil (by omega) (by unfold fuel0; omega)
end Go.Proofs.Ytcinagdkkclapaa
