/- Plain text: TransPuts. -/
import Derived.Test.YtcinagdkkclapaaCP
set_option linter.unusedVariables false
namespace Go.Proofs.Ytcinagdkkclapaa
open Go Go.Ox Go.RowKit
/-! ### What is right -/
theorem fin_spec {s : T_trans_Segment} {h : Int} (hf : fin s h = true) : (s.f_Options.length % 4 = 0) ∧ s.f_Options.length ≤ 40 ∧ h + (s.f_Options.length : Int) + (s.f_Data.length : Int) ≤ 65535 := by
 unfold fin at hf
 simp only [Bool.and_eq_true, beq_iff_eq, decide_eq_true_eq] at hf
 obtain ⟨h1, h2, h3⟩ := hf
 have e : Int.tmod (s.f_Options.length : Int) 4 = ((s.f_Options.length % 4 : Nat) : Int) := rfl
 rw [e] at h1
 exact ⟨by omega, by omega, h3⟩
theorem zt_spec {s : T_trans_Segment} (hz : zt s = true) : s.f_Seq = 0 ∧ s.f_Ack = 0 ∧ s.f_Flags = 0 ∧ s.f_Window = 0 ∧ s.f_Urgent = 0 ∧ s.f_Options = [] := by
 unfold zt at hz
 simpa only [Bool.and_eq_true, beq_iff_eq] using hz
structure RT (s : T_trans_Segment) : Prop where
 mod : s.f_Options.length % 4 = 0
 le : s.f_Options.length ≤ 40
 all : hd s.f_Proto + (s.f_Options.length : Int) + (s.f_Data.length : Int) ≤ 65535
 six : s.f_Proto = 6 → s.f_Type = 0 ∧ s.f_Code = 0
 udp : s.f_Proto = 17 → s.f_Seq = 0 ∧ s.f_Ack = 0 ∧ s.f_Flags = 0 ∧ s.f_Window = 0 ∧ s.f_Urgent = 0 ∧ s.f_Options = [] ∧ s.f_Type = 0 ∧ s.f_Code = 0
 icmp : (s.f_Proto = 1 ∨ s.f_Proto = 58) → s.f_Seq = 0 ∧ s.f_Ack = 0 ∧ s.f_Flags = 0 ∧ s.f_Window = 0 ∧ s.f_Urgent = 0 ∧ s.f_Options = [] ∧ s.f_Src = 0 ∧ s.f_Dst = 0
 one : s.f_Proto = 6 ∨ s.f_Proto = 17 ∨ s.f_Proto = 1 ∨ s.f_Proto = 58
theorem rt_spec {s : T_trans_Segment} (h : rt s = true) : RT s := by
 unfold rt at h
 by_cases h6 : s.f_Proto = 6
 ·rw [if_pos h6] at h
  simp only [Bool.and_eq_true, beq_iff_eq] at h
  obtain ⟨h1, h2⟩ := h
  obtain ⟨f1, f2, f3⟩ := fin_spec h2
  exact ⟨f1, f2, by unfold hd; rw [if_pos h6]; exact f3, fun _ => h1, fun h => by omega, fun h => by omega, .inl h6⟩
 ·rw [if_neg h6] at h
  by_cases h17 : s.f_Proto = 17
  ·rw [if_pos h17] at h
   simp only [Bool.and_eq_true, beq_iff_eq] at h
   obtain ⟨⟨h1, h3⟩, h2⟩ := h
   obtain ⟨f1, f2, f3⟩ := fin_spec h2
   obtain ⟨z1, z2, z3, z4, z5, z6⟩ := zt_spec h1
   exact ⟨f1, f2, by unfold hd; rw [if_neg h6, if_pos h17]; exact f3, fun h => by omega, fun _ => ⟨z1, z2, z3, z4, z5, z6, h3.1, h3.2⟩, fun h => by omega, .inr (.inl h17)⟩
  ·rw [if_neg h17] at h
   by_cases h1 : s.f_Proto = 1 ∨ s.f_Proto = 58
   ·rw [if_pos h1] at h
    simp only [Bool.and_eq_true, beq_iff_eq] at h
    obtain ⟨⟨g1, g3⟩, h2⟩ := h
    obtain ⟨f1, f2, f3⟩ := fin_spec h2
    obtain ⟨z1, z2, z3, z4, z5, z6⟩ := zt_spec g1
    exact ⟨f1, f2, by unfold hd; rw [if_neg h6, if_neg h17, if_pos h1]; exact f3, fun h => by omega, fun h => by omega, fun _ => ⟨z1, z2, z3, z4, z5, z6, g3.1, g3.2⟩, .inr (.inr h1)⟩
   ·rw [if_neg h1] at h; cases h
theorem hd6 : hd 6 = 20 := rfl
theorem hd17 : hd 17 = 8 := rfl
theorem hd1 : hd 1 = 4 := rfl
theorem hd58 : hd 58 = 4 := rfl
theorem RT.hpos {s : T_trans_Segment} (r : RT s) : 4 ≤ hd s.f_Proto ∧ hd s.f_Proto ≤ 20 := by
 rcases r.one with h | h | h | h <;> rw [h] <;> simp [hd]
theorem RT.dlen {s : T_trans_Segment} (r : RT s) : s.f_Data.length ≤ 65531 := by have := r.all; have := r.hpos; omega
theorem RT.ulen {s : T_trans_Segment} (r : RT s) (h : s.f_Proto = 17) : s.f_Data.length ≤ 65527 := by have := r.all; rw [h, hd17] at this; omega
/-! ### Sums -/
def nn (s : T_trans_Segment) : Int := hd s.f_Proto + (s.f_Options.length : Int) + (s.f_Data.length : Int)
def ah (s : T_trans_Segment) (src dst : List Int) : List Int := (pso s.f_Proto (nn s) src dst).1
def ck (s : T_trans_Segment) (src dst : List Int) : Int :=
 if 65535 - fld (ws (ah s src dst ++ st s 0)) = 0 ∧ s.f_Proto = 17 then 65535 else 65535 - fld (ws (ah s src dst ++ st s 0))
theorem ps_wf {p n : Int} {src dst : List Int} (hp : 0 ≤ p ∧ p < 256) (ws_ : Wf 256 src) (wd : Wf 256 dst) : Wf 256 (ps p n src dst) := by
 unfold ps
 split
 ·exact ((ws_.app wd).app (Wf.cons (by omega) (Wf.cons hp Wf.nil))).app (put_wf _ _)
 ·exact ((ws_.app wd).app (put_wf _ _)).app (put_wf _ _)
theorem pso_wf {p n : Int} {src dst : List Int} (hp : 0 ≤ p ∧ p < 256) (ws_ : Wf 256 src) (wd : Wf 256 dst) : Wf 256 (pso p n src dst).1 := by
 unfold pso
 split
 ·exact Wf.nil
 ·split
  ·exact Wf.nil
  ·exact ps_wf hp ws_ wd
theorem ps_len (p n : Int) {src dst : List Int} (hs : src.length ≤ 40) (hd : dst.length ≤ 40) : (ps p n src dst).length ≤ 100 := by
 unfold ps
 split <;> simp [put_len] <;> omega
theorem pso_len (p n : Int) {src dst : List Int} (hs : src.length ≤ 40) (hd : dst.length ≤ 40) : (pso p n src dst).1.length ≤ 100 := by
 unfold pso
 split
 ·simp
 ·split
  ·simp
  ·exact ps_len p n hs hd
theorem sa_wf {s : T_trans_Segment} (w : WS s) (ho : s.f_Options.length ≤ 40) : Wf 256 (sa s) := by
 unfold sa
 split
 ·exact ((((((put_wf _ _).app (put_wf _ _)).app (put_wf _ _)).app (put_wf _ _)).app (Wf.cons ⟨by omega, by omega⟩ Wf.nil)).app (Wf.cons w.fl Wf.nil)).app (put_wf _ _)
 ·split
  ·exact ((put_wf _ _).app (put_wf _ _)).app (put_wf _ _)
  ·exact (Wf.cons w.ty Wf.nil).app (Wf.cons w.co Wf.nil)
theorem sb_wf {s : T_trans_Segment} (w : WS s) : Wf 256 (sb s) := by
 unfold sb
 split
 ·exact ((put_wf _ _).app w.op).app w.da
 ·exact w.da
theorem st_wf {s : T_trans_Segment} (w : WS s) (ho : s.f_Options.length ≤ 40) (c : Int) : Wf 256 (st s c) := ((sa_wf w ho).app (put_wf _ _)).app (sb_wf w)
theorem fld_rng {b : List Int} (h : Wf 256 b) : 0 ≤ 65535 - fld (ws b) ∧ 65535 - fld (ws b) < 65536 := by
 have := fld_bd (ws_bd h).1; omega
theorem ck_rng {s : T_trans_Segment} {src dst : List Int} (w : WS s) (ho : s.f_Options.length ≤ 40) (ws_ : Wf 256 src) (wd : Wf 256 dst) : 0 ≤ ck s src dst ∧ ck s src dst < 65536 := by
 have := fld_rng ((pso_wf (n := nn s) w.pr ws_ wd).app (st_wf w ho 0))
 unfold ck ah
 split <;> omega
/-! ### Put -/
theorem sets {s : T_trans_Segment} (hl : (st s 0).length < 1000000) {p : Int} (hp : p = ((sa s).length : Int)) {n : Int} (hn : 0 ≤ n ∧ n < 65536) : (F_bits_Writer_Set ⟨st s 0⟩ p (IntKind.u64.wrap n) 2).bind (fun y => (F_bits_Writer_Bytes y.2).bind fun z => some (z.1, (0 : Int))) = some (st s n, 0) := by
 have hlen : (st s 0).length = (sa s).length + 2 + (sb s).length := by unfold st; simp [put_len]; omega
 have e1 : (st s 0).take (sa s).length = sa s := by unfold st; rw [List.append_assoc]; simp
 have e2 : (st s 0).drop ((sa s).length + 2) = sb s := by
  unfold st
  rw [List.drop_append_of_le_length (by simp [put_len])]
  rw [List.drop_of_length_le (by simp [put_len])]
  rfl
 have hn2 : (st s n).length < 1000000 := by
  have : (st s n).length = (sa s).length + 2 + (sb s).length := by unfold st; simp [put_len]; omega
  omega
 rw [wu64i hn.1 (by omega), wset_eq hl (f2 hn).1, Option.bind_some, (f2 hn).2, hp, if_pos (by simp; omega)]
 dsimp only
 rw [show (((sa s).length : Int) + 2).toNat = (sa s).length + 2 by omega, Int.toNat_natCast, e1, e2]
 show (F_bits_Writer_Bytes ⟨st s n⟩).bind _ = _
 rw [wbytes_eq hn2]
 rfl
theorem tcpb : ∀ o : Fin 41, o.val % 4 = 0 → IntKind.u64.wrap (Ox.shl .i64 (IntKind.i64.wrap (Int.tdiv (IntKind.i64.wrap (20 + (o.val : Int))) 4)) 4) = 80 + 4 * (o.val : Int) := by decide +kernel
theorem putTCP_eq {s : T_trans_Segment} (w : WS s) (r : RT s) (h6 : s.f_Proto = 6) : F_trans_putTCP ⟨[]⟩ s = some ⟨sa s ++ put 2 0 ++ (put 2 s.f_Urgent ++ s.f_Options)⟩ := by
 have u : ∀ v : Int, 0 ≤ v → v < 4294967296 → IntKind.u64.wrap v = v := fun v h0 h1 => wu64i h0 (by omega)
 have ho := r.le
 have hb : IntKind.u64.wrap (Ox.shl .i64 (IntKind.i64.wrap (Int.tdiv (IntKind.i64.wrap (20 + (s.f_Options.length : Int))) 4)) 4) = 80 + 4 * (s.f_Options.length : Int) := tcpb ⟨s.f_Options.length, by omega⟩ r.mod
 have hsr := w.sr; have hds := w.ds; have hsq := w.sq; have hak := w.ak; have hfl := w.fl; have hwi := w.wi; have hur := w.ur
 unfold F_trans_putTCP F_bits_Writer_Raw
 rw [hb, u _ hsr.1 (by omega), u _ hds.1 (by omega), u _ hsq.1 hsq.2, u _ hak.1 hak.2, u _ hfl.1 (by omega), u _ hwi.1 (by omega), u _ hur.1 (by omega)]
 rw [teach_eq (n := 2) (fun v hv => by
  simp only [List.mem_cons, List.not_mem_nil, or_false] at hv
  rcases hv with rfl | rfl
  ·exact f2 hsr
  ·exact f2 hds) (by simp) (by simp), Option.bind_some]
 rw [teach_eq (n := 4) (fun v hv => by
  simp only [List.mem_cons, List.not_mem_nil, or_false] at hv
  rcases hv with rfl | rfl
  ·exact f4 hsq
  ·exact f4 hak) (by simp) (by simp [put_len]), Option.bind_some]
 rw [teach_eq (n := 1) (fun v hv => by
  simp only [List.mem_cons, List.not_mem_nil, or_false] at hv
  rcases hv with rfl | rfl
  ·exact f1 ⟨by omega, by omega⟩
  ·exact f1 hfl) (by simp) (by simp [put_len]), Option.bind_some]
 rw [teach_eq (n := 2) (fun v hv => by
  simp only [List.mem_cons, List.not_mem_nil, or_false] at hv
  rcases hv with rfl | rfl | rfl
  ·exact f2 hwi
  ·exact f2 (by omega)
  ·exact f2 hur) (by simp) (by simp [put_len]), Option.bind_some]
 dsimp only
 rw [if_pos (limk (by simp [put_len]; omega)), Option.bind_some]
 unfold sa
 rw [if_pos h6]
 simp only [List.flatMap_cons, List.flatMap_nil, List.append_nil, List.nil_append]
 rw [show (1 : Int).toNat = 1 from rfl, show (2 : Int).toNat = 2 from rfl, show (4 : Int).toNat = 4 from rfl, put1 ⟨by omega, by omega⟩, put1 hfl]
 simp only [List.append_assoc]
theorem putUDP_eq {s : T_trans_Segment} (w : WS s) (r : RT s) (h : s.f_Proto = 17) : F_trans_putUDP ⟨[]⟩ s = some ⟨sa s ++ put 2 0⟩ := by
 have hsr := w.sr; have hds := w.ds; have hl := r.ulen h
 have u : ∀ v : Int, 0 ≤ v → v < 4294967296 → IntKind.u64.wrap v = v := fun v h0 h1 => wu64i h0 (by omega)
 unfold F_trans_putUDP
 rw [u _ hsr.1 (by omega), u _ hds.1 (by omega), wi64 (by omega) (by omega), u _ (by omega) (by omega)]
 rw [teach_eq (n := 2) (fun v hv => by
  simp only [List.mem_cons, List.not_mem_nil, or_false] at hv
  rcases hv with rfl | rfl | rfl | rfl
  ·exact f2 hsr
  ·exact f2 hds
  ·exact f2 ⟨by omega, by omega⟩
  ·exact f2 (by omega)) (by simp) (by simp), Option.bind_some]
 unfold sa
 rw [if_neg (by omega), if_pos h]
 simp only [List.flatMap_cons, List.flatMap_nil, List.append_nil, List.nil_append]
 rw [show (2 : Int).toNat = 2 from rfl]
 simp only [List.append_assoc]
theorem putICMP_eq {s : T_trans_Segment} (w : WS s) (h : s.f_Proto = 1 ∨ s.f_Proto = 58) : F_trans_putICMP ⟨[]⟩ s = some ⟨sa s ++ put 2 0⟩ := by
 have hty := w.ty; have hco := w.co
 unfold F_trans_putICMP
 rw [wu64i hty.1 (by omega), wu64i hco.1 (by omega)]
 rw [teach_eq (n := 1) (fun v hv => by
  simp only [List.mem_cons, List.not_mem_nil, or_false] at hv
  rcases hv with rfl | rfl
  ·exact f1 hty
  ·exact f1 hco) (by simp) (by simp), Option.bind_some]
 rw [teach_eq (n := 2) (fun v hv => by
  simp only [List.mem_cons, List.not_mem_nil, or_false] at hv
  rcases hv with rfl
  exact f2 (by omega)) (by simp) (by simp [put_len]), Option.bind_some]
 unfold sa
 rw [if_neg (by omega), if_neg (by omega)]
 simp only [List.flatMap_cons, List.flatMap_nil, List.append_nil, List.nil_append]
 rw [show (1 : Int).toNat = 1 from rfl, show (2 : Int).toNat = 2 from rfl, put1 hty, put1 hco]
def pt (s : T_trans_Segment) (src dst : List Int) : List Int × Int :=
 if hd s.f_Proto = 0 then ([], 70) else if rt s = false then ([], 51) else if (pso s.f_Proto (nn s) src dst).2 = false then ([], 2) else (st s (ck s src dst), 0)
structure AD (src dst : List Int) : Prop where
 sl : src.length ≤ 40
 dl : dst.length ≤ 40
 sw : Wf 256 src
 dw : Wf 256 dst
theorem sa_len {s : T_trans_Segment} (h : RT s) : ((sa s).length : Int) = if s.f_Proto = 6 then 16 else if s.f_Proto = 17 then 6 else 2 := by
 unfold sa
 split
 ·simp [put_len]
 ·split
  ·simp [put_len]
  ·simp
/-- The end of Put, alike for all protocols. -/
theorem put_end {s : T_trans_Segment} {src dst : List Int} (w : WS s) (r : RT s) (a : AD src dst) {p : Int} (hp : p = ((sa s).length : Int)) {x : T_bits_Writer} (hx : x.f_b ++ s.f_Data = st s 0) :
  ((F_bits_Writer_Raw x s.f_Data).bind fun y95 => (F_bits_Writer_Bytes y95.2).bind fun y103 => (F_sum_Of [ah s src dst, y103.1]).bind fun y116 =>
   if (y116 == 0) = true then (if (s.f_Proto == 17) = true then (F_bits_Writer_Set y103.2 p (IntKind.u64.wrap 65535) 2).bind (fun y => (F_bits_Writer_Bytes y.2).bind fun z => some (z.1, (0 : Int))) else (F_bits_Writer_Set y103.2 p (IntKind.u64.wrap y116) 2).bind (fun y => (F_bits_Writer_Bytes y.2).bind fun z => some (z.1, (0 : Int))))
   else (if false = true then (F_bits_Writer_Set y103.2 p (IntKind.u64.wrap 65535) 2).bind (fun y => (F_bits_Writer_Bytes y.2).bind fun z => some (z.1, (0 : Int))) else (F_bits_Writer_Set y103.2 p (IntKind.u64.wrap y116) 2).bind (fun y => (F_bits_Writer_Bytes y.2).bind fun z => some (z.1, (0 : Int))))) = some (st s (ck s src dst), 0) := by
 have hl : (st s 0).length < 100000 := by have := st_len s 0; have := r.le; have := r.dlen; omega
 have hal : (ah s src dst).length ≤ 100 := pso_len _ _ a.sl a.dl
 have haw : Wf 256 (ah s src dst) := pso_wf w.pr a.sw a.dw
 have hsw := st_wf w r.le 0
 unfold F_bits_Writer_Raw
 rw [hx, if_pos (limk (by rw [← List.length_append, hx]; omega)), Option.bind_some]
 dsimp only
 rw [wbytes_eq (by omega), Option.bind_some]
 dsimp only
 rw [sof_eq (two_wf haw hsw) (by simp) (by simp [lens]; omega), Option.bind_some]
 have hfl : [ah s src dst, st s 0].flatten = ah s src dst ++ st s 0 := by simp
 rw [hfl]
 have hr := fld_rng (haw.app hsw)
 unfold ck
 by_cases h0 : 65535 - fld (ws (ah s src dst ++ st s 0)) = 0
 ·rw [if_pos (by simpa using h0)]
  by_cases h17 : s.f_Proto = 17
  ·rw [if_pos (by simpa using h17), if_pos ⟨h0, h17⟩]
   exact sets (by omega) hp (by omega)
  ·rw [if_neg (by simpa using h17), if_neg (fun h => h17 h.2)]
   exact sets (by omega) hp hr
 ·rw [if_neg (by simpa using h0), if_neg (by decide), if_neg (fun h => h0 h.1)]
  exact sets (by omega) hp hr
theorem nn_rng {s : T_trans_Segment} (r : RT s) : 0 ≤ nn s ∧ nn s ≤ 65535 := by have := r.all; have := r.hpos; unfold nn; omega
theorem put_eq {s : T_trans_Segment} {src dst : List Int} (w : WS s) (n : NL s) (a : AD src dst) : F_trans_Put s src dst = some (pt s src dst) := by
 have hn : ∀ h : Int, 0 ≤ h ∧ h ≤ 100 → IntKind.i64.wrap (IntKind.i64.wrap (h + (s.f_Options.length : Int)) + (s.f_Data.length : Int)) = h + (s.f_Options.length : Int) + (s.f_Data.length : Int) := fun h hh => wlen hh ⟨by omega, by have := n.1; omega⟩ ⟨by omega, by have := n.2; omega⟩
 unfold F_trans_Put F_trans_protocols pt
 rw [Option.bind_some]
 have hnn : ∀ h, hd s.f_Proto = h → nn s = h + (s.f_Options.length : Int) + (s.f_Data.length : Int) := fun h e => by unfold nn; rw [e]
 by_cases h6 : s.f_Proto = 6
 ·have e : hd s.f_Proto = 20 := by rw [h6]; rfl
  rw [if_pos (by simpa using h6), e, if_neg (by decide), right_eq w n, Option.bind_some]
  cases hr : rt s with
  | false => rfl
  | true =>
   have r := rt_spec hr
   rw [if_neg (by decide), if_neg (by decide), hn 20 (by omega), ← hnn 20 e, pseudo_eq w.pr (nn_rng r) a.sl a.dl, Option.bind_some]
   unfold F_trans_Put_j1 F_trans_Put_j3 F_trans_Put_j2
   cases hp : (pso s.f_Proto (nn s) src dst).2 with
   | false => rfl
   | true =>
    rw [if_neg (by decide), if_neg (by decide), putTCP_eq w r h6, Option.bind_some]
    exact put_end w r a (by rw [sa_len r, if_pos h6]) (by unfold st sb; rw [if_pos h6]; simp only [List.append_assoc])
 ·rw [if_neg (by simpa using h6)]
  by_cases h17 : s.f_Proto = 17
  ·have e : hd s.f_Proto = 8 := by rw [h17]; rfl
   rw [if_pos (by simpa using h17), e, if_neg (by decide), right_eq w n, Option.bind_some]
   cases hr : rt s with
   | false => rfl
   | true =>
    have r := rt_spec hr
    rw [if_neg (by decide), if_neg (by decide), hn 8 (by omega), ← hnn 8 e, pseudo_eq w.pr (nn_rng r) a.sl a.dl, Option.bind_some]
    unfold F_trans_Put_j4 F_trans_Put_j6 F_trans_Put_j5
    cases hp : (pso s.f_Proto (nn s) src dst).2 with
    | false => rfl
    | true =>
     rw [if_neg (by decide), if_neg (by decide), putUDP_eq w r h17, Option.bind_some]
     exact put_end w r a (by rw [sa_len r, if_neg h6, if_pos h17]) (by unfold st sb; rw [if_neg h6])
  ·rw [if_neg (by simpa using h17)]
   by_cases h1 : s.f_Proto = 1
   ·have e : hd s.f_Proto = 4 := by rw [h1]; rfl
    rw [if_pos (by simpa using h1), e, if_neg (by decide), right_eq w n, Option.bind_some]
    cases hr : rt s with
    | false => rfl
    | true =>
     have r := rt_spec hr
     rw [if_neg (by decide), if_neg (by decide), hn 4 (by omega), ← hnn 4 e, pseudo_eq w.pr (nn_rng r) a.sl a.dl, Option.bind_some]
     unfold F_trans_Put_j7 F_trans_Put_j9 F_trans_Put_j8
     cases hp : (pso s.f_Proto (nn s) src dst).2 with
     | false => rfl
     | true =>
      rw [if_neg (by decide), if_neg (by decide), putICMP_eq w (.inl h1), Option.bind_some]
      exact put_end w r a (by rw [sa_len r, if_neg h6, if_neg h17]) (by unfold st sb; rw [if_neg h6])
   ·rw [if_neg (by simpa using h1)]
    by_cases h58 : s.f_Proto = 58
    ·have e : hd s.f_Proto = 4 := by rw [h58]; rfl
     rw [if_pos (by simpa using h58), e, if_neg (by decide), right_eq w n, Option.bind_some]
     cases hr : rt s with
     | false => rfl
     | true =>
      have r := rt_spec hr
      rw [if_neg (by decide), if_neg (by decide), hn 4 (by omega), ← hnn 4 e, pseudo_eq w.pr (nn_rng r) a.sl a.dl, Option.bind_some]
      unfold F_trans_Put_j10 F_trans_Put_j12 F_trans_Put_j11
      cases hp : (pso s.f_Proto (nn s) src dst).2 with
      | false => rfl
      | true =>
       rw [if_neg (by decide), if_neg (by decide), putICMP_eq w (.inr h58), Option.bind_some]
       exact put_end w r a (by rw [sa_len r, if_neg h6, if_neg h17]) (by unfold st sb; rw [if_neg h6])
    ·have e : hd s.f_Proto = 0 := by unfold hd; rw [if_neg h6, if_neg h17, if_neg (by omega)]
     rw [if_neg (by simpa using h58), e, if_pos rfl]
theorem rput7_eq {s : T_trans_Segment} {src dst : List Int} (w : WS s) (n : NL s) (a : AD src dst) : F_ref07_Put (r7 s) (strOfNums src) (strOfNums dst) = some (pt s src dst) := by
 have c1 : ∀ c : Int, 0 ≤ c ∧ c < 65536 → RT s → F_ref07_Put_j1 (r7 s) c = some (st s c, 0) := fun c hc r => by
  unfold F_ref07_Put_j1
  rw [rstands_eq w r.le (by have := r.dlen; omega) r.ulen hc, Option.bind_some, if_pos (limk (by rw [str_size]; have := st_len s c; have := r.le; have := r.dlen; omega)), nums_str (st_wf w r.le c)]
 unfold F_ref07_Put pt
 show (F_ref07_Head s.f_Proto).bind _ = _
 rw [head_eq, Option.bind_some]
 by_cases h0 : hd s.f_Proto = 0
 ·rw [if_pos (by simpa using h0), if_pos h0]
 ·rw [if_neg (by simpa using h0), if_neg h0, rright_eq w n, Option.bind_some]
  cases hr : rt s with
  | false => rfl
  | true =>
   have r := rt_spec hr
   rw [if_neg (by decide), if_neg (by decide), rlen_eq n, Option.bind_some]
   show (F_ref07_pseudo s.f_Proto (nn s) (strOfNums src) (strOfNums dst)).bind _ = _
   rw [rpseudo_eq w.pr (nn_rng r) a.sl a.dl, Option.bind_some]
   cases hp : (pso s.f_Proto (nn s) src dst).2 with
   | false => rfl
   | true =>
    have hl : (st s 0).length < 90000 := by have := st_len s 0; have := r.le; have := r.dlen; omega
    have hal : (ah s src dst).length ≤ 100 := pso_len _ _ a.sl a.dl
    have haw : Wf 256 (ah s src dst) := pso_wf w.pr a.sw a.dw
    have hsw := st_wf w r.le 0
    have hrn := fld_rng (haw.app hsw)
    rw [if_neg (by decide), if_neg (by decide), rstands_eq w r.le (by have := r.dlen; omega) r.ulen (by omega), Option.bind_some]
    dsimp only
    show (if decide ((strOfNums (ah s src dst)).size + (strOfNums (st s 0)).size ≤ lim) = true then (if decide ((strOfNums (ah s src dst) ++ strOfNums (st s 0)).size ≤ lim) = true then (F_ref03_Of (numsOfStr (strOfNums (ah s src dst) ++ strOfNums (st s 0)))).bind _ else none) else none) = _
    rw [str_app, str_size, str_size, str_size, if_pos (limk (by omega)), if_pos (limk (by simp; omega)), nums_str (haw.app hsw), rof_eq (haw.app hsw) (by simp; omega), Option.bind_some]
    unfold F_ref07_Put_j2 ck
    by_cases g0 : 65535 - fld (ws (ah s src dst ++ st s 0)) = 0
    ·rw [if_pos (by simpa using g0)]
     show (if (s.f_Proto == 17) = true then _ else _) = _
     by_cases h17 : s.f_Proto = 17
     ·rw [if_pos (by simpa using h17), if_pos ⟨g0, h17⟩]
      exact c1 _ (by omega) r
     ·rw [if_neg (by simpa using h17), if_neg (fun h => h17 h.2)]
      exact c1 _ hrn r
    ·rw [if_neg (by simpa using g0), if_neg (by decide), if_neg (fun h => g0 h.1)]
     exact c1 _ hrn r
/-! ### The law -/
theorem few_eq (s : T_trans_Segment) : ∃ b, F_law07_few s = some b := by
 unfold F_law07_few F_law07_few_j1
 split
 ·split <;> exact ⟨_, rfl⟩
 ·exact ⟨_, rfl⟩
theorem inc_L (t : Int) (rec) : ∀ (f i : Nat) (b : List Int), i ≤ b.length → b.length < f + i → b.length < 1000000000 → F_law07_TransPuts_L2 t rec f b (i : Int) = rec (IntKind.i64.wrap (t + 1))
 | 0, i, b, h1, h2, h3 => by omega
 | f + 1, i, b, h1, h2, h3 => by
  show F_law07_TransPuts_l2 (F_law07_TransPuts_L2 t rec f) t rec b (i : Int) = _
  unfold F_law07_TransPuts_l2
  by_cases h : i < b.length
  ·rw [if_pos (dT (by omega)), gidx_nat (List.getElem?_eq_getElem h), Option.bind_some, Option.bind_some, show IntKind.i64.wrap ((i : Int) + 1) = ((i + 1 : Nat) : Int) by rw [wi64 (by omega) (by omega)]; omega]
   exact inc_L t rec f (i + 1) _ (by rw [List.length_set]; omega) (by rw [List.length_set]; omega) (by rw [List.length_set]; omega)
  ·rw [if_neg (dF (by omega))]
theorem pt_len {s : T_trans_Segment} {src dst : List Int} : (pt s src dst).1.length < 1000000000 := by
 unfold pt
 split
 ·simp
 ·split
  ·simp
  ·split
   ·simp
   ·rename_i h1 h2 h3
    have r := rt_spec (Bool.not_eq_false _ ▸ h2 : rt s = true)
    have := st_len s (ck s src dst); have := r.le; have := r.dlen
    show (st s (ck s src dst)).length < _
    omega
theorem puts_eq {s o : T_trans_Segment} {src dst : List Int} {f : Int} (w : WS s) (wo : WS o) (n : NL s) (hs : Wf 256 src) (hd_ : Wf 256 dst) (hf : 0 ≤ f ∧ f < 256) : F_law07_TransPuts s o src dst f = some true := by
 have bad : F_law07_TransPuts_j1 s o src dst f true = some true := by
  unfold F_law07_TransPuts_j1
  rw [if_pos rfl, works_eq]; rfl
 have good : src.length ≤ 40 → dst.length ≤ 40 → F_law07_TransPuts_j1 s o src dst f false = some true := fun h1 h2 => by
  have a : AD src dst := ⟨h1, h2, hs, hd_⟩
  obtain ⟨fs, g1, g2⟩ := flags_eq hf
  have step : ∀ (k : Nat) (t : Nat), t < 2 → F_law07_TransPuts_l1 (F_law07_TransPuts_L1 s o src dst f (r7 s) (pt s src dst) k) s o src dst f (r7 s) (pt s src dst) (t : Int) = F_law07_TransPuts_L1 s o src dst f (r7 s) (pt s src dst) k ((t + 1 : Nat) : Int) := fun k t ht => by
   unfold F_law07_TransPuts_l1
   rw [if_pos (dT (by omega)), put_eq w n a, Option.bind_some, if_neg (by simp), same_eq, Option.bind_some]
   unfold F_law07_TransPuts_j2
   rw [if_neg (by decide)]
   have := inc_L (t : Int) (F_law07_TransPuts_L1 s o src dst f (r7 s) (pt s src dst) k) fuel0 0 (pt s src dst).1 (by omega) (by have := pt_len (s := s) (src := src) (dst := dst); unfold fuel0; omega) pt_len
   refine Eq.trans this ?_
   rw [wi64 (by omega) (by omega)]
   rfl
  have last : ∀ rec, F_law07_TransPuts_l1 rec s o src dst f (r7 s) (pt s src dst) 2 = some true := fun rec => by
   unfold F_law07_TransPuts_l1 F_law07_TransPuts_j3
   rw [if_neg (by decide), right_eq w n, Option.bind_some, rright_eq w n, Option.bind_some, if_pos (by simp), tsame_eq w.op wo.op w.da wo.da, Option.bind_some, docs_eq, Option.bind_some, qseg_eq w.op wo.op w.da wo.da, if_pos (by simp), tsame_eq w.op w.op w.da w.da, Option.bind_some, sm_refl, if_pos rfl, docs_eq, Option.bind_some, qseg_eq w.op w.op w.da w.da, sm_refl, if_pos rfl, g1, Option.bind_some, g2, Option.bind_some, if_pos (by simp), works_eq]
   rfl
  unfold F_law07_TransPuts_j1
  rw [if_neg (by decide), docs_eq, Option.bind_some, rput7_eq w n a, Option.bind_some]
  have e : ∀ k, F_law07_TransPuts_L1 s o src dst f (r7 s) (pt s src dst) (k + 3) 0 = some true := fun k => by
   show F_law07_TransPuts_l1 (F_law07_TransPuts_L1 s o src dst f (r7 s) (pt s src dst) (k + 2)) s o src dst f (r7 s) (pt s src dst) ((0 : Nat) : Int) = _
   rw [step _ 0 (by decide)]
   show F_law07_TransPuts_l1 (F_law07_TransPuts_L1 s o src dst f (r7 s) (pt s src dst) (k + 1)) s o src dst f (r7 s) (pt s src dst) ((1 : Nat) : Int) = _
   rw [step _ 1 (by decide)]
   exact last _
  exact e 1099511627773
 obtain ⟨b1, f1_⟩ := few_eq s
 obtain ⟨b2, f2_⟩ := few_eq o
 unfold F_law07_TransPuts
 rw [f1_, Option.bind_some, f2_, Option.bind_some]
 cases b1 with
 | false => exact bad
 | true =>
  rw [if_neg (by decide)]
  cases b2 with
  | false => exact bad
  | true =>
   rw [if_neg (by decide)]
   by_cases h1 : 40 < (src.length : Int)
   ·rw [if_pos (dT h1)]; exact bad
   ·rw [if_neg (dF h1)]
    by_cases h2 : 40 < (dst.length : Int)
    ·rw [dT h2]; exact bad
    ·rw [decide_eq_false h2]; exact good (by omega) (by omega)
end Go.Proofs.Ytcinagdkkclapaa
