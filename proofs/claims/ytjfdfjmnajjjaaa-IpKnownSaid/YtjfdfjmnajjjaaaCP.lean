/- The plain law of the chapter on IP's headers: how they are parsed, and hop. No program's code is named here. -/
import Derived.Test.YtjfdfjmnajjjaaaBP
set_option linter.unusedVariables false
namespace Go.Proofs.Ytjfdfjmnajjjaaa
open Go Go.Ox Go.RowKit

/-! ### What is parsed -/
def noH : T_ip_Header := ⟨0, 0, 0, false, false, 0, 0, 0, List.replicate 4 0, List.replicate 4 0, []⟩
def noR : T_ref05_Header := ⟨0, 0, 0, false, false, 0, 0, 0, ByteArray.empty, ByteArray.empty, ByteArray.empty⟩
def w2 (b : List Int) (i : Nat) : Int := b.getD i 0 * 256 + b.getD (i + 1) 0
def nn (b : List Int) : Nat := (b.getD 0 0 % 16 * 4).toNat
def hd (b : List Int) (n : Nat) : T_ip_Header := ⟨b.getD 1 0, w2 b 2, w2 b 4, decide (w2 b 6 / 16384 % 2 = 1), decide (w2 b 6 / 8192 % 2 = 1), w2 b 6 % 8192, b.getD 8 0, b.getD 9 0, (b.drop 12).take 4, (b.drop 16).take 4, (b.drop 20).take (n - 20)⟩
def pr (b : List Int) : T_ip_Header × Int × Int :=
  if b.length < 20 then (noH, 0, 10) else
  if b.getD 0 0 / 16 ≠ 4 then (noH, 0, 50) else
  if nn b < 20 then (noH, 0, 51) else
  if b.length < nn b then (noH, 0, 10) else
  if 32768 ≤ w2 b 6 ∨ w2 b 2 < nn b then (noH, 0, 51) else
  if ws (b.take (nn b)) % 65535 ≠ 0 then (noH, 0, 52) else (hd b (nn b), nn b, 0)
theorem gDb {b : List Int} (hw : Wf 256 b) (i : Nat) : 0 ≤ b.getD i 0 ∧ b.getD i 0 < 256 := by
  by_cases h : i < b.length
  · have := hw.get (List.getElem?_eq_getElem h)
    simpa [List.getD, h] using this
  · simp [List.getD, h]
theorem gD {b : List Int} {i : Int} (h0 : 0 ≤ i) (h1 : i < b.length) : gidx b i = some (b.getD i.toNat 0) := by
  rw [gidx_in h0 h1]
  simp [List.getD, (by omega : i.toNat < b.length)]
theorem two_at {b : List Int} {i : Nat} (h : i + 2 ≤ b.length) : (b.drop i).take 2 = [b.getD i 0, b.getD (i + 1) 0] := by
  rw [List.drop_eq_getElem_cons (by omega : i < b.length), List.drop_eq_getElem_cons (by omega : i + 1 < b.length)]
  show [b[i], b[i + 1]] = _
  simp [List.getD, (by omega : i < b.length), (by omega : i + 1 < b.length)]
theorem w2_bd {b : List Int} (hw : Wf 256 b) (i : Nat) : 0 ≤ w2 b i ∧ w2 b i < 65536 := by
  have h0 := gDb hw i; have h1 := gDb hw (i + 1); unfold w2; omega
theorem gt2 {b : List Int} {i : Nat} (h : i + 2 ≤ b.length) : gt b (i : Int) 2 = (w2 b i, 0) := by
  unfold gt
  rw [if_neg (by omega), if_neg (by omega), Int.toNat_natCast, show Int.toNat 2 = 2 from rfl, two_at h]
  simp [val, vl, w2]
theorem word_eq {b : List Int} (hw : Wf 256 b) (hl : b.length < 1000000) {i : Nat} (h : i + 2 ≤ b.length) : F_ip_word b (i : Int) = some (w2 b i) := by
  have hb := w2_bd hw i
  unfold F_ip_word
  rw [bget_eq hw (by omega) ⟨by omega, by omega⟩, Option.bind_some, gt2 h, wu16i (by omega) (by omega)]
theorem rword_eq {b : List Int} (hw : Wf 256 b) (hl : b.length < 1000000) {i : Nat} (h : i + 2 ≤ b.length) : F_ref01_Get b (i : Int) 2 = some (w2 b i, 0) := by
  rw [rget_eq hw (by omega) ⟨by omega, by omega⟩, gt2 h]
theorem shr4 {x : Int} (h : 0 ≤ x) : Ox.shr .u8 x 4 = x / 16 := by
  show x.fdiv (2 ^ (min 4 8)) = _
  rw [Int.fdiv_eq_ediv_of_nonneg _ (by decide)]
  rfl
theorem nn_bd {b : List Int} (hw : Wf 256 b) : (nn b : Int) = b.getD 0 0 % 16 * 4 ∧ nn b ≤ 60 := by
  have := gDb hw 0; unfold nn; omega
theorem parse_eq {b : List Int} (hw : Wf 256 b) (hl : b.length < 1000000) : F_ip_Parse b = some (pr b) := by
  unfold F_ip_Parse pr
  by_cases h1 : b.length < 20
  · rw [if_pos (dT (by omega)), if_pos h1]; rfl
  rw [if_neg (dF (by omega)), if_neg h1]
  have hb0 := gDb hw 0
  have hn := nn_bd hw
  have g0 : gidx b 0 = some (b.getD 0 0) := gD (by omega) (by omega)
  rw [g0, Option.bind_some, Option.bind_some, shr4 hb0.1]
  have eN : IntKind.i64.wrap ((IntKind.i64.wrap (bits .and .u8 (b.getD 0 0) 15)) * 4) = (nn b : Int) := by
    rw [u8and hb0.1 hb0.2, wi64 (n := b.getD 0 0 % 16) (by omega) (by omega), wi64 (by omega) (by omega)]; omega
  by_cases h2 : b.getD 0 0 / 16 ≠ 4
  · rw [if_pos (nT h2), if_pos h2]; rfl
  rw [if_neg (nF (by omega)), if_neg h2, eN]
  by_cases h3 : nn b < 20
  · rw [if_pos (dT (by omega)), if_pos h3]; rfl
  rw [if_neg (dF (by omega)), if_neg h3]
  by_cases h4 : b.length < nn b
  · rw [if_pos (dT (by omega)), if_pos h4]; rfl
  rw [if_neg (dF (by omega)), if_neg h4]
  have g1 : gidx b 1 = some (b.getD 1 0) := gD (by omega) (by omega)
  have g8 : gidx b 8 = some (b.getD 8 0) := gD (by omega) (by omega)
  have g9 : gidx b 9 = some (b.getD 9 0) := gD (by omega) (by omega)
  have k6 : F_ip_word b 6 = some (w2 b 6) := word_eq hw hl (i := 6) (by omega)
  have k2 : F_ip_word b 2 = some (w2 b 2) := word_eq hw hl (i := 2) (by omega)
  have k4 : F_ip_word b 4 = some (w2 b 4) := word_eq hw hl (i := 4) (by omega)
  have b6 := w2_bd hw 6; have b2 := w2_bd hw 2
  have c12 : gcut b 12 (b.length) = some (b.drop 12) := gcut_l (by omega) (by omega)
  have c16 : gcut b 16 (b.length) = some (b.drop 16) := gcut_l (by omega) (by omega)
  have c20 : gcut b 20 (nn b : Int) = some ((b.drop 20).take (nn b - 20)) := by rw [gcut_in (by omega) (by omega) (by omega)]; rfl
  rw [k6, Option.bind_some, g1, Option.bind_some, g8, Option.bind_some, g9, Option.bind_some, c12, Option.bind_some, if_pos (dT (by simp; omega)), c16, Option.bind_some, if_pos (dT (by simp; omega)), c20, Option.bind_some, k2, Option.bind_some, k4, Option.bind_some, clone_eq (by simp; omega), Option.bind_some]
  unfold F_ip_Parse_j1
  have hbit : decide (0 < bits .and .u16 (w2 b 6) 32768) = decide (w2 b 6 / 32768 % 2 = 1) := u16bit b6.1 b6.2 (i := 15) (by decide)
  have hdf : decide (0 < bits .and .u16 (w2 b 6) 16384) = decide (w2 b 6 / 16384 % 2 = 1) := u16bit b6.1 b6.2 (i := 14) (by decide)
  have hmf : decide (0 < bits .and .u16 (w2 b 6) 8192) = decide (w2 b 6 / 8192 % 2 = 1) := u16bit b6.1 b6.2 (i := 13) (by decide)
  rw [hbit, eN, wi64 (n := w2 b 2) (by omega) (by omega)]
  unfold F_ip_Parse_j2
  by_cases h5 : 32768 ≤ w2 b 6
  · rw [if_pos (dT (by omega)), if_pos rfl, if_pos (.inl h5)]; rfl
  rw [if_neg (dF (by omega))]
  by_cases h6 : w2 b 2 < nn b
  · rw [if_pos (dT (by omega)), if_pos (.inr h6)]; rfl
  have c0 : gcut b 0 (nn b : Int) = some (b.take (nn b)) := by rw [gcut_in (by omega) (by omega) (by omega)]; simp
  rw [if_neg (dF (by omega)), if_neg (by omega), eN, c0, Option.bind_some, whole_eq (one_wf (hw.take _)) (by simp) (by simp [lens]; omega), Option.bind_some, fldz (ws_bd ((one_wf (hw.take _)).flat)).1, hdf, hmf, u16and b6.1 b6.2, arrT (by simp; omega), arrT (by simp; omega)]
  have ef : [b.take (nn b)].flatten = b.take (nn b) := by simp
  rw [ef]
  by_cases h7 : ws (b.take (nn b)) % 65535 = 0
  · rw [if_neg (by simp [h7]), if_neg (by omega)]; rfl
  · rw [if_pos (by simp [h7]), if_pos h7]; rfl
def rq (p : T_ip_Header × Int × Int) : T_ref05_Header × Int × Int := if p.2.2 = 0 then (rH p.1, p.2.1, 0) else (noR, 0, p.2.2)
def rpr (b : List Int) : T_ref05_Header × Int × Int := rq (pr b)
theorem rparse_eq {b : List Int} (hw : Wf 256 b) (hl : b.length < 100000) : F_ref05_Parse b = some (rpr b) := by
  unfold F_ref05_Parse rpr pr
  by_cases h1 : b.length < 20
  · rw [if_pos (dT (by omega)), if_pos h1]; rfl
  rw [if_neg (dF (by omega)), if_neg h1]
  have hb0 := gDb hw 0
  have hn := nn_bd hw
  have g0 : gidx b 0 = some (b.getD 0 0) := gD (by omega) (by omega)
  rw [g0, Option.bind_some, Option.bind_some, tdiv_nn hb0.1, wu8i (by omega) (by omega), tmod_nn hb0.1]
  have eN : IntKind.i64.wrap ((IntKind.i64.wrap (b.getD 0 0 % 16)) * 4) = (nn b : Int) := by
    rw [wi64 (n := b.getD 0 0 % 16) (by omega) (by omega), wi64 (by omega) (by omega)]; omega
  by_cases h2 : b.getD 0 0 / 16 ≠ 4
  · rw [if_pos (nT h2), if_pos h2]; rfl
  rw [if_neg (nF (by omega)), if_neg h2, eN]
  by_cases h3 : nn b < 20
  · rw [if_pos (dT (by omega)), if_pos h3]; rfl
  rw [if_neg (dF (by omega)), if_neg h3]
  by_cases h4 : b.length < nn b
  · rw [if_pos (dT (by omega)), if_pos h4]; rfl
  rw [if_neg (dF (by omega)), if_neg h4]
  have k6 : F_ref01_Get b 6 2 = some (w2 b 6, 0) := rword_eq hw (by omega) (i := 6) (by omega)
  have k2 : F_ref01_Get b 2 2 = some (w2 b 2, 0) := rword_eq hw (by omega) (i := 2) (by omega)
  have k4 : F_ref01_Get b 4 2 = some (w2 b 4, 0) := rword_eq hw (by omega) (i := 4) (by omega)
  have b6 := w2_bd hw 6; have b2 := w2_bd hw 2; have b4 := w2_bd hw 4
  rw [k2, Option.bind_some, k4, Option.bind_some, k6, Option.bind_some]
  unfold F_ref05_Parse_j1
  dsimp only
  rw [tmod_nn hb0.1, eN, wi64 (n := w2 b 2) (by omega) (by omega)]
  by_cases h5 : 32768 ≤ w2 b 6
  · rw [if_pos (dT h5), if_pos rfl, if_pos (.inl h5)]; rfl
  rw [if_neg (dF h5)]
  by_cases h6 : w2 b 2 < nn b
  · rw [if_pos (dT (by omega)), if_pos (.inr h6)]; rfl
  have c0 : gcut b 0 (nn b : Int) = some (b.take (nn b)) := by rw [gcut_in (by omega) (by omega) (by omega)]; simp
  rw [if_neg (dF (by omega)), if_neg (by omega), c0, Option.bind_some, rwhole_eq (hw.take _) (by simp; omega), Option.bind_some, fldz (ws_bd (hw.take _)).1]
  by_cases h7 : ws (b.take (nn b)) % 65535 = 0
  · have g1 : gidx b 1 = some (b.getD 1 0) := gD (by omega) (by omega)
    have g8 : gidx b 8 = some (b.getD 8 0) := gD (by omega) (by omega)
    have g9 : gidx b 9 = some (b.getD 9 0) := gD (by omega) (by omega)
    have c12 : gcut b 12 16 = some ((b.drop 12).take 4) := by rw [gcut_in (by omega) (by omega) (by omega)]; rfl
    have c16 : gcut b 16 20 = some ((b.drop 16).take 4) := by rw [gcut_in (by omega) (by omega) (by omega)]; rfl
    have c20 : gcut b 20 (nn b : Int) = some ((b.drop 20).take (nn b - 20)) := by rw [gcut_in (by omega) (by omega) (by omega)]; rfl
    rw [if_neg (by simp [h7]), if_neg (by omega), g1, Option.bind_some, g8, Option.bind_some, g9, Option.bind_some, c12, Option.bind_some, c16, Option.bind_some, c20, Option.bind_some, tdiv_nn b6.1, tdiv_nn b6.1, wu64i (n := w2 b 6 / 16384) (by omega) (by omega), wu64i (n := w2 b 6 / 8192) (by omega) (by omega), tmod_nn (a := w2 b 6 / 16384) (by omega), tmod_nn (a := w2 b 6 / 8192) (by omega), tmod_nn b6.1, wu16i b2.1 b2.2, wu16i b4.1 b4.2, wu16i (n := w2 b 6 % 8192) (by omega) (by omega)]
    rfl
  · rw [if_pos (by simp [h7]), if_pos h7]; rfl

/-! ### Bodies, and hops -/
theorem pr_ok {b : List Int} (h : (pr b).2.2 = 0) : 20 ≤ b.length ∧ b.getD 0 0 / 16 = 4 ∧ 20 ≤ nn b ∧ nn b ≤ b.length ∧ w2 b 6 < 32768 ∧ nn b ≤ w2 b 2 ∧ ws (b.take (nn b)) % 65535 = 0 ∧ pr b = (hd b (nn b), ((nn b : Nat) : Int), 0) := by
  unfold pr at h ⊢
  by_cases h1 : b.length < 20
  · rw [if_pos h1] at h; cases h
  rw [if_neg h1] at h ⊢
  by_cases h2 : b.getD 0 0 / 16 ≠ 4
  · rw [if_pos h2] at h; cases h
  rw [if_neg h2] at h ⊢
  by_cases h3 : nn b < 20
  · rw [if_pos h3] at h; cases h
  rw [if_neg h3] at h ⊢
  by_cases h4 : b.length < nn b
  · rw [if_pos h4] at h; cases h
  rw [if_neg h4] at h ⊢
  by_cases h5 : 32768 ≤ w2 b 6 ∨ w2 b 2 < nn b
  · rw [if_pos h5] at h; cases h
  rw [if_neg h5] at h ⊢
  by_cases h6 : ws (b.take (nn b)) % 65535 ≠ 0
  · rw [if_pos h6] at h; cases h
  rw [if_neg h6]
  exact ⟨by omega, by omega, by omega, by omega, by omega, by omega, by omega, rfl⟩
theorem wh_no : WH noH := ⟨by decide, by decide, by decide, by decide, by decide, by decide, rfl, fun x hx => by simp [noH] at hx; omega, rfl, fun x hx => by simp [noH] at hx; omega, fun x hx => by simp [noH] at hx⟩
theorem wh_hd {b : List Int} (hw : Wf 256 b) (h : 20 ≤ b.length) (n : Nat) : WH (hd b n) := by
  have h2 := w2_bd hw 2; have h4 := w2_bd hw 4; have h6 := w2_bd hw 6
  exact ⟨gDb hw 1, h2, h4, by show 0 ≤ w2 b 6 % 8192 ∧ w2 b 6 % 8192 < 65536; omega, gDb hw 8, gDb hw 9, by simp [hd]; omega, (hw.drop _).take _, by simp [hd]; omega, (hw.drop _).take _, (hw.drop _).take _⟩
theorem pr_bad {b : List Int} (h : ¬ (pr b).2.2 = 0) : (pr b).1 = noH ∧ (pr b).2.1 = 0 := by
  unfold pr at h ⊢
  by_cases h1 : b.length < 20
  · rw [if_pos h1]; exact ⟨rfl, rfl⟩
  rw [if_neg h1] at h ⊢
  by_cases h2 : b.getD 0 0 / 16 ≠ 4
  · rw [if_pos h2]; exact ⟨rfl, rfl⟩
  rw [if_neg h2] at h ⊢
  by_cases h3 : nn b < 20
  · rw [if_pos h3]; exact ⟨rfl, rfl⟩
  rw [if_neg h3] at h ⊢
  by_cases h4 : b.length < nn b
  · rw [if_pos h4]; exact ⟨rfl, rfl⟩
  rw [if_neg h4] at h ⊢
  by_cases h5 : 32768 ≤ w2 b 6 ∨ w2 b 2 < nn b
  · rw [if_pos h5]; exact ⟨rfl, rfl⟩
  rw [if_neg h5] at h ⊢
  by_cases h6 : ws (b.take (nn b)) % 65535 ≠ 0
  · rw [if_pos h6]; exact ⟨rfl, rfl⟩
  rw [if_neg h6] at h; exact (h rfl).elim
theorem wh_pr {b : List Int} (hw : Wf 256 b) : WH (pr b).1 := by
  by_cases h : (pr b).2.2 = 0
  · have := pr_ok h
    rw [this.2.2.2.2.2.2.2]
    exact wh_hd hw this.1 _
  · rw [(pr_bad h).1]; exact wh_no
def bd (b : List Int) : List Int × Int := if (pr b).2.2 ≠ 0 then ([], (pr b).2.2) else if (b.length : Int) < (pr b).1.f_Total then ([], 10) else ((b.drop (nn b)).take ((pr b).1.f_Total.toNat - nn b), 0)
theorem body_eq {b : List Int} (hw : Wf 256 b) (hl : b.length < 1000000) : F_ip_Body b = some (bd b) := by
  unfold F_ip_Body bd
  rw [parse_eq hw hl, Option.bind_some]
  by_cases h : (pr b).2.2 = 0
  · have hq := pr_ok h
    rw [if_neg (nF h), if_neg (show ¬ (pr b).2.2 ≠ 0 by omega), hq.2.2.2.2.2.2.2]
    have b2 := w2_bd hw 2
    show (if decide ((b.length : Int) < IntKind.i64.wrap (w2 b 2)) = true then _ else (gcut b (nn b : Int) (w2 b 2)).bind _) = some (if (b.length : Int) < w2 b 2 then _ else _)
    rw [wi64 (by omega) (by omega)]
    by_cases h2 : (b.length : Int) < w2 b 2
    · rw [if_pos (dT h2), if_pos h2]
    · rw [if_neg (dF h2), if_neg h2, gcut_in (by omega) (by omega) (by omega), Option.bind_some, clone_eq (by simp; omega), Option.bind_some, Int.toNat_natCast]
      rfl
  · rw [if_pos (nT h), if_pos h]
theorem rbody_eq {b : List Int} (hw : Wf 256 b) (hl : b.length < 100000) : F_ref05_Body b = some (bd b) := by
  unfold F_ref05_Body bd
  rw [rparse_eq hw hl, Option.bind_some]
  unfold rpr rq
  by_cases h : (pr b).2.2 = 0
  · have hq := pr_ok h
    rw [if_pos h, if_neg (nF rfl), if_neg (show ¬ (pr b).2.2 ≠ 0 by omega), hq.2.2.2.2.2.2.2]
    have b2 := w2_bd hw 2
    show (if decide ((b.length : Int) < IntKind.i64.wrap (w2 b 2)) = true then _ else (gcut b (nn b : Int) (w2 b 2)).bind _) = some (if (b.length : Int) < w2 b 2 then _ else _)
    rw [wi64 (by omega) (by omega)]
    by_cases h2 : (b.length : Int) < w2 b 2
    · rw [if_pos (dT h2), if_pos h2]
    · rw [if_neg (dF h2), if_neg h2, gcut_in (by omega) (by omega) (by omega), Option.bind_some, Int.toNat_natCast]
      rfl
  · rw [if_neg h, if_pos (nT h), if_pos h]
def cs (b : List Int) : Int := 65535 - fld (65535 - w2 b 10 + (65535 - w2 b 8) + w2 (b.set 8 (b.getD 8 0 - 1)) 8)
def hpd (b : List Int) : List Int := (((b.set 8 (b.getD 8 0 - 1)).set 10 (cs b / 256)).set 11 (cs b % 256))
def hp (b : List Int) : List Int × Int := if (pr b).2.2 ≠ 0 then ([], (pr b).2.2) else if (pr b).1.f_TTL = 0 then ([], 51) else (hpd b, 0)
theorem cs_bd {b : List Int} (hw : Wf 256 b) (h8 : b.getD 8 0 ≠ 0) : 0 ≤ cs b ∧ cs b < 65536 := by
  have h := gDb hw 8
  have a := w2_bd hw 10; have c := w2_bd hw 8; have d := w2_bd (hw.set 8 (x := b.getD 8 0 - 1) (by omega)) 8
  have := fld_bd (n := 65535 - w2 b 10 + (65535 - w2 b 8) + w2 (b.set 8 (b.getD 8 0 - 1)) 8) (by omega)
  unfold cs; omega
theorem shr8' {x : Int} (h : 0 ≤ x) : Ox.shr .u16 x 8 = x / 256 := by
  show x.fdiv (2 ^ (min 8 16)) = _
  rw [Int.fdiv_eq_ediv_of_nonneg _ (by decide)]
  rfl
theorem hop_eq {b : List Int} (hw : Wf 256 b) (hl : b.length < 1000000) : F_ip_Hop b = some (hp b) := by
  unfold F_ip_Hop hp
  rw [parse_eq hw hl, Option.bind_some]
  by_cases h : (pr b).2.2 = 0
  · have hq := pr_ok h
    have ht : (pr b).1.f_TTL = b.getD 8 0 := by rw [hq.2.2.2.2.2.2.2]; rfl
    rw [if_neg (nF h), if_neg (show ¬ (pr b).2.2 ≠ 0 by omega), ht]
    by_cases h0 : b.getD 8 0 = 0
    · rw [if_pos (by simpa using h0), if_pos h0]
    have hb := gDb hw 8
    have hw' := hw.set 8 (x := b.getD 8 0 - 1) (by omega)
    have hL := hq.1
    have g8 : gidx b 8 = some (b.getD 8 0) := gD (by omega) (by omega)
    have k10 : F_ip_word b 10 = some (w2 b 10) := word_eq hw hl (i := 10) (by omega)
    have k8 : F_ip_word b 8 = some (w2 b 8) := word_eq hw hl (i := 8) (by omega)
    have k8' : F_ip_word (b.set 8 (b.getD 8 0 - 1)) 8 = some (w2 (b.set 8 (b.getD 8 0 - 1)) 8) := word_eq hw' (by simp; omega) (i := 8) (by simp; omega)
    have hc := cs_bd hw h0
    rw [if_neg (by simpa using h0), if_neg h0, clone_eq hl, Option.bind_some, g8, Option.bind_some, Option.bind_some, k10, Option.bind_some, k8, Option.bind_some, wu8i (n := b.getD 8 0 - 1) (by omega) (by omega), show (8 : Int).toNat = 8 from rfl, k8', Option.bind_some, change_eq (w2_bd hw 10) (w2_bd hw 8) (w2_bd hw' 8), Option.bind_some]
    show (gidx (b.set 8 (b.getD 8 0 - 1)) 10).bind _ = _
    obtain ⟨x, hx⟩ : ∃ x, gidx (b.set 8 (b.getD 8 0 - 1)) 10 = some x := ⟨_, gidx_in (by omega) (by simp; omega)⟩
    rw [hx, Option.bind_some]
    obtain ⟨y, hy⟩ : ∃ y, gidx ((b.set 8 (b.getD 8 0 - 1)).set (Int.toNat 10) (IntKind.u8.wrap (Ox.shr .u16 (cs b) 8))) 11 = some y := ⟨_, gidx_in (by omega) (by simp; omega)⟩
    refine Eq.trans (congrArg (Option.bind · _) hy) ?_
    rw [Option.bind_some]
    show some (((b.set 8 (b.getD 8 0 - 1)).set 10 (IntKind.u8.wrap (Ox.shr .u16 (cs b) 8))).set 11 (IntKind.u8.wrap (cs b)), (0 : Int)) = _
    rw [shr8' hc.1, wu8i (n := cs b / 256) (by omega) (by omega), wu8]
    rfl
  · rw [if_pos (nT h), if_pos h]
theorem rhop_eq {b : List Int} (hw : Wf 256 b) (hl : b.length < 100000) : F_ref05_Hop b = some (hp b) := by
  unfold F_ref05_Hop hp
  rw [rparse_eq hw hl, Option.bind_some]
  unfold rpr rq
  by_cases h : (pr b).2.2 = 0
  · have hq := pr_ok h
    have ht : (rH (pr b).1).f_TTL = b.getD 8 0 := by rw [hq.2.2.2.2.2.2.2]; rfl
    have ht' : (pr b).1.f_TTL = b.getD 8 0 := by rw [hq.2.2.2.2.2.2.2]; rfl
    rw [if_pos h, if_neg (nF rfl), if_neg (show ¬ (pr b).2.2 ≠ 0 by omega), ht', ht]
    by_cases h0 : b.getD 8 0 = 0
    · rw [if_pos (by simpa using h0), if_pos h0]
    have hb := gDb hw 8
    have hw' := hw.set 8 (x := b.getD 8 0 - 1) (by omega)
    have hL := hq.1
    have g8 : gidx b 8 = some (b.getD 8 0) := gD (by omega) (by omega)
    have k10 : F_ref01_Get b 10 2 = some (w2 b 10, 0) := rword_eq hw (by omega) (i := 10) (by omega)
    have k8 : F_ref01_Get b 8 2 = some (w2 b 8, 0) := rword_eq hw (by omega) (i := 8) (by omega)
    have k8' : F_ref01_Get (b.set 8 (b.getD 8 0 - 1)) 8 2 = some (w2 (b.set 8 (b.getD 8 0 - 1)) 8, 0) := rword_eq hw' (by simp; omega) (i := 8) (by simp; omega)
    have hc := cs_bd hw h0
    have q1 := w2_bd hw 10; have q2 := w2_bd hw 8; have q3 := w2_bd hw' 8
    rw [if_neg (by simpa using h0), if_neg h0, join_eq (by simp) (by omega), Option.bind_some, List.nil_append, g8, Option.bind_some, Option.bind_some, k10, Option.bind_some, k8, Option.bind_some, wu8i (n := b.getD 8 0 - 1) (by omega) (by omega), show (8 : Int).toNat = 8 from rfl, k8', Option.bind_some, wu16i q1.1 q1.2, wu16i q2.1 q2.2, wu16i q3.1 q3.2, rchange_eq q1 q2 q3, Option.bind_some]
    show (F_ref01_Put (IntKind.u64.wrap (cs b)) 2).bind _ = _
    rw [wu64i (n := cs b) (by omega) (by omega), rput2 ⟨by omega, by omega⟩, Option.bind_some, show gidx [cs b / 256 % 256, cs b % 256] 0 = some (cs b / 256 % 256) from rfl, show gidx [cs b / 256 % 256, cs b % 256] 1 = some (cs b % 256) from rfl, Option.bind_some]
    obtain ⟨x, hx⟩ : ∃ x, gidx (b.set 8 (b.getD 8 0 - 1)) 10 = some x := ⟨_, gidx_in (by omega) (by simp; omega)⟩
    rw [hx, Option.bind_some, Option.bind_some]
    obtain ⟨y, hy⟩ : ∃ y, gidx ((b.set 8 (b.getD 8 0 - 1)).set (Int.toNat 10) (cs b / 256 % 256)) 11 = some y := ⟨_, gidx_in (by omega) (by simp; omega)⟩
    refine Eq.trans (congrArg (Option.bind · _) hy) ?_
    rw [Option.bind_some, show cs b / 256 % 256 = cs b / 256 by omega]
    rfl
  · rw [if_neg h, if_pos (nT h), if_pos h]

/-! ### IpParses -/
theorem spoil4 {t : Int} {rec : Int → Option Bool} : ∀ (k i : Nat) (l : List Int), i ≤ l.length → l.length < k + i → l.length ≤ 1000 →
    F_law05_IpParses_L4 t rec k l (i : Int) = rec (IntKind.i64.wrap (t + 1))
  | 0, i, l, h1, h2, _ => by omega
  | k + 1, i, l, h1, h2, h3 => by
    show F_law05_IpParses_l4 (F_law05_IpParses_L4 t rec k) t rec l (i : Int) = _
    unfold F_law05_IpParses_l4
    by_cases hlt : i < l.length
    · rw [if_pos (dT (by omega)), gidx_nat (List.getElem?_eq_getElem hlt), Option.bind_some, Option.bind_some, wi64 (n := (i : Int) + 1) (by omega) (by omega), show ((i : Int) + 1) = ((i + 1 : Nat) : Int) by omega]
      exact spoil4 k (i + 1) _ (by simp; omega) (by simp; omega) (by simp; omega)
    · rw [if_neg (dF (by omega))]
theorem spoil3 {t : Int} {rec : Int → Option Bool} {y : List Int × Int} : ∀ (k i : Nat) (l : List Int), i ≤ l.length → l.length < k + i → l.length ≤ 1000 →
    F_law05_IpParses_L3 t rec y k l (i : Int) = F_law05_IpParses_L4 t rec fuel0 y.1 0
  | 0, i, l, h1, h2, _ => by omega
  | k + 1, i, l, h1, h2, h3 => by
    show F_law05_IpParses_l3 (F_law05_IpParses_L3 t rec y k) t rec y l (i : Int) = _
    unfold F_law05_IpParses_l3
    by_cases hlt : i < l.length
    · rw [if_pos (dT (by omega)), gidx_nat (List.getElem?_eq_getElem hlt), Option.bind_some, Option.bind_some, wi64 (n := (i : Int) + 1) (by omega) (by omega), show ((i : Int) + 1) = ((i + 1 : Nat) : Int) by omega]
      exact spoil3 k (i + 1) _ (by simp; omega) (by simp; omega) (by simp; omega)
    · rw [if_neg (dF (by omega))]
theorem spoil2 {t : Int} {rec : Int → Option Bool} {y z : List Int × Int} : ∀ (k i : Nat) (l : List Int), i ≤ l.length → l.length < k + i → l.length ≤ 1000 →
    F_law05_IpParses_L2 t rec z y k l (i : Int) = F_law05_IpParses_L3 t rec y fuel0 z.1 0
  | 0, i, l, h1, h2, _ => by omega
  | k + 1, i, l, h1, h2, h3 => by
    show F_law05_IpParses_l2 (F_law05_IpParses_L2 t rec z y k) t rec z y l (i : Int) = _
    unfold F_law05_IpParses_l2
    by_cases hlt : i < l.length
    · rw [if_pos (dT (by omega)), gidx_nat (List.getElem?_eq_getElem hlt), Option.bind_some, Option.bind_some, wi64 (n := (i : Int) + 1) (by omega) (by omega), show ((i : Int) + 1) = ((i + 1 : Nat) : Int) by omega]
      exact spoil2 k (i + 1) _ (by simp; omega) (by simp; omega) (by simp; omega)
    · rw [if_neg (dF (by omega))]
theorem pad_no : F_law05_pad noR = some (rH noH) := by
  unfold F_law05_pad
  rw [if_pos (show (noR.f_Src.toList == (⟨#[]⟩ : ByteArray).toList) = true from beq_self_eq_true _)]
  rfl
theorem toList_len (a : ByteArray) : a.toList.length = a.size := by rw [ByteArray.toList_eq]; simp
theorem pad_ok {h : T_ip_Header} (w : WH h) : F_law05_pad (rH h) = some (rH h) := by
  unfold F_law05_pad F_law05_pad_j1
  rw [if_neg]
  intro h'
  have h2 := congrArg List.length (eq_of_beq h')
  rw [toList_len, toList_len] at h2
  have h3 : (rH h).f_Src.size = 4 := (str_size _).trans w.srcl
  rw [h3] at h2
  cases h2
theorem parses_eq {b : List Int} (hw : Wf 256 b) : F_law05_IpParses b = some true := by
  unfold F_law05_IpParses
  by_cases h : 300 < (b.length : Int)
  · rw [if_pos (dT h), works_eq]; rfl
  rw [if_neg (dF h), join_eq (by simp) (by omega), Option.bind_some, List.nil_append, rparse_eq hw (by omega), Option.bind_some, rbody_eq hw (by omega), Option.bind_some, rhop_eq hw (by omega), Option.bind_some]
  have hbl : (bd b).1.length ≤ 1000 := by
    unfold bd; split
    · simp
    · split
      · simp
      · simp; omega
  have hhl : (hp b).1.length ≤ 1000 := by
    unfold hp; split
    · simp
    · split
      · simp
      · simp [hpd]; omega
  have hol : (pr b).1.f_Options.length ≤ 1000 := by
    by_cases h0 : (pr b).2.2 = 0
    · rw [(pr_ok h0).2.2.2.2.2.2.2]; simp [hd]; omega
    · rw [(pr_bad h0).1]; simp [noH]
  have loop : ∀ (k : Nat) (t : Nat), t ≤ 2 → 2 < k + t → F_law05_IpParses_L1 b b (rpr b) (bd b) (hp b) k (t : Int) = some true := by
    intro k
    induction k with
    | zero => intro t h1 h2; omega
    | succ k ih =>
      intro t h1 h2
      show F_law05_IpParses_l1 (F_law05_IpParses_L1 b b (rpr b) (bd b) (hp b) k) b b (rpr b) (bd b) (hp b) (t : Int) = _
      unfold F_law05_IpParses_l1
      by_cases ht : t < 2
      · have e1 : (pr b).2.2 = (rpr b).2.2 := by unfold rpr rq; split <;> simp_all
        have e2 : (pr b).2.1 = (rpr b).2.1 := by
          unfold rpr rq; split
          · rfl
          · rename_i h0; exact (pr_bad h0).2
        have e3 : F_law05_pad (rpr b).1 = some (rH (pr b).1) := by
          unfold rpr rq; split
          · exact pad_ok (wh_pr hw)
          · rename_i h0; rw [(pr_bad h0).1]; exact pad_no
        rw [if_pos (dT (by omega)), parse_eq hw (by omega), Option.bind_some, body_eq hw (by omega), Option.bind_some, hop_eq hw (by omega), Option.bind_some, if_neg (nF e1), if_neg (nF e2), docs_eq (wh_pr hw), Option.bind_some, e3, Option.bind_some, q_refl, if_neg (by decide), if_neg (nF rfl), same_eq, Option.bind_some, if_neg (by decide), if_neg (nF rfl), same_eq, Option.bind_some]
        unfold F_law05_IpParses_j1
        rw [if_neg (by decide)]
        refine Eq.trans (spoil2 fuel0 0 _ (Nat.zero_le _) (by unfold fuel0; omega) hol) ?_
        refine Eq.trans (spoil3 fuel0 0 _ (Nat.zero_le _) (by unfold fuel0; omega) hbl) ?_
        refine Eq.trans (spoil4 fuel0 0 _ (Nat.zero_le _) (by unfold fuel0; omega) hhl) ?_
        rw [wi64 (by omega) (by omega)]
        exact ih (t + 1) (by omega) (by omega)
      · rw [if_neg (dF (by omega)), same_eq, Option.bind_some, if_pos rfl, works_eq]; rfl
  exact loop fuel0 0 (by omega) (by unfold fuel0; omega)
end Go.Proofs.Ytjfdfjmnajjjaaa
