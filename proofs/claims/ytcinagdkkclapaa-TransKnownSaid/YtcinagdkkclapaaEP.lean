/- Plain text: TransParses. -/
import Derived.Test.YtcinagdkkclapaaDP
set_option linter.unusedVariables false
namespace Go.Proofs.Ytcinagdkkclapaa
open Go Go.Ox Go.RowKit
/-! ### Numbers that are read -/
def nm (b : List Int) (p n : Nat) : Int := val ((b.drop p).take n)
theorem nm_bd {b : List Int} (h : Wf 256 b) (p n : Nat) : 0 ≤ nm b p n ∧ nm b p n < 256 ^ n := by
 have hw : Wf 256 ((b.drop p).take n) := fun x hx => h x (List.mem_of_mem_drop (List.mem_of_mem_take hx))
 have h1 := vl_bd ((b.drop p).take n) 0 (by omega) hw
 have hl : ((b.drop p).take n).length ≤ n := by simp; omega
 have h2 := pmono hl
 have e : vl 0 ((b.drop p).take n) = nm b p n := rfl
 rw [e] at h1
 omega
theorem nm2 {b : List Int} (h : Wf 256 b) (p : Nat) : 0 ≤ nm b p 2 ∧ nm b p 2 < 65536 := by have := nm_bd h p 2; rw [q2] at this; exact this
theorem nm4 {b : List Int} (h : Wf 256 b) (p : Nat) : 0 ≤ nm b p 4 ∧ nm b p 4 < 4294967296 := by have := nm_bd h p 4; rw [q4] at this; exact this
theorem nm1 {b : List Int} {p : Nat} (hp : p < b.length) : nm b p 1 = b[p] := by
 unfold nm
 rw [List.drop_eq_getElem_cons hp, List.take_succ_cons, List.take_zero]
 simp [val, vl]
theorem gt_in {b : List Int} {p n : Nat} (h1 : 1 ≤ n) (h8 : n ≤ 8) (hp : p + n ≤ b.length) : gt b (p : Int) (n : Int) = (nm b p n, 0) := by
 unfold gt nm
 rw [if_neg (by omega), if_neg (by omega)]
 simp
theorem number_eq {b : List Int} (hw : Wf 256 b) (hl : b.length ≤ 65535) {p n : Nat} (h1 : 1 ≤ n) (h8 : n ≤ 8) (hp : p + n ≤ b.length) : F_trans_number ⟨b, (p : Int)⟩ (n : Int) = some (nm b p n, ⟨b, ((p + n : Nat) : Int)⟩) := by
 unfold F_trans_number F_bits_Reader_Get
 dsimp only
 rw [bget_eq hw (by omega) ⟨by omega, by omega⟩, gt_in h1 h8 hp, Option.bind_some]
 unfold F_bits_Reader_Get_j1
 rw [if_pos (show ((nm b p n, (0 : Int)).2 == 0) = true from rfl), Option.bind_some, wi64 (by omega) (by omega)]
 rfl
theorem take_in {b : List Int} (hl : b.length ≤ 65535) {p m : Nat} (hp : p + m ≤ b.length) : F_bits_Reader_Take ⟨b, (p : Int)⟩ (m : Int) = some ((b.drop p).take m, 0, ⟨b, ((p + m : Nat) : Int)⟩) := by
 unfold F_bits_Reader_Take F_bits_Reader_Left
 rw [if_neg (dF (by omega)), Option.bind_some]
 dsimp only
 rw [wi64 (n := (b.length : Int) - (p : Int)) (by omega) (by omega), if_neg (dF (by omega)), wi64 (by omega) (by omega), gcut_in (by omega) (by omega) (by omega), Option.bind_some]
 have e : ((p : Int) + (m : Int)).toNat - (p : Int).toNat = m := by omega
 rw [e, Int.toNat_natCast, clone_eq (by simp; omega), Option.bind_some]
 rfl
theorem take_out {b : List Int} (hl : b.length ≤ 65535) {p m : Nat} (hp0 : p ≤ b.length) (hm : m ≤ 1000000) (hp : b.length < p + m) : F_bits_Reader_Take ⟨b, (p : Int)⟩ (m : Int) = some ([], 10, ⟨b, (p : Int)⟩) := by
 unfold F_bits_Reader_Take F_bits_Reader_Left
 rw [if_neg (dF (by omega)), Option.bind_some]
 dsimp only
 rw [wi64 (n := (b.length : Int) - (p : Int)) (by omega) (by omega), if_pos (dT (by omega))]
theorem rest_eq {b : List Int} (hl : b.length ≤ 65535) {p : Nat} (hp : p ≤ b.length) : ∃ r, F_trans_rest ⟨b, (p : Int)⟩ = some (b.drop p, r) := by
 have h := take_in hl (p := p) (m := b.length - p) (by omega)
 unfold F_trans_rest
 have e : F_bits_Reader_Left ⟨b, (p : Int)⟩ = some (((b.length - p : Nat) : Int), ⟨b, (p : Int)⟩) := by
  unfold F_bits_Reader_Left
  dsimp only
  rw [wi64 (by omega) (by omega)]
  congr 2; omega
 rw [e, Option.bind_some]
 dsimp only
 rw [h, Option.bind_some]
 refine ⟨⟨b, ((p + (b.length - p) : Nat) : Int)⟩, ?_⟩
 rw [List.take_of_length_le (by simp)]
/-! ### Parse -/
def zs : T_trans_Segment := ⟨0, 0, 0, 0, 0, 0, 0, 0, [], 0, 0, []⟩
def tn (b : List Int) : Int := nm b 12 1 / 16 * 4
def prs (p : Int) (b : List Int) : T_trans_Segment × Int :=
 if hd p = 0 then (zs, 70) else if (b.length : Int) < hd p then (zs, 10) else if 65535 < b.length then (zs, 51) else
 if p = 6 then (if tn b < 20 then (zs, 51) else if (b.length : Int) < tn b then (zs, 10) else
  (⟨p, nm b 0 2, nm b 2 2, nm b 4 4, nm b 8 4, nm b 13 1, nm b 14 2, nm b 18 2, (b.drop 20).take ((tn b).toNat - 20), 0, 0, b.drop (tn b).toNat⟩, 0))
 else if p = 17 then (if nm b 4 2 < 8 then (zs, 51) else if (b.length : Int) < nm b 4 2 then (zs, 10) else
  (⟨p, nm b 0 2, nm b 2 2, 0, 0, 0, 0, 0, [], 0, 0, (b.drop 8).take ((nm b 4 2).toNat - 8)⟩, 0))
 else (⟨p, 0, 0, 0, 0, 0, 0, 0, [], nm b 0 1, nm b 1 1, b.drop 4⟩, 0)
theorem shr4 {v : Int} (h : 0 ≤ v) : Ox.shr .u64 v 4 = v / 16 := by
 show v.fdiv (2 ^ (min 4 64)) = _
 rw [Int.fdiv_eq_ediv_of_nonneg _ (by decide)]
 rfl
theorem nm1b {b : List Int} (h : Wf 256 b) (p : Nat) : 0 ≤ nm b p 1 ∧ nm b p 1 < 256 := by have := nm_bd h p 1; rw [q1] at this; exact this
theorem u32i {v : Int} (h : 0 ≤ v ∧ v < 4294967296) : IntKind.u32.wrap v = v := by rw [IntKind.wrap_u32]; omega
theorem tn_bd {b : List Int} (h : Wf 256 b) : 0 ≤ tn b ∧ tn b ≤ 60 := by have := nm1b h 12; unfold tn; omega
theorem readTCP_eq {b : List Int} (hw : Wf 256 b) (hl : b.length ≤ 65535) (h20 : 20 ≤ b.length) : ∃ r, F_trans_readTCP ⟨b, 0⟩ = some (if tn b < 20 then (zs, 51, r) else if (b.length : Int) < tn b then (zs, 10, r) else
  (⟨0, nm b 0 2, nm b 2 2, nm b 4 4, nm b 8 4, nm b 13 1, nm b 14 2, nm b 18 2, (b.drop 20).take ((tn b).toNat - 20), 0, 0, b.drop (tn b).toNat⟩, 0, r)) := by
 have n1 := fun p n h1 h8 hp => number_eq hw hl (p := p) (n := n) h1 h8 hp
 have ht := tn_bd hw
 have h12 := nm1b hw 12
 have em : IntKind.i64.wrap (IntKind.i64.wrap (IntKind.i64.wrap (Ox.shr .u64 (nm b 12 1) 4) * 4) - 20) = tn b - 20 := by
  rw [shr4 h12.1, wi64 (n := nm b 12 1 / 16) (by omega) (by omega), wi64 (n := nm b 12 1 / 16 * 4) (by omega) (by omega), wi64 (by omega) (by omega)]; rfl
 unfold F_trans_readTCP
 have s1 : F_trans_number ⟨b, 0⟩ 2 = _ := n1 0 2 (by omega) (by omega) (by omega)
 rw [s1, Option.bind_some]; dsimp only
 have s2 : F_trans_number ⟨b, ((0 + 2 : Nat) : Int)⟩ 2 = _ := n1 (0 + 2) 2 (by omega) (by omega) (by omega)
 rw [s2, Option.bind_some]; dsimp only
 have s3 : F_trans_number ⟨b, ((0 + 2 + 2 : Nat) : Int)⟩ 4 = _ := n1 (0 + 2 + 2) 4 (by omega) (by omega) (by omega)
 rw [s3, Option.bind_some]; dsimp only
 have s4 : F_trans_number ⟨b, ((0 + 2 + 2 + 4 : Nat) : Int)⟩ 4 = _ := n1 (0 + 2 + 2 + 4) 4 (by omega) (by omega) (by omega)
 rw [s4, Option.bind_some]; dsimp only
 have s5 : F_trans_number ⟨b, ((0 + 2 + 2 + 4 + 4 : Nat) : Int)⟩ 1 = _ := n1 (0 + 2 + 2 + 4 + 4) 1 (by omega) (by omega) (by omega)
 rw [s5, Option.bind_some]; dsimp only
 have s6 : F_trans_number ⟨b, ((0 + 2 + 2 + 4 + 4 + 1 : Nat) : Int)⟩ 1 = _ := n1 (0 + 2 + 2 + 4 + 4 + 1) 1 (by omega) (by omega) (by omega)
 rw [s6, Option.bind_some]; dsimp only
 have s7 : F_trans_number ⟨b, ((0 + 2 + 2 + 4 + 4 + 1 + 1 : Nat) : Int)⟩ 2 = _ := n1 (0 + 2 + 2 + 4 + 4 + 1 + 1) 2 (by omega) (by omega) (by omega)
 rw [s7, Option.bind_some]; dsimp only
 have s8 : F_trans_number ⟨b, ((0 + 2 + 2 + 4 + 4 + 1 + 1 + 2 : Nat) : Int)⟩ 2 = _ := n1 (0 + 2 + 2 + 4 + 4 + 1 + 1 + 2) 2 (by omega) (by omega) (by omega)
 rw [s8, Option.bind_some]; dsimp only
 have s9 : F_trans_number ⟨b, ((0 + 2 + 2 + 4 + 4 + 1 + 1 + 2 + 2 : Nat) : Int)⟩ 2 = _ := n1 (0 + 2 + 2 + 4 + 4 + 1 + 1 + 2 + 2) 2 (by omega) (by omega) (by omega)
 rw [s9, Option.bind_some]; dsimp only
 rw [show (0 + 2 + 2 + 4 + 4 : Nat) = 12 from rfl, em]
 have e20 : (0 + 2 + 2 + 4 + 4 + 1 + 1 + 2 + 2 + 2 : Nat) = 20 := rfl
 rw [e20]
 by_cases h1 : tn b < 20
 ·rw [if_pos (dT (by omega))]
  simp only [h1, ↓reduceIte]
  exact ⟨_, rfl⟩
 ·rw [if_neg (dF (by omega))]
  simp only [h1, ↓reduceIte]
  obtain ⟨m, hm⟩ := Int.eq_ofNat_of_zero_le (show 0 ≤ tn b - 20 by omega)
  rw [hm]
  by_cases h2 : (b.length : Int) < tn b
  ·rw [take_out hl h20 (by omega) (by omega), Option.bind_some]
   simp only [h2, ↓reduceIte]
   exact ⟨_, rfl⟩
  ·rw [take_in hl (by omega), Option.bind_some]
   simp only [h2, ↓reduceIte]
   rw [if_neg (by decide)]
   obtain ⟨r, hr⟩ := rest_eq hl (p := 20 + m) (by omega)
   rw [hr, Option.bind_some]
   dsimp only
   have a1 := nm2 hw 0; have a2 := nm2 hw 2; have a3 := nm4 hw 4; have a4 := nm4 hw 8; have a5 := nm1b hw 13; have a6 := nm2 hw 14; have a7 := nm2 hw 18
   refine ⟨r, ?_⟩
   rw [show (0 + 2 : Nat) = 2 from rfl, show (2 + 2 : Nat) = 4 from rfl, show (4 + 4 : Nat) = 8 from rfl, show (8 + 4 + 1 : Nat) = 13 from rfl, show (13 + 1 : Nat) = 14 from rfl, show (14 + 2 + 2 : Nat) = 18 from rfl,
    wu16i a1.1 a1.2, wu16i a2.1 a2.2, u32i a3, u32i a4, wu8i a5.1 a5.2, wu16i a6.1 a6.2, wu16i a7.1 a7.2, show (tn b).toNat - 20 = m by omega, show (tn b).toNat = 20 + m by omega]
theorem readUDP_eq {b : List Int} (hw : Wf 256 b) (hl : b.length ≤ 65535) (h8 : 8 ≤ b.length) : ∃ r, F_trans_readUDP ⟨b, 0⟩ = some (if nm b 4 2 < 8 then (zs, 51, r) else if (b.length : Int) < nm b 4 2 then (zs, 10, r) else
  (⟨0, nm b 0 2, nm b 2 2, 0, 0, 0, 0, 0, [], 0, 0, (b.drop 8).take ((nm b 4 2).toNat - 8)⟩, 0, r)) := by
 have n1 := fun p n h1 h8 hp => number_eq hw hl (p := p) (n := n) h1 h8 hp
 have ht := nm2 hw 4
 have em : IntKind.i64.wrap (IntKind.i64.wrap (nm b 4 2) - 8) = nm b 4 2 - 8 := by
  rw [wi64 (n := nm b 4 2) (by omega) (by omega), wi64 (by omega) (by omega)]
 unfold F_trans_readUDP
 have s1 : F_trans_number ⟨b, 0⟩ 2 = _ := n1 0 2 (by omega) (by omega) (by omega)
 rw [s1, Option.bind_some]; dsimp only
 have s2 : F_trans_number ⟨b, ((0 + 2 : Nat) : Int)⟩ 2 = _ := n1 (0 + 2) 2 (by omega) (by omega) (by omega)
 rw [s2, Option.bind_some]; dsimp only
 have s3 : F_trans_number ⟨b, ((0 + 2 + 2 : Nat) : Int)⟩ 2 = _ := n1 (0 + 2 + 2) 2 (by omega) (by omega) (by omega)
 rw [s3, Option.bind_some]; dsimp only
 have s4 : F_trans_number ⟨b, ((0 + 2 + 2 + 2 : Nat) : Int)⟩ 2 = _ := n1 (0 + 2 + 2 + 2) 2 (by omega) (by omega) (by omega)
 rw [s4, Option.bind_some]; dsimp only
 rw [show (0 + 2 + 2 + 2 + 2 : Nat) = 8 from rfl, show (0 + 2 + 2 : Nat) = 4 from rfl, show (0 + 2 : Nat) = 2 from rfl, em]
 by_cases h1 : nm b 4 2 < 8
 ·rw [if_pos (dT (by omega))]
  simp only [h1, ↓reduceIte]
  exact ⟨_, rfl⟩
 ·rw [if_neg (dF (by omega))]
  simp only [h1, ↓reduceIte]
  obtain ⟨m, hm⟩ := Int.eq_ofNat_of_zero_le (show 0 ≤ nm b 4 2 - 8 by omega)
  rw [hm]
  by_cases h2 : (b.length : Int) < nm b 4 2
  ·rw [take_out hl h8 (by omega) (by omega), Option.bind_some]
   simp only [h2, ↓reduceIte]
   exact ⟨_, rfl⟩
  ·rw [take_in hl (by omega), Option.bind_some]
   simp only [h2, ↓reduceIte]
   rw [if_neg (by decide)]
   have a1 := nm2 hw 0; have a2 := nm2 hw 2
   refine ⟨⟨b, ((8 + m : Nat) : Int)⟩, ?_⟩
   rw [wu16i a1.1 a1.2, wu16i a2.1 a2.2, show (nm b 4 2).toNat - 8 = m by omega]
theorem readICMP_eq {b : List Int} (hw : Wf 256 b) (hl : b.length ≤ 65535) (h4 : 4 ≤ b.length) : ∃ r, F_trans_readICMP ⟨b, 0⟩ = some (⟨0, 0, 0, 0, 0, 0, 0, 0, [], nm b 0 1, nm b 1 1, b.drop 4⟩, 0, r) := by
 have n1 := fun p n h1 h8 hp => number_eq hw hl (p := p) (n := n) h1 h8 hp
 unfold F_trans_readICMP
 have s1 : F_trans_number ⟨b, 0⟩ 1 = _ := n1 0 1 (by omega) (by omega) (by omega)
 rw [s1, Option.bind_some]; dsimp only
 have s2 : F_trans_number ⟨b, ((0 + 1 : Nat) : Int)⟩ 1 = _ := n1 (0 + 1) 1 (by omega) (by omega) (by omega)
 rw [s2, Option.bind_some]; dsimp only
 have s3 : F_trans_number ⟨b, ((0 + 1 + 1 : Nat) : Int)⟩ 2 = _ := n1 (0 + 1 + 1) 2 (by omega) (by omega) (by omega)
 rw [s3, Option.bind_some]; dsimp only
 obtain ⟨r, hr⟩ := rest_eq hl (p := 0 + 1 + 1 + 2) (by omega)
 rw [hr, Option.bind_some]
 dsimp only
 have a1 := nm1b hw 0; have a2 := nm1b hw 1
 refine ⟨r, ?_⟩
 rw [show (0 + 1 + 1 + 2 : Nat) = 4 from rfl, show (0 + 1 : Nat) = 1 from rfl, wu8i a1.1 a1.2, wu8i a2.1 a2.2]
theorem read_eq {b : List Int} (hl : b.length ≤ 65535) : F_bits_Read b = some ⟨b, 0⟩ := by
 unfold F_bits_Read
 rw [clone_eq (by omega), Option.bind_some]
theorem tparse_eq {p : Int} {b : List Int} (hw : Wf 256 b) : F_trans_Parse p b = some (prs p b) := by
 unfold F_trans_Parse F_trans_protocols prs
 rw [Option.bind_some]
 by_cases h6 : p = 6
 ·subst h6
  rw [if_pos (by decide), hd6, if_neg (show ¬ (20 : Int) = 0 by decide)]
  by_cases hs : (b.length : Int) < 20
  ·rw [if_pos (dT hs), if_pos hs]; rfl
  ·rw [if_neg (dF hs), if_neg hs]
   by_cases hg : 65535 < b.length
   ·rw [if_pos (dT (by omega)), if_pos hg]; rfl
   ·rw [if_neg (dF (by omega)), if_neg hg, if_pos rfl, read_eq (by omega), Option.bind_some]
    obtain ⟨r, hr⟩ := readTCP_eq hw (by omega) (by omega)
    rw [hr, Option.bind_some]
    unfold F_trans_Parse_j1
    by_cases g1 : tn b < 20
    ·rw [if_pos g1, if_pos g1]; rfl
    ·rw [if_neg g1, if_neg g1]
     by_cases g2 : (b.length : Int) < tn b
     ·rw [if_pos g2, if_pos g2]; rfl
     ·rw [if_neg g2, if_neg g2]; rfl
 ·rw [if_neg (by simpa using h6)]
  by_cases h17 : p = 17
  ·subst h17
   rw [if_pos (by decide), hd17, if_neg (show ¬ (8 : Int) = 0 by decide)]
   by_cases hs : (b.length : Int) < 8
   ·rw [if_pos (dT hs), if_pos hs]; rfl
   ·rw [if_neg (dF hs), if_neg hs]
    by_cases hg : 65535 < b.length
    ·rw [if_pos (dT (by omega)), if_pos hg]; rfl
    ·rw [if_neg (dF (by omega)), if_neg hg, if_neg h6, if_pos rfl, read_eq (by omega), Option.bind_some]
     obtain ⟨r, hr⟩ := readUDP_eq hw (by omega) (by omega)
     rw [hr, Option.bind_some]
     unfold F_trans_Parse_j2
     by_cases g1 : nm b 4 2 < 8
     ·rw [if_pos g1, if_pos g1]; rfl
     ·rw [if_neg g1, if_neg g1]
      by_cases g2 : (b.length : Int) < nm b 4 2
      ·rw [if_pos g2, if_pos g2]; rfl
      ·rw [if_neg g2, if_neg g2]; rfl
  ·rw [if_neg (by simpa using h17)]
   by_cases h1 : p = 1
   ·subst h1
    rw [if_pos (by decide), hd1, if_neg (show ¬ (4 : Int) = 0 by decide)]
    by_cases hs : (b.length : Int) < 4
    ·rw [if_pos (dT hs), if_pos hs]; rfl
    ·rw [if_neg (dF hs), if_neg hs]
     by_cases hg : 65535 < b.length
     ·rw [if_pos (dT (by omega)), if_pos hg]; rfl
     ·rw [if_neg (dF (by omega)), if_neg hg, if_neg h6, if_neg h17, read_eq (by omega), Option.bind_some]
      obtain ⟨r, hr⟩ := readICMP_eq hw (by omega) (by omega)
      rw [hr, Option.bind_some]
      rfl
   ·rw [if_neg (by simpa using h1)]
    by_cases h58 : p = 58
    ·subst h58
     rw [if_pos (by decide), hd58, if_neg (show ¬ (4 : Int) = 0 by decide)]
     by_cases hs : (b.length : Int) < 4
     ·rw [if_pos (dT hs), if_pos hs]; rfl
     ·rw [if_neg (dF hs), if_neg hs]
      by_cases hg : 65535 < b.length
      ·rw [if_pos (dT (by omega)), if_pos hg]; rfl
      ·rw [if_neg (dF (by omega)), if_neg hg, if_neg h6, if_neg h17, read_eq (by omega), Option.bind_some]
       obtain ⟨r, hr⟩ := readICMP_eq hw (by omega) (by omega)
       rw [hr, Option.bind_some]
       rfl
    ·have e : hd p = 0 := by unfold hd; rw [if_neg h6, if_neg h17, if_neg (by omega)]
     rw [if_neg (by simpa using h58), if_pos e]; rfl
/-! ### The reference: Parse -/
theorem rnum_eq {b : List Int} (hw : Wf 256 b) (hl : b.length ≤ 65535) {p n : Nat} (h1 : 1 ≤ n) (h8 : n ≤ 8) (hp : p + n ≤ b.length) : F_ref07_number (strOfNums b) (p : Int) (n : Int) = some (nm b p n) := by
 unfold F_ref07_number
 rw [str_size, if_pos (limk (by omega)), nums_str hw, rget_eq hw (by omega) ⟨by omega, by omega⟩, gt_in h1 h8 hp, Option.bind_some]
theorem semp : ByteArray.empty = strOfNums [] := rfl
theorem rparse_eq {p : Int} {b : List Int} (hw : Wf 256 b) : F_ref07_Parse p (strOfNums b) = some (r7 (prs p b).1, (prs p b).2) := by
 have r1 := fun q n h1 h8 hp hl => rnum_eq hw hl (p := q) (n := n) h1 h8 hp
 unfold F_ref07_Parse prs
 rw [head_eq, Option.bind_some]
 by_cases h0 : hd p = 0
 ·rw [if_pos (by simpa using h0), if_pos h0]; rfl
 ·rw [if_neg (by simpa using h0), if_neg h0, Option.bind_some, str_size]
  by_cases hs : (b.length : Int) < hd p
  ·rw [if_pos (dT hs), if_pos hs]; rfl
  ·rw [if_neg (dF hs), if_neg hs]
   by_cases hg : 65535 < b.length
   ·rw [if_pos (dT (by omega)), if_pos hg]; rfl
   ·rw [if_neg (dF (by omega)), if_neg hg]
    have hl : b.length ≤ 65535 := by omega
    by_cases h6 : p = 6
    ·subst h6
     rw [hd6] at hs
     have h12 := nm1b hw 12
     have g12 : gidxS (strOfNums b) 12 = some (nm b 12 1) := by
      have := gS hw (i := 12) (by omega); rw [nm1 (show 12 < b.length by omega)]; exact this
     have g13 : gidxS (strOfNums b) 13 = some (nm b 13 1) := by
      have := gS hw (i := 13) (by omega); rw [nm1 (show 13 < b.length by omega)]; exact this
     have et : IntKind.i64.wrap (IntKind.i64.wrap (Int.tdiv (IntKind.i64.wrap (nm b 12 1)) 16) * 4) = tn b := by
      rw [wi64 (n := nm b 12 1) (by omega) (by omega), Int.tdiv_eq_ediv_of_nonneg h12.1, wi64 (n := nm b 12 1 / 16) (by omega) (by omega), wi64 (by omega) (by omega)]; rfl
     have ht := tn_bd hw
     rw [if_pos (by decide), if_pos rfl, g12, Option.bind_some, et]
     by_cases g1 : tn b < 20
     ·rw [if_pos (dT g1), if_pos g1]; rfl
     ·rw [if_neg (dF g1), if_neg g1]
      by_cases g2 : (b.length : Int) < tn b
      ·rw [if_pos (dT g2), if_pos g2]; rfl
      ·have a1 := nm2 hw 0; have a2 := nm2 hw 2; have a3 := nm4 hw 4; have a4 := nm4 hw 8; have a6 := nm2 hw 14; have a7 := nm2 hw 18
       have c1 : gcutS (strOfNums b) (tn b) (b.length : Int) = some (strOfNums (b.drop (tn b).toNat)) := by
        have := cSl (xs := b) (p := tn b) (by omega) (by omega); rwa [str_size] at this
       have b1 : F_ref07_number (strOfNums b) 0 2 = _ := r1 0 2 (by omega) (by omega) (by omega) hl
       have b2 : F_ref07_number (strOfNums b) 2 2 = _ := r1 2 2 (by omega) (by omega) (by omega) hl
       have b3 : F_ref07_number (strOfNums b) 4 4 = _ := r1 4 4 (by omega) (by omega) (by omega) hl
       have b4 : F_ref07_number (strOfNums b) 8 4 = _ := r1 8 4 (by omega) (by omega) (by omega) hl
       have b5 : F_ref07_number (strOfNums b) 14 2 = _ := r1 14 2 (by omega) (by omega) (by omega) hl
       have b6 : F_ref07_number (strOfNums b) 18 2 = _ := r1 18 2 (by omega) (by omega) (by omega) hl
       rw [if_neg (dF g2), if_neg g2, g13, Option.bind_some, cS (by omega) (by omega) (by omega), Option.bind_some, c1, Option.bind_some, b1, Option.bind_some, b2, Option.bind_some, b3, Option.bind_some, b4, Option.bind_some, b5, Option.bind_some, b6, Option.bind_some,
        wu16i a1.1 a1.2, wu16i a2.1 a2.2, u32i a3, u32i a4, wu16i a6.1 a6.2, wu16i a7.1 a7.2]
       rfl
    ·rw [if_neg (by simpa using h6), if_neg h6]
     by_cases h17 : p = 17
     ·subst h17
      rw [hd17] at hs
      have ht := nm2 hw 4
      have b0 : F_ref07_number (strOfNums b) 4 2 = _ := r1 4 2 (by omega) (by omega) (by omega) hl
      rw [if_pos (by decide), if_pos rfl, b0, Option.bind_some, wi64 (n := nm b 4 2) (by omega) (by omega)]
      by_cases g1 : nm b 4 2 < 8
      ·rw [if_pos (dT g1), if_pos g1]; rfl
      ·rw [if_neg (dF g1), if_neg g1]
       by_cases g2 : (b.length : Int) < nm b 4 2
       ·rw [if_pos (dT g2), if_pos g2]; rfl
       ·have a1 := nm2 hw 0; have a2 := nm2 hw 2
        have b1 : F_ref07_number (strOfNums b) 0 2 = _ := r1 0 2 (by omega) (by omega) (by omega) hl
        have b2 : F_ref07_number (strOfNums b) 2 2 = _ := r1 2 2 (by omega) (by omega) (by omega) hl
        rw [if_neg (dF g2), if_neg g2, b1, Option.bind_some, b2, Option.bind_some, cS (by omega) (by omega) (by omega), Option.bind_some, wu16i a1.1 a1.2, wu16i a2.1 a2.2]
        rfl
     ·rw [if_neg (by simpa using h17), if_neg h17]
      have h4 : hd p = 4 := by
       unfold hd at h0 ⊢
       rw [if_neg h6, if_neg h17] at h0 ⊢
       by_cases h1 : p = 1 ∨ p = 58
       ·rw [if_pos h1]
       ·rw [if_neg h1] at h0; exact (h0 rfl).elim
      rw [h4] at hs
      have g0 : gidxS (strOfNums b) 0 = some (nm b 0 1) := by
       have := gS hw (i := 0) (by omega); rw [nm1 (show 0 < b.length by omega)]; exact this
      have g1 : gidxS (strOfNums b) 1 = some (nm b 1 1) := by
       have := gS hw (i := 1) (by omega); rw [nm1 (show 1 < b.length by omega)]; exact this
      have c1 : gcutS (strOfNums b) 4 (b.length : Int) = some (strOfNums (b.drop 4)) := by
       have := cSl (xs := b) (p := 4) (by omega) (by omega); rwa [str_size] at this
      rw [g0, Option.bind_some, g1, Option.bind_some, c1, Option.bind_some]
      rfl
end Go.Proofs.Ytcinagdkkclapaa
