/- Printed by a program of this claim: each call returns what the plain function of its name gives. -/
import Derived.Test.YtjfdfjmnajjjaaaW1
import Derived.Test.YtjfdfjmnajjjaaaW2
import Derived.Test.YtjfdfjmnajjjaaaW3
import Derived.Test.YtjfdfjmnajjjaaaW4
import Derived.Test.YtjfdfjmnajjjaaaW5
import Derived.Test.YtjfdfjmnajjjaaaW6
import Derived.Test.YtjfdfjmnajjjaaaW7
import Derived.Test.YtjfdfjmnajjjaaaW8
import Derived.Test.YtjfdfjmnajjjaaaW9
import Derived.Test.YtjfdfjmnajjjaaaW10
import Derived.Test.YtjfdfjmnajjjaaaW11
import Derived.Test.YtjfdfjmnajjjaaaW12
import Derived.Test.YtjfdfjmnajjjaaaW13
import Derived.Test.YtjfdfjmnajjjaaaW14
import Derived.Test.YtjfdfjmnajjjaaaW15
import Derived.Test.YtjfdfjmnajjjaaaW16
import Derived.Test.YtjfdfjmnajjjaaaW17
set_option linter.unusedVariables false
namespace Go.Proofs.Ytjfdfjmnajjjaaa
open Go Go.Ox Go.RowKit
set_option maxRecDepth 100000 in
set_option maxHeartbeats 40000000 in
theorem c_law05_IpKnown (w : World) (r : Bool) (hF : F_law05_IpKnown = some r) :
    CallsR Try.prog 7 [] w (fun v w' => v = .bool r ∧ Mem w [] w' []) := by
  refine calls_KC Try.func7 rfl Try.ntmps7 rfl ?_
  have hM := Mem.init w
  unfold F_law05_IpKnown at hF
  refine KC.seqH fun Q1 hQ1 => ?_
  refine KC.region ?_
  refine RL.val (O.assign rfl) rfl ?_
  refine RL.nil ?_
  refine KQ.thn hQ1 ?_
  clear hQ1 Q1
  refine KC.seqH fun Q2 hQ2 => ?_
  refine KC.region ?_
  refine RL.val (O.assign rfl) rfl ?_
  refine RL.nil ?_
  refine KQ.thn hQ2 ?_
  clear hQ2 Q2
  refine KC.seqH fun Q3 hQ3 => ?_
  refine KC.seqH fun Q4 hQ4 => ?_
  refine KC.region ?_
  refine RL.val (O.assign rfl) rfl ?_
  refine RL.nil ?_
  refine KQ.thn hQ4 ?_
  clear hQ4 Q4
  refine KC.block ?_
  refine KC.loop (fun k501 a w499 => ∃ (A495 : Option Addr) (c496 : Nat) (more497 : List Int) (i498 : Int), Kn 184 [(1, .slice A495 (more497).length c496), (2, .int .i64 i498)] a ∧ Mem w [] w499 [.row A495 c496 5 1 (more497).length ((more497).flatMap (eI .u8))] ∧ F_law05_IpKnown_L1 k501 more497 i498 = some r) ?_ ?_
  · replace hM := hM.nilrow 5 1
    exact fun a ha => ⟨fuel0, none, 0, ([]), 0, ha.less (less_cons rfl (less_cons rfl less_nil)), hM, hF⟩
  · rintro k501 a w499 ⟨A495, c496, more497, i498, ha, hM, hF⟩
    refine KC.app ha ?_
    clear ha
    cases k501 with
    | zero => exact (none_some hF).elim
    | succ k501 =>
    have hF : F_law05_IpKnown_l1 (F_law05_IpKnown_L1 k501) more497 i498 = some r := hF
    unfold F_law05_IpKnown_l1 at hF
    refine KC.seqH fun Q502 hQ502 => ?_
    refine KC.seqH fun Q503 hQ503 => ?_
    refine KC.region ?_
    refine RL.val (O.move rfl) rfl ?_
    refine RL.val (O.lss rfl rfl) rfl ?_
    refine RL.nil ?_
    refine KQ.thn hQ503 ?_
    clear hQ503 Q503
    refine KC.cond rfl (fun hc => ?_) (fun hc => ?_)
    · rw [if_pos hc] at hF
      refine KC.skip ?_
      refine KQ.thn hQ502 ?_
      clear hQ502 Q502
      refine KC.seqH fun Q504 hQ504 => ?_
      refine KC.block ?_
      refine KC.seqH fun Q505 hQ505 => ?_
      refine KC.region ?_
      refine RL.val (O.move rfl) rfl ?_
      refine RL.eff (E.bsl (enc := (eI .u8)) (xs := ([1, 7, 4, 9, 2, 0] : List Int)) hM sl22 ze5 rfl rfl rfl (fun _ => rfl) rfl (by kernel_rfl) rfl) rfl fun v w506 hv => ?_
      clear hM
      obtain ⟨A507, rfl, hM, hf⟩ := hv
      refine RL.val (O.move rfl) rfl ?_
      refine RL.val (O.mul rfl rfl) rfl ?_
      refine RL.val (O.rem rfl rfl (by decide)) rfl ?_
      refine obindE hF fun xv511 hx510 hF => ?_
      have hA509 := Rd.atN (f := (eI .u8)) (s := 1) (fun _ => rfl) (by decide) (hM.rd (i := 1) rfl) hx510
      refine RL.val (O.idxA sl22 (hA509) rfl rfl) rfl ?_
      refine RL.val (O.load sc5 rfl (hA509).cells.at0) rfl ?_
      refine RL.eff (E.bsl (enc := (eI .u8)) (xs := ([xv511] : List Int)) hM sl22 ze5 rfl rfl rfl (fun _ => rfl) rfl (by kernel_rfl) rfl) rfl fun v w512 hv => ?_
      clear hM
      obtain ⟨A513, rfl, hM, hf⟩ := hv
      refine cut_someE hF fun hq518 hF => ?_
      refine RL.eff (E.app (enc := (eI .u8)) (xs := more497) (ys := ([xv511] : List Int)) (j := 0) hM rfl sl22 ze5 rfl rfl rfl rfl rfl (hM.rd (i := 2) rfl) (fun _ => One.all rfl) (of_decide_eq_true hq518)) rfl fun v w517 hv => ?_
      clear hM
      obtain ⟨A515, c516, rfl, hM, hf⟩ := hv
      refine RL.val (O.assign rfl) rfl ?_
      refine RL.nil ?_
      refine KQ.thn hQ505 ?_
      clear hQ505 Q505
      replace hM := hM.pick [0] rfl (by decide)
      refine KC.seqH fun Q520 hQ520 => ?_
      refine KC.region ?_
      refine RL.val (O.move rfl) rfl ?_
      refine RL.val (O.conv un3 Try.underlying5 rfl) rfl ?_
      refine RL.val (O.move rfl) rfl ?_
      refine RL.val (O.mul rfl rfl) rfl ?_
      refine RL.val (O.add rfl rfl) rfl ?_
      refine RL.val (O.conv un3 Try.underlying36 rfl) rfl ?_
      refine RL.val (O.move rfl) rfl ?_
      refine RL.val (O.mul rfl rfl) rfl ?_
      refine RL.val (O.conv un3 Try.underlying36 rfl) rfl ?_
      refine RL.val (O.move rfl) rfl ?_
      refine RL.val (O.rem rfl rfl (by decide)) rfl ?_
      refine RL.val (O.eql rfl rfl) rfl ?_
      refine RL.val (O.move rfl) rfl ?_
      refine RL.val (O.rem rfl rfl (by decide)) rfl ?_
      refine RL.val (O.eql rfl rfl) rfl ?_
      refine RL.val (O.move rfl) rfl ?_
      refine RL.val (O.add rfl rfl) rfl ?_
      refine RL.val (O.conv un3 Try.underlying36 rfl) rfl ?_
      refine RL.val (O.move rfl) rfl ?_
      refine RL.val (O.rem rfl rfl (by decide)) rfl ?_
      refine RL.val (O.conv un3 Try.underlying5 rfl) rfl ?_
      refine RL.val (O.move rfl) rfl ?_
      refine RL.val (O.mul rfl rfl) rfl ?_
      refine RL.val (O.conv un3 Try.underlying5 rfl) rfl ?_
      refine RL.val (O.move rfl) rfl ?_
      refine RL.val (O.conv un3 Try.underlying5 rfl) rfl ?_
      refine RL.val (O.bldA (cs := [.int .u8 (List.getD [(IntKind.u8.wrap i498), 2, 3, 4] 0 0), .int .u8 (List.getD [(IntKind.u8.wrap i498), 2, 3, 4] 1 0), .int .u8 (List.getD [(IntKind.u8.wrap i498), 2, 3, 4] 2 0), .int .u8 (List.getD [(IntKind.u8.wrap i498), 2, 3, 4] 3 0)]) Try.underlying37 sz5 ze37 rfl (by kernel_rfl)) rfl ?_
      refine RL.val (O.move rfl) rfl ?_
      refine RL.val (O.conv un3 Try.underlying5 rfl) rfl ?_
      refine RL.val (O.bldA (cs := [.int .u8 (List.getD [255, (IntKind.u8.wrap i498), 0, 1] 0 0), .int .u8 (List.getD [255, (IntKind.u8.wrap i498), 0, 1] 1 0), .int .u8 (List.getD [255, (IntKind.u8.wrap i498), 0, 1] 2 0), .int .u8 (List.getD [255, (IntKind.u8.wrap i498), 0, 1] 3 0)]) Try.underlying37 sz5 ze37 rfl (by kernel_rfl)) rfl ?_
      refine RL.val (O.move rfl) rfl ?_
      refine RL.val (O.move rfl) rfl ?_
      refine RL.val (O.len sl22 rfl) rfl ?_
      refine RL.val (O.move rfl) rfl ?_
      refine RL.val (O.mul rfl rfl) rfl ?_
      refine RL.val (O.rem rfl rfl (by decide)) rfl ?_
      refine RL.val (O.min2 rfl rfl) rfl ?_
      refine obindE hF fun cut521 hy522 hF => ?_
      refine cutNE A515 c516 (Int.toNat 0) 1 fun A523 c524 eA526 ec527 => ?_
      have hr525 := Rd.cutT (enc := (eI .u8)) (s := 1) (fun _ => rfl) (hM.rd (i := 0) rfl) hy522 (m := c516) (by have := (hM.rd (i := 0) rfl).cap; have := (gcut_some hy522).2.2.1; omega) (Nat.le_refl _)
      rw [← eA526, ← ec527] at hr525
      refine RL.val (v := .slice A523 (cut521).length c524) (by rw [eA526, ec527]; exact O.cuthT sl22 (hM.rd (i := 0) rfl) hy522 rfl rfl) rfl ?_
      refine RL.val (O.bld (cs := [.int .u8 (IntKind.u8.wrap i498), .int .u16 (IntKind.u16.wrap (IntKind.i64.wrap (18 + (IntKind.i64.wrap (i498 * 7))))), .int .u16 (IntKind.u16.wrap (IntKind.i64.wrap (i498 * 4000))), .bool ((Int.tmod i498 2) == 0), .bool ((Int.tmod i498 3) == 0), .int .u16 (IntKind.u16.wrap (IntKind.i64.wrap (8185 + i498))), .int .u8 (IntKind.u8.wrap (Int.tmod i498 4)), .int .u8 (IntKind.u8.wrap (IntKind.i64.wrap (i498 * 6))), .int .u8 (List.getD [(IntKind.u8.wrap i498), 2, 3, 4] 0 0), .int .u8 (List.getD [(IntKind.u8.wrap i498), 2, 3, 4] 1 0), .int .u8 (List.getD [(IntKind.u8.wrap i498), 2, 3, 4] 2 0), .int .u8 (List.getD [(IntKind.u8.wrap i498), 2, 3, 4] 3 0), .int .u8 (List.getD [255, (IntKind.u8.wrap i498), 0, 1] 0 0), .int .u8 (List.getD [255, (IntKind.u8.wrap i498), 0, 1] 1 0), .int .u8 (List.getD [255, (IntKind.u8.wrap i498), 0, 1] 2 0), .int .u8 (List.getD [255, (IntKind.u8.wrap i498), 0, 1] 3 0), .slice A523 (cut521).length c524]) bt39 rfl (by kernel_rfl)) rfl ?_
      refine RL.eff (E.alloc hM ze39) rfl fun v w529 hv => ?_
      clear hM
      obtain ⟨g528, rfl, hM, hf⟩ := hv
      have hr525 := hr525.fut hf
      refine RL.effs (E.stB (j := 1) (off := 0) (vs := [.int .u8 (IntKind.u8.wrap i498), .int .u16 (IntKind.u16.wrap (IntKind.i64.wrap (18 + (IntKind.i64.wrap (i498 * 7))))), .int .u16 (IntKind.u16.wrap (IntKind.i64.wrap (i498 * 4000))), .bool ((Int.tmod i498 2) == 0), .bool ((Int.tmod i498 3) == 0), .int .u16 (IntKind.u16.wrap (IntKind.i64.wrap (8185 + i498))), .int .u8 (IntKind.u8.wrap (Int.tmod i498 4)), .int .u8 (IntKind.u8.wrap (IntKind.i64.wrap (i498 * 6))), .int .u8 (List.getD [(IntKind.u8.wrap i498), 2, 3, 4] 0 0), .int .u8 (List.getD [(IntKind.u8.wrap i498), 2, 3, 4] 1 0), .int .u8 (List.getD [(IntKind.u8.wrap i498), 2, 3, 4] 2 0), .int .u8 (List.getD [(IntKind.u8.wrap i498), 2, 3, 4] 3 0), .int .u8 (List.getD [255, (IntKind.u8.wrap i498), 0, 1] 0 0), .int .u8 (List.getD [255, (IntKind.u8.wrap i498), 0, 1] 1 0), .int .u8 (List.getD [255, (IntKind.u8.wrap i498), 0, 1] 2 0), .int .u8 (List.getD [255, (IntKind.u8.wrap i498), 0, 1] 3 0), .slice A523 (cut521).length c524]) (cs' := [.int .u8 (IntKind.u8.wrap i498), .int .u16 (IntKind.u16.wrap (IntKind.i64.wrap (18 + (IntKind.i64.wrap (i498 * 7))))), .int .u16 (IntKind.u16.wrap (IntKind.i64.wrap (i498 * 4000))), .bool ((Int.tmod i498 2) == 0), .bool ((Int.tmod i498 3) == 0), .int .u16 (IntKind.u16.wrap (IntKind.i64.wrap (8185 + i498))), .int .u8 (IntKind.u8.wrap (Int.tmod i498 4)), .int .u8 (IntKind.u8.wrap (IntKind.i64.wrap (i498 * 6))), .int .u8 (List.getD [(IntKind.u8.wrap i498), 2, 3, 4] 0 0), .int .u8 (List.getD [(IntKind.u8.wrap i498), 2, 3, 4] 1 0), .int .u8 (List.getD [(IntKind.u8.wrap i498), 2, 3, 4] 2 0), .int .u8 (List.getD [(IntKind.u8.wrap i498), 2, 3, 4] 3 0), .int .u8 (List.getD [255, (IntKind.u8.wrap i498), 0, 1] 0 0), .int .u8 (List.getD [255, (IntKind.u8.wrap i498), 0, 1] 1 0), .int .u8 (List.getD [255, (IntKind.u8.wrap i498), 0, 1] 2 0), .int .u8 (List.getD [255, (IntKind.u8.wrap i498), 0, 1] 3 0), .slice A523 (cut521).length c524]) hM rfl sz39 rfl (adds_eq [] rfl) rfl rfl (One.all rfl) rfl rfl) fun w531 hM1 => ?_
      clear hM
      have hM := hM1
      clear hM1
      have hr525 := Rd.cutT (enc := (eI .u8)) (s := 1) (fun _ => rfl) (hM.rd (i := 0) rfl) hy522 (m := c516) (by have := (hM.rd (i := 0) rfl).cap; have := (gcut_some hy522).2.2.1; omega) (Nat.le_refl _)
      rw [← eA526, ← ec527] at hr525
      refine RL.nil ?_
      refine KQ.thn hQ520 ?_
      clear hQ520 Q520
      refine KC.seqH fun Q532 hQ532 => ?_
      refine KC.region ?_
      refine RL.val (O.loadN (cs := [.int .u8 (IntKind.u8.wrap i498), .int .u16 (IntKind.u16.wrap (IntKind.i64.wrap (18 + (IntKind.i64.wrap (i498 * 7))))), .int .u16 (IntKind.u16.wrap (IntKind.i64.wrap (i498 * 4000))), .bool ((Int.tmod i498 2) == 0), .bool ((Int.tmod i498 3) == 0), .int .u16 (IntKind.u16.wrap (IntKind.i64.wrap (8185 + i498))), .int .u8 (IntKind.u8.wrap (Int.tmod i498 4)), .int .u8 (IntKind.u8.wrap (IntKind.i64.wrap (i498 * 6))), .int .u8 (List.getD [(IntKind.u8.wrap i498), 2, 3, 4] 0 0), .int .u8 (List.getD [(IntKind.u8.wrap i498), 2, 3, 4] 1 0), .int .u8 (List.getD [(IntKind.u8.wrap i498), 2, 3, 4] 2 0), .int .u8 (List.getD [(IntKind.u8.wrap i498), 2, 3, 4] 3 0), .int .u8 (List.getD [255, (IntKind.u8.wrap i498), 0, 1] 0 0), .int .u8 (List.getD [255, (IntKind.u8.wrap i498), 0, 1] 1 0), .int .u8 (List.getD [255, (IntKind.u8.wrap i498), 0, 1] 2 0), .int .u8 (List.getD [255, (IntKind.u8.wrap i498), 0, 1] 3 0), .slice A523 (cut521).length c524]) ag39 rfl (Cs.addsN [] ((hM.bx (i := 1) rfl)) rfl)) rfl ?_
      refine RL.eff (E.alloc hM ze39) rfl fun v w534 hv => ?_
      clear hM
      obtain ⟨g533, rfl, hM, hf⟩ := hv
      have hr525 := hr525.fut hf
      refine RL.effs (E.stB (j := 2) (off := 0) (vs := [.int .u8 (IntKind.u8.wrap i498), .int .u16 (IntKind.u16.wrap (IntKind.i64.wrap (18 + (IntKind.i64.wrap (i498 * 7))))), .int .u16 (IntKind.u16.wrap (IntKind.i64.wrap (i498 * 4000))), .bool ((Int.tmod i498 2) == 0), .bool ((Int.tmod i498 3) == 0), .int .u16 (IntKind.u16.wrap (IntKind.i64.wrap (8185 + i498))), .int .u8 (IntKind.u8.wrap (Int.tmod i498 4)), .int .u8 (IntKind.u8.wrap (IntKind.i64.wrap (i498 * 6))), .int .u8 (List.getD [(IntKind.u8.wrap i498), 2, 3, 4] 0 0), .int .u8 (List.getD [(IntKind.u8.wrap i498), 2, 3, 4] 1 0), .int .u8 (List.getD [(IntKind.u8.wrap i498), 2, 3, 4] 2 0), .int .u8 (List.getD [(IntKind.u8.wrap i498), 2, 3, 4] 3 0), .int .u8 (List.getD [255, (IntKind.u8.wrap i498), 0, 1] 0 0), .int .u8 (List.getD [255, (IntKind.u8.wrap i498), 0, 1] 1 0), .int .u8 (List.getD [255, (IntKind.u8.wrap i498), 0, 1] 2 0), .int .u8 (List.getD [255, (IntKind.u8.wrap i498), 0, 1] 3 0), .slice A523 (cut521).length c524]) (cs' := [.int .u8 (IntKind.u8.wrap i498), .int .u16 (IntKind.u16.wrap (IntKind.i64.wrap (18 + (IntKind.i64.wrap (i498 * 7))))), .int .u16 (IntKind.u16.wrap (IntKind.i64.wrap (i498 * 4000))), .bool ((Int.tmod i498 2) == 0), .bool ((Int.tmod i498 3) == 0), .int .u16 (IntKind.u16.wrap (IntKind.i64.wrap (8185 + i498))), .int .u8 (IntKind.u8.wrap (Int.tmod i498 4)), .int .u8 (IntKind.u8.wrap (IntKind.i64.wrap (i498 * 6))), .int .u8 (List.getD [(IntKind.u8.wrap i498), 2, 3, 4] 0 0), .int .u8 (List.getD [(IntKind.u8.wrap i498), 2, 3, 4] 1 0), .int .u8 (List.getD [(IntKind.u8.wrap i498), 2, 3, 4] 2 0), .int .u8 (List.getD [(IntKind.u8.wrap i498), 2, 3, 4] 3 0), .int .u8 (List.getD [255, (IntKind.u8.wrap i498), 0, 1] 0 0), .int .u8 (List.getD [255, (IntKind.u8.wrap i498), 0, 1] 1 0), .int .u8 (List.getD [255, (IntKind.u8.wrap i498), 0, 1] 2 0), .int .u8 (List.getD [255, (IntKind.u8.wrap i498), 0, 1] 3 0), .slice A523 (cut521).length c524]) hM rfl sz39 rfl (adds_eq [] rfl) rfl rfl (One.all rfl) rfl rfl) fun w536 hM1 => ?_
      clear hM
      have hM := hM1
      clear hM1
      have hr525 := Rd.cutT (enc := (eI .u8)) (s := 1) (fun _ => rfl) (hM.rd (i := 0) rfl) hy522 (m := c516) (by have := (hM.rd (i := 0) rfl).cap; have := (gcut_some hy522).2.2.1; omega) (Nat.le_refl _)
      rw [← eA526, ← ec527] at hr525
      refine RL.nil ?_
      refine KQ.thn hQ532 ?_
      clear hQ532 Q532
      refine KC.seqH fun Q537 hQ537 => ?_
      refine KC.region ?_
      refine RL.val (O.fldA fl39_5 (by decide) rfl) rfl ?_
      refine RL.val (O.load sc36 rfl (Cs.adds [5] ((hM.bx (i := 2) rfl)) rfl)) rfl ?_
      refine RL.val (O.rem rfl rfl (by decide)) rfl ?_
      refine RL.val (O.fldA fl39_5 (by decide) rfl) rfl ?_
      refine RL.effs (E.stB (j := 2) (off := 5) (vs := [.int .u16 (Int.tmod (IntKind.u16.wrap (IntKind.i64.wrap (8185 + i498))) 8192)]) (cs' := [.int .u8 (IntKind.u8.wrap i498), .int .u16 (IntKind.u16.wrap (IntKind.i64.wrap (18 + (IntKind.i64.wrap (i498 * 7))))), .int .u16 (IntKind.u16.wrap (IntKind.i64.wrap (i498 * 4000))), .bool ((Int.tmod i498 2) == 0), .bool ((Int.tmod i498 3) == 0), .int .u16 (Int.tmod (IntKind.u16.wrap (IntKind.i64.wrap (8185 + i498))) 8192), .int .u8 (IntKind.u8.wrap (Int.tmod i498 4)), .int .u8 (IntKind.u8.wrap (IntKind.i64.wrap (i498 * 6))), .int .u8 (List.getD [(IntKind.u8.wrap i498), 2, 3, 4] 0 0), .int .u8 (List.getD [(IntKind.u8.wrap i498), 2, 3, 4] 1 0), .int .u8 (List.getD [(IntKind.u8.wrap i498), 2, 3, 4] 2 0), .int .u8 (List.getD [(IntKind.u8.wrap i498), 2, 3, 4] 3 0), .int .u8 (List.getD [255, (IntKind.u8.wrap i498), 0, 1] 0 0), .int .u8 (List.getD [255, (IntKind.u8.wrap i498), 0, 1] 1 0), .int .u8 (List.getD [255, (IntKind.u8.wrap i498), 0, 1] 2 0), .int .u8 (List.getD [255, (IntKind.u8.wrap i498), 0, 1] 3 0), .slice A523 (cut521).length c524]) hM rfl sz36 rfl (adds_eq [5] rfl) rfl rfl (One.all rfl) rfl rfl) fun w538 hM1 => ?_
      clear hM
      have hM := hM1
      clear hM1
      have hr525 := Rd.cutT (enc := (eI .u8)) (s := 1) (fun _ => rfl) (hM.rd (i := 0) rfl) hy522 (m := c516) (by have := (hM.rd (i := 0) rfl).cap; have := (gcut_some hy522).2.2.1; omega) (Nat.le_refl _)
      rw [← eA526, ← ec527] at hr525
      refine RL.nil ?_
      refine KQ.thn hQ537 ?_
      clear hQ537 Q537
      refine KC.seqH fun Q539 hQ539 => ?_
      refine KC.region ?_
      refine RL.val (O.move rfl) rfl ?_
      refine RL.val (O.move rfl) rfl ?_
      refine RL.val (O.len sl22 rfl) rfl ?_
      refine RL.val (O.quo rfl rfl (by decide)) rfl ?_
      refine RL.val (O.mul rfl rfl) rfl ?_
      refine RL.val (O.move rfl) rfl ?_
      refine RL.val (O.quo rfl rfl (by decide)) rfl ?_
      refine RL.val (O.mul rfl rfl) rfl ?_
      refine RL.val (O.rem rfl rfl (by decide)) rfl ?_
      refine RL.val (O.min2 rfl rfl) rfl ?_
      refine obindE hF fun cut540 hy541 hF => ?_
      refine cutNE A515 c516 (Int.toNat 0) 1 fun A542 c543 eA545 ec546 => ?_
      have hr544 := Rd.cutT (enc := (eI .u8)) (s := 1) (fun _ => rfl) (hM.rd (i := 0) rfl) hy541 (m := c516) (by have := (hM.rd (i := 0) rfl).cap; have := (gcut_some hy541).2.2.1; omega) (Nat.le_refl _)
      rw [← eA545, ← ec546] at hr544
      refine RL.val (v := .slice A542 (cut540).length c543) (by rw [eA545, ec546]; exact O.cuthT sl22 (hM.rd (i := 0) rfl) hy541 rfl rfl) rfl ?_
      refine RL.val (O.fldA fl39_10 (by decide) rfl) rfl ?_
      refine RL.effs (E.stB (j := 2) (off := 16) (vs := [.slice A542 (cut540).length c543]) (cs' := [.int .u8 (IntKind.u8.wrap i498), .int .u16 (IntKind.u16.wrap (IntKind.i64.wrap (18 + (IntKind.i64.wrap (i498 * 7))))), .int .u16 (IntKind.u16.wrap (IntKind.i64.wrap (i498 * 4000))), .bool ((Int.tmod i498 2) == 0), .bool ((Int.tmod i498 3) == 0), .int .u16 (Int.tmod (IntKind.u16.wrap (IntKind.i64.wrap (8185 + i498))) 8192), .int .u8 (IntKind.u8.wrap (Int.tmod i498 4)), .int .u8 (IntKind.u8.wrap (IntKind.i64.wrap (i498 * 6))), .int .u8 (List.getD [(IntKind.u8.wrap i498), 2, 3, 4] 0 0), .int .u8 (List.getD [(IntKind.u8.wrap i498), 2, 3, 4] 1 0), .int .u8 (List.getD [(IntKind.u8.wrap i498), 2, 3, 4] 2 0), .int .u8 (List.getD [(IntKind.u8.wrap i498), 2, 3, 4] 3 0), .int .u8 (List.getD [255, (IntKind.u8.wrap i498), 0, 1] 0 0), .int .u8 (List.getD [255, (IntKind.u8.wrap i498), 0, 1] 1 0), .int .u8 (List.getD [255, (IntKind.u8.wrap i498), 0, 1] 2 0), .int .u8 (List.getD [255, (IntKind.u8.wrap i498), 0, 1] 3 0), .slice A542 (cut540).length c543]) hM rfl sz22 rfl (adds_eq [16] rfl) rfl rfl (One.all rfl) rfl rfl) fun w547 hM1 => ?_
      clear hM
      have hM := hM1
      clear hM1
      have hr525 := Rd.cutT (enc := (eI .u8)) (s := 1) (fun _ => rfl) (hM.rd (i := 0) rfl) hy522 (m := c516) (by have := (hM.rd (i := 0) rfl).cap; have := (gcut_some hy522).2.2.1; omega) (Nat.le_refl _)
      rw [← eA526, ← ec527] at hr525
      have hr544 := Rd.cutT (enc := (eI .u8)) (s := 1) (fun _ => rfl) (hM.rd (i := 0) rfl) hy541 (m := c516) (by have := (hM.rd (i := 0) rfl).cap; have := (gcut_some hy541).2.2.1; omega) (Nat.le_refl _)
      rw [← eA545, ← ec546] at hr544
      refine RL.nil ?_
      refine KQ.thn hQ539 ?_
      clear hQ539 Q539
      refine KC.seqH fun Q548 hQ548 => ?_
      refine KC.region ?_
      refine RL.val (O.move rfl) rfl ?_
      refine RL.val (O.add rfl rfl) rfl ?_
      refine RL.val (O.conv un3 Try.underlying36 rfl) rfl ?_
      refine RL.val (O.fldA fl39_1 (by decide) rfl) rfl ?_
      refine RL.effs (E.stB (j := 2) (off := 1) (vs := [.int .u16 (IntKind.u16.wrap (IntKind.i64.wrap (60 + i498)))]) (cs' := [.int .u8 (IntKind.u8.wrap i498), .int .u16 (IntKind.u16.wrap (IntKind.i64.wrap (60 + i498))), .int .u16 (IntKind.u16.wrap (IntKind.i64.wrap (i498 * 4000))), .bool ((Int.tmod i498 2) == 0), .bool ((Int.tmod i498 3) == 0), .int .u16 (Int.tmod (IntKind.u16.wrap (IntKind.i64.wrap (8185 + i498))) 8192), .int .u8 (IntKind.u8.wrap (Int.tmod i498 4)), .int .u8 (IntKind.u8.wrap (IntKind.i64.wrap (i498 * 6))), .int .u8 (List.getD [(IntKind.u8.wrap i498), 2, 3, 4] 0 0), .int .u8 (List.getD [(IntKind.u8.wrap i498), 2, 3, 4] 1 0), .int .u8 (List.getD [(IntKind.u8.wrap i498), 2, 3, 4] 2 0), .int .u8 (List.getD [(IntKind.u8.wrap i498), 2, 3, 4] 3 0), .int .u8 (List.getD [255, (IntKind.u8.wrap i498), 0, 1] 0 0), .int .u8 (List.getD [255, (IntKind.u8.wrap i498), 0, 1] 1 0), .int .u8 (List.getD [255, (IntKind.u8.wrap i498), 0, 1] 2 0), .int .u8 (List.getD [255, (IntKind.u8.wrap i498), 0, 1] 3 0), .slice A542 (cut540).length c543]) hM rfl sz36 rfl (adds_eq [1] rfl) rfl rfl (One.all rfl) rfl rfl) fun w549 hM1 => ?_
      clear hM
      have hM := hM1
      clear hM1
      have hr525 := Rd.cutT (enc := (eI .u8)) (s := 1) (fun _ => rfl) (hM.rd (i := 0) rfl) hy522 (m := c516) (by have := (hM.rd (i := 0) rfl).cap; have := (gcut_some hy522).2.2.1; omega) (Nat.le_refl _)
      rw [← eA526, ← ec527] at hr525
      have hr544 := Rd.cutT (enc := (eI .u8)) (s := 1) (fun _ => rfl) (hM.rd (i := 0) rfl) hy541 (m := c516) (by have := (hM.rd (i := 0) rfl).cap; have := (gcut_some hy541).2.2.1; omega) (Nat.le_refl _)
      rw [← eA545, ← ec546] at hr544
      refine RL.nil ?_
      refine KQ.thn hQ548 ?_
      clear hQ548 Q548
      refine KC.seqH fun Q550 hQ550 => ?_
      refine KC.cut (fun a w589 => ∃ (t588 : Bool), Kn 184 [(1, .slice A515 ((more497 ++ ([xv511] : List Int))).length c516), (2, .int .i64 i498), (4, .pointer (some ⟨g533, 0, none⟩)), (121, .bool t588)] a ∧ Mem w [] w589 [.row A515 c516 5 1 ((more497 ++ ([xv511] : List Int))).length (((more497 ++ ([xv511] : List Int))).flatMap (eI .u8)), .box g533 39 [.int .u8 (IntKind.u8.wrap i498), .int .u16 (IntKind.u16.wrap (IntKind.i64.wrap (60 + i498))), .int .u16 (IntKind.u16.wrap (IntKind.i64.wrap (i498 * 4000))), .bool ((Int.tmod i498 2) == 0), .bool ((Int.tmod i498 3) == 0), .int .u16 (Int.tmod (IntKind.u16.wrap (IntKind.i64.wrap (8185 + i498))) 8192), .int .u8 (IntKind.u8.wrap (Int.tmod i498 4)), .int .u8 (IntKind.u8.wrap (IntKind.i64.wrap (i498 * 6))), .int .u8 (List.getD [(IntKind.u8.wrap i498), 2, 3, 4] 0 0), .int .u8 (List.getD [(IntKind.u8.wrap i498), 2, 3, 4] 1 0), .int .u8 (List.getD [(IntKind.u8.wrap i498), 2, 3, 4] 2 0), .int .u8 (List.getD [(IntKind.u8.wrap i498), 2, 3, 4] 3 0), .int .u8 (List.getD [255, (IntKind.u8.wrap i498), 0, 1] 0 0), .int .u8 (List.getD [255, (IntKind.u8.wrap i498), 0, 1] 1 0), .int .u8 (List.getD [255, (IntKind.u8.wrap i498), 0, 1] 2 0), .int .u8 (List.getD [255, (IntKind.u8.wrap i498), 0, 1] 3 0), .slice A542 (cut540).length c543]] ∧ Rd w589 A542 c543 1 (cut540).length ((cut540).flatMap (eI .u8)) ∧ F_law05_IpKnown_j1 more497 i498 (F_law05_IpKnown_L1 k501) xv511 cut540 t588 = some r) ?_ ?_
      · replace hM := hM.drewN 1
        have hr525 := hr525.fut (fut_drewN _ 1)
        have hr544 := hr544.fut (fut_drewN _ 1)
        refine KC.draw [] [] [2, 7, 14, 28, 36] [3, 4, 8, 9, 10, 12, 13, 15, 16, 17, 19, 20, 21, 22, 23, 24, 25, 26, 27, 29, 30, 31, 32, 33, 34, 35, 37, 38] (.ofList [0, 1, 2, 3, 4, 5, 6, 7, 8, 9, 10, 11, 12, 13, 14, 15, 16, 17, 18, 19, 20, 21, 22, 23, 24, 25, 26, 27, 28, 29, 30, 31, 32, 33, 34, 35, 36, 37, 38]) moP (by kernel_rfl) ?_
        refine RD.q rfl rfl rfl rfl (fun w' hf => O.loadN (cs := [.int .u8 (IntKind.u8.wrap i498), .int .u16 (IntKind.u16.wrap (IntKind.i64.wrap (18 + (IntKind.i64.wrap (i498 * 7))))), .int .u16 (IntKind.u16.wrap (IntKind.i64.wrap (i498 * 4000))), .bool ((Int.tmod i498 2) == 0), .bool ((Int.tmod i498 3) == 0), .int .u16 (IntKind.u16.wrap (IntKind.i64.wrap (8185 + i498))), .int .u8 (IntKind.u8.wrap (Int.tmod i498 4)), .int .u8 (IntKind.u8.wrap (IntKind.i64.wrap (i498 * 6))), .int .u8 (List.getD [(IntKind.u8.wrap i498), 2, 3, 4] 0 0), .int .u8 (List.getD [(IntKind.u8.wrap i498), 2, 3, 4] 1 0), .int .u8 (List.getD [(IntKind.u8.wrap i498), 2, 3, 4] 2 0), .int .u8 (List.getD [(IntKind.u8.wrap i498), 2, 3, 4] 3 0), .int .u8 (List.getD [255, (IntKind.u8.wrap i498), 0, 1] 0 0), .int .u8 (List.getD [255, (IntKind.u8.wrap i498), 0, 1] 1 0), .int .u8 (List.getD [255, (IntKind.u8.wrap i498), 0, 1] 2 0), .int .u8 (List.getD [255, (IntKind.u8.wrap i498), 0, 1] 3 0), .slice A523 (cut521).length c524]) ag39 rfl (Cs.addsN [] ((hM.bx (i := 1) rfl).fut hf) rfl)) ?_
        refine RD.q rfl rfl rfl rfl (fun w' hf => O.loadN (cs := [.int .u8 (IntKind.u8.wrap i498), .int .u16 (IntKind.u16.wrap (IntKind.i64.wrap (60 + i498))), .int .u16 (IntKind.u16.wrap (IntKind.i64.wrap (i498 * 4000))), .bool ((Int.tmod i498 2) == 0), .bool ((Int.tmod i498 3) == 0), .int .u16 (Int.tmod (IntKind.u16.wrap (IntKind.i64.wrap (8185 + i498))) 8192), .int .u8 (IntKind.u8.wrap (Int.tmod i498 4)), .int .u8 (IntKind.u8.wrap (IntKind.i64.wrap (i498 * 6))), .int .u8 (List.getD [(IntKind.u8.wrap i498), 2, 3, 4] 0 0), .int .u8 (List.getD [(IntKind.u8.wrap i498), 2, 3, 4] 1 0), .int .u8 (List.getD [(IntKind.u8.wrap i498), 2, 3, 4] 2 0), .int .u8 (List.getD [(IntKind.u8.wrap i498), 2, 3, 4] 3 0), .int .u8 (List.getD [255, (IntKind.u8.wrap i498), 0, 1] 0 0), .int .u8 (List.getD [255, (IntKind.u8.wrap i498), 0, 1] 1 0), .int .u8 (List.getD [255, (IntKind.u8.wrap i498), 0, 1] 2 0), .int .u8 (List.getD [255, (IntKind.u8.wrap i498), 0, 1] 3 0), .slice A542 (cut540).length c543]) ag39 rfl (Cs.addsN [] ((hM.bx (i := 2) rfl).fut hf) rfl)) ?_
        refine obindE hF fun y551 hx552 hF => ?_
        refine RD.mcall rfl rfl trivial Try.func4 bd4 rfl rfl (c_law05_IpPuts _ (T_ip_Header.mk (IntKind.u8.wrap i498) (IntKind.u16.wrap (IntKind.i64.wrap (18 + (IntKind.i64.wrap (i498 * 7))))) (IntKind.u16.wrap (IntKind.i64.wrap (i498 * 4000))) ((Int.tmod i498 2) == 0) ((Int.tmod i498 3) == 0) (IntKind.u16.wrap (IntKind.i64.wrap (8185 + i498))) (IntKind.u8.wrap (Int.tmod i498 4)) (IntKind.u8.wrap (IntKind.i64.wrap (i498 * 6))) ([(IntKind.u8.wrap i498), 2, 3, 4]) ([255, (IntKind.u8.wrap i498), 0, 1]) cut521) _ _ hr525 (T_ip_Header.mk (IntKind.u8.wrap i498) (IntKind.u16.wrap (IntKind.i64.wrap (60 + i498))) (IntKind.u16.wrap (IntKind.i64.wrap (i498 * 4000))) ((Int.tmod i498 2) == 0) ((Int.tmod i498 3) == 0) (Int.tmod (IntKind.u16.wrap (IntKind.i64.wrap (8185 + i498))) 8192) (IntKind.u8.wrap (Int.tmod i498 4)) (IntKind.u8.wrap (IntKind.i64.wrap (i498 * 6))) ([(IntKind.u8.wrap i498), 2, 3, 4]) ([255, (IntKind.u8.wrap i498), 0, 1]) cut540) _ _ hr544 _ hx552) fun v w553 hv => ?_
        obtain ⟨rfl, hN554⟩ := hv
        refine ⟨fun _ => hN554.fut, ?_⟩
        have hr525 := hr525.fut hN554.fut
        have hr544 := hr544.fut hN554.fut
        replace hM := hM.call0 hN554
        refine RD.p rfl rfl rfl rfl (fun w' => O.not rfl) ?_
        refine RD.p rfl rfl rfl rfl (fun w' => O.move rfl) ?_
        refine RD.bcase (t := 87) rfl (fun hc => ?_) (fun hc => ?_)
        · rw [if_pos hc] at hF
          refine RD.gskip rfl rfl rfl rfl rfl ?_
          refine RD.gskip rfl rfl rfl rfl rfl ?_
          refine RD.gskip rfl rfl rfl rfl rfl ?_
          refine RD.gskip rfl rfl rfl rfl rfl ?_
          refine RD.p rfl rfl rfl rfl (fun w' => O.pickt rfl rfl) ?_
          refine RD.p rfl rfl rfl rfl (fun w' => O.move rfl) ?_
          refine RD.gskip rfl rfl rfl rfl rfl ?_
          refine RD.gskip rfl rfl rfl rfl rfl ?_
          refine RD.gskip rfl rfl rfl rfl rfl ?_
          refine RD.gskip rfl rfl rfl rfl rfl ?_
          refine RD.gskip rfl rfl rfl rfl rfl ?_
          refine RD.p rfl rfl rfl rfl (fun w' => O.pickt rfl rfl) ?_
          refine RD.p rfl rfl rfl rfl (fun w' => O.move rfl) ?_
          refine RD.gskip rfl rfl rfl rfl rfl ?_
          refine RD.gskip rfl rfl rfl rfl rfl ?_
          refine RD.gskip rfl rfl rfl rfl rfl ?_
          refine RD.gskip rfl rfl rfl rfl rfl ?_
          refine RD.gskip rfl rfl rfl rfl rfl ?_
          refine RD.gskip rfl rfl rfl rfl rfl ?_
          refine RD.gskip rfl rfl rfl rfl rfl ?_
          refine RD.gskip rfl rfl rfl rfl rfl ?_
          refine RD.gskip rfl rfl rfl rfl rfl ?_
          refine RD.gskip rfl rfl rfl rfl rfl ?_
          refine RD.gskip rfl rfl rfl rfl rfl ?_
          refine RD.gskip rfl rfl rfl rfl rfl ?_
          refine RD.p rfl rfl rfl rfl (fun w' => O.pickt rfl rfl) ?_
          refine RD.p rfl rfl rfl rfl (fun w' => O.move rfl) ?_
          refine RD.gskip rfl rfl rfl rfl rfl ?_
          refine RD.gskip rfl rfl rfl rfl rfl ?_
          refine RD.gskip rfl rfl rfl rfl rfl ?_
          refine RD.gskip rfl rfl rfl rfl rfl ?_
          refine RD.gskip rfl rfl rfl rfl rfl ?_
          refine RD.gskip rfl rfl rfl rfl rfl ?_
          refine RD.p rfl rfl rfl rfl (fun w' => O.pickt rfl rfl) ?_
          refine RD.nil ?_
          refine KQ.then_k ?_
          replace hM := hM.pick [0, 2] rfl (by decide)
          exact fun a ha => ⟨true, ha.less (less_cons rfl (less_cons rfl (less_cons rfl (less_cons rfl less_nil)))), hM, hr544, hF⟩
        · rw [if_neg (ne_true hc)] at hF
          refine RD.gq rfl rfl rfl rfl rfl rfl (fun w' hf => O.loadN (cs := [.int .u8 (IntKind.u8.wrap i498), .int .u16 (IntKind.u16.wrap (IntKind.i64.wrap (60 + i498))), .int .u16 (IntKind.u16.wrap (IntKind.i64.wrap (i498 * 4000))), .bool ((Int.tmod i498 2) == 0), .bool ((Int.tmod i498 3) == 0), .int .u16 (Int.tmod (IntKind.u16.wrap (IntKind.i64.wrap (8185 + i498))) 8192), .int .u8 (IntKind.u8.wrap (Int.tmod i498 4)), .int .u8 (IntKind.u8.wrap (IntKind.i64.wrap (i498 * 6))), .int .u8 (List.getD [(IntKind.u8.wrap i498), 2, 3, 4] 0 0), .int .u8 (List.getD [(IntKind.u8.wrap i498), 2, 3, 4] 1 0), .int .u8 (List.getD [(IntKind.u8.wrap i498), 2, 3, 4] 2 0), .int .u8 (List.getD [(IntKind.u8.wrap i498), 2, 3, 4] 3 0), .int .u8 (List.getD [255, (IntKind.u8.wrap i498), 0, 1] 0 0), .int .u8 (List.getD [255, (IntKind.u8.wrap i498), 0, 1] 1 0), .int .u8 (List.getD [255, (IntKind.u8.wrap i498), 0, 1] 2 0), .int .u8 (List.getD [255, (IntKind.u8.wrap i498), 0, 1] 3 0), .slice A542 (cut540).length c543]) ag39 rfl (Cs.addsN [] ((hM.bx (i := 2) rfl).fut hf) rfl)) ?_
          refine RD.gq rfl rfl rfl rfl rfl rfl (fun w' hf => O.loadN (cs := [.int .u8 (IntKind.u8.wrap i498), .int .u16 (IntKind.u16.wrap (IntKind.i64.wrap (60 + i498))), .int .u16 (IntKind.u16.wrap (IntKind.i64.wrap (i498 * 4000))), .bool ((Int.tmod i498 2) == 0), .bool ((Int.tmod i498 3) == 0), .int .u16 (Int.tmod (IntKind.u16.wrap (IntKind.i64.wrap (8185 + i498))) 8192), .int .u8 (IntKind.u8.wrap (Int.tmod i498 4)), .int .u8 (IntKind.u8.wrap (IntKind.i64.wrap (i498 * 6))), .int .u8 (List.getD [(IntKind.u8.wrap i498), 2, 3, 4] 0 0), .int .u8 (List.getD [(IntKind.u8.wrap i498), 2, 3, 4] 1 0), .int .u8 (List.getD [(IntKind.u8.wrap i498), 2, 3, 4] 2 0), .int .u8 (List.getD [(IntKind.u8.wrap i498), 2, 3, 4] 3 0), .int .u8 (List.getD [255, (IntKind.u8.wrap i498), 0, 1] 0 0), .int .u8 (List.getD [255, (IntKind.u8.wrap i498), 0, 1] 1 0), .int .u8 (List.getD [255, (IntKind.u8.wrap i498), 0, 1] 2 0), .int .u8 (List.getD [255, (IntKind.u8.wrap i498), 0, 1] 3 0), .slice A542 (cut540).length c543]) ag39 rfl (Cs.addsN [] ((hM.bx (i := 2) rfl).fut hf) rfl)) ?_
          refine obindE hF fun y555 hx556 hF => ?_
          refine RD.mcall rfl rfl ⟨rfl, rfl⟩ Try.func4 bd4 rfl rfl (c_law05_IpPuts _ (T_ip_Header.mk (IntKind.u8.wrap i498) (IntKind.u16.wrap (IntKind.i64.wrap (60 + i498))) (IntKind.u16.wrap (IntKind.i64.wrap (i498 * 4000))) ((Int.tmod i498 2) == 0) ((Int.tmod i498 3) == 0) (Int.tmod (IntKind.u16.wrap (IntKind.i64.wrap (8185 + i498))) 8192) (IntKind.u8.wrap (Int.tmod i498 4)) (IntKind.u8.wrap (IntKind.i64.wrap (i498 * 6))) ([(IntKind.u8.wrap i498), 2, 3, 4]) ([255, (IntKind.u8.wrap i498), 0, 1]) cut540) _ _ hr544 (T_ip_Header.mk (IntKind.u8.wrap i498) (IntKind.u16.wrap (IntKind.i64.wrap (60 + i498))) (IntKind.u16.wrap (IntKind.i64.wrap (i498 * 4000))) ((Int.tmod i498 2) == 0) ((Int.tmod i498 3) == 0) (Int.tmod (IntKind.u16.wrap (IntKind.i64.wrap (8185 + i498))) 8192) (IntKind.u8.wrap (Int.tmod i498 4)) (IntKind.u8.wrap (IntKind.i64.wrap (i498 * 6))) ([(IntKind.u8.wrap i498), 2, 3, 4]) ([255, (IntKind.u8.wrap i498), 0, 1]) cut540) _ _ hr544 _ hx556) fun v w557 hv => ?_
          obtain ⟨rfl, hN558⟩ := hv
          refine ⟨fun _ => hN558.fut, ?_⟩
          have hr525 := hr525.fut hN558.fut
          have hr544 := hr544.fut hN558.fut
          replace hM := hM.call0 hN558
          refine RD.gp rfl rfl rfl rfl rfl rfl (fun w' => O.not rfl) ?_
          refine RD.p rfl rfl rfl rfl (fun w' => O.pickf rfl rfl) ?_
          refine RD.p rfl rfl rfl rfl (fun w' => O.move rfl) ?_
          refine RD.bcase (t := 93) rfl (fun hc => ?_) (fun hc => ?_)
          · rw [if_pos hc] at hF
            refine RD.gskip rfl rfl rfl rfl rfl ?_
            refine RD.gskip rfl rfl rfl rfl rfl ?_
            refine RD.gskip rfl rfl rfl rfl rfl ?_
            refine RD.gskip rfl rfl rfl rfl rfl ?_
            refine RD.gskip rfl rfl rfl rfl rfl ?_
            refine RD.p rfl rfl rfl rfl (fun w' => O.pickt rfl rfl) ?_
            refine RD.p rfl rfl rfl rfl (fun w' => O.move rfl) ?_
            refine RD.gskip rfl rfl rfl rfl rfl ?_
            refine RD.gskip rfl rfl rfl rfl rfl ?_
            refine RD.gskip rfl rfl rfl rfl rfl ?_
            refine RD.gskip rfl rfl rfl rfl rfl ?_
            refine RD.gskip rfl rfl rfl rfl rfl ?_
            refine RD.gskip rfl rfl rfl rfl rfl ?_
            refine RD.gskip rfl rfl rfl rfl rfl ?_
            refine RD.gskip rfl rfl rfl rfl rfl ?_
            refine RD.gskip rfl rfl rfl rfl rfl ?_
            refine RD.gskip rfl rfl rfl rfl rfl ?_
            refine RD.gskip rfl rfl rfl rfl rfl ?_
            refine RD.gskip rfl rfl rfl rfl rfl ?_
            refine RD.p rfl rfl rfl rfl (fun w' => O.pickt rfl rfl) ?_
            refine RD.p rfl rfl rfl rfl (fun w' => O.move rfl) ?_
            refine RD.gskip rfl rfl rfl rfl rfl ?_
            refine RD.gskip rfl rfl rfl rfl rfl ?_
            refine RD.gskip rfl rfl rfl rfl rfl ?_
            refine RD.gskip rfl rfl rfl rfl rfl ?_
            refine RD.gskip rfl rfl rfl rfl rfl ?_
            refine RD.gskip rfl rfl rfl rfl rfl ?_
            refine RD.p rfl rfl rfl rfl (fun w' => O.pickt rfl rfl) ?_
            refine RD.nil ?_
            refine KQ.then_k ?_
            replace hM := hM.pick [0, 2] rfl (by decide)
            exact fun a ha => ⟨true, ha.less (less_cons rfl (less_cons rfl (less_cons rfl (less_cons rfl less_nil)))), hM, hr544, hF⟩
          · rw [if_neg (ne_true hc)] at hF
            refine RD.gq rfl rfl rfl rfl rfl rfl (fun w' hf => O.loadN (cs := [.int .u8 (IntKind.u8.wrap i498), .int .u16 (IntKind.u16.wrap (IntKind.i64.wrap (18 + (IntKind.i64.wrap (i498 * 7))))), .int .u16 (IntKind.u16.wrap (IntKind.i64.wrap (i498 * 4000))), .bool ((Int.tmod i498 2) == 0), .bool ((Int.tmod i498 3) == 0), .int .u16 (IntKind.u16.wrap (IntKind.i64.wrap (8185 + i498))), .int .u8 (IntKind.u8.wrap (Int.tmod i498 4)), .int .u8 (IntKind.u8.wrap (IntKind.i64.wrap (i498 * 6))), .int .u8 (List.getD [(IntKind.u8.wrap i498), 2, 3, 4] 0 0), .int .u8 (List.getD [(IntKind.u8.wrap i498), 2, 3, 4] 1 0), .int .u8 (List.getD [(IntKind.u8.wrap i498), 2, 3, 4] 2 0), .int .u8 (List.getD [(IntKind.u8.wrap i498), 2, 3, 4] 3 0), .int .u8 (List.getD [255, (IntKind.u8.wrap i498), 0, 1] 0 0), .int .u8 (List.getD [255, (IntKind.u8.wrap i498), 0, 1] 1 0), .int .u8 (List.getD [255, (IntKind.u8.wrap i498), 0, 1] 2 0), .int .u8 (List.getD [255, (IntKind.u8.wrap i498), 0, 1] 3 0), .slice A523 (cut521).length c524]) ag39 rfl (Cs.addsN [] ((hM.bx (i := 1) rfl).fut hf) rfl)) ?_
            refine RD.gp rfl rfl rfl rfl rfl rfl (fun w' => O.move rfl) ?_
            refine RD.gp rfl rfl rfl rfl rfl rfl (fun w' => O.move rfl) ?_
            refine obindE hF fun y559 hx560 hF => ?_
            refine RD.mcall rfl rfl ⟨rfl, rfl⟩ Try.func5 bd5 rfl rfl (c_law05_IpBack _ (T_ip_Header.mk (IntKind.u8.wrap i498) (IntKind.u16.wrap (IntKind.i64.wrap (18 + (IntKind.i64.wrap (i498 * 7))))) (IntKind.u16.wrap (IntKind.i64.wrap (i498 * 4000))) ((Int.tmod i498 2) == 0) ((Int.tmod i498 3) == 0) (IntKind.u16.wrap (IntKind.i64.wrap (8185 + i498))) (IntKind.u8.wrap (Int.tmod i498 4)) (IntKind.u8.wrap (IntKind.i64.wrap (i498 * 6))) ([(IntKind.u8.wrap i498), 2, 3, 4]) ([255, (IntKind.u8.wrap i498), 0, 1]) cut521) _ _ hr525 _ _ (more497 ++ ([xv511] : List Int)) (hM.rd (i := 0) rfl) i498 1 _ hx560) fun v w561 hv => ?_
            obtain ⟨rfl, hN562⟩ := hv
            refine ⟨fun _ => hN562.fut, ?_⟩
            have hr525 := hr525.fut hN562.fut
            have hr544 := hr544.fut hN562.fut
            replace hM := hM.call0 hN562
            refine RD.gp rfl rfl rfl rfl rfl rfl (fun w' => O.not rfl) ?_
            refine RD.p rfl rfl rfl rfl (fun w' => O.pickf rfl rfl) ?_
            refine RD.p rfl rfl rfl rfl (fun w' => O.move rfl) ?_
            refine RD.bcase (t := 100) rfl (fun hc => ?_) (fun hc => ?_)
            · rw [if_pos hc] at hF
              refine RD.gskip rfl rfl rfl rfl rfl ?_
              refine RD.gskip rfl rfl rfl rfl rfl ?_
              refine RD.gskip rfl rfl rfl rfl rfl ?_
              refine RD.gskip rfl rfl rfl rfl rfl ?_
              refine RD.gskip rfl rfl rfl rfl rfl ?_
              refine RD.gskip rfl rfl rfl rfl rfl ?_
              refine RD.gskip rfl rfl rfl rfl rfl ?_
              refine RD.gskip rfl rfl rfl rfl rfl ?_
              refine RD.gskip rfl rfl rfl rfl rfl ?_
              refine RD.gskip rfl rfl rfl rfl rfl ?_
              refine RD.gskip rfl rfl rfl rfl rfl ?_
              refine RD.gskip rfl rfl rfl rfl rfl ?_
              refine RD.p rfl rfl rfl rfl (fun w' => O.pickt rfl rfl) ?_
              refine RD.p rfl rfl rfl rfl (fun w' => O.move rfl) ?_
              refine RD.gskip rfl rfl rfl rfl rfl ?_
              refine RD.gskip rfl rfl rfl rfl rfl ?_
              refine RD.gskip rfl rfl rfl rfl rfl ?_
              refine RD.gskip rfl rfl rfl rfl rfl ?_
              refine RD.gskip rfl rfl rfl rfl rfl ?_
              refine RD.gskip rfl rfl rfl rfl rfl ?_
              refine RD.p rfl rfl rfl rfl (fun w' => O.pickt rfl rfl) ?_
              refine RD.nil ?_
              refine KQ.then_k ?_
              replace hM := hM.pick [0, 2] rfl (by decide)
              exact fun a ha => ⟨true, ha.less (less_cons rfl (less_cons rfl (less_cons rfl (less_cons rfl less_nil)))), hM, hr544, hF⟩
            · rw [if_neg (ne_true hc)] at hF
              refine RD.gq rfl rfl rfl rfl rfl rfl (fun w' hf => O.loadN (cs := [.int .u8 (IntKind.u8.wrap i498), .int .u16 (IntKind.u16.wrap (IntKind.i64.wrap (60 + i498))), .int .u16 (IntKind.u16.wrap (IntKind.i64.wrap (i498 * 4000))), .bool ((Int.tmod i498 2) == 0), .bool ((Int.tmod i498 3) == 0), .int .u16 (Int.tmod (IntKind.u16.wrap (IntKind.i64.wrap (8185 + i498))) 8192), .int .u8 (IntKind.u8.wrap (Int.tmod i498 4)), .int .u8 (IntKind.u8.wrap (IntKind.i64.wrap (i498 * 6))), .int .u8 (List.getD [(IntKind.u8.wrap i498), 2, 3, 4] 0 0), .int .u8 (List.getD [(IntKind.u8.wrap i498), 2, 3, 4] 1 0), .int .u8 (List.getD [(IntKind.u8.wrap i498), 2, 3, 4] 2 0), .int .u8 (List.getD [(IntKind.u8.wrap i498), 2, 3, 4] 3 0), .int .u8 (List.getD [255, (IntKind.u8.wrap i498), 0, 1] 0 0), .int .u8 (List.getD [255, (IntKind.u8.wrap i498), 0, 1] 1 0), .int .u8 (List.getD [255, (IntKind.u8.wrap i498), 0, 1] 2 0), .int .u8 (List.getD [255, (IntKind.u8.wrap i498), 0, 1] 3 0), .slice A542 (cut540).length c543]) ag39 rfl (Cs.addsN [] ((hM.bx (i := 2) rfl).fut hf) rfl)) ?_
              refine RD.gp rfl rfl rfl rfl rfl rfl (fun w' => O.move rfl) ?_
              refine RD.gp rfl rfl rfl rfl rfl rfl (fun w' => O.move rfl) ?_
              refine RD.gp rfl rfl rfl rfl rfl rfl (fun w' => O.rem rfl rfl (by decide)) ?_
              refine obindE hF fun cut563 hy564 hF => ?_
              refine cutNE A515 c516 (Int.toNat 0) 1 fun A565 c566 eA568 ec569 => ?_
              have hr567 := Rd.cutT (enc := (eI .u8)) (s := 1) (fun _ => rfl) (hM.rd (i := 0) rfl) hy564 (m := c516) (by have := (hM.rd (i := 0) rfl).cap; have := (gcut_some hy564).2.2.1; omega) (Nat.le_refl _)
              rw [← eA568, ← ec569] at hr567
              refine RD.gp (v := .slice A565 (cut563).length c566) rfl rfl rfl rfl rfl rfl (fun w' => (by rw [eA568, ec569]; exact O.cuthT sl22 (hM.rd (i := 0) rfl) hy564 rfl rfl)) ?_
              refine RD.gp rfl rfl rfl rfl rfl rfl (fun w' => O.move rfl) ?_
              refine RD.gp rfl rfl rfl rfl rfl rfl (fun w' => O.mul rfl rfl) ?_
              refine RD.gp rfl rfl rfl rfl rfl rfl (fun w' => O.move rfl) ?_
              refine RD.gp rfl rfl rfl rfl rfl rfl (fun w' => O.mul rfl rfl) ?_
              refine RD.gp rfl rfl rfl rfl rfl rfl (fun w' => O.conv un3 Try.underlying5 rfl) ?_
              refine obindE hF fun y570 hx571 hF => ?_
              refine RD.mcall rfl rfl ⟨rfl, rfl⟩ Try.func5 bd5 rfl rfl (c_law05_IpBack _ (T_ip_Header.mk (IntKind.u8.wrap i498) (IntKind.u16.wrap (IntKind.i64.wrap (60 + i498))) (IntKind.u16.wrap (IntKind.i64.wrap (i498 * 4000))) ((Int.tmod i498 2) == 0) ((Int.tmod i498 3) == 0) (Int.tmod (IntKind.u16.wrap (IntKind.i64.wrap (8185 + i498))) 8192) (IntKind.u8.wrap (Int.tmod i498 4)) (IntKind.u8.wrap (IntKind.i64.wrap (i498 * 6))) ([(IntKind.u8.wrap i498), 2, 3, 4]) ([255, (IntKind.u8.wrap i498), 0, 1]) cut540) _ _ hr544 _ _ cut563 hr567 (IntKind.i64.wrap (i498 * 7)) (IntKind.u8.wrap (IntKind.i64.wrap (i498 * 5))) _ hx571) fun v w572 hv => ?_
              obtain ⟨rfl, hN573⟩ := hv
              refine ⟨fun _ => hN573.fut, ?_⟩
              have hr525 := hr525.fut hN573.fut
              have hr544 := hr544.fut hN573.fut
              have hr567 := hr567.fut hN573.fut
              replace hM := hM.call0 hN573
              refine RD.gp rfl rfl rfl rfl rfl rfl (fun w' => O.not rfl) ?_
              refine RD.p rfl rfl rfl rfl (fun w' => O.pickf rfl rfl) ?_
              refine RD.p rfl rfl rfl rfl (fun w' => O.move rfl) ?_
              refine RD.bcase (t := 114) rfl (fun hc => ?_) (fun hc => ?_)
              · rw [if_pos hc] at hF
                refine RD.gskip rfl rfl rfl rfl rfl ?_
                refine RD.gskip rfl rfl rfl rfl rfl ?_
                refine RD.gskip rfl rfl rfl rfl rfl ?_
                refine RD.gskip rfl rfl rfl rfl rfl ?_
                refine RD.gskip rfl rfl rfl rfl rfl ?_
                refine RD.gskip rfl rfl rfl rfl rfl ?_
                refine RD.p rfl rfl rfl rfl (fun w' => O.pickt rfl rfl) ?_
                refine RD.nil ?_
                refine KQ.then_k ?_
                replace hM := hM.pick [0, 2] rfl (by decide)
                exact fun a ha => ⟨true, ha.less (less_cons rfl (less_cons rfl (less_cons rfl (less_cons rfl less_nil)))), hM, hr544, hF⟩
              · rw [if_neg (ne_true hc)] at hF
                refine RD.gp rfl rfl rfl rfl rfl rfl (fun w' => O.move rfl) ?_
                refine RD.gp rfl rfl rfl rfl rfl rfl (fun w' => O.move rfl) ?_
                refine RD.gp rfl rfl rfl rfl rfl rfl (fun w' => O.quo rfl rfl (by decide)) ?_
                refine obindE hF fun cut574 hy575 hF => ?_
                refine cutNE A515 c516 (Int.toNat (IntKind.i64.wrap (Int.tdiv i498 2))) 1 fun A576 c577 eA579 ec580 => ?_
                have hr578 := Rd.cutT (enc := (eI .u8)) (s := 1) (fun _ => rfl) (hM.rd (i := 0) rfl) hy575 (m := c516) (by have := (hM.rd (i := 0) rfl).cap; have := (gcut_some hy575).2.2.1; omega) (Nat.le_refl _)
                rw [← eA579, ← ec580] at hr578
                refine RD.gp (v := .slice A576 (cut574).length c577) rfl rfl rfl rfl rfl rfl (fun w' => (by rw [eA579, ec580]; exact O.cutlT sl22 (hM.rd (i := 0) rfl) hy575 rfl rfl)) ?_
                refine obindE hF fun y581 hx582 hF => ?_
                refine RD.mcall rfl rfl ⟨rfl, rfl⟩ Try.func3 bd3 rfl rfl (c_law05_IpOptions _ _ _ cut574 hr578 _ hx582) fun v w583 hv => ?_
                obtain ⟨rfl, hN584⟩ := hv
                refine ⟨fun _ => hN584.fut, ?_⟩
                have hr525 := hr525.fut hN584.fut
                have hr544 := hr544.fut hN584.fut
                have hr567 := hr567.fut hN584.fut
                have hr578 := hr578.fut hN584.fut
                replace hM := hM.call0 hN584
                refine RD.gp rfl rfl rfl rfl rfl rfl (fun w' => O.not rfl) ?_
                refine RD.p rfl rfl rfl rfl (fun w' => O.pickf rfl rfl) ?_
                refine RD.nil ?_
                refine KQ.then_k ?_
                replace hM := hM.pick [0, 2] rfl (by decide)
                exact fun a ha => ⟨(!y581), ha.less (less_cons rfl (less_cons rfl (less_cons rfl (less_cons rfl less_nil)))), hM, hr544, hF⟩
      · rintro a w589 ⟨t588, ha, hM, hr587, hF⟩
        refine KC.app ha ?_
        clear ha
        unfold F_law05_IpKnown_j1 at hF
        refine KC.cond rfl (fun hc => ?_) (fun hc => ?_)
        · rw [if_pos hc] at hF
          refine KC.seqH fun Q590 hQ590 => ?_
          refine KC.region ?_
          refine RL.val (O.assign rfl) rfl ?_
          refine RL.nil ?_
          refine KQ.thn hQ590 ?_
          clear hQ590 Q590
          refine KC.ret ?_
          refine KQ.thr hQ550 ?_
          clear hQ550 Q550
          refine KQ.blk_r ?_
          refine KQ.thr hQ504 ?_
          clear hQ504 Q504
          refine KQ.then_r ?_
          refine KQ.blk_r ?_
          refine KQ.thr hQ3 ?_
          clear hQ3 Q3
          have hE := Option.some.inj hF
          clear hF
          subst hE
          replace hM := hM.pick [] rfl (by decide)
          refine KQ.rets Try.results7 (RVs.cons (RV.tm rfl) RVs.nil) ?_
          exact ⟨_, rfl, rfl, hM⟩
        · rw [if_neg (ne_true hc)] at hF
          refine KC.skip ?_
          refine KQ.thn hQ550 ?_
          clear hQ550 Q550
          refine KC.seqH fun Q591 hQ591 => ?_
          refine KC.region ?_
          refine RL.val (O.loadN (cs := [.int .u8 (IntKind.u8.wrap i498), .int .u16 (IntKind.u16.wrap (IntKind.i64.wrap (60 + i498))), .int .u16 (IntKind.u16.wrap (IntKind.i64.wrap (i498 * 4000))), .bool ((Int.tmod i498 2) == 0), .bool ((Int.tmod i498 3) == 0), .int .u16 (Int.tmod (IntKind.u16.wrap (IntKind.i64.wrap (8185 + i498))) 8192), .int .u8 (IntKind.u8.wrap (Int.tmod i498 4)), .int .u8 (IntKind.u8.wrap (IntKind.i64.wrap (i498 * 6))), .int .u8 (List.getD [(IntKind.u8.wrap i498), 2, 3, 4] 0 0), .int .u8 (List.getD [(IntKind.u8.wrap i498), 2, 3, 4] 1 0), .int .u8 (List.getD [(IntKind.u8.wrap i498), 2, 3, 4] 2 0), .int .u8 (List.getD [(IntKind.u8.wrap i498), 2, 3, 4] 3 0), .int .u8 (List.getD [255, (IntKind.u8.wrap i498), 0, 1] 0 0), .int .u8 (List.getD [255, (IntKind.u8.wrap i498), 0, 1] 1 0), .int .u8 (List.getD [255, (IntKind.u8.wrap i498), 0, 1] 2 0), .int .u8 (List.getD [255, (IntKind.u8.wrap i498), 0, 1] 3 0), .slice A542 (cut540).length c543]) ag39 rfl (Cs.addsN [] ((hM.bx (i := 1) rfl)) rfl)) rfl ?_
          refine obindE hF fun y592 hx593 hF => ?_
          refine RL.call Try.func13 bd13 rfl rfl (c_ip_Put _ (T_ip_Header.mk (IntKind.u8.wrap i498) (IntKind.u16.wrap (IntKind.i64.wrap (60 + i498))) (IntKind.u16.wrap (IntKind.i64.wrap (i498 * 4000))) ((Int.tmod i498 2) == 0) ((Int.tmod i498 3) == 0) (Int.tmod (IntKind.u16.wrap (IntKind.i64.wrap (8185 + i498))) 8192) (IntKind.u8.wrap (Int.tmod i498 4)) (IntKind.u8.wrap (IntKind.i64.wrap (i498 * 6))) ([(IntKind.u8.wrap i498), 2, 3, 4]) ([255, (IntKind.u8.wrap i498), 0, 1]) cut540) _ _ hr587 _ hx593) fun v w594 hv => ?_
          obtain ⟨A596, c597, rfl, hN595⟩ := hv
          have hr587 := hr587.fut hN595.fut
          replace hM := hM.call hN595
          refine RL.val (O.move rfl) rfl ?_
          refine RL.val (O.ext rfl rfl) rfl ?_
          refine RL.val (O.ext rfl rfl) rfl ?_
          refine RL.val (O.assign rfl) rfl ?_
          refine RL.val (O.assign rfl) rfl ?_
          refine RL.nil ?_
          refine KQ.thn hQ591 ?_
          clear hQ591 Q591
          refine KC.seqH fun Q599 hQ599 => ?_
          refine KC.region ?_
          refine RL.val (O.move rfl) rfl ?_
          refine RL.val (O.move rfl) rfl ?_
          refine obindE hF fun y600 hx601 hF => ?_
          refine RL.call Try.func18 bd18 rfl rfl (c_ref01_Join _ _ _ y592.1 (hM.rd (i := 2) rfl) _ _ (more497 ++ ([xv511] : List Int)) (hM.rd (i := 0) rfl) _ hx601) fun v w602 hv => ?_
          obtain ⟨A604, c605, rfl, hN603⟩ := hv
          replace hM := hM.call hN603
          refine RL.val (O.assign rfl) rfl ?_
          refine RL.nil ?_
          refine KQ.thn hQ599 ?_
          clear hQ599 Q599
          replace hM := hM.pick [0, 3] rfl (by decide)
          refine KC.seqH fun Q607 hQ607 => ?_
          refine KC.seqH fun Q608 hQ608 => ?_
          refine KC.region ?_
          refine RL.val (O.assign rfl) rfl ?_
          refine RL.nil ?_
          refine KQ.thn hQ608 ?_
          clear hQ608 Q608
          refine KC.block ?_
          refine KC.loop (fun k697 a w695 => ∃ (nv694 : Int), Kn 184 [(1, .slice A515 ((more497 ++ ([xv511] : List Int))).length c516), (2, .int .i64 i498), (7, .slice A604 (y600).length c605), (8, .int .i64 nv694)] a ∧ Mem w [] w695 [.row A515 c516 5 1 ((more497 ++ ([xv511] : List Int))).length (((more497 ++ ([xv511] : List Int))).flatMap (eI .u8)), .row A604 c605 5 1 (y600).length ((y600).flatMap (eI .u8))] ∧ F_law05_IpKnown_L2 more497 i498 (F_law05_IpKnown_L1 k501) xv511 y600 k697 nv694 = some r) ?_ ?_
          · exact fun a ha => ⟨fuel0, 0, ha.less (less_cons rfl (less_cons rfl (less_cons rfl (less_cons rfl less_nil)))), hM, hF⟩
          · rintro k697 a w695 ⟨nv694, ha, hM, hF⟩
            refine KC.app ha ?_
            clear ha
            cases k697 with
            | zero => exact (none_some hF).elim
            | succ k697 =>
            have hF : F_law05_IpKnown_l2 (F_law05_IpKnown_L2 more497 i498 (F_law05_IpKnown_L1 k501) xv511 y600 k697) more497 i498 (F_law05_IpKnown_L1 k501) xv511 y600 nv694 = some r := hF
            unfold F_law05_IpKnown_l2 at hF
            refine KC.seqH fun Q698 hQ698 => ?_
            refine KC.seqH fun Q699 hQ699 => ?_
            refine KC.region ?_
            refine RL.val (O.move rfl) rfl ?_
            refine RL.val (O.move rfl) rfl ?_
            refine RL.val (O.len sl22 rfl) rfl ?_
            refine RL.val (O.lss rfl rfl) rfl ?_
            refine RL.nil ?_
            refine KQ.thn hQ699 ?_
            clear hQ699 Q699
            refine KC.cond rfl (fun hc => ?_) (fun hc => ?_)
            · rw [if_pos hc] at hF
              refine KC.skip ?_
              refine KQ.thn hQ698 ?_
              clear hQ698 Q698
              refine KC.seqH fun Q700 hQ700 => ?_
              refine KC.block ?_
              refine KC.seqH fun Q701 hQ701 => ?_
              refine KC.region ?_
              refine RL.val (O.move rfl) rfl ?_
              refine obindE hF fun y702 hx703 hF => ?_
              refine RL.call Try.func18 bd18 rfl rfl (c_ref01_Join _ none 0 [] Rd.nilr _ _ y600 (hM.rd (i := 1) rfl) _ hx703) fun v w704 hv => ?_
              obtain ⟨A706, c707, rfl, hN705⟩ := hv
              replace hM := hM.call hN705
              refine RL.val (O.assign rfl) rfl ?_
              refine RL.nil ?_
              refine KQ.thn hQ701 ?_
              clear hQ701 Q701
              refine KC.seqH fun Q709 hQ709 => ?_
              refine KC.region ?_
              refine RL.val (O.move rfl) rfl ?_
              refine RL.val (O.move rfl) rfl ?_
              refine RL.val (O.move rfl) rfl ?_
              refine RL.val (O.move rfl) rfl ?_
              refine obindE hF fun xv712 hx711 hF => ?_
              have hA710 := Rd.atN (f := (eI .u8)) (s := 1) (fun _ => rfl) (by decide) (hM.rd (i := 2) rfl) hx711
              refine RL.val (O.idxA sl22 (hA710) rfl rfl) rfl ?_
              refine RL.val (O.load sc5 rfl (hA710).cells.at0) rfl ?_
              refine RL.val (O.move rfl) rfl ?_
              refine RL.val (O.mul rfl rfl) rfl ?_
              refine RL.val (O.add rfl rfl) rfl ?_
              refine RL.val (O.conv un3 Try.underlying5 rfl) rfl ?_
              refine RL.val (O.add rfl rfl) rfl ?_
              refine obindE hF fun xv715 hx714 hF => ?_
              have hA713 := Rd.atN (f := (eI .u8)) (s := 1) (fun _ => rfl) (by decide) (hM.rd (i := 2) rfl) hx714
              refine RL.val (O.idxA sl22 (hA713) rfl rfl) rfl ?_
              refine RL.effs (E.stR (enc := (eI .u8)) (j := 2) (off := 0) (vs := [.int .u8 (IntKind.u8.wrap (xv712 + (IntKind.u8.wrap (IntKind.i64.wrap (1 + (IntKind.i64.wrap (i498 * 16)))))))]) (x' := (IntKind.u8.wrap (xv712 + (IntKind.u8.wrap (IntKind.i64.wrap (1 + (IntKind.i64.wrap (i498 * 16)))))))) hM rfl (fun _ => rfl) hx714 sz5 rfl (addsR_eq [] rfl) rfl rfl (One.all rfl) rfl rfl) fun w716 hM1 => ?_
              clear hM
              obtain ⟨hM, hn717⟩ := hM1
              refine RL.reslot (t := 9) rfl hn717 ?_
              refine RL.reslot (t := 138) rfl hn717 ?_
              refine RL.reslot (t := 140) rfl hn717 ?_
              refine RL.nil ?_
              refine KQ.thn hQ709 ?_
              clear hQ709 Q709
              refine KC.cut (fun a w736 => ∃ (t735 : Bool), Kn 184 [(1, .slice A515 ((more497 ++ ([xv511] : List Int))).length c516), (2, .int .i64 i498), (7, .slice A604 (y600).length c605), (8, .int .i64 nv694), (164, .bool t735)] a ∧ Mem w [] w736 [.row A515 c516 5 1 ((more497 ++ ([xv511] : List Int))).length (((more497 ++ ([xv511] : List Int))).flatMap (eI .u8)), .row A604 c605 5 1 (y600).length ((y600).flatMap (eI .u8))] ∧ F_law05_IpKnown_j2 nv694 (F_law05_IpKnown_L2 more497 i498 (F_law05_IpKnown_L1 k501) xv511 y600 k697) t735 = some r) ?_ ?_
              · refine KC.region ?_
                refine RL.val (O.move rfl) rfl ?_
                refine RL.val (O.rem rfl rfl (by decide)) rfl ?_
                refine RL.val (O.eql rfl rfl) rfl ?_
                refine RL.val (O.move rfl) rfl ?_
                refine RL.bcase (t := 153) rfl (fun hc => ?_) (fun hc => ?_)
                · rw [if_pos hc] at hF
                  refine RL.gval rfl rfl (O.move rfl) rfl ?_
                  refine RL.gval rfl rfl (O.move rfl) rfl ?_
                  refine obindE hF fun cut718 hy719 hF => ?_
                  refine cutNE A604 c605 (Int.toNat 0) 1 fun A720 c721 eA723 ec724 => ?_
                  have hr722 := Rd.cutT (enc := (eI .u8)) (s := 1) (fun _ => rfl) (hM.rd (i := 1) rfl) hy719 (m := c605) (by have := (hM.rd (i := 1) rfl).cap; have := (gcut_some hy719).2.2.1; omega) (Nat.le_refl _)
                  rw [← eA723, ← ec724] at hr722
                  refine RL.gval (v := .slice A720 (cut718).length c721) rfl rfl (by rw [eA723, ec724]; exact O.cuthT sl22 (hM.rd (i := 1) rfl) hy719 rfl rfl) rfl ?_
                  refine obindE hF fun y725 hx726 hF => ?_
                  refine RL.gcall rfl rfl Try.func6 bd6 rfl rfl (c_law05_IpParses _ _ _ cut718 hr722 _ hx726) fun v w727 hv => ?_
                  obtain ⟨rfl, hN728⟩ := hv
                  have hr722 := hr722.fut hN728.fut
                  replace hM := hM.call0 hN728
                  refine RL.gval rfl rfl (O.not rfl) rfl ?_
                  refine RL.gval rfl rfl (O.move rfl) rfl ?_
                  refine RL.bcase (t := 159) rfl (fun hc => ?_) (fun hc => ?_)
                  · rw [if_pos hc] at hF
                    refine RL.gskip rfl rfl rfl rfl ?_
                    refine RL.gskip rfl rfl rfl rfl ?_
                    refine RL.gskip rfl rfl rfl rfl ?_
                    refine RL.gval rfl rfl (O.pickt rfl rfl) rfl ?_
                    refine RL.val (O.pickt rfl rfl) rfl ?_
                    refine RL.nil ?_
                    refine KQ.then_k ?_
                    replace hM := hM.pick [0, 1] rfl (by decide)
                    exact fun a ha => ⟨true, ha.less (less_cons rfl (less_cons rfl (less_cons rfl (less_cons rfl (less_cons rfl less_nil))))), hM, hF⟩
                  · rw [if_neg (ne_true hc)] at hF
                    refine RL.gval rfl rfl (O.move rfl) rfl ?_
                    refine obindE hF fun y729 hx730 hF => ?_
                    refine RL.gcall rfl rfl Try.func6 bd6 rfl rfl (c_law05_IpParses _ _ _ (y702.set (nv694 : Int).toNat (IntKind.u8.wrap (xv712 + (IntKind.u8.wrap (IntKind.i64.wrap (1 + (IntKind.i64.wrap (i498 * 16)))))))) (hM.rd (i := 2) rfl) _ hx730) fun v w731 hv => ?_
                    obtain ⟨rfl, hN732⟩ := hv
                    have hr722 := hr722.fut hN732.fut
                    replace hM := hM.call0 hN732
                    refine RL.gval rfl rfl (O.not rfl) rfl ?_
                    refine RL.gval rfl rfl (O.pickf rfl rfl) rfl ?_
                    refine RL.val (O.pickt rfl rfl) rfl ?_
                    refine RL.nil ?_
                    refine KQ.then_k ?_
                    replace hM := hM.pick [0, 1] rfl (by decide)
                    exact fun a ha => ⟨(!y729), ha.less (less_cons rfl (less_cons rfl (less_cons rfl (less_cons rfl (less_cons rfl less_nil))))), hM, hF⟩
                · rw [if_neg (ne_true hc)] at hF
                  refine RL.gskip rfl rfl rfl rfl ?_
                  refine RL.gskip rfl rfl rfl rfl ?_
                  refine RL.gskip rfl rfl rfl rfl ?_
                  refine RL.gskip rfl rfl rfl rfl ?_
                  refine RL.gskip rfl rfl rfl rfl ?_
                  refine RL.gskip rfl rfl rfl rfl ?_
                  refine RL.gskip' rfl rfl rfl ?_
                  refine RL.gskip' rfl rfl rfl ?_
                  refine RL.gskip' rfl rfl rfl ?_
                  refine RL.gskip rfl rfl rfl rfl ?_
                  refine RL.val (O.pickf rfl rfl) rfl ?_
                  refine RL.nil ?_
                  refine KQ.then_k ?_
                  replace hM := hM.pick [0, 1] rfl (by decide)
                  exact fun a ha => ⟨false, ha.less (less_cons rfl (less_cons rfl (less_cons rfl (less_cons rfl (less_cons rfl less_nil))))), hM, hF⟩
              · rintro a w736 ⟨t735, ha, hM, hF⟩
                refine KC.app ha ?_
                clear ha
                unfold F_law05_IpKnown_j2 at hF
                refine KC.cond rfl (fun hc => ?_) (fun hc => ?_)
                · rw [if_pos hc] at hF
                  refine KC.seqH fun Q737 hQ737 => ?_
                  refine KC.region ?_
                  refine RL.val (O.assign rfl) rfl ?_
                  refine RL.nil ?_
                  refine KQ.thn hQ737 ?_
                  clear hQ737 Q737
                  refine KC.ret ?_
                  refine KQ.blk_r ?_
                  refine KQ.thr hQ700 ?_
                  clear hQ700 Q700
                  refine KQ.then_r ?_
                  refine KQ.blk_r ?_
                  refine KQ.thr hQ607 ?_
                  clear hQ607 Q607
                  refine KQ.blk_r ?_
                  refine KQ.thr hQ504 ?_
                  clear hQ504 Q504
                  refine KQ.then_r ?_
                  refine KQ.blk_r ?_
                  refine KQ.thr hQ3 ?_
                  clear hQ3 Q3
                  have hE := Option.some.inj hF
                  clear hF
                  subst hE
                  replace hM := hM.pick [] rfl (by decide)
                  refine KQ.rets Try.results7 (RVs.cons (RV.tm rfl) RVs.nil) ?_
                  exact ⟨_, rfl, rfl, hM⟩
                · rw [if_neg (ne_true hc)] at hF
                  refine KC.skip ?_
                  refine KQ.blk_n ?_
                  refine KQ.thn hQ700 ?_
                  clear hQ700 Q700
                  refine KC.region ?_
                  refine RL.val (O.move rfl) rfl ?_
                  refine RL.val (O.add rfl rfl) rfl ?_
                  refine RL.val (O.assign rfl) rfl ?_
                  refine RL.nil ?_
                  refine KQ.then_k ?_
                  exact fun a ha => ⟨k697, Nat.lt_succ_self k697, (IntKind.i64.wrap (nv694 + 1)), ha.less (less_cons rfl (less_cons rfl (less_cons rfl (less_cons rfl less_nil)))), hM, hF⟩
            · rw [if_neg (ne_true hc)] at hF
              refine KC.exit ?_
              refine KQ.thx hQ698 ?_
              clear hQ698 Q698
              refine KQ.then_x ?_
              refine KQ.blk_x ?_
              refine KQ.thn hQ607 ?_
              clear hQ607 Q607
              refine KC.seqH fun Q738 hQ738 => ?_
              refine KC.region ?_
              refine RL.val (O.move rfl) rfl ?_
              refine obindE hF fun y739 hx740 hF => ?_
              refine RL.call Try.func6 bd6 rfl rfl (c_law05_IpParses _ _ _ y600 (hM.rd (i := 1) rfl) _ hx740) fun v w741 hv => ?_
              obtain ⟨rfl, hN742⟩ := hv
              replace hM := hM.call0 hN742
              refine RL.val (O.not rfl) rfl ?_
              refine RL.nil ?_
              refine KQ.thn hQ738 ?_
              clear hQ738 Q738
              refine KC.cond rfl (fun hc => ?_) (fun hc => ?_)
              · rw [if_pos hc] at hF
                refine KC.seqH fun Q743 hQ743 => ?_
                refine KC.region ?_
                refine RL.val (O.assign rfl) rfl ?_
                refine RL.nil ?_
                refine KQ.thn hQ743 ?_
                clear hQ743 Q743
                refine KC.ret ?_
                refine KQ.blk_r ?_
                refine KQ.thr hQ504 ?_
                clear hQ504 Q504
                refine KQ.then_r ?_
                refine KQ.blk_r ?_
                refine KQ.thr hQ3 ?_
                clear hQ3 Q3
                have hE := Option.some.inj hF
                clear hF
                subst hE
                replace hM := hM.pick [] rfl (by decide)
                refine KQ.rets Try.results7 (RVs.cons (RV.tm rfl) RVs.nil) ?_
                exact ⟨_, rfl, rfl, hM⟩
              · rw [if_neg (ne_true hc)] at hF
                refine KC.skip ?_
                refine KQ.blk_n ?_
                refine KQ.thn hQ504 ?_
                clear hQ504 Q504
                refine KC.region ?_
                refine RL.val (O.move rfl) rfl ?_
                refine RL.val (O.add rfl rfl) rfl ?_
                refine RL.val (O.assign rfl) rfl ?_
                refine RL.nil ?_
                refine KQ.then_k ?_
                replace hM := hM.pick [0] rfl (by decide)
                exact fun a ha => ⟨k501, Nat.lt_succ_self k501, A515, c516, (more497 ++ ([xv511] : List Int)), (IntKind.i64.wrap (i498 + 1)), ha.less (less_cons rfl (less_cons rfl less_nil)), hM, hF⟩
    · rw [if_neg (ne_true hc)] at hF
      refine KC.exit ?_
      refine KQ.thx hQ502 ?_
      clear hQ502 Q502
      refine KQ.then_x ?_
      refine KQ.blk_x ?_
      refine KQ.thn hQ3 ?_
      clear hQ3 Q3
      refine KC.cut (fun a w774 => ∃ (t773 : Bool), Kn 184 [(0, .bool t773)] a ∧ Mem w [] w774 [] ∧ F_law05_IpKnown_j3 t773 = some r) ?_ ?_
      · refine KC.region ?_
        refine obindE hF fun y744 hx745 hF => ?_
        refine RL.call Try.func6 bd6 rfl rfl (c_law05_IpParses _ none 0 [] Rd.nilr _ hx745) fun v w746 hv => ?_
        obtain ⟨rfl, hN747⟩ := hv
        replace hM := hM.call0 hN747
        refine RL.val (O.move rfl) rfl ?_
        refine RL.bcase (t := 169) rfl (fun hc => ?_) (fun hc => ?_)
        · rw [if_pos hc] at hF
          refine RL.geff rfl rfl (E.bsl (enc := (eI .u8)) (xs := ([7] : List Int)) hM sl22 ze5 rfl rfl rfl (fun _ => rfl) rfl (by kernel_rfl) rfl) rfl fun v w748 hv => ?_
          clear hM
          obtain ⟨A749, rfl, hM, hf⟩ := hv
          refine obindE hF fun y751 hx752 hF => ?_
          refine RL.gcall rfl rfl Try.func3 bd3 rfl rfl (c_law05_IpOptions _ _ _ ([7] : List Int) (hM.rd (i := 1) rfl) _ hx752) fun v w753 hv => ?_
          obtain ⟨rfl, hN754⟩ := hv
          replace hM := hM.call0 hN754
          refine RL.val (O.pickt rfl rfl) rfl ?_
          refine RL.val (O.move rfl) rfl ?_
          refine RL.bcase (t := 173) rfl (fun hc => ?_) (fun hc => ?_)
          · rw [if_pos hc] at hF
            refine RL.geff rfl rfl (E.bsl (enc := (eI .u8)) (xs := ([7, 1] : List Int)) hM sl22 ze5 rfl rfl rfl (fun _ => rfl) rfl (by kernel_rfl) rfl) rfl fun v w755 hv => ?_
            clear hM
            obtain ⟨A756, rfl, hM, hf⟩ := hv
            refine obindE hF fun y758 hx759 hF => ?_
            refine RL.gcall rfl rfl Try.func3 bd3 rfl rfl (c_law05_IpOptions _ _ _ ([7, 1] : List Int) (hM.rd (i := 2) rfl) _ hx759) fun v w760 hv => ?_
            obtain ⟨rfl, hN761⟩ := hv
            replace hM := hM.call0 hN761
            refine RL.val (O.pickt rfl rfl) rfl ?_
            refine RL.val (O.move rfl) rfl ?_
            refine RL.bcase (t := 177) rfl (fun hc => ?_) (fun hc => ?_)
            · rw [if_pos hc] at hF
              refine RL.geff rfl rfl (E.bsl (enc := (eI .u8)) (xs := ([7, 3] : List Int)) hM sl22 ze5 rfl rfl rfl (fun _ => rfl) rfl (by kernel_rfl) rfl) rfl fun v w762 hv => ?_
              clear hM
              obtain ⟨A763, rfl, hM, hf⟩ := hv
              refine obindE hF fun y765 hx766 hF => ?_
              refine RL.gcall rfl rfl Try.func3 bd3 rfl rfl (c_law05_IpOptions _ _ _ ([7, 3] : List Int) (hM.rd (i := 3) rfl) _ hx766) fun v w767 hv => ?_
              obtain ⟨rfl, hN768⟩ := hv
              replace hM := hM.call0 hN768
              refine RL.val (O.pickt rfl rfl) rfl ?_
              refine RL.val (O.move rfl) rfl ?_
              refine RL.bcase (t := 181) rfl (fun hc => ?_) (fun hc => ?_)
              · rw [if_pos hc] at hF
                refine obindE hF fun y769 hx770 hF => ?_
                refine RL.gcall rfl rfl Try.func8 bd8 rfl rfl (c_law05_works _ _ hx770) fun v w771 hv => ?_
                obtain ⟨rfl, hN772⟩ := hv
                replace hM := hM.call0 hN772
                refine RL.val (O.pickt rfl rfl) rfl ?_
                refine RL.val (O.assign rfl) rfl ?_
                refine RL.nil ?_
                refine KQ.then_k ?_
                replace hM := hM.pick [] rfl (by decide)
                exact fun a ha => ⟨y769, ha.less (less_cons rfl less_nil), hM, hF⟩
              · rw [if_neg (ne_true hc)] at hF
                refine RL.gskip rfl rfl rfl rfl ?_
                refine RL.val (O.pickf rfl rfl) rfl ?_
                refine RL.val (O.assign rfl) rfl ?_
                refine RL.nil ?_
                refine KQ.then_k ?_
                replace hM := hM.pick [] rfl (by decide)
                exact fun a ha => ⟨false, ha.less (less_cons rfl less_nil), hM, hF⟩
            · rw [if_neg (ne_true hc)] at hF
              refine RL.brun1 6 183 false (by kernel_rfl) ?_
              refine RL.val (O.assign rfl) rfl ?_
              refine RL.nil ?_
              refine KQ.then_k ?_
              replace hM := hM.pick [] rfl (by decide)
              exact fun a ha => ⟨false, ha.less (less_cons rfl less_nil), hM, hF⟩
          · rw [if_neg (ne_true hc)] at hF
            refine RL.brun1 10 183 false (by kernel_rfl) ?_
            refine RL.val (O.assign rfl) rfl ?_
            refine RL.nil ?_
            refine KQ.then_k ?_
            replace hM := hM.pick [] rfl (by decide)
            exact fun a ha => ⟨false, ha.less (less_cons rfl less_nil), hM, hF⟩
        · rw [if_neg (ne_true hc)] at hF
          refine RL.brun1 14 183 false (by kernel_rfl) ?_
          refine RL.val (O.assign rfl) rfl ?_
          refine RL.nil ?_
          refine KQ.then_k ?_
          replace hM := hM.pick [] rfl (by decide)
          exact fun a ha => ⟨false, ha.less (less_cons rfl less_nil), hM, hF⟩
      · rintro a w774 ⟨t773, ha, hM, hF⟩
        refine KC.app ha ?_
        clear ha
        unfold F_law05_IpKnown_j3 at hF
        refine KC.ret ?_
        have hE := Option.some.inj hF
        clear hF
        subst hE
        refine KQ.rets Try.results7 (RVs.cons (RV.tm rfl) RVs.nil) ?_
        exact ⟨_, rfl, rfl, hM⟩
end Go.Proofs.Ytjfdfjmnajjjaaa
