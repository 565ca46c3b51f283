/- Printed by a program of this claim: each call returns what the plain function of its name gives. -/
import Derived.Test.YtidbgejnkpoeeaaW1
import Derived.Test.YtidbgejnkpoeeaaW3
import Derived.Test.YtidbgejnkpoeeaaW18
set_option linter.unusedVariables false
namespace Go.Proofs.Ytidbgejnkpoeeaa
open Go Go.Ox Go.RowKit
set_option maxRecDepth 100000 in
set_option maxHeartbeats 40000000 in
theorem c_bits_of (w : World) (v1 : Int) (size2 : Int) (r : (List Int)) (hF : F_bits_of v1 size2 = some r) :
  CallsR Try.prog 84 [v64 v1, vI size2] w (fun v w' => ∃ (Ar0 : Option Addr) (cr0 : Nat), v = .slice Ar0 (r).length cr0 ∧ Mem w [] w' [.row Ar0 cr0 5 1 r.length (r.flatMap (eI .u8))]) := by
 refine calls_KC Try.func84 rfl Try.ntmps84 rfl ?_
 have hM := Mem.init w
 unfold F_bits_of at hF
 refine sr fun Q3 hQ3 => ?_
 refine va rfl rfl ?_
 refine nt hQ3 ?_
 clear hQ3 Q3
 refine sr fun Q4 hQ4 => ?_
 refine vm rfl rfl ?_
 refine cut_someE hF fun hq7 hF => ?_
 refine RL.eff (E.mks (enc := (eI .u8)) (zr := 0) hM sl94 ze5 rfl rfl (fun _ => rfl) rfl rfl rfl (of_decide_eq_true hq7)) rfl fun v w6 hv => ?_
 clear hM
 obtain ⟨A5, rfl, hM, hf⟩ := hv
 refine va rfl rfl ?_
 refine nt hQ4 ?_
 clear hQ4 Q4
 refine KC.seqH fun Q9 hQ9 => ?_
 refine sr fun Q10 hQ10 => ?_
 refine vm rfl rfl ?_
 refine vm rfl rfl ?_
 refine nt hQ10 ?_
 clear hQ10 Q10
 refine KC.block ?_
 refine KC.loop (fun k43 a w41 => ∃ (A37 : Option Addr) (c38 : Nat) (b39 : List Int) (t40 : Int), Kn 26 [(0, v64 v1), (1, vI size2), (5, .slice A37 (b39).length c38), (9, vI size2), (10, vI t40)] a ∧ Mem w [] w41 [.row A37 c38 5 1 (b39).length ((b39).flatMap (eI .u8))] ∧ F_bits_of_L1 v1 size2 k43 b39 t40 = some r) ?_ ?_
 ·exact fun a ha => ⟨fuel0, A5, (Int.toNat size2), (List.replicate (Int.toNat size2) (0 : Int)), 0, ha.less (less_cons rfl (less_cons rfl (less_cons rfl (less_cons rfl (less_cons rfl less_nil))))), hM, hF⟩
 rintro k43 a w41 ⟨A37, c38, b39, t40, ha, hM, hF⟩
 refine KC.app ha ?_
 clear ha
 cases k43 with
 | zero => exact (none_some hF).elim
 | succ k43 =>
 have hF : F_bits_of_l1 (F_bits_of_L1 v1 size2 k43) v1 size2 b39 t40 = some r := hF
 unfold F_bits_of_l1 at hF
 refine sr fun Q44 hQ44 => ?_
 refine RL.val (O.lss rfl rfl) rfl ?_
 refine nt hQ44 ?_
 clear hQ44 Q44
 refine KC.seqH fun Q45 hQ45 => ?_
 refine KC.cond rfl (fun hc => ?_) (fun hc => ?_)
 ·rw [if_pos hc] at hF
  refine KC.skip ?_
  refine KQ.thn hQ45 ?_
  clear hQ45 Q45
  refine KC.seqH fun Q46 hQ46 => ?_
  refine KC.block ?_
  refine sr fun Q47 hQ47 => ?_
  refine vm rfl rfl ?_
  refine va rfl rfl ?_
  refine nt hQ47 ?_
  clear hQ47 Q47
  refine KC.region ?_
  refine vm rfl rfl ?_
  refine vm rfl rfl ?_
  refine RL.val (O.sub rfl rfl) rfl ?_
  refine vm rfl rfl ?_
  refine RL.val (O.sub rfl rfl) rfl ?_
  refine vm rfl rfl ?_
  refine vm rfl rfl ?_
  refine RL.val (O.mul rfl rfl) rfl ?_
  refine cut_someE hF fun hq48 hF => ?_
  refine RL.val (O.shr rfl rfl (of_decide_eq_true hq48)) rfl ?_
  refine RL.val (O.conv un35 Try.underlying5 rfl) rfl ?_
  refine obindE hF fun xv51 hx50 hF => ?_
  have hA49 := Rd.atN (f := (eI .u8)) (s := 1) (fun _ => rfl) (by decide) (hM.rd (i := 0) rfl) hx50
  refine RL.val (O.idxA sl94 (hA49) rfl rfl) rfl ?_
  refine RL.effs (E.stR (enc := (eI .u8)) (j := 0) (off := 0) (vs := [v8 (IntKind.u8.wrap (Ox.shr .u64 v1 (IntKind.i64.wrap (8 * t40))))]) (x' := (IntKind.u8.wrap (Ox.shr .u64 v1 (IntKind.i64.wrap (8 * t40))))) hM rfl (fun _ => rfl) hx50 sz5 rfl (addsR_eq [] rfl) rfl rfl (One.all rfl) rfl rfl) fun w52 hM1 => ?_
  clear hM
  obtain ⟨hM, hn53⟩ := hM1
  refine RL.reslot (t := 5) rfl hn53 ?_
  refine RL.reslot (t := 13) rfl hn53 ?_
  refine RL.nil ?_
  refine KQ.blk_n ?_
  refine KQ.thn hQ46 ?_
  clear hQ46 Q46
  refine KC.region ?_
  refine RL.val (O.add rfl rfl) rfl ?_
  refine vm rfl rfl ?_
  refine RL.nil ?_
  refine KQ.then_k ?_
  exact fun a ha => ⟨k43, Nat.lt_succ_self k43, A37, c38, (b39.set ((IntKind.i64.wrap ((IntKind.i64.wrap (size2 - 1)) - t40)) : Int).toNat (IntKind.u8.wrap (Ox.shr .u64 v1 (IntKind.i64.wrap (8 * t40))))), (IntKind.i64.wrap (t40 + 1)), ha.less (less_cons rfl (less_cons rfl (less_cons rfl (less_cons rfl (less_cons rfl less_nil))))), hM, hF⟩
 rw [if_neg (ne_true hc)] at hF
 refine KC.exit ?_
 refine KQ.thx hQ45 ?_
 clear hQ45 Q45
 refine KQ.then_x ?_
 refine KQ.blk_x ?_
 refine KQ.thn hQ9 ?_
 clear hQ9 Q9
 refine sr fun Q54 hQ54 => ?_
 refine vm rfl rfl ?_
 refine va rfl rfl ?_
 refine nt hQ54 ?_
 clear hQ54 Q54
 refine KC.ret ?_
 have hE := Option.some.inj hF
 clear hF
 subst hE
 refine KQ.rets Try.results84 (RVs.cons (RV.tm rfl) RVs.nil) ?_
 exact ⟨_, rfl, A37, c38, rfl, hM⟩
set_option maxRecDepth 100000 in
set_option maxHeartbeats 40000000 in
theorem c_bits_Writer_Put (w : World) (g2 : Nat) (tg7 : TypeId) (wv1 : T_bits_Writer) (A4 : Option Addr) (c5 : Nat) (hL10 : Lent w [.box g2 tg7 [.slice A4 (wv1.f_b).length c5], .row A4 c5 5 1 (wv1.f_b).length ((wv1.f_b).flatMap (eI .u8))]) (v8 : Int) (size9 : Int) (r : Int × T_bits_Writer) (hF : F_bits_Writer_Put wv1 v8 size9 = some r) :
  CallsR Try.prog 68 [.pointer (some ⟨g2, 0, none⟩), v64 v8, vI size9] w (fun v w' => ∃ (Ar0 : Option Addr) (cr0 : Nat), v = vI r.1 ∧ Mem w [some g2, rblk A4 c5] w' [.box g2 tg7 [.slice Ar0 (r.2.f_b).length cr0], .row Ar0 cr0 5 1 r.2.f_b.length (r.2.f_b.flatMap (eI .u8))]) := by
 refine calls_KC Try.func68 rfl Try.ntmps68 rfl ?_
 have hM : Mem w [some g2, rblk A4 c5] w [.box g2 tg7 [.slice A4 (wv1.f_b).length c5], .row A4 c5 5 1 (wv1.f_b).length ((wv1.f_b).flatMap (eI .u8))] := Mem.lendN hL10
 unfold F_bits_Writer_Put at hF
 refine sr fun Q11 hQ11 => ?_
 refine va rfl rfl ?_
 refine nt hQ11 ?_
 clear hQ11 Q11
 refine KC.seqH fun Q12 hQ12 => ?_
 refine sr fun Q13 hQ13 => ?_
 refine vm rfl rfl ?_
 refine RL.val (O.peqn Try.underlying123 rfl rfl) rfl ?_
 refine nt hQ13 ?_
 clear hQ13 Q13
 refine KC.condF rfl ?_
 refine KC.skip ?_
 refine KQ.thn hQ12 ?_
 clear hQ12 Q12
 refine KC.seqH fun Q14 hQ14 => ?_
 refine sr fun Q15 hQ15 => ?_
 refine vm rfl rfl ?_
 refine vm rfl rfl ?_
 refine obindE hF fun y16 hx17 hF => ?_
 refine RL.call Try.func83 bd83 rfl rfl (c_bits_fits _ v8 size9 _ hx17) fun v w18 hv => ?_
 obtain ⟨rfl, hN19⟩ := hv
 replace hM := hM.call0 hN19
 refine RL.val (O.not rfl) rfl ?_
 refine nt hQ15 ?_
 clear hQ15 Q15
 refine KC.cond rfl (fun hc => ?_) (fun hc => ?_)
 ·rw [if_pos hc] at hF
  refine sr fun Q20 hQ20 => ?_
  refine va rfl rfl ?_
  refine nt hQ20 ?_
  clear hQ20 Q20
  refine KC.ret ?_
  refine KQ.thr hQ14 ?_
  clear hQ14 Q14
  have hE := Option.some.inj hF
  clear hF
  subst hE
  refine KQ.rets Try.results68 (RVs.cons (RV.tm rfl) RVs.nil) ?_
  exact ⟨_, rfl, A4, c5, rfl, hM⟩
 rw [if_neg (ne_true hc)] at hF
 refine KC.skip ?_
 refine KQ.thn hQ14 ?_
 clear hQ14 Q14
 refine sr fun Q21 hQ21 => ?_
 refine vm rfl rfl ?_
 refine vm rfl rfl ?_
 refine vm rfl rfl ?_
 refine obindE hF fun y22 hx23 hF => ?_
 refine RL.call Try.func84 bd84 rfl rfl (c_bits_of _ v8 size9 _ hx23) fun v w24 hv => ?_
 obtain ⟨A26, c27, rfl, hN25⟩ := hv
 replace hM := hM.call hN25
 refine obindE hF fun y29 hx30 hF => ?_
 refine RL.call Try.func66 bd66 rfl rfl (c_bits_Writer_Raw _ _ _ wv1 _ _ (hM.lent [0, 1] rfl (by decide)) _ _ y22 (hM.rd (i := 2) rfl) (hM.offR [0, 1] rfl (i := 2) rfl rfl) _ hx30) fun v w31 hv => ?_
 obtain ⟨A33, c34, rfl, hN32⟩ := hv
 replace hM := hM.callL [0, 1] [2] rfl rfl (by decide) rfl hN32
 refine va rfl rfl ?_
 refine nt hQ21 ?_
 clear hQ21 Q21
 refine KC.ret ?_
 have hE := Option.some.inj hF
 clear hF
 subst hE
 replace hM := hM.pick [1, 2] rfl (by decide)
 refine KQ.rets Try.results68 (RVs.cons (RV.tm rfl) RVs.nil) ?_
 exact ⟨_, rfl, A33, c34, rfl, hM⟩
set_option maxRecDepth 100000 in
set_option maxHeartbeats 40000000 in
theorem c_slices_Clone_byte_byte (w : World) (A2 : Option Addr) (c3 : Nat) (s1 : List Int) (hr4 : Rd w A2 c3 1 s1.length (s1.flatMap (eI .u8))) (r : (List Int)) (hF : F_slices_Clone_byte_byte s1 = some r) :
  CallsR Try.prog 85 [.slice A2 (s1).length c3] w (fun v w' => ∃ (Ar0 : Option Addr) (cr0 : Nat), v = .slice Ar0 (r).length cr0 ∧ Mem w [] w' [.row Ar0 cr0 5 1 r.length (r.flatMap (eI .u8))]) := by
 refine calls_KC Try.func85 rfl Try.ntmps85 rfl ?_
 have hM := Mem.init w
 unfold F_slices_Clone_byte_byte at hF
 refine sr fun Q5 hQ5 => ?_
 refine va rfl rfl ?_
 refine nt hQ5 ?_
 clear hQ5 Q5
 refine KC.seqH fun Q6 hQ6 => ?_
 refine sr fun Q7 hQ7 => ?_
 refine vm rfl rfl ?_
 refine RL.val (O.sleqn sl94 rfl rfl) rfl ?_
 refine nt hQ7 ?_
 clear hQ7 Q7
 refine KC.cond rfl (fun hc => ?_) (fun hc => ?_)
 ·have hz8 := Rd.none_nil (hM.inp hr4 Off.nil) (hc)
  have hF : (some ([])) = some r := by (rw [hz8] at hF; simpa [lim] using hF)
  refine sr fun Q9 hQ9 => ?_
  refine va rfl rfl ?_
  refine nt hQ9 ?_
  clear hQ9 Q9
  refine KC.ret ?_
  refine KQ.thr hQ6 ?_
  clear hQ6 Q6
  have hE := Option.some.inj hF
  clear hF
  subst hE
  replace hM := hM.nilrow 5 1
  refine KQ.rets Try.results85 (RVs.cons (RV.tm rfl) RVs.nil) ?_
  exact ⟨_, rfl, none, 0, rfl, hM⟩
 refine KC.skip ?_
 refine KQ.thn hQ6 ?_
 clear hQ6 Q6
 refine sr fun Q10 hQ10 => ?_
 refine RL.eff (E.bsl0 hM sl94) rfl fun v w11 hv => ?_
 clear hM
 obtain ⟨A12, rfl, hM, hf⟩ := hv
 refine vm rfl rfl ?_
 refine cut_someE hF fun hq17 hF => ?_
 refine RL.eff (E.app (enc := (eI .u8)) (xs := ([] : List Int)) (ys := s1) (j := 0) hM rfl sl94 ze5 rfl rfl rfl rfl rfl (hM.inp hr4 Off.nil) (fun _ => One.all rfl) (of_decide_eq_true hq17)) rfl fun v w16 hv => ?_
 clear hM
 obtain ⟨A14, c15, rfl, hM, hf⟩ := hv
 refine va rfl rfl ?_
 refine nt hQ10 ?_
 clear hQ10 Q10
 refine KC.ret ?_
 have hE := Option.some.inj hF
 clear hF
 subst hE
 refine KQ.rets Try.results85 (RVs.cons (RV.tm rfl) RVs.nil) ?_
 exact ⟨_, rfl, A14, c15, rfl, hM⟩
set_option maxRecDepth 100000 in
set_option maxHeartbeats 40000000 in
theorem c_bits_Writer_Bytes (w : World) (wv4 : T_bits_Writer) (A5 : Option Addr) (c6 : Nat) (hr7 : Rd w A5 c6 1 wv4.f_b.length (wv4.f_b.flatMap (eI .u8))) (g1 : Nat) (hC2 : Cs w ⟨g1, 0, none⟩ [.slice A5 (wv4.f_b).length c6]) (r : (List Int)) (hF : F_bits_Writer_Bytes wv4 = some r) :
  CallsR Try.prog 69 [.pointer (some ⟨g1, 0, none⟩)] w (fun v w' => ∃ (Ar0 : Option Addr) (cr0 : Nat), v = .slice Ar0 (r).length cr0 ∧ Mem w [] w' [.row Ar0 cr0 5 1 r.length (r.flatMap (eI .u8))]) := by
 refine calls_KC Try.func69 rfl Try.ntmps69 rfl ?_
 have hM := Mem.init w
 unfold F_bits_Writer_Bytes at hF
 refine sr fun Q8 hQ8 => ?_
 refine va rfl rfl ?_
 refine nt hQ8 ?_
 clear hQ8 Q8
 refine KC.seqH fun Q9 hQ9 => ?_
 refine sr fun Q10 hQ10 => ?_
 refine vm rfl rfl ?_
 refine RL.val (O.peqn Try.underlying123 rfl rfl) rfl ?_
 refine nt hQ10 ?_
 clear hQ10 Q10
 refine KC.condF rfl ?_
 refine KC.skip ?_
 refine KQ.thn hQ9 ?_
 clear hQ9 Q9
 refine sr fun Q11 hQ11 => ?_
 refine vm rfl rfl ?_
 refine RL.val (O.nilp rfl) rfl ?_
 refine RL.val (O.fldA fl108_0 (by decide) rfl) rfl ?_
 refine RL.val (O.load sc94 rfl (Cs.adds [0] ((hC2.fut hM.chg)) rfl)) rfl ?_
 refine obindE hF fun y12 hx13 hF => ?_
 refine RL.call Try.func85 bd85 rfl rfl (c_slices_Clone_byte_byte _ _ _ wv4.f_b (hM.inp hr7 Off.nil) _ hx13) fun v w14 hv => ?_
 obtain ⟨A16, c17, rfl, hN15⟩ := hv
 replace hM := hM.call hN15
 refine va rfl rfl ?_
 refine nt hQ11 ?_
 clear hQ11 Q11
 refine KC.ret ?_
 have hE := Option.some.inj hF
 clear hF
 subst hE
 refine KQ.rets Try.results69 (RVs.cons (RV.tm rfl) RVs.nil) ?_
 exact ⟨_, rfl, A16, c17, rfl, hM⟩
set_option maxRecDepth 100000 in
set_option maxHeartbeats 40000000 in
theorem c_packet_Key_Bytes (w : World) (kv1 : T_packet_Key) (r : (List Int)) (hF : F_packet_Key_Bytes kv1 = some r) :
  CallsR Try.prog 51 [.agg #[vB kv1.f_Src.f_Six, o8 kv1.f_Src.f_B 0, o8 kv1.f_Src.f_B 1, o8 kv1.f_Src.f_B 2, o8 kv1.f_Src.f_B 3, o8 kv1.f_Src.f_B 4, o8 kv1.f_Src.f_B 5, o8 kv1.f_Src.f_B 6, o8 kv1.f_Src.f_B 7, o8 kv1.f_Src.f_B 8, o8 kv1.f_Src.f_B 9, o8 kv1.f_Src.f_B 10, o8 kv1.f_Src.f_B 11, o8 kv1.f_Src.f_B 12, o8 kv1.f_Src.f_B 13, o8 kv1.f_Src.f_B 14, o8 kv1.f_Src.f_B 15, vB kv1.f_Dst.f_Six, o8 kv1.f_Dst.f_B 0, o8 kv1.f_Dst.f_B 1, o8 kv1.f_Dst.f_B 2, o8 kv1.f_Dst.f_B 3, o8 kv1.f_Dst.f_B 4, o8 kv1.f_Dst.f_B 5, o8 kv1.f_Dst.f_B 6, o8 kv1.f_Dst.f_B 7, o8 kv1.f_Dst.f_B 8, o8 kv1.f_Dst.f_B 9, o8 kv1.f_Dst.f_B 10, o8 kv1.f_Dst.f_B 11, o8 kv1.f_Dst.f_B 12, o8 kv1.f_Dst.f_B 13, o8 kv1.f_Dst.f_B 14, o8 kv1.f_Dst.f_B 15, v8 kv1.f_Proto, v16 kv1.f_SrcPort, v16 kv1.f_DstPort]] w (fun v w' => ∃ (Ar0 : Option Addr) (cr0 : Nat), v = .slice Ar0 (r).length cr0 ∧ Mem w [] w' [.row Ar0 cr0 5 1 r.length (r.flatMap (eI .u8))]) := by
 refine calls_KC Try.func51 rfl Try.ntmps51 rfl ?_
 have hM := Mem.init w
 unfold F_packet_Key_Bytes at hF
 refine sr fun Q2 hQ2 => ?_
 refine RL.eff (E.box (vs := [vB kv1.f_Src.f_Six, o8 kv1.f_Src.f_B 0, o8 kv1.f_Src.f_B 1, o8 kv1.f_Src.f_B 2, o8 kv1.f_Src.f_B 3, o8 kv1.f_Src.f_B 4, o8 kv1.f_Src.f_B 5, o8 kv1.f_Src.f_B 6, o8 kv1.f_Src.f_B 7, o8 kv1.f_Src.f_B 8, o8 kv1.f_Src.f_B 9, o8 kv1.f_Src.f_B 10, o8 kv1.f_Src.f_B 11, o8 kv1.f_Src.f_B 12, o8 kv1.f_Src.f_B 13, o8 kv1.f_Src.f_B 14, o8 kv1.f_Src.f_B 15, vB kv1.f_Dst.f_Six, o8 kv1.f_Dst.f_B 0, o8 kv1.f_Dst.f_B 1, o8 kv1.f_Dst.f_B 2, o8 kv1.f_Dst.f_B 3, o8 kv1.f_Dst.f_B 4, o8 kv1.f_Dst.f_B 5, o8 kv1.f_Dst.f_B 6, o8 kv1.f_Dst.f_B 7, o8 kv1.f_Dst.f_B 8, o8 kv1.f_Dst.f_B 9, o8 kv1.f_Dst.f_B 10, o8 kv1.f_Dst.f_B 11, o8 kv1.f_Dst.f_B 12, o8 kv1.f_Dst.f_B 13, o8 kv1.f_Dst.f_B 14, o8 kv1.f_Dst.f_B 15, v8 kv1.f_Proto, v16 kv1.f_SrcPort, v16 kv1.f_DstPort]) hM rfl rfl) rfl fun v w4 hv => ?_
 clear hM
 obtain ⟨g3, rfl, hM, hf⟩ := hv
 refine va rfl rfl ?_
 refine nt hQ2 ?_
 clear hQ2 Q2
 refine KC.seqH fun Q6 hQ6 => ?_
 refine sr fun Q7 hQ7 => ?_
 refine RL.val (O.loadN (cs := [vB kv1.f_Src.f_Six, o8 kv1.f_Src.f_B 0, o8 kv1.f_Src.f_B 1, o8 kv1.f_Src.f_B 2, o8 kv1.f_Src.f_B 3, o8 kv1.f_Src.f_B 4, o8 kv1.f_Src.f_B 5, o8 kv1.f_Src.f_B 6, o8 kv1.f_Src.f_B 7, o8 kv1.f_Src.f_B 8, o8 kv1.f_Src.f_B 9, o8 kv1.f_Src.f_B 10, o8 kv1.f_Src.f_B 11, o8 kv1.f_Src.f_B 12, o8 kv1.f_Src.f_B 13, o8 kv1.f_Src.f_B 14, o8 kv1.f_Src.f_B 15, vB kv1.f_Dst.f_Six, o8 kv1.f_Dst.f_B 0, o8 kv1.f_Dst.f_B 1, o8 kv1.f_Dst.f_B 2, o8 kv1.f_Dst.f_B 3, o8 kv1.f_Dst.f_B 4, o8 kv1.f_Dst.f_B 5, o8 kv1.f_Dst.f_B 6, o8 kv1.f_Dst.f_B 7, o8 kv1.f_Dst.f_B 8, o8 kv1.f_Dst.f_B 9, o8 kv1.f_Dst.f_B 10, o8 kv1.f_Dst.f_B 11, o8 kv1.f_Dst.f_B 12, o8 kv1.f_Dst.f_B 13, o8 kv1.f_Dst.f_B 14, o8 kv1.f_Dst.f_B 15, v8 kv1.f_Proto, v16 kv1.f_SrcPort, v16 kv1.f_DstPort]) ag34 rfl (Cs.addsN [] ((hM.bx (i := 0) rfl)) rfl)) rfl ?_
 refine obindE hF fun y8 hx9 hF => ?_
 refine RL.call Try.func36 bd36 rfl rfl (c_packet_Key_Right _ kv1 _ hx9) fun v w10 hv => ?_
 obtain ⟨rfl, hN11⟩ := hv
 replace hM := hM.call0 hN11
 refine RL.val (O.not rfl) rfl ?_
 refine nt hQ7 ?_
 clear hQ7 Q7
 refine KC.cond rfl (fun hc => ?_) (fun hc => ?_)
 ·rw [if_pos hc] at hF
  refine sr fun Q12 hQ12 => ?_
  refine va rfl rfl ?_
  refine nt hQ12 ?_
  clear hQ12 Q12
  refine KC.ret ?_
  refine KQ.thr hQ6 ?_
  clear hQ6 Q6
  have hE := Option.some.inj hF
  clear hF
  subst hE
  replace hM := hM.nilrow 5 1
  replace hM := hM.pick [1] rfl (by decide)
  refine KQ.rets Try.results51 (RVs.cons (RV.tm rfl) RVs.nil) ?_
  exact ⟨_, rfl, none, 0, rfl, hM⟩
 rw [if_neg (ne_true hc)] at hF
 refine KC.skip ?_
 refine KQ.thn hQ6 ?_
 clear hQ6 Q6
 refine sr fun Q13 hQ13 => ?_
 refine RL.eff (E.alloc hM ze108) rfl fun v w15 hv => ?_
 clear hM
 obtain ⟨g14, rfl, hM, hf⟩ := hv
 refine nt hQ13 ?_
 clear hQ13 Q13
 refine sr fun Q17 hQ17 => ?_
 refine va rfl rfl ?_
 refine nt hQ17 ?_
 clear hQ17 Q17
 refine KC.cut (fun a w22 => ∃ (version21 : Int), Kn 35 [(1, .pointer (some ⟨g3, 0, none⟩)), (3, .pointer (some ⟨g14, 0, none⟩)), (4, v8 version21)] a ∧ Mem w [] w22 [.box g3 34 [vB kv1.f_Src.f_Six, o8 kv1.f_Src.f_B 0, o8 kv1.f_Src.f_B 1, o8 kv1.f_Src.f_B 2, o8 kv1.f_Src.f_B 3, o8 kv1.f_Src.f_B 4, o8 kv1.f_Src.f_B 5, o8 kv1.f_Src.f_B 6, o8 kv1.f_Src.f_B 7, o8 kv1.f_Src.f_B 8, o8 kv1.f_Src.f_B 9, o8 kv1.f_Src.f_B 10, o8 kv1.f_Src.f_B 11, o8 kv1.f_Src.f_B 12, o8 kv1.f_Src.f_B 13, o8 kv1.f_Src.f_B 14, o8 kv1.f_Src.f_B 15, vB kv1.f_Dst.f_Six, o8 kv1.f_Dst.f_B 0, o8 kv1.f_Dst.f_B 1, o8 kv1.f_Dst.f_B 2, o8 kv1.f_Dst.f_B 3, o8 kv1.f_Dst.f_B 4, o8 kv1.f_Dst.f_B 5, o8 kv1.f_Dst.f_B 6, o8 kv1.f_Dst.f_B 7, o8 kv1.f_Dst.f_B 8, o8 kv1.f_Dst.f_B 9, o8 kv1.f_Dst.f_B 10, o8 kv1.f_Dst.f_B 11, o8 kv1.f_Dst.f_B 12, o8 kv1.f_Dst.f_B 13, o8 kv1.f_Dst.f_B 14, o8 kv1.f_Dst.f_B 15, v8 kv1.f_Proto, v16 kv1.f_SrcPort, v16 kv1.f_DstPort], .box g14 108 [.slice none 0 0]] ∧ F_packet_Key_Bytes_j1 kv1 version21 = some r) ?_ ?_
 ·refine sr fun Q18 hQ18 => ?_
  refine RL.val (O.fldA fl34_0 (by decide) rfl) rfl ?_
  refine RL.val (O.fldA fl31_0 (by decide) rfl) rfl ?_
  refine RL.val (O.load sc4 rfl (Cs.adds [0, 0] ((hM.bx (i := 0) rfl)) rfl)) rfl ?_
  refine nt hQ18 ?_
  clear hQ18 Q18
  refine KC.cond rfl (fun hc => ?_) (fun hc => ?_)
  ·rw [if_pos hc] at hF
   refine KC.region ?_
   refine va rfl rfl ?_
   refine RL.nil ?_
   refine KQ.then_k ?_
   exact fun a ha => ⟨6, ha.less (less_cons rfl (less_cons rfl (less_cons rfl less_nil))), hM, hF⟩
  rw [if_neg (ne_true hc)] at hF
  refine KC.skip ?_
  refine KQ.then_k ?_
  exact fun a ha => ⟨4, ha.less (less_cons rfl (less_cons rfl (less_cons rfl less_nil))), hM, hF⟩
 rintro a w22 ⟨version21, ha, hM, hF⟩
 refine KC.app ha ?_
 clear ha
 unfold F_packet_Key_Bytes_j1 at hF
 refine sr fun Q23 hQ23 => ?_
 refine vm rfl rfl ?_
 refine RL.eff (E.bsl (enc := (eI .u8)) (xs := ([version21] : List Int)) hM sl94 ze5 rfl rfl rfl (fun _ => rfl) rfl (by kernel_rfl) rfl) rfl fun v w24 hv => ?_
 clear hM
 obtain ⟨A25, rfl, hM, hf⟩ := hv
 replace hM := hM.nilrow 5 1
 refine obindE hF fun y28 hx29 hF => ?_
 refine RL.call Try.func66 bd66 rfl rfl (c_bits_Writer_Raw _ _ _ (T_bits_Writer.mk ([] : List Int)) _ _ (hM.lent [1, 3] rfl (by decide)) _ _ ([version21] : List Int) (hM.rd (i := 2) rfl) (hM.offR [1, 3] rfl (i := 2) rfl rfl) _ hx29) fun v w30 hv => ?_
 obtain ⟨A32, c33, rfl, hN31⟩ := hv
 replace hM := hM.callL [1, 3] [0, 2] rfl rfl (by decide) rfl hN31
 refine nt hQ23 ?_
 clear hQ23 Q23
 replace hM := hM.pick [0, 2, 3] rfl (by decide)
 refine sr fun Q35 hQ35 => ?_
 refine RL.val (O.fldA fl34_0 (by decide) rfl) rfl ?_
 refine RL.val (O.loadN (cs := [vB kv1.f_Src.f_Six, o8 kv1.f_Src.f_B 0, o8 kv1.f_Src.f_B 1, o8 kv1.f_Src.f_B 2, o8 kv1.f_Src.f_B 3, o8 kv1.f_Src.f_B 4, o8 kv1.f_Src.f_B 5, o8 kv1.f_Src.f_B 6, o8 kv1.f_Src.f_B 7, o8 kv1.f_Src.f_B 8, o8 kv1.f_Src.f_B 9, o8 kv1.f_Src.f_B 10, o8 kv1.f_Src.f_B 11, o8 kv1.f_Src.f_B 12, o8 kv1.f_Src.f_B 13, o8 kv1.f_Src.f_B 14, o8 kv1.f_Src.f_B 15]) ag31 rfl (Cs.addsN [0] ((hM.bx (i := 0) rfl)) rfl)) rfl ?_
 refine obindE hF fun y36 hx37 hF => ?_
 refine RL.call Try.func67 bd67 rfl rfl (c_addr_Addr_Bytes _ kv1.f_Src _ hx37) fun v w38 hv => ?_
 obtain ⟨A40, c41, rfl, hN39⟩ := hv
 replace hM := hM.call hN39
 refine obindE hF fun y43 hx44 hF => ?_
 refine RL.call Try.func66 bd66 rfl rfl (c_bits_Writer_Raw _ _ _ y28.2 _ _ (hM.lent [1, 2] rfl (by decide)) _ _ y36 (hM.rd (i := 3) rfl) (hM.offR [1, 2] rfl (i := 3) rfl rfl) _ hx44) fun v w45 hv => ?_
 obtain ⟨A47, c48, rfl, hN46⟩ := hv
 replace hM := hM.callL [1, 2] [0, 3] rfl rfl (by decide) rfl hN46
 refine nt hQ35 ?_
 clear hQ35 Q35
 replace hM := hM.pick [0, 2, 3] rfl (by decide)
 refine sr fun Q50 hQ50 => ?_
 refine RL.val (O.fldA fl34_1 (by decide) rfl) rfl ?_
 refine RL.val (O.loadN (cs := [vB kv1.f_Dst.f_Six, o8 kv1.f_Dst.f_B 0, o8 kv1.f_Dst.f_B 1, o8 kv1.f_Dst.f_B 2, o8 kv1.f_Dst.f_B 3, o8 kv1.f_Dst.f_B 4, o8 kv1.f_Dst.f_B 5, o8 kv1.f_Dst.f_B 6, o8 kv1.f_Dst.f_B 7, o8 kv1.f_Dst.f_B 8, o8 kv1.f_Dst.f_B 9, o8 kv1.f_Dst.f_B 10, o8 kv1.f_Dst.f_B 11, o8 kv1.f_Dst.f_B 12, o8 kv1.f_Dst.f_B 13, o8 kv1.f_Dst.f_B 14, o8 kv1.f_Dst.f_B 15]) ag31 rfl (Cs.addsN [17] ((hM.bx (i := 0) rfl)) rfl)) rfl ?_
 refine obindE hF fun y51 hx52 hF => ?_
 refine RL.call Try.func67 bd67 rfl rfl (c_addr_Addr_Bytes _ kv1.f_Dst _ hx52) fun v w53 hv => ?_
 obtain ⟨A55, c56, rfl, hN54⟩ := hv
 replace hM := hM.call hN54
 refine obindE hF fun y58 hx59 hF => ?_
 refine RL.call Try.func66 bd66 rfl rfl (c_bits_Writer_Raw _ _ _ y43.2 _ _ (hM.lent [1, 2] rfl (by decide)) _ _ y51 (hM.rd (i := 3) rfl) (hM.offR [1, 2] rfl (i := 3) rfl rfl) _ hx59) fun v w60 hv => ?_
 obtain ⟨A62, c63, rfl, hN61⟩ := hv
 replace hM := hM.callL [1, 2] [0, 3] rfl rfl (by decide) rfl hN61
 refine nt hQ50 ?_
 clear hQ50 Q50
 replace hM := hM.pick [0, 2, 3] rfl (by decide)
 refine sr fun Q65 hQ65 => ?_
 refine RL.val (O.fldA fl34_2 (by decide) rfl) rfl ?_
 refine RL.val (O.load sc5 rfl (Cs.adds [34] ((hM.bx (i := 0) rfl)) rfl)) rfl ?_
 refine RL.eff (E.bsl (enc := (eI .u8)) (xs := ([kv1.f_Proto] : List Int)) hM sl94 ze5 rfl rfl rfl (fun _ => rfl) rfl (by kernel_rfl) rfl) rfl fun v w66 hv => ?_
 clear hM
 obtain ⟨A67, rfl, hM, hf⟩ := hv
 refine obindE hF fun y69 hx70 hF => ?_
 refine RL.call Try.func66 bd66 rfl rfl (c_bits_Writer_Raw _ _ _ y58.2 _ _ (hM.lent [1, 2] rfl (by decide)) _ _ ([kv1.f_Proto] : List Int) (hM.rd (i := 3) rfl) (hM.offR [1, 2] rfl (i := 3) rfl rfl) _ hx70) fun v w71 hv => ?_
 obtain ⟨A73, c74, rfl, hN72⟩ := hv
 replace hM := hM.callL [1, 2] [0, 3] rfl rfl (by decide) rfl hN72
 refine nt hQ65 ?_
 clear hQ65 Q65
 replace hM := hM.pick [0, 2, 3] rfl (by decide)
 refine sr fun Q76 hQ76 => ?_
 refine RL.val (O.fldA fl34_3 (by decide) rfl) rfl ?_
 refine RL.val (O.load sc32 rfl (Cs.adds [35] ((hM.bx (i := 0) rfl)) rfl)) rfl ?_
 refine RL.val (O.conv un32 Try.underlying35 rfl) rfl ?_
 refine obindE hF fun y77 hx78 hF => ?_
 refine RL.call Try.func68 bd68 rfl rfl (c_bits_Writer_Put _ _ _ y69.2 _ _ (hM.lent [1, 2] rfl (by decide)) (IntKind.u64.wrap kv1.f_SrcPort) 2 _ hx78) fun v w79 hv => ?_
 obtain ⟨A81, c82, rfl, hN80⟩ := hv
 replace hM := hM.callL [1, 2] [0] rfl rfl (by decide) rfl hN80
 refine nt hQ76 ?_
 clear hQ76 Q76
 refine sr fun Q84 hQ84 => ?_
 refine RL.val (O.fldA fl34_4 (by decide) rfl) rfl ?_
 refine RL.val (O.load sc32 rfl (Cs.adds [36] ((hM.bx (i := 0) rfl)) rfl)) rfl ?_
 refine RL.val (O.conv un32 Try.underlying35 rfl) rfl ?_
 refine obindE hF fun y85 hx86 hF => ?_
 refine RL.call Try.func68 bd68 rfl rfl (c_bits_Writer_Put _ _ _ y77.2 _ _ (hM.lent [1, 2] rfl (by decide)) (IntKind.u64.wrap kv1.f_DstPort) 2 _ hx86) fun v w87 hv => ?_
 obtain ⟨A89, c90, rfl, hN88⟩ := hv
 replace hM := hM.callL [1, 2] [0] rfl rfl (by decide) rfl hN88
 refine nt hQ84 ?_
 clear hQ84 Q84
 refine sr fun Q92 hQ92 => ?_
 refine obindE hF fun y93 hx94 hF => ?_
 refine RL.call Try.func69 bd69 rfl rfl (c_bits_Writer_Bytes _ y85.2 _ _ (hM.rd (i := 2) rfl) _ (hM.bx (i := 1) rfl) _ hx94) fun v w95 hv => ?_
 obtain ⟨A97, c98, rfl, hN96⟩ := hv
 replace hM := hM.call hN96
 refine va rfl rfl ?_
 refine nt hQ92 ?_
 clear hQ92 Q92
 refine KC.ret ?_
 have hE := Option.some.inj hF
 clear hF
 subst hE
 replace hM := hM.pick [3] rfl (by decide)
 refine KQ.rets Try.results51 (RVs.cons (RV.tm rfl) RVs.nil) ?_
 exact ⟨_, rfl, A97, c98, rfl, hM⟩
set_option maxRecDepth 100000 in
set_option maxHeartbeats 40000000 in
theorem c_bytes_Compare (w : World) (A2 : Option Addr) (c3 : Nat) (av1 : List Int) (hr4 : Rd w A2 c3 1 av1.length (av1.flatMap (eI .u8))) (A6 : Option Addr) (c7 : Nat) (b5 : List Int) (hr8 : Rd w A6 c7 1 b5.length (b5.flatMap (eI .u8))) (r : Int) (hF : F_bytes_Compare av1 b5 = some r) :
  CallsR Try.prog 50 [.slice A2 (av1).length c3, .slice A6 (b5).length c7] w (fun v w' => v = vI r ∧ Mem w [] w' []) := by
 refine calls_KC Try.func50 rfl Try.ntmps50 rfl ?_
 have hM := Mem.init w
 unfold F_bytes_Compare at hF
 refine sr fun Q9 hQ9 => ?_
 refine va rfl rfl ?_
 refine nt hQ9 ?_
 clear hQ9 Q9
 refine sr fun Q10 hQ10 => ?_
 refine vm rfl rfl ?_
 refine vm rfl rfl ?_
 refine RL.val (O.bcmp (xs := av1) (ys := b5) Try.func65 (by kernel_rfl) (by kernel_rfl) (by kernel_rfl) (by kernel_rfl) rfl rfl (hM.inp hr4 Off.nil) (hM.inp hr8 Off.nil)) rfl ?_
 refine va rfl rfl ?_
 refine nt hQ10 ?_
 clear hQ10 Q10
 refine KC.ret ?_
 have hE := Option.some.inj hF
 clear hF
 subst hE
 refine KQ.rets Try.results50 (RVs.cons (RV.tm rfl) RVs.nil) ?_
 exact ⟨_, rfl, rfl, hM⟩
end Go.Proofs.Ytidbgejnkpoeeaa
