/- Printed by a program of this claim: each call returns what the plain function of its name gives. -/
import Derived.Test.YtnbakndfnjflhaaW1
import Derived.Test.YtnbakndfnjflhaaW5
set_option linter.unusedVariables false
namespace Go.Proofs.Ytnbakndfnjflhaa
open Go Go.Ox Go.RowKit
set_option maxRecDepth 100000 in
set_option maxHeartbeats 40000000 in
theorem c_table_Hash (w : World) (kv1 : T_packet_Key) (r : Int) (hF : F_table_Hash kv1 = some r) :
  CallsR Try.prog 24 [.agg #[Value.bool kv1.f_Src.f_Six, o8 kv1.f_Src.f_B 0, o8 kv1.f_Src.f_B 1, o8 kv1.f_Src.f_B 2, o8 kv1.f_Src.f_B 3, o8 kv1.f_Src.f_B 4, o8 kv1.f_Src.f_B 5, o8 kv1.f_Src.f_B 6, o8 kv1.f_Src.f_B 7, o8 kv1.f_Src.f_B 8, o8 kv1.f_Src.f_B 9, o8 kv1.f_Src.f_B 10, o8 kv1.f_Src.f_B 11, o8 kv1.f_Src.f_B 12, o8 kv1.f_Src.f_B 13, o8 kv1.f_Src.f_B 14, o8 kv1.f_Src.f_B 15, Value.bool kv1.f_Dst.f_Six, o8 kv1.f_Dst.f_B 0, o8 kv1.f_Dst.f_B 1, o8 kv1.f_Dst.f_B 2, o8 kv1.f_Dst.f_B 3, o8 kv1.f_Dst.f_B 4, o8 kv1.f_Dst.f_B 5, o8 kv1.f_Dst.f_B 6, o8 kv1.f_Dst.f_B 7, o8 kv1.f_Dst.f_B 8, o8 kv1.f_Dst.f_B 9, o8 kv1.f_Dst.f_B 10, o8 kv1.f_Dst.f_B 11, o8 kv1.f_Dst.f_B 12, o8 kv1.f_Dst.f_B 13, o8 kv1.f_Dst.f_B 14, o8 kv1.f_Dst.f_B 15, Value.int .u8 kv1.f_Proto, Value.int .u16 kv1.f_SrcPort, Value.int .u16 kv1.f_DstPort]] w (fun v w' => v = Value.int .u64 r ∧ Mem w [] w' []) := by
 refine calls_KC Try.func24 rfl Try.ntmps24 rfl ?_
 have hM := Mem.init w
 unfold F_table_Hash at hF
 refine KC.seqH fun Q2 hQ2 => ?_
 refine KC.region ?_
 refine RL.eff (E.box (vs := [Value.bool kv1.f_Src.f_Six, o8 kv1.f_Src.f_B 0, o8 kv1.f_Src.f_B 1, o8 kv1.f_Src.f_B 2, o8 kv1.f_Src.f_B 3, o8 kv1.f_Src.f_B 4, o8 kv1.f_Src.f_B 5, o8 kv1.f_Src.f_B 6, o8 kv1.f_Src.f_B 7, o8 kv1.f_Src.f_B 8, o8 kv1.f_Src.f_B 9, o8 kv1.f_Src.f_B 10, o8 kv1.f_Src.f_B 11, o8 kv1.f_Src.f_B 12, o8 kv1.f_Src.f_B 13, o8 kv1.f_Src.f_B 14, o8 kv1.f_Src.f_B 15, Value.bool kv1.f_Dst.f_Six, o8 kv1.f_Dst.f_B 0, o8 kv1.f_Dst.f_B 1, o8 kv1.f_Dst.f_B 2, o8 kv1.f_Dst.f_B 3, o8 kv1.f_Dst.f_B 4, o8 kv1.f_Dst.f_B 5, o8 kv1.f_Dst.f_B 6, o8 kv1.f_Dst.f_B 7, o8 kv1.f_Dst.f_B 8, o8 kv1.f_Dst.f_B 9, o8 kv1.f_Dst.f_B 10, o8 kv1.f_Dst.f_B 11, o8 kv1.f_Dst.f_B 12, o8 kv1.f_Dst.f_B 13, o8 kv1.f_Dst.f_B 14, o8 kv1.f_Dst.f_B 15, Value.int .u8 kv1.f_Proto, Value.int .u16 kv1.f_SrcPort, Value.int .u16 kv1.f_DstPort]) hM rfl rfl) rfl fun v w4 hv => ?_
 clear hM
 obtain ⟨g3, rfl, hM, hf⟩ := hv
 refine RL.val (O.assign rfl) rfl ?_
 refine RL.nil ?_
 refine KQ.thn hQ2 ?_
 clear hQ2 Q2
 refine KC.seqH fun Q6 hQ6 => ?_
 refine KC.region ?_
 refine RL.val (O.assign rfl) rfl ?_
 refine RL.nil ?_
 refine KQ.thn hQ6 ?_
 clear hQ6 Q6
 refine KC.seqH fun Q7 hQ7 => ?_
 refine KC.seqH fun Q8 hQ8 => ?_
 refine KC.region ?_
 refine RL.val (O.loadN (cs := [Value.bool kv1.f_Src.f_Six, o8 kv1.f_Src.f_B 0, o8 kv1.f_Src.f_B 1, o8 kv1.f_Src.f_B 2, o8 kv1.f_Src.f_B 3, o8 kv1.f_Src.f_B 4, o8 kv1.f_Src.f_B 5, o8 kv1.f_Src.f_B 6, o8 kv1.f_Src.f_B 7, o8 kv1.f_Src.f_B 8, o8 kv1.f_Src.f_B 9, o8 kv1.f_Src.f_B 10, o8 kv1.f_Src.f_B 11, o8 kv1.f_Src.f_B 12, o8 kv1.f_Src.f_B 13, o8 kv1.f_Src.f_B 14, o8 kv1.f_Src.f_B 15, Value.bool kv1.f_Dst.f_Six, o8 kv1.f_Dst.f_B 0, o8 kv1.f_Dst.f_B 1, o8 kv1.f_Dst.f_B 2, o8 kv1.f_Dst.f_B 3, o8 kv1.f_Dst.f_B 4, o8 kv1.f_Dst.f_B 5, o8 kv1.f_Dst.f_B 6, o8 kv1.f_Dst.f_B 7, o8 kv1.f_Dst.f_B 8, o8 kv1.f_Dst.f_B 9, o8 kv1.f_Dst.f_B 10, o8 kv1.f_Dst.f_B 11, o8 kv1.f_Dst.f_B 12, o8 kv1.f_Dst.f_B 13, o8 kv1.f_Dst.f_B 14, o8 kv1.f_Dst.f_B 15, Value.int .u8 kv1.f_Proto, Value.int .u16 kv1.f_SrcPort, Value.int .u16 kv1.f_DstPort]) ag35 rfl (Cs.addsN [] ((hM.bx (i := 0) rfl)) rfl)) rfl ?_
 refine obindE hF fun y9 hx10 hF => ?_
 refine RL.call Try.func39 bd39 rfl rfl (c_packet_Key_Bytes _ kv1 _ hx10) fun v w11 hv => ?_
 obtain ⟨A13, c14, rfl, hN12⟩ := hv
 replace hM := hM.call hN12
 refine RL.val (O.len sl81 rfl) rfl ?_
 refine RL.val (O.move rfl) rfl ?_
 refine RL.nil ?_
 refine KQ.thn hQ8 ?_
 clear hQ8 Q8
 refine KC.block ?_
 refine KC.loop (fun k38 a w36 => ∃ (h33 : Int) (t35 : Int), Kn 20 [(3, Value.int .u64 h33), (7, .slice A13 (y9).length c14), (8, Value.int .i64 (y9.length : Int)), (9, Value.int .i64 t35)] a ∧ Mem w [] w36 [.row A13 c14 5 1 (y9).length ((y9).flatMap (eI .u8))] ∧ F_table_Hash_L1 y9 k38 h33 t35 = some r) ?_ ?_
 ·replace hM := hM.pick [1] rfl (by decide)
  exact fun a ha => ⟨fuel0, 14695981039346656037, 0, ha.less (less_cons rfl (less_cons rfl (less_cons rfl (less_cons rfl less_nil)))), hM, hF⟩
 ·rintro k38 a w36 ⟨h33, t35, ha, hM, hF⟩
  refine KC.app ha ?_
  clear ha
  cases k38 with
  | zero => exact (none_some hF).elim
  | succ k38 =>
  have hF : F_table_Hash_l1 (F_table_Hash_L1 y9 k38) y9 h33 t35 = some r := hF
  unfold F_table_Hash_l1 at hF
  refine KC.seqH fun Q39 hQ39 => ?_
  refine KC.region ?_
  refine RL.val (O.lss rfl rfl) rfl ?_
  refine RL.nil ?_
  refine KQ.thn hQ39 ?_
  clear hQ39 Q39
  refine KC.seqH fun Q40 hQ40 => ?_
  refine KC.cond rfl (fun hc => ?_) (fun hc => ?_)
  ·rw [if_pos hc] at hF
   refine KC.skip ?_
   refine KQ.thn hQ40 ?_
   clear hQ40 Q40
   refine KC.seqH fun Q41 hQ41 => ?_
   refine KC.block ?_
   refine KC.seqH fun Q42 hQ42 => ?_
   refine KC.region ?_
   refine obindE hF fun xv45 hx44 hF => ?_
   have hA43 := Rd.atN (f := (eI .u8)) (s := 1) (fun _ => rfl) (by decide) (hM.rd (i := 0) rfl) hx44
   refine RL.val (O.idxA sl81 (hA43) rfl rfl) rfl ?_
   refine RL.val (O.load sc5 rfl (hA43).cells.at0) rfl ?_
   refine RL.val (O.assign rfl) rfl ?_
   refine RL.nil ?_
   refine KQ.thn hQ42 ?_
   clear hQ42 Q42
   refine KC.region ?_
   refine RL.val (O.move rfl) rfl ?_
   refine RL.val (O.move rfl) rfl ?_
   refine RL.val (O.conv un5 Try.underlying36 rfl) rfl ?_
   refine RL.val (O.xor rfl rfl) rfl ?_
   refine RL.val (O.mul rfl rfl) rfl ?_
   refine RL.val (O.assign rfl) rfl ?_
   refine RL.nil ?_
   refine KQ.blk_n ?_
   refine KQ.thn hQ41 ?_
   clear hQ41 Q41
   refine KC.region ?_
   refine RL.val (O.add rfl rfl) rfl ?_
   refine RL.val (O.move rfl) rfl ?_
   refine RL.nil ?_
   refine KQ.then_k ?_
   exact fun a ha => ⟨k38, Nat.lt_succ_self k38, (IntKind.u64.wrap ((bits .xor .u64 h33 (IntKind.u64.wrap xv45)) * 1099511628211)), (IntKind.i64.wrap (t35 + 1)), ha.less (less_cons rfl (less_cons rfl (less_cons rfl (less_cons rfl less_nil)))), hM, hF⟩
  ·rw [if_neg (ne_true hc)] at hF
   refine KC.exit ?_
   refine KQ.thx hQ40 ?_
   clear hQ40 Q40
   refine KQ.then_x ?_
   refine KQ.blk_x ?_
   refine KQ.thn hQ7 ?_
   clear hQ7 Q7
   refine KC.seqH fun Q46 hQ46 => ?_
   refine KC.region ?_
   refine RL.val (O.move rfl) rfl ?_
   refine RL.val (O.assign rfl) rfl ?_
   refine RL.nil ?_
   refine KQ.thn hQ46 ?_
   clear hQ46 Q46
   refine KC.ret ?_
   have hE := Option.some.inj hF
   clear hF
   subst hE
   replace hM := hM.pick [] rfl (by decide)
   refine KQ.rets Try.results24 (RVs.cons (RV.tm rfl) RVs.nil) ?_
   exact ⟨_, rfl, rfl, hM⟩
end Go.Proofs.Ytnbakndfnjflhaa
