/- Printed by a program of this claim: each call returns what the plain function of its name gives. -/
import Derived.Test.YtnbakndfnjflhaaW1
set_option linter.unusedVariables false
namespace Go.Proofs.Ytnbakndfnjflhaa
open Go Go.Ox Go.RowKit
set_option maxRecDepth 100000 in
set_option maxHeartbeats 40000000 in
theorem c_ref23_New (w : World) (size1 : Int) (r : (List T_ref23_Slot) × Int) (hF : F_ref23_New size1 = some r) :
  CallsR Try.prog 17 [Value.int .i64 size1] w (fun v w' => ∃ (A0 : Option Addr) (c0 : Nat), v = .tuple #[.slice A0 (r.1).length c0, Value.int .i64 r.2] ∧ Mem w [] w' [.row A0 c0 78 39 r.1.length (r.1.flatMap e_ref23_Slot)]) := by
 refine calls_KC Try.func17 rfl Try.ntmps17 rfl ?_
 have hM := Mem.init w
 unfold F_ref23_New at hF
 refine KC.seqH fun Q2 hQ2 => ?_
 refine KC.region ?_
 refine RL.val (O.assign rfl) rfl ?_
 refine RL.val (O.assign rfl) rfl ?_
 refine RL.nil ?_
 refine KQ.thn hQ2 ?_
 clear hQ2 Q2
 refine KC.seqH fun Q3 hQ3 => ?_
 refine KC.seqH fun Q4 hQ4 => ?_
 refine KC.region ?_
 refine RL.val (O.assign rfl) rfl ?_
 refine RL.nil ?_
 refine KQ.thn hQ4 ?_
 clear hQ4 Q4
 refine KC.block ?_
 refine KC.loop (fun k27 a w25 => ∃ (nv24 : Int), Kn 14 [(0, Value.int .i64 size1), (4, Value.int .i64 nv24)] a ∧ Mem w [] w25 [] ∧ F_ref23_New_L1 size1 k27 nv24 = some r) ?_ ?_
 ·exact fun a ha => ⟨fuel0, 1, ha.less (less_cons rfl (less_cons rfl less_nil)), hM, hF⟩
 ·rintro k27 a w25 ⟨nv24, ha, hM, hF⟩
  refine KC.app ha ?_
  clear ha
  cases k27 with
  | zero => exact (none_some hF).elim
  | succ k27 =>
  have hF : F_ref23_New_l1 (F_ref23_New_L1 size1 k27) size1 nv24 = some r := hF
  unfold F_ref23_New_l1 at hF
  refine KC.seqH fun Q28 hQ28 => ?_
  refine KC.seqH fun Q29 hQ29 => ?_
  refine KC.region ?_
  refine RL.val (O.move rfl) rfl ?_
  refine RL.val (O.leq rfl rfl) rfl ?_
  refine RL.nil ?_
  refine KQ.thn hQ29 ?_
  clear hQ29 Q29
  refine KC.cond rfl (fun hc => ?_) (fun hc => ?_)
  ·rw [if_pos hc] at hF
   refine KC.skip ?_
   refine KQ.thn hQ28 ?_
   clear hQ28 Q28
   refine KC.seqH fun Q30 hQ30 => ?_
   refine KC.block ?_
   refine KC.seqH fun Q31 hQ31 => ?_
   refine KC.region ?_
   refine RL.val (O.move rfl) rfl ?_
   refine RL.val (O.move rfl) rfl ?_
   refine RL.val (O.eql rfl rfl) rfl ?_
   refine RL.nil ?_
   refine KQ.thn hQ31 ?_
   clear hQ31 Q31
   refine KC.cond rfl (fun hc => ?_) (fun hc => ?_)
   ·rw [if_pos hc] at hF
    refine KC.seqH fun Q32 hQ32 => ?_
    refine KC.region ?_
    refine RL.val (O.move rfl) rfl ?_
    refine cut_someE hF fun hq35 hF => ?_
    refine RL.eff (E.mks (enc := e_ref23_Slot) (zr := (T_ref23_Slot.mk false (T_ref08_Key.mk (T_addr_Addr.mk false (List.replicate 16 0)) (T_addr_Addr.mk false (List.replicate 16 0)) 0 0 0) 0)) hM sl49 ze78 rfl rfl (fun _ => rfl) rfl rfl rfl (of_decide_eq_true hq35)) rfl fun v w34 hv => ?_
    clear hM
    obtain ⟨A33, rfl, hM, hf⟩ := hv
    refine RL.val (O.assign rfl) rfl ?_
    refine RL.val (O.assign rfl) rfl ?_
    refine RL.nil ?_
    refine KQ.thn hQ32 ?_
    clear hQ32 Q32
    refine KC.ret ?_
    refine KQ.blk_r ?_
    refine KQ.thr hQ30 ?_
    clear hQ30 Q30
    refine KQ.then_r ?_
    refine KQ.blk_r ?_
    refine KQ.thr hQ3 ?_
    clear hQ3 Q3
    have hE := Option.some.inj hF
    clear hF
    subst hE
    refine KQ.rets Try.results17 (RVs.cons (RV.tm rfl) (RVs.cons (RV.tm rfl) RVs.nil)) ?_
    exact ⟨_, rfl, A33, (Int.toNat size1), rfl, hM⟩
   ·rw [if_neg (ne_true hc)] at hF
    refine KC.skip ?_
    refine KQ.blk_n ?_
    refine KQ.thn hQ30 ?_
    clear hQ30 Q30
    refine KC.region ?_
    refine RL.val (O.move rfl) rfl ?_
    refine RL.val (O.mul rfl rfl) rfl ?_
    refine RL.val (O.assign rfl) rfl ?_
    refine RL.nil ?_
    refine KQ.then_k ?_
    exact fun a ha => ⟨k27, Nat.lt_succ_self k27, (IntKind.i64.wrap (nv24 * 2)), ha.less (less_cons rfl (less_cons rfl less_nil)), hM, hF⟩
  ·rw [if_neg (ne_true hc)] at hF
   refine KC.exit ?_
   refine KQ.thx hQ28 ?_
   clear hQ28 Q28
   refine KQ.then_x ?_
   refine KQ.blk_x ?_
   refine KQ.thn hQ3 ?_
   clear hQ3 Q3
   refine KC.seqH fun Q37 hQ37 => ?_
   refine KC.region ?_
   refine RL.val (O.assign rfl) rfl ?_
   refine RL.val (O.assign rfl) rfl ?_
   refine RL.nil ?_
   refine KQ.thn hQ37 ?_
   clear hQ37 Q37
   refine KC.ret ?_
   have hE := Option.some.inj hF
   clear hF
   subst hE
   replace hM := hM.nilrow 78 39
   refine KQ.rets Try.results17 (RVs.cons (RV.tm rfl) (RVs.cons (RV.tm rfl) RVs.nil)) ?_
   exact ⟨_, rfl, none, 0, rfl, hM⟩
set_option maxRecDepth 100000 in
set_option maxHeartbeats 40000000 in
theorem c_docs_Addr (w : World) (av1 : T_addr_Addr) (r : T_addr_Addr) (hF : F_docs_Addr av1 = some r) :
  CallsR Try.prog 36 [.agg #[Value.bool av1.f_Six, o8 av1.f_B 0, o8 av1.f_B 1, o8 av1.f_B 2, o8 av1.f_B 3, o8 av1.f_B 4, o8 av1.f_B 5, o8 av1.f_B 6, o8 av1.f_B 7, o8 av1.f_B 8, o8 av1.f_B 9, o8 av1.f_B 10, o8 av1.f_B 11, o8 av1.f_B 12, o8 av1.f_B 13, o8 av1.f_B 14, o8 av1.f_B 15]] w (fun v w' => v = .agg #[Value.bool r.f_Six, o8 r.f_B 0, o8 r.f_B 1, o8 r.f_B 2, o8 r.f_B 3, o8 r.f_B 4, o8 r.f_B 5, o8 r.f_B 6, o8 r.f_B 7, o8 r.f_B 8, o8 r.f_B 9, o8 r.f_B 10, o8 r.f_B 11, o8 r.f_B 12, o8 r.f_B 13, o8 r.f_B 14, o8 r.f_B 15] ∧ Mem w [] w' []) := by
 refine calls_KC Try.func36 rfl Try.ntmps36 rfl ?_
 have hM := Mem.init w
 unfold F_docs_Addr at hF
 refine KC.seqH fun Q2 hQ2 => ?_
 refine KC.region ?_
 refine RL.eff (E.box (vs := [Value.bool av1.f_Six, o8 av1.f_B 0, o8 av1.f_B 1, o8 av1.f_B 2, o8 av1.f_B 3, o8 av1.f_B 4, o8 av1.f_B 5, o8 av1.f_B 6, o8 av1.f_B 7, o8 av1.f_B 8, o8 av1.f_B 9, o8 av1.f_B 10, o8 av1.f_B 11, o8 av1.f_B 12, o8 av1.f_B 13, o8 av1.f_B 14, o8 av1.f_B 15]) hM rfl rfl) rfl fun v w4 hv => ?_
 clear hM
 obtain ⟨g3, rfl, hM, hf⟩ := hv
 refine RL.eff (E.alloc hM ze52) rfl fun v w7 hv => ?_
 clear hM
 obtain ⟨g6, rfl, hM, hf⟩ := hv
 refine RL.nil ?_
 refine KQ.thn hQ2 ?_
 clear hQ2 Q2
 refine KC.seqH fun Q9 hQ9 => ?_
 refine KC.region ?_
 refine RL.val (O.fldA fl32_0 (by decide) rfl) rfl ?_
 refine RL.val (O.load sc4 rfl (Cs.adds [0] ((hM.bx (i := 0) rfl)) rfl)) rfl ?_
 refine RL.val (O.fldA fl32_1 (by decide) rfl) rfl ?_
 refine RL.val (O.loadN (cs := [o8 av1.f_B 0, o8 av1.f_B 1, o8 av1.f_B 2, o8 av1.f_B 3, o8 av1.f_B 4, o8 av1.f_B 5, o8 av1.f_B 6, o8 av1.f_B 7, o8 av1.f_B 8, o8 av1.f_B 9, o8 av1.f_B 10, o8 av1.f_B 11, o8 av1.f_B 12, o8 av1.f_B 13, o8 av1.f_B 14, o8 av1.f_B 15]) ag30 rfl (Cs.addsN [1] ((hM.bx (i := 0) rfl)) rfl)) rfl ?_
 refine RL.val (O.bld (cs := [Value.bool av1.f_Six, o8 av1.f_B 0, o8 av1.f_B 1, o8 av1.f_B 2, o8 av1.f_B 3, o8 av1.f_B 4, o8 av1.f_B 5, o8 av1.f_B 6, o8 av1.f_B 7, o8 av1.f_B 8, o8 av1.f_B 9, o8 av1.f_B 10, o8 av1.f_B 11, o8 av1.f_B 12, o8 av1.f_B 13, o8 av1.f_B 14, o8 av1.f_B 15]) bt52 rfl (by kernel_rfl)) rfl ?_
 refine RL.effs (E.stB (j := 1) (off := 0) (vs := [Value.bool av1.f_Six, o8 av1.f_B 0, o8 av1.f_B 1, o8 av1.f_B 2, o8 av1.f_B 3, o8 av1.f_B 4, o8 av1.f_B 5, o8 av1.f_B 6, o8 av1.f_B 7, o8 av1.f_B 8, o8 av1.f_B 9, o8 av1.f_B 10, o8 av1.f_B 11, o8 av1.f_B 12, o8 av1.f_B 13, o8 av1.f_B 14, o8 av1.f_B 15]) (cs' := [Value.bool av1.f_Six, o8 av1.f_B 0, o8 av1.f_B 1, o8 av1.f_B 2, o8 av1.f_B 3, o8 av1.f_B 4, o8 av1.f_B 5, o8 av1.f_B 6, o8 av1.f_B 7, o8 av1.f_B 8, o8 av1.f_B 9, o8 av1.f_B 10, o8 av1.f_B 11, o8 av1.f_B 12, o8 av1.f_B 13, o8 av1.f_B 14, o8 av1.f_B 15]) hM rfl sz52 rfl (adds_eq [] rfl) rfl rfl (One.all rfl) rfl rfl) fun w10 hM1 => ?_
 clear hM
 have hM := hM1
 clear hM1
 refine RL.nil ?_
 refine KQ.thn hQ9 ?_
 clear hQ9 Q9
 refine KC.ret ?_
 have hE := Option.some.inj hF
 clear hF
 subst hE
 have hb11 := hM.bx (i := 1) rfl
 replace hM := hM.pick [] rfl (by decide)
 refine KQ.rets Try.results36 (RVs.cons (RV.cN (cs := [Value.bool av1.f_Six, o8 av1.f_B 0, o8 av1.f_B 1, o8 av1.f_B 2, o8 av1.f_B 3, o8 av1.f_B 4, o8 av1.f_B 5, o8 av1.f_B 6, o8 av1.f_B 7, o8 av1.f_B 8, o8 av1.f_B 9, o8 av1.f_B 10, o8 av1.f_B 11, o8 av1.f_B 12, o8 av1.f_B 13, o8 av1.f_B 14, o8 av1.f_B 15]) rfl ag52 hb11) RVs.nil) ?_
 exact ⟨_, rfl, rfl, hM⟩
set_option maxRecDepth 100000 in
set_option maxHeartbeats 40000000 in
theorem c_docs_Key (w : World) (kv1 : T_packet_Key) (r : T_ref08_Key) (hF : F_docs_Key kv1 = some r) :
  CallsR Try.prog 18 [.agg #[Value.bool kv1.f_Src.f_Six, o8 kv1.f_Src.f_B 0, o8 kv1.f_Src.f_B 1, o8 kv1.f_Src.f_B 2, o8 kv1.f_Src.f_B 3, o8 kv1.f_Src.f_B 4, o8 kv1.f_Src.f_B 5, o8 kv1.f_Src.f_B 6, o8 kv1.f_Src.f_B 7, o8 kv1.f_Src.f_B 8, o8 kv1.f_Src.f_B 9, o8 kv1.f_Src.f_B 10, o8 kv1.f_Src.f_B 11, o8 kv1.f_Src.f_B 12, o8 kv1.f_Src.f_B 13, o8 kv1.f_Src.f_B 14, o8 kv1.f_Src.f_B 15, Value.bool kv1.f_Dst.f_Six, o8 kv1.f_Dst.f_B 0, o8 kv1.f_Dst.f_B 1, o8 kv1.f_Dst.f_B 2, o8 kv1.f_Dst.f_B 3, o8 kv1.f_Dst.f_B 4, o8 kv1.f_Dst.f_B 5, o8 kv1.f_Dst.f_B 6, o8 kv1.f_Dst.f_B 7, o8 kv1.f_Dst.f_B 8, o8 kv1.f_Dst.f_B 9, o8 kv1.f_Dst.f_B 10, o8 kv1.f_Dst.f_B 11, o8 kv1.f_Dst.f_B 12, o8 kv1.f_Dst.f_B 13, o8 kv1.f_Dst.f_B 14, o8 kv1.f_Dst.f_B 15, Value.int .u8 kv1.f_Proto, Value.int .u16 kv1.f_SrcPort, Value.int .u16 kv1.f_DstPort]] w (fun v w' => v = .agg #[Value.bool r.f_Src.f_Six, o8 r.f_Src.f_B 0, o8 r.f_Src.f_B 1, o8 r.f_Src.f_B 2, o8 r.f_Src.f_B 3, o8 r.f_Src.f_B 4, o8 r.f_Src.f_B 5, o8 r.f_Src.f_B 6, o8 r.f_Src.f_B 7, o8 r.f_Src.f_B 8, o8 r.f_Src.f_B 9, o8 r.f_Src.f_B 10, o8 r.f_Src.f_B 11, o8 r.f_Src.f_B 12, o8 r.f_Src.f_B 13, o8 r.f_Src.f_B 14, o8 r.f_Src.f_B 15, Value.bool r.f_Dst.f_Six, o8 r.f_Dst.f_B 0, o8 r.f_Dst.f_B 1, o8 r.f_Dst.f_B 2, o8 r.f_Dst.f_B 3, o8 r.f_Dst.f_B 4, o8 r.f_Dst.f_B 5, o8 r.f_Dst.f_B 6, o8 r.f_Dst.f_B 7, o8 r.f_Dst.f_B 8, o8 r.f_Dst.f_B 9, o8 r.f_Dst.f_B 10, o8 r.f_Dst.f_B 11, o8 r.f_Dst.f_B 12, o8 r.f_Dst.f_B 13, o8 r.f_Dst.f_B 14, o8 r.f_Dst.f_B 15, Value.int .u8 r.f_Proto, Value.int .u16 r.f_SrcPort, Value.int .u16 r.f_DstPort] ∧ Mem w [] w' []) := by
 refine calls_KC Try.func18 rfl Try.ntmps18 rfl ?_
 have hM := Mem.init w
 unfold F_docs_Key at hF
 refine KC.seqH fun Q2 hQ2 => ?_
 refine KC.region ?_
 refine RL.eff (E.box (vs := [Value.bool kv1.f_Src.f_Six, o8 kv1.f_Src.f_B 0, o8 kv1.f_Src.f_B 1, o8 kv1.f_Src.f_B 2, o8 kv1.f_Src.f_B 3, o8 kv1.f_Src.f_B 4, o8 kv1.f_Src.f_B 5, o8 kv1.f_Src.f_B 6, o8 kv1.f_Src.f_B 7, o8 kv1.f_Src.f_B 8, o8 kv1.f_Src.f_B 9, o8 kv1.f_Src.f_B 10, o8 kv1.f_Src.f_B 11, o8 kv1.f_Src.f_B 12, o8 kv1.f_Src.f_B 13, o8 kv1.f_Src.f_B 14, o8 kv1.f_Src.f_B 15, Value.bool kv1.f_Dst.f_Six, o8 kv1.f_Dst.f_B 0, o8 kv1.f_Dst.f_B 1, o8 kv1.f_Dst.f_B 2, o8 kv1.f_Dst.f_B 3, o8 kv1.f_Dst.f_B 4, o8 kv1.f_Dst.f_B 5, o8 kv1.f_Dst.f_B 6, o8 kv1.f_Dst.f_B 7, o8 kv1.f_Dst.f_B 8, o8 kv1.f_Dst.f_B 9, o8 kv1.f_Dst.f_B 10, o8 kv1.f_Dst.f_B 11, o8 kv1.f_Dst.f_B 12, o8 kv1.f_Dst.f_B 13, o8 kv1.f_Dst.f_B 14, o8 kv1.f_Dst.f_B 15, Value.int .u8 kv1.f_Proto, Value.int .u16 kv1.f_SrcPort, Value.int .u16 kv1.f_DstPort]) hM rfl rfl) rfl fun v w4 hv => ?_
 clear hM
 obtain ⟨g3, rfl, hM, hf⟩ := hv
 refine RL.eff (E.alloc hM ze54) rfl fun v w7 hv => ?_
 clear hM
 obtain ⟨g6, rfl, hM, hf⟩ := hv
 refine RL.nil ?_
 refine KQ.thn hQ2 ?_
 clear hQ2 Q2
 refine KC.seqH fun Q9 hQ9 => ?_
 replace hM := hM.drewN 1
 refine KC.draw [] [13] [2, 5, 13] [0, 3, 6, 8, 10] (.ofList [0, 1, 3, 4, 6, 7, 8, 9, 10, 11, 2, 5, 12, 13]) moP (by kernel_rfl) ?_
 refine RD.p rfl rfl rfl rfl (fun w' => O.fldA fl35_0 (by decide) rfl) ?_
 refine RD.q rfl rfl rfl rfl (fun w' hf => O.loadN (cs := [Value.bool kv1.f_Src.f_Six, o8 kv1.f_Src.f_B 0, o8 kv1.f_Src.f_B 1, o8 kv1.f_Src.f_B 2, o8 kv1.f_Src.f_B 3, o8 kv1.f_Src.f_B 4, o8 kv1.f_Src.f_B 5, o8 kv1.f_Src.f_B 6, o8 kv1.f_Src.f_B 7, o8 kv1.f_Src.f_B 8, o8 kv1.f_Src.f_B 9, o8 kv1.f_Src.f_B 10, o8 kv1.f_Src.f_B 11, o8 kv1.f_Src.f_B 12, o8 kv1.f_Src.f_B 13, o8 kv1.f_Src.f_B 14, o8 kv1.f_Src.f_B 15]) ag32 rfl (Cs.addsN [0] ((hM.bx (i := 0) rfl).fut hf) rfl)) ?_
 refine RD.p rfl rfl rfl rfl (fun w' => O.fldA fl35_1 (by decide) rfl) ?_
 refine RD.q rfl rfl rfl rfl (fun w' hf => O.loadN (cs := [Value.bool kv1.f_Dst.f_Six, o8 kv1.f_Dst.f_B 0, o8 kv1.f_Dst.f_B 1, o8 kv1.f_Dst.f_B 2, o8 kv1.f_Dst.f_B 3, o8 kv1.f_Dst.f_B 4, o8 kv1.f_Dst.f_B 5, o8 kv1.f_Dst.f_B 6, o8 kv1.f_Dst.f_B 7, o8 kv1.f_Dst.f_B 8, o8 kv1.f_Dst.f_B 9, o8 kv1.f_Dst.f_B 10, o8 kv1.f_Dst.f_B 11, o8 kv1.f_Dst.f_B 12, o8 kv1.f_Dst.f_B 13, o8 kv1.f_Dst.f_B 14, o8 kv1.f_Dst.f_B 15]) ag32 rfl (Cs.addsN [17] ((hM.bx (i := 0) rfl).fut hf) rfl)) ?_
 refine RD.p rfl rfl rfl rfl (fun w' => O.fldA fl35_2 (by decide) rfl) ?_
 refine RD.q rfl rfl rfl rfl (fun w' hf => O.load sc5 rfl (Cs.adds [34] ((hM.bx (i := 0) rfl).fut hf) rfl)) ?_
 refine RD.p rfl rfl rfl rfl (fun w' => O.fldA fl35_3 (by decide) rfl) ?_
 refine RD.q rfl rfl rfl rfl (fun w' hf => O.load sc33 rfl (Cs.adds [35] ((hM.bx (i := 0) rfl).fut hf) rfl)) ?_
 refine RD.p rfl rfl rfl rfl (fun w' => O.fldA fl35_4 (by decide) rfl) ?_
 refine RD.q rfl rfl rfl rfl (fun w' hf => O.load sc33 rfl (Cs.adds [36] ((hM.bx (i := 0) rfl).fut hf) rfl)) ?_
 refine obindE hF fun y10 hx11 hF => ?_
 refine RD.mcall rfl rfl trivial Try.func36 bd36 rfl rfl (c_docs_Addr _ kv1.f_Src _ hx11) fun v w12 hv => ?_
 obtain ⟨rfl, hN13⟩ := hv
 refine ⟨fun _ => hN13.fut, ?_⟩
 replace hM := hM.call0 hN13
 refine obindE hF fun y14 hx15 hF => ?_
 refine RD.mcall rfl rfl trivial Try.func36 bd36 rfl rfl (c_docs_Addr _ kv1.f_Dst _ hx15) fun v w16 hv => ?_
 obtain ⟨rfl, hN17⟩ := hv
 refine ⟨fun _ => hN17.fut, ?_⟩
 replace hM := hM.call0 hN17
 refine RD.q rfl rfl rfl rfl (fun w' hf => O.bld (cs := [Value.bool y10.f_Six, o8 y10.f_B 0, o8 y10.f_B 1, o8 y10.f_B 2, o8 y10.f_B 3, o8 y10.f_B 4, o8 y10.f_B 5, o8 y10.f_B 6, o8 y10.f_B 7, o8 y10.f_B 8, o8 y10.f_B 9, o8 y10.f_B 10, o8 y10.f_B 11, o8 y10.f_B 12, o8 y10.f_B 13, o8 y10.f_B 14, o8 y10.f_B 15, Value.bool y14.f_Six, o8 y14.f_B 0, o8 y14.f_B 1, o8 y14.f_B 2, o8 y14.f_B 3, o8 y14.f_B 4, o8 y14.f_B 5, o8 y14.f_B 6, o8 y14.f_B 7, o8 y14.f_B 8, o8 y14.f_B 9, o8 y14.f_B 10, o8 y14.f_B 11, o8 y14.f_B 12, o8 y14.f_B 13, o8 y14.f_B 14, o8 y14.f_B 15, Value.int .u8 kv1.f_Proto, Value.int .u16 kv1.f_SrcPort, Value.int .u16 kv1.f_DstPort]) bt54 rfl (by kernel_rfl)) ?_
 refine RD.meffs rfl rfl rfl (E.stB (j := 1) (off := 0) (vs := [Value.bool y10.f_Six, o8 y10.f_B 0, o8 y10.f_B 1, o8 y10.f_B 2, o8 y10.f_B 3, o8 y10.f_B 4, o8 y10.f_B 5, o8 y10.f_B 6, o8 y10.f_B 7, o8 y10.f_B 8, o8 y10.f_B 9, o8 y10.f_B 10, o8 y10.f_B 11, o8 y10.f_B 12, o8 y10.f_B 13, o8 y10.f_B 14, o8 y10.f_B 15, Value.bool y14.f_Six, o8 y14.f_B 0, o8 y14.f_B 1, o8 y14.f_B 2, o8 y14.f_B 3, o8 y14.f_B 4, o8 y14.f_B 5, o8 y14.f_B 6, o8 y14.f_B 7, o8 y14.f_B 8, o8 y14.f_B 9, o8 y14.f_B 10, o8 y14.f_B 11, o8 y14.f_B 12, o8 y14.f_B 13, o8 y14.f_B 14, o8 y14.f_B 15, Value.int .u8 kv1.f_Proto, Value.int .u16 kv1.f_SrcPort, Value.int .u16 kv1.f_DstPort]) (cs' := [Value.bool y10.f_Six, o8 y10.f_B 0, o8 y10.f_B 1, o8 y10.f_B 2, o8 y10.f_B 3, o8 y10.f_B 4, o8 y10.f_B 5, o8 y10.f_B 6, o8 y10.f_B 7, o8 y10.f_B 8, o8 y10.f_B 9, o8 y10.f_B 10, o8 y10.f_B 11, o8 y10.f_B 12, o8 y10.f_B 13, o8 y10.f_B 14, o8 y10.f_B 15, Value.bool y14.f_Six, o8 y14.f_B 0, o8 y14.f_B 1, o8 y14.f_B 2, o8 y14.f_B 3, o8 y14.f_B 4, o8 y14.f_B 5, o8 y14.f_B 6, o8 y14.f_B 7, o8 y14.f_B 8, o8 y14.f_B 9, o8 y14.f_B 10, o8 y14.f_B 11, o8 y14.f_B 12, o8 y14.f_B 13, o8 y14.f_B 14, o8 y14.f_B 15, Value.int .u8 kv1.f_Proto, Value.int .u16 kv1.f_SrcPort, Value.int .u16 kv1.f_DstPort]) hM rfl sz54 rfl (adds_eq [] rfl) rfl rfl (One.all rfl) rfl rfl) fun w18 hM1 => ?_
 clear hM
 have hM := hM1
 clear hM1
 refine RD.nil ?_
 refine KQ.thn hQ9 ?_
 clear hQ9 Q9
 refine KC.ret ?_
 have hE := Option.some.inj hF
 clear hF
 subst hE
 have hb19 := hM.bx (i := 1) rfl
 replace hM := hM.pick [] rfl (by decide)
 refine KQ.rets Try.results18 (RVs.cons (RV.cN (cs := [Value.bool y10.f_Six, o8 y10.f_B 0, o8 y10.f_B 1, o8 y10.f_B 2, o8 y10.f_B 3, o8 y10.f_B 4, o8 y10.f_B 5, o8 y10.f_B 6, o8 y10.f_B 7, o8 y10.f_B 8, o8 y10.f_B 9, o8 y10.f_B 10, o8 y10.f_B 11, o8 y10.f_B 12, o8 y10.f_B 13, o8 y10.f_B 14, o8 y10.f_B 15, Value.bool y14.f_Six, o8 y14.f_B 0, o8 y14.f_B 1, o8 y14.f_B 2, o8 y14.f_B 3, o8 y14.f_B 4, o8 y14.f_B 5, o8 y14.f_B 6, o8 y14.f_B 7, o8 y14.f_B 8, o8 y14.f_B 9, o8 y14.f_B 10, o8 y14.f_B 11, o8 y14.f_B 12, o8 y14.f_B 13, o8 y14.f_B 14, o8 y14.f_B 15, Value.int .u8 kv1.f_Proto, Value.int .u16 kv1.f_SrcPort, Value.int .u16 kv1.f_DstPort]) rfl ag54 hb19) RVs.nil) ?_
 exact ⟨_, rfl, rfl, hM⟩
set_option maxRecDepth 100000 in
set_option maxHeartbeats 40000000 in
theorem c_ref04_Right (w : World) (av1 : T_addr_Addr) (r : Bool) (hF : F_ref04_Right av1 = some r) :
  CallsR Try.prog 48 [.agg #[Value.bool av1.f_Six, o8 av1.f_B 0, o8 av1.f_B 1, o8 av1.f_B 2, o8 av1.f_B 3, o8 av1.f_B 4, o8 av1.f_B 5, o8 av1.f_B 6, o8 av1.f_B 7, o8 av1.f_B 8, o8 av1.f_B 9, o8 av1.f_B 10, o8 av1.f_B 11, o8 av1.f_B 12, o8 av1.f_B 13, o8 av1.f_B 14, o8 av1.f_B 15]] w (fun v w' => v = Value.bool r ∧ Mem w [] w' []) := by
 refine calls_KC Try.func48 rfl Try.ntmps48 rfl ?_
 have hM := Mem.init w
 unfold F_ref04_Right at hF
 refine KC.seqH fun Q2 hQ2 => ?_
 refine KC.region ?_
 refine RL.eff (E.box (vs := [Value.bool av1.f_Six, o8 av1.f_B 0, o8 av1.f_B 1, o8 av1.f_B 2, o8 av1.f_B 3, o8 av1.f_B 4, o8 av1.f_B 5, o8 av1.f_B 6, o8 av1.f_B 7, o8 av1.f_B 8, o8 av1.f_B 9, o8 av1.f_B 10, o8 av1.f_B 11, o8 av1.f_B 12, o8 av1.f_B 13, o8 av1.f_B 14, o8 av1.f_B 15]) hM rfl rfl) rfl fun v w4 hv => ?_
 clear hM
 obtain ⟨g3, rfl, hM, hf⟩ := hv
 refine RL.val (O.assign rfl) rfl ?_
 refine RL.nil ?_
 refine KQ.thn hQ2 ?_
 clear hQ2 Q2
 refine KC.seqH fun Q6 hQ6 => ?_
 refine KC.seqH fun Q7 hQ7 => ?_
 refine KC.region ?_
 refine RL.val (O.assign rfl) rfl ?_
 refine RL.nil ?_
 refine KQ.thn hQ7 ?_
 clear hQ7 Q7
 refine KC.block ?_
 refine KC.loop (fun k32 a w30 => ∃ (i29 : Int), Kn 18 [(1, .pointer (some ⟨g3, 0, none⟩)), (3, Value.int .i64 i29)] a ∧ Mem w [] w30 [.box g3 52 [Value.bool av1.f_Six, o8 av1.f_B 0, o8 av1.f_B 1, o8 av1.f_B 2, o8 av1.f_B 3, o8 av1.f_B 4, o8 av1.f_B 5, o8 av1.f_B 6, o8 av1.f_B 7, o8 av1.f_B 8, o8 av1.f_B 9, o8 av1.f_B 10, o8 av1.f_B 11, o8 av1.f_B 12, o8 av1.f_B 13, o8 av1.f_B 14, o8 av1.f_B 15]] ∧ F_ref04_Right_L1 av1 k32 i29 = some r) ?_ ?_
 ·exact fun a ha => ⟨fuel0, 4, ha.less (less_cons rfl (less_cons rfl less_nil)), hM, hF⟩
 ·rintro k32 a w30 ⟨i29, ha, hM, hF⟩
  refine KC.app ha ?_
  clear ha
  cases k32 with
  | zero => exact (none_some hF).elim
  | succ k32 =>
  have hF : F_ref04_Right_l1 (F_ref04_Right_L1 av1 k32) av1 i29 = some r := hF
  unfold F_ref04_Right_l1 at hF
  refine KC.seqH fun Q33 hQ33 => ?_
  refine KC.seqH fun Q34 hQ34 => ?_
  refine KC.region ?_
  refine RL.val (O.move rfl) rfl ?_
  refine RL.val (O.lss rfl rfl) rfl ?_
  refine RL.nil ?_
  refine KQ.thn hQ34 ?_
  clear hQ34 Q34
  refine KC.cond rfl (fun hc => ?_) (fun hc => ?_)
  ·rw [if_pos hc] at hF
   refine KC.skip ?_
   refine KQ.thn hQ33 ?_
   clear hQ33 Q33
   refine KC.seqH fun Q35 hQ35 => ?_
   refine KC.block ?_
   refine KC.cut (fun a w40 => ∃ (t39 : Bool), Kn 18 [(1, .pointer (some ⟨g3, 0, none⟩)), (3, Value.int .i64 i29), (17, Value.bool t39)] a ∧ Mem w [] w40 [.box g3 52 [Value.bool av1.f_Six, o8 av1.f_B 0, o8 av1.f_B 1, o8 av1.f_B 2, o8 av1.f_B 3, o8 av1.f_B 4, o8 av1.f_B 5, o8 av1.f_B 6, o8 av1.f_B 7, o8 av1.f_B 8, o8 av1.f_B 9, o8 av1.f_B 10, o8 av1.f_B 11, o8 av1.f_B 12, o8 av1.f_B 13, o8 av1.f_B 14, o8 av1.f_B 15]] ∧ F_ref04_Right_j1 i29 (F_ref04_Right_L1 av1 k32) t39 = some r) ?_ ?_
   ·refine KC.region ?_
    refine RL.val (O.fldA fl52_0 (by decide) rfl) rfl ?_
    refine RL.val (O.load sc4 rfl (Cs.adds [0] ((hM.bx (i := 0) rfl)) rfl)) rfl ?_
    refine RL.val (O.not rfl) rfl ?_
    refine RL.val (O.move rfl) rfl ?_
    refine RL.bcase (t := 11) rfl (fun hc => ?_) (fun hc => ?_)
    ·rw [if_pos hc] at hF
     refine RL.gval rfl rfl (O.move rfl) rfl ?_
     refine RL.gval rfl rfl (O.fldA fl52_1 (by decide) rfl) rfl ?_
     refine obindE hF fun xv37 hx36 hF => ?_
     refine RL.gval rfl rfl (O.idxP Try.underlying30 sz5 hx36 rfl rfl) rfl ?_
     refine RL.gval rfl rfl (O.load sc5 rfl (Cs.arrAt [1] ((hM.bx (i := 0) rfl)) rfl hx36)) rfl ?_
     refine RL.gval rfl rfl (O.neq rfl rfl) rfl ?_
     refine RL.val (O.pickt rfl rfl) rfl ?_
     refine RL.nil ?_
     refine KQ.then_k ?_
     exact fun a ha => ⟨(xv37 != 0), ha.less (less_cons rfl (less_cons rfl (less_cons rfl less_nil))), hM, hF⟩
    ·rw [if_neg (ne_true hc)] at hF
     refine RL.gskip rfl rfl rfl rfl ?_
     refine RL.gskip rfl rfl rfl rfl ?_
     refine RL.gskip rfl rfl rfl rfl ?_
     refine RL.gskip rfl rfl rfl rfl ?_
     refine RL.gskip rfl rfl rfl rfl ?_
     refine RL.val (O.pickf rfl rfl) rfl ?_
     refine RL.nil ?_
     refine KQ.then_k ?_
     exact fun a ha => ⟨false, ha.less (less_cons rfl (less_cons rfl (less_cons rfl less_nil))), hM, hF⟩
   ·rintro a w40 ⟨t39, ha, hM, hF⟩
    refine KC.app ha ?_
    clear ha
    unfold F_ref04_Right_j1 at hF
    refine KC.cond rfl (fun hc => ?_) (fun hc => ?_)
    ·rw [if_pos hc] at hF
     refine KC.seqH fun Q41 hQ41 => ?_
     refine KC.region ?_
     refine RL.val (O.assign rfl) rfl ?_
     refine RL.nil ?_
     refine KQ.thn hQ41 ?_
     clear hQ41 Q41
     refine KC.ret ?_
     refine KQ.blk_r ?_
     refine KQ.thr hQ35 ?_
     clear hQ35 Q35
     refine KQ.then_r ?_
     refine KQ.blk_r ?_
     refine KQ.thr hQ6 ?_
     clear hQ6 Q6
     have hE := Option.some.inj hF
     clear hF
     subst hE
     replace hM := hM.pick [] rfl (by decide)
     refine KQ.rets Try.results48 (RVs.cons (RV.tm rfl) RVs.nil) ?_
     exact ⟨_, rfl, rfl, hM⟩
    ·rw [if_neg (ne_true hc)] at hF
     refine KC.skip ?_
     refine KQ.blk_n ?_
     refine KQ.thn hQ35 ?_
     clear hQ35 Q35
     refine KC.region ?_
     refine RL.val (O.move rfl) rfl ?_
     refine RL.val (O.add rfl rfl) rfl ?_
     refine RL.val (O.assign rfl) rfl ?_
     refine RL.nil ?_
     refine KQ.then_k ?_
     exact fun a ha => ⟨k32, Nat.lt_succ_self k32, (IntKind.i64.wrap (i29 + 1)), ha.less (less_cons rfl (less_cons rfl less_nil)), hM, hF⟩
  ·rw [if_neg (ne_true hc)] at hF
   refine KC.exit ?_
   refine KQ.thx hQ33 ?_
   clear hQ33 Q33
   refine KQ.then_x ?_
   refine KQ.blk_x ?_
   refine KQ.thn hQ6 ?_
   clear hQ6 Q6
   refine KC.seqH fun Q42 hQ42 => ?_
   refine KC.region ?_
   refine RL.val (O.assign rfl) rfl ?_
   refine RL.nil ?_
   refine KQ.thn hQ42 ?_
   clear hQ42 Q42
   refine KC.ret ?_
   have hE := Option.some.inj hF
   clear hF
   subst hE
   replace hM := hM.pick [] rfl (by decide)
   refine KQ.rets Try.results48 (RVs.cons (RV.tm rfl) RVs.nil) ?_
   exact ⟨_, rfl, rfl, hM⟩
set_option maxRecDepth 100000 in
set_option maxHeartbeats 40000000 in
theorem c_ref08_ports (w : World) (proto1 : Int) (r : Bool) (hF : F_ref08_ports proto1 = some r) :
  CallsR Try.prog 49 [Value.int .u8 proto1] w (fun v w' => v = Value.bool r ∧ Mem w [] w' []) := by
 refine calls_KC Try.func49 rfl Try.ntmps49 rfl ?_
 have hM := Mem.init w
 unfold F_ref08_ports at hF
 refine KC.seqH fun Q2 hQ2 => ?_
 refine KC.region ?_
 refine RL.val (O.assign rfl) rfl ?_
 refine RL.nil ?_
 refine KQ.thn hQ2 ?_
 clear hQ2 Q2
 refine KC.cut (fun a w4 => ∃ (t3 : Bool), Kn 9 [(2, Value.bool t3)] a ∧ Mem w [] w4 [] ∧ F_ref08_ports_j1 t3 = some r) ?_ ?_
 ·refine KC.region ?_
  refine RL.val (O.move rfl) rfl ?_
  refine RL.val (O.eql rfl rfl) rfl ?_
  refine RL.val (O.move rfl) rfl ?_
  refine RL.bcase (t := 5) rfl (fun hc => ?_) (fun hc => ?_)
  ·rw [if_pos hc] at hF
   refine RL.gskip rfl rfl rfl rfl ?_
   refine RL.gskip rfl rfl rfl rfl ?_
   refine RL.val (O.pickt rfl rfl) rfl ?_
   refine RL.val (O.assign rfl) rfl ?_
   refine RL.nil ?_
   refine KQ.then_k ?_
   exact fun a ha => ⟨true, ha.less (less_cons rfl less_nil), hM, hF⟩
  ·rw [if_neg (ne_true hc)] at hF
   refine RL.gval rfl rfl (O.move rfl) rfl ?_
   refine RL.gval rfl rfl (O.eql rfl rfl) rfl ?_
   refine RL.val (O.pickf rfl rfl) rfl ?_
   refine RL.val (O.assign rfl) rfl ?_
   refine RL.nil ?_
   refine KQ.then_k ?_
   exact fun a ha => ⟨(proto1 == 17), ha.less (less_cons rfl less_nil), hM, hF⟩
 ·rintro a w4 ⟨t3, ha, hM, hF⟩
  refine KC.app ha ?_
  clear ha
  unfold F_ref08_ports_j1 at hF
  refine KC.ret ?_
  have hE := Option.some.inj hF
  clear hF
  subst hE
  refine KQ.rets Try.results49 (RVs.cons (RV.tm rfl) RVs.nil) ?_
  exact ⟨_, rfl, rfl, hM⟩
set_option maxRecDepth 100000 in
set_option maxHeartbeats 40000000 in
theorem c_ref08_icmp (w : World) (proto1 : Int) (r : Bool) (hF : F_ref08_icmp proto1 = some r) :
  CallsR Try.prog 50 [Value.int .u8 proto1] w (fun v w' => v = Value.bool r ∧ Mem w [] w' []) := by
 refine calls_KC Try.func50 rfl Try.ntmps50 rfl ?_
 have hM := Mem.init w
 unfold F_ref08_icmp at hF
 refine KC.seqH fun Q2 hQ2 => ?_
 refine KC.region ?_
 refine RL.val (O.assign rfl) rfl ?_
 refine RL.nil ?_
 refine KQ.thn hQ2 ?_
 clear hQ2 Q2
 refine KC.cut (fun a w4 => ∃ (t3 : Bool), Kn 9 [(2, Value.bool t3)] a ∧ Mem w [] w4 [] ∧ F_ref08_icmp_j1 t3 = some r) ?_ ?_
 ·refine KC.region ?_
  refine RL.val (O.move rfl) rfl ?_
  refine RL.val (O.eql rfl rfl) rfl ?_
  refine RL.val (O.move rfl) rfl ?_
  refine RL.bcase (t := 5) rfl (fun hc => ?_) (fun hc => ?_)
  ·rw [if_pos hc] at hF
   refine RL.gskip rfl rfl rfl rfl ?_
   refine RL.gskip rfl rfl rfl rfl ?_
   refine RL.val (O.pickt rfl rfl) rfl ?_
   refine RL.val (O.assign rfl) rfl ?_
   refine RL.nil ?_
   refine KQ.then_k ?_
   exact fun a ha => ⟨true, ha.less (less_cons rfl less_nil), hM, hF⟩
  ·rw [if_neg (ne_true hc)] at hF
   refine RL.gval rfl rfl (O.move rfl) rfl ?_
   refine RL.gval rfl rfl (O.eql rfl rfl) rfl ?_
   refine RL.val (O.pickf rfl rfl) rfl ?_
   refine RL.val (O.assign rfl) rfl ?_
   refine RL.nil ?_
   refine KQ.then_k ?_
   exact fun a ha => ⟨(proto1 == 58), ha.less (less_cons rfl less_nil), hM, hF⟩
 ·rintro a w4 ⟨t3, ha, hM, hF⟩
  refine KC.app ha ?_
  clear ha
  unfold F_ref08_icmp_j1 at hF
  refine KC.ret ?_
  have hE := Option.some.inj hF
  clear hF
  subst hE
  refine KQ.rets Try.results50 (RVs.cons (RV.tm rfl) RVs.nil) ?_
  exact ⟨_, rfl, rfl, hM⟩
end Go.Proofs.Ytnbakndfnjflhaa
