/- Printed by a program of this claim: each call returns what the plain function of its name gives. -/
import Derived.Test.YtcinagdkkclapaaW1
import Derived.Test.YtcinagdkkclapaaW8
import Derived.Test.YtcinagdkkclapaaW9
set_option linter.unusedVariables false
namespace Go.Proofs.Ytcinagdkkclapaa
open Go Go.Ox Go.RowKit
set_option maxRecDepth 100000 in
set_option maxHeartbeats 40000000 in
theorem c_trans_Parse (w : World) (proto1 : Int) (A3 : Option Addr) (c4 : Nat) (b2 : List Int) (hr5 : Rd w A3 c4 1 b2.length (b2.flatMap (eI .u8))) (r : T_trans_Segment × Int) (hF : F_trans_Parse proto1 b2 = some r) :
  CallsR Try.prog 19 [v8 proto1, .slice A3 (b2).length c4] w (fun v w' => ∃ (A0 : Option Addr) (c0 : Nat) (A1 : Option Addr) (c1 : Nat), v = .tuple #[.agg #[v8 r.1.f_Proto, v16 r.1.f_Src, v16 r.1.f_Dst, v32 r.1.f_Seq, v32 r.1.f_Ack, v8 r.1.f_Flags, v16 r.1.f_Window, v16 r.1.f_Urgent, .slice A0 (r.1.f_Options).length c0, v8 r.1.f_Type, v8 r.1.f_Code, .slice A1 (r.1.f_Data).length c1], vI r.2] ∧ Mem w [] w' [.row A0 c0 5 1 r.1.f_Options.length (r.1.f_Options.flatMap (eI .u8)), .row A1 c1 5 1 r.1.f_Data.length (r.1.f_Data.flatMap (eI .u8))]) := by
 refine calls_KC Try.func19 rfl Try.ntmps19 rfl ?_
 have hM := Mem.init w
 unfold F_trans_Parse at hF
 refine sr fun Q6 hQ6 => ?_
 refine RL.eff (E.alloc hM ze26) rfl fun v w8 hv => ?_
 clear hM
 obtain ⟨g7, rfl, hM, hf⟩ := hv
 refine va rfl rfl ?_
 refine nt hQ6 ?_
 clear hQ6 Q6
 refine sr fun Q10 hQ10 => ?_
 refine obindE hF fun y11 hx12 hF => ?_
 refine RL.call Try.func30 bd30 rfl rfl (c_trans_protocols _ _ hx12) fun v w13 hv => ?_
 obtain ⟨g15, rfl, hN14⟩ := hv
 replace hM := hM.call hN14
 refine vm rfl rfl ?_
 by_cases hk17 : (proto1 == 6) = true
 ·rw [if_pos hk17] at hF
  refine RL.val (O.lkT ((hM.mapAt (i := 1) rfl)) Try.underlying64 Try.underlying5 rfl rfl (lk_hit hk17)) rfl ?_
  refine vm rfl rfl ?_
  refine RL.val (O.ext rfl rfl) rfl ?_
  refine RL.val (O.ext rfl rfl) rfl ?_
  refine RL.eff (E.alloc hM ze62) rfl fun v w19 hv => ?_
  clear hM
  obtain ⟨g18, rfl, hM, hf⟩ := hv
  refine RL.effs (E.stB (j := 2) (off := 0) (vs := [vI 20, vI 16, .func (.func 49) #[] #[], .func (.func 50) #[] #[], .func (.func 51) #[] #[]]) (cs' := [vI 20, vI 16, .func (.func 49) #[] #[], .func (.func 50) #[] #[], .func (.func 51) #[] #[]]) hM rfl sz62 rfl (adds_eq [] rfl) rfl rfl (One.all rfl) rfl rfl) fun w21 hM1 => ?_
  clear hM
  have hM := hM1
  clear hM1
  refine va rfl rfl ?_
  refine nt hQ10 ?_
  clear hQ10 Q10
  refine KC.seqH fun Q22 hQ22 => ?_
  refine KC.block ?_
  refine sr fun Q23 hQ23 => ?_
  refine vm rfl rfl ?_
  refine RL.val (O.not rfl) rfl ?_
  refine va rfl rfl ?_
  refine nt hQ23 ?_
  clear hQ23 Q23
  refine KC.condF rfl ?_
  refine sr fun Q24 hQ24 => ?_
  refine vm rfl rfl ?_
  refine RL.val (O.len sl24 rfl) rfl ?_
  refine RL.val (O.fldA fl62_0 (by decide) rfl) rfl ?_
  refine RL.val (O.load sc3 rfl (Cs.adds [0] ((hM.bx (i := 2) rfl)) rfl)) rfl ?_
  refine RL.val (O.lss rfl rfl) rfl ?_
  refine va rfl rfl ?_
  refine nt hQ24 ?_
  clear hQ24 Q24
  refine KC.cond rfl (fun hc => ?_) (fun hc => ?_)
  ·rw [if_pos hc] at hF
   refine sr fun Q25 hQ25 => ?_
   refine RL.val (O.bld (cs := [v8 0, v16 0, v16 0, v32 0, v32 0, v8 0, v16 0, v16 0, .slice none 0 0, v8 0, v8 0, .slice none 0 0]) bt26 rfl (by kernel_rfl)) rfl ?_
   refine RL.effs (E.stB (j := 0) (off := 0) (vs := [v8 0, v16 0, v16 0, v32 0, v32 0, v8 0, v16 0, v16 0, .slice none 0 0, v8 0, v8 0, .slice none 0 0]) (cs' := [v8 0, v16 0, v16 0, v32 0, v32 0, v8 0, v16 0, v16 0, .slice none 0 0, v8 0, v8 0, .slice none 0 0]) hM rfl sz26 rfl (adds_eq [] rfl) rfl rfl (One.all rfl) rfl rfl) fun w26 hM1 => ?_
   clear hM
   have hM := hM1
   clear hM1
   refine va rfl rfl ?_
   refine nt hQ25 ?_
   clear hQ25 Q25
   refine KC.ret ?_
   refine KQ.blk_r ?_
   refine KQ.thr hQ22 ?_
   clear hQ22 Q22
   have hE := Option.some.inj hF
   clear hF
   subst hE
   have hb27 := hM.bx (i := 0) rfl
   replace hM := hM.nilrow 5 1
   replace hM := hM.nilrow 5 1
   replace hM := hM.pick [3, 4] rfl (by decide)
   refine KQ.rets Try.results19 (RVs.cons (RV.cN (cs := [v8 0, v16 0, v16 0, v32 0, v32 0, v8 0, v16 0, v16 0, .slice none 0 0, v8 0, v8 0, .slice none 0 0]) rfl ag26 hb27) (RVs.cons (RV.tm rfl) RVs.nil)) ?_
   exact ⟨_, rfl, none, 0, none, 0, rfl, hM⟩
  rw [if_neg (ne_true hc)] at hF
  refine sr fun Q28 hQ28 => ?_
  refine vm rfl rfl ?_
  refine RL.val (O.len sl24 rfl) rfl ?_
  refine RL.val (O.gtr rfl rfl) rfl ?_
  refine va rfl rfl ?_
  refine nt hQ28 ?_
  clear hQ28 Q28
  refine KC.cond rfl (fun hc => ?_) (fun hc => ?_)
  ·rw [if_pos hc] at hF
   refine sr fun Q29 hQ29 => ?_
   refine RL.val (O.bld (cs := [v8 0, v16 0, v16 0, v32 0, v32 0, v8 0, v16 0, v16 0, .slice none 0 0, v8 0, v8 0, .slice none 0 0]) bt26 rfl (by kernel_rfl)) rfl ?_
   refine RL.effs (E.stB (j := 0) (off := 0) (vs := [v8 0, v16 0, v16 0, v32 0, v32 0, v8 0, v16 0, v16 0, .slice none 0 0, v8 0, v8 0, .slice none 0 0]) (cs' := [v8 0, v16 0, v16 0, v32 0, v32 0, v8 0, v16 0, v16 0, .slice none 0 0, v8 0, v8 0, .slice none 0 0]) hM rfl sz26 rfl (adds_eq [] rfl) rfl rfl (One.all rfl) rfl rfl) fun w30 hM1 => ?_
   clear hM
   have hM := hM1
   clear hM1
   refine va rfl rfl ?_
   refine nt hQ29 ?_
   clear hQ29 Q29
   refine KC.ret ?_
   refine KQ.blk_r ?_
   refine KQ.thr hQ22 ?_
   clear hQ22 Q22
   have hE := Option.some.inj hF
   clear hF
   subst hE
   have hb31 := hM.bx (i := 0) rfl
   replace hM := hM.nilrow 5 1
   replace hM := hM.nilrow 5 1
   replace hM := hM.pick [3, 4] rfl (by decide)
   refine KQ.rets Try.results19 (RVs.cons (RV.cN (cs := [v8 0, v16 0, v16 0, v32 0, v32 0, v8 0, v16 0, v16 0, .slice none 0 0, v8 0, v8 0, .slice none 0 0]) rfl ag26 hb31) (RVs.cons (RV.tm rfl) RVs.nil)) ?_
   exact ⟨_, rfl, none, 0, none, 0, rfl, hM⟩
  rw [if_neg (ne_true hc)] at hF
  refine KC.skip ?_
  refine KQ.blk_n ?_
  refine KQ.thn hQ22 ?_
  clear hQ22 Q22
  refine KC.cut (fun a w123 => ∃ (g103 : Nat) (A113 : Option Addr) (c114 : Nat) (A119 : Option Addr) (c120 : Nat) (s104 : Int) (s105 : Int) (s106 : Int) (s107 : Int) (s108 : Int) (s109 : Int) (s110 : Int) (s111 : Int) (s115 : List Int) (s116 : Int) (s117 : Int) (s121 : List Int) (ev122 : Int), Kn 47 [(0, v8 proto1), (4, .pointer (some ⟨g7, 0, none⟩)), (8, .pointer (some ⟨g103, 0, none⟩)), (9, vI ev122)] a ∧ Mem w [] w123 [.box g7 26 [v8 0, v16 0, v16 0, v32 0, v32 0, v8 0, v16 0, v16 0, .slice none 0 0, v8 0, v8 0, .slice none 0 0], .row A113 c114 5 1 (s115).length ((s115).flatMap (eI .u8)), .row A119 c120 5 1 (s121).length ((s121).flatMap (eI .u8)), .box g103 26 [v8 s104, v16 s105, v16 s106, v32 s107, v32 s108, v8 s109, v16 s110, v16 s111, .slice A113 (s115).length c114, v8 s116, v8 s117, .slice A119 (s121).length c120]] ∧ F_trans_Parse_j1 proto1 s105 s106 s107 s108 s109 s110 s111 s115 s116 s117 s121 ev122 = some r) ?_ ?_
  ·replace hM := hM.drewN 1
   refine KC.draw [] [4, 9] [3, 4, 8, 9] [0, 2, 5, 6, 7, 10] (.cons 0 (.cons 1 (.cons 2 (.alt 3 (.alt 4 (.ofList [5, 6, 7, 8, 9, 10]) 8 (.ofList [4, 5, 6, 7, 9, 10])) 8 (.ofList [3, 4, 5, 6, 7, 9, 10]))))) moP (by kernel_rfl) ?_
   refine RD.p rfl rfl rfl rfl (fun w' => O.fldA fl62_4 (by decide) rfl) ?_
   refine RD.q rfl rfl rfl rfl (fun w' hf => O.load sc60 rfl (Cs.adds [4] ((hM.bx (i := 2) rfl).fut hf) rfl)) ?_
   refine RD.p rfl rfl rfl rfl (fun w' => O.move rfl) ?_
   refine RD.alt ?_ ?_
   ·refine obindE hF fun y32 hx33 hF => ?_
    refine RD.mcall rfl rfl trivial Try.func39 bd39 rfl rfl (c_bits_Read _ _ _ b2 (hM.inp hr5 Off.nil) _ hx33) fun v w34 hv => ?_
    obtain ⟨g36, A38, c39, rfl, hN35⟩ := hv
    refine ⟨fun _ => hN35.fut, ?_⟩
    replace hM := hM.call hN35
    refine RD.alt ?_ ?_
    ·refine obindE hF fun y41 hx42 hF => ?_
     refine RD.mcallv rfl rfl trivial (first := []) (captured := []) rfl Try.func51 bd51 rfl rfl (c_trans_readTCP _ _ _ y32 _ _ (hM.lent [3, 4] rfl (by decide)) _ hx42) fun v w43 hv => ?_
     obtain ⟨A45, c46, A48, c49, A51, c52, rfl, hN44⟩ := hv
     refine ⟨fun h => (by cases h), ?_⟩
     replace hM := hM.callL [3, 4] [0, 1, 2] rfl rfl (by decide) rfl hN44
     refine RD.p rfl rfl rfl rfl (fun w' => O.move rfl) ?_
     refine RD.p rfl rfl rfl rfl (fun w' => O.ext rfl rfl) ?_
     refine RD.p rfl rfl rfl rfl (fun w' => O.ext rfl rfl) ?_
     refine RD.meff rfl rfl (E.alloc hM ze26) rfl fun v w55 hv => ?_
     clear hM
     obtain ⟨g54, rfl, hM, hf⟩ := hv
     refine ⟨fun _ => hf, ?_⟩
     refine RD.meffs rfl rfl rfl (E.stB (j := 7) (off := 0) (vs := [v8 y41.1.f_Proto, v16 y41.1.f_Src, v16 y41.1.f_Dst, v32 y41.1.f_Seq, v32 y41.1.f_Ack, v8 y41.1.f_Flags, v16 y41.1.f_Window, v16 y41.1.f_Urgent, .slice A48 (y41.1.f_Options).length c49, v8 y41.1.f_Type, v8 y41.1.f_Code, .slice A51 (y41.1.f_Data).length c52]) (cs' := [v8 y41.1.f_Proto, v16 y41.1.f_Src, v16 y41.1.f_Dst, v32 y41.1.f_Seq, v32 y41.1.f_Ack, v8 y41.1.f_Flags, v16 y41.1.f_Window, v16 y41.1.f_Urgent, .slice A48 (y41.1.f_Options).length c49, v8 y41.1.f_Type, v8 y41.1.f_Code, .slice A51 (y41.1.f_Data).length c52]) hM rfl sz26 rfl (adds_eq [] rfl) rfl rfl (One.all rfl) rfl rfl) fun w57 hM1 => ?_
     clear hM
     have hM := hM1
     clear hM1
     refine RD.p rfl rfl rfl rfl (fun w' => O.assign rfl) ?_
     refine RD.nil ?_
     refine KQ.then_k ?_
     replace hM := hM.pick [0, 5, 6, 7] rfl (by decide)
     exact fun a ha => ⟨g54, A48, c49, A51, c52, y41.1.f_Proto, y41.1.f_Src, y41.1.f_Dst, y41.1.f_Seq, y41.1.f_Ack, y41.1.f_Flags, y41.1.f_Window, y41.1.f_Urgent, y41.1.f_Options, y41.1.f_Type, y41.1.f_Code, y41.1.f_Data, y41.2.1, ha.less (less_cons rfl (less_cons rfl (less_cons rfl (less_cons rfl less_nil)))), hM, hF⟩
    refine RD.meff rfl rfl (E.alloc hM ze26) rfl fun v w59 hv => ?_
    clear hM
    obtain ⟨g58, rfl, hM, hf⟩ := hv
    refine ⟨fun _ => hf, ?_⟩
    refine obindE hF fun y61 hx62 hF => ?_
    refine RD.mcallv rfl rfl trivial (first := []) (captured := []) rfl Try.func51 bd51 rfl rfl (c_trans_readTCP _ _ _ y32 _ _ (hM.lent [3, 4] rfl (by decide)) _ hx62) fun v w63 hv => ?_
    obtain ⟨A65, c66, A68, c69, A71, c72, rfl, hN64⟩ := hv
    refine ⟨fun h => (by cases h), ?_⟩
    replace hM := hM.callL [3, 4] [0, 1, 2, 5] rfl rfl (by decide) rfl hN64
    refine RD.p rfl rfl rfl rfl (fun w' => O.move rfl) ?_
    refine RD.p rfl rfl rfl rfl (fun w' => O.ext rfl rfl) ?_
    refine RD.p rfl rfl rfl rfl (fun w' => O.ext rfl rfl) ?_
    refine RD.meffs rfl rfl rfl (E.stB (j := 3) (off := 0) (vs := [v8 y61.1.f_Proto, v16 y61.1.f_Src, v16 y61.1.f_Dst, v32 y61.1.f_Seq, v32 y61.1.f_Ack, v8 y61.1.f_Flags, v16 y61.1.f_Window, v16 y61.1.f_Urgent, .slice A68 (y61.1.f_Options).length c69, v8 y61.1.f_Type, v8 y61.1.f_Code, .slice A71 (y61.1.f_Data).length c72]) (cs' := [v8 y61.1.f_Proto, v16 y61.1.f_Src, v16 y61.1.f_Dst, v32 y61.1.f_Seq, v32 y61.1.f_Ack, v8 y61.1.f_Flags, v16 y61.1.f_Window, v16 y61.1.f_Urgent, .slice A68 (y61.1.f_Options).length c69, v8 y61.1.f_Type, v8 y61.1.f_Code, .slice A71 (y61.1.f_Data).length c72]) hM rfl sz26 rfl (adds_eq [] rfl) rfl rfl (One.all rfl) rfl rfl) fun w74 hM1 => ?_
    clear hM
    have hM := hM1
    clear hM1
    refine RD.p rfl rfl rfl rfl (fun w' => O.assign rfl) ?_
    refine RD.nil ?_
    refine KQ.then_k ?_
    replace hM := hM.pick [0, 6, 7, 3] rfl (by decide)
    exact fun a ha => ⟨g58, A68, c69, A71, c72, y61.1.f_Proto, y61.1.f_Src, y61.1.f_Dst, y61.1.f_Seq, y61.1.f_Ack, y61.1.f_Flags, y61.1.f_Window, y61.1.f_Urgent, y61.1.f_Options, y61.1.f_Type, y61.1.f_Code, y61.1.f_Data, y61.2.1, ha.less (less_cons rfl (less_cons rfl (less_cons rfl (less_cons rfl less_nil)))), hM, hF⟩
   refine RD.meff rfl rfl (E.alloc hM ze26) rfl fun v w76 hv => ?_
   clear hM
   obtain ⟨g75, rfl, hM, hf⟩ := hv
   refine ⟨fun _ => hf, ?_⟩
   refine obindE hF fun y78 hx79 hF => ?_
   refine RD.mcall rfl rfl trivial Try.func39 bd39 rfl rfl (c_bits_Read _ _ _ b2 (hM.inp hr5 Off.nil) _ hx79) fun v w80 hv => ?_
   obtain ⟨g82, A84, c85, rfl, hN81⟩ := hv
   refine ⟨fun _ => hN81.fut, ?_⟩
   replace hM := hM.call hN81
   refine obindE hF fun y87 hx88 hF => ?_
   refine RD.mcallv rfl rfl trivial (first := []) (captured := []) rfl Try.func51 bd51 rfl rfl (c_trans_readTCP _ _ _ y78 _ _ (hM.lent [4, 5] rfl (by decide)) _ hx88) fun v w89 hv => ?_
   obtain ⟨A91, c92, A94, c95, A97, c98, rfl, hN90⟩ := hv
   refine ⟨fun h => (by cases h), ?_⟩
   replace hM := hM.callL [4, 5] [0, 1, 2, 3] rfl rfl (by decide) rfl hN90
   refine RD.p rfl rfl rfl rfl (fun w' => O.move rfl) ?_
   refine RD.p rfl rfl rfl rfl (fun w' => O.ext rfl rfl) ?_
   refine RD.p rfl rfl rfl rfl (fun w' => O.ext rfl rfl) ?_
   refine RD.meffs rfl rfl rfl (E.stB (j := 3) (off := 0) (vs := [v8 y87.1.f_Proto, v16 y87.1.f_Src, v16 y87.1.f_Dst, v32 y87.1.f_Seq, v32 y87.1.f_Ack, v8 y87.1.f_Flags, v16 y87.1.f_Window, v16 y87.1.f_Urgent, .slice A94 (y87.1.f_Options).length c95, v8 y87.1.f_Type, v8 y87.1.f_Code, .slice A97 (y87.1.f_Data).length c98]) (cs' := [v8 y87.1.f_Proto, v16 y87.1.f_Src, v16 y87.1.f_Dst, v32 y87.1.f_Seq, v32 y87.1.f_Ack, v8 y87.1.f_Flags, v16 y87.1.f_Window, v16 y87.1.f_Urgent, .slice A94 (y87.1.f_Options).length c95, v8 y87.1.f_Type, v8 y87.1.f_Code, .slice A97 (y87.1.f_Data).length c98]) hM rfl sz26 rfl (adds_eq [] rfl) rfl rfl (One.all rfl) rfl rfl) fun w100 hM1 => ?_
   clear hM
   have hM := hM1
   clear hM1
   refine RD.p rfl rfl rfl rfl (fun w' => O.assign rfl) ?_
   refine RD.nil ?_
   refine KQ.then_k ?_
   replace hM := hM.pick [0, 6, 7, 3] rfl (by decide)
   exact fun a ha => ⟨g75, A94, c95, A97, c98, y87.1.f_Proto, y87.1.f_Src, y87.1.f_Dst, y87.1.f_Seq, y87.1.f_Ack, y87.1.f_Flags, y87.1.f_Window, y87.1.f_Urgent, y87.1.f_Options, y87.1.f_Type, y87.1.f_Code, y87.1.f_Data, y87.2.1, ha.less (less_cons rfl (less_cons rfl (less_cons rfl (less_cons rfl less_nil)))), hM, hF⟩
  rintro a w123 ⟨g103, A113, c114, A119, c120, s104, s105, s106, s107, s108, s109, s110, s111, s115, s116, s117, s121, ev122, ha, hM, hF⟩
  refine KC.app ha ?_
  clear ha
  unfold F_trans_Parse_j1 at hF
  refine KC.seqH fun Q124 hQ124 => ?_
  refine sr fun Q125 hQ125 => ?_
  refine vm rfl rfl ?_
  refine RL.val (O.neq rfl rfl) rfl ?_
  refine nt hQ125 ?_
  clear hQ125 Q125
  refine KC.cond rfl (fun hc => ?_) (fun hc => ?_)
  ·rw [if_pos hc] at hF
   refine sr fun Q126 hQ126 => ?_
   refine RL.val (O.bld (cs := [v8 0, v16 0, v16 0, v32 0, v32 0, v8 0, v16 0, v16 0, .slice none 0 0, v8 0, v8 0, .slice none 0 0]) bt26 rfl (by kernel_rfl)) rfl ?_
   refine vm rfl rfl ?_
   refine RL.effs (E.stB (j := 0) (off := 0) (vs := [v8 0, v16 0, v16 0, v32 0, v32 0, v8 0, v16 0, v16 0, .slice none 0 0, v8 0, v8 0, .slice none 0 0]) (cs' := [v8 0, v16 0, v16 0, v32 0, v32 0, v8 0, v16 0, v16 0, .slice none 0 0, v8 0, v8 0, .slice none 0 0]) hM rfl sz26 rfl (adds_eq [] rfl) rfl rfl (One.all rfl) rfl rfl) fun w127 hM1 => ?_
   clear hM
   have hM := hM1
   clear hM1
   refine va rfl rfl ?_
   refine nt hQ126 ?_
   clear hQ126 Q126
   refine KC.ret ?_
   refine KQ.thr hQ124 ?_
   clear hQ124 Q124
   have hE := Option.some.inj hF
   clear hF
   subst hE
   have hb128 := hM.bx (i := 0) rfl
   replace hM := hM.nilrow 5 1
   replace hM := hM.nilrow 5 1
   replace hM := hM.pick [4, 5] rfl (by decide)
   refine KQ.rets Try.results19 (RVs.cons (RV.cN (cs := [v8 0, v16 0, v16 0, v32 0, v32 0, v8 0, v16 0, v16 0, .slice none 0 0, v8 0, v8 0, .slice none 0 0]) rfl ag26 hb128) (RVs.cons (RV.tm rfl) RVs.nil)) ?_
   exact ⟨_, rfl, none, 0, none, 0, rfl, hM⟩
  rw [if_neg (ne_true hc)] at hF
  refine KC.skip ?_
  refine KQ.thn hQ124 ?_
  clear hQ124 Q124
  refine sr fun Q129 hQ129 => ?_
  refine vm rfl rfl ?_
  refine RL.val (O.fldA fl26_0 (by decide) rfl) rfl ?_
  refine RL.effs (E.stB (j := 3) (off := 0) (vs := [v8 proto1]) (cs' := [v8 proto1, v16 s105, v16 s106, v32 s107, v32 s108, v8 s109, v16 s110, v16 s111, .slice A113 (s115).length c114, v8 s116, v8 s117, .slice A119 (s121).length c120]) hM rfl sz5 rfl (adds_eq [0] rfl) rfl rfl (One.all rfl) rfl rfl) fun w130 hM1 => ?_
  clear hM
  have hM := hM1
  clear hM1
  refine nt hQ129 ?_
  clear hQ129 Q129
  refine sr fun Q131 hQ131 => ?_
  refine RL.val (O.loadN (cs := [v8 proto1, v16 s105, v16 s106, v32 s107, v32 s108, v8 s109, v16 s110, v16 s111, .slice A113 (s115).length c114, v8 s116, v8 s117, .slice A119 (s121).length c120]) ag26 rfl (Cs.addsN [] ((hM.bx (i := 3) rfl)) rfl)) rfl ?_
  refine RL.effs (E.stB (j := 0) (off := 0) (vs := [v8 proto1, v16 s105, v16 s106, v32 s107, v32 s108, v8 s109, v16 s110, v16 s111, .slice A113 (s115).length c114, v8 s116, v8 s117, .slice A119 (s121).length c120]) (cs' := [v8 proto1, v16 s105, v16 s106, v32 s107, v32 s108, v8 s109, v16 s110, v16 s111, .slice A113 (s115).length c114, v8 s116, v8 s117, .slice A119 (s121).length c120]) hM rfl sz26 rfl (adds_eq [] rfl) rfl rfl (One.all rfl) rfl rfl) fun w132 hM1 => ?_
  clear hM
  have hM := hM1
  clear hM1
  refine va rfl rfl ?_
  refine nt hQ131 ?_
  clear hQ131 Q131
  refine KC.ret ?_
  have hE := Option.some.inj hF
  clear hF
  subst hE
  have hb133 := hM.bx (i := 0) rfl
  replace hM := hM.pick [1, 2] rfl (by decide)
  refine KQ.rets Try.results19 (RVs.cons (RV.cN (cs := [v8 proto1, v16 s105, v16 s106, v32 s107, v32 s108, v8 s109, v16 s110, v16 s111, .slice A113 (s115).length c114, v8 s116, v8 s117, .slice A119 (s121).length c120]) rfl ag26 hb133) (RVs.cons (RV.tm rfl) RVs.nil)) ?_
  exact ⟨_, rfl, A113, c114, A119, c120, rfl, hM⟩
 rw [if_neg hk17] at hF
 by_cases hk134 : (proto1 == 17) = true
 ·rw [if_pos hk134] at hF
  refine RL.val (O.lkT ((hM.mapAt (i := 1) rfl)) Try.underlying64 Try.underlying5 rfl rfl (lk_miss hk17 (lk_hit hk134))) rfl ?_
  refine vm rfl rfl ?_
  refine RL.val (O.ext rfl rfl) rfl ?_
  refine RL.val (O.ext rfl rfl) rfl ?_
  refine RL.eff (E.alloc hM ze62) rfl fun v w136 hv => ?_
  clear hM
  obtain ⟨g135, rfl, hM, hf⟩ := hv
  refine RL.effs (E.stB (j := 2) (off := 0) (vs := [vI 8, vI 6, .func (.func 52) #[] #[], .func (.func 53) #[] #[], .func (.func 54) #[] #[]]) (cs' := [vI 8, vI 6, .func (.func 52) #[] #[], .func (.func 53) #[] #[], .func (.func 54) #[] #[]]) hM rfl sz62 rfl (adds_eq [] rfl) rfl rfl (One.all rfl) rfl rfl) fun w138 hM1 => ?_
  clear hM
  have hM := hM1
  clear hM1
  refine va rfl rfl ?_
  refine nt hQ10 ?_
  clear hQ10 Q10
  refine KC.seqH fun Q139 hQ139 => ?_
  refine KC.block ?_
  refine sr fun Q140 hQ140 => ?_
  refine vm rfl rfl ?_
  refine RL.val (O.not rfl) rfl ?_
  refine va rfl rfl ?_
  refine nt hQ140 ?_
  clear hQ140 Q140
  refine KC.condF rfl ?_
  refine sr fun Q141 hQ141 => ?_
  refine vm rfl rfl ?_
  refine RL.val (O.len sl24 rfl) rfl ?_
  refine RL.val (O.fldA fl62_0 (by decide) rfl) rfl ?_
  refine RL.val (O.load sc3 rfl (Cs.adds [0] ((hM.bx (i := 2) rfl)) rfl)) rfl ?_
  refine RL.val (O.lss rfl rfl) rfl ?_
  refine va rfl rfl ?_
  refine nt hQ141 ?_
  clear hQ141 Q141
  refine KC.cond rfl (fun hc => ?_) (fun hc => ?_)
  ·rw [if_pos hc] at hF
   refine sr fun Q142 hQ142 => ?_
   refine RL.val (O.bld (cs := [v8 0, v16 0, v16 0, v32 0, v32 0, v8 0, v16 0, v16 0, .slice none 0 0, v8 0, v8 0, .slice none 0 0]) bt26 rfl (by kernel_rfl)) rfl ?_
   refine RL.effs (E.stB (j := 0) (off := 0) (vs := [v8 0, v16 0, v16 0, v32 0, v32 0, v8 0, v16 0, v16 0, .slice none 0 0, v8 0, v8 0, .slice none 0 0]) (cs' := [v8 0, v16 0, v16 0, v32 0, v32 0, v8 0, v16 0, v16 0, .slice none 0 0, v8 0, v8 0, .slice none 0 0]) hM rfl sz26 rfl (adds_eq [] rfl) rfl rfl (One.all rfl) rfl rfl) fun w143 hM1 => ?_
   clear hM
   have hM := hM1
   clear hM1
   refine va rfl rfl ?_
   refine nt hQ142 ?_
   clear hQ142 Q142
   refine KC.ret ?_
   refine KQ.blk_r ?_
   refine KQ.thr hQ139 ?_
   clear hQ139 Q139
   have hE := Option.some.inj hF
   clear hF
   subst hE
   have hb144 := hM.bx (i := 0) rfl
   replace hM := hM.nilrow 5 1
   replace hM := hM.nilrow 5 1
   replace hM := hM.pick [3, 4] rfl (by decide)
   refine KQ.rets Try.results19 (RVs.cons (RV.cN (cs := [v8 0, v16 0, v16 0, v32 0, v32 0, v8 0, v16 0, v16 0, .slice none 0 0, v8 0, v8 0, .slice none 0 0]) rfl ag26 hb144) (RVs.cons (RV.tm rfl) RVs.nil)) ?_
   exact ⟨_, rfl, none, 0, none, 0, rfl, hM⟩
  rw [if_neg (ne_true hc)] at hF
  refine sr fun Q145 hQ145 => ?_
  refine vm rfl rfl ?_
  refine RL.val (O.len sl24 rfl) rfl ?_
  refine RL.val (O.gtr rfl rfl) rfl ?_
  refine va rfl rfl ?_
  refine nt hQ145 ?_
  clear hQ145 Q145
  refine KC.cond rfl (fun hc => ?_) (fun hc => ?_)
  ·rw [if_pos hc] at hF
   refine sr fun Q146 hQ146 => ?_
   refine RL.val (O.bld (cs := [v8 0, v16 0, v16 0, v32 0, v32 0, v8 0, v16 0, v16 0, .slice none 0 0, v8 0, v8 0, .slice none 0 0]) bt26 rfl (by kernel_rfl)) rfl ?_
   refine RL.effs (E.stB (j := 0) (off := 0) (vs := [v8 0, v16 0, v16 0, v32 0, v32 0, v8 0, v16 0, v16 0, .slice none 0 0, v8 0, v8 0, .slice none 0 0]) (cs' := [v8 0, v16 0, v16 0, v32 0, v32 0, v8 0, v16 0, v16 0, .slice none 0 0, v8 0, v8 0, .slice none 0 0]) hM rfl sz26 rfl (adds_eq [] rfl) rfl rfl (One.all rfl) rfl rfl) fun w147 hM1 => ?_
   clear hM
   have hM := hM1
   clear hM1
   refine va rfl rfl ?_
   refine nt hQ146 ?_
   clear hQ146 Q146
   refine KC.ret ?_
   refine KQ.blk_r ?_
   refine KQ.thr hQ139 ?_
   clear hQ139 Q139
   have hE := Option.some.inj hF
   clear hF
   subst hE
   have hb148 := hM.bx (i := 0) rfl
   replace hM := hM.nilrow 5 1
   replace hM := hM.nilrow 5 1
   replace hM := hM.pick [3, 4] rfl (by decide)
   refine KQ.rets Try.results19 (RVs.cons (RV.cN (cs := [v8 0, v16 0, v16 0, v32 0, v32 0, v8 0, v16 0, v16 0, .slice none 0 0, v8 0, v8 0, .slice none 0 0]) rfl ag26 hb148) (RVs.cons (RV.tm rfl) RVs.nil)) ?_
   exact ⟨_, rfl, none, 0, none, 0, rfl, hM⟩
  rw [if_neg (ne_true hc)] at hF
  refine KC.skip ?_
  refine KQ.blk_n ?_
  refine KQ.thn hQ139 ?_
  clear hQ139 Q139
  refine KC.cut (fun a w240 => ∃ (g220 : Nat) (A230 : Option Addr) (c231 : Nat) (A236 : Option Addr) (c237 : Nat) (s221 : Int) (s222 : Int) (s223 : Int) (s224 : Int) (s225 : Int) (s226 : Int) (s227 : Int) (s228 : Int) (s232 : List Int) (s233 : Int) (s234 : Int) (s238 : List Int) (ev239 : Int), Kn 47 [(0, v8 proto1), (4, .pointer (some ⟨g7, 0, none⟩)), (8, .pointer (some ⟨g220, 0, none⟩)), (9, vI ev239)] a ∧ Mem w [] w240 [.box g7 26 [v8 0, v16 0, v16 0, v32 0, v32 0, v8 0, v16 0, v16 0, .slice none 0 0, v8 0, v8 0, .slice none 0 0], .row A230 c231 5 1 (s232).length ((s232).flatMap (eI .u8)), .row A236 c237 5 1 (s238).length ((s238).flatMap (eI .u8)), .box g220 26 [v8 s221, v16 s222, v16 s223, v32 s224, v32 s225, v8 s226, v16 s227, v16 s228, .slice A230 (s232).length c231, v8 s233, v8 s234, .slice A236 (s238).length c237]] ∧ F_trans_Parse_j2 proto1 s222 s223 s224 s225 s226 s227 s228 s232 s233 s234 s238 ev239 = some r) ?_ ?_
  ·replace hM := hM.drewN 1
   refine KC.draw [] [4, 9] [3, 4, 8, 9] [0, 2, 5, 6, 7, 10] (.cons 0 (.cons 1 (.cons 2 (.alt 3 (.alt 4 (.ofList [5, 6, 7, 8, 9, 10]) 8 (.ofList [4, 5, 6, 7, 9, 10])) 8 (.ofList [3, 4, 5, 6, 7, 9, 10]))))) moP (by kernel_rfl) ?_
   refine RD.p rfl rfl rfl rfl (fun w' => O.fldA fl62_4 (by decide) rfl) ?_
   refine RD.q rfl rfl rfl rfl (fun w' hf => O.load sc60 rfl (Cs.adds [4] ((hM.bx (i := 2) rfl).fut hf) rfl)) ?_
   refine RD.p rfl rfl rfl rfl (fun w' => O.move rfl) ?_
   refine RD.alt ?_ ?_
   ·refine obindE hF fun y149 hx150 hF => ?_
    refine RD.mcall rfl rfl trivial Try.func39 bd39 rfl rfl (c_bits_Read _ _ _ b2 (hM.inp hr5 Off.nil) _ hx150) fun v w151 hv => ?_
    obtain ⟨g153, A155, c156, rfl, hN152⟩ := hv
    refine ⟨fun _ => hN152.fut, ?_⟩
    replace hM := hM.call hN152
    refine RD.alt ?_ ?_
    ·refine obindE hF fun y158 hx159 hF => ?_
     refine RD.mcallv rfl rfl trivial (first := []) (captured := []) rfl Try.func54 bd54 rfl rfl (c_trans_readUDP _ _ _ y149 _ _ (hM.lent [3, 4] rfl (by decide)) _ hx159) fun v w160 hv => ?_
     obtain ⟨A162, c163, A165, c166, A168, c169, rfl, hN161⟩ := hv
     refine ⟨fun h => (by cases h), ?_⟩
     replace hM := hM.callL [3, 4] [0, 1, 2] rfl rfl (by decide) rfl hN161
     refine RD.p rfl rfl rfl rfl (fun w' => O.move rfl) ?_
     refine RD.p rfl rfl rfl rfl (fun w' => O.ext rfl rfl) ?_
     refine RD.p rfl rfl rfl rfl (fun w' => O.ext rfl rfl) ?_
     refine RD.meff rfl rfl (E.alloc hM ze26) rfl fun v w172 hv => ?_
     clear hM
     obtain ⟨g171, rfl, hM, hf⟩ := hv
     refine ⟨fun _ => hf, ?_⟩
     refine RD.meffs rfl rfl rfl (E.stB (j := 7) (off := 0) (vs := [v8 y158.1.f_Proto, v16 y158.1.f_Src, v16 y158.1.f_Dst, v32 y158.1.f_Seq, v32 y158.1.f_Ack, v8 y158.1.f_Flags, v16 y158.1.f_Window, v16 y158.1.f_Urgent, .slice A165 (y158.1.f_Options).length c166, v8 y158.1.f_Type, v8 y158.1.f_Code, .slice A168 (y158.1.f_Data).length c169]) (cs' := [v8 y158.1.f_Proto, v16 y158.1.f_Src, v16 y158.1.f_Dst, v32 y158.1.f_Seq, v32 y158.1.f_Ack, v8 y158.1.f_Flags, v16 y158.1.f_Window, v16 y158.1.f_Urgent, .slice A165 (y158.1.f_Options).length c166, v8 y158.1.f_Type, v8 y158.1.f_Code, .slice A168 (y158.1.f_Data).length c169]) hM rfl sz26 rfl (adds_eq [] rfl) rfl rfl (One.all rfl) rfl rfl) fun w174 hM1 => ?_
     clear hM
     have hM := hM1
     clear hM1
     refine RD.p rfl rfl rfl rfl (fun w' => O.assign rfl) ?_
     refine RD.nil ?_
     refine KQ.then_k ?_
     replace hM := hM.pick [0, 5, 6, 7] rfl (by decide)
     exact fun a ha => ⟨g171, A165, c166, A168, c169, y158.1.f_Proto, y158.1.f_Src, y158.1.f_Dst, y158.1.f_Seq, y158.1.f_Ack, y158.1.f_Flags, y158.1.f_Window, y158.1.f_Urgent, y158.1.f_Options, y158.1.f_Type, y158.1.f_Code, y158.1.f_Data, y158.2.1, ha.less (less_cons rfl (less_cons rfl (less_cons rfl (less_cons rfl less_nil)))), hM, hF⟩
    refine RD.meff rfl rfl (E.alloc hM ze26) rfl fun v w176 hv => ?_
    clear hM
    obtain ⟨g175, rfl, hM, hf⟩ := hv
    refine ⟨fun _ => hf, ?_⟩
    refine obindE hF fun y178 hx179 hF => ?_
    refine RD.mcallv rfl rfl trivial (first := []) (captured := []) rfl Try.func54 bd54 rfl rfl (c_trans_readUDP _ _ _ y149 _ _ (hM.lent [3, 4] rfl (by decide)) _ hx179) fun v w180 hv => ?_
    obtain ⟨A182, c183, A185, c186, A188, c189, rfl, hN181⟩ := hv
    refine ⟨fun h => (by cases h), ?_⟩
    replace hM := hM.callL [3, 4] [0, 1, 2, 5] rfl rfl (by decide) rfl hN181
    refine RD.p rfl rfl rfl rfl (fun w' => O.move rfl) ?_
    refine RD.p rfl rfl rfl rfl (fun w' => O.ext rfl rfl) ?_
    refine RD.p rfl rfl rfl rfl (fun w' => O.ext rfl rfl) ?_
    refine RD.meffs rfl rfl rfl (E.stB (j := 3) (off := 0) (vs := [v8 y178.1.f_Proto, v16 y178.1.f_Src, v16 y178.1.f_Dst, v32 y178.1.f_Seq, v32 y178.1.f_Ack, v8 y178.1.f_Flags, v16 y178.1.f_Window, v16 y178.1.f_Urgent, .slice A185 (y178.1.f_Options).length c186, v8 y178.1.f_Type, v8 y178.1.f_Code, .slice A188 (y178.1.f_Data).length c189]) (cs' := [v8 y178.1.f_Proto, v16 y178.1.f_Src, v16 y178.1.f_Dst, v32 y178.1.f_Seq, v32 y178.1.f_Ack, v8 y178.1.f_Flags, v16 y178.1.f_Window, v16 y178.1.f_Urgent, .slice A185 (y178.1.f_Options).length c186, v8 y178.1.f_Type, v8 y178.1.f_Code, .slice A188 (y178.1.f_Data).length c189]) hM rfl sz26 rfl (adds_eq [] rfl) rfl rfl (One.all rfl) rfl rfl) fun w191 hM1 => ?_
    clear hM
    have hM := hM1
    clear hM1
    refine RD.p rfl rfl rfl rfl (fun w' => O.assign rfl) ?_
    refine RD.nil ?_
    refine KQ.then_k ?_
    replace hM := hM.pick [0, 6, 7, 3] rfl (by decide)
    exact fun a ha => ⟨g175, A185, c186, A188, c189, y178.1.f_Proto, y178.1.f_Src, y178.1.f_Dst, y178.1.f_Seq, y178.1.f_Ack, y178.1.f_Flags, y178.1.f_Window, y178.1.f_Urgent, y178.1.f_Options, y178.1.f_Type, y178.1.f_Code, y178.1.f_Data, y178.2.1, ha.less (less_cons rfl (less_cons rfl (less_cons rfl (less_cons rfl less_nil)))), hM, hF⟩
   refine RD.meff rfl rfl (E.alloc hM ze26) rfl fun v w193 hv => ?_
   clear hM
   obtain ⟨g192, rfl, hM, hf⟩ := hv
   refine ⟨fun _ => hf, ?_⟩
   refine obindE hF fun y195 hx196 hF => ?_
   refine RD.mcall rfl rfl trivial Try.func39 bd39 rfl rfl (c_bits_Read _ _ _ b2 (hM.inp hr5 Off.nil) _ hx196) fun v w197 hv => ?_
   obtain ⟨g199, A201, c202, rfl, hN198⟩ := hv
   refine ⟨fun _ => hN198.fut, ?_⟩
   replace hM := hM.call hN198
   refine obindE hF fun y204 hx205 hF => ?_
   refine RD.mcallv rfl rfl trivial (first := []) (captured := []) rfl Try.func54 bd54 rfl rfl (c_trans_readUDP _ _ _ y195 _ _ (hM.lent [4, 5] rfl (by decide)) _ hx205) fun v w206 hv => ?_
   obtain ⟨A208, c209, A211, c212, A214, c215, rfl, hN207⟩ := hv
   refine ⟨fun h => (by cases h), ?_⟩
   replace hM := hM.callL [4, 5] [0, 1, 2, 3] rfl rfl (by decide) rfl hN207
   refine RD.p rfl rfl rfl rfl (fun w' => O.move rfl) ?_
   refine RD.p rfl rfl rfl rfl (fun w' => O.ext rfl rfl) ?_
   refine RD.p rfl rfl rfl rfl (fun w' => O.ext rfl rfl) ?_
   refine RD.meffs rfl rfl rfl (E.stB (j := 3) (off := 0) (vs := [v8 y204.1.f_Proto, v16 y204.1.f_Src, v16 y204.1.f_Dst, v32 y204.1.f_Seq, v32 y204.1.f_Ack, v8 y204.1.f_Flags, v16 y204.1.f_Window, v16 y204.1.f_Urgent, .slice A211 (y204.1.f_Options).length c212, v8 y204.1.f_Type, v8 y204.1.f_Code, .slice A214 (y204.1.f_Data).length c215]) (cs' := [v8 y204.1.f_Proto, v16 y204.1.f_Src, v16 y204.1.f_Dst, v32 y204.1.f_Seq, v32 y204.1.f_Ack, v8 y204.1.f_Flags, v16 y204.1.f_Window, v16 y204.1.f_Urgent, .slice A211 (y204.1.f_Options).length c212, v8 y204.1.f_Type, v8 y204.1.f_Code, .slice A214 (y204.1.f_Data).length c215]) hM rfl sz26 rfl (adds_eq [] rfl) rfl rfl (One.all rfl) rfl rfl) fun w217 hM1 => ?_
   clear hM
   have hM := hM1
   clear hM1
   refine RD.p rfl rfl rfl rfl (fun w' => O.assign rfl) ?_
   refine RD.nil ?_
   refine KQ.then_k ?_
   replace hM := hM.pick [0, 6, 7, 3] rfl (by decide)
   exact fun a ha => ⟨g192, A211, c212, A214, c215, y204.1.f_Proto, y204.1.f_Src, y204.1.f_Dst, y204.1.f_Seq, y204.1.f_Ack, y204.1.f_Flags, y204.1.f_Window, y204.1.f_Urgent, y204.1.f_Options, y204.1.f_Type, y204.1.f_Code, y204.1.f_Data, y204.2.1, ha.less (less_cons rfl (less_cons rfl (less_cons rfl (less_cons rfl less_nil)))), hM, hF⟩
  rintro a w240 ⟨g220, A230, c231, A236, c237, s221, s222, s223, s224, s225, s226, s227, s228, s232, s233, s234, s238, ev239, ha, hM, hF⟩
  refine KC.app ha ?_
  clear ha
  unfold F_trans_Parse_j2 at hF
  refine KC.seqH fun Q241 hQ241 => ?_
  refine sr fun Q242 hQ242 => ?_
  refine vm rfl rfl ?_
  refine RL.val (O.neq rfl rfl) rfl ?_
  refine nt hQ242 ?_
  clear hQ242 Q242
  refine KC.cond rfl (fun hc => ?_) (fun hc => ?_)
  ·rw [if_pos hc] at hF
   refine sr fun Q243 hQ243 => ?_
   refine RL.val (O.bld (cs := [v8 0, v16 0, v16 0, v32 0, v32 0, v8 0, v16 0, v16 0, .slice none 0 0, v8 0, v8 0, .slice none 0 0]) bt26 rfl (by kernel_rfl)) rfl ?_
   refine vm rfl rfl ?_
   refine RL.effs (E.stB (j := 0) (off := 0) (vs := [v8 0, v16 0, v16 0, v32 0, v32 0, v8 0, v16 0, v16 0, .slice none 0 0, v8 0, v8 0, .slice none 0 0]) (cs' := [v8 0, v16 0, v16 0, v32 0, v32 0, v8 0, v16 0, v16 0, .slice none 0 0, v8 0, v8 0, .slice none 0 0]) hM rfl sz26 rfl (adds_eq [] rfl) rfl rfl (One.all rfl) rfl rfl) fun w244 hM1 => ?_
   clear hM
   have hM := hM1
   clear hM1
   refine va rfl rfl ?_
   refine nt hQ243 ?_
   clear hQ243 Q243
   refine KC.ret ?_
   refine KQ.thr hQ241 ?_
   clear hQ241 Q241
   have hE := Option.some.inj hF
   clear hF
   subst hE
   have hb245 := hM.bx (i := 0) rfl
   replace hM := hM.nilrow 5 1
   replace hM := hM.nilrow 5 1
   replace hM := hM.pick [4, 5] rfl (by decide)
   refine KQ.rets Try.results19 (RVs.cons (RV.cN (cs := [v8 0, v16 0, v16 0, v32 0, v32 0, v8 0, v16 0, v16 0, .slice none 0 0, v8 0, v8 0, .slice none 0 0]) rfl ag26 hb245) (RVs.cons (RV.tm rfl) RVs.nil)) ?_
   exact ⟨_, rfl, none, 0, none, 0, rfl, hM⟩
  rw [if_neg (ne_true hc)] at hF
  refine KC.skip ?_
  refine KQ.thn hQ241 ?_
  clear hQ241 Q241
  refine sr fun Q246 hQ246 => ?_
  refine vm rfl rfl ?_
  refine RL.val (O.fldA fl26_0 (by decide) rfl) rfl ?_
  refine RL.effs (E.stB (j := 3) (off := 0) (vs := [v8 proto1]) (cs' := [v8 proto1, v16 s222, v16 s223, v32 s224, v32 s225, v8 s226, v16 s227, v16 s228, .slice A230 (s232).length c231, v8 s233, v8 s234, .slice A236 (s238).length c237]) hM rfl sz5 rfl (adds_eq [0] rfl) rfl rfl (One.all rfl) rfl rfl) fun w247 hM1 => ?_
  clear hM
  have hM := hM1
  clear hM1
  refine nt hQ246 ?_
  clear hQ246 Q246
  refine sr fun Q248 hQ248 => ?_
  refine RL.val (O.loadN (cs := [v8 proto1, v16 s222, v16 s223, v32 s224, v32 s225, v8 s226, v16 s227, v16 s228, .slice A230 (s232).length c231, v8 s233, v8 s234, .slice A236 (s238).length c237]) ag26 rfl (Cs.addsN [] ((hM.bx (i := 3) rfl)) rfl)) rfl ?_
  refine RL.effs (E.stB (j := 0) (off := 0) (vs := [v8 proto1, v16 s222, v16 s223, v32 s224, v32 s225, v8 s226, v16 s227, v16 s228, .slice A230 (s232).length c231, v8 s233, v8 s234, .slice A236 (s238).length c237]) (cs' := [v8 proto1, v16 s222, v16 s223, v32 s224, v32 s225, v8 s226, v16 s227, v16 s228, .slice A230 (s232).length c231, v8 s233, v8 s234, .slice A236 (s238).length c237]) hM rfl sz26 rfl (adds_eq [] rfl) rfl rfl (One.all rfl) rfl rfl) fun w249 hM1 => ?_
  clear hM
  have hM := hM1
  clear hM1
  refine va rfl rfl ?_
  refine nt hQ248 ?_
  clear hQ248 Q248
  refine KC.ret ?_
  have hE := Option.some.inj hF
  clear hF
  subst hE
  have hb250 := hM.bx (i := 0) rfl
  replace hM := hM.pick [1, 2] rfl (by decide)
  refine KQ.rets Try.results19 (RVs.cons (RV.cN (cs := [v8 proto1, v16 s222, v16 s223, v32 s224, v32 s225, v8 s226, v16 s227, v16 s228, .slice A230 (s232).length c231, v8 s233, v8 s234, .slice A236 (s238).length c237]) rfl ag26 hb250) (RVs.cons (RV.tm rfl) RVs.nil)) ?_
  exact ⟨_, rfl, A230, c231, A236, c237, rfl, hM⟩
 rw [if_neg hk134] at hF
 by_cases hk251 : (proto1 == 1) = true
 ·rw [if_pos hk251] at hF
  refine RL.val (O.lkT ((hM.mapAt (i := 1) rfl)) Try.underlying64 Try.underlying5 rfl rfl (lk_miss hk17 (lk_miss hk134 (lk_hit hk251)))) rfl ?_
  refine vm rfl rfl ?_
  refine RL.val (O.ext rfl rfl) rfl ?_
  refine RL.val (O.ext rfl rfl) rfl ?_
  refine RL.eff (E.alloc hM ze62) rfl fun v w253 hv => ?_
  clear hM
  obtain ⟨g252, rfl, hM, hf⟩ := hv
  refine RL.effs (E.stB (j := 2) (off := 0) (vs := [vI 4, vI 2, .func (.func 46) #[] #[], .func (.func 47) #[] #[], .func (.func 48) #[] #[]]) (cs' := [vI 4, vI 2, .func (.func 46) #[] #[], .func (.func 47) #[] #[], .func (.func 48) #[] #[]]) hM rfl sz62 rfl (adds_eq [] rfl) rfl rfl (One.all rfl) rfl rfl) fun w255 hM1 => ?_
  clear hM
  have hM := hM1
  clear hM1
  refine va rfl rfl ?_
  refine nt hQ10 ?_
  clear hQ10 Q10
  refine KC.seqH fun Q256 hQ256 => ?_
  refine KC.block ?_
  refine sr fun Q257 hQ257 => ?_
  refine vm rfl rfl ?_
  refine RL.val (O.not rfl) rfl ?_
  refine va rfl rfl ?_
  refine nt hQ257 ?_
  clear hQ257 Q257
  refine KC.condF rfl ?_
  refine sr fun Q258 hQ258 => ?_
  refine vm rfl rfl ?_
  refine RL.val (O.len sl24 rfl) rfl ?_
  refine RL.val (O.fldA fl62_0 (by decide) rfl) rfl ?_
  refine RL.val (O.load sc3 rfl (Cs.adds [0] ((hM.bx (i := 2) rfl)) rfl)) rfl ?_
  refine RL.val (O.lss rfl rfl) rfl ?_
  refine va rfl rfl ?_
  refine nt hQ258 ?_
  clear hQ258 Q258
  refine KC.cond rfl (fun hc => ?_) (fun hc => ?_)
  ·rw [if_pos hc] at hF
   refine sr fun Q259 hQ259 => ?_
   refine RL.val (O.bld (cs := [v8 0, v16 0, v16 0, v32 0, v32 0, v8 0, v16 0, v16 0, .slice none 0 0, v8 0, v8 0, .slice none 0 0]) bt26 rfl (by kernel_rfl)) rfl ?_
   refine RL.effs (E.stB (j := 0) (off := 0) (vs := [v8 0, v16 0, v16 0, v32 0, v32 0, v8 0, v16 0, v16 0, .slice none 0 0, v8 0, v8 0, .slice none 0 0]) (cs' := [v8 0, v16 0, v16 0, v32 0, v32 0, v8 0, v16 0, v16 0, .slice none 0 0, v8 0, v8 0, .slice none 0 0]) hM rfl sz26 rfl (adds_eq [] rfl) rfl rfl (One.all rfl) rfl rfl) fun w260 hM1 => ?_
   clear hM
   have hM := hM1
   clear hM1
   refine va rfl rfl ?_
   refine nt hQ259 ?_
   clear hQ259 Q259
   refine KC.ret ?_
   refine KQ.blk_r ?_
   refine KQ.thr hQ256 ?_
   clear hQ256 Q256
   have hE := Option.some.inj hF
   clear hF
   subst hE
   have hb261 := hM.bx (i := 0) rfl
   replace hM := hM.nilrow 5 1
   replace hM := hM.nilrow 5 1
   replace hM := hM.pick [3, 4] rfl (by decide)
   refine KQ.rets Try.results19 (RVs.cons (RV.cN (cs := [v8 0, v16 0, v16 0, v32 0, v32 0, v8 0, v16 0, v16 0, .slice none 0 0, v8 0, v8 0, .slice none 0 0]) rfl ag26 hb261) (RVs.cons (RV.tm rfl) RVs.nil)) ?_
   exact ⟨_, rfl, none, 0, none, 0, rfl, hM⟩
  rw [if_neg (ne_true hc)] at hF
  refine sr fun Q262 hQ262 => ?_
  refine vm rfl rfl ?_
  refine RL.val (O.len sl24 rfl) rfl ?_
  refine RL.val (O.gtr rfl rfl) rfl ?_
  refine va rfl rfl ?_
  refine nt hQ262 ?_
  clear hQ262 Q262
  refine KC.cond rfl (fun hc => ?_) (fun hc => ?_)
  ·rw [if_pos hc] at hF
   refine sr fun Q263 hQ263 => ?_
   refine RL.val (O.bld (cs := [v8 0, v16 0, v16 0, v32 0, v32 0, v8 0, v16 0, v16 0, .slice none 0 0, v8 0, v8 0, .slice none 0 0]) bt26 rfl (by kernel_rfl)) rfl ?_
   refine RL.effs (E.stB (j := 0) (off := 0) (vs := [v8 0, v16 0, v16 0, v32 0, v32 0, v8 0, v16 0, v16 0, .slice none 0 0, v8 0, v8 0, .slice none 0 0]) (cs' := [v8 0, v16 0, v16 0, v32 0, v32 0, v8 0, v16 0, v16 0, .slice none 0 0, v8 0, v8 0, .slice none 0 0]) hM rfl sz26 rfl (adds_eq [] rfl) rfl rfl (One.all rfl) rfl rfl) fun w264 hM1 => ?_
   clear hM
   have hM := hM1
   clear hM1
   refine va rfl rfl ?_
   refine nt hQ263 ?_
   clear hQ263 Q263
   refine KC.ret ?_
   refine KQ.blk_r ?_
   refine KQ.thr hQ256 ?_
   clear hQ256 Q256
   have hE := Option.some.inj hF
   clear hF
   subst hE
   have hb265 := hM.bx (i := 0) rfl
   replace hM := hM.nilrow 5 1
   replace hM := hM.nilrow 5 1
   replace hM := hM.pick [3, 4] rfl (by decide)
   refine KQ.rets Try.results19 (RVs.cons (RV.cN (cs := [v8 0, v16 0, v16 0, v32 0, v32 0, v8 0, v16 0, v16 0, .slice none 0 0, v8 0, v8 0, .slice none 0 0]) rfl ag26 hb265) (RVs.cons (RV.tm rfl) RVs.nil)) ?_
   exact ⟨_, rfl, none, 0, none, 0, rfl, hM⟩
  rw [if_neg (ne_true hc)] at hF
  refine KC.skip ?_
  refine KQ.blk_n ?_
  refine KQ.thn hQ256 ?_
  clear hQ256 Q256
  refine KC.cut (fun a w357 => ∃ (g337 : Nat) (A347 : Option Addr) (c348 : Nat) (A353 : Option Addr) (c354 : Nat) (s338 : Int) (s339 : Int) (s340 : Int) (s341 : Int) (s342 : Int) (s343 : Int) (s344 : Int) (s345 : Int) (s349 : List Int) (s350 : Int) (s351 : Int) (s355 : List Int) (ev356 : Int), Kn 47 [(0, v8 proto1), (4, .pointer (some ⟨g7, 0, none⟩)), (8, .pointer (some ⟨g337, 0, none⟩)), (9, vI ev356)] a ∧ Mem w [] w357 [.box g7 26 [v8 0, v16 0, v16 0, v32 0, v32 0, v8 0, v16 0, v16 0, .slice none 0 0, v8 0, v8 0, .slice none 0 0], .row A347 c348 5 1 (s349).length ((s349).flatMap (eI .u8)), .row A353 c354 5 1 (s355).length ((s355).flatMap (eI .u8)), .box g337 26 [v8 s338, v16 s339, v16 s340, v32 s341, v32 s342, v8 s343, v16 s344, v16 s345, .slice A347 (s349).length c348, v8 s350, v8 s351, .slice A353 (s355).length c354]] ∧ F_trans_Parse_j3 proto1 s339 s340 s341 s342 s343 s344 s345 s349 s350 s351 s355 ev356 = some r) ?_ ?_
  ·replace hM := hM.drewN 1
   refine KC.draw [] [4, 9] [3, 4, 8, 9] [0, 2, 5, 6, 7, 10] (.cons 0 (.cons 1 (.cons 2 (.alt 3 (.alt 4 (.ofList [5, 6, 7, 8, 9, 10]) 8 (.ofList [4, 5, 6, 7, 9, 10])) 8 (.ofList [3, 4, 5, 6, 7, 9, 10]))))) moP (by kernel_rfl) ?_
   refine RD.p rfl rfl rfl rfl (fun w' => O.fldA fl62_4 (by decide) rfl) ?_
   refine RD.q rfl rfl rfl rfl (fun w' hf => O.load sc60 rfl (Cs.adds [4] ((hM.bx (i := 2) rfl).fut hf) rfl)) ?_
   refine RD.p rfl rfl rfl rfl (fun w' => O.move rfl) ?_
   refine RD.alt ?_ ?_
   ·refine obindE hF fun y266 hx267 hF => ?_
    refine RD.mcall rfl rfl trivial Try.func39 bd39 rfl rfl (c_bits_Read _ _ _ b2 (hM.inp hr5 Off.nil) _ hx267) fun v w268 hv => ?_
    obtain ⟨g270, A272, c273, rfl, hN269⟩ := hv
    refine ⟨fun _ => hN269.fut, ?_⟩
    replace hM := hM.call hN269
    refine RD.alt ?_ ?_
    ·refine obindE hF fun y275 hx276 hF => ?_
     refine RD.mcallv rfl rfl trivial (first := []) (captured := []) rfl Try.func48 bd48 rfl rfl (c_trans_readICMP _ _ _ y266 _ _ (hM.lent [3, 4] rfl (by decide)) _ hx276) fun v w277 hv => ?_
     obtain ⟨A279, c280, A282, c283, A285, c286, rfl, hN278⟩ := hv
     refine ⟨fun h => (by cases h), ?_⟩
     replace hM := hM.callL [3, 4] [0, 1, 2] rfl rfl (by decide) rfl hN278
     refine RD.p rfl rfl rfl rfl (fun w' => O.move rfl) ?_
     refine RD.p rfl rfl rfl rfl (fun w' => O.ext rfl rfl) ?_
     refine RD.p rfl rfl rfl rfl (fun w' => O.ext rfl rfl) ?_
     refine RD.meff rfl rfl (E.alloc hM ze26) rfl fun v w289 hv => ?_
     clear hM
     obtain ⟨g288, rfl, hM, hf⟩ := hv
     refine ⟨fun _ => hf, ?_⟩
     refine RD.meffs rfl rfl rfl (E.stB (j := 7) (off := 0) (vs := [v8 y275.1.f_Proto, v16 y275.1.f_Src, v16 y275.1.f_Dst, v32 y275.1.f_Seq, v32 y275.1.f_Ack, v8 y275.1.f_Flags, v16 y275.1.f_Window, v16 y275.1.f_Urgent, .slice A282 (y275.1.f_Options).length c283, v8 y275.1.f_Type, v8 y275.1.f_Code, .slice A285 (y275.1.f_Data).length c286]) (cs' := [v8 y275.1.f_Proto, v16 y275.1.f_Src, v16 y275.1.f_Dst, v32 y275.1.f_Seq, v32 y275.1.f_Ack, v8 y275.1.f_Flags, v16 y275.1.f_Window, v16 y275.1.f_Urgent, .slice A282 (y275.1.f_Options).length c283, v8 y275.1.f_Type, v8 y275.1.f_Code, .slice A285 (y275.1.f_Data).length c286]) hM rfl sz26 rfl (adds_eq [] rfl) rfl rfl (One.all rfl) rfl rfl) fun w291 hM1 => ?_
     clear hM
     have hM := hM1
     clear hM1
     refine RD.p rfl rfl rfl rfl (fun w' => O.assign rfl) ?_
     refine RD.nil ?_
     refine KQ.then_k ?_
     replace hM := hM.pick [0, 5, 6, 7] rfl (by decide)
     exact fun a ha => ⟨g288, A282, c283, A285, c286, y275.1.f_Proto, y275.1.f_Src, y275.1.f_Dst, y275.1.f_Seq, y275.1.f_Ack, y275.1.f_Flags, y275.1.f_Window, y275.1.f_Urgent, y275.1.f_Options, y275.1.f_Type, y275.1.f_Code, y275.1.f_Data, y275.2.1, ha.less (less_cons rfl (less_cons rfl (less_cons rfl (less_cons rfl less_nil)))), hM, hF⟩
    refine RD.meff rfl rfl (E.alloc hM ze26) rfl fun v w293 hv => ?_
    clear hM
    obtain ⟨g292, rfl, hM, hf⟩ := hv
    refine ⟨fun _ => hf, ?_⟩
    refine obindE hF fun y295 hx296 hF => ?_
    refine RD.mcallv rfl rfl trivial (first := []) (captured := []) rfl Try.func48 bd48 rfl rfl (c_trans_readICMP _ _ _ y266 _ _ (hM.lent [3, 4] rfl (by decide)) _ hx296) fun v w297 hv => ?_
    obtain ⟨A299, c300, A302, c303, A305, c306, rfl, hN298⟩ := hv
    refine ⟨fun h => (by cases h), ?_⟩
    replace hM := hM.callL [3, 4] [0, 1, 2, 5] rfl rfl (by decide) rfl hN298
    refine RD.p rfl rfl rfl rfl (fun w' => O.move rfl) ?_
    refine RD.p rfl rfl rfl rfl (fun w' => O.ext rfl rfl) ?_
    refine RD.p rfl rfl rfl rfl (fun w' => O.ext rfl rfl) ?_
    refine RD.meffs rfl rfl rfl (E.stB (j := 3) (off := 0) (vs := [v8 y295.1.f_Proto, v16 y295.1.f_Src, v16 y295.1.f_Dst, v32 y295.1.f_Seq, v32 y295.1.f_Ack, v8 y295.1.f_Flags, v16 y295.1.f_Window, v16 y295.1.f_Urgent, .slice A302 (y295.1.f_Options).length c303, v8 y295.1.f_Type, v8 y295.1.f_Code, .slice A305 (y295.1.f_Data).length c306]) (cs' := [v8 y295.1.f_Proto, v16 y295.1.f_Src, v16 y295.1.f_Dst, v32 y295.1.f_Seq, v32 y295.1.f_Ack, v8 y295.1.f_Flags, v16 y295.1.f_Window, v16 y295.1.f_Urgent, .slice A302 (y295.1.f_Options).length c303, v8 y295.1.f_Type, v8 y295.1.f_Code, .slice A305 (y295.1.f_Data).length c306]) hM rfl sz26 rfl (adds_eq [] rfl) rfl rfl (One.all rfl) rfl rfl) fun w308 hM1 => ?_
    clear hM
    have hM := hM1
    clear hM1
    refine RD.p rfl rfl rfl rfl (fun w' => O.assign rfl) ?_
    refine RD.nil ?_
    refine KQ.then_k ?_
    replace hM := hM.pick [0, 6, 7, 3] rfl (by decide)
    exact fun a ha => ⟨g292, A302, c303, A305, c306, y295.1.f_Proto, y295.1.f_Src, y295.1.f_Dst, y295.1.f_Seq, y295.1.f_Ack, y295.1.f_Flags, y295.1.f_Window, y295.1.f_Urgent, y295.1.f_Options, y295.1.f_Type, y295.1.f_Code, y295.1.f_Data, y295.2.1, ha.less (less_cons rfl (less_cons rfl (less_cons rfl (less_cons rfl less_nil)))), hM, hF⟩
   refine RD.meff rfl rfl (E.alloc hM ze26) rfl fun v w310 hv => ?_
   clear hM
   obtain ⟨g309, rfl, hM, hf⟩ := hv
   refine ⟨fun _ => hf, ?_⟩
   refine obindE hF fun y312 hx313 hF => ?_
   refine RD.mcall rfl rfl trivial Try.func39 bd39 rfl rfl (c_bits_Read _ _ _ b2 (hM.inp hr5 Off.nil) _ hx313) fun v w314 hv => ?_
   obtain ⟨g316, A318, c319, rfl, hN315⟩ := hv
   refine ⟨fun _ => hN315.fut, ?_⟩
   replace hM := hM.call hN315
   refine obindE hF fun y321 hx322 hF => ?_
   refine RD.mcallv rfl rfl trivial (first := []) (captured := []) rfl Try.func48 bd48 rfl rfl (c_trans_readICMP _ _ _ y312 _ _ (hM.lent [4, 5] rfl (by decide)) _ hx322) fun v w323 hv => ?_
   obtain ⟨A325, c326, A328, c329, A331, c332, rfl, hN324⟩ := hv
   refine ⟨fun h => (by cases h), ?_⟩
   replace hM := hM.callL [4, 5] [0, 1, 2, 3] rfl rfl (by decide) rfl hN324
   refine RD.p rfl rfl rfl rfl (fun w' => O.move rfl) ?_
   refine RD.p rfl rfl rfl rfl (fun w' => O.ext rfl rfl) ?_
   refine RD.p rfl rfl rfl rfl (fun w' => O.ext rfl rfl) ?_
   refine RD.meffs rfl rfl rfl (E.stB (j := 3) (off := 0) (vs := [v8 y321.1.f_Proto, v16 y321.1.f_Src, v16 y321.1.f_Dst, v32 y321.1.f_Seq, v32 y321.1.f_Ack, v8 y321.1.f_Flags, v16 y321.1.f_Window, v16 y321.1.f_Urgent, .slice A328 (y321.1.f_Options).length c329, v8 y321.1.f_Type, v8 y321.1.f_Code, .slice A331 (y321.1.f_Data).length c332]) (cs' := [v8 y321.1.f_Proto, v16 y321.1.f_Src, v16 y321.1.f_Dst, v32 y321.1.f_Seq, v32 y321.1.f_Ack, v8 y321.1.f_Flags, v16 y321.1.f_Window, v16 y321.1.f_Urgent, .slice A328 (y321.1.f_Options).length c329, v8 y321.1.f_Type, v8 y321.1.f_Code, .slice A331 (y321.1.f_Data).length c332]) hM rfl sz26 rfl (adds_eq [] rfl) rfl rfl (One.all rfl) rfl rfl) fun w334 hM1 => ?_
   clear hM
   have hM := hM1
   clear hM1
   refine RD.p rfl rfl rfl rfl (fun w' => O.assign rfl) ?_
   refine RD.nil ?_
   refine KQ.then_k ?_
   replace hM := hM.pick [0, 6, 7, 3] rfl (by decide)
   exact fun a ha => ⟨g309, A328, c329, A331, c332, y321.1.f_Proto, y321.1.f_Src, y321.1.f_Dst, y321.1.f_Seq, y321.1.f_Ack, y321.1.f_Flags, y321.1.f_Window, y321.1.f_Urgent, y321.1.f_Options, y321.1.f_Type, y321.1.f_Code, y321.1.f_Data, y321.2.1, ha.less (less_cons rfl (less_cons rfl (less_cons rfl (less_cons rfl less_nil)))), hM, hF⟩
  rintro a w357 ⟨g337, A347, c348, A353, c354, s338, s339, s340, s341, s342, s343, s344, s345, s349, s350, s351, s355, ev356, ha, hM, hF⟩
  refine KC.app ha ?_
  clear ha
  unfold F_trans_Parse_j3 at hF
  refine KC.seqH fun Q358 hQ358 => ?_
  refine sr fun Q359 hQ359 => ?_
  refine vm rfl rfl ?_
  refine RL.val (O.neq rfl rfl) rfl ?_
  refine nt hQ359 ?_
  clear hQ359 Q359
  refine KC.cond rfl (fun hc => ?_) (fun hc => ?_)
  ·rw [if_pos hc] at hF
   refine sr fun Q360 hQ360 => ?_
   refine RL.val (O.bld (cs := [v8 0, v16 0, v16 0, v32 0, v32 0, v8 0, v16 0, v16 0, .slice none 0 0, v8 0, v8 0, .slice none 0 0]) bt26 rfl (by kernel_rfl)) rfl ?_
   refine vm rfl rfl ?_
   refine RL.effs (E.stB (j := 0) (off := 0) (vs := [v8 0, v16 0, v16 0, v32 0, v32 0, v8 0, v16 0, v16 0, .slice none 0 0, v8 0, v8 0, .slice none 0 0]) (cs' := [v8 0, v16 0, v16 0, v32 0, v32 0, v8 0, v16 0, v16 0, .slice none 0 0, v8 0, v8 0, .slice none 0 0]) hM rfl sz26 rfl (adds_eq [] rfl) rfl rfl (One.all rfl) rfl rfl) fun w361 hM1 => ?_
   clear hM
   have hM := hM1
   clear hM1
   refine va rfl rfl ?_
   refine nt hQ360 ?_
   clear hQ360 Q360
   refine KC.ret ?_
   refine KQ.thr hQ358 ?_
   clear hQ358 Q358
   have hE := Option.some.inj hF
   clear hF
   subst hE
   have hb362 := hM.bx (i := 0) rfl
   replace hM := hM.nilrow 5 1
   replace hM := hM.nilrow 5 1
   replace hM := hM.pick [4, 5] rfl (by decide)
   refine KQ.rets Try.results19 (RVs.cons (RV.cN (cs := [v8 0, v16 0, v16 0, v32 0, v32 0, v8 0, v16 0, v16 0, .slice none 0 0, v8 0, v8 0, .slice none 0 0]) rfl ag26 hb362) (RVs.cons (RV.tm rfl) RVs.nil)) ?_
   exact ⟨_, rfl, none, 0, none, 0, rfl, hM⟩
  rw [if_neg (ne_true hc)] at hF
  refine KC.skip ?_
  refine KQ.thn hQ358 ?_
  clear hQ358 Q358
  refine sr fun Q363 hQ363 => ?_
  refine vm rfl rfl ?_
  refine RL.val (O.fldA fl26_0 (by decide) rfl) rfl ?_
  refine RL.effs (E.stB (j := 3) (off := 0) (vs := [v8 proto1]) (cs' := [v8 proto1, v16 s339, v16 s340, v32 s341, v32 s342, v8 s343, v16 s344, v16 s345, .slice A347 (s349).length c348, v8 s350, v8 s351, .slice A353 (s355).length c354]) hM rfl sz5 rfl (adds_eq [0] rfl) rfl rfl (One.all rfl) rfl rfl) fun w364 hM1 => ?_
  clear hM
  have hM := hM1
  clear hM1
  refine nt hQ363 ?_
  clear hQ363 Q363
  refine sr fun Q365 hQ365 => ?_
  refine RL.val (O.loadN (cs := [v8 proto1, v16 s339, v16 s340, v32 s341, v32 s342, v8 s343, v16 s344, v16 s345, .slice A347 (s349).length c348, v8 s350, v8 s351, .slice A353 (s355).length c354]) ag26 rfl (Cs.addsN [] ((hM.bx (i := 3) rfl)) rfl)) rfl ?_
  refine RL.effs (E.stB (j := 0) (off := 0) (vs := [v8 proto1, v16 s339, v16 s340, v32 s341, v32 s342, v8 s343, v16 s344, v16 s345, .slice A347 (s349).length c348, v8 s350, v8 s351, .slice A353 (s355).length c354]) (cs' := [v8 proto1, v16 s339, v16 s340, v32 s341, v32 s342, v8 s343, v16 s344, v16 s345, .slice A347 (s349).length c348, v8 s350, v8 s351, .slice A353 (s355).length c354]) hM rfl sz26 rfl (adds_eq [] rfl) rfl rfl (One.all rfl) rfl rfl) fun w366 hM1 => ?_
  clear hM
  have hM := hM1
  clear hM1
  refine va rfl rfl ?_
  refine nt hQ365 ?_
  clear hQ365 Q365
  refine KC.ret ?_
  have hE := Option.some.inj hF
  clear hF
  subst hE
  have hb367 := hM.bx (i := 0) rfl
  replace hM := hM.pick [1, 2] rfl (by decide)
  refine KQ.rets Try.results19 (RVs.cons (RV.cN (cs := [v8 proto1, v16 s339, v16 s340, v32 s341, v32 s342, v8 s343, v16 s344, v16 s345, .slice A347 (s349).length c348, v8 s350, v8 s351, .slice A353 (s355).length c354]) rfl ag26 hb367) (RVs.cons (RV.tm rfl) RVs.nil)) ?_
  exact ⟨_, rfl, A347, c348, A353, c354, rfl, hM⟩
 rw [if_neg hk251] at hF
 by_cases hk368 : (proto1 == 58) = true
 ·rw [if_pos hk368] at hF
  refine RL.val (O.lkT ((hM.mapAt (i := 1) rfl)) Try.underlying64 Try.underlying5 rfl rfl (lk_miss hk17 (lk_miss hk134 (lk_miss hk251 (lk_hit hk368))))) rfl ?_
  refine vm rfl rfl ?_
  refine RL.val (O.ext rfl rfl) rfl ?_
  refine RL.val (O.ext rfl rfl) rfl ?_
  refine RL.eff (E.alloc hM ze62) rfl fun v w370 hv => ?_
  clear hM
  obtain ⟨g369, rfl, hM, hf⟩ := hv
  refine RL.effs (E.stB (j := 2) (off := 0) (vs := [vI 4, vI 2, .func (.func 46) #[] #[], .func (.func 47) #[] #[], .func (.func 48) #[] #[]]) (cs' := [vI 4, vI 2, .func (.func 46) #[] #[], .func (.func 47) #[] #[], .func (.func 48) #[] #[]]) hM rfl sz62 rfl (adds_eq [] rfl) rfl rfl (One.all rfl) rfl rfl) fun w372 hM1 => ?_
  clear hM
  have hM := hM1
  clear hM1
  refine va rfl rfl ?_
  refine nt hQ10 ?_
  clear hQ10 Q10
  refine KC.seqH fun Q373 hQ373 => ?_
  refine KC.block ?_
  refine sr fun Q374 hQ374 => ?_
  refine vm rfl rfl ?_
  refine RL.val (O.not rfl) rfl ?_
  refine va rfl rfl ?_
  refine nt hQ374 ?_
  clear hQ374 Q374
  refine KC.condF rfl ?_
  refine sr fun Q375 hQ375 => ?_
  refine vm rfl rfl ?_
  refine RL.val (O.len sl24 rfl) rfl ?_
  refine RL.val (O.fldA fl62_0 (by decide) rfl) rfl ?_
  refine RL.val (O.load sc3 rfl (Cs.adds [0] ((hM.bx (i := 2) rfl)) rfl)) rfl ?_
  refine RL.val (O.lss rfl rfl) rfl ?_
  refine va rfl rfl ?_
  refine nt hQ375 ?_
  clear hQ375 Q375
  refine KC.cond rfl (fun hc => ?_) (fun hc => ?_)
  ·rw [if_pos hc] at hF
   refine sr fun Q376 hQ376 => ?_
   refine RL.val (O.bld (cs := [v8 0, v16 0, v16 0, v32 0, v32 0, v8 0, v16 0, v16 0, .slice none 0 0, v8 0, v8 0, .slice none 0 0]) bt26 rfl (by kernel_rfl)) rfl ?_
   refine RL.effs (E.stB (j := 0) (off := 0) (vs := [v8 0, v16 0, v16 0, v32 0, v32 0, v8 0, v16 0, v16 0, .slice none 0 0, v8 0, v8 0, .slice none 0 0]) (cs' := [v8 0, v16 0, v16 0, v32 0, v32 0, v8 0, v16 0, v16 0, .slice none 0 0, v8 0, v8 0, .slice none 0 0]) hM rfl sz26 rfl (adds_eq [] rfl) rfl rfl (One.all rfl) rfl rfl) fun w377 hM1 => ?_
   clear hM
   have hM := hM1
   clear hM1
   refine va rfl rfl ?_
   refine nt hQ376 ?_
   clear hQ376 Q376
   refine KC.ret ?_
   refine KQ.blk_r ?_
   refine KQ.thr hQ373 ?_
   clear hQ373 Q373
   have hE := Option.some.inj hF
   clear hF
   subst hE
   have hb378 := hM.bx (i := 0) rfl
   replace hM := hM.nilrow 5 1
   replace hM := hM.nilrow 5 1
   replace hM := hM.pick [3, 4] rfl (by decide)
   refine KQ.rets Try.results19 (RVs.cons (RV.cN (cs := [v8 0, v16 0, v16 0, v32 0, v32 0, v8 0, v16 0, v16 0, .slice none 0 0, v8 0, v8 0, .slice none 0 0]) rfl ag26 hb378) (RVs.cons (RV.tm rfl) RVs.nil)) ?_
   exact ⟨_, rfl, none, 0, none, 0, rfl, hM⟩
  rw [if_neg (ne_true hc)] at hF
  refine sr fun Q379 hQ379 => ?_
  refine vm rfl rfl ?_
  refine RL.val (O.len sl24 rfl) rfl ?_
  refine RL.val (O.gtr rfl rfl) rfl ?_
  refine va rfl rfl ?_
  refine nt hQ379 ?_
  clear hQ379 Q379
  refine KC.cond rfl (fun hc => ?_) (fun hc => ?_)
  ·rw [if_pos hc] at hF
   refine sr fun Q380 hQ380 => ?_
   refine RL.val (O.bld (cs := [v8 0, v16 0, v16 0, v32 0, v32 0, v8 0, v16 0, v16 0, .slice none 0 0, v8 0, v8 0, .slice none 0 0]) bt26 rfl (by kernel_rfl)) rfl ?_
   refine RL.effs (E.stB (j := 0) (off := 0) (vs := [v8 0, v16 0, v16 0, v32 0, v32 0, v8 0, v16 0, v16 0, .slice none 0 0, v8 0, v8 0, .slice none 0 0]) (cs' := [v8 0, v16 0, v16 0, v32 0, v32 0, v8 0, v16 0, v16 0, .slice none 0 0, v8 0, v8 0, .slice none 0 0]) hM rfl sz26 rfl (adds_eq [] rfl) rfl rfl (One.all rfl) rfl rfl) fun w381 hM1 => ?_
   clear hM
   have hM := hM1
   clear hM1
   refine va rfl rfl ?_
   refine nt hQ380 ?_
   clear hQ380 Q380
   refine KC.ret ?_
   refine KQ.blk_r ?_
   refine KQ.thr hQ373 ?_
   clear hQ373 Q373
   have hE := Option.some.inj hF
   clear hF
   subst hE
   have hb382 := hM.bx (i := 0) rfl
   replace hM := hM.nilrow 5 1
   replace hM := hM.nilrow 5 1
   replace hM := hM.pick [3, 4] rfl (by decide)
   refine KQ.rets Try.results19 (RVs.cons (RV.cN (cs := [v8 0, v16 0, v16 0, v32 0, v32 0, v8 0, v16 0, v16 0, .slice none 0 0, v8 0, v8 0, .slice none 0 0]) rfl ag26 hb382) (RVs.cons (RV.tm rfl) RVs.nil)) ?_
   exact ⟨_, rfl, none, 0, none, 0, rfl, hM⟩
  rw [if_neg (ne_true hc)] at hF
  refine KC.skip ?_
  refine KQ.blk_n ?_
  refine KQ.thn hQ373 ?_
  clear hQ373 Q373
  refine KC.cut (fun a w474 => ∃ (g454 : Nat) (A464 : Option Addr) (c465 : Nat) (A470 : Option Addr) (c471 : Nat) (s455 : Int) (s456 : Int) (s457 : Int) (s458 : Int) (s459 : Int) (s460 : Int) (s461 : Int) (s462 : Int) (s466 : List Int) (s467 : Int) (s468 : Int) (s472 : List Int) (ev473 : Int), Kn 47 [(0, v8 proto1), (4, .pointer (some ⟨g7, 0, none⟩)), (8, .pointer (some ⟨g454, 0, none⟩)), (9, vI ev473)] a ∧ Mem w [] w474 [.box g7 26 [v8 0, v16 0, v16 0, v32 0, v32 0, v8 0, v16 0, v16 0, .slice none 0 0, v8 0, v8 0, .slice none 0 0], .row A464 c465 5 1 (s466).length ((s466).flatMap (eI .u8)), .row A470 c471 5 1 (s472).length ((s472).flatMap (eI .u8)), .box g454 26 [v8 s455, v16 s456, v16 s457, v32 s458, v32 s459, v8 s460, v16 s461, v16 s462, .slice A464 (s466).length c465, v8 s467, v8 s468, .slice A470 (s472).length c471]] ∧ F_trans_Parse_j4 proto1 s456 s457 s458 s459 s460 s461 s462 s466 s467 s468 s472 ev473 = some r) ?_ ?_
  ·replace hM := hM.drewN 1
   refine KC.draw [] [4, 9] [3, 4, 8, 9] [0, 2, 5, 6, 7, 10] (.cons 0 (.cons 1 (.cons 2 (.alt 3 (.alt 4 (.ofList [5, 6, 7, 8, 9, 10]) 8 (.ofList [4, 5, 6, 7, 9, 10])) 8 (.ofList [3, 4, 5, 6, 7, 9, 10]))))) moP (by kernel_rfl) ?_
   refine RD.p rfl rfl rfl rfl (fun w' => O.fldA fl62_4 (by decide) rfl) ?_
   refine RD.q rfl rfl rfl rfl (fun w' hf => O.load sc60 rfl (Cs.adds [4] ((hM.bx (i := 2) rfl).fut hf) rfl)) ?_
   refine RD.p rfl rfl rfl rfl (fun w' => O.move rfl) ?_
   refine RD.alt ?_ ?_
   ·refine obindE hF fun y383 hx384 hF => ?_
    refine RD.mcall rfl rfl trivial Try.func39 bd39 rfl rfl (c_bits_Read _ _ _ b2 (hM.inp hr5 Off.nil) _ hx384) fun v w385 hv => ?_
    obtain ⟨g387, A389, c390, rfl, hN386⟩ := hv
    refine ⟨fun _ => hN386.fut, ?_⟩
    replace hM := hM.call hN386
    refine RD.alt ?_ ?_
    ·refine obindE hF fun y392 hx393 hF => ?_
     refine RD.mcallv rfl rfl trivial (first := []) (captured := []) rfl Try.func48 bd48 rfl rfl (c_trans_readICMP _ _ _ y383 _ _ (hM.lent [3, 4] rfl (by decide)) _ hx393) fun v w394 hv => ?_
     obtain ⟨A396, c397, A399, c400, A402, c403, rfl, hN395⟩ := hv
     refine ⟨fun h => (by cases h), ?_⟩
     replace hM := hM.callL [3, 4] [0, 1, 2] rfl rfl (by decide) rfl hN395
     refine RD.p rfl rfl rfl rfl (fun w' => O.move rfl) ?_
     refine RD.p rfl rfl rfl rfl (fun w' => O.ext rfl rfl) ?_
     refine RD.p rfl rfl rfl rfl (fun w' => O.ext rfl rfl) ?_
     refine RD.meff rfl rfl (E.alloc hM ze26) rfl fun v w406 hv => ?_
     clear hM
     obtain ⟨g405, rfl, hM, hf⟩ := hv
     refine ⟨fun _ => hf, ?_⟩
     refine RD.meffs rfl rfl rfl (E.stB (j := 7) (off := 0) (vs := [v8 y392.1.f_Proto, v16 y392.1.f_Src, v16 y392.1.f_Dst, v32 y392.1.f_Seq, v32 y392.1.f_Ack, v8 y392.1.f_Flags, v16 y392.1.f_Window, v16 y392.1.f_Urgent, .slice A399 (y392.1.f_Options).length c400, v8 y392.1.f_Type, v8 y392.1.f_Code, .slice A402 (y392.1.f_Data).length c403]) (cs' := [v8 y392.1.f_Proto, v16 y392.1.f_Src, v16 y392.1.f_Dst, v32 y392.1.f_Seq, v32 y392.1.f_Ack, v8 y392.1.f_Flags, v16 y392.1.f_Window, v16 y392.1.f_Urgent, .slice A399 (y392.1.f_Options).length c400, v8 y392.1.f_Type, v8 y392.1.f_Code, .slice A402 (y392.1.f_Data).length c403]) hM rfl sz26 rfl (adds_eq [] rfl) rfl rfl (One.all rfl) rfl rfl) fun w408 hM1 => ?_
     clear hM
     have hM := hM1
     clear hM1
     refine RD.p rfl rfl rfl rfl (fun w' => O.assign rfl) ?_
     refine RD.nil ?_
     refine KQ.then_k ?_
     replace hM := hM.pick [0, 5, 6, 7] rfl (by decide)
     exact fun a ha => ⟨g405, A399, c400, A402, c403, y392.1.f_Proto, y392.1.f_Src, y392.1.f_Dst, y392.1.f_Seq, y392.1.f_Ack, y392.1.f_Flags, y392.1.f_Window, y392.1.f_Urgent, y392.1.f_Options, y392.1.f_Type, y392.1.f_Code, y392.1.f_Data, y392.2.1, ha.less (less_cons rfl (less_cons rfl (less_cons rfl (less_cons rfl less_nil)))), hM, hF⟩
    refine RD.meff rfl rfl (E.alloc hM ze26) rfl fun v w410 hv => ?_
    clear hM
    obtain ⟨g409, rfl, hM, hf⟩ := hv
    refine ⟨fun _ => hf, ?_⟩
    refine obindE hF fun y412 hx413 hF => ?_
    refine RD.mcallv rfl rfl trivial (first := []) (captured := []) rfl Try.func48 bd48 rfl rfl (c_trans_readICMP _ _ _ y383 _ _ (hM.lent [3, 4] rfl (by decide)) _ hx413) fun v w414 hv => ?_
    obtain ⟨A416, c417, A419, c420, A422, c423, rfl, hN415⟩ := hv
    refine ⟨fun h => (by cases h), ?_⟩
    replace hM := hM.callL [3, 4] [0, 1, 2, 5] rfl rfl (by decide) rfl hN415
    refine RD.p rfl rfl rfl rfl (fun w' => O.move rfl) ?_
    refine RD.p rfl rfl rfl rfl (fun w' => O.ext rfl rfl) ?_
    refine RD.p rfl rfl rfl rfl (fun w' => O.ext rfl rfl) ?_
    refine RD.meffs rfl rfl rfl (E.stB (j := 3) (off := 0) (vs := [v8 y412.1.f_Proto, v16 y412.1.f_Src, v16 y412.1.f_Dst, v32 y412.1.f_Seq, v32 y412.1.f_Ack, v8 y412.1.f_Flags, v16 y412.1.f_Window, v16 y412.1.f_Urgent, .slice A419 (y412.1.f_Options).length c420, v8 y412.1.f_Type, v8 y412.1.f_Code, .slice A422 (y412.1.f_Data).length c423]) (cs' := [v8 y412.1.f_Proto, v16 y412.1.f_Src, v16 y412.1.f_Dst, v32 y412.1.f_Seq, v32 y412.1.f_Ack, v8 y412.1.f_Flags, v16 y412.1.f_Window, v16 y412.1.f_Urgent, .slice A419 (y412.1.f_Options).length c420, v8 y412.1.f_Type, v8 y412.1.f_Code, .slice A422 (y412.1.f_Data).length c423]) hM rfl sz26 rfl (adds_eq [] rfl) rfl rfl (One.all rfl) rfl rfl) fun w425 hM1 => ?_
    clear hM
    have hM := hM1
    clear hM1
    refine RD.p rfl rfl rfl rfl (fun w' => O.assign rfl) ?_
    refine RD.nil ?_
    refine KQ.then_k ?_
    replace hM := hM.pick [0, 6, 7, 3] rfl (by decide)
    exact fun a ha => ⟨g409, A419, c420, A422, c423, y412.1.f_Proto, y412.1.f_Src, y412.1.f_Dst, y412.1.f_Seq, y412.1.f_Ack, y412.1.f_Flags, y412.1.f_Window, y412.1.f_Urgent, y412.1.f_Options, y412.1.f_Type, y412.1.f_Code, y412.1.f_Data, y412.2.1, ha.less (less_cons rfl (less_cons rfl (less_cons rfl (less_cons rfl less_nil)))), hM, hF⟩
   refine RD.meff rfl rfl (E.alloc hM ze26) rfl fun v w427 hv => ?_
   clear hM
   obtain ⟨g426, rfl, hM, hf⟩ := hv
   refine ⟨fun _ => hf, ?_⟩
   refine obindE hF fun y429 hx430 hF => ?_
   refine RD.mcall rfl rfl trivial Try.func39 bd39 rfl rfl (c_bits_Read _ _ _ b2 (hM.inp hr5 Off.nil) _ hx430) fun v w431 hv => ?_
   obtain ⟨g433, A435, c436, rfl, hN432⟩ := hv
   refine ⟨fun _ => hN432.fut, ?_⟩
   replace hM := hM.call hN432
   refine obindE hF fun y438 hx439 hF => ?_
   refine RD.mcallv rfl rfl trivial (first := []) (captured := []) rfl Try.func48 bd48 rfl rfl (c_trans_readICMP _ _ _ y429 _ _ (hM.lent [4, 5] rfl (by decide)) _ hx439) fun v w440 hv => ?_
   obtain ⟨A442, c443, A445, c446, A448, c449, rfl, hN441⟩ := hv
   refine ⟨fun h => (by cases h), ?_⟩
   replace hM := hM.callL [4, 5] [0, 1, 2, 3] rfl rfl (by decide) rfl hN441
   refine RD.p rfl rfl rfl rfl (fun w' => O.move rfl) ?_
   refine RD.p rfl rfl rfl rfl (fun w' => O.ext rfl rfl) ?_
   refine RD.p rfl rfl rfl rfl (fun w' => O.ext rfl rfl) ?_
   refine RD.meffs rfl rfl rfl (E.stB (j := 3) (off := 0) (vs := [v8 y438.1.f_Proto, v16 y438.1.f_Src, v16 y438.1.f_Dst, v32 y438.1.f_Seq, v32 y438.1.f_Ack, v8 y438.1.f_Flags, v16 y438.1.f_Window, v16 y438.1.f_Urgent, .slice A445 (y438.1.f_Options).length c446, v8 y438.1.f_Type, v8 y438.1.f_Code, .slice A448 (y438.1.f_Data).length c449]) (cs' := [v8 y438.1.f_Proto, v16 y438.1.f_Src, v16 y438.1.f_Dst, v32 y438.1.f_Seq, v32 y438.1.f_Ack, v8 y438.1.f_Flags, v16 y438.1.f_Window, v16 y438.1.f_Urgent, .slice A445 (y438.1.f_Options).length c446, v8 y438.1.f_Type, v8 y438.1.f_Code, .slice A448 (y438.1.f_Data).length c449]) hM rfl sz26 rfl (adds_eq [] rfl) rfl rfl (One.all rfl) rfl rfl) fun w451 hM1 => ?_
   clear hM
   have hM := hM1
   clear hM1
   refine RD.p rfl rfl rfl rfl (fun w' => O.assign rfl) ?_
   refine RD.nil ?_
   refine KQ.then_k ?_
   replace hM := hM.pick [0, 6, 7, 3] rfl (by decide)
   exact fun a ha => ⟨g426, A445, c446, A448, c449, y438.1.f_Proto, y438.1.f_Src, y438.1.f_Dst, y438.1.f_Seq, y438.1.f_Ack, y438.1.f_Flags, y438.1.f_Window, y438.1.f_Urgent, y438.1.f_Options, y438.1.f_Type, y438.1.f_Code, y438.1.f_Data, y438.2.1, ha.less (less_cons rfl (less_cons rfl (less_cons rfl (less_cons rfl less_nil)))), hM, hF⟩
  rintro a w474 ⟨g454, A464, c465, A470, c471, s455, s456, s457, s458, s459, s460, s461, s462, s466, s467, s468, s472, ev473, ha, hM, hF⟩
  refine KC.app ha ?_
  clear ha
  unfold F_trans_Parse_j4 at hF
  refine KC.seqH fun Q475 hQ475 => ?_
  refine sr fun Q476 hQ476 => ?_
  refine vm rfl rfl ?_
  refine RL.val (O.neq rfl rfl) rfl ?_
  refine nt hQ476 ?_
  clear hQ476 Q476
  refine KC.cond rfl (fun hc => ?_) (fun hc => ?_)
  ·rw [if_pos hc] at hF
   refine sr fun Q477 hQ477 => ?_
   refine RL.val (O.bld (cs := [v8 0, v16 0, v16 0, v32 0, v32 0, v8 0, v16 0, v16 0, .slice none 0 0, v8 0, v8 0, .slice none 0 0]) bt26 rfl (by kernel_rfl)) rfl ?_
   refine vm rfl rfl ?_
   refine RL.effs (E.stB (j := 0) (off := 0) (vs := [v8 0, v16 0, v16 0, v32 0, v32 0, v8 0, v16 0, v16 0, .slice none 0 0, v8 0, v8 0, .slice none 0 0]) (cs' := [v8 0, v16 0, v16 0, v32 0, v32 0, v8 0, v16 0, v16 0, .slice none 0 0, v8 0, v8 0, .slice none 0 0]) hM rfl sz26 rfl (adds_eq [] rfl) rfl rfl (One.all rfl) rfl rfl) fun w478 hM1 => ?_
   clear hM
   have hM := hM1
   clear hM1
   refine va rfl rfl ?_
   refine nt hQ477 ?_
   clear hQ477 Q477
   refine KC.ret ?_
   refine KQ.thr hQ475 ?_
   clear hQ475 Q475
   have hE := Option.some.inj hF
   clear hF
   subst hE
   have hb479 := hM.bx (i := 0) rfl
   replace hM := hM.nilrow 5 1
   replace hM := hM.nilrow 5 1
   replace hM := hM.pick [4, 5] rfl (by decide)
   refine KQ.rets Try.results19 (RVs.cons (RV.cN (cs := [v8 0, v16 0, v16 0, v32 0, v32 0, v8 0, v16 0, v16 0, .slice none 0 0, v8 0, v8 0, .slice none 0 0]) rfl ag26 hb479) (RVs.cons (RV.tm rfl) RVs.nil)) ?_
   exact ⟨_, rfl, none, 0, none, 0, rfl, hM⟩
  rw [if_neg (ne_true hc)] at hF
  refine KC.skip ?_
  refine KQ.thn hQ475 ?_
  clear hQ475 Q475
  refine sr fun Q480 hQ480 => ?_
  refine vm rfl rfl ?_
  refine RL.val (O.fldA fl26_0 (by decide) rfl) rfl ?_
  refine RL.effs (E.stB (j := 3) (off := 0) (vs := [v8 proto1]) (cs' := [v8 proto1, v16 s456, v16 s457, v32 s458, v32 s459, v8 s460, v16 s461, v16 s462, .slice A464 (s466).length c465, v8 s467, v8 s468, .slice A470 (s472).length c471]) hM rfl sz5 rfl (adds_eq [0] rfl) rfl rfl (One.all rfl) rfl rfl) fun w481 hM1 => ?_
  clear hM
  have hM := hM1
  clear hM1
  refine nt hQ480 ?_
  clear hQ480 Q480
  refine sr fun Q482 hQ482 => ?_
  refine RL.val (O.loadN (cs := [v8 proto1, v16 s456, v16 s457, v32 s458, v32 s459, v8 s460, v16 s461, v16 s462, .slice A464 (s466).length c465, v8 s467, v8 s468, .slice A470 (s472).length c471]) ag26 rfl (Cs.addsN [] ((hM.bx (i := 3) rfl)) rfl)) rfl ?_
  refine RL.effs (E.stB (j := 0) (off := 0) (vs := [v8 proto1, v16 s456, v16 s457, v32 s458, v32 s459, v8 s460, v16 s461, v16 s462, .slice A464 (s466).length c465, v8 s467, v8 s468, .slice A470 (s472).length c471]) (cs' := [v8 proto1, v16 s456, v16 s457, v32 s458, v32 s459, v8 s460, v16 s461, v16 s462, .slice A464 (s466).length c465, v8 s467, v8 s468, .slice A470 (s472).length c471]) hM rfl sz26 rfl (adds_eq [] rfl) rfl rfl (One.all rfl) rfl rfl) fun w483 hM1 => ?_
  clear hM
  have hM := hM1
  clear hM1
  refine va rfl rfl ?_
  refine nt hQ482 ?_
  clear hQ482 Q482
  refine KC.ret ?_
  have hE := Option.some.inj hF
  clear hF
  subst hE
  have hb484 := hM.bx (i := 0) rfl
  replace hM := hM.pick [1, 2] rfl (by decide)
  refine KQ.rets Try.results19 (RVs.cons (RV.cN (cs := [v8 proto1, v16 s456, v16 s457, v32 s458, v32 s459, v8 s460, v16 s461, v16 s462, .slice A464 (s466).length c465, v8 s467, v8 s468, .slice A470 (s472).length c471]) rfl ag26 hb484) (RVs.cons (RV.tm rfl) RVs.nil)) ?_
  exact ⟨_, rfl, A464, c465, A470, c471, rfl, hM⟩
 rw [if_neg hk368] at hF
 refine RL.val (O.lkF (cs := [vI 0, vI 0, Value.nilFunc, Value.nilFunc, Value.nilFunc]) ((hM.mapAt (i := 1) rfl)) Try.underlying64 Try.underlying5 (by kernel_rfl) rfl rfl (lk_miss hk17 (lk_miss hk134 (lk_miss hk251 (lk_miss hk368 (lk_nil)))))) rfl ?_
 refine vm rfl rfl ?_
 refine RL.val (O.ext rfl rfl) rfl ?_
 refine RL.val (O.ext rfl rfl) rfl ?_
 refine RL.eff (E.alloc hM ze62) rfl fun v w487 hv => ?_
 clear hM
 obtain ⟨g486, rfl, hM, hf⟩ := hv
 refine RL.effs (E.stB (j := 2) (off := 0) (vs := [vI 0, vI 0, Value.nilFunc, Value.nilFunc, Value.nilFunc]) (cs' := [vI 0, vI 0, Value.nilFunc, Value.nilFunc, Value.nilFunc]) hM rfl sz62 rfl (adds_eq [] rfl) rfl rfl (One.all rfl) rfl rfl) fun w489 hM1 => ?_
 clear hM
 have hM := hM1
 clear hM1
 refine va rfl rfl ?_
 refine nt hQ10 ?_
 clear hQ10 Q10
 refine KC.seqH fun Q490 hQ490 => ?_
 refine KC.block ?_
 refine sr fun Q491 hQ491 => ?_
 refine vm rfl rfl ?_
 refine RL.val (O.not rfl) rfl ?_
 refine va rfl rfl ?_
 refine nt hQ491 ?_
 clear hQ491 Q491
 refine KC.condT rfl ?_
 refine sr fun Q492 hQ492 => ?_
 refine RL.val (O.bld (cs := [v8 0, v16 0, v16 0, v32 0, v32 0, v8 0, v16 0, v16 0, .slice none 0 0, v8 0, v8 0, .slice none 0 0]) bt26 rfl (by kernel_rfl)) rfl ?_
 refine RL.effs (E.stB (j := 0) (off := 0) (vs := [v8 0, v16 0, v16 0, v32 0, v32 0, v8 0, v16 0, v16 0, .slice none 0 0, v8 0, v8 0, .slice none 0 0]) (cs' := [v8 0, v16 0, v16 0, v32 0, v32 0, v8 0, v16 0, v16 0, .slice none 0 0, v8 0, v8 0, .slice none 0 0]) hM rfl sz26 rfl (adds_eq [] rfl) rfl rfl (One.all rfl) rfl rfl) fun w493 hM1 => ?_
 clear hM
 have hM := hM1
 clear hM1
 refine va rfl rfl ?_
 refine nt hQ492 ?_
 clear hQ492 Q492
 refine KC.ret ?_
 refine KQ.blk_r ?_
 refine KQ.thr hQ490 ?_
 clear hQ490 Q490
 have hE := Option.some.inj hF
 clear hF
 subst hE
 have hb494 := hM.bx (i := 0) rfl
 replace hM := hM.nilrow 5 1
 replace hM := hM.nilrow 5 1
 replace hM := hM.pick [3, 4] rfl (by decide)
 refine KQ.rets Try.results19 (RVs.cons (RV.cN (cs := [v8 0, v16 0, v16 0, v32 0, v32 0, v8 0, v16 0, v16 0, .slice none 0 0, v8 0, v8 0, .slice none 0 0]) rfl ag26 hb494) (RVs.cons (RV.tm rfl) RVs.nil)) ?_
 exact ⟨_, rfl, none, 0, none, 0, rfl, hM⟩
end Go.Proofs.Ytcinagdkkclapaa
