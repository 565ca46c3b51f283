/- Printed by a program of this claim: each call returns what the plain function of its name gives. -/
import Derived.Test.YtkpnocgfhipidaaW1
import Derived.Test.YtkpnocgfhipidaaW2
import Derived.Test.YtkpnocgfhipidaaW7
set_option linter.unusedVariables false
namespace Go.Proofs.Ytkpnocgfhipidaa
open Go Go.Ox Go.RowKit
set_option maxRecDepth 100000 in
set_option maxHeartbeats 40000000 in
theorem c_law24_add (w : World) (A2 : Option Addr) (c3 : Nat) (lv1 : List T_law24_Sum) (hL7 : Lent w [.row A2 c3 89 39 (lv1).length ((lv1).flatMap e_law24_Sum)]) (kv5 : T_packet_Key) (t6 : T_flow_Total) (r : (List T_law24_Sum)) (hF : F_law24_add lv1 kv5 t6 = some r) :
  CallsR Try.prog 15 [.slice A2 (lv1).length c3, .agg #[vB kv5.f_Src.f_Six, o8 kv5.f_Src.f_B 0, o8 kv5.f_Src.f_B 1, o8 kv5.f_Src.f_B 2, o8 kv5.f_Src.f_B 3, o8 kv5.f_Src.f_B 4, o8 kv5.f_Src.f_B 5, o8 kv5.f_Src.f_B 6, o8 kv5.f_Src.f_B 7, o8 kv5.f_Src.f_B 8, o8 kv5.f_Src.f_B 9, o8 kv5.f_Src.f_B 10, o8 kv5.f_Src.f_B 11, o8 kv5.f_Src.f_B 12, o8 kv5.f_Src.f_B 13, o8 kv5.f_Src.f_B 14, o8 kv5.f_Src.f_B 15, vB kv5.f_Dst.f_Six, o8 kv5.f_Dst.f_B 0, o8 kv5.f_Dst.f_B 1, o8 kv5.f_Dst.f_B 2, o8 kv5.f_Dst.f_B 3, o8 kv5.f_Dst.f_B 4, o8 kv5.f_Dst.f_B 5, o8 kv5.f_Dst.f_B 6, o8 kv5.f_Dst.f_B 7, o8 kv5.f_Dst.f_B 8, o8 kv5.f_Dst.f_B 9, o8 kv5.f_Dst.f_B 10, o8 kv5.f_Dst.f_B 11, o8 kv5.f_Dst.f_B 12, o8 kv5.f_Dst.f_B 13, o8 kv5.f_Dst.f_B 14, o8 kv5.f_Dst.f_B 15, v8 kv5.f_Proto, v16 kv5.f_SrcPort, v16 kv5.f_DstPort], .agg #[v64 t6.f_Packets, v64 t6.f_Bytes]] w (fun v w' => ∃ (A0 : Option Addr) (c0 : Nat), v = .slice A0 (r).length c0 ∧ Mem w [rblk A2 c3] w' [.row A0 c0 89 39 r.length (r.flatMap e_law24_Sum)]) := by
 refine calls_KC Try.func15 rfl Try.ntmps15 rfl ?_
 have hM : Mem w [rblk A2 c3] w [.row A2 c3 89 39 (lv1).length ((lv1).flatMap e_law24_Sum)] := Mem.lendN hL7
 unfold F_law24_add at hF
 refine sr fun Q8 hQ8 => ?_
 refine RL.eff (E.box (vs := [vB kv5.f_Src.f_Six, o8 kv5.f_Src.f_B 0, o8 kv5.f_Src.f_B 1, o8 kv5.f_Src.f_B 2, o8 kv5.f_Src.f_B 3, o8 kv5.f_Src.f_B 4, o8 kv5.f_Src.f_B 5, o8 kv5.f_Src.f_B 6, o8 kv5.f_Src.f_B 7, o8 kv5.f_Src.f_B 8, o8 kv5.f_Src.f_B 9, o8 kv5.f_Src.f_B 10, o8 kv5.f_Src.f_B 11, o8 kv5.f_Src.f_B 12, o8 kv5.f_Src.f_B 13, o8 kv5.f_Src.f_B 14, o8 kv5.f_Src.f_B 15, vB kv5.f_Dst.f_Six, o8 kv5.f_Dst.f_B 0, o8 kv5.f_Dst.f_B 1, o8 kv5.f_Dst.f_B 2, o8 kv5.f_Dst.f_B 3, o8 kv5.f_Dst.f_B 4, o8 kv5.f_Dst.f_B 5, o8 kv5.f_Dst.f_B 6, o8 kv5.f_Dst.f_B 7, o8 kv5.f_Dst.f_B 8, o8 kv5.f_Dst.f_B 9, o8 kv5.f_Dst.f_B 10, o8 kv5.f_Dst.f_B 11, o8 kv5.f_Dst.f_B 12, o8 kv5.f_Dst.f_B 13, o8 kv5.f_Dst.f_B 14, o8 kv5.f_Dst.f_B 15, v8 kv5.f_Proto, v16 kv5.f_SrcPort, v16 kv5.f_DstPort]) hM rfl rfl) rfl fun v w10 hv => ?_
 clear hM
 obtain ⟨g9, rfl, hM, hf⟩ := hv
 refine RL.eff (E.box (vs := [v64 t6.f_Packets, v64 t6.f_Bytes]) hM rfl rfl) rfl fun v w13 hv => ?_
 clear hM
 obtain ⟨g12, rfl, hM, hf⟩ := hv
 refine va rfl rfl ?_
 refine nt hQ8 ?_
 clear hQ8 Q8
 refine KC.seqH fun Q15 hQ15 => ?_
 refine sr fun Q16 hQ16 => ?_
 refine va rfl rfl ?_
 refine nt hQ16 ?_
 clear hQ16 Q16
 refine KC.block ?_
 refine KC.loop (fun k67 a w65 => ∃ (i64 : Int), Kn 51 [(0, .slice A2 (lv1).length c3), (4, .pointer (some ⟨g9, 0, none⟩)), (5, .pointer (some ⟨g12, 0, none⟩)), (7, vI i64)] a ∧ Mem w [rblk A2 c3] w65 [.row A2 c3 89 39 (lv1).length ((lv1).flatMap e_law24_Sum), .box g9 36 [vB kv5.f_Src.f_Six, o8 kv5.f_Src.f_B 0, o8 kv5.f_Src.f_B 1, o8 kv5.f_Src.f_B 2, o8 kv5.f_Src.f_B 3, o8 kv5.f_Src.f_B 4, o8 kv5.f_Src.f_B 5, o8 kv5.f_Src.f_B 6, o8 kv5.f_Src.f_B 7, o8 kv5.f_Src.f_B 8, o8 kv5.f_Src.f_B 9, o8 kv5.f_Src.f_B 10, o8 kv5.f_Src.f_B 11, o8 kv5.f_Src.f_B 12, o8 kv5.f_Src.f_B 13, o8 kv5.f_Src.f_B 14, o8 kv5.f_Src.f_B 15, vB kv5.f_Dst.f_Six, o8 kv5.f_Dst.f_B 0, o8 kv5.f_Dst.f_B 1, o8 kv5.f_Dst.f_B 2, o8 kv5.f_Dst.f_B 3, o8 kv5.f_Dst.f_B 4, o8 kv5.f_Dst.f_B 5, o8 kv5.f_Dst.f_B 6, o8 kv5.f_Dst.f_B 7, o8 kv5.f_Dst.f_B 8, o8 kv5.f_Dst.f_B 9, o8 kv5.f_Dst.f_B 10, o8 kv5.f_Dst.f_B 11, o8 kv5.f_Dst.f_B 12, o8 kv5.f_Dst.f_B 13, o8 kv5.f_Dst.f_B 14, o8 kv5.f_Dst.f_B 15, v8 kv5.f_Proto, v16 kv5.f_SrcPort, v16 kv5.f_DstPort], .box g12 55 [v64 t6.f_Packets, v64 t6.f_Bytes]] ∧ F_law24_add_L1 lv1 kv5 t6 k67 i64 = some r) ?_ ?_
 ·exact fun a ha => ⟨fuel0, 0, ha.less (less_cons rfl (less_cons rfl (less_cons rfl (less_cons rfl less_nil)))), hM, hF⟩
 rintro k67 a w65 ⟨i64, ha, hM, hF⟩
 refine KC.app ha ?_
 clear ha
 cases k67 with
 | zero => exact (none_some hF).elim
 | succ k67 =>
 have hF : F_law24_add_l1 (F_law24_add_L1 lv1 kv5 t6 k67) lv1 kv5 t6 i64 = some r := hF
 unfold F_law24_add_l1 at hF
 refine KC.seqH fun Q68 hQ68 => ?_
 refine sr fun Q69 hQ69 => ?_
 refine vm rfl rfl ?_
 refine vm rfl rfl ?_
 refine RL.val (O.len sl48 rfl) rfl ?_
 refine RL.val (O.lss rfl rfl) rfl ?_
 refine nt hQ69 ?_
 clear hQ69 Q69
 refine KC.cond rfl (fun hc => ?_) (fun hc => ?_)
 ·rw [if_pos hc] at hF
  refine KC.skip ?_
  refine KQ.thn hQ68 ?_
  clear hQ68 Q68
  refine KC.seqH fun Q70 hQ70 => ?_
  refine KC.block ?_
  refine KC.seqH fun Q71 hQ71 => ?_
  replace hM := hM.drewN 1
  refine KC.draw [] [] [] [0, 1, 3, 6] (.ofList [0, 1, 2, 3, 4, 5, 6]) moP (by kernel_rfl) ?_
  refine RD.p rfl rfl rfl rfl (fun w' => O.move rfl) ?_
  refine RD.p rfl rfl rfl rfl (fun w' => O.move rfl) ?_
  refine obindE hF fun xv74 hx73 hF => ?_
  have hA72 := Rd.atN (f := e_law24_Sum) (s := 39) (fun _ => rfl) (by decide) (hM.rd (i := 0) rfl) hx73
  refine RD.q rfl rfl rfl rfl (fun w' hf => O.idxA sl48 (hA72.fut hf) rfl rfl) ?_
  refine RD.p rfl rfl rfl rfl (fun w' => O.fldA fl89_0 (by decide) rfl) ?_
  refine RD.q rfl rfl rfl rfl (fun w' hf => O.loadN (cs := [vB xv74.f_Key.f_Src.f_Six, o8 xv74.f_Key.f_Src.f_B 0, o8 xv74.f_Key.f_Src.f_B 1, o8 xv74.f_Key.f_Src.f_B 2, o8 xv74.f_Key.f_Src.f_B 3, o8 xv74.f_Key.f_Src.f_B 4, o8 xv74.f_Key.f_Src.f_B 5, o8 xv74.f_Key.f_Src.f_B 6, o8 xv74.f_Key.f_Src.f_B 7, o8 xv74.f_Key.f_Src.f_B 8, o8 xv74.f_Key.f_Src.f_B 9, o8 xv74.f_Key.f_Src.f_B 10, o8 xv74.f_Key.f_Src.f_B 11, o8 xv74.f_Key.f_Src.f_B 12, o8 xv74.f_Key.f_Src.f_B 13, o8 xv74.f_Key.f_Src.f_B 14, o8 xv74.f_Key.f_Src.f_B 15, vB xv74.f_Key.f_Dst.f_Six, o8 xv74.f_Key.f_Dst.f_B 0, o8 xv74.f_Key.f_Dst.f_B 1, o8 xv74.f_Key.f_Dst.f_B 2, o8 xv74.f_Key.f_Dst.f_B 3, o8 xv74.f_Key.f_Dst.f_B 4, o8 xv74.f_Key.f_Dst.f_B 5, o8 xv74.f_Key.f_Dst.f_B 6, o8 xv74.f_Key.f_Dst.f_B 7, o8 xv74.f_Key.f_Dst.f_B 8, o8 xv74.f_Key.f_Dst.f_B 9, o8 xv74.f_Key.f_Dst.f_B 10, o8 xv74.f_Key.f_Dst.f_B 11, o8 xv74.f_Key.f_Dst.f_B 12, o8 xv74.f_Key.f_Dst.f_B 13, o8 xv74.f_Key.f_Dst.f_B 14, o8 xv74.f_Key.f_Dst.f_B 15, v8 xv74.f_Key.f_Proto, v16 xv74.f_Key.f_SrcPort, v16 xv74.f_Key.f_DstPort]) ag36 rfl (Cs.addsN [0] (hA72.fut hf).cells rfl)) ?_
  refine RD.q rfl rfl rfl rfl (fun w' hf => O.loadN (cs := [vB kv5.f_Src.f_Six, o8 kv5.f_Src.f_B 0, o8 kv5.f_Src.f_B 1, o8 kv5.f_Src.f_B 2, o8 kv5.f_Src.f_B 3, o8 kv5.f_Src.f_B 4, o8 kv5.f_Src.f_B 5, o8 kv5.f_Src.f_B 6, o8 kv5.f_Src.f_B 7, o8 kv5.f_Src.f_B 8, o8 kv5.f_Src.f_B 9, o8 kv5.f_Src.f_B 10, o8 kv5.f_Src.f_B 11, o8 kv5.f_Src.f_B 12, o8 kv5.f_Src.f_B 13, o8 kv5.f_Src.f_B 14, o8 kv5.f_Src.f_B 15, vB kv5.f_Dst.f_Six, o8 kv5.f_Dst.f_B 0, o8 kv5.f_Dst.f_B 1, o8 kv5.f_Dst.f_B 2, o8 kv5.f_Dst.f_B 3, o8 kv5.f_Dst.f_B 4, o8 kv5.f_Dst.f_B 5, o8 kv5.f_Dst.f_B 6, o8 kv5.f_Dst.f_B 7, o8 kv5.f_Dst.f_B 8, o8 kv5.f_Dst.f_B 9, o8 kv5.f_Dst.f_B 10, o8 kv5.f_Dst.f_B 11, o8 kv5.f_Dst.f_B 12, o8 kv5.f_Dst.f_B 13, o8 kv5.f_Dst.f_B 14, o8 kv5.f_Dst.f_B 15, v8 kv5.f_Proto, v16 kv5.f_SrcPort, v16 kv5.f_DstPort]) ag36 rfl (Cs.addsN [] ((hM.bx (i := 1) rfl).fut hf) rfl)) ?_
  refine RD.p rfl rfl rfl rfl (fun w' => O.steq (cs := [vB xv74.f_Key.f_Src.f_Six, o8 xv74.f_Key.f_Src.f_B 0, o8 xv74.f_Key.f_Src.f_B 1, o8 xv74.f_Key.f_Src.f_B 2, o8 xv74.f_Key.f_Src.f_B 3, o8 xv74.f_Key.f_Src.f_B 4, o8 xv74.f_Key.f_Src.f_B 5, o8 xv74.f_Key.f_Src.f_B 6, o8 xv74.f_Key.f_Src.f_B 7, o8 xv74.f_Key.f_Src.f_B 8, o8 xv74.f_Key.f_Src.f_B 9, o8 xv74.f_Key.f_Src.f_B 10, o8 xv74.f_Key.f_Src.f_B 11, o8 xv74.f_Key.f_Src.f_B 12, o8 xv74.f_Key.f_Src.f_B 13, o8 xv74.f_Key.f_Src.f_B 14, o8 xv74.f_Key.f_Src.f_B 15, vB xv74.f_Key.f_Dst.f_Six, o8 xv74.f_Key.f_Dst.f_B 0, o8 xv74.f_Key.f_Dst.f_B 1, o8 xv74.f_Key.f_Dst.f_B 2, o8 xv74.f_Key.f_Dst.f_B 3, o8 xv74.f_Key.f_Dst.f_B 4, o8 xv74.f_Key.f_Dst.f_B 5, o8 xv74.f_Key.f_Dst.f_B 6, o8 xv74.f_Key.f_Dst.f_B 7, o8 xv74.f_Key.f_Dst.f_B 8, o8 xv74.f_Key.f_Dst.f_B 9, o8 xv74.f_Key.f_Dst.f_B 10, o8 xv74.f_Key.f_Dst.f_B 11, o8 xv74.f_Key.f_Dst.f_B 12, o8 xv74.f_Key.f_Dst.f_B 13, o8 xv74.f_Key.f_Dst.f_B 14, o8 xv74.f_Key.f_Dst.f_B 15, v8 xv74.f_Key.f_Proto, v16 xv74.f_Key.f_SrcPort, v16 xv74.f_Key.f_DstPort]) (cs' := [vB kv5.f_Src.f_Six, o8 kv5.f_Src.f_B 0, o8 kv5.f_Src.f_B 1, o8 kv5.f_Src.f_B 2, o8 kv5.f_Src.f_B 3, o8 kv5.f_Src.f_B 4, o8 kv5.f_Src.f_B 5, o8 kv5.f_Src.f_B 6, o8 kv5.f_Src.f_B 7, o8 kv5.f_Src.f_B 8, o8 kv5.f_Src.f_B 9, o8 kv5.f_Src.f_B 10, o8 kv5.f_Src.f_B 11, o8 kv5.f_Src.f_B 12, o8 kv5.f_Src.f_B 13, o8 kv5.f_Src.f_B 14, o8 kv5.f_Src.f_B 15, vB kv5.f_Dst.f_Six, o8 kv5.f_Dst.f_B 0, o8 kv5.f_Dst.f_B 1, o8 kv5.f_Dst.f_B 2, o8 kv5.f_Dst.f_B 3, o8 kv5.f_Dst.f_B 4, o8 kv5.f_Dst.f_B 5, o8 kv5.f_Dst.f_B 6, o8 kv5.f_Dst.f_B 7, o8 kv5.f_Dst.f_B 8, o8 kv5.f_Dst.f_B 9, o8 kv5.f_Dst.f_B 10, o8 kv5.f_Dst.f_B 11, o8 kv5.f_Dst.f_B 12, o8 kv5.f_Dst.f_B 13, o8 kv5.f_Dst.f_B 14, o8 kv5.f_Dst.f_B 15, v8 kv5.f_Proto, v16 kv5.f_SrcPort, v16 kv5.f_DstPort]) (by kernel_rfl) rfl rfl (Q36t xv74.f_Key kv5 _ rfl rfl)) ?_
  refine RD.nil ?_
  refine KQ.thn hQ71 ?_
  clear hQ71 Q71
  refine KC.cond rfl (fun hc => ?_) (fun hc => ?_)
  ·rw [if_pos hc] at hF
   refine KC.seqH fun Q75 hQ75 => ?_
   replace hM := hM.drewN 1
   refine KC.draw [] [23] [23] [0, 1, 2, 3, 5, 6, 8, 10, 11, 12, 14, 15, 17, 19, 22] (.ofList [0, 1, 2, 3, 4, 5, 6, 7, 8, 9, 10, 11, 12, 13, 14, 15, 16, 17, 18, 19, 20, 21, 22, 23]) moP (by kernel_rfl) ?_
   refine RD.p rfl rfl rfl rfl (fun w' => O.move rfl) ?_
   refine RD.p rfl rfl rfl rfl (fun w' => O.move rfl) ?_
   refine RD.p rfl rfl rfl rfl (fun w' => O.move rfl) ?_
   refine RD.p rfl rfl rfl rfl (fun w' => O.move rfl) ?_
   refine obindE hF fun xv78 hx77 hF => ?_
   have hA76 := Rd.atN (f := e_law24_Sum) (s := 39) (fun _ => rfl) (by decide) (hM.rd (i := 0) rfl) hx77
   refine RD.q rfl rfl rfl rfl (fun w' hf => O.idxA sl48 (hA76.fut hf) rfl rfl) ?_
   refine RD.p rfl rfl rfl rfl (fun w' => O.fldA fl89_1 (by decide) rfl) ?_
   refine RD.p rfl rfl rfl rfl (fun w' => O.fldA fl55_0 (by decide) rfl) ?_
   refine RD.q rfl rfl rfl rfl (fun w' hf => O.load sc22 rfl (Cs.adds [37, 0] (hA76.fut hf).cells rfl)) ?_
   refine RD.p rfl rfl rfl rfl (fun w' => O.fldA fl55_0 (by decide) rfl) ?_
   refine RD.q rfl rfl rfl rfl (fun w' hf => O.load sc22 rfl (Cs.adds [0] ((hM.bx (i := 2) rfl).fut hf) rfl)) ?_
   refine RD.p rfl rfl rfl rfl (fun w' => O.add rfl rfl) ?_
   refine RD.p rfl rfl rfl rfl (fun w' => O.move rfl) ?_
   refine RD.p rfl rfl rfl rfl (fun w' => O.move rfl) ?_
   refine obindE hF fun xv81 hx80 hF => ?_
   have hA79 := Rd.atN (f := e_law24_Sum) (s := 39) (fun _ => rfl) (by decide) (hM.rd (i := 0) rfl) hx80
   refine RD.q rfl rfl rfl rfl (fun w' hf => O.idxA sl48 (hA79.fut hf) rfl rfl) ?_
   refine RD.p rfl rfl rfl rfl (fun w' => O.fldA fl89_1 (by decide) rfl) ?_
   refine RD.p rfl rfl rfl rfl (fun w' => O.fldA fl55_1 (by decide) rfl) ?_
   refine RD.q rfl rfl rfl rfl (fun w' hf => O.load sc22 rfl (Cs.adds [37, 1] (hA79.fut hf).cells rfl)) ?_
   refine RD.p rfl rfl rfl rfl (fun w' => O.fldA fl55_1 (by decide) rfl) ?_
   refine RD.q rfl rfl rfl rfl (fun w' hf => O.load sc22 rfl (Cs.adds [1] ((hM.bx (i := 2) rfl).fut hf) rfl)) ?_
   refine RD.p rfl rfl rfl rfl (fun w' => O.add rfl rfl) ?_
   refine RD.q rfl rfl rfl rfl (fun w' hf => O.bld (cs := [v64 (IntKind.u64.wrap (xv78.f_Total.f_Packets + t6.f_Packets)), v64 (IntKind.u64.wrap (xv81.f_Total.f_Bytes + t6.f_Bytes))]) bt55 rfl (by kernel_rfl)) ?_
   refine obindE hF fun xv84 hx83 hF => ?_
   have hA82 := Rd.atN (f := e_law24_Sum) (s := 39) (fun _ => rfl) (by decide) (hM.rd (i := 0) rfl) hx83
   refine RD.q rfl rfl rfl rfl (fun w' hf => O.idxA sl48 (hA82.fut hf) rfl rfl) ?_
   refine RD.p rfl rfl rfl rfl (fun w' => O.fldA fl89_1 (by decide) rfl) ?_
   refine RD.meffs rfl rfl rfl (E.stR (enc := e_law24_Sum) (j := 0) (off := 37) (vs := [v64 (IntKind.u64.wrap (xv78.f_Total.f_Packets + t6.f_Packets)), v64 (IntKind.u64.wrap (xv81.f_Total.f_Bytes + t6.f_Bytes))]) (x' := (T_law24_Sum.mk xv84.f_Key (T_flow_Total.mk (IntKind.u64.wrap (xv78.f_Total.f_Packets + t6.f_Packets)) (IntKind.u64.wrap (xv81.f_Total.f_Bytes + t6.f_Bytes))))) hM rfl (fun _ => rfl) hx83 sz55 rfl (addsR_eq [37] rfl) rfl rfl (One.all rfl) rfl rfl) fun w85 hM1 => ?_
   clear hM
   obtain ⟨hM, hn86⟩ := hM1
   refine RD.reslot (t := 0) rfl hn86 ?_
   refine RD.reslot (t := 21) rfl hn86 ?_
   refine RD.reslot (t := 23) rfl hn86 ?_
   refine RD.reslot (t := 32) rfl hn86 ?_
   refine RD.nil ?_
   refine KQ.thn hQ75 ?_
   clear hQ75 Q75
   replace hM := hM.pick [0] rfl (by decide)
   refine sr fun Q87 hQ87 => ?_
   refine vm rfl rfl ?_
   refine va rfl rfl ?_
   refine nt hQ87 ?_
   clear hQ87 Q87
   refine KC.ret ?_
   refine KQ.blk_r ?_
   refine KQ.thr hQ70 ?_
   clear hQ70 Q70
   refine KQ.then_r ?_
   refine KQ.blk_r ?_
   refine KQ.thr hQ15 ?_
   clear hQ15 Q15
   have hE := Option.some.inj hF
   clear hF
   subst hE
   refine KQ.rets Try.results15 (RVs.cons (RV.tm rfl) RVs.nil) ?_
   exact ⟨_, rfl, A2, c3, rfl, hM⟩
  rw [if_neg (ne_true hc)] at hF
  refine KC.skip ?_
  refine KQ.blk_n ?_
  refine KQ.thn hQ70 ?_
  clear hQ70 Q70
  refine KC.region ?_
  refine vm rfl rfl ?_
  refine RL.val (O.add rfl rfl) rfl ?_
  refine va rfl rfl ?_
  refine RL.nil ?_
  refine KQ.then_k ?_
  exact fun a ha => ⟨k67, Nat.lt_succ_self k67, (IntKind.i64.wrap (i64 + 1)), ha.less (less_cons rfl (less_cons rfl (less_cons rfl (less_cons rfl less_nil)))), hM, hF⟩
 rw [if_neg (ne_true hc)] at hF
 refine KC.exit ?_
 refine KQ.thx hQ68 ?_
 clear hQ68 Q68
 refine KQ.then_x ?_
 refine KQ.blk_x ?_
 refine KQ.thn hQ15 ?_
 clear hQ15 Q15
 refine sr fun Q88 hQ88 => ?_
 refine vm rfl rfl ?_
 refine RL.val (O.loadN (cs := [vB kv5.f_Src.f_Six, o8 kv5.f_Src.f_B 0, o8 kv5.f_Src.f_B 1, o8 kv5.f_Src.f_B 2, o8 kv5.f_Src.f_B 3, o8 kv5.f_Src.f_B 4, o8 kv5.f_Src.f_B 5, o8 kv5.f_Src.f_B 6, o8 kv5.f_Src.f_B 7, o8 kv5.f_Src.f_B 8, o8 kv5.f_Src.f_B 9, o8 kv5.f_Src.f_B 10, o8 kv5.f_Src.f_B 11, o8 kv5.f_Src.f_B 12, o8 kv5.f_Src.f_B 13, o8 kv5.f_Src.f_B 14, o8 kv5.f_Src.f_B 15, vB kv5.f_Dst.f_Six, o8 kv5.f_Dst.f_B 0, o8 kv5.f_Dst.f_B 1, o8 kv5.f_Dst.f_B 2, o8 kv5.f_Dst.f_B 3, o8 kv5.f_Dst.f_B 4, o8 kv5.f_Dst.f_B 5, o8 kv5.f_Dst.f_B 6, o8 kv5.f_Dst.f_B 7, o8 kv5.f_Dst.f_B 8, o8 kv5.f_Dst.f_B 9, o8 kv5.f_Dst.f_B 10, o8 kv5.f_Dst.f_B 11, o8 kv5.f_Dst.f_B 12, o8 kv5.f_Dst.f_B 13, o8 kv5.f_Dst.f_B 14, o8 kv5.f_Dst.f_B 15, v8 kv5.f_Proto, v16 kv5.f_SrcPort, v16 kv5.f_DstPort]) ag36 rfl (Cs.addsN [] ((hM.bx (i := 1) rfl)) rfl)) rfl ?_
 refine RL.val (O.loadN (cs := [v64 t6.f_Packets, v64 t6.f_Bytes]) ag55 rfl (Cs.addsN [] ((hM.bx (i := 2) rfl)) rfl)) rfl ?_
 refine RL.val (O.bld (cs := [vB kv5.f_Src.f_Six, o8 kv5.f_Src.f_B 0, o8 kv5.f_Src.f_B 1, o8 kv5.f_Src.f_B 2, o8 kv5.f_Src.f_B 3, o8 kv5.f_Src.f_B 4, o8 kv5.f_Src.f_B 5, o8 kv5.f_Src.f_B 6, o8 kv5.f_Src.f_B 7, o8 kv5.f_Src.f_B 8, o8 kv5.f_Src.f_B 9, o8 kv5.f_Src.f_B 10, o8 kv5.f_Src.f_B 11, o8 kv5.f_Src.f_B 12, o8 kv5.f_Src.f_B 13, o8 kv5.f_Src.f_B 14, o8 kv5.f_Src.f_B 15, vB kv5.f_Dst.f_Six, o8 kv5.f_Dst.f_B 0, o8 kv5.f_Dst.f_B 1, o8 kv5.f_Dst.f_B 2, o8 kv5.f_Dst.f_B 3, o8 kv5.f_Dst.f_B 4, o8 kv5.f_Dst.f_B 5, o8 kv5.f_Dst.f_B 6, o8 kv5.f_Dst.f_B 7, o8 kv5.f_Dst.f_B 8, o8 kv5.f_Dst.f_B 9, o8 kv5.f_Dst.f_B 10, o8 kv5.f_Dst.f_B 11, o8 kv5.f_Dst.f_B 12, o8 kv5.f_Dst.f_B 13, o8 kv5.f_Dst.f_B 14, o8 kv5.f_Dst.f_B 15, v8 kv5.f_Proto, v16 kv5.f_SrcPort, v16 kv5.f_DstPort, v64 t6.f_Packets, v64 t6.f_Bytes]) bt89 rfl (by kernel_rfl)) rfl ?_
 refine RL.eff (E.bsl (enc := e_law24_Sum) (xs := ([(T_law24_Sum.mk kv5 t6)] : List T_law24_Sum)) hM sl48 ze89 rfl rfl rfl (fun _ => rfl) rfl (by kernel_rfl) rfl) rfl fun v w89 hv => ?_
 clear hM
 obtain ⟨A90, rfl, hM, hf⟩ := hv
 refine cut_someE hF fun hq95 hF => ?_
 refine RL.eff (E.app (enc := e_law24_Sum) (xs := lv1) (ys := ([(T_law24_Sum.mk kv5 t6)] : List T_law24_Sum)) (j := 0) hM rfl sl48 ze89 rfl rfl rfl rfl rfl (hM.rd (i := 3) rfl) (fun _ => One.all rfl) (of_decide_eq_true hq95)) rfl fun v w94 hv => ?_
 clear hM
 obtain ⟨A92, c93, rfl, hM, hf⟩ := hv
 refine va rfl rfl ?_
 refine nt hQ88 ?_
 clear hQ88 Q88
 refine KC.ret ?_
 have hE := Option.some.inj hF
 clear hF
 subst hE
 replace hM := hM.pick [0] rfl (by decide)
 refine KQ.rets Try.results15 (RVs.cons (RV.tm rfl) RVs.nil) ?_
 exact ⟨_, rfl, A92, c93, rfl, hM⟩
set_option maxRecDepth 100000 in
set_option maxHeartbeats 40000000 in
theorem c_flow_Record_Right (w : World) (rv1 : T_flow_Record) (r : Bool) (hF : F_flow_Record_Right rv1 = some r) :
  CallsR Try.prog 44 [.agg #[vB rv1.f_Key.f_Src.f_Six, o8 rv1.f_Key.f_Src.f_B 0, o8 rv1.f_Key.f_Src.f_B 1, o8 rv1.f_Key.f_Src.f_B 2, o8 rv1.f_Key.f_Src.f_B 3, o8 rv1.f_Key.f_Src.f_B 4, o8 rv1.f_Key.f_Src.f_B 5, o8 rv1.f_Key.f_Src.f_B 6, o8 rv1.f_Key.f_Src.f_B 7, o8 rv1.f_Key.f_Src.f_B 8, o8 rv1.f_Key.f_Src.f_B 9, o8 rv1.f_Key.f_Src.f_B 10, o8 rv1.f_Key.f_Src.f_B 11, o8 rv1.f_Key.f_Src.f_B 12, o8 rv1.f_Key.f_Src.f_B 13, o8 rv1.f_Key.f_Src.f_B 14, o8 rv1.f_Key.f_Src.f_B 15, vB rv1.f_Key.f_Dst.f_Six, o8 rv1.f_Key.f_Dst.f_B 0, o8 rv1.f_Key.f_Dst.f_B 1, o8 rv1.f_Key.f_Dst.f_B 2, o8 rv1.f_Key.f_Dst.f_B 3, o8 rv1.f_Key.f_Dst.f_B 4, o8 rv1.f_Key.f_Dst.f_B 5, o8 rv1.f_Key.f_Dst.f_B 6, o8 rv1.f_Key.f_Dst.f_B 7, o8 rv1.f_Key.f_Dst.f_B 8, o8 rv1.f_Key.f_Dst.f_B 9, o8 rv1.f_Key.f_Dst.f_B 10, o8 rv1.f_Key.f_Dst.f_B 11, o8 rv1.f_Key.f_Dst.f_B 12, o8 rv1.f_Key.f_Dst.f_B 13, o8 rv1.f_Key.f_Dst.f_B 14, o8 rv1.f_Key.f_Dst.f_B 15, v8 rv1.f_Key.f_Proto, v16 rv1.f_Key.f_SrcPort, v16 rv1.f_Key.f_DstPort, v64 rv1.f_Packets, v64 rv1.f_Bytes, v64 rv1.f_First, v64 rv1.f_Last, v8 rv1.f_Flags, v8 rv1.f_Reason, v8 rv1.f_Class]] w (fun v w' => v = vB r ∧ Mem w [] w' []) := by
 refine calls_KC Try.func44 rfl Try.ntmps44 rfl ?_
 have hM := Mem.init w
 unfold F_flow_Record_Right at hF
 refine sr fun Q2 hQ2 => ?_
 refine RL.eff (E.box (vs := [vB rv1.f_Key.f_Src.f_Six, o8 rv1.f_Key.f_Src.f_B 0, o8 rv1.f_Key.f_Src.f_B 1, o8 rv1.f_Key.f_Src.f_B 2, o8 rv1.f_Key.f_Src.f_B 3, o8 rv1.f_Key.f_Src.f_B 4, o8 rv1.f_Key.f_Src.f_B 5, o8 rv1.f_Key.f_Src.f_B 6, o8 rv1.f_Key.f_Src.f_B 7, o8 rv1.f_Key.f_Src.f_B 8, o8 rv1.f_Key.f_Src.f_B 9, o8 rv1.f_Key.f_Src.f_B 10, o8 rv1.f_Key.f_Src.f_B 11, o8 rv1.f_Key.f_Src.f_B 12, o8 rv1.f_Key.f_Src.f_B 13, o8 rv1.f_Key.f_Src.f_B 14, o8 rv1.f_Key.f_Src.f_B 15, vB rv1.f_Key.f_Dst.f_Six, o8 rv1.f_Key.f_Dst.f_B 0, o8 rv1.f_Key.f_Dst.f_B 1, o8 rv1.f_Key.f_Dst.f_B 2, o8 rv1.f_Key.f_Dst.f_B 3, o8 rv1.f_Key.f_Dst.f_B 4, o8 rv1.f_Key.f_Dst.f_B 5, o8 rv1.f_Key.f_Dst.f_B 6, o8 rv1.f_Key.f_Dst.f_B 7, o8 rv1.f_Key.f_Dst.f_B 8, o8 rv1.f_Key.f_Dst.f_B 9, o8 rv1.f_Key.f_Dst.f_B 10, o8 rv1.f_Key.f_Dst.f_B 11, o8 rv1.f_Key.f_Dst.f_B 12, o8 rv1.f_Key.f_Dst.f_B 13, o8 rv1.f_Key.f_Dst.f_B 14, o8 rv1.f_Key.f_Dst.f_B 15, v8 rv1.f_Key.f_Proto, v16 rv1.f_Key.f_SrcPort, v16 rv1.f_Key.f_DstPort, v64 rv1.f_Packets, v64 rv1.f_Bytes, v64 rv1.f_First, v64 rv1.f_Last, v8 rv1.f_Flags, v8 rv1.f_Reason, v8 rv1.f_Class]) hM rfl rfl) rfl fun v w4 hv => ?_
 clear hM
 obtain ⟨g3, rfl, hM, hf⟩ := hv
 refine va rfl rfl ?_
 refine nt hQ2 ?_
 clear hQ2 Q2
 refine KC.cut (fun a w11 => ∃ (t10 : Bool), Kn 28 [(2, vB t10)] a ∧ Mem w [] w11 [] ∧ F_flow_Record_Right_j1 t10 = some r) ?_ ?_
 ·refine KC.region ?_
  refine RL.val (O.fldA fl46_0 (by decide) rfl) rfl ?_
  refine RL.val (O.loadN (cs := [vB rv1.f_Key.f_Src.f_Six, o8 rv1.f_Key.f_Src.f_B 0, o8 rv1.f_Key.f_Src.f_B 1, o8 rv1.f_Key.f_Src.f_B 2, o8 rv1.f_Key.f_Src.f_B 3, o8 rv1.f_Key.f_Src.f_B 4, o8 rv1.f_Key.f_Src.f_B 5, o8 rv1.f_Key.f_Src.f_B 6, o8 rv1.f_Key.f_Src.f_B 7, o8 rv1.f_Key.f_Src.f_B 8, o8 rv1.f_Key.f_Src.f_B 9, o8 rv1.f_Key.f_Src.f_B 10, o8 rv1.f_Key.f_Src.f_B 11, o8 rv1.f_Key.f_Src.f_B 12, o8 rv1.f_Key.f_Src.f_B 13, o8 rv1.f_Key.f_Src.f_B 14, o8 rv1.f_Key.f_Src.f_B 15, vB rv1.f_Key.f_Dst.f_Six, o8 rv1.f_Key.f_Dst.f_B 0, o8 rv1.f_Key.f_Dst.f_B 1, o8 rv1.f_Key.f_Dst.f_B 2, o8 rv1.f_Key.f_Dst.f_B 3, o8 rv1.f_Key.f_Dst.f_B 4, o8 rv1.f_Key.f_Dst.f_B 5, o8 rv1.f_Key.f_Dst.f_B 6, o8 rv1.f_Key.f_Dst.f_B 7, o8 rv1.f_Key.f_Dst.f_B 8, o8 rv1.f_Key.f_Dst.f_B 9, o8 rv1.f_Key.f_Dst.f_B 10, o8 rv1.f_Key.f_Dst.f_B 11, o8 rv1.f_Key.f_Dst.f_B 12, o8 rv1.f_Key.f_Dst.f_B 13, o8 rv1.f_Key.f_Dst.f_B 14, o8 rv1.f_Key.f_Dst.f_B 15, v8 rv1.f_Key.f_Proto, v16 rv1.f_Key.f_SrcPort, v16 rv1.f_Key.f_DstPort]) ag36 rfl (Cs.addsN [0] ((hM.bx (i := 0) rfl)) rfl)) rfl ?_
  refine obindE hF fun y6 hx7 hF => ?_
  refine RL.call Try.func14 bd14 rfl rfl (c_packet_Key_Right _ rv1.f_Key _ hx7) fun v w8 hv => ?_
  obtain ⟨rfl, hN9⟩ := hv
  replace hM := hM.call0 hN9
  refine vm rfl rfl ?_
  refine RL.bcase (t := 6) rfl (fun hc => ?_) (fun hc => ?_)
  ·rw [if_pos hc] at hF
   refine RL.gval rfl rfl (O.fldA fl46_1 (by decide) rfl) rfl ?_
   refine RL.gval rfl rfl (O.load sc22 rfl (Cs.adds [37] ((hM.bx (i := 0) rfl)) rfl)) rfl ?_
   refine RL.gval rfl rfl (O.gtr rfl rfl) rfl ?_
   refine RL.val (O.pickt rfl rfl) rfl ?_
   refine vm rfl rfl ?_
   refine RL.bcase (t := 11) rfl (fun hc => ?_) (fun hc => ?_)
   ·rw [if_pos hc] at hF
    refine RL.gval rfl rfl (O.fldA fl46_3 (by decide) rfl) rfl ?_
    refine RL.gval rfl rfl (O.load sc22 rfl (Cs.adds [39] ((hM.bx (i := 0) rfl)) rfl)) rfl ?_
    refine RL.gval rfl rfl (O.fldA fl46_4 (by decide) rfl) rfl ?_
    refine RL.gval rfl rfl (O.load sc22 rfl (Cs.adds [40] ((hM.bx (i := 0) rfl)) rfl)) rfl ?_
    refine RL.gval rfl rfl (O.leq rfl rfl) rfl ?_
    refine RL.val (O.pickt rfl rfl) rfl ?_
    refine vm rfl rfl ?_
    refine RL.bcase (t := 18) rfl (fun hc => ?_) (fun hc => ?_)
    ·rw [if_pos hc] at hF
     refine RL.gval rfl rfl (O.fldA fl46_6 (by decide) rfl) rfl ?_
     refine RL.gval rfl rfl (O.load sc5 rfl (Cs.adds [42] ((hM.bx (i := 0) rfl)) rfl)) rfl ?_
     refine RL.gval rfl rfl (O.geq rfl rfl) rfl ?_
     refine RL.val (O.pickt rfl rfl) rfl ?_
     refine vm rfl rfl ?_
     refine RL.bcase (t := 23) rfl (fun hc => ?_) (fun hc => ?_)
     ·rw [if_pos hc] at hF
      refine RL.gval rfl rfl (O.fldA fl46_6 (by decide) rfl) rfl ?_
      refine RL.gval rfl rfl (O.load sc5 rfl (Cs.adds [42] ((hM.bx (i := 0) rfl)) rfl)) rfl ?_
      refine RL.gval rfl rfl (O.leq rfl rfl) rfl ?_
      refine RL.val (O.pickt rfl rfl) rfl ?_
      refine va rfl rfl ?_
      refine RL.nil ?_
      refine KQ.then_k ?_
      replace hM := hM.pick [] rfl (by decide)
      exact fun a ha => ⟨(decide (rv1.f_Reason ≤ 5)), ha.less (less_cons rfl less_nil), hM, hF⟩
     rw [if_neg (ne_true hc)] at hF
     refine RL.brun1 4 27 false (by kernel_rfl) ?_
     refine va rfl rfl ?_
     refine RL.nil ?_
     refine KQ.then_k ?_
     replace hM := hM.pick [] rfl (by decide)
     exact fun a ha => ⟨false, ha.less (less_cons rfl less_nil), hM, hF⟩
    rw [if_neg (ne_true hc)] at hF
    refine RL.brun1 9 27 false (by kernel_rfl) ?_
    refine va rfl rfl ?_
    refine RL.nil ?_
    refine KQ.then_k ?_
    replace hM := hM.pick [] rfl (by decide)
    exact fun a ha => ⟨false, ha.less (less_cons rfl less_nil), hM, hF⟩
   rw [if_neg (ne_true hc)] at hF
   refine RL.brun1 16 27 false (by kernel_rfl) ?_
   refine va rfl rfl ?_
   refine RL.nil ?_
   refine KQ.then_k ?_
   replace hM := hM.pick [] rfl (by decide)
   exact fun a ha => ⟨false, ha.less (less_cons rfl less_nil), hM, hF⟩
  rw [if_neg (ne_true hc)] at hF
  refine RL.brun1 21 27 false (by kernel_rfl) ?_
  refine va rfl rfl ?_
  refine RL.nil ?_
  refine KQ.then_k ?_
  replace hM := hM.pick [] rfl (by decide)
  exact fun a ha => ⟨false, ha.less (less_cons rfl less_nil), hM, hF⟩
 rintro a w11 ⟨t10, ha, hM, hF⟩
 refine KC.app ha ?_
 clear ha
 unfold F_flow_Record_Right_j1 at hF
 refine KC.ret ?_
 have hE := Option.some.inj hF
 clear hF
 subst hE
 refine KQ.rets Try.results44 (RVs.cons (RV.tm rfl) RVs.nil) ?_
 exact ⟨_, rfl, rfl, hM⟩
set_option maxRecDepth 100000 in
set_option maxHeartbeats 40000000 in
theorem c_law24_ended (w : World) (A7 : Option Addr) (c8 : Nat) (sums6 : List T_law24_Sum) (hL10 : Lent w [.row A7 c8 89 39 (sums6).length ((sums6).flatMap e_law24_Sum)]) (A2 : Option Addr) (c3 : Nat) (lv1 : List T_flow_Record) (hr4 : Rd w A2 c3 44 lv1.length (lv1.flatMap e_flow_Record)) (ho5 : Off [rblk A7 c8] lv1.length A2) (r : (List T_law24_Sum) × Bool) (hF : F_law24_ended lv1 sums6 = some r) :
  CallsR Try.prog 16 [.slice A2 (lv1).length c3, .slice A7 (sums6).length c8] w (fun v w' => ∃ (A0 : Option Addr) (c0 : Nat), v = .tuple #[.slice A0 (r.1).length c0, vB r.2] ∧ Mem w [rblk A7 c8] w' [.row A0 c0 89 39 r.1.length (r.1.flatMap e_law24_Sum)]) := by
 refine calls_KC Try.func16 rfl Try.ntmps16 rfl ?_
 have hM : Mem w [rblk A7 c8] w [.row A7 c8 89 39 (sums6).length ((sums6).flatMap e_law24_Sum)] := Mem.lendN hL10
 unfold F_law24_ended at hF
 refine sr fun Q11 hQ11 => ?_
 refine va rfl rfl ?_
 refine va rfl rfl ?_
 refine nt hQ11 ?_
 clear hQ11 Q11
 refine KC.seqH fun Q12 hQ12 => ?_
 refine sr fun Q13 hQ13 => ?_
 refine va rfl rfl ?_
 refine nt hQ13 ?_
 clear hQ13 Q13
 refine KC.block ?_
 refine KC.loop (fun k86 a w84 => ∃ (A80 : Option Addr) (c81 : Nat) (sums82 : List T_law24_Sum) (i83 : Int), Kn 33 [(0, .slice A2 (lv1).length c3), (1, .slice A80 (sums82).length c81), (6, vI i83)] a ∧ Mem w [rblk A7 c8] w84 [.row A80 c81 89 39 (sums82).length ((sums82).flatMap e_law24_Sum)] ∧ F_law24_ended_L1 lv1 k86 sums82 i83 = some r) ?_ ?_
 ·exact fun a ha => ⟨fuel0, A7, c8, sums6, 0, ha.less (less_cons rfl (less_cons rfl (less_cons rfl less_nil))), hM, hF⟩
 rintro k86 a w84 ⟨A80, c81, sums82, i83, ha, hM, hF⟩
 refine KC.app ha ?_
 clear ha
 cases k86 with
 | zero => exact (none_some hF).elim
 | succ k86 =>
 have hF : F_law24_ended_l1 (F_law24_ended_L1 lv1 k86) lv1 sums82 i83 = some r := hF
 unfold F_law24_ended_l1 at hF
 refine KC.seqH fun Q87 hQ87 => ?_
 refine sr fun Q88 hQ88 => ?_
 refine vm rfl rfl ?_
 refine vm rfl rfl ?_
 refine RL.val (O.len sl41 rfl) rfl ?_
 refine RL.val (O.lss rfl rfl) rfl ?_
 refine nt hQ88 ?_
 clear hQ88 Q88
 refine KC.cond rfl (fun hc => ?_) (fun hc => ?_)
 ·rw [if_pos hc] at hF
  refine KC.skip ?_
  refine KQ.thn hQ87 ?_
  clear hQ87 Q87
  refine KC.seqH fun Q89 hQ89 => ?_
  refine KC.block ?_
  refine KC.seqH fun Q90 hQ90 => ?_
  refine sr fun Q91 hQ91 => ?_
  refine vm rfl rfl ?_
  refine vm rfl rfl ?_
  refine obindE hF fun xv94 hx93 hF => ?_
  have hA92 := Rd.atN (f := e_flow_Record) (s := 44) (fun _ => rfl) (by decide) (hM.inp hr4 ho5) hx93
  refine RL.val (O.idxA sl41 (hA92) rfl rfl) rfl ?_
  refine RL.val (O.loadN (cs := [vB xv94.f_Key.f_Src.f_Six, o8 xv94.f_Key.f_Src.f_B 0, o8 xv94.f_Key.f_Src.f_B 1, o8 xv94.f_Key.f_Src.f_B 2, o8 xv94.f_Key.f_Src.f_B 3, o8 xv94.f_Key.f_Src.f_B 4, o8 xv94.f_Key.f_Src.f_B 5, o8 xv94.f_Key.f_Src.f_B 6, o8 xv94.f_Key.f_Src.f_B 7, o8 xv94.f_Key.f_Src.f_B 8, o8 xv94.f_Key.f_Src.f_B 9, o8 xv94.f_Key.f_Src.f_B 10, o8 xv94.f_Key.f_Src.f_B 11, o8 xv94.f_Key.f_Src.f_B 12, o8 xv94.f_Key.f_Src.f_B 13, o8 xv94.f_Key.f_Src.f_B 14, o8 xv94.f_Key.f_Src.f_B 15, vB xv94.f_Key.f_Dst.f_Six, o8 xv94.f_Key.f_Dst.f_B 0, o8 xv94.f_Key.f_Dst.f_B 1, o8 xv94.f_Key.f_Dst.f_B 2, o8 xv94.f_Key.f_Dst.f_B 3, o8 xv94.f_Key.f_Dst.f_B 4, o8 xv94.f_Key.f_Dst.f_B 5, o8 xv94.f_Key.f_Dst.f_B 6, o8 xv94.f_Key.f_Dst.f_B 7, o8 xv94.f_Key.f_Dst.f_B 8, o8 xv94.f_Key.f_Dst.f_B 9, o8 xv94.f_Key.f_Dst.f_B 10, o8 xv94.f_Key.f_Dst.f_B 11, o8 xv94.f_Key.f_Dst.f_B 12, o8 xv94.f_Key.f_Dst.f_B 13, o8 xv94.f_Key.f_Dst.f_B 14, o8 xv94.f_Key.f_Dst.f_B 15, v8 xv94.f_Key.f_Proto, v16 xv94.f_Key.f_SrcPort, v16 xv94.f_Key.f_DstPort, v64 xv94.f_Packets, v64 xv94.f_Bytes, v64 xv94.f_First, v64 xv94.f_Last, v8 xv94.f_Flags, v8 xv94.f_Reason, v8 xv94.f_Class]) ag46 rfl (hA92).cells) rfl ?_
  refine obindE hF fun y95 hx96 hF => ?_
  refine RL.call Try.func44 bd44 rfl rfl (c_flow_Record_Right _ xv94 _ hx96) fun v w97 hv => ?_
  obtain ⟨rfl, hN98⟩ := hv
  replace hM := hM.call0 hN98
  refine RL.val (O.not rfl) rfl ?_
  refine nt hQ91 ?_
  clear hQ91 Q91
  refine KC.cond rfl (fun hc => ?_) (fun hc => ?_)
  ·rw [if_pos hc] at hF
   refine sr fun Q99 hQ99 => ?_
   refine vm rfl rfl ?_
   refine va rfl rfl ?_
   refine va rfl rfl ?_
   refine nt hQ99 ?_
   clear hQ99 Q99
   refine KC.ret ?_
   refine KQ.thr hQ90 ?_
   clear hQ90 Q90
   refine KQ.blk_r ?_
   refine KQ.thr hQ89 ?_
   clear hQ89 Q89
   refine KQ.then_r ?_
   refine KQ.blk_r ?_
   refine KQ.thr hQ12 ?_
   clear hQ12 Q12
   have hE := Option.some.inj hF
   clear hF
   subst hE
   refine KQ.rets Try.results16 (RVs.cons (RV.tm rfl) (RVs.cons (RV.tm rfl) RVs.nil)) ?_
   exact ⟨_, rfl, A80, c81, rfl, hM⟩
  rw [if_neg (ne_true hc)] at hF
  refine KC.skip ?_
  refine KQ.thn hQ90 ?_
  clear hQ90 Q90
  replace hM := hM.drewN 1
  refine KC.draw [] [11] [10, 11] [0, 1, 2, 4, 6, 7, 12] (.ofList [0, 1, 2, 3, 4, 5, 6, 7, 8, 9, 10, 11, 12]) moP (by kernel_rfl) ?_
  refine RD.p rfl rfl rfl rfl (fun w' => O.move rfl) ?_
  refine RD.p rfl rfl rfl rfl (fun w' => O.move rfl) ?_
  refine RD.p rfl rfl rfl rfl (fun w' => O.move rfl) ?_
  refine obindE hF fun xv102 hx101 hF => ?_
  have hA100 := Rd.atN (f := e_flow_Record) (s := 44) (fun _ => rfl) (by decide) (hM.inp hr4 ho5) hx101
  refine RD.q rfl rfl rfl rfl (fun w' hf => O.idxA sl41 (hA100.fut hf) rfl rfl) ?_
  refine RD.p rfl rfl rfl rfl (fun w' => O.fldA fl46_0 (by decide) rfl) ?_
  refine RD.q rfl rfl rfl rfl (fun w' hf => O.loadN (cs := [vB xv102.f_Key.f_Src.f_Six, o8 xv102.f_Key.f_Src.f_B 0, o8 xv102.f_Key.f_Src.f_B 1, o8 xv102.f_Key.f_Src.f_B 2, o8 xv102.f_Key.f_Src.f_B 3, o8 xv102.f_Key.f_Src.f_B 4, o8 xv102.f_Key.f_Src.f_B 5, o8 xv102.f_Key.f_Src.f_B 6, o8 xv102.f_Key.f_Src.f_B 7, o8 xv102.f_Key.f_Src.f_B 8, o8 xv102.f_Key.f_Src.f_B 9, o8 xv102.f_Key.f_Src.f_B 10, o8 xv102.f_Key.f_Src.f_B 11, o8 xv102.f_Key.f_Src.f_B 12, o8 xv102.f_Key.f_Src.f_B 13, o8 xv102.f_Key.f_Src.f_B 14, o8 xv102.f_Key.f_Src.f_B 15, vB xv102.f_Key.f_Dst.f_Six, o8 xv102.f_Key.f_Dst.f_B 0, o8 xv102.f_Key.f_Dst.f_B 1, o8 xv102.f_Key.f_Dst.f_B 2, o8 xv102.f_Key.f_Dst.f_B 3, o8 xv102.f_Key.f_Dst.f_B 4, o8 xv102.f_Key.f_Dst.f_B 5, o8 xv102.f_Key.f_Dst.f_B 6, o8 xv102.f_Key.f_Dst.f_B 7, o8 xv102.f_Key.f_Dst.f_B 8, o8 xv102.f_Key.f_Dst.f_B 9, o8 xv102.f_Key.f_Dst.f_B 10, o8 xv102.f_Key.f_Dst.f_B 11, o8 xv102.f_Key.f_Dst.f_B 12, o8 xv102.f_Key.f_Dst.f_B 13, o8 xv102.f_Key.f_Dst.f_B 14, o8 xv102.f_Key.f_Dst.f_B 15, v8 xv102.f_Key.f_Proto, v16 xv102.f_Key.f_SrcPort, v16 xv102.f_Key.f_DstPort]) ag36 rfl (Cs.addsN [0] (hA100.fut hf).cells rfl)) ?_
  refine RD.p rfl rfl rfl rfl (fun w' => O.move rfl) ?_
  refine RD.p rfl rfl rfl rfl (fun w' => O.move rfl) ?_
  refine obindE hF fun xv105 hx104 hF => ?_
  have hA103 := Rd.atN (f := e_flow_Record) (s := 44) (fun _ => rfl) (by decide) (hM.inp hr4 ho5) hx104
  refine RD.q rfl rfl rfl rfl (fun w' hf => O.idxA sl41 (hA103.fut hf) rfl rfl) ?_
  refine RD.q rfl rfl rfl rfl (fun w' hf => O.loadN (cs := [vB xv105.f_Key.f_Src.f_Six, o8 xv105.f_Key.f_Src.f_B 0, o8 xv105.f_Key.f_Src.f_B 1, o8 xv105.f_Key.f_Src.f_B 2, o8 xv105.f_Key.f_Src.f_B 3, o8 xv105.f_Key.f_Src.f_B 4, o8 xv105.f_Key.f_Src.f_B 5, o8 xv105.f_Key.f_Src.f_B 6, o8 xv105.f_Key.f_Src.f_B 7, o8 xv105.f_Key.f_Src.f_B 8, o8 xv105.f_Key.f_Src.f_B 9, o8 xv105.f_Key.f_Src.f_B 10, o8 xv105.f_Key.f_Src.f_B 11, o8 xv105.f_Key.f_Src.f_B 12, o8 xv105.f_Key.f_Src.f_B 13, o8 xv105.f_Key.f_Src.f_B 14, o8 xv105.f_Key.f_Src.f_B 15, vB xv105.f_Key.f_Dst.f_Six, o8 xv105.f_Key.f_Dst.f_B 0, o8 xv105.f_Key.f_Dst.f_B 1, o8 xv105.f_Key.f_Dst.f_B 2, o8 xv105.f_Key.f_Dst.f_B 3, o8 xv105.f_Key.f_Dst.f_B 4, o8 xv105.f_Key.f_Dst.f_B 5, o8 xv105.f_Key.f_Dst.f_B 6, o8 xv105.f_Key.f_Dst.f_B 7, o8 xv105.f_Key.f_Dst.f_B 8, o8 xv105.f_Key.f_Dst.f_B 9, o8 xv105.f_Key.f_Dst.f_B 10, o8 xv105.f_Key.f_Dst.f_B 11, o8 xv105.f_Key.f_Dst.f_B 12, o8 xv105.f_Key.f_Dst.f_B 13, o8 xv105.f_Key.f_Dst.f_B 14, o8 xv105.f_Key.f_Dst.f_B 15, v8 xv105.f_Key.f_Proto, v16 xv105.f_Key.f_SrcPort, v16 xv105.f_Key.f_DstPort, v64 xv105.f_Packets, v64 xv105.f_Bytes, v64 xv105.f_First, v64 xv105.f_Last, v8 xv105.f_Flags, v8 xv105.f_Reason, v8 xv105.f_Class]) ag46 rfl (hA103.fut hf).cells) ?_
  refine obindE hF fun y106 hx107 hF => ?_
  refine RD.mcall rfl rfl trivial Try.func18 bd18 rfl rfl (c_flow_Record_Total _ xv105 _ hx107) fun v w108 hv => ?_
  obtain ⟨rfl, hN109⟩ := hv
  refine ⟨fun _ => hN109.fut, ?_⟩
  replace hM := hM.call0 hN109
  refine obindE hF fun y110 hx111 hF => ?_
  refine RD.mcall rfl rfl trivial Try.func15 bd15 rfl rfl (c_law24_add _ _ _ sums82 (hM.lent [0] rfl (by decide)) xv102.f_Key y106 _ hx111) fun v w112 hv => ?_
  obtain ⟨A114, c115, rfl, hN113⟩ := hv
  refine ⟨fun h => (by cases h), ?_⟩
  replace hM := hM.callL [0] [] rfl rfl (by decide) rfl hN113
  refine RD.p rfl rfl rfl rfl (fun w' => O.assign rfl) ?_
  refine RD.nil ?_
  refine KQ.blk_n ?_
  refine KQ.thn hQ89 ?_
  clear hQ89 Q89
  refine KC.region ?_
  refine vm rfl rfl ?_
  refine RL.val (O.add rfl rfl) rfl ?_
  refine va rfl rfl ?_
  refine RL.nil ?_
  refine KQ.then_k ?_
  exact fun a ha => ⟨k86, Nat.lt_succ_self k86, A114, c115, y110, (IntKind.i64.wrap (i83 + 1)), ha.less (less_cons rfl (less_cons rfl (less_cons rfl less_nil))), hM, hF⟩
 rw [if_neg (ne_true hc)] at hF
 refine KC.exit ?_
 refine KQ.thx hQ87 ?_
 clear hQ87 Q87
 refine KQ.then_x ?_
 refine KQ.blk_x ?_
 refine KQ.thn hQ12 ?_
 clear hQ12 Q12
 refine sr fun Q117 hQ117 => ?_
 refine vm rfl rfl ?_
 refine va rfl rfl ?_
 refine va rfl rfl ?_
 refine nt hQ117 ?_
 clear hQ117 Q117
 refine KC.ret ?_
 have hE := Option.some.inj hF
 clear hF
 subst hE
 refine KQ.rets Try.results16 (RVs.cons (RV.tm rfl) (RVs.cons (RV.tm rfl) RVs.nil)) ?_
 exact ⟨_, rfl, A80, c81, rfl, hM⟩
set_option maxRecDepth 100000 in
set_option maxHeartbeats 40000000 in
theorem c_law24_same (w : World) (A2 : Option Addr) (c3 : Nat) (av1 : List T_law24_Sum) (hr4 : Rd w A2 c3 39 av1.length (av1.flatMap e_law24_Sum)) (A6 : Option Addr) (c7 : Nat) (b5 : List T_law24_Sum) (hr8 : Rd w A6 c7 39 b5.length (b5.flatMap e_law24_Sum)) (r : Bool) (hF : F_law24_same av1 b5 = some r) :
  CallsR Try.prog 19 [.slice A2 (av1).length c3, .slice A6 (b5).length c7] w (fun v w' => v = vB r ∧ Mem w [] w' []) := by
 refine calls_KC Try.func19 rfl Try.ntmps19 rfl ?_
 have hM := Mem.init w
 unfold F_law24_same at hF
 refine sr fun Q9 hQ9 => ?_
 refine va rfl rfl ?_
 refine nt hQ9 ?_
 clear hQ9 Q9
 refine KC.seqH fun Q10 hQ10 => ?_
 refine sr fun Q11 hQ11 => ?_
 refine va rfl rfl ?_
 refine nt hQ11 ?_
 clear hQ11 Q11
 refine KC.block ?_
 refine KC.loop (fun k112 a w110 => ∃ (i109 : Int), Kn 41 [(0, .slice A2 (av1).length c3), (1, .slice A6 (b5).length c7), (5, vI i109)] a ∧ Mem w [] w110 [] ∧ F_law24_same_L1 av1 b5 k112 i109 = some r) ?_ ?_
 ·exact fun a ha => ⟨fuel0, 0, ha.less (less_cons rfl (less_cons rfl (less_cons rfl less_nil))), hM, hF⟩
 rintro k112 a w110 ⟨i109, ha, hM, hF⟩
 refine KC.app ha ?_
 clear ha
 cases k112 with
 | zero => exact (none_some hF).elim
 | succ k112 =>
 have hF : F_law24_same_l1 (F_law24_same_L1 av1 b5 k112) av1 b5 i109 = some r := hF
 unfold F_law24_same_l1 at hF
 refine KC.seqH fun Q113 hQ113 => ?_
 refine sr fun Q114 hQ114 => ?_
 refine vm rfl rfl ?_
 refine vm rfl rfl ?_
 refine RL.val (O.len sl48 rfl) rfl ?_
 refine RL.val (O.lss rfl rfl) rfl ?_
 refine nt hQ114 ?_
 clear hQ114 Q114
 refine KC.cond rfl (fun hc => ?_) (fun hc => ?_)
 ·rw [if_pos hc] at hF
  refine KC.skip ?_
  refine KQ.thn hQ113 ?_
  clear hQ113 Q113
  refine KC.seqH fun Q115 hQ115 => ?_
  refine KC.block ?_
  refine sr fun Q116 hQ116 => ?_
  refine vm rfl rfl ?_
  refine vm rfl rfl ?_
  refine obindE hF fun xv119 hx118 hF => ?_
  have hA117 := Rd.atN (f := e_law24_Sum) (s := 39) (fun _ => rfl) (by decide) (hM.inp hr4 Off.nil) hx118
  refine RL.val (O.idxA sl48 (hA117) rfl rfl) rfl ?_
  refine RL.val (O.fldA fl89_1 (by decide) rfl) rfl ?_
  refine RL.val (O.loadN (cs := [v64 xv119.f_Total.f_Packets, v64 xv119.f_Total.f_Bytes]) ag55 rfl (Cs.addsN [37] (hA117).cells rfl)) rfl ?_
  refine RL.val (O.bld (cs := [v64 0, v64 0]) bt55 rfl (by kernel_rfl)) rfl ?_
  refine RL.val (O.steq (cs := [v64 xv119.f_Total.f_Packets, v64 xv119.f_Total.f_Bytes]) (cs' := [v64 0, v64 0]) (by kernel_rfl) rfl rfl (Q55t xv119.f_Total (T_flow_Total.mk 0 0) _ rfl rfl)) rfl ?_
  refine va rfl rfl ?_
  refine nt hQ116 ?_
  clear hQ116 Q116
  refine KC.seqH fun Q120 hQ120 => ?_
  refine sr fun Q121 hQ121 => ?_
  refine va rfl rfl ?_
  refine nt hQ121 ?_
  clear hQ121 Q121
  refine KC.block ?_
  refine KC.loop (fun k148 a w146 => ∃ (found144 : Bool) (kv145 : Int), Kn 41 [(0, .slice A2 (av1).length c3), (1, .slice A6 (b5).length c7), (5, vI i109), (6, vB found144), (7, vI kv145)] a ∧ Mem w [] w146 [] ∧ F_law24_same_L2 av1 b5 i109 (F_law24_same_L1 av1 b5 k112) k148 found144 kv145 = some r) ?_ ?_
  ·exact fun a ha => ⟨fuel0, (q_flow_Total xv119.f_Total (T_flow_Total.mk 0 0)), 0, ha.less (less_cons rfl (less_cons rfl (less_cons rfl (less_cons rfl (less_cons rfl less_nil))))), hM, hF⟩
  rintro k148 a w146 ⟨found144, kv145, ha, hM, hF⟩
  refine KC.app ha ?_
  clear ha
  cases k148 with
  | zero => exact (none_some hF).elim
  | succ k148 =>
  have hF : F_law24_same_l2 (F_law24_same_L2 av1 b5 i109 (F_law24_same_L1 av1 b5 k112) k148) av1 b5 i109 (F_law24_same_L1 av1 b5 k112) found144 kv145 = some r := hF
  unfold F_law24_same_l2 at hF
  refine KC.seqH fun Q149 hQ149 => ?_
  refine sr fun Q150 hQ150 => ?_
  refine vm rfl rfl ?_
  refine vm rfl rfl ?_
  refine RL.val (O.len sl48 rfl) rfl ?_
  refine RL.val (O.lss rfl rfl) rfl ?_
  refine nt hQ150 ?_
  clear hQ150 Q150
  refine KC.cond rfl (fun hc => ?_) (fun hc => ?_)
  ·rw [if_pos hc] at hF
   refine KC.skip ?_
   refine KQ.thn hQ149 ?_
   clear hQ149 Q149
   refine KC.cut (fun a w158 => ∃ (found157 : Bool), Kn 41 [(0, .slice A2 (av1).length c3), (1, .slice A6 (b5).length c7), (5, vI i109), (6, vB found157), (7, vI kv145)] a ∧ Mem w [] w158 [] ∧ F_law24_same_j1 kv145 (F_law24_same_L2 av1 b5 i109 (F_law24_same_L1 av1 b5 k112) k148) found157 = some r) ?_ ?_
   ·refine KC.block ?_
    replace hM := hM.drewN 1
    refine KC.draw [] [] [] [0, 1, 2, 3, 6, 7, 10, 11, 12] (.ofList [0, 1, 2, 3, 4, 5, 6, 7, 8, 9, 10, 11, 12]) moP (by kernel_rfl) ?_
    refine RD.p rfl rfl rfl rfl (fun w' => O.move rfl) ?_
    refine RD.p rfl rfl rfl rfl (fun w' => O.move rfl) ?_
    refine RD.bcase (t := 28) rfl (fun hc => ?_) (fun hc => ?_)
    ·rw [if_pos hc] at hF
     refine RD.gskip rfl rfl rfl rfl rfl ?_
     refine RD.gskip rfl rfl rfl rfl rfl ?_
     refine RD.gskip rfl rfl rfl rfl rfl ?_
     refine RD.gskip rfl rfl rfl rfl rfl ?_
     refine RD.gskip rfl rfl rfl rfl rfl ?_
     refine RD.gskip rfl rfl rfl rfl rfl ?_
     refine RD.gskip rfl rfl rfl rfl rfl ?_
     refine RD.gskip rfl rfl rfl rfl rfl ?_
     refine RD.gskip rfl rfl rfl rfl rfl ?_
     refine RD.p rfl rfl rfl rfl (fun w' => O.pickt rfl rfl) ?_
     refine RD.p rfl rfl rfl rfl (fun w' => O.assign rfl) ?_
     refine RD.nil ?_
     refine KQ.blk_n ?_
     refine KQ.then_k ?_
     exact fun a ha => ⟨true, ha.less (less_cons rfl (less_cons rfl (less_cons rfl (less_cons rfl (less_cons rfl less_nil))))), hM, hF⟩
    rw [if_neg (ne_true hc)] at hF
    refine RD.gp rfl rfl rfl rfl rfl rfl (fun w' => O.move rfl) ?_
    refine RD.gp rfl rfl rfl rfl rfl rfl (fun w' => O.move rfl) ?_
    refine obindE hF fun xv153 hx152 hF => ?_
    have hA151 := Rd.atN (f := e_law24_Sum) (s := 39) (fun _ => rfl) (by decide) (hM.inp hr8 Off.nil) hx152
    refine RD.gq rfl rfl rfl rfl rfl rfl (fun w' hf => O.idxA sl48 (hA151.fut hf) rfl rfl) ?_
    refine RD.gq rfl rfl rfl rfl rfl rfl (fun w' hf => O.loadN (cs := [vB xv153.f_Key.f_Src.f_Six, o8 xv153.f_Key.f_Src.f_B 0, o8 xv153.f_Key.f_Src.f_B 1, o8 xv153.f_Key.f_Src.f_B 2, o8 xv153.f_Key.f_Src.f_B 3, o8 xv153.f_Key.f_Src.f_B 4, o8 xv153.f_Key.f_Src.f_B 5, o8 xv153.f_Key.f_Src.f_B 6, o8 xv153.f_Key.f_Src.f_B 7, o8 xv153.f_Key.f_Src.f_B 8, o8 xv153.f_Key.f_Src.f_B 9, o8 xv153.f_Key.f_Src.f_B 10, o8 xv153.f_Key.f_Src.f_B 11, o8 xv153.f_Key.f_Src.f_B 12, o8 xv153.f_Key.f_Src.f_B 13, o8 xv153.f_Key.f_Src.f_B 14, o8 xv153.f_Key.f_Src.f_B 15, vB xv153.f_Key.f_Dst.f_Six, o8 xv153.f_Key.f_Dst.f_B 0, o8 xv153.f_Key.f_Dst.f_B 1, o8 xv153.f_Key.f_Dst.f_B 2, o8 xv153.f_Key.f_Dst.f_B 3, o8 xv153.f_Key.f_Dst.f_B 4, o8 xv153.f_Key.f_Dst.f_B 5, o8 xv153.f_Key.f_Dst.f_B 6, o8 xv153.f_Key.f_Dst.f_B 7, o8 xv153.f_Key.f_Dst.f_B 8, o8 xv153.f_Key.f_Dst.f_B 9, o8 xv153.f_Key.f_Dst.f_B 10, o8 xv153.f_Key.f_Dst.f_B 11, o8 xv153.f_Key.f_Dst.f_B 12, o8 xv153.f_Key.f_Dst.f_B 13, o8 xv153.f_Key.f_Dst.f_B 14, o8 xv153.f_Key.f_Dst.f_B 15, v8 xv153.f_Key.f_Proto, v16 xv153.f_Key.f_SrcPort, v16 xv153.f_Key.f_DstPort, v64 xv153.f_Total.f_Packets, v64 xv153.f_Total.f_Bytes]) ag89 rfl (hA151.fut hf).cells) ?_
    refine RD.gp rfl rfl rfl rfl rfl rfl (fun w' => O.move rfl) ?_
    refine RD.gp rfl rfl rfl rfl rfl rfl (fun w' => O.move rfl) ?_
    refine obindE hF fun xv156 hx155 hF => ?_
    have hA154 := Rd.atN (f := e_law24_Sum) (s := 39) (fun _ => rfl) (by decide) (hM.inp hr4 Off.nil) hx155
    refine RD.gq rfl rfl rfl rfl rfl rfl (fun w' hf => O.idxA sl48 (hA154.fut hf) rfl rfl) ?_
    refine RD.gq rfl rfl rfl rfl rfl rfl (fun w' hf => O.loadN (cs := [vB xv156.f_Key.f_Src.f_Six, o8 xv156.f_Key.f_Src.f_B 0, o8 xv156.f_Key.f_Src.f_B 1, o8 xv156.f_Key.f_Src.f_B 2, o8 xv156.f_Key.f_Src.f_B 3, o8 xv156.f_Key.f_Src.f_B 4, o8 xv156.f_Key.f_Src.f_B 5, o8 xv156.f_Key.f_Src.f_B 6, o8 xv156.f_Key.f_Src.f_B 7, o8 xv156.f_Key.f_Src.f_B 8, o8 xv156.f_Key.f_Src.f_B 9, o8 xv156.f_Key.f_Src.f_B 10, o8 xv156.f_Key.f_Src.f_B 11, o8 xv156.f_Key.f_Src.f_B 12, o8 xv156.f_Key.f_Src.f_B 13, o8 xv156.f_Key.f_Src.f_B 14, o8 xv156.f_Key.f_Src.f_B 15, vB xv156.f_Key.f_Dst.f_Six, o8 xv156.f_Key.f_Dst.f_B 0, o8 xv156.f_Key.f_Dst.f_B 1, o8 xv156.f_Key.f_Dst.f_B 2, o8 xv156.f_Key.f_Dst.f_B 3, o8 xv156.f_Key.f_Dst.f_B 4, o8 xv156.f_Key.f_Dst.f_B 5, o8 xv156.f_Key.f_Dst.f_B 6, o8 xv156.f_Key.f_Dst.f_B 7, o8 xv156.f_Key.f_Dst.f_B 8, o8 xv156.f_Key.f_Dst.f_B 9, o8 xv156.f_Key.f_Dst.f_B 10, o8 xv156.f_Key.f_Dst.f_B 11, o8 xv156.f_Key.f_Dst.f_B 12, o8 xv156.f_Key.f_Dst.f_B 13, o8 xv156.f_Key.f_Dst.f_B 14, o8 xv156.f_Key.f_Dst.f_B 15, v8 xv156.f_Key.f_Proto, v16 xv156.f_Key.f_SrcPort, v16 xv156.f_Key.f_DstPort, v64 xv156.f_Total.f_Packets, v64 xv156.f_Total.f_Bytes]) ag89 rfl (hA154.fut hf).cells) ?_
    refine RD.gp rfl rfl rfl rfl rfl rfl (fun w' => O.steq (cs := [vB xv153.f_Key.f_Src.f_Six, o8 xv153.f_Key.f_Src.f_B 0, o8 xv153.f_Key.f_Src.f_B 1, o8 xv153.f_Key.f_Src.f_B 2, o8 xv153.f_Key.f_Src.f_B 3, o8 xv153.f_Key.f_Src.f_B 4, o8 xv153.f_Key.f_Src.f_B 5, o8 xv153.f_Key.f_Src.f_B 6, o8 xv153.f_Key.f_Src.f_B 7, o8 xv153.f_Key.f_Src.f_B 8, o8 xv153.f_Key.f_Src.f_B 9, o8 xv153.f_Key.f_Src.f_B 10, o8 xv153.f_Key.f_Src.f_B 11, o8 xv153.f_Key.f_Src.f_B 12, o8 xv153.f_Key.f_Src.f_B 13, o8 xv153.f_Key.f_Src.f_B 14, o8 xv153.f_Key.f_Src.f_B 15, vB xv153.f_Key.f_Dst.f_Six, o8 xv153.f_Key.f_Dst.f_B 0, o8 xv153.f_Key.f_Dst.f_B 1, o8 xv153.f_Key.f_Dst.f_B 2, o8 xv153.f_Key.f_Dst.f_B 3, o8 xv153.f_Key.f_Dst.f_B 4, o8 xv153.f_Key.f_Dst.f_B 5, o8 xv153.f_Key.f_Dst.f_B 6, o8 xv153.f_Key.f_Dst.f_B 7, o8 xv153.f_Key.f_Dst.f_B 8, o8 xv153.f_Key.f_Dst.f_B 9, o8 xv153.f_Key.f_Dst.f_B 10, o8 xv153.f_Key.f_Dst.f_B 11, o8 xv153.f_Key.f_Dst.f_B 12, o8 xv153.f_Key.f_Dst.f_B 13, o8 xv153.f_Key.f_Dst.f_B 14, o8 xv153.f_Key.f_Dst.f_B 15, v8 xv153.f_Key.f_Proto, v16 xv153.f_Key.f_SrcPort, v16 xv153.f_Key.f_DstPort, v64 xv153.f_Total.f_Packets, v64 xv153.f_Total.f_Bytes]) (cs' := [vB xv156.f_Key.f_Src.f_Six, o8 xv156.f_Key.f_Src.f_B 0, o8 xv156.f_Key.f_Src.f_B 1, o8 xv156.f_Key.f_Src.f_B 2, o8 xv156.f_Key.f_Src.f_B 3, o8 xv156.f_Key.f_Src.f_B 4, o8 xv156.f_Key.f_Src.f_B 5, o8 xv156.f_Key.f_Src.f_B 6, o8 xv156.f_Key.f_Src.f_B 7, o8 xv156.f_Key.f_Src.f_B 8, o8 xv156.f_Key.f_Src.f_B 9, o8 xv156.f_Key.f_Src.f_B 10, o8 xv156.f_Key.f_Src.f_B 11, o8 xv156.f_Key.f_Src.f_B 12, o8 xv156.f_Key.f_Src.f_B 13, o8 xv156.f_Key.f_Src.f_B 14, o8 xv156.f_Key.f_Src.f_B 15, vB xv156.f_Key.f_Dst.f_Six, o8 xv156.f_Key.f_Dst.f_B 0, o8 xv156.f_Key.f_Dst.f_B 1, o8 xv156.f_Key.f_Dst.f_B 2, o8 xv156.f_Key.f_Dst.f_B 3, o8 xv156.f_Key.f_Dst.f_B 4, o8 xv156.f_Key.f_Dst.f_B 5, o8 xv156.f_Key.f_Dst.f_B 6, o8 xv156.f_Key.f_Dst.f_B 7, o8 xv156.f_Key.f_Dst.f_B 8, o8 xv156.f_Key.f_Dst.f_B 9, o8 xv156.f_Key.f_Dst.f_B 10, o8 xv156.f_Key.f_Dst.f_B 11, o8 xv156.f_Key.f_Dst.f_B 12, o8 xv156.f_Key.f_Dst.f_B 13, o8 xv156.f_Key.f_Dst.f_B 14, o8 xv156.f_Key.f_Dst.f_B 15, v8 xv156.f_Key.f_Proto, v16 xv156.f_Key.f_SrcPort, v16 xv156.f_Key.f_DstPort, v64 xv156.f_Total.f_Packets, v64 xv156.f_Total.f_Bytes]) (by kernel_rfl) rfl rfl (Q89t xv153 xv156 _ rfl rfl)) ?_
    refine RD.p rfl rfl rfl rfl (fun w' => O.pickf rfl rfl) ?_
    refine RD.p rfl rfl rfl rfl (fun w' => O.assign rfl) ?_
    refine RD.nil ?_
    refine KQ.blk_n ?_
    refine KQ.then_k ?_
    exact fun a ha => ⟨(q_law24_Sum xv153 xv156), ha.less (less_cons rfl (less_cons rfl (less_cons rfl (less_cons rfl (less_cons rfl less_nil))))), hM, hF⟩
   rintro a w158 ⟨found157, ha, hM, hF⟩
   refine KC.app ha ?_
   clear ha
   unfold F_law24_same_j1 at hF
   refine KC.region ?_
   refine vm rfl rfl ?_
   refine RL.val (O.add rfl rfl) rfl ?_
   refine va rfl rfl ?_
   refine RL.nil ?_
   refine KQ.then_k ?_
   exact fun a ha => ⟨k148, Nat.lt_succ_self k148, found157, (IntKind.i64.wrap (kv145 + 1)), ha.less (less_cons rfl (less_cons rfl (less_cons rfl (less_cons rfl (less_cons rfl less_nil))))), hM, hF⟩
  rw [if_neg (ne_true hc)] at hF
  refine KC.exit ?_
  refine KQ.thx hQ149 ?_
  clear hQ149 Q149
  refine KQ.then_x ?_
  refine KQ.blk_x ?_
  refine KQ.thn hQ120 ?_
  clear hQ120 Q120
  refine sr fun Q159 hQ159 => ?_
  refine vm rfl rfl ?_
  refine RL.val (O.not rfl) rfl ?_
  refine nt hQ159 ?_
  clear hQ159 Q159
  refine KC.cond rfl (fun hc => ?_) (fun hc => ?_)
  ·rw [if_pos hc] at hF
   refine sr fun Q160 hQ160 => ?_
   refine va rfl rfl ?_
   refine nt hQ160 ?_
   clear hQ160 Q160
   refine KC.ret ?_
   refine KQ.blk_r ?_
   refine KQ.thr hQ115 ?_
   clear hQ115 Q115
   refine KQ.then_r ?_
   refine KQ.blk_r ?_
   refine KQ.thr hQ10 ?_
   clear hQ10 Q10
   have hE := Option.some.inj hF
   clear hF
   subst hE
   refine KQ.rets Try.results19 (RVs.cons (RV.tm rfl) RVs.nil) ?_
   exact ⟨_, rfl, rfl, hM⟩
  rw [if_neg (ne_true hc)] at hF
  refine KC.skip ?_
  refine KQ.blk_n ?_
  refine KQ.thn hQ115 ?_
  clear hQ115 Q115
  refine KC.region ?_
  refine vm rfl rfl ?_
  refine RL.val (O.add rfl rfl) rfl ?_
  refine va rfl rfl ?_
  refine RL.nil ?_
  refine KQ.then_k ?_
  exact fun a ha => ⟨k112, Nat.lt_succ_self k112, (IntKind.i64.wrap (i109 + 1)), ha.less (less_cons rfl (less_cons rfl (less_cons rfl less_nil))), hM, hF⟩
 rw [if_neg (ne_true hc)] at hF
 refine KC.exit ?_
 refine KQ.thx hQ113 ?_
 clear hQ113 Q113
 refine KQ.then_x ?_
 refine KQ.blk_x ?_
 refine KQ.thn hQ10 ?_
 clear hQ10 Q10
 refine sr fun Q161 hQ161 => ?_
 refine va rfl rfl ?_
 refine nt hQ161 ?_
 clear hQ161 Q161
 refine KC.ret ?_
 have hE := Option.some.inj hF
 clear hF
 subst hE
 refine KQ.rets Try.results19 (RVs.cons (RV.tm rfl) RVs.nil) ?_
 exact ⟨_, rfl, rfl, hM⟩
end Go.Proofs.Ytkpnocgfhipidaa
