/- Printed by a program of this claim: each call returns what the plain function of its name gives. -/
import Derived.Test.YtcinagdkkclapaaW1
import Derived.Test.YtcinagdkkclapaaW7
import Derived.Test.YtcinagdkkclapaaW11
import Derived.Test.YtcinagdkkclapaaW15
import Derived.Test.YtcinagdkkclapaaW20
import Derived.Test.YtcinagdkkclapaaW21
set_option linter.unusedVariables false
namespace Go.Proofs.Ytcinagdkkclapaa
open Go Go.Ox Go.RowKit
set_option maxRecDepth 100000 in
set_option maxHeartbeats 40000000 in
theorem c_law07_TransKnown (w : World) (r : Bool) (hF : F_law07_TransKnown = some r) :
  CallsR Try.prog 6 [] w (fun v w' => v = vB r ∧ Mem w [] w' []) := by
 refine calls_KC Try.func6 rfl Try.ntmps6 rfl ?_
 have hM := Mem.init w
 unfold F_law07_TransKnown at hF
 refine sr fun Q1 hQ1 => ?_
 refine va rfl rfl ?_
 refine nt hQ1 ?_
 clear hQ1 Q1
 refine sr fun Q2 hQ2 => ?_
 refine va rfl rfl ?_
 refine nt hQ2 ?_
 clear hQ2 Q2
 refine KC.cut (fun a w23 => ∃ (A18 : Option Addr) (c19 : Nat) (A21 : Option Addr) (c22 : Nat), Kn 235 [(1, .slice none 0 0), (2, .slice A18 (([10, 0, 0, 1] : List Int)).length c19), (3, .slice A21 ((List.replicate (Int.toNat 16) (0 : Int))).length c22)] a ∧ Mem w [] w23 [.row A18 c19 5 1 (([10, 0, 0, 1] : List Int)).length ((([10, 0, 0, 1] : List Int)).flatMap (eI .u8)), .row A21 c22 5 1 ((List.replicate (Int.toNat 16) (0 : Int))).length (((List.replicate (Int.toNat 16) (0 : Int))).flatMap (eI .u8))] ∧ F_law07_TransKnown_j1 = some r) ?_ ?_
 ·replace hM := hM.drewN 1
  refine KC.draw [] [] [0, 1] [2, 3] (.alt 0 (.ofList [2, 1, 3]) 1 (.ofList [0, 2, 3])) moP (by kernel_rfl) ?_
  refine RD.alt ?_ ?_
  ·refine RD.meff rfl rfl (E.bsl (enc := (eI .u8)) (xs := ([10, 0, 0, 1] : List Int)) hM sl24 ze5 rfl rfl rfl (fun _ => rfl) rfl (by kernel_rfl) rfl) rfl fun v w3 hv => ?_
   clear hM
   obtain ⟨A4, rfl, hM, hf⟩ := hv
   refine ⟨fun _ => hf, ?_⟩
   refine RD.p rfl rfl rfl rfl (fun w' => O.assign rfl) ?_
   refine cut_someE hF fun hq8 hF => ?_
   refine RD.meff rfl rfl (E.mks (enc := (eI .u8)) (zr := 0) hM sl24 ze5 rfl rfl (fun _ => rfl) rfl rfl rfl (of_decide_eq_true hq8)) rfl fun v w7 hv => ?_
   clear hM
   obtain ⟨A6, rfl, hM, hf⟩ := hv
   refine ⟨fun _ => hf, ?_⟩
   refine RD.p rfl rfl rfl rfl (fun w' => O.assign rfl) ?_
   refine RD.nil ?_
   refine KQ.then_k ?_
   exact fun a ha => ⟨A4, 4, A6, (Int.toNat 16), ha.less (less_cons rfl (less_cons rfl (less_cons rfl less_nil))), hM, hF⟩
  refine cut_someE hF fun hq12 hF => ?_
  refine RD.meff rfl rfl (E.mks (enc := (eI .u8)) (zr := 0) hM sl24 ze5 rfl rfl (fun _ => rfl) rfl rfl rfl (of_decide_eq_true hq12)) rfl fun v w11 hv => ?_
  clear hM
  obtain ⟨A10, rfl, hM, hf⟩ := hv
  refine ⟨fun _ => hf, ?_⟩
  refine RD.meff rfl rfl (E.bsl (enc := (eI .u8)) (xs := ([10, 0, 0, 1] : List Int)) hM sl24 ze5 rfl rfl rfl (fun _ => rfl) rfl (by kernel_rfl) rfl) rfl fun v w14 hv => ?_
  clear hM
  obtain ⟨A15, rfl, hM, hf⟩ := hv
  refine ⟨fun _ => hf, ?_⟩
  refine RD.p rfl rfl rfl rfl (fun w' => O.assign rfl) ?_
  refine RD.p rfl rfl rfl rfl (fun w' => O.assign rfl) ?_
  refine RD.nil ?_
  refine KQ.then_k ?_
  replace hM := hM.pick [1, 0] rfl (by decide)
  exact fun a ha => ⟨A15, 4, A10, (Int.toNat 16), ha.less (less_cons rfl (less_cons rfl (less_cons rfl less_nil))), hM, hF⟩
 rintro a w23 ⟨A18, c19, A21, c22, ha, hM, hF⟩
 refine KC.app ha ?_
 clear ha
 unfold F_law07_TransKnown_j1 at hF
 refine KC.seqH fun Q24 hQ24 => ?_
 refine sr fun Q25 hQ25 => ?_
 refine va rfl rfl ?_
 refine nt hQ25 ?_
 clear hQ25 Q25
 refine KC.block ?_
 refine KC.loop (fun k1040 a w1038 => ∃ (A1032 : Option Addr) (c1033 : Nat) (data1034 : List Int) (i1037 : Int), Kn 235 [(1, .slice A1032 (data1034).length c1033), (2, .slice A18 (([10, 0, 0, 1] : List Int)).length c19), (3, .slice A21 ((List.replicate (Int.toNat 16) (0 : Int))).length c22), (4, vI i1037)] a ∧ Mem w [] w1038 [.row A1032 c1033 5 1 (data1034).length ((data1034).flatMap (eI .u8)), .row A18 c19 5 1 (([10, 0, 0, 1] : List Int)).length ((([10, 0, 0, 1] : List Int)).flatMap (eI .u8)), .row A21 c22 5 1 ((List.replicate (Int.toNat 16) (0 : Int))).length (((List.replicate (Int.toNat 16) (0 : Int))).flatMap (eI .u8))] ∧ F_law07_TransKnown_L1 k1040 data1034 i1037 = some r) ?_ ?_
 ·replace hM := hM.nilrow 5 1
  replace hM := hM.pick [2, 0, 1] rfl (by decide)
  exact fun a ha => ⟨fuel0, none, 0, ([]), 0, ha.less (less_cons rfl (less_cons rfl (less_cons rfl (less_cons rfl less_nil)))), hM, hF⟩
 rintro k1040 a w1038 ⟨A1032, c1033, data1034, i1037, ha, hM, hF⟩
 refine KC.app ha ?_
 clear ha
 cases k1040 with
 | zero => exact (none_some hF).elim
 | succ k1040 =>
 have hF : F_law07_TransKnown_l1 (F_law07_TransKnown_L1 k1040) data1034 i1037 = some r := hF
 unfold F_law07_TransKnown_l1 at hF
 refine KC.seqH fun Q1041 hQ1041 => ?_
 refine sr fun Q1042 hQ1042 => ?_
 refine vm rfl rfl ?_
 refine RL.val (O.lss rfl rfl) rfl ?_
 refine nt hQ1042 ?_
 clear hQ1042 Q1042
 refine KC.cond rfl (fun hc => ?_) (fun hc => ?_)
 ·rw [if_pos hc] at hF
  refine KC.skip ?_
  refine KQ.thn hQ1041 ?_
  clear hQ1041 Q1041
  refine KC.seqH fun Q1043 hQ1043 => ?_
  refine KC.block ?_
  refine sr fun Q1044 hQ1044 => ?_
  refine vm rfl rfl ?_
  refine vm rfl rfl ?_
  refine RL.val (O.mul rfl rfl) rfl ?_
  refine RL.val (O.conv un3 Try.underlying5 rfl) rfl ?_
  refine RL.eff (E.bsl (enc := (eI .u8)) (xs := ([(IntKind.u8.wrap (IntKind.i64.wrap (i1037 * 53)))] : List Int)) hM sl24 ze5 rfl rfl rfl (fun _ => rfl) rfl (by kernel_rfl) rfl) rfl fun v w1045 hv => ?_
  clear hM
  obtain ⟨A1046, rfl, hM, hf⟩ := hv
  refine cut_someE hF fun hq1051 hF => ?_
  refine RL.eff (E.app (enc := (eI .u8)) (xs := data1034) (ys := ([(IntKind.u8.wrap (IntKind.i64.wrap (i1037 * 53)))] : List Int)) (j := 0) hM rfl sl24 ze5 rfl rfl rfl rfl rfl (hM.rd (i := 3) rfl) (fun _ => One.all rfl) (of_decide_eq_true hq1051)) rfl fun v w1050 hv => ?_
  clear hM
  obtain ⟨A1048, c1049, rfl, hM, hf⟩ := hv
  refine va rfl rfl ?_
  refine nt hQ1044 ?_
  clear hQ1044 Q1044
  replace hM := hM.pick [0, 1, 2] rfl (by decide)
  refine sr fun Q1053 hQ1053 => ?_
  refine vm rfl rfl ?_
  refine vm rfl rfl ?_
  refine RL.val (O.conv un3 Try.underlying5 rfl) rfl ?_
  refine RL.eff (E.bsl (enc := (eI .u8)) (xs := ([10, 0, 0, (IntKind.u8.wrap i1037)] : List Int)) hM sl24 ze5 rfl rfl rfl (fun _ => rfl) rfl (by kernel_rfl) rfl) rfl fun v w1054 hv => ?_
  clear hM
  obtain ⟨A1055, rfl, hM, hf⟩ := hv
  refine va rfl rfl ?_
  refine va rfl rfl ?_
  refine nt hQ1053 ?_
  clear hQ1053 Q1053
  refine KC.cut (fun a w1082 => ∃ (A1075 : Option Addr) (c1076 : Nat) (A1079 : Option Addr) (c1080 : Nat) (src1077 : List Int) (dst1081 : List Int), Kn 235 [(1, .slice A1048 ((data1034 ++ ([(IntKind.u8.wrap (IntKind.i64.wrap (i1037 * 53)))] : List Int))).length c1049), (2, .slice A18 (([10, 0, 0, 1] : List Int)).length c19), (3, .slice A21 ((List.replicate (Int.toNat 16) (0 : Int))).length c22), (4, vI i1037), (5, .slice A1075 (src1077).length c1076), (6, .slice A1079 (dst1081).length c1080)] a ∧ Mem w [] w1082 [.row A1048 c1049 5 1 ((data1034 ++ ([(IntKind.u8.wrap (IntKind.i64.wrap (i1037 * 53)))] : List Int))).length (((data1034 ++ ([(IntKind.u8.wrap (IntKind.i64.wrap (i1037 * 53)))] : List Int))).flatMap (eI .u8)), .row A18 c19 5 1 (([10, 0, 0, 1] : List Int)).length ((([10, 0, 0, 1] : List Int)).flatMap (eI .u8)), .row A21 c22 5 1 ((List.replicate (Int.toNat 16) (0 : Int))).length (((List.replicate (Int.toNat 16) (0 : Int))).flatMap (eI .u8)), .row A1079 c1080 5 1 (dst1081).length ((dst1081).flatMap (eI .u8))] ∧ (∀ w2, Rd w2 A21 c22 1 (List.replicate (Int.toNat 16) (0 : Int)).length ((List.replicate (Int.toNat 16) (0 : Int)).flatMap (eI .u8)) → Rd w2 A18 c19 1 ([10, 0, 0, 1] : List Int).length (([10, 0, 0, 1] : List Int).flatMap (eI .u8)) → Rd w2 A1075 c1076 1 src1077.length (src1077.flatMap (eI .u8))) ∧ F_law07_TransKnown_j2 data1034 i1037 (F_law07_TransKnown_L1 k1040) src1077 dst1081 = some r) ?_ ?_
  ·refine sr fun Q1057 hQ1057 => ?_
   refine vm rfl rfl ?_
   refine RL.val (O.rem rfl rfl (by decide)) rfl ?_
   refine RL.val (O.gtr rfl rfl) rfl ?_
   refine nt hQ1057 ?_
   clear hQ1057 Q1057
   refine KC.cond rfl (fun hc => ?_) (fun hc => ?_)
   ·rw [if_pos hc] at hF
    refine sr fun Q1058 hQ1058 => ?_
    refine vm rfl rfl ?_
    refine va rfl rfl ?_
    refine nt hQ1058 ?_
    clear hQ1058 Q1058
    replace hM := hM.pick [0, 1, 2] rfl (by decide)
    refine sr fun Q1059 hQ1059 => ?_
    refine vm rfl rfl ?_
    replace hM := hM.row0 A1048 5 1
    refine RL.val (O.cut30 sl24 rfl rfl rfl) rfl ?_
    refine vm rfl rfl ?_
    refine cut_someE hF fun hq1064 hF => ?_
    refine RL.eff (E.app (enc := (eI .u8)) (xs := ([] : List Int)) (ys := (List.replicate (Int.toNat 16) (0 : Int))) (j := 3) hM rfl sl24 ze5 rfl rfl rfl rfl rfl (hM.rd (i := 2) rfl) (fun _ => One.all rfl) (of_decide_eq_true hq1064)) rfl fun v w1063 hv => ?_
    clear hM
    obtain ⟨A1061, c1062, rfl, hM, hf⟩ := hv
    refine va rfl rfl ?_
    refine nt hQ1059 ?_
    clear hQ1059 Q1059
    refine KC.region ?_
    refine vm rfl rfl ?_
    refine vm rfl rfl ?_
    refine RL.val (O.conv un3 Try.underlying5 rfl) rfl ?_
    refine obindE hF fun xv1068 hx1067 hF => ?_
    have hA1066 := Rd.atN (f := (eI .u8)) (s := 1) (fun _ => rfl) (by decide) (hM.rd (i := 3) rfl) hx1067
    refine RL.val (O.idxA sl24 (hA1066) rfl rfl) rfl ?_
    refine RL.effs (E.stR (enc := (eI .u8)) (j := 3) (off := 0) (vs := [v8 (IntKind.u8.wrap i1037)]) (x' := (IntKind.u8.wrap i1037)) hM rfl (fun _ => rfl) hx1067 sz5 rfl (addsR_eq [] rfl) rfl rfl (One.all rfl) rfl rfl) fun w1069 hM1 => ?_
    clear hM
    obtain ⟨hM, hn1070⟩ := hM1
    refine RL.reslot (t := 6) rfl hn1070 ?_
    refine RL.reslot (t := 37) rfl hn1070 ?_
    refine RL.nil ?_
    refine KQ.then_k ?_
    exact fun a ha => ⟨A21, c22, A1061, c1062, (List.replicate (Int.toNat 16) (0 : Int)), ((([] : List Int) ++ (List.replicate (Int.toNat 16) (0 : Int))).set (15 : Int).toNat (IntKind.u8.wrap i1037)), ha.less (less_cons rfl (less_cons rfl (less_cons rfl (less_cons rfl (less_cons rfl (less_cons rfl less_nil)))))), hM, (fun w2 h0 h1 => h0), hF⟩
   rw [if_neg (ne_true hc)] at hF
   refine KC.skip ?_
   refine KQ.then_k ?_
   exact fun a ha => ⟨A18, c19, A1055, 4, ([10, 0, 0, 1] : List Int), ([10, 0, 0, (IntKind.u8.wrap i1037)] : List Int), ha.less (less_cons rfl (less_cons rfl (less_cons rfl (less_cons rfl (less_cons rfl (less_cons rfl less_nil)))))), hM, (fun w2 h0 h1 => h1), hF⟩
  rintro a w1082 ⟨A1075, c1076, A1079, c1080, src1077, dst1081, ha, hM, hr1074, hF⟩
  refine KC.app ha ?_
  clear ha
  unfold F_law07_TransKnown_j2 at hF
  have hr1074r := hr1074 _ (hM.rd (i := 2) rfl) (hM.rd (i := 1) rfl)
  refine KC.cut (fun a w1123 => ∃ (g1117 : Nat) (A1120 : Option Addr) (c1121 : Nat) (s1118 : Int) (s1122 : List Int), Kn 235 [(1, .slice A1048 ((data1034 ++ ([(IntKind.u8.wrap (IntKind.i64.wrap (i1037 * 53)))] : List Int))).length c1049), (2, .slice A18 (([10, 0, 0, 1] : List Int)).length c19), (3, .slice A21 ((List.replicate (Int.toNat 16) (0 : Int))).length c22), (4, vI i1037), (5, .slice A1075 (src1077).length c1076), (6, .slice A1079 (dst1081).length c1080), (7, .pointer (some ⟨g1117, 0, none⟩))] a ∧ Mem w [] w1123 [.row A1048 c1049 5 1 ((data1034 ++ ([(IntKind.u8.wrap (IntKind.i64.wrap (i1037 * 53)))] : List Int))).length (((data1034 ++ ([(IntKind.u8.wrap (IntKind.i64.wrap (i1037 * 53)))] : List Int))).flatMap (eI .u8)), .row A18 c19 5 1 (([10, 0, 0, 1] : List Int)).length ((([10, 0, 0, 1] : List Int)).flatMap (eI .u8)), .row A21 c22 5 1 ((List.replicate (Int.toNat 16) (0 : Int))).length (((List.replicate (Int.toNat 16) (0 : Int))).flatMap (eI .u8)), .row A1079 c1080 5 1 (dst1081).length ((dst1081).flatMap (eI .u8)), .box g1117 26 [v8 s1118, v16 0, v16 0, v32 0, v32 0, v8 0, v16 0, v16 0, .slice none 0 0, v8 0, v8 0, .slice A1120 (s1122).length c1121]] ∧ Rd w1123 A1075 c1076 1 (src1077).length ((src1077).flatMap (eI .u8)) ∧ (∀ w2, Rd w2 A1048 c1049 1 (data1034 ++ ([(IntKind.u8.wrap (IntKind.i64.wrap (i1037 * 53)))] : List Int)).length ((data1034 ++ ([(IntKind.u8.wrap (IntKind.i64.wrap (i1037 * 53)))] : List Int)).flatMap (eI .u8)) → Rd w2 A1120 c1121 1 s1122.length (s1122.flatMap (eI .u8))) ∧ F_law07_TransKnown_j3 data1034 i1037 (F_law07_TransKnown_L1 k1040) src1077 dst1081 s1118 s1122 = some r) ?_ ?_
  ·replace hM := hM.drewN 1
   have hr1074r := hr1074r.fut (fut_drewN _ 1)
   refine KC.draw [] [15] [0, 14, 15] [1, 2, 5, 6, 7, 8, 9, 10, 11, 12] (.cons 1 (.cons 2 (.cons 5 (.cons 6 (.cons 7 (.cons 8 (.cons 9 (.cons 10 (.cons 11 (.cons 12 (.alt 0 (.ofList [3, 4, 13, 14, 15]) 14 (.ofList [0, 3, 4, 13, 15])))))))))))) moP (by kernel_rfl) ?_
   refine RD.p rfl rfl rfl rfl (fun w' => O.move rfl) ?_
   refine RD.p rfl rfl rfl rfl (fun w' => O.rem rfl rfl (by decide)) ?_
   refine RD.p rfl rfl rfl rfl (fun w' => O.move rfl) ?_
   refine RD.p rfl rfl rfl rfl (fun w' => O.move rfl) ?_
   refine RD.p rfl rfl rfl rfl (fun w' => O.mul rfl rfl) ?_
   refine RD.p rfl rfl rfl rfl (fun w' => O.rem rfl rfl (by decide)) ?_
   refine RD.p rfl rfl rfl rfl (fun w' => O.move rfl) ?_
   refine RD.p rfl rfl rfl rfl (fun w' => O.len sl24 rfl) ?_
   refine cut_someE hF fun hq1083 hF => ?_
   refine RD.p rfl rfl rfl rfl (fun w' => O.rem rfl rfl (of_decide_eq_true hq1083)) ?_
   refine obindE hF fun cut1084 hy1085 hF => ?_
   refine cutNE A1048 c1049 (Int.toNat 0) 1 fun A1086 c1087 eA1089 ec1090 => ?_
   have hr1088 := Rd.cutT (enc := (eI .u8)) (s := 1) (fun _ => rfl) (hM.rd (i := 0) rfl) hy1085 (m := c1049) (by have := (hM.rd (i := 0) rfl).cap; have := (gcut_some hy1085).2.2.1; omega) (Nat.le_refl _)
   rw [← eA1089, ← ec1090] at hr1088
   refine RD.p (v := .slice A1086 (cut1084).length c1087) rfl rfl rfl rfl (fun w' => (by rw [eA1089, ec1090]; exact O.cuthT sl24 (hM.rd (i := 0) rfl) hy1085 rfl rfl)) ?_
   refine RD.alt ?_ ?_
   ·refine RD.meff rfl rfl (E.bsl (enc := (eI .u8)) (xs := ([6, 17, 1, 58] : List Int)) hM sl24 ze5 rfl rfl rfl (fun _ => rfl) rfl (by kernel_rfl) rfl) rfl fun v w1091 hv => ?_
    clear hM
    obtain ⟨A1092, rfl, hM, hf⟩ := hv
    refine ⟨fun _ => hf, ?_⟩
    have hr1074r := hr1074r.fut hf
    have hr1088 := hr1088.fut hf
    refine obindE hF fun xv1096 hx1095 hF => ?_
    have hA1094 := Rd.atN (f := (eI .u8)) (s := 1) (fun _ => rfl) (by decide) (hM.rd (i := 4) rfl) hx1095
    refine RD.q rfl rfl rfl rfl (fun w' hf => O.idxA sl24 (hA1094.fut hf) rfl rfl) ?_
    refine RD.q rfl rfl rfl rfl (fun w' hf => O.load sc5 rfl (hA1094.fut hf).cells.at0) ?_
    refine RD.q rfl rfl rfl rfl (fun w' hf => O.bld (cs := [v8 xv1096, v16 0, v16 0, v32 0, v32 0, v8 0, v16 0, v16 0, .slice none 0 0, v8 0, v8 0, .slice A1086 (cut1084).length c1087]) bt26 rfl (by kernel_rfl)) ?_
    refine RD.meff rfl rfl (E.alloc hM ze26) rfl fun v w1098 hv => ?_
    clear hM
    obtain ⟨g1097, rfl, hM, hf⟩ := hv
    refine ⟨fun _ => hf, ?_⟩
    have hr1074r := hr1074r.fut hf
    have hr1088 := hr1088.fut hf
    refine RD.meffs rfl rfl rfl (E.stB (j := 5) (off := 0) (vs := [v8 xv1096, v16 0, v16 0, v32 0, v32 0, v8 0, v16 0, v16 0, .slice none 0 0, v8 0, v8 0, .slice A1086 (cut1084).length c1087]) (cs' := [v8 xv1096, v16 0, v16 0, v32 0, v32 0, v8 0, v16 0, v16 0, .slice none 0 0, v8 0, v8 0, .slice A1086 (cut1084).length c1087]) hM rfl sz26 rfl (adds_eq [] rfl) rfl rfl (One.all rfl) rfl rfl) fun w1100 hM1 => ?_
    clear hM
    have hM := hM1
    clear hM1
    have hr1074r := hr1074 _ (hM.rd (i := 2) rfl) (hM.rd (i := 1) rfl)
    have hr1088 := Rd.cutT (enc := (eI .u8)) (s := 1) (fun _ => rfl) (hM.rd (i := 0) rfl) hy1085 (m := c1049) (by have := (hM.rd (i := 0) rfl).cap; have := (gcut_some hy1085).2.2.1; omega) (Nat.le_refl _)
    rw [← eA1089, ← ec1090] at hr1088
    refine RD.nil ?_
    refine KQ.then_k ?_
    replace hM := hM.pick [0, 1, 2, 3, 5] rfl (by decide)
    exact fun a ha => ⟨g1097, A1086, c1087, xv1096, cut1084, ha.less (less_cons rfl (less_cons rfl (less_cons rfl (less_cons rfl (less_cons rfl (less_cons rfl (less_cons rfl less_nil))))))), hM, hr1074r, (fun w2 h0 => by (have g0 := Rd.cutT (enc := (eI .u8)) (s := 1) (fun _ => rfl) h0 hy1085 (m := c1049) (by have := h0.cap; have := (gcut_some hy1085).2.2.1; omega) (Nat.le_refl _); rw [← eA1089, ← ec1090] at g0; exact g0)), hF⟩
   refine RD.meff rfl rfl (E.alloc hM ze26) rfl fun v w1102 hv => ?_
   clear hM
   obtain ⟨g1101, rfl, hM, hf⟩ := hv
   refine ⟨fun _ => hf, ?_⟩
   have hr1074r := hr1074r.fut hf
   have hr1088 := hr1088.fut hf
   refine RD.meff rfl rfl (E.bsl (enc := (eI .u8)) (xs := ([6, 17, 1, 58] : List Int)) hM sl24 ze5 rfl rfl rfl (fun _ => rfl) rfl (by kernel_rfl) rfl) rfl fun v w1104 hv => ?_
   clear hM
   obtain ⟨A1105, rfl, hM, hf⟩ := hv
   refine ⟨fun _ => hf, ?_⟩
   have hr1074r := hr1074r.fut hf
   have hr1088 := hr1088.fut hf
   refine obindE hF fun xv1109 hx1108 hF => ?_
   have hA1107 := Rd.atN (f := (eI .u8)) (s := 1) (fun _ => rfl) (by decide) (hM.rd (i := 5) rfl) hx1108
   refine RD.q rfl rfl rfl rfl (fun w' hf => O.idxA sl24 (hA1107.fut hf) rfl rfl) ?_
   refine RD.q rfl rfl rfl rfl (fun w' hf => O.load sc5 rfl (hA1107.fut hf).cells.at0) ?_
   refine RD.q rfl rfl rfl rfl (fun w' hf => O.bld (cs := [v8 xv1109, v16 0, v16 0, v32 0, v32 0, v8 0, v16 0, v16 0, .slice none 0 0, v8 0, v8 0, .slice A1086 (cut1084).length c1087]) bt26 rfl (by kernel_rfl)) ?_
   refine RD.meffs rfl rfl rfl (E.stB (j := 4) (off := 0) (vs := [v8 xv1109, v16 0, v16 0, v32 0, v32 0, v8 0, v16 0, v16 0, .slice none 0 0, v8 0, v8 0, .slice A1086 (cut1084).length c1087]) (cs' := [v8 xv1109, v16 0, v16 0, v32 0, v32 0, v8 0, v16 0, v16 0, .slice none 0 0, v8 0, v8 0, .slice A1086 (cut1084).length c1087]) hM rfl sz26 rfl (adds_eq [] rfl) rfl rfl (One.all rfl) rfl rfl) fun w1110 hM1 => ?_
   clear hM
   have hM := hM1
   clear hM1
   have hr1074r := hr1074 _ (hM.rd (i := 2) rfl) (hM.rd (i := 1) rfl)
   have hr1088 := Rd.cutT (enc := (eI .u8)) (s := 1) (fun _ => rfl) (hM.rd (i := 0) rfl) hy1085 (m := c1049) (by have := (hM.rd (i := 0) rfl).cap; have := (gcut_some hy1085).2.2.1; omega) (Nat.le_refl _)
   rw [← eA1089, ← ec1090] at hr1088
   refine RD.nil ?_
   refine KQ.then_k ?_
   replace hM := hM.pick [0, 1, 2, 3, 4] rfl (by decide)
   exact fun a ha => ⟨g1101, A1086, c1087, xv1109, cut1084, ha.less (less_cons rfl (less_cons rfl (less_cons rfl (less_cons rfl (less_cons rfl (less_cons rfl (less_cons rfl less_nil))))))), hM, hr1074r, (fun w2 h0 => by (have g0 := Rd.cutT (enc := (eI .u8)) (s := 1) (fun _ => rfl) h0 hy1085 (m := c1049) (by have := h0.cap; have := (gcut_some hy1085).2.2.1; omega) (Nat.le_refl _); rw [← eA1089, ← ec1090] at g0; exact g0)), hF⟩
  rintro a w1123 ⟨g1117, A1120, c1121, s1118, s1122, ha, hM, hr1114, hr1119, hF⟩
  refine KC.app ha ?_
  clear ha
  unfold F_law07_TransKnown_j3 at hF
  have hr1119r := hr1119 _ (hM.rd (i := 0) rfl)
  refine KC.cut (fun a w1162 => ∃ (A1156 : Option Addr) (c1157 : Nat) (s1147 : Int) (s1148 : Int) (s1149 : Int) (s1150 : Int) (s1151 : Int) (s1152 : Int) (s1153 : Int) (s1154 : Int) (s1158 : List Int) (s1159 : Int) (s1160 : Int), Kn 235 [(1, .slice A1048 ((data1034 ++ ([(IntKind.u8.wrap (IntKind.i64.wrap (i1037 * 53)))] : List Int))).length c1049), (2, .slice A18 (([10, 0, 0, 1] : List Int)).length c19), (3, .slice A21 ((List.replicate (Int.toNat 16) (0 : Int))).length c22), (4, vI i1037), (5, .slice A1075 (src1077).length c1076), (6, .slice A1079 (dst1081).length c1080), (7, .pointer (some ⟨g1117, 0, none⟩))] a ∧ Mem w [] w1162 [.row A1048 c1049 5 1 ((data1034 ++ ([(IntKind.u8.wrap (IntKind.i64.wrap (i1037 * 53)))] : List Int))).length (((data1034 ++ ([(IntKind.u8.wrap (IntKind.i64.wrap (i1037 * 53)))] : List Int))).flatMap (eI .u8)), .row A18 c19 5 1 (([10, 0, 0, 1] : List Int)).length ((([10, 0, 0, 1] : List Int)).flatMap (eI .u8)), .row A21 c22 5 1 ((List.replicate (Int.toNat 16) (0 : Int))).length (((List.replicate (Int.toNat 16) (0 : Int))).flatMap (eI .u8)), .row A1079 c1080 5 1 (dst1081).length ((dst1081).flatMap (eI .u8)), .box g1117 26 [v8 s1147, v16 s1148, v16 s1149, v32 s1150, v32 s1151, v8 s1152, v16 s1153, v16 s1154, .slice A1156 (s1158).length c1157, v8 s1159, v8 s1160, .slice A1120 (s1122).length c1121]] ∧ Rd w1162 A1075 c1076 1 (src1077).length ((src1077).flatMap (eI .u8)) ∧ (∀ w2, Rd w2 A1048 c1049 1 (data1034 ++ ([(IntKind.u8.wrap (IntKind.i64.wrap (i1037 * 53)))] : List Int)).length ((data1034 ++ ([(IntKind.u8.wrap (IntKind.i64.wrap (i1037 * 53)))] : List Int)).flatMap (eI .u8)) → Rd w2 A1156 c1157 1 s1158.length (s1158.flatMap (eI .u8))) ∧ (∀ w2, Rd w2 A1048 c1049 1 (data1034 ++ ([(IntKind.u8.wrap (IntKind.i64.wrap (i1037 * 53)))] : List Int)).length ((data1034 ++ ([(IntKind.u8.wrap (IntKind.i64.wrap (i1037 * 53)))] : List Int)).flatMap (eI .u8)) → Rd w2 A1120 c1121 1 s1122.length (s1122.flatMap (eI .u8))) ∧ F_law07_TransKnown_j4 data1034 i1037 (F_law07_TransKnown_L1 k1040) src1077 dst1081 s1122 s1147 s1148 s1149 s1150 s1151 s1152 s1153 s1154 s1158 s1159 s1160 = some r) ?_ ?_
  ·refine sr fun Q1124 hQ1124 => ?_
   refine vm rfl rfl ?_
   refine RL.val (O.rem rfl rfl (by decide)) rfl ?_
   refine nt hQ1124 ?_
   clear hQ1124 Q1124
   refine KC.block ?_
   refine sr fun Q1125 hQ1125 => ?_
   refine RL.val (O.eql rfl rfl) rfl ?_
   refine va rfl rfl ?_
   refine nt hQ1125 ?_
   clear hQ1125 Q1125
   refine KC.cond rfl (fun hc => ?_) (fun hc => ?_)
   ·rw [if_pos hc] at hF
    replace hM := hM.drewN 1
    have hr1114 := hr1114.fut (fut_drewN _ 1)
    have hr1119r := hr1119r.fut (fut_drewN _ 1)
    refine KC.draw [] [19] [19] [0, 1, 2, 3, 4, 5, 6, 7, 8, 9, 10, 11, 12, 13, 14, 15, 16] (.ofList [0, 1, 2, 3, 4, 5, 6, 7, 8, 9, 10, 11, 12, 13, 14, 15, 16, 17, 18, 19]) moP (by kernel_rfl) ?_
    refine RD.p rfl rfl rfl rfl (fun w' => O.move rfl) ?_
    refine RD.p rfl rfl rfl rfl (fun w' => O.conv un3 Try.underlying22 rfl) ?_
    refine RD.p rfl rfl rfl rfl (fun w' => O.move rfl) ?_
    refine RD.p rfl rfl rfl rfl (fun w' => O.conv un3 Try.underlying23 rfl) ?_
    refine RD.p rfl rfl rfl rfl (fun w' => O.shl rfl rfl (by decide)) ?_
    refine RD.p rfl rfl rfl rfl (fun w' => O.move rfl) ?_
    refine RD.p rfl rfl rfl rfl (fun w' => O.mul rfl rfl) ?_
    refine RD.p rfl rfl rfl rfl (fun w' => O.conv un3 Try.underlying5 rfl) ?_
    refine RD.p rfl rfl rfl rfl (fun w' => O.move rfl) ?_
    refine RD.p rfl rfl rfl rfl (fun w' => O.conv un3 Try.underlying22 rfl) ?_
    refine RD.p rfl rfl rfl rfl (fun w' => O.move rfl) ?_
    refine RD.p rfl rfl rfl rfl (fun w' => O.move rfl) ?_
    refine RD.p rfl rfl rfl rfl (fun w' => O.quo rfl rfl (by decide)) ?_
    refine RD.p rfl rfl rfl rfl (fun w' => O.mul rfl rfl) ?_
    refine RD.p rfl rfl rfl rfl (fun w' => O.rem rfl rfl (by decide)) ?_
    refine obindE hF fun cut1126 hy1127 hF => ?_
    refine cutNE A1048 c1049 (Int.toNat 0) 1 fun A1128 c1129 eA1131 ec1132 => ?_
    have hr1130 := Rd.cutT (enc := (eI .u8)) (s := 1) (fun _ => rfl) (hM.rd (i := 0) rfl) hy1127 (m := c1049) (by have := (hM.rd (i := 0) rfl).cap; have := (gcut_some hy1127).2.2.1; omega) (Nat.le_refl _)
    rw [← eA1131, ← ec1132] at hr1130
    refine RD.p (v := .slice A1128 (cut1126).length c1129) rfl rfl rfl rfl (fun w' => (by rw [eA1131, ec1132]; exact O.cuthT sl24 (hM.rd (i := 0) rfl) hy1127 rfl rfl)) ?_
    refine RD.p rfl rfl rfl rfl (fun w' => O.fldA fl26_11 (by decide) rfl) ?_
    refine RD.q rfl rfl rfl rfl (fun w' hf => O.load sc24 rfl (Cs.adds [11] ((hM.bx (i := 4) rfl).fut hf) rfl)) ?_
    refine RD.q rfl rfl rfl rfl (fun w' hf => O.bld (cs := [v8 6, v16 (IntKind.u16.wrap i1037), v16 80, v32 (Ox.shl .u32 (IntKind.u32.wrap i1037) 24), v32 2147483648, v8 (IntKind.u8.wrap (IntKind.i64.wrap (i1037 * 5))), v16 65535, v16 (IntKind.u16.wrap i1037), .slice A1128 (cut1126).length c1129, v8 0, v8 0, .slice A1120 (s1122).length c1121]) bt26 rfl (by kernel_rfl)) ?_
    refine RD.meffs rfl rfl rfl (E.stB (j := 4) (off := 0) (vs := [v8 6, v16 (IntKind.u16.wrap i1037), v16 80, v32 (Ox.shl .u32 (IntKind.u32.wrap i1037) 24), v32 2147483648, v8 (IntKind.u8.wrap (IntKind.i64.wrap (i1037 * 5))), v16 65535, v16 (IntKind.u16.wrap i1037), .slice A1128 (cut1126).length c1129, v8 0, v8 0, .slice A1120 (s1122).length c1121]) (cs' := [v8 6, v16 (IntKind.u16.wrap i1037), v16 80, v32 (Ox.shl .u32 (IntKind.u32.wrap i1037) 24), v32 2147483648, v8 (IntKind.u8.wrap (IntKind.i64.wrap (i1037 * 5))), v16 65535, v16 (IntKind.u16.wrap i1037), .slice A1128 (cut1126).length c1129, v8 0, v8 0, .slice A1120 (s1122).length c1121]) hM rfl sz26 rfl (adds_eq [] rfl) rfl rfl (One.all rfl) rfl rfl) fun w1133 hM1 => ?_
    clear hM
    have hM := hM1
    clear hM1
    have hr1114 := hr1074 _ (hM.rd (i := 2) rfl) (hM.rd (i := 1) rfl)
    have hr1119r := hr1119 _ (hM.rd (i := 0) rfl)
    have hr1130 := Rd.cutT (enc := (eI .u8)) (s := 1) (fun _ => rfl) (hM.rd (i := 0) rfl) hy1127 (m := c1049) (by have := (hM.rd (i := 0) rfl).cap; have := (gcut_some hy1127).2.2.1; omega) (Nat.le_refl _)
    rw [← eA1131, ← ec1132] at hr1130
    refine RD.nil ?_
    refine KQ.blk_n ?_
    refine KQ.then_k ?_
    exact fun a ha => ⟨A1128, c1129, 6, (IntKind.u16.wrap i1037), 80, (Ox.shl .u32 (IntKind.u32.wrap i1037) 24), 2147483648, (IntKind.u8.wrap (IntKind.i64.wrap (i1037 * 5))), 65535, (IntKind.u16.wrap i1037), cut1126, 0, 0, ha.less (less_cons rfl (less_cons rfl (less_cons rfl (less_cons rfl (less_cons rfl (less_cons rfl (less_cons rfl less_nil))))))), hM, hr1114, (fun w2 h0 => by (have g0 := Rd.cutT (enc := (eI .u8)) (s := 1) (fun _ => rfl) h0 hy1127 (m := c1049) (by have := h0.cap; have := (gcut_some hy1127).2.2.1; omega) (Nat.le_refl _); rw [← eA1131, ← ec1132] at g0; exact g0)), (fun w2 h0 => by (have g0 := hr1119 _ h0; exact g0)), hF⟩
   rw [if_neg (ne_true hc)] at hF
   refine sr fun Q1134 hQ1134 => ?_
   refine RL.val (O.eql rfl rfl) rfl ?_
   refine va rfl rfl ?_
   refine nt hQ1134 ?_
   clear hQ1134 Q1134
   refine KC.cond rfl (fun hc => ?_) (fun hc => ?_)
   ·rw [if_pos hc] at hF
    refine sr fun Q1135 hQ1135 => ?_
    refine vm rfl rfl ?_
    refine RL.val (O.mul rfl rfl) rfl ?_
    refine RL.val (O.conv un3 Try.underlying22 rfl) rfl ?_
    refine RL.val (O.fldA fl26_1 (by decide) rfl) rfl ?_
    refine RL.effs (E.stB (j := 4) (off := 1) (vs := [v16 (IntKind.u16.wrap (IntKind.i64.wrap (i1037 * 1300)))]) (cs' := [v8 s1118, v16 (IntKind.u16.wrap (IntKind.i64.wrap (i1037 * 1300))), v16 0, v32 0, v32 0, v8 0, v16 0, v16 0, .slice none 0 0, v8 0, v8 0, .slice A1120 (s1122).length c1121]) hM rfl sz22 rfl (adds_eq [1] rfl) rfl rfl (One.all rfl) rfl rfl) fun w1136 hM1 => ?_
    clear hM
    have hM := hM1
    clear hM1
    have hr1114 := hr1074 _ (hM.rd (i := 2) rfl) (hM.rd (i := 1) rfl)
    have hr1119r := hr1119 _ (hM.rd (i := 0) rfl)
    refine nt hQ1135 ?_
    clear hQ1135 Q1135
    refine KC.region ?_
    refine RL.val (O.fldA fl26_2 (by decide) rfl) rfl ?_
    refine RL.effs (E.stB (j := 4) (off := 2) (vs := [v16 53]) (cs' := [v8 s1118, v16 (IntKind.u16.wrap (IntKind.i64.wrap (i1037 * 1300))), v16 53, v32 0, v32 0, v8 0, v16 0, v16 0, .slice none 0 0, v8 0, v8 0, .slice A1120 (s1122).length c1121]) hM rfl sz22 rfl (adds_eq [2] rfl) rfl rfl (One.all rfl) rfl rfl) fun w1137 hM1 => ?_
    clear hM
    have hM := hM1
    clear hM1
    have hr1114 := hr1074 _ (hM.rd (i := 2) rfl) (hM.rd (i := 1) rfl)
    have hr1119r := hr1119 _ (hM.rd (i := 0) rfl)
    refine RL.nil ?_
    refine KQ.blk_n ?_
    refine KQ.then_k ?_
    exact fun a ha => ⟨none, 0, s1118, (IntKind.u16.wrap (IntKind.i64.wrap (i1037 * 1300))), 53, 0, 0, 0, 0, 0, ([]), 0, 0, ha.less (less_cons rfl (less_cons rfl (less_cons rfl (less_cons rfl (less_cons rfl (less_cons rfl (less_cons rfl less_nil))))))), hM, hr1114, (fun w2 h0 => Rd.nilr), (fun w2 h0 => by (have g0 := hr1119 _ h0; exact g0)), hF⟩
   rw [if_neg (ne_true hc)] at hF
   refine sr fun Q1138 hQ1138 => ?_
   refine vm rfl rfl ?_
   refine RL.val (O.conv un3 Try.underlying5 rfl) rfl ?_
   refine RL.val (O.fldA fl26_9 (by decide) rfl) rfl ?_
   refine RL.effs (E.stB (j := 4) (off := 9) (vs := [v8 (IntKind.u8.wrap i1037)]) (cs' := [v8 s1118, v16 0, v16 0, v32 0, v32 0, v8 0, v16 0, v16 0, .slice none 0 0, v8 (IntKind.u8.wrap i1037), v8 0, .slice A1120 (s1122).length c1121]) hM rfl sz5 rfl (adds_eq [9] rfl) rfl rfl (One.all rfl) rfl rfl) fun w1139 hM1 => ?_
   clear hM
   have hM := hM1
   clear hM1
   have hr1114 := hr1074 _ (hM.rd (i := 2) rfl) (hM.rd (i := 1) rfl)
   have hr1119r := hr1119 _ (hM.rd (i := 0) rfl)
   refine nt hQ1138 ?_
   clear hQ1138 Q1138
   refine KC.region ?_
   refine vm rfl rfl ?_
   refine RL.val (O.quo rfl rfl (by decide)) rfl ?_
   refine RL.val (O.conv un3 Try.underlying5 rfl) rfl ?_
   refine RL.val (O.fldA fl26_10 (by decide) rfl) rfl ?_
   refine RL.effs (E.stB (j := 4) (off := 10) (vs := [v8 (IntKind.u8.wrap (IntKind.i64.wrap (Int.tdiv i1037 5)))]) (cs' := [v8 s1118, v16 0, v16 0, v32 0, v32 0, v8 0, v16 0, v16 0, .slice none 0 0, v8 (IntKind.u8.wrap i1037), v8 (IntKind.u8.wrap (IntKind.i64.wrap (Int.tdiv i1037 5))), .slice A1120 (s1122).length c1121]) hM rfl sz5 rfl (adds_eq [10] rfl) rfl rfl (One.all rfl) rfl rfl) fun w1140 hM1 => ?_
   clear hM
   have hM := hM1
   clear hM1
   have hr1114 := hr1074 _ (hM.rd (i := 2) rfl) (hM.rd (i := 1) rfl)
   have hr1119r := hr1119 _ (hM.rd (i := 0) rfl)
   refine RL.nil ?_
   refine KQ.blk_n ?_
   refine KQ.then_k ?_
   exact fun a ha => ⟨none, 0, s1118, 0, 0, 0, 0, 0, 0, 0, ([]), (IntKind.u8.wrap i1037), (IntKind.u8.wrap (IntKind.i64.wrap (Int.tdiv i1037 5))), ha.less (less_cons rfl (less_cons rfl (less_cons rfl (less_cons rfl (less_cons rfl (less_cons rfl (less_cons rfl less_nil))))))), hM, hr1114, (fun w2 h0 => Rd.nilr), (fun w2 h0 => by (have g0 := hr1119 _ h0; exact g0)), hF⟩
  rintro a w1162 ⟨A1156, c1157, s1147, s1148, s1149, s1150, s1151, s1152, s1153, s1154, s1158, s1159, s1160, ha, hM, hr1144, hr1155, hr1161, hF⟩
  refine KC.app ha ?_
  clear ha
  unfold F_law07_TransKnown_j4 at hF
  have hr1155r := hr1155 _ (hM.rd (i := 0) rfl)
  have hr1161r := hr1161 _ (hM.rd (i := 0) rfl)
  refine sr fun Q1163 hQ1163 => ?_
  refine RL.val (O.loadN (cs := [v8 s1147, v16 s1148, v16 s1149, v32 s1150, v32 s1151, v8 s1152, v16 s1153, v16 s1154, .slice A1156 (s1158).length c1157, v8 s1159, v8 s1160, .slice A1120 (s1122).length c1121]) ag26 rfl (Cs.addsN [] ((hM.bx (i := 4) rfl)) rfl)) rfl ?_
  refine RL.eff (E.alloc hM ze26) rfl fun v w1165 hv => ?_
  clear hM
  obtain ⟨g1164, rfl, hM, hf⟩ := hv
  have hr1144 := hr1144.fut hf
  have hr1155r := hr1155r.fut hf
  have hr1161r := hr1161r.fut hf
  refine RL.effs (E.stB (j := 5) (off := 0) (vs := [v8 s1147, v16 s1148, v16 s1149, v32 s1150, v32 s1151, v8 s1152, v16 s1153, v16 s1154, .slice A1156 (s1158).length c1157, v8 s1159, v8 s1160, .slice A1120 (s1122).length c1121]) (cs' := [v8 s1147, v16 s1148, v16 s1149, v32 s1150, v32 s1151, v8 s1152, v16 s1153, v16 s1154, .slice A1156 (s1158).length c1157, v8 s1159, v8 s1160, .slice A1120 (s1122).length c1121]) hM rfl sz26 rfl (adds_eq [] rfl) rfl rfl (One.all rfl) rfl rfl) fun w1167 hM1 => ?_
  clear hM
  have hM := hM1
  clear hM1
  have hr1144 := hr1074 _ (hM.rd (i := 2) rfl) (hM.rd (i := 1) rfl)
  have hr1155r := hr1155 _ (hM.rd (i := 0) rfl)
  have hr1161r := hr1161 _ (hM.rd (i := 0) rfl)
  refine nt hQ1163 ?_
  clear hQ1163 Q1163
  refine KC.cut (fun a w1206 => ∃ (A1202 : Option Addr) (c1203 : Nat) (t1199 : Int) (t1200 : Int) (t1204 : List Int) (t1205 : Int), Kn 235 [(1, .slice A1048 ((data1034 ++ ([(IntKind.u8.wrap (IntKind.i64.wrap (i1037 * 53)))] : List Int))).length c1049), (2, .slice A18 (([10, 0, 0, 1] : List Int)).length c19), (3, .slice A21 ((List.replicate (Int.toNat 16) (0 : Int))).length c22), (4, vI i1037), (5, .slice A1075 (src1077).length c1076), (6, .slice A1079 (dst1081).length c1080), (7, .pointer (some ⟨g1117, 0, none⟩)), (8, .pointer (some ⟨g1164, 0, none⟩))] a ∧ Mem w [] w1206 [.row A1048 c1049 5 1 ((data1034 ++ ([(IntKind.u8.wrap (IntKind.i64.wrap (i1037 * 53)))] : List Int))).length (((data1034 ++ ([(IntKind.u8.wrap (IntKind.i64.wrap (i1037 * 53)))] : List Int))).flatMap (eI .u8)), .row A18 c19 5 1 (([10, 0, 0, 1] : List Int)).length ((([10, 0, 0, 1] : List Int)).flatMap (eI .u8)), .row A21 c22 5 1 ((List.replicate (Int.toNat 16) (0 : Int))).length (((List.replicate (Int.toNat 16) (0 : Int))).flatMap (eI .u8)), .row A1079 c1080 5 1 (dst1081).length ((dst1081).flatMap (eI .u8)), .box g1117 26 [v8 s1147, v16 s1148, v16 s1149, v32 s1150, v32 s1151, v8 s1152, v16 s1153, v16 s1154, .slice A1156 (s1158).length c1157, v8 s1159, v8 s1160, .slice A1120 (s1122).length c1121], .box g1164 26 [v8 t1199, v16 t1200, v16 s1149, v32 s1150, v32 s1151, v8 s1152, v16 s1153, v16 s1154, .slice A1202 (t1204).length c1203, v8 t1205, v8 s1160, .slice A1120 (s1122).length c1121]] ∧ Rd w1206 A1075 c1076 1 (src1077).length ((src1077).flatMap (eI .u8)) ∧ (∀ w2, Rd w2 A1048 c1049 1 (data1034 ++ ([(IntKind.u8.wrap (IntKind.i64.wrap (i1037 * 53)))] : List Int)).length ((data1034 ++ ([(IntKind.u8.wrap (IntKind.i64.wrap (i1037 * 53)))] : List Int)).flatMap (eI .u8)) → Rd w2 A1156 c1157 1 s1158.length (s1158.flatMap (eI .u8))) ∧ (∀ w2, Rd w2 A1048 c1049 1 (data1034 ++ ([(IntKind.u8.wrap (IntKind.i64.wrap (i1037 * 53)))] : List Int)).length ((data1034 ++ ([(IntKind.u8.wrap (IntKind.i64.wrap (i1037 * 53)))] : List Int)).flatMap (eI .u8)) → Rd w2 A1120 c1121 1 s1122.length (s1122.flatMap (eI .u8))) ∧ Rd w1206 A1202 c1203 1 (t1204).length ((t1204).flatMap (eI .u8)) ∧ F_law07_TransKnown_j5 data1034 i1037 (F_law07_TransKnown_L1 k1040) src1077 dst1081 s1122 s1147 s1148 s1149 s1150 s1151 s1152 s1153 s1154 s1158 s1159 s1160 t1199 t1200 t1204 t1205 = some r) ?_ ?_
  ·refine sr fun Q1168 hQ1168 => ?_
   refine vm rfl rfl ?_
   refine RL.val (O.rem rfl rfl (by decide)) rfl ?_
   refine nt hQ1168 ?_
   clear hQ1168 Q1168
   refine KC.block ?_
   refine sr fun Q1169 hQ1169 => ?_
   refine RL.val (O.eql rfl rfl) rfl ?_
   refine va rfl rfl ?_
   refine nt hQ1169 ?_
   clear hQ1169 Q1169
   refine KC.cond rfl (fun hc => ?_) (fun hc => ?_)
   ·rw [if_pos hc] at hF
    refine KC.region ?_
    refine RL.val (O.fldA fl26_9 (by decide) rfl) rfl ?_
    refine RL.effs (E.stB (j := 5) (off := 9) (vs := [v8 1]) (cs' := [v8 s1147, v16 s1148, v16 s1149, v32 s1150, v32 s1151, v8 s1152, v16 s1153, v16 s1154, .slice A1156 (s1158).length c1157, v8 1, v8 s1160, .slice A1120 (s1122).length c1121]) hM rfl sz5 rfl (adds_eq [9] rfl) rfl rfl (One.all rfl) rfl rfl) fun w1170 hM1 => ?_
    clear hM
    have hM := hM1
    clear hM1
    have hr1144 := hr1074 _ (hM.rd (i := 2) rfl) (hM.rd (i := 1) rfl)
    have hr1155r := hr1155 _ (hM.rd (i := 0) rfl)
    have hr1161r := hr1161 _ (hM.rd (i := 0) rfl)
    refine RL.nil ?_
    refine KQ.blk_n ?_
    refine KQ.then_k ?_
    exact fun a ha => ⟨A1156, c1157, s1147, s1148, s1158, 1, ha.less (less_cons rfl (less_cons rfl (less_cons rfl (less_cons rfl (less_cons rfl (less_cons rfl (less_cons rfl (less_cons rfl less_nil)))))))), hM, hr1144, (fun w2 h0 => by (have g0 := hr1155 _ h0; exact g0)), (fun w2 h0 => by (have g0 := hr1161 _ h0; exact g0)), hr1155r, hF⟩
   rw [if_neg (ne_true hc)] at hF
   refine sr fun Q1171 hQ1171 => ?_
   refine RL.val (O.eql rfl rfl) rfl ?_
   refine va rfl rfl ?_
   refine nt hQ1171 ?_
   clear hQ1171 Q1171
   refine KC.cond rfl (fun hc => ?_) (fun hc => ?_)
   ·rw [if_pos hc] at hF
    refine KC.region ?_
    refine RL.val (O.fldA fl26_1 (by decide) rfl) rfl ?_
    refine RL.effs (E.stB (j := 5) (off := 1) (vs := [v16 9]) (cs' := [v8 s1147, v16 9, v16 s1149, v32 s1150, v32 s1151, v8 s1152, v16 s1153, v16 s1154, .slice A1156 (s1158).length c1157, v8 s1159, v8 s1160, .slice A1120 (s1122).length c1121]) hM rfl sz22 rfl (adds_eq [1] rfl) rfl rfl (One.all rfl) rfl rfl) fun w1172 hM1 => ?_
    clear hM
    have hM := hM1
    clear hM1
    have hr1144 := hr1074 _ (hM.rd (i := 2) rfl) (hM.rd (i := 1) rfl)
    have hr1155r := hr1155 _ (hM.rd (i := 0) rfl)
    have hr1161r := hr1161 _ (hM.rd (i := 0) rfl)
    refine RL.nil ?_
    refine KQ.blk_n ?_
    refine KQ.then_k ?_
    exact fun a ha => ⟨A1156, c1157, s1147, 9, s1158, s1159, ha.less (less_cons rfl (less_cons rfl (less_cons rfl (less_cons rfl (less_cons rfl (less_cons rfl (less_cons rfl (less_cons rfl less_nil)))))))), hM, hr1144, (fun w2 h0 => by (have g0 := hr1155 _ h0; exact g0)), (fun w2 h0 => by (have g0 := hr1161 _ h0; exact g0)), hr1155r, hF⟩
   rw [if_neg (ne_true hc)] at hF
   refine sr fun Q1173 hQ1173 => ?_
   refine RL.val (O.eql rfl rfl) rfl ?_
   refine va rfl rfl ?_
   refine nt hQ1173 ?_
   clear hQ1173 Q1173
   refine KC.cond rfl (fun hc => ?_) (fun hc => ?_)
   ·rw [if_pos hc] at hF
    refine KC.region ?_
    refine vm rfl rfl ?_
    refine vm rfl rfl ?_
    refine RL.val (O.len sl24 rfl) rfl ?_
    refine RL.val (O.min2 rfl rfl) rfl ?_
    refine obindE hF fun cut1174 hy1175 hF => ?_
    refine cutNE A1048 c1049 (Int.toNat 0) 1 fun A1176 c1177 eA1179 ec1180 => ?_
    have hr1178 := Rd.cutT (enc := (eI .u8)) (s := 1) (fun _ => rfl) (hM.rd (i := 0) rfl) hy1175 (m := c1049) (by have := (hM.rd (i := 0) rfl).cap; have := (gcut_some hy1175).2.2.1; omega) (Nat.le_refl _)
    rw [← eA1179, ← ec1180] at hr1178
    refine RL.val (v := .slice A1176 (cut1174).length c1177) (by rw [eA1179, ec1180]; exact O.cuthT sl24 (hM.rd (i := 0) rfl) hy1175 rfl rfl) rfl ?_
    refine RL.val (O.fldA fl26_8 (by decide) rfl) rfl ?_
    refine RL.effs (E.stB (j := 5) (off := 8) (vs := [.slice A1176 (cut1174).length c1177]) (cs' := [v8 s1147, v16 s1148, v16 s1149, v32 s1150, v32 s1151, v8 s1152, v16 s1153, v16 s1154, .slice A1176 (cut1174).length c1177, v8 s1159, v8 s1160, .slice A1120 (s1122).length c1121]) hM rfl sz24 rfl (adds_eq [8] rfl) rfl rfl (One.all rfl) rfl rfl) fun w1181 hM1 => ?_
    clear hM
    have hM := hM1
    clear hM1
    have hr1144 := hr1074 _ (hM.rd (i := 2) rfl) (hM.rd (i := 1) rfl)
    have hr1155r := hr1155 _ (hM.rd (i := 0) rfl)
    have hr1161r := hr1161 _ (hM.rd (i := 0) rfl)
    have hr1178 := Rd.cutT (enc := (eI .u8)) (s := 1) (fun _ => rfl) (hM.rd (i := 0) rfl) hy1175 (m := c1049) (by have := (hM.rd (i := 0) rfl).cap; have := (gcut_some hy1175).2.2.1; omega) (Nat.le_refl _)
    rw [← eA1179, ← ec1180] at hr1178
    refine RL.nil ?_
    refine KQ.blk_n ?_
    refine KQ.then_k ?_
    exact fun a ha => ⟨A1176, c1177, s1147, s1148, cut1174, s1159, ha.less (less_cons rfl (less_cons rfl (less_cons rfl (less_cons rfl (less_cons rfl (less_cons rfl (less_cons rfl (less_cons rfl less_nil)))))))), hM, hr1144, (fun w2 h0 => by (have g0 := hr1155 _ h0; exact g0)), (fun w2 h0 => by (have g0 := hr1161 _ h0; exact g0)), hr1178, hF⟩
   rw [if_neg (ne_true hc)] at hF
   refine sr fun Q1182 hQ1182 => ?_
   refine RL.val (O.eql rfl rfl) rfl ?_
   refine va rfl rfl ?_
   refine nt hQ1182 ?_
   clear hQ1182 Q1182
   refine KC.cond rfl (fun hc => ?_) (fun hc => ?_)
   ·rw [if_pos hc] at hF
    refine KC.region ?_
    refine vm rfl rfl ?_
    refine RL.val (O.conv un3 Try.underlying5 rfl) rfl ?_
    refine RL.val (O.fldA fl26_0 (by decide) rfl) rfl ?_
    refine RL.effs (E.stB (j := 5) (off := 0) (vs := [v8 (IntKind.u8.wrap i1037)]) (cs' := [v8 (IntKind.u8.wrap i1037), v16 s1148, v16 s1149, v32 s1150, v32 s1151, v8 s1152, v16 s1153, v16 s1154, .slice A1156 (s1158).length c1157, v8 s1159, v8 s1160, .slice A1120 (s1122).length c1121]) hM rfl sz5 rfl (adds_eq [0] rfl) rfl rfl (One.all rfl) rfl rfl) fun w1183 hM1 => ?_
    clear hM
    have hM := hM1
    clear hM1
    have hr1144 := hr1074 _ (hM.rd (i := 2) rfl) (hM.rd (i := 1) rfl)
    have hr1155r := hr1155 _ (hM.rd (i := 0) rfl)
    have hr1161r := hr1161 _ (hM.rd (i := 0) rfl)
    refine RL.nil ?_
    refine KQ.blk_n ?_
    refine KQ.then_k ?_
    exact fun a ha => ⟨A1156, c1157, (IntKind.u8.wrap i1037), s1148, s1158, s1159, ha.less (less_cons rfl (less_cons rfl (less_cons rfl (less_cons rfl (less_cons rfl (less_cons rfl (less_cons rfl (less_cons rfl less_nil)))))))), hM, hr1144, (fun w2 h0 => by (have g0 := hr1155 _ h0; exact g0)), (fun w2 h0 => by (have g0 := hr1161 _ h0; exact g0)), hr1155r, hF⟩
   rw [if_neg (ne_true hc)] at hF
   refine sr fun Q1184 hQ1184 => ?_
   refine RL.val (O.eql rfl rfl) rfl ?_
   refine va rfl rfl ?_
   refine nt hQ1184 ?_
   clear hQ1184 Q1184
   refine KC.cond rfl (fun hc => ?_) (fun hc => ?_)
   ·rw [if_pos hc] at hF
    refine KC.region ?_
    refine cut_someE hF fun hq1187 hF => ?_
    refine RL.eff (E.mks (enc := (eI .u8)) (zr := 0) hM sl24 ze5 rfl rfl (fun _ => rfl) rfl rfl rfl (of_decide_eq_true hq1187)) rfl fun v w1186 hv => ?_
    clear hM
    obtain ⟨A1185, rfl, hM, hf⟩ := hv
    have hr1144 := hr1144.fut hf
    have hr1155r := hr1155r.fut hf
    have hr1161r := hr1161r.fut hf
    refine RL.val (O.fldA fl26_8 (by decide) rfl) rfl ?_
    refine RL.effs (E.stB (j := 5) (off := 8) (vs := [.slice A1185 ((List.replicate (Int.toNat 44) (0 : Int))).length (Int.toNat 44)]) (cs' := [v8 s1147, v16 s1148, v16 s1149, v32 s1150, v32 s1151, v8 s1152, v16 s1153, v16 s1154, .slice A1185 ((List.replicate (Int.toNat 44) (0 : Int))).length (Int.toNat 44), v8 s1159, v8 s1160, .slice A1120 (s1122).length c1121]) hM rfl sz24 rfl (adds_eq [8] rfl) rfl rfl (One.all rfl) rfl rfl) fun w1189 hM1 => ?_
    clear hM
    have hM := hM1
    clear hM1
    have hr1144 := hr1074 _ (hM.rd (i := 2) rfl) (hM.rd (i := 1) rfl)
    have hr1155r := hr1155 _ (hM.rd (i := 0) rfl)
    have hr1161r := hr1161 _ (hM.rd (i := 0) rfl)
    refine RL.nil ?_
    refine KQ.blk_n ?_
    refine KQ.then_k ?_
    have hz1190 := (hM.rd (i := 6) rfl)
    replace hM := hM.pick [0, 1, 2, 3, 4, 5] rfl (by decide)
    exact fun a ha => ⟨A1185, (Int.toNat 44), s1147, s1148, (List.replicate (Int.toNat 44) (0 : Int)), s1159, ha.less (less_cons rfl (less_cons rfl (less_cons rfl (less_cons rfl (less_cons rfl (less_cons rfl (less_cons rfl (less_cons rfl less_nil)))))))), hM, hr1144, (fun w2 h0 => by (have g0 := hr1155 _ h0; exact g0)), (fun w2 h0 => by (have g0 := hr1161 _ h0; exact g0)), hz1190, hF⟩
   rw [if_neg (ne_true hc)] at hF
   refine KC.skip ?_
   refine KQ.blk_n ?_
   refine KQ.then_k ?_
   exact fun a ha => ⟨A1156, c1157, s1147, s1148, s1158, s1159, ha.less (less_cons rfl (less_cons rfl (less_cons rfl (less_cons rfl (less_cons rfl (less_cons rfl (less_cons rfl (less_cons rfl less_nil)))))))), hM, hr1144, (fun w2 h0 => by (have g0 := hr1155 _ h0; exact g0)), (fun w2 h0 => by (have g0 := hr1161 _ h0; exact g0)), hr1155r, hF⟩
  rintro a w1206 ⟨A1202, c1203, t1199, t1200, t1204, t1205, ha, hM, hr1193, hr1196, hr1197, hr1201, hF⟩
  refine KC.app ha ?_
  clear ha
  unfold F_law07_TransKnown_j5 at hF
  have hr1196r := hr1196 _ (hM.rd (i := 0) rfl)
  have hr1197r := hr1197 _ (hM.rd (i := 0) rfl)
  refine KC.seqH fun Q1207 hQ1207 => ?_
  refine KC.cut (fun a w1236 => ∃ (t1235 : Bool), Kn 235 [(1, .slice A1048 ((data1034 ++ ([(IntKind.u8.wrap (IntKind.i64.wrap (i1037 * 53)))] : List Int))).length c1049), (2, .slice A18 (([10, 0, 0, 1] : List Int)).length c19), (3, .slice A21 ((List.replicate (Int.toNat 16) (0 : Int))).length c22), (4, vI i1037), (5, .slice A1075 (src1077).length c1076), (6, .slice A1079 (dst1081).length c1080), (7, .pointer (some ⟨g1117, 0, none⟩)), (152, vB t1235)] a ∧ Mem w [] w1236 [.row A1048 c1049 5 1 ((data1034 ++ ([(IntKind.u8.wrap (IntKind.i64.wrap (i1037 * 53)))] : List Int))).length (((data1034 ++ ([(IntKind.u8.wrap (IntKind.i64.wrap (i1037 * 53)))] : List Int))).flatMap (eI .u8)), .row A18 c19 5 1 (([10, 0, 0, 1] : List Int)).length ((([10, 0, 0, 1] : List Int)).flatMap (eI .u8)), .row A21 c22 5 1 ((List.replicate (Int.toNat 16) (0 : Int))).length (((List.replicate (Int.toNat 16) (0 : Int))).flatMap (eI .u8)), .row A1079 c1080 5 1 (dst1081).length ((dst1081).flatMap (eI .u8)), .box g1117 26 [v8 s1147, v16 s1148, v16 s1149, v32 s1150, v32 s1151, v8 s1152, v16 s1153, v16 s1154, .slice A1156 (s1158).length c1157, v8 s1159, v8 s1160, .slice A1120 (s1122).length c1121]] ∧ Rd w1236 A1075 c1076 1 (src1077).length ((src1077).flatMap (eI .u8)) ∧ (∀ w2, Rd w2 A1048 c1049 1 (data1034 ++ ([(IntKind.u8.wrap (IntKind.i64.wrap (i1037 * 53)))] : List Int)).length ((data1034 ++ ([(IntKind.u8.wrap (IntKind.i64.wrap (i1037 * 53)))] : List Int)).flatMap (eI .u8)) → Rd w2 A1156 c1157 1 s1158.length (s1158.flatMap (eI .u8))) ∧ (∀ w2, Rd w2 A1048 c1049 1 (data1034 ++ ([(IntKind.u8.wrap (IntKind.i64.wrap (i1037 * 53)))] : List Int)).length ((data1034 ++ ([(IntKind.u8.wrap (IntKind.i64.wrap (i1037 * 53)))] : List Int)).flatMap (eI .u8)) → Rd w2 A1120 c1121 1 s1122.length (s1122.flatMap (eI .u8))) ∧ F_law07_TransKnown_j6 data1034 i1037 (F_law07_TransKnown_L1 k1040) src1077 dst1081 s1122 s1147 s1148 s1149 s1150 s1151 s1152 s1153 s1154 s1158 s1159 s1160 t1235 = some r) ?_ ?_
  ·replace hM := hM.drewN 1
   have hr1193 := hr1193.fut (fut_drewN _ 1)
   have hr1196r := hr1196r.fut (fut_drewN _ 1)
   have hr1197r := hr1197r.fut (fut_drewN _ 1)
   have hr1201 := hr1201.fut (fut_drewN _ 1)
   refine KC.draw [] [] [7, 20, 32] [2, 3, 4, 5, 6, 8, 9, 12, 13, 14, 15, 16, 17, 18, 19, 21, 22, 23, 25, 26, 27, 28, 29, 30, 31, 33, 34] (.ofList [0, 1, 2, 3, 4, 5, 6, 7, 8, 9, 10, 11, 12, 13, 14, 15, 16, 17, 18, 19, 20, 21, 22, 23, 24, 25, 26, 27, 28, 29, 30, 31, 32, 33, 34]) moP (by kernel_rfl) ?_
   refine RD.q rfl rfl rfl rfl (fun w' hf => O.loadN (cs := [v8 s1147, v16 s1148, v16 s1149, v32 s1150, v32 s1151, v8 s1152, v16 s1153, v16 s1154, .slice A1156 (s1158).length c1157, v8 s1159, v8 s1160, .slice A1120 (s1122).length c1121]) ag26 rfl (Cs.addsN [] ((hM.bx (i := 4) rfl).fut hf) rfl)) ?_
   refine RD.q rfl rfl rfl rfl (fun w' hf => O.loadN (cs := [v8 t1199, v16 t1200, v16 s1149, v32 s1150, v32 s1151, v8 s1152, v16 s1153, v16 s1154, .slice A1202 (t1204).length c1203, v8 t1205, v8 s1160, .slice A1120 (s1122).length c1121]) ag26 rfl (Cs.addsN [] ((hM.bx (i := 5) rfl).fut hf) rfl)) ?_
   refine RD.p rfl rfl rfl rfl (fun w' => O.move rfl) ?_
   refine RD.p rfl rfl rfl rfl (fun w' => O.move rfl) ?_
   refine RD.p rfl rfl rfl rfl (fun w' => O.move rfl) ?_
   refine RD.p rfl rfl rfl rfl (fun w' => O.mul rfl rfl) ?_
   refine RD.p rfl rfl rfl rfl (fun w' => O.conv un3 Try.underlying5 rfl) ?_
   refine obindE hF fun y1208 hx1209 hF => ?_
   refine RD.mcall rfl rfl trivial Try.func3 bd3 rfl rfl (c_law07_TransPuts _ (T_trans_Segment.mk s1147 s1148 s1149 s1150 s1151 s1152 s1153 s1154 s1158 s1159 s1160 s1122) _ _ hr1196r _ _ hr1197r (T_trans_Segment.mk t1199 t1200 s1149 s1150 s1151 s1152 s1153 s1154 t1204 t1205 s1160 s1122) _ _ hr1201 _ _ hr1197r _ _ src1077 hr1193 _ _ dst1081 (hM.rd (i := 3) rfl) (IntKind.u8.wrap (IntKind.i64.wrap (i1037 * 3))) _ hx1209) fun v w1210 hv => ?_
   obtain ⟨rfl, hN1211⟩ := hv
   refine ⟨fun _ => hN1211.fut, ?_⟩
   have hr1193 := hr1193.fut hN1211.fut
   have hr1196r := hr1196r.fut hN1211.fut
   have hr1197r := hr1197r.fut hN1211.fut
   have hr1201 := hr1201.fut hN1211.fut
   replace hM := hM.call0 hN1211
   refine RD.p rfl rfl rfl rfl (fun w' => O.not rfl) ?_
   refine RD.p rfl rfl rfl rfl (fun w' => O.move rfl) ?_
   refine RD.bcase (t := 127) rfl (fun hc => ?_) (fun hc => ?_)
   ·rw [if_pos hc] at hF
    refine RD.gskip rfl rfl rfl rfl rfl ?_
    refine RD.gskip rfl rfl rfl rfl rfl ?_
    refine RD.gskip rfl rfl rfl rfl rfl ?_
    refine RD.gskip rfl rfl rfl rfl rfl ?_
    refine RD.gskip rfl rfl rfl rfl rfl ?_
    refine RD.gskip rfl rfl rfl rfl rfl ?_
    refine RD.gskip rfl rfl rfl rfl rfl ?_
    refine RD.gskip rfl rfl rfl rfl rfl ?_
    refine RD.gskip rfl rfl rfl rfl rfl ?_
    refine RD.gskip rfl rfl rfl rfl rfl ?_
    refine RD.gskip rfl rfl rfl rfl rfl ?_
    refine RD.gskip rfl rfl rfl rfl rfl ?_
    refine RD.p rfl rfl rfl rfl (fun w' => O.pickt rfl rfl) ?_
    refine RD.p rfl rfl rfl rfl (fun w' => O.move rfl) ?_
    refine RD.gskip rfl rfl rfl rfl rfl ?_
    refine RD.gskip rfl rfl rfl rfl rfl ?_
    refine RD.gskip rfl rfl rfl rfl rfl ?_
    refine RD.gskip rfl rfl rfl rfl rfl ?_
    refine RD.gskip rfl rfl rfl rfl rfl ?_
    refine RD.gskip rfl rfl rfl rfl rfl ?_
    refine RD.gskip rfl rfl rfl rfl rfl ?_
    refine RD.gskip rfl rfl rfl rfl rfl ?_
    refine RD.gskip rfl rfl rfl rfl rfl ?_
    refine RD.gskip rfl rfl rfl rfl rfl ?_
    refine RD.p rfl rfl rfl rfl (fun w' => O.pickt rfl rfl) ?_
    refine RD.nil ?_
    refine KQ.then_k ?_
    replace hM := hM.pick [0, 1, 2, 3, 4] rfl (by decide)
    exact fun a ha => ⟨true, ha.less (less_cons rfl (less_cons rfl (less_cons rfl (less_cons rfl (less_cons rfl (less_cons rfl (less_cons rfl (less_cons rfl less_nil)))))))), hM, hr1193, (fun w2 h0 => by (have g0 := hr1196 _ h0; exact g0)), (fun w2 h0 => by (have g0 := hr1197 _ h0; exact g0)), hF⟩
   rw [if_neg (ne_true hc)] at hF
   refine RD.gq rfl rfl rfl rfl rfl rfl (fun w' hf => O.loadN (cs := [v8 t1199, v16 t1200, v16 s1149, v32 s1150, v32 s1151, v8 s1152, v16 s1153, v16 s1154, .slice A1202 (t1204).length c1203, v8 t1205, v8 s1160, .slice A1120 (s1122).length c1121]) ag26 rfl (Cs.addsN [] ((hM.bx (i := 5) rfl).fut hf) rfl)) ?_
   refine RD.gq rfl rfl rfl rfl rfl rfl (fun w' hf => O.loadN (cs := [v8 s1147, v16 s1148, v16 s1149, v32 s1150, v32 s1151, v8 s1152, v16 s1153, v16 s1154, .slice A1156 (s1158).length c1157, v8 s1159, v8 s1160, .slice A1120 (s1122).length c1121]) ag26 rfl (Cs.addsN [] ((hM.bx (i := 4) rfl).fut hf) rfl)) ?_
   refine RD.gp rfl rfl rfl rfl rfl rfl (fun w' => O.move rfl) ?_
   refine RD.gp rfl rfl rfl rfl rfl rfl (fun w' => O.move rfl) ?_
   refine RD.gp rfl rfl rfl rfl rfl rfl (fun w' => O.move rfl) ?_
   refine RD.gp rfl rfl rfl rfl rfl rfl (fun w' => O.len sl24 rfl) ?_
   refine RD.gp rfl rfl rfl rfl rfl rfl (fun w' => O.move rfl) ?_
   refine RD.gp rfl rfl rfl rfl rfl rfl (fun w' => O.rem rfl rfl (by decide)) ?_
   refine RD.gp rfl rfl rfl rfl rfl rfl (fun w' => O.sub rfl rfl) ?_
   refine obindE hF fun cut1212 hy1213 hF => ?_
   refine cutNE A1079 c1080 (Int.toNat 0) 1 fun A1214 c1215 eA1217 ec1218 => ?_
   have hr1216 := Rd.cutT (enc := (eI .u8)) (s := 1) (fun _ => rfl) (hM.rd (i := 3) rfl) hy1213 (m := c1080) (by have := (hM.rd (i := 3) rfl).cap; have := (gcut_some hy1213).2.2.1; omega) (Nat.le_refl _)
   rw [← eA1217, ← ec1218] at hr1216
   refine RD.gp (v := .slice A1214 (cut1212).length c1215) rfl rfl rfl rfl rfl rfl (fun w' => (by rw [eA1217, ec1218]; exact O.cuthT sl24 (hM.rd (i := 3) rfl) hy1213 rfl rfl)) ?_
   refine obindE hF fun y1219 hx1220 hF => ?_
   refine RD.mcall rfl rfl ⟨rfl, rfl⟩ Try.func3 bd3 rfl rfl (c_law07_TransPuts _ (T_trans_Segment.mk t1199 t1200 s1149 s1150 s1151 s1152 s1153 s1154 t1204 t1205 s1160 s1122) _ _ hr1201 _ _ hr1197r (T_trans_Segment.mk s1147 s1148 s1149 s1150 s1151 s1152 s1153 s1154 s1158 s1159 s1160 s1122) _ _ hr1196r _ _ hr1197r _ _ src1077 hr1193 _ _ cut1212 hr1216 255 _ hx1220) fun v w1221 hv => ?_
   obtain ⟨rfl, hN1222⟩ := hv
   refine ⟨fun _ => hN1222.fut, ?_⟩
   have hr1193 := hr1193.fut hN1222.fut
   have hr1196r := hr1196r.fut hN1222.fut
   have hr1197r := hr1197r.fut hN1222.fut
   have hr1201 := hr1201.fut hN1222.fut
   have hr1216 := hr1216.fut hN1222.fut
   replace hM := hM.call0 hN1222
   refine RD.gp rfl rfl rfl rfl rfl rfl (fun w' => O.not rfl) ?_
   refine RD.p rfl rfl rfl rfl (fun w' => O.pickf rfl rfl) ?_
   refine RD.p rfl rfl rfl rfl (fun w' => O.move rfl) ?_
   refine RD.bcase (t := 141) rfl (fun hc => ?_) (fun hc => ?_)
   ·rw [if_pos hc] at hF
    refine RD.gskip rfl rfl rfl rfl rfl ?_
    refine RD.gskip rfl rfl rfl rfl rfl ?_
    refine RD.gskip rfl rfl rfl rfl rfl ?_
    refine RD.gskip rfl rfl rfl rfl rfl ?_
    refine RD.gskip rfl rfl rfl rfl rfl ?_
    refine RD.gskip rfl rfl rfl rfl rfl ?_
    refine RD.gskip rfl rfl rfl rfl rfl ?_
    refine RD.gskip rfl rfl rfl rfl rfl ?_
    refine RD.gskip rfl rfl rfl rfl rfl ?_
    refine RD.gskip rfl rfl rfl rfl rfl ?_
    refine RD.p rfl rfl rfl rfl (fun w' => O.pickt rfl rfl) ?_
    refine RD.nil ?_
    refine KQ.then_k ?_
    replace hM := hM.pick [0, 1, 2, 3, 4] rfl (by decide)
    exact fun a ha => ⟨true, ha.less (less_cons rfl (less_cons rfl (less_cons rfl (less_cons rfl (less_cons rfl (less_cons rfl (less_cons rfl (less_cons rfl less_nil)))))))), hM, hr1193, (fun w2 h0 => by (have g0 := hr1196 _ h0; exact g0)), (fun w2 h0 => by (have g0 := hr1197 _ h0; exact g0)), hF⟩
   rw [if_neg (ne_true hc)] at hF
   refine RD.gq rfl rfl rfl rfl rfl rfl (fun w' hf => O.loadN (cs := [v8 s1147, v16 s1148, v16 s1149, v32 s1150, v32 s1151, v8 s1152, v16 s1153, v16 s1154, .slice A1156 (s1158).length c1157, v8 s1159, v8 s1160, .slice A1120 (s1122).length c1121]) ag26 rfl (Cs.addsN [] ((hM.bx (i := 4) rfl).fut hf) rfl)) ?_
   refine RD.gp rfl rfl rfl rfl rfl rfl (fun w' => O.move rfl) ?_
   refine RD.gp rfl rfl rfl rfl rfl rfl (fun w' => O.move rfl) ?_
   refine RD.gp rfl rfl rfl rfl rfl rfl (fun w' => O.move rfl) ?_
   refine RD.gp rfl rfl rfl rfl rfl rfl (fun w' => O.mul rfl rfl) ?_
   refine RD.gp rfl rfl rfl rfl rfl rfl (fun w' => O.move rfl) ?_
   refine RD.gp rfl rfl rfl rfl rfl rfl (fun w' => O.add rfl rfl) ?_
   refine RD.gp rfl rfl rfl rfl rfl rfl (fun w' => O.conv un3 Try.underlying5 rfl) ?_
   refine obindE hF fun y1223 hx1224 hF => ?_
   refine RD.mcall rfl rfl ⟨rfl, rfl⟩ Try.func5 bd5 rfl rfl (c_law07_TransBack _ (T_trans_Segment.mk s1147 s1148 s1149 s1150 s1151 s1152 s1153 s1154 s1158 s1159 s1160 s1122) _ _ hr1196r _ _ hr1197r _ _ src1077 hr1193 _ _ dst1081 (hM.rd (i := 3) rfl) (IntKind.i64.wrap (i1037 * 3)) (IntKind.u8.wrap (IntKind.i64.wrap (1 + i1037))) _ hx1224) fun v w1225 hv => ?_
   obtain ⟨rfl, hN1226⟩ := hv
   refine ⟨fun _ => hN1226.fut, ?_⟩
   have hr1193 := hr1193.fut hN1226.fut
   have hr1196r := hr1196r.fut hN1226.fut
   have hr1197r := hr1197r.fut hN1226.fut
   have hr1201 := hr1201.fut hN1226.fut
   have hr1216 := hr1216.fut hN1226.fut
   replace hM := hM.call0 hN1226
   refine RD.gp rfl rfl rfl rfl rfl rfl (fun w' => O.not rfl) ?_
   refine RD.p rfl rfl rfl rfl (fun w' => O.pickf rfl rfl) ?_
   refine RD.nil ?_
   refine KQ.then_k ?_
   replace hM := hM.pick [0, 1, 2, 3, 4] rfl (by decide)
   exact fun a ha => ⟨(!y1223), ha.less (less_cons rfl (less_cons rfl (less_cons rfl (less_cons rfl (less_cons rfl (less_cons rfl (less_cons rfl (less_cons rfl less_nil)))))))), hM, hr1193, (fun w2 h0 => by (have g0 := hr1196 _ h0; exact g0)), (fun w2 h0 => by (have g0 := hr1197 _ h0; exact g0)), hF⟩
  rintro a w1236 ⟨t1235, ha, hM, hr1230, hr1233, hr1234, hF⟩
  refine KC.app ha ?_
  clear ha
  unfold F_law07_TransKnown_j6 at hF
  have hr1233r := hr1233 _ (hM.rd (i := 0) rfl)
  have hr1234r := hr1234 _ (hM.rd (i := 0) rfl)
  refine KC.cond rfl (fun hc => ?_) (fun hc => ?_)
  ·rw [if_pos hc] at hF
   refine sr fun Q1237 hQ1237 => ?_
   refine va rfl rfl ?_
   refine nt hQ1237 ?_
   clear hQ1237 Q1237
   refine KC.ret ?_
   refine KQ.thr hQ1207 ?_
   clear hQ1207 Q1207
   refine KQ.blk_r ?_
   refine KQ.thr hQ1043 ?_
   clear hQ1043 Q1043
   refine KQ.then_r ?_
   refine KQ.blk_r ?_
   refine KQ.thr hQ24 ?_
   clear hQ24 Q24
   have hE := Option.some.inj hF
   clear hF
   subst hE
   replace hM := hM.pick [] rfl (by decide)
   refine KQ.rets Try.results6 (RVs.cons (RV.tm rfl) RVs.nil) ?_
   exact ⟨_, rfl, rfl, hM⟩
  rw [if_neg (ne_true hc)] at hF
  refine KC.skip ?_
  refine KQ.thn hQ1207 ?_
  clear hQ1207 Q1207
  refine sr fun Q1238 hQ1238 => ?_
  refine RL.val (O.loadN (cs := [v8 s1147, v16 s1148, v16 s1149, v32 s1150, v32 s1151, v8 s1152, v16 s1153, v16 s1154, .slice A1156 (s1158).length c1157, v8 s1159, v8 s1160, .slice A1120 (s1122).length c1121]) ag26 rfl (Cs.addsN [] ((hM.bx (i := 4) rfl)) rfl)) rfl ?_
  refine vm rfl rfl ?_
  refine vm rfl rfl ?_
  refine obindE hF fun y1239 hx1240 hF => ?_
  refine RL.call Try.func11 bd11 rfl rfl (c_trans_Put _ (T_trans_Segment.mk s1147 s1148 s1149 s1150 s1151 s1152 s1153 s1154 s1158 s1159 s1160 s1122) _ _ hr1233r _ _ hr1234r _ _ src1077 hr1230 _ _ dst1081 (hM.rd (i := 3) rfl) _ hx1240) fun v w1241 hv => ?_
  obtain ⟨A1243, c1244, rfl, hN1242⟩ := hv
  have hr1230 := hr1230.fut hN1242.fut
  have hr1233r := hr1233r.fut hN1242.fut
  have hr1234r := hr1234r.fut hN1242.fut
  replace hM := hM.call hN1242
  refine vm rfl rfl ?_
  refine RL.val (O.ext rfl rfl) rfl ?_
  refine RL.val (O.ext rfl rfl) rfl ?_
  refine va rfl rfl ?_
  refine va rfl rfl ?_
  refine nt hQ1238 ?_
  clear hQ1238 Q1238
  refine sr fun Q1246 hQ1246 => ?_
  refine va rfl rfl ?_
  refine nt hQ1246 ?_
  clear hQ1246 Q1246
  refine KC.block ?_
  refine KC.loop (fun k1449 a w1447 => ∃ (nv1446 : Int), Kn 235 [(1, .slice A1048 ((data1034 ++ ([(IntKind.u8.wrap (IntKind.i64.wrap (i1037 * 53)))] : List Int))).length c1049), (2, .slice A18 (([10, 0, 0, 1] : List Int)).length c19), (3, .slice A21 ((List.replicate (Int.toNat 16) (0 : Int))).length c22), (4, vI i1037), (5, .slice A1075 (src1077).length c1076), (6, .slice A1079 (dst1081).length c1080), (7, .pointer (some ⟨g1117, 0, none⟩)), (9, .slice A1243 (y1239.1).length c1244), (11, vI nv1446)] a ∧ Mem w [] w1447 [.row A1048 c1049 5 1 ((data1034 ++ ([(IntKind.u8.wrap (IntKind.i64.wrap (i1037 * 53)))] : List Int))).length (((data1034 ++ ([(IntKind.u8.wrap (IntKind.i64.wrap (i1037 * 53)))] : List Int))).flatMap (eI .u8)), .row A18 c19 5 1 (([10, 0, 0, 1] : List Int)).length ((([10, 0, 0, 1] : List Int)).flatMap (eI .u8)), .row A21 c22 5 1 ((List.replicate (Int.toNat 16) (0 : Int))).length (((List.replicate (Int.toNat 16) (0 : Int))).flatMap (eI .u8)), .row A1079 c1080 5 1 (dst1081).length ((dst1081).flatMap (eI .u8)), .box g1117 26 [v8 s1147, v16 s1148, v16 s1149, v32 s1150, v32 s1151, v8 s1152, v16 s1153, v16 s1154, .slice A1156 (s1158).length c1157, v8 s1159, v8 s1160, .slice A1120 (s1122).length c1121], .row A1243 c1244 5 1 (y1239.1).length ((y1239.1).flatMap (eI .u8))] ∧ Rd w1447 A1075 c1076 1 (src1077).length ((src1077).flatMap (eI .u8)) ∧ (∀ w2, Rd w2 A1048 c1049 1 (data1034 ++ ([(IntKind.u8.wrap (IntKind.i64.wrap (i1037 * 53)))] : List Int)).length ((data1034 ++ ([(IntKind.u8.wrap (IntKind.i64.wrap (i1037 * 53)))] : List Int)).flatMap (eI .u8)) → Rd w2 A1156 c1157 1 s1158.length (s1158.flatMap (eI .u8))) ∧ (∀ w2, Rd w2 A1048 c1049 1 (data1034 ++ ([(IntKind.u8.wrap (IntKind.i64.wrap (i1037 * 53)))] : List Int)).length ((data1034 ++ ([(IntKind.u8.wrap (IntKind.i64.wrap (i1037 * 53)))] : List Int)).flatMap (eI .u8)) → Rd w2 A1120 c1121 1 s1122.length (s1122.flatMap (eI .u8))) ∧ F_law07_TransKnown_L2 data1034 i1037 (F_law07_TransKnown_L1 k1040) src1077 dst1081 s1147 y1239 k1449 nv1446 = some r) ?_ ?_
  ·exact fun a ha => ⟨fuel0, 0, ha.less (less_cons rfl (less_cons rfl (less_cons rfl (less_cons rfl (less_cons rfl (less_cons rfl (less_cons rfl (less_cons rfl (less_cons rfl less_nil))))))))), hM, hr1230, (fun w2 h0 => by (have g0 := hr1233 _ h0; exact g0)), (fun w2 h0 => by (have g0 := hr1234 _ h0; exact g0)), hF⟩
  rintro k1449 a w1447 ⟨nv1446, ha, hM, hr1440, hr1443, hr1444, hF⟩
  refine KC.app ha ?_
  clear ha
  cases k1449 with
  | zero => exact (none_some hF).elim
  | succ k1449 =>
  have hF : F_law07_TransKnown_l2 (F_law07_TransKnown_L2 data1034 i1037 (F_law07_TransKnown_L1 k1040) src1077 dst1081 s1147 y1239 k1449) data1034 i1037 (F_law07_TransKnown_L1 k1040) src1077 dst1081 s1147 y1239 nv1446 = some r := hF
  unfold F_law07_TransKnown_l2 at hF
  have hr1443r := hr1443 _ (hM.rd (i := 0) rfl)
  have hr1444r := hr1444 _ (hM.rd (i := 0) rfl)
  refine KC.seqH fun Q1450 hQ1450 => ?_
  refine KC.cut (fun a w1461 => ∃ (t1460 : Bool), Kn 235 [(1, .slice A1048 ((data1034 ++ ([(IntKind.u8.wrap (IntKind.i64.wrap (i1037 * 53)))] : List Int))).length c1049), (2, .slice A18 (([10, 0, 0, 1] : List Int)).length c19), (3, .slice A21 ((List.replicate (Int.toNat 16) (0 : Int))).length c22), (4, vI i1037), (5, .slice A1075 (src1077).length c1076), (6, .slice A1079 (dst1081).length c1080), (7, .pointer (some ⟨g1117, 0, none⟩)), (9, .slice A1243 (y1239.1).length c1244), (11, vI nv1446), (167, vB t1460)] a ∧ Mem w [] w1461 [.row A1048 c1049 5 1 ((data1034 ++ ([(IntKind.u8.wrap (IntKind.i64.wrap (i1037 * 53)))] : List Int))).length (((data1034 ++ ([(IntKind.u8.wrap (IntKind.i64.wrap (i1037 * 53)))] : List Int))).flatMap (eI .u8)), .row A18 c19 5 1 (([10, 0, 0, 1] : List Int)).length ((([10, 0, 0, 1] : List Int)).flatMap (eI .u8)), .row A21 c22 5 1 ((List.replicate (Int.toNat 16) (0 : Int))).length (((List.replicate (Int.toNat 16) (0 : Int))).flatMap (eI .u8)), .row A1079 c1080 5 1 (dst1081).length ((dst1081).flatMap (eI .u8)), .box g1117 26 [v8 s1147, v16 s1148, v16 s1149, v32 s1150, v32 s1151, v8 s1152, v16 s1153, v16 s1154, .slice A1156 (s1158).length c1157, v8 s1159, v8 s1160, .slice A1120 (s1122).length c1121], .row A1243 c1244 5 1 (y1239.1).length ((y1239.1).flatMap (eI .u8))] ∧ Rd w1461 A1075 c1076 1 (src1077).length ((src1077).flatMap (eI .u8)) ∧ (∀ w2, Rd w2 A1048 c1049 1 (data1034 ++ ([(IntKind.u8.wrap (IntKind.i64.wrap (i1037 * 53)))] : List Int)).length ((data1034 ++ ([(IntKind.u8.wrap (IntKind.i64.wrap (i1037 * 53)))] : List Int)).flatMap (eI .u8)) → Rd w2 A1156 c1157 1 s1158.length (s1158.flatMap (eI .u8))) ∧ (∀ w2, Rd w2 A1048 c1049 1 (data1034 ++ ([(IntKind.u8.wrap (IntKind.i64.wrap (i1037 * 53)))] : List Int)).length ((data1034 ++ ([(IntKind.u8.wrap (IntKind.i64.wrap (i1037 * 53)))] : List Int)).flatMap (eI .u8)) → Rd w2 A1120 c1121 1 s1122.length (s1122.flatMap (eI .u8))) ∧ F_law07_TransKnown_j7 data1034 i1037 (F_law07_TransKnown_L1 k1040) src1077 dst1081 s1147 y1239 nv1446 (F_law07_TransKnown_L2 data1034 i1037 (F_law07_TransKnown_L1 k1040) src1077 dst1081 s1147 y1239 k1449) t1460 = some r) ?_ ?_
  ·refine KC.region ?_
   refine vm rfl rfl ?_
   refine vm rfl rfl ?_
   refine RL.val (O.len sl24 rfl) rfl ?_
   refine RL.val (O.leq rfl rfl) rfl ?_
   refine vm rfl rfl ?_
   refine RL.bcase (t := 164) rfl (fun hc => ?_) (fun hc => ?_)
   ·rw [if_pos hc] at hF
    refine RL.gval rfl rfl (O.move rfl) rfl ?_
    refine RL.gval rfl rfl (O.lss rfl rfl) rfl ?_
    refine RL.val (O.pickt rfl rfl) rfl ?_
    refine RL.nil ?_
    refine KQ.then_k ?_
    exact fun a ha => ⟨(decide (i1037 < 12)), ha.less (less_cons rfl (less_cons rfl (less_cons rfl (less_cons rfl (less_cons rfl (less_cons rfl (less_cons rfl (less_cons rfl (less_cons rfl (less_cons rfl less_nil)))))))))), hM, hr1440, (fun w2 h0 => by (have g0 := hr1443 _ h0; exact g0)), (fun w2 h0 => by (have g0 := hr1444 _ h0; exact g0)), hF⟩
   rw [if_neg (ne_true hc)] at hF
   refine RL.gskip rfl rfl rfl rfl ?_
   refine RL.gskip rfl rfl rfl rfl ?_
   refine RL.val (O.pickf rfl rfl) rfl ?_
   refine RL.nil ?_
   refine KQ.then_k ?_
   exact fun a ha => ⟨false, ha.less (less_cons rfl (less_cons rfl (less_cons rfl (less_cons rfl (less_cons rfl (less_cons rfl (less_cons rfl (less_cons rfl (less_cons rfl (less_cons rfl less_nil)))))))))), hM, hr1440, (fun w2 h0 => by (have g0 := hr1443 _ h0; exact g0)), (fun w2 h0 => by (have g0 := hr1444 _ h0; exact g0)), hF⟩
  rintro a w1461 ⟨t1460, ha, hM, hr1454, hr1457, hr1458, hF⟩
  refine KC.app ha ?_
  clear ha
  unfold F_law07_TransKnown_j7 at hF
  have hr1457r := hr1457 _ (hM.rd (i := 0) rfl)
  have hr1458r := hr1458 _ (hM.rd (i := 0) rfl)
  refine KC.cond rfl (fun hc => ?_) (fun hc => ?_)
  ·rw [if_pos hc] at hF
   refine KC.skip ?_
   refine KQ.thn hQ1450 ?_
   clear hQ1450 Q1450
   refine KC.seqH fun Q1462 hQ1462 => ?_
   refine KC.block ?_
   refine sr fun Q1463 hQ1463 => ?_
   refine vm rfl rfl ?_
   refine obindE hF fun y1464 hx1465 hF => ?_
   refine RL.call Try.func22 bd22 rfl rfl (c_ref01_Join _ none 0 [] Rd.nilr _ _ y1239.1 (hM.rd (i := 5) rfl) _ hx1465) fun v w1466 hv => ?_
   obtain ⟨A1468, c1469, rfl, hN1467⟩ := hv
   have hr1454 := hr1454.fut hN1467.fut
   have hr1457r := hr1457r.fut hN1467.fut
   have hr1458r := hr1458r.fut hN1467.fut
   replace hM := hM.call hN1467
   refine va rfl rfl ?_
   refine nt hQ1463 ?_
   clear hQ1463 Q1463
   refine KC.cut (fun a w1493 => ∃ (A1490 : Option Addr) (c1491 : Nat) (turned1492 : List Int), Kn 235 [(1, .slice A1048 ((data1034 ++ ([(IntKind.u8.wrap (IntKind.i64.wrap (i1037 * 53)))] : List Int))).length c1049), (2, .slice A18 (([10, 0, 0, 1] : List Int)).length c19), (3, .slice A21 ((List.replicate (Int.toNat 16) (0 : Int))).length c22), (4, vI i1037), (5, .slice A1075 (src1077).length c1076), (6, .slice A1079 (dst1081).length c1080), (7, .pointer (some ⟨g1117, 0, none⟩)), (9, .slice A1243 (y1239.1).length c1244), (11, vI nv1446), (12, .slice A1490 (turned1492).length c1491)] a ∧ Mem w [] w1493 [.row A1048 c1049 5 1 ((data1034 ++ ([(IntKind.u8.wrap (IntKind.i64.wrap (i1037 * 53)))] : List Int))).length (((data1034 ++ ([(IntKind.u8.wrap (IntKind.i64.wrap (i1037 * 53)))] : List Int))).flatMap (eI .u8)), .row A18 c19 5 1 (([10, 0, 0, 1] : List Int)).length ((([10, 0, 0, 1] : List Int)).flatMap (eI .u8)), .row A21 c22 5 1 ((List.replicate (Int.toNat 16) (0 : Int))).length (((List.replicate (Int.toNat 16) (0 : Int))).flatMap (eI .u8)), .row A1079 c1080 5 1 (dst1081).length ((dst1081).flatMap (eI .u8)), .box g1117 26 [v8 s1147, v16 s1148, v16 s1149, v32 s1150, v32 s1151, v8 s1152, v16 s1153, v16 s1154, .slice A1156 (s1158).length c1157, v8 s1159, v8 s1160, .slice A1120 (s1122).length c1121], .row A1243 c1244 5 1 (y1239.1).length ((y1239.1).flatMap (eI .u8)), .row A1490 c1491 5 1 (turned1492).length ((turned1492).flatMap (eI .u8))] ∧ Rd w1493 A1075 c1076 1 (src1077).length ((src1077).flatMap (eI .u8)) ∧ (∀ w2, Rd w2 A1048 c1049 1 (data1034 ++ ([(IntKind.u8.wrap (IntKind.i64.wrap (i1037 * 53)))] : List Int)).length ((data1034 ++ ([(IntKind.u8.wrap (IntKind.i64.wrap (i1037 * 53)))] : List Int)).flatMap (eI .u8)) → Rd w2 A1156 c1157 1 s1158.length (s1158.flatMap (eI .u8))) ∧ (∀ w2, Rd w2 A1048 c1049 1 (data1034 ++ ([(IntKind.u8.wrap (IntKind.i64.wrap (i1037 * 53)))] : List Int)).length ((data1034 ++ ([(IntKind.u8.wrap (IntKind.i64.wrap (i1037 * 53)))] : List Int)).flatMap (eI .u8)) → Rd w2 A1120 c1121 1 s1122.length (s1122.flatMap (eI .u8))) ∧ F_law07_TransKnown_j8 src1077 dst1081 s1147 y1239 nv1446 (F_law07_TransKnown_L2 data1034 i1037 (F_law07_TransKnown_L1 k1040) src1077 dst1081 s1147 y1239 k1449) turned1492 = some r) ?_ ?_
   ·refine sr fun Q1471 hQ1471 => ?_
    refine vm rfl rfl ?_
    refine vm rfl rfl ?_
    refine RL.val (O.len sl24 rfl) rfl ?_
    refine RL.val (O.lss rfl rfl) rfl ?_
    refine nt hQ1471 ?_
    clear hQ1471 Q1471
    refine KC.cond rfl (fun hc => ?_) (fun hc => ?_)
    ·rw [if_pos hc] at hF
     refine KC.region ?_
     refine vm rfl rfl ?_
     refine vm rfl rfl ?_
     refine vm rfl rfl ?_
     refine vm rfl rfl ?_
     refine obindE hF fun xv1474 hx1473 hF => ?_
     have hA1472 := Rd.atN (f := (eI .u8)) (s := 1) (fun _ => rfl) (by decide) (hM.rd (i := 6) rfl) hx1473
     refine RL.val (O.idxA sl24 (hA1472) rfl rfl) rfl ?_
     refine RL.val (O.load sc5 rfl (hA1472).cells.at0) rfl ?_
     refine RL.val (O.add rfl rfl) rfl ?_
     refine obindE hF fun xv1477 hx1476 hF => ?_
     have hA1475 := Rd.atN (f := (eI .u8)) (s := 1) (fun _ => rfl) (by decide) (hM.rd (i := 6) rfl) hx1476
     refine RL.val (O.idxA sl24 (hA1475) rfl rfl) rfl ?_
     refine RL.effs (E.stR (enc := (eI .u8)) (j := 6) (off := 0) (vs := [v8 (IntKind.u8.wrap (xv1474 + 16))]) (x' := (IntKind.u8.wrap (xv1474 + 16))) hM rfl (fun _ => rfl) hx1476 sz5 rfl (addsR_eq [] rfl) rfl rfl (One.all rfl) rfl rfl) fun w1478 hM1 => ?_
     clear hM
     obtain ⟨hM, hn1479⟩ := hM1
     refine RL.reslot (t := 12) rfl hn1479 ?_
     refine RL.reslot (t := 176) rfl hn1479 ?_
     refine RL.reslot (t := 178) rfl hn1479 ?_
     have hr1454 := hr1074 _ (hM.rd (i := 2) rfl) (hM.rd (i := 1) rfl)
     have hr1457r := hr1457 _ (hM.rd (i := 0) rfl)
     have hr1458r := hr1458 _ (hM.rd (i := 0) rfl)
     refine RL.nil ?_
     refine KQ.then_k ?_
     exact fun a ha => ⟨A1468, c1469, (y1464.set (nv1446 : Int).toNat (IntKind.u8.wrap (xv1474 + 16))), ha.less (less_cons rfl (less_cons rfl (less_cons rfl (less_cons rfl (less_cons rfl (less_cons rfl (less_cons rfl (less_cons rfl (less_cons rfl (less_cons rfl less_nil)))))))))), hM, hr1454, (fun w2 h0 => by (have g0 := hr1457 _ h0; exact g0)), (fun w2 h0 => by (have g0 := hr1458 _ h0; exact g0)), hF⟩
    rw [if_neg (ne_true hc)] at hF
    refine KC.skip ?_
    refine KQ.then_k ?_
    exact fun a ha => ⟨A1468, c1469, y1464, ha.less (less_cons rfl (less_cons rfl (less_cons rfl (less_cons rfl (less_cons rfl (less_cons rfl (less_cons rfl (less_cons rfl (less_cons rfl (less_cons rfl less_nil)))))))))), hM, hr1454, (fun w2 h0 => by (have g0 := hr1457 _ h0; exact g0)), (fun w2 h0 => by (have g0 := hr1458 _ h0; exact g0)), hF⟩
   rintro a w1493 ⟨A1490, c1491, turned1492, ha, hM, hr1483, hr1486, hr1487, hF⟩
   refine KC.app ha ?_
   clear ha
   unfold F_law07_TransKnown_j8 at hF
   have hr1486r := hr1486 _ (hM.rd (i := 0) rfl)
   have hr1487r := hr1487 _ (hM.rd (i := 0) rfl)
   refine KC.cut (fun a w1538 => ∃ (t1537 : Bool), Kn 235 [(1, .slice A1048 ((data1034 ++ ([(IntKind.u8.wrap (IntKind.i64.wrap (i1037 * 53)))] : List Int))).length c1049), (2, .slice A18 (([10, 0, 0, 1] : List Int)).length c19), (3, .slice A21 ((List.replicate (Int.toNat 16) (0 : Int))).length c22), (4, vI i1037), (5, .slice A1075 (src1077).length c1076), (6, .slice A1079 (dst1081).length c1080), (7, .pointer (some ⟨g1117, 0, none⟩)), (9, .slice A1243 (y1239.1).length c1244), (11, vI nv1446), (213, vB t1537)] a ∧ Mem w [] w1538 [.row A1048 c1049 5 1 ((data1034 ++ ([(IntKind.u8.wrap (IntKind.i64.wrap (i1037 * 53)))] : List Int))).length (((data1034 ++ ([(IntKind.u8.wrap (IntKind.i64.wrap (i1037 * 53)))] : List Int))).flatMap (eI .u8)), .row A18 c19 5 1 (([10, 0, 0, 1] : List Int)).length ((([10, 0, 0, 1] : List Int)).flatMap (eI .u8)), .row A21 c22 5 1 ((List.replicate (Int.toNat 16) (0 : Int))).length (((List.replicate (Int.toNat 16) (0 : Int))).flatMap (eI .u8)), .row A1079 c1080 5 1 (dst1081).length ((dst1081).flatMap (eI .u8)), .box g1117 26 [v8 s1147, v16 s1148, v16 s1149, v32 s1150, v32 s1151, v8 s1152, v16 s1153, v16 s1154, .slice A1156 (s1158).length c1157, v8 s1159, v8 s1160, .slice A1120 (s1122).length c1121], .row A1243 c1244 5 1 (y1239.1).length ((y1239.1).flatMap (eI .u8))] ∧ Rd w1538 A1075 c1076 1 (src1077).length ((src1077).flatMap (eI .u8)) ∧ (∀ w2, Rd w2 A1048 c1049 1 (data1034 ++ ([(IntKind.u8.wrap (IntKind.i64.wrap (i1037 * 53)))] : List Int)).length ((data1034 ++ ([(IntKind.u8.wrap (IntKind.i64.wrap (i1037 * 53)))] : List Int)).flatMap (eI .u8)) → Rd w2 A1156 c1157 1 s1158.length (s1158.flatMap (eI .u8))) ∧ (∀ w2, Rd w2 A1048 c1049 1 (data1034 ++ ([(IntKind.u8.wrap (IntKind.i64.wrap (i1037 * 53)))] : List Int)).length ((data1034 ++ ([(IntKind.u8.wrap (IntKind.i64.wrap (i1037 * 53)))] : List Int)).flatMap (eI .u8)) → Rd w2 A1120 c1121 1 s1122.length (s1122.flatMap (eI .u8))) ∧ F_law07_TransKnown_j9 nv1446 (F_law07_TransKnown_L2 data1034 i1037 (F_law07_TransKnown_L1 k1040) src1077 dst1081 s1147 y1239 k1449) t1537 = some r) ?_ ?_
   ·replace hM := hM.drewN 1
    have hr1483 := hr1483.fut (fut_drewN _ 1)
    have hr1486r := hr1486r.fut (fut_drewN _ 1)
    have hr1487r := hr1487r.fut (fut_drewN _ 1)
    refine KC.draw [rblk A1490 c1491] [] [7, 15, 22, 23, 27] [0, 2, 3, 4, 5, 6, 8, 9, 10, 12, 13, 14, 16, 17, 18, 19, 21, 24, 25, 26, 28, 29] (.ofList [0, 1, 2, 3, 4, 5, 6, 7, 8, 9, 10, 11, 12, 13, 14, 15, 16, 17, 18, 19, 20, 21, 24, 25, 26, 22, 23, 27, 28, 29]) moP (by kernel_rfl) ?_
    refine RD.p rfl rfl rfl rfl (fun w' => O.fldA fl26_0 (by decide) rfl) ?_
    refine RD.q rfl rfl rfl rfl (fun w' hf => O.load sc5 rfl (Cs.adds [0] (hM.bxX (i0 := 4) rfl [6] rfl rfl hf) rfl)) ?_
    refine RD.p rfl rfl rfl rfl (fun w' => O.move rfl) ?_
    refine RD.p rfl rfl rfl rfl (fun w' => O.move rfl) ?_
    refine obindE hF fun cut1494 hy1495 hF => ?_
    refine cutNE A1243 c1244 (Int.toNat 0) 1 fun A1496 c1497 eA1499 ec1500 => ?_
    have hr1498 := Rd.cutT (enc := (eI .u8)) (s := 1) (fun _ => rfl) (hM.rd (i := 5) rfl) hy1495 (m := c1244) (by have := (hM.rd (i := 5) rfl).cap; have := (gcut_some hy1495).2.2.1; omega) (Nat.le_refl _)
    rw [← eA1499, ← ec1500] at hr1498
    refine RD.p (v := .slice A1496 (cut1494).length c1497) rfl rfl rfl rfl (fun w' => (by rw [eA1499, ec1500]; exact O.cuthT sl24 (hM.rd (i := 5) rfl) hy1495 rfl rfl)) ?_
    refine RD.p rfl rfl rfl rfl (fun w' => O.move rfl) ?_
    refine RD.p rfl rfl rfl rfl (fun w' => O.move rfl) ?_
    refine obindE hF fun y1501 hx1502 hF => ?_
    refine RD.mcall rfl rfl trivial Try.func4 bd4 rfl rfl (c_law07_TransParses _ s1147 _ _ cut1494 hr1498 _ _ src1077 hr1483 _ _ dst1081 (hM.rd (i := 3) rfl) _ hx1502) fun v w1503 hv => ?_
    obtain ⟨rfl, hN1504⟩ := hv
    refine ⟨fun _ => hN1504.fut.wide0, ?_⟩
    have hr1483 := hr1483.fut hN1504.fut
    have hr1486r := hr1486r.fut hN1504.fut
    have hr1487r := hr1487r.fut hN1504.fut
    have hr1498 := hr1498.fut hN1504.fut
    replace hM := hM.call0 hN1504
    refine RD.p rfl rfl rfl rfl (fun w' => O.not rfl) ?_
    refine RD.p rfl rfl rfl rfl (fun w' => O.move rfl) ?_
    refine RD.bcase (t := 193) rfl (fun hc => ?_) (fun hc => ?_)
    ·rw [if_pos hc] at hF
     refine RD.gskip rfl rfl rfl rfl rfl ?_
     refine RD.gskip rfl rfl rfl rfl rfl ?_
     refine RD.gskip rfl rfl rfl rfl rfl ?_
     refine RD.gskip rfl rfl rfl rfl rfl ?_
     refine RD.gskip rfl rfl rfl rfl rfl ?_
     refine RD.gskip rfl rfl rfl rfl rfl ?_
     refine RD.gskip rfl rfl rfl rfl rfl ?_
     refine RD.p rfl rfl rfl rfl (fun w' => O.pickt rfl rfl) ?_
     refine RD.p rfl rfl rfl rfl (fun w' => O.move rfl) ?_
     refine RD.gskip rfl rfl rfl rfl rfl ?_
     refine RD.gskip rfl rfl rfl rfl rfl ?_
     refine RD.gskip rfl rfl rfl rfl rfl ?_
     refine RD.gskip rfl rfl rfl rfl rfl ?_
     refine RD.gskip rfl rfl rfl rfl rfl ?_
     refine RD.gskip rfl rfl rfl rfl rfl ?_
     refine RD.gskip rfl rfl rfl rfl rfl ?_
     refine RD.gskip rfl rfl rfl rfl rfl ?_
     refine RD.gskip rfl rfl rfl rfl rfl ?_
     refine RD.gskip rfl rfl rfl rfl rfl ?_
     refine RD.p rfl rfl rfl rfl (fun w' => O.pickt rfl rfl) ?_
     refine RD.nil ?_
     refine KQ.then_k ?_
     replace hM := hM.pick [0, 1, 2, 3, 4, 5] rfl (by decide)
     exact fun a ha => ⟨true, ha.less (less_cons rfl (less_cons rfl (less_cons rfl (less_cons rfl (less_cons rfl (less_cons rfl (less_cons rfl (less_cons rfl (less_cons rfl (less_cons rfl less_nil)))))))))), hM, hr1483, (fun w2 h0 => by (have g0 := hr1486 _ h0; exact g0)), (fun w2 h0 => by (have g0 := hr1487 _ h0; exact g0)), hF⟩
    rw [if_neg (ne_true hc)] at hF
    refine RD.gp rfl rfl rfl rfl rfl rfl (fun w' => O.fldA fl26_0 (by decide) rfl) ?_
    refine RD.gq rfl rfl rfl rfl rfl rfl (fun w' hf => O.load sc5 rfl (Cs.adds [0] (hM.bxX (i0 := 4) rfl [6] rfl rfl hf) rfl)) ?_
    refine RD.gp rfl rfl rfl rfl rfl rfl (fun w' => O.move rfl) ?_
    refine RD.gp rfl rfl rfl rfl rfl rfl (fun w' => O.move rfl) ?_
    refine RD.gp rfl rfl rfl rfl rfl rfl (fun w' => O.move rfl) ?_
    refine obindE hF fun y1505 hx1506 hF => ?_
    refine RD.mcall rfl rfl ⟨rfl, rfl⟩ Try.func4 bd4 rfl rfl (c_law07_TransParses _ s1147 _ _ turned1492 (hM.rd (i := 6) rfl) _ _ src1077 hr1483 _ _ dst1081 (hM.rd (i := 3) rfl) _ hx1506) fun v w1507 hv => ?_
    obtain ⟨rfl, hN1508⟩ := hv
    refine ⟨fun _ => hN1508.fut.wide0, ?_⟩
    have hr1483 := hr1483.fut hN1508.fut
    have hr1486r := hr1486r.fut hN1508.fut
    have hr1487r := hr1487r.fut hN1508.fut
    have hr1498 := hr1498.fut hN1508.fut
    replace hM := hM.call0 hN1508
    refine RD.gp rfl rfl rfl rfl rfl rfl (fun w' => O.not rfl) ?_
    refine RD.p rfl rfl rfl rfl (fun w' => O.pickf rfl rfl) ?_
    refine RD.p rfl rfl rfl rfl (fun w' => O.move rfl) ?_
    refine RD.bcase (t := 202) rfl (fun hc => ?_) (fun hc => ?_)
    ·rw [if_pos hc] at hF
     refine RD.gskip rfl rfl rfl rfl rfl ?_
     refine RD.gskip rfl rfl rfl rfl rfl ?_
     refine RD.gskip rfl rfl rfl rfl rfl ?_
     refine RD.gskip rfl rfl rfl rfl rfl ?_
     refine RD.gskip rfl rfl rfl rfl rfl ?_
     refine RD.gskip rfl rfl rfl rfl rfl ?_
     refine RD.gskip rfl rfl rfl rfl rfl ?_
     refine RD.gskip rfl rfl rfl rfl rfl ?_
     refine RD.gskip rfl rfl rfl rfl rfl ?_
     refine RD.gskip rfl rfl rfl rfl rfl ?_
     refine RD.p rfl rfl rfl rfl (fun w' => O.pickt rfl rfl) ?_
     refine RD.nil ?_
     refine KQ.then_k ?_
     replace hM := hM.pick [0, 1, 2, 3, 4, 5] rfl (by decide)
     exact fun a ha => ⟨true, ha.less (less_cons rfl (less_cons rfl (less_cons rfl (less_cons rfl (less_cons rfl (less_cons rfl (less_cons rfl (less_cons rfl (less_cons rfl (less_cons rfl less_nil)))))))))), hM, hr1483, (fun w2 h0 => by (have g0 := hr1486 _ h0; exact g0)), (fun w2 h0 => by (have g0 := hr1487 _ h0; exact g0)), hF⟩
    rw [if_neg (ne_true hc)] at hF
    refine RD.gp rfl rfl rfl rfl rfl rfl (fun w' => O.fldA fl26_0 (by decide) rfl) ?_
    refine RD.gq rfl rfl rfl rfl rfl rfl (fun w' hf => O.load sc5 rfl (Cs.adds [0] (hM.bxX (i0 := 4) rfl [6] rfl rfl hf) rfl)) ?_
    refine RD.gp rfl rfl rfl rfl rfl rfl (fun w' => O.move rfl) ?_
    refine RD.gp rfl rfl rfl rfl rfl rfl (fun w' => O.move rfl) ?_
    refine RD.gp rfl rfl rfl rfl rfl rfl (fun w' => O.move rfl) ?_
    refine obindE hF fun cut1509 hy1510 hF => ?_
    refine cutNE A1075 c1076 (Int.toNat 0) 1 fun A1511 c1512 eA1514 ec1515 => ?_
    have hr1513 := Rd.cutT (enc := (eI .u8)) (s := 1) (fun _ => rfl) hr1483 hy1510 (m := c1076) (by have := hr1483.cap; have := (gcut_some hy1510).2.2.1; omega) (Nat.le_refl _)
    rw [← eA1514, ← ec1515] at hr1513
    refine RD.gp (v := .slice A1511 (cut1509).length c1512) rfl rfl rfl rfl rfl rfl (fun w' => (by rw [eA1514, ec1515]; exact O.cuthT sl24 hr1483 hy1510 rfl rfl)) ?_
    refine RD.gmeff rfl rfl rfl rfl (E.bsl (enc := (eI .u8)) (xs := ([1] : List Int)) hM sl24 ze5 rfl rfl rfl (fun _ => rfl) rfl (by kernel_rfl) rfl) rfl fun v w1516 hv => ?_
    clear hM
    obtain ⟨A1517, rfl, hM, hf⟩ := hv
    refine ⟨fun _ => hf.wide0, ?_⟩
    have hr1483 := hr1483.fut hf
    have hr1486r := hr1486r.fut hf
    have hr1487r := hr1487r.fut hf
    have hr1498 := hr1498.fut hf
    have hr1513 := hr1513.fut hf
    refine cut_someE hF fun hq1522 hF => ?_
    refine RD.gmeff rfl rfl rfl rfl (E.app (enc := (eI .u8)) (xs := turned1492) (ys := ([1] : List Int)) (j := 6) hM rfl sl24 ze5 rfl rfl rfl rfl rfl (hM.rd (i := 7) rfl) (fun _ => One.all rfl) (of_decide_eq_true hq1522)) rfl fun v w1521 hv => ?_
    clear hM
    obtain ⟨A1519, c1520, rfl, hM, hf⟩ := hv
    refine ⟨fun _ => hf, ?_⟩
    have hr1483 := hr1074 _ (hM.rd (i := 2) rfl) (hM.rd (i := 1) rfl)
    have hr1486r := hr1486 _ (hM.rd (i := 0) rfl)
    have hr1487r := hr1487 _ (hM.rd (i := 0) rfl)
    have hr1498 := Rd.cutT (enc := (eI .u8)) (s := 1) (fun _ => rfl) (hM.rd (i := 5) rfl) hy1495 (m := c1244) (by have := (hM.rd (i := 5) rfl).cap; have := (gcut_some hy1495).2.2.1; omega) (Nat.le_refl _)
    rw [← eA1499, ← ec1500] at hr1498
    have hr1513 := Rd.cutT (enc := (eI .u8)) (s := 1) (fun _ => rfl) hr1483 hy1510 (m := c1076) (by have := hr1483.cap; have := (gcut_some hy1510).2.2.1; omega) (Nat.le_refl _)
    rw [← eA1514, ← ec1515] at hr1513
    refine obindE hF fun y1524 hx1525 hF => ?_
    refine RD.mcall rfl rfl ⟨rfl, rfl⟩ Try.func4 bd4 rfl rfl (c_law07_TransParses _ s1147 _ _ (turned1492 ++ ([1] : List Int)) (hM.rd (i := 6) rfl) _ _ dst1081 (hM.rd (i := 3) rfl) _ _ cut1509 hr1513 _ hx1525) fun v w1526 hv => ?_
    obtain ⟨rfl, hN1527⟩ := hv
    refine ⟨fun _ => hN1527.fut.wide0, ?_⟩
    have hr1483 := hr1483.fut hN1527.fut
    have hr1486r := hr1486r.fut hN1527.fut
    have hr1487r := hr1487r.fut hN1527.fut
    have hr1498 := hr1498.fut hN1527.fut
    have hr1513 := hr1513.fut hN1527.fut
    replace hM := hM.call0 hN1527
    refine RD.gp rfl rfl rfl rfl rfl rfl (fun w' => O.not rfl) ?_
    refine RD.p rfl rfl rfl rfl (fun w' => O.pickf rfl rfl) ?_
    refine RD.nil ?_
    refine KQ.then_k ?_
    replace hM := hM.pick [0, 1, 2, 3, 4, 5] rfl (by decide)
    exact fun a ha => ⟨(!y1524), ha.less (less_cons rfl (less_cons rfl (less_cons rfl (less_cons rfl (less_cons rfl (less_cons rfl (less_cons rfl (less_cons rfl (less_cons rfl (less_cons rfl less_nil)))))))))), hM, hr1483, (fun w2 h0 => by (have g0 := hr1486 _ h0; exact g0)), (fun w2 h0 => by (have g0 := hr1487 _ h0; exact g0)), hF⟩
   rintro a w1538 ⟨t1537, ha, hM, hr1531, hr1534, hr1535, hF⟩
   refine KC.app ha ?_
   clear ha
   unfold F_law07_TransKnown_j9 at hF
   have hr1534r := hr1534 _ (hM.rd (i := 0) rfl)
   have hr1535r := hr1535 _ (hM.rd (i := 0) rfl)
   refine KC.cond rfl (fun hc => ?_) (fun hc => ?_)
   ·rw [if_pos hc] at hF
    refine sr fun Q1539 hQ1539 => ?_
    refine va rfl rfl ?_
    refine nt hQ1539 ?_
    clear hQ1539 Q1539
    refine KC.ret ?_
    refine KQ.blk_r ?_
    refine KQ.thr hQ1462 ?_
    clear hQ1462 Q1462
    refine KQ.then_r ?_
    refine KQ.blk_r ?_
    refine KQ.blk_r ?_
    refine KQ.thr hQ1043 ?_
    clear hQ1043 Q1043
    refine KQ.then_r ?_
    refine KQ.blk_r ?_
    refine KQ.thr hQ24 ?_
    clear hQ24 Q24
    have hE := Option.some.inj hF
    clear hF
    subst hE
    replace hM := hM.pick [] rfl (by decide)
    refine KQ.rets Try.results6 (RVs.cons (RV.tm rfl) RVs.nil) ?_
    exact ⟨_, rfl, rfl, hM⟩
   rw [if_neg (ne_true hc)] at hF
   refine KC.skip ?_
   refine KQ.blk_n ?_
   refine KQ.thn hQ1462 ?_
   clear hQ1462 Q1462
   refine KC.region ?_
   refine vm rfl rfl ?_
   refine RL.val (O.add rfl rfl) rfl ?_
   refine va rfl rfl ?_
   refine RL.nil ?_
   refine KQ.then_k ?_
   exact fun a ha => ⟨k1449, Nat.lt_succ_self k1449, (IntKind.i64.wrap (nv1446 + 1)), ha.less (less_cons rfl (less_cons rfl (less_cons rfl (less_cons rfl (less_cons rfl (less_cons rfl (less_cons rfl (less_cons rfl (less_cons rfl less_nil))))))))), hM, hr1531, (fun w2 h0 => by (have g0 := hr1534 _ h0; exact g0)), (fun w2 h0 => by (have g0 := hr1535 _ h0; exact g0)), hF⟩
  rw [if_neg (ne_true hc)] at hF
  refine KC.exit ?_
  refine KQ.thx hQ1450 ?_
  clear hQ1450 Q1450
  refine KQ.then_x ?_
  refine KQ.blk_x ?_
  refine KQ.blk_n ?_
  refine KQ.thn hQ1043 ?_
  clear hQ1043 Q1043
  replace hM := hM.pick [0, 1, 2] rfl (by decide)
  refine KC.region ?_
  refine vm rfl rfl ?_
  refine RL.val (O.add rfl rfl) rfl ?_
  refine va rfl rfl ?_
  refine RL.nil ?_
  refine KQ.then_k ?_
  exact fun a ha => ⟨k1040, Nat.lt_succ_self k1040, A1048, c1049, (data1034 ++ ([(IntKind.u8.wrap (IntKind.i64.wrap (i1037 * 53)))] : List Int)), (IntKind.i64.wrap (i1037 + 1)), ha.less (less_cons rfl (less_cons rfl (less_cons rfl (less_cons rfl less_nil)))), hM, hF⟩
 rw [if_neg (ne_true hc)] at hF
 refine KC.exit ?_
 refine KQ.thx hQ1041 ?_
 clear hQ1041 Q1041
 refine KQ.then_x ?_
 refine KQ.blk_x ?_
 refine KQ.thn hQ24 ?_
 clear hQ24 Q24
 refine KC.cut (fun a w1567 => ∃ (t1566 : Bool), Kn 235 [(0, vB t1566)] a ∧ Mem w [] w1567 [] ∧ F_law07_TransKnown_j10 t1566 = some r) ?_ ?_
 ·refine KC.region ?_
  refine RL.eff (E.bsl (enc := (eI .u8)) (xs := ([0, 1, 0, 1, 0, 8, 0, 0] : List Int)) hM sl24 ze5 rfl rfl rfl (fun _ => rfl) rfl (by kernel_rfl) rfl) rfl fun v w1540 hv => ?_
  clear hM
  obtain ⟨A1541, rfl, hM, hf⟩ := hv
  refine vm rfl rfl ?_
  refine vm rfl rfl ?_
  refine obindE hF fun y1543 hx1544 hF => ?_
  refine RL.call Try.func4 bd4 rfl rfl (c_law07_TransParses _ 17 _ _ ([0, 1, 0, 1, 0, 8, 0, 0] : List Int) (hM.rd (i := 3) rfl) _ _ ([10, 0, 0, 1] : List Int) (hM.rd (i := 1) rfl) _ _ ([10, 0, 0, 1] : List Int) (hM.rd (i := 1) rfl) _ hx1544) fun v w1545 hv => ?_
  obtain ⟨rfl, hN1546⟩ := hv
  replace hM := hM.call0 hN1546
  refine vm rfl rfl ?_
  refine RL.bcase (t := 218) rfl (fun hc => ?_) (fun hc => ?_)
  ·rw [if_pos hc] at hF
   refine RL.geff rfl rfl (E.bsl (enc := (eI .u8)) (xs := ([0, 1, 0, 1, 0, 8, 0, 0] : List Int)) hM sl24 ze5 rfl rfl rfl (fun _ => rfl) rfl (by kernel_rfl) rfl) rfl fun v w1547 hv => ?_
   clear hM
   obtain ⟨A1548, rfl, hM, hf⟩ := hv
   refine RL.gval rfl rfl (O.move rfl) rfl ?_
   refine RL.gval rfl rfl (O.move rfl) rfl ?_
   refine obindE hF fun y1550 hx1551 hF => ?_
   refine RL.gcall rfl rfl Try.func4 bd4 rfl rfl (c_law07_TransParses _ 17 _ _ ([0, 1, 0, 1, 0, 8, 0, 0] : List Int) (hM.rd (i := 4) rfl) _ _ (List.replicate (Int.toNat 16) (0 : Int)) (hM.rd (i := 2) rfl) _ _ (List.replicate (Int.toNat 16) (0 : Int)) (hM.rd (i := 2) rfl) _ hx1551) fun v w1552 hv => ?_
   obtain ⟨rfl, hN1553⟩ := hv
   replace hM := hM.call0 hN1553
   refine RL.val (O.pickt rfl rfl) rfl ?_
   refine vm rfl rfl ?_
   refine RL.bcase (t := 224) rfl (fun hc => ?_) (fun hc => ?_)
   ·rw [if_pos hc] at hF
    refine cut_someE hF fun hq1556 hF => ?_
    refine RL.geff rfl rfl (E.mks (enc := (eI .u8)) (zr := 0) hM sl24 ze5 rfl rfl (fun _ => rfl) rfl rfl rfl (of_decide_eq_true hq1556)) rfl fun v w1555 hv => ?_
    clear hM
    obtain ⟨A1554, rfl, hM, hf⟩ := hv
    refine RL.gval rfl rfl (O.bld (cs := [v8 17, v16 0, v16 0, v32 0, v32 0, v8 0, v16 0, v16 0, .slice none 0 0, v8 0, v8 0, .slice A1554 ((List.replicate (Int.toNat 65536) (0 : Int))).length (Int.toNat 65536)]) bt26 rfl (by kernel_rfl)) rfl ?_
    refine RL.gval rfl rfl (O.bld (cs := [v8 0, v16 0, v16 0, v32 0, v32 0, v8 0, v16 0, v16 0, .slice none 0 0, v8 0, v8 0, .slice none 0 0]) bt26 rfl (by kernel_rfl)) rfl ?_
    refine RL.gval rfl rfl (O.move rfl) rfl ?_
    refine RL.gval rfl rfl (O.move rfl) rfl ?_
    refine obindE hF fun y1558 hx1559 hF => ?_
    refine RL.gcall rfl rfl Try.func3 bd3 rfl rfl (c_law07_TransPuts _ (T_trans_Segment.mk 17 0 0 0 0 0 0 0 ([]) 0 0 (List.replicate (Int.toNat 65536) (0 : Int))) none 0 Rd.nilr _ _ (hM.rd (i := 5) rfl) (T_trans_Segment.mk 0 0 0 0 0 0 0 0 ([]) 0 0 ([])) none 0 Rd.nilr none 0 Rd.nilr _ _ ([10, 0, 0, 1] : List Int) (hM.rd (i := 1) rfl) _ _ ([10, 0, 0, 1] : List Int) (hM.rd (i := 1) rfl) 0 _ hx1559) fun v w1560 hv => ?_
    obtain ⟨rfl, hN1561⟩ := hv
    replace hM := hM.call0 hN1561
    refine RL.val (O.pickt rfl rfl) rfl ?_
    refine vm rfl rfl ?_
    refine RL.bcase (t := 232) rfl (fun hc => ?_) (fun hc => ?_)
    ·rw [if_pos hc] at hF
     refine obindE hF fun y1562 hx1563 hF => ?_
     refine RL.gcall rfl rfl Try.func8 bd8 rfl rfl (c_law07_works _ _ hx1563) fun v w1564 hv => ?_
     obtain ⟨rfl, hN1565⟩ := hv
     replace hM := hM.call0 hN1565
     refine RL.val (O.pickt rfl rfl) rfl ?_
     refine va rfl rfl ?_
     refine RL.nil ?_
     refine KQ.then_k ?_
     replace hM := hM.pick [] rfl (by decide)
     exact fun a ha => ⟨y1562, ha.less (less_cons rfl less_nil), hM, hF⟩
    rw [if_neg (ne_true hc)] at hF
    refine RL.gskip rfl rfl rfl rfl ?_
    refine RL.val (O.pickf rfl rfl) rfl ?_
    refine va rfl rfl ?_
    refine RL.nil ?_
    refine KQ.then_k ?_
    replace hM := hM.pick [] rfl (by decide)
    exact fun a ha => ⟨false, ha.less (less_cons rfl less_nil), hM, hF⟩
   rw [if_neg (ne_true hc)] at hF
   refine RL.brun1 10 234 false (by kernel_rfl) ?_
   refine va rfl rfl ?_
   refine RL.nil ?_
   refine KQ.then_k ?_
   replace hM := hM.pick [] rfl (by decide)
   exact fun a ha => ⟨false, ha.less (less_cons rfl less_nil), hM, hF⟩
  rw [if_neg (ne_true hc)] at hF
  refine RL.brun1 16 234 false (by kernel_rfl) ?_
  refine va rfl rfl ?_
  refine RL.nil ?_
  refine KQ.then_k ?_
  replace hM := hM.pick [] rfl (by decide)
  exact fun a ha => ⟨false, ha.less (less_cons rfl less_nil), hM, hF⟩
 rintro a w1567 ⟨t1566, ha, hM, hF⟩
 refine KC.app ha ?_
 clear ha
 unfold F_law07_TransKnown_j10 at hF
 refine KC.ret ?_
 have hE := Option.some.inj hF
 clear hF
 subst hE
 refine KQ.rets Try.results6 (RVs.cons (RV.tm rfl) RVs.nil) ?_
 exact ⟨_, rfl, rfl, hM⟩
end Go.Proofs.Ytcinagdkkclapaa
