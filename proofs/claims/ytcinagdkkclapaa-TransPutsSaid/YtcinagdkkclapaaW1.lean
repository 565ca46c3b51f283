/- Printed by a program of this claim: each call returns what the plain function of its name gives. -/
import Derived.Test.YtcinagdkkclapaaRows
import Derived.Test.YtcinagdkkclapaaF
set_option linter.unusedVariables false
namespace Go.Proofs.Ytcinagdkkclapaa
open Go Go.Ox Go.RowKit
theorem ag26 : isAggT Try.prog 26 12 = true := by kernel_rfl
theorem fl26_8 : FieldT Try.prog 26 8 8 24 1 := ⟨by kernel_rfl, by kernel_rfl⟩
theorem sc24 : isScalar Try.prog 24 = true := by kernel_rfl
theorem sl24 : SliceT Try.prog 24 5 1 1 := ⟨Try.underlying24, by kernel_rfl⟩
theorem fl26_11 : FieldT Try.prog 26 11 11 24 1 := ⟨by kernel_rfl, by kernel_rfl⟩
theorem bd7 : BD Try.f7 = true := by kernel_rfl
theorem ze5 : ZeroT Try.prog 5 [v8 0] := by unfold ZeroT; kernel_rfl
theorem bt26 : BuildT Try.prog 26 [(0, 1), (1, 1), (2, 1), (3, 1), (4, 1), (5, 1), (6, 1), (7, 1), (8, 1), (9, 1), (10, 1), (11, 1)] [v8 0, v16 0, v16 0, v32 0, v32 0, v8 0, v16 0, v16 0, .slice none 0 0, v8 0, v8 0, .slice none 0 0] := ⟨by kernel_rfl, by unfold ZeroT; kernel_rfl⟩
theorem fl26_0 : FieldT Try.prog 26 0 0 5 1 := ⟨by kernel_rfl, by kernel_rfl⟩
theorem sc5 : isScalar Try.prog 5 = true := by kernel_rfl
theorem bt62 : BuildT Try.prog 62 [(0, 1), (1, 1), (2, 1), (3, 1), (4, 1)] [vI 0, vI 0, Value.nilFunc, Value.nilFunc, Value.nilFunc] := ⟨by kernel_rfl, by unfold ZeroT; kernel_rfl⟩
theorem ze62 : ZeroT Try.prog 62 [vI 0, vI 0, Value.nilFunc, Value.nilFunc, Value.nilFunc] := by unfold ZeroT; kernel_rfl
theorem ag62 : isAggT Try.prog 62 5 = true := by kernel_rfl
theorem sz62 : sizeT Try.prog 62 5 = true := by kernel_rfl
theorem bd30 : BD Try.f30 = true := by kernel_rfl
theorem fl62_2 : FieldT Try.prog 62 2 2 58 1 := ⟨by kernel_rfl, by kernel_rfl⟩
theorem sc58 : isScalar Try.prog 58 = true := by kernel_rfl
theorem bd49 : BD Try.f49 = true := by kernel_rfl
theorem ze26 : ZeroT Try.prog 26 [v8 0, v16 0, v16 0, v32 0, v32 0, v8 0, v16 0, v16 0, .slice none 0 0, v8 0, v8 0, .slice none 0 0] := by unfold ZeroT; kernel_rfl
theorem fl26_9 : FieldT Try.prog 26 9 9 5 1 := ⟨by kernel_rfl, by kernel_rfl⟩
theorem fl26_10 : FieldT Try.prog 26 10 10 5 1 := ⟨by kernel_rfl, by kernel_rfl⟩
theorem sz24 : sizeT Try.prog 24 1 = true := by kernel_rfl
theorem sz5 : sizeT Try.prog 5 1 = true := by kernel_rfl
theorem moP : Try.prog.follows .mixedOrders = true := by kernel_rfl
theorem fl26_1 : FieldT Try.prog 26 1 1 22 1 := ⟨by kernel_rfl, by kernel_rfl⟩
theorem sc22 : isScalar Try.prog 22 = true := by kernel_rfl
theorem fl26_2 : FieldT Try.prog 26 2 2 22 1 := ⟨by kernel_rfl, by kernel_rfl⟩
theorem fl26_3 : FieldT Try.prog 26 3 3 23 1 := ⟨by kernel_rfl, by kernel_rfl⟩
theorem sc23 : isScalar Try.prog 23 = true := by kernel_rfl
theorem fl26_4 : FieldT Try.prog 26 4 4 23 1 := ⟨by kernel_rfl, by kernel_rfl⟩
theorem fl26_5 : FieldT Try.prog 26 5 5 5 1 := ⟨by kernel_rfl, by kernel_rfl⟩
theorem fl26_6 : FieldT Try.prog 26 6 6 22 1 := ⟨by kernel_rfl, by kernel_rfl⟩
theorem fl26_7 : FieldT Try.prog 26 7 7 22 1 := ⟨by kernel_rfl, by kernel_rfl⟩
theorem bd37 : BD Try.f37 = true := by kernel_rfl
theorem bd15 : BD Try.f15 = true := by kernel_rfl
theorem bd32 : BD Try.f32 = true := by kernel_rfl
theorem fl62_0 : FieldT Try.prog 62 0 0 3 1 := ⟨by kernel_rfl, by kernel_rfl⟩
theorem sc3 : isScalar Try.prog 3 = true := by kernel_rfl
theorem sz26 : sizeT Try.prog 26 12 = true := by kernel_rfl
theorem bd52 : BD Try.f52 = true := by kernel_rfl
theorem bd46 : BD Try.f46 = true := by kernel_rfl
theorem bd13 : BD Try.f13 = true := by kernel_rfl
theorem ze70 : ZeroT Try.prog 70 [.slice none 0 0] := by unfold ZeroT; kernel_rfl
theorem sl88 : SliceT Try.prog 88 24 1 24 := ⟨Try.underlying88, by kernel_rfl⟩
theorem ze24 : ZeroT Try.prog 24 [.slice none 0 0] := by unfold ZeroT; kernel_rfl
theorem bd71 : BD Try.f71 = true := by kernel_rfl
theorem bd55 : BD Try.f55 = true := by kernel_rfl
theorem fl70_0 : FieldT Try.prog 70 0 0 24 1 := ⟨by kernel_rfl, by kernel_rfl⟩
theorem bd33 : BD Try.f33 = true := by kernel_rfl
theorem un5 : (Try.prog.underlying 5).isSome = true := by kernel_rfl
theorem sl101 : SliceT Try.prog 101 76 1 8 := ⟨Try.underlying101, by kernel_rfl⟩
theorem ze76 : ZeroT Try.prog 76 [v64 0] := by unfold ZeroT; kernel_rfl
theorem sc76 : isScalar Try.prog 76 = true := by kernel_rfl
theorem bd73 : BD Try.f73 = true := by kernel_rfl
theorem bd74 : BD Try.f74 = true := by kernel_rfl
theorem bd62 : BD Try.f62 = true := by kernel_rfl
theorem un76 : (Try.prog.underlying 76).isSome = true := by kernel_rfl
theorem bd63 : BD Try.f63 = true := by kernel_rfl
theorem bd57 : BD Try.f57 = true := by kernel_rfl
theorem bd56 : BD Try.f56 = true := by kernel_rfl
theorem un3 : (Try.prog.underlying 3).isSome = true := by kernel_rfl
theorem bd61 : BD Try.f61 = true := by kernel_rfl
theorem bd35 : BD Try.f35 = true := by kernel_rfl
theorem bd31 : BD Try.f31 = true := by kernel_rfl
theorem fl62_3 : FieldT Try.prog 62 3 3 59 1 := ⟨by kernel_rfl, by kernel_rfl⟩
theorem sc59 : isScalar Try.prog 59 = true := by kernel_rfl
theorem un22 : (Try.prog.underlying 22).isSome = true := by kernel_rfl
theorem un23 : (Try.prog.underlying 23).isSome = true := by kernel_rfl
theorem bd50 : BD Try.f50 = true := by kernel_rfl
theorem ze90 : ZeroT Try.prog 90 [v64 0, vI 0] := by unfold ZeroT; kernel_rfl
theorem fl90_1 : FieldT Try.prog 90 1 1 3 1 := ⟨by kernel_rfl, by kernel_rfl⟩
theorem fl90_0 : FieldT Try.prog 90 0 0 76 1 := ⟨by kernel_rfl, by kernel_rfl⟩
theorem bd72 : BD Try.f72 = true := by kernel_rfl
theorem sz3 : sizeT Try.prog 3 1 = true := by kernel_rfl
theorem sz76 : sizeT Try.prog 76 1 = true := by kernel_rfl
theorem bd59 : BD Try.f59 = true := by kernel_rfl
theorem bd58 : BD Try.f58 = true := by kernel_rfl
theorem bd60 : BD Try.f60 = true := by kernel_rfl
theorem bd34 : BD Try.f34 = true := by kernel_rfl
theorem fl62_1 : FieldT Try.prog 62 1 1 3 1 := ⟨by kernel_rfl, by kernel_rfl⟩
theorem bd36 : BD Try.f36 = true := by kernel_rfl
theorem bd53 : BD Try.f53 = true := by kernel_rfl
theorem bd47 : BD Try.f47 = true := by kernel_rfl
theorem bd11 : BD Try.f11 = true := by kernel_rfl
theorem fl62_4 : FieldT Try.prog 62 4 4 60 1 := ⟨by kernel_rfl, by kernel_rfl⟩
theorem sc60 : isScalar Try.prog 60 = true := by kernel_rfl
theorem bt100 : BuildT Try.prog 100 [(0, 1), (1, 1)] [.slice none 0 0, vI 0] := ⟨by kernel_rfl, by unfold ZeroT; kernel_rfl⟩
theorem bd39 : BD Try.f39 = true := by kernel_rfl
theorem fl100_0 : FieldT Try.prog 100 0 0 24 1 := ⟨by kernel_rfl, by kernel_rfl⟩
theorem fl100_1 : FieldT Try.prog 100 1 1 3 1 := ⟨by kernel_rfl, by kernel_rfl⟩
theorem bd78 : BD Try.f78 = true := by kernel_rfl
theorem bd77 : BD Try.f77 = true := by kernel_rfl
theorem bd75 : BD Try.f75 = true := by kernel_rfl
theorem bd68 : BD Try.f68 = true := by kernel_rfl
theorem bd76 : BD Try.f76 = true := by kernel_rfl
theorem bd70 : BD Try.f70 = true := by kernel_rfl
theorem bd69 : BD Try.f69 = true := by kernel_rfl
theorem sz22 : sizeT Try.prog 22 1 = true := by kernel_rfl
theorem sz23 : sizeT Try.prog 23 1 = true := by kernel_rfl
theorem bd51 : BD Try.f51 = true := by kernel_rfl
theorem bd54 : BD Try.f54 = true := by kernel_rfl
theorem bd48 : BD Try.f48 = true := by kernel_rfl
theorem bd19 : BD Try.f19 = true := by kernel_rfl
theorem bd12 : BD Try.f12 = true := by kernel_rfl
theorem un21 : (Try.prog.underlying 21).isSome = true := by kernel_rfl
theorem bd16 : BD Try.f16 = true := by kernel_rfl
theorem bd8 : BD Try.f8 = true := by kernel_rfl
theorem ze30 : ZeroT Try.prog 30 [v8 0, v16 0, v16 0, v32 0, v32 0, v8 0, v16 0, v16 0, Value.string ByteArray.empty, v8 0, v8 0, Value.string ByteArray.empty] := by unfold ZeroT; kernel_rfl
theorem bt30 : BuildT Try.prog 30 [(0, 1), (1, 1), (2, 1), (3, 1), (4, 1), (5, 1), (6, 1), (7, 1), (8, 1), (9, 1), (10, 1), (11, 1)] [v8 0, v16 0, v16 0, v32 0, v32 0, v8 0, v16 0, v16 0, Value.string ByteArray.empty, v8 0, v8 0, Value.string ByteArray.empty] := ⟨by kernel_rfl, by unfold ZeroT; kernel_rfl⟩
theorem ag30 : isAggT Try.prog 30 12 = true := by kernel_rfl
theorem sz30 : sizeT Try.prog 30 12 = true := by kernel_rfl
theorem bd9 : BD Try.f9 = true := by kernel_rfl
theorem fl30_0 : FieldT Try.prog 30 0 0 5 1 := ⟨by kernel_rfl, by kernel_rfl⟩
theorem bd25 : BD Try.f25 = true := by kernel_rfl
theorem fl30_8 : FieldT Try.prog 30 8 8 9 1 := ⟨by kernel_rfl, by kernel_rfl⟩
theorem sc9 : isScalar Try.prog 9 = true := by kernel_rfl
theorem fl30_11 : FieldT Try.prog 30 11 11 9 1 := ⟨by kernel_rfl, by kernel_rfl⟩
theorem bd27 : BD Try.f27 = true := by kernel_rfl
theorem fl30_3 : FieldT Try.prog 30 3 3 23 1 := ⟨by kernel_rfl, by kernel_rfl⟩
theorem fl30_4 : FieldT Try.prog 30 4 4 23 1 := ⟨by kernel_rfl, by kernel_rfl⟩
theorem fl30_5 : FieldT Try.prog 30 5 5 5 1 := ⟨by kernel_rfl, by kernel_rfl⟩
theorem fl30_6 : FieldT Try.prog 30 6 6 22 1 := ⟨by kernel_rfl, by kernel_rfl⟩
theorem fl30_7 : FieldT Try.prog 30 7 7 22 1 := ⟨by kernel_rfl, by kernel_rfl⟩
theorem fl30_9 : FieldT Try.prog 30 9 9 5 1 := ⟨by kernel_rfl, by kernel_rfl⟩
theorem fl30_10 : FieldT Try.prog 30 10 10 5 1 := ⟨by kernel_rfl, by kernel_rfl⟩
theorem fl30_1 : FieldT Try.prog 30 1 1 22 1 := ⟨by kernel_rfl, by kernel_rfl⟩
theorem fl30_2 : FieldT Try.prog 30 2 2 22 1 := ⟨by kernel_rfl, by kernel_rfl⟩
theorem bd14 : BD Try.f14 = true := by kernel_rfl
theorem bd42 : BD Try.f42 = true := by kernel_rfl
theorem bd65 : BD Try.f65 = true := by kernel_rfl
theorem bd43 : BD Try.f43 = true := by kernel_rfl
theorem bd44 : BD Try.f44 = true := by kernel_rfl
theorem bd26 : BD Try.f26 = true := by kernel_rfl
theorem bd29 : BD Try.f29 = true := by kernel_rfl
theorem bd66 : BD Try.f66 = true := by kernel_rfl
theorem bd67 : BD Try.f67 = true := by kernel_rfl
theorem bd45 : BD Try.f45 = true := by kernel_rfl
theorem bd28 : BD Try.f28 = true := by kernel_rfl
theorem bd10 : BD Try.f10 = true := by kernel_rfl
theorem bd17 : BD Try.f17 = true := by kernel_rfl
theorem bd64 : BD Try.f64 = true := by kernel_rfl
theorem bd38 : BD Try.f38 = true := by kernel_rfl
theorem sz9 : sizeT Try.prog 9 1 = true := by kernel_rfl
theorem bd18 : BD Try.f18 = true := by kernel_rfl
theorem bd40 : BD Try.f40 = true := by kernel_rfl
theorem bd20 : BD Try.f20 = true := by kernel_rfl
theorem bd41 : BD Try.f41 = true := by kernel_rfl
theorem bd21 : BD Try.f21 = true := by kernel_rfl
theorem bd22 : BD Try.f22 = true := by kernel_rfl
theorem bd23 : BD Try.f23 = true := by kernel_rfl
theorem bd24 : BD Try.f24 = true := by kernel_rfl
theorem bd3 : BD Try.f3 = true := by kernel_rfl
theorem bd5 : BD Try.f5 = true := by kernel_rfl
theorem bd4 : BD Try.f4 = true := by kernel_rfl
theorem Q30 (d : Nat) (x y : T_ref07_Segment) (w : World) : (Op.equalIn (d + 2) 30 (.agg #[v8 x.f_Proto, v16 x.f_Src, v16 x.f_Dst, v32 x.f_Seq, v32 x.f_Ack, v8 x.f_Flags, v16 x.f_Window, v16 x.f_Urgent, Value.string x.f_Options, v8 x.f_Type, v8 x.f_Code, Value.string x.f_Data]) (.agg #[v8 y.f_Proto, v16 y.f_Src, v16 y.f_Dst, v32 y.f_Seq, v32 y.f_Ack, v8 y.f_Flags, v16 y.f_Window, v16 y.f_Urgent, Value.string y.f_Options, v8 y.f_Type, v8 y.f_Code, Value.string y.f_Data])).run Try.prog w = .ok (q_ref07_Segment x y) w :=
 (run_equalIn_agg w (d + 1) 30 _ _ (by kernel_rfl) (by kernel_rfl)).trans (EqT.run (tr := [(false, 5, 0), (false, 22, 1), (false, 22, 2), (false, 23, 3), (false, 23, 4), (false, 5, 5), (false, 22, 6), (false, 22, 7), (false, 9, 8), (false, 5, 9), (false, 5, 10), (false, 9, 11)]) (by kernel_rfl) ⟨_, _, _, _, rfl, part_s sc5 rfl, part_s sc5 rfl, run_equalIn_int w (d + 0) 5 _ _ _ _ Try.underlying5, ⟨_, _, _, _, rfl, part_s sc22 rfl, part_s sc22 rfl, run_equalIn_int w (d + 0) 22 _ _ _ _ Try.underlying22, ⟨_, _, _, _, rfl, part_s sc22 rfl, part_s sc22 rfl, run_equalIn_int w (d + 0) 22 _ _ _ _ Try.underlying22, ⟨_, _, _, _, rfl, part_s sc23 rfl, part_s sc23 rfl, run_equalIn_int w (d + 0) 23 _ _ _ _ Try.underlying23, ⟨_, _, _, _, rfl, part_s sc23 rfl, part_s sc23 rfl, run_equalIn_int w (d + 0) 23 _ _ _ _ Try.underlying23, ⟨_, _, _, _, rfl, part_s sc5 rfl, part_s sc5 rfl, run_equalIn_int w (d + 0) 5 _ _ _ _ Try.underlying5, ⟨_, _, _, _, rfl, part_s sc22 rfl, part_s sc22 rfl, run_equalIn_int w (d + 0) 22 _ _ _ _ Try.underlying22, ⟨_, _, _, _, rfl, part_s sc22 rfl, part_s sc22 rfl, run_equalIn_int w (d + 0) 22 _ _ _ _ Try.underlying22, ⟨_, _, _, _, rfl, part_s sc9 rfl, part_s sc9 rfl, run_equalIn_string w (d + 0) 9 _ _ Try.underlying9, ⟨_, _, _, _, rfl, part_s sc5 rfl, part_s sc5 rfl, run_equalIn_int w (d + 0) 5 _ _ _ _ Try.underlying5, ⟨_, _, _, _, rfl, part_s sc5 rfl, part_s sc5 rfl, run_equalIn_int w (d + 0) 5 _ _ _ _ Try.underlying5, ⟨_, _, _, _, rfl, part_s sc9 rfl, part_s sc9 rfl, run_equalIn_string w (d + 0) 9 _ _ Try.underlying9, rfl, rfl⟩, rfl⟩, rfl⟩, rfl⟩, rfl⟩, rfl⟩, rfl⟩, rfl⟩, rfl⟩, rfl⟩, rfl⟩, rfl⟩)
theorem Q30t (x y : T_ref07_Segment) {xs ys : List Value} (w : World) (hx : xs = [v8 x.f_Proto, v16 x.f_Src, v16 x.f_Dst, v32 x.f_Seq, v32 x.f_Ack, v8 x.f_Flags, v16 x.f_Window, v16 x.f_Urgent, Value.string x.f_Options, v8 x.f_Type, v8 x.f_Code, Value.string x.f_Data]) (hy : ys = [v8 y.f_Proto, v16 y.f_Src, v16 y.f_Dst, v32 y.f_Seq, v32 y.f_Ack, v8 y.f_Flags, v16 y.f_Window, v16 y.f_Urgent, Value.string y.f_Options, v8 y.f_Type, v8 y.f_Code, Value.string y.f_Data]) : (Op.equalIn 10000 30 (.agg xs.toArray) (.agg ys.toArray)).run Try.prog w = .ok (q_ref07_Segment x y) w := by
 subst hx; subst hy; exact Q30 9998 x y w

set_option maxRecDepth 100000 in
set_option maxHeartbeats 40000000 in
theorem c_law07_few (w : World) (s1 : T_trans_Segment) (A2 : Option Addr) (c3 : Nat) (hr4 : Rd w A2 c3 1 s1.f_Options.length (s1.f_Options.flatMap (eI .u8))) (A5 : Option Addr) (c6 : Nat) (hr7 : Rd w A5 c6 1 s1.f_Data.length (s1.f_Data.flatMap (eI .u8))) (r : Bool) (hF : F_law07_few s1 = some r) :
  CallsR Try.prog 7 [.agg #[v8 s1.f_Proto, v16 s1.f_Src, v16 s1.f_Dst, v32 s1.f_Seq, v32 s1.f_Ack, v8 s1.f_Flags, v16 s1.f_Window, v16 s1.f_Urgent, .slice A2 (s1.f_Options).length c3, v8 s1.f_Type, v8 s1.f_Code, .slice A5 (s1.f_Data).length c6]] w (fun v w' => v = vB r ∧ Mem w [] w' []) := by
 refine calls_KC Try.func7 rfl Try.ntmps7 rfl ?_
 have hM := Mem.init w
 unfold F_law07_few at hF
 refine sr fun Q8 hQ8 => ?_
 refine RL.eff (E.box (vs := [v8 s1.f_Proto, v16 s1.f_Src, v16 s1.f_Dst, v32 s1.f_Seq, v32 s1.f_Ack, v8 s1.f_Flags, v16 s1.f_Window, v16 s1.f_Urgent, .slice A2 (s1.f_Options).length c3, v8 s1.f_Type, v8 s1.f_Code, .slice A5 (s1.f_Data).length c6]) hM rfl rfl) rfl fun v w10 hv => ?_
 clear hM
 obtain ⟨g9, rfl, hM, hf⟩ := hv
 refine va rfl rfl ?_
 refine nt hQ8 ?_
 clear hQ8 Q8
 refine KC.cut (fun a w13 => ∃ (t12 : Bool), Kn 19 [(2, vB t12)] a ∧ Mem w [] w13 [] ∧ F_law07_few_j1 t12 = some r) ?_ ?_
 ·refine KC.region ?_
  refine RL.val (O.fldA fl26_8 (by decide) rfl) rfl ?_
  refine RL.val (O.load sc24 rfl (Cs.adds [8] ((hM.bx (i := 0) rfl)) rfl)) rfl ?_
  refine RL.val (O.len sl24 rfl) rfl ?_
  refine RL.val (O.leq rfl rfl) rfl ?_
  refine vm rfl rfl ?_
  refine RL.bcase (t := 7) rfl (fun hc => ?_) (fun hc => ?_)
  ·rw [if_pos hc] at hF
   refine RL.gval rfl rfl (O.fldA fl26_11 (by decide) rfl) rfl ?_
   refine RL.gval rfl rfl (O.load sc24 rfl (Cs.adds [11] ((hM.bx (i := 0) rfl)) rfl)) rfl ?_
   refine RL.gval rfl rfl (O.len sl24 rfl) rfl ?_
   refine RL.gval rfl rfl (O.leq rfl rfl) rfl ?_
   refine RL.gval rfl rfl (O.move rfl) rfl ?_
   refine RL.bcase (t := 12) rfl (fun hc => ?_) (fun hc => ?_)
   ·rw [if_pos hc] at hF
    refine RL.gskip rfl rfl rfl rfl ?_
    refine RL.gskip rfl rfl rfl rfl ?_
    refine RL.gskip rfl rfl rfl rfl ?_
    refine RL.gskip rfl rfl rfl rfl ?_
    refine RL.gval rfl rfl (O.pickt rfl rfl) rfl ?_
    refine RL.val (O.pickt rfl rfl) rfl ?_
    refine va rfl rfl ?_
    refine RL.nil ?_
    refine KQ.then_k ?_
    replace hM := hM.pick [] rfl (by decide)
    exact fun a ha => ⟨true, ha.less (less_cons rfl less_nil), hM, hF⟩
   rw [if_neg (ne_true hc)] at hF
   refine RL.gval rfl rfl (O.fldA fl26_11 (by decide) rfl) rfl ?_
   refine RL.gval rfl rfl (O.load sc24 rfl (Cs.adds [11] ((hM.bx (i := 0) rfl)) rfl)) rfl ?_
   refine RL.gval rfl rfl (O.len sl24 rfl) rfl ?_
   refine RL.gval rfl rfl (O.gtr rfl rfl) rfl ?_
   refine RL.gval rfl rfl (O.pickf rfl rfl) rfl ?_
   refine RL.val (O.pickt rfl rfl) rfl ?_
   refine va rfl rfl ?_
   refine RL.nil ?_
   refine KQ.then_k ?_
   replace hM := hM.pick [] rfl (by decide)
   exact fun a ha => ⟨(decide (65535 < (s1.f_Data.length : Int))), ha.less (less_cons rfl less_nil), hM, hF⟩
  rw [if_neg (ne_true hc)] at hF
  refine RL.brun1 11 18 false (by kernel_rfl) ?_
  refine va rfl rfl ?_
  refine RL.nil ?_
  refine KQ.then_k ?_
  replace hM := hM.pick [] rfl (by decide)
  exact fun a ha => ⟨false, ha.less (less_cons rfl less_nil), hM, hF⟩
 rintro a w13 ⟨t12, ha, hM, hF⟩
 refine KC.app ha ?_
 clear ha
 unfold F_law07_few_j1 at hF
 refine KC.ret ?_
 have hE := Option.some.inj hF
 clear hF
 subst hE
 refine KQ.rets Try.results7 (RVs.cons (RV.tm rfl) RVs.nil) ?_
 exact ⟨_, rfl, rfl, hM⟩
set_option maxRecDepth 100000 in
set_option maxHeartbeats 40000000 in
theorem c_trans_protocols (w : World) (r : Unit) (hF : F_trans_protocols = some r) :
  CallsR Try.prog 30 [] w (fun v w' => ∃ (g0 : Nat), v = .map (some g0) ∧ Mem w [] w' [.res [g0] (MapAt g0 [⟨.int .u8 6, .agg #[vI 20, vI 16, .func (.func 49) #[] #[], .func (.func 50) #[] #[], .func (.func 51) #[] #[]], 0⟩, ⟨.int .u8 17, .agg #[vI 8, vI 6, .func (.func 52) #[] #[], .func (.func 53) #[] #[], .func (.func 54) #[] #[]], 1⟩, ⟨.int .u8 1, .agg #[vI 4, vI 2, .func (.func 46) #[] #[], .func (.func 47) #[] #[], .func (.func 48) #[] #[]], 2⟩, ⟨.int .u8 58, .agg #[vI 4, vI 2, .func (.func 46) #[] #[], .func (.func 47) #[] #[], .func (.func 48) #[] #[]], 3⟩] 4)]) := by
 refine calls_KC Try.func30 rfl Try.ntmps30 rfl ?_
 have hM := Mem.init w
 unfold F_trans_protocols at hF
 refine sr fun Q1 hQ1 => ?_
 refine va rfl rfl ?_
 refine nt hQ1 ?_
 clear hQ1 Q1
 refine sr fun Q2 hQ2 => ?_
 refine RL.val (O.bld (cs := [vI 4, vI 2, .func (.func 46) #[] #[], .func (.func 47) #[] #[], .func (.func 48) #[] #[]]) bt62 rfl (by kernel_rfl)) rfl ?_
 refine RL.eff (E.alloc hM ze62) rfl fun v w4 hv => ?_
 clear hM
 obtain ⟨g3, rfl, hM, hf⟩ := hv
 refine RL.effs (E.stB (j := 0) (off := 0) (vs := [vI 4, vI 2, .func (.func 46) #[] #[], .func (.func 47) #[] #[], .func (.func 48) #[] #[]]) (cs' := [vI 4, vI 2, .func (.func 46) #[] #[], .func (.func 47) #[] #[], .func (.func 48) #[] #[]]) hM rfl sz62 rfl (adds_eq [] rfl) rfl rfl (One.all rfl) rfl rfl) fun w6 hM1 => ?_
 clear hM
 have hM := hM1
 clear hM1
 refine nt hQ2 ?_
 clear hQ2 Q2
 refine sr fun Q7 hQ7 => ?_
 refine RL.eff (E.mkmap hM) rfl fun v w9 hv => ?_
 clear hM
 obtain ⟨g8, rfl, hM, hf⟩ := hv
 refine RL.val (O.bld (cs := [vI 20, vI 16, .func (.func 49) #[] #[], .func (.func 50) #[] #[], .func (.func 51) #[] #[]]) bt62 rfl (by kernel_rfl)) rfl ?_
 refine RL.effs (E.mins (es' := [⟨.int .u8 6, .agg #[vI 20, vI 16, .func (.func 49) #[] #[], .func (.func 50) #[] #[], .func (.func 51) #[] #[]], 0⟩]) (ck' := 1) hM (j := 1) rfl Try.underlying64 Try.underlying5 rfl rfl rfl (by kernel_rfl) rfl rfl) fun w11 hM1 => ?_
 clear hM
 have hM := hM1
 clear hM1
 refine RL.val (O.bld (cs := [vI 8, vI 6, .func (.func 52) #[] #[], .func (.func 53) #[] #[], .func (.func 54) #[] #[]]) bt62 rfl (by kernel_rfl)) rfl ?_
 refine RL.effs (E.mins (es' := [⟨.int .u8 6, .agg #[vI 20, vI 16, .func (.func 49) #[] #[], .func (.func 50) #[] #[], .func (.func 51) #[] #[]], 0⟩, ⟨.int .u8 17, .agg #[vI 8, vI 6, .func (.func 52) #[] #[], .func (.func 53) #[] #[], .func (.func 54) #[] #[]], 1⟩]) (ck' := 2) hM (j := 1) rfl Try.underlying64 Try.underlying5 rfl rfl rfl (by kernel_rfl) rfl rfl) fun w12 hM1 => ?_
 clear hM
 have hM := hM1
 clear hM1
 refine RL.val (O.loadN (cs := [vI 4, vI 2, .func (.func 46) #[] #[], .func (.func 47) #[] #[], .func (.func 48) #[] #[]]) ag62 rfl (Cs.addsN [] ((hM.bx (i := 0) rfl)) rfl)) rfl ?_
 refine RL.effs (E.mins (es' := [⟨.int .u8 6, .agg #[vI 20, vI 16, .func (.func 49) #[] #[], .func (.func 50) #[] #[], .func (.func 51) #[] #[]], 0⟩, ⟨.int .u8 17, .agg #[vI 8, vI 6, .func (.func 52) #[] #[], .func (.func 53) #[] #[], .func (.func 54) #[] #[]], 1⟩, ⟨.int .u8 1, .agg #[vI 4, vI 2, .func (.func 46) #[] #[], .func (.func 47) #[] #[], .func (.func 48) #[] #[]], 2⟩]) (ck' := 3) hM (j := 1) rfl Try.underlying64 Try.underlying5 rfl rfl rfl (by kernel_rfl) rfl rfl) fun w13 hM1 => ?_
 clear hM
 have hM := hM1
 clear hM1
 refine RL.val (O.loadN (cs := [vI 4, vI 2, .func (.func 46) #[] #[], .func (.func 47) #[] #[], .func (.func 48) #[] #[]]) ag62 rfl (Cs.addsN [] ((hM.bx (i := 0) rfl)) rfl)) rfl ?_
 refine RL.effs (E.mins (es' := [⟨.int .u8 6, .agg #[vI 20, vI 16, .func (.func 49) #[] #[], .func (.func 50) #[] #[], .func (.func 51) #[] #[]], 0⟩, ⟨.int .u8 17, .agg #[vI 8, vI 6, .func (.func 52) #[] #[], .func (.func 53) #[] #[], .func (.func 54) #[] #[]], 1⟩, ⟨.int .u8 1, .agg #[vI 4, vI 2, .func (.func 46) #[] #[], .func (.func 47) #[] #[], .func (.func 48) #[] #[]], 2⟩, ⟨.int .u8 58, .agg #[vI 4, vI 2, .func (.func 46) #[] #[], .func (.func 47) #[] #[], .func (.func 48) #[] #[]], 3⟩]) (ck' := 4) hM (j := 1) rfl Try.underlying64 Try.underlying5 rfl rfl rfl (by kernel_rfl) rfl rfl) fun w14 hM1 => ?_
 clear hM
 have hM := hM1
 clear hM1
 refine vm rfl rfl ?_
 refine va rfl rfl ?_
 refine nt hQ7 ?_
 clear hQ7 Q7
 refine KC.ret ?_
 have hE := Option.some.inj hF
 clear hF
 subst hE
 replace hM := hM.pick [1] rfl (by decide)
 refine KQ.rets Try.results30 (RVs.cons (RV.tm rfl) RVs.nil) ?_
 exact ⟨_, rfl, g8, rfl, hM⟩
set_option maxRecDepth 100000 in
set_option maxHeartbeats 40000000 in
theorem c_bytes_Equal (w : World) (A2 : Option Addr) (c3 : Nat) (av1 : List Int) (hr4 : Rd w A2 c3 1 av1.length (av1.flatMap (eI .u8))) (A6 : Option Addr) (c7 : Nat) (b5 : List Int) (hr8 : Rd w A6 c7 1 b5.length (b5.flatMap (eI .u8))) (r : Bool) (hF : F_bytes_Equal av1 b5 = some r) :
  CallsR Try.prog 37 [.slice A2 (av1).length c3, .slice A6 (b5).length c7] w (fun v w' => v = vB r ∧ Mem w [] w' []) := by
 refine calls_KC Try.func37 rfl Try.ntmps37 rfl ?_
 have hM := Mem.init w
 unfold F_bytes_Equal at hF
 refine sr fun Q9 hQ9 => ?_
 refine va rfl rfl ?_
 refine nt hQ9 ?_
 clear hQ9 Q9
 refine sr fun Q10 hQ10 => ?_
 refine vm rfl rfl ?_
 refine RL.val (O.b2s sl24 Try.underlying5 Try.underlying9 rfl ((hM.inp hr4 Off.nil))) rfl ?_
 refine vm rfl rfl ?_
 refine RL.val (O.b2s sl24 Try.underlying5 Try.underlying9 rfl ((hM.inp hr8 Off.nil))) rfl ?_
 refine RL.val (O.streq rfl rfl) rfl ?_
 refine va rfl rfl ?_
 refine nt hQ10 ?_
 clear hQ10 Q10
 refine KC.ret ?_
 have hE := Option.some.inj hF
 clear hF
 subst hE
 refine KQ.rets Try.results37 (RVs.cons (RV.tm rfl) RVs.nil) ?_
 exact ⟨_, rfl, rfl, hM⟩
end Go.Proofs.Ytcinagdkkclapaa
