/- Printed by a program of this claim: each call returns what the plain function of its name gives. -/
import Derived.Test.YtpbkjellpboefaaRows
import Derived.Test.YtpbkjellpboefaaF
set_option linter.unusedVariables false
namespace Go.Proofs.Ytpbkjellpboefaa
open Go Go.Ox Go.RowKit
theorem sl22 : SliceT Try.prog 22 5 1 1 := ⟨Try.underlying22, by kernel_rfl⟩
theorem ze33 : ZeroT Try.prog 33 [.slice none 0 0] := by unfold ZeroT; kernel_rfl
theorem bd31 : BD Try.f31 = true := by kernel_rfl
theorem bd12 : BD Try.f12 = true := by kernel_rfl
theorem bd33 : BD Try.f33 = true := by kernel_rfl
theorem ze5 : ZeroT Try.prog 5 [v8 0] := by unfold ZeroT; kernel_rfl
theorem un23 : (Try.prog.underlying 23).isSome = true := by kernel_rfl
theorem sz5 : sizeT Try.prog 5 1 = true := by kernel_rfl
theorem bd34 : BD Try.f34 = true := by kernel_rfl
theorem fl33_0 : FieldT Try.prog 33 0 0 22 1 := ⟨by kernel_rfl, by kernel_rfl⟩
theorem sc22 : isScalar Try.prog 22 = true := by kernel_rfl
theorem sz22 : sizeT Try.prog 22 1 = true := by kernel_rfl
theorem bd20 : BD Try.f20 = true := by kernel_rfl
theorem bd17 : BD Try.f17 = true := by kernel_rfl
theorem sc5 : isScalar Try.prog 5 = true := by kernel_rfl
theorem un5 : (Try.prog.underlying 5).isSome = true := by kernel_rfl
theorem bd32 : BD Try.f32 = true := by kernel_rfl
theorem bd10 : BD Try.f10 = true := by kernel_rfl
theorem bd35 : BD Try.f35 = true := by kernel_rfl
theorem bd22 : BD Try.f22 = true := by kernel_rfl
theorem bd23 : BD Try.f23 = true := by kernel_rfl
theorem bd9 : BD Try.f9 = true := by kernel_rfl
theorem bd11 : BD Try.f11 = true := by kernel_rfl
theorem bd30 : BD Try.f30 = true := by kernel_rfl
theorem bd15 : BD Try.f15 = true := by kernel_rfl
theorem bd13 : BD Try.f13 = true := by kernel_rfl
theorem sl30 : SliceT Try.prog 30 35 5 56 := ⟨Try.underlying30, by kernel_rfl⟩
theorem fl35_4 : FieldT Try.prog 35 4 4 22 1 := ⟨by kernel_rfl, by kernel_rfl⟩
theorem bd14 : BD Try.f14 = true := by kernel_rfl
theorem ag35 : isAggT Try.prog 35 5 = true := by kernel_rfl
theorem ze35 : ZeroT Try.prog 35 [vI 0, vI 0, v64 0, vI 0, .slice none 0 0] := by unfold ZeroT; kernel_rfl
theorem fl35_2 : FieldT Try.prog 35 2 2 23 1 := ⟨by kernel_rfl, by kernel_rfl⟩
theorem sc23 : isScalar Try.prog 23 = true := by kernel_rfl
theorem fl35_3 : FieldT Try.prog 35 3 3 3 1 := ⟨by kernel_rfl, by kernel_rfl⟩
theorem sc3 : isScalar Try.prog 3 = true := by kernel_rfl
theorem fl35_0 : FieldT Try.prog 35 0 0 3 1 := ⟨by kernel_rfl, by kernel_rfl⟩
theorem bd16 : BD Try.f16 = true := by kernel_rfl
theorem bd19 : BD Try.f19 = true := by kernel_rfl
theorem bd18 : BD Try.f18 = true := by kernel_rfl
theorem fl35_1 : FieldT Try.prog 35 1 1 3 1 := ⟨by kernel_rfl, by kernel_rfl⟩
theorem moP : Try.prog.follows .mixedOrders = true := by kernel_rfl
theorem bd21 : BD Try.f21 = true := by kernel_rfl
theorem bd24 : BD Try.f24 = true := by kernel_rfl
theorem sz35 : sizeT Try.prog 35 5 = true := by kernel_rfl
theorem sl47 : SliceT Try.prog 47 23 1 8 := ⟨Try.underlying47, by kernel_rfl⟩
theorem sl48 : SliceT Try.prog 48 3 1 8 := ⟨Try.underlying48, by kernel_rfl⟩
theorem bt64 : BuildT Try.prog 64 [(0, 1), (1, 1)] [.slice none 0 0, vI 0] := ⟨by kernel_rfl, by unfold ZeroT; kernel_rfl⟩
theorem bd25 : BD Try.f25 = true := by kernel_rfl
theorem fl64_0 : FieldT Try.prog 64 0 0 22 1 := ⟨by kernel_rfl, by kernel_rfl⟩
theorem fl64_1 : FieldT Try.prog 64 1 1 3 1 := ⟨by kernel_rfl, by kernel_rfl⟩
theorem sz3 : sizeT Try.prog 3 1 = true := by kernel_rfl
theorem bd26 : BD Try.f26 = true := by kernel_rfl
theorem bd27 : BD Try.f27 = true := by kernel_rfl
theorem bd28 : BD Try.f28 = true := by kernel_rfl
theorem bd29 : BD Try.f29 = true := by kernel_rfl
theorem un3 : (Try.prog.underlying 3).isSome = true := by kernel_rfl
theorem ze23 : ZeroT Try.prog 23 [v64 0] := by unfold ZeroT; kernel_rfl
theorem ze3 : ZeroT Try.prog 3 [vI 0] := by unfold ZeroT; kernel_rfl
theorem bt35 : BuildT Try.prog 35 [(0, 1), (1, 1), (2, 1), (3, 1), (4, 1)] [vI 0, vI 0, v64 0, vI 0, .slice none 0 0] := ⟨by kernel_rfl, by unfold ZeroT; kernel_rfl⟩

def R_law01_Act (S : List (Option Nat)) (w : World) (x : T_law01_Act) (cs : List Value) : Prop := ∃ (A0 : Option Addr) (c0 : Nat), cs = [vI x.f_Do, vI x.f_At, v64 x.f_V, vI x.f_Size, .slice A0 (x.f_B).length c0] ∧ Rd w A0 c0 1 x.f_B.length (x.f_B.flatMap (eI .u8)) ∧ Off S x.f_B.length A0
theorem len_law01_Act {S : List (Option Nat)} {w : World} : ∀ x cs, R_law01_Act S w x cs → cs.length = 5 := fun x cs h => by
 obtain ⟨A0, c0, rfl, _⟩ := h
 rfl
theorem un_law01_Act {S : List (Option Nat)} {w : World} {x : T_law01_Act} {A0 : Option Addr} {c0 : Nat} (h : R_law01_Act S w x [vI x.f_Do, vI x.f_At, v64 x.f_V, vI x.f_Size, .slice A0 (x.f_B).length c0]) : Rd w A0 c0 1 x.f_B.length (x.f_B.flatMap (eI .u8)) ∧ Off S x.f_B.length A0 := by
 obtain ⟨A0', c0', h, h0, o0⟩ := h
 cases h
 exact ⟨h0, o0⟩
def RO_law01_Act (x : T_law01_Act) (cs : List Value) (os : List Ob) : Prop := ∃ (A0 : Option Addr) (c0 : Nat), cs = [vI x.f_Do, vI x.f_At, v64 x.f_V, vI x.f_Size, .slice A0 (x.f_B).length c0] ∧ os = [.row A0 c0 5 1 x.f_B.length (x.f_B.flatMap (eI .u8))]
theorem uo_law01_Act : Un R_law01_Act RO_law01_Act := fun S w x cs os h hk => by
 obtain ⟨A0, c0, rfl, rfl⟩ := h
 exact ⟨A0, c0, rfl, Ob.rd (hk 0 _ rfl).1, Off.ofOb (hk 0 _ rfl)⟩
theorem io_law01_Act {x : T_law01_Act} {A0 : Option Addr} {c0 : Nat} {o : List Ob} (h : RO_law01_Act x [vI x.f_Do, vI x.f_At, v64 x.f_V, vI x.f_Size, .slice A0 (x.f_B).length c0] o) : o = [.row A0 c0 5 1 x.f_B.length (x.f_B.flatMap (eI .u8))] := by
 obtain ⟨A0', c0', h, h2⟩ := h
 cases h
 exact h2
theorem mv_law01_Act : Mv R_law01_Act := fun S S' w w' x cs h hf ho => by
 obtain ⟨A0, c0, rfl, h0, o0⟩ := h
 exact ⟨A0, c0, rfl, h0.chg hf o0, ho _ _ _ _ _ h0 o0⟩
set_option maxRecDepth 100000 in
set_option maxHeartbeats 40000000 in
theorem c_bits_right (w : World) (size1 : Int) (r : Bool) (hF : F_bits_right size1 = some r) :
  CallsR Try.prog 31 [vI size1] w (fun v w' => v = vB r ∧ Mem w [] w' []) := by
 refine calls_KC Try.func31 rfl Try.ntmps31 rfl ?_
 have hM := Mem.init w
 unfold F_bits_right at hF
 refine sr fun Q2 hQ2 => ?_
 refine va rfl rfl ?_
 refine nt hQ2 ?_
 clear hQ2 Q2
 refine KC.cut (fun a w4 => ∃ (t3 : Bool), Kn 9 [(2, vB t3)] a ∧ Mem w [] w4 [] ∧ F_bits_right_j1 t3 = some r) ?_ ?_
 ·refine KC.region ?_
  refine vm rfl rfl ?_
  refine RL.val (O.geq rfl rfl) rfl ?_
  refine vm rfl rfl ?_
  refine RL.bcase (t := 5) rfl (fun hc => ?_) (fun hc => ?_)
  ·rw [if_pos hc] at hF
   refine RL.gval rfl rfl (O.move rfl) rfl ?_
   refine RL.gval rfl rfl (O.leq rfl rfl) rfl ?_
   refine RL.val (O.pickt rfl rfl) rfl ?_
   refine va rfl rfl ?_
   refine RL.nil ?_
   refine KQ.then_k ?_
   exact fun a ha => ⟨(decide (size1 ≤ 8)), ha.less (less_cons rfl less_nil), hM, hF⟩
  rw [if_neg (ne_true hc)] at hF
  refine RL.gskip rfl rfl rfl rfl ?_
  refine RL.gskip rfl rfl rfl rfl ?_
  refine RL.val (O.pickf rfl rfl) rfl ?_
  refine va rfl rfl ?_
  refine RL.nil ?_
  refine KQ.then_k ?_
  exact fun a ha => ⟨false, ha.less (less_cons rfl less_nil), hM, hF⟩
 rintro a w4 ⟨t3, ha, hM, hF⟩
 refine KC.app ha ?_
 clear ha
 unfold F_bits_right_j1 at hF
 refine KC.ret ?_
 have hE := Option.some.inj hF
 clear hF
 subst hE
 refine KQ.rets Try.results31 (RVs.cons (RV.tm rfl) RVs.nil) ?_
 exact ⟨_, rfl, rfl, hM⟩
set_option maxRecDepth 100000 in
set_option maxHeartbeats 40000000 in
theorem c_bits_Least (w : World) (v1 : Int) (r : Int) (hF : F_bits_Least v1 = some r) :
  CallsR Try.prog 12 [v64 v1] w (fun v w' => v = vI r ∧ Mem w [] w' []) := by
 refine calls_KC Try.func12 rfl Try.ntmps12 rfl ?_
 have hM := Mem.init w
 unfold F_bits_Least at hF
 refine sr fun Q2 hQ2 => ?_
 refine va rfl rfl ?_
 refine nt hQ2 ?_
 clear hQ2 Q2
 refine sr fun Q3 hQ3 => ?_
 refine va rfl rfl ?_
 refine nt hQ3 ?_
 clear hQ3 Q3
 refine KC.seqH fun Q4 hQ4 => ?_
 refine sr fun Q5 hQ5 => ?_
 refine vm rfl rfl ?_
 refine RL.val (O.shr rfl rfl (by decide)) rfl ?_
 refine va rfl rfl ?_
 refine nt hQ5 ?_
 clear hQ5 Q5
 refine KC.block ?_
 refine KC.loop (fun k18 a w16 => ∃ (v14 : Int) (nv15 : Int), Kn 13 [(0, v64 v14), (3, vI nv15)] a ∧ Mem w [] w16 [] ∧ F_bits_Least_L1 k18 v14 nv15 = some r) ?_ ?_
 ·exact fun a ha => ⟨fuel0, (Ox.shr .u64 v1 8), 1, ha.less (less_cons rfl (less_cons rfl less_nil)), hM, hF⟩
 rintro k18 a w16 ⟨v14, nv15, ha, hM, hF⟩
 refine KC.app ha ?_
 clear ha
 cases k18 with
 | zero => exact (none_some hF).elim
 | succ k18 =>
 have hF : F_bits_Least_l1 (F_bits_Least_L1 k18) v14 nv15 = some r := hF
 unfold F_bits_Least_l1 at hF
 refine KC.seqH fun Q19 hQ19 => ?_
 refine sr fun Q20 hQ20 => ?_
 refine vm rfl rfl ?_
 refine RL.val (O.gtr rfl rfl) rfl ?_
 refine nt hQ20 ?_
 clear hQ20 Q20
 refine KC.cond rfl (fun hc => ?_) (fun hc => ?_)
 ·rw [if_pos hc] at hF
  refine KC.skip ?_
  refine KQ.thn hQ19 ?_
  clear hQ19 Q19
  refine KC.seqH fun Q21 hQ21 => ?_
  refine KC.block ?_
  refine KC.region ?_
  refine vm rfl rfl ?_
  refine RL.val (O.add rfl rfl) rfl ?_
  refine va rfl rfl ?_
  refine RL.nil ?_
  refine KQ.blk_n ?_
  refine KQ.thn hQ21 ?_
  clear hQ21 Q21
  refine KC.region ?_
  refine vm rfl rfl ?_
  refine RL.val (O.shr rfl rfl (by decide)) rfl ?_
  refine va rfl rfl ?_
  refine RL.nil ?_
  refine KQ.then_k ?_
  exact fun a ha => ⟨k18, Nat.lt_succ_self k18, (Ox.shr .u64 v14 8), (IntKind.i64.wrap (nv15 + 1)), ha.less (less_cons rfl (less_cons rfl less_nil)), hM, hF⟩
 rw [if_neg (ne_true hc)] at hF
 refine KC.exit ?_
 refine KQ.thx hQ19 ?_
 clear hQ19 Q19
 refine KQ.then_x ?_
 refine KQ.blk_x ?_
 refine KQ.thn hQ4 ?_
 clear hQ4 Q4
 refine sr fun Q22 hQ22 => ?_
 refine vm rfl rfl ?_
 refine va rfl rfl ?_
 refine nt hQ22 ?_
 clear hQ22 Q22
 refine KC.ret ?_
 have hE := Option.some.inj hF
 clear hF
 subst hE
 refine KQ.rets Try.results12 (RVs.cons (RV.tm rfl) RVs.nil) ?_
 exact ⟨_, rfl, rfl, hM⟩
set_option maxRecDepth 100000 in
set_option maxHeartbeats 40000000 in
theorem c_bits_fits (w : World) (v1 : Int) (size2 : Int) (r : Bool) (hF : F_bits_fits v1 size2 = some r) :
  CallsR Try.prog 33 [v64 v1, vI size2] w (fun v w' => v = vB r ∧ Mem w [] w' []) := by
 refine calls_KC Try.func33 rfl Try.ntmps33 rfl ?_
 have hM := Mem.init w
 unfold F_bits_fits at hF
 refine sr fun Q3 hQ3 => ?_
 refine va rfl rfl ?_
 refine nt hQ3 ?_
 clear hQ3 Q3
 refine KC.cut (fun a w13 => ∃ (t12 : Bool), Kn 13 [(4, vB t12)] a ∧ Mem w [] w13 [] ∧ F_bits_fits_j1 t12 = some r) ?_ ?_
 ·refine KC.region ?_
  refine vm rfl rfl ?_
  refine obindE hF fun y4 hx5 hF => ?_
  refine RL.call Try.func31 bd31 rfl rfl (c_bits_right _ size2 _ hx5) fun v w6 hv => ?_
  obtain ⟨rfl, hN7⟩ := hv
  replace hM := hM.call0 hN7
  refine vm rfl rfl ?_
  refine RL.bcase (t := 7) rfl (fun hc => ?_) (fun hc => ?_)
  ·rw [if_pos hc] at hF
   refine RL.gval rfl rfl (O.move rfl) rfl ?_
   refine obindE hF fun y8 hx9 hF => ?_
   refine RL.gcall rfl rfl Try.func12 bd12 rfl rfl (c_bits_Least _ v1 _ hx9) fun v w10 hv => ?_
   obtain ⟨rfl, hN11⟩ := hv
   replace hM := hM.call0 hN11
   refine RL.gval rfl rfl (O.move rfl) rfl ?_
   refine RL.gval rfl rfl (O.leq rfl rfl) rfl ?_
   refine RL.val (O.pickt rfl rfl) rfl ?_
   refine va rfl rfl ?_
   refine RL.nil ?_
   refine KQ.then_k ?_
   exact fun a ha => ⟨(decide (y8 ≤ size2)), ha.less (less_cons rfl less_nil), hM, hF⟩
  rw [if_neg (ne_true hc)] at hF
  refine RL.brun1 5 12 false (by kernel_rfl) ?_
  refine va rfl rfl ?_
  refine RL.nil ?_
  refine KQ.then_k ?_
  exact fun a ha => ⟨false, ha.less (less_cons rfl less_nil), hM, hF⟩
 rintro a w13 ⟨t12, ha, hM, hF⟩
 refine KC.app ha ?_
 clear ha
 unfold F_bits_fits_j1 at hF
 refine KC.ret ?_
 have hE := Option.some.inj hF
 clear hF
 subst hE
 refine KQ.rets Try.results33 (RVs.cons (RV.tm rfl) RVs.nil) ?_
 exact ⟨_, rfl, rfl, hM⟩
set_option maxRecDepth 100000 in
set_option maxHeartbeats 40000000 in
theorem c_bits_of (w : World) (v1 : Int) (size2 : Int) (r : (List Int)) (hF : F_bits_of v1 size2 = some r) :
  CallsR Try.prog 34 [v64 v1, vI size2] w (fun v w' => ∃ (A0 : Option Addr) (c0 : Nat), v = .slice A0 (r).length c0 ∧ Mem w [] w' [.row A0 c0 5 1 r.length (r.flatMap (eI .u8))]) := by
 refine calls_KC Try.func34 rfl Try.ntmps34 rfl ?_
 have hM := Mem.init w
 unfold F_bits_of at hF
 refine sr fun Q3 hQ3 => ?_
 refine va rfl rfl ?_
 refine nt hQ3 ?_
 clear hQ3 Q3
 refine sr fun Q4 hQ4 => ?_
 refine vm rfl rfl ?_
 refine cut_someE hF fun hq7 hF => ?_
 refine RL.eff (E.mks (enc := (eI .u8)) (zr := 0) hM sl22 ze5 rfl rfl (fun _ => rfl) rfl rfl rfl (of_decide_eq_true hq7)) rfl fun v w6 hv => ?_
 clear hM
 obtain ⟨A5, rfl, hM, hf⟩ := hv
 refine va rfl rfl ?_
 refine nt hQ4 ?_
 clear hQ4 Q4
 refine KC.seqH fun Q9 hQ9 => ?_
 refine sr fun Q10 hQ10 => ?_
 refine vm rfl rfl ?_
 refine vm rfl rfl ?_
 refine nt hQ10 ?_
 clear hQ10 Q10
 refine KC.block ?_
 refine KC.loop (fun k43 a w41 => ∃ (A37 : Option Addr) (c38 : Nat) (b39 : List Int) (t40 : Int), Kn 26 [(0, v64 v1), (1, vI size2), (5, .slice A37 (b39).length c38), (9, vI size2), (10, vI t40)] a ∧ Mem w [] w41 [.row A37 c38 5 1 (b39).length ((b39).flatMap (eI .u8))] ∧ F_bits_of_L1 v1 size2 k43 b39 t40 = some r) ?_ ?_
 ·exact fun a ha => ⟨fuel0, A5, (Int.toNat size2), (List.replicate (Int.toNat size2) (0 : Int)), 0, ha.less (less_cons rfl (less_cons rfl (less_cons rfl (less_cons rfl (less_cons rfl less_nil))))), hM, hF⟩
 rintro k43 a w41 ⟨A37, c38, b39, t40, ha, hM, hF⟩
 refine KC.app ha ?_
 clear ha
 cases k43 with
 | zero => exact (none_some hF).elim
 | succ k43 =>
 have hF : F_bits_of_l1 (F_bits_of_L1 v1 size2 k43) v1 size2 b39 t40 = some r := hF
 unfold F_bits_of_l1 at hF
 refine sr fun Q44 hQ44 => ?_
 refine RL.val (O.lss rfl rfl) rfl ?_
 refine nt hQ44 ?_
 clear hQ44 Q44
 refine KC.seqH fun Q45 hQ45 => ?_
 refine KC.cond rfl (fun hc => ?_) (fun hc => ?_)
 ·rw [if_pos hc] at hF
  refine KC.skip ?_
  refine KQ.thn hQ45 ?_
  clear hQ45 Q45
  refine KC.seqH fun Q46 hQ46 => ?_
  refine KC.block ?_
  refine sr fun Q47 hQ47 => ?_
  refine vm rfl rfl ?_
  refine va rfl rfl ?_
  refine nt hQ47 ?_
  clear hQ47 Q47
  refine KC.region ?_
  refine vm rfl rfl ?_
  refine vm rfl rfl ?_
  refine RL.val (O.sub rfl rfl) rfl ?_
  refine vm rfl rfl ?_
  refine RL.val (O.sub rfl rfl) rfl ?_
  refine vm rfl rfl ?_
  refine vm rfl rfl ?_
  refine RL.val (O.mul rfl rfl) rfl ?_
  refine cut_someE hF fun hq48 hF => ?_
  refine RL.val (O.shr rfl rfl (of_decide_eq_true hq48)) rfl ?_
  refine RL.val (O.conv un23 Try.underlying5 rfl) rfl ?_
  refine obindE hF fun xv51 hx50 hF => ?_
  have hA49 := Rd.atN (f := (eI .u8)) (s := 1) (fun _ => rfl) (by decide) (hM.rd (i := 0) rfl) hx50
  refine RL.val (O.idxA sl22 (hA49) rfl rfl) rfl ?_
  refine RL.effs (E.stR (enc := (eI .u8)) (j := 0) (off := 0) (vs := [v8 (IntKind.u8.wrap (Ox.shr .u64 v1 (IntKind.i64.wrap (8 * t40))))]) (x' := (IntKind.u8.wrap (Ox.shr .u64 v1 (IntKind.i64.wrap (8 * t40))))) hM rfl (fun _ => rfl) hx50 sz5 rfl (addsR_eq [] rfl) rfl rfl (One.all rfl) rfl rfl) fun w52 hM1 => ?_
  clear hM
  obtain ⟨hM, hn53⟩ := hM1
  refine RL.reslot (t := 5) rfl hn53 ?_
  refine RL.reslot (t := 13) rfl hn53 ?_
  refine RL.nil ?_
  refine KQ.blk_n ?_
  refine KQ.thn hQ46 ?_
  clear hQ46 Q46
  refine KC.region ?_
  refine RL.val (O.add rfl rfl) rfl ?_
  refine vm rfl rfl ?_
  refine RL.nil ?_
  refine KQ.then_k ?_
  exact fun a ha => ⟨k43, Nat.lt_succ_self k43, A37, c38, (b39.set ((IntKind.i64.wrap ((IntKind.i64.wrap (size2 - 1)) - t40)) : Int).toNat (IntKind.u8.wrap (Ox.shr .u64 v1 (IntKind.i64.wrap (8 * t40))))), (IntKind.i64.wrap (t40 + 1)), ha.less (less_cons rfl (less_cons rfl (less_cons rfl (less_cons rfl (less_cons rfl less_nil))))), hM, hF⟩
 rw [if_neg (ne_true hc)] at hF
 refine KC.exit ?_
 refine KQ.thx hQ45 ?_
 clear hQ45 Q45
 refine KQ.then_x ?_
 refine KQ.blk_x ?_
 refine KQ.thn hQ9 ?_
 clear hQ9 Q9
 refine sr fun Q54 hQ54 => ?_
 refine vm rfl rfl ?_
 refine va rfl rfl ?_
 refine nt hQ54 ?_
 clear hQ54 Q54
 refine KC.ret ?_
 have hE := Option.some.inj hF
 clear hF
 subst hE
 refine KQ.rets Try.results34 (RVs.cons (RV.tm rfl) RVs.nil) ?_
 exact ⟨_, rfl, A37, c38, rfl, hM⟩
set_option maxRecDepth 100000 in
set_option maxHeartbeats 40000000 in
theorem c_bits_Writer_Raw (w : World) (g2 : Nat) (tg7 : TypeId) (wv1 : T_bits_Writer) (A4 : Option Addr) (c5 : Nat) (hL13 : Lent w [.box g2 tg7 [.slice A4 (wv1.f_b).length c5], .row A4 c5 5 1 (wv1.f_b).length ((wv1.f_b).flatMap (eI .u8))]) (A9 : Option Addr) (c10 : Nat) (b8 : List Int) (hr11 : Rd w A9 c10 1 b8.length (b8.flatMap (eI .u8))) (ho12 : Off [some g2, rblk A4 c5] b8.length A9) (r : Int × T_bits_Writer) (hF : F_bits_Writer_Raw wv1 b8 = some r) :
  CallsR Try.prog 20 [.pointer (some ⟨g2, 0, none⟩), .slice A9 (b8).length c10] w (fun v w' => ∃ (A0 : Option Addr) (c0 : Nat), v = vI r.1 ∧ Mem w [some g2, rblk A4 c5] w' [.box g2 tg7 [.slice A0 (r.2.f_b).length c0], .row A0 c0 5 1 r.2.f_b.length (r.2.f_b.flatMap (eI .u8))]) := by
 refine calls_KC Try.func20 rfl Try.ntmps20 rfl ?_
 have hM : Mem w [some g2, rblk A4 c5] w [.box g2 tg7 [.slice A4 (wv1.f_b).length c5], .row A4 c5 5 1 (wv1.f_b).length ((wv1.f_b).flatMap (eI .u8))] := Mem.lendN hL13
 unfold F_bits_Writer_Raw at hF
 refine sr fun Q14 hQ14 => ?_
 refine va rfl rfl ?_
 refine nt hQ14 ?_
 clear hQ14 Q14
 refine KC.seqH fun Q15 hQ15 => ?_
 refine sr fun Q16 hQ16 => ?_
 refine vm rfl rfl ?_
 refine RL.val (O.peqn Try.underlying56 rfl rfl) rfl ?_
 refine nt hQ16 ?_
 clear hQ16 Q16
 refine KC.condF rfl ?_
 refine KC.skip ?_
 refine KQ.thn hQ15 ?_
 clear hQ15 Q15
 refine sr fun Q17 hQ17 => ?_
 refine vm rfl rfl ?_
 refine vm rfl rfl ?_
 refine RL.val (O.nilp rfl) rfl ?_
 refine RL.val (O.fldA fl33_0 (by decide) rfl) rfl ?_
 refine RL.val (O.load sc22 rfl (Cs.adds [0] ((hM.bx (i := 0) rfl)) rfl)) rfl ?_
 refine vm rfl rfl ?_
 refine cut_someE hF fun hq21 hF => ?_
 refine RL.eff (E.app (enc := (eI .u8)) (xs := wv1.f_b) (ys := b8) (j := 1) hM rfl sl22 ze5 rfl rfl rfl rfl rfl (hM.inp hr11 ho12) (fun _ => One.all rfl) (of_decide_eq_true hq21)) rfl fun v w20 hv => ?_
 clear hM
 obtain ⟨A18, c19, rfl, hM, hf⟩ := hv
 refine RL.val (O.nilp rfl) rfl ?_
 refine RL.val (O.fldA fl33_0 (by decide) rfl) rfl ?_
 refine RL.effs (E.stB (j := 0) (off := 0) (vs := [.slice A18 ((wv1.f_b ++ b8)).length c19]) (cs' := [.slice A18 ((wv1.f_b ++ b8)).length c19]) hM rfl sz22 rfl (adds_eq [0] rfl) rfl rfl (One.all rfl) rfl rfl) fun w23 hM1 => ?_
 clear hM
 have hM := hM1
 clear hM1
 refine nt hQ17 ?_
 clear hQ17 Q17
 refine sr fun Q24 hQ24 => ?_
 refine va rfl rfl ?_
 refine nt hQ24 ?_
 clear hQ24 Q24
 refine KC.ret ?_
 have hE := Option.some.inj hF
 clear hF
 subst hE
 refine KQ.rets Try.results20 (RVs.cons (RV.tm rfl) RVs.nil) ?_
 exact ⟨_, rfl, A18, c19, rfl, hM⟩
set_option maxRecDepth 100000 in
set_option maxHeartbeats 40000000 in
theorem c_bits_Writer_Put (w : World) (g2 : Nat) (tg7 : TypeId) (wv1 : T_bits_Writer) (A4 : Option Addr) (c5 : Nat) (hL10 : Lent w [.box g2 tg7 [.slice A4 (wv1.f_b).length c5], .row A4 c5 5 1 (wv1.f_b).length ((wv1.f_b).flatMap (eI .u8))]) (v8 : Int) (size9 : Int) (r : Int × T_bits_Writer) (hF : F_bits_Writer_Put wv1 v8 size9 = some r) :
  CallsR Try.prog 17 [.pointer (some ⟨g2, 0, none⟩), v64 v8, vI size9] w (fun v w' => ∃ (A0 : Option Addr) (c0 : Nat), v = vI r.1 ∧ Mem w [some g2, rblk A4 c5] w' [.box g2 tg7 [.slice A0 (r.2.f_b).length c0], .row A0 c0 5 1 r.2.f_b.length (r.2.f_b.flatMap (eI .u8))]) := by
 refine calls_KC Try.func17 rfl Try.ntmps17 rfl ?_
 have hM : Mem w [some g2, rblk A4 c5] w [.box g2 tg7 [.slice A4 (wv1.f_b).length c5], .row A4 c5 5 1 (wv1.f_b).length ((wv1.f_b).flatMap (eI .u8))] := Mem.lendN hL10
 unfold F_bits_Writer_Put at hF
 refine sr fun Q11 hQ11 => ?_
 refine va rfl rfl ?_
 refine nt hQ11 ?_
 clear hQ11 Q11
 refine KC.seqH fun Q12 hQ12 => ?_
 refine sr fun Q13 hQ13 => ?_
 refine vm rfl rfl ?_
 refine RL.val (O.peqn Try.underlying56 rfl rfl) rfl ?_
 refine nt hQ13 ?_
 clear hQ13 Q13
 refine KC.condF rfl ?_
 refine KC.skip ?_
 refine KQ.thn hQ12 ?_
 clear hQ12 Q12
 refine KC.seqH fun Q14 hQ14 => ?_
 refine sr fun Q15 hQ15 => ?_
 refine vm rfl rfl ?_
 refine vm rfl rfl ?_
 refine obindE hF fun y16 hx17 hF => ?_
 refine RL.call Try.func33 bd33 rfl rfl (c_bits_fits _ v8 size9 _ hx17) fun v w18 hv => ?_
 obtain ⟨rfl, hN19⟩ := hv
 replace hM := hM.call0 hN19
 refine RL.val (O.not rfl) rfl ?_
 refine nt hQ15 ?_
 clear hQ15 Q15
 refine KC.cond rfl (fun hc => ?_) (fun hc => ?_)
 ·rw [if_pos hc] at hF
  refine sr fun Q20 hQ20 => ?_
  refine va rfl rfl ?_
  refine nt hQ20 ?_
  clear hQ20 Q20
  refine KC.ret ?_
  refine KQ.thr hQ14 ?_
  clear hQ14 Q14
  have hE := Option.some.inj hF
  clear hF
  subst hE
  refine KQ.rets Try.results17 (RVs.cons (RV.tm rfl) RVs.nil) ?_
  exact ⟨_, rfl, A4, c5, rfl, hM⟩
 rw [if_neg (ne_true hc)] at hF
 refine KC.skip ?_
 refine KQ.thn hQ14 ?_
 clear hQ14 Q14
 refine sr fun Q21 hQ21 => ?_
 refine vm rfl rfl ?_
 refine vm rfl rfl ?_
 refine vm rfl rfl ?_
 refine obindE hF fun y22 hx23 hF => ?_
 refine RL.call Try.func34 bd34 rfl rfl (c_bits_of _ v8 size9 _ hx23) fun v w24 hv => ?_
 obtain ⟨A26, c27, rfl, hN25⟩ := hv
 replace hM := hM.call hN25
 refine obindE hF fun y29 hx30 hF => ?_
 refine RL.call Try.func20 bd20 rfl rfl (c_bits_Writer_Raw _ _ _ wv1 _ _ (hM.lent [0, 1] rfl (by decide)) _ _ y22 (hM.rd (i := 2) rfl) (hM.offR [0, 1] rfl (i := 2) rfl rfl) _ hx30) fun v w31 hv => ?_
 obtain ⟨A33, c34, rfl, hN32⟩ := hv
 replace hM := hM.callL [0, 1] [2] rfl rfl (by decide) rfl hN32
 refine va rfl rfl ?_
 refine nt hQ21 ?_
 clear hQ21 Q21
 refine KC.ret ?_
 have hE := Option.some.inj hF
 clear hF
 subst hE
 replace hM := hM.pick [1, 2] rfl (by decide)
 refine KQ.rets Try.results17 (RVs.cons (RV.tm rfl) RVs.nil) ?_
 exact ⟨_, rfl, A33, c34, rfl, hM⟩
set_option maxRecDepth 100000 in
set_option maxHeartbeats 40000000 in
theorem c_bits_value (w : World) (A2 : Option Addr) (c3 : Nat) (b1 : List Int) (hr4 : Rd w A2 c3 1 b1.length (b1.flatMap (eI .u8))) (r : Int) (hF : F_bits_value b1 = some r) :
  CallsR Try.prog 32 [.slice A2 (b1).length c3] w (fun v w' => v = v64 r ∧ Mem w [] w' []) := by
 refine calls_KC Try.func32 rfl Try.ntmps32 rfl ?_
 have hM := Mem.init w
 unfold F_bits_value at hF
 refine sr fun Q5 hQ5 => ?_
 refine va rfl rfl ?_
 refine nt hQ5 ?_
 clear hQ5 Q5
 refine KC.seqH fun Q6 hQ6 => ?_
 refine sr fun Q7 hQ7 => ?_
 refine vm rfl rfl ?_
 refine RL.val (O.len sl22 rfl) rfl ?_
 refine vm rfl rfl ?_
 refine nt hQ7 ?_
 clear hQ7 Q7
 refine KC.block ?_
 refine KC.loop (fun k28 a w26 => ∃ (v24 : Int) (t25 : Int), Kn 18 [(2, v64 v24), (5, .slice A2 (b1).length c3), (6, vI (b1.length : Int)), (7, vI t25)] a ∧ Mem w [] w26 [] ∧ F_bits_value_L1 b1 k28 v24 t25 = some r) ?_ ?_
 ·exact fun a ha => ⟨fuel0, 0, 0, ha.less (less_cons rfl (less_cons rfl (less_cons rfl (less_cons rfl less_nil)))), hM, hF⟩
 rintro k28 a w26 ⟨v24, t25, ha, hM, hF⟩
 refine KC.app ha ?_
 clear ha
 cases k28 with
 | zero => exact (none_some hF).elim
 | succ k28 =>
 have hF : F_bits_value_l1 (F_bits_value_L1 b1 k28) b1 v24 t25 = some r := hF
 unfold F_bits_value_l1 at hF
 refine sr fun Q29 hQ29 => ?_
 refine RL.val (O.lss rfl rfl) rfl ?_
 refine nt hQ29 ?_
 clear hQ29 Q29
 refine KC.seqH fun Q30 hQ30 => ?_
 refine KC.cond rfl (fun hc => ?_) (fun hc => ?_)
 ·rw [if_pos hc] at hF
  refine KC.skip ?_
  refine KQ.thn hQ30 ?_
  clear hQ30 Q30
  refine KC.seqH fun Q31 hQ31 => ?_
  refine KC.block ?_
  refine sr fun Q32 hQ32 => ?_
  refine obindE hF fun xv35 hx34 hF => ?_
  have hA33 := Rd.atN (f := (eI .u8)) (s := 1) (fun _ => rfl) (by decide) (hM.inp hr4 Off.nil) hx34
  refine RL.val (O.idxA sl22 (hA33) rfl rfl) rfl ?_
  refine RL.val (O.load sc5 rfl (hA33).cells.at0) rfl ?_
  refine va rfl rfl ?_
  refine nt hQ32 ?_
  clear hQ32 Q32
  refine KC.region ?_
  refine vm rfl rfl ?_
  refine RL.val (O.shl rfl rfl (by decide)) rfl ?_
  refine vm rfl rfl ?_
  refine RL.val (O.conv un5 Try.underlying23 rfl) rfl ?_
  refine RL.val (O.or rfl rfl) rfl ?_
  refine va rfl rfl ?_
  refine RL.nil ?_
  refine KQ.blk_n ?_
  refine KQ.thn hQ31 ?_
  clear hQ31 Q31
  refine KC.region ?_
  refine RL.val (O.add rfl rfl) rfl ?_
  refine vm rfl rfl ?_
  refine RL.nil ?_
  refine KQ.then_k ?_
  exact fun a ha => ⟨k28, Nat.lt_succ_self k28, (bits .or .u64 (Ox.shl .u64 v24 8) (IntKind.u64.wrap xv35)), (IntKind.i64.wrap (t25 + 1)), ha.less (less_cons rfl (less_cons rfl (less_cons rfl (less_cons rfl less_nil)))), hM, hF⟩
 rw [if_neg (ne_true hc)] at hF
 refine KC.exit ?_
 refine KQ.thx hQ30 ?_
 clear hQ30 Q30
 refine KQ.then_x ?_
 refine KQ.blk_x ?_
 refine KQ.thn hQ6 ?_
 clear hQ6 Q6
 refine sr fun Q36 hQ36 => ?_
 refine vm rfl rfl ?_
 refine va rfl rfl ?_
 refine nt hQ36 ?_
 clear hQ36 Q36
 refine KC.ret ?_
 have hE := Option.some.inj hF
 clear hF
 subst hE
 refine KQ.rets Try.results32 (RVs.cons (RV.tm rfl) RVs.nil) ?_
 exact ⟨_, rfl, rfl, hM⟩
set_option maxRecDepth 100000 in
set_option maxHeartbeats 40000000 in
theorem c_bits_Get (w : World) (A2 : Option Addr) (c3 : Nat) (b1 : List Int) (hr4 : Rd w A2 c3 1 b1.length (b1.flatMap (eI .u8))) (atv5 : Int) (size6 : Int) (r : Int × Int) (hF : F_bits_Get b1 atv5 size6 = some r) :
  CallsR Try.prog 10 [.slice A2 (b1).length c3, vI atv5, vI size6] w (fun v w' => v = .tuple #[v64 r.1, vI r.2] ∧ Mem w [] w' []) := by
 refine calls_KC Try.func10 rfl Try.ntmps10 rfl ?_
 have hM := Mem.init w
 unfold F_bits_Get at hF
 refine sr fun Q7 hQ7 => ?_
 refine va rfl rfl ?_
 refine va rfl rfl ?_
 refine nt hQ7 ?_
 clear hQ7 Q7
 refine KC.seqH fun Q8 hQ8 => ?_
 refine KC.block ?_
 refine KC.cut (fun a w14 => ∃ (t13 : Bool), Kn 36 [(0, .slice A2 (b1).length c3), (1, vI atv5), (2, vI size6), (8, vB t13)] a ∧ Mem w [] w14 [] ∧ F_bits_Get_j1 b1 atv5 size6 t13 = some r) ?_ ?_
 ·refine KC.region ?_
  refine vm rfl rfl ?_
  refine obindE hF fun y9 hx10 hF => ?_
  refine RL.call Try.func31 bd31 rfl rfl (c_bits_right _ size6 _ hx10) fun v w11 hv => ?_
  obtain ⟨rfl, hN12⟩ := hv
  replace hM := hM.call0 hN12
  refine RL.val (O.not rfl) rfl ?_
  refine vm rfl rfl ?_
  refine RL.bcase (t := 12) rfl (fun hc => ?_) (fun hc => ?_)
  ·rw [if_pos hc] at hF
   refine RL.gskip rfl rfl rfl rfl ?_
   refine RL.gskip rfl rfl rfl rfl ?_
   refine RL.val (O.pickt rfl rfl) rfl ?_
   refine va rfl rfl ?_
   refine RL.nil ?_
   refine KQ.then_k ?_
   exact fun a ha => ⟨true, ha.less (less_cons rfl (less_cons rfl (less_cons rfl (less_cons rfl less_nil)))), hM, hF⟩
  rw [if_neg (ne_true hc)] at hF
  refine RL.gval rfl rfl (O.move rfl) rfl ?_
  refine RL.gval rfl rfl (O.lss rfl rfl) rfl ?_
  refine RL.val (O.pickf rfl rfl) rfl ?_
  refine va rfl rfl ?_
  refine RL.nil ?_
  refine KQ.then_k ?_
  exact fun a ha => ⟨(decide (atv5 < 0)), ha.less (less_cons rfl (less_cons rfl (less_cons rfl (less_cons rfl less_nil)))), hM, hF⟩
 rintro a w14 ⟨t13, ha, hM, hF⟩
 refine KC.app ha ?_
 clear ha
 unfold F_bits_Get_j1 at hF
 refine KC.cond rfl (fun hc => ?_) (fun hc => ?_)
 ·rw [if_pos hc] at hF
  refine sr fun Q15 hQ15 => ?_
  refine va rfl rfl ?_
  refine va rfl rfl ?_
  refine nt hQ15 ?_
  clear hQ15 Q15
  refine KC.ret ?_
  refine KQ.blk_r ?_
  refine KQ.thr hQ8 ?_
  clear hQ8 Q8
  have hE := Option.some.inj hF
  clear hF
  subst hE
  refine KQ.rets Try.results10 (RVs.cons (RV.tm rfl) (RVs.cons (RV.tm rfl) RVs.nil)) ?_
  exact ⟨_, rfl, rfl, hM⟩
 rw [if_neg (ne_true hc)] at hF
 refine KC.cut (fun a w17 => ∃ (t16 : Bool), Kn 36 [(0, .slice A2 (b1).length c3), (1, vI atv5), (2, vI size6), (16, vB t16)] a ∧ Mem w [] w17 [] ∧ F_bits_Get_j2 b1 atv5 size6 t16 = some r) ?_ ?_
 ·refine KC.region ?_
  refine vm rfl rfl ?_
  refine vm rfl rfl ?_
  refine RL.val (O.len sl22 rfl) rfl ?_
  refine RL.val (O.gtr rfl rfl) rfl ?_
  refine vm rfl rfl ?_
  refine RL.bcase (t := 21) rfl (fun hc => ?_) (fun hc => ?_)
  ·rw [if_pos hc] at hF
   refine RL.brun1 7 28 true (by kernel_rfl) ?_
   refine va rfl rfl ?_
   refine RL.nil ?_
   refine KQ.then_k ?_
   exact fun a ha => ⟨true, ha.less (less_cons rfl (less_cons rfl (less_cons rfl (less_cons rfl less_nil)))), hM, hF⟩
  rw [if_neg (ne_true hc)] at hF
  refine RL.gval rfl rfl (O.move rfl) rfl ?_
  refine RL.gval rfl rfl (O.len sl22 rfl) rfl ?_
  refine RL.gval rfl rfl (O.move rfl) rfl ?_
  refine RL.gval rfl rfl (O.sub rfl rfl) rfl ?_
  refine RL.gval rfl rfl (O.move rfl) rfl ?_
  refine RL.gval rfl rfl (O.lss rfl rfl) rfl ?_
  refine RL.val (O.pickf rfl rfl) rfl ?_
  refine va rfl rfl ?_
  refine RL.nil ?_
  refine KQ.then_k ?_
  exact fun a ha => ⟨(decide ((IntKind.i64.wrap ((b1.length : Int) - atv5)) < size6)), ha.less (less_cons rfl (less_cons rfl (less_cons rfl (less_cons rfl less_nil)))), hM, hF⟩
 rintro a w17 ⟨t16, ha, hM, hF⟩
 refine KC.app ha ?_
 clear ha
 unfold F_bits_Get_j2 at hF
 refine KC.cond rfl (fun hc => ?_) (fun hc => ?_)
 ·rw [if_pos hc] at hF
  refine sr fun Q18 hQ18 => ?_
  refine va rfl rfl ?_
  refine va rfl rfl ?_
  refine nt hQ18 ?_
  clear hQ18 Q18
  refine KC.ret ?_
  refine KQ.blk_r ?_
  refine KQ.thr hQ8 ?_
  clear hQ8 Q8
  have hE := Option.some.inj hF
  clear hF
  subst hE
  refine KQ.rets Try.results10 (RVs.cons (RV.tm rfl) (RVs.cons (RV.tm rfl) RVs.nil)) ?_
  exact ⟨_, rfl, rfl, hM⟩
 rw [if_neg (ne_true hc)] at hF
 refine KC.skip ?_
 refine KQ.blk_n ?_
 refine KQ.thn hQ8 ?_
 clear hQ8 Q8
 refine sr fun Q19 hQ19 => ?_
 refine vm rfl rfl ?_
 refine vm rfl rfl ?_
 refine vm rfl rfl ?_
 refine vm rfl rfl ?_
 refine RL.val (O.add rfl rfl) rfl ?_
 refine obindE hF fun cut20 hy21 hF => ?_
 refine cutNE A2 c3 (Int.toNat atv5) 1 fun A22 c23 eA25 ec26 => ?_
 have hr24 := Rd.cutT (enc := (eI .u8)) (s := 1) (fun _ => rfl) hr4 hy21 (m := c3) (by have := hr4.cap; have := (gcut_some hy21).2.2.1; omega) (Nat.le_refl _)
 rw [← eA25, ← ec26] at hr24
 refine RL.val (v := .slice A22 (cut20).length c23) (by rw [eA25, ec26]; exact O.cutT sl22 (hM.inp hr4 Off.nil) hy21 rfl rfl rfl) rfl ?_
 refine obindE hF fun y27 hx28 hF => ?_
 refine RL.call Try.func32 bd32 rfl rfl (c_bits_value _ _ _ cut20 (hM.inp hr24 Off.nil) _ hx28) fun v w29 hv => ?_
 obtain ⟨rfl, hN30⟩ := hv
 replace hM := hM.call0 hN30
 refine va rfl rfl ?_
 refine va rfl rfl ?_
 refine nt hQ19 ?_
 clear hQ19 Q19
 refine KC.ret ?_
 have hE := Option.some.inj hF
 clear hF
 subst hE
 refine KQ.rets Try.results10 (RVs.cons (RV.tm rfl) (RVs.cons (RV.tm rfl) RVs.nil)) ?_
 exact ⟨_, rfl, rfl, hM⟩
set_option maxRecDepth 100000 in
set_option maxHeartbeats 40000000 in
theorem c_slices_Clone_byte_byte (w : World) (A2 : Option Addr) (c3 : Nat) (s1 : List Int) (hr4 : Rd w A2 c3 1 s1.length (s1.flatMap (eI .u8))) (r : (List Int)) (hF : F_slices_Clone_byte_byte s1 = some r) :
  CallsR Try.prog 35 [.slice A2 (s1).length c3] w (fun v w' => ∃ (A0 : Option Addr) (c0 : Nat), v = .slice A0 (r).length c0 ∧ Mem w [] w' [.row A0 c0 5 1 r.length (r.flatMap (eI .u8))]) := by
 refine calls_KC Try.func35 rfl Try.ntmps35 rfl ?_
 have hM := Mem.init w
 unfold F_slices_Clone_byte_byte at hF
 refine sr fun Q5 hQ5 => ?_
 refine va rfl rfl ?_
 refine nt hQ5 ?_
 clear hQ5 Q5
 refine KC.seqH fun Q6 hQ6 => ?_
 refine sr fun Q7 hQ7 => ?_
 refine vm rfl rfl ?_
 refine RL.val (O.sleqn sl22 rfl rfl) rfl ?_
 refine nt hQ7 ?_
 clear hQ7 Q7
 refine KC.cond rfl (fun hc => ?_) (fun hc => ?_)
 ·have hz8 := Rd.none_nil (hM.inp hr4 Off.nil) (hc)
  have hF : (some ([])) = some r := by (rw [hz8] at hF; simpa [lim] using hF)
  refine sr fun Q9 hQ9 => ?_
  refine va rfl rfl ?_
  refine nt hQ9 ?_
  clear hQ9 Q9
  refine KC.ret ?_
  refine KQ.thr hQ6 ?_
  clear hQ6 Q6
  have hE := Option.some.inj hF
  clear hF
  subst hE
  replace hM := hM.nilrow 5 1
  refine KQ.rets Try.results35 (RVs.cons (RV.tm rfl) RVs.nil) ?_
  exact ⟨_, rfl, none, 0, rfl, hM⟩
 refine KC.skip ?_
 refine KQ.thn hQ6 ?_
 clear hQ6 Q6
 refine sr fun Q10 hQ10 => ?_
 refine RL.eff (E.bsl0 hM sl22) rfl fun v w11 hv => ?_
 clear hM
 obtain ⟨A12, rfl, hM, hf⟩ := hv
 refine vm rfl rfl ?_
 refine cut_someE hF fun hq17 hF => ?_
 refine RL.eff (E.app (enc := (eI .u8)) (xs := ([] : List Int)) (ys := s1) (j := 0) hM rfl sl22 ze5 rfl rfl rfl rfl rfl (hM.inp hr4 Off.nil) (fun _ => One.all rfl) (of_decide_eq_true hq17)) rfl fun v w16 hv => ?_
 clear hM
 obtain ⟨A14, c15, rfl, hM, hf⟩ := hv
 refine va rfl rfl ?_
 refine nt hQ10 ?_
 clear hQ10 Q10
 refine KC.ret ?_
 have hE := Option.some.inj hF
 clear hF
 subst hE
 refine KQ.rets Try.results35 (RVs.cons (RV.tm rfl) RVs.nil) ?_
 exact ⟨_, rfl, A14, c15, rfl, hM⟩
set_option maxRecDepth 100000 in
set_option maxHeartbeats 40000000 in
theorem c_bits_Writer_Bytes (w : World) (g2 : Nat) (tg7 : TypeId) (wv1 : T_bits_Writer) (A4 : Option Addr) (c5 : Nat) (hL8 : Lent w [.box g2 tg7 [.slice A4 (wv1.f_b).length c5], .row A4 c5 5 1 (wv1.f_b).length ((wv1.f_b).flatMap (eI .u8))]) (r : (List Int) × T_bits_Writer) (hF : F_bits_Writer_Bytes wv1 = some r) :
  CallsR Try.prog 22 [.pointer (some ⟨g2, 0, none⟩)] w (fun v w' => ∃ (A0 : Option Addr) (c0 : Nat) (A1 : Option Addr) (c1 : Nat), v = .slice A1 (r.1).length c1 ∧ Mem w [some g2, rblk A4 c5] w' [.box g2 tg7 [.slice A0 (r.2.f_b).length c0], .row A0 c0 5 1 r.2.f_b.length (r.2.f_b.flatMap (eI .u8)), .row A1 c1 5 1 r.1.length (r.1.flatMap (eI .u8))]) := by
 refine calls_KC Try.func22 rfl Try.ntmps22 rfl ?_
 have hM : Mem w [some g2, rblk A4 c5] w [.box g2 tg7 [.slice A4 (wv1.f_b).length c5], .row A4 c5 5 1 (wv1.f_b).length ((wv1.f_b).flatMap (eI .u8))] := Mem.lendN hL8
 unfold F_bits_Writer_Bytes at hF
 refine sr fun Q9 hQ9 => ?_
 refine va rfl rfl ?_
 refine nt hQ9 ?_
 clear hQ9 Q9
 refine KC.seqH fun Q10 hQ10 => ?_
 refine sr fun Q11 hQ11 => ?_
 refine vm rfl rfl ?_
 refine RL.val (O.peqn Try.underlying56 rfl rfl) rfl ?_
 refine nt hQ11 ?_
 clear hQ11 Q11
 refine KC.condF rfl ?_
 refine KC.skip ?_
 refine KQ.thn hQ10 ?_
 clear hQ10 Q10
 refine sr fun Q12 hQ12 => ?_
 refine vm rfl rfl ?_
 refine RL.val (O.nilp rfl) rfl ?_
 refine RL.val (O.fldA fl33_0 (by decide) rfl) rfl ?_
 refine RL.val (O.load sc22 rfl (Cs.adds [0] ((hM.bx (i := 0) rfl)) rfl)) rfl ?_
 refine obindE hF fun y13 hx14 hF => ?_
 refine RL.call Try.func35 bd35 rfl rfl (c_slices_Clone_byte_byte _ _ _ wv1.f_b (hM.rd (i := 1) rfl) _ hx14) fun v w15 hv => ?_
 obtain ⟨A17, c18, rfl, hN16⟩ := hv
 replace hM := hM.call hN16
 refine va rfl rfl ?_
 refine nt hQ12 ?_
 clear hQ12 Q12
 refine KC.ret ?_
 have hE := Option.some.inj hF
 clear hF
 subst hE
 refine KQ.rets Try.results22 (RVs.cons (RV.tm rfl) RVs.nil) ?_
 exact ⟨_, rfl, A4, c5, A17, c18, rfl, hM⟩
set_option maxRecDepth 100000 in
set_option maxHeartbeats 40000000 in
theorem c_ref01_Same (w : World) (A2 : Option Addr) (c3 : Nat) (av1 : List Int) (hr4 : Rd w A2 c3 1 av1.length (av1.flatMap (eI .u8))) (A6 : Option Addr) (c7 : Nat) (b5 : List Int) (hr8 : Rd w A6 c7 1 b5.length (b5.flatMap (eI .u8))) (r : Bool) (hF : F_ref01_Same av1 b5 = some r) :
  CallsR Try.prog 23 [.slice A2 (av1).length c3, .slice A6 (b5).length c7] w (fun v w' => v = vB r ∧ Mem w [] w' []) := by
 refine calls_KC Try.func23 rfl Try.ntmps23 rfl ?_
 have hM := Mem.init w
 unfold F_ref01_Same at hF
 refine sr fun Q9 hQ9 => ?_
 refine va rfl rfl ?_
 refine nt hQ9 ?_
 clear hQ9 Q9
 refine sr fun Q10 hQ10 => ?_
 refine vm rfl rfl ?_
 refine RL.val (O.b2s sl22 Try.underlying5 Try.underlying9 rfl ((hM.inp hr4 Off.nil))) rfl ?_
 refine vm rfl rfl ?_
 refine RL.val (O.b2s sl22 Try.underlying5 Try.underlying9 rfl ((hM.inp hr8 Off.nil))) rfl ?_
 refine RL.val (O.streq rfl rfl) rfl ?_
 refine va rfl rfl ?_
 refine nt hQ10 ?_
 clear hQ10 Q10
 refine KC.ret ?_
 have hE := Option.some.inj hF
 clear hF
 subst hE
 refine KQ.rets Try.results23 (RVs.cons (RV.tm rfl) RVs.nil) ?_
 exact ⟨_, rfl, rfl, hM⟩
set_option maxRecDepth 100000 in
set_option maxHeartbeats 40000000 in
theorem c_law01_works (w : World) (r : Bool) (hF : F_law01_works = some r) :
  CallsR Try.prog 9 [] w (fun v w' => v = vB r ∧ Mem w [] w' []) := by
 refine calls_KC Try.func9 rfl Try.ntmps9 rfl ?_
 have hM := Mem.init w
 unfold F_law01_works at hF
 refine sr fun Q1 hQ1 => ?_
 refine va rfl rfl ?_
 refine nt hQ1 ?_
 clear hQ1 Q1
 refine sr fun Q2 hQ2 => ?_
 refine RL.eff (E.alloc hM ze33) rfl fun v w4 hv => ?_
 clear hM
 obtain ⟨g3, rfl, hM, hf⟩ := hv
 refine nt hQ2 ?_
 clear hQ2 Q2
 refine sr fun Q6 hQ6 => ?_
 replace hM := hM.nilrow 5 1
 refine obindE hF fun y8 hx9 hF => ?_
 refine RL.call Try.func17 bd17 rfl rfl (c_bits_Writer_Put _ _ _ (T_bits_Writer.mk ([] : List Int)) _ _ (hM.lent [0, 1] rfl (by decide)) 258 3 _ hx9) fun v w10 hv => ?_
 obtain ⟨A12, c13, rfl, hN11⟩ := hv
 replace hM := hM.callL [0, 1] [] rfl rfl (by decide) rfl hN11
 refine obindE hF fun y15 hx16 hF => ?_
 refine RL.call Try.func17 bd17 rfl rfl (c_bits_Writer_Put _ _ _ y8.2 _ _ (hM.lent [0, 1] rfl (by decide)) 256 1 _ hx16) fun v w17 hv => ?_
 obtain ⟨A19, c20, rfl, hN18⟩ := hv
 replace hM := hM.callL [0, 1] [] rfl rfl (by decide) rfl hN18
 refine va rfl rfl ?_
 refine va rfl rfl ?_
 refine nt hQ6 ?_
 clear hQ6 Q6
 refine sr fun Q22 hQ22 => ?_
 refine RL.eff (E.bsl (enc := (eI .u8)) (xs := ([1, 2, 3] : List Int)) hM sl22 ze5 rfl rfl rfl (fun _ => rfl) rfl (by kernel_rfl) rfl) rfl fun v w23 hv => ?_
 clear hM
 obtain ⟨A24, rfl, hM, hf⟩ := hv
 refine obindE hF fun y26 hx27 hF => ?_
 refine RL.call Try.func10 bd10 rfl rfl (c_bits_Get _ _ _ ([1, 2, 3] : List Int) (hM.rd (i := 2) rfl) 1 2 _ hx27) fun v w28 hv => ?_
 obtain ⟨rfl, hN29⟩ := hv
 replace hM := hM.call0 hN29
 refine vm rfl rfl ?_
 refine RL.val (O.ext rfl rfl) rfl ?_
 refine RL.val (O.ext rfl rfl) rfl ?_
 refine va rfl rfl ?_
 refine va rfl rfl ?_
 refine nt hQ22 ?_
 clear hQ22 Q22
 refine KC.cut (fun a w60 => ∃ (t59 : Bool), Kn 44 [(0, vB t59)] a ∧ Mem w [] w60 [] ∧ F_law01_works_j1 t59 = some r) ?_ ?_
 ·refine KC.region ?_
  refine vm rfl rfl ?_
  refine RL.val (O.eql rfl rfl) rfl ?_
  refine vm rfl rfl ?_
  refine RL.bcase (t := 15) rfl (fun hc => ?_) (fun hc => ?_)
  ·rw [if_pos hc] at hF
   refine RL.gval rfl rfl (O.move rfl) rfl ?_
   refine RL.gval rfl rfl (O.eql rfl rfl) rfl ?_
   refine RL.val (O.pickt rfl rfl) rfl ?_
   refine vm rfl rfl ?_
   refine RL.bcase (t := 19) rfl (fun hc => ?_) (fun hc => ?_)
   ·rw [if_pos hc] at hF
    refine obindE hF fun y30 hx31 hF => ?_
    refine RL.gcall rfl rfl Try.func22 bd22 rfl rfl (c_bits_Writer_Bytes _ _ _ y15.2 _ _ (hM.lent [0, 1] rfl (by decide)) _ hx31) fun v w32 hv => ?_
    obtain ⟨A34, c35, A37, c38, rfl, hN33⟩ := hv
    replace hM := hM.callL [0, 1] [2] rfl rfl (by decide) rfl hN33
    refine RL.geff rfl rfl (E.bsl (enc := (eI .u8)) (xs := ([0, 1, 2] : List Int)) hM sl22 ze5 rfl rfl rfl (fun _ => rfl) rfl (by kernel_rfl) rfl) rfl fun v w40 hv => ?_
    clear hM
    obtain ⟨A41, rfl, hM, hf⟩ := hv
    refine obindE hF fun y43 hx44 hF => ?_
    refine RL.gcall rfl rfl Try.func23 bd23 rfl rfl (c_ref01_Same _ _ _ y30.1 (hM.rd (i := 3) rfl) _ _ ([0, 1, 2] : List Int) (hM.rd (i := 4) rfl) _ hx44) fun v w45 hv => ?_
    obtain ⟨rfl, hN46⟩ := hv
    replace hM := hM.call0 hN46
    refine RL.val (O.pickt rfl rfl) rfl ?_
    refine vm rfl rfl ?_
    refine RL.bcase (t := 24) rfl (fun hc => ?_) (fun hc => ?_)
    ·rw [if_pos hc] at hF
     refine RL.gval rfl rfl (O.move rfl) rfl ?_
     refine RL.gval rfl rfl (O.eql rfl rfl) rfl ?_
     refine RL.val (O.pickt rfl rfl) rfl ?_
     refine vm rfl rfl ?_
     refine RL.bcase (t := 28) rfl (fun hc => ?_) (fun hc => ?_)
     ·rw [if_pos hc] at hF
      refine RL.gval rfl rfl (O.move rfl) rfl ?_
      refine RL.gval rfl rfl (O.eql rfl rfl) rfl ?_
      refine RL.val (O.pickt rfl rfl) rfl ?_
      refine vm rfl rfl ?_
      refine RL.bcase (t := 32) rfl (fun hc => ?_) (fun hc => ?_)
      ·rw [if_pos hc] at hF
       refine obindE hF fun y47 hx48 hF => ?_
       refine RL.gcall rfl rfl Try.func12 bd12 rfl rfl (c_bits_Least _ 0 _ hx48) fun v w49 hv => ?_
       obtain ⟨rfl, hN50⟩ := hv
       replace hM := hM.call0 hN50
       refine RL.gval rfl rfl (O.eql rfl rfl) rfl ?_
       refine RL.val (O.pickt rfl rfl) rfl ?_
       refine vm rfl rfl ?_
       refine RL.bcase (t := 36) rfl (fun hc => ?_) (fun hc => ?_)
       ·rw [if_pos hc] at hF
        refine obindE hF fun y51 hx52 hF => ?_
        refine RL.gcall rfl rfl Try.func12 bd12 rfl rfl (c_bits_Least _ 255 _ hx52) fun v w53 hv => ?_
        obtain ⟨rfl, hN54⟩ := hv
        replace hM := hM.call0 hN54
        refine RL.gval rfl rfl (O.eql rfl rfl) rfl ?_
        refine RL.val (O.pickt rfl rfl) rfl ?_
        refine vm rfl rfl ?_
        refine RL.bcase (t := 40) rfl (fun hc => ?_) (fun hc => ?_)
        ·rw [if_pos hc] at hF
         refine obindE hF fun y55 hx56 hF => ?_
         refine RL.gcall rfl rfl Try.func12 bd12 rfl rfl (c_bits_Least _ 256 _ hx56) fun v w57 hv => ?_
         obtain ⟨rfl, hN58⟩ := hv
         replace hM := hM.call0 hN58
         refine RL.gval rfl rfl (O.eql rfl rfl) rfl ?_
         refine RL.val (O.pickt rfl rfl) rfl ?_
         refine va rfl rfl ?_
         refine RL.nil ?_
         refine KQ.then_k ?_
         replace hM := hM.pick [] rfl (by decide)
         exact fun a ha => ⟨(y55 == 2), ha.less (less_cons rfl less_nil), hM, hF⟩
        rw [if_neg (ne_true hc)] at hF
        refine RL.gskip rfl rfl rfl rfl ?_
        refine RL.gskip rfl rfl rfl rfl ?_
        refine RL.val (O.pickf rfl rfl) rfl ?_
        refine va rfl rfl ?_
        refine RL.nil ?_
        refine KQ.then_k ?_
        replace hM := hM.pick [] rfl (by decide)
        exact fun a ha => ⟨false, ha.less (less_cons rfl less_nil), hM, hF⟩
       rw [if_neg (ne_true hc)] at hF
       refine RL.brun1 7 43 false (by kernel_rfl) ?_
       refine va rfl rfl ?_
       refine RL.nil ?_
       refine KQ.then_k ?_
       replace hM := hM.pick [] rfl (by decide)
       exact fun a ha => ⟨false, ha.less (less_cons rfl less_nil), hM, hF⟩
      rw [if_neg (ne_true hc)] at hF
      refine RL.brun1 11 43 false (by kernel_rfl) ?_
      refine va rfl rfl ?_
      refine RL.nil ?_
      refine KQ.then_k ?_
      replace hM := hM.pick [] rfl (by decide)
      exact fun a ha => ⟨false, ha.less (less_cons rfl less_nil), hM, hF⟩
     rw [if_neg (ne_true hc)] at hF
     refine RL.brun1 15 43 false (by kernel_rfl) ?_
     refine va rfl rfl ?_
     refine RL.nil ?_
     refine KQ.then_k ?_
     replace hM := hM.pick [] rfl (by decide)
     exact fun a ha => ⟨false, ha.less (less_cons rfl less_nil), hM, hF⟩
    rw [if_neg (ne_true hc)] at hF
    refine RL.brun1 19 43 false (by kernel_rfl) ?_
    refine va rfl rfl ?_
    refine RL.nil ?_
    refine KQ.then_k ?_
    replace hM := hM.pick [] rfl (by decide)
    exact fun a ha => ⟨false, ha.less (less_cons rfl less_nil), hM, hF⟩
   rw [if_neg (ne_true hc)] at hF
   refine RL.brun1 24 43 false (by kernel_rfl) ?_
   refine va rfl rfl ?_
   refine RL.nil ?_
   refine KQ.then_k ?_
   replace hM := hM.pick [] rfl (by decide)
   exact fun a ha => ⟨false, ha.less (less_cons rfl less_nil), hM, hF⟩
  rw [if_neg (ne_true hc)] at hF
  refine RL.brun1 28 43 false (by kernel_rfl) ?_
  refine va rfl rfl ?_
  refine RL.nil ?_
  refine KQ.then_k ?_
  replace hM := hM.pick [] rfl (by decide)
  exact fun a ha => ⟨false, ha.less (less_cons rfl less_nil), hM, hF⟩
 rintro a w60 ⟨t59, ha, hM, hF⟩
 refine KC.app ha ?_
 clear ha
 unfold F_law01_works_j1 at hF
 refine KC.ret ?_
 have hE := Option.some.inj hF
 clear hF
 subst hE
 refine KQ.rets Try.results9 (RVs.cons (RV.tm rfl) RVs.nil) ?_
 exact ⟨_, rfl, rfl, hM⟩
set_option maxRecDepth 100000 in
set_option maxHeartbeats 40000000 in
theorem c_ref01_Get (w : World) (A2 : Option Addr) (c3 : Nat) (b1 : List Int) (hr4 : Rd w A2 c3 1 b1.length (b1.flatMap (eI .u8))) (atv5 : Int) (size6 : Int) (r : Int × Int) (hF : F_ref01_Get b1 atv5 size6 = some r) :
  CallsR Try.prog 11 [.slice A2 (b1).length c3, vI atv5, vI size6] w (fun v w' => v = .tuple #[v64 r.1, vI r.2] ∧ Mem w [] w' []) := by
 refine calls_KC Try.func11 rfl Try.ntmps11 rfl ?_
 have hM := Mem.init w
 unfold F_ref01_Get at hF
 refine sr fun Q7 hQ7 => ?_
 refine va rfl rfl ?_
 refine va rfl rfl ?_
 refine nt hQ7 ?_
 clear hQ7 Q7
 refine KC.seqH fun Q8 hQ8 => ?_
 refine KC.cut (fun a w10 => ∃ (t9 : Bool), Kn 48 [(0, .slice A2 (b1).length c3), (1, vI atv5), (2, vI size6), (19, vB t9)] a ∧ Mem w [] w10 [] ∧ F_ref01_Get_j1 b1 atv5 size6 t9 = some r) ?_ ?_
 ·refine KC.region ?_
  refine vm rfl rfl ?_
  refine RL.val (O.lss rfl rfl) rfl ?_
  refine vm rfl rfl ?_
  refine RL.bcase (t := 12) rfl (fun hc => ?_) (fun hc => ?_)
  ·rw [if_pos hc] at hF
   refine RL.brun1 7 19 true (by kernel_rfl) ?_
   refine RL.nil ?_
   refine KQ.then_k ?_
   exact fun a ha => ⟨true, ha.less (less_cons rfl (less_cons rfl (less_cons rfl (less_cons rfl less_nil)))), hM, hF⟩
  rw [if_neg (ne_true hc)] at hF
  refine RL.gval rfl rfl (O.move rfl) rfl ?_
  refine RL.gval rfl rfl (O.gtr rfl rfl) rfl ?_
  refine RL.val (O.pickf rfl rfl) rfl ?_
  refine vm rfl rfl ?_
  refine RL.bcase (t := 16) rfl (fun hc => ?_) (fun hc => ?_)
  ·rw [if_pos hc] at hF
   refine RL.gskip rfl rfl rfl rfl ?_
   refine RL.gskip rfl rfl rfl rfl ?_
   refine RL.val (O.pickt rfl rfl) rfl ?_
   refine RL.nil ?_
   refine KQ.then_k ?_
   exact fun a ha => ⟨true, ha.less (less_cons rfl (less_cons rfl (less_cons rfl (less_cons rfl less_nil)))), hM, hF⟩
  rw [if_neg (ne_true hc)] at hF
  refine RL.gval rfl rfl (O.move rfl) rfl ?_
  refine RL.gval rfl rfl (O.lss rfl rfl) rfl ?_
  refine RL.val (O.pickf rfl rfl) rfl ?_
  refine RL.nil ?_
  refine KQ.then_k ?_
  exact fun a ha => ⟨(decide (atv5 < 0)), ha.less (less_cons rfl (less_cons rfl (less_cons rfl (less_cons rfl less_nil)))), hM, hF⟩
 rintro a w10 ⟨t9, ha, hM, hF⟩
 refine KC.app ha ?_
 clear ha
 unfold F_ref01_Get_j1 at hF
 refine KC.cond rfl (fun hc => ?_) (fun hc => ?_)
 ·rw [if_pos hc] at hF
  refine sr fun Q11 hQ11 => ?_
  refine va rfl rfl ?_
  refine va rfl rfl ?_
  refine nt hQ11 ?_
  clear hQ11 Q11
  refine KC.ret ?_
  refine KQ.thr hQ8 ?_
  clear hQ8 Q8
  have hE := Option.some.inj hF
  clear hF
  subst hE
  refine KQ.rets Try.results11 (RVs.cons (RV.tm rfl) (RVs.cons (RV.tm rfl) RVs.nil)) ?_
  exact ⟨_, rfl, rfl, hM⟩
 rw [if_neg (ne_true hc)] at hF
 refine KC.skip ?_
 refine KQ.thn hQ8 ?_
 clear hQ8 Q8
 refine sr fun Q12 hQ12 => ?_
 refine va rfl rfl ?_
 refine nt hQ12 ?_
 clear hQ12 Q12
 refine KC.seqH fun Q13 hQ13 => ?_
 refine sr fun Q14 hQ14 => ?_
 refine va rfl rfl ?_
 refine nt hQ14 ?_
 clear hQ14 Q14
 refine KC.block ?_
 refine KC.loop (fun k41 a w39 => ∃ (v37 : Int) (i38 : Int), Kn 48 [(0, .slice A2 (b1).length c3), (1, vI atv5), (2, vI size6), (8, v64 v37), (9, vI i38)] a ∧ Mem w [] w39 [] ∧ F_ref01_Get_L1 b1 atv5 size6 k41 v37 i38 = some r) ?_ ?_
 ·exact fun a ha => ⟨fuel0, 0, 0, ha.less (less_cons rfl (less_cons rfl (less_cons rfl (less_cons rfl (less_cons rfl less_nil))))), hM, hF⟩
 rintro k41 a w39 ⟨v37, i38, ha, hM, hF⟩
 refine KC.app ha ?_
 clear ha
 cases k41 with
 | zero => exact (none_some hF).elim
 | succ k41 =>
 have hF : F_ref01_Get_l1 (F_ref01_Get_L1 b1 atv5 size6 k41) b1 atv5 size6 v37 i38 = some r := hF
 unfold F_ref01_Get_l1 at hF
 refine KC.seqH fun Q42 hQ42 => ?_
 refine sr fun Q43 hQ43 => ?_
 refine vm rfl rfl ?_
 refine vm rfl rfl ?_
 refine RL.val (O.lss rfl rfl) rfl ?_
 refine nt hQ43 ?_
 clear hQ43 Q43
 refine KC.cond rfl (fun hc => ?_) (fun hc => ?_)
 ·rw [if_pos hc] at hF
  refine KC.skip ?_
  refine KQ.thn hQ42 ?_
  clear hQ42 Q42
  refine KC.seqH fun Q44 hQ44 => ?_
  refine KC.block ?_
  refine KC.seqH fun Q45 hQ45 => ?_
  refine KC.cut (fun a w47 => ∃ (t46 : Bool), Kn 48 [(0, .slice A2 (b1).length c3), (1, vI atv5), (2, vI size6), (8, v64 v37), (9, vI i38), (36, vB t46)] a ∧ Mem w [] w47 [] ∧ F_ref01_Get_j2 b1 atv5 v37 i38 (F_ref01_Get_L1 b1 atv5 size6 k41) t46 = some r) ?_ ?_
  ·refine KC.region ?_
   refine vm rfl rfl ?_
   refine vm rfl rfl ?_
   refine RL.val (O.len sl22 rfl) rfl ?_
   refine RL.val (O.gtr rfl rfl) rfl ?_
   refine vm rfl rfl ?_
   refine RL.bcase (t := 29) rfl (fun hc => ?_) (fun hc => ?_)
   ·rw [if_pos hc] at hF
    refine RL.gskip rfl rfl rfl rfl ?_
    refine RL.gskip rfl rfl rfl rfl ?_
    refine RL.gskip rfl rfl rfl rfl ?_
    refine RL.gskip rfl rfl rfl rfl ?_
    refine RL.gskip rfl rfl rfl rfl ?_
    refine RL.gskip rfl rfl rfl rfl ?_
    refine RL.val (O.pickt rfl rfl) rfl ?_
    refine RL.nil ?_
    refine KQ.then_k ?_
    exact fun a ha => ⟨true, ha.less (less_cons rfl (less_cons rfl (less_cons rfl (less_cons rfl (less_cons rfl (less_cons rfl less_nil)))))), hM, hF⟩
   rw [if_neg (ne_true hc)] at hF
   refine RL.gval rfl rfl (O.move rfl) rfl ?_
   refine RL.gval rfl rfl (O.move rfl) rfl ?_
   refine RL.gval rfl rfl (O.add rfl rfl) rfl ?_
   refine RL.gval rfl rfl (O.move rfl) rfl ?_
   refine RL.gval rfl rfl (O.len sl22 rfl) rfl ?_
   refine RL.gval rfl rfl (O.geq rfl rfl) rfl ?_
   refine RL.val (O.pickf rfl rfl) rfl ?_
   refine RL.nil ?_
   refine KQ.then_k ?_
   exact fun a ha => ⟨(decide ((b1.length : Int) ≤ (IntKind.i64.wrap (atv5 + i38)))), ha.less (less_cons rfl (less_cons rfl (less_cons rfl (less_cons rfl (less_cons rfl (less_cons rfl less_nil)))))), hM, hF⟩
  rintro a w47 ⟨t46, ha, hM, hF⟩
  refine KC.app ha ?_
  clear ha
  unfold F_ref01_Get_j2 at hF
  refine KC.cond rfl (fun hc => ?_) (fun hc => ?_)
  ·rw [if_pos hc] at hF
   refine sr fun Q48 hQ48 => ?_
   refine va rfl rfl ?_
   refine va rfl rfl ?_
   refine nt hQ48 ?_
   clear hQ48 Q48
   refine KC.ret ?_
   refine KQ.thr hQ45 ?_
   clear hQ45 Q45
   refine KQ.blk_r ?_
   refine KQ.thr hQ44 ?_
   clear hQ44 Q44
   refine KQ.then_r ?_
   refine KQ.blk_r ?_
   refine KQ.thr hQ13 ?_
   clear hQ13 Q13
   have hE := Option.some.inj hF
   clear hF
   subst hE
   refine KQ.rets Try.results11 (RVs.cons (RV.tm rfl) (RVs.cons (RV.tm rfl) RVs.nil)) ?_
   exact ⟨_, rfl, rfl, hM⟩
  rw [if_neg (ne_true hc)] at hF
  refine KC.skip ?_
  refine KQ.thn hQ45 ?_
  clear hQ45 Q45
  refine KC.region ?_
  refine vm rfl rfl ?_
  refine RL.val (O.mul rfl rfl) rfl ?_
  refine vm rfl rfl ?_
  refine vm rfl rfl ?_
  refine vm rfl rfl ?_
  refine RL.val (O.add rfl rfl) rfl ?_
  refine obindE hF fun xv51 hx50 hF => ?_
  have hA49 := Rd.atN (f := (eI .u8)) (s := 1) (fun _ => rfl) (by decide) (hM.inp hr4 Off.nil) hx50
  refine RL.val (O.idxA sl22 (hA49) rfl rfl) rfl ?_
  refine RL.val (O.load sc5 rfl (hA49).cells.at0) rfl ?_
  refine RL.val (O.conv un5 Try.underlying23 rfl) rfl ?_
  refine RL.val (O.add rfl rfl) rfl ?_
  refine va rfl rfl ?_
  refine RL.nil ?_
  refine KQ.blk_n ?_
  refine KQ.thn hQ44 ?_
  clear hQ44 Q44
  refine KC.region ?_
  refine vm rfl rfl ?_
  refine RL.val (O.add rfl rfl) rfl ?_
  refine va rfl rfl ?_
  refine RL.nil ?_
  refine KQ.then_k ?_
  exact fun a ha => ⟨k41, Nat.lt_succ_self k41, (IntKind.u64.wrap ((IntKind.u64.wrap (v37 * 256)) + (IntKind.u64.wrap xv51))), (IntKind.i64.wrap (i38 + 1)), ha.less (less_cons rfl (less_cons rfl (less_cons rfl (less_cons rfl (less_cons rfl less_nil))))), hM, hF⟩
 rw [if_neg (ne_true hc)] at hF
 refine KC.exit ?_
 refine KQ.thx hQ42 ?_
 clear hQ42 Q42
 refine KQ.then_x ?_
 refine KQ.blk_x ?_
 refine KQ.thn hQ13 ?_
 clear hQ13 Q13
 refine sr fun Q52 hQ52 => ?_
 refine vm rfl rfl ?_
 refine va rfl rfl ?_
 refine va rfl rfl ?_
 refine nt hQ52 ?_
 clear hQ52 Q52
 refine KC.ret ?_
 have hE := Option.some.inj hF
 clear hF
 subst hE
 refine KQ.rets Try.results11 (RVs.cons (RV.tm rfl) (RVs.cons (RV.tm rfl) RVs.nil)) ?_
 exact ⟨_, rfl, rfl, hM⟩
set_option maxRecDepth 100000 in
set_option maxHeartbeats 40000000 in
theorem c_ref01_Power (w : World) (size1 : Int) (r : Int) (hF : F_ref01_Power size1 = some r) :
  CallsR Try.prog 30 [vI size1] w (fun v w' => v = v64 r ∧ Mem w [] w' []) := by
 refine calls_KC Try.func30 rfl Try.ntmps30 rfl ?_
 have hM := Mem.init w
 unfold F_ref01_Power at hF
 refine sr fun Q2 hQ2 => ?_
 refine va rfl rfl ?_
 refine nt hQ2 ?_
 clear hQ2 Q2
 refine sr fun Q3 hQ3 => ?_
 refine va rfl rfl ?_
 refine nt hQ3 ?_
 clear hQ3 Q3
 refine KC.seqH fun Q4 hQ4 => ?_
 refine sr fun Q5 hQ5 => ?_
 refine va rfl rfl ?_
 refine nt hQ5 ?_
 clear hQ5 Q5
 refine KC.block ?_
 refine KC.loop (fun k18 a w16 => ∃ (nv14 : Int) (i15 : Int), Kn 14 [(0, vI size1), (3, v64 nv14), (4, vI i15)] a ∧ Mem w [] w16 [] ∧ F_ref01_Power_L1 size1 k18 nv14 i15 = some r) ?_ ?_
 ·exact fun a ha => ⟨fuel0, 0, 0, ha.less (less_cons rfl (less_cons rfl (less_cons rfl less_nil))), hM, hF⟩
 rintro k18 a w16 ⟨nv14, i15, ha, hM, hF⟩
 refine KC.app ha ?_
 clear ha
 cases k18 with
 | zero => exact (none_some hF).elim
 | succ k18 =>
 have hF : F_ref01_Power_l1 (F_ref01_Power_L1 size1 k18) size1 nv14 i15 = some r := hF
 unfold F_ref01_Power_l1 at hF
 refine KC.seqH fun Q19 hQ19 => ?_
 refine sr fun Q20 hQ20 => ?_
 refine vm rfl rfl ?_
 refine vm rfl rfl ?_
 refine RL.val (O.lss rfl rfl) rfl ?_
 refine nt hQ20 ?_
 clear hQ20 Q20
 refine KC.cond rfl (fun hc => ?_) (fun hc => ?_)
 ·rw [if_pos hc] at hF
  refine KC.skip ?_
  refine KQ.thn hQ19 ?_
  clear hQ19 Q19
  refine KC.seqH fun Q21 hQ21 => ?_
  refine KC.block ?_
  refine KC.region ?_
  refine vm rfl rfl ?_
  refine RL.val (O.mul rfl rfl) rfl ?_
  refine RL.val (O.add rfl rfl) rfl ?_
  refine va rfl rfl ?_
  refine RL.nil ?_
  refine KQ.blk_n ?_
  refine KQ.thn hQ21 ?_
  clear hQ21 Q21
  refine KC.region ?_
  refine vm rfl rfl ?_
  refine RL.val (O.add rfl rfl) rfl ?_
  refine va rfl rfl ?_
  refine RL.nil ?_
  refine KQ.then_k ?_
  exact fun a ha => ⟨k18, Nat.lt_succ_self k18, (IntKind.u64.wrap ((IntKind.u64.wrap (nv14 * 256)) + 255)), (IntKind.i64.wrap (i15 + 1)), ha.less (less_cons rfl (less_cons rfl (less_cons rfl less_nil))), hM, hF⟩
 rw [if_neg (ne_true hc)] at hF
 refine KC.exit ?_
 refine KQ.thx hQ19 ?_
 clear hQ19 Q19
 refine KQ.then_x ?_
 refine KQ.blk_x ?_
 refine KQ.thn hQ4 ?_
 clear hQ4 Q4
 refine sr fun Q22 hQ22 => ?_
 refine vm rfl rfl ?_
 refine va rfl rfl ?_
 refine nt hQ22 ?_
 clear hQ22 Q22
 refine KC.ret ?_
 have hE := Option.some.inj hF
 clear hF
 subst hE
 refine KQ.rets Try.results30 (RVs.cons (RV.tm rfl) RVs.nil) ?_
 exact ⟨_, rfl, rfl, hM⟩
set_option maxRecDepth 100000 in
set_option maxHeartbeats 40000000 in
theorem c_ref01_Fits (w : World) (v1 : Int) (size2 : Int) (r : Bool) (hF : F_ref01_Fits v1 size2 = some r) :
  CallsR Try.prog 15 [v64 v1, vI size2] w (fun v w' => v = vB r ∧ Mem w [] w' []) := by
 refine calls_KC Try.func15 rfl Try.ntmps15 rfl ?_
 have hM := Mem.init w
 unfold F_ref01_Fits at hF
 refine sr fun Q3 hQ3 => ?_
 refine va rfl rfl ?_
 refine nt hQ3 ?_
 clear hQ3 Q3
 refine KC.cut (fun a w9 => ∃ (t8 : Bool), Kn 17 [(4, vB t8)] a ∧ Mem w [] w9 [] ∧ F_ref01_Fits_j1 t8 = some r) ?_ ?_
 ·refine KC.region ?_
  refine vm rfl rfl ?_
  refine RL.val (O.geq rfl rfl) rfl ?_
  refine vm rfl rfl ?_
  refine RL.bcase (t := 7) rfl (fun hc => ?_) (fun hc => ?_)
  ·rw [if_pos hc] at hF
   refine RL.gval rfl rfl (O.move rfl) rfl ?_
   refine RL.gval rfl rfl (O.leq rfl rfl) rfl ?_
   refine RL.val (O.pickt rfl rfl) rfl ?_
   refine vm rfl rfl ?_
   refine RL.bcase (t := 11) rfl (fun hc => ?_) (fun hc => ?_)
   ·rw [if_pos hc] at hF
    refine RL.gval rfl rfl (O.move rfl) rfl ?_
    refine RL.gval rfl rfl (O.move rfl) rfl ?_
    refine obindE hF fun y4 hx5 hF => ?_
    refine RL.gcall rfl rfl Try.func30 bd30 rfl rfl (c_ref01_Power _ size2 _ hx5) fun v w6 hv => ?_
    obtain ⟨rfl, hN7⟩ := hv
    replace hM := hM.call0 hN7
    refine RL.gval rfl rfl (O.leq rfl rfl) rfl ?_
    refine RL.val (O.pickt rfl rfl) rfl ?_
    refine va rfl rfl ?_
    refine RL.nil ?_
    refine KQ.then_k ?_
    exact fun a ha => ⟨(decide (v1 ≤ y4)), ha.less (less_cons rfl less_nil), hM, hF⟩
   rw [if_neg (ne_true hc)] at hF
   refine RL.brun1 5 16 false (by kernel_rfl) ?_
   refine va rfl rfl ?_
   refine RL.nil ?_
   refine KQ.then_k ?_
   exact fun a ha => ⟨false, ha.less (less_cons rfl less_nil), hM, hF⟩
  rw [if_neg (ne_true hc)] at hF
  refine RL.brun1 9 16 false (by kernel_rfl) ?_
  refine va rfl rfl ?_
  refine RL.nil ?_
  refine KQ.then_k ?_
  exact fun a ha => ⟨false, ha.less (less_cons rfl less_nil), hM, hF⟩
 rintro a w9 ⟨t8, ha, hM, hF⟩
 refine KC.app ha ?_
 clear ha
 unfold F_ref01_Fits_j1 at hF
 refine KC.ret ?_
 have hE := Option.some.inj hF
 clear hF
 subst hE
 refine KQ.rets Try.results15 (RVs.cons (RV.tm rfl) RVs.nil) ?_
 exact ⟨_, rfl, rfl, hM⟩
set_option maxRecDepth 100000 in
set_option maxHeartbeats 40000000 in
theorem c_ref01_Least (w : World) (v1 : Int) (r : Int) (hF : F_ref01_Least v1 = some r) :
  CallsR Try.prog 13 [v64 v1] w (fun v w' => v = vI r ∧ Mem w [] w' []) := by
 refine calls_KC Try.func13 rfl Try.ntmps13 rfl ?_
 have hM := Mem.init w
 unfold F_ref01_Least at hF
 refine sr fun Q2 hQ2 => ?_
 refine va rfl rfl ?_
 refine nt hQ2 ?_
 clear hQ2 Q2
 refine KC.seqH fun Q3 hQ3 => ?_
 refine sr fun Q4 hQ4 => ?_
 refine va rfl rfl ?_
 refine nt hQ4 ?_
 clear hQ4 Q4
 refine KC.block ?_
 refine KC.loop (fun k27 a w25 => ∃ (nv24 : Int), Kn 12 [(0, v64 v1), (3, vI nv24)] a ∧ Mem w [] w25 [] ∧ F_ref01_Least_L1 v1 k27 nv24 = some r) ?_ ?_
 ·exact fun a ha => ⟨fuel0, 1, ha.less (less_cons rfl (less_cons rfl less_nil)), hM, hF⟩
 rintro k27 a w25 ⟨nv24, ha, hM, hF⟩
 refine KC.app ha ?_
 clear ha
 cases k27 with
 | zero => exact (none_some hF).elim
 | succ k27 =>
 have hF : F_ref01_Least_l1 (F_ref01_Least_L1 v1 k27) v1 nv24 = some r := hF
 unfold F_ref01_Least_l1 at hF
 refine KC.seqH fun Q28 hQ28 => ?_
 refine sr fun Q29 hQ29 => ?_
 refine vm rfl rfl ?_
 refine RL.val (O.lss rfl rfl) rfl ?_
 refine nt hQ29 ?_
 clear hQ29 Q29
 refine KC.cond rfl (fun hc => ?_) (fun hc => ?_)
 ·rw [if_pos hc] at hF
  refine KC.skip ?_
  refine KQ.thn hQ28 ?_
  clear hQ28 Q28
  refine KC.seqH fun Q30 hQ30 => ?_
  refine KC.block ?_
  refine sr fun Q31 hQ31 => ?_
  refine vm rfl rfl ?_
  refine vm rfl rfl ?_
  refine obindE hF fun y32 hx33 hF => ?_
  refine RL.call Try.func15 bd15 rfl rfl (c_ref01_Fits _ v1 nv24 _ hx33) fun v w34 hv => ?_
  obtain ⟨rfl, hN35⟩ := hv
  replace hM := hM.call0 hN35
  refine nt hQ31 ?_
  clear hQ31 Q31
  refine KC.cond rfl (fun hc => ?_) (fun hc => ?_)
  ·rw [if_pos hc] at hF
   refine sr fun Q36 hQ36 => ?_
   refine vm rfl rfl ?_
   refine va rfl rfl ?_
   refine nt hQ36 ?_
   clear hQ36 Q36
   refine KC.ret ?_
   refine KQ.blk_r ?_
   refine KQ.thr hQ30 ?_
   clear hQ30 Q30
   refine KQ.then_r ?_
   refine KQ.blk_r ?_
   refine KQ.thr hQ3 ?_
   clear hQ3 Q3
   have hE := Option.some.inj hF
   clear hF
   subst hE
   refine KQ.rets Try.results13 (RVs.cons (RV.tm rfl) RVs.nil) ?_
   exact ⟨_, rfl, rfl, hM⟩
  rw [if_neg (ne_true hc)] at hF
  refine KC.skip ?_
  refine KQ.blk_n ?_
  refine KQ.thn hQ30 ?_
  clear hQ30 Q30
  refine KC.region ?_
  refine vm rfl rfl ?_
  refine RL.val (O.add rfl rfl) rfl ?_
  refine va rfl rfl ?_
  refine RL.nil ?_
  refine KQ.then_k ?_
  exact fun a ha => ⟨k27, Nat.lt_succ_self k27, (IntKind.i64.wrap (nv24 + 1)), ha.less (less_cons rfl (less_cons rfl less_nil)), hM, hF⟩
 rw [if_neg (ne_true hc)] at hF
 refine KC.exit ?_
 refine KQ.thx hQ28 ?_
 clear hQ28 Q28
 refine KQ.then_x ?_
 refine KQ.blk_x ?_
 refine KQ.thn hQ3 ?_
 clear hQ3 Q3
 refine sr fun Q37 hQ37 => ?_
 refine va rfl rfl ?_
 refine nt hQ37 ?_
 clear hQ37 Q37
 refine KC.ret ?_
 have hE := Option.some.inj hF
 clear hF
 subst hE
 refine KQ.rets Try.results13 (RVs.cons (RV.tm rfl) RVs.nil) ?_
 exact ⟨_, rfl, rfl, hM⟩
set_option maxRecDepth 100000 in
set_option maxHeartbeats 40000000 in
theorem c_law01_BitsGets (w : World) (A2 : Option Addr) (c3 : Nat) (b1 : List Int) (hr4 : Rd w A2 c3 1 b1.length (b1.flatMap (eI .u8))) (atv5 : Int) (size6 : Int) (v7 : Int) (r : Bool) (hF : F_law01_BitsGets b1 atv5 size6 v7 = some r) :
  CallsR Try.prog 3 [.slice A2 (b1).length c3, vI atv5, vI size6, v64 v7] w (fun v w' => v = vB r ∧ Mem w [] w' []) := by
 refine calls_KC Try.func3 rfl Try.ntmps3 rfl ?_
 have hM := Mem.init w
 unfold F_law01_BitsGets at hF
 refine sr fun Q8 hQ8 => ?_
 refine va rfl rfl ?_
 refine nt hQ8 ?_
 clear hQ8 Q8
 refine KC.seqH fun Q9 hQ9 => ?_
 refine sr fun Q10 hQ10 => ?_
 refine vm rfl rfl ?_
 refine RL.val (O.len sl22 rfl) rfl ?_
 refine RL.val (O.gtr rfl rfl) rfl ?_
 refine nt hQ10 ?_
 clear hQ10 Q10
 refine KC.cond rfl (fun hc => ?_) (fun hc => ?_)
 ·rw [if_pos hc] at hF
  refine sr fun Q11 hQ11 => ?_
  refine obindE hF fun y12 hx13 hF => ?_
  refine RL.call Try.func9 bd9 rfl rfl (c_law01_works _ _ hx13) fun v w14 hv => ?_
  obtain ⟨rfl, hN15⟩ := hv
  replace hM := hM.call0 hN15
  refine va rfl rfl ?_
  refine nt hQ11 ?_
  clear hQ11 Q11
  refine KC.ret ?_
  refine KQ.thr hQ9 ?_
  clear hQ9 Q9
  have hE := Option.some.inj hF
  clear hF
  subst hE
  refine KQ.rets Try.results3 (RVs.cons (RV.tm rfl) RVs.nil) ?_
  exact ⟨_, rfl, rfl, hM⟩
 rw [if_neg (ne_true hc)] at hF
 refine KC.skip ?_
 refine KQ.thn hQ9 ?_
 clear hQ9 Q9
 refine sr fun Q16 hQ16 => ?_
 refine vm rfl rfl ?_
 refine vm rfl rfl ?_
 refine vm rfl rfl ?_
 refine obindE hF fun y17 hx18 hF => ?_
 refine RL.call Try.func10 bd10 rfl rfl (c_bits_Get _ _ _ b1 (hM.inp hr4 Off.nil) atv5 size6 _ hx18) fun v w19 hv => ?_
 obtain ⟨rfl, hN20⟩ := hv
 replace hM := hM.call0 hN20
 refine vm rfl rfl ?_
 refine RL.val (O.ext rfl rfl) rfl ?_
 refine RL.val (O.ext rfl rfl) rfl ?_
 refine va rfl rfl ?_
 refine va rfl rfl ?_
 refine nt hQ16 ?_
 clear hQ16 Q16
 refine sr fun Q21 hQ21 => ?_
 refine vm rfl rfl ?_
 refine vm rfl rfl ?_
 refine vm rfl rfl ?_
 refine obindE hF fun y22 hx23 hF => ?_
 refine RL.call Try.func11 bd11 rfl rfl (c_ref01_Get _ _ _ b1 (hM.inp hr4 Off.nil) atv5 size6 _ hx23) fun v w24 hv => ?_
 obtain ⟨rfl, hN25⟩ := hv
 replace hM := hM.call0 hN25
 refine vm rfl rfl ?_
 refine RL.val (O.ext rfl rfl) rfl ?_
 refine RL.val (O.ext rfl rfl) rfl ?_
 refine va rfl rfl ?_
 refine va rfl rfl ?_
 refine nt hQ21 ?_
 clear hQ21 Q21
 refine KC.cut (fun a w39 => ∃ (t38 : Bool), Kn 49 [(8, vB t38)] a ∧ Mem w [] w39 [] ∧ F_law01_BitsGets_j1 t38 = some r) ?_ ?_
 ·refine KC.region ?_
  refine vm rfl rfl ?_
  refine vm rfl rfl ?_
  refine RL.val (O.eql rfl rfl) rfl ?_
  refine vm rfl rfl ?_
  refine RL.bcase (t := 34) rfl (fun hc => ?_) (fun hc => ?_)
  ·rw [if_pos hc] at hF
   refine RL.gval rfl rfl (O.move rfl) rfl ?_
   refine RL.gval rfl rfl (O.move rfl) rfl ?_
   refine RL.gval rfl rfl (O.eql rfl rfl) rfl ?_
   refine RL.val (O.pickt rfl rfl) rfl ?_
   refine vm rfl rfl ?_
   refine RL.bcase (t := 39) rfl (fun hc => ?_) (fun hc => ?_)
   ·rw [if_pos hc] at hF
    refine RL.gval rfl rfl (O.move rfl) rfl ?_
    refine obindE hF fun y26 hx27 hF => ?_
    refine RL.gcall rfl rfl Try.func12 bd12 rfl rfl (c_bits_Least _ v7 _ hx27) fun v w28 hv => ?_
    obtain ⟨rfl, hN29⟩ := hv
    replace hM := hM.call0 hN29
    refine RL.gval rfl rfl (O.move rfl) rfl ?_
    refine obindE hF fun y30 hx31 hF => ?_
    refine RL.gcall rfl rfl Try.func13 bd13 rfl rfl (c_ref01_Least _ v7 _ hx31) fun v w32 hv => ?_
    obtain ⟨rfl, hN33⟩ := hv
    replace hM := hM.call0 hN33
    refine RL.gval rfl rfl (O.eql rfl rfl) rfl ?_
    refine RL.val (O.pickt rfl rfl) rfl ?_
    refine vm rfl rfl ?_
    refine RL.bcase (t := 46) rfl (fun hc => ?_) (fun hc => ?_)
    ·rw [if_pos hc] at hF
     refine obindE hF fun y34 hx35 hF => ?_
     refine RL.gcall rfl rfl Try.func9 bd9 rfl rfl (c_law01_works _ _ hx35) fun v w36 hv => ?_
     obtain ⟨rfl, hN37⟩ := hv
     replace hM := hM.call0 hN37
     refine RL.val (O.pickt rfl rfl) rfl ?_
     refine va rfl rfl ?_
     refine RL.nil ?_
     refine KQ.then_k ?_
     exact fun a ha => ⟨y34, ha.less (less_cons rfl less_nil), hM, hF⟩
    rw [if_neg (ne_true hc)] at hF
    refine RL.gskip rfl rfl rfl rfl ?_
    refine RL.val (O.pickf rfl rfl) rfl ?_
    refine va rfl rfl ?_
    refine RL.nil ?_
    refine KQ.then_k ?_
    exact fun a ha => ⟨false, ha.less (less_cons rfl less_nil), hM, hF⟩
   rw [if_neg (ne_true hc)] at hF
   refine RL.brun1 9 48 false (by kernel_rfl) ?_
   refine va rfl rfl ?_
   refine RL.nil ?_
   refine KQ.then_k ?_
   exact fun a ha => ⟨false, ha.less (less_cons rfl less_nil), hM, hF⟩
  rw [if_neg (ne_true hc)] at hF
  refine RL.brun1 14 48 false (by kernel_rfl) ?_
  refine va rfl rfl ?_
  refine RL.nil ?_
  refine KQ.then_k ?_
  exact fun a ha => ⟨false, ha.less (less_cons rfl less_nil), hM, hF⟩
 rintro a w39 ⟨t38, ha, hM, hF⟩
 refine KC.app ha ?_
 clear ha
 unfold F_law01_BitsGets_j1 at hF
 refine KC.ret ?_
 have hE := Option.some.inj hF
 clear hF
 subst hE
 refine KQ.rets Try.results3 (RVs.cons (RV.tm rfl) RVs.nil) ?_
 exact ⟨_, rfl, rfl, hM⟩
set_option maxRecDepth 100000 in
set_option maxHeartbeats 40000000 in
theorem c_law01_few (w : World) (A2 : Option Addr) (c3 : Nat) (lv1 : List T_law01_Act) (hr4 : RdD R_law01_Act [] w A2 c3 5 lv1) (most5 : Int) (r : Bool) (hF : F_law01_few lv1 most5 = some r) :
  CallsR Try.prog 14 [.slice A2 (lv1).length c3, vI most5] w (fun v w' => v = vB r ∧ Mem w [] w' []) := by
 refine calls_KC Try.func14 rfl Try.ntmps14 rfl ?_
 have hM := Mem.init w
 unfold F_law01_few at hF
 refine sr fun Q6 hQ6 => ?_
 refine va rfl rfl ?_
 refine nt hQ6 ?_
 clear hQ6 Q6
 refine KC.seqH fun Q7 hQ7 => ?_
 refine sr fun Q8 hQ8 => ?_
 refine va rfl rfl ?_
 refine nt hQ8 ?_
 clear hQ8 Q8
 refine KC.block ?_
 refine KC.loop (fun k45 a w43 => ∃ (i42 : Int), Kn 27 [(0, .slice A2 (lv1).length c3), (1, vI most5), (5, vI i42)] a ∧ Mem w [] w43 [] ∧ F_law01_few_L1 lv1 most5 k45 i42 = some r) ?_ ?_
 ·exact fun a ha => ⟨fuel0, 0, ha.less (less_cons rfl (less_cons rfl (less_cons rfl less_nil))), hM, hF⟩
 rintro k45 a w43 ⟨i42, ha, hM, hF⟩
 refine KC.app ha ?_
 clear ha
 cases k45 with
 | zero => exact (none_some hF).elim
 | succ k45 =>
 have hF : F_law01_few_l1 (F_law01_few_L1 lv1 most5 k45) lv1 most5 i42 = some r := hF
 unfold F_law01_few_l1 at hF
 refine KC.seqH fun Q46 hQ46 => ?_
 refine KC.cut (fun a w48 => ∃ (t47 : Bool), Kn 27 [(0, .slice A2 (lv1).length c3), (1, vI most5), (5, vI i42), (13, vB t47)] a ∧ Mem w [] w48 [] ∧ F_law01_few_j1 lv1 most5 i42 (F_law01_few_L1 lv1 most5 k45) t47 = some r) ?_ ?_
 ·refine KC.region ?_
  refine vm rfl rfl ?_
  refine vm rfl rfl ?_
  refine RL.val (O.len sl30 rfl) rfl ?_
  refine RL.val (O.lss rfl rfl) rfl ?_
  refine vm rfl rfl ?_
  refine RL.bcase (t := 10) rfl (fun hc => ?_) (fun hc => ?_)
  ·rw [if_pos hc] at hF
   refine RL.gval rfl rfl (O.move rfl) rfl ?_
   refine RL.gval rfl rfl (O.lss rfl rfl) rfl ?_
   refine RL.val (O.pickt rfl rfl) rfl ?_
   refine RL.nil ?_
   refine KQ.then_k ?_
   exact fun a ha => ⟨(decide (i42 < 100)), ha.less (less_cons rfl (less_cons rfl (less_cons rfl (less_cons rfl less_nil)))), hM, hF⟩
  rw [if_neg (ne_true hc)] at hF
  refine RL.gskip rfl rfl rfl rfl ?_
  refine RL.gskip rfl rfl rfl rfl ?_
  refine RL.val (O.pickf rfl rfl) rfl ?_
  refine RL.nil ?_
  refine KQ.then_k ?_
  exact fun a ha => ⟨false, ha.less (less_cons rfl (less_cons rfl (less_cons rfl (less_cons rfl less_nil)))), hM, hF⟩
 rintro a w48 ⟨t47, ha, hM, hF⟩
 refine KC.app ha ?_
 clear ha
 unfold F_law01_few_j1 at hF
 refine KC.cond rfl (fun hc => ?_) (fun hc => ?_)
 ·rw [if_pos hc] at hF
  refine KC.skip ?_
  refine KQ.thn hQ46 ?_
  clear hQ46 Q46
  refine KC.seqH fun Q49 hQ49 => ?_
  refine KC.block ?_
  refine sr fun Q50 hQ50 => ?_
  refine vm rfl rfl ?_
  refine vm rfl rfl ?_
  refine obindE hF fun xv53 hx52 hF => ?_
  obtain ⟨cs56, hA51, hR54, hO55⟩ := RdD.at hr4 hx52
  obtain ⟨A57, c58, rfl, hr59, ho60⟩ := hR54
  have hA51 := hA51.chg hM.chg hO55
  refine RL.val (O.idxA sl30 (hA51) rfl rfl) rfl ?_
  refine RL.val (O.fldA fl35_4 (by decide) rfl) rfl ?_
  refine RL.val (O.load sc22 rfl (Cs.adds [4] (hA51).cells rfl)) rfl ?_
  refine RL.val (O.len sl22 rfl) rfl ?_
  refine RL.val (O.gtr rfl rfl) rfl ?_
  refine nt hQ50 ?_
  clear hQ50 Q50
  refine KC.cond rfl (fun hc => ?_) (fun hc => ?_)
  ·rw [if_pos hc] at hF
   refine sr fun Q61 hQ61 => ?_
   refine va rfl rfl ?_
   refine nt hQ61 ?_
   clear hQ61 Q61
   refine KC.ret ?_
   refine KQ.blk_r ?_
   refine KQ.thr hQ49 ?_
   clear hQ49 Q49
   refine KQ.then_r ?_
   refine KQ.blk_r ?_
   refine KQ.thr hQ7 ?_
   clear hQ7 Q7
   have hE := Option.some.inj hF
   clear hF
   subst hE
   refine KQ.rets Try.results14 (RVs.cons (RV.tm rfl) RVs.nil) ?_
   exact ⟨_, rfl, rfl, hM⟩
  rw [if_neg (ne_true hc)] at hF
  refine KC.skip ?_
  refine KQ.blk_n ?_
  refine KQ.thn hQ49 ?_
  clear hQ49 Q49
  refine KC.region ?_
  refine vm rfl rfl ?_
  refine RL.val (O.add rfl rfl) rfl ?_
  refine va rfl rfl ?_
  refine RL.nil ?_
  refine KQ.then_k ?_
  exact fun a ha => ⟨k45, Nat.lt_succ_self k45, (IntKind.i64.wrap (i42 + 1)), ha.less (less_cons rfl (less_cons rfl (less_cons rfl less_nil))), hM, hF⟩
 rw [if_neg (ne_true hc)] at hF
 refine KC.exit ?_
 refine KQ.thx hQ46 ?_
 clear hQ46 Q46
 refine KQ.then_x ?_
 refine KQ.blk_x ?_
 refine KQ.thn hQ7 ?_
 clear hQ7 Q7
 refine sr fun Q62 hQ62 => ?_
 refine vm rfl rfl ?_
 refine RL.val (O.len sl30 rfl) rfl ?_
 refine vm rfl rfl ?_
 refine RL.val (O.leq rfl rfl) rfl ?_
 refine va rfl rfl ?_
 refine nt hQ62 ?_
 clear hQ62 Q62
 refine KC.ret ?_
 have hE := Option.some.inj hF
 clear hF
 subst hE
 refine KQ.rets Try.results14 (RVs.cons (RV.tm rfl) RVs.nil) ?_
 exact ⟨_, rfl, rfl, hM⟩
set_option maxRecDepth 100000 in
set_option maxHeartbeats 40000000 in
theorem c_kit_Pick (w : World) (i1 : Int) (nv2 : Int) (r : Int) (hF : F_kit_Pick i1 nv2 = some r) :
  CallsR Try.prog 16 [vI i1, vI nv2] w (fun v w' => v = vI r ∧ Mem w [] w' []) := by
 refine calls_KC Try.func16 rfl Try.ntmps16 rfl ?_
 have hM := Mem.init w
 unfold F_kit_Pick at hF
 refine sr fun Q3 hQ3 => ?_
 refine va rfl rfl ?_
 refine nt hQ3 ?_
 clear hQ3 Q3
 refine KC.seqH fun Q4 hQ4 => ?_
 refine sr fun Q5 hQ5 => ?_
 refine vm rfl rfl ?_
 refine RL.val (O.leq rfl rfl) rfl ?_
 refine nt hQ5 ?_
 clear hQ5 Q5
 refine KC.cond rfl (fun hc => ?_) (fun hc => ?_)
 ·rw [if_pos hc] at hF
  refine sr fun Q6 hQ6 => ?_
  refine va rfl rfl ?_
  refine nt hQ6 ?_
  clear hQ6 Q6
  refine KC.ret ?_
  refine KQ.thr hQ4 ?_
  clear hQ4 Q4
  have hE := Option.some.inj hF
  clear hF
  subst hE
  refine KQ.rets Try.results16 (RVs.cons (RV.tm rfl) RVs.nil) ?_
  exact ⟨_, rfl, rfl, hM⟩
 rw [if_neg (ne_true hc)] at hF
 refine KC.skip ?_
 refine KQ.thn hQ4 ?_
 clear hQ4 Q4
 refine sr fun Q7 hQ7 => ?_
 refine vm rfl rfl ?_
 refine vm rfl rfl ?_
 refine cut_someE hF fun hq8 hF => ?_
 refine RL.val (O.rem rfl rfl (of_decide_eq_true hq8)) rfl ?_
 refine vm rfl rfl ?_
 refine RL.val (O.add rfl rfl) rfl ?_
 refine vm rfl rfl ?_
 refine cut_someE hF fun hq9 hF => ?_
 refine RL.val (O.rem rfl rfl (of_decide_eq_true hq9)) rfl ?_
 refine va rfl rfl ?_
 refine nt hQ7 ?_
 clear hQ7 Q7
 refine KC.ret ?_
 have hE := Option.some.inj hF
 clear hF
 subst hE
 refine KQ.rets Try.results16 (RVs.cons (RV.tm rfl) RVs.nil) ?_
 exact ⟨_, rfl, rfl, hM⟩
set_option maxRecDepth 100000 in
set_option maxHeartbeats 40000000 in
theorem c_ref01_Put_R : ∀ (kf : Nat) (w : World) (v1 : Int) (size2 : Int) (r : (List Int)) (hF : F_ref01_Put_R kf v1 size2 = some r),
  CallsR Try.prog 19 [v64 v1, vI size2] w (fun v w' => ∃ (A0 : Option Addr) (c0 : Nat), v = .slice A0 (r).length c0 ∧ Mem w [] w' [.row A0 c0 5 1 r.length (r.flatMap (eI .u8))]) := by
 intro kf
 induction kf with
 | zero => intro w v1 size2 r hF; exact (none_some hF).elim
 | succ kf ih =>
  intro w v1 size2 r hF
  refine calls_KC Try.func19 rfl Try.ntmps19 rfl ?_
  have hM := Mem.init w
  have hF : F_ref01_Put_B (F_ref01_Put_R kf) v1 size2 = some r := hF
  unfold F_ref01_Put_B at hF
  refine sr fun Q3 hQ3 => ?_
  refine va rfl rfl ?_
  refine nt hQ3 ?_
  clear hQ3 Q3
  refine KC.seqH fun Q4 hQ4 => ?_
  refine sr fun Q5 hQ5 => ?_
  refine vm rfl rfl ?_
  refine RL.val (O.eql rfl rfl) rfl ?_
  refine nt hQ5 ?_
  clear hQ5 Q5
  refine KC.cond rfl (fun hc => ?_) (fun hc => ?_)
  ·rw [if_pos hc] at hF
   refine sr fun Q6 hQ6 => ?_
   refine va rfl rfl ?_
   refine nt hQ6 ?_
   clear hQ6 Q6
   refine KC.ret ?_
   refine KQ.thr hQ4 ?_
   clear hQ4 Q4
   have hE := Option.some.inj hF
   clear hF
   subst hE
   replace hM := hM.nilrow 5 1
   refine KQ.rets Try.results19 (RVs.cons (RV.tm rfl) RVs.nil) ?_
   exact ⟨_, rfl, none, 0, rfl, hM⟩
  rw [if_neg (ne_true hc)] at hF
  refine KC.skip ?_
  refine KQ.thn hQ4 ?_
  clear hQ4 Q4
  refine sr fun Q7 hQ7 => ?_
  refine vm rfl rfl ?_
  refine RL.val (O.quo rfl rfl (by decide)) rfl ?_
  refine vm rfl rfl ?_
  refine RL.val (O.sub rfl rfl) rfl ?_
  refine obindE hF fun y8 hx9 hF => ?_
  refine RL.call Try.func19 bd19 rfl rfl (ih _ (IntKind.u64.wrap (Int.tdiv v1 256)) (IntKind.i64.wrap (size2 - 1)) _ hx9) fun v w10 hv => ?_
  obtain ⟨A12, c13, rfl, hN11⟩ := hv
  replace hM := hM.call hN11
  refine vm rfl rfl ?_
  refine RL.val (O.rem rfl rfl (by decide)) rfl ?_
  refine RL.val (O.conv un23 Try.underlying5 rfl) rfl ?_
  refine RL.eff (E.bsl (enc := (eI .u8)) (xs := ([(IntKind.u8.wrap (Int.tmod v1 256))] : List Int)) hM sl22 ze5 rfl rfl rfl (fun _ => rfl) rfl (by kernel_rfl) rfl) rfl fun v w15 hv => ?_
  clear hM
  obtain ⟨A16, rfl, hM, hf⟩ := hv
  refine cut_someE hF fun hq21 hF => ?_
  refine RL.eff (E.app (enc := (eI .u8)) (xs := y8) (ys := ([(IntKind.u8.wrap (Int.tmod v1 256))] : List Int)) (j := 0) hM rfl sl22 ze5 rfl rfl rfl rfl rfl (hM.rd (i := 1) rfl) (fun _ => One.all rfl) (of_decide_eq_true hq21)) rfl fun v w20 hv => ?_
  clear hM
  obtain ⟨A18, c19, rfl, hM, hf⟩ := hv
  refine va rfl rfl ?_
  refine nt hQ7 ?_
  clear hQ7 Q7
  refine KC.ret ?_
  have hE := Option.some.inj hF
  clear hF
  subst hE
  replace hM := hM.pick [0] rfl (by decide)
  refine KQ.rets Try.results19 (RVs.cons (RV.tm rfl) RVs.nil) ?_
  exact ⟨_, rfl, A18, c19, rfl, hM⟩
theorem c_ref01_Put (w : World) (v1 : Int) (size2 : Int) (r : (List Int)) (hF : F_ref01_Put v1 size2 = some r) :
  CallsR Try.prog 19 [v64 v1, vI size2] w (fun v w' => ∃ (A0 : Option Addr) (c0 : Nat), v = .slice A0 (r).length c0 ∧ Mem w [] w' [.row A0 c0 5 1 r.length (r.flatMap (eI .u8))]) := c_ref01_Put_R fuel0 w v1 size2 r hF
set_option maxRecDepth 100000 in
set_option maxHeartbeats 40000000 in
theorem c_ref01_Join (w : World) (A2 : Option Addr) (c3 : Nat) (av1 : List Int) (hr4 : Rd w A2 c3 1 av1.length (av1.flatMap (eI .u8))) (A6 : Option Addr) (c7 : Nat) (b5 : List Int) (hr8 : Rd w A6 c7 1 b5.length (b5.flatMap (eI .u8))) (r : (List Int)) (hF : F_ref01_Join av1 b5 = some r) :
  CallsR Try.prog 18 [.slice A2 (av1).length c3, .slice A6 (b5).length c7] w (fun v w' => ∃ (A0 : Option Addr) (c0 : Nat), v = .slice A0 (r).length c0 ∧ Mem w [] w' [.row A0 c0 5 1 r.length (r.flatMap (eI .u8))]) := by
 refine calls_KC Try.func18 rfl Try.ntmps18 rfl ?_
 have hM := Mem.init w
 unfold F_ref01_Join at hF
 refine sr fun Q9 hQ9 => ?_
 refine va rfl rfl ?_
 refine nt hQ9 ?_
 clear hQ9 Q9
 refine sr fun Q10 hQ10 => ?_
 refine va rfl rfl ?_
 refine nt hQ10 ?_
 clear hQ10 Q10
 refine sr fun Q11 hQ11 => ?_
 refine vm rfl rfl ?_
 refine vm rfl rfl ?_
 refine cut_someE hF fun hq15 hF => ?_
 refine RL.eff (E.app0 (enc := (eI .u8)) (ys := av1) hM sl22 ze5 rfl rfl rfl rfl rfl (hM.inp hr4 Off.nil) (fun _ => One.all rfl) (of_decide_eq_true hq15)) rfl fun v w14 hv => ?_
 clear hM
 obtain ⟨A12, c13, rfl, hM, hf⟩ := hv
 refine va rfl rfl ?_
 refine nt hQ11 ?_
 clear hQ11 Q11
 refine sr fun Q17 hQ17 => ?_
 refine vm rfl rfl ?_
 refine vm rfl rfl ?_
 refine cut_someE hF fun hq21 hF => ?_
 refine RL.eff (E.app (enc := (eI .u8)) (xs := av1) (ys := b5) (j := 0) hM rfl sl22 ze5 rfl rfl rfl rfl rfl (hM.inp hr8 Off.nil) (fun _ => One.all rfl) (of_decide_eq_true hq21)) rfl fun v w20 hv => ?_
 clear hM
 obtain ⟨A18, c19, rfl, hM, hf⟩ := hv
 refine va rfl rfl ?_
 refine nt hQ17 ?_
 clear hQ17 Q17
 refine KC.ret ?_
 have hE := Option.some.inj hF
 clear hF
 subst hE
 refine KQ.rets Try.results18 (RVs.cons (RV.tm rfl) RVs.nil) ?_
 exact ⟨_, rfl, A18, c19, rfl, hM⟩
set_option maxRecDepth 100000 in
set_option maxHeartbeats 40000000 in
theorem c_bits_Writer_Set (w : World) (g2 : Nat) (tg7 : TypeId) (wv1 : T_bits_Writer) (A4 : Option Addr) (c5 : Nat) (hL11 : Lent w [.box g2 tg7 [.slice A4 (wv1.f_b).length c5], .row A4 c5 5 1 (wv1.f_b).length ((wv1.f_b).flatMap (eI .u8))]) (atv8 : Int) (v9 : Int) (size10 : Int) (r : Int × T_bits_Writer) (hF : F_bits_Writer_Set wv1 atv8 v9 size10 = some r) :
  CallsR Try.prog 21 [.pointer (some ⟨g2, 0, none⟩), vI atv8, v64 v9, vI size10] w (fun v w' => ∃ (A0 : Option Addr) (c0 : Nat), v = vI r.1 ∧ Mem w [some g2, rblk A4 c5] w' [.box g2 tg7 [.slice A0 (r.2.f_b).length c0], .row A0 c0 5 1 r.2.f_b.length (r.2.f_b.flatMap (eI .u8))]) := by
 refine calls_KC Try.func21 rfl Try.ntmps21 rfl ?_
 have hM : Mem w [some g2, rblk A4 c5] w [.box g2 tg7 [.slice A4 (wv1.f_b).length c5], .row A4 c5 5 1 (wv1.f_b).length ((wv1.f_b).flatMap (eI .u8))] := Mem.lendN hL11
 unfold F_bits_Writer_Set at hF
 refine sr fun Q12 hQ12 => ?_
 refine va rfl rfl ?_
 refine nt hQ12 ?_
 clear hQ12 Q12
 refine KC.seqH fun Q13 hQ13 => ?_
 refine sr fun Q14 hQ14 => ?_
 refine vm rfl rfl ?_
 refine RL.val (O.peqn Try.underlying56 rfl rfl) rfl ?_
 refine nt hQ14 ?_
 clear hQ14 Q14
 refine KC.condF rfl ?_
 refine KC.skip ?_
 refine KQ.thn hQ13 ?_
 clear hQ13 Q13
 refine KC.seqH fun Q15 hQ15 => ?_
 refine KC.cut (fun a w23 => ∃ (t22 : Bool), Kn 49 [(0, .pointer (some ⟨g2, 0, none⟩)), (1, vI atv8), (2, v64 v9), (3, vI size10), (38, vB t22)] a ∧ Mem w [some g2, rblk A4 c5] w23 [.row A4 c5 5 1 (wv1.f_b).length ((wv1.f_b).flatMap (eI .u8)), .box g2 tg7 [.slice A4 (wv1.f_b).length c5]] ∧ F_bits_Writer_Set_j1 wv1 atv8 v9 size10 t22 = some r) ?_ ?_
 ·refine KC.region ?_
  refine vm rfl rfl ?_
  refine vm rfl rfl ?_
  refine obindE hF fun y16 hx17 hF => ?_
  refine RL.call Try.func33 bd33 rfl rfl (c_bits_fits _ v9 size10 _ hx17) fun v w18 hv => ?_
  obtain ⟨rfl, hN19⟩ := hv
  replace hM := hM.call0 hN19
  refine RL.val (O.not rfl) rfl ?_
  refine vm rfl rfl ?_
  refine RL.bcase (t := 15) rfl (fun hc => ?_) (fun hc => ?_)
  ·rw [if_pos hc] at hF
   refine RL.brun1 23 38 true (by kernel_rfl) ?_
   refine RL.nil ?_
   refine KQ.then_k ?_
   replace hM := hM.pick [1, 0] rfl (by decide)
   exact fun a ha => ⟨true, ha.less (less_cons rfl (less_cons rfl (less_cons rfl (less_cons rfl (less_cons rfl less_nil))))), hM, hF⟩
  rw [if_neg (ne_true hc)] at hF
  refine RL.gval rfl rfl (O.move rfl) rfl ?_
  refine RL.gval rfl rfl (O.lss rfl rfl) rfl ?_
  refine RL.val (O.pickf rfl rfl) rfl ?_
  refine vm rfl rfl ?_
  refine RL.bcase (t := 19) rfl (fun hc => ?_) (fun hc => ?_)
  ·rw [if_pos hc] at hF
   refine RL.brun1 19 38 true (by kernel_rfl) ?_
   refine RL.nil ?_
   refine KQ.then_k ?_
   replace hM := hM.pick [1, 0] rfl (by decide)
   exact fun a ha => ⟨true, ha.less (less_cons rfl (less_cons rfl (less_cons rfl (less_cons rfl (less_cons rfl less_nil))))), hM, hF⟩
  rw [if_neg (ne_true hc)] at hF
  refine RL.gval rfl rfl (O.move rfl) rfl ?_
  refine RL.gval rfl rfl (O.move rfl) rfl ?_
  refine RL.gval rfl rfl (O.nilp rfl) rfl ?_
  refine RL.gval rfl rfl (O.fldA fl33_0 (by decide) rfl) rfl ?_
  refine RL.gval rfl rfl (O.load sc22 rfl (Cs.adds [0] ((hM.bx (i := 0) rfl)) rfl)) rfl ?_
  refine RL.gval rfl rfl (O.len sl22 rfl) rfl ?_
  refine RL.gval rfl rfl (O.gtr rfl rfl) rfl ?_
  refine RL.val (O.pickf rfl rfl) rfl ?_
  refine vm rfl rfl ?_
  refine RL.bcase (t := 28) rfl (fun hc => ?_) (fun hc => ?_)
  ·rw [if_pos hc] at hF
   refine RL.brun1 10 38 true (by kernel_rfl) ?_
   refine RL.nil ?_
   refine KQ.then_k ?_
   replace hM := hM.pick [1, 0] rfl (by decide)
   exact fun a ha => ⟨true, ha.less (less_cons rfl (less_cons rfl (less_cons rfl (less_cons rfl (less_cons rfl less_nil))))), hM, hF⟩
  rw [if_neg (ne_true hc)] at hF
  refine RL.gval rfl rfl (O.move rfl) rfl ?_
  refine RL.gval rfl rfl (O.nilp rfl) rfl ?_
  refine RL.gval rfl rfl (O.fldA fl33_0 (by decide) rfl) rfl ?_
  refine RL.gval rfl rfl (O.load sc22 rfl (Cs.adds [0] ((hM.bx (i := 0) rfl)) rfl)) rfl ?_
  refine RL.gval rfl rfl (O.len sl22 rfl) rfl ?_
  refine RL.gval rfl rfl (O.move rfl) rfl ?_
  refine RL.gval rfl rfl (O.sub rfl rfl) rfl ?_
  refine RL.gval rfl rfl (O.move rfl) rfl ?_
  refine RL.gval rfl rfl (O.lss rfl rfl) rfl ?_
  refine RL.val (O.pickf rfl rfl) rfl ?_
  refine RL.nil ?_
  refine KQ.then_k ?_
  replace hM := hM.pick [1, 0] rfl (by decide)
  exact fun a ha => ⟨(decide ((IntKind.i64.wrap ((wv1.f_b.length : Int) - atv8)) < size10)), ha.less (less_cons rfl (less_cons rfl (less_cons rfl (less_cons rfl (less_cons rfl less_nil))))), hM, hF⟩
 rintro a w23 ⟨t22, ha, hM, hF⟩
 refine KC.app ha ?_
 clear ha
 unfold F_bits_Writer_Set_j1 at hF
 refine KC.cond rfl (fun hc => ?_) (fun hc => ?_)
 ·rw [if_pos hc] at hF
  refine sr fun Q24 hQ24 => ?_
  refine va rfl rfl ?_
  refine nt hQ24 ?_
  clear hQ24 Q24
  refine KC.ret ?_
  refine KQ.thr hQ15 ?_
  clear hQ15 Q15
  have hE := Option.some.inj hF
  clear hF
  subst hE
  replace hM := hM.pick [1, 0] rfl (by decide)
  refine KQ.rets Try.results21 (RVs.cons (RV.tm rfl) RVs.nil) ?_
  exact ⟨_, rfl, A4, c5, rfl, hM⟩
 rw [if_neg (ne_true hc)] at hF
 refine KC.skip ?_
 refine KQ.thn hQ15 ?_
 clear hQ15 Q15
 refine KC.seqH fun Q25 hQ25 => ?_
 replace hM := hM.drewN 1
 refine KC.draw [] [9] [8, 9] [0, 1, 2, 4, 5, 6, 7] (.ofList [0, 1, 2, 3, 4, 5, 6, 7, 8, 9]) moP (by kernel_rfl) ?_
 refine RD.p rfl rfl rfl rfl (fun w' => O.move rfl) ?_
 refine RD.p rfl rfl rfl rfl (fun w' => O.nilp rfl) ?_
 refine RD.p rfl rfl rfl rfl (fun w' => O.fldA fl33_0 (by decide) rfl) ?_
 refine RD.q rfl rfl rfl rfl (fun w' hf => O.load sc22 rfl (Cs.adds [0] ((hM.bx (i := 1) rfl).fut hf) rfl)) ?_
 refine RD.p rfl rfl rfl rfl (fun w' => O.move rfl) ?_
 refine obindE hF fun cut26 hy27 hF => ?_
 refine cutNE A4 c5 (Int.toNat atv8) 1 fun A28 c29 eA31 ec32 => ?_
 have hr30 := Rd.cutT (enc := (eI .u8)) (s := 1) (fun _ => rfl) (hM.rd (i := 0) rfl) hy27 (m := c5) (by have := (hM.rd (i := 0) rfl).cap; have := (gcut_some hy27).2.2.1; omega) (Nat.le_refl _)
 rw [← eA31, ← ec32] at hr30
 refine RD.p (v := .slice A28 (cut26).length c29) rfl rfl rfl rfl (fun w' => (by rw [eA31, ec32]; exact O.cutlT sl22 (hM.rd (i := 0) rfl) hy27 rfl rfl)) ?_
 refine RD.p rfl rfl rfl rfl (fun w' => O.move rfl) ?_
 refine RD.p rfl rfl rfl rfl (fun w' => O.move rfl) ?_
 refine obindE hF fun y33 hx34 hF => ?_
 refine RD.mcall rfl rfl trivial Try.func34 bd34 rfl rfl (c_bits_of _ v9 size10 _ hx34) fun v w35 hv => ?_
 obtain ⟨A37, c38, rfl, hN36⟩ := hv
 refine ⟨fun _ => hN36.fut, ?_⟩
 have hr30 := hr30.fut hN36.fut
 replace hM := hM.call hN36
 refine RD.meff rfl rfl (E.copyR (k := .u8) (j := 0) (xs := wv1.f_b) (ys := y33) hM rfl sl22 hy27 eA31 (cut_room ((hM.rd (i := 0) rfl)) hy27) rfl rfl (hM.rd (i := 2) rfl)) rfl fun v w40 hv => ?_
 clear hM
 obtain ⟨rfl, hM, hn41⟩ := hv
 refine ⟨fun h => (by cases h), ?_⟩
 refine RD.reslot (t := 42) rfl hn41 ?_
 replace hM := hM.rebox (i := 1) (cs' := [.slice A4 ((cpR (Int.toNat atv8) (Nat.min y33.length cut26.length) wv1.f_b y33)).length c5]) rfl (by rw [← hn41])
 refine RD.nil ?_
 refine KQ.thn hQ25 ?_
 clear hQ25 Q25
 refine sr fun Q42 hQ42 => ?_
 refine va rfl rfl ?_
 refine nt hQ42 ?_
 clear hQ42 Q42
 refine KC.ret ?_
 have hE := Option.some.inj hF
 clear hF
 subst hE
 replace hM := hM.pick [1, 0] rfl (by decide)
 refine KQ.rets Try.results21 (RVs.cons (RV.tm rfl) RVs.nil) ?_
 exact ⟨_, rfl, A4, c5, rfl, hM⟩
set_option maxRecDepth 100000 in
set_option maxHeartbeats 40000000 in
theorem c_bits_Writer_Len (w : World) (g2 : Nat) (tg7 : TypeId) (wv1 : T_bits_Writer) (A4 : Option Addr) (c5 : Nat) (hL8 : Lent w [.box g2 tg7 [.slice A4 (wv1.f_b).length c5], .row A4 c5 5 1 (wv1.f_b).length ((wv1.f_b).flatMap (eI .u8))]) (r : Int × T_bits_Writer) (hF : F_bits_Writer_Len wv1 = some r) :
  CallsR Try.prog 24 [.pointer (some ⟨g2, 0, none⟩)] w (fun v w' => ∃ (A0 : Option Addr) (c0 : Nat), v = vI r.1 ∧ Mem w [some g2, rblk A4 c5] w' [.box g2 tg7 [.slice A0 (r.2.f_b).length c0], .row A0 c0 5 1 r.2.f_b.length (r.2.f_b.flatMap (eI .u8))]) := by
 refine calls_KC Try.func24 rfl Try.ntmps24 rfl ?_
 have hM : Mem w [some g2, rblk A4 c5] w [.box g2 tg7 [.slice A4 (wv1.f_b).length c5], .row A4 c5 5 1 (wv1.f_b).length ((wv1.f_b).flatMap (eI .u8))] := Mem.lendN hL8
 unfold F_bits_Writer_Len at hF
 refine sr fun Q9 hQ9 => ?_
 refine va rfl rfl ?_
 refine nt hQ9 ?_
 clear hQ9 Q9
 refine KC.seqH fun Q10 hQ10 => ?_
 refine sr fun Q11 hQ11 => ?_
 refine vm rfl rfl ?_
 refine RL.val (O.peqn Try.underlying56 rfl rfl) rfl ?_
 refine nt hQ11 ?_
 clear hQ11 Q11
 refine KC.condF rfl ?_
 refine KC.skip ?_
 refine KQ.thn hQ10 ?_
 clear hQ10 Q10
 refine sr fun Q12 hQ12 => ?_
 refine vm rfl rfl ?_
 refine RL.val (O.nilp rfl) rfl ?_
 refine RL.val (O.fldA fl33_0 (by decide) rfl) rfl ?_
 refine RL.val (O.load sc22 rfl (Cs.adds [0] ((hM.bx (i := 0) rfl)) rfl)) rfl ?_
 refine RL.val (O.len sl22 rfl) rfl ?_
 refine va rfl rfl ?_
 refine nt hQ12 ?_
 clear hQ12 Q12
 refine KC.ret ?_
 have hE := Option.some.inj hF
 clear hF
 subst hE
 refine KQ.rets Try.results24 (RVs.cons (RV.tm rfl) RVs.nil) ?_
 exact ⟨_, rfl, A4, c5, rfl, hM⟩
end Go.Proofs.Ytpbkjellpboefaa
