/- Printed by a program of this claim: each call returns what the plain function of its name gives. -/
import Derived.Test.YtkpnocgfhipidaaW1
set_option linter.unusedVariables false
namespace Go.Proofs.Ytkpnocgfhipidaa
open Go Go.Ox Go.RowKit
set_option maxRecDepth 100000 in
set_option maxHeartbeats 40000000 in
theorem c_math_bits_Len64 (w : World) (xv1 : Int) (r : Int) (hF : F_math_bits_Len64 xv1 = some r) :
  CallsR Try.prog 49 [v64 xv1] w (fun v w' => v = vI r ∧ Mem w [] w' []) := by
 refine calls_KC Try.func49 rfl Try.ntmps49 rfl ?_
 have hM := Mem.init w
 unfold F_math_bits_Len64 at hF
 refine sr fun Q2 hQ2 => ?_
 refine va rfl rfl ?_
 refine nt hQ2 ?_
 clear hQ2 Q2
 refine KC.cut (fun a w7 => ∃ (xv5 : Int) (nv6 : Int), Kn 25 [(0, v64 xv5), (2, vI nv6)] a ∧ Mem w [] w7 [] ∧ F_math_bits_Len64_j1 xv5 nv6 = some r) ?_ ?_
 ·refine sr fun Q3 hQ3 => ?_
  refine vm rfl rfl ?_
  refine RL.val (O.geq rfl rfl) rfl ?_
  refine nt hQ3 ?_
  clear hQ3 Q3
  refine KC.cond rfl (fun hc => ?_) (fun hc => ?_)
  ·rw [if_pos hc] at hF
   refine sr fun Q4 hQ4 => ?_
   refine vm rfl rfl ?_
   refine RL.val (O.shr rfl rfl (by decide)) rfl ?_
   refine va rfl rfl ?_
   refine nt hQ4 ?_
   clear hQ4 Q4
   refine KC.region ?_
   refine va rfl rfl ?_
   refine RL.nil ?_
   refine KQ.then_k ?_
   exact fun a ha => ⟨(Ox.shr .u64 xv1 32), 32, ha.less (less_cons rfl (less_cons rfl less_nil)), hM, hF⟩
  rw [if_neg (ne_true hc)] at hF
  refine KC.skip ?_
  refine KQ.then_k ?_
  exact fun a ha => ⟨xv1, 0, ha.less (less_cons rfl (less_cons rfl less_nil)), hM, hF⟩
 rintro a w7 ⟨xv5, nv6, ha, hM, hF⟩
 refine KC.app ha ?_
 clear ha
 unfold F_math_bits_Len64_j1 at hF
 refine KC.cut (fun a w12 => ∃ (xv10 : Int) (nv11 : Int), Kn 25 [(0, v64 xv10), (2, vI nv11)] a ∧ Mem w [] w12 [] ∧ F_math_bits_Len64_j2 xv10 nv11 = some r) ?_ ?_
 ·refine sr fun Q8 hQ8 => ?_
  refine vm rfl rfl ?_
  refine RL.val (O.geq rfl rfl) rfl ?_
  refine nt hQ8 ?_
  clear hQ8 Q8
  refine KC.cond rfl (fun hc => ?_) (fun hc => ?_)
  ·rw [if_pos hc] at hF
   refine sr fun Q9 hQ9 => ?_
   refine vm rfl rfl ?_
   refine RL.val (O.shr rfl rfl (by decide)) rfl ?_
   refine va rfl rfl ?_
   refine nt hQ9 ?_
   clear hQ9 Q9
   refine KC.region ?_
   refine vm rfl rfl ?_
   refine RL.val (O.add rfl rfl) rfl ?_
   refine va rfl rfl ?_
   refine RL.nil ?_
   refine KQ.then_k ?_
   exact fun a ha => ⟨(Ox.shr .u64 xv5 16), (IntKind.i64.wrap (nv6 + 16)), ha.less (less_cons rfl (less_cons rfl less_nil)), hM, hF⟩
  rw [if_neg (ne_true hc)] at hF
  refine KC.skip ?_
  refine KQ.then_k ?_
  exact fun a ha => ⟨xv5, nv6, ha.less (less_cons rfl (less_cons rfl less_nil)), hM, hF⟩
 rintro a w12 ⟨xv10, nv11, ha, hM, hF⟩
 refine KC.app ha ?_
 clear ha
 unfold F_math_bits_Len64_j2 at hF
 refine KC.cut (fun a w17 => ∃ (xv15 : Int) (nv16 : Int), Kn 25 [(0, v64 xv15), (2, vI nv16)] a ∧ Mem w [] w17 [] ∧ F_math_bits_Len64_j3 xv15 nv16 = some r) ?_ ?_
 ·refine sr fun Q13 hQ13 => ?_
  refine vm rfl rfl ?_
  refine RL.val (O.geq rfl rfl) rfl ?_
  refine nt hQ13 ?_
  clear hQ13 Q13
  refine KC.cond rfl (fun hc => ?_) (fun hc => ?_)
  ·rw [if_pos hc] at hF
   refine sr fun Q14 hQ14 => ?_
   refine vm rfl rfl ?_
   refine RL.val (O.shr rfl rfl (by decide)) rfl ?_
   refine va rfl rfl ?_
   refine nt hQ14 ?_
   clear hQ14 Q14
   refine KC.region ?_
   refine vm rfl rfl ?_
   refine RL.val (O.add rfl rfl) rfl ?_
   refine va rfl rfl ?_
   refine RL.nil ?_
   refine KQ.then_k ?_
   exact fun a ha => ⟨(Ox.shr .u64 xv10 8), (IntKind.i64.wrap (nv11 + 8)), ha.less (less_cons rfl (less_cons rfl less_nil)), hM, hF⟩
  rw [if_neg (ne_true hc)] at hF
  refine KC.skip ?_
  refine KQ.then_k ?_
  exact fun a ha => ⟨xv10, nv11, ha.less (less_cons rfl (less_cons rfl less_nil)), hM, hF⟩
 rintro a w17 ⟨xv15, nv16, ha, hM, hF⟩
 refine KC.app ha ?_
 clear ha
 unfold F_math_bits_Len64_j3 at hF
 refine sr fun Q18 hQ18 => ?_
 refine vm rfl rfl ?_
 refine vm rfl rfl ?_
 refine RL.val (O.conv un22 Try.underlying5 rfl) rfl ?_
 refine obindE hF fun xv19 hx20 hF => ?_
 refine RL.val (O.idxS Try.underlying9 hx20 rfl rfl) rfl ?_
 refine RL.val (O.conv un5 Try.underlying3 rfl) rfl ?_
 refine RL.val (O.add rfl rfl) rfl ?_
 refine va rfl rfl ?_
 refine nt hQ18 ?_
 clear hQ18 Q18
 refine KC.ret ?_
 have hE := Option.some.inj hF
 clear hF
 subst hE
 refine KQ.rets Try.results49 (RVs.cons (RV.tm rfl) RVs.nil) ?_
 exact ⟨_, rfl, rfl, hM⟩
set_option maxRecDepth 100000 in
set_option maxHeartbeats 40000000 in
theorem c_math_bits_Len (w : World) (xv1 : Int) (r : Int) (hF : F_math_bits_Len xv1 = some r) :
  CallsR Try.prog 25 [v64 xv1] w (fun v w' => v = vI r ∧ Mem w [] w' []) := by
 refine calls_KC Try.func25 rfl Try.ntmps25 rfl ?_
 have hM := Mem.init w
 unfold F_math_bits_Len at hF
 refine sr fun Q2 hQ2 => ?_
 refine va rfl rfl ?_
 refine nt hQ2 ?_
 clear hQ2 Q2
 refine KC.seqH fun Q3 hQ3 => ?_
 refine KC.condF rfl ?_
 refine KC.skip ?_
 refine KQ.thn hQ3 ?_
 clear hQ3 Q3
 refine sr fun Q4 hQ4 => ?_
 refine vm rfl rfl ?_
 refine obindE hF fun y5 hx6 hF => ?_
 refine RL.call Try.func49 bd49 rfl rfl (c_math_bits_Len64 _ xv1 _ hx6) fun v w7 hv => ?_
 obtain ⟨rfl, hN8⟩ := hv
 replace hM := hM.call0 hN8
 refine va rfl rfl ?_
 refine nt hQ4 ?_
 clear hQ4 Q4
 refine KC.ret ?_
 have hE := Option.some.inj hF
 clear hF
 subst hE
 refine KQ.rets Try.results25 (RVs.cons (RV.tm rfl) RVs.nil) ?_
 exact ⟨_, rfl, rfl, hM⟩
set_option maxRecDepth 100000 in
set_option maxHeartbeats 40000000 in
theorem c_law24_udp1 (w : World) (port1 : Int) (r : T_packet_Packet) (hF : F_law24_udp1 port1 = some r) :
  CallsR Try.prog 23 [v16 port1] w (fun v w' => v = .agg #[vB r.f_Key.f_Src.f_Six, o8 r.f_Key.f_Src.f_B 0, o8 r.f_Key.f_Src.f_B 1, o8 r.f_Key.f_Src.f_B 2, o8 r.f_Key.f_Src.f_B 3, o8 r.f_Key.f_Src.f_B 4, o8 r.f_Key.f_Src.f_B 5, o8 r.f_Key.f_Src.f_B 6, o8 r.f_Key.f_Src.f_B 7, o8 r.f_Key.f_Src.f_B 8, o8 r.f_Key.f_Src.f_B 9, o8 r.f_Key.f_Src.f_B 10, o8 r.f_Key.f_Src.f_B 11, o8 r.f_Key.f_Src.f_B 12, o8 r.f_Key.f_Src.f_B 13, o8 r.f_Key.f_Src.f_B 14, o8 r.f_Key.f_Src.f_B 15, vB r.f_Key.f_Dst.f_Six, o8 r.f_Key.f_Dst.f_B 0, o8 r.f_Key.f_Dst.f_B 1, o8 r.f_Key.f_Dst.f_B 2, o8 r.f_Key.f_Dst.f_B 3, o8 r.f_Key.f_Dst.f_B 4, o8 r.f_Key.f_Dst.f_B 5, o8 r.f_Key.f_Dst.f_B 6, o8 r.f_Key.f_Dst.f_B 7, o8 r.f_Key.f_Dst.f_B 8, o8 r.f_Key.f_Dst.f_B 9, o8 r.f_Key.f_Dst.f_B 10, o8 r.f_Key.f_Dst.f_B 11, o8 r.f_Key.f_Dst.f_B 12, o8 r.f_Key.f_Dst.f_B 13, o8 r.f_Key.f_Dst.f_B 14, o8 r.f_Key.f_Dst.f_B 15, v8 r.f_Key.f_Proto, v16 r.f_Key.f_SrcPort, v16 r.f_Key.f_DstPort, vI r.f_Length, v8 r.f_Flags, vB r.f_Fragment] ∧ Mem w [] w' []) := by
 refine calls_KC Try.func23 rfl Try.ntmps23 rfl ?_
 have hM := Mem.init w
 unfold F_law24_udp1 at hF
 refine sr fun Q2 hQ2 => ?_
 refine RL.eff (E.alloc hM ze38) rfl fun v w4 hv => ?_
 clear hM
 obtain ⟨g3, rfl, hM, hf⟩ := hv
 refine nt hQ2 ?_
 clear hQ2 Q2
 refine sr fun Q6 hQ6 => ?_
 refine vm rfl rfl ?_
 refine RL.val (O.bld (cs := [vB false, o8 (List.replicate 16 0) 0, o8 (List.replicate 16 0) 1, o8 (List.replicate 16 0) 2, o8 (List.replicate 16 0) 3, o8 (List.replicate 16 0) 4, o8 (List.replicate 16 0) 5, o8 (List.replicate 16 0) 6, o8 (List.replicate 16 0) 7, o8 (List.replicate 16 0) 8, o8 (List.replicate 16 0) 9, o8 (List.replicate 16 0) 10, o8 (List.replicate 16 0) 11, o8 (List.replicate 16 0) 12, o8 (List.replicate 16 0) 13, o8 (List.replicate 16 0) 14, o8 (List.replicate 16 0) 15, vB false, o8 (List.replicate 16 0) 0, o8 (List.replicate 16 0) 1, o8 (List.replicate 16 0) 2, o8 (List.replicate 16 0) 3, o8 (List.replicate 16 0) 4, o8 (List.replicate 16 0) 5, o8 (List.replicate 16 0) 6, o8 (List.replicate 16 0) 7, o8 (List.replicate 16 0) 8, o8 (List.replicate 16 0) 9, o8 (List.replicate 16 0) 10, o8 (List.replicate 16 0) 11, o8 (List.replicate 16 0) 12, o8 (List.replicate 16 0) 13, o8 (List.replicate 16 0) 14, o8 (List.replicate 16 0) 15, v8 17, v16 port1, v16 53]) bt36 rfl (by kernel_rfl)) rfl ?_
 refine RL.val (O.bld (cs := [vB false, o8 (List.replicate 16 0) 0, o8 (List.replicate 16 0) 1, o8 (List.replicate 16 0) 2, o8 (List.replicate 16 0) 3, o8 (List.replicate 16 0) 4, o8 (List.replicate 16 0) 5, o8 (List.replicate 16 0) 6, o8 (List.replicate 16 0) 7, o8 (List.replicate 16 0) 8, o8 (List.replicate 16 0) 9, o8 (List.replicate 16 0) 10, o8 (List.replicate 16 0) 11, o8 (List.replicate 16 0) 12, o8 (List.replicate 16 0) 13, o8 (List.replicate 16 0) 14, o8 (List.replicate 16 0) 15, vB false, o8 (List.replicate 16 0) 0, o8 (List.replicate 16 0) 1, o8 (List.replicate 16 0) 2, o8 (List.replicate 16 0) 3, o8 (List.replicate 16 0) 4, o8 (List.replicate 16 0) 5, o8 (List.replicate 16 0) 6, o8 (List.replicate 16 0) 7, o8 (List.replicate 16 0) 8, o8 (List.replicate 16 0) 9, o8 (List.replicate 16 0) 10, o8 (List.replicate 16 0) 11, o8 (List.replicate 16 0) 12, o8 (List.replicate 16 0) 13, o8 (List.replicate 16 0) 14, o8 (List.replicate 16 0) 15, v8 17, v16 port1, v16 53, vI 40, v8 0, vB false]) bt38 rfl (by kernel_rfl)) rfl ?_
 refine RL.effs (E.stB (j := 0) (off := 0) (vs := [vB false, o8 (List.replicate 16 0) 0, o8 (List.replicate 16 0) 1, o8 (List.replicate 16 0) 2, o8 (List.replicate 16 0) 3, o8 (List.replicate 16 0) 4, o8 (List.replicate 16 0) 5, o8 (List.replicate 16 0) 6, o8 (List.replicate 16 0) 7, o8 (List.replicate 16 0) 8, o8 (List.replicate 16 0) 9, o8 (List.replicate 16 0) 10, o8 (List.replicate 16 0) 11, o8 (List.replicate 16 0) 12, o8 (List.replicate 16 0) 13, o8 (List.replicate 16 0) 14, o8 (List.replicate 16 0) 15, vB false, o8 (List.replicate 16 0) 0, o8 (List.replicate 16 0) 1, o8 (List.replicate 16 0) 2, o8 (List.replicate 16 0) 3, o8 (List.replicate 16 0) 4, o8 (List.replicate 16 0) 5, o8 (List.replicate 16 0) 6, o8 (List.replicate 16 0) 7, o8 (List.replicate 16 0) 8, o8 (List.replicate 16 0) 9, o8 (List.replicate 16 0) 10, o8 (List.replicate 16 0) 11, o8 (List.replicate 16 0) 12, o8 (List.replicate 16 0) 13, o8 (List.replicate 16 0) 14, o8 (List.replicate 16 0) 15, v8 17, v16 port1, v16 53, vI 40, v8 0, vB false]) (cs' := [vB false, o8 (List.replicate 16 0) 0, o8 (List.replicate 16 0) 1, o8 (List.replicate 16 0) 2, o8 (List.replicate 16 0) 3, o8 (List.replicate 16 0) 4, o8 (List.replicate 16 0) 5, o8 (List.replicate 16 0) 6, o8 (List.replicate 16 0) 7, o8 (List.replicate 16 0) 8, o8 (List.replicate 16 0) 9, o8 (List.replicate 16 0) 10, o8 (List.replicate 16 0) 11, o8 (List.replicate 16 0) 12, o8 (List.replicate 16 0) 13, o8 (List.replicate 16 0) 14, o8 (List.replicate 16 0) 15, vB false, o8 (List.replicate 16 0) 0, o8 (List.replicate 16 0) 1, o8 (List.replicate 16 0) 2, o8 (List.replicate 16 0) 3, o8 (List.replicate 16 0) 4, o8 (List.replicate 16 0) 5, o8 (List.replicate 16 0) 6, o8 (List.replicate 16 0) 7, o8 (List.replicate 16 0) 8, o8 (List.replicate 16 0) 9, o8 (List.replicate 16 0) 10, o8 (List.replicate 16 0) 11, o8 (List.replicate 16 0) 12, o8 (List.replicate 16 0) 13, o8 (List.replicate 16 0) 14, o8 (List.replicate 16 0) 15, v8 17, v16 port1, v16 53, vI 40, v8 0, vB false]) hM rfl sz38 rfl (adds_eq [] rfl) rfl rfl (One.all rfl) rfl rfl) fun w7 hM1 => ?_
 clear hM
 have hM := hM1
 clear hM1
 refine nt hQ6 ?_
 clear hQ6 Q6
 refine KC.ret ?_
 have hE := Option.some.inj hF
 clear hF
 subst hE
 have hb8 := hM.bx (i := 0) rfl
 replace hM := hM.pick [] rfl (by decide)
 refine KQ.rets Try.results23 (RVs.cons (RV.cN (cs := [vB false, o8 (List.replicate 16 0) 0, o8 (List.replicate 16 0) 1, o8 (List.replicate 16 0) 2, o8 (List.replicate 16 0) 3, o8 (List.replicate 16 0) 4, o8 (List.replicate 16 0) 5, o8 (List.replicate 16 0) 6, o8 (List.replicate 16 0) 7, o8 (List.replicate 16 0) 8, o8 (List.replicate 16 0) 9, o8 (List.replicate 16 0) 10, o8 (List.replicate 16 0) 11, o8 (List.replicate 16 0) 12, o8 (List.replicate 16 0) 13, o8 (List.replicate 16 0) 14, o8 (List.replicate 16 0) 15, vB false, o8 (List.replicate 16 0) 0, o8 (List.replicate 16 0) 1, o8 (List.replicate 16 0) 2, o8 (List.replicate 16 0) 3, o8 (List.replicate 16 0) 4, o8 (List.replicate 16 0) 5, o8 (List.replicate 16 0) 6, o8 (List.replicate 16 0) 7, o8 (List.replicate 16 0) 8, o8 (List.replicate 16 0) 9, o8 (List.replicate 16 0) 10, o8 (List.replicate 16 0) 11, o8 (List.replicate 16 0) 12, o8 (List.replicate 16 0) 13, o8 (List.replicate 16 0) 14, o8 (List.replicate 16 0) 15, v8 17, v16 port1, v16 53, vI 40, v8 0, vB false]) rfl ag38 hb8) RVs.nil) ?_
 exact ⟨_, rfl, rfl, hM⟩
set_option maxRecDepth 100000 in
set_option maxHeartbeats 40000000 in
theorem c_packet_ports (w : World) (proto1 : Int) (r : Bool) (hF : F_packet_ports proto1 = some r) :
  CallsR Try.prog 41 [v8 proto1] w (fun v w' => v = vB r ∧ Mem w [] w' []) := by
 refine calls_KC Try.func41 rfl Try.ntmps41 rfl ?_
 have hM := Mem.init w
 unfold F_packet_ports at hF
 refine sr fun Q2 hQ2 => ?_
 refine va rfl rfl ?_
 refine nt hQ2 ?_
 clear hQ2 Q2
 refine KC.cut (fun a w4 => ∃ (t3 : Bool), Kn 9 [(2, vB t3)] a ∧ Mem w [] w4 [] ∧ F_packet_ports_j1 t3 = some r) ?_ ?_
 ·refine KC.region ?_
  refine vm rfl rfl ?_
  refine RL.val (O.eql rfl rfl) rfl ?_
  refine vm rfl rfl ?_
  refine RL.bcase (t := 5) rfl (fun hc => ?_) (fun hc => ?_)
  ·rw [if_pos hc] at hF
   refine RL.gskip rfl rfl rfl rfl ?_
   refine RL.gskip rfl rfl rfl rfl ?_
   refine RL.val (O.pickt rfl rfl) rfl ?_
   refine va rfl rfl ?_
   refine RL.nil ?_
   refine KQ.then_k ?_
   exact fun a ha => ⟨true, ha.less (less_cons rfl less_nil), hM, hF⟩
  rw [if_neg (ne_true hc)] at hF
  refine RL.gval rfl rfl (O.move rfl) rfl ?_
  refine RL.gval rfl rfl (O.eql rfl rfl) rfl ?_
  refine RL.val (O.pickf rfl rfl) rfl ?_
  refine va rfl rfl ?_
  refine RL.nil ?_
  refine KQ.then_k ?_
  exact fun a ha => ⟨(proto1 == 17), ha.less (less_cons rfl less_nil), hM, hF⟩
 rintro a w4 ⟨t3, ha, hM, hF⟩
 refine KC.app ha ?_
 clear ha
 unfold F_packet_ports_j1 at hF
 refine KC.ret ?_
 have hE := Option.some.inj hF
 clear hF
 subst hE
 refine KQ.rets Try.results41 (RVs.cons (RV.tm rfl) RVs.nil) ?_
 exact ⟨_, rfl, rfl, hM⟩
set_option maxRecDepth 100000 in
set_option maxHeartbeats 40000000 in
theorem c_packet_icmp (w : World) (proto1 : Int) (r : Bool) (hF : F_packet_icmp proto1 = some r) :
  CallsR Try.prog 42 [v8 proto1] w (fun v w' => v = vB r ∧ Mem w [] w' []) := by
 refine calls_KC Try.func42 rfl Try.ntmps42 rfl ?_
 have hM := Mem.init w
 unfold F_packet_icmp at hF
 refine sr fun Q2 hQ2 => ?_
 refine va rfl rfl ?_
 refine nt hQ2 ?_
 clear hQ2 Q2
 refine KC.cut (fun a w4 => ∃ (t3 : Bool), Kn 9 [(2, vB t3)] a ∧ Mem w [] w4 [] ∧ F_packet_icmp_j1 t3 = some r) ?_ ?_
 ·refine KC.region ?_
  refine vm rfl rfl ?_
  refine RL.val (O.eql rfl rfl) rfl ?_
  refine vm rfl rfl ?_
  refine RL.bcase (t := 5) rfl (fun hc => ?_) (fun hc => ?_)
  ·rw [if_pos hc] at hF
   refine RL.gskip rfl rfl rfl rfl ?_
   refine RL.gskip rfl rfl rfl rfl ?_
   refine RL.val (O.pickt rfl rfl) rfl ?_
   refine va rfl rfl ?_
   refine RL.nil ?_
   refine KQ.then_k ?_
   exact fun a ha => ⟨true, ha.less (less_cons rfl less_nil), hM, hF⟩
  rw [if_neg (ne_true hc)] at hF
  refine RL.gval rfl rfl (O.move rfl) rfl ?_
  refine RL.gval rfl rfl (O.eql rfl rfl) rfl ?_
  refine RL.val (O.pickf rfl rfl) rfl ?_
  refine va rfl rfl ?_
  refine RL.nil ?_
  refine KQ.then_k ?_
  exact fun a ha => ⟨(proto1 == 58), ha.less (less_cons rfl less_nil), hM, hF⟩
 rintro a w4 ⟨t3, ha, hM, hF⟩
 refine KC.app ha ?_
 clear ha
 unfold F_packet_icmp_j1 at hF
 refine KC.ret ?_
 have hE := Option.some.inj hF
 clear hF
 subst hE
 refine KQ.rets Try.results42 (RVs.cons (RV.tm rfl) RVs.nil) ?_
 exact ⟨_, rfl, rfl, hM⟩
set_option maxRecDepth 100000 in
set_option maxHeartbeats 40000000 in
theorem c_addr_Addr_size (w : World) (av1 : T_addr_Addr) (r : Int) (hF : F_addr_Addr_size av1 = some r) :
  CallsR Try.prog 61 [.agg #[vB av1.f_Six, o8 av1.f_B 0, o8 av1.f_B 1, o8 av1.f_B 2, o8 av1.f_B 3, o8 av1.f_B 4, o8 av1.f_B 5, o8 av1.f_B 6, o8 av1.f_B 7, o8 av1.f_B 8, o8 av1.f_B 9, o8 av1.f_B 10, o8 av1.f_B 11, o8 av1.f_B 12, o8 av1.f_B 13, o8 av1.f_B 14, o8 av1.f_B 15]] w (fun v w' => v = vI r ∧ Mem w [] w' []) := by
 refine calls_KC Try.func61 rfl Try.ntmps61 rfl ?_
 have hM := Mem.init w
 unfold F_addr_Addr_size at hF
 refine sr fun Q2 hQ2 => ?_
 refine RL.eff (E.box (vs := [vB av1.f_Six, o8 av1.f_B 0, o8 av1.f_B 1, o8 av1.f_B 2, o8 av1.f_B 3, o8 av1.f_B 4, o8 av1.f_B 5, o8 av1.f_B 6, o8 av1.f_B 7, o8 av1.f_B 8, o8 av1.f_B 9, o8 av1.f_B 10, o8 av1.f_B 11, o8 av1.f_B 12, o8 av1.f_B 13, o8 av1.f_B 14, o8 av1.f_B 15]) hM rfl rfl) rfl fun v w4 hv => ?_
 clear hM
 obtain ⟨g3, rfl, hM, hf⟩ := hv
 refine va rfl rfl ?_
 refine nt hQ2 ?_
 clear hQ2 Q2
 refine KC.seqH fun Q6 hQ6 => ?_
 refine sr fun Q7 hQ7 => ?_
 refine RL.val (O.fldA fl33_0 (by decide) rfl) rfl ?_
 refine RL.val (O.load sc4 rfl (Cs.adds [0] ((hM.bx (i := 0) rfl)) rfl)) rfl ?_
 refine nt hQ7 ?_
 clear hQ7 Q7
 refine KC.cond rfl (fun hc => ?_) (fun hc => ?_)
 ·rw [if_pos hc] at hF
  refine sr fun Q8 hQ8 => ?_
  refine va rfl rfl ?_
  refine nt hQ8 ?_
  clear hQ8 Q8
  refine KC.ret ?_
  refine KQ.thr hQ6 ?_
  clear hQ6 Q6
  have hE := Option.some.inj hF
  clear hF
  subst hE
  replace hM := hM.pick [] rfl (by decide)
  refine KQ.rets Try.results61 (RVs.cons (RV.tm rfl) RVs.nil) ?_
  exact ⟨_, rfl, rfl, hM⟩
 rw [if_neg (ne_true hc)] at hF
 refine KC.skip ?_
 refine KQ.thn hQ6 ?_
 clear hQ6 Q6
 refine sr fun Q9 hQ9 => ?_
 refine va rfl rfl ?_
 refine nt hQ9 ?_
 clear hQ9 Q9
 refine KC.ret ?_
 have hE := Option.some.inj hF
 clear hF
 subst hE
 replace hM := hM.pick [] rfl (by decide)
 refine KQ.rets Try.results61 (RVs.cons (RV.tm rfl) RVs.nil) ?_
 exact ⟨_, rfl, rfl, hM⟩
set_option maxRecDepth 100000 in
set_option maxHeartbeats 40000000 in
theorem c_addr_Addr_Right (w : World) (av1 : T_addr_Addr) (r : Bool) (hF : F_addr_Addr_Right av1 = some r) :
  CallsR Try.prog 43 [.agg #[vB av1.f_Six, o8 av1.f_B 0, o8 av1.f_B 1, o8 av1.f_B 2, o8 av1.f_B 3, o8 av1.f_B 4, o8 av1.f_B 5, o8 av1.f_B 6, o8 av1.f_B 7, o8 av1.f_B 8, o8 av1.f_B 9, o8 av1.f_B 10, o8 av1.f_B 11, o8 av1.f_B 12, o8 av1.f_B 13, o8 av1.f_B 14, o8 av1.f_B 15]] w (fun v w' => v = vB r ∧ Mem w [] w' []) := by
 refine calls_KC Try.func43 rfl Try.ntmps43 rfl ?_
 have hM := Mem.init w
 unfold F_addr_Addr_Right at hF
 refine sr fun Q2 hQ2 => ?_
 refine RL.eff (E.box (vs := [vB av1.f_Six, o8 av1.f_B 0, o8 av1.f_B 1, o8 av1.f_B 2, o8 av1.f_B 3, o8 av1.f_B 4, o8 av1.f_B 5, o8 av1.f_B 6, o8 av1.f_B 7, o8 av1.f_B 8, o8 av1.f_B 9, o8 av1.f_B 10, o8 av1.f_B 11, o8 av1.f_B 12, o8 av1.f_B 13, o8 av1.f_B 14, o8 av1.f_B 15]) hM rfl rfl) rfl fun v w4 hv => ?_
 clear hM
 obtain ⟨g3, rfl, hM, hf⟩ := hv
 refine va rfl rfl ?_
 refine nt hQ2 ?_
 clear hQ2 Q2
 refine sr fun Q6 hQ6 => ?_
 refine RL.eff (E.alloc hM ze31) rfl fun v w8 hv => ?_
 clear hM
 obtain ⟨g7, rfl, hM, hf⟩ := hv
 refine nt hQ6 ?_
 clear hQ6 Q6
 refine KC.seqH fun Q10 hQ10 => ?_
 replace hM := hM.drewN 1
 refine KC.draw [] [5] [1, 5] [2, 3, 4] (.ofList [0, 3, 4, 1, 2, 5]) moP (by kernel_rfl) ?_
 refine RD.q rfl rfl rfl rfl (fun w' hf => O.loadN (cs := [vB av1.f_Six, o8 av1.f_B 0, o8 av1.f_B 1, o8 av1.f_B 2, o8 av1.f_B 3, o8 av1.f_B 4, o8 av1.f_B 5, o8 av1.f_B 6, o8 av1.f_B 7, o8 av1.f_B 8, o8 av1.f_B 9, o8 av1.f_B 10, o8 av1.f_B 11, o8 av1.f_B 12, o8 av1.f_B 13, o8 av1.f_B 14, o8 av1.f_B 15]) ag33 rfl (Cs.addsN [] ((hM.bx (i := 0) rfl).fut hf) rfl)) ?_
 refine RD.p rfl rfl rfl rfl (fun w' => O.fldA fl33_1 (by decide) rfl) ?_
 have hr11 := Rd.arr (n := 16) (k := .u8) (xs := av1.f_B) (Cs.addsN [1] (hM.bx (i := 0) rfl) rfl) rfl rfl
 refine RD.p rfl rfl rfl rfl (fun w' => O.slArr (xs := av1.f_B) Try.underlying31 sz5 rfl rfl) ?_
 refine obindE hF fun y12 hx13 hF => ?_
 refine RD.mcall rfl rfl trivial Try.func61 bd61 rfl rfl (c_addr_Addr_size _ av1 _ hx13) fun v w14 hv => ?_
 obtain ⟨rfl, hN15⟩ := hv
 refine ⟨fun _ => hN15.fut, ?_⟩
 have hr11 := hr11.fut hN15.fut
 replace hM := hM.call0 hN15
 refine obindE hF fun cut17 hy18 hF => ?_
 have hr16 := Rd.arrTo (n := 16) (k := .u8) (xs := (List.replicate 16 0)) (Cs.addsN [] (hM.bx (i := 1) rfl) rfl) rfl rfl hy18
 refine RD.p rfl rfl rfl rfl (fun w' => O.slArrTo Try.underlying31 sz5 rfl hy18 rfl rfl) ?_
 refine RD.meff rfl rfl (E.copyA (k := .u8) (n := 16) (j := 1) (xs := (List.replicate 16 0)) (ys := (arrL 16 av1.f_B)) hM rfl sl113 rfl (arr_cut_le hy18) rfl hr11) rfl fun v w19 hv => ?_
 clear hM
 obtain ⟨rfl, hM⟩ := hv
 refine ⟨fun h => (by cases h), ?_⟩
 have hr11 := Rd.arr (n := 16) (k := .u8) (xs := av1.f_B) (Cs.addsN [1] (hM.bx (i := 0) rfl) rfl) rfl rfl
 refine RD.nil ?_
 refine KQ.thn hQ10 ?_
 clear hQ10 Q10
 refine sr fun Q20 hQ20 => ?_
 refine RL.val (O.fldA fl33_1 (by decide) rfl) rfl ?_
 refine RL.val (O.loadN (cs := [o8 av1.f_B 0, o8 av1.f_B 1, o8 av1.f_B 2, o8 av1.f_B 3, o8 av1.f_B 4, o8 av1.f_B 5, o8 av1.f_B 6, o8 av1.f_B 7, o8 av1.f_B 8, o8 av1.f_B 9, o8 av1.f_B 10, o8 av1.f_B 11, o8 av1.f_B 12, o8 av1.f_B 13, o8 av1.f_B 14, o8 av1.f_B 15]) ag31 rfl (Cs.addsN [1] ((hM.bx (i := 0) rfl)) rfl)) rfl ?_
 refine RL.val (O.loadN (cs := [o8 (cpA 16 (Nat.min (arrL 16 av1.f_B).length cut17.length) (List.replicate 16 0) (arrL 16 av1.f_B)) 0, o8 (cpA 16 (Nat.min (arrL 16 av1.f_B).length cut17.length) (List.replicate 16 0) (arrL 16 av1.f_B)) 1, o8 (cpA 16 (Nat.min (arrL 16 av1.f_B).length cut17.length) (List.replicate 16 0) (arrL 16 av1.f_B)) 2, o8 (cpA 16 (Nat.min (arrL 16 av1.f_B).length cut17.length) (List.replicate 16 0) (arrL 16 av1.f_B)) 3, o8 (cpA 16 (Nat.min (arrL 16 av1.f_B).length cut17.length) (List.replicate 16 0) (arrL 16 av1.f_B)) 4, o8 (cpA 16 (Nat.min (arrL 16 av1.f_B).length cut17.length) (List.replicate 16 0) (arrL 16 av1.f_B)) 5, o8 (cpA 16 (Nat.min (arrL 16 av1.f_B).length cut17.length) (List.replicate 16 0) (arrL 16 av1.f_B)) 6, o8 (cpA 16 (Nat.min (arrL 16 av1.f_B).length cut17.length) (List.replicate 16 0) (arrL 16 av1.f_B)) 7, o8 (cpA 16 (Nat.min (arrL 16 av1.f_B).length cut17.length) (List.replicate 16 0) (arrL 16 av1.f_B)) 8, o8 (cpA 16 (Nat.min (arrL 16 av1.f_B).length cut17.length) (List.replicate 16 0) (arrL 16 av1.f_B)) 9, o8 (cpA 16 (Nat.min (arrL 16 av1.f_B).length cut17.length) (List.replicate 16 0) (arrL 16 av1.f_B)) 10, o8 (cpA 16 (Nat.min (arrL 16 av1.f_B).length cut17.length) (List.replicate 16 0) (arrL 16 av1.f_B)) 11, o8 (cpA 16 (Nat.min (arrL 16 av1.f_B).length cut17.length) (List.replicate 16 0) (arrL 16 av1.f_B)) 12, o8 (cpA 16 (Nat.min (arrL 16 av1.f_B).length cut17.length) (List.replicate 16 0) (arrL 16 av1.f_B)) 13, o8 (cpA 16 (Nat.min (arrL 16 av1.f_B).length cut17.length) (List.replicate 16 0) (arrL 16 av1.f_B)) 14, o8 (cpA 16 (Nat.min (arrL 16 av1.f_B).length cut17.length) (List.replicate 16 0) (arrL 16 av1.f_B)) 15]) ag31 rfl (Cs.addsN [] ((hM.bx (i := 1) rfl)) rfl)) rfl ?_
 refine RL.val (O.steq (cs := [o8 av1.f_B 0, o8 av1.f_B 1, o8 av1.f_B 2, o8 av1.f_B 3, o8 av1.f_B 4, o8 av1.f_B 5, o8 av1.f_B 6, o8 av1.f_B 7, o8 av1.f_B 8, o8 av1.f_B 9, o8 av1.f_B 10, o8 av1.f_B 11, o8 av1.f_B 12, o8 av1.f_B 13, o8 av1.f_B 14, o8 av1.f_B 15]) (cs' := [o8 (cpA 16 (Nat.min (arrL 16 av1.f_B).length cut17.length) (List.replicate 16 0) (arrL 16 av1.f_B)) 0, o8 (cpA 16 (Nat.min (arrL 16 av1.f_B).length cut17.length) (List.replicate 16 0) (arrL 16 av1.f_B)) 1, o8 (cpA 16 (Nat.min (arrL 16 av1.f_B).length cut17.length) (List.replicate 16 0) (arrL 16 av1.f_B)) 2, o8 (cpA 16 (Nat.min (arrL 16 av1.f_B).length cut17.length) (List.replicate 16 0) (arrL 16 av1.f_B)) 3, o8 (cpA 16 (Nat.min (arrL 16 av1.f_B).length cut17.length) (List.replicate 16 0) (arrL 16 av1.f_B)) 4, o8 (cpA 16 (Nat.min (arrL 16 av1.f_B).length cut17.length) (List.replicate 16 0) (arrL 16 av1.f_B)) 5, o8 (cpA 16 (Nat.min (arrL 16 av1.f_B).length cut17.length) (List.replicate 16 0) (arrL 16 av1.f_B)) 6, o8 (cpA 16 (Nat.min (arrL 16 av1.f_B).length cut17.length) (List.replicate 16 0) (arrL 16 av1.f_B)) 7, o8 (cpA 16 (Nat.min (arrL 16 av1.f_B).length cut17.length) (List.replicate 16 0) (arrL 16 av1.f_B)) 8, o8 (cpA 16 (Nat.min (arrL 16 av1.f_B).length cut17.length) (List.replicate 16 0) (arrL 16 av1.f_B)) 9, o8 (cpA 16 (Nat.min (arrL 16 av1.f_B).length cut17.length) (List.replicate 16 0) (arrL 16 av1.f_B)) 10, o8 (cpA 16 (Nat.min (arrL 16 av1.f_B).length cut17.length) (List.replicate 16 0) (arrL 16 av1.f_B)) 11, o8 (cpA 16 (Nat.min (arrL 16 av1.f_B).length cut17.length) (List.replicate 16 0) (arrL 16 av1.f_B)) 12, o8 (cpA 16 (Nat.min (arrL 16 av1.f_B).length cut17.length) (List.replicate 16 0) (arrL 16 av1.f_B)) 13, o8 (cpA 16 (Nat.min (arrL 16 av1.f_B).length cut17.length) (List.replicate 16 0) (arrL 16 av1.f_B)) 14, o8 (cpA 16 (Nat.min (arrL 16 av1.f_B).length cut17.length) (List.replicate 16 0) (arrL 16 av1.f_B)) 15]) (by kernel_rfl) rfl rfl (eqArrT Try.underlying31 Try.underlying5 sz5 av1.f_B (cpA 16 (Nat.min (arrL 16 av1.f_B).length cut17.length) (List.replicate 16 0) (arrL 16 av1.f_B)) _ rfl rfl)) rfl ?_
 refine va rfl rfl ?_
 refine nt hQ20 ?_
 clear hQ20 Q20
 refine KC.ret ?_
 have hE := Option.some.inj hF
 clear hF
 subst hE
 replace hM := hM.pick [] rfl (by decide)
 refine KQ.rets Try.results43 (RVs.cons (RV.tm rfl) RVs.nil) ?_
 exact ⟨_, rfl, rfl, hM⟩
end Go.Proofs.Ytkpnocgfhipidaa
