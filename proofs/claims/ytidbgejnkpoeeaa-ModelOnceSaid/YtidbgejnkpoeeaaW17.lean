/- Printed by a program of this claim: each call returns what the plain function of its name gives. -/
import Derived.Test.YtidbgejnkpoeeaaW1
import Derived.Test.YtidbgejnkpoeeaaW2
import Derived.Test.YtidbgejnkpoeeaaW14
import Derived.Test.YtidbgejnkpoeeaaW15
import Derived.Test.YtidbgejnkpoeeaaW16
set_option linter.unusedVariables false
namespace Go.Proofs.Ytidbgejnkpoeeaa
open Go Go.Ox Go.RowKit
set_option maxRecDepth 100000 in
set_option maxHeartbeats 40000000 in
theorem c_law30_works (w : World) (r : Bool) (hF : F_law30_works = some r) :
  CallsR Try.prog 6 [] w (fun v w' => v = vB r ∧ Mem w [] w' []) := by
 refine calls_KC Try.func6 rfl Try.ntmps6 rfl ?_
 have hM := Mem.init w
 unfold F_law30_works at hF
 refine sr fun Q1 hQ1 => ?_
 refine va rfl rfl ?_
 refine nt hQ1 ?_
 clear hQ1 Q1
 refine sr fun Q2 hQ2 => ?_
 refine obindE hF fun y3 hx4 hF => ?_
 refine RL.call Try.func7 bd7 rfl rfl (c_model_New _ _ hx4) fun v w5 hv => ?_
 obtain ⟨g7, g9, g11, g13, A15, c16, css18, Z19, A21, c22, rfl, hN6⟩ := hv
 replace hM := hM.call hN6
 refine va rfl rfl ?_
 refine nt hQ2 ?_
 clear hQ2 Q2
 refine sr fun Q24 hQ24 => ?_
 refine obindE hF fun y25 hx26 hF => ?_
 refine RL.call Try.func17 bd17 rfl rfl (c_law30_key _ 1 _ hx26) fun v w27 hv => ?_
 obtain ⟨rfl, hN28⟩ := hv
 replace hM := hM.call0 hN28
 refine RL.eff (E.alloc hM ze34) rfl fun v w30 hv => ?_
 clear hM
 obtain ⟨g29, rfl, hM, hf⟩ := hv
 refine RL.effs (E.stB (j := 7) (off := 0) (vs := [vB y25.f_Src.f_Six, o8 y25.f_Src.f_B 0, o8 y25.f_Src.f_B 1, o8 y25.f_Src.f_B 2, o8 y25.f_Src.f_B 3, o8 y25.f_Src.f_B 4, o8 y25.f_Src.f_B 5, o8 y25.f_Src.f_B 6, o8 y25.f_Src.f_B 7, o8 y25.f_Src.f_B 8, o8 y25.f_Src.f_B 9, o8 y25.f_Src.f_B 10, o8 y25.f_Src.f_B 11, o8 y25.f_Src.f_B 12, o8 y25.f_Src.f_B 13, o8 y25.f_Src.f_B 14, o8 y25.f_Src.f_B 15, vB y25.f_Dst.f_Six, o8 y25.f_Dst.f_B 0, o8 y25.f_Dst.f_B 1, o8 y25.f_Dst.f_B 2, o8 y25.f_Dst.f_B 3, o8 y25.f_Dst.f_B 4, o8 y25.f_Dst.f_B 5, o8 y25.f_Dst.f_B 6, o8 y25.f_Dst.f_B 7, o8 y25.f_Dst.f_B 8, o8 y25.f_Dst.f_B 9, o8 y25.f_Dst.f_B 10, o8 y25.f_Dst.f_B 11, o8 y25.f_Dst.f_B 12, o8 y25.f_Dst.f_B 13, o8 y25.f_Dst.f_B 14, o8 y25.f_Dst.f_B 15, v8 y25.f_Proto, v16 y25.f_SrcPort, v16 y25.f_DstPort]) (cs' := [vB y25.f_Src.f_Six, o8 y25.f_Src.f_B 0, o8 y25.f_Src.f_B 1, o8 y25.f_Src.f_B 2, o8 y25.f_Src.f_B 3, o8 y25.f_Src.f_B 4, o8 y25.f_Src.f_B 5, o8 y25.f_Src.f_B 6, o8 y25.f_Src.f_B 7, o8 y25.f_Src.f_B 8, o8 y25.f_Src.f_B 9, o8 y25.f_Src.f_B 10, o8 y25.f_Src.f_B 11, o8 y25.f_Src.f_B 12, o8 y25.f_Src.f_B 13, o8 y25.f_Src.f_B 14, o8 y25.f_Src.f_B 15, vB y25.f_Dst.f_Six, o8 y25.f_Dst.f_B 0, o8 y25.f_Dst.f_B 1, o8 y25.f_Dst.f_B 2, o8 y25.f_Dst.f_B 3, o8 y25.f_Dst.f_B 4, o8 y25.f_Dst.f_B 5, o8 y25.f_Dst.f_B 6, o8 y25.f_Dst.f_B 7, o8 y25.f_Dst.f_B 8, o8 y25.f_Dst.f_B 9, o8 y25.f_Dst.f_B 10, o8 y25.f_Dst.f_B 11, o8 y25.f_Dst.f_B 12, o8 y25.f_Dst.f_B 13, o8 y25.f_Dst.f_B 14, o8 y25.f_Dst.f_B 15, v8 y25.f_Proto, v16 y25.f_SrcPort, v16 y25.f_DstPort]) hM rfl sz34 rfl (adds_eq [] rfl) rfl rfl (One.all rfl) rfl rfl) fun w32 hM1 => ?_
 clear hM
 have hM := hM1
 clear hM1
 refine nt hQ24 ?_
 clear hQ24 Q24
 refine sr fun Q33 hQ33 => ?_
 refine vm rfl rfl ?_
 refine RL.val (O.bld (cs := [vI 7, vB false, o8 (List.replicate 16 0) 0, o8 (List.replicate 16 0) 1, o8 (List.replicate 16 0) 2, o8 (List.replicate 16 0) 3, o8 (List.replicate 16 0) 4, o8 (List.replicate 16 0) 5, o8 (List.replicate 16 0) 6, o8 (List.replicate 16 0) 7, o8 (List.replicate 16 0) 8, o8 (List.replicate 16 0) 9, o8 (List.replicate 16 0) 10, o8 (List.replicate 16 0) 11, o8 (List.replicate 16 0) 12, o8 (List.replicate 16 0) 13, o8 (List.replicate 16 0) 14, o8 (List.replicate 16 0) 15, vB false, o8 (List.replicate 16 0) 0, o8 (List.replicate 16 0) 1, o8 (List.replicate 16 0) 2, o8 (List.replicate 16 0) 3, o8 (List.replicate 16 0) 4, o8 (List.replicate 16 0) 5, o8 (List.replicate 16 0) 6, o8 (List.replicate 16 0) 7, o8 (List.replicate 16 0) 8, o8 (List.replicate 16 0) 9, o8 (List.replicate 16 0) 10, o8 (List.replicate 16 0) 11, o8 (List.replicate 16 0) 12, o8 (List.replicate 16 0) 13, o8 (List.replicate 16 0) 14, o8 (List.replicate 16 0) 15, v8 0, v16 0, v16 0, v64 0, v64 0, .slice none 0 0, v32 1, v64 0, v64 0, v64 0]) bt41 rfl (by kernel_rfl)) rfl ?_
 refine obindE hF fun y34 hx35 hF => ?_
 refine RL.call Try.func8 bd8 rfl rfl (c_model_Model_Step _ _ _ y3 _ _ _ _ _ _ _ _ _ (hM.lent [0, 1, 2, 3, 4, 5, 6] rfl (by decide)) (T_model_Note.mk 7 (T_packet_Key.mk (T_addr_Addr.mk false (List.replicate 16 0)) (T_addr_Addr.mk false (List.replicate 16 0)) 0 0 0) (T_flow_Total.mk 0 0) ([]) 1 0 0 0) none 0 Rd.nilr Off.zero _ hx35) fun v w36 hv => ?_
 obtain ⟨g38, g40, g42, A44, c45, css47, Z48, A50, c51, rfl, hN37⟩ := hv
 replace hM := hM.callL [0, 1, 2, 3, 4, 5, 6] [7] rfl rfl (by decide) rfl hN37
 refine va rfl rfl ?_
 refine nt hQ33 ?_
 clear hQ33 Q33
 refine sr fun Q53 hQ53 => ?_
 refine vm rfl rfl ?_
 refine RL.val (O.loadN (cs := [vB y25.f_Src.f_Six, o8 y25.f_Src.f_B 0, o8 y25.f_Src.f_B 1, o8 y25.f_Src.f_B 2, o8 y25.f_Src.f_B 3, o8 y25.f_Src.f_B 4, o8 y25.f_Src.f_B 5, o8 y25.f_Src.f_B 6, o8 y25.f_Src.f_B 7, o8 y25.f_Src.f_B 8, o8 y25.f_Src.f_B 9, o8 y25.f_Src.f_B 10, o8 y25.f_Src.f_B 11, o8 y25.f_Src.f_B 12, o8 y25.f_Src.f_B 13, o8 y25.f_Src.f_B 14, o8 y25.f_Src.f_B 15, vB y25.f_Dst.f_Six, o8 y25.f_Dst.f_B 0, o8 y25.f_Dst.f_B 1, o8 y25.f_Dst.f_B 2, o8 y25.f_Dst.f_B 3, o8 y25.f_Dst.f_B 4, o8 y25.f_Dst.f_B 5, o8 y25.f_Dst.f_B 6, o8 y25.f_Dst.f_B 7, o8 y25.f_Dst.f_B 8, o8 y25.f_Dst.f_B 9, o8 y25.f_Dst.f_B 10, o8 y25.f_Dst.f_B 11, o8 y25.f_Dst.f_B 12, o8 y25.f_Dst.f_B 13, o8 y25.f_Dst.f_B 14, o8 y25.f_Dst.f_B 15, v8 y25.f_Proto, v16 y25.f_SrcPort, v16 y25.f_DstPort]) ag34 rfl (Cs.addsN [] ((hM.bx (i := 0) rfl)) rfl)) rfl ?_
 refine RL.val (O.bld (cs := [v64 1, v64 100]) bt37 rfl (by kernel_rfl)) rfl ?_
 refine RL.val (O.bld (cs := [vI 1, vB y25.f_Src.f_Six, o8 y25.f_Src.f_B 0, o8 y25.f_Src.f_B 1, o8 y25.f_Src.f_B 2, o8 y25.f_Src.f_B 3, o8 y25.f_Src.f_B 4, o8 y25.f_Src.f_B 5, o8 y25.f_Src.f_B 6, o8 y25.f_Src.f_B 7, o8 y25.f_Src.f_B 8, o8 y25.f_Src.f_B 9, o8 y25.f_Src.f_B 10, o8 y25.f_Src.f_B 11, o8 y25.f_Src.f_B 12, o8 y25.f_Src.f_B 13, o8 y25.f_Src.f_B 14, o8 y25.f_Src.f_B 15, vB y25.f_Dst.f_Six, o8 y25.f_Dst.f_B 0, o8 y25.f_Dst.f_B 1, o8 y25.f_Dst.f_B 2, o8 y25.f_Dst.f_B 3, o8 y25.f_Dst.f_B 4, o8 y25.f_Dst.f_B 5, o8 y25.f_Dst.f_B 6, o8 y25.f_Dst.f_B 7, o8 y25.f_Dst.f_B 8, o8 y25.f_Dst.f_B 9, o8 y25.f_Dst.f_B 10, o8 y25.f_Dst.f_B 11, o8 y25.f_Dst.f_B 12, o8 y25.f_Dst.f_B 13, o8 y25.f_Dst.f_B 14, o8 y25.f_Dst.f_B 15, v8 y25.f_Proto, v16 y25.f_SrcPort, v16 y25.f_DstPort, v64 1, v64 100, .slice none 0 0, v32 0, v64 0, v64 0, v64 0]) bt41 rfl (by kernel_rfl)) rfl ?_
 refine obindE hF fun y54 hx55 hF => ?_
 refine RL.call Try.func8 bd8 rfl rfl (c_model_Model_Step _ _ _ y34.2 _ _ _ _ _ _ _ _ _ (hM.lent [1, 2, 3, 4, 5, 6, 7] rfl (by decide)) (T_model_Note.mk 1 y25 (T_flow_Total.mk 1 100) ([]) 0 0 0 0) none 0 Rd.nilr Off.zero _ hx55) fun v w56 hv => ?_
 obtain ⟨g58, g60, g62, A64, c65, css67, Z68, A70, c71, rfl, hN57⟩ := hv
 replace hM := hM.callL [1, 2, 3, 4, 5, 6, 7] [0] rfl rfl (by decide) rfl hN57
 refine va rfl rfl ?_
 refine nt hQ53 ?_
 clear hQ53 Q53
 refine sr fun Q73 hQ73 => ?_
 refine vm rfl rfl ?_
 refine RL.val (O.loadN (cs := [vB y25.f_Src.f_Six, o8 y25.f_Src.f_B 0, o8 y25.f_Src.f_B 1, o8 y25.f_Src.f_B 2, o8 y25.f_Src.f_B 3, o8 y25.f_Src.f_B 4, o8 y25.f_Src.f_B 5, o8 y25.f_Src.f_B 6, o8 y25.f_Src.f_B 7, o8 y25.f_Src.f_B 8, o8 y25.f_Src.f_B 9, o8 y25.f_Src.f_B 10, o8 y25.f_Src.f_B 11, o8 y25.f_Src.f_B 12, o8 y25.f_Src.f_B 13, o8 y25.f_Src.f_B 14, o8 y25.f_Src.f_B 15, vB y25.f_Dst.f_Six, o8 y25.f_Dst.f_B 0, o8 y25.f_Dst.f_B 1, o8 y25.f_Dst.f_B 2, o8 y25.f_Dst.f_B 3, o8 y25.f_Dst.f_B 4, o8 y25.f_Dst.f_B 5, o8 y25.f_Dst.f_B 6, o8 y25.f_Dst.f_B 7, o8 y25.f_Dst.f_B 8, o8 y25.f_Dst.f_B 9, o8 y25.f_Dst.f_B 10, o8 y25.f_Dst.f_B 11, o8 y25.f_Dst.f_B 12, o8 y25.f_Dst.f_B 13, o8 y25.f_Dst.f_B 14, o8 y25.f_Dst.f_B 15, v8 y25.f_Proto, v16 y25.f_SrcPort, v16 y25.f_DstPort]) ag34 rfl (Cs.addsN [] ((hM.bx (i := 0) rfl)) rfl)) rfl ?_
 refine obindE hF fun y74 hx75 hF => ?_
 refine RL.call Try.func14 bd14 rfl rfl (c_model_Model_Of _ y54.2 _ (hM.mapR (i := 2) rfl) _ (hM.mapR (i := 3) rfl) _ (hM.mapR (i := 4) rfl) _ _ (hM.rdD (i := 5) (j := 6) uo_model_Entry rfl rfl) _ _ (hM.rd (i := 7) rfl) _ (hM.bx (i := 1) rfl) y25 _ hx75) fun v w76 hv => ?_
 obtain ⟨rfl, hN77⟩ := hv
 replace hM := hM.call0 hN77
 refine RL.eff (E.alloc hM ze54) rfl fun v w79 hv => ?_
 clear hM
 obtain ⟨g78, rfl, hM, hf⟩ := hv
 refine RL.effs (E.stB (j := 8) (off := 0) (vs := [v64 y74.f_Forwarded.f_Packets, v64 y74.f_Forwarded.f_Bytes, v64 y74.f_Cached.f_Packets, v64 y74.f_Cached.f_Bytes, v64 y74.f_Volatile.f_Packets, v64 y74.f_Volatile.f_Bytes, v64 y74.f_Durable.f_Packets, v64 y74.f_Durable.f_Bytes, v64 y74.f_Lost.f_Packets, v64 y74.f_Lost.f_Bytes, v64 y74.f_Credited.f_Packets, v64 y74.f_Credited.f_Bytes]) (cs' := [v64 y74.f_Forwarded.f_Packets, v64 y74.f_Forwarded.f_Bytes, v64 y74.f_Cached.f_Packets, v64 y74.f_Cached.f_Bytes, v64 y74.f_Volatile.f_Packets, v64 y74.f_Volatile.f_Bytes, v64 y74.f_Durable.f_Packets, v64 y74.f_Durable.f_Bytes, v64 y74.f_Lost.f_Packets, v64 y74.f_Lost.f_Bytes, v64 y74.f_Credited.f_Packets, v64 y74.f_Credited.f_Bytes]) hM rfl sz54 rfl (adds_eq [] rfl) rfl rfl (One.all rfl) rfl rfl) fun w81 hM1 => ?_
 clear hM
 have hM := hM1
 clear hM1
 refine nt hQ73 ?_
 clear hQ73 Q73
 refine sr fun Q82 hQ82 => ?_
 refine vm rfl rfl ?_
 refine RL.val (O.loadN (cs := [vB y25.f_Src.f_Six, o8 y25.f_Src.f_B 0, o8 y25.f_Src.f_B 1, o8 y25.f_Src.f_B 2, o8 y25.f_Src.f_B 3, o8 y25.f_Src.f_B 4, o8 y25.f_Src.f_B 5, o8 y25.f_Src.f_B 6, o8 y25.f_Src.f_B 7, o8 y25.f_Src.f_B 8, o8 y25.f_Src.f_B 9, o8 y25.f_Src.f_B 10, o8 y25.f_Src.f_B 11, o8 y25.f_Src.f_B 12, o8 y25.f_Src.f_B 13, o8 y25.f_Src.f_B 14, o8 y25.f_Src.f_B 15, vB y25.f_Dst.f_Six, o8 y25.f_Dst.f_B 0, o8 y25.f_Dst.f_B 1, o8 y25.f_Dst.f_B 2, o8 y25.f_Dst.f_B 3, o8 y25.f_Dst.f_B 4, o8 y25.f_Dst.f_B 5, o8 y25.f_Dst.f_B 6, o8 y25.f_Dst.f_B 7, o8 y25.f_Dst.f_B 8, o8 y25.f_Dst.f_B 9, o8 y25.f_Dst.f_B 10, o8 y25.f_Dst.f_B 11, o8 y25.f_Dst.f_B 12, o8 y25.f_Dst.f_B 13, o8 y25.f_Dst.f_B 14, o8 y25.f_Dst.f_B 15, v8 y25.f_Proto, v16 y25.f_SrcPort, v16 y25.f_DstPort]) ag34 rfl (Cs.addsN [] ((hM.bx (i := 0) rfl)) rfl)) rfl ?_
 refine obindE hF fun y83 hx84 hF => ?_
 refine RL.call Try.func18 bd18 rfl rfl (c_law30_record _ y25 1 100 _ hx84) fun v w85 hv => ?_
 obtain ⟨rfl, hN86⟩ := hv
 replace hM := hM.call0 hN86
 refine RL.eff (E.bsl (enc := e_flow_Record) (xs := ([y83] : List T_flow_Record)) hM sl38 ze50 rfl rfl rfl (fun _ => rfl) rfl (by kernel_rfl) rfl) rfl fun v w87 hv => ?_
 clear hM
 obtain ⟨A88, rfl, hM, hf⟩ := hv
 refine RL.val (O.bld (cs := [vI 2, vB false, o8 (List.replicate 16 0) 0, o8 (List.replicate 16 0) 1, o8 (List.replicate 16 0) 2, o8 (List.replicate 16 0) 3, o8 (List.replicate 16 0) 4, o8 (List.replicate 16 0) 5, o8 (List.replicate 16 0) 6, o8 (List.replicate 16 0) 7, o8 (List.replicate 16 0) 8, o8 (List.replicate 16 0) 9, o8 (List.replicate 16 0) 10, o8 (List.replicate 16 0) 11, o8 (List.replicate 16 0) 12, o8 (List.replicate 16 0) 13, o8 (List.replicate 16 0) 14, o8 (List.replicate 16 0) 15, vB false, o8 (List.replicate 16 0) 0, o8 (List.replicate 16 0) 1, o8 (List.replicate 16 0) 2, o8 (List.replicate 16 0) 3, o8 (List.replicate 16 0) 4, o8 (List.replicate 16 0) 5, o8 (List.replicate 16 0) 6, o8 (List.replicate 16 0) 7, o8 (List.replicate 16 0) 8, o8 (List.replicate 16 0) 9, o8 (List.replicate 16 0) 10, o8 (List.replicate 16 0) 11, o8 (List.replicate 16 0) 12, o8 (List.replicate 16 0) 13, o8 (List.replicate 16 0) 14, o8 (List.replicate 16 0) 15, v8 0, v16 0, v16 0, v64 0, v64 0, .slice A88 (([y83] : List T_flow_Record)).length 1, v32 1, v64 0, v64 0, v64 0]) bt41 rfl (by kernel_rfl)) rfl ?_
 refine obindE hF fun y90 hx91 hF => ?_
 refine RL.call Try.func8 bd8 rfl rfl (c_model_Model_Step _ _ _ y54.2 _ _ _ _ _ _ _ _ _ (hM.lent [1, 2, 3, 4, 5, 6, 7] rfl (by decide)) (T_model_Note.mk 2 (T_packet_Key.mk (T_addr_Addr.mk false (List.replicate 16 0)) (T_addr_Addr.mk false (List.replicate 16 0)) 0 0 0) (T_flow_Total.mk 0 0) ([y83] : List T_flow_Record) 1 0 0 0) _ _ (hM.rd (i := 9) rfl) (hM.offR [1, 2, 3, 4, 5, 6, 7] rfl (i := 9) rfl rfl) _ hx91) fun v w92 hv => ?_
 obtain ⟨g94, g96, g98, A100, c101, css103, Z104, A106, c107, rfl, hN93⟩ := hv
 replace hM := hM.callL [1, 2, 3, 4, 5, 6, 7] [0, 8, 9] rfl rfl (by decide) rfl hN93
 refine va rfl rfl ?_
 refine nt hQ82 ?_
 clear hQ82 Q82
 replace hM := hM.pick [0, 1, 3, 4, 5, 6, 7, 8, 9] rfl (by decide)
 refine sr fun Q109 hQ109 => ?_
 refine vm rfl rfl ?_
 refine RL.val (O.loadN (cs := [vB y25.f_Src.f_Six, o8 y25.f_Src.f_B 0, o8 y25.f_Src.f_B 1, o8 y25.f_Src.f_B 2, o8 y25.f_Src.f_B 3, o8 y25.f_Src.f_B 4, o8 y25.f_Src.f_B 5, o8 y25.f_Src.f_B 6, o8 y25.f_Src.f_B 7, o8 y25.f_Src.f_B 8, o8 y25.f_Src.f_B 9, o8 y25.f_Src.f_B 10, o8 y25.f_Src.f_B 11, o8 y25.f_Src.f_B 12, o8 y25.f_Src.f_B 13, o8 y25.f_Src.f_B 14, o8 y25.f_Src.f_B 15, vB y25.f_Dst.f_Six, o8 y25.f_Dst.f_B 0, o8 y25.f_Dst.f_B 1, o8 y25.f_Dst.f_B 2, o8 y25.f_Dst.f_B 3, o8 y25.f_Dst.f_B 4, o8 y25.f_Dst.f_B 5, o8 y25.f_Dst.f_B 6, o8 y25.f_Dst.f_B 7, o8 y25.f_Dst.f_B 8, o8 y25.f_Dst.f_B 9, o8 y25.f_Dst.f_B 10, o8 y25.f_Dst.f_B 11, o8 y25.f_Dst.f_B 12, o8 y25.f_Dst.f_B 13, o8 y25.f_Dst.f_B 14, o8 y25.f_Dst.f_B 15, v8 y25.f_Proto, v16 y25.f_SrcPort, v16 y25.f_DstPort]) ag34 rfl (Cs.addsN [] ((hM.bx (i := 0) rfl)) rfl)) rfl ?_
 refine obindE hF fun y110 hx111 hF => ?_
 refine RL.call Try.func14 bd14 rfl rfl (c_model_Model_Of _ y90.2 _ (hM.mapR (i := 3) rfl) _ (hM.mapR (i := 4) rfl) _ (hM.mapR (i := 5) rfl) _ _ (hM.rdD (i := 6) (j := 7) uo_model_Entry rfl rfl) _ _ (hM.rd (i := 8) rfl) _ (hM.bx (i := 2) rfl) y25 _ hx111) fun v w112 hv => ?_
 obtain ⟨rfl, hN113⟩ := hv
 replace hM := hM.call0 hN113
 refine RL.eff (E.alloc hM ze54) rfl fun v w115 hv => ?_
 clear hM
 obtain ⟨g114, rfl, hM, hf⟩ := hv
 refine RL.effs (E.stB (j := 9) (off := 0) (vs := [v64 y110.f_Forwarded.f_Packets, v64 y110.f_Forwarded.f_Bytes, v64 y110.f_Cached.f_Packets, v64 y110.f_Cached.f_Bytes, v64 y110.f_Volatile.f_Packets, v64 y110.f_Volatile.f_Bytes, v64 y110.f_Durable.f_Packets, v64 y110.f_Durable.f_Bytes, v64 y110.f_Lost.f_Packets, v64 y110.f_Lost.f_Bytes, v64 y110.f_Credited.f_Packets, v64 y110.f_Credited.f_Bytes]) (cs' := [v64 y110.f_Forwarded.f_Packets, v64 y110.f_Forwarded.f_Bytes, v64 y110.f_Cached.f_Packets, v64 y110.f_Cached.f_Bytes, v64 y110.f_Volatile.f_Packets, v64 y110.f_Volatile.f_Bytes, v64 y110.f_Durable.f_Packets, v64 y110.f_Durable.f_Bytes, v64 y110.f_Lost.f_Packets, v64 y110.f_Lost.f_Bytes, v64 y110.f_Credited.f_Packets, v64 y110.f_Credited.f_Bytes]) hM rfl sz54 rfl (adds_eq [] rfl) rfl rfl (One.all rfl) rfl rfl) fun w117 hM1 => ?_
 clear hM
 have hM := hM1
 clear hM1
 refine nt hQ109 ?_
 clear hQ109 Q109
 refine sr fun Q118 hQ118 => ?_
 refine vm rfl rfl ?_
 refine RL.val (O.bld (cs := [vI 4, vB false, o8 (List.replicate 16 0) 0, o8 (List.replicate 16 0) 1, o8 (List.replicate 16 0) 2, o8 (List.replicate 16 0) 3, o8 (List.replicate 16 0) 4, o8 (List.replicate 16 0) 5, o8 (List.replicate 16 0) 6, o8 (List.replicate 16 0) 7, o8 (List.replicate 16 0) 8, o8 (List.replicate 16 0) 9, o8 (List.replicate 16 0) 10, o8 (List.replicate 16 0) 11, o8 (List.replicate 16 0) 12, o8 (List.replicate 16 0) 13, o8 (List.replicate 16 0) 14, o8 (List.replicate 16 0) 15, vB false, o8 (List.replicate 16 0) 0, o8 (List.replicate 16 0) 1, o8 (List.replicate 16 0) 2, o8 (List.replicate 16 0) 3, o8 (List.replicate 16 0) 4, o8 (List.replicate 16 0) 5, o8 (List.replicate 16 0) 6, o8 (List.replicate 16 0) 7, o8 (List.replicate 16 0) 8, o8 (List.replicate 16 0) 9, o8 (List.replicate 16 0) 10, o8 (List.replicate 16 0) 11, o8 (List.replicate 16 0) 12, o8 (List.replicate 16 0) 13, o8 (List.replicate 16 0) 14, o8 (List.replicate 16 0) 15, v8 0, v16 0, v16 0, v64 0, v64 0, .slice none 0 0, v32 0, v64 0, v64 0, v64 0]) bt41 rfl (by kernel_rfl)) rfl ?_
 refine obindE hF fun y119 hx120 hF => ?_
 refine RL.call Try.func8 bd8 rfl rfl (c_model_Model_Step _ _ _ y90.2 _ _ _ _ _ _ _ _ _ (hM.lent [2, 3, 4, 5, 6, 7, 8] rfl (by decide)) (T_model_Note.mk 4 (T_packet_Key.mk (T_addr_Addr.mk false (List.replicate 16 0)) (T_addr_Addr.mk false (List.replicate 16 0)) 0 0 0) (T_flow_Total.mk 0 0) ([]) 0 0 0 0) none 0 Rd.nilr Off.zero _ hx120) fun v w121 hv => ?_
 obtain ⟨g123, g125, g127, A129, c130, css132, Z133, A135, c136, rfl, hN122⟩ := hv
 replace hM := hM.callL [2, 3, 4, 5, 6, 7, 8] [0, 1, 9] rfl rfl (by decide) rfl hN122
 refine va rfl rfl ?_
 refine nt hQ118 ?_
 clear hQ118 Q118
 refine sr fun Q138 hQ138 => ?_
 refine vm rfl rfl ?_
 refine RL.val (O.loadN (cs := [vB y25.f_Src.f_Six, o8 y25.f_Src.f_B 0, o8 y25.f_Src.f_B 1, o8 y25.f_Src.f_B 2, o8 y25.f_Src.f_B 3, o8 y25.f_Src.f_B 4, o8 y25.f_Src.f_B 5, o8 y25.f_Src.f_B 6, o8 y25.f_Src.f_B 7, o8 y25.f_Src.f_B 8, o8 y25.f_Src.f_B 9, o8 y25.f_Src.f_B 10, o8 y25.f_Src.f_B 11, o8 y25.f_Src.f_B 12, o8 y25.f_Src.f_B 13, o8 y25.f_Src.f_B 14, o8 y25.f_Src.f_B 15, vB y25.f_Dst.f_Six, o8 y25.f_Dst.f_B 0, o8 y25.f_Dst.f_B 1, o8 y25.f_Dst.f_B 2, o8 y25.f_Dst.f_B 3, o8 y25.f_Dst.f_B 4, o8 y25.f_Dst.f_B 5, o8 y25.f_Dst.f_B 6, o8 y25.f_Dst.f_B 7, o8 y25.f_Dst.f_B 8, o8 y25.f_Dst.f_B 9, o8 y25.f_Dst.f_B 10, o8 y25.f_Dst.f_B 11, o8 y25.f_Dst.f_B 12, o8 y25.f_Dst.f_B 13, o8 y25.f_Dst.f_B 14, o8 y25.f_Dst.f_B 15, v8 y25.f_Proto, v16 y25.f_SrcPort, v16 y25.f_DstPort]) ag34 rfl (Cs.addsN [] ((hM.bx (i := 0) rfl)) rfl)) rfl ?_
 refine obindE hF fun y139 hx140 hF => ?_
 refine RL.call Try.func14 bd14 rfl rfl (c_model_Model_Of _ y119.2 _ (hM.mapR (i := 4) rfl) _ (hM.mapR (i := 5) rfl) _ (hM.mapR (i := 6) rfl) _ _ (hM.rdD (i := 7) (j := 8) uo_model_Entry rfl rfl) _ _ (hM.rd (i := 9) rfl) _ (hM.bx (i := 3) rfl) y25 _ hx140) fun v w141 hv => ?_
 obtain ⟨rfl, hN142⟩ := hv
 replace hM := hM.call0 hN142
 refine RL.eff (E.alloc hM ze54) rfl fun v w144 hv => ?_
 clear hM
 obtain ⟨g143, rfl, hM, hf⟩ := hv
 refine RL.effs (E.stB (j := 10) (off := 0) (vs := [v64 y139.f_Forwarded.f_Packets, v64 y139.f_Forwarded.f_Bytes, v64 y139.f_Cached.f_Packets, v64 y139.f_Cached.f_Bytes, v64 y139.f_Volatile.f_Packets, v64 y139.f_Volatile.f_Bytes, v64 y139.f_Durable.f_Packets, v64 y139.f_Durable.f_Bytes, v64 y139.f_Lost.f_Packets, v64 y139.f_Lost.f_Bytes, v64 y139.f_Credited.f_Packets, v64 y139.f_Credited.f_Bytes]) (cs' := [v64 y139.f_Forwarded.f_Packets, v64 y139.f_Forwarded.f_Bytes, v64 y139.f_Cached.f_Packets, v64 y139.f_Cached.f_Bytes, v64 y139.f_Volatile.f_Packets, v64 y139.f_Volatile.f_Bytes, v64 y139.f_Durable.f_Packets, v64 y139.f_Durable.f_Bytes, v64 y139.f_Lost.f_Packets, v64 y139.f_Lost.f_Bytes, v64 y139.f_Credited.f_Packets, v64 y139.f_Credited.f_Bytes]) hM rfl sz54 rfl (adds_eq [] rfl) rfl rfl (One.all rfl) rfl rfl) fun w146 hM1 => ?_
 clear hM
 have hM := hM1
 clear hM1
 refine nt hQ138 ?_
 clear hQ138 Q138
 refine sr fun Q147 hQ147 => ?_
 refine vm rfl rfl ?_
 refine obindE hF fun y148 hx149 hF => ?_
 refine RL.call Try.func16 bd16 rfl rfl (c_model_Model_Copy _ y119.2 _ (hM.mapR (i := 4) rfl) _ (hM.mapR (i := 5) rfl) _ (hM.mapR (i := 6) rfl) _ _ (hM.rdD (i := 7) (j := 8) uo_model_Entry rfl rfl) _ _ (hM.rd (i := 9) rfl) _ (hM.bx (i := 3) rfl) _ hx149) fun v w150 hv => ?_
 obtain ⟨g152, g154, g156, g158, A160, c161, css163, Z164, A166, c167, rfl, hN151⟩ := hv
 replace hM := hM.call hN151
 refine va rfl rfl ?_
 refine nt hQ147 ?_
 clear hQ147 Q147
 refine sr fun Q169 hQ169 => ?_
 refine vm rfl rfl ?_
 refine RL.val (O.bld (cs := [vI 7, vB false, o8 (List.replicate 16 0) 0, o8 (List.replicate 16 0) 1, o8 (List.replicate 16 0) 2, o8 (List.replicate 16 0) 3, o8 (List.replicate 16 0) 4, o8 (List.replicate 16 0) 5, o8 (List.replicate 16 0) 6, o8 (List.replicate 16 0) 7, o8 (List.replicate 16 0) 8, o8 (List.replicate 16 0) 9, o8 (List.replicate 16 0) 10, o8 (List.replicate 16 0) 11, o8 (List.replicate 16 0) 12, o8 (List.replicate 16 0) 13, o8 (List.replicate 16 0) 14, o8 (List.replicate 16 0) 15, vB false, o8 (List.replicate 16 0) 0, o8 (List.replicate 16 0) 1, o8 (List.replicate 16 0) 2, o8 (List.replicate 16 0) 3, o8 (List.replicate 16 0) 4, o8 (List.replicate 16 0) 5, o8 (List.replicate 16 0) 6, o8 (List.replicate 16 0) 7, o8 (List.replicate 16 0) 8, o8 (List.replicate 16 0) 9, o8 (List.replicate 16 0) 10, o8 (List.replicate 16 0) 11, o8 (List.replicate 16 0) 12, o8 (List.replicate 16 0) 13, o8 (List.replicate 16 0) 14, o8 (List.replicate 16 0) 15, v8 0, v16 0, v16 0, v64 0, v64 0, .slice none 0 0, v32 2, v64 0, v64 0, v64 0]) bt41 rfl (by kernel_rfl)) rfl ?_
 refine obindE hF fun y170 hx171 hF => ?_
 refine RL.call Try.func8 bd8 rfl rfl (c_model_Model_Step _ _ _ y148 _ _ _ _ _ _ _ _ _ (hM.lent [11, 12, 13, 14, 15, 16, 17] rfl (by decide)) (T_model_Note.mk 7 (T_packet_Key.mk (T_addr_Addr.mk false (List.replicate 16 0)) (T_addr_Addr.mk false (List.replicate 16 0)) 0 0 0) (T_flow_Total.mk 0 0) ([]) 2 0 0 0) none 0 Rd.nilr Off.zero _ hx171) fun v w172 hv => ?_
 obtain ⟨g174, g176, g178, A180, c181, css183, Z184, A186, c187, rfl, hN173⟩ := hv
 replace hM := hM.callL [11, 12, 13, 14, 15, 16, 17] [0, 1, 2, 3, 4, 5, 6, 7, 8, 9, 10] rfl rfl (by decide) rfl hN173
 refine va rfl rfl ?_
 refine nt hQ169 ?_
 clear hQ169 Q169
 replace hM := hM.pick [0, 1, 2, 3, 4, 5, 6, 7, 8, 9, 10] rfl (by decide)
 refine sr fun Q189 hQ189 => ?_
 refine vm rfl rfl ?_
 refine RL.val (O.bld (cs := [vI 6, vB false, o8 (List.replicate 16 0) 0, o8 (List.replicate 16 0) 1, o8 (List.replicate 16 0) 2, o8 (List.replicate 16 0) 3, o8 (List.replicate 16 0) 4, o8 (List.replicate 16 0) 5, o8 (List.replicate 16 0) 6, o8 (List.replicate 16 0) 7, o8 (List.replicate 16 0) 8, o8 (List.replicate 16 0) 9, o8 (List.replicate 16 0) 10, o8 (List.replicate 16 0) 11, o8 (List.replicate 16 0) 12, o8 (List.replicate 16 0) 13, o8 (List.replicate 16 0) 14, o8 (List.replicate 16 0) 15, vB false, o8 (List.replicate 16 0) 0, o8 (List.replicate 16 0) 1, o8 (List.replicate 16 0) 2, o8 (List.replicate 16 0) 3, o8 (List.replicate 16 0) 4, o8 (List.replicate 16 0) 5, o8 (List.replicate 16 0) 6, o8 (List.replicate 16 0) 7, o8 (List.replicate 16 0) 8, o8 (List.replicate 16 0) 9, o8 (List.replicate 16 0) 10, o8 (List.replicate 16 0) 11, o8 (List.replicate 16 0) 12, o8 (List.replicate 16 0) 13, o8 (List.replicate 16 0) 14, o8 (List.replicate 16 0) 15, v8 0, v16 0, v16 0, v64 0, v64 0, .slice none 0 0, v32 1, v64 0, v64 0, v64 0]) bt41 rfl (by kernel_rfl)) rfl ?_
 refine obindE hF fun y190 hx191 hF => ?_
 refine RL.call Try.func8 bd8 rfl rfl (c_model_Model_Step _ _ _ y119.2 _ _ _ _ _ _ _ _ _ (hM.lent [3, 4, 5, 6, 7, 8, 9] rfl (by decide)) (T_model_Note.mk 6 (T_packet_Key.mk (T_addr_Addr.mk false (List.replicate 16 0)) (T_addr_Addr.mk false (List.replicate 16 0)) 0 0 0) (T_flow_Total.mk 0 0) ([]) 1 0 0 0) none 0 Rd.nilr Off.zero _ hx191) fun v w192 hv => ?_
 obtain ⟨g194, g196, g198, A200, c201, css203, Z204, A206, c207, rfl, hN193⟩ := hv
 replace hM := hM.callL [3, 4, 5, 6, 7, 8, 9] [0, 1, 2, 10] rfl rfl (by decide) rfl hN193
 refine va rfl rfl ?_
 refine nt hQ189 ?_
 clear hQ189 Q189
 refine sr fun Q209 hQ209 => ?_
 refine vm rfl rfl ?_
 refine RL.val (O.loadN (cs := [vB y25.f_Src.f_Six, o8 y25.f_Src.f_B 0, o8 y25.f_Src.f_B 1, o8 y25.f_Src.f_B 2, o8 y25.f_Src.f_B 3, o8 y25.f_Src.f_B 4, o8 y25.f_Src.f_B 5, o8 y25.f_Src.f_B 6, o8 y25.f_Src.f_B 7, o8 y25.f_Src.f_B 8, o8 y25.f_Src.f_B 9, o8 y25.f_Src.f_B 10, o8 y25.f_Src.f_B 11, o8 y25.f_Src.f_B 12, o8 y25.f_Src.f_B 13, o8 y25.f_Src.f_B 14, o8 y25.f_Src.f_B 15, vB y25.f_Dst.f_Six, o8 y25.f_Dst.f_B 0, o8 y25.f_Dst.f_B 1, o8 y25.f_Dst.f_B 2, o8 y25.f_Dst.f_B 3, o8 y25.f_Dst.f_B 4, o8 y25.f_Dst.f_B 5, o8 y25.f_Dst.f_B 6, o8 y25.f_Dst.f_B 7, o8 y25.f_Dst.f_B 8, o8 y25.f_Dst.f_B 9, o8 y25.f_Dst.f_B 10, o8 y25.f_Dst.f_B 11, o8 y25.f_Dst.f_B 12, o8 y25.f_Dst.f_B 13, o8 y25.f_Dst.f_B 14, o8 y25.f_Dst.f_B 15, v8 y25.f_Proto, v16 y25.f_SrcPort, v16 y25.f_DstPort]) ag34 rfl (Cs.addsN [] ((hM.bx (i := 0) rfl)) rfl)) rfl ?_
 refine obindE hF fun y210 hx211 hF => ?_
 refine RL.call Try.func14 bd14 rfl rfl (c_model_Model_Of _ y190.2 _ (hM.mapR (i := 5) rfl) _ (hM.mapR (i := 6) rfl) _ (hM.mapR (i := 7) rfl) _ _ (hM.rdD (i := 8) (j := 9) uo_model_Entry rfl rfl) _ _ (hM.rd (i := 10) rfl) _ (hM.bx (i := 4) rfl) y25 _ hx211) fun v w212 hv => ?_
 obtain ⟨rfl, hN213⟩ := hv
 replace hM := hM.call0 hN213
 refine RL.eff (E.alloc hM ze54) rfl fun v w215 hv => ?_
 clear hM
 obtain ⟨g214, rfl, hM, hf⟩ := hv
 refine RL.effs (E.stB (j := 11) (off := 0) (vs := [v64 y210.f_Forwarded.f_Packets, v64 y210.f_Forwarded.f_Bytes, v64 y210.f_Cached.f_Packets, v64 y210.f_Cached.f_Bytes, v64 y210.f_Volatile.f_Packets, v64 y210.f_Volatile.f_Bytes, v64 y210.f_Durable.f_Packets, v64 y210.f_Durable.f_Bytes, v64 y210.f_Lost.f_Packets, v64 y210.f_Lost.f_Bytes, v64 y210.f_Credited.f_Packets, v64 y210.f_Credited.f_Bytes]) (cs' := [v64 y210.f_Forwarded.f_Packets, v64 y210.f_Forwarded.f_Bytes, v64 y210.f_Cached.f_Packets, v64 y210.f_Cached.f_Bytes, v64 y210.f_Volatile.f_Packets, v64 y210.f_Volatile.f_Bytes, v64 y210.f_Durable.f_Packets, v64 y210.f_Durable.f_Bytes, v64 y210.f_Lost.f_Packets, v64 y210.f_Lost.f_Bytes, v64 y210.f_Credited.f_Packets, v64 y210.f_Credited.f_Bytes]) hM rfl sz54 rfl (adds_eq [] rfl) rfl rfl (One.all rfl) rfl rfl) fun w217 hM1 => ?_
 clear hM
 have hM := hM1
 clear hM1
 refine nt hQ209 ?_
 clear hQ209 Q209
 replace hM := hM.pick [1, 2, 3, 11] rfl (by decide)
 refine KC.seqH fun Q218 hQ218 => ?_
 refine KC.cut (fun a w224 => ∃ (t223 : Bool), Kn 113 [(5, .pointer (some ⟨g78, 0, none⟩)), (7, .pointer (some ⟨g114, 0, none⟩)), (9, .pointer (some ⟨g143, 0, none⟩)), (13, .pointer (some ⟨g214, 0, none⟩)), (74, vB t223)] a ∧ Mem w [] w224 [.box g78 54 [v64 y74.f_Forwarded.f_Packets, v64 y74.f_Forwarded.f_Bytes, v64 y74.f_Cached.f_Packets, v64 y74.f_Cached.f_Bytes, v64 y74.f_Volatile.f_Packets, v64 y74.f_Volatile.f_Bytes, v64 y74.f_Durable.f_Packets, v64 y74.f_Durable.f_Bytes, v64 y74.f_Lost.f_Packets, v64 y74.f_Lost.f_Bytes, v64 y74.f_Credited.f_Packets, v64 y74.f_Credited.f_Bytes], .box g114 54 [v64 y110.f_Forwarded.f_Packets, v64 y110.f_Forwarded.f_Bytes, v64 y110.f_Cached.f_Packets, v64 y110.f_Cached.f_Bytes, v64 y110.f_Volatile.f_Packets, v64 y110.f_Volatile.f_Bytes, v64 y110.f_Durable.f_Packets, v64 y110.f_Durable.f_Bytes, v64 y110.f_Lost.f_Packets, v64 y110.f_Lost.f_Bytes, v64 y110.f_Credited.f_Packets, v64 y110.f_Credited.f_Bytes], .box g143 54 [v64 y139.f_Forwarded.f_Packets, v64 y139.f_Forwarded.f_Bytes, v64 y139.f_Cached.f_Packets, v64 y139.f_Cached.f_Bytes, v64 y139.f_Volatile.f_Packets, v64 y139.f_Volatile.f_Bytes, v64 y139.f_Durable.f_Packets, v64 y139.f_Durable.f_Bytes, v64 y139.f_Lost.f_Packets, v64 y139.f_Lost.f_Bytes, v64 y139.f_Credited.f_Packets, v64 y139.f_Credited.f_Bytes], .box g214 54 [v64 y210.f_Forwarded.f_Packets, v64 y210.f_Forwarded.f_Bytes, v64 y210.f_Cached.f_Packets, v64 y210.f_Cached.f_Bytes, v64 y210.f_Volatile.f_Packets, v64 y210.f_Volatile.f_Bytes, v64 y210.f_Durable.f_Packets, v64 y210.f_Durable.f_Bytes, v64 y210.f_Lost.f_Packets, v64 y210.f_Lost.f_Bytes, v64 y210.f_Credited.f_Packets, v64 y210.f_Credited.f_Bytes]] ∧ F_law30_works_j1 y74 y110 y139 y210 t223 = some r) ?_ ?_
 ·refine KC.region ?_
  refine vm rfl rfl ?_
  refine RL.val (O.neq rfl rfl) rfl ?_
  refine vm rfl rfl ?_
  refine RL.bcase (t := 55) rfl (fun hc => ?_) (fun hc => ?_)
  ·rw [if_pos hc] at hF
   refine RL.brun1 19 74 true (by kernel_rfl) ?_
   refine RL.nil ?_
   refine KQ.then_k ?_
   exact fun a ha => ⟨true, ha.less (less_cons rfl (less_cons rfl (less_cons rfl (less_cons rfl (less_cons rfl less_nil))))), hM, hF⟩
  rw [if_neg (ne_true hc)] at hF
  refine RL.gval rfl rfl (O.move rfl) rfl ?_
  refine RL.gval rfl rfl (O.neq rfl rfl) rfl ?_
  refine RL.val (O.pickf rfl rfl) rfl ?_
  refine vm rfl rfl ?_
  refine RL.bcase (t := 59) rfl (fun hc => ?_) (fun hc => ?_)
  ·rw [if_pos hc] at hF
   refine RL.brun1 15 74 true (by kernel_rfl) ?_
   refine RL.nil ?_
   refine KQ.then_k ?_
   exact fun a ha => ⟨true, ha.less (less_cons rfl (less_cons rfl (less_cons rfl (less_cons rfl (less_cons rfl less_nil))))), hM, hF⟩
  rw [if_neg (ne_true hc)] at hF
  refine RL.gval rfl rfl (O.move rfl) rfl ?_
  refine RL.gval rfl rfl (O.neq rfl rfl) rfl ?_
  refine RL.val (O.pickf rfl rfl) rfl ?_
  refine vm rfl rfl ?_
  refine RL.bcase (t := 63) rfl (fun hc => ?_) (fun hc => ?_)
  ·rw [if_pos hc] at hF
   refine RL.brun1 11 74 true (by kernel_rfl) ?_
   refine RL.nil ?_
   refine KQ.then_k ?_
   exact fun a ha => ⟨true, ha.less (less_cons rfl (less_cons rfl (less_cons rfl (less_cons rfl (less_cons rfl less_nil))))), hM, hF⟩
  rw [if_neg (ne_true hc)] at hF
  refine RL.gval rfl rfl (O.move rfl) rfl ?_
  refine RL.gval rfl rfl (O.neq rfl rfl) rfl ?_
  refine RL.val (O.pickf rfl rfl) rfl ?_
  refine vm rfl rfl ?_
  refine RL.bcase (t := 67) rfl (fun hc => ?_) (fun hc => ?_)
  ·rw [if_pos hc] at hF
   refine RL.brun1 7 74 true (by kernel_rfl) ?_
   refine RL.nil ?_
   refine KQ.then_k ?_
   exact fun a ha => ⟨true, ha.less (less_cons rfl (less_cons rfl (less_cons rfl (less_cons rfl (less_cons rfl less_nil))))), hM, hF⟩
  rw [if_neg (ne_true hc)] at hF
  refine RL.gval rfl rfl (O.move rfl) rfl ?_
  refine RL.gval rfl rfl (O.neq rfl rfl) rfl ?_
  refine RL.val (O.pickf rfl rfl) rfl ?_
  refine vm rfl rfl ?_
  refine RL.bcase (t := 71) rfl (fun hc => ?_) (fun hc => ?_)
  ·rw [if_pos hc] at hF
   refine RL.gskip rfl rfl rfl rfl ?_
   refine RL.gskip rfl rfl rfl rfl ?_
   refine RL.val (O.pickt rfl rfl) rfl ?_
   refine RL.nil ?_
   refine KQ.then_k ?_
   exact fun a ha => ⟨true, ha.less (less_cons rfl (less_cons rfl (less_cons rfl (less_cons rfl (less_cons rfl less_nil))))), hM, hF⟩
  rw [if_neg (ne_true hc)] at hF
  refine RL.gval rfl rfl (O.move rfl) rfl ?_
  refine RL.gval rfl rfl (O.neq rfl rfl) rfl ?_
  refine RL.val (O.pickf rfl rfl) rfl ?_
  refine RL.nil ?_
  refine KQ.then_k ?_
  exact fun a ha => ⟨(y190.1 != 0), ha.less (less_cons rfl (less_cons rfl (less_cons rfl (less_cons rfl (less_cons rfl less_nil))))), hM, hF⟩
 rintro a w224 ⟨t223, ha, hM, hF⟩
 refine KC.app ha ?_
 clear ha
 unfold F_law30_works_j1 at hF
 refine KC.cond rfl (fun hc => ?_) (fun hc => ?_)
 ·rw [if_pos hc] at hF
  refine sr fun Q225 hQ225 => ?_
  refine va rfl rfl ?_
  refine nt hQ225 ?_
  clear hQ225 Q225
  refine KC.ret ?_
  refine KQ.thr hQ218 ?_
  clear hQ218 Q218
  have hE := Option.some.inj hF
  clear hF
  subst hE
  replace hM := hM.pick [] rfl (by decide)
  refine KQ.rets Try.results6 (RVs.cons (RV.tm rfl) RVs.nil) ?_
  exact ⟨_, rfl, rfl, hM⟩
 rw [if_neg (ne_true hc)] at hF
 refine KC.skip ?_
 refine KQ.thn hQ218 ?_
 clear hQ218 Q218
 refine KC.cut (fun a w235 => ∃ (t234 : Bool), Kn 113 [(0, vB t234)] a ∧ Mem w [] w235 [] ∧ F_law30_works_j2 t234 = some r) ?_ ?_
 ·refine KC.region ?_
  refine RL.val (O.fldA fl54_0 (by decide) rfl) rfl ?_
  refine RL.val (O.fldA fl37_1 (by decide) rfl) rfl ?_
  refine RL.val (O.load sc35 rfl (Cs.adds [0, 1] ((hM.bx (i := 0) rfl)) rfl)) rfl ?_
  refine RL.val (O.eql rfl rfl) rfl ?_
  refine vm rfl rfl ?_
  refine RL.bcase (t := 79) rfl (fun hc => ?_) (fun hc => ?_)
  ·rw [if_pos hc] at hF
   refine RL.gval rfl rfl (O.fldA fl54_1 (by decide) rfl) rfl ?_
   refine RL.gval rfl rfl (O.fldA fl37_1 (by decide) rfl) rfl ?_
   refine RL.gval rfl rfl (O.load sc35 rfl (Cs.adds [2, 1] ((hM.bx (i := 0) rfl)) rfl)) rfl ?_
   refine RL.gval rfl rfl (O.eql rfl rfl) rfl ?_
   refine RL.val (O.pickt rfl rfl) rfl ?_
   refine vm rfl rfl ?_
   refine RL.bcase (t := 85) rfl (fun hc => ?_) (fun hc => ?_)
   ·rw [if_pos hc] at hF
    refine RL.gval rfl rfl (O.fldA fl54_2 (by decide) rfl) rfl ?_
    refine RL.gval rfl rfl (O.fldA fl37_1 (by decide) rfl) rfl ?_
    refine RL.gval rfl rfl (O.load sc35 rfl (Cs.adds [4, 1] ((hM.bx (i := 1) rfl)) rfl)) rfl ?_
    refine RL.gval rfl rfl (O.eql rfl rfl) rfl ?_
    refine RL.val (O.pickt rfl rfl) rfl ?_
    refine vm rfl rfl ?_
    refine RL.bcase (t := 91) rfl (fun hc => ?_) (fun hc => ?_)
    ·rw [if_pos hc] at hF
     refine RL.gval rfl rfl (O.fldA fl54_3 (by decide) rfl) rfl ?_
     refine RL.gval rfl rfl (O.fldA fl37_1 (by decide) rfl) rfl ?_
     refine RL.gval rfl rfl (O.load sc35 rfl (Cs.adds [6, 1] ((hM.bx (i := 2) rfl)) rfl)) rfl ?_
     refine RL.gval rfl rfl (O.eql rfl rfl) rfl ?_
     refine RL.val (O.pickt rfl rfl) rfl ?_
     refine vm rfl rfl ?_
     refine RL.bcase (t := 97) rfl (fun hc => ?_) (fun hc => ?_)
     ·rw [if_pos hc] at hF
      refine RL.gval rfl rfl (O.fldA fl54_5 (by decide) rfl) rfl ?_
      refine RL.gval rfl rfl (O.fldA fl37_1 (by decide) rfl) rfl ?_
      refine RL.gval rfl rfl (O.load sc35 rfl (Cs.adds [10, 1] ((hM.bx (i := 3) rfl)) rfl)) rfl ?_
      refine RL.gval rfl rfl (O.eql rfl rfl) rfl ?_
      refine RL.val (O.pickt rfl rfl) rfl ?_
      refine vm rfl rfl ?_
      refine RL.bcase (t := 103) rfl (fun hc => ?_) (fun hc => ?_)
      ·rw [if_pos hc] at hF
       refine RL.gval rfl rfl (O.loadN (cs := [v64 y210.f_Forwarded.f_Packets, v64 y210.f_Forwarded.f_Bytes, v64 y210.f_Cached.f_Packets, v64 y210.f_Cached.f_Bytes, v64 y210.f_Volatile.f_Packets, v64 y210.f_Volatile.f_Bytes, v64 y210.f_Durable.f_Packets, v64 y210.f_Durable.f_Bytes, v64 y210.f_Lost.f_Packets, v64 y210.f_Lost.f_Bytes, v64 y210.f_Credited.f_Packets, v64 y210.f_Credited.f_Bytes]) ag54 rfl (Cs.addsN [] ((hM.bx (i := 3) rfl)) rfl)) rfl ?_
       refine obindE hF fun y226 hx227 hF => ?_
       refine RL.gcall rfl rfl Try.func19 bd19 rfl rfl (c_model_Parts_Whole _ y210 _ hx227) fun v w228 hv => ?_
       obtain ⟨rfl, hN229⟩ := hv
       replace hM := hM.call0 hN229
       refine RL.val (O.pickt rfl rfl) rfl ?_
       refine vm rfl rfl ?_
       refine RL.bcase (t := 107) rfl (fun hc => ?_) (fun hc => ?_)
       ·rw [if_pos hc] at hF
        refine RL.gval rfl rfl (O.bld (cs := [v64 0, v64 1]) bt37 rfl (by kernel_rfl)) rfl ?_
        refine RL.gval rfl rfl (O.bld (cs := [v64 0, v64 1, v64 0, v64 0, v64 0, v64 0, v64 0, v64 0, v64 0, v64 0, v64 0, v64 0]) bt54 rfl (by kernel_rfl)) rfl ?_
        refine obindE hF fun y230 hx231 hF => ?_
        refine RL.gcall rfl rfl Try.func19 bd19 rfl rfl (c_model_Parts_Whole _ (T_model_Parts.mk (T_flow_Total.mk 0 1) (T_flow_Total.mk 0 0) (T_flow_Total.mk 0 0) (T_flow_Total.mk 0 0) (T_flow_Total.mk 0 0) (T_flow_Total.mk 0 0)) _ hx231) fun v w232 hv => ?_
        obtain ⟨rfl, hN233⟩ := hv
        replace hM := hM.call0 hN233
        refine RL.gval rfl rfl (O.not rfl) rfl ?_
        refine RL.val (O.pickt rfl rfl) rfl ?_
        refine va rfl rfl ?_
        refine RL.nil ?_
        refine KQ.then_k ?_
        replace hM := hM.pick [] rfl (by decide)
        exact fun a ha => ⟨(!y230), ha.less (less_cons rfl less_nil), hM, hF⟩
       rw [if_neg (ne_true hc)] at hF
       refine RL.brun1 5 112 false (by kernel_rfl) ?_
       refine va rfl rfl ?_
       refine RL.nil ?_
       refine KQ.then_k ?_
       replace hM := hM.pick [] rfl (by decide)
       exact fun a ha => ⟨false, ha.less (less_cons rfl less_nil), hM, hF⟩
      rw [if_neg (ne_true hc)] at hF
      refine RL.brun1 9 112 false (by kernel_rfl) ?_
      refine va rfl rfl ?_
      refine RL.nil ?_
      refine KQ.then_k ?_
      replace hM := hM.pick [] rfl (by decide)
      exact fun a ha => ⟨false, ha.less (less_cons rfl less_nil), hM, hF⟩
     rw [if_neg (ne_true hc)] at hF
     refine RL.brun1 15 112 false (by kernel_rfl) ?_
     refine va rfl rfl ?_
     refine RL.nil ?_
     refine KQ.then_k ?_
     replace hM := hM.pick [] rfl (by decide)
     exact fun a ha => ⟨false, ha.less (less_cons rfl less_nil), hM, hF⟩
    rw [if_neg (ne_true hc)] at hF
    refine RL.brun1 21 112 false (by kernel_rfl) ?_
    refine va rfl rfl ?_
    refine RL.nil ?_
    refine KQ.then_k ?_
    replace hM := hM.pick [] rfl (by decide)
    exact fun a ha => ⟨false, ha.less (less_cons rfl less_nil), hM, hF⟩
   rw [if_neg (ne_true hc)] at hF
   refine RL.brun1 27 112 false (by kernel_rfl) ?_
   refine va rfl rfl ?_
   refine RL.nil ?_
   refine KQ.then_k ?_
   replace hM := hM.pick [] rfl (by decide)
   exact fun a ha => ⟨false, ha.less (less_cons rfl less_nil), hM, hF⟩
  rw [if_neg (ne_true hc)] at hF
  refine RL.brun1 33 112 false (by kernel_rfl) ?_
  refine va rfl rfl ?_
  refine RL.nil ?_
  refine KQ.then_k ?_
  replace hM := hM.pick [] rfl (by decide)
  exact fun a ha => ⟨false, ha.less (less_cons rfl less_nil), hM, hF⟩
 rintro a w235 ⟨t234, ha, hM, hF⟩
 refine KC.app ha ?_
 clear ha
 unfold F_law30_works_j2 at hF
 refine KC.ret ?_
 have hE := Option.some.inj hF
 clear hF
 subst hE
 refine KQ.rets Try.results6 (RVs.cons (RV.tm rfl) RVs.nil) ?_
 exact ⟨_, rfl, rfl, hM⟩
end Go.Proofs.Ytidbgejnkpoeeaa
