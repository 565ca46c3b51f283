/- Printed by a program of this claim: each call returns what the plain function of its name gives. -/
import Derived.Test.YtikjomacnbemhaaW11
set_option linter.unusedVariables false
namespace Go.Proofs.Ytikjomacnbemhaa
open Go Go.Ox Go.RowKit
set_option maxRecDepth 100000 in
set_option maxHeartbeats 40000000 in
theorem c_law06_IpsixHeads (w : World) (h1 : T_ipsix_Header) (A3 : Option Addr) (c4 : Nat) (b2 : List Int) (hr5 : Rd w A3 c4 1 b2.length (b2.flatMap (eI .u8))) (r : Bool) (hF : F_law06_IpsixHeads h1 b2 = some r) :
    CallsR Try.prog 5 [.agg #[.int .u8 h1.f_Class, .int .u32 h1.f_Flow, .int .u16 h1.f_Length, .int .u8 h1.f_Next, .int .u8 h1.f_Hops, .int .u8 (List.getD h1.f_Src 0 0), .int .u8 (List.getD h1.f_Src 1 0), .int .u8 (List.getD h1.f_Src 2 0), .int .u8 (List.getD h1.f_Src 3 0), .int .u8 (List.getD h1.f_Src 4 0), .int .u8 (List.getD h1.f_Src 5 0), .int .u8 (List.getD h1.f_Src 6 0), .int .u8 (List.getD h1.f_Src 7 0), .int .u8 (List.getD h1.f_Src 8 0), .int .u8 (List.getD h1.f_Src 9 0), .int .u8 (List.getD h1.f_Src 10 0), .int .u8 (List.getD h1.f_Src 11 0), .int .u8 (List.getD h1.f_Src 12 0), .int .u8 (List.getD h1.f_Src 13 0), .int .u8 (List.getD h1.f_Src 14 0), .int .u8 (List.getD h1.f_Src 15 0), .int .u8 (List.getD h1.f_Dst 0 0), .int .u8 (List.getD h1.f_Dst 1 0), .int .u8 (List.getD h1.f_Dst 2 0), .int .u8 (List.getD h1.f_Dst 3 0), .int .u8 (List.getD h1.f_Dst 4 0), .int .u8 (List.getD h1.f_Dst 5 0), .int .u8 (List.getD h1.f_Dst 6 0), .int .u8 (List.getD h1.f_Dst 7 0), .int .u8 (List.getD h1.f_Dst 8 0), .int .u8 (List.getD h1.f_Dst 9 0), .int .u8 (List.getD h1.f_Dst 10 0), .int .u8 (List.getD h1.f_Dst 11 0), .int .u8 (List.getD h1.f_Dst 12 0), .int .u8 (List.getD h1.f_Dst 13 0), .int .u8 (List.getD h1.f_Dst 14 0), .int .u8 (List.getD h1.f_Dst 15 0)], .slice A3 (b2).length c4] w (fun v w' => v = .bool r ∧ Mem w [] w' []) := by
  refine calls_KC Try.func5 rfl Try.ntmps5 rfl ?_
  have hM := Mem.init w
  unfold F_law06_IpsixHeads at hF
  refine KC.seq ?_
  refine KC.region ?_
  refine RL.eff (E.box (vs := [.int .u8 h1.f_Class, .int .u32 h1.f_Flow, .int .u16 h1.f_Length, .int .u8 h1.f_Next, .int .u8 h1.f_Hops, .int .u8 (List.getD h1.f_Src 0 0), .int .u8 (List.getD h1.f_Src 1 0), .int .u8 (List.getD h1.f_Src 2 0), .int .u8 (List.getD h1.f_Src 3 0), .int .u8 (List.getD h1.f_Src 4 0), .int .u8 (List.getD h1.f_Src 5 0), .int .u8 (List.getD h1.f_Src 6 0), .int .u8 (List.getD h1.f_Src 7 0), .int .u8 (List.getD h1.f_Src 8 0), .int .u8 (List.getD h1.f_Src 9 0), .int .u8 (List.getD h1.f_Src 10 0), .int .u8 (List.getD h1.f_Src 11 0), .int .u8 (List.getD h1.f_Src 12 0), .int .u8 (List.getD h1.f_Src 13 0), .int .u8 (List.getD h1.f_Src 14 0), .int .u8 (List.getD h1.f_Src 15 0), .int .u8 (List.getD h1.f_Dst 0 0), .int .u8 (List.getD h1.f_Dst 1 0), .int .u8 (List.getD h1.f_Dst 2 0), .int .u8 (List.getD h1.f_Dst 3 0), .int .u8 (List.getD h1.f_Dst 4 0), .int .u8 (List.getD h1.f_Dst 5 0), .int .u8 (List.getD h1.f_Dst 6 0), .int .u8 (List.getD h1.f_Dst 7 0), .int .u8 (List.getD h1.f_Dst 8 0), .int .u8 (List.getD h1.f_Dst 9 0), .int .u8 (List.getD h1.f_Dst 10 0), .int .u8 (List.getD h1.f_Dst 11 0), .int .u8 (List.getD h1.f_Dst 12 0), .int .u8 (List.getD h1.f_Dst 13 0), .int .u8 (List.getD h1.f_Dst 14 0), .int .u8 (List.getD h1.f_Dst 15 0)]) hM rfl rfl) rfl fun v w7 hv => ?_
  clear hM
  obtain ⟨g6, rfl, hM, hf⟩ := hv
  refine RL.val (O.assign rfl) rfl ?_
  refine RL.nil ?_
  refine KQ.then_n ?_
  refine KC.seq ?_
  refine KC.seq ?_
  refine KC.region ?_
  refine RL.val (O.move rfl) rfl ?_
  refine RL.val (O.len sl31 rfl) rfl ?_
  refine RL.val (O.gtr rfl rfl) rfl ?_
  refine RL.nil ?_
  refine KQ.then_n ?_
  refine KC.cond rfl (fun hc => ?_) (fun hc => ?_)
  · rw [if_pos hc] at hF
    refine KC.seq ?_
    refine KC.region ?_
    refine obindE hF fun y9 hx10 hF => ?_
    refine RL.call Try.func9 bd9 rfl rfl (c_law06_works _ _ hx10) fun v w11 hv => ?_
    obtain ⟨rfl, hN12⟩ := hv
    replace hM := hM.call0 hN12
    refine RL.val (O.assign rfl) rfl ?_
    refine RL.nil ?_
    refine KQ.then_n ?_
    refine KC.ret ?_
    refine KQ.then_r ?_
    obtain rfl := Option.some.inj hF
    replace hM := hM.pick [] rfl (by decide)
    refine KQ.rets Try.results5 (RVs.cons (RV.tm rfl) RVs.nil) ?_
    exact ⟨_, rfl, rfl, hM⟩
  · rw [if_neg (ne_true hc)] at hF
    refine KC.skip ?_
    refine KQ.then_n ?_
    refine KC.seq ?_
    refine KC.region ?_
    refine RL.val (O.loadN (cs := [.int .u8 h1.f_Class, .int .u32 h1.f_Flow, .int .u16 h1.f_Length, .int .u8 h1.f_Next, .int .u8 h1.f_Hops, .int .u8 (List.getD h1.f_Src 0 0), .int .u8 (List.getD h1.f_Src 1 0), .int .u8 (List.getD h1.f_Src 2 0), .int .u8 (List.getD h1.f_Src 3 0), .int .u8 (List.getD h1.f_Src 4 0), .int .u8 (List.getD h1.f_Src 5 0), .int .u8 (List.getD h1.f_Src 6 0), .int .u8 (List.getD h1.f_Src 7 0), .int .u8 (List.getD h1.f_Src 8 0), .int .u8 (List.getD h1.f_Src 9 0), .int .u8 (List.getD h1.f_Src 10 0), .int .u8 (List.getD h1.f_Src 11 0), .int .u8 (List.getD h1.f_Src 12 0), .int .u8 (List.getD h1.f_Src 13 0), .int .u8 (List.getD h1.f_Src 14 0), .int .u8 (List.getD h1.f_Src 15 0), .int .u8 (List.getD h1.f_Dst 0 0), .int .u8 (List.getD h1.f_Dst 1 0), .int .u8 (List.getD h1.f_Dst 2 0), .int .u8 (List.getD h1.f_Dst 3 0), .int .u8 (List.getD h1.f_Dst 4 0), .int .u8 (List.getD h1.f_Dst 5 0), .int .u8 (List.getD h1.f_Dst 6 0), .int .u8 (List.getD h1.f_Dst 7 0), .int .u8 (List.getD h1.f_Dst 8 0), .int .u8 (List.getD h1.f_Dst 9 0), .int .u8 (List.getD h1.f_Dst 10 0), .int .u8 (List.getD h1.f_Dst 11 0), .int .u8 (List.getD h1.f_Dst 12 0), .int .u8 (List.getD h1.f_Dst 13 0), .int .u8 (List.getD h1.f_Dst 14 0), .int .u8 (List.getD h1.f_Dst 15 0)]) ag52 rfl (Cs.addsN [] ((hM.bx (i := 0) rfl)) rfl)) rfl ?_
    refine obindE hF fun y13 hx14 hF => ?_
    refine RL.call Try.func25 bd25 rfl rfl (c_docs_Ipsix _ h1 _ hx14) fun v w15 hv => ?_
    obtain ⟨rfl, hN16⟩ := hv
    replace hM := hM.call0 hN16
    refine RL.eff (E.alloc hM ze56) rfl fun v w18 hv => ?_
    clear hM
    obtain ⟨g17, rfl, hM, hf⟩ := hv
    refine RL.effs (E.stB (j := 1) (off := 0) (vs := [.int .u8 y13.f_Class, .int .u32 y13.f_Flow, .int .u16 y13.f_Length, .int .u8 y13.f_Next, .int .u8 y13.f_Hops, .string y13.f_Src, .string y13.f_Dst]) (cs' := [.int .u8 y13.f_Class, .int .u32 y13.f_Flow, .int .u16 y13.f_Length, .int .u8 y13.f_Next, .int .u8 y13.f_Hops, .string y13.f_Src, .string y13.f_Dst]) hM rfl sz56 rfl (adds_eq [] rfl) rfl rfl (One.all rfl) rfl rfl) fun w20 hM1 => ?_
    clear hM
    have hM := hM1
    clear hM1
    refine RL.nil ?_
    refine KQ.then_n ?_
    refine KC.seq ?_
    refine KC.region ?_
    refine RL.val (O.loadN (cs := [.int .u8 h1.f_Class, .int .u32 h1.f_Flow, .int .u16 h1.f_Length, .int .u8 h1.f_Next, .int .u8 h1.f_Hops, .int .u8 (List.getD h1.f_Src 0 0), .int .u8 (List.getD h1.f_Src 1 0), .int .u8 (List.getD h1.f_Src 2 0), .int .u8 (List.getD h1.f_Src 3 0), .int .u8 (List.getD h1.f_Src 4 0), .int .u8 (List.getD h1.f_Src 5 0), .int .u8 (List.getD h1.f_Src 6 0), .int .u8 (List.getD h1.f_Src 7 0), .int .u8 (List.getD h1.f_Src 8 0), .int .u8 (List.getD h1.f_Src 9 0), .int .u8 (List.getD h1.f_Src 10 0), .int .u8 (List.getD h1.f_Src 11 0), .int .u8 (List.getD h1.f_Src 12 0), .int .u8 (List.getD h1.f_Src 13 0), .int .u8 (List.getD h1.f_Src 14 0), .int .u8 (List.getD h1.f_Src 15 0), .int .u8 (List.getD h1.f_Dst 0 0), .int .u8 (List.getD h1.f_Dst 1 0), .int .u8 (List.getD h1.f_Dst 2 0), .int .u8 (List.getD h1.f_Dst 3 0), .int .u8 (List.getD h1.f_Dst 4 0), .int .u8 (List.getD h1.f_Dst 5 0), .int .u8 (List.getD h1.f_Dst 6 0), .int .u8 (List.getD h1.f_Dst 7 0), .int .u8 (List.getD h1.f_Dst 8 0), .int .u8 (List.getD h1.f_Dst 9 0), .int .u8 (List.getD h1.f_Dst 10 0), .int .u8 (List.getD h1.f_Dst 11 0), .int .u8 (List.getD h1.f_Dst 12 0), .int .u8 (List.getD h1.f_Dst 13 0), .int .u8 (List.getD h1.f_Dst 14 0), .int .u8 (List.getD h1.f_Dst 15 0)]) ag52 rfl (Cs.addsN [] ((hM.bx (i := 0) rfl)) rfl)) rfl ?_
    refine obindE hF fun y21 hx22 hF => ?_
    refine RL.call Try.func28 bd28 rfl rfl (c_ipsix_Put _ h1 _ hx22) fun v w23 hv => ?_
    obtain ⟨A25, c26, rfl, hN24⟩ := hv
    replace hM := hM.call hN24
    refine RL.val (O.move rfl) rfl ?_
    refine RL.val (O.ext rfl rfl) rfl ?_
    refine RL.val (O.ext rfl rfl) rfl ?_
    refine RL.val (O.assign rfl) rfl ?_
    refine RL.val (O.assign rfl) rfl ?_
    refine RL.nil ?_
    refine KQ.then_n ?_
    refine KC.seq ?_
    refine KC.region ?_
    refine RL.val (O.loadN (cs := [.int .u8 y13.f_Class, .int .u32 y13.f_Flow, .int .u16 y13.f_Length, .int .u8 y13.f_Next, .int .u8 y13.f_Hops, .string y13.f_Src, .string y13.f_Dst]) ag56 rfl (Cs.addsN [] ((hM.bx (i := 1) rfl)) rfl)) rfl ?_
    refine obindE hF fun y28 hx29 hF => ?_
    refine RL.call Try.func29 bd29 rfl rfl (c_ref06_Put _ y13 _ hx29) fun v w30 hv => ?_
    obtain ⟨A32, c33, rfl, hN31⟩ := hv
    replace hM := hM.call hN31
    refine RL.val (O.move rfl) rfl ?_
    refine RL.val (O.ext rfl rfl) rfl ?_
    refine RL.val (O.ext rfl rfl) rfl ?_
    refine RL.val (O.assign rfl) rfl ?_
    refine RL.val (O.assign rfl) rfl ?_
    refine RL.nil ?_
    refine KQ.then_n ?_
    refine KC.seq ?_
    refine KC.region ?_
    refine RL.val (O.move rfl) rfl ?_
    refine obindE hF fun y35 hx36 hF => ?_
    refine RL.call Try.func30 bd30 rfl rfl (c_ipsix_Parse _ _ _ b2 (hM.inp hr5 Off.nil) _ hx36) fun v w37 hv => ?_
    obtain ⟨rfl, hN38⟩ := hv
    replace hM := hM.call0 hN38
    refine RL.val (O.move rfl) rfl ?_
    refine RL.val (O.ext rfl rfl) rfl ?_
    refine RL.val (O.ext rfl rfl) rfl ?_
    refine RL.eff (E.alloc hM ze52) rfl fun v w40 hv => ?_
    clear hM
    obtain ⟨g39, rfl, hM, hf⟩ := hv
    refine RL.effs (E.stB (j := 4) (off := 0) (vs := [.int .u8 y35.1.f_Class, .int .u32 y35.1.f_Flow, .int .u16 y35.1.f_Length, .int .u8 y35.1.f_Next, .int .u8 y35.1.f_Hops, .int .u8 (List.getD y35.1.f_Src 0 0), .int .u8 (List.getD y35.1.f_Src 1 0), .int .u8 (List.getD y35.1.f_Src 2 0), .int .u8 (List.getD y35.1.f_Src 3 0), .int .u8 (List.getD y35.1.f_Src 4 0), .int .u8 (List.getD y35.1.f_Src 5 0), .int .u8 (List.getD y35.1.f_Src 6 0), .int .u8 (List.getD y35.1.f_Src 7 0), .int .u8 (List.getD y35.1.f_Src 8 0), .int .u8 (List.getD y35.1.f_Src 9 0), .int .u8 (List.getD y35.1.f_Src 10 0), .int .u8 (List.getD y35.1.f_Src 11 0), .int .u8 (List.getD y35.1.f_Src 12 0), .int .u8 (List.getD y35.1.f_Src 13 0), .int .u8 (List.getD y35.1.f_Src 14 0), .int .u8 (List.getD y35.1.f_Src 15 0), .int .u8 (List.getD y35.1.f_Dst 0 0), .int .u8 (List.getD y35.1.f_Dst 1 0), .int .u8 (List.getD y35.1.f_Dst 2 0), .int .u8 (List.getD y35.1.f_Dst 3 0), .int .u8 (List.getD y35.1.f_Dst 4 0), .int .u8 (List.getD y35.1.f_Dst 5 0), .int .u8 (List.getD y35.1.f_Dst 6 0), .int .u8 (List.getD y35.1.f_Dst 7 0), .int .u8 (List.getD y35.1.f_Dst 8 0), .int .u8 (List.getD y35.1.f_Dst 9 0), .int .u8 (List.getD y35.1.f_Dst 10 0), .int .u8 (List.getD y35.1.f_Dst 11 0), .int .u8 (List.getD y35.1.f_Dst 12 0), .int .u8 (List.getD y35.1.f_Dst 13 0), .int .u8 (List.getD y35.1.f_Dst 14 0), .int .u8 (List.getD y35.1.f_Dst 15 0)]) (cs' := [.int .u8 y35.1.f_Class, .int .u32 y35.1.f_Flow, .int .u16 y35.1.f_Length, .int .u8 y35.1.f_Next, .int .u8 y35.1.f_Hops, .int .u8 (List.getD y35.1.f_Src 0 0), .int .u8 (List.getD y35.1.f_Src 1 0), .int .u8 (List.getD y35.1.f_Src 2 0), .int .u8 (List.getD y35.1.f_Src 3 0), .int .u8 (List.getD y35.1.f_Src 4 0), .int .u8 (List.getD y35.1.f_Src 5 0), .int .u8 (List.getD y35.1.f_Src 6 0), .int .u8 (List.getD y35.1.f_Src 7 0), .int .u8 (List.getD y35.1.f_Src 8 0), .int .u8 (List.getD y35.1.f_Src 9 0), .int .u8 (List.getD y35.1.f_Src 10 0), .int .u8 (List.getD y35.1.f_Src 11 0), .int .u8 (List.getD y35.1.f_Src 12 0), .int .u8 (List.getD y35.1.f_Src 13 0), .int .u8 (List.getD y35.1.f_Src 14 0), .int .u8 (List.getD y35.1.f_Src 15 0), .int .u8 (List.getD y35.1.f_Dst 0 0), .int .u8 (List.getD y35.1.f_Dst 1 0), .int .u8 (List.getD y35.1.f_Dst 2 0), .int .u8 (List.getD y35.1.f_Dst 3 0), .int .u8 (List.getD y35.1.f_Dst 4 0), .int .u8 (List.getD y35.1.f_Dst 5 0), .int .u8 (List.getD y35.1.f_Dst 6 0), .int .u8 (List.getD y35.1.f_Dst 7 0), .int .u8 (List.getD y35.1.f_Dst 8 0), .int .u8 (List.getD y35.1.f_Dst 9 0), .int .u8 (List.getD y35.1.f_Dst 10 0), .int .u8 (List.getD y35.1.f_Dst 11 0), .int .u8 (List.getD y35.1.f_Dst 12 0), .int .u8 (List.getD y35.1.f_Dst 13 0), .int .u8 (List.getD y35.1.f_Dst 14 0), .int .u8 (List.getD y35.1.f_Dst 15 0)]) hM rfl sz52 rfl (adds_eq [] rfl) rfl rfl (One.all rfl) rfl rfl) fun w42 hM1 => ?_
    clear hM
    have hM := hM1
    clear hM1
    refine RL.val (O.assign rfl) rfl ?_
    refine RL.nil ?_
    refine KQ.then_n ?_
    refine KC.seq ?_
    refine KC.region ?_
    refine RL.val (O.move rfl) rfl ?_
    refine obindE hF fun y43 hx44 hF => ?_
    refine RL.call Try.func20 bd20 rfl rfl (c_kit_Own _ _ _ b2 (hM.inp hr5 Off.nil) _ hx44) fun v w45 hv => ?_
    obtain ⟨A47, c48, rfl, hN46⟩ := hv
    replace hM := hM.call hN46
    refine obindE hF fun y50 hx51 hF => ?_
    refine RL.call Try.func31 bd31 rfl rfl (c_ref06_Parse _ _ _ y43 (hM.rd (i := 5) rfl) _ hx51) fun v w52 hv => ?_
    obtain ⟨rfl, hN53⟩ := hv
    replace hM := hM.call0 hN53
    refine RL.val (O.move rfl) rfl ?_
    refine RL.val (O.ext rfl rfl) rfl ?_
    refine RL.val (O.ext rfl rfl) rfl ?_
    refine RL.eff (E.alloc hM ze56) rfl fun v w55 hv => ?_
    clear hM
    obtain ⟨g54, rfl, hM, hf⟩ := hv
    refine RL.effs (E.stB (j := 6) (off := 0) (vs := [.int .u8 y50.1.f_Class, .int .u32 y50.1.f_Flow, .int .u16 y50.1.f_Length, .int .u8 y50.1.f_Next, .int .u8 y50.1.f_Hops, .string y50.1.f_Src, .string y50.1.f_Dst]) (cs' := [.int .u8 y50.1.f_Class, .int .u32 y50.1.f_Flow, .int .u16 y50.1.f_Length, .int .u8 y50.1.f_Next, .int .u8 y50.1.f_Hops, .string y50.1.f_Src, .string y50.1.f_Dst]) hM rfl sz56 rfl (adds_eq [] rfl) rfl rfl (One.all rfl) rfl rfl) fun w57 hM1 => ?_
    clear hM
    have hM := hM1
    clear hM1
    refine RL.val (O.assign rfl) rfl ?_
    refine RL.nil ?_
    refine KQ.then_n ?_
    refine KC.seq ?_
    refine KC.cut (fun a w73 => ∃ (t72 : Bool), Kn 84 [(1, .slice A3 (b2).length c4), (2, .pointer (some ⟨g6, 0, none⟩)), (6, .slice A25 (y21.1).length c26), (7, .int .i64 y21.2), (63, .bool t72)] a ∧ Mem w [] w73 [.box g6 52 [.int .u8 h1.f_Class, .int .u32 h1.f_Flow, .int .u16 h1.f_Length, .int .u8 h1.f_Next, .int .u8 h1.f_Hops, .int .u8 (List.getD h1.f_Src 0 0), .int .u8 (List.getD h1.f_Src 1 0), .int .u8 (List.getD h1.f_Src 2 0), .int .u8 (List.getD h1.f_Src 3 0), .int .u8 (List.getD h1.f_Src 4 0), .int .u8 (List.getD h1.f_Src 5 0), .int .u8 (List.getD h1.f_Src 6 0), .int .u8 (List.getD h1.f_Src 7 0), .int .u8 (List.getD h1.f_Src 8 0), .int .u8 (List.getD h1.f_Src 9 0), .int .u8 (List.getD h1.f_Src 10 0), .int .u8 (List.getD h1.f_Src 11 0), .int .u8 (List.getD h1.f_Src 12 0), .int .u8 (List.getD h1.f_Src 13 0), .int .u8 (List.getD h1.f_Src 14 0), .int .u8 (List.getD h1.f_Src 15 0), .int .u8 (List.getD h1.f_Dst 0 0), .int .u8 (List.getD h1.f_Dst 1 0), .int .u8 (List.getD h1.f_Dst 2 0), .int .u8 (List.getD h1.f_Dst 3 0), .int .u8 (List.getD h1.f_Dst 4 0), .int .u8 (List.getD h1.f_Dst 5 0), .int .u8 (List.getD h1.f_Dst 6 0), .int .u8 (List.getD h1.f_Dst 7 0), .int .u8 (List.getD h1.f_Dst 8 0), .int .u8 (List.getD h1.f_Dst 9 0), .int .u8 (List.getD h1.f_Dst 10 0), .int .u8 (List.getD h1.f_Dst 11 0), .int .u8 (List.getD h1.f_Dst 12 0), .int .u8 (List.getD h1.f_Dst 13 0), .int .u8 (List.getD h1.f_Dst 14 0), .int .u8 (List.getD h1.f_Dst 15 0)], .row A25 c26 5 1 (y21.1).length ((y21.1).flatMap (eI .u8))] ∧ F_law06_IpsixHeads_j1 h1 b2 y21 t72 = some r) ?_ ?_
    · replace hM := hM.drewN 1
      refine KC.draw [] [] [6, 16, 18] [0, 1, 2, 3, 4, 5, 7, 8, 9, 10, 11, 12, 13, 14, 19, 20] (.ofList [0, 1, 2, 3, 4, 5, 6, 7, 8, 9, 10, 11, 12, 13, 14, 15, 17, 16, 18, 19, 20]) moP (by kernel_rfl) ?_
      refine RD.p rfl rfl rfl rfl (fun w' => O.move rfl) ?_
      refine RD.p rfl rfl rfl rfl (fun w' => O.move rfl) ?_
      refine RD.p rfl rfl rfl rfl (fun w' => O.neq rfl rfl) ?_
      refine RD.p rfl rfl rfl rfl (fun w' => O.move rfl) ?_
      refine RD.bcase (t := 46) rfl (fun hc => ?_) (fun hc => ?_)
      · rw [if_pos hc] at hF
        refine RD.brun1 [4, 5, 6, 7, 8, 9, 10, 11, 12, 13, 14, 15, 17, 16, 18, 19, 20] 63 true (by kernel_rfl) ?_
        refine RD.nil ?_
        refine KQ.then_k ?_
        replace hM := hM.pick [0, 2] rfl (by decide)
        exact fun a ha => ⟨true, ha.less (less_cons rfl (less_cons rfl (less_cons rfl (less_cons rfl (less_cons rfl less_nil))))), hM, hF⟩
      · rw [if_neg (ne_true hc)] at hF
        refine RD.gp rfl rfl rfl rfl rfl rfl (fun w' => O.move rfl) ?_
        refine RD.gp rfl rfl rfl rfl rfl rfl (fun w' => O.move rfl) ?_
        refine obindE hF fun y58 hx59 hF => ?_
        refine RD.mcall rfl rfl ⟨rfl, rfl⟩ Try.func15 bd15 rfl rfl (c_kit_SameBytes _ _ _ y21.1 (hM.rd (i := 2) rfl) _ _ y28.1 (hM.rd (i := 3) rfl) _ hx59) fun v w60 hv => ?_
        obtain ⟨rfl, hN61⟩ := hv
        refine ⟨fun _ => hN61.fut, ?_⟩
        replace hM := hM.call0 hN61
        refine RD.gp rfl rfl rfl rfl rfl rfl (fun w' => O.not rfl) ?_
        refine RD.p rfl rfl rfl rfl (fun w' => O.pickf rfl rfl) ?_
        refine RD.p rfl rfl rfl rfl (fun w' => O.move rfl) ?_
        refine RD.bcase (t := 52) rfl (fun hc => ?_) (fun hc => ?_)
        · rw [if_pos hc] at hF
          refine RD.brun1 [10, 11, 12, 13, 14, 15, 17, 16, 18, 19, 20] 63 true (by kernel_rfl) ?_
          refine RD.nil ?_
          refine KQ.then_k ?_
          replace hM := hM.pick [0, 2] rfl (by decide)
          exact fun a ha => ⟨true, ha.less (less_cons rfl (less_cons rfl (less_cons rfl (less_cons rfl (less_cons rfl less_nil))))), hM, hF⟩
        · rw [if_neg (ne_true hc)] at hF
          refine RD.gp rfl rfl rfl rfl rfl rfl (fun w' => O.move rfl) ?_
          refine RD.gp rfl rfl rfl rfl rfl rfl (fun w' => O.move rfl) ?_
          refine RD.gp rfl rfl rfl rfl rfl rfl (fun w' => O.neq rfl rfl) ?_
          refine RD.p rfl rfl rfl rfl (fun w' => O.pickf rfl rfl) ?_
          refine RD.p rfl rfl rfl rfl (fun w' => O.move rfl) ?_
          refine RD.bcase (t := 57) rfl (fun hc => ?_) (fun hc => ?_)
          · rw [if_pos hc] at hF
            refine RD.brun1 [15, 17, 16, 18, 19, 20] 63 true (by kernel_rfl) ?_
            refine RD.nil ?_
            refine KQ.then_k ?_
            replace hM := hM.pick [0, 2] rfl (by decide)
            exact fun a ha => ⟨true, ha.less (less_cons rfl (less_cons rfl (less_cons rfl (less_cons rfl (less_cons rfl less_nil))))), hM, hF⟩
          · rw [if_neg (ne_true hc)] at hF
            refine RD.gq rfl rfl rfl rfl rfl rfl (fun w' hf => O.loadN (cs := [.int .u8 y35.1.f_Class, .int .u32 y35.1.f_Flow, .int .u16 y35.1.f_Length, .int .u8 y35.1.f_Next, .int .u8 y35.1.f_Hops, .int .u8 (List.getD y35.1.f_Src 0 0), .int .u8 (List.getD y35.1.f_Src 1 0), .int .u8 (List.getD y35.1.f_Src 2 0), .int .u8 (List.getD y35.1.f_Src 3 0), .int .u8 (List.getD y35.1.f_Src 4 0), .int .u8 (List.getD y35.1.f_Src 5 0), .int .u8 (List.getD y35.1.f_Src 6 0), .int .u8 (List.getD y35.1.f_Src 7 0), .int .u8 (List.getD y35.1.f_Src 8 0), .int .u8 (List.getD y35.1.f_Src 9 0), .int .u8 (List.getD y35.1.f_Src 10 0), .int .u8 (List.getD y35.1.f_Src 11 0), .int .u8 (List.getD y35.1.f_Src 12 0), .int .u8 (List.getD y35.1.f_Src 13 0), .int .u8 (List.getD y35.1.f_Src 14 0), .int .u8 (List.getD y35.1.f_Src 15 0), .int .u8 (List.getD y35.1.f_Dst 0 0), .int .u8 (List.getD y35.1.f_Dst 1 0), .int .u8 (List.getD y35.1.f_Dst 2 0), .int .u8 (List.getD y35.1.f_Dst 3 0), .int .u8 (List.getD y35.1.f_Dst 4 0), .int .u8 (List.getD y35.1.f_Dst 5 0), .int .u8 (List.getD y35.1.f_Dst 6 0), .int .u8 (List.getD y35.1.f_Dst 7 0), .int .u8 (List.getD y35.1.f_Dst 8 0), .int .u8 (List.getD y35.1.f_Dst 9 0), .int .u8 (List.getD y35.1.f_Dst 10 0), .int .u8 (List.getD y35.1.f_Dst 11 0), .int .u8 (List.getD y35.1.f_Dst 12 0), .int .u8 (List.getD y35.1.f_Dst 13 0), .int .u8 (List.getD y35.1.f_Dst 14 0), .int .u8 (List.getD y35.1.f_Dst 15 0)]) ag52 rfl (Cs.addsN [] ((hM.bx (i := 4) rfl).fut hf) rfl)) ?_
            refine RD.gq rfl rfl rfl rfl rfl rfl (fun w' hf => O.loadN (cs := [.int .u8 y50.1.f_Class, .int .u32 y50.1.f_Flow, .int .u16 y50.1.f_Length, .int .u8 y50.1.f_Next, .int .u8 y50.1.f_Hops, .string y50.1.f_Src, .string y50.1.f_Dst]) ag56 rfl (Cs.addsN [] ((hM.bx (i := 6) rfl).fut hf) rfl)) ?_
            refine obindE hF fun y62 hx63 hF => ?_
            refine RD.mcall rfl rfl ⟨rfl, rfl⟩ Try.func25 bd25 rfl rfl (c_docs_Ipsix _ y35.1 _ hx63) fun v w64 hv => ?_
            obtain ⟨rfl, hN65⟩ := hv
            refine ⟨fun _ => hN65.fut, ?_⟩
            replace hM := hM.call0 hN65
            refine obindE hF fun y66 hx67 hF => ?_
            refine RD.mcall rfl rfl ⟨rfl, rfl⟩ Try.func26 bd26 rfl rfl (c_docs_NoIpsix _ y50.1 _ hx67) fun v w68 hv => ?_
            obtain ⟨rfl, hN69⟩ := hv
            refine ⟨fun _ => hN69.fut, ?_⟩
            replace hM := hM.call0 hN69
            refine RD.gp rfl rfl rfl rfl rfl rfl (fun w' => O.stne (cs := [.int .u8 y62.f_Class, .int .u32 y62.f_Flow, .int .u16 y62.f_Length, .int .u8 y62.f_Next, .int .u8 y62.f_Hops, .string y62.f_Src, .string y62.f_Dst]) (cs' := [.int .u8 y66.f_Class, .int .u32 y66.f_Flow, .int .u16 y66.f_Length, .int .u8 y66.f_Next, .int .u8 y66.f_Hops, .string y66.f_Src, .string y66.f_Dst]) (by kernel_rfl) rfl rfl (Q56t y62 y66 _ rfl rfl)) ?_
            refine RD.p rfl rfl rfl rfl (fun w' => O.pickf rfl rfl) ?_
            refine RD.nil ?_
            refine KQ.then_k ?_
            replace hM := hM.pick [0, 2] rfl (by decide)
            exact fun a ha => ⟨(!(q_ref06_Header y62 y66)), ha.less (less_cons rfl (less_cons rfl (less_cons rfl (less_cons rfl (less_cons rfl less_nil))))), hM, hF⟩
    · rintro a w73 ⟨t72, ha, hM, hF⟩
      refine KC.app ha ?_
      clear ha
      unfold F_law06_IpsixHeads_j1 at hF
      refine KC.cond rfl (fun hc => ?_) (fun hc => ?_)
      · rw [if_pos hc] at hF
        refine KC.seq ?_
        refine KC.region ?_
        refine RL.val (O.assign rfl) rfl ?_
        refine RL.nil ?_
        refine KQ.then_n ?_
        refine KC.ret ?_
        refine KQ.then_r ?_
        obtain rfl := Option.some.inj hF
        replace hM := hM.pick [] rfl (by decide)
        refine KQ.rets Try.results5 (RVs.cons (RV.tm rfl) RVs.nil) ?_
        exact ⟨_, rfl, rfl, hM⟩
      · rw [if_neg (ne_true hc)] at hF
        refine KC.skip ?_
        refine KQ.then_n ?_
        refine KC.seq ?_
        refine KC.seq ?_
        refine KC.region ?_
        refine RL.val (O.move rfl) rfl ?_
        refine RL.val (O.eql rfl rfl) rfl ?_
        refine RL.nil ?_
        refine KQ.then_n ?_
        refine KC.cond rfl (fun hc => ?_) (fun hc => ?_)
        · rw [if_pos hc] at hF
          refine KC.seq ?_
          refine KC.region ?_
          refine RL.val (O.move rfl) rfl ?_
          refine RL.val (O.move rfl) rfl ?_
          refine cut_someE hF fun hq77 hF => ?_
          refine RL.eff (E.app (enc := (eI .u8)) (xs := y21.1) (ys := b2) (j := 1) hM rfl sl31 ze5 rfl rfl rfl rfl rfl (hM.inp hr5 Off.nil) (fun _ => One.all rfl) (of_decide_eq_true hq77)) rfl fun v w76 hv => ?_
          clear hM
          obtain ⟨A74, c75, rfl, hM, hf⟩ := hv
          refine obindE hF fun y79 hx80 hF => ?_
          refine RL.call Try.func30 bd30 rfl rfl (c_ipsix_Parse _ _ _ (y21.1 ++ b2) (hM.rd (i := 1) rfl) _ hx80) fun v w81 hv => ?_
          obtain ⟨rfl, hN82⟩ := hv
          replace hM := hM.call0 hN82
          refine RL.val (O.move rfl) rfl ?_
          refine RL.val (O.ext rfl rfl) rfl ?_
          refine RL.val (O.ext rfl rfl) rfl ?_
          refine RL.eff (E.alloc hM ze52) rfl fun v w84 hv => ?_
          clear hM
          obtain ⟨g83, rfl, hM, hf⟩ := hv
          refine RL.effs (E.stB (j := 2) (off := 0) (vs := [.int .u8 y79.1.f_Class, .int .u32 y79.1.f_Flow, .int .u16 y79.1.f_Length, .int .u8 y79.1.f_Next, .int .u8 y79.1.f_Hops, .int .u8 (List.getD y79.1.f_Src 0 0), .int .u8 (List.getD y79.1.f_Src 1 0), .int .u8 (List.getD y79.1.f_Src 2 0), .int .u8 (List.getD y79.1.f_Src 3 0), .int .u8 (List.getD y79.1.f_Src 4 0), .int .u8 (List.getD y79.1.f_Src 5 0), .int .u8 (List.getD y79.1.f_Src 6 0), .int .u8 (List.getD y79.1.f_Src 7 0), .int .u8 (List.getD y79.1.f_Src 8 0), .int .u8 (List.getD y79.1.f_Src 9 0), .int .u8 (List.getD y79.1.f_Src 10 0), .int .u8 (List.getD y79.1.f_Src 11 0), .int .u8 (List.getD y79.1.f_Src 12 0), .int .u8 (List.getD y79.1.f_Src 13 0), .int .u8 (List.getD y79.1.f_Src 14 0), .int .u8 (List.getD y79.1.f_Src 15 0), .int .u8 (List.getD y79.1.f_Dst 0 0), .int .u8 (List.getD y79.1.f_Dst 1 0), .int .u8 (List.getD y79.1.f_Dst 2 0), .int .u8 (List.getD y79.1.f_Dst 3 0), .int .u8 (List.getD y79.1.f_Dst 4 0), .int .u8 (List.getD y79.1.f_Dst 5 0), .int .u8 (List.getD y79.1.f_Dst 6 0), .int .u8 (List.getD y79.1.f_Dst 7 0), .int .u8 (List.getD y79.1.f_Dst 8 0), .int .u8 (List.getD y79.1.f_Dst 9 0), .int .u8 (List.getD y79.1.f_Dst 10 0), .int .u8 (List.getD y79.1.f_Dst 11 0), .int .u8 (List.getD y79.1.f_Dst 12 0), .int .u8 (List.getD y79.1.f_Dst 13 0), .int .u8 (List.getD y79.1.f_Dst 14 0), .int .u8 (List.getD y79.1.f_Dst 15 0)]) (cs' := [.int .u8 y79.1.f_Class, .int .u32 y79.1.f_Flow, .int .u16 y79.1.f_Length, .int .u8 y79.1.f_Next, .int .u8 y79.1.f_Hops, .int .u8 (List.getD y79.1.f_Src 0 0), .int .u8 (List.getD y79.1.f_Src 1 0), .int .u8 (List.getD y79.1.f_Src 2 0), .int .u8 (List.getD y79.1.f_Src 3 0), .int .u8 (List.getD y79.1.f_Src 4 0), .int .u8 (List.getD y79.1.f_Src 5 0), .int .u8 (List.getD y79.1.f_Src 6 0), .int .u8 (List.getD y79.1.f_Src 7 0), .int .u8 (List.getD y79.1.f_Src 8 0), .int .u8 (List.getD y79.1.f_Src 9 0), .int .u8 (List.getD y79.1.f_Src 10 0), .int .u8 (List.getD y79.1.f_Src 11 0), .int .u8 (List.getD y79.1.f_Src 12 0), .int .u8 (List.getD y79.1.f_Src 13 0), .int .u8 (List.getD y79.1.f_Src 14 0), .int .u8 (List.getD y79.1.f_Src 15 0), .int .u8 (List.getD y79.1.f_Dst 0 0), .int .u8 (List.getD y79.1.f_Dst 1 0), .int .u8 (List.getD y79.1.f_Dst 2 0), .int .u8 (List.getD y79.1.f_Dst 3 0), .int .u8 (List.getD y79.1.f_Dst 4 0), .int .u8 (List.getD y79.1.f_Dst 5 0), .int .u8 (List.getD y79.1.f_Dst 6 0), .int .u8 (List.getD y79.1.f_Dst 7 0), .int .u8 (List.getD y79.1.f_Dst 8 0), .int .u8 (List.getD y79.1.f_Dst 9 0), .int .u8 (List.getD y79.1.f_Dst 10 0), .int .u8 (List.getD y79.1.f_Dst 11 0), .int .u8 (List.getD y79.1.f_Dst 12 0), .int .u8 (List.getD y79.1.f_Dst 13 0), .int .u8 (List.getD y79.1.f_Dst 14 0), .int .u8 (List.getD y79.1.f_Dst 15 0)]) hM rfl sz52 rfl (adds_eq [] rfl) rfl rfl (One.all rfl) rfl rfl) fun w86 hM1 => ?_
          clear hM
          have hM := hM1
          clear hM1
          refine RL.val (O.assign rfl) rfl ?_
          refine RL.nil ?_
          refine KQ.then_n ?_
          refine KC.cut (fun a w92 => ∃ (t91 : Bool), Kn 84 [(4, .bool t91)] a ∧ Mem w [] w92 [] ∧ F_law06_IpsixHeads_j2 t91 = some r) ?_ ?_
          · refine KC.region ?_
            refine RL.val (O.move rfl) rfl ?_
            refine RL.val (O.eql rfl rfl) rfl ?_
            refine RL.val (O.move rfl) rfl ?_
            refine RL.bcase (t := 75) rfl (fun hc => ?_) (fun hc => ?_)
            · rw [if_pos hc] at hF
              refine RL.gval rfl rfl (O.loadN (cs := [.int .u8 y79.1.f_Class, .int .u32 y79.1.f_Flow, .int .u16 y79.1.f_Length, .int .u8 y79.1.f_Next, .int .u8 y79.1.f_Hops, .int .u8 (List.getD y79.1.f_Src 0 0), .int .u8 (List.getD y79.1.f_Src 1 0), .int .u8 (List.getD y79.1.f_Src 2 0), .int .u8 (List.getD y79.1.f_Src 3 0), .int .u8 (List.getD y79.1.f_Src 4 0), .int .u8 (List.getD y79.1.f_Src 5 0), .int .u8 (List.getD y79.1.f_Src 6 0), .int .u8 (List.getD y79.1.f_Src 7 0), .int .u8 (List.getD y79.1.f_Src 8 0), .int .u8 (List.getD y79.1.f_Src 9 0), .int .u8 (List.getD y79.1.f_Src 10 0), .int .u8 (List.getD y79.1.f_Src 11 0), .int .u8 (List.getD y79.1.f_Src 12 0), .int .u8 (List.getD y79.1.f_Src 13 0), .int .u8 (List.getD y79.1.f_Src 14 0), .int .u8 (List.getD y79.1.f_Src 15 0), .int .u8 (List.getD y79.1.f_Dst 0 0), .int .u8 (List.getD y79.1.f_Dst 1 0), .int .u8 (List.getD y79.1.f_Dst 2 0), .int .u8 (List.getD y79.1.f_Dst 3 0), .int .u8 (List.getD y79.1.f_Dst 4 0), .int .u8 (List.getD y79.1.f_Dst 5 0), .int .u8 (List.getD y79.1.f_Dst 6 0), .int .u8 (List.getD y79.1.f_Dst 7 0), .int .u8 (List.getD y79.1.f_Dst 8 0), .int .u8 (List.getD y79.1.f_Dst 9 0), .int .u8 (List.getD y79.1.f_Dst 10 0), .int .u8 (List.getD y79.1.f_Dst 11 0), .int .u8 (List.getD y79.1.f_Dst 12 0), .int .u8 (List.getD y79.1.f_Dst 13 0), .int .u8 (List.getD y79.1.f_Dst 14 0), .int .u8 (List.getD y79.1.f_Dst 15 0)]) ag52 rfl (Cs.addsN [] ((hM.bx (i := 2) rfl)) rfl)) rfl ?_
              refine RL.gval rfl rfl (O.loadN (cs := [.int .u8 h1.f_Class, .int .u32 h1.f_Flow, .int .u16 h1.f_Length, .int .u8 h1.f_Next, .int .u8 h1.f_Hops, .int .u8 (List.getD h1.f_Src 0 0), .int .u8 (List.getD h1.f_Src 1 0), .int .u8 (List.getD h1.f_Src 2 0), .int .u8 (List.getD h1.f_Src 3 0), .int .u8 (List.getD h1.f_Src 4 0), .int .u8 (List.getD h1.f_Src 5 0), .int .u8 (List.getD h1.f_Src 6 0), .int .u8 (List.getD h1.f_Src 7 0), .int .u8 (List.getD h1.f_Src 8 0), .int .u8 (List.getD h1.f_Src 9 0), .int .u8 (List.getD h1.f_Src 10 0), .int .u8 (List.getD h1.f_Src 11 0), .int .u8 (List.getD h1.f_Src 12 0), .int .u8 (List.getD h1.f_Src 13 0), .int .u8 (List.getD h1.f_Src 14 0), .int .u8 (List.getD h1.f_Src 15 0), .int .u8 (List.getD h1.f_Dst 0 0), .int .u8 (List.getD h1.f_Dst 1 0), .int .u8 (List.getD h1.f_Dst 2 0), .int .u8 (List.getD h1.f_Dst 3 0), .int .u8 (List.getD h1.f_Dst 4 0), .int .u8 (List.getD h1.f_Dst 5 0), .int .u8 (List.getD h1.f_Dst 6 0), .int .u8 (List.getD h1.f_Dst 7 0), .int .u8 (List.getD h1.f_Dst 8 0), .int .u8 (List.getD h1.f_Dst 9 0), .int .u8 (List.getD h1.f_Dst 10 0), .int .u8 (List.getD h1.f_Dst 11 0), .int .u8 (List.getD h1.f_Dst 12 0), .int .u8 (List.getD h1.f_Dst 13 0), .int .u8 (List.getD h1.f_Dst 14 0), .int .u8 (List.getD h1.f_Dst 15 0)]) ag52 rfl (Cs.addsN [] ((hM.bx (i := 0) rfl)) rfl)) rfl ?_
              refine RL.gval rfl rfl (O.steq (cs := [.int .u8 y79.1.f_Class, .int .u32 y79.1.f_Flow, .int .u16 y79.1.f_Length, .int .u8 y79.1.f_Next, .int .u8 y79.1.f_Hops, .int .u8 (List.getD y79.1.f_Src 0 0), .int .u8 (List.getD y79.1.f_Src 1 0), .int .u8 (List.getD y79.1.f_Src 2 0), .int .u8 (List.getD y79.1.f_Src 3 0), .int .u8 (List.getD y79.1.f_Src 4 0), .int .u8 (List.getD y79.1.f_Src 5 0), .int .u8 (List.getD y79.1.f_Src 6 0), .int .u8 (List.getD y79.1.f_Src 7 0), .int .u8 (List.getD y79.1.f_Src 8 0), .int .u8 (List.getD y79.1.f_Src 9 0), .int .u8 (List.getD y79.1.f_Src 10 0), .int .u8 (List.getD y79.1.f_Src 11 0), .int .u8 (List.getD y79.1.f_Src 12 0), .int .u8 (List.getD y79.1.f_Src 13 0), .int .u8 (List.getD y79.1.f_Src 14 0), .int .u8 (List.getD y79.1.f_Src 15 0), .int .u8 (List.getD y79.1.f_Dst 0 0), .int .u8 (List.getD y79.1.f_Dst 1 0), .int .u8 (List.getD y79.1.f_Dst 2 0), .int .u8 (List.getD y79.1.f_Dst 3 0), .int .u8 (List.getD y79.1.f_Dst 4 0), .int .u8 (List.getD y79.1.f_Dst 5 0), .int .u8 (List.getD y79.1.f_Dst 6 0), .int .u8 (List.getD y79.1.f_Dst 7 0), .int .u8 (List.getD y79.1.f_Dst 8 0), .int .u8 (List.getD y79.1.f_Dst 9 0), .int .u8 (List.getD y79.1.f_Dst 10 0), .int .u8 (List.getD y79.1.f_Dst 11 0), .int .u8 (List.getD y79.1.f_Dst 12 0), .int .u8 (List.getD y79.1.f_Dst 13 0), .int .u8 (List.getD y79.1.f_Dst 14 0), .int .u8 (List.getD y79.1.f_Dst 15 0)]) (cs' := [.int .u8 h1.f_Class, .int .u32 h1.f_Flow, .int .u16 h1.f_Length, .int .u8 h1.f_Next, .int .u8 h1.f_Hops, .int .u8 (List.getD h1.f_Src 0 0), .int .u8 (List.getD h1.f_Src 1 0), .int .u8 (List.getD h1.f_Src 2 0), .int .u8 (List.getD h1.f_Src 3 0), .int .u8 (List.getD h1.f_Src 4 0), .int .u8 (List.getD h1.f_Src 5 0), .int .u8 (List.getD h1.f_Src 6 0), .int .u8 (List.getD h1.f_Src 7 0), .int .u8 (List.getD h1.f_Src 8 0), .int .u8 (List.getD h1.f_Src 9 0), .int .u8 (List.getD h1.f_Src 10 0), .int .u8 (List.getD h1.f_Src 11 0), .int .u8 (List.getD h1.f_Src 12 0), .int .u8 (List.getD h1.f_Src 13 0), .int .u8 (List.getD h1.f_Src 14 0), .int .u8 (List.getD h1.f_Src 15 0), .int .u8 (List.getD h1.f_Dst 0 0), .int .u8 (List.getD h1.f_Dst 1 0), .int .u8 (List.getD h1.f_Dst 2 0), .int .u8 (List.getD h1.f_Dst 3 0), .int .u8 (List.getD h1.f_Dst 4 0), .int .u8 (List.getD h1.f_Dst 5 0), .int .u8 (List.getD h1.f_Dst 6 0), .int .u8 (List.getD h1.f_Dst 7 0), .int .u8 (List.getD h1.f_Dst 8 0), .int .u8 (List.getD h1.f_Dst 9 0), .int .u8 (List.getD h1.f_Dst 10 0), .int .u8 (List.getD h1.f_Dst 11 0), .int .u8 (List.getD h1.f_Dst 12 0), .int .u8 (List.getD h1.f_Dst 13 0), .int .u8 (List.getD h1.f_Dst 14 0), .int .u8 (List.getD h1.f_Dst 15 0)]) (by kernel_rfl) rfl rfl (Q52t y79.1 h1 _ rfl rfl)) rfl ?_
              refine RL.val (O.pickt rfl rfl) rfl ?_
              refine RL.val (O.move rfl) rfl ?_
              refine RL.bcase (t := 80) rfl (fun hc => ?_) (fun hc => ?_)
              · rw [if_pos hc] at hF
                refine obindE hF fun y87 hx88 hF => ?_
                refine RL.gcall rfl rfl Try.func9 bd9 rfl rfl (c_law06_works _ _ hx88) fun v w89 hv => ?_
                obtain ⟨rfl, hN90⟩ := hv
                replace hM := hM.call0 hN90
                refine RL.val (O.pickt rfl rfl) rfl ?_
                refine RL.val (O.assign rfl) rfl ?_
                refine RL.nil ?_
                refine KQ.then_k ?_
                replace hM := hM.pick [] rfl (by decide)
                exact fun a ha => ⟨y87, ha.less (less_cons rfl less_nil), hM, hF⟩
              · rw [if_neg (ne_true hc)] at hF
                refine RL.gskip rfl rfl rfl rfl ?_
                refine RL.val (O.pickf rfl rfl) rfl ?_
                refine RL.val (O.assign rfl) rfl ?_
                refine RL.nil ?_
                refine KQ.then_k ?_
                replace hM := hM.pick [] rfl (by decide)
                exact fun a ha => ⟨false, ha.less (less_cons rfl less_nil), hM, hF⟩
            · rw [if_neg (ne_true hc)] at hF
              refine RL.brun1 7 82 false (by kernel_rfl) ?_
              refine RL.val (O.assign rfl) rfl ?_
              refine RL.nil ?_
              refine KQ.then_k ?_
              replace hM := hM.pick [] rfl (by decide)
              exact fun a ha => ⟨false, ha.less (less_cons rfl less_nil), hM, hF⟩
          · rintro a w92 ⟨t91, ha, hM, hF⟩
            refine KC.app ha ?_
            clear ha
            unfold F_law06_IpsixHeads_j2 at hF
            refine KC.ret ?_
            refine KQ.then_r ?_
            obtain rfl := Option.some.inj hF
            refine KQ.rets Try.results5 (RVs.cons (RV.tm rfl) RVs.nil) ?_
            exact ⟨_, rfl, rfl, hM⟩
        · rw [if_neg (ne_true hc)] at hF
          refine KC.skip ?_
          refine KQ.then_n ?_
          refine KC.seq ?_
          refine KC.region ?_
          refine obindE hF fun y93 hx94 hF => ?_
          refine RL.call Try.func9 bd9 rfl rfl (c_law06_works _ _ hx94) fun v w95 hv => ?_
          obtain ⟨rfl, hN96⟩ := hv
          replace hM := hM.call0 hN96
          refine RL.val (O.assign rfl) rfl ?_
          refine RL.nil ?_
          refine KQ.then_n ?_
          refine KC.ret ?_
          obtain rfl := Option.some.inj hF
          replace hM := hM.pick [] rfl (by decide)
          refine KQ.rets Try.results5 (RVs.cons (RV.tm rfl) RVs.nil) ?_
          exact ⟨_, rfl, rfl, hM⟩
end Go.Proofs.Ytikjomacnbemhaa
