/- Printed by a program of this claim: each call returns what the plain function of its name gives. -/
import Derived.Test.YtikjomacnbemhaaW5
set_option linter.unusedVariables false
namespace Go.Proofs.Ytikjomacnbemhaa
open Go Go.Ox Go.RowKit
set_option maxRecDepth 100000 in
set_option maxHeartbeats 40000000 in
theorem c_ipsix_Parse (w : World) (A2 : Option Addr) (c3 : Nat) (b1 : List Int) (hr4 : Rd w A2 c3 1 b1.length (b1.flatMap (eI .u8))) (r : T_ipsix_Header × Int) (hF : F_ipsix_Parse b1 = some r) :
    CallsR Try.prog 30 [.slice A2 (b1).length c3] w (fun v w' => v = .tuple #[.agg #[.int .u8 r.1.f_Class, .int .u32 r.1.f_Flow, .int .u16 r.1.f_Length, .int .u8 r.1.f_Next, .int .u8 r.1.f_Hops, .int .u8 (List.getD r.1.f_Src 0 0), .int .u8 (List.getD r.1.f_Src 1 0), .int .u8 (List.getD r.1.f_Src 2 0), .int .u8 (List.getD r.1.f_Src 3 0), .int .u8 (List.getD r.1.f_Src 4 0), .int .u8 (List.getD r.1.f_Src 5 0), .int .u8 (List.getD r.1.f_Src 6 0), .int .u8 (List.getD r.1.f_Src 7 0), .int .u8 (List.getD r.1.f_Src 8 0), .int .u8 (List.getD r.1.f_Src 9 0), .int .u8 (List.getD r.1.f_Src 10 0), .int .u8 (List.getD r.1.f_Src 11 0), .int .u8 (List.getD r.1.f_Src 12 0), .int .u8 (List.getD r.1.f_Src 13 0), .int .u8 (List.getD r.1.f_Src 14 0), .int .u8 (List.getD r.1.f_Src 15 0), .int .u8 (List.getD r.1.f_Dst 0 0), .int .u8 (List.getD r.1.f_Dst 1 0), .int .u8 (List.getD r.1.f_Dst 2 0), .int .u8 (List.getD r.1.f_Dst 3 0), .int .u8 (List.getD r.1.f_Dst 4 0), .int .u8 (List.getD r.1.f_Dst 5 0), .int .u8 (List.getD r.1.f_Dst 6 0), .int .u8 (List.getD r.1.f_Dst 7 0), .int .u8 (List.getD r.1.f_Dst 8 0), .int .u8 (List.getD r.1.f_Dst 9 0), .int .u8 (List.getD r.1.f_Dst 10 0), .int .u8 (List.getD r.1.f_Dst 11 0), .int .u8 (List.getD r.1.f_Dst 12 0), .int .u8 (List.getD r.1.f_Dst 13 0), .int .u8 (List.getD r.1.f_Dst 14 0), .int .u8 (List.getD r.1.f_Dst 15 0)], .int .i64 r.2] ∧ Mem w [] w' []) := by
  refine calls_KC Try.func30 rfl Try.ntmps30 rfl ?_
  have hM := Mem.init w
  unfold F_ipsix_Parse at hF
  refine KC.seq ?_
  refine KC.region ?_
  refine RL.eff (E.alloc hM ze52) rfl fun v w6 hv => ?_
  clear hM
  obtain ⟨g5, rfl, hM, hf⟩ := hv
  refine RL.val (O.assign rfl) rfl ?_
  refine RL.nil ?_
  refine KQ.then_n ?_
  refine KC.seq ?_
  refine KC.seq ?_
  refine KC.region ?_
  refine RL.val (O.move rfl) rfl ?_
  refine RL.val (O.len sl31 rfl) rfl ?_
  refine RL.val (O.lss rfl rfl) rfl ?_
  refine RL.nil ?_
  refine KQ.then_n ?_
  refine KC.cond rfl (fun hc => ?_) (fun hc => ?_)
  · rw [if_pos hc] at hF
    refine KC.seq ?_
    refine KC.region ?_
    refine RL.val (O.bld (cs := [.int .u8 0, .int .u32 0, .int .u16 0, .int .u8 0, .int .u8 0, .int .u8 (List.getD (List.replicate 16 0) 0 0), .int .u8 (List.getD (List.replicate 16 0) 1 0), .int .u8 (List.getD (List.replicate 16 0) 2 0), .int .u8 (List.getD (List.replicate 16 0) 3 0), .int .u8 (List.getD (List.replicate 16 0) 4 0), .int .u8 (List.getD (List.replicate 16 0) 5 0), .int .u8 (List.getD (List.replicate 16 0) 6 0), .int .u8 (List.getD (List.replicate 16 0) 7 0), .int .u8 (List.getD (List.replicate 16 0) 8 0), .int .u8 (List.getD (List.replicate 16 0) 9 0), .int .u8 (List.getD (List.replicate 16 0) 10 0), .int .u8 (List.getD (List.replicate 16 0) 11 0), .int .u8 (List.getD (List.replicate 16 0) 12 0), .int .u8 (List.getD (List.replicate 16 0) 13 0), .int .u8 (List.getD (List.replicate 16 0) 14 0), .int .u8 (List.getD (List.replicate 16 0) 15 0), .int .u8 (List.getD (List.replicate 16 0) 0 0), .int .u8 (List.getD (List.replicate 16 0) 1 0), .int .u8 (List.getD (List.replicate 16 0) 2 0), .int .u8 (List.getD (List.replicate 16 0) 3 0), .int .u8 (List.getD (List.replicate 16 0) 4 0), .int .u8 (List.getD (List.replicate 16 0) 5 0), .int .u8 (List.getD (List.replicate 16 0) 6 0), .int .u8 (List.getD (List.replicate 16 0) 7 0), .int .u8 (List.getD (List.replicate 16 0) 8 0), .int .u8 (List.getD (List.replicate 16 0) 9 0), .int .u8 (List.getD (List.replicate 16 0) 10 0), .int .u8 (List.getD (List.replicate 16 0) 11 0), .int .u8 (List.getD (List.replicate 16 0) 12 0), .int .u8 (List.getD (List.replicate 16 0) 13 0), .int .u8 (List.getD (List.replicate 16 0) 14 0), .int .u8 (List.getD (List.replicate 16 0) 15 0)]) bt52 rfl (by kernel_rfl)) rfl ?_
    refine RL.effs (E.stB (j := 0) (off := 0) (vs := [.int .u8 0, .int .u32 0, .int .u16 0, .int .u8 0, .int .u8 0, .int .u8 (List.getD (List.replicate 16 0) 0 0), .int .u8 (List.getD (List.replicate 16 0) 1 0), .int .u8 (List.getD (List.replicate 16 0) 2 0), .int .u8 (List.getD (List.replicate 16 0) 3 0), .int .u8 (List.getD (List.replicate 16 0) 4 0), .int .u8 (List.getD (List.replicate 16 0) 5 0), .int .u8 (List.getD (List.replicate 16 0) 6 0), .int .u8 (List.getD (List.replicate 16 0) 7 0), .int .u8 (List.getD (List.replicate 16 0) 8 0), .int .u8 (List.getD (List.replicate 16 0) 9 0), .int .u8 (List.getD (List.replicate 16 0) 10 0), .int .u8 (List.getD (List.replicate 16 0) 11 0), .int .u8 (List.getD (List.replicate 16 0) 12 0), .int .u8 (List.getD (List.replicate 16 0) 13 0), .int .u8 (List.getD (List.replicate 16 0) 14 0), .int .u8 (List.getD (List.replicate 16 0) 15 0), .int .u8 (List.getD (List.replicate 16 0) 0 0), .int .u8 (List.getD (List.replicate 16 0) 1 0), .int .u8 (List.getD (List.replicate 16 0) 2 0), .int .u8 (List.getD (List.replicate 16 0) 3 0), .int .u8 (List.getD (List.replicate 16 0) 4 0), .int .u8 (List.getD (List.replicate 16 0) 5 0), .int .u8 (List.getD (List.replicate 16 0) 6 0), .int .u8 (List.getD (List.replicate 16 0) 7 0), .int .u8 (List.getD (List.replicate 16 0) 8 0), .int .u8 (List.getD (List.replicate 16 0) 9 0), .int .u8 (List.getD (List.replicate 16 0) 10 0), .int .u8 (List.getD (List.replicate 16 0) 11 0), .int .u8 (List.getD (List.replicate 16 0) 12 0), .int .u8 (List.getD (List.replicate 16 0) 13 0), .int .u8 (List.getD (List.replicate 16 0) 14 0), .int .u8 (List.getD (List.replicate 16 0) 15 0)]) (cs' := [.int .u8 0, .int .u32 0, .int .u16 0, .int .u8 0, .int .u8 0, .int .u8 (List.getD (List.replicate 16 0) 0 0), .int .u8 (List.getD (List.replicate 16 0) 1 0), .int .u8 (List.getD (List.replicate 16 0) 2 0), .int .u8 (List.getD (List.replicate 16 0) 3 0), .int .u8 (List.getD (List.replicate 16 0) 4 0), .int .u8 (List.getD (List.replicate 16 0) 5 0), .int .u8 (List.getD (List.replicate 16 0) 6 0), .int .u8 (List.getD (List.replicate 16 0) 7 0), .int .u8 (List.getD (List.replicate 16 0) 8 0), .int .u8 (List.getD (List.replicate 16 0) 9 0), .int .u8 (List.getD (List.replicate 16 0) 10 0), .int .u8 (List.getD (List.replicate 16 0) 11 0), .int .u8 (List.getD (List.replicate 16 0) 12 0), .int .u8 (List.getD (List.replicate 16 0) 13 0), .int .u8 (List.getD (List.replicate 16 0) 14 0), .int .u8 (List.getD (List.replicate 16 0) 15 0), .int .u8 (List.getD (List.replicate 16 0) 0 0), .int .u8 (List.getD (List.replicate 16 0) 1 0), .int .u8 (List.getD (List.replicate 16 0) 2 0), .int .u8 (List.getD (List.replicate 16 0) 3 0), .int .u8 (List.getD (List.replicate 16 0) 4 0), .int .u8 (List.getD (List.replicate 16 0) 5 0), .int .u8 (List.getD (List.replicate 16 0) 6 0), .int .u8 (List.getD (List.replicate 16 0) 7 0), .int .u8 (List.getD (List.replicate 16 0) 8 0), .int .u8 (List.getD (List.replicate 16 0) 9 0), .int .u8 (List.getD (List.replicate 16 0) 10 0), .int .u8 (List.getD (List.replicate 16 0) 11 0), .int .u8 (List.getD (List.replicate 16 0) 12 0), .int .u8 (List.getD (List.replicate 16 0) 13 0), .int .u8 (List.getD (List.replicate 16 0) 14 0), .int .u8 (List.getD (List.replicate 16 0) 15 0)]) hM rfl sz52 rfl (adds_eq [] rfl) rfl rfl (One.all rfl) rfl rfl) fun w8 hM1 => ?_
    clear hM
    have hM := hM1
    clear hM1
    refine RL.val (O.assign rfl) rfl ?_
    refine RL.nil ?_
    refine KQ.then_n ?_
    refine KC.ret ?_
    refine KQ.then_r ?_
    obtain rfl := Option.some.inj hF
    have hb9 := hM.bx (i := 0) rfl
    replace hM := hM.pick [] rfl (by decide)
    refine KQ.rets Try.results30 (RVs.cons (RV.cN (cs := [.int .u8 0, .int .u32 0, .int .u16 0, .int .u8 0, .int .u8 0, .int .u8 (List.getD (List.replicate 16 0) 0 0), .int .u8 (List.getD (List.replicate 16 0) 1 0), .int .u8 (List.getD (List.replicate 16 0) 2 0), .int .u8 (List.getD (List.replicate 16 0) 3 0), .int .u8 (List.getD (List.replicate 16 0) 4 0), .int .u8 (List.getD (List.replicate 16 0) 5 0), .int .u8 (List.getD (List.replicate 16 0) 6 0), .int .u8 (List.getD (List.replicate 16 0) 7 0), .int .u8 (List.getD (List.replicate 16 0) 8 0), .int .u8 (List.getD (List.replicate 16 0) 9 0), .int .u8 (List.getD (List.replicate 16 0) 10 0), .int .u8 (List.getD (List.replicate 16 0) 11 0), .int .u8 (List.getD (List.replicate 16 0) 12 0), .int .u8 (List.getD (List.replicate 16 0) 13 0), .int .u8 (List.getD (List.replicate 16 0) 14 0), .int .u8 (List.getD (List.replicate 16 0) 15 0), .int .u8 (List.getD (List.replicate 16 0) 0 0), .int .u8 (List.getD (List.replicate 16 0) 1 0), .int .u8 (List.getD (List.replicate 16 0) 2 0), .int .u8 (List.getD (List.replicate 16 0) 3 0), .int .u8 (List.getD (List.replicate 16 0) 4 0), .int .u8 (List.getD (List.replicate 16 0) 5 0), .int .u8 (List.getD (List.replicate 16 0) 6 0), .int .u8 (List.getD (List.replicate 16 0) 7 0), .int .u8 (List.getD (List.replicate 16 0) 8 0), .int .u8 (List.getD (List.replicate 16 0) 9 0), .int .u8 (List.getD (List.replicate 16 0) 10 0), .int .u8 (List.getD (List.replicate 16 0) 11 0), .int .u8 (List.getD (List.replicate 16 0) 12 0), .int .u8 (List.getD (List.replicate 16 0) 13 0), .int .u8 (List.getD (List.replicate 16 0) 14 0), .int .u8 (List.getD (List.replicate 16 0) 15 0)]) rfl ag52 hb9) (RVs.cons (RV.tm rfl) RVs.nil)) ?_
    exact ⟨_, rfl, rfl, hM⟩
  · rw [if_neg (ne_true hc)] at hF
    refine KC.skip ?_
    refine KQ.then_n ?_
    refine KC.seq ?_
    refine KC.region ?_
    refine RL.val (O.move rfl) rfl ?_
    obtain ⟨y10, hx11, hF⟩ := obind hF
    refine RL.call Try.func35 bd35 rfl rfl (c_bits_Get _ _ _ b1 (hM.inp hr4 Off.nil) 0 4 _ hx11) fun v w12 hv => ?_
    obtain ⟨rfl, hN13⟩ := hv
    replace hM := hM.call0 hN13
    refine RL.val (O.move rfl) rfl ?_
    refine RL.val (O.ext rfl rfl) rfl ?_
    refine RL.val (O.ext rfl rfl) rfl ?_
    refine RL.val (O.assign rfl) rfl ?_
    refine RL.val (O.assign rfl) rfl ?_
    refine RL.nil ?_
    refine KQ.then_n ?_
    refine KC.seq ?_
    refine KC.region ?_
    refine RL.val (O.move rfl) rfl ?_
    obtain ⟨y14, hx15, hF⟩ := obind hF
    refine RL.call Try.func35 bd35 rfl rfl (c_bits_Get _ _ _ b1 (hM.inp hr4 Off.nil) 4 2 _ hx15) fun v w16 hv => ?_
    obtain ⟨rfl, hN17⟩ := hv
    replace hM := hM.call0 hN17
    refine RL.val (O.move rfl) rfl ?_
    refine RL.val (O.ext rfl rfl) rfl ?_
    refine RL.val (O.ext rfl rfl) rfl ?_
    refine RL.val (O.assign rfl) rfl ?_
    refine RL.val (O.assign rfl) rfl ?_
    refine RL.nil ?_
    refine KQ.then_n ?_
    refine KC.seq ?_
    refine KC.seq ?_
    refine KC.region ?_
    refine RL.val (O.move rfl) rfl ?_
    refine RL.val (O.shr rfl rfl (by decide)) rfl ?_
    refine RL.val (O.neq rfl rfl) rfl ?_
    refine RL.nil ?_
    refine KQ.then_n ?_
    refine KC.cond rfl (fun hc => ?_) (fun hc => ?_)
    · rw [if_pos hc] at hF
      refine KC.seq ?_
      refine KC.region ?_
      refine RL.val (O.bld (cs := [.int .u8 0, .int .u32 0, .int .u16 0, .int .u8 0, .int .u8 0, .int .u8 (List.getD (List.replicate 16 0) 0 0), .int .u8 (List.getD (List.replicate 16 0) 1 0), .int .u8 (List.getD (List.replicate 16 0) 2 0), .int .u8 (List.getD (List.replicate 16 0) 3 0), .int .u8 (List.getD (List.replicate 16 0) 4 0), .int .u8 (List.getD (List.replicate 16 0) 5 0), .int .u8 (List.getD (List.replicate 16 0) 6 0), .int .u8 (List.getD (List.replicate 16 0) 7 0), .int .u8 (List.getD (List.replicate 16 0) 8 0), .int .u8 (List.getD (List.replicate 16 0) 9 0), .int .u8 (List.getD (List.replicate 16 0) 10 0), .int .u8 (List.getD (List.replicate 16 0) 11 0), .int .u8 (List.getD (List.replicate 16 0) 12 0), .int .u8 (List.getD (List.replicate 16 0) 13 0), .int .u8 (List.getD (List.replicate 16 0) 14 0), .int .u8 (List.getD (List.replicate 16 0) 15 0), .int .u8 (List.getD (List.replicate 16 0) 0 0), .int .u8 (List.getD (List.replicate 16 0) 1 0), .int .u8 (List.getD (List.replicate 16 0) 2 0), .int .u8 (List.getD (List.replicate 16 0) 3 0), .int .u8 (List.getD (List.replicate 16 0) 4 0), .int .u8 (List.getD (List.replicate 16 0) 5 0), .int .u8 (List.getD (List.replicate 16 0) 6 0), .int .u8 (List.getD (List.replicate 16 0) 7 0), .int .u8 (List.getD (List.replicate 16 0) 8 0), .int .u8 (List.getD (List.replicate 16 0) 9 0), .int .u8 (List.getD (List.replicate 16 0) 10 0), .int .u8 (List.getD (List.replicate 16 0) 11 0), .int .u8 (List.getD (List.replicate 16 0) 12 0), .int .u8 (List.getD (List.replicate 16 0) 13 0), .int .u8 (List.getD (List.replicate 16 0) 14 0), .int .u8 (List.getD (List.replicate 16 0) 15 0)]) bt52 rfl (by kernel_rfl)) rfl ?_
      refine RL.effs (E.stB (j := 0) (off := 0) (vs := [.int .u8 0, .int .u32 0, .int .u16 0, .int .u8 0, .int .u8 0, .int .u8 (List.getD (List.replicate 16 0) 0 0), .int .u8 (List.getD (List.replicate 16 0) 1 0), .int .u8 (List.getD (List.replicate 16 0) 2 0), .int .u8 (List.getD (List.replicate 16 0) 3 0), .int .u8 (List.getD (List.replicate 16 0) 4 0), .int .u8 (List.getD (List.replicate 16 0) 5 0), .int .u8 (List.getD (List.replicate 16 0) 6 0), .int .u8 (List.getD (List.replicate 16 0) 7 0), .int .u8 (List.getD (List.replicate 16 0) 8 0), .int .u8 (List.getD (List.replicate 16 0) 9 0), .int .u8 (List.getD (List.replicate 16 0) 10 0), .int .u8 (List.getD (List.replicate 16 0) 11 0), .int .u8 (List.getD (List.replicate 16 0) 12 0), .int .u8 (List.getD (List.replicate 16 0) 13 0), .int .u8 (List.getD (List.replicate 16 0) 14 0), .int .u8 (List.getD (List.replicate 16 0) 15 0), .int .u8 (List.getD (List.replicate 16 0) 0 0), .int .u8 (List.getD (List.replicate 16 0) 1 0), .int .u8 (List.getD (List.replicate 16 0) 2 0), .int .u8 (List.getD (List.replicate 16 0) 3 0), .int .u8 (List.getD (List.replicate 16 0) 4 0), .int .u8 (List.getD (List.replicate 16 0) 5 0), .int .u8 (List.getD (List.replicate 16 0) 6 0), .int .u8 (List.getD (List.replicate 16 0) 7 0), .int .u8 (List.getD (List.replicate 16 0) 8 0), .int .u8 (List.getD (List.replicate 16 0) 9 0), .int .u8 (List.getD (List.replicate 16 0) 10 0), .int .u8 (List.getD (List.replicate 16 0) 11 0), .int .u8 (List.getD (List.replicate 16 0) 12 0), .int .u8 (List.getD (List.replicate 16 0) 13 0), .int .u8 (List.getD (List.replicate 16 0) 14 0), .int .u8 (List.getD (List.replicate 16 0) 15 0)]) (cs' := [.int .u8 0, .int .u32 0, .int .u16 0, .int .u8 0, .int .u8 0, .int .u8 (List.getD (List.replicate 16 0) 0 0), .int .u8 (List.getD (List.replicate 16 0) 1 0), .int .u8 (List.getD (List.replicate 16 0) 2 0), .int .u8 (List.getD (List.replicate 16 0) 3 0), .int .u8 (List.getD (List.replicate 16 0) 4 0), .int .u8 (List.getD (List.replicate 16 0) 5 0), .int .u8 (List.getD (List.replicate 16 0) 6 0), .int .u8 (List.getD (List.replicate 16 0) 7 0), .int .u8 (List.getD (List.replicate 16 0) 8 0), .int .u8 (List.getD (List.replicate 16 0) 9 0), .int .u8 (List.getD (List.replicate 16 0) 10 0), .int .u8 (List.getD (List.replicate 16 0) 11 0), .int .u8 (List.getD (List.replicate 16 0) 12 0), .int .u8 (List.getD (List.replicate 16 0) 13 0), .int .u8 (List.getD (List.replicate 16 0) 14 0), .int .u8 (List.getD (List.replicate 16 0) 15 0), .int .u8 (List.getD (List.replicate 16 0) 0 0), .int .u8 (List.getD (List.replicate 16 0) 1 0), .int .u8 (List.getD (List.replicate 16 0) 2 0), .int .u8 (List.getD (List.replicate 16 0) 3 0), .int .u8 (List.getD (List.replicate 16 0) 4 0), .int .u8 (List.getD (List.replicate 16 0) 5 0), .int .u8 (List.getD (List.replicate 16 0) 6 0), .int .u8 (List.getD (List.replicate 16 0) 7 0), .int .u8 (List.getD (List.replicate 16 0) 8 0), .int .u8 (List.getD (List.replicate 16 0) 9 0), .int .u8 (List.getD (List.replicate 16 0) 10 0), .int .u8 (List.getD (List.replicate 16 0) 11 0), .int .u8 (List.getD (List.replicate 16 0) 12 0), .int .u8 (List.getD (List.replicate 16 0) 13 0), .int .u8 (List.getD (List.replicate 16 0) 14 0), .int .u8 (List.getD (List.replicate 16 0) 15 0)]) hM rfl sz52 rfl (adds_eq [] rfl) rfl rfl (One.all rfl) rfl rfl) fun w18 hM1 => ?_
      clear hM
      have hM := hM1
      clear hM1
      refine RL.val (O.assign rfl) rfl ?_
      refine RL.nil ?_
      refine KQ.then_n ?_
      refine KC.ret ?_
      refine KQ.then_r ?_
      obtain rfl := Option.some.inj hF
      have hb19 := hM.bx (i := 0) rfl
      replace hM := hM.pick [] rfl (by decide)
      refine KQ.rets Try.results30 (RVs.cons (RV.cN (cs := [.int .u8 0, .int .u32 0, .int .u16 0, .int .u8 0, .int .u8 0, .int .u8 (List.getD (List.replicate 16 0) 0 0), .int .u8 (List.getD (List.replicate 16 0) 1 0), .int .u8 (List.getD (List.replicate 16 0) 2 0), .int .u8 (List.getD (List.replicate 16 0) 3 0), .int .u8 (List.getD (List.replicate 16 0) 4 0), .int .u8 (List.getD (List.replicate 16 0) 5 0), .int .u8 (List.getD (List.replicate 16 0) 6 0), .int .u8 (List.getD (List.replicate 16 0) 7 0), .int .u8 (List.getD (List.replicate 16 0) 8 0), .int .u8 (List.getD (List.replicate 16 0) 9 0), .int .u8 (List.getD (List.replicate 16 0) 10 0), .int .u8 (List.getD (List.replicate 16 0) 11 0), .int .u8 (List.getD (List.replicate 16 0) 12 0), .int .u8 (List.getD (List.replicate 16 0) 13 0), .int .u8 (List.getD (List.replicate 16 0) 14 0), .int .u8 (List.getD (List.replicate 16 0) 15 0), .int .u8 (List.getD (List.replicate 16 0) 0 0), .int .u8 (List.getD (List.replicate 16 0) 1 0), .int .u8 (List.getD (List.replicate 16 0) 2 0), .int .u8 (List.getD (List.replicate 16 0) 3 0), .int .u8 (List.getD (List.replicate 16 0) 4 0), .int .u8 (List.getD (List.replicate 16 0) 5 0), .int .u8 (List.getD (List.replicate 16 0) 6 0), .int .u8 (List.getD (List.replicate 16 0) 7 0), .int .u8 (List.getD (List.replicate 16 0) 8 0), .int .u8 (List.getD (List.replicate 16 0) 9 0), .int .u8 (List.getD (List.replicate 16 0) 10 0), .int .u8 (List.getD (List.replicate 16 0) 11 0), .int .u8 (List.getD (List.replicate 16 0) 12 0), .int .u8 (List.getD (List.replicate 16 0) 13 0), .int .u8 (List.getD (List.replicate 16 0) 14 0), .int .u8 (List.getD (List.replicate 16 0) 15 0)]) rfl ag52 hb19) (RVs.cons (RV.tm rfl) RVs.nil)) ?_
      exact ⟨_, rfl, rfl, hM⟩
    · rw [if_neg (ne_true hc)] at hF
      refine KC.skip ?_
      refine KQ.then_n ?_
      refine KC.seq ?_
      replace hM := hM.drewN 1
      refine KC.draw [] [23] [23] [0, 1, 2, 3, 4, 5, 6, 7, 8, 11, 14, 15, 18, 19, 24] (.ofList [0, 1, 2, 3, 4, 5, 6, 7, 8, 9, 10, 11, 12, 13, 14, 15, 16, 17, 18, 19, 20, 21, 22, 23, 24]) moP (by kernel_rfl) ?_
      refine RD.p rfl rfl rfl rfl (fun w' => O.move rfl) ?_
      refine RD.p rfl rfl rfl rfl (fun w' => O.shr rfl rfl (by decide)) ?_
      refine RD.p rfl rfl rfl rfl (fun w' => O.conv un81 Try.underlying5 rfl) ?_
      refine RD.p rfl rfl rfl rfl (fun w' => O.move rfl) ?_
      refine RD.p rfl rfl rfl rfl (fun w' => O.and rfl rfl) ?_
      refine RD.p rfl rfl rfl rfl (fun w' => O.conv un81 Try.underlying37 rfl) ?_
      refine RD.p rfl rfl rfl rfl (fun w' => O.move rfl) ?_
      refine RD.p rfl rfl rfl rfl (fun w' => O.conv un81 Try.underlying36 rfl) ?_
      refine RD.p rfl rfl rfl rfl (fun w' => O.move rfl) ?_
      obtain ⟨xv22, hx21, hF⟩ := obind hF
      have hA20 := Rd.atN (f := (eI .u8)) (s := 1) (fun _ => rfl) (by decide) (hM.inp hr4 Off.nil) hx21
      refine RD.q rfl rfl rfl rfl (fun w' hf => O.idxA sl31 (hA20.fut hf) rfl rfl) ?_
      refine RD.q rfl rfl rfl rfl (fun w' hf => O.load sc5 rfl (hA20.fut hf).cells.at0) ?_
      refine RD.p rfl rfl rfl rfl (fun w' => O.move rfl) ?_
      obtain ⟨xv25, hx24, hF⟩ := obind hF
      have hA23 := Rd.atN (f := (eI .u8)) (s := 1) (fun _ => rfl) (by decide) (hM.inp hr4 Off.nil) hx24
      refine RD.q rfl rfl rfl rfl (fun w' hf => O.idxA sl31 (hA23.fut hf) rfl rfl) ?_
      refine RD.q rfl rfl rfl rfl (fun w' hf => O.load sc5 rfl (hA23.fut hf).cells.at0) ?_
      refine RD.p rfl rfl rfl rfl (fun w' => O.move rfl) ?_
      obtain ⟨cut26, hy27, hF⟩ := obind hF
      obtain ⟨A28, c29, eA31, ec32⟩ := cutN A2 c3 (Int.toNat 8) 1
      have hr30 := Rd.cutT (enc := (eI .u8)) (s := 1) (fun _ => rfl) hr4 hy27 (m := c3) (by have := hr4.cap; have := (gcut_some hy27).2.2.1; omega) (Nat.le_refl _)
      rw [← eA31, ← ec32] at hr30
      refine RD.p (v := .slice A28 (cut26).length c29) rfl rfl rfl rfl (fun w' => (by rw [eA31, ec32]; exact O.cutT sl31 (hM.inp hr4 Off.nil) hy27 rfl rfl rfl)) ?_
      obtain ⟨hq33, hF⟩ := cut_some hF
      refine RD.q rfl rfl rfl rfl (fun w' hf => O.s2a Try.underlying50 (of_decide_eq_true hq33) rfl) ?_
      refine RD.q rfl rfl rfl rfl (fun w' hf => O.loadNs (cs := [.int .u8 (List.getD (arrL 16 cut26) 0 0), .int .u8 (List.getD (arrL 16 cut26) 1 0), .int .u8 (List.getD (arrL 16 cut26) 2 0), .int .u8 (List.getD (arrL 16 cut26) 3 0), .int .u8 (List.getD (arrL 16 cut26) 4 0), .int .u8 (List.getD (arrL 16 cut26) 5 0), .int .u8 (List.getD (arrL 16 cut26) 6 0), .int .u8 (List.getD (arrL 16 cut26) 7 0), .int .u8 (List.getD (arrL 16 cut26) 8 0), .int .u8 (List.getD (arrL 16 cut26) 9 0), .int .u8 (List.getD (arrL 16 cut26) 10 0), .int .u8 (List.getD (arrL 16 cut26) 11 0), .int .u8 (List.getD (arrL 16 cut26) 12 0), .int .u8 (List.getD (arrL 16 cut26) 13 0), .int .u8 (List.getD (arrL 16 cut26) 14 0), .int .u8 (List.getD (arrL 16 cut26) 15 0)]) (Rd.isSome (hM.inp hr30 Off.nil) (Nat.lt_of_lt_of_le (by decide) (of_decide_eq_true hq33))) ag50 rfl (Rd.arrCs (n := 16) (k := .u8) ((hM.inp hr30 Off.nil).fut hf) (of_decide_eq_true hq33))) ?_
      refine RD.p rfl rfl rfl rfl (fun w' => O.move rfl) ?_
      obtain ⟨cut34, hy35, hF⟩ := obind hF
      obtain ⟨A36, c37, eA39, ec40⟩ := cutN A2 c3 (Int.toNat 24) 1
      have hr38 := Rd.cutT (enc := (eI .u8)) (s := 1) (fun _ => rfl) hr4 hy35 (m := c3) (by have := hr4.cap; have := (gcut_some hy35).2.2.1; omega) (Nat.le_refl _)
      rw [← eA39, ← ec40] at hr38
      refine RD.p (v := .slice A36 (cut34).length c37) rfl rfl rfl rfl (fun w' => (by rw [eA39, ec40]; exact O.cutT sl31 (hM.inp hr4 Off.nil) hy35 rfl rfl rfl)) ?_
      obtain ⟨hq41, hF⟩ := cut_some hF
      refine RD.q rfl rfl rfl rfl (fun w' hf => O.s2a Try.underlying50 (of_decide_eq_true hq41) rfl) ?_
      refine RD.q rfl rfl rfl rfl (fun w' hf => O.loadNs (cs := [.int .u8 (List.getD (arrL 16 cut34) 0 0), .int .u8 (List.getD (arrL 16 cut34) 1 0), .int .u8 (List.getD (arrL 16 cut34) 2 0), .int .u8 (List.getD (arrL 16 cut34) 3 0), .int .u8 (List.getD (arrL 16 cut34) 4 0), .int .u8 (List.getD (arrL 16 cut34) 5 0), .int .u8 (List.getD (arrL 16 cut34) 6 0), .int .u8 (List.getD (arrL 16 cut34) 7 0), .int .u8 (List.getD (arrL 16 cut34) 8 0), .int .u8 (List.getD (arrL 16 cut34) 9 0), .int .u8 (List.getD (arrL 16 cut34) 10 0), .int .u8 (List.getD (arrL 16 cut34) 11 0), .int .u8 (List.getD (arrL 16 cut34) 12 0), .int .u8 (List.getD (arrL 16 cut34) 13 0), .int .u8 (List.getD (arrL 16 cut34) 14 0), .int .u8 (List.getD (arrL 16 cut34) 15 0)]) (Rd.isSome (hM.inp hr38 Off.nil) (Nat.lt_of_lt_of_le (by decide) (of_decide_eq_true hq41))) ag50 rfl (Rd.arrCs (n := 16) (k := .u8) ((hM.inp hr38 Off.nil).fut hf) (of_decide_eq_true hq41))) ?_
      refine RD.q rfl rfl rfl rfl (fun w' hf => O.bld (cs := [.int .u8 (IntKind.u8.wrap (Ox.shr .u64 y10.1 20)), .int .u32 (IntKind.u32.wrap (bits .and .u64 y10.1 1048575)), .int .u16 (IntKind.u16.wrap y14.1), .int .u8 xv22, .int .u8 xv25, .int .u8 (List.getD (arrL 16 cut26) 0 0), .int .u8 (List.getD (arrL 16 cut26) 1 0), .int .u8 (List.getD (arrL 16 cut26) 2 0), .int .u8 (List.getD (arrL 16 cut26) 3 0), .int .u8 (List.getD (arrL 16 cut26) 4 0), .int .u8 (List.getD (arrL 16 cut26) 5 0), .int .u8 (List.getD (arrL 16 cut26) 6 0), .int .u8 (List.getD (arrL 16 cut26) 7 0), .int .u8 (List.getD (arrL 16 cut26) 8 0), .int .u8 (List.getD (arrL 16 cut26) 9 0), .int .u8 (List.getD (arrL 16 cut26) 10 0), .int .u8 (List.getD (arrL 16 cut26) 11 0), .int .u8 (List.getD (arrL 16 cut26) 12 0), .int .u8 (List.getD (arrL 16 cut26) 13 0), .int .u8 (List.getD (arrL 16 cut26) 14 0), .int .u8 (List.getD (arrL 16 cut26) 15 0), .int .u8 (List.getD (arrL 16 cut34) 0 0), .int .u8 (List.getD (arrL 16 cut34) 1 0), .int .u8 (List.getD (arrL 16 cut34) 2 0), .int .u8 (List.getD (arrL 16 cut34) 3 0), .int .u8 (List.getD (arrL 16 cut34) 4 0), .int .u8 (List.getD (arrL 16 cut34) 5 0), .int .u8 (List.getD (arrL 16 cut34) 6 0), .int .u8 (List.getD (arrL 16 cut34) 7 0), .int .u8 (List.getD (arrL 16 cut34) 8 0), .int .u8 (List.getD (arrL 16 cut34) 9 0), .int .u8 (List.getD (arrL 16 cut34) 10 0), .int .u8 (List.getD (arrL 16 cut34) 11 0), .int .u8 (List.getD (arrL 16 cut34) 12 0), .int .u8 (List.getD (arrL 16 cut34) 13 0), .int .u8 (List.getD (arrL 16 cut34) 14 0), .int .u8 (List.getD (arrL 16 cut34) 15 0)]) bt52 rfl (by kernel_rfl)) ?_
      refine RD.meffs rfl rfl rfl (E.stB (j := 0) (off := 0) (vs := [.int .u8 (IntKind.u8.wrap (Ox.shr .u64 y10.1 20)), .int .u32 (IntKind.u32.wrap (bits .and .u64 y10.1 1048575)), .int .u16 (IntKind.u16.wrap y14.1), .int .u8 xv22, .int .u8 xv25, .int .u8 (List.getD (arrL 16 cut26) 0 0), .int .u8 (List.getD (arrL 16 cut26) 1 0), .int .u8 (List.getD (arrL 16 cut26) 2 0), .int .u8 (List.getD (arrL 16 cut26) 3 0), .int .u8 (List.getD (arrL 16 cut26) 4 0), .int .u8 (List.getD (arrL 16 cut26) 5 0), .int .u8 (List.getD (arrL 16 cut26) 6 0), .int .u8 (List.getD (arrL 16 cut26) 7 0), .int .u8 (List.getD (arrL 16 cut26) 8 0), .int .u8 (List.getD (arrL 16 cut26) 9 0), .int .u8 (List.getD (arrL 16 cut26) 10 0), .int .u8 (List.getD (arrL 16 cut26) 11 0), .int .u8 (List.getD (arrL 16 cut26) 12 0), .int .u8 (List.getD (arrL 16 cut26) 13 0), .int .u8 (List.getD (arrL 16 cut26) 14 0), .int .u8 (List.getD (arrL 16 cut26) 15 0), .int .u8 (List.getD (arrL 16 cut34) 0 0), .int .u8 (List.getD (arrL 16 cut34) 1 0), .int .u8 (List.getD (arrL 16 cut34) 2 0), .int .u8 (List.getD (arrL 16 cut34) 3 0), .int .u8 (List.getD (arrL 16 cut34) 4 0), .int .u8 (List.getD (arrL 16 cut34) 5 0), .int .u8 (List.getD (arrL 16 cut34) 6 0), .int .u8 (List.getD (arrL 16 cut34) 7 0), .int .u8 (List.getD (arrL 16 cut34) 8 0), .int .u8 (List.getD (arrL 16 cut34) 9 0), .int .u8 (List.getD (arrL 16 cut34) 10 0), .int .u8 (List.getD (arrL 16 cut34) 11 0), .int .u8 (List.getD (arrL 16 cut34) 12 0), .int .u8 (List.getD (arrL 16 cut34) 13 0), .int .u8 (List.getD (arrL 16 cut34) 14 0), .int .u8 (List.getD (arrL 16 cut34) 15 0)]) (cs' := [.int .u8 (IntKind.u8.wrap (Ox.shr .u64 y10.1 20)), .int .u32 (IntKind.u32.wrap (bits .and .u64 y10.1 1048575)), .int .u16 (IntKind.u16.wrap y14.1), .int .u8 xv22, .int .u8 xv25, .int .u8 (List.getD (arrL 16 cut26) 0 0), .int .u8 (List.getD (arrL 16 cut26) 1 0), .int .u8 (List.getD (arrL 16 cut26) 2 0), .int .u8 (List.getD (arrL 16 cut26) 3 0), .int .u8 (List.getD (arrL 16 cut26) 4 0), .int .u8 (List.getD (arrL 16 cut26) 5 0), .int .u8 (List.getD (arrL 16 cut26) 6 0), .int .u8 (List.getD (arrL 16 cut26) 7 0), .int .u8 (List.getD (arrL 16 cut26) 8 0), .int .u8 (List.getD (arrL 16 cut26) 9 0), .int .u8 (List.getD (arrL 16 cut26) 10 0), .int .u8 (List.getD (arrL 16 cut26) 11 0), .int .u8 (List.getD (arrL 16 cut26) 12 0), .int .u8 (List.getD (arrL 16 cut26) 13 0), .int .u8 (List.getD (arrL 16 cut26) 14 0), .int .u8 (List.getD (arrL 16 cut26) 15 0), .int .u8 (List.getD (arrL 16 cut34) 0 0), .int .u8 (List.getD (arrL 16 cut34) 1 0), .int .u8 (List.getD (arrL 16 cut34) 2 0), .int .u8 (List.getD (arrL 16 cut34) 3 0), .int .u8 (List.getD (arrL 16 cut34) 4 0), .int .u8 (List.getD (arrL 16 cut34) 5 0), .int .u8 (List.getD (arrL 16 cut34) 6 0), .int .u8 (List.getD (arrL 16 cut34) 7 0), .int .u8 (List.getD (arrL 16 cut34) 8 0), .int .u8 (List.getD (arrL 16 cut34) 9 0), .int .u8 (List.getD (arrL 16 cut34) 10 0), .int .u8 (List.getD (arrL 16 cut34) 11 0), .int .u8 (List.getD (arrL 16 cut34) 12 0), .int .u8 (List.getD (arrL 16 cut34) 13 0), .int .u8 (List.getD (arrL 16 cut34) 14 0), .int .u8 (List.getD (arrL 16 cut34) 15 0)]) hM rfl sz52 rfl (adds_eq [] rfl) rfl rfl (One.all rfl) rfl rfl) fun w42 hM1 => ?_
      clear hM
      have hM := hM1
      clear hM1
      refine RD.p rfl rfl rfl rfl (fun w' => O.assign rfl) ?_
      refine RD.nil ?_
      refine KQ.then_n ?_
      refine KC.ret ?_
      obtain rfl := Option.some.inj hF
      have hb43 := hM.bx (i := 0) rfl
      replace hM := hM.pick [] rfl (by decide)
      refine KQ.rets Try.results30 (RVs.cons (RV.cN (cs := [.int .u8 (IntKind.u8.wrap (Ox.shr .u64 y10.1 20)), .int .u32 (IntKind.u32.wrap (bits .and .u64 y10.1 1048575)), .int .u16 (IntKind.u16.wrap y14.1), .int .u8 xv22, .int .u8 xv25, .int .u8 (List.getD (arrL 16 cut26) 0 0), .int .u8 (List.getD (arrL 16 cut26) 1 0), .int .u8 (List.getD (arrL 16 cut26) 2 0), .int .u8 (List.getD (arrL 16 cut26) 3 0), .int .u8 (List.getD (arrL 16 cut26) 4 0), .int .u8 (List.getD (arrL 16 cut26) 5 0), .int .u8 (List.getD (arrL 16 cut26) 6 0), .int .u8 (List.getD (arrL 16 cut26) 7 0), .int .u8 (List.getD (arrL 16 cut26) 8 0), .int .u8 (List.getD (arrL 16 cut26) 9 0), .int .u8 (List.getD (arrL 16 cut26) 10 0), .int .u8 (List.getD (arrL 16 cut26) 11 0), .int .u8 (List.getD (arrL 16 cut26) 12 0), .int .u8 (List.getD (arrL 16 cut26) 13 0), .int .u8 (List.getD (arrL 16 cut26) 14 0), .int .u8 (List.getD (arrL 16 cut26) 15 0), .int .u8 (List.getD (arrL 16 cut34) 0 0), .int .u8 (List.getD (arrL 16 cut34) 1 0), .int .u8 (List.getD (arrL 16 cut34) 2 0), .int .u8 (List.getD (arrL 16 cut34) 3 0), .int .u8 (List.getD (arrL 16 cut34) 4 0), .int .u8 (List.getD (arrL 16 cut34) 5 0), .int .u8 (List.getD (arrL 16 cut34) 6 0), .int .u8 (List.getD (arrL 16 cut34) 7 0), .int .u8 (List.getD (arrL 16 cut34) 8 0), .int .u8 (List.getD (arrL 16 cut34) 9 0), .int .u8 (List.getD (arrL 16 cut34) 10 0), .int .u8 (List.getD (arrL 16 cut34) 11 0), .int .u8 (List.getD (arrL 16 cut34) 12 0), .int .u8 (List.getD (arrL 16 cut34) 13 0), .int .u8 (List.getD (arrL 16 cut34) 14 0), .int .u8 (List.getD (arrL 16 cut34) 15 0)]) rfl ag52 hb43) (RVs.cons (RV.tm rfl) RVs.nil)) ?_
      exact ⟨_, rfl, rfl, hM⟩
end Go.Proofs.Ytikjomacnbemhaa
