/- Printed by a program of this claim: each call returns what the plain function of its name gives. -/
import Derived.Test.YtikjomacnbemhaaW7
set_option linter.unusedVariables false
namespace Go.Proofs.Ytikjomacnbemhaa
open Go Go.Ox Go.RowKit
set_option maxRecDepth 100000 in
set_option maxHeartbeats 40000000 in
theorem c_ipsix_Body (w : World) (A2 : Option Addr) (c3 : Nat) (b1 : List Int) (hr4 : Rd w A2 c3 1 b1.length (b1.flatMap (eI .u8))) (r : T_ipsix_Header × T_ipsix_Chain × (List Int) × Int) (hF : F_ipsix_Body b1 = some r) :
    CallsR Try.prog 23 [.slice A2 (b1).length c3] w (fun v w' => ∃ (A0 : Option Addr) (c0 : Nat) (css1 : List (List Value)) (Z1 : List Nat) (A1 : Option Addr) (c1 : Nat), v = .tuple #[.agg #[.int .u8 r.1.f_Class, .int .u32 r.1.f_Flow, .int .u16 r.1.f_Length, .int .u8 r.1.f_Next, .int .u8 r.1.f_Hops, .int .u8 (List.getD r.1.f_Src 0 0), .int .u8 (List.getD r.1.f_Src 1 0), .int .u8 (List.getD r.1.f_Src 2 0), .int .u8 (List.getD r.1.f_Src 3 0), .int .u8 (List.getD r.1.f_Src 4 0), .int .u8 (List.getD r.1.f_Src 5 0), .int .u8 (List.getD r.1.f_Src 6 0), .int .u8 (List.getD r.1.f_Src 7 0), .int .u8 (List.getD r.1.f_Src 8 0), .int .u8 (List.getD r.1.f_Src 9 0), .int .u8 (List.getD r.1.f_Src 10 0), .int .u8 (List.getD r.1.f_Src 11 0), .int .u8 (List.getD r.1.f_Src 12 0), .int .u8 (List.getD r.1.f_Src 13 0), .int .u8 (List.getD r.1.f_Src 14 0), .int .u8 (List.getD r.1.f_Src 15 0), .int .u8 (List.getD r.1.f_Dst 0 0), .int .u8 (List.getD r.1.f_Dst 1 0), .int .u8 (List.getD r.1.f_Dst 2 0), .int .u8 (List.getD r.1.f_Dst 3 0), .int .u8 (List.getD r.1.f_Dst 4 0), .int .u8 (List.getD r.1.f_Dst 5 0), .int .u8 (List.getD r.1.f_Dst 6 0), .int .u8 (List.getD r.1.f_Dst 7 0), .int .u8 (List.getD r.1.f_Dst 8 0), .int .u8 (List.getD r.1.f_Dst 9 0), .int .u8 (List.getD r.1.f_Dst 10 0), .int .u8 (List.getD r.1.f_Dst 11 0), .int .u8 (List.getD r.1.f_Dst 12 0), .int .u8 (List.getD r.1.f_Dst 13 0), .int .u8 (List.getD r.1.f_Dst 14 0), .int .u8 (List.getD r.1.f_Dst 15 0)], .agg #[.slice A0 (r.2.1.f_Exts).length c0, .int .u8 r.2.1.f_Proto], .slice A1 (r.2.2.1).length c1, .int .i64 r.2.2.2] ∧ Mem w [] w' [.row A0 c0 63 2 r.2.1.f_Exts.length css1.flatten, .res Z1 (Els RO_ipsix_Ext 2 r.2.1.f_Exts css1 Z1), .row A1 c1 5 1 r.2.2.1.length (r.2.2.1.flatMap (eI .u8))]) := by
  refine calls_KC Try.func23 rfl Try.ntmps23 rfl ?_
  have hM := Mem.init w
  unfold F_ipsix_Body at hF
  refine KC.seq ?_
  refine KC.region ?_
  refine RL.eff (E.alloc hM ze52) rfl fun v w6 hv => ?_
  clear hM
  obtain ⟨g5, rfl, hM, hf⟩ := hv
  refine RL.eff (E.alloc hM ze24) rfl fun v w9 hv => ?_
  clear hM
  obtain ⟨g8, rfl, hM, hf⟩ := hv
  refine RL.val (O.assign rfl) rfl ?_
  refine RL.val (O.assign rfl) rfl ?_
  refine RL.nil ?_
  refine KQ.then_n ?_
  refine KC.seq ?_
  refine KC.region ?_
  refine RL.val (O.move rfl) rfl ?_
  refine obindE hF fun y11 hx12 hF => ?_
  refine RL.call Try.func30 bd30 rfl rfl (c_ipsix_Parse _ _ _ b1 (hM.inp hr4 Off.nil) _ hx12) fun v w13 hv => ?_
  obtain ⟨rfl, hN14⟩ := hv
  replace hM := hM.call0 hN14
  refine RL.val (O.move rfl) rfl ?_
  refine RL.val (O.ext rfl rfl) rfl ?_
  refine RL.val (O.ext rfl rfl) rfl ?_
  refine RL.eff (E.alloc hM ze52) rfl fun v w16 hv => ?_
  clear hM
  obtain ⟨g15, rfl, hM, hf⟩ := hv
  refine RL.effs (E.stB (j := 2) (off := 0) (vs := [.int .u8 y11.1.f_Class, .int .u32 y11.1.f_Flow, .int .u16 y11.1.f_Length, .int .u8 y11.1.f_Next, .int .u8 y11.1.f_Hops, .int .u8 (List.getD y11.1.f_Src 0 0), .int .u8 (List.getD y11.1.f_Src 1 0), .int .u8 (List.getD y11.1.f_Src 2 0), .int .u8 (List.getD y11.1.f_Src 3 0), .int .u8 (List.getD y11.1.f_Src 4 0), .int .u8 (List.getD y11.1.f_Src 5 0), .int .u8 (List.getD y11.1.f_Src 6 0), .int .u8 (List.getD y11.1.f_Src 7 0), .int .u8 (List.getD y11.1.f_Src 8 0), .int .u8 (List.getD y11.1.f_Src 9 0), .int .u8 (List.getD y11.1.f_Src 10 0), .int .u8 (List.getD y11.1.f_Src 11 0), .int .u8 (List.getD y11.1.f_Src 12 0), .int .u8 (List.getD y11.1.f_Src 13 0), .int .u8 (List.getD y11.1.f_Src 14 0), .int .u8 (List.getD y11.1.f_Src 15 0), .int .u8 (List.getD y11.1.f_Dst 0 0), .int .u8 (List.getD y11.1.f_Dst 1 0), .int .u8 (List.getD y11.1.f_Dst 2 0), .int .u8 (List.getD y11.1.f_Dst 3 0), .int .u8 (List.getD y11.1.f_Dst 4 0), .int .u8 (List.getD y11.1.f_Dst 5 0), .int .u8 (List.getD y11.1.f_Dst 6 0), .int .u8 (List.getD y11.1.f_Dst 7 0), .int .u8 (List.getD y11.1.f_Dst 8 0), .int .u8 (List.getD y11.1.f_Dst 9 0), .int .u8 (List.getD y11.1.f_Dst 10 0), .int .u8 (List.getD y11.1.f_Dst 11 0), .int .u8 (List.getD y11.1.f_Dst 12 0), .int .u8 (List.getD y11.1.f_Dst 13 0), .int .u8 (List.getD y11.1.f_Dst 14 0), .int .u8 (List.getD y11.1.f_Dst 15 0)]) (cs' := [.int .u8 y11.1.f_Class, .int .u32 y11.1.f_Flow, .int .u16 y11.1.f_Length, .int .u8 y11.1.f_Next, .int .u8 y11.1.f_Hops, .int .u8 (List.getD y11.1.f_Src 0 0), .int .u8 (List.getD y11.1.f_Src 1 0), .int .u8 (List.getD y11.1.f_Src 2 0), .int .u8 (List.getD y11.1.f_Src 3 0), .int .u8 (List.getD y11.1.f_Src 4 0), .int .u8 (List.getD y11.1.f_Src 5 0), .int .u8 (List.getD y11.1.f_Src 6 0), .int .u8 (List.getD y11.1.f_Src 7 0), .int .u8 (List.getD y11.1.f_Src 8 0), .int .u8 (List.getD y11.1.f_Src 9 0), .int .u8 (List.getD y11.1.f_Src 10 0), .int .u8 (List.getD y11.1.f_Src 11 0), .int .u8 (List.getD y11.1.f_Src 12 0), .int .u8 (List.getD y11.1.f_Src 13 0), .int .u8 (List.getD y11.1.f_Src 14 0), .int .u8 (List.getD y11.1.f_Src 15 0), .int .u8 (List.getD y11.1.f_Dst 0 0), .int .u8 (List.getD y11.1.f_Dst 1 0), .int .u8 (List.getD y11.1.f_Dst 2 0), .int .u8 (List.getD y11.1.f_Dst 3 0), .int .u8 (List.getD y11.1.f_Dst 4 0), .int .u8 (List.getD y11.1.f_Dst 5 0), .int .u8 (List.getD y11.1.f_Dst 6 0), .int .u8 (List.getD y11.1.f_Dst 7 0), .int .u8 (List.getD y11.1.f_Dst 8 0), .int .u8 (List.getD y11.1.f_Dst 9 0), .int .u8 (List.getD y11.1.f_Dst 10 0), .int .u8 (List.getD y11.1.f_Dst 11 0), .int .u8 (List.getD y11.1.f_Dst 12 0), .int .u8 (List.getD y11.1.f_Dst 13 0), .int .u8 (List.getD y11.1.f_Dst 14 0), .int .u8 (List.getD y11.1.f_Dst 15 0)]) hM rfl sz52 rfl (adds_eq [] rfl) rfl rfl (One.all rfl) rfl rfl) fun w18 hM1 => ?_
  clear hM
  have hM := hM1
  clear hM1
  refine RL.val (O.assign rfl) rfl ?_
  refine RL.nil ?_
  refine KQ.then_n ?_
  refine KC.seq ?_
  refine KC.seq ?_
  refine KC.region ?_
  refine RL.val (O.move rfl) rfl ?_
  refine RL.val (O.neq rfl rfl) rfl ?_
  refine RL.nil ?_
  refine KQ.then_n ?_
  refine KC.cond rfl (fun hc => ?_) (fun hc => ?_)
  · rw [if_pos hc] at hF
    refine KC.seq ?_
    refine KC.region ?_
    refine RL.val (O.bld (cs := [.int .u8 0, .int .u32 0, .int .u16 0, .int .u8 0, .int .u8 0, .int .u8 (List.getD (List.replicate 16 0) 0 0), .int .u8 (List.getD (List.replicate 16 0) 1 0), .int .u8 (List.getD (List.replicate 16 0) 2 0), .int .u8 (List.getD (List.replicate 16 0) 3 0), .int .u8 (List.getD (List.replicate 16 0) 4 0), .int .u8 (List.getD (List.replicate 16 0) 5 0), .int .u8 (List.getD (List.replicate 16 0) 6 0), .int .u8 (List.getD (List.replicate 16 0) 7 0), .int .u8 (List.getD (List.replicate 16 0) 8 0), .int .u8 (List.getD (List.replicate 16 0) 9 0), .int .u8 (List.getD (List.replicate 16 0) 10 0), .int .u8 (List.getD (List.replicate 16 0) 11 0), .int .u8 (List.getD (List.replicate 16 0) 12 0), .int .u8 (List.getD (List.replicate 16 0) 13 0), .int .u8 (List.getD (List.replicate 16 0) 14 0), .int .u8 (List.getD (List.replicate 16 0) 15 0), .int .u8 (List.getD (List.replicate 16 0) 0 0), .int .u8 (List.getD (List.replicate 16 0) 1 0), .int .u8 (List.getD (List.replicate 16 0) 2 0), .int .u8 (List.getD (List.replicate 16 0) 3 0), .int .u8 (List.getD (List.replicate 16 0) 4 0), .int .u8 (List.getD (List.replicate 16 0) 5 0), .int .u8 (List.getD (List.replicate 16 0) 6 0), .int .u8 (List.getD (List.replicate 16 0) 7 0), .int .u8 (List.getD (List.replicate 16 0) 8 0), .int .u8 (List.getD (List.replicate 16 0) 9 0), .int .u8 (List.getD (List.replicate 16 0) 10 0), .int .u8 (List.getD (List.replicate 16 0) 11 0), .int .u8 (List.getD (List.replicate 16 0) 12 0), .int .u8 (List.getD (List.replicate 16 0) 13 0), .int .u8 (List.getD (List.replicate 16 0) 14 0), .int .u8 (List.getD (List.replicate 16 0) 15 0)]) bt52 rfl (by kernel_rfl)) rfl ?_
    refine RL.val (O.bld (cs := [.slice none 0 0, .int .u8 0]) bt24 rfl (by kernel_rfl)) rfl ?_
    refine RL.val (O.move rfl) rfl ?_
    refine RL.effs (E.stB (j := 0) (off := 0) (vs := [.int .u8 0, .int .u32 0, .int .u16 0, .int .u8 0, .int .u8 0, .int .u8 (List.getD (List.replicate 16 0) 0 0), .int .u8 (List.getD (List.replicate 16 0) 1 0), .int .u8 (List.getD (List.replicate 16 0) 2 0), .int .u8 (List.getD (List.replicate 16 0) 3 0), .int .u8 (List.getD (List.replicate 16 0) 4 0), .int .u8 (List.getD (List.replicate 16 0) 5 0), .int .u8 (List.getD (List.replicate 16 0) 6 0), .int .u8 (List.getD (List.replicate 16 0) 7 0), .int .u8 (List.getD (List.replicate 16 0) 8 0), .int .u8 (List.getD (List.replicate 16 0) 9 0), .int .u8 (List.getD (List.replicate 16 0) 10 0), .int .u8 (List.getD (List.replicate 16 0) 11 0), .int .u8 (List.getD (List.replicate 16 0) 12 0), .int .u8 (List.getD (List.replicate 16 0) 13 0), .int .u8 (List.getD (List.replicate 16 0) 14 0), .int .u8 (List.getD (List.replicate 16 0) 15 0), .int .u8 (List.getD (List.replicate 16 0) 0 0), .int .u8 (List.getD (List.replicate 16 0) 1 0), .int .u8 (List.getD (List.replicate 16 0) 2 0), .int .u8 (List.getD (List.replicate 16 0) 3 0), .int .u8 (List.getD (List.replicate 16 0) 4 0), .int .u8 (List.getD (List.replicate 16 0) 5 0), .int .u8 (List.getD (List.replicate 16 0) 6 0), .int .u8 (List.getD (List.replicate 16 0) 7 0), .int .u8 (List.getD (List.replicate 16 0) 8 0), .int .u8 (List.getD (List.replicate 16 0) 9 0), .int .u8 (List.getD (List.replicate 16 0) 10 0), .int .u8 (List.getD (List.replicate 16 0) 11 0), .int .u8 (List.getD (List.replicate 16 0) 12 0), .int .u8 (List.getD (List.replicate 16 0) 13 0), .int .u8 (List.getD (List.replicate 16 0) 14 0), .int .u8 (List.getD (List.replicate 16 0) 15 0)]) (cs' := [.int .u8 0, .int .u32 0, .int .u16 0, .int .u8 0, .int .u8 0, .int .u8 (List.getD (List.replicate 16 0) 0 0), .int .u8 (List.getD (List.replicate 16 0) 1 0), .int .u8 (List.getD (List.replicate 16 0) 2 0), .int .u8 (List.getD (List.replicate 16 0) 3 0), .int .u8 (List.getD (List.replicate 16 0) 4 0), .int .u8 (List.getD (List.replicate 16 0) 5 0), .int .u8 (List.getD (List.replicate 16 0) 6 0), .int .u8 (List.getD (List.replicate 16 0) 7 0), .int .u8 (List.getD (List.replicate 16 0) 8 0), .int .u8 (List.getD (List.replicate 16 0) 9 0), .int .u8 (List.getD (List.replicate 16 0) 10 0), .int .u8 (List.getD (List.replicate 16 0) 11 0), .int .u8 (List.getD (List.replicate 16 0) 12 0), .int .u8 (List.getD (List.replicate 16 0) 13 0), .int .u8 (List.getD (List.replicate 16 0) 14 0), .int .u8 (List.getD (List.replicate 16 0) 15 0), .int .u8 (List.getD (List.replicate 16 0) 0 0), .int .u8 (List.getD (List.replicate 16 0) 1 0), .int .u8 (List.getD (List.replicate 16 0) 2 0), .int .u8 (List.getD (List.replicate 16 0) 3 0), .int .u8 (List.getD (List.replicate 16 0) 4 0), .int .u8 (List.getD (List.replicate 16 0) 5 0), .int .u8 (List.getD (List.replicate 16 0) 6 0), .int .u8 (List.getD (List.replicate 16 0) 7 0), .int .u8 (List.getD (List.replicate 16 0) 8 0), .int .u8 (List.getD (List.replicate 16 0) 9 0), .int .u8 (List.getD (List.replicate 16 0) 10 0), .int .u8 (List.getD (List.replicate 16 0) 11 0), .int .u8 (List.getD (List.replicate 16 0) 12 0), .int .u8 (List.getD (List.replicate 16 0) 13 0), .int .u8 (List.getD (List.replicate 16 0) 14 0), .int .u8 (List.getD (List.replicate 16 0) 15 0)]) hM rfl sz52 rfl (adds_eq [] rfl) rfl rfl (One.all rfl) rfl rfl) fun w19 hM1 => ?_
    clear hM
    have hM := hM1
    clear hM1
    refine RL.effs (E.stB (j := 1) (off := 0) (vs := [.slice none 0 0, .int .u8 0]) (cs' := [.slice none 0 0, .int .u8 0]) hM rfl sz24 rfl (adds_eq [] rfl) rfl rfl (One.all rfl) rfl rfl) fun w20 hM1 => ?_
    clear hM
    have hM := hM1
    clear hM1
    refine RL.val (O.assign rfl) rfl ?_
    refine RL.val (O.assign rfl) rfl ?_
    refine RL.nil ?_
    refine KQ.then_n ?_
    refine KC.ret ?_
    refine KQ.then_r ?_
    obtain rfl := Option.some.inj hF
    have hb21 := hM.bx (i := 0) rfl
    have hb22 := hM.bx (i := 1) rfl
    replace hM := hM.nilrow 63 2
    obtain ⟨Z23, hM⟩ := hM.glue [] [0, 1, 2, 3] rfl rfl (by decide) rfl (Els RO_ipsix_Ext 2 ([] : List T_ipsix_Ext) []) (fun Z w1 _ _ => Els.nil)
    replace hM := hM.nilrow 5 1
    replace hM := hM.pick [3, 4, 5] rfl (by decide)
    refine KQ.rets Try.results23 (RVs.cons (RV.cN (cs := [.int .u8 0, .int .u32 0, .int .u16 0, .int .u8 0, .int .u8 0, .int .u8 (List.getD (List.replicate 16 0) 0 0), .int .u8 (List.getD (List.replicate 16 0) 1 0), .int .u8 (List.getD (List.replicate 16 0) 2 0), .int .u8 (List.getD (List.replicate 16 0) 3 0), .int .u8 (List.getD (List.replicate 16 0) 4 0), .int .u8 (List.getD (List.replicate 16 0) 5 0), .int .u8 (List.getD (List.replicate 16 0) 6 0), .int .u8 (List.getD (List.replicate 16 0) 7 0), .int .u8 (List.getD (List.replicate 16 0) 8 0), .int .u8 (List.getD (List.replicate 16 0) 9 0), .int .u8 (List.getD (List.replicate 16 0) 10 0), .int .u8 (List.getD (List.replicate 16 0) 11 0), .int .u8 (List.getD (List.replicate 16 0) 12 0), .int .u8 (List.getD (List.replicate 16 0) 13 0), .int .u8 (List.getD (List.replicate 16 0) 14 0), .int .u8 (List.getD (List.replicate 16 0) 15 0), .int .u8 (List.getD (List.replicate 16 0) 0 0), .int .u8 (List.getD (List.replicate 16 0) 1 0), .int .u8 (List.getD (List.replicate 16 0) 2 0), .int .u8 (List.getD (List.replicate 16 0) 3 0), .int .u8 (List.getD (List.replicate 16 0) 4 0), .int .u8 (List.getD (List.replicate 16 0) 5 0), .int .u8 (List.getD (List.replicate 16 0) 6 0), .int .u8 (List.getD (List.replicate 16 0) 7 0), .int .u8 (List.getD (List.replicate 16 0) 8 0), .int .u8 (List.getD (List.replicate 16 0) 9 0), .int .u8 (List.getD (List.replicate 16 0) 10 0), .int .u8 (List.getD (List.replicate 16 0) 11 0), .int .u8 (List.getD (List.replicate 16 0) 12 0), .int .u8 (List.getD (List.replicate 16 0) 13 0), .int .u8 (List.getD (List.replicate 16 0) 14 0), .int .u8 (List.getD (List.replicate 16 0) 15 0)]) rfl ag52 hb21) (RVs.cons (RV.cN (cs := [.slice none 0 0, .int .u8 0]) rfl ag24 hb22) (RVs.cons (RV.tm rfl) (RVs.cons (RV.tm rfl) RVs.nil)))) ?_
    exact ⟨_, rfl, none, 0, [], Z23, none, 0, rfl, hM⟩
  · rw [if_neg (ne_true hc)] at hF
    refine KC.skip ?_
    refine KQ.then_n ?_
    refine KC.seq ?_
    refine KC.region ?_
    refine RL.val (O.fldA fl52_2 (by decide) rfl) rfl ?_
    refine RL.val (O.load sc36 rfl (Cs.adds [2] ((hM.bx (i := 2) rfl)) rfl)) rfl ?_
    refine RL.val (O.conv un36 Try.underlying3 rfl) rfl ?_
    refine RL.val (O.add rfl rfl) rfl ?_
    refine RL.val (O.assign rfl) rfl ?_
    refine RL.nil ?_
    refine KQ.then_n ?_
    refine KC.seq ?_
    refine KC.seq ?_
    refine KC.region ?_
    refine RL.val (O.move rfl) rfl ?_
    refine RL.val (O.len sl31 rfl) rfl ?_
    refine RL.val (O.move rfl) rfl ?_
    refine RL.val (O.lss rfl rfl) rfl ?_
    refine RL.nil ?_
    refine KQ.then_n ?_
    refine KC.cond rfl (fun hc => ?_) (fun hc => ?_)
    · rw [if_pos hc] at hF
      refine KC.seq ?_
      refine KC.region ?_
      refine RL.val (O.bld (cs := [.int .u8 0, .int .u32 0, .int .u16 0, .int .u8 0, .int .u8 0, .int .u8 (List.getD (List.replicate 16 0) 0 0), .int .u8 (List.getD (List.replicate 16 0) 1 0), .int .u8 (List.getD (List.replicate 16 0) 2 0), .int .u8 (List.getD (List.replicate 16 0) 3 0), .int .u8 (List.getD (List.replicate 16 0) 4 0), .int .u8 (List.getD (List.replicate 16 0) 5 0), .int .u8 (List.getD (List.replicate 16 0) 6 0), .int .u8 (List.getD (List.replicate 16 0) 7 0), .int .u8 (List.getD (List.replicate 16 0) 8 0), .int .u8 (List.getD (List.replicate 16 0) 9 0), .int .u8 (List.getD (List.replicate 16 0) 10 0), .int .u8 (List.getD (List.replicate 16 0) 11 0), .int .u8 (List.getD (List.replicate 16 0) 12 0), .int .u8 (List.getD (List.replicate 16 0) 13 0), .int .u8 (List.getD (List.replicate 16 0) 14 0), .int .u8 (List.getD (List.replicate 16 0) 15 0), .int .u8 (List.getD (List.replicate 16 0) 0 0), .int .u8 (List.getD (List.replicate 16 0) 1 0), .int .u8 (List.getD (List.replicate 16 0) 2 0), .int .u8 (List.getD (List.replicate 16 0) 3 0), .int .u8 (List.getD (List.replicate 16 0) 4 0), .int .u8 (List.getD (List.replicate 16 0) 5 0), .int .u8 (List.getD (List.replicate 16 0) 6 0), .int .u8 (List.getD (List.replicate 16 0) 7 0), .int .u8 (List.getD (List.replicate 16 0) 8 0), .int .u8 (List.getD (List.replicate 16 0) 9 0), .int .u8 (List.getD (List.replicate 16 0) 10 0), .int .u8 (List.getD (List.replicate 16 0) 11 0), .int .u8 (List.getD (List.replicate 16 0) 12 0), .int .u8 (List.getD (List.replicate 16 0) 13 0), .int .u8 (List.getD (List.replicate 16 0) 14 0), .int .u8 (List.getD (List.replicate 16 0) 15 0)]) bt52 rfl (by kernel_rfl)) rfl ?_
      refine RL.val (O.bld (cs := [.slice none 0 0, .int .u8 0]) bt24 rfl (by kernel_rfl)) rfl ?_
      refine RL.effs (E.stB (j := 0) (off := 0) (vs := [.int .u8 0, .int .u32 0, .int .u16 0, .int .u8 0, .int .u8 0, .int .u8 (List.getD (List.replicate 16 0) 0 0), .int .u8 (List.getD (List.replicate 16 0) 1 0), .int .u8 (List.getD (List.replicate 16 0) 2 0), .int .u8 (List.getD (List.replicate 16 0) 3 0), .int .u8 (List.getD (List.replicate 16 0) 4 0), .int .u8 (List.getD (List.replicate 16 0) 5 0), .int .u8 (List.getD (List.replicate 16 0) 6 0), .int .u8 (List.getD (List.replicate 16 0) 7 0), .int .u8 (List.getD (List.replicate 16 0) 8 0), .int .u8 (List.getD (List.replicate 16 0) 9 0), .int .u8 (List.getD (List.replicate 16 0) 10 0), .int .u8 (List.getD (List.replicate 16 0) 11 0), .int .u8 (List.getD (List.replicate 16 0) 12 0), .int .u8 (List.getD (List.replicate 16 0) 13 0), .int .u8 (List.getD (List.replicate 16 0) 14 0), .int .u8 (List.getD (List.replicate 16 0) 15 0), .int .u8 (List.getD (List.replicate 16 0) 0 0), .int .u8 (List.getD (List.replicate 16 0) 1 0), .int .u8 (List.getD (List.replicate 16 0) 2 0), .int .u8 (List.getD (List.replicate 16 0) 3 0), .int .u8 (List.getD (List.replicate 16 0) 4 0), .int .u8 (List.getD (List.replicate 16 0) 5 0), .int .u8 (List.getD (List.replicate 16 0) 6 0), .int .u8 (List.getD (List.replicate 16 0) 7 0), .int .u8 (List.getD (List.replicate 16 0) 8 0), .int .u8 (List.getD (List.replicate 16 0) 9 0), .int .u8 (List.getD (List.replicate 16 0) 10 0), .int .u8 (List.getD (List.replicate 16 0) 11 0), .int .u8 (List.getD (List.replicate 16 0) 12 0), .int .u8 (List.getD (List.replicate 16 0) 13 0), .int .u8 (List.getD (List.replicate 16 0) 14 0), .int .u8 (List.getD (List.replicate 16 0) 15 0)]) (cs' := [.int .u8 0, .int .u32 0, .int .u16 0, .int .u8 0, .int .u8 0, .int .u8 (List.getD (List.replicate 16 0) 0 0), .int .u8 (List.getD (List.replicate 16 0) 1 0), .int .u8 (List.getD (List.replicate 16 0) 2 0), .int .u8 (List.getD (List.replicate 16 0) 3 0), .int .u8 (List.getD (List.replicate 16 0) 4 0), .int .u8 (List.getD (List.replicate 16 0) 5 0), .int .u8 (List.getD (List.replicate 16 0) 6 0), .int .u8 (List.getD (List.replicate 16 0) 7 0), .int .u8 (List.getD (List.replicate 16 0) 8 0), .int .u8 (List.getD (List.replicate 16 0) 9 0), .int .u8 (List.getD (List.replicate 16 0) 10 0), .int .u8 (List.getD (List.replicate 16 0) 11 0), .int .u8 (List.getD (List.replicate 16 0) 12 0), .int .u8 (List.getD (List.replicate 16 0) 13 0), .int .u8 (List.getD (List.replicate 16 0) 14 0), .int .u8 (List.getD (List.replicate 16 0) 15 0), .int .u8 (List.getD (List.replicate 16 0) 0 0), .int .u8 (List.getD (List.replicate 16 0) 1 0), .int .u8 (List.getD (List.replicate 16 0) 2 0), .int .u8 (List.getD (List.replicate 16 0) 3 0), .int .u8 (List.getD (List.replicate 16 0) 4 0), .int .u8 (List.getD (List.replicate 16 0) 5 0), .int .u8 (List.getD (List.replicate 16 0) 6 0), .int .u8 (List.getD (List.replicate 16 0) 7 0), .int .u8 (List.getD (List.replicate 16 0) 8 0), .int .u8 (List.getD (List.replicate 16 0) 9 0), .int .u8 (List.getD (List.replicate 16 0) 10 0), .int .u8 (List.getD (List.replicate 16 0) 11 0), .int .u8 (List.getD (List.replicate 16 0) 12 0), .int .u8 (List.getD (List.replicate 16 0) 13 0), .int .u8 (List.getD (List.replicate 16 0) 14 0), .int .u8 (List.getD (List.replicate 16 0) 15 0)]) hM rfl sz52 rfl (adds_eq [] rfl) rfl rfl (One.all rfl) rfl rfl) fun w24 hM1 => ?_
      clear hM
      have hM := hM1
      clear hM1
      refine RL.effs (E.stB (j := 1) (off := 0) (vs := [.slice none 0 0, .int .u8 0]) (cs' := [.slice none 0 0, .int .u8 0]) hM rfl sz24 rfl (adds_eq [] rfl) rfl rfl (One.all rfl) rfl rfl) fun w25 hM1 => ?_
      clear hM
      have hM := hM1
      clear hM1
      refine RL.val (O.assign rfl) rfl ?_
      refine RL.val (O.assign rfl) rfl ?_
      refine RL.nil ?_
      refine KQ.then_n ?_
      refine KC.ret ?_
      refine KQ.then_r ?_
      obtain rfl := Option.some.inj hF
      have hb26 := hM.bx (i := 0) rfl
      have hb27 := hM.bx (i := 1) rfl
      replace hM := hM.nilrow 63 2
      obtain ⟨Z28, hM⟩ := hM.glue [] [0, 1, 2, 3] rfl rfl (by decide) rfl (Els RO_ipsix_Ext 2 ([] : List T_ipsix_Ext) []) (fun Z w1 _ _ => Els.nil)
      replace hM := hM.nilrow 5 1
      replace hM := hM.pick [3, 4, 5] rfl (by decide)
      refine KQ.rets Try.results23 (RVs.cons (RV.cN (cs := [.int .u8 0, .int .u32 0, .int .u16 0, .int .u8 0, .int .u8 0, .int .u8 (List.getD (List.replicate 16 0) 0 0), .int .u8 (List.getD (List.replicate 16 0) 1 0), .int .u8 (List.getD (List.replicate 16 0) 2 0), .int .u8 (List.getD (List.replicate 16 0) 3 0), .int .u8 (List.getD (List.replicate 16 0) 4 0), .int .u8 (List.getD (List.replicate 16 0) 5 0), .int .u8 (List.getD (List.replicate 16 0) 6 0), .int .u8 (List.getD (List.replicate 16 0) 7 0), .int .u8 (List.getD (List.replicate 16 0) 8 0), .int .u8 (List.getD (List.replicate 16 0) 9 0), .int .u8 (List.getD (List.replicate 16 0) 10 0), .int .u8 (List.getD (List.replicate 16 0) 11 0), .int .u8 (List.getD (List.replicate 16 0) 12 0), .int .u8 (List.getD (List.replicate 16 0) 13 0), .int .u8 (List.getD (List.replicate 16 0) 14 0), .int .u8 (List.getD (List.replicate 16 0) 15 0), .int .u8 (List.getD (List.replicate 16 0) 0 0), .int .u8 (List.getD (List.replicate 16 0) 1 0), .int .u8 (List.getD (List.replicate 16 0) 2 0), .int .u8 (List.getD (List.replicate 16 0) 3 0), .int .u8 (List.getD (List.replicate 16 0) 4 0), .int .u8 (List.getD (List.replicate 16 0) 5 0), .int .u8 (List.getD (List.replicate 16 0) 6 0), .int .u8 (List.getD (List.replicate 16 0) 7 0), .int .u8 (List.getD (List.replicate 16 0) 8 0), .int .u8 (List.getD (List.replicate 16 0) 9 0), .int .u8 (List.getD (List.replicate 16 0) 10 0), .int .u8 (List.getD (List.replicate 16 0) 11 0), .int .u8 (List.getD (List.replicate 16 0) 12 0), .int .u8 (List.getD (List.replicate 16 0) 13 0), .int .u8 (List.getD (List.replicate 16 0) 14 0), .int .u8 (List.getD (List.replicate 16 0) 15 0)]) rfl ag52 hb26) (RVs.cons (RV.cN (cs := [.slice none 0 0, .int .u8 0]) rfl ag24 hb27) (RVs.cons (RV.tm rfl) (RVs.cons (RV.tm rfl) RVs.nil)))) ?_
      exact ⟨_, rfl, none, 0, [], Z28, none, 0, rfl, hM⟩
    · rw [if_neg (ne_true hc)] at hF
      refine KC.skip ?_
      refine KQ.then_n ?_
      refine KC.cut (fun a w79 => ∃ (g69 : Nat) (A71 : Option Addr) (c72 : Nat) (css73 : List (List Value)) (Z74 : List Nat) (ev67 : Int) (cv76 : List T_ipsix_Ext) (cv77 : Int) (nv78 : Int), Kn 54 [(0, .slice A2 (b1).length c3), (2, .pointer (some ⟨g5, 0, none⟩)), (3, .pointer (some ⟨g8, 0, none⟩)), (6, .pointer (some ⟨g15, 0, none⟩)), (7, .int .i64 ev67), (8, .int .i64 (IntKind.i64.wrap (40 + (IntKind.i64.wrap y11.1.f_Length)))), (9, .pointer (some ⟨g69, 0, none⟩)), (10, .int .i64 nv78)] a ∧ Mem w [] w79 [.box g5 52 [.int .u8 0, .int .u32 0, .int .u16 0, .int .u8 0, .int .u8 0, .int .u8 (List.getD (List.replicate 16 0) 0 0), .int .u8 (List.getD (List.replicate 16 0) 1 0), .int .u8 (List.getD (List.replicate 16 0) 2 0), .int .u8 (List.getD (List.replicate 16 0) 3 0), .int .u8 (List.getD (List.replicate 16 0) 4 0), .int .u8 (List.getD (List.replicate 16 0) 5 0), .int .u8 (List.getD (List.replicate 16 0) 6 0), .int .u8 (List.getD (List.replicate 16 0) 7 0), .int .u8 (List.getD (List.replicate 16 0) 8 0), .int .u8 (List.getD (List.replicate 16 0) 9 0), .int .u8 (List.getD (List.replicate 16 0) 10 0), .int .u8 (List.getD (List.replicate 16 0) 11 0), .int .u8 (List.getD (List.replicate 16 0) 12 0), .int .u8 (List.getD (List.replicate 16 0) 13 0), .int .u8 (List.getD (List.replicate 16 0) 14 0), .int .u8 (List.getD (List.replicate 16 0) 15 0), .int .u8 (List.getD (List.replicate 16 0) 0 0), .int .u8 (List.getD (List.replicate 16 0) 1 0), .int .u8 (List.getD (List.replicate 16 0) 2 0), .int .u8 (List.getD (List.replicate 16 0) 3 0), .int .u8 (List.getD (List.replicate 16 0) 4 0), .int .u8 (List.getD (List.replicate 16 0) 5 0), .int .u8 (List.getD (List.replicate 16 0) 6 0), .int .u8 (List.getD (List.replicate 16 0) 7 0), .int .u8 (List.getD (List.replicate 16 0) 8 0), .int .u8 (List.getD (List.replicate 16 0) 9 0), .int .u8 (List.getD (List.replicate 16 0) 10 0), .int .u8 (List.getD (List.replicate 16 0) 11 0), .int .u8 (List.getD (List.replicate 16 0) 12 0), .int .u8 (List.getD (List.replicate 16 0) 13 0), .int .u8 (List.getD (List.replicate 16 0) 14 0), .int .u8 (List.getD (List.replicate 16 0) 15 0)], .box g8 24 [.slice none 0 0, .int .u8 0], .box g15 52 [.int .u8 y11.1.f_Class, .int .u32 y11.1.f_Flow, .int .u16 y11.1.f_Length, .int .u8 y11.1.f_Next, .int .u8 y11.1.f_Hops, .int .u8 (List.getD y11.1.f_Src 0 0), .int .u8 (List.getD y11.1.f_Src 1 0), .int .u8 (List.getD y11.1.f_Src 2 0), .int .u8 (List.getD y11.1.f_Src 3 0), .int .u8 (List.getD y11.1.f_Src 4 0), .int .u8 (List.getD y11.1.f_Src 5 0), .int .u8 (List.getD y11.1.f_Src 6 0), .int .u8 (List.getD y11.1.f_Src 7 0), .int .u8 (List.getD y11.1.f_Src 8 0), .int .u8 (List.getD y11.1.f_Src 9 0), .int .u8 (List.getD y11.1.f_Src 10 0), .int .u8 (List.getD y11.1.f_Src 11 0), .int .u8 (List.getD y11.1.f_Src 12 0), .int .u8 (List.getD y11.1.f_Src 13 0), .int .u8 (List.getD y11.1.f_Src 14 0), .int .u8 (List.getD y11.1.f_Src 15 0), .int .u8 (List.getD y11.1.f_Dst 0 0), .int .u8 (List.getD y11.1.f_Dst 1 0), .int .u8 (List.getD y11.1.f_Dst 2 0), .int .u8 (List.getD y11.1.f_Dst 3 0), .int .u8 (List.getD y11.1.f_Dst 4 0), .int .u8 (List.getD y11.1.f_Dst 5 0), .int .u8 (List.getD y11.1.f_Dst 6 0), .int .u8 (List.getD y11.1.f_Dst 7 0), .int .u8 (List.getD y11.1.f_Dst 8 0), .int .u8 (List.getD y11.1.f_Dst 9 0), .int .u8 (List.getD y11.1.f_Dst 10 0), .int .u8 (List.getD y11.1.f_Dst 11 0), .int .u8 (List.getD y11.1.f_Dst 12 0), .int .u8 (List.getD y11.1.f_Dst 13 0), .int .u8 (List.getD y11.1.f_Dst 14 0), .int .u8 (List.getD y11.1.f_Dst 15 0)], .row A71 c72 63 2 (cv76).length (css73).flatten, .res Z74 (Els RO_ipsix_Ext 2 cv76 css73 Z74), .box g69 24 [.slice A71 (cv76).length c72, .int .u8 cv77]] ∧ F_ipsix_Body_j1 b1 y11 ev67 cv76 cv77 nv78 = some r) ?_ ?_
      · replace hM := hM.drewN 1
        refine KC.draw [] [11] [5, 10, 11] [0, 2, 3, 4, 6, 7, 8, 9, 12, 13] (.cons 0 (.cons 1 (.cons 2 (.cons 3 (.cons 4 (.alt 5 (.ofList [6, 7, 8, 9, 10, 11, 12, 13]) 10 (.ofList [5, 6, 7, 8, 9, 11, 12, 13]))))))) moP (by kernel_rfl) ?_
        refine RD.p rfl rfl rfl rfl (fun w' => O.fldA fl52_3 (by decide) rfl) ?_
        refine RD.q rfl rfl rfl rfl (fun w' hf => O.load sc5 rfl (Cs.adds [3] ((hM.bx (i := 2) rfl).fut hf) rfl)) ?_
        refine RD.p rfl rfl rfl rfl (fun w' => O.move rfl) ?_
        refine RD.p rfl rfl rfl rfl (fun w' => O.move rfl) ?_
        refine obindE hF fun cut29 hy30 hF => ?_
        obtain ⟨A31, c32, eA34, ec35⟩ := cutN A2 c3 (Int.toNat 40) 1
        have hr33 := Rd.cutT (enc := (eI .u8)) (s := 1) (fun _ => rfl) hr4 hy30 (m := c3) (by have := hr4.cap; have := (gcut_some hy30).2.2.1; omega) (Nat.le_refl _)
        rw [← eA34, ← ec35] at hr33
        refine RD.p (v := .slice A31 (cut29).length c32) rfl rfl rfl rfl (fun w' => (by rw [eA34, ec35]; exact O.cutT sl31 (hM.inp hr4 Off.nil) hy30 rfl rfl rfl)) ?_
        refine RD.alt ?_ ?_
        · refine obindE hF fun y36 hx37 hF => ?_
          refine RD.mcall rfl rfl trivial Try.func21 bd21 rfl rfl (c_ipsix_ParseChain _ y11.1.f_Next _ _ cut29 (hM.inp hr33 Off.nil) _ hx37) fun v w38 hv => ?_
          obtain ⟨A40, c41, css43, Z44, rfl, hN39⟩ := hv
          refine ⟨fun _ => hN39.fut, ?_⟩
          replace hM := hM.call hN39
          refine RD.p rfl rfl rfl rfl (fun w' => O.move rfl) ?_
          refine RD.p rfl rfl rfl rfl (fun w' => O.ext rfl rfl) ?_
          refine RD.p rfl rfl rfl rfl (fun w' => O.ext rfl rfl) ?_
          refine RD.p rfl rfl rfl rfl (fun w' => O.ext rfl rfl) ?_
          refine RD.meff rfl rfl (E.alloc hM ze24) rfl fun v w47 hv => ?_
          clear hM
          obtain ⟨g46, rfl, hM, hf⟩ := hv
          refine ⟨fun _ => hf, ?_⟩
          refine RD.meffs rfl rfl rfl (E.stB (j := 5) (off := 0) (vs := [.slice A40 (y36.1.f_Exts).length c41, .int .u8 y36.1.f_Proto]) (cs' := [.slice A40 (y36.1.f_Exts).length c41, .int .u8 y36.1.f_Proto]) hM rfl sz24 rfl (adds_eq [] rfl) rfl rfl (One.all rfl) rfl rfl) fun w49 hM1 => ?_
          clear hM
          have hM := hM1
          clear hM1
          refine RD.p rfl rfl rfl rfl (fun w' => O.assign rfl) ?_
          refine RD.p rfl rfl rfl rfl (fun w' => O.assign rfl) ?_
          refine RD.nil ?_
          refine KQ.then_k ?_
          exact fun a ha => ⟨g46, A40, c41, css43, Z44, y36.2.2, y36.1.f_Exts, y36.1.f_Proto, y36.2.1, ha.less (less_cons rfl (less_cons rfl (less_cons rfl (less_cons rfl (less_cons rfl (less_cons rfl (less_cons rfl (less_cons rfl less_nil)))))))), hM, hF⟩
        · refine RD.meff rfl rfl (E.alloc hM ze24) rfl fun v w51 hv => ?_
          clear hM
          obtain ⟨g50, rfl, hM, hf⟩ := hv
          refine ⟨fun _ => hf, ?_⟩
          refine obindE hF fun y53 hx54 hF => ?_
          refine RD.mcall rfl rfl trivial Try.func21 bd21 rfl rfl (c_ipsix_ParseChain _ y11.1.f_Next _ _ cut29 (hM.inp hr33 Off.nil) _ hx54) fun v w55 hv => ?_
          obtain ⟨A57, c58, css60, Z61, rfl, hN56⟩ := hv
          refine ⟨fun _ => hN56.fut, ?_⟩
          replace hM := hM.call hN56
          refine RD.p rfl rfl rfl rfl (fun w' => O.move rfl) ?_
          refine RD.p rfl rfl rfl rfl (fun w' => O.ext rfl rfl) ?_
          refine RD.p rfl rfl rfl rfl (fun w' => O.ext rfl rfl) ?_
          refine RD.p rfl rfl rfl rfl (fun w' => O.ext rfl rfl) ?_
          refine RD.meffs rfl rfl rfl (E.stB (j := 3) (off := 0) (vs := [.slice A57 (y53.1.f_Exts).length c58, .int .u8 y53.1.f_Proto]) (cs' := [.slice A57 (y53.1.f_Exts).length c58, .int .u8 y53.1.f_Proto]) hM rfl sz24 rfl (adds_eq [] rfl) rfl rfl (One.all rfl) rfl rfl) fun w63 hM1 => ?_
          clear hM
          have hM := hM1
          clear hM1
          refine RD.p rfl rfl rfl rfl (fun w' => O.assign rfl) ?_
          refine RD.p rfl rfl rfl rfl (fun w' => O.assign rfl) ?_
          refine RD.nil ?_
          refine KQ.then_k ?_
          replace hM := hM.pick [0, 1, 2, 4, 5, 3] rfl (by decide)
          exact fun a ha => ⟨g50, A57, c58, css60, Z61, y53.2.2, y53.1.f_Exts, y53.1.f_Proto, y53.2.1, ha.less (less_cons rfl (less_cons rfl (less_cons rfl (less_cons rfl (less_cons rfl (less_cons rfl (less_cons rfl (less_cons rfl less_nil)))))))), hM, hF⟩
      · rintro a w79 ⟨g69, A71, c72, css73, Z74, ev67, cv76, cv77, nv78, ha, hM, hF⟩
        refine KC.app ha ?_
        clear ha
        unfold F_ipsix_Body_j1 at hF
        refine KC.seq ?_
        refine KC.seq ?_
        refine KC.region ?_
        refine RL.val (O.move rfl) rfl ?_
        refine RL.val (O.neq rfl rfl) rfl ?_
        refine RL.nil ?_
        refine KQ.then_n ?_
        refine KC.cond rfl (fun hc => ?_) (fun hc => ?_)
        · rw [if_pos hc] at hF
          refine KC.seq ?_
          refine KC.region ?_
          refine RL.val (O.bld (cs := [.int .u8 0, .int .u32 0, .int .u16 0, .int .u8 0, .int .u8 0, .int .u8 (List.getD (List.replicate 16 0) 0 0), .int .u8 (List.getD (List.replicate 16 0) 1 0), .int .u8 (List.getD (List.replicate 16 0) 2 0), .int .u8 (List.getD (List.replicate 16 0) 3 0), .int .u8 (List.getD (List.replicate 16 0) 4 0), .int .u8 (List.getD (List.replicate 16 0) 5 0), .int .u8 (List.getD (List.replicate 16 0) 6 0), .int .u8 (List.getD (List.replicate 16 0) 7 0), .int .u8 (List.getD (List.replicate 16 0) 8 0), .int .u8 (List.getD (List.replicate 16 0) 9 0), .int .u8 (List.getD (List.replicate 16 0) 10 0), .int .u8 (List.getD (List.replicate 16 0) 11 0), .int .u8 (List.getD (List.replicate 16 0) 12 0), .int .u8 (List.getD (List.replicate 16 0) 13 0), .int .u8 (List.getD (List.replicate 16 0) 14 0), .int .u8 (List.getD (List.replicate 16 0) 15 0), .int .u8 (List.getD (List.replicate 16 0) 0 0), .int .u8 (List.getD (List.replicate 16 0) 1 0), .int .u8 (List.getD (List.replicate 16 0) 2 0), .int .u8 (List.getD (List.replicate 16 0) 3 0), .int .u8 (List.getD (List.replicate 16 0) 4 0), .int .u8 (List.getD (List.replicate 16 0) 5 0), .int .u8 (List.getD (List.replicate 16 0) 6 0), .int .u8 (List.getD (List.replicate 16 0) 7 0), .int .u8 (List.getD (List.replicate 16 0) 8 0), .int .u8 (List.getD (List.replicate 16 0) 9 0), .int .u8 (List.getD (List.replicate 16 0) 10 0), .int .u8 (List.getD (List.replicate 16 0) 11 0), .int .u8 (List.getD (List.replicate 16 0) 12 0), .int .u8 (List.getD (List.replicate 16 0) 13 0), .int .u8 (List.getD (List.replicate 16 0) 14 0), .int .u8 (List.getD (List.replicate 16 0) 15 0)]) bt52 rfl (by kernel_rfl)) rfl ?_
          refine RL.val (O.bld (cs := [.slice none 0 0, .int .u8 0]) bt24 rfl (by kernel_rfl)) rfl ?_
          refine RL.val (O.move rfl) rfl ?_
          refine RL.effs (E.stB (j := 0) (off := 0) (vs := [.int .u8 0, .int .u32 0, .int .u16 0, .int .u8 0, .int .u8 0, .int .u8 (List.getD (List.replicate 16 0) 0 0), .int .u8 (List.getD (List.replicate 16 0) 1 0), .int .u8 (List.getD (List.replicate 16 0) 2 0), .int .u8 (List.getD (List.replicate 16 0) 3 0), .int .u8 (List.getD (List.replicate 16 0) 4 0), .int .u8 (List.getD (List.replicate 16 0) 5 0), .int .u8 (List.getD (List.replicate 16 0) 6 0), .int .u8 (List.getD (List.replicate 16 0) 7 0), .int .u8 (List.getD (List.replicate 16 0) 8 0), .int .u8 (List.getD (List.replicate 16 0) 9 0), .int .u8 (List.getD (List.replicate 16 0) 10 0), .int .u8 (List.getD (List.replicate 16 0) 11 0), .int .u8 (List.getD (List.replicate 16 0) 12 0), .int .u8 (List.getD (List.replicate 16 0) 13 0), .int .u8 (List.getD (List.replicate 16 0) 14 0), .int .u8 (List.getD (List.replicate 16 0) 15 0), .int .u8 (List.getD (List.replicate 16 0) 0 0), .int .u8 (List.getD (List.replicate 16 0) 1 0), .int .u8 (List.getD (List.replicate 16 0) 2 0), .int .u8 (List.getD (List.replicate 16 0) 3 0), .int .u8 (List.getD (List.replicate 16 0) 4 0), .int .u8 (List.getD (List.replicate 16 0) 5 0), .int .u8 (List.getD (List.replicate 16 0) 6 0), .int .u8 (List.getD (List.replicate 16 0) 7 0), .int .u8 (List.getD (List.replicate 16 0) 8 0), .int .u8 (List.getD (List.replicate 16 0) 9 0), .int .u8 (List.getD (List.replicate 16 0) 10 0), .int .u8 (List.getD (List.replicate 16 0) 11 0), .int .u8 (List.getD (List.replicate 16 0) 12 0), .int .u8 (List.getD (List.replicate 16 0) 13 0), .int .u8 (List.getD (List.replicate 16 0) 14 0), .int .u8 (List.getD (List.replicate 16 0) 15 0)]) (cs' := [.int .u8 0, .int .u32 0, .int .u16 0, .int .u8 0, .int .u8 0, .int .u8 (List.getD (List.replicate 16 0) 0 0), .int .u8 (List.getD (List.replicate 16 0) 1 0), .int .u8 (List.getD (List.replicate 16 0) 2 0), .int .u8 (List.getD (List.replicate 16 0) 3 0), .int .u8 (List.getD (List.replicate 16 0) 4 0), .int .u8 (List.getD (List.replicate 16 0) 5 0), .int .u8 (List.getD (List.replicate 16 0) 6 0), .int .u8 (List.getD (List.replicate 16 0) 7 0), .int .u8 (List.getD (List.replicate 16 0) 8 0), .int .u8 (List.getD (List.replicate 16 0) 9 0), .int .u8 (List.getD (List.replicate 16 0) 10 0), .int .u8 (List.getD (List.replicate 16 0) 11 0), .int .u8 (List.getD (List.replicate 16 0) 12 0), .int .u8 (List.getD (List.replicate 16 0) 13 0), .int .u8 (List.getD (List.replicate 16 0) 14 0), .int .u8 (List.getD (List.replicate 16 0) 15 0), .int .u8 (List.getD (List.replicate 16 0) 0 0), .int .u8 (List.getD (List.replicate 16 0) 1 0), .int .u8 (List.getD (List.replicate 16 0) 2 0), .int .u8 (List.getD (List.replicate 16 0) 3 0), .int .u8 (List.getD (List.replicate 16 0) 4 0), .int .u8 (List.getD (List.replicate 16 0) 5 0), .int .u8 (List.getD (List.replicate 16 0) 6 0), .int .u8 (List.getD (List.replicate 16 0) 7 0), .int .u8 (List.getD (List.replicate 16 0) 8 0), .int .u8 (List.getD (List.replicate 16 0) 9 0), .int .u8 (List.getD (List.replicate 16 0) 10 0), .int .u8 (List.getD (List.replicate 16 0) 11 0), .int .u8 (List.getD (List.replicate 16 0) 12 0), .int .u8 (List.getD (List.replicate 16 0) 13 0), .int .u8 (List.getD (List.replicate 16 0) 14 0), .int .u8 (List.getD (List.replicate 16 0) 15 0)]) hM rfl sz52 rfl (adds_eq [] rfl) rfl rfl (One.all rfl) rfl rfl) fun w80 hM1 => ?_
          clear hM
          have hM := hM1
          clear hM1
          refine RL.effs (E.stB (j := 1) (off := 0) (vs := [.slice none 0 0, .int .u8 0]) (cs' := [.slice none 0 0, .int .u8 0]) hM rfl sz24 rfl (adds_eq [] rfl) rfl rfl (One.all rfl) rfl rfl) fun w81 hM1 => ?_
          clear hM
          have hM := hM1
          clear hM1
          refine RL.val (O.assign rfl) rfl ?_
          refine RL.val (O.assign rfl) rfl ?_
          refine RL.nil ?_
          refine KQ.then_n ?_
          refine KC.ret ?_
          refine KQ.then_r ?_
          obtain rfl := Option.some.inj hF
          have hb82 := hM.bx (i := 0) rfl
          have hb83 := hM.bx (i := 1) rfl
          replace hM := hM.nilrow 63 2
          obtain ⟨Z84, hM⟩ := hM.glue [] [0, 1, 2, 3, 4, 5, 6] rfl rfl (by decide) rfl (Els RO_ipsix_Ext 2 ([] : List T_ipsix_Ext) []) (fun Z w1 _ _ => Els.nil)
          replace hM := hM.nilrow 5 1
          replace hM := hM.pick [6, 7, 8] rfl (by decide)
          refine KQ.rets Try.results23 (RVs.cons (RV.cN (cs := [.int .u8 0, .int .u32 0, .int .u16 0, .int .u8 0, .int .u8 0, .int .u8 (List.getD (List.replicate 16 0) 0 0), .int .u8 (List.getD (List.replicate 16 0) 1 0), .int .u8 (List.getD (List.replicate 16 0) 2 0), .int .u8 (List.getD (List.replicate 16 0) 3 0), .int .u8 (List.getD (List.replicate 16 0) 4 0), .int .u8 (List.getD (List.replicate 16 0) 5 0), .int .u8 (List.getD (List.replicate 16 0) 6 0), .int .u8 (List.getD (List.replicate 16 0) 7 0), .int .u8 (List.getD (List.replicate 16 0) 8 0), .int .u8 (List.getD (List.replicate 16 0) 9 0), .int .u8 (List.getD (List.replicate 16 0) 10 0), .int .u8 (List.getD (List.replicate 16 0) 11 0), .int .u8 (List.getD (List.replicate 16 0) 12 0), .int .u8 (List.getD (List.replicate 16 0) 13 0), .int .u8 (List.getD (List.replicate 16 0) 14 0), .int .u8 (List.getD (List.replicate 16 0) 15 0), .int .u8 (List.getD (List.replicate 16 0) 0 0), .int .u8 (List.getD (List.replicate 16 0) 1 0), .int .u8 (List.getD (List.replicate 16 0) 2 0), .int .u8 (List.getD (List.replicate 16 0) 3 0), .int .u8 (List.getD (List.replicate 16 0) 4 0), .int .u8 (List.getD (List.replicate 16 0) 5 0), .int .u8 (List.getD (List.replicate 16 0) 6 0), .int .u8 (List.getD (List.replicate 16 0) 7 0), .int .u8 (List.getD (List.replicate 16 0) 8 0), .int .u8 (List.getD (List.replicate 16 0) 9 0), .int .u8 (List.getD (List.replicate 16 0) 10 0), .int .u8 (List.getD (List.replicate 16 0) 11 0), .int .u8 (List.getD (List.replicate 16 0) 12 0), .int .u8 (List.getD (List.replicate 16 0) 13 0), .int .u8 (List.getD (List.replicate 16 0) 14 0), .int .u8 (List.getD (List.replicate 16 0) 15 0)]) rfl ag52 hb82) (RVs.cons (RV.cN (cs := [.slice none 0 0, .int .u8 0]) rfl ag24 hb83) (RVs.cons (RV.tm rfl) (RVs.cons (RV.tm rfl) RVs.nil)))) ?_
          exact ⟨_, rfl, none, 0, [], Z84, none, 0, rfl, hM⟩
        · rw [if_neg (ne_true hc)] at hF
          refine KC.skip ?_
          refine KQ.then_n ?_
          refine KC.cut (fun a w125 => ∃ (A115 : Option Addr) (c116 : Nat) (css117 : List (List Value)) (Z118 : List Nat) (A122 : Option Addr) (c123 : Nat) (t120 : List T_ipsix_Ext) (t124 : List Int), Kn 54 [(2, .pointer (some ⟨g5, 0, none⟩)), (3, .pointer (some ⟨g8, 0, none⟩)), (4, .slice A122 (t124).length c123), (5, .int .i64 0)] a ∧ Mem w [] w125 [.box g5 52 [.int .u8 y11.1.f_Class, .int .u32 y11.1.f_Flow, .int .u16 y11.1.f_Length, .int .u8 y11.1.f_Next, .int .u8 y11.1.f_Hops, .int .u8 (List.getD y11.1.f_Src 0 0), .int .u8 (List.getD y11.1.f_Src 1 0), .int .u8 (List.getD y11.1.f_Src 2 0), .int .u8 (List.getD y11.1.f_Src 3 0), .int .u8 (List.getD y11.1.f_Src 4 0), .int .u8 (List.getD y11.1.f_Src 5 0), .int .u8 (List.getD y11.1.f_Src 6 0), .int .u8 (List.getD y11.1.f_Src 7 0), .int .u8 (List.getD y11.1.f_Src 8 0), .int .u8 (List.getD y11.1.f_Src 9 0), .int .u8 (List.getD y11.1.f_Src 10 0), .int .u8 (List.getD y11.1.f_Src 11 0), .int .u8 (List.getD y11.1.f_Src 12 0), .int .u8 (List.getD y11.1.f_Src 13 0), .int .u8 (List.getD y11.1.f_Src 14 0), .int .u8 (List.getD y11.1.f_Src 15 0), .int .u8 (List.getD y11.1.f_Dst 0 0), .int .u8 (List.getD y11.1.f_Dst 1 0), .int .u8 (List.getD y11.1.f_Dst 2 0), .int .u8 (List.getD y11.1.f_Dst 3 0), .int .u8 (List.getD y11.1.f_Dst 4 0), .int .u8 (List.getD y11.1.f_Dst 5 0), .int .u8 (List.getD y11.1.f_Dst 6 0), .int .u8 (List.getD y11.1.f_Dst 7 0), .int .u8 (List.getD y11.1.f_Dst 8 0), .int .u8 (List.getD y11.1.f_Dst 9 0), .int .u8 (List.getD y11.1.f_Dst 10 0), .int .u8 (List.getD y11.1.f_Dst 11 0), .int .u8 (List.getD y11.1.f_Dst 12 0), .int .u8 (List.getD y11.1.f_Dst 13 0), .int .u8 (List.getD y11.1.f_Dst 14 0), .int .u8 (List.getD y11.1.f_Dst 15 0)], .row A115 c116 63 2 (t120).length (css117).flatten, .res Z118 (Els RO_ipsix_Ext 2 t120 css117 Z118), .box g8 24 [.slice A115 (t120).length c116, .int .u8 cv77], .row A122 c123 5 1 (t124).length ((t124).flatMap (eI .u8))] ∧ F_ipsix_Body_j2 y11 cv77 t120 t124 = some r) ?_ ?_
          · replace hM := hM.drewN 1
            refine KC.draw [] [8, 9] [1, 7, 8, 9] [2, 3, 4, 5, 6, 10, 11] (.cons 0 (.cons 2 (.cons 3 (.cons 4 (.cons 5 (.cons 6 (.alt 1 (.ofList [7, 8, 9, 10, 11]) 7 (.alt 1 (.ofList [8, 9, 10, 11]) 8 (.ofList [1, 9, 10, 11]))))))))) moP (by kernel_rfl) ?_
            refine RD.q rfl rfl rfl rfl (fun w' hf => O.loadN (cs := [.int .u8 y11.1.f_Class, .int .u32 y11.1.f_Flow, .int .u16 y11.1.f_Length, .int .u8 y11.1.f_Next, .int .u8 y11.1.f_Hops, .int .u8 (List.getD y11.1.f_Src 0 0), .int .u8 (List.getD y11.1.f_Src 1 0), .int .u8 (List.getD y11.1.f_Src 2 0), .int .u8 (List.getD y11.1.f_Src 3 0), .int .u8 (List.getD y11.1.f_Src 4 0), .int .u8 (List.getD y11.1.f_Src 5 0), .int .u8 (List.getD y11.1.f_Src 6 0), .int .u8 (List.getD y11.1.f_Src 7 0), .int .u8 (List.getD y11.1.f_Src 8 0), .int .u8 (List.getD y11.1.f_Src 9 0), .int .u8 (List.getD y11.1.f_Src 10 0), .int .u8 (List.getD y11.1.f_Src 11 0), .int .u8 (List.getD y11.1.f_Src 12 0), .int .u8 (List.getD y11.1.f_Src 13 0), .int .u8 (List.getD y11.1.f_Src 14 0), .int .u8 (List.getD y11.1.f_Src 15 0), .int .u8 (List.getD y11.1.f_Dst 0 0), .int .u8 (List.getD y11.1.f_Dst 1 0), .int .u8 (List.getD y11.1.f_Dst 2 0), .int .u8 (List.getD y11.1.f_Dst 3 0), .int .u8 (List.getD y11.1.f_Dst 4 0), .int .u8 (List.getD y11.1.f_Dst 5 0), .int .u8 (List.getD y11.1.f_Dst 6 0), .int .u8 (List.getD y11.1.f_Dst 7 0), .int .u8 (List.getD y11.1.f_Dst 8 0), .int .u8 (List.getD y11.1.f_Dst 9 0), .int .u8 (List.getD y11.1.f_Dst 10 0), .int .u8 (List.getD y11.1.f_Dst 11 0), .int .u8 (List.getD y11.1.f_Dst 12 0), .int .u8 (List.getD y11.1.f_Dst 13 0), .int .u8 (List.getD y11.1.f_Dst 14 0), .int .u8 (List.getD y11.1.f_Dst 15 0)]) ag52 rfl (Cs.addsN [] ((hM.bx (i := 2) rfl).fut hf) rfl)) ?_
            refine RD.p rfl rfl rfl rfl (fun w' => O.move rfl) ?_
            refine RD.p rfl rfl rfl rfl (fun w' => O.move rfl) ?_
            refine RD.p rfl rfl rfl rfl (fun w' => O.add rfl rfl) ?_
            refine RD.p rfl rfl rfl rfl (fun w' => O.move rfl) ?_
            refine obindE hF fun cut85 hy86 hF => ?_
            obtain ⟨A87, c88, eA90, ec91⟩ := cutN A2 c3 (Int.toNat (IntKind.i64.wrap (40 + nv78))) 1
            have hr89 := Rd.cutT (enc := (eI .u8)) (s := 1) (fun _ => rfl) hr4 hy86 (m := c3) (by have := hr4.cap; have := (gcut_some hy86).2.2.1; omega) (Nat.le_refl _)
            rw [← eA90, ← ec91] at hr89
            refine RD.p (v := .slice A87 (cut85).length c88) rfl rfl rfl rfl (fun w' => (by rw [eA90, ec91]; exact O.cutT sl31 (hM.inp hr4 Off.nil) hy86 rfl rfl rfl)) ?_
            refine RD.alt ?_ ?_
            · refine RD.mq rfl rfl (O.loadN (cs := [.slice A71 (cv76).length c72, .int .u8 cv77]) ag24 rfl (Cs.addsN [] ((hM.bx (i := 5) rfl)) rfl)) rfl ?_
              refine obindE hF fun y92 hx93 hF => ?_
              refine RD.mcall rfl rfl trivial Try.func49 bd49 rfl rfl (c_bytes_Clone _ _ _ cut85 (hM.inp hr89 Off.nil) _ hx93) fun v w94 hv => ?_
              obtain ⟨A96, c97, rfl, hN95⟩ := hv
              refine ⟨fun _ => hN95.fut, ?_⟩
              replace hM := hM.call hN95
              refine RD.meffs rfl rfl rfl (E.stB (j := 0) (off := 0) (vs := [.int .u8 y11.1.f_Class, .int .u32 y11.1.f_Flow, .int .u16 y11.1.f_Length, .int .u8 y11.1.f_Next, .int .u8 y11.1.f_Hops, .int .u8 (List.getD y11.1.f_Src 0 0), .int .u8 (List.getD y11.1.f_Src 1 0), .int .u8 (List.getD y11.1.f_Src 2 0), .int .u8 (List.getD y11.1.f_Src 3 0), .int .u8 (List.getD y11.1.f_Src 4 0), .int .u8 (List.getD y11.1.f_Src 5 0), .int .u8 (List.getD y11.1.f_Src 6 0), .int .u8 (List.getD y11.1.f_Src 7 0), .int .u8 (List.getD y11.1.f_Src 8 0), .int .u8 (List.getD y11.1.f_Src 9 0), .int .u8 (List.getD y11.1.f_Src 10 0), .int .u8 (List.getD y11.1.f_Src 11 0), .int .u8 (List.getD y11.1.f_Src 12 0), .int .u8 (List.getD y11.1.f_Src 13 0), .int .u8 (List.getD y11.1.f_Src 14 0), .int .u8 (List.getD y11.1.f_Src 15 0), .int .u8 (List.getD y11.1.f_Dst 0 0), .int .u8 (List.getD y11.1.f_Dst 1 0), .int .u8 (List.getD y11.1.f_Dst 2 0), .int .u8 (List.getD y11.1.f_Dst 3 0), .int .u8 (List.getD y11.1.f_Dst 4 0), .int .u8 (List.getD y11.1.f_Dst 5 0), .int .u8 (List.getD y11.1.f_Dst 6 0), .int .u8 (List.getD y11.1.f_Dst 7 0), .int .u8 (List.getD y11.1.f_Dst 8 0), .int .u8 (List.getD y11.1.f_Dst 9 0), .int .u8 (List.getD y11.1.f_Dst 10 0), .int .u8 (List.getD y11.1.f_Dst 11 0), .int .u8 (List.getD y11.1.f_Dst 12 0), .int .u8 (List.getD y11.1.f_Dst 13 0), .int .u8 (List.getD y11.1.f_Dst 14 0), .int .u8 (List.getD y11.1.f_Dst 15 0)]) (cs' := [.int .u8 y11.1.f_Class, .int .u32 y11.1.f_Flow, .int .u16 y11.1.f_Length, .int .u8 y11.1.f_Next, .int .u8 y11.1.f_Hops, .int .u8 (List.getD y11.1.f_Src 0 0), .int .u8 (List.getD y11.1.f_Src 1 0), .int .u8 (List.getD y11.1.f_Src 2 0), .int .u8 (List.getD y11.1.f_Src 3 0), .int .u8 (List.getD y11.1.f_Src 4 0), .int .u8 (List.getD y11.1.f_Src 5 0), .int .u8 (List.getD y11.1.f_Src 6 0), .int .u8 (List.getD y11.1.f_Src 7 0), .int .u8 (List.getD y11.1.f_Src 8 0), .int .u8 (List.getD y11.1.f_Src 9 0), .int .u8 (List.getD y11.1.f_Src 10 0), .int .u8 (List.getD y11.1.f_Src 11 0), .int .u8 (List.getD y11.1.f_Src 12 0), .int .u8 (List.getD y11.1.f_Src 13 0), .int .u8 (List.getD y11.1.f_Src 14 0), .int .u8 (List.getD y11.1.f_Src 15 0), .int .u8 (List.getD y11.1.f_Dst 0 0), .int .u8 (List.getD y11.1.f_Dst 1 0), .int .u8 (List.getD y11.1.f_Dst 2 0), .int .u8 (List.getD y11.1.f_Dst 3 0), .int .u8 (List.getD y11.1.f_Dst 4 0), .int .u8 (List.getD y11.1.f_Dst 5 0), .int .u8 (List.getD y11.1.f_Dst 6 0), .int .u8 (List.getD y11.1.f_Dst 7 0), .int .u8 (List.getD y11.1.f_Dst 8 0), .int .u8 (List.getD y11.1.f_Dst 9 0), .int .u8 (List.getD y11.1.f_Dst 10 0), .int .u8 (List.getD y11.1.f_Dst 11 0), .int .u8 (List.getD y11.1.f_Dst 12 0), .int .u8 (List.getD y11.1.f_Dst 13 0), .int .u8 (List.getD y11.1.f_Dst 14 0), .int .u8 (List.getD y11.1.f_Dst 15 0)]) hM rfl sz52 rfl (adds_eq [] rfl) rfl rfl (One.all rfl) rfl rfl) fun w99 hM1 => ?_
              clear hM
              have hM := hM1
              clear hM1
              refine RD.meffs rfl rfl rfl (E.stB (j := 1) (off := 0) (vs := [.slice A71 (cv76).length c72, .int .u8 cv77]) (cs' := [.slice A71 (cv76).length c72, .int .u8 cv77]) hM rfl sz24 rfl (adds_eq [] rfl) rfl rfl (One.all rfl) rfl rfl) fun w100 hM1 => ?_
              clear hM
              have hM := hM1
              clear hM1
              refine RD.p rfl rfl rfl rfl (fun w' => O.assign rfl) ?_
              refine RD.p rfl rfl rfl rfl (fun w' => O.assign rfl) ?_
              refine RD.nil ?_
              refine KQ.then_k ?_
              replace hM := hM.pick [0, 3, 4, 1, 6] rfl (by decide)
              exact fun a ha => ⟨A71, c72, css73, Z74, A96, c97, cv76, y92, ha.less (less_cons rfl (less_cons rfl (less_cons rfl (less_cons rfl less_nil)))), hM, hF⟩
            · refine obindE hF fun y101 hx102 hF => ?_
              refine RD.mcall rfl rfl trivial Try.func49 bd49 rfl rfl (c_bytes_Clone _ _ _ cut85 (hM.inp hr89 Off.nil) _ hx102) fun v w103 hv => ?_
              obtain ⟨A105, c106, rfl, hN104⟩ := hv
              refine ⟨fun _ => hN104.fut, ?_⟩
              replace hM := hM.call hN104
              refine RD.alt ?_ ?_
              · refine RD.mq rfl rfl (O.loadN (cs := [.slice A71 (cv76).length c72, .int .u8 cv77]) ag24 rfl (Cs.addsN [] ((hM.bx (i := 5) rfl)) rfl)) rfl ?_
                refine RD.meffs rfl rfl rfl (E.stB (j := 0) (off := 0) (vs := [.int .u8 y11.1.f_Class, .int .u32 y11.1.f_Flow, .int .u16 y11.1.f_Length, .int .u8 y11.1.f_Next, .int .u8 y11.1.f_Hops, .int .u8 (List.getD y11.1.f_Src 0 0), .int .u8 (List.getD y11.1.f_Src 1 0), .int .u8 (List.getD y11.1.f_Src 2 0), .int .u8 (List.getD y11.1.f_Src 3 0), .int .u8 (List.getD y11.1.f_Src 4 0), .int .u8 (List.getD y11.1.f_Src 5 0), .int .u8 (List.getD y11.1.f_Src 6 0), .int .u8 (List.getD y11.1.f_Src 7 0), .int .u8 (List.getD y11.1.f_Src 8 0), .int .u8 (List.getD y11.1.f_Src 9 0), .int .u8 (List.getD y11.1.f_Src 10 0), .int .u8 (List.getD y11.1.f_Src 11 0), .int .u8 (List.getD y11.1.f_Src 12 0), .int .u8 (List.getD y11.1.f_Src 13 0), .int .u8 (List.getD y11.1.f_Src 14 0), .int .u8 (List.getD y11.1.f_Src 15 0), .int .u8 (List.getD y11.1.f_Dst 0 0), .int .u8 (List.getD y11.1.f_Dst 1 0), .int .u8 (List.getD y11.1.f_Dst 2 0), .int .u8 (List.getD y11.1.f_Dst 3 0), .int .u8 (List.getD y11.1.f_Dst 4 0), .int .u8 (List.getD y11.1.f_Dst 5 0), .int .u8 (List.getD y11.1.f_Dst 6 0), .int .u8 (List.getD y11.1.f_Dst 7 0), .int .u8 (List.getD y11.1.f_Dst 8 0), .int .u8 (List.getD y11.1.f_Dst 9 0), .int .u8 (List.getD y11.1.f_Dst 10 0), .int .u8 (List.getD y11.1.f_Dst 11 0), .int .u8 (List.getD y11.1.f_Dst 12 0), .int .u8 (List.getD y11.1.f_Dst 13 0), .int .u8 (List.getD y11.1.f_Dst 14 0), .int .u8 (List.getD y11.1.f_Dst 15 0)]) (cs' := [.int .u8 y11.1.f_Class, .int .u32 y11.1.f_Flow, .int .u16 y11.1.f_Length, .int .u8 y11.1.f_Next, .int .u8 y11.1.f_Hops, .int .u8 (List.getD y11.1.f_Src 0 0), .int .u8 (List.getD y11.1.f_Src 1 0), .int .u8 (List.getD y11.1.f_Src 2 0), .int .u8 (List.getD y11.1.f_Src 3 0), .int .u8 (List.getD y11.1.f_Src 4 0), .int .u8 (List.getD y11.1.f_Src 5 0), .int .u8 (List.getD y11.1.f_Src 6 0), .int .u8 (List.getD y11.1.f_Src 7 0), .int .u8 (List.getD y11.1.f_Src 8 0), .int .u8 (List.getD y11.1.f_Src 9 0), .int .u8 (List.getD y11.1.f_Src 10 0), .int .u8 (List.getD y11.1.f_Src 11 0), .int .u8 (List.getD y11.1.f_Src 12 0), .int .u8 (List.getD y11.1.f_Src 13 0), .int .u8 (List.getD y11.1.f_Src 14 0), .int .u8 (List.getD y11.1.f_Src 15 0), .int .u8 (List.getD y11.1.f_Dst 0 0), .int .u8 (List.getD y11.1.f_Dst 1 0), .int .u8 (List.getD y11.1.f_Dst 2 0), .int .u8 (List.getD y11.1.f_Dst 3 0), .int .u8 (List.getD y11.1.f_Dst 4 0), .int .u8 (List.getD y11.1.f_Dst 5 0), .int .u8 (List.getD y11.1.f_Dst 6 0), .int .u8 (List.getD y11.1.f_Dst 7 0), .int .u8 (List.getD y11.1.f_Dst 8 0), .int .u8 (List.getD y11.1.f_Dst 9 0), .int .u8 (List.getD y11.1.f_Dst 10 0), .int .u8 (List.getD y11.1.f_Dst 11 0), .int .u8 (List.getD y11.1.f_Dst 12 0), .int .u8 (List.getD y11.1.f_Dst 13 0), .int .u8 (List.getD y11.1.f_Dst 14 0), .int .u8 (List.getD y11.1.f_Dst 15 0)]) hM rfl sz52 rfl (adds_eq [] rfl) rfl rfl (One.all rfl) rfl rfl) fun w108 hM1 => ?_
                clear hM
                have hM := hM1
                clear hM1
                refine RD.meffs rfl rfl rfl (E.stB (j := 1) (off := 0) (vs := [.slice A71 (cv76).length c72, .int .u8 cv77]) (cs' := [.slice A71 (cv76).length c72, .int .u8 cv77]) hM rfl sz24 rfl (adds_eq [] rfl) rfl rfl (One.all rfl) rfl rfl) fun w109 hM1 => ?_
                clear hM
                have hM := hM1
                clear hM1
                refine RD.p rfl rfl rfl rfl (fun w' => O.assign rfl) ?_
                refine RD.p rfl rfl rfl rfl (fun w' => O.assign rfl) ?_
                refine RD.nil ?_
                refine KQ.then_k ?_
                replace hM := hM.pick [0, 3, 4, 1, 6] rfl (by decide)
                exact fun a ha => ⟨A71, c72, css73, Z74, A105, c106, cv76, y101, ha.less (less_cons rfl (less_cons rfl (less_cons rfl (less_cons rfl less_nil)))), hM, hF⟩
              · refine RD.meffs rfl rfl rfl (E.stB (j := 0) (off := 0) (vs := [.int .u8 y11.1.f_Class, .int .u32 y11.1.f_Flow, .int .u16 y11.1.f_Length, .int .u8 y11.1.f_Next, .int .u8 y11.1.f_Hops, .int .u8 (List.getD y11.1.f_Src 0 0), .int .u8 (List.getD y11.1.f_Src 1 0), .int .u8 (List.getD y11.1.f_Src 2 0), .int .u8 (List.getD y11.1.f_Src 3 0), .int .u8 (List.getD y11.1.f_Src 4 0), .int .u8 (List.getD y11.1.f_Src 5 0), .int .u8 (List.getD y11.1.f_Src 6 0), .int .u8 (List.getD y11.1.f_Src 7 0), .int .u8 (List.getD y11.1.f_Src 8 0), .int .u8 (List.getD y11.1.f_Src 9 0), .int .u8 (List.getD y11.1.f_Src 10 0), .int .u8 (List.getD y11.1.f_Src 11 0), .int .u8 (List.getD y11.1.f_Src 12 0), .int .u8 (List.getD y11.1.f_Src 13 0), .int .u8 (List.getD y11.1.f_Src 14 0), .int .u8 (List.getD y11.1.f_Src 15 0), .int .u8 (List.getD y11.1.f_Dst 0 0), .int .u8 (List.getD y11.1.f_Dst 1 0), .int .u8 (List.getD y11.1.f_Dst 2 0), .int .u8 (List.getD y11.1.f_Dst 3 0), .int .u8 (List.getD y11.1.f_Dst 4 0), .int .u8 (List.getD y11.1.f_Dst 5 0), .int .u8 (List.getD y11.1.f_Dst 6 0), .int .u8 (List.getD y11.1.f_Dst 7 0), .int .u8 (List.getD y11.1.f_Dst 8 0), .int .u8 (List.getD y11.1.f_Dst 9 0), .int .u8 (List.getD y11.1.f_Dst 10 0), .int .u8 (List.getD y11.1.f_Dst 11 0), .int .u8 (List.getD y11.1.f_Dst 12 0), .int .u8 (List.getD y11.1.f_Dst 13 0), .int .u8 (List.getD y11.1.f_Dst 14 0), .int .u8 (List.getD y11.1.f_Dst 15 0)]) (cs' := [.int .u8 y11.1.f_Class, .int .u32 y11.1.f_Flow, .int .u16 y11.1.f_Length, .int .u8 y11.1.f_Next, .int .u8 y11.1.f_Hops, .int .u8 (List.getD y11.1.f_Src 0 0), .int .u8 (List.getD y11.1.f_Src 1 0), .int .u8 (List.getD y11.1.f_Src 2 0), .int .u8 (List.getD y11.1.f_Src 3 0), .int .u8 (List.getD y11.1.f_Src 4 0), .int .u8 (List.getD y11.1.f_Src 5 0), .int .u8 (List.getD y11.1.f_Src 6 0), .int .u8 (List.getD y11.1.f_Src 7 0), .int .u8 (List.getD y11.1.f_Src 8 0), .int .u8 (List.getD y11.1.f_Src 9 0), .int .u8 (List.getD y11.1.f_Src 10 0), .int .u8 (List.getD y11.1.f_Src 11 0), .int .u8 (List.getD y11.1.f_Src 12 0), .int .u8 (List.getD y11.1.f_Src 13 0), .int .u8 (List.getD y11.1.f_Src 14 0), .int .u8 (List.getD y11.1.f_Src 15 0), .int .u8 (List.getD y11.1.f_Dst 0 0), .int .u8 (List.getD y11.1.f_Dst 1 0), .int .u8 (List.getD y11.1.f_Dst 2 0), .int .u8 (List.getD y11.1.f_Dst 3 0), .int .u8 (List.getD y11.1.f_Dst 4 0), .int .u8 (List.getD y11.1.f_Dst 5 0), .int .u8 (List.getD y11.1.f_Dst 6 0), .int .u8 (List.getD y11.1.f_Dst 7 0), .int .u8 (List.getD y11.1.f_Dst 8 0), .int .u8 (List.getD y11.1.f_Dst 9 0), .int .u8 (List.getD y11.1.f_Dst 10 0), .int .u8 (List.getD y11.1.f_Dst 11 0), .int .u8 (List.getD y11.1.f_Dst 12 0), .int .u8 (List.getD y11.1.f_Dst 13 0), .int .u8 (List.getD y11.1.f_Dst 14 0), .int .u8 (List.getD y11.1.f_Dst 15 0)]) hM rfl sz52 rfl (adds_eq [] rfl) rfl rfl (One.all rfl) rfl rfl) fun w110 hM1 => ?_
                clear hM
                have hM := hM1
                clear hM1
                refine RD.mq rfl rfl (O.loadN (cs := [.slice A71 (cv76).length c72, .int .u8 cv77]) ag24 rfl (Cs.addsN [] ((hM.bx (i := 5) rfl)) rfl)) rfl ?_
                refine RD.meffs rfl rfl rfl (E.stB (j := 1) (off := 0) (vs := [.slice A71 (cv76).length c72, .int .u8 cv77]) (cs' := [.slice A71 (cv76).length c72, .int .u8 cv77]) hM rfl sz24 rfl (adds_eq [] rfl) rfl rfl (One.all rfl) rfl rfl) fun w111 hM1 => ?_
                clear hM
                have hM := hM1
                clear hM1
                refine RD.p rfl rfl rfl rfl (fun w' => O.assign rfl) ?_
                refine RD.p rfl rfl rfl rfl (fun w' => O.assign rfl) ?_
                refine RD.nil ?_
                refine KQ.then_k ?_
                replace hM := hM.pick [0, 3, 4, 1, 6] rfl (by decide)
                exact fun a ha => ⟨A71, c72, css73, Z74, A105, c106, cv76, y101, ha.less (less_cons rfl (less_cons rfl (less_cons rfl (less_cons rfl less_nil)))), hM, hF⟩
          · rintro a w125 ⟨A115, c116, css117, Z118, A122, c123, t120, t124, ha, hM, hF⟩
            refine KC.app ha ?_
            clear ha
            unfold F_ipsix_Body_j2 at hF
            refine KC.ret ?_
            obtain rfl := Option.some.inj hF
            have hb126 := hM.bx (i := 0) rfl
            have hb127 := hM.bx (i := 3) rfl
            replace hM := hM.pick [1, 2, 4] rfl (by decide)
            refine KQ.rets Try.results23 (RVs.cons (RV.cN (cs := [.int .u8 y11.1.f_Class, .int .u32 y11.1.f_Flow, .int .u16 y11.1.f_Length, .int .u8 y11.1.f_Next, .int .u8 y11.1.f_Hops, .int .u8 (List.getD y11.1.f_Src 0 0), .int .u8 (List.getD y11.1.f_Src 1 0), .int .u8 (List.getD y11.1.f_Src 2 0), .int .u8 (List.getD y11.1.f_Src 3 0), .int .u8 (List.getD y11.1.f_Src 4 0), .int .u8 (List.getD y11.1.f_Src 5 0), .int .u8 (List.getD y11.1.f_Src 6 0), .int .u8 (List.getD y11.1.f_Src 7 0), .int .u8 (List.getD y11.1.f_Src 8 0), .int .u8 (List.getD y11.1.f_Src 9 0), .int .u8 (List.getD y11.1.f_Src 10 0), .int .u8 (List.getD y11.1.f_Src 11 0), .int .u8 (List.getD y11.1.f_Src 12 0), .int .u8 (List.getD y11.1.f_Src 13 0), .int .u8 (List.getD y11.1.f_Src 14 0), .int .u8 (List.getD y11.1.f_Src 15 0), .int .u8 (List.getD y11.1.f_Dst 0 0), .int .u8 (List.getD y11.1.f_Dst 1 0), .int .u8 (List.getD y11.1.f_Dst 2 0), .int .u8 (List.getD y11.1.f_Dst 3 0), .int .u8 (List.getD y11.1.f_Dst 4 0), .int .u8 (List.getD y11.1.f_Dst 5 0), .int .u8 (List.getD y11.1.f_Dst 6 0), .int .u8 (List.getD y11.1.f_Dst 7 0), .int .u8 (List.getD y11.1.f_Dst 8 0), .int .u8 (List.getD y11.1.f_Dst 9 0), .int .u8 (List.getD y11.1.f_Dst 10 0), .int .u8 (List.getD y11.1.f_Dst 11 0), .int .u8 (List.getD y11.1.f_Dst 12 0), .int .u8 (List.getD y11.1.f_Dst 13 0), .int .u8 (List.getD y11.1.f_Dst 14 0), .int .u8 (List.getD y11.1.f_Dst 15 0)]) rfl ag52 hb126) (RVs.cons (RV.cN (cs := [.slice A115 (t120).length c116, .int .u8 cv77]) rfl ag24 hb127) (RVs.cons (RV.tm rfl) (RVs.cons (RV.tm rfl) RVs.nil)))) ?_
            exact ⟨_, rfl, A115, c116, css117, Z118, A122, c123, rfl, hM⟩
end Go.Proofs.Ytikjomacnbemhaa
