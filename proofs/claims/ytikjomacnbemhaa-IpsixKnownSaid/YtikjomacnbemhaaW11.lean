/- Printed by a program of this claim: each call returns what the plain function of its name gives. -/
import Derived.Test.YtikjomacnbemhaaW10
set_option linter.unusedVariables false
namespace Go.Proofs.Ytikjomacnbemhaa
open Go Go.Ox Go.RowKit
set_option maxRecDepth 100000 in
set_option maxHeartbeats 40000000 in
theorem c_bits_Writer_Put (w : World) (g2 : Nat) (wv1 : T_bits_Writer) (A4 : Option Addr) (c5 : Nat) (hL9 : Lent w [.box g2 94 [.slice A4 (wv1.f_b).length c5], .row A4 c5 5 1 (wv1.f_b).length ((wv1.f_b).flatMap (eI .u8))]) (v7 : Int) (size8 : Int) (r : Int × T_bits_Writer) (hF : F_bits_Writer_Put wv1 v7 size8 = some r) :
    CallsR Try.prog 50 [.pointer (some ⟨g2, 0, none⟩), .int .u64 v7, .int .i64 size8] w (fun v w' => ∃ (A0 : Option Addr) (c0 : Nat), v = .int .i64 r.1 ∧ Mem w [some g2, rblk A4 c5] w' [.box g2 94 [.slice A0 (r.2.f_b).length c0], .row A0 c0 5 1 r.2.f_b.length (r.2.f_b.flatMap (eI .u8))]) := by
  refine calls_KC Try.func50 rfl Try.ntmps50 rfl ?_
  have hM : Mem w [some g2, rblk A4 c5] w [.box g2 94 [.slice A4 (wv1.f_b).length c5], .row A4 c5 5 1 (wv1.f_b).length ((wv1.f_b).flatMap (eI .u8))] := Mem.lendN hL9
  unfold F_bits_Writer_Put at hF
  refine KC.seq ?_
  refine KC.region ?_
  refine RL.val (O.assign rfl) rfl ?_
  refine RL.nil ?_
  refine KQ.then_n ?_
  refine KC.seq ?_
  refine KC.seq ?_
  refine KC.region ?_
  refine RL.val (O.move rfl) rfl ?_
  refine RL.val (O.peqn Try.underlying102 rfl rfl) rfl ?_
  refine RL.nil ?_
  refine KQ.then_n ?_
  refine KC.condF rfl ?_
  refine KC.skip ?_
  refine KQ.then_n ?_
  refine KC.seq ?_
  refine KC.seq ?_
  refine KC.region ?_
  refine RL.val (O.move rfl) rfl ?_
  refine RL.val (O.move rfl) rfl ?_
  refine obindE hF fun y10 hx11 hF => ?_
  refine RL.call Try.func56 bd56 rfl rfl (c_bits_fits _ v7 size8 _ hx11) fun v w12 hv => ?_
  obtain ⟨rfl, hN13⟩ := hv
  replace hM := hM.call0 hN13
  refine RL.val (O.not rfl) rfl ?_
  refine RL.nil ?_
  refine KQ.then_n ?_
  refine KC.cond rfl (fun hc => ?_) (fun hc => ?_)
  · rw [if_pos hc] at hF
    refine KC.seq ?_
    refine KC.region ?_
    refine RL.val (O.assign rfl) rfl ?_
    refine RL.nil ?_
    refine KQ.then_n ?_
    refine KC.ret ?_
    refine KQ.then_r ?_
    obtain rfl := Option.some.inj hF
    refine KQ.rets Try.results50 (RVs.cons (RV.tm rfl) RVs.nil) ?_
    exact ⟨_, rfl, A4, c5, rfl, hM⟩
  · rw [if_neg (ne_true hc)] at hF
    refine KC.skip ?_
    refine KQ.then_n ?_
    refine KC.seq ?_
    refine KC.region ?_
    refine RL.val (O.move rfl) rfl ?_
    refine RL.val (O.move rfl) rfl ?_
    refine RL.val (O.move rfl) rfl ?_
    refine obindE hF fun y14 hx15 hF => ?_
    refine RL.call Try.func57 bd57 rfl rfl (c_bits_of _ v7 size8 _ hx15) fun v w16 hv => ?_
    obtain ⟨A18, c19, rfl, hN17⟩ := hv
    replace hM := hM.call hN17
    refine obindE hF fun y21 hx22 hF => ?_
    refine RL.call Try.func51 bd51 rfl rfl (c_bits_Writer_Raw _ _ wv1 _ _ (hM.lent [0, 1] rfl (by decide)) _ _ y14 (hM.rd (i := 2) rfl) (hM.offR [0, 1] rfl (i := 2) rfl rfl) _ hx22) fun v w23 hv => ?_
    obtain ⟨A25, c26, rfl, hN24⟩ := hv
    replace hM := hM.callL [0, 1] [2] rfl rfl (by decide) rfl hN24
    refine RL.val (O.assign rfl) rfl ?_
    refine RL.nil ?_
    refine KQ.then_n ?_
    refine KC.ret ?_
    obtain rfl := Option.some.inj hF
    replace hM := hM.pick [1, 2] rfl (by decide)
    refine KQ.rets Try.results50 (RVs.cons (RV.tm rfl) RVs.nil) ?_
    exact ⟨_, rfl, A25, c26, rfl, hM⟩
set_option maxRecDepth 100000 in
set_option maxHeartbeats 40000000 in
theorem c_slices_Clone_byte_byte (w : World) (A2 : Option Addr) (c3 : Nat) (s1 : List Int) (hr4 : Rd w A2 c3 1 s1.length (s1.flatMap (eI .u8))) (r : (List Int)) (hF : F_slices_Clone_byte_byte s1 = some r) :
    CallsR Try.prog 58 [.slice A2 (s1).length c3] w (fun v w' => ∃ (A0 : Option Addr) (c0 : Nat), v = .slice A0 (r).length c0 ∧ Mem w [] w' [.row A0 c0 5 1 r.length (r.flatMap (eI .u8))]) := by
  refine calls_KC Try.func58 rfl Try.ntmps58 rfl ?_
  have hM := Mem.init w
  unfold F_slices_Clone_byte_byte at hF
  refine KC.seq ?_
  refine KC.region ?_
  refine RL.val (O.assign rfl) rfl ?_
  refine RL.nil ?_
  refine KQ.then_n ?_
  refine KC.seq ?_
  refine KC.seq ?_
  refine KC.region ?_
  refine RL.val (O.move rfl) rfl ?_
  refine RL.val (O.sleqn sl31 rfl rfl) rfl ?_
  refine RL.nil ?_
  refine KQ.then_n ?_
  refine KC.cond rfl (fun hc => ?_) (fun hc => ?_)
  · have hz5 := Rd.none_nil (hM.inp hr4 Off.nil) (hc)
    have hF : (some ([])) = some r := by (rw [hz5] at hF; simpa [lim] using hF)
    refine KC.seq ?_
    refine KC.region ?_
    refine RL.val (O.assign rfl) rfl ?_
    refine RL.nil ?_
    refine KQ.then_n ?_
    refine KC.ret ?_
    refine KQ.then_r ?_
    obtain rfl := Option.some.inj hF
    replace hM := hM.nilrow 5 1
    refine KQ.rets Try.results58 (RVs.cons (RV.tm rfl) RVs.nil) ?_
    exact ⟨_, rfl, none, 0, rfl, hM⟩
  · refine KC.skip ?_
    refine KQ.then_n ?_
    refine KC.seq ?_
    refine KC.region ?_
    refine RL.eff (E.bsl0 hM sl31) rfl fun v w6 hv => ?_
    clear hM
    obtain ⟨A7, rfl, hM, hf⟩ := hv
    refine RL.val (O.move rfl) rfl ?_
    refine cut_someE hF fun hq12 hF => ?_
    refine RL.eff (E.app (enc := (eI .u8)) (xs := ([] : List Int)) (ys := s1) (j := 0) hM rfl sl31 ze5 rfl rfl rfl rfl rfl (hM.inp hr4 Off.nil) (fun _ => One.all rfl) (of_decide_eq_true hq12)) rfl fun v w11 hv => ?_
    clear hM
    obtain ⟨A9, c10, rfl, hM, hf⟩ := hv
    refine RL.val (O.assign rfl) rfl ?_
    refine RL.nil ?_
    refine KQ.then_n ?_
    refine KC.ret ?_
    obtain rfl := Option.some.inj hF
    refine KQ.rets Try.results58 (RVs.cons (RV.tm rfl) RVs.nil) ?_
    exact ⟨_, rfl, A9, c10, rfl, hM⟩
set_option maxRecDepth 100000 in
set_option maxHeartbeats 40000000 in
theorem c_bits_Writer_Bytes (w : World) (g2 : Nat) (wv1 : T_bits_Writer) (A4 : Option Addr) (c5 : Nat) (hL7 : Lent w [.box g2 94 [.slice A4 (wv1.f_b).length c5], .row A4 c5 5 1 (wv1.f_b).length ((wv1.f_b).flatMap (eI .u8))]) (r : (List Int) × T_bits_Writer) (hF : F_bits_Writer_Bytes wv1 = some r) :
    CallsR Try.prog 52 [.pointer (some ⟨g2, 0, none⟩)] w (fun v w' => ∃ (A0 : Option Addr) (c0 : Nat) (A1 : Option Addr) (c1 : Nat), v = .slice A1 (r.1).length c1 ∧ Mem w [some g2, rblk A4 c5] w' [.box g2 94 [.slice A0 (r.2.f_b).length c0], .row A0 c0 5 1 r.2.f_b.length (r.2.f_b.flatMap (eI .u8)), .row A1 c1 5 1 r.1.length (r.1.flatMap (eI .u8))]) := by
  refine calls_KC Try.func52 rfl Try.ntmps52 rfl ?_
  have hM : Mem w [some g2, rblk A4 c5] w [.box g2 94 [.slice A4 (wv1.f_b).length c5], .row A4 c5 5 1 (wv1.f_b).length ((wv1.f_b).flatMap (eI .u8))] := Mem.lendN hL7
  unfold F_bits_Writer_Bytes at hF
  refine KC.seq ?_
  refine KC.region ?_
  refine RL.val (O.assign rfl) rfl ?_
  refine RL.nil ?_
  refine KQ.then_n ?_
  refine KC.seq ?_
  refine KC.seq ?_
  refine KC.region ?_
  refine RL.val (O.move rfl) rfl ?_
  refine RL.val (O.peqn Try.underlying102 rfl rfl) rfl ?_
  refine RL.nil ?_
  refine KQ.then_n ?_
  refine KC.condF rfl ?_
  refine KC.skip ?_
  refine KQ.then_n ?_
  refine KC.seq ?_
  refine KC.region ?_
  refine RL.val (O.move rfl) rfl ?_
  refine RL.val (O.nilp rfl) rfl ?_
  refine RL.val (O.fldA fl94_0 (by decide) rfl) rfl ?_
  refine RL.val (O.load sc31 rfl (Cs.adds [0] ((hM.bx (i := 0) rfl)) rfl)) rfl ?_
  refine obindE hF fun y8 hx9 hF => ?_
  refine RL.call Try.func58 bd58 rfl rfl (c_slices_Clone_byte_byte _ _ _ wv1.f_b (hM.rd (i := 1) rfl) _ hx9) fun v w10 hv => ?_
  obtain ⟨A12, c13, rfl, hN11⟩ := hv
  replace hM := hM.call hN11
  refine RL.val (O.assign rfl) rfl ?_
  refine RL.nil ?_
  refine KQ.then_n ?_
  refine KC.ret ?_
  obtain rfl := Option.some.inj hF
  refine KQ.rets Try.results52 (RVs.cons (RV.tm rfl) RVs.nil) ?_
  exact ⟨_, rfl, A4, c5, A12, c13, rfl, hM⟩
set_option maxRecDepth 100000 in
set_option maxHeartbeats 40000000 in
theorem c_ipsix_Put (w : World) (h1 : T_ipsix_Header) (r : (List Int) × Int) (hF : F_ipsix_Put h1 = some r) :
    CallsR Try.prog 28 [.agg #[.int .u8 h1.f_Class, .int .u32 h1.f_Flow, .int .u16 h1.f_Length, .int .u8 h1.f_Next, .int .u8 h1.f_Hops, .int .u8 (List.getD h1.f_Src 0 0), .int .u8 (List.getD h1.f_Src 1 0), .int .u8 (List.getD h1.f_Src 2 0), .int .u8 (List.getD h1.f_Src 3 0), .int .u8 (List.getD h1.f_Src 4 0), .int .u8 (List.getD h1.f_Src 5 0), .int .u8 (List.getD h1.f_Src 6 0), .int .u8 (List.getD h1.f_Src 7 0), .int .u8 (List.getD h1.f_Src 8 0), .int .u8 (List.getD h1.f_Src 9 0), .int .u8 (List.getD h1.f_Src 10 0), .int .u8 (List.getD h1.f_Src 11 0), .int .u8 (List.getD h1.f_Src 12 0), .int .u8 (List.getD h1.f_Src 13 0), .int .u8 (List.getD h1.f_Src 14 0), .int .u8 (List.getD h1.f_Src 15 0), .int .u8 (List.getD h1.f_Dst 0 0), .int .u8 (List.getD h1.f_Dst 1 0), .int .u8 (List.getD h1.f_Dst 2 0), .int .u8 (List.getD h1.f_Dst 3 0), .int .u8 (List.getD h1.f_Dst 4 0), .int .u8 (List.getD h1.f_Dst 5 0), .int .u8 (List.getD h1.f_Dst 6 0), .int .u8 (List.getD h1.f_Dst 7 0), .int .u8 (List.getD h1.f_Dst 8 0), .int .u8 (List.getD h1.f_Dst 9 0), .int .u8 (List.getD h1.f_Dst 10 0), .int .u8 (List.getD h1.f_Dst 11 0), .int .u8 (List.getD h1.f_Dst 12 0), .int .u8 (List.getD h1.f_Dst 13 0), .int .u8 (List.getD h1.f_Dst 14 0), .int .u8 (List.getD h1.f_Dst 15 0)]] w (fun v w' => ∃ (A0 : Option Addr) (c0 : Nat), v = .tuple #[.slice A0 (r.1).length c0, .int .i64 r.2] ∧ Mem w [] w' [.row A0 c0 5 1 r.1.length (r.1.flatMap (eI .u8))]) := by
  refine calls_KC Try.func28 rfl Try.ntmps28 rfl ?_
  have hM := Mem.init w
  unfold F_ipsix_Put at hF
  refine KC.seq ?_
  refine KC.region ?_
  refine RL.eff (E.box (vs := [.int .u8 h1.f_Class, .int .u32 h1.f_Flow, .int .u16 h1.f_Length, .int .u8 h1.f_Next, .int .u8 h1.f_Hops, .int .u8 (List.getD h1.f_Src 0 0), .int .u8 (List.getD h1.f_Src 1 0), .int .u8 (List.getD h1.f_Src 2 0), .int .u8 (List.getD h1.f_Src 3 0), .int .u8 (List.getD h1.f_Src 4 0), .int .u8 (List.getD h1.f_Src 5 0), .int .u8 (List.getD h1.f_Src 6 0), .int .u8 (List.getD h1.f_Src 7 0), .int .u8 (List.getD h1.f_Src 8 0), .int .u8 (List.getD h1.f_Src 9 0), .int .u8 (List.getD h1.f_Src 10 0), .int .u8 (List.getD h1.f_Src 11 0), .int .u8 (List.getD h1.f_Src 12 0), .int .u8 (List.getD h1.f_Src 13 0), .int .u8 (List.getD h1.f_Src 14 0), .int .u8 (List.getD h1.f_Src 15 0), .int .u8 (List.getD h1.f_Dst 0 0), .int .u8 (List.getD h1.f_Dst 1 0), .int .u8 (List.getD h1.f_Dst 2 0), .int .u8 (List.getD h1.f_Dst 3 0), .int .u8 (List.getD h1.f_Dst 4 0), .int .u8 (List.getD h1.f_Dst 5 0), .int .u8 (List.getD h1.f_Dst 6 0), .int .u8 (List.getD h1.f_Dst 7 0), .int .u8 (List.getD h1.f_Dst 8 0), .int .u8 (List.getD h1.f_Dst 9 0), .int .u8 (List.getD h1.f_Dst 10 0), .int .u8 (List.getD h1.f_Dst 11 0), .int .u8 (List.getD h1.f_Dst 12 0), .int .u8 (List.getD h1.f_Dst 13 0), .int .u8 (List.getD h1.f_Dst 14 0), .int .u8 (List.getD h1.f_Dst 15 0)]) hM rfl rfl) rfl fun v w3 hv => ?_
  clear hM
  obtain ⟨g2, rfl, hM, hf⟩ := hv
  refine RL.val (O.assign rfl) rfl ?_
  refine RL.val (O.assign rfl) rfl ?_
  refine RL.nil ?_
  refine KQ.then_n ?_
  refine KC.seq ?_
  refine KC.seq ?_
  refine KC.region ?_
  refine RL.val (O.fldA fl52_1 (by decide) rfl) rfl ?_
  refine RL.val (O.load sc37 rfl (Cs.adds [1] ((hM.bx (i := 0) rfl)) rfl)) rfl ?_
  refine RL.val (O.geq rfl rfl) rfl ?_
  refine RL.nil ?_
  refine KQ.then_n ?_
  refine KC.cond rfl (fun hc => ?_) (fun hc => ?_)
  · rw [if_pos hc] at hF
    refine KC.seq ?_
    refine KC.region ?_
    refine RL.val (O.assign rfl) rfl ?_
    refine RL.val (O.assign rfl) rfl ?_
    refine RL.nil ?_
    refine KQ.then_n ?_
    refine KC.ret ?_
    refine KQ.then_r ?_
    obtain rfl := Option.some.inj hF
    replace hM := hM.nilrow 5 1
    replace hM := hM.pick [1] rfl (by decide)
    refine KQ.rets Try.results28 (RVs.cons (RV.tm rfl) (RVs.cons (RV.tm rfl) RVs.nil)) ?_
    exact ⟨_, rfl, none, 0, rfl, hM⟩
  · rw [if_neg (ne_true hc)] at hF
    refine KC.skip ?_
    refine KQ.then_n ?_
    refine KC.seq ?_
    refine KC.region ?_
    refine RL.eff (E.alloc hM ze94) rfl fun v w6 hv => ?_
    clear hM
    obtain ⟨g5, rfl, hM, hf⟩ := hv
    refine RL.nil ?_
    refine KQ.then_n ?_
    refine KC.seq ?_
    refine KC.region ?_
    refine RL.val (O.fldA fl52_0 (by decide) rfl) rfl ?_
    refine RL.val (O.load sc5 rfl (Cs.adds [0] ((hM.bx (i := 0) rfl)) rfl)) rfl ?_
    refine RL.val (O.conv un5 Try.underlying81 rfl) rfl ?_
    refine RL.val (O.shl rfl rfl (by decide)) rfl ?_
    refine RL.val (O.or rfl rfl) rfl ?_
    refine RL.val (O.fldA fl52_1 (by decide) rfl) rfl ?_
    refine RL.val (O.load sc37 rfl (Cs.adds [1] ((hM.bx (i := 0) rfl)) rfl)) rfl ?_
    refine RL.val (O.conv un37 Try.underlying81 rfl) rfl ?_
    refine RL.val (O.or rfl rfl) rfl ?_
    replace hM := hM.nilrow 5 1
    refine obindE hF fun y9 hx10 hF => ?_
    refine RL.call Try.func50 bd50 rfl rfl (c_bits_Writer_Put _ _ (T_bits_Writer.mk ([] : List Int)) _ _ (hM.lent [1, 2] rfl (by decide)) (bits .or .u64 (bits .or .u64 1610612736 (Ox.shl .u64 (IntKind.u64.wrap h1.f_Class) 20)) (IntKind.u64.wrap h1.f_Flow)) 4 _ hx10) fun v w11 hv => ?_
    obtain ⟨A13, c14, rfl, hN12⟩ := hv
    replace hM := hM.callL [1, 2] [0] rfl rfl (by decide) rfl hN12
    refine RL.nil ?_
    refine KQ.then_n ?_
    refine KC.seq ?_
    refine KC.region ?_
    refine RL.val (O.fldA fl52_2 (by decide) rfl) rfl ?_
    refine RL.val (O.load sc36 rfl (Cs.adds [2] ((hM.bx (i := 0) rfl)) rfl)) rfl ?_
    refine RL.val (O.conv un36 Try.underlying81 rfl) rfl ?_
    refine obindE hF fun y16 hx17 hF => ?_
    refine RL.call Try.func50 bd50 rfl rfl (c_bits_Writer_Put _ _ y9.2 _ _ (hM.lent [1, 2] rfl (by decide)) (IntKind.u64.wrap h1.f_Length) 2 _ hx17) fun v w18 hv => ?_
    obtain ⟨A20, c21, rfl, hN19⟩ := hv
    replace hM := hM.callL [1, 2] [0] rfl rfl (by decide) rfl hN19
    refine RL.nil ?_
    refine KQ.then_n ?_
    refine KC.seq ?_
    refine KC.region ?_
    refine RL.val (O.fldA fl52_3 (by decide) rfl) rfl ?_
    refine RL.val (O.load sc5 rfl (Cs.adds [3] ((hM.bx (i := 0) rfl)) rfl)) rfl ?_
    refine RL.val (O.fldA fl52_4 (by decide) rfl) rfl ?_
    refine RL.val (O.load sc5 rfl (Cs.adds [4] ((hM.bx (i := 0) rfl)) rfl)) rfl ?_
    refine RL.eff (E.bsl (enc := (eI .u8)) (xs := ([h1.f_Next, h1.f_Hops] : List Int)) hM sl31 ze5 rfl rfl rfl (fun _ => rfl) rfl (by kernel_rfl) rfl) rfl fun v w23 hv => ?_
    clear hM
    obtain ⟨A24, rfl, hM, hf⟩ := hv
    refine obindE hF fun y26 hx27 hF => ?_
    refine RL.call Try.func51 bd51 rfl rfl (c_bits_Writer_Raw _ _ y16.2 _ _ (hM.lent [1, 2] rfl (by decide)) _ _ ([h1.f_Next, h1.f_Hops] : List Int) (hM.rd (i := 3) rfl) (hM.offR [1, 2] rfl (i := 3) rfl rfl) _ hx27) fun v w28 hv => ?_
    obtain ⟨A30, c31, rfl, hN29⟩ := hv
    replace hM := hM.callL [1, 2] [0, 3] rfl rfl (by decide) rfl hN29
    refine RL.nil ?_
    refine KQ.then_n ?_
    refine KC.seq ?_
    refine KC.region ?_
    refine RL.val (O.fldA fl52_5 (by decide) rfl) rfl ?_
    have hr33 := Rd.arr (n := 16) (k := .u8) (xs := h1.f_Src) (Cs.addsN [5] (hM.bx (i := 0) rfl) rfl) rfl rfl
    refine RL.val (O.slArr (xs := h1.f_Src) Try.underlying50 sz5 rfl rfl) rfl ?_
    refine obindE hF fun y34 hx35 hF => ?_
    refine RL.call Try.func51 bd51 rfl rfl (c_bits_Writer_Raw _ _ y26.2 _ _ (hM.lent [2, 3] rfl (by decide)) _ _ (arrL 16 h1.f_Src) hr33 (hM.offBx [2, 3] rfl (i := 0) rfl [5] rfl rfl) _ hx35) fun v w36 hv => ?_
    obtain ⟨A38, c39, rfl, hN37⟩ := hv
    replace hM := hM.callL [2, 3] [0, 1] rfl rfl (by decide) rfl hN37
    have hr33 := Rd.arr (n := 16) (k := .u8) (xs := h1.f_Src) (Cs.addsN [5] (hM.bx (i := 0) rfl) rfl) rfl rfl
    refine RL.nil ?_
    refine KQ.then_n ?_
    refine KC.seq ?_
    refine KC.region ?_
    refine RL.val (O.fldA fl52_6 (by decide) rfl) rfl ?_
    have hr41 := Rd.arr (n := 16) (k := .u8) (xs := h1.f_Dst) (Cs.addsN [21] (hM.bx (i := 0) rfl) rfl) rfl rfl
    refine RL.val (O.slArr (xs := h1.f_Dst) Try.underlying50 sz5 rfl rfl) rfl ?_
    refine obindE hF fun y42 hx43 hF => ?_
    refine RL.call Try.func51 bd51 rfl rfl (c_bits_Writer_Raw _ _ y34.2 _ _ (hM.lent [2, 3] rfl (by decide)) _ _ (arrL 16 h1.f_Dst) hr41 (hM.offBx [2, 3] rfl (i := 0) rfl [21] rfl rfl) _ hx43) fun v w44 hv => ?_
    obtain ⟨A46, c47, rfl, hN45⟩ := hv
    replace hM := hM.callL [2, 3] [0, 1] rfl rfl (by decide) rfl hN45
    have hr33 := Rd.arr (n := 16) (k := .u8) (xs := h1.f_Src) (Cs.addsN [5] (hM.bx (i := 0) rfl) rfl) rfl rfl
    have hr41 := Rd.arr (n := 16) (k := .u8) (xs := h1.f_Dst) (Cs.addsN [21] (hM.bx (i := 0) rfl) rfl) rfl rfl
    refine RL.nil ?_
    refine KQ.then_n ?_
    refine KC.seq ?_
    refine KC.region ?_
    refine obindE hF fun y49 hx50 hF => ?_
    refine RL.call Try.func52 bd52 rfl rfl (c_bits_Writer_Bytes _ _ y42.2 _ _ (hM.lent [2, 3] rfl (by decide)) _ hx50) fun v w51 hv => ?_
    obtain ⟨A53, c54, A56, c57, rfl, hN52⟩ := hv
    replace hM := hM.callL [2, 3] [0, 1] rfl rfl (by decide) rfl hN52
    have hr33 := Rd.arr (n := 16) (k := .u8) (xs := h1.f_Src) (Cs.addsN [5] (hM.bx (i := 0) rfl) rfl) rfl rfl
    have hr41 := Rd.arr (n := 16) (k := .u8) (xs := h1.f_Dst) (Cs.addsN [21] (hM.bx (i := 0) rfl) rfl) rfl rfl
    refine RL.val (O.assign rfl) rfl ?_
    refine RL.val (O.assign rfl) rfl ?_
    refine RL.nil ?_
    refine KQ.then_n ?_
    refine KC.ret ?_
    obtain rfl := Option.some.inj hF
    replace hM := hM.pick [4] rfl (by decide)
    refine KQ.rets Try.results28 (RVs.cons (RV.tm rfl) (RVs.cons (RV.tm rfl) RVs.nil)) ?_
    exact ⟨_, rfl, A56, c57, rfl, hM⟩
set_option maxRecDepth 100000 in
set_option maxHeartbeats 40000000 in
theorem c_ref01_Put_R : ∀ (kf : Nat) (w : World) (v1 : Int) (size2 : Int) (r : (List Int)) (hF : F_ref01_Put_R kf v1 size2 = some r),
    CallsR Try.prog 53 [.int .u64 v1, .int .i64 size2] w (fun v w' => ∃ (A0 : Option Addr) (c0 : Nat), v = .slice A0 (r).length c0 ∧ Mem w [] w' [.row A0 c0 5 1 r.length (r.flatMap (eI .u8))]) := by
  intro kf
  induction kf with
  | zero => intro w v1 size2 r hF; exact (none_some hF).elim
  | succ kf ih =>
    intro w v1 size2 r hF
    refine calls_KC Try.func53 rfl Try.ntmps53 rfl ?_
    have hM := Mem.init w
    have hF : F_ref01_Put_B (F_ref01_Put_R kf) v1 size2 = some r := hF
    unfold F_ref01_Put_B at hF
    refine KC.seq ?_
    refine KC.region ?_
    refine RL.val (O.assign rfl) rfl ?_
    refine RL.nil ?_
    refine KQ.then_n ?_
    refine KC.seq ?_
    refine KC.seq ?_
    refine KC.region ?_
    refine RL.val (O.move rfl) rfl ?_
    refine RL.val (O.eql rfl rfl) rfl ?_
    refine RL.nil ?_
    refine KQ.then_n ?_
    refine KC.cond rfl (fun hc => ?_) (fun hc => ?_)
    · rw [if_pos hc] at hF
      refine KC.seq ?_
      refine KC.region ?_
      refine RL.val (O.assign rfl) rfl ?_
      refine RL.nil ?_
      refine KQ.then_n ?_
      refine KC.ret ?_
      refine KQ.then_r ?_
      obtain rfl := Option.some.inj hF
      replace hM := hM.nilrow 5 1
      refine KQ.rets Try.results53 (RVs.cons (RV.tm rfl) RVs.nil) ?_
      exact ⟨_, rfl, none, 0, rfl, hM⟩
    · rw [if_neg (ne_true hc)] at hF
      refine KC.skip ?_
      refine KQ.then_n ?_
      refine KC.seq ?_
      refine KC.region ?_
      refine RL.val (O.move rfl) rfl ?_
      refine RL.val (O.quo rfl rfl (by decide)) rfl ?_
      refine RL.val (O.move rfl) rfl ?_
      refine RL.val (O.sub rfl rfl) rfl ?_
      refine obindE hF fun y3 hx4 hF => ?_
      refine RL.call Try.func53 bd53 rfl rfl (ih _ (IntKind.u64.wrap (Int.tdiv v1 256)) (IntKind.i64.wrap (size2 - 1)) _ hx4) fun v w5 hv => ?_
      obtain ⟨A7, c8, rfl, hN6⟩ := hv
      replace hM := hM.call hN6
      refine RL.val (O.move rfl) rfl ?_
      refine RL.val (O.rem rfl rfl (by decide)) rfl ?_
      refine RL.val (O.conv un81 Try.underlying5 rfl) rfl ?_
      refine RL.eff (E.bsl (enc := (eI .u8)) (xs := ([(IntKind.u8.wrap (Int.tmod v1 256))] : List Int)) hM sl31 ze5 rfl rfl rfl (fun _ => rfl) rfl (by kernel_rfl) rfl) rfl fun v w10 hv => ?_
      clear hM
      obtain ⟨A11, rfl, hM, hf⟩ := hv
      refine cut_someE hF fun hq16 hF => ?_
      refine RL.eff (E.app (enc := (eI .u8)) (xs := y3) (ys := ([(IntKind.u8.wrap (Int.tmod v1 256))] : List Int)) (j := 0) hM rfl sl31 ze5 rfl rfl rfl rfl rfl (hM.rd (i := 1) rfl) (fun _ => One.all rfl) (of_decide_eq_true hq16)) rfl fun v w15 hv => ?_
      clear hM
      obtain ⟨A13, c14, rfl, hM, hf⟩ := hv
      refine RL.val (O.assign rfl) rfl ?_
      refine RL.nil ?_
      refine KQ.then_n ?_
      refine KC.ret ?_
      obtain rfl := Option.some.inj hF
      replace hM := hM.pick [0] rfl (by decide)
      refine KQ.rets Try.results53 (RVs.cons (RV.tm rfl) RVs.nil) ?_
      exact ⟨_, rfl, A13, c14, rfl, hM⟩
theorem c_ref01_Put (w : World) (v1 : Int) (size2 : Int) (r : (List Int)) (hF : F_ref01_Put v1 size2 = some r) :
    CallsR Try.prog 53 [.int .u64 v1, .int .i64 size2] w (fun v w' => ∃ (A0 : Option Addr) (c0 : Nat), v = .slice A0 (r).length c0 ∧ Mem w [] w' [.row A0 c0 5 1 r.length (r.flatMap (eI .u8))]) := c_ref01_Put_R fuel0 w v1 size2 r hF
set_option maxRecDepth 100000 in
set_option maxHeartbeats 40000000 in
theorem c_ref06_Put (w : World) (h1 : T_ref06_Header) (r : (List Int) × Int) (hF : F_ref06_Put h1 = some r) :
    CallsR Try.prog 29 [.agg #[.int .u8 h1.f_Class, .int .u32 h1.f_Flow, .int .u16 h1.f_Length, .int .u8 h1.f_Next, .int .u8 h1.f_Hops, .string h1.f_Src, .string h1.f_Dst]] w (fun v w' => ∃ (A0 : Option Addr) (c0 : Nat), v = .tuple #[.slice A0 (r.1).length c0, .int .i64 r.2] ∧ Mem w [] w' [.row A0 c0 5 1 r.1.length (r.1.flatMap (eI .u8))]) := by
  refine calls_KC Try.func29 rfl Try.ntmps29 rfl ?_
  have hM := Mem.init w
  unfold F_ref06_Put at hF
  refine KC.seq ?_
  refine KC.region ?_
  refine RL.eff (E.box (vs := [.int .u8 h1.f_Class, .int .u32 h1.f_Flow, .int .u16 h1.f_Length, .int .u8 h1.f_Next, .int .u8 h1.f_Hops, .string h1.f_Src, .string h1.f_Dst]) hM rfl rfl) rfl fun v w3 hv => ?_
  clear hM
  obtain ⟨g2, rfl, hM, hf⟩ := hv
  refine RL.val (O.assign rfl) rfl ?_
  refine RL.val (O.assign rfl) rfl ?_
  refine RL.nil ?_
  refine KQ.then_n ?_
  refine KC.seq ?_
  refine KC.seq ?_
  refine KC.region ?_
  refine RL.val (O.fldA fl56_1 (by decide) rfl) rfl ?_
  refine RL.val (O.load sc37 rfl (Cs.adds [1] ((hM.bx (i := 0) rfl)) rfl)) rfl ?_
  refine RL.val (O.geq rfl rfl) rfl ?_
  refine RL.nil ?_
  refine KQ.then_n ?_
  refine KC.cond rfl (fun hc => ?_) (fun hc => ?_)
  · rw [if_pos hc] at hF
    refine KC.seq ?_
    refine KC.region ?_
    refine RL.val (O.assign rfl) rfl ?_
    refine RL.val (O.assign rfl) rfl ?_
    refine RL.nil ?_
    refine KQ.then_n ?_
    refine KC.ret ?_
    refine KQ.then_r ?_
    obtain rfl := Option.some.inj hF
    replace hM := hM.nilrow 5 1
    replace hM := hM.pick [1] rfl (by decide)
    refine KQ.rets Try.results29 (RVs.cons (RV.tm rfl) (RVs.cons (RV.tm rfl) RVs.nil)) ?_
    exact ⟨_, rfl, none, 0, rfl, hM⟩
  · rw [if_neg (ne_true hc)] at hF
    refine KC.skip ?_
    refine KQ.then_n ?_
    refine KC.seq ?_
    refine KC.region ?_
    refine RL.val (O.fldA fl56_0 (by decide) rfl) rfl ?_
    refine RL.val (O.load sc5 rfl (Cs.adds [0] ((hM.bx (i := 0) rfl)) rfl)) rfl ?_
    refine RL.val (O.conv un5 Try.underlying81 rfl) rfl ?_
    refine RL.val (O.mul rfl rfl) rfl ?_
    refine RL.val (O.add rfl rfl) rfl ?_
    refine RL.val (O.fldA fl56_1 (by decide) rfl) rfl ?_
    refine RL.val (O.load sc37 rfl (Cs.adds [1] ((hM.bx (i := 0) rfl)) rfl)) rfl ?_
    refine RL.val (O.conv un37 Try.underlying81 rfl) rfl ?_
    refine RL.val (O.add rfl rfl) rfl ?_
    refine obindE hF fun y5 hx6 hF => ?_
    refine RL.call Try.func53 bd53 rfl rfl (c_ref01_Put _ (IntKind.u64.wrap ((IntKind.u64.wrap (1610612736 + (IntKind.u64.wrap ((IntKind.u64.wrap h1.f_Class) * 1048576)))) + (IntKind.u64.wrap h1.f_Flow))) 4 _ hx6) fun v w7 hv => ?_
    obtain ⟨A9, c10, rfl, hN8⟩ := hv
    replace hM := hM.call hN8
    refine RL.val (O.assign rfl) rfl ?_
    refine RL.nil ?_
    refine KQ.then_n ?_
    refine KC.seq ?_
    refine KC.region ?_
    refine RL.val (O.move rfl) rfl ?_
    refine RL.val (O.fldA fl56_2 (by decide) rfl) rfl ?_
    refine RL.val (O.load sc36 rfl (Cs.adds [2] ((hM.bx (i := 0) rfl)) rfl)) rfl ?_
    refine RL.val (O.conv un36 Try.underlying81 rfl) rfl ?_
    refine obindE hF fun y12 hx13 hF => ?_
    refine RL.call Try.func53 bd53 rfl rfl (c_ref01_Put _ (IntKind.u64.wrap h1.f_Length) 2 _ hx13) fun v w14 hv => ?_
    obtain ⟨A16, c17, rfl, hN15⟩ := hv
    replace hM := hM.call hN15
    refine cut_someE hF fun hq22 hF => ?_
    refine RL.eff (E.app (enc := (eI .u8)) (xs := y5) (ys := y12) (j := 1) hM rfl sl31 ze5 rfl rfl rfl rfl rfl (hM.rd (i := 2) rfl) (fun _ => One.all rfl) (of_decide_eq_true hq22)) rfl fun v w21 hv => ?_
    clear hM
    obtain ⟨A19, c20, rfl, hM, hf⟩ := hv
    refine RL.val (O.assign rfl) rfl ?_
    refine RL.nil ?_
    refine KQ.then_n ?_
    refine KC.seq ?_
    refine KC.region ?_
    refine RL.val (O.move rfl) rfl ?_
    refine RL.val (O.fldA fl56_3 (by decide) rfl) rfl ?_
    refine RL.val (O.load sc5 rfl (Cs.adds [3] ((hM.bx (i := 0) rfl)) rfl)) rfl ?_
    refine RL.val (O.fldA fl56_4 (by decide) rfl) rfl ?_
    refine RL.val (O.load sc5 rfl (Cs.adds [4] ((hM.bx (i := 0) rfl)) rfl)) rfl ?_
    refine RL.eff (E.bsl (enc := (eI .u8)) (xs := ([h1.f_Next, h1.f_Hops] : List Int)) hM sl31 ze5 rfl rfl rfl (fun _ => rfl) rfl (by kernel_rfl) rfl) rfl fun v w24 hv => ?_
    clear hM
    obtain ⟨A25, rfl, hM, hf⟩ := hv
    refine cut_someE hF fun hq30 hF => ?_
    refine RL.eff (E.app (enc := (eI .u8)) (xs := (y5 ++ y12)) (ys := ([h1.f_Next, h1.f_Hops] : List Int)) (j := 1) hM rfl sl31 ze5 rfl rfl rfl rfl rfl (hM.rd (i := 3) rfl) (fun _ => One.all rfl) (of_decide_eq_true hq30)) rfl fun v w29 hv => ?_
    clear hM
    obtain ⟨A27, c28, rfl, hM, hf⟩ := hv
    refine RL.val (O.assign rfl) rfl ?_
    refine RL.nil ?_
    refine KQ.then_n ?_
    refine KC.seq ?_
    refine KC.region ?_
    refine RL.val (O.move rfl) rfl ?_
    refine RL.val (O.fldA fl56_5 (by decide) rfl) rfl ?_
    refine RL.val (O.load sc9 rfl (Cs.adds [5] ((hM.bx (i := 0) rfl)) rfl)) rfl ?_
    refine cut_someE hF fun hq35 hF => ?_
    refine RL.eff (E.s2b hM Try.underlying9 sl31 Try.underlying5 rfl (of_decide_eq_true hq35)) rfl fun v w34 hv => ?_
    clear hM
    obtain ⟨A32, c33, Z36, rfl, hM, hf⟩ := hv
    refine cut_someE hF fun hq41 hF => ?_
    refine RL.eff (E.app (enc := (eI .u8)) (xs := ((y5 ++ y12) ++ ([h1.f_Next, h1.f_Hops] : List Int))) (ys := (numsOfStr h1.f_Src)) (j := 1) hM rfl sl31 ze5 rfl rfl rfl rfl rfl (hM.rdP (i := 4) rfl) (fun _ => One.all rfl) (of_decide_eq_true hq41)) rfl fun v w40 hv => ?_
    clear hM
    obtain ⟨A38, c39, rfl, hM, hf⟩ := hv
    refine RL.val (O.assign rfl) rfl ?_
    refine RL.nil ?_
    refine KQ.then_n ?_
    refine KC.seq ?_
    refine KC.region ?_
    refine RL.val (O.move rfl) rfl ?_
    refine RL.val (O.fldA fl56_6 (by decide) rfl) rfl ?_
    refine RL.val (O.load sc9 rfl (Cs.adds [6] ((hM.bx (i := 0) rfl)) rfl)) rfl ?_
    refine cut_someE hF fun hq46 hF => ?_
    refine RL.eff (E.s2b hM Try.underlying9 sl31 Try.underlying5 rfl (of_decide_eq_true hq46)) rfl fun v w45 hv => ?_
    clear hM
    obtain ⟨A43, c44, Z47, rfl, hM, hf⟩ := hv
    refine cut_someE hF fun hq52 hF => ?_
    refine RL.eff (E.app (enc := (eI .u8)) (xs := (((y5 ++ y12) ++ ([h1.f_Next, h1.f_Hops] : List Int)) ++ (numsOfStr h1.f_Src))) (ys := (numsOfStr h1.f_Dst)) (j := 1) hM rfl sl31 ze5 rfl rfl rfl rfl rfl (hM.rdP (i := 5) rfl) (fun _ => One.all rfl) (of_decide_eq_true hq52)) rfl fun v w51 hv => ?_
    clear hM
    obtain ⟨A49, c50, rfl, hM, hf⟩ := hv
    refine RL.val (O.assign rfl) rfl ?_
    refine RL.val (O.assign rfl) rfl ?_
    refine RL.nil ?_
    refine KQ.then_n ?_
    refine KC.ret ?_
    obtain rfl := Option.some.inj hF
    replace hM := hM.pick [1] rfl (by decide)
    refine KQ.rets Try.results29 (RVs.cons (RV.tm rfl) (RVs.cons (RV.tm rfl) RVs.nil)) ?_
    exact ⟨_, rfl, A49, c50, rfl, hM⟩
end Go.Proofs.Ytikjomacnbemhaa
