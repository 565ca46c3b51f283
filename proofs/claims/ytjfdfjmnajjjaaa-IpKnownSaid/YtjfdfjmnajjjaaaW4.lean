/- Printed by a program of this claim: each call returns what the plain function of its name gives. -/
import Derived.Test.YtjfdfjmnajjjaaaW1
import Derived.Test.YtjfdfjmnajjjaaaW2
import Derived.Test.YtjfdfjmnajjjaaaW3
set_option linter.unusedVariables false
namespace Go.Proofs.Ytjfdfjmnajjjaaa
open Go Go.Ox Go.RowKit
set_option maxRecDepth 100000 in
set_option maxHeartbeats 40000000 in
theorem c_ip_Put (w : World) (h1 : T_ip_Header) (A2 : Option Addr) (c3 : Nat) (hr4 : Rd w A2 c3 1 h1.f_Options.length (h1.f_Options.flatMap (eI .u8))) (r : (List Int) × Int) (hF : F_ip_Put h1 = some r) :
    CallsR Try.prog 13 [.agg #[.int .u8 h1.f_TOS, .int .u16 h1.f_Total, .int .u16 h1.f_ID, .bool h1.f_DF, .bool h1.f_MF, .int .u16 h1.f_Frag, .int .u8 h1.f_TTL, .int .u8 h1.f_Proto, .int .u8 (List.getD h1.f_Src 0 0), .int .u8 (List.getD h1.f_Src 1 0), .int .u8 (List.getD h1.f_Src 2 0), .int .u8 (List.getD h1.f_Src 3 0), .int .u8 (List.getD h1.f_Dst 0 0), .int .u8 (List.getD h1.f_Dst 1 0), .int .u8 (List.getD h1.f_Dst 2 0), .int .u8 (List.getD h1.f_Dst 3 0), .slice A2 (h1.f_Options).length c3]] w (fun v w' => ∃ (A0 : Option Addr) (c0 : Nat), v = .tuple #[.slice A0 (r.1).length c0, .int .i64 r.2] ∧ Mem w [] w' [.row A0 c0 5 1 r.1.length (r.1.flatMap (eI .u8))]) := by
  refine calls_KC Try.func13 rfl Try.ntmps13 rfl ?_
  have hM := Mem.init w
  unfold F_ip_Put at hF
  refine KC.seqH fun Q5 hQ5 => ?_
  refine KC.region ?_
  refine RL.eff (E.box (vs := [.int .u8 h1.f_TOS, .int .u16 h1.f_Total, .int .u16 h1.f_ID, .bool h1.f_DF, .bool h1.f_MF, .int .u16 h1.f_Frag, .int .u8 h1.f_TTL, .int .u8 h1.f_Proto, .int .u8 (List.getD h1.f_Src 0 0), .int .u8 (List.getD h1.f_Src 1 0), .int .u8 (List.getD h1.f_Src 2 0), .int .u8 (List.getD h1.f_Src 3 0), .int .u8 (List.getD h1.f_Dst 0 0), .int .u8 (List.getD h1.f_Dst 1 0), .int .u8 (List.getD h1.f_Dst 2 0), .int .u8 (List.getD h1.f_Dst 3 0), .slice A2 (h1.f_Options).length c3]) hM rfl rfl) rfl fun v w7 hv => ?_
  clear hM
  obtain ⟨g6, rfl, hM, hf⟩ := hv
  refine RL.val (O.assign rfl) rfl ?_
  refine RL.val (O.assign rfl) rfl ?_
  refine RL.nil ?_
  refine KQ.thn hQ5 ?_
  clear hQ5 Q5
  refine KC.seqH fun Q9 hQ9 => ?_
  refine KC.seqH fun Q10 hQ10 => ?_
  refine KC.region ?_
  refine RL.val (O.loadN (cs := [.int .u8 h1.f_TOS, .int .u16 h1.f_Total, .int .u16 h1.f_ID, .bool h1.f_DF, .bool h1.f_MF, .int .u16 h1.f_Frag, .int .u8 h1.f_TTL, .int .u8 h1.f_Proto, .int .u8 (List.getD h1.f_Src 0 0), .int .u8 (List.getD h1.f_Src 1 0), .int .u8 (List.getD h1.f_Src 2 0), .int .u8 (List.getD h1.f_Src 3 0), .int .u8 (List.getD h1.f_Dst 0 0), .int .u8 (List.getD h1.f_Dst 1 0), .int .u8 (List.getD h1.f_Dst 2 0), .int .u8 (List.getD h1.f_Dst 3 0), .slice A2 (h1.f_Options).length c3]) ag39 rfl (Cs.addsN [] ((hM.bx (i := 0) rfl)) rfl)) rfl ?_
  refine obindE hF fun y11 hx12 hF => ?_
  refine RL.call Try.func15 bd15 rfl rfl (c_ip_Right _ h1 _ _ (hM.inp hr4 Off.nil) _ hx12) fun v w13 hv => ?_
  obtain ⟨rfl, hN14⟩ := hv
  replace hM := hM.call0 hN14
  refine RL.val (O.not rfl) rfl ?_
  refine RL.nil ?_
  refine KQ.thn hQ10 ?_
  clear hQ10 Q10
  refine KC.cond rfl (fun hc => ?_) (fun hc => ?_)
  · rw [if_pos hc] at hF
    refine KC.seqH fun Q15 hQ15 => ?_
    refine KC.region ?_
    refine RL.val (O.assign rfl) rfl ?_
    refine RL.val (O.assign rfl) rfl ?_
    refine RL.nil ?_
    refine KQ.thn hQ15 ?_
    clear hQ15 Q15
    refine KC.ret ?_
    refine KQ.thr hQ9 ?_
    clear hQ9 Q9
    have hE := Option.some.inj hF
    clear hF
    subst hE
    replace hM := hM.nilrow 5 1
    replace hM := hM.pick [1] rfl (by decide)
    refine KQ.rets Try.results13 (RVs.cons (RV.tm rfl) (RVs.cons (RV.tm rfl) RVs.nil)) ?_
    exact ⟨_, rfl, none, 0, rfl, hM⟩
  · rw [if_neg (ne_true hc)] at hF
    refine KC.skip ?_
    refine KQ.thn hQ9 ?_
    clear hQ9 Q9
    refine KC.seqH fun Q16 hQ16 => ?_
    refine KC.region ?_
    refine RL.val (O.bld (cs := [.slice none 0 0]) bt68 rfl (by kernel_rfl)) rfl ?_
    refine RL.eff (E.box (vs := [.slice none 0 0]) hM rfl rfl) rfl fun v w18 hv => ?_
    clear hM
    obtain ⟨g17, rfl, hM, hf⟩ := hv
    refine RL.val (O.assign rfl) rfl ?_
    refine RL.nil ?_
    refine KQ.thn hQ16 ?_
    clear hQ16 Q16
    refine KC.seqH fun Q20 hQ20 => ?_
    replace hM := hM.drewN 1
    refine KC.draw [] [10] [2, 9, 10] [0, 3, 4, 5, 6, 8] (.ofList [0, 1, 6, 7, 8, 2, 3, 4, 5, 9, 10]) moP (by kernel_rfl) ?_
    refine RD.p rfl rfl rfl rfl (fun w' => O.move rfl) ?_
    refine RD.q rfl rfl rfl rfl (fun w' hf => O.loadN (cs := [.int .u8 h1.f_TOS, .int .u16 h1.f_Total, .int .u16 h1.f_ID, .bool h1.f_DF, .bool h1.f_MF, .int .u16 h1.f_Frag, .int .u8 h1.f_TTL, .int .u8 h1.f_Proto, .int .u8 (List.getD h1.f_Src 0 0), .int .u8 (List.getD h1.f_Src 1 0), .int .u8 (List.getD h1.f_Src 2 0), .int .u8 (List.getD h1.f_Src 3 0), .int .u8 (List.getD h1.f_Dst 0 0), .int .u8 (List.getD h1.f_Dst 1 0), .int .u8 (List.getD h1.f_Dst 2 0), .int .u8 (List.getD h1.f_Dst 3 0), .slice A2 (h1.f_Options).length c3]) ag39 rfl (Cs.addsN [] ((hM.bx (i := 0) rfl).fut hf) rfl)) ?_
    refine RD.p rfl rfl rfl rfl (fun w' => O.fldA fl39_0 (by decide) rfl) ?_
    refine RD.q rfl rfl rfl rfl (fun w' hf => O.load sc5 rfl (Cs.adds [0] ((hM.bx (i := 0) rfl).fut hf) rfl)) ?_
    refine RD.p rfl rfl rfl rfl (fun w' => O.conv un5 Try.underlying70 rfl) ?_
    refine obindE hF fun y21 hx22 hF => ?_
    refine RD.mcall rfl rfl trivial Try.func31 bd31 rfl rfl (c_ip_Header_length _ h1 _ _ (hM.inp hr4 Off.nil) _ hx22) fun v w23 hv => ?_
    obtain ⟨rfl, hN24⟩ := hv
    refine ⟨fun _ => hN24.fut, ?_⟩
    replace hM := hM.call0 hN24
    refine RD.p rfl rfl rfl rfl (fun w' => O.quo rfl rfl (by decide)) ?_
    refine RD.p rfl rfl rfl rfl (fun w' => O.conv un3 Try.underlying70 rfl) ?_
    refine RD.p rfl rfl rfl rfl (fun w' => O.or rfl rfl) ?_
    refine RD.meff rfl rfl (E.bsl (enc := (eI .u64)) (xs := ([(bits .or .u64 64 (IntKind.u64.wrap (IntKind.i64.wrap (Int.tdiv y21 4)))), (IntKind.u64.wrap h1.f_TOS)] : List Int)) hM sl88 ze70 rfl rfl rfl (fun _ => rfl) rfl (by kernel_rfl) rfl) rfl fun v w25 hv => ?_
    clear hM
    obtain ⟨A26, rfl, hM, hf⟩ := hv
    refine ⟨fun _ => hf, ?_⟩
    replace hM := hM.nilrow 5 1
    refine obindE hF fun y29 hx30 hF => ?_
    refine RD.mcall rfl rfl trivial Try.func30 bd30 rfl rfl (c_ip_writer_put _ _ _ (T_ip_writer.mk (T_bits_Writer.mk ([] : List Int))) _ _ (hM.lent [1, 3] rfl (by decide)) 1 _ _ ([(bits .or .u64 64 (IntKind.u64.wrap (IntKind.i64.wrap (Int.tdiv y21 4)))), (IntKind.u64.wrap h1.f_TOS)] : List Int) (hM.rd (i := 2) rfl) (hM.offR [1, 3] rfl (i := 2) rfl rfl) _ hx30) fun v w31 hv => ?_
    obtain ⟨A33, c34, rfl, hN32⟩ := hv
    refine ⟨fun h => (by cases h), ?_⟩
    replace hM := hM.callL [1, 3] [0, 2] rfl rfl (by decide) rfl hN32
    refine RD.nil ?_
    refine KQ.thn hQ20 ?_
    clear hQ20 Q20
    replace hM := hM.pick [0, 2, 3] rfl (by decide)
    refine KC.seqH fun Q36 hQ36 => ?_
    replace hM := hM.drewN 1
    refine KC.draw [] [19] [9, 12, 18, 19] [0, 1, 3, 4, 6, 7, 10, 13, 14, 16, 17] (.ofList [0, 1, 2, 3, 4, 5, 6, 7, 8, 10, 11, 14, 15, 16, 9, 12, 13, 17, 18, 19]) moP (by kernel_rfl) ?_
    refine RD.p rfl rfl rfl rfl (fun w' => O.move rfl) ?_
    refine RD.p rfl rfl rfl rfl (fun w' => O.fldA fl39_1 (by decide) rfl) ?_
    refine RD.q rfl rfl rfl rfl (fun w' hf => O.load sc36 rfl (Cs.adds [1] ((hM.bx (i := 0) rfl).fut hf) rfl)) ?_
    refine RD.p rfl rfl rfl rfl (fun w' => O.conv un36 Try.underlying70 rfl) ?_
    refine RD.p rfl rfl rfl rfl (fun w' => O.fldA fl39_2 (by decide) rfl) ?_
    refine RD.q rfl rfl rfl rfl (fun w' hf => O.load sc36 rfl (Cs.adds [2] ((hM.bx (i := 0) rfl).fut hf) rfl)) ?_
    refine RD.p rfl rfl rfl rfl (fun w' => O.conv un36 Try.underlying70 rfl) ?_
    refine RD.p rfl rfl rfl rfl (fun w' => O.fldA fl39_3 (by decide) rfl) ?_
    refine RD.q rfl rfl rfl rfl (fun w' hf => O.load sc4 rfl (Cs.adds [3] ((hM.bx (i := 0) rfl).fut hf) rfl)) ?_
    refine RD.p rfl rfl rfl rfl (fun w' => O.fldA fl39_4 (by decide) rfl) ?_
    refine RD.q rfl rfl rfl rfl (fun w' hf => O.load sc4 rfl (Cs.adds [4] ((hM.bx (i := 0) rfl).fut hf) rfl)) ?_
    refine RD.p rfl rfl rfl rfl (fun w' => O.fldA fl39_5 (by decide) rfl) ?_
    refine RD.q rfl rfl rfl rfl (fun w' hf => O.load sc36 rfl (Cs.adds [5] ((hM.bx (i := 0) rfl).fut hf) rfl)) ?_
    refine RD.p rfl rfl rfl rfl (fun w' => O.conv un36 Try.underlying70 rfl) ?_
    refine obindE hF fun y37 hx38 hF => ?_
    refine RD.mcall rfl rfl trivial Try.func32 bd32 rfl rfl (c_ip_flag _ h1.f_DF 16384 _ hx38) fun v w39 hv => ?_
    obtain ⟨rfl, hN40⟩ := hv
    refine ⟨fun _ => hN40.fut, ?_⟩
    replace hM := hM.call0 hN40
    refine obindE hF fun y41 hx42 hF => ?_
    refine RD.mcall rfl rfl trivial Try.func32 bd32 rfl rfl (c_ip_flag _ h1.f_MF 8192 _ hx42) fun v w43 hv => ?_
    obtain ⟨rfl, hN44⟩ := hv
    refine ⟨fun _ => hN44.fut, ?_⟩
    replace hM := hM.call0 hN44
    refine RD.p rfl rfl rfl rfl (fun w' => O.or rfl rfl) ?_
    refine RD.p rfl rfl rfl rfl (fun w' => O.or rfl rfl) ?_
    refine RD.meff rfl rfl (E.bsl (enc := (eI .u64)) (xs := ([(IntKind.u64.wrap h1.f_Total), (IntKind.u64.wrap h1.f_ID), (bits .or .u64 (bits .or .u64 y37 y41) (IntKind.u64.wrap h1.f_Frag))] : List Int)) hM sl88 ze70 rfl rfl rfl (fun _ => rfl) rfl (by kernel_rfl) rfl) rfl fun v w45 hv => ?_
    clear hM
    obtain ⟨A46, rfl, hM, hf⟩ := hv
    refine ⟨fun _ => hf, ?_⟩
    refine obindE hF fun y48 hx49 hF => ?_
    refine RD.mcall rfl rfl trivial Try.func30 bd30 rfl rfl (c_ip_writer_put _ _ _ y29 _ _ (hM.lent [1, 2] rfl (by decide)) 2 _ _ ([(IntKind.u64.wrap h1.f_Total), (IntKind.u64.wrap h1.f_ID), (bits .or .u64 (bits .or .u64 y37 y41) (IntKind.u64.wrap h1.f_Frag))] : List Int) (hM.rd (i := 3) rfl) (hM.offR [1, 2] rfl (i := 3) rfl rfl) _ hx49) fun v w50 hv => ?_
    obtain ⟨A52, c53, rfl, hN51⟩ := hv
    refine ⟨fun h => (by cases h), ?_⟩
    replace hM := hM.callL [1, 2] [0, 3] rfl rfl (by decide) rfl hN51
    refine RD.nil ?_
    refine KQ.thn hQ36 ?_
    clear hQ36 Q36
    replace hM := hM.pick [0, 2, 3] rfl (by decide)
    refine KC.seqH fun Q55 hQ55 => ?_
    refine KC.region ?_
    refine RL.val (O.move rfl) rfl ?_
    refine RL.val (O.fldA fl39_6 (by decide) rfl) rfl ?_
    refine RL.val (O.load sc5 rfl (Cs.adds [6] ((hM.bx (i := 0) rfl)) rfl)) rfl ?_
    refine RL.val (O.conv un5 Try.underlying70 rfl) rfl ?_
    refine RL.val (O.fldA fl39_7 (by decide) rfl) rfl ?_
    refine RL.val (O.load sc5 rfl (Cs.adds [7] ((hM.bx (i := 0) rfl)) rfl)) rfl ?_
    refine RL.val (O.conv un5 Try.underlying70 rfl) rfl ?_
    refine RL.eff (E.bsl (enc := (eI .u64)) (xs := ([(IntKind.u64.wrap h1.f_TTL), (IntKind.u64.wrap h1.f_Proto)] : List Int)) hM sl88 ze70 rfl rfl rfl (fun _ => rfl) rfl (by kernel_rfl) rfl) rfl fun v w56 hv => ?_
    clear hM
    obtain ⟨A57, rfl, hM, hf⟩ := hv
    refine obindE hF fun y59 hx60 hF => ?_
    refine RL.call Try.func30 bd30 rfl rfl (c_ip_writer_put _ _ _ y48 _ _ (hM.lent [1, 2] rfl (by decide)) 1 _ _ ([(IntKind.u64.wrap h1.f_TTL), (IntKind.u64.wrap h1.f_Proto)] : List Int) (hM.rd (i := 3) rfl) (hM.offR [1, 2] rfl (i := 3) rfl rfl) _ hx60) fun v w61 hv => ?_
    obtain ⟨A63, c64, rfl, hN62⟩ := hv
    replace hM := hM.callL [1, 2] [0, 3] rfl rfl (by decide) rfl hN62
    refine RL.nil ?_
    refine KQ.thn hQ55 ?_
    clear hQ55 Q55
    replace hM := hM.pick [0, 2, 3] rfl (by decide)
    refine KC.seqH fun Q66 hQ66 => ?_
    refine KC.region ?_
    refine RL.val (O.move rfl) rfl ?_
    refine RL.eff (E.bsl (enc := (eI .u64)) (xs := ([0] : List Int)) hM sl88 ze70 rfl rfl rfl (fun _ => rfl) rfl (by kernel_rfl) rfl) rfl fun v w67 hv => ?_
    clear hM
    obtain ⟨A68, rfl, hM, hf⟩ := hv
    refine obindE hF fun y70 hx71 hF => ?_
    refine RL.call Try.func30 bd30 rfl rfl (c_ip_writer_put _ _ _ y59 _ _ (hM.lent [1, 2] rfl (by decide)) 2 _ _ ([0] : List Int) (hM.rd (i := 3) rfl) (hM.offR [1, 2] rfl (i := 3) rfl rfl) _ hx71) fun v w72 hv => ?_
    obtain ⟨A74, c75, rfl, hN73⟩ := hv
    replace hM := hM.callL [1, 2] [0, 3] rfl rfl (by decide) rfl hN73
    refine RL.nil ?_
    refine KQ.thn hQ66 ?_
    clear hQ66 Q66
    replace hM := hM.pick [0, 2, 3] rfl (by decide)
    refine KC.seqH fun Q77 hQ77 => ?_
    replace hM := hM.drewN 1
    refine KC.draw [] [11] [9, 10, 11] [0, 1, 2, 3, 4, 5, 6, 7] (.ofList [0, 1, 2, 3, 4, 5, 6, 7, 8, 9, 10, 11]) moP (by kernel_rfl) ?_
    refine RD.p rfl rfl rfl rfl (fun w' => O.move rfl) ?_
    refine RD.p rfl rfl rfl rfl (fun w' => O.nilp rfl) ?_
    refine RD.p rfl rfl rfl rfl (fun w' => O.fldA fl68_0 (by decide) rfl) ?_
    refine RD.p rfl rfl rfl rfl (fun w' => O.fldA fl39_8 (by decide) rfl) ?_
    have hr78 := Rd.arr (n := 4) (k := .u8) (xs := h1.f_Src) (Cs.addsN [8] (hM.bx (i := 0) rfl) rfl) rfl rfl
    refine RD.p rfl rfl rfl rfl (fun w' => O.slArr (xs := h1.f_Src) Try.underlying37 sz5 rfl rfl) ?_
    refine RD.p rfl rfl rfl rfl (fun w' => O.fldA fl39_9 (by decide) rfl) ?_
    have hr79 := Rd.arr (n := 4) (k := .u8) (xs := h1.f_Dst) (Cs.addsN [12] (hM.bx (i := 0) rfl) rfl) rfl rfl
    refine RD.p rfl rfl rfl rfl (fun w' => O.slArr (xs := h1.f_Dst) Try.underlying37 sz5 rfl rfl) ?_
    refine RD.p rfl rfl rfl rfl (fun w' => O.fldA fl39_10 (by decide) rfl) ?_
    refine RD.q rfl rfl rfl rfl (fun w' hf => O.load sc22 rfl (Cs.adds [16] ((hM.bx (i := 0) rfl).fut hf) rfl)) ?_
    refine RD.meff rfl rfl (E.bslR (enc := (eI .u8)) (us := [.slice (some (Addr.add (Addr.add ⟨g6, 0, none⟩ 8) (0 * 1))) ((arrL 4 h1.f_Src)).length 4, .slice (some (Addr.add (Addr.add ⟨g6, 0, none⟩ 12) (0 * 1))) ((arrL 4 h1.f_Dst)).length 4, .slice A2 (h1.f_Options).length c3]) (xss := [(arrL 4 h1.f_Src), (arrL 4 h1.f_Dst), h1.f_Options]) (Rdl.cons (hr78) (Rdl.cons (hr79) (Rdl.cons ((hM.inp hr4 Off.nil)) Rdl.nil))) hM sl91 ze22 rfl rfl rfl rfl rfl) rfl fun v w80 hv => ?_
    clear hM
    obtain ⟨A81, rfl, hM, hf, hr82⟩ := hv
    refine ⟨fun _ => hf, ?_⟩
    have hr78 := hr78.fut hf
    have hr79 := hr79.fut hf
    refine obindE hF fun y83 hx84 hF => ?_
    refine RD.mcall rfl rfl trivial Try.func34 bd34 rfl rfl (c_slices_Concat_byte_byte _ _ _ ([(arrL 4 h1.f_Src), (arrL 4 h1.f_Dst), h1.f_Options]) (hr82) _ hx84) fun v w85 hv => ?_
    obtain ⟨A87, c88, rfl, hN86⟩ := hv
    refine ⟨fun _ => hN86.fut, ?_⟩
    have hr78 := hr78.fut hN86.fut
    have hr79 := hr79.fut hN86.fut
    have hr82 := hr82.fut hN86.fut
    replace hM := hM.call hN86
    refine obindE hF fun y90 hx91 hF => ?_
    refine RD.mcall rfl rfl trivial Try.func33 bd33 rfl rfl (c_bits_Writer_Raw _ _ _ y70.f_Writer _ _ (hM.lent [1, 2] rfl (by decide)) _ _ y83 (hM.rd (i := 3) rfl) (hM.offR [1, 2] rfl (i := 3) rfl rfl) _ hx91) fun v w92 hv => ?_
    obtain ⟨A94, c95, rfl, hN93⟩ := hv
    refine ⟨fun h => (by cases h), ?_⟩
    replace hM := hM.callL [1, 2] [0, 3] rfl rfl (by decide) rfl hN93
    have hr78 := Rd.arr (n := 4) (k := .u8) (xs := h1.f_Src) (Cs.addsN [8] (hM.bx (i := 0) rfl) rfl) rfl rfl
    have hr79 := Rd.arr (n := 4) (k := .u8) (xs := h1.f_Dst) (Cs.addsN [12] (hM.bx (i := 0) rfl) rfl) rfl rfl
    refine RD.nil ?_
    refine KQ.thn hQ77 ?_
    clear hQ77 Q77
    replace hM := hM.pick [2, 3] rfl (by decide)
    refine KC.seqH fun Q97 hQ97 => ?_
    replace hM := hM.drewN 1
    refine KC.draw [] [6, 10] [6, 7, 8, 10] [0, 1, 2, 3, 4, 5, 9] (.ofList [0, 1, 2, 3, 4, 5, 6, 7, 8, 9, 10]) moP (by kernel_rfl) ?_
    refine RD.p rfl rfl rfl rfl (fun w' => O.move rfl) ?_
    refine RD.p rfl rfl rfl rfl (fun w' => O.nilp rfl) ?_
    refine RD.p rfl rfl rfl rfl (fun w' => O.fldA fl68_0 (by decide) rfl) ?_
    refine RD.p rfl rfl rfl rfl (fun w' => O.move rfl) ?_
    refine RD.p rfl rfl rfl rfl (fun w' => O.nilp rfl) ?_
    refine RD.p rfl rfl rfl rfl (fun w' => O.fldA fl68_0 (by decide) rfl) ?_
    refine obindE hF fun y98 hx99 hF => ?_
    refine RD.mcall rfl rfl trivial Try.func37 bd37 rfl rfl (c_bits_Writer_Bytes _ _ _ y90.2 _ _ (hM.lent [0, 1] rfl (by decide)) _ hx99) fun v w100 hv => ?_
    obtain ⟨A102, c103, A105, c106, rfl, hN101⟩ := hv
    refine ⟨fun h => (by cases h), ?_⟩
    replace hM := hM.callL [0, 1] [] rfl rfl (by decide) rfl hN101
    refine RD.meff rfl rfl (E.bslR (enc := (eI .u8)) (us := [.slice A105 (y98.1).length c106]) (xss := [y98.1]) (Rdl.cons ((hM.rd (i := 2) rfl)) Rdl.nil) hM sl91 ze22 rfl rfl rfl rfl rfl) rfl fun v w108 hv => ?_
    clear hM
    obtain ⟨A109, rfl, hM, hf, hr110⟩ := hv
    refine ⟨fun _ => hf, ?_⟩
    refine obindE hF fun y111 hx112 hF => ?_
    refine RD.mcall rfl rfl trivial Try.func36 bd36 rfl rfl (c_sum_Of _ _ _ ([y98.1]) (hr110) _ hx112) fun v w113 hv => ?_
    obtain ⟨rfl, hN114⟩ := hv
    refine ⟨fun _ => hN114.fut, ?_⟩
    have hr110 := hr110.fut hN114.fut
    replace hM := hM.call0 hN114
    refine RD.p rfl rfl rfl rfl (fun w' => O.conv un36 Try.underlying70 rfl) ?_
    refine obindE hF fun y115 hx116 hF => ?_
    refine RD.mcall rfl rfl trivial Try.func35 bd35 rfl rfl (c_bits_Writer_Set _ _ _ y98.2 _ _ (hM.lent [0, 1] rfl (by decide)) 10 (IntKind.u64.wrap y111) 2 _ hx116) fun v w117 hv => ?_
    obtain ⟨A119, c120, rfl, hN118⟩ := hv
    refine ⟨fun h => (by cases h), ?_⟩
    replace hM := hM.callL [0, 1] [2] rfl rfl (by decide) rfl hN118
    refine RD.nil ?_
    refine KQ.thn hQ97 ?_
    clear hQ97 Q97
    refine KC.seqH fun Q122 hQ122 => ?_
    refine KC.region ?_
    refine RL.val (O.move rfl) rfl ?_
    refine RL.val (O.nilp rfl) rfl ?_
    refine RL.val (O.fldA fl68_0 (by decide) rfl) rfl ?_
    refine obindE hF fun y123 hx124 hF => ?_
    refine RL.call Try.func37 bd37 rfl rfl (c_bits_Writer_Bytes _ _ _ y115.2 _ _ (hM.lent [1, 2] rfl (by decide)) _ hx124) fun v w125 hv => ?_
    obtain ⟨A127, c128, A130, c131, rfl, hN126⟩ := hv
    replace hM := hM.callL [1, 2] [0] rfl rfl (by decide) rfl hN126
    refine RL.val (O.assign rfl) rfl ?_
    refine RL.val (O.assign rfl) rfl ?_
    refine RL.nil ?_
    refine KQ.thn hQ122 ?_
    clear hQ122 Q122
    refine KC.ret ?_
    have hE := Option.some.inj hF
    clear hF
    subst hE
    replace hM := hM.pick [3] rfl (by decide)
    refine KQ.rets Try.results13 (RVs.cons (RV.tm rfl) (RVs.cons (RV.tm rfl) RVs.nil)) ?_
    exact ⟨_, rfl, A130, c131, rfl, hM⟩
set_option maxRecDepth 100000 in
set_option maxHeartbeats 40000000 in
theorem c_bits_value (w : World) (A2 : Option Addr) (c3 : Nat) (b1 : List Int) (hr4 : Rd w A2 c3 1 b1.length (b1.flatMap (eI .u8))) (r : Int) (hF : F_bits_value b1 = some r) :
    CallsR Try.prog 63 [.slice A2 (b1).length c3] w (fun v w' => v = .int .u64 r ∧ Mem w [] w' []) := by
  refine calls_KC Try.func63 rfl Try.ntmps63 rfl ?_
  have hM := Mem.init w
  unfold F_bits_value at hF
  refine KC.seqH fun Q5 hQ5 => ?_
  refine KC.region ?_
  refine RL.val (O.assign rfl) rfl ?_
  refine RL.nil ?_
  refine KQ.thn hQ5 ?_
  clear hQ5 Q5
  refine KC.seqH fun Q6 hQ6 => ?_
  refine KC.seqH fun Q7 hQ7 => ?_
  refine KC.region ?_
  refine RL.val (O.move rfl) rfl ?_
  refine RL.val (O.len sl22 rfl) rfl ?_
  refine RL.val (O.move rfl) rfl ?_
  refine RL.nil ?_
  refine KQ.thn hQ7 ?_
  clear hQ7 Q7
  refine KC.block ?_
  refine KC.loop (fun k28 a w26 => ∃ (v24 : Int) (t25 : Int), Kn 18 [(2, .int .u64 v24), (5, .slice A2 (b1).length c3), (6, .int .i64 (b1.length : Int)), (7, .int .i64 t25)] a ∧ Mem w [] w26 [] ∧ F_bits_value_L1 b1 k28 v24 t25 = some r) ?_ ?_
  · exact fun a ha => ⟨fuel0, 0, 0, ha.less (less_cons rfl (less_cons rfl (less_cons rfl (less_cons rfl less_nil)))), hM, hF⟩
  · rintro k28 a w26 ⟨v24, t25, ha, hM, hF⟩
    refine KC.app ha ?_
    clear ha
    cases k28 with
    | zero => exact (none_some hF).elim
    | succ k28 =>
    have hF : F_bits_value_l1 (F_bits_value_L1 b1 k28) b1 v24 t25 = some r := hF
    unfold F_bits_value_l1 at hF
    refine KC.seqH fun Q29 hQ29 => ?_
    refine KC.region ?_
    refine RL.val (O.lss rfl rfl) rfl ?_
    refine RL.nil ?_
    refine KQ.thn hQ29 ?_
    clear hQ29 Q29
    refine KC.seqH fun Q30 hQ30 => ?_
    refine KC.cond rfl (fun hc => ?_) (fun hc => ?_)
    · rw [if_pos hc] at hF
      refine KC.skip ?_
      refine KQ.thn hQ30 ?_
      clear hQ30 Q30
      refine KC.seqH fun Q31 hQ31 => ?_
      refine KC.block ?_
      refine KC.seqH fun Q32 hQ32 => ?_
      refine KC.region ?_
      refine obindE hF fun xv35 hx34 hF => ?_
      have hA33 := Rd.atN (f := (eI .u8)) (s := 1) (fun _ => rfl) (by decide) (hM.inp hr4 Off.nil) hx34
      refine RL.val (O.idxA sl22 (hA33) rfl rfl) rfl ?_
      refine RL.val (O.load sc5 rfl (hA33).cells.at0) rfl ?_
      refine RL.val (O.assign rfl) rfl ?_
      refine RL.nil ?_
      refine KQ.thn hQ32 ?_
      clear hQ32 Q32
      refine KC.region ?_
      refine RL.val (O.move rfl) rfl ?_
      refine RL.val (O.shl rfl rfl (by decide)) rfl ?_
      refine RL.val (O.move rfl) rfl ?_
      refine RL.val (O.conv un5 Try.underlying70 rfl) rfl ?_
      refine RL.val (O.or rfl rfl) rfl ?_
      refine RL.val (O.assign rfl) rfl ?_
      refine RL.nil ?_
      refine KQ.blk_n ?_
      refine KQ.thn hQ31 ?_
      clear hQ31 Q31
      refine KC.region ?_
      refine RL.val (O.add rfl rfl) rfl ?_
      refine RL.val (O.move rfl) rfl ?_
      refine RL.nil ?_
      refine KQ.then_k ?_
      exact fun a ha => ⟨k28, Nat.lt_succ_self k28, (bits .or .u64 (Ox.shl .u64 v24 8) (IntKind.u64.wrap xv35)), (IntKind.i64.wrap (t25 + 1)), ha.less (less_cons rfl (less_cons rfl (less_cons rfl (less_cons rfl less_nil)))), hM, hF⟩
    · rw [if_neg (ne_true hc)] at hF
      refine KC.exit ?_
      refine KQ.thx hQ30 ?_
      clear hQ30 Q30
      refine KQ.then_x ?_
      refine KQ.blk_x ?_
      refine KQ.thn hQ6 ?_
      clear hQ6 Q6
      refine KC.seqH fun Q36 hQ36 => ?_
      refine KC.region ?_
      refine RL.val (O.move rfl) rfl ?_
      refine RL.val (O.assign rfl) rfl ?_
      refine RL.nil ?_
      refine KQ.thn hQ36 ?_
      clear hQ36 Q36
      refine KC.ret ?_
      have hE := Option.some.inj hF
      clear hF
      subst hE
      refine KQ.rets Try.results63 (RVs.cons (RV.tm rfl) RVs.nil) ?_
      exact ⟨_, rfl, rfl, hM⟩
set_option maxRecDepth 100000 in
set_option maxHeartbeats 40000000 in
theorem c_bits_Get (w : World) (A2 : Option Addr) (c3 : Nat) (b1 : List Int) (hr4 : Rd w A2 c3 1 b1.length (b1.flatMap (eI .u8))) (atv5 : Int) (size6 : Int) (r : Int × Int) (hF : F_bits_Get b1 atv5 size6 = some r) :
    CallsR Try.prog 57 [.slice A2 (b1).length c3, .int .i64 atv5, .int .i64 size6] w (fun v w' => v = .tuple #[.int .u64 r.1, .int .i64 r.2] ∧ Mem w [] w' []) := by
  refine calls_KC Try.func57 rfl Try.ntmps57 rfl ?_
  have hM := Mem.init w
  unfold F_bits_Get at hF
  refine KC.seqH fun Q7 hQ7 => ?_
  refine KC.region ?_
  refine RL.val (O.assign rfl) rfl ?_
  refine RL.val (O.assign rfl) rfl ?_
  refine RL.nil ?_
  refine KQ.thn hQ7 ?_
  clear hQ7 Q7
  refine KC.seqH fun Q8 hQ8 => ?_
  refine KC.block ?_
  refine KC.cut (fun a w14 => ∃ (t13 : Bool), Kn 36 [(0, .slice A2 (b1).length c3), (1, .int .i64 atv5), (2, .int .i64 size6), (8, .bool t13)] a ∧ Mem w [] w14 [] ∧ F_bits_Get_j1 b1 atv5 size6 t13 = some r) ?_ ?_
  · refine KC.region ?_
    refine RL.val (O.move rfl) rfl ?_
    refine obindE hF fun y9 hx10 hF => ?_
    refine RL.call Try.func61 bd61 rfl rfl (c_bits_right _ size6 _ hx10) fun v w11 hv => ?_
    obtain ⟨rfl, hN12⟩ := hv
    replace hM := hM.call0 hN12
    refine RL.val (O.not rfl) rfl ?_
    refine RL.val (O.move rfl) rfl ?_
    refine RL.bcase (t := 12) rfl (fun hc => ?_) (fun hc => ?_)
    · rw [if_pos hc] at hF
      refine RL.gskip rfl rfl rfl rfl ?_
      refine RL.gskip rfl rfl rfl rfl ?_
      refine RL.val (O.pickt rfl rfl) rfl ?_
      refine RL.val (O.assign rfl) rfl ?_
      refine RL.nil ?_
      refine KQ.then_k ?_
      exact fun a ha => ⟨true, ha.less (less_cons rfl (less_cons rfl (less_cons rfl (less_cons rfl less_nil)))), hM, hF⟩
    · rw [if_neg (ne_true hc)] at hF
      refine RL.gval rfl rfl (O.move rfl) rfl ?_
      refine RL.gval rfl rfl (O.lss rfl rfl) rfl ?_
      refine RL.val (O.pickf rfl rfl) rfl ?_
      refine RL.val (O.assign rfl) rfl ?_
      refine RL.nil ?_
      refine KQ.then_k ?_
      exact fun a ha => ⟨(decide (atv5 < 0)), ha.less (less_cons rfl (less_cons rfl (less_cons rfl (less_cons rfl less_nil)))), hM, hF⟩
  · rintro a w14 ⟨t13, ha, hM, hF⟩
    refine KC.app ha ?_
    clear ha
    unfold F_bits_Get_j1 at hF
    refine KC.cond rfl (fun hc => ?_) (fun hc => ?_)
    · rw [if_pos hc] at hF
      refine KC.seqH fun Q15 hQ15 => ?_
      refine KC.region ?_
      refine RL.val (O.assign rfl) rfl ?_
      refine RL.val (O.assign rfl) rfl ?_
      refine RL.nil ?_
      refine KQ.thn hQ15 ?_
      clear hQ15 Q15
      refine KC.ret ?_
      refine KQ.blk_r ?_
      refine KQ.thr hQ8 ?_
      clear hQ8 Q8
      have hE := Option.some.inj hF
      clear hF
      subst hE
      refine KQ.rets Try.results57 (RVs.cons (RV.tm rfl) (RVs.cons (RV.tm rfl) RVs.nil)) ?_
      exact ⟨_, rfl, rfl, hM⟩
    · rw [if_neg (ne_true hc)] at hF
      refine KC.cut (fun a w17 => ∃ (t16 : Bool), Kn 36 [(0, .slice A2 (b1).length c3), (1, .int .i64 atv5), (2, .int .i64 size6), (16, .bool t16)] a ∧ Mem w [] w17 [] ∧ F_bits_Get_j2 b1 atv5 size6 t16 = some r) ?_ ?_
      · refine KC.region ?_
        refine RL.val (O.move rfl) rfl ?_
        refine RL.val (O.move rfl) rfl ?_
        refine RL.val (O.len sl22 rfl) rfl ?_
        refine RL.val (O.gtr rfl rfl) rfl ?_
        refine RL.val (O.move rfl) rfl ?_
        refine RL.bcase (t := 21) rfl (fun hc => ?_) (fun hc => ?_)
        · rw [if_pos hc] at hF
          refine RL.brun1 7 28 true (by kernel_rfl) ?_
          refine RL.val (O.assign rfl) rfl ?_
          refine RL.nil ?_
          refine KQ.then_k ?_
          exact fun a ha => ⟨true, ha.less (less_cons rfl (less_cons rfl (less_cons rfl (less_cons rfl less_nil)))), hM, hF⟩
        · rw [if_neg (ne_true hc)] at hF
          refine RL.gval rfl rfl (O.move rfl) rfl ?_
          refine RL.gval rfl rfl (O.len sl22 rfl) rfl ?_
          refine RL.gval rfl rfl (O.move rfl) rfl ?_
          refine RL.gval rfl rfl (O.sub rfl rfl) rfl ?_
          refine RL.gval rfl rfl (O.move rfl) rfl ?_
          refine RL.gval rfl rfl (O.lss rfl rfl) rfl ?_
          refine RL.val (O.pickf rfl rfl) rfl ?_
          refine RL.val (O.assign rfl) rfl ?_
          refine RL.nil ?_
          refine KQ.then_k ?_
          exact fun a ha => ⟨(decide ((IntKind.i64.wrap ((b1.length : Int) - atv5)) < size6)), ha.less (less_cons rfl (less_cons rfl (less_cons rfl (less_cons rfl less_nil)))), hM, hF⟩
      · rintro a w17 ⟨t16, ha, hM, hF⟩
        refine KC.app ha ?_
        clear ha
        unfold F_bits_Get_j2 at hF
        refine KC.cond rfl (fun hc => ?_) (fun hc => ?_)
        · rw [if_pos hc] at hF
          refine KC.seqH fun Q18 hQ18 => ?_
          refine KC.region ?_
          refine RL.val (O.assign rfl) rfl ?_
          refine RL.val (O.assign rfl) rfl ?_
          refine RL.nil ?_
          refine KQ.thn hQ18 ?_
          clear hQ18 Q18
          refine KC.ret ?_
          refine KQ.blk_r ?_
          refine KQ.thr hQ8 ?_
          clear hQ8 Q8
          have hE := Option.some.inj hF
          clear hF
          subst hE
          refine KQ.rets Try.results57 (RVs.cons (RV.tm rfl) (RVs.cons (RV.tm rfl) RVs.nil)) ?_
          exact ⟨_, rfl, rfl, hM⟩
        · rw [if_neg (ne_true hc)] at hF
          refine KC.skip ?_
          refine KQ.blk_n ?_
          refine KQ.thn hQ8 ?_
          clear hQ8 Q8
          refine KC.seqH fun Q19 hQ19 => ?_
          refine KC.region ?_
          refine RL.val (O.move rfl) rfl ?_
          refine RL.val (O.move rfl) rfl ?_
          refine RL.val (O.move rfl) rfl ?_
          refine RL.val (O.move rfl) rfl ?_
          refine RL.val (O.add rfl rfl) rfl ?_
          refine obindE hF fun cut20 hy21 hF => ?_
          refine cutNE A2 c3 (Int.toNat atv5) 1 fun A22 c23 eA25 ec26 => ?_
          have hr24 := Rd.cutT (enc := (eI .u8)) (s := 1) (fun _ => rfl) hr4 hy21 (m := c3) (by have := hr4.cap; have := (gcut_some hy21).2.2.1; omega) (Nat.le_refl _)
          rw [← eA25, ← ec26] at hr24
          refine RL.val (v := .slice A22 (cut20).length c23) (by rw [eA25, ec26]; exact O.cutT sl22 (hM.inp hr4 Off.nil) hy21 rfl rfl rfl) rfl ?_
          refine obindE hF fun y27 hx28 hF => ?_
          refine RL.call Try.func63 bd63 rfl rfl (c_bits_value _ _ _ cut20 (hM.inp hr24 Off.nil) _ hx28) fun v w29 hv => ?_
          obtain ⟨rfl, hN30⟩ := hv
          replace hM := hM.call0 hN30
          refine RL.val (O.assign rfl) rfl ?_
          refine RL.val (O.assign rfl) rfl ?_
          refine RL.nil ?_
          refine KQ.thn hQ19 ?_
          clear hQ19 Q19
          refine KC.ret ?_
          have hE := Option.some.inj hF
          clear hF
          subst hE
          refine KQ.rets Try.results57 (RVs.cons (RV.tm rfl) (RVs.cons (RV.tm rfl) RVs.nil)) ?_
          exact ⟨_, rfl, rfl, hM⟩
set_option maxRecDepth 100000 in
set_option maxHeartbeats 40000000 in
theorem c_ip_word (w : World) (A2 : Option Addr) (c3 : Nat) (b1 : List Int) (hr4 : Rd w A2 c3 1 b1.length (b1.flatMap (eI .u8))) (atv5 : Int) (r : Int) (hF : F_ip_word b1 atv5 = some r) :
    CallsR Try.prog 39 [.slice A2 (b1).length c3, .int .i64 atv5] w (fun v w' => v = .int .u16 r ∧ Mem w [] w' []) := by
  refine calls_KC Try.func39 rfl Try.ntmps39 rfl ?_
  have hM := Mem.init w
  unfold F_ip_word at hF
  refine KC.seqH fun Q6 hQ6 => ?_
  refine KC.region ?_
  refine RL.val (O.assign rfl) rfl ?_
  refine RL.nil ?_
  refine KQ.thn hQ6 ?_
  clear hQ6 Q6
  refine KC.seqH fun Q7 hQ7 => ?_
  refine KC.region ?_
  refine RL.val (O.move rfl) rfl ?_
  refine RL.val (O.move rfl) rfl ?_
  refine obindE hF fun y8 hx9 hF => ?_
  refine RL.call Try.func57 bd57 rfl rfl (c_bits_Get _ _ _ b1 (hM.inp hr4 Off.nil) atv5 2 _ hx9) fun v w10 hv => ?_
  obtain ⟨rfl, hN11⟩ := hv
  replace hM := hM.call0 hN11
  refine RL.val (O.move rfl) rfl ?_
  refine RL.val (O.ext rfl rfl) rfl ?_
  refine RL.val (O.ext rfl rfl) rfl ?_
  refine RL.val (O.assign rfl) rfl ?_
  refine RL.val (O.assign rfl) rfl ?_
  refine RL.nil ?_
  refine KQ.thn hQ7 ?_
  clear hQ7 Q7
  refine KC.seqH fun Q12 hQ12 => ?_
  refine KC.region ?_
  refine RL.val (O.move rfl) rfl ?_
  refine RL.val (O.conv un70 Try.underlying36 rfl) rfl ?_
  refine RL.val (O.assign rfl) rfl ?_
  refine RL.nil ?_
  refine KQ.thn hQ12 ?_
  clear hQ12 Q12
  refine KC.ret ?_
  have hE := Option.some.inj hF
  clear hF
  subst hE
  refine KQ.rets Try.results39 (RVs.cons (RV.tm rfl) RVs.nil) ?_
  exact ⟨_, rfl, rfl, hM⟩
set_option maxRecDepth 100000 in
set_option maxHeartbeats 40000000 in
theorem c_sum_Whole (w : World) (A2 : Option Addr) (c3 : Nat) (lv1 : List (List Int)) (hr4 : Rds [] w A2 c3 (eI .u8) 1 lv1) (r : Bool) (hF : F_sum_Whole lv1 = some r) :
    CallsR Try.prog 41 [.slice A2 (lv1).length c3] w (fun v w' => v = .bool r ∧ Mem w [] w' []) := by
  refine calls_KC Try.func41 rfl Try.ntmps41 rfl ?_
  have hM := Mem.init w
  unfold F_sum_Whole at hF
  refine KC.seqH fun Q5 hQ5 => ?_
  refine KC.region ?_
  refine RL.val (O.assign rfl) rfl ?_
  refine RL.nil ?_
  refine KQ.thn hQ5 ?_
  clear hQ5 Q5
  refine KC.seqH fun Q6 hQ6 => ?_
  refine KC.region ?_
  refine RL.val (O.move rfl) rfl ?_
  refine obindE hF fun y7 hx8 hF => ?_
  refine RL.call Try.func36 bd36 rfl rfl (c_sum_Of _ _ _ lv1 (hr4.chg hM.chg) _ hx8) fun v w9 hv => ?_
  obtain ⟨rfl, hN10⟩ := hv
  replace hM := hM.call0 hN10
  refine RL.val (O.assign rfl) rfl ?_
  refine RL.nil ?_
  refine KQ.thn hQ6 ?_
  clear hQ6 Q6
  refine KC.cut (fun a w12 => ∃ (t11 : Bool), Kn 12 [(2, .bool t11)] a ∧ Mem w [] w12 [] ∧ F_sum_Whole_j1 t11 = some r) ?_ ?_
  · refine KC.region ?_
    refine RL.val (O.move rfl) rfl ?_
    refine RL.val (O.eql rfl rfl) rfl ?_
    refine RL.val (O.move rfl) rfl ?_
    refine RL.bcase (t := 8) rfl (fun hc => ?_) (fun hc => ?_)
    · rw [if_pos hc] at hF
      refine RL.gskip rfl rfl rfl rfl ?_
      refine RL.gskip rfl rfl rfl rfl ?_
      refine RL.val (O.pickt rfl rfl) rfl ?_
      refine RL.val (O.assign rfl) rfl ?_
      refine RL.nil ?_
      refine KQ.then_k ?_
      exact fun a ha => ⟨true, ha.less (less_cons rfl less_nil), hM, hF⟩
    · rw [if_neg (ne_true hc)] at hF
      refine RL.gval rfl rfl (O.move rfl) rfl ?_
      refine RL.gval rfl rfl (O.eql rfl rfl) rfl ?_
      refine RL.val (O.pickf rfl rfl) rfl ?_
      refine RL.val (O.assign rfl) rfl ?_
      refine RL.nil ?_
      refine KQ.then_k ?_
      exact fun a ha => ⟨(y7 == 65535), ha.less (less_cons rfl less_nil), hM, hF⟩
  · rintro a w12 ⟨t11, ha, hM, hF⟩
    refine KC.app ha ?_
    clear ha
    unfold F_sum_Whole_j1 at hF
    refine KC.ret ?_
    have hE := Option.some.inj hF
    clear hF
    subst hE
    refine KQ.rets Try.results41 (RVs.cons (RV.tm rfl) RVs.nil) ?_
    exact ⟨_, rfl, rfl, hM⟩
end Go.Proofs.Ytjfdfjmnajjjaaa
