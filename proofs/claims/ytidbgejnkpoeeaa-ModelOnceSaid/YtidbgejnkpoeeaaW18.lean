/- Printed by a program of this claim: each call returns what the plain function of its name gives. -/
import Derived.Test.YtidbgejnkpoeeaaW1
import Derived.Test.YtidbgejnkpoeeaaW2
set_option linter.unusedVariables false
namespace Go.Proofs.Ytidbgejnkpoeeaa
open Go Go.Ox Go.RowKit
set_option maxRecDepth 100000 in
set_option maxHeartbeats 40000000 in
theorem c_slices_AppendSeq_packet_Key_packet_Key_Zfmaps_Keys_model_totals_packet_Key_flow_Total_1_K (w : World) (seq4 : FM62) (g5 : Nat) (hm6 : MR62 g5 seq4 w) (g1 : Nat) (hC2 : Cs w ⟨g1, 0, none⟩ [.map (some g5)]) (kf : ((List T_packet_Key)) → Option Bool) (r : Bool) (hF : F_slices_AppendSeq_packet_Key_packet_Key_Zfmaps_Keys_model_totals_packet_Key_flow_Total_1_K seq4 kf = some r) :
  CallsR Try.prog 62 [.slice none 0 0, .func (.func 49) #[] #[.pointer (some ⟨g1, 0, none⟩)]] w (fun v w' => ∃ (y : (List T_packet_Key)) (Ar0 : Option Addr) (cr0 : Nat), kf y = some r ∧ v = .slice Ar0 (y).length cr0 ∧ Mem w [] w' [.row Ar0 cr0 34 37 y.length (y.flatMap e_packet_Key)]) := by
 refine calls_KCM Try.func62 rfl Try.ntmps62 rfl ?_
 have hM := Mem.init w
 unfold F_slices_AppendSeq_packet_Key_packet_Key_Zfmaps_Keys_model_totals_packet_Key_flow_Total_1_K at hF
 refine sr fun Q7 hQ7 => ?_
 refine RL.eff (E.box (vs := [.slice none 0 0]) hM rfl rfl) rfl fun v w9 hv => ?_
 clear hM
 obtain ⟨g8, rfl, hM, hf⟩ := hv
 refine va rfl rfl ?_
 refine nt hQ7 ?_
 clear hQ7 Q7
 refine KC.seqH fun Q11 hQ11 => ?_
 refine sr fun Q12 hQ12 => ?_
 refine vm rfl rfl ?_
 refine nt hQ12 ?_
 clear hQ12 Q12
 refine KC.block ?_
 refine KC.range (lb := [.pointer (some ⟨g1, 0, none⟩)]) hM rfl Try.func49 bd49 rfl Try.ntmps49 rfl fun a13 rc15 l17 D18 w19 ha14 hrc16 hM1 hf20 => ?_
 clear hM
 have hM := hM1
 clear hM1
 refine sr fun Q23 hQ23 => ?_
 refine RL.val (O.load sc62 rfl (Cs.adds [] ((hC2.fut hM.chg)) rfl)) rfl ?_
 obtain ⟨E24, ck25, hE26⟩ := hm6.toE
 have hfit30 := hE26.2
 refine RL.eff (E.rangeR hM (hE26.fut hM.chg) Try.underlying62 rfl) rfl fun v w28 hv => ?_
 clear hM
 obtain ⟨g27, rfl, hM, hf⟩ := hv
 refine nt hQ23 ?_
 clear hQ23 Q23
 refine KC.block ?_
 obtain ⟨hsm115, hF⟩ := guardP_some hF
 have hD111 := demon_some hF
 refine KC.loop (fun k110 a w109 => ∃ (s103 : List Nat) (A106 : Option Addr) (c107 : Nat) (v108 : List T_packet_Key), Kn 14 [(0, .func (.yield l17) #[] #[]), (5, .pointer (some ⟨g27, 0, none⟩))] a ∧ Mem w [] w109 [.res [D18] (DefAt D18), .res [l17] (LoopAt l17 rc15 .ready none), .res [g27] (IterAt g27 g5 ck25 s103), .row A106 c107 34 37 (v108).length ((v108).flatMap e_packet_Key), .box g8 44 [.slice A106 (v108).length c107]] ∧ leftN E24 s103 ≤ k110 ∧ leftN E24 s103 + s103.length = E24.length ∧ (True ∧ (v108).length ≤ s103.length)) ?_ ?_
 ·replace hM := hM.nilrow 34 37
  replace hM := hM.pick [1, 2, 3, 4, 0] rfl (by decide)
  exact fun a ha => ⟨leftN E24 [], [], none, 0, ([]), ha.less (less_cons rfl (less_cons rfl less_nil)), hM, Nat.le_refl _, leftN_nil, ⟨trivial, by simp⟩⟩
 rintro k110 a w109 ⟨s103, A106, c107, v108, ha, hM, hms112, hsl113, hinv114⟩
 refine KC.app ha ?_
 clear ha
 refine sr fun Q117 hQ117 => ?_
 refine RL.nextR hM (hE26.fut hM.chg) (j := 2) rfl rfl rfl (fun w121 hall hM1 => ?_) (fun w121 ev118 he119 hn120 hM1 => ?_)
 ·clear hM
  have hM := hM1
  clear hM1
  have hF := hD111 v108 (by have := hinv114.2; have := hsm115.len mt62 hfit30; omega)
  refine RL.val (O.ext rfl rfl) rfl ?_
  refine nt hQ117 ?_
  clear hQ117 Q117
  refine KC.seqH fun Q146 hQ146 => ?_
  refine KC.condF rfl ?_
  refine KC.exit ?_
  refine KQ.thx hQ146 ?_
  clear hQ146 Q146
  refine KQ.then_x ?_
  refine KQ.blk_x ?_
  refine KQ.rendN Try.results49 hM (i := 1) rfl (fun h => by cases h) ha14 fun w147 hM1 hf148 => ?_
  clear hM
  have hM := hM1
  clear hM1
  replace hM := hM.pick [0, 2, 3, 4] rfl (by decide)
  refine KQ.blk_n ?_
  refine KQ.thn hQ11 ?_
  clear hQ11 Q11
  replace hM := hM.pick [0, 2, 3] rfl (by decide)
  refine sr fun Q149 hQ149 => ?_
  refine RL.val (O.load sc44 rfl (Cs.adds [] ((hM.bx (i := 2) rfl)) rfl)) rfl ?_
  refine va rfl rfl ?_
  refine nt hQ149 ?_
  clear hQ149 Q149
  refine KC.ret ?_
  refine KQ.unmark hM (i := 0) rfl fun w150 hM1 => ?_
  clear hM
  have hM := hM1
  clear hM1
  replace hM := hM.pick [1, 2] rfl (by decide)
  replace hM := hM.pick [0] rfl (by decide)
  refine KQ.retsM Try.results62 (RVs.cons (RV.tm rfl) RVs.nil) ?_
  exact ⟨_, rfl, v108, A106, c107, hF, rfl, hM⟩
 clear hM
 have hM := hM1
 clear hM1
 have hF : (if (decide (v108.length + ([ev118.1] : List T_packet_Key).length ≤ lim)) = true then some () else none) = some () := if_pos (decide_eq_true (by have := hinv114.2; have := hsm115.len mt62 hfit30; have := leftN_more (hfit30).nd he119 hn120; simp only [lim, List.length_cons, List.length_nil]; omega))
 refine RL.val (O.ext rfl rfl) rfl ?_
 refine nt hQ117 ?_
 clear hQ117 Q117
 refine KC.seqH fun Q122 hQ122 => ?_
 refine KC.condT rfl ?_
 refine KC.skip ?_
 refine KQ.thn hQ122 ?_
 clear hQ122 Q122
 refine KC.block ?_
 refine sr fun Q123 hQ123 => ?_
 refine RL.val (O.entryR (ks := [vB ev118.1.f_Src.f_Six, o8 ev118.1.f_Src.f_B 0, o8 ev118.1.f_Src.f_B 1, o8 ev118.1.f_Src.f_B 2, o8 ev118.1.f_Src.f_B 3, o8 ev118.1.f_Src.f_B 4, o8 ev118.1.f_Src.f_B 5, o8 ev118.1.f_Src.f_B 6, o8 ev118.1.f_Src.f_B 7, o8 ev118.1.f_Src.f_B 8, o8 ev118.1.f_Src.f_B 9, o8 ev118.1.f_Src.f_B 10, o8 ev118.1.f_Src.f_B 11, o8 ev118.1.f_Src.f_B 12, o8 ev118.1.f_Src.f_B 13, o8 ev118.1.f_Src.f_B 14, o8 ev118.1.f_Src.f_B 15, vB ev118.1.f_Dst.f_Six, o8 ev118.1.f_Dst.f_B 0, o8 ev118.1.f_Dst.f_B 1, o8 ev118.1.f_Dst.f_B 2, o8 ev118.1.f_Dst.f_B 3, o8 ev118.1.f_Dst.f_B 4, o8 ev118.1.f_Dst.f_B 5, o8 ev118.1.f_Dst.f_B 6, o8 ev118.1.f_Dst.f_B 7, o8 ev118.1.f_Dst.f_B 8, o8 ev118.1.f_Dst.f_B 9, o8 ev118.1.f_Dst.f_B 10, o8 ev118.1.f_Dst.f_B 11, o8 ev118.1.f_Dst.f_B 12, o8 ev118.1.f_Dst.f_B 13, o8 ev118.1.f_Dst.f_B 14, o8 ev118.1.f_Dst.f_B 15, v8 ev118.1.f_Proto, v16 ev118.1.f_SrcPort, v16 ev118.1.f_DstPort]) (vs := [v64 ev118.2.1.f_Packets, v64 ev118.2.1.f_Bytes]) (hE26.fut hM.chg) (hM.iterAt (i := 2) rfl) he119 rfl rfl rfl) rfl ?_
 refine RL.val (O.ext rfl rfl) rfl ?_
 refine RL.eff (E.alloc hM ze34) rfl fun v w125 hv => ?_
 clear hM
 obtain ⟨g124, rfl, hM, hf⟩ := hv
 refine RL.effs (E.stB (j := 5) (off := 0) (vs := [vB ev118.1.f_Src.f_Six, o8 ev118.1.f_Src.f_B 0, o8 ev118.1.f_Src.f_B 1, o8 ev118.1.f_Src.f_B 2, o8 ev118.1.f_Src.f_B 3, o8 ev118.1.f_Src.f_B 4, o8 ev118.1.f_Src.f_B 5, o8 ev118.1.f_Src.f_B 6, o8 ev118.1.f_Src.f_B 7, o8 ev118.1.f_Src.f_B 8, o8 ev118.1.f_Src.f_B 9, o8 ev118.1.f_Src.f_B 10, o8 ev118.1.f_Src.f_B 11, o8 ev118.1.f_Src.f_B 12, o8 ev118.1.f_Src.f_B 13, o8 ev118.1.f_Src.f_B 14, o8 ev118.1.f_Src.f_B 15, vB ev118.1.f_Dst.f_Six, o8 ev118.1.f_Dst.f_B 0, o8 ev118.1.f_Dst.f_B 1, o8 ev118.1.f_Dst.f_B 2, o8 ev118.1.f_Dst.f_B 3, o8 ev118.1.f_Dst.f_B 4, o8 ev118.1.f_Dst.f_B 5, o8 ev118.1.f_Dst.f_B 6, o8 ev118.1.f_Dst.f_B 7, o8 ev118.1.f_Dst.f_B 8, o8 ev118.1.f_Dst.f_B 9, o8 ev118.1.f_Dst.f_B 10, o8 ev118.1.f_Dst.f_B 11, o8 ev118.1.f_Dst.f_B 12, o8 ev118.1.f_Dst.f_B 13, o8 ev118.1.f_Dst.f_B 14, o8 ev118.1.f_Dst.f_B 15, v8 ev118.1.f_Proto, v16 ev118.1.f_SrcPort, v16 ev118.1.f_DstPort]) (cs' := [vB ev118.1.f_Src.f_Six, o8 ev118.1.f_Src.f_B 0, o8 ev118.1.f_Src.f_B 1, o8 ev118.1.f_Src.f_B 2, o8 ev118.1.f_Src.f_B 3, o8 ev118.1.f_Src.f_B 4, o8 ev118.1.f_Src.f_B 5, o8 ev118.1.f_Src.f_B 6, o8 ev118.1.f_Src.f_B 7, o8 ev118.1.f_Src.f_B 8, o8 ev118.1.f_Src.f_B 9, o8 ev118.1.f_Src.f_B 10, o8 ev118.1.f_Src.f_B 11, o8 ev118.1.f_Src.f_B 12, o8 ev118.1.f_Src.f_B 13, o8 ev118.1.f_Src.f_B 14, o8 ev118.1.f_Src.f_B 15, vB ev118.1.f_Dst.f_Six, o8 ev118.1.f_Dst.f_B 0, o8 ev118.1.f_Dst.f_B 1, o8 ev118.1.f_Dst.f_B 2, o8 ev118.1.f_Dst.f_B 3, o8 ev118.1.f_Dst.f_B 4, o8 ev118.1.f_Dst.f_B 5, o8 ev118.1.f_Dst.f_B 6, o8 ev118.1.f_Dst.f_B 7, o8 ev118.1.f_Dst.f_B 8, o8 ev118.1.f_Dst.f_B 9, o8 ev118.1.f_Dst.f_B 10, o8 ev118.1.f_Dst.f_B 11, o8 ev118.1.f_Dst.f_B 12, o8 ev118.1.f_Dst.f_B 13, o8 ev118.1.f_Dst.f_B 14, o8 ev118.1.f_Dst.f_B 15, v8 ev118.1.f_Proto, v16 ev118.1.f_SrcPort, v16 ev118.1.f_DstPort]) hM rfl sz34 rfl (adds_eq [] rfl) rfl rfl (One.all rfl) rfl rfl) fun w127 hM1 => ?_
 clear hM
 have hM := hM1
 clear hM1
 refine nt hQ123 ?_
 clear hQ123 Q123
 refine sr fun Q128 hQ128 => ?_
 refine vm rfl rfl ?_
 refine RL.val (O.loadN (cs := [vB ev118.1.f_Src.f_Six, o8 ev118.1.f_Src.f_B 0, o8 ev118.1.f_Src.f_B 1, o8 ev118.1.f_Src.f_B 2, o8 ev118.1.f_Src.f_B 3, o8 ev118.1.f_Src.f_B 4, o8 ev118.1.f_Src.f_B 5, o8 ev118.1.f_Src.f_B 6, o8 ev118.1.f_Src.f_B 7, o8 ev118.1.f_Src.f_B 8, o8 ev118.1.f_Src.f_B 9, o8 ev118.1.f_Src.f_B 10, o8 ev118.1.f_Src.f_B 11, o8 ev118.1.f_Src.f_B 12, o8 ev118.1.f_Src.f_B 13, o8 ev118.1.f_Src.f_B 14, o8 ev118.1.f_Src.f_B 15, vB ev118.1.f_Dst.f_Six, o8 ev118.1.f_Dst.f_B 0, o8 ev118.1.f_Dst.f_B 1, o8 ev118.1.f_Dst.f_B 2, o8 ev118.1.f_Dst.f_B 3, o8 ev118.1.f_Dst.f_B 4, o8 ev118.1.f_Dst.f_B 5, o8 ev118.1.f_Dst.f_B 6, o8 ev118.1.f_Dst.f_B 7, o8 ev118.1.f_Dst.f_B 8, o8 ev118.1.f_Dst.f_B 9, o8 ev118.1.f_Dst.f_B 10, o8 ev118.1.f_Dst.f_B 11, o8 ev118.1.f_Dst.f_B 12, o8 ev118.1.f_Dst.f_B 13, o8 ev118.1.f_Dst.f_B 14, o8 ev118.1.f_Dst.f_B 15, v8 ev118.1.f_Proto, v16 ev118.1.f_SrcPort, v16 ev118.1.f_DstPort]) ag34 rfl (Cs.addsN [] ((hM.bx (i := 5) rfl)) rfl)) rfl ?_
 refine RL.yield hM (i := 1) rfl ha14 hrc16 rfl rfl rfl rfl rfl ?_
 refine KC.region ?_
 refine RL.eff (E.alloc hM ze34) rfl fun v w130 hv => ?_
 clear hM
 obtain ⟨g129, rfl, hM, hf⟩ := hv
 refine RL.effs (E.stB (j := 6) (off := 0) (vs := [vB ev118.1.f_Src.f_Six, o8 ev118.1.f_Src.f_B 0, o8 ev118.1.f_Src.f_B 1, o8 ev118.1.f_Src.f_B 2, o8 ev118.1.f_Src.f_B 3, o8 ev118.1.f_Src.f_B 4, o8 ev118.1.f_Src.f_B 5, o8 ev118.1.f_Src.f_B 6, o8 ev118.1.f_Src.f_B 7, o8 ev118.1.f_Src.f_B 8, o8 ev118.1.f_Src.f_B 9, o8 ev118.1.f_Src.f_B 10, o8 ev118.1.f_Src.f_B 11, o8 ev118.1.f_Src.f_B 12, o8 ev118.1.f_Src.f_B 13, o8 ev118.1.f_Src.f_B 14, o8 ev118.1.f_Src.f_B 15, vB ev118.1.f_Dst.f_Six, o8 ev118.1.f_Dst.f_B 0, o8 ev118.1.f_Dst.f_B 1, o8 ev118.1.f_Dst.f_B 2, o8 ev118.1.f_Dst.f_B 3, o8 ev118.1.f_Dst.f_B 4, o8 ev118.1.f_Dst.f_B 5, o8 ev118.1.f_Dst.f_B 6, o8 ev118.1.f_Dst.f_B 7, o8 ev118.1.f_Dst.f_B 8, o8 ev118.1.f_Dst.f_B 9, o8 ev118.1.f_Dst.f_B 10, o8 ev118.1.f_Dst.f_B 11, o8 ev118.1.f_Dst.f_B 12, o8 ev118.1.f_Dst.f_B 13, o8 ev118.1.f_Dst.f_B 14, o8 ev118.1.f_Dst.f_B 15, v8 ev118.1.f_Proto, v16 ev118.1.f_SrcPort, v16 ev118.1.f_DstPort]) (cs' := [vB ev118.1.f_Src.f_Six, o8 ev118.1.f_Src.f_B 0, o8 ev118.1.f_Src.f_B 1, o8 ev118.1.f_Src.f_B 2, o8 ev118.1.f_Src.f_B 3, o8 ev118.1.f_Src.f_B 4, o8 ev118.1.f_Src.f_B 5, o8 ev118.1.f_Src.f_B 6, o8 ev118.1.f_Src.f_B 7, o8 ev118.1.f_Src.f_B 8, o8 ev118.1.f_Src.f_B 9, o8 ev118.1.f_Src.f_B 10, o8 ev118.1.f_Src.f_B 11, o8 ev118.1.f_Src.f_B 12, o8 ev118.1.f_Src.f_B 13, o8 ev118.1.f_Src.f_B 14, o8 ev118.1.f_Src.f_B 15, vB ev118.1.f_Dst.f_Six, o8 ev118.1.f_Dst.f_B 0, o8 ev118.1.f_Dst.f_B 1, o8 ev118.1.f_Dst.f_B 2, o8 ev118.1.f_Dst.f_B 3, o8 ev118.1.f_Dst.f_B 4, o8 ev118.1.f_Dst.f_B 5, o8 ev118.1.f_Dst.f_B 6, o8 ev118.1.f_Dst.f_B 7, o8 ev118.1.f_Dst.f_B 8, o8 ev118.1.f_Dst.f_B 9, o8 ev118.1.f_Dst.f_B 10, o8 ev118.1.f_Dst.f_B 11, o8 ev118.1.f_Dst.f_B 12, o8 ev118.1.f_Dst.f_B 13, o8 ev118.1.f_Dst.f_B 14, o8 ev118.1.f_Dst.f_B 15, v8 ev118.1.f_Proto, v16 ev118.1.f_SrcPort, v16 ev118.1.f_DstPort]) hM rfl sz34 rfl (adds_eq [] rfl) rfl rfl (One.all rfl) rfl rfl) fun w132 hM1 => ?_
 clear hM
 have hM := hM1
 clear hM1
 refine RL.nil ?_
 refine KQ.begin hM (i := 1) rfl fun w133 hM1 hf134 => ?_
 clear hM
 have hM := hM1
 clear hM1
 refine KC.block ?_
 refine KC.region ?_
 refine RL.val (O.load sc44 rfl (Cs.adds [] ((hM.bx (i := 4) rfl)) rfl)) rfl ?_
 refine RL.val (O.loadN (cs := [vB ev118.1.f_Src.f_Six, o8 ev118.1.f_Src.f_B 0, o8 ev118.1.f_Src.f_B 1, o8 ev118.1.f_Src.f_B 2, o8 ev118.1.f_Src.f_B 3, o8 ev118.1.f_Src.f_B 4, o8 ev118.1.f_Src.f_B 5, o8 ev118.1.f_Src.f_B 6, o8 ev118.1.f_Src.f_B 7, o8 ev118.1.f_Src.f_B 8, o8 ev118.1.f_Src.f_B 9, o8 ev118.1.f_Src.f_B 10, o8 ev118.1.f_Src.f_B 11, o8 ev118.1.f_Src.f_B 12, o8 ev118.1.f_Src.f_B 13, o8 ev118.1.f_Src.f_B 14, o8 ev118.1.f_Src.f_B 15, vB ev118.1.f_Dst.f_Six, o8 ev118.1.f_Dst.f_B 0, o8 ev118.1.f_Dst.f_B 1, o8 ev118.1.f_Dst.f_B 2, o8 ev118.1.f_Dst.f_B 3, o8 ev118.1.f_Dst.f_B 4, o8 ev118.1.f_Dst.f_B 5, o8 ev118.1.f_Dst.f_B 6, o8 ev118.1.f_Dst.f_B 7, o8 ev118.1.f_Dst.f_B 8, o8 ev118.1.f_Dst.f_B 9, o8 ev118.1.f_Dst.f_B 10, o8 ev118.1.f_Dst.f_B 11, o8 ev118.1.f_Dst.f_B 12, o8 ev118.1.f_Dst.f_B 13, o8 ev118.1.f_Dst.f_B 14, o8 ev118.1.f_Dst.f_B 15, v8 ev118.1.f_Proto, v16 ev118.1.f_SrcPort, v16 ev118.1.f_DstPort]) ag34 rfl (Cs.addsN [] ((hM.bx (i := 6) rfl)) rfl)) rfl ?_
 refine RL.eff (E.bsl (enc := e_packet_Key) (xs := ([ev118.1] : List T_packet_Key)) hM sl44 ze34 rfl rfl rfl (fun _ => rfl) rfl (by kernel_rfl) rfl) rfl fun v w135 hv => ?_
 clear hM
 obtain ⟨A136, rfl, hM, hf⟩ := hv
 refine cut_someE hF fun hq141 hF => ?_
 refine RL.eff (E.app (enc := e_packet_Key) (xs := v108) (ys := ([ev118.1] : List T_packet_Key)) (j := 3) hM rfl sl44 ze34 rfl rfl rfl rfl rfl (hM.rd (i := 7) rfl) (fun _ => One.all rfl) (of_decide_eq_true hq141)) rfl fun v w140 hv => ?_
 clear hM
 obtain ⟨A138, c139, rfl, hM, hf⟩ := hv
 refine RL.effs (E.stB (j := 4) (off := 0) (vs := [.slice A138 ((v108 ++ ([ev118.1] : List T_packet_Key))).length c139]) (cs' := [.slice A138 ((v108 ++ ([ev118.1] : List T_packet_Key))).length c139]) hM rfl sz44 rfl (adds_eq [] rfl) rfl rfl (One.all rfl) rfl rfl) fun w143 hM1 => ?_
 clear hM
 have hM := hM1
 clear hM1
 refine RL.nil ?_
 refine KQ.blk_n ?_
 refine KQ.rnorm hM (i := 1) rfl fun w144 hM1 hf145 => ?_
 clear hM
 have hM := hM1
 clear hM1
 refine RL.val (O.not rfl) rfl ?_
 refine nt hQ128 ?_
 clear hQ128 Q128
 replace hM := hM.pick [0, 1, 2, 3, 4] rfl (by decide)
 refine KC.condF rfl ?_
 refine KC.skip ?_
 refine KQ.blk_n ?_
 refine KQ.then_k ?_
 exact fun a ha => ⟨_, leftN_lt (hfit30).nd he119 hn120 hms112, (s103 ++ [ev118.2.2]), A138, c139, (v108 ++ ([ev118.1] : List T_packet_Key)), ha.less (less_cons rfl (less_cons rfl less_nil)), hM, Nat.le_refl _, leftN_sum (hfit30).nd he119 hn120 hsl113, ⟨trivial, (by have := hinv114.2; simp only [List.length_append, List.length_cons, List.length_nil]; omega)⟩⟩
set_option maxRecDepth 100000 in
set_option maxHeartbeats 40000000 in
theorem c_slices_Collect_packet_Key_fmaps_Keys_model_totals_packet_Key_flow_Total_1_K (w : World) (seq4 : FM62) (g5 : Nat) (hm6 : MR62 g5 seq4 w) (g1 : Nat) (hC2 : Cs w ⟨g1, 0, none⟩ [.map (some g5)]) (kf : ((List T_packet_Key)) → Option Bool) (r : Bool) (hF : F_slices_Collect_packet_Key_fmaps_Keys_model_totals_packet_Key_flow_Total_1_K seq4 kf = some r) :
  CallsR Try.prog 47 [.func (.func 49) #[] #[.pointer (some ⟨g1, 0, none⟩)]] w (fun v w' => ∃ (y : (List T_packet_Key)) (Ar0 : Option Addr) (cr0 : Nat), kf y = some r ∧ v = .slice Ar0 (y).length cr0 ∧ Mem w [] w' [.row Ar0 cr0 34 37 y.length (y.flatMap e_packet_Key)]) := by
 refine calls_KC Try.func47 rfl Try.ntmps47 rfl ?_
 have hM := Mem.init w
 unfold F_slices_Collect_packet_Key_fmaps_Keys_model_totals_packet_Key_flow_Total_1_K at hF
 refine sr fun Q7 hQ7 => ?_
 refine va rfl rfl ?_
 refine nt hQ7 ?_
 clear hQ7 Q7
 refine sr fun Q8 hQ8 => ?_
 refine vm rfl rfl ?_
 refine RL.call Try.func62 bd62 rfl rfl (c_slices_AppendSeq_packet_Key_packet_Key_Zfmaps_Keys_model_totals_packet_Key_flow_Total_1_K _ seq4 _ (hm6.fut hM.chg) _ (hC2.fut hM.chg) _ _ hF) fun v w11 hv => ?_
 clear hF
 obtain ⟨y9, A13, c14, hF, rfl, hN12⟩ := hv
 try dsimp only at hF
 replace hM := hM.call hN12
 refine va rfl rfl ?_
 refine nt hQ8 ?_
 clear hQ8 Q8
 refine KC.ret ?_
 refine KQ.rets Try.results47 (RVs.cons (RV.tm rfl) RVs.nil) ?_
 exact ⟨_, rfl, y9, A13, c14, hF, rfl, hM⟩
set_option maxRecDepth 100000 in
set_option maxHeartbeats 40000000 in
theorem c_bits_Writer_Raw (w : World) (g2 : Nat) (tg7 : TypeId) (wv1 : T_bits_Writer) (A4 : Option Addr) (c5 : Nat) (hL13 : Lent w [.box g2 tg7 [.slice A4 (wv1.f_b).length c5], .row A4 c5 5 1 (wv1.f_b).length ((wv1.f_b).flatMap (eI .u8))]) (A9 : Option Addr) (c10 : Nat) (b8 : List Int) (hr11 : Rd w A9 c10 1 b8.length (b8.flatMap (eI .u8))) (ho12 : Off [some g2, rblk A4 c5] b8.length A9) (r : Int × T_bits_Writer) (hF : F_bits_Writer_Raw wv1 b8 = some r) :
  CallsR Try.prog 66 [.pointer (some ⟨g2, 0, none⟩), .slice A9 (b8).length c10] w (fun v w' => ∃ (Ar0 : Option Addr) (cr0 : Nat), v = vI r.1 ∧ Mem w [some g2, rblk A4 c5] w' [.box g2 tg7 [.slice Ar0 (r.2.f_b).length cr0], .row Ar0 cr0 5 1 r.2.f_b.length (r.2.f_b.flatMap (eI .u8))]) := by
 refine calls_KC Try.func66 rfl Try.ntmps66 rfl ?_
 have hM : Mem w [some g2, rblk A4 c5] w [.box g2 tg7 [.slice A4 (wv1.f_b).length c5], .row A4 c5 5 1 (wv1.f_b).length ((wv1.f_b).flatMap (eI .u8))] := Mem.lendN hL13
 unfold F_bits_Writer_Raw at hF
 refine sr fun Q14 hQ14 => ?_
 refine va rfl rfl ?_
 refine nt hQ14 ?_
 clear hQ14 Q14
 refine KC.seqH fun Q15 hQ15 => ?_
 refine sr fun Q16 hQ16 => ?_
 refine vm rfl rfl ?_
 refine RL.val (O.peqn Try.underlying123 rfl rfl) rfl ?_
 refine nt hQ16 ?_
 clear hQ16 Q16
 refine KC.condF rfl ?_
 refine KC.skip ?_
 refine KQ.thn hQ15 ?_
 clear hQ15 Q15
 refine sr fun Q17 hQ17 => ?_
 refine vm rfl rfl ?_
 refine vm rfl rfl ?_
 refine RL.val (O.nilp rfl) rfl ?_
 refine RL.val (O.fldA fl108_0 (by decide) rfl) rfl ?_
 refine RL.val (O.load sc94 rfl (Cs.adds [0] ((hM.bx (i := 0) rfl)) rfl)) rfl ?_
 refine vm rfl rfl ?_
 refine cut_someE hF fun hq21 hF => ?_
 refine RL.eff (E.app (enc := (eI .u8)) (xs := wv1.f_b) (ys := b8) (j := 1) hM rfl sl94 ze5 rfl rfl rfl rfl rfl (hM.inp hr11 ho12) (fun _ => One.all rfl) (of_decide_eq_true hq21)) rfl fun v w20 hv => ?_
 clear hM
 obtain ⟨A18, c19, rfl, hM, hf⟩ := hv
 refine RL.val (O.nilp rfl) rfl ?_
 refine RL.val (O.fldA fl108_0 (by decide) rfl) rfl ?_
 refine RL.effs (E.stB (j := 0) (off := 0) (vs := [.slice A18 ((wv1.f_b ++ b8)).length c19]) (cs' := [.slice A18 ((wv1.f_b ++ b8)).length c19]) hM rfl sz94 rfl (adds_eq [0] rfl) rfl rfl (One.all rfl) rfl rfl) fun w23 hM1 => ?_
 clear hM
 have hM := hM1
 clear hM1
 refine nt hQ17 ?_
 clear hQ17 Q17
 refine sr fun Q24 hQ24 => ?_
 refine va rfl rfl ?_
 refine nt hQ24 ?_
 clear hQ24 Q24
 refine KC.ret ?_
 have hE := Option.some.inj hF
 clear hF
 subst hE
 refine KQ.rets Try.results66 (RVs.cons (RV.tm rfl) RVs.nil) ?_
 exact ⟨_, rfl, A18, c19, rfl, hM⟩
set_option maxRecDepth 100000 in
set_option maxHeartbeats 40000000 in
theorem c_bytes_Clone (w : World) (A2 : Option Addr) (c3 : Nat) (b1 : List Int) (hr4 : Rd w A2 c3 1 b1.length (b1.flatMap (eI .u8))) (r : (List Int)) (hF : F_bytes_Clone b1 = some r) :
  CallsR Try.prog 82 [.slice A2 (b1).length c3] w (fun v w' => ∃ (Ar0 : Option Addr) (cr0 : Nat), v = .slice Ar0 (r).length cr0 ∧ Mem w [] w' [.row Ar0 cr0 5 1 r.length (r.flatMap (eI .u8))]) := by
 refine calls_KC Try.func82 rfl Try.ntmps82 rfl ?_
 have hM := Mem.init w
 unfold F_bytes_Clone at hF
 refine sr fun Q5 hQ5 => ?_
 refine va rfl rfl ?_
 refine nt hQ5 ?_
 clear hQ5 Q5
 refine KC.seqH fun Q6 hQ6 => ?_
 refine sr fun Q7 hQ7 => ?_
 refine vm rfl rfl ?_
 refine RL.val (O.sleqn sl94 rfl rfl) rfl ?_
 refine nt hQ7 ?_
 clear hQ7 Q7
 refine KC.cond rfl (fun hc => ?_) (fun hc => ?_)
 ·have hz8 := Rd.none_nil (hM.inp hr4 Off.nil) (hc)
  have hF : (some ([])) = some r := by (rw [hz8] at hF; simpa [lim] using hF)
  refine sr fun Q9 hQ9 => ?_
  refine va rfl rfl ?_
  refine nt hQ9 ?_
  clear hQ9 Q9
  refine KC.ret ?_
  refine KQ.thr hQ6 ?_
  clear hQ6 Q6
  have hE := Option.some.inj hF
  clear hF
  subst hE
  replace hM := hM.nilrow 5 1
  refine KQ.rets Try.results82 (RVs.cons (RV.tm rfl) RVs.nil) ?_
  exact ⟨_, rfl, none, 0, rfl, hM⟩
 refine KC.skip ?_
 refine KQ.thn hQ6 ?_
 clear hQ6 Q6
 refine sr fun Q10 hQ10 => ?_
 refine RL.eff (E.bsl0 hM sl94) rfl fun v w11 hv => ?_
 clear hM
 obtain ⟨A12, rfl, hM, hf⟩ := hv
 refine vm rfl rfl ?_
 refine cut_someE hF fun hq17 hF => ?_
 refine RL.eff (E.app (enc := (eI .u8)) (xs := ([] : List Int)) (ys := b1) (j := 0) hM rfl sl94 ze5 rfl rfl rfl rfl rfl (hM.inp hr4 Off.nil) (fun _ => One.all rfl) (of_decide_eq_true hq17)) rfl fun v w16 hv => ?_
 clear hM
 obtain ⟨A14, c15, rfl, hM, hf⟩ := hv
 refine va rfl rfl ?_
 refine nt hQ10 ?_
 clear hQ10 Q10
 refine KC.ret ?_
 have hE := Option.some.inj hF
 clear hF
 subst hE
 refine KQ.rets Try.results82 (RVs.cons (RV.tm rfl) RVs.nil) ?_
 exact ⟨_, rfl, A14, c15, rfl, hM⟩
set_option maxRecDepth 100000 in
set_option maxHeartbeats 40000000 in
theorem c_addr_Addr_Bytes (w : World) (av1 : T_addr_Addr) (r : (List Int)) (hF : F_addr_Addr_Bytes av1 = some r) :
  CallsR Try.prog 67 [.agg #[vB av1.f_Six, o8 av1.f_B 0, o8 av1.f_B 1, o8 av1.f_B 2, o8 av1.f_B 3, o8 av1.f_B 4, o8 av1.f_B 5, o8 av1.f_B 6, o8 av1.f_B 7, o8 av1.f_B 8, o8 av1.f_B 9, o8 av1.f_B 10, o8 av1.f_B 11, o8 av1.f_B 12, o8 av1.f_B 13, o8 av1.f_B 14, o8 av1.f_B 15]] w (fun v w' => ∃ (Ar0 : Option Addr) (cr0 : Nat), v = .slice Ar0 (r).length cr0 ∧ Mem w [] w' [.row Ar0 cr0 5 1 r.length (r.flatMap (eI .u8))]) := by
 refine calls_KC Try.func67 rfl Try.ntmps67 rfl ?_
 have hM := Mem.init w
 unfold F_addr_Addr_Bytes at hF
 refine sr fun Q2 hQ2 => ?_
 refine RL.eff (E.box (vs := [vB av1.f_Six, o8 av1.f_B 0, o8 av1.f_B 1, o8 av1.f_B 2, o8 av1.f_B 3, o8 av1.f_B 4, o8 av1.f_B 5, o8 av1.f_B 6, o8 av1.f_B 7, o8 av1.f_B 8, o8 av1.f_B 9, o8 av1.f_B 10, o8 av1.f_B 11, o8 av1.f_B 12, o8 av1.f_B 13, o8 av1.f_B 14, o8 av1.f_B 15]) hM rfl rfl) rfl fun v w4 hv => ?_
 clear hM
 obtain ⟨g3, rfl, hM, hf⟩ := hv
 refine va rfl rfl ?_
 refine nt hQ2 ?_
 clear hQ2 Q2
 refine sr fun Q6 hQ6 => ?_
 refine RL.val (O.fldA fl31_1 (by decide) rfl) rfl ?_
 refine RL.val (O.loadN (cs := [vB av1.f_Six, o8 av1.f_B 0, o8 av1.f_B 1, o8 av1.f_B 2, o8 av1.f_B 3, o8 av1.f_B 4, o8 av1.f_B 5, o8 av1.f_B 6, o8 av1.f_B 7, o8 av1.f_B 8, o8 av1.f_B 9, o8 av1.f_B 10, o8 av1.f_B 11, o8 av1.f_B 12, o8 av1.f_B 13, o8 av1.f_B 14, o8 av1.f_B 15]) ag31 rfl (Cs.addsN [] ((hM.bx (i := 0) rfl)) rfl)) rfl ?_
 refine obindE hF fun y7 hx8 hF => ?_
 refine RL.call Try.func70 bd70 rfl rfl (c_addr_Addr_size _ av1 _ hx8) fun v w9 hv => ?_
 obtain ⟨rfl, hN10⟩ := hv
 replace hM := hM.call0 hN10
 refine obindE hF fun cut12 hy13 hF => ?_
 have hr11 := Rd.arrTo (n := 16) (k := .u8) (xs := av1.f_B) (Cs.addsN [1] (hM.bx (i := 0) rfl) rfl) rfl rfl hy13
 refine RL.val (O.slArrTo Try.underlying29 sz5 rfl hy13 rfl rfl) rfl ?_
 refine obindE hF fun y14 hx15 hF => ?_
 refine RL.call Try.func82 bd82 rfl rfl (c_bytes_Clone _ _ _ cut12 hr11 _ hx15) fun v w16 hv => ?_
 obtain ⟨A18, c19, rfl, hN17⟩ := hv
 have hr11 := hr11.fut hN17.fut
 replace hM := hM.call hN17
 refine va rfl rfl ?_
 refine nt hQ6 ?_
 clear hQ6 Q6
 refine KC.ret ?_
 have hE := Option.some.inj hF
 clear hF
 subst hE
 replace hM := hM.pick [1] rfl (by decide)
 refine KQ.rets Try.results67 (RVs.cons (RV.tm rfl) RVs.nil) ?_
 exact ⟨_, rfl, A18, c19, rfl, hM⟩
set_option maxRecDepth 100000 in
set_option maxHeartbeats 40000000 in
theorem c_bits_right (w : World) (size1 : Int) (r : Bool) (hF : F_bits_right size1 = some r) :
  CallsR Try.prog 91 [vI size1] w (fun v w' => v = vB r ∧ Mem w [] w' []) := by
 refine calls_KC Try.func91 rfl Try.ntmps91 rfl ?_
 have hM := Mem.init w
 unfold F_bits_right at hF
 refine sr fun Q2 hQ2 => ?_
 refine va rfl rfl ?_
 refine nt hQ2 ?_
 clear hQ2 Q2
 refine KC.cut (fun a w4 => ∃ (t3 : Bool), Kn 9 [(2, vB t3)] a ∧ Mem w [] w4 [] ∧ F_bits_right_j1 t3 = some r) ?_ ?_
 ·refine KC.region ?_
  refine vm rfl rfl ?_
  refine RL.val (O.geq rfl rfl) rfl ?_
  refine vm rfl rfl ?_
  refine RL.bcase (t := 5) rfl (fun hc => ?_) (fun hc => ?_)
  ·rw [if_pos hc] at hF
   refine RL.gval rfl rfl (O.move rfl) rfl ?_
   refine RL.gval rfl rfl (O.leq rfl rfl) rfl ?_
   refine RL.val (O.pickt rfl rfl) rfl ?_
   refine va rfl rfl ?_
   refine RL.nil ?_
   refine KQ.then_k ?_
   exact fun a ha => ⟨(decide (size1 ≤ 8)), ha.less (less_cons rfl less_nil), hM, hF⟩
  rw [if_neg (ne_true hc)] at hF
  refine RL.gskip rfl rfl rfl rfl ?_
  refine RL.gskip rfl rfl rfl rfl ?_
  refine RL.val (O.pickf rfl rfl) rfl ?_
  refine va rfl rfl ?_
  refine RL.nil ?_
  refine KQ.then_k ?_
  exact fun a ha => ⟨false, ha.less (less_cons rfl less_nil), hM, hF⟩
 rintro a w4 ⟨t3, ha, hM, hF⟩
 refine KC.app ha ?_
 clear ha
 unfold F_bits_right_j1 at hF
 refine KC.ret ?_
 have hE := Option.some.inj hF
 clear hF
 subst hE
 refine KQ.rets Try.results91 (RVs.cons (RV.tm rfl) RVs.nil) ?_
 exact ⟨_, rfl, rfl, hM⟩
set_option maxRecDepth 100000 in
set_option maxHeartbeats 40000000 in
theorem c_bits_Least (w : World) (v1 : Int) (r : Int) (hF : F_bits_Least v1 = some r) :
  CallsR Try.prog 92 [v64 v1] w (fun v w' => v = vI r ∧ Mem w [] w' []) := by
 refine calls_KC Try.func92 rfl Try.ntmps92 rfl ?_
 have hM := Mem.init w
 unfold F_bits_Least at hF
 refine sr fun Q2 hQ2 => ?_
 refine va rfl rfl ?_
 refine nt hQ2 ?_
 clear hQ2 Q2
 refine sr fun Q3 hQ3 => ?_
 refine va rfl rfl ?_
 refine nt hQ3 ?_
 clear hQ3 Q3
 refine KC.seqH fun Q4 hQ4 => ?_
 refine sr fun Q5 hQ5 => ?_
 refine vm rfl rfl ?_
 refine RL.val (O.shr rfl rfl (by decide)) rfl ?_
 refine va rfl rfl ?_
 refine nt hQ5 ?_
 clear hQ5 Q5
 refine KC.block ?_
 refine KC.loop (fun k18 a w16 => ∃ (v14 : Int) (nv15 : Int), Kn 13 [(0, v64 v14), (3, vI nv15)] a ∧ Mem w [] w16 [] ∧ F_bits_Least_L1 k18 v14 nv15 = some r) ?_ ?_
 ·exact fun a ha => ⟨fuel0, (Ox.shr .u64 v1 8), 1, ha.less (less_cons rfl (less_cons rfl less_nil)), hM, hF⟩
 rintro k18 a w16 ⟨v14, nv15, ha, hM, hF⟩
 refine KC.app ha ?_
 clear ha
 cases k18 with
 | zero => exact (none_some hF).elim
 | succ k18 =>
 have hF : F_bits_Least_l1 (F_bits_Least_L1 k18) v14 nv15 = some r := hF
 unfold F_bits_Least_l1 at hF
 refine KC.seqH fun Q19 hQ19 => ?_
 refine sr fun Q20 hQ20 => ?_
 refine vm rfl rfl ?_
 refine RL.val (O.gtr rfl rfl) rfl ?_
 refine nt hQ20 ?_
 clear hQ20 Q20
 refine KC.cond rfl (fun hc => ?_) (fun hc => ?_)
 ·rw [if_pos hc] at hF
  refine KC.skip ?_
  refine KQ.thn hQ19 ?_
  clear hQ19 Q19
  refine KC.seqH fun Q21 hQ21 => ?_
  refine KC.block ?_
  refine KC.region ?_
  refine vm rfl rfl ?_
  refine RL.val (O.add rfl rfl) rfl ?_
  refine va rfl rfl ?_
  refine RL.nil ?_
  refine KQ.blk_n ?_
  refine KQ.thn hQ21 ?_
  clear hQ21 Q21
  refine KC.region ?_
  refine vm rfl rfl ?_
  refine RL.val (O.shr rfl rfl (by decide)) rfl ?_
  refine va rfl rfl ?_
  refine RL.nil ?_
  refine KQ.then_k ?_
  exact fun a ha => ⟨k18, Nat.lt_succ_self k18, (Ox.shr .u64 v14 8), (IntKind.i64.wrap (nv15 + 1)), ha.less (less_cons rfl (less_cons rfl less_nil)), hM, hF⟩
 rw [if_neg (ne_true hc)] at hF
 refine KC.exit ?_
 refine KQ.thx hQ19 ?_
 clear hQ19 Q19
 refine KQ.then_x ?_
 refine KQ.blk_x ?_
 refine KQ.thn hQ4 ?_
 clear hQ4 Q4
 refine sr fun Q22 hQ22 => ?_
 refine vm rfl rfl ?_
 refine va rfl rfl ?_
 refine nt hQ22 ?_
 clear hQ22 Q22
 refine KC.ret ?_
 have hE := Option.some.inj hF
 clear hF
 subst hE
 refine KQ.rets Try.results92 (RVs.cons (RV.tm rfl) RVs.nil) ?_
 exact ⟨_, rfl, rfl, hM⟩
set_option maxRecDepth 100000 in
set_option maxHeartbeats 40000000 in
theorem c_bits_fits (w : World) (v1 : Int) (size2 : Int) (r : Bool) (hF : F_bits_fits v1 size2 = some r) :
  CallsR Try.prog 83 [v64 v1, vI size2] w (fun v w' => v = vB r ∧ Mem w [] w' []) := by
 refine calls_KC Try.func83 rfl Try.ntmps83 rfl ?_
 have hM := Mem.init w
 unfold F_bits_fits at hF
 refine sr fun Q3 hQ3 => ?_
 refine va rfl rfl ?_
 refine nt hQ3 ?_
 clear hQ3 Q3
 refine KC.cut (fun a w13 => ∃ (t12 : Bool), Kn 13 [(4, vB t12)] a ∧ Mem w [] w13 [] ∧ F_bits_fits_j1 t12 = some r) ?_ ?_
 ·refine KC.region ?_
  refine vm rfl rfl ?_
  refine obindE hF fun y4 hx5 hF => ?_
  refine RL.call Try.func91 bd91 rfl rfl (c_bits_right _ size2 _ hx5) fun v w6 hv => ?_
  obtain ⟨rfl, hN7⟩ := hv
  replace hM := hM.call0 hN7
  refine vm rfl rfl ?_
  refine RL.bcase (t := 7) rfl (fun hc => ?_) (fun hc => ?_)
  ·rw [if_pos hc] at hF
   refine RL.gval rfl rfl (O.move rfl) rfl ?_
   refine obindE hF fun y8 hx9 hF => ?_
   refine RL.gcall rfl rfl Try.func92 bd92 rfl rfl (c_bits_Least _ v1 _ hx9) fun v w10 hv => ?_
   obtain ⟨rfl, hN11⟩ := hv
   replace hM := hM.call0 hN11
   refine RL.gval rfl rfl (O.move rfl) rfl ?_
   refine RL.gval rfl rfl (O.leq rfl rfl) rfl ?_
   refine RL.val (O.pickt rfl rfl) rfl ?_
   refine va rfl rfl ?_
   refine RL.nil ?_
   refine KQ.then_k ?_
   exact fun a ha => ⟨(decide (y8 ≤ size2)), ha.less (less_cons rfl less_nil), hM, hF⟩
  rw [if_neg (ne_true hc)] at hF
  refine RL.brun1 5 12 false (by kernel_rfl) ?_
  refine va rfl rfl ?_
  refine RL.nil ?_
  refine KQ.then_k ?_
  exact fun a ha => ⟨false, ha.less (less_cons rfl less_nil), hM, hF⟩
 rintro a w13 ⟨t12, ha, hM, hF⟩
 refine KC.app ha ?_
 clear ha
 unfold F_bits_fits_j1 at hF
 refine KC.ret ?_
 have hE := Option.some.inj hF
 clear hF
 subst hE
 refine KQ.rets Try.results83 (RVs.cons (RV.tm rfl) RVs.nil) ?_
 exact ⟨_, rfl, rfl, hM⟩
end Go.Proofs.Ytidbgejnkpoeeaa
