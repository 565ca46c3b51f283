/- Printed by a program of this claim: each call returns what the plain function of its name gives. -/
import Derived.Test.YtcinagdkkclapaaW1
import Derived.Test.YtcinagdkkclapaaW8
set_option linter.unusedVariables false
namespace Go.Proofs.Ytcinagdkkclapaa
open Go Go.Ox Go.RowKit
set_option maxRecDepth 100000 in
set_option maxHeartbeats 40000000 in
theorem c_trans_readTCP (w : World) (g2 : Nat) (tg7 : TypeId) (rv1 : T_bits_Reader) (A4 : Option Addr) (c5 : Nat) (hL8 : Lent w [.box g2 tg7 [.slice A4 (rv1.f_b).length c5, vI rv1.f_at], .row A4 c5 5 1 (rv1.f_b).length ((rv1.f_b).flatMap (eI .u8))]) (r : T_trans_Segment × Int × T_bits_Reader) (hF : F_trans_readTCP rv1 = some r) :
  CallsR Try.prog 51 [.pointer (some ⟨g2, 0, none⟩)] w (fun v w' => ∃ (A0 : Option Addr) (c0 : Nat) (A1 : Option Addr) (c1 : Nat) (A2 : Option Addr) (c2 : Nat), v = .tuple #[.agg #[v8 r.1.f_Proto, v16 r.1.f_Src, v16 r.1.f_Dst, v32 r.1.f_Seq, v32 r.1.f_Ack, v8 r.1.f_Flags, v16 r.1.f_Window, v16 r.1.f_Urgent, .slice A1 (r.1.f_Options).length c1, v8 r.1.f_Type, v8 r.1.f_Code, .slice A2 (r.1.f_Data).length c2], vI r.2.1] ∧ Mem w [some g2, rblk A4 c5] w' [.box g2 tg7 [.slice A0 (r.2.2.f_b).length c0, vI r.2.2.f_at], .row A0 c0 5 1 r.2.2.f_b.length (r.2.2.f_b.flatMap (eI .u8)), .row A1 c1 5 1 r.1.f_Options.length (r.1.f_Options.flatMap (eI .u8)), .row A2 c2 5 1 r.1.f_Data.length (r.1.f_Data.flatMap (eI .u8))]) := by
 refine calls_KC Try.func51 rfl Try.ntmps51 rfl ?_
 have hM : Mem w [some g2, rblk A4 c5] w [.box g2 tg7 [.slice A4 (rv1.f_b).length c5, vI rv1.f_at], .row A4 c5 5 1 (rv1.f_b).length ((rv1.f_b).flatMap (eI .u8))] := Mem.lendN hL8
 unfold F_trans_readTCP at hF
 refine sr fun Q9 hQ9 => ?_
 refine RL.eff (E.alloc hM ze26) rfl fun v w11 hv => ?_
 clear hM
 obtain ⟨g10, rfl, hM, hf⟩ := hv
 refine va rfl rfl ?_
 refine nt hQ9 ?_
 clear hQ9 Q9
 refine sr fun Q13 hQ13 => ?_
 refine vm rfl rfl ?_
 refine obindE hF fun y14 hx15 hF => ?_
 refine RL.call Try.func68 bd68 rfl rfl (c_trans_number _ _ _ rv1 _ _ (hM.lent [0, 1] rfl (by decide)) 2 _ hx15) fun v w16 hv => ?_
 obtain ⟨A18, c19, rfl, hN17⟩ := hv
 replace hM := hM.callL [0, 1] [2] rfl rfl (by decide) rfl hN17
 refine RL.val (O.conv un76 Try.underlying22 rfl) rfl ?_
 refine vm rfl rfl ?_
 refine obindE hF fun y21 hx22 hF => ?_
 refine RL.call Try.func68 bd68 rfl rfl (c_trans_number _ _ _ y14.2 _ _ (hM.lent [1, 2] rfl (by decide)) 2 _ hx22) fun v w23 hv => ?_
 obtain ⟨A25, c26, rfl, hN24⟩ := hv
 replace hM := hM.callL [1, 2] [0] rfl rfl (by decide) rfl hN24
 refine RL.val (O.conv un76 Try.underlying22 rfl) rfl ?_
 refine RL.val (O.fldA fl26_1 (by decide) rfl) rfl ?_
 refine RL.effs (E.stB (j := 0) (off := 1) (vs := [v16 (IntKind.u16.wrap y14.1)]) (cs' := [v8 0, v16 (IntKind.u16.wrap y14.1), v16 0, v32 0, v32 0, v8 0, v16 0, v16 0, .slice none 0 0, v8 0, v8 0, .slice none 0 0]) hM rfl sz22 rfl (adds_eq [1] rfl) rfl rfl (One.all rfl) rfl rfl) fun w28 hM1 => ?_
 clear hM
 have hM := hM1
 clear hM1
 refine RL.val (O.fldA fl26_2 (by decide) rfl) rfl ?_
 refine RL.effs (E.stB (j := 0) (off := 2) (vs := [v16 (IntKind.u16.wrap y21.1)]) (cs' := [v8 0, v16 (IntKind.u16.wrap y14.1), v16 (IntKind.u16.wrap y21.1), v32 0, v32 0, v8 0, v16 0, v16 0, .slice none 0 0, v8 0, v8 0, .slice none 0 0]) hM rfl sz22 rfl (adds_eq [2] rfl) rfl rfl (One.all rfl) rfl rfl) fun w29 hM1 => ?_
 clear hM
 have hM := hM1
 clear hM1
 refine nt hQ13 ?_
 clear hQ13 Q13
 refine sr fun Q30 hQ30 => ?_
 refine vm rfl rfl ?_
 refine obindE hF fun y31 hx32 hF => ?_
 refine RL.call Try.func68 bd68 rfl rfl (c_trans_number _ _ _ y21.2 _ _ (hM.lent [1, 2] rfl (by decide)) 4 _ hx32) fun v w33 hv => ?_
 obtain ⟨A35, c36, rfl, hN34⟩ := hv
 replace hM := hM.callL [1, 2] [0] rfl rfl (by decide) rfl hN34
 refine RL.val (O.conv un76 Try.underlying23 rfl) rfl ?_
 refine vm rfl rfl ?_
 refine obindE hF fun y38 hx39 hF => ?_
 refine RL.call Try.func68 bd68 rfl rfl (c_trans_number _ _ _ y31.2 _ _ (hM.lent [1, 2] rfl (by decide)) 4 _ hx39) fun v w40 hv => ?_
 obtain ⟨A42, c43, rfl, hN41⟩ := hv
 replace hM := hM.callL [1, 2] [0] rfl rfl (by decide) rfl hN41
 refine RL.val (O.conv un76 Try.underlying23 rfl) rfl ?_
 refine RL.val (O.fldA fl26_3 (by decide) rfl) rfl ?_
 refine RL.effs (E.stB (j := 0) (off := 3) (vs := [v32 (IntKind.u32.wrap y31.1)]) (cs' := [v8 0, v16 (IntKind.u16.wrap y14.1), v16 (IntKind.u16.wrap y21.1), v32 (IntKind.u32.wrap y31.1), v32 0, v8 0, v16 0, v16 0, .slice none 0 0, v8 0, v8 0, .slice none 0 0]) hM rfl sz23 rfl (adds_eq [3] rfl) rfl rfl (One.all rfl) rfl rfl) fun w45 hM1 => ?_
 clear hM
 have hM := hM1
 clear hM1
 refine RL.val (O.fldA fl26_4 (by decide) rfl) rfl ?_
 refine RL.effs (E.stB (j := 0) (off := 4) (vs := [v32 (IntKind.u32.wrap y38.1)]) (cs' := [v8 0, v16 (IntKind.u16.wrap y14.1), v16 (IntKind.u16.wrap y21.1), v32 (IntKind.u32.wrap y31.1), v32 (IntKind.u32.wrap y38.1), v8 0, v16 0, v16 0, .slice none 0 0, v8 0, v8 0, .slice none 0 0]) hM rfl sz23 rfl (adds_eq [4] rfl) rfl rfl (One.all rfl) rfl rfl) fun w46 hM1 => ?_
 clear hM
 have hM := hM1
 clear hM1
 refine nt hQ30 ?_
 clear hQ30 Q30
 refine sr fun Q47 hQ47 => ?_
 refine vm rfl rfl ?_
 refine obindE hF fun y48 hx49 hF => ?_
 refine RL.call Try.func68 bd68 rfl rfl (c_trans_number _ _ _ y38.2 _ _ (hM.lent [1, 2] rfl (by decide)) 1 _ hx49) fun v w50 hv => ?_
 obtain ⟨A52, c53, rfl, hN51⟩ := hv
 replace hM := hM.callL [1, 2] [0] rfl rfl (by decide) rfl hN51
 refine RL.val (O.shr rfl rfl (by decide)) rfl ?_
 refine RL.val (O.conv un76 Try.underlying3 rfl) rfl ?_
 refine RL.val (O.mul rfl rfl) rfl ?_
 refine RL.val (O.sub rfl rfl) rfl ?_
 refine va rfl rfl ?_
 refine nt hQ47 ?_
 clear hQ47 Q47
 refine sr fun Q55 hQ55 => ?_
 refine vm rfl rfl ?_
 refine obindE hF fun y56 hx57 hF => ?_
 refine RL.call Try.func68 bd68 rfl rfl (c_trans_number _ _ _ y48.2 _ _ (hM.lent [1, 2] rfl (by decide)) 1 _ hx57) fun v w58 hv => ?_
 obtain ⟨A60, c61, rfl, hN59⟩ := hv
 replace hM := hM.callL [1, 2] [0] rfl rfl (by decide) rfl hN59
 refine RL.val (O.conv un76 Try.underlying5 rfl) rfl ?_
 refine RL.val (O.fldA fl26_5 (by decide) rfl) rfl ?_
 refine RL.effs (E.stB (j := 0) (off := 5) (vs := [v8 (IntKind.u8.wrap y56.1)]) (cs' := [v8 0, v16 (IntKind.u16.wrap y14.1), v16 (IntKind.u16.wrap y21.1), v32 (IntKind.u32.wrap y31.1), v32 (IntKind.u32.wrap y38.1), v8 (IntKind.u8.wrap y56.1), v16 0, v16 0, .slice none 0 0, v8 0, v8 0, .slice none 0 0]) hM rfl sz5 rfl (adds_eq [5] rfl) rfl rfl (One.all rfl) rfl rfl) fun w63 hM1 => ?_
 clear hM
 have hM := hM1
 clear hM1
 refine nt hQ55 ?_
 clear hQ55 Q55
 refine sr fun Q64 hQ64 => ?_
 refine vm rfl rfl ?_
 refine obindE hF fun y65 hx66 hF => ?_
 refine RL.call Try.func68 bd68 rfl rfl (c_trans_number _ _ _ y56.2 _ _ (hM.lent [1, 2] rfl (by decide)) 2 _ hx66) fun v w67 hv => ?_
 obtain ⟨A69, c70, rfl, hN68⟩ := hv
 replace hM := hM.callL [1, 2] [0] rfl rfl (by decide) rfl hN68
 refine RL.val (O.conv un76 Try.underlying22 rfl) rfl ?_
 refine RL.val (O.fldA fl26_6 (by decide) rfl) rfl ?_
 refine RL.effs (E.stB (j := 0) (off := 6) (vs := [v16 (IntKind.u16.wrap y65.1)]) (cs' := [v8 0, v16 (IntKind.u16.wrap y14.1), v16 (IntKind.u16.wrap y21.1), v32 (IntKind.u32.wrap y31.1), v32 (IntKind.u32.wrap y38.1), v8 (IntKind.u8.wrap y56.1), v16 (IntKind.u16.wrap y65.1), v16 0, .slice none 0 0, v8 0, v8 0, .slice none 0 0]) hM rfl sz22 rfl (adds_eq [6] rfl) rfl rfl (One.all rfl) rfl rfl) fun w72 hM1 => ?_
 clear hM
 have hM := hM1
 clear hM1
 refine nt hQ64 ?_
 clear hQ64 Q64
 refine sr fun Q73 hQ73 => ?_
 refine vm rfl rfl ?_
 refine obindE hF fun y74 hx75 hF => ?_
 refine RL.call Try.func68 bd68 rfl rfl (c_trans_number _ _ _ y65.2 _ _ (hM.lent [1, 2] rfl (by decide)) 2 _ hx75) fun v w76 hv => ?_
 obtain ⟨A78, c79, rfl, hN77⟩ := hv
 replace hM := hM.callL [1, 2] [0] rfl rfl (by decide) rfl hN77
 refine nt hQ73 ?_
 clear hQ73 Q73
 refine sr fun Q81 hQ81 => ?_
 refine vm rfl rfl ?_
 refine obindE hF fun y82 hx83 hF => ?_
 refine RL.call Try.func68 bd68 rfl rfl (c_trans_number _ _ _ y74.2 _ _ (hM.lent [1, 2] rfl (by decide)) 2 _ hx83) fun v w84 hv => ?_
 obtain ⟨A86, c87, rfl, hN85⟩ := hv
 replace hM := hM.callL [1, 2] [0] rfl rfl (by decide) rfl hN85
 refine RL.val (O.conv un76 Try.underlying22 rfl) rfl ?_
 refine RL.val (O.fldA fl26_7 (by decide) rfl) rfl ?_
 refine RL.effs (E.stB (j := 0) (off := 7) (vs := [v16 (IntKind.u16.wrap y82.1)]) (cs' := [v8 0, v16 (IntKind.u16.wrap y14.1), v16 (IntKind.u16.wrap y21.1), v32 (IntKind.u32.wrap y31.1), v32 (IntKind.u32.wrap y38.1), v8 (IntKind.u8.wrap y56.1), v16 (IntKind.u16.wrap y65.1), v16 (IntKind.u16.wrap y82.1), .slice none 0 0, v8 0, v8 0, .slice none 0 0]) hM rfl sz22 rfl (adds_eq [7] rfl) rfl rfl (One.all rfl) rfl rfl) fun w89 hM1 => ?_
 clear hM
 have hM := hM1
 clear hM1
 refine nt hQ81 ?_
 clear hQ81 Q81
 refine KC.seqH fun Q90 hQ90 => ?_
 refine sr fun Q91 hQ91 => ?_
 refine vm rfl rfl ?_
 refine RL.val (O.lss rfl rfl) rfl ?_
 refine nt hQ91 ?_
 clear hQ91 Q91
 refine KC.cond rfl (fun hc => ?_) (fun hc => ?_)
 ·rw [if_pos hc] at hF
  refine sr fun Q92 hQ92 => ?_
  refine RL.val (O.bld (cs := [v8 0, v16 0, v16 0, v32 0, v32 0, v8 0, v16 0, v16 0, .slice none 0 0, v8 0, v8 0, .slice none 0 0]) bt26 rfl (by kernel_rfl)) rfl ?_
  refine RL.effs (E.stB (j := 0) (off := 0) (vs := [v8 0, v16 0, v16 0, v32 0, v32 0, v8 0, v16 0, v16 0, .slice none 0 0, v8 0, v8 0, .slice none 0 0]) (cs' := [v8 0, v16 0, v16 0, v32 0, v32 0, v8 0, v16 0, v16 0, .slice none 0 0, v8 0, v8 0, .slice none 0 0]) hM rfl sz26 rfl (adds_eq [] rfl) rfl rfl (One.all rfl) rfl rfl) fun w93 hM1 => ?_
  clear hM
  have hM := hM1
  clear hM1
  refine va rfl rfl ?_
  refine nt hQ92 ?_
  clear hQ92 Q92
  refine KC.ret ?_
  refine KQ.thr hQ90 ?_
  clear hQ90 Q90
  have hE := Option.some.inj hF
  clear hF
  subst hE
  have hb94 := hM.bx (i := 0) rfl
  replace hM := hM.nilrow 5 1
  replace hM := hM.nilrow 5 1
  replace hM := hM.pick [1, 2, 3, 4] rfl (by decide)
  refine KQ.rets Try.results51 (RVs.cons (RV.cN (cs := [v8 0, v16 0, v16 0, v32 0, v32 0, v8 0, v16 0, v16 0, .slice none 0 0, v8 0, v8 0, .slice none 0 0]) rfl ag26 hb94) (RVs.cons (RV.tm rfl) RVs.nil)) ?_
  exact ⟨_, rfl, A86, c87, none, 0, none, 0, rfl, hM⟩
 rw [if_neg (ne_true hc)] at hF
 refine KC.skip ?_
 refine KQ.thn hQ90 ?_
 clear hQ90 Q90
 refine KC.seqH fun Q95 hQ95 => ?_
 refine sr fun Q96 hQ96 => ?_
 refine vm rfl rfl ?_
 refine vm rfl rfl ?_
 refine obindE hF fun y97 hx98 hF => ?_
 refine RL.call Try.func70 bd70 rfl rfl (c_bits_Reader_Take _ _ _ y82.2 _ _ (hM.lent [1, 2] rfl (by decide)) (IntKind.i64.wrap ((IntKind.i64.wrap ((IntKind.i64.wrap (Ox.shr .u64 y48.1 4)) * 4)) - 20)) _ hx98) fun v w99 hv => ?_
 obtain ⟨A101, c102, A104, c105, rfl, hN100⟩ := hv
 replace hM := hM.callL [1, 2] [0] rfl rfl (by decide) rfl hN100
 refine vm rfl rfl ?_
 refine RL.val (O.ext rfl rfl) rfl ?_
 refine RL.val (O.ext rfl rfl) rfl ?_
 refine RL.val (O.fldA fl26_8 (by decide) rfl) rfl ?_
 refine RL.effs (E.stB (j := 0) (off := 8) (vs := [.slice A104 (y97.1).length c105]) (cs' := [v8 0, v16 (IntKind.u16.wrap y14.1), v16 (IntKind.u16.wrap y21.1), v32 (IntKind.u32.wrap y31.1), v32 (IntKind.u32.wrap y38.1), v8 (IntKind.u8.wrap y56.1), v16 (IntKind.u16.wrap y65.1), v16 (IntKind.u16.wrap y82.1), .slice A104 (y97.1).length c105, v8 0, v8 0, .slice none 0 0]) hM rfl sz24 rfl (adds_eq [8] rfl) rfl rfl (One.all rfl) rfl rfl) fun w107 hM1 => ?_
 clear hM
 have hM := hM1
 clear hM1
 refine va rfl rfl ?_
 refine nt hQ96 ?_
 clear hQ96 Q96
 refine sr fun Q108 hQ108 => ?_
 refine vm rfl rfl ?_
 refine RL.val (O.neq rfl rfl) rfl ?_
 refine nt hQ108 ?_
 clear hQ108 Q108
 refine KC.cond rfl (fun hc => ?_) (fun hc => ?_)
 ·rw [if_pos hc] at hF
  refine sr fun Q109 hQ109 => ?_
  refine RL.val (O.bld (cs := [v8 0, v16 0, v16 0, v32 0, v32 0, v8 0, v16 0, v16 0, .slice none 0 0, v8 0, v8 0, .slice none 0 0]) bt26 rfl (by kernel_rfl)) rfl ?_
  refine vm rfl rfl ?_
  refine RL.effs (E.stB (j := 0) (off := 0) (vs := [v8 0, v16 0, v16 0, v32 0, v32 0, v8 0, v16 0, v16 0, .slice none 0 0, v8 0, v8 0, .slice none 0 0]) (cs' := [v8 0, v16 0, v16 0, v32 0, v32 0, v8 0, v16 0, v16 0, .slice none 0 0, v8 0, v8 0, .slice none 0 0]) hM rfl sz26 rfl (adds_eq [] rfl) rfl rfl (One.all rfl) rfl rfl) fun w110 hM1 => ?_
  clear hM
  have hM := hM1
  clear hM1
  refine va rfl rfl ?_
  refine nt hQ109 ?_
  clear hQ109 Q109
  refine KC.ret ?_
  refine KQ.thr hQ95 ?_
  clear hQ95 Q95
  have hE := Option.some.inj hF
  clear hF
  subst hE
  have hb111 := hM.bx (i := 0) rfl
  replace hM := hM.nilrow 5 1
  replace hM := hM.nilrow 5 1
  replace hM := hM.pick [1, 2, 4, 5] rfl (by decide)
  refine KQ.rets Try.results51 (RVs.cons (RV.cN (cs := [v8 0, v16 0, v16 0, v32 0, v32 0, v8 0, v16 0, v16 0, .slice none 0 0, v8 0, v8 0, .slice none 0 0]) rfl ag26 hb111) (RVs.cons (RV.tm rfl) RVs.nil)) ?_
  exact ⟨_, rfl, A101, c102, none, 0, none, 0, rfl, hM⟩
 rw [if_neg (ne_true hc)] at hF
 refine KC.skip ?_
 refine KQ.thn hQ95 ?_
 clear hQ95 Q95
 refine sr fun Q112 hQ112 => ?_
 refine vm rfl rfl ?_
 refine obindE hF fun y113 hx114 hF => ?_
 refine RL.call Try.func69 bd69 rfl rfl (c_trans_rest _ _ _ y97.2.2 _ _ (hM.lent [1, 2] rfl (by decide)) _ hx114) fun v w115 hv => ?_
 obtain ⟨A117, c118, A120, c121, rfl, hN116⟩ := hv
 replace hM := hM.callL [1, 2] [0, 3] rfl rfl (by decide) rfl hN116
 refine RL.val (O.fldA fl26_11 (by decide) rfl) rfl ?_
 refine RL.effs (E.stB (j := 0) (off := 11) (vs := [.slice A120 (y113.1).length c121]) (cs' := [v8 0, v16 (IntKind.u16.wrap y14.1), v16 (IntKind.u16.wrap y21.1), v32 (IntKind.u32.wrap y31.1), v32 (IntKind.u32.wrap y38.1), v8 (IntKind.u8.wrap y56.1), v16 (IntKind.u16.wrap y65.1), v16 (IntKind.u16.wrap y82.1), .slice A104 (y97.1).length c105, v8 0, v8 0, .slice A120 (y113.1).length c121]) hM rfl sz24 rfl (adds_eq [11] rfl) rfl rfl (One.all rfl) rfl rfl) fun w123 hM1 => ?_
 clear hM
 have hM := hM1
 clear hM1
 refine nt hQ112 ?_
 clear hQ112 Q112
 refine sr fun Q124 hQ124 => ?_
 refine RL.val (O.loadN (cs := [v8 0, v16 (IntKind.u16.wrap y14.1), v16 (IntKind.u16.wrap y21.1), v32 (IntKind.u32.wrap y31.1), v32 (IntKind.u32.wrap y38.1), v8 (IntKind.u8.wrap y56.1), v16 (IntKind.u16.wrap y65.1), v16 (IntKind.u16.wrap y82.1), .slice A104 (y97.1).length c105, v8 0, v8 0, .slice A120 (y113.1).length c121]) ag26 rfl (Cs.addsN [] ((hM.bx (i := 0) rfl)) rfl)) rfl ?_
 refine RL.effs (E.stB (j := 0) (off := 0) (vs := [v8 0, v16 (IntKind.u16.wrap y14.1), v16 (IntKind.u16.wrap y21.1), v32 (IntKind.u32.wrap y31.1), v32 (IntKind.u32.wrap y38.1), v8 (IntKind.u8.wrap y56.1), v16 (IntKind.u16.wrap y65.1), v16 (IntKind.u16.wrap y82.1), .slice A104 (y97.1).length c105, v8 0, v8 0, .slice A120 (y113.1).length c121]) (cs' := [v8 0, v16 (IntKind.u16.wrap y14.1), v16 (IntKind.u16.wrap y21.1), v32 (IntKind.u32.wrap y31.1), v32 (IntKind.u32.wrap y38.1), v8 (IntKind.u8.wrap y56.1), v16 (IntKind.u16.wrap y65.1), v16 (IntKind.u16.wrap y82.1), .slice A104 (y97.1).length c105, v8 0, v8 0, .slice A120 (y113.1).length c121]) hM rfl sz26 rfl (adds_eq [] rfl) rfl rfl (One.all rfl) rfl rfl) fun w125 hM1 => ?_
 clear hM
 have hM := hM1
 clear hM1
 refine va rfl rfl ?_
 refine nt hQ124 ?_
 clear hQ124 Q124
 refine KC.ret ?_
 have hE := Option.some.inj hF
 clear hF
 subst hE
 have hb126 := hM.bx (i := 0) rfl
 replace hM := hM.pick [2, 3, 1, 4] rfl (by decide)
 refine KQ.rets Try.results51 (RVs.cons (RV.cN (cs := [v8 0, v16 (IntKind.u16.wrap y14.1), v16 (IntKind.u16.wrap y21.1), v32 (IntKind.u32.wrap y31.1), v32 (IntKind.u32.wrap y38.1), v8 (IntKind.u8.wrap y56.1), v16 (IntKind.u16.wrap y65.1), v16 (IntKind.u16.wrap y82.1), .slice A104 (y97.1).length c105, v8 0, v8 0, .slice A120 (y113.1).length c121]) rfl ag26 hb126) (RVs.cons (RV.tm rfl) RVs.nil)) ?_
 exact ⟨_, rfl, A117, c118, A104, c105, A120, c121, rfl, hM⟩
set_option maxRecDepth 100000 in
set_option maxHeartbeats 40000000 in
theorem c_trans_readUDP (w : World) (g2 : Nat) (tg7 : TypeId) (rv1 : T_bits_Reader) (A4 : Option Addr) (c5 : Nat) (hL8 : Lent w [.box g2 tg7 [.slice A4 (rv1.f_b).length c5, vI rv1.f_at], .row A4 c5 5 1 (rv1.f_b).length ((rv1.f_b).flatMap (eI .u8))]) (r : T_trans_Segment × Int × T_bits_Reader) (hF : F_trans_readUDP rv1 = some r) :
  CallsR Try.prog 54 [.pointer (some ⟨g2, 0, none⟩)] w (fun v w' => ∃ (A0 : Option Addr) (c0 : Nat) (A1 : Option Addr) (c1 : Nat) (A2 : Option Addr) (c2 : Nat), v = .tuple #[.agg #[v8 r.1.f_Proto, v16 r.1.f_Src, v16 r.1.f_Dst, v32 r.1.f_Seq, v32 r.1.f_Ack, v8 r.1.f_Flags, v16 r.1.f_Window, v16 r.1.f_Urgent, .slice A1 (r.1.f_Options).length c1, v8 r.1.f_Type, v8 r.1.f_Code, .slice A2 (r.1.f_Data).length c2], vI r.2.1] ∧ Mem w [some g2, rblk A4 c5] w' [.box g2 tg7 [.slice A0 (r.2.2.f_b).length c0, vI r.2.2.f_at], .row A0 c0 5 1 r.2.2.f_b.length (r.2.2.f_b.flatMap (eI .u8)), .row A1 c1 5 1 r.1.f_Options.length (r.1.f_Options.flatMap (eI .u8)), .row A2 c2 5 1 r.1.f_Data.length (r.1.f_Data.flatMap (eI .u8))]) := by
 refine calls_KC Try.func54 rfl Try.ntmps54 rfl ?_
 have hM : Mem w [some g2, rblk A4 c5] w [.box g2 tg7 [.slice A4 (rv1.f_b).length c5, vI rv1.f_at], .row A4 c5 5 1 (rv1.f_b).length ((rv1.f_b).flatMap (eI .u8))] := Mem.lendN hL8
 unfold F_trans_readUDP at hF
 refine sr fun Q9 hQ9 => ?_
 refine RL.eff (E.alloc hM ze26) rfl fun v w11 hv => ?_
 clear hM
 obtain ⟨g10, rfl, hM, hf⟩ := hv
 refine va rfl rfl ?_
 refine nt hQ9 ?_
 clear hQ9 Q9
 refine sr fun Q13 hQ13 => ?_
 refine vm rfl rfl ?_
 refine obindE hF fun y14 hx15 hF => ?_
 refine RL.call Try.func68 bd68 rfl rfl (c_trans_number _ _ _ rv1 _ _ (hM.lent [0, 1] rfl (by decide)) 2 _ hx15) fun v w16 hv => ?_
 obtain ⟨A18, c19, rfl, hN17⟩ := hv
 replace hM := hM.callL [0, 1] [2] rfl rfl (by decide) rfl hN17
 refine RL.val (O.conv un76 Try.underlying22 rfl) rfl ?_
 refine vm rfl rfl ?_
 refine obindE hF fun y21 hx22 hF => ?_
 refine RL.call Try.func68 bd68 rfl rfl (c_trans_number _ _ _ y14.2 _ _ (hM.lent [1, 2] rfl (by decide)) 2 _ hx22) fun v w23 hv => ?_
 obtain ⟨A25, c26, rfl, hN24⟩ := hv
 replace hM := hM.callL [1, 2] [0] rfl rfl (by decide) rfl hN24
 refine RL.val (O.conv un76 Try.underlying22 rfl) rfl ?_
 refine RL.val (O.fldA fl26_1 (by decide) rfl) rfl ?_
 refine RL.effs (E.stB (j := 0) (off := 1) (vs := [v16 (IntKind.u16.wrap y14.1)]) (cs' := [v8 0, v16 (IntKind.u16.wrap y14.1), v16 0, v32 0, v32 0, v8 0, v16 0, v16 0, .slice none 0 0, v8 0, v8 0, .slice none 0 0]) hM rfl sz22 rfl (adds_eq [1] rfl) rfl rfl (One.all rfl) rfl rfl) fun w28 hM1 => ?_
 clear hM
 have hM := hM1
 clear hM1
 refine RL.val (O.fldA fl26_2 (by decide) rfl) rfl ?_
 refine RL.effs (E.stB (j := 0) (off := 2) (vs := [v16 (IntKind.u16.wrap y21.1)]) (cs' := [v8 0, v16 (IntKind.u16.wrap y14.1), v16 (IntKind.u16.wrap y21.1), v32 0, v32 0, v8 0, v16 0, v16 0, .slice none 0 0, v8 0, v8 0, .slice none 0 0]) hM rfl sz22 rfl (adds_eq [2] rfl) rfl rfl (One.all rfl) rfl rfl) fun w29 hM1 => ?_
 clear hM
 have hM := hM1
 clear hM1
 refine nt hQ13 ?_
 clear hQ13 Q13
 refine sr fun Q30 hQ30 => ?_
 refine vm rfl rfl ?_
 refine obindE hF fun y31 hx32 hF => ?_
 refine RL.call Try.func68 bd68 rfl rfl (c_trans_number _ _ _ y21.2 _ _ (hM.lent [1, 2] rfl (by decide)) 2 _ hx32) fun v w33 hv => ?_
 obtain ⟨A35, c36, rfl, hN34⟩ := hv
 replace hM := hM.callL [1, 2] [0] rfl rfl (by decide) rfl hN34
 refine RL.val (O.conv un76 Try.underlying3 rfl) rfl ?_
 refine RL.val (O.sub rfl rfl) rfl ?_
 refine va rfl rfl ?_
 refine nt hQ30 ?_
 clear hQ30 Q30
 refine sr fun Q38 hQ38 => ?_
 refine vm rfl rfl ?_
 refine obindE hF fun y39 hx40 hF => ?_
 refine RL.call Try.func68 bd68 rfl rfl (c_trans_number _ _ _ y31.2 _ _ (hM.lent [1, 2] rfl (by decide)) 2 _ hx40) fun v w41 hv => ?_
 obtain ⟨A43, c44, rfl, hN42⟩ := hv
 replace hM := hM.callL [1, 2] [0] rfl rfl (by decide) rfl hN42
 refine nt hQ38 ?_
 clear hQ38 Q38
 refine KC.seqH fun Q46 hQ46 => ?_
 refine sr fun Q47 hQ47 => ?_
 refine vm rfl rfl ?_
 refine RL.val (O.lss rfl rfl) rfl ?_
 refine nt hQ47 ?_
 clear hQ47 Q47
 refine KC.cond rfl (fun hc => ?_) (fun hc => ?_)
 ·rw [if_pos hc] at hF
  refine sr fun Q48 hQ48 => ?_
  refine RL.val (O.bld (cs := [v8 0, v16 0, v16 0, v32 0, v32 0, v8 0, v16 0, v16 0, .slice none 0 0, v8 0, v8 0, .slice none 0 0]) bt26 rfl (by kernel_rfl)) rfl ?_
  refine RL.effs (E.stB (j := 0) (off := 0) (vs := [v8 0, v16 0, v16 0, v32 0, v32 0, v8 0, v16 0, v16 0, .slice none 0 0, v8 0, v8 0, .slice none 0 0]) (cs' := [v8 0, v16 0, v16 0, v32 0, v32 0, v8 0, v16 0, v16 0, .slice none 0 0, v8 0, v8 0, .slice none 0 0]) hM rfl sz26 rfl (adds_eq [] rfl) rfl rfl (One.all rfl) rfl rfl) fun w49 hM1 => ?_
  clear hM
  have hM := hM1
  clear hM1
  refine va rfl rfl ?_
  refine nt hQ48 ?_
  clear hQ48 Q48
  refine KC.ret ?_
  refine KQ.thr hQ46 ?_
  clear hQ46 Q46
  have hE := Option.some.inj hF
  clear hF
  subst hE
  have hb50 := hM.bx (i := 0) rfl
  replace hM := hM.nilrow 5 1
  replace hM := hM.nilrow 5 1
  replace hM := hM.pick [1, 2, 3, 4] rfl (by decide)
  refine KQ.rets Try.results54 (RVs.cons (RV.cN (cs := [v8 0, v16 0, v16 0, v32 0, v32 0, v8 0, v16 0, v16 0, .slice none 0 0, v8 0, v8 0, .slice none 0 0]) rfl ag26 hb50) (RVs.cons (RV.tm rfl) RVs.nil)) ?_
  exact ⟨_, rfl, A43, c44, none, 0, none, 0, rfl, hM⟩
 rw [if_neg (ne_true hc)] at hF
 refine KC.skip ?_
 refine KQ.thn hQ46 ?_
 clear hQ46 Q46
 refine KC.seqH fun Q51 hQ51 => ?_
 refine sr fun Q52 hQ52 => ?_
 refine vm rfl rfl ?_
 refine vm rfl rfl ?_
 refine obindE hF fun y53 hx54 hF => ?_
 refine RL.call Try.func70 bd70 rfl rfl (c_bits_Reader_Take _ _ _ y39.2 _ _ (hM.lent [1, 2] rfl (by decide)) (IntKind.i64.wrap ((IntKind.i64.wrap y31.1) - 8)) _ hx54) fun v w55 hv => ?_
 obtain ⟨A57, c58, A60, c61, rfl, hN56⟩ := hv
 replace hM := hM.callL [1, 2] [0] rfl rfl (by decide) rfl hN56
 refine vm rfl rfl ?_
 refine RL.val (O.ext rfl rfl) rfl ?_
 refine RL.val (O.ext rfl rfl) rfl ?_
 refine RL.val (O.fldA fl26_11 (by decide) rfl) rfl ?_
 refine RL.effs (E.stB (j := 0) (off := 11) (vs := [.slice A60 (y53.1).length c61]) (cs' := [v8 0, v16 (IntKind.u16.wrap y14.1), v16 (IntKind.u16.wrap y21.1), v32 0, v32 0, v8 0, v16 0, v16 0, .slice none 0 0, v8 0, v8 0, .slice A60 (y53.1).length c61]) hM rfl sz24 rfl (adds_eq [11] rfl) rfl rfl (One.all rfl) rfl rfl) fun w63 hM1 => ?_
 clear hM
 have hM := hM1
 clear hM1
 refine va rfl rfl ?_
 refine nt hQ52 ?_
 clear hQ52 Q52
 refine sr fun Q64 hQ64 => ?_
 refine vm rfl rfl ?_
 refine RL.val (O.neq rfl rfl) rfl ?_
 refine nt hQ64 ?_
 clear hQ64 Q64
 refine KC.cond rfl (fun hc => ?_) (fun hc => ?_)
 ·rw [if_pos hc] at hF
  refine sr fun Q65 hQ65 => ?_
  refine RL.val (O.bld (cs := [v8 0, v16 0, v16 0, v32 0, v32 0, v8 0, v16 0, v16 0, .slice none 0 0, v8 0, v8 0, .slice none 0 0]) bt26 rfl (by kernel_rfl)) rfl ?_
  refine vm rfl rfl ?_
  refine RL.effs (E.stB (j := 0) (off := 0) (vs := [v8 0, v16 0, v16 0, v32 0, v32 0, v8 0, v16 0, v16 0, .slice none 0 0, v8 0, v8 0, .slice none 0 0]) (cs' := [v8 0, v16 0, v16 0, v32 0, v32 0, v8 0, v16 0, v16 0, .slice none 0 0, v8 0, v8 0, .slice none 0 0]) hM rfl sz26 rfl (adds_eq [] rfl) rfl rfl (One.all rfl) rfl rfl) fun w66 hM1 => ?_
  clear hM
  have hM := hM1
  clear hM1
  refine va rfl rfl ?_
  refine nt hQ65 ?_
  clear hQ65 Q65
  refine KC.ret ?_
  refine KQ.thr hQ51 ?_
  clear hQ51 Q51
  have hE := Option.some.inj hF
  clear hF
  subst hE
  have hb67 := hM.bx (i := 0) rfl
  replace hM := hM.nilrow 5 1
  replace hM := hM.nilrow 5 1
  replace hM := hM.pick [1, 2, 4, 5] rfl (by decide)
  refine KQ.rets Try.results54 (RVs.cons (RV.cN (cs := [v8 0, v16 0, v16 0, v32 0, v32 0, v8 0, v16 0, v16 0, .slice none 0 0, v8 0, v8 0, .slice none 0 0]) rfl ag26 hb67) (RVs.cons (RV.tm rfl) RVs.nil)) ?_
  exact ⟨_, rfl, A57, c58, none, 0, none, 0, rfl, hM⟩
 rw [if_neg (ne_true hc)] at hF
 refine KC.skip ?_
 refine KQ.thn hQ51 ?_
 clear hQ51 Q51
 refine sr fun Q68 hQ68 => ?_
 refine RL.val (O.loadN (cs := [v8 0, v16 (IntKind.u16.wrap y14.1), v16 (IntKind.u16.wrap y21.1), v32 0, v32 0, v8 0, v16 0, v16 0, .slice none 0 0, v8 0, v8 0, .slice A60 (y53.1).length c61]) ag26 rfl (Cs.addsN [] ((hM.bx (i := 0) rfl)) rfl)) rfl ?_
 refine RL.effs (E.stB (j := 0) (off := 0) (vs := [v8 0, v16 (IntKind.u16.wrap y14.1), v16 (IntKind.u16.wrap y21.1), v32 0, v32 0, v8 0, v16 0, v16 0, .slice none 0 0, v8 0, v8 0, .slice A60 (y53.1).length c61]) (cs' := [v8 0, v16 (IntKind.u16.wrap y14.1), v16 (IntKind.u16.wrap y21.1), v32 0, v32 0, v8 0, v16 0, v16 0, .slice none 0 0, v8 0, v8 0, .slice A60 (y53.1).length c61]) hM rfl sz26 rfl (adds_eq [] rfl) rfl rfl (One.all rfl) rfl rfl) fun w69 hM1 => ?_
 clear hM
 have hM := hM1
 clear hM1
 refine va rfl rfl ?_
 refine nt hQ68 ?_
 clear hQ68 Q68
 refine KC.ret ?_
 have hE := Option.some.inj hF
 clear hF
 subst hE
 have hb70 := hM.bx (i := 0) rfl
 replace hM := hM.nilrow 5 1
 replace hM := hM.pick [1, 2, 4, 3] rfl (by decide)
 refine KQ.rets Try.results54 (RVs.cons (RV.cN (cs := [v8 0, v16 (IntKind.u16.wrap y14.1), v16 (IntKind.u16.wrap y21.1), v32 0, v32 0, v8 0, v16 0, v16 0, .slice none 0 0, v8 0, v8 0, .slice A60 (y53.1).length c61]) rfl ag26 hb70) (RVs.cons (RV.tm rfl) RVs.nil)) ?_
 exact ⟨_, rfl, A57, c58, none, 0, A60, c61, rfl, hM⟩
set_option maxRecDepth 100000 in
set_option maxHeartbeats 40000000 in
theorem c_trans_readICMP (w : World) (g2 : Nat) (tg7 : TypeId) (rv1 : T_bits_Reader) (A4 : Option Addr) (c5 : Nat) (hL8 : Lent w [.box g2 tg7 [.slice A4 (rv1.f_b).length c5, vI rv1.f_at], .row A4 c5 5 1 (rv1.f_b).length ((rv1.f_b).flatMap (eI .u8))]) (r : T_trans_Segment × Int × T_bits_Reader) (hF : F_trans_readICMP rv1 = some r) :
  CallsR Try.prog 48 [.pointer (some ⟨g2, 0, none⟩)] w (fun v w' => ∃ (A0 : Option Addr) (c0 : Nat) (A1 : Option Addr) (c1 : Nat) (A2 : Option Addr) (c2 : Nat), v = .tuple #[.agg #[v8 r.1.f_Proto, v16 r.1.f_Src, v16 r.1.f_Dst, v32 r.1.f_Seq, v32 r.1.f_Ack, v8 r.1.f_Flags, v16 r.1.f_Window, v16 r.1.f_Urgent, .slice A1 (r.1.f_Options).length c1, v8 r.1.f_Type, v8 r.1.f_Code, .slice A2 (r.1.f_Data).length c2], vI r.2.1] ∧ Mem w [some g2, rblk A4 c5] w' [.box g2 tg7 [.slice A0 (r.2.2.f_b).length c0, vI r.2.2.f_at], .row A0 c0 5 1 r.2.2.f_b.length (r.2.2.f_b.flatMap (eI .u8)), .row A1 c1 5 1 r.1.f_Options.length (r.1.f_Options.flatMap (eI .u8)), .row A2 c2 5 1 r.1.f_Data.length (r.1.f_Data.flatMap (eI .u8))]) := by
 refine calls_KC Try.func48 rfl Try.ntmps48 rfl ?_
 have hM : Mem w [some g2, rblk A4 c5] w [.box g2 tg7 [.slice A4 (rv1.f_b).length c5, vI rv1.f_at], .row A4 c5 5 1 (rv1.f_b).length ((rv1.f_b).flatMap (eI .u8))] := Mem.lendN hL8
 unfold F_trans_readICMP at hF
 refine sr fun Q9 hQ9 => ?_
 refine RL.eff (E.alloc hM ze26) rfl fun v w11 hv => ?_
 clear hM
 obtain ⟨g10, rfl, hM, hf⟩ := hv
 refine va rfl rfl ?_
 refine nt hQ9 ?_
 clear hQ9 Q9
 refine sr fun Q13 hQ13 => ?_
 refine vm rfl rfl ?_
 refine obindE hF fun y14 hx15 hF => ?_
 refine RL.call Try.func68 bd68 rfl rfl (c_trans_number _ _ _ rv1 _ _ (hM.lent [0, 1] rfl (by decide)) 1 _ hx15) fun v w16 hv => ?_
 obtain ⟨A18, c19, rfl, hN17⟩ := hv
 replace hM := hM.callL [0, 1] [2] rfl rfl (by decide) rfl hN17
 refine RL.val (O.conv un76 Try.underlying5 rfl) rfl ?_
 refine vm rfl rfl ?_
 refine obindE hF fun y21 hx22 hF => ?_
 refine RL.call Try.func68 bd68 rfl rfl (c_trans_number _ _ _ y14.2 _ _ (hM.lent [1, 2] rfl (by decide)) 1 _ hx22) fun v w23 hv => ?_
 obtain ⟨A25, c26, rfl, hN24⟩ := hv
 replace hM := hM.callL [1, 2] [0] rfl rfl (by decide) rfl hN24
 refine RL.val (O.conv un76 Try.underlying5 rfl) rfl ?_
 refine RL.val (O.fldA fl26_9 (by decide) rfl) rfl ?_
 refine RL.effs (E.stB (j := 0) (off := 9) (vs := [v8 (IntKind.u8.wrap y14.1)]) (cs' := [v8 0, v16 0, v16 0, v32 0, v32 0, v8 0, v16 0, v16 0, .slice none 0 0, v8 (IntKind.u8.wrap y14.1), v8 0, .slice none 0 0]) hM rfl sz5 rfl (adds_eq [9] rfl) rfl rfl (One.all rfl) rfl rfl) fun w28 hM1 => ?_
 clear hM
 have hM := hM1
 clear hM1
 refine RL.val (O.fldA fl26_10 (by decide) rfl) rfl ?_
 refine RL.effs (E.stB (j := 0) (off := 10) (vs := [v8 (IntKind.u8.wrap y21.1)]) (cs' := [v8 0, v16 0, v16 0, v32 0, v32 0, v8 0, v16 0, v16 0, .slice none 0 0, v8 (IntKind.u8.wrap y14.1), v8 (IntKind.u8.wrap y21.1), .slice none 0 0]) hM rfl sz5 rfl (adds_eq [10] rfl) rfl rfl (One.all rfl) rfl rfl) fun w29 hM1 => ?_
 clear hM
 have hM := hM1
 clear hM1
 refine nt hQ13 ?_
 clear hQ13 Q13
 refine sr fun Q30 hQ30 => ?_
 refine vm rfl rfl ?_
 refine obindE hF fun y31 hx32 hF => ?_
 refine RL.call Try.func68 bd68 rfl rfl (c_trans_number _ _ _ y21.2 _ _ (hM.lent [1, 2] rfl (by decide)) 2 _ hx32) fun v w33 hv => ?_
 obtain ⟨A35, c36, rfl, hN34⟩ := hv
 replace hM := hM.callL [1, 2] [0] rfl rfl (by decide) rfl hN34
 refine nt hQ30 ?_
 clear hQ30 Q30
 refine sr fun Q38 hQ38 => ?_
 refine vm rfl rfl ?_
 refine obindE hF fun y39 hx40 hF => ?_
 refine RL.call Try.func69 bd69 rfl rfl (c_trans_rest _ _ _ y31.2 _ _ (hM.lent [1, 2] rfl (by decide)) _ hx40) fun v w41 hv => ?_
 obtain ⟨A43, c44, A46, c47, rfl, hN42⟩ := hv
 replace hM := hM.callL [1, 2] [0] rfl rfl (by decide) rfl hN42
 refine RL.val (O.fldA fl26_11 (by decide) rfl) rfl ?_
 refine RL.effs (E.stB (j := 0) (off := 11) (vs := [.slice A46 (y39.1).length c47]) (cs' := [v8 0, v16 0, v16 0, v32 0, v32 0, v8 0, v16 0, v16 0, .slice none 0 0, v8 (IntKind.u8.wrap y14.1), v8 (IntKind.u8.wrap y21.1), .slice A46 (y39.1).length c47]) hM rfl sz24 rfl (adds_eq [11] rfl) rfl rfl (One.all rfl) rfl rfl) fun w49 hM1 => ?_
 clear hM
 have hM := hM1
 clear hM1
 refine nt hQ38 ?_
 clear hQ38 Q38
 refine sr fun Q50 hQ50 => ?_
 refine RL.val (O.loadN (cs := [v8 0, v16 0, v16 0, v32 0, v32 0, v8 0, v16 0, v16 0, .slice none 0 0, v8 (IntKind.u8.wrap y14.1), v8 (IntKind.u8.wrap y21.1), .slice A46 (y39.1).length c47]) ag26 rfl (Cs.addsN [] ((hM.bx (i := 0) rfl)) rfl)) rfl ?_
 refine RL.effs (E.stB (j := 0) (off := 0) (vs := [v8 0, v16 0, v16 0, v32 0, v32 0, v8 0, v16 0, v16 0, .slice none 0 0, v8 (IntKind.u8.wrap y14.1), v8 (IntKind.u8.wrap y21.1), .slice A46 (y39.1).length c47]) (cs' := [v8 0, v16 0, v16 0, v32 0, v32 0, v8 0, v16 0, v16 0, .slice none 0 0, v8 (IntKind.u8.wrap y14.1), v8 (IntKind.u8.wrap y21.1), .slice A46 (y39.1).length c47]) hM rfl sz26 rfl (adds_eq [] rfl) rfl rfl (One.all rfl) rfl rfl) fun w51 hM1 => ?_
 clear hM
 have hM := hM1
 clear hM1
 refine va rfl rfl ?_
 refine nt hQ50 ?_
 clear hQ50 Q50
 refine KC.ret ?_
 have hE := Option.some.inj hF
 clear hF
 subst hE
 have hb52 := hM.bx (i := 0) rfl
 replace hM := hM.nilrow 5 1
 replace hM := hM.pick [1, 2, 4, 3] rfl (by decide)
 refine KQ.rets Try.results48 (RVs.cons (RV.cN (cs := [v8 0, v16 0, v16 0, v32 0, v32 0, v8 0, v16 0, v16 0, .slice none 0 0, v8 (IntKind.u8.wrap y14.1), v8 (IntKind.u8.wrap y21.1), .slice A46 (y39.1).length c47]) rfl ag26 hb52) (RVs.cons (RV.tm rfl) RVs.nil)) ?_
 exact ⟨_, rfl, A43, c44, none, 0, A46, c47, rfl, hM⟩
end Go.Proofs.Ytcinagdkkclapaa
