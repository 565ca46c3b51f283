/- Printed by a program of this claim: each call returns what the plain function of its name gives. -/
import Derived.Test.YtidbgejnkpoeeaaW1
import Derived.Test.YtidbgejnkpoeeaaW2
import Derived.Test.YtidbgejnkpoeeaaW4
import Derived.Test.YtidbgejnkpoeeaaW14
import Derived.Test.YtidbgejnkpoeeaaW15
import Derived.Test.YtidbgejnkpoeeaaW16
import Derived.Test.YtidbgejnkpoeeaaW17
import Derived.Test.YtidbgejnkpoeeaaW20
set_option linter.unusedVariables false
namespace Go.Proofs.Ytidbgejnkpoeeaa
open Go Go.Ox Go.RowKit
set_option maxRecDepth 100000 in
set_option maxHeartbeats 40000000 in
theorem c_law30_ModelOnce (w : World) (A2 : Option Addr) (c3 : Nat) (lv1 : List T_model_Note) (hr4 : RdD R_model_Note [] w A2 c3 45 lv1) (r : Bool) (hF : F_law30_ModelOnce lv1 = some r) :
  CallsR Try.prog 3 [.slice A2 (lv1).length c3] w (fun v w' => v = vB r ∧ Mem w [] w' []) := by
 refine calls_KC Try.func3 rfl Try.ntmps3 rfl ?_
 have hM := Mem.init w
 unfold F_law30_ModelOnce at hF
 refine sr fun Q5 hQ5 => ?_
 refine va rfl rfl ?_
 refine nt hQ5 ?_
 clear hQ5 Q5
 refine KC.seqH fun Q6 hQ6 => ?_
 refine sr fun Q7 hQ7 => ?_
 refine vm rfl rfl ?_
 refine obindE hF fun y8 hx9 hF => ?_
 refine RL.call Try.func5 bd5 rfl rfl (c_law30_few _ _ _ lv1 (hr4.chg mv_model_Note hM.chg) _ hx9) fun v w10 hv => ?_
 obtain ⟨rfl, hN11⟩ := hv
 replace hM := hM.call0 hN11
 refine RL.val (O.not rfl) rfl ?_
 refine nt hQ7 ?_
 clear hQ7 Q7
 refine KC.cond rfl (fun hc => ?_) (fun hc => ?_)
 ·rw [if_pos hc] at hF
  refine sr fun Q12 hQ12 => ?_
  refine obindE hF fun y13 hx14 hF => ?_
  refine RL.call Try.func6 bd6 rfl rfl (c_law30_works _ _ hx14) fun v w15 hv => ?_
  obtain ⟨rfl, hN16⟩ := hv
  replace hM := hM.call0 hN16
  refine va rfl rfl ?_
  refine nt hQ12 ?_
  clear hQ12 Q12
  refine KC.ret ?_
  refine KQ.thr hQ6 ?_
  clear hQ6 Q6
  have hE := Option.some.inj hF
  clear hF
  subst hE
  refine KQ.rets Try.results3 (RVs.cons (RV.tm rfl) RVs.nil) ?_
  exact ⟨_, rfl, rfl, hM⟩
 rw [if_neg (ne_true hc)] at hF
 refine KC.skip ?_
 refine KQ.thn hQ6 ?_
 clear hQ6 Q6
 refine sr fun Q17 hQ17 => ?_
 refine obindE hF fun y18 hx19 hF => ?_
 refine RL.call Try.func7 bd7 rfl rfl (c_model_New _ _ hx19) fun v w20 hv => ?_
 obtain ⟨g22, g24, g26, g28, A30, c31, css33, Z34, A36, c37, rfl, hN21⟩ := hv
 replace hM := hM.call hN21
 refine va rfl rfl ?_
 refine nt hQ17 ?_
 clear hQ17 Q17
 refine sr fun Q39 hQ39 => ?_
 refine va rfl rfl ?_
 refine nt hQ39 ?_
 clear hQ39 Q39
 refine KC.seqH fun Q40 hQ40 => ?_
 refine sr fun Q41 hQ41 => ?_
 refine va rfl rfl ?_
 refine nt hQ41 ?_
 clear hQ41 Q41
 refine KC.block ?_
 refine KC.loop (fun k6974 a w6972 => ∃ (g6949 : Nat) (g6952 : Nat) (g6955 : Nat) (A6958 : Option Addr) (c6959 : Nat) (css6960 : List (List Value)) (Z6961 : List Nat) (A6965 : Option Addr) (c6966 : Nat) (m6950 : FM62) (m6953 : FM62) (m6956 : FM62) (m6963 : List T_model_Entry) (m6967 : List Int) (m6968 : Int) (m6969 : Int) (credits6970 : Int) (i6971 : Int), Kn 149 [(0, .slice A2 (lv1).length c3), (3, .pointer (some ⟨g22, 0, none⟩)), (4, vI credits6970), (5, vI i6971)] a ∧ Mem w [] w6972 [.res [g6949] (MR62 g6949 m6950), .res [g6952] (MR62 g6952 m6953), .res [g6955] (MR62 g6955 m6956), .row A6958 c6959 47 6 (m6963).length (css6960).flatten, .res Z6961 (Els RO_model_Entry 6 m6963 css6960 Z6961), .row A6965 c6966 3 1 (m6967).length ((m6967).flatMap (eI .i64)), .box g22 65 [.map (some g6949), .map (some g6952), .map (some g6955), .slice A6958 (m6963).length c6959, .slice A6965 (m6967).length c6966, v64 m6968, v32 m6969]] ∧ F_law30_ModelOnce_L1 lv1 k6974 m6950 m6953 m6956 m6963 m6967 m6968 m6969 credits6970 i6971 = some r) ?_ ?_
 ·replace hM := hM.pick [1, 2, 3, 4, 5, 6, 0] rfl (by decide)
  exact fun a ha => ⟨fuel0, g24, g26, g28, A30, c31, css33, Z34, A36, c37, y18.f_forwarded, y18.f_cached, y18.f_lost, y18.f_entries, y18.f_line, y18.f_first, y18.f_boot, 0, 0, ha.less (less_cons rfl (less_cons rfl (less_cons rfl (less_cons rfl less_nil)))), hM, hF⟩
 rintro k6974 a w6972 ⟨g6949, g6952, g6955, A6958, c6959, css6960, Z6961, A6965, c6966, m6950, m6953, m6956, m6963, m6967, m6968, m6969, credits6970, i6971, ha, hM, hF⟩
 refine KC.app ha ?_
 clear ha
 cases k6974 with
 | zero => exact (none_some hF).elim
 | succ k6974 =>
 have hF : F_law30_ModelOnce_l1 (F_law30_ModelOnce_L1 lv1 k6974) lv1 m6950 m6953 m6956 m6963 m6967 m6968 m6969 credits6970 i6971 = some r := hF
 unfold F_law30_ModelOnce_l1 at hF
 refine KC.seqH fun Q6975 hQ6975 => ?_
 refine sr fun Q6976 hQ6976 => ?_
 refine vm rfl rfl ?_
 refine vm rfl rfl ?_
 refine RL.val (O.len sl22 rfl) rfl ?_
 refine RL.val (O.lss rfl rfl) rfl ?_
 refine nt hQ6976 ?_
 clear hQ6976 Q6976
 refine KC.cond rfl (fun hc => ?_) (fun hc => ?_)
 ·rw [if_pos hc] at hF
  refine KC.skip ?_
  refine KQ.thn hQ6975 ?_
  clear hQ6975 Q6975
  refine KC.seqH fun Q6977 hQ6977 => ?_
  refine KC.block ?_
  refine KC.cut (fun a w7066 => ∃ (g7044 : Nat) (g7047 : Nat) (g7050 : Nat) (A7053 : Option Addr) (c7054 : Nat) (css7055 : List (List Value)) (Z7056 : List Nat) (A7060 : Option Addr) (c7061 : Nat) (m7045 : FM62) (m7048 : FM62) (m7051 : FM62) (m7058 : List T_model_Entry) (m7062 : List Int) (m7063 : Int) (m7064 : Int) (credits7065 : Int), Kn 149 [(0, .slice A2 (lv1).length c3), (3, .pointer (some ⟨g22, 0, none⟩)), (4, vI credits7065), (5, vI i6971)] a ∧ Mem w [] w7066 [.res [g7044] (MR62 g7044 m7045), .res [g7047] (MR62 g7047 m7048), .res [g7050] (MR62 g7050 m7051), .row A7053 c7054 47 6 (m7058).length (css7055).flatten, .res Z7056 (Els RO_model_Entry 6 m7058 css7055 Z7056), .row A7060 c7061 3 1 (m7062).length ((m7062).flatMap (eI .i64)), .box g22 65 [.map (some g7044), .map (some g7047), .map (some g7050), .slice A7053 (m7058).length c7054, .slice A7060 (m7062).length c7061, v64 m7063, v32 m7064]] ∧ F_law30_ModelOnce_j1 i6971 (F_law30_ModelOnce_L1 lv1 k6974) m7045 m7048 m7051 m7058 m7062 m7063 m7064 credits7065 = some r) ?_ ?_
  ·refine KC.cut (fun a w7041 => ∃ (g7019 : Nat) (g7022 : Nat) (g7025 : Nat) (A7028 : Option Addr) (c7029 : Nat) (css7030 : List (List Value)) (Z7031 : List Nat) (A7035 : Option Addr) (c7036 : Nat) (m7020 : FM62) (m7023 : FM62) (m7026 : FM62) (m7033 : List T_model_Entry) (m7037 : List Int) (m7038 : Int) (m7039 : Int) (t7040 : Bool), Kn 149 [(0, .slice A2 (lv1).length c3), (3, .pointer (some ⟨g22, 0, none⟩)), (4, vI credits6970), (5, vI i6971), (39, vB t7040)] a ∧ Mem w [] w7041 [.res [g7019] (MR62 g7019 m7020), .res [g7022] (MR62 g7022 m7023), .res [g7025] (MR62 g7025 m7026), .row A7028 c7029 47 6 (m7033).length (css7030).flatten, .res Z7031 (Els RO_model_Entry 6 m7033 css7030 Z7031), .row A7035 c7036 3 1 (m7037).length ((m7037).flatMap (eI .i64)), .box g22 65 [.map (some g7019), .map (some g7022), .map (some g7025), .slice A7028 (m7033).length c7029, .slice A7035 (m7037).length c7036, v64 m7038, v32 m7039]] ∧ F_law30_ModelOnce_j6 credits6970 i6971 (F_law30_ModelOnce_L1 lv1 k6974) m7020 m7023 m7026 m7033 m7037 m7038 m7039 t7040 = some r) ?_ ?_
   ·refine KC.region ?_
    refine vm rfl rfl ?_
    refine vm rfl rfl ?_
    refine vm rfl rfl ?_
    refine obindE hF fun xv6980 hx6979 hF => ?_
    obtain ⟨cs6983, hA6978, hR6981, hO6982⟩ := RdD.at hr4 hx6979
    obtain ⟨A6984, c6985, rfl, hr6986, ho6987⟩ := hR6981
    have hA6978 := hA6978.chg hM.chg hO6982
    refine RL.val (O.idxA sl22 (hA6978) rfl rfl) rfl ?_
    refine RL.val (O.loadN (cs := [vI xv6980.f_Kind, vB xv6980.f_Key.f_Src.f_Six, o8 xv6980.f_Key.f_Src.f_B 0, o8 xv6980.f_Key.f_Src.f_B 1, o8 xv6980.f_Key.f_Src.f_B 2, o8 xv6980.f_Key.f_Src.f_B 3, o8 xv6980.f_Key.f_Src.f_B 4, o8 xv6980.f_Key.f_Src.f_B 5, o8 xv6980.f_Key.f_Src.f_B 6, o8 xv6980.f_Key.f_Src.f_B 7, o8 xv6980.f_Key.f_Src.f_B 8, o8 xv6980.f_Key.f_Src.f_B 9, o8 xv6980.f_Key.f_Src.f_B 10, o8 xv6980.f_Key.f_Src.f_B 11, o8 xv6980.f_Key.f_Src.f_B 12, o8 xv6980.f_Key.f_Src.f_B 13, o8 xv6980.f_Key.f_Src.f_B 14, o8 xv6980.f_Key.f_Src.f_B 15, vB xv6980.f_Key.f_Dst.f_Six, o8 xv6980.f_Key.f_Dst.f_B 0, o8 xv6980.f_Key.f_Dst.f_B 1, o8 xv6980.f_Key.f_Dst.f_B 2, o8 xv6980.f_Key.f_Dst.f_B 3, o8 xv6980.f_Key.f_Dst.f_B 4, o8 xv6980.f_Key.f_Dst.f_B 5, o8 xv6980.f_Key.f_Dst.f_B 6, o8 xv6980.f_Key.f_Dst.f_B 7, o8 xv6980.f_Key.f_Dst.f_B 8, o8 xv6980.f_Key.f_Dst.f_B 9, o8 xv6980.f_Key.f_Dst.f_B 10, o8 xv6980.f_Key.f_Dst.f_B 11, o8 xv6980.f_Key.f_Dst.f_B 12, o8 xv6980.f_Key.f_Dst.f_B 13, o8 xv6980.f_Key.f_Dst.f_B 14, o8 xv6980.f_Key.f_Dst.f_B 15, v8 xv6980.f_Key.f_Proto, v16 xv6980.f_Key.f_SrcPort, v16 xv6980.f_Key.f_DstPort, v64 xv6980.f_Total.f_Packets, v64 xv6980.f_Total.f_Bytes, .slice A6984 (xv6980.f_Records).length c6985, v32 xv6980.f_Epoch, v64 xv6980.f_N, v64 xv6980.f_First, v64 xv6980.f_Next]) ag41 rfl (hA6978).cells) rfl ?_
    refine obindE hF fun y6988 hx6989 hF => ?_
    refine RL.call Try.func8 bd8 rfl rfl (c_model_Model_Step _ _ _ (T_model_Model.mk m6950 m6953 m6956 m6963 m6967 m6968 m6969) _ _ _ _ _ _ _ _ _ (hM.lent [6, 0, 1, 2, 3, 4, 5] rfl (by decide)) xv6980 _ _ (hM.inp hr6986 Off.nil) (hM.offI [6, 0, 1, 2, 3, 4, 5] rfl hr6986 (Off.nil)) _ hx6989) fun v w6990 hv => ?_
    obtain ⟨g6992, g6994, g6996, A6998, c6999, css7001, Z7002, A7004, c7005, rfl, hN6991⟩ := hv
    replace hM := hM.callL [6, 0, 1, 2, 3, 4, 5] [] rfl rfl (by decide) rfl hN6991
    refine RL.val (O.eql rfl rfl) rfl ?_
    refine vm rfl rfl ?_
    refine RL.bcase (t := 32) rfl (fun hc => ?_) (fun hc => ?_)
    ·rw [if_pos hc] at hF
     refine RL.gval rfl rfl (O.move rfl) rfl ?_
     refine RL.gval rfl rfl (O.move rfl) rfl ?_
     refine obindE hF fun xv7009 hx7008 hF => ?_
     obtain ⟨cs7012, hA7007, hR7010, hO7011⟩ := RdD.at hr4 hx7008
     obtain ⟨A7013, c7014, rfl, hr7015, ho7016⟩ := hR7010
     have hA7007 := hA7007.chg hM.chg hO7011
     refine RL.gval rfl rfl (O.idxA sl22 (hA7007) rfl rfl) rfl ?_
     refine RL.gval rfl rfl (O.fldA fl41_0 (by decide) rfl) rfl ?_
     refine RL.gval rfl rfl (O.load sc3 rfl (Cs.adds [0] (hA7007).cells rfl)) rfl ?_
     refine RL.gval rfl rfl (O.eql rfl rfl) rfl ?_
     refine RL.val (O.pickt rfl rfl) rfl ?_
     refine RL.nil ?_
     refine KQ.then_k ?_
     replace hM := hM.pick [1, 2, 3, 4, 5, 6, 0] rfl (by decide)
     exact fun a ha => ⟨g6992, g6994, g6996, A6998, c6999, css7001, Z7002, A7004, c7005, y6988.2.f_forwarded, y6988.2.f_cached, y6988.2.f_lost, y6988.2.f_entries, y6988.2.f_line, y6988.2.f_first, y6988.2.f_boot, (xv7009.f_Kind == 6), ha.less (less_cons rfl (less_cons rfl (less_cons rfl (less_cons rfl (less_cons rfl less_nil))))), hM, hF⟩
    rw [if_neg (ne_true hc)] at hF
    refine RL.gskip rfl rfl rfl rfl ?_
    refine RL.gskip rfl rfl rfl rfl ?_
    refine RL.gskip rfl rfl rfl rfl ?_
    refine RL.gskip rfl rfl rfl rfl ?_
    refine RL.gskip rfl rfl rfl rfl ?_
    refine RL.gskip rfl rfl rfl rfl ?_
    refine RL.val (O.pickf rfl rfl) rfl ?_
    refine RL.nil ?_
    refine KQ.then_k ?_
    replace hM := hM.pick [1, 2, 3, 4, 5, 6, 0] rfl (by decide)
    exact fun a ha => ⟨g6992, g6994, g6996, A6998, c6999, css7001, Z7002, A7004, c7005, y6988.2.f_forwarded, y6988.2.f_cached, y6988.2.f_lost, y6988.2.f_entries, y6988.2.f_line, y6988.2.f_first, y6988.2.f_boot, false, ha.less (less_cons rfl (less_cons rfl (less_cons rfl (less_cons rfl (less_cons rfl less_nil))))), hM, hF⟩
   rintro a w7041 ⟨g7019, g7022, g7025, A7028, c7029, css7030, Z7031, A7035, c7036, m7020, m7023, m7026, m7033, m7037, m7038, m7039, t7040, ha, hM, hF⟩
   refine KC.app ha ?_
   clear ha
   unfold F_law30_ModelOnce_j6 at hF
   refine KC.cond rfl (fun hc => ?_) (fun hc => ?_)
   ·rw [if_pos hc] at hF
    refine KC.region ?_
    refine vm rfl rfl ?_
    refine RL.val (O.add rfl rfl) rfl ?_
    refine va rfl rfl ?_
    refine RL.nil ?_
    refine KQ.then_k ?_
    exact fun a ha => ⟨g7019, g7022, g7025, A7028, c7029, css7030, Z7031, A7035, c7036, m7020, m7023, m7026, m7033, m7037, m7038, m7039, (IntKind.i64.wrap (credits6970 + 1)), ha.less (less_cons rfl (less_cons rfl (less_cons rfl (less_cons rfl less_nil)))), hM, hF⟩
   rw [if_neg (ne_true hc)] at hF
   refine KC.skip ?_
   refine KQ.then_k ?_
   exact fun a ha => ⟨g7019, g7022, g7025, A7028, c7029, css7030, Z7031, A7035, c7036, m7020, m7023, m7026, m7033, m7037, m7038, m7039, credits6970, ha.less (less_cons rfl (less_cons rfl (less_cons rfl (less_cons rfl less_nil)))), hM, hF⟩
  rintro a w7066 ⟨g7044, g7047, g7050, A7053, c7054, css7055, Z7056, A7060, c7061, m7045, m7048, m7051, m7058, m7062, m7063, m7064, credits7065, ha, hM, hF⟩
  refine KC.app ha ?_
  clear ha
  unfold F_law30_ModelOnce_j1 at hF
  refine sr fun Q7067 hQ7067 => ?_
  refine va rfl rfl ?_
  refine nt hQ7067 ?_
  clear hQ7067 Q7067
  refine sr fun Q7068 hQ7068 => ?_
  refine vm rfl rfl ?_
  refine obindE hF fun y7069 hx7070 hF => ?_
  refine RL.call Try.func9 bd9 rfl rfl (c_model_Model_Entries _ (T_model_Model.mk m7045 m7048 m7051 m7058 m7062 m7063 m7064) _ (hM.mapR (i := 0) rfl) _ (hM.mapR (i := 1) rfl) _ (hM.mapR (i := 2) rfl) _ _ (hM.rdD (i := 3) (j := 4) uo_model_Entry rfl rfl) _ _ (hM.rd (i := 5) rfl) _ (hM.bx (i := 6) rfl) _ hx7070) fun v w7071 hv => ?_
  obtain ⟨A7073, c7074, css7076, Z7077, rfl, hN7072⟩ := hv
  replace hM := hM.call hN7072
  refine va rfl rfl ?_
  refine nt hQ7068 ?_
  clear hQ7068 Q7068
  refine sr fun Q7079 hQ7079 => ?_
  refine vm rfl rfl ?_
  refine RL.call Try.func10 bd10 rfl rfl (c_model_Model_Keys_K _ (T_model_Model.mk m7045 m7048 m7051 m7058 m7062 m7063 m7064) _ (hM.mapR (i := 0) rfl) _ (hM.mapR (i := 1) rfl) _ (hM.mapR (i := 2) rfl) _ _ (hM.rdD (i := 3) (j := 4) uo_model_Entry rfl rfl) _ _ (hM.rd (i := 5) rfl) _ (hM.bx (i := 6) rfl) _ _ hF) fun v w7082 hv => ?_
  clear hF
  obtain ⟨y7080, A7084, c7085, hF, rfl, hN7083⟩ := hv
  try dsimp only at hF
  replace hM := hM.call hN7083
  refine va rfl rfl ?_
  refine nt hQ7079 ?_
  clear hQ7079 Q7079
  refine KC.seqH fun Q7087 hQ7087 => ?_
  refine sr fun Q7088 hQ7088 => ?_
  refine va rfl rfl ?_
  refine nt hQ7088 ?_
  clear hQ7088 Q7088
  refine KC.block ?_
  refine KC.loop (fun k7277 a w7275 => ∃ (many7270 : Int) (kv7274 : Int), Kn 149 [(0, .slice A2 (lv1).length c3), (3, .pointer (some ⟨g22, 0, none⟩)), (4, vI credits7065), (5, vI i6971), (6, vI many7270), (7, .slice A7073 (y7069).length c7074), (8, .slice A7084 (y7080).length c7085), (9, vI kv7274)] a ∧ Mem w [] w7275 [.res [g7044] (MR62 g7044 m7045), .res [g7047] (MR62 g7047 m7048), .res [g7050] (MR62 g7050 m7051), .row A7053 c7054 47 6 (m7058).length (css7055).flatten, .res Z7056 (Els RO_model_Entry 6 m7058 css7055 Z7056), .row A7060 c7061 3 1 (m7062).length ((m7062).flatMap (eI .i64)), .box g22 65 [.map (some g7044), .map (some g7047), .map (some g7050), .slice A7053 (m7058).length c7054, .slice A7060 (m7062).length c7061, v64 m7063, v32 m7064], .row A7073 c7074 47 6 (y7069).length (css7076).flatten, .res Z7077 (Els RO_model_Entry 6 y7069 css7076 Z7077), .row A7084 c7085 34 37 (y7080).length ((y7080).flatMap e_packet_Key)] ∧ F_law30_ModelOnce_L2 i6971 (F_law30_ModelOnce_L1 lv1 k6974) m7045 m7048 m7051 m7058 m7062 m7063 m7064 credits7065 y7069 y7080 k7277 many7270 kv7274 = some r) ?_ ?_
  ·exact fun a ha => ⟨fuel0, 0, 0, ha.less (less_cons rfl (less_cons rfl (less_cons rfl (less_cons rfl (less_cons rfl (less_cons rfl (less_cons rfl (less_cons rfl less_nil)))))))), hM, hF⟩
  rintro k7277 a w7275 ⟨many7270, kv7274, ha, hM, hF⟩
  refine KC.app ha ?_
  clear ha
  cases k7277 with
  | zero => exact (none_some hF).elim
  | succ k7277 =>
  have hF : F_law30_ModelOnce_l2 (F_law30_ModelOnce_L2 i6971 (F_law30_ModelOnce_L1 lv1 k6974) m7045 m7048 m7051 m7058 m7062 m7063 m7064 credits7065 y7069 y7080 k7277) i6971 (F_law30_ModelOnce_L1 lv1 k6974) m7045 m7048 m7051 m7058 m7062 m7063 m7064 credits7065 y7069 y7080 many7270 kv7274 = some r := hF
  unfold F_law30_ModelOnce_l2 at hF
  refine KC.seqH fun Q7278 hQ7278 => ?_
  refine sr fun Q7279 hQ7279 => ?_
  refine vm rfl rfl ?_
  refine vm rfl rfl ?_
  refine RL.val (O.len sl42 rfl) rfl ?_
  refine RL.val (O.lss rfl rfl) rfl ?_
  refine nt hQ7279 ?_
  clear hQ7279 Q7279
  refine KC.cond rfl (fun hc => ?_) (fun hc => ?_)
  ·rw [if_pos hc] at hF
   refine KC.skip ?_
   refine KQ.thn hQ7278 ?_
   clear hQ7278 Q7278
   refine KC.seqH fun Q7280 hQ7280 => ?_
   refine KC.block ?_
   refine KC.cut (fun a w7305 => ∃ (many7301 : Int), Kn 149 [(0, .slice A2 (lv1).length c3), (3, .pointer (some ⟨g22, 0, none⟩)), (4, vI credits7065), (5, vI i6971), (6, vI many7301), (7, .slice A7073 (y7069).length c7074), (8, .slice A7084 (y7080).length c7085), (9, vI kv7274)] a ∧ Mem w [] w7305 [.res [g7044] (MR62 g7044 m7045), .res [g7047] (MR62 g7047 m7048), .res [g7050] (MR62 g7050 m7051), .row A7053 c7054 47 6 (m7058).length (css7055).flatten, .res Z7056 (Els RO_model_Entry 6 m7058 css7055 Z7056), .row A7060 c7061 3 1 (m7062).length ((m7062).flatMap (eI .i64)), .box g22 65 [.map (some g7044), .map (some g7047), .map (some g7050), .slice A7053 (m7058).length c7054, .slice A7060 (m7062).length c7061, v64 m7063, v32 m7064], .row A7073 c7074 47 6 (y7069).length (css7076).flatten, .res Z7077 (Els RO_model_Entry 6 y7069 css7076 Z7077), .row A7084 c7085 34 37 (y7080).length ((y7080).flatMap e_packet_Key)] ∧ F_law30_ModelOnce_j2 m7045 m7048 m7051 m7058 m7062 m7063 m7064 y7069 kv7274 (F_law30_ModelOnce_L2 i6971 (F_law30_ModelOnce_L1 lv1 k6974) m7045 m7048 m7051 m7058 m7062 m7063 m7064 credits7065 y7069 y7080 k7277) many7301 = some r) ?_ ?_
   ·refine sr fun Q7281 hQ7281 => ?_
    refine vm rfl rfl ?_
    refine vm rfl rfl ?_
    refine obindE hF fun xv7284 hx7286 hF => ?_
    obtain ⟨cs7289, hA7285, hC7288, hR7287⟩ := hM.atD (i := 7) (j := 8) uo_model_Entry rfl rfl hx7286
    obtain ⟨A7290, c7291, rfl, hr7292, ho7293⟩ := hR7287
    refine RL.val (O.idxA sl42 (hA7285) rfl rfl) rfl ?_
    refine RL.val (O.fldA fl47_5 (by decide) rfl) rfl ?_
    refine RL.val (O.load sc4 rfl (Cs.adds [5] (hA7285).cells rfl)) rfl ?_
    refine nt hQ7281 ?_
    clear hQ7281 Q7281
    refine KC.cond rfl (fun hc => ?_) (fun hc => ?_)
    ·rw [if_pos hc] at hF
     refine KC.region ?_
     refine vm rfl rfl ?_
     refine RL.val (O.add rfl rfl) rfl ?_
     refine va rfl rfl ?_
     refine RL.nil ?_
     refine KQ.then_k ?_
     exact fun a ha => ⟨(IntKind.i64.wrap (many7270 + 1)), ha.less (less_cons rfl (less_cons rfl (less_cons rfl (less_cons rfl (less_cons rfl (less_cons rfl (less_cons rfl (less_cons rfl less_nil)))))))), hM, hF⟩
    rw [if_neg (ne_true hc)] at hF
    refine KC.skip ?_
    refine KQ.then_k ?_
    exact fun a ha => ⟨many7270, ha.less (less_cons rfl (less_cons rfl (less_cons rfl (less_cons rfl (less_cons rfl (less_cons rfl (less_cons rfl (less_cons rfl less_nil)))))))), hM, hF⟩
   rintro a w7305 ⟨many7301, ha, hM, hF⟩
   refine KC.app ha ?_
   clear ha
   unfold F_law30_ModelOnce_j2 at hF
   refine KC.cut (fun a w7357 => ∃ (t7356 : Bool), Kn 149 [(0, .slice A2 (lv1).length c3), (3, .pointer (some ⟨g22, 0, none⟩)), (4, vI credits7065), (5, vI i6971), (6, vI many7301), (7, .slice A7073 (y7069).length c7074), (8, .slice A7084 (y7080).length c7085), (9, vI kv7274), (81, vB t7356)] a ∧ Mem w [] w7357 [.res [g7044] (MR62 g7044 m7045), .res [g7047] (MR62 g7047 m7048), .res [g7050] (MR62 g7050 m7051), .row A7053 c7054 47 6 (m7058).length (css7055).flatten, .res Z7056 (Els RO_model_Entry 6 m7058 css7055 Z7056), .row A7060 c7061 3 1 (m7062).length ((m7062).flatMap (eI .i64)), .box g22 65 [.map (some g7044), .map (some g7047), .map (some g7050), .slice A7053 (m7058).length c7054, .slice A7060 (m7062).length c7061, v64 m7063, v32 m7064], .row A7073 c7074 47 6 (y7069).length (css7076).flatten, .res Z7077 (Els RO_model_Entry 6 y7069 css7076 Z7077), .row A7084 c7085 34 37 (y7080).length ((y7080).flatMap e_packet_Key)] ∧ F_law30_ModelOnce_j3 kv7274 (F_law30_ModelOnce_L2 i6971 (F_law30_ModelOnce_L1 lv1 k6974) m7045 m7048 m7051 m7058 m7062 m7063 m7064 credits7065 y7069 y7080 k7277) many7301 t7356 = some r) ?_ ?_
   ·replace hM := hM.drewN 1
    refine KC.draw [] [] [20] [0, 1, 3, 5, 6, 7, 9, 11, 12, 13, 14, 15, 17, 19, 21, 22] (.ofList [0, 1, 2, 3, 4, 5, 6, 7, 8, 9, 10, 11, 12, 13, 14, 15, 16, 17, 18, 19, 20, 21, 22]) moP (by kernel_rfl) ?_
    refine RD.p rfl rfl rfl rfl (fun w' => O.move rfl) ?_
    refine RD.p rfl rfl rfl rfl (fun w' => O.move rfl) ?_
    refine obindE hF fun xv7308 hx7310 hF => ?_
    obtain ⟨cs7313, hA7309, hC7312, hR7311⟩ := hM.atD (i := 7) (j := 8) uo_model_Entry rfl rfl hx7310
    obtain ⟨A7314, c7315, rfl, hr7316, ho7317⟩ := hR7311
    refine RD.q rfl rfl rfl rfl (fun w' hf => O.idxA sl42 (hA7309.fut hf) rfl rfl) ?_
    refine RD.p rfl rfl rfl rfl (fun w' => O.fldA fl47_3 (by decide) rfl) ?_
    refine RD.q rfl rfl rfl rfl (fun w' hf => O.load sc4 rfl (Cs.adds [3] (hA7309.fut hf).cells rfl)) ?_
    refine RD.p rfl rfl rfl rfl (fun w' => O.move rfl) ?_
    refine RD.bcase (t := 64) rfl (fun hc => ?_) (fun hc => ?_)
    ·rw [if_pos hc] at hF
     refine RD.gp rfl rfl rfl rfl rfl rfl (fun w' => O.move rfl) ?_
     refine RD.gp rfl rfl rfl rfl rfl rfl (fun w' => O.move rfl) ?_
     refine obindE hF fun xv7320 hx7322 hF => ?_
     obtain ⟨cs7325, hA7321, hC7324, hR7323⟩ := hM.atD (i := 7) (j := 8) uo_model_Entry rfl rfl hx7322
     obtain ⟨A7326, c7327, rfl, hr7328, ho7329⟩ := hR7323
     refine RD.gq rfl rfl rfl rfl rfl rfl (fun w' hf => O.idxA sl42 (hA7321.fut hf) rfl rfl) ?_
     refine RD.gp rfl rfl rfl rfl rfl rfl (fun w' => O.fldA fl47_4 (by decide) rfl) ?_
     refine RD.gq rfl rfl rfl rfl rfl rfl (fun w' hf => O.load sc4 rfl (Cs.adds [4] (hA7321.fut hf).cells rfl)) ?_
     refine RD.gp rfl rfl rfl rfl rfl rfl (fun w' => O.not rfl) ?_
     refine RD.p rfl rfl rfl rfl (fun w' => O.pickt rfl rfl) ?_
     refine RD.p rfl rfl rfl rfl (fun w' => O.move rfl) ?_
     refine RD.bcase (t := 72) rfl (fun hc => ?_) (fun hc => ?_)
     ·rw [if_pos hc] at hF
      refine RD.gp rfl rfl rfl rfl rfl rfl (fun w' => O.move rfl) ?_
      refine RD.gp rfl rfl rfl rfl rfl rfl (fun w' => O.move rfl) ?_
      refine obindE hF fun xv7332 hx7334 hF => ?_
      obtain ⟨cs7337, hA7333, hC7336, hR7335⟩ := hM.atD (i := 7) (j := 8) uo_model_Entry rfl rfl hx7334
      obtain ⟨A7338, c7339, rfl, hr7340, ho7341⟩ := hR7335
      refine RD.gq rfl rfl rfl rfl rfl rfl (fun w' hf => O.idxA sl42 (hA7333.fut hf) rfl rfl) ?_
      refine RD.gp rfl rfl rfl rfl rfl rfl (fun w' => O.fldA fl47_0 (by decide) rfl) ?_
      refine RD.gq rfl rfl rfl rfl rfl rfl (fun w' hf => O.load sc39 rfl (Cs.adds [0] (hA7333.fut hf).cells rfl)) ?_
      refine RD.gp rfl rfl rfl rfl rfl rfl (fun w' => O.move rfl) ?_
      refine obindE hF fun y7342 hx7343 hF => ?_
      refine RD.mcall rfl rfl ⟨rfl, rfl⟩ Try.func11 bd11 rfl rfl (c_model_Model_Boot _ (T_model_Model.mk m7045 m7048 m7051 m7058 m7062 m7063 m7064) _ (hM.mapR (i := 0) rfl) _ (hM.mapR (i := 1) rfl) _ (hM.mapR (i := 2) rfl) _ _ (hM.rdD (i := 3) (j := 4) uo_model_Entry rfl rfl) _ _ (hM.rd (i := 5) rfl) _ (hM.bx (i := 6) rfl) _ hx7343) fun v w7344 hv => ?_
      obtain ⟨rfl, hN7345⟩ := hv
      refine ⟨fun _ => hN7345.fut, ?_⟩
      have hr7316 := hr7316.fut hN7345.fut
      have hr7328 := hr7328.fut hN7345.fut
      have hr7340 := hr7340.fut hN7345.fut
      replace hM := hM.call0 hN7345
      refine RD.gp rfl rfl rfl rfl rfl rfl (fun w' => O.neq rfl rfl) ?_
      refine RD.p rfl rfl rfl rfl (fun w' => O.pickt rfl rfl) ?_
      refine RD.nil ?_
      refine KQ.then_k ?_
      exact fun a ha => ⟨(xv7332.f_Epoch != y7342), ha.less (less_cons rfl (less_cons rfl (less_cons rfl (less_cons rfl (less_cons rfl (less_cons rfl (less_cons rfl (less_cons rfl (less_cons rfl less_nil))))))))), hM, hF⟩
     rw [if_neg (ne_true hc)] at hF
     refine RD.gskip rfl rfl rfl rfl rfl ?_
     refine RD.gskip rfl rfl rfl rfl rfl ?_
     refine RD.gskip rfl rfl rfl rfl rfl ?_
     refine RD.gskip rfl rfl rfl rfl rfl ?_
     refine RD.gskip rfl rfl rfl rfl rfl ?_
     refine RD.gskip rfl rfl rfl rfl rfl ?_
     refine RD.gskip rfl rfl rfl rfl rfl ?_
     refine RD.gskip rfl rfl rfl rfl rfl ?_
     refine RD.p rfl rfl rfl rfl (fun w' => O.pickf rfl rfl) ?_
     refine RD.nil ?_
     refine KQ.then_k ?_
     exact fun a ha => ⟨false, ha.less (less_cons rfl (less_cons rfl (less_cons rfl (less_cons rfl (less_cons rfl (less_cons rfl (less_cons rfl (less_cons rfl (less_cons rfl less_nil))))))))), hM, hF⟩
    rw [if_neg (ne_true hc)] at hF
    refine RD.gskip rfl rfl rfl rfl rfl ?_
    refine RD.gskip rfl rfl rfl rfl rfl ?_
    refine RD.gskip rfl rfl rfl rfl rfl ?_
    refine RD.gskip rfl rfl rfl rfl rfl ?_
    refine RD.gskip rfl rfl rfl rfl rfl ?_
    refine RD.gskip rfl rfl rfl rfl rfl ?_
    refine RD.p rfl rfl rfl rfl (fun w' => O.pickf rfl rfl) ?_
    refine RD.p rfl rfl rfl rfl (fun w' => O.move rfl) ?_
    refine RD.gskip rfl rfl rfl rfl rfl ?_
    refine RD.gskip rfl rfl rfl rfl rfl ?_
    refine RD.gskip rfl rfl rfl rfl rfl ?_
    refine RD.gskip rfl rfl rfl rfl rfl ?_
    refine RD.gskip rfl rfl rfl rfl rfl ?_
    refine RD.gskip rfl rfl rfl rfl rfl ?_
    refine RD.gskip rfl rfl rfl rfl rfl ?_
    refine RD.gskip rfl rfl rfl rfl rfl ?_
    refine RD.p rfl rfl rfl rfl (fun w' => O.pickf rfl rfl) ?_
    refine RD.nil ?_
    refine KQ.then_k ?_
    exact fun a ha => ⟨false, ha.less (less_cons rfl (less_cons rfl (less_cons rfl (less_cons rfl (less_cons rfl (less_cons rfl (less_cons rfl (less_cons rfl (less_cons rfl less_nil))))))))), hM, hF⟩
   rintro a w7357 ⟨t7356, ha, hM, hF⟩
   refine KC.app ha ?_
   clear ha
   unfold F_law30_ModelOnce_j3 at hF
   refine KC.cond rfl (fun hc => ?_) (fun hc => ?_)
   ·rw [if_pos hc] at hF
    refine sr fun Q7358 hQ7358 => ?_
    refine va rfl rfl ?_
    refine nt hQ7358 ?_
    clear hQ7358 Q7358
    refine KC.ret ?_
    refine KQ.blk_r ?_
    refine KQ.thr hQ7280 ?_
    clear hQ7280 Q7280
    refine KQ.then_r ?_
    refine KQ.blk_r ?_
    refine KQ.thr hQ7087 ?_
    clear hQ7087 Q7087
    refine KQ.blk_r ?_
    refine KQ.thr hQ6977 ?_
    clear hQ6977 Q6977
    refine KQ.then_r ?_
    refine KQ.blk_r ?_
    refine KQ.thr hQ40 ?_
    clear hQ40 Q40
    have hE := Option.some.inj hF
    clear hF
    subst hE
    replace hM := hM.pick [] rfl (by decide)
    refine KQ.rets Try.results3 (RVs.cons (RV.tm rfl) RVs.nil) ?_
    exact ⟨_, rfl, rfl, hM⟩
   rw [if_neg (ne_true hc)] at hF
   refine KC.skip ?_
   refine KQ.blk_n ?_
   refine KQ.thn hQ7280 ?_
   clear hQ7280 Q7280
   refine KC.region ?_
   refine vm rfl rfl ?_
   refine RL.val (O.add rfl rfl) rfl ?_
   refine va rfl rfl ?_
   refine RL.nil ?_
   refine KQ.then_k ?_
   exact fun a ha => ⟨k7277, Nat.lt_succ_self k7277, many7301, (IntKind.i64.wrap (kv7274 + 1)), ha.less (less_cons rfl (less_cons rfl (less_cons rfl (less_cons rfl (less_cons rfl (less_cons rfl (less_cons rfl (less_cons rfl less_nil)))))))), hM, hF⟩
  rw [if_neg (ne_true hc)] at hF
  refine KC.exit ?_
  refine KQ.thx hQ7278 ?_
  clear hQ7278 Q7278
  refine KQ.then_x ?_
  refine KQ.blk_x ?_
  refine KQ.thn hQ7087 ?_
  clear hQ7087 Q7087
  refine KC.seqH fun Q7359 hQ7359 => ?_
  refine sr fun Q7360 hQ7360 => ?_
  refine va rfl rfl ?_
  refine nt hQ7360 ?_
  clear hQ7360 Q7360
  refine KC.block ?_
  refine KC.loop (fun k9403 a w9401 => ∃ (kv9400 : Int), Kn 149 [(0, .slice A2 (lv1).length c3), (3, .pointer (some ⟨g22, 0, none⟩)), (4, vI credits7065), (5, vI i6971), (6, vI many7270), (7, .slice A7073 (y7069).length c7074), (8, .slice A7084 (y7080).length c7085), (10, vI kv9400)] a ∧ Mem w [] w9401 [.res [g7044] (MR62 g7044 m7045), .res [g7047] (MR62 g7047 m7048), .res [g7050] (MR62 g7050 m7051), .row A7053 c7054 47 6 (m7058).length (css7055).flatten, .res Z7056 (Els RO_model_Entry 6 m7058 css7055 Z7056), .row A7060 c7061 3 1 (m7062).length ((m7062).flatMap (eI .i64)), .box g22 65 [.map (some g7044), .map (some g7047), .map (some g7050), .slice A7053 (m7058).length c7054, .slice A7060 (m7062).length c7061, v64 m7063, v32 m7064], .row A7073 c7074 47 6 (y7069).length (css7076).flatten, .res Z7077 (Els RO_model_Entry 6 y7069 css7076 Z7077), .row A7084 c7085 34 37 (y7080).length ((y7080).flatMap e_packet_Key)] ∧ F_law30_ModelOnce_L3 i6971 (F_law30_ModelOnce_L1 lv1 k6974) m7045 m7048 m7051 m7058 m7062 m7063 m7064 credits7065 y7069 y7080 many7270 k9403 kv9400 = some r) ?_ ?_
  ·exact fun a ha => ⟨fuel0, 0, ha.less (less_cons rfl (less_cons rfl (less_cons rfl (less_cons rfl (less_cons rfl (less_cons rfl (less_cons rfl (less_cons rfl less_nil)))))))), hM, hF⟩
  rintro k9403 a w9401 ⟨kv9400, ha, hM, hF⟩
  refine KC.app ha ?_
  clear ha
  cases k9403 with
  | zero => exact (none_some hF).elim
  | succ k9403 =>
  have hF : F_law30_ModelOnce_l3 (F_law30_ModelOnce_L3 i6971 (F_law30_ModelOnce_L1 lv1 k6974) m7045 m7048 m7051 m7058 m7062 m7063 m7064 credits7065 y7069 y7080 many7270 k9403) i6971 (F_law30_ModelOnce_L1 lv1 k6974) m7045 m7048 m7051 m7058 m7062 m7063 m7064 credits7065 y7069 y7080 many7270 kv9400 = some r := hF
  unfold F_law30_ModelOnce_l3 at hF
  refine KC.seqH fun Q9404 hQ9404 => ?_
  refine sr fun Q9405 hQ9405 => ?_
  refine vm rfl rfl ?_
  refine vm rfl rfl ?_
  refine RL.val (O.len sl44 rfl) rfl ?_
  refine RL.val (O.lss rfl rfl) rfl ?_
  refine nt hQ9405 ?_
  clear hQ9405 Q9405
  refine KC.cond rfl (fun hc => ?_) (fun hc => ?_)
  ·rw [if_pos hc] at hF
   refine KC.skip ?_
   refine KQ.thn hQ9404 ?_
   clear hQ9404 Q9404
   refine KC.seqH fun Q9406 hQ9406 => ?_
   refine KC.block ?_
   refine sr fun Q9407 hQ9407 => ?_
   refine RL.eff (E.alloc hM ze37) rfl fun v w9409 hv => ?_
   clear hM
   obtain ⟨g9408, rfl, hM, hf⟩ := hv
   refine nt hQ9407 ?_
   clear hQ9407 Q9407
   refine KC.seqH fun Q9411 hQ9411 => ?_
   refine sr fun Q9412 hQ9412 => ?_
   refine va rfl rfl ?_
   refine nt hQ9412 ?_
   clear hQ9412 Q9412
   refine KC.block ?_
   refine KC.loop (fun k10083 a w10081 => ∃ (sum10078 : Int) (sum10079 : Int) (q10080 : Int), Kn 149 [(0, .slice A2 (lv1).length c3), (3, .pointer (some ⟨g22, 0, none⟩)), (4, vI credits7065), (5, vI i6971), (6, vI many7270), (7, .slice A7073 (y7069).length c7074), (8, .slice A7084 (y7080).length c7085), (10, vI kv9400), (11, .pointer (some ⟨g9408, 0, none⟩)), (12, vI q10080)] a ∧ Mem w [] w10081 [.res [g7044] (MR62 g7044 m7045), .res [g7047] (MR62 g7047 m7048), .res [g7050] (MR62 g7050 m7051), .row A7053 c7054 47 6 (m7058).length (css7055).flatten, .res Z7056 (Els RO_model_Entry 6 m7058 css7055 Z7056), .row A7060 c7061 3 1 (m7062).length ((m7062).flatMap (eI .i64)), .box g22 65 [.map (some g7044), .map (some g7047), .map (some g7050), .slice A7053 (m7058).length c7054, .slice A7060 (m7062).length c7061, v64 m7063, v32 m7064], .row A7073 c7074 47 6 (y7069).length (css7076).flatten, .res Z7077 (Els RO_model_Entry 6 y7069 css7076 Z7077), .row A7084 c7085 34 37 (y7080).length ((y7080).flatMap e_packet_Key), .box g9408 37 [v64 sum10078, v64 sum10079]] ∧ F_law30_ModelOnce_L4 m7045 m7048 m7051 m7058 m7062 m7063 m7064 y7069 y7080 kv9400 (F_law30_ModelOnce_L3 i6971 (F_law30_ModelOnce_L1 lv1 k6974) m7045 m7048 m7051 m7058 m7062 m7063 m7064 credits7065 y7069 y7080 many7270 k9403) k10083 sum10078 sum10079 q10080 = some r) ?_ ?_
   ·exact fun a ha => ⟨fuel0, 0, 0, 0, ha.less (less_cons rfl (less_cons rfl (less_cons rfl (less_cons rfl (less_cons rfl (less_cons rfl (less_cons rfl (less_cons rfl (less_cons rfl (less_cons rfl less_nil)))))))))), hM, hF⟩
   rintro k10083 a w10081 ⟨sum10078, sum10079, q10080, ha, hM, hF⟩
   refine KC.app ha ?_
   clear ha
   cases k10083 with
   | zero => exact (none_some hF).elim
   | succ k10083 =>
   have hF : F_law30_ModelOnce_l4 (F_law30_ModelOnce_L4 m7045 m7048 m7051 m7058 m7062 m7063 m7064 y7069 y7080 kv9400 (F_law30_ModelOnce_L3 i6971 (F_law30_ModelOnce_L1 lv1 k6974) m7045 m7048 m7051 m7058 m7062 m7063 m7064 credits7065 y7069 y7080 many7270 k9403) k10083) m7045 m7048 m7051 m7058 m7062 m7063 m7064 y7069 y7080 kv9400 (F_law30_ModelOnce_L3 i6971 (F_law30_ModelOnce_L1 lv1 k6974) m7045 m7048 m7051 m7058 m7062 m7063 m7064 credits7065 y7069 y7080 many7270 k9403) sum10078 sum10079 q10080 = some r := hF
   unfold F_law30_ModelOnce_l4 at hF
   refine KC.seqH fun Q10084 hQ10084 => ?_
   refine sr fun Q10085 hQ10085 => ?_
   refine vm rfl rfl ?_
   refine vm rfl rfl ?_
   refine RL.val (O.len sl42 rfl) rfl ?_
   refine RL.val (O.lss rfl rfl) rfl ?_
   refine nt hQ10085 ?_
   clear hQ10085 Q10085
   refine KC.cond rfl (fun hc => ?_) (fun hc => ?_)
   ·rw [if_pos hc] at hF
    refine KC.skip ?_
    refine KQ.thn hQ10084 ?_
    clear hQ10084 Q10084
    refine KC.seqH fun Q10086 hQ10086 => ?_
    refine KC.block ?_
    refine sr fun Q10087 hQ10087 => ?_
    refine va rfl rfl ?_
    refine nt hQ10087 ?_
    clear hQ10087 Q10087
    refine KC.block ?_
    refine KC.loop (fun k10308 a w10306 => ∃ (sum10303 : Int) (sum10304 : Int) (nv10305 : Int), Kn 149 [(0, .slice A2 (lv1).length c3), (3, .pointer (some ⟨g22, 0, none⟩)), (4, vI credits7065), (5, vI i6971), (6, vI many7270), (7, .slice A7073 (y7069).length c7074), (8, .slice A7084 (y7080).length c7085), (10, vI kv9400), (11, .pointer (some ⟨g9408, 0, none⟩)), (12, vI q10080), (13, vI nv10305)] a ∧ Mem w [] w10306 [.res [g7044] (MR62 g7044 m7045), .res [g7047] (MR62 g7047 m7048), .res [g7050] (MR62 g7050 m7051), .row A7053 c7054 47 6 (m7058).length (css7055).flatten, .res Z7056 (Els RO_model_Entry 6 m7058 css7055 Z7056), .row A7060 c7061 3 1 (m7062).length ((m7062).flatMap (eI .i64)), .box g22 65 [.map (some g7044), .map (some g7047), .map (some g7050), .slice A7053 (m7058).length c7054, .slice A7060 (m7062).length c7061, v64 m7063, v32 m7064], .row A7073 c7074 47 6 (y7069).length (css7076).flatten, .res Z7077 (Els RO_model_Entry 6 y7069 css7076 Z7077), .row A7084 c7085 34 37 (y7080).length ((y7080).flatMap e_packet_Key), .box g9408 37 [v64 sum10303, v64 sum10304]] ∧ F_law30_ModelOnce_L5 y7069 y7080 kv9400 q10080 (F_law30_ModelOnce_L4 m7045 m7048 m7051 m7058 m7062 m7063 m7064 y7069 y7080 kv9400 (F_law30_ModelOnce_L3 i6971 (F_law30_ModelOnce_L1 lv1 k6974) m7045 m7048 m7051 m7058 m7062 m7063 m7064 credits7065 y7069 y7080 many7270 k9403) k10083) k10308 sum10303 sum10304 nv10305 = some r) ?_ ?_
    ·exact fun a ha => ⟨fuel0, sum10078, sum10079, 0, ha.less (less_cons rfl (less_cons rfl (less_cons rfl (less_cons rfl (less_cons rfl (less_cons rfl (less_cons rfl (less_cons rfl (less_cons rfl (less_cons rfl (less_cons rfl less_nil))))))))))), hM, hF⟩
    rintro k10308 a w10306 ⟨sum10303, sum10304, nv10305, ha, hM, hF⟩
    refine KC.app ha ?_
    clear ha
    cases k10308 with
    | zero => exact (none_some hF).elim
    | succ k10308 =>
    have hF : F_law30_ModelOnce_l5 (F_law30_ModelOnce_L5 y7069 y7080 kv9400 q10080 (F_law30_ModelOnce_L4 m7045 m7048 m7051 m7058 m7062 m7063 m7064 y7069 y7080 kv9400 (F_law30_ModelOnce_L3 i6971 (F_law30_ModelOnce_L1 lv1 k6974) m7045 m7048 m7051 m7058 m7062 m7063 m7064 credits7065 y7069 y7080 many7270 k9403) k10083) k10308) y7069 y7080 kv9400 q10080 (F_law30_ModelOnce_L4 m7045 m7048 m7051 m7058 m7062 m7063 m7064 y7069 y7080 kv9400 (F_law30_ModelOnce_L3 i6971 (F_law30_ModelOnce_L1 lv1 k6974) m7045 m7048 m7051 m7058 m7062 m7063 m7064 credits7065 y7069 y7080 many7270 k9403) k10083) sum10303 sum10304 nv10305 = some r := hF
    unfold F_law30_ModelOnce_l5 at hF
    refine KC.seqH fun Q10309 hQ10309 => ?_
    refine KC.cut (fun a w10346 => ∃ (t10345 : Bool), Kn 149 [(0, .slice A2 (lv1).length c3), (3, .pointer (some ⟨g22, 0, none⟩)), (4, vI credits7065), (5, vI i6971), (6, vI many7270), (7, .slice A7073 (y7069).length c7074), (8, .slice A7084 (y7080).length c7085), (10, vI kv9400), (11, .pointer (some ⟨g9408, 0, none⟩)), (12, vI q10080), (13, vI nv10305), (108, vB t10345)] a ∧ Mem w [] w10346 [.res [g7044] (MR62 g7044 m7045), .res [g7047] (MR62 g7047 m7048), .res [g7050] (MR62 g7050 m7051), .row A7053 c7054 47 6 (m7058).length (css7055).flatten, .res Z7056 (Els RO_model_Entry 6 m7058 css7055 Z7056), .row A7060 c7061 3 1 (m7062).length ((m7062).flatMap (eI .i64)), .box g22 65 [.map (some g7044), .map (some g7047), .map (some g7050), .slice A7053 (m7058).length c7054, .slice A7060 (m7062).length c7061, v64 m7063, v32 m7064], .row A7073 c7074 47 6 (y7069).length (css7076).flatten, .res Z7077 (Els RO_model_Entry 6 y7069 css7076 Z7077), .row A7084 c7085 34 37 (y7080).length ((y7080).flatMap e_packet_Key), .box g9408 37 [v64 sum10303, v64 sum10304]] ∧ F_law30_ModelOnce_j4 y7069 y7080 kv9400 q10080 (F_law30_ModelOnce_L4 m7045 m7048 m7051 m7058 m7062 m7063 m7064 y7069 y7080 kv9400 (F_law30_ModelOnce_L3 i6971 (F_law30_ModelOnce_L1 lv1 k6974) m7045 m7048 m7051 m7058 m7062 m7063 m7064 credits7065 y7069 y7080 many7270 k9403) k10083) sum10303 sum10304 nv10305 (F_law30_ModelOnce_L5 y7069 y7080 kv9400 q10080 (F_law30_ModelOnce_L4 m7045 m7048 m7051 m7058 m7062 m7063 m7064 y7069 y7080 kv9400 (F_law30_ModelOnce_L3 i6971 (F_law30_ModelOnce_L1 lv1 k6974) m7045 m7048 m7051 m7058 m7062 m7063 m7064 credits7065 y7069 y7080 many7270 k9403) k10083) k10308) t10345 = some r) ?_ ?_
    ·refine KC.region ?_
     refine vm rfl rfl ?_
     refine vm rfl rfl ?_
     refine vm rfl rfl ?_
     refine obindE hF fun xv10312 hx10314 hF => ?_
     obtain ⟨cs10317, hA10313, hC10316, hR10315⟩ := hM.atD (i := 7) (j := 8) uo_model_Entry rfl rfl hx10314
     obtain ⟨A10318, c10319, rfl, hr10320, ho10321⟩ := hR10315
     refine RL.val (O.idxA sl42 (hA10313) rfl rfl) rfl ?_
     refine RL.val (O.fldA fl47_2 (by decide) rfl) rfl ?_
     refine RL.val (O.load sc38 rfl (Cs.adds [2] (hA10313).cells rfl)) rfl ?_
     refine RL.val (O.len sl38 rfl) rfl ?_
     refine RL.val (O.lss rfl rfl) rfl ?_
     refine vm rfl rfl ?_
     refine RL.bcase (t := 102) rfl (fun hc => ?_) (fun hc => ?_)
     ·rw [if_pos hc] at hF
      refine RL.gval rfl rfl (O.move rfl) rfl ?_
      refine RL.gval rfl rfl (O.move rfl) rfl ?_
      refine obindE hF fun xv10324 hx10326 hF => ?_
      obtain ⟨cs10329, hA10325, hC10328, hR10327⟩ := hM.atD (i := 7) (j := 8) uo_model_Entry rfl rfl hx10326
      obtain ⟨A10330, c10331, rfl, hr10332, ho10333⟩ := hR10327
      refine RL.gval rfl rfl (O.idxA sl42 (hA10325) rfl rfl) rfl ?_
      refine RL.gval rfl rfl (O.fldA fl47_5 (by decide) rfl) rfl ?_
      refine RL.gval rfl rfl (O.load sc4 rfl (Cs.adds [5] (hA10325).cells rfl)) rfl ?_
      refine RL.val (O.pickt rfl rfl) rfl ?_
      refine RL.nil ?_
      refine KQ.then_k ?_
      exact fun a ha => ⟨xv10324.f_Credited, ha.less (less_cons rfl (less_cons rfl (less_cons rfl (less_cons rfl (less_cons rfl (less_cons rfl (less_cons rfl (less_cons rfl (less_cons rfl (less_cons rfl (less_cons rfl (less_cons rfl less_nil)))))))))))), hM, hF⟩
     rw [if_neg (ne_true hc)] at hF
     refine RL.gskip rfl rfl rfl rfl ?_
     refine RL.gskip rfl rfl rfl rfl ?_
     refine RL.gskip rfl rfl rfl rfl ?_
     refine RL.gskip rfl rfl rfl rfl ?_
     refine RL.gskip rfl rfl rfl rfl ?_
     refine RL.val (O.pickf rfl rfl) rfl ?_
     refine RL.nil ?_
     refine KQ.then_k ?_
     exact fun a ha => ⟨false, ha.less (less_cons rfl (less_cons rfl (less_cons rfl (less_cons rfl (less_cons rfl (less_cons rfl (less_cons rfl (less_cons rfl (less_cons rfl (less_cons rfl (less_cons rfl (less_cons rfl less_nil)))))))))))), hM, hF⟩
    rintro a w10346 ⟨t10345, ha, hM, hF⟩
    refine KC.app ha ?_
    clear ha
    unfold F_law30_ModelOnce_j4 at hF
    refine KC.cond rfl (fun hc => ?_) (fun hc => ?_)
    ·rw [if_pos hc] at hF
     refine KC.skip ?_
     refine KQ.thn hQ10309 ?_
     clear hQ10309 Q10309
     refine KC.cut (fun a w10403 => ∃ (sum10401 : Int) (sum10402 : Int), Kn 149 [(0, .slice A2 (lv1).length c3), (3, .pointer (some ⟨g22, 0, none⟩)), (4, vI credits7065), (5, vI i6971), (6, vI many7270), (7, .slice A7073 (y7069).length c7074), (8, .slice A7084 (y7080).length c7085), (10, vI kv9400), (11, .pointer (some ⟨g9408, 0, none⟩)), (12, vI q10080), (13, vI nv10305)] a ∧ Mem w [] w10403 [.res [g7044] (MR62 g7044 m7045), .res [g7047] (MR62 g7047 m7048), .res [g7050] (MR62 g7050 m7051), .row A7053 c7054 47 6 (m7058).length (css7055).flatten, .res Z7056 (Els RO_model_Entry 6 m7058 css7055 Z7056), .row A7060 c7061 3 1 (m7062).length ((m7062).flatMap (eI .i64)), .box g22 65 [.map (some g7044), .map (some g7047), .map (some g7050), .slice A7053 (m7058).length c7054, .slice A7060 (m7062).length c7061, v64 m7063, v32 m7064], .row A7073 c7074 47 6 (y7069).length (css7076).flatten, .res Z7077 (Els RO_model_Entry 6 y7069 css7076 Z7077), .row A7084 c7085 34 37 (y7080).length ((y7080).flatMap e_packet_Key), .box g9408 37 [v64 sum10401, v64 sum10402]] ∧ F_law30_ModelOnce_j5 nv10305 (F_law30_ModelOnce_L5 y7069 y7080 kv9400 q10080 (F_law30_ModelOnce_L4 m7045 m7048 m7051 m7058 m7062 m7063 m7064 y7069 y7080 kv9400 (F_law30_ModelOnce_L3 i6971 (F_law30_ModelOnce_L1 lv1 k6974) m7045 m7048 m7051 m7058 m7062 m7063 m7064 credits7065 y7069 y7080 many7270 k9403) k10083) k10308) sum10401 sum10402 = some r) ?_ ?_
     ·refine KC.block ?_
      refine KC.seqH fun Q10347 hQ10347 => ?_
      replace hM := hM.drewN 1
      refine KC.draw [] [] [] [0, 1, 3, 5, 7, 9, 10, 13] (.ofList [0, 1, 2, 3, 4, 5, 6, 7, 8, 9, 10, 11, 12, 13]) moP (by kernel_rfl) ?_
      refine RD.p rfl rfl rfl rfl (fun w' => O.move rfl) ?_
      refine RD.p rfl rfl rfl rfl (fun w' => O.move rfl) ?_
      refine obindE hF fun xv10350 hx10352 hF => ?_
      obtain ⟨cs10355, hA10351, hC10354, hR10353⟩ := hM.atD (i := 7) (j := 8) uo_model_Entry rfl rfl hx10352
      obtain ⟨A10356, c10357, rfl, hr10358, ho10359⟩ := hR10353
      refine RD.q rfl rfl rfl rfl (fun w' hf => O.idxA sl42 (hA10351.fut hf) rfl rfl) ?_
      refine RD.p rfl rfl rfl rfl (fun w' => O.fldA fl47_2 (by decide) rfl) ?_
      refine RD.q rfl rfl rfl rfl (fun w' hf => O.load sc38 rfl (Cs.adds [2] (hA10351.fut hf).cells rfl)) ?_
      refine RD.p rfl rfl rfl rfl (fun w' => O.move rfl) ?_
      refine obindE hF fun xv10362 hx10361 hF => ?_
      have hA10360 := Rd.atN (f := e_flow_Record) (s := 44) (fun _ => rfl) (by decide) hr10358 hx10361
      refine RD.q rfl rfl rfl rfl (fun w' hf => O.idxA sl38 (hA10360.fut hf) rfl rfl) ?_
      refine RD.p rfl rfl rfl rfl (fun w' => O.fldA fl50_0 (by decide) rfl) ?_
      refine RD.q rfl rfl rfl rfl (fun w' hf => O.loadN (cs := [vB xv10362.f_Key.f_Src.f_Six, o8 xv10362.f_Key.f_Src.f_B 0, o8 xv10362.f_Key.f_Src.f_B 1, o8 xv10362.f_Key.f_Src.f_B 2, o8 xv10362.f_Key.f_Src.f_B 3, o8 xv10362.f_Key.f_Src.f_B 4, o8 xv10362.f_Key.f_Src.f_B 5, o8 xv10362.f_Key.f_Src.f_B 6, o8 xv10362.f_Key.f_Src.f_B 7, o8 xv10362.f_Key.f_Src.f_B 8, o8 xv10362.f_Key.f_Src.f_B 9, o8 xv10362.f_Key.f_Src.f_B 10, o8 xv10362.f_Key.f_Src.f_B 11, o8 xv10362.f_Key.f_Src.f_B 12, o8 xv10362.f_Key.f_Src.f_B 13, o8 xv10362.f_Key.f_Src.f_B 14, o8 xv10362.f_Key.f_Src.f_B 15, vB xv10362.f_Key.f_Dst.f_Six, o8 xv10362.f_Key.f_Dst.f_B 0, o8 xv10362.f_Key.f_Dst.f_B 1, o8 xv10362.f_Key.f_Dst.f_B 2, o8 xv10362.f_Key.f_Dst.f_B 3, o8 xv10362.f_Key.f_Dst.f_B 4, o8 xv10362.f_Key.f_Dst.f_B 5, o8 xv10362.f_Key.f_Dst.f_B 6, o8 xv10362.f_Key.f_Dst.f_B 7, o8 xv10362.f_Key.f_Dst.f_B 8, o8 xv10362.f_Key.f_Dst.f_B 9, o8 xv10362.f_Key.f_Dst.f_B 10, o8 xv10362.f_Key.f_Dst.f_B 11, o8 xv10362.f_Key.f_Dst.f_B 12, o8 xv10362.f_Key.f_Dst.f_B 13, o8 xv10362.f_Key.f_Dst.f_B 14, o8 xv10362.f_Key.f_Dst.f_B 15, v8 xv10362.f_Key.f_Proto, v16 xv10362.f_Key.f_SrcPort, v16 xv10362.f_Key.f_DstPort]) ag34 rfl (Cs.addsN [0] (hA10360.fut hf).cells rfl)) ?_
      refine RD.p rfl rfl rfl rfl (fun w' => O.move rfl) ?_
      refine RD.p rfl rfl rfl rfl (fun w' => O.move rfl) ?_
      refine obindE hF fun xv10365 hx10364 hF => ?_
      have hA10363 := Rd.atN (f := e_packet_Key) (s := 37) (fun _ => rfl) (by decide) (hM.rd (i := 9) rfl) hx10364
      refine RD.q rfl rfl rfl rfl (fun w' hf => O.idxA sl44 (hA10363.fut hf) rfl rfl) ?_
      refine RD.q rfl rfl rfl rfl (fun w' hf => O.loadN (cs := [vB xv10365.f_Src.f_Six, o8 xv10365.f_Src.f_B 0, o8 xv10365.f_Src.f_B 1, o8 xv10365.f_Src.f_B 2, o8 xv10365.f_Src.f_B 3, o8 xv10365.f_Src.f_B 4, o8 xv10365.f_Src.f_B 5, o8 xv10365.f_Src.f_B 6, o8 xv10365.f_Src.f_B 7, o8 xv10365.f_Src.f_B 8, o8 xv10365.f_Src.f_B 9, o8 xv10365.f_Src.f_B 10, o8 xv10365.f_Src.f_B 11, o8 xv10365.f_Src.f_B 12, o8 xv10365.f_Src.f_B 13, o8 xv10365.f_Src.f_B 14, o8 xv10365.f_Src.f_B 15, vB xv10365.f_Dst.f_Six, o8 xv10365.f_Dst.f_B 0, o8 xv10365.f_Dst.f_B 1, o8 xv10365.f_Dst.f_B 2, o8 xv10365.f_Dst.f_B 3, o8 xv10365.f_Dst.f_B 4, o8 xv10365.f_Dst.f_B 5, o8 xv10365.f_Dst.f_B 6, o8 xv10365.f_Dst.f_B 7, o8 xv10365.f_Dst.f_B 8, o8 xv10365.f_Dst.f_B 9, o8 xv10365.f_Dst.f_B 10, o8 xv10365.f_Dst.f_B 11, o8 xv10365.f_Dst.f_B 12, o8 xv10365.f_Dst.f_B 13, o8 xv10365.f_Dst.f_B 14, o8 xv10365.f_Dst.f_B 15, v8 xv10365.f_Proto, v16 xv10365.f_SrcPort, v16 xv10365.f_DstPort]) ag34 rfl (hA10363.fut hf).cells) ?_
      refine RD.p rfl rfl rfl rfl (fun w' => O.steq (cs := [vB xv10362.f_Key.f_Src.f_Six, o8 xv10362.f_Key.f_Src.f_B 0, o8 xv10362.f_Key.f_Src.f_B 1, o8 xv10362.f_Key.f_Src.f_B 2, o8 xv10362.f_Key.f_Src.f_B 3, o8 xv10362.f_Key.f_Src.f_B 4, o8 xv10362.f_Key.f_Src.f_B 5, o8 xv10362.f_Key.f_Src.f_B 6, o8 xv10362.f_Key.f_Src.f_B 7, o8 xv10362.f_Key.f_Src.f_B 8, o8 xv10362.f_Key.f_Src.f_B 9, o8 xv10362.f_Key.f_Src.f_B 10, o8 xv10362.f_Key.f_Src.f_B 11, o8 xv10362.f_Key.f_Src.f_B 12, o8 xv10362.f_Key.f_Src.f_B 13, o8 xv10362.f_Key.f_Src.f_B 14, o8 xv10362.f_Key.f_Src.f_B 15, vB xv10362.f_Key.f_Dst.f_Six, o8 xv10362.f_Key.f_Dst.f_B 0, o8 xv10362.f_Key.f_Dst.f_B 1, o8 xv10362.f_Key.f_Dst.f_B 2, o8 xv10362.f_Key.f_Dst.f_B 3, o8 xv10362.f_Key.f_Dst.f_B 4, o8 xv10362.f_Key.f_Dst.f_B 5, o8 xv10362.f_Key.f_Dst.f_B 6, o8 xv10362.f_Key.f_Dst.f_B 7, o8 xv10362.f_Key.f_Dst.f_B 8, o8 xv10362.f_Key.f_Dst.f_B 9, o8 xv10362.f_Key.f_Dst.f_B 10, o8 xv10362.f_Key.f_Dst.f_B 11, o8 xv10362.f_Key.f_Dst.f_B 12, o8 xv10362.f_Key.f_Dst.f_B 13, o8 xv10362.f_Key.f_Dst.f_B 14, o8 xv10362.f_Key.f_Dst.f_B 15, v8 xv10362.f_Key.f_Proto, v16 xv10362.f_Key.f_SrcPort, v16 xv10362.f_Key.f_DstPort]) (cs' := [vB xv10365.f_Src.f_Six, o8 xv10365.f_Src.f_B 0, o8 xv10365.f_Src.f_B 1, o8 xv10365.f_Src.f_B 2, o8 xv10365.f_Src.f_B 3, o8 xv10365.f_Src.f_B 4, o8 xv10365.f_Src.f_B 5, o8 xv10365.f_Src.f_B 6, o8 xv10365.f_Src.f_B 7, o8 xv10365.f_Src.f_B 8, o8 xv10365.f_Src.f_B 9, o8 xv10365.f_Src.f_B 10, o8 xv10365.f_Src.f_B 11, o8 xv10365.f_Src.f_B 12, o8 xv10365.f_Src.f_B 13, o8 xv10365.f_Src.f_B 14, o8 xv10365.f_Src.f_B 15, vB xv10365.f_Dst.f_Six, o8 xv10365.f_Dst.f_B 0, o8 xv10365.f_Dst.f_B 1, o8 xv10365.f_Dst.f_B 2, o8 xv10365.f_Dst.f_B 3, o8 xv10365.f_Dst.f_B 4, o8 xv10365.f_Dst.f_B 5, o8 xv10365.f_Dst.f_B 6, o8 xv10365.f_Dst.f_B 7, o8 xv10365.f_Dst.f_B 8, o8 xv10365.f_Dst.f_B 9, o8 xv10365.f_Dst.f_B 10, o8 xv10365.f_Dst.f_B 11, o8 xv10365.f_Dst.f_B 12, o8 xv10365.f_Dst.f_B 13, o8 xv10365.f_Dst.f_B 14, o8 xv10365.f_Dst.f_B 15, v8 xv10365.f_Proto, v16 xv10365.f_SrcPort, v16 xv10365.f_DstPort]) (by kernel_rfl) rfl rfl (Q34t xv10362.f_Key xv10365 _ rfl rfl)) ?_
      refine RD.nil ?_
      refine KQ.thn hQ10347 ?_
      clear hQ10347 Q10347
      refine KC.cond rfl (fun hc => ?_) (fun hc => ?_)
      ·rw [if_pos hc] at hF
       replace hM := hM.drewN 1
       refine KC.draw [] [11] [9, 10, 11] [1, 2, 4, 6] (.ofList [0, 1, 2, 3, 4, 5, 6, 7, 8, 9, 10, 11]) moP (by kernel_rfl) ?_
       refine RD.q rfl rfl rfl rfl (fun w' hf => O.loadN (cs := [v64 sum10303, v64 sum10304]) ag37 rfl (Cs.addsN [] ((hM.bx (i := 10) rfl).fut hf) rfl)) ?_
       refine RD.p rfl rfl rfl rfl (fun w' => O.move rfl) ?_
       refine RD.p rfl rfl rfl rfl (fun w' => O.move rfl) ?_
       refine obindE hF fun xv10368 hx10370 hF => ?_
       obtain ⟨cs10373, hA10369, hC10372, hR10371⟩ := hM.atD (i := 7) (j := 8) uo_model_Entry rfl rfl hx10370
       obtain ⟨A10374, c10375, rfl, hr10376, ho10377⟩ := hR10371
       refine RD.q rfl rfl rfl rfl (fun w' hf => O.idxA sl42 (hA10369.fut hf) rfl rfl) ?_
       refine RD.p rfl rfl rfl rfl (fun w' => O.fldA fl47_2 (by decide) rfl) ?_
       refine RD.q rfl rfl rfl rfl (fun w' hf => O.load sc38 rfl (Cs.adds [2] (hA10369.fut hf).cells rfl)) ?_
       refine RD.p rfl rfl rfl rfl (fun w' => O.move rfl) ?_
       refine obindE hF fun xv10380 hx10379 hF => ?_
       have hA10378 := Rd.atN (f := e_flow_Record) (s := 44) (fun _ => rfl) (by decide) hr10376 hx10379
       refine RD.q rfl rfl rfl rfl (fun w' hf => O.idxA sl38 (hA10378.fut hf) rfl rfl) ?_
       refine RD.q rfl rfl rfl rfl (fun w' hf => O.loadN (cs := [vB xv10380.f_Key.f_Src.f_Six, o8 xv10380.f_Key.f_Src.f_B 0, o8 xv10380.f_Key.f_Src.f_B 1, o8 xv10380.f_Key.f_Src.f_B 2, o8 xv10380.f_Key.f_Src.f_B 3, o8 xv10380.f_Key.f_Src.f_B 4, o8 xv10380.f_Key.f_Src.f_B 5, o8 xv10380.f_Key.f_Src.f_B 6, o8 xv10380.f_Key.f_Src.f_B 7, o8 xv10380.f_Key.f_Src.f_B 8, o8 xv10380.f_Key.f_Src.f_B 9, o8 xv10380.f_Key.f_Src.f_B 10, o8 xv10380.f_Key.f_Src.f_B 11, o8 xv10380.f_Key.f_Src.f_B 12, o8 xv10380.f_Key.f_Src.f_B 13, o8 xv10380.f_Key.f_Src.f_B 14, o8 xv10380.f_Key.f_Src.f_B 15, vB xv10380.f_Key.f_Dst.f_Six, o8 xv10380.f_Key.f_Dst.f_B 0, o8 xv10380.f_Key.f_Dst.f_B 1, o8 xv10380.f_Key.f_Dst.f_B 2, o8 xv10380.f_Key.f_Dst.f_B 3, o8 xv10380.f_Key.f_Dst.f_B 4, o8 xv10380.f_Key.f_Dst.f_B 5, o8 xv10380.f_Key.f_Dst.f_B 6, o8 xv10380.f_Key.f_Dst.f_B 7, o8 xv10380.f_Key.f_Dst.f_B 8, o8 xv10380.f_Key.f_Dst.f_B 9, o8 xv10380.f_Key.f_Dst.f_B 10, o8 xv10380.f_Key.f_Dst.f_B 11, o8 xv10380.f_Key.f_Dst.f_B 12, o8 xv10380.f_Key.f_Dst.f_B 13, o8 xv10380.f_Key.f_Dst.f_B 14, o8 xv10380.f_Key.f_Dst.f_B 15, v8 xv10380.f_Key.f_Proto, v16 xv10380.f_Key.f_SrcPort, v16 xv10380.f_Key.f_DstPort, v64 xv10380.f_Packets, v64 xv10380.f_Bytes, v64 xv10380.f_First, v64 xv10380.f_Last, v8 xv10380.f_Flags, v8 xv10380.f_Reason, v8 xv10380.f_Class]) ag50 rfl (hA10378.fut hf).cells) ?_
       refine obindE hF fun y10381 hx10382 hF => ?_
       refine RD.mcall rfl rfl trivial Try.func13 bd13 rfl rfl (c_flow_Record_Total _ xv10380 _ hx10382) fun v w10383 hv => ?_
       obtain ⟨rfl, hN10384⟩ := hv
       refine ⟨fun _ => hN10384.fut, ?_⟩
       have hr10376 := hr10376.fut hN10384.fut
       replace hM := hM.call0 hN10384
       refine obindE hF fun y10385 hx10386 hF => ?_
       refine RD.mcall rfl rfl trivial Try.func12 bd12 rfl rfl (c_flow_Total_Plus _ (T_flow_Total.mk sum10303 sum10304) y10381 _ hx10386) fun v w10387 hv => ?_
       obtain ⟨rfl, hN10388⟩ := hv
       refine ⟨fun _ => hN10388.fut, ?_⟩
       have hr10376 := hr10376.fut hN10388.fut
       replace hM := hM.call0 hN10388
       refine RD.meffs rfl rfl rfl (E.stB (j := 10) (off := 0) (vs := [v64 y10385.f_Packets, v64 y10385.f_Bytes]) (cs' := [v64 y10385.f_Packets, v64 y10385.f_Bytes]) hM rfl sz37 rfl (adds_eq [] rfl) rfl rfl (One.all rfl) rfl rfl) fun w10389 hM1 => ?_
       clear hM
       have hM := hM1
       clear hM1
       have hr10376 := (un_model_Entry (hM.elAt (j := 8) uo_model_Entry rfl hC10372 hx10370)).1
       refine RD.nil ?_
       refine KQ.blk_n ?_
       refine KQ.then_k ?_
       exact fun a ha => ⟨y10385.f_Packets, y10385.f_Bytes, ha.less (less_cons rfl (less_cons rfl (less_cons rfl (less_cons rfl (less_cons rfl (less_cons rfl (less_cons rfl (less_cons rfl (less_cons rfl (less_cons rfl (less_cons rfl less_nil))))))))))), hM, hF⟩
      rw [if_neg (ne_true hc)] at hF
      refine KC.skip ?_
      refine KQ.blk_n ?_
      refine KQ.then_k ?_
      exact fun a ha => ⟨sum10303, sum10304, ha.less (less_cons rfl (less_cons rfl (less_cons rfl (less_cons rfl (less_cons rfl (less_cons rfl (less_cons rfl (less_cons rfl (less_cons rfl (less_cons rfl (less_cons rfl less_nil))))))))))), hM, hF⟩
     rintro a w10403 ⟨sum10401, sum10402, ha, hM, hF⟩
     refine KC.app ha ?_
     clear ha
     unfold F_law30_ModelOnce_j5 at hF
     refine KC.region ?_
     refine vm rfl rfl ?_
     refine RL.val (O.add rfl rfl) rfl ?_
     refine va rfl rfl ?_
     refine RL.nil ?_
     refine KQ.then_k ?_
     exact fun a ha => ⟨k10308, Nat.lt_succ_self k10308, sum10401, sum10402, (IntKind.i64.wrap (nv10305 + 1)), ha.less (less_cons rfl (less_cons rfl (less_cons rfl (less_cons rfl (less_cons rfl (less_cons rfl (less_cons rfl (less_cons rfl (less_cons rfl (less_cons rfl (less_cons rfl less_nil))))))))))), hM, hF⟩
    rw [if_neg (ne_true hc)] at hF
    refine KC.exit ?_
    refine KQ.thx hQ10309 ?_
    clear hQ10309 Q10309
    refine KQ.then_x ?_
    refine KQ.blk_x ?_
    refine KQ.blk_n ?_
    refine KQ.thn hQ10086 ?_
    clear hQ10086 Q10086
    refine KC.region ?_
    refine vm rfl rfl ?_
    refine RL.val (O.add rfl rfl) rfl ?_
    refine va rfl rfl ?_
    refine RL.nil ?_
    refine KQ.then_k ?_
    exact fun a ha => ⟨k10083, Nat.lt_succ_self k10083, sum10303, sum10304, (IntKind.i64.wrap (q10080 + 1)), ha.less (less_cons rfl (less_cons rfl (less_cons rfl (less_cons rfl (less_cons rfl (less_cons rfl (less_cons rfl (less_cons rfl (less_cons rfl (less_cons rfl less_nil)))))))))), hM, hF⟩
   rw [if_neg (ne_true hc)] at hF
   refine KC.exit ?_
   refine KQ.thx hQ10084 ?_
   clear hQ10084 Q10084
   refine KQ.then_x ?_
   refine KQ.blk_x ?_
   refine KQ.thn hQ9411 ?_
   clear hQ9411 Q9411
   refine KC.seqH fun Q10404 hQ10404 => ?_
   replace hM := hM.drewN 1
   refine KC.draw [] [] [5] [0, 1, 2, 6, 8] (.ofList [0, 1, 2, 3, 4, 7, 5, 6, 8]) moP (by kernel_rfl) ?_
   refine RD.p rfl rfl rfl rfl (fun w' => O.move rfl) ?_
   refine RD.p rfl rfl rfl rfl (fun w' => O.move rfl) ?_
   refine RD.p rfl rfl rfl rfl (fun w' => O.move rfl) ?_
   refine obindE hF fun xv10407 hx10406 hF => ?_
   have hA10405 := Rd.atN (f := e_packet_Key) (s := 37) (fun _ => rfl) (by decide) (hM.rd (i := 9) rfl) hx10406
   refine RD.q rfl rfl rfl rfl (fun w' hf => O.idxA sl44 (hA10405.fut hf) rfl rfl) ?_
   refine RD.q rfl rfl rfl rfl (fun w' hf => O.loadN (cs := [vB xv10407.f_Src.f_Six, o8 xv10407.f_Src.f_B 0, o8 xv10407.f_Src.f_B 1, o8 xv10407.f_Src.f_B 2, o8 xv10407.f_Src.f_B 3, o8 xv10407.f_Src.f_B 4, o8 xv10407.f_Src.f_B 5, o8 xv10407.f_Src.f_B 6, o8 xv10407.f_Src.f_B 7, o8 xv10407.f_Src.f_B 8, o8 xv10407.f_Src.f_B 9, o8 xv10407.f_Src.f_B 10, o8 xv10407.f_Src.f_B 11, o8 xv10407.f_Src.f_B 12, o8 xv10407.f_Src.f_B 13, o8 xv10407.f_Src.f_B 14, o8 xv10407.f_Src.f_B 15, vB xv10407.f_Dst.f_Six, o8 xv10407.f_Dst.f_B 0, o8 xv10407.f_Dst.f_B 1, o8 xv10407.f_Dst.f_B 2, o8 xv10407.f_Dst.f_B 3, o8 xv10407.f_Dst.f_B 4, o8 xv10407.f_Dst.f_B 5, o8 xv10407.f_Dst.f_B 6, o8 xv10407.f_Dst.f_B 7, o8 xv10407.f_Dst.f_B 8, o8 xv10407.f_Dst.f_B 9, o8 xv10407.f_Dst.f_B 10, o8 xv10407.f_Dst.f_B 11, o8 xv10407.f_Dst.f_B 12, o8 xv10407.f_Dst.f_B 13, o8 xv10407.f_Dst.f_B 14, o8 xv10407.f_Dst.f_B 15, v8 xv10407.f_Proto, v16 xv10407.f_SrcPort, v16 xv10407.f_DstPort]) ag34 rfl (hA10405.fut hf).cells) ?_
   refine RD.q rfl rfl rfl rfl (fun w' hf => O.loadN (cs := [v64 sum10078, v64 sum10079]) ag37 rfl (Cs.addsN [] ((hM.bx (i := 10) rfl).fut hf) rfl)) ?_
   refine obindE hF fun y10408 hx10409 hF => ?_
   refine RD.mcall rfl rfl trivial Try.func14 bd14 rfl rfl (c_model_Model_Of _ (T_model_Model.mk m7045 m7048 m7051 m7058 m7062 m7063 m7064) _ (hM.mapR (i := 0) rfl) _ (hM.mapR (i := 1) rfl) _ (hM.mapR (i := 2) rfl) _ _ (hM.rdD (i := 3) (j := 4) uo_model_Entry rfl rfl) _ _ (hM.rd (i := 5) rfl) _ (hM.bx (i := 6) rfl) xv10407 _ hx10409) fun v w10410 hv => ?_
   obtain ⟨rfl, hN10411⟩ := hv
   refine ⟨fun _ => hN10411.fut, ?_⟩
   replace hM := hM.call0 hN10411
   refine RD.p rfl rfl rfl rfl (fun w' => O.fldN (cs := [v64 y10408.f_Forwarded.f_Packets, v64 y10408.f_Forwarded.f_Bytes, v64 y10408.f_Cached.f_Packets, v64 y10408.f_Cached.f_Bytes, v64 y10408.f_Volatile.f_Packets, v64 y10408.f_Volatile.f_Bytes, v64 y10408.f_Durable.f_Packets, v64 y10408.f_Durable.f_Bytes, v64 y10408.f_Lost.f_Packets, v64 y10408.f_Lost.f_Bytes, v64 y10408.f_Credited.f_Packets, v64 y10408.f_Credited.f_Bytes]) (cs' := [v64 y10408.f_Credited.f_Packets, v64 y10408.f_Credited.f_Bytes]) fl54_5 ag37 rfl rfl) ?_
   refine RD.p rfl rfl rfl rfl (fun w' => O.stne (cs := [v64 y10408.f_Credited.f_Packets, v64 y10408.f_Credited.f_Bytes]) (cs' := [v64 sum10078, v64 sum10079]) (by kernel_rfl) rfl rfl (Q37t y10408.f_Credited (T_flow_Total.mk sum10078 sum10079) _ rfl rfl)) ?_
   refine RD.nil ?_
   refine KQ.thn hQ10404 ?_
   clear hQ10404 Q10404
   replace hM := hM.pick [0, 1, 2, 3, 4, 5, 6, 7, 8, 9] rfl (by decide)
   refine KC.cond rfl (fun hc => ?_) (fun hc => ?_)
   ·rw [if_pos hc] at hF
    refine sr fun Q10412 hQ10412 => ?_
    refine va rfl rfl ?_
    refine nt hQ10412 ?_
    clear hQ10412 Q10412
    refine KC.ret ?_
    refine KQ.blk_r ?_
    refine KQ.thr hQ9406 ?_
    clear hQ9406 Q9406
    refine KQ.then_r ?_
    refine KQ.blk_r ?_
    refine KQ.thr hQ7359 ?_
    clear hQ7359 Q7359
    refine KQ.blk_r ?_
    refine KQ.thr hQ6977 ?_
    clear hQ6977 Q6977
    refine KQ.then_r ?_
    refine KQ.blk_r ?_
    refine KQ.thr hQ40 ?_
    clear hQ40 Q40
    have hE := Option.some.inj hF
    clear hF
    subst hE
    replace hM := hM.pick [] rfl (by decide)
    refine KQ.rets Try.results3 (RVs.cons (RV.tm rfl) RVs.nil) ?_
    exact ⟨_, rfl, rfl, hM⟩
   rw [if_neg (ne_true hc)] at hF
   refine KC.skip ?_
   refine KQ.blk_n ?_
   refine KQ.thn hQ9406 ?_
   clear hQ9406 Q9406
   refine KC.region ?_
   refine vm rfl rfl ?_
   refine RL.val (O.add rfl rfl) rfl ?_
   refine va rfl rfl ?_
   refine RL.nil ?_
   refine KQ.then_k ?_
   exact fun a ha => ⟨k9403, Nat.lt_succ_self k9403, (IntKind.i64.wrap (kv9400 + 1)), ha.less (less_cons rfl (less_cons rfl (less_cons rfl (less_cons rfl (less_cons rfl (less_cons rfl (less_cons rfl (less_cons rfl less_nil)))))))), hM, hF⟩
  rw [if_neg (ne_true hc)] at hF
  refine KC.exit ?_
  refine KQ.thx hQ9404 ?_
  clear hQ9404 Q9404
  refine KQ.then_x ?_
  refine KQ.blk_x ?_
  refine KQ.thn hQ7359 ?_
  clear hQ7359 Q7359
  replace hM := hM.pick [0, 1, 2, 3, 4, 5, 6] rfl (by decide)
  refine sr fun Q10413 hQ10413 => ?_
  refine vm rfl rfl ?_
  refine vm rfl rfl ?_
  refine RL.val (O.neq rfl rfl) rfl ?_
  refine nt hQ10413 ?_
  clear hQ10413 Q10413
  refine KC.cond rfl (fun hc => ?_) (fun hc => ?_)
  ·rw [if_pos hc] at hF
   refine sr fun Q10414 hQ10414 => ?_
   refine va rfl rfl ?_
   refine nt hQ10414 ?_
   clear hQ10414 Q10414
   refine KC.ret ?_
   refine KQ.blk_r ?_
   refine KQ.thr hQ6977 ?_
   clear hQ6977 Q6977
   refine KQ.then_r ?_
   refine KQ.blk_r ?_
   refine KQ.thr hQ40 ?_
   clear hQ40 Q40
   have hE := Option.some.inj hF
   clear hF
   subst hE
   replace hM := hM.pick [] rfl (by decide)
   refine KQ.rets Try.results3 (RVs.cons (RV.tm rfl) RVs.nil) ?_
   exact ⟨_, rfl, rfl, hM⟩
  rw [if_neg (ne_true hc)] at hF
  refine KC.skip ?_
  refine KQ.blk_n ?_
  refine KQ.thn hQ6977 ?_
  clear hQ6977 Q6977
  refine KC.region ?_
  refine vm rfl rfl ?_
  refine RL.val (O.add rfl rfl) rfl ?_
  refine va rfl rfl ?_
  refine RL.nil ?_
  refine KQ.then_k ?_
  exact fun a ha => ⟨k6974, Nat.lt_succ_self k6974, g7044, g7047, g7050, A7053, c7054, css7055, Z7056, A7060, c7061, m7045, m7048, m7051, m7058, m7062, m7063, m7064, credits7065, (IntKind.i64.wrap (i6971 + 1)), ha.less (less_cons rfl (less_cons rfl (less_cons rfl (less_cons rfl less_nil)))), hM, hF⟩
 rw [if_neg (ne_true hc)] at hF
 refine KC.exit ?_
 refine KQ.thx hQ6975 ?_
 clear hQ6975 Q6975
 refine KQ.then_x ?_
 refine KQ.blk_x ?_
 refine KQ.thn hQ40 ?_
 clear hQ40 Q40
 replace hM := hM.pick [] rfl (by decide)
 refine sr fun Q10415 hQ10415 => ?_
 refine obindE hF fun y10416 hx10417 hF => ?_
 refine RL.call Try.func6 bd6 rfl rfl (c_law30_works _ _ hx10417) fun v w10418 hv => ?_
 obtain ⟨rfl, hN10419⟩ := hv
 replace hM := hM.call0 hN10419
 refine va rfl rfl ?_
 refine nt hQ10415 ?_
 clear hQ10415 Q10415
 refine KC.ret ?_
 have hE := Option.some.inj hF
 clear hF
 subst hE
 refine KQ.rets Try.results3 (RVs.cons (RV.tm rfl) RVs.nil) ?_
 exact ⟨_, rfl, rfl, hM⟩
end Go.Proofs.Ytidbgejnkpoeeaa
