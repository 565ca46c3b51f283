/- Printed by a program of this claim: each call returns what the plain function of its name gives. -/
import Derived.Test.YtkpnocgfhipidaaGreatW1
import Derived.Test.YtkpnocgfhipidaaGreatW2
import Derived.Test.YtkpnocgfhipidaaGreatW3
import Derived.Test.YtkpnocgfhipidaaGreatW4
set_option linter.unusedVariables false
namespace Go.Proofs.YtkpnocgfhipidaaGreat
open Go Go.Ox Go.RowKit
set_option maxRecDepth 100000 in
set_option maxHeartbeats 40000000 in
theorem c_cache_Cache_end (w : World) (g2 : Nat) (tg12 : TypeId) (cv1 : T_cache_Cache) (g4 : Nat) (A6 : Option Addr) (c7 : Nat) (A9 : Option Addr) (c10 : Nat) (hL15 : Lent w [.box g2 tg12 (v64 cv1.f_tick :: (cv1.f_bounds.cs ++ [.pointer (some ⟨g4, 0, none⟩), .slice A9 (cv1.f_flows).length c10])), .box g4 119 [.slice A6 (cv1.f_places.f_slots).length c7, vI cv1.f_places.f_many], .row A6 c7 140 39 (cv1.f_places.f_slots).length ((cv1.f_places.f_slots).flatMap e_table_Slot), .row A9 c10 62 44 (cv1.f_flows).length ((cv1.f_flows).flatMap e_flow_Record)]) (kv13 : T_packet_Key) (reason14 : Int) (r : T_flow_Record × T_cache_Cache) (hF : F_cache_Cache_end cv1 kv13 reason14 = some r) :
  CallsR Tryz.prog 46 [.pointer (some ⟨g2, 0, none⟩), .agg (kv13.cs).toArray, v8 reason14] w (fun v w' => ∃ (g0 : Nat) (A1 : Option Addr) (c1 : Nat) (A2 : Option Addr) (c2 : Nat), v = .agg (r.1.cs).toArray ∧ Mem w [some g2, some g4, rblk A6 c7, rblk A9 c10] w' [.box g2 tg12 (v64 r.2.f_tick :: (r.2.f_bounds.cs ++ [.pointer (some ⟨g0, 0, none⟩), .slice A2 (r.2.f_flows).length c2])), .box g0 119 [.slice A1 (r.2.f_places.f_slots).length c1, vI r.2.f_places.f_many], .row A1 c1 140 39 r.2.f_places.f_slots.length (r.2.f_places.f_slots.flatMap e_table_Slot), .row A2 c2 62 44 r.2.f_flows.length (r.2.f_flows.flatMap e_flow_Record)]) := by
 refine calls_KC Tryz.func46 rfl Tryz.ntmps46 rfl ?_
 have hM : Mem w [some g2, some g4, rblk A6 c7, rblk A9 c10] w [.box g2 tg12 (v64 cv1.f_tick :: (cv1.f_bounds.cs ++ [.pointer (some ⟨g4, 0, none⟩), .slice A9 (cv1.f_flows).length c10])), .box g4 119 [.slice A6 (cv1.f_places.f_slots).length c7, vI cv1.f_places.f_many], .row A6 c7 140 39 (cv1.f_places.f_slots).length ((cv1.f_places.f_slots).flatMap e_table_Slot), .row A9 c10 62 44 (cv1.f_flows).length ((cv1.f_flows).flatMap e_flow_Record)] := Mem.lendN hL15
 unfold F_cache_Cache_end at hF
 refine sr fun Q16 hQ16 => ?_
 refine RL.eff (E.box (vs := (kv13.cs)) hM rfl rfl) rfl fun v w18 hv => ?_
 clear hM
 obtain ⟨g17, rfl, hM, hf⟩ := hv
 refine RL.eff (E.alloc hM ze62) rfl fun v w21 hv => ?_
 clear hM
 obtain ⟨g20, rfl, hM, hf⟩ := hv
 refine nt hQ16 ?_
 clear hQ16 Q16
 refine KC.seqH fun Q23 hQ23 => ?_
 replace hM := hM.drewN 1
 refine KC.draw [] [5] [5] [0, 1, 2, 6, 7, 8, 9, 10] (.ofList [0, 1, 2, 3, 4, 5, 6, 7, 8, 9, 10]) moP (by kernel_rfl) ?_
 refine RD.p rfl rfl rfl rfl (fun w' => O.move rfl) ?_
 refine RD.p rfl rfl rfl rfl (fun w' => O.nilp rfl) ?_
 refine RD.p rfl rfl rfl rfl (fun w' => O.fldA fl69_2 (by decide) rfl) ?_
 refine RD.q rfl rfl rfl rfl (fun w' hf => O.load sc63 rfl (Cs.adds [6] ((hM.bx (i := 0) rfl).fut hf) rfl)) ?_
 refine RD.q rfl rfl rfl rfl (fun w' hf => O.loadN (cs := (kv13.cs)) ag42 rfl (Cs.addsN [] ((hM.bx (i := 4) rfl).fut hf) rfl)) ?_
 refine obindE hF fun y24 hx25 hF => ?_
 refine RD.mcall rfl rfl trivial Tryz.func42 bd42 rfl rfl (c_table_Table_Get _ _ _ cv1.f_places _ _ (hM.lent [1, 2] rfl (by decide)) kv13 _ hx25) fun v w26 hv => ?_
 obtain ⟨A28, c29, rfl, hN27⟩ := hv
 refine ⟨fun h => (by cases h), ?_⟩
 replace hM := hM.callL [1, 2] [0, 3, 4, 5] rfl rfl (by decide) rfl hN27
 refine RD.p rfl rfl rfl rfl (fun w' => O.move rfl) ?_
 refine RD.p rfl rfl rfl rfl (fun w' => O.ext rfl rfl) ?_
 refine RD.p rfl rfl rfl rfl (fun w' => O.ext rfl rfl) ?_
 refine RD.p rfl rfl rfl rfl (fun w' => O.assign rfl) ?_
 refine RD.p rfl rfl rfl rfl (fun w' => O.assign rfl) ?_
 refine RD.nil ?_
 refine KQ.thn hQ23 ?_
 clear hQ23 Q23
 refine sr fun Q31 hQ31 => ?_
 refine vm rfl rfl ?_
 refine RL.val (O.nilp rfl) rfl ?_
 refine RL.val (O.fldA fl69_3 (by decide) rfl) rfl ?_
 refine RL.val (O.load sc55 rfl (Cs.adds [7] ((hM.bx (i := 0) rfl)) rfl)) rfl ?_
 refine vm rfl rfl ?_
 refine obindE hF fun xv34 hx33 hF => ?_
 have hA32 := Rd.atN (f := e_flow_Record) (s := 44) (fun _ => rfl) (by decide) (hM.rd (i := 1) rfl) hx33
 refine RL.val (O.idxA sl55 (hA32) rfl rfl) rfl ?_
 refine RL.val (O.loadN (cs := (xv34.cs)) ag62 rfl (hA32).cells) rfl ?_
 refine RL.eff (E.alloc hM ze62) rfl fun v w36 hv => ?_
 clear hM
 obtain ⟨g35, rfl, hM, hf⟩ := hv
 refine RL.effs (E.stB (j := 6) (off := 0) (vs := (xv34.cs)) (cs' := (xv34.cs)) hM rfl sz62 rfl (adds_eq [] rfl) rfl rfl (One.all rfl) rfl rfl) fun w38 hM1 => ?_
 clear hM
 have hM := hM1
 clear hM1
 refine nt hQ31 ?_
 clear hQ31 Q31
 refine sr fun Q39 hQ39 => ?_
 refine vm rfl rfl ?_
 refine RL.val (O.nilp rfl) rfl ?_
 refine RL.val (O.fldA fl69_3 (by decide) rfl) rfl ?_
 refine RL.val (O.load sc55 rfl (Cs.adds [7] ((hM.bx (i := 0) rfl)) rfl)) rfl ?_
 refine RL.val (O.len sl55 rfl) rfl ?_
 refine RL.val (O.sub rfl rfl) rfl ?_
 refine va rfl rfl ?_
 refine nt hQ39 ?_
 clear hQ39 Q39
 refine KC.seqH fun Q40 hQ40 => ?_
 replace hM := hM.drewN 1
 refine KC.draw [] [5] [5] [0, 1, 2] (.ofList [0, 1, 2, 3, 4, 5]) moP (by kernel_rfl) ?_
 refine RD.p rfl rfl rfl rfl (fun w' => O.move rfl) ?_
 refine RD.p rfl rfl rfl rfl (fun w' => O.nilp rfl) ?_
 refine RD.p rfl rfl rfl rfl (fun w' => O.fldA fl69_2 (by decide) rfl) ?_
 refine RD.q rfl rfl rfl rfl (fun w' hf => O.load sc63 rfl (Cs.adds [6] ((hM.bx (i := 0) rfl).fut hf) rfl)) ?_
 refine RD.q rfl rfl rfl rfl (fun w' hf => O.loadN (cs := (kv13.cs)) ag42 rfl (Cs.addsN [] ((hM.bx (i := 2) rfl).fut hf) rfl)) ?_
 refine obindE hF fun y41 hx42 hF => ?_
 refine RD.mcall rfl rfl trivial Tryz.func80 bd80 rfl rfl (c_table_Table_Delete _ _ _ y24.2.2 _ _ (hM.lent [4, 5] rfl (by decide)) kv13 _ hx42) fun v w43 hv => ?_
 obtain ⟨A45, c46, rfl, hN44⟩ := hv
 refine ⟨fun h => (by cases h), ?_⟩
 replace hM := hM.callL [4, 5] [0, 1, 2, 3, 6] rfl rfl (by decide) rfl hN44
 refine RD.nil ?_
 refine KQ.thn hQ40 ?_
 clear hQ40 Q40
 replace hM := hM.pick [0, 1, 3, 4, 5, 6] rfl (by decide)
 refine KC.cut (fun a w83 => ∃ (A73 : Option Addr) (c74 : Nat) (A78 : Option Addr) (c79 : Nat) (p75 : List T_table_Slot) (p76 : Int) (p80 : List T_flow_Record), Kn 78 [(0, .pointer (some ⟨g2, 0, none⟩)), (2, v8 reason14), (6, .pointer (some ⟨g20, 0, none⟩)), (9, .pointer (some ⟨g35, 0, none⟩)), (10, vI (IntKind.i64.wrap ((cv1.f_flows.length : Int) - 1)))] a ∧ Mem w [some g2, some g4, rblk A6 c7, rblk A9 c10] w83 [.row A73 c74 140 39 (p75).length ((p75).flatMap e_table_Slot), .box g4 119 [.slice A73 (p75).length c74, vI p76], .row A78 c79 62 44 (p80).length ((p80).flatMap e_flow_Record), .box g2 tg12 (v64 cv1.f_tick :: (cv1.f_bounds.cs ++ [.pointer (some ⟨g4, 0, none⟩), .slice A78 (p80).length c79])), .box g20 62 (vB false :: (a16 (List.replicate 16 0) ++ (vB false :: (a16 (List.replicate 16 0) ++ [v8 0, v16 0, v16 0, v64 0, v64 0, v64 0, v64 0, v8 0, v8 0, v8 0])))), .box g35 62 (xv34.cs)] ∧ F_cache_Cache_end_j1 cv1 reason14 xv34 p75 p76 p80 = some r) ?_ ?_
 ·refine sr fun Q48 hQ48 => ?_
  refine vm rfl rfl ?_
  refine RL.val (O.nilp rfl) rfl ?_
  refine RL.val (O.fldA fl69_3 (by decide) rfl) rfl ?_
  refine RL.val (O.load sc55 rfl (Cs.adds [7] ((hM.bx (i := 0) rfl)) rfl)) rfl ?_
  refine vm rfl rfl ?_
  refine obindE hF fun xv51 hx50 hF => ?_
  have hA49 := Rd.atN (f := e_flow_Record) (s := 44) (fun _ => rfl) (by decide) (hM.rd (i := 1) rfl) hx50
  refine RL.val (O.idxA sl55 (hA49) rfl rfl) rfl ?_
  refine RL.val (O.loadN (cs := (xv51.cs)) ag62 rfl (hA49).cells) rfl ?_
  refine RL.eff (E.alloc hM ze62) rfl fun v w53 hv => ?_
  clear hM
  obtain ⟨g52, rfl, hM, hf⟩ := hv
  refine RL.effs (E.stB (j := 6) (off := 0) (vs := (xv51.cs)) (cs' := (xv51.cs)) hM rfl sz62 rfl (adds_eq [] rfl) rfl rfl (One.all rfl) rfl rfl) fun w55 hM1 => ?_
  clear hM
  have hM := hM1
  clear hM1
  refine nt hQ48 ?_
  clear hQ48 Q48
  refine sr fun Q56 hQ56 => ?_
  refine vm rfl rfl ?_
  refine RL.val (O.conv un3 Tryz.underlying22 rfl) rfl ?_
  refine vm rfl rfl ?_
  refine RL.val (O.neq rfl rfl) rfl ?_
  refine nt hQ56 ?_
  clear hQ56 Q56
  refine KC.cond rfl (fun hc => ?_) (fun hc => ?_)
  ·rw [if_pos hc] at hF
   refine KC.seqH fun Q57 hQ57 => ?_
   replace hM := hM.drewN 1
   refine KC.draw [] [7] [7] [0, 1, 2, 4] (.ofList [0, 1, 2, 3, 4, 5, 6, 7]) moP (by kernel_rfl) ?_
   refine RD.p rfl rfl rfl rfl (fun w' => O.move rfl) ?_
   refine RD.p rfl rfl rfl rfl (fun w' => O.nilp rfl) ?_
   refine RD.p rfl rfl rfl rfl (fun w' => O.fldA fl69_3 (by decide) rfl) ?_
   refine RD.q rfl rfl rfl rfl (fun w' hf => O.load sc55 rfl (Cs.adds [7] ((hM.bx (i := 0) rfl).fut hf) rfl)) ?_
   refine RD.p rfl rfl rfl rfl (fun w' => O.move rfl) ?_
   refine RD.q rfl rfl rfl rfl (fun w' hf => O.loadN (cs := (xv51.cs)) ag62 rfl (Cs.addsN [] ((hM.bx (i := 6) rfl).fut hf) rfl)) ?_
   refine obindE hF fun xv60 hx59 hF => ?_
   have hA58 := Rd.atN (f := e_flow_Record) (s := 44) (fun _ => rfl) (by decide) (hM.rd (i := 1) rfl) hx59
   refine RD.q rfl rfl rfl rfl (fun w' hf => O.idxA sl55 (hA58.fut hf) rfl rfl) ?_
   refine RD.meffs rfl rfl rfl (E.stR (enc := e_flow_Record) (j := 1) (off := 0) (vs := (xv51.cs)) (x' := xv51) hM rfl (fun _ => rfl) hx59 sz62 rfl (addsR_eq [] rfl) rfl rfl (One.all rfl) rfl rfl) fun w61 hM1 => ?_
   clear hM
   obtain ⟨hM, hn62⟩ := hM1
   refine RD.reslot (t := 54) rfl hn62 ?_
   replace hM := hM.rebox (i := 0) (cs' := (v64 cv1.f_tick :: (cv1.f_bounds.cs ++ [.pointer (some ⟨g4, 0, none⟩), .slice A9 ((cv1.f_flows.set (y24.1 : Int).toNat xv51)).length c10]))) rfl (by rw [← hn62])
   refine RD.nil ?_
   refine KQ.thn hQ57 ?_
   clear hQ57 Q57
   replace hM := hM.drewN 1
   refine KC.draw [] [7] [7] [0, 1, 2, 4, 6] (.ofList [0, 1, 2, 3, 4, 5, 6, 7]) moP (by kernel_rfl) ?_
   refine RD.p rfl rfl rfl rfl (fun w' => O.move rfl) ?_
   refine RD.p rfl rfl rfl rfl (fun w' => O.nilp rfl) ?_
   refine RD.p rfl rfl rfl rfl (fun w' => O.fldA fl69_2 (by decide) rfl) ?_
   refine RD.q rfl rfl rfl rfl (fun w' hf => O.load sc63 rfl (Cs.adds [6] ((hM.bx (i := 0) rfl).fut hf) rfl)) ?_
   refine RD.p rfl rfl rfl rfl (fun w' => O.fldA fl62_0 (by decide) rfl) ?_
   refine RD.q rfl rfl rfl rfl (fun w' hf => O.loadN (cs := (xv51.f_Key.cs)) ag42 rfl (Cs.addsN [0] ((hM.bx (i := 6) rfl).fut hf) rfl)) ?_
   refine RD.p rfl rfl rfl rfl (fun w' => O.move rfl) ?_
   refine obindE hF fun y63 hx64 hF => ?_
   refine RD.mcall rfl rfl trivial Tryz.func77 bd77 rfl rfl (c_table_Table_Put _ _ _ y41.2 _ _ (hM.lent [4, 5] rfl (by decide)) xv51.f_Key y24.1 _ hx64) fun v w65 hv => ?_
   obtain ⟨A67, c68, rfl, hN66⟩ := hv
   refine ⟨fun h => (by cases h), ?_⟩
   replace hM := hM.callL [4, 5] [0, 1, 2, 3, 6] rfl rfl (by decide) rfl hN66
   refine RD.nil ?_
   refine KQ.then_k ?_
   replace hM := hM.pick [6, 5, 1, 0, 2, 3] rfl (by decide)
   exact fun a ha => ⟨A67, c68, A9, c10, y63.2.f_slots, y63.2.f_many, (cv1.f_flows.set (y24.1 : Int).toNat xv51), ha.less (less_cons rfl (less_cons rfl (less_cons rfl (less_cons rfl (less_cons rfl less_nil))))), hM, hF⟩
  rw [if_neg (ne_true hc)] at hF
  refine KC.skip ?_
  refine KQ.then_k ?_
  replace hM := hM.pick [5, 4, 1, 0, 2, 3] rfl (by decide)
  exact fun a ha => ⟨A45, c46, A9, c10, y41.2.f_slots, y41.2.f_many, cv1.f_flows, ha.less (less_cons rfl (less_cons rfl (less_cons rfl (less_cons rfl (less_cons rfl less_nil))))), hM, hF⟩
 rintro a w83 ⟨A73, c74, A78, c79, p75, p76, p80, ha, hM, hF⟩
 refine KC.app ha ?_
 clear ha
 unfold F_cache_Cache_end_j1 at hF
 refine sr fun Q84 hQ84 => ?_
 refine vm rfl rfl ?_
 refine vm rfl rfl ?_
 refine RL.val (O.nilp rfl) rfl ?_
 refine RL.val (O.fldA fl69_3 (by decide) rfl) rfl ?_
 refine RL.val (O.load sc55 rfl (Cs.adds [7] ((hM.bx (i := 3) rfl)) rfl)) rfl ?_
 refine vm rfl rfl ?_
 refine obindE hF fun cut85 hy86 hF => ?_
 have hrd := (hM.rd (i := 2) rfl)
 replace hM := hM.short (enc := e_flow_Record) (fun _ => rfl) (i := 2) rfl hy86
 refine RL.val (O.short (A := A78) (c := c79) (xs := p80) (ys := cut85) sl55 hrd.cap hy86 rfl rfl) rfl ?_
 refine RL.val (O.nilp rfl) rfl ?_
 refine RL.val (O.fldA fl69_3 (by decide) rfl) rfl ?_
 refine RL.effs (E.stB (j := 3) (off := 7) (vs := [.slice A78 (cut85).length c79]) (cs' := (v64 cv1.f_tick :: (cv1.f_bounds.cs ++ [.pointer (some ⟨g4, 0, none⟩), .slice A78 (cut85).length c79]))) hM rfl sz55 rfl (adds_eq [7] rfl) rfl rfl (One.all rfl) rfl rfl) fun w88 hM1 => ?_
 clear hM
 have hM := hM1
 clear hM1
 refine nt hQ84 ?_
 clear hQ84 Q84
 refine sr fun Q89 hQ89 => ?_
 refine vm rfl rfl ?_
 refine RL.val (O.fldA fl62_6 (by decide) rfl) rfl ?_
 refine RL.effs (E.stB (j := 5) (off := 42) (vs := [v8 reason14]) (cs' := (xv34.f_Key.cs ++ [v64 xv34.f_Packets, v64 xv34.f_Bytes, v64 xv34.f_First, v64 xv34.f_Last, v8 xv34.f_Flags, v8 reason14, v8 xv34.f_Class])) hM rfl sz5 rfl (adds_eq [42] rfl) rfl rfl (One.all rfl) rfl rfl) fun w90 hM1 => ?_
 clear hM
 have hM := hM1
 clear hM1
 refine nt hQ89 ?_
 clear hQ89 Q89
 refine sr fun Q91 hQ91 => ?_
 refine RL.val (O.loadN (cs := (xv34.f_Key.cs ++ [v64 xv34.f_Packets, v64 xv34.f_Bytes, v64 xv34.f_First, v64 xv34.f_Last, v8 xv34.f_Flags, v8 reason14, v8 xv34.f_Class])) ag62 rfl (Cs.addsN [] ((hM.bx (i := 5) rfl)) rfl)) rfl ?_
 refine RL.effs (E.stB (j := 4) (off := 0) (vs := (xv34.f_Key.cs ++ [v64 xv34.f_Packets, v64 xv34.f_Bytes, v64 xv34.f_First, v64 xv34.f_Last, v8 xv34.f_Flags, v8 reason14, v8 xv34.f_Class])) (cs' := (xv34.f_Key.cs ++ [v64 xv34.f_Packets, v64 xv34.f_Bytes, v64 xv34.f_First, v64 xv34.f_Last, v8 xv34.f_Flags, v8 reason14, v8 xv34.f_Class])) hM rfl sz62 rfl (adds_eq [] rfl) rfl rfl (One.all rfl) rfl rfl) fun w92 hM1 => ?_
 clear hM
 have hM := hM1
 clear hM1
 refine nt hQ91 ?_
 clear hQ91 Q91
 refine KC.ret ?_
 have hE := Option.some.inj hF
 clear hF
 subst hE
 have hb93 := hM.bx (i := 4) rfl
 replace hM := hM.pick [3, 1, 0, 2] rfl (by decide)
 refine KQ.rets Tryz.results46 (RVs.cons (RV.cN (cs := (xv34.f_Key.cs ++ [v64 xv34.f_Packets, v64 xv34.f_Bytes, v64 xv34.f_First, v64 xv34.f_Last, v8 xv34.f_Flags, v8 reason14, v8 xv34.f_Class])) rfl ag62 hb93) RVs.nil) ?_
 exact ⟨_, rfl, g4, A73, c74, A78, c79, rfl, hM⟩
set_option maxRecDepth 100000 in
set_option maxHeartbeats 40000000 in
theorem c_cache_Cache_Advance (w : World) (g2 : Nat) (tg12 : TypeId) (cv1 : T_cache_Cache) (g4 : Nat) (A6 : Option Addr) (c7 : Nat) (A9 : Option Addr) (c10 : Nat) (hL14 : Lent w [.box g2 tg12 (v64 cv1.f_tick :: (cv1.f_bounds.cs ++ [.pointer (some ⟨g4, 0, none⟩), .slice A9 (cv1.f_flows).length c10])), .box g4 119 [.slice A6 (cv1.f_places.f_slots).length c7, vI cv1.f_places.f_many], .row A6 c7 140 39 (cv1.f_places.f_slots).length ((cv1.f_places.f_slots).flatMap e_table_Slot), .row A9 c10 62 44 (cv1.f_flows).length ((cv1.f_flows).flatMap e_flow_Record)]) (tick13 : Int) (r : (List T_flow_Record) × T_cache_Cache) (hF : F_cache_Cache_Advance cv1 tick13 = some r) :
  CallsR Tryz.prog 18 [.pointer (some ⟨g2, 0, none⟩), v64 tick13] w (fun v w' => ∃ (g0 : Nat) (A1 : Option Addr) (c1 : Nat) (A2 : Option Addr) (c2 : Nat) (A3 : Option Addr) (c3 : Nat), v = .slice A3 (r.1).length c3 ∧ Mem w [some g2, some g4, rblk A6 c7, rblk A9 c10] w' [.box g2 tg12 (v64 r.2.f_tick :: (r.2.f_bounds.cs ++ [.pointer (some ⟨g0, 0, none⟩), .slice A2 (r.2.f_flows).length c2])), .box g0 119 [.slice A1 (r.2.f_places.f_slots).length c1, vI r.2.f_places.f_many], .row A1 c1 140 39 r.2.f_places.f_slots.length (r.2.f_places.f_slots.flatMap e_table_Slot), .row A2 c2 62 44 r.2.f_flows.length (r.2.f_flows.flatMap e_flow_Record), .row A3 c3 62 44 r.1.length (r.1.flatMap e_flow_Record)]) := by
 refine calls_KC Tryz.func18 rfl Tryz.ntmps18 rfl ?_
 have hM : Mem w [some g2, some g4, rblk A6 c7, rblk A9 c10] w [.box g2 tg12 (v64 cv1.f_tick :: (cv1.f_bounds.cs ++ [.pointer (some ⟨g4, 0, none⟩), .slice A9 (cv1.f_flows).length c10])), .box g4 119 [.slice A6 (cv1.f_places.f_slots).length c7, vI cv1.f_places.f_many], .row A6 c7 140 39 (cv1.f_places.f_slots).length ((cv1.f_places.f_slots).flatMap e_table_Slot), .row A9 c10 62 44 (cv1.f_flows).length ((cv1.f_flows).flatMap e_flow_Record)] := Mem.lendN hL14
 unfold F_cache_Cache_Advance at hF
 refine sr fun Q15 hQ15 => ?_
 refine RL.eff (E.box (vs := [.pointer (some ⟨g2, 0, none⟩)]) hM rfl rfl) rfl fun v w17 hv => ?_
 clear hM
 obtain ⟨g16, rfl, hM, hf⟩ := hv
 refine va rfl rfl ?_
 refine nt hQ15 ?_
 clear hQ15 Q15
 refine KC.seqH fun Q19 hQ19 => ?_
 refine KC.cut (fun a w25 => Kn 48 [(1, v64 tick13), (2, .pointer (some ⟨g16, 0, none⟩)), (17, vB (decide (tick13 < cv1.f_tick)))] a ∧ Mem w [some g2, some g4, rblk A6 c7, rblk A9 c10] w25 [.row A6 c7 140 39 (cv1.f_places.f_slots).length ((cv1.f_places.f_slots).flatMap e_table_Slot), .box g4 119 [.slice A6 (cv1.f_places.f_slots).length c7, vI cv1.f_places.f_many], .row A9 c10 62 44 (cv1.f_flows).length ((cv1.f_flows).flatMap e_flow_Record), .box g2 tg12 (v64 cv1.f_tick :: (cv1.f_bounds.cs ++ [.pointer (some ⟨g4, 0, none⟩), .slice A9 (cv1.f_flows).length c10])), .box g16 27 [.pointer (some ⟨g2, 0, none⟩)]] ∧ F_cache_Cache_Advance_j1 cv1 tick13 = some r) ?_ ?_
 ·refine KC.region ?_
  refine RL.val (O.load sc27 rfl (Cs.adds [] ((hM.bx (i := 4) rfl)) rfl)) rfl ?_
  refine RL.val (O.peqn Tryz.underlying27 rfl rfl) rfl ?_
  refine vm rfl rfl ?_
  refine RL.gval rfl rfl (O.move rfl) rfl ?_
  refine RL.gval rfl rfl (O.load sc27 rfl (Cs.adds [] ((hM.bx (i := 4) rfl)) rfl)) rfl ?_
  refine RL.gval rfl rfl (O.nilp rfl) rfl ?_
  refine RL.gval rfl rfl (O.fldA fl69_0 (by decide) rfl) rfl ?_
  refine RL.gval rfl rfl (O.load sc22 rfl (Cs.adds [0] ((hM.bx (i := 0) rfl)) rfl)) rfl ?_
  refine RL.gval rfl rfl (O.lss rfl rfl) rfl ?_
  refine RL.val (O.pickf rfl rfl) rfl ?_
  refine RL.nil ?_
  refine KQ.then_k ?_
  replace hM := hM.pick [2, 1, 3, 0, 4] rfl (by decide)
  exact fun a ha => ⟨ha.less (less_cons rfl (less_cons rfl (less_cons rfl less_nil))), hM, hF⟩
 rintro a w25 ⟨ha, hM, hF⟩
 refine KC.app ha ?_
 clear ha
 unfold F_cache_Cache_Advance_j1 at hF
 refine KC.cond rfl (fun hc => ?_) (fun hc => ?_)
 ·rw [if_pos hc] at hF
  refine sr fun Q26 hQ26 => ?_
  refine va rfl rfl ?_
  refine nt hQ26 ?_
  clear hQ26 Q26
  refine KC.ret ?_
  refine KQ.thr hQ19 ?_
  clear hQ19 Q19
  have hE := Option.some.inj hF
  clear hF
  subst hE
  replace hM := hM.nilrow 62 44
  replace hM := hM.pick [3, 1, 0, 2, 5] rfl (by decide)
  refine KQ.rets Tryz.results18 (RVs.cons (RV.tm rfl) RVs.nil) ?_
  exact ⟨_, rfl, g4, A6, c7, A9, c10, none, 0, rfl, hM⟩
 rw [if_neg (ne_true hc)] at hF
 refine KC.skip ?_
 refine KQ.thn hQ19 ?_
 clear hQ19 Q19
 refine sr fun Q27 hQ27 => ?_
 refine RL.val (O.load sc27 rfl (Cs.adds [] ((hM.bx (i := 4) rfl)) rfl)) rfl ?_
 refine vm rfl rfl ?_
 refine RL.val (O.nilp rfl) rfl ?_
 refine RL.val (O.fldA fl69_0 (by decide) rfl) rfl ?_
 refine RL.effs (E.stB (j := 3) (off := 0) (vs := [v64 tick13]) (cs' := (v64 tick13 :: (cv1.f_bounds.cs ++ [.pointer (some ⟨g4, 0, none⟩), .slice A9 (cv1.f_flows).length c10]))) hM rfl sz22 rfl (adds_eq [0] rfl) rfl rfl (One.all rfl) rfl rfl) fun w28 hM1 => ?_
 clear hM
 have hM := hM1
 clear hM1
 refine nt hQ27 ?_
 clear hQ27 Q27
 refine sr fun Q29 hQ29 => ?_
 refine va rfl rfl ?_
 refine nt hQ29 ?_
 clear hQ29 Q29
 refine KC.seqH fun Q30 hQ30 => ?_
 refine sr fun Q31 hQ31 => ?_
 refine RL.val (O.load sc27 rfl (Cs.adds [] ((hM.bx (i := 4) rfl)) rfl)) rfl ?_
 refine RL.val (O.nilp rfl) rfl ?_
 refine RL.val (O.fldA fl69_3 (by decide) rfl) rfl ?_
 refine RL.val (O.load sc55 rfl (Cs.adds [7] ((hM.bx (i := 3) rfl)) rfl)) rfl ?_
 refine RL.val (O.len sl55 rfl) rfl ?_
 refine vm rfl rfl ?_
 refine nt hQ31 ?_
 clear hQ31 Q31
 refine KC.block ?_
 refine KC.loop (fun k120 a w118 => ∃ (A114 : Option Addr) (c115 : Nat) (lv116 : List T_flow_Record) (t117 : Int), Kn 48 [(1, v64 tick13), (2, .pointer (some ⟨g16, 0, none⟩)), (5, .slice A114 (lv116).length c115), (25, .slice A9 (cv1.f_flows).length c10), (26, vI (cv1.f_flows.length : Int)), (27, vI t117)] a ∧ Mem w [some g2, some g4, rblk A6 c7, rblk A9 c10] w118 [.row A6 c7 140 39 (cv1.f_places.f_slots).length ((cv1.f_places.f_slots).flatMap e_table_Slot), .box g4 119 [.slice A6 (cv1.f_places.f_slots).length c7, vI cv1.f_places.f_many], .row A9 c10 62 44 (cv1.f_flows).length ((cv1.f_flows).flatMap e_flow_Record), .box g2 tg12 (v64 tick13 :: (cv1.f_bounds.cs ++ [.pointer (some ⟨g4, 0, none⟩), .slice A9 (cv1.f_flows).length c10])), .box g16 27 [.pointer (some ⟨g2, 0, none⟩)], .row A114 c115 62 44 (lv116).length ((lv116).flatMap e_flow_Record)] ∧ F_cache_Cache_Advance_L1 cv1 tick13 k120 lv116 t117 = some r) ?_ ?_
 ·replace hM := hM.nilrow 62 44
  exact fun a ha => ⟨fuel0, none, 0, ([]), 0, ha.less (less_cons rfl (less_cons rfl (less_cons rfl (less_cons rfl (less_cons rfl (less_cons rfl less_nil)))))), hM, hF⟩
 rintro k120 a w118 ⟨A114, c115, lv116, t117, ha, hM, hF⟩
 refine KC.app ha ?_
 clear ha
 cases k120 with
 | zero => exact (none_some hF).elim
 | succ k120 =>
 have hF : F_cache_Cache_Advance_l1 (F_cache_Cache_Advance_L1 cv1 tick13 k120) cv1 tick13 lv116 t117 = some r := hF
 unfold F_cache_Cache_Advance_l1 at hF
 refine sr fun Q121 hQ121 => ?_
 refine RL.val (O.lss rfl rfl) rfl ?_
 refine nt hQ121 ?_
 clear hQ121 Q121
 refine KC.seqH fun Q122 hQ122 => ?_
 refine KC.cond rfl (fun hc => ?_) (fun hc => ?_)
 ·rw [if_pos hc] at hF
  refine KC.skip ?_
  refine KQ.thn hQ122 ?_
  clear hQ122 Q122
  refine KC.cut (fun a w153 => ∃ (A150 : Option Addr) (c151 : Nat) (lv152 : List T_flow_Record), Kn 48 [(1, v64 tick13), (2, .pointer (some ⟨g16, 0, none⟩)), (5, .slice A150 (lv152).length c151), (25, .slice A9 (cv1.f_flows).length c10), (26, vI (cv1.f_flows.length : Int)), (27, vI t117)] a ∧ Mem w [some g2, some g4, rblk A6 c7, rblk A9 c10] w153 [.row A6 c7 140 39 (cv1.f_places.f_slots).length ((cv1.f_places.f_slots).flatMap e_table_Slot), .box g4 119 [.slice A6 (cv1.f_places.f_slots).length c7, vI cv1.f_places.f_many], .row A9 c10 62 44 (cv1.f_flows).length ((cv1.f_flows).flatMap e_flow_Record), .box g2 tg12 (v64 tick13 :: (cv1.f_bounds.cs ++ [.pointer (some ⟨g4, 0, none⟩), .slice A9 (cv1.f_flows).length c10])), .box g16 27 [.pointer (some ⟨g2, 0, none⟩)], .row A150 c151 62 44 (lv152).length ((lv152).flatMap e_flow_Record)] ∧ F_cache_Cache_Advance_j2 t117 (F_cache_Cache_Advance_L1 cv1 tick13 k120) lv152 = some r) ?_ ?_
  ·refine KC.block ?_
   refine sr fun Q123 hQ123 => ?_
   refine obindE hF fun xv126 hx125 hF => ?_
   have hA124 := Rd.atN (f := e_flow_Record) (s := 44) (fun _ => rfl) (by decide) (hM.rd (i := 2) rfl) hx125
   refine RL.val (O.idxA sl55 (hA124) rfl rfl) rfl ?_
   refine RL.val (O.loadN (cs := (xv126.cs)) ag62 rfl (hA124).cells) rfl ?_
   refine RL.eff (E.alloc hM ze62) rfl fun v w128 hv => ?_
   clear hM
   obtain ⟨g127, rfl, hM, hf⟩ := hv
   refine RL.effs (E.stB (j := 6) (off := 0) (vs := (xv126.cs)) (cs' := (xv126.cs)) hM rfl sz62 rfl (adds_eq [] rfl) rfl rfl (One.all rfl) rfl rfl) fun w130 hM1 => ?_
   clear hM
   have hM := hM1
   clear hM1
   refine nt hQ123 ?_
   clear hQ123 Q123
   refine sr fun Q131 hQ131 => ?_
   refine RL.val (O.load sc27 rfl (Cs.adds [] ((hM.bx (i := 4) rfl)) rfl)) rfl ?_
   refine RL.val (O.loadN (cs := (xv126.cs)) ag62 rfl (Cs.addsN [] ((hM.bx (i := 6) rfl)) rfl)) rfl ?_
   refine obindE hF fun y132 hx133 hF => ?_
   refine RL.call Tryz.func47 bd47 rfl rfl (c_cache_Cache_due _ _ _ (T_cache_Cache.mk tick13 cv1.f_bounds cv1.f_places cv1.f_flows) _ _ (hM.lent [3] rfl (by decide)) xv126 _ hx133) fun v w134 hv => ?_
   obtain ⟨rfl, hN135⟩ := hv
   replace hM := hM.call0 hN135
   refine vm rfl rfl ?_
   refine RL.val (O.leq rfl rfl) rfl ?_
   refine nt hQ131 ?_
   clear hQ131 Q131
   refine KC.cond rfl (fun hc => ?_) (fun hc => ?_)
   ·rw [if_pos hc] at hF
    refine KC.region ?_
    refine vm rfl rfl ?_
    refine RL.val (O.loadN (cs := (xv126.cs)) ag62 rfl (Cs.addsN [] ((hM.bx (i := 6) rfl)) rfl)) rfl ?_
    refine RL.eff (E.bsl (enc := e_flow_Record) (xs := ([xv126] : List T_flow_Record)) hM sl55 ze62 rfl rfl rfl (fun _ => rfl) rfl (by kernel_rfl) rfl) rfl fun v w136 hv => ?_
    clear hM
    obtain ⟨A137, rfl, hM, hf⟩ := hv
    refine cut_someE hF fun hq142 hF => ?_
    refine RL.eff (E.app (enc := e_flow_Record) (xs := lv116) (ys := ([xv126] : List T_flow_Record)) (j := 5) hM rfl sl55 ze62 rfl rfl rfl rfl rfl (hM.rd (i := 7) rfl) (fun _ => One.all rfl) (of_decide_eq_true hq142)) rfl fun v w141 hv => ?_
    clear hM
    obtain ⟨A139, c140, rfl, hM, hf⟩ := hv
    refine va rfl rfl ?_
    refine RL.nil ?_
    refine KQ.blk_n ?_
    refine KQ.then_k ?_
    replace hM := hM.pick [0, 1, 2, 3, 4, 5] rfl (by decide)
    exact fun a ha => ⟨A139, c140, (lv116 ++ ([xv126] : List T_flow_Record)), ha.less (less_cons rfl (less_cons rfl (less_cons rfl (less_cons rfl (less_cons rfl (less_cons rfl less_nil)))))), hM, hF⟩
   rw [if_neg (ne_true hc)] at hF
   refine KC.skip ?_
   refine KQ.blk_n ?_
   refine KQ.then_k ?_
   replace hM := hM.pick [0, 1, 2, 3, 4, 5] rfl (by decide)
   exact fun a ha => ⟨A114, c115, lv116, ha.less (less_cons rfl (less_cons rfl (less_cons rfl (less_cons rfl (less_cons rfl (less_cons rfl less_nil)))))), hM, hF⟩
  rintro a w153 ⟨A150, c151, lv152, ha, hM, hF⟩
  refine KC.app ha ?_
  clear ha
  unfold F_cache_Cache_Advance_j2 at hF
  refine KC.region ?_
  refine RL.val (O.add rfl rfl) rfl ?_
  refine vm rfl rfl ?_
  refine RL.nil ?_
  refine KQ.then_k ?_
  exact fun a ha => ⟨k120, Nat.lt_succ_self k120, A150, c151, lv152, (IntKind.i64.wrap (t117 + 1)), ha.less (less_cons rfl (less_cons rfl (less_cons rfl (less_cons rfl (less_cons rfl (less_cons rfl less_nil)))))), hM, hF⟩
 rw [if_neg (ne_true hc)] at hF
 refine KC.exit ?_
 refine KQ.thx hQ122 ?_
 clear hQ122 Q122
 refine KQ.then_x ?_
 refine KQ.blk_x ?_
 refine KQ.thn hQ30 ?_
 clear hQ30 Q30
 refine sr fun Q154 hQ154 => ?_
 refine vm rfl rfl ?_
 refine RL.val (O.mkf rfl rfl) rfl ?_
 refine obindE hF fun y155 hx156 hF => ?_
 refine RL.call Tryz.func48 bd48 rfl rfl (c_slices_SortFunc_flow_Record_flow_Record_cache_Cache_Advance_1 _ _ _ lv116 _ _ (T_cache_Cache.mk tick13 cv1.f_bounds cv1.f_places cv1.f_flows) _ _ _ _ (hM.lent [5, 4, 3] rfl (by decide)) _ hx156) fun v w157 hv => ?_
 obtain ⟨rfl, hw159, hN158⟩ := hv
 replace hM := hM.callL [5] [0, 1, 2, 3, 4] rfl rfl (by decide) rfl hN158
 refine RL.reslot (t := 5) rfl hw159 ?_
 refine RL.reslot (t := 41) rfl hw159 ?_
 refine nt hQ154 ?_
 clear hQ154 Q154
 refine sr fun Q160 hQ160 => ?_
 refine RL.val (O.load sc27 rfl (Cs.adds [] ((hM.bx (i := 4) rfl)) rfl)) rfl ?_
 refine RL.val (O.mkf rfl rfl) rfl ?_
 refine vm rfl rfl ?_
 refine RL.icall Tryz.func53 bd53 rfl rfl rfl Tryz.ntmps53 rfl ?_
 refine sr fun Q161 hQ161 => ?_
 refine va rfl rfl ?_
 refine nt hQ161 ?_
 clear hQ161 Q161
 refine KC.seqH fun Q162 hQ162 => ?_
 refine sr fun Q163 hQ163 => ?_
 refine vm rfl rfl ?_
 refine RL.val (O.len sl55 rfl) rfl ?_
 refine vm rfl rfl ?_
 refine nt hQ163 ?_
 clear hQ163 Q163
 refine KC.block ?_
 refine KC.loop (fun k286 a w284 => ∃ (g267 : Nat) (A269 : Option Addr) (c270 : Nat) (A274 : Option Addr) (c275 : Nat) (A279 : Option Addr) (c280 : Nat) (p260 : Int) (p261 : Int) (p262 : Int) (p263 : Int) (p264 : Int) (p265 : Int) (p271 : List T_table_Slot) (p272 : Int) (p276 : List T_flow_Record) (xv281 : List T_flow_Record) (t283 : Int), Kn 27 [(0, .pointer (some ⟨g2, 0, none⟩)), (1, .func (.func 54) #[] #[.pointer (some ⟨g16, 0, none⟩)]), (6, .slice A279 (xv281).length c280), (9, .slice A114 (y155).length c115), (10, vI (y155.length : Int)), (11, vI t283)] a ∧ Mem w [some g2, some g4, rblk A6 c7, rblk A9 c10] w284 [.row A269 c270 140 39 (p271).length ((p271).flatMap e_table_Slot), .box g267 119 [.slice A269 (p271).length c270, vI p272], .row A274 c275 62 44 (p276).length ((p276).flatMap e_flow_Record), .box g2 tg12 [v64 p260, vI p261, v64 p262, v64 p263, v64 p264, v64 p265, .pointer (some ⟨g267, 0, none⟩), .slice A274 (p276).length c275], .box g16 27 [.pointer (some ⟨g2, 0, none⟩)], .row A279 c280 62 44 (xv281).length ((xv281).flatMap e_flow_Record), .row A114 c115 62 44 (y155).length ((y155).flatMap e_flow_Record)] ∧ F_cache_Cache_Advance_L2 y155 k286 p260 p261 p262 p263 p264 p265 p271 p272 p276 xv281 t283 = some r) ?_ ?_
 ·replace hM := hM.nilrow 62 44
  replace hM := hM.pick [0, 1, 2, 3, 4, 6, 5] rfl (by decide)
  exact fun a ha => ⟨fuel0, g4, A6, c7, A9, c10, none, 0, tick13, cv1.f_bounds.f_Flows, cv1.f_bounds.f_Idle, cv1.f_bounds.f_Active, cv1.f_bounds.f_Packets, cv1.f_bounds.f_Bytes, cv1.f_places.f_slots, cv1.f_places.f_many, cv1.f_flows, ([]), 0, ha.less (less_cons rfl (less_cons rfl (less_cons rfl (less_cons rfl (less_cons rfl (less_cons rfl less_nil)))))), hM, hF⟩
 rintro k286 a w284 ⟨g267, A269, c270, A274, c275, A279, c280, p260, p261, p262, p263, p264, p265, p271, p272, p276, xv281, t283, ha, hM, hF⟩
 refine KC.app ha ?_
 clear ha
 cases k286 with
 | zero => exact (none_some hF).elim
 | succ k286 =>
 have hF : F_cache_Cache_Advance_l2 (F_cache_Cache_Advance_L2 y155 k286) y155 p260 p261 p262 p263 p264 p265 p271 p272 p276 xv281 t283 = some r := hF
 unfold F_cache_Cache_Advance_l2 at hF
 refine sr fun Q287 hQ287 => ?_
 refine RL.val (O.lss rfl rfl) rfl ?_
 refine nt hQ287 ?_
 clear hQ287 Q287
 refine KC.seqH fun Q288 hQ288 => ?_
 refine KC.cond rfl (fun hc => ?_) (fun hc => ?_)
 ·rw [if_pos hc] at hF
  refine KC.skip ?_
  refine KQ.thn hQ288 ?_
  clear hQ288 Q288
  refine KC.seqH fun Q289 hQ289 => ?_
  refine KC.block ?_
  refine sr fun Q290 hQ290 => ?_
  refine obindE hF fun xv293 hx292 hF => ?_
  have hA291 := Rd.atN (f := e_flow_Record) (s := 44) (fun _ => rfl) (by decide) (hM.rd (i := 6) rfl) hx292
  refine RL.val (O.idxA sl55 (hA291) rfl rfl) rfl ?_
  refine RL.val (O.loadN (cs := (xv293.cs)) ag62 rfl (hA291).cells) rfl ?_
  refine RL.eff (E.alloc hM ze62) rfl fun v w295 hv => ?_
  clear hM
  obtain ⟨g294, rfl, hM, hf⟩ := hv
  refine RL.effs (E.stB (j := 7) (off := 0) (vs := (xv293.cs)) (cs' := (xv293.cs)) hM rfl sz62 rfl (adds_eq [] rfl) rfl rfl (One.all rfl) rfl rfl) fun w297 hM1 => ?_
  clear hM
  have hM := hM1
  clear hM1
  refine nt hQ290 ?_
  clear hQ290 Q290
  replace hM := hM.drewN 1
  refine KC.draw [] [7, 9] [6, 7, 8, 9] [0, 1, 2, 4, 10] (.ofList [0, 1, 2, 3, 4, 5, 6, 7, 8, 9, 10]) moP (by kernel_rfl) ?_
  refine RD.p rfl rfl rfl rfl (fun w' => O.move rfl) ?_
  refine RD.p rfl rfl rfl rfl (fun w' => O.move rfl) ?_
  refine RD.p rfl rfl rfl rfl (fun w' => O.fldA fl62_0 (by decide) rfl) ?_
  refine RD.q rfl rfl rfl rfl (fun w' hf => O.loadN (cs := (xv293.f_Key.cs)) ag42 rfl (Cs.addsN [0] ((hM.bx (i := 7) rfl).fut hf) rfl)) ?_
  refine RD.p rfl rfl rfl rfl (fun w' => O.move rfl) ?_
  refine RD.q rfl rfl rfl rfl (fun w' hf => O.loadN (cs := (xv293.cs)) ag62 rfl (Cs.addsN [] ((hM.bx (i := 7) rfl).fut hf) rfl)) ?_
  refine obindE hF fun y298 hx299 hF => ?_
  refine RD.mcallv rfl rfl trivial (first := []) (captured := [.pointer (some ⟨g16, 0, none⟩)]) rfl Tryz.func54 bd54 rfl rfl (c_cache_Cache_Advance_2 _ _ _ (T_cache_Cache.mk p260 (T_cache_Bounds.mk p261 p262 p263 p264 p265) (T_table_Table.mk p271 p272) p276) _ _ _ _ (hM.lent [4, 3] rfl (by decide)) xv293 _ hx299) fun v w300 hv => ?_
  obtain ⟨rfl, hN301⟩ := hv
  refine ⟨fun _ => hN301.fut, ?_⟩
  replace hM := hM.call0 hN301
  refine obindE hF fun y302 hx303 hF => ?_
  refine RD.mcall rfl rfl trivial Tryz.func46 bd46 rfl rfl (c_cache_Cache_end _ _ _ (T_cache_Cache.mk p260 (T_cache_Bounds.mk p261 p262 p263 p264 p265) (T_table_Table.mk p271 p272) p276) _ _ _ _ _ (hM.lent [3, 1, 0, 2] rfl (by decide)) xv293.f_Key y298 _ hx303) fun v w304 hv => ?_
  obtain ⟨g306, A308, c309, A311, c312, rfl, hN305⟩ := hv
  refine ⟨fun h => (by cases h), ?_⟩
  replace hM := hM.callL [3, 1, 0, 2] [4, 5, 6, 7] rfl rfl (by decide) rfl hN305
  refine RD.meff rfl rfl (E.bsl (enc := e_flow_Record) (xs := ([y302.1] : List T_flow_Record)) hM sl55 ze62 rfl rfl rfl (fun _ => rfl) rfl (by kernel_rfl) rfl) rfl fun v w314 hv => ?_
  clear hM
  obtain ⟨A315, rfl, hM, hf⟩ := hv
  refine ⟨fun _ => hf, ?_⟩
  refine cut_someE hF fun hq320 hF => ?_
  refine RD.meff rfl rfl (E.app (enc := e_flow_Record) (xs := xv281) (ys := ([y302.1] : List T_flow_Record)) (j := 1) hM rfl sl55 ze62 rfl rfl rfl rfl rfl (hM.rd (i := 8) rfl) (fun _ => One.all rfl) (of_decide_eq_true hq320)) rfl fun v w319 hv => ?_
  clear hM
  obtain ⟨A317, c318, rfl, hM, hf⟩ := hv
  refine ⟨fun h => (by cases h), ?_⟩
  refine RD.p rfl rfl rfl rfl (fun w' => O.assign rfl) ?_
  refine RD.nil ?_
  refine KQ.blk_n ?_
  refine KQ.thn hQ289 ?_
  clear hQ289 Q289
  replace hM := hM.pick [0, 1, 2, 4, 5, 6, 7] rfl (by decide)
  refine KC.region ?_
  refine RL.val (O.add rfl rfl) rfl ?_
  refine vm rfl rfl ?_
  refine RL.nil ?_
  refine KQ.then_k ?_
  replace hM := hM.pick [5, 4, 6, 3, 0, 1, 2] rfl (by decide)
  exact fun a ha => ⟨k286, Nat.lt_succ_self k286, g306, A308, c309, A311, c312, A317, c318, y302.2.f_tick, y302.2.f_bounds.f_Flows, y302.2.f_bounds.f_Idle, y302.2.f_bounds.f_Active, y302.2.f_bounds.f_Packets, y302.2.f_bounds.f_Bytes, y302.2.f_places.f_slots, y302.2.f_places.f_many, y302.2.f_flows, (xv281 ++ ([y302.1] : List T_flow_Record)), (IntKind.i64.wrap (t283 + 1)), ha.less (less_cons rfl (less_cons rfl (less_cons rfl (less_cons rfl (less_cons rfl (less_cons rfl less_nil)))))), hM, hF⟩
 rw [if_neg (ne_true hc)] at hF
 refine KC.exit ?_
 refine KQ.thx hQ288 ?_
 clear hQ288 Q288
 refine KQ.then_x ?_
 refine KQ.blk_x ?_
 refine KQ.thn hQ162 ?_
 clear hQ162 Q162
 refine sr fun Q322 hQ322 => ?_
 refine vm rfl rfl ?_
 refine va rfl rfl ?_
 refine nt hQ322 ?_
 clear hQ322 Q322
 refine KC.ret ?_
 refine KQ.rets Tryz.results53 (RVs.cons (RV.tm rfl) RVs.nil) ?_
 refine ⟨.slice A279 (xv281).length c280, rfl, ?_⟩
 refine va rfl rfl ?_
 refine nt hQ160 ?_
 clear hQ160 Q160
 refine KC.ret ?_
 have hE := Option.some.inj hF
 clear hF
 subst hE
 replace hM := hM.pick [3, 1, 0, 2, 5] rfl (by decide)
 refine KQ.rets Tryz.results18 (RVs.cons (RV.tm rfl) RVs.nil) ?_
 exact ⟨_, rfl, g267, A269, c270, A274, c275, A279, c280, rfl, hM⟩
set_option maxRecDepth 100000 in
set_option maxHeartbeats 40000000 in
theorem c_cache_Cache_begin_1 (w : World) (av1 : T_flow_Record) (b2 : T_flow_Record) (r : Int) (hF : F_cache_Cache_begin_1 av1 b2 = some r) :
  CallsR Tryz.prog 76 [.agg (av1.cs).toArray, .agg (b2.cs).toArray] w (fun v w' => v = vI r ∧ Mem w [] w' []) := by
 refine calls_KC Tryz.func76 rfl Tryz.ntmps76 rfl ?_
 have hM := Mem.init w
 unfold F_cache_Cache_begin_1 at hF
 refine sr fun Q3 hQ3 => ?_
 refine RL.eff (E.box (vs := (av1.cs)) hM rfl rfl) rfl fun v w5 hv => ?_
 clear hM
 obtain ⟨g4, rfl, hM, hf⟩ := hv
 refine RL.eff (E.box (vs := (b2.cs)) hM rfl rfl) rfl fun v w8 hv => ?_
 clear hM
 obtain ⟨g7, rfl, hM, hf⟩ := hv
 refine va rfl rfl ?_
 refine nt hQ3 ?_
 clear hQ3 Q3
 refine KC.seqH fun Q10 hQ10 => ?_
 replace hM := hM.drewN 1
 refine KC.draw [] [] [4, 7, 8, 9] [0, 2, 10] (.ofList [0, 1, 2, 3, 5, 6, 4, 7, 8, 9, 10]) moP (by kernel_rfl) ?_
 refine RD.p rfl rfl rfl rfl (fun w' => O.fldA fl62_4 (by decide) rfl) ?_
 refine RD.q rfl rfl rfl rfl (fun w' hf => O.load sc22 rfl (Cs.adds [40] ((hM.bx (i := 0) rfl).fut hf) rfl)) ?_
 refine RD.p rfl rfl rfl rfl (fun w' => O.fldA fl62_4 (by decide) rfl) ?_
 refine RD.q rfl rfl rfl rfl (fun w' hf => O.load sc22 rfl (Cs.adds [40] ((hM.bx (i := 1) rfl).fut hf) rfl)) ?_
 refine RD.q rfl rfl rfl rfl (fun w' hf => O.loadN (cs := (av1.cs)) ag62 rfl (Cs.addsN [] ((hM.bx (i := 0) rfl).fut hf) rfl)) ?_
 refine RD.q rfl rfl rfl rfl (fun w' hf => O.loadN (cs := (b2.cs)) ag62 rfl (Cs.addsN [] ((hM.bx (i := 1) rfl).fut hf) rfl)) ?_
 refine obindE hF fun y11 hx12 hF => ?_
 refine RD.mcall rfl rfl trivial Tryz.func51 bd51 rfl rfl (c_cmp_Compare_uint64 _ av1.f_Last b2.f_Last _ hx12) fun v w13 hv => ?_
 obtain ⟨rfl, hN14⟩ := hv
 refine ⟨fun _ => hN14.fut, ?_⟩
 replace hM := hM.call0 hN14
 refine obindE hF fun y15 hx16 hF => ?_
 refine RD.mcall rfl rfl trivial Tryz.func52 bd52 rfl rfl (c_cache_byKey _ av1 b2 _ hx16) fun v w17 hv => ?_
 obtain ⟨rfl, hN18⟩ := hv
 refine ⟨fun _ => hN18.fut, ?_⟩
 replace hM := hM.call0 hN18
 refine RD.meff rfl rfl (E.bsl (enc := (eI .i64)) (xs := ([y11, y15] : List Int)) hM sl148 ze3 rfl rfl rfl (fun _ => rfl) rfl (by kernel_rfl) rfl) rfl fun v w19 hv => ?_
 clear hM
 obtain ⟨A20, rfl, hM, hf⟩ := hv
 refine ⟨fun _ => hf, ?_⟩
 refine obindE hF fun y22 hx23 hF => ?_
 refine RD.mcall rfl rfl trivial Tryz.func50 bd50 rfl rfl (c_cmp_Or_int _ _ _ ([y11, y15] : List Int) (hM.rd (i := 2) rfl) _ hx23) fun v w24 hv => ?_
 obtain ⟨rfl, hN25⟩ := hv
 refine ⟨fun _ => hN25.fut, ?_⟩
 replace hM := hM.call0 hN25
 refine RD.p rfl rfl rfl rfl (fun w' => O.assign rfl) ?_
 refine RD.nil ?_
 refine KQ.thn hQ10 ?_
 clear hQ10 Q10
 refine KC.ret ?_
 have hE := Option.some.inj hF
 clear hF
 subst hE
 replace hM := hM.pick [] rfl (by decide)
 refine KQ.rets Tryz.results76 (RVs.cons (RV.tm rfl) RVs.nil) ?_
 exact ⟨_, rfl, rfl, hM⟩
end Go.Proofs.YtkpnocgfhipidaaGreat
