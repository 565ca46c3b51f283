/- BitsKnown: what it computes, and that its code computes that. Its acts hold parts of a row that grows. (The straight lines were printed by a program of this claim.) -/
import Derived.Test.YtpbkjellpboefaaW
import Derived.Test.YtpbkjellpboefaaOxW
set_option linter.unusedVariables false
namespace Go.Proofs.Ytpbkjellpboefaa
open Go Go.Ox Go.RowKit
/-! ### What it computes -/
abbrev kB (i : Int) : Int := IntKind.u8.wrap (IntKind.i64.wrap (i * 37))
abbrev kV (y i : Int) : Int := IntKind.u64.wrap ((IntKind.u64.wrap (y + (IntKind.u64.wrap (Int.tmod (IntKind.i64.wrap (Int.tdiv i 9)) 3)))) - 1)
abbrev kS (i : Int) : Int := IntKind.i64.wrap ((Int.tmod (IntKind.i64.wrap (i * 5)) 11) - 1)
abbrev kA (i : Int) : Int := IntKind.i64.wrap ((Int.tmod (IntKind.i64.wrap (i * 7)) 20) - 1)
abbrev kZ (i : Int) : Int := IntKind.i64.wrap ((Int.tmod (IntKind.i64.wrap (i * 3)) 10) - 1)
abbrev RecK := List Int → List Int → List Int → List T_law01_Act → Int → Option Bool
def F_law01_BitsKnown_j1 (rec : RecK) (b lv sizes : List Int) (acts : List T_law01_Act) (i : Int) (t : Bool) : Option Bool :=
  if t = true then some false else rec b lv sizes acts (IntKind.i64.wrap (i + 1))
def F_law01_BitsKnown_m2 (rec : RecK) (b lv sizes : List Int) (acts : List T_law01_Act) (y i : Int) : Option Bool :=
  (F_law01_BitsGets b (IntKind.i64.wrap ((Int.tmod (IntKind.i64.wrap (i * 5)) 40) - 1)) (IntKind.i64.wrap ((Int.tmod i 11) - 1)) (kV y i)).bind fun y169 =>
  if (!y169) = true then
  F_law01_BitsKnown_j1 rec b lv sizes acts i true
  else
  (F_law01_BitsBack lv sizes (IntKind.i64.wrap ((Int.tmod (IntKind.i64.wrap (i * 3)) 20) - 1)) (kV y i)).bind fun y173 =>
  if (!y173) = true then
  F_law01_BitsKnown_j1 rec b lv sizes acts i true
  else
  (gidx acts i).bind fun x =>
  (F_law01_BitsNone x).bind fun y180 =>
  F_law01_BitsKnown_j1 rec b lv sizes acts i (!y180)
def F_law01_BitsKnown_m1 (rec : RecK) (b lv sizes : List Int) (acts : List T_law01_Act) (y i : Int) : Option Bool :=
  if (decide ((b.length : Int) ≠ 0)) = true then
  (gcut b 0 (Int.tmod (Int.tmod i 7) (b.length : Int))).bind fun cut =>
  if (decide (acts.length + 1 ≤ lim)) = true then
  F_law01_BitsKnown_m2 rec b lv sizes (acts ++ [⟨Int.tmod i 4, kA i, kV y i, kZ i, cut⟩]) y i
  else none
  else none
def F_law01_BitsKnown_j2 (t212 : Bool) : Option Bool :=
  some t212
def F_law01_BitsKnown_e1 (b sizes : List Int) (acts : List T_law01_Act) : Option Bool :=
  (F_law01_BitsWrites acts).bind fun y180 =>
  if y180 = true then
  (F_law01_BitsReads b sizes).bind fun y183 =>
  if y183 = true then
  (F_law01_BitsReads b ([(-13), 2, (-10), 8, (-11), (-400), 9, 0, 8, 8, 8, 1, (-10)] : List Int)).bind fun y190 =>
  if y190 = true then
  (F_law01_BitsGets [] 4611686018427387904 8 18446744073709551615).bind fun y194 =>
  if y194 = true then
  (F_law01_BitsBack ([9223372036854775808] : List Int) ([8] : List Int) 9223372036854775807 5).bind fun y204 =>
  if y204 = true then
  (F_law01_works).bind fun y208 =>
  F_law01_BitsKnown_j2 y208
  else
  F_law01_BitsKnown_j2 false
  else
  F_law01_BitsKnown_j2 false
  else
  F_law01_BitsKnown_j2 false
  else
  F_law01_BitsKnown_j2 false
  else
  F_law01_BitsKnown_j2 false
def F_law01_BitsKnown_l1 (rec : RecK) (b lv sizes : List Int) (acts : List T_law01_Act) (i : Int) : Option Bool :=
  if (decide (i < 36)) = true then
  (F_ref01_Power (Int.tmod i 9)).bind fun y =>
  if (decide (b.length + ([kB i] : List Int).length ≤ lim)) = true then
  if (decide (lv.length + ([kV y i] : List Int).length ≤ lim)) = true then
  if (decide (sizes.length + ([kS i] : List Int).length ≤ lim)) = true then
  F_law01_BitsKnown_m1 rec (b ++ [kB i]) (lv ++ [kV y i]) (sizes ++ [kS i]) acts y i
  else none
  else none
  else none
  else
  F_law01_BitsKnown_e1 b sizes acts
def F_law01_BitsKnown_L1 : Nat → RecK
  | 0 => fun _ _ _ _ _ => none
  | k + 1 => F_law01_BitsKnown_l1 (F_law01_BitsKnown_L1 k)
def F_law01_BitsKnown : Option Bool :=
  F_law01_BitsKnown_L1 fuel0 [] [] [] [] 0
/-! ### Acts, and where their bytes lie -/
abbrev HE := Option Addr × Nat × T_law01_Act
abbrev hact (h : HE) : T_law01_Act := h.2.2
abbrev hcs (h : HE) : List Value := [vI h.2.2.f_Do, vI h.2.2.f_At, v64 h.2.2.f_V, vI h.2.2.f_Size, .slice h.1 h.2.2.f_B.length h.2.1]
def HRd (w : World) (h : HE) : Prop := Rd w h.1 h.2.1 1 h.2.2.f_B.length (h.2.2.f_B.flatMap (eI .u8))
def Olds (hs : List HE) (w : World) : Prop := ∀ h ∈ hs, HRd w h
def Curs (A : Option Addr) (b : List Int) (hs : List HE) : Prop := ∀ h ∈ hs, h.1 = A ∧ h.2.2.f_B.length ≤ h.2.1 ∧ h.2.1 ≤ maxLen ∧ (A = none → h.2.1 = 0) ∧ ∃ k, k ≤ b.length ∧ h.2.2.f_B = b.take k
def Hd (A : Option Addr) (b : List Int) (hs old : List HE) : Prop := (b = [] → hs = []) ∧ ∃ cur, hs = old ++ cur ∧ Curs A b cur
theorem fl_map (b : List Int) : b.flatMap (eI .u8) = b.map (Value.int .u8) := by
  induction b with
  | nil => rfl
  | cons x r ih => rw [List.flatMap_cons, ih]; rfl
theorem cur_rd {w : World} {A : Option Addr} {c : Nat} {b : List Int} {cur : List HE} {h : HE} (hr : Rd w A c 1 b.length (b.flatMap (eI .u8))) (hc : Curs A b cur) (hh : h ∈ cur) : HRd w h := by
  obtain ⟨e1, h1, h2, h3, k, hk, e2⟩ := hc h hh
  have e3 : h.2.2.f_B.flatMap (eI .u8) = (b.flatMap (eI .u8)).take k := by rw [e2, fl_map, fl_map, List.map_take]
  refine ⟨by rw [fl_map, List.length_map, Nat.mul_one], h1, h2, fun hn => ?_, fun hn => h3 (e1 ▸ hn)⟩
  have hn2 : 0 < b.length := by rw [e2, List.length_take] at hn; omega
  obtain ⟨ad, ea, hlt, hcs⟩ := hr.adr hn2
  exact ⟨ad, e1.trans ea, hlt, by rw [e3]; exact hcs.take k⟩
theorem Hd.rd {w : World} {A : Option Addr} {c : Nat} {b : List Int} {hs old : List HE} (hd : Hd A b hs old) (ho : Olds old w) (hr : Rd w A c 1 b.length (b.flatMap (eI .u8))) : ∀ h ∈ hs, HRd w h := fun h hh => by
  obtain ⟨_, cur, rfl, hc⟩ := hd
  rcases List.mem_append.1 hh with hh | hh
  · exact ho h hh
  · exact cur_rd hr hc hh
theorem grow_b {w0 w' : World} {S : List (Option Nat)} {A A' : Option Addr} {c c' : Nat} {b ys : List Int} {rl rs ra tmp : Ob} {hs old : List HE} {Z : List Nat} (hy : ys ≠ []) (hd : Hd A b hs old)
    (h : ((A' = A ∨ b = []) ∧ Mem w0 S w' ([.row A c 5 1 b.length (b.flatMap (eI .u8)), rl, rs, ra, .res Z (Olds old), tmp].set 0 (.row A' c' 5 1 (b ++ ys).length ((b ++ ys).flatMap (eI .u8))))) ∨ Mem w0 S w' ([.row A c 5 1 b.length (b.flatMap (eI .u8)), rl, rs, ra, .res Z (Olds old), tmp] ++ [.row A' c' 5 1 (b ++ ys).length ((b ++ ys).flatMap (eI .u8))])) :
    ∃ old' Z', Mem w0 S w' [.row A' c' 5 1 (b ++ ys).length ((b ++ ys).flatMap (eI .u8)), rl, rs, ra, .res Z' (Olds old')] ∧ Hd A' (b ++ ys) hs old' := by
  have hne : b ++ ys ≠ [] := fun e => hy (List.append_eq_nil_iff.1 e).2
  obtain ⟨hd1, cur, hd2, hd3⟩ := hd
  rcases h with ⟨ha, hM⟩ | hM
  · have hM2 := hM.pick [0, 1, 2, 3, 4] rfl (by decide)
    refine ⟨old, Z, hM2, fun e => (hne e).elim, cur, hd2, ?_⟩
    rcases ha with rfl | hb
    · intro h hh
      obtain ⟨e1, h1, h2, h3, k, hk, e2⟩ := hd3 h hh
      exact ⟨e1, h1, h2, h3, k, by rw [List.length_append]; omega, by rw [e2, List.take_append_of_le_length hk]⟩
    · have := hd1 hb
      rw [this] at hd2
      have hcur : cur = [] := (List.append_eq_nil_iff.1 hd2.symm).2
      subst hcur
      exact fun h hh => by cases hh
  · obtain ⟨Z', hM2⟩ := hM.glue [0, 4] [6, 1, 2, 3] rfl rfl (by decide) rfl (fun _ => Olds hs) (fun Z1 w1 ho hz h hh => by
      subst hd2
      rcases List.mem_append.1 hh with hh | hh
      · exact Ob.res_φ (ho 1 _ rfl) h hh
      · exact cur_rd (Ob.rd (ho 0 _ rfl)) hd3 hh)
    exact ⟨hs, Z', hM2, fun e => (hne e).elim, [], by simp, fun h hh => by cases hh⟩
theorem Hd.add {A : Option Addr} {c : Nat} {b cut : List Int} {hs old : List HE} {q : Int} {w : World} {x : T_law01_Act} (hd : Hd A b hs old) (hr : Rd w A c 1 b.length (b.flatMap (eI .u8))) (hy : gcut b 0 q = some cut) (hx : x.f_B = cut) (hb : b ≠ []) : Hd A b (hs ++ [(A, c, x)]) old := by
  obtain ⟨_, cur, rfl, hc⟩ := hd
  obtain ⟨h3, h4, h5, h6, h7⟩ := gcut_some hy
  refine ⟨fun e => (hb e).elim, cur ++ [(A, c, x)], by rw [List.append_assoc], fun h hh => ?_⟩
  rcases List.mem_append.1 hh with hh | hh
  · exact hc h hh
  · rw [List.mem_singleton.1 hh]
    have hcap := hr.cap
    refine ⟨rfl, ?_, hr.most, hr.nil, q.toNat, by omega, ?_⟩
    · show x.f_B.length ≤ c
      rw [hx, h7]; simp only [Int.toNat_zero]; omega
    · show x.f_B = _
      rw [hx, h6]; simp
theorem gidx_map {α β : Type} {f : α → β} {xs : List α} {i : Int} {y : β} (h : gidx (xs.map f) i = some y) : ∃ x, gidx xs i = some x ∧ f x = y := by
  obtain ⟨h0, h1, h2⟩ := gidx_some h
  obtain ⟨k, rfl⟩ := Int.eq_ofNat_of_zero_le h0
  have h3 : (xs.map f)[k]? = some y := by simpa using h2
  rw [List.getElem?_map] at h3
  obtain ⟨x, hx, he⟩ := Option.map_eq_some_iff.1 h3
  have hk := (List.getElem?_eq_some_iff.1 hx).1
  refine ⟨x, ?_, he⟩
  unfold gidx at h ⊢
  simp [hx] at h ⊢
theorem acts_rd {w : World} {A : Option Addr} {c : Nat} {hs : List HE} (hr : Rd w A c 5 hs.length (hs.flatMap hcs)) (hh : ∀ h ∈ hs, HRd w h) : RdD R_law01_Act [] w A c 5 (hs.map hact) := by
  refine ⟨hs.map hcs, by simp, fun cs hc => ?_, ?_, Off.nil, fun i cs x hi hx => ?_⟩
  · obtain ⟨h, _, rfl⟩ := List.mem_map.1 hc; rfl
  · rw [List.length_map, ← List.flatMap_def]; exact hr
  · rw [List.getElem?_map] at hi hx
    obtain ⟨h, h1, rfl⟩ := Option.map_eq_some_iff.1 hi
    obtain ⟨h', h2, rfl⟩ := Option.map_eq_some_iff.1 hx
    rw [h1] at h2; cases h2
    exact ⟨h.1, h.2.1, rfl, hh h (List.mem_of_getElem? h1), Off.nil⟩
theorem O.cut0 {P : Program} {l : List (Nat × Value)} {w w1 : World} {ty t e : TypeId} {A : Option Addr} {s c b : Nat} {x hi : Operand} {k' : IntKind} {q : Int} {α : Type} {enc : α → List Value} {xs ys : List α} (ht : SliceT P t e s b) (hr : Rd w1 A c s xs.length (xs.flatMap enc)) (hy : gcut xs 0 q = some ys) (hx : ev l x = some (.slice A xs.length c)) (hhi : ev l hi = some (.int k' q)) :
    OpV P (.slice t x none (some hi) none) ty l w (.slice A ys.length c) := by
  have h := O.cuthT (ty := ty) (l := l) (w := w) ht hr hy hx hhi
  have e1 : (if c = (0 : Int).toNat then A else A.map (·.add ((0 : Int).toNat * s))) = A := by
    split
    · rfl
    · cases A with
      | none => rfl
      | some a => simp [Addr.add_zero']
  rw [e1] at h
  exact h
theorem bd3 : BD Try.f3 = true := by kernel_rfl
theorem bd4 : BD Try.f4 = true := by kernel_rfl
theorem bd5 : BD Try.f5 = true := by kernel_rfl
theorem bd6 : BD Try.f6 = true := by kernel_rfl
theorem bd7 : BD Try.f7 = true := by kernel_rfl
/-! ### The walk -/
set_option maxRecDepth 100000 in
set_option maxHeartbeats 40000000 in
theorem c_law01_BitsKnown (w : World) (r : Bool) (hF : F_law01_BitsKnown = some r) :
  CallsR Try.prog 8 [] w (fun v w' => v = vB r ∧ Mem w [] w' []) := by
 refine calls_KC Try.func8 rfl Try.ntmps8 rfl ?_
 have hM := Mem.init w
 unfold F_law01_BitsKnown at hF
 refine sr fun Q1 hQ1 => ?_
 refine va rfl rfl ?_
 refine nt hQ1 ?_
 clear hQ1 Q1
 refine sr fun Q2 hQ2 => ?_
 refine va rfl rfl ?_
 refine nt hQ2 ?_
 clear hQ2 Q2
 refine sr fun Q3 hQ3 => ?_
 refine va rfl rfl ?_
 refine nt hQ3 ?_
 clear hQ3 Q3
 refine sr fun Q4 hQ4 => ?_
 refine va rfl rfl ?_
 refine nt hQ4 ?_
 clear hQ4 Q4
 refine sr fun Q4 hQ4 => ?_
 refine va rfl rfl ?_
 refine nt hQ4 ?_
 clear hQ4 Q4
 refine KC.seqH fun Q5 hQ5 => ?_
 refine sr fun Q6 hQ6 => ?_
 refine va rfl rfl ?_
 refine nt hQ6 ?_
 clear hQ6 Q6
 refine KC.block ?_
 refine KC.loop (fun k133 a w131 => ∃ (A1 : Option Addr) (c1 : Nat) (A2 : Option Addr) (c2 : Nat) (A3 : Option Addr) (c3 : Nat) (A4 : Option Addr) (c4 : Nat) (b : List Int) (lv : List Int) (sizes : List Int) (hs old : List HE) (Z : List Nat) (i : Int), Kn 112 [(1, .slice A1 (b).length c1), (2, .slice A2 (lv).length c2), (3, .slice A3 (sizes).length c3), (4, .slice A4 (hs).length c4), (5, vI i)] a ∧ Mem w [] w131 [.row A1 c1 5 1 (b).length ((b).flatMap (eI .u8)), .row A2 c2 23 1 (lv).length ((lv).flatMap (eI .u64)), .row A3 c3 3 1 (sizes).length ((sizes).flatMap (eI .i64)), .row A4 c4 35 5 hs.length (hs.flatMap hcs), .res Z (Olds old)] ∧ Hd A1 b hs old ∧ F_law01_BitsKnown_L1 k133 b lv sizes (hs.map hact) i = some r) ?_ ?_
 ·replace hM := hM.nilrow 5 1
  replace hM := hM.nilrow 23 1
  replace hM := hM.nilrow 3 1
  replace hM := hM.nilrow 35 5
  obtain ⟨Z, hM⟩ := hM.glue [] [0, 1, 2, 3] rfl rfl (by decide) rfl (fun _ => Olds []) (fun Z w1 _ _ h hh => by cases hh)
  exact fun a ha => ⟨fuel0, none, 0, none, 0, none, 0, none, 0, [], [], [], [], [], Z, 0, ha.less (less_cons rfl (less_cons rfl (less_cons rfl (less_cons rfl (less_cons rfl less_nil))))), hM, ⟨fun _ => rfl, [], rfl, fun h hh => by cases hh⟩, hF⟩
 rintro k133 a w131 ⟨A1, c1, A2, c2, A3, c3, A4, c4, b, lv, sizes, hs, old, Z, i, ha, hM, hd, hF⟩
 refine KC.app ha ?_
 clear ha
 cases k133 with
 | zero => exact (none_some hF).elim
 | succ k133 =>
 have hF : F_law01_BitsKnown_l1 (F_law01_BitsKnown_L1 k133) b lv sizes (hs.map hact) i = some r := hF
 unfold F_law01_BitsKnown_l1 at hF
 refine KC.seqH fun Q134 hQ134 => ?_
 refine sr fun Q135 hQ135 => ?_
 refine vm rfl rfl ?_
 refine RL.val (O.lss rfl rfl) rfl ?_
 refine nt hQ135 ?_
 clear hQ135 Q135
 refine KC.cond rfl (fun hc => ?_) (fun hc => ?_)
 ·rw [if_pos hc] at hF
  refine KC.skip ?_
  refine KQ.thn hQ134 ?_
  clear hQ134 Q134
  refine KC.seqH fun Q136 hQ136 => ?_
  refine KC.block ?_
  refine sr fun Q137 hQ137 => ?_
  refine vm rfl rfl ?_
  refine RL.val (O.rem rfl rfl (by decide)) rfl ?_
  refine obindE hF fun y hx139 hF => ?_
  refine RL.call Try.func30 bd30 rfl rfl (c_ref01_Power _ (Int.tmod i 9) _ hx139) fun v w140 hv => ?_
  obtain ⟨rfl, hN141⟩ := hv
  replace hM := hM.call0 hN141
  refine vm rfl rfl ?_
  refine RL.val (O.quo rfl rfl (by decide)) rfl ?_
  refine RL.val (O.rem rfl rfl (by decide)) rfl ?_
  refine RL.val (O.conv un3 Try.underlying23 rfl) rfl ?_
  refine RL.val (O.add rfl rfl) rfl ?_
  refine RL.val (O.sub rfl rfl) rfl ?_
  refine va rfl rfl ?_
  refine nt hQ137 ?_
  clear hQ137 Q137
  refine sr fun Q142 hQ142 => ?_
  refine vm rfl rfl ?_
  refine vm rfl rfl ?_
  refine RL.val (O.mul rfl rfl) rfl ?_
  refine RL.val (O.conv un3 Try.underlying5 rfl) rfl ?_
  refine RL.eff (E.bsl (enc := (eI .u8)) (xs := ([kB i] : List Int)) hM sl22 ze5 rfl rfl rfl (fun _ => rfl) rfl (by kernel_rfl) rfl) rfl fun v w143 hv => ?_
  clear hM
  obtain ⟨A144, rfl, hM, hf⟩ := hv
  refine cut_someE hF fun hq149 hF => ?_
  refine RL.eff (E.appK (enc := (eI .u8)) (xs := b) (ys := ([kB i] : List Int)) (j := 0) hM rfl sl22 ze5 rfl rfl rfl rfl rfl (hM.rd (i := 5) rfl) (fun _ => One.all rfl) (of_decide_eq_true hq149) (Nat.zero_lt_one)) rfl fun v w148 hv => ?_
  clear hM
  obtain ⟨A1', c1', rfl, hg⟩ := hv
  obtain ⟨old', Z', hM, hd'⟩ := grow_b (by simp) hd hg
  clear hg hd
  refine va rfl rfl ?_
  refine nt hQ142 ?_
  clear hQ142 Q142
  refine sr fun Q151 hQ151 => ?_
  refine vm rfl rfl ?_
  refine vm rfl rfl ?_
  refine RL.eff (E.bsl (enc := (eI .u64)) (xs := ([kV y i] : List Int)) hM sl47 ze23 rfl rfl rfl (fun _ => rfl) rfl (by kernel_rfl) rfl) rfl fun v w152 hv => ?_
  clear hM
  obtain ⟨A153, rfl, hM, hf⟩ := hv
  refine cut_someE hF fun hq158 hF => ?_
  refine RL.eff (E.app (enc := (eI .u64)) (xs := lv) (ys := ([kV y i] : List Int)) (j := 1) hM rfl sl47 ze23 rfl rfl rfl rfl rfl (hM.rd (i := 5) rfl) (fun _ => One.all rfl) (of_decide_eq_true hq158)) rfl fun v w157 hv => ?_
  clear hM
  obtain ⟨A2', c2', rfl, hM, hf⟩ := hv
  refine va rfl rfl ?_
  refine nt hQ151 ?_
  clear hQ151 Q151
  replace hM := hM.pick [0, 1, 2, 3, 4] rfl (by decide)
  refine sr fun Q160 hQ160 => ?_
  refine vm rfl rfl ?_
  refine vm rfl rfl ?_
  refine RL.val (O.mul rfl rfl) rfl ?_
  refine RL.val (O.rem rfl rfl (by decide)) rfl ?_
  refine RL.val (O.sub rfl rfl) rfl ?_
  refine RL.eff (E.bsl (enc := (eI .i64)) (xs := ([kS i] : List Int)) hM sl48 ze3 rfl rfl rfl (fun _ => rfl) rfl (by kernel_rfl) rfl) rfl fun v w161 hv => ?_
  clear hM
  obtain ⟨A162, rfl, hM, hf⟩ := hv
  refine cut_someE hF fun hq167 hF => ?_
  refine RL.eff (E.app (enc := (eI .i64)) (xs := sizes) (ys := ([kS i] : List Int)) (j := 2) hM rfl sl48 ze3 rfl rfl rfl rfl rfl (hM.rd (i := 5) rfl) (fun _ => One.all rfl) (of_decide_eq_true hq167)) rfl fun v w166 hv => ?_
  clear hM
  obtain ⟨A3', c3', rfl, hM, hf⟩ := hv
  refine va rfl rfl ?_
  refine nt hQ160 ?_
  clear hQ160 Q160
  replace hM := hM.pick [0, 1, 2, 3, 4] rfl (by decide)
  have hbne : b ++ [kB i] ≠ [] := by simp
  generalize b ++ ([kB i] : List Int) = b' at *
  generalize lv ++ ([kV y i] : List Int) = lv' at *
  generalize sizes ++ ([kS i] : List Int) = sizes' at *
  unfold F_law01_BitsKnown_m1 at hF
  refine sr fun Q170 hQ170 => ?_
  refine vm rfl rfl ?_
  refine vm rfl rfl ?_
  refine RL.val (O.rem rfl rfl (by decide)) rfl ?_
  refine vm rfl rfl ?_
  refine RL.val (O.mul rfl rfl) rfl ?_
  refine RL.val (O.rem rfl rfl (by decide)) rfl ?_
  refine RL.val (O.sub rfl rfl) rfl ?_
  refine vm rfl rfl ?_
  refine vm rfl rfl ?_
  refine RL.val (O.mul rfl rfl) rfl ?_
  refine RL.val (O.rem rfl rfl (by decide)) rfl ?_
  refine RL.val (O.sub rfl rfl) rfl ?_
  refine vm rfl rfl ?_
  refine vm rfl rfl ?_
  refine RL.val (O.rem rfl rfl (by decide)) rfl ?_
  refine vm rfl rfl ?_
  refine RL.val (O.len sl22 rfl) rfl ?_
  refine cut_someE hF fun hq170 hF => ?_
  refine RL.val (O.rem rfl rfl (of_decide_eq_true hq170)) rfl ?_
  refine obindE hF fun cut hy171 hF => ?_
  refine RL.val (O.cut0 sl22 (hM.rd (i := 0) rfl) hy171 rfl rfl) rfl ?_
  refine cut_someE hF fun hq171 hF => ?_
  generalize hx172 : (⟨Int.tmod i 4, kA i, kV y i, kZ i, cut⟩ : T_law01_Act) = x172 at hF
  have hd2 := hd'.add (hM.rd (i := 0) rfl) hy171 (x := x172) (by rw [← hx172]) hbne
  refine RL.val (O.bld (cs := [vI (Int.tmod i 4), vI (kA i), v64 (kV y i), vI (kZ i), .slice A1' cut.length c1']) bt35 rfl (by kernel_rfl)) rfl ?_
  refine RL.eff (E.bsl (enc := hcs) (xs := [(A1', c1', (⟨Int.tmod i 4, kA i, kV y i, kZ i, cut⟩ : T_law01_Act))]) hM sl30 ze35 rfl rfl rfl (fun _ => rfl) rfl (by kernel_rfl) rfl) rfl fun v w173 hv => ?_
  clear hM
  obtain ⟨A173, rfl, hM, hf⟩ := hv
  rw [hx172] at hM
  have hlim : hs.length + ([(A1', c1', x172)] : List HE).length ≤ lim := by
    have := of_decide_eq_true hq171
    rw [List.length_map] at this
    exact this
  refine RL.eff (E.app (enc := hcs) (xs := hs) (ys := [(A1', c1', x172)]) (j := 3) hM rfl sl30 ze35 rfl rfl rfl rfl rfl (hM.rd (i := 5) rfl) (fun _ => One.all rfl) hlim) rfl fun v w174 hv => ?_
  clear hM
  obtain ⟨A4', c4', rfl, hM, hf⟩ := hv
  refine va rfl rfl ?_
  refine nt hQ170 ?_
  clear hQ170 Q170
  replace hM := hM.pick [0, 1, 2, 3, 4] rfl (by decide)
  have hmap : hs.map hact ++ [x172] = (hs ++ ([(A1', c1', x172)] : List HE)).map hact := by rw [List.map_append]; rfl
  rw [hmap] at hF
  generalize hs ++ ([(A1', c1', x172)] : List HE) = hs' at *
  clear hx172 hmap hlim hq171 hd'
  unfold F_law01_BitsKnown_m2 at hF
  refine KC.cut (fun a w181 => ∃ (t180 : Bool), Kn 112 [(1, .slice A1' (b').length c1'), (2, .slice A2' (lv').length c2'), (3, .slice A3' (sizes').length c3'), (4, .slice A4' (hs').length c4'), (5, vI i), (88, vB t180)] a ∧ Mem w [] w181 [.row A1' c1' 5 1 (b').length ((b').flatMap (eI .u8)), .row A2' c2' 23 1 (lv').length ((lv').flatMap (eI .u64)), .row A3' c3' 3 1 (sizes').length ((sizes').flatMap (eI .i64)), .row A4' c4' 35 5 hs'.length (hs'.flatMap hcs), .res Z' (Olds old')] ∧ F_law01_BitsKnown_j1 (F_law01_BitsKnown_L1 k133) b' lv' sizes' (hs'.map hact) i t180 = some r) ?_ ?_
  ·refine KC.region ?_
   refine vm rfl rfl ?_
   refine vm rfl rfl ?_
   refine RL.val (O.mul rfl rfl) rfl ?_
   refine RL.val (O.rem rfl rfl (by decide)) rfl ?_
   refine RL.val (O.sub rfl rfl) rfl ?_
   refine vm rfl rfl ?_
   refine RL.val (O.rem rfl rfl (by decide)) rfl ?_
   refine RL.val (O.sub rfl rfl) rfl ?_
   refine vm rfl rfl ?_
   refine obindE hF fun y169 hx170 hF => ?_
   refine RL.call Try.func3 bd3 rfl rfl (c_law01_BitsGets _ _ _ b' (hM.rd (i := 0) rfl) (IntKind.i64.wrap ((Int.tmod (IntKind.i64.wrap (i * 5)) 40) - 1)) (IntKind.i64.wrap ((Int.tmod i 11) - 1)) (kV y i) _ hx170) fun v w171 hv => ?_
   obtain ⟨rfl, hN172⟩ := hv
   replace hM := hM.call0 hN172
   refine RL.val (O.not rfl) rfl ?_
   refine vm rfl rfl ?_
   refine RL.bcase (t := 70) rfl (fun hc => ?_) (fun hc => ?_)
   ·rw [if_pos hc] at hF
    refine RL.gskip rfl rfl rfl rfl ?_
    refine RL.gskip rfl rfl rfl rfl ?_
    refine RL.gskip rfl rfl rfl rfl ?_
    refine RL.gskip rfl rfl rfl rfl ?_
    refine RL.gskip rfl rfl rfl rfl ?_
    refine RL.gskip rfl rfl rfl rfl ?_
    refine RL.gskip rfl rfl rfl rfl ?_
    refine RL.gskip rfl rfl rfl rfl ?_
    refine RL.gskip rfl rfl rfl rfl ?_
    refine RL.val (O.pickt rfl rfl) rfl ?_
    refine vm rfl rfl ?_
    refine RL.gskip rfl rfl rfl rfl ?_
    refine RL.gskip rfl rfl rfl rfl ?_
    refine RL.gskip rfl rfl rfl rfl ?_
    refine RL.gskip rfl rfl rfl rfl ?_
    refine RL.gskip rfl rfl rfl rfl ?_
    refine RL.gskip rfl rfl rfl rfl ?_
    refine RL.val (O.pickt rfl rfl) rfl ?_
    refine RL.nil ?_
    refine KQ.then_k ?_
    exact fun a ha => ⟨true, ha.less (less_cons rfl (less_cons rfl (less_cons rfl (less_cons rfl (less_cons rfl (less_cons rfl less_nil)))))), hM, hF⟩
   rw [if_neg (ne_true hc)] at hF
   refine RL.gval rfl rfl (O.move rfl) rfl ?_
   refine RL.gval rfl rfl (O.move rfl) rfl ?_
   refine RL.gval rfl rfl (O.move rfl) rfl ?_
   refine RL.gval rfl rfl (O.mul rfl rfl) rfl ?_
   refine RL.gval rfl rfl (O.rem rfl rfl (by decide)) rfl ?_
   refine RL.gval rfl rfl (O.sub rfl rfl) rfl ?_
   refine RL.gval rfl rfl (O.move rfl) rfl ?_
   refine obindE hF fun y173 hx174 hF => ?_
   refine RL.gcall rfl rfl Try.func5 bd5 rfl rfl (c_law01_BitsBack _ _ _ lv' (hM.rd (i := 1) rfl) _ _ sizes' (hM.rd (i := 2) rfl) (IntKind.i64.wrap ((Int.tmod (IntKind.i64.wrap (i * 3)) 20) - 1)) (kV y i) _ hx174) fun v w175 hv => ?_
   obtain ⟨rfl, hN176⟩ := hv
   replace hM := hM.call0 hN176
   refine RL.gval rfl rfl (O.not rfl) rfl ?_
   refine RL.val (O.pickf rfl rfl) rfl ?_
   refine vm rfl rfl ?_
   refine RL.bcase (t := 81) rfl (fun hc => ?_) (fun hc => ?_)
   ·rw [if_pos hc] at hF
    refine RL.gskip rfl rfl rfl rfl ?_
    refine RL.gskip rfl rfl rfl rfl ?_
    refine RL.gskip rfl rfl rfl rfl ?_
    refine RL.gskip rfl rfl rfl rfl ?_
    refine RL.gskip rfl rfl rfl rfl ?_
    refine RL.gskip rfl rfl rfl rfl ?_
    refine RL.val (O.pickt rfl rfl) rfl ?_
    refine RL.nil ?_
    refine KQ.then_k ?_
    exact fun a ha => ⟨true, ha.less (less_cons rfl (less_cons rfl (less_cons rfl (less_cons rfl (less_cons rfl (less_cons rfl less_nil)))))), hM, hF⟩
   rw [if_neg (ne_true hc)] at hF
   refine RL.gval rfl rfl (O.move rfl) rfl ?_
   refine RL.gval rfl rfl (O.move rfl) rfl ?_
   refine obindE hF fun x177 hx177 hF => ?_
   obtain ⟨h177, hg177, he177⟩ := gidx_map hx177
   subst he177
   have hA177 := Rd.atN (f := hcs) (s := 5) (fun _ => rfl) (by decide) (hM.rd (i := 3) rfl) hg177
   refine RL.gval rfl rfl (O.idxA sl30 (hA177) rfl rfl) rfl ?_
   refine RL.gval rfl rfl (O.loadN (cs := hcs h177) ag35 rfl (hA177).cells) rfl ?_
   refine obindE hF fun y178 hx178 hF => ?_
   have hmem : h177 ∈ hs' := by
    obtain ⟨_, _, h2⟩ := gidx_some hg177
    exact List.mem_of_getElem? h2
   have hr177 := hd2.rd (Ob.res_φ (hM.ok 4 _ rfl)) (hM.rd (i := 0) rfl) h177 hmem
   refine RL.gcall rfl rfl Try.func7 bd7 rfl rfl (c_law01_BitsNone _ h177.2.2 h177.1 h177.2.1 hr177 _ hx178) fun v w179 hv => ?_
   obtain ⟨rfl, hN179⟩ := hv
   replace hM := hM.call0 hN179
   refine RL.gval rfl rfl (O.not rfl) rfl ?_
   refine RL.val (O.pickf rfl rfl) rfl ?_
   refine RL.nil ?_
   refine KQ.then_k ?_
   exact fun a ha => ⟨(!y178), ha.less (less_cons rfl (less_cons rfl (less_cons rfl (less_cons rfl (less_cons rfl (less_cons rfl less_nil)))))), hM, hF⟩
  rintro a w181 ⟨t180, ha, hM, hF⟩
  refine KC.app ha ?_
  clear ha
  unfold F_law01_BitsKnown_j1 at hF
  refine KC.cond rfl (fun hc => ?_) (fun hc => ?_)
  ·rw [if_pos hc] at hF
   refine sr fun Q182 hQ182 => ?_
   refine va rfl rfl ?_
   refine nt hQ182 ?_
   clear hQ182 Q182
   refine KC.ret ?_
   refine KQ.blk_r ?_
   refine KQ.thr hQ136 ?_
   clear hQ136 Q136
   refine KQ.then_r ?_
   refine KQ.blk_r ?_
   refine KQ.thr hQ5 ?_
   clear hQ5 Q5
   have hE := Option.some.inj hF
   clear hF
   subst hE
   replace hM := hM.pick [] rfl (by decide)
   refine KQ.rets Try.results8 (RVs.cons (RV.tm rfl) RVs.nil) ?_
   exact ⟨_, rfl, rfl, hM⟩
  rw [if_neg (ne_true hc)] at hF
  refine KC.skip ?_
  refine KQ.blk_n ?_
  refine KQ.thn hQ136 ?_
  clear hQ136 Q136
  refine KC.region ?_
  refine vm rfl rfl ?_
  refine RL.val (O.add rfl rfl) rfl ?_
  refine va rfl rfl ?_
  refine RL.nil ?_
  refine KQ.then_k ?_
  exact fun a ha => ⟨k133, Nat.lt_succ_self k133, A1', c1', A2', c2', A3', c3', A4', c4', b', lv', sizes', hs', old', Z', (IntKind.i64.wrap (i + 1)), ha.less (less_cons rfl (less_cons rfl (less_cons rfl (less_cons rfl (less_cons rfl less_nil))))), hM, hd2, hF⟩
 rw [if_neg (ne_true hc)] at hF
 refine KC.exit ?_
 refine KQ.thx hQ134 ?_
 clear hQ134 Q134
 refine KQ.then_x ?_
 refine KQ.blk_x ?_
 refine KQ.thn hQ5 ?_
 clear hQ5 Q5
 unfold F_law01_BitsKnown_e1 at hF
 refine KC.cut (fun a w213 => ∃ (t212 : Bool), Kn 112 [(0, vB t212)] a ∧ Mem w [] w213 [] ∧ F_law01_BitsKnown_j2 t212 = some r) ?_ ?_
 ·refine KC.region ?_
  refine vm rfl rfl ?_
  refine obindE hF fun y180 hx180 hF => ?_
  have hrd := acts_rd (hM.rd (i := 3) rfl) (hd.rd (Ob.res_φ (hM.ok 4 _ rfl)) (hM.rd (i := 0) rfl))
  have hlen : (hs.map hact).length = hs.length := List.length_map ..
  have hcw := c_law01_BitsWrites _ A4 c4 (hs.map hact) hrd _ hx180
  rw [hlen] at hcw
  refine RL.call Try.func4 bd4 rfl rfl hcw fun v w180 hv => ?_
  clear hcw hrd
  obtain ⟨rfl, hN180⟩ := hv
  replace hM := hM.call0 hN180
  refine vm rfl rfl ?_
  refine RL.bcase (t := 91) rfl (fun hc => ?_) (fun hc => ?_)
  ·rw [if_pos hc] at hF
   refine RL.gval rfl rfl (O.move rfl) rfl ?_
   refine RL.gval rfl rfl (O.move rfl) rfl ?_
   refine obindE hF fun y183 hx184 hF => ?_
   refine RL.gcall rfl rfl Try.func6 bd6 rfl rfl (c_law01_BitsReads _ _ _ b (hM.rd (i := 0) rfl) _ _ sizes (hM.rd (i := 2) rfl) _ hx184) fun v w185 hv => ?_
   obtain ⟨rfl, hN186⟩ := hv
   replace hM := hM.call0 hN186
   refine RL.val (O.pickt rfl rfl) rfl ?_
   refine vm rfl rfl ?_
   refine RL.bcase (t := 96) rfl (fun hc => ?_) (fun hc => ?_)
   ·rw [if_pos hc] at hF
    refine RL.gval rfl rfl (O.move rfl) rfl ?_
    refine RL.geff rfl rfl (E.bsl (enc := (eI .i64)) (xs := ([(-13), 2, (-10), 8, (-11), (-400), 9, 0, 8, 8, 8, 1, (-10)] : List Int)) hM sl48 ze3 rfl rfl rfl (fun _ => rfl) rfl (by kernel_rfl) rfl) rfl fun v w187 hv => ?_
    clear hM
    obtain ⟨A188, rfl, hM, hf⟩ := hv
    refine obindE hF fun y190 hx191 hF => ?_
    refine RL.gcall rfl rfl Try.func6 bd6 rfl rfl (c_law01_BitsReads _ _ _ b (hM.rd (i := 0) rfl) _ _ ([(-13), 2, (-10), 8, (-11), (-400), 9, 0, 8, 8, 8, 1, (-10)] : List Int) (hM.rd (i := 5) rfl) _ hx191) fun v w192 hv => ?_
    obtain ⟨rfl, hN193⟩ := hv
    replace hM := hM.call0 hN193
    refine RL.val (O.pickt rfl rfl) rfl ?_
    refine vm rfl rfl ?_
    refine RL.bcase (t := 101) rfl (fun hc => ?_) (fun hc => ?_)
    ·rw [if_pos hc] at hF
     refine obindE hF fun y194 hx195 hF => ?_
     refine RL.gcall rfl rfl Try.func3 bd3 rfl rfl (c_law01_BitsGets _ none 0 [] Rd.nilr 4611686018427387904 8 18446744073709551615 _ hx195) fun v w196 hv => ?_
     obtain ⟨rfl, hN197⟩ := hv
     replace hM := hM.call0 hN197
     refine RL.val (O.pickt rfl rfl) rfl ?_
     refine vm rfl rfl ?_
     refine RL.bcase (t := 104) rfl (fun hc => ?_) (fun hc => ?_)
     ·rw [if_pos hc] at hF
      refine RL.geff rfl rfl (E.bsl (enc := (eI .u64)) (xs := ([9223372036854775808] : List Int)) hM sl47 ze23 rfl rfl rfl (fun _ => rfl) rfl (by kernel_rfl) rfl) rfl fun v w198 hv => ?_
      clear hM
      obtain ⟨A199, rfl, hM, hf⟩ := hv
      refine RL.geff rfl rfl (E.bsl (enc := (eI .i64)) (xs := ([8] : List Int)) hM sl48 ze3 rfl rfl rfl (fun _ => rfl) rfl (by kernel_rfl) rfl) rfl fun v w201 hv => ?_
      clear hM
      obtain ⟨A202, rfl, hM, hf⟩ := hv
      refine obindE hF fun y204 hx205 hF => ?_
      refine RL.gcall rfl rfl Try.func5 bd5 rfl rfl (c_law01_BitsBack _ _ _ ([9223372036854775808] : List Int) (hM.rd (i := 6) rfl) _ _ ([8] : List Int) (hM.rd (i := 7) rfl) 9223372036854775807 5 _ hx205) fun v w206 hv => ?_
      obtain ⟨rfl, hN207⟩ := hv
      replace hM := hM.call0 hN207
      refine RL.val (O.pickt rfl rfl) rfl ?_
      refine vm rfl rfl ?_
      refine RL.bcase (t := 109) rfl (fun hc => ?_) (fun hc => ?_)
      ·rw [if_pos hc] at hF
       refine obindE hF fun y208 hx209 hF => ?_
       refine RL.gcall rfl rfl Try.func9 bd9 rfl rfl (c_law01_works _ _ hx209) fun v w210 hv => ?_
       obtain ⟨rfl, hN211⟩ := hv
       replace hM := hM.call0 hN211
       refine RL.val (O.pickt rfl rfl) rfl ?_
       refine va rfl rfl ?_
       refine RL.nil ?_
       refine KQ.then_k ?_
       replace hM := hM.pick [] rfl (by decide)
       exact fun a ha => ⟨y208, ha.less (less_cons rfl less_nil), hM, hF⟩
      rw [if_neg (ne_true hc)] at hF
      refine RL.gskip rfl rfl rfl rfl ?_
      refine RL.val (O.pickf rfl rfl) rfl ?_
      refine va rfl rfl ?_
      refine RL.nil ?_
      refine KQ.then_k ?_
      replace hM := hM.pick [] rfl (by decide)
      exact fun a ha => ⟨false, ha.less (less_cons rfl less_nil), hM, hF⟩
     rw [if_neg (ne_true hc)] at hF
     refine RL.brun1 7 111 false (by kernel_rfl) ?_
     refine va rfl rfl ?_
     refine RL.nil ?_
     refine KQ.then_k ?_
     replace hM := hM.pick [] rfl (by decide)
     exact fun a ha => ⟨false, ha.less (less_cons rfl less_nil), hM, hF⟩
    rw [if_neg (ne_true hc)] at hF
    refine RL.brun1 10 111 false (by kernel_rfl) ?_
    refine va rfl rfl ?_
    refine RL.nil ?_
    refine KQ.then_k ?_
    replace hM := hM.pick [] rfl (by decide)
    exact fun a ha => ⟨false, ha.less (less_cons rfl less_nil), hM, hF⟩
   rw [if_neg (ne_true hc)] at hF
   refine RL.brun1 15 111 false (by kernel_rfl) ?_
   refine va rfl rfl ?_
   refine RL.nil ?_
   refine KQ.then_k ?_
   replace hM := hM.pick [] rfl (by decide)
   exact fun a ha => ⟨false, ha.less (less_cons rfl less_nil), hM, hF⟩
  rw [if_neg (ne_true hc)] at hF
  refine RL.brun1 20 111 false (by kernel_rfl) ?_
  refine va rfl rfl ?_
  refine RL.nil ?_
  refine KQ.then_k ?_
  replace hM := hM.pick [] rfl (by decide)
  exact fun a ha => ⟨false, ha.less (less_cons rfl less_nil), hM, hF⟩
 rintro a w213 ⟨t212, ha, hM, hF⟩
 refine KC.app ha ?_
 clear ha
 unfold F_law01_BitsKnown_j2 at hF
 refine KC.ret ?_
 have hE := Option.some.inj hF
 clear hF
 subst hE
 refine KQ.rets Try.results8 (RVs.cons (RV.tm rfl) RVs.nil) ?_
 exact ⟨_, rfl, rfl, hM⟩
end Go.Proofs.Ytpbkjellpboefaa
