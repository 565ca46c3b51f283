/- The plain law of the chapter on headers behind headers: IpsixKnown. No program's code is named here. -/
import Derived.Test.YtikjomacnbemhaaP
set_option linter.unusedVariables false
namespace Go.Proofs.Ytikjomacnbemhaa
open Go Go.Ox Go.RowKit
def By (z : Int) : Prop := 0 ≤ z ∧ z < 256
def XE (x : T_ipsix_Ext) : Prop := By x.f_Kind ∧ Wf 256 x.f_Data ∧ x.f_Data.length ≤ 2054
def XS (l : List T_ipsix_Ext) : Prop := ∀ x ∈ l, XE x
theorem XS.nil : XS [] := fun x h => by cases h
theorem XS.snoc {l : List T_ipsix_Ext} {x : T_ipsix_Ext} (h : XS l) (hx : XE x) : XS (l ++ [x]) := fun y hy => by
  rcases List.mem_append.1 hy with hy | hy
  · exact h y hy
  · simp at hy; subst hy; exact hx
theorem XS.kw {l : List T_ipsix_Ext} (h : XS l) : ∀ x ∈ l, (0 ≤ x.f_Kind ∧ x.f_Kind < 256) ∧ Wf 256 x.f_Data := fun x hx => ⟨(h x hx).1, (h x hx).2.1⟩
theorem By.w8 {z : Int} : By (IntKind.u8.wrap z) := by unfold By; rw [wu8]; omega
theorem By.and {a b : Int} : By (bits .and .u8 a b) := by
  show By (IntKind.u8.wrap _)
  exact By.w8
theorem gidx_all {xs : List Int} {j : Int} (h0 : 0 ≤ j) (h1 : j < xs.length) {R : Int → Prop} (hp : ∀ y ∈ xs, R y) : ∃ y, gidx xs j = some y ∧ R y :=
  ⟨_, gidx_in h0 h1, hp _ (List.getElem_mem _)⟩
theorem kinds_by : ∀ y ∈ ([0, 43, 44, 60, 6, 17, 59, 255] : List Int), By y := by unfold By; decide
theorem sizes_by : ∀ y ∈ ([6, 6, 14, 22, 5, 7, 6, 2046, 2054] : List Int), 0 ≤ y ∧ y ≤ 2054 := by decide
theorem tmodb {a b : Int} (h0 : 0 ≤ a) (hb : 0 < b) : 0 ≤ Int.tmod a b ∧ Int.tmod a b < b := by rw [tmod_nn h0]; exact ⟨Int.emod_nonneg _ (by omega), Int.emod_lt_of_pos _ hb⟩
def nxt (n k : Int) : Int := Int.tmod (IntKind.i64.wrap ((IntKind.i64.wrap ((IntKind.i64.wrap (n * 31)) + (IntKind.i64.wrap (7 * k)))) + 11)) 100003
def Nm (n : Int) : Prop := 0 ≤ n ∧ n < 100003
theorem nxt_b {n k : Int} (hn : Nm n) (hk : 0 ≤ k ∧ k ≤ 5) : Nm (nxt n k) := by
  obtain ⟨h1, h2⟩ := hn
  unfold nxt
  rw [wi64 (n := n * 31) (by omega) (by omega), wi64 (n := 7 * k) (by omega) (by omega), wi64 (n := n * 31 + 7 * k) (by omega) (by omega), wi64 (by omega) (by omega)]
  exact tmodb (by omega) (by omega)
theorem k4_eq {n kv : Int} {rec : Int → (List T_ipsix_Ext) → Int → Option Bool} {kind : Int} {cv : List T_ipsix_Ext} (hc : cv.length ≤ 100) (hk : 0 ≤ kv ∧ kv ≤ 5) {d : List Int} (hw : Wf 256 d) (b : Bool) (hb : b = true → 2 ≤ d.length) :
    ∃ d', Wf 256 d' ∧ d'.length = d.length ∧ F_law06_IpsixKnown_j4 n kv rec kind d cv b = rec (nxt n kv) (cv ++ [⟨kind, d'⟩]) (kv - 1) := by
  have j3 : ∀ d', F_law06_IpsixKnown_j3 n kv rec kind cv d' = rec (nxt n kv) (cv ++ [⟨kind, d'⟩]) (kv - 1) := fun d' => by
    unfold F_law06_IpsixKnown_j3
    rw [if_pos (limk (by simp; omega)), wi64 (n := kv - 1) (by omega) (by omega)]
    rfl
  unfold F_law06_IpsixKnown_j4
  cases b with
  | false => rw [if_neg (by decide), j3]; exact ⟨d, hw, rfl, rfl⟩
  | true =>
    have hl := hb rfl
    have g0 : gidx d 0 = some (d.getD 0 0) := gidxN (i := 0) (by omega)
    have g1 : ∀ e : List Int, e.length = d.length → gidx e 1 = some (e.getD 1 0) := fun e he => gidxN (i := 1) (by omega)
    rw [if_pos rfl, g0, Option.bind_some, g1 _ (by simp), Option.bind_some, Option.bind_some, j3]
    exact ⟨_, (hw.set _ By.w8).set _ By.and, by simp, rfl⟩
theorem k3_eq {i n kv : Int} {rec : Int → (List T_ipsix_Ext) → Int → Option Bool} {kind : Int} (hk : 0 ≤ kv ∧ kv ≤ 5) : ∀ (f m : Nat) (cv : List T_ipsix_Ext) (d : List Int), m ≤ 6 → 6 < f + m → cv.length ≤ 100 → Wf 256 d → d.length ≤ 2054 →
    ∃ d', Wf 256 d' ∧ d'.length = d.length ∧ F_law06_IpsixKnown_L3 i n kv rec kind f cv d m = rec (nxt n kv) (cv ++ [⟨kind, d'⟩]) (kv - 1)
  | 0, m, cv, d, h1, h2, h3, h4, h5 => by omega
  | f + 1, m, cv, d, h1, h2, h3, h4, h5 => by
    have hend : ∃ d', Wf 256 d' ∧ d'.length = d.length ∧ F_law06_IpsixKnown_j2 i n kv rec kind d m (F_law06_IpsixKnown_L3 i n kv rec kind f) cv false = rec (nxt n kv) (cv ++ [⟨kind, d'⟩]) (kv - 1) := by
      unfold F_law06_IpsixKnown_j2
      rw [if_neg (by decide)]
      by_cases hk44 : (kind == 44) = true
      · rw [if_pos hk44]
        by_cases h1l : 1 < d.length
        · rw [if_pos (by simp; omega)]
          exact k4_eq h3 hk h4 _ (fun _ => by omega)
        · rw [if_neg (by simp; omega)]
          exact k4_eq h3 hk h4 _ (fun h => by cases h)
      · rw [if_neg hk44]
        exact k4_eq h3 hk h4 _ (fun h => by cases h)
    show ∃ d', Wf 256 d' ∧ d'.length = d.length ∧ F_law06_IpsixKnown_l3 (F_law06_IpsixKnown_L3 i n kv rec kind f) i n kv rec kind cv d m = _
    unfold F_law06_IpsixKnown_l3
    by_cases hm : m < d.length
    · rw [if_pos (by simp; omega)]
      by_cases h6 : m < 6
      · rw [show decide ((m : Int) < 6) = true from decide_eq_true (by omega)]
        unfold F_law06_IpsixKnown_j2
        rw [if_pos rfl, if_pos (by simp), gidxN hm, Option.bind_some, wi64 (by omega) (by omega), Int.toNat_natCast, show (m : Int) + 1 = ((m + 1 : Nat) : Int) by omega]
        obtain ⟨d', q1, q2, q3⟩ := k3_eq (rec := rec) (kind := kind) (i := i) (n := n) hk f (m + 1) cv (d.set m (IntKind.u8.wrap (Ox.shr .i64 n m))) (by omega) (by omega) h3 (h4.set _ By.w8) (by simpa using h5)
        exact ⟨d', q1, by rw [q2]; simp, q3⟩
      · rw [show decide ((m : Int) < 6) = false from decide_eq_false (by omega)]
        exact hend
    · rw [if_neg (by simp; omega)]
      exact hend
theorem pc_wf : ∀ {l : List T_ipsix_Ext} {p : Int}, XS l → By p → Wf 256 (pc l p)
  | [], p, _, _ => Wf.nil
  | x :: r, p, h, hp => by
    have hx := h x (by simp)
    have hr : XS r := fun y hy => h y (by simp [hy])
    refine ((Wf.cons ?_ (Wf.cons ⟨Int.emod_nonneg _ (by omega), Int.emod_lt_of_pos _ (by omega)⟩ Wf.nil)).app hx.2.1).app (pc_wf hr hp)
    cases r with
    | nil => exact hp
    | cons y r => exact (h y (by simp)).1
theorem fk_by {l : List T_ipsix_Ext} {p : Int} (h : XS l) (hp : By p) : By (fk l p) := by
  cases l with
  | nil => exact hp
  | cons x r => exact (h x (by simp)).1
theorem PutChain_wf {l : List T_ipsix_Ext} {p : Int} (h : XS l) (hl : l.length ≤ 20) (hp : By p) : ∃ b k e, F_ipsix_PutChain ⟨l, p⟩ = some (b, k, e) ∧ Wf 256 b ∧ By k ∧ b.length < 1000000 := by
  rw [PutChain_eq (c := ⟨l, p⟩) (fun x hx => ⟨(h x hx).1, (h x hx).2.1, by have := (h x hx).2.2; omega⟩) hl (fun x hx => by have := (h x hx).2.2; omega)]
  have hb : (pc l p).length ≤ l.length * (2054 + 2) := pcl fun x hx => (h x hx).2.2
  cases okC ⟨l, p⟩ with
  | true => exact ⟨_, _, _, rfl, pc_wf h hp, fk_by h hp, by dsimp only; omega⟩
  | false => exact ⟨[], 0, 60, rfl, Wf.nil, by unfold By; omega, by simp⟩
theorem k5_eq {i n p : Int} {rec : Int → Int → Option Bool} {y : List Int × Int × Int} {cv : List T_ipsix_Ext} {b : List Int} (hi : 0 ≤ i ∧ i < 300) (hn : Nm n) (hc : XS cv) (hp : By p) (hy : By y.2.1) (hw : Wf 256 b) (hb : b.length < 1000000) :
    F_law06_IpsixKnown_j5 i rec n p y cv b = rec n (i + 1) := by
  have hn' := hn
  obtain ⟨n0, n1⟩ := hn'
  unfold F_law06_IpsixKnown_j5
  have t20 := tmodb (b := 20) n0 (by omega)
  have t2 := tmodb (b := 2) n0 (by omega)
  have t8 := tmodb (b := 8) n0 (by omega)
  have hg : 0 ≤ gmin 1 (b.length : Int) ∧ gmin 1 (b.length : Int) ≤ b.length := by unfold gmin; split <;> omega
  have hprod : 0 ≤ Int.tmod n 2 * gmin 1 (b.length : Int) ∧ Int.tmod n 2 * gmin 1 (b.length : Int) ≤ b.length := by
    have : Int.tmod n 2 = 0 ∨ Int.tmod n 2 = 1 := by omega
    rcases this with h | h <;> rw [h] <;> omega
  rw [chains_eq hc.kw hc.kw, Option.bind_some, if_neg (by decide), if_pos (decide_eq_true ⟨t20.1, by have : (lim : Int) = 1099511627776 := rfl; omega⟩)]
  have hz : WH ⟨IntKind.u8.wrap n, IntKind.u32.wrap n, 0, 0, 1, List.replicate 16 0, List.replicate 16 0⟩ :=
    ⟨By.w8, by dsimp only; rw [wu32]; omega, by dsimp only; omega, by dsimp only; omega, by dsimp only; omega, ⟨by simp, fun z hz => by simp at hz; omega⟩, ⟨by simp, fun z hz => by simp at hz; omega⟩⟩
  rw [back_eq hz (c := ⟨cv, p⟩) hc.kw hp (fun z hz => by simp at hz; omega) hy hw, Option.bind_some, if_neg (by decide), wi64 (n := Int.tmod n 2 * gmin 1 (b.length : Int)) (by omega) (by omega), wi64 (by omega) (by omega), gcut_in (by omega) (by omega) (by omega), Option.bind_some]
  rw [parses_eq hy ((hw.drop _).take _), Option.bind_some, if_neg (by decide)]
  obtain ⟨x, g1, g2⟩ := gidx_all (xs := ([0, 43, 44, 60, 6, 17, 59, 255] : List Int)) t8.1 t8.2 kinds_by
  rw [g1, Option.bind_some, parses_eq g2 hw, Option.bind_some]
  unfold F_law06_IpsixKnown_j6
  rw [if_neg (by decide), wi64 (by omega) (by omega)]
theorem k2_eq {i : Int} {rec : Int → Int → Option Bool} (hi : 0 ≤ i ∧ i < 300) : ∀ (f : Nat) (n kv : Int) (cv : List T_ipsix_Ext), Nm n → 0 ≤ kv → kv + cv.length ≤ 5 → kv.toNat < f → XS cv → ∃ n', Nm n' ∧ F_law06_IpsixKnown_L2 i rec f n cv kv = rec n' (i + 1)
  | 0, n, kv, cv, hn, h1, h2, h3, h4 => by omega
  | f + 1, n, kv, cv, hn, h1, h2, h3, h4 => by
    have n0 := hn.1
    have n1 := hn.2
    show ∃ n', Nm n' ∧ F_law06_IpsixKnown_l2 (F_law06_IpsixKnown_L2 i rec f) i rec n cv kv = _
    unfold F_law06_IpsixKnown_l2
    by_cases hk : 0 < kv
    · have ti := tmodb (a := i) (b := 2) hi.1 (by omega)
      have ti6 := tmodb (a := i) (b := 6) hi.1 (by omega)
      have hd5 : 0 ≤ Int.tdiv n 5 ∧ Int.tdiv n 5 ≤ n := by rw [tdiv_nn n0]; omega
      have hd7 : 0 ≤ Int.tdiv n 7 ∧ Int.tdiv n 7 ≤ n := by rw [tdiv_nn n0]; omega
      rw [if_pos (decide_eq_true hk), wi64 (n := 4 + Int.tmod i 2) (by omega) (by omega), wi64 (n := 4 + Int.tmod i 6) (by omega) (by omega), wi64 (n := Int.tdiv n 5) (by omega) (by omega), wi64 (n := Int.tdiv n 7) (by omega) (by omega)]
      have u8 := tmodb (b := 8) hd5.1 (by omega)
      have v8 := tmodb (a := Int.tmod (Int.tdiv n 5) 8) (b := 4 + Int.tmod i 2) u8.1 (by omega)
      have u9 := tmodb (b := 9) hd7.1 (by omega)
      have v9 := tmodb (a := Int.tmod (Int.tdiv n 7) 9) (b := 4 + Int.tmod i 6) u9.1 (by omega)
      obtain ⟨x, g1, g2⟩ := gidx_all (xs := ([0, 43, 44, 60, 6, 17, 59, 255] : List Int)) v8.1 (by show _ < (8 : Int); omega) kinds_by
      obtain ⟨z, e1, e2⟩ := gidx_all (xs := ([6, 6, 14, 22, 5, 7, 6, 2046, 2054] : List Int)) v9.1 (by show _ < (9 : Int); omega) sizes_by
      rw [if_pos (decide_eq_true (by omega)), g1, Option.bind_some, if_pos (decide_eq_true (by omega)), e1, Option.bind_some, if_pos (decide_eq_true ⟨e2.1, by have : (lim : Int) = 1099511627776 := rfl; omega⟩)]
      unfold F_law06_IpsixKnown_j1
      obtain ⟨d', q1, q2, q3⟩ := k3_eq (i := i) (n := n) (kv := kv) (rec := F_law06_IpsixKnown_L2 i rec f) (kind := x) ⟨by omega, by omega⟩ fuel0 0 cv (List.replicate z.toNat 0) (by omega) (by unfold fuel0; omega) (by omega) (fun y hy => by simp at hy; omega) (by simp; omega)
      have q3' : F_law06_IpsixKnown_L3 i n kv (F_law06_IpsixKnown_L2 i rec f) x fuel0 cv (List.replicate z.toNat 0) 0 = _ := q3
      rw [q3']
      exact k2_eq hi f (nxt n kv) (kv - 1) (cv ++ [⟨x, d'⟩]) (nxt_b hn ⟨by omega, by omega⟩) (by omega) (by simp; omega) (by omega) (h4.snoc ⟨g2, q1, by rw [q2]; simp; omega⟩)
    · rw [if_neg (by simpa using hk)]
      have hd3 : 0 ≤ Int.tdiv n 3 ∧ Int.tdiv n 3 ≤ n := by rw [tdiv_nn n0]; omega
      have u8 := tmodb (b := 8) hd3.1 (by omega)
      obtain ⟨x, g1, g2⟩ := gidx_all (xs := ([0, 43, 44, 60, 6, 17, 59, 255] : List Int)) u8.1 (by show _ < (8 : Int); omega) kinds_by
      obtain ⟨b, k, e, p1, p2, p3, p4⟩ := PutChain_wf h4 (by omega) g2
      rw [wi64 (n := Int.tdiv n 3) (by omega) (by omega), g1, Option.bind_some, p1, Option.bind_some]
      have j7 : ∀ t, (t = true → 3 < b.length) → F_law06_IpsixKnown_j7 i rec n x (b, k, e) cv t = rec n (i + 1) := fun t ht => by
        unfold F_law06_IpsixKnown_j7
        cases t with
        | false => rw [if_neg (by decide)]; exact k5_eq hi hn h4 g2 p3 p2 p4
        | true =>
          have hb3 := ht rfl
          have tb := tmodb (a := n) (b := (b.length : Int)) n0 (by omega)
          rw [if_pos rfl]
          dsimp only
          rw [if_pos (decide_eq_true (by omega)), gidx_in tb.1 tb.2, Option.bind_some]
          exact k5_eq hi hn h4 g2 p3 (p2.set _ By.w8) (by simpa using p4)
      refine ⟨n, hn, ?_⟩
      dsimp only
      by_cases h3' : 3 < b.length
      · rw [if_pos (by simp; omega)]; exact j7 _ (fun _ => h3')
      · rw [if_neg (by simp; omega)]; exact j7 _ (fun h => by cases h)
def kH : T_ipsix_Header := ⟨255, 1048575, 7, 6, 9, [1, 0, 0, 0, 0, 0, 0, 0, 0, 0, 0, 0, 0, 0, 0, 0], [0, 0, 0, 0, 0, 0, 0, 0, 0, 0, 0, 0, 0, 0, 0, 2]⟩
theorem kH_w : WH kH := ⟨by decide, by decide, by decide, by decide, by decide, by unfold Wf; decide, by unfold Wf; decide⟩
def oH : T_ipsix_Header := ⟨0, 1048576, 0, 0, 0, List.replicate 16 0, List.replicate 16 0⟩
theorem oH_w : WH oH := ⟨by decide, by decide, by decide, by decide, by decide, by unfold Wf; decide, by unfold Wf; decide⟩
def nH : T_ipsix_Header := ⟨0, 0, 0, 0, 0, List.replicate 16 0, List.replicate 16 0⟩
theorem nH_w : WH nH := ⟨by decide, by decide, by decide, by decide, by decide, by unfold Wf; decide, by unfold Wf; decide⟩
theorem k6_eq {many : List Int} (hm : Wf 256 many) (hml : many.length = 136) {hd : List Int} (hh : Wf 256 hd) (hhl : hd.length = 40) {e : Int} : ∀ (f i : Nat) (long : List T_ipsix_Ext), XS long → i ≤ 41 → 41 < f + i → F_law06_IpsixKnown_L6 many (hd, e) f long i = some true
  | 0, i, long, h1, h2, h3 => by omega
  | f + 1, i, long, h1, h2, h3 => by
    show F_law06_IpsixKnown_l6 (F_law06_IpsixKnown_L6 many (hd, e) f) many (hd, e) long i = _
    unfold F_law06_IpsixKnown_l6
    dsimp only
    by_cases hi : i ≤ 40
    · have t9 := tmodb (a := (i : Int)) (b := 9) (by omega) (by omega)
      rw [if_pos (decide_eq_true (by omega)), gcut_in (by omega) (by omega) (by omega), Option.bind_some]
      have hw : Wf 256 ((hd.drop (0 : Int).toNat).take ((i : Int).toNat - (0 : Int).toNat)) := (hh.drop _).take _
      have hlen : ((hd.drop (0 : Int).toNat).take ((i : Int).toNat - (0 : Int).toNat)).length ≤ 40 := by simp; omega
      generalize (hd.drop (0 : Int).toNat).take ((i : Int).toNat - (0 : Int).toNat) = u at hw hlen
      have a1 := heads_eq kH_w hw
      unfold kH at a1
      rw [a1, Option.bind_some, if_neg (by decide), Option.bind_some, gcut_in (by omega) (by omega) (by omega), Option.bind_some]
      unfold F_kit_Own
      rw [if_pos (limk (by omega)), Option.bind_some, if_pos (limk (by simp; omega)), parses_eq (by omega) (hw.app ((hm.drop _).take _)), Option.bind_some]
      unfold F_law06_IpsixKnown_j9
      rw [if_neg (by decide), wi64 (by omega) (by omega), show (i : Int) + 1 = ((i + 1 : Nat) : Int) by omega]
      exact k6_eq hm hml hh hhl f (i + 1) long h1 (by omega) (by omega)
    · have a1 := heads_eq oH_w (b := [96]) (Wf.cons (by omega) Wf.nil)
      unfold oH at a1
      rw [if_neg (by simp; omega), chains_eq (c := ⟨long, 6⟩) (o := ⟨[], 0⟩) h1.kw XS.nil.kw, Option.bind_some, if_pos rfl, parses_eq (by omega) hm, Option.bind_some, if_pos rfl, a1, Option.bind_some, if_pos rfl, works_eq]
      rfl
theorem k5l_eq : ∀ (f i : Nat) (long : List T_ipsix_Ext) (many : List Int), XS long → Wf 256 many → many.length = 136 → i ≤ 200 → 200 < f + i → F_law06_IpsixKnown_L5 f long many i = some true
  | 0, i, long, many, h1, h2, h3, h4, h5 => by omega
  | f + 1, i, long, many, h1, h2, h3, h4, h5 => by
    show F_law06_IpsixKnown_l5 (F_law06_IpsixKnown_L5 f) long many i = _
    unfold F_law06_IpsixKnown_l5
    by_cases hi : i < 136
    · rw [if_pos (decide_eq_true (by omega)), gidxN (by omega), Option.bind_some, wi64 (by omega) (by omega), show (i : Int) + 8 = ((i + 8 : Nat) : Int) by omega]
      exact k5l_eq f (i + 8) long _ h1 (h2.set _ (by omega)) (by simpa using h3) (by omega) (by omega)
    · have a1 := hput_eq kH_w
      rw [if_pos (by decide)] at a1
      have a2 := hb_wf kH_w
      have a3 := hb_len kH_w
      have a4 : F_ipsix_Put ⟨255, 1048575, 7, 6, 9, [1, 0, 0, 0, 0, 0, 0, 0, 0, 0, 0, 0, 0, 0, 0, 0], [0, 0, 0, 0, 0, 0, 0, 0, 0, 0, 0, 0, 0, 0, 0, 2]⟩ = some (hb kH, 0) := a1
      rw [if_neg (by simp; omega), a4, Option.bind_some]
      exact k6_eq h2 h3 a2 a3 fuel0 0 long h1 (by omega) (by unfold fuel0; omega)
theorem k4l_eq : ∀ (f i : Nat) (long : List T_ipsix_Ext), XS long → long.length ≤ i → i ≤ 17 → 17 < f + i → F_law06_IpsixKnown_L4 f long i = some true
  | 0, i, long, h1, h2, h3, h4 => by omega
  | f + 1, i, long, h1, h2, h3, h4 => by
    show F_law06_IpsixKnown_l4 (F_law06_IpsixKnown_L4 f) long i = _
    unfold F_law06_IpsixKnown_l4
    by_cases hi : i < 17
    · have a1 := back_eq nH_w (c := ⟨long, 6⟩) h1.kw (by dsimp only; omega) (behind := []) Wf.nil (first := 60) (by omega) (b := []) Wf.nil
      unfold nH at a1
      rw [if_pos (decide_eq_true (by omega)), chains_eq (c := ⟨long, 6⟩) (o := ⟨long, 6⟩) h1.kw h1.kw, Option.bind_some, if_neg (by decide), a1, Option.bind_some]
      unfold F_law06_IpsixKnown_j8
      rw [if_neg (by decide), if_pos (by decide), if_pos (limk (by simp; omega)), wi64 (by omega) (by omega), show (i : Int) + 1 = ((i + 1 : Nat) : Int) by omega]
      exact k4l_eq f (i + 1) _ (h1.snoc ⟨by unfold By; dsimp only; omega, by unfold Wf; decide, by decide⟩) (by simp; omega) (by omega) (by omega)
    · rw [if_neg (by simp; omega), if_pos (by decide)]
      exact k5l_eq fuel0 0 long _ h1 (fun z hz => by simp at hz; omega) (by simp) (by omega) (by unfold fuel0; omega)
theorem k1_eq : ∀ (f : Nat) (i : Nat) (n : Int), Nm n → i ≤ 300 → 300 < f + i → F_law06_IpsixKnown_L1 f n i = some true
  | 0, i, n, h1, h2, h3 => by omega
  | f + 1, i, n, h1, h2, h3 => by
    show F_law06_IpsixKnown_l1 (F_law06_IpsixKnown_L1 f) n i = _
    unfold F_law06_IpsixKnown_l1
    by_cases hi : i < 300
    · have t5 := tmodb (a := n) (b := 5) h1.1 (by omega)
      obtain ⟨n', q1, q2⟩ := k2_eq (i := (i : Int)) (rec := F_law06_IpsixKnown_L1 f) ⟨by omega, by omega⟩ fuel0 n (Int.tmod n 5) [] h1 t5.1 (by simp; omega) (by unfold fuel0; omega) XS.nil
      rw [if_pos (decide_eq_true (by omega)), q2, show (i : Int) + 1 = ((i + 1 : Nat) : Int) by omega]
      exact k1_eq f (i + 1) n' q1 (by omega) (by omega)
    · rw [if_neg (by simp; omega)]
      exact k4l_eq fuel0 0 [] XS.nil (by simp) (by omega) (by unfold fuel0; omega)
theorem known_eq : F_law06_IpsixKnown = some true := k1_eq fuel0 0 1 (by unfold Nm; omega) (by omega) (by unfold fuel0; omega)
end Go.Proofs.Ytikjomacnbemhaa
