/- Plain text: TablePlays and TableKnown. -/
import Derived.Test.YtnbakndfnjflhaaDP
set_option linter.unusedVariables false
namespace Go.Proofs.Ytnbakndfnjflhaa
open Go Go.Ox Go.Ox.Ring
/-! ### The order of keys is strict -/
structure RK (k : T_packet_Key) : Prop extends WK k where
  right : kr k = true
  sb : Wf 256 k.f_Src.f_B
  db : Wf 256 k.f_Dst.f_B
  pb : 0 ≤ k.f_Proto ∧ k.f_Proto < 256
theorem lx_neg : ∀ X Y : List UInt8, lx Y X = - lx X Y
  | [], [] => rfl
  | [], _ :: _ => rfl
  | _ :: _, [] => rfl
  | a :: X, b :: Y => by
    have ih := lx_neg X Y
    unfold lx
    by_cases h1 : a < b
    · have h2 : ¬ b < a := fun h => by have h3 : a.toNat < b.toNat := h1; have h4 : b.toNat < a.toNat := h; omega
      simp [h1, h2]
    · by_cases h2 : b < a
      · simp [h1, h2]
      · simp [h1, h2, ih]
theorem lx_zero : ∀ X Y : List UInt8, lx X Y = 0 → X = Y
  | [], [], _ => rfl
  | [], _ :: _, h => by simp [lx] at h
  | _ :: _, [], h => by simp [lx] at h
  | a :: X, b :: Y, h => by
    unfold lx at h
    by_cases h1 : a < b
    · rw [if_pos h1] at h; omega
    · rw [if_neg h1] at h
      by_cases h2 : b < a
      · rw [if_pos h2] at h; omega
      · rw [if_neg h2] at h
        rw [u8_tri h1 h2, lx_zero X Y h]
theorem less_lx : ∀ X Y : List UInt8, Op.bytesLess X Y = decide (lx X Y < 0)
  | [], [] => rfl
  | [], _ :: _ => rfl
  | _ :: _, [] => rfl
  | a :: X, b :: Y => by
    have ih := less_lx X Y
    unfold Op.bytesLess lx
    by_cases h1 : a < b
    · rw [if_pos h1]; simp [h1]
    · rw [if_neg h1]
      by_cases h2 : b < a
      · rw [if_pos h2]
        have h3 : (a == b) = false := by
          rw [beq_eq_false_iff_ne]; intro h; subst h; exact u8_irr a h2
        simp [h1, h3]
      · rw [if_neg h2, u8_tri h1 h2, ih]
        simp
theorem nb_inj : ∀ {x y : List Int}, Wf 256 x → Wf 256 y → nb x = nb y → x = y
  | [], [], _, _, _ => rfl
  | [], _ :: _, _, _, h => by simp [nb] at h
  | _ :: _, [], _, _, h => by simp [nb] at h
  | a :: x, b :: y, hx, hy, h => by
    simp only [nb, List.map_cons, List.cons.injEq] at h
    have ha := hx a (by simp); have hb := hy b (by simp)
    have e := congrArg UInt8.toNat h.1
    simp only [UInt8.toNat_ofNat'] at e
    rw [nb_inj (fun z hz => hx z (by simp [hz])) (fun z hz => hy z (by simp [hz])) h.2, show a = b by omega]
theorem wf_take {xs : List Int} (h : Wf 256 xs) (n : Nat) : Wf 256 (xs.take n) := fun x hx => h x (List.mem_of_mem_take hx)
theorem arrL_id {xs : List Int} (h : xs.length = 16) : arrL 16 xs = xs := by
  apply List.ext_getElem (by rw [Ox.arrL_len, h])
  intro i h1 h2
  unfold arrL
  simp [List.getD, h2]
theorem ab_wf {a : T_addr_Addr} (hl : a.f_B.length = 16) (h : Wf 256 a.f_B) : Wf 256 (ab a) := by
  unfold ab; rw [arrL_id hl]; exact wf_take h _
theorem pb_wf (v : Int) : Wf 256 (pb v) := by
  unfold pb; split
  · exact put_wf _ _
  · exact Wf.nil
theorem kbs_wf {k : T_packet_Key} (r : RK k) : Wf 256 (kbs k) := by
  unfold kbs
  refine (((((Wf.cons ?_ Wf.nil).app (ab_wf r.src r.sb)).app (ab_wf r.dst r.db)).app (Wf.cons r.pb Wf.nil)).app (pb_wf _)).app (pb_wf _)
  split <;> decide
theorem right_parts {k : T_packet_Key} (h : kr k = true) : Rt k.f_Src ∧ Rt k.f_Dst ∧ k.f_Src.f_Six = k.f_Dst.f_Six := by
  classical
  have e := rright_eq k
  have rt : ∀ a : T_addr_Addr, F_ref04_Right a = some (decide (Rt a)) := fun a => by
    obtain ⟨b, b1, b2⟩ := addr_both a
    have := addr_right a
    rw [b1] at this
    rw [b2]
    injection this with this
    rw [this]
  unfold F_ref08_Right F_ref08_Right_j1 at e
  simp only [rK, rt, Option.bind_some] at e
  rw [h] at e
  by_cases h1 : Rt k.f_Src
  · by_cases h2 : Rt k.f_Dst
    · by_cases h3 : k.f_Src.f_Six = k.f_Dst.f_Six
      · exact ⟨h1, h2, h3⟩
      · simp [h1, h2, h3] at e
    · simp [h1, h2] at e
  · simp [h1] at e
theorem ab_inj {a b : T_addr_Addr} (ha : a.f_B.length = 16) (hb : b.f_B.length = 16) (ra : Rt a) (rb : Rt b) (h6 : a.f_Six = b.f_Six) (h : ab a = ab b) : a = b := by
  obtain ⟨s, x⟩ := a; obtain ⟨t, y⟩ := b
  simp only at h6 ha hb
  subst h6
  simp only [ab, asz, arrL_id ha, arrL_id hb] at h
  have : x = y := by
    cases s with
    | true =>
      simp only [if_pos] at h
      rwa [List.take_of_length_le (by omega), List.take_of_length_le (by omega)] at h
    | false =>
      simp only [Bool.false_eq_true, if_false] at h
      have ra' := ra.resolve_left Bool.false_ne_true
      have rb' := rb.resolve_left Bool.false_ne_true
      simp only at ra' rb'
      apply List.ext_getElem (by omega)
      intro i h1 h2
      rcases Nat.lt_or_ge i 4 with h4 | h4
      · have e := congrArg (fun l : List Int => l[i]?) h
        simp only [List.getElem?_take, h4, if_true] at e
        rw [List.getElem?_eq_getElem h1, List.getElem?_eq_getElem h2] at e
        injection e
      · have e1 := ra' i h4 (by omega)
        have e2 := rb' i h4 (by omega)
        simp only [List.getD, List.getElem?_eq_getElem h1, List.getElem?_eq_getElem h2, Option.getD_some] at e1 e2
        rw [e1, e2]
  rw [this]
theorem put2_inj {v w : Int} (hv : 0 ≤ v ∧ v < 65536) (hw : 0 ≤ w ∧ w < 65536) (h : put 2 v = put 2 w) : v = w := by
  simp only [put, List.nil_append, List.cons_append, List.cons.injEq, and_true] at h
  omega
theorem kb_inj {x y : T_packet_Key} (rx : RK x) (ry : RK y) (h : kb x = kb y) : x = y := by
  obtain ⟨x1, x2, x3⟩ := right_parts rx.right
  obtain ⟨y1, y2, y3⟩ := right_parts ry.right
  unfold kb at h
  rw [if_pos rx.right, if_pos ry.right] at h
  unfold kbs at h
  rw [pb_put rx.sp, pb_put rx.dp, pb_put ry.sp, pb_put ry.dp, wu64i rx.sp.1 (by have := rx.sp; omega), wu64i rx.dp.1 (by have := rx.dp; omega), wu64i ry.sp.1 (by have := ry.sp; omega), wu64i ry.dp.1 (by have := ry.dp; omega)] at h
  simp only [List.append_assoc, List.cons_append, List.nil_append, List.cons.injEq] at h
  obtain ⟨h0, h⟩ := h
  have h6 : x.f_Src.f_Six = y.f_Src.f_Six := by
    revert h0; cases x.f_Src.f_Six <;> cases y.f_Src.f_Six <;> simp
  have la : ∀ a : T_addr_Addr, a.f_B.length = 16 → (ab a).length = asz a := fun a ha => by
    unfold ab; rw [arrL_id ha, List.length_take, ha]; have := asz_le a; omega
  have s1 : (ab x.f_Src).length = (ab y.f_Src).length := by rw [la _ rx.src, la _ ry.src]; unfold asz; rw [h6]
  obtain ⟨g1, h⟩ := List.append_inj h s1
  have h6' : x.f_Dst.f_Six = y.f_Dst.f_Six := by rw [← x3, ← y3, h6]
  have s2 : (ab x.f_Dst).length = (ab y.f_Dst).length := by rw [la _ rx.dst, la _ ry.dst]; unfold asz; rw [h6']
  obtain ⟨g2, h⟩ := List.append_inj h s2
  simp only [List.cons.injEq] at h
  obtain ⟨g3, h⟩ := h
  obtain ⟨g4, g5⟩ := List.append_inj h (by rw [put_len, put_len])
  have k1 := ab_inj rx.src ry.src x1 y1 h6 g1
  have k2 := ab_inj rx.dst ry.dst x2 y2 h6' g2
  have k4 := put2_inj rx.sp ry.sp g4
  have k5 := put2_inj rx.dp ry.dp g5
  obtain ⟨a1, a2, a3, a4, a5⟩ := x; obtain ⟨b1, b2, b3, b4, b5⟩ := y
  simp only at k1 k2 g3 k4 k5
  rw [k1, k2, g3, k4, k5]
theorem cmp_lt {x y : T_packet_Key} (rx : RK x) (ry : RK y) (hne : x ≠ y) (h : ¬ lx (nb (kb y)) (nb (kb x)) < 0) : F_ref08_Cmp (rK x) (rK y) = some (-1) := by
  have hw : ∀ {k}, RK k → Wf 256 (kb k) := fun {k} r => by unfold kb; rw [if_pos r.right]; exact kbs_wf r
  have h1 : lx (nb (kb x)) (nb (kb y)) < 0 := by
    have h2 := lx_neg (nb (kb x)) (nb (kb y))
    have h3 : lx (nb (kb x)) (nb (kb y)) ≠ 0 := fun h0 => hne (kb_inj rx ry (nb_inj (hw rx) (hw ry) (lx_zero _ _ h0)))
    omega
  unfold F_ref08_Cmp
  rw [rkb_eq rx.toWK, Option.bind_some, rkb_eq ry.toWK, Option.bind_some, ByteArray.toList_eq, ByteArray.toList_eq, str_list, str_list, less_lx, if_pos (by simpa using h1)]
/-! ### Keys -/
def AllR (S : List Sl) : Prop := ∀ s ∈ S, s.f_Used = true → RK s.f_Key
def uk (S : List Sl) : List T_packet_Key := (S.filter fun s => s.f_Used).map fun s => s.f_Key
theorem uk_snoc {S : List Sl} {c : Nat} {s : Sl} (hs : S[c]? = some s) : uk (S.take (c + 1)) = uk (S.take c) ++ if s.f_Used = true then [s.f_Key] else [] := by
  unfold uk
  rw [List.take_add_one, hs]
  simp only [Option.toList_some, List.filter_append, List.map_append]
  congr 1
  cases hu : s.f_Used <;> simp [hu]
theorem keys_L {n : Nat} {S : List Sl} {m : Int} (w : WT n S) : ∀ (f c : Nat), c ≤ n → n < f + c → F_table_Table_Keys_L1 (S, ⟨S, m⟩) f (uk (S.take c)) (c : Int) = some (srt cf_packet_Cmp (uk S), ⟨S, m⟩)
  | 0, c, h1, h2 => by omega
  | f + 1, c, h1, h2 => by
    have hle := w.le; have hlen := w.len
    have hul : ∀ c, (uk (S.take c)).length ≤ 64 := fun c => by
      unfold uk; rw [List.length_map]
      have := List.length_filter_le (fun s : Sl => s.f_Used) (S.take c)
      rw [List.length_take] at this
      omega
    show F_table_Table_Keys_l1 (F_table_Table_Keys_L1 (S, ⟨S, m⟩) f) (S, ⟨S, m⟩) (uk (S.take c)) (c : Int) = _
    unfold F_table_Table_Keys_l1 F_table_Table_Keys_j1
    dsimp only
    by_cases hc : c < n
    · obtain ⟨s, hs⟩ := get_lt w hc
      have ih := keys_L (m := m) w f (c + 1) (by omega) (by omega)
      rw [uk_snoc hs] at ih
      rw [if_pos (dT (by omega)), gidx_nat hs, Option.bind_some, nx hc (by omega)]
      cases hu : s.f_Used with
      | true =>
        rw [hu, if_pos rfl] at ih
        rw [if_pos rfl, if_pos (limk (by have := hul c; simp; omega))]
        exact ih
      | false =>
        rw [hu, if_neg (by decide), List.append_nil] at ih
        rw [if_neg (by decide)]
        exact ih
    · rw [if_neg (dF (by omega)), List.take_of_length_le (by omega)]
      have := hul n
      rw [List.take_of_length_le (by omega)] at this
      unfold F_slices_SortFunc_packet_Key_packet_Key_packet_Cmp
      rw [if_pos (limk (by omega)), Option.bind_some]
theorem keys_eq {n : Nat} {S : List Sl} {m : Int} (w : WT n S) : F_table_Table_Keys ⟨S, m⟩ = some (srt cf_packet_Cmp (uk S), ⟨S, m⟩) := by
  unfold F_table_Table_Keys
  rw [slots_eq w, Option.bind_some]
  exact keys_L w fuel0 0 (by omega) (by have := w.le; unfold fuel0; omega)
theorem uk_len (S : List Sl) : (uk S).length = usd S := by unfold uk usd; rw [List.length_map, List.countP_eq_length_filter]
theorem uk_nodup {n : Nat} {S : List Sl} {m : Int} (t : TT n S m) : (uk S).Pairwise (· ≠ ·) := by
  unfold uk
  rw [List.pairwise_map, List.pairwise_filter, List.pairwise_iff_getElem]
  intro i j hi hj hij hu hv hk
  have := RL.uniq t (List.getElem?_eq_getElem hi) hu (List.getElem?_eq_getElem hj) hv hk
  omega
theorem uk_mem {S : List Sl} {k : T_packet_Key} (h : k ∈ uk S) : ∃ v, Mem S k v := by
  unfold uk at h
  obtain ⟨s, hs, rfl⟩ := List.mem_map.1 h
  obtain ⟨h1, h2⟩ := List.mem_filter.1 hs
  obtain ⟨q, hq⟩ := List.getElem?_of_mem h1
  exact ⟨s.f_N, q, s, hq, h2, rfl, rfl⟩
/-! ### Is -/
theorem rlen_L {n : Nat} {S : List Sl} (w : WT n S) : ∀ (f c : Nat), c ≤ n → n < f + c → F_ref23_Len_L1 (S.map rS) f (usd (S.take c) : Int) (c : Int) = some (usd S : Int)
  | 0, c, h1, h2 => by omega
  | f + 1, c, h1, h2 => by
    have hle := w.le; have hlen := w.len
    show F_ref23_Len_l1 (F_ref23_Len_L1 (S.map rS) f) (S.map rS) (usd (S.take c) : Int) (c : Int) = _
    unfold F_ref23_Len_l1 F_ref23_Len_j1
    by_cases hc : c < n
    · obtain ⟨s, hs⟩ := get_lt w hc
      have ih := rlen_L w f (c + 1) (by omega) (by omega)
      have hb := usd_le (S.take c)
      rw [List.length_take] at hb
      have e : usd (S.take (c + 1)) = usd (S.take c) + if s.f_Used = true then 1 else 0 := by
        unfold usd; rw [List.take_add_one, hs]; simp [List.countP_append, List.countP_cons]
      rw [e] at ih
      rw [if_pos (dT (by rw [List.length_map]; omega)), gidx_nat (rget hs), Option.bind_some, nx hc (by omega)]
      show (if s.f_Used = true then _ else _) = _
      cases hu : s.f_Used with
      | true =>
        rw [hu, if_pos rfl] at ih
        rw [if_pos rfl, nx (n := 100) (by omega) (by omega)]
        exact ih
      | false =>
        rw [hu, if_neg (by decide)] at ih
        rw [if_neg (by decide)]
        exact ih
    · rw [if_neg (dF (by rw [List.length_map]; omega)), List.take_of_length_le (by omega)]
theorem rlen_eq {n : Nat} {S : List Sl} (w : WT n S) : F_ref23_Len (S.map rS) = some (usd S : Int) :=
  rlen_L w fuel0 0 (by omega) (by have := w.le; unfold fuel0; omega)
theorem is_L2 {n : Nat} {S : List Sl} {m : Int} (t : TT n S m) (hR : AllR S) {ks : List T_packet_Key} (hl : ks.length ≤ 64) (hm : ∀ k ∈ ks, ∃ v, Mem S k v) (hd : ks.Pairwise (· ≠ ·)) (hs : ks.Pairwise fun x y => Go.Proofs.ltOf cf_packet_Cmp y x = false) :
    ∀ (f c : Nat), c ≤ ks.length → ks.length < f + c → F_law23_is_L2 (S.map rS) (ks, ⟨S, m⟩) f (c : Int) = some (true, ⟨S, m⟩)
  | 0, c, h1, h2 => by omega
  | f + 1, c, h1, h2 => by
    show F_law23_is_l2 (F_law23_is_L2 (S.map rS) (ks, ⟨S, m⟩) f) (S.map rS) (ks, ⟨S, m⟩) (c : Int) = _
    unfold F_law23_is_l2
    dsimp only
    have rk : ∀ k ∈ ks, RK k := fun k hk => by
      obtain ⟨v, q, s, h3, h4, h5, _⟩ := hm k hk
      rw [← h5]; exact hR s (List.mem_of_getElem? h3) h4
    by_cases hc : c < ks.length
    · have hg := List.getElem?_eq_getElem hc
      have hmk := List.getElem_mem hc
      have j3 : F_law23_is_j3 (S.map rS) (ks, ⟨S, m⟩) (c : Int) (F_law23_is_L2 (S.map rS) (ks, ⟨S, m⟩) f) false = some (true, ⟨S, m⟩) := by
        unfold F_law23_is_j3
        dsimp only
        obtain ⟨v, hv⟩ := hm _ hmk
        rw [if_neg (by decide), gidx_nat hg, Option.bind_some]
        show ((some (rK ks[c])).bind _) = _
        rw [Option.bind_some, get_sim (m := m) t.toWT (rk _ hmk).toWK, get_in t hv]
        simp only [Option.map_some, Option.bind_some, Bool.not_true, Bool.false_eq_true, ↓reduceIte]
        rw [nx hc (by omega)]
        exact is_L2 t hR hl hm hd hs f (c + 1) (by omega) (by omega)
      rw [if_pos (dT (by omega))]
      by_cases h0 : 0 < c
      · have hc1 : c - 1 < ks.length := by omega
        have hg1 := List.getElem?_eq_getElem hc1
        have hne : ks[c - 1] ≠ ks[c] := List.pairwise_iff_getElem.1 hd (c - 1) c hc1 hc (by omega)
        have hord := List.pairwise_iff_getElem.1 hs (c - 1) c hc1 hc (by omega)
        have hc2 := cmp_lt (rk _ (List.getElem_mem hc1)) (rk _ hmk) hne (by
          simp only [Go.Proofs.ltOf, cf_eq, decide_eq_false_iff_not] at hord
          exact hord)
        rw [if_pos (dT (by omega)), show IntKind.i64.wrap ((c : Int) - 1) = ((c - 1 : Nat) : Int) by rw [wi64 (by omega) (by omega)]; omega, gidx_nat hg1, Option.bind_some, gidx_nat hg, Option.bind_some]
        show ((some (rK ks[c - 1])).bind _) = _
        rw [Option.bind_some]
        show ((some (rK ks[c])).bind _) = _
        rw [Option.bind_some, hc2, Option.bind_some]
        exact j3
      · rw [if_neg (dF (by omega))]
        exact j3
    · rw [if_neg (dF (by omega))]
theorem is_L1 {n : Nat} {S : List Sl} {m : Int} (t : TT n S m) (hR : AllR S) : ∀ (f c : Nat) (lv : List Sl), lv.length = n → (∀ j, c ≤ j → lv[j]? = S[j]?) → c ≤ n → n < f + c → F_law23_is_L1 (S.map rS) S m f lv (c : Int) = some (true, ⟨S, m⟩)
  | 0, c, lv, h3, h4, h1, h2 => by omega
  | f + 1, c, lv, h3, h4, h1, h2 => by
    have w := t.toWT
    have hle := w.le
    show F_law23_is_l1 (F_law23_is_L1 (S.map rS) S m f) (S.map rS) S m lv (c : Int) = _
    unfold F_law23_is_l1
    by_cases hc : c < n
    · obtain ⟨s, hs⟩ := get_lt w hc
      have hv : lv[c]? = some s := by rw [h4 c (Nat.le_refl _)]; exact hs
      have wks := w.key s (List.mem_of_getElem? hs)
      have hq : q_ref08_Key (rK s.f_Key) (rS s).f_Key = true := (qkey_iff wks wks).2 rfl
      rw [if_pos (dT (by omega)), gidx_nat hv, Option.bind_some, gidx_nat (rget hs), Option.bind_some]
      show (if (!(s.f_Used == s.f_Used)) = true then _ else _) = _
      rw [if_neg (by simp), Option.bind_some, Option.bind_some]
      show ((some (rK s.f_Key)).bind _) = _
      rw [Option.bind_some, hq, if_neg (by decide), Option.bind_some, Option.bind_some]
      unfold F_law23_is_j2
      rw [if_neg (by simp [rS]), gidx_nat hv, Option.bind_some, nx hc (by omega)]
      refine is_L1 t hR f (c + 1) _ (by rw [List.length_set, h3]) (fun j hj => ?_) (by omega) (by omega)
      show (lv.set c _)[j]? = _
      rw [List.getElem?_set_ne (by omega)]
      exact h4 j (by omega)
    · obtain ⟨p1, p2⟩ := srt_spec swo_packet_Cmp (uk S)
      have hlen : (srt cf_packet_Cmp (uk S)).length = usd S := by rw [srt_len swo_packet_Cmp, uk_len]
      have hul := usd_le S
      rw [w.len] at hul
      rw [if_neg (dF (by omega)), keys_eq w, Option.bind_some, rlen_eq w, Option.bind_some]
      dsimp only
      rw [hlen, if_neg (by simp)]
      refine is_L2 t hR (by omega) (fun k hk => uk_mem (p1.mem_iff.1 hk)) ((p1.pairwise_iff (fun h => h.symm)).2 (uk_nodup t)) p2 fuel0 0 (by omega) (by rw [hlen]; unfold fuel0; omega)
theorem is_eq {n : Nat} {S : List Sl} {m : Int} (t : TT n S m) (hR : AllR S) : F_law23_is ⟨S, m⟩ (S.map rS) = some (true, ⟨S, m⟩) := by
  have w := t.toWT
  unfold F_law23_is F_law23_is_j1 F_table_Table_Size F_table_Table_Len
  rw [slots_eq w, Option.bind_some]
  dsimp only
  rw [List.length_map, if_neg (by simp), Option.bind_some]
  dsimp only
  rw [if_neg (by simp), Option.bind_some, rlen_eq w, Option.bind_some]
  dsimp only
  rw [t.many, if_neg (by simp)]
  have := t.many
  subst this
  exact is_L1 t hR fuel0 0 S w.len (fun _ _ => rfl) (by omega) (by have := w.le; unfold fuel0; omega)
/-! ### New -/
theorem rnew_bad {size : Int} : ∀ (f j : Nat), j ≤ 17 → 17 < f + j → (∀ i : Nat, i ≤ 16 → size ≠ ((2 ^ i : Nat) : Int)) → F_ref23_New_L1 size f ((2 ^ j : Nat) : Int) = some ([], 2)
  | 0, j, h1, h2, h3 => by omega
  | f + 1, j, h1, h2, h3 => by
    show F_ref23_New_l1 (F_ref23_New_L1 size f) size _ = _
    unfold F_ref23_New_l1
    by_cases hj : j ≤ 16
    · have hp : 2 ^ j ≤ 2 ^ 16 := Nat.pow_le_pow_right (by decide) hj
      have hpp : (0 : Int) ≤ ((2 ^ j : Nat) : Int) := Int.natCast_nonneg _
      rw [if_pos (dT (by omega)), if_neg (by rw [beq_iff_eq]; exact fun h => h3 j hj h.symm), show IntKind.i64.wrap (((2 ^ j : Nat) : Int) * 2) = ((2 ^ (j + 1) : Nat) : Int) by rw [wi64 (by omega) (by omega), Nat.pow_succ]; omega]
      exact rnew_bad f (j + 1) (by omega) (by omega) h3
    · rw [show j = 17 by omega, if_neg (by decide)]
theorem rnew_good {e : Nat} (he : e ≤ 6) : ∀ (f j : Nat), j ≤ e → e < f + j → F_ref23_New_L1 ((2 ^ e : Nat) : Int) f ((2 ^ j : Nat) : Int) = some ((List.replicate (2 ^ e) E0).map rS, 0)
  | 0, j, h1, h2 => by omega
  | f + 1, j, h1, h2 => by
    show F_ref23_New_l1 (F_ref23_New_L1 ((2 ^ e : Nat) : Int) f) ((2 ^ e : Nat) : Int) _ = _
    unfold F_ref23_New_l1
    have hp : 2 ^ j ≤ 2 ^ 6 := Nat.pow_le_pow_right (by decide) (by omega)
    have hq : 2 ^ e ≤ 2 ^ 6 := Nat.pow_le_pow_right (by decide) he
    have hpp : (0 : Int) ≤ ((2 ^ j : Nat) : Int) := Int.natCast_nonneg _
    have hpq : (0 : Int) ≤ ((2 ^ e : Nat) : Int) := Int.natCast_nonneg _
    rw [if_pos (dT (by omega))]
    by_cases hj : j = e
    · subst hj
      rw [if_pos (by simp), if_pos (dT ⟨by omega, by unfold lim; omega⟩), List.map_replicate, Int.toNat_natCast]
      rfl
    · have hlt : 2 ^ j < 2 ^ e := Nat.pow_lt_pow_right (by decide) (by omega)
      rw [if_neg (by rw [beq_iff_eq]; omega), show IntKind.i64.wrap (((2 ^ j : Nat) : Int) * 2) = ((2 ^ (j + 1) : Nat) : Int) by rw [wi64 (by omega) (by omega), Nat.pow_succ]; omega]
      exact rnew_good he f (j + 1) (by omega) (by omega)
theorem pow_some : ∀ s : Fin 65, 1 ≤ s.val → ((bits .and .i64 (s.val : Int) (IntKind.i64.wrap ((s.val : Int) - 1))) != 0) = false → ∃ e : Fin 7, s.val = 2 ^ e.val := by decide +kernel
theorem pow_none : ∀ s : Fin 65, 1 ≤ s.val → ((bits .and .i64 (s.val : Int) (IntKind.i64.wrap ((s.val : Int) - 1))) != 0) = true → ∀ i : Fin 17, s.val ≠ 2 ^ i.val := by decide +kernel
/-! ### One call -/
structure RA (a : T_law23_Act) : Prop where
  src : a.f_K.f_Src.f_B.length = 16
  dst : a.f_K.f_Dst.f_B.length = 16
  sp : 0 ≤ a.f_K.f_SrcPort ∧ a.f_K.f_SrcPort < 65536
  dp : 0 ≤ a.f_K.f_DstPort ∧ a.f_K.f_DstPort < 65536
  sb : Wf 256 a.f_K.f_Src.f_B
  db : Wf 256 a.f_K.f_Dst.f_B
  pb : 0 ≤ a.f_K.f_Proto ∧ a.f_K.f_Proto < 256
theorem RA.wk {a : T_law23_Act} (h : RA a) : WK a.f_K := ⟨h.src, h.dst, h.sp, h.dp⟩
theorem RA.rk {a : T_law23_Act} (h : RA a) (hr : kr a.f_K = true) : RK a.f_K := ⟨h.wk, hr, h.sb, h.db, h.pb⟩
theorem all_set {S : List Sl} (h : AllR S) {q : Nat} {e : Sl} (he : RK e.f_Key) : AllR (S.set q e) := fun s hs hu => by
  rcases List.mem_or_eq_of_mem_set hs with h1 | h1
  · exact h s h1 hu
  · rw [h1]; exact he
theorem put_any {n : Nat} {S : List Sl} {m : Int} (t : TT n S m) (hR : AllR S) {x : T_law23_Act} (hx : RA x) : ∃ e S' m', F_table_Table_Put ⟨S, m⟩ x.f_K x.f_N = some (e, ⟨S', m'⟩) ∧ TT n S' m' ∧ AllR S' := by
  cases hr : kr x.f_K with
  | false => exact ⟨_, _, _, put_wrong t hx.wk hr _, t, hR⟩
  | true =>
    rcases find_cases t hx.wk with ⟨q, s, hq, hs, hu, hks, _⟩ | ⟨ha, _⟩
    · obtain ⟨p1, p2⟩ := put_over t hs hu (by rw [hks]; exact hr) x.f_N
      rw [hks] at p1 p2
      exact ⟨_, _, _, p1, p2, all_set hR (hx.rk hr)⟩
    · have hul := usd_le S
      rw [t.len] at hul
      rcases Nat.lt_or_ge (usd S) n with h1 | h1
      · obtain ⟨q, s, hs, hu, p1, p2⟩ := put_new t hx.wk ha h1 hr x.f_N
        exact ⟨_, _, _, p1, p2, all_set hR (hx.rk hr)⟩
      · exact ⟨_, _, _, put_full t hx.wk ha (by omega) hr _, t, hR⟩
theorem del_any {n : Nat} {S : List Sl} {m : Int} (t : TT n S m) (hR : AllR S) {k : T_packet_Key} (hk : WK k) : ∃ b S' m', F_table_Table_Delete ⟨S, m⟩ k = some (b, ⟨S', m'⟩) ∧ TT n S' m' ∧ AllR S' := by
  rcases find_cases t hk with ⟨q, s, hq, hs, hu, rfl, _⟩ | ⟨ha, _⟩
  · obtain ⟨T, d1, d2, d3, d4⟩ := del_in t hs hu
    refine ⟨_, _, _, d1, d2, fun e he heu => ?_⟩
    obtain ⟨i, hi⟩ := List.getElem?_of_mem he
    obtain ⟨p, hp⟩ := d4 i e hi heu
    by_cases h1 : p = q
    · subst h1
      rw [List.getElem?_set_self (List.getElem?_eq_some_iff.1 hs).1] at hp
      injection hp with hp; subst hp; cases heu
    · rw [List.getElem?_set_ne (fun h => h1 h.symm)] at hp
      exact hR e (List.mem_of_getElem? hp) heu
  · exact ⟨_, _, _, del_out t hk ha, t, hR⟩
theorem get_any {n : Nat} {S : List Sl} {m : Int} (t : TT n S m) {k : T_packet_Key} (hk : WK k) : ∃ v b, F_table_Table_Get ⟨S, m⟩ k = some (v, b, ⟨S, m⟩) := by
  rcases find_cases t hk with ⟨q, s, hq, hs, hu, rfl, _⟩ | ⟨ha, _⟩
  · exact ⟨_, _, get_in t ⟨q, s, hs, hu, rfl, rfl⟩⟩
  · exact ⟨_, _, get_out t hk ha⟩
/-! ### The law -/
theorem p5_eq {n : Nat} {S : List Sl} {m : Int} (t : TT n S m) (hR : AllR S) {x : T_law23_Act} (hx : RA x) (i : Int) (rec) : F_law23_TablePlays_j5 i rec x (rK x.f_K) S m (S.map rS) = rec S m (S.map rS) (IntKind.i64.wrap (i + 1)) := by
  have w := t.toWT
  obtain ⟨v, b, g1⟩ := get_any t hx.wk
  obtain ⟨p, c, h1, h2, h3⟩ := find_sim m w hx.wk
  unfold F_law23_TablePlays_j5 F_table_Table_Probes
  rw [g1, Option.bind_some, get_sim (m := m) w hx.wk, g1, Option.map_some, Option.bind_some, h2, Option.bind_some]
  dsimp only
  rw [if_neg (by simp), if_neg (by simp), h1, Option.bind_some, Option.bind_some]
  dsimp only
  rw [if_neg (by simp), hash_eq, Option.bind_some, rhash_eq hx.wk, Option.bind_some, if_neg (by simp), is_eq t hR, Option.bind_some]
  unfold F_law23_TablePlays_j6
  dsimp only
  rw [if_neg (by decide)]
theorem p7_eq {n : Nat} {size : Int} (hn : size = (n : Int)) (hnew : F_ref23_New size = some ((List.replicate n E0).map rS, 0)) (he : TT n (List.replicate n E0) 0) {S : List Sl} {m : Int} (t : TT n S m) (hR : AllR S) {x : T_law23_Act} (hx : RA x) (i : Int) (rec) (d : Int) (b : Bool) :
    ∃ S' m', TT n S' m' ∧ AllR S' ∧ F_law23_TablePlays_j7 size S m (S.map rS) i rec x (rK x.f_K) d b = rec S' m' (S'.map rS) (IntKind.i64.wrap (i + 1)) := by
  have w := t.toWT
  have he0 : AllR (List.replicate n E0) := fun s hs hu => by rw [List.eq_of_mem_replicate hs] at hu; cases hu
  unfold F_law23_TablePlays_j7
  cases b with
  | true =>
    obtain ⟨r, S', m', d1, d2, d3⟩ := del_any t hR hx.wk
    refine ⟨S', m', d2, d3, ?_⟩
    rw [if_pos rfl, del_sim (m := m) w hx.wk, d1, Option.map_some, Option.bind_some, Option.bind_some]
    dsimp only
    rw [if_neg (by simp)]
    exact p5_eq d2 d3 hx i rec
  | false =>
    rw [if_neg (by decide)]
    by_cases h6 : (d == 6) = true
    · rw [if_pos h6]; exact ⟨S, m, t, hR, p5_eq t hR hx i rec⟩
    · rw [if_neg h6]
      by_cases h7 : (d == 7) = true
      · rw [if_pos h7]
        by_cases h8 : (Int.tmod x.f_N 8 == 0) = true
        · rw [if_pos h8]
          refine ⟨_, _, he, he0, ?_⟩
          unfold F_table_Table_Clear
          rw [Option.bind_some, hnew, Option.bind_some]
          dsimp only
          rw [w.len]
          exact p5_eq he he0 hx i rec
        · rw [if_neg h8]; exact ⟨S, m, t, hR, p5_eq t hR hx i rec⟩
      · rw [if_neg h7]
        obtain ⟨e, S', m', d1, d2, d3⟩ := put_any t hR hx
        refine ⟨S', m', d2, d3, ?_⟩
        rw [put_sim (m := m) w hx.wk, d1, Option.map_some, Option.bind_some, Option.bind_some]
        dsimp only
        rw [if_neg (by simp)]
        exact p5_eq d2 d3 hx i rec
theorem plays_L {n : Nat} {size : Int} (hn : size = (n : Int)) (hnew : F_ref23_New size = some ((List.replicate n E0).map rS, 0)) (he : TT n (List.replicate n E0) 0) {lv : List T_law23_Act} (hx : ∀ a ∈ lv, RA a) (hl : lv.length ≤ 60) :
    ∀ (f i : Nat) (S : List Sl) (m : Int), TT n S m → AllR S → i ≤ lv.length → lv.length < f + i → F_law23_TablePlays_L1 size lv f S m (S.map rS) (i : Int) = some true
  | 0, i, S, m, t, hR, h1, h2 => by omega
  | f + 1, i, S, m, t, hR, h1, h2 => by
    show F_law23_TablePlays_l1 (F_law23_TablePlays_L1 size lv f) size lv S m (S.map rS) (i : Int) = _
    unfold F_law23_TablePlays_l1
    by_cases hi : i < lv.length
    · obtain ⟨x, hxi⟩ : ∃ x, lv[i]? = some x := ⟨_, List.getElem?_eq_getElem hi⟩
      have wx := hx x (List.mem_of_getElem? hxi)
      obtain ⟨d, hd⟩ := pick_eq x.f_Do
      rw [if_pos (dT (by omega)), gidx_nat hxi, Option.bind_some]
      show ((some (rK x.f_K)).bind _) = _
      rw [Option.bind_some, hd, Option.bind_some]
      have fin : ∀ b, F_law23_TablePlays_j7 size S m (S.map rS) (i : Int) (F_law23_TablePlays_L1 size lv f) x (rK x.f_K) d b = some true := fun b => by
        obtain ⟨S', m', t', hR', q⟩ := p7_eq hn hnew he t hR wx (i : Int) (F_law23_TablePlays_L1 size lv f) d b
        rw [q, nx hi (by omega)]
        exact plays_L hn hnew he hx hl f (i + 1) S' m' t' hR' (by omega) (by omega)
      split
      · exact fin _
      · exact fin _
    · rw [if_neg (dF (by omega)), works_eq]
      rfl
theorem plays_eq {size : Int} {lv : List T_law23_Act} (hx : ∀ a ∈ lv, RA a) : F_law23_TablePlays size lv = some true := by
  have j1t : F_law23_TablePlays_j1 size lv true = some true := by
    unfold F_law23_TablePlays_j1
    rw [if_pos rfl, works_eq]; rfl
  have bad : (∀ i : Nat, i ≤ 16 → size ≠ ((2 ^ i : Nat) : Int)) → F_law23_TablePlays_j2 size lv true = some true := fun h => by
    have hr : F_ref23_New size = some ([], 2) := rnew_bad fuel0 0 (by omega) (by unfold fuel0; omega) h
    unfold F_law23_TablePlays_j2 F_law23_TablePlays_j3
    rw [if_pos rfl, hr, Option.bind_some, if_neg (by decide), if_neg (by decide), works_eq]; rfl
  have j1f : (size ≤ 64 ∨ 65536 < size) → lv.length ≤ 60 → F_law23_TablePlays_j1 size lv false = some true := fun hs hl => by
    unfold F_law23_TablePlays_j1
    rw [if_neg (by decide)]
    by_cases h1 : size < 1
    · rw [if_pos (dT h1)]
      exact bad fun i hi => by have : 0 < 2 ^ i := Nat.pow_pos (by decide); omega
    · rw [if_neg (dF h1)]
      by_cases h2 : 65536 < size
      · rw [if_pos (dT h2)]
        exact bad fun i hi => by have : 2 ^ i ≤ 2 ^ 16 := Nat.pow_le_pow_right (by decide) hi; omega
      · rw [if_neg (dF h2)]
        obtain ⟨n, rfl⟩ := Int.eq_ofNat_of_zero_le (show 0 ≤ size by omega)
        cases hb : (bits .and .i64 (n : Int) (IntKind.i64.wrap ((n : Int) - 1))) != 0 with
        | true =>
          exact bad fun i hi h => by
            have := pow_none ⟨n, by omega⟩ (by show 1 ≤ n; omega) hb ⟨i, by omega⟩
            exact this (by show n = 2 ^ i; omega)
        | false =>
          have hd := pow_dvd ⟨n, by omega⟩ (by show 1 ≤ n; omega) hb
          obtain ⟨e, hne⟩ := pow_some ⟨n, by omega⟩ (by show 1 ≤ n; omega) hb
          have hne : n = 2 ^ e.val := hne
          have hnew : F_ref23_New (n : Int) = some ((List.replicate n E0).map rS, 0) := by
            rw [hne]; exact rnew_good (by omega) fuel0 0 (by omega) (by unfold fuel0; omega)
          have t := tt_empty (n := n) (by omega) (by omega) hd
          unfold F_law23_TablePlays_j2
          rw [if_neg (by decide), if_pos (dT ⟨by omega, by unfold lim; omega⟩), hnew, Option.bind_some]
          dsimp only
          rw [if_neg (by decide)]
          unfold F_law23_TablePlays_j4
          rw [if_neg (by decide)]
          exact plays_L rfl hnew t hx hl fuel0 0 (List.replicate n E0) 0 t (fun s hs hu => by rw [List.eq_of_mem_replicate hs] at hu; cases hu) (by omega) (by unfold fuel0; omega)
  have len : (size ≤ 64 ∨ 65536 < size) → F_law23_TablePlays_j1 size lv (decide (60 < (lv.length : Int))) = some true := fun hs => by
    by_cases h : 60 < (lv.length : Int)
    · rw [dT h]; exact j1t
    · rw [decide_eq_false h]; exact j1f hs (by omega)
  unfold F_law23_TablePlays
  by_cases h1 : 64 < size
  · rw [if_pos (dT h1)]
    by_cases h2 : size ≤ 65536
    · rw [if_pos (dT h2)]; exact j1t
    · rw [if_neg (dF h2)]; exact len (.inr (by omega))
  · rw [if_neg (dF h1)]; exact len (.inl (by omega))
/-! ### The examples -/
def k0 (v : Int) : T_packet_Key := ⟨⟨false, setA 16 (List.replicate 16 0) 0 10⟩, ⟨false, List.replicate 16 0⟩, 17, IntKind.u16.wrap v, 53⟩
theorem key_k0 (v : Int) : F_law23_key v = some (k0 v) := rfl
theorem ra_k0 (d v x : Int) : RA ⟨d, k0 v, x⟩ := by
  have h : 0 ≤ IntKind.u16.wrap v ∧ IntKind.u16.wrap v < 65536 := by rw [IntKind.wrap_u16]; omega
  exact ⟨by show (setA 16 (List.replicate 16 0) 0 10).length = 16; decide, by show (List.replicate 16 (0 : Int)).length = 16; decide, h, by show (0 : Int) ≤ 53 ∧ (53 : Int) < 65536; omega, by show ∀ x ∈ setA 16 (List.replicate 16 0) 0 10, 0 ≤ x ∧ x < 256; decide, by show ∀ x ∈ List.replicate 16 (0 : Int), 0 ≤ x ∧ x < 256; decide, by show (0 : Int) ≤ 17 ∧ (17 : Int) < 256; omega⟩
theorem ra_k1 (d v x : Int) : RA ⟨d, ⟨⟨(k0 v).f_Src.f_Six, setA 16 (k0 v).f_Src.f_B 9 1⟩, (k0 v).f_Dst, (k0 v).f_Proto, (k0 v).f_SrcPort, (k0 v).f_DstPort⟩, x⟩ := by
  have h := ra_k0 d v x
  exact ⟨by show (setA 16 (setA 16 (List.replicate 16 0) 0 10) 9 1).length = 16; decide, h.dst, h.sp, h.dp, by show ∀ x ∈ setA 16 (setA 16 (List.replicate 16 0) 0 10) 9 1, 0 ≤ x ∧ x < 256; decide, h.db, h.pb⟩
theorem ra_app {l l' : List T_law23_Act} (h : ∀ a ∈ l, RA a) (h' : ∀ a ∈ l', RA a) : ∀ a ∈ l ++ l', RA a := fun a ha => by
  rcases List.mem_append.1 ha with h1 | h1
  · exact h a h1
  · exact h' a h1
theorem known_4 (i : Int) (rec) : ∀ (f c : Nat) (l : List T_law23_Act), (∀ a ∈ l, RA a) → l.length < 100 + 2 * c → c ≤ 20 → 20 < f + c → F_law23_TableKnown_L4 i rec f l (c : Int) = rec (IntKind.i64.wrap (i + 1))
  | 0, c, l, h0, h3, h1, h2 => by omega
  | f + 1, c, l, h0, h3, h1, h2 => by
    show F_law23_TableKnown_l4 (F_law23_TableKnown_L4 i rec f) i rec l (c : Int) = _
    unfold F_law23_TableKnown_l4
    by_cases hc : c < 20
    · rw [if_pos (dT (by omega)), key_k0, Option.bind_some, key_k0, Option.bind_some, if_pos (limk (by simp; omega)), nx hc (by omega)]
      refine known_4 i rec f (c + 1) _ (ra_app h0 fun a ha => ?_) (by simp; omega) (by omega) (by omega)
      simp only [List.mem_cons, List.not_mem_nil, or_false] at ha
      rcases ha with rfl | rfl <;> exact ra_k0 _ _ _
    · have hw : ∀ a ∈ l, WK a.f_K := fun a ha => (h0 a ha).wk
      rw [if_neg (dF (by omega)), plays_eq h0, keeps_eq hw, plays_eq h0, keeps_eq hw]
      rfl
theorem known_3 (i : Int) (rec) : ∀ (f c : Nat) (l : List T_law23_Act), (∀ a ∈ l, RA a) → l.length ≤ c → c ≤ 20 → 20 < f + c → F_law23_TableKnown_L3 i rec f l (c : Int) = rec (IntKind.i64.wrap (i + 1))
  | 0, c, l, h0, h3, h1, h2 => by omega
  | f + 1, c, l, h0, h3, h1, h2 => by
    show F_law23_TableKnown_l3 (F_law23_TableKnown_L3 i rec f) i rec l (c : Int) = _
    unfold F_law23_TableKnown_l3
    by_cases hc : c < 20
    · rw [if_pos (dT (by omega)), key_k0, Option.bind_some, if_pos (limk (by simp; omega)), nx hc (by omega)]
      refine known_3 i rec f (c + 1) _ (ra_app h0 fun a ha => ?_) (by simp; omega) (by omega) (by omega)
      simp only [List.mem_cons, List.not_mem_nil, or_false] at ha
      subst ha; exact ra_k0 _ _ _
    · rw [if_neg (dF (by omega))]
      exact known_4 i rec fuel0 0 l h0 (by omega) (by omega) (by unfold fuel0; omega)
theorem known_2 {i : Nat} (hi : i < 40) (rec) : ∀ (f c : Nat) (k : Int) (l : List T_law23_Act), (∀ a ∈ l, RA a) → l.length = c → c ≤ 50 → 50 < f + c → F_law23_TableKnown_L2 (i : Int) rec f l k (c : Int) = rec (IntKind.i64.wrap ((i : Int) + 1))
  | 0, c, k, l, h0, h3, h1, h2 => by omega
  | f + 1, c, k, l, h0, h3, h1, h2 => by
    show F_law23_TableKnown_l2 (F_law23_TableKnown_L2 (i : Int) rec f) (i : Int) rec l k (c : Int) = _
    unfold F_law23_TableKnown_l2 F_law23_TableKnown_j1
    by_cases hc : c < 50
    · rw [if_pos (dT (by omega)), if_pos (dT (by rw [wi64 (by omega) (by omega)]; omega)), key_k0, Option.bind_some, nx hc (by omega)]
      have hg : ∀ v, ∃ z, gidxA 16 (k0 v).f_Src.f_B 9 = some z := fun v => by
        unfold gidxA; rw [if_pos (by decide)]; exact ⟨_, rfl⟩
      split
      · obtain ⟨z, hz⟩ := hg (Int.tmod (IntKind.i64.wrap (Int.tdiv k 8)) (IntKind.i64.wrap (5 + (i : Int))))
        rw [hz, Option.bind_some, if_pos (limk (by simp; omega))]
        refine known_2 hi rec f (c + 1) _ _ (ra_app h0 fun a ha => ?_) (by simp [h3]) (by omega) (by omega)
        simp only [List.mem_cons, List.not_mem_nil, or_false] at ha
        subst ha; exact ra_k1 _ _ _
      · rw [if_pos (limk (by simp; omega))]
        refine known_2 hi rec f (c + 1) _ _ (ra_app h0 fun a ha => ?_) (by simp [h3]) (by omega) (by omega)
        simp only [List.mem_cons, List.not_mem_nil, or_false] at ha
        subst ha; exact ra_k0 _ _ _
    · have hw : ∀ a ∈ l, WK a.f_K := fun a ha => (h0 a ha).wk
      obtain ⟨z, hz⟩ : ∃ z, gidx ([1, 2, 4, 8, 16, 32, 64, 3] : List Int) (Int.tmod (i : Int) 8) = some z := by
        have : Int.tmod (i : Int) 8 = ((i % 8 : Nat) : Int) := rfl
        rw [this]
        exact ⟨_, gidx_nat (List.getElem?_eq_getElem (by simp; omega))⟩
      have hil : i < l.length := by omega
      rw [if_neg (dF (by omega)), hz, Option.bind_some, plays_eq h0, Option.bind_some, if_neg (by decide), keeps_eq hw, Option.bind_some, if_neg (by decide), gidx_nat (List.getElem?_eq_getElem hil), Option.bind_some, none_eq, Option.bind_some]
      unfold F_law23_TableKnown_j2
      rw [if_neg (by decide)]
      exact known_3 (i : Int) rec fuel0 0 [] (by simp) (by simp) (by omega) (by unfold fuel0; omega)
theorem known_1 : ∀ (f i : Nat), i ≤ 40 → 40 < f + i → F_law23_TableKnown_L1 f (i : Int) = some true
  | 0, i, h1, h2 => by omega
  | f + 1, i, h1, h2 => by
    show F_law23_TableKnown_l1 (F_law23_TableKnown_L1 f) (i : Int) = _
    unfold F_law23_TableKnown_l1
    by_cases hi : i < 40
    · rw [if_pos (dT (by omega))]
      refine (known_2 hi (F_law23_TableKnown_L1 f) fuel0 0 (i : Int) [] (by simp) rfl (by omega) (by unfold fuel0; omega)).trans ?_
      rw [nx hi (by omega)]
      exact known_1 f (i + 1) (by omega) (by omega)
    · have h : ∀ s : Int, F_law23_TablePlays s [] = some true := fun s => plays_eq (by simp)
      rw [if_neg (dF (by omega)), h, h, h, works_eq]
      rfl
theorem known_eq : F_law23_TableKnown = some true := known_1 fuel0 0 (by omega) (by unfold fuel0; omega)
end Go.Proofs.Ytnbakndfnjflhaa
