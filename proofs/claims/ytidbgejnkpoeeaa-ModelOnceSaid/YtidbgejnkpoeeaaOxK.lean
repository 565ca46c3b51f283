/- A plain library: orders of strings and of bytes, rows that are cleared, stores into arrays, rows that are read alone and handed on. No program is named here. -/
import Derived.Test.YtidbgejnkpoeeaaOxJ
import Derived.Test.YtidbgejnkpoeeaaOxU
import Derived.Test.YtidbgejnkpoeeaaOxV
import Derived.Laws.Externs
set_option linter.unusedVariables false
namespace Go.Ox
open Go Go.RowKit
section
variable {F : Fence} {P : Program} {ops : Array Oper} {Q : Exit → Act → World → Prop} {rest : List Oper} {n : Fr} {d : Nat} {l l' : List (Nat × Value)} {w w0 w' : World} {L : List Ob} {S : List (Option Nat)}
variable {o : Op} {ty : TypeId} {pos : String} {after : Array Edge} {v : Value}
variable {x y z : Operand} {k k' k2 : IntKind} {p q : Int} {t t' e : TypeId} {A A2 : Option Addr} {s c c2 b m n1 : Nat} {i j : Nat}
variable {α : Type} {enc : α → List Value}

/-! ### What comes behind is hidden -/
theorem KC.seqH {c1 c2 : Code} (h : ∀ Q' : Exit → Act → World → Prop, (∀ e a w, Exit.then (c2.wpIn F 0 P Q) Q e a w → Q' e a w) → KC F P c1 Q' n l w) : KC F P (.seq c1 c2) Q n l w := KC.seq (h _ fun _ _ _ h => h)
theorem KQ.thn {Q' : Exit → Act → World → Prop} {c2 : Code} (hQ : ∀ e a w, Exit.then (c2.wpIn F 0 P Q) Q e a w → Q' e a w) (h : KC F P c2 Q n l w) : KQ Q' .normal n l w := fun a ha => hQ _ _ _ (h a ha)
theorem KQ.thx {Q' : Exit → Act → World → Prop} {c2 : Code} {id : Nat} (hQ : ∀ e a w, Exit.then (c2.wpIn F 0 P Q) Q e a w → Q' e a w) (h : KQ Q (.exit id) n l w) : KQ Q' (.exit id) n l w := fun a ha => hQ _ _ _ (h a ha)
theorem KQ.thr {Q' : Exit → Act → World → Prop} {c2 : Code} (hQ : ∀ e a w, Exit.then (c2.wpIn F 0 P Q) Q e a w → Q' e a w) (h : KQ Q .ret n l w) : KQ Q' .ret n l w := fun a ha => hQ _ _ _ (h a ha)

theorem cutNE {G : Prop} (A : Option Addr) (c p s : Nat) (h : ∀ A' c', A' = (if c = p then A else A.map (·.add (p * s))) → c' = c - p → G) : G := h _ _ rfl rfl
theorem obind_comm {β γ δ : Type} (a : Option β) (b : Option γ) (k : β → γ → Option δ) : (a.bind fun x => b.bind fun y => k x y) = (b.bind fun y => a.bind fun x => k x y) := by cases a <;> cases b <;> rfl
theorem exE {β : Sort _} {p : β → Prop} {G : Prop} (h : ∃ x, p x) (k : ∀ x, p x → G) : G := h.elim k
theorem anE {a b G : Prop} (h : a ∧ b) (k : a → b → G) : G := k h.1 h.2

/-! ### Orders -/
theorem O.strlss {a r : ByteArray} (hx : ev l x = some (.string a)) (hy : ev l y = some (.string r)) : OpV P (.binOp .lss t x y t') ty l w (.bool (Op.bytesLess a.toList r.toList)) := fun ρ hρ _ _ _ _ => by
  simp only [execOp, hρ x _ hx, hρ y _ hy, eqGuard_at_string]
  simp [binOp, Op.stringOp]
theorem O.strgtr {a r : ByteArray} (hx : ev l x = some (.string a)) (hy : ev l y = some (.string r)) : OpV P (.binOp .gtr t x y t') ty l w (.bool (!(Op.bytesLess a.toList r.toList || a.toList == r.toList))) := fun ρ hρ _ _ _ _ => by
  simp only [execOp, hρ x _ hx, hρ y _ hy, eqGuard_at_string]
  simp [binOp, Op.stringOp]
theorem O.strleq {a r : ByteArray} (hx : ev l x = some (.string a)) (hy : ev l y = some (.string r)) : OpV P (.binOp .leq t x y t') ty l w (.bool (Op.bytesLess a.toList r.toList || a.toList == r.toList)) := fun ρ hρ _ _ _ _ => by
  simp only [execOp, hρ x _ hx, hρ y _ hy, eqGuard_at_string]
  simp [binOp, Op.stringOp]
theorem O.strgeq {a r : ByteArray} (hx : ev l x = some (.string a)) (hy : ev l y = some (.string r)) : OpV P (.binOp .geq t x y t') ty l w (.bool (!Op.bytesLess a.toList r.toList)) := fun ρ hρ _ _ _ _ => by
  simp only [execOp, hρ x _ hx, hρ y _ hy, eqGuard_at_string]
  simp [binOp, Op.stringOp]
theorem run_loadBytes : ∀ (xs : List Int) (a : Addr) (acc : ByteArray), Cs w a (xs.map fun n => Value.int .u8 n) → (Extern.Bytes.loadBytes a xs.length acc).run P w = .ok ⟨acc.data ++ (strOfNums xs).data⟩ w
  | [], a, acc, h => by simp [Extern.Bytes.loadBytes, strOfNums]
  | y :: ys, a, acc, h => by
    have h0 : w.cell? a = some (.int .u8 y) := Cs.at0 (r := ys.map fun n => Value.int .u8 n) (by simpa using h)
    have h1 : Cs w (a.add 1) (ys.map fun n => Value.int .u8 n) := by simpa using h.sub 1
    have ih := run_loadBytes ys (a.add 1) (acc.push y.toNat.toUInt8) h1
    show (Extern.Bytes.loadBytes a (ys.length + 1) acc).run P w = _
    unfold Extern.Bytes.loadBytes
    have hl : (load a).run P w = .ok (.int .u8 y) w := by simp [h0]
    rw [Sem.run_bind, hl, Result.andThen_ok]
    dsimp only
    rw [ih]
    congr 2
    simp [strOfNums, ByteArray.push]
theorem run_bytesOf {xs : List Int} (h : Rd w A c 1 xs.length (xs.flatMap (fun n => [Value.int .u8 n]))) : (Extern.Bytes.bytesOf (.slice A xs.length c)).run P w = .ok (strOfNums xs) w := by
  rw [flat_one] at h
  cases A with
  | none =>
    have : xs = [] := by
      cases xs with
      | nil => rfl
      | cons y ys => obtain ⟨ad, e, _⟩ := h.adr (by simp); cases e
    subst this
    rfl
  | some ad =>
    show (Extern.Bytes.loadBytes ad xs.length .empty).run P w = _
    rw [run_loadBytes xs ad .empty (by intro j u hj; exact h.cs j u hj)]
    congr 1
    show (⟨#[] ++ (strOfNums xs).data⟩ : ByteArray) = _
    rw [Array.empty_append]
/-- bytes.Compare, as the model has it. -/
def bcmp (xs ys : List Int) : Int := Extern.BytealgCompare.cmp (strOfNums xs) (strOfNums ys)
theorem O.bcmp {f : FuncId} {fn : Func} {xs ys : List Int} {ats : Array TypeId} (hf : P.funcs[f]? = some fn) (hname : (fn.name == "runtime.NumGoroutine") = false) (hb : fn.body.isNone = true) (hn : Extern.findNext fn = none) (he : Extern.find fn = some Extern.BytealgCompare.compare)
    (hx : ev l x = some (.slice A xs.length c)) (hy : ev l y = some (.slice A2 ys.length c2)) (h1 : Rd w A c 1 xs.length (xs.flatMap (fun n => [Value.int .u8 n]))) (h2 : Rd w A2 c2 1 ys.length (ys.flatMap (fun n => [Value.int .u8 n]))) :
    OpV P (.call ⟨.value (.func f), #[x, y], ats⟩) ty l w (.int .i64 (Ox.bcmp xs ys)) := fun ρ hρ _ _ _ _ => by
  unfold execOp
  simp only [resolve, hρ (.func f) (.func (.func f) #[] #[]) rfl, Deferred.ofValue, Sem.run_bind, Sem.run_pure, Result.andThen_ok, invoke]
  rw [show (#[] ++ Array.map ρ #[x, y] ++ #[] : Array Value) = #[.slice A xs.length c, .slice A2 ys.length c2] by simp [hρ x _ hx, hρ y _ hy], run_callFunc_extern hf hname hb hn he]
  have e : Extern.BytealgCompare.compare #[.slice A xs.length c, .slice A2 ys.length c2] = (do Pure.pure (goInt (Extern.BytealgCompare.cmp (← Extern.Bytes.bytesOf (.slice A xs.length c)) (← Extern.Bytes.bytesOf (.slice A2 ys.length c2))))) := rfl
  rw [e]
  simp only [Sem.run_bind, run_bytesOf h1, run_bytesOf h2, Result.andThen_ok, Sem.run_pure, goInt]
  rfl

/-! ### A row is cleared -/
theorem RL.eff0 [WF F] {R : Value → World → Prop} (h : Eff P o ty l w R) (hk : ∀ v w', R v w' → RL F P ops Q rest n l w') : RL F P ops Q (⟨none, o, ty, pos, after, none⟩ :: rest) n l w := by
  obtain ⟨v, w', ho, hR⟩ := h
  exact RL.val0 ho (hk v w' hR)
theorem E.clear {xs : List α} {zr : α} {zs : List Value} (hM : Mem w0 S w L) (hi : L[j]? = some (.row A c e s xs.length (xs.flatMap enc))) (ht : SliceT P t e s b) (hz : ZeroT P e zs) (hs : Nat.blt 0 s = true) (hlen : ∀ x, (enc x).length = s) (hzr : enc zr = zs) (h1 : One zs) (hx : ev l x = some (.slice A xs.length c)) :
    Eff P (.call ⟨.builtin .clear, #[x], #[t]⟩) ty l w (fun v w' => Mem w0 S w' (L.set j (.row A c e s (List.replicate xs.length zr).length ((List.replicate xs.length zr).flatMap enc))) ∧ xs.length = (List.replicate xs.length zr).length) := by
  obtain ⟨ii, hinf, hsz, hbb⟩ := ht.info
  obtain ⟨zv, hzv, hzc⟩ := hz.info hinf
  have hs' : 0 < s := by simpa using hs
  have hzf := zero_flat hs' hlen hzr xs.length
  have hrl : (List.replicate xs.length zr).length = xs.length := by simp
  by_cases h0 : xs.length = 0
  · have hx0 : xs = [] := List.eq_nil_of_length_eq_zero h0
    subst hx0
    refine ⟨.tuple #[], w, fun ρ hρ _ _ _ _ => ?_, ?_, rfl⟩
    · simp only [execOp]
      cases A <;> simp [resolve, invoke, builtin, hρ x _ hx, Builtin.clear_, run_underlying ht.1]
    · have : L.set j (.row A c e s (List.replicate ([] : List α).length zr).length ((List.replicate ([] : List α).length zr).flatMap enc)) = L := by
        apply List.ext_getElem?
        intro q
        by_cases h : j = q
        · subst h; rw [List.getElem?_set_self (List.getElem?_eq_some_iff.1 hi).1, hi]; rfl
        · rw [List.getElem?_set_ne h]
      rw [this]; exact hM
  · obtain ⟨g, cur, rfl, hg, hnc, hszc, htk⟩ := hM.row_block hi (by omega)
    have hle : xs.length * s ≤ cur.size := by rw [hszc]; exact Nat.mul_le_mul_right _ hnc
    have hfl : ((List.replicate xs.length zr).flatMap enc).length = xs.length * s := by rw [flat_length hlen, hrl]
    have hone : One ((List.replicate xs.length zr).flatMap enc) := fun u hu => by
      obtain ⟨q, hq, hu⟩ := List.mem_flatMap.1 hu
      rw [(List.mem_replicate.1 hq).2, hzr] at hu
      exact h1 u hu
    have hst := run_storeCells_at P g 0 e ((List.replicate xs.length zr).flatMap enc) 0 cur w hg (by rw [hfl]; omega) hone
    have hc0 : c ≠ 0 := by omega
    have hMW := hM.updR (w' := w.setRow g (cur.toList.take (0 + 0) ++ ((List.replicate xs.length zr).flatMap enc) ++ cur.toList.drop (0 + 0 + ((List.replicate xs.length zr).flatMap enc).length)).toArray) hi (by rw [show rblk (some ⟨g, 0, none⟩) c = some g from rblk_pos hc0]; exact grown_setRow) (Ob.ok_row (A := some ⟨g, 0, none⟩) (c := c) (e := e) (s := s) (n := (List.replicate xs.length zr).length) (cs := (List.replicate xs.length zr).flatMap enc) (by
      refine ⟨by rw [hfl, hrl], .inr ⟨g, c, _, rfl, Nat.zero_le _, setRow_heap w g _ _ e _ hg, by omega, (hM.rd hi).most, ?_, ?_⟩⟩
      · simp only [Nat.add_zero, List.take_zero, List.nil_append, List.size_toArray, List.length_append, hfl, List.length_drop, Array.length_toList]
        omega
      · simp only [Nat.add_zero, List.take_zero, List.nil_append]
        rw [hrl, ← hfl]
        exact List.take_left)) (.inl rfl)
    generalize (w.setRow g (cur.toList.take (0 + 0) ++ ((List.replicate xs.length zr).flatMap enc) ++ cur.toList.drop (0 + 0 + ((List.replicate xs.length zr).flatMap enc).length)).toArray) = W at hst hMW
    refine ⟨.tuple #[], W, fun ρ hρ _ _ _ _ => ?_, hMW, by simp⟩
    · simp only [execOp]
      have hn0 : ∃ q, xs.length = q + 1 := ⟨xs.length - 1, by omega⟩
      obtain ⟨q, hq⟩ := hn0
      rw [hq] at hzf
      simp only [resolve, invoke, builtin, Sem.run_bind, Sem.run_pure, Result.andThen_ok, List.map_toArray, List.map_cons, List.map_nil, hρ x _ hx]
      rw [hq]
      simp only [Builtin.clear_]
      simp [run_underlying ht.1, zeroValue, typeInfo, hinf, hzv, hzc, hzf]
      rw [hq] at hst
      rw [hst]
      rfl

/-! ### An array's element is stored to -/
def setA (n : Nat) (xs : List Int) (i v : Int) : List Int := (arrL n xs).set i.toNat v
theorem E.stA {g off nn : Nat} {xs : List Int} {cur cs' : List Value} {u u' : Int} {a : Addr} (hM : Mem w0 S w L) (hi : L[j]? = some (.box g e cur)) (ht : sizeT P t 1 = true) (hx : ev l x = some (.pointer (some a))) (ha : a = ((⟨g, 0, none⟩ : Addr).add off).add (p.toNat * 1)) (hy : ev l y = some (.int k u)) (hg : gidxA nn xs p = some u')
    (hc : (cur.drop off).take nn = arrC nn k xs) (hl : Nat.ble (off + nn) cur.length = true) (hsp : cur.take off ++ (arrC nn k (setA nn xs p u) ++ cur.drop (off + nn)) = cs') : EffS P (.store t x y) ty l w (fun w' => Mem w0 S w' (L.set j (.box g e cs'))) := by
  obtain ⟨h0, h1, _⟩ := gidxA_some hg
  have hl' : off + nn ≤ cur.length := Nat.le_of_ble_eq_true hl
  refine E.stB (j := j) (off := off + p.toNat) (vs := [.int k u]) hM hi ht hx (by rw [ha, add_add]; simp) hy rfl (One.all rfl) (Nat.ble_eq_true_of_le (by simp; omega)) ?_
  rw [← hsp]
  unfold spl
  have e1 : cur.take (off + p.toNat) = cur.take off ++ (arrC nn k xs).take p.toNat := by
    rw [List.take_add, ← hc, List.take_take, Nat.min_eq_left (by omega)]
  have e2 : cur.drop (off + p.toNat + 1) = (arrC nn k xs).drop (p.toNat + 1) ++ cur.drop (off + nn) := by
    have d1 : cur.drop (off + p.toNat + 1) = (cur.drop off).drop (p.toNat + 1) := by rw [List.drop_drop, Nat.add_assoc]
    have d2 : cur.drop (off + nn) = ((cur.drop off).drop (p.toNat + 1)).drop (nn - (p.toNat + 1)) := by
      rw [List.drop_drop, List.drop_drop]; congr 1; omega
    rw [d1, d2, ← hc, List.drop_take, List.take_append_drop]
  have e3 : arrC nn k (setA nn xs p u) = (arrC nn k xs).take p.toNat ++ .int k u :: (arrC nn k xs).drop (p.toNat + 1) := by
    have hp : p.toNat < (arrC nn k xs).length := by simp [arrC]; omega
    have e4 : (arrC nn k xs).take p.toNat ++ .int k u :: (arrC nn k xs).drop (p.toNat + 1) = (arrC nn k xs).set p.toNat (.int k u) := by
      rw [List.set_eq_take_append_cons_drop, if_pos hp]
    rw [e4]
    apply List.ext_getElem?
    intro q
    by_cases hq : q < nn
    · by_cases hpq : p.toNat = q
      · subst hpq
        rw [List.getElem?_set_self hp]
        simp [arrC, hq, setA, arrL, List.getD]
      · rw [List.getElem?_set_ne hpq]
        have hgd : (setA nn xs p u).getD q 0 = xs.getD q 0 := by
          unfold setA arrL List.getD
          rw [List.getElem?_set_ne hpq]
          simp [hq]
        simp only [arrC, List.getElem?_map, List.getElem?_range hq, Option.map_some, hgd]
    · rw [List.getElem?_eq_none (by simp [arrC]; omega), List.getElem?_eq_none (by simp [arrC]; omega)]
  rw [e1, e3, show off + p.toNat + [Value.int k u].length = off + p.toNat + 1 from rfl, e2]
  simp

/-! ### Rows that are read alone -/
theorem Mem.toRo {cs : List Value} {Lr : List Ob} (h : Mem w0 S w L) (hi : L[i]? = some (.row A c e s n1 cs)) (ks : List Nat) (hk : sel L ks = some Lr) (hnd : ks.Nodup) (hd : (ks.all fun k => ![i].contains k) = true) : ∃ Z, Mem w0 S w (Lr ++ [.res Z (RdP A c s n1 cs)]) :=
  h.glue [i] ks (Ls := [.row A c e s n1 cs]) (by simp [sel, hi]) hk hnd hd (fun _ => RdP A c s n1 cs) fun Z w1 ho _ => Ob.rd (ho 0 _ rfl)
theorem Mem.reRo {cs cs2 : List Value} {s2 n2 : Nat} {Z : List Nat} {Lr : List Ob} (h : Mem w0 S w L) (hi : L[i]? = some (.res Z (RdP A c s n1 cs))) (ks : List Nat) (hk : sel L ks = some Lr) (hnd : ks.Nodup) (hd : (ks.all fun k => ![i].contains k) = true) (hr : ∀ w2, Rd w2 A c s n1 cs → Rd w2 A2 c2 s2 n2 cs2) : ∃ Z, Mem w0 S w (Lr ++ [.res Z (RdP A2 c2 s2 n2 cs2)]) :=
  h.glue [i] ks (Ls := [.res Z (RdP A c s n1 cs)]) (by simp [sel, hi]) hk hnd hd (fun _ => RdP A2 c2 s2 n2 cs2) fun Z w1 ho _ => hr _ (Ob.res_φ (ho 0 _ rfl))
theorem Mem.nilRo {Lr : List Ob} (h : Mem w0 S w L) (s : Nat) (ks : List Nat) (hk : sel L ks = some Lr) (hnd : ks.Nodup) (hd : (ks.all fun k => !([] : List Nat).contains k) = true) : ∃ Z, Mem w0 S w (Lr ++ [.res Z (RdP none 0 s 0 [])]) :=
  h.glue [] ks (Ls := []) rfl hk hnd hd (fun _ => RdP none 0 s 0 []) fun Z w1 _ _ => Rd.nilr
/-- A row that is read alone lies apart from what is lent. -/
theorem Mem.offRo {cs : List Value} {Z : List Nat} {Ls : List Ob} (h : Mem w0 S w L) (js : List Nat) (hj : sel L js = some Ls) (hi : L[i]? = some (.res Z (RdP A c s n1 cs))) (hne : js.contains i = false) (hs : 0 < s) : Off (Ls.flatMap Ob.blks) n1 A := fun hn ad had hS => by
  subst had
  have hz : ad.block ∈ Z := Classical.byContradiction fun hz => by
    have h1 : RdP (some ad) c s n1 cs { w with heap := w.heap.setIfInBounds ad.block (.cells #[] 0) } := (h.ok i _ hi).2 _ fun g hg => by
      have : ad.block ≠ g := fun e => hz (e ▸ hg)
      simp [Array.getElem?_setIfInBounds_ne this]
    obtain ⟨ad', e, hb, hc⟩ := h1.adr hn
    injection e with e
    subst e
    have hl := h1.len
    have hp : 0 < cs.length := by rw [hl]; exact Nat.mul_pos hn hs
    have h2 := hc 0 _ (List.getElem?_eq_getElem hp)
    rw [Addr.add_zero'] at h2
    unfold World.cell? at h2
    simp at hb
    simp [hb] at h2
  obtain ⟨i', o', hi', hb'⟩ := map_blk hS
  obtain ⟨j', hj1, hj2⟩ := (sel_get hj).2 i' o' hi'
  have e := h.sep _ _ _ _ ad.block hj2 hi hb' (Ob.has_res.2 hz)
  subst e
  simp only [List.contains_eq_mem, decide_eq_false_iff_not] at hne
  exact hne (List.mem_of_getElem? hj1)
/-! ### Short words for what printed walks say most -/
theorem vm [WF F] {u : Value} (h : ev l x = some u) (hd : Nat.blt d n.n = true) (hk : RL F P ops Q rest n ((d, u) :: l) w) : RL F P ops Q (⟨some d, .move x, ty, pos, after, none⟩ :: rest) n l w := RL.val (O.move h) hd hk
theorem va [WF F] {u : Value} (h : ev l x = some u) (hd : Nat.blt d n.n = true) (hk : RL F P ops Q rest n ((d, u) :: l) w) : RL F P ops Q (⟨some d, .assign x, ty, pos, after, none⟩ :: rest) n l w := RL.val (O.assign h) hd hk
theorem sr {id : Nat} {lo : List Oper} {c2 : Code} (h : ∀ Q' : Exit → Act → World → Prop, (∀ e a w, Exit.then (c2.wpIn F 0 P Q) Q e a w → Q' e a w) → RL F P lo.toArray Q' lo n l w) : KC F P (.seq (.region id lo.toArray false) c2) Q n l w := KC.seqH fun Q' hQ => KC.region (h Q' hQ)
theorem nt {Q' : Exit → Act → World → Prop} {c2 : Code} (hQ : ∀ e a w, Exit.then (c2.wpIn F 0 P Q) Q e a w → Q' e a w) (h : KC F P c2 Q n l w) : RL F P ops Q' [] n l w := RL.nil (KQ.thn hQ h)
abbrev BD (fn : Func) : Bool := !(fn.name == "runtime.NumGoroutine") && !fn.body.isNone
end
end Go.Ox
