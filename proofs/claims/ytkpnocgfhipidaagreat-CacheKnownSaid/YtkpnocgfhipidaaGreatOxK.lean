/- A plain library: parts of strings, strings put together, noughts that are appended, rows that are cut short. No program is named here. -/
import Derived.Test.YtkpnocgfhipidaaGreatOxI
import Derived.Test.YtkpnocgfhipidaaGreatOxV
import Derived.Laws.Externs
set_option linter.unusedVariables false
namespace Go.Ox
open Go Go.RowKit
section
variable {F : Fence} {P : Program} {ops : Array Oper} {Q : Exit → Act → World → Prop} {rest : List Oper} {n : Fr} {d : Nat} {l l' : List (Nat × Value)} {w w0 w' : World} {L : List Ob} {S : List (Option Nat)}
variable {o : Op} {ty : TypeId} {pos : String} {after : Array Edge} {v : Value}
variable {x y z : Operand} {k k' k2 : IntKind} {p q : Int} {t t' e : TypeId} {A A2 : Option Addr} {s c c2 b m n1 : Nat} {i j : Nat}
variable {α : Type} {enc : α → List Value}
theorem O.cap {A : Option Addr} (ht : SliceT P t e s b) (hx : ev l x = some (.slice A m c)) : OpV P (.call ⟨.builtin .cap, #[x], #[t]⟩) ty l w (.int .i64 c) := fun ρ hρ _ _ _ _ => by
  simp only [execOp]
  simp [resolve, invoke, builtin, hρ x _ hx, Builtin.cap_, run_underlying ht.1, goInt]
theorem zero_flat {zr : α} {zs : List Value} (hs : 0 < s) (hlen : ∀ x, (enc x).length = s) (hzr : enc zr = zs) (m : Nat) : (Builtin.zeroCells zs.toArray m).toList = (List.replicate m zr).flatMap enc := by
  have h := made_flat hs hlen hzr m
  have e1 : zs.length = s := by rw [← hzr]; exact hlen zr
  rw [← h]
  simp [Builtin.zeroCells, madeCells, e1]
theorem O.short {hi : Operand} {xs ys : List α} (ht : SliceT P t e s b) (hr : xs.length ≤ c) (hy : gcut xs 0 q = some ys) (hx : ev l x = some (.slice A xs.length c)) (hhi : ev l hi = some (.int k q)) :
    OpV P (.slice t x none (some hi) none) ty l w (.slice A ys.length c) := by
  obtain ⟨h3, h4, h5, _, h6⟩ := gcut_some hy
  have h := O.cuth (w := w) (ty := ty) ht hx hhi h4 (by omega)
  rw [h6]
  have e1 : (if c = 0 then A else A.map (·.add (0 * s))) = A := by
    split
    · rfl
    · cases A with
      | none => rfl
      | some a => simp [Addr.add_zero']
  rw [e1] at h
  simpa using h
theorem Mem.short {xs ys : List α} (h : Mem w0 S w L) (hlen : ∀ x, (enc x).length = s) (hi : L[i]? = some (.row A c e s xs.length (xs.flatMap enc))) (hy : gcut xs 0 q = some ys) : Mem w0 S w (L.set i (.row A c e s ys.length (ys.flatMap enc))) := by
  obtain ⟨h3, h4, h5, h7, h6⟩ := gcut_some hy
  have hok := h.ok i _ hi
  refine h.updR hi (w' := w) ⟨rfl, rfl, rfl, Nat.le_refl _, fun _ _ _ => rfl⟩ ⟨fun hc => ?_, fun hc => ?_⟩ (.inl rfl)
  · obtain ⟨h1, h2⟩ := hok.1 hc
    refine ⟨by rw [flat_length hlen], ?_⟩
    rcases h2 with ⟨hv, h0⟩ | ⟨g, cap, cur, hv, hb, hh, hn', hcm, hsz, htk⟩
    · injection hv with _ _ hc'; exact absurd hc' hc
    · injection hv with hA hn hc'
      subst hA; subst hc'
      refine .inr ⟨g, c, cur, rfl, hb, hh, by omega, hcm, hsz, ?_⟩
      have h8 : ys.length ≤ xs.length := by omega
      have e2 : (xs.flatMap enc).take (ys.length * s) = ys.flatMap enc := by
        rw [take_flat hlen, h7]
        congr 1
        simp
      rw [← e2, ← htk, List.take_take, Nat.min_eq_left (Nat.mul_le_mul_right _ h8)]
  · obtain ⟨h0, hcs⟩ := hok.2 hc
    have : ys.length = 0 := by omega
    exact ⟨this, by rw [List.eq_nil_of_length_eq_zero this]; rfl⟩
end
end Go.Ox

set_option linter.unusedVariables false
namespace Go.Ox
open Go Go.RowKit
section
variable {F : Fence} {P : Program} {ops : Array Oper} {Q : Exit → Act → World → Prop} {rest : List Oper} {n : Fr} {d : Nat} {l l' : List (Nat × Value)} {w w0 w' : World} {L : List Ob} {S : List (Option Nat)}
variable {o : Op} {ty : TypeId} {pos : String} {after : Array Edge} {v : Value}
variable {x y z : Operand} {k k' k2 : IntKind} {p q : Int} {t t' e : TypeId} {A A2 : Option Addr} {s c c2 b m n1 : Nat} {i j : Nat}
variable {α : Type} {enc : α → List Value}
theorem KC.seqH {c1 c2 : Code} (h : ∀ Q' : Exit → Act → World → Prop, (∀ e a w, Exit.then (c2.wpIn F 0 P Q) Q e a w → Q' e a w) → KC F P c1 Q' n l w) : KC F P (.seq c1 c2) Q n l w := KC.seq (h _ fun _ _ _ h => h)
theorem KQ.thn {Q' : Exit → Act → World → Prop} {c2 : Code} (hQ : ∀ e a w, Exit.then (c2.wpIn F 0 P Q) Q e a w → Q' e a w) (h : KC F P c2 Q n l w) : KQ Q' .normal n l w := fun a ha => hQ _ _ _ (h a ha)
theorem KQ.thx {Q' : Exit → Act → World → Prop} {c2 : Code} {id : Nat} (hQ : ∀ e a w, Exit.then (c2.wpIn F 0 P Q) Q e a w → Q' e a w) (h : KQ Q (.exit id) n l w) : KQ Q' (.exit id) n l w := fun a ha => hQ _ _ _ (h a ha)
theorem KQ.thr {Q' : Exit → Act → World → Prop} {c2 : Code} (hQ : ∀ e a w, Exit.then (c2.wpIn F 0 P Q) Q e a w → Q' e a w) (h : KQ Q .ret n l w) : KQ Q' .ret n l w := fun a ha => hQ _ _ _ (h a ha)
theorem cutNE {G : Prop} (A : Option Addr) (c p s : Nat) (h : ∀ A' c', A' = (if c = p then A else A.map (·.add (p * s))) → c' = c - p → G) : G := h _ _ rfl rfl
theorem O.strlss {a r : ByteArray} (hx : ev l x = some (.string a)) (hy : ev l y = some (.string r)) : OpV P (.binOp .lss t x y t') ty l w (.bool (Op.bytesLess a.toList r.toList)) := fun ρ hρ _ _ _ _ => by
  simp only [execOp, hρ x _ hx, hρ y _ hy, eqGuard_at_string]
  simp [binOp, Op.stringOp]
theorem O.strgtr {a r : ByteArray} (hx : ev l x = some (.string a)) (hy : ev l y = some (.string r)) : OpV P (.binOp .gtr t x y t') ty l w (.bool (!(Op.bytesLess a.toList r.toList || a.toList == r.toList))) := fun ρ hρ _ _ _ _ => by
  simp only [execOp, hρ x _ hx, hρ y _ hy, eqGuard_at_string]
  simp [binOp, Op.stringOp]
theorem run_loadBytes : ∀ (xs : List Int) (a : Addr) (acc : ByteArray), Cs w a (xs.map fun n => Value.int .u8 n) → (Extern.Bytes.loadBytes a xs.length acc).run P w = .ok ⟨acc.data ++ (strOfNums xs).data⟩ w
  | [], a, acc, h => by simp [Extern.Bytes.loadBytes, strOfNums]
  | y :: ys, a, acc, h => by
    have h0 : w.cell? a = some (.int .u8 y) := Cs.at0 (r := ys.map fun n => Value.int .u8 n) (by simpa using h)
    have h1 : Cs w (a.add 1) (ys.map fun n => Value.int .u8 n) := by simpa using h.sub 1
    have ih := run_loadBytes ys (a.add 1) (acc.push y.toNat.toUInt8) h1
    show (Extern.Bytes.loadBytes a (ys.length + 1) acc).run P w = _
    unfold Extern.Bytes.loadBytes
    have hl : (load a).run P w = .ok (.int .u8 y) w := by simp [h0]
    rw [Sem.run_bind, hl, Result.andThen_ok]
    dsimp only
    rw [ih]
    congr 2
    simp [strOfNums, ByteArray.push]
theorem run_bytesOf {xs : List Int} (h : Rd w A c 1 xs.length (xs.flatMap (fun n => [Value.int .u8 n]))) : (Extern.Bytes.bytesOf (.slice A xs.length c)).run P w = .ok (strOfNums xs) w := by
  rw [flat_one] at h
  cases A with
  | none =>
    have : xs = [] := by
      cases xs with
      | nil => rfl
      | cons y ys => obtain ⟨ad, e, _⟩ := h.adr (by simp); cases e
    subst this
    rfl
  | some ad =>
    show (Extern.Bytes.loadBytes ad xs.length .empty).run P w = _
    rw [run_loadBytes xs ad .empty (by intro j u hj; exact h.cs j u hj)]
    congr 1
    show (⟨#[] ++ (strOfNums xs).data⟩ : ByteArray) = _
    rw [Array.empty_append]
def bcmp (xs ys : List Int) : Int := Extern.BytealgCompare.cmp (strOfNums xs) (strOfNums ys)
theorem O.bcmp {f : FuncId} {fn : Func} {xs ys : List Int} {ats : Array TypeId} (hf : P.funcs[f]? = some fn) (hname : (fn.name == "runtime.NumGoroutine") = false) (hb : fn.body.isNone = true) (hn : Extern.findNext fn = none) (he : Extern.find fn = some Extern.BytealgCompare.compare)
    (hx : ev l x = some (.slice A xs.length c)) (hy : ev l y = some (.slice A2 ys.length c2)) (h1 : Rd w A c 1 xs.length (xs.flatMap (fun n => [Value.int .u8 n]))) (h2 : Rd w A2 c2 1 ys.length (ys.flatMap (fun n => [Value.int .u8 n]))) :
    OpV P (.call ⟨.value (.func f), #[x, y], ats⟩) ty l w (.int .i64 (Ox.bcmp xs ys)) := fun ρ hρ _ _ _ _ => by
  unfold execOp
  simp only [resolve, hρ (.func f) (.func (.func f) #[] #[]) rfl, Deferred.ofValue, Sem.run_bind, Sem.run_pure, Result.andThen_ok, invoke]
  rw [show (#[] ++ Array.map ρ #[x, y] ++ #[] : Array Value) = #[.slice A xs.length c, .slice A2 ys.length c2] by simp [hρ x _ hx, hρ y _ hy], run_callFunc_extern hf hname hb hn he]
  have e : Extern.BytealgCompare.compare #[.slice A xs.length c, .slice A2 ys.length c2] = (do Pure.pure (goInt (Extern.BytealgCompare.cmp (← Extern.Bytes.bytesOf (.slice A xs.length c)) (← Extern.Bytes.bytesOf (.slice A2 ys.length c2))))) := rfl
  rw [e]
  simp only [Sem.run_bind, run_bytesOf h1, run_bytesOf h2, Result.andThen_ok, Sem.run_pure, goInt]
  rfl
theorem RL.eff0 [WF F] {R : Value → World → Prop} (h : Eff P o ty l w R) (hk : ∀ v w', R v w' → RL F P ops Q rest n l w') : RL F P ops Q (⟨none, o, ty, pos, after, none⟩ :: rest) n l w := by
  obtain ⟨v, w', ho, hR⟩ := h
  exact RL.val0 ho (hk v w' hR)
theorem E.clear {xs : List α} {zr : α} {zs : List Value} (hM : Mem w0 S w L) (hi : L[j]? = some (.row A c e s xs.length (xs.flatMap enc))) (ht : SliceT P t e s b) (hz : ZeroT P e zs) (hs : Nat.blt 0 s = true) (hlen : ∀ x, (enc x).length = s) (hzr : enc zr = zs) (h1 : One zs) (hx : ev l x = some (.slice A xs.length c)) :
    Eff P (.call ⟨.builtin .clear, #[x], #[t]⟩) ty l w (fun v w' => Mem w0 S w' (L.set j (.row A c e s (List.replicate xs.length zr).length ((List.replicate xs.length zr).flatMap enc))) ∧ xs.length = (List.replicate xs.length zr).length) := by
  obtain ⟨ii, hinf, hsz, hbb⟩ := ht.info
  obtain ⟨zv, hzv, hzc⟩ := hz.info hinf
  have hs' : 0 < s := by simpa using hs
  have hzf := zero_flat hs' hlen hzr xs.length
  have hrl : (List.replicate xs.length zr).length = xs.length := by simp
  by_cases h0 : xs.length = 0
  · have hx0 : xs = [] := List.eq_nil_of_length_eq_zero h0
    subst hx0
    refine ⟨.tuple #[], w, fun ρ hρ _ _ _ _ => ?_, ?_, rfl⟩
    · simp only [execOp]
      cases A <;> simp [resolve, invoke, builtin, hρ x _ hx, Builtin.clear_, run_underlying ht.1]
    · have : L.set j (.row A c e s (List.replicate ([] : List α).length zr).length ((List.replicate ([] : List α).length zr).flatMap enc)) = L := by
        apply List.ext_getElem?
        intro q
        by_cases h : j = q
        · subst h; rw [List.getElem?_set_self (List.getElem?_eq_some_iff.1 hi).1, hi]; rfl
        · rw [List.getElem?_set_ne h]
      rw [this]; exact hM
  · obtain ⟨g, cur, rfl, hg, hnc, hszc, htk⟩ := hM.row_block hi (by omega)
    have hle : xs.length * s ≤ cur.size := by rw [hszc]; exact Nat.mul_le_mul_right _ hnc
    have hfl : ((List.replicate xs.length zr).flatMap enc).length = xs.length * s := by rw [flat_length hlen, hrl]
    have hone : One ((List.replicate xs.length zr).flatMap enc) := fun u hu => by
      obtain ⟨q, hq, hu⟩ := List.mem_flatMap.1 hu
      rw [(List.mem_replicate.1 hq).2, hzr] at hu
      exact h1 u hu
    have hst := run_storeCells_at P g 0 e ((List.replicate xs.length zr).flatMap enc) 0 cur w hg (by rw [hfl]; omega) hone
    have hc0 : c ≠ 0 := by omega
    have hMW := hM.updR (w' := w.setRow g (cur.toList.take (0 + 0) ++ ((List.replicate xs.length zr).flatMap enc) ++ cur.toList.drop (0 + 0 + ((List.replicate xs.length zr).flatMap enc).length)).toArray) hi (by rw [show rblk (some ⟨g, 0, none⟩) c = some g from rblk_pos hc0]; exact grown_setRow) (Ob.ok_row (A := some ⟨g, 0, none⟩) (c := c) (e := e) (s := s) (n := (List.replicate xs.length zr).length) (cs := (List.replicate xs.length zr).flatMap enc) (by
      refine ⟨by rw [hfl, hrl], .inr ⟨g, c, _, rfl, Nat.zero_le _, setRow_heap w g _ _ e _ hg, by omega, (hM.rd hi).most, ?_, ?_⟩⟩
      · simp only [Nat.add_zero, List.take_zero, List.nil_append, List.size_toArray, List.length_append, hfl, List.length_drop, Array.length_toList]
        omega
      · simp only [Nat.add_zero, List.take_zero, List.nil_append]
        rw [hrl, ← hfl]
        exact List.take_left)) (.inl rfl)
    generalize (w.setRow g (cur.toList.take (0 + 0) ++ ((List.replicate xs.length zr).flatMap enc) ++ cur.toList.drop (0 + 0 + ((List.replicate xs.length zr).flatMap enc).length)).toArray) = W at hst hMW
    refine ⟨.tuple #[], W, fun ρ hρ _ _ _ _ => ?_, hMW, by simp⟩
    · simp only [execOp]
      have hn0 : ∃ q, xs.length = q + 1 := ⟨xs.length - 1, by omega⟩
      obtain ⟨q, hq⟩ := hn0
      rw [hq] at hzf
      simp only [resolve, invoke, builtin, Sem.run_bind, Sem.run_pure, Result.andThen_ok, List.map_toArray, List.map_cons, List.map_nil, hρ x _ hx]
      rw [hq]
      simp only [Builtin.clear_]
      simp [run_underlying ht.1, zeroValue, typeInfo, hinf, hzv, hzc, hzf]
      rw [hq] at hst
      rw [hst]
      rfl
theorem vm [WF F] {u : Value} (h : ev l x = some u) (hd : Nat.blt d n.n = true) (hk : RL F P ops Q rest n ((d, u) :: l) w) : RL F P ops Q (⟨some d, .move x, ty, pos, after, none⟩ :: rest) n l w := RL.val (O.move h) hd hk
theorem va [WF F] {u : Value} (h : ev l x = some u) (hd : Nat.blt d n.n = true) (hk : RL F P ops Q rest n ((d, u) :: l) w) : RL F P ops Q (⟨some d, .assign x, ty, pos, after, none⟩ :: rest) n l w := RL.val (O.assign h) hd hk
theorem sr {id : Nat} {lo : List Oper} {c2 : Code} (h : ∀ Q' : Exit → Act → World → Prop, (∀ e a w, Exit.then (c2.wpIn F 0 P Q) Q e a w → Q' e a w) → RL F P lo.toArray Q' lo n l w) : KC F P (.seq (.region id lo.toArray false) c2) Q n l w := KC.seqH fun Q' hQ => KC.region (h Q' hQ)
theorem nt {Q' : Exit → Act → World → Prop} {c2 : Code} (hQ : ∀ e a w, Exit.then (c2.wpIn F 0 P Q) Q e a w → Q' e a w) (h : KC F P c2 Q n l w) : RL F P ops Q' [] n l w := RL.nil (KQ.thn hQ h)
abbrev BD (fn : Func) : Bool := !(fn.name == "runtime.NumGoroutine") && !fn.body.isNone
end
end Go.Ox
