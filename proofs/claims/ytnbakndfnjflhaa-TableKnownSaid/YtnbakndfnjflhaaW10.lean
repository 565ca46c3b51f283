/- Printed by a program of this claim: each call returns what the plain function of its name gives. -/
import Derived.Test.YtnbakndfnjflhaaW1
set_option linter.unusedVariables false
namespace Go.Proofs.Ytnbakndfnjflhaa
open Go Go.Ox Go.RowKit
set_option maxRecDepth 100000 in
set_option maxHeartbeats 40000000 in
theorem c_table_Table_Len (w : World) (g2 : Nat) (tg7 : TypeId) (t1 : T_table_Table) (A4 : Option Addr) (c5 : Nat) (hL8 : Lent w [.box g2 tg7 [.slice A4 (t1.f_slots).length c5, Value.int .i64 t1.f_many], .row A4 c5 74 39 (t1.f_slots).length ((t1.f_slots).flatMap e_table_Slot)]) (r : Int × T_table_Table) (hF : F_table_Table_Len t1 = some r) :
  CallsR Try.prog 14 [.pointer (some ⟨g2, 0, none⟩)] w (fun v w' => ∃ (A0 : Option Addr) (c0 : Nat), v = Value.int .i64 r.1 ∧ Mem w [some g2, rblk A4 c5] w' [.box g2 tg7 [.slice A0 (r.2.f_slots).length c0, Value.int .i64 r.2.f_many], .row A0 c0 74 39 r.2.f_slots.length (r.2.f_slots.flatMap e_table_Slot)]) := by
 refine calls_KC Try.func14 rfl Try.ntmps14 rfl ?_
 have hM : Mem w [some g2, rblk A4 c5] w [.box g2 tg7 [.slice A4 (t1.f_slots).length c5, Value.int .i64 t1.f_many], .row A4 c5 74 39 (t1.f_slots).length ((t1.f_slots).flatMap e_table_Slot)] := Mem.lendN hL8
 unfold F_table_Table_Len at hF
 refine KC.seqH fun Q9 hQ9 => ?_
 refine KC.region ?_
 refine RL.val (O.assign rfl) rfl ?_
 refine RL.nil ?_
 refine KQ.thn hQ9 ?_
 clear hQ9 Q9
 refine KC.seqH fun Q10 hQ10 => ?_
 refine KC.seqH fun Q11 hQ11 => ?_
 refine KC.region ?_
 refine RL.val (O.move rfl) rfl ?_
 refine RL.val (O.peqn Try.underlying24 rfl rfl) rfl ?_
 refine RL.nil ?_
 refine KQ.thn hQ11 ?_
 clear hQ11 Q11
 refine KC.condF rfl ?_
 refine KC.skip ?_
 refine KQ.thn hQ10 ?_
 clear hQ10 Q10
 refine KC.seqH fun Q12 hQ12 => ?_
 refine KC.region ?_
 refine RL.val (O.move rfl) rfl ?_
 refine RL.val (O.nilp rfl) rfl ?_
 refine RL.val (O.fldA fl71_1 (by decide) rfl) rfl ?_
 refine RL.val (O.load sc3 rfl (Cs.adds [1] ((hM.bx (i := 0) rfl)) rfl)) rfl ?_
 refine RL.val (O.assign rfl) rfl ?_
 refine RL.nil ?_
 refine KQ.thn hQ12 ?_
 clear hQ12 Q12
 refine KC.ret ?_
 have hE := Option.some.inj hF
 clear hF
 subst hE
 refine KQ.rets Try.results14 (RVs.cons (RV.tm rfl) RVs.nil) ?_
 exact ⟨_, rfl, A4, c5, rfl, hM⟩
end Go.Proofs.Ytnbakndfnjflhaa
