/- Plain text: a model that is not there, and the chapter's examples. -/
import Derived.Test.YtidbgejnkpoeeaaF
set_option linter.unusedVariables false
namespace Go.Proofs.Ytidbgejnkpoeeaa
open Go Go.Ox
theorem works_eq : F_law30_works = some true := by decide +kernel
theorem none_eq (n : T_model_Note) : F_law30_ModelNone n = some true := by
  have hq : q_model_Parts (T_model_Parts.mk (T_flow_Total.mk 0 0) (T_flow_Total.mk 0 0) (T_flow_Total.mk 0 0) (T_flow_Total.mk 0 0) (T_flow_Total.mk 0 0) (T_flow_Total.mk 0 0)) (T_model_Parts.mk (T_flow_Total.mk 0 0) (T_flow_Total.mk 0 0) (T_flow_Total.mk 0 0) (T_flow_Total.mk 0 0) (T_flow_Total.mk 0 0) (T_flow_Total.mk 0 0)) = true := by decide +kernel
  unfold F_law30_ModelNone
  rw [works_eq]
  simp [F_model_Model_Span_N, F_model_Model_Step_N, F_model_Model_Of_N, F_model_Model_Keys_N, F_model_Model_Entries_N, F_model_Model_Boot_N, F_model_Model_Copy_N, F_law30_ModelNone_j1, hq]
end Go.Proofs.Ytidbgejnkpoeeaa
