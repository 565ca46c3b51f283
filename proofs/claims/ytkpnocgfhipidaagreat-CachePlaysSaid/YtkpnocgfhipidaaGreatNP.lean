/- Plain text: CacheNone; the chapter's examples. -/
import Derived.Test.YtkpnocgfhipidaaGreatSrt
set_option linter.unusedVariables false
namespace Go.Proofs.YtkpnocgfhipidaaGreat
open Go Go.Ox Go.RowKit
theorem works_eq : F_law24_works = some true := by decide +kernel
theorem none_eq (a : T_law24_Act) : F_law24_CacheNone a = some true := by
  unfold F_law24_CacheNone
  rw [works_eq]
  rfl
end Go.Proofs.YtkpnocgfhipidaaGreat
