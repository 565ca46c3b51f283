/- Plain text: the closed statement of bits, computed. -/
import Derived.Test.YtpbkjellpboefaaHK
set_option linter.unusedVariables false
namespace Go.Proofs.Ytpbkjellpboefaa
open Go Go.Ox
theorem known_eq : F_law01_BitsKnown = some true := by decide +kernel
end Go.Proofs.Ytpbkjellpboefaa
