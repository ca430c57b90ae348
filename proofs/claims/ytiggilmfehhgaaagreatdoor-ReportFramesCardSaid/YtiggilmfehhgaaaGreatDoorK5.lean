/- Examples of the chapters, evaluated by the kernel; no condition. -/
import Derived.Test.YtiggilmfehhgaaaGreatDoorS1
set_option linter.unusedSectionVars false
set_option linter.unusedVariables false
set_option linter.unusedSimpArgs false
set_option linter.unnecessarySimpa false

namespace Go.Eng.Ses
open Go Go.Eng Go.Proofs
noncomputable def D11 (n : Nat) : Bool := Nat.beq n 77 || Nat.beq n 78
theorem k11 : AbF (APt D11) (exec (APt D11) 400) 11 [] = some (.bool true) := by kernel_rfl
end Go.Eng.Ses
