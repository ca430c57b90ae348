/- Examples of the chapters, evaluated by the kernel; no condition. -/
import Derived.Test.YtiggilmfehhgaaaGreatDoorS1
set_option linter.unusedSectionVars false
set_option linter.unusedVariables false
set_option linter.unusedSimpArgs false
set_option linter.unnecessarySimpa false

namespace Go.Eng.Ses
open Go Go.Eng Go.Proofs
noncomputable def D17 (n : Nat) : Bool := Nat.beq n 89 || Nat.beq n 90 || Nat.beq n 91 || Nat.beq n 92 || Nat.beq n 93
theorem k17 : AbF (APt D17) (exec (APt D17) 400) 17 [] = some (.bool true) := by kernel_rfl
end Go.Eng.Ses
