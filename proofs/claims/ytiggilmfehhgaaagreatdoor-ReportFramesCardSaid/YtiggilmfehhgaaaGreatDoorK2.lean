/- Examples of the chapters, evaluated by the kernel; no condition. -/
import Derived.Test.YtiggilmfehhgaaaGreatDoorS1
set_option linter.unusedSectionVars false
set_option linter.unusedVariables false
set_option linter.unusedSimpArgs false
set_option linter.unnecessarySimpa false

namespace Go.Eng.Ses
open Go Go.Eng Go.Proofs
noncomputable def D91 (n : Nat) : Bool := Nat.beq n 275 || Nat.beq n 276 || Nat.beq n 277 || Nat.beq n 278
theorem k91 : AbF (APt D91) (exec (APt D91) 400) 91 [] = some (.bool true) := by kernel_rfl
end Go.Eng.Ses
