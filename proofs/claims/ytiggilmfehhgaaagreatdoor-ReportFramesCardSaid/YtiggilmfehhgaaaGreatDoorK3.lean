/- Examples of the chapters, evaluated by the kernel; no condition. -/
import Derived.Test.YtiggilmfehhgaaaGreatDoorS1
set_option linter.unusedSectionVars false
set_option linter.unusedVariables false
set_option linter.unusedSimpArgs false
set_option linter.unnecessarySimpa false

namespace Go.Eng.Ses
open Go Go.Eng Go.Proofs
noncomputable def D276 (n : Nat) : Bool := Nat.beq n 261 || Nat.beq n 469 || Nat.beq n 470 || Nat.beq n 471 || Nat.beq n 472 || Nat.beq n 473
theorem k276 : AbF (APt D276) (exec (APt D276) 400) 276 [] = some (.bool true) := by kernel_rfl
end Go.Eng.Ses
