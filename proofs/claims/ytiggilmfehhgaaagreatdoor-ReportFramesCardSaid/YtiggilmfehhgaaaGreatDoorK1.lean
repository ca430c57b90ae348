/- Examples of the chapters, evaluated by the kernel; no condition. -/
import Derived.Test.YtiggilmfehhgaaaGreatDoorS1
set_option linter.unusedSectionVars false
set_option linter.unusedVariables false
set_option linter.unusedSimpArgs false
set_option linter.unnecessarySimpa false

namespace Go.Eng.Ses
open Go Go.Eng Go.Proofs
noncomputable def D469 (n : Nat) : Bool := Nat.beq n 578 || Nat.beq n 579
theorem k469 : AbF (AP30 D469) (exec (AP30 D469) 400) 469 [] = some (.bool true) := by kernel_rfl
noncomputable def D281 (n : Nat) : Bool := Nat.beq n 279
theorem k281 : AbF (APt D281) (exec (APt D281) 400) 281 [] = some (.bool true) := by kernel_rfl
end Go.Eng.Ses
