/- Examples of the chapters, evaluated by the kernel; no condition. -/
import Derived.Test.YtjolcimbcbcahaaGreatDoorS1
set_option linter.unusedSectionVars false
set_option linter.unusedVariables false
set_option linter.unusedSimpArgs false
set_option linter.unnecessarySimpa false

namespace Go.Eng.Ses
open Go Go.Eng Go.Proofs
noncomputable def D71 (n : Nat) : Bool := Nat.beq n 205
theorem k71 : AbK (APt D71) (exec (APt D71) 400) 71 [] = some (.bool true) := by kernel_rfl
noncomputable def D338 (n : Nat) : Bool := Nat.beq n 445 || Nat.beq n 446
theorem k338 : AbK (AP30 D338) (exec (AP30 D338) 400) 338 [] = some (.bool true) := by kernel_rfl
end Go.Eng.Ses
