/- Examples of the chapters, evaluated by the kernel; no condition. -/
import Derived.Test.YtjolcimbcbcahaaGreatDoorS1
set_option linter.unusedSectionVars false
set_option linter.unusedVariables false
set_option linter.unusedSimpArgs false
set_option linter.unnecessarySimpa false

namespace Go.Eng.Ses
open Go Go.Eng Go.Proofs
noncomputable def D32 (n : Nat) : Bool := Nat.beq n 88 || Nat.beq n 89 || Nat.beq n 90 || Nat.beq n 91 || Nat.beq n 92
theorem k32 : AbK (APt D32) (exec (APt D32) 400) 32 [] = some (.bool true) := by kernel_rfl
end Go.Eng.Ses
