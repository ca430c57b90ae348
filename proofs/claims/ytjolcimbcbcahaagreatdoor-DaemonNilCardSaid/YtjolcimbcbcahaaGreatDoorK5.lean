/- Examples of the chapters, evaluated by the kernel; no condition. -/
import Derived.Test.YtjolcimbcbcahaaGreatDoorS1
set_option linter.unusedSectionVars false
set_option linter.unusedVariables false
set_option linter.unusedSimpArgs false
set_option linter.unnecessarySimpa false

namespace Go.Eng.Ses
open Go Go.Eng Go.Proofs
noncomputable def D7 (n : Nat) : Bool := Nat.beq n 32
theorem k7 : callI (APt D7) (exec (APt D7) 400) 7 [] = some (.bool true) := by kernel_rfl
end Go.Eng.Ses
