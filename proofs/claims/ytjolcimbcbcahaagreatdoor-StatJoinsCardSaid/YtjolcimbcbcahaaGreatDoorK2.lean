/- Examples of the chapters, evaluated by the kernel; no condition. -/
import Derived.Test.YtjolcimbcbcahaaGreatDoorS1
set_option linter.unusedSectionVars false
set_option linter.unusedVariables false
set_option linter.unusedSimpArgs false
set_option linter.unnecessarySimpa false

namespace Go.Eng.Ses
open Go Go.Eng Go.Proofs
noncomputable def D90 (n : Nat) : Bool := Nat.beq n 212 || Nat.beq n 213 || Nat.beq n 214 || Nat.beq n 215
theorem k90 : AbK (APt D90) (exec (APt D90) 400) 90 [] = some (.bool true) := by kernel_rfl
end Go.Eng.Ses
