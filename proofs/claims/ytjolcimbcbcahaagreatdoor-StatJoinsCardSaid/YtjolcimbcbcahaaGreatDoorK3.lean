/- Examples of the chapters, evaluated by the kernel; no condition. -/
import Derived.Test.YtjolcimbcbcahaaGreatDoorS1
set_option linter.unusedSectionVars false
set_option linter.unusedVariables false
set_option linter.unusedSimpArgs false
set_option linter.unnecessarySimpa false

namespace Go.Eng.Ses
open Go Go.Eng Go.Proofs
noncomputable def D213 (n : Nat) : Bool := Nat.beq n 338 || Nat.beq n 339 || Nat.beq n 340 || Nat.beq n 341 || Nat.beq n 342 || Nat.beq n 343
theorem k213 : AbK (APt D213) (exec (APt D213) 400) 213 [] = some (.bool true) := by kernel_rfl
end Go.Eng.Ses
