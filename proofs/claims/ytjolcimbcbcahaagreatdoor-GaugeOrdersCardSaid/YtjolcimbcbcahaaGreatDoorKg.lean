/- The example of the gauge's chapter, evaluated by the kernel; no condition. -/
import Derived.Test.YtjolcimbcbcahaaGreatDoorS1
import Derived.KernelRfl
set_option linter.unusedSectionVars false
set_option linter.unusedVariables false
set_option linter.unusedSimpArgs false
set_option linter.unnecessarySimpa false

namespace Go.Eng.Ses
open Go Go.Eng Go.Proofs
noncomputable def D12 (n : Nat) : Bool := Nat.beq n 71 || Nat.beq n 72
theorem k12 : Ba (APt D12) (AJ (APt D12) 400) 12 [] = some (.bool true) := by kernel_rfl
end Go.Eng.Ses
