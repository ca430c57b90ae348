/- Examples of the chapters, evaluated by the kernel; no condition. -/
import Derived.Test.YtjolcimbcbcahaaGreatDoorS1
import Derived.Test.YtjolcimbcbcahaaGreatDoorW
set_option linter.unusedSectionVars false
set_option linter.unusedVariables false
set_option linter.unusedSimpArgs false
set_option linter.unnecessarySimpa false
namespace Go.Eng.Ses
open Go Go.Eng Go.Proofs
noncomputable def D49 (n : Nat) : Bool := Nat.beq n 71 || Nat.beq n 72
theorem k49 : AbK (APt D49) (exec (APt D49) 400) 49 [] = some (.bool true) := by kernel_rfl
noncomputable def D133 (n : Nat) : Bool := n != n
theorem k133 : AbK (APt D133) (exec (APt D133) 400) 133 [] = some Go.Eng.St.namesV := by kernel_rfl
end Go.Eng.Ses
