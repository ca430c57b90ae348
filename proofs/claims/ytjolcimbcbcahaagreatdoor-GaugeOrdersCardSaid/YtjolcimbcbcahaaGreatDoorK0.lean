/- Examples of the chapters, evaluated by the kernel; no condition. -/
import Derived.Test.YtjolcimbcbcahaaGreatDoorS1
set_option linter.unusedSectionVars false
set_option linter.unusedVariables false
set_option linter.unusedSimpArgs false
set_option linter.unnecessarySimpa false
namespace Go.Eng.Ses
open Go Go.Eng Go.Proofs
noncomputable def D205 (n : Nat) : Bool := n != n
theorem k205 : Ba (APt D205) (AJ (APt D205) 400) 205 [] = some (.bool true) := by kernel_rfl
noncomputable def D208 (n : Nat) : Bool := Nat.beq n 205
theorem k208 : Ba (APt D208) (AJ (APt D208) 400) 208 [] = some (.bool true) := by kernel_rfl
noncomputable def D528 (n : Nat) : Bool := n != n
theorem k528 : Ba (APt D528) (AJ (APt D528) 400) 528 [] = some (.bool true) := by kernel_rfl
noncomputable def D212 (n : Nat) : Bool := n != n
theorem k212 : Ba (APt D212) (AJ (APt D212) 400) 212 [] = some (.bool true) := by kernel_rfl
noncomputable def D214 (n : Nat) : Bool := n != n
theorem k214 : Ba (APt D214) (AJ (APt D214) 400) 214 [] = some (.bool true) := by kernel_rfl
noncomputable def D340 (n : Nat) : Bool := n != n
theorem k340 : Ba (APt D340) (AJ (APt D340) 400) 340 [] = some (.bool true) := by kernel_rfl
noncomputable def D341 (n : Nat) : Bool := n != n
theorem k341 : Ba (APt D341) (AJ (APt D341) 400) 341 [] = some (.bool true) := by kernel_rfl
noncomputable def D445 (n : Nat) : Bool := Nat.beq n 208
theorem k445 : Ba (APt D445) (AJ (APt D445) 400) 445 [] = some (.bool true) := by kernel_rfl
noncomputable def D446 (n : Nat) : Bool := Nat.beq n 205 || Nat.beq n 528
theorem k446 : Ba (APt D446) (AJ (APt D446) 400) 446 [] = some (.bool true) := by kernel_rfl
noncomputable def D448 (n : Nat) : Bool := Nat.beq n 205 || Nat.beq n 338
theorem k448 : Ba (AP30 D448) (AJ (AP30 D448) 400) 448 [] = some (.bool true) := by kernel_rfl
noncomputable def D339 (n : Nat) : Bool := Nat.beq n 448
theorem k339 : Ba (APt D339) (AJ (APt D339) 400) 339 [] = some (.bool true) := by kernel_rfl
noncomputable def D454 (n : Nat) : Bool := Nat.beq n 205
theorem k454 : Ba (APt D454) (AJ (APt D454) 400) 454 [] = some (.bool true) := by kernel_rfl
noncomputable def D343 (n : Nat) : Bool := Nat.beq n 454
theorem k343 : Ba (APt D343) (AJ (APt D343) 400) 343 [] = some (.bool true) := by kernel_rfl
noncomputable def D342 (n : Nat) : Bool := Nat.beq n 71
theorem k342 : Ba (APt D342) (AJ (APt D342) 400) 342 [] = some (.bool true) := by kernel_rfl
noncomputable def D215 (n : Nat) : Bool := Nat.beq n 212
theorem k215 : Ba (APt D215) (AJ (APt D215) 400) 215 [] = some (.bool true) := by kernel_rfl
noncomputable def D88 (n : Nat) : Bool := n != n
theorem k88 : Ba (APt D88) (AJ (APt D88) 400) 88 [] = some (.bool true) := by kernel_rfl
noncomputable def D89 (n : Nat) : Bool := Nat.beq n 208
theorem k89 : Ba (APt D89) (AJ (APt D89) 400) 89 [] = some (.bool true) := by kernel_rfl
noncomputable def D91 (n : Nat) : Bool := Nat.beq n 205
theorem k91 : Ba (APt D91) (AJ (APt D91) 400) 91 [] = some (.bool true) := by kernel_rfl
noncomputable def D92 (n : Nat) : Bool := Nat.beq n 71
theorem k92 : Ba (APt D92) (AJ (APt D92) 400) 92 [] = some (.bool true) := by kernel_rfl
noncomputable def D72 (n : Nat) : Bool := Nat.beq n 32
theorem k72 : Ba (APt D72) (AJ (APt D72) 400) 72 [] = some (.bool true) := by kernel_rfl
end Go.Eng.Ses
