/- Examples of the chapters, evaluated by the kernel; no condition. -/
import Derived.Test.YtjolcimbcbcahaaGreatDoorS1
set_option linter.unusedSectionVars false
set_option linter.unusedVariables false
set_option linter.unusedSimpArgs false
set_option linter.unnecessarySimpa false
namespace Go.Eng.Ses
open Go Go.Eng Go.Proofs
noncomputable def D205 (n : Nat) : Bool := n != n
theorem k205 : AbK (APt D205) (exec (APt D205) 400) 205 [] = some (.bool true) := by kernel_rfl
noncomputable def D208 (n : Nat) : Bool := Nat.beq n 205
theorem k208 : AbK (APt D208) (exec (APt D208) 400) 208 [] = some (.bool true) := by kernel_rfl
noncomputable def D528 (n : Nat) : Bool := n != n
theorem k528 : AbK (APt D528) (exec (APt D528) 400) 528 [] = some (.bool true) := by kernel_rfl
noncomputable def D212 (n : Nat) : Bool := n != n
theorem k212 : AbK (APt D212) (exec (APt D212) 400) 212 [] = some (.bool true) := by kernel_rfl
noncomputable def D214 (n : Nat) : Bool := n != n
theorem k214 : AbK (APt D214) (exec (APt D214) 400) 214 [] = some (.bool true) := by kernel_rfl
noncomputable def D340 (n : Nat) : Bool := n != n
theorem k340 : AbK (APt D340) (exec (APt D340) 400) 340 [] = some (.bool true) := by kernel_rfl
noncomputable def D341 (n : Nat) : Bool := n != n
theorem k341 : AbK (APt D341) (exec (APt D341) 400) 341 [] = some (.bool true) := by kernel_rfl
noncomputable def D445 (n : Nat) : Bool := Nat.beq n 208
theorem k445 : AbK (APt D445) (exec (APt D445) 400) 445 [] = some (.bool true) := by kernel_rfl
noncomputable def D446 (n : Nat) : Bool := Nat.beq n 205 || Nat.beq n 528
theorem k446 : AbK (APt D446) (exec (APt D446) 400) 446 [] = some (.bool true) := by kernel_rfl
noncomputable def D448 (n : Nat) : Bool := Nat.beq n 205 || Nat.beq n 338
theorem k448 : AbK (AP30 D448) (exec (AP30 D448) 400) 448 [] = some (.bool true) := by kernel_rfl
noncomputable def D339 (n : Nat) : Bool := Nat.beq n 448
theorem k339 : AbK (APt D339) (exec (APt D339) 400) 339 [] = some (.bool true) := by kernel_rfl
noncomputable def D454 (n : Nat) : Bool := Nat.beq n 205
theorem k454 : AbK (APt D454) (exec (APt D454) 400) 454 [] = some (.bool true) := by kernel_rfl
noncomputable def D343 (n : Nat) : Bool := Nat.beq n 454
theorem k343 : AbK (APt D343) (exec (APt D343) 400) 343 [] = some (.bool true) := by kernel_rfl
noncomputable def D342 (n : Nat) : Bool := Nat.beq n 71
theorem k342 : AbK (APt D342) (exec (APt D342) 400) 342 [] = some (.bool true) := by kernel_rfl
noncomputable def D215 (n : Nat) : Bool := Nat.beq n 212
theorem k215 : AbK (APt D215) (exec (APt D215) 400) 215 [] = some (.bool true) := by kernel_rfl
noncomputable def D88 (n : Nat) : Bool := n != n
theorem k88 : AbK (APt D88) (exec (APt D88) 400) 88 [] = some (.bool true) := by kernel_rfl
noncomputable def D89 (n : Nat) : Bool := Nat.beq n 208
theorem k89 : AbK (APt D89) (exec (APt D89) 400) 89 [] = some (.bool true) := by kernel_rfl
noncomputable def D91 (n : Nat) : Bool := Nat.beq n 205
theorem k91 : AbK (APt D91) (exec (APt D91) 400) 91 [] = some (.bool true) := by kernel_rfl
noncomputable def D92 (n : Nat) : Bool := Nat.beq n 71
theorem k92 : AbK (APt D92) (exec (APt D92) 400) 92 [] = some (.bool true) := by kernel_rfl
noncomputable def D72 (n : Nat) : Bool := Nat.beq n 32
theorem k72 : AbK (APt D72) (exec (APt D72) 400) 72 [] = some (.bool true) := by kernel_rfl
end Go.Eng.Ses
