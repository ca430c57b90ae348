/- Examples of the chapters, evaluated by the kernel; no condition. -/
import Derived.Test.YtiggilmfehhgaaaGreatDoorS1
set_option linter.unusedSectionVars false
set_option linter.unusedVariables false
set_option linter.unusedSimpArgs false
set_option linter.unnecessarySimpa false
namespace Go.Eng.Ses
open Go Go.Eng Go.Proofs
noncomputable def D261 (n : Nat) : Bool := n != n
theorem k261 : AbF (APt D261) (exec (APt D261) 400) 261 [] = some (.bool true) := by kernel_rfl
noncomputable def D77 (n : Nat) : Bool := Nat.beq n 261
theorem k77 : AbF (APt D77) (exec (APt D77) 400) 77 [] = some (.bool true) := by kernel_rfl
noncomputable def D89 (n : Nat) : Bool := n != n
theorem k89 : AbF (APt D89) (exec (APt D89) 400) 89 [] = some (.bool true) := by kernel_rfl
noncomputable def D279 (n : Nat) : Bool := n != n
theorem k279 : AbF (APt D279) (exec (APt D279) 400) 279 [] = some (.bool true) := by kernel_rfl
noncomputable def D271 (n : Nat) : Bool := Nat.beq n 279
theorem k271 : AbF (APt D271) (exec (APt D271) 400) 271 [] = some (.bool true) := by kernel_rfl
noncomputable def D90 (n : Nat) : Bool := Nat.beq n 271
theorem k90 : AbF (APt D90) (exec (APt D90) 400) 90 [] = some (.bool true) := by kernel_rfl
noncomputable def D275 (n : Nat) : Bool := n != n
theorem k275 : AbF (APt D275) (exec (APt D275) 400) 275 [] = some (.bool true) := by kernel_rfl
noncomputable def D578 (n : Nat) : Bool := Nat.beq n 271
theorem k578 : AbF (APt D578) (exec (APt D578) 400) 578 [] = some (.bool true) := by kernel_rfl
noncomputable def D633 (n : Nat) : Bool := n != n
theorem k633 : AbF (APt D633) (exec (APt D633) 400) 633 [] = some (.bool true) := by kernel_rfl
noncomputable def D579 (n : Nat) : Bool := Nat.beq n 279 || Nat.beq n 633
theorem k579 : AbF (APt D579) (exec (APt D579) 400) 579 [] = some (.bool true) := by kernel_rfl
noncomputable def D581 (n : Nat) : Bool := Nat.beq n 279 || Nat.beq n 469
theorem k581 : AbF (AP30 D581) (exec (AP30 D581) 400) 581 [] = some (.bool true) := by kernel_rfl
noncomputable def D470 (n : Nat) : Bool := Nat.beq n 581
theorem k470 : AbF (APt D470) (exec (APt D470) 400) 470 [] = some (.bool true) := by kernel_rfl
noncomputable def D471 (n : Nat) : Bool := n != n
theorem k471 : AbF (APt D471) (exec (APt D471) 400) 471 [] = some (.bool true) := by kernel_rfl
noncomputable def D472 (n : Nat) : Bool := Nat.beq n 281
theorem k472 : AbF (APt D472) (exec (APt D472) 400) 472 [] = some (.bool true) := by kernel_rfl
noncomputable def D586 (n : Nat) : Bool := Nat.beq n 279
theorem k586 : AbF (APt D586) (exec (APt D586) 400) 586 [] = some (.bool true) := by kernel_rfl
noncomputable def D473 (n : Nat) : Bool := Nat.beq n 586
theorem k473 : AbF (APt D473) (exec (APt D473) 400) 473 [] = some (.bool true) := by kernel_rfl
noncomputable def D277 (n : Nat) : Bool := n != n
theorem k277 : AbF (APt D277) (exec (APt D277) 400) 277 [] = some (.bool true) := by kernel_rfl
noncomputable def D278 (n : Nat) : Bool := Nat.beq n 275
theorem k278 : AbF (APt D278) (exec (APt D278) 400) 278 [] = some (.bool true) := by kernel_rfl
noncomputable def D92 (n : Nat) : Bool := Nat.beq n 279
theorem k92 : AbF (APt D92) (exec (APt D92) 400) 92 [] = some (.bool true) := by kernel_rfl
noncomputable def D93 (n : Nat) : Bool := Nat.beq n 281
theorem k93 : AbF (APt D93) (exec (APt D93) 400) 93 [] = some (.bool true) := by kernel_rfl
noncomputable def D78 (n : Nat) : Bool := Nat.beq n 17
theorem k78 : AbF (APt D78) (exec (APt D78) 400) 78 [] = some (.bool true) := by kernel_rfl
end Go.Eng.Ses
