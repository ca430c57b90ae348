/- The program's types are laid out as due; no condition. -/
import Derived.Test.YtiggilmfehhgaaaGreatDoorRows
import Derived.JoinedOf
import GoSem.ClaimGoes
import Derived.KernelRfl
set_option linter.unusedSectionVars false
set_option linter.unusedVariables false
set_option linter.unusedSimpArgs false
set_option linter.unnecessarySimpa false

namespace Go.Proofs.YtiggilmfehhgaaaGreatDoor
open Go
theorem Aep {p : Nat → Bool} : ∀ (k s n : Nat), (List.range' s k).all p = true → (∀ x, s + k ≤ x → x < n → p x = true) → ∀ x, s ≤ x → x < n → p x = true := by
  intro k s n h1 h2 x hs hn
  rcases Nat.lt_or_ge x (s + k) with h | h
  · exact List.all_eq_true.1 h1 x (by simp [List.mem_range']; exact ⟨x - s, by omega, by omega⟩)
  · exact h2 x h hn
theorem lo0 : (List.range' 0 80).all (rowFine Tryz.prog) = true := by kernel_rfl
theorem lo80 : (List.range' 80 80).all (rowFine Tryz.prog) = true := by kernel_rfl
theorem lo160 : (List.range' 160 80).all (rowFine Tryz.prog) = true := by kernel_rfl
theorem lo240 : (List.range' 240 80).all (rowFine Tryz.prog) = true := by kernel_rfl
theorem lo320 : (List.range' 320 80).all (rowFine Tryz.prog) = true := by kernel_rfl
theorem lo400 : (List.range' 400 80).all (rowFine Tryz.prog) = true := by kernel_rfl
theorem lo480 : (List.range' 480 80).all (rowFine Tryz.prog) = true := by kernel_rfl
theorem lo560 : (List.range' 560 80).all (rowFine Tryz.prog) = true := by kernel_rfl
theorem lo640 : (List.range' 640 80).all (rowFine Tryz.prog) = true := by kernel_rfl
theorem lo720 : (List.range' 720 80).all (rowFine Tryz.prog) = true := by kernel_rfl
theorem lo800 : (List.range' 800 50).all (rowFine Tryz.prog) = true := by kernel_rfl
theorem tySize : Tryz.prog.types.size = 850 := by kernel_rfl
theorem loT : (List.range Tryz.prog.types.size).all (rowFine Tryz.prog) = true := by
  rw [tySize, List.all_eq_true]
  intro x hx
  exact (Aep 80 0 850 lo0 (Aep 80 80 850 lo80 (Aep 80 160 850 lo160 (Aep 80 240 850 lo240 (Aep 80 320 850 lo320 (Aep 80 400 850 lo400 (Aep 80 480 850 lo480 (Aep 80 560 850 lo560 (Aep 80 640 850 lo640 (Aep 80 720 850 lo720 (Aep 50 800 850 lo800 (fun x h1 h2 => absurd h2 (by omega))))))))))))) x (Nat.zero_le x) (List.mem_range.1 hx)
theorem loG : Tryz.prog.globals.all (fun g => decide (g.type < Tryz.prog.types.size)) = true := by kernel_rfl
theorem loF : Tryz.prog.funcs.all (fun f => f.params.all fun t => decide (t < Tryz.prog.types.size)) = true := by
  rw [tySize]; kernel_rfl
theorem and2 {a b : Bool} (ha : a = true) (hb : b = true) : (a && b) = true := by rw [ha, hb]; rfl
theorem laidOut : laidOutB Tryz.prog = true := and2 (and2 loT loG) loF
theorem mapsOk : mapsRowed Tryz.prog = true := by kernel_rfl
theorem noStops : (Tryz.prog.stops == []) = true := by kernel_rfl
theorem noKnobs : (Tryz.prog.stopKnobs == []) = true := by kernel_rfl
theorem heard : Tryz.prog.stopsHeard = true := by kernel_rfl
theorem enters : Tryz.prog.mayEnter = true := by kernel_rfl
theorem noGo : Tryz.prog.funcs.any Func.goes = false := by kernel_rfl
end Go.Proofs.YtiggilmfehhgaaaGreatDoor
