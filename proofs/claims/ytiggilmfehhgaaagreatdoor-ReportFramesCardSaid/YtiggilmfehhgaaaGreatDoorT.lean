/- What the row lists is tied to the program's text; no condition. -/
import Derived.Test.YtiggilmfehhgaaaGreatDoorRows
import Derived.LaidByTextLater
import Derived.SevenTiedAt
import Derived.LaidSub
import Derived.LaidOnce
set_option linter.unusedSectionVars false
set_option linter.unusedVariables false
set_option linter.unusedSimpArgs false
set_option linter.unnecessarySimpa false
namespace Go.Proofs.YtiggilmfehhgaaaGreatDoor
open Go
def lay6 : List (String × DataW Unit) := [("math/bits.deBruijn32tab", Rows.laid_math_bits_deBruijn32tab), ("math/bits.deBruijn64tab", Rows.laid_math_bits_deBruijn64tab), ("internal/strconv.optimize", Rows.laid_internal_strconv_optimize), ("internal/strconv.uint64pow10", Rows.laid_internal_strconv_uint64pow10)]
theorem tw1 : Tryz.prog.worded (varsWordLater true) = true := by kernel_rfl
theorem tw2 : Tryz.prog.worded (varsWordLater !true) = false := by kernel_rfl
theorem tw3 : Tryz.prog.worded rootWordLater = true := by kernel_rfl
theorem tw4 : lay6.map (fun x => Tryz.prog.kindOfLater x.1) = ([.data, .data, .data, .data] : List LaidKind).map some := by kernel_rfl
theorem tw5 : (Tryz.prog.funcNamed "gosem.cut.vars").isSome = true := by kernel_rfl
theorem tw6 : varsNamedLaterB Tryz.prog (varsId Tryz.prog) lay6 = true := by kernel_rfl
theorem tw7 (os : Os) (tape : Tape) : doorLeaves Tryz.prog 100 8 257 lay6 os tape = some (lay6.filter fun x => x.2.handleName?.isNone, (funcsListed lay6).map (·.2.funcsOut)) := by kernel_rfl
theorem tie6 : Tryz.prog.laidByTextLater lay6 [.data, .data, .data, .data] true := Program.laidByTextLater_by_one 100 8 257 tw1 tw2 tw3 tw4 tw5 tw6 tw7
theorem pinA : Tryz.pinned.checked.prog.pinnedFits "internal/strconv.leftcheats" = true := by kernel_rfl
theorem pinB : Tryz.pinned.checked.prog.pinnedFits "internal/strconv.pow10Tab" = true := by kernel_rfl
theorem noOwn : Tryz.pinned.checked.prog.headLifts.contains "ownunsafe" = false := by kernel_rfl
theorem fits3 : Tryz.pinned.checked.prog.listedFits Rows.reportFramesRow.laid = true := by
 unfold Program.listedFits
 rw [noOwn]
 kernel_rfl
theorem Alq : Rows.reportFramesRow.laidByTextAt .later Tryz.pinned [.data, .data, .data, .data, .pinned, .pinned] true :=
 OpenClaim.laidByTextAt_pinned rfl rfl tie6 rfl rfl rfl rfl (fun y hy _e => by
  simp only [Rows.reportFramesRow, List.zip_cons_cons, List.zip_nil_right, List.mem_cons, List.mem_nil_iff, or_false] at hy
  rcases hy with rfl | rfl | rfl | rfl | rfl | rfl
  ·cases _e
  ·cases _e
  ·cases _e
  ·cases _e
  ·exact ⟨pinA, by kernel_rfl⟩
  ·exact ⟨pinB, by kernel_rfl⟩) fits3
end Go.Proofs.YtiggilmfehhgaaaGreatDoor
