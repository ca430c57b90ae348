/- Closed facts of the row; no condition. -/
import Derived.Test.YtiggilmfehhgaaaGreatDoorRows
import Derived.JoinedOf
import Derived.KernelRfl
set_option linter.unusedSectionVars false
set_option linter.unusedVariables false
set_option linter.unusedSimpArgs false
set_option linter.unnecessarySimpa false

namespace Go.Proofs.YtiggilmfehhgaaaGreatDoor
open Go
set_option maxRecDepth 100000
theorem reportFramesF0 : (Rows.reportFramesRow.wf (OpenSpec.ofChange Rows.reportFramesSpec) : Bool) = true := by kernel_rfl
theorem reportFramesF4 : (namedTie Tryz.prog Rows.reportFramesRow.named Rows.reportFramesSpec.vars : Bool) = true := by kernel_rfl
theorem reportFramesF7 : ((Rows.reportFramesRow.knobs == []) : Bool) = true := by kernel_rfl
theorem AmP : ((Rows.reportFramesRow.unfollowed == Tryz.prog.unfollowed 3) : Bool) = true := by kernel_rfl
theorem AmN : ((Rows.reportFramesRow.named == Tryz.prog.varsNamed 3) : Bool) = true := by kernel_rfl
theorem AmL : ((Rows.reportFramesRow.ifaces == (Tryz.f3.params.toList ++ Rows.reportFramesSpec.plain.varTypes Tryz.prog).any (Tryz.prog.ifacesRec ·)) : Bool) = true := by kernel_rfl
theorem AmJ : ((Rows.reportFramesRow.loops == (Tryz.f3.params.toList ++ Rows.reportFramesSpec.plain.varTypes Tryz.prog).any (Tryz.prog.loopsFrom ·)) : Bool) = true := by kernel_rfl
theorem AmH : (Rows.reportFramesSpec.vars.all (Tryz.prog.varReadable ·) : Bool) = true := by kernel_rfl
theorem AmF : ((Rows.reportFramesRow.ifacesOut == Tryz.f3.resultTypes.toList.any (Tryz.prog.ifacesRec ·)) : Bool) = true := by kernel_rfl
theorem AmD : ((Rows.reportFramesRow.plainKeys == Tryz.prog.plainKeys) : Bool) = true := by kernel_rfl
theorem Amz : ((Rows.reportFramesRow.lifted == Tryz.prog.liftsFinal) : Bool) = true := by kernel_rfl
theorem Amx : ((Rows.reportFramesRow.kinds == (if Rows.reportFramesRow.domain.isEmpty then [] else Tryz.f3.params.toList.map fun t => match Tryz.prog.underlying t with | some (.int k) => some k | _ => none)) : Bool) = true := by kernel_rfl
theorem Amv : ((Rows.reportFramesRow.veiled == (Tryz.f3.params.toList ++ Rows.reportFramesSpec.plain.varTypes Tryz.prog ++ Tryz.f3.resultTypes.toList).any (Tryz.prog.veiledRec ·)) : Bool) = true := by kernel_rfl
end Go.Proofs.YtiggilmfehhgaaaGreatDoor
