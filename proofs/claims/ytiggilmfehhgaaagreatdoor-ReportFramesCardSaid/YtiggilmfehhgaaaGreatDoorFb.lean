/- Closed facts of the row; no condition. -/
import Derived.Test.YtiggilmfehhgaaaGreatDoorRows
import Derived.JoinedOf
import Derived.KernelRfl
set_option linter.unusedSectionVars false
set_option linter.unusedVariables false
set_option linter.unusedSimpArgs false
set_option linter.unnecessarySimpa false

namespace Go.Proofs.YtiggilmfehhgaaaGreatDoor
open Go
set_option maxRecDepth 100000
theorem reportFramesF3 : (Tryz.f3.params.all (Tryz.prog.readableRec ·) : Bool) = true := by kernel_rfl
theorem reportFramesF5 : ((Rows.reportFramesRow.stops == []) : Bool) = true := by kernel_rfl
theorem reportFramesF9 : ((Rows.reportFramesRow.inPlace == Tryz.prog.inPlace 3) : Bool) = true := by kernel_rfl
theorem AmO : ((Rows.reportFramesRow.recurses == Tryz.prog.recurses 3) : Bool) = true := by kernel_rfl
theorem AmM : ((Rows.reportFramesRow.maps == (Tryz.f3.params.toList ++ Rows.reportFramesSpec.plain.varTypes Tryz.prog).any (Tryz.prog.mapsRec ·)) : Bool) = true := by kernel_rfl
theorem AmK : ((Rows.reportFramesRow.mapsOut == Tryz.prog.mapsAmong Tryz.f3.resultTypes.toList) : Bool) = true := by kernel_rfl
theorem AmI : ((Rows.reportFramesRow.wideKeys == (Tryz.f3.params.toList ++ Rows.reportFramesSpec.plain.varTypes Tryz.prog ++ Tryz.f3.resultTypes.toList).any (Tryz.prog.wideKeysFrom ·)) : Bool) = true := by kernel_rfl
theorem AmG : (Tryz.f3.resultTypes.all (fun t => Tryz.prog.readableRec t && decide (t < Tryz.prog.types.size)) : Bool) = true := by kernel_rfl
theorem AmE : ((Rows.reportFramesRow.loopsOut == Tryz.f3.resultTypes.toList.any (Tryz.prog.loopsFrom ·)) : Bool) = true := by kernel_rfl
theorem AmC : (Rows.reportFramesRow.shortTexts.isNone : Bool) = true := by kernel_rfl
theorem Amy : ((Tryz.prog.make == some Rows.reportFramesRow.make) : Bool) = true := by kernel_rfl
theorem Amw : ((Rows.reportFramesRow.pinned == Rows.reportFramesRow.pinnedBy) : Bool) = true := by kernel_rfl
theorem Amu : (Rows.reportFramesRow.veiledFits Tryz.prog Tryz.f3.params.toList (Tryz.f3.params.toList ++ Rows.reportFramesSpec.plain.varTypes Tryz.prog ++ Tryz.f3.resultTypes.toList) : Bool) = true := by kernel_rfl
end Go.Proofs.YtiggilmfehhgaaaGreatDoor
