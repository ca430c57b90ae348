/- The closed facts of the row; no condition. -/
import Derived.Test.YtiggilmfehhgaaaGreatDoorFc
import Derived.Test.YtiggilmfehhgaaaGreatDoorRows
import Derived.JoinedOf
import Derived.KernelRfl
set_option linter.unusedSectionVars false
set_option linter.unusedVariables false
set_option linter.unusedSimpArgs false
set_option linter.unnecessarySimpa false
namespace Go.Proofs.YtiggilmfehhgaaaGreatDoor
open Go
set_option maxRecDepth 100000
theorem reportFramesF0 : (Rows.reportFramesRow.wf (OpenSpec.ofChange Rows.reportFramesSpec) : Bool) = true := by kernel_rfl
theorem reportFramesF2 : mapsRowed Tryz.prog = true := mapsOk
theorem reportFramesF3 : (Tryz.f3.params.all (Tryz.prog.readableRec ·) : Bool) = true := by kernel_rfl
theorem reportFramesF4 : (namedTie Tryz.prog Rows.reportFramesRow.named Rows.reportFramesSpec.vars : Bool) = true := by kernel_rfl
theorem reportFramesF5 : ((Rows.reportFramesRow.stops == []) : Bool) = true := by kernel_rfl
theorem reportFramesF6 : (Tryz.prog.stops == []) = true := noStops
theorem reportFramesF7 : ((Rows.reportFramesRow.knobs == []) : Bool) = true := by kernel_rfl
theorem reportFramesF8 : (Tryz.prog.stopKnobs == []) = true := noKnobs
theorem reportFramesF9 : ((Rows.reportFramesRow.inPlace == Tryz.prog.inPlace 3) : Bool) = true := by kernel_rfl
theorem AmP : ((Rows.reportFramesRow.unfollowed == Tryz.prog.unfollowed 3) : Bool) = true := by kernel_rfl
theorem AmO : ((Rows.reportFramesRow.recurses == Tryz.prog.recurses 3) : Bool) = true := by kernel_rfl
theorem AmN : ((Rows.reportFramesRow.named == Tryz.prog.varsNamed 3) : Bool) = true := by kernel_rfl
theorem AmM : ((Rows.reportFramesRow.maps == (Tryz.f3.params.toList ++ Rows.reportFramesSpec.plain.varTypes Tryz.prog).any (Tryz.prog.mapsRec ·)) : Bool) = true := by kernel_rfl
theorem AmL : ((Rows.reportFramesRow.ifaces == (Tryz.f3.params.toList ++ Rows.reportFramesSpec.plain.varTypes Tryz.prog).any (Tryz.prog.ifacesRec ·)) : Bool) = true := by kernel_rfl
theorem AmK : ((Rows.reportFramesRow.mapsOut == Tryz.prog.mapsAmong Tryz.f3.resultTypes.toList) : Bool) = true := by kernel_rfl
theorem AmJ : ((Rows.reportFramesRow.loops == (Tryz.f3.params.toList ++ Rows.reportFramesSpec.plain.varTypes Tryz.prog).any (Tryz.prog.loopsFrom ·)) : Bool) = true := by kernel_rfl
theorem AmI : ((Rows.reportFramesRow.wideKeys == (Tryz.f3.params.toList ++ Rows.reportFramesSpec.plain.varTypes Tryz.prog ++ Tryz.f3.resultTypes.toList).any (Tryz.prog.wideKeysFrom ·)) : Bool) = true := by kernel_rfl
theorem AmH : (Rows.reportFramesSpec.vars.all (Tryz.prog.varReadable ·) : Bool) = true := by kernel_rfl
theorem AmG : (Tryz.f3.resultTypes.all (fun t => Tryz.prog.readableRec t && decide (t < Tryz.prog.types.size)) : Bool) = true := by kernel_rfl
theorem AmF : ((Rows.reportFramesRow.ifacesOut == Tryz.f3.resultTypes.toList.any (Tryz.prog.ifacesRec ·)) : Bool) = true := by kernel_rfl
theorem AmE : ((Rows.reportFramesRow.loopsOut == Tryz.f3.resultTypes.toList.any (Tryz.prog.loopsFrom ·)) : Bool) = true := by kernel_rfl
theorem AmD : ((Rows.reportFramesRow.plainKeys == Tryz.prog.plainKeys) : Bool) = true := by kernel_rfl
theorem AmC : (Rows.reportFramesRow.shortTexts.isNone : Bool) = true := by kernel_rfl
theorem AmB : Tryz.prog.stopsHeard = true := heard
theorem AmA : Tryz.prog.mayEnter = true := enters
theorem Amz : ((Rows.reportFramesRow.lifted == Tryz.prog.liftsFinal) : Bool) = true := by kernel_rfl
theorem Amy : ((Tryz.prog.make == some Rows.reportFramesRow.make) : Bool) = true := by kernel_rfl
theorem Amx : ((Rows.reportFramesRow.kinds == (if Rows.reportFramesRow.domain.isEmpty then [] else Tryz.f3.params.toList.map fun t => match Tryz.prog.underlying t with | some (.int k) => some k | _ => none)) : Bool) = true := by kernel_rfl
theorem Amw : ((Rows.reportFramesRow.pinned == Rows.reportFramesRow.pinnedBy) : Bool) = true := by kernel_rfl
theorem Amv : ((Rows.reportFramesRow.veiled == (Tryz.f3.params.toList ++ Rows.reportFramesSpec.plain.varTypes Tryz.prog ++ Tryz.f3.resultTypes.toList).any (Tryz.prog.veiledRec ·)) : Bool) = true := by kernel_rfl
theorem Amu : (Rows.reportFramesRow.veiledFits Tryz.prog Tryz.f3.params.toList (Tryz.f3.params.toList ++ Rows.reportFramesSpec.plain.varTypes Tryz.prog ++ Tryz.f3.resultTypes.toList) : Bool) = true := by kernel_rfl
theorem reportFramesJ : joinedFacts Tryz.prog 3 Tryz.f3 Rows.reportFramesSpec Rows.reportFramesRow = true := (and2 (and2 (and2 (and2 (and2 (and2 (and2 (and2 (and2 (and2 (and2 (and2 (and2 (and2 (and2 (and2 (and2 (and2 (and2 (and2 (and2 (and2 (and2 (and2 (and2 (and2 (and2 (and2 (and2 (and2 (and2 reportFramesF0 laidOut) reportFramesF2) reportFramesF3) reportFramesF4) reportFramesF5) reportFramesF6) reportFramesF7) reportFramesF8) reportFramesF9) AmP) AmO) AmN) AmM) AmL) AmK) AmJ) AmI) AmH) AmG) AmF) AmE) AmD) AmC) AmB) AmA) Amz) Amy) Amx) Amw) Amv) Amu)
end Go.Proofs.YtiggilmfehhgaaaGreatDoor
