/- The closed facts of the row; no condition. -/
import Derived.Test.YtiggilmfehhgaaaGreatDoorFc
import Derived.Test.YtiggilmfehhgaaaGreatDoorFa
import Derived.Test.YtiggilmfehhgaaaGreatDoorFb
import Derived.Test.YtiggilmfehhgaaaGreatDoorRows
import Derived.JoinedOf
import Derived.KernelRfl
set_option linter.unusedSectionVars false
set_option linter.unusedVariables false
set_option linter.unusedSimpArgs false
set_option linter.unnecessarySimpa false
namespace Go.Proofs.YtiggilmfehhgaaaGreatDoor
open Go
set_option maxRecDepth 100000
theorem reportFramesF2 : mapsRowed Tryz.prog = true := mapsOk
theorem reportFramesF6 : (Tryz.prog.stops == []) = true := noStops
theorem reportFramesF8 : (Tryz.prog.stopKnobs == []) = true := noKnobs
theorem AmB : Tryz.prog.stopsHeard = true := heard
theorem AmA : Tryz.prog.mayEnter = true := enters
theorem reportFramesJ : joinedFacts Tryz.prog 3 Tryz.f3 Rows.reportFramesSpec Rows.reportFramesRow = true := (and2 (and2 (and2 (and2 (and2 (and2 (and2 (and2 (and2 (and2 (and2 (and2 (and2 (and2 (and2 (and2 (and2 (and2 (and2 (and2 (and2 (and2 (and2 (and2 (and2 (and2 (and2 (and2 (and2 (and2 (and2 reportFramesF0 laidOut) reportFramesF2) reportFramesF3) reportFramesF4) reportFramesF5) reportFramesF6) reportFramesF7) reportFramesF8) reportFramesF9) AmP) AmO) AmN) AmM) AmL) AmK) AmJ) AmI) AmH) AmG) AmF) AmE) AmD) AmC) AmB) AmA) Amz) Amy) Amx) Amw) Amv) Amu)
end Go.Proofs.YtiggilmfehhgaaaGreatDoor
