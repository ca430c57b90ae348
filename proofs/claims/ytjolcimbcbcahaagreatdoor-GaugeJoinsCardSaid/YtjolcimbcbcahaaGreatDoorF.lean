/- The closed facts of the row; no condition. -/
import Derived.Test.YtjolcimbcbcahaaGreatDoorFc
import Derived.Test.YtjolcimbcbcahaaGreatDoorRows
import Derived.JoinedOf
import Derived.KernelRfl
set_option linter.unusedSectionVars false
set_option linter.unusedVariables false
set_option linter.unusedSimpArgs false
set_option linter.unnecessarySimpa false
namespace Go.Proofs.YtjolcimbcbcahaaGreatDoor
open Go
set_option maxRecDepth 100000
theorem gaugeJoinsF0 : (Rows.gaugeJoinsRow.wf (OpenSpec.ofChange Rows.gaugeJoinsSpec) : Bool) = true := by kernel_rfl
theorem gaugeJoinsF2 : mapsRowed Tryz.prog = true := mapsOk
theorem gaugeJoinsF3 : (Tryz.f5.params.all (Tryz.prog.readableRec ·) : Bool) = true := by kernel_rfl
theorem gaugeJoinsF4 : (namedTie Tryz.prog Rows.gaugeJoinsRow.named Rows.gaugeJoinsSpec.vars : Bool) = true := by kernel_rfl
theorem gaugeJoinsF5 : ((Rows.gaugeJoinsRow.stops == []) : Bool) = true := by kernel_rfl
theorem gaugeJoinsF6 : (Tryz.prog.stops == []) = true := noStops
theorem gaugeJoinsF7 : ((Rows.gaugeJoinsRow.knobs == []) : Bool) = true := by kernel_rfl
theorem gaugeJoinsF8 : (Tryz.prog.stopKnobs == []) = true := noKnobs
theorem gaugeJoinsF9 : ((Rows.gaugeJoinsRow.inPlace == Tryz.prog.inPlace 5) : Bool) = true := by kernel_rfl
theorem gaugeJoinsF10 : ((Rows.gaugeJoinsRow.unfollowed == Tryz.prog.unfollowed 5) : Bool) = true := by kernel_rfl
theorem gaugeJoinsF11 : ((Rows.gaugeJoinsRow.recurses == Tryz.prog.recurses 5) : Bool) = true := by kernel_rfl
theorem gaugeJoinsF12 : ((Rows.gaugeJoinsRow.named == Tryz.prog.varsNamed 5) : Bool) = true := by kernel_rfl
theorem gaugeJoinsF13 : ((Rows.gaugeJoinsRow.maps == (Tryz.f5.params.toList ++ Rows.gaugeJoinsSpec.plain.varTypes Tryz.prog).any (Tryz.prog.mapsRec ·)) : Bool) = true := by kernel_rfl
theorem gaugeJoinsF14 : ((Rows.gaugeJoinsRow.ifaces == (Tryz.f5.params.toList ++ Rows.gaugeJoinsSpec.plain.varTypes Tryz.prog).any (Tryz.prog.ifacesRec ·)) : Bool) = true := by kernel_rfl
theorem gaugeJoinsF15 : ((Rows.gaugeJoinsRow.mapsOut == Tryz.prog.mapsAmong Tryz.f5.resultTypes.toList) : Bool) = true := by kernel_rfl
theorem gaugeJoinsF16 : ((Rows.gaugeJoinsRow.loops == (Tryz.f5.params.toList ++ Rows.gaugeJoinsSpec.plain.varTypes Tryz.prog).any (Tryz.prog.loopsFrom ·)) : Bool) = true := by kernel_rfl
theorem gaugeJoinsF17 : ((Rows.gaugeJoinsRow.wideKeys == (Tryz.f5.params.toList ++ Rows.gaugeJoinsSpec.plain.varTypes Tryz.prog ++ Tryz.f5.resultTypes.toList).any (Tryz.prog.wideKeysFrom ·)) : Bool) = true := by kernel_rfl
theorem gaugeJoinsF18 : (Rows.gaugeJoinsSpec.vars.all (Tryz.prog.varReadable ·) : Bool) = true := by kernel_rfl
theorem gaugeJoinsF19 : (Tryz.f5.resultTypes.all (fun t => Tryz.prog.readableRec t && decide (t < Tryz.prog.types.size)) : Bool) = true := by kernel_rfl
theorem gaugeJoinsF20 : ((Rows.gaugeJoinsRow.ifacesOut == Tryz.f5.resultTypes.toList.any (Tryz.prog.ifacesRec ·)) : Bool) = true := by kernel_rfl
theorem gaugeJoinsF21 : ((Rows.gaugeJoinsRow.loopsOut == Tryz.f5.resultTypes.toList.any (Tryz.prog.loopsFrom ·)) : Bool) = true := by kernel_rfl
theorem gaugeJoinsF22 : ((Rows.gaugeJoinsRow.plainKeys == Tryz.prog.plainKeys) : Bool) = true := by kernel_rfl
theorem gaugeJoinsF23 : (Rows.gaugeJoinsRow.shortTexts.isNone : Bool) = true := by kernel_rfl
theorem gaugeJoinsF24 : Tryz.prog.stopsHeard = true := heard
theorem gaugeJoinsF25 : Tryz.prog.mayEnter = true := enters
theorem gaugeJoinsF26 : ((Rows.gaugeJoinsRow.lifted == Tryz.prog.liftsFinal) : Bool) = true := by kernel_rfl
theorem gaugeJoinsF27 : ((Tryz.prog.make == some Rows.gaugeJoinsRow.make) : Bool) = true := by kernel_rfl
theorem gaugeJoinsF28 : ((Rows.gaugeJoinsRow.kinds == (if Rows.gaugeJoinsRow.domain.isEmpty then [] else Tryz.f5.params.toList.map fun t => match Tryz.prog.underlying t with | some (.int k) => some k | _ => none)) : Bool) = true := by kernel_rfl
theorem gaugeJoinsF29 : ((Rows.gaugeJoinsRow.pinned == Rows.gaugeJoinsRow.pinnedBy) : Bool) = true := by kernel_rfl
theorem gaugeJoinsF30 : ((Rows.gaugeJoinsRow.veiled == (Tryz.f5.params.toList ++ Rows.gaugeJoinsSpec.plain.varTypes Tryz.prog ++ Tryz.f5.resultTypes.toList).any (Tryz.prog.veiledRec ·)) : Bool) = true := by kernel_rfl
theorem gaugeJoinsF31 : (Rows.gaugeJoinsRow.veiledFits Tryz.prog Tryz.f5.params.toList (Tryz.f5.params.toList ++ Rows.gaugeJoinsSpec.plain.varTypes Tryz.prog ++ Tryz.f5.resultTypes.toList) : Bool) = true := by kernel_rfl
theorem gaugeJoinsJ : joinedFacts Tryz.prog 5 Tryz.f5 Rows.gaugeJoinsSpec Rows.gaugeJoinsRow = true := (and2 (and2 (and2 (and2 (and2 (and2 (and2 (and2 (and2 (and2 (and2 (and2 (and2 (and2 (and2 (and2 (and2 (and2 (and2 (and2 (and2 (and2 (and2 (and2 (and2 (and2 (and2 (and2 (and2 (and2 (and2 gaugeJoinsF0 laidOut) gaugeJoinsF2) gaugeJoinsF3) gaugeJoinsF4) gaugeJoinsF5) gaugeJoinsF6) gaugeJoinsF7) gaugeJoinsF8) gaugeJoinsF9) gaugeJoinsF10) gaugeJoinsF11) gaugeJoinsF12) gaugeJoinsF13) gaugeJoinsF14) gaugeJoinsF15) gaugeJoinsF16) gaugeJoinsF17) gaugeJoinsF18) gaugeJoinsF19) gaugeJoinsF20) gaugeJoinsF21) gaugeJoinsF22) gaugeJoinsF23) gaugeJoinsF24) gaugeJoinsF25) gaugeJoinsF26) gaugeJoinsF27) gaugeJoinsF28) gaugeJoinsF29) gaugeJoinsF30) gaugeJoinsF31)
end Go.Proofs.YtjolcimbcbcahaaGreatDoor
