/- The closed facts of the row; no condition. -/
import Derived.Test.YtjolcimbcbcahaaGreatDoorFc
import Derived.Test.YtjolcimbcbcahaaGreatDoorRows
import Derived.JoinedOf
import Derived.KernelRfl
set_option linter.unusedSectionVars false
set_option linter.unusedVariables false
set_option linter.unusedSimpArgs false
set_option linter.unnecessarySimpa false
namespace Go.Proofs.YtjolcimbcbcahaaGreatDoor
open Go
set_option maxRecDepth 100000
theorem gaugeOrdersF0 : (Rows.gaugeOrdersRow.wf (OpenSpec.ofChange Rows.gaugeOrdersSpec) : Bool) = true := by kernel_rfl
theorem gaugeOrdersF2 : mapsRowed Tryz.prog = true := mapsOk
theorem gaugeOrdersF3 : (Tryz.f4.params.all (Tryz.prog.readableRec ·) : Bool) = true := by kernel_rfl
theorem gaugeOrdersF4 : (namedTie Tryz.prog Rows.gaugeOrdersRow.named Rows.gaugeOrdersSpec.vars : Bool) = true := by kernel_rfl
theorem gaugeOrdersF5 : ((Rows.gaugeOrdersRow.stops == []) : Bool) = true := by kernel_rfl
theorem gaugeOrdersF6 : (Tryz.prog.stops == []) = true := noStops
theorem gaugeOrdersF7 : ((Rows.gaugeOrdersRow.knobs == []) : Bool) = true := by kernel_rfl
theorem gaugeOrdersF8 : (Tryz.prog.stopKnobs == []) = true := noKnobs
theorem gaugeOrdersF9 : ((Rows.gaugeOrdersRow.inPlace == Tryz.prog.inPlace 4) : Bool) = true := by kernel_rfl
theorem gaugeOrdersF10 : ((Rows.gaugeOrdersRow.unfollowed == Tryz.prog.unfollowed 4) : Bool) = true := by kernel_rfl
theorem gaugeOrdersF11 : ((Rows.gaugeOrdersRow.recurses == Tryz.prog.recurses 4) : Bool) = true := by kernel_rfl
theorem gaugeOrdersF12 : ((Rows.gaugeOrdersRow.named == Tryz.prog.varsNamed 4) : Bool) = true := by kernel_rfl
theorem gaugeOrdersF13 : ((Rows.gaugeOrdersRow.maps == (Tryz.f4.params.toList ++ Rows.gaugeOrdersSpec.plain.varTypes Tryz.prog).any (Tryz.prog.mapsRec ·)) : Bool) = true := by kernel_rfl
theorem gaugeOrdersF14 : ((Rows.gaugeOrdersRow.ifaces == (Tryz.f4.params.toList ++ Rows.gaugeOrdersSpec.plain.varTypes Tryz.prog).any (Tryz.prog.ifacesRec ·)) : Bool) = true := by kernel_rfl
theorem gaugeOrdersF15 : ((Rows.gaugeOrdersRow.mapsOut == Tryz.prog.mapsAmong Tryz.f4.resultTypes.toList) : Bool) = true := by kernel_rfl
theorem gaugeOrdersF16 : ((Rows.gaugeOrdersRow.loops == (Tryz.f4.params.toList ++ Rows.gaugeOrdersSpec.plain.varTypes Tryz.prog).any (Tryz.prog.loopsFrom ·)) : Bool) = true := by kernel_rfl
theorem gaugeOrdersF17 : ((Rows.gaugeOrdersRow.wideKeys == (Tryz.f4.params.toList ++ Rows.gaugeOrdersSpec.plain.varTypes Tryz.prog ++ Tryz.f4.resultTypes.toList).any (Tryz.prog.wideKeysFrom ·)) : Bool) = true := by kernel_rfl
theorem gaugeOrdersF18 : (Rows.gaugeOrdersSpec.vars.all (Tryz.prog.varReadable ·) : Bool) = true := by kernel_rfl
theorem gaugeOrdersF19 : (Tryz.f4.resultTypes.all (fun t => Tryz.prog.readableRec t && decide (t < Tryz.prog.types.size)) : Bool) = true := by kernel_rfl
theorem gaugeOrdersF20 : ((Rows.gaugeOrdersRow.ifacesOut == Tryz.f4.resultTypes.toList.any (Tryz.prog.ifacesRec ·)) : Bool) = true := by kernel_rfl
theorem gaugeOrdersF21 : ((Rows.gaugeOrdersRow.loopsOut == Tryz.f4.resultTypes.toList.any (Tryz.prog.loopsFrom ·)) : Bool) = true := by kernel_rfl
theorem gaugeOrdersF22 : ((Rows.gaugeOrdersRow.plainKeys == Tryz.prog.plainKeys) : Bool) = true := by kernel_rfl
theorem gaugeOrdersF23 : (Rows.gaugeOrdersRow.shortTexts.isNone : Bool) = true := by kernel_rfl
theorem gaugeOrdersF24 : Tryz.prog.stopsHeard = true := heard
theorem gaugeOrdersF25 : Tryz.prog.mayEnter = true := enters
theorem gaugeOrdersF26 : ((Rows.gaugeOrdersRow.lifted == Tryz.prog.liftsFinal) : Bool) = true := by kernel_rfl
theorem gaugeOrdersF27 : ((Tryz.prog.make == some Rows.gaugeOrdersRow.make) : Bool) = true := by kernel_rfl
theorem gaugeOrdersF28 : ((Rows.gaugeOrdersRow.kinds == (if Rows.gaugeOrdersRow.domain.isEmpty then [] else Tryz.f4.params.toList.map fun t => match Tryz.prog.underlying t with | some (.int k) => some k | _ => none)) : Bool) = true := by kernel_rfl
theorem gaugeOrdersF29 : ((Rows.gaugeOrdersRow.pinned == Rows.gaugeOrdersRow.pinnedBy) : Bool) = true := by kernel_rfl
theorem gaugeOrdersF30 : ((Rows.gaugeOrdersRow.veiled == (Tryz.f4.params.toList ++ Rows.gaugeOrdersSpec.plain.varTypes Tryz.prog ++ Tryz.f4.resultTypes.toList).any (Tryz.prog.veiledRec ·)) : Bool) = true := by kernel_rfl
theorem gaugeOrdersF31 : (Rows.gaugeOrdersRow.veiledFits Tryz.prog Tryz.f4.params.toList (Tryz.f4.params.toList ++ Rows.gaugeOrdersSpec.plain.varTypes Tryz.prog ++ Tryz.f4.resultTypes.toList) : Bool) = true := by kernel_rfl
theorem gaugeOrdersJ : joinedFacts Tryz.prog 4 Tryz.f4 Rows.gaugeOrdersSpec Rows.gaugeOrdersRow = true := (and2 (and2 (and2 (and2 (and2 (and2 (and2 (and2 (and2 (and2 (and2 (and2 (and2 (and2 (and2 (and2 (and2 (and2 (and2 (and2 (and2 (and2 (and2 (and2 (and2 (and2 (and2 (and2 (and2 (and2 (and2 gaugeOrdersF0 laidOut) gaugeOrdersF2) gaugeOrdersF3) gaugeOrdersF4) gaugeOrdersF5) gaugeOrdersF6) gaugeOrdersF7) gaugeOrdersF8) gaugeOrdersF9) gaugeOrdersF10) gaugeOrdersF11) gaugeOrdersF12) gaugeOrdersF13) gaugeOrdersF14) gaugeOrdersF15) gaugeOrdersF16) gaugeOrdersF17) gaugeOrdersF18) gaugeOrdersF19) gaugeOrdersF20) gaugeOrdersF21) gaugeOrdersF22) gaugeOrdersF23) gaugeOrdersF24) gaugeOrdersF25) gaugeOrdersF26) gaugeOrdersF27) gaugeOrdersF28) gaugeOrdersF29) gaugeOrdersF30) gaugeOrdersF31)
end Go.Proofs.YtjolcimbcbcahaaGreatDoor
