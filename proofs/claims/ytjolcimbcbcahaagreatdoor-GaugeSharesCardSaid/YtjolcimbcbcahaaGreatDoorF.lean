/- The closed facts of the row; no condition. -/
import Derived.Test.YtjolcimbcbcahaaGreatDoorFc
import Derived.Test.YtjolcimbcbcahaaGreatDoorRows
import Derived.JoinedOf
import Derived.KernelRfl
set_option linter.unusedSectionVars false
set_option linter.unusedVariables false
set_option linter.unusedSimpArgs false
set_option linter.unnecessarySimpa false
namespace Go.Proofs.YtjolcimbcbcahaaGreatDoor
open Go
set_option maxRecDepth 100000
theorem gaugeSharesF0 : (Rows.gaugeSharesRow.wf (OpenSpec.ofChange Rows.gaugeSharesSpec) : Bool) = true := by kernel_rfl
theorem gaugeSharesF2 : mapsRowed Tryz.prog = true := mapsOk
theorem gaugeSharesF3 : (Tryz.f3.params.all (Tryz.prog.readableRec ·) : Bool) = true := by kernel_rfl
theorem gaugeSharesF4 : (namedTie Tryz.prog Rows.gaugeSharesRow.named Rows.gaugeSharesSpec.vars : Bool) = true := by kernel_rfl
theorem gaugeSharesF5 : ((Rows.gaugeSharesRow.stops == []) : Bool) = true := by kernel_rfl
theorem gaugeSharesF6 : (Tryz.prog.stops == []) = true := noStops
theorem gaugeSharesF7 : ((Rows.gaugeSharesRow.knobs == []) : Bool) = true := by kernel_rfl
theorem gaugeSharesF8 : (Tryz.prog.stopKnobs == []) = true := noKnobs
theorem gaugeSharesF9 : ((Rows.gaugeSharesRow.inPlace == Tryz.prog.inPlace 3) : Bool) = true := by kernel_rfl
theorem gaugeSharesF10 : ((Rows.gaugeSharesRow.unfollowed == Tryz.prog.unfollowed 3) : Bool) = true := by kernel_rfl
theorem gaugeSharesF11 : ((Rows.gaugeSharesRow.recurses == Tryz.prog.recurses 3) : Bool) = true := by kernel_rfl
theorem gaugeSharesF12 : ((Rows.gaugeSharesRow.named == Tryz.prog.varsNamed 3) : Bool) = true := by kernel_rfl
theorem gaugeSharesF13 : ((Rows.gaugeSharesRow.maps == (Tryz.f3.params.toList ++ Rows.gaugeSharesSpec.plain.varTypes Tryz.prog).any (Tryz.prog.mapsRec ·)) : Bool) = true := by kernel_rfl
theorem gaugeSharesF14 : ((Rows.gaugeSharesRow.ifaces == (Tryz.f3.params.toList ++ Rows.gaugeSharesSpec.plain.varTypes Tryz.prog).any (Tryz.prog.ifacesRec ·)) : Bool) = true := by kernel_rfl
theorem gaugeSharesF15 : ((Rows.gaugeSharesRow.mapsOut == Tryz.prog.mapsAmong Tryz.f3.resultTypes.toList) : Bool) = true := by kernel_rfl
theorem gaugeSharesF16 : ((Rows.gaugeSharesRow.loops == (Tryz.f3.params.toList ++ Rows.gaugeSharesSpec.plain.varTypes Tryz.prog).any (Tryz.prog.loopsFrom ·)) : Bool) = true := by kernel_rfl
theorem gaugeSharesF17 : ((Rows.gaugeSharesRow.wideKeys == (Tryz.f3.params.toList ++ Rows.gaugeSharesSpec.plain.varTypes Tryz.prog ++ Tryz.f3.resultTypes.toList).any (Tryz.prog.wideKeysFrom ·)) : Bool) = true := by kernel_rfl
theorem gaugeSharesF18 : (Rows.gaugeSharesSpec.vars.all (Tryz.prog.varReadable ·) : Bool) = true := by kernel_rfl
theorem gaugeSharesF19 : (Tryz.f3.resultTypes.all (fun t => Tryz.prog.readableRec t && decide (t < Tryz.prog.types.size)) : Bool) = true := by kernel_rfl
theorem gaugeSharesF20 : ((Rows.gaugeSharesRow.ifacesOut == Tryz.f3.resultTypes.toList.any (Tryz.prog.ifacesRec ·)) : Bool) = true := by kernel_rfl
theorem gaugeSharesF21 : ((Rows.gaugeSharesRow.loopsOut == Tryz.f3.resultTypes.toList.any (Tryz.prog.loopsFrom ·)) : Bool) = true := by kernel_rfl
theorem gaugeSharesF22 : ((Rows.gaugeSharesRow.plainKeys == Tryz.prog.plainKeys) : Bool) = true := by kernel_rfl
theorem gaugeSharesF23 : (Rows.gaugeSharesRow.shortTexts.isNone : Bool) = true := by kernel_rfl
theorem gaugeSharesF24 : Tryz.prog.stopsHeard = true := heard
theorem gaugeSharesF25 : Tryz.prog.mayEnter = true := enters
theorem gaugeSharesF26 : ((Rows.gaugeSharesRow.lifted == Tryz.prog.liftsFinal) : Bool) = true := by kernel_rfl
theorem gaugeSharesF27 : ((Tryz.prog.make == some Rows.gaugeSharesRow.make) : Bool) = true := by kernel_rfl
theorem gaugeSharesF28 : ((Rows.gaugeSharesRow.kinds == (if Rows.gaugeSharesRow.domain.isEmpty then [] else Tryz.f3.params.toList.map fun t => match Tryz.prog.underlying t with | some (.int k) => some k | _ => none)) : Bool) = true := by kernel_rfl
theorem gaugeSharesF29 : ((Rows.gaugeSharesRow.pinned == Rows.gaugeSharesRow.pinnedBy) : Bool) = true := by kernel_rfl
theorem gaugeSharesF30 : ((Rows.gaugeSharesRow.veiled == (Tryz.f3.params.toList ++ Rows.gaugeSharesSpec.plain.varTypes Tryz.prog ++ Tryz.f3.resultTypes.toList).any (Tryz.prog.veiledRec ·)) : Bool) = true := by kernel_rfl
theorem gaugeSharesF31 : (Rows.gaugeSharesRow.veiledFits Tryz.prog Tryz.f3.params.toList (Tryz.f3.params.toList ++ Rows.gaugeSharesSpec.plain.varTypes Tryz.prog ++ Tryz.f3.resultTypes.toList) : Bool) = true := by kernel_rfl
theorem gaugeSharesJ : joinedFacts Tryz.prog 3 Tryz.f3 Rows.gaugeSharesSpec Rows.gaugeSharesRow = true := (and2 (and2 (and2 (and2 (and2 (and2 (and2 (and2 (and2 (and2 (and2 (and2 (and2 (and2 (and2 (and2 (and2 (and2 (and2 (and2 (and2 (and2 (and2 (and2 (and2 (and2 (and2 (and2 (and2 (and2 (and2 gaugeSharesF0 laidOut) gaugeSharesF2) gaugeSharesF3) gaugeSharesF4) gaugeSharesF5) gaugeSharesF6) gaugeSharesF7) gaugeSharesF8) gaugeSharesF9) gaugeSharesF10) gaugeSharesF11) gaugeSharesF12) gaugeSharesF13) gaugeSharesF14) gaugeSharesF15) gaugeSharesF16) gaugeSharesF17) gaugeSharesF18) gaugeSharesF19) gaugeSharesF20) gaugeSharesF21) gaugeSharesF22) gaugeSharesF23) gaugeSharesF24) gaugeSharesF25) gaugeSharesF26) gaugeSharesF27) gaugeSharesF28) gaugeSharesF29) gaugeSharesF30) gaugeSharesF31)
end Go.Proofs.YtjolcimbcbcahaaGreatDoor
