/- The closed facts of the row; no condition. -/
import Derived.Test.YtjolcimbcbcahaaGreatDoorFc
import Derived.Test.YtjolcimbcbcahaaGreatDoorRows
import Derived.JoinedOf
import Derived.KernelRfl
set_option linter.unusedSectionVars false
set_option linter.unusedVariables false
set_option linter.unusedSimpArgs false
set_option linter.unnecessarySimpa false
namespace Go.Proofs.YtjolcimbcbcahaaGreatDoor
open Go
set_option maxRecDepth 100000
theorem statTopF0 : (Rows.statTopRow.wf (OpenSpec.ofChange Rows.statTopSpec) : Bool) = true := by kernel_rfl
theorem statTopF2 : mapsRowed Tryz.prog = true := mapsOk
theorem statTopF3 : (Tryz.f11.params.all (Tryz.prog.readableRec ·) : Bool) = true := by kernel_rfl
theorem statTopF4 : (namedTie Tryz.prog Rows.statTopRow.named Rows.statTopSpec.vars : Bool) = true := by kernel_rfl
theorem statTopF5 : ((Rows.statTopRow.stops == []) : Bool) = true := by kernel_rfl
theorem statTopF6 : (Tryz.prog.stops == []) = true := noStops
theorem statTopF7 : ((Rows.statTopRow.knobs == []) : Bool) = true := by kernel_rfl
theorem statTopF8 : (Tryz.prog.stopKnobs == []) = true := noKnobs
theorem statTopF9 : ((Rows.statTopRow.inPlace == Tryz.prog.inPlace 11) : Bool) = true := by kernel_rfl
theorem statTopF10 : ((Rows.statTopRow.unfollowed == Tryz.prog.unfollowed 11) : Bool) = true := by kernel_rfl
theorem statTopF11 : ((Rows.statTopRow.recurses == Tryz.prog.recurses 11) : Bool) = true := by kernel_rfl
theorem statTopF12 : ((Rows.statTopRow.named == Tryz.prog.varsNamed 11) : Bool) = true := by kernel_rfl
theorem statTopF13 : ((Rows.statTopRow.maps == (Tryz.f11.params.toList ++ Rows.statTopSpec.plain.varTypes Tryz.prog).any (Tryz.prog.mapsRec ·)) : Bool) = true := by kernel_rfl
theorem statTopF14 : ((Rows.statTopRow.ifaces == (Tryz.f11.params.toList ++ Rows.statTopSpec.plain.varTypes Tryz.prog).any (Tryz.prog.ifacesRec ·)) : Bool) = true := by kernel_rfl
theorem statTopF15 : ((Rows.statTopRow.mapsOut == Tryz.prog.mapsAmong Tryz.f11.resultTypes.toList) : Bool) = true := by kernel_rfl
theorem statTopF16 : ((Rows.statTopRow.loops == (Tryz.f11.params.toList ++ Rows.statTopSpec.plain.varTypes Tryz.prog).any (Tryz.prog.loopsFrom ·)) : Bool) = true := by kernel_rfl
theorem statTopF17 : ((Rows.statTopRow.wideKeys == (Tryz.f11.params.toList ++ Rows.statTopSpec.plain.varTypes Tryz.prog ++ Tryz.f11.resultTypes.toList).any (Tryz.prog.wideKeysFrom ·)) : Bool) = true := by kernel_rfl
theorem statTopF18 : (Rows.statTopSpec.vars.all (Tryz.prog.varReadable ·) : Bool) = true := by kernel_rfl
theorem statTopF19 : (Tryz.f11.resultTypes.all (fun t => Tryz.prog.readableRec t && decide (t < Tryz.prog.types.size)) : Bool) = true := by kernel_rfl
theorem statTopF20 : ((Rows.statTopRow.ifacesOut == Tryz.f11.resultTypes.toList.any (Tryz.prog.ifacesRec ·)) : Bool) = true := by kernel_rfl
theorem statTopF21 : ((Rows.statTopRow.loopsOut == Tryz.f11.resultTypes.toList.any (Tryz.prog.loopsFrom ·)) : Bool) = true := by kernel_rfl
theorem statTopF22 : ((Rows.statTopRow.plainKeys == Tryz.prog.plainKeys) : Bool) = true := by kernel_rfl
theorem statTopF23 : (Rows.statTopRow.shortTexts.isNone : Bool) = true := by kernel_rfl
theorem statTopF24 : Tryz.prog.stopsHeard = true := heard
theorem statTopF25 : Tryz.prog.mayEnter = true := enters
theorem statTopF26 : ((Rows.statTopRow.lifted == Tryz.prog.liftsFinal) : Bool) = true := by kernel_rfl
theorem statTopF27 : ((Tryz.prog.make == some Rows.statTopRow.make) : Bool) = true := by kernel_rfl
theorem statTopF28 : ((Rows.statTopRow.kinds == (if Rows.statTopRow.domain.isEmpty then [] else Tryz.f11.params.toList.map fun t => match Tryz.prog.underlying t with | some (.int k) => some k | _ => none)) : Bool) = true := by kernel_rfl
theorem statTopF29 : ((Rows.statTopRow.pinned == Rows.statTopRow.pinnedBy) : Bool) = true := by kernel_rfl
theorem statTopF30 : ((Rows.statTopRow.veiled == (Tryz.f11.params.toList ++ Rows.statTopSpec.plain.varTypes Tryz.prog ++ Tryz.f11.resultTypes.toList).any (Tryz.prog.veiledRec ·)) : Bool) = true := by kernel_rfl
theorem statTopF31 : (Rows.statTopRow.veiledFits Tryz.prog Tryz.f11.params.toList (Tryz.f11.params.toList ++ Rows.statTopSpec.plain.varTypes Tryz.prog ++ Tryz.f11.resultTypes.toList) : Bool) = true := by kernel_rfl
theorem statTopJ : joinedFacts Tryz.prog 11 Tryz.f11 Rows.statTopSpec Rows.statTopRow = true := (and2 (and2 (and2 (and2 (and2 (and2 (and2 (and2 (and2 (and2 (and2 (and2 (and2 (and2 (and2 (and2 (and2 (and2 (and2 (and2 (and2 (and2 (and2 (and2 (and2 (and2 (and2 (and2 (and2 (and2 (and2 statTopF0 laidOut) statTopF2) statTopF3) statTopF4) statTopF5) statTopF6) statTopF7) statTopF8) statTopF9) statTopF10) statTopF11) statTopF12) statTopF13) statTopF14) statTopF15) statTopF16) statTopF17) statTopF18) statTopF19) statTopF20) statTopF21) statTopF22) statTopF23) statTopF24) statTopF25) statTopF26) statTopF27) statTopF28) statTopF29) statTopF30) statTopF31)
end Go.Proofs.YtjolcimbcbcahaaGreatDoor
