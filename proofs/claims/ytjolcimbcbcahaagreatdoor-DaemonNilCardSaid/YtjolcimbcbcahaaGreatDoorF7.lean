/- The closed facts of the row; no condition. -/
import Derived.Test.YtjolcimbcbcahaaGreatDoorFc
import Derived.Test.YtjolcimbcbcahaaGreatDoorRows
import Derived.JoinedOf
import Derived.KernelRfl
set_option linter.unusedSectionVars false
set_option linter.unusedVariables false
set_option linter.unusedSimpArgs false
set_option linter.unnecessarySimpa false

namespace Go.Proofs.YtjolcimbcbcahaaGreatDoor
open Go
set_option maxRecDepth 100000
theorem daemonNilF0 : (Rows.daemonNilRow.wf (OpenSpec.ofChange Rows.daemonNilSpec) : Bool) = true := by kernel_rfl
theorem daemonNilF2 : mapsRowed Tryz.prog = true := mapsOk
theorem daemonNilF3 : (Tryz.f7.params.all (Tryz.prog.readableRec ·) : Bool) = true := by kernel_rfl
theorem daemonNilF4 : (namedTie Tryz.prog Rows.daemonNilRow.named Rows.daemonNilSpec.vars : Bool) = true := by kernel_rfl
theorem daemonNilF5 : ((Rows.daemonNilRow.stops == []) : Bool) = true := by kernel_rfl
theorem daemonNilF6 : (Tryz.prog.stops == []) = true := noStops
theorem daemonNilF7 : ((Rows.daemonNilRow.knobs == []) : Bool) = true := by kernel_rfl
theorem daemonNilF8 : (Tryz.prog.stopKnobs == []) = true := noKnobs
theorem daemonNilF9 : ((Rows.daemonNilRow.inPlace == Tryz.prog.inPlace 7) : Bool) = true := by kernel_rfl
theorem daemonNilF10 : ((Rows.daemonNilRow.unfollowed == Tryz.prog.unfollowed 7) : Bool) = true := by kernel_rfl
theorem daemonNilF11 : ((Rows.daemonNilRow.recurses == Tryz.prog.recurses 7) : Bool) = true := by kernel_rfl
theorem daemonNilF12 : ((Rows.daemonNilRow.named == Tryz.prog.varsNamed 7) : Bool) = true := by kernel_rfl
theorem daemonNilF13 : ((Rows.daemonNilRow.maps == (Tryz.f7.params.toList ++ Rows.daemonNilSpec.plain.varTypes Tryz.prog).any (Tryz.prog.mapsRec ·)) : Bool) = true := by kernel_rfl
theorem daemonNilF14 : ((Rows.daemonNilRow.ifaces == (Tryz.f7.params.toList ++ Rows.daemonNilSpec.plain.varTypes Tryz.prog).any (Tryz.prog.ifacesRec ·)) : Bool) = true := by kernel_rfl
theorem daemonNilF15 : ((Rows.daemonNilRow.mapsOut == Tryz.prog.mapsAmong Tryz.f7.resultTypes.toList) : Bool) = true := by kernel_rfl
theorem daemonNilF16 : ((Rows.daemonNilRow.loops == (Tryz.f7.params.toList ++ Rows.daemonNilSpec.plain.varTypes Tryz.prog).any (Tryz.prog.loopsFrom ·)) : Bool) = true := by kernel_rfl
theorem daemonNilF17 : ((Rows.daemonNilRow.wideKeys == (Tryz.f7.params.toList ++ Rows.daemonNilSpec.plain.varTypes Tryz.prog ++ Tryz.f7.resultTypes.toList).any (Tryz.prog.wideKeysFrom ·)) : Bool) = true := by kernel_rfl
theorem daemonNilF18 : (Rows.daemonNilSpec.vars.all (Tryz.prog.varReadable ·) : Bool) = true := by kernel_rfl
theorem daemonNilF19 : (Tryz.f7.resultTypes.all (fun t => Tryz.prog.readableRec t && decide (t < Tryz.prog.types.size)) : Bool) = true := by kernel_rfl
theorem daemonNilF20 : ((Rows.daemonNilRow.ifacesOut == Tryz.f7.resultTypes.toList.any (Tryz.prog.ifacesRec ·)) : Bool) = true := by kernel_rfl
theorem daemonNilF21 : ((Rows.daemonNilRow.loopsOut == Tryz.f7.resultTypes.toList.any (Tryz.prog.loopsFrom ·)) : Bool) = true := by kernel_rfl
theorem daemonNilF22 : ((Rows.daemonNilRow.plainKeys == Tryz.prog.plainKeys) : Bool) = true := by kernel_rfl
theorem daemonNilF23 : (Rows.daemonNilRow.shortTexts.isNone : Bool) = true := by kernel_rfl
theorem daemonNilF24 : Tryz.prog.stopsHeard = true := heard
theorem daemonNilF25 : Tryz.prog.mayEnter = true := enters
theorem daemonNilF26 : ((Rows.daemonNilRow.lifted == Tryz.prog.liftsFinal) : Bool) = true := by kernel_rfl
theorem daemonNilF27 : ((Tryz.prog.make == some Rows.daemonNilRow.make) : Bool) = true := by kernel_rfl
theorem daemonNilF28 : ((Rows.daemonNilRow.kinds == (if Rows.daemonNilRow.domain.isEmpty then [] else Tryz.f7.params.toList.map fun t => match Tryz.prog.underlying t with | some (.int k) => some k | _ => none)) : Bool) = true := by kernel_rfl
theorem daemonNilF29 : ((Rows.daemonNilRow.pinned == Rows.daemonNilRow.pinnedBy) : Bool) = true := by kernel_rfl
theorem daemonNilF30 : ((Rows.daemonNilRow.veiled == (Tryz.f7.params.toList ++ Rows.daemonNilSpec.plain.varTypes Tryz.prog ++ Tryz.f7.resultTypes.toList).any (Tryz.prog.veiledRec ·)) : Bool) = true := by kernel_rfl
theorem daemonNilF31 : (Rows.daemonNilRow.veiledFits Tryz.prog Tryz.f7.params.toList (Tryz.f7.params.toList ++ Rows.daemonNilSpec.plain.varTypes Tryz.prog ++ Tryz.f7.resultTypes.toList) : Bool) = true := by kernel_rfl
theorem daemonNilJ : joinedFacts Tryz.prog 7 Tryz.f7 Rows.daemonNilSpec Rows.daemonNilRow = true := (and2 (and2 (and2 (and2 (and2 (and2 (and2 (and2 (and2 (and2 (and2 (and2 (and2 (and2 (and2 (and2 (and2 (and2 (and2 (and2 (and2 (and2 (and2 (and2 (and2 (and2 (and2 (and2 (and2 (and2 (and2 daemonNilF0 laidOut) daemonNilF2) daemonNilF3) daemonNilF4) daemonNilF5) daemonNilF6) daemonNilF7) daemonNilF8) daemonNilF9) daemonNilF10) daemonNilF11) daemonNilF12) daemonNilF13) daemonNilF14) daemonNilF15) daemonNilF16) daemonNilF17) daemonNilF18) daemonNilF19) daemonNilF20) daemonNilF21) daemonNilF22) daemonNilF23) daemonNilF24) daemonNilF25) daemonNilF26) daemonNilF27) daemonNilF28) daemonNilF29) daemonNilF30) daemonNilF31)
end Go.Proofs.YtjolcimbcbcahaaGreatDoor
