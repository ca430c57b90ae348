/- The closed facts of the row; no condition. -/
import Derived.Test.YtjolcimbcbcahaaGreatDoorFc
import Derived.Test.YtjolcimbcbcahaaGreatDoorRows
import Derived.JoinedOf
import Derived.KernelRfl
set_option linter.unusedSectionVars false
set_option linter.unusedVariables false
set_option linter.unusedSimpArgs false
set_option linter.unnecessarySimpa false
namespace Go.Proofs.YtjolcimbcbcahaaGreatDoor
open Go
set_option maxRecDepth 100000
theorem AsZ : (Rows.statCountsRow.wf (OpenSpec.ofChange Rows.statCountsSpec) : Bool) = true := by kernel_rfl
theorem AsY : mapsRowed Tryz.prog = true := mapsOk
theorem AsX : (Tryz.f10.params.all (Tryz.prog.readableRec ·) : Bool) = true := by kernel_rfl
theorem AsW : (namedTie Tryz.prog Rows.statCountsRow.named Rows.statCountsSpec.vars : Bool) = true := by kernel_rfl
theorem AsV : ((Rows.statCountsRow.stops == []) : Bool) = true := by kernel_rfl
theorem AsU : (Tryz.prog.stops == []) = true := noStops
theorem AsT : ((Rows.statCountsRow.knobs == []) : Bool) = true := by kernel_rfl
theorem AsS : (Tryz.prog.stopKnobs == []) = true := noKnobs
theorem AsR : ((Rows.statCountsRow.inPlace == Tryz.prog.inPlace 10) : Bool) = true := by kernel_rfl
theorem AqI : ((Rows.statCountsRow.unfollowed == Tryz.prog.unfollowed 10) : Bool) = true := by kernel_rfl
theorem AqH : ((Rows.statCountsRow.recurses == Tryz.prog.recurses 10) : Bool) = true := by kernel_rfl
theorem AqG : ((Rows.statCountsRow.named == Tryz.prog.varsNamed 10) : Bool) = true := by kernel_rfl
theorem AqF : ((Rows.statCountsRow.maps == (Tryz.f10.params.toList ++ Rows.statCountsSpec.plain.varTypes Tryz.prog).any (Tryz.prog.mapsRec ·)) : Bool) = true := by kernel_rfl
theorem AqE : ((Rows.statCountsRow.ifaces == (Tryz.f10.params.toList ++ Rows.statCountsSpec.plain.varTypes Tryz.prog).any (Tryz.prog.ifacesRec ·)) : Bool) = true := by kernel_rfl
theorem AqD : ((Rows.statCountsRow.mapsOut == Tryz.prog.mapsAmong Tryz.f10.resultTypes.toList) : Bool) = true := by kernel_rfl
theorem AqC : ((Rows.statCountsRow.loops == (Tryz.f10.params.toList ++ Rows.statCountsSpec.plain.varTypes Tryz.prog).any (Tryz.prog.loopsFrom ·)) : Bool) = true := by kernel_rfl
theorem AqB : ((Rows.statCountsRow.wideKeys == (Tryz.f10.params.toList ++ Rows.statCountsSpec.plain.varTypes Tryz.prog ++ Tryz.f10.resultTypes.toList).any (Tryz.prog.wideKeysFrom ·)) : Bool) = true := by kernel_rfl
theorem AqA : (Rows.statCountsSpec.vars.all (Tryz.prog.varReadable ·) : Bool) = true := by kernel_rfl
theorem Aqz : (Tryz.f10.resultTypes.all (fun t => Tryz.prog.readableRec t && decide (t < Tryz.prog.types.size)) : Bool) = true := by kernel_rfl
theorem Aqy : ((Rows.statCountsRow.ifacesOut == Tryz.f10.resultTypes.toList.any (Tryz.prog.ifacesRec ·)) : Bool) = true := by kernel_rfl
theorem Aqx : ((Rows.statCountsRow.loopsOut == Tryz.f10.resultTypes.toList.any (Tryz.prog.loopsFrom ·)) : Bool) = true := by kernel_rfl
theorem Aqw : ((Rows.statCountsRow.plainKeys == Tryz.prog.plainKeys) : Bool) = true := by kernel_rfl
theorem Aqv : (Rows.statCountsRow.shortTexts.isNone : Bool) = true := by kernel_rfl
theorem Aqu : Tryz.prog.stopsHeard = true := heard
theorem Aqt : Tryz.prog.mayEnter = true := enters
theorem Aqs : ((Rows.statCountsRow.lifted == Tryz.prog.liftsFinal) : Bool) = true := by kernel_rfl
theorem Aqr : ((Tryz.prog.make == some Rows.statCountsRow.make) : Bool) = true := by kernel_rfl
theorem Aqq : ((Rows.statCountsRow.kinds == (if Rows.statCountsRow.domain.isEmpty then [] else Tryz.f10.params.toList.map fun t => match Tryz.prog.underlying t with | some (.int k) => some k | _ => none)) : Bool) = true := by kernel_rfl
theorem Aqp : ((Rows.statCountsRow.pinned == Rows.statCountsRow.pinnedBy) : Bool) = true := by kernel_rfl
theorem Aqo : ((Rows.statCountsRow.veiled == (Tryz.f10.params.toList ++ Rows.statCountsSpec.plain.varTypes Tryz.prog ++ Tryz.f10.resultTypes.toList).any (Tryz.prog.veiledRec ·)) : Bool) = true := by kernel_rfl
theorem Aqn : (Rows.statCountsRow.veiledFits Tryz.prog Tryz.f10.params.toList (Tryz.f10.params.toList ++ Rows.statCountsSpec.plain.varTypes Tryz.prog ++ Tryz.f10.resultTypes.toList) : Bool) = true := by kernel_rfl
theorem statCountsJ : joinedFacts Tryz.prog 10 Tryz.f10 Rows.statCountsSpec Rows.statCountsRow = true := (and2 (and2 (and2 (and2 (and2 (and2 (and2 (and2 (and2 (and2 (and2 (and2 (and2 (and2 (and2 (and2 (and2 (and2 (and2 (and2 (and2 (and2 (and2 (and2 (and2 (and2 (and2 (and2 (and2 (and2 (and2 AsZ laidOut) AsY) AsX) AsW) AsV) AsU) AsT) AsS) AsR) AqI) AqH) AqG) AqF) AqE) AqD) AqC) AqB) AqA) Aqz) Aqy) Aqx) Aqw) Aqv) Aqu) Aqt) Aqs) Aqr) Aqq) Aqp) Aqo) Aqn)
end Go.Proofs.YtjolcimbcbcahaaGreatDoor
