/- The closed facts of the row; no condition. -/
import Derived.Test.YtjolcimbcbcahaaGreatDoorFc
import Derived.Test.YtjolcimbcbcahaaGreatDoorRows
import Derived.JoinedOf
import Derived.KernelRfl
set_option linter.unusedSectionVars false
set_option linter.unusedVariables false
set_option linter.unusedSimpArgs false
set_option linter.unnecessarySimpa false
namespace Go.Proofs.YtjolcimbcbcahaaGreatDoor
open Go
set_option maxRecDepth 100000
theorem AsZ : (Rows.statRatesRow.wf (OpenSpec.ofChange Rows.statRatesSpec) : Bool) = true := by kernel_rfl
theorem AsY : mapsRowed Tryz.prog = true := mapsOk
theorem AsX : (Tryz.f8.params.all (Tryz.prog.readableRec ·) : Bool) = true := by kernel_rfl
theorem AsW : (namedTie Tryz.prog Rows.statRatesRow.named Rows.statRatesSpec.vars : Bool) = true := by kernel_rfl
theorem AsV : ((Rows.statRatesRow.stops == []) : Bool) = true := by kernel_rfl
theorem AsU : (Tryz.prog.stops == []) = true := noStops
theorem AsT : ((Rows.statRatesRow.knobs == []) : Bool) = true := by kernel_rfl
theorem AsS : (Tryz.prog.stopKnobs == []) = true := noKnobs
theorem AsR : ((Rows.statRatesRow.inPlace == Tryz.prog.inPlace 8) : Bool) = true := by kernel_rfl
theorem AqI : ((Rows.statRatesRow.unfollowed == Tryz.prog.unfollowed 8) : Bool) = true := by kernel_rfl
theorem AqH : ((Rows.statRatesRow.recurses == Tryz.prog.recurses 8) : Bool) = true := by kernel_rfl
theorem AqG : ((Rows.statRatesRow.named == Tryz.prog.varsNamed 8) : Bool) = true := by kernel_rfl
theorem AqF : ((Rows.statRatesRow.maps == (Tryz.f8.params.toList ++ Rows.statRatesSpec.plain.varTypes Tryz.prog).any (Tryz.prog.mapsRec ·)) : Bool) = true := by kernel_rfl
theorem AqE : ((Rows.statRatesRow.ifaces == (Tryz.f8.params.toList ++ Rows.statRatesSpec.plain.varTypes Tryz.prog).any (Tryz.prog.ifacesRec ·)) : Bool) = true := by kernel_rfl
theorem AqD : ((Rows.statRatesRow.mapsOut == Tryz.prog.mapsAmong Tryz.f8.resultTypes.toList) : Bool) = true := by kernel_rfl
theorem AqC : ((Rows.statRatesRow.loops == (Tryz.f8.params.toList ++ Rows.statRatesSpec.plain.varTypes Tryz.prog).any (Tryz.prog.loopsFrom ·)) : Bool) = true := by kernel_rfl
theorem AqB : ((Rows.statRatesRow.wideKeys == (Tryz.f8.params.toList ++ Rows.statRatesSpec.plain.varTypes Tryz.prog ++ Tryz.f8.resultTypes.toList).any (Tryz.prog.wideKeysFrom ·)) : Bool) = true := by kernel_rfl
theorem AqA : (Rows.statRatesSpec.vars.all (Tryz.prog.varReadable ·) : Bool) = true := by kernel_rfl
theorem Aqz : (Tryz.f8.resultTypes.all (fun t => Tryz.prog.readableRec t && decide (t < Tryz.prog.types.size)) : Bool) = true := by kernel_rfl
theorem Aqy : ((Rows.statRatesRow.ifacesOut == Tryz.f8.resultTypes.toList.any (Tryz.prog.ifacesRec ·)) : Bool) = true := by kernel_rfl
theorem Aqx : ((Rows.statRatesRow.loopsOut == Tryz.f8.resultTypes.toList.any (Tryz.prog.loopsFrom ·)) : Bool) = true := by kernel_rfl
theorem Aqw : ((Rows.statRatesRow.plainKeys == Tryz.prog.plainKeys) : Bool) = true := by kernel_rfl
theorem Aqv : (Rows.statRatesRow.shortTexts.isNone : Bool) = true := by kernel_rfl
theorem Aqu : Tryz.prog.stopsHeard = true := heard
theorem Aqt : Tryz.prog.mayEnter = true := enters
theorem Aqs : ((Rows.statRatesRow.lifted == Tryz.prog.liftsFinal) : Bool) = true := by kernel_rfl
theorem Aqr : ((Tryz.prog.make == some Rows.statRatesRow.make) : Bool) = true := by kernel_rfl
theorem Aqq : ((Rows.statRatesRow.kinds == (if Rows.statRatesRow.domain.isEmpty then [] else Tryz.f8.params.toList.map fun t => match Tryz.prog.underlying t with | some (.int k) => some k | _ => none)) : Bool) = true := by kernel_rfl
theorem Aqp : ((Rows.statRatesRow.pinned == Rows.statRatesRow.pinnedBy) : Bool) = true := by kernel_rfl
theorem Aqo : ((Rows.statRatesRow.veiled == (Tryz.f8.params.toList ++ Rows.statRatesSpec.plain.varTypes Tryz.prog ++ Tryz.f8.resultTypes.toList).any (Tryz.prog.veiledRec ·)) : Bool) = true := by kernel_rfl
theorem Aqn : (Rows.statRatesRow.veiledFits Tryz.prog Tryz.f8.params.toList (Tryz.f8.params.toList ++ Rows.statRatesSpec.plain.varTypes Tryz.prog ++ Tryz.f8.resultTypes.toList) : Bool) = true := by kernel_rfl
theorem statRatesJ : joinedFacts Tryz.prog 8 Tryz.f8 Rows.statRatesSpec Rows.statRatesRow = true := (and2 (and2 (and2 (and2 (and2 (and2 (and2 (and2 (and2 (and2 (and2 (and2 (and2 (and2 (and2 (and2 (and2 (and2 (and2 (and2 (and2 (and2 (and2 (and2 (and2 (and2 (and2 (and2 (and2 (and2 (and2 AsZ laidOut) AsY) AsX) AsW) AsV) AsU) AsT) AsS) AsR) AqI) AqH) AqG) AqF) AqE) AqD) AqC) AqB) AqA) Aqz) Aqy) Aqx) Aqw) Aqv) Aqu) Aqt) Aqs) Aqr) Aqq) Aqp) Aqo) Aqn)
end Go.Proofs.YtjolcimbcbcahaaGreatDoor
