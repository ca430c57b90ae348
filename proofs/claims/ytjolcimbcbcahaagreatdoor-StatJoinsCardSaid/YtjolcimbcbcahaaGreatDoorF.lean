/- The closed facts of the row; no condition. -/
import Derived.Test.YtjolcimbcbcahaaGreatDoorFc
import Derived.Test.YtjolcimbcbcahaaGreatDoorRows
import Derived.JoinedOf
import Derived.KernelRfl
set_option linter.unusedSectionVars false
set_option linter.unusedVariables false
set_option linter.unusedSimpArgs false
set_option linter.unnecessarySimpa false
namespace Go.Proofs.YtjolcimbcbcahaaGreatDoor
open Go
set_option maxRecDepth 100000
theorem AsZ : (Rows.statJoinsRow.wf (OpenSpec.ofChange Rows.statJoinsSpec) : Bool) = true := by kernel_rfl
theorem AsY : mapsRowed Tryz.prog = true := mapsOk
theorem AsX : (Tryz.f9.params.all (Tryz.prog.readableRec ·) : Bool) = true := by kernel_rfl
theorem AsW : (namedTie Tryz.prog Rows.statJoinsRow.named Rows.statJoinsSpec.vars : Bool) = true := by kernel_rfl
theorem AsV : ((Rows.statJoinsRow.stops == []) : Bool) = true := by kernel_rfl
theorem AsU : (Tryz.prog.stops == []) = true := noStops
theorem AsT : ((Rows.statJoinsRow.knobs == []) : Bool) = true := by kernel_rfl
theorem AsS : (Tryz.prog.stopKnobs == []) = true := noKnobs
theorem AsR : ((Rows.statJoinsRow.inPlace == Tryz.prog.inPlace 9) : Bool) = true := by kernel_rfl
theorem AqI : ((Rows.statJoinsRow.unfollowed == Tryz.prog.unfollowed 9) : Bool) = true := by kernel_rfl
theorem AqH : ((Rows.statJoinsRow.recurses == Tryz.prog.recurses 9) : Bool) = true := by kernel_rfl
theorem AqG : ((Rows.statJoinsRow.named == Tryz.prog.varsNamed 9) : Bool) = true := by kernel_rfl
theorem AqF : ((Rows.statJoinsRow.maps == (Tryz.f9.params.toList ++ Rows.statJoinsSpec.plain.varTypes Tryz.prog).any (Tryz.prog.mapsRec ·)) : Bool) = true := by kernel_rfl
theorem AqE : ((Rows.statJoinsRow.ifaces == (Tryz.f9.params.toList ++ Rows.statJoinsSpec.plain.varTypes Tryz.prog).any (Tryz.prog.ifacesRec ·)) : Bool) = true := by kernel_rfl
theorem AqD : ((Rows.statJoinsRow.mapsOut == Tryz.prog.mapsAmong Tryz.f9.resultTypes.toList) : Bool) = true := by kernel_rfl
theorem AqC : ((Rows.statJoinsRow.loops == (Tryz.f9.params.toList ++ Rows.statJoinsSpec.plain.varTypes Tryz.prog).any (Tryz.prog.loopsFrom ·)) : Bool) = true := by kernel_rfl
theorem AqB : ((Rows.statJoinsRow.wideKeys == (Tryz.f9.params.toList ++ Rows.statJoinsSpec.plain.varTypes Tryz.prog ++ Tryz.f9.resultTypes.toList).any (Tryz.prog.wideKeysFrom ·)) : Bool) = true := by kernel_rfl
theorem AqA : (Rows.statJoinsSpec.vars.all (Tryz.prog.varReadable ·) : Bool) = true := by kernel_rfl
theorem Aqz : (Tryz.f9.resultTypes.all (fun t => Tryz.prog.readableRec t && decide (t < Tryz.prog.types.size)) : Bool) = true := by kernel_rfl
theorem Aqy : ((Rows.statJoinsRow.ifacesOut == Tryz.f9.resultTypes.toList.any (Tryz.prog.ifacesRec ·)) : Bool) = true := by kernel_rfl
theorem Aqx : ((Rows.statJoinsRow.loopsOut == Tryz.f9.resultTypes.toList.any (Tryz.prog.loopsFrom ·)) : Bool) = true := by kernel_rfl
theorem Aqw : ((Rows.statJoinsRow.plainKeys == Tryz.prog.plainKeys) : Bool) = true := by kernel_rfl
theorem Aqv : (Rows.statJoinsRow.shortTexts.isNone : Bool) = true := by kernel_rfl
theorem Aqu : Tryz.prog.stopsHeard = true := heard
theorem Aqt : Tryz.prog.mayEnter = true := enters
theorem Aqs : ((Rows.statJoinsRow.lifted == Tryz.prog.liftsFinal) : Bool) = true := by kernel_rfl
theorem Aqr : ((Tryz.prog.make == some Rows.statJoinsRow.make) : Bool) = true := by kernel_rfl
theorem Aqq : ((Rows.statJoinsRow.kinds == (if Rows.statJoinsRow.domain.isEmpty then [] else Tryz.f9.params.toList.map fun t => match Tryz.prog.underlying t with | some (.int k) => some k | _ => none)) : Bool) = true := by kernel_rfl
theorem Aqp : ((Rows.statJoinsRow.pinned == Rows.statJoinsRow.pinnedBy) : Bool) = true := by kernel_rfl
theorem Aqo : ((Rows.statJoinsRow.veiled == (Tryz.f9.params.toList ++ Rows.statJoinsSpec.plain.varTypes Tryz.prog ++ Tryz.f9.resultTypes.toList).any (Tryz.prog.veiledRec ·)) : Bool) = true := by kernel_rfl
theorem Aqn : (Rows.statJoinsRow.veiledFits Tryz.prog Tryz.f9.params.toList (Tryz.f9.params.toList ++ Rows.statJoinsSpec.plain.varTypes Tryz.prog ++ Tryz.f9.resultTypes.toList) : Bool) = true := by kernel_rfl
theorem statJoinsJ : joinedFacts Tryz.prog 9 Tryz.f9 Rows.statJoinsSpec Rows.statJoinsRow = true := (and2 (and2 (and2 (and2 (and2 (and2 (and2 (and2 (and2 (and2 (and2 (and2 (and2 (and2 (and2 (and2 (and2 (and2 (and2 (and2 (and2 (and2 (and2 (and2 (and2 (and2 (and2 (and2 (and2 (and2 (and2 AsZ laidOut) AsY) AsX) AsW) AsV) AsU) AsT) AsS) AsR) AqI) AqH) AqG) AqF) AqE) AqD) AqC) AqB) AqA) Aqz) Aqy) Aqx) Aqw) Aqv) Aqu) Aqt) Aqs) Aqr) Aqq) Aqp) Aqo) Aqn)
end Go.Proofs.YtjolcimbcbcahaaGreatDoor
