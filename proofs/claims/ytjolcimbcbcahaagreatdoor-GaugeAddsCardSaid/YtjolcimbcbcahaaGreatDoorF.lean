/- The closed facts of the row; no condition. -/
import Derived.Test.YtjolcimbcbcahaaGreatDoorFc
import Derived.Test.YtjolcimbcbcahaaGreatDoorRows
import Derived.JoinedOf
import Derived.KernelRfl
set_option linter.unusedSectionVars false
set_option linter.unusedVariables false
set_option linter.unusedSimpArgs false
set_option linter.unnecessarySimpa false
namespace Go.Proofs.YtjolcimbcbcahaaGreatDoor
open Go
set_option maxRecDepth 100000
theorem AwC : (Rows.gaugeAddsRow.wf (OpenSpec.ofChange Rows.gaugeAddsSpec) : Bool) = true := by kernel_rfl
theorem AwB : mapsRowed Tryz.prog = true := mapsOk
theorem AwA : (Tryz.f6.params.all (Tryz.prog.readableRec ·) : Bool) = true := by kernel_rfl
theorem Awz : (namedTie Tryz.prog Rows.gaugeAddsRow.named Rows.gaugeAddsSpec.vars : Bool) = true := by kernel_rfl
theorem Awy : ((Rows.gaugeAddsRow.stops == []) : Bool) = true := by kernel_rfl
theorem Awx : (Tryz.prog.stops == []) = true := noStops
theorem Aww : ((Rows.gaugeAddsRow.knobs == []) : Bool) = true := by kernel_rfl
theorem Awv : (Tryz.prog.stopKnobs == []) = true := noKnobs
theorem Awu : ((Rows.gaugeAddsRow.inPlace == Tryz.prog.inPlace 6) : Bool) = true := by kernel_rfl
theorem AtC : ((Rows.gaugeAddsRow.unfollowed == Tryz.prog.unfollowed 6) : Bool) = true := by kernel_rfl
theorem AtB : ((Rows.gaugeAddsRow.recurses == Tryz.prog.recurses 6) : Bool) = true := by kernel_rfl
theorem AtA : ((Rows.gaugeAddsRow.named == Tryz.prog.varsNamed 6) : Bool) = true := by kernel_rfl
theorem Atz : ((Rows.gaugeAddsRow.maps == (Tryz.f6.params.toList ++ Rows.gaugeAddsSpec.plain.varTypes Tryz.prog).any (Tryz.prog.mapsRec ·)) : Bool) = true := by kernel_rfl
theorem Aty : ((Rows.gaugeAddsRow.ifaces == (Tryz.f6.params.toList ++ Rows.gaugeAddsSpec.plain.varTypes Tryz.prog).any (Tryz.prog.ifacesRec ·)) : Bool) = true := by kernel_rfl
theorem Atx : ((Rows.gaugeAddsRow.mapsOut == Tryz.prog.mapsAmong Tryz.f6.resultTypes.toList) : Bool) = true := by kernel_rfl
theorem Atw : ((Rows.gaugeAddsRow.loops == (Tryz.f6.params.toList ++ Rows.gaugeAddsSpec.plain.varTypes Tryz.prog).any (Tryz.prog.loopsFrom ·)) : Bool) = true := by kernel_rfl
theorem Atv : ((Rows.gaugeAddsRow.wideKeys == (Tryz.f6.params.toList ++ Rows.gaugeAddsSpec.plain.varTypes Tryz.prog ++ Tryz.f6.resultTypes.toList).any (Tryz.prog.wideKeysFrom ·)) : Bool) = true := by kernel_rfl
theorem Atu : (Rows.gaugeAddsSpec.vars.all (Tryz.prog.varReadable ·) : Bool) = true := by kernel_rfl
theorem Att : (Tryz.f6.resultTypes.all (fun t => Tryz.prog.readableRec t && decide (t < Tryz.prog.types.size)) : Bool) = true := by kernel_rfl
theorem Ats : ((Rows.gaugeAddsRow.ifacesOut == Tryz.f6.resultTypes.toList.any (Tryz.prog.ifacesRec ·)) : Bool) = true := by kernel_rfl
theorem Atr : ((Rows.gaugeAddsRow.loopsOut == Tryz.f6.resultTypes.toList.any (Tryz.prog.loopsFrom ·)) : Bool) = true := by kernel_rfl
theorem Atq : ((Rows.gaugeAddsRow.plainKeys == Tryz.prog.plainKeys) : Bool) = true := by kernel_rfl
theorem Atp : (Rows.gaugeAddsRow.shortTexts.isNone : Bool) = true := by kernel_rfl
theorem Ato : Tryz.prog.stopsHeard = true := heard
theorem Atn : Tryz.prog.mayEnter = true := enters
theorem Atm : ((Rows.gaugeAddsRow.lifted == Tryz.prog.liftsFinal) : Bool) = true := by kernel_rfl
theorem Atl : ((Tryz.prog.make == some Rows.gaugeAddsRow.make) : Bool) = true := by kernel_rfl
theorem Atk : ((Rows.gaugeAddsRow.kinds == (if Rows.gaugeAddsRow.domain.isEmpty then [] else Tryz.f6.params.toList.map fun t => match Tryz.prog.underlying t with | some (.int k) => some k | _ => none)) : Bool) = true := by kernel_rfl
theorem Atj : ((Rows.gaugeAddsRow.pinned == Rows.gaugeAddsRow.pinnedBy) : Bool) = true := by kernel_rfl
theorem Ati : ((Rows.gaugeAddsRow.veiled == (Tryz.f6.params.toList ++ Rows.gaugeAddsSpec.plain.varTypes Tryz.prog ++ Tryz.f6.resultTypes.toList).any (Tryz.prog.veiledRec ·)) : Bool) = true := by kernel_rfl
theorem Ath : (Rows.gaugeAddsRow.veiledFits Tryz.prog Tryz.f6.params.toList (Tryz.f6.params.toList ++ Rows.gaugeAddsSpec.plain.varTypes Tryz.prog ++ Tryz.f6.resultTypes.toList) : Bool) = true := by kernel_rfl
theorem gaugeAddsJ : joinedFacts Tryz.prog 6 Tryz.f6 Rows.gaugeAddsSpec Rows.gaugeAddsRow = true := (and2 (and2 (and2 (and2 (and2 (and2 (and2 (and2 (and2 (and2 (and2 (and2 (and2 (and2 (and2 (and2 (and2 (and2 (and2 (and2 (and2 (and2 (and2 (and2 (and2 (and2 (and2 (and2 (and2 (and2 (and2 AwC laidOut) AwB) AwA) Awz) Awy) Awx) Aww) Awv) Awu) AtC) AtB) AtA) Atz) Aty) Atx) Atw) Atv) Atu) Att) Ats) Atr) Atq) Atp) Ato) Atn) Atm) Atl) Atk) Atj) Ati) Ath)
end Go.Proofs.YtjolcimbcbcahaaGreatDoor
