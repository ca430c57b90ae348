/-
  DERIVED. GIVEN WITH THE SEED: THE CARDS: each row of YtiggilmfehhgaaaGreatDoorRows.lean that lists a variable, with what it lists TIED to the program's text (the seventh form; the later family's looks); each row that meets fmt, with fmt's text TOLD by the authors' own Lean function (tested against real Go, not proved from fmt's source: count such statements apart). THE CARD IS WHAT COUNTS. Prove the row's statement (the work); the ties are given (YtiggilmfehhgaaaGreatDoorTie.lean); close each card by the builder's one call (the guide's Derived/Test/ToyasCard.lean, 'card_holds'). Laid BY PROGRAM, IN A SANDBOX (cutbox-door.mjs). By AI agents, Wed Nov 11 2026. No macro, syntax, notation, axiom, sorry.
-/
import Derived.Test.YtiggilmfehhgaaaGreatDoorRows
import GoSem.ClaimSeven
namespace Go.Proofs.YtiggilmfehhgaaaGreatDoor
namespace Rows

/-- THE TIED CARD OF 'vagabondlaw32.ReportFrames'. -/
def reportFramesCard : Claim7 := { stood := { row := reportFramesRow, standIns := [], harness := (true, "29c74cb5a4824cccacd454d61f1bf2cf9c0ff8511c904826e54083e28fc60740"), looks := true }, kinds := [], alts := [], laidByText := true, laidKinds := [.data, .data, .data, .data, .pinned, .pinned], laidTests := true, laidLooks := .later }
def ReportFramesCardSaid : Prop := Claim7.holds Tryz.pinned (.plain (OpenSpec.ofChange reportFramesSpec)) reportFramesCard

/-- THE TIED CARD OF 'vagabondlaw26.DaemonMay'. -/
def daemonMayCard : Claim7 := { stood := { row := daemonMayRow, standIns := [], harness := (true, "29c74cb5a4824cccacd454d61f1bf2cf9c0ff8511c904826e54083e28fc60740"), looks := true }, kinds := [], alts := [], laidByText := true, laidKinds := [.data, .data, .data, .data, .pinned, .pinned], laidTests := true, laidLooks := .later }
def DaemonMayCardSaid : Prop := Claim7.holds Tryz.pinned (.plain (OpenSpec.ofChange daemonMaySpec)) daemonMayCard

/-- THE TIED CARD OF 'vagabondlaw33.AuditOrders'. -/
def auditOrdersCard : Claim7 := { stood := { row := auditOrdersRow, standIns := [], harness := (true, "29c74cb5a4824cccacd454d61f1bf2cf9c0ff8511c904826e54083e28fc60740"), looks := true }, kinds := [], alts := [], laidByText := true, laidKinds := [.data, .data, .data, .data, .pinned, .pinned], laidTests := true, laidLooks := .later }
def AuditOrdersCardSaid : Prop := Claim7.holds Tryz.pinned (.plain (OpenSpec.ofChange auditOrdersSpec)) auditOrdersCard

/-- THE TIED CARD OF 'vagabondlaw32.ReportTexts'. -/
def reportTextsCard : Claim7 := { stood := { row := reportTextsRow, standIns := [], harness := (true, "29c74cb5a4824cccacd454d61f1bf2cf9c0ff8511c904826e54083e28fc60740"), looks := true }, kinds := [], alts := [], laidByText := true, laidKinds := [.data, .data, .data, .data, .listed, .data, .pinned, .pinned], laidTests := true, laidLooks := .later }
def ReportTextsCardSaid : Prop := Claim7.holds Tryz.pinned (.plain (OpenSpec.ofChange reportTextsSpec)) reportTextsCard

/-- THE TIED CARD OF 'vagabondlaw28.WorldNil'. -/
def worldNilCard : Claim7 := { stood := { row := worldNilRow, standIns := [], harness := (true, "29c74cb5a4824cccacd454d61f1bf2cf9c0ff8511c904826e54083e28fc60740"), looks := true }, kinds := [], alts := [], laidByText := true, laidKinds := [.data, .data, .data, .data, .pinned, .pinned], laidTests := true, laidLooks := .later }
def WorldNilCardSaid : Prop := Claim7.holds Tryz.pinned (.plain (OpenSpec.ofChange worldNilSpec)) worldNilCard

/-- THE TIED CARD OF 'vagabondlaw31.ScriptLines'. -/
def scriptLinesCard : Claim7 := { stood := { row := scriptLinesRow, standIns := [], harness := (true, "29c74cb5a4824cccacd454d61f1bf2cf9c0ff8511c904826e54083e28fc60740"), looks := true }, kinds := [], alts := [], laidByText := true, laidKinds := [.data, .data, .data, .data, .data, .sentinel, .sentinel, .pinned, .pinned, .pinned], laidTests := true, laidLooks := .later }
def ScriptLinesCardSaid : Prop := Claim7.holds Tryz.pinned (.plain (OpenSpec.ofChange scriptLinesSpec)) scriptLinesCard

/-- THE TIED CARD OF 'vagabondlaw31.ScriptBack'. -/
def scriptBackCard : Claim7 := { stood := { row := scriptBackRow, standIns := [], harness := (true, "29c74cb5a4824cccacd454d61f1bf2cf9c0ff8511c904826e54083e28fc60740"), looks := true }, kinds := [], alts := [], laidByText := true, laidKinds := [.data, .data, .data, .data, .data, .sentinel, .sentinel, .pinned, .pinned, .pinned], laidTests := true, laidLooks := .later }
def ScriptBackCardSaid : Prop := Claim7.holds Tryz.pinned (.plain (OpenSpec.ofChange scriptBackSpec)) scriptBackCard

/-- THE TIED CARD OF 'vagabondlaw31.ScriptCuts'. -/
def scriptCutsCard : Claim7 := { stood := { row := scriptCutsRow, standIns := [], harness := (true, "29c74cb5a4824cccacd454d61f1bf2cf9c0ff8511c904826e54083e28fc60740"), looks := true }, kinds := [], alts := [], laidByText := true, laidKinds := [.data, .data, .data, .data, .data, .sentinel, .sentinel, .pinned, .pinned, .pinned], laidTests := true, laidLooks := .later }
def ScriptCutsCardSaid : Prop := Claim7.holds Tryz.pinned (.plain (OpenSpec.ofChange scriptCutsSpec)) scriptCutsCard

/-- THE SECOND FORM's CARD OF 'vagabondlaw32.ReportFrames'. -/
def reportFramesUptoCard : Claim7 := { stood := { row := reportFramesUptoRow, standIns := [], harness := (true, "29c74cb5a4824cccacd454d61f1bf2cf9c0ff8511c904826e54083e28fc60740"), looks := true }, kinds := [], alts := [], laidByText := true, laidKinds := [.data, .data, .data, .data, .pinned, .pinned], laidTests := true, laidLooks := .later }
def ReportFramesUptoCardSaid : Prop := Claim7.holds Tryz.pinned (.plain (OpenSpec.upto reportFramesSpec)) reportFramesUptoCard

/-- THE SECOND FORM's CARD OF 'vagabondlaw26.DaemonMay'. -/
def daemonMayUptoCard : Claim7 := { stood := { row := daemonMayUptoRow, standIns := [], harness := (true, "29c74cb5a4824cccacd454d61f1bf2cf9c0ff8511c904826e54083e28fc60740"), looks := true }, kinds := [], alts := [], laidByText := true, laidKinds := [.data, .data, .data, .data, .pinned, .pinned], laidTests := true, laidLooks := .later }
def DaemonMayUptoCardSaid : Prop := Claim7.holds Tryz.pinned (.plain (OpenSpec.upto daemonMaySpec)) daemonMayUptoCard

/-- THE SECOND FORM's CARD OF 'vagabondlaw33.AuditOrders'. -/
def auditOrdersUptoCard : Claim7 := { stood := { row := auditOrdersUptoRow, standIns := [], harness := (true, "29c74cb5a4824cccacd454d61f1bf2cf9c0ff8511c904826e54083e28fc60740"), looks := true }, kinds := [], alts := [], laidByText := true, laidKinds := [.data, .data, .data, .data, .pinned, .pinned], laidTests := true, laidLooks := .later }
def AuditOrdersUptoCardSaid : Prop := Claim7.holds Tryz.pinned (.plain (OpenSpec.upto auditOrdersSpec)) auditOrdersUptoCard

/-- THE SECOND FORM's CARD OF 'vagabondlaw32.ReportTexts'. -/
def reportTextsUptoCard : Claim7 := { stood := { row := reportTextsUptoRow, standIns := [], harness := (true, "29c74cb5a4824cccacd454d61f1bf2cf9c0ff8511c904826e54083e28fc60740"), looks := true }, kinds := [], alts := [], laidByText := true, laidKinds := [.data, .data, .data, .data, .listed, .data, .pinned, .pinned], laidTests := true, laidLooks := .later }
def ReportTextsUptoCardSaid : Prop := Claim7.holds Tryz.pinned (.plain (OpenSpec.upto reportTextsSpec)) reportTextsUptoCard

/-- THE SECOND FORM's CARD OF 'vagabondlaw28.WorldNil'. -/
def worldNilUptoCard : Claim7 := { stood := { row := worldNilUptoRow, standIns := [], harness := (true, "29c74cb5a4824cccacd454d61f1bf2cf9c0ff8511c904826e54083e28fc60740"), looks := true }, kinds := [], alts := [], laidByText := true, laidKinds := [.data, .data, .data, .data, .pinned, .pinned], laidTests := true, laidLooks := .later }
def WorldNilUptoCardSaid : Prop := Claim7.holds Tryz.pinned (.plain (OpenSpec.upto worldNilSpec)) worldNilUptoCard

/-- THE SECOND FORM's CARD OF 'vagabondlaw31.ScriptLines'. -/
def scriptLinesUptoCard : Claim7 := { stood := { row := scriptLinesUptoRow, standIns := [], harness := (true, "29c74cb5a4824cccacd454d61f1bf2cf9c0ff8511c904826e54083e28fc60740"), looks := true }, kinds := [], alts := [], laidByText := true, laidKinds := [.data, .data, .data, .data, .data, .sentinel, .sentinel, .pinned, .pinned, .pinned], laidTests := true, laidLooks := .later }
def ScriptLinesUptoCardSaid : Prop := Claim7.holds Tryz.pinned (.plain (OpenSpec.upto scriptLinesSpec)) scriptLinesUptoCard

/-- THE SECOND FORM's CARD OF 'vagabondlaw31.ScriptBack'. -/
def scriptBackUptoCard : Claim7 := { stood := { row := scriptBackUptoRow, standIns := [], harness := (true, "29c74cb5a4824cccacd454d61f1bf2cf9c0ff8511c904826e54083e28fc60740"), looks := true }, kinds := [], alts := [], laidByText := true, laidKinds := [.data, .data, .data, .data, .data, .sentinel, .sentinel, .pinned, .pinned, .pinned], laidTests := true, laidLooks := .later }
def ScriptBackUptoCardSaid : Prop := Claim7.holds Tryz.pinned (.plain (OpenSpec.upto scriptBackSpec)) scriptBackUptoCard

/-- THE SECOND FORM's CARD OF 'vagabondlaw31.ScriptCuts'. -/
def scriptCutsUptoCard : Claim7 := { stood := { row := scriptCutsUptoRow, standIns := [], harness := (true, "29c74cb5a4824cccacd454d61f1bf2cf9c0ff8511c904826e54083e28fc60740"), looks := true }, kinds := [], alts := [], laidByText := true, laidKinds := [.data, .data, .data, .data, .data, .sentinel, .sentinel, .pinned, .pinned, .pinned], laidTests := true, laidLooks := .later }
def ScriptCutsUptoCardSaid : Prop := Claim7.holds Tryz.pinned (.plain (OpenSpec.upto scriptCutsSpec)) scriptCutsUptoCard
end Rows
end Go.Proofs.YtiggilmfehhgaaaGreatDoor
