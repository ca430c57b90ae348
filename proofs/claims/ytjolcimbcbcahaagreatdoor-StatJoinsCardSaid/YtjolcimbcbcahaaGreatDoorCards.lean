/-
  DERIVED. GIVEN WITH THE SEED: THE CARDS: each row of YtjolcimbcbcahaaGreatDoorRows.lean that lists a variable, with what it lists TIED to the program's text (the seventh form; the later family's looks); each row that meets fmt, with fmt's text TOLD by the authors' own Lean function (tested against real Go, not proved from fmt's source: count such statements apart). THE CARD IS WHAT COUNTS. Prove the row's statement (the work); the ties are given (YtjolcimbcbcahaaGreatDoorTie.lean); close each card by the builder's one call (the guide's Derived/Test/ToyasCard.lean, 'card_holds'). Laid BY PROGRAM, IN A SANDBOX (cutbox-door.mjs). By AI agents, Wed Nov 11 2026. No macro, syntax, notation, axiom, sorry.
-/
import Derived.Test.YtjolcimbcbcahaaGreatDoorRows
import GoSem.ClaimSeven
namespace Go.Proofs.YtjolcimbcbcahaaGreatDoor
namespace Rows

/-- THE TIED CARD OF 'vagabondlaw30.GaugeShares'. -/
def gaugeSharesCard : Claim7 := { stood := { row := gaugeSharesRow, standIns := [], harness := (true, "a80582da563d6ae2b35efa3b93bc4712005edd266640da31b25e81a4bc983f96"), looks := false }, kinds := [], alts := [], laidByText := true, laidKinds := [.data, .data, .data, .data, .pinned, .pinned], laidTests := true, laidLooks := .later }
def GaugeSharesCardSaid : Prop := Claim7.holds Tryz.pinned (.plain (OpenSpec.ofChange gaugeSharesSpec)) gaugeSharesCard

/-- THE TIED CARD OF 'vagabondlaw30.GaugeOrders'. -/
def gaugeOrdersCard : Claim7 := { stood := { row := gaugeOrdersRow, standIns := [], harness := (true, "a80582da563d6ae2b35efa3b93bc4712005edd266640da31b25e81a4bc983f96"), looks := false }, kinds := [], alts := [], laidByText := true, laidKinds := [.data, .data, .data, .data, .pinned, .pinned], laidTests := true, laidLooks := .later }
def GaugeOrdersCardSaid : Prop := Claim7.holds Tryz.pinned (.plain (OpenSpec.ofChange gaugeOrdersSpec)) gaugeOrdersCard

/-- THE TIED CARD OF 'vagabondlaw30.GaugeJoins'. -/
def gaugeJoinsCard : Claim7 := { stood := { row := gaugeJoinsRow, standIns := [], harness := (true, "a80582da563d6ae2b35efa3b93bc4712005edd266640da31b25e81a4bc983f96"), looks := false }, kinds := [], alts := [], laidByText := true, laidKinds := [.data, .data, .data, .data, .pinned, .pinned], laidTests := true, laidLooks := .later }
def GaugeJoinsCardSaid : Prop := Claim7.holds Tryz.pinned (.plain (OpenSpec.ofChange gaugeJoinsSpec)) gaugeJoinsCard

/-- THE TIED CARD OF 'vagabondlaw30.GaugeAdds'. -/
def gaugeAddsCard : Claim7 := { stood := { row := gaugeAddsRow, standIns := [], harness := (true, "a80582da563d6ae2b35efa3b93bc4712005edd266640da31b25e81a4bc983f96"), looks := false }, kinds := [], alts := [], laidByText := true, laidKinds := [.data, .data, .data, .data, .pinned, .pinned], laidTests := true, laidLooks := .later }
def GaugeAddsCardSaid : Prop := Claim7.holds Tryz.pinned (.plain (OpenSpec.ofChange gaugeAddsSpec)) gaugeAddsCard

/-- THE TIED CARD OF 'vagabondlaw26.DaemonNil'. -/
def daemonNilCard : Claim7 := { stood := { row := daemonNilRow, standIns := [], harness := (true, "a80582da563d6ae2b35efa3b93bc4712005edd266640da31b25e81a4bc983f96"), looks := false }, kinds := [], alts := [], laidByText := true, laidKinds := [.data, .data, .data, .data, .pinned, .pinned], laidTests := true, laidLooks := .later }
def DaemonNilCardSaid : Prop := Claim7.holds Tryz.pinned (.plain (OpenSpec.ofChange daemonNilSpec)) daemonNilCard

/-- THE TIED CARD OF 'vagabondlaw34.StatRates'. -/
def statRatesCard : Claim7 := { stood := { row := statRatesRow, standIns := [], harness := (true, "a80582da563d6ae2b35efa3b93bc4712005edd266640da31b25e81a4bc983f96"), looks := false }, kinds := [], alts := [], laidByText := true, laidKinds := [.data, .data, .data, .data, .listed, .data, .pinned, .pinned], laidTests := true, laidLooks := .later }
def StatRatesCardSaid : Prop := Claim7.holds Tryz.pinned (.plain (OpenSpec.ofChange statRatesSpec)) statRatesCard

/-- THE TIED CARD OF 'vagabondlaw34.StatJoins'. -/
def statJoinsCard : Claim7 := { stood := { row := statJoinsRow, standIns := [], harness := (true, "a80582da563d6ae2b35efa3b93bc4712005edd266640da31b25e81a4bc983f96"), looks := false }, kinds := [], alts := [], laidByText := true, laidKinds := [.data, .data, .data, .data, .listed, .data, .pinned, .pinned], laidTests := true, laidLooks := .later }
def StatJoinsCardSaid : Prop := Claim7.holds Tryz.pinned (.plain (OpenSpec.ofChange statJoinsSpec)) statJoinsCard

/-- THE TIED CARD OF 'vagabondlaw34.StatCounts'. -/
def statCountsCard : Claim7 := { stood := { row := statCountsRow, standIns := [], harness := (true, "a80582da563d6ae2b35efa3b93bc4712005edd266640da31b25e81a4bc983f96"), looks := false }, kinds := [], alts := [], laidByText := true, laidKinds := [.data, .data, .data, .data, .listed, .data, .pinned, .pinned], laidTests := true, laidLooks := .later }
def StatCountsCardSaid : Prop := Claim7.holds Tryz.pinned (.plain (OpenSpec.ofChange statCountsSpec)) statCountsCard

/-- THE TIED CARD OF 'vagabondlaw34.StatTop'. -/
def statTopCard : Claim7 := { stood := { row := statTopRow, standIns := [], harness := (true, "a80582da563d6ae2b35efa3b93bc4712005edd266640da31b25e81a4bc983f96"), looks := false }, kinds := [], alts := [], laidByText := true, laidKinds := [.data, .data, .data, .data, .listed, .data, .pinned, .pinned], laidTests := true, laidLooks := .later }
def StatTopCardSaid : Prop := Claim7.holds Tryz.pinned (.plain (OpenSpec.ofChange statTopSpec)) statTopCard

/-- THE SECOND FORM's CARD OF 'vagabondlaw30.GaugeShares'. -/
def gaugeSharesUptoCard : Claim7 := { stood := { row := gaugeSharesUptoRow, standIns := [], harness := (true, "a80582da563d6ae2b35efa3b93bc4712005edd266640da31b25e81a4bc983f96"), looks := false }, kinds := [], alts := [], laidByText := true, laidKinds := [.data, .data, .data, .data, .pinned, .pinned], laidTests := true, laidLooks := .later }
def GaugeSharesUptoCardSaid : Prop := Claim7.holds Tryz.pinned (.plain (OpenSpec.upto gaugeSharesSpec)) gaugeSharesUptoCard

/-- THE SECOND FORM's CARD OF 'vagabondlaw30.GaugeOrders'. -/
def gaugeOrdersUptoCard : Claim7 := { stood := { row := gaugeOrdersUptoRow, standIns := [], harness := (true, "a80582da563d6ae2b35efa3b93bc4712005edd266640da31b25e81a4bc983f96"), looks := false }, kinds := [], alts := [], laidByText := true, laidKinds := [.data, .data, .data, .data, .pinned, .pinned], laidTests := true, laidLooks := .later }
def GaugeOrdersUptoCardSaid : Prop := Claim7.holds Tryz.pinned (.plain (OpenSpec.upto gaugeOrdersSpec)) gaugeOrdersUptoCard

/-- THE SECOND FORM's CARD OF 'vagabondlaw30.GaugeJoins'. -/
def gaugeJoinsUptoCard : Claim7 := { stood := { row := gaugeJoinsUptoRow, standIns := [], harness := (true, "a80582da563d6ae2b35efa3b93bc4712005edd266640da31b25e81a4bc983f96"), looks := false }, kinds := [], alts := [], laidByText := true, laidKinds := [.data, .data, .data, .data, .pinned, .pinned], laidTests := true, laidLooks := .later }
def GaugeJoinsUptoCardSaid : Prop := Claim7.holds Tryz.pinned (.plain (OpenSpec.upto gaugeJoinsSpec)) gaugeJoinsUptoCard

/-- THE SECOND FORM's CARD OF 'vagabondlaw30.GaugeAdds'. -/
def gaugeAddsUptoCard : Claim7 := { stood := { row := gaugeAddsUptoRow, standIns := [], harness := (true, "a80582da563d6ae2b35efa3b93bc4712005edd266640da31b25e81a4bc983f96"), looks := false }, kinds := [], alts := [], laidByText := true, laidKinds := [.data, .data, .data, .data, .pinned, .pinned], laidTests := true, laidLooks := .later }
def GaugeAddsUptoCardSaid : Prop := Claim7.holds Tryz.pinned (.plain (OpenSpec.upto gaugeAddsSpec)) gaugeAddsUptoCard

/-- THE SECOND FORM's CARD OF 'vagabondlaw26.DaemonNil'. -/
def daemonNilUptoCard : Claim7 := { stood := { row := daemonNilUptoRow, standIns := [], harness := (true, "a80582da563d6ae2b35efa3b93bc4712005edd266640da31b25e81a4bc983f96"), looks := false }, kinds := [], alts := [], laidByText := true, laidKinds := [.data, .data, .data, .data, .pinned, .pinned], laidTests := true, laidLooks := .later }
def DaemonNilUptoCardSaid : Prop := Claim7.holds Tryz.pinned (.plain (OpenSpec.upto daemonNilSpec)) daemonNilUptoCard

/-- THE SECOND FORM's CARD OF 'vagabondlaw34.StatRates'. -/
def statRatesUptoCard : Claim7 := { stood := { row := statRatesUptoRow, standIns := [], harness := (true, "a80582da563d6ae2b35efa3b93bc4712005edd266640da31b25e81a4bc983f96"), looks := false }, kinds := [], alts := [], laidByText := true, laidKinds := [.data, .data, .data, .data, .listed, .data, .pinned, .pinned], laidTests := true, laidLooks := .later }
def StatRatesUptoCardSaid : Prop := Claim7.holds Tryz.pinned (.plain (OpenSpec.upto statRatesSpec)) statRatesUptoCard

/-- THE SECOND FORM's CARD OF 'vagabondlaw34.StatJoins'. -/
def statJoinsUptoCard : Claim7 := { stood := { row := statJoinsUptoRow, standIns := [], harness := (true, "a80582da563d6ae2b35efa3b93bc4712005edd266640da31b25e81a4bc983f96"), looks := false }, kinds := [], alts := [], laidByText := true, laidKinds := [.data, .data, .data, .data, .listed, .data, .pinned, .pinned], laidTests := true, laidLooks := .later }
def StatJoinsUptoCardSaid : Prop := Claim7.holds Tryz.pinned (.plain (OpenSpec.upto statJoinsSpec)) statJoinsUptoCard

/-- THE SECOND FORM's CARD OF 'vagabondlaw34.StatCounts'. -/
def statCountsUptoCard : Claim7 := { stood := { row := statCountsUptoRow, standIns := [], harness := (true, "a80582da563d6ae2b35efa3b93bc4712005edd266640da31b25e81a4bc983f96"), looks := false }, kinds := [], alts := [], laidByText := true, laidKinds := [.data, .data, .data, .data, .listed, .data, .pinned, .pinned], laidTests := true, laidLooks := .later }
def StatCountsUptoCardSaid : Prop := Claim7.holds Tryz.pinned (.plain (OpenSpec.upto statCountsSpec)) statCountsUptoCard

/-- THE SECOND FORM's CARD OF 'vagabondlaw34.StatTop'. -/
def statTopUptoCard : Claim7 := { stood := { row := statTopUptoRow, standIns := [], harness := (true, "a80582da563d6ae2b35efa3b93bc4712005edd266640da31b25e81a4bc983f96"), looks := false }, kinds := [], alts := [], laidByText := true, laidKinds := [.data, .data, .data, .data, .listed, .data, .pinned, .pinned], laidTests := true, laidLooks := .later }
def StatTopUptoCardSaid : Prop := Claim7.holds Tryz.pinned (.plain (OpenSpec.upto statTopSpec)) statTopUptoCard
end Rows
end Go.Proofs.YtjolcimbcbcahaaGreatDoor
