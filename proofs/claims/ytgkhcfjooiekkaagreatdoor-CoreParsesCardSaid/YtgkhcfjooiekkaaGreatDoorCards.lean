/-
  DERIVED. GIVEN WITH THE SEED: THE CARDS: each row of YtgkhcfjooiekkaaGreatDoorRows.lean that lists a variable, with what it lists TIED to the program's text (the seventh form; the later family's looks); each row that meets fmt, with fmt's text TOLD by the authors' own Lean function (tested against real Go, not proved from fmt's source: count such statements apart). THE CARD IS WHAT COUNTS. Prove the row's statement (the work); the ties are given (YtgkhcfjooiekkaaGreatDoorTie.lean); close each card by the builder's one call (the guide's Derived/Test/ToyasCard.lean, 'card_holds'). Laid BY PROGRAM, IN A SANDBOX (cutbox-door.mjs). By AI agents, Wed Nov 11 2026. No macro, syntax, notation, axiom, sorry.
-/
import Derived.Test.YtgkhcfjooiekkaaGreatDoorRows
import GoSem.ClaimSeven
namespace Go.Proofs.YtgkhcfjooiekkaaGreatDoor
namespace Rows

/-- THE TIED CARD OF 'restitchlaw08.CoreRuns'. -/
def coreRunsCard : Claim7 := { stood := { row := coreRunsRow, standIns := [], harness := (true, "455426ae17f5cebd1e869bbd2c7c15e1646e82f384eadf6ce8080b103650fe81"), looks := true }, kinds := [], alts := [], laidByText := true, laidKinds := [.data, .data, .data, .data, .sentinel, .sentinel, .pinned], laidTests := true, laidLooks := .later }
def CoreRunsCardSaid : Prop := Claim7.holds Tryz.pinned (.plain (OpenSpec.ofChange coreRunsSpec)) coreRunsCard

/-- THE TIED CARD OF 'restitchlaw08.CoreCalls'. -/
def coreCallsCard : Claim7 := { stood := { row := coreCallsRow, standIns := [], harness := (true, "455426ae17f5cebd1e869bbd2c7c15e1646e82f384eadf6ce8080b103650fe81"), looks := true }, kinds := [], alts := [], laidByText := true, laidKinds := [.data, .data, .data, .data, .sentinel, .sentinel, .pinned], laidTests := true, laidLooks := .later }
def CoreCallsCardSaid : Prop := Claim7.holds Tryz.pinned (.plain (OpenSpec.ofChange coreCallsSpec)) coreCallsCard

/-- THE TIED CARD OF 'restitchlaw08.CorePrints'. -/
def corePrintsCard : Claim7 := { stood := { row := corePrintsRow, standIns := [], harness := (true, "455426ae17f5cebd1e869bbd2c7c15e1646e82f384eadf6ce8080b103650fe81"), looks := true }, kinds := [], alts := [], laidByText := true, laidKinds := [.data, .data, .data, .data, .sentinel, .sentinel, .pinned], laidTests := true, laidLooks := .later }
def CorePrintsCardSaid : Prop := Claim7.holds Tryz.pinned (.plain (OpenSpec.ofChange corePrintsSpec)) corePrintsCard

/-- THE TIED CARD OF 'restitchlaw08.CoreParses'. -/
def coreParsesCard : Claim7 := { stood := { row := coreParsesRow, standIns := [], harness := (true, "455426ae17f5cebd1e869bbd2c7c15e1646e82f384eadf6ce8080b103650fe81"), looks := true }, kinds := [], alts := [], laidByText := true, laidKinds := [.data, .data, .data, .data, .sentinel, .sentinel, .pinned], laidTests := true, laidLooks := .later }
def CoreParsesCardSaid : Prop := Claim7.holds Tryz.pinned (.plain (OpenSpec.ofChange coreParsesSpec)) coreParsesCard

/-- THE TIED CARD OF 'restitchlaw08.CoreFuel'. -/
def coreFuelCard : Claim7 := { stood := { row := coreFuelRow, standIns := [], harness := (true, "455426ae17f5cebd1e869bbd2c7c15e1646e82f384eadf6ce8080b103650fe81"), looks := true }, kinds := [], alts := [], laidByText := true, laidKinds := [.data, .data, .data, .data, .sentinel, .sentinel, .pinned], laidTests := true, laidLooks := .later }
def CoreFuelCardSaid : Prop := Claim7.holds Tryz.pinned (.plain (OpenSpec.ofChange coreFuelSpec)) coreFuelCard

/-- THE TIED CARD OF 'restitchlaw08.CoreAdds'. -/
def coreAddsCard : Claim7 := { stood := { row := coreAddsRow, standIns := [], harness := (true, "455426ae17f5cebd1e869bbd2c7c15e1646e82f384eadf6ce8080b103650fe81"), looks := true }, kinds := [], alts := [], laidByText := true, laidKinds := [.data, .data, .data, .data, .sentinel, .sentinel, .pinned], laidTests := true, laidLooks := .later }
def CoreAddsCardSaid : Prop := Claim7.holds Tryz.pinned (.plain (OpenSpec.ofChange coreAddsSpec)) coreAddsCard

/-- THE TIED CARD OF 'restitchlaw08.CoreBack'. -/
def coreBackCard : Claim7 := { stood := { row := coreBackRow, standIns := [], harness := (true, "455426ae17f5cebd1e869bbd2c7c15e1646e82f384eadf6ce8080b103650fe81"), looks := true }, kinds := [], alts := [], laidByText := true, laidKinds := [.data, .data, .data, .data, .sentinel, .sentinel, .pinned], laidTests := true, laidLooks := .later }
def CoreBackCardSaid : Prop := Claim7.holds Tryz.pinned (.plain (OpenSpec.ofChange coreBackSpec)) coreBackCard

/-- THE TIED CARD OF 'restitchlaw08.CoreKept'. -/
def coreKeptCard : Claim7 := { stood := { row := coreKeptRow, standIns := [], harness := (true, "455426ae17f5cebd1e869bbd2c7c15e1646e82f384eadf6ce8080b103650fe81"), looks := true }, kinds := [], alts := [], laidByText := true, laidKinds := [.data, .data, .data, .data, .sentinel, .sentinel, .pinned], laidTests := true, laidLooks := .later }
def CoreKeptCardSaid : Prop := Claim7.holds Tryz.pinned (.plain (OpenSpec.ofChange coreKeptSpec)) coreKeptCard

/-- THE TIED CARD OF 'restitchlaw08.CoreValues'. -/
def coreValuesCard : Claim7 := { stood := { row := coreValuesRow, standIns := [], harness := (true, "455426ae17f5cebd1e869bbd2c7c15e1646e82f384eadf6ce8080b103650fe81"), looks := true }, kinds := [], alts := [], laidByText := true, laidKinds := [.data, .data, .data, .data, .sentinel, .sentinel, .pinned], laidTests := true, laidLooks := .later }
def CoreValuesCardSaid : Prop := Claim7.holds Tryz.pinned (.plain (OpenSpec.ofChange coreValuesSpec)) coreValuesCard

/-- THE TIED CARD OF 'restitchlaw08.CoreScope'. -/
def coreScopeCard : Claim7 := { stood := { row := coreScopeRow, standIns := [], harness := (true, "455426ae17f5cebd1e869bbd2c7c15e1646e82f384eadf6ce8080b103650fe81"), looks := true }, kinds := [], alts := [], laidByText := true, laidKinds := [.data, .data, .data, .data, .sentinel, .sentinel, .pinned], laidTests := true, laidLooks := .later }
def CoreScopeCardSaid : Prop := Claim7.holds Tryz.pinned (.plain (OpenSpec.ofChange coreScopeSpec)) coreScopeCard

/-- THE TIED CARD OF 'restitchlaw08.CorePruned'. -/
def corePrunedCard : Claim7 := { stood := { row := corePrunedRow, standIns := [], harness := (true, "455426ae17f5cebd1e869bbd2c7c15e1646e82f384eadf6ce8080b103650fe81"), looks := true }, kinds := [], alts := [], laidByText := true, laidKinds := [.data, .data, .data, .data, .sentinel, .sentinel, .pinned], laidTests := true, laidLooks := .later }
def CorePrunedCardSaid : Prop := Claim7.holds Tryz.pinned (.plain (OpenSpec.ofChange corePrunedSpec)) corePrunedCard

/-- THE TIED CARD OF 'restitchlaw08.CoreGraphs'. -/
def coreGraphsCard : Claim7 := { stood := { row := coreGraphsRow, standIns := [], harness := (true, "455426ae17f5cebd1e869bbd2c7c15e1646e82f384eadf6ce8080b103650fe81"), looks := true }, kinds := [], alts := [], laidByText := true, laidKinds := [.data, .data, .data, .data, .sentinel, .sentinel, .pinned], laidTests := true, laidLooks := .later }
def CoreGraphsCardSaid : Prop := Claim7.holds Tryz.pinned (.plain (OpenSpec.ofChange coreGraphsSpec)) coreGraphsCard

/-- THE SECOND FORM's CARD OF 'restitchlaw08.CoreRuns'. -/
def coreRunsUptoCard : Claim7 := { stood := { row := coreRunsUptoRow, standIns := [], harness := (true, "455426ae17f5cebd1e869bbd2c7c15e1646e82f384eadf6ce8080b103650fe81"), looks := true }, kinds := [], alts := [], laidByText := true, laidKinds := [.data, .data, .data, .data, .sentinel, .sentinel, .pinned], laidTests := true, laidLooks := .later }
def CoreRunsUptoCardSaid : Prop := Claim7.holds Tryz.pinned (.plain (OpenSpec.upto coreRunsSpec)) coreRunsUptoCard

/-- THE SECOND FORM's CARD OF 'restitchlaw08.CoreCalls'. -/
def coreCallsUptoCard : Claim7 := { stood := { row := coreCallsUptoRow, standIns := [], harness := (true, "455426ae17f5cebd1e869bbd2c7c15e1646e82f384eadf6ce8080b103650fe81"), looks := true }, kinds := [], alts := [], laidByText := true, laidKinds := [.data, .data, .data, .data, .sentinel, .sentinel, .pinned], laidTests := true, laidLooks := .later }
def CoreCallsUptoCardSaid : Prop := Claim7.holds Tryz.pinned (.plain (OpenSpec.upto coreCallsSpec)) coreCallsUptoCard

/-- THE SECOND FORM's CARD OF 'restitchlaw08.CorePrints'. -/
def corePrintsUptoCard : Claim7 := { stood := { row := corePrintsUptoRow, standIns := [], harness := (true, "455426ae17f5cebd1e869bbd2c7c15e1646e82f384eadf6ce8080b103650fe81"), looks := true }, kinds := [], alts := [], laidByText := true, laidKinds := [.data, .data, .data, .data, .sentinel, .sentinel, .pinned], laidTests := true, laidLooks := .later }
def CorePrintsUptoCardSaid : Prop := Claim7.holds Tryz.pinned (.plain (OpenSpec.upto corePrintsSpec)) corePrintsUptoCard

/-- THE SECOND FORM's CARD OF 'restitchlaw08.CoreParses'. -/
def coreParsesUptoCard : Claim7 := { stood := { row := coreParsesUptoRow, standIns := [], harness := (true, "455426ae17f5cebd1e869bbd2c7c15e1646e82f384eadf6ce8080b103650fe81"), looks := true }, kinds := [], alts := [], laidByText := true, laidKinds := [.data, .data, .data, .data, .sentinel, .sentinel, .pinned], laidTests := true, laidLooks := .later }
def CoreParsesUptoCardSaid : Prop := Claim7.holds Tryz.pinned (.plain (OpenSpec.upto coreParsesSpec)) coreParsesUptoCard

/-- THE SECOND FORM's CARD OF 'restitchlaw08.CoreFuel'. -/
def coreFuelUptoCard : Claim7 := { stood := { row := coreFuelUptoRow, standIns := [], harness := (true, "455426ae17f5cebd1e869bbd2c7c15e1646e82f384eadf6ce8080b103650fe81"), looks := true }, kinds := [], alts := [], laidByText := true, laidKinds := [.data, .data, .data, .data, .sentinel, .sentinel, .pinned], laidTests := true, laidLooks := .later }
def CoreFuelUptoCardSaid : Prop := Claim7.holds Tryz.pinned (.plain (OpenSpec.upto coreFuelSpec)) coreFuelUptoCard

/-- THE SECOND FORM's CARD OF 'restitchlaw08.CoreAdds'. -/
def coreAddsUptoCard : Claim7 := { stood := { row := coreAddsUptoRow, standIns := [], harness := (true, "455426ae17f5cebd1e869bbd2c7c15e1646e82f384eadf6ce8080b103650fe81"), looks := true }, kinds := [], alts := [], laidByText := true, laidKinds := [.data, .data, .data, .data, .sentinel, .sentinel, .pinned], laidTests := true, laidLooks := .later }
def CoreAddsUptoCardSaid : Prop := Claim7.holds Tryz.pinned (.plain (OpenSpec.upto coreAddsSpec)) coreAddsUptoCard

/-- THE SECOND FORM's CARD OF 'restitchlaw08.CoreBack'. -/
def coreBackUptoCard : Claim7 := { stood := { row := coreBackUptoRow, standIns := [], harness := (true, "455426ae17f5cebd1e869bbd2c7c15e1646e82f384eadf6ce8080b103650fe81"), looks := true }, kinds := [], alts := [], laidByText := true, laidKinds := [.data, .data, .data, .data, .sentinel, .sentinel, .pinned], laidTests := true, laidLooks := .later }
def CoreBackUptoCardSaid : Prop := Claim7.holds Tryz.pinned (.plain (OpenSpec.upto coreBackSpec)) coreBackUptoCard

/-- THE SECOND FORM's CARD OF 'restitchlaw08.CoreKept'. -/
def coreKeptUptoCard : Claim7 := { stood := { row := coreKeptUptoRow, standIns := [], harness := (true, "455426ae17f5cebd1e869bbd2c7c15e1646e82f384eadf6ce8080b103650fe81"), looks := true }, kinds := [], alts := [], laidByText := true, laidKinds := [.data, .data, .data, .data, .sentinel, .sentinel, .pinned], laidTests := true, laidLooks := .later }
def CoreKeptUptoCardSaid : Prop := Claim7.holds Tryz.pinned (.plain (OpenSpec.upto coreKeptSpec)) coreKeptUptoCard

/-- THE SECOND FORM's CARD OF 'restitchlaw08.CoreValues'. -/
def coreValuesUptoCard : Claim7 := { stood := { row := coreValuesUptoRow, standIns := [], harness := (true, "455426ae17f5cebd1e869bbd2c7c15e1646e82f384eadf6ce8080b103650fe81"), looks := true }, kinds := [], alts := [], laidByText := true, laidKinds := [.data, .data, .data, .data, .sentinel, .sentinel, .pinned], laidTests := true, laidLooks := .later }
def CoreValuesUptoCardSaid : Prop := Claim7.holds Tryz.pinned (.plain (OpenSpec.upto coreValuesSpec)) coreValuesUptoCard

/-- THE SECOND FORM's CARD OF 'restitchlaw08.CoreScope'. -/
def coreScopeUptoCard : Claim7 := { stood := { row := coreScopeUptoRow, standIns := [], harness := (true, "455426ae17f5cebd1e869bbd2c7c15e1646e82f384eadf6ce8080b103650fe81"), looks := true }, kinds := [], alts := [], laidByText := true, laidKinds := [.data, .data, .data, .data, .sentinel, .sentinel, .pinned], laidTests := true, laidLooks := .later }
def CoreScopeUptoCardSaid : Prop := Claim7.holds Tryz.pinned (.plain (OpenSpec.upto coreScopeSpec)) coreScopeUptoCard

/-- THE SECOND FORM's CARD OF 'restitchlaw08.CorePruned'. -/
def corePrunedUptoCard : Claim7 := { stood := { row := corePrunedUptoRow, standIns := [], harness := (true, "455426ae17f5cebd1e869bbd2c7c15e1646e82f384eadf6ce8080b103650fe81"), looks := true }, kinds := [], alts := [], laidByText := true, laidKinds := [.data, .data, .data, .data, .sentinel, .sentinel, .pinned], laidTests := true, laidLooks := .later }
def CorePrunedUptoCardSaid : Prop := Claim7.holds Tryz.pinned (.plain (OpenSpec.upto corePrunedSpec)) corePrunedUptoCard

/-- THE SECOND FORM's CARD OF 'restitchlaw08.CoreGraphs'. -/
def coreGraphsUptoCard : Claim7 := { stood := { row := coreGraphsUptoRow, standIns := [], harness := (true, "455426ae17f5cebd1e869bbd2c7c15e1646e82f384eadf6ce8080b103650fe81"), looks := true }, kinds := [], alts := [], laidByText := true, laidKinds := [.data, .data, .data, .data, .sentinel, .sentinel, .pinned], laidTests := true, laidLooks := .later }
def CoreGraphsUptoCardSaid : Prop := Claim7.holds Tryz.pinned (.plain (OpenSpec.upto coreGraphsSpec)) coreGraphsUptoCard
end Rows
end Go.Proofs.YtgkhcfjooiekkaaGreatDoor
