/-
  DERIVED. GIVEN WITH THE SEED: THE CARDS: each row of YtlfobekmmndchaaGreatDoorRows.lean that lists a variable, with what it lists TIED to the program's text (the seventh form; the later family's looks); each row that meets fmt, with fmt's text TOLD by the authors' own Lean function (tested against real Go, not proved from fmt's source: count such statements apart). THE CARD IS WHAT COUNTS. Prove the row's statement (the work); the ties are given (YtlfobekmmndchaaGreatDoorTie.lean); close each card by the builder's one call (the guide's Derived/Test/ToyasCard.lean, 'card_holds'). Laid BY PROGRAM, IN A SANDBOX (cutbox-door.mjs). By AI agents, Wed Nov 11 2026. No macro, syntax, notation, axiom, sorry.
-/
import Derived.Test.YtlfobekmmndchaaGreatDoorRows
import GoSem.ClaimSeven
namespace Go.Proofs.YtlfobekmmndchaaGreatDoor
namespace Rows

/-- THE TIED CARD OF 'restitchlaw15.OptFinds'. -/
def optFindsCard : Claim7 := { stood := { row := optFindsRow, standIns := [], harness := (true, "85501da53bcbeb676a92cebcef877aabde4957abcbe701bf1dd5251624ce4289"), looks := true }, kinds := [], alts := [], laidByText := true, laidKinds := [.data, .data, .data, .data, .sentinel, .sentinel, .pinned], laidTests := true, laidLooks := .later }
def OptFindsCardSaid : Prop := Claim7.holds Tryz.pinned (.plain (OpenSpec.ofChange optFindsSpec)) optFindsCard

/-- THE TIED CARD OF 'restitchlaw15.OptNames'. -/
def optNamesCard : Claim7 := { stood := { row := optNamesRow, standIns := [], harness := (true, "85501da53bcbeb676a92cebcef877aabde4957abcbe701bf1dd5251624ce4289"), looks := true }, kinds := [], alts := [], laidByText := true, laidKinds := [.data, .data, .data, .data, .sentinel, .sentinel, .pinned], laidTests := true, laidLooks := .later }
def OptNamesCardSaid : Prop := Claim7.holds Tryz.pinned (.plain (OpenSpec.ofChange optNamesSpec)) optNamesCard

/-- THE TIED CARD OF 'restitchlaw15.OptShrinks'. -/
def optShrinksCard : Claim7 := { stood := { row := optShrinksRow, standIns := [], harness := (true, "85501da53bcbeb676a92cebcef877aabde4957abcbe701bf1dd5251624ce4289"), looks := true }, kinds := [], alts := [], laidByText := true, laidKinds := [.data, .data, .data, .data, .sentinel, .sentinel, .pinned], laidTests := true, laidLooks := .later }
def OptShrinksCardSaid : Prop := Claim7.holds Tryz.pinned (.plain (OpenSpec.ofChange optShrinksSpec)) optShrinksCard

/-- THE TIED CARD OF 'restitchlaw15.OptSites'. -/
def optSitesCard : Claim7 := { stood := { row := optSitesRow, standIns := [], harness := (true, "85501da53bcbeb676a92cebcef877aabde4957abcbe701bf1dd5251624ce4289"), looks := true }, kinds := [], alts := [], laidByText := true, laidKinds := [.data, .data, .data, .data, .sentinel, .sentinel, .pinned], laidTests := true, laidLooks := .later }
def OptSitesCardSaid : Prop := Claim7.holds Tryz.pinned (.plain (OpenSpec.ofChange optSitesSpec)) optSitesCard

/-- THE TIED CARD OF 'restitchlaw15.OptDone'. -/
def optDoneCard : Claim7 := { stood := { row := optDoneRow, standIns := [], harness := (true, "85501da53bcbeb676a92cebcef877aabde4957abcbe701bf1dd5251624ce4289"), looks := true }, kinds := [], alts := [], laidByText := true, laidKinds := [.data, .data, .data, .data, .sentinel, .sentinel, .pinned], laidTests := true, laidLooks := .later }
def OptDoneCardSaid : Prop := Claim7.holds Tryz.pinned (.plain (OpenSpec.ofChange optDoneSpec)) optDoneCard

/-- THE TIED CARD OF 'restitchlaw15.OptAsks'. -/
def optAsksCard : Claim7 := { stood := { row := optAsksRow, standIns := [], harness := (true, "85501da53bcbeb676a92cebcef877aabde4957abcbe701bf1dd5251624ce4289"), looks := true }, kinds := [], alts := [], laidByText := true, laidKinds := [.data, .data, .data, .data, .sentinel, .sentinel, .pinned], laidTests := true, laidLooks := .later }
def OptAsksCardSaid : Prop := Claim7.holds Tryz.pinned (.plain (OpenSpec.ofChange optAsksSpec)) optAsksCard

/-- THE SECOND FORM's CARD OF 'restitchlaw15.OptFinds'. -/
def optFindsUptoCard : Claim7 := { stood := { row := optFindsUptoRow, standIns := [], harness := (true, "85501da53bcbeb676a92cebcef877aabde4957abcbe701bf1dd5251624ce4289"), looks := true }, kinds := [], alts := [], laidByText := true, laidKinds := [.data, .data, .data, .data, .sentinel, .sentinel, .pinned], laidTests := true, laidLooks := .later }
def OptFindsUptoCardSaid : Prop := Claim7.holds Tryz.pinned (.plain (OpenSpec.upto optFindsSpec)) optFindsUptoCard

/-- THE SECOND FORM's CARD OF 'restitchlaw15.OptNames'. -/
def optNamesUptoCard : Claim7 := { stood := { row := optNamesUptoRow, standIns := [], harness := (true, "85501da53bcbeb676a92cebcef877aabde4957abcbe701bf1dd5251624ce4289"), looks := true }, kinds := [], alts := [], laidByText := true, laidKinds := [.data, .data, .data, .data, .sentinel, .sentinel, .pinned], laidTests := true, laidLooks := .later }
def OptNamesUptoCardSaid : Prop := Claim7.holds Tryz.pinned (.plain (OpenSpec.upto optNamesSpec)) optNamesUptoCard

/-- THE SECOND FORM's CARD OF 'restitchlaw15.OptShrinks'. -/
def optShrinksUptoCard : Claim7 := { stood := { row := optShrinksUptoRow, standIns := [], harness := (true, "85501da53bcbeb676a92cebcef877aabde4957abcbe701bf1dd5251624ce4289"), looks := true }, kinds := [], alts := [], laidByText := true, laidKinds := [.data, .data, .data, .data, .sentinel, .sentinel, .pinned], laidTests := true, laidLooks := .later }
def OptShrinksUptoCardSaid : Prop := Claim7.holds Tryz.pinned (.plain (OpenSpec.upto optShrinksSpec)) optShrinksUptoCard

/-- THE SECOND FORM's CARD OF 'restitchlaw15.OptSites'. -/
def optSitesUptoCard : Claim7 := { stood := { row := optSitesUptoRow, standIns := [], harness := (true, "85501da53bcbeb676a92cebcef877aabde4957abcbe701bf1dd5251624ce4289"), looks := true }, kinds := [], alts := [], laidByText := true, laidKinds := [.data, .data, .data, .data, .sentinel, .sentinel, .pinned], laidTests := true, laidLooks := .later }
def OptSitesUptoCardSaid : Prop := Claim7.holds Tryz.pinned (.plain (OpenSpec.upto optSitesSpec)) optSitesUptoCard

/-- THE SECOND FORM's CARD OF 'restitchlaw15.OptDone'. -/
def optDoneUptoCard : Claim7 := { stood := { row := optDoneUptoRow, standIns := [], harness := (true, "85501da53bcbeb676a92cebcef877aabde4957abcbe701bf1dd5251624ce4289"), looks := true }, kinds := [], alts := [], laidByText := true, laidKinds := [.data, .data, .data, .data, .sentinel, .sentinel, .pinned], laidTests := true, laidLooks := .later }
def OptDoneUptoCardSaid : Prop := Claim7.holds Tryz.pinned (.plain (OpenSpec.upto optDoneSpec)) optDoneUptoCard

/-- THE SECOND FORM's CARD OF 'restitchlaw15.OptAsks'. -/
def optAsksUptoCard : Claim7 := { stood := { row := optAsksUptoRow, standIns := [], harness := (true, "85501da53bcbeb676a92cebcef877aabde4957abcbe701bf1dd5251624ce4289"), looks := true }, kinds := [], alts := [], laidByText := true, laidKinds := [.data, .data, .data, .data, .sentinel, .sentinel, .pinned], laidTests := true, laidLooks := .later }
def OptAsksUptoCardSaid : Prop := Claim7.holds Tryz.pinned (.plain (OpenSpec.upto optAsksSpec)) optAsksUptoCard
end Rows
end Go.Proofs.YtlfobekmmndchaaGreatDoor
