/-
  DERIVED. GIVEN WITH THE SEED: THE CARDS: each row of YtghdfphedgcpdaaGreatDoorRows.lean that lists a variable, with what it lists TIED to the program's text (the seventh form; the later family's looks); each row that meets fmt, with fmt's text TOLD by the authors' own Lean function (tested against real Go, not proved from fmt's source: count such statements apart). THE CARD IS WHAT COUNTS. Prove the row's statement (the work); the ties are given (YtghdfphedgcpdaaGreatDoorTie.lean); close each card by the builder's one call (the guide's Derived/Test/ToyasCard.lean, 'card_holds'). Laid BY PROGRAM, IN A SANDBOX (cutbox-door.mjs). By AI agents, Wed Nov 11 2026. No macro, syntax, notation, axiom, sorry.
-/
import Derived.Test.YtghdfphedgcpdaaGreatDoorRows
import GoSem.ClaimSeven
namespace Go.Proofs.YtghdfphedgcpdaaGreatDoor
namespace Rows

/-- THE TIED CARD OF 'restitchlaw11.LevelInputs'. -/
def levelInputsCard : Claim7 := { stood := { row := levelInputsRow, standIns := [], harness := (true, "8dfb172be620e644952a3b3fbef38f53abbde8464159391a13788f707abd56a4"), looks := true }, kinds := [], alts := [], laidByText := true, laidKinds := [.data, .data, .data, .data, .sentinel, .sentinel, .pinned], laidTests := true, laidLooks := .later }
def LevelInputsCardSaid : Prop := Claim7.holds Tryz.pinned (.plain (OpenSpec.ofChange levelInputsSpec)) levelInputsCard

/-- THE TIED CARD OF 'restitchlaw11.LevelLeast'. -/
def levelLeastCard : Claim7 := { stood := { row := levelLeastRow, standIns := [], harness := (true, "8dfb172be620e644952a3b3fbef38f53abbde8464159391a13788f707abd56a4"), looks := true }, kinds := [], alts := [], laidByText := true, laidKinds := [.data, .data, .data, .data, .sentinel, .sentinel, .pinned], laidTests := true, laidLooks := .later }
def LevelLeastCardSaid : Prop := Claim7.holds Tryz.pinned (.plain (OpenSpec.ofChange levelLeastSpec)) levelLeastCard

/-- THE TIED CARD OF 'restitchlaw11.LevelSolves'. -/
def levelSolvesCard : Claim7 := { stood := { row := levelSolvesRow, standIns := [], harness := (true, "8dfb172be620e644952a3b3fbef38f53abbde8464159391a13788f707abd56a4"), looks := true }, kinds := [], alts := [], laidByText := true, laidKinds := [.data, .data, .data, .data, .sentinel, .sentinel, .pinned], laidTests := true, laidLooks := .later }
def LevelSolvesCardSaid : Prop := Claim7.holds Tryz.pinned (.plain (OpenSpec.ofChange levelSolvesSpec)) levelSolvesCard

/-- THE TIED CARD OF 'restitchlaw11.LevelMeets'. -/
def levelMeetsCard : Claim7 := { stood := { row := levelMeetsRow, standIns := [], harness := (true, "8dfb172be620e644952a3b3fbef38f53abbde8464159391a13788f707abd56a4"), looks := true }, kinds := [], alts := [], laidByText := true, laidKinds := [.data, .data, .data, .data, .sentinel, .sentinel, .pinned], laidTests := true, laidLooks := .later }
def LevelMeetsCardSaid : Prop := Claim7.holds Tryz.pinned (.plain (OpenSpec.ofChange levelMeetsSpec)) levelMeetsCard

/-- THE TIED CARD OF 'restitchlaw11.LevelForced'. -/
def levelForcedCard : Claim7 := { stood := { row := levelForcedRow, standIns := [], harness := (true, "8dfb172be620e644952a3b3fbef38f53abbde8464159391a13788f707abd56a4"), looks := true }, kinds := [], alts := [], laidByText := true, laidKinds := [.data, .data, .data, .data, .sentinel, .sentinel, .pinned], laidTests := true, laidLooks := .later }
def LevelForcedCardSaid : Prop := Claim7.holds Tryz.pinned (.plain (OpenSpec.ofChange levelForcedSpec)) levelForcedCard

/-- THE TIED CARD OF 'restitchlaw11.LevelBlames'. -/
def levelBlamesCard : Claim7 := { stood := { row := levelBlamesRow, standIns := [], harness := (true, "8dfb172be620e644952a3b3fbef38f53abbde8464159391a13788f707abd56a4"), looks := true }, kinds := [], alts := [], laidByText := true, laidKinds := [.data, .data, .data, .data, .sentinel, .sentinel, .pinned], laidTests := true, laidLooks := .later }
def LevelBlamesCardSaid : Prop := Claim7.holds Tryz.pinned (.plain (OpenSpec.ofChange levelBlamesSpec)) levelBlamesCard

/-- THE TIED CARD OF 'restitchlaw11.LevelPaths'. -/
def levelPathsCard : Claim7 := { stood := { row := levelPathsRow, standIns := [], harness := (true, "8dfb172be620e644952a3b3fbef38f53abbde8464159391a13788f707abd56a4"), looks := true }, kinds := [], alts := [], laidByText := true, laidKinds := [.data, .data, .data, .data, .sentinel, .sentinel, .pinned], laidTests := true, laidLooks := .later }
def LevelPathsCardSaid : Prop := Claim7.holds Tryz.pinned (.plain (OpenSpec.ofChange levelPathsSpec)) levelPathsCard

/-- THE TIED CARD OF 'restitchlaw11.LevelStable'. -/
def levelStableCard : Claim7 := { stood := { row := levelStableRow, standIns := [], harness := (true, "8dfb172be620e644952a3b3fbef38f53abbde8464159391a13788f707abd56a4"), looks := true }, kinds := [], alts := [], laidByText := true, laidKinds := [.data, .data, .data, .data, .sentinel, .sentinel, .pinned], laidTests := true, laidLooks := .later }
def LevelStableCardSaid : Prop := Claim7.holds Tryz.pinned (.plain (OpenSpec.ofChange levelStableSpec)) levelStableCard

/-- THE SECOND FORM's CARD OF 'restitchlaw11.LevelInputs'. -/
def levelInputsUptoCard : Claim7 := { stood := { row := levelInputsUptoRow, standIns := [], harness := (true, "8dfb172be620e644952a3b3fbef38f53abbde8464159391a13788f707abd56a4"), looks := true }, kinds := [], alts := [], laidByText := true, laidKinds := [.data, .data, .data, .data, .sentinel, .sentinel, .pinned], laidTests := true, laidLooks := .later }
def LevelInputsUptoCardSaid : Prop := Claim7.holds Tryz.pinned (.plain (OpenSpec.upto levelInputsSpec)) levelInputsUptoCard

/-- THE SECOND FORM's CARD OF 'restitchlaw11.LevelLeast'. -/
def levelLeastUptoCard : Claim7 := { stood := { row := levelLeastUptoRow, standIns := [], harness := (true, "8dfb172be620e644952a3b3fbef38f53abbde8464159391a13788f707abd56a4"), looks := true }, kinds := [], alts := [], laidByText := true, laidKinds := [.data, .data, .data, .data, .sentinel, .sentinel, .pinned], laidTests := true, laidLooks := .later }
def LevelLeastUptoCardSaid : Prop := Claim7.holds Tryz.pinned (.plain (OpenSpec.upto levelLeastSpec)) levelLeastUptoCard

/-- THE SECOND FORM's CARD OF 'restitchlaw11.LevelSolves'. -/
def levelSolvesUptoCard : Claim7 := { stood := { row := levelSolvesUptoRow, standIns := [], harness := (true, "8dfb172be620e644952a3b3fbef38f53abbde8464159391a13788f707abd56a4"), looks := true }, kinds := [], alts := [], laidByText := true, laidKinds := [.data, .data, .data, .data, .sentinel, .sentinel, .pinned], laidTests := true, laidLooks := .later }
def LevelSolvesUptoCardSaid : Prop := Claim7.holds Tryz.pinned (.plain (OpenSpec.upto levelSolvesSpec)) levelSolvesUptoCard

/-- THE SECOND FORM's CARD OF 'restitchlaw11.LevelMeets'. -/
def levelMeetsUptoCard : Claim7 := { stood := { row := levelMeetsUptoRow, standIns := [], harness := (true, "8dfb172be620e644952a3b3fbef38f53abbde8464159391a13788f707abd56a4"), looks := true }, kinds := [], alts := [], laidByText := true, laidKinds := [.data, .data, .data, .data, .sentinel, .sentinel, .pinned], laidTests := true, laidLooks := .later }
def LevelMeetsUptoCardSaid : Prop := Claim7.holds Tryz.pinned (.plain (OpenSpec.upto levelMeetsSpec)) levelMeetsUptoCard

/-- THE SECOND FORM's CARD OF 'restitchlaw11.LevelForced'. -/
def levelForcedUptoCard : Claim7 := { stood := { row := levelForcedUptoRow, standIns := [], harness := (true, "8dfb172be620e644952a3b3fbef38f53abbde8464159391a13788f707abd56a4"), looks := true }, kinds := [], alts := [], laidByText := true, laidKinds := [.data, .data, .data, .data, .sentinel, .sentinel, .pinned], laidTests := true, laidLooks := .later }
def LevelForcedUptoCardSaid : Prop := Claim7.holds Tryz.pinned (.plain (OpenSpec.upto levelForcedSpec)) levelForcedUptoCard

/-- THE SECOND FORM's CARD OF 'restitchlaw11.LevelBlames'. -/
def levelBlamesUptoCard : Claim7 := { stood := { row := levelBlamesUptoRow, standIns := [], harness := (true, "8dfb172be620e644952a3b3fbef38f53abbde8464159391a13788f707abd56a4"), looks := true }, kinds := [], alts := [], laidByText := true, laidKinds := [.data, .data, .data, .data, .sentinel, .sentinel, .pinned], laidTests := true, laidLooks := .later }
def LevelBlamesUptoCardSaid : Prop := Claim7.holds Tryz.pinned (.plain (OpenSpec.upto levelBlamesSpec)) levelBlamesUptoCard

/-- THE SECOND FORM's CARD OF 'restitchlaw11.LevelPaths'. -/
def levelPathsUptoCard : Claim7 := { stood := { row := levelPathsUptoRow, standIns := [], harness := (true, "8dfb172be620e644952a3b3fbef38f53abbde8464159391a13788f707abd56a4"), looks := true }, kinds := [], alts := [], laidByText := true, laidKinds := [.data, .data, .data, .data, .sentinel, .sentinel, .pinned], laidTests := true, laidLooks := .later }
def LevelPathsUptoCardSaid : Prop := Claim7.holds Tryz.pinned (.plain (OpenSpec.upto levelPathsSpec)) levelPathsUptoCard

/-- THE SECOND FORM's CARD OF 'restitchlaw11.LevelStable'. -/
def levelStableUptoCard : Claim7 := { stood := { row := levelStableUptoRow, standIns := [], harness := (true, "8dfb172be620e644952a3b3fbef38f53abbde8464159391a13788f707abd56a4"), looks := true }, kinds := [], alts := [], laidByText := true, laidKinds := [.data, .data, .data, .data, .sentinel, .sentinel, .pinned], laidTests := true, laidLooks := .later }
def LevelStableUptoCardSaid : Prop := Claim7.holds Tryz.pinned (.plain (OpenSpec.upto levelStableSpec)) levelStableUptoCard
end Rows
end Go.Proofs.YtghdfphedgcpdaaGreatDoor
