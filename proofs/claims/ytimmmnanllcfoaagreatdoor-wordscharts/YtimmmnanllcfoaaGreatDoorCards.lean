/-
  DERIVED. GIVEN WITH THE SEED: THE CARDS: each row of YtimmmnanllcfoaaGreatDoorRows.lean that lists a variable, with what it lists TIED to the program's text (the seventh form; the later family's looks); each row that meets fmt, with fmt's text TOLD by the authors' own Lean function (tested against real Go, not proved from fmt's source: count such statements apart). THE CARD IS WHAT COUNTS. Prove the row's statement (the work); the ties are given (YtimmmnanllcfoaaGreatDoorTie.lean); close each card by the builder's one call (the guide's Derived/Test/ToyasCard.lean, 'card_holds'). Laid BY PROGRAM, IN A SANDBOX (cutbox-door.mjs). By AI agents, Wed Nov 11 2026. No macro, syntax, notation, axiom, sorry.
-/
import Derived.Test.YtimmmnanllcfoaaGreatDoorRows
import GoSem.ClaimSeven
namespace Go.Proofs.YtimmmnanllcfoaaGreatDoor
namespace Rows

/-- THE TIED CARD OF 'raddlelaw41.WordsCharts'. -/
def wordsChartsCard : Claim7 := { stood := { row := wordsChartsRow, standIns := [], harness := (true, "a6ce5d2aac5ec13abed7fd4a67e38e71b0ebf1613c242c875f8cd9045a4f03f8"), looks := false }, kinds := [], alts := [], laidByText := true, laidKinds := [.data, .data, .data, .data, .pinned], laidTests := true, laidLooks := .later }
def WordsChartsCardSaid : Prop := Claim7.holds Tryz.pinned (.plain (OpenSpec.ofChange wordsChartsSpec)) wordsChartsCard

/-- THE SECOND FORM's CARD OF 'raddlelaw41.WordsCharts'. -/
def wordsChartsUptoCard : Claim7 := { stood := { row := wordsChartsUptoRow, standIns := [], harness := (true, "a6ce5d2aac5ec13abed7fd4a67e38e71b0ebf1613c242c875f8cd9045a4f03f8"), looks := false }, kinds := [], alts := [], laidByText := true, laidKinds := [.data, .data, .data, .data, .pinned], laidTests := true, laidLooks := .later }
def WordsChartsUptoCardSaid : Prop := Claim7.holds Tryz.pinned (.plain (OpenSpec.upto wordsChartsSpec)) wordsChartsUptoCard
end Rows
end Go.Proofs.YtimmmnanllcfoaaGreatDoor
