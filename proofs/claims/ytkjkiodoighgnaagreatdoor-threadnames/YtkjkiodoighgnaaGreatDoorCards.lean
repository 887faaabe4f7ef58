/-
  DERIVED. GIVEN WITH THE SEED: THE CARDS: each row of YtkjkiodoighgnaaGreatDoorRows.lean that lists a variable, with what it lists TIED to the program's text (the seventh form; the later family's looks); each row that meets fmt, with fmt's text TOLD by the authors' own Lean function (tested against real Go, not proved from fmt's source: count such statements apart). THE CARD IS WHAT COUNTS. Prove the row's statement (the work); the ties are given (YtkjkiodoighgnaaGreatDoorTie.lean); close each card by the builder's one call (the guide's Derived/Test/ToyasCard.lean, 'card_holds'). Laid BY PROGRAM, IN A SANDBOX (cutbox-door.mjs). By AI agents, Wed Nov 11 2026. No macro, syntax, notation, axiom, sorry.
-/
import Derived.Test.YtkjkiodoighgnaaGreatDoorRows
import GoSem.ClaimSeven
namespace Go.Proofs.YtkjkiodoighgnaaGreatDoor
namespace Rows

/-- THE TIED CARD OF 'raddlelaw02.ThreadTurns'. -/
def threadTurnsCard : Claim7 := { stood := { row := threadTurnsRow, standIns := [], harness := (true, "32949e6351b72fb5e09093e7af181c2cf9f0994c38d54a07704e9613a61c4a11"), looks := true }, kinds := [], alts := [], laidByText := true, laidKinds := [.data, .data, .data, .data, .sentinel, .sentinel, .pinned], laidTests := true, laidLooks := .later }
def ThreadTurnsCardSaid : Prop := Claim7.holds Tryz.pinned (.plain (OpenSpec.ofChange threadTurnsSpec)) threadTurnsCard

/-- THE TIED CARD OF 'raddlelaw02.ThreadNames'. -/
def threadNamesCard : Claim7 := { stood := { row := threadNamesRow, standIns := [], harness := (true, "32949e6351b72fb5e09093e7af181c2cf9f0994c38d54a07704e9613a61c4a11"), looks := true }, kinds := [], alts := [], laidByText := true, laidKinds := [.data, .data, .data, .data, .sentinel, .sentinel, .pinned], laidTests := true, laidLooks := .later }
def ThreadNamesCardSaid : Prop := Claim7.holds Tryz.pinned (.plain (OpenSpec.ofChange threadNamesSpec)) threadNamesCard

/-- THE SECOND FORM's CARD OF 'raddlelaw02.ThreadTurns'. -/
def threadTurnsUptoCard : Claim7 := { stood := { row := threadTurnsUptoRow, standIns := [], harness := (true, "32949e6351b72fb5e09093e7af181c2cf9f0994c38d54a07704e9613a61c4a11"), looks := true }, kinds := [], alts := [], laidByText := true, laidKinds := [.data, .data, .data, .data, .sentinel, .sentinel, .pinned], laidTests := true, laidLooks := .later }
def ThreadTurnsUptoCardSaid : Prop := Claim7.holds Tryz.pinned (.plain (OpenSpec.upto threadTurnsSpec)) threadTurnsUptoCard

/-- THE SECOND FORM's CARD OF 'raddlelaw02.ThreadNames'. -/
def threadNamesUptoCard : Claim7 := { stood := { row := threadNamesUptoRow, standIns := [], harness := (true, "32949e6351b72fb5e09093e7af181c2cf9f0994c38d54a07704e9613a61c4a11"), looks := true }, kinds := [], alts := [], laidByText := true, laidKinds := [.data, .data, .data, .data, .sentinel, .sentinel, .pinned], laidTests := true, laidLooks := .later }
def ThreadNamesUptoCardSaid : Prop := Claim7.holds Tryz.pinned (.plain (OpenSpec.upto threadNamesSpec)) threadNamesUptoCard
end Rows
end Go.Proofs.YtkjkiodoighgnaaGreatDoor
