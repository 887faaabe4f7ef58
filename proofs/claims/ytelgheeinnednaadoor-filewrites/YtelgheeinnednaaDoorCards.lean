/-
  DERIVED. GIVEN WITH THE SEED: THE CARDS: each row of YtelgheeinnednaaDoorRows.lean that lists a variable, with what it lists TIED to the program's text (the seventh form; the later family's looks); each row that meets fmt, with fmt's text TOLD by the authors' own Lean function (tested against real Go, not proved from fmt's source: count such statements apart). THE CARD IS WHAT COUNTS. Prove the row's statement (the work); the ties are given (YtelgheeinnednaaDoorTie.lean); close each card by the builder's one call (the guide's Derived/Test/ToyasCard.lean, 'card_holds'). Laid BY PROGRAM, IN A SANDBOX (cutbox-door.mjs). By AI agents, Wed Nov 11 2026. No macro, syntax, notation, axiom, sorry.
-/
import Derived.Test.YtelgheeinnednaaDoorRows
import GoSem.ClaimSeven
namespace Go.Proofs.YtelgheeinnednaaDoor
namespace Rows

/-- THE TIED CARD OF 'raddlelaw19.FileWrites'. -/
def fileWritesCard : Claim7 := { stood := { row := fileWritesRow, standIns := [], harness := (true, "e39ec6fc0c8a05f9f3736d5ae21aee3fbc981cee7d42224135a7d5b0373a4843"), looks := false }, kinds := [], alts := [], laidByText := true, laidKinds := [.data, .data, .data, .data, .pinned], laidTests := true, laidLooks := .later }
def FileWritesCardSaid : Prop := Claim7.holds Tryd.pinned (.plain (OpenSpec.ofChange fileWritesSpec)) fileWritesCard

/-- THE SECOND FORM's CARD OF 'raddlelaw19.FileWrites'. -/
def fileWritesUptoCard : Claim7 := { stood := { row := fileWritesUptoRow, standIns := [], harness := (true, "e39ec6fc0c8a05f9f3736d5ae21aee3fbc981cee7d42224135a7d5b0373a4843"), looks := false }, kinds := [], alts := [], laidByText := true, laidKinds := [.data, .data, .data, .data, .pinned], laidTests := true, laidLooks := .later }
def FileWritesUptoCardSaid : Prop := Claim7.holds Tryd.pinned (.plain (OpenSpec.upto fileWritesSpec)) fileWritesUptoCard
end Rows
end Go.Proofs.YtelgheeinnednaaDoor
