/-
  DERIVED. GIVEN WITH THE SEED: THE CARDS: each row of YtimmmnanllcfoaaDoorRows.lean that lists a variable, with what it lists TIED to the program's text (the seventh form; the later family's looks); each row that meets fmt, with fmt's text TOLD by the authors' own Lean function (tested against real Go, not proved from fmt's source: count such statements apart). THE CARD IS WHAT COUNTS. Prove the row's statement (the work); the ties are given (YtimmmnanllcfoaaDoorTie.lean); close each card by the builder's one call (the guide's Derived/Test/ToyasCard.lean, 'card_holds'). Laid BY PROGRAM, IN A SANDBOX (cutbox-door.mjs). By AI agents, Wed Nov 11 2026. No macro, syntax, notation, axiom, sorry.
-/
import Derived.Test.YtimmmnanllcfoaaDoorRows
import GoSem.ClaimSeven
namespace Go.Proofs.YtimmmnanllcfoaaDoor
namespace Rows

/-- THE TIED CARD OF 'raddlelaw41.WordsCells'. -/
def wordsCellsCard : Claim7 := { stood := { row := wordsCellsRow, standIns := [], harness := (true, "f5a04aeaf5767bd39389b2b3281172ebd6fe9752504cef4ab326f80d5fb7d23b"), looks := false }, kinds := [], alts := [], laidByText := true, laidKinds := [.data, .data, .data, .data, .pinned], laidTests := true, laidLooks := .later }
def WordsCellsCardSaid : Prop := Claim7.holds Tryd.pinned (.plain (OpenSpec.ofChange wordsCellsSpec)) wordsCellsCard

/-- THE TIED CARD OF 'raddlelaw41.WordsRows'. -/
def wordsRowsCard : Claim7 := { stood := { row := wordsRowsRow, standIns := [], harness := (true, "f5a04aeaf5767bd39389b2b3281172ebd6fe9752504cef4ab326f80d5fb7d23b"), looks := false }, kinds := [], alts := [], laidByText := true, laidKinds := [.data, .data, .data, .data, .pinned], laidTests := true, laidLooks := .later }
def WordsRowsCardSaid : Prop := Claim7.holds Tryd.pinned (.plain (OpenSpec.ofChange wordsRowsSpec)) wordsRowsCard

/-- THE TIED CARD OF 'raddlelaw41.WordsNames'. -/
def wordsNamesCard : Claim7 := { stood := { row := wordsNamesRow, standIns := [], harness := (true, "f5a04aeaf5767bd39389b2b3281172ebd6fe9752504cef4ab326f80d5fb7d23b"), looks := false }, kinds := [], alts := [], laidByText := true, laidKinds := [.data, .data, .data, .data, .pinned], laidTests := true, laidLooks := .later }
def WordsNamesCardSaid : Prop := Claim7.holds Tryd.pinned (.plain (OpenSpec.ofChange wordsNamesSpec)) wordsNamesCard

/-- THE TIED CARD OF 'raddlelaw41.WordsBack'. -/
def wordsBackCard : Claim7 := { stood := { row := wordsBackRow, standIns := [], harness := (true, "f5a04aeaf5767bd39389b2b3281172ebd6fe9752504cef4ab326f80d5fb7d23b"), looks := false }, kinds := [], alts := [], laidByText := true, laidKinds := [.data, .data, .data, .data, .pinned], laidTests := true, laidLooks := .later }
def WordsBackCardSaid : Prop := Claim7.holds Tryd.pinned (.plain (OpenSpec.ofChange wordsBackSpec)) wordsBackCard

/-- THE TIED CARD OF 'raddlelaw41.WordsPages'. -/
def wordsPagesCard : Claim7 := { stood := { row := wordsPagesRow, standIns := [], harness := (true, "f5a04aeaf5767bd39389b2b3281172ebd6fe9752504cef4ab326f80d5fb7d23b"), looks := false }, kinds := [], alts := [], laidByText := true, laidKinds := [.data, .data, .data, .data, .pinned], laidTests := true, laidLooks := .later }
def WordsPagesCardSaid : Prop := Claim7.holds Tryd.pinned (.plain (OpenSpec.ofChange wordsPagesSpec)) wordsPagesCard

/-- THE TIED CARD OF 'raddlelaw41.WordsApart'. -/
def wordsApartCard : Claim7 := { stood := { row := wordsApartRow, standIns := [], harness := (true, "f5a04aeaf5767bd39389b2b3281172ebd6fe9752504cef4ab326f80d5fb7d23b"), looks := false }, kinds := [], alts := [], laidByText := true, laidKinds := [.data, .data, .data, .data, .pinned], laidTests := true, laidLooks := .later }
def WordsApartCardSaid : Prop := Claim7.holds Tryd.pinned (.plain (OpenSpec.ofChange wordsApartSpec)) wordsApartCard

/-- THE SECOND FORM's CARD OF 'raddlelaw41.WordsCells'. -/
def wordsCellsUptoCard : Claim7 := { stood := { row := wordsCellsUptoRow, standIns := [], harness := (true, "f5a04aeaf5767bd39389b2b3281172ebd6fe9752504cef4ab326f80d5fb7d23b"), looks := false }, kinds := [], alts := [], laidByText := true, laidKinds := [.data, .data, .data, .data, .pinned], laidTests := true, laidLooks := .later }
def WordsCellsUptoCardSaid : Prop := Claim7.holds Tryd.pinned (.plain (OpenSpec.upto wordsCellsSpec)) wordsCellsUptoCard

/-- THE SECOND FORM's CARD OF 'raddlelaw41.WordsRows'. -/
def wordsRowsUptoCard : Claim7 := { stood := { row := wordsRowsUptoRow, standIns := [], harness := (true, "f5a04aeaf5767bd39389b2b3281172ebd6fe9752504cef4ab326f80d5fb7d23b"), looks := false }, kinds := [], alts := [], laidByText := true, laidKinds := [.data, .data, .data, .data, .pinned], laidTests := true, laidLooks := .later }
def WordsRowsUptoCardSaid : Prop := Claim7.holds Tryd.pinned (.plain (OpenSpec.upto wordsRowsSpec)) wordsRowsUptoCard

/-- THE SECOND FORM's CARD OF 'raddlelaw41.WordsNames'. -/
def wordsNamesUptoCard : Claim7 := { stood := { row := wordsNamesUptoRow, standIns := [], harness := (true, "f5a04aeaf5767bd39389b2b3281172ebd6fe9752504cef4ab326f80d5fb7d23b"), looks := false }, kinds := [], alts := [], laidByText := true, laidKinds := [.data, .data, .data, .data, .pinned], laidTests := true, laidLooks := .later }
def WordsNamesUptoCardSaid : Prop := Claim7.holds Tryd.pinned (.plain (OpenSpec.upto wordsNamesSpec)) wordsNamesUptoCard

/-- THE SECOND FORM's CARD OF 'raddlelaw41.WordsBack'. -/
def wordsBackUptoCard : Claim7 := { stood := { row := wordsBackUptoRow, standIns := [], harness := (true, "f5a04aeaf5767bd39389b2b3281172ebd6fe9752504cef4ab326f80d5fb7d23b"), looks := false }, kinds := [], alts := [], laidByText := true, laidKinds := [.data, .data, .data, .data, .pinned], laidTests := true, laidLooks := .later }
def WordsBackUptoCardSaid : Prop := Claim7.holds Tryd.pinned (.plain (OpenSpec.upto wordsBackSpec)) wordsBackUptoCard

/-- THE SECOND FORM's CARD OF 'raddlelaw41.WordsPages'. -/
def wordsPagesUptoCard : Claim7 := { stood := { row := wordsPagesUptoRow, standIns := [], harness := (true, "f5a04aeaf5767bd39389b2b3281172ebd6fe9752504cef4ab326f80d5fb7d23b"), looks := false }, kinds := [], alts := [], laidByText := true, laidKinds := [.data, .data, .data, .data, .pinned], laidTests := true, laidLooks := .later }
def WordsPagesUptoCardSaid : Prop := Claim7.holds Tryd.pinned (.plain (OpenSpec.upto wordsPagesSpec)) wordsPagesUptoCard

/-- THE SECOND FORM's CARD OF 'raddlelaw41.WordsApart'. -/
def wordsApartUptoCard : Claim7 := { stood := { row := wordsApartUptoRow, standIns := [], harness := (true, "f5a04aeaf5767bd39389b2b3281172ebd6fe9752504cef4ab326f80d5fb7d23b"), looks := false }, kinds := [], alts := [], laidByText := true, laidKinds := [.data, .data, .data, .data, .pinned], laidTests := true, laidLooks := .later }
def WordsApartUptoCardSaid : Prop := Claim7.holds Tryd.pinned (.plain (OpenSpec.upto wordsApartSpec)) wordsApartUptoCard
end Rows
end Go.Proofs.YtimmmnanllcfoaaDoor
