/-
  DERIVED. GIVEN WITH THE SEED: THE CARDS: each row of YtkjkiodoighgnaaDoorRows.lean that lists a variable, with what it lists TIED to the program's text (the seventh form; the later family's looks); each row that meets fmt, with fmt's text TOLD by the authors' own Lean function (tested against real Go, not proved from fmt's source: count such statements apart). THE CARD IS WHAT COUNTS. Prove the row's statement (the work); the ties are given (YtkjkiodoighgnaaDoorTie.lean); close each card by the builder's one call (the guide's Derived/Test/ToyasCard.lean, 'card_holds'). Laid BY PROGRAM, IN A SANDBOX (cutbox-door.mjs). By AI agents, Wed Nov 11 2026. No macro, syntax, notation, axiom, sorry.
-/
import Derived.Test.YtkjkiodoighgnaaDoorRows
import GoSem.ClaimSeven
namespace Go.Proofs.YtkjkiodoighgnaaDoor
namespace Rows

/-- THE TIED CARD OF 'raddlelaw02.ThreadBack'. -/
def threadBackCard : Claim7 := { stood := { row := threadBackRow, standIns := [], harness := (true, "76cb9279742a4f36b32250e9dd4b0a4fec625fa035093589c55fcd52c621f83c"), looks := true }, kinds := [], alts := [], laidByText := true, laidKinds := [.data, .data, .data, .data, .sentinel, .sentinel, .pinned], laidTests := true, laidLooks := .later }
def ThreadBackCardSaid : Prop := Claim7.holds Tryd.pinned (.plain (OpenSpec.ofChange threadBackSpec)) threadBackCard

/-- THE TIED CARD OF 'raddlelaw02.ThreadTexts'. -/
def threadTextsCard : Claim7 := { stood := { row := threadTextsRow, standIns := [], harness := (true, "76cb9279742a4f36b32250e9dd4b0a4fec625fa035093589c55fcd52c621f83c"), looks := true }, kinds := [], alts := [], laidByText := true, laidKinds := [.data, .data, .data, .data, .sentinel, .sentinel, .pinned], laidTests := true, laidLooks := .later }
def ThreadTextsCardSaid : Prop := Claim7.holds Tryd.pinned (.plain (OpenSpec.ofChange threadTextsSpec)) threadTextsCard

/-- THE TIED CARD OF 'raddlelaw02.ThreadCanonical'. -/
def threadCanonicalCard : Claim7 := { stood := { row := threadCanonicalRow, standIns := [], harness := (true, "76cb9279742a4f36b32250e9dd4b0a4fec625fa035093589c55fcd52c621f83c"), looks := true }, kinds := [], alts := [], laidByText := true, laidKinds := [.data, .data, .data, .data, .sentinel, .sentinel, .pinned], laidTests := true, laidLooks := .later }
def ThreadCanonicalCardSaid : Prop := Claim7.holds Tryd.pinned (.plain (OpenSpec.ofChange threadCanonicalSpec)) threadCanonicalCard

/-- THE TIED CARD OF 'raddlelaw02.ThreadSteps'. -/
def threadStepsCard : Claim7 := { stood := { row := threadStepsRow, standIns := [], harness := (true, "76cb9279742a4f36b32250e9dd4b0a4fec625fa035093589c55fcd52c621f83c"), looks := true }, kinds := [], alts := [], laidByText := true, laidKinds := [.data, .data, .data, .data, .sentinel, .sentinel, .pinned], laidTests := true, laidLooks := .later }
def ThreadStepsCardSaid : Prop := Claim7.holds Tryd.pinned (.plain (OpenSpec.ofChange threadStepsSpec)) threadStepsCard

/-- THE SECOND FORM's CARD OF 'raddlelaw02.ThreadBack'. -/
def threadBackUptoCard : Claim7 := { stood := { row := threadBackUptoRow, standIns := [], harness := (true, "76cb9279742a4f36b32250e9dd4b0a4fec625fa035093589c55fcd52c621f83c"), looks := true }, kinds := [], alts := [], laidByText := true, laidKinds := [.data, .data, .data, .data, .sentinel, .sentinel, .pinned], laidTests := true, laidLooks := .later }
def ThreadBackUptoCardSaid : Prop := Claim7.holds Tryd.pinned (.plain (OpenSpec.upto threadBackSpec)) threadBackUptoCard

/-- THE SECOND FORM's CARD OF 'raddlelaw02.ThreadTexts'. -/
def threadTextsUptoCard : Claim7 := { stood := { row := threadTextsUptoRow, standIns := [], harness := (true, "76cb9279742a4f36b32250e9dd4b0a4fec625fa035093589c55fcd52c621f83c"), looks := true }, kinds := [], alts := [], laidByText := true, laidKinds := [.data, .data, .data, .data, .sentinel, .sentinel, .pinned], laidTests := true, laidLooks := .later }
def ThreadTextsUptoCardSaid : Prop := Claim7.holds Tryd.pinned (.plain (OpenSpec.upto threadTextsSpec)) threadTextsUptoCard

/-- THE SECOND FORM's CARD OF 'raddlelaw02.ThreadCanonical'. -/
def threadCanonicalUptoCard : Claim7 := { stood := { row := threadCanonicalUptoRow, standIns := [], harness := (true, "76cb9279742a4f36b32250e9dd4b0a4fec625fa035093589c55fcd52c621f83c"), looks := true }, kinds := [], alts := [], laidByText := true, laidKinds := [.data, .data, .data, .data, .sentinel, .sentinel, .pinned], laidTests := true, laidLooks := .later }
def ThreadCanonicalUptoCardSaid : Prop := Claim7.holds Tryd.pinned (.plain (OpenSpec.upto threadCanonicalSpec)) threadCanonicalUptoCard

/-- THE SECOND FORM's CARD OF 'raddlelaw02.ThreadSteps'. -/
def threadStepsUptoCard : Claim7 := { stood := { row := threadStepsUptoRow, standIns := [], harness := (true, "76cb9279742a4f36b32250e9dd4b0a4fec625fa035093589c55fcd52c621f83c"), looks := true }, kinds := [], alts := [], laidByText := true, laidKinds := [.data, .data, .data, .data, .sentinel, .sentinel, .pinned], laidTests := true, laidLooks := .later }
def ThreadStepsUptoCardSaid : Prop := Claim7.holds Tryd.pinned (.plain (OpenSpec.upto threadStepsSpec)) threadStepsUptoCard
end Rows
end Go.Proofs.YtkjkiodoighgnaaDoor
