/-
  DERIVED. GIVEN WITH THE SEED: THE CARDS: each row of YtepdkmdcainddaaDoorRows.lean that lists a variable, with what it lists TIED to the program's text (the seventh form; the later family's looks); each row that meets fmt, with fmt's text TOLD by the authors' own Lean function (tested against real Go, not proved from fmt's source: count such statements apart). THE CARD IS WHAT COUNTS. Prove the row's statement (the work); the ties are given (YtepdkmdcainddaaDoorTie.lean); close each card by the builder's one call (the guide's Derived/Test/ToyasCard.lean, 'card_holds'). Laid BY PROGRAM, IN A SANDBOX (cutbox-door.mjs). By AI agents, Wed Nov 11 2026. No macro, syntax, notation, axiom, sorry.
-/
import Derived.Test.YtepdkmdcainddaaDoorRows
import GoSem.ClaimSeven
namespace Go.Proofs.YtepdkmdcainddaaDoor
namespace Rows

/-- THE TIED CARD OF 'raddlelaw18.PegLifts'. -/
def pegLiftsCard : Claim7 := { stood := { row := pegLiftsRow, standIns := [], harness := (true, "d74ea73d3c0014fa0f5625d0e1e6ae24ebc9700bd103d754591c7e3eac1cfbb8"), looks := true }, kinds := [], alts := [], laidByText := true, laidKinds := [.data, .data, .data], laidTests := true, laidLooks := .later }
def PegLiftsCardSaid : Prop := Claim7.holds Tryd.pinned (.plain (OpenSpec.ofChange pegLiftsSpec)) pegLiftsCard

/-- THE TIED CARD OF 'raddlelaw18.PegOne'. -/
def pegOneCard : Claim7 := { stood := { row := pegOneRow, standIns := [], harness := (true, "d74ea73d3c0014fa0f5625d0e1e6ae24ebc9700bd103d754591c7e3eac1cfbb8"), looks := true }, kinds := [], alts := [], laidByText := true, laidKinds := [.data, .data, .data], laidTests := true, laidLooks := .later }
def PegOneCardSaid : Prop := Claim7.holds Tryd.pinned (.plain (OpenSpec.ofChange pegOneSpec)) pegOneCard

/-- THE TIED CARD OF 'raddlelaw18.PegTwo'. -/
def pegTwoCard : Claim7 := { stood := { row := pegTwoRow, standIns := [], harness := (true, "d74ea73d3c0014fa0f5625d0e1e6ae24ebc9700bd103d754591c7e3eac1cfbb8"), looks := true }, kinds := [], alts := [], laidByText := true, laidKinds := [.data, .data, .data], laidTests := true, laidLooks := .later }
def PegTwoCardSaid : Prop := Claim7.holds Tryd.pinned (.plain (OpenSpec.ofChange pegTwoSpec)) pegTwoCard

/-- THE TIED CARD OF 'raddlelaw18.PegReads'. -/
def pegReadsCard : Claim7 := { stood := { row := pegReadsRow, standIns := [], harness := (true, "d74ea73d3c0014fa0f5625d0e1e6ae24ebc9700bd103d754591c7e3eac1cfbb8"), looks := true }, kinds := [], alts := [], laidByText := true, laidKinds := [.data, .data, .data, .data, .sentinel, .sentinel, .pinned], laidTests := true, laidLooks := .later }
def PegReadsCardSaid : Prop := Claim7.holds Tryd.pinned (.plain (OpenSpec.ofChange pegReadsSpec)) pegReadsCard

/-- THE TIED CARD OF 'raddlelaw18.PegBack'. -/
def pegBackCard : Claim7 := { stood := { row := pegBackRow, standIns := [], harness := (true, "d74ea73d3c0014fa0f5625d0e1e6ae24ebc9700bd103d754591c7e3eac1cfbb8"), looks := true }, kinds := [], alts := [], laidByText := true, laidKinds := [.data, .data, .data, .data, .sentinel, .sentinel, .pinned], laidTests := true, laidLooks := .later }
def PegBackCardSaid : Prop := Claim7.holds Tryd.pinned (.plain (OpenSpec.ofChange pegBackSpec)) pegBackCard

/-- THE TIED CARD OF 'raddlelaw18.PegNames'. -/
def pegNamesCard : Claim7 := { stood := { row := pegNamesRow, standIns := [], harness := (true, "d74ea73d3c0014fa0f5625d0e1e6ae24ebc9700bd103d754591c7e3eac1cfbb8"), looks := true }, kinds := [], alts := [], laidByText := true, laidKinds := [.data, .data, .data, .data, .sentinel, .sentinel, .pinned], laidTests := true, laidLooks := .later }
def PegNamesCardSaid : Prop := Claim7.holds Tryd.pinned (.plain (OpenSpec.ofChange pegNamesSpec)) pegNamesCard

/-- THE SECOND FORM's CARD OF 'raddlelaw18.PegLifts'. -/
def pegLiftsUptoCard : Claim7 := { stood := { row := pegLiftsUptoRow, standIns := [], harness := (true, "d74ea73d3c0014fa0f5625d0e1e6ae24ebc9700bd103d754591c7e3eac1cfbb8"), looks := true }, kinds := [], alts := [], laidByText := true, laidKinds := [.data, .data, .data], laidTests := true, laidLooks := .later }
def PegLiftsUptoCardSaid : Prop := Claim7.holds Tryd.pinned (.plain (OpenSpec.upto pegLiftsSpec)) pegLiftsUptoCard

/-- THE SECOND FORM's CARD OF 'raddlelaw18.PegOne'. -/
def pegOneUptoCard : Claim7 := { stood := { row := pegOneUptoRow, standIns := [], harness := (true, "d74ea73d3c0014fa0f5625d0e1e6ae24ebc9700bd103d754591c7e3eac1cfbb8"), looks := true }, kinds := [], alts := [], laidByText := true, laidKinds := [.data, .data, .data], laidTests := true, laidLooks := .later }
def PegOneUptoCardSaid : Prop := Claim7.holds Tryd.pinned (.plain (OpenSpec.upto pegOneSpec)) pegOneUptoCard

/-- THE SECOND FORM's CARD OF 'raddlelaw18.PegTwo'. -/
def pegTwoUptoCard : Claim7 := { stood := { row := pegTwoUptoRow, standIns := [], harness := (true, "d74ea73d3c0014fa0f5625d0e1e6ae24ebc9700bd103d754591c7e3eac1cfbb8"), looks := true }, kinds := [], alts := [], laidByText := true, laidKinds := [.data, .data, .data], laidTests := true, laidLooks := .later }
def PegTwoUptoCardSaid : Prop := Claim7.holds Tryd.pinned (.plain (OpenSpec.upto pegTwoSpec)) pegTwoUptoCard

/-- THE SECOND FORM's CARD OF 'raddlelaw18.PegReads'. -/
def pegReadsUptoCard : Claim7 := { stood := { row := pegReadsUptoRow, standIns := [], harness := (true, "d74ea73d3c0014fa0f5625d0e1e6ae24ebc9700bd103d754591c7e3eac1cfbb8"), looks := true }, kinds := [], alts := [], laidByText := true, laidKinds := [.data, .data, .data, .data, .sentinel, .sentinel, .pinned], laidTests := true, laidLooks := .later }
def PegReadsUptoCardSaid : Prop := Claim7.holds Tryd.pinned (.plain (OpenSpec.upto pegReadsSpec)) pegReadsUptoCard

/-- THE SECOND FORM's CARD OF 'raddlelaw18.PegBack'. -/
def pegBackUptoCard : Claim7 := { stood := { row := pegBackUptoRow, standIns := [], harness := (true, "d74ea73d3c0014fa0f5625d0e1e6ae24ebc9700bd103d754591c7e3eac1cfbb8"), looks := true }, kinds := [], alts := [], laidByText := true, laidKinds := [.data, .data, .data, .data, .sentinel, .sentinel, .pinned], laidTests := true, laidLooks := .later }
def PegBackUptoCardSaid : Prop := Claim7.holds Tryd.pinned (.plain (OpenSpec.upto pegBackSpec)) pegBackUptoCard

/-- THE SECOND FORM's CARD OF 'raddlelaw18.PegNames'. -/
def pegNamesUptoCard : Claim7 := { stood := { row := pegNamesUptoRow, standIns := [], harness := (true, "d74ea73d3c0014fa0f5625d0e1e6ae24ebc9700bd103d754591c7e3eac1cfbb8"), looks := true }, kinds := [], alts := [], laidByText := true, laidKinds := [.data, .data, .data, .data, .sentinel, .sentinel, .pinned], laidTests := true, laidLooks := .later }
def PegNamesUptoCardSaid : Prop := Claim7.holds Tryd.pinned (.plain (OpenSpec.upto pegNamesSpec)) pegNamesUptoCard
end Rows
end Go.Proofs.YtepdkmdcainddaaDoor
