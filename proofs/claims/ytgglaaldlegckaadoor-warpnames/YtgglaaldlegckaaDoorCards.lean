/-
  DERIVED. GIVEN WITH THE SEED: THE CARDS: each row of YtgglaaldlegckaaDoorRows.lean that lists a variable, with what it lists TIED to the program's text (the seventh form; the later family's looks); each row that meets fmt, with fmt's text TOLD by the authors' own Lean function (tested against real Go, not proved from fmt's source: count such statements apart). THE CARD IS WHAT COUNTS. Prove the row's statement (the work); the ties are given (YtgglaaldlegckaaDoorTie.lean); close each card by the builder's one call (the guide's Derived/Test/ToyasCard.lean, 'card_holds'). Laid BY PROGRAM, IN A SANDBOX (cutbox-door.mjs). By AI agents, Wed Nov 11 2026. No macro, syntax, notation, axiom, sorry.
-/
import Derived.Test.YtgglaaldlegckaaDoorRows
import GoSem.ClaimSeven
namespace Go.Proofs.YtgglaaldlegckaaDoor
namespace Rows

/-- THE TIED CARD OF 'raddlelaw22.WarpOrders'. -/
def warpOrdersCard : Claim7 := { stood := { row := warpOrdersRow, standIns := [], harness := (true, "66c02b895eca429b36b04227d130dc60601421d094cb46791a2c52041b2b440c"), looks := true }, kinds := [], alts := [], laidByText := true, laidKinds := [.data, .data, .data], laidTests := true, laidLooks := .later }
def WarpOrdersCardSaid : Prop := Claim7.holds Tryd.pinned (.plain (OpenSpec.ofChange warpOrdersSpec)) warpOrdersCard

/-- THE TIED CARD OF 'raddlelaw22.WarpWound'. -/
def warpWoundCard : Claim7 := { stood := { row := warpWoundRow, standIns := [], harness := (true, "66c02b895eca429b36b04227d130dc60601421d094cb46791a2c52041b2b440c"), looks := true }, kinds := [], alts := [], laidByText := true, laidKinds := [.data, .data, .data], laidTests := true, laidLooks := .later }
def WarpWoundCardSaid : Prop := Claim7.holds Tryd.pinned (.plain (OpenSpec.ofChange warpWoundSpec)) warpWoundCard

/-- THE TIED CARD OF 'raddlelaw22.WarpTurned'. -/
def warpTurnedCard : Claim7 := { stood := { row := warpTurnedRow, standIns := [], harness := (true, "66c02b895eca429b36b04227d130dc60601421d094cb46791a2c52041b2b440c"), looks := true }, kinds := [], alts := [], laidByText := true, laidKinds := [.data, .data, .data], laidTests := true, laidLooks := .later }
def WarpTurnedCardSaid : Prop := Claim7.holds Tryd.pinned (.plain (OpenSpec.ofChange warpTurnedSpec)) warpTurnedCard

/-- THE TIED CARD OF 'raddlelaw22.WarpReads'. -/
def warpReadsCard : Claim7 := { stood := { row := warpReadsRow, standIns := [], harness := (true, "66c02b895eca429b36b04227d130dc60601421d094cb46791a2c52041b2b440c"), looks := true }, kinds := [], alts := [], laidByText := true, laidKinds := [.data, .data, .data, .data, .sentinel, .sentinel, .pinned], laidTests := true, laidLooks := .later }
def WarpReadsCardSaid : Prop := Claim7.holds Tryd.pinned (.plain (OpenSpec.ofChange warpReadsSpec)) warpReadsCard

/-- THE TIED CARD OF 'raddlelaw22.WarpNames'. -/
def warpNamesCard : Claim7 := { stood := { row := warpNamesRow, standIns := [], harness := (true, "66c02b895eca429b36b04227d130dc60601421d094cb46791a2c52041b2b440c"), looks := true }, kinds := [], alts := [], laidByText := true, laidKinds := [.data, .data, .data, .data, .sentinel, .sentinel, .pinned], laidTests := true, laidLooks := .later }
def WarpNamesCardSaid : Prop := Claim7.holds Tryd.pinned (.plain (OpenSpec.ofChange warpNamesSpec)) warpNamesCard

/-- THE TIED CARD OF 'raddlelaw22.WarpBack'. -/
def warpBackCard : Claim7 := { stood := { row := warpBackRow, standIns := [], harness := (true, "66c02b895eca429b36b04227d130dc60601421d094cb46791a2c52041b2b440c"), looks := true }, kinds := [], alts := [], laidByText := true, laidKinds := [.data, .data, .data, .data, .sentinel, .sentinel, .pinned], laidTests := true, laidLooks := .later }
def WarpBackCardSaid : Prop := Claim7.holds Tryd.pinned (.plain (OpenSpec.ofChange warpBackSpec)) warpBackCard

/-- THE SECOND FORM's CARD OF 'raddlelaw22.WarpOrders'. -/
def warpOrdersUptoCard : Claim7 := { stood := { row := warpOrdersUptoRow, standIns := [], harness := (true, "66c02b895eca429b36b04227d130dc60601421d094cb46791a2c52041b2b440c"), looks := true }, kinds := [], alts := [], laidByText := true, laidKinds := [.data, .data, .data], laidTests := true, laidLooks := .later }
def WarpOrdersUptoCardSaid : Prop := Claim7.holds Tryd.pinned (.plain (OpenSpec.upto warpOrdersSpec)) warpOrdersUptoCard

/-- THE SECOND FORM's CARD OF 'raddlelaw22.WarpWound'. -/
def warpWoundUptoCard : Claim7 := { stood := { row := warpWoundUptoRow, standIns := [], harness := (true, "66c02b895eca429b36b04227d130dc60601421d094cb46791a2c52041b2b440c"), looks := true }, kinds := [], alts := [], laidByText := true, laidKinds := [.data, .data, .data], laidTests := true, laidLooks := .later }
def WarpWoundUptoCardSaid : Prop := Claim7.holds Tryd.pinned (.plain (OpenSpec.upto warpWoundSpec)) warpWoundUptoCard

/-- THE SECOND FORM's CARD OF 'raddlelaw22.WarpTurned'. -/
def warpTurnedUptoCard : Claim7 := { stood := { row := warpTurnedUptoRow, standIns := [], harness := (true, "66c02b895eca429b36b04227d130dc60601421d094cb46791a2c52041b2b440c"), looks := true }, kinds := [], alts := [], laidByText := true, laidKinds := [.data, .data, .data], laidTests := true, laidLooks := .later }
def WarpTurnedUptoCardSaid : Prop := Claim7.holds Tryd.pinned (.plain (OpenSpec.upto warpTurnedSpec)) warpTurnedUptoCard

/-- THE SECOND FORM's CARD OF 'raddlelaw22.WarpReads'. -/
def warpReadsUptoCard : Claim7 := { stood := { row := warpReadsUptoRow, standIns := [], harness := (true, "66c02b895eca429b36b04227d130dc60601421d094cb46791a2c52041b2b440c"), looks := true }, kinds := [], alts := [], laidByText := true, laidKinds := [.data, .data, .data, .data, .sentinel, .sentinel, .pinned], laidTests := true, laidLooks := .later }
def WarpReadsUptoCardSaid : Prop := Claim7.holds Tryd.pinned (.plain (OpenSpec.upto warpReadsSpec)) warpReadsUptoCard

/-- THE SECOND FORM's CARD OF 'raddlelaw22.WarpNames'. -/
def warpNamesUptoCard : Claim7 := { stood := { row := warpNamesUptoRow, standIns := [], harness := (true, "66c02b895eca429b36b04227d130dc60601421d094cb46791a2c52041b2b440c"), looks := true }, kinds := [], alts := [], laidByText := true, laidKinds := [.data, .data, .data, .data, .sentinel, .sentinel, .pinned], laidTests := true, laidLooks := .later }
def WarpNamesUptoCardSaid : Prop := Claim7.holds Tryd.pinned (.plain (OpenSpec.upto warpNamesSpec)) warpNamesUptoCard

/-- THE SECOND FORM's CARD OF 'raddlelaw22.WarpBack'. -/
def warpBackUptoCard : Claim7 := { stood := { row := warpBackUptoRow, standIns := [], harness := (true, "66c02b895eca429b36b04227d130dc60601421d094cb46791a2c52041b2b440c"), looks := true }, kinds := [], alts := [], laidByText := true, laidKinds := [.data, .data, .data, .data, .sentinel, .sentinel, .pinned], laidTests := true, laidLooks := .later }
def WarpBackUptoCardSaid : Prop := Claim7.holds Tryd.pinned (.plain (OpenSpec.upto warpBackSpec)) warpBackUptoCard
end Rows
end Go.Proofs.YtgglaaldlegckaaDoor
