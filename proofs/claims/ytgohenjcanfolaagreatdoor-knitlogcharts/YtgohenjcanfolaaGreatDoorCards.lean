/-
  DERIVED. GIVEN WITH THE SEED: THE CARDS: each row of YtgohenjcanfolaaGreatDoorRows.lean that lists a variable, with what it lists TIED to the program's text (the seventh form; the later family's looks); each row that meets fmt, with fmt's text TOLD by the authors' own Lean function (tested against real Go, not proved from fmt's source: count such statements apart). THE CARD IS WHAT COUNTS. Prove the row's statement (the work); the ties are given (YtgohenjcanfolaaGreatDoorTie.lean); close each card by the builder's one call (the guide's Derived/Test/ToyasCard.lean, 'card_holds'). Laid BY PROGRAM, IN A SANDBOX (cutbox-door.mjs). By AI agents, Wed Nov 11 2026. No macro, syntax, notation, axiom, sorry.
-/
import Derived.Test.YtgohenjcanfolaaGreatDoorRows
import GoSem.ClaimSeven
namespace Go.Proofs.YtgohenjcanfolaaGreatDoor
namespace Rows

/-- THE TIED CARD OF 'raddlelaw44.KnitlogAsks'. -/
def knitlogAsksCard : Claim7 := { stood := { row := knitlogAsksRow, standIns := [], harness := (true, "078cbd1da042a54d9496c232e06c08f69c622a0e85074aea8e74f0a4380eb7c7"), looks := true }, kinds := [], alts := [], laidByText := true, laidKinds := [.data, .data, .data, .sentinel, .sentinel], laidTests := true, laidLooks := .later }
def KnitlogAsksCardSaid : Prop := Claim7.holds Tryz.pinned (.plain (OpenSpec.ofChange knitlogAsksSpec)) knitlogAsksCard

/-- THE TIED CARD OF 'raddlelaw44.KnitlogLoses'. -/
def knitlogLosesCard : Claim7 := { stood := { row := knitlogLosesRow, standIns := [], harness := (true, "078cbd1da042a54d9496c232e06c08f69c622a0e85074aea8e74f0a4380eb7c7"), looks := true }, kinds := [], alts := [], laidByText := true, laidKinds := [.data, .data, .data, .sentinel, .sentinel], laidTests := true, laidLooks := .later }
def KnitlogLosesCardSaid : Prop := Claim7.holds Tryz.pinned (.plain (OpenSpec.ofChange knitlogLosesSpec)) knitlogLosesCard

/-- THE TIED CARD OF 'raddlelaw44.KnitlogFinds'. -/
def knitlogFindsCard : Claim7 := { stood := { row := knitlogFindsRow, standIns := [], harness := (true, "078cbd1da042a54d9496c232e06c08f69c622a0e85074aea8e74f0a4380eb7c7"), looks := true }, kinds := [], alts := [], laidByText := true, laidKinds := [.data, .data, .data, .sentinel, .sentinel], laidTests := true, laidLooks := .later }
def KnitlogFindsCardSaid : Prop := Claim7.holds Tryz.pinned (.plain (OpenSpec.ofChange knitlogFindsSpec)) knitlogFindsCard

/-- THE TIED CARD OF 'raddlelaw44.KnitlogCharts'. -/
def knitlogChartsCard : Claim7 := { stood := { row := knitlogChartsRow, standIns := [], harness := (true, "078cbd1da042a54d9496c232e06c08f69c622a0e85074aea8e74f0a4380eb7c7"), looks := true }, kinds := [], alts := [], laidByText := true, laidKinds := [.data, .data, .data, .sentinel, .sentinel], laidTests := true, laidLooks := .later }
def KnitlogChartsCardSaid : Prop := Claim7.holds Tryz.pinned (.plain (OpenSpec.ofChange knitlogChartsSpec)) knitlogChartsCard

/-- THE TIED CARD OF 'raddlelaw44.KnitlogWhere'. -/
def knitlogWhereCard : Claim7 := { stood := { row := knitlogWhereRow, standIns := [], harness := (true, "078cbd1da042a54d9496c232e06c08f69c622a0e85074aea8e74f0a4380eb7c7"), looks := true }, kinds := [], alts := [], laidByText := true, laidKinds := [.data, .data, .data, .sentinel, .sentinel], laidTests := true, laidLooks := .later }
def KnitlogWhereCardSaid : Prop := Claim7.holds Tryz.pinned (.plain (OpenSpec.ofChange knitlogWhereSpec)) knitlogWhereCard

/-- THE TIED CARD OF 'raddlelaw44.KnitlogNames'. -/
def knitlogNamesCard : Claim7 := { stood := { row := knitlogNamesRow, standIns := [], harness := (true, "078cbd1da042a54d9496c232e06c08f69c622a0e85074aea8e74f0a4380eb7c7"), looks := true }, kinds := [], alts := [], laidByText := true, laidKinds := [.data, .data, .data, .sentinel, .sentinel], laidTests := true, laidLooks := .later }
def KnitlogNamesCardSaid : Prop := Claim7.holds Tryz.pinned (.plain (OpenSpec.ofChange knitlogNamesSpec)) knitlogNamesCard

/-- THE SECOND FORM's CARD OF 'raddlelaw44.KnitlogAsks'. -/
def knitlogAsksUptoCard : Claim7 := { stood := { row := knitlogAsksUptoRow, standIns := [], harness := (true, "078cbd1da042a54d9496c232e06c08f69c622a0e85074aea8e74f0a4380eb7c7"), looks := true }, kinds := [], alts := [], laidByText := true, laidKinds := [.data, .data, .data, .sentinel, .sentinel], laidTests := true, laidLooks := .later }
def KnitlogAsksUptoCardSaid : Prop := Claim7.holds Tryz.pinned (.plain (OpenSpec.upto knitlogAsksSpec)) knitlogAsksUptoCard

/-- THE SECOND FORM's CARD OF 'raddlelaw44.KnitlogLoses'. -/
def knitlogLosesUptoCard : Claim7 := { stood := { row := knitlogLosesUptoRow, standIns := [], harness := (true, "078cbd1da042a54d9496c232e06c08f69c622a0e85074aea8e74f0a4380eb7c7"), looks := true }, kinds := [], alts := [], laidByText := true, laidKinds := [.data, .data, .data, .sentinel, .sentinel], laidTests := true, laidLooks := .later }
def KnitlogLosesUptoCardSaid : Prop := Claim7.holds Tryz.pinned (.plain (OpenSpec.upto knitlogLosesSpec)) knitlogLosesUptoCard

/-- THE SECOND FORM's CARD OF 'raddlelaw44.KnitlogFinds'. -/
def knitlogFindsUptoCard : Claim7 := { stood := { row := knitlogFindsUptoRow, standIns := [], harness := (true, "078cbd1da042a54d9496c232e06c08f69c622a0e85074aea8e74f0a4380eb7c7"), looks := true }, kinds := [], alts := [], laidByText := true, laidKinds := [.data, .data, .data, .sentinel, .sentinel], laidTests := true, laidLooks := .later }
def KnitlogFindsUptoCardSaid : Prop := Claim7.holds Tryz.pinned (.plain (OpenSpec.upto knitlogFindsSpec)) knitlogFindsUptoCard

/-- THE SECOND FORM's CARD OF 'raddlelaw44.KnitlogCharts'. -/
def knitlogChartsUptoCard : Claim7 := { stood := { row := knitlogChartsUptoRow, standIns := [], harness := (true, "078cbd1da042a54d9496c232e06c08f69c622a0e85074aea8e74f0a4380eb7c7"), looks := true }, kinds := [], alts := [], laidByText := true, laidKinds := [.data, .data, .data, .sentinel, .sentinel], laidTests := true, laidLooks := .later }
def KnitlogChartsUptoCardSaid : Prop := Claim7.holds Tryz.pinned (.plain (OpenSpec.upto knitlogChartsSpec)) knitlogChartsUptoCard

/-- THE SECOND FORM's CARD OF 'raddlelaw44.KnitlogWhere'. -/
def knitlogWhereUptoCard : Claim7 := { stood := { row := knitlogWhereUptoRow, standIns := [], harness := (true, "078cbd1da042a54d9496c232e06c08f69c622a0e85074aea8e74f0a4380eb7c7"), looks := true }, kinds := [], alts := [], laidByText := true, laidKinds := [.data, .data, .data, .sentinel, .sentinel], laidTests := true, laidLooks := .later }
def KnitlogWhereUptoCardSaid : Prop := Claim7.holds Tryz.pinned (.plain (OpenSpec.upto knitlogWhereSpec)) knitlogWhereUptoCard

/-- THE SECOND FORM's CARD OF 'raddlelaw44.KnitlogNames'. -/
def knitlogNamesUptoCard : Claim7 := { stood := { row := knitlogNamesUptoRow, standIns := [], harness := (true, "078cbd1da042a54d9496c232e06c08f69c622a0e85074aea8e74f0a4380eb7c7"), looks := true }, kinds := [], alts := [], laidByText := true, laidKinds := [.data, .data, .data, .sentinel, .sentinel], laidTests := true, laidLooks := .later }
def KnitlogNamesUptoCardSaid : Prop := Claim7.holds Tryz.pinned (.plain (OpenSpec.upto knitlogNamesSpec)) knitlogNamesUptoCard
end Rows
end Go.Proofs.YtgohenjcanfolaaGreatDoor
