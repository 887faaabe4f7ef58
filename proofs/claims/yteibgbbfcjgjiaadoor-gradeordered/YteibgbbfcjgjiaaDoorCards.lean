/-
  DERIVED. GIVEN WITH THE SEED: THE CARDS: each row of YteibgbbfcjgjiaaDoorRows.lean that lists a variable, with what it lists TIED to the program's text (the seventh form; the later family's looks); each row that meets fmt, with fmt's text TOLD by the authors' own Lean function (tested against real Go, not proved from fmt's source: count such statements apart). THE CARD IS WHAT COUNTS. Prove the row's statement (the work); the ties are given (YteibgbbfcjgjiaaDoorTie.lean); close each card by the builder's one call (the guide's Derived/Test/ToyasCard.lean, 'card_holds'). Laid BY PROGRAM, IN A SANDBOX (cutbox-door.mjs). By AI agents, Wed Nov 11 2026. No macro, syntax, notation, axiom, sorry.
-/
import Derived.Test.YteibgbbfcjgjiaaDoorRows
import GoSem.ClaimSeven
namespace Go.Proofs.YteibgbbfcjgjiaaDoor
namespace Rows

/-- THE TIED CARD OF 'raddlelaw40.GradeTexts'. -/
def gradeTextsCard : Claim7 := { stood := { row := gradeTextsRow, standIns := [], harness := (true, "df7c7f8213ac217e087bbc34b215e31a8b4fe72022695b5d46487321d82c73df"), looks := true }, kinds := [], alts := [], laidByText := true, laidKinds := [.data, .data, .data, .data, .sentinel, .sentinel, .pinned], laidTests := true, laidLooks := .later }
def GradeTextsCardSaid : Prop := Claim7.holds Tryd.pinned (.plain (OpenSpec.ofChange gradeTextsSpec)) gradeTextsCard

/-- THE TIED CARD OF 'raddlelaw40.GradeBetween'. -/
def gradeBetweenCard : Claim7 := { stood := { row := gradeBetweenRow, standIns := [], harness := (true, "df7c7f8213ac217e087bbc34b215e31a8b4fe72022695b5d46487321d82c73df"), looks := true }, kinds := [], alts := [], laidByText := true, laidKinds := [.data, .data, .data, .data, .sentinel, .sentinel, .pinned], laidTests := true, laidLooks := .later }
def GradeBetweenCardSaid : Prop := Claim7.holds Tryd.pinned (.plain (OpenSpec.ofChange gradeBetweenSpec)) gradeBetweenCard

/-- THE TIED CARD OF 'raddlelaw40.GradeBack'. -/
def gradeBackCard : Claim7 := { stood := { row := gradeBackRow, standIns := [], harness := (true, "df7c7f8213ac217e087bbc34b215e31a8b4fe72022695b5d46487321d82c73df"), looks := true }, kinds := [], alts := [], laidByText := true, laidKinds := [.data, .data, .data, .data, .sentinel, .sentinel, .pinned], laidTests := true, laidLooks := .later }
def GradeBackCardSaid : Prop := Claim7.holds Tryd.pinned (.plain (OpenSpec.ofChange gradeBackSpec)) gradeBackCard

/-- THE TIED CARD OF 'raddlelaw40.GradeOrdered'. -/
def gradeOrderedCard : Claim7 := { stood := { row := gradeOrderedRow, standIns := [], harness := (true, "df7c7f8213ac217e087bbc34b215e31a8b4fe72022695b5d46487321d82c73df"), looks := true }, kinds := [], alts := [], laidByText := true, laidKinds := [.data, .data, .data, .data, .sentinel, .sentinel, .pinned], laidTests := true, laidLooks := .later }
def GradeOrderedCardSaid : Prop := Claim7.holds Tryd.pinned (.plain (OpenSpec.ofChange gradeOrderedSpec)) gradeOrderedCard

/-- THE TIED CARD OF 'raddlelaw40.GradeFind'. -/
def gradeFindCard : Claim7 := { stood := { row := gradeFindRow, standIns := [], harness := (true, "df7c7f8213ac217e087bbc34b215e31a8b4fe72022695b5d46487321d82c73df"), looks := true }, kinds := [], alts := [], laidByText := true, laidKinds := [.data, .data, .data, .data, .sentinel, .sentinel, .pinned], laidTests := true, laidLooks := .later }
def GradeFindCardSaid : Prop := Claim7.holds Tryd.pinned (.plain (OpenSpec.ofChange gradeFindSpec)) gradeFindCard

/-- THE TIED CARD OF 'raddlelaw40.GradeNames'. -/
def gradeNamesCard : Claim7 := { stood := { row := gradeNamesRow, standIns := [], harness := (true, "df7c7f8213ac217e087bbc34b215e31a8b4fe72022695b5d46487321d82c73df"), looks := true }, kinds := [], alts := [], laidByText := true, laidKinds := [.data, .data, .data, .data, .sentinel, .sentinel, .pinned], laidTests := true, laidLooks := .later }
def GradeNamesCardSaid : Prop := Claim7.holds Tryd.pinned (.plain (OpenSpec.ofChange gradeNamesSpec)) gradeNamesCard

/-- THE SECOND FORM's CARD OF 'raddlelaw40.GradeTexts'. -/
def gradeTextsUptoCard : Claim7 := { stood := { row := gradeTextsUptoRow, standIns := [], harness := (true, "df7c7f8213ac217e087bbc34b215e31a8b4fe72022695b5d46487321d82c73df"), looks := true }, kinds := [], alts := [], laidByText := true, laidKinds := [.data, .data, .data, .data, .sentinel, .sentinel, .pinned], laidTests := true, laidLooks := .later }
def GradeTextsUptoCardSaid : Prop := Claim7.holds Tryd.pinned (.plain (OpenSpec.upto gradeTextsSpec)) gradeTextsUptoCard

/-- THE SECOND FORM's CARD OF 'raddlelaw40.GradeBetween'. -/
def gradeBetweenUptoCard : Claim7 := { stood := { row := gradeBetweenUptoRow, standIns := [], harness := (true, "df7c7f8213ac217e087bbc34b215e31a8b4fe72022695b5d46487321d82c73df"), looks := true }, kinds := [], alts := [], laidByText := true, laidKinds := [.data, .data, .data, .data, .sentinel, .sentinel, .pinned], laidTests := true, laidLooks := .later }
def GradeBetweenUptoCardSaid : Prop := Claim7.holds Tryd.pinned (.plain (OpenSpec.upto gradeBetweenSpec)) gradeBetweenUptoCard

/-- THE SECOND FORM's CARD OF 'raddlelaw40.GradeBack'. -/
def gradeBackUptoCard : Claim7 := { stood := { row := gradeBackUptoRow, standIns := [], harness := (true, "df7c7f8213ac217e087bbc34b215e31a8b4fe72022695b5d46487321d82c73df"), looks := true }, kinds := [], alts := [], laidByText := true, laidKinds := [.data, .data, .data, .data, .sentinel, .sentinel, .pinned], laidTests := true, laidLooks := .later }
def GradeBackUptoCardSaid : Prop := Claim7.holds Tryd.pinned (.plain (OpenSpec.upto gradeBackSpec)) gradeBackUptoCard

/-- THE SECOND FORM's CARD OF 'raddlelaw40.GradeOrdered'. -/
def gradeOrderedUptoCard : Claim7 := { stood := { row := gradeOrderedUptoRow, standIns := [], harness := (true, "df7c7f8213ac217e087bbc34b215e31a8b4fe72022695b5d46487321d82c73df"), looks := true }, kinds := [], alts := [], laidByText := true, laidKinds := [.data, .data, .data, .data, .sentinel, .sentinel, .pinned], laidTests := true, laidLooks := .later }
def GradeOrderedUptoCardSaid : Prop := Claim7.holds Tryd.pinned (.plain (OpenSpec.upto gradeOrderedSpec)) gradeOrderedUptoCard

/-- THE SECOND FORM's CARD OF 'raddlelaw40.GradeFind'. -/
def gradeFindUptoCard : Claim7 := { stood := { row := gradeFindUptoRow, standIns := [], harness := (true, "df7c7f8213ac217e087bbc34b215e31a8b4fe72022695b5d46487321d82c73df"), looks := true }, kinds := [], alts := [], laidByText := true, laidKinds := [.data, .data, .data, .data, .sentinel, .sentinel, .pinned], laidTests := true, laidLooks := .later }
def GradeFindUptoCardSaid : Prop := Claim7.holds Tryd.pinned (.plain (OpenSpec.upto gradeFindSpec)) gradeFindUptoCard

/-- THE SECOND FORM's CARD OF 'raddlelaw40.GradeNames'. -/
def gradeNamesUptoCard : Claim7 := { stood := { row := gradeNamesUptoRow, standIns := [], harness := (true, "df7c7f8213ac217e087bbc34b215e31a8b4fe72022695b5d46487321d82c73df"), looks := true }, kinds := [], alts := [], laidByText := true, laidKinds := [.data, .data, .data, .data, .sentinel, .sentinel, .pinned], laidTests := true, laidLooks := .later }
def GradeNamesUptoCardSaid : Prop := Claim7.holds Tryd.pinned (.plain (OpenSpec.upto gradeNamesSpec)) gradeNamesUptoCard
end Rows
end Go.Proofs.YteibgbbfcjgjiaaDoor
