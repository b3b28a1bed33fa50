/-
  DERIVED. GIVEN WITH THE SEED: THE CARDS: each row of YthlepdjjdbpmoaaDoorRows.lean that lists a variable, with what it lists TIED to the program's text (the seventh form; the later family's looks); each row that meets fmt, with fmt's text TOLD by the authors' own Lean function (tested against real Go, not proved from fmt's source: count such statements apart). THE CARD IS WHAT COUNTS. Prove the row's statement (the work); the ties are given (YthlepdjjdbpmoaaDoorTie.lean); close each card by the builder's one call (the guide's Derived/Test/ToyasCard.lean, 'card_holds'). Laid BY PROGRAM, IN A SANDBOX (cutbox-door.mjs). By AI agents, Wed Nov 11 2026. No macro, syntax, notation, axiom, sorry.
-/
import Derived.Test.YthlepdjjdbpmoaaDoorRows
import GoSem.ClaimSeven
namespace Go.Proofs.YthlepdjjdbpmoaaDoor
namespace Rows

/-- THE TIED CARD OF 'trommellaw10.PrintTells'. -/
def printTellsCard : Claim7 := { stood := { row := printTellsRow, standIns := [], harness := (true, "33ee7b86a7e4ffb1f67e830675b8f99797c6b2c393ecb6fdcd259d544b7a34ee"), looks := false }, kinds := [], alts := [], laidByText := true, laidKinds := [.data, .data, .data], laidTests := true, laidLooks := .later }
def PrintTellsCardSaid : Prop := Claim7.holds Tryd.pinned (.plain (OpenSpec.ofChange printTellsSpec)) printTellsCard

/-- THE TIED CARD OF 'trommellaw10.PrintExprs'. -/
def printExprsCard : Claim7 := { stood := { row := printExprsRow, standIns := [], harness := (true, "33ee7b86a7e4ffb1f67e830675b8f99797c6b2c393ecb6fdcd259d544b7a34ee"), looks := false }, kinds := [], alts := [], laidByText := true, laidKinds := [.data, .data, .data], laidTests := true, laidLooks := .later }
def PrintExprsCardSaid : Prop := Claim7.holds Tryd.pinned (.plain (OpenSpec.ofChange printExprsSpec)) printExprsCard

/-- THE TIED CARD OF 'trommellaw10.PrintQueries'. -/
def printQueriesCard : Claim7 := { stood := { row := printQueriesRow, standIns := [], harness := (true, "33ee7b86a7e4ffb1f67e830675b8f99797c6b2c393ecb6fdcd259d544b7a34ee"), looks := false }, kinds := [], alts := [], laidByText := true, laidKinds := [.data, .data, .data], laidTests := true, laidLooks := .later }
def PrintQueriesCardSaid : Prop := Claim7.holds Tryd.pinned (.plain (OpenSpec.ofChange printQueriesSpec)) printQueriesCard

/-- THE TIED CARD OF 'trommellaw38.TextGets'. -/
def textGetsCard : Claim7 := { stood := { row := textGetsRow, standIns := [], harness := (true, "33ee7b86a7e4ffb1f67e830675b8f99797c6b2c393ecb6fdcd259d544b7a34ee"), looks := false }, kinds := [], alts := [], laidByText := true, laidKinds := [.data, .pinned], laidTests := true, laidLooks := .later }
def TextGetsCardSaid : Prop := Claim7.holds Tryd.pinned (.plain (OpenSpec.ofChange textGetsSpec)) textGetsCard

/-- THE TIED CARD OF 'trommellaw38.TextValues'. -/
def textValuesCard : Claim7 := { stood := { row := textValuesRow, standIns := [], harness := (true, "33ee7b86a7e4ffb1f67e830675b8f99797c6b2c393ecb6fdcd259d544b7a34ee"), looks := false }, kinds := [], alts := [], laidByText := true, laidKinds := [.data, .data, .data, .data, .pinned], laidTests := true, laidLooks := .later }
def TextValuesCardSaid : Prop := Claim7.holds Tryd.pinned (.plain (OpenSpec.ofChange textValuesSpec)) textValuesCard

/-- THE TIED CARD OF 'trommellaw38.TextPuts'. -/
def textPutsCard : Claim7 := { stood := { row := textPutsRow, standIns := [], harness := (true, "33ee7b86a7e4ffb1f67e830675b8f99797c6b2c393ecb6fdcd259d544b7a34ee"), looks := false }, kinds := [], alts := [], laidByText := true, laidKinds := [.data, .data, .data, .data, .pinned], laidTests := true, laidLooks := .later }
def TextPutsCardSaid : Prop := Claim7.holds Tryd.pinned (.plain (OpenSpec.ofChange textPutsSpec)) textPutsCard

/-- THE TIED CARD OF 'trommellaw38.TextAgain'. -/
def textAgainCard : Claim7 := { stood := { row := textAgainRow, standIns := [], harness := (true, "33ee7b86a7e4ffb1f67e830675b8f99797c6b2c393ecb6fdcd259d544b7a34ee"), looks := false }, kinds := [], alts := [], laidByText := true, laidKinds := [.data, .data, .data, .data, .pinned], laidTests := true, laidLooks := .later }
def TextAgainCardSaid : Prop := Claim7.holds Tryd.pinned (.plain (OpenSpec.ofChange textAgainSpec)) textAgainCard

/-- THE SECOND FORM's CARD OF 'trommellaw10.PrintTells'. -/
def printTellsUptoCard : Claim7 := { stood := { row := printTellsUptoRow, standIns := [], harness := (true, "33ee7b86a7e4ffb1f67e830675b8f99797c6b2c393ecb6fdcd259d544b7a34ee"), looks := false }, kinds := [], alts := [], laidByText := true, laidKinds := [.data, .data, .data], laidTests := true, laidLooks := .later }
def PrintTellsUptoCardSaid : Prop := Claim7.holds Tryd.pinned (.plain (OpenSpec.upto printTellsSpec)) printTellsUptoCard

/-- THE SECOND FORM's CARD OF 'trommellaw10.PrintExprs'. -/
def printExprsUptoCard : Claim7 := { stood := { row := printExprsUptoRow, standIns := [], harness := (true, "33ee7b86a7e4ffb1f67e830675b8f99797c6b2c393ecb6fdcd259d544b7a34ee"), looks := false }, kinds := [], alts := [], laidByText := true, laidKinds := [.data, .data, .data], laidTests := true, laidLooks := .later }
def PrintExprsUptoCardSaid : Prop := Claim7.holds Tryd.pinned (.plain (OpenSpec.upto printExprsSpec)) printExprsUptoCard

/-- THE SECOND FORM's CARD OF 'trommellaw10.PrintQueries'. -/
def printQueriesUptoCard : Claim7 := { stood := { row := printQueriesUptoRow, standIns := [], harness := (true, "33ee7b86a7e4ffb1f67e830675b8f99797c6b2c393ecb6fdcd259d544b7a34ee"), looks := false }, kinds := [], alts := [], laidByText := true, laidKinds := [.data, .data, .data], laidTests := true, laidLooks := .later }
def PrintQueriesUptoCardSaid : Prop := Claim7.holds Tryd.pinned (.plain (OpenSpec.upto printQueriesSpec)) printQueriesUptoCard

/-- THE SECOND FORM's CARD OF 'trommellaw38.TextGets'. -/
def textGetsUptoCard : Claim7 := { stood := { row := textGetsUptoRow, standIns := [], harness := (true, "33ee7b86a7e4ffb1f67e830675b8f99797c6b2c393ecb6fdcd259d544b7a34ee"), looks := false }, kinds := [], alts := [], laidByText := true, laidKinds := [.data, .pinned], laidTests := true, laidLooks := .later }
def TextGetsUptoCardSaid : Prop := Claim7.holds Tryd.pinned (.plain (OpenSpec.upto textGetsSpec)) textGetsUptoCard

/-- THE SECOND FORM's CARD OF 'trommellaw38.TextValues'. -/
def textValuesUptoCard : Claim7 := { stood := { row := textValuesUptoRow, standIns := [], harness := (true, "33ee7b86a7e4ffb1f67e830675b8f99797c6b2c393ecb6fdcd259d544b7a34ee"), looks := false }, kinds := [], alts := [], laidByText := true, laidKinds := [.data, .data, .data, .data, .pinned], laidTests := true, laidLooks := .later }
def TextValuesUptoCardSaid : Prop := Claim7.holds Tryd.pinned (.plain (OpenSpec.upto textValuesSpec)) textValuesUptoCard

/-- THE SECOND FORM's CARD OF 'trommellaw38.TextPuts'. -/
def textPutsUptoCard : Claim7 := { stood := { row := textPutsUptoRow, standIns := [], harness := (true, "33ee7b86a7e4ffb1f67e830675b8f99797c6b2c393ecb6fdcd259d544b7a34ee"), looks := false }, kinds := [], alts := [], laidByText := true, laidKinds := [.data, .data, .data, .data, .pinned], laidTests := true, laidLooks := .later }
def TextPutsUptoCardSaid : Prop := Claim7.holds Tryd.pinned (.plain (OpenSpec.upto textPutsSpec)) textPutsUptoCard

/-- THE SECOND FORM's CARD OF 'trommellaw38.TextAgain'. -/
def textAgainUptoCard : Claim7 := { stood := { row := textAgainUptoRow, standIns := [], harness := (true, "33ee7b86a7e4ffb1f67e830675b8f99797c6b2c393ecb6fdcd259d544b7a34ee"), looks := false }, kinds := [], alts := [], laidByText := true, laidKinds := [.data, .data, .data, .data, .pinned], laidTests := true, laidLooks := .later }
def TextAgainUptoCardSaid : Prop := Claim7.holds Tryd.pinned (.plain (OpenSpec.upto textAgainSpec)) textAgainUptoCard
end Rows
end Go.Proofs.YthlepdjjdbpmoaaDoor
