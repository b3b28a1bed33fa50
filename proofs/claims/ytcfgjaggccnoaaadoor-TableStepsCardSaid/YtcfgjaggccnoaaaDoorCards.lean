/-
  DERIVED. GIVEN WITH THE SEED: THE CARDS: each row of YtcfgjaggccnoaaaDoorRows.lean that lists a variable, with what it lists TIED to the program's text (the seventh form; the later family's looks); each row that meets fmt, with fmt's text TOLD by the authors' own Lean function (tested against real Go, not proved from fmt's source: count such statements apart). THE CARD IS WHAT COUNTS. Prove the row's statement (the work); the ties are given (YtcfgjaggccnoaaaDoorTie.lean); close each card by the builder's one call (the guide's Derived/Test/ToyasCard.lean, 'card_holds'). Laid BY PROGRAM, IN A SANDBOX (cutbox-door.mjs). By AI agents, Wed Nov 11 2026. No macro, syntax, notation, axiom, sorry.
-/
import Derived.Test.YtcfgjaggccnoaaaDoorRows
import GoSem.ClaimSeven
namespace Go.Proofs.YtcfgjaggccnoaaaDoor
namespace Rows

/-- THE TIED CARD OF 'trommellaw17.HashVals'. -/
def hashValsCard : Claim7 := { stood := { row := hashValsRow, standIns := [], harness := (true, "79a19decd198a844dfa6936f4ed27e25742949be84072b4db1f284f8dd9af03b"), looks := false }, kinds := [], alts := [], laidByText := true, laidKinds := [.data, .data, .data], laidTests := true, laidLooks := .later }
def HashValsCardSaid : Prop := Claim7.holds Tryd.pinned (.plain (OpenSpec.ofChange hashValsSpec)) hashValsCard

/-- THE TIED CARD OF 'trommellaw34.TableSeeds'. -/
def tableSeedsCard : Claim7 := { stood := { row := tableSeedsRow, standIns := [], harness := (true, "79a19decd198a844dfa6936f4ed27e25742949be84072b4db1f284f8dd9af03b"), looks := false }, kinds := [], alts := [], laidByText := true, laidKinds := [.data, .data, .data], laidTests := true, laidLooks := .later }
def TableSeedsCardSaid : Prop := Claim7.holds Tryd.pinned (.plain (OpenSpec.ofChange tableSeedsSpec)) tableSeedsCard

/-- THE TIED CARD OF 'trommellaw20.SiftZeros'. -/
def siftZerosCard : Claim7 := { stood := { row := siftZerosRow, standIns := [], harness := (true, "79a19decd198a844dfa6936f4ed27e25742949be84072b4db1f284f8dd9af03b"), looks := false }, kinds := [], alts := [], laidByText := true, laidKinds := [.data, .data, .data], laidTests := true, laidLooks := .later }
def SiftZerosCardSaid : Prop := Claim7.holds Tryd.pinned (.plain (OpenSpec.ofChange siftZerosSpec)) siftZerosCard

/-- THE TIED CARD OF 'trommellaw34.TableSteps'. -/
def tableStepsCard : Claim7 := { stood := { row := tableStepsRow, standIns := [], harness := (true, "79a19decd198a844dfa6936f4ed27e25742949be84072b4db1f284f8dd9af03b"), looks := false }, kinds := [], alts := [], laidByText := true, laidKinds := [.data, .data, .data], laidTests := true, laidLooks := .later }
def TableStepsCardSaid : Prop := Claim7.holds Tryd.pinned (.plain (OpenSpec.ofChange tableStepsSpec)) tableStepsCard

/-- THE TIED CARD OF 'trommellaw34.TableNils'. -/
def tableNilsCard : Claim7 := { stood := { row := tableNilsRow, standIns := [], harness := (true, "79a19decd198a844dfa6936f4ed27e25742949be84072b4db1f284f8dd9af03b"), looks := false }, kinds := [], alts := [], laidByText := true, laidKinds := [.data, .data, .data], laidTests := true, laidLooks := .later }
def TableNilsCardSaid : Prop := Claim7.holds Tryd.pinned (.plain (OpenSpec.ofChange tableNilsSpec)) tableNilsCard

/-- THE TIED CARD OF 'trommellaw20.SiftKeeps'. -/
def siftKeepsCard : Claim7 := { stood := { row := siftKeepsRow, standIns := [], harness := (true, "79a19decd198a844dfa6936f4ed27e25742949be84072b4db1f284f8dd9af03b"), looks := false }, kinds := [], alts := [], laidByText := true, laidKinds := [.data, .data, .data], laidTests := true, laidLooks := .later }
def SiftKeepsCardSaid : Prop := Claim7.holds Tryd.pinned (.plain (OpenSpec.ofChange siftKeepsSpec)) siftKeepsCard

/-- THE TIED CARD OF 'trommellaw20.SiftPasses'. -/
def siftPassesCard : Claim7 := { stood := { row := siftPassesRow, standIns := [], harness := (true, "79a19decd198a844dfa6936f4ed27e25742949be84072b4db1f284f8dd9af03b"), looks := false }, kinds := [], alts := [], laidByText := true, laidKinds := [.data, .data, .data], laidTests := true, laidLooks := .later }
def SiftPassesCardSaid : Prop := Claim7.holds Tryd.pinned (.plain (OpenSpec.ofChange siftPassesSpec)) siftPassesCard

/-- THE TIED CARD OF 'trommellaw38.TextGets'. -/
def textGetsCard : Claim7 := { stood := { row := textGetsRow, standIns := [], harness := (true, "79a19decd198a844dfa6936f4ed27e25742949be84072b4db1f284f8dd9af03b"), looks := false }, kinds := [], alts := [], laidByText := true, laidKinds := [.data, .pinned], laidTests := true, laidLooks := .later }
def TextGetsCardSaid : Prop := Claim7.holds Tryd.pinned (.plain (OpenSpec.ofChange textGetsSpec)) textGetsCard

/-- THE SECOND FORM's CARD OF 'trommellaw17.HashVals'. -/
def hashValsUptoCard : Claim7 := { stood := { row := hashValsUptoRow, standIns := [], harness := (true, "79a19decd198a844dfa6936f4ed27e25742949be84072b4db1f284f8dd9af03b"), looks := false }, kinds := [], alts := [], laidByText := true, laidKinds := [.data, .data, .data], laidTests := true, laidLooks := .later }
def HashValsUptoCardSaid : Prop := Claim7.holds Tryd.pinned (.plain (OpenSpec.upto hashValsSpec)) hashValsUptoCard

/-- THE SECOND FORM's CARD OF 'trommellaw34.TableSeeds'. -/
def tableSeedsUptoCard : Claim7 := { stood := { row := tableSeedsUptoRow, standIns := [], harness := (true, "79a19decd198a844dfa6936f4ed27e25742949be84072b4db1f284f8dd9af03b"), looks := false }, kinds := [], alts := [], laidByText := true, laidKinds := [.data, .data, .data], laidTests := true, laidLooks := .later }
def TableSeedsUptoCardSaid : Prop := Claim7.holds Tryd.pinned (.plain (OpenSpec.upto tableSeedsSpec)) tableSeedsUptoCard

/-- THE SECOND FORM's CARD OF 'trommellaw20.SiftZeros'. -/
def siftZerosUptoCard : Claim7 := { stood := { row := siftZerosUptoRow, standIns := [], harness := (true, "79a19decd198a844dfa6936f4ed27e25742949be84072b4db1f284f8dd9af03b"), looks := false }, kinds := [], alts := [], laidByText := true, laidKinds := [.data, .data, .data], laidTests := true, laidLooks := .later }
def SiftZerosUptoCardSaid : Prop := Claim7.holds Tryd.pinned (.plain (OpenSpec.upto siftZerosSpec)) siftZerosUptoCard

/-- THE SECOND FORM's CARD OF 'trommellaw34.TableSteps'. -/
def tableStepsUptoCard : Claim7 := { stood := { row := tableStepsUptoRow, standIns := [], harness := (true, "79a19decd198a844dfa6936f4ed27e25742949be84072b4db1f284f8dd9af03b"), looks := false }, kinds := [], alts := [], laidByText := true, laidKinds := [.data, .data, .data], laidTests := true, laidLooks := .later }
def TableStepsUptoCardSaid : Prop := Claim7.holds Tryd.pinned (.plain (OpenSpec.upto tableStepsSpec)) tableStepsUptoCard

/-- THE SECOND FORM's CARD OF 'trommellaw34.TableNils'. -/
def tableNilsUptoCard : Claim7 := { stood := { row := tableNilsUptoRow, standIns := [], harness := (true, "79a19decd198a844dfa6936f4ed27e25742949be84072b4db1f284f8dd9af03b"), looks := false }, kinds := [], alts := [], laidByText := true, laidKinds := [.data, .data, .data], laidTests := true, laidLooks := .later }
def TableNilsUptoCardSaid : Prop := Claim7.holds Tryd.pinned (.plain (OpenSpec.upto tableNilsSpec)) tableNilsUptoCard

/-- THE SECOND FORM's CARD OF 'trommellaw20.SiftKeeps'. -/
def siftKeepsUptoCard : Claim7 := { stood := { row := siftKeepsUptoRow, standIns := [], harness := (true, "79a19decd198a844dfa6936f4ed27e25742949be84072b4db1f284f8dd9af03b"), looks := false }, kinds := [], alts := [], laidByText := true, laidKinds := [.data, .data, .data], laidTests := true, laidLooks := .later }
def SiftKeepsUptoCardSaid : Prop := Claim7.holds Tryd.pinned (.plain (OpenSpec.upto siftKeepsSpec)) siftKeepsUptoCard

/-- THE SECOND FORM's CARD OF 'trommellaw20.SiftPasses'. -/
def siftPassesUptoCard : Claim7 := { stood := { row := siftPassesUptoRow, standIns := [], harness := (true, "79a19decd198a844dfa6936f4ed27e25742949be84072b4db1f284f8dd9af03b"), looks := false }, kinds := [], alts := [], laidByText := true, laidKinds := [.data, .data, .data], laidTests := true, laidLooks := .later }
def SiftPassesUptoCardSaid : Prop := Claim7.holds Tryd.pinned (.plain (OpenSpec.upto siftPassesSpec)) siftPassesUptoCard

/-- THE SECOND FORM's CARD OF 'trommellaw38.TextGets'. -/
def textGetsUptoCard : Claim7 := { stood := { row := textGetsUptoRow, standIns := [], harness := (true, "79a19decd198a844dfa6936f4ed27e25742949be84072b4db1f284f8dd9af03b"), looks := false }, kinds := [], alts := [], laidByText := true, laidKinds := [.data, .pinned], laidTests := true, laidLooks := .later }
def TextGetsUptoCardSaid : Prop := Claim7.holds Tryd.pinned (.plain (OpenSpec.upto textGetsSpec)) textGetsUptoCard
end Rows
end Go.Proofs.YtcfgjaggccnoaaaDoor
