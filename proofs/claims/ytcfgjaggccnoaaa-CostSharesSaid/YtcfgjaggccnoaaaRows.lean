/-
  NARROWER THAN 'FOR EVERY INPUT', by the rows' own cells (each row's printed sentence says how): PlaceAlls: loops · CostShares: loops.
  DERIVED. THE GIVEN ROWS OF THIS SEAT. 4 by the template 'for every input the law returns true; each argument reads behind the call as it read before'; 0 by the template 'total and deterministic' (their statements: YtcfgjaggccnoaaaTotals.lean).
  GIVEN WITH THE SEED: the statements are not yours to turn. If you find one false, say at which input.
  Laid BY PROGRAM, IN A SANDBOX (cutbox-rows.mjs): the forced cells as the released guide's own fill.sh prints them over the translation c02f23ef276ac5fe… (all of the seat's roots in one cut). By AI agents, Wed Nov 11 2026. No macro, syntax, notation, axiom, sorry.
-/
import Derived.Test.YtcfgjaggccnoaaaChecked
import GoSem.Claim
import GoSem.ClaimJoined
import GoSem.ClaimMapViews
import Derived.JoinedTies
import Derived.KernelRfl
namespace Go.Proofs.Ytcfgjaggccnoaaa
/- THE CELL 'sum', in the pinned program and in every row, IS THE sha256 OF THE DUMP (.gsa) THAT YtcfgjaggccnoaaaProg.lean LOADS. Nothing in Lean hashes anything: it is a label: what it is worth is what the hold of that sum in a sandbox is worth. -/
noncomputable def Try.pinned : Pinned := { name := "ytcfgjaggccnoaaa", sum := "c02f23ef276ac5fe9c5f1d3f3c9c3a96eb4e1ff908ff3b9fd5247fbea8fb0364", checked := Try.checked }
namespace Rows
def none {H : Type} : Left H := { results := [], args := [] }

/-- 'trommellaw31.PlaceAlls': WHATEVER THE INPUT: true; the input reads as it did. -/
def placeAllsSpec : ChangeSpec := { name := "placeAlls", fn := fun _ => fun
  | [d1, d2] => { results := [.lit (.bool true)], args := [d1, d2] }
  | _ => none }
def placeAllsRow : OpenClaim := { program := "ytcfgjaggccnoaaa", sum := "c02f23ef276ac5fe9c5f1d3f3c9c3a96eb4e1ff908ff3b9fd5247fbea8fb0364", func := "trommel/trommellaw31.PlaceAlls", spec := "placeAlls", unfollowed := true, recurses := true, loops := true, apart := false }
def PlaceAllsSaid : Prop := placeAllsRow.holds Try.pinned (OpenSpec.ofChange placeAllsSpec)

/-- ITS FALSE NEIGHBOUR: 'it returns false'. Refute it at one input. -/
def placeAllsWrong : ChangeSpec := { name := "placeAlls", fn := fun _ => fun
  | [d1, d2] => { results := [.lit (.bool false)], args := [d1, d2] }
  | _ => none }
def PlaceAllsWrongFalsely : Prop := placeAllsRow.holds Try.pinned (OpenSpec.ofChange placeAllsWrong)

/-- 'trommellaw09.ParseSmall': WHATEVER THE INPUT: true; the input reads as it did. -/
def parseSmallSpec : ChangeSpec := { name := "parseSmall", fn := fun _ => fun
  | [d] => { results := [.lit (.bool true)], args := [d] }
  | _ => none }
def parseSmallRow : OpenClaim := { program := "ytcfgjaggccnoaaa", sum := "c02f23ef276ac5fe9c5f1d3f3c9c3a96eb4e1ff908ff3b9fd5247fbea8fb0364", func := "trommel/trommellaw09.ParseSmall", spec := "parseSmall", unfollowed := true, recurses := true, apart := false }
def ParseSmallSaid : Prop := parseSmallRow.holds Try.pinned (OpenSpec.ofChange parseSmallSpec)

/-- ITS FALSE NEIGHBOUR: 'it returns false'. Refute it at one input. -/
def parseSmallWrong : ChangeSpec := { name := "parseSmall", fn := fun _ => fun
  | [d] => { results := [.lit (.bool false)], args := [d] }
  | _ => none }
def ParseSmallWrongFalsely : Prop := parseSmallRow.holds Try.pinned (OpenSpec.ofChange parseSmallWrong)

/-- 'trommellaw09.ParseExprs': WHATEVER THE INPUT: true; the input reads as it did. -/
def parseExprsSpec : ChangeSpec := { name := "parseExprs", fn := fun _ => fun
  | [d] => { results := [.lit (.bool true)], args := [d] }
  | _ => none }
def parseExprsRow : OpenClaim := { program := "ytcfgjaggccnoaaa", sum := "c02f23ef276ac5fe9c5f1d3f3c9c3a96eb4e1ff908ff3b9fd5247fbea8fb0364", func := "trommel/trommellaw09.ParseExprs", spec := "parseExprs", unfollowed := true, recurses := true, apart := false }
def ParseExprsSaid : Prop := parseExprsRow.holds Try.pinned (OpenSpec.ofChange parseExprsSpec)

/-- ITS FALSE NEIGHBOUR: 'it returns false'. Refute it at one input. -/
def parseExprsWrong : ChangeSpec := { name := "parseExprs", fn := fun _ => fun
  | [d] => { results := [.lit (.bool false)], args := [d] }
  | _ => none }
def ParseExprsWrongFalsely : Prop := parseExprsRow.holds Try.pinned (OpenSpec.ofChange parseExprsWrong)

/-- 'trommellaw29.CostShares': WHATEVER THE INPUT: true; the input reads as it did. -/
def costSharesSpec : ChangeSpec := { name := "costShares", fn := fun _ => fun
  | [d1, d2] => { results := [.lit (.bool true)], args := [d1, d2] }
  | _ => none }
def costSharesRow : OpenClaim := { program := "ytcfgjaggccnoaaa", sum := "c02f23ef276ac5fe9c5f1d3f3c9c3a96eb4e1ff908ff3b9fd5247fbea8fb0364", func := "trommel/trommellaw29.CostShares", spec := "costShares", inPlace := ["math.Float64bits"], unfollowed := true, recurses := true, named := ["math/bits.divideError", "math/bits.overflowError"], loops := true, apart := false }
def CostSharesSaid : Prop := costSharesRow.holds Try.pinned (OpenSpec.ofChange costSharesSpec)

/-- ITS FALSE NEIGHBOUR: 'it returns false'. Refute it at one input. -/
def costSharesWrong : ChangeSpec := { name := "costShares", fn := fun _ => fun
  | [d1, d2] => { results := [.lit (.bool false)], args := [d1, d2] }
  | _ => none }
def CostSharesWrongFalsely : Prop := costSharesRow.holds Try.pinned (OpenSpec.ofChange costSharesWrong)

/- THE SECOND FORM. 'bulk': how many values and letters a reading holds, each counted each time it is reached (what is shared counts as often as it is met; a slice's spare places count too). A statement '..UptoSaid' is the law's where the arguments, and the package variables that the reading takes, are together of bulk at most 1048576: NARROWER than '..Said'. Prove '..Said' where nothing that the law and all that it calls make is longer than what came in: it says more and counts as full. Else prove '..UptoSaid'. A law counts once. -/
mutual
def uptoBulk {H : Type} : DataW H → Nat
  | .lit (.string bytes) => bytes.length + 1
  | .lit _ => 1
  | .nil => 1
  | .ptr d => uptoBulk d + 1
  | .slice elems spare => uptoBulkAll elems + uptoBulkAll spare + 1
  | .agg parts => uptoBulkAll parts + 1
  | .iface _ d => uptoBulk d + 1
  | .map entries => uptoBulkEntries entries + 1
  | .held _ => 1
def uptoBulkAll {H : Type} : List (DataW H) → Nat
  | [] => 0
  | d :: r => uptoBulk d + uptoBulkAll r
def uptoBulkEntries {H : Type} : List (Lit × DataW H) → Nat
  | [] => 0
  | x :: r => uptoBulkEntry x + uptoBulkEntries r
def uptoBulkEntry {H : Type} : Lit × DataW H → Nat
  | (.string bytes, d) => bytes.length + uptoBulk d + 1
  | (_, d) => uptoBulk d + 1
 end
def uptoSmall : (H : Type) → List (DataW H) → Bool := fun _ ds => decide (uptoBulkAll ds ≤ 1048576)
def OpenSpec.upto (s : _root_.Go.ChangeSpec) : _root_.Go.OpenSpec := { _root_.Go.OpenSpec.ofChange s with cond := some uptoSmall }

/-- 'trommellaw31.PlaceAlls', WHERE WHAT IT READS IS OF BULK AT MOST 1048576: true; the input reads as it did. -/
def placeAllsUptoRow : OpenClaim := { program := "ytcfgjaggccnoaaa", sum := "c02f23ef276ac5fe9c5f1d3f3c9c3a96eb4e1ff908ff3b9fd5247fbea8fb0364", func := "trommel/trommellaw31.PlaceAlls", spec := "placeAlls", unfollowed := true, recurses := true, loops := true, apart := false, narrowed := true }
def PlaceAllsUptoSaid : Prop := placeAllsUptoRow.holds Try.pinned (OpenSpec.upto placeAllsSpec)

/-- 'trommellaw09.ParseSmall', WHERE WHAT IT READS IS OF BULK AT MOST 1048576: true; the input reads as it did. -/
def parseSmallUptoRow : OpenClaim := { program := "ytcfgjaggccnoaaa", sum := "c02f23ef276ac5fe9c5f1d3f3c9c3a96eb4e1ff908ff3b9fd5247fbea8fb0364", func := "trommel/trommellaw09.ParseSmall", spec := "parseSmall", unfollowed := true, recurses := true, apart := false, narrowed := true }
def ParseSmallUptoSaid : Prop := parseSmallUptoRow.holds Try.pinned (OpenSpec.upto parseSmallSpec)

/-- 'trommellaw09.ParseExprs', WHERE WHAT IT READS IS OF BULK AT MOST 1048576: true; the input reads as it did. -/
def parseExprsUptoRow : OpenClaim := { program := "ytcfgjaggccnoaaa", sum := "c02f23ef276ac5fe9c5f1d3f3c9c3a96eb4e1ff908ff3b9fd5247fbea8fb0364", func := "trommel/trommellaw09.ParseExprs", spec := "parseExprs", unfollowed := true, recurses := true, apart := false, narrowed := true }
def ParseExprsUptoSaid : Prop := parseExprsUptoRow.holds Try.pinned (OpenSpec.upto parseExprsSpec)

/-- 'trommellaw29.CostShares', WHERE WHAT IT READS IS OF BULK AT MOST 1048576: true; the input reads as it did. -/
def costSharesUptoRow : OpenClaim := { program := "ytcfgjaggccnoaaa", sum := "c02f23ef276ac5fe9c5f1d3f3c9c3a96eb4e1ff908ff3b9fd5247fbea8fb0364", func := "trommel/trommellaw29.CostShares", spec := "costShares", inPlace := ["math.Float64bits"], unfollowed := true, recurses := true, named := ["math/bits.divideError", "math/bits.overflowError"], loops := true, apart := false, narrowed := true }
def CostSharesUptoSaid : Prop := costSharesUptoRow.holds Try.pinned (OpenSpec.upto costSharesSpec)

end Rows
end Go.Proofs.Ytcfgjaggccnoaaa
