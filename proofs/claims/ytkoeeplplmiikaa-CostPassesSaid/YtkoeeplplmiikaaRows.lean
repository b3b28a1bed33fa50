/-
  NARROWER THAN 'FOR EVERY INPUT', by the rows' own cells (each row's printed sentence says how): PlaceAlls: loops.
  DERIVED. THE GIVEN ROWS OF THIS SEAT. 11 by the template 'for every input the law returns true; each argument reads behind the call as it read before'; 0 by the template 'total and deterministic' (their statements: YtkoeeplplmiikaaTotals.lean).
  GIVEN WITH THE SEED: the statements are not yours to turn. If you find one false, say at which input.
  Laid BY PROGRAM, IN A SANDBOX (cutbox-rows.mjs): the forced cells as the released guide's own fill.sh prints them over the translation 3590d1b838d68834… (all of the seat's roots in one cut). By AI agents, Wed Nov 11 2026. No macro, syntax, notation, axiom, sorry.
-/
import Derived.Test.YtkoeeplplmiikaaChecked
import GoSem.Claim
import GoSem.ClaimJoined
import GoSem.ClaimMapViews
import Derived.JoinedTies
import Derived.KernelRfl
namespace Go.Proofs.Ytkoeeplplmiikaa
/- THE CELL 'sum', in the pinned program and in every row, IS THE sha256 OF THE DUMP (.gsa) THAT YtkoeeplplmiikaaProg.lean LOADS. Nothing in Lean hashes anything: it is a label: what it is worth is what the hold of that sum in a sandbox is worth. -/
noncomputable def Try.pinned : Pinned := { name := "ytkoeeplplmiikaa", sum := "3590d1b838d68834841047d80df9060b048b230e3d5f5ea6327afba49d6e72a1", checked := Try.checked }
namespace Rows
def none {H : Type} : Left H := { results := [], args := [] }

/-- 'trommellaw17.HashMixes': WHATEVER THE INPUT: true; the input reads as it did. -/
def hashMixesSpec : ChangeSpec := { name := "hashMixes", fn := fun _ => fun
  | [d1, d2, d3, d4] => { results := [.lit (.bool true)], args := [d1, d2, d3, d4] }
  | _ => none }
def hashMixesRow : OpenClaim := { program := "ytkoeeplplmiikaa", sum := "3590d1b838d68834841047d80df9060b048b230e3d5f5ea6327afba49d6e72a1", func := "trommel/trommellaw17.HashMixes", spec := "hashMixes", apart := false }
def HashMixesSaid : Prop := hashMixesRow.holds Try.pinned (OpenSpec.ofChange hashMixesSpec)

/-- ITS FALSE NEIGHBOUR: 'it returns false'. Refute it at one input. -/
def hashMixesWrong : ChangeSpec := { name := "hashMixes", fn := fun _ => fun
  | [d1, d2, d3, d4] => { results := [.lit (.bool false)], args := [d1, d2, d3, d4] }
  | _ => none }
def HashMixesWrongFalsely : Prop := hashMixesRow.holds Try.pinned (OpenSpec.ofChange hashMixesWrong)

/-- 'trommellaw17.HashSames': WHATEVER THE INPUT: true; the input reads as it did. -/
def hashSamesSpec : ChangeSpec := { name := "hashSames", fn := fun _ => fun
  | [d1, d2, d3] => { results := [.lit (.bool true)], args := [d1, d2, d3] }
  | _ => none }
def hashSamesRow : OpenClaim := { program := "ytkoeeplplmiikaa", sum := "3590d1b838d68834841047d80df9060b048b230e3d5f5ea6327afba49d6e72a1", func := "trommel/trommellaw17.HashSames", spec := "hashSames", apart := false }
def HashSamesSaid : Prop := hashSamesRow.holds Try.pinned (OpenSpec.ofChange hashSamesSpec)

/-- ITS FALSE NEIGHBOUR: 'it returns false'. Refute it at one input. -/
def hashSamesWrong : ChangeSpec := { name := "hashSames", fn := fun _ => fun
  | [d1, d2, d3] => { results := [.lit (.bool false)], args := [d1, d2, d3] }
  | _ => none }
def HashSamesWrongFalsely : Prop := hashSamesRow.holds Try.pinned (OpenSpec.ofChange hashSamesWrong)

/-- 'trommellaw07.TokenAlls': WHATEVER THE INPUT: true; the input reads as it did. -/
def tokenAllsSpec : ChangeSpec := { name := "tokenAlls", fn := fun _ => fun
  | [d] => { results := [.lit (.bool true)], args := [d] }
  | _ => none }
def tokenAllsRow : OpenClaim := { program := "ytkoeeplplmiikaa", sum := "3590d1b838d68834841047d80df9060b048b230e3d5f5ea6327afba49d6e72a1", func := "trommel/trommellaw07.TokenAlls", spec := "tokenAlls", apart := false }
def TokenAllsSaid : Prop := tokenAllsRow.holds Try.pinned (OpenSpec.ofChange tokenAllsSpec)

/-- ITS FALSE NEIGHBOUR: 'it returns false'. Refute it at one input. -/
def tokenAllsWrong : ChangeSpec := { name := "tokenAlls", fn := fun _ => fun
  | [d] => { results := [.lit (.bool false)], args := [d] }
  | _ => none }
def TokenAllsWrongFalsely : Prop := tokenAllsRow.holds Try.pinned (OpenSpec.ofChange tokenAllsWrong)

/-- 'trommellaw07.TokenOnes': WHATEVER THE INPUT: true; the input reads as it did. -/
def tokenOnesSpec : ChangeSpec := { name := "tokenOnes", fn := fun _ => fun
  | [d1, d2, d3] => { results := [.lit (.bool true)], args := [d1, d2, d3] }
  | _ => none }
def tokenOnesRow : OpenClaim := { program := "ytkoeeplplmiikaa", sum := "3590d1b838d68834841047d80df9060b048b230e3d5f5ea6327afba49d6e72a1", func := "trommel/trommellaw07.TokenOnes", spec := "tokenOnes", apart := false }
def TokenOnesSaid : Prop := tokenOnesRow.holds Try.pinned (OpenSpec.ofChange tokenOnesSpec)

/-- ITS FALSE NEIGHBOUR: 'it returns false'. Refute it at one input. -/
def tokenOnesWrong : ChangeSpec := { name := "tokenOnes", fn := fun _ => fun
  | [d1, d2, d3] => { results := [.lit (.bool false)], args := [d1, d2, d3] }
  | _ => none }
def TokenOnesWrongFalsely : Prop := tokenOnesRow.holds Try.pinned (OpenSpec.ofChange tokenOnesWrong)

/-- 'trommellaw07.TokenBlanks': WHATEVER THE INPUT: true; the input reads as it did. -/
def tokenBlanksSpec : ChangeSpec := { name := "tokenBlanks", fn := fun _ => fun
  | [d1, d2, d3] => { results := [.lit (.bool true)], args := [d1, d2, d3] }
  | _ => none }
def tokenBlanksRow : OpenClaim := { program := "ytkoeeplplmiikaa", sum := "3590d1b838d68834841047d80df9060b048b230e3d5f5ea6327afba49d6e72a1", func := "trommel/trommellaw07.TokenBlanks", spec := "tokenBlanks", apart := false }
def TokenBlanksSaid : Prop := tokenBlanksRow.holds Try.pinned (OpenSpec.ofChange tokenBlanksSpec)

/-- ITS FALSE NEIGHBOUR: 'it returns false'. Refute it at one input. -/
def tokenBlanksWrong : ChangeSpec := { name := "tokenBlanks", fn := fun _ => fun
  | [d1, d2, d3] => { results := [.lit (.bool false)], args := [d1, d2, d3] }
  | _ => none }
def TokenBlanksWrongFalsely : Prop := tokenBlanksRow.holds Try.pinned (OpenSpec.ofChange tokenBlanksWrong)

/-- 'trommellaw29.CostPasses': WHATEVER THE INPUT: true; the input reads as it did. -/
def costPassesSpec : ChangeSpec := { name := "costPasses", fn := fun _ => fun
  | [d1, d2, d3, d4] => { results := [.lit (.bool true)], args := [d1, d2, d3, d4] }
  | _ => none }
def costPassesRow : OpenClaim := { program := "ytkoeeplplmiikaa", sum := "3590d1b838d68834841047d80df9060b048b230e3d5f5ea6327afba49d6e72a1", func := "trommel/trommellaw29.CostPasses", spec := "costPasses", unfollowed := true, recurses := true, named := ["math/bits.divideError", "math/bits.overflowError"], apart := false }
def CostPassesSaid : Prop := costPassesRow.holds Try.pinned (OpenSpec.ofChange costPassesSpec)

/-- ITS FALSE NEIGHBOUR: 'it returns false'. Refute it at one input. -/
def costPassesWrong : ChangeSpec := { name := "costPasses", fn := fun _ => fun
  | [d1, d2, d3, d4] => { results := [.lit (.bool false)], args := [d1, d2, d3, d4] }
  | _ => none }
def CostPassesWrongFalsely : Prop := costPassesRow.holds Try.pinned (OpenSpec.ofChange costPassesWrong)

/-- 'trommellaw29.CostGains': WHATEVER THE INPUT: true; the input reads as it did. -/
def costGainsSpec : ChangeSpec := { name := "costGains", fn := fun _ => fun
  | [d1, d2, d3] => { results := [.lit (.bool true)], args := [d1, d2, d3] }
  | _ => none }
def costGainsRow : OpenClaim := { program := "ytkoeeplplmiikaa", sum := "3590d1b838d68834841047d80df9060b048b230e3d5f5ea6327afba49d6e72a1", func := "trommel/trommellaw29.CostGains", spec := "costGains", unfollowed := true, recurses := true, named := ["math/bits.divideError", "math/bits.overflowError"], apart := false }
def CostGainsSaid : Prop := costGainsRow.holds Try.pinned (OpenSpec.ofChange costGainsSpec)

/-- ITS FALSE NEIGHBOUR: 'it returns false'. Refute it at one input. -/
def costGainsWrong : ChangeSpec := { name := "costGains", fn := fun _ => fun
  | [d1, d2, d3] => { results := [.lit (.bool false)], args := [d1, d2, d3] }
  | _ => none }
def CostGainsWrongFalsely : Prop := costGainsRow.holds Try.pinned (OpenSpec.ofChange costGainsWrong)

/-- 'trommellaw07.TokenQuotes': WHATEVER THE INPUT: true; the input reads as it did. -/
def tokenQuotesSpec : ChangeSpec := { name := "tokenQuotes", fn := fun _ => fun
  | [d1, d2] => { results := [.lit (.bool true)], args := [d1, d2] }
  | _ => none }
def tokenQuotesRow : OpenClaim := { program := "ytkoeeplplmiikaa", sum := "3590d1b838d68834841047d80df9060b048b230e3d5f5ea6327afba49d6e72a1", func := "trommel/trommellaw07.TokenQuotes", spec := "tokenQuotes", apart := false }
def TokenQuotesSaid : Prop := tokenQuotesRow.holds Try.pinned (OpenSpec.ofChange tokenQuotesSpec)

/-- ITS FALSE NEIGHBOUR: 'it returns false'. Refute it at one input. -/
def tokenQuotesWrong : ChangeSpec := { name := "tokenQuotes", fn := fun _ => fun
  | [d1, d2] => { results := [.lit (.bool false)], args := [d1, d2] }
  | _ => none }
def TokenQuotesWrongFalsely : Prop := tokenQuotesRow.holds Try.pinned (OpenSpec.ofChange tokenQuotesWrong)

/-- 'trommellaw31.PlaceAlls': WHATEVER THE INPUT: true; the input reads as it did. -/
def placeAllsSpec : ChangeSpec := { name := "placeAlls", fn := fun _ => fun
  | [d1, d2] => { results := [.lit (.bool true)], args := [d1, d2] }
  | _ => none }
def placeAllsRow : OpenClaim := { program := "ytkoeeplplmiikaa", sum := "3590d1b838d68834841047d80df9060b048b230e3d5f5ea6327afba49d6e72a1", func := "trommel/trommellaw31.PlaceAlls", spec := "placeAlls", unfollowed := true, recurses := true, loops := true, apart := false }
def PlaceAllsSaid : Prop := placeAllsRow.holds Try.pinned (OpenSpec.ofChange placeAllsSpec)

/-- ITS FALSE NEIGHBOUR: 'it returns false'. Refute it at one input. -/
def placeAllsWrong : ChangeSpec := { name := "placeAlls", fn := fun _ => fun
  | [d1, d2] => { results := [.lit (.bool false)], args := [d1, d2] }
  | _ => none }
def PlaceAllsWrongFalsely : Prop := placeAllsRow.holds Try.pinned (OpenSpec.ofChange placeAllsWrong)

/-- 'trommellaw09.ParseSmall': WHATEVER THE INPUT: true; the input reads as it did. -/
def parseSmallSpec : ChangeSpec := { name := "parseSmall", fn := fun _ => fun
  | [d] => { results := [.lit (.bool true)], args := [d] }
  | _ => none }
def parseSmallRow : OpenClaim := { program := "ytkoeeplplmiikaa", sum := "3590d1b838d68834841047d80df9060b048b230e3d5f5ea6327afba49d6e72a1", func := "trommel/trommellaw09.ParseSmall", spec := "parseSmall", unfollowed := true, recurses := true, apart := false }
def ParseSmallSaid : Prop := parseSmallRow.holds Try.pinned (OpenSpec.ofChange parseSmallSpec)

/-- ITS FALSE NEIGHBOUR: 'it returns false'. Refute it at one input. -/
def parseSmallWrong : ChangeSpec := { name := "parseSmall", fn := fun _ => fun
  | [d] => { results := [.lit (.bool false)], args := [d] }
  | _ => none }
def ParseSmallWrongFalsely : Prop := parseSmallRow.holds Try.pinned (OpenSpec.ofChange parseSmallWrong)

/-- 'trommellaw09.ParseExprs': WHATEVER THE INPUT: true; the input reads as it did. -/
def parseExprsSpec : ChangeSpec := { name := "parseExprs", fn := fun _ => fun
  | [d] => { results := [.lit (.bool true)], args := [d] }
  | _ => none }
def parseExprsRow : OpenClaim := { program := "ytkoeeplplmiikaa", sum := "3590d1b838d68834841047d80df9060b048b230e3d5f5ea6327afba49d6e72a1", func := "trommel/trommellaw09.ParseExprs", spec := "parseExprs", unfollowed := true, recurses := true, apart := false }
def ParseExprsSaid : Prop := parseExprsRow.holds Try.pinned (OpenSpec.ofChange parseExprsSpec)

/-- ITS FALSE NEIGHBOUR: 'it returns false'. Refute it at one input. -/
def parseExprsWrong : ChangeSpec := { name := "parseExprs", fn := fun _ => fun
  | [d] => { results := [.lit (.bool false)], args := [d] }
  | _ => none }
def ParseExprsWrongFalsely : Prop := parseExprsRow.holds Try.pinned (OpenSpec.ofChange parseExprsWrong)

/- THE SECOND FORM. 'bulk': how many values and letters a reading holds, each counted each time it is reached (what is shared counts as often as it is met; a slice's spare places count too). A statement '..UptoSaid' is the law's where the arguments, and the package variables that the reading takes, are together of bulk at most 1048576: NARROWER than '..Said'. Prove '..Said' where nothing that the law and all that it calls make is longer than what came in: it says more and counts as full. Else prove '..UptoSaid'. A law counts once. -/
mutual
def uptoBulk {H : Type} : DataW H → Nat
  | .lit (.string bytes) => bytes.length + 1
  | .lit _ => 1
  | .nil => 1
  | .ptr d => uptoBulk d + 1
  | .slice elems spare => uptoBulkAll elems + uptoBulkAll spare + 1
  | .agg parts => uptoBulkAll parts + 1
  | .iface _ d => uptoBulk d + 1
  | .map entries => uptoBulkEntries entries + 1
  | .held _ => 1
def uptoBulkAll {H : Type} : List (DataW H) → Nat
  | [] => 0
  | d :: r => uptoBulk d + uptoBulkAll r
def uptoBulkEntries {H : Type} : List (Lit × DataW H) → Nat
  | [] => 0
  | x :: r => uptoBulkEntry x + uptoBulkEntries r
def uptoBulkEntry {H : Type} : Lit × DataW H → Nat
  | (.string bytes, d) => bytes.length + uptoBulk d + 1
  | (_, d) => uptoBulk d + 1
 end
def uptoSmall : (H : Type) → List (DataW H) → Bool := fun _ ds => decide (uptoBulkAll ds ≤ 1048576)
def OpenSpec.upto (s : _root_.Go.ChangeSpec) : _root_.Go.OpenSpec := { _root_.Go.OpenSpec.ofChange s with cond := some uptoSmall }

/-- 'trommellaw17.HashMixes', WHERE WHAT IT READS IS OF BULK AT MOST 1048576: true; the input reads as it did. -/
def hashMixesUptoRow : OpenClaim := { program := "ytkoeeplplmiikaa", sum := "3590d1b838d68834841047d80df9060b048b230e3d5f5ea6327afba49d6e72a1", func := "trommel/trommellaw17.HashMixes", spec := "hashMixes", apart := false, narrowed := true }
def HashMixesUptoSaid : Prop := hashMixesUptoRow.holds Try.pinned (OpenSpec.upto hashMixesSpec)

/-- 'trommellaw17.HashSames', WHERE WHAT IT READS IS OF BULK AT MOST 1048576: true; the input reads as it did. -/
def hashSamesUptoRow : OpenClaim := { program := "ytkoeeplplmiikaa", sum := "3590d1b838d68834841047d80df9060b048b230e3d5f5ea6327afba49d6e72a1", func := "trommel/trommellaw17.HashSames", spec := "hashSames", apart := false, narrowed := true }
def HashSamesUptoSaid : Prop := hashSamesUptoRow.holds Try.pinned (OpenSpec.upto hashSamesSpec)

/-- 'trommellaw07.TokenAlls', WHERE WHAT IT READS IS OF BULK AT MOST 1048576: true; the input reads as it did. -/
def tokenAllsUptoRow : OpenClaim := { program := "ytkoeeplplmiikaa", sum := "3590d1b838d68834841047d80df9060b048b230e3d5f5ea6327afba49d6e72a1", func := "trommel/trommellaw07.TokenAlls", spec := "tokenAlls", apart := false, narrowed := true }
def TokenAllsUptoSaid : Prop := tokenAllsUptoRow.holds Try.pinned (OpenSpec.upto tokenAllsSpec)

/-- 'trommellaw07.TokenOnes', WHERE WHAT IT READS IS OF BULK AT MOST 1048576: true; the input reads as it did. -/
def tokenOnesUptoRow : OpenClaim := { program := "ytkoeeplplmiikaa", sum := "3590d1b838d68834841047d80df9060b048b230e3d5f5ea6327afba49d6e72a1", func := "trommel/trommellaw07.TokenOnes", spec := "tokenOnes", apart := false, narrowed := true }
def TokenOnesUptoSaid : Prop := tokenOnesUptoRow.holds Try.pinned (OpenSpec.upto tokenOnesSpec)

/-- 'trommellaw07.TokenBlanks', WHERE WHAT IT READS IS OF BULK AT MOST 1048576: true; the input reads as it did. -/
def tokenBlanksUptoRow : OpenClaim := { program := "ytkoeeplplmiikaa", sum := "3590d1b838d68834841047d80df9060b048b230e3d5f5ea6327afba49d6e72a1", func := "trommel/trommellaw07.TokenBlanks", spec := "tokenBlanks", apart := false, narrowed := true }
def TokenBlanksUptoSaid : Prop := tokenBlanksUptoRow.holds Try.pinned (OpenSpec.upto tokenBlanksSpec)

/-- 'trommellaw29.CostPasses', WHERE WHAT IT READS IS OF BULK AT MOST 1048576: true; the input reads as it did. -/
def costPassesUptoRow : OpenClaim := { program := "ytkoeeplplmiikaa", sum := "3590d1b838d68834841047d80df9060b048b230e3d5f5ea6327afba49d6e72a1", func := "trommel/trommellaw29.CostPasses", spec := "costPasses", unfollowed := true, recurses := true, named := ["math/bits.divideError", "math/bits.overflowError"], apart := false, narrowed := true }
def CostPassesUptoSaid : Prop := costPassesUptoRow.holds Try.pinned (OpenSpec.upto costPassesSpec)

/-- 'trommellaw29.CostGains', WHERE WHAT IT READS IS OF BULK AT MOST 1048576: true; the input reads as it did. -/
def costGainsUptoRow : OpenClaim := { program := "ytkoeeplplmiikaa", sum := "3590d1b838d68834841047d80df9060b048b230e3d5f5ea6327afba49d6e72a1", func := "trommel/trommellaw29.CostGains", spec := "costGains", unfollowed := true, recurses := true, named := ["math/bits.divideError", "math/bits.overflowError"], apart := false, narrowed := true }
def CostGainsUptoSaid : Prop := costGainsUptoRow.holds Try.pinned (OpenSpec.upto costGainsSpec)

/-- 'trommellaw07.TokenQuotes', WHERE WHAT IT READS IS OF BULK AT MOST 1048576: true; the input reads as it did. -/
def tokenQuotesUptoRow : OpenClaim := { program := "ytkoeeplplmiikaa", sum := "3590d1b838d68834841047d80df9060b048b230e3d5f5ea6327afba49d6e72a1", func := "trommel/trommellaw07.TokenQuotes", spec := "tokenQuotes", apart := false, narrowed := true }
def TokenQuotesUptoSaid : Prop := tokenQuotesUptoRow.holds Try.pinned (OpenSpec.upto tokenQuotesSpec)

/-- 'trommellaw31.PlaceAlls', WHERE WHAT IT READS IS OF BULK AT MOST 1048576: true; the input reads as it did. -/
def placeAllsUptoRow : OpenClaim := { program := "ytkoeeplplmiikaa", sum := "3590d1b838d68834841047d80df9060b048b230e3d5f5ea6327afba49d6e72a1", func := "trommel/trommellaw31.PlaceAlls", spec := "placeAlls", unfollowed := true, recurses := true, loops := true, apart := false, narrowed := true }
def PlaceAllsUptoSaid : Prop := placeAllsUptoRow.holds Try.pinned (OpenSpec.upto placeAllsSpec)

/-- 'trommellaw09.ParseSmall', WHERE WHAT IT READS IS OF BULK AT MOST 1048576: true; the input reads as it did. -/
def parseSmallUptoRow : OpenClaim := { program := "ytkoeeplplmiikaa", sum := "3590d1b838d68834841047d80df9060b048b230e3d5f5ea6327afba49d6e72a1", func := "trommel/trommellaw09.ParseSmall", spec := "parseSmall", unfollowed := true, recurses := true, apart := false, narrowed := true }
def ParseSmallUptoSaid : Prop := parseSmallUptoRow.holds Try.pinned (OpenSpec.upto parseSmallSpec)

/-- 'trommellaw09.ParseExprs', WHERE WHAT IT READS IS OF BULK AT MOST 1048576: true; the input reads as it did. -/
def parseExprsUptoRow : OpenClaim := { program := "ytkoeeplplmiikaa", sum := "3590d1b838d68834841047d80df9060b048b230e3d5f5ea6327afba49d6e72a1", func := "trommel/trommellaw09.ParseExprs", spec := "parseExprs", unfollowed := true, recurses := true, apart := false, narrowed := true }
def ParseExprsUptoSaid : Prop := parseExprsUptoRow.holds Try.pinned (OpenSpec.upto parseExprsSpec)

end Rows
end Go.Proofs.Ytkoeeplplmiikaa
