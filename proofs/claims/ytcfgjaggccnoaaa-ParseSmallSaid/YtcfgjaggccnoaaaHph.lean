import Derived.Test.YtcfgjaggccnoaaaHpg
import Derived.Defers
namespace Go.Proofs.Ytcfgjaggccnoaaa.PParseSmall
open Go.RowKit Go.Proofs.YtcfgjaggccnoaaaW.PrintWords Go.Proofs.YtcfgjaggccnoaaaW.PrintLast Go.Proofs.YtcfgjaggccnoaaaW.PrintMore
attribute [local go_sem] max2_int min2_int max_two min_two max_three min_three max_four min_four
set_option linter.unusedVariables false
set_option linter.unusedSimpArgs false
set_option maxRecDepth 100000
set_option maxHeartbeats 4000000
/-! what the grammar's functions answer -/
inductive Gr where
  | or | and | not | test | sum | prod | atom
def Gr.num : Gr → Nat
  | .or => 41 | .and => 80 | .not => 124 | .test => 150 | .sum => 159 | .prod => 167 | .atom => 179
inductive Go where
  | f (p : Gr)
  | ch (p : Gr) (ss : List ByteArray) (x : S27)
structure Re where
  i : Int
  d : Int
  e : Int
  x : S27
def wOr : ByteArray := ⟨#[111, 114]⟩
def wAnd : ByteArray := ⟨#[97, 110, 100]⟩
def wNot : ByteArray := ⟨#[110, 111, 116]⟩
def wIs : ByteArray := ⟨#[105, 115]⟩
def wNull : ByteArray := ⟨#[110, 117, 108, 108]⟩
def wPlus : ByteArray := ⟨#[43]⟩
def wMinus : ByteArray := ⟨#[45]⟩
def wStar : ByteArray := ⟨#[42]⟩
def wOpen : ByteArray := ⟨#[40]⟩
def wShut : ByteArray := ⟨#[41]⟩
def six : List ByteArray := [⟨#[61]⟩, ⟨#[60, 62]⟩, ⟨#[60]⟩, ⟨#[60, 61]⟩, ⟨#[62]⟩, ⟨#[62, 61]⟩]
def opP (s : ByteArray) : Int := (parse_opOf.f s).getD 0
def txP (s : ByteArray) : S27 := if (s.size : Int) > 65536 then valP 0 0 ⟨#[]⟩ else valP 2 0 s
def isI (l : List S91) (i e : Int) (s : ByteArray) : Int := if isP l i e s = true then i + 1 else i
def tst (l : List S91) (r : Re) : Re :=
  if isP l r.i r.e wIs = true then
    (if isP l (r.i + 1) r.e wNot = true then ⟨muI l (r.i + 1 + 1) r.e wNull, r.d, muE l (r.i + 1 + 1) r.e wNull, ofP 14 [r.x]⟩
     else ⟨muI l (r.i + 1) r.e wNull, r.d, muE l (r.i + 1) r.e wNull, ofP 13 [r.x]⟩)
  else r
def pr (l : List S91) : Nat → Go → Int → Int → Int → Option Re
  | 0, _, _, _, _ => none
  | k + 1, .ch p ss x, i, d, e => if e = 0 then (match ss.find? (fun s => isP l i e s) with
      | none => some ⟨i, d, e, x⟩
      | some s => (pr l k (.f p) (i + 1) d e).bind fun r => pr l k (.ch p ss (ofP (opP s) [x, r.x])) r.i r.d r.e) else some ⟨i, d, e, x⟩
  | k + 1, .f .or, i, d, e => (pr l k (.f .and) i d e).bind fun r => pr l k (.ch .and [wOr] r.x) r.i r.d r.e
  | k + 1, .f .and, i, d, e => (pr l k (.f .not) i d e).bind fun r => pr l k (.ch .not [wAnd] r.x) r.i r.d r.e
  | k + 1, .f .sum, i, d, e => (pr l k (.f .prod) i d e).bind fun r => pr l k (.ch .prod [wPlus, wMinus] r.x) r.i r.d r.e
  | k + 1, .f .prod, i, d, e => (pr l k (.f .atom) i d e).bind fun r => pr l k (.ch .atom [wStar] r.x) r.i r.d r.e
  | k + 1, .f .not, i, d, e => if isP l i e wNot = true then
      (if 0 ≤ d ∧ d ≤ 100 then (pr l k (.f .not) (isI l i (dnE d e) wNot) (d + 1) (dnE d e)).bind fun r => if 0 ≤ r.d ∧ r.d ≤ 200 then some ⟨r.i, r.d - 1, r.e, ofP 12 [r.x]⟩ else none else none)
      else pr l k (.f .test) i d e
  | k + 1, .f .test, i, d, e => (pr l k (.f .sum) i d e).bind fun r => match six.find? (fun s => isP l r.i r.e s) with
      | some s => (pr l k (.f .sum) (r.i + 1) r.d r.e).bind fun q => some ⟨q.i, q.d, q.e, ofP (opP s) [r.x, q.x]⟩
      | none => some (tst l r)
  | k + 1, .f .atom, i, d, e =>
      if (tokP l i e).f0 = 3 then some ⟨i + 1, d, e, valP 1 (tokP l i e).f2 ⟨#[]⟩⟩
      else if (tokP l i e).f0 = 4 then some ⟨i + 1, d, e, txP (tokP l i e).f1⟩
      else if isP l i e wNull = true then some ⟨i + 1, d, e, valP 0 0 ⟨#[]⟩⟩
      else if isP l i e wOpen = true then
        (if 0 ≤ d ∧ d ≤ 100 then (pr l k (.f .or) (isI l i (dnE d e) wOpen) (d + 1) (dnE d e)).bind fun r => if 0 ≤ r.d ∧ r.d ≤ 200 then some ⟨muI l r.i r.e wShut, r.d - 1, muE l r.i r.e wShut, r.x⟩ else none else none)
      else some ⟨coI l i e, d, coE l i e, coX l i e⟩
/-- What a call of a grammar's function comes to. -/
def Done (w : World) (g : Nat) (A : Option Addr) (c : Nat) (l : List S91) (r : Re) (ret : Ending) (w' : World) : Prop :=
  ∃ vA vc, ret = .returned (exV r.x vA vc) ∧ St w' g A c l r.i r.d r.e ∧ Chg g w w' ∧ Tr w' (fun k => w.heap.size ≤ k) r.x vA vc
/-- The function's contract, with so many rounds. -/
def GOK (k : Nat) (p : Gr) : Prop := ∀ (w : World) (g : Nat) (A : Option Addr) (c : Nat) (l : List S91) (i d e : Int) (r : Re), St w g A c l i d e → pr l k (.f p) i d e = some r → Calls Try.prog p.num #[.pointer (some ⟨g, 0, none⟩)] w (Done w g A c l r)
theorem up_d (g : Nat) (A : Option Addr) (n c : Nat) (i d e : Int) (w : World) (u : FrameMode) (h : Ps w g A n c i d e) (h0 : -1000 ≤ d) (h1 : d ≤ 1000) :
    CallsD Try.prog 152 #[.pointer (some ⟨g, 0, none⟩)] u w fun r u' w' => u' = u ∧ r = .returned (.tuple #[]) ∧ w' = w.setCell ⟨g, 2, none⟩ (.int .i64 (d - 1)) := by
  obtain ⟨c0, c1, c2, c3, f0, f1, f2, f3⟩ := bw4_ h
  clear h
  go_enter_d Try.func152, Try.ntmps152
  go_wp2
  go_end0
  exact ⟨rfl, rfl⟩
end Go.Proofs.Ytcfgjaggccnoaaa.PParseSmall
