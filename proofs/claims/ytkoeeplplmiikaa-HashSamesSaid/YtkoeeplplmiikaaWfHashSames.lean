-- Written by wip/xlaw.py, a program of mine; Lean checks it.
import Derived.Test.YtkoeeplplmiikaaPHashSamesx2
import Derived.Test.YtkoeeplplmiikaaOpen
namespace Go.Proofs.Ytkoeeplplmiikaa.PHashSames
open Go.RowKit Go.Proofs.YtkoeeplplmiikaaW.PrintWords Go.Proofs.YtkoeeplplmiikaaW.PrintLast
set_option linter.unusedVariables false
def Wf30 (x : S30) : Prop := (Lit.int .i64 x.f0).wf = true ∧ (Lit.int .i64 x.f1).wf = true ∧ x.f2.size ≤ 140737488351232
theorem opens30 : ∀ n, Open.Opens Try.prog 30 k30 Wf30 n
  | 0 => Open.opens_zero _ _ _ _
  | n + 1 => (Open.opens_struct (t := 30) (L := (Kd.pair (Kd.int .i64) (Kd.pair (Kd.int .i64) Kd.string))) (fun x : S30 => (x.f0, x.f1, x.f2)) (fun b => (⟨b.1, b.2.1, b.2.2⟩ : S30)) (fun _ => rfl) Try.underlying30 (by kernel_rfl) n (Open.opensF_cons rfl (by kernel_rfl) n ((Open.opens_int Try.underlying3) n) (Open.opensF_cons rfl (by kernel_rfl) n ((Open.opens_int Try.underlying3) n) (Open.opensF_one rfl (by kernel_rfl) n ((Open.opens_string Try.underlying9) n))))).imp (fun _ _ _ h => h) (fun _ h => h)
/-- The plain statement. -/
def trommellaw17_HashSames.Pure : Prop := ∀ (x0 : Int) (x1 : S30) (x2 : S30), (Lit.int .i64 x0).wf = true → Wf30 x1 → Wf30 x2 → ∃ k, trommellaw17_HashSames.f k x0 x1.f0 x1.f1 x1.f2 x2.f0 x2.f1 x2.f2 = some true
end Go.Proofs.Ytkoeeplplmiikaa.PHashSames
