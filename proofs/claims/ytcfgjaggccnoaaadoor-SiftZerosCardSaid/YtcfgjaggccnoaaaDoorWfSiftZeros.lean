-- Written by wip/xlaw.py, a program of mine; Lean checks it.
import Derived.Test.YtcfgjaggccnoaaaDoorPSiftZerosx10
import Derived.Test.YtcfgjaggccnoaaaDoorOpSiftZeros
namespace Go.Proofs.YtcfgjaggccnoaaaDoor.PSiftZeros
open Go.RowKit Go.Proofs.YtcfgjaggccnoaaaDoorW.PrintWords Go.Proofs.YtcfgjaggccnoaaaDoorW.PrintLast
set_option linter.unusedVariables false
def Wf23 (x : S23) : Prop := (Lit.int .i64 x.f0).wf = true ∧ (Lit.int .i64 x.f1).wf = true ∧ x.f2.size ≤ 140737488351232
theorem opens23 : ∀ n, Open.Opens Tryd.prog 23 k23 Wf23 n
  | 0 => Open.opens_zero _ _ _ _
  | n + 1 => (Open.opens_struct (t := 23) (L := (Kd.pair (Kd.int .i64) (Kd.pair (Kd.int .i64) Kd.string))) (fun x : S23 => (x.f0, x.f1, x.f2)) (fun b => (⟨b.1, b.2.1, b.2.2⟩ : S23)) (fun _ => rfl) Tryd.underlying23 (by kernel_rfl) n (Open.opensF_cons rfl (by kernel_rfl) n ((Open.opens_int Tryd.underlying3) n) (Open.opensF_cons rfl (by kernel_rfl) n ((Open.opens_int Tryd.underlying3) n) (Open.opensF_one rfl (by kernel_rfl) n ((Open.opens_string Tryd.underlying9) n))))).imp (fun _ _ _ h => h) (fun _ h => h)
/-- The plain statement. -/
def trommellaw20_SiftZeros.Pure : Prop := ∀ (x0 : List (S23)) (x1 : List Int), (x0.length * 32 ≤ 140737488351232 ∧ ∀ y ∈ x0, Wf23 y) → (x1.length * 8 ≤ 140737488351232 ∧ ∀ y ∈ x1, (Lit.int .i64 y).wf = true) → ∃ k, trommellaw20_SiftZeros.f k x0 x1 = some true
end Go.Proofs.YtcfgjaggccnoaaaDoor.PSiftZeros
