-- Written by wip/xlaw.py, a program of mine; Lean checks it.
import Derived.Test.YtcfgjaggccnoaaaDoorPSiftKeepsx11
import Derived.Test.YtcfgjaggccnoaaaDoorOpSiftKeeps
namespace Go.Proofs.YtcfgjaggccnoaaaDoor.PSiftKeeps
open Go.RowKit Go.Proofs.YtcfgjaggccnoaaaDoorW.PrintWords Go.Proofs.YtcfgjaggccnoaaaDoorW.PrintLast
set_option linter.unusedVariables false
def Wf23 (x : S23) : Prop := (Lit.int .i64 x.f0).wf = true ∧ (Lit.int .i64 x.f1).wf = true ∧ x.f2.size ≤ 140737488351232
theorem opens23 : ∀ n, Open.Opens Tryd.prog 23 k23 Wf23 n
  | 0 => Open.opens_zero _ _ _ _
  | n + 1 => (Open.opens_struct (t := 23) (L := (Kd.pair (Kd.int .i64) (Kd.pair (Kd.int .i64) Kd.string))) (fun x : S23 => (x.f0, x.f1, x.f2)) (fun b => (⟨b.1, b.2.1, b.2.2⟩ : S23)) (fun _ => rfl) Tryd.underlying23 (by kernel_rfl) n (Open.opensF_cons rfl (by kernel_rfl) n ((Open.opens_int Tryd.underlying3) n) (Open.opensF_cons rfl (by kernel_rfl) n ((Open.opens_int Tryd.underlying3) n) (Open.opensF_one rfl (by kernel_rfl) n ((Open.opens_string Tryd.underlying9) n))))).imp (fun _ _ _ h => h) (fun _ h => h)
/-- The plain statement. -/
def w20_SiftKeeps.Pure : Prop := ∀ (x0 : Int) (x1 : Int) (x2 : Int) (x3 : List (List (S23))) (x4 : List (List (S23))), (Lit.int .i64 x0).wf = true → (Lit.int .i64 x1).wf = true → (Lit.int .i64 x2).wf = true → (x3.length * 24 ≤ 140737488351232 ∧ ∀ y ∈ x3, (y.length * 32 ≤ 140737488351232 ∧ ∀ z ∈ y, Wf23 z)) → (x4.length * 24 ≤ 140737488351232 ∧ ∀ y ∈ x4, (y.length * 32 ≤ 140737488351232 ∧ ∀ z ∈ y, Wf23 z)) → ∃ k, w20_SiftKeeps.f k x0 x1 x2 x3 x4 = some true
end Go.Proofs.YtcfgjaggccnoaaaDoor.PSiftKeeps
