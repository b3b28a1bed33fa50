/- For every expression and whatever is said of tables, the program's Share tells, bit by bit, the share that the document's reference tells, and it is from 0 to 1. Conditions: none beyond the law's own guards (small expressions, few tables). -/
-- Written by wip/xlaw.py, a program of mine; Lean checks it.
import Derived.Test.YtcfgjaggccnoaaaRows
import Derived.Test.YtcfgjaggccnoaaaZCostShares6
import Derived.WalkKit
import Derived.ProofKit
import Derived.OpenShut
import Derived.ShutString
import Derived.ChangeOld
import Derived.Below
import Derived.SizedLaws
import Derived.Carry
namespace Go.Proofs.Ytcfgjaggccnoaaa.costShares
open Go.ChangeShapes Go.WideShapes Go.ChangeAt Go.RowKit Go.Proofs.Ytcfgjaggccnoaaa.PCostShares Go.Proofs.YtcfgjaggccnoaaaW.PrintWords
open Go.ChangeMaps (open_string shut_string)
set_option linter.unusedVariables false
theorem own : ownKnob Try.prog.godebug = none := by kernel_rfl
theorem laidOut : laidOutB Try.prog = true := by kernel_rfl
set_option maxRecDepth 100000 in
theorem lifted (os : Os) (started : os.Started) (H : Type) (enc : TypeId × Value → H) :
    ReturnsInHanded {} Try.checked os 6 .any (Rows.costSharesSpec.pre6 enc Try.prog Try.f6 Rows.costSharesRow.domain false) (Rows.costSharesSpec.post enc Try.prog Try.f6 false true false false) := by
  refine returnsInHanded_of_change_sized (C := Try.checked) own started (by kernel_rfl) Try.func6
    (ChangeSpec.witness6 (enc := enc) (C := Try.checked) false ⟨#[], #[.agg #[.int .i64 0, .string ByteArray.empty, .string ByteArray.empty, .int .i64 0, .int .i64 0, .int .i64 0, .int .i64 0, .string ByteArray.empty, .slice none 0 0], .slice none 0 0], []⟩ 8 (by kernel_rfl) (by kernel_rfl) (by kernel_rfl) (by kernel_rfl)) ?_
  intro W base args ds gs before hval0 hW hcnd hsz0 _
  have hsz : (DataW.weightsEach Try.prog (Try.f6.params.toList ++ Rows.costSharesSpec.plain.varTypes Try.prog) (ds ++ gs)).all (· ≤ reachBytes) = true := hsz0
  have hval : ∀ (j : Nat) t v, Try.f6.params[j]? = some t → args[j]? = some v → Value.okWide Try.prog W .any base t v := hval0
  have hW' := hW
  obtain ⟨p, q, hA0, hV, rfl, hfz, hnd⟩ := hW
  have hA : DataW.TrodAll enc Try.prog W 0 (fun _ => true) true Try.f6.params.toList args.toList ds p := hA0
  rw [Try.params6] at hA hval hsz
  obtain ⟨v0, vs0, d0, ds0, p0, q0, hargs, rfl, rfl, h0, r0⟩ := trodAll_cons hA
  obtain ⟨v1, vs1, d1, ds1, p1, q1, rfl, rfl, rfl, h1, r1⟩ := trodAll_cons r0
  obtain ⟨rfl, rfl, rfl⟩ := trodAll_nil r1
  obtain rfl : args = #[v0, v1] := by cases args; simp_all
  obtain ⟨rfl, rfl⟩ := trodVars_none hV
  have k0_ := h0
  have lt0 : ∀ x ∈ p0, x.block < W.heap.size := by obtain ⟨m, hm⟩ := k0_; exact DataW.trod_lt m _ _ _ hm
  obtain ⟨y0, e0, w0⟩ := Open.opens_arg opens27 hsz (j := 0) (t := 27) rfl rfl h0
  obtain ⟨C0, rfl, _⟩ := okWide_struct Try.underlying27 (hval 0 27 v0 rfl rfl)
  obtain ⟨A0_8, c0_8, f0, g0_8, hr0_8⟩ := k27_open e0
  obtain rfl : C0 = #[.int .i64 y0.f0, .string y0.f1, .string y0.f2, .int .i64 y0.f3, .int .i64 y0.f4, .int .i64 y0.f5.f0, .int .i64 y0.f5.f1, .string y0.f5.f2, .slice A0_8 y0.f6.length c0_8] := by apply Array.ext'; simpa [Value.cells] using f0
  have k1_ := h1
  have lt1 : ∀ x ∈ p1, x.block < W.heap.size := by obtain ⟨m, hm⟩ := k1_; exact DataW.trod_lt m _ _ _ hm
  obtain ⟨y1, e1, w1⟩ := Open.opens_arg (fun n => (match n with | 0 => Open.opens_zero _ _ _ _ | n + 1 => Open.opens_slice Try.underlying62 (by kernel_rfl) (by kernel_rfl) n (opens103 n) : Open.Opens Try.prog 62 (Kd.slice 103 k103) (fun x => (x.length * 32 ≤ 140737488351232 ∧ ∀ y ∈ x, Wf103 y)) n)) hsz (j := 1) (t := 62) rfl rfl h1
  obtain ⟨A1, n1, c1, rfl⟩ := okWide_slice Try.underlying62 (hval 1 62 v1 rfl rfl)
  obtain ⟨B1, b1, f1, g1, hr1⟩ := e1
  obtain ⟨rfl, rfl, rfl⟩ : A1 = B1 ∧ n1 = y1.length ∧ c1 = b1 := by simpa [Value.cells] using f1
  try clear hval0
  try clear hsz0
  try clear hsz
  obtain ⟨k, hp⟩ := Pure.CostShares y0 y1 w0 w1
  refine (w29_CostShares.calls k y0.f0 y0.f1 y0.f2 y0.f3 y0.f4 y0.f5.f0 y0.f5.f1 y0.f5.f2 _ _ y0.f6 _ _ y1 true W hr0_8 g0_8 hr1 g1 hp).mono fun e W' ⟨he, bel⟩ => ?_
  subst he
  exact ⟨_, rfl, _, _, _, [], _, [], hW', trodAll_mk1 (shut_bool Try.underlying4 _), (trodAll_cons_mk (Below.trod laidOut (by kernel_rfl) (of_decide_eq_true (by kernel_rfl)) k0_ bel lt0) (trodAll_cons_mk (Below.trod laidOut (by kernel_rfl) (of_decide_eq_true (by kernel_rfl)) k1_ bel lt1) trodAll_mk0)), rfl, bel.frame _, fun h => by cases h⟩
theorem over : Rows.costSharesRow.holds Try.pinned (OpenSpec.ofChange Rows.costSharesSpec) :=
  OpenClaim.holds_of_wide 6 Try.f6 rfl rfl rfl rfl rfl rfl rfl ⟨rfl, rfl, rfl, rfl, rfl⟩ rfl rfl rfl rfl rfl (by kernel_rfl) Try.func6 (by kernel_rfl)
    (of_decide_eq_true (by kernel_rfl)) (by unfold Func.isWrapper; first | (rw [if_pos (by decide +kernel)]; kernel_rfl) | (rw [if_neg (by decide +kernel)]; exact ⟨rfl, rfl⟩))
    (fun os started H enc _ => lifted os started H enc)
theorem proved : Rows.CostSharesSaid := over
#print axioms proved
end Go.Proofs.Ytcfgjaggccnoaaa.costShares
namespace Go.Proofs.Ytcfgjaggccnoaaa
/-- The row, under a short name, for the claim. -/
theorem costShares_holds : Rows.CostSharesSaid := costShares.proved
end Go.Proofs.Ytcfgjaggccnoaaa
