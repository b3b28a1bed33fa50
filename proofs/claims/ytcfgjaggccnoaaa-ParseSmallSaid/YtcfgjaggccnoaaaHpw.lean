import Derived.Test.YtcfgjaggccnoaaaHph
import Derived.Test.YtcfgjaggccnoaaaPParseSmallx8
namespace Go.Proofs.Ytcfgjaggccnoaaa.PParseSmall
open Go.RowKit Go.Proofs.YtcfgjaggccnoaaaW.PrintWords Go.Proofs.YtcfgjaggccnoaaaW.PrintLast Go.Proofs.YtcfgjaggccnoaaaW.PrintMore
attribute [local go_sem] max2_int min2_int max_two min_two max_three min_three max_four min_four
set_option linter.unusedVariables false
set_option linter.unusedSimpArgs false
set_option maxRecDepth 100000
set_option maxHeartbeats 4000000
/-! the plain law: the grammar answers, whatever the tokens -/
theorem pr_mono (l : List S91) (k : Nat) : ∀ (p : Go) (i d e : Int) (r : Re), pr l k p i d e = some r → pr l (k + 1) p i d e = some r := by
  induction k with
  | zero => intro p i d e r h; simp [pr] at h
  | succ k ih =>
    intro p i d e r h
    cases p with
    | ch p ss x =>
      simp only [pr] at h
      rw [pr]
      by_cases he : e = 0
      · rw [if_pos he] at h ⊢
        cases hf : ss.find? (fun s => isP l i e s) with
        | none => rw [hf] at h; exact h
        | some s =>
          rw [hf] at h
          obtain ⟨q, hq, h⟩ := Option.bind_eq_some_iff.1 h
          show Option.bind _ _ = _
          rw [ih _ _ _ _ _ hq, Option.bind_some]
          exact ih _ _ _ _ _ h
      · rw [if_neg he] at h ⊢
        exact h
    | f p =>
      cases p
      case or | and | sum | prod =>
        simp only [pr] at h
        rw [pr]
        obtain ⟨q, hq, h⟩ := Option.bind_eq_some_iff.1 h
        rw [ih _ _ _ _ _ hq, Option.bind_some]
        exact ih _ _ _ _ _ h
      case not =>
        simp only [pr] at h
        rw [pr]
        by_cases g : isP l i e wNot = true
        · rw [if_pos g] at h ⊢
          by_cases hd : 0 ≤ d ∧ d ≤ 100
          · rw [if_pos hd] at h ⊢
            obtain ⟨q, hq, h⟩ := Option.bind_eq_some_iff.1 h
            rw [ih _ _ _ _ _ hq, Option.bind_some]
            exact h
          · rw [if_neg hd] at h; exact absurd h (by simp)
        · rw [if_neg g] at h ⊢
          exact ih _ _ _ _ _ h
      case test =>
        simp only [pr] at h
        rw [pr]
        obtain ⟨q, hq, h⟩ := Option.bind_eq_some_iff.1 h
        rw [ih _ _ _ _ _ hq, Option.bind_some]
        cases hf : six.find? (fun s => isP l q.i q.e s) with
        | none => rw [hf] at h; exact h
        | some s =>
          rw [hf] at h
          obtain ⟨q2, hq2, h⟩ := Option.bind_eq_some_iff.1 h
          show Option.bind _ _ = _
          rw [ih _ _ _ _ _ hq2, Option.bind_some]
          exact h
      case atom =>
        simp only [pr] at h
        rw [pr]
        by_cases g1 : (tokP l i e).f0 = 3
        · rw [if_pos g1] at h ⊢; exact h
        rw [if_neg g1] at h ⊢
        by_cases g2 : (tokP l i e).f0 = 4
        · rw [if_pos g2] at h ⊢; exact h
        rw [if_neg g2] at h ⊢
        by_cases g3 : isP l i e wNull = true
        · rw [if_pos g3] at h ⊢; exact h
        rw [if_neg g3] at h ⊢
        by_cases g4 : isP l i e wOpen = true
        · rw [if_pos g4] at h ⊢
          by_cases hd : 0 ≤ d ∧ d ≤ 100
          · rw [if_pos hd] at h ⊢
            obtain ⟨q, hq, h⟩ := Option.bind_eq_some_iff.1 h
            rw [ih _ _ _ _ _ hq, Option.bind_some]
            exact h
          · rw [if_neg hd] at h; exact absurd h (by simp)
        · rw [if_neg g4] at h ⊢; exact h
theorem pr_le {l : List S91} {k k' : Nat} {p : Go} {i d e : Int} {r : Re} (h : pr l k p i d e = some r) (hk : k ≤ k') : pr l k' p i d e = some r := by
  obtain ⟨m, rfl⟩ : ∃ m, k' = k + m := ⟨k' - k, by omega⟩
  clear hk
  induction m with
  | zero => exact h
  | succ m ih => exact pr_mono _ _ _ _ _ _ _ ih
/-- The answer, at fuel enough. -/
def Ans (l : List S91) (p : Go) (i d e : Int) (r : Re) : Prop := ∃ k, pr l k p i d e = some r
mutual
def nodes : S27 → Nat
  | ⟨_, _, _, _, _, _, l⟩ => nodesL l + 1
def nodesL : List S27 → Nat
  | [] => 0
  | x :: l => nodes x + nodesL l
end
end Go.Proofs.Ytcfgjaggccnoaaa.PParseSmall
