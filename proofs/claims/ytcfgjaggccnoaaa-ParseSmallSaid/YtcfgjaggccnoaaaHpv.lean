import Derived.Test.YtcfgjaggccnoaaaHpu
import Derived.Test.YtcfgjaggccnoaaaHps
import Derived.Test.YtcfgjaggccnoaaaHpz
namespace Go.Proofs.Ytcfgjaggccnoaaa.PParseSmall
open Go.RowKit Go.Proofs.YtcfgjaggccnoaaaW.PrintWords Go.Proofs.YtcfgjaggccnoaaaW.PrintLast Go.Proofs.YtcfgjaggccnoaaaW.PrintMore
attribute [local go_sem] max2_int min2_int max_two min_two max_three min_three max_four min_four
set_option linter.unusedVariables false
set_option linter.unusedSimpArgs false
set_option maxRecDepth 100000
set_option maxHeartbeats 4000000
/-! the tokens' errors -/
def ok4 (e : Int) : Prop := e = 0 ∨ e = 1 ∨ e = 4
theorem tx_ok (s : ByteArray) (d : Nat) : ∀ (i : Nat) (acc : List Int), ok4 (tx s d i acc).1 := by
  induction d with
  | zero => intro i acc; exact .inr (.inl rfl)
  | succ d ih =>
    intro i acc
    rw [tx_succ]
    split
    · split
      · split
        · exact ih _ _
        · split
          · exact .inr (.inr rfl)
          · exact .inl rfl
      · exact ih _ _
    · exact .inr (.inl rfl)
theorem tok_ok (s : ByteArray) (a : Int) (i : Nat) : ok4 (tokR s a i).2.2.2.2.2 := by
  unfold tokR
  split
  · exact .inl rfl
  split
  · unfold nameR
    split
    · exact .inr (.inl rfl)
    · split <;> exact .inl rfl
  split
  · unfold numR
    cases nv s (stp dgt s (s.size - i) i - i) i 0 with
    | none => exact .inr (.inl rfl)
    | some n =>
      simp only [numE]
      split
      · exact .inr (.inl rfl)
      · exact .inl rfl
  split
  · unfold txR
    split
    · exact .inl rfl
    · exact tx_ok _ _ _ _
  split
  · exact .inr (.inl rfl)
  · exact .inl rfl
theorem all_ok (s : ByteArray) (n : Nat) : ∀ (acc : List S91) (a : Int), ok4 (allR s n acc a).2 := by
  induction n with
  | zero => intro acc a; exact .inr (.inr rfl)
  | succ n ih =>
    intro acc a
    rw [allR_succ]
    split
    · split
      · exact .inl rfl
      · exact ih _ _
    · exact tok_ok _ _ _
/-- What Expr makes of the text, and the two halves that the law asks for. -/
theorem small_law (s : ByteArray) (hs : ¬ 3000 < (s.size : Int)) (w : World) : Calls Try.prog 4 #[.string s] w fun r w' => r = .returned (.bool true) ∧ Below w.heap.size w w' := by
  have hz : s.size ≤ 140737488355328 := by omega
  have hT := all_is s hz (3 * s.size + 2000) (by omega)
  have hR := rall_is s hz (3 * s.size + 2000) (by omega)
  have hk := all_ok s 1000 [] 0
  have hl := allR_len s 1000 [] 0
  generalize allR s 1000 [] 0 = a at *
  obtain ⟨l, e0⟩ := a
  simp only [List.length_nil, Nat.zero_add] at hl
  obtain ⟨r, k2, hp, q1, q2, q3, q4, q5⟩ := pr_an l e0 hk
  obtain ⟨g1, g2, g3, g4, g5, g6⟩ := q1
  by_cases he : enE l r.i r.e = 0
  · have hre : r.e = 0 ∧ e0 = 0 := by
      unfold enE at he
      split at he
      · exact absurd he (by decide)
      · exact ⟨he, Decidable.byContradiction fun u => u ((q4 u).1 ▸ he)⟩
    have hn := q5 hre.1
    obtain ⟨F, D, f1, f2, f3⟩ := flat_f 1000000 (by decide) r.x (by omega) 1 (2 * nodes r.x) (Nat.le_refl _)
    have hR' : r07_All.f (3 * s.size + 2000) s = some (l, 0) := by rw [hR, hre.2]
    exact law_ok s hs r.x (fun w => expr_ok _ s l e0 r w (by omega) hT k2 hp he) _ _ l F D hR' f1 (by omega) w
  · have h14 : enE l r.i r.e = 1 ∨ enE l r.i r.e = 4 := by
      unfold enE at he ⊢
      split
      · exact .inl rfl
      · next h =>
        rw [if_neg h] at he
        rcases g6 with u | u | u
        · exact absurd u he
        · exact .inl u
        · exact .inr u
    exact law_err s hs zx27 rfl (enE l r.i r.e) h14 (fun w => expr_err _ s l e0 _ r w (by omega) hT k2 hp rfl he) w
theorem parse_small (s : ByteArray) (w : World) : Calls Try.prog 4 #[.string s] w fun r w' => r = .returned (.bool true) ∧ Below w.heap.size w w' := by
  by_cases hs : 3000 < (s.size : Int)
  · exact law_big s hs w
  · exact small_law s hs w
end Go.Proofs.Ytcfgjaggccnoaaa.PParseSmall
