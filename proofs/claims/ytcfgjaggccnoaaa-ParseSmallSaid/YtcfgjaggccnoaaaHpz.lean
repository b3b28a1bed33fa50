import Derived.Test.YtcfgjaggccnoaaaHpy
import Derived.Test.YtcfgjaggccnoaaaPParseSmallx8
namespace Go.Proofs.Ytcfgjaggccnoaaa.PParseSmall
open Go.RowKit Go.Proofs.YtcfgjaggccnoaaaW.PrintWords Go.Proofs.YtcfgjaggccnoaaaW.PrintLast Go.Proofs.YtcfgjaggccnoaaaW.PrintMore
attribute [local go_sem] max2_int min2_int max_two min_two max_three min_three max_four min_four
set_option linter.unusedVariables false
set_option linter.unusedSimpArgs false
set_option maxRecDepth 100000
set_option maxHeartbeats 4000000
/-! Flat has as many nodes as the tree -/
theorem nodes_pos (x : S27) : 1 ≤ nodes x := by cases x; simp [nodes]
theorem nodes_f6 (x : S27) : nodes x = nodesL x.f6 + 1 := by cases x; simp [nodes]
theorem drop_cons {l : List S27} {j : Nat} (h : j < l.length) : l.drop j = rd_T27 l (j : Int) :: l.drop (j + 1) := by
  unfold rd_T27
  rw [List.drop_eq_getElem_cons h, List.getD_eq_getElem?_getD, show ((j : Int)).toNat = j from rfl, List.getElem?_eq_getElem h]
  rfl
theorem wj (j : Nat) (h : j ≤ 1000000) : wrap64 ((j : Int) + 1) = ((j + 1 : Nat) : Int) := by unfold wrap64; omega
theorem lim1 {a b : Nat} (h : a + b ≤ 1000000) : a + b < 1256584717458 := by omega
theorem lim2 {a b : Nat} (h : a + b ≤ 1000000) : a + b < 17592186044416 := by omega
theorem bsz {α β : Type} (a : α) (f : α → Option β) : (some a).bind f = f a := rfl
theorem flat_step {k : Nat} {a1 b0 b3 b4 b5 b6 j : Int} {b1 b2 b7 : ByteArray} {l F F1 : List S27} {D D1 : List Int} {r : Option (List S27 × List Int)} (h0 : 0 ≤ j) (h2 : j < (l.length : Int))
    (h1 : r08_Flat.f k (rd_T27 l j).f0 (rd_T27 l j).f1 (rd_T27 l j).f2 (rd_T27 l j).f3 (rd_T27 l j).f4 (rd_T27 l j).f5.f0 (rd_T27 l j).f5.f1 (rd_T27 l j).f5.f2 (rd_T27 l j).f6 (wrap64 (a1 + 1)) = some (F1, D1)) (q1 : F.length + F1.length < 1256584717458) (q2 : D.length + D1.length < 17592186044416)
    (h : r08_Flat.l0 k a1 (F ++ F1) (D ++ D1) (wrap64 (j + 1)) b0 b1 b2 b3 b4 b5 b6 b7 l = r) : r08_Flat.l0 (k + 1) a1 F D j b0 b1 b2 b3 b4 b5 b6 b7 l = r := by
  rw [r08_Flat.l0, if_pos h2, if_pos h0, h1, bsz, if_pos q1, if_pos q2]
  exact h
theorem flat_stop {k : Nat} {a1 b0 b3 b4 b5 b6 j : Int} {b1 b2 b7 : ByteArray} {l F : List S27} {D : List Int} (h2 : ¬ j < (l.length : Int)) : r08_Flat.l0 (k + 1) a1 F D j b0 b1 b2 b3 b4 b5 b6 b7 l = some (F, D) := by
  rw [r08_Flat.l0, if_neg h2]
theorem flat_l0 (N : Nat) (hN : N ≤ 1000000) (ih : ∀ x, nodes x < N → ∀ (a : Int) (k : Nat), 2 * nodes x ≤ k → ∃ F D, r08_Flat.f k x.f0 x.f1 x.f2 x.f3 x.f4 x.f5.f0 x.f5.f1 x.f5.f2 x.f6 a = some (F, D) ∧ F.length = nodes x ∧ D.length = nodes x)
    (a1 b0 b3 b4 b5 b6 : Int) (b1 b2 b7 : ByteArray) (l : List S27) (hl : l.length ≤ 1000000) (m : Nat) : ∀ (j k : Nat) (F : List S27) (D : List Int), j + m = l.length → nodesL (l.drop j) < N → F.length + nodesL (l.drop j) ≤ N → D.length = F.length → 2 * nodesL (l.drop j) + 1 ≤ k →
      ∃ F' D', r08_Flat.l0 k a1 F D (j : Int) b0 b1 b2 b3 b4 b5 b6 b7 l = some (F', D') ∧ F'.length = F.length + nodesL (l.drop j) ∧ D'.length = F'.length := by
  induction m with
  | zero =>
    intro j k F D hj hn hb hd hk
    obtain ⟨k, rfl⟩ : ∃ q, k = q + 1 := ⟨k - 1, by omega⟩
    refine ⟨F, D, ?_, ?_, hd⟩
    · exact flat_stop (by omega)
    · rw [List.drop_eq_nil_of_le (by omega)]
      simp [nodesL]
  | succ m ihm =>
    intro j k F D hj hn hb hd hk
    have hlt : j < l.length := by omega
    have hp := nodes_pos (rd_T27 l (j : Int))
    rw [drop_cons hlt] at hn hb hk ⊢
    simp only [nodesL] at hn hb hk ⊢
    obtain ⟨k, rfl⟩ : ∃ q, k = q + 1 := ⟨k - 1, by omega⟩
    obtain ⟨F1, D1, h1, h2, h3⟩ := ih (rd_T27 l (j : Int)) (by omega) (wrap64 (a1 + 1)) k (by omega)
    obtain ⟨F2, D2, g1, g2, g3⟩ := ihm (j + 1) k (F ++ F1) (D ++ D1) (by omega) (by omega) (by rw [List.length_append]; omega) (by rw [List.length_append, List.length_append]; omega) (by omega)
    have e1 : wrap64 ((j : Int) + 1) = ((j + 1 : Nat) : Int) := wj j (by omega)
    refine ⟨F2, D2, ?_, by rw [g2, List.length_append]; omega, g3⟩
    have q1 : F.length + F1.length ≤ 1000000 := by omega
    have q2 : D.length + D1.length ≤ 1000000 := by omega
    exact flat_step (Int.natCast_nonneg j) (by omega) h1 (lim1 q1) (lim2 q2) (by rw [e1]; exact g1)
theorem len_nodes (t : List S27) : t.length ≤ nodesL t := by
  induction t with
  | nil => simp
  | cons y t iht => have := nodes_pos y; simp only [nodesL, List.length_cons]; omega
theorem flat_f (N : Nat) (hN : N ≤ 1000000) : ∀ x, nodes x ≤ N → ∀ (a : Int) (k : Nat), 2 * nodes x ≤ k → ∃ F D, r08_Flat.f k x.f0 x.f1 x.f2 x.f3 x.f4 x.f5.f0 x.f5.f1 x.f5.f2 x.f6 a = some (F, D) ∧ F.length = nodes x ∧ D.length = nodes x := by
  induction N with
  | zero => intro x hx; have := nodes_pos x; omega
  | succ N ih =>
    intro x hx a k hk
    have hp := nodes_pos x
    have hx6 := nodes_f6 x
    have hl := len_nodes x.f6
    obtain ⟨q, rfl⟩ : ∃ q, k = q + 1 := ⟨k - 1, by omega⟩
    obtain ⟨F, D, h1, h2, h3⟩ := flat_l0 (N + 1) hN (fun y hy => ih (by omega) y (by omega)) a x.f0 x.f3 x.f4 x.f5.f0 x.f5.f1 x.f1 x.f2 x.f5.f2 x.f6 (by omega) x.f6.length 0 q [⟨x.f0, x.f1, x.f2, x.f3, x.f4, ⟨x.f5.f0, x.f5.f1, x.f5.f2⟩, x.f6⟩] [a] (by omega) (by rw [List.drop_zero]; omega) (by rw [List.drop_zero, List.length_singleton]; omega) rfl (by rw [List.drop_zero]; omega)
    rw [List.drop_zero, List.length_singleton] at h2
    refine ⟨F, D, ?_, by omega, by omega⟩
    rw [r08_Flat.f]
    exact h1
end Go.Proofs.Ytcfgjaggccnoaaa.PParseSmall
