import Derived.Test.YtcfgjaggccnoaaaHpw
namespace Go.Proofs.Ytcfgjaggccnoaaa.PParseSmall
open Go.RowKit Go.Proofs.YtcfgjaggccnoaaaW.PrintWords Go.Proofs.YtcfgjaggccnoaaaW.PrintLast Go.Proofs.YtcfgjaggccnoaaaW.PrintMore
attribute [local go_sem] max2_int min2_int max_two min_two max_three min_three max_four min_four
set_option linter.unusedVariables false
set_option linter.unusedSimpArgs false
set_option maxRecDepth 100000
set_option maxHeartbeats 4000000
def Gd (l : List S91) (i d e : Int) : Prop := 0 ≤ i ∧ i ≤ l.length ∧ 0 ≤ d ∧ d ≤ 51 ∧ (e = 0 → d ≤ 50) ∧ (e = 0 ∨ e = 1 ∨ e = 4)
def ms (l : List S91) (i e : Int) : Nat := if e = 0 then (l.length - i).toNat + 1 else 0
def Rs (l : List S91) (i d e : Int) (r : Re) (b : Nat) : Prop := Gd l r.i r.d r.e ∧ r.d = d ∧ i ≤ r.i ∧ (e ≠ 0 → r.e = e ∧ r.i = i) ∧ (r.e = 0 → (nodes r.x : Int) + i ≤ r.i + b)
theorem ms_le {l : List S91} {i e i' e' : Int} (h : i ≤ i') (he : e ≠ 0 → e' ≠ 0) : ms l i' e' ≤ ms l i e := by
  unfold ms
  by_cases c : e' = 0
  · rw [if_pos c, if_pos (Decidable.byContradiction fun q => he q c)]
    omega
  · rw [if_neg c]
    omega
theorem Rs.ms {l : List S91} {i d e : Int} {r : Re} {b : Nat} (h : Rs l i d e r b) : ms l r.i r.e ≤ ms l i e := ms_le h.2.2.1 fun q c => q ((h.2.2.2.1 q).1 ▸ c)
theorem ms_lt {l : List S91} {i : Int} (h : i < l.length) : Go.Proofs.Ytcfgjaggccnoaaa.PParseSmall.ms l (i + 1) 0 < Go.Proofs.Ytcfgjaggccnoaaa.PParseSmall.ms l i 0 := by
  unfold Go.Proofs.Ytcfgjaggccnoaaa.PParseSmall.ms
  rw [if_pos rfl, if_pos rfl]
  omega
def OKf (l : List S91) (M : Nat) (p : Gr) : Prop := ∀ i d e, ms l i e ≤ M → Gd l i d e → ∃ r, Ans l (.f p) i d e r ∧ Rs l i d e r 0
def OKc (l : List S91) (M : Nat) (p : Gr) (ss : List ByteArray) : Prop := ∀ i d e x, ms l i e ≤ M → Gd l i d e → ∃ r, Ans l (.ch p ss x) i d e r ∧ Rs l i d e r (nodes x)
theorem nodes_of2 (op : Int) (x y : S27) : nodes (ofP op [x, y]) = nodes x + nodes y + 1 := by simp [ofP, nodes, nodesL]
theorem nodes_of1 (op : Int) (x : S27) : nodes (ofP op [x]) = nodes x + 1 := by simp [ofP, nodes, nodesL]
theorem chain_an (l : List S91) (p : Gr) (ss : List ByteArray) (M : Nat) (hp : ∀ M', M' < M → OKf l M' p) : OKc l M p ss := by
  induction M with
  | zero =>
    intro i d e x hm hg
    have he : e ≠ 0 := fun q => by subst q; unfold ms at hm; rw [if_pos rfl] at hm; omega
    exact ⟨⟨i, d, e, x⟩, ⟨1, by simp only [pr]; rw [if_neg he]⟩, hg, rfl, Int.le_refl i, fun _ => ⟨rfl, rfl⟩, fun q => absurd q he⟩
  | succ M ih =>
    intro i d e x hm hg
    by_cases he : e = 0
    · subst he
      cases hf : ss.find? (fun s => isP l i 0 s) with
      | none => exact ⟨⟨i, d, 0, x⟩, ⟨1, by simp only [pr]; rw [if_pos trivial, hf]⟩, hg, rfl, Int.le_refl i, fun q => absurd rfl q, fun _ => by simp only; omega⟩
      | some s =>
        have hs : isP l i 0 s = true := by have := List.find?_some hf; simpa using this
        have hi := (isP_le l i 0 s hs).2
        have hlt := ms_lt hi
        obtain ⟨g1, g2, g3, g4, g5, g6⟩ := hg
        obtain ⟨r1, ⟨k1, a1⟩, q1⟩ := hp M (Nat.lt_succ_self M) (i + 1) d 0 (by omega) ⟨by omega, by omega, g3, g4, g5, g6⟩
        have m1 := q1.ms
        obtain ⟨r2, ⟨k2, a2⟩, q2⟩ := ih (fun M' h => hp M' (by omega)) r1.i r1.d r1.e (ofP (opP s) [x, r1.x]) (by omega) q1.1
        refine ⟨r2, ⟨max k1 k2 + 1, ?_⟩, ?_⟩
        · simp only [pr]
          rw [if_pos trivial, hf]
          show Option.bind _ _ = _
          rw [pr_le a1 (Nat.le_max_left k1 k2), Option.bind_some]
          exact pr_le a2 (Nat.le_max_right k1 k2)
        · obtain ⟨u1, u2, u3, u4, u5⟩ := q1
          obtain ⟨v1, v2, v3, v4, v5⟩ := q2
          refine ⟨v1, by omega, by omega, fun q => absurd rfl q, fun c => ?_⟩
          have c1 : r1.e = 0 := Decidable.byContradiction fun q => q ((v4 q).1 ▸ c)
          have w1 := u5 c1; have w2 := v5 c
          rw [nodes_of2] at w2
          omega
    · exact ⟨⟨i, d, e, x⟩, ⟨1, by simp only [pr]; rw [if_neg he]⟩, hg, rfl, Int.le_refl i, fun _ => ⟨rfl, rfl⟩, fun q => absurd q he⟩
theorem link_an {l : List S91} {p : Gr} {ss : List ByteArray} {M : Nat} (h1 : OKf l M p) (h2 : OKc l M p ss) {i d e : Int} (hm : ms l i e ≤ M) (hg : Gd l i d e) : ∃ k r0 r, pr l k (.f p) i d e = some r0 ∧ pr l k (.ch p ss r0.x) r0.i r0.d r0.e = some r ∧ Rs l i d e r 0 := by
  obtain ⟨r0, ⟨k1, a1⟩, q1⟩ := h1 i d e hm hg
  have m1 := q1.ms
  obtain ⟨r, ⟨k2, a2⟩, q2⟩ := h2 r0.i r0.d r0.e r0.x (by omega) q1.1
  refine ⟨max k1 k2, r0, r, pr_le a1 (Nat.le_max_left k1 k2), pr_le a2 (Nat.le_max_right k1 k2), ?_⟩
  obtain ⟨u1, u2, u3, u4, u5⟩ := q1
  obtain ⟨v1, v2, v3, v4, v5⟩ := q2
  refine ⟨v1, by omega, by omega, fun q => ?_, fun c => ?_⟩
  · have w := u4 q
    have w2 := v4 (by rw [w.1]; exact q)
    exact ⟨w2.1.trans w.1, w2.2.trans w.2⟩
  · have c1 : r0.e = 0 := Decidable.byContradiction fun q => q ((v4 q).1 ▸ c)
    have w1 := u5 c1; have w2 := v5 c
    omega
end Go.Proofs.Ytcfgjaggccnoaaa.PParseSmall
