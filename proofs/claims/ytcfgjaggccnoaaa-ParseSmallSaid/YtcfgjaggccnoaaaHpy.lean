import Derived.Test.YtcfgjaggccnoaaaHpx
namespace Go.Proofs.Ytcfgjaggccnoaaa.PParseSmall
open Go.RowKit Go.Proofs.YtcfgjaggccnoaaaW.PrintWords Go.Proofs.YtcfgjaggccnoaaaW.PrintLast Go.Proofs.YtcfgjaggccnoaaaW.PrintMore
attribute [local go_sem] max2_int min2_int max_two min_two max_three min_three max_four min_four
set_option linter.unusedVariables false
set_option linter.unusedSimpArgs false
set_option maxRecDepth 100000
set_option maxHeartbeats 4000000
theorem fl_ne (e : Int) : flE e 1 ≠ 0 := by unfold flE; split <;> omega
theorem fl_e {e : Int} (h : e ≠ 0) : flE e 1 = e := by unfold flE; rw [if_neg h]
theorem fl_ok {e : Int} (h : e = 0 ∨ e = 1 ∨ e = 4) : flE e 1 = 0 ∨ flE e 1 = 1 ∨ flE e 1 = 4 := by unfold flE; split <;> omega
theorem tok_off {l : List S91} {i e : Int} (h : e ≠ 0) : (tokP l i e).f0 = 0 := by
  unfold tokP
  rw [if_neg (fun q => h q.1)]
theorem isP_off {l : List S91} {i e : Int} {s : ByteArray} (h : e ≠ 0) : isP l i e s = false := by
  cases c : isP l i e s with
  | false => rfl
  | true => exact absurd (isP_le l i e s c).1 h
theorem mu_rs {l : List S91} {i d e : Int} (s : ByteArray) (hg : Gd l i d e) : Gd l (muI l i e s) d (muE l i e s) ∧ i ≤ muI l i e s ∧ (e ≠ 0 → muE l i e s = e ∧ muI l i e s = i) ∧ (muE l i e s = 0 → e = 0 ∧ muI l i e s = i + 1) := by
  obtain ⟨g1, g2, g3, g4, g5, g6⟩ := hg
  unfold muI muE
  cases c : isP l i e s with
  | true =>
    have q := isP_le l i e s c
    rw [if_pos rfl, if_pos rfl]
    exact ⟨⟨by omega, by omega, g3, g4, g5, g6⟩, by omega, fun h => absurd q.1 h, fun h => ⟨h, rfl⟩⟩
  | false =>
    rw [if_neg (by decide), if_neg (by decide)]
    exact ⟨⟨g1, g2, g3, g4, fun h => absurd h (fl_ne e), fl_ok g6⟩, Int.le_refl i, fun h => ⟨fl_e h, rfl⟩, fun h => absurd h (fl_ne e)⟩
theorem nm_rs {l : List S91} {i d e : Int} (hg : Gd l i d e) : Gd l (nmI l i e) d (nmE l i e) ∧ i ≤ nmI l i e ∧ (e ≠ 0 → nmE l i e = e ∧ nmI l i e = i) ∧ (nmE l i e = 0 → e = 0 ∧ nmI l i e = i + 1) := by
  obtain ⟨g1, g2, g3, g4, g5, g6⟩ := hg
  unfold nmI nmE
  by_cases c : (tokP l i e).f0 = 1
  · have q := tok_le l i e (by rw [c]; decide)
    rw [if_pos c, if_pos c]
    exact ⟨⟨by omega, by omega, g3, g4, g5, g6⟩, by omega, fun h => absurd q.1 h, fun h => ⟨h, rfl⟩⟩
  · rw [if_neg c, if_neg c]
    exact ⟨⟨g1, g2, g3, g4, fun h => absurd h (fl_ne e), fl_ok g6⟩, Int.le_refl i, fun h => ⟨fl_e h, rfl⟩, fun h => absurd h (fl_ne e)⟩
theorem co_rs {l : List S91} {i d e : Int} (hg : Gd l i d e) : Rs l i d e ⟨coI l i e, d, coE l i e, coX l i e⟩ 0 := by
  obtain ⟨a1, a2, a3, a4⟩ := nm_rs hg
  have hn : nodes (coX l i e) = 1 := by unfold coX colP; split <;> simp [nodes, nodesL]
  unfold Rs
  simp only [hn]
  unfold coI coE
  cases c : isP l (nmI l i e) (nmE l i e) ⟨#[46]⟩ with
  | true =>
    have q := isP_le _ _ _ _ c
    rw [if_pos rfl, if_pos rfl]
    obtain ⟨g1, g2, g3, g4, g5, g6⟩ := a1
    obtain ⟨b1, b2, b3, b4⟩ := nm_rs (l := l) (i := nmI l i e + 1) (d := d) (e := nmE l i e) ⟨by omega, by omega, g3, g4, g5, g6⟩
    have e0 := a4 q.1
    exact ⟨b1, trivial, by omega, fun h => absurd e0.1 h, fun h => by have := b4 h; omega⟩
  | false =>
    rw [if_neg (by decide), if_neg (by decide)]
    exact ⟨a1, trivial, a2, a3, fun h => by have := a4 h; omega⟩
theorem leaf_rs {l : List S91} {i d e : Int} {x : S27} (hg : Gd l i d e) (he : e = 0) (hi : i < l.length) (hn : nodes x = 1) : Rs l i d e ⟨i + 1, d, e, x⟩ 0 := by
  obtain ⟨g1, g2, g3, g4, g5, g6⟩ := hg
  exact ⟨⟨by show (0 : Int) ≤ i + 1; omega, by show i + 1 ≤ (l.length : Int); omega, g3, g4, g5, g6⟩, rfl, by show i ≤ i + 1; omega, fun q => absurd he q, fun _ => by simp only [hn]; omega⟩
theorem val_nodes (a b : Int) (s : ByteArray) : nodes (valP a b s) = 1 := by simp [valP, nodes, nodesL]
theorem tx_nodes (s : ByteArray) : nodes (txP s) = 1 := by unfold txP; split <;> exact val_nodes _ _ _
/-- Down into a bracket or a 'not': fewer tokens, or an error. -/
theorem dn_rs {l : List S91} {i d : Int} {s : ByteArray} (hg : Gd l i d 0) (hs : isP l i 0 s = true) : Gd l (isI l i (dnE d 0) s) (d + 1) (dnE d 0) ∧ ms l (isI l i (dnE d 0) s) (dnE d 0) < ms l i 0 ∧ i ≤ isI l i (dnE d 0) s ∧ (dnE d 0 = 0 → isI l i (dnE d 0) s = i + 1) := by
  obtain ⟨g1, g2, g3, g4, g5, g6⟩ := hg
  have q := isP_le l i 0 s hs
  have g5' := g5 rfl
  by_cases c : d + 1 > 50
  · have z : dnE d 0 = 4 := by unfold dnE; rw [if_pos ⟨c, rfl⟩]
    have z2 : isP l i 4 s = false := isP_off (by decide)
    unfold isI
    rw [z, z2, if_neg (by decide)]
    refine ⟨⟨g1, g2, by omega, by omega, fun h => absurd h (by decide), .inr (.inr rfl)⟩, ?_, Int.le_refl i, fun h => absurd h (by decide)⟩
    unfold ms
    rw [if_neg (by decide), if_pos rfl]
    omega
  · have z : dnE d 0 = 0 := by unfold dnE; rw [if_neg (fun q => c q.1)]
    unfold isI
    rw [z, hs, if_pos rfl]
    exact ⟨⟨by omega, by omega, by omega, by omega, fun _ => by omega, .inl rfl⟩, ms_lt q.2, by omega, fun _ => rfl⟩
theorem not_an (l : List S91) (M : Nat) (hn : ∀ M', M' < M → OKf l M' .not) (ht : OKf l M .test) : OKf l M .not := by
  intro i d e hm hg
  cases c : isP l i e wNot with
  | false =>
    obtain ⟨r, ⟨k, a⟩, q⟩ := ht i d e hm hg
    exact ⟨r, ⟨k + 1, by simp only [pr]; rw [c, if_neg (by decide)]; exact a⟩, q⟩
  | true =>
    obtain rfl := (isP_le l i e wNot c).1
    obtain ⟨b1, b2, b3, b4⟩ := dn_rs hg c
    obtain ⟨r, ⟨k, a⟩, q1, q2, q3, q4, q5⟩ := hn (M - 1) (by omega) _ _ _ (by omega) b1
    obtain ⟨g1, g2, g3, g4, g5, g6⟩ := hg
    have g5' := g5 rfl
    obtain ⟨h1, h2, h3, h4, h5, h6⟩ := q1
    refine ⟨⟨r.i, r.d - 1, r.e, ofP 12 [r.x]⟩, ⟨k + 1, ?_⟩, ⟨h1, h2, by simp only; omega, by simp only; omega, fun _ => by simp only; omega, h6⟩, by simp only; omega, by simp only; omega, fun q => absurd rfl q, fun z => ?_⟩
    · simp only [pr]
      rw [c, if_pos rfl, if_pos ⟨g3, by omega⟩, a, Option.bind_some, if_pos ⟨by omega, by omega⟩]
    · have z0 : dnE d 0 = 0 := Decidable.byContradiction fun u => u ((q4 u).1 ▸ z)
      have w1 := q5 z; have w2 := b4 z0
      simp only [nodes_of1]
      omega
theorem atom_an (l : List S91) (M : Nat) (ho : ∀ M', M' < M → OKf l M' .or) : OKf l M .atom := by
  intro i d e hm hg
  by_cases c1 : (tokP l i e).f0 = 3
  · have q := tok_le l i e (by rw [c1]; decide)
    exact ⟨_, ⟨1, by simp only [pr]; rw [if_pos c1]⟩, leaf_rs hg q.1 q.2 (val_nodes _ _ _)⟩
  by_cases c2 : (tokP l i e).f0 = 4
  · have q := tok_le l i e (by rw [c2]; decide)
    exact ⟨_, ⟨1, by simp only [pr]; rw [if_neg c1, if_pos c2]⟩, leaf_rs hg q.1 q.2 (tx_nodes _)⟩
  cases c3 : isP l i e wNull with
  | true =>
    have q := isP_le l i e wNull c3
    exact ⟨_, ⟨1, by simp only [pr]; rw [if_neg c1, if_neg c2, c3, if_pos rfl]⟩, leaf_rs hg q.1 q.2 (val_nodes _ _ _)⟩
  | false =>
    cases c4 : isP l i e wOpen with
    | false => exact ⟨_, ⟨1, by simp only [pr]; rw [if_neg c1, if_neg c2, c3, if_neg (by decide), c4, if_neg (by decide)]⟩, co_rs hg⟩
    | true =>
      obtain rfl := (isP_le l i e wOpen c4).1
      obtain ⟨b1, b2, b3, b4⟩ := dn_rs hg c4
      obtain ⟨r, ⟨k, a⟩, q1, q2, q3, q4, q5⟩ := ho (M - 1) (by omega) _ _ _ (by omega) b1
      obtain ⟨m1, m2, m3, m4⟩ := mu_rs wShut q1
      obtain ⟨g1, g2, g3, g4, g5, g6⟩ := hg
      have g5' := g5 rfl
      obtain ⟨h1, h2, h3, h4, h5, h6⟩ := m1
      refine ⟨⟨muI l r.i r.e wShut, r.d - 1, muE l r.i r.e wShut, r.x⟩, ⟨k + 1, ?_⟩, ⟨h1, h2, by simp only; omega, by simp only; omega, fun _ => by simp only; omega, h6⟩, by simp only; omega, by simp only; omega, fun q => absurd rfl q, fun z => ?_⟩
      · simp only [pr]
        rw [if_neg c1, if_neg c2, c3, if_neg (by decide), c4, if_pos rfl, if_pos ⟨g3, by omega⟩, a, Option.bind_some, if_pos ⟨by omega, by omega⟩]
      · have w0 := m4 z
        have z0 : dnE d 0 = 0 := Decidable.byContradiction fun u => u ((q4 u).1 ▸ w0.1)
        have w1 := q5 w0.1; have w2 := b4 z0
        simp only
        omega
theorem test_an (l : List S91) (M : Nat) (hs : OKf l M .sum) : OKf l M .test := by
  intro i d e hm hg
  obtain ⟨r, ⟨k, a⟩, q⟩ := hs i d e hm hg
  have qm := q.ms
  obtain ⟨q1, q2, q3, q4, q5⟩ := q
  cases hf : six.find? (fun s => isP l r.i r.e s) with
  | some s =>
    have hs1 : isP l r.i r.e s = true := by have := List.find?_some hf; simpa using this
    have hi := isP_le l r.i r.e s hs1
    have hlt := ms_lt hi.2
    obtain ⟨g1, g2, g3, g4, g5, g6⟩ := q1
    rw [hi.1] at qm
    obtain ⟨r2, ⟨k2, a2⟩, v1, v2, v3, v4, v5⟩ := hs (r.i + 1) r.d r.e (by rw [hi.1]; omega) ⟨by omega, by omega, g3, g4, g5, g6⟩
    refine ⟨⟨r2.i, r2.d, r2.e, ofP (opP s) [r.x, r2.x]⟩, ⟨max k k2 + 1, ?_⟩, v1, by simp only; omega, by simp only; omega, fun u => absurd (q4 u).1 (by rw [hi.1]; exact fun h => u h.symm), fun z => ?_⟩
    · simp only [pr]
      rw [pr_le a (Nat.le_max_left k k2), Option.bind_some, hf]
      show Option.bind _ _ = _
      rw [pr_le a2 (Nat.le_max_right k k2), Option.bind_some]
    · have w1 := q5 hi.1; have w2 := v5 z
      simp only [nodes_of2]
      omega
  | none =>
    refine ⟨tst l r, ⟨k + 1, by simp only [pr]; rw [a, Option.bind_some, hf]⟩, ?_⟩
    unfold tst
    cases c1 : isP l r.i r.e wIs with
    | false => rw [if_neg (by decide)]; exact ⟨q1, q2, q3, q4, q5⟩
    | true =>
      rw [if_pos rfl]
      have hi := isP_le l r.i r.e wIs c1
      obtain ⟨g1, g2, g3, g4, g5, g6⟩ := q1
      cases c2 : isP l (r.i + 1) r.e wNot with
      | true =>
        rw [if_pos rfl]
        have hj := isP_le l (r.i + 1) r.e wNot c2
        obtain ⟨m1, m2, m3, m4⟩ := mu_rs (l := l) (i := r.i + 1 + 1) (d := r.d) (e := r.e) wNull ⟨by omega, by omega, g3, g4, g5, g6⟩
        refine ⟨m1, q2, by simp only; omega, fun u => absurd (q4 u).1 (by rw [hi.1]; exact fun h => u h.symm), fun z => ?_⟩
        have w1 := q5 hi.1
        simp only [nodes_of1]
        omega
      | false =>
        rw [if_neg (by decide)]
        obtain ⟨m1, m2, m3, m4⟩ := mu_rs (l := l) (i := r.i + 1) (d := r.d) (e := r.e) wNull ⟨by omega, by omega, g3, g4, g5, g6⟩
        refine ⟨m1, q2, by simp only; omega, fun u => absurd (q4 u).1 (by rw [hi.1]; exact fun h => u h.symm), fun z => ?_⟩
        have w1 := q5 hi.1
        simp only [nodes_of1]
        omega
theorem link_f {l : List S91} {M : Nat} {p q : Gr} {ss : List ByteArray} (hpr : ∀ k i d e, pr l (k + 1) (.f p) i d e = (pr l k (.f q) i d e).bind fun r => pr l k (.ch q ss r.x) r.i r.d r.e) (h : OKf l M q) (hs : ∀ M', M' < M → OKf l M' q) : OKf l M p := by
  intro i d e hm hg
  obtain ⟨k, r0, r, a1, a2, q⟩ := link_an h (chain_an l q ss M hs) hm hg
  exact ⟨r, ⟨k + 1, by rw [hpr, a1, Option.bind_some]; exact a2⟩, q⟩
theorem all_an (l : List S91) (M : Nat) : ∀ M', M' ≤ M → ∀ p, OKf l M' p := by
  induction M using Nat.strongRecOn with
  | ind M ih =>
    intro M' hM
    rcases Nat.lt_or_ge M' M with h | h
    · exact ih M' h M' (Nat.le_refl M')
    · obtain rfl : M' = M := by omega
      have lo : ∀ p, ∀ N, N < M' → OKf l N p := fun p N hN => ih N hN N (Nat.le_refl N) p
      have h1 : OKf l M' .atom := atom_an l M' (lo .or)
      have h2 : OKf l M' .prod := link_f (q := .atom) (ss := [wStar]) (fun k i d e => by simp only [pr]) h1 (lo .atom)
      have h3 : OKf l M' .sum := link_f (q := .prod) (ss := [wPlus, wMinus]) (fun k i d e => by simp only [pr]) h2 (lo .prod)
      have h4 : OKf l M' .test := test_an l M' h3
      have h5 : OKf l M' .not := not_an l M' (lo .not) h4
      have h6 : OKf l M' .and := link_f (q := .not) (ss := [wAnd]) (fun k i d e => by simp only [pr]) h5 (lo .not)
      have h7 : OKf l M' .or := link_f (q := .and) (ss := [wOr]) (fun k i d e => by simp only [pr]) h6 (lo .and)
      intro p
      cases p <;> assumption
theorem pr_an (l : List S91) (e : Int) (he : e = 0 ∨ e = 1 ∨ e = 4) : ∃ r k, pr l k (.f .or) 0 0 e = some r ∧ Rs l 0 0 e r 0 := by
  obtain ⟨r, ⟨k, a⟩, q⟩ := all_an l (ms l 0 e) _ (Nat.le_refl _) .or 0 0 e (Nat.le_refl _) ⟨Int.le_refl 0, Int.natCast_nonneg _, Int.le_refl 0, by decide, fun _ => by decide, he⟩
  exact ⟨r, k, a, q⟩
end Go.Proofs.Ytcfgjaggccnoaaa.PParseSmall
