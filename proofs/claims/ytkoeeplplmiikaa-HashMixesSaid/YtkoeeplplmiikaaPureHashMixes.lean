/- Mix, Byte, Start and Bucket of the program answer as the reference says, for every number, byte, seed and count, with no further condition. -/
import Derived.Test.YtkoeeplplmiikaaPHashMixesx1
namespace Go.Proofs.Ytkoeeplplmiikaa.Pure
open Go.RowKit Go.Proofs.Ytkoeeplplmiikaa.PHashMixes Go.Proofs.YtkoeeplplmiikaaW.PrintWords Go.Proofs.YtkoeeplplmiikaaW.PrintLast
set_option linter.unusedVariables false
set_option linter.unusedSimpArgs false

theorem bs {α β : Type} (a : α) (f : α → Option β) : (some a).bind f = f a := (Option.bind_some a f).trans (Eq.refl _)

theorem u64_wrap (n : Int) : IntKind.u64.wrap n = n % 18446744073709551616 := by
  simp [IntKind.wrap, IntKind.bits, IntKind.signed]

theorem u64_range (n : Int) : 0 ≤ IntKind.u64.wrap n ∧ IntKind.u64.wrap n < 18446744073709551616 := by
  rw [u64_wrap]; omega

theorem u64_in {n : Int} (h0 : 0 ≤ n) (h1 : n < 18446744073709551616) : IntKind.u64.wrap n = n := by
  rw [u64_wrap]; omega

theorem u64_wf {n : Int} (h : (Lit.int .u64 n).wf = true) : 0 ≤ n ∧ n < 18446744073709551616 := by
  have h2 : decide (IntKind.u64.min ≤ n) = true ∧ decide (n ≤ IntKind.u64.max) = true := by
    simpa [Lit.wf] using h
  have e0 : IntKind.u64.min = 0 := by decide
  have e1 : IntKind.u64.max = 18446744073709551615 := by decide
  have := of_decide_eq_true h2.1
  have := of_decide_eq_true h2.2
  omega

theorem i64_wf {n : Int} (h : (Lit.int .i64 n).wf = true) : -9223372036854775808 ≤ n ∧ n < 9223372036854775808 := by
  have h2 : decide (IntKind.i64.min ≤ n) = true ∧ decide (n ≤ IntKind.i64.max) = true := by
    simpa [Lit.wf] using h
  have e0 : IntKind.i64.min = -9223372036854775808 := by decide
  have e1 : IntKind.i64.max = 9223372036854775807 := by decide
  have := of_decide_eq_true h2.1
  have := of_decide_eq_true h2.2
  omega

theorem bits_u64 (op : BinOp) (x y : Int) : 0 ≤ Go.bits op .u64 x y ∧ Go.bits op .u64 x y < 18446744073709551616 := by
  unfold Go.bits
  exact u64_range _

theorem div_same (x : Int) (n : Int) (h0 : 0 ≤ x) (h1 : x < 18446744073709551616) (hn : 1 ≤ n) : IntKind.u64.wrap (Int.tdiv x n) = x / n := by
  rw [Int.tdiv_eq_ediv_of_nonneg h0]
  have a : 0 ≤ x / n := Int.ediv_nonneg h0 (by omega)
  have b : x / n ≤ x := Int.ediv_le_self _ h0
  exact u64_in a (by omega)

theorem mix_same (a : Int) (h0 : 0 ≤ a) (h1 : a < 18446744073709551616) : trommelref17_Mix.f a = hash_Mix.f a := by
  unfold trommelref17_Mix.f hash_Mix.f
  rw [div_same a _ h0 h1 (by decide)]
  rw [div_same _ 536870912 (u64_range _).1 (u64_range _).2 (by decide)]
  rw [div_same _ 4294967296 (u64_range _).1 (u64_range _).2 (by decide)]

theorem bucket_same (h n : Int) (h0 : 0 ≤ h) (h1 : h < 18446744073709551616) (n1 : n < 9223372036854775808) :
    ∃ k, hash_Bucket.f h n = some k ∧ trommelref17_Bucket.f h n = some k ∧ (n < 1 → k = 0) ∧ (1 ≤ n → 0 ≤ k ∧ k < n) := by
  unfold hash_Bucket.f trommelref17_Bucket.f
  by_cases c : n < 1
  · rw [if_pos c, if_pos c]
    exact ⟨0, rfl, rfl, fun _ => rfl, fun h => by omega⟩
  · rw [if_neg c, if_neg c, u64_in (by omega) (by omega), if_neg (by omega), if_neg (by omega), div_same h _ h0 h1 (by decide)]
    have a0 : 0 ≤ h / 4294967296 := by omega
    have a1 : h / 4294967296 < 4294967296 := by omega
    have e : wrap64 (h / 4294967296) = h / 4294967296 := by unfold wrap64; omega
    rw [e, Int.tmod_eq_emod_of_nonneg a0]
    have b0 := Int.emod_nonneg (h / 4294967296) (b := n) (by omega)
    have b1 := Int.emod_lt_of_pos (h / 4294967296) (b := n) (by omega)
    have e2 : wrap64 (h / 4294967296 % n) = h / 4294967296 % n := by unfold wrap64; omega
    rw [e2]
    exact ⟨_, rfl, rfl, fun h => absurd h c, fun _ => ⟨b0, b1⟩⟩

theorem mix_some (a : Int) : ∃ r, hash_Mix.f a = some r ∧ 0 ≤ r ∧ r < 18446744073709551616 :=
  ⟨_, rfl, (bits_u64 _ _ _).1, (bits_u64 _ _ _).2⟩

theorem live_true : trommellaw17_live.f = some true := by
  have b : Go.bits .xor .u64 0 0 = 0 := by unfold Go.bits; simp [u64_wrap]
  have e : hash_Mix.f 0 = some 0 := by
    unfold hash_Mix.f
    simp [b, u64_wrap]
  unfold trommellaw17_live.f
  rw [e, mix_same 1 (by decide) (by decide)]
  obtain ⟨r, hr, _⟩ := mix_some 1
  rw [hr]
  simp only [bs, if_true, beq_self_eq_true]

theorem start_is (seed : Int) : hash_Start.f seed = hash_Mix.f (IntKind.u64.wrap ((IntKind.u64.wrap (seed)) + 2685821657736338717)) := by
  unfold hash_Start.f
  generalize hash_Mix.f (IntKind.u64.wrap ((IntKind.u64.wrap (seed)) + 2685821657736338717)) = o
  cases o <;> rfl

theorem byte_is (h b : Int) : hash_Byte.f h b = some (IntKind.u64.wrap ((Go.bits .xor .u64 h (IntKind.u64.wrap (b))) * 1099511628211)) := by
  unfold hash_Byte.f
  rfl

theorem j0_true (h b seed n k : Int) (h0 : 0 ≤ h) (h1 : h < 18446744073709551616) (e2 : trommelref17_Bucket.f h n = some k) :
    trommellaw17_HashMixes.j0 1 h b seed n k true = some true := by
  obtain ⟨m, em, _⟩ := mix_some h
  have em2 := mix_same h h0 h1
  rw [em] at em2
  have es := start_is seed
  have eb := byte_is h b
  obtain ⟨x0, x1⟩ := u64_range ((IntKind.u64.wrap (seed)) + 2685821657736338717)
  simp only [trommellaw17_HashMixes.j0]
  generalize IntKind.u64.wrap ((IntKind.u64.wrap (seed)) + 2685821657736338717) = x at *
  generalize IntKind.u64.wrap ((Go.bits .xor .u64 h (IntKind.u64.wrap (b))) * 1099511628211) = y at *
  obtain ⟨m2, em3, _⟩ := mix_some x
  have em4 := mix_same x x0 x1
  rw [em3] at em4 es
  rw [em, em2, eb, es, em4, e2, live_true]
  simp only [bs, if_true]

theorem HashMixes : trommellaw17_HashMixes.Pure := by
  intro h b seed n wh wb ws wn
  obtain ⟨h0, h1⟩ := u64_wf wh
  obtain ⟨n0, n1⟩ := i64_wf wn
  obtain ⟨k, e1, e2, c1, c2⟩ := bucket_same h n h0 h1 n1
  have j := j0_true h b seed n k h0 h1 e2
  refine ⟨1, ?_⟩
  unfold trommellaw17_HashMixes.f
  rw [e1, bs]
  by_cases c : n < 1
  · rw [if_pos c, if_pos (c1 c)]
    exact j
  · obtain ⟨d0, d1⟩ := c2 (by omega)
    rw [if_neg c, if_pos (by omega), if_pos (by omega), decide_eq_true d1]
    exact j

end Go.Proofs.Ytkoeeplplmiikaa.Pure
