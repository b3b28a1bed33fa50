/- Values that are the same have the same numbers, whatever the seed, of all values and seeds. -/
import Derived.Test.YtkoeeplplmiikaaWfHashSames
import Derived.Test.YtkoeeplplmiikaaPHashSamesx2
namespace Go.Proofs.Ytkoeeplplmiikaa.Pure
open Go.RowKit Go.Proofs.Ytkoeeplplmiikaa.PHashSames Go.Proofs.YtkoeeplplmiikaaW.PrintWords Go.Proofs.YtkoeeplplmiikaaW.PrintLast
set_option linter.unusedVariables false
set_option linter.unusedSimpArgs false

theorem bs {α β : Type} (a : α) (f : α → Option β) : (some a).bind f = f a := (Option.bind_some a f).trans (Eq.refl _)

theorem str_eq {s t : ByteArray} (h : s.toList = t.toList) : s = t := by
  have h2 : s.data.toList = t.data.toList := by rw [← ByteArray.toList_eq s, ← ByteArray.toList_eq t]; exact h
  apply ByteArray.ext
  exact Array.ext' h2

theorem u64_wrap (n : Int) : IntKind.u64.wrap n = n % 18446744073709551616 := by
  simp [IntKind.wrap, IntKind.bits, IntKind.signed]

theorem u64_range (n : Int) : 0 ≤ IntKind.u64.wrap n ∧ IntKind.u64.wrap n < 18446744073709551616 := by
  rw [u64_wrap]; omega

theorem u64_in {n : Int} (h0 : 0 ≤ n) (h1 : n < 18446744073709551616) : IntKind.u64.wrap n = n := by
  rw [u64_wrap]; omega

theorem u64_wf {n : Int} (h : (Lit.int .u64 n).wf = true) : 0 ≤ n ∧ n < 18446744073709551616 := by
  have h2 : decide (IntKind.u64.min ≤ n) = true ∧ decide (n ≤ IntKind.u64.max) = true := by
    simpa [Lit.wf] using h
  have e0 : IntKind.u64.min = 0 := by decide
  have e1 : IntKind.u64.max = 18446744073709551615 := by decide
  have := of_decide_eq_true h2.1
  have := of_decide_eq_true h2.2
  omega

theorem i64_wf {n : Int} (h : (Lit.int .i64 n).wf = true) : -9223372036854775808 ≤ n ∧ n < 9223372036854775808 := by
  have h2 : decide (IntKind.i64.min ≤ n) = true ∧ decide (n ≤ IntKind.i64.max) = true := by
    simpa [Lit.wf] using h
  have e0 : IntKind.i64.min = -9223372036854775808 := by decide
  have e1 : IntKind.i64.max = 9223372036854775807 := by decide
  have := of_decide_eq_true h2.1
  have := of_decide_eq_true h2.2
  omega

theorem u8_wf {n : Int} (h : (Lit.int .u8 n).wf = true) : 0 ≤ n ∧ n < 256 := by
  have h2 : decide (IntKind.u8.min ≤ n) = true ∧ decide (n ≤ IntKind.u8.max) = true := by
    simpa [Lit.wf] using h
  have e0 : IntKind.u8.min = 0 := by decide
  have e1 : IntKind.u8.max = 255 := by decide
  have := of_decide_eq_true h2.1
  have := of_decide_eq_true h2.2
  omega

theorem w64 {n : Int} (h0 : -9223372036854775808 ≤ n) (h1 : n < 9223372036854775808) : wrap64 n = n := by
  unfold wrap64; omega

theorem bits_u64 (op : BinOp) (x y : Int) : 0 ≤ Go.bits op .u64 x y ∧ Go.bits op .u64 x y < 18446744073709551616 := by
  unfold Go.bits
  exact u64_range _

theorem div_same (x : Int) (n : Int) (h0 : 0 ≤ x) (h1 : x < 18446744073709551616) (hn : 1 ≤ n) : IntKind.u64.wrap (Int.tdiv x n) = x / n := by
  rw [Int.tdiv_eq_ediv_of_nonneg h0]
  have a : 0 ≤ x / n := Int.ediv_nonneg h0 (by omega)
  have b : x / n ≤ x := Int.ediv_le_self _ h0
  exact u64_in a (by omega)

theorem mix_same (a : Int) (h0 : 0 ≤ a) (h1 : a < 18446744073709551616) : trommelref17_Mix.f a = hash_Mix.f a := by
  unfold trommelref17_Mix.f hash_Mix.f
  rw [div_same a _ h0 h1 (by decide)]
  rw [div_same _ 536870912 (u64_range _).1 (u64_range _).2 (by decide)]
  rw [div_same _ 4294967296 (u64_range _).1 (u64_range _).2 (by decide)]

theorem mix_some (a : Int) : ∃ r, hash_Mix.f a = some r ∧ 0 ≤ r ∧ r < 18446744073709551616 :=
  ⟨_, rfl, (bits_u64 _ _ _).1, (bits_u64 _ _ _).2⟩

theorem live17 : trommellaw17_live.f = some true := by
  have b : Go.bits .xor .u64 0 0 = 0 := by unfold Go.bits; simp [u64_wrap]
  have e : hash_Mix.f 0 = some 0 := by
    unfold hash_Mix.f
    simp [b, u64_wrap]
  unfold trommellaw17_live.f
  rw [e, mix_same 1 (by decide) (by decide)]
  obtain ⟨r, hr, _⟩ := mix_some 1
  rw [hr]
  simp only [bs, if_true, beq_self_eq_true]

theorem start_is (seed : Int) : hash_Start.f seed = hash_Mix.f (IntKind.u64.wrap ((IntKind.u64.wrap (seed)) + 2685821657736338717)) := by
  unfold hash_Start.f
  generalize hash_Mix.f (IntKind.u64.wrap ((IntKind.u64.wrap (seed)) + 2685821657736338717)) = o
  cases o <;> rfl

theorem byte_some (h b : Int) : ∃ r, hash_Byte.f h b = some r ∧ 0 ≤ r ∧ r < 18446744073709551616 :=
  ⟨_, rfl, (u64_range _).1, (u64_range _).2⟩

theorem text_l0 (s : ByteArray) (hs : s.size ≤ 140737488355328) (d : Nat) : ∀ (k : Nat) (h i : Int), 0 ≤ i → i ≤ s.size → (s.size : Int) - i = d → d < k → ∃ r, hash_text.l0 k s h (s.size : Int) i = some r ∧ 0 ≤ r ∧ r < 18446744073709551616 := by
  induction d with
  | zero =>
    intro k h i h0 h1 hd hk
    obtain ⟨k, rfl⟩ : ∃ m, k = m + 1 := ⟨k - 1, by omega⟩
    obtain ⟨r, hr, h2⟩ := mix_some h
    refine ⟨r, ?_, h2⟩
    simp only [hash_text.l0]
    rw [if_neg (by omega), hr, bs]
  | succ d ih =>
    intro k h i h0 h1 hd hk
    obtain ⟨k, rfl⟩ : ∃ m, k = m + 1 := ⟨k - 1, by omega⟩
    obtain ⟨b, hb, _⟩ := byte_some h (bt s i)
    obtain ⟨r, hr, h2⟩ := ih k b (i + 1) (by omega) (by omega) (by omega) (by omega)
    refine ⟨r, ?_, h2⟩
    simp only [hash_text.l0]
    rw [if_pos (by omega), if_pos h0, if_pos (by omega), hb, bs, w64 (by omega) (by omega)]
    exact hr

theorem text_some (seed : Int) (s : ByteArray) (hs : s.size ≤ 140737488355328) (k : Nat) (hk : s.size < k) : ∃ r, hash_text.f k seed s = some r ∧ 0 ≤ r ∧ r < 18446744073709551616 := by
  obtain ⟨h, hh, _⟩ := mix_some (IntKind.u64.wrap ((IntKind.u64.wrap (seed)) + 2685821657736338717))
  obtain ⟨r, hr, h2⟩ := text_l0 s hs s.size k h 0 (by omega) (by omega) (by omega) hk
  refine ⟨r, ?_, h2⟩
  unfold hash_text.f
  rw [start_is, hh, bs]
  exact hr

theorem key_l0 (x : Int) (d : Nat) : ∀ (k : Nat) (l : List Int) (i : Int), 0 ≤ i → i ≤ 8 → (8 : Int) - i = d → l.length = i + 1 → d < k → ∃ r, val_Key.l0 k x l i = some r ∧ r.size ≤ 9 := by
  induction d with
  | zero =>
    intro k l i h0 h1 hd hl hk
    obtain ⟨k, rfl⟩ : ∃ m, k = m + 1 := ⟨k - 1, by omega⟩
    refine ⟨strOfNums l, ?_, ?_⟩
    · simp only [val_Key.l0]
      rw [if_neg (by omega)]
    · have e : (strOfNums l).size = l.length := by simp [strOfNums, ByteArray.size]
      omega
  | succ d ih =>
    intro k l i h0 h1 hd hl hk
    obtain ⟨k, rfl⟩ : ∃ m, k = m + 1 := ⟨k - 1, by omega⟩
    obtain ⟨r, hr, h2⟩ := ih k (l ++ [shr .u64 x (wrap64 (56 - (wrap64 (8 * i)))) % 256]) (i + 1) (by omega) (by omega) (by omega) (by simp; omega) (by omega)
    refine ⟨r, ?_, h2⟩
    simp only [val_Key.l0]
    have e : wrap64 (56 - wrap64 (8 * i)) = 56 - 8 * i := by rw [w64 (n := 8 * i) (by omega) (by omega), w64 (by omega) (by omega)]
    rw [if_pos (by omega), if_pos (by omega), if_pos (by omega), w64 (n := i + 1) (by omega) (by omega)]
    exact hr

theorem key_some (kd i : Int) (s : ByteArray) (hs : s.size ≤ 140737488351232) (k : Nat) (hk : 8 < k) : ∃ r, val_Key.f k kd i s = some r ∧ r.size ≤ s.size + 9 := by
  unfold val_Key.f
  by_cases c0 : kd = 0
  · rw [if_pos c0]
    exact ⟨_, rfl, by show 1 ≤ _; omega⟩
  · rw [if_neg c0]
    by_cases c1 : kd = 1
    · rw [if_pos c1]
      obtain ⟨r, hr, h⟩ := key_l0 (Go.bits .xor .u64 (IntKind.u64.wrap i) 9223372036854775808) 8 k [105] 0 (by omega) (by omega) (by omega) rfl hk
      exact ⟨r, hr, by omega⟩
    · rw [if_neg c1]
      by_cases c2 : kd = 2
      · rw [if_pos c2, if_pos (by omega)]
        refine ⟨_, rfl, ?_⟩
        rw [ByteArray.size_append]
        show 1 + s.size ≤ _
        omega
      · rw [if_neg c2]
        exact ⟨_, rfl, by show 0 ≤ _; omega⟩

theorem of_some (seed kd i : Int) (s : ByteArray) (hs : s.size ≤ 140737488351232) (k : Nat) (hk : s.size + 9 < k) : ∃ r, hash_Of.f k seed kd i s = some r := by
  obtain ⟨t, ht, h1⟩ := key_some kd i s hs k (by omega)
  obtain ⟨r, hr, _⟩ := text_some seed t (by omega) k (by omega)
  refine ⟨r, ?_⟩
  unfold hash_Of.f
  rw [ht, bs, hr, bs]

theorem same_is (a b c d : Int) (s t : ByteArray) : trommelref01_Same.f a b s c d t = some (decide (a = c ∧ b = d ∧ s.toList = t.toList)) := by
  unfold trommelref01_Same.f
  by_cases h1 : a = c
  · rw [if_pos h1]
    by_cases h2 : b = d
    · rw [if_pos h2]
      simp [h1, h2, Bool.beq_eq_decide_eq]
    · rw [if_neg h2]
      simp [h2]
  · rw [if_neg h1]
    simp [h1]

theorem HashSames : trommellaw17_HashSames.Pure := by
  intro seed x y _ ⟨_, _, sx⟩ ⟨_, _, sy⟩
  refine ⟨x.f2.size + y.f2.size + 10, ?_⟩
  unfold trommellaw17_HashSames.f
  rw [live17, bs, same_is, bs]
  by_cases c : wrap64 ((x.f2.size : Int) + (y.f2.size : Int)) > 600
  · rw [if_pos c]
  · rw [if_neg c]
    by_cases e : x.f0 = y.f0 ∧ x.f1 = y.f1 ∧ x.f2.toList = y.f2.toList
    · rw [if_pos (by simpa using e)]
      obtain ⟨e0, e1, e2⟩ := e
      have e3 := str_eq e2
      obtain ⟨r, hr⟩ := of_some seed x.f0 x.f1 x.f2 sx (x.f2.size + y.f2.size + 10) (by omega)
      rw [← e0, ← e1, ← e3] at *
      rw [hr, bs, bs, if_pos rfl]
    · rw [if_neg (by simpa using e)]

end Go.Proofs.Ytkoeeplplmiikaa.Pure
