/- Of any row and any columns, the filter's key is the values that the document picks; nothing passes a filter that was never made, whatever is put into it, and it counts no keys. Conditions: none beyond the law's own guards; the library's tables are read as the program's text lays them. -/
import Derived.Test.YtcfgjaggccnoaaaDoorWfSiftZeros
import Derived.Test.YtcfgjaggccnoaaaDoorPSiftZerosx10
namespace Go.Proofs.YtcfgjaggccnoaaaDoor.Pure
open Go.RowKit Go.Proofs.YtcfgjaggccnoaaaDoor.PSiftZeros Go.Proofs.YtcfgjaggccnoaaaDoorW.PrintWords Go.Proofs.YtcfgjaggccnoaaaDoorW.PrintLast
set_option linter.unusedVariables false
set_option linter.unusedSimpArgs false
set_option maxRecDepth 100000

theorem u64_wrap (n : Int) : IntKind.u64.wrap n = n % 18446744073709551616 := by
  simp [IntKind.wrap, IntKind.bits, IntKind.signed]

theorem u64_range (n : Int) : 0 ≤ IntKind.u64.wrap n ∧ IntKind.u64.wrap n < 18446744073709551616 := by
  rw [u64_wrap]; omega

theorem u64_in {n : Int} (h0 : 0 ≤ n) (h1 : n < 18446744073709551616) : IntKind.u64.wrap n = n := by
  rw [u64_wrap]; omega

theorem u64_wf {n : Int} (h : (Lit.int .u64 n).wf = true) : 0 ≤ n ∧ n < 18446744073709551616 := by
  have h2 : decide (IntKind.u64.min ≤ n) = true ∧ decide (n ≤ IntKind.u64.max) = true := by
    simpa [Lit.wf] using h
  have e0 : IntKind.u64.min = 0 := by decide
  have e1 : IntKind.u64.max = 18446744073709551615 := by decide
  have := of_decide_eq_true h2.1
  have := of_decide_eq_true h2.2
  omega

theorem i64_wf {n : Int} (h : (Lit.int .i64 n).wf = true) : -9223372036854775808 ≤ n ∧ n < 9223372036854775808 := by
  have h2 : decide (IntKind.i64.min ≤ n) = true ∧ decide (n ≤ IntKind.i64.max) = true := by
    simpa [Lit.wf] using h
  have e0 : IntKind.i64.min = -9223372036854775808 := by decide
  have e1 : IntKind.i64.max = 9223372036854775807 := by decide
  have := of_decide_eq_true h2.1
  have := of_decide_eq_true h2.2
  omega

theorem u8_wf {n : Int} (h : (Lit.int .u8 n).wf = true) : 0 ≤ n ∧ n < 256 := by
  have h2 : decide (IntKind.u8.min ≤ n) = true ∧ decide (n ≤ IntKind.u8.max) = true := by
    simpa [Lit.wf] using h
  have e0 : IntKind.u8.min = 0 := by decide
  have e1 : IntKind.u8.max = 255 := by decide
  have := of_decide_eq_true h2.1
  have := of_decide_eq_true h2.2
  omega

theorem w64 {n : Int} (h0 : -9223372036854775808 ≤ n) (h1 : n < 9223372036854775808) : wrap64 n = n := by
  unfold wrap64; omega

theorem bits_u64 (op : BinOp) (x y : Int) : 0 ≤ Go.bits op .u64 x y ∧ Go.bits op .u64 x y < 18446744073709551616 := by
  unfold Go.bits
  exact u64_range _

/-! how much there is -/
def rowN (l : List S23) : Nat := (l.map fun y => 1 + y.f2.size).sum
def totN (L : List (List S23)) : Nat := (L.map rowN).sum
theorem rowN_cons (y : S23) (l : List S23) : rowN (y :: l) = 1 + y.f2.size + rowN l := by simp [rowN]
theorem rowN_le (l : List S23) : ∀ y ∈ l, y.f2.size ≤ rowN l := by
  intro y hy
  induction l with
  | nil => cases hy
  | cons z l ih =>
    rw [rowN_cons]
    rcases List.mem_cons.1 hy with rfl | h
    · omega
    · have := ih h; omega
theorem totN_cons (r : List S23) (L : List (List S23)) : totN (r :: L) = rowN r + totN L := by simp [totN]
theorem totN_le (L : List (List S23)) : ∀ r ∈ L, rowN r ≤ totN L := by
  intro y hy
  induction L with
  | nil => cases hy
  | cons z l ih =>
    rw [totN_cons]
    rcases List.mem_cons.1 hy with rfl | h
    · omega
    · have := ih h; omega
theorem rowN_bound (l : List S23) (hs : ∀ y ∈ l, y.f2.size ≤ 140737488351232) : rowN l ≤ l.length * 140737488351233 := by
  induction l with
  | nil => simp [rowN]
  | cons z l ih =>
    rw [rowN_cons, List.length_cons, Nat.add_mul]
    have := ih (fun y hy => hs y (List.mem_cons_of_mem _ hy))
    have := hs z (List.mem_cons_self)
    omega
theorem much_inner (L : List (List S23)) (r : List S23) (i : Nat) (hL : L[i]? = some r) (hr : r.length ≤ 40) (hs : ∀ y ∈ r, y.f2.size ≤ 140737488351232) (hL2 : L.length ≤ 9000000000000000) (d : Nat) : ∀ (k j : Nat) (n : Int), r.length = j + d → 0 ≤ n → n ≤ 2000 + j * 140737488351233 →
    trommelref04_Much.l1 (k + d + 1) L n (i : Int) (j : Int) = if n + rowN (r.drop j) > 2000 then some true else trommelref04_Much.l0 k L (n + rowN (r.drop j)) ((i + 1 : Nat) : Int) := by
  have hi : i < L.length := (List.getElem?_eq_some_iff.1 hL).1
  have hrd : rd_L3 L (i : Int) = r := by
    unfold rd_L3
    rw [Int.toNat_natCast, List.getD_eq_getElem?_getD, hL]
    rfl
  induction d with
  | zero =>
    intro k j n hd h0 h1
    simp only [trommelref04_Much.l1]
    rw [if_pos (show (0 : Int) ≤ (i : Int) by omega), if_pos (show (i : Int) < (L.length : Int) by omega), hrd, if_neg (show ¬ (j : Int) < (r.length : Int) by omega), w64 (n := (i : Int) + 1) (by omega) (by omega)]
    rw [List.drop_eq_nil_of_le (by omega)]
    simp [rowN]
  | succ d ih =>
    intro k j n hd h0 h1
    have hj : j < r.length := by omega
    have hy := hs r[j] (List.getElem_mem hj)
    have e : rd_T23 r (j : Int) = r[j] := by
      unfold rd_T23
      rw [Int.toNat_natCast, List.getD_eq_getElem?_getD, List.getElem?_eq_getElem hj]
      rfl
    obtain ⟨K, hK⟩ : ∃ K, K = k + d + 1 := ⟨_, rfl⟩
    rw [show k + (d + 1) + 1 = K + 1 by omega]
    simp only [trommelref04_Much.l1]
    rw [if_pos (show (0 : Int) ≤ (i : Int) by omega), if_pos (show (i : Int) < (L.length : Int) by omega), hrd, if_pos (show (j : Int) < (r.length : Int) by omega), if_pos (show (0 : Int) ≤ (j : Int) by omega), e]
    rw [w64 (n := n + 1) (by omega) (by omega), w64 (n := n + 1 + (r[j].f2.size : Int)) (by omega) (by omega), w64 (n := (j : Int) + 1) (by omega) (by omega)]
    have h := ih k (j + 1) (n + 1 + (r[j].f2.size : Int)) (by omega) (by omega) (by omega)
    rw [hK, show ((j : Int) + 1) = ((j + 1 : Nat) : Int) by omega, h]
    rw [List.drop_eq_getElem_cons hj, rowN_cons]
    have e2 : n + 1 + (r[j].f2.size : Int) + (rowN (r.drop (j + 1)) : Int) = n + ((1 + r[j].f2.size + rowN (r.drop (j + 1)) : Nat) : Int) := by omega
    rw [e2]
theorem much_outer (L : List (List S23)) (hs : ∀ r ∈ L, ∀ y ∈ r, y.f2.size ≤ 140737488351232) (hL2 : L.length ≤ 9000000000000000) (d : Nat) : ∀ (k i : Nat) (n : Int), 60 ≤ i + d → 0 ≤ n → n ≤ 2000 → d * 44 + 2 ≤ k →
    ∃ b, trommelref04_Much.l0 k L n (i : Int) = some b ∧ (b = false → L.length ≤ 50 ∧ (∀ r ∈ L.drop i, r.length ≤ 40) ∧ n + totN (L.drop i) ≤ 2000) := by
  have stop : ∀ (k i : Nat) (n : Int), n ≤ 2000 → (60 ≤ i ∨ L.length ≤ i) → 2 ≤ k → ∃ b, trommelref04_Much.l0 k L n (i : Int) = some b ∧ (b = false → L.length ≤ 50 ∧ (∀ r ∈ L.drop i, r.length ≤ 40) ∧ n + totN (L.drop i) ≤ 2000) := by
    intro k i n hn hi hk
    obtain ⟨k, rfl⟩ : ∃ m, k = m + 2 := ⟨k - 2, by omega⟩
    refine ⟨decide ((L.length : Int) > 50), ?_, ?_⟩
    · simp only [trommelref04_Much.l0]
      by_cases c : (i : Int) < (L.length : Int)
      · rw [if_pos c]
        have c2 : decide ((i : Int) < 60) = false := by simp; omega
        rw [c2]
        simp only [trommelref04_Much.j1]
        rw [if_neg (by simp)]
      · rw [if_neg c]
        simp only [trommelref04_Much.j1]
        rw [if_neg (by simp)]
    · intro hb
      have h50 : L.length ≤ 50 := by have := of_decide_eq_false hb; omega
      rw [List.drop_eq_nil_of_le (show L.length ≤ i by omega)]
      refine ⟨h50, ?_, ?_⟩
      · intro r hr
        cases hr
      · simpa [totN] using hn
  induction d with
  | zero => exact fun k i n hi h0 h1 hk => stop k i n h1 (by omega) (by omega)
  | succ d ih =>
    intro k i n hi h0 h1 hk
    by_cases c : 60 ≤ i ∨ L.length ≤ i
    · exact stop k i n h1 c (by omega)
    · have hi2 : i < L.length := by omega
      have hLi : L[i]? = some L[i] := List.getElem?_eq_getElem hi2
      have hrd : rd_L3 L (i : Int) = L[i] := by
        unfold rd_L3
        rw [Int.toNat_natCast, List.getD_eq_getElem?_getD, hLi]
        rfl
      obtain ⟨k, rfl⟩ : ∃ m, k = m + 2 := ⟨k - 2, by omega⟩
      have e1 : trommelref04_Much.l0 (k + 2) L n (i : Int) = if (L[i].length : Int) > 40 then some true else trommelref04_Much.l1 k L n (i : Int) 0 := by
        simp only [trommelref04_Much.l0]
        rw [if_pos (show (i : Int) < (L.length : Int) by omega)]
        have c2 : decide ((i : Int) < 60) = true := by simp; omega
        rw [c2]
        simp only [trommelref04_Much.j1]
        rw [if_pos trivial, if_pos (show (0 : Int) ≤ (i : Int) by omega), if_pos (show (i : Int) < (L.length : Int) by omega), hrd]
      rw [e1]
      by_cases c3 : (L[i].length : Int) > 40
      · rw [if_pos c3]
        exact ⟨true, rfl, fun h => by cases h⟩
      · rw [if_neg c3]
        obtain ⟨k2, hk2⟩ : ∃ m, k = m + L[i].length + 1 := ⟨k - L[i].length - 1, by omega⟩
        have h := much_inner L L[i] i hLi (by omega) (hs _ (List.getElem_mem hi2)) hL2 L[i].length k2 0 n (by omega) h0 (by omega)
        rw [hk2, show (0 : Int) = ((0 : Nat) : Int) from rfl, h]
        rw [List.drop_zero]
        by_cases c4 : n + (rowN L[i] : Int) > 2000
        · rw [if_pos c4]
          exact ⟨true, rfl, fun h => by cases h⟩
        · rw [if_neg c4]
          obtain ⟨b, hb, hp⟩ := ih k2 (i + 1) (n + (rowN L[i] : Int)) (by omega) (by omega) (by omega) (by omega)
          refine ⟨b, hb, fun hf => ?_⟩
          obtain ⟨p1, p2, p3⟩ := hp hf
          rw [List.drop_eq_getElem_cons hi2]
          refine ⟨p1, ?_, ?_⟩
          · intro r hr
            rcases List.mem_cons.1 hr with rfl | hr
            · omega
            · exact p2 r hr
          · rw [totN_cons]
            omega
theorem much_is (L : List (List S23)) (hs : ∀ r ∈ L, ∀ y ∈ r, y.f2.size ≤ 140737488351232) (hL2 : L.length ≤ 9000000000000000) (k : Nat) (hk : 3000 ≤ k) :
    ∃ b, trommelref04_Much.f k L = some b ∧ (b = false → L.length ≤ 50 ∧ (∀ r ∈ L, r.length ≤ 40) ∧ totN L ≤ 2000) := by
  obtain ⟨b, hb, hp⟩ := much_outer L hs hL2 60 k 0 0 (by omega) (by omega) (by omega) (by omega)
  refine ⟨b, hb, fun hf => ?_⟩
  obtain ⟨p1, p2, p3⟩ := hp hf
  exact ⟨p1, p2, by rw [List.drop_zero] at p3; omega⟩

theorem bs {α β : Type} (a : α) (f : α → Option β) : (some a).bind f = f a := (Option.bind_some a f).trans (Eq.refl _)
theorem live20 : trommellaw20_live.f 3100 = some true := by decide +kernel
def pk (x0 : List S23) (p : Int) : S23 := if 0 ≤ p ∧ p < (x0.length : Int) then rd_T23 x0 p else z23
theorem npick_l0 (x0 : List S23) (x1 : List Int) (h1 : x1.length ≤ 60) (d : Nat) : ∀ (k i : Nat), x1.length = i + d → d + 1 ≤ k →
    rows_Pick.l0 k x0 ((x1.take i).map (pk x0) ++ List.replicate d z23) x1 (x1.length : Int) (i : Int) = some (x1.map (pk x0)) := by
  induction d with
  | zero =>
    intro k i hd hk
    obtain ⟨k, rfl⟩ : ∃ m, k = m + 1 := ⟨k - 1, by omega⟩
    simp only [rows_Pick.l0]
    rw [if_neg (by omega), List.take_of_length_le (by omega)]
    simp
  | succ d ih =>
    intro k i hd hk
    obtain ⟨k, rfl⟩ : ∃ m, k = m + 1 := ⟨k - 1, by omega⟩
    have hi : i < x1.length := by omega
    have e : rd x1 (i : Int) = x1[i] := by
      unfold rd
      rw [Int.toNat_natCast, List.getD_eq_getElem?_getD, List.getElem?_eq_getElem hi]
      rfl
    have hlen : ((x1.take i).map (pk x0)).length = i := by
      rw [List.length_map, List.length_take]
      omega
    have tk : x1.take (i + 1) = x1.take i ++ [x1[i]] := (List.take_append_getElem hi).symm
    have h := ih k (i + 1) (by omega) (by omega)
    rw [tk, List.map_append] at h
    simp only [rows_Pick.l0]
    rw [if_pos (show (i : Int) < (x1.length : Int) by omega), if_pos (show (0 : Int) ≤ (i : Int) by omega), if_pos (show (i : Int) < (x1.length : Int) by omega), e, w64 (n := (i : Int) + 1) (by omega) (by omega)]
    have e1 : (i : Int) + 1 = ((i + 1 : Nat) : Int) := by omega
    have sk : ¬ (0 ≤ x1[i] ∧ x1[i] < (x0.length : Int)) → rows_Pick.l0 k x0 ((x1.take i).map (pk x0) ++ List.replicate (d + 1) z23) x1 (x1.length : Int) ((i : Int) + 1) = some (x1.map (pk x0)) := by
      intro hn
      rw [e1, ← h]
      have ez : pk x0 x1[i] = z23 := by unfold pk; rw [if_neg hn]
      simp [ez, List.replicate_succ]
    by_cases c1 : x1[i] ≥ 0
    · by_cases c2 : x1[i] < (x0.length : Int)
      · have c3 : (i : Int) < ((((x1.take i).map (pk x0) ++ List.replicate (d + 1) z23).length : Nat) : Int) := by
          rw [List.length_append, hlen, List.length_replicate]
          omega
        rw [if_pos c1, if_pos c2, if_pos (show 0 ≤ x1[i] from c1), if_pos c3, e1, ← h]
        have ez : pk x0 x1[i] = rd_T23 x0 x1[i] := by unfold pk; rw [if_pos ⟨c1, c2⟩]
        congr 1
        rw [Int.toNat_natCast, List.set_append_right _ _ (by omega), hlen, Nat.sub_self, List.replicate_succ, List.set_cons_zero]
        simp [ez]
      · rw [if_pos c1, if_neg c2]
        exact sk (fun hh => c2 hh.2)
    · rw [if_neg c1]
      exact sk (fun hh => c1 hh.1)
theorem npick_is (x0 : List S23) (x1 : List Int) (h1 : x1.length ≤ 60) (k : Nat) (hk : 100 ≤ k) : sift_Key.f k x0 x1 = some (x1.map (pk x0)) := by
  unfold sift_Key.f rows_Pick.f rows_Nulls.f
  have em : mn (mx (x1.length : Int) 0) 65536 = (x1.length : Int) := by unfold mn mx; omega
  rw [em, if_pos (by omega), if_pos (by omega), bs, Int.toNat_natCast]
  have h := npick_l0 x0 x1 h1 x1.length k 0 (by omega) (by omega)
  rw [show ((0 : Nat) : Int) = 0 from rfl] at h
  simp only [List.take_zero, List.map_nil, List.nil_append] at h
  rw [h, bs]
theorem rpick_l0 (x0 : List S23) (x1 : List Int) (h1 : x1.length ≤ 60) (d : Nat) : ∀ (k i : Nat), x1.length = i + d → 3 * d + 1 ≤ k →
    trommelref04_Pick.l0 k x0 x1 ((x1.take i).map (pk x0)) (i : Int) = some (x1.map (pk x0)) := by
  induction d with
  | zero =>
    intro k i hd hk
    obtain ⟨k, rfl⟩ : ∃ m, k = m + 1 := ⟨k - 1, by omega⟩
    simp only [trommelref04_Pick.l0]
    rw [if_neg (by omega), List.take_of_length_le (by omega)]
  | succ d ih =>
    intro k i hd hk
    obtain ⟨k, rfl⟩ : ∃ m, k = m + 3 := ⟨k - 3, by omega⟩
    have hi : i < x1.length := by omega
    have e : rd x1 (i : Int) = x1[i] := by
      unfold rd
      rw [Int.toNat_natCast, List.getD_eq_getElem?_getD, List.getElem?_eq_getElem hi]
      rfl
    have hlen : ((x1.take i).map (pk x0)).length = i := by
      rw [List.length_map, List.length_take]
      omega
    have tk : x1.take (i + 1) = x1.take i ++ [x1[i]] := (List.take_append_getElem hi).symm
    have h := fun k2 (hk2 : k ≤ k2) => ih k2 (i + 1) (by omega) (by omega)
    rw [tk, List.map_append] at h
    have h2 : ∀ k2, k ≤ k2 → trommelref04_Pick.j2 (k2 + 1) x0 x1 ((x1.take i).map (pk x0) ++ [pk x0 x1[i]]) (i : Int) = some (x1.map (pk x0)) := by
      intro k2 hk2
      simp only [trommelref04_Pick.j2]
      rw [w64 (n := (i : Int) + 1) (by omega) (by omega), show (i : Int) + 1 = ((i + 1 : Nat) : Int) by omega]
      exact h k2 hk2
    have h3 : ∀ y : S23, y = pk x0 x1[i] → trommelref04_Pick.j1 (k + 2) x0 x1 ((x1.take i).map (pk x0)) (i : Int) y.f0 y.f1 y.f2 = some (x1.map (pk x0)) := by
      intro y hy
      simp only [trommelref04_Pick.j1]
      rw [if_pos (by rw [hlen]; omega), ← h2 k (by omega), ← hy]
    rw [show k + 3 = (k + 2) + 1 from rfl, trommelref04_Pick.l0]
    rw [if_pos (show (i : Int) < (x1.length : Int) by omega), if_pos (show (0 : Int) ≤ (i : Int) by omega), e]
    by_cases c1 : x1[i] ≥ 0
    · by_cases c2 : x1[i] < (x0.length : Int)
      · rw [if_pos c1, if_pos c2, if_pos (show 0 ≤ x1[i] from c1)]
        exact h3 (rd_T23 x0 x1[i]) (by unfold pk; rw [if_pos ⟨c1, c2⟩])
      · rw [if_pos c1, if_neg c2]
        exact h3 z23 (by unfold pk; rw [if_neg (fun hh => c2 hh.2)])
    · have ez : pk x0 x1[i] = z23 := by unfold pk; rw [if_neg (fun hh => c1 hh.1)]
      rw [if_neg c1, if_pos (by rw [hlen]; omega), ← h2 (k + 1) (by omega), ez]
      rfl
theorem rpick_is (x0 : List S23) (x1 : List Int) (h1 : x1.length ≤ 60) (k : Nat) (hk : 200 ≤ k) : trommelref04_Pick.f k x0 x1 = some (x1.map (pk x0)) := by
  unfold trommelref04_Pick.f
  have h := rpick_l0 x0 x1 h1 x1.length k 0 (by omega) (by omega)
  rw [show ((0 : Nat) : Int) = 0 from rfl] at h
  simpa using h
theorem same_l0 (x0 : List S23) (h1 : x0.length ≤ 60) (d : Nat) : ∀ (k i : Nat), x0.length = i + d → d + 1 ≤ k →
    trommelref04_Same.l0 k x0 x0 (i : Int) = some true := by
  induction d with
  | zero =>
    intro k i hd hk
    obtain ⟨k, rfl⟩ : ∃ m, k = m + 1 := ⟨k - 1, by omega⟩
    simp only [trommelref04_Same.l0]
    rw [if_neg (by omega)]
  | succ d ih =>
    intro k i hd hk
    obtain ⟨k, rfl⟩ : ∃ m, k = m + 1 := ⟨k - 1, by omega⟩
    simp only [trommelref04_Same.l0, trommelref01_Same.f]
    rw [if_pos (show (i : Int) < (x0.length : Int) by omega), if_pos (show (0 : Int) ≤ (i : Int) by omega), if_pos (show (i : Int) < (x0.length : Int) by omega)]
    rw [if_pos trivial, if_pos trivial, bs, beq_self_eq_true, if_pos rfl, w64 (n := (i : Int) + 1) (by omega) (by omega), show (i : Int) + 1 = ((i + 1 : Nat) : Int) by omega]
    exact ih k (i + 1) (by omega) (by omega)
theorem same_is (x0 : List S23) (h1 : x0.length ≤ 60) (k : Nat) (hk : 100 ≤ k) : trommelref04_Same.f k x0 x0 = some true := by
  unfold trommelref04_Same.f
  rw [if_pos rfl]
  exact same_l0 x0 h1 x0.length k 0 (by omega) (by omega)
theorem add0 (k : Nat) (L : List (List S23)) : sift_Add.f k ([] : List Int) 0 ([] : List (S106)) 0 0 false L = some ([], 0, [], 0, 0, false) := by
  unfold sift_Add.f
  rw [if_neg (by simp)]
theorem pass0 (k : Nat) (a : List Int) (b : Int) (c : List S106) (d : Int) (e : Bool) (r : List S23) : sift_Passes.f (k + 1) a b c d 0 e r = some false := by
  unfold sift_Passes.f
  rw [if_pos rfl]
  simp only [sift_Passes.j0]
  rw [if_pos trivial]
theorem SiftZeros : trommellaw20_SiftZeros.Pure := by
  intro x0 x1 h0 _
  obtain ⟨_, hs⟩ := h0
  refine ⟨3101, ?_⟩
  have jt : trommellaw20_SiftZeros.j0 3101 x0 x1 true = some true := by
    rw [show (3101 : Nat) = 3100 + 1 from rfl, trommellaw20_SiftZeros.j0]
    rw [if_pos rfl, live20, bs]
  unfold trommellaw20_SiftZeros.f
  obtain ⟨b, hb, _⟩ := much_is [x0] (by simpa using fun y hy => (hs y hy).2.2) (by simp) 3101 (by omega)
  rw [hb, bs]
  cases b with
  | true => exact jt
  | false =>
    rw [if_neg (by simp)]
    by_cases c : (x1.length : Int) > 50
    · rw [decide_eq_true c]
      exact jt
    · rw [decide_eq_false c, show (3101 : Nat) = 3100 + 1 from rfl, trommellaw20_SiftZeros.j0]
      have hl : (x1.map (pk x0)).length ≤ 60 := by rw [List.length_map]; omega
      rw [if_neg (by simp), npick_is x0 x1 (by omega) _ (by omega), bs, rpick_is x0 x1 (by omega) _ (by omega), bs, same_is _ hl _ (by omega), bs, if_pos rfl, add0, bs]
      show ((sift_Passes.f (3099 + 1) [] 0 [] 0 0 false _).bind _) = _
      rw [pass0, bs, if_neg (by simp)]
      show ((sift_Passes.f (3099 + 1) [] 0 [] 0 0 false _).bind _) = _
      rw [pass0, bs, if_neg (by simp), bs]
      unfold sift_Count.f
      rw [bs, if_pos rfl, live20, bs]
      rfl

end Go.Proofs.YtcfgjaggccnoaaaDoor.Pure
