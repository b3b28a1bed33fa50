-- Written by wip/pack.py, a program of mine: the texts that this law stands on, as far as it uses them; Lean checks it.
import Derived.Test.YtcfgjaggccnoaaaProg
import Derived.Below
import Derived.Deep.Draws
import Derived.Deep.AppendLies
import Derived.Maps.AppendAt
import Derived.OwnWalk
import Derived.Laws.BytesArg
import Derived.Laws.MakeOwn
import Derived.Laws.OwnMore
import Derived.Deep.OwnRows
import Derived.Tactics
import Derived.Lib.ConvBytes
import Derived.Laws.Slices
import Derived.WalkKit
import Derived.KernelRfl
import Derived.RowKit3
import Derived.Deep.LoopGhost
import Derived.Deep.QuietTactic
import Derived.BigQuiet
import Derived.WideLaws
import Derived.Deep.DeepCutAuto
import Derived.Deep.CutBlock
import Derived.Deep.RegionHeld3
import Derived.Laws.Rows
import Derived.Lib.AppendStr
import Derived.ArgAppend
import Derived.Laws.IdiomCopy
import Derived.RowKit
import Derived.OrdersHeld
import Derived.Laws.BitsLemmas
import Ieee.Arith
import GoSem.Core.Float
import Derived.Laws.FloatArith
import Derived.Laws.Externs
import GoSem.Extern.MathFloatBits
import Derived.Laws.StructEq
import Derived.Lib.BitFns
import Derived.Lib.Hide
import Derived.Lib.Slices
import Derived.Lib.Small
import Derived.Lib.Strings
import Derived.Lib.Walk
import Derived.StillTailTactics
import Derived.Lib.SliceRun
import Derived.ChangeSlices
import Derived.ChangeOld
import Derived.SizedLaws
import Derived.ProofKit
import Derived.OpenShut
import Derived.Carry
import Derived.Lib.Mul64
import Derived.Laws.Bits64b
import Derived.Test.YtcfgjaggccnoaaaZCostShares5
namespace Go.Proofs.Ytcfgjaggccnoaaa.Pure
open Go.RowKit Go.Proofs.Ytcfgjaggccnoaaa.PCostShares Go.Proofs.YtcfgjaggccnoaaaW.PrintWords Go.Proofs.YtcfgjaggccnoaaaW.PrintLast
set_option linter.unusedVariables false
set_option linter.unusedSimpArgs false
set_option maxRecDepth 100000
theorem bs {α β : Type} (a : α) (f : α → Option β) : (some a).bind f = f a := (Option.bind_some a f).trans (Eq.refl _)
theorem u64_wrap (n : Int) : IntKind.u64.wrap n = n % 18446744073709551616 := by
 simp [IntKind.wrap, IntKind.bits, IntKind.signed]
theorem u64_range (n : Int) : 0 ≤ IntKind.u64.wrap n ∧ IntKind.u64.wrap n < 18446744073709551616 := by
 rw [u64_wrap]; omega
theorem u64_in {n : Int} (h0 : 0 ≤ n) (h1 : n < 18446744073709551616) : IntKind.u64.wrap n = n := by
 rw [u64_wrap]; omega
theorem w64 {n : Int} (h0 : -9223372036854775808 ≤ n) (h1 : n < 9223372036854775808) : wrap64 n = n := by
 unfold wrap64; omega
def pos (l : List Int) (x : Int) : Nat → Nat
 | 0 => 0
 | k + 1 => if rd l (k : Int) > x then pos l x k else k + 1
theorem pos_le (l : List Int) (x : Int) : ∀ k, pos l x k ≤ k
 | 0 => Nat.le_refl _
 | k + 1 => by
  unfold pos
  split
  ·exact Nat.le_succ_of_le (pos_le l x k)
  ·exact Nat.le_refl _
def ins (l : List Int) (x : Int) : List Int := l.take (pos l x l.length) ++ x :: l.drop (pos l x l.length)
theorem ins_length (l : List Int) (x : Int) : (ins l x).length = l.length + 1 := by
 have := pos_le l x l.length
 unfold ins
 rw [List.length_append, List.length_cons, List.length_take, List.length_drop]
 omega
def srt : List Int → List Int → List Int
 | acc, [] => acc
 | acc, x :: t => srt (ins acc x) t
theorem srt_length : ∀ (l acc : List Int), (srt acc l).length = acc.length + l.length
 | [], acc => rfl
 | x :: t, acc => by
  unfold srt
  rw [srt_length t, ins_length, List.length_cons]
  omega
theorem rd_nat (l : List Int) (i : Nat) (h : i < l.length) : rd l (i : Int) = l[i] := by
 unfold rd
 rw [Int.toNat_natCast, List.getD_eq_getElem?_getD, List.getElem?_eq_getElem h]
 rfl
theorem wpred (j : Nat) (h : j < 1000000) : wrap64 (((j + 1 : Nat) : Int) - 1) = (j : Int) := by rw [w64 (by omega) (by omega)]; omega
theorem wsucc (j : Nat) (h : j < 4611686018427387904) : wrap64 ((j : Int) + 1) = ((j + 1 : Nat) : Int) := by rw [w64 (by omega) (by omega)]; omega
theorem rs_end (x0 x3 : List Int) (i j k : Nat) (hi : i < x0.length) (hx : x0.length < 1000) (h3 : x3.length < 1000) (hj : j ≤ x3.length) (hc : j = 0 ∨ ¬ rd x3 ((j - 1 : Nat) : Int) > rd x0 (i : Int)) :
  r27_Sort.l1 (k + 1) x0 x3 (i : Int) (j : Int) = r27_Sort.l0 k x0 (x3.take j ++ rd x0 (i : Int) :: x3.drop j) (((i + 1 : Nat)) : Int) := by
 have e2 : ([] : List Int) ++ x3.take j = x3.take j := List.nil_append _
 have e3 : (x3.take j ++ [rd x0 (i : Int)]) ++ x3.drop j = x3.take j ++ rd x0 (i : Int) :: x3.drop j := by simp
 have l1 : (x3.take j).length = j := by rw [List.length_take]; omega
 have l2 : (x3.take j ++ [rd x0 (i : Int)]).length = j + 1 := by rw [List.length_append, l1]; rfl
 have l3 : (x3.drop j).length = x3.length - j := List.length_drop
 have t1 : (0 : Int) ≤ (i : Int) := by omega
 have t2 : (i : Int) < (x0.length : Int) := by omega
 have t3 : (0 : Int) ≤ (j : Int) := by omega
 have t4 : (j : Int) ≤ (x3.length : Int) := by omega
 have t5 : ([] : List Int).length + j < 17592186044416 := by simp only [List.length_nil]; omega
 have t6 : j < 17592186044416 := by omega
 have t7 : j + 1 + (x3.length - j) < 17592186044416 := by omega
 simp only [r27_Sort.l1]
 rcases Nat.eq_zero_or_pos j with c | c
 ·have t0 : ¬ (j : Int) > 0 := by omega
  rw [if_neg t0, bs, if_pos t3, if_pos t4, bs, Int.toNat_natCast, l1, if_pos t5, bs, if_pos t1, if_pos t2, e2, l1, if_pos t6, bs, bs, l2, l3, if_pos t7, e3, wsucc i (by omega)]
 ·obtain ⟨j, rfl⟩ : ∃ m, j = m + 1 := ⟨j - 1, by omega⟩
  have t0 : ((j + 1 : Nat) : Int) > 0 := by omega
  have hc' : ¬ rd x3 (j : Int) > rd x0 (i : Int) := by
   rcases hc with hc | hc
   ·omega
   ·exact hc
  have s1 : (0 : Int) ≤ (j : Int) := by omega
  have s2 : (j : Int) < (x3.length : Int) := by omega
  rw [if_pos t0, wpred j (by omega), if_pos s1, if_pos s2, if_pos t1, if_pos t2, if_neg hc', bs, if_pos t3, if_pos t4, bs, Int.toNat_natCast, l1, if_pos t5, bs, e2, l1, if_pos t6, bs, bs, l2, l3, if_pos t7, e3, wsucc i (by omega)]
theorem rs_l1 (x0 x3 : List Int) (i : Nat) (hi : i < x0.length) (hx : x0.length < 1000) (h3 : x3.length < 1000) : ∀ (j k : Nat), j ≤ x3.length → j + 1 ≤ k →
  ∃ k', k - j - 1 ≤ k' ∧ r27_Sort.l1 k x0 x3 (i : Int) (j : Int) = r27_Sort.l0 k' x0 (x3.take (pos x3 (rd x0 (i : Int)) j) ++ rd x0 (i : Int) :: x3.drop (pos x3 (rd x0 (i : Int)) j)) (((i + 1 : Nat)) : Int)
 | 0, k, hj, hk => by
  obtain ⟨k, rfl⟩ : ∃ m, k = m + 1 := ⟨k - 1, by omega⟩
  exact ⟨k, by omega, rs_end x0 x3 i 0 k hi hx h3 hj (Or.inl rfl)⟩
 | j + 1, k, hj, hk => by
  obtain ⟨k, rfl⟩ : ∃ m, k = m + 1 := ⟨k - 1, by omega⟩
  unfold pos
  by_cases c : rd x3 (j : Int) > rd x0 (i : Int)
  ·rw [if_pos c]
   obtain ⟨k', h1, h2⟩ := rs_l1 x0 x3 i hi hx h3 j k (by omega) (by omega)
   refine ⟨k', by omega, ?_⟩
   rw [← h2]
   have t0 : ((j + 1 : Nat) : Int) > 0 := by omega
   have s1 : (0 : Int) ≤ (j : Int) := by omega
   have s2 : (j : Int) < (x3.length : Int) := by omega
   have t1 : (0 : Int) ≤ (i : Int) := by omega
   have t2 : (i : Int) < (x0.length : Int) := by omega
   rw [r27_Sort.l1, if_pos t0, wpred j (by omega), if_pos s1, if_pos s2, if_pos t1, if_pos t2, if_pos c]
  ·rw [if_neg c]
   exact ⟨k, by omega, rs_end x0 x3 i (j + 1) k hi hx h3 hj (Or.inr c)⟩
theorem rs_l0 (x0 : List Int) (hx : x0.length < 400) (d : Nat) : ∀ (i k : Nat) (acc : List Int), x0.length - i = d → i ≤ x0.length → acc.length = i → d * (x0.length + 3) + 1 ≤ k → r27_Sort.l0 k x0 acc (i : Int) = some (srt acc (x0.drop i)) := by
 induction d with
 | zero =>
  intro i k acc hd hi ha hk
  obtain ⟨k, rfl⟩ : ∃ m, k = m + 1 := ⟨k - 1, by omega⟩
  rw [r27_Sort.l0, if_neg (show ¬ (i : Int) < (x0.length : Int) by omega), List.drop_of_length_le (by omega)]
  rfl
 | succ d ih =>
  intro i k acc hd hi ha hk
  have hk2 : d * (x0.length + 3) + (x0.length + 3) + 1 ≤ k := by rw [Nat.succ_mul] at hk; exact hk
  obtain ⟨k, rfl⟩ : ∃ m, k = m + 1 := ⟨k - 1, by omega⟩
  have hil : i < x0.length := by omega
  rw [r27_Sort.l0, if_pos (show (i : Int) < (x0.length : Int) by omega)]
  obtain ⟨k', h1, h2⟩ := rs_l1 x0 acc i hil (by omega) (by omega) acc.length k (Nat.le_refl _) (by omega)
  rw [h2]
  have e : acc.take (pos acc (rd x0 (i : Int)) acc.length) ++ rd x0 (i : Int) :: acc.drop (pos acc (rd x0 (i : Int)) acc.length) = ins acc (rd x0 (i : Int)) := rfl
  rw [e, ih (i + 1) k' _ (by omega) (by omega) (by rw [ins_length]; omega) (by omega), List.drop_eq_getElem_cons hil, rd_nat x0 i hil]
  rfl
theorem rsort_is (l : List Int) (h : l.length ≤ 9) (k : Nat) (hk : 120 ≤ k) : r27_Sort.f k l = some (srt [] l) := by
 have h2 : l.length * (l.length + 3) ≤ 9 * 12 := Nat.mul_le_mul h (by omega)
 have := rs_l0 l (by omega) l.length 0 k [] (by omega) (by omega) rfl (by omega)
 rw [List.drop_zero] at this
 exact this
theorem less_is (a b : Int) : cmp_Less_int.f a b = some (decide (a < b)) := by
 unfold cmp_Less_int.f cmp_isNaN_int.f
 rw [bs, if_neg (by simp)]
theorem swap_is (T D : List Int) (a x : Int) (j : Nat) (h : T.length = j) : ((T ++ a :: x :: D).set (j + 1) a).set j x = T ++ x :: a :: D := by
 subst h
 rw [List.set_append_right _ _ (by omega), show T.length + 1 - T.length = 1 by omega]
 show ((T ++ a :: a :: D).set T.length x) = _
 rw [List.set_append_right _ _ (by omega), Nat.sub_self]
 rfl
theorem ps_l1 (L R : List Int) (x : Int) (n : Int) (hL : L.length < 400) (hR : R.length < 400) : ∀ (j k : Nat), j ≤ L.length → j + 1 ≤ k →
  ∃ k', k - j - 1 ≤ k' ∧ slices_insertionSortOrdered_int.l1 k (L.take j ++ x :: (L.drop j ++ R)) 0 n (L.length : Int) (j : Int) = slices_insertionSortOrdered_int.l0 k' (L.take (pos L x j) ++ x :: (L.drop (pos L x j) ++ R)) 0 n ((L.length + 1 : Nat) : Int)
 | 0, k, hj, hk => by
  obtain ⟨k, rfl⟩ : ∃ m, k = m + 1 := ⟨k - 1, by omega⟩
  refine ⟨k, by omega, ?_⟩
  rw [slices_insertionSortOrdered_int.l1, if_neg (show ¬ ((0 : Nat) : Int) > 0 by omega), wsucc L.length (by omega)]
  rfl
 | j + 1, k, hj, hk => by
  obtain ⟨k, rfl⟩ : ∃ m, k = m + 1 := ⟨k - 1, by omega⟩
  have hjl : j < L.length := by omega
  have hT : (L.take j).length = j := by rw [List.length_take]; omega
  have e1 : L.take (j + 1) ++ x :: (L.drop (j + 1) ++ R) = L.take j ++ L[j] :: x :: (L.drop (j + 1) ++ R) := by
   rw [List.take_add_one, List.getElem?_eq_getElem hjl, Option.toList_some, List.append_assoc]
   rfl
  have e2 : L.take j ++ x :: L[j] :: (L.drop (j + 1) ++ R) = L.take j ++ x :: (L.drop j ++ R) := by
   rw [List.drop_eq_getElem_cons hjl]
   rfl
  have hlen : (L.take j ++ L[j] :: x :: (L.drop (j + 1) ++ R)).length = L.length + 1 + R.length := by
   rw [List.length_append, hT, List.length_cons, List.length_cons, List.length_append, List.length_drop]
   omega
  have g1 : rd (L.take j ++ L[j] :: x :: (L.drop (j + 1) ++ R)) ((j + 1 : Nat) : Int) = x := by
   rw [rd_nat _ _ (by omega), List.getElem_append_right (by omega)]
   simp [hT]
  have g2 : rd (L.take j ++ L[j] :: x :: (L.drop (j + 1) ++ R)) (j : Int) = L[j] := by
   rw [rd_nat _ _ (by omega), List.getElem_append_right (by omega)]
   simp [hT]
  have t0 : ((j + 1 : Nat) : Int) > 0 := by omega
  have t1 : (0 : Int) ≤ ((j + 1 : Nat) : Int) := by omega
  have t2 : ((j + 1 : Nat) : Int) < ((L.take j ++ L[j] :: x :: (L.drop (j + 1) ++ R)).length : Int) := by omega
  have t3 : (0 : Int) ≤ (j : Int) := by omega
  have t4 : (j : Int) < ((L.take j ++ L[j] :: x :: (L.drop (j + 1) ++ R)).length : Int) := by omega
  unfold pos
  rw [slices_insertionSortOrdered_int.l1, e1, if_pos t0, if_pos t1, if_pos t2, wpred j (by omega), if_pos t3, if_pos t4, g1, g2, less_is, bs, rd_nat L j hjl]
  by_cases c : x < L[j]
  ·rw [if_pos (decide_eq_true c), if_pos c, Int.toNat_natCast, Int.toNat_natCast, swap_is _ _ _ _ j hT, e2]
   obtain ⟨k', h1, h2⟩ := ps_l1 L R x n hL hR j k (by omega) (by omega)
   exact ⟨k', by omega, h2⟩
  ·rw [if_neg (show ¬ decide (x < L[j]) = true by simpa using c), if_neg c, e1]
   exact ⟨k, by omega, by rw [wsucc L.length (by omega)]⟩
theorem ps_l0 (n : Nat) (hn : n < 400) : ∀ (R : List Int) (k : Nat) (acc : List Int), acc.length + R.length = n → R.length * (n + 3) + 1 ≤ k → slices_insertionSortOrdered_int.l0 k (acc ++ R) 0 (n : Int) (acc.length : Int) = some (srt acc R)
 | [], k, acc, ha, hk => by
  obtain ⟨k, rfl⟩ : ∃ m, k = m + 1 := ⟨k - 1, by omega⟩
  rw [List.length_nil] at ha
  rw [slices_insertionSortOrdered_int.l0, if_neg (show ¬ (acc.length : Int) < (n : Int) by omega), List.append_nil]
  rfl
 | x :: R, k, acc, ha, hk => by
  rw [List.length_cons] at ha hk
  have hk2 : R.length * (n + 3) + (n + 3) + 1 ≤ k := by rw [Nat.succ_mul] at hk; exact hk
  obtain ⟨k, rfl⟩ : ∃ m, k = m + 1 := ⟨k - 1, by omega⟩
  rw [slices_insertionSortOrdered_int.l0, if_pos (show (acc.length : Int) < (n : Int) by omega)]
  obtain ⟨k', h1, h2⟩ := ps_l1 acc R x (n : Int) (by omega) (by omega) acc.length k (Nat.le_refl _) (by omega)
  rw [List.take_of_length_le (Nat.le_refl _), List.drop_of_length_le (Nat.le_refl _), List.nil_append] at h2
  rw [h2]
  have e : acc.take (pos acc x acc.length) ++ x :: (acc.drop (pos acc x acc.length) ++ R) = ins acc x ++ R := by
   unfold ins
   simp
  rw [e]
  have := ps_l0 n hn R k' (ins acc x) (by rw [ins_length]; omega) (by omega)
  rw [ins_length] at this
  rw [this]
  rfl
theorem psort_is (l : List Int) (h : l.length ≤ 9) (k : Nat) (hk : 121 ≤ k) : slices_Sort_int_int.f k l = some (srt [] l) := by
 obtain ⟨k, rfl⟩ : ∃ m, k = m + 1 := ⟨k - 1, by omega⟩
 have hu : IntKind.u64.wrap (l.length : Int) = (l.length : Int) := u64_in (by omega) (by omega)
 have hb : ∃ b, bits_Len.f (l.length : Int) = some b := by
  unfold bits_Len.f bits_Len64.f
  rw [if_pos ⟨by omega, by omega⟩, bs]
  exact ⟨_, rfl⟩
 obtain ⟨b, hb⟩ := hb
 have hw : wrap64 ((l.length : Int) - 0) = (l.length : Int) := by rw [w64 (by omega) (by omega)]; omega
 have key : slices_insertionSortOrdered_int.f k l 0 (l.length : Int) = some (srt [] l) := by
  unfold slices_insertionSortOrdered_int.f
  have e1 : wrap64 ((0 : Int) + 1) = 1 := w64 (by omega) (by omega)
  rw [e1]
  cases l with
  | nil =>
   obtain ⟨k, rfl⟩ : ∃ m, k = m + 1 := ⟨k - 1, by omega⟩
   rw [slices_insertionSortOrdered_int.l0, if_neg (by simp)]
   rfl
  | cons x R =>
   rw [List.length_cons] at h ⊢
   have h2 : R.length * (R.length + 1 + 3) ≤ 8 * 12 := Nat.mul_le_mul (by omega) (by omega)
   exact ps_l0 (R.length + 1) (by omega) R k [x] (by rw [List.length_singleton]; omega) (by omega)
 unfold slices_Sort_int_int.f slices_pdqsortOrdered_int.f
 rw [hu, hb, bs, slices_pdqsortOrdered_int.l0, hw, if_pos (show (l.length : Int) ≤ 12 by omega), key, bs, bs]
def cutN (a : Int) : Nat := if a < 0 then 0 else if a > 4611686018427387904 then 4611686018427387904 else a.toNat
theorem cutN_le (a : Int) : cutN a ≤ 4611686018427387904 := by unfold cutN; split; omega; split <;> omega
theorem cut_is (a : Int) : sat_Cut.f a = some (cutN a : Int) := by
 unfold sat_Cut.f mx mn cutN
 congr 1
 split <;> split <;> (try split) <;> omega
theorem rcut_is (a : Int) : r26_Cut.f a = some (cutN a : Int) := by
 unfold r26_Cut.f cutN
 by_cases c : a < 0
 ·rw [if_pos c, if_pos c]; rfl
 ·rw [if_neg c, if_neg c]
  by_cases d : a > 4611686018427387904
  ·rw [if_pos d, if_pos d]; rfl
  ·rw [if_neg d, if_neg d]
   congr 1
   omega
theorem cutN_of (n : Nat) (h : n ≤ 4611686018427387904) : cutN (n : Int) = n := by
 unfold cutN
 rw [if_neg (by omega), if_neg (by omega)]
 rfl
theorem maskN (a : Nat) (ha : a < 18446744073709551616) : Go.bits .and .u64 (a : Int) 4294967295 = ((a % 4294967296 : Nat) : Int) := by
 have h := bits_and_u64_nat a 4294967295 ha (by omega)
 have e : a &&& 4294967295 = a % 4294967296 := Nat.and_two_pow_sub_one_eq_mod a 32
 rw [e] at h
 exact h
theorem divN (a : Nat) : (a : Int) / 4294967296 = ((a / 4294967296 : Nat) : Int) := by omega
theorem mulN (a b : Nat) : (a : Int) * (b : Int) = ((a * b : Nat) : Int) := (Int.natCast_mul a b).symm
theorem addN (a b : Nat) : (a : Int) + (b : Int) = ((a + b : Nat) : Int) := (Int.natCast_add a b).symm
theorem wrapN (a : Nat) (ha : a < 18446744073709551616) : IntKind.u64.wrap (a : Int) = (a : Int) := by rw [u64_wrap]; omega
theorem wrapM (a : Nat) : IntKind.u64.wrap (a : Int) = ((a % 18446744073709551616 : Nat) : Int) := by rw [u64_wrap]; omega
theorem mul64_is (x y : Nat) (hx : x < 18446744073709551616) (hy : y < 18446744073709551616) : bits_Mul64.f (x : Int) (y : Int) = some (((x * y / 18446744073709551616 : Nat) : Int), ((x * y % 18446744073709551616 : Nat) : Int)) := by
 obtain ⟨bd, bt, bw, hhi⟩ := Lib.mul64_hi x y hx hy
 have ba := Lib.half_mul_le (a := x / 4294967296) (b := y / 4294967296) (by omega) (by omega)
 have bb := Lib.half_mul_le (a := x / 4294967296) (b := y % 4294967296) (by omega) (by omega)
 have bc := Lib.half_mul_le (a := x % 4294967296) (b := y / 4294967296) (by omega) (by omega)
 have ba' : x / 4294967296 * (y / 4294967296) < 18446744073709551616 := by omega
 have bb' : x / 4294967296 * (y % 4294967296) < 18446744073709551616 := by omega
 have bc' : x % 4294967296 * (y / 4294967296) < 18446744073709551616 := by omega
 have bh1 : x / 4294967296 * (y / 4294967296) + (x / 4294967296 * (y % 4294967296) + x % 4294967296 * (y % 4294967296) / 4294967296) / 4294967296 < 18446744073709551616 := by omega
 have bh : x / 4294967296 * (y / 4294967296) + (x / 4294967296 * (y % 4294967296) + x % 4294967296 * (y % 4294967296) / 4294967296) / 4294967296 + ((x / 4294967296 * (y % 4294967296) + x % 4294967296 * (y % 4294967296) / 4294967296) % 4294967296 + x % 4294967296 * (y / 4294967296)) / 4294967296 < 18446744073709551616 := by omega
 unfold bits_Mul64.f
 simp only [maskN x hx, maskN y hy, divN, mulN, addN, wrapN _ bd, wrapN _ bb', wrapN _ bt, maskN _ bt, wrapN _ bc', wrapN _ bw, wrapN _ ba', wrapN _ bh1, wrapN _ bh, wrapM (x * y)]
 rw [hhi]
def timesN (a b : Nat) : Nat := min (a * b) 4611686018427387904
theorem times_is (a b : Nat) (ha : a < 18446744073709551616) (hb : b < 18446744073709551616) : sat_count_times.f (a : Int) (b : Int) = some (timesN a b : Int) := by
 unfold sat_count_times.f timesN
 rw [mul64_is a b ha hb, bs]
 generalize a * b = p
 by_cases c : p / 18446744073709551616 > 0
 ·rw [if_pos (by omega)]
  congr 1
  omega
 ·rw [if_neg (by omega)]
  by_cases d : p % 18446744073709551616 > 4611686018427387904
  ·rw [if_pos (by omega)]
   congr 1
   omega
  ·rw [if_neg (by omega)]
   congr 1
   omega
def mulN2 (l : List Int) (n : Nat) : Nat := l.foldl (fun n x => timesN n (cutN x)) n
theorem mul_l0 (l : List Int) (hl : l.length ≤ 1000000) (d : Nat) : ∀ (k j n : Nat), l.length - j = d → j ≤ l.length → n ≤ 4611686018427387904 → d < k → sat_fold__sat_count_times.l0 k (n : Int) l (l.length : Int) (j : Int) = some (mulN2 (l.drop j) n : Int) := by
 induction d with
 | zero =>
  intro k j n hd hj hn hk
  obtain ⟨k, rfl⟩ : ∃ m, k = m + 1 := ⟨k - 1, by omega⟩
  simp only [sat_fold__sat_count_times.l0]
  rw [if_neg (by omega), List.drop_of_length_le (by omega), w64 (by omega) (by omega)]
  rfl
 | succ d ih =>
  intro k j n hd hj hn hk
  obtain ⟨k, rfl⟩ : ∃ m, k = m + 1 := ⟨k - 1, by omega⟩
  have hjl : j < l.length := by omega
  have e1 : wrap64 ((j : Int) + 1) = ((j + 1 : Nat) : Int) := by rw [w64 (by omega) (by omega)]; omega
  have er : rd l (j : Int) = l[j] := by unfold rd; simp [hjl]
  have hc := cutN_le l[j]
  simp only [sat_fold__sat_count_times.l0]
  rw [if_pos (show (j : Int) < (l.length : Int) by omega), if_pos (show (0 : Int) ≤ (j : Int) by omega), if_pos (show (j : Int) < (l.length : Int) by omega), er, cut_is, bs, wrapN _ (by omega), times_is n _ (by omega) (by omega), bs, e1, ih k (j + 1) _ (by omega) (by omega) (by unfold timesN; omega) (by omega), List.drop_eq_getElem_cons hjl]
  rfl
theorem mul2_is (a b : Int) (k : Nat) (hk : 2 < k) : sat_Mul.f k [a, b] = some (timesN (cutN a) (cutN b) : Int) := by
 have h := mul_l0 [a, b] (by simp) 2 k 0 1 rfl (by simp) (by decide) hk
 unfold sat_Mul.f sat_fold__sat_count_times.f
 have h2 : sat_fold__sat_count_times.l0 k 1 [a, b] ((([a, b] : List Int).length : Nat) : Int) 0 = some (mulN2 [a, b] 1 : Int) := h
 rw [h2, bs]
 congr 2
 show timesN (timesN 1 (cutN a)) (cutN b) = _
 have := cutN_le a
 have e : timesN 1 (cutN a) = cutN a := by unfold timesN; omega
 rw [e]
def nearI (n high : Int) : Int := if n < 0 then 0 else if n > high then high else n
theorem nearI_range (n high : Int) (h : 0 ≤ high) : 0 ≤ nearI n high ∧ nearI n high ≤ high := by
 unfold nearI
 split
 ·omega
 ·split <;> omega
theorem rnear_is (n high : Int) : r27_near.f n high = some (nearI n high) := by
 unfold r27_near.f nearI
 split
 ·rfl
 ·split <;> rfl
theorem hnear_is (n high : Int) (h : 0 ≤ high) : hist_near.f n 0 high = some (nearI n high) := by
 unfold hist_near.f nearI mx mn
 congr 1
 split <;> split <;> (try split) <;> omega
def heldCol (rows : Int) (c : S116) : S116 := ⟨nearI c.f0 (rows - nearI c.f1 rows), nearI c.f1 rows, srt [] (c.f2.take 9)⟩
def heldCols (rows : Int) (l : List S116) : Nat → Nat → List S116
 | 0, _ => []
 | d + 1, i => heldCol rows (rd_T116 l (i : Int)) :: heldCols rows l d (i + 1)
theorem heldCols_mem (rows : Int) (l : List S116) : ∀ d i, ∀ c ∈ heldCols rows l d i, ∃ x, c = heldCol rows x
 | 0, _, c, h => by cases h
 | d + 1, i, c, h => by
  unfold heldCols at h
  rcases List.mem_cons.1 h with h | h
  ·exact ⟨_, h⟩
  ·exact heldCols_mem rows l d (i + 1) c h
theorem rd116_out (l : List S116) (i : Nat) (h : l.length ≤ i) : rd_T116 l (i : Int) = z116 := by
 unfold rd_T116
 rw [Int.toNat_natCast, List.getD_eq_getElem?_getD, List.getElem?_eq_none h]
 rfl
theorem rd116_in (l : List S116) (i : Nat) (h : i < l.length) : rd_T116 l (i : Int) = l[i] := by
 unfold rd_T116
 rw [Int.toNat_natCast, List.getD_eq_getElem?_getD, List.getElem?_eq_getElem h]
 rfl
def Short (l : List S116) : Prop := ∀ c ∈ l, c.f2.length < 17592186044416
theorem col_is (a : Int) (l : List S116) (hl : Short l) (i : Int) (h0 : 0 ≤ i) : hist_Col.f a l i = some ((rd_T116 l i).f0, (rd_T116 l i).f1, (rd_T116 l i).f2) := by
 obtain ⟨i, rfl⟩ := Int.eq_ofNat_of_zero_le h0
 unfold hist_Col.f
 rw [if_neg (show ¬ (i : Int) < 0 by omega)]
 by_cases c : i < l.length
 ·have hm : rd_T116 l (i : Int) ∈ l := by rw [rd116_in l i c]; exact List.getElem_mem c
  have hc := hl _ hm
  have hs : ([] : List Int).length + (rd_T116 l (i : Int)).f2.length < 17592186044416 := by rw [List.length_nil]; omega
  rw [if_neg (show ¬ (i : Int) ≥ (l.length : Int) by omega), if_pos (show (0 : Int) ≤ (i : Int) by omega), if_pos (show (i : Int) < (l.length : Int) by omega)]
  unfold slices_Clone_int_int.f
  rw [bs, if_pos hs, bs, List.nil_append]
 ·rw [if_pos (show (i : Int) ≥ (l.length : Int) by omega), rd116_out l i (by omega)]
  rfl
theorem col_neg (a : Int) (l : List S116) (i : Int) (h0 : i < 0) : hist_Col.f a l i = some (0, 0, []) := by
 unfold hist_Col.f
 rw [if_pos h0]
theorem take_near (l : List Int) : l.take (mn (l.length : Int) 9).toNat = l.take 9 ∧ 0 ≤ mn (l.length : Int) 9 ∧ mn (l.length : Int) 9 ≤ (l.length : Int) := by
 unfold mn
 split
 ·exact ⟨rfl, by omega, by omega⟩
 ·rw [Int.toNat_natCast, List.take_of_length_le (Nat.le_refl _), List.take_of_length_le (by omega)]
  exact ⟨rfl, by omega, by omega⟩
theorem near9 (l : List Int) : nearI (l.length : Int) 9 = mn (l.length : Int) 9 := if_neg (by omega)
theorem take9_length (l : List Int) : (l.take 9).length ≤ 9 := by rw [List.length_take]; omega
theorem hheld_l0 (a : Int) (l : List S116) (hl : Short l) (rows : Int) (hr : 0 ≤ rows ∧ rows ≤ 4611686018427387904) (d : Nat) : ∀ (i k : Nat) (acc : List S116), i + d = 16 → acc.length = i → d + 130 ≤ k →
  hist_Held.l0 k 16 (i : Int) a l rows acc = some (rows, acc ++ heldCols rows l d i) := by
 induction d with
 | zero =>
  intro i k acc hi ha hk
  obtain ⟨k, rfl⟩ : ∃ m, k = m + 1 := ⟨k - 1, by omega⟩
  rw [hist_Held.l0, if_neg (show ¬ (i : Int) < 16 by omega)]
  unfold heldCols
  rw [List.append_nil]
 | succ d ih =>
  intro i k acc hi ha hk
  obtain ⟨k, rfl⟩ : ∃ m, k = m + 1 := ⟨k - 1, by omega⟩
  rw [hist_Held.l0, if_pos (show (i : Int) < 16 by omega), col_is a l hl _ (by omega)]
  unfold heldCols
  generalize rd_T116 l (i : Int) = c
  obtain ⟨n1, n2⟩ := nearI_range c.f1 rows hr.1
  obtain ⟨e1, e2, e3⟩ := take_near c.f2
  rw [bs, hnear_is _ _ hr.1, bs]
  show ((hist_near.f c.f0 0 (wrap64 (rows - nearI c.f1 rows))).bind _) = _
  rw [w64 (by omega) (by omega), hnear_is _ _ (by omega), bs]
  show (if 0 ≤ mn (c.f2.length : Int) 9 then (if mn (c.f2.length : Int) 9 ≤ (c.f2.length : Int) then ((slices_Sort_int_int.f k (c.f2.take (mn (c.f2.length : Int) 9).toNat)).bind _) else none) else none) = _
  rw [if_pos e2, if_pos e3, e1, psort_is _ (take9_length _) k (by omega), bs, if_pos (show acc.length < 3518437208883 by omega), wsucc i (by omega), ih (i + 1) k _ (by omega) (by rw [List.length_append, ha]; rfl) (by omega)]
  unfold heldCol
  rw [List.append_assoc]
  rfl
theorem hheld_is (a : Int) (l : List S116) (hl : Short l) (k : Nat) (hk : 200 ≤ k) : hist_Held.f k a l 16 = some ((cutN a : Int), heldCols (cutN a : Int) l 16 0) := by
 have h := cutN_le a
 have e : nearI 16 16 = 16 := by decide
 unfold hist_Held.f
 rw [cut_is, bs, hnear_is _ _ (by omega), bs, e]
 have := hheld_l0 a l hl (cutN a : Int) ⟨by omega, by omega⟩ 16 0 k [] rfl rfl (by omega)
 rw [List.nil_append] at this
 exact this
theorem rheld_l0 (a : Int) (l : List S116) (rows : Int) (hr : 0 ≤ rows ∧ rows ≤ 4611686018427387904) (d : Nat) : ∀ (i k : Nat) (acc : List S116), i + d = 16 → acc.length = i → d + 130 ≤ k →
  r27_Held.l0 k 16 (i : Int) a l rows acc = some (rows, acc ++ heldCols rows l d i) := by
 have e16 : nearI 16 16 = 16 := by decide
 induction d with
 | zero =>
  intro i k acc hi ha hk
  obtain ⟨k, rfl⟩ : ∃ m, k = m + 1 := ⟨k - 1, by omega⟩
  rw [r27_Held.l0, rnear_is, bs, e16, if_neg (show ¬ (i : Int) < 16 by omega)]
  unfold heldCols
  rw [List.append_nil]
 | succ d ih =>
  intro i k acc hi ha hk
  obtain ⟨k, rfl⟩ : ∃ m, k = m + 1 := ⟨k - 1, by omega⟩
  rw [r27_Held.l0, rnear_is, bs, e16, if_pos (show (i : Int) < 16 by omega)]
  unfold heldCols
  by_cases c : i < l.length
  ·rw [if_pos (show (i : Int) < (l.length : Int) by omega), if_pos (show (0 : Int) ≤ (i : Int) by omega)]
   generalize rd_T116 l (i : Int) = c
   obtain ⟨n1, n2⟩ := nearI_range c.f1 rows hr.1
   obtain ⟨e1, e2, e3⟩ := take_near c.f2
   rw [rnear_is, bs, w64 (by omega) (by omega), rnear_is, bs, rnear_is, bs, near9, if_pos e2, if_pos e3, e1, rsort_is _ (take9_length _) k (by omega), bs, if_pos (show acc.length < 3518437208883 by omega), wsucc i (by omega), ih (i + 1) k _ (by omega) (by rw [List.length_append, ha]; rfl) (by omega)]
   unfold heldCol
   rw [List.append_assoc]
   rfl
  ·obtain ⟨n1, n2⟩ := nearI_range 0 rows hr.1
   have e9 : nearI (([] : List Int).length : Int) 9 = 0 := by decide
   rw [if_neg (show ¬ (i : Int) < (l.length : Int) by omega), rd116_out l i (by omega), rnear_is, bs, w64 (by omega) (by omega), rnear_is, bs, rnear_is, bs, e9, if_pos rfl, rsort_is [] (by simp) k (by omega), bs, if_pos (show acc.length < 3518437208883 by omega), wsucc i (by omega), ih (i + 1) k _ (by omega) (by rw [List.length_append, ha]; rfl) (by omega)]
   unfold heldCol z116
   rw [List.append_assoc]
   rfl
theorem rheld_is (a : Int) (l : List S116) (k : Nat) (hk : 200 ≤ k) : r27_Held.f k a l 16 = some ((cutN a : Int), heldCols (cutN a : Int) l 16 0) := by
 have h := cutN_le a
 unfold r27_Held.f
 rw [rcut_is, bs]
 have := rheld_l0 a l (cutN a : Int) ⟨by omega, by omega⟩ 16 0 k [] rfl rfl (by omega)
 rw [List.nil_append] at this
 exact this
def tabAt (st : List S103) (t : Int) : S103 := if 0 ≤ t ∧ t < (st.length : Int) then rd_T103 st t else z103
def rowsOf (st : List S103) (t : Int) : Int := (cutN (tabAt st t).f0 : Int)
def colsOf (st : List S103) (t : Int) : List S116 := heldCols (rowsOf st t) (tabAt st t).f1 16 0
def AllShort (st : List S103) : Prop := ∀ s ∈ st, Short s.f1
theorem tabAt_short (st : List S103) (h : AllShort st) (t : Int) : Short (tabAt st t).f1 := by
 unfold tabAt
 split
 ·rename_i c
  obtain ⟨t, rfl⟩ := Int.eq_ofNat_of_zero_le c.1
  refine h _ ?_
  have ht : t < st.length := by omega
  unfold rd_T103
  rw [Int.toNat_natCast, List.getD_eq_getElem?_getD, List.getElem?_eq_getElem ht]
  exact List.getElem_mem ht
 ·intro c hc
  cases hc
theorem rows_range (st : List S103) (t : Int) : 0 ≤ rowsOf st t ∧ rowsOf st t ≤ 4611686018427387904 := by
 have := cutN_le (tabAt st t).f0
 unfold rowsOf
 omega
theorem tabAt_in (st : List S103) {t : Int} (h0 : 0 ≤ t) (h1 : t < (st.length : Int)) : tabAt st t = rd_T103 st t := if_pos ⟨h0, h1⟩
theorem tabAt_out (st : List S103) {t : Int} (h : ¬ (0 ≤ t ∧ t < (st.length : Int))) : tabAt st t = z103 := if_neg h
theorem short_nil : Short ([] : List S116) := fun c hc => by cases hc
theorem stat_is (st : List S103) (h : AllShort st) (t : Int) (k : Nat) (hk : 200 ≤ k) : cost_stat.f k st t = some (rowsOf st t, colsOf st t) := by
 have hs := tabAt_short st h t
 have e0 := hheld_is 0 [] short_nil k hk
 unfold cost_stat.f colsOf rowsOf
 by_cases c1 : 0 ≤ t
 ·by_cases c2 : t < (st.length : Int)
  ·rw [tabAt_in st c1 c2] at hs ⊢
   rw [if_pos (show t ≥ 0 from c1), if_pos c2, if_pos c1, hheld_is _ _ hs k hk, bs]
  ·rw [tabAt_out st (fun q => c2 q.2), if_pos (show t ≥ 0 from c1), if_neg c2, e0, bs]
   rfl
 ·rw [tabAt_out st (fun q => c1 q.1), if_neg (show ¬ t ≥ 0 from c1), e0, bs]
  rfl
theorem said_is (st : List S103) (t : Int) (k : Nat) (hk : 201 ≤ k) : r29_Said.f k st t = some (rowsOf st t, colsOf st t) := by
 obtain ⟨k, rfl⟩ : ∃ m, k = m + 1 := ⟨k - 1, by omega⟩
 have e0 := rheld_is 0 [] k (by omega)
 unfold r29_Said.f colsOf rowsOf
 by_cases c1 : 0 ≤ t
 ·by_cases c2 : t < (st.length : Int)
  ·rw [tabAt_in st c1 c2, if_neg (show ¬ t < 0 by omega), decide_eq_false (show ¬ t ≥ (st.length : Int) by omega), r29_Said.j0, if_neg (by decide), if_pos c1, if_pos c2, rheld_is _ _ k (by omega), bs]
  ·rw [tabAt_out st (fun q => c2 q.2), if_neg (show ¬ t < 0 by omega), decide_eq_true (show t ≥ (st.length : Int) by omega), r29_Said.j0, if_pos rfl, e0, bs]
   rfl
 ·rw [tabAt_out st (fun q => c1 q.1), if_pos (show t < 0 by omega), r29_Said.j0, if_pos rfl, e0, bs]
  rfl
theorem cols_short (st : List S103) (t : Int) : Short (colsOf st t) := by
 intro c hc
 obtain ⟨x, rfl⟩ := heldCols_mem _ _ _ _ c hc
 show (srt [] (x.f2.take 9)).length < _
 rw [srt_length, List.length_take]
 simp only [List.length_nil]
 omega
def colAt (st : List S103) (t c : Int) : S116 := if c < 0 then z116 else rd_T116 (colsOf st t) c
theorem colAt_ok (st : List S103) (t c : Int) : (colAt st t c).f2.length ≤ 9 ∧ 0 ≤ (colAt st t c).f1 ∧ (colAt st t c).f1 ≤ rowsOf st t ∧ 0 ≤ (colAt st t c).f0 ∧ (colAt st t c).f0 ≤ rowsOf st t := by
 have hr := rows_range st t
 have hz : z116.f2.length ≤ 9 ∧ 0 ≤ z116.f1 ∧ z116.f1 ≤ rowsOf st t ∧ 0 ≤ z116.f0 ∧ z116.f0 ≤ rowsOf st t := ⟨by decide, by decide, hr.1, by decide, hr.1⟩
 unfold colAt
 split
 ·exact hz
 ·rename_i h
  obtain ⟨c, rfl⟩ := Int.eq_ofNat_of_zero_le (show 0 ≤ c by omega)
  by_cases hc : c < (colsOf st t).length
  ·rw [rd116_in _ _ hc]
   have hm : (colsOf st t)[c] ∈ colsOf st t := List.getElem_mem hc
   obtain ⟨x, hx⟩ := heldCols_mem _ _ _ _ _ hm
   rw [hx]
   unfold heldCol
   simp only
   obtain ⟨n1, n2⟩ := nearI_range x.f1 (rowsOf st t) hr.1
   obtain ⟨n3, n4⟩ := nearI_range x.f0 (rowsOf st t - nearI x.f1 (rowsOf st t)) (by omega)
   refine ⟨?_, n1, n2, n3, by omega⟩
   rw [srt_length, List.length_take]
   simp only [List.length_nil]
   omega
  ·rw [rd116_out _ _ (by omega)]
   exact hz
theorem hcol_is (st : List S103) (t c : Int) : hist_Col.f (rowsOf st t) (colsOf st t) c = some ((colAt st t c).f0, (colAt st t c).f1, (colAt st t c).f2) := by
 unfold colAt
 by_cases h : c < 0
 ·rw [col_neg _ _ _ h, if_pos h]
  rfl
 ·rw [col_is _ _ (cols_short st t) c (by omega), if_neg h]
theorem rcol_is (st : List S103) (t c : Int) (k : Nat) (hk : 201 ≤ k) : r29_column.f k st t c = some ((colAt st t c).f0, (colAt st t c).f1, (colAt st t c).f2) := by
 unfold r29_column.f colAt
 rw [said_is st t k hk, bs]
 show (if c < 0 then _ else if c ≥ ((colsOf st t).length : Int) then _ else _) = _
 by_cases h : c < 0
 ·rw [if_pos h, if_pos h]
  rfl
 ·rw [if_neg h, if_neg h]
  by_cases g : c ≥ ((colsOf st t).length : Int)
  ·rw [if_pos g]
   obtain ⟨c, rfl⟩ := Int.eq_ofNat_of_zero_le (show 0 ≤ c by omega)
   rw [rd116_out _ _ (by omega)]
   rfl
  ·rw [if_neg g, if_pos (by omega)]
   show (if c < ((colsOf st t).length : Int) then _ else _) = _
   rw [if_pos (by omega)]
theorem one64 {v : Nat} (h : v ≤ Flt.ONE) : v < 18446744073709551616 := Nat.lt_of_le_of_lt h (by decide)
def notF (v : Nat) : Nat := Flt.subF Flt.ONE (Flt.clean v)
theorem notF_le (v : Nat) : notF v ≤ Flt.ONE := (Flt.sub_one (Flt.clean_le v)).2
theorem pnot_is {v : Nat} (h : v ≤ Flt.ONE) : frac_Not.f v = some (notF v) := if_pos (one64 h)
theorem rnot_is {v : Nat} (h : v ≤ Flt.ONE) : r28_Not.f v = some (notF v) := if_pos (one64 h)
theorem fok2 {a b : Nat} (ha : a ≤ Flt.ONE) (hb : b ≤ Flt.ONE) : [a, b].all fok = true := by
 unfold fok
 rw [List.all_cons, List.all_cons, List.all_nil, decide_eq_true (one64 ha), decide_eq_true (one64 hb)]
 rfl
theorem pand_is {a b : Nat} (ha : a ≤ Flt.ONE) (hb : b ≤ Flt.ONE) : frac_And.f [a, b] = some (andF [a, b]) := if_pos (fok2 ha hb)
theorem rand_is {a b : Nat} (ha : a ≤ Flt.ONE) (hb : b ≤ Flt.ONE) : r28_And.f [a, b] = some (andF [a, b]) := if_pos (fok2 ha hb)
theorem por_is {a b : Nat} (ha : a ≤ Flt.ONE) (hb : b ≤ Flt.ONE) : frac_Or.f a b = some (orF a b) := if_pos ⟨one64 ha, one64 hb⟩
theorem ror_is {a b : Nat} (ha : a ≤ Flt.ONE) (hb : b ≤ Flt.ONE) : r28_Or.f a b = some (orF a b) := if_pos ⟨one64 ha, one64 hb⟩
theorem orF_le (a b : Nat) : orF a b ≤ Flt.ONE := Flt.clean_le _
theorem pof_is {a b : Int} (ha : 0 ≤ a ∧ a ≤ 4611686018427387904) (hb : 0 ≤ b ∧ b ≤ 4611686018427387904) : frac_Of.f a b = some (Flt.ofF a b) := if_pos ⟨by omega, by omega, by omega, by omega⟩
theorem rof_is {a b : Int} (ha : 0 ≤ a ∧ a ≤ 4611686018427387904) (hb : 0 ≤ b ∧ b ≤ 4611686018427387904) : r28_Of.f a b = some (Flt.ofF a b) := if_pos ⟨by omega, by omega, by omega, by omega⟩
def cntB (n : Int) (l : List Int) : Nat := l.countP fun x => decide (x < n)
def cntU (n : Int) (l : List Int) : Nat := l.countP fun x => decide (x ≤ n)
theorem cntB_le (n : Int) (l : List Int) : cntB n l ≤ l.length := List.countP_le_length
theorem cntU_le (n : Int) (l : List Int) : cntU n l ≤ l.length := List.countP_le_length
theorem cntB_cons (n x : Int) (l : List Int) : cntB n (x :: l) = cntB n l + if x < n then 1 else 0 := by
 unfold cntB
 rw [List.countP_cons]
 simp only [decide_eq_true_eq]
theorem cntU_cons (n x : Int) (l : List Int) : cntU n (x :: l) = cntU n l + if x ≤ n then 1 else 0 := by
 unfold cntU
 rw [List.countP_cons]
 simp only [decide_eq_true_eq]
theorem below_l0 (n : Int) (l : List Int) (hl : l.length ≤ 9) (d : Nat) : ∀ (i k c : Nat), l.length - i = d → i ≤ l.length → c ≤ i → d < k → hist_Below.l0 k n (c : Int) l (l.length : Int) (i : Int) = some ((c + cntB n (l.drop i) : Nat) : Int) := by
 induction d with
 | zero =>
  intro i k c hd hi hc hk
  obtain ⟨k, rfl⟩ : ∃ m, k = m + 1 := ⟨k - 1, by omega⟩
  rw [hist_Below.l0, if_neg (show ¬ (i : Int) < (l.length : Int) by omega), List.drop_of_length_le (by omega)]
  rfl
 | succ d ih =>
  intro i k c hd hi hc hk
  obtain ⟨k, rfl⟩ : ∃ m, k = m + 1 := ⟨k - 1, by omega⟩
  have hil : i < l.length := by omega
  rw [hist_Below.l0, if_pos (show (i : Int) < (l.length : Int) by omega), if_pos (show (0 : Int) ≤ (i : Int) by omega), if_pos (show (i : Int) < (l.length : Int) by omega), rd_nat l i hil, List.drop_eq_getElem_cons hil, cntB_cons]
  by_cases h : l[i] < n
  ·rw [if_pos h, if_pos h, wsucc i (by omega), wsucc c (by omega), ih (i + 1) k (c + 1) (by omega) (by omega) (by omega) (by omega)]
   congr 2
   omega
  ·rw [if_neg h, if_neg h, wsucc i (by omega), ih (i + 1) k c (by omega) (by omega) (by omega) (by omega)]
   rfl
theorem below_is (n : Int) (l : List Int) (hl : l.length ≤ 9) (k : Nat) (hk : 10 ≤ k) : hist_Below.f k l n = some (cntB n l : Int) := by
 have := below_l0 n l hl l.length 0 k 0 (by omega) (by omega) (by omega) (by omega)
 rw [List.drop_zero, Nat.zero_add] at this
 exact this
theorem marks_l0 (op n : Int) (l : List Int) (hl : l.length ≤ 9) (f : List Int → Nat) (hf : (op = 1 ∧ f = cntB n) ∨ (op = 2 ∧ f = cntU n)) (hz : f [] = 0) (d : Nat) : ∀ (i k c : Nat), l.length - i = d → i ≤ l.length → c ≤ i → c + f (l.drop i) ≤ l.length → d < k → r29_marks.l0 k l op n (c : Int) (i : Int) = some (Flt.ofF ((c + f (l.drop i) : Nat) : Int) (l.length : Int)) := by
 induction d with
 | zero =>
  intro i k c hd hi hc hq hk
  obtain ⟨k, rfl⟩ : ∃ m, k = m + 1 := ⟨k - 1, by omega⟩
  rw [r29_marks.l0, if_neg (show ¬ (i : Int) < (l.length : Int) by omega), rof_is (by omega) (by omega), bs, List.drop_of_length_le (by omega), hz]
  rfl
 | succ d ih =>
  intro i k c hd hi hc hq hk
  obtain ⟨k, rfl⟩ : ∃ m, k = m + 1 := ⟨k - 1, by omega⟩
  have hil : i < l.length := by omega
  rw [List.drop_eq_getElem_cons hil] at hq
  rw [r29_marks.l0, if_pos (show (i : Int) < (l.length : Int) by omega), if_pos (show (0 : Int) ≤ (i : Int) by omega), rd_nat l i hil, List.drop_eq_getElem_cons hil]
  rcases hf with ⟨rfl, rfl⟩ | ⟨rfl, rfl⟩
  ·rw [cntB_cons] at hq ⊢
   by_cases h : l[i] < n
   ·rw [if_pos h] at hq ⊢
    rw [if_pos h, wsucc i (by omega), wsucc c (by omega), ih (i + 1) k (c + 1) (by omega) (by omega) (by omega) (by omega) (by omega)]
    congr 3
    omega
   ·rw [if_neg h] at hq ⊢
    rw [if_neg h, if_neg (by decide), wsucc i (by omega), ih (i + 1) k c (by omega) (by omega) (by omega) (by omega) (by omega)]
    rfl
  ·rw [cntU_cons] at hq ⊢
   by_cases h : l[i] < n
   ·rw [if_pos (show l[i] ≤ n by omega)] at hq ⊢
    rw [if_pos h, wsucc i (by omega), wsucc c (by omega), ih (i + 1) k (c + 1) (by omega) (by omega) (by omega) (by omega) (by omega)]
    congr 3
    omega
   ·rw [if_neg h, if_pos rfl]
    by_cases g : l[i] = n
    ·rw [if_pos (show l[i] ≤ n by omega)] at hq ⊢
     rw [if_pos g, wsucc i (by omega), wsucc c (by omega), ih (i + 1) k (c + 1) (by omega) (by omega) (by omega) (by omega) (by omega)]
     congr 3
     omega
    ·rw [if_neg (show ¬ l[i] ≤ n by omega)] at hq ⊢
     rw [if_neg g, wsucc i (by omega), ih (i + 1) k c (by omega) (by omega) (by omega) (by omega) (by omega)]
     rfl
theorem marks1_is (n : Int) (l : List Int) (hl : l.length ≤ 9) (k : Nat) (hk : 10 ≤ k) : r29_marks.f k l 1 n = some (Flt.ofF (cntB n l : Int) (l.length : Int)) := by
 have := marks_l0 1 n l hl (cntB n) (Or.inl ⟨rfl, rfl⟩) rfl l.length 0 k 0 (by omega) (by omega) (by omega) (by rw [List.drop_zero]; have := cntB_le n l; omega) (by omega)
 rw [List.drop_zero, Nat.zero_add] at this
 exact this
theorem marks2_is (n : Int) (l : List Int) (hl : l.length ≤ 9) (k : Nat) (hk : 10 ≤ k) : r29_marks.f k l 2 n = some (Flt.ofF (cntU n l : Int) (l.length : Int)) := by
 have := marks_l0 2 n l hl (cntU n) (Or.inr ⟨rfl, rfl⟩) rfl l.length 0 k 0 (by omega) (by omega) (by omega) (by rw [List.drop_zero]; have := cntU_le n l; omega) (by omega)
 rw [List.drop_zero, Nat.zero_add] at this
 exact this
def opF (c : S116) (op n : Int) : Nat :=
 if op = 1 then Flt.ofF 1 c.f0 else if op = 2 then notF (Flt.ofF 1 c.f0) else if op = 3 then Flt.ofF (cntB n c.f2 : Int) (c.f2.length : Int)
 else if op = 4 then Flt.ofF (cntU n c.f2 : Int) (c.f2.length : Int) else if op = 5 then notF (Flt.ofF (cntU n c.f2 : Int) (c.f2.length : Int)) else notF (Flt.ofF (cntB n c.f2 : Int) (c.f2.length : Int))
theorem opF_le (c : S116) (op n : Int) : opF c op n ≤ Flt.ONE := by
 unfold opF
 (repeat' split) <;> first | exact Flt.ofF_le _ _ | exact notF_le _
def agF (st : List S103) (t c op n : Int) : Nat := andF [Flt.ofF (rowsOf st t - (colAt st t c).f1) (rowsOf st t), opF (colAt st t c) op n]
theorem against_l0 (op n rows : Int) (cs : List S116) (c : S116) (hr : 0 ≤ rows ∧ rows ≤ 4611686018427387904) (h2 : c.f2.length ≤ 9) (h1 : 0 ≤ c.f1 ∧ c.f1 ≤ rows) (h0 : 0 ≤ c.f0 ∧ c.f0 ≤ rows) (d : Nat) : ∀ (i k m : Nat), c.f2.length - i = d → i ≤ c.f2.length → m ≤ i → m + cntU n (c.f2.drop i) ≤ c.f2.length → d + 12 < k →
  cost_against.l0 k op n (m : Int) c.f2 (c.f2.length : Int) (i : Int) rows cs c.f0 c.f1 c.f2 = some (andF [Flt.ofF (rows - c.f1) rows, if op = 1 then Flt.ofF 1 c.f0 else if op = 2 then notF (Flt.ofF 1 c.f0) else if op = 3 then Flt.ofF (cntB n c.f2 : Int) (c.f2.length : Int)
 else if op = 4 then Flt.ofF ((m + cntU n (c.f2.drop i) : Nat) : Int) (c.f2.length : Int) else if op = 5 then notF (Flt.ofF ((m + cntU n (c.f2.drop i) : Nat) : Int) (c.f2.length : Int)) else notF (Flt.ofF (cntB n c.f2 : Int) (c.f2.length : Int))]) := by
 induction d with
 | zero =>
  intro i k m hd hi hm hq hk
  obtain ⟨k, rfl⟩ : ∃ m, k = m + 2 := ⟨k - 2, by omega⟩
  have hb := cntB_le n c.f2
  have hj : ∀ v, v ≤ Flt.ONE → cost_against.j1 (k + 1) v rows cs c.f0 c.f1 c.f2 = some (andF [Flt.ofF (rows - c.f1) rows, v]) := by
   intro v hv
   rw [cost_against.j1, w64 (by omega) (by omega), pof_is (by omega) hr, bs, pand_is (Flt.ofF_le _ _) hv, bs]
  have hd0 : c.f2.drop i = [] := List.drop_of_length_le (by omega)
  rw [hd0] at hq ⊢
  have hz : m + cntU n [] = m := rfl
  rw [hz] at hq ⊢
  rw [cost_against.l0, if_neg (show ¬ (i : Int) < (c.f2.length : Int) by omega), below_is n c.f2 h2 (k + 1) (by omega), bs, pof_is (by omega) (by omega), bs, pof_is (by omega) (by omega), bs]
  by_cases o1 : op = 1
  ·rw [if_pos o1, if_pos o1, pof_is (by omega) (by omega), bs, hj _ (Flt.ofF_le _ _)]
  ·rw [if_neg o1, if_neg o1]
   by_cases o2 : op = 2
   ·rw [if_pos o2, if_pos o2, pof_is (by omega) (by omega), bs, pnot_is (Flt.ofF_le _ _), bs, hj _ (notF_le _)]
   ·rw [if_neg o2, if_neg o2]
    by_cases o3 : op = 3
    ·rw [if_pos o3, if_pos o3, hj _ (Flt.ofF_le _ _)]
    ·rw [if_neg o3, if_neg o3]
     by_cases o4 : op = 4
     ·rw [if_pos o4, if_pos o4, hj _ (Flt.ofF_le _ _)]
     ·rw [if_neg o4, if_neg o4]
      by_cases o5 : op = 5
      ·rw [if_pos o5, if_pos o5, pnot_is (Flt.ofF_le _ _), bs, hj _ (notF_le _)]
      ·rw [if_neg o5, if_neg o5, pnot_is (Flt.ofF_le _ _), bs, hj _ (notF_le _)]
 | succ d ih =>
  intro i k m hd hi hm hq hk
  obtain ⟨k, rfl⟩ : ∃ m, k = m + 1 := ⟨k - 1, by omega⟩
  have hil : i < c.f2.length := by omega
  rw [List.drop_eq_getElem_cons hil, cntU_cons] at hq
  rw [cost_against.l0, if_pos (show (i : Int) < (c.f2.length : Int) by omega), if_pos (show (0 : Int) ≤ (i : Int) by omega), if_pos (show (i : Int) < (c.f2.length : Int) by omega), rd_nat c.f2 i hil, List.drop_eq_getElem_cons hil, cntU_cons]
  by_cases g : c.f2[i] ≤ n
  ·rw [if_pos g] at hq ⊢
   rw [if_pos g, wsucc i (by omega), wsucc m (by omega), ih (i + 1) k (m + 1) (by omega) (by omega) (by omega) (by omega) (by omega)]
   rw [show m + 1 + cntU n (c.f2.drop (i + 1)) = m + (cntU n (c.f2.drop (i + 1)) + 1) by omega]
  ·rw [if_neg g] at hq ⊢
   rw [if_neg g, wsucc i (by omega), ih (i + 1) k m (by omega) (by omega) (by omega) (by omega) (by omega)]
   rfl
theorem pagainst_is (st : List S103) (hs : AllShort st) (op t c n : Int) (a1 a2 : ByteArray) (a0 a5 a6 : Int) (a7 : ByteArray) (a8 : List S27) (k : Nat) (hk : 300 ≤ k) : cost_against.f k op a0 a1 a2 t c a5 a6 a7 a8 n st = some (agF st t c op n) := by
 obtain ⟨c2, c1, c1', c0, c0'⟩ := colAt_ok st t c
 have hr := rows_range st t
 unfold cost_against.f
 rw [stat_is st hs t k (by omega), bs]
 show ((hist_Col.f (rowsOf st t) (colsOf st t) c).bind _) = _
 rw [hcol_is, bs]
 have := against_l0 op n (rowsOf st t) (colsOf st t) (colAt st t c) hr c2 ⟨c1, c1'⟩ ⟨c0, c0'⟩ (colAt st t c).f2.length 0 k 0 (by omega) (by omega) (by omega) (by rw [List.drop_zero]; have := cntU_le n (colAt st t c).f2; omega) (by omega)
 rw [List.drop_zero, Nat.zero_add] at this
 exact this
theorem ragainst_is (st : List S103) (op t c n : Int) (h1 : 1 ≤ op) (h6 : op ≤ 6) (k : Nat) (hk : 300 ≤ k) : r29_against.f k st t c op n = some (agF st t c op n) := by
 obtain ⟨c2, c1, c1', c0, c0'⟩ := colAt_ok st t c
 have hr := rows_range st t
 unfold r29_against.f agF
 rw [rcol_is st t c k (by omega), bs, said_is st t k (by omega), bs]
 show ((r28_Of.f (wrap64 (rowsOf st t - (colAt st t c).f1)) (rowsOf st t)).bind fun t389 => ((r28_Of.f 1 (colAt st t c).f0).bind fun t390 => ((r28_Of.f 1 (colAt st t c).f0).bind fun t391 => ((r28_Not.f t391).bind fun t392 => ((r29_marks.f k (colAt st t c).f2 1 n).bind fun t393 => ((r29_marks.f k (colAt st t c).f2 2 n).bind fun t394 => ((r29_marks.f k (colAt st t c).f2 2 n).bind fun t395 => ((r28_Not.f t395).bind fun t396 => ((r29_marks.f k (colAt st t c).f2 1 n).bind fun t397 => ((r28_Not.f t397).bind _)))))))))) = _
 generalize colAt st t c = x at *
 rw [w64 (by omega) (by omega), rof_is (by omega) hr, bs, rof_is (by omega) (by omega), bs, bs, rnot_is (Flt.ofF_le _ _), bs, marks1_is n x.f2 c2 k (by omega), bs, marks2_is n x.f2 c2 k (by omega), bs, bs, rnot_is (Flt.ofF_le _ _), bs, bs, rnot_is (Flt.ofF_le _ _), bs, bs]
 refine (if_pos (show (0 : Int) ≤ op by omega)).trans ((if_pos (show op < (7 : Int) by omega)).trans ?_)
 have key : ∀ v : Nat, v = opF x op n → ((r28_And.f [Flt.ofF (rowsOf st t - x.f1) (rowsOf st t), v]).bind fun t406 => some t406) = some (andF [Flt.ofF (rowsOf st t - x.f1) (rowsOf st t), opF x op n]) := by
  intro v hv
  rw [hv, rand_is (Flt.ofF_le _ _) (opF_le _ _ _), bs]
 apply key
 have ho : op = 1 ∨ op = 2 ∨ op = 3 ∨ op = 4 ∨ op = 5 ∨ op = 6 := by omega
 unfold opF
 rcases ho with h | h | h | h | h | h <;> subst h <;> rfl
theorem punlike_is (st : List S103) (hs : AllShort st) (t c : Int) (k : Nat) (hk : 300 ≤ k) : cost_unlike.f k st t c = some (colAt st t c).f0 := by
 unfold cost_unlike.f
 rw [stat_is st hs t k (by omega), bs]
 show ((hist_Col.f (rowsOf st t) (colsOf st t) c).bind _) = _
 rw [hcol_is, bs]
def eqF (st : List S103) (t c u d : Int) : Nat := Flt.ofF 1 (if (colAt st t c).f0 > (colAt st u d).f0 then (colAt st t c).f0 else (colAt st u d).f0)
theorem psame_is (st : List S103) (hs : AllShort st) (t c u d : Int) (k : Nat) (hk : 300 ≤ k) : cost_same.f k st t c u d = some (eqF st t c u d) := by
 obtain ⟨_, _, _, c0, c0'⟩ := colAt_ok st t c
 obtain ⟨_, _, _, d0, d0'⟩ := colAt_ok st u d
 have hr := rows_range st t
 have hr' := rows_range st u
 unfold cost_same.f eqF
 rw [punlike_is st hs t c k hk, bs, punlike_is st hs u d k hk, bs]
 generalize (colAt st t c).f0 = x at *
 generalize (colAt st u d).f0 = y at *
 have e : mx x y = if x > y then x else y := by
  unfold mx
  split <;> split <;> omega
 rw [e, pof_is (by omega) (by split <;> omega), bs]
theorem requal_is (st : List S103) (t c u d : Int) (k : Nat) (hk : 300 ≤ k) : r29_equal.f k st t c u d = some (eqF st t c u d) := by
 obtain ⟨_, _, _, c0, c0'⟩ := colAt_ok st t c
 obtain ⟨_, _, _, d0, d0'⟩ := colAt_ok st u d
 have hr := rows_range st t
 have hr' := rows_range st u
 unfold r29_equal.f eqF
 rw [rcol_is st t c k (by omega), bs, rcol_is st u d k (by omega), bs]
 show (if (colAt st t c).f0 > (colAt st u d).f0 then ((r28_Of.f 1 (colAt st t c).f0).bind fun t417 => some t417) else ((r28_Of.f 1 (colAt st u d).f0).bind fun t418 => some t418)) = _
 generalize (colAt st t c).f0 = x at *
 generalize (colAt st u d).f0 = y at *
 by_cases h : x > y
 ·rw [if_pos h, if_pos h, rof_is (by omega) (by omega), bs]
 ·rw [if_neg h, if_neg h, rof_is (by omega) (by omega), bs]
def nuF (st : List S103) (t c : Int) : Nat := Flt.ofF (colAt st t c).f1 (rowsOf st t)
theorem pnulls_is (st : List S103) (hs : AllShort st) (t c : Int) (a1 a2 : ByteArray) (a0 a5 a6 : Int) (a7 : ByteArray) (a8 : List S27) (k : Nat) (hk : 300 ≤ k) : cost_nulls.f k a0 a1 a2 t c a5 a6 a7 a8 st = some (nuF st t c) := by
 obtain ⟨c2, c1, c1', c0, c0'⟩ := colAt_ok st t c
 have hr := rows_range st t
 unfold cost_nulls.f nuF
 rw [stat_is st hs t k (by omega), bs]
 show ((hist_Col.f (rowsOf st t) (colsOf st t) c).bind _) = _
 rw [hcol_is, bs]
 show ((frac_Of.f (colAt st t c).f1 (rowsOf st t)).bind _) = _
 rw [pof_is (by omega) hr, bs]
theorem div64_zero (lo y : Nat) (hl : lo < 18446744073709551616) (hy : 0 < y) (k : Nat) : bits_Div64.f k 0 (lo : Int) (y : Int) = some (((lo / y : Nat) : Int), ((lo % y : Nat) : Int)) := by
 unfold bits_Div64.f
 rw [if_neg (by omega), if_neg (by omega), if_pos rfl, Int.tdiv_eq_ediv_of_nonneg (by omega), Int.tmod_eq_emod_of_nonneg (by omega), ← Int.natCast_ediv, ← Int.natCast_emod]
 have h : lo / y ≤ lo := Nat.div_le_self _ _
 rw [wrapN _ (by omega)]
theorem lz16 : bits_LeadingZeros64.f 65536 = some 47 := by
 have e : Lib.bitLen 65536 = 17 := by decide +kernel
 unfold bits_LeadingZeros64.f bits_Len64.f
 rw [if_pos (by decide)]
 have e2 : Lib.bitLen (Int.toNat 65536) = 17 := e
 have e3 : wrap64 (64 - ((17 : Nat) : Int)) = 47 := by unfold wrap64; omega
 rw [e2, bs, e3]
theorem shl47 (x : Int) : shl .u64 x 47 = (x * 140737488355328) % 18446744073709551616 := by
 unfold shl
 rw [u64_wrap]
 rfl
theorem shr17 (x : Int) : shr .u64 x 17 = x / 131072 := rfl
theorem shr47 (x : Int) : shr .u64 x 47 = x / 140737488355328 := rfl
theorem or_sum (a b : Nat) (ha : a < 65536) (hb : b < 140737488355328) : Go.bits .or .u64 ((a * 140737488355328 : Nat) : Int) (b : Int) = ((a * 140737488355328 + b : Nat) : Int) := by
 rw [bits_or_u64_nat _ _ (by omega) (by omega)]
 have h := Nat.two_pow_add_eq_or_of_lt (i := 47) (b := b) (by omega) a
 congr 1
 rw [Nat.mul_comm a]
 exact h.symm
theorem step_T (a b t : Nat) (ha : a < 4294967296) (hb : b < 2147483648) (ht : t < 4294967296) :
  IntKind.u64.wrap (IntKind.u64.wrap (IntKind.u64.wrap (((2147483648 * a + b : Nat) : Int) * 4294967296) + (t : Int)) - IntKind.u64.wrap ((a : Int) * 9223372036854775808)) = ((b * 4294967296 + t : Nat) : Int) := by
 rw [u64_wrap, u64_wrap, u64_wrap, u64_wrap]
 omega
theorem step_R (c d : Nat) (hc : c < 4294967296) (hd : d < 65536) :
  IntKind.u64.wrap (IntKind.u64.wrap (IntKind.u64.wrap (((32768 * (65536 * c + d) : Nat) : Int) * 4294967296) + 0) - IntKind.u64.wrap ((c : Int) * 9223372036854775808)) / 140737488355328 = (d : Int) := by
 rw [u64_wrap, u64_wrap, u64_wrap, u64_wrap]
 omega
theorem div64_l1 (k : Nat) (q T q0 rh : Int) (h0 : 0 ≤ q0) (h1 : q0 < 4294967296) (hk : 3 ≤ k) : bits_Div64.l1 k 9223372036854775808 47 2147483648 0 0 q rh T q0 = some (IntKind.u64.wrap ((IntKind.u64.wrap (q * 4294967296)) + q0), shr .u64 (IntKind.u64.wrap ((IntKind.u64.wrap ((IntKind.u64.wrap (T * 4294967296)) + 0)) - (IntKind.u64.wrap (q0 * 9223372036854775808)))) 47) := by
 obtain ⟨k, rfl⟩ : ∃ m, k = m + 2 := ⟨k - 2, by omega⟩
 have z : IntKind.u64.wrap (q0 * 0) = 0 := by rw [Int.mul_zero]; rfl
 have p := u64_range (IntKind.u64.wrap (4294967296 * rh) + 0)
 simp only [bits_Div64.l1]
 rw [if_neg (by omega), z, decide_eq_false (by omega)]
 simp only [bits_Div64.j4, Bool.false_eq_true, if_false]
 rw [if_pos (by decide)]
theorem div64_split (hi lo : Nat) (h1 : hi < 65536) (hl : lo < 18446744073709551616) : ∃ a b c d e f : Nat, a < 4294967296 ∧ b < 2147483648 ∧ c < 140737488355328 ∧ d < 131072 ∧ e < 4294967296 ∧ f < 65536 ∧ lo = 131072 * c + d ∧ hi * 140737488355328 + c = 2147483648 * a + b ∧ b * 131072 + d = 65536 * e + f := by
 refine ⟨(hi * 140737488355328 + lo / 131072) / 2147483648, (hi * 140737488355328 + lo / 131072) % 2147483648, lo / 131072, lo % 131072, ((hi * 140737488355328 + lo / 131072) % 2147483648 * 131072 + lo % 131072) / 65536, ((hi * 140737488355328 + lo / 131072) % 2147483648 * 131072 + lo % 131072) % 65536, ?_, ?_, ?_, ?_, ?_, ?_, ?_, ?_, ?_⟩
 ·omega
 ·omega
 ·omega
 ·omega
 ·omega
 ·omega
 ·omega
 ·omega
 ·omega
theorem q1_is (a b : Nat) (ha : a < 4294967296) (hb : b < 2147483648) : IntKind.u64.wrap (Int.tdiv ((2147483648 * a + b : Nat) : Int) 2147483648) = (a : Int) := by
 have e : Int.tdiv ((2147483648 * a + b : Nat) : Int) 2147483648 = ((2147483648 * a + b : Nat) : Int) / 2147483648 := Int.tdiv_eq_ediv_of_nonneg (Int.natCast_nonneg _)
 have e2 : ((2147483648 * a + b : Nat) : Int) / 2147483648 = (a : Int) := by omega
 rw [e, e2]
 exact wrapN a (by omega)
theorem q0_is (e f : Nat) (he : e < 4294967296) (hf : f < 65536) : IntKind.u64.wrap (Int.tdiv ((32768 * (65536 * e + f) : Nat) : Int) 2147483648) = (e : Int) := by
 have h : Int.tdiv ((32768 * (65536 * e + f) : Nat) : Int) 2147483648 = ((32768 * (65536 * e + f) : Nat) : Int) / 2147483648 := Int.tdiv_eq_ediv_of_nonneg (Int.natCast_nonneg _)
 have e2 : ((32768 * (65536 * e + f) : Nat) : Int) / 2147483648 = (e : Int) := by omega
 rw [h, e2]
 exact wrapN e (by omega)
theorem r1_is (a e : Nat) (ha : a < 4294967296) (he : e < 4294967296) : IntKind.u64.wrap ((IntKind.u64.wrap ((a : Int) * 4294967296)) + (e : Int)) = ((a * 4294967296 + e : Nat) : Int) := by
 rw [u64_wrap, u64_wrap]
 omega
theorem quo_is (hi lo a b c d e f : Nat) (hb : b < 2147483648) (hf : f < 65536) (hd : d < 131072) (hL : lo = 131072 * c + d) (hU : hi * 140737488355328 + c = 2147483648 * a + b) (hT : b * 131072 + d = 65536 * e + f) : a * 4294967296 + e = (hi * 18446744073709551616 + lo) / 65536 ∧ f = (hi * 18446744073709551616 + lo) % 65536 := by
 have k1 : (hi * 140737488355328 + c) * 131072 = (2147483648 * a + b) * 131072 := by rw [hU]
 have k2 : (hi * 140737488355328 + c) * 131072 = hi * 18446744073709551616 + 131072 * c := by rw [Nat.add_mul, Nat.mul_assoc, Nat.mul_comm c]
 have k3 : (2147483648 * a + b) * 131072 = 65536 * (a * 4294967296) + b * 131072 := by
  rw [Nat.add_mul, Nat.mul_comm a, ← Nat.mul_assoc, Nat.mul_right_comm]
 have k4 : 65536 * (a * 4294967296 + e) = 65536 * (a * 4294967296) + 65536 * e := Nat.mul_add _ _ _
 have h : hi * 18446744073709551616 + lo = 65536 * (a * 4294967296 + e) + f := by
  rw [hL, ← Nat.add_assoc, ← k2, k1, k3, Nat.add_assoc, hT, ← Nat.add_assoc, ← k4]
 rw [h]
 generalize a * 4294967296 + e = q
 clear h k1 k2 k3 k4 hU hT hL
 exact ⟨by omega, by omega⟩
theorem s1_is (hi : Nat) (h1 : hi < 65536) : shl .u64 (hi : Int) 47 = ((hi * 140737488355328 : Nat) : Int) := by rw [shl47]; omega
theorem s2_is (c d : Nat) (hd : d < 131072) : shr .u64 ((131072 * c + d : Nat) : Int) 17 = (c : Int) := by rw [shr17]; omega
theorem s3_is (c d : Nat) (hd : d < 131072) : shl .u64 ((131072 * c + d : Nat) : Int) 47 = ((d * 140737488355328 : Nat) : Int) := by rw [shl47]; omega
theorem s4_is (d : Nat) : ((d * 140737488355328 : Nat) : Int) / 4294967296 = ((d * 32768 : Nat) : Int) := by omega
theorem s5_is (d : Nat) (hd : d < 131072) : Go.bits .and .u64 ((d * 140737488355328 : Nat) : Int) 4294967295 = 0 := by rw [maskN _ (by omega)]; omega
theorem y1_is : shl .u64 65536 47 = 9223372036854775808 := by rw [shl47]; rfl
theorem y3_is : Go.bits .and .u64 9223372036854775808 4294967295 = 0 := maskN 9223372036854775808 (by omega)
theorem div64_l0 (a b c d e f : Nat) (ha : a < 4294967296) (hb : b < 2147483648) (hc : c < 140737488355328) (hd : d < 131072) (he : e < 4294967296) (hf : f < 65536) (hT : b * 131072 + d = 65536 * e + f) (k : Nat) (hk : 8 ≤ k) : bits_Div64.l0 k 9223372036854775808 47 2147483648 0 ((2147483648 * a + b : Nat) : Int) ((d * 32768 : Nat) : Int) 0 (a : Int) (IntKind.u64.wrap (((2147483648 * a + b : Nat) : Int) - IntKind.u64.wrap ((a : Int) * 2147483648))) = some (((a * 4294967296 + e : Nat) : Int), (f : Int)) := by
 obtain ⟨k, rfl⟩ : ∃ m, k = m + 3 := ⟨k - 3, by omega⟩
 have z : IntKind.u64.wrap ((a : Int) * 0) = 0 := by rw [Int.mul_zero]; rfl
 have tT : b * 4294967296 + d * 32768 = 32768 * (65536 * e + f) := by
  rw [← hT, Nat.mul_add, Nat.mul_comm 32768 (b * 131072), Nat.mul_assoc, Nat.mul_comm 32768 d]
 have g1 : ¬ (a : Int) ≥ 4294967296 := by omega
 have ST := step_T a b (d * 32768) ha hb (by omega)
 rw [tT] at ST
 have SR := step_R e f he hf
 have L1 := div64_l1 k
 have Q0 := q0_is e f he hf
 have R1 := r1_is a e ha he
 simp only [bits_Div64.l0]
 generalize (IntKind.u64.wrap (((2147483648 * a + b : Nat) : Int) - IntKind.u64.wrap ((a : Int) * 2147483648))) = R
 have p := (u64_range (IntKind.u64.wrap (4294967296 * R) + ((d * 32768 : Nat) : Int))).1
 have g2 : ¬ (0 : Int) > IntKind.u64.wrap (IntKind.u64.wrap (4294967296 * R) + ((d * 32768 : Nat) : Int)) := Int.not_lt.mpr p
 rw [if_neg g1, z, decide_eq_false g2]
 simp only [bits_Div64.j1, Bool.false_eq_true, if_false]
 simp only [bits_Div64.j2]
 rw [if_neg (show ¬ (2147483648 : Int) = 0 by decide), ST, Q0, L1 _ _ _ _ (Int.natCast_nonneg _) (by omega) (by omega), shr47, SR, R1]
theorem div64_16 (hi lo : Nat) (h0 : 0 < hi) (h1 : hi < 65536) (hl : lo < 18446744073709551616) (k : Nat) (hk : 10 ≤ k) : bits_Div64.f k (hi : Int) (lo : Int) 65536 = some ((((hi * 18446744073709551616 + lo) / 65536 : Nat) : Int), (((hi * 18446744073709551616 + lo) % 65536 : Nat) : Int)) := by
 obtain ⟨a, b, c, d, e, f, ha, hb, hc, hd, he, hf, hL, hU, hT⟩ := div64_split hi lo h1 hl
 obtain ⟨v1, v2⟩ := quo_is hi lo a b c d e f hb hf hd hL hU hT
 rw [← v1, ← v2]
 have w47 : IntKind.u64.wrap (47 : Int) = 47 := rfl
 have w17 : IntKind.u64.wrap (64 - (47 : Int)) = 17 := rfl
 have y2 : (9223372036854775808 : Int) / 4294967296 = 2147483648 := rfl
 have L := div64_l0 a b c d e f ha hb hc hd he hf hT k (by omega)
 have Q1 := q1_is a b ha hb
 have O := or_sum hi c h1 hc
 have g0 : ¬ (65536 : Int) ≤ (hi : Int) := by omega
 have g1 : ¬ (hi : Int) = 0 := by omega
 rw [hU] at O
 clear v1 v2 hT hU ha hb he hf
 subst hL
 unfold bits_Div64.f
 rw [if_neg (show ¬ (65536 : Int) = 0 by decide), if_neg g0, if_neg g1, lz16, bs, w47, w17, if_pos (show (0 : Int) ≤ 47 by decide), if_pos (show (0 : Int) ≤ 17 by decide), y1_is, y2, if_neg (show ¬ (2147483648 : Int) = 0 by decide), y3_is, s1_is hi h1, s2_is c d hd, s3_is c d hd, s4_is, s5_is d hd, O, Q1]
 exact L
def partN (n num den : Nat) : Nat := if num ≥ den then n else (n * num + (den - 1)) / den
theorem up_div (a w : Nat) (hw : 0 < w) : (a + (w - 1)) / w = a / w + (if a % w = 0 then 0 else 1) := by
 have hm := Nat.div_add_mod a w
 have hlt := Nat.mod_lt a hw
 generalize a / w = q at *
 generalize a % w = r at *
 subst hm
 by_cases c : r = 0
 ·rw [if_pos c, c, Nat.add_zero, Nat.mul_add_div hw, Nat.div_eq_of_lt (show w - 1 < w by omega)]
 ·rw [if_neg c, Nat.add_assoc, Nat.mul_add_div hw, show r + (w - 1) = (r - 1) + w by omega, Nat.add_div_right _ hw, Nat.div_eq_of_lt (show r - 1 < w by omega)]
theorem part_end (p den : Nat) (hd : 0 < den) (h : p / den + 1 ≤ 4611686018427387905) : (if ((p % den : Nat) : Int) > 0 then some (wrap64 (IntKind.u64.wrap (((p / den : Nat) : Int) + 1))) else some (wrap64 ((p / den : Nat) : Int))) = some (((p + (den - 1)) / den : Nat) : Int) := by
 rw [up_div p den hd]
 generalize p / den = q at *
 generalize p % den = r at *
 by_cases c : r = 0
 ·rw [if_neg (by omega), if_pos c, w64 (by omega) (by omega)]
  rfl
 ·rw [if_pos (by omega), if_neg c, u64_in (by omega) (by omega), w64 (by omega) (by omega)]
  rfl
theorem part_le (n num den : Nat) (h : num < den) (hn : n ≤ 4611686018427387904) : n * num / den + 1 ≤ 4611686018427387905 := by
 have : n * num / den ≤ n := by
  refine Nat.div_le_of_le_mul ?_
  rw [Nat.mul_comm den]
  exact Nat.mul_le_mul_left n (by omega)
 omega
theorem part16_is (a b : Int) (k : Nat) (hk : 10 ≤ k) : sat_Part.f k a b 65536 = some (partN (cutN a) (cutN b) 65536 : Int) := by
 have h1 := cutN_le a
 have h2 := cutN_le b
 unfold sat_Part.f partN
 have e : cutN 65536 = 65536 := cutN_of 65536 (by decide)
 rw [cut_is, bs, cut_is, bs, cut_is, bs, e]
 generalize cutN a = n at *
 generalize cutN b = m at *
 by_cases c : m ≥ 65536
 ·rw [if_pos (by omega), if_pos c]
 ·have hp : n * m ≤ 4611686018427387904 * 65535 := Nat.mul_le_mul h1 (by omega)
  rw [if_neg (by omega), if_neg c, wrapN n (by omega), wrapN m (by omega), mul64_is n m (by omega) (by omega), bs]
  have e2 : IntKind.u64.wrap ((65536 : Nat) : Int) = 65536 := rfl
  have hq := part_le n m 65536 (by omega) h1
  have hend := part_end (n * m) 65536 (by decide) hq
  rw [e2]
  by_cases z : n * m / 18446744073709551616 = 0
  ·have e3 : n * m % 18446744073709551616 = n * m := by omega
   have hdv := div64_zero (n * m) 65536 (by omega) (by decide) k
   rw [z, e3]
   have e4 : bits_Div64.f k ((0 : Nat) : Int) ((n * m : Nat) : Int) 65536 = _ := hdv
   rw [e4, bs]
   exact hend
  ·have e3 : (n * m / 18446744073709551616) * 18446744073709551616 + n * m % 18446744073709551616 = n * m := by omega
   rw [div64_16 _ _ (by omega) (by omega) (by omega) k hk, bs, e3]
   exact hend
theorem part_small (a b : Int) (den : Nat) (hd : 0 < den) (hd2 : den ≤ 4611686018427387904) (h : cutN a * cutN b < 18446744073709551616) (k : Nat) : sat_Part.f k a b (den : Int) = some (partN (cutN a) (cutN b) den : Int) := by
 have h1 := cutN_le a
 have h2 := cutN_le b
 unfold sat_Part.f partN
 rw [cut_is, bs, cut_is, bs, cut_is, bs, cutN_of den hd2]
 generalize cutN a = n at *
 generalize cutN b = m at *
 by_cases c : m ≥ den
 ·rw [if_pos (by omega), if_pos c]
 ·rw [if_neg (by omega), if_neg c, wrapN n (by omega), wrapN m (by omega), mul64_is n m (by omega) (by omega), bs, wrapN den (by omega)]
  have z : n * m / 18446744073709551616 = 0 := by omega
  have e3 : n * m % 18446744073709551616 = n * m := by omega
  have hq := part_le n m den (by omega) h1
  rw [z, e3]
  have e4 : bits_Div64.f k ((0 : Nat) : Int) ((n * m : Nat) : Int) (den : Int) = _ := div64_zero (n * m) den (by omega) hd k
  rw [e4, bs]
  exact part_end (n * m) den hd hq
def uN : Nat → Nat → Nat
 | 0, u => u
 | c + 1, u => uN c ((u * 63 + 63) / 64)
def rN : Nat → Nat → Nat → Nat
 | 0, _, r => r
 | c + 1, u, r => rN c u ((r * (65536 - u) + 65535) / 65536)
def cl (x : Int) (hi : Nat) : Nat := if x < 1 then 1 else if x > (hi : Int) then hi else x.toNat
def upN (a w : Nat) : Nat := (a + (w - 1)) / w
def cntN (w b : Nat) (keys : Int) : Nat := min (upN (timesN b (cutN keys)) w) 1000
def passN (words bits keys : Int) : Nat := rN (cl bits 5) (uN (cntN (cl words 4096) (cl bits 5) keys) 65536) 65536
theorem cl_range (x : Int) (hi : Nat) (h : 1 ≤ hi) : 1 ≤ cl x hi ∧ cl x hi ≤ hi := by
 unfold cl
 split
 ·omega
 ·split <;> omega
theorem cl_mx (x : Int) (hi : Nat) (h : 1 ≤ hi) : mx 1 (mn x (hi : Int)) = (cl x hi : Int) := by
 unfold cl mx mn
 split <;> split <;> (try split) <;> (try split) <;> omega
theorem upN_mod (a w : Nat) (hw : 0 < w) : upN a w = a / w + min (a % w) 1 := by
 unfold upN
 rw [up_div a w hw]
 generalize a % w = r
 by_cases c : r = 0
 ·rw [if_pos c, c]; rfl
 ·rw [if_neg c]; omega
theorem div_is (a w : Nat) (ha : a ≤ 4611686018427387904) (hw : 1 ≤ w) (hw2 : w ≤ 4611686018427387904) : sat_Div.f (a : Int) (w : Int) = some (upN a w : Int) := by
 have h1 : a / w ≤ a := Nat.div_le_self _ _
 have c1 : (w : Int) > 0 := by omega
 have c2 : ¬ (w : Int) = 0 := by omega
 have t1 : Int.tdiv (a : Int) (w : Int) = ((a / w : Nat) : Int) := rfl
 have t2 : Int.tmod (a : Int) (w : Int) = ((a % w : Nat) : Int) := rfl
 unfold sat_Div.f mn
 rw [cut_is, bs, cut_is, bs, cutN_of a ha, cutN_of w hw2, if_pos c1, if_neg c2, t1, t2, upN_mod a w (by omega)]
 generalize a / w = q at *
 generalize a % w = r at *
 clear t1 t2
 have e : wrap64 (q : Int) = (q : Int) := w64 (by omega) (by omega)
 rw [e]
 split
 ·rw [w64 (by omega) (by omega)]
  congr 1
  omega
 ·rw [w64 (by omega) (by omega)]
  congr 1
  omega
theorem r_step (r u : Nat) (hr : r ≤ 65536) (hu : u ≤ 65536) : partN r (65536 - u) 65536 = (r * (65536 - u) + 65535) / 65536 ∧ (r * (65536 - u) + 65535) / 65536 ≤ 65536 := by
 have h : r * (65536 - u) ≤ r * 65536 := Nat.mul_le_mul_left r (by omega)
 refine ⟨?_, by omega⟩
 unfold partN
 by_cases c : 65536 - u ≥ 65536
 ·rw [if_pos c, show 65536 - u = 65536 by omega]
  omega
 ·rw [if_neg c]
theorem pass_l1 (u : Nat) (hu : u ≤ 65536) (b : Nat) (hb : b ≤ 5) (d : Nat) : ∀ (k i r : Nat), b - i = d → i ≤ b → r ≤ 65536 → d + 10 < k → cost_Pass.l1 k (u : Int) (r : Int) (b : Int) (i : Int) = some (rN d u r : Int) := by
 induction d with
 | zero =>
  intro k i r hd hi hr hk
  obtain ⟨k, rfl⟩ : ∃ m, k = m + 1 := ⟨k - 1, by omega⟩
  simp only [cost_Pass.l1]
  rw [if_neg (by omega)]
  rfl
 | succ d ih =>
  intro k i r hd hi hr hk
  obtain ⟨k, rfl⟩ : ∃ m, k = m + 1 := ⟨k - 1, by omega⟩
  have e1 : wrap64 ((i : Int) + 1) = ((i + 1 : Nat) : Int) := by rw [w64 (by omega) (by omega)]; omega
  have e2 : wrap64 (65536 - (u : Int)) = ((65536 - u : Nat) : Int) := by rw [w64 (by omega) (by omega)]; omega
  obtain ⟨s1, s2⟩ := r_step r u hr hu
  simp only [cost_Pass.l1]
  rw [if_pos (by omega), e2, part16_is _ _ k (by omega), bs, e1, cutN_of r (by omega), cutN_of _ (by omega), s1]
  exact ih k (i + 1) _ (by omega) (by omega) s2 (by omega)
theorem pass_l0 (b : Nat) (hb : b ≤ 5) (c : Nat) (hc : c ≤ 1000) (d : Nat) : ∀ (k i u : Nat), c - i = d → i ≤ c → u ≤ 65536 → d + 20 < k → cost_Pass.l0 k (b : Int) (u : Int) 65536 (c : Int) (i : Int) = some (rN b (uN d u) 65536 : Int) := by
 induction d with
 | zero =>
  intro k i u hd hi hu hk
  obtain ⟨k, rfl⟩ : ∃ m, k = m + 1 := ⟨k - 1, by omega⟩
  simp only [cost_Pass.l0]
  rw [if_neg (by omega)]
  exact pass_l1 u hu b hb b k 0 65536 (by omega) (by omega) (by decide) (by omega)
 | succ d ih =>
  intro k i u hd hi hu hk
  obtain ⟨k, rfl⟩ : ∃ m, k = m + 1 := ⟨k - 1, by omega⟩
  have e1 : wrap64 ((i : Int) + 1) = ((i + 1 : Nat) : Int) := by rw [w64 (by omega) (by omega)]; omega
  have e63 : cutN 63 = 63 := cutN_of 63 (by decide)
  have hp : sat_Part.f k (u : Int) 63 64 = some (partN (cutN (u : Int)) (cutN 63) 64 : Int) := part_small (u : Int) 63 64 (by decide) (by decide) (by rw [cutN_of u (by omega), e63]; omega) k
  simp only [cost_Pass.l0]
  rw [if_pos (by omega), hp, bs, e1, cutN_of u (by omega), e63]
  have e : partN u 63 64 = (u * 63 + 63) / 64 := rfl
  rw [e]
  exact ih k (i + 1) _ (by omega) (by omega) (by omega) (by omega)
theorem pass_is (w b keys : Int) (k : Nat) (hk : 1100 < k) : cost_Pass.f k w b keys = some (passN w b keys : Int) := by
 obtain ⟨w0, w1⟩ := cl_range w 4096 (by decide)
 obtain ⟨b0, b1⟩ := cl_range b 5 (by decide)
 have ew : mx 1 (mn w 4096) = (cl w 4096 : Int) := cl_mx w 4096 (by decide)
 have eb : mx 1 (mn b 5) = (cl b 5 : Int) := cl_mx b 5 (by decide)
 have ht : timesN (cl b 5) (cutN keys) ≤ 4611686018427387904 := by unfold timesN; omega
 unfold cost_Pass.f passN
 rw [ew, eb, mul2_is _ _ k (by omega), bs, cutN_of (cl b 5) (by omega), div_is _ _ ht w0 (by omega), bs]
 have ec : mn (upN (timesN (cl b 5) (cutN keys)) (cl w 4096) : Int) 1000 = (cntN (cl w 4096) (cl b 5) keys : Int) := by
  unfold mn cntN
  split <;> omega
 rw [ec]
 exact pass_l0 (cl b 5) b1 (cntN (cl w 4096) (cl b 5) keys) (by unfold cntN; omega) _ k 0 65536 rfl (by omega) (by decide) (by unfold cntN; omega)
def gainN (rows pass : Int) : Nat := cutN rows - partN (cutN rows) (cutN pass) 65536
theorem partN_le (n m d : Nat) (hd : 0 < d) : partN n m d ≤ n := by
 unfold partN
 split
 ·exact Nat.le_refl _
 ·rename_i h
  have h2 : n * m ≤ d * n := by rw [Nat.mul_comm d n]; exact Nat.mul_le_mul_left n (by omega)
  have h3 : (n * m + (d - 1)) / d ≤ (d * n + (d - 1)) / d := Nat.div_le_div_right (by omega)
  rw [Nat.mul_add_div hd, Nat.div_eq_of_lt (show d - 1 < d by omega)] at h3
  exact h3
theorem gain_is (a b : Int) (k : Nat) (hk : 10 ≤ k) : cost_Gain.f k a b = some (gainN a b : Int) := by
 have h1 := cutN_le a
 have h2 := partN_le (cutN a) (cutN b) 65536 (by decide)
 unfold cost_Gain.f gainN
 rw [cut_is, bs, part16_is a b k hk, bs, w64 (by omega) (by omega)]
 congr 1
 omega
theorem live29 (k : Nat) (hk : 1100 < k) : w29_live.f k = some true := by
 have p0 : passN 1 1 0 = 0 := by decide +kernel
 have p1 : passN 1 1 1 = 1024 := by decide +kernel
 have g0 : gainN 100 32768 = 50 := by decide +kernel
 unfold w29_live.f
 rw [pass_is 1 1 0 k hk, bs, p0, if_pos (show ((0 : Nat) : Int) = 0 from rfl), pass_is 1 1 1 k hk, bs, p1, if_pos (show ((1024 : Nat) : Int) = 1024 from rfl), gain_is 100 32768 k (by omega), bs, g0]
 rfl
def Ev {α : Type} (f : Nat → Option α) (v : α) : Prop := ∃ K, ∀ k, K ≤ k → f k = some v
def pS (st : List S103) (x : S27) (k : Nat) : Option Nat := cost_Share.f k x.f0 x.f1 x.f2 x.f3 x.f4 x.f5.f0 x.f5.f1 x.f5.f2 x.f6 st
theorem bsome {α : Type} {o : Option α} : (o.bind fun t => some t) = o := by cases o <;> rfl
theorem rd27_mem (l : List S27) (i : Nat) (h : i < l.length) : rd_T27 l (i : Int) ∈ l := by
 unfold rd_T27
 rw [Int.toNat_natCast, List.getD_eq_getElem?_getD, List.getElem?_eq_getElem h]
 exact List.getElem_mem h
def Good (st : List S103) (x : S27) : Prop := ∃ v, v ≤ Flt.ONE ∧ Ev (pS st x) v ∧ Ev (fun k => r29_Share.F k x st) v
theorem half_good {st : List S103} {x : S27} (K : Nat) (h1 : ∀ k, K ≤ k → pS st x k = some 4602678819172646912) (h2 : ∀ k, K ≤ k → r29_Share.F k x st = some 4602678819172646912) : Good st x := ⟨_, by decide, ⟨K, h1⟩, ⟨K, h2⟩⟩
theorem beq_len (l : List S27) (n : Nat) : ((l.length : Int) == (n : Int)) = decide (l.length = n) := by
 by_cases h : l.length = n
 ·rw [decide_eq_true h, h]
  exact beq_self_eq_true _
 ·rw [decide_eq_false h]
  exact beq_eq_false_iff_ne.2 (by omega)
theorem test_is (st : List S103) (hs : AllShort st) (op : Int) (a b : S27) (h1 : 1 ≤ op) (h6 : op ≤ 6) (k : Nat) (hk : 310 ≤ k) :
  cost_test.f k op a.f0 a.f1 a.f2 a.f3 a.f4 a.f5.f0 a.f5.f1 a.f5.f2 a.f6 b.f0 b.f1 b.f2 b.f3 b.f4 b.f5.f0 b.f5.f1 b.f5.f2 b.f6 st = some (
   if a.f0 = 15 ∧ b.f0 = 16 ∧ b.f5.f0 = 1 then agF st a.f3 a.f4 op b.f5.f1
   else if b.f0 = 15 ∧ a.f0 = 16 ∧ a.f5.f0 = 1 then agF st b.f3 b.f4 (rd [0, 1, 2, 5, 6, 3, 4] op) a.f5.f1
   else if a.f0 = 15 ∧ b.f0 = 15 ∧ op = 1 then eqF st a.f3 a.f4 b.f3 b.f4 else 4602678819172646912) := by
 obtain ⟨k, rfl⟩ : ∃ m, k = m + 2 := ⟨k - 2, by omega⟩
 have hn : ∀ e : S27, cost_test_1.f e.f0 e.f1 e.f2 e.f3 e.f4 e.f5.f0 e.f5.f1 e.f5.f2 e.f6 = some (decide (e.f0 = 16 ∧ e.f5.f0 = 1)) := by
  intro e
  unfold cost_test_1.f
  by_cases h : e.f0 = 16
  ·rw [if_pos h]
   by_cases g : e.f5.f0 = 1
   ·rw [decide_eq_true ⟨h, g⟩, beq_iff_eq.2 g]
   ·rw [decide_eq_false (fun q => g q.2), beq_eq_false_iff_ne.2 g]
  ·rw [if_neg h, decide_eq_false (fun q => h q.1)]
 have ht : cost_turned.f op = some (rd [0, 1, 2, 5, 6, 3, 4] op) := by
  have ho : op = 1 ∨ op = 2 ∨ op = 3 ∨ op = 4 ∨ op = 5 ∨ op = 6 := by omega
  rcases ho with h | h | h | h | h | h <;> subst h <;> decide
 have hB : ∀ K, 305 ≤ K → cost_test.j1 K op st (decide (b.f0 = 15 ∧ a.f0 = 16 ∧ a.f5.f0 = 1)) a.f0 a.f1 a.f2 a.f3 a.f4 a.f5.f0 a.f5.f1 a.f5.f2 a.f6 b.f0 b.f1 b.f2 b.f3 b.f4 b.f5.f0 b.f5.f1 b.f5.f2 b.f6 = some (
   if b.f0 = 15 ∧ a.f0 = 16 ∧ a.f5.f0 = 1 then agF st b.f3 b.f4 (rd [0, 1, 2, 5, 6, 3, 4] op) a.f5.f1
   else if a.f0 = 15 ∧ b.f0 = 15 ∧ op = 1 then eqF st a.f3 a.f4 b.f3 b.f4 else 4602678819172646912) := by
  intro K hK
  obtain ⟨K, rfl⟩ : ∃ m, K = m + 1 := ⟨K - 1, by omega⟩
  rw [cost_test.j1]
  by_cases c : b.f0 = 15 ∧ a.f0 = 16 ∧ a.f5.f0 = 1
  ·rw [if_pos (decide_eq_true c), if_pos c, ht, bs, pagainst_is st hs _ _ _ _ _ _ _ _ _ _ _ K (by omega), bs]
  ·rw [if_neg (show ¬ decide _ = true by rw [decide_eq_false c]; decide), if_neg c]
   by_cases o : op = 1
   ·rw [if_pos o]
    by_cases p : a.f0 = 15
    ·rw [if_pos p]
     by_cases q : b.f0 = 15
     ·rw [if_pos q, if_pos ⟨p, q, o⟩, psame_is st hs _ _ _ _ K (by omega), bs]
     ·rw [if_neg q, if_neg (fun z => q z.2.1)]
    ·rw [if_neg p, if_neg (fun z => p z.1)]
   ·rw [if_neg o, if_neg (fun z => o z.2.2)]
 have hA : ∀ K, 306 ≤ K → cost_test.j0 K op st (decide (a.f0 = 15 ∧ b.f0 = 16 ∧ b.f5.f0 = 1)) a.f0 a.f1 a.f2 a.f3 a.f4 a.f5.f0 a.f5.f1 a.f5.f2 a.f6 b.f0 b.f1 b.f2 b.f3 b.f4 b.f5.f0 b.f5.f1 b.f5.f2 b.f6 = some (
   if a.f0 = 15 ∧ b.f0 = 16 ∧ b.f5.f0 = 1 then agF st a.f3 a.f4 op b.f5.f1
   else if b.f0 = 15 ∧ a.f0 = 16 ∧ a.f5.f0 = 1 then agF st b.f3 b.f4 (rd [0, 1, 2, 5, 6, 3, 4] op) a.f5.f1
   else if a.f0 = 15 ∧ b.f0 = 15 ∧ op = 1 then eqF st a.f3 a.f4 b.f3 b.f4 else 4602678819172646912) := by
  intro K hK
  obtain ⟨K, rfl⟩ : ∃ m, K = m + 1 := ⟨K - 1, by omega⟩
  rw [cost_test.j0]
  by_cases c : a.f0 = 15 ∧ b.f0 = 16 ∧ b.f5.f0 = 1
  ·rw [if_pos (decide_eq_true c), if_pos c, pagainst_is st hs _ _ _ _ _ _ _ _ _ _ _ K (by omega), bs]
  ·rw [if_neg (show ¬ decide _ = true by rw [decide_eq_false c]; decide), if_neg c]
   have := hB K (by omega)
   by_cases q : b.f0 = 15
   ·rw [if_pos q, hn, bs]
    rw [show (decide (a.f0 = 16 ∧ a.f5.f0 = 1)) = decide (b.f0 = 15 ∧ a.f0 = 16 ∧ a.f5.f0 = 1) from decide_eq_decide.2 ⟨fun z => ⟨q, z⟩, fun z => z.2⟩]
    exact this
   ·rw [if_neg q]
    rw [decide_eq_false (fun z => q z.1)] at this
    exact this
 unfold cost_test.f
 have := hA (k + 2) (by omega)
 by_cases p : a.f0 = 15
 ·rw [if_pos p, hn, bs]
  rw [show (decide (b.f0 = 16 ∧ b.f5.f0 = 1)) = decide (a.f0 = 15 ∧ b.f0 = 16 ∧ b.f5.f0 = 1) from decide_eq_decide.2 ⟨fun z => ⟨p, z⟩, fun z => z.2⟩]
  exact this
 ·rw [if_neg p]
  rw [decide_eq_false (fun z => p z.1)] at this
  exact this
theorem good (st : List S103) (hs : AllShort st) (x : S27) (h : Wf27 x) : Good st x := by
 induction h with
 | mk x _ _ _ _ _ _ _ _ ih =>
  have hc : ∀ i : Nat, i < x.f6.length → Good st (rd_T27 x.f6 (i : Int)) := fun i hi => ih _ (rd27_mem x.f6 i hi)
  clear ih
  have b1 : ((x.f6.length : Int) == 1) = decide (x.f6.length = 1) := beq_len x.f6 1
  have b2 : ((x.f6.length : Int) == 2) = decide (x.f6.length = 2) := beq_len x.f6 2
  have unf : ∀ k, pS st x k = cost_Share.f k x.f0 x.f1 x.f2 x.f3 x.f4 x.f5.f0 x.f5.f1 x.f5.f2 x.f6 st := fun _ => rfl
  by_cases l2 : x.f6.length = 2
  ·rw [decide_eq_true l2] at b2
   rw [decide_eq_false (show ¬ x.f6.length = 1 by omega)] at b1
   have t0 : (0 : Int) < (x.f6.length : Int) := by omega
   have t1 : (1 : Int) < (x.f6.length : Int) := by omega
   have t2 : (x.f6.length : Int) = 2 := by omega
   have t3 : ¬ (x.f6.length : Int) = 1 := by omega
   have n1 : ¬ (x.f6.length = 1 ∧ (x.f0 = 13 ∨ x.f0 = 14) ∧ (rd_T27 x.f6 0).f0 = 15) := fun z => by have := z.1; omega
   have n2 : ¬ (x.f0 = 12 ∧ x.f6.length = 1) := fun z => by have := z.2; omega
   obtain ⟨va, la, ⟨Ka, ha⟩, ⟨Ra, ra⟩⟩ := hc 0 (by omega)
   obtain ⟨vb, lb, ⟨Kb, hb⟩, ⟨Rb, rb⟩⟩ := hc 1 (by omega)
   have e0 : ((0 : Nat) : Int) = 0 := rfl
   have e1 : ((1 : Nat) : Int) = 1 := rfl
   rw [e0] at ha ra
   rw [e1] at hb rb
   unfold pS at ha hb
   replace ra : ∀ k, Ra ≤ k → r29_Share.F k (rd_T27 x.f6 0) st = some va := ra
   replace rb : ∀ k, Rb ≤ k → r29_Share.F k (rd_T27 x.f6 1) st = some vb := rb
   by_cases o10 : x.f0 = 10
   ·refine ⟨andF [va, vb], andF_le _, ⟨Ka + Kb + 10, fun k hk => ?_⟩, ⟨Ra + Rb + 10, fun k hk => ?_⟩⟩
    ·obtain ⟨k, rfl⟩ : ∃ m, k = m + 2 := ⟨k - 2, by omega⟩
     rw [unf, cost_Share.f, if_pos o10, b2, cost_Share.j0, if_pos rfl, if_pos t0, ha k (by omega), bs, if_pos t1, hb k (by omega), bs, pand_is la lb, bs]
    ·obtain ⟨k, rfl⟩ : ∃ m, k = m + 1 := ⟨k - 1, by omega⟩
     show r29_Share.F (k + 1) x st = _
     rw [r29_Share.F, if_pos ⟨o10, l2⟩, ra k (by omega), bs, rb k (by omega), bs, rand_is la lb]
   ·by_cases o11 : x.f0 = 11
    ·refine ⟨orF va vb, orF_le _ _, ⟨Ka + Kb + 10, fun k hk => ?_⟩, ⟨Ra + Rb + 10, fun k hk => ?_⟩⟩
     ·obtain ⟨k, rfl⟩ : ∃ m, k = m + 3 := ⟨k - 3, by omega⟩
      rw [unf, cost_Share.f, if_neg o10, cost_Share.j0, if_neg (by decide), if_pos o11, b2, cost_Share.j1, if_pos rfl, if_pos t0, ha k (by omega), bs, if_pos t1, hb k (by omega), bs, por_is la lb, bs]
     ·obtain ⟨k, rfl⟩ : ∃ m, k = m + 1 := ⟨k - 1, by omega⟩
      show r29_Share.F (k + 1) x st = _
      rw [r29_Share.F, if_neg (fun z => o10 z.1), if_pos ⟨o11, l2⟩, ra k (by omega), bs, rb k (by omega), bs, ror_is la lb]
    ·-- the tests
     have hp : ∀ k, 320 ≤ k → pS st x k = if 1 ≤ x.f0 ∧ x.f0 ≤ 6 then cost_test.f (k - 6) x.f0 ((rd_T27 x.f6 0).f0) ((rd_T27 x.f6 0).f1) ((rd_T27 x.f6 0).f2) ((rd_T27 x.f6 0).f3) ((rd_T27 x.f6 0).f4) ((rd_T27 x.f6 0).f5.f0) ((rd_T27 x.f6 0).f5.f1) ((rd_T27 x.f6 0).f5.f2) ((rd_T27 x.f6 0).f6) ((rd_T27 x.f6 1).f0) ((rd_T27 x.f6 1).f1) ((rd_T27 x.f6 1).f2) ((rd_T27 x.f6 1).f3) ((rd_T27 x.f6 1).f4) ((rd_T27 x.f6 1).f5.f0) ((rd_T27 x.f6 1).f5.f1) ((rd_T27 x.f6 1).f5.f2) ((rd_T27 x.f6 1).f6) st else some 4602678819172646912 := by
      intro k hk
      obtain ⟨k, rfl⟩ : ∃ m, k = m + 6 := ⟨k - 6, by omega⟩
      have hj4 : cost_Share.j4 (k + 1) st false x.f0 x.f1 x.f2 x.f3 x.f4 x.f5.f0 x.f5.f1 x.f5.f2 x.f6 = if 1 ≤ x.f0 ∧ x.f0 ≤ 6 then cost_test.f k x.f0 ((rd_T27 x.f6 0).f0) ((rd_T27 x.f6 0).f1) ((rd_T27 x.f6 0).f2) ((rd_T27 x.f6 0).f3) ((rd_T27 x.f6 0).f4) ((rd_T27 x.f6 0).f5.f0) ((rd_T27 x.f6 0).f5.f1) ((rd_T27 x.f6 0).f5.f2) ((rd_T27 x.f6 0).f6) ((rd_T27 x.f6 1).f0) ((rd_T27 x.f6 1).f1) ((rd_T27 x.f6 1).f2) ((rd_T27 x.f6 1).f3) ((rd_T27 x.f6 1).f4) ((rd_T27 x.f6 1).f5.f0) ((rd_T27 x.f6 1).f5.f1) ((rd_T27 x.f6 1).f5.f2) ((rd_T27 x.f6 1).f6) st else some 4602678819172646912 := by
       rw [cost_Share.j4, if_neg (by decide)]
       by_cases g1 : 1 ≤ x.f0
       ·rw [if_pos (show x.f0 ≥ 1 from g1)]
        by_cases g6 : x.f0 ≤ 6
        ·rw [if_pos g6, if_pos t2, if_pos t0, if_pos t1, if_pos ⟨g1, g6⟩]
         exact bsome
        ·rw [if_neg g6, if_neg (fun z => g6 z.2)]
       ·rw [if_neg (show ¬ x.f0 ≥ 1 from g1), if_neg (fun z => g1 z.1)]
      have hj3 : cost_Share.j3 (k + 2) st false x.f0 x.f1 x.f2 x.f3 x.f4 x.f5.f0 x.f5.f1 x.f5.f2 x.f6 = cost_Share.j4 (k + 1) st false x.f0 x.f1 x.f2 x.f3 x.f4 x.f5.f0 x.f5.f1 x.f5.f2 x.f6 := by
       rw [cost_Share.j3, if_neg (by decide)]
       by_cases g : x.f0 = 14
       ·rw [if_pos g, if_neg t3]
       ·rw [if_neg g]
      have hj2 : cost_Share.j2 (k + 3) st false x.f0 x.f1 x.f2 x.f3 x.f4 x.f5.f0 x.f5.f1 x.f5.f2 x.f6 = cost_Share.j3 (k + 2) st false x.f0 x.f1 x.f2 x.f3 x.f4 x.f5.f0 x.f5.f1 x.f5.f2 x.f6 := by
       rw [cost_Share.j2, if_neg (by decide)]
       by_cases g : x.f0 = 13
       ·rw [if_pos g, if_neg t3]
       ·rw [if_neg g]
      rw [unf, cost_Share.f, if_neg o10, cost_Share.j0, if_neg (by decide), if_neg o11, cost_Share.j1, if_neg (by decide), b1]
      rw [show (if x.f0 = 12 then cost_Share.j2 (k + 3) st false x.f0 x.f1 x.f2 x.f3 x.f4 x.f5.f0 x.f5.f1 x.f5.f2 x.f6 else cost_Share.j2 (k + 3) st false x.f0 x.f1 x.f2 x.f3 x.f4 x.f5.f0 x.f5.f1 x.f5.f2 x.f6) = cost_Share.j2 (k + 3) st false x.f0 x.f1 x.f2 x.f3 x.f4 x.f5.f0 x.f5.f1 x.f5.f2 x.f6 from ite_self _, hj2, hj3, hj4]
      rfl
     have hr : ∀ k, r29_Share.F (k + 1) x st = (if x.f0 < 1 ∨ 6 < x.f0 then some 4602678819172646912
       else if (rd_T27 x.f6 0).f0 = 15 ∧ (rd_T27 x.f6 1).f0 = 16 ∧ (rd_T27 x.f6 1).f5.f0 = 1 then r29_against.f k st (rd_T27 x.f6 0).f3 (rd_T27 x.f6 0).f4 x.f0 (rd_T27 x.f6 1).f5.f1
       else if (rd_T27 x.f6 1).f0 = 15 ∧ (rd_T27 x.f6 0).f0 = 16 ∧ (rd_T27 x.f6 0).f5.f0 = 1 then r29_against.f k st (rd_T27 x.f6 1).f3 (rd_T27 x.f6 1).f4 (rd [0, 1, 2, 5, 6, 3, 4] x.f0) (rd_T27 x.f6 0).f5.f1
       else if (rd_T27 x.f6 0).f0 = 15 ∧ (rd_T27 x.f6 1).f0 = 15 ∧ x.f0 = 1 then r29_equal.f k st (rd_T27 x.f6 0).f3 (rd_T27 x.f6 0).f4 (rd_T27 x.f6 1).f3 (rd_T27 x.f6 1).f4
       else some 4602678819172646912) := by
      intro k
      rw [r29_Share.F, if_neg (fun z => o10 z.1), if_neg (fun z => o11 z.1), if_neg n2, if_neg n1]
      by_cases g : x.f0 < 1 ∨ 6 < x.f0
      ·rw [if_pos g, if_pos (Or.inr g)]
      ·rw [if_neg g, if_neg (fun z => z.elim (fun q => q l2) g)]
     by_cases g : 1 ≤ x.f0 ∧ x.f0 ≤ 6
     ·have q1 : ¬ (x.f0 < 1 ∨ 6 < x.f0) := by omega
      generalize hA : rd_T27 x.f6 0 = A at *
      generalize hB : rd_T27 x.f6 1 = B at *
      have hT := fun k hk => (hp k hk).trans ((if_pos g).trans (test_is st hs x.f0 A B g.1 g.2 (k - 6) (by omega)))
      have hrd : 1 ≤ rd [0, 1, 2, 5, 6, 3, 4] x.f0 ∧ rd [0, 1, 2, 5, 6, 3, 4] x.f0 ≤ 6 := by
       have ho : x.f0 = 1 ∨ x.f0 = 2 ∨ x.f0 = 3 ∨ x.f0 = 4 ∨ x.f0 = 5 ∨ x.f0 = 6 := by omega
       rcases ho with h | h | h | h | h | h <;> rw [h] <;> decide
      refine ⟨_, ?_, ⟨320, hT⟩, ⟨320, fun k hk => ?_⟩⟩
      ·(repeat' split) <;> first | exact andF_le _ | exact Flt.ofF_le _ _ | decide
      ·obtain ⟨k, rfl⟩ : ∃ m, k = m + 1 := ⟨k - 1, by omega⟩
       show r29_Share.F (k + 1) x st = _
       rw [hr, if_neg q1]
       by_cases c1 : A.f0 = 15 ∧ B.f0 = 16 ∧ B.f5.f0 = 1
       ·rw [if_pos c1, if_pos c1, ragainst_is st _ _ _ _ g.1 g.2 k (by omega)]
       ·rw [if_neg c1, if_neg c1]
        by_cases c2 : B.f0 = 15 ∧ A.f0 = 16 ∧ A.f5.f0 = 1
        ·rw [if_pos c2, if_pos c2, ragainst_is st _ _ _ _ hrd.1 hrd.2 k (by omega)]
        ·rw [if_neg c2, if_neg c2]
         by_cases c3 : A.f0 = 15 ∧ B.f0 = 15 ∧ x.f0 = 1
         ·rw [if_pos c3, if_pos c3, requal_is st _ _ _ _ k (by omega)]
         ·rw [if_neg c3, if_neg c3]
     ·refine half_good 320 (fun k hk => (hp k hk).trans (if_neg g)) (fun k hk => ?_)
      obtain ⟨k, rfl⟩ : ∃ m, k = m + 1 := ⟨k - 1, by omega⟩
      rw [hr, if_pos (by omega)]
  ·rw [decide_eq_false l2] at b2
   have t2 : ¬ (x.f6.length : Int) = 2 := by omega
   have m1 : ¬ (x.f0 = 10 ∧ x.f6.length = 2) := fun z => l2 z.2
   have m2 : ¬ (x.f0 = 11 ∧ x.f6.length = 2) := fun z => l2 z.2
   have m3 : x.f6.length ≠ 2 ∨ x.f0 < 1 ∨ 6 < x.f0 := Or.inl l2
   have hj4 : ∀ k, cost_Share.j4 (k + 1) st false x.f0 x.f1 x.f2 x.f3 x.f4 x.f5.f0 x.f5.f1 x.f5.f2 x.f6 = some 4602678819172646912 := by
    intro k
    rw [cost_Share.j4, if_neg (by decide)]
    by_cases g1 : x.f0 ≥ 1
    ·rw [if_pos g1]
     by_cases g6 : x.f0 ≤ 6
     ·rw [if_pos g6, if_neg t2]
     ·rw [if_neg g6]
    ·rw [if_neg g1]
   have hj1 : ∀ k, pS st x (k + 3) = cost_Share.j1 (k + 1) st false x.f0 x.f1 x.f2 x.f3 x.f4 x.f5.f0 x.f5.f1 x.f5.f2 x.f6 := by
    intro k
    rw [unf, cost_Share.f, b2, show (if x.f0 = 10 then cost_Share.j0 (k + 2) st false x.f0 x.f1 x.f2 x.f3 x.f4 x.f5.f0 x.f5.f1 x.f5.f2 x.f6 else cost_Share.j0 (k + 2) st false x.f0 x.f1 x.f2 x.f3 x.f4 x.f5.f0 x.f5.f1 x.f5.f2 x.f6) = cost_Share.j0 (k + 2) st false x.f0 x.f1 x.f2 x.f3 x.f4 x.f5.f0 x.f5.f1 x.f5.f2 x.f6 from ite_self _, cost_Share.j0, if_neg (by decide), b2]
    exact ite_self _
   by_cases l1 : x.f6.length = 1
   ·rw [decide_eq_true l1] at b1
    have t0 : (0 : Int) < (x.f6.length : Int) := by omega
    have t1 : (x.f6.length : Int) = 1 := by omega
    obtain ⟨va, la, ⟨Ka, ha⟩, ⟨Ra, ra⟩⟩ := hc 0 (by omega)
    have e0 : ((0 : Nat) : Int) = 0 := rfl
    rw [e0] at ha ra
    unfold pS at ha
    replace ra : ∀ k, Ra ≤ k → r29_Share.F k (rd_T27 x.f6 0) st = some va := ra
    by_cases o12 : x.f0 = 12
    ·refine ⟨notF va, notF_le _, ⟨Ka + 10, fun k hk => ?_⟩, ⟨Ra + 10, fun k hk => ?_⟩⟩
     ·obtain ⟨k, rfl⟩ : ∃ m, k = m + 4 := ⟨k - 4, by omega⟩
      rw [hj1 (k + 1), cost_Share.j1, if_neg (by decide), if_pos o12, b1, cost_Share.j2, if_pos rfl, if_pos t0, ha k (by omega), bs, pnot_is la, bs]
     ·obtain ⟨k, rfl⟩ : ∃ m, k = m + 1 := ⟨k - 1, by omega⟩
      show r29_Share.F (k + 1) x st = _
      rw [r29_Share.F, if_neg m1, if_neg m2, if_pos ⟨o12, l1⟩, ra k (by omega), bs, rnot_is la]
    ·have m4 : ¬ (x.f0 = 12 ∧ x.f6.length = 1) := fun z => o12 z.1
     have hj2 : ∀ k, pS st x (k + 4) = cost_Share.j2 (k + 1) st false x.f0 x.f1 x.f2 x.f3 x.f4 x.f5.f0 x.f5.f1 x.f5.f2 x.f6 := by
      intro k
      rw [hj1 (k + 1), cost_Share.j1, if_neg (by decide), if_neg o12]
     have lv : nuF st (rd_T27 x.f6 0).f3 (rd_T27 x.f6 0).f4 ≤ Flt.ONE := Flt.ofF_le _ _
     obtain ⟨_, q1, q1', _, _⟩ := colAt_ok st (rd_T27 x.f6 0).f3 (rd_T27 x.f6 0).f4
     have hrows := rows_range st (rd_T27 x.f6 0).f3
     by_cases o13 : x.f0 = 13
     ·by_cases g : (rd_T27 x.f6 0).f0 = 15
      ·refine ⟨_, lv, ⟨400, fun k hk => ?_⟩, ⟨400, fun k hk => ?_⟩⟩
       ·obtain ⟨k, rfl⟩ : ∃ m, k = m + 5 := ⟨k - 5, by omega⟩
        rw [hj2 (k + 1), cost_Share.j2, if_neg (by decide), if_pos o13, if_pos t1, if_pos t0, beq_iff_eq.2 g, cost_Share.j3, if_pos rfl, if_pos t0, pnulls_is st hs _ _ _ _ _ _ _ _ _ k (by omega), bs]
       ·obtain ⟨k, rfl⟩ : ∃ m, k = m + 1 := ⟨k - 1, by omega⟩
        show r29_Share.F (k + 1) x st = _
        rw [r29_Share.F, if_neg m1, if_neg m2, if_neg m4, if_pos ⟨l1, Or.inl o13, g⟩, rcol_is st _ _ k (by omega), bs, said_is st _ k (by omega), bs]
        show ((r28_Of.f (colAt st (rd_T27 x.f6 0).f3 (rd_T27 x.f6 0).f4).f1 (rowsOf st (rd_T27 x.f6 0).f3)).bind _) = _
        rw [rof_is (by omega) hrows, bs, if_neg (by omega)]
        rfl
      ·refine half_good 10 (fun k hk => ?_) (fun k hk => ?_)
       ·obtain ⟨k, rfl⟩ : ∃ m, k = m + 6 := ⟨k - 6, by omega⟩
        rw [hj2 (k + 2), cost_Share.j2, if_neg (by decide), if_pos o13, if_pos t1, if_pos t0, beq_eq_false_iff_ne.2 g, cost_Share.j3, if_neg (by decide), if_neg (by omega), hj4]
       ·obtain ⟨k, rfl⟩ : ∃ m, k = m + 1 := ⟨k - 1, by omega⟩
        rw [r29_Share.F, if_neg m1, if_neg m2, if_neg m4, if_neg (fun z => g z.2.2), if_pos m3]
     ·have hj3 : ∀ k, pS st x (k + 5) = cost_Share.j3 (k + 1) st false x.f0 x.f1 x.f2 x.f3 x.f4 x.f5.f0 x.f5.f1 x.f5.f2 x.f6 := by
       intro k
       rw [hj2 (k + 1), cost_Share.j2, if_neg (by decide), if_neg o13]
      by_cases o14 : x.f0 = 14
      ·by_cases g : (rd_T27 x.f6 0).f0 = 15
       ·refine ⟨_, notF_le (nuF st (rd_T27 x.f6 0).f3 (rd_T27 x.f6 0).f4), ⟨400, fun k hk => ?_⟩, ⟨400, fun k hk => ?_⟩⟩
        ·obtain ⟨k, rfl⟩ : ∃ m, k = m + 6 := ⟨k - 6, by omega⟩
         rw [hj3 (k + 1), cost_Share.j3, if_neg (by decide), if_pos o14, if_pos t1, if_pos t0, beq_iff_eq.2 g, cost_Share.j4, if_pos rfl, if_pos t0, pnulls_is st hs _ _ _ _ _ _ _ _ _ k (by omega), bs, pnot_is lv, bs]
        ·obtain ⟨k, rfl⟩ : ∃ m, k = m + 1 := ⟨k - 1, by omega⟩
         show r29_Share.F (k + 1) x st = _
         rw [r29_Share.F, if_neg m1, if_neg m2, if_neg m4, if_pos ⟨l1, Or.inr o14, g⟩, rcol_is st _ _ k (by omega), bs, said_is st _ k (by omega), bs]
         show ((r28_Of.f (colAt st (rd_T27 x.f6 0).f3 (rd_T27 x.f6 0).f4).f1 (rowsOf st (rd_T27 x.f6 0).f3)).bind _) = _
         rw [rof_is (by omega) hrows, bs, if_pos o14]
         exact rnot_is lv
       ·refine half_good 10 (fun k hk => ?_) (fun k hk => ?_)
        ·obtain ⟨k, rfl⟩ : ∃ m, k = m + 6 := ⟨k - 6, by omega⟩
         rw [hj3 (k + 1), cost_Share.j3, if_neg (by decide), if_pos o14, if_pos t1, if_pos t0, beq_eq_false_iff_ne.2 g, hj4]
        ·obtain ⟨k, rfl⟩ : ∃ m, k = m + 1 := ⟨k - 1, by omega⟩
         rw [r29_Share.F, if_neg m1, if_neg m2, if_neg m4, if_neg (fun z => g z.2.2), if_pos m3]
      ·refine half_good 10 (fun k hk => ?_) (fun k hk => ?_)
       ·obtain ⟨k, rfl⟩ : ∃ m, k = m + 6 := ⟨k - 6, by omega⟩
        rw [hj3 (k + 1), cost_Share.j3, if_neg (by decide), if_neg o14, hj4]
       ·obtain ⟨k, rfl⟩ : ∃ m, k = m + 1 := ⟨k - 1, by omega⟩
        rw [r29_Share.F, if_neg m1, if_neg m2, if_neg m4, if_neg (fun z => z.2.1.elim o13 o14), if_pos m3]
   ·rw [decide_eq_false l1] at b1
    have t1 : ¬ (x.f6.length : Int) = 1 := by omega
    refine half_good 10 (fun k hk => ?_) (fun k hk => ?_)
    ·obtain ⟨k, rfl⟩ : ∃ m, k = m + 6 := ⟨k - 6, by omega⟩
     have s3 : cost_Share.j3 (k + 2) st false x.f0 x.f1 x.f2 x.f3 x.f4 x.f5.f0 x.f5.f1 x.f5.f2 x.f6 = some 4602678819172646912 := by
      rw [cost_Share.j3, if_neg (by decide)]
      by_cases g : x.f0 = 14
      ·rw [if_pos g, if_neg t1, hj4]
      ·rw [if_neg g, hj4]
     have s2 : cost_Share.j2 (k + 3) st false x.f0 x.f1 x.f2 x.f3 x.f4 x.f5.f0 x.f5.f1 x.f5.f2 x.f6 = some 4602678819172646912 := by
      rw [cost_Share.j2, if_neg (by decide)]
      by_cases g : x.f0 = 13
      ·rw [if_pos g, if_neg t1, s3]
      ·rw [if_neg g, s3]
     rw [hj1 (k + 3), cost_Share.j1, if_neg (by decide), b1]
     by_cases g : x.f0 = 12
     ·rw [if_pos g, s2]
     ·rw [if_neg g, s2]
    ·obtain ⟨k, rfl⟩ : ∃ m, k = m + 1 := ⟨k - 1, by omega⟩
     rw [r29_Share.F, if_neg m1, if_neg m2, if_neg (fun z => l1 z.2), if_neg (fun z => l1 z.1), if_pos m3]
theorem count_ends (x : S27) (h : Wf27 x) : ∀ a : Int, ∃ r, Ev (fun k => r08_count.f k x.f0 x.f1 x.f2 x.f3 x.f4 x.f5.f0 x.f5.f1 x.f5.f2 x.f6 a) r := by
 induction h with
 | mk x _ _ _ _ _ _ hl _ ih =>
  have loop : ∀ d i : Nat, x.f6.length - i = d → i ≤ x.f6.length → ∀ b a : Int, ∃ r K, ∀ k, K ≤ k → r08_count.l0 k a b (i : Int) x.f0 x.f1 x.f2 x.f3 x.f4 x.f5.f0 x.f5.f1 x.f5.f2 x.f6 = some r := by
   intro d
   induction d with
   | zero =>
    intro i hd hi b a
    refine ⟨b, 1, fun k hk => ?_⟩
    obtain ⟨k, rfl⟩ : ∃ m, k = m + 1 := ⟨k - 1, by omega⟩
    rw [r08_count.l0, if_neg (show ¬ (i : Int) < (x.f6.length : Int) by omega)]
   | succ d jh =>
    intro i hd hi b a
    have hil : i < x.f6.length := by omega
    by_cases c : b < a
    ·obtain ⟨r1, K1, h1⟩ := ih _ (rd27_mem x.f6 i hil) (wrap64 (a - b))
     obtain ⟨r2, K2, h2⟩ := jh (i + 1) (by omega) (by omega) (wrap64 (b + r1)) a
     refine ⟨r2, K1 + K2 + 1, fun k hk => ?_⟩
     obtain ⟨k, rfl⟩ : ∃ m, k = m + 1 := ⟨k - 1, by omega⟩
     have h1' := h1 k (by omega)
     simp only at h1'
     rw [r08_count.l0, if_pos (show (i : Int) < (x.f6.length : Int) by omega), if_pos c, if_pos (show (0 : Int) ≤ (i : Int) by omega), h1', bs, wsucc i (by omega), h2 k (by omega)]
    ·refine ⟨b, 1, fun k hk => ?_⟩
     obtain ⟨k, rfl⟩ : ∃ m, k = m + 1 := ⟨k - 1, by omega⟩
     rw [r08_count.l0, if_pos (show (i : Int) < (x.f6.length : Int) by omega), if_neg c]
  intro a
  by_cases c : (wrap64 ((wrap64 ((x.f1.size : Int) + (x.f2.size : Int))) + (x.f5.f2.size : Int))) > 200
  ·refine ⟨a, 1, fun k hk => ?_⟩
   obtain ⟨k, rfl⟩ : ∃ m, k = m + 1 := ⟨k - 1, by omega⟩
   simp only [r08_count.f]
   rw [if_pos c]
  ·obtain ⟨r, K, h⟩ := loop x.f6.length 0 (by omega) (by omega) 1 a
   refine ⟨r, K + 1, fun k hk => ?_⟩
   obtain ⟨k, rfl⟩ : ∃ m, k = m + 1 := ⟨k - 1, by omega⟩
   simp only [r08_count.f]
   rw [if_neg c]
   exact h k (by omega)
theorem much08_ends (x : S27) (h : Wf27 x) : ∃ b K, ∀ k, K ≤ k → r08_Much.f k x.f0 x.f1 x.f2 x.f3 x.f4 x.f5.f0 x.f5.f1 x.f5.f2 x.f6 = some b := by
 obtain ⟨r, K, hk⟩ := count_ends x h 400
 refine ⟨decide (r > 200), K, fun k h => ?_⟩
 have := hk k h
 simp only at this
 unfold r08_Much.f
 rw [this, bs]
theorem much27_ends (a : Int) (l : List S116) (hl : l.length < 17592186044416) : ∃ b K, ∀ k, K ≤ k → r27_Much.f k a l = some b := by
 have loop : ∀ d i : Nat, l.length - i = d → i ≤ l.length → ∃ b K, ∀ k, K ≤ k → r27_Much.l0 k (i : Int) a l = some b := by
  intro d
  induction d with
  | zero =>
   intro i hd hi
   refine ⟨decide ((l.length : Int) > 30), 2, fun k hk => ?_⟩
   obtain ⟨k, rfl⟩ : ∃ m, k = m + 2 := ⟨k - 2, by omega⟩
   rw [r27_Much.l0, if_neg (show ¬ (i : Int) < (l.length : Int) by omega), r27_Much.j1, if_neg (by decide)]
  | succ d jh =>
   intro i hd hi
   obtain ⟨b, K, h⟩ := jh (i + 1) (by omega) (by omega)
   have t1 : (i : Int) < (l.length : Int) := by omega
   have t0 : (0 : Int) ≤ (i : Int) := by omega
   by_cases c : (i : Int) < 40
   ·by_cases g : (((rd_T116 l (i : Int)).f2).length : Int) > 60
    ·refine ⟨true, 2, fun k hk => ?_⟩
     obtain ⟨k, rfl⟩ : ∃ m, k = m + 2 := ⟨k - 2, by omega⟩
     rw [r27_Much.l0, if_pos t1, decide_eq_true c, r27_Much.j1, if_pos rfl, if_pos t0, if_pos t1, if_pos g]
    ·refine ⟨b, K + 2, fun k hk => ?_⟩
     obtain ⟨k, rfl⟩ : ∃ m, k = m + 2 := ⟨k - 2, by omega⟩
     rw [r27_Much.l0, if_pos t1, decide_eq_true c, r27_Much.j1, if_pos rfl, if_pos t0, if_pos t1, if_neg g, wsucc i (by omega), h k (by omega)]
   ·refine ⟨decide ((l.length : Int) > 30), 2, fun k hk => ?_⟩
    obtain ⟨k, rfl⟩ : ∃ m, k = m + 2 := ⟨k - 2, by omega⟩
    rw [r27_Much.l0, if_pos t1, decide_eq_false c, r27_Much.j1, if_neg (by decide)]
 exact loop l.length 0 (by omega) (by omega)
theorem much29_ends (l : List S103) (hl : l.length < 17592186044416) (hs : ∀ s ∈ l, s.f1.length < 17592186044416) : ∃ b K, ∀ k, K ≤ k → r29_Much.f k l = some b := by
 have loop : ∀ d i : Nat, l.length - i = d → i ≤ l.length → ∃ b K, ∀ k, K ≤ k → r29_Much.l0 k l (i : Int) = some b := by
  intro d
  induction d with
  | zero =>
   intro i hd hi
   refine ⟨decide ((l.length : Int) > 16), 2, fun k hk => ?_⟩
   obtain ⟨k, rfl⟩ : ∃ m, k = m + 2 := ⟨k - 2, by omega⟩
   rw [r29_Much.l0, if_neg (show ¬ (i : Int) < (l.length : Int) by omega), r29_Much.j1, if_neg (by decide)]
  | succ d jh =>
   intro i hd hi
   obtain ⟨b, K, h⟩ := jh (i + 1) (by omega) (by omega)
   have t1 : (i : Int) < (l.length : Int) := by omega
   have t0 : (0 : Int) ≤ (i : Int) := by omega
   by_cases c : (i : Int) < 20
   ·have hm : rd_T103 l (i : Int) ∈ l := by
     unfold rd_T103
     rw [Int.toNat_natCast, List.getD_eq_getElem?_getD, List.getElem?_eq_getElem (show i < l.length by omega)]
     exact List.getElem_mem (show i < l.length by omega)
    obtain ⟨b1, K1, h1⟩ := much27_ends (rd_T103 l (i : Int)).f0 (rd_T103 l (i : Int)).f1 (hs _ hm)
    by_cases g : b1 = true
    ·refine ⟨true, K1 + 2, fun k hk => ?_⟩
     obtain ⟨k, rfl⟩ : ∃ m, k = m + 2 := ⟨k - 2, by omega⟩
     rw [r29_Much.l0, if_pos t1, decide_eq_true c, r29_Much.j1, if_pos rfl, if_pos t0, if_pos t1, h1 k (by omega), bs, if_pos g]
    ·refine ⟨b, K + K1 + 2, fun k hk => ?_⟩
     obtain ⟨k, rfl⟩ : ∃ m, k = m + 2 := ⟨k - 2, by omega⟩
     rw [r29_Much.l0, if_pos t1, decide_eq_true c, r29_Much.j1, if_pos rfl, if_pos t0, if_pos t1, h1 k (by omega), bs, if_neg g, wsucc i (by omega), h k (by omega)]
   ·refine ⟨decide ((l.length : Int) > 16), 2, fun k hk => ?_⟩
    obtain ⟨k, rfl⟩ : ∃ m, k = m + 2 := ⟨k - 2, by omega⟩
    rw [r29_Much.l0, if_pos t1, decide_eq_false c, r29_Much.j1, if_neg (by decide)]
 exact loop l.length 0 (by omega) (by omega)
theorem CostShares : w29_CostShares.Pure := by
 intro x st hx hst
 have hs : AllShort st := by
  intro s h c hc
  have := ((hst.2 s h).2.2 c hc).2.2.1
  omega
 have hn : ∀ s ∈ st, s.f1.length < 17592186044416 := by
  intro s h
  have := (hst.2 s h).2.1
  omega
 obtain ⟨v, hv, ⟨K1, h1⟩, ⟨K2, h2⟩⟩ := good st hs x hx
 obtain ⟨b3, K3, h3⟩ := much08_ends x hx
 obtain ⟨b4, K4, h4⟩ := much29_ends st (by have := hst.1; omega) hn
 refine ⟨K1 + K2 + K3 + K4 + 1200 + 1, ?_⟩
 generalize hk : K1 + K2 + K3 + K4 + 1200 = k
 have hl := live29 k (by omega)
 have h1' := h1 k (by omega)
 have h2' := h2 k (by omega)
 unfold pS at h1'
 simp only at h2'
 have hj : ∀ b, w29_CostShares.j0 (k + 1) st b x.f0 x.f1 x.f2 x.f3 x.f4 x.f5.f0 x.f5.f1 x.f5.f2 x.f6 = some true := by
  intro b
  rw [w29_CostShares.j0]
  cases b with
  | true => rw [if_pos rfl, hl, bs]
  | false =>
   have e2 : r29_Share.f k x.f0 x.f1 x.f2 x.f3 x.f4 x.f5.f0 x.f5.f1 x.f5.f2 x.f6 st = some v := by
    rw [← h2']
    cases x with
    | mk a b c d e f g =>
     cases f
     rfl
   rw [if_neg (by decide), h1', bs, e2, bs]
   unfold r28_Same.f r28_Share.f
   rw [bs, if_pos (decide_eq_true rfl), bs, if_pos (decide_eq_true (show v ≤ 4607182418800017408 from hv)), hl, bs]
 unfold w29_CostShares.f
 rw [h3 (k + 1) (by omega), bs]
 by_cases c : b3 = true
 ·rw [if_pos c, hj]
 ·rw [if_neg c, h4 (k + 1) (by omega), bs, hj]
end Go.Proofs.Ytcfgjaggccnoaaa.Pure
