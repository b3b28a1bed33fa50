-- Written by wip/pack.py, a program of mine: the texts that this law stands on, as far as it uses them; Lean checks it.
import Derived.Test.YtcfgjaggccnoaaaDoorProg
import Derived.Shelf.LaysM
import Derived.Shelf.Strconv.Itoa3
import Derived.Below
import Derived.Deep.Draws
import Derived.Deep.AppendLies
import Derived.Maps.AppendAt
import Derived.OwnWalk
import Derived.Laws.BytesArg
import Derived.Laws.MakeOwn
import Derived.Laws.OwnMore
import Derived.Deep.OwnRows
import Derived.Tactics
import Derived.Lib.ConvBytes
import Derived.Laws.Slices
import Derived.WalkKit
import Derived.KernelRfl
import Derived.RowKit3
import Derived.Deep.LoopGhost
import Derived.Deep.QuietTactic
import Derived.BigQuiet
import Derived.WideLaws
import Derived.Deep.DeepCutAuto
import Derived.Deep.CutBlock
import Derived.Deep.RegionHeld3
import Derived.Laws.Rows
import Derived.Lib.AppendStr
import Derived.ArgAppend
import Derived.Laws.IdiomCopy
import Derived.RowKit
import Derived.OrdersHeld
import Derived.Laws.BitsLemmas
import Derived.Laws.StructEq
import Derived.Lib.BitFns
import Derived.Lib.ItoaMem
import Derived.Lib.LaidTab
import Derived.Lib.Slices
import Derived.Lib.Small
import Derived.Lib.SmallJoins
import Derived.Lib.Strings
import Derived.Lib.Walk
import Derived.Laws.Cover1
import Derived.Lib.SliceRun
import Derived.StillTailTactics
import Derived.LoopTactic
import Derived.RangeFuncNested
import Derived.RangeFuncBound
import Derived.RangeFuncCalls
import Derived.RangeFuncLeaves
import Derived.OwnWalkIn
import Derived.TacticsInMore
import Derived.LoopNIn
import Derived.LoopIn
import Derived.OrdersIn
import Derived.Lib.ItoaNum
import Derived.Lib.ItoaLen
import Derived.ChangeSlices
import Derived.ChangeOld
import Derived.SizedLaws
import Derived.ProofKit
import Derived.OpenShut
import Derived.Carry
import Derived.Test.YtcfgjaggccnoaaaDoorZTableSeeds3
namespace Go.Proofs.YtcfgjaggccnoaaaDoor.PTableSteps
open Go.RowKit Go.Proofs.YtcfgjaggccnoaaaDoorW.PrintWords Go.Proofs.YtcfgjaggccnoaaaDoorW.PrintLast Go.Proofs.YtcfgjaggccnoaaaDoorW.PrintMore
attribute [local go_sem] max2_int min2_int max_two min_two max_three min_three max_four min_four
set_option linter.unusedVariables false
set_option linter.unusedSimpArgs false
set_option maxRecDepth 100000
set_option maxHeartbeats 4000000
theorem rows_key_is (l : List S23) (hs : ∀ y ∈ l, y.f2.size ≤ 140737488351232) (hl : l.length ≤ 1000) (k : Nat) (hk : l.length + 10 ≤ k) : rows_Key.f k l = some (rkey l) := by
  unfold rows_Key.f
  rw [show (0 : Int) = ((0 : Nat) : Int) from rfl, rowkey_l0 l hs hl l.length k 0 _ (by omega) (by show 0 ≤ _; omega) hk, List.drop_zero, emp_app]
theorem prow_is (seed : Int) (l : List S23) (hs : ∀ y ∈ l, y.f2.size ≤ 140737488351232) (hl : l.length ≤ 1000) (k : Nat) (hk : l.length + 20 ≤ k) (hk2 : (rkey l).size < k) : ∃ r, hash_Row.f k seed l = some r ∧ 0 ≤ r ∧ r < 18446744073709551616 ∧ hash_text.f k seed (rkey l) = some r := by
  have hz := rkey_size l hs
  obtain ⟨r, hr, h0, h1⟩ := text_some_big seed (rkey l) (by omega) k hk2
  refine ⟨r, ?_, h0, h1, hr⟩
  unfold hash_Row.f
  rw [rows_key_is l hs hl k (by omega), bs, hr, bs]
def rowN (l : List S23) : Nat := (l.map fun y => 1 + y.f2.size).sum
def totN (L : List (List S23)) : Nat := (L.map rowN).sum
theorem rowN_cons (y : S23) (l : List S23) : rowN (y :: l) = 1 + y.f2.size + rowN l := by simp [rowN]
theorem totN_cons (r : List S23) (L : List (List S23)) : totN (r :: L) = rowN r + totN L := by simp [totN]
theorem much_inner (L : List (List S23)) (r : List S23) (i : Nat) (hL : L[i]? = some r) (hr : r.length ≤ 40) (hs : ∀ y ∈ r, y.f2.size ≤ 140737488351232) (hL2 : L.length ≤ 9000000000000000) (d : Nat) : ∀ (k j : Nat) (n : Int), r.length = j + d → 0 ≤ n → n ≤ 2000 + j * 140737488351233 →
    r04_Much.l1 (k + d + 1) L n (i : Int) (j : Int) = if n + rowN (r.drop j) > 2000 then some true else r04_Much.l0 k L (n + rowN (r.drop j)) ((i + 1 : Nat) : Int) := by
  have hi : i < L.length := (List.getElem?_eq_some_iff.1 hL).1
  have hrd : rd_L3 L (i : Int) = r := by
    unfold rd_L3
    rw [Int.toNat_natCast, List.getD_eq_getElem?_getD, hL]
    rfl
  induction d with
  | zero =>
    intro k j n hd h0 h1
    simp only [r04_Much.l1]
    rw [if_pos (show (0 : Int) ≤ (i : Int) by omega), if_pos (show (i : Int) < (L.length : Int) by omega), hrd, if_neg (show ¬ (j : Int) < (r.length : Int) by omega), w64 (n := (i : Int) + 1) (by omega) (by omega)]
    rw [List.drop_eq_nil_of_le (by omega)]
    simp [rowN]
  | succ d ih =>
    intro k j n hd h0 h1
    have hj : j < r.length := by omega
    have hy := hs r[j] (List.getElem_mem hj)
    have e : rd_T23 r (j : Int) = r[j] := by
      unfold rd_T23
      rw [Int.toNat_natCast, List.getD_eq_getElem?_getD, List.getElem?_eq_getElem hj]
      rfl
    obtain ⟨K, hK⟩ : ∃ K, K = k + d + 1 := ⟨_, rfl⟩
    rw [show k + (d + 1) + 1 = K + 1 by omega]
    simp only [r04_Much.l1]
    rw [if_pos (show (0 : Int) ≤ (i : Int) by omega), if_pos (show (i : Int) < (L.length : Int) by omega), hrd, if_pos (show (j : Int) < (r.length : Int) by omega), if_pos (show (0 : Int) ≤ (j : Int) by omega), e]
    rw [w64 (n := n + 1) (by omega) (by omega), w64 (n := n + 1 + (r[j].f2.size : Int)) (by omega) (by omega), w64 (n := (j : Int) + 1) (by omega) (by omega)]
    have h := ih k (j + 1) (n + 1 + (r[j].f2.size : Int)) (by omega) (by omega) (by omega)
    rw [hK, show ((j : Int) + 1) = ((j + 1 : Nat) : Int) by omega, h]
    rw [List.drop_eq_getElem_cons hj, rowN_cons]
    have e2 : n + 1 + (r[j].f2.size : Int) + (rowN (r.drop (j + 1)) : Int) = n + ((1 + r[j].f2.size + rowN (r.drop (j + 1)) : Nat) : Int) := by omega
    rw [e2]
theorem much_outer (L : List (List S23)) (hs : ∀ r ∈ L, ∀ y ∈ r, y.f2.size ≤ 140737488351232) (hL2 : L.length ≤ 9000000000000000) (d : Nat) : ∀ (k i : Nat) (n : Int), 60 ≤ i + d → 0 ≤ n → n ≤ 2000 → d * 44 + 2 ≤ k →
    ∃ b, r04_Much.l0 k L n (i : Int) = some b ∧ (b = false → L.length ≤ 50 ∧ (∀ r ∈ L.drop i, r.length ≤ 40) ∧ n + totN (L.drop i) ≤ 2000) := by
  have stop : ∀ (k i : Nat) (n : Int), n ≤ 2000 → (60 ≤ i ∨ L.length ≤ i) → 2 ≤ k → ∃ b, r04_Much.l0 k L n (i : Int) = some b ∧ (b = false → L.length ≤ 50 ∧ (∀ r ∈ L.drop i, r.length ≤ 40) ∧ n + totN (L.drop i) ≤ 2000) := by
    intro k i n hn hi hk
    obtain ⟨k, rfl⟩ : ∃ m, k = m + 2 := ⟨k - 2, by omega⟩
    refine ⟨decide ((L.length : Int) > 50), ?_, ?_⟩
    · simp only [r04_Much.l0]
      by_cases c : (i : Int) < (L.length : Int)
      · rw [if_pos c]
        have c2 : decide ((i : Int) < 60) = false := by simp; omega
        rw [c2]
        simp only [r04_Much.j1]
        rw [if_neg (by simp)]
      · rw [if_neg c]
        simp only [r04_Much.j1]
        rw [if_neg (by simp)]
    · intro hb
      have h50 : L.length ≤ 50 := by have := of_decide_eq_false hb; omega
      rw [List.drop_eq_nil_of_le (show L.length ≤ i by omega)]
      refine ⟨h50, ?_, ?_⟩
      · intro r hr
        cases hr
      · simpa [totN] using hn
  induction d with
  | zero => exact fun k i n hi h0 h1 hk => stop k i n h1 (by omega) (by omega)
  | succ d ih =>
    intro k i n hi h0 h1 hk
    by_cases c : 60 ≤ i ∨ L.length ≤ i
    · exact stop k i n h1 c (by omega)
    · have hi2 : i < L.length := by omega
      have hLi : L[i]? = some L[i] := List.getElem?_eq_getElem hi2
      have hrd : rd_L3 L (i : Int) = L[i] := by
        unfold rd_L3
        rw [Int.toNat_natCast, List.getD_eq_getElem?_getD, hLi]
        rfl
      obtain ⟨k, rfl⟩ : ∃ m, k = m + 2 := ⟨k - 2, by omega⟩
      have e1 : r04_Much.l0 (k + 2) L n (i : Int) = if (L[i].length : Int) > 40 then some true else r04_Much.l1 k L n (i : Int) 0 := by
        simp only [r04_Much.l0]
        rw [if_pos (show (i : Int) < (L.length : Int) by omega)]
        have c2 : decide ((i : Int) < 60) = true := by simp; omega
        rw [c2]
        simp only [r04_Much.j1]
        rw [if_pos trivial, if_pos (show (0 : Int) ≤ (i : Int) by omega), if_pos (show (i : Int) < (L.length : Int) by omega), hrd]
      rw [e1]
      by_cases c3 : (L[i].length : Int) > 40
      · rw [if_pos c3]
        exact ⟨true, rfl, fun h => by cases h⟩
      · rw [if_neg c3]
        obtain ⟨k2, hk2⟩ : ∃ m, k = m + L[i].length + 1 := ⟨k - L[i].length - 1, by omega⟩
        have h := much_inner L L[i] i hLi (by omega) (hs _ (List.getElem_mem hi2)) hL2 L[i].length k2 0 n (by omega) h0 (by omega)
        rw [hk2, show (0 : Int) = ((0 : Nat) : Int) from rfl, h]
        rw [List.drop_zero]
        by_cases c4 : n + (rowN L[i] : Int) > 2000
        · rw [if_pos c4]
          exact ⟨true, rfl, fun h => by cases h⟩
        · rw [if_neg c4]
          obtain ⟨b, hb, hp⟩ := ih k2 (i + 1) (n + (rowN L[i] : Int)) (by omega) (by omega) (by omega) (by omega)
          refine ⟨b, hb, fun hf => ?_⟩
          obtain ⟨p1, p2, p3⟩ := hp hf
          rw [List.drop_eq_getElem_cons hi2]
          refine ⟨p1, ?_, ?_⟩
          · intro r hr
            rcases List.mem_cons.1 hr with rfl | hr
            · omega
            · exact p2 r hr
          · rw [totN_cons]
            omega
theorem much_is (L : List (List S23)) (hs : ∀ r ∈ L, ∀ y ∈ r, y.f2.size ≤ 140737488351232) (hL2 : L.length ≤ 9000000000000000) (k : Nat) (hk : 3000 ≤ k) :
    ∃ b, r04_Much.f k L = some b ∧ (b = false → L.length ≤ 50 ∧ (∀ r ∈ L, r.length ≤ 40) ∧ totN L ≤ 2000) := by
  obtain ⟨b, hb, hp⟩ := much_outer L hs hL2 60 k 0 0 (by omega) (by omega) (by omega) (by omega)
  refine ⟨b, hb, fun hf => ?_⟩
  obtain ⟨p1, p2, p3⟩ := hp hf
  exact ⟨p1, p2, by rw [List.drop_zero] at p3; omega⟩
def sg (n m : Int) : Int := if n < m then -1 else if n > m then 1 else 0
def lexI : List UInt8 → List UInt8 → Int
  | [], [] => 0
  | [], _ :: _ => -1
  | _ :: _, [] => 1
  | a :: x, b :: y => if a = b then lexI x y else if a < b then -1 else 1
def ord (a b : S23) : Int := if a.f0 = b.f0 then (if a.f1 = b.f1 then lexI a.f2.data.toList b.f2.data.toList else sg a.f1 b.f1) else sg a.f0 b.f0
theorem sg_zero (a b : Int) : sg a b = 0 ↔ a = b := by unfold sg; split <;> (try split) <;> omega
theorem u8_cases (a b : UInt8) : a = b ∨ (a ≠ b ∧ a < b ∧ ¬ b < a) ∨ (a ≠ b ∧ b < a ∧ ¬ a < b) := by
  by_cases h : a = b
  · exact .inl h
  · have hn : a.toNat ≠ b.toNat := fun e => h (UInt8.toNat_inj.1 e)
    rcases Nat.lt_or_gt_of_ne hn with e | e
    · exact .inr (.inl ⟨h, UInt8.lt_iff_toNat_lt.2 e, fun e2 => by have := UInt8.lt_iff_toNat_lt.1 e2; omega⟩)
    · exact .inr (.inr ⟨h, UInt8.lt_iff_toNat_lt.2 e, fun e2 => by have := UInt8.lt_iff_toNat_lt.1 e2; omega⟩)
theorem lexI_less : ∀ x y : List UInt8, lexI x y = if Op.bytesLess x y = true then -1 else if x = y then 0 else 1
  | [], [] => rfl
  | [], _ :: _ => rfl
  | _ :: _, [] => by simp [lexI, Op.bytesLess]
  | a :: x, b :: y => by
    simp only [lexI, Op.bytesLess]
    have ih := lexI_less x y
    rcases u8_cases a b with h | ⟨h, h1, h2⟩ | ⟨h, h1, h2⟩
    · subst h
      rw [if_pos rfl, ih]
      simp
    · rw [if_neg h, if_pos h1]
      simp [h1]
    · rw [if_neg h, if_neg h2]
      simp [h, h2]
theorem cmp_int_is (a b : Int) : cmp_Compare_int.f a b = some (sg a b) := by
  unfold cmp_Compare_int.f cmp_isNaN_int.f sg
  rw [bs, bs]
  have e : ∀ x : Int, (x != x) = false := fun x => by simp
  rw [e, e, if_neg (by simp), if_neg (by simp)]
  split
  · rfl
  · split <;> rfl
theorem cmp_str_is (a b : ByteArray) : cmp_Compare_string.f a b = some (lexI a.data.toList b.data.toList) := by
  unfold cmp_Compare_string.f cmp_isNaN_string.f
  rw [bs, bs]
  have e : ∀ x : List UInt8, (x != x) = false := fun x => by simp
  rw [e, e, if_neg (by simp), if_neg (by simp), lexI_less, ByteArray.toList_eq, ByteArray.toList_eq]
  split
  · rfl
  · split <;> rfl
theorem or3 (a b c : Int) (k : Nat) : cmp_Or_int.f (k + 4) [a, b, c] = some (if a = 0 then (if b = 0 then c else b) else a) := by
  unfold cmp_Or_int.f
  have w1 : wrap64 (0 + 1) = 1 := by decide +kernel
  have w2 : wrap64 (1 + 1) = 2 := by decide +kernel
  have w3 : wrap64 (2 + 1) = 3 := by decide +kernel
  have r0 : rd [a, b, c] 0 = a := rfl
  have r1 : rd [a, b, c] 1 = b := rfl
  have r2 : rd [a, b, c] 2 = c := rfl
  have l : (([a, b, c] : List Int).length : Int) = 3 := rfl
  rw [l]
  have s0 : ∀ i : Int, 0 ≤ i → i < 3 → ∀ m, cmp_Or_int.l0 (m + 1) 0 [a, b, c] 3 i = if rd [a, b, c] i = 0 then cmp_Or_int.l0 m 0 [a, b, c] 3 (wrap64 (i + 1)) else some (rd [a, b, c] i) := by
    intro i h0 h1 m
    simp only [cmp_Or_int.l0]
    rw [if_pos h1, if_pos h0, l, if_pos h1]
  rw [s0 0 (by decide) (by decide), r0, w1, s0 1 (by decide) (by decide), r1, w2, s0 2 (by decide) (by decide), r2, w3]
  have s3 : cmp_Or_int.l0 (k + 1) 0 [a, b, c] 3 3 = some 0 := by
    simp only [cmp_Or_int.l0]
    rw [if_neg (by decide)]
  rw [s3]
  split
  · split
    · split
      · rename_i h
        rw [h]
      · rfl
    · rfl
  · rfl
theorem order_is (a b : S23) (k : Nat) (hk : 4 ≤ k) : val_Order.f k a.f0 a.f1 a.f2 b.f0 b.f1 b.f2 = some (ord a b) := by
  obtain ⟨k, rfl⟩ : ∃ m, k = m + 4 := ⟨k - 4, by omega⟩
  unfold val_Order.f
  rw [cmp_int_is, bs, cmp_int_is, bs, cmp_str_is, bs, or3, bs]
  unfold ord
  by_cases h : a.f0 = b.f0
  · rw [if_pos ((sg_zero _ _).2 h), if_pos h]
    by_cases h1 : a.f1 = b.f1
    · rw [if_pos ((sg_zero _ _).2 h1), if_pos h1]
    · rw [if_neg (fun e => h1 ((sg_zero _ _).1 e)), if_neg h1]
  · rw [if_neg (fun e => h ((sg_zero _ _).1 e)), if_neg h]
def whB (l : List S23) : Bool := l.all (fun y => y.f0 != 0)
theorem get23 (l : List S23) (i : Nat) (h : i < l.length) : rd_T23 l (i : Int) = l[i] := by
  unfold rd_T23
  rw [Int.toNat_natCast, List.getD_eq_getElem?_getD, List.getElem?_eq_getElem h]
  rfl
theorem getL (l : List (List S23)) (i : Nat) (h : i < l.length) : rd_L3 l (i : Int) = l[i] := by
  unfold rd_L3
  rw [Int.toNat_natCast, List.getD_eq_getElem?_getD, List.getElem?_eq_getElem h]
  rfl
theorem rwhole_l0 (l : List S23) (hl : l.length ≤ 1000) (d : Nat) : ∀ (k i : Nat), l.length = i + d → d + 1 ≤ k → r20_Whole.l0 k l (i : Int) = some ((l.drop i).all (fun y => y.f0 != 0)) := by
  induction d with
  | zero =>
    intro k i hd hk
    obtain ⟨k, rfl⟩ : ∃ m, k = m + 1 := ⟨k - 1, by omega⟩
    simp only [r20_Whole.l0]
    rw [if_neg (by omega), List.drop_eq_nil_of_le (by omega)]
    rfl
  | succ d ih =>
    intro k i hd hk
    obtain ⟨k, rfl⟩ : ∃ m, k = m + 1 := ⟨k - 1, by omega⟩
    have hi : i < l.length := by omega
    have e := ih k (i + 1) (by omega) (by omega)
    simp only [r20_Whole.l0]
    rw [if_pos (by omega), if_pos (by omega), get23 l i hi, w64 (by omega) (by omega), show (i : Int) + 1 = ((i + 1 : Nat) : Int) by omega, List.drop_eq_getElem_cons hi, List.all_cons]
    by_cases c : l[i].f0 = 0
    · rw [if_pos c, c]
      rfl
    · rw [if_neg c, e, bne_iff_ne.2 c, Bool.true_and]
theorem rwhole_is (l : List S23) (hl : l.length ≤ 1000) (k : Nat) (hk : l.length + 1 ≤ k) : r20_Whole.f k l = some (whB l) := by
  have e := rwhole_l0 l hl l.length k 0 (by omega) hk
  rw [List.drop_zero] at e
  exact e
theorem text_indep (s : ByteArray) (hs : s.size ≤ 140737488355328000) (d : Nat) : ∀ (k1 k2 : Nat) (h i : Int), 0 ≤ i → i ≤ s.size → (s.size : Int) - i = d → d < k1 → d < k2 → hash_text.l0 k1 s h (s.size : Int) i = hash_text.l0 k2 s h (s.size : Int) i := by
  induction d with
  | zero =>
    intro k1 k2 h i h0 h1 hd hk1 hk2
    obtain ⟨k1, rfl⟩ : ∃ m, k1 = m + 1 := ⟨k1 - 1, by omega⟩
    obtain ⟨k2, rfl⟩ : ∃ m, k2 = m + 1 := ⟨k2 - 1, by omega⟩
    simp only [hash_text.l0]
    rw [if_neg (by omega), if_neg (by omega)]
  | succ d ih =>
    intro k1 k2 h i h0 h1 hd hk1 hk2
    obtain ⟨k1, rfl⟩ : ∃ m, k1 = m + 1 := ⟨k1 - 1, by omega⟩
    obtain ⟨k2, rfl⟩ : ∃ m, k2 = m + 1 := ⟨k2 - 1, by omega⟩
    simp only [hash_text.l0, hash_Byte.f]
    rw [if_pos (by omega), if_pos (by omega), if_pos (by omega), if_pos (by omega), if_pos (by omega), if_pos (by omega), bs, bs, w64 (by omega) (by omega)]
    exact ih k1 k2 _ _ (by omega) (by omega) (by omega) (by omega) (by omega)
def rhv (seed : Int) (l : List S23) : Nat := ((hash_text.f ((rkey l).size + 1) seed (rkey l)).getD 0).toNat
theorem phv_is (seed : Int) (l : List S23) (hs : ∀ y ∈ l, y.f2.size ≤ 140737488351232) (hl : l.length ≤ 1000) (k : Nat) (hk : l.length + 20 ≤ k) (hk2 : (rkey l).size < k) : hash_Row.f k seed l = some (rhv seed l : Int) ∧ rhv seed l < 18446744073709551616 := by
  have hz := rkey_size l hs
  obtain ⟨r, e1, h0, h1, e3⟩ := prow_is seed l hs hl k hk hk2
  have e4 : hash_text.f ((rkey l).size + 1) seed (rkey l) = some r := by
    rw [← e3]
    unfold hash_text.f hash_Start.f
    obtain ⟨q, hq, _⟩ := mix_some (IntKind.u64.wrap (IntKind.u64.wrap seed + 2685821657736338717))
    rw [hq, bs, bs, bs]
    exact text_indep _ (by omega) (rkey l).size _ _ _ _ (by omega) (by omega) (by omega) (by omega) (by omega)
  have e5 : (rhv seed l : Int) = r := by
    unfold rhv
    rw [e4]
    show ((r.toNat : Nat) : Int) = r
    omega
  exact ⟨by rw [e5]; exact e1, by omega⟩
end Go.Proofs.YtcfgjaggccnoaaaDoor.PTableSteps
namespace Go.Proofs.YtcfgjaggccnoaaaDoor.PTableSteps
open Go.RowKit Go.Proofs.YtcfgjaggccnoaaaDoorW.PrintWords Go.Proofs.YtcfgjaggccnoaaaDoorW.PrintLast Go.Proofs.YtcfgjaggccnoaaaDoorW.PrintMore
attribute [local go_sem] max2_int min2_int max_two min_two max_three min_three max_four min_four
set_option linter.unusedVariables false
set_option linter.unusedSimpArgs false
set_option maxRecDepth 100000
set_option maxHeartbeats 4000000
theorem lexI_zero : ∀ x y : List UInt8, lexI x y = 0 → x = y
  | [], [], _ => rfl
  | [], _ :: _, h => by simp [lexI] at h
  | _ :: _, [], h => by simp [lexI] at h
  | a :: x, b :: y, h => by
    simp only [lexI] at h
    split at h
    · rename_i e
      rw [e, lexI_zero x y h]
    · split at h <;> omega
theorem ord_zero {a b : S23} (h0 : a.f0 = b.f0) (h : ord a b = 0) : a = b := by
  unfold ord at h
  rw [if_pos h0] at h
  split at h
  · rename_i h1
    have h2 := lexI_zero _ _ h
    cases a; cases b
    simp only at h0 h1 h2
    subst h0 h1
    congr 1
    apply ByteArray.ext
    exact Array.ext' h2
  · rename_i h1
    exact absurd ((sg_zero _ _).1 h) h1
def eqv (a b : S23) : Bool := (a.f0 == b.f0 && (a.f0 == 1 || a.f0 == 2)) && (ord a b == 0)
def mt : List S23 → List S23 → Bool
  | [], [] => true
  | a :: x, b :: y => eqv a b && mt x y
  | _, _ => false
theorem eqv_eq {a b : S23} (h : eqv a b = true) : a = b := by
  simp only [eqv, Bool.and_eq_true, beq_iff_eq] at h
  exact ord_zero h.1.1 h.2
theorem mt_eq : ∀ {x y : List S23}, mt x y = true → x = y
  | [], [], _ => rfl
  | [], _ :: _, h => by simp [mt] at h
  | _ :: _, [], h => by simp [mt] at h
  | a :: x, b :: y, h => by
    simp only [mt, Bool.and_eq_true] at h
    rw [eqv_eq h.1, mt_eq h.2]
theorem mt_len : ∀ {x y : List S23}, x.length ≠ y.length → mt x y = false
  | [], [], h => absurd rfl h
  | [], _ :: _, _ => rfl
  | _ :: _, [], _ => rfl
  | a :: x, b :: y, h => by
    simp only [mt]
    rw [mt_len (by simpa using h), Bool.and_false]
theorem mt_whole : ∀ {x y : List S23}, mt x y = true → whB x = true
  | [], [], _ => rfl
  | [], _ :: _, h => by simp [mt] at h
  | _ :: _, [], h => by simp [mt] at h
  | a :: x, b :: y, h => by
    simp only [mt, eqv, Bool.and_eq_true, Bool.or_eq_true, beq_iff_eq] at h
    have := mt_whole h.2
    simp only [whB, List.all_cons, Bool.and_eq_true, bne_iff_ne] at this ⊢
    exact ⟨by omega, this⟩
theorem eq_step (a b : S23) (k : Nat) (hk : 4 ≤ k) {β : Type} (f : Bool → Option β) : ((logic_Eq.f k a.f0 a.f1 a.f2 b.f0 b.f1 b.f2).bind fun t => (logic_Is.f t).bind f) = f (eqv a b) := by
  have hc : val_Cmp.f k a.f0 a.f1 a.f2 b.f0 b.f1 b.f2 = if a.f0 = b.f0 then (if a.f0 = 1 then some (ord a b, true) else if a.f0 = 2 then some (ord a b, true) else some (0, false)) else some (0, false) := by
    unfold val_Cmp.f
    rw [order_is a b k hk, bs]
  unfold logic_Eq.f logic_cmp__logic_Eq_1.f logic_Eq_1.f logic_Of.f logic_Is.f
  rw [hc]
  unfold eqv
  by_cases h : a.f0 = b.f0
  · rw [if_pos h, beq_iff_eq.2 h]
    by_cases h1 : a.f0 = 1
    · rw [if_pos h1, bs]
      by_cases h2 : ord a b = 0
      · simp [h1, h2]
      · simp [h1, h2, beq_eq_false_iff_ne.2 h2]
    · rw [if_neg h1]
      by_cases h3 : a.f0 = 2
      · rw [if_pos h3, bs]
        by_cases h2 : ord a b = 0
        · simp [h3, h2]
        · simp [h3, h2, beq_eq_false_iff_ne.2 h2]
      · rw [if_neg h3, bs]
        simp [beq_eq_false_iff_ne.2 h1, beq_eq_false_iff_ne.2 h3]
  · rw [if_neg h, bs]
    simp [beq_eq_false_iff_ne.2 h]
theorem match_l0 (x y : List S23) (he : x.length = y.length) (hl : x.length ≤ 1000) (d : Nat) : ∀ (k i : Nat), x.length = i + d → d + 5 ≤ k → semi_Match.l0 k y x (x.length : Int) (i : Int) = some (mt (x.drop i) (y.drop i)) := by
  induction d with
  | zero =>
    intro k i hd hk
    obtain ⟨k, rfl⟩ : ∃ m, k = m + 1 := ⟨k - 1, by omega⟩
    simp only [semi_Match.l0]
    rw [if_neg (by omega), List.drop_eq_nil_of_le (by omega), List.drop_eq_nil_of_le (by omega)]
    rfl
  | succ d ih =>
    intro k i hd hk
    obtain ⟨k, rfl⟩ : ∃ m, k = m + 1 := ⟨k - 1, by omega⟩
    have hx : i < x.length := by omega
    have hy : i < y.length := by omega
    simp only [semi_Match.l0]
    rw [if_pos (by omega), if_pos (by omega), if_pos (by omega), if_pos (by omega), get23 x i hx, get23 y i hy, eq_step _ _ k (by omega), w64 (by omega) (by omega), show (i : Int) + 1 = ((i + 1 : Nat) : Int) by omega, List.drop_eq_getElem_cons hx, List.drop_eq_getElem_cons hy]
    simp only [mt]
    by_cases c : eqv x[i] y[i] = true
    · rw [if_pos c, ih k (i + 1) (by omega) (by omega), c, Bool.true_and]
    · rw [if_neg c]
      simp [c]
theorem match_is (x y : List S23) (hl : x.length ≤ 1000) (k : Nat) (hk : x.length + 5 ≤ k) : semi_Match.f k x y = some (mt x y) := by
  unfold semi_Match.f
  by_cases he : x.length = y.length
  · rw [if_pos (by omega), show (0 : Int) = ((0 : Nat) : Int) from rfl, match_l0 x y he hl x.length k 0 (by omega) hk, List.drop_zero, List.drop_zero]
  · rw [if_neg (by omega), mt_len he]
def bk (seed : Int) (n : Nat) (key : List S23) : Nat := rhv seed key / 4294967296 % n
theorem bucket_is (h n : Nat) (h0 : h < 18446744073709551616) (n1 : 1 ≤ n) (n2 : n ≤ 4096) : hash_Bucket.f (h : Int) (n : Int) = some ((h / 4294967296 % n : Nat) : Int) := by
  unfold hash_Bucket.f
  have e : IntKind.u64.wrap (n : Int) = n := by rw [u64_wrap]; omega
  rw [if_neg (by omega), e, if_neg (by omega), Int.tmod_eq_emod_of_nonneg (by omega)]
  have e2 : ((h : Int) / 4294967296) % (n : Int) = ((h / 4294967296 % n : Nat) : Int) := by
    rw [Int.natCast_emod, Int.natCast_ediv]
    rfl
  have h3 : h / 4294967296 % n < n := Nat.mod_lt _ (by omega)
  rw [e2]
  generalize h / 4294967296 % n = z at *
  rw [w64 (by omega) (by omega)]
end Go.Proofs.YtcfgjaggccnoaaaDoor.PTableSteps
namespace Go.Proofs.YtcfgjaggccnoaaaDoor.PTableSteps
open Go.RowKit Go.Proofs.YtcfgjaggccnoaaaDoorW.PrintWords Go.Proofs.YtcfgjaggccnoaaaDoorW.PrintLast Go.Proofs.YtcfgjaggccnoaaaDoorW.PrintMore
attribute [local go_sem] max2_int min2_int max_two min_two max_three min_three max_four min_four
set_option linter.unusedVariables false
set_option linter.unusedSimpArgs false
set_option maxRecDepth 100000
set_option maxHeartbeats 4000000
def KOK (l : List S23) : Prop := l.length ≤ 1000 ∧ ∀ y ∈ l, y.f2.size ≤ 140737488351232
def Good (T : Tb) : Prop := ∀ j, j < T.n → T.ch j = (T.ch T.n).filter fun p => bk T.seed T.n p.f0 == j
def Tab (w : World) (base : Nat) (S D : Nat → Prop) (gT : Nat) (seed : Int) (n : Nat) (sl : Bool) (E : List S116) : Prop := ∃ T gB v, TB w base S D gT T gB v ∧ T.seed = seed ∧ T.n = n ∧ T.sl = sl ∧ T.ch T.n = E ∧ Good T
def EOK (E : List S116) : Prop := E.length ≤ 1000 ∧ ∀ p, p ∈ E → KOK p.f0 ∧ KOK p.f1
section
variable {w w1 : World} {base gT : Nat} {S D : Nat → Prop} {seed : Int} {n : Nat} {sl : Bool} {E : List S116}
theorem Tab.below (h : Tab w base S D gT seed n sl E) (hb : Below w.heap.size w w1) : Tab w1 base S D gT seed n sl E := by
  obtain ⟨T, gB, v, h1, h2⟩ := h
  exact ⟨T, gB, v, h1.below hb, h2⟩
theorem Tab.kp {S' : Nat → Prop} (h : Tab w base S D gT seed n sl E) (hk : Kp S' w w1) (hd : ∀ k, D k → ¬ S' k) : Tab w1 base S D gT seed n sl E := by
  obtain ⟨T, gB, v, h1, h2⟩ := h
  exact ⟨T, gB, v, h1.kp hk hd, h2⟩
theorem Tab.dl (h : Tab w base S D gT seed n sl E) : ∀ k, D k → base ≤ k ∧ k < w.heap.size := by
  obtain ⟨T, gB, v, h1, h2⟩ := h
  exact h1.dl
theorem Tab.sd (h : Tab w base S D gT seed n sl E) : ∀ k, S k → D k := by
  obtain ⟨T, gB, v, h1, h2⟩ := h
  exact h1.sD
theorem Tab.n1 (h : Tab w base S D gT seed n sl E) : 1 ≤ n ∧ n ≤ 4096 := by
  obtain ⟨T, gB, v, h1, h2, h3, h4⟩ := h
  subst h3
  exact ⟨h1.n1, h1.n2⟩
def NewT (w : World) (seed buckets : Int) (r : Ending) (w' : World) : Prop := ∃ gT S D, r = .returned (.pointer (some ⟨gT, 0, none⟩)) ∧ Tab w' w.heap.size S D gT seed (nbk buckets) false [] ∧ Below w.heap.size w w'
theorem tab_new (w : World) (seed buckets : Int) : Calls Tryd.prog 19 #[.int .i64 seed, .int .i64 buckets] w (NewT w seed buckets) := by
  refine (new_any seed buckets w).mono ?_
  rintro r w' ⟨gT, gB, S, D, hr, hT, hb⟩
  exact ⟨gT, S, D, hr, ⟨_, _, _, hT, rfl, rfl, rfl, rfl, fun j _ => rfl⟩, hb⟩
theorem bk_lt (seed : Int) (n : Nat) (key : List S23) (h : 1 ≤ n) : bk seed n key < n := Nat.mod_lt _ h
theorem row_hash (seed : Int) {key : List S23} (hk : KOK key) : ∃ k, hash_Row.f k seed key = some (rhv seed key : Int) ∧ rhv seed key < 18446744073709551616 :=
  ⟨_, phv_is seed key hk.2 hk.1 (key.length + 20 + (rkey key).size + 1) (by omega) (by omega)⟩
theorem good_put {T : Tb} (hg : Good T) (p : S116) (hn : 1 ≤ T.n) : Good (T.put (bk T.seed T.n p.f0) p) ∧ (T.put (bk T.seed T.n p.f0) p).ch T.n = T.ch T.n ++ [p] := by
  have hi := bk_lt T.seed T.n p.f0 hn
  have e : (T.put (bk T.seed T.n p.f0) p).ch T.n = T.ch T.n ++ [p] := by
    show (if T.n = T.n then (if T.n = bk T.seed T.n p.f0 then _ else T.ch T.n) ++ [p] else _) = _
    rw [if_pos rfl, if_neg (by omega)]
  refine ⟨fun j hj => ?_, e⟩
  have hj' : j < T.n := hj
  show _ = List.filter (fun q => bk T.seed T.n q.f0 == j) ((T.put (bk T.seed T.n p.f0) p).ch T.n)
  rw [e, List.filter_append, ← hg j hj']
  show (if j = T.n then _ else if j = bk T.seed T.n p.f0 then T.ch (bk T.seed T.n p.f0) ++ [p] else T.ch j) = _
  rw [if_neg (by omega)]
  by_cases c : j = bk T.seed T.n p.f0
  · rw [if_pos c, ← c]
    simp [← c]
  · rw [if_neg c]
    have : (bk T.seed T.n p.f0 == j) = false := beq_eq_false_iff_ne.2 fun e => c e.symm
    simp [this]
def PutT (w : World) (base : Nat) (S D : Nat → Prop) (gT : Nat) (seed : Int) (n : Nat) (E : List S116) (r : Ending) (w' : World) : Prop :=
  r = .returned (.int .i64 0) ∧ ∃ S' D', Tab w' base S' D' gT seed n false E ∧ (∀ k, S' k → S k ∨ w.heap.size ≤ k) ∧ (∀ k, D' k → D k ∨ w.heap.size ≤ k) ∧ Kp S w w' ∧ Below base w w'
theorem tab_put (h : Tab w base S D gT seed n false E) (hT : TabOK w) (hE : E.length ≤ 1000) {key row : List S23} {A A' : Option Addr} {c c' : Nat} (hK : Kd.C k23 w A key.length key) (hc : key.length ≤ c) (hR : Kd.C k23 w A' row.length row) (hc' : row.length ≤ c') (l1 : KOK key) (l2 : row.length ≤ 1000) :
    Calls Tryd.prog 39 #[.pointer (some ⟨gT, 0, none⟩), .slice A key.length c, .slice A' row.length c'] w (PutT w base S D gT seed n (E ++ [⟨key, row⟩])) := by
  obtain ⟨T, gB, v, h1, rfl, rfl, h4, rfl, h6⟩ := h
  obtain ⟨k, hr, hr2⟩ := row_hash T.seed l1
  have hi := bk_lt T.seed T.n key h1.n1
  have hl : (T.ch (bk T.seed T.n key)).length ≤ 1000 := by
    rw [h6 _ hi]
    exact Nat.le_trans (List.length_filter_le _ _) hE
  refine (put_ok h1 hT h4 hK hc hR hc' (Nat.le_trans l1.1 (by decide)) (Nat.le_trans l2 (by decide)) hr (bucket_is _ _ hr2 h1.n1 h1.n2) hi (Nat.le_trans hl (by decide)) (Nat.le_trans hE (by decide))).mono ?_
  rintro r w' ⟨e, S', D', v', t1, t2, t3, t4, t5⟩
  obtain ⟨g1, g2⟩ := good_put h6 ⟨key, row⟩ h1.n1
  exact ⟨e, S', D', ⟨_, gB, v', t1, rfl, rfl, h4, g2, g1⟩, t2, t3, t4, t5⟩
theorem tab_find (h : Tab w base S D gT seed n true E) (hT : TabOK w) (hE : EOK E) {key : List S23} {A : Option Addr} {c : Nat} (hK : Kd.C k23 w A key.length key) (hc : key.length ≤ c) (l1 : KOK key) :
    Calls Tryd.prog 37 #[.pointer (some ⟨gT, 0, none⟩), .slice A key.length c] w (FinD w ((E.filter fun p => mt key p.f0).map (·.f1))) := by
  obtain ⟨T, gB, v, h1, rfl, rfl, h4, rfl, h6⟩ := h
  obtain ⟨k, hr, hr2⟩ := row_hash T.seed l1
  have hi := bk_lt T.seed T.n key h1.n1
  have hl : (T.ch (bk T.seed T.n key)).length ≤ 1000 := by
    rw [h6 _ hi]
    exact Nat.le_trans (List.length_filter_le _ _) hE.1
  have hm : ∀ p, p ∈ T.ch (bk T.seed T.n key) → p.f0.length ≤ 1000 ∧ p.f1.length ≤ 1000 := by
    intro p hp
    rw [h6 _ hi] at hp
    have := hE.2 p (List.mem_filter.1 hp).1
    exact ⟨this.1.1, this.2.1⟩
  have e : (T.ch (bk T.seed T.n key)).filter (fun p => mt key p.f0) = (T.ch T.n).filter fun p => mt key p.f0 := by
    rw [h6 _ hi, List.filter_filter]
    refine List.filter_congr fun p _ => ?_
    by_cases q : mt key p.f0 = true
    · rw [q, ← mt_eq q]
      simp
    · simp [q]
  have := find_any (i := bk T.seed T.n key) (kk := key.length + 5) (pr := mt key) h1 hT h4 hK hc hr (bucket_is _ _ hr2 h1.n1 h1.n2) hi (Nat.le_trans hl (by decide)) hm (fun p _ => match_is key p l1.1 _ (Nat.le_refl _))
  rw [e] at this
  exact this
theorem tab_find_no (h : Tab w base S D gT seed n false E) (A : Option Addr) (m c : Nat) : Calls Tryd.prog 37 #[.pointer (some ⟨gT, 0, none⟩), .slice A m c] w fun r w' => r = .returned (.tuple #[.slice none 0 0, .int .i64 10]) ∧ Below w.heap.size w w' := by
  obtain ⟨T, gB, v, h1, rfl, rfl, h4, rfl, h6⟩ := h
  exact find_no h1 h4 A m c
theorem tab_put_sealed (h : Tab w base S D gT seed n true E) (A A' : Option Addr) (m m' c c' : Nat) : Calls Tryd.prog 39 #[.pointer (some ⟨gT, 0, none⟩), .slice A m c, .slice A' m' c'] w fun r w' => r = .returned (.int .i64 10) ∧ w' = w := by
  obtain ⟨T, gB, v, h1, rfl, rfl, h4, rfl, h6⟩ := h
  exact put_sealed h1 h4 A A' m m' c c'
def SealT (w : World) (base : Nat) (S D : Nat → Prop) (gT : Nat) (seed : Int) (n : Nat) (E : List S116) (r : Ending) (w' : World) : Prop :=
  r = .returned (.int .i64 0) ∧ Tab w' base S D gT seed n true E ∧ Kp S w w' ∧ Below base w w'
theorem tab_seal_no (h : Tab w base S D gT seed n false E) : Calls Tryd.prog 40 #[.pointer (some ⟨gT, 0, none⟩)] w (SealT w base S D gT seed n E) := by
  obtain ⟨T, gB, v, h1, rfl, rfl, h4, rfl, h6⟩ := h
  refine (seal_no h1 h4).mono ?_
  rintro r w' ⟨rfl, rfl⟩
  refine ⟨rfl, ⟨_, gB, v, h1.slt, rfl, rfl, rfl, rfl, h6⟩, ⟨by rw [World.size_setCell]; exact Nat.le_refl _, fun k _ hk => Below.heap_setCell w ⟨gT, 3, none⟩ _ k fun e => hk (e ▸ h1.sT)⟩, (Below.refl _ _).setCell (p := ⟨gT, 3, none⟩) (h1.dl _ (h1.sD _ h1.sT)).1 _⟩
theorem tab_seal_yes (h : Tab w base S D gT seed n true E) : Calls Tryd.prog 40 #[.pointer (some ⟨gT, 0, none⟩)] w fun r w' => r = .returned (.int .i64 10) ∧ w' = w := by
  obtain ⟨T, gB, v, h1, rfl, rfl, h4, rfl, h6⟩ := h
  exact seal_yes h1 h4
theorem tab_len (h : Tab w base S D gT seed n sl E) : Calls Tryd.prog 23 #[.pointer (some ⟨gT, 0, none⟩)] w fun r w' => r = .returned (.int .i64 E.length) ∧ w' = w := by
  obtain ⟨T, gB, v, h1, rfl, rfl, h4, rfl, h6⟩ := h
  exact len_any h1
end
end Go.Proofs.YtcfgjaggccnoaaaDoor.PTableSteps
namespace Go.Proofs.YtcfgjaggccnoaaaDoor.PTableSteps
open Go.RowKit Go.Proofs.YtcfgjaggccnoaaaDoorW.PrintWords Go.Proofs.YtcfgjaggccnoaaaDoorW.PrintLast Go.Proofs.YtcfgjaggccnoaaaDoorW.PrintMore
attribute [local go_sem] max2_int min2_int max_two min_two max_three min_three max_four min_four
set_option linter.unusedVariables false
set_option linter.unusedSimpArgs false
set_option maxRecDepth 100000
set_option maxHeartbeats 4000000
section
variable {α : Type} {d : Kd α} {e base : Nat} {w w1 : World} {v : Value} {xs : List α}
theorem R_rng (h : d.R e w base (fun _ => True) v xs) : d.R e w base (fun k => base ≤ k ∧ k < w.heap.size) v xs := Kd.R_mono (Kd.R_bound h) fun k hk => ⟨hk.2.1, hk.2.2.1⟩
theorem R_kp {ok S : Nat → Prop} (h : d.R e w base ok v xs) (hk : Kp S w w1) (hs : ∀ k, ok k → ¬ S k) : d.R e w1 base ok v xs := Kd.R_step h fun k h1 h2 => hk.2 k h2 (hs k h1)
theorem R_C {ok : Nat → Prop} {A : Option Addr} {n c : Nat} (h : d.R e w base ok (.slice A n c) xs) : d.C w A xs.length xs ∧ xs.length ≤ c := by
  obtain ⟨B, b, e, hl, hC⟩ := Kd.R_reads h
  injection e with e1 e2 e3
  subst e1 e3
  exact ⟨hC, hl⟩
end
abbrev bA : ByteArray := ⟨#[97]⟩
abbrev bB : ByteArray := ⟨#[98]⟩
abbrev bE : ByteArray := ⟨#[]⟩
abbrev kOne : List S23 := [⟨1, 1, bE⟩]
abbrev kNul : List S23 := [⟨0, 0, bE⟩]
abbrev rA : List S23 := [⟨2, 0, bA⟩]
abbrev rB : List S23 := [⟨2, 0, bB⟩]
theorem kok1 (a b : Int) (s : ByteArray) (h : s.size ≤ 1) : KOK [⟨a, b, s⟩] := ⟨by simp, fun y hy => by rw [List.mem_singleton.1 hy]; show s.size ≤ _; omega⟩
theorem eok_live : EOK [⟨kOne, rA⟩, ⟨kNul, rB⟩] := ⟨by simp, fun p hp => by
  rcases List.mem_cons.1 hp with rfl | hp
  · exact ⟨kok1 _ _ _ (by decide), kok1 _ _ _ (by decide)⟩
  · rw [List.mem_singleton.1 hp]
    exact ⟨kok1 _ _ _ (by decide), kok1 _ _ _ (by decide)⟩⟩
theorem live_rows1 : (([⟨kOne, rA⟩, ⟨kNul, rB⟩] : List S116).filter fun p => mt kOne p.f0).map (·.f1) = [rA] := by kernel_rfl
theorem live_rows2 : (([⟨kOne, rA⟩, ⟨kNul, rB⟩] : List S116).filter fun p => mt kNul p.f0).map (·.f1) = [] := by kernel_rfl
theorem live_same : r04_Same.f 5 rA rA = some true := by kernel_rfl
theorem ns1 {S S1 : Nat → Prop} {x y : Nat} (z : ∀ k, S k → k < x) (s : ∀ k, S1 k → S k ∨ y ≤ k) (k : Nat) (h1 : x ≤ k) (h2 : k < y) : ¬ S1 k :=
  fun h => (s k h).elim (fun q => by have := z k q; omega) (fun q => by omega)
theorem ns2 {S S1 S2 : Nat → Prop} {x y y2 : Nat} (z : ∀ k, S k → k < x) (s : ∀ k, S1 k → S k ∨ y ≤ k) (s2 : ∀ k, S2 k → S1 k ∨ y2 ≤ k) (hy : y ≤ y2) (k : Nat) (h1 : x ≤ k) (h2 : k < y) : ¬ S2 k :=
  fun h => (s2 k h).elim (fun q => ns1 z s k h1 h2 q) (fun q => by omega)
theorem add0_ (ad : Addr) : ad.add (0 : Int).toNat = ad := by cases ad; simp [Addr.add]
theorem at_one {w : World} {A : Option Addr} {n : Nat} {x : List S23} (hn : 0 < n) (h : Kd.C (Kd.slice 23 k23) w A n [x]) : ∃ ad A0 c0, A = some ad ∧ w.cell? ad = some (.slice A0 x.length c0) ∧ k23.C w A0 x.length x ∧ x.length ≤ c0 := by
  obtain ⟨ad, A0, c0, e, hcell, hl, hC⟩ := at_L3 h 0 (by decide) (by omega)
  have e2 : rd_L3 [x] 0 = x := rfl
  rw [e2] at hcell hl hC
  rw [add0_] at hcell
  exact ⟨ad, A0, c0, e, hcell, hC, hl⟩
theorem drew0_below {w w1 : World} (h : Drawn0 w w1) : Below w.heap.size w w1 := dr_below h
theorem live_any (w : World) (hT : TabOK w) : Calls Tryd.prog 18 #[] w fun r w' => r = .returned (.bool true) ∧ Below w.heap.size w w' := by
  have HT := Lib.hid hT
  clear hT
  go_enter Tryd.func18, Tryd.ntmps18
  go_wp2_with (first
    | ((with_reducible refine gate_callee (f := 19) rfl ?_); refine goesL_ (some 8) rfl rfl Tryd.func19 (by kernel_rfl) rfl #[.int .i64 1, .int .i64 2] rfl (by (try simp only [List.map_toArray, List.map_cons, List.map_nil]); first | done | rfl) ?_; refine (tab_new w 1 2).mono ?_; rintro r' w1 ⟨gT, S, D, rfl, t1, b1⟩; refine ⟨_, rfl, ?_⟩; simp only [Act.put, sa_, sz_, ss_]; have T1 := Lib.hid t1; have B1 := Lib.hid b1; clear t1 b1; have Z0 := Lib.hid (show ∀ k, S k → k < w1.heap.size from fun k hs => (T1.out.dl k (T1.out.sd k hs)).2))
    | ((with_reducible refine gate_dst (N := 12) rfl ?_); refine Kd.R_lit k23 _ 23 ?hg (N := 12) ?hd (xs := ([(⟨1, 1, bE⟩ : S23)] : List S23)) (inner := [.int .i64 1, .int .i64 1, .string bE]) (ok := fun _ => True) (okp := fun _ => True) ?hr ?hp (fun _ hk => hk) trivial (Below.refl _ _) (Nat.le_refl _) (by simp) ?_; (case hd => rfl); (case hg => rfl); (case hr => first | (go_simp; done) | (go_simp; rfl)); (case hp => exact (Reps.c3 (show Kd.M k23 _ _ _ (⟨1, 1, bE⟩ : S23) [.int .i64 1, .int .i64 1, .string bE] from (k23_mkM _ _ _ (⟨1, 1, bE⟩ : S23) )) (Reps.none _ _))); intro v_ w2 hr_ hb_ hg_ hn_; clear hg_ hn_; obtain ⟨A2, c2, hv_⟩ := Kd.R_slice hr_; subst hv_; have R2 := Lib.hid (R_rng hr_); have B2 := Lib.hid hb_; clear hr_ hb_; simp only [Act.put, sa_, sz_, ss_])
    | ((with_reducible refine gate_dst (N := 14) rfl ?_); refine Kd.R_lit k23 _ 23 ?hg (N := 14) ?hd (xs := ([(⟨2, 0, bA⟩ : S23)] : List S23)) (inner := [.int .i64 2, .int .i64 0, .string bA]) (ok := fun _ => True) (okp := fun _ => True) ?hr ?hp (fun _ hk => hk) trivial (Below.refl _ _) (Nat.le_refl _) (by simp) ?_; (case hd => rfl); (case hg => rfl); (case hr => first | (go_simp; done) | (go_simp; rfl)); (case hp => exact (Reps.c3 (show Kd.M k23 _ _ _ (⟨2, 0, bA⟩ : S23) [.int .i64 2, .int .i64 0, .string bA] from (k23_mkM _ _ _ (⟨2, 0, bA⟩ : S23) )) (Reps.none _ _))); intro v_ w3 hr_ hb_ hg_ hn_; clear hg_ hn_; obtain ⟨A3, c3, hv_⟩ := Kd.R_slice hr_; subst hv_; have R3 := Lib.hid (R_rng hr_); have B3 := Lib.hid hb_; clear hr_ hb_; simp only [Act.put, sa_, sz_, ss_])
    | ((with_reducible refine gate_callee (f := 39) rfl ?_); refine goesL_ (some 18) rfl rfl Tryd.func39 (by kernel_rfl) rfl #[.pointer (some ⟨gT, 0, none⟩), .slice A2 kOne.length c2, .slice A3 rA.length c3] rfl (by (try simp only [List.map_toArray, List.map_cons, List.map_nil]); first | done | rfl) ?_; refine (tab_put (key := kOne) (row := rA) ((T1.out.below B2.out).below B3.out) (((HT.out.below B1.out).below B2.out).below B3.out) (by simp) (R_C (Kd.R_below R2.out B3.out)).1 (R_C R2.out).2 (R_C R3.out).1 (R_C R3.out).2 (kok1 _ _ _ (by decide)) (by simp)).mono ?_; rintro r' w4 ⟨rfl, S1, D1, t4, s4, d4, k4, b4⟩; refine ⟨_, rfl, ?_⟩; simp only [Act.put, sa_, sz_, ss_]; have T4 := Lib.hid t4; have S4 := Lib.hid s4; have BW4 := Lib.hid ((below_step (below_step B1.out B2.out) B3.out).trans b4); have R2b := Lib.hid (R_kp (Kd.R_below R2.out B3.out) k4 (fun k hk hs => by have h1 := Z0.out k hs; have h2 := hk.1; omega)); have R3b := Lib.hid (R_kp R3.out k4 (fun k hk hs => by have h1 := Z0.out k hs; have h2 := hk.1; have h3 := B2.out.size; omega)); have Z1 := Lib.hid (show w3.heap.size ≤ w4.heap.size from k4.1); clear t4 s4 d4 k4 b4)
    | ((with_reducible refine gate_dst (N := 21) rfl ?_); refine Kd.R_lit k23 _ 23 ?hg (N := 21) ?hd (xs := ([(⟨0, 0, bE⟩ : S23)] : List S23)) (inner := [.int .i64 0, .int .i64 0, .string bE]) (ok := fun _ => True) (okp := fun _ => True) ?hr ?hp (fun _ hk => hk) trivial (Below.refl _ _) (Nat.le_refl _) (by simp) ?_; (case hd => rfl); (case hg => rfl); (case hr => first | (go_simp; done) | (go_simp; rfl)); (case hp => exact (Reps.c3 (show Kd.M k23 _ _ _ (⟨0, 0, bE⟩ : S23) [.int .i64 0, .int .i64 0, .string bE] from (k23_mkM _ _ _ (⟨0, 0, bE⟩ : S23) )) (Reps.none _ _))); intro v_ w5 hr_ hb_ hg_ hn_; clear hg_ hn_; obtain ⟨A5, c5, hv_⟩ := Kd.R_slice hr_; subst hv_; have R5 := Lib.hid (R_rng hr_); have B5 := Lib.hid hb_; clear hr_ hb_; simp only [Act.put, sa_, sz_, ss_])
    | ((with_reducible refine gate_dst (N := 23) rfl ?_); refine Kd.R_lit k23 _ 23 ?hg (N := 23) ?hd (xs := ([(⟨2, 0, bB⟩ : S23)] : List S23)) (inner := [.int .i64 2, .int .i64 0, .string bB]) (ok := fun _ => True) (okp := fun _ => True) ?hr ?hp (fun _ hk => hk) trivial (Below.refl _ _) (Nat.le_refl _) (by simp) ?_; (case hd => rfl); (case hg => rfl); (case hr => first | (go_simp; done) | (go_simp; rfl)); (case hp => exact (Reps.c3 (show Kd.M k23 _ _ _ (⟨2, 0, bB⟩ : S23) [.int .i64 2, .int .i64 0, .string bB] from (k23_mkM _ _ _ (⟨2, 0, bB⟩ : S23) )) (Reps.none _ _))); intro v_ w6 hr_ hb_ hg_ hn_; clear hg_ hn_; obtain ⟨A6, c6, hv_⟩ := Kd.R_slice hr_; subst hv_; have R6 := Lib.hid (R_rng hr_); have B6 := Lib.hid hb_; clear hr_ hb_; simp only [Act.put, sa_, sz_, ss_])
    | ((with_reducible refine gate_callee (f := 39) rfl ?_); refine goesL_ (some 24) rfl rfl Tryd.func39 (by kernel_rfl) rfl #[.pointer (some ⟨gT, 0, none⟩), .slice A5 kNul.length c5, .slice A6 rB.length c6] rfl (by (try simp only [List.map_toArray, List.map_cons, List.map_nil]); first | done | rfl) ?_; refine (tab_put (key := kNul) (row := rB) ((T4.out.below B5.out).below B6.out) (((HT.out.below BW4.out).below B5.out).below B6.out) (by simp) (R_C (Kd.R_below R5.out B6.out)).1 (R_C R5.out).2 (R_C R6.out).1 (R_C R6.out).2 (kok1 _ _ _ (by decide)) (by simp)).mono ?_; rintro r' w7 ⟨rfl, S2, D2, t7, s7, d7, k7, b7⟩; refine ⟨_, rfl, ?_⟩; simp only [Act.put, sa_, sz_, ss_]; have T7 := Lib.hid t7; have S7 := Lib.hid s7; have BW7 := Lib.hid ((below_step (below_step BW4.out B5.out) B6.out).trans b7); have R2c := Lib.hid (R_kp (Kd.R_below (Kd.R_below R2b.out B5.out) B6.out) k7 (fun k hk => ns1 Z0.out S4.out k hk.1 (Nat.lt_of_lt_of_le hk.2 B3.out.size))); have R3c := Lib.hid (R_kp (Kd.R_below (Kd.R_below R3b.out B5.out) B6.out) k7 (fun k hk => ns1 Z0.out S4.out k (Nat.le_trans B2.out.size hk.1) hk.2)); have Z2 := Lib.hid (show w3.heap.size ≤ w6.heap.size from Nat.le_trans Z1.out (Nat.le_trans B5.out.size B6.out.size)); clear t7 s7 d7 k7 b7)
    | ((with_reducible refine gate_callee (f := 40) rfl ?_); refine goesL_ (some 26) rfl rfl Tryd.func40 (by kernel_rfl) rfl #[.pointer (some ⟨gT, 0, none⟩)] rfl (by (try simp only [List.map_toArray, List.map_cons, List.map_nil]); first | done | rfl) ?_; refine (tab_seal_no T7.out).mono ?_; rintro r' w8 ⟨rfl, t8, k8, b8⟩; refine ⟨_, rfl, ?_⟩; simp only [Act.put, sa_, sz_, ss_]; have T8 := Lib.hid t8; have BW8 := Lib.hid (BW7.out.trans b8); have R2d := Lib.hid (R_kp R2c.out k8 (fun k hk => ns2 Z0.out S4.out S7.out Z2.out k hk.1 (Nat.lt_of_lt_of_le hk.2 B3.out.size))); have R3d := Lib.hid (R_kp R3c.out k8 (fun k hk => ns2 Z0.out S4.out S7.out Z2.out k (Nat.le_trans B2.out.size hk.1) hk.2)); clear t8 k8 b8)
    | ((with_reducible refine gate_callee (f := 37) rfl ?_); refine goesL_ (some 30) rfl rfl Tryd.func37 (by kernel_rfl) rfl #[.pointer (some ⟨gT, 0, none⟩), .slice A2 kOne.length c2] rfl (by (try simp only [List.map_toArray, List.map_cons, List.map_nil]); first | done | rfl) ?_; refine (tab_find (key := kOne) T8.out (HT.out.below BW8.out) eok_live (R_C R2d.out).1 (R_C R2d.out).2 (kok1 _ _ _ (by decide))).mono ?_; rintro r' w9 ⟨v9, rfl, r9, b9⟩; refine ⟨_, rfl, ?_⟩; simp only [Act.put, sa_, sz_, ss_]; have R9 := Lib.hid (live_rows1 ▸ r9 : Kd.R (Kd.slice 23 k23) 24 w9 w8.heap.size (fun _ => True) v9 [rA]); have B9 := Lib.hid b9; obtain ⟨A9, c9, hv9⟩ := Kd.R_slice R9.out; subst hv9; clear r9 b9)
    | ((with_reducible refine gate_dst (N := 36) rfl ?_); refine Kd.R_lit k23 _ 23 ?hg (N := 36) ?hd (xs := ([(⟨0, 0, bE⟩ : S23)] : List S23)) (inner := [.int .i64 0, .int .i64 0, .string bE]) (ok := fun _ => True) (okp := fun _ => True) ?hr ?hp (fun _ hk => hk) trivial (Below.refl _ _) (Nat.le_refl _) (by simp) ?_; (case hd => rfl); (case hg => rfl); (case hr => first | (go_simp; done) | (go_simp; rfl)); (case hp => exact (Reps.c3 (show Kd.M k23 _ _ _ (⟨0, 0, bE⟩ : S23) [.int .i64 0, .int .i64 0, .string bE] from (k23_mkM _ _ _ (⟨0, 0, bE⟩ : S23) )) (Reps.none _ _))); intro v_ w10 hr_ hb_ hg_ hn_; clear hg_ hn_; obtain ⟨A10, c10, hv_⟩ := Kd.R_slice hr_; subst hv_; have R10 := Lib.hid (R_rng hr_); have B10 := Lib.hid hb_; clear hr_ hb_; simp only [Act.put, sa_, sz_, ss_])
    | ((with_reducible refine gate_callee (f := 37) rfl ?_); refine goesL_ (some 37) rfl rfl Tryd.func37 (by kernel_rfl) rfl #[.pointer (some ⟨gT, 0, none⟩), .slice A10 kNul.length c10] rfl (by (try simp only [List.map_toArray, List.map_cons, List.map_nil]); first | done | rfl) ?_; refine (tab_find (key := kNul) ((T8.out.below B9.out).below B10.out) (((HT.out.below BW8.out).below B9.out).below B10.out) eok_live (R_C R10.out).1 (R_C R10.out).2 (kok1 _ _ _ (by decide))).mono ?_; rintro r' w11 ⟨v11, rfl, r11, b11⟩; refine ⟨_, rfl, ?_⟩; simp only [Act.put, sa_, sz_, ss_]; have R11 := Lib.hid (live_rows2 ▸ r11 : Kd.R (Kd.slice 23 k23) 24 w11 w10.heap.size (fun _ => True) v11 []); have B11 := Lib.hid b11; obtain ⟨A11, c11, hv11⟩ := Kd.R_slice R11.out; subst hv11; clear r11 b11)
    | ((with_reducible refine gate_callee (f := 38) rfl ?_); refine goesL_ (some 41) rfl rfl Tryd.func38 (by kernel_rfl) rfl #[.int .i64 0] rfl (by (try simp only [List.map_toArray, List.map_cons, List.map_nil]); first | done | rfl) ?_; refine (w34_code.calls 0 0 w11 rfl).mono ?_; rintro r' w12 ⟨rfl, d12⟩; refine ⟨_, rfl, ?_⟩; simp only [Act.put, sa_, sz_, ss_]; have B12 := Lib.hid (drew0_below d12); clear d12)
    | ((with_reducible refine gate_callee (f := 38) rfl ?_); (refine gate_guard (by rfl) ?_; dsimp only); refine goesL_ (some 45) rfl rfl Tryd.func38 (by kernel_rfl) rfl #[.int .i64 0] rfl (by (try simp only [List.map_toArray, List.map_cons, List.map_nil]); first | done | rfl) ?_; refine (w34_code.calls 0 0 w12 rfl).mono ?_; rintro r' w13 ⟨rfl, d13⟩; refine ⟨_, rfl, ?_⟩; simp only [Act.put, sa_, sz_, ss_]; have B13 := Lib.hid (drew0_below d13); have R9e := Lib.hid (Kd.R_below (Kd.R_below (Kd.R_below (Kd.R_below R9.out B10.out) B11.out) B12.out) B13.out); obtain ⟨ad, A0, c0, e0, hc13, hC0⟩ := at_one (by decide) (R_C R9e.out).1; subst e0; have HC0 := Lib.hid hC0; clear d13 hC0)
    | ((with_reducible refine gate_callee (f := 26) rfl ?_); (refine gate_guard (by rfl) ?_; dsimp only); refine goesL_ (some 58) rfl rfl Tryd.func26 (by kernel_rfl) rfl #[.slice A0 rA.length c0, .slice A3 rA.length c3] rfl (by (try simp only [List.map_toArray, List.map_cons, List.map_nil]); first | done | rfl) ?_; refine (r04_Same.calls 5 A0 c0 rA A3 c3 rA true w13 HC0.out.1 HC0.out.2 (R_C (Kd.R_below (Kd.R_below (Kd.R_below (Kd.R_below (Kd.R_below R3d.out B9.out) B10.out) B11.out) B12.out) B13.out)).1 (R_C R3d.out).2 live_same).mono ?_; rintro r' w14 ⟨rfl, b14⟩; refine ⟨_, rfl, ?_⟩; simp only [Act.put, sa_, sz_, ss_]; have B14 := Lib.hid b14; clear b14))
  go_ret
  exact ⟨rfl, below_step (below_step (below_step (below_step (below_step (below_step BW8.out B9.out) B10.out) B11.out) B12.out) B13.out) B14.out⟩
end Go.Proofs.YtcfgjaggccnoaaaDoor.PTableSteps
namespace Go.Proofs.YtcfgjaggccnoaaaDoor.Open
open Go.RowKit Go.Proofs.YtcfgjaggccnoaaaDoorW.PrintWords
structure Opens {α : Type} (P : Program) (t : TypeId) (K : Kd α) (wf : α → Prop) (n : Nat) : Prop where
  opened : ∀ {H : Type} {enc : TypeId × Value → H} {w : World} {cs : List Value} {x : DataW H × List MemPlace},
    DataW.trod enc P w 0 (fun _ => true) true n t cs = some x → (x.1.weights P t).all (· ≤ reachBytes) = true → ∃ y, K.K w y cs ∧ wf y
structure OpensF {α : Type} (P : Program) (fs : List Field) (off : Nat) (K : Kd α) (wf : α → Prop) (n : Nat) : Prop where
  opened : ∀ {H : Type} {enc : TypeId × Value → H} {w : World} {cs : List Value} {xs : List (DataW H × List MemPlace)},
    off + K.sz ≤ cs.length → xs.length = fs.length →
    (∀ (i : Nat) (f : Field), fs[i]? = some f → DataW.trod enc P w 0 (fun _ => true) true n f.type ((cs.drop f.offset).take (P.cellsOf f.type)) = xs[i]?) →
    (DataW.weightsEach P (fs.map (·.type)) (xs.map (·.1))).all (· ≤ reachBytes) = true → ∃ y, K.K w y ((cs.drop off).take K.sz) ∧ wf y
theorem opens_int {P : Program} {t : TypeId} {k : IntKind} (ht : P.underlying t = some (.int k)) (n : Nat) : Opens P t (Kd.int k) (fun x => (Lit.int k x).wf = true) n := by
  refine ⟨?_⟩
  intro H enc w cs x h _
  obtain ⟨m, rfl, _, hw⟩ := DataW.trod_int ht h
  exact ⟨m, rfl, hw⟩
theorem opens_string {P : Program} {t : TypeId} (ht : P.underlying t = some .string) (n : Nat) : Opens P t Kd.string (fun s => s.size ≤ 140737488351232) n := by
  refine ⟨?_⟩
  intro H enc w cs x h hs
  obtain ⟨s, rfl, rfl, _⟩ := DataW.trod_string ht h
  refine ⟨s, rfl, ?_⟩
  have := List.all_eq_true.1 hs s.data.toList.length (by simp [DataW.weights])
  have h2 : s.data.toList.length ≤ reachBytes := by simpa using this
  rw [Array.length_toList] at h2
  exact h2
theorem weights_all {H : Type} {P : Program} {e : TypeId} : ∀ {l : List (DataW H)}, (DataW.weightsAll P e l).all (· ≤ reachBytes) = true → ∀ d ∈ l, (d.weights P e).all (· ≤ reachBytes) = true
  | [], _, d, hd => by cases hd
  | a :: r, h, d, hd => by
    simp only [DataW.weightsAll, List.all_append, Bool.and_eq_true] at h
    rcases List.mem_cons.1 hd with rfl | hd
    · exact h.1
    · exact weights_all h.2 d hd
theorem list_of {α β : Type} (R : α → β → Prop) : ∀ (xs : List α), (∀ x ∈ xs, ∃ y, R x y) → ∃ ys : List β, ys.length = xs.length ∧ ∀ (i : Nat) (x : α), xs[i]? = some x → ∃ y, ys[i]? = some y ∧ R x y
  | [], _ => ⟨[], rfl, by simp⟩
  | a :: r, h => by
    obtain ⟨y, hy⟩ := h a (by simp)
    obtain ⟨ys, hl, hr⟩ := list_of R r (fun x hx => h x (by simp [hx]))
    refine ⟨y :: ys, by simp [hl], ?_⟩
    intro i x hx
    cases i with
    | zero => simp at hx; subst hx; exact ⟨y, by simp, hy⟩
    | succ i => simp at hx; simpa using hr i x hx
theorem opens_slice {α : Type} {P : Program} {t e : TypeId} {K : Kd α} {wf : α → Prop} {B : Nat} (ht : P.underlying t = some (.slice e)) (hc : P.cellsOf e = K.sz) (hB : P.bytesOf e = B) (n : Nat) (he : Opens P e K wf n) :
    Opens P t (Kd.slice e K) (fun l => l.length * B ≤ 140737488351232 ∧ ∀ x ∈ l, wf x) (n + 1) := by
  refine ⟨?_⟩
  intro H enc w cs x h hs
  rcases DataW.trod_slice ht h with ⟨rfl, _⟩ | ⟨a, len, cap, elems, rest, m, hm, rfl, rfl, hb, hl, hcap, hlen, hel, _, _⟩
  · exact ⟨[], ⟨none, 0, rfl, by simp, rfl, by simp, by simp⟩, by simp, by simp⟩
  · obtain rfl : n = m := by omega
    simp only [DataW.weights, ht] at hs
    have hs2 : (elems.length + rest.length) * B ≤ 140737488351232 ∧ (DataW.weightsAll P e (elems.map (·.1))).all (· ≤ reachBytes) = true := by
      rw [List.all_cons, List.all_append] at hs
      simp only [Bool.and_eq_true, decide_eq_true_eq, List.length_map] at hs
      rw [hB] at hs
      exact ⟨hs.1, hs.2.1⟩
    have each : ∀ (i : Nat) (y : DataW H × List MemPlace), elems[i]? = some y → ∃ cs, (w.cells? 0 (a.add (i * K.sz)) K.sz) = some cs ∧ ∃ z, K.K w z cs ∧ wf z := by
      intro i y hy
      have hi : i < len := by
        have := (List.getElem?_eq_some_iff.1 hy).1
        omega
      have h1 := hel i hi
      rw [hy, hc, Option.bind_eq_some_iff] at h1
      obtain ⟨c, hcs, h2⟩ := h1
      have hw := weights_all hs2.2 y.1 (List.mem_map_of_mem (List.mem_of_getElem? hy))
      exact ⟨c, hcs, he.opened h2 hw⟩
    obtain ⟨ys, hyl, hys⟩ := list_of (fun (i : Nat) (z : α) => ∃ cs, (w.cells? 0 (a.add (i * K.sz)) K.sz) = some cs ∧ K.K w z cs ∧ wf z) (List.range len) (by
      intro i hi
      have hi2 : i < elems.length := by rw [hlen]; exact List.mem_range.1 hi
      obtain ⟨c, h1, z, h2, h3⟩ := each i elems[i] (List.getElem?_eq_getElem hi2)
      exact ⟨z, c, h1, h2, h3⟩)
    rw [List.length_range] at hyl
    have got : ∀ (j : Nat) (p : α), ys[j]? = some p → ∃ cs, (w.cells? 0 (a.add (j * K.sz)) K.sz) = some cs ∧ K.K w p cs ∧ wf p := by
      intro j p hp
      have hj : j < len := by
        have := (List.getElem?_eq_some_iff.1 hp).1
        omega
      obtain ⟨q, hq, hR⟩ := hys j j (by rw [List.getElem?_range hj])
      rw [hp] at hq
      obtain rfl := Option.some.inj hq
      exact hR
    refine ⟨ys, ⟨some a, cap, by rw [hyl], by omega, hyl ▸ rfl, ?_, ?_⟩, ?_, ?_⟩
    · unfold maxLen at hcap
      omega
    · intro _
      refine ⟨a, rfl, ?_⟩
      intro j p hp
      obtain ⟨c, h1, h2, _⟩ := got j p hp
      obtain ⟨_, hl2, hcell⟩ := _root_.Go.World.cells?_some h1
      refine ⟨c, hl2, h2, ?_⟩
      intro i u hu
      have hi : i < K.sz := by
        have := (List.getElem?_eq_some_iff.1 hu).1
        omega
      have := hcell i hi
      rw [Addr.add_add] at this
      rw [this, hu]
    · have : len * B ≤ (elems.length + rest.length) * B := Nat.mul_le_mul_right _ (by omega)
      rw [hyl]
      omega
    · intro x hx
      obtain ⟨j, hj⟩ := List.getElem?_of_mem hx
      obtain ⟨_, _, _, h3⟩ := got j x hj
      exact h3
theorem opensF_one {α : Type} {P : Program} {f : Field} {off : Nat} {K : Kd α} {wf : α → Prop} (ho : f.offset = off) (hc : P.cellsOf f.type = K.sz) (n : Nat) (h : Opens P f.type K wf n) : OpensF P [f] off K wf n := by
  refine ⟨?_⟩
  intro H enc w cs xs _ hx ht hs
  match xs, hx with
  | [y], _ =>
    have := ht 0 f rfl
    rw [ho, hc] at this
    simp only [List.map_cons, List.map_nil, DataW.weightsEach, List.append_nil] at hs
    exact h.opened this hs
theorem opensF_cons {α β : Type} {P : Program} {f : Field} {fs : List Field} {off : Nat} {K : Kd α} {L : Kd β} {wf : α → Prop} {wg : β → Prop} (ho : f.offset = off) (hc : P.cellsOf f.type = K.sz) (n : Nat) (h : Opens P f.type K wf n)
    (r : OpensF P fs (off + K.sz) L wg n) : OpensF P (f :: fs) off (Kd.pair K L) (fun x => wf x.1 ∧ wg x.2) n := by
  refine ⟨?_⟩
  intro H enc w cs xs hl hx ht hs
  have hsz : (Kd.pair K L).sz = K.sz + L.sz := rfl
  rw [hsz] at hl
  match xs, hx with
  | y :: ys, hx =>
    have h0 := ht 0 f rfl
    rw [ho, hc] at h0
    simp only [List.map_cons, DataW.weightsEach, List.all_append, Bool.and_eq_true] at hs
    obtain ⟨a, ha, wa⟩ := h.opened h0 hs.1
    obtain ⟨b, hb, wb⟩ := r.opened (cs := cs) (xs := ys) (by omega) (by simpa using hx) (fun i g hg => by simpa using ht (i + 1) g (by simpa using hg)) hs.2
    refine ⟨(a, b), ⟨_, _, ?_, ha, hb⟩, wa, wb⟩
    rw [hsz, List.take_add, List.drop_drop]
theorem opens_struct {α β : Type} {P : Program} {t : TypeId} {fs : Array Field} {L : Kd β} {wf : β → Prop} (g : α → β) (gi : β → α) (hg : ∀ b, g (gi b) = b) (ht : P.underlying t = some (.struct fs)) (hc : P.cellsOf t = L.sz) (n : Nat)
    (h : OpensF P fs.toList 0 L wf n) : Opens P t (Kd.iso L g) (fun x => wf (g x)) (n + 1) := by
  refine ⟨?_⟩
  intro H enc w cs x hx hs
  obtain ⟨xs, m, hm, rfl, hl, hlen, hf⟩ := DataW.trod_struct ht hx
  obtain rfl : n = m := by omega
  simp only [DataW.weights, ht] at hs
  obtain ⟨b, hb, wb⟩ := h.opened (cs := cs) (xs := xs) (by rw [hl, hc]; omega) (by simpa using hlen) (fun i f hfi => hf i f (by simpa using hfi)) hs
  have e : (cs.drop 0).take L.sz = cs := by rw [List.drop_zero, List.take_of_length_le (by omega)]
  rw [e] at hb
  refine ⟨gi b, ?_, by show wf (g (gi b)); rw [hg]; exact wb⟩
  show L.K w (g (gi b)) cs
  rw [hg]
  exact hb
theorem Opens.imp {α : Type} {P : Program} {t : TypeId} {K L : Kd α} {wf wg : α → Prop} {n : Nat} (h : Opens P t K wf n) (hk : ∀ w x cs, K.K w x cs → L.K w x cs) (hi : ∀ x, wf x → wg x) : Opens P t L wg n := by
  refine ⟨?_⟩
  intro H enc w cs x hx hs
  obtain ⟨y, h1, h2⟩ := h.opened hx hs
  exact ⟨y, hk _ _ _ h1, hi _ h2⟩
theorem opens_zero {α : Type} (P : Program) (t : TypeId) (K : Kd α) (wf : α → Prop) : Opens P t K wf 0 := by
  refine ⟨?_⟩
  intro H enc w cs x h _
  simp [DataW.trod] at h
theorem opens_arg {α : Type} {P : Program} {t : TypeId} {K : Kd α} {wf : α → Prop} (h : ∀ n, Opens P t K wf n) {H : Type} {enc : TypeId × Value → H} {w : World} {v : Value} {d : DataW H} {ps : List MemPlace} {ts : List TypeId} {ds : List (DataW H)} {j : Nat}
    (hsz : (DataW.weightsEach P ts ds).all (· ≤ reachBytes) = true) (hj : ts[j]? = some t) (hd : ds[j]? = some d) (hr : DataW.Trod enc P w 0 (fun _ => true) true t v d ps) : ∃ y, K.K w y v.cells.toList ∧ wf y := by
  obtain ⟨n, hn⟩ := hr
  refine (h n).opened hn ?_
  rw [List.all_eq_true]
  intro m hm
  exact List.all_eq_true.1 hsz m (DataW.weights_mem_each hj hd m hm)
end Go.Proofs.YtcfgjaggccnoaaaDoor.Open
namespace Go.Proofs.YtcfgjaggccnoaaaDoor.PTableSteps
open Go.RowKit Go.Proofs.YtcfgjaggccnoaaaDoorW.PrintWords Go.Proofs.YtcfgjaggccnoaaaDoorW.PrintLast Go.Proofs.YtcfgjaggccnoaaaDoorW.PrintMore
attribute [local go_sem] max2_int min2_int max_two min_two max_three min_three max_four min_four
set_option linter.unusedVariables false
set_option linter.unusedSimpArgs false
set_option maxRecDepth 100000
set_option maxHeartbeats 4000000
theorem k23_heap : Kd.Heap k23 := Kd.heap_iso _ (Kd.heap_pair (Kd.heap_int .i64) (Kd.heap_pair (Kd.heap_int .i64) Kd.heap_string))
def Wf23 (x : S23) : Prop := (Lit.int .i64 x.f0).wf = true ∧ (Lit.int .i64 x.f1).wf = true ∧ x.f2.size ≤ 140737488351232
theorem opens23 : ∀ n, Open.Opens Tryd.prog 23 k23 Wf23 n
  | 0 => Open.opens_zero _ _ _ _
  | n + 1 => (Open.opens_struct (t := 23) (L := (Kd.pair (Kd.int .i64) (Kd.pair (Kd.int .i64) Kd.string))) (fun x : S23 => (x.f0, x.f1, x.f2)) (fun b => (⟨b.1, b.2.1, b.2.2⟩ : S23)) (fun _ => rfl) Tryd.underlying23 (by kernel_rfl) n (Open.opensF_cons rfl (by kernel_rfl) n ((Open.opens_int Tryd.underlying3) n) (Open.opensF_cons rfl (by kernel_rfl) n ((Open.opens_int Tryd.underlying3) n) (Open.opensF_one rfl (by kernel_rfl) n ((Open.opens_string Tryd.underlying9) n))))).imp (fun _ _ _ h => h) (fun _ h => h)
end Go.Proofs.YtcfgjaggccnoaaaDoor.PTableSteps
namespace Go.Proofs.YtcfgjaggccnoaaaDoor.PTableSteps
open Go.RowKit Go.Proofs.YtcfgjaggccnoaaaDoorW.PrintWords Go.Proofs.YtcfgjaggccnoaaaDoorW.PrintLast Go.Proofs.YtcfgjaggccnoaaaDoorW.PrintMore
attribute [local go_sem] max2_int min2_int max_two min_two max_three min_three max_four min_four
set_option linter.unusedVariables false
set_option linter.unusedSimpArgs false
set_option maxRecDepth 100000
set_option maxHeartbeats 4000000
section
variable {w : World} {base gT : Nat} {S D : Nat → Prop} {seed : Int} {n : Nat} {E : List S116} {A0 A1 : Option Addr} {n0 n1 c0 c1 : Nat} {key row : List S23}
def NoD (w : World) (err : Int) (r : Ending) (w' : World) : Prop := r = .returned (.tuple #[.slice none 0 0, .int .i64 err]) ∧ Below w.heap.size w w'
theorem do_find (h : Tab w base S D gT seed n true E) (hT : TabOK w) (hE : EOK E) (hK : Kd.C k23 w A0 key.length key) (hc : key.length ≤ c0) (l1 : KOK key) :
    Calls Tryd.prog 20 #[.pointer (some ⟨gT, 0, none⟩), .agg #[.int .i64 2, .slice A0 key.length c0, .slice A1 n1 c1]] w (FinD w ((E.filter fun p => mt key p.f0).map (·.f1))) := by
  have H := Lib.hid h; have HT := Lib.hid hT; have HE := Lib.hid hE; have HK := Lib.hid (And.intro hK hc); have L1 := Lib.hid l1
  clear h hT hE hK hc l1
  go_enter Tryd.func20, Tryd.ntmps20
  go_wp2_with (first
    | ((with_reducible refine gate_dst (N := 3) rfl ?_); refine box_event ?hg (N := 3) ?hd (cs := #[.int .i64 2, .slice A0 key.length c0, .slice A1 n1 c1]) (t := 39) ?hr ?_; (case hd => rfl); (case hg => rfl); (case hr => first | (go_simp; done) | (go_simp; rfl)); intro g2 hg_ w1 hb_ hl_; have B1 := Lib.hid hl_; have G1 := Lib.hid hb_; obtain ⟨s0, s1, s2, f0, f1, f2⟩ := bw3_ hb_; clear hb_ hl_ hg_; simp only [Act.put, sa_, sz_, ss_])
    | ((with_reducible refine gate_callee (f := 37) rfl ?_); refine goesL_ (some 15) rfl rfl Tryd.func37 (by kernel_rfl) rfl #[.pointer (some ⟨gT, 0, none⟩), .slice A0 key.length c0] rfl (by (try simp only [List.map_toArray, List.map_cons, List.map_nil]); first | done | rfl) ?_; refine (tab_find (H.out.below B1.out) (HT.out.below B1.out) HE.out (Kd.C_below HK.out.1 B1.out) HK.out.2 L1.out).mono ?_; rintro r' w2 ⟨v2, rfl, r2, b2⟩; refine ⟨_, rfl, ?_⟩; simp only [Act.put, sa_, sz_, ss_]; have R2 := Lib.hid r2; have B2 := Lib.hid b2; obtain ⟨A2, c2, hv2⟩ := Kd.R_slice R2.out; subst hv2; clear r2 b2 s0 s1 s2 f0 f1 f2)
    | ((with_reducible refine gate_callee (f := 38) rfl ?_); refine goesL_ (some 20) rfl rfl Tryd.func38 (by kernel_rfl) rfl #[.int .i64 0] rfl (by (try simp only [List.map_toArray, List.map_cons, List.map_nil]); first | done | rfl) ?_; refine (w34_code.calls 0 0 w2 rfl).mono ?_; rintro r' w3 ⟨rfl, d3⟩; refine ⟨_, rfl, ?_⟩; simp only [Act.put, sa_, sz_, ss_]; have B3 := Lib.hid (dr_below d3); clear d3))
  go_ret2
  have R3 := Kd.R_lower (Kd.R_below R2.out B3.out) B1.out.size
  rw [List.length_map] at R3
  exact ⟨_, rfl, R3, below_step (below_step B1.out B2.out) B3.out⟩
theorem do_find_no (h : Tab w base S D gT seed n false E) (m : Nat) :
    Calls Tryd.prog 20 #[.pointer (some ⟨gT, 0, none⟩), .agg #[.int .i64 2, .slice A0 m c0, .slice A1 n1 c1]] w (NoD w 10) := by
  have H := Lib.hid h
  clear h
  go_enter Tryd.func20, Tryd.ntmps20
  go_wp2_with (first
    | ((with_reducible refine gate_dst (N := 3) rfl ?_); refine box_event ?hg (N := 3) ?hd (cs := #[.int .i64 2, .slice A0 m c0, .slice A1 n1 c1]) (t := 39) ?hr ?_; (case hd => rfl); (case hg => rfl); (case hr => first | (go_simp; done) | (go_simp; rfl)); intro g2 hg_ w1 hb_ hl_; have B1 := Lib.hid hl_; have G1 := Lib.hid hb_; obtain ⟨s0, s1, s2, f0, f1, f2⟩ := bw3_ hb_; clear hb_ hl_ hg_; simp only [Act.put, sa_, sz_, ss_])
    | ((with_reducible refine gate_callee (f := 37) rfl ?_); refine goesL_ (some 15) rfl rfl Tryd.func37 (by kernel_rfl) rfl #[.pointer (some ⟨gT, 0, none⟩), .slice A0 m c0] rfl (by (try simp only [List.map_toArray, List.map_cons, List.map_nil]); first | done | rfl) ?_; refine (tab_find_no (H.out.below B1.out) A0 m c0).mono ?_; rintro r' w2 ⟨rfl, b2⟩; refine ⟨_, rfl, ?_⟩; simp only [Act.put, sa_, sz_, ss_]; have B2 := Lib.hid b2; clear b2 s0 s1 s2 f0 f1 f2)
    | ((with_reducible refine gate_callee (f := 38) rfl ?_); refine goesL_ (some 20) rfl rfl Tryd.func38 (by kernel_rfl) rfl #[.int .i64 10] rfl (by (try simp only [List.map_toArray, List.map_cons, List.map_nil]); first | done | rfl) ?_; refine (w34_code.calls 10 10 w2 rfl).mono ?_; rintro r' w3 ⟨rfl, d3⟩; refine ⟨_, rfl, ?_⟩; simp only [Act.put, sa_, sz_, ss_]; have B3 := Lib.hid (dr_below d3); clear d3))
  go_ret2
  exact ⟨rfl, below_step (below_step B1.out B2.out) B3.out⟩
def WrD (w : World) (base : Nat) (S D : Nat → Prop) (gT : Nat) (seed : Int) (n : Nat) (sl : Bool) (E : List S116) (r : Ending) (w' : World) : Prop :=
  r = .returned (.tuple #[.slice none 0 0, .int .i64 0]) ∧ ∃ S' D', Tab w' base S' D' gT seed n sl E ∧ (∀ k, S' k → S k ∨ w.heap.size ≤ k) ∧ (∀ k, D' k → D k ∨ w.heap.size ≤ k) ∧ Kp S w w' ∧ Below base w w'
theorem do_seal (h : Tab w base S D gT seed n false E) (m : Nat) (hb : base ≤ w.heap.size) :
    Calls Tryd.prog 20 #[.pointer (some ⟨gT, 0, none⟩), .agg #[.int .i64 1, .slice A0 m c0, .slice A1 n1 c1]] w (WrD w base S D gT seed n true E) := by
  have H := Lib.hid h; have HB := Lib.hid hb
  clear h hb
  go_enter Tryd.func20, Tryd.ntmps20
  go_wp2_with (first
    | ((with_reducible refine gate_dst (N := 3) rfl ?_); refine box_event ?hg (N := 3) ?hd (cs := #[.int .i64 1, .slice A0 m c0, .slice A1 n1 c1]) (t := 39) ?hr ?_; (case hd => rfl); (case hg => rfl); (case hr => first | (go_simp; done) | (go_simp; rfl)); intro g2 hg_ w1 hb_ hl_; have B1 := Lib.hid hl_; have G1 := Lib.hid hb_; obtain ⟨s0, s1, s2, f0, f1, f2⟩ := bw3_ hb_; clear hb_ hl_ hg_; simp only [Act.put, sa_, sz_, ss_])
    | ((with_reducible refine gate_callee (f := 40) rfl ?_); refine goesL_ (some 25) rfl rfl Tryd.func40 (by kernel_rfl) rfl #[.pointer (some ⟨gT, 0, none⟩)] rfl (by (try simp only [List.map_toArray, List.map_cons, List.map_nil]); first | done | rfl) ?_; refine (tab_seal_no (H.out.below B1.out)).mono ?_; rintro r' w2 ⟨rfl, t2, k2, b2⟩; refine ⟨_, rfl, ?_⟩; simp only [Act.put, sa_, sz_, ss_]; have T2 := Lib.hid t2; have K2 := Lib.hid k2; have B2 := Lib.hid b2; clear t2 k2 b2 s0 s1 s2 f0 f1 f2)
    | ((with_reducible refine gate_callee (f := 38) rfl ?_); refine goesL_ (some 26) rfl rfl Tryd.func38 (by kernel_rfl) rfl #[.int .i64 0] rfl (by (try simp only [List.map_toArray, List.map_cons, List.map_nil]); first | done | rfl) ?_; refine (w34_code.calls 0 0 w2 rfl).mono ?_; rintro r' w3 ⟨rfl, d3⟩; refine ⟨_, rfl, ?_⟩; simp only [Act.put, sa_, sz_, ss_]; have B3 := Lib.hid (dr_below d3); clear d3))
  go_ret2
  have k1 : Kp S w w1 := Kp.of_below B1.out
  exact ⟨rfl, S, D, T2.out.below B3.out, fun k hk => .inl hk, fun k hk => .inl hk, (k1.trans K2.out fun x hx => .inl hx).trans (Kp.of_below B3.out : Kp S w2 _) fun x hx => .inl hx, ((B1.out.mono HB.out).trans B2.out).trans (B3.out.mono (Nat.le_trans HB.out (Nat.le_trans B1.out.size K2.out.1)))⟩
theorem do_seal_yes (h : Tab w base S D gT seed n true E) (m : Nat) :
    Calls Tryd.prog 20 #[.pointer (some ⟨gT, 0, none⟩), .agg #[.int .i64 1, .slice A0 m c0, .slice A1 n1 c1]] w (NoD w 10) := by
  have H := Lib.hid h
  clear h
  go_enter Tryd.func20, Tryd.ntmps20
  go_wp2_with (first
    | ((with_reducible refine gate_dst (N := 3) rfl ?_); refine box_event ?hg (N := 3) ?hd (cs := #[.int .i64 1, .slice A0 m c0, .slice A1 n1 c1]) (t := 39) ?hr ?_; (case hd => rfl); (case hg => rfl); (case hr => first | (go_simp; done) | (go_simp; rfl)); intro g2 hg_ w1 hb_ hl_; have B1 := Lib.hid hl_; have G1 := Lib.hid hb_; obtain ⟨s0, s1, s2, f0, f1, f2⟩ := bw3_ hb_; clear hb_ hl_ hg_; simp only [Act.put, sa_, sz_, ss_])
    | ((with_reducible refine gate_callee (f := 40) rfl ?_); refine goesL_ (some 25) rfl rfl Tryd.func40 (by kernel_rfl) rfl #[.pointer (some ⟨gT, 0, none⟩)] rfl (by (try simp only [List.map_toArray, List.map_cons, List.map_nil]); first | done | rfl) ?_; refine (tab_seal_yes (H.out.below B1.out)).mono ?_; rintro r' w2 ⟨rfl, rfl⟩; refine ⟨_, rfl, ?_⟩; simp only [Act.put, sa_, sz_, ss_]; clear s0 s1 s2 f0 f1 f2)
    | ((with_reducible refine gate_callee (f := 38) rfl ?_); refine goesL_ (some 26) rfl rfl Tryd.func38 (by kernel_rfl) rfl #[.int .i64 10] rfl (by (try simp only [List.map_toArray, List.map_cons, List.map_nil]); first | done | rfl) ?_; refine (w34_code.calls 10 10 w2 rfl).mono ?_; rintro r' w3 ⟨rfl, d3⟩; refine ⟨_, rfl, ?_⟩; simp only [Act.put, sa_, sz_, ss_]; have B3 := Lib.hid (dr_below d3); clear d3))
  go_ret2
  exact ⟨rfl, below_step B1.out B3.out⟩
theorem do_put (h : Tab w base S D gT seed n false E) (hT : TabOK w) (hE : E.length ≤ 1000) (hb : base ≤ w.heap.size) {d : Int} (h1 : d ≠ 1) (h2 : d ≠ 2) (hK : Kd.C k23 w A0 key.length key) (hc : key.length ≤ c0) (hR : Kd.C k23 w A1 row.length row) (hc' : row.length ≤ c1) (l1 : KOK key) (l2 : row.length ≤ 1000) :
    Calls Tryd.prog 20 #[.pointer (some ⟨gT, 0, none⟩), .agg #[.int .i64 d, .slice A0 key.length c0, .slice A1 row.length c1]] w (WrD w base S D gT seed n false (E ++ [⟨key, row⟩])) := by
  have H := Lib.hid h; have HB := Lib.hid hb; have HT := Lib.hid hT; have HE := Lib.hid hE; have HK := Lib.hid (And.intro hK hc); have HR := Lib.hid (And.intro hR hc'); have L1 := Lib.hid (And.intro l1 l2)
  have e1 : (d == 1) = false := beq_eq_false_iff_ne.2 h1
  have e2 : (d == 2) = false := beq_eq_false_iff_ne.2 h2
  clear h hb hT hE hK hc hR hc' l1 l2
  go_enter Tryd.func20, Tryd.ntmps20
  go_wp2_with (first
    | ((with_reducible refine gate_dst (N := 3) rfl ?_); refine box_event ?hg (N := 3) ?hd (cs := #[.int .i64 d, .slice A0 key.length c0, .slice A1 row.length c1]) (t := 39) ?hr ?_; (case hd => rfl); (case hg => rfl); (case hr => first | (go_simp; done) | (go_simp; rfl)); intro g2 hg_ w1 hb_ hl_; have B1 := Lib.hid hl_; have G1 := Lib.hid hb_; obtain ⟨s0, s1, s2, f0, f1, f2⟩ := bw3_ hb_; clear hb_ hl_ hg_; simp only [Act.put, sa_, sz_, ss_])
    | ((with_reducible refine gate_callee (f := 39) rfl ?_); refine goesL_ (some 32) rfl rfl Tryd.func39 (by kernel_rfl) rfl #[.pointer (some ⟨gT, 0, none⟩), .slice A0 key.length c0, .slice A1 row.length c1] rfl (by (try simp only [List.map_toArray, List.map_cons, List.map_nil]); first | done | rfl) ?_; refine (tab_put (H.out.below B1.out) (HT.out.below B1.out) HE.out (Kd.C_below HK.out.1 B1.out) HK.out.2 (Kd.C_below HR.out.1 B1.out) HR.out.2 L1.out.1 L1.out.2).mono ?_; rintro r' w2 ⟨rfl, S2, D2, t2, s2', d2, k2, b2⟩; refine ⟨_, rfl, ?_⟩; simp only [Act.put, sa_, sz_, ss_]; have T2 := Lib.hid t2; have S2_ := Lib.hid (And.intro s2' d2); have K2 := Lib.hid k2; have B2 := Lib.hid b2; clear t2 s2' d2 k2 b2 s0 s1 s2 f0 f1 f2)
    | ((with_reducible refine gate_callee (f := 38) rfl ?_); refine goesL_ (some 33) rfl rfl Tryd.func38 (by kernel_rfl) rfl #[.int .i64 0] rfl (by (try simp only [List.map_toArray, List.map_cons, List.map_nil]); first | done | rfl) ?_; refine (w34_code.calls 0 0 w2 rfl).mono ?_; rintro r' w3 ⟨rfl, d3⟩; refine ⟨_, rfl, ?_⟩; simp only [Act.put, sa_, sz_, ss_]; have B3 := Lib.hid (dr_below d3); clear d3))
  go_ret2
  have k1 : Kp S w w1 := Kp.of_below B1.out
  have hz := B1.out.size
  exact ⟨rfl, S2, D2, T2.out.below B3.out, fun k hk => (S2_.out.1 k hk).imp id fun q => Nat.le_trans hz q, fun k hk => (S2_.out.2 k hk).imp id fun q => Nat.le_trans hz q, (k1.trans K2.out fun x hx => .inl hx).trans (Kp.of_below B3.out : Kp S w2 _) fun x hx => .inl hx, ((B1.out.mono HB.out).trans B2.out).trans (B3.out.mono (Nat.le_trans HB.out (Nat.le_trans hz K2.out.1)))⟩
theorem do_put_sealed (h : Tab w base S D gT seed n true E) {d : Int} (h1 : d ≠ 1) (h2 : d ≠ 2) (m m' : Nat) :
    Calls Tryd.prog 20 #[.pointer (some ⟨gT, 0, none⟩), .agg #[.int .i64 d, .slice A0 m c0, .slice A1 m' c1]] w (NoD w 10) := by
  have H := Lib.hid h
  have e1 : (d == 1) = false := beq_eq_false_iff_ne.2 h1
  have e2 : (d == 2) = false := beq_eq_false_iff_ne.2 h2
  clear h
  go_enter Tryd.func20, Tryd.ntmps20
  go_wp2_with (first
    | ((with_reducible refine gate_dst (N := 3) rfl ?_); refine box_event ?hg (N := 3) ?hd (cs := #[.int .i64 d, .slice A0 m c0, .slice A1 m' c1]) (t := 39) ?hr ?_; (case hd => rfl); (case hg => rfl); (case hr => first | (go_simp; done) | (go_simp; rfl)); intro g2 hg_ w1 hb_ hl_; have B1 := Lib.hid hl_; have G1 := Lib.hid hb_; obtain ⟨s0, s1, s2, f0, f1, f2⟩ := bw3_ hb_; clear hb_ hl_ hg_; simp only [Act.put, sa_, sz_, ss_])
    | ((with_reducible refine gate_callee (f := 39) rfl ?_); refine goesL_ (some 32) rfl rfl Tryd.func39 (by kernel_rfl) rfl #[.pointer (some ⟨gT, 0, none⟩), .slice A0 m c0, .slice A1 m' c1] rfl (by (try simp only [List.map_toArray, List.map_cons, List.map_nil]); first | done | rfl) ?_; refine (tab_put_sealed (H.out.below B1.out) A0 A1 m m' c0 c1).mono ?_; rintro r' w2 ⟨rfl, rfl⟩; refine ⟨_, rfl, ?_⟩; simp only [Act.put, sa_, sz_, ss_]; clear s0 s1 s2 f0 f1 f2)
    | ((with_reducible refine gate_callee (f := 38) rfl ?_); refine goesL_ (some 33) rfl rfl Tryd.func38 (by kernel_rfl) rfl #[.int .i64 10] rfl (by (try simp only [List.map_toArray, List.map_cons, List.map_nil]); first | done | rfl) ?_; refine (w34_code.calls 10 10 w2 rfl).mono ?_; rintro r' w3 ⟨rfl, d3⟩; refine ⟨_, rfl, ?_⟩; simp only [Act.put, sa_, sz_, ss_]; have B3 := Lib.hid (dr_below d3); clear d3))
  go_ret2
  exact ⟨rfl, below_step B1.out B3.out⟩
end
end Go.Proofs.YtcfgjaggccnoaaaDoor.PTableSteps
namespace Go.Proofs.YtcfgjaggccnoaaaDoor.PTableSteps
open Go.RowKit Go.Proofs.YtcfgjaggccnoaaaDoorW.PrintWords Go.Proofs.YtcfgjaggccnoaaaDoorW.PrintLast Go.Proofs.YtcfgjaggccnoaaaDoorW.PrintMore
attribute [local go_sem] max2_int min2_int max_two min_two max_three min_three max_four min_four
set_option linter.unusedVariables false
set_option linter.unusedSimpArgs false
set_option maxRecDepth 100000
set_option maxHeartbeats 4000000
theorem same1 (x : S23) : r01_Same.f x.f0 x.f1 x.f2 x.f0 x.f1 x.f2 = some true := by
  unfold r01_Same.f
  rw [if_pos rfl, if_pos rfl]
  simp
theorem same_l0 (l : List S23) (hl : l.length ≤ 1000) (d : Nat) : ∀ (k i : Nat), l.length = i + d → d + 1 ≤ k → r04_Same.l0 k l l (i : Int) = some true := by
  induction d with
  | zero =>
    intro k i hd hk
    obtain ⟨k, rfl⟩ : ∃ m, k = m + 1 := ⟨k - 1, by omega⟩
    simp only [r04_Same.l0]
    rw [if_neg (by omega)]
  | succ d ih =>
    intro k i hd hk
    obtain ⟨k, rfl⟩ : ∃ m, k = m + 1 := ⟨k - 1, by omega⟩
    simp only [r04_Same.l0]
    rw [if_pos (by omega), if_pos (by omega), if_pos (by omega), same1, bs, if_pos rfl, w64 (by omega) (by omega), show (i : Int) + 1 = ((i + 1 : Nat) : Int) by omega, ih k (i + 1) (by omega) (by omega)]
theorem same_self (l : List S23) (hl : l.length ≤ 1000) (k : Nat) (hk : l.length + 1 ≤ k) : r04_Same.f k l l = some true := by
  unfold r04_Same.f
  rw [if_pos rfl, show (0 : Int) = ((0 : Nat) : Int) from rfl, same_l0 l hl l.length k 0 (by omega) hk]
theorem samelist_l0 (L : List (List S23)) (hL : L.length ≤ 1000) (hr : ∀ r ∈ L, r.length ≤ 1000) (d : Nat) : ∀ (k i : Nat), L.length = i + d → d + 1010 ≤ k → r04_SameList.l0 k L L (i : Int) = some true := by
  induction d with
  | zero =>
    intro k i hd hk
    obtain ⟨k, rfl⟩ : ∃ m, k = m + 1 := ⟨k - 1, by omega⟩
    simp only [r04_SameList.l0]
    rw [if_neg (by omega)]
  | succ d ih =>
    intro k i hd hk
    obtain ⟨k, rfl⟩ : ∃ m, k = m + 1 := ⟨k - 1, by omega⟩
    have hi : i < L.length := by omega
    have h1 := hr _ (List.getElem_mem hi)
    simp only [r04_SameList.l0]
    rw [if_pos (by omega), if_pos (by omega), if_pos (by omega), getL L i hi, same_self _ h1 k (by omega), bs, if_pos rfl, w64 (by omega) (by omega), show (i : Int) + 1 = ((i + 1 : Nat) : Int) by omega, ih k (i + 1) (by omega) (by omega)]
theorem samelist_self (L : List (List S23)) (hL : L.length ≤ 1000) (hr : ∀ r ∈ L, r.length ≤ 1000) (k : Nat) (hk : L.length + 1010 ≤ k) : r04_SameList.f k L L = some true := by
  unfold r04_SameList.f
  rw [if_pos rfl, show (0 : Int) = ((0 : Nat) : Int) from rfl, samelist_l0 L hL hr L.length k 0 (by omega) hk]
theorem get39 (l : List S39) (i : Nat) (h : i < l.length) : rd_T39 l (i : Int) = l[i] := by
  unfold rd_T39
  rw [Int.toNat_natCast, List.getD_eq_getElem?_getD, List.getElem?_eq_getElem h]
  rfl
theorem rmuch_l0 (l : List S39) (hl : l.length ≤ 40) (hs : ∀ s ∈ l, (∀ y ∈ s.f1, y.f2.size ≤ 140737488351232) ∧ ∀ y ∈ s.f2, y.f2.size ≤ 140737488351232) (d : Nat) : ∀ (k i : Nat), l.length = i + d → d + 3001 ≤ k →
    ∃ b, r34_Much.l0 k l ((l.take i).map (·.f1)) (i : Int) = some b ∧ (b = false → (∀ j (h : j < l.length), i ≤ j → l[j].f2.length ≤ 40) ∧ ∀ s ∈ l, s.f1.length ≤ 40) := by
  induction d with
  | zero =>
    intro k i hd hk
    obtain ⟨k, rfl⟩ : ∃ m, k = m + 1 := ⟨k - 1, by omega⟩
    simp only [r34_Much.l0]
    rw [if_neg (by omega)]
    obtain ⟨b, hb, hp⟩ := much_is ((l.take i).map (·.f1)) (fun r hr => by
      obtain ⟨s, h1, rfl⟩ := List.mem_map.1 hr
      exact (hs s (List.mem_of_mem_take h1)).1) (by rw [List.length_map, List.length_take]; omega) k (by omega)
    rw [hb, bs]
    refine ⟨b, rfl, fun hf => ⟨fun j h hj => by omega, fun s h => ?_⟩⟩
    refine (hp hf).2.1 s.f1 (List.mem_map.2 ⟨s, ?_, rfl⟩)
    rw [List.take_of_length_le (by omega)]
    exact h
  | succ d ih =>
    intro k i hd hk
    obtain ⟨k, rfl⟩ : ∃ m, k = m + 1 := ⟨k - 1, by omega⟩
    have hi : i < l.length := by omega
    have hsi := hs _ (List.getElem_mem hi)
    simp only [r34_Much.l0]
    rw [if_pos (by omega), if_pos (by omega), if_pos (by rw [List.length_map, List.length_take]; omega), get39 l i hi]
    by_cases c : (l[i].f2.length : Int) > 40
    · rw [if_pos c]
      exact ⟨true, rfl, fun h => by cases h⟩
    · rw [if_neg c]
      obtain ⟨b, hb, _⟩ := much_is [l[i].f2] (by simpa using hsi.2) (by simp) k (by omega)
      rw [hb, bs]
      cases b with
      | true => exact ⟨true, by rw [if_pos rfl], fun h => by cases h⟩
      | false =>
        obtain ⟨b, h1, h2⟩ := ih k (i + 1) (by omega) (by omega)
        have e : (l.take i).map (·.f1) ++ [l[i].f1] = (l.take (i + 1)).map (·.f1) := by
          rw [List.take_add_one, List.getElem?_eq_getElem hi, List.map_append]
          rfl
        rw [if_neg (by simp), e, w64 (by omega) (by omega), show (i : Int) + 1 = ((i + 1 : Nat) : Int) by omega, h1]
        refine ⟨b, rfl, fun hf => ⟨fun j h hj => ?_, (h2 hf).2⟩⟩
        by_cases q : j = i
        · subst q; omega
        · exact (h2 hf).1 j h (by omega)
theorem rmuch_is (l : List S39) (hs : ∀ s ∈ l, (∀ y ∈ s.f1, y.f2.size ≤ 140737488351232) ∧ ∀ y ∈ s.f2, y.f2.size ≤ 140737488351232) (k : Nat) (hk : 3100 ≤ k) :
    ∃ b, r34_Much.f k l = some b ∧ (b = false → l.length ≤ 40 ∧ ∀ s ∈ l, s.f1.length ≤ 40 ∧ s.f2.length ≤ 40) := by
  unfold r34_Much.f
  by_cases c : (l.length : Int) > 40
  · rw [if_pos c]
    exact ⟨true, rfl, fun h => by cases h⟩
  · rw [if_neg c]
    obtain ⟨b, h1, h2⟩ := rmuch_l0 l (by omega) hs l.length k 0 (by omega) (by omega)
    rw [show (0 : Int) = ((0 : Nat) : Int) from rfl]
    refine ⟨b, h1, fun hf => ⟨by omega, fun s h => ⟨(h2 hf).2 s h, ?_⟩⟩⟩
    obtain ⟨j, hj, rfl⟩ := List.getElem_of_mem h
    exact (h2 hf).1 j hj (Nat.zero_le _)
end Go.Proofs.YtcfgjaggccnoaaaDoor.PTableSteps
namespace Go.Proofs.YtcfgjaggccnoaaaDoor.PTableSteps
open Go.RowKit Go.Proofs.YtcfgjaggccnoaaaDoorW.PrintWords Go.Proofs.YtcfgjaggccnoaaaDoorW.PrintLast Go.Proofs.YtcfgjaggccnoaaaDoorW.PrintMore
attribute [local go_sem] max2_int min2_int max_two min_two max_three min_three max_four min_four
set_option linter.unusedVariables false
set_option linter.unusedSimpArgs false
set_option maxRecDepth 100000
set_option maxHeartbeats 4000000
def stp (sl : Bool) (E : List S116) (s : S39) : Bool × List S116 × List (List S23) × Int :=
  if s.f0 = 2 then (if sl = true then (sl, E, (E.filter fun p => mt s.f1 p.f0).map (·.f1), 0) else (sl, E, [], 10)) else if sl = true then (sl, E, [], 10) else if s.f0 = 1 then (true, E, [], 0) else (false, E ++ [⟨s.f1, s.f2⟩], [], 0)
def StpD (w : World) (base : Nat) (S D : Nat → Prop) (gT : Nat) (seed : Int) (n : Nat) (q : Bool × List S116 × List (List S23) × Int) (r : Ending) (w' : World) : Prop :=
  ∃ v, r = .returned (.tuple #[v, .int .i64 q.2.2.2]) ∧ Kd.R (Kd.slice 23 k23) 24 w' w.heap.size (fun _ => True) v q.2.2.1 ∧ ∃ S' D', Tab w' base S' D' gT seed n q.1 q.2.1 ∧ (∀ k, S' k → S k ∨ w.heap.size ≤ k) ∧ (∀ k, D' k → D k ∨ w.heap.size ≤ k) ∧ Kp S w w' ∧ Below base w w'
section
variable {w : World} {base gT : Nat} {S D : Nat → Prop} {seed : Int} {n : Nat} {sl : Bool} {E : List S116} {A0 A1 : Option Addr} {c0 c1 : Nat}
theorem stp_no {err : Int} {r : Ending} {w' : World} (h : Tab w base S D gT seed n sl E) (hb : base ≤ w.heap.size) (hr : NoD w err r w') : StpD w base S D gT seed n (sl, E, [], err) r w' :=
  ⟨_, hr.1, Kd.R_nil _ _ _ _ _, S, D, h.below hr.2, fun k hk => .inl hk, fun k hk => .inl hk, Kp.of_below hr.2, hr.2.mono hb⟩
theorem stp_wr {E' : List S116} {sl' : Bool} {r : Ending} {w' : World} (hr : WrD w base S D gT seed n sl' E' r w') : StpD w base S D gT seed n (sl', E', [], 0) r w' := by
  obtain ⟨e, S', D', h1, h2, h3, h4, h5⟩ := hr
  exact ⟨_, e, Kd.R_nil _ _ _ _ _, S', D', h1, h2, h3, h4, h5⟩
theorem do_any (h : Tab w base S D gT seed n sl E) (hT : TabOK w) (hE : EOK E) (hb : base ≤ w.heap.size) (s : S39) (hK : Kd.C k23 w A0 s.f1.length s.f1) (hc : s.f1.length ≤ c0) (hR : Kd.C k23 w A1 s.f2.length s.f2) (hc' : s.f2.length ≤ c1) (l1 : KOK s.f1) (l2 : KOK s.f2) :
    Calls Tryd.prog 20 #[.pointer (some ⟨gT, 0, none⟩), .agg #[.int .i64 s.f0, .slice A0 s.f1.length c0, .slice A1 s.f2.length c1]] w (StpD w base S D gT seed n (stp sl E s)) := by
  unfold stp
  by_cases q2 : s.f0 = 2
  · rw [if_pos q2, q2]
    cases sl with
    | true =>
      rw [if_pos rfl]
      refine (do_find h hT hE hK hc l1).mono ?_
      rintro r w' ⟨v, e, hr, hbl⟩
      exact ⟨v, e, hr, S, D, h.below hbl, fun k hk => .inl hk, fun k hk => .inl hk, Kp.of_below hbl, hbl.mono hb⟩
    | false =>
      rw [if_neg (by simp)]
      exact (do_find_no h _).mono fun r w' hr => stp_no h hb hr
  · rw [if_neg q2]
    cases sl with
    | true =>
      rw [if_pos rfl]
      by_cases q1 : s.f0 = 1
      · rw [q1]
        exact (do_seal_yes h _).mono fun r w' hr => stp_no h hb hr
      · exact (do_put_sealed h q1 q2 _ _).mono fun r w' hr => stp_no h hb hr
    | false =>
      rw [if_neg (by simp)]
      by_cases q1 : s.f0 = 1
      · rw [if_pos q1, q1]
        exact (do_seal h _ hb).mono fun r w' hr => stp_wr hr
      · rw [if_neg q1]
        exact (do_put h hT hE.1 hb q1 q2 hK hc hR hc' l1 l2.1).mono fun r w' hr => stp_wr hr
end
theorem stp_len (sl : Bool) (E : List S116) (s : S39) : (stp sl E s).2.1.length ≤ E.length + 1 := by
  unfold stp
  split
  · split <;> exact Nat.le_succ _
  · split
    · exact Nat.le_succ _
    · split
      · exact Nat.le_succ _
      · show (E ++ [_]).length ≤ _
        simp
theorem stp_ok {m : Nat} {sl : Bool} {E : List S116} {s : S39} (hE : EOK E) (hm : E.length ≤ m) (hm2 : m < 1000) (l1 : KOK s.f1) (l2 : KOK s.f2) : EOK (stp sl E s).2.1 ∧ (stp sl E s).2.1.length ≤ m + 1 ∧ (stp sl E s).2.2.1.length ≤ 1000 ∧ ∀ r, r ∈ (stp sl E s).2.2.1 → r.length ≤ 1000 := by
  have h1 := stp_len sl E s
  refine ⟨⟨by omega, ?_⟩, by omega, ?_⟩
  · unfold stp
    split
    · split <;> exact hE.2
    · split
      · exact hE.2
      · split
        · exact hE.2
        · intro p hp
          rcases List.mem_append.1 hp with hp | hp
          · exact hE.2 p hp
          · rw [List.mem_singleton.1 hp]
            exact ⟨l1, l2⟩
  · have hnil : ([] : List (List S23)).length ≤ 1000 ∧ ∀ r, r ∈ ([] : List (List S23)) → r.length ≤ 1000 := ⟨by simp, fun r hr => by cases hr⟩
    unfold stp
    split
    · split
      · refine ⟨?_, fun r hr => ?_⟩
        · show ((E.filter _).map _).length ≤ _
          rw [List.length_map]
          have := List.length_filter_le (fun p : S116 => mt s.f1 p.f0) E
          omega
        · obtain ⟨p, hp, rfl⟩ := List.mem_map.1 hr
          exact (hE.2 p (List.mem_filter.1 hp).1).2.1
      · exact hnil
    · split
      · exact hnil
      · split <;> exact hnil
theorem stp_null {sl : Bool} {E : List S116} {s : S39} (h : whB s.f1 = false) (hd : s.f0 = 2) : (stp sl E s).2.2.1 = [] := by
  unfold stp
  rw [if_pos hd]
  split
  · show (E.filter _).map _ = []
    rw [List.map_eq_nil_iff, List.filter_eq_nil_iff]
    intro p _ hp
    have := mt_whole hp
    rw [h] at this
    cases this
  · rfl
end Go.Proofs.YtcfgjaggccnoaaaDoor.PTableSteps
namespace Go.Proofs.YtcfgjaggccnoaaaDoor.PTableSteps
open Go.RowKit Go.Proofs.YtcfgjaggccnoaaaDoorW.PrintWords Go.Proofs.YtcfgjaggccnoaaaDoorW.PrintLast Go.Proofs.YtcfgjaggccnoaaaDoorW.PrintMore
attribute [local go_sem] max2_int min2_int max_two min_two max_three min_three max_four min_four
set_option linter.unusedVariables false
set_option linter.unusedSimpArgs false
set_option maxRecDepth 100000
set_option maxHeartbeats 4000000
def Two (w W : World) (gx gy : Nat) (a b : Int) (nx ny : Nat) (qx qy : Bool × List S116) : Prop :=
  ∃ bx bY Sx Dx Sy Dy, Tab W bx Sx Dx gx a nx qx.1 qx.2 ∧ Tab W bY Sy Dy gy b ny qy.1 qy.2 ∧ (∀ k, Dx k → ¬ Dy k) ∧ (w.heap.size ≤ bx ∧ bx ≤ W.heap.size) ∧ (w.heap.size ≤ bY ∧ bY ≤ W.heap.size) ∧ Below w.heap.size w W
section
variable {w W : World} {gx gy nx ny : Nat} {a b : Int} {qx qy : Bool × List S116}
theorem Two.bl (h : Two w W gx gy a b nx ny qx qy) : Below w.heap.size w W := by
  obtain ⟨_, _, _, _, _, _, _, _, _, _, _, h⟩ := h
  exact h
theorem Two.below {W' : World} (h : Two w W gx gy a b nx ny qx qy) (hb : Below W.heap.size W W') : Two w W' gx gy a b nx ny qx qy := by
  obtain ⟨bx, bY, Sx, Dx, Sy, Dy, h1, h2, h3, h4, h5, h6⟩ := h
  exact ⟨bx, bY, Sx, Dx, Sy, Dy, h1.below hb, h2.below hb, h3, ⟨h4.1, Nat.le_trans h4.2 hb.size⟩, ⟨h5.1, Nat.le_trans h5.2 hb.size⟩, below_step h6 hb⟩
theorem Two.swap (h : Two w W gx gy a b nx ny qx qy) : Two w W gy gx b a ny nx qy qx := by
  obtain ⟨bx, bY, Sx, Dx, Sy, Dy, h1, h2, h3, h4, h5, h6⟩ := h
  exact ⟨bY, bx, Sy, Dy, Sx, Dx, h2, h1, fun k p q => h3 k q p, h5, h4, h6⟩
def TwoZ (w W : World) (gx gy : Nat) (a b : Int) (nx ny : Nat) (qx qy : Bool × List S116) (z : Nat) : Prop :=
  ∃ bx bY Sx Dx Sy Dy, Tab W bx Sx Dx gx a nx qx.1 qx.2 ∧ Tab W bY Sy Dy gy b ny qy.1 qy.2 ∧ (∀ k, Dx k → ¬ Dy k) ∧ (w.heap.size ≤ bx ∧ bx ≤ W.heap.size) ∧ (w.heap.size ≤ bY ∧ bY ≤ W.heap.size) ∧ Below w.heap.size w W ∧ ∀ k, Dy k → k < z
def TwoD (w W : World) (gx gy : Nat) (a b : Int) (nx ny : Nat) (q : Bool × List S116 × List (List S23) × Int) (qy : Bool × List S116) (r : Ending) (W' : World) : Prop :=
  ∃ v, r = .returned (.tuple #[v, .int .i64 q.2.2.2]) ∧ Kd.R (Kd.slice 23 k23) 24 W' W.heap.size (fun k => W.heap.size ≤ k ∧ k < W'.heap.size) v q.2.2.1 ∧ TwoZ w W' gx gy a b nx ny (q.1, q.2.1) qy W.heap.size
theorem TwoZ.two {z : Nat} (h : TwoZ w W gx gy a b nx ny qx qy z) : Two w W gx gy a b nx ny qx qy := by
  obtain ⟨bx, bY, Sx, Dx, Sy, Dy, h1, h2, h3, h4, h5, h6, h7⟩ := h
  exact ⟨bx, bY, Sx, Dx, Sy, Dy, h1, h2, h3, h4, h5, h6⟩
theorem Two.step (h : Two w W gx gy a b nx ny qx qy) {A0 A1 : Option Addr} {c0 c1 : Nat} (hT : TabOK w) (hE : EOK qx.2) (s : S39) (hK : Kd.C k23 W A0 s.f1.length s.f1) (hc : s.f1.length ≤ c0) (hR : Kd.C k23 W A1 s.f2.length s.f2) (hc' : s.f2.length ≤ c1) (l1 : KOK s.f1) (l2 : KOK s.f2) :
    Calls Tryd.prog 20 #[.pointer (some ⟨gx, 0, none⟩), .agg #[.int .i64 s.f0, .slice A0 s.f1.length c0, .slice A1 s.f2.length c1]] W (TwoD w W gx gy a b nx ny (stp qx.1 qx.2 s) qy) := by
  obtain ⟨bx, bY, Sx, Dx, Sy, Dy, h1, h2, h3, h4, h5, h6⟩ := h
  refine (do_any h1 (hT.below h6) hE h4.2 s hK hc hR hc' l1 l2).mono ?_
  rintro r W' ⟨v, e, hr, S', D', t1, t2, t3, t4, t5⟩
  have hx : ∀ k, Sx k → Dx k := h1.sd
  refine ⟨v, e, R_rng hr, bx, bY, S', D', Sy, Dy, t1, h2.kp t4 (fun k hk hs => h3 k (hx k hs) hk), fun k hk hy => ?_, ⟨h4.1, Nat.le_trans h4.2 t4.1⟩, ⟨h5.1, Nat.le_trans h5.2 t4.1⟩, h6.trans (t5.mono h4.1), fun k hk => (h2.dl k hk).2⟩
  rcases t3 k hk with q | q
  · exact h3 k q hy
  · have := (h2.dl k hy).2; omega
theorem TwoZ.step {z : Nat} (h : TwoZ w W gx gy a b nx ny qx qy z) {A0 A1 : Option Addr} {c0 c1 : Nat} (hT : TabOK w) (hE : EOK qy.2) (s : S39) (hK : Kd.C k23 W A0 s.f1.length s.f1) (hc : s.f1.length ≤ c0) (hR : Kd.C k23 W A1 s.f2.length s.f2) (hc' : s.f2.length ≤ c1) (l1 : KOK s.f1) (l2 : KOK s.f2) :
    Calls Tryd.prog 20 #[.pointer (some ⟨gy, 0, none⟩), .agg #[.int .i64 s.f0, .slice A0 s.f1.length c0, .slice A1 s.f2.length c1]] W fun r W' => TwoD w W gy gx b a ny nx (stp qy.1 qy.2 s) qx r W' ∧ ∀ k, z ≤ k → k < W.heap.size → W'.heap[k]? = W.heap[k]? := by
  obtain ⟨bx, bY, Sx, Dx, Sy, Dy, h1, h2, h3, h4, h5, h6, h7⟩ := h
  refine (do_any h2 (hT.below h6) hE h5.2 s hK hc hR hc' l1 l2).mono ?_
  rintro r W' ⟨v, e, hr, S', D', t1, t2, t3, t4, t5⟩
  refine ⟨⟨v, e, R_rng hr, bY, bx, S', D', Sx, Dx, t1, h1.kp t4 (fun k hk hs => h3 k hk (h2.sd k hs)), fun k hk hy => ?_, ⟨h5.1, Nat.le_trans h5.2 t4.1⟩, ⟨h4.1, Nat.le_trans h4.2 t4.1⟩, h6.trans (t5.mono h5.1), fun k hk => (h1.dl k hk).2⟩, fun k hz hk => t4.2 k hk fun hs => ?_⟩
  · rcases t3 k hk with q | q
    · exact h3 k hy q
    · have := (h1.dl k hy).2; omega
  · have := h7 k (h2.sd k hs); omega
theorem Two.lens (h : Two w W gx gy a b nx ny qx qy) : Calls Tryd.prog 23 #[.pointer (some ⟨gx, 0, none⟩)] W fun r w' => r = .returned (.int .i64 qx.2.length) ∧ w' = W := by
  obtain ⟨bx, bY, Sx, Dx, Sy, Dy, h1, h2, h3, h4, h5, h6⟩ := h
  exact tab_len h1
theorem two_new {w w1 w2 : World} {a m b n : Int} {r1 r2 : Ending} (h1 : NewT w a m r1 w1) (h2 : NewT w1 b n r2 w2) : ∃ gx gy, r1 = .returned (.pointer (some ⟨gx, 0, none⟩)) ∧ r2 = .returned (.pointer (some ⟨gy, 0, none⟩)) ∧ Two w w2 gx gy a b (nbk m) (nbk n) (false, []) (false, []) := by
  obtain ⟨gx, S, D, e1, t1, b1⟩ := h1
  obtain ⟨gy, S', D', e2, t2, b2⟩ := h2
  have hz := b1.size
  exact ⟨gx, gy, e1, e2, w.heap.size, w1.heap.size, S, D, S', D', t1.below b2, t2, fun k hk hy => by have h3 := (t1.dl k hk).2; have h4 := (t2.dl k hy).1; omega, ⟨Nat.le_refl _, Nat.le_trans hz b2.size⟩, ⟨hz, b2.size⟩, below_step b1 b2⟩
end
def runs (l : List S39) : Nat → Bool × List S116
  | 0 => (false, [])
  | i + 1 => ((stp (runs l i).1 (runs l i).2 (rd_T39 l i)).1, (stp (runs l i).1 (runs l i).2 (rd_T39 l i)).2.1)
theorem runs_ok {l : List S39} (hs : ∀ s ∈ l, KOK s.f1 ∧ KOK s.f2) (hl : l.length ≤ 40) : ∀ i, i ≤ l.length → EOK (runs l i).2 ∧ (runs l i).2.length ≤ i
  | 0, _ => ⟨⟨by simp [runs], fun p hp => by simp [runs] at hp⟩, by simp [runs]⟩
  | i + 1, h => by
    have ih := runs_ok hs hl i (by omega)
    have hk := hs _ (List.getElem_mem (show i < l.length by omega))
    rw [← get39 l i (by omega)] at hk
    have := stp_ok (sl := (runs l i).1) (s := rd_T39 l i) ih.1 ih.2 (by omega) hk.1 hk.2
    exact ⟨this.1, this.2.1⟩
end Go.Proofs.YtcfgjaggccnoaaaDoor.PTableSteps
namespace Go.Proofs.YtcfgjaggccnoaaaDoor.PTableSteps
open Go.RowKit Go.Proofs.YtcfgjaggccnoaaaDoorW.PrintWords Go.Proofs.YtcfgjaggccnoaaaDoorW.PrintLast Go.Proofs.YtcfgjaggccnoaaaDoorW.PrintMore
attribute [local go_sem] max2_int min2_int max_two min_two max_three min_three max_four min_four
set_option linter.unusedVariables false
set_option linter.unusedSimpArgs false
set_option maxRecDepth 100000
set_option maxHeartbeats 4000000
theorem msr2_ {k n : Nat} (h : k < n) : n - (intOf (.int .i64 ((k : Int) + 1))).toNat < n - (intOf (.int .i64 (k : Int))).toNat := by
  simp only [intOf]
  omega
theorem seeds_any (w : World) {l : List S39} {A : Option Addr} {c : Nat} (a b m n : Int) (hF : Kd.F k39 w (fun _ => True) A l.length l) (hV : Kd.V k39 39 w w.heap.size (fun _ => True) (.slice A l.length c) l) (hc : l.length ≤ c) (hs : ∀ s ∈ l, (∀ y ∈ s.f1, y.f2.size ≤ 140737488351232) ∧ ∀ y ∈ s.f2, y.f2.size ≤ 140737488351232) (hT : TabOK w) :
    Calls Tryd.prog 4 #[.slice A l.length c, .int .i64 a, .int .i64 b, .int .i64 m, .int .i64 n] w fun r w' => r = .returned (.bool true) ∧ Below w.heap.size w w' := by
  obtain ⟨bb, hb, hp⟩ := rmuch_is l hs 3100 (by omega)
  have HT := Lib.hid hT; have HV := Lib.hid hV; have HM := Lib.hid hb
  have HL : Hid (∀ W, Below w.heap.size w W → Kd.C k39 W A l.length l) := Lib.hid fun W hW => Kd.C_below (Kd.F_now hF) hW
  cases bb
  · obtain ⟨hl, hlen⟩ := hp rfl
    have hko : ∀ s ∈ l, KOK s.f1 ∧ KOK s.f2 := fun s h => ⟨⟨by have := (hlen s h).1; omega, (hs s h).1⟩, by have := (hlen s h).2; omega, (hs s h).2⟩
    have HKO0 := Lib.hid hko; have HLL := Lib.hid hl
    have hru := Lib.hid (runs_ok hko hl)
    clear hT hV hb hp hF hs hlen hko
    go_enter Tryd.func4, Tryd.ntmps4
    go_wp2_with (first
      | ((with_reducible refine gate_callee (f := 17) rfl ?_); refine goesL_ (some 19) rfl rfl Tryd.func17 (by kernel_rfl) rfl #[.slice A l.length c] rfl (by (try simp only [List.map_toArray, List.map_cons, List.map_nil]); first | done | rfl) ?_; refine (r34_Much.calls 3100 (fun _ => True) A c l false w HV.out HM.out).mono ?_; rintro r' w1 ⟨rfl, b1⟩; refine ⟨_, rfl, ?_⟩; simp only [Act.put, sa_, sz_, ss_]; have B1 := Lib.hid b1; clear b1)
      | ((with_reducible refine gate_callee (f := 19) rfl ?_); refine goesL_ (some 23) rfl rfl Tryd.func19 (by kernel_rfl) rfl #[.int .i64 a, .int .i64 m] rfl (by (try simp only [List.map_toArray, List.map_cons, List.map_nil]); first | done | rfl) ?_; refine (tab_new w1 a m).mono ?_; rintro r' w2 ⟨gx, S_, D_, rfl, t_, b_⟩; refine ⟨_, rfl, ?_⟩; simp only [Act.put, sa_, sz_, ss_]; have N2 := Lib.hid (show NewT w1 a m (.returned (.pointer (some ⟨gx, 0, none⟩))) w2 from ⟨gx, S_, D_, rfl, t_, b_⟩); clear t_ b_)
      | ((with_reducible refine gate_callee (f := 19) rfl ?_); refine goesL_ (some 26) rfl rfl Tryd.func19 (by kernel_rfl) rfl #[.int .i64 b, .int .i64 n] rfl (by (try simp only [List.map_toArray, List.map_cons, List.map_nil]); first | done | rfl) ?_; refine (tab_new w2 b n).mono ?_; rintro r' w3 ⟨gy, S__, D__, rfl, t_, b_⟩; refine ⟨_, rfl, ?_⟩; simp only [Act.put, sa_, sz_, ss_]; have N3 := Lib.hid (show NewT w2 b n (.returned (.pointer (some ⟨gy, 0, none⟩))) w3 from ⟨gy, S__, D__, rfl, t_, b_⟩); clear t_ b_))
    obtain ⟨gx', gy', ex, ey, hTw⟩ := two_new N2.out N3.out
    obtain rfl : gx = gx' := by injection ex with ex; injection ex with ex; injection ex with ex; injection ex
    obtain rfl : gy = gy' := by injection ey with ey; injection ey with ey; injection ey with ey; injection ey
    have HTw := Lib.hid hTw
    clear hTw ex ey N2 N3
    go_loopw [13] (fun i wr => ∃ j : Nat, j ≤ l.length ∧ i = .int .i64 j ∧ Two w1 wr gx gy a b (nbk m) (nbk n) (runs l j) (runs l j)) (fun i _ => l.length - (intOf i).toNat)
    case atStart => exact ⟨0, Nat.zero_le _, rfl, HTw.out⟩
    case round =>
      obtain ⟨j, hj, rfl, htw⟩ := hrel
      have HTW := Lib.hid htw
      clear htw
      have HT1 := Lib.hid (HT.out.below B1.out)
      have HE := Lib.hid ((hru.out j hj).1)
      by_cases hlt : j < l.length
      · have HJ : Hid ((j : Int) < (l.length : Int)) := Lib.hid (by omega)
        have HKO := Lib.hid (by have h := HKO0.out _ (List.getElem_mem hlt); rw [← get39 l j hlt] at h; exact h)
        obtain ⟨ad, B1', b1, B2, b2, eA, x0, x1, x2, p1, q1, p2, q2⟩ := at_T39 (HL.out _ (below_step B1.out HTW.out.bl)) (j : Int) (Int.natCast_nonneg _) HJ.out
        have HQ := Lib.hid (And.intro q1 (And.intro p1 (And.intro q2 p2)))
        subst eA
        clear q1 p1 q2 p2
        simp only [Int.toNat_natCast] at x0 x1 x2
        have HS := Lib.hid (stp_ok (sl := (runs l j).1) (s := rd_T39 l j) HE.out (hru.out j hj).2 (by have := HLL.out; omega) HKO.out.1 HKO.out.2)
        have HWR := Lib.hid (wr_succ hlt (Nat.le_trans HLL.out (by decide)))
        by_cases hd : (rd_T39 l j).f0 = 2
        · have hd2 : ((rd_T39 l j).f0 == 2) = true := beq_iff_eq.2 hd
          have HD := Lib.hid hd
          clear hd
          by_cases hw : whB (rd_T39 l j).f1 = true
          · have hW := Lib.hid (show r20_Whole.f 1100 (rd_T39 l j).f1 = some true by rw [rwhole_is _ HKO.out.1.1 1100 (by have := HKO.out.1.1; omega), hw])
            clear hw
            go_wp2_with (first
              | ((with_reducible refine gate_callee (f := 20) rfl ?_); refine goesL_ (some 45) rfl rfl Tryd.func20 (by kernel_rfl) rfl #[.pointer (some ⟨gx, 0, none⟩), .agg #[.int .i64 (rd_T39 l j).f0, .slice B1' (rd_T39 l j).f1.length b1, .slice B2 (rd_T39 l j).f2.length b2]] rfl (by (try simp only [List.map_toArray, List.map_cons, List.map_nil]); first | done | rfl) ?_; refine (HTW.out.step HT1.out HE.out (rd_T39 l j) HQ.out.1 HQ.out.2.1 HQ.out.2.2.1 HQ.out.2.2.2 HKO.out.1 HKO.out.2).mono ?_; rintro r' w2 ⟨v2, rfl, r2, t2⟩; refine ⟨_, rfl, ?_⟩; simp only [Act.put, sa_, sz_, ss_]; have R2 := Lib.hid r2; have T2 := Lib.hid t2; obtain ⟨V2, d2, hv2⟩ := Kd.R_slice R2.out; subst hv2; clear r2 t2 x0 x1 x2; obtain ⟨ady, C1, gC1, C2, gC2, ey, y0, y1, y2, p1, q1, p2, q2⟩ := at_T39 (HL.out _ (below_step B1.out T2.out.two.bl)) (j : Int) (Int.natCast_nonneg _) HJ.out; have HQ2 := Lib.hid (And.intro q1 (And.intro p1 (And.intro q2 p2))); obtain rfl : ad = ady := (by injection ey); clear ey q1 p1 q2 p2; simp only [Int.toNat_natCast] at y0 y1 y2)
              | ((with_reducible refine gate_callee (f := 20) rfl ?_); refine goesL_ (some 54) rfl rfl Tryd.func20 (by kernel_rfl) rfl #[.pointer (some ⟨gy, 0, none⟩), .agg #[.int .i64 (rd_T39 l j).f0, .slice C1 (rd_T39 l j).f1.length gC1, .slice C2 (rd_T39 l j).f2.length gC2]] rfl (by (try simp only [List.map_toArray, List.map_cons, List.map_nil]); first | done | rfl) ?_; refine (T2.out.step HT1.out HE.out (rd_T39 l j) HQ2.out.1 HQ2.out.2.1 HQ2.out.2.2.1 HQ2.out.2.2.2 HKO.out.1 HKO.out.2).mono ?_; rintro r' w3 ⟨⟨v3, rfl, r3, t3⟩, k3⟩; refine ⟨_, rfl, ?_⟩; simp only [Act.put, sa_, sz_, ss_]; have R3 := Lib.hid r3; have T3 := Lib.hid t3.two.swap; have R2b := Lib.hid (Kd.R_step R2.out (fun k hk hlt => k3 k hk.1 hlt)); clear k3; obtain ⟨V3, d3, hv3⟩ := Kd.R_slice R3.out; subst hv3; clear r3 t3 y0 y1 y2; obtain ⟨adz, G1, gG1, G2, gG2, ez, z0, z1, z2, p1, q1, p2, q2⟩ := at_T39 (HL.out _ (below_step B1.out T3.out.bl)) (j : Int) (Int.natCast_nonneg _) HJ.out; have HQ3 := Lib.hid (And.intro q1 (And.intro p1 (And.intro q2 p2))); obtain rfl : ad = adz := (by injection ez); clear ez q1 p1 q2 p2; simp only [Int.toNat_natCast] at z0 z1 z2)
              | ((with_reducible refine gate_callee (f := 21) rfl ?_); refine goesL_ (some 59) rfl rfl Tryd.func21 (by kernel_rfl) rfl #[.slice V2 (stp (runs l j).1 (runs l j).2 (rd_T39 l j)).2.2.1.length d2, .slice V3 (stp (runs l j).1 (runs l j).2 (rd_T39 l j)).2.2.1.length d3] rfl (by (try simp only [List.map_toArray, List.map_cons, List.map_nil]); first | done | rfl) ?_; refine (r04_SameList.calls 3000 V2 d2 _ V3 d3 _ true w3 (R_C R2b.out).1 (R_C R2b.out).2 (R_C R3.out).1 (R_C R3.out).2 (samelist_self _ HS.out.2.2.1 HS.out.2.2.2 3000 (by have := HS.out.2.2.1; omega))).mono ?_; rintro r' w4 ⟨rfl, b4⟩; refine ⟨_, rfl, ?_⟩; simp only [Act.put, sa_, sz_, ss_]; have T4 := Lib.hid (T3.out.below b4); clear b4 z0 z1 z2; obtain ⟨adm, M1, gM1, M2, gM2, em, m0, m1, m2, p1, q1, p2, q2⟩ := at_T39 (HL.out _ (below_step B1.out T4.out.bl)) (j : Int) (Int.natCast_nonneg _) HJ.out; have HQ4 := Lib.hid (And.intro q1 (And.intro p1 (And.intro q2 p2))); obtain rfl : ad = adm := (by injection em); clear em q1 p1 q2 p2; simp only [Int.toNat_natCast] at m0 m1 m2)
              | ((with_reducible refine gate_callee (f := 22) rfl ?_); (refine gate_guard (by rfl) ?_; dsimp only); refine goesL_ (some 79) rfl rfl Tryd.func22 (by kernel_rfl) rfl #[.slice M1 (rd_T39 l j).f1.length gM1] rfl (by (try simp only [List.map_toArray, List.map_cons, List.map_nil]); first | done | rfl) ?_; refine (r20_Whole.calls 1100 M1 gM1 (rd_T39 l j).f1 true w4 HQ4.out.1 HQ4.out.2.1 (hW.out)).mono ?_; rintro r' w5 ⟨rfl, d5⟩; refine ⟨_, rfl, ?_⟩; simp only [Act.put, sa_, sz_, ss_]; have B5 := Lib.hid (dr_below d5); clear d5))
            go_roundw
            case rel => exact ⟨j + 1, by omega, by simp [HWR.out], T4.out.below B5.out⟩
            case measure => first | exact msr2_ hlt | exact msr_ hlt HWR.out
          · have hW := Lib.hid (show r20_Whole.f 1100 (rd_T39 l j).f1 = some false by rw [rwhole_is _ HKO.out.1.1 1100 (by have := HKO.out.1.1; omega)]; simp [hw])
            have hn : (stp (runs l j).1 (runs l j).2 (rd_T39 l j)).2.2.1.length = 0 := by rw [stp_null (by simpa using hw) HD.out]; rfl
            have HN := Lib.hid hn
            clear hw hn
            go_wp2_with (first
              | ((with_reducible refine gate_callee (f := 20) rfl ?_); refine goesL_ (some 45) rfl rfl Tryd.func20 (by kernel_rfl) rfl #[.pointer (some ⟨gx, 0, none⟩), .agg #[.int .i64 (rd_T39 l j).f0, .slice B1' (rd_T39 l j).f1.length b1, .slice B2 (rd_T39 l j).f2.length b2]] rfl (by (try simp only [List.map_toArray, List.map_cons, List.map_nil]); first | done | rfl) ?_; refine (HTW.out.step HT1.out HE.out (rd_T39 l j) HQ.out.1 HQ.out.2.1 HQ.out.2.2.1 HQ.out.2.2.2 HKO.out.1 HKO.out.2).mono ?_; rintro r' w2 ⟨v2, rfl, r2, t2⟩; refine ⟨_, rfl, ?_⟩; simp only [Act.put, sa_, sz_, ss_]; have R2 := Lib.hid r2; have T2 := Lib.hid t2; obtain ⟨V2, d2, hv2⟩ := Kd.R_slice R2.out; subst hv2; clear r2 t2 x0 x1 x2; obtain ⟨ady, C1, gC1, C2, gC2, ey, y0, y1, y2, p1, q1, p2, q2⟩ := at_T39 (HL.out _ (below_step B1.out T2.out.two.bl)) (j : Int) (Int.natCast_nonneg _) HJ.out; have HQ2 := Lib.hid (And.intro q1 (And.intro p1 (And.intro q2 p2))); obtain rfl : ad = ady := (by injection ey); clear ey q1 p1 q2 p2; simp only [Int.toNat_natCast] at y0 y1 y2)
              | ((with_reducible refine gate_callee (f := 20) rfl ?_); refine goesL_ (some 54) rfl rfl Tryd.func20 (by kernel_rfl) rfl #[.pointer (some ⟨gy, 0, none⟩), .agg #[.int .i64 (rd_T39 l j).f0, .slice C1 (rd_T39 l j).f1.length gC1, .slice C2 (rd_T39 l j).f2.length gC2]] rfl (by (try simp only [List.map_toArray, List.map_cons, List.map_nil]); first | done | rfl) ?_; refine (T2.out.step HT1.out HE.out (rd_T39 l j) HQ2.out.1 HQ2.out.2.1 HQ2.out.2.2.1 HQ2.out.2.2.2 HKO.out.1 HKO.out.2).mono ?_; rintro r' w3 ⟨⟨v3, rfl, r3, t3⟩, k3⟩; refine ⟨_, rfl, ?_⟩; simp only [Act.put, sa_, sz_, ss_]; have R3 := Lib.hid r3; have T3 := Lib.hid t3.two.swap; have R2b := Lib.hid (Kd.R_step R2.out (fun k hk hlt => k3 k hk.1 hlt)); clear k3; obtain ⟨V3, d3, hv3⟩ := Kd.R_slice R3.out; subst hv3; clear r3 t3 y0 y1 y2; obtain ⟨adz, G1, gG1, G2, gG2, ez, z0, z1, z2, p1, q1, p2, q2⟩ := at_T39 (HL.out _ (below_step B1.out T3.out.bl)) (j : Int) (Int.natCast_nonneg _) HJ.out; have HQ3 := Lib.hid (And.intro q1 (And.intro p1 (And.intro q2 p2))); obtain rfl : ad = adz := (by injection ez); clear ez q1 p1 q2 p2; simp only [Int.toNat_natCast] at z0 z1 z2)
              | ((with_reducible refine gate_callee (f := 21) rfl ?_); refine goesL_ (some 59) rfl rfl Tryd.func21 (by kernel_rfl) rfl #[.slice V2 (stp (runs l j).1 (runs l j).2 (rd_T39 l j)).2.2.1.length d2, .slice V3 (stp (runs l j).1 (runs l j).2 (rd_T39 l j)).2.2.1.length d3] rfl (by (try simp only [List.map_toArray, List.map_cons, List.map_nil]); first | done | rfl) ?_; refine (r04_SameList.calls 3000 V2 d2 _ V3 d3 _ true w3 (R_C R2b.out).1 (R_C R2b.out).2 (R_C R3.out).1 (R_C R3.out).2 (samelist_self _ HS.out.2.2.1 HS.out.2.2.2 3000 (by have := HS.out.2.2.1; omega))).mono ?_; rintro r' w4 ⟨rfl, b4⟩; refine ⟨_, rfl, ?_⟩; simp only [Act.put, sa_, sz_, ss_]; have T4 := Lib.hid (T3.out.below b4); clear b4 z0 z1 z2; obtain ⟨adm, M1, gM1, M2, gM2, em, m0, m1, m2, p1, q1, p2, q2⟩ := at_T39 (HL.out _ (below_step B1.out T4.out.bl)) (j : Int) (Int.natCast_nonneg _) HJ.out; have HQ4 := Lib.hid (And.intro q1 (And.intro p1 (And.intro q2 p2))); obtain rfl : ad = adm := (by injection em); clear em q1 p1 q2 p2; simp only [Int.toNat_natCast] at m0 m1 m2)
              | ((with_reducible refine gate_callee (f := 22) rfl ?_); (refine gate_guard (by rfl) ?_; dsimp only); refine goesL_ (some 79) rfl rfl Tryd.func22 (by kernel_rfl) rfl #[.slice M1 (rd_T39 l j).f1.length gM1] rfl (by (try simp only [List.map_toArray, List.map_cons, List.map_nil]); first | done | rfl) ?_; refine (r20_Whole.calls 1100 M1 gM1 (rd_T39 l j).f1 false w4 HQ4.out.1 HQ4.out.2.1 (hW.out)).mono ?_; rintro r' w5 ⟨rfl, d5⟩; refine ⟨_, rfl, ?_⟩; simp only [Act.put, sa_, sz_, ss_]; have B5 := Lib.hid (dr_below d5); clear d5; have hn := HN.out))
            go_roundw
            case rel => exact ⟨j + 1, by omega, by simp [HWR.out], T4.out.below B5.out⟩
            case measure => first | exact msr2_ hlt | exact msr_ hlt HWR.out
        · have hd2 : ((rd_T39 l j).f0 == 2) = false := beq_eq_false_iff_ne.2 hd
          clear hd
          go_wp2_with (first
            | ((with_reducible refine gate_callee (f := 20) rfl ?_); refine goesL_ (some 45) rfl rfl Tryd.func20 (by kernel_rfl) rfl #[.pointer (some ⟨gx, 0, none⟩), .agg #[.int .i64 (rd_T39 l j).f0, .slice B1' (rd_T39 l j).f1.length b1, .slice B2 (rd_T39 l j).f2.length b2]] rfl (by (try simp only [List.map_toArray, List.map_cons, List.map_nil]); first | done | rfl) ?_; refine (HTW.out.step HT1.out HE.out (rd_T39 l j) HQ.out.1 HQ.out.2.1 HQ.out.2.2.1 HQ.out.2.2.2 HKO.out.1 HKO.out.2).mono ?_; rintro r' w2 ⟨v2, rfl, r2, t2⟩; refine ⟨_, rfl, ?_⟩; simp only [Act.put, sa_, sz_, ss_]; have R2 := Lib.hid r2; have T2 := Lib.hid t2; obtain ⟨V2, d2, hv2⟩ := Kd.R_slice R2.out; subst hv2; clear r2 t2 x0 x1 x2; obtain ⟨ady, C1, gC1, C2, gC2, ey, y0, y1, y2, p1, q1, p2, q2⟩ := at_T39 (HL.out _ (below_step B1.out T2.out.two.bl)) (j : Int) (Int.natCast_nonneg _) HJ.out; have HQ2 := Lib.hid (And.intro q1 (And.intro p1 (And.intro q2 p2))); obtain rfl : ad = ady := (by injection ey); clear ey q1 p1 q2 p2; simp only [Int.toNat_natCast] at y0 y1 y2)
            | ((with_reducible refine gate_callee (f := 20) rfl ?_); refine goesL_ (some 54) rfl rfl Tryd.func20 (by kernel_rfl) rfl #[.pointer (some ⟨gy, 0, none⟩), .agg #[.int .i64 (rd_T39 l j).f0, .slice C1 (rd_T39 l j).f1.length gC1, .slice C2 (rd_T39 l j).f2.length gC2]] rfl (by (try simp only [List.map_toArray, List.map_cons, List.map_nil]); first | done | rfl) ?_; refine (T2.out.step HT1.out HE.out (rd_T39 l j) HQ2.out.1 HQ2.out.2.1 HQ2.out.2.2.1 HQ2.out.2.2.2 HKO.out.1 HKO.out.2).mono ?_; rintro r' w3 ⟨⟨v3, rfl, r3, t3⟩, k3⟩; refine ⟨_, rfl, ?_⟩; simp only [Act.put, sa_, sz_, ss_]; have R3 := Lib.hid r3; have T3 := Lib.hid t3.two.swap; have R2b := Lib.hid (Kd.R_step R2.out (fun k hk hlt => k3 k hk.1 hlt)); clear k3; obtain ⟨V3, d3, hv3⟩ := Kd.R_slice R3.out; subst hv3; clear r3 t3 y0 y1 y2; obtain ⟨adz, G1, gG1, G2, gG2, ez, z0, z1, z2, p1, q1, p2, q2⟩ := at_T39 (HL.out _ (below_step B1.out T3.out.bl)) (j : Int) (Int.natCast_nonneg _) HJ.out; have HQ3 := Lib.hid (And.intro q1 (And.intro p1 (And.intro q2 p2))); obtain rfl : ad = adz := (by injection ez); clear ez q1 p1 q2 p2; simp only [Int.toNat_natCast] at z0 z1 z2)
            | ((with_reducible refine gate_callee (f := 21) rfl ?_); refine goesL_ (some 59) rfl rfl Tryd.func21 (by kernel_rfl) rfl #[.slice V2 (stp (runs l j).1 (runs l j).2 (rd_T39 l j)).2.2.1.length d2, .slice V3 (stp (runs l j).1 (runs l j).2 (rd_T39 l j)).2.2.1.length d3] rfl (by (try simp only [List.map_toArray, List.map_cons, List.map_nil]); first | done | rfl) ?_; refine (r04_SameList.calls 3000 V2 d2 _ V3 d3 _ true w3 (R_C R2b.out).1 (R_C R2b.out).2 (R_C R3.out).1 (R_C R3.out).2 (samelist_self _ HS.out.2.2.1 HS.out.2.2.2 3000 (by have := HS.out.2.2.1; omega))).mono ?_; rintro r' w4 ⟨rfl, b4⟩; refine ⟨_, rfl, ?_⟩; simp only [Act.put, sa_, sz_, ss_]; have T4 := Lib.hid (T3.out.below b4); clear b4 z0 z1 z2; obtain ⟨adm, M1, gM1, M2, gM2, em, m0, m1, m2, p1, q1, p2, q2⟩ := at_T39 (HL.out _ (below_step B1.out T4.out.bl)) (j : Int) (Int.natCast_nonneg _) HJ.out; have HQ4 := Lib.hid (And.intro q1 (And.intro p1 (And.intro q2 p2))); obtain rfl : ad = adm := (by injection em); clear em q1 p1 q2 p2; simp only [Int.toNat_natCast] at m0 m1 m2))
          go_roundw
          case rel => exact ⟨j + 1, by omega, by simp [HWR.out], T4.out⟩
          case measure => first | exact msr2_ hlt | exact msr_ hlt HWR.out
      · obtain rfl : j = l.length := by omega
        go_wp2_with (first
          | ((with_reducible refine gate_callee (f := 23) rfl ?_); refine goesL_ (some 89) rfl rfl Tryd.func23 (by kernel_rfl) rfl #[.pointer (some ⟨gx, 0, none⟩)] rfl (by (try simp only [List.map_toArray, List.map_cons, List.map_nil]); first | done | rfl) ?_; refine (HTW.out.lens).mono ?_; rintro r' w4 ⟨rfl, rfl⟩; refine ⟨_, rfl, ?_⟩; simp only [Act.put, sa_, sz_, ss_]; skip)
          | ((with_reducible refine gate_callee (f := 23) rfl ?_); refine goesL_ (some 91) rfl rfl Tryd.func23 (by kernel_rfl) rfl #[.pointer (some ⟨gy, 0, none⟩)] rfl (by (try simp only [List.map_toArray, List.map_cons, List.map_nil]); first | done | rfl) ?_; refine (HTW.out.swap.lens).mono ?_; rintro r' w5 ⟨rfl, rfl⟩; refine ⟨_, rfl, ?_⟩; simp only [Act.put, sa_, sz_, ss_]; skip)
          | ((with_reducible refine gate_callee (f := 18) rfl ?_); (refine gate_guard (by rfl) ?_; dsimp only); refine goesL_ (some 94) rfl rfl Tryd.func18 (by kernel_rfl) rfl #[] rfl (by (try simp only [List.map_toArray, List.map_cons, List.map_nil]); first | done | rfl) ?_; refine (live_any _ (HT1.out.below HTW.out.bl)).mono ?_; rintro r' w6 ⟨rfl, b6⟩; refine ⟨_, rfl, ?_⟩; simp only [Act.put, sa_, sz_, ss_]; have B6 := Lib.hid (below_step (below_step B1.out HTW.out.bl) b6); clear b6))
        go_ret
        exact ⟨rfl, B6.out⟩
  · clear hT hV hb hp hF hs
    go_enter Tryd.func4, Tryd.ntmps4
    go_wp2_with (first
      | ((with_reducible refine gate_callee (f := 17) rfl ?_); refine goesL_ (some 19) rfl rfl Tryd.func17 (by kernel_rfl) rfl #[.slice A l.length c] rfl (by (try simp only [List.map_toArray, List.map_cons, List.map_nil]); first | done | rfl) ?_; refine (r34_Much.calls 3100 (fun _ => True) A c l true w HV.out HM.out).mono ?_; rintro r' w1 ⟨rfl, b1⟩; refine ⟨_, rfl, ?_⟩; simp only [Act.put, sa_, sz_, ss_]; have B1 := Lib.hid b1; clear b1)
      | ((with_reducible refine gate_callee (f := 18) rfl ?_); refine goesL_ (some 20) rfl rfl Tryd.func18 (by kernel_rfl) rfl #[] rfl (by (try simp only [List.map_toArray, List.map_cons, List.map_nil]); first | done | rfl) ?_; refine (live_any w1 (HT.out.below B1.out)).mono ?_; rintro r' w3 ⟨rfl, b3⟩; refine ⟨_, rfl, ?_⟩; simp only [Act.put, sa_, sz_, ss_]; have B3 := Lib.hid (below_step B1.out b3); clear b3))
    go_ret
    exact ⟨rfl, B3.out⟩
end Go.Proofs.YtcfgjaggccnoaaaDoor.PTableSteps
namespace Go.Proofs.YtcfgjaggccnoaaaDoor.PTableSteps
open Go.RowKit Go.Proofs.YtcfgjaggccnoaaaDoorW.PrintWords Go.Proofs.YtcfgjaggccnoaaaDoorW.PrintLast Go.Proofs.YtcfgjaggccnoaaaDoorW.PrintMore
attribute [local go_sem] max2_int min2_int max_two min_two max_three min_three max_four min_four
set_option linter.unusedVariables false
set_option linter.unusedSimpArgs false
set_option maxRecDepth 100000
set_option maxHeartbeats 4000000
theorem k39_heap : Kd.Heap k39 := Kd.heap_iso _ (Kd.heap_pair (Kd.heap_int .i64) (Kd.heap_pair (Kd.heap_slice 23 k23_heap) (Kd.heap_slice 23 k23_heap)))
def Wf39 (x : S39) : Prop := (Lit.int .i64 x.f0).wf = true ∧ (x.f1.length * 32 ≤ 140737488351232 ∧ ∀ y ∈ x.f1, Wf23 y) ∧ (x.f2.length * 32 ≤ 140737488351232 ∧ ∀ y ∈ x.f2, Wf23 y)
theorem opens24 : ∀ n, Open.Opens Tryd.prog 24 (Kd.slice 23 k23) (fun l : List S23 => l.length * 32 ≤ 140737488351232 ∧ ∀ y ∈ l, Wf23 y) n := fun n => match n with | 0 => Open.opens_zero _ _ _ _ | n + 1 => Open.opens_slice Tryd.underlying24 (by kernel_rfl) (by kernel_rfl) n (opens23 n)
theorem opens39 : ∀ n, Open.Opens Tryd.prog 39 k39 Wf39 n
  | 0 => Open.opens_zero _ _ _ _
  | n + 1 => (Open.opens_struct (t := 39) (L := (Kd.pair (Kd.int .i64) (Kd.pair (Kd.slice 23 k23) (Kd.slice 23 k23)))) (fun x : S39 => (x.f0, x.f1, x.f2)) (fun b => (⟨b.1, b.2.1, b.2.2⟩ : S39)) (fun _ => rfl) Tryd.underlying39 (by kernel_rfl) n (Open.opensF_cons rfl (by kernel_rfl) n ((Open.opens_int Tryd.underlying3) n) (Open.opensF_cons rfl (by kernel_rfl) n (opens24 n) (Open.opensF_one rfl (by kernel_rfl) n (opens24 n))))).imp (fun _ _ _ h => h) (fun _ h => h)
end Go.Proofs.YtcfgjaggccnoaaaDoor.PTableSteps
