/- For every seed, every number of words and bits and any two lists of keys, each whole key that was put passes the program's filter and the union with any other of its shape, which counts the keys of both; and filters of two seeds have no union. Conditions: none beyond the law's own guards; the library's tables are read as the program's text lays them. -/
import Derived.Test.YtcfgjaggccnoaaaDoorWfSiftKeeps
import Derived.Laws.BitsLemmas
import Derived.Lib.ItoaNum
import Derived.Lib.ItoaLen
import Derived.Lib.ItoaMem
import Derived.Test.YtcfgjaggccnoaaaDoorPSiftKeepsx12
namespace Go.Proofs.YtcfgjaggccnoaaaDoor.Pure
open Go.RowKit Go.Proofs.YtcfgjaggccnoaaaDoor.PSiftKeeps Go.Proofs.YtcfgjaggccnoaaaDoorW.PrintWords Go.Proofs.YtcfgjaggccnoaaaDoorW.PrintLast
set_option linter.unusedVariables false
set_option linter.unusedSimpArgs false
set_option maxRecDepth 100000

theorem bs {α β : Type} (a : α) (f : α → Option β) : (some a).bind f = f a := (Option.bind_some a f).trans (Eq.refl _)

theorem u64_wrap (n : Int) : IntKind.u64.wrap n = n % 18446744073709551616 := by
 simp [IntKind.wrap, IntKind.bits, IntKind.signed]

theorem u64_range (n : Int) : 0 ≤ IntKind.u64.wrap n ∧ IntKind.u64.wrap n < 18446744073709551616 := by
 rw [u64_wrap]; omega

theorem u64_in {n : Int} (h0 : 0 ≤ n) (h1 : n < 18446744073709551616) : IntKind.u64.wrap n = n := by
 rw [u64_wrap]; omega

theorem w64 {n : Int} (h0 : -9223372036854775808 ≤ n) (h1 : n < 9223372036854775808) : wrap64 n = n := by
 unfold wrap64; omega

theorem bits_u64 (op : BinOp) (x y : Int) : 0 ≤ Go.bits op .u64 x y ∧ Go.bits op .u64 x y < 18446744073709551616 := by
 unfold Go.bits
 exact u64_range _

theorem mix_some (a : Int) : ∃ r, hash_Mix.f a = some r ∧ 0 ≤ r ∧ r < 18446744073709551616 :=
 ⟨_, rfl, (bits_u64 _ _ _).1, (bits_u64 _ _ _).2⟩

theorem start_is (seed : Int) : hash_Start.f seed = hash_Mix.f (IntKind.u64.wrap ((IntKind.u64.wrap (seed)) + 2685821657736338717)) := by
 unfold hash_Start.f
 generalize hash_Mix.f (IntKind.u64.wrap ((IntKind.u64.wrap (seed)) + 2685821657736338717)) = o
 cases o <;> rfl

theorem byte_some (h b : Int) : ∃ r, hash_Byte.f h b = some r ∧ 0 ≤ r ∧ r < 18446744073709551616 :=
 ⟨_, rfl, (u64_range _).1, (u64_range _).2⟩

--import Derived.Laws.BitsLemmas
theorem xor_top (n : Nat) (h : n < 18446744073709551616) : n ^^^ 9223372036854775808 = (n + 9223372036854775808) % 18446744073709551616 := by
 rw [show (9223372036854775808 : Nat) = 2 ^ 63 from rfl, show (18446744073709551616 : Nat) = 2 ^ 64 from rfl, Nat.add_comm] at *
 apply Nat.eq_of_testBit_eq
 intro i
 rw [Nat.testBit_xor, Nat.testBit_mod_two_pow]
 rcases Nat.lt_trichotomy i 63 with c | c | c
 ·rw [Nat.testBit_two_pow_add_gt c, Nat.testBit_two_pow_of_ne (by omega)]
  simp
  omega
 ·subst c
  rw [Nat.testBit_two_pow_add_eq, Nat.testBit_two_pow_self]
  simp
 ·rw [Nat.testBit_two_pow_of_ne (by omega), Nat.testBit_lt_two_pow (Nat.lt_of_lt_of_le h (Nat.pow_le_pow_right (by decide) (by omega)))]
  simp
  intro h64
  omega
theorem bits_top (u : Int) (h0 : 0 ≤ u) (h1 : u < 18446744073709551616) : Go.bits .xor .u64 u 9223372036854775808 = IntKind.u64.wrap (u + 9223372036854775808) := by
 obtain ⟨n, rfl⟩ := Int.eq_ofNat_of_zero_le h0
 have e := xor_top n (by omega)
 have hn : n % 2 ^ IntKind.u64.bits = n := Nat.mod_eq_of_lt (by show n < 18446744073709551616; omega)
 have e2 : (9223372036854775808 : Int) = ((9223372036854775808 : Nat) : Int) := rfl
 rw [e2]
 simp only [Go.bits, BitVec.ofInt_natCast, BitVec.toNat_xor, BitVec.toNat_ofNat, hn]
 rw [show (9223372036854775808 : Nat) % 2 ^ IntKind.u64.bits = 9223372036854775808 from rfl, e, u64_wrap, u64_wrap]
 omega
theorem shr_is (x : Int) (m : Nat) (h : m ≤ 64) : shr .u64 x (m : Int) = x / 2 ^ m := by
 unfold shr
 rw [Int.toNat_natCast, show min m IntKind.u64.bits = m from Nat.min_eq_left h]
theorem strOf_append (a b : List Int) : strOfNums (a ++ b) = strOfNums a ++ strOfNums b := by
 apply ByteArray.ext
 apply Array.ext'
 rw [ByteArray.data_append, Array.toList_append, strOfNums_data, strOfNums_data, strOfNums_data, List.map_append]
/-- The eight bytes of a number, the highest first. -/
def bytes8 (x : Int) : List Int := [x / 72057594037927936 % 256, x / 281474976710656 % 256, x / 1099511627776 % 256, x / 4294967296 % 256, x / 16777216 % 256, x / 65536 % 256, x / 256 % 256, x % 256]
def vkey (a b : Int) (s : ByteArray) : ByteArray := if a = 0 then (⟨#[110]⟩ : ByteArray) else if a = 1 then (⟨#[105]⟩ : ByteArray) ++ strOfNums (bytes8 (IntKind.u64.wrap (b + 9223372036854775808))) else if a = 2 then (⟨#[116]⟩ : ByteArray) ++ s else (⟨#[]⟩ : ByteArray)
theorem key_step (x : Int) (k : Nat) (l : List Int) (i : Nat) (hi : i < 8) (hl : l.length ≤ 9) : val_Key.l0 (k + 1) x l (i : Int) = val_Key.l0 k x (l ++ [x / 2 ^ (56 - 8 * i) % 256]) ((i + 1 : Nat) : Int) := by
 simp only [val_Key.l0]
 have e : wrap64 (56 - wrap64 (8 * (i : Int))) = ((56 - 8 * i : Nat) : Int) := by rw [w64 (n := 8 * (i : Int)) (by omega) (by omega), w64 (by omega) (by omega)]; omega
 rw [if_pos (by omega), e, if_pos (by omega), if_pos (by omega), w64 (n := (i : Int) + 1) (by omega) (by omega), shr_is _ _ (by omega)]
 rfl
theorem key_end (x : Int) (k : Nat) (l : List Int) : val_Key.l0 (k + 1) x l ((8 : Nat) : Int) = some (strOfNums l) := by
 simp only [val_Key.l0]
 rw [if_neg (by omega)]
theorem val_key_is (a b : Int) (s : ByteArray) (hs : s.size ≤ 140737488351232) (k : Nat) (hk : 9 ≤ k) : val_Key.f k a b s = some (vkey a b s) := by
 unfold val_Key.f vkey
 by_cases c0 : a = 0
 ·rw [if_pos c0, if_pos c0]
 ·rw [if_neg c0, if_neg c0]
  by_cases c1 : a = 1
  ·rw [if_pos c1, if_pos c1]
   have hb := u64_range b
   have e : Go.bits .xor .u64 (IntKind.u64.wrap b) 9223372036854775808 = IntKind.u64.wrap (b + 9223372036854775808) := by
    rw [bits_top _ hb.1 hb.2, u64_wrap, u64_wrap, u64_wrap]; omega
   rw [e]
   generalize IntKind.u64.wrap (b + 9223372036854775808) = x
   obtain ⟨k, rfl⟩ : ∃ m, k = m + 9 := ⟨k - 9, by omega⟩
   rw [show (0 : Int) = ((0 : Nat) : Int) from rfl]
   rw [key_step x (k + 8) _ 0 (by omega) (by decide), key_step x (k + 7) _ 1 (by omega) (by simp), key_step x (k + 6) _ 2 (by omega) (by simp), key_step x (k + 5) _ 3 (by omega) (by simp), key_step x (k + 4) _ 4 (by omega) (by simp), key_step x (k + 3) _ 5 (by omega) (by simp), key_step x (k + 2) _ 6 (by omega) (by simp), key_step x (k + 1) _ 7 (by omega) (by simp), key_end]
   have e1 : (⟨#[105]⟩ : ByteArray) = strOfNums [105] := by apply ByteArray.ext; apply Array.ext'; rw [strOfNums_data]; rfl
   rw [e1, ← strOf_append]
   simp [bytes8]
  ·rw [if_neg c1, if_neg c1]
   by_cases c2 : a = 2
   ·rw [if_pos c2, if_pos c2, if_pos (by omega)]
   ·rw [if_neg c2, if_neg c2]
theorem vkey_size (a b : Int) (s : ByteArray) : (vkey a b s).size ≤ s.size + 9 := by
 unfold vkey
 split
 ·show 1 ≤ _; omega
 ·split
  ·rw [ByteArray.size_append]
   have e : (strOfNums (bytes8 (IntKind.u64.wrap (b + 9223372036854775808)))).size = 8 := by simp [strOfNums, ByteArray.size, bytes8]
   rw [e]
   show 1 + 8 ≤ _
   omega
  ·split
   ·rw [ByteArray.size_append]
    show 1 + _ ≤ _
    omega
   ·show 0 ≤ _; omega

theorem text_l0_big (s : ByteArray) (hs : s.size ≤ 140737488355328000) (d : Nat) : ∀ (k : Nat) (h i : Int), 0 ≤ i → i ≤ s.size → (s.size : Int) - i = d → d < k → ∃ r, hash_text.l0 k s h (s.size : Int) i = some r ∧ 0 ≤ r ∧ r < 18446744073709551616 := by
 induction d with
 | zero =>
  intro k h i h0 h1 hd hk
  obtain ⟨k, rfl⟩ : ∃ m, k = m + 1 := ⟨k - 1, by omega⟩
  obtain ⟨r, hr, h2⟩ := mix_some h
  refine ⟨r, ?_, h2⟩
  simp only [hash_text.l0]
  rw [if_neg (by omega), hr, bs]
 | succ d ih =>
  intro k h i h0 h1 hd hk
  obtain ⟨k, rfl⟩ : ∃ m, k = m + 1 := ⟨k - 1, by omega⟩
  obtain ⟨b, hb, _⟩ := byte_some h (bt s i)
  obtain ⟨r, hr, h2⟩ := ih k b (i + 1) (by omega) (by omega) (by omega) (by omega)
  refine ⟨r, ?_, h2⟩
  simp only [hash_text.l0]
  rw [if_pos (by omega), if_pos h0, if_pos (by omega), hb, bs, w64 (by omega) (by omega)]
  exact hr
theorem text_some_big (seed : Int) (s : ByteArray) (hs : s.size ≤ 140737488355328000) (k : Nat) (hk : s.size < k) : ∃ r, hash_text.f k seed s = some r ∧ 0 ≤ r ∧ r < 18446744073709551616 := by
 obtain ⟨h, hh, _⟩ := mix_some (IntKind.u64.wrap ((IntKind.u64.wrap (seed)) + 2685821657736338717))
 obtain ⟨r, hr, h2⟩ := text_l0_big s hs s.size k h 0 (by omega) (by omega) (by omega) hk
 refine ⟨r, ?_, h2⟩
 unfold hash_text.f
 rw [start_is, hh, bs]
 exact hr

--import Derived.Lib.ItoaNum
--import Derived.Lib.ItoaLen
--import Derived.Lib.ItoaMem
theorem emp_app (s : ByteArray) : (⟨#[]⟩ : ByteArray) ++ s = s := by
 apply ByteArray.ext
 apply Array.ext'
 rw [ByteArray.data_append]
 simp
theorem app_emp (s : ByteArray) : s ++ (⟨#[]⟩ : ByteArray) = s := by
 apply ByteArray.ext
 apply Array.ext'
 rw [ByteArray.data_append]
 simp
def rkey : List S23 → ByteArray
 | [] => (⟨#[]⟩ : ByteArray)
 | y :: l => (((⟨(Lib.itoa ((vkey y.f0 y.f1 y.f2).size : Int)).toArray⟩ : ByteArray) ++ (⟨#[58]⟩ : ByteArray)) ++ vkey y.f0 y.f1 y.f2) ++ rkey l
theorem itoa_size (n : Nat) (h : n < 1000000000000000000) : (⟨(Lib.itoa (n : Int)).toArray⟩ : ByteArray).size ≤ 21 := by
 have := Lib.itoa_length_le (n : Int) (by omega) (by omega)
 show (Lib.itoa (n : Int)).toArray.size ≤ 21
 simpa using this
theorem rkey_size (l : List S23) (hs : ∀ y ∈ l, y.f2.size ≤ 140737488351232) : (rkey l).size ≤ l.length * 140737488351300 := by
 induction l with
 | nil => show 0 ≤ _; omega
 | cons y l ih =>
  have h1 := vkey_size y.f0 y.f1 y.f2
  have h2 := hs y (List.mem_cons_self)
  have h3 := itoa_size (vkey y.f0 y.f1 y.f2).size (by omega)
  have h4 := ih (fun z hz => hs z (List.mem_cons_of_mem _ hz))
  have e : (⟨#[58]⟩ : ByteArray).size = 1 := rfl
  rw [rkey, ByteArray.size_append, ByteArray.size_append, ByteArray.size_append, e, List.length_cons, Nat.add_mul]
  omega
theorem rowkey_l0 (l : List S23) (hs : ∀ y ∈ l, y.f2.size ≤ 140737488351232) (hl : l.length ≤ 1000) (d : Nat) : ∀ (k i : Nat) (acc : ByteArray), l.length = i + d → acc.size ≤ i * 140737488351300 → d + 10 ≤ k →
  rows_Key.l0 k acc l (l.length : Int) (i : Int) = some (acc ++ rkey (l.drop i)) := by
 induction d with
 | zero =>
  intro k i acc hd ha hk
  obtain ⟨k, rfl⟩ : ∃ m, k = m + 1 := ⟨k - 1, by omega⟩
  simp only [rows_Key.l0]
  rw [if_neg (by omega), List.drop_eq_nil_of_le (by omega), rkey, app_emp]
 | succ d ih =>
  intro k i acc hd ha hk
  obtain ⟨k, rfl⟩ : ∃ m, k = m + 1 := ⟨k - 1, by omega⟩
  have hi : i < l.length := by omega
  have hy := hs l[i] (List.getElem_mem hi)
  have e : rd_T23 l (i : Int) = l[i] := by
   unfold rd_T23
   rw [Int.toNat_natCast, List.getD_eq_getElem?_getD, List.getElem?_eq_getElem hi]
   rfl
  rw [List.drop_eq_getElem_cons hi, rkey]
  simp only [rows_Key.l0]
  rw [if_pos (by omega), if_pos (by omega), if_pos (by omega), e, val_key_is _ _ _ hy k (by omega), bs]
  have hv := vkey_size l[i].f0 l[i].f1 l[i].f2
  generalize vkey l[i].f0 l[i].f1 l[i].f2 = v at *
  have hz := itoa_size v.size (by omega)
  unfold strconv_Itoa.f
  rw [if_pos (by omega), bs]
  generalize (⟨(Lib.itoa (v.size : Int)).toArray⟩ : ByteArray) = t at *
  have e1 : (⟨#[58]⟩ : ByteArray).size = 1 := rfl
  rw [if_pos (by omega), if_pos (by rw [ByteArray.size_append, e1]; omega), if_pos (by rw [ByteArray.size_append, ByteArray.size_append, e1]; omega), w64 (by omega) (by omega)]
  rw [show (i : Int) + 1 = ((i + 1 : Nat) : Int) by omega]
  rw [ih k (i + 1) _ (by omega) (by rw [ByteArray.size_append, ByteArray.size_append, ByteArray.size_append, e1]; omega) (by omega)]
  simp only [ByteArray.append_assoc]
theorem rows_key_is (l : List S23) (hs : ∀ y ∈ l, y.f2.size ≤ 140737488351232) (hl : l.length ≤ 1000) (k : Nat) (hk : l.length + 10 ≤ k) : rows_Key.f k l = some (rkey l) := by
 unfold rows_Key.f
 rw [show (0 : Int) = ((0 : Nat) : Int) from rfl, rowkey_l0 l hs hl l.length k 0 _ (by omega) (by show 0 ≤ _; omega) hk, List.drop_zero, emp_app]
theorem prow_is (seed : Int) (l : List S23) (hs : ∀ y ∈ l, y.f2.size ≤ 140737488351232) (hl : l.length ≤ 1000) (k : Nat) (hk : l.length + 20 ≤ k) (hk2 : (rkey l).size < k) : ∃ r, hash_Row.f k seed l = some r ∧ 0 ≤ r ∧ r < 18446744073709551616 ∧ hash_text.f k seed (rkey l) = some r := by
 have hz := rkey_size l hs
 obtain ⟨r, hr, h0, h1⟩ := text_some_big seed (rkey l) (by omega) k hk2
 refine ⟨r, ?_, h0, h1, hr⟩
 unfold hash_Row.f
 rw [rows_key_is l hs hl k (by omega), bs, hr, bs]
def rowN (l : List S23) : Nat := (l.map fun y => 1 + y.f2.size).sum
def totN (L : List (List S23)) : Nat := (L.map rowN).sum
theorem rowN_cons (y : S23) (l : List S23) : rowN (y :: l) = 1 + y.f2.size + rowN l := by simp [rowN]
theorem totN_cons (r : List S23) (L : List (List S23)) : totN (r :: L) = rowN r + totN L := by simp [totN]
theorem totN_le (L : List (List S23)) : ∀ r ∈ L, rowN r ≤ totN L := by
 intro y hy
 induction L with
 | nil => cases hy
 | cons z l ih =>
  rw [totN_cons]
  rcases List.mem_cons.1 hy with rfl | h
  ·omega
  ·have := ih h; omega
theorem much_inner (L : List (List S23)) (r : List S23) (i : Nat) (hL : L[i]? = some r) (hr : r.length ≤ 40) (hs : ∀ y ∈ r, y.f2.size ≤ 140737488351232) (hL2 : L.length ≤ 9000000000000000) (d : Nat) : ∀ (k j : Nat) (n : Int), r.length = j + d → 0 ≤ n → n ≤ 2000 + j * 140737488351233 →
  r04_Much.l1 (k + d + 1) L n (i : Int) (j : Int) = if n + rowN (r.drop j) > 2000 then some true else r04_Much.l0 k L (n + rowN (r.drop j)) ((i + 1 : Nat) : Int) := by
 have hi : i < L.length := (List.getElem?_eq_some_iff.1 hL).1
 have hrd : rd_L6 L (i : Int) = r := by
  unfold rd_L6
  rw [Int.toNat_natCast, List.getD_eq_getElem?_getD, hL]
  rfl
 induction d with
 | zero =>
  intro k j n hd h0 h1
  simp only [r04_Much.l1]
  rw [if_pos (show (0 : Int) ≤ (i : Int) by omega), if_pos (show (i : Int) < (L.length : Int) by omega), hrd, if_neg (show ¬ (j : Int) < (r.length : Int) by omega), w64 (n := (i : Int) + 1) (by omega) (by omega)]
  rw [List.drop_eq_nil_of_le (by omega)]
  simp [rowN]
 | succ d ih =>
  intro k j n hd h0 h1
  have hj : j < r.length := by omega
  have hy := hs r[j] (List.getElem_mem hj)
  have e : rd_T23 r (j : Int) = r[j] := by
   unfold rd_T23
   rw [Int.toNat_natCast, List.getD_eq_getElem?_getD, List.getElem?_eq_getElem hj]
   rfl
  obtain ⟨K, hK⟩ : ∃ K, K = k + d + 1 := ⟨_, rfl⟩
  rw [show k + (d + 1) + 1 = K + 1 by omega]
  simp only [r04_Much.l1]
  rw [if_pos (show (0 : Int) ≤ (i : Int) by omega), if_pos (show (i : Int) < (L.length : Int) by omega), hrd, if_pos (show (j : Int) < (r.length : Int) by omega), if_pos (show (0 : Int) ≤ (j : Int) by omega), e]
  rw [w64 (n := n + 1) (by omega) (by omega), w64 (n := n + 1 + (r[j].f2.size : Int)) (by omega) (by omega), w64 (n := (j : Int) + 1) (by omega) (by omega)]
  have h := ih k (j + 1) (n + 1 + (r[j].f2.size : Int)) (by omega) (by omega) (by omega)
  rw [hK, show ((j : Int) + 1) = ((j + 1 : Nat) : Int) by omega, h]
  rw [List.drop_eq_getElem_cons hj, rowN_cons]
  have e2 : n + 1 + (r[j].f2.size : Int) + (rowN (r.drop (j + 1)) : Int) = n + ((1 + r[j].f2.size + rowN (r.drop (j + 1)) : Nat) : Int) := by omega
  rw [e2]
theorem much_outer (L : List (List S23)) (hs : ∀ r ∈ L, ∀ y ∈ r, y.f2.size ≤ 140737488351232) (hL2 : L.length ≤ 9000000000000000) (d : Nat) : ∀ (k i : Nat) (n : Int), 60 ≤ i + d → 0 ≤ n → n ≤ 2000 → d * 44 + 2 ≤ k →
  ∃ b, r04_Much.l0 k L n (i : Int) = some b ∧ (b = false → L.length ≤ 50 ∧ (∀ r ∈ L.drop i, r.length ≤ 40) ∧ n + totN (L.drop i) ≤ 2000) := by
 have stop : ∀ (k i : Nat) (n : Int), n ≤ 2000 → (60 ≤ i ∨ L.length ≤ i) → 2 ≤ k → ∃ b, r04_Much.l0 k L n (i : Int) = some b ∧ (b = false → L.length ≤ 50 ∧ (∀ r ∈ L.drop i, r.length ≤ 40) ∧ n + totN (L.drop i) ≤ 2000) := by
  intro k i n hn hi hk
  obtain ⟨k, rfl⟩ : ∃ m, k = m + 2 := ⟨k - 2, by omega⟩
  refine ⟨decide ((L.length : Int) > 50), ?_, ?_⟩
  ·simp only [r04_Much.l0]
   by_cases c : (i : Int) < (L.length : Int)
   ·rw [if_pos c]
    have c2 : decide ((i : Int) < 60) = false := by simp; omega
    rw [c2]
    simp only [r04_Much.j1]
    rw [if_neg (by simp)]
   ·rw [if_neg c]
    simp only [r04_Much.j1]
    rw [if_neg (by simp)]
  ·intro hb
   have h50 : L.length ≤ 50 := by have := of_decide_eq_false hb; omega
   rw [List.drop_eq_nil_of_le (show L.length ≤ i by omega)]
   refine ⟨h50, ?_, ?_⟩
   ·intro r hr
    cases hr
   ·simpa [totN] using hn
 induction d with
 | zero => exact fun k i n hi h0 h1 hk => stop k i n h1 (by omega) (by omega)
 | succ d ih =>
  intro k i n hi h0 h1 hk
  by_cases c : 60 ≤ i ∨ L.length ≤ i
  ·exact stop k i n h1 c (by omega)
  ·have hi2 : i < L.length := by omega
   have hLi : L[i]? = some L[i] := List.getElem?_eq_getElem hi2
   have hrd : rd_L6 L (i : Int) = L[i] := by
    unfold rd_L6
    rw [Int.toNat_natCast, List.getD_eq_getElem?_getD, hLi]
    rfl
   obtain ⟨k, rfl⟩ : ∃ m, k = m + 2 := ⟨k - 2, by omega⟩
   have e1 : r04_Much.l0 (k + 2) L n (i : Int) = if (L[i].length : Int) > 40 then some true else r04_Much.l1 k L n (i : Int) 0 := by
    simp only [r04_Much.l0]
    rw [if_pos (show (i : Int) < (L.length : Int) by omega)]
    have c2 : decide ((i : Int) < 60) = true := by simp; omega
    rw [c2]
    simp only [r04_Much.j1]
    rw [if_pos trivial, if_pos (show (0 : Int) ≤ (i : Int) by omega), if_pos (show (i : Int) < (L.length : Int) by omega), hrd]
   rw [e1]
   by_cases c3 : (L[i].length : Int) > 40
   ·rw [if_pos c3]
    exact ⟨true, rfl, fun h => by cases h⟩
   ·rw [if_neg c3]
    obtain ⟨k2, hk2⟩ : ∃ m, k = m + L[i].length + 1 := ⟨k - L[i].length - 1, by omega⟩
    have h := much_inner L L[i] i hLi (by omega) (hs _ (List.getElem_mem hi2)) hL2 L[i].length k2 0 n (by omega) h0 (by omega)
    rw [hk2, show (0 : Int) = ((0 : Nat) : Int) from rfl, h]
    rw [List.drop_zero]
    by_cases c4 : n + (rowN L[i] : Int) > 2000
    ·rw [if_pos c4]
     exact ⟨true, rfl, fun h => by cases h⟩
    ·rw [if_neg c4]
     obtain ⟨b, hb, hp⟩ := ih k2 (i + 1) (n + (rowN L[i] : Int)) (by omega) (by omega) (by omega) (by omega)
     refine ⟨b, hb, fun hf => ?_⟩
     obtain ⟨p1, p2, p3⟩ := hp hf
     rw [List.drop_eq_getElem_cons hi2]
     refine ⟨p1, ?_, ?_⟩
     ·intro r hr
      rcases List.mem_cons.1 hr with rfl | hr
      ·omega
      ·exact p2 r hr
     ·rw [totN_cons]
      omega
theorem much_is (L : List (List S23)) (hs : ∀ r ∈ L, ∀ y ∈ r, y.f2.size ≤ 140737488351232) (hL2 : L.length ≤ 9000000000000000) (k : Nat) (hk : 3000 ≤ k) :
  ∃ b, r04_Much.f k L = some b ∧ (b = false → L.length ≤ 50 ∧ (∀ r ∈ L, r.length ≤ 40) ∧ totN L ≤ 2000) := by
 obtain ⟨b, hb, hp⟩ := much_outer L hs hL2 60 k 0 0 (by omega) (by omega) (by omega) (by omega)
 refine ⟨b, hb, fun hf => ?_⟩
 obtain ⟨p1, p2, p3⟩ := hp hf
 exact ⟨p1, p2, by rw [List.drop_zero] at p3; omega⟩



def f1 (b : Nat) : Nat := ((b / 2) &&& 85) + (b &&& 85)
def f2 (b : Nat) : Nat := ((b / 4) &&& 51) + (b &&& 51)
def f3 (b : Nat) : Nat := (b / 16 + b) &&& 15
theorem bits_and_n (a b : Nat) (ha : a < 18446744073709551616) (hb : b < 18446744073709551616) : Go.bits .and .u64 (a : Int) (b : Int) = ((a &&& b : Nat) : Int) := by
 have h1 : a % 2 ^ IntKind.u64.bits = a := Nat.mod_eq_of_lt (by show a < 18446744073709551616; omega)
 have h2 : b % 2 ^ IntKind.u64.bits = b := Nat.mod_eq_of_lt (by show b < 18446744073709551616; omega)
 simp only [Go.bits, BitVec.ofInt_natCast, BitVec.toNat_and, BitVec.toNat_ofNat, h1, h2]
 have h3 : a &&& b ≤ a := Nat.and_le_left
 exact u64_in (by omega) (by omega)
theorem bits_or_n (a b : Nat) (ha : a < 18446744073709551616) (hb : b < 18446744073709551616) : Go.bits .or .u64 (a : Int) (b : Int) = ((a ||| b : Nat) : Int) := by
 have h1 : a % 2 ^ IntKind.u64.bits = a := Nat.mod_eq_of_lt (by show a < 18446744073709551616; omega)
 have h2 : b % 2 ^ IntKind.u64.bits = b := Nat.mod_eq_of_lt (by show b < 18446744073709551616; omega)
 simp only [Go.bits, BitVec.ofInt_natCast, BitVec.toNat_or, BitVec.toNat_ofNat, h1, h2]
 have h3 : a ||| b < 2 ^ 64 := Nat.or_lt_two_pow (by show a < 18446744073709551616; omega) (by show b < 18446744073709551616; omega)
 exact u64_in (by omega) (by omega)
def mkb (h : Nat) : Nat → Nat
 | 0 => 0
 | p + 1 => mkb h p ||| 2 ^ ((h / 64 ^ p) % 64)
theorem pow_lt64 (j : Nat) (h : j < 64) : 2 ^ j < 18446744073709551616 := by
 have : 2 ^ j < 2 ^ 64 := Nat.pow_lt_pow_right (by decide) h
 omega
theorem mkb_lt (h : Nat) : ∀ p, mkb h p < 18446744073709551616
 | 0 => by
  show (0 : Nat) < 18446744073709551616
  decide
 | p + 1 => by
  have h1 := mkb_lt h p
  have h2 := pow_lt64 ((h / 64 ^ p) % 64) (by omega)
  have h3 : mkb h p ||| 2 ^ ((h / 64 ^ p) % 64) < 2 ^ 64 := Nat.or_lt_two_pow (by omega) (by omega)
  simp only [mkb]
  omega
theorem mkb_test (h b : Nat) : ∀ p, (mkb h p).testBit b = true ↔ ∃ j, j < p ∧ (h / 64 ^ j) % 64 = b
 | 0 => by simp [mkb]
 | p + 1 => by
  simp only [mkb]
  rw [Nat.testBit_or, Bool.or_eq_true, mkb_test h b p, Nat.testBit_two_pow]
  constructor
  ·rintro (⟨j, hj, e⟩ | e)
   ·exact ⟨j, by omega, e⟩
   ·exact ⟨p, by omega, by simpa using e⟩
  ·rintro ⟨j, hj, e⟩
   by_cases c : j = p
   ·subst c
    exact .inr (by simpa using e)
   ·exact .inl ⟨j, by omega, e⟩
theorem shr6 (h i : Nat) (hi : i ≤ 5) : shr .u64 (h : Int) (wrap64 (6 * (i : Int))) = ((h / 64 ^ i : Nat) : Int) := by
 rw [w64 (by omega) (by omega), show 6 * (i : Int) = ((6 * i : Nat) : Int) by omega]
 unfold shr
 rw [Int.toNat_natCast, show min (6 * i) IntKind.u64.bits = 6 * i from Nat.min_eq_left (by show 6 * i ≤ 64; omega)]
 rw [show (64 : Nat) = 2 ^ 6 from rfl, ← Nat.pow_mul, Int.natCast_ediv]
 simp
theorem shl1 (j : Nat) (h : j < 64) : shl .u64 1 (j : Int) = ((2 ^ j : Nat) : Int) := by
 unfold shl
 rw [Int.toNat_natCast, show min j IntKind.u64.bits = j from Nat.min_eq_left (by show j ≤ 64; omega)]
 have e : (1 : Int) * 2 ^ j = ((2 ^ j : Nat) : Int) := by simp
 have := pow_lt64 j h
 rw [e]
 generalize 2 ^ j = q at *
 exact u64_in (by omega) (by omega)
theorem mask_l0 (h p : Nat) (hp : p ≤ 5) (ws : List Int) (pp B : Int) (hB : hash_Bucket.f (h : Int) (ws.length : Int) = some B) (d : Nat) : ∀ k i, p = i + d → d + 1 ≤ k →
  bloom_mask.l0 k (h : Int) (mkb h i : Int) (p : Int) (i : Int) ws pp = some (B, (mkb h p : Int)) := by
 induction d with
 | zero =>
  intro k i hd hk
  obtain ⟨k, rfl⟩ : ∃ m, k = m + 1 := ⟨k - 1, by omega⟩
  simp only [bloom_mask.l0]
  rw [if_neg (by omega), hB, bs, show p = i by omega]
 | succ d ih =>
  intro k i hd hk
  obtain ⟨k, rfl⟩ : ∃ m, k = m + 1 := ⟨k - 1, by omega⟩
  have e := ih k (i + 1) (by omega) (by omega)
  have h1 := mkb_lt h i
  have em : mkb h (i + 1) = mkb h i ||| 2 ^ (h / 64 ^ i % 64) := rfl
  rw [em] at e
  have h2 := pow_lt64 (h / 64 ^ i % 64) (Nat.mod_lt _ (by decide))
  simp only [bloom_mask.l0]
  rw [shr6 h i (by omega)]
  clear em
  generalize h / 64 ^ i = g at *
  have ht : Int.tmod (g : Int) 64 = ((g % 64 : Nat) : Int) := by
   rw [Int.tmod_eq_emod_of_nonneg (by omega)]
   omega
  rw [ht, if_pos (by omega), if_pos (by rw [w64 (by omega) (by omega)]; omega), if_pos (by omega), shl1 _ (by omega), bits_or_n _ _ h1 h2, w64 (n := (i : Int) + 1) (by omega) (by omega), show (i : Int) + 1 = ((i + 1 : Nat) : Int) by omega]
  exact e
theorem mask_is (h p : Nat) (hp : p ≤ 5) (ws : List Int) (B : Int) (hB : hash_Bucket.f (h : Int) (ws.length : Int) = some B) (k : Nat) (hk : 6 ≤ k) : bloom_mask.f k ws (p : Int) (h : Int) = some (B, (mkb h p : Int)) := by
 unfold bloom_mask.f
 exact mask_l0 h p hp ws _ B hB p k 0 (by omega) (by omega)
theorem bucket_is (h n : Nat) (hh : h < 18446744073709551616) (h1 : 1 ≤ n) (h2 : n ≤ 4096) : hash_Bucket.f (h : Int) (n : Int) = some ((h / 4294967296 % n : Nat) : Int) := by
 unfold hash_Bucket.f
 rw [if_neg (by omega), u64_in (n := (n : Int)) (by omega) (by omega), if_neg (by omega)]
 have e : Int.tmod ((h : Int) / 4294967296) (n : Int) = ((h / 4294967296 % n : Nat) : Int) := by
  rw [Int.tmod_eq_emod_of_nonneg (by omega), show (h : Int) / 4294967296 = ((h / 4294967296 : Nat) : Int) by omega, ← Int.natCast_emod]
 have hm : h / 4294967296 % n < n := Nat.mod_lt _ (by omega)
 rw [e, w64 (by omega) (by omega)]
def plc (h w p : Nat) : List Nat := (List.range p).map fun j => 64 * w + h / 64 ^ j % 64
def ints (l : List Nat) : List Int := l.map fun x : Nat => (x : Int)
def gb (L : List Bool) (q : Nat) : Bool := L.getD q false
theorem gb_set (L : List Bool) (a q : Nat) (ha : a < L.length) : gb (L.set a true) q = (gb L q || decide (q = a)) := by
 unfold gb
 rw [List.getD_eq_getElem?_getD, List.getD_eq_getElem?_getD, List.getElem?_set]
 by_cases c : a = q
 ·subst c
  simp [ha]
 ·rw [if_neg c, decide_eq_false (fun e => c e.symm), Bool.or_false]
def setA (L : List Bool) (P : List Nat) : List Bool := P.foldl (fun l q => l.set q true) L
theorem setA_len (P : List Nat) : ∀ L : List Bool, (setA L P).length = L.length := by
 induction P with
 | nil => exact fun L => rfl
 | cons a P ih =>
  intro L
  have := ih (L.set a true)
  rw [List.length_set] at this
  exact this
theorem gb_setA (P : List Nat) (q : Nat) : ∀ L : List Bool, (∀ a ∈ P, a < L.length) → gb (setA L P) q = (gb L q || decide (q ∈ P)) := by
 induction P with
 | nil => intro L _; simp [setA]
 | cons a P ih =>
  intro L h
  have e := ih (L.set a true) (fun b hb => by rw [List.length_set]; exact h b (List.mem_cons_of_mem _ hb))
  show gb (setA (L.set a true) P) q = _
  rw [e, gb_set L a q (h a List.mem_cons_self), Bool.or_assoc]
  congr 1
  by_cases c : q = a
  ·simp [c]
  ·simp [c]
theorem plc_lt (h w p n : Nat) (hw : w < n) : ∀ a ∈ plc h w p, a < 64 * n := by
 intro a ha
 obtain ⟨j, _, rfl⟩ := List.mem_map.1 ha
 have : h / 64 ^ j % 64 < 64 := Nat.mod_lt _ (by decide)
 omega
theorem mem_plc (h w p i v : Nat) (hi : i < 64) : (64 * v + i ∈ plc h w p) ↔ (v = w ∧ ∃ j, j < p ∧ h / 64 ^ j % 64 = i) := by
 constructor
 ·intro hm
  obtain ⟨j, hj, e⟩ := List.mem_map.1 hm
  have : h / 64 ^ j % 64 < 64 := Nat.mod_lt _ (by decide)
  exact ⟨by omega, j, List.mem_range.1 hj, by omega⟩
 ·rintro ⟨rfl, j, hj, e⟩
  exact List.mem_map.2 ⟨j, List.mem_range.2 hj, by omega⟩
structure Rel (n : Nat) (L : List Bool) (ws : List Int) : Prop where
 ll : L.length = 64 * n
 wl : ws.length = n
 wr : ∀ w, w < n → ∃ x : Nat, x < 18446744073709551616 ∧ ws[w]? = some (x : Int) ∧ ∀ i, i < 64 → gb L (64 * w + i) = x.testBit i
theorem rel_add {n : Nat} {L : List Bool} {ws : List Int} (R : Rel n L ws) (h p B : Nat) (hB : B < n) : ∃ x : Nat, x < 18446744073709551616 ∧ rd ws (B : Int) = (x : Int) ∧ Rel n (setA L (plc h B p)) (ws.set B ((x ||| mkb h p : Nat) : Int)) ∧ ((plc h B p).all (gb L) = decide (x &&& mkb h p = mkb h p)) := by
 obtain ⟨x, hx, hw, hb⟩ := R.wr B hB
 have hr : rd ws (B : Int) = (x : Int) := by
  unfold rd
  rw [Int.toNat_natCast, List.getD_eq_getElem?_getD, hw]
  rfl
 refine ⟨x, hx, hr, ⟨by rw [setA_len]; exact R.ll, by rw [List.length_set]; exact R.wl, ?_⟩, ?_⟩
 ·intro w hwn
  have hlt : ∀ a ∈ plc h B p, a < L.length := by rw [R.ll]; exact plc_lt _ _ _ _ hB
  by_cases c : w = B
  ·subst c
   have ho : x ||| mkb h p < 2 ^ 64 := Nat.or_lt_two_pow (by omega) (by have := mkb_lt h p; omega)
   refine ⟨x ||| mkb h p, by omega, ?_, ?_⟩
   ·rw [List.getElem?_set_self (by rw [R.wl]; exact hB)]
   ·intro i hi
    rw [gb_setA _ _ _ hlt, hb i hi, Nat.testBit_or]
    congr 1
    by_cases t : (mkb h p).testBit i = true
    ·rw [t, decide_eq_true ((mem_plc h w p i w hi).2 ⟨rfl, (mkb_test h i p).1 t⟩)]
    ·rw [Bool.eq_false_iff.2 t, decide_eq_false]
     exact fun m => t ((mkb_test h i p).2 ((mem_plc h w p i w hi).1 m).2)
  ·obtain ⟨y, hy, hyw, hyb⟩ := R.wr w hwn
   refine ⟨y, hy, ?_, ?_⟩
   ·rw [List.getElem?_set_ne (fun e => c e.symm)]
    exact hyw
   ·intro i hi
    rw [gb_setA _ _ _ hlt, hyb i hi, decide_eq_false (fun m => c ((mem_plc h B p i w hi).1 m).1), Bool.or_false]
 ·rw [Bool.eq_iff_iff, List.all_eq_true, decide_eq_true_iff]
  constructor
  ·intro hall
   apply Nat.eq_of_testBit_eq
   intro i
   rw [Nat.testBit_and]
   by_cases t : (mkb h p).testBit i = true
   ·obtain ⟨j, hj, e⟩ := (mkb_test h i p).1 t
    have hi : i < 64 := by rw [← e]; exact Nat.mod_lt _ (by decide)
    have := hall _ ((mem_plc h B p i B hi).2 ⟨rfl, j, hj, e⟩)
    rw [hb i hi] at this
    rw [this, t]
    rfl
   ·rw [Bool.eq_false_iff.2 t, Bool.and_false]
  ·intro e a ha
   obtain ⟨j, hj, rfl⟩ := List.mem_map.1 ha
   have hi : h / 64 ^ j % 64 < 64 := Nat.mod_lt _ (by decide)
   have t : (mkb h p).testBit (h / 64 ^ j % 64) = true := (mkb_test h _ p).2 ⟨j, List.mem_range.1 hj, rfl⟩
   rw [hb _ hi]
   rw [← e, Nat.testBit_and, Bool.and_eq_true] at t
   exact t.1
theorem rel_new (n : Nat) : Rel n (List.replicate (64 * n) false) (List.replicate n 0) := by
 refine ⟨by simp, by simp, ?_⟩
 intro w hw
 refine ⟨0, by decide, ?_, ?_⟩
 ·rw [List.getElem?_replicate, if_pos hw]
  rfl
 ·intro i hi
  unfold gb
  rw [List.getD_eq_getElem?_getD, List.getElem?_replicate]
  split <;> simp
theorem badd_l0 (p : Nat) (hp : p ≤ 5) (n : Nat) (h1 : 1 ≤ n) (h2 : n ≤ 4096) (H : List Nat) (hH : ∀ h ∈ H, h < 18446744073709551616) (hHl : H.length ≤ 100) (d : Nat) : ∀ (k i : Nat) (L : List Bool) (ws : List Int), Rel n L ws → H.length = i + d → d + 7 ≤ k →
  ∃ ws2, bloom_Add.l0 k (ints H) (H.length : Int) (i : Int) ws (p : Int) = some (ws2, (p : Int)) ∧ Rel n ((H.drop i).foldl (fun l h => setA l (plc h (h / 4294967296 % n) p)) L) ws2 := by
 have hlen : (ints H).length = H.length := by simp [ints]
 induction d with
 | zero =>
  intro k i L ws R hd hk
  obtain ⟨k, rfl⟩ : ∃ m, k = m + 1 := ⟨k - 1, by omega⟩
  refine ⟨ws, ?_, ?_⟩
  ·simp only [bloom_Add.l0]
   rw [if_neg (by omega)]
  ·rw [List.drop_eq_nil_of_le (by omega)]
   exact R
 | succ d ih =>
  intro k i L ws R hd hk
  obtain ⟨k, rfl⟩ : ∃ m, k = m + 1 := ⟨k - 1, by omega⟩
  have hi : i < H.length := by omega
  have hq := hH H[i] (List.getElem_mem hi)
  have er : rd (ints H) (i : Int) = (H[i] : Int) := by
   unfold rd ints
   rw [Int.toNat_natCast, List.getD_eq_getElem?_getD, List.getElem?_map, List.getElem?_eq_getElem hi]
   rfl
  have hm : H[i] / 4294967296 % n < n := Nat.mod_lt _ (by omega)
  obtain ⟨x, hx, hr, R2, _⟩ := rel_add R H[i] p (H[i] / 4294967296 % n) hm
  obtain ⟨ws2, e, R3⟩ := ih k (i + 1) _ _ R2 (by omega) (by omega)
  refine ⟨ws2, ?_, ?_⟩
  ·simp only [bloom_Add.l0]
   have hb : hash_Bucket.f (H[i] : Int) (ws.length : Int) = some ((H[i] / 4294967296 % n : Nat) : Int) := by
    rw [R.wl]
    exact bucket_is H[i] n hq h1 h2
   rw [if_pos (by omega), if_pos (by omega), if_pos (by omega), er, mask_is H[i] p hp ws _ hb k (by omega), bs]
   show (if (0 : Int) ≤ ((H[i] / 4294967296 % n : Nat) : Int) then (if ((H[i] / 4294967296 % n : Nat) : Int) < (ws.length : Int) then _ else _) else _) = _
   rw [if_pos (by omega), if_pos (by rw [R.wl]; omega)]
   show bloom_Add.l0 k (ints H) (H.length : Int) _ (ws.set (((H[i] / 4294967296 % n : Nat) : Int)).toNat (Go.bits .or .u64 (rd ws ((H[i] / 4294967296 % n : Nat) : Int)) (mkb H[i] p : Int))) (p : Int) = _
   rw [hr, bits_or_n _ _ hx (mkb_lt _ _), Int.toNat_natCast, w64 (by omega) (by omega), show (i : Int) + 1 = ((i + 1 : Nat) : Int) by omega]
   exact e
  ·rw [List.drop_eq_getElem_cons hi, List.foldl_cons]
   exact R3
theorem badd_is (p : Nat) (hp : p ≤ 5) (n : Nat) (h1 : 1 ≤ n) (h2 : n ≤ 4096) (H : List Nat) (hH : ∀ h ∈ H, h < 18446744073709551616) (hHl : H.length ≤ 100) (L : List Bool) (ws : List Int) (R : Rel n L ws) (k : Nat) (hk : H.length + 7 ≤ k) :
  ∃ ws2, bloom_Add.f k ws (p : Int) (ints H) = some (ws2, (p : Int)) ∧ Rel n (H.foldl (fun l h => setA l (plc h (h / 4294967296 % n) p)) L) ws2 := by
 have hlen : (ints H).length = H.length := by simp [ints]
 obtain ⟨ws2, e, R2⟩ := badd_l0 p hp n h1 h2 H hH hHl H.length k 0 L ws R (by omega) (by omega)
 refine ⟨ws2, ?_, by simpa using R2⟩
 unfold bloom_Add.f slices_Clone_uint64_uint64.f
 rw [R.wl, if_neg (by omega), bs, if_pos (by rw [List.length_nil]; omega), bs, List.nil_append, hlen]
 exact e
theorem bhas_is (p : Nat) (hp : p ≤ 5) (n : Nat) (h1 : 1 ≤ n) (h2 : n ≤ 4096) (h : Nat) (hh : h < 18446744073709551616) (L : List Bool) (ws : List Int) (R : Rel n L ws) (k : Nat) (hk : 8 ≤ k) :
  bloom_Has.f k ws (p : Int) (h : Int) = some ((plc h (h / 4294967296 % n) p).all (gb L)) := by
 have hm : h / 4294967296 % n < n := Nat.mod_lt _ (by omega)
 obtain ⟨x, hx, hr, _, e⟩ := rel_add R h p (h / 4294967296 % n) hm
 have hb : hash_Bucket.f (h : Int) (ws.length : Int) = some ((h / 4294967296 % n : Nat) : Int) := by
  rw [R.wl]
  exact bucket_is h n hh h1 h2
 unfold bloom_Has.f
 rw [if_neg (by rw [R.wl]; omega), mask_is h p hp ws _ hb k (by omega), bs]
 show (if (0 : Int) ≤ ((h / 4294967296 % n : Nat) : Int) then (if ((h / 4294967296 % n : Nat) : Int) < (ws.length : Int) then some (Go.bits .and .u64 (rd ws ((h / 4294967296 % n : Nat) : Int)) (mkb h p : Int) == (mkb h p : Int)) else _) else _) = _
 rw [if_pos (by omega), if_pos (by rw [R.wl]; omega), hr, bits_and_n _ _ hx (mkb_lt _ _), e]
 congr 1
 rw [Bool.eq_iff_iff, beq_iff_eq, decide_eq_true_iff]
 omega



def sg (n m : Int) : Int := if n < m then -1 else if n > m then 1 else 0
def lexI : List UInt8 → List UInt8 → Int
 | [], [] => 0
 | [], _ :: _ => -1
 | _ :: _, [] => 1
 | a :: x, b :: y => if a = b then lexI x y else if a < b then -1 else 1
def ord (a b : S23) : Int := if a.f0 = b.f0 then (if a.f1 = b.f1 then lexI a.f2.data.toList b.f2.data.toList else sg a.f1 b.f1) else sg a.f0 b.f0
theorem sg_anti (a b : Int) : sg a b = - sg b a := by unfold sg; split <;> split <;> (try split) <;> omega
theorem sg_zero (a b : Int) : sg a b = 0 ↔ a = b := by unfold sg; split <;> (try split) <;> omega
theorem u8_cases (a b : UInt8) : a = b ∨ (a ≠ b ∧ a < b ∧ ¬ b < a) ∨ (a ≠ b ∧ b < a ∧ ¬ a < b) := by
 by_cases h : a = b
 ·exact .inl h
 ·have hn : a.toNat ≠ b.toNat := fun e => h (UInt8.toNat_inj.1 e)
  rcases Nat.lt_or_gt_of_ne hn with e | e
  ·exact .inr (.inl ⟨h, UInt8.lt_iff_toNat_lt.2 e, fun e2 => by have := UInt8.lt_iff_toNat_lt.1 e2; omega⟩)
  ·exact .inr (.inr ⟨h, UInt8.lt_iff_toNat_lt.2 e, fun e2 => by have := UInt8.lt_iff_toNat_lt.1 e2; omega⟩)
theorem lexI_anti : ∀ x y : List UInt8, lexI x y = - lexI y x
 | [], [] => rfl
 | [], _ :: _ => rfl
 | _ :: _, [] => rfl
 | a :: x, b :: y => by
  simp only [lexI]
  rcases u8_cases a b with h | ⟨h, h1, h2⟩ | ⟨h, h1, h2⟩
  ·subst h
   rw [if_pos rfl, if_pos rfl]
   exact lexI_anti x y
  ·rw [if_neg h, if_pos h1, if_neg (fun e => h e.symm), if_neg h2]
  ·rw [if_neg h, if_neg h2, if_neg (fun e => h e.symm), if_pos h1]
   rfl
theorem lexI_self : ∀ x : List UInt8, lexI x x = 0
 | [] => rfl
 | a :: x => by simp only [lexI]; rw [if_pos trivial]; exact lexI_self x
theorem lexI_less : ∀ x y : List UInt8, lexI x y = if Op.bytesLess x y = true then -1 else if x = y then 0 else 1
 | [], [] => rfl
 | [], _ :: _ => rfl
 | _ :: _, [] => by simp [lexI, Op.bytesLess]
 | a :: x, b :: y => by
  simp only [lexI, Op.bytesLess]
  have ih := lexI_less x y
  rcases u8_cases a b with h | ⟨h, h1, h2⟩ | ⟨h, h1, h2⟩
  ·subst h
   rw [if_pos rfl, ih]
   simp
  ·rw [if_neg h, if_pos h1]
   simp [h1]
  ·rw [if_neg h, if_neg h2]
   simp [h, h2]
theorem ord_anti (a b : S23) : ord a b = - ord b a := by
 unfold ord
 by_cases h : a.f0 = b.f0
 ·rw [if_pos h, if_pos h.symm]
  by_cases h1 : a.f1 = b.f1
  ·rw [if_pos h1, if_pos h1.symm]
   exact lexI_anti _ _
  ·rw [if_neg h1, if_neg (fun e => h1 e.symm)]
   exact sg_anti _ _
 ·rw [if_neg h, if_neg (fun e => h e.symm)]
  exact sg_anti _ _
theorem cmp_int_is (a b : Int) : cmp_Compare_int.f a b = some (sg a b) := by
 unfold cmp_Compare_int.f cmp_isNaN_int.f sg
 rw [bs, bs]
 have e : ∀ x : Int, (x != x) = false := fun x => by simp
 rw [e, e, if_neg (by simp), if_neg (by simp)]
 split
 ·rfl
 ·split <;> rfl
theorem cmp_str_is (a b : ByteArray) : cmp_Compare_string.f a b = some (lexI a.data.toList b.data.toList) := by
 unfold cmp_Compare_string.f cmp_isNaN_string.f
 rw [bs, bs]
 have e : ∀ x : List UInt8, (x != x) = false := fun x => by simp
 rw [e, e, if_neg (by simp), if_neg (by simp), lexI_less, ByteArray.toList_eq, ByteArray.toList_eq]
 split
 ·rfl
 ·split <;> rfl
theorem or3 (a b c : Int) (k : Nat) : cmp_Or_int.f (k + 4) [a, b, c] = some (if a = 0 then (if b = 0 then c else b) else a) := by
 unfold cmp_Or_int.f
 have w1 : wrap64 (0 + 1) = 1 := by decide +kernel
 have w2 : wrap64 (1 + 1) = 2 := by decide +kernel
 have w3 : wrap64 (2 + 1) = 3 := by decide +kernel
 have r0 : rd [a, b, c] 0 = a := rfl
 have r1 : rd [a, b, c] 1 = b := rfl
 have r2 : rd [a, b, c] 2 = c := rfl
 have l : (([a, b, c] : List Int).length : Int) = 3 := rfl
 rw [l]
 have s0 : ∀ i : Int, 0 ≤ i → i < 3 → ∀ m, cmp_Or_int.l0 (m + 1) 0 [a, b, c] 3 i = if rd [a, b, c] i = 0 then cmp_Or_int.l0 m 0 [a, b, c] 3 (wrap64 (i + 1)) else some (rd [a, b, c] i) := by
  intro i h0 h1 m
  simp only [cmp_Or_int.l0]
  rw [if_pos h1, if_pos h0, l, if_pos h1]
 rw [s0 0 (by decide) (by decide), r0, w1, s0 1 (by decide) (by decide), r1, w2, s0 2 (by decide) (by decide), r2, w3]
 have s3 : cmp_Or_int.l0 (k + 1) 0 [a, b, c] 3 3 = some 0 := by
  simp only [cmp_Or_int.l0]
  rw [if_neg (by decide)]
 rw [s3]
 split
 ·split
  ·split
   ·rename_i h
    rw [h]
   ·rfl
  ·rfl
 ·rfl
theorem order_is (a b : S23) (k : Nat) (hk : 4 ≤ k) : val_Order.f k a.f0 a.f1 a.f2 b.f0 b.f1 b.f2 = some (ord a b) := by
 obtain ⟨k, rfl⟩ : ∃ m, k = m + 4 := ⟨k - 4, by omega⟩
 unfold val_Order.f
 rw [cmp_int_is, bs, cmp_int_is, bs, cmp_str_is, bs, or3, bs]
 unfold ord
 by_cases h : a.f0 = b.f0
 ·rw [if_pos ((sg_zero _ _).2 h), if_pos h]
  by_cases h1 : a.f1 = b.f1
  ·rw [if_pos ((sg_zero _ _).2 h1), if_pos h1]
  ·rw [if_neg (fun e => h1 ((sg_zero _ _).1 e)), if_neg h1]
 ·rw [if_neg (fun e => h ((sg_zero _ _).1 e)), if_neg h]
def spanStep (s : S106) (v : S23) : S106 := ⟨if s.f2 = 0 ∨ ord v s.f0 < 0 then v else s.f0, if s.f2 = 0 ∨ ord v s.f1 > 0 then v else s.f1, s.f2 + 1, s.f3⟩
def spanOf (l : List S23) : S106 := l.foldl spanStep z106
theorem spanOf_snoc (l : List S23) (v : S23) : spanOf (l ++ [v]) = spanStep (spanOf l) v := by simp [spanOf]
theorem fold_f2 (l : List S23) : ∀ s : S106, (l.foldl spanStep s).f2 = s.f2 + l.length ∧ (l.foldl spanStep s).f3 = s.f3 := by
 induction l with
 | nil => intro s; simp
 | cons v l ih =>
  intro s
  obtain ⟨a, b⟩ := ih (spanStep s v)
  rw [List.foldl_cons, a, b]
  refine ⟨?_, rfl⟩
  show s.f2 + 1 + _ = _
  rw [List.length_cons]
  omega
theorem spanOf_f2 (l : List S23) : (spanOf l).f2 = l.length ∧ (spanOf l).f3 = 0 := by
 obtain ⟨a, b⟩ := fold_f2 l z106
 exact ⟨a.trans (by show (0 : Int) + _ = _; omega), b⟩
theorem union_one (s : S106) (v : S23) (h0 : 0 ≤ s.f2) (h1 : s.f2 < 1000000) (h3 : s.f3 = 0) (k : Nat) (hk : 10 ≤ k) :
  span_Union.f k s.f0.f0 s.f0.f1 s.f0.f2 s.f1.f0 s.f1.f1 s.f1.f2 s.f2 s.f3 v.f0 v.f1 v.f2 v.f0 v.f1 v.f2 1 0 = some ((spanStep s v).f0.f0, (spanStep s v).f0.f1, (spanStep s v).f0.f2, (spanStep s v).f1.f0, (spanStep s v).f1.f1, (spanStep s v).f1.f2, (spanStep s v).f2, (spanStep s v).f3) := by
 obtain ⟨k, rfl⟩ : ∃ m, k = m + 10 := ⟨k - 10, by omega⟩
 have w1 : wrap64 (s.f2 + 1) = s.f2 + 1 := w64 (by omega) (by omega)
 have w2 : wrap64 (s.f3 + 0) = s.f3 := by rw [w64 (by omega) (by omega)]; omega
 unfold span_Union.f spanStep
 by_cases c : s.f2 = 0
 ·rw [if_pos c]
  simp only [span_Union.j0]
  rw [if_pos trivial]
  simp only [span_Union.j1]
  rw [if_pos c]
  simp only [span_Union.j2]
  rw [if_pos trivial]
  simp only [span_Union.j3]
  rw [w1, w2, if_pos (.inl c), if_pos (.inl c)]
 ·rw [if_neg c, if_pos (show (1 : Int) > 0 by decide), order_is v s.f0 _ (by omega), bs]
  by_cases e1 : ord v s.f0 < 0
  ·rw [decide_eq_true e1, if_pos (.inr e1)]
   simp only [span_Union.j0]
   rw [if_pos trivial]
   simp only [span_Union.j1]
   rw [if_neg c, if_pos (show (1 : Int) > 0 by decide), order_is v s.f1 _ (by omega), bs]
   by_cases e2 : ord v s.f1 > 0
   ·rw [decide_eq_true e2, if_pos (.inr e2)]
    simp only [span_Union.j2]
    rw [if_pos trivial]
    simp only [span_Union.j3]
    rw [w1, w2]
   ·rw [decide_eq_false e2, if_neg (fun h => h.elim c e2)]
    simp only [span_Union.j2]
    rw [if_neg (by simp)]
    simp only [span_Union.j3]
    rw [w1, w2]
  ·rw [decide_eq_false e1, if_neg (fun h => h.elim c e1)]
   simp only [span_Union.j0]
   rw [if_neg (by simp)]
   simp only [span_Union.j1]
   rw [if_neg c, if_pos (show (1 : Int) > 0 by decide), order_is v s.f1 _ (by omega), bs]
   by_cases e2 : ord v s.f1 > 0
   ·rw [decide_eq_true e2, if_pos (.inr e2)]
    simp only [span_Union.j2]
    rw [if_pos trivial]
    simp only [span_Union.j3]
    rw [w1, w2]
   ·rw [decide_eq_false e2, if_neg (fun h => h.elim c e2)]
    simp only [span_Union.j2]
    rw [if_neg (by simp)]
    simp only [span_Union.j3]
    rw [w1, w2]
theorem span_step (s : S106) (v : S23) (hv : v.f0 ≠ 0) (h0 : 0 ≤ s.f2) (h1 : s.f2 < 1000000) (h3 : s.f3 = 0) (k : Nat) (hk : 20 ≤ k) :
  span_Add.f k s.f0.f0 s.f0.f1 s.f0.f2 s.f1.f0 s.f1.f1 s.f1.f2 s.f2 s.f3 [v] = some ((spanStep s v).f0.f0, (spanStep s v).f0.f1, (spanStep s v).f0.f2, (spanStep s v).f1.f0, (spanStep s v).f1.f1, (spanStep s v).f1.f2, (spanStep s v).f2, (spanStep s v).f3) := by
 obtain ⟨k, rfl⟩ : ∃ m, k = m + 2 := ⟨k - 2, by omega⟩
 have l1 : (([v] : List S23).length : Int) = 1 := rfl
 have w1 : wrap64 (0 + 1) = 1 := by decide +kernel
 have one : span_one.f v.f0 v.f1 v.f2 = some (v.f0, v.f1, v.f2, v.f0, v.f1, v.f2, 1, 0) := by
  unfold span_one.f val_IsNull.f
  rw [bs, beq_eq_false_iff_ne.2 hv, if_neg (by simp)]
 have last : ∀ (m : Nat) (a b : Int) (c : ByteArray) (d e : Int) (f : ByteArray) (g h : Int), span_Add.l0 (m + 1) [v] 1 1 a b c d e f g h = some (a, b, c, d, e, f, g, h) := by
  intro m a b c d e f g h
  simp only [span_Add.l0]
  rw [if_neg (by decide)]
 have first : ∀ (m : Nat), 10 ≤ m → span_Add.l0 (m + 1) [v] 1 0 s.f0.f0 s.f0.f1 s.f0.f2 s.f1.f0 s.f1.f1 s.f1.f2 s.f2 s.f3 = span_Add.l0 m [v] 1 1 (spanStep s v).f0.f0 (spanStep s v).f0.f1 (spanStep s v).f0.f2 (spanStep s v).f1.f0 (spanStep s v).f1.f1 (spanStep s v).f1.f2 (spanStep s v).f2 (spanStep s v).f3 := by
  intro m hm
  have r0 : rd_T23 [v] 0 = v := rfl
  simp only [span_Add.l0]
  rw [if_pos (by decide), if_pos (by decide), if_pos (show (0 : Int) < (([v] : List S23).length : Int) by rw [l1]; decide), r0, one, bs]
  show ((span_Union.f m s.f0.f0 s.f0.f1 s.f0.f2 s.f1.f0 s.f1.f1 s.f1.f2 s.f2 s.f3 v.f0 v.f1 v.f2 v.f0 v.f1 v.f2 1 0).bind _) = _
  rw [union_one s v h0 h1 h3 m hm, bs, w1]
 unfold span_Add.f
 rw [l1, first (k + 1) (by omega), last k]
def hasB (s : S106) (v : S23) : Bool := decide (s.f2 > 0) && (decide (ord v s.f0 ≥ 0) && decide (ord v s.f1 ≤ 0))
theorem span_has_is (s : S106) (v : S23) (hv : v.f0 ≠ 0) (k : Nat) (hk : 4 ≤ k) : span_Has.f k s.f0.f0 s.f0.f1 s.f0.f2 s.f1.f0 s.f1.f1 s.f1.f2 s.f2 s.f3 v.f0 v.f1 v.f2 = some (hasB s v) := by
 unfold span_Has.f val_IsNull.f hasB
 rw [bs, beq_eq_false_iff_ne.2 hv, if_neg (by simp)]
 by_cases c : s.f2 > 0
 ·rw [if_pos c, order_is v s.f0 _ hk, bs, decide_eq_true c, Bool.true_and]
  by_cases d : ord v s.f0 ≥ 0
  ·rw [if_pos d, order_is v s.f1 _ hk, bs, decide_eq_true d, Bool.true_and]
  ·rw [if_neg d, decide_eq_false d, Bool.false_and]
 ·rw [if_neg c, decide_eq_false c, Bool.false_and]
def whB (l : List S23) : Bool := l.all (fun y => y.f0 != 0)
theorem get23 (l : List S23) (i : Nat) (h : i < l.length) : rd_T23 l (i : Int) = l[i] := by
 unfold rd_T23
 rw [Int.toNat_natCast, List.getD_eq_getElem?_getD, List.getElem?_eq_getElem h]
 rfl
theorem getL (l : List (List S23)) (i : Nat) (h : i < l.length) : rd_L6 l (i : Int) = l[i] := by
 unfold rd_L6
 rw [Int.toNat_natCast, List.getD_eq_getElem?_getD, List.getElem?_eq_getElem h]
 rfl
theorem get106 (l : List S106) (i : Nat) (h : i < l.length) : rd_T106 l (i : Int) = l[i] := by
 unfold rd_T106
 rw [Int.toNat_natCast, List.getD_eq_getElem?_getD, List.getElem?_eq_getElem h]
 rfl
theorem index_l0 (l : List S23) (hl : l.length ≤ 1000) (d : Nat) : ∀ (k i : Nat), l.length = i + d → d + 1 ≤ k → ∃ r : Int, slices_IndexFunc_125__val_IsNull.l0 k l (l.length : Int) (i : Int) = some r ∧ decide (r ≥ 0) = !((l.drop i).all (fun y => y.f0 != 0)) := by
 induction d with
 | zero =>
  intro k i hd hk
  obtain ⟨k, rfl⟩ : ∃ m, k = m + 1 := ⟨k - 1, by omega⟩
  refine ⟨-1, ?_, ?_⟩
  ·simp only [slices_IndexFunc_125__val_IsNull.l0]
   rw [if_neg (by omega)]
  ·rw [List.drop_eq_nil_of_le (by omega)]
   rfl
 | succ d ih =>
  intro k i hd hk
  obtain ⟨k, rfl⟩ : ∃ m, k = m + 1 := ⟨k - 1, by omega⟩
  have hi : i < l.length := by omega
  obtain ⟨r, e, g⟩ := ih k (i + 1) (by omega) (by omega)
  have hstep : slices_IndexFunc_125__val_IsNull.l0 (k + 1) l (l.length : Int) (i : Int) = if (l[i].f0 == 0) = true then some (i : Int) else slices_IndexFunc_125__val_IsNull.l0 k l (l.length : Int) ((i + 1 : Nat) : Int) := by
   simp only [slices_IndexFunc_125__val_IsNull.l0, val_IsNull.f]
   rw [if_pos (by omega), if_pos (by omega), if_pos (by omega), bs, get23 l i hi, w64 (by omega) (by omega), show (i : Int) + 1 = ((i + 1 : Nat) : Int) by omega]
  rw [hstep, List.drop_eq_getElem_cons hi, List.all_cons]
  by_cases c : l[i].f0 = 0
  ·refine ⟨(i : Int), by rw [if_pos (beq_iff_eq.2 c)], ?_⟩
   rw [decide_eq_true (by omega), c]
   rfl
  ·refine ⟨r, by rw [if_neg (by simpa using c), e], ?_⟩
   rw [g, bne_iff_ne.2 c, Bool.true_and]
theorem whole_is (l : List S23) (hl : l.length ≤ 1000) (k : Nat) (hk : l.length + 1 ≤ k) : sift_Whole.f k l = some (whB l) := by
 obtain ⟨r, e, g⟩ := index_l0 l hl l.length k 0 (by omega) (by omega)
 unfold sift_Whole.f slices_ContainsFunc_91__val_IsNull.f slices_IndexFunc_125__val_IsNull.f
 rw [show (0 : Int) = ((0 : Nat) : Int) from rfl, e, bs, bs]
 rw [List.drop_zero] at g
 show some (!decide (r ≥ 0)) = _
 rw [g, Bool.not_not]
 rfl
theorem rwhole_l0 (l : List S23) (hl : l.length ≤ 1000) (d : Nat) : ∀ (k i : Nat), l.length = i + d → d + 1 ≤ k → r20_Whole.l0 k l (i : Int) = some ((l.drop i).all (fun y => y.f0 != 0)) := by
 induction d with
 | zero =>
  intro k i hd hk
  obtain ⟨k, rfl⟩ : ∃ m, k = m + 1 := ⟨k - 1, by omega⟩
  simp only [r20_Whole.l0]
  rw [if_neg (by omega), List.drop_eq_nil_of_le (by omega)]
  rfl
 | succ d ih =>
  intro k i hd hk
  obtain ⟨k, rfl⟩ : ∃ m, k = m + 1 := ⟨k - 1, by omega⟩
  have hi : i < l.length := by omega
  have e := ih k (i + 1) (by omega) (by omega)
  simp only [r20_Whole.l0]
  rw [if_pos (by omega), if_pos (by omega), get23 l i hi, w64 (by omega) (by omega), show (i : Int) + 1 = ((i + 1 : Nat) : Int) by omega, List.drop_eq_getElem_cons hi, List.all_cons]
  by_cases c : l[i].f0 = 0
  ·rw [if_pos c, c]
   rfl
  ·rw [if_neg c, e, bne_iff_ne.2 c, Bool.true_and]
theorem rwhole_is (l : List S23) (hl : l.length ≤ 1000) (k : Nat) (hk : l.length + 1 ≤ k) : r20_Whole.f k l = some (whB l) := by
 have e := rwhole_l0 l hl l.length k 0 (by omega) hk
 rw [List.drop_zero] at e
 exact e
theorem wholes_l0 (L : List (List S23)) (hL : L.length ≤ 1000) (hr : ∀ r ∈ L, r.length ≤ 40) (d : Nat) : ∀ (k i : Nat), L.length = i + d → d + 50 ≤ k → r20_wholes.l0 k L ((L.take i).filter whB) (i : Int) = some (L.filter whB) := by
 induction d with
 | zero =>
  intro k i hd hk
  obtain ⟨k, rfl⟩ : ∃ m, k = m + 1 := ⟨k - 1, by omega⟩
  simp only [r20_wholes.l0]
  rw [if_neg (by omega), List.take_of_length_le (by omega)]
 | succ d ih =>
  intro k i hd hk
  obtain ⟨k, rfl⟩ : ∃ m, k = m + 1 := ⟨k - 1, by omega⟩
  have hi : i < L.length := by omega
  have h40 := hr L[i] (List.getElem_mem hi)
  have e := ih k (i + 1) (by omega) (by omega)
  have hlen : ((L.take i).filter whB).length ≤ i := Nat.le_trans (List.length_filter_le _ _) (by rw [List.length_take]; omega)
  rw [← List.take_append_getElem hi, List.filter_append] at e
  simp only [r20_wholes.l0]
  rw [if_pos (by omega), if_pos (by omega), getL L i hi, rwhole_is L[i] (by omega) k (by omega), bs, w64 (by omega) (by omega), show (i : Int) + 1 = ((i + 1 : Nat) : Int) by omega]
  by_cases c : whB L[i] = true
  ·rw [if_pos c, if_pos (by omega)]
   rw [List.filter_cons_of_pos c, List.filter_nil] at e
   exact e
  ·rw [if_neg c]
   rw [List.filter_cons_of_neg c, List.filter_nil, List.append_nil] at e
   exact e
theorem wholes_is (L : List (List S23)) (hL : L.length ≤ 1000) (hr : ∀ r ∈ L, r.length ≤ 40) (k : Nat) (hk : L.length + 50 ≤ k) : r20_wholes.f k L = some (L.filter whB) := by
 unfold r20_wholes.f
 exact wholes_l0 L hL hr L.length k 0 (by omega) hk
theorem text_indep (s : ByteArray) (hs : s.size ≤ 140737488355328000) (d : Nat) : ∀ (k1 k2 : Nat) (h i : Int), 0 ≤ i → i ≤ s.size → (s.size : Int) - i = d → d < k1 → d < k2 → hash_text.l0 k1 s h (s.size : Int) i = hash_text.l0 k2 s h (s.size : Int) i := by
 induction d with
 | zero =>
  intro k1 k2 h i h0 h1 hd hk1 hk2
  obtain ⟨k1, rfl⟩ : ∃ m, k1 = m + 1 := ⟨k1 - 1, by omega⟩
  obtain ⟨k2, rfl⟩ : ∃ m, k2 = m + 1 := ⟨k2 - 1, by omega⟩
  simp only [hash_text.l0]
  rw [if_neg (by omega), if_neg (by omega)]
 | succ d ih =>
  intro k1 k2 h i h0 h1 hd hk1 hk2
  obtain ⟨k1, rfl⟩ : ∃ m, k1 = m + 1 := ⟨k1 - 1, by omega⟩
  obtain ⟨k2, rfl⟩ : ∃ m, k2 = m + 1 := ⟨k2 - 1, by omega⟩
  simp only [hash_text.l0, hash_Byte.f]
  rw [if_pos (by omega), if_pos (by omega), if_pos (by omega), if_pos (by omega), if_pos (by omega), if_pos (by omega), bs, bs, w64 (by omega) (by omega)]
  exact ih k1 k2 _ _ (by omega) (by omega) (by omega) (by omega) (by omega)
def rhv (seed : Int) (l : List S23) : Nat := ((hash_text.f ((rkey l).size + 1) seed (rkey l)).getD 0).toNat
theorem phv_is (seed : Int) (l : List S23) (hs : ∀ y ∈ l, y.f2.size ≤ 140737488351232) (hl : l.length ≤ 1000) (k : Nat) (hk : l.length + 20 ≤ k) (hk2 : (rkey l).size < k) : hash_Row.f k seed l = some (rhv seed l : Int) ∧ rhv seed l < 18446744073709551616 := by
 have hz := rkey_size l hs
 obtain ⟨r, e1, h0, h1, e3⟩ := prow_is seed l hs hl k hk hk2
 have e4 : hash_text.f ((rkey l).size + 1) seed (rkey l) = some r := by
  rw [← e3]
  unfold hash_text.f hash_Start.f
  obtain ⟨q, hq, _⟩ := mix_some (IntKind.u64.wrap (IntKind.u64.wrap seed + 2685821657736338717))
  rw [hq, bs, bs, bs]
  exact text_indep _ (by omega) (rkey l).size _ _ _ _ (by omega) (by omega) (by omega) (by omega) (by omega)
 have e5 : (rhv seed l : Int) = r := by
  unfold rhv
  rw [e4]
  show ((r.toNat : Nat) : Int) = r
  omega
 exact ⟨by rw [e5]; exact e1, by omega⟩
theorem rkey_small (l : List S23) : (∀ y ∈ l, y.f2.size ≤ 140737488351232) → (rkey l).size ≤ 40 * l.length + rowN l := by
 induction l with
 | nil => intro _; exact Nat.zero_le _
 | cons y l ih =>
  intro hs
  have h1 := vkey_size y.f0 y.f1 y.f2
  have h2 := hs y (List.mem_cons_self)
  have h3 := itoa_size (vkey y.f0 y.f1 y.f2).size (by omega)
  have h4 := ih (fun z hz => hs z (List.mem_cons_of_mem _ hz))
  have e : (⟨#[58]⟩ : ByteArray).size = 1 := rfl
  rw [rkey, ByteArray.size_append, ByteArray.size_append, ByteArray.size_append, e, List.length_cons, rowN_cons]
  omega
def col (L : List (List S23)) (i : Nat) : List S23 := L.filterMap (fun r => r[i]?)
def mxl (L : List (List S23)) : Nat := L.foldl (fun m r => max m r.length) 0
theorem mxl_snoc (L : List (List S23)) (r : List S23) : mxl (L ++ [r]) = max (mxl L) r.length := by simp [mxl]
theorem fold_max (L : List (List S23)) : ∀ m : Nat, m ≤ L.foldl (fun m r => max m r.length) m ∧ ∀ r ∈ L, r.length ≤ L.foldl (fun m r => max m r.length) m := by
 induction L with
 | nil => exact fun m => ⟨Nat.le_refl _, fun r h => by cases h⟩
 | cons a L ih =>
  intro m
  obtain ⟨h1, h2⟩ := ih (max m a.length)
  rw [List.foldl_cons]
  refine ⟨by omega, ?_⟩
  intro r hr
  rcases List.mem_cons.1 hr with rfl | hr
  ·omega
  ·exact h2 r hr
theorem fold_max_le (L : List (List S23)) (B : Nat) (h : ∀ r ∈ L, r.length ≤ B) : ∀ m : Nat, m ≤ B → L.foldl (fun m r => max m r.length) m ≤ B := by
 induction L with
 | nil => exact fun m hm => hm
 | cons a L ih =>
  intro m hm
  have := h a List.mem_cons_self
  rw [List.foldl_cons]
  exact ih (fun r hr => h r (List.mem_cons_of_mem _ hr)) _ (by omega)
theorem mxl_le (L : List (List S23)) (B : Nat) (h : ∀ r ∈ L, r.length ≤ B) : mxl L ≤ B := fold_max_le L B h 0 (Nat.zero_le _)
theorem col_nil (L : List (List S23)) (i : Nat) (h : mxl L ≤ i) : col L i = [] := by
 unfold col
 rw [List.filterMap_eq_nil_iff]
 intro r hr
 have := (fold_max L 0).2 r hr
 exact List.getElem?_eq_none (by unfold mxl at h; omega)
theorem col_snoc (L : List (List S23)) (r : List S23) (i : Nat) (h : i < r.length) : col (L ++ [r]) i = col L i ++ [r[i]] := by
 simp [col, List.filterMap_append, List.getElem?_eq_getElem h]
theorem col_snoc' (L : List (List S23)) (r : List S23) (i : Nat) (h : r.length ≤ i) : col (L ++ [r]) i = col L i := by
 simp [col, List.filterMap_append, List.getElem?_eq_none h]
theorem col_len (L : List (List S23)) (i : Nat) : (col L i).length ≤ L.length := List.length_filterMap_le _ _
def tab (m : Nat) (g : Nat → S106) : List S106 := (List.range m).map g
theorem tab_len (m : Nat) (g : Nat → S106) : (tab m g).length = m := by simp [tab]
theorem tab_get (m : Nat) (g : Nat → S106) (i : Nat) (h : i < (tab m g).length) : (tab m g)[i] = g i := by simp [tab]
theorem tab_set (m : Nat) (g h : Nat → S106) (j : Nat) (hg : ∀ i, i ≠ j → h i = g i) : (tab m g).set j (h j) = tab m h := by
 apply List.ext_getElem
 ·simp [tab]
 ·intro i h1 h2
  rw [List.getElem_set]
  by_cases c : j = i
  ·subst c
   rw [if_pos rfl, tab_get]
  ·rw [if_neg c, tab_get, tab_get, hg i (fun e => c e.symm)]
theorem tab_congr (m : Nat) (g h : Nat → S106) (e : ∀ i, i < m → g i = h i) : tab m g = tab m h := by
 apply List.ext_getElem
 ·simp [tab]
 ·intro i h1 h2
  rw [tab_get, tab_get]
  exact e i (by rw [tab_len] at h1; exact h1)

def spn (W : List (List S23)) : List S106 := tab (mxl W) (fun q => spanOf (col W q))
def tmid (W : List (List S23)) (r : List S23) (j : Nat) : List S106 := tab (max (mxl W) r.length) (fun q => if q < j then spanOf (col (W ++ [r]) q) else spanOf (col W q))
theorem tmid_get (W : List (List S23)) (r : List S23) (j i : Nat) (h : i < (tmid W r j).length) : (tmid W r j)[i] = if i < j then spanOf (col (W ++ [r]) i) else spanOf (col W i) := tab_get _ _ i h
theorem spn_get (W : List (List S23)) (i : Nat) (h : i < (spn W).length) : (spn W)[i] = spanOf (col W i) := tab_get _ _ i h
theorem spn_len (W : List (List S23)) : (spn W).length = mxl W := tab_len _ _
theorem tmid_zero (W : List (List S23)) (r : List S23) (d : Nat) (hd : max (mxl W) r.length = mxl W + d) : spn W ++ List.replicate d z106 = tmid W r 0 := by
 apply List.ext_getElem
 ·rw [List.length_append, List.length_replicate]
  unfold spn tmid
  rw [tab_len, tab_len, hd]
 ·intro i h1 h2
  rw [tmid_get, if_neg (by omega)]
  rw [List.getElem_append]
  split
  ·rw [spn_get]
  ·rename_i h
   rw [spn_len] at h
   rw [List.getElem_replicate, col_nil W i (by omega)]
   rfl
theorem tmid_end (W : List (List S23)) (r : List S23) : tmid W r r.length = spn (W ++ [r]) := by
 unfold tmid spn
 rw [mxl_snoc]
 apply tab_congr
 intro i _
 by_cases c : i < r.length
 ·rw [if_pos c]
 ·rw [if_neg c, col_snoc' W r i (by omega)]
theorem tmid_set (W : List (List S23)) (r : List S23) (j : Nat) : (tmid W r j).set j (spanOf (col (W ++ [r]) j)) = tmid W r (j + 1) := by
 have e := tab_set (max (mxl W) r.length) (fun q => if q < j then spanOf (col (W ++ [r]) q) else spanOf (col W q)) (fun q => if q < j + 1 then spanOf (col (W ++ [r]) q) else spanOf (col W q)) j (by
  intro i hi
  by_cases c : i < j
  ·simp only [if_pos c, if_pos (show i < j + 1 by omega)]
  ·simp only [if_neg c, if_neg (show ¬ i < j + 1 by omega)])
 simp only [if_pos (show j < j + 1 by omega)] at e
 exact e
theorem ext_l1 (Q : Option (List Int × Int × (List (S106)) × Int × Int × Bool) → Prop) (B : Nat) (x5 : List Int) (r : List S23) (L : List (List S23)) (n i : Int) (ws : List Int) (p seed c : Int) (m : Bool) (hr : r.length ≤ 40) (d : Nat) : ∀ (sp : List S106), r.length - sp.length = d → sp.length ≤ 40 →
  (∀ k, B ≤ k → Q (sift_Add.l2 k x5 r L n i r (r.length : Int) 0 ws p (sp ++ List.replicate d z106) seed c m)) → ∀ k, B + d + 1 ≤ k → Q (sift_Add.l1 k x5 r L n i ws p sp seed c m) := by
 induction d with
 | zero =>
  intro sp h1 h2 hc k hk
  obtain ⟨k, rfl⟩ : ∃ m, k = m + 1 := ⟨k - 1, by omega⟩
  simp only [sift_Add.l1]
  rw [if_neg (by omega)]
  have e := hc k (by omega)
  rw [List.replicate_zero, List.append_nil] at e
  exact e
 | succ d ih =>
  intro sp h1 h2 hc k hk
  obtain ⟨k, rfl⟩ : ∃ m, k = m + 1 := ⟨k - 1, by omega⟩
  simp only [sift_Add.l1]
  rw [if_pos (by omega), if_pos (by omega)]
  refine ih (sp ++ [z106]) (by rw [List.length_append, List.length_singleton]; omega) (by rw [List.length_append, List.length_singleton]; omega) ?_ k (by omega)
  intro k2 hk2
  have e := hc k2 hk2
  rw [List.replicate_succ] at e
  rw [List.append_assoc]
  exact e
theorem put_l2 (Q : Option (List Int × Int × (List (S106)) × Int × Int × Bool) → Prop) (B : Nat) (hB : 6000 ≤ B) (x5 : List Int) (hx5 : x5.length ≤ 1000) (W : List (List S23)) (hW : W.length ≤ 1000) (r : List S23) (hr : r.length ≤ 40) (hz : ∀ y ∈ r, y.f2.size ≤ 140737488351232) (hk3 : (rkey r).size < 6000) (hwr : whB r = true) (L : List (List S23)) (n i : Int) (h0 : 0 ≤ i) (h1 : i < 1000) (ws : List Int) (p seed c : Int) (hc0 : 0 ≤ c) (hc1 : c < 1000) (m : Bool)
  (hQ : ∀ k, B ≤ k → Q (sift_Add.l0 k (x5 ++ [(rhv seed r : Int)]) L n (i + 1) ws p (spn (W ++ [r])) seed (c + 1) m)) (d : Nat) : ∀ (j k : Nat), r.length = j + d → B + d + 1 ≤ k →
  Q (sift_Add.l2 k x5 r L n i r (r.length : Int) (j : Int) ws p (tmid W r j) seed c m) := by
 induction d with
 | zero =>
  intro j k hd hk
  obtain ⟨k, rfl⟩ : ∃ m, k = m + 1 := ⟨k - 1, by omega⟩
  simp only [sift_Add.l2]
  rw [if_neg (by omega), (phv_is seed r hz (by omega) k (by omega) (by omega)).1, bs, if_pos (by omega), w64 (n := i + 1) (by omega) (by omega), w64 (n := c + 1) (by omega) (by omega), show j = r.length by omega, tmid_end]
  exact hQ k (by omega)
 | succ d ih =>
  intro j k hd hk
  obtain ⟨k, rfl⟩ : ∃ m, k = m + 1 := ⟨k - 1, by omega⟩
  have hj : j < r.length := by omega
  have hlen : (tmid W r j).length = max (mxl W) r.length := by unfold tmid; rw [tab_len]
  have hv : r[j].f0 ≠ 0 := by
   have := List.all_eq_true.1 hwr r[j] (List.getElem_mem hj)
   simpa using this
  have es : rd_T106 (tmid W r j) (j : Int) = spanOf (col W j) := by
   rw [get106 _ _ (by omega)]
   unfold tmid
   rw [tab_get, if_neg (by omega)]
  obtain ⟨f2, f3⟩ := spanOf_f2 (col W j)
  have hcl := col_len W j
  have st := span_step (spanOf (col W j)) r[j] hv (by omega) (by omega) f3 k (by omega)
  rw [← spanOf_snoc, ← col_snoc W r j hj] at st
  have e := ih (j + 1) k (by omega) (by omega)
  rw [← tmid_set] at e
  simp only [sift_Add.l2]
  rw [if_pos (by omega), if_pos (by omega), if_pos (by omega), if_pos (by omega), es, get23 r j hj]
  show Q ((span_Add.f k (spanOf (col W j)).f0.f0 (spanOf (col W j)).f0.f1 (spanOf (col W j)).f0.f2 (spanOf (col W j)).f1.f0 (spanOf (col W j)).f1.f1 (spanOf (col W j)).f1.f2 (spanOf (col W j)).f2 (spanOf (col W j)).f3 [r[j]]).bind _)
  rw [st, bs, w64 (n := (j : Int) + 1) (by omega) (by omega), Int.toNat_natCast, show (j : Int) + 1 = ((j + 1 : Nat) : Int) by omega]
  exact e
theorem add_l0 (seed : Int) (n p : Nat) (hn1 : 1 ≤ n) (hn2 : n ≤ 4096) (hp : p ≤ 5) (L : List (List S23)) (hL : L.length ≤ 50) (hr : ∀ r ∈ L, r.length ≤ 40) (hz : ∀ r ∈ L, ∀ y ∈ r, y.f2.size ≤ 140737488351232) (hk3 : ∀ r ∈ L, (rkey r).size < 6000) (m : Bool) (B : List Bool) (ws : List Int) (R : Rel n B ws) (d : Nat) : ∀ (k i : Nat), L.length = i + d → d * 90 + 6100 ≤ k →
  ∃ ws2, sift_Add.l0 k (ints (((L.take i).filter whB).map (rhv seed))) L (L.length : Int) (i : Int) ws (p : Int) (spn ((L.take i).filter whB)) seed (((L.take i).filter whB).length : Int) m = some (ws2, (p : Int), spn (L.filter whB), seed, ((L.filter whB).length : Int), m) ∧ Rel n (((L.filter whB).map (rhv seed)).foldl (fun l h => setA l (plc h (h / 4294967296 % n) p)) B) ws2 := by
 induction d with
 | zero =>
  intro k i hd hk
  obtain ⟨k, rfl⟩ : ∃ m, k = m + 1 := ⟨k - 1, by omega⟩
  rw [List.take_of_length_le (by omega)]
  have hfl : (L.filter whB).length ≤ L.length := List.length_filter_le _ _
  obtain ⟨ws2, e, R2⟩ := badd_is p hp n hn1 hn2 ((L.filter whB).map (rhv seed)) (by
   intro h hh
   obtain ⟨r, hr2, rfl⟩ := List.mem_map.1 hh
   have hm := (List.mem_filter.1 hr2).1
   have := hr r hm
   exact (phv_is seed r (hz r hm) (by omega) 6100 (by omega) (by have := hk3 r hm; omega)).2) (by rw [List.length_map]; omega) B ws R k (by rw [List.length_map]; omega)
  refine ⟨ws2, ?_, R2⟩
  simp only [sift_Add.l0]
  rw [if_neg (by omega), e, bs]
 | succ d ih =>
  intro k i hd hk
  obtain ⟨k, rfl⟩ : ∃ m, k = m + 1 := ⟨k - 1, by omega⟩
  have hi : i < L.length := by omega
  have hmem := List.getElem_mem hi
  have h40 := hr L[i] hmem
  have hfl : ((L.take i).filter whB).length ≤ i := Nat.le_trans (List.length_filter_le _ _) (by rw [List.length_take]; omega)
  have ihk := fun k2 (hk2 : d * 90 + 6100 ≤ k2) => ih k2 (i + 1) (by omega) hk2
  rw [← List.take_append_getElem hi, List.filter_append] at ihk
  simp only [sift_Add.l0]
  rw [if_pos (by omega), if_pos (by omega), if_pos (by omega), getL L i hi, whole_is L[i] (by omega) k (by omega), bs]
  by_cases c : whB L[i] = true
  ·rw [if_pos c]
   rw [List.filter_cons_of_pos c, List.filter_nil, List.map_append, List.length_append] at ihk
   have hml : mxl ((L.take i).filter whB) ≤ 40 := mxl_le _ 40 (fun r hr2 => hr r (List.mem_of_mem_take (List.mem_filter.1 hr2).1))
   have hsl : (spn ((L.take i).filter whB)).length = mxl ((L.take i).filter whB) := by unfold spn; rw [tab_len]
   refine ext_l1 (fun o => ∃ ws2, o = some (ws2, (p : Int), spn (L.filter whB), seed, ((L.filter whB).length : Int), m) ∧ Rel n (((L.filter whB).map (rhv seed)).foldl (fun l h => setA l (plc h (h / 4294967296 % n) p)) B) ws2) (d * 90 + 6100 + L[i].length + 1) _ L[i] L _ _ ws _ seed _ m h40 (L[i].length - mxl ((L.take i).filter whB)) _ (by rw [hsl]) (by rw [hsl]; exact hml) ?_ k (by omega)
   intro k2 hk2
   rw [tmid_zero _ L[i] _ (by omega)]
   refine put_l2 (fun o => ∃ ws2, o = some (ws2, (p : Int), spn (L.filter whB), seed, ((L.filter whB).length : Int), m) ∧ Rel n (((L.filter whB).map (rhv seed)).foldl (fun l h => setA l (plc h (h / 4294967296 % n) p)) B) ws2) (d * 90 + 6100) (by omega) (ints (((L.take i).filter whB).map (rhv seed))) (by simp only [ints, List.length_map]; omega) ((L.take i).filter whB) (by omega) L[i] h40 (hz _ hmem) (hk3 _ hmem) c L (L.length : Int) (i : Int) (by omega) (by omega) ws (p : Int) seed (((L.take i).filter whB).length : Int) (by omega) (by omega) m ?_ L[i].length 0 k2 (by omega) (by omega)
   intro k3 hk3'
   have e := ihk k3 hk3'
   rw [show ((i + 1 : Nat) : Int) = (i : Int) + 1 by omega] at e
   have eh : ints (((L.take i).filter whB).map (rhv seed)) ++ [(rhv seed L[i] : Int)] = ints (((L.take i).filter whB).map (rhv seed) ++ [L[i]].map (rhv seed)) := by simp [ints]
   rw [eh]
   exact e
  ·rw [if_neg c]
   rw [List.filter_cons_of_neg c, List.filter_nil, List.append_nil] at ihk
   rw [w64 (n := (i : Int) + 1) (by omega) (by omega), show (i : Int) + 1 = ((i + 1 : Nat) : Int) by omega]
   exact ihk k (by omega)
theorem add_is (seed : Int) (n p : Nat) (hn1 : 1 ≤ n) (hn2 : n ≤ 4096) (hp : p ≤ 5) (L : List (List S23)) (hL : L.length ≤ 50) (hr : ∀ r ∈ L, r.length ≤ 40) (hz : ∀ r ∈ L, ∀ y ∈ r, y.f2.size ≤ 140737488351232) (hk3 : ∀ r ∈ L, (rkey r).size < 6000) (B : List Bool) (ws : List Int) (R : Rel n B ws) (k : Nat) (hk : 11000 ≤ k) :
  ∃ ws2, sift_Add.f k ws (p : Int) ([] : List S106) seed 0 true L = some (ws2, (p : Int), spn (L.filter whB), seed, ((L.filter whB).length : Int), true) ∧ Rel n (((L.filter whB).map (rhv seed)).foldl (fun l h => setA l (plc h (h / 4294967296 % n) p)) B) ws2 := by
 unfold sift_Add.f span_Span.f
 rw [if_pos rfl, bs, if_pos (by show (0 + 0 : Nat) < _; decide), bs]
 exact add_l0 seed n p hn1 hn2 hp L hL hr hz hk3 true B ws R L.length k 0 (by omega) (by omega)

def held (a lo hi : Int) : Int := if a < lo then lo else if a > hi then hi else a
theorem held_mm (a lo hi : Int) (h : lo ≤ hi) : mn (mx a lo) hi = held a lo hi := by
 unfold mn mx held
 split <;> split <;> (try split) <;> omega
theorem new_is (s a b : Int) (n p : Nat) (hn : held a 1 4096 = (n : Int)) (hn2 : n ≤ 4096) (hp : held b 1 5 = (p : Int)) : sift_New.f s a b = some (List.replicate n 0, (p : Int), [], s, 0, true) := by
 unfold sift_New.f bloom_New.f
 rw [held_mm a 1 4096 (by decide), held_mm b 1 5 (by decide), hn, hp, if_pos (by omega), if_pos (by omega), bs, Int.toNat_natCast]
theorem sg_le (a b : Int) : sg a b ≤ 0 ↔ a ≤ b := by
 unfold sg
 split
 ·omega
 ·split <;> omega
theorem lexI_trans : ∀ x y z : List UInt8, lexI x y ≤ 0 → lexI y z ≤ 0 → lexI x z ≤ 0
 | [], _, [], _, _ => by decide
 | [], _, _ :: _, _, _ => by show (-1 : Int) ≤ 0; decide
 | _ :: _, [], _, h, _ => by
  have h : (1 : Int) ≤ 0 := h
  omega
 | _ :: _, _ :: _, [], _, g => by
  have g : (1 : Int) ≤ 0 := g
  omega
 | a :: x, b :: y, c :: z, h, g => by
  simp only [lexI] at *
  rcases u8_cases a b with e | ⟨e, e1, e2⟩ | ⟨e, e1, e2⟩
  ·subst e
   rw [if_pos rfl] at h
   rcases u8_cases a c with f | ⟨f, f1, f2⟩ | ⟨f, f1, f2⟩
   ·subst f
    rw [if_pos rfl] at g ⊢
    exact lexI_trans x y z h g
   ·rw [if_neg f, if_pos f1]
    decide
   ·rw [if_neg f, if_neg f2] at g
    omega
  ·rcases u8_cases b c with f | ⟨f, f1, f2⟩ | ⟨f, f1, f2⟩
   ·subst f
    rw [if_neg e, if_pos e1]
    decide
   ·have n1 := UInt8.lt_iff_toNat_lt.1 e1
    have n2 := UInt8.lt_iff_toNat_lt.1 f1
    have n3 : a < c := UInt8.lt_iff_toNat_lt.2 (by omega)
    have n4 : a ≠ c := fun q => by subst q; omega
    rw [if_neg n4, if_pos n3]
    decide
   ·rw [if_neg f, if_neg f2] at g
    omega
  ·rw [if_neg e, if_neg e2] at h
   omega
theorem ord_self (a : S23) : ord a a = 0 := by
 unfold ord
 rw [if_pos rfl, if_pos rfl, lexI_self]
theorem ord_trans (a b c : S23) (h : ord a b ≤ 0) (g : ord b c ≤ 0) : ord a c ≤ 0 := by
 unfold ord at *
 by_cases e : a.f0 = b.f0
 ·rw [if_pos e] at h
  by_cases f : b.f0 = c.f0
  ·rw [if_pos f] at g
   rw [if_pos (e.trans f)]
   by_cases e1 : a.f1 = b.f1
   ·rw [if_pos e1] at h
    by_cases f1 : b.f1 = c.f1
    ·rw [if_pos f1] at g
     rw [if_pos (e1.trans f1)]
     exact lexI_trans _ _ _ h g
    ·rw [if_neg f1] at g
     rw [if_neg (fun q => f1 (e1.symm.trans q)), e1]
     exact g
   ·rw [if_neg e1] at h
    by_cases f1 : b.f1 = c.f1
    ·rw [if_neg (fun q => e1 (q.trans f1.symm)), ← f1]
     exact h
    ·rw [if_neg f1] at g
     have h' := (sg_le _ _).1 h
     have g' := (sg_le _ _).1 g
     rw [if_neg (fun q => by omega)]
     exact (sg_le _ _).2 (by omega)
  ·rw [if_neg f] at g
   rw [if_neg (fun q => f (e.symm.trans q)), e]
   exact g
 ·rw [if_neg e] at h
  by_cases f : b.f0 = c.f0
  ·rw [if_neg (fun q => e (q.trans f.symm)), ← f]
   exact h
  ·rw [if_neg f] at g
   have h' := (sg_le _ _).1 h
   have g' := (sg_le _ _).1 g
   rw [if_neg (fun q => by omega)]
   exact (sg_le _ _).2 (by omega)
/-- Bounds of a span: what it was told of lies between its ends. -/
def Bd (s : S106) (v : S23) : Prop := s.f2 > 0 ∧ ord s.f0 v ≤ 0 ∧ ord v s.f1 ≤ 0
theorem bd_hasB (s : S106) (v : S23) (h : Bd s v) : hasB s v = true := by
 obtain ⟨h1, h2, h3⟩ := h
 have := ord_anti v s.f0
 unfold hasB
 rw [decide_eq_true h1, decide_eq_true (show ord v s.f0 ≥ 0 by omega), decide_eq_true h3]
 rfl
theorem bd_step (s : S106) (h0 : 0 ≤ s.f2) (v : S23) : Bd (spanStep s v) v ∧ ∀ u, Bd s u → Bd (spanStep s v) u := by
 have hs := ord_self v
 have a0 := ord_anti v s.f0
 have a1 := ord_anti v s.f1
 refine ⟨⟨by show s.f2 + 1 > 0; omega, ?_, ?_⟩, fun u hu => ⟨by show s.f2 + 1 > 0; omega, ?_, ?_⟩⟩
 ·simp only [spanStep]
  split
  ·omega
  ·rename_i c
   have : ¬ ord v s.f0 < 0 := fun q => c (.inr q)
   omega
 ·simp only [spanStep]
  split
  ·omega
  ·rename_i c
   have : ¬ ord v s.f1 > 0 := fun q => c (.inr q)
   omega
 ·obtain ⟨h1, h2, h3⟩ := hu
  simp only [spanStep]
  split
  ·rename_i c
   have c : ord v s.f0 < 0 := c.resolve_left (by omega)
   exact ord_trans _ _ _ (by omega) h2
  ·exact h2
 ·obtain ⟨h1, h2, h3⟩ := hu
  simp only [spanStep]
  split
  ·rename_i c
   have c : ord v s.f1 > 0 := c.resolve_left (by omega)
   exact ord_trans _ _ _ h3 (by omega)
  ·exact h3
theorem bd_spanOf (l : List S23) : ∀ v ∈ l, Bd (spanOf l) v := by
 have : ∀ (l : List S23) (s : S106), 0 ≤ s.f2 → (∀ u, Bd s u → Bd (l.foldl spanStep s) u) ∧ ∀ v ∈ l, Bd (l.foldl spanStep s) v := by
  intro l
  induction l with
  | nil => exact fun s _ => ⟨fun u h => h, fun v h => by cases h⟩
  | cons a l ih =>
   intro s hs
   obtain ⟨p, q⟩ := bd_step s hs a
   obtain ⟨r, t⟩ := ih (spanStep s a) (by show 0 ≤ s.f2 + 1; omega)
   rw [List.foldl_cons]
   refine ⟨fun u h => r u (q u h), ?_⟩
   intro v hv
   rcases List.mem_cons.1 hv with rfl | hv
   ·exact r v p
   ·exact t v hv
 exact (this l z106 (by decide)).2


theorem passg_l0 (seed : Int) (n p : Nat) (hn1 : 1 ≤ n) (hn2 : n ≤ 4096) (hp : p ≤ 5) (sp : List S106) (key : List S23) (hkey : key.length ≤ 40) (hz : ∀ y ∈ key, y.f2.size ≤ 140737488351232) (hk3 : (rkey key).size < 6000) (hw : whB key = true) (hf : ∀ i (hi : i < key.length), ∃ h2 : i < sp.length, hasB sp[i] key[i] = true) (c : Int) (m : Bool) (B : List Bool) (ws : List Int) (R : Rel n B ws) (d : Nat) : ∀ (k i : Nat), key.length = i + d → d + 6100 ≤ k →
  sift_Passes.l0 k key key (key.length : Int) (i : Int) ws (p : Int) sp seed c m = some ((plc (rhv seed key) (rhv seed key / 4294967296 % n) p).all (gb B)) := by
 induction d with
 | zero =>
  intro k i hd hk
  obtain ⟨k, rfl⟩ : ∃ m, k = m + 1 := ⟨k - 1, by omega⟩
  obtain ⟨h1, h3⟩ := phv_is seed key hz (by omega) k (by omega) (by omega)
  simp only [sift_Passes.l0]
  rw [if_neg (by omega), h1, bs, bhas_is p hp n hn1 hn2 (rhv seed key) h3 B ws R k (by omega), bs]
 | succ d ih =>
  intro k i hd hk
  obtain ⟨k, rfl⟩ : ∃ m, k = m + 1 := ⟨k - 1, by omega⟩
  have hi : i < key.length := by omega
  have hv : key[i].f0 ≠ 0 := by
   have := List.all_eq_true.1 hw key[i] (List.getElem_mem hi)
   simpa using this
  obtain ⟨h2, hh⟩ := hf i hi
  have e := ih k (i + 1) (by omega) (by omega)
  simp only [sift_Passes.l0]
  rw [if_pos (by omega), if_pos (by omega), if_pos (by omega), if_pos (by omega), get106 sp i h2, get23 key i hi, span_has_is _ _ hv k (by omega), bs, w64 (by omega) (by omega), show (i : Int) + 1 = ((i + 1 : Nat) : Int) by omega, hh, if_pos rfl, e]
theorem passg_true (seed : Int) (n p : Nat) (hn1 : 1 ≤ n) (hn2 : n ≤ 4096) (hp : p ≤ 5) (sp : List S106) (key : List S23) (hkey : key.length ≤ 40) (hz : ∀ y ∈ key, y.f2.size ≤ 140737488351232) (hk3 : (rkey key).size < 6000) (hw : whB key = true) (hl : key.length ≤ sp.length) (hf : ∀ i (hi : i < key.length), ∃ h2 : i < sp.length, hasB sp[i] key[i] = true) (c : Int) (hc : c ≠ 0) (m : Bool) (B : List Bool) (ws : List Int) (R : Rel n B ws) (hb : ∀ q ∈ plc (rhv seed key) (rhv seed key / 4294967296 % n) p, gb B q = true) (k : Nat) (hk : 6200 ≤ k) :
  sift_Passes.f k ws (p : Int) sp seed c m key = some true := by
 obtain ⟨k, rfl⟩ : ∃ m, k = m + 1 := ⟨k - 1, by omega⟩
 have e := passg_l0 seed n p hn1 hn2 hp sp key hkey hz hk3 hw hf c m B ws R key.length k 0 (by omega) (by omega)
 unfold sift_Passes.f
 rw [if_neg hc, whole_is key (by omega) (k + 1) (by omega), bs, hw, if_pos rfl, decide_eq_false (by omega)]
 simp only [sift_Passes.j0]
 rw [if_neg (by simp)]
 refine e.trans ?_
 rw [List.all_eq_true.2 hb]
theorem passg_false (seed : Int) (p : Int) (sp : List S106) (key : List S23) (hkey : key.length ≤ 40) (hw : whB key = false) (c : Int) (m : Bool) (ws : List Int) (k : Nat) (hk : 6200 ≤ k) :
  sift_Passes.f k ws p sp seed c m key = some false := by
 obtain ⟨k, rfl⟩ : ∃ m, k = m + 1 := ⟨k - 1, by omega⟩
 have jt : ∀ (a : List Int) (b : Int) (c : List S106) (d e : Int) (f : Bool), sift_Passes.j0 (k + 1) key true a b c d e f = some false := by
  intro a b c d e f
  simp only [sift_Passes.j0]
  rw [if_pos trivial]
 unfold sift_Passes.f
 rw [whole_is key (by omega) (k + 1) (by omega), bs, hw, jt, if_neg (show ¬ (false = true) by decide), ite_self]
theorem fold_bits (n p : Nat) (hn : 1 ≤ n) (H : List Nat) : ∀ L : List Bool, L.length = 64 * n →
  (∀ q, gb L q = true → gb (H.foldl (fun l h => setA l (plc h (h / 4294967296 % n) p)) L) q = true) ∧ ∀ h ∈ H, ∀ q ∈ plc h (h / 4294967296 % n) p, gb (H.foldl (fun l h => setA l (plc h (h / 4294967296 % n) p)) L) q = true := by
 induction H with
 | nil => exact fun L _ => ⟨fun q h => h, fun h hh => by cases hh⟩
 | cons a H ih =>
  intro L hL
  have hlt : ∀ q ∈ plc a (a / 4294967296 % n) p, q < L.length := by rw [hL]; exact plc_lt _ _ _ _ (Nat.mod_lt _ (by omega))
  obtain ⟨h1, h2⟩ := ih (setA L (plc a (a / 4294967296 % n) p)) (by rw [setA_len]; exact hL)
  rw [List.foldl_cons]
  refine ⟨fun q hq => h1 q ?_, fun h hh q hq => ?_⟩
  ·rw [gb_setA _ _ _ hlt, hq, Bool.true_or]
  ·rcases List.mem_cons.1 hh with rfl | hh
   ·refine h1 q ?_
    rw [gb_setA _ _ _ hlt, decide_eq_true hq, Bool.or_true]
   ·exact h2 h hh q hq
theorem bunion_l0 (n : Nat) (hn2 : n ≤ 4096) (X Y : Nat → Nat) (hX : ∀ w, w < n → X w < 18446744073709551616) (hY : ∀ w, w < n → Y w < 18446744073709551616) (wb : List Int) (hwl : wb.length = n) (hwb : ∀ w, w < n → wb[w]? = some (Y w : Int)) (p : Int) (d : Nat) : ∀ (k i : Nat) (cur : List Int), n = i + d → d + 1 ≤ k → cur.length = n → (∀ w, w < n → cur[w]? = some ((if w < i then X w ||| Y w else X w : Nat) : Int)) →
  ∃ ws2, bloom_Union.l0 k wb (n : Int) (i : Int) cur p = some (ws2, p, 0) ∧ ws2.length = n ∧ ∀ w, w < n → ws2[w]? = some ((X w ||| Y w : Nat) : Int) := by
 induction d with
 | zero =>
  intro k i cur hd hk hl hc
  obtain ⟨k, rfl⟩ : ∃ m, k = m + 1 := ⟨k - 1, by omega⟩
  refine ⟨cur, ?_, hl, ?_⟩
  ·simp only [bloom_Union.l0]
   rw [if_neg (by omega)]
  ·intro w hw
   rw [hc w hw, if_pos (by omega)]
 | succ d ih =>
  intro k i cur hd hk hl hc
  obtain ⟨k, rfl⟩ : ∃ m, k = m + 1 := ⟨k - 1, by omega⟩
  have hi : i < n := by omega
  have r1 : rd cur (i : Int) = (X i : Int) := by
   unfold rd
   rw [Int.toNat_natCast, List.getD_eq_getElem?_getD, hc i hi, if_neg (by omega)]
   rfl
  have r2 : rd wb (i : Int) = (Y i : Int) := by
   unfold rd
   rw [Int.toNat_natCast, List.getD_eq_getElem?_getD, hwb i hi]
   rfl
  simp only [bloom_Union.l0]
  rw [if_pos (by omega), if_pos (by omega), if_pos (by omega), if_pos (by omega), r1, r2, bits_or_n _ _ (hX i hi) (hY i hi), Int.toNat_natCast, w64 (by omega) (by omega), show (i : Int) + 1 = ((i + 1 : Nat) : Int) by omega]
  refine ih k (i + 1) _ (by omega) (by omega) (by rw [List.length_set]; exact hl) ?_
  intro w hw
  by_cases c : w = i
  ·subst c
   rw [List.getElem?_set_self (by omega), if_pos (by omega)]
  ·rw [List.getElem?_set_ne (fun e => c e.symm), hc w hw]
   by_cases c2 : w < i
   ·rw [if_pos c2, if_pos (by omega)]
   ·rw [if_neg c2, if_neg (by omega)]
theorem bunion_is (n : Nat) (hn1 : 1 ≤ n) (hn2 : n ≤ 4096) (p : Nat) (A B : List Bool) (wa wb : List Int) (RA : Rel n A wa) (RB : Rel n B wb) (k : Nat) (hk : n + 3 ≤ k) :
  ∃ ws2 C, bloom_Union.f k wa (p : Int) wb (p : Int) = some (ws2, (p : Int), 0) ∧ Rel n C ws2 ∧ ∀ q, (gb A q = true → gb C q = true) ∧ (gb B q = true → gb C q = true) := by
 obtain ⟨k, rfl⟩ : ∃ m, k = m + 1 := ⟨k - 1, by omega⟩
 have hX : ∀ w, w < n → (wa.getD w 0).toNat < 18446744073709551616 ∧ wa[w]? = some ((wa.getD w 0).toNat : Int) ∧ ∀ i, i < 64 → gb A (64 * w + i) = (wa.getD w 0).toNat.testBit i := by
  intro w hw
  obtain ⟨x, h1, h2, h3⟩ := RA.wr w hw
  have e : (wa.getD w 0).toNat = x := by
   rw [List.getD_eq_getElem?_getD, h2]
   rfl
  rw [e]
  exact ⟨h1, h2, h3⟩
 have hY : ∀ w, w < n → (wb.getD w 0).toNat < 18446744073709551616 ∧ wb[w]? = some ((wb.getD w 0).toNat : Int) ∧ ∀ i, i < 64 → gb B (64 * w + i) = (wb.getD w 0).toNat.testBit i := by
  intro w hw
  obtain ⟨x, h1, h2, h3⟩ := RB.wr w hw
  have e : (wb.getD w 0).toNat = x := by
   rw [List.getD_eq_getElem?_getD, h2]
   rfl
  rw [e]
  exact ⟨h1, h2, h3⟩
 obtain ⟨ws2, e, hl, hw⟩ := bunion_l0 n hn2 (fun w => (wa.getD w 0).toNat) (fun w => (wb.getD w 0).toNat) (fun w h => (hX w h).1) (fun w h => (hY w h).1) wb RB.wl (fun w h => (hY w h).2.1) (p : Int) n k 0 wa (by omega) (by omega) RA.wl (fun w h => by rw [if_neg (by omega)]; exact (hX w h).2.1)
 have hz : (List.zipWith (fun a b => a || b) A B).length = 64 * n := by rw [List.length_zipWith, RA.ll, RB.ll]; omega
 have hg : ∀ q, gb (List.zipWith (fun a b => a || b) A B) q = (gb A q || gb B q) := by
  intro q
  unfold gb
  rw [List.getD_eq_getElem?_getD, List.getD_eq_getElem?_getD, List.getD_eq_getElem?_getD, List.getElem?_zipWith]
  by_cases c : q < 64 * n
  ·rw [List.getElem?_eq_getElem (by rw [RA.ll]; exact c), List.getElem?_eq_getElem (by rw [RB.ll]; exact c)]
   rfl
  ·rw [List.getElem?_eq_none (by rw [RA.ll]; omega), List.getElem?_eq_none (by rw [RB.ll]; omega)]
   rfl
 refine ⟨ws2, List.zipWith (fun a b => a || b) A B, ?_, ⟨hz, hl, ?_⟩, fun q => ⟨fun h => by rw [hg, h, Bool.true_or], fun h => by rw [hg, h, Bool.or_true]⟩⟩
 ·unfold bloom_Union.f
  rw [RA.wl, RB.wl, if_pos rfl]
  simp only [bloom_Union.j0]
  rw [if_neg (by simp)]
  unfold slices_Clone_uint64_uint64.f
  rw [bs, if_pos (by rw [RA.wl, List.length_nil]; omega), bs, List.nil_append, RB.wl]
  exact e
 ·intro w hwn
  have h1 : (wa.getD w 0).toNat ||| (wb.getD w 0).toNat < 2 ^ 64 := Nat.or_lt_two_pow (hX w hwn).1 (hY w hwn).1
  refine ⟨_, h1, hw w hwn, ?_⟩
  intro i hi
  rw [hg, (hX w hwn).2.2 i hi, (hY w hwn).2.2 i hi, Nat.testBit_or]
def spanU (a b : S106) : S106 := ⟨if a.f2 = 0 ∨ (b.f2 > 0 ∧ ord b.f0 a.f0 < 0) then b.f0 else a.f0, if a.f2 = 0 ∨ (b.f2 > 0 ∧ ord b.f1 a.f1 > 0) then b.f1 else a.f1, a.f2 + b.f2, a.f3 + b.f3⟩
theorem spanU_bd (a b : S106) (ha : 0 ≤ a.f2) (hb : 0 ≤ b.f2) (v : S23) : (Bd a v → Bd (spanU a b) v) ∧ (Bd b v → Bd (spanU a b) v) := by
 constructor
 ·rintro ⟨h1, h2, h3⟩
  refine ⟨by show a.f2 + b.f2 > 0; omega, ?_, ?_⟩
  ·simp only [spanU]
   split
   ·rename_i c
    have c : b.f2 > 0 ∧ ord b.f0 a.f0 < 0 := c.resolve_left (by omega)
    exact ord_trans _ _ _ (by omega) h2
   ·exact h2
  ·simp only [spanU]
   split
   ·rename_i c
    have c : b.f2 > 0 ∧ ord b.f1 a.f1 > 0 := c.resolve_left (by omega)
    have := ord_anti b.f1 a.f1
    exact ord_trans _ _ _ h3 (by omega)
   ·exact h3
 ·rintro ⟨h1, h2, h3⟩
  refine ⟨by show a.f2 + b.f2 > 0; omega, ?_, ?_⟩
  ·simp only [spanU]
   split
   ·exact h2
   ·rename_i c
    have n : ¬ ord b.f0 a.f0 < 0 := fun q => c (.inr ⟨h1, q⟩)
    have := ord_anti b.f0 a.f0
    exact ord_trans _ _ _ (by omega) h2
  ·simp only [spanU]
   split
   ·exact h3
   ·rename_i c
    have n : ¬ ord b.f1 a.f1 > 0 := fun q => c (.inr ⟨h1, q⟩)
    exact ord_trans _ _ _ h3 (by omega)
theorem spanU_is (a b : S106) (ha : 0 ≤ a.f2 ∧ a.f2 < 1000000) (hb : 0 ≤ b.f2 ∧ b.f2 < 1000000) (ha3 : a.f3 = 0) (hb3 : b.f3 = 0) (k : Nat) (hk : 20 ≤ k) :
  span_Union.f k a.f0.f0 a.f0.f1 a.f0.f2 a.f1.f0 a.f1.f1 a.f1.f2 a.f2 a.f3 b.f0.f0 b.f0.f1 b.f0.f2 b.f1.f0 b.f1.f1 b.f1.f2 b.f2 b.f3 = some ((spanU a b).f0.f0, (spanU a b).f0.f1, (spanU a b).f0.f2, (spanU a b).f1.f0, (spanU a b).f1.f1, (spanU a b).f1.f2, (spanU a b).f2, (spanU a b).f3) := by
 obtain ⟨k, rfl⟩ : ∃ m, k = m + 10 := ⟨k - 10, by omega⟩
 have w1 : wrap64 (a.f2 + b.f2) = a.f2 + b.f2 := w64 (by omega) (by omega)
 have w2 : wrap64 (a.f3 + b.f3) = a.f3 + b.f3 := w64 (by omega) (by omega)
 have J1 : ∀ (x y z : Int) (s : ByteArray) (g : S23), (g.f0, g.f1, g.f2) = (x, y, s) → span_Union.j1 (k + 9) a.f0.f0 a.f0.f1 a.f0.f2 a.f1.f0 a.f1.f1 a.f1.f2 a.f2 a.f3 b.f0.f0 b.f0.f1 b.f0.f2 b.f1.f0 b.f1.f1 b.f1.f2 b.f2 b.f3 x y s a.f1.f0 a.f1.f1 a.f1.f2 a.f2 a.f3 = some (g.f0, g.f1, g.f2, (spanU a b).f1.f0, (spanU a b).f1.f1, (spanU a b).f1.f2, (spanU a b).f2, (spanU a b).f3) := by
  intro x y z s g hg
  obtain ⟨rfl, rfl, rfl⟩ : g.f0 = x ∧ g.f1 = y ∧ g.f2 = s := by simpa using hg
  simp only [span_Union.j1]
  by_cases c : a.f2 = 0
  ·rw [if_pos c]
   simp only [span_Union.j2]
   rw [if_pos trivial]
   simp only [span_Union.j3, spanU]
   rw [w1, w2, if_pos (.inl c)]
  ·rw [if_neg c]
   by_cases e : b.f2 > 0
   ·rw [if_pos e, order_is b.f1 a.f1 _ (by omega), bs]
    by_cases t : ord b.f1 a.f1 > 0
    ·rw [decide_eq_true t]
     simp only [span_Union.j2]
     rw [if_pos trivial]
     simp only [span_Union.j3, spanU]
     rw [w1, w2, if_pos (.inr ⟨e, t⟩)]
    ·rw [decide_eq_false t]
     simp only [span_Union.j2]
     rw [if_neg (by simp)]
     simp only [span_Union.j3, spanU]
     rw [w1, w2, if_neg (fun h => h.elim c (fun q => t q.2))]
   ·rw [if_neg e]
    simp only [span_Union.j2]
    rw [if_neg (by simp)]
    simp only [span_Union.j3, spanU]
    rw [w1, w2, if_neg (fun h => h.elim c (fun q => e q.1))]
 unfold span_Union.f
 by_cases c : a.f2 = 0
 ·rw [if_pos c]
  simp only [span_Union.j0]
  rw [if_pos trivial, J1 _ _ 0 _ b.f0 rfl]
  simp only [spanU]
  rw [if_pos (show a.f2 = 0 ∨ (b.f2 > 0 ∧ ord b.f0 a.f0 < 0) from .inl c)]
 ·rw [if_neg c]
  by_cases e : b.f2 > 0
  ·rw [if_pos e, order_is b.f0 a.f0 _ (by omega), bs]
   by_cases t : ord b.f0 a.f0 < 0
   ·rw [decide_eq_true t]
    simp only [span_Union.j0]
    rw [if_pos trivial, J1 _ _ 0 _ b.f0 rfl]
    simp only [spanU]
    rw [if_pos (show a.f2 = 0 ∨ (b.f2 > 0 ∧ ord b.f0 a.f0 < 0) from .inr ⟨e, t⟩)]
   ·rw [decide_eq_false t]
    simp only [span_Union.j0]
    rw [if_neg (by simp), J1 _ _ 0 _ a.f0 rfl]
    simp only [spanU]
    rw [if_neg (show ¬ (a.f2 = 0 ∨ (b.f2 > 0 ∧ ord b.f0 a.f0 < 0)) from fun h => h.elim c (fun q => t q.2))]
  ·rw [if_neg e]
   simp only [span_Union.j0]
   rw [if_neg (by simp), J1 _ _ 0 _ a.f0 rfl]
   simp only [spanU]
   rw [if_neg (show ¬ (a.f2 = 0 ∨ (b.f2 > 0 ∧ ord b.f0 a.f0 < 0)) from fun h => h.elim c (fun q => e q.1))]
theorem sunion_l0 (ws : List Int) (p : Int) (seed c : Int) (m : Bool) (wb : List Int) (p2 : Int) (sb : List S106) (s2 c2 : Int) (m2 : Bool) (hb : sb.length ≤ 40) (v : Option (List Int × Int × (List (S106)) × Int × Int × Bool × Int)) (B : Nat) (d : Nat) : ∀ (sa : List S106), sb.length - sa.length = d → sa.length ≤ 40 →
  (∀ k, B ≤ k → sift_Union.l1 k sb (sb.length : Int) 0 ws p (sa ++ List.replicate d z106) seed c m = v) → ∀ k, B + d + 1 ≤ k → sift_Union.l0 k ws p sa seed c m wb p2 sb s2 c2 m2 = v := by
 induction d with
 | zero =>
  intro sa h1 h2 hc k hk
  obtain ⟨k, rfl⟩ : ∃ m, k = m + 1 := ⟨k - 1, by omega⟩
  simp only [sift_Union.l0]
  rw [if_neg (by omega)]
  have e := hc k (by omega)
  rw [List.replicate_zero, List.append_nil] at e
  exact e
 | succ d ih =>
  intro sa h1 h2 hc k hk
  obtain ⟨k, rfl⟩ : ∃ m, k = m + 1 := ⟨k - 1, by omega⟩
  simp only [sift_Union.l0]
  rw [if_pos (by omega), if_pos (by omega)]
  refine ih (sa ++ [z106]) (by rw [List.length_append, List.length_singleton]; omega) (by rw [List.length_append, List.length_singleton]; omega) ?_ k (by omega)
  intro k2 hk2
  have e := hc k2 hk2
  rw [List.replicate_succ] at e
  rw [List.append_assoc]
  exact e
theorem sunion_l1 (ws : List Int) (p : Int) (seed c : Int) (m : Bool) (sb : List S106) (hb : sb.length ≤ 40) (N : Nat) (hN : sb.length ≤ N) (hN2 : N ≤ 40) (A : Nat → S106) (hA : ∀ i, (0 ≤ (A i).f2 ∧ (A i).f2 < 1000000) ∧ (A i).f3 = 0) (hB : ∀ i (h : i < sb.length), (0 ≤ sb[i].f2 ∧ sb[i].f2 < 1000000) ∧ sb[i].f3 = 0) (d : Nat) : ∀ (k j : Nat) (cur : List S106), sb.length = j + d → d + 21 ≤ k → cur.length = N → (∀ i, i < N → cur[i]? = some (if i < j then (match sb[i]? with | some b => spanU (A i) b | none => A i) else A i)) →
  ∃ su, sift_Union.l1 k sb (sb.length : Int) (j : Int) ws p cur seed c m = some (ws, p, su, seed, c, m, 0) ∧ su.length = N ∧ ∀ i, i < N → su[i]? = some (match sb[i]? with | some b => spanU (A i) b | none => A i) := by
 induction d with
 | zero =>
  intro k j cur hd hk hl hc
  obtain ⟨k, rfl⟩ : ∃ m, k = m + 1 := ⟨k - 1, by omega⟩
  refine ⟨cur, ?_, hl, ?_⟩
  ·simp only [sift_Union.l1]
   rw [if_neg (by omega)]
  ·intro i hi
   rw [hc i hi]
   by_cases q : i < j
   ·rw [if_pos q]
   ·rw [if_neg q, List.getElem?_eq_none (by omega)]
 | succ d ih =>
  intro k j cur hd hk hl hc
  obtain ⟨k, rfl⟩ : ∃ m, k = m + 1 := ⟨k - 1, by omega⟩
  have hj : j < sb.length := by omega
  have r1 : rd_T106 cur (j : Int) = A j := by
   unfold rd_T106
   rw [Int.toNat_natCast, List.getD_eq_getElem?_getD, hc j (by omega), if_neg (by omega)]
   rfl
  obtain ⟨a1, a2⟩ := hA j
  obtain ⟨b1, b2⟩ := hB j hj
  simp only [sift_Union.l1]
  rw [if_pos (by omega), if_pos (by omega), if_pos (by omega), if_pos (by omega), r1, get106 sb j hj, spanU_is (A j) sb[j] a1 b1 a2 b2 k (by omega), bs, Int.toNat_natCast, w64 (by omega) (by omega), show (j : Int) + 1 = ((j + 1 : Nat) : Int) by omega]
  refine ih k (j + 1) _ (by omega) (by omega) (by rw [List.length_set]; exact hl) ?_
  intro i hi
  by_cases q : i = j
  ·subst q
   rw [List.getElem?_set_self (by omega), if_pos (by omega), List.getElem?_eq_getElem hj]
  ·rw [List.getElem?_set_ne (fun e => q e.symm), hc i hi]
   by_cases q2 : i < j
   ·rw [if_pos q2, if_pos (by omega)]
   ·rw [if_neg q2, if_neg (by omega)]
theorem xor_ne (x : Int) : Go.bits .xor .i64 x 1 ≠ x := by
 intro h
 have h1 : (Go.bits .xor .i64 x 1) % 2 = ((BitVec.ofInt 64 x).toNat + 1 : Nat) % 2 := by
  have e : Go.bits .xor .i64 x 1 = IntKind.i64.wrap (((BitVec.ofInt 64 x).toNat ^^^ 1 : Nat) : Int) := by
   simp only [Go.bits]
   rfl
  have m := @Nat.xor_mod_two_eq_one (BitVec.ofInt 64 x).toNat 1
  have w : ∀ z : Int, IntKind.i64.wrap z % 2 = z % 2 := by
   intro z
   rw [i64_w]
   unfold wrap64
   omega
  rw [e, w]
  omega
 have h2 : ((BitVec.ofInt 64 x).toNat : Int) = x % 18446744073709551616 := by
  rw [BitVec.toNat_ofInt]
  omega
 rw [h] at h1
 omega
def mg (A : Nat → S106) (sb : List S106) (N : Nat) : List S106 := (List.range N).map fun i => match sb[i]? with | some b => spanU (A i) b | none => A i
theorem mg_len (A : Nat → S106) (sb : List S106) (N : Nat) : (mg A sb N).length = N := by simp [mg]
theorem mg_get (A : Nat → S106) (sb : List S106) (N i : Nat) (h : i < N) : (mg A sb N)[i]? = some (match sb[i]? with | some b => spanU (A i) b | none => A i) := by
 unfold mg
 rw [List.getElem?_map, List.getElem?_range h]
 rfl
def spA (W : List (List S23)) (i : Nat) : S106 := if i < mxl W then spanOf (col W i) else z106
theorem spA_ok (W : List (List S23)) (hW : W.length ≤ 1000) (i : Nat) : (0 ≤ (spA W i).f2 ∧ (spA W i).f2 < 1000000) ∧ (spA W i).f3 = 0 := by
 unfold spA
 split
 ·obtain ⟨h1, h2⟩ := spanOf_f2 (col W i)
  have := col_len W i
  omega
 ·exact ⟨⟨by decide, by decide⟩, rfl⟩
theorem spn_ok (W : List (List S23)) (hW : W.length ≤ 1000) (i : Nat) (h : i < (spn W).length) : (0 ≤ (spn W)[i].f2 ∧ (spn W)[i].f2 < 1000000) ∧ (spn W)[i].f3 = 0 := by
 rw [spn_get]
 obtain ⟨h1, h2⟩ := spanOf_f2 (col W i)
 have := col_len W i
 omega
theorem sunion_span (Wa Wb : List (List S23)) (hWa : Wa.length ≤ 1000) (hWb : Wb.length ≤ 1000) (ha : mxl Wa ≤ 40) (hb : mxl Wb ≤ 40) (ws : List Int) (p : Int) (seed c : Int) (m : Bool) (wb : List Int) (p2 : Int) (s2 c2 : Int) (m2 : Bool) (k : Nat) (hk : 200 ≤ k) :
  sift_Union.l0 k ws p (spn Wa) seed c m wb p2 (spn Wb) s2 c2 m2 = some (ws, p, mg (spA Wa) (spn Wb) (max (mxl Wa) (mxl Wb)), seed, c, m, 0) := by
 have la := spn_len Wa
 have lb := spn_len Wb
 refine sunion_l0 ws p seed c m wb p2 (spn Wb) s2 c2 m2 (by omega) _ 100 (mxl Wb - mxl Wa) (spn Wa) (by omega) (by omega) ?_ k (by omega)
 intro k hk
 obtain ⟨su, e, hl, hg⟩ := sunion_l1 ws p seed c m (spn Wb) (by omega) (max (mxl Wa) (mxl Wb)) (by omega) (by omega) (spA Wa) (spA_ok Wa hWa) (spn_ok Wb hWb) (mxl Wb) k 0 (spn Wa ++ List.replicate (mxl Wb - mxl Wa) z106) (by omega) (by omega) (by rw [List.length_append, List.length_replicate]; omega) (by
  intro i hi
  rw [if_neg (by omega)]
  unfold spA
  by_cases q : i < mxl Wa
  ·rw [if_pos q, List.getElem?_append_left (by omega), List.getElem?_eq_getElem (by omega), spn_get]
  ·rw [if_neg q, List.getElem?_append_right (by omega), List.getElem?_replicate, if_pos (by omega)])
 have es : su = mg (spA Wa) (spn Wb) (max (mxl Wa) (mxl Wb)) := by
  apply List.ext_getElem?
  intro i
  by_cases q : i < max (mxl Wa) (mxl Wb)
  ·rw [hg i q, mg_get _ _ _ _ q]
  ·rw [List.getElem?_eq_none (by omega), List.getElem?_eq_none (by rw [mg_len]; omega)]
 rw [← es]
 exact e
theorem mg_has (Wa Wb : List (List S23)) (hWa : Wa.length ≤ 1000) (hWb : Wb.length ≤ 1000) (i : Nat) (v : S23) (h : (i < mxl Wa ∧ Bd (spanOf (col Wa i)) v) ∨ (i < mxl Wb ∧ Bd (spanOf (col Wb i)) v)) :
  ∃ h2 : i < (mg (spA Wa) (spn Wb) (max (mxl Wa) (mxl Wb))).length, hasB (mg (spA Wa) (spn Wb) (max (mxl Wa) (mxl Wb)))[i] v = true := by
 have lb := spn_len Wb
 have hi : i < max (mxl Wa) (mxl Wb) := by omega
 have h2 : i < (mg (spA Wa) (spn Wb) (max (mxl Wa) (mxl Wb))).length := by rw [mg_len]; exact hi
 refine ⟨h2, bd_hasB _ _ ?_⟩
 have e := mg_get (spA Wa) (spn Wb) _ i hi
 rw [List.getElem?_eq_getElem h2] at e
 rw [Option.some.inj e]
 by_cases q : i < mxl Wb
 ·rw [List.getElem?_eq_getElem (show i < (spn Wb).length by omega), spn_get]
  obtain ⟨f2, _⟩ := spanOf_f2 (col Wb i)
  obtain ⟨⟨a2, _⟩, _⟩ := spA_ok Wa hWa i
  have u := spanU_bd (spA Wa i) (spanOf (col Wb i)) a2 (by omega) v
  rcases h with ⟨h3, h4⟩ | ⟨h3, h4⟩
  ·refine u.1 ?_
   unfold spA
   rw [if_pos h3]
   exact h4
  ·exact u.2 h4
 ·rw [List.getElem?_eq_none (show (spn Wb).length ≤ i by omega)]
  rcases h with ⟨h3, h4⟩ | ⟨h3, h4⟩
  ·show Bd (spA Wa i) v
   unfold spA
   rw [if_pos h3]
   exact h4
  ·exact absurd h3 q
theorem sunion_is (x0 : Int) (n p : Nat) (hn1 : 1 ≤ n) (hn2 : n ≤ 4096) (Wa Wb : List (List S23)) (hWa : Wa.length ≤ 50) (hWb : Wb.length ≤ 50) (ha : mxl Wa ≤ 40) (hb : mxl Wb ≤ 40) (A B : List Bool) (wa wb : List Int) (RA : Rel n A wa) (RB : Rel n B wb) (k : Nat) (hk : 5000 ≤ k) :
  ∃ us C, sift_Union.f k wa (p : Int) (spn Wa) x0 (Wa.length : Int) true wb (p : Int) (spn Wb) x0 (Wb.length : Int) true = some (us, (p : Int), mg (spA Wa) (spn Wb) (max (mxl Wa) (mxl Wb)), x0, ((Wa.length + Wb.length : Nat) : Int), true, 0) ∧ Rel n C us ∧ ∀ q, (gb A q = true → gb C q = true) ∧ (gb B q = true → gb C q = true) := by
 obtain ⟨us, C, e, RC, hC⟩ := bunion_is n hn1 hn2 p A B wa wb RA RB k (by omega)
 obtain ⟨k, rfl⟩ : ∃ m, k = m + 1 := ⟨k - 1, by omega⟩
 refine ⟨us, C, ?_, RC, hC⟩
 have la := spn_len Wa
 unfold sift_Union.f
 rw [e, bs]
 show (if (0 : Int) = 0 then _ else _) = _
 rw [if_pos rfl, bne_self_eq_false]
 simp only [sift_Union.j0]
 rw [if_neg (by simp)]
 unfold span_Span.f
 rw [bs, if_pos (by rw [List.length_nil]; omega), bs, List.nil_append, w64 (by omega) (by omega), sunion_span Wa Wb (by omega) (by omega) ha hb us _ x0 _ true wb _ x0 _ true k (by omega), show (Wa.length : Int) + (Wb.length : Int) = ((Wa.length + Wb.length : Nat) : Int) by omega]
theorem sunion_no (x0 y0 : Int) (hne : x0 ≠ y0) (n p : Nat) (hn1 : 1 ≤ n) (hn2 : n ≤ 4096) (A B : List Bool) (wa wb : List Int) (RA : Rel n A wa) (RB : Rel n B wb) (sa sb : List S106) (ca cb : Int) (ma mb : Bool) (k : Nat) (hk : 5000 ≤ k) :
  sift_Union.f k wa (p : Int) sa x0 ca ma wb (p : Int) sb y0 cb mb = some ([], 0, [], 0, 0, false, 7) := by
 obtain ⟨us, C, e, RC, hC⟩ := bunion_is n hn1 hn2 p A B wa wb RA RB k (by omega)
 obtain ⟨k, rfl⟩ : ∃ m, k = m + 1 := ⟨k - 1, by omega⟩
 unfold sift_Union.f
 rw [e, bs]
 show (if (0 : Int) = 0 then _ else _) = _
 rw [if_pos rfl, bne_iff_ne.2 hne]
 simp only [sift_Union.j0]
 rw [if_pos trivial]
theorem put_col (W : List (List S23)) (r : List S23) (hr : r ∈ W) (i : Nat) (hi : i < r.length) : i < mxl W ∧ Bd (spanOf (col W i)) r[i] := by
 have hm : r.length ≤ mxl W := (fold_max W 0).2 r hr
 exact ⟨by omega, bd_spanOf _ _ (List.mem_filterMap.2 ⟨r, hr, List.getElem?_eq_getElem hi⟩)⟩
theorem keeps_l1 (x0 x1 x2 : Int) (L : List (List S23)) (hL : L.length ≤ 50) (hr : ∀ r ∈ L, r.length ≤ 40) (ws : List Int) (p : Int) (sp : List S106) (sd c : Int) (m : Bool) (us : List Int) (up : Int) (su : List S106) (ud uc : Int) (um : Bool) (N : Nat) (hN : 100 ≤ N) (hu : ∀ r ∈ L, ∀ k, N ≤ k → sift_Passes.f k us up su ud uc um r = some (whB r)) (v : Option Bool)
  (hv : ∀ k, N ≤ k → w20_SiftKeeps.l1 (k + 1) x0 x1 x2 L (L.length : Int) ws p sp sd c m us up su ud uc um = v) (d : Nat) : ∀ (k j : Nat), L.length = j + d → N + d + 1 ≤ k →
  w20_SiftKeeps.l1 k x0 x1 x2 L (j : Int) ws p sp sd c m us up su ud uc um = v := by
 induction d with
 | zero =>
  intro k j hd hk
  obtain ⟨k, rfl⟩ : ∃ m, k = m + 1 := ⟨k - 1, by omega⟩
  rw [show j = L.length by omega]
  exact hv k (by omega)
 | succ d ih =>
  intro k j hd hk
  obtain ⟨k, rfl⟩ : ∃ m, k = m + 1 := ⟨k - 1, by omega⟩
  have hj : j < L.length := by omega
  have hm := List.getElem_mem hj
  have h40 := hr _ hm
  rw [w20_SiftKeeps.l1, if_pos (by omega), if_pos (by omega), getL L j hj, hu _ hm k (by omega), bs, rwhole_is L[j] (by omega) k (by omega), bs, bne_self_eq_false, if_neg (by simp), w64 (by omega) (by omega), show (j : Int) + 1 = ((j + 1 : Nat) : Int) by omega]
  exact ih k (j + 1) (by omega) (by omega)
theorem keeps_l0 (x0 x1 x2 : Int) (L M : List (List S23)) (hL : L.length ≤ 50) (hr : ∀ r ∈ L, r.length ≤ 40) (ws : List Int) (p : Int) (sp : List S106) (sd c : Int) (m : Bool) (us : List Int) (up : Int) (su : List S106) (ud uc : Int) (um : Bool) (N : Nat) (hN : 100 ≤ N) (hs : ∀ r ∈ L, ∀ k, N ≤ k → sift_Passes.f k ws p sp sd c m r = some (whB r)) (hu : ∀ r ∈ L, ∀ k, N ≤ k → sift_Passes.f k us up su ud uc um r = some (whB r)) (v : Option Bool)
  (hv : ∀ k, N ≤ k → w20_SiftKeeps.l1 k x0 x1 x2 M 0 ws p sp sd c m us up su ud uc um = v) (d : Nat) : ∀ (k j : Nat), L.length = j + d → N + d + 1 ≤ k →
  w20_SiftKeeps.l0 k x0 x1 x2 L M (j : Int) ws p sp sd c m us up su ud uc um = v := by
 induction d with
 | zero =>
  intro k j hd hk
  obtain ⟨k, rfl⟩ : ∃ m, k = m + 1 := ⟨k - 1, by omega⟩
  rw [w20_SiftKeeps.l0, if_neg (by omega)]
  exact hv k (by omega)
 | succ d ih =>
  intro k j hd hk
  obtain ⟨k, rfl⟩ : ∃ m, k = m + 1 := ⟨k - 1, by omega⟩
  have hj : j < L.length := by omega
  have hm := List.getElem_mem hj
  have h40 := hr _ hm
  rw [w20_SiftKeeps.l0, if_pos (by omega), if_pos (by omega), getL L j hj, hs _ hm k (by omega), bs, rwhole_is L[j] (by omega) k (by omega), bs, bne_self_eq_false, if_neg (by simp), hu _ hm k (by omega), bs, bs, bne_self_eq_false, if_neg (by simp), w64 (by omega) (by omega), show (j : Int) + 1 = ((j + 1 : Nat) : Int) by omega]
  exact ih k (j + 1) (by omega) (by omega)

theorem live20 : w20_live.f 300 = some true := by decide +kernel
theorem live20_all (k : Nat) : w20_live.f (300 + k) = some true := by
 induction k with
 | zero => exact live20
 | succ k ih => exact w20_live.mono (300 + k) true ih
theorem live20_is (k : Nat) (h : 300 ≤ k) : w20_live.f k = some true := by
 obtain ⟨m, rfl⟩ : ∃ m, k = 300 + m := ⟨k - 300, by omega⟩
 exact live20_all m
theorem held_range (a hi : Int) (h : 1 ≤ hi) : 1 ≤ held a 1 hi ∧ held a 1 hi ≤ hi := by
 unfold held
 split
 ·omega
 ·split <;> omega
structure Small (L : List (List S23)) : Prop where
 hl : L.length ≤ 50
 hr : ∀ r ∈ L, r.length ≤ 40
 hz : ∀ r ∈ L, ∀ y ∈ r, y.f2.size ≤ 140737488351232
 hk : ∀ r ∈ L, (rkey r).size < 6000
theorem small_much (L : List (List S23)) (x1 : Int) (hs : ∀ r ∈ L, ∀ y ∈ r, y.f2.size ≤ 140737488351232) (hlen : L.length ≤ 5864062014700) : ∃ b : Bool, w20_much.f 40000 L [] x1 = some b ∧ (b = false → x1 ≤ 40 ∧ Small L) := by
 have hs' : ∀ r ∈ ([] :: L), ∀ y ∈ r, y.f2.size ≤ 140737488351232 := by
  intro r hr y hy
  rcases List.mem_cons.1 hr with rfl | hr
  ·cases hy
  ·exact hs r hr y hy
 obtain ⟨b, hb, hp⟩ := much_is ([] :: L) hs' (by rw [List.length_cons]; omega) 40000 (by omega)
 refine ⟨if b = true then true else decide (x1 > 40), ?_, ?_⟩
 ·unfold w20_much.f
  rw [bs, if_pos (by show (1 + L.length : Nat) < _; omega)]
  show ((r04_Much.f 40000 ([] :: L)).bind _) = _
  rw [hb, bs]
  cases b
  ·rfl
  ·rfl
 ·intro h
  cases b with
  | true => cases h
  | false =>
   rw [if_neg (show ¬ (false = true) by decide)] at h
   obtain ⟨h50, h40, htot⟩ := hp rfl
   rw [List.length_cons] at h50
   refine ⟨by have := of_decide_eq_false h; omega, by omega, fun r hr => h40 r (List.mem_cons_of_mem _ hr), hs, fun r hr => ?_⟩
   have e1 := rkey_small r (hs r hr)
   have e2 := totN_le ([] :: L) r (List.mem_cons_of_mem _ hr)
   have e3 := h40 r (List.mem_cons_of_mem _ hr)
   omega
theorem put_bits (x0 : Int) (n p : Nat) (hn : 1 ≤ n) (W : List (List S23)) (r : List S23) (hr : r ∈ W) (L : List Bool) (hL : L.length = 64 * n) : ∀ q ∈ plc (rhv x0 r) (rhv x0 r / 4294967296 % n) p, gb ((W.map (rhv x0)).foldl (fun l h => setA l (plc h (h / 4294967296 % n) p)) L) q = true :=
 (fold_bits n p hn (W.map (rhv x0)) L hL).2 _ (List.mem_map.2 ⟨r, hr, rfl⟩)
theorem passes_u (x0 : Int) (n p : Nat) (hn1 : 1 ≤ n) (hn2 : n ≤ 4096) (hp : p ≤ 5) (sp : List S106) (L : List (List S23)) (hS : Small L) (c : Int) (m : Bool) (B : List Bool) (ws : List Int) (R : Rel n B ws)
  (hc : ∀ r ∈ L, whB r = true → c ≠ 0) (hf : ∀ r ∈ L, whB r = true → ∀ i (hi : i < r.length), ∃ h2 : i < sp.length, hasB sp[i] r[i] = true) (hb : ∀ r ∈ L, whB r = true → ∀ q ∈ plc (rhv x0 r) (rhv x0 r / 4294967296 % n) p, gb B q = true) :
  ∀ r ∈ L, ∀ k, 6200 ≤ k → sift_Passes.f k ws (p : Int) sp x0 c m r = some (whB r) := by
 intro r hr k hk
 have h40 := hS.hr r hr
 cases hw : whB r with
 | false => exact passg_false x0 p sp r h40 hw c m ws k hk
 | true =>
  have hl : r.length ≤ sp.length := by
   by_cases z : r.length = 0
   ·omega
   ·obtain ⟨h2, _⟩ := hf r hr hw (r.length - 1) (by omega)
    omega
  exact passg_true x0 n p hn1 hn2 hp sp r h40 (hS.hz r hr) (hS.hk r hr) hw hl (hf r hr hw) c (hc r hr hw) m B ws R (hb r hr hw) k hk
theorem SiftKeeps : w20_SiftKeeps.Pure := by
 intro x0 x1 x2 L M _ _ _ hL hM
 obtain ⟨hLl, hLw⟩ := hL
 obtain ⟨hMl, hMw⟩ := hM
 refine ⟨40000, ?_⟩
 have hsL : ∀ r ∈ L, ∀ y ∈ r, y.f2.size ≤ 140737488351232 := fun r hr y hy => ((hLw r hr).2 y hy).2.2
 have hsM : ∀ r ∈ M, ∀ y ∈ r, y.f2.size ≤ 140737488351232 := fun r hr y hy => ((hMw r hr).2 y hy).2.2
 obtain ⟨b1, e1, p1⟩ := small_much L x1 hsL (by omega)
 obtain ⟨b2, e2, p2⟩ := small_much M x1 hsM (by omega)
 have jt : w20_SiftKeeps.j0 40000 x0 x1 x2 L M true = some true := by
  rw [show (40000 : Nat) = 39999 + 1 from rfl, w20_SiftKeeps.j0, if_pos rfl, live20_is 39999 (by omega), bs]
 unfold w20_SiftKeeps.f
 rw [e1, bs]
 cases b1 with
 | true =>
  rw [if_pos rfl]
  exact jt
 | false =>
  rw [if_neg (show ¬ (false = true) by decide), e2, bs]
  cases b2 with
  | true => exact jt
  | false =>
   obtain ⟨hx, SL⟩ := p1 rfl
   obtain ⟨_, SM⟩ := p2 rfl
   obtain ⟨r1, r2⟩ := held_range x1 4096 (by decide)
   obtain ⟨r3, r4⟩ := held_range x2 5 (by decide)
   obtain ⟨n, hn⟩ := Int.eq_ofNat_of_zero_le (show 0 ≤ held x1 1 4096 by omega)
   obtain ⟨p, hpp⟩ := Int.eq_ofNat_of_zero_le (show 0 ≤ held x2 1 5 by omega)
   have hN1 : 1 ≤ n := by omega
   have hN2 : n ≤ 4096 := by omega
   have hP : p ≤ 5 := by omega
   have hfL : (L.filter whB).length ≤ L.length := List.length_filter_le _ _
   have hfM : (M.filter whB).length ≤ M.length := List.length_filter_le _ _
   have l1 := SL.hl
   have l2 := SM.hl
   rw [show (40000 : Nat) = 39999 + 1 from rfl, w20_SiftKeeps.j0, if_neg (show ¬ (false = true) by decide), new_is x0 x1 x2 n p hn hN2 hpp, bs]
   show ((sift_Add.f 39999 (List.replicate n 0) (p : Int) [] x0 0 true L).bind _) = _
   obtain ⟨wa, ea, RA⟩ := add_is x0 n p hN1 hN2 hP L l1 SL.hr SL.hz SL.hk _ _ (rel_new n) 39999 (by omega)
   obtain ⟨wb, eb, RB⟩ := add_is x0 n p hN1 hN2 hP M l2 SM.hr SM.hz SM.hk _ _ (rel_new n) 39999 (by omega)
   have hz : (List.replicate (64 * n) false).length = 64 * n := List.length_replicate
   have bA : ∀ r ∈ L, whB r = true → ∀ q ∈ plc (rhv x0 r) (rhv x0 r / 4294967296 % n) p, gb _ q = true := fun r hr hw => put_bits x0 n p hN1 (L.filter whB) r (List.mem_filter.2 ⟨hr, hw⟩) _ hz
   have bB : ∀ r ∈ M, whB r = true → ∀ q ∈ plc (rhv x0 r) (rhv x0 r / 4294967296 % n) p, gb _ q = true := fun r hr hw => put_bits x0 n p hN1 (M.filter whB) r (List.mem_filter.2 ⟨hr, hw⟩) _ hz
   rw [ea, bs]
   show ((some _).bind _) = _
   rw [bs]
   show ((sift_Add.f 39999 (List.replicate n 0) (p : Int) [] x0 0 true M).bind _) = _
   rw [eb, bs]
   generalize ((L.filter whB).map (rhv x0)).foldl (fun l h => setA l (plc h (h / 4294967296 % n) p)) (List.replicate (64 * n) false) = A at *
   generalize ((M.filter whB).map (rhv x0)).foldl (fun l h => setA l (plc h (h / 4294967296 % n) p)) (List.replicate (64 * n) false) = B at *
   have mA : mxl (L.filter whB) ≤ 40 := mxl_le _ 40 (fun r hr => SL.hr r (List.mem_filter.1 hr).1)
   have mB : mxl (M.filter whB) ≤ 40 := mxl_le _ 40 (fun r hr => SM.hr r (List.mem_filter.1 hr).1)
   obtain ⟨us, C, eu, RC, hC⟩ := sunion_is x0 n p hN1 hN2 (L.filter whB) (M.filter whB) (by omega) (by omega) mA mB A B wa wb RA RB 39999 (by omega)
   show ((sift_Union.f 39999 wa (p : Int) (spn (L.filter whB)) x0 ((L.filter whB).length : Int) true wb (p : Int) (spn (M.filter whB)) x0 ((M.filter whB).length : Int) true).bind _) = _
   rw [eu, bs]
   unfold w20_code.f
   rw [bs, if_pos rfl]
   unfold sift_Count.f
   rw [bs]
   have c1 : r20_Count.f 39999 L = some ((L.filter whB).length : Int) := by
    unfold r20_Count.f
    rw [wholes_is L (by omega) SL.hr 39999 (by omega), bs]
   have c2 : r20_Count.f 39999 M = some ((M.filter whB).length : Int) := by
    unfold r20_Count.f
    rw [wholes_is M (by omega) SM.hr 39999 (by omega), bs]
   rw [c1, bs, c2, bs, w64 (by omega) (by omega)]
   show w20_SiftKeeps.j1 39999 x0 x1 x2 L M (((((L.filter whB).length + (M.filter whB).length : Nat) : Int)) != (((L.filter whB).length : Int) + ((M.filter whB).length : Int))) wa (p : Int) (spn (L.filter whB)) x0 ((L.filter whB).length : Int) true us (p : Int) (mg (spA (L.filter whB)) (spn (M.filter whB)) (max (mxl (L.filter whB)) (mxl (M.filter whB)))) x0 (((L.filter whB).length + (M.filter whB).length : Nat) : Int) true = some true
   rw [show (((L.filter whB).length : Int) + ((M.filter whB).length : Int)) = (((L.filter whB).length + (M.filter whB).length : Nat) : Int) by omega, bne_self_eq_false, show (39999 : Nat) = 39998 + 1 from rfl, w20_SiftKeeps.j1, if_neg (show ¬ (false = true) by decide)]
   have cL : ∀ r ∈ L, whB r = true → 0 < (L.filter whB).length := fun r hr hw => List.length_pos_of_mem (List.mem_filter.2 ⟨hr, hw⟩)
   have cM : ∀ r ∈ M, whB r = true → 0 < (M.filter whB).length := fun r hr hw => List.length_pos_of_mem (List.mem_filter.2 ⟨hr, hw⟩)
   have sS : ∀ r ∈ L, ∀ k, 6200 ≤ k → sift_Passes.f k wa (p : Int) (spn (L.filter whB)) x0 ((L.filter whB).length : Int) true r = some (whB r) := by
    refine passes_u x0 n p hN1 hN2 hP _ L SL _ true A wa RA (fun r hr hw => ?_) (fun r hr hw i hi => ?_) bA
    ·have := cL r hr hw
     omega
    ·obtain ⟨h1, h2⟩ := put_col (L.filter whB) r (List.mem_filter.2 ⟨hr, hw⟩) i hi
     have hs := spn_len (L.filter whB)
     refine ⟨by omega, ?_⟩
     rw [spn_get]
     exact bd_hasB _ _ h2
   have sU : ∀ r ∈ L, ∀ k, 6200 ≤ k → sift_Passes.f k us (p : Int) (mg (spA (L.filter whB)) (spn (M.filter whB)) (max (mxl (L.filter whB)) (mxl (M.filter whB)))) x0 (((L.filter whB).length + (M.filter whB).length : Nat) : Int) true r = some (whB r) := by
    refine passes_u x0 n p hN1 hN2 hP _ L SL _ true C us RC (fun r hr hw => ?_) (fun r hr hw i hi => ?_) (fun r hr hw q hq => (hC q).1 (bA r hr hw q hq))
    ·have := cL r hr hw
     omega
    ·exact mg_has (L.filter whB) (M.filter whB) (by omega) (by omega) i r[i] (.inl (put_col (L.filter whB) r (List.mem_filter.2 ⟨hr, hw⟩) i hi))
   have sV : ∀ r ∈ M, ∀ k, 6200 ≤ k → sift_Passes.f k us (p : Int) (mg (spA (L.filter whB)) (spn (M.filter whB)) (max (mxl (L.filter whB)) (mxl (M.filter whB)))) x0 (((L.filter whB).length + (M.filter whB).length : Nat) : Int) true r = some (whB r) := by
    refine passes_u x0 n p hN1 hN2 hP _ M SM _ true C us RC (fun r hr hw => ?_) (fun r hr hw i hi => ?_) (fun r hr hw q hq => (hC q).2 (bB r hr hw q hq))
    ·have := cM r hr hw
     omega
    ·exact mg_has (L.filter whB) (M.filter whB) (by omega) (by omega) i r[i] (.inr (put_col (M.filter whB) r (List.mem_filter.2 ⟨hr, hw⟩) i hi))
   generalize mg (spA (L.filter whB)) (spn (M.filter whB)) (max (mxl (L.filter whB)) (mxl (M.filter whB))) = su at *
   refine keeps_l0 x0 x1 x2 L M l1 SL.hr wa (p : Int) _ x0 _ true us (p : Int) su x0 _ true 10000 (by omega) (fun r hr k hk => sS r hr k (by omega)) (fun r hr k hk => sU r hr k (by omega)) _ ?_ L.length 39998 0 (by omega) (by omega)
   intro k hk
   refine keeps_l1 x0 x1 x2 M l2 SM.hr wa (p : Int) _ x0 _ true us (p : Int) su x0 _ true 9000 (by omega) (fun r hr k hk => sV r hr k (by omega)) _ ?_ M.length k 0 (by omega) (by omega)
   intro k hk
   rw [w20_SiftKeeps.l1, if_neg (by omega), new_is (Go.bits .xor .i64 x0 1) x1 x2 n p hn hN2 hpp, bs]
   show ((sift_Union.f k wa (p : Int) (spn (L.filter whB)) x0 ((L.filter whB).length : Int) true (List.replicate n 0) (p : Int) [] (Go.bits .xor .i64 x0 1) 0 true).bind _) = _
   rw [sunion_no x0 (Go.bits .xor .i64 x0 1) (fun e => xor_ne x0 e.symm) n p hN1 hN2 A (List.replicate (64 * n) false) wa _ RA (rel_new n) _ _ _ _ _ _ k (by omega), bs]
   unfold w20_code.f
   rw [bs, if_pos rfl, live20_is k (by omega), bs]

end Go.Proofs.YtcfgjaggccnoaaaDoor.Pure
