/- For every seed, every number of words and bits, every list of keys and every key, the program's filter passes the key when the document's does, counts as many keys, has as many bits that are one, and tells whole keys as the document does. Conditions: none beyond the law's own guards; the library's tables are read as the program's text lays them. -/
import Derived.Test.YtcfgjaggccnoaaaDoorWfSiftPasses
import Derived.Laws.BitsLemmas
import Derived.Lib.ItoaNum
import Derived.Lib.ItoaLen
import Derived.Lib.ItoaMem
import Derived.Test.YtcfgjaggccnoaaaDoorPSiftPassesx14
namespace Go.Proofs.YtcfgjaggccnoaaaDoor.Pure
open Go.RowKit Go.Proofs.YtcfgjaggccnoaaaDoor.PSiftPasses Go.Proofs.YtcfgjaggccnoaaaDoorW.PrintWords Go.Proofs.YtcfgjaggccnoaaaDoorW.PrintLast
set_option linter.unusedVariables false
set_option linter.unusedSimpArgs false
set_option maxRecDepth 100000

theorem bs {α β : Type} (a : α) (f : α → Option β) : (some a).bind f = f a := (Option.bind_some a f).trans (Eq.refl _)

theorem u64_wrap (n : Int) : IntKind.u64.wrap n = n % 18446744073709551616 := by
 simp [IntKind.wrap, IntKind.bits, IntKind.signed]

theorem u64_range (n : Int) : 0 ≤ IntKind.u64.wrap n ∧ IntKind.u64.wrap n < 18446744073709551616 := by
 rw [u64_wrap]; omega

theorem u64_in {n : Int} (h0 : 0 ≤ n) (h1 : n < 18446744073709551616) : IntKind.u64.wrap n = n := by
 rw [u64_wrap]; omega

theorem w64 {n : Int} (h0 : -9223372036854775808 ≤ n) (h1 : n < 9223372036854775808) : wrap64 n = n := by
 unfold wrap64; omega

theorem bits_u64 (op : BinOp) (x y : Int) : 0 ≤ Go.bits op .u64 x y ∧ Go.bits op .u64 x y < 18446744073709551616 := by
 unfold Go.bits
 exact u64_range _

theorem div_same (x : Int) (n : Int) (h0 : 0 ≤ x) (h1 : x < 18446744073709551616) (hn : 1 ≤ n) : IntKind.u64.wrap (Int.tdiv x n) = x / n := by
 rw [Int.tdiv_eq_ediv_of_nonneg h0]
 have a : 0 ≤ x / n := Int.ediv_nonneg h0 (by omega)
 have b : x / n ≤ x := Int.ediv_le_self _ h0
 exact u64_in a (by omega)

theorem mix_same (a : Int) (h0 : 0 ≤ a) (h1 : a < 18446744073709551616) : trommelref17_Mix.f a = hash_Mix.f a := by
 unfold trommelref17_Mix.f hash_Mix.f
 rw [div_same a _ h0 h1 (by decide)]
 rw [div_same _ 536870912 (u64_range _).1 (u64_range _).2 (by decide)]
 rw [div_same _ 4294967296 (u64_range _).1 (u64_range _).2 (by decide)]

theorem mix_some (a : Int) : ∃ r, hash_Mix.f a = some r ∧ 0 ≤ r ∧ r < 18446744073709551616 :=
 ⟨_, rfl, (bits_u64 _ _ _).1, (bits_u64 _ _ _).2⟩

theorem start_is (seed : Int) : hash_Start.f seed = hash_Mix.f (IntKind.u64.wrap ((IntKind.u64.wrap (seed)) + 2685821657736338717)) := by
 unfold hash_Start.f
 generalize hash_Mix.f (IntKind.u64.wrap ((IntKind.u64.wrap (seed)) + 2685821657736338717)) = o
 cases o <;> rfl

theorem byte_some (h b : Int) : ∃ r, hash_Byte.f h b = some r ∧ 0 ≤ r ∧ r < 18446744073709551616 :=
 ⟨_, rfl, (u64_range _).1, (u64_range _).2⟩

--import Derived.Laws.BitsLemmas
theorem xor_top (n : Nat) (h : n < 18446744073709551616) : n ^^^ 9223372036854775808 = (n + 9223372036854775808) % 18446744073709551616 := by
 rw [show (9223372036854775808 : Nat) = 2 ^ 63 from rfl, show (18446744073709551616 : Nat) = 2 ^ 64 from rfl, Nat.add_comm] at *
 apply Nat.eq_of_testBit_eq
 intro i
 rw [Nat.testBit_xor, Nat.testBit_mod_two_pow]
 rcases Nat.lt_trichotomy i 63 with c | c | c
 ·rw [Nat.testBit_two_pow_add_gt c, Nat.testBit_two_pow_of_ne (by omega)]
  simp
  omega
 ·subst c
  rw [Nat.testBit_two_pow_add_eq, Nat.testBit_two_pow_self]
  simp
 ·rw [Nat.testBit_two_pow_of_ne (by omega), Nat.testBit_lt_two_pow (Nat.lt_of_lt_of_le h (Nat.pow_le_pow_right (by decide) (by omega)))]
  simp
  intro h64
  omega
theorem bits_top (u : Int) (h0 : 0 ≤ u) (h1 : u < 18446744073709551616) : Go.bits .xor .u64 u 9223372036854775808 = IntKind.u64.wrap (u + 9223372036854775808) := by
 obtain ⟨n, rfl⟩ := Int.eq_ofNat_of_zero_le h0
 have e := xor_top n (by omega)
 have hn : n % 2 ^ IntKind.u64.bits = n := Nat.mod_eq_of_lt (by show n < 18446744073709551616; omega)
 have e2 : (9223372036854775808 : Int) = ((9223372036854775808 : Nat) : Int) := rfl
 rw [e2]
 simp only [Go.bits, BitVec.ofInt_natCast, BitVec.toNat_xor, BitVec.toNat_ofNat, hn]
 rw [show (9223372036854775808 : Nat) % 2 ^ IntKind.u64.bits = 9223372036854775808 from rfl, e, u64_wrap, u64_wrap]
 omega
theorem shr_is (x : Int) (m : Nat) (h : m ≤ 64) : shr .u64 x (m : Int) = x / 2 ^ m := by
 unfold shr
 rw [Int.toNat_natCast, show min m IntKind.u64.bits = m from Nat.min_eq_left h]
theorem strOf_append (a b : List Int) : strOfNums (a ++ b) = strOfNums a ++ strOfNums b := by
 apply ByteArray.ext
 apply Array.ext'
 rw [ByteArray.data_append, Array.toList_append, strOfNums_data, strOfNums_data, strOfNums_data, List.map_append]
/-- The eight bytes of a number, the highest first. -/
def bytes8 (x : Int) : List Int := [x / 72057594037927936 % 256, x / 281474976710656 % 256, x / 1099511627776 % 256, x / 4294967296 % 256, x / 16777216 % 256, x / 65536 % 256, x / 256 % 256, x % 256]
def vkey (a b : Int) (s : ByteArray) : ByteArray := if a = 0 then (⟨#[110]⟩ : ByteArray) else if a = 1 then (⟨#[105]⟩ : ByteArray) ++ strOfNums (bytes8 (IntKind.u64.wrap (b + 9223372036854775808))) else if a = 2 then (⟨#[116]⟩ : ByteArray) ++ s else (⟨#[]⟩ : ByteArray)
theorem key_step (x : Int) (k : Nat) (l : List Int) (i : Nat) (hi : i < 8) (hl : l.length ≤ 9) : val_Key.l0 (k + 1) x l (i : Int) = val_Key.l0 k x (l ++ [x / 2 ^ (56 - 8 * i) % 256]) ((i + 1 : Nat) : Int) := by
 simp only [val_Key.l0]
 have e : wrap64 (56 - wrap64 (8 * (i : Int))) = ((56 - 8 * i : Nat) : Int) := by rw [w64 (n := 8 * (i : Int)) (by omega) (by omega), w64 (by omega) (by omega)]; omega
 rw [if_pos (by omega), e, if_pos (by omega), if_pos (by omega), w64 (n := (i : Int) + 1) (by omega) (by omega), shr_is _ _ (by omega)]
 rfl
theorem key_end (x : Int) (k : Nat) (l : List Int) : val_Key.l0 (k + 1) x l ((8 : Nat) : Int) = some (strOfNums l) := by
 simp only [val_Key.l0]
 rw [if_neg (by omega)]
theorem val_key_is (a b : Int) (s : ByteArray) (hs : s.size ≤ 140737488351232) (k : Nat) (hk : 9 ≤ k) : val_Key.f k a b s = some (vkey a b s) := by
 unfold val_Key.f vkey
 by_cases c0 : a = 0
 ·rw [if_pos c0, if_pos c0]
 ·rw [if_neg c0, if_neg c0]
  by_cases c1 : a = 1
  ·rw [if_pos c1, if_pos c1]
   have hb := u64_range b
   have e : Go.bits .xor .u64 (IntKind.u64.wrap b) 9223372036854775808 = IntKind.u64.wrap (b + 9223372036854775808) := by
    rw [bits_top _ hb.1 hb.2, u64_wrap, u64_wrap, u64_wrap]; omega
   rw [e]
   generalize IntKind.u64.wrap (b + 9223372036854775808) = x
   obtain ⟨k, rfl⟩ : ∃ m, k = m + 9 := ⟨k - 9, by omega⟩
   rw [show (0 : Int) = ((0 : Nat) : Int) from rfl]
   rw [key_step x (k + 8) _ 0 (by omega) (by decide), key_step x (k + 7) _ 1 (by omega) (by simp), key_step x (k + 6) _ 2 (by omega) (by simp), key_step x (k + 5) _ 3 (by omega) (by simp), key_step x (k + 4) _ 4 (by omega) (by simp), key_step x (k + 3) _ 5 (by omega) (by simp), key_step x (k + 2) _ 6 (by omega) (by simp), key_step x (k + 1) _ 7 (by omega) (by simp), key_end]
   have e1 : (⟨#[105]⟩ : ByteArray) = strOfNums [105] := by apply ByteArray.ext; apply Array.ext'; rw [strOfNums_data]; rfl
   rw [e1, ← strOf_append]
   simp [bytes8]
  ·rw [if_neg c1, if_neg c1]
   by_cases c2 : a = 2
   ·rw [if_pos c2, if_pos c2, if_pos (by omega)]
   ·rw [if_neg c2, if_neg c2]
theorem rkey_step (x : Int) (h0 : 0 ≤ x) (h1 : x < 18446744073709551616) (k : Nat) (l : List Int) (i : Nat) (hi : i < 8) (hl : l.length ≤ 9) : trommelref01_Key.l0 (k + 1) x l (i : Int) = trommelref01_Key.l0 k (x / 256) (x % 256 :: l) ((i + 1 : Nat) : Int) := by
 simp only [trommelref01_Key.l0]
 rw [if_pos (by omega), bs]
 rw [if_pos (show ([(Int.tmod x 256) % 256] : List Int).length + l.length < 140737488355328 by simp; omega)]
 rw [div_same x 256 h0 h1 (by decide), Int.tmod_eq_emod_of_nonneg h0, w64 (n := (i : Int) + 1) (by omega) (by omega), Int.emod_emod_of_dvd x (Int.dvd_refl 256)]
 rfl
theorem rkey_end (x : Int) (k : Nat) (l : List Int) (hl : l.length ≤ 9) : trommelref01_Key.l0 (k + 1) x l ((8 : Nat) : Int) = some ((⟨#[105]⟩ : ByteArray) ++ strOfNums l) := by
 simp only [trommelref01_Key.l0]
 have e : (strOfNums l).size = l.length := by simp [strOfNums, ByteArray.size]
 rw [if_neg (by omega), if_pos (by omega)]
theorem ref_key_is (a b : Int) (s : ByteArray) (hs : s.size ≤ 140737488351232) (k : Nat) (hk : 9 ≤ k) : trommelref01_Key.f k a b s = some (vkey a b s) := by
 unfold trommelref01_Key.f vkey
 by_cases c0 : a = 0
 ·rw [if_pos c0, if_pos c0]
 ·rw [if_neg c0, if_neg c0]
  by_cases c2 : a = 2
  ·rw [if_pos c2, if_neg (show ¬ a = 1 by omega), if_pos c2, if_pos (show 1 + s.size ≤ 9223372036854775807 by omega)]
  ·rw [if_neg c2]
   by_cases c1 : a = 1
   ·rw [if_pos c1, if_pos c1]
    have e : IntKind.u64.wrap (IntKind.u64.wrap b + 9223372036854775808) = IntKind.u64.wrap (b + 9223372036854775808) := by
     rw [u64_wrap, u64_wrap, u64_wrap]; omega
    rw [e]
    have hx := u64_range (b + 9223372036854775808)
    generalize IntKind.u64.wrap (b + 9223372036854775808) = x at *
    obtain ⟨h0, h1⟩ := hx
    obtain ⟨k, rfl⟩ : ∃ m, k = m + 9 := ⟨k - 9, by omega⟩
    have q : ∀ y : Int, 0 ≤ y ∧ y < 18446744073709551616 → 0 ≤ y / 256 ∧ y / 256 < 18446744073709551616 := fun y hy => by omega
    have q1 := q x ⟨h0, h1⟩
    have q2 := q _ q1
    have q3 := q _ q2
    have q4 := q _ q3
    have q5 := q _ q4
    have q6 := q _ q5
    have q7 := q _ q6
    rw [show (0 : Int) = ((0 : Nat) : Int) from rfl]
    rw [rkey_step _ h0 h1 (k + 8) _ 0 (by omega) (by simp), rkey_step _ q1.1 q1.2 (k + 7) _ 1 (by omega) (by simp), rkey_step _ q2.1 q2.2 (k + 6) _ 2 (by omega) (by simp), rkey_step _ q3.1 q3.2 (k + 5) _ 3 (by omega) (by simp), rkey_step _ q4.1 q4.2 (k + 4) _ 4 (by omega) (by simp), rkey_step _ q5.1 q5.2 (k + 3) _ 5 (by omega) (by simp), rkey_step _ q6.1 q6.2 (k + 2) _ 6 (by omega) (by simp), rkey_step _ q7.1 q7.2 (k + 1) _ 7 (by omega) (by simp), rkey_end _ _ _ (by simp)]
    clear q q1 q2 q3 q4 q5 q6 q7
    have d : ∀ (y : Int) (m : Int), 0 ≤ m → y / m / 256 = y / (m * 256) := fun y m hm => Int.ediv_ediv_of_nonneg hm
    rw [d x 256 (by decide), d x (256 * 256) (by decide), d x (256 * 256 * 256) (by decide), d x (256 * 256 * 256 * 256) (by decide), d x (256 * 256 * 256 * 256 * 256) (by decide), d x (256 * 256 * 256 * 256 * 256 * 256) (by decide)]
    rfl
   ·rw [if_neg c1, if_neg c1, if_neg c2]
theorem vkey_size (a b : Int) (s : ByteArray) : (vkey a b s).size ≤ s.size + 9 := by
 unfold vkey
 split
 ·show 1 ≤ _; omega
 ·split
  ·rw [ByteArray.size_append]
   have e : (strOfNums (bytes8 (IntKind.u64.wrap (b + 9223372036854775808)))).size = 8 := by simp [strOfNums, ByteArray.size, bytes8]
   rw [e]
   show 1 + 8 ≤ _
   omega
  ·split
   ·rw [ByteArray.size_append]
    show 1 + _ ≤ _
    omega
   ·show 0 ≤ _; omega

theorem rtext_l0 (s : ByteArray) (hs : s.size ≤ 140737488355328000) (d : Nat) : ∀ (k : Nat) (h i : Int), 0 ≤ h → h < 18446744073709551616 → 0 ≤ i → i ≤ s.size → (s.size : Int) - i = d → trommelref17_Text.l0 k s h i = hash_text.l0 k s h (s.size : Int) i := by
 induction d with
 | zero =>
  intro k h i g0 g1 h0 h1 hd
  cases k with
  | zero => rfl
  | succ k =>
   simp only [trommelref17_Text.l0, hash_text.l0]
   rw [if_neg (by omega), if_neg (by omega), mix_same h g0 g1]
 | succ d ih =>
  intro k h i g0 g1 h0 h1 hd
  cases k with
  | zero => rfl
  | succ k =>
   simp only [trommelref17_Text.l0, hash_text.l0]
   rw [if_pos (show i < (s.size : Int) by omega), if_pos h0, if_pos (show i < (s.size : Int) by omega), if_pos h0, if_pos (show i < (s.size : Int) by omega), w64 (n := i + 1) (by omega) (by omega)]
   unfold hash_Byte.f
   rw [bs]
   exact ih k _ (i + 1) (u64_range _).1 (u64_range _).2 (by omega) (by omega) (by omega)
theorem rtext_is (seed : Int) (s : ByteArray) (hs : s.size ≤ 140737488355328000) (k : Nat) : trommelref17_Text.f k seed s = hash_text.f k seed s := by
 unfold trommelref17_Text.f hash_text.f
 have hm := u64_range (IntKind.u64.wrap seed + 2685821657736338717)
 rw [start_is, mix_same _ hm.1 hm.2]
 obtain ⟨r, hr, h0, h1⟩ := mix_some (IntKind.u64.wrap (IntKind.u64.wrap seed + 2685821657736338717))
 rw [hr, bs, bs]
 exact rtext_l0 s hs s.size k r 0 h0 h1 (by omega) (by omega) (by omega)
theorem text_l0_big (s : ByteArray) (hs : s.size ≤ 140737488355328000) (d : Nat) : ∀ (k : Nat) (h i : Int), 0 ≤ i → i ≤ s.size → (s.size : Int) - i = d → d < k → ∃ r, hash_text.l0 k s h (s.size : Int) i = some r ∧ 0 ≤ r ∧ r < 18446744073709551616 := by
 induction d with
 | zero =>
  intro k h i h0 h1 hd hk
  obtain ⟨k, rfl⟩ : ∃ m, k = m + 1 := ⟨k - 1, by omega⟩
  obtain ⟨r, hr, h2⟩ := mix_some h
  refine ⟨r, ?_, h2⟩
  simp only [hash_text.l0]
  rw [if_neg (by omega), hr, bs]
 | succ d ih =>
  intro k h i h0 h1 hd hk
  obtain ⟨k, rfl⟩ : ∃ m, k = m + 1 := ⟨k - 1, by omega⟩
  obtain ⟨b, hb, _⟩ := byte_some h (bt s i)
  obtain ⟨r, hr, h2⟩ := ih k b (i + 1) (by omega) (by omega) (by omega) (by omega)
  refine ⟨r, ?_, h2⟩
  simp only [hash_text.l0]
  rw [if_pos (by omega), if_pos h0, if_pos (by omega), hb, bs, w64 (by omega) (by omega)]
  exact hr
theorem text_some_big (seed : Int) (s : ByteArray) (hs : s.size ≤ 140737488355328000) (k : Nat) (hk : s.size < k) : ∃ r, hash_text.f k seed s = some r ∧ 0 ≤ r ∧ r < 18446744073709551616 := by
 obtain ⟨h, hh, _⟩ := mix_some (IntKind.u64.wrap ((IntKind.u64.wrap (seed)) + 2685821657736338717))
 obtain ⟨r, hr, h2⟩ := text_l0_big s hs s.size k h 0 (by omega) (by omega) (by omega) hk
 refine ⟨r, ?_, h2⟩
 unfold hash_text.f
 rw [start_is, hh, bs]
 exact hr

--import Derived.Lib.ItoaNum
--import Derived.Lib.ItoaLen
--import Derived.Lib.ItoaMem
theorem digit_at (i : Nat) (h : i < 10) : (⟨#[48, 49, 50, 51, 52, 53, 54, 55, 56, 57]⟩ : ByteArray).extract i (i + 1) = ⟨#[UInt8.ofNat (48 + i)]⟩ := by
 have : ∀ j : Fin 10, ((⟨#[48, 49, 50, 51, 52, 53, 54, 55, 56, 57]⟩ : ByteArray).extract j.1 (j.1 + 1)).data.toList = [UInt8.ofNat (48 + j.1)] := by decide
 apply ByteArray.ext
 apply Array.ext'
 exact this ⟨i, h⟩
theorem emp_app (s : ByteArray) : (⟨#[]⟩ : ByteArray) ++ s = s := by
 apply ByteArray.ext
 apply Array.ext'
 rw [ByteArray.data_append]
 simp
theorem app_emp (s : ByteArray) : s ++ (⟨#[]⟩ : ByteArray) = s := by
 apply ByteArray.ext
 apply Array.ext'
 rw [ByteArray.data_append]
 simp
theorem digits_l0 (m : Nat) : ∀ (k n : Nat) (acc : ByteArray), m ≤ k → n < 10 ^ (m + 1) → n < 4611686018427387904 → acc.size + m ≤ 1000 → trommelref04_digits.l0 (k + 1) (n : Int) acc = some ((⟨(Lib.decDigits n).toArray⟩ : ByteArray) ++ acc) := by
 have base : ∀ (k n : Nat) (acc : ByteArray), n < 10 → acc.size ≤ 1000 → trommelref04_digits.l0 (k + 1) (n : Int) acc = some ((⟨(Lib.decDigits n).toArray⟩ : ByteArray) ++ acc) := by
  intro k n acc h hb
  simp only [trommelref04_digits.l0]
  rw [if_neg (by omega), w64 (n := (n : Int) + 1) (by omega) (by omega), if_pos (by omega), if_pos (by omega), if_pos (by omega)]
  rw [show ((n : Int) + 1).toNat = n + 1 by omega, Int.toNat_natCast, digit_at n h]
  have e : (⟨#[UInt8.ofNat (48 + n)]⟩ : ByteArray).size = 1 := rfl
  rw [e, if_pos (by omega), Lib.decDigits_one h]
 induction m with
 | zero => exact fun k n acc _ h _ hb => base k n acc (by simpa using h) (by omega)
 | succ m ih =>
  intro k n acc hk h hn hb
  by_cases c : n < 10
  ·exact base k n acc c (by omega)
  ·obtain ⟨k, rfl⟩ : ∃ q, k = q + 1 := ⟨k - 1, by omega⟩
   obtain ⟨K, hK⟩ : ∃ K, K = k + 1 := ⟨_, rfl⟩
   rw [← hK]
   simp only [trommelref04_digits.l0]
   have hm : Int.tmod (n : Int) 10 = ((n % 10 : Nat) : Int) := by rw [Int.tmod_eq_emod_of_nonneg (by omega)]; omega
   have hd : Int.tdiv (n : Int) 10 = ((n / 10 : Nat) : Int) := by rw [Int.tdiv_eq_ediv_of_nonneg (by omega)]; omega
   have h10 : n % 10 < 10 := Nat.mod_lt _ (by decide)
   rw [if_pos (by omega), hm, hd]
   generalize hq : n % 10 = q at *
   rw [w64 (n := (q : Int) + 1) (by omega) (by omega), if_pos (by omega), if_pos (by omega), if_pos (by omega)]
   rw [show ((q : Int) + 1).toNat = q + 1 by omega, Int.toNat_natCast, digit_at q h10]
   have e : (⟨#[UInt8.ofNat (48 + q)]⟩ : ByteArray).size = 1 := rfl
   rw [e, if_pos (by omega), w64 (by omega) (by omega), hK]
   have hlt : n / 10 < 10 ^ (m + 1) := by
    rw [Nat.div_lt_iff_lt_mul (by decide)]
    rw [Nat.pow_succ] at h
    exact h
   rw [ih k (n / 10) _ (by omega) hlt (by omega) (by rw [ByteArray.size_append, e]; omega)]
   rw [← ByteArray.append_assoc]
   congr 2
   have e3 : Lib.decDigits n = Lib.decDigits (n / 10) ++ [UInt8.ofNat (48 + n % 10)] := by
    rw [Lib.decDigits, dif_neg c]
   rw [e3, hq]
   apply ByteArray.ext
   apply Array.ext'
   rw [ByteArray.data_append]
   simp
theorem digits_is (n : Nat) (hn : n < 1000000000000000000) (k : Nat) (hk : 19 ≤ k) : trommelref04_digits.f k (n : Int) = some (⟨(Lib.itoa (n : Int)).toArray⟩ : ByteArray) := by
 obtain ⟨k, rfl⟩ : ∃ m, k = m + 1 := ⟨k - 1, by omega⟩
 unfold trommelref04_digits.f
 rw [digits_l0 18 k n (⟨#[]⟩ : ByteArray) (by omega) (by omega) (by omega) (by show 0 + 18 ≤ 1000; omega), Lib.itoa_nonneg, app_emp]
def rkey : List S23 → ByteArray
 | [] => (⟨#[]⟩ : ByteArray)
 | y :: l => (((⟨(Lib.itoa ((vkey y.f0 y.f1 y.f2).size : Int)).toArray⟩ : ByteArray) ++ (⟨#[58]⟩ : ByteArray)) ++ vkey y.f0 y.f1 y.f2) ++ rkey l
theorem itoa_size (n : Nat) (h : n < 1000000000000000000) : (⟨(Lib.itoa (n : Int)).toArray⟩ : ByteArray).size ≤ 21 := by
 have := Lib.itoa_length_le (n : Int) (by omega) (by omega)
 show (Lib.itoa (n : Int)).toArray.size ≤ 21
 simpa using this
theorem rkey_size (l : List S23) (hs : ∀ y ∈ l, y.f2.size ≤ 140737488351232) : (rkey l).size ≤ l.length * 140737488351300 := by
 induction l with
 | nil => show 0 ≤ _; omega
 | cons y l ih =>
  have h1 := vkey_size y.f0 y.f1 y.f2
  have h2 := hs y (List.mem_cons_self)
  have h3 := itoa_size (vkey y.f0 y.f1 y.f2).size (by omega)
  have h4 := ih (fun z hz => hs z (List.mem_cons_of_mem _ hz))
  have e : (⟨#[58]⟩ : ByteArray).size = 1 := rfl
  rw [rkey, ByteArray.size_append, ByteArray.size_append, ByteArray.size_append, e, List.length_cons, Nat.add_mul]
  omega
theorem rowkey_l0 (l : List S23) (hs : ∀ y ∈ l, y.f2.size ≤ 140737488351232) (hl : l.length ≤ 1000) (d : Nat) : ∀ (k i : Nat) (acc : ByteArray), l.length = i + d → acc.size ≤ i * 140737488351300 → d + 10 ≤ k →
  rows_Key.l0 k acc l (l.length : Int) (i : Int) = some (acc ++ rkey (l.drop i)) := by
 induction d with
 | zero =>
  intro k i acc hd ha hk
  obtain ⟨k, rfl⟩ : ∃ m, k = m + 1 := ⟨k - 1, by omega⟩
  simp only [rows_Key.l0]
  rw [if_neg (by omega), List.drop_eq_nil_of_le (by omega), rkey, app_emp]
 | succ d ih =>
  intro k i acc hd ha hk
  obtain ⟨k, rfl⟩ : ∃ m, k = m + 1 := ⟨k - 1, by omega⟩
  have hi : i < l.length := by omega
  have hy := hs l[i] (List.getElem_mem hi)
  have e : rd_T23 l (i : Int) = l[i] := by
   unfold rd_T23
   rw [Int.toNat_natCast, List.getD_eq_getElem?_getD, List.getElem?_eq_getElem hi]
   rfl
  rw [List.drop_eq_getElem_cons hi, rkey]
  simp only [rows_Key.l0]
  rw [if_pos (by omega), if_pos (by omega), if_pos (by omega), e, val_key_is _ _ _ hy k (by omega), bs]
  have hv := vkey_size l[i].f0 l[i].f1 l[i].f2
  generalize vkey l[i].f0 l[i].f1 l[i].f2 = v at *
  have hz := itoa_size v.size (by omega)
  unfold strconv_Itoa.f
  rw [if_pos (by omega), bs]
  generalize (⟨(Lib.itoa (v.size : Int)).toArray⟩ : ByteArray) = t at *
  have e1 : (⟨#[58]⟩ : ByteArray).size = 1 := rfl
  rw [if_pos (by omega), if_pos (by rw [ByteArray.size_append, e1]; omega), if_pos (by rw [ByteArray.size_append, ByteArray.size_append, e1]; omega), w64 (by omega) (by omega)]
  rw [show (i : Int) + 1 = ((i + 1 : Nat) : Int) by omega]
  rw [ih k (i + 1) _ (by omega) (by rw [ByteArray.size_append, ByteArray.size_append, ByteArray.size_append, e1]; omega) (by omega)]
  simp only [ByteArray.append_assoc]
theorem rows_key_is (l : List S23) (hs : ∀ y ∈ l, y.f2.size ≤ 140737488351232) (hl : l.length ≤ 1000) (k : Nat) (hk : l.length + 10 ≤ k) : rows_Key.f k l = some (rkey l) := by
 unfold rows_Key.f
 rw [show (0 : Int) = ((0 : Nat) : Int) from rfl, rowkey_l0 l hs hl l.length k 0 _ (by omega) (by show 0 ≤ _; omega) hk, List.drop_zero, emp_app]
theorem ref_rowkey_l0 (l : List S23) (hs : ∀ y ∈ l, y.f2.size ≤ 140737488351232) (hl : l.length ≤ 1000) (d : Nat) : ∀ (k i : Nat) (acc : ByteArray), l.length = i + d → acc.size ≤ i * 140737488351300 → d + 20 ≤ k →
  trommelref04_Key.l0 k l acc (i : Int) = some (acc ++ rkey (l.drop i)) := by
 induction d with
 | zero =>
  intro k i acc hd ha hk
  obtain ⟨k, rfl⟩ : ∃ m, k = m + 1 := ⟨k - 1, by omega⟩
  simp only [trommelref04_Key.l0]
  rw [if_neg (by omega), List.drop_eq_nil_of_le (by omega), rkey, app_emp]
 | succ d ih =>
  intro k i acc hd ha hk
  obtain ⟨k, rfl⟩ : ∃ m, k = m + 1 := ⟨k - 1, by omega⟩
  have hi : i < l.length := by omega
  have hy := hs l[i] (List.getElem_mem hi)
  have e : rd_T23 l (i : Int) = l[i] := by
   unfold rd_T23
   rw [Int.toNat_natCast, List.getD_eq_getElem?_getD, List.getElem?_eq_getElem hi]
   rfl
  rw [List.drop_eq_getElem_cons hi, rkey]
  simp only [trommelref04_Key.l0]
  rw [if_pos (by omega), if_pos (by omega), e, ref_key_is _ _ _ hy k (by omega), bs]
  have hv := vkey_size l[i].f0 l[i].f1 l[i].f2
  generalize vkey l[i].f0 l[i].f1 l[i].f2 = v at *
  have hz := itoa_size v.size (by omega)
  rw [digits_is v.size (by omega) k (by omega), bs]
  generalize (⟨(Lib.itoa (v.size : Int)).toArray⟩ : ByteArray) = t at *
  have e1 : (⟨#[58]⟩ : ByteArray).size = 1 := rfl
  rw [if_pos (by omega), if_pos (by rw [ByteArray.size_append]; omega), if_pos (by rw [ByteArray.size_append, ByteArray.size_append, e1]; omega), w64 (by omega) (by omega)]
  rw [show (i : Int) + 1 = ((i + 1 : Nat) : Int) by omega]
  rw [ih k (i + 1) _ (by omega) (by rw [ByteArray.size_append, ByteArray.size_append, ByteArray.size_append, e1]; omega) (by omega)]
  simp only [ByteArray.append_assoc]
theorem ref_rowkey_is (l : List S23) (hs : ∀ y ∈ l, y.f2.size ≤ 140737488351232) (hl : l.length ≤ 1000) (k : Nat) (hk : l.length + 20 ≤ k) : trommelref04_Key.f k l = some (rkey l) := by
 unfold trommelref04_Key.f
 rw [show (0 : Int) = ((0 : Nat) : Int) from rfl, ref_rowkey_l0 l hs hl l.length k 0 _ (by omega) (by show 0 ≤ _; omega) hk, List.drop_zero, emp_app]
/-- What a row's number is. -/
theorem row_is (seed : Int) (l : List S23) (hs : ∀ y ∈ l, y.f2.size ≤ 140737488351232) (hl : l.length ≤ 1000) (k : Nat) (hk : l.length + 20 ≤ k) (hk2 : (rkey l).size < k) : ∃ r, hash_Row.f k seed l = some r ∧ 0 ≤ r ∧ r < 18446744073709551616 ∧ trommelref17_Row.f k seed l = some r ∧ hash_text.f k seed (rkey l) = some r := by
 have hz := rkey_size l hs
 obtain ⟨r, hr, h0, h1⟩ := text_some_big seed (rkey l) (by omega) k hk2
 refine ⟨r, ?_, h0, h1, ?_, hr⟩
 ·unfold hash_Row.f
  rw [rows_key_is l hs hl k (by omega), bs, hr, bs]
 ·unfold trommelref17_Row.f
  rw [ref_rowkey_is l hs hl k (by omega), bs, rtext_is _ _ (by omega), hr, bs]


def rowN (l : List S23) : Nat := (l.map fun y => 1 + y.f2.size).sum
def totN (L : List (List S23)) : Nat := (L.map rowN).sum
theorem rowN_cons (y : S23) (l : List S23) : rowN (y :: l) = 1 + y.f2.size + rowN l := by simp [rowN]
theorem rowN_le (l : List S23) : ∀ y ∈ l, y.f2.size ≤ rowN l := by
 intro y hy
 induction l with
 | nil => cases hy
 | cons z l ih =>
  rw [rowN_cons]
  rcases List.mem_cons.1 hy with rfl | h
  ·omega
  ·have := ih h; omega
theorem totN_cons (r : List S23) (L : List (List S23)) : totN (r :: L) = rowN r + totN L := by simp [totN]
theorem totN_le (L : List (List S23)) : ∀ r ∈ L, rowN r ≤ totN L := by
 intro y hy
 induction L with
 | nil => cases hy
 | cons z l ih =>
  rw [totN_cons]
  rcases List.mem_cons.1 hy with rfl | h
  ·omega
  ·have := ih h; omega
theorem much_inner (L : List (List S23)) (r : List S23) (i : Nat) (hL : L[i]? = some r) (hr : r.length ≤ 40) (hs : ∀ y ∈ r, y.f2.size ≤ 140737488351232) (hL2 : L.length ≤ 9000000000000000) (d : Nat) : ∀ (k j : Nat) (n : Int), r.length = j + d → 0 ≤ n → n ≤ 2000 + j * 140737488351233 →
  trommelref04_Much.l1 (k + d + 1) L n (i : Int) (j : Int) = if n + rowN (r.drop j) > 2000 then some true else trommelref04_Much.l0 k L (n + rowN (r.drop j)) ((i + 1 : Nat) : Int) := by
 have hi : i < L.length := (List.getElem?_eq_some_iff.1 hL).1
 have hrd : rd_L6 L (i : Int) = r := by
  unfold rd_L6
  rw [Int.toNat_natCast, List.getD_eq_getElem?_getD, hL]
  rfl
 induction d with
 | zero =>
  intro k j n hd h0 h1
  simp only [trommelref04_Much.l1]
  rw [if_pos (show (0 : Int) ≤ (i : Int) by omega), if_pos (show (i : Int) < (L.length : Int) by omega), hrd, if_neg (show ¬ (j : Int) < (r.length : Int) by omega), w64 (n := (i : Int) + 1) (by omega) (by omega)]
  rw [List.drop_eq_nil_of_le (by omega)]
  simp [rowN]
 | succ d ih =>
  intro k j n hd h0 h1
  have hj : j < r.length := by omega
  have hy := hs r[j] (List.getElem_mem hj)
  have e : rd_T23 r (j : Int) = r[j] := by
   unfold rd_T23
   rw [Int.toNat_natCast, List.getD_eq_getElem?_getD, List.getElem?_eq_getElem hj]
   rfl
  obtain ⟨K, hK⟩ : ∃ K, K = k + d + 1 := ⟨_, rfl⟩
  rw [show k + (d + 1) + 1 = K + 1 by omega]
  simp only [trommelref04_Much.l1]
  rw [if_pos (show (0 : Int) ≤ (i : Int) by omega), if_pos (show (i : Int) < (L.length : Int) by omega), hrd, if_pos (show (j : Int) < (r.length : Int) by omega), if_pos (show (0 : Int) ≤ (j : Int) by omega), e]
  rw [w64 (n := n + 1) (by omega) (by omega), w64 (n := n + 1 + (r[j].f2.size : Int)) (by omega) (by omega), w64 (n := (j : Int) + 1) (by omega) (by omega)]
  have h := ih k (j + 1) (n + 1 + (r[j].f2.size : Int)) (by omega) (by omega) (by omega)
  rw [hK, show ((j : Int) + 1) = ((j + 1 : Nat) : Int) by omega, h]
  rw [List.drop_eq_getElem_cons hj, rowN_cons]
  have e2 : n + 1 + (r[j].f2.size : Int) + (rowN (r.drop (j + 1)) : Int) = n + ((1 + r[j].f2.size + rowN (r.drop (j + 1)) : Nat) : Int) := by omega
  rw [e2]
theorem much_outer (L : List (List S23)) (hs : ∀ r ∈ L, ∀ y ∈ r, y.f2.size ≤ 140737488351232) (hL2 : L.length ≤ 9000000000000000) (d : Nat) : ∀ (k i : Nat) (n : Int), 60 ≤ i + d → 0 ≤ n → n ≤ 2000 → d * 44 + 2 ≤ k →
  ∃ b, trommelref04_Much.l0 k L n (i : Int) = some b ∧ (b = false → L.length ≤ 50 ∧ (∀ r ∈ L.drop i, r.length ≤ 40) ∧ n + totN (L.drop i) ≤ 2000) := by
 have stop : ∀ (k i : Nat) (n : Int), n ≤ 2000 → (60 ≤ i ∨ L.length ≤ i) → 2 ≤ k → ∃ b, trommelref04_Much.l0 k L n (i : Int) = some b ∧ (b = false → L.length ≤ 50 ∧ (∀ r ∈ L.drop i, r.length ≤ 40) ∧ n + totN (L.drop i) ≤ 2000) := by
  intro k i n hn hi hk
  obtain ⟨k, rfl⟩ : ∃ m, k = m + 2 := ⟨k - 2, by omega⟩
  refine ⟨decide ((L.length : Int) > 50), ?_, ?_⟩
  ·simp only [trommelref04_Much.l0]
   by_cases c : (i : Int) < (L.length : Int)
   ·rw [if_pos c]
    have c2 : decide ((i : Int) < 60) = false := by simp; omega
    rw [c2]
    simp only [trommelref04_Much.j1]
    rw [if_neg (by simp)]
   ·rw [if_neg c]
    simp only [trommelref04_Much.j1]
    rw [if_neg (by simp)]
  ·intro hb
   have h50 : L.length ≤ 50 := by have := of_decide_eq_false hb; omega
   rw [List.drop_eq_nil_of_le (show L.length ≤ i by omega)]
   refine ⟨h50, ?_, ?_⟩
   ·intro r hr
    cases hr
   ·simpa [totN] using hn
 induction d with
 | zero => exact fun k i n hi h0 h1 hk => stop k i n h1 (by omega) (by omega)
 | succ d ih =>
  intro k i n hi h0 h1 hk
  by_cases c : 60 ≤ i ∨ L.length ≤ i
  ·exact stop k i n h1 c (by omega)
  ·have hi2 : i < L.length := by omega
   have hLi : L[i]? = some L[i] := List.getElem?_eq_getElem hi2
   have hrd : rd_L6 L (i : Int) = L[i] := by
    unfold rd_L6
    rw [Int.toNat_natCast, List.getD_eq_getElem?_getD, hLi]
    rfl
   obtain ⟨k, rfl⟩ : ∃ m, k = m + 2 := ⟨k - 2, by omega⟩
   have e1 : trommelref04_Much.l0 (k + 2) L n (i : Int) = if (L[i].length : Int) > 40 then some true else trommelref04_Much.l1 k L n (i : Int) 0 := by
    simp only [trommelref04_Much.l0]
    rw [if_pos (show (i : Int) < (L.length : Int) by omega)]
    have c2 : decide ((i : Int) < 60) = true := by simp; omega
    rw [c2]
    simp only [trommelref04_Much.j1]
    rw [if_pos trivial, if_pos (show (0 : Int) ≤ (i : Int) by omega), if_pos (show (i : Int) < (L.length : Int) by omega), hrd]
   rw [e1]
   by_cases c3 : (L[i].length : Int) > 40
   ·rw [if_pos c3]
    exact ⟨true, rfl, fun h => by cases h⟩
   ·rw [if_neg c3]
    obtain ⟨k2, hk2⟩ : ∃ m, k = m + L[i].length + 1 := ⟨k - L[i].length - 1, by omega⟩
    have h := much_inner L L[i] i hLi (by omega) (hs _ (List.getElem_mem hi2)) hL2 L[i].length k2 0 n (by omega) h0 (by omega)
    rw [hk2, show (0 : Int) = ((0 : Nat) : Int) from rfl, h]
    rw [List.drop_zero]
    by_cases c4 : n + (rowN L[i] : Int) > 2000
    ·rw [if_pos c4]
     exact ⟨true, rfl, fun h => by cases h⟩
    ·rw [if_neg c4]
     obtain ⟨b, hb, hp⟩ := ih k2 (i + 1) (n + (rowN L[i] : Int)) (by omega) (by omega) (by omega) (by omega)
     refine ⟨b, hb, fun hf => ?_⟩
     obtain ⟨p1, p2, p3⟩ := hp hf
     rw [List.drop_eq_getElem_cons hi2]
     refine ⟨p1, ?_, ?_⟩
     ·intro r hr
      rcases List.mem_cons.1 hr with rfl | hr
      ·omega
      ·exact p2 r hr
     ·rw [totN_cons]
      omega
theorem much_is (L : List (List S23)) (hs : ∀ r ∈ L, ∀ y ∈ r, y.f2.size ≤ 140737488351232) (hL2 : L.length ≤ 9000000000000000) (k : Nat) (hk : 3000 ≤ k) :
  ∃ b, trommelref04_Much.f k L = some b ∧ (b = false → L.length ≤ 50 ∧ (∀ r ∈ L, r.length ≤ 40) ∧ totN L ≤ 2000) := by
 obtain ⟨b, hb, hp⟩ := much_outer L hs hL2 60 k 0 0 (by omega) (by omega) (by omega) (by omega)
 refine ⟨b, hb, fun hf => ?_⟩
 obtain ⟨p1, p2, p3⟩ := hp hf
 exact ⟨p1, p2, by rw [List.drop_zero] at p3; omega⟩



theorem split8 (a b : Nat) (ha : a < 256) (j : Nat) : (256 * b + a).testBit j = if j < 8 then a.testBit j else b.testBit (j - 8) := Nat.testBit_two_pow_mul_add b (i := 8) ha j
theorem land_split (a b c d : Nat) (ha : a < 256) (hc : c < 256) : (256 * b + a) &&& (256 * d + c) = 256 * (b &&& d) + (a &&& c) := by
 have hac : a &&& c < 256 := Nat.lt_of_le_of_lt Nat.and_le_left ha
 apply Nat.eq_of_testBit_eq
 intro j
 rw [Nat.testBit_and, split8 a b ha, split8 c d hc, split8 (a &&& c) (b &&& d) hac]
 split <;> rw [Nat.testBit_and]
def valB : List Nat → Nat
 | [] => 0
 | b :: t => 256 * valB t + b
def repB (c : Nat) : Nat → Nat
 | 0 => 0
 | n + 1 => 256 * repB c n + c
def f1 (b : Nat) : Nat := ((b / 2) &&& 85) + (b &&& 85)
def f2 (b : Nat) : Nat := ((b / 4) &&& 51) + (b &&& 51)
def f3 (b : Nat) : Nat := (b / 16 + b) &&& 15
theorem f1_lt (b : Nat) (h : b < 256) : f1 b < 256 := (by decide +kernel : ∀ b : Fin 256, f1 b.1 < 256) ⟨b, h⟩
theorem f2_f1 (b : Nat) (h : b < 256) : f2 (f1 b) % 16 ≤ 4 ∧ f2 (f1 b) / 16 ≤ 4 := (by decide +kernel : ∀ b : Fin 256, f2 (f1 b.1) % 16 ≤ 4 ∧ f2 (f1 b.1) / 16 ≤ 4) ⟨b, h⟩
theorem cut1 (b : Nat) (h : b < 256) (p : Nat) (hp : p < 2) : (b / 2 + 128 * p) &&& 85 = (b / 2) &&& 85 := (by decide +kernel : ∀ (b : Fin 256) (p : Fin 2), (b.1 / 2 + 128 * p.1) &&& 85 = (b.1 / 2) &&& 85) ⟨b, h⟩ ⟨p, hp⟩
theorem cut2 (b : Nat) (h : b < 256) (p : Nat) (hp : p < 4) : (b / 4 + 64 * p) &&& 51 = (b / 4) &&& 51 := (by decide +kernel : ∀ (b : Fin 256) (p : Fin 4), (b.1 / 4 + 64 * p.1) &&& 51 = (b.1 / 4) &&& 51) ⟨b, h⟩ ⟨p, hp⟩
theorem cut3 (b : Nat) (h : b < 69) (p : Nat) (hp : p < 5) : (b / 16 + b + 16 * p) &&& 15 = f3 b := (by decide +kernel : ∀ (b : Fin 69) (p : Fin 5), (b.1 / 16 + b.1 + 16 * p.1) &&& 15 = f3 b.1) ⟨b, h⟩ ⟨p, hp⟩
theorem step1 : ∀ l : List Nat, (∀ b ∈ l, b < 256) → ((valB l / 2) &&& repB 85 l.length) + (valB l &&& repB 85 l.length) = valB (l.map f1)
 | [], _ => rfl
 | b :: t, h => by
  have hb := h b (List.mem_cons_self)
  have ih := step1 t (fun x hx => h x (List.mem_cons_of_mem _ hx))
  have e : valB (b :: t) / 2 = 256 * (valB t / 2) + (b / 2 + 128 * (valB t % 2)) := by simp only [valB]; omega
  rw [e]
  simp only [valB, repB, List.length_cons, List.map_cons]
  rw [land_split _ _ _ _ (by omega) (by omega), land_split _ _ _ _ hb (by omega), cut1 b hb _ (by omega), ← ih]
  unfold f1
  omega
theorem step2 : ∀ l : List Nat, (∀ b ∈ l, b < 256) → ((valB l / 4) &&& repB 51 l.length) + (valB l &&& repB 51 l.length) = valB (l.map f2)
 | [], _ => rfl
 | b :: t, h => by
  have hb := h b (List.mem_cons_self)
  have ih := step2 t (fun x hx => h x (List.mem_cons_of_mem _ hx))
  have e : valB (b :: t) / 4 = 256 * (valB t / 4) + (b / 4 + 64 * (valB t % 4)) := by simp only [valB]; omega
  rw [e]
  simp only [valB, repB, List.length_cons, List.map_cons]
  rw [land_split _ _ _ _ (by omega) (by omega), land_split _ _ _ _ hb (by omega), cut2 b hb _ (by omega), ← ih]
  unfold f2
  omega
theorem step3 : ∀ l : List Nat, (∀ b ∈ l, b % 16 ≤ 4 ∧ b / 16 ≤ 4) → (valB l / 16 + valB l) &&& repB 15 l.length = valB (l.map f3) ∧ valB l % 16 ≤ 4
 | [], _ => ⟨rfl, by decide⟩
 | b :: t, h => by
  have hb := h b (List.mem_cons_self)
  have ih := step3 t (fun x hx => h x (List.mem_cons_of_mem _ hx))
  refine ⟨?_, by simp only [valB]; omega⟩
  have e : valB (b :: t) / 16 + valB (b :: t) = 256 * (valB t / 16 + valB t) + (b / 16 + b + 16 * (valB t % 16)) := by simp only [valB]; omega
  rw [e]
  simp only [valB, repB, List.length_cons, List.map_cons]
  rw [land_split _ _ _ _ (by omega) (by omega), cut3 b (by omega) _ (by omega), ih.1]
def popN (x : Nat) : Nat → Nat
 | 0 => 0
 | n + 1 => popN x n + (if x.testBit n = true then 1 else 0)
theorem popN_lo (a b : Nat) (ha : a < 256) : ∀ n, n ≤ 8 → popN (256 * b + a) n = popN a n
 | 0, _ => rfl
 | n + 1, h => by
  simp only [popN]
  rw [popN_lo a b ha n (by omega), split8 a b ha, if_pos (show n < 8 by omega)]
theorem popN_hi (a b : Nat) (ha : a < 256) : ∀ n, popN (256 * b + a) (n + 8) = popN a 8 + popN b n
 | 0 => by
  rw [popN_lo a b ha (0 + 8) (by omega)]
  rfl
 | n + 1 => by
  have e : ∀ x m, popN x (m + 1) = popN x m + (if x.testBit m = true then 1 else 0) := fun _ _ => rfl
  rw [show n + 1 + 8 = (n + 8) + 1 by omega, e (256 * b + a) (n + 8), e b n, popN_hi a b ha n, split8 a b ha, if_neg (show ¬ n + 8 < 8 by omega), show n + 8 - 8 = n by omega]
  omega
theorem valB_one (a : Nat) (t : List Nat) (h : a < 256) : valB (a :: t) / 256 = valB t := by simp only [valB]; omega
theorem valB_two (a b : Nat) (t : List Nat) (ha : a < 256) (hb : b < 256) : valB (a :: b :: t) / 65536 = valB t := by simp only [valB]; omega
theorem valB_four (a b c d : Nat) (t : List Nat) (ha : a < 256) (hb : b < 256) (hc : c < 256) (hd : d < 256) : valB (a :: b :: c :: d :: t) / 4294967296 = valB t := by simp only [valB]; omega
theorem valB_low (a : Nat) (t : List Nat) (h : a < 128) : valB (a :: t) % 128 = a := by simp only [valB]; omega
theorem valB_lt8 (a b c d e f g h : Nat) (ha : a < 256) (hb : b < 256) (hc : c < 256) (hd : d < 256) (he : e < 256) (hf : f < 256) (hg : g < 256) (hh : h ≤ 8) : valB [a, b, c, d, e, f, g, h] < 4611686018427387904 := by simp only [valB]; omega
theorem f_pop (b : Nat) (h : b < 256) : f3 (f2 (f1 b)) = popN b 8 := (by decide +kernel : ∀ b : Fin 256, f3 (f2 (f1 b.1)) = popN b.1 8) ⟨b, h⟩
theorem popN_le (x : Nat) : ∀ n, popN x n ≤ n
 | 0 => Nat.le_refl _
 | n + 1 => by
  simp only [popN]
  have := popN_le x n
  split <;> omega
theorem last8 (p0 p1 p2 p3 p4 p5 p6 p7 : Nat) (h0 : p0 ≤ 8) (h1 : p1 ≤ 8) (h2 : p2 ≤ 8) (h3 : p3 ≤ 8) (h4 : p4 ≤ 8) (h5 : p5 ≤ 8) (h6 : p6 ≤ 8) (h7 : p7 ≤ 8) (y3 y4 y5 y6 : Nat) (e3 : y3 = valB [p0, p1, p2, p3, p4, p5, p6, p7]) (e4 : y4 = y3 + y3 / 256) (e5 : y5 = y4 + y4 / 65536) (e6 : y6 = y5 + y5 / 4294967296) :
  y4 < 4611686018427387904 ∧ y5 < 4611686018427387904 ∧ y6 < 4611686018427387904 ∧ y6 % 128 = p0 + p1 + p2 + p3 + p4 + p5 + p6 + p7 := by
 have g4 : y4 = valB [p0 + p1, p1 + p2, p2 + p3, p3 + p4, p4 + p5, p5 + p6, p6 + p7, p7] := by
  rw [e4, e3, valB_one p0 _ (by omega)]
  simp only [valB]
  omega
 have g5 : y5 = valB [p0 + p1 + p2 + p3, p1 + p2 + p3 + p4, p2 + p3 + p4 + p5, p3 + p4 + p5 + p6, p4 + p5 + p6 + p7, p5 + p6 + p7, p6 + p7, p7] := by
  rw [e5, g4, valB_two _ _ _ (by omega) (by omega)]
  simp only [valB]
  omega
 have g6 : y6 = valB [p0 + p1 + p2 + p3 + (p4 + p5 + p6 + p7), p1 + p2 + p3 + p4 + (p5 + p6 + p7), p2 + p3 + p4 + p5 + (p6 + p7), p3 + p4 + p5 + p6 + p7, p4 + p5 + p6 + p7, p5 + p6 + p7, p6 + p7, p7] := by
  rw [e6, g5, valB_four _ _ _ _ _ (by omega) (by omega) (by omega) (by omega)]
  simp only [valB]
  omega
 refine ⟨?_, ?_, ?_, ?_⟩
 ·rw [g4]
  exact valB_lt8 _ _ _ _ _ _ _ _ (by omega) (by omega) (by omega) (by omega) (by omega) (by omega) (by omega) (by omega)
 ·rw [g5]
  exact valB_lt8 _ _ _ _ _ _ _ _ (by omega) (by omega) (by omega) (by omega) (by omega) (by omega) (by omega) (by omega)
 ·rw [g6]
  exact valB_lt8 _ _ _ _ _ _ _ _ (by omega) (by omega) (by omega) (by omega) (by omega) (by omega) (by omega) (by omega)
 ·rw [g6, valB_low _ _ (by omega)]
  omega
theorem bits_and_n (a b : Nat) (ha : a < 18446744073709551616) (hb : b < 18446744073709551616) : Go.bits .and .u64 (a : Int) (b : Int) = ((a &&& b : Nat) : Int) := by
 have h1 : a % 2 ^ IntKind.u64.bits = a := Nat.mod_eq_of_lt (by show a < 18446744073709551616; omega)
 have h2 : b % 2 ^ IntKind.u64.bits = b := Nat.mod_eq_of_lt (by show b < 18446744073709551616; omega)
 simp only [Go.bits, BitVec.ofInt_natCast, BitVec.toNat_and, BitVec.toNat_ofNat, h1, h2]
 have h3 : a &&& b ≤ a := Nat.and_le_left
 exact u64_in (by omega) (by omega)
theorem bits_or_n (a b : Nat) (ha : a < 18446744073709551616) (hb : b < 18446744073709551616) : Go.bits .or .u64 (a : Int) (b : Int) = ((a ||| b : Nat) : Int) := by
 have h1 : a % 2 ^ IntKind.u64.bits = a := Nat.mod_eq_of_lt (by show a < 18446744073709551616; omega)
 have h2 : b % 2 ^ IntKind.u64.bits = b := Nat.mod_eq_of_lt (by show b < 18446744073709551616; omega)
 simp only [Go.bits, BitVec.ofInt_natCast, BitVec.toNat_or, BitVec.toNat_ofNat, h1, h2]
 have h3 : a ||| b < 2 ^ 64 := Nat.or_lt_two_pow (by show a < 18446744073709551616; omega) (by show b < 18446744073709551616; omega)
 exact u64_in (by omega) (by omega)
theorem bits_and_i (a b : Nat) (ha : a < 4611686018427387904) (hb : b < 4611686018427387904) : Go.bits .and .i64 (a : Int) (b : Int) = ((a &&& b : Nat) : Int) := by
 have h1 : a % 2 ^ IntKind.i64.bits = a := Nat.mod_eq_of_lt (by show a < 18446744073709551616; omega)
 have h2 : b % 2 ^ IntKind.i64.bits = b := Nat.mod_eq_of_lt (by show b < 18446744073709551616; omega)
 simp only [Go.bits, BitVec.ofInt_natCast, BitVec.toNat_and, BitVec.toNat_ofNat, h1, h2]
 have h3 : a &&& b ≤ a := Nat.and_le_left
 simp [IntKind.wrap, IntKind.bits, IntKind.signed]
 omega
theorem ones_is (x : Nat) (hx : x < 18446744073709551616) : bits_OnesCount64.f (x : Int) = some (popN x 64 : Int) := by
 obtain ⟨b0, x1, hb0, hx1, rfl⟩ : ∃ b y, b < 256 ∧ y < 72057594037927936 ∧ x = 256 * y + b := ⟨x % 256, x / 256, by omega, by omega, by omega⟩
 obtain ⟨b1, x2, hb1, hx2, rfl⟩ : ∃ b y, b < 256 ∧ y < 281474976710656 ∧ x1 = 256 * y + b := ⟨x1 % 256, x1 / 256, by omega, by omega, by omega⟩
 obtain ⟨b2, x3, hb2, hx3, rfl⟩ : ∃ b y, b < 256 ∧ y < 1099511627776 ∧ x2 = 256 * y + b := ⟨x2 % 256, x2 / 256, by omega, by omega, by omega⟩
 obtain ⟨b3, x4, hb3, hx4, rfl⟩ : ∃ b y, b < 256 ∧ y < 4294967296 ∧ x3 = 256 * y + b := ⟨x3 % 256, x3 / 256, by omega, by omega, by omega⟩
 obtain ⟨b4, x5, hb4, hx5, rfl⟩ : ∃ b y, b < 256 ∧ y < 16777216 ∧ x4 = 256 * y + b := ⟨x4 % 256, x4 / 256, by omega, by omega, by omega⟩
 obtain ⟨b5, x6, hb5, hx6, rfl⟩ : ∃ b y, b < 256 ∧ y < 65536 ∧ x5 = 256 * y + b := ⟨x5 % 256, x5 / 256, by omega, by omega, by omega⟩
 obtain ⟨b6, b7, hb6, hb7, rfl⟩ : ∃ b y, b < 256 ∧ y < 256 ∧ x6 = 256 * y + b := ⟨x6 % 256, x6 / 256, by omega, by omega, by omega⟩
 rw [popN_hi b0 _ hb0 56, popN_hi b1 _ hb1 48, popN_hi b2 _ hb2 40, popN_hi b3 _ hb3 32, popN_hi b4 _ hb4 24, popN_hi b5 _ hb5 16, popN_hi b6 _ hb6 8]
 obtain ⟨l, hl⟩ : ∃ l, l = [b0, b1, b2, b3, b4, b5, b6, b7] := ⟨_, rfl⟩
 have hv : 256 * (256 * (256 * (256 * (256 * (256 * (256 * b7 + b6) + b5) + b4) + b3) + b2) + b1) + b0 = valB l := by subst hl; simp [valB]
 have hlen : l.length = 8 := by subst hl; rfl
 have hall : ∀ b ∈ l, b < 256 := by subst hl; simp; omega
 rw [hv]
 have hxl : valB l < 18446744073709551616 := by rw [← hv]; omega
 have s1 := step1 l hall
 have s2 := step2 (l.map f1) (by intro b hb; obtain ⟨c, hc, rfl⟩ := List.mem_map.1 hb; exact f1_lt c (hall c hc))
 have s3 := (step3 ((l.map f1).map f2) (by intro b hb; obtain ⟨d, hd, rfl⟩ := List.mem_map.1 hb; obtain ⟨c, hc, rfl⟩ := List.mem_map.1 hd; exact f2_f1 c (hall c hc))).1
 rw [hlen] at s1
 rw [List.length_map, hlen] at s2
 rw [List.length_map, List.length_map, hlen] at s3
 have p3 : ((l.map f1).map f2).map f3 = [popN b0 8, popN b1 8, popN b2 8, popN b3 8, popN b4 8, popN b5 8, popN b6 8, popN b7 8] := by
  subst hl
  simp only [List.map_cons, List.map_nil]
  rw [f_pop b0 hb0, f_pop b1 hb1, f_pop b2 hb2, f_pop b3 hb3, f_pop b4 hb4, f_pop b5 hb5, f_pop b6 hb6, f_pop b7 hb7]
 rw [p3] at s3
 have m1 : repB 85 8 = 6148914691236517205 := by decide
 have m2 : repB 51 8 = 3689348814741910323 := by decide
 have m3 : repB 15 8 = 1085102592571150095 := by decide
 rw [m1] at s1
 rw [m2] at s2
 rw [m3] at s3
 have a1 : valB l &&& 6148914691236517205 ≤ 6148914691236517205 := Nat.and_le_right
 have a2 : (valB l / 2) &&& 6148914691236517205 ≤ 6148914691236517205 := Nat.and_le_right
 have a3 : valB (l.map f1) &&& 3689348814741910323 ≤ 3689348814741910323 := Nat.and_le_right
 have a4 : (valB (l.map f1) / 4) &&& 3689348814741910323 ≤ 3689348814741910323 := Nat.and_le_right
 generalize valB l = v0 at *
 generalize valB (l.map f1) = v1 at *
 generalize valB ((l.map f1).map f2) = v2 at *
 clear hv hall hlen p3 hl
 have c1 : (6148914691236517205 : Int) = ((6148914691236517205 : Nat) : Int) := rfl
 have c2 : (3689348814741910323 : Int) = ((3689348814741910323 : Nat) : Int) := rfl
 have c3 : (1085102592571150095 : Int) = ((1085102592571150095 : Nat) : Int) := rfl
 have e1 : IntKind.u64.wrap (Go.bits .and .u64 ((v0 : Int) / 2) 6148914691236517205 + Go.bits .and .u64 (v0 : Int) 6148914691236517205) = (v1 : Int) := by
  rw [c1, show (v0 : Int) / 2 = ((v0 / 2 : Nat) : Int) by omega, bits_and_n _ _ (by omega) (by omega), bits_and_n _ _ (by omega) (by omega), u64_in (by omega) (by omega)]
  omega
 have e2 : IntKind.u64.wrap (Go.bits .and .u64 ((v1 : Int) / 4) 3689348814741910323 + Go.bits .and .u64 (v1 : Int) 3689348814741910323) = (v2 : Int) := by
  rw [c2, show (v1 : Int) / 4 = ((v1 / 4 : Nat) : Int) by omega, bits_and_n _ _ (by omega) (by omega), bits_and_n _ _ (by omega) (by omega), u64_in (by omega) (by omega)]
  omega
 have q0 := popN_le b0 8
 have q1 := popN_le b1 8
 have q2 := popN_le b2 8
 have q3 := popN_le b3 8
 have q4 := popN_le b4 8
 have q5 := popN_le b5 8
 have q6 := popN_le b6 8
 have q7 := popN_le b7 8
 generalize popN b0 8 = n0 at *
 generalize popN b1 8 = n1 at *
 generalize popN b2 8 = n2 at *
 generalize popN b3 8 = n3 at *
 generalize popN b4 8 = n4 at *
 generalize popN b5 8 = n5 at *
 generalize popN b6 8 = n6 at *
 generalize popN b7 8 = n7 at *
 obtain ⟨v3, h3⟩ : ∃ v3, v3 = valB [n0, n1, n2, n3, n4, n5, n6, n7] := ⟨_, rfl⟩
 obtain ⟨v4, h4⟩ : ∃ v4, v4 = v3 + v3 / 256 := ⟨_, rfl⟩
 obtain ⟨v5, h5⟩ : ∃ v5, v5 = v4 + v4 / 65536 := ⟨_, rfl⟩
 obtain ⟨v6, h6⟩ : ∃ v6, v6 = v5 + v5 / 4294967296 := ⟨_, rfl⟩
 obtain ⟨r4, r5, r6, r7⟩ := last8 n0 n1 n2 n3 n4 n5 n6 n7 q0 q1 q2 q3 q4 q5 q6 q7 v3 v4 v5 v6 h3 h4 h5 h6
 rw [← h3] at s3
 have b2' : v2 < 7378697629483820647 := by omega
 have e3 : Go.bits .and .u64 (IntKind.u64.wrap ((v2 : Int) / 16 + (v2 : Int))) 1085102592571150095 = (v3 : Int) := by
  rw [c3, show (v2 : Int) / 16 + (v2 : Int) = ((v2 / 16 + v2 : Nat) : Int) by omega, u64_in (by omega) (by omega), bits_and_n _ _ (by omega) (by omega), s3]
 have b3' : v3 ≤ 1085102592571150095 := by rw [← s3]; exact Nat.and_le_right
 have e4 : IntKind.u64.wrap ((v3 : Int) + (v3 : Int) / 256) = (v4 : Int) := by rw [u64_in (by omega) (by omega)]; omega
 have e5 : IntKind.u64.wrap ((v4 : Int) + (v4 : Int) / 65536) = (v5 : Int) := by rw [u64_in (by omega) (by omega)]; omega
 have e6 : IntKind.u64.wrap ((v5 : Int) + (v5 : Int) / 4294967296) = (v6 : Int) := by rw [u64_in (by omega) (by omega)]; omega
 unfold bits_OnesCount64.f
 rw [e1, e2, e3, e4, e5, e6, w64 (by omega) (by omega), show (127 : Int) = ((127 : Nat) : Int) from rfl, bits_and_i _ _ r6 (by omega), show v6 &&& 127 = v6 % 128 from Nat.and_two_pow_sub_one_eq_mod v6 7, r7]
 congr 1
 omega

def mkb (h : Nat) : Nat → Nat
 | 0 => 0
 | p + 1 => mkb h p ||| 2 ^ ((h / 64 ^ p) % 64)
theorem pow_lt64 (j : Nat) (h : j < 64) : 2 ^ j < 18446744073709551616 := by
 have : 2 ^ j < 2 ^ 64 := Nat.pow_lt_pow_right (by decide) h
 omega
theorem mkb_lt (h : Nat) : ∀ p, mkb h p < 18446744073709551616
 | 0 => by
  show (0 : Nat) < 18446744073709551616
  decide
 | p + 1 => by
  have h1 := mkb_lt h p
  have h2 := pow_lt64 ((h / 64 ^ p) % 64) (by omega)
  have h3 : mkb h p ||| 2 ^ ((h / 64 ^ p) % 64) < 2 ^ 64 := Nat.or_lt_two_pow (by omega) (by omega)
  simp only [mkb]
  omega
theorem mkb_test (h b : Nat) : ∀ p, (mkb h p).testBit b = true ↔ ∃ j, j < p ∧ (h / 64 ^ j) % 64 = b
 | 0 => by simp [mkb]
 | p + 1 => by
  simp only [mkb]
  rw [Nat.testBit_or, Bool.or_eq_true, mkb_test h b p, Nat.testBit_two_pow]
  constructor
  ·rintro (⟨j, hj, e⟩ | e)
   ·exact ⟨j, by omega, e⟩
   ·exact ⟨p, by omega, by simpa using e⟩
  ·rintro ⟨j, hj, e⟩
   by_cases c : j = p
   ·subst c
    exact .inr (by simpa using e)
   ·exact .inl ⟨j, by omega, e⟩
theorem shr6 (h i : Nat) (hi : i ≤ 5) : shr .u64 (h : Int) (wrap64 (6 * (i : Int))) = ((h / 64 ^ i : Nat) : Int) := by
 rw [w64 (by omega) (by omega), show 6 * (i : Int) = ((6 * i : Nat) : Int) by omega]
 unfold shr
 rw [Int.toNat_natCast, show min (6 * i) IntKind.u64.bits = 6 * i from Nat.min_eq_left (by show 6 * i ≤ 64; omega)]
 rw [show (64 : Nat) = 2 ^ 6 from rfl, ← Nat.pow_mul, Int.natCast_ediv]
 simp
theorem shl1 (j : Nat) (h : j < 64) : shl .u64 1 (j : Int) = ((2 ^ j : Nat) : Int) := by
 unfold shl
 rw [Int.toNat_natCast, show min j IntKind.u64.bits = j from Nat.min_eq_left (by show j ≤ 64; omega)]
 have e : (1 : Int) * 2 ^ j = ((2 ^ j : Nat) : Int) := by simp
 have := pow_lt64 j h
 rw [e]
 generalize 2 ^ j = q at *
 exact u64_in (by omega) (by omega)
theorem mask_l0 (h p : Nat) (hp : p ≤ 5) (ws : List Int) (pp B : Int) (hB : hash_Bucket.f (h : Int) (ws.length : Int) = some B) (d : Nat) : ∀ k i, p = i + d → d + 1 ≤ k →
  bloom_mask.l0 k (h : Int) (mkb h i : Int) (p : Int) (i : Int) ws pp = some (B, (mkb h p : Int)) := by
 induction d with
 | zero =>
  intro k i hd hk
  obtain ⟨k, rfl⟩ : ∃ m, k = m + 1 := ⟨k - 1, by omega⟩
  simp only [bloom_mask.l0]
  rw [if_neg (by omega), hB, bs, show p = i by omega]
 | succ d ih =>
  intro k i hd hk
  obtain ⟨k, rfl⟩ : ∃ m, k = m + 1 := ⟨k - 1, by omega⟩
  have e := ih k (i + 1) (by omega) (by omega)
  have h1 := mkb_lt h i
  have em : mkb h (i + 1) = mkb h i ||| 2 ^ (h / 64 ^ i % 64) := rfl
  rw [em] at e
  have h2 := pow_lt64 (h / 64 ^ i % 64) (Nat.mod_lt _ (by decide))
  simp only [bloom_mask.l0]
  rw [shr6 h i (by omega)]
  clear em
  generalize h / 64 ^ i = g at *
  have ht : Int.tmod (g : Int) 64 = ((g % 64 : Nat) : Int) := by
   rw [Int.tmod_eq_emod_of_nonneg (by omega)]
   omega
  rw [ht, if_pos (by omega), if_pos (by rw [w64 (by omega) (by omega)]; omega), if_pos (by omega), shl1 _ (by omega), bits_or_n _ _ h1 h2, w64 (n := (i : Int) + 1) (by omega) (by omega), show (i : Int) + 1 = ((i + 1 : Nat) : Int) by omega]
  exact e
theorem mask_is (h p : Nat) (hp : p ≤ 5) (ws : List Int) (B : Int) (hB : hash_Bucket.f (h : Int) (ws.length : Int) = some B) (k : Nat) (hk : 6 ≤ k) : bloom_mask.f k ws (p : Int) (h : Int) = some (B, (mkb h p : Int)) := by
 unfold bloom_mask.f
 exact mask_l0 h p hp ws _ B hB p k 0 (by omega) (by omega)
theorem bucket_is (h n : Nat) (hh : h < 18446744073709551616) (h1 : 1 ≤ n) (h2 : n ≤ 4096) : hash_Bucket.f (h : Int) (n : Int) = some ((h / 4294967296 % n : Nat) : Int) := by
 unfold hash_Bucket.f
 rw [if_neg (by omega), u64_in (n := (n : Int)) (by omega) (by omega), if_neg (by omega)]
 have e : Int.tmod ((h : Int) / 4294967296) (n : Int) = ((h / 4294967296 % n : Nat) : Int) := by
  rw [Int.tmod_eq_emod_of_nonneg (by omega), show (h : Int) / 4294967296 = ((h / 4294967296 : Nat) : Int) by omega, ← Int.natCast_emod]
 have hm : h / 4294967296 % n < n := Nat.mod_lt _ (by omega)
 rw [e, w64 (by omega) (by omega)]
def plc (h w p : Nat) : List Nat := (List.range p).map fun j => 64 * w + h / 64 ^ j % 64
def ints (l : List Nat) : List Int := l.map fun x : Nat => (x : Int)
theorem plc_succ (h w p : Nat) : ints (plc h w (p + 1)) = ints (plc h w p) ++ [((64 * w + h / 64 ^ p % 64 : Nat) : Int)] := by
 simp [ints, plc, List.range_succ]
theorem places_l0 (h w p : Nat) (hw : w < 4096) (hp : p ≤ 5) (hh : h < 18446744073709551616) (L : List Bool) (d : Nat) : ∀ k i, p = i + d → d + 1 ≤ k →
  trommelref18_places.l0 k ((h / 64 ^ i : Nat) : Int) (ints (plc h w i)) (w : Int) (i : Int) L (p : Int) = some (ints (plc h w p)) := by
 induction d with
 | zero =>
  intro k i hd hk
  obtain ⟨k, rfl⟩ : ∃ m, k = m + 1 := ⟨k - 1, by omega⟩
  simp only [trommelref18_places.l0]
  rw [if_neg (by omega), show p = i by omega]
 | succ d ih =>
  intro k i hd hk
  obtain ⟨k, rfl⟩ : ∃ m, k = m + 1 := ⟨k - 1, by omega⟩
  have e := ih k (i + 1) (by omega) (by omega)
  have hle : h / 64 ^ i ≤ h := Nat.div_le_self _ _
  have hdd : h / 64 ^ (i + 1) = h / 64 ^ i / 64 := by rw [Nat.pow_succ, Nat.div_div_eq_div_mul]
  have hlen : (ints (plc h w i)).length = i := by simp [ints, plc]
  rw [plc_succ, hdd] at e
  simp only [trommelref18_places.l0]
  generalize h / 64 ^ i = g at *
  have ht : Int.tmod (g : Int) 64 = ((g % 64 : Nat) : Int) := by
   rw [Int.tmod_eq_emod_of_nonneg (by omega)]
   omega
  rw [ht, Int.tdiv_eq_ediv_of_nonneg (by omega), u64_in (by omega) (by omega), if_pos (by omega), if_pos (by rw [hlen]; omega)]
  rw [w64 (n := 64 * (w : Int)) (by omega) (by omega), w64 (n := ((g % 64 : Nat) : Int)) (by omega) (by omega), w64 (n := 64 * (w : Int) + ((g % 64 : Nat) : Int)) (by omega) (by omega), w64 (n := (i : Int) + 1) (by omega) (by omega)]
  rw [show (i : Int) + 1 = ((i + 1 : Nat) : Int) by omega, show (g : Int) / 64 = ((g / 64 : Nat) : Int) by omega, show 64 * (w : Int) + ((g % 64 : Nat) : Int) = ((64 * w + g % 64 : Nat) : Int) by omega]
  exact e
theorem rbucket_is (h n : Nat) (hh : h < 18446744073709551616) (h1 : 1 ≤ n) (h2 : n ≤ 4096) : trommelref17_Bucket.f (h : Int) (n : Int) = some ((h / 4294967296 % n : Nat) : Int) := by
 unfold trommelref17_Bucket.f
 rw [if_neg (by omega), if_neg (by omega), Int.tdiv_eq_ediv_of_nonneg (by omega), u64_in (by omega) (by omega), w64 (by omega) (by omega)]
 have e : Int.tmod ((h : Int) / 4294967296) (n : Int) = ((h / 4294967296 % n : Nat) : Int) := by
  rw [Int.tmod_eq_emod_of_nonneg (by omega), show (h : Int) / 4294967296 = ((h / 4294967296 : Nat) : Int) by omega, ← Int.natCast_emod]
 rw [e]
theorem places_is (h n p : Nat) (hp : p ≤ 5) (hh : h < 18446744073709551616) (h1 : 1 ≤ n) (h2 : n ≤ 4096) (L : List Bool) (hL : L.length = 64 * n) (k : Nat) (hk : 6 ≤ k) :
  trommelref18_places.f k L (p : Int) (h : Int) = some (ints (plc h (h / 4294967296 % n) p)) := by
 unfold trommelref18_places.f
 have hm : h / 4294967296 % n < n := Nat.mod_lt _ (by omega)
 rw [hL, show ((64 * n : Nat) : Int) / 64 = (n : Int) by omega, w64 (by omega) (by omega), rbucket_is h n hh h1 h2, bs]
 have e := places_l0 h (h / 4294967296 % n) p (by omega) hp hh L p k 0 (by omega) (by omega)
 simpa [plc, ints] using e
def gb (L : List Bool) (q : Nat) : Bool := L.getD q false
theorem gb_set (L : List Bool) (a q : Nat) (ha : a < L.length) : gb (L.set a true) q = (gb L q || decide (q = a)) := by
 unfold gb
 rw [List.getD_eq_getElem?_getD, List.getD_eq_getElem?_getD, List.getElem?_set]
 by_cases c : a = q
 ·subst c
  simp [ha]
 ·rw [if_neg c, decide_eq_false (fun e => c e.symm), Bool.or_false]
def setA (L : List Bool) (P : List Nat) : List Bool := P.foldl (fun l q => l.set q true) L
theorem setA_len (P : List Nat) : ∀ L : List Bool, (setA L P).length = L.length := by
 induction P with
 | nil => exact fun L => rfl
 | cons a P ih =>
  intro L
  have := ih (L.set a true)
  rw [List.length_set] at this
  exact this
theorem gb_setA (P : List Nat) (q : Nat) : ∀ L : List Bool, (∀ a ∈ P, a < L.length) → gb (setA L P) q = (gb L q || decide (q ∈ P)) := by
 induction P with
 | nil => intro L _; simp [setA]
 | cons a P ih =>
  intro L h
  have e := ih (L.set a true) (fun b hb => by rw [List.length_set]; exact h b (List.mem_cons_of_mem _ hb))
  show gb (setA (L.set a true) P) q = _
  rw [e, gb_set L a q (h a List.mem_cons_self), Bool.or_assoc]
  congr 1
  by_cases c : q = a
  ·simp [c]
  ·simp [c]
theorem radd_l0 (P : List Nat) (L0 : List Bool) (pp : Int) (hP : P.length ≤ 100) (N : Nat) (hN : ∀ a ∈ P, a < N) (d : Nat) : ∀ (k i : Nat) (L : List Bool), L.length = N → P.length = i + d → d + 1 ≤ k →
  trommelref18_Add.l0 k L (ints P) (i : Int) L0 pp = some (setA L (P.drop i), pp) := by
 have hlen : (ints P).length = P.length := by simp [ints]
 induction d with
 | zero =>
  intro k i L hL hd hk
  obtain ⟨k, rfl⟩ : ∃ m, k = m + 1 := ⟨k - 1, by omega⟩
  simp only [trommelref18_Add.l0]
  rw [if_neg (by omega), List.drop_eq_nil_of_le (by omega)]
  rfl
 | succ d ih =>
  intro k i L hL hd hk
  obtain ⟨k, rfl⟩ : ∃ m, k = m + 1 := ⟨k - 1, by omega⟩
  have hi : i < P.length := by omega
  have hq := hN P[i] (List.getElem_mem hi)
  have er : rd (ints P) (i : Int) = (P[i] : Int) := by
   unfold rd ints
   rw [Int.toNat_natCast, List.getD_eq_getElem?_getD, List.getElem?_map, List.getElem?_eq_getElem hi]
   rfl
  have e := ih k (i + 1) (L.set P[i] true) (by rw [List.length_set]; exact hL) (by omega) (by omega)
  simp only [trommelref18_Add.l0]
  rw [er, if_pos (by omega), if_pos (by omega), if_pos (by omega), if_pos (by omega), Int.toNat_natCast, w64 (by omega) (by omega), show (i : Int) + 1 = ((i + 1 : Nat) : Int) by omega, e, List.drop_eq_getElem_cons hi]
  rfl
theorem plc_lt (h w p n : Nat) (hw : w < n) : ∀ a ∈ plc h w p, a < 64 * n := by
 intro a ha
 obtain ⟨j, _, rfl⟩ := List.mem_map.1 ha
 have : h / 64 ^ j % 64 < 64 := Nat.mod_lt _ (by decide)
 omega
theorem mem_plc (h w p i v : Nat) (hi : i < 64) : (64 * v + i ∈ plc h w p) ↔ (v = w ∧ ∃ j, j < p ∧ h / 64 ^ j % 64 = i) := by
 constructor
 ·intro hm
  obtain ⟨j, hj, e⟩ := List.mem_map.1 hm
  have : h / 64 ^ j % 64 < 64 := Nat.mod_lt _ (by decide)
  exact ⟨by omega, j, List.mem_range.1 hj, by omega⟩
 ·rintro ⟨rfl, j, hj, e⟩
  exact List.mem_map.2 ⟨j, List.mem_range.2 hj, by omega⟩
theorem radd_is (h n p : Nat) (hp : p ≤ 5) (hh : h < 18446744073709551616) (h1 : 1 ≤ n) (h2 : n ≤ 4096) (L : List Bool) (hL : L.length = 64 * n) (k : Nat) (hk : 8 ≤ k) :
  trommelref18_Add.f k L (p : Int) (h : Int) = some (setA L (plc h (h / 4294967296 % n) p), (p : Int)) := by
 unfold trommelref18_Add.f
 have hm : h / 4294967296 % n < n := Nat.mod_lt _ (by omega)
 have hpl : (plc h (h / 4294967296 % n) p).length = p := by simp [plc]
 rw [bs, if_pos (by rw [List.length_nil]; omega), places_is h n p hp hh h1 h2 L hL k (by omega), bs, List.nil_append]
 have e := radd_l0 (plc h (h / 4294967296 % n) p) L (p : Int) (by omega) (64 * n) (plc_lt _ _ _ _ hm) p k 0 L hL (by omega) (by omega)
 simpa using e
theorem rhas_l0 (P : List Nat) (pp : Int) (hP : P.length ≤ 100) (L : List Bool) (hN : ∀ a ∈ P, a < L.length) (d : Nat) : ∀ (k i : Nat), P.length = i + d → d + 1 ≤ k →
  trommelref18_Has.l0 k (ints P) (i : Int) L pp = some ((P.drop i).all (gb L)) := by
 have hlen : (ints P).length = P.length := by simp [ints]
 induction d with
 | zero =>
  intro k i hd hk
  obtain ⟨k, rfl⟩ : ∃ m, k = m + 1 := ⟨k - 1, by omega⟩
  simp only [trommelref18_Has.l0]
  rw [if_neg (by omega), List.drop_eq_nil_of_le (by omega)]
  rfl
 | succ d ih =>
  intro k i hd hk
  obtain ⟨k, rfl⟩ : ∃ m, k = m + 1 := ⟨k - 1, by omega⟩
  have hi : i < P.length := by omega
  have hq := hN P[i] (List.getElem_mem hi)
  have er : rd (ints P) (i : Int) = (P[i] : Int) := by
   unfold rd ints
   rw [Int.toNat_natCast, List.getD_eq_getElem?_getD, List.getElem?_map, List.getElem?_eq_getElem hi]
   rfl
  have eb : rdOf false L (P[i] : Int) = gb L P[i] := by
   unfold rdOf gb
   rw [Int.toNat_natCast]
  have e := ih k (i + 1) (by omega) (by omega)
  simp only [trommelref18_Has.l0]
  rw [er, eb, if_pos (by omega), if_pos (by omega), if_pos (by omega), if_pos (by omega), w64 (by omega) (by omega), show (i : Int) + 1 = ((i + 1 : Nat) : Int) by omega, e, List.drop_eq_getElem_cons hi, List.all_cons]
  cases gb L P[i]
  ·rfl
  ·rfl
theorem rhas_is (h n p : Nat) (hp : p ≤ 5) (hh : h < 18446744073709551616) (h1 : 1 ≤ n) (h2 : n ≤ 4096) (L : List Bool) (hL : L.length = 64 * n) (k : Nat) (hk : 8 ≤ k) :
  trommelref18_Has.f k L (p : Int) (h : Int) = some ((plc h (h / 4294967296 % n) p).all (gb L)) := by
 unfold trommelref18_Has.f
 have hm : h / 4294967296 % n < n := Nat.mod_lt _ (by omega)
 have hpl : (plc h (h / 4294967296 % n) p).length = p := by simp [plc]
 rw [places_is h n p hp hh h1 h2 L hL k (by omega), bs]
 have e := rhas_l0 (plc h (h / 4294967296 % n) p) (p : Int) (by omega) L (by rw [hL]; exact plc_lt _ _ _ _ hm) p k 0 (by omega) (by omega)
 simpa using e
/-- The bits are those of the words. -/
structure Rel (n : Nat) (L : List Bool) (ws : List Int) : Prop where
 ll : L.length = 64 * n
 wl : ws.length = n
 wr : ∀ w, w < n → ∃ x : Nat, x < 18446744073709551616 ∧ ws[w]? = some (x : Int) ∧ ∀ i, i < 64 → gb L (64 * w + i) = x.testBit i
theorem rel_add {n : Nat} {L : List Bool} {ws : List Int} (R : Rel n L ws) (h p B : Nat) (hB : B < n) : ∃ x : Nat, x < 18446744073709551616 ∧ rd ws (B : Int) = (x : Int) ∧ Rel n (setA L (plc h B p)) (ws.set B ((x ||| mkb h p : Nat) : Int)) ∧ ((plc h B p).all (gb L) = decide (x &&& mkb h p = mkb h p)) := by
 obtain ⟨x, hx, hw, hb⟩ := R.wr B hB
 have hr : rd ws (B : Int) = (x : Int) := by
  unfold rd
  rw [Int.toNat_natCast, List.getD_eq_getElem?_getD, hw]
  rfl
 refine ⟨x, hx, hr, ⟨by rw [setA_len]; exact R.ll, by rw [List.length_set]; exact R.wl, ?_⟩, ?_⟩
 ·intro w hwn
  have hlt : ∀ a ∈ plc h B p, a < L.length := by rw [R.ll]; exact plc_lt _ _ _ _ hB
  by_cases c : w = B
  ·subst c
   have ho : x ||| mkb h p < 2 ^ 64 := Nat.or_lt_two_pow (by omega) (by have := mkb_lt h p; omega)
   refine ⟨x ||| mkb h p, by omega, ?_, ?_⟩
   ·rw [List.getElem?_set_self (by rw [R.wl]; exact hB)]
   ·intro i hi
    rw [gb_setA _ _ _ hlt, hb i hi, Nat.testBit_or]
    congr 1
    by_cases t : (mkb h p).testBit i = true
    ·rw [t, decide_eq_true ((mem_plc h w p i w hi).2 ⟨rfl, (mkb_test h i p).1 t⟩)]
    ·rw [Bool.eq_false_iff.2 t, decide_eq_false]
     exact fun m => t ((mkb_test h i p).2 ((mem_plc h w p i w hi).1 m).2)
  ·obtain ⟨y, hy, hyw, hyb⟩ := R.wr w hwn
   refine ⟨y, hy, ?_, ?_⟩
   ·rw [List.getElem?_set_ne (fun e => c e.symm)]
    exact hyw
   ·intro i hi
    rw [gb_setA _ _ _ hlt, hyb i hi, decide_eq_false (fun m => c ((mem_plc h B p i w hi).1 m).1), Bool.or_false]
 ·rw [Bool.eq_iff_iff, List.all_eq_true, decide_eq_true_iff]
  constructor
  ·intro hall
   apply Nat.eq_of_testBit_eq
   intro i
   rw [Nat.testBit_and]
   by_cases t : (mkb h p).testBit i = true
   ·obtain ⟨j, hj, e⟩ := (mkb_test h i p).1 t
    have hi : i < 64 := by rw [← e]; exact Nat.mod_lt _ (by decide)
    have := hall _ ((mem_plc h B p i B hi).2 ⟨rfl, j, hj, e⟩)
    rw [hb i hi] at this
    rw [this, t]
    rfl
   ·rw [Bool.eq_false_iff.2 t, Bool.and_false]
  ·intro e a ha
   obtain ⟨j, hj, rfl⟩ := List.mem_map.1 ha
   have hi : h / 64 ^ j % 64 < 64 := Nat.mod_lt _ (by decide)
   have t : (mkb h p).testBit (h / 64 ^ j % 64) = true := (mkb_test h _ p).2 ⟨j, List.mem_range.1 hj, rfl⟩
   rw [hb _ hi]
   rw [← e, Nat.testBit_and, Bool.and_eq_true] at t
   exact t.1
theorem rel_new (n : Nat) : Rel n (List.replicate (64 * n) false) (List.replicate n 0) := by
 refine ⟨by simp, by simp, ?_⟩
 intro w hw
 refine ⟨0, by decide, ?_, ?_⟩
 ·rw [List.getElem?_replicate, if_pos hw]
  rfl
 ·intro i hi
  unfold gb
  rw [List.getD_eq_getElem?_getD, List.getElem?_replicate]
  split <;> simp
def cnt (L : List Bool) : Nat → Nat
 | 0 => 0
 | m + 1 => cnt L m + (if gb L m = true then 1 else 0)
theorem cnt_word (L : List Bool) (b x : Nat) : ∀ m, (∀ i, i < m → gb L (b + i) = x.testBit i) → cnt L (b + m) = cnt L b + popN x m
 | 0, _ => rfl
 | m + 1, h => by
  rw [← Nat.add_assoc]
  simp only [cnt, popN]
  rw [cnt_word L b x m (fun i hi => h i (by omega)), h m (by omega)]
  omega
theorem cnt_le (L : List Bool) : ∀ m, cnt L m ≤ m
 | 0 => Nat.le_refl _
 | m + 1 => by
  simp only [cnt]
  have := cnt_le L m
  split <;> omega
theorem bones_l0 {n : Nat} {L : List Bool} {ws : List Int} (R : Rel n L ws) (hn : n ≤ 4096) (d : Nat) : ∀ (k i : Nat), n = i + d → d + 1 ≤ k → bloom_Ones.l0 k (cnt L (64 * i) : Int) ws (n : Int) (i : Int) = some (cnt L (64 * n) : Int) := by
 induction d with
 | zero =>
  intro k i hd hk
  obtain ⟨k, rfl⟩ : ∃ m, k = m + 1 := ⟨k - 1, by omega⟩
  simp only [bloom_Ones.l0]
  rw [if_neg (by omega), show n = i by omega]
 | succ d ih =>
  intro k i hd hk
  obtain ⟨k, rfl⟩ : ∃ m, k = m + 1 := ⟨k - 1, by omega⟩
  obtain ⟨x, hx, hw, hb⟩ := R.wr i (by omega)
  have hr : rd ws (i : Int) = (x : Int) := by
   unfold rd
   rw [Int.toNat_natCast, List.getD_eq_getElem?_getD, hw]
   rfl
  have e := ih k (i + 1) (by omega) (by omega)
  have c1 := cnt_word L (64 * i) x 64 hb
  have c2 := cnt_le L (64 * i)
  have c3 := popN_le x 64
  rw [show 64 * (i + 1) = 64 * i + 64 by omega, c1] at e
  simp only [bloom_Ones.l0]
  rw [if_pos (by omega), if_pos (by omega), if_pos (by rw [R.wl]; omega), hr, ones_is x hx, bs, w64 (by omega) (by omega), w64 (by omega) (by omega), show (i : Int) + 1 = ((i + 1 : Nat) : Int) by omega, show (cnt L (64 * i) : Int) + (popN x 64 : Int) = ((cnt L (64 * i) + popN x 64 : Nat) : Int) by omega]
  exact e
theorem bones_is {n : Nat} {L : List Bool} {ws : List Int} (R : Rel n L ws) (hn : n ≤ 4096) (a : Int) (k : Nat) (hk : n + 1 ≤ k) : bloom_Ones.f k ws a = some (cnt L L.length : Int) := by
 unfold bloom_Ones.f
 rw [R.wl, R.ll]
 exact bones_l0 R hn n k 0 (by omega) (by omega)
theorem badd_l0 (p : Nat) (hp : p ≤ 5) (n : Nat) (h1 : 1 ≤ n) (h2 : n ≤ 4096) (H : List Nat) (hH : ∀ h ∈ H, h < 18446744073709551616) (hHl : H.length ≤ 100) (d : Nat) : ∀ (k i : Nat) (L : List Bool) (ws : List Int), Rel n L ws → H.length = i + d → d + 7 ≤ k →
  ∃ ws2, bloom_Add.l0 k (ints H) (H.length : Int) (i : Int) ws (p : Int) = some (ws2, (p : Int)) ∧ Rel n ((H.drop i).foldl (fun l h => setA l (plc h (h / 4294967296 % n) p)) L) ws2 := by
 have hlen : (ints H).length = H.length := by simp [ints]
 induction d with
 | zero =>
  intro k i L ws R hd hk
  obtain ⟨k, rfl⟩ : ∃ m, k = m + 1 := ⟨k - 1, by omega⟩
  refine ⟨ws, ?_, ?_⟩
  ·simp only [bloom_Add.l0]
   rw [if_neg (by omega)]
  ·rw [List.drop_eq_nil_of_le (by omega)]
   exact R
 | succ d ih =>
  intro k i L ws R hd hk
  obtain ⟨k, rfl⟩ : ∃ m, k = m + 1 := ⟨k - 1, by omega⟩
  have hi : i < H.length := by omega
  have hq := hH H[i] (List.getElem_mem hi)
  have er : rd (ints H) (i : Int) = (H[i] : Int) := by
   unfold rd ints
   rw [Int.toNat_natCast, List.getD_eq_getElem?_getD, List.getElem?_map, List.getElem?_eq_getElem hi]
   rfl
  have hm : H[i] / 4294967296 % n < n := Nat.mod_lt _ (by omega)
  obtain ⟨x, hx, hr, R2, _⟩ := rel_add R H[i] p (H[i] / 4294967296 % n) hm
  obtain ⟨ws2, e, R3⟩ := ih k (i + 1) _ _ R2 (by omega) (by omega)
  refine ⟨ws2, ?_, ?_⟩
  ·simp only [bloom_Add.l0]
   have hb : hash_Bucket.f (H[i] : Int) (ws.length : Int) = some ((H[i] / 4294967296 % n : Nat) : Int) := by
    rw [R.wl]
    exact bucket_is H[i] n hq h1 h2
   rw [if_pos (by omega), if_pos (by omega), if_pos (by omega), er, mask_is H[i] p hp ws _ hb k (by omega), bs]
   show (if (0 : Int) ≤ ((H[i] / 4294967296 % n : Nat) : Int) then (if ((H[i] / 4294967296 % n : Nat) : Int) < (ws.length : Int) then _ else _) else _) = _
   rw [if_pos (by omega), if_pos (by rw [R.wl]; omega)]
   show bloom_Add.l0 k (ints H) (H.length : Int) _ (ws.set (((H[i] / 4294967296 % n : Nat) : Int)).toNat (Go.bits .or .u64 (rd ws ((H[i] / 4294967296 % n : Nat) : Int)) (mkb H[i] p : Int))) (p : Int) = _
   rw [hr, bits_or_n _ _ hx (mkb_lt _ _), Int.toNat_natCast, w64 (by omega) (by omega), show (i : Int) + 1 = ((i + 1 : Nat) : Int) by omega]
   exact e
  ·rw [List.drop_eq_getElem_cons hi, List.foldl_cons]
   exact R3
theorem badd_is (p : Nat) (hp : p ≤ 5) (n : Nat) (h1 : 1 ≤ n) (h2 : n ≤ 4096) (H : List Nat) (hH : ∀ h ∈ H, h < 18446744073709551616) (hHl : H.length ≤ 100) (L : List Bool) (ws : List Int) (R : Rel n L ws) (k : Nat) (hk : H.length + 7 ≤ k) :
  ∃ ws2, bloom_Add.f k ws (p : Int) (ints H) = some (ws2, (p : Int)) ∧ Rel n (H.foldl (fun l h => setA l (plc h (h / 4294967296 % n) p)) L) ws2 := by
 have hlen : (ints H).length = H.length := by simp [ints]
 obtain ⟨ws2, e, R2⟩ := badd_l0 p hp n h1 h2 H hH hHl H.length k 0 L ws R (by omega) (by omega)
 refine ⟨ws2, ?_, by simpa using R2⟩
 unfold bloom_Add.f slices_Clone_uint64_uint64.f
 rw [R.wl, if_neg (by omega), bs, if_pos (by rw [List.length_nil]; omega), bs, List.nil_append, hlen]
 exact e
theorem bhas_is (p : Nat) (hp : p ≤ 5) (n : Nat) (h1 : 1 ≤ n) (h2 : n ≤ 4096) (h : Nat) (hh : h < 18446744073709551616) (L : List Bool) (ws : List Int) (R : Rel n L ws) (k : Nat) (hk : 8 ≤ k) :
  bloom_Has.f k ws (p : Int) (h : Int) = some ((plc h (h / 4294967296 % n) p).all (gb L)) := by
 have hm : h / 4294967296 % n < n := Nat.mod_lt _ (by omega)
 obtain ⟨x, hx, hr, _, e⟩ := rel_add R h p (h / 4294967296 % n) hm
 have hb : hash_Bucket.f (h : Int) (ws.length : Int) = some ((h / 4294967296 % n : Nat) : Int) := by
  rw [R.wl]
  exact bucket_is h n hh h1 h2
 unfold bloom_Has.f
 rw [if_neg (by rw [R.wl]; omega), mask_is h p hp ws _ hb k (by omega), bs]
 show (if (0 : Int) ≤ ((h / 4294967296 % n : Nat) : Int) then (if ((h / 4294967296 % n : Nat) : Int) < (ws.length : Int) then some (Go.bits .and .u64 (rd ws ((h / 4294967296 % n : Nat) : Int)) (mkb h p : Int) == (mkb h p : Int)) else _) else _) = _
 rw [if_pos (by omega), if_pos (by rw [R.wl]; omega), hr, bits_and_n _ _ hx (mkb_lt _ _), e]
 congr 1
 rw [Bool.eq_iff_iff, beq_iff_eq, decide_eq_true_iff]
 omega



def sg (n m : Int) : Int := if n < m then -1 else if n > m then 1 else 0
def lexI : List UInt8 → List UInt8 → Int
 | [], [] => 0
 | [], _ :: _ => -1
 | _ :: _, [] => 1
 | a :: x, b :: y => if a = b then lexI x y else if a < b then -1 else 1
def ord (a b : S23) : Int := if a.f0 = b.f0 then (if a.f1 = b.f1 then lexI a.f2.data.toList b.f2.data.toList else sg a.f1 b.f1) else sg a.f0 b.f0
theorem sg_anti (a b : Int) : sg a b = - sg b a := by unfold sg; split <;> split <;> (try split) <;> omega
theorem sg_zero (a b : Int) : sg a b = 0 ↔ a = b := by unfold sg; split <;> (try split) <;> omega
theorem u8_cases (a b : UInt8) : a = b ∨ (a ≠ b ∧ a < b ∧ ¬ b < a) ∨ (a ≠ b ∧ b < a ∧ ¬ a < b) := by
 by_cases h : a = b
 ·exact .inl h
 ·have hn : a.toNat ≠ b.toNat := fun e => h (UInt8.toNat_inj.1 e)
  rcases Nat.lt_or_gt_of_ne hn with e | e
  ·exact .inr (.inl ⟨h, UInt8.lt_iff_toNat_lt.2 e, fun e2 => by have := UInt8.lt_iff_toNat_lt.1 e2; omega⟩)
  ·exact .inr (.inr ⟨h, UInt8.lt_iff_toNat_lt.2 e, fun e2 => by have := UInt8.lt_iff_toNat_lt.1 e2; omega⟩)
theorem lexI_anti : ∀ x y : List UInt8, lexI x y = - lexI y x
 | [], [] => rfl
 | [], _ :: _ => rfl
 | _ :: _, [] => rfl
 | a :: x, b :: y => by
  simp only [lexI]
  rcases u8_cases a b with h | ⟨h, h1, h2⟩ | ⟨h, h1, h2⟩
  ·subst h
   rw [if_pos rfl, if_pos rfl]
   exact lexI_anti x y
  ·rw [if_neg h, if_pos h1, if_neg (fun e => h e.symm), if_neg h2]
  ·rw [if_neg h, if_neg h2, if_neg (fun e => h e.symm), if_pos h1]
   rfl
theorem lexI_less : ∀ x y : List UInt8, lexI x y = if Op.bytesLess x y = true then -1 else if x = y then 0 else 1
 | [], [] => rfl
 | [], _ :: _ => rfl
 | _ :: _, [] => by simp [lexI, Op.bytesLess]
 | a :: x, b :: y => by
  simp only [lexI, Op.bytesLess]
  have ih := lexI_less x y
  rcases u8_cases a b with h | ⟨h, h1, h2⟩ | ⟨h, h1, h2⟩
  ·subst h
   rw [if_pos rfl, ih]
   simp
  ·rw [if_neg h, if_pos h1]
   simp [h1]
  ·rw [if_neg h, if_neg h2]
   simp [h, h2]
theorem ord_anti (a b : S23) : ord a b = - ord b a := by
 unfold ord
 by_cases h : a.f0 = b.f0
 ·rw [if_pos h, if_pos h.symm]
  by_cases h1 : a.f1 = b.f1
  ·rw [if_pos h1, if_pos h1.symm]
   exact lexI_anti _ _
  ·rw [if_neg h1, if_neg (fun e => h1 e.symm)]
   exact sg_anti _ _
 ·rw [if_neg h, if_neg (fun e => h e.symm)]
  exact sg_anti _ _
theorem cmp_int_is (a b : Int) : cmp_Compare_int.f a b = some (sg a b) := by
 unfold cmp_Compare_int.f cmp_isNaN_int.f sg
 rw [bs, bs]
 have e : ∀ x : Int, (x != x) = false := fun x => by simp
 rw [e, e, if_neg (by simp), if_neg (by simp)]
 split
 ·rfl
 ·split <;> rfl
theorem cmp_str_is (a b : ByteArray) : cmp_Compare_string.f a b = some (lexI a.data.toList b.data.toList) := by
 unfold cmp_Compare_string.f cmp_isNaN_string.f
 rw [bs, bs]
 have e : ∀ x : List UInt8, (x != x) = false := fun x => by simp
 rw [e, e, if_neg (by simp), if_neg (by simp), lexI_less, ByteArray.toList_eq, ByteArray.toList_eq]
 split
 ·rfl
 ·split <;> rfl
theorem or3 (a b c : Int) (k : Nat) : cmp_Or_int.f (k + 4) [a, b, c] = some (if a = 0 then (if b = 0 then c else b) else a) := by
 unfold cmp_Or_int.f
 have w1 : wrap64 (0 + 1) = 1 := by decide +kernel
 have w2 : wrap64 (1 + 1) = 2 := by decide +kernel
 have w3 : wrap64 (2 + 1) = 3 := by decide +kernel
 have r0 : rd [a, b, c] 0 = a := rfl
 have r1 : rd [a, b, c] 1 = b := rfl
 have r2 : rd [a, b, c] 2 = c := rfl
 have l : (([a, b, c] : List Int).length : Int) = 3 := rfl
 rw [l]
 have s0 : ∀ i : Int, 0 ≤ i → i < 3 → ∀ m, cmp_Or_int.l0 (m + 1) 0 [a, b, c] 3 i = if rd [a, b, c] i = 0 then cmp_Or_int.l0 m 0 [a, b, c] 3 (wrap64 (i + 1)) else some (rd [a, b, c] i) := by
  intro i h0 h1 m
  simp only [cmp_Or_int.l0]
  rw [if_pos h1, if_pos h0, l, if_pos h1]
 rw [s0 0 (by decide) (by decide), r0, w1, s0 1 (by decide) (by decide), r1, w2, s0 2 (by decide) (by decide), r2, w3]
 have s3 : cmp_Or_int.l0 (k + 1) 0 [a, b, c] 3 3 = some 0 := by
  simp only [cmp_Or_int.l0]
  rw [if_neg (by decide)]
 rw [s3]
 split
 ·split
  ·split
   ·rename_i h
    rw [h]
   ·rfl
  ·rfl
 ·rfl
theorem order_is (a b : S23) (k : Nat) (hk : 4 ≤ k) : val_Order.f k a.f0 a.f1 a.f2 b.f0 b.f1 b.f2 = some (ord a b) := by
 obtain ⟨k, rfl⟩ : ∃ m, k = m + 4 := ⟨k - 4, by omega⟩
 unfold val_Order.f
 rw [cmp_int_is, bs, cmp_int_is, bs, cmp_str_is, bs, or3, bs]
 unfold ord
 by_cases h : a.f0 = b.f0
 ·rw [if_pos ((sg_zero _ _).2 h), if_pos h]
  by_cases h1 : a.f1 = b.f1
  ·rw [if_pos ((sg_zero _ _).2 h1), if_pos h1]
  ·rw [if_neg (fun e => h1 ((sg_zero _ _).1 e)), if_neg h1]
 ·rw [if_neg (fun e => h ((sg_zero _ _).1 e)), if_neg h]
theorem bt_get (s : ByteArray) (i : Nat) (h : i < s.size) : bt s (i : Int) = ((s.data.toList[i]'(by simpa using h)).toNat : Int) := by
 unfold bt
 rw [dif_pos (by simpa using h)]
 simp [ByteArray.getElem_eq_getElem_data]
theorem texts_l0 (a b : ByteArray) (ha : a.size ≤ 140737488351232) (d : Nat) : ∀ (k i : Nat), a.size = i + d → i ≤ b.size → 2 * d + 2 ≤ k → trommelref01_Texts.l0 k a b (i : Int) = some (lexI (a.data.toList.drop i) (b.data.toList.drop i)) := by
 have hsa : a.data.toList.length = a.size := by simp
 have hsb : b.data.toList.length = b.size := by simp
 have stop : ∀ (k i : Nat), i ≤ a.size → i ≤ b.size → (i = a.size ∨ i = b.size) → 2 ≤ k → trommelref01_Texts.l0 k a b (i : Int) = some (lexI (a.data.toList.drop i) (b.data.toList.drop i)) := by
  intro k i h1 h2 h3 hk
  obtain ⟨k, rfl⟩ : ∃ m, k = m + 2 := ⟨k - 2, by omega⟩
  have e : trommelref01_Texts.l0 (k + 2) a b (i : Int) = trommelref01_Texts.j1 (k + 1) a b (i : Int) false := by
   simp only [trommelref01_Texts.l0]
   by_cases c : (i : Int) < (a.size : Int)
   ·rw [if_pos c, decide_eq_false (by omega)]
   ·rw [if_neg c]
  rw [e]
  simp only [trommelref01_Texts.j1]
  rw [if_neg (by simp)]
  by_cases c : (a.size : Int) < (b.size : Int)
  ·rw [if_pos c, List.drop_eq_nil_of_le (by omega), List.drop_eq_getElem_cons (show i < b.data.toList.length by omega)]
   rfl
  ·rw [if_neg c]
   by_cases c2 : (a.size : Int) > (b.size : Int)
   ·rw [if_pos c2, List.drop_eq_nil_of_le (show b.data.toList.length ≤ i by omega), List.drop_eq_getElem_cons (show i < a.data.toList.length by omega)]
    rfl
   ·rw [if_neg c2, List.drop_eq_nil_of_le (show b.data.toList.length ≤ i by omega), List.drop_eq_nil_of_le (show a.data.toList.length ≤ i by omega)]
    rfl
 induction d with
 | zero => exact fun k i h1 h2 hk => stop k i (by omega) h2 (.inl (by omega)) (by omega)
 | succ d ih =>
  intro k i h1 h2 hk
  by_cases c : i = b.size
  ·exact stop k i (by omega) h2 (.inr c) (by omega)
  ·obtain ⟨k, rfl⟩ : ∃ m, k = m + 2 := ⟨k - 2, by omega⟩
   have h := ih k (i + 1) (by omega) (by omega) (by omega)
   have e : trommelref01_Texts.l0 (k + 2) a b (i : Int) = trommelref01_Texts.j1 (k + 1) a b (i : Int) true := by
    simp only [trommelref01_Texts.l0]
    rw [if_pos (by omega), decide_eq_true (by omega)]
   rw [e]
   simp only [trommelref01_Texts.j1]
   rw [if_pos trivial, if_pos (by omega), if_pos (by omega), if_pos (by omega), bt_get a i (by omega), bt_get b i (by omega), w64 (by omega) (by omega), show (i : Int) + 1 = ((i + 1 : Nat) : Int) by omega, h]
   rw [List.drop_eq_getElem_cons (show i < a.data.toList.length by omega), List.drop_eq_getElem_cons (show i < b.data.toList.length by omega)]
   simp only [lexI]
   generalize a.data.toList[i] = p
   generalize b.data.toList[i] = q
   rcases u8_cases p q with e1 | ⟨e1, e2, e3⟩ | ⟨e1, e2, e3⟩
   ·rw [if_pos e1, if_pos (by rw [e1])]
   ·rw [if_neg e1, if_pos e2, if_neg (fun e : (p.toNat : Int) = (q.toNat : Int) => e1 (UInt8.toNat_inj.1 (by omega))), if_pos (by rw [UInt8.lt_iff_toNat_lt] at e2; omega)]
   ·rw [if_neg e1, if_neg e3, if_neg (fun e : (p.toNat : Int) = (q.toNat : Int) => e1 (UInt8.toNat_inj.1 (by omega))), if_neg (by rw [UInt8.lt_iff_toNat_lt] at e2; omega)]
theorem ref_order_is (a b : S23) (ha : a.f2.size ≤ 140737488351232) (k : Nat) (hk : 2 * a.f2.size + 2 ≤ k) : trommelref01_Order.f k a.f0 a.f1 a.f2 b.f0 b.f1 b.f2 = some (ord a b) := by
 unfold trommelref01_Order.f ord trommelref01_ints.f
 by_cases h : a.f0 = b.f0
 ·rw [if_pos h, if_pos h]
  by_cases h1 : a.f1 = b.f1
  ·rw [if_pos h1, if_pos h1]
   unfold trommelref01_Texts.f
   have e := texts_l0 a.f2 b.f2 ha a.f2.size k 0 (by omega) (by omega) hk
   rw [show ((0 : Nat) : Int) = 0 from rfl] at e
   rw [e, bs]
   rfl
  ·rw [if_neg h1, if_neg h1]
   unfold sg
   split
   ·rfl
   ·split <;> rfl
 ·rw [if_neg h, if_neg h]
  unfold sg
  split
  ·rfl
  ·split <;> rfl

def spanStep (s : S106) (v : S23) : S106 := ⟨if s.f2 = 0 ∨ ord v s.f0 < 0 then v else s.f0, if s.f2 = 0 ∨ ord v s.f1 > 0 then v else s.f1, s.f2 + 1, s.f3⟩
def spanOf (l : List S23) : S106 := l.foldl spanStep z106
theorem spanOf_snoc (l : List S23) (v : S23) : spanOf (l ++ [v]) = spanStep (spanOf l) v := by simp [spanOf]
theorem fold_f2 (l : List S23) : ∀ s : S106, (l.foldl spanStep s).f2 = s.f2 + l.length ∧ (l.foldl spanStep s).f3 = s.f3 := by
 induction l with
 | nil => intro s; simp
 | cons v l ih =>
  intro s
  obtain ⟨a, b⟩ := ih (spanStep s v)
  rw [List.foldl_cons, a, b]
  refine ⟨?_, rfl⟩
  show s.f2 + 1 + _ = _
  rw [List.length_cons]
  omega
theorem spanOf_f2 (l : List S23) : (spanOf l).f2 = l.length ∧ (spanOf l).f3 = 0 := by
 obtain ⟨a, b⟩ := fold_f2 l z106
 exact ⟨a.trans (by show (0 : Int) + _ = _; omega), b⟩
theorem fold_size (B : Nat) (l : List S23) (h : ∀ v ∈ l, v.f2.size ≤ B) : ∀ s : S106, s.f0.f2.size ≤ B → s.f1.f2.size ≤ B → (l.foldl spanStep s).f0.f2.size ≤ B ∧ (l.foldl spanStep s).f1.f2.size ≤ B := by
 induction l with
 | nil => exact fun s h0 h1 => ⟨h0, h1⟩
 | cons v l ih =>
  intro s h0 h1
  have hv := h v List.mem_cons_self
  rw [List.foldl_cons]
  apply ih (fun u hu => h u (List.mem_cons_of_mem _ hu))
  ·simp only [spanStep]
   split <;> assumption
  ·simp only [spanStep]
   split <;> assumption
theorem spanOf_size (B : Nat) (l : List S23) (h : ∀ v ∈ l, v.f2.size ≤ B) : (spanOf l).f0.f2.size ≤ B ∧ (spanOf l).f1.f2.size ≤ B :=
 fold_size B l h z106 (Nat.zero_le _) (Nat.zero_le _)
theorem union_one (s : S106) (v : S23) (h0 : 0 ≤ s.f2) (h1 : s.f2 < 1000000) (h3 : s.f3 = 0) (k : Nat) (hk : 10 ≤ k) :
  span_Union.f k s.f0.f0 s.f0.f1 s.f0.f2 s.f1.f0 s.f1.f1 s.f1.f2 s.f2 s.f3 v.f0 v.f1 v.f2 v.f0 v.f1 v.f2 1 0 = some ((spanStep s v).f0.f0, (spanStep s v).f0.f1, (spanStep s v).f0.f2, (spanStep s v).f1.f0, (spanStep s v).f1.f1, (spanStep s v).f1.f2, (spanStep s v).f2, (spanStep s v).f3) := by
 obtain ⟨k, rfl⟩ : ∃ m, k = m + 10 := ⟨k - 10, by omega⟩
 have w1 : wrap64 (s.f2 + 1) = s.f2 + 1 := w64 (by omega) (by omega)
 have w2 : wrap64 (s.f3 + 0) = s.f3 := by rw [w64 (by omega) (by omega)]; omega
 unfold span_Union.f spanStep
 by_cases c : s.f2 = 0
 ·rw [if_pos c]
  simp only [span_Union.j0]
  rw [if_pos trivial]
  simp only [span_Union.j1]
  rw [if_pos c]
  simp only [span_Union.j2]
  rw [if_pos trivial]
  simp only [span_Union.j3]
  rw [w1, w2, if_pos (.inl c), if_pos (.inl c)]
 ·rw [if_neg c, if_pos (show (1 : Int) > 0 by decide), order_is v s.f0 _ (by omega), bs]
  by_cases e1 : ord v s.f0 < 0
  ·rw [decide_eq_true e1, if_pos (.inr e1)]
   simp only [span_Union.j0]
   rw [if_pos trivial]
   simp only [span_Union.j1]
   rw [if_neg c, if_pos (show (1 : Int) > 0 by decide), order_is v s.f1 _ (by omega), bs]
   by_cases e2 : ord v s.f1 > 0
   ·rw [decide_eq_true e2, if_pos (.inr e2)]
    simp only [span_Union.j2]
    rw [if_pos trivial]
    simp only [span_Union.j3]
    rw [w1, w2]
   ·rw [decide_eq_false e2, if_neg (fun h => h.elim c e2)]
    simp only [span_Union.j2]
    rw [if_neg (by simp)]
    simp only [span_Union.j3]
    rw [w1, w2]
  ·rw [decide_eq_false e1, if_neg (fun h => h.elim c e1)]
   simp only [span_Union.j0]
   rw [if_neg (by simp)]
   simp only [span_Union.j1]
   rw [if_neg c, if_pos (show (1 : Int) > 0 by decide), order_is v s.f1 _ (by omega), bs]
   by_cases e2 : ord v s.f1 > 0
   ·rw [decide_eq_true e2, if_pos (.inr e2)]
    simp only [span_Union.j2]
    rw [if_pos trivial]
    simp only [span_Union.j3]
    rw [w1, w2]
   ·rw [decide_eq_false e2, if_neg (fun h => h.elim c e2)]
    simp only [span_Union.j2]
    rw [if_neg (by simp)]
    simp only [span_Union.j3]
    rw [w1, w2]
theorem span_step (s : S106) (v : S23) (hv : v.f0 ≠ 0) (h0 : 0 ≤ s.f2) (h1 : s.f2 < 1000000) (h3 : s.f3 = 0) (k : Nat) (hk : 20 ≤ k) :
  span_Add.f k s.f0.f0 s.f0.f1 s.f0.f2 s.f1.f0 s.f1.f1 s.f1.f2 s.f2 s.f3 [v] = some ((spanStep s v).f0.f0, (spanStep s v).f0.f1, (spanStep s v).f0.f2, (spanStep s v).f1.f0, (spanStep s v).f1.f1, (spanStep s v).f1.f2, (spanStep s v).f2, (spanStep s v).f3) := by
 obtain ⟨k, rfl⟩ : ∃ m, k = m + 2 := ⟨k - 2, by omega⟩
 have l1 : (([v] : List S23).length : Int) = 1 := rfl
 have w1 : wrap64 (0 + 1) = 1 := by decide +kernel
 have one : span_one.f v.f0 v.f1 v.f2 = some (v.f0, v.f1, v.f2, v.f0, v.f1, v.f2, 1, 0) := by
  unfold span_one.f val_IsNull.f
  rw [bs, beq_eq_false_iff_ne.2 hv, if_neg (by simp)]
 have last : ∀ (m : Nat) (a b : Int) (c : ByteArray) (d e : Int) (f : ByteArray) (g h : Int), span_Add.l0 (m + 1) [v] 1 1 a b c d e f g h = some (a, b, c, d, e, f, g, h) := by
  intro m a b c d e f g h
  simp only [span_Add.l0]
  rw [if_neg (by decide)]
 have first : ∀ (m : Nat), 10 ≤ m → span_Add.l0 (m + 1) [v] 1 0 s.f0.f0 s.f0.f1 s.f0.f2 s.f1.f0 s.f1.f1 s.f1.f2 s.f2 s.f3 = span_Add.l0 m [v] 1 1 (spanStep s v).f0.f0 (spanStep s v).f0.f1 (spanStep s v).f0.f2 (spanStep s v).f1.f0 (spanStep s v).f1.f1 (spanStep s v).f1.f2 (spanStep s v).f2 (spanStep s v).f3 := by
  intro m hm
  have r0 : rd_T23 [v] 0 = v := rfl
  simp only [span_Add.l0]
  rw [if_pos (by decide), if_pos (by decide), if_pos (show (0 : Int) < (([v] : List S23).length : Int) by rw [l1]; decide), r0, one, bs]
  show ((span_Union.f m s.f0.f0 s.f0.f1 s.f0.f2 s.f1.f0 s.f1.f1 s.f1.f2 s.f2 s.f3 v.f0 v.f1 v.f2 v.f0 v.f1 v.f2 1 0).bind _) = _
  rw [union_one s v h0 h1 h3 m hm, bs, w1]
 unfold span_Add.f
 rw [l1, first (k + 1) (by omega), last k]
def hasB (s : S106) (v : S23) : Bool := decide (s.f2 > 0) && (decide (ord v s.f0 ≥ 0) && decide (ord v s.f1 ≤ 0))
theorem span_has_is (s : S106) (v : S23) (hv : v.f0 ≠ 0) (k : Nat) (hk : 4 ≤ k) : span_Has.f k s.f0.f0 s.f0.f1 s.f0.f2 s.f1.f0 s.f1.f1 s.f1.f2 s.f2 s.f3 v.f0 v.f1 v.f2 = some (hasB s v) := by
 unfold span_Has.f val_IsNull.f hasB
 rw [bs, beq_eq_false_iff_ne.2 hv, if_neg (by simp)]
 by_cases c : s.f2 > 0
 ·rw [if_pos c, order_is v s.f0 _ hk, bs, decide_eq_true c, Bool.true_and]
  by_cases d : ord v s.f0 ≥ 0
  ·rw [if_pos d, order_is v s.f1 _ hk, bs, decide_eq_true d, Bool.true_and]
  ·rw [if_neg d, decide_eq_false d, Bool.false_and]
 ·rw [if_neg c, decide_eq_false c, Bool.false_and]
theorem ends_l0 (A : List S23) (hA : ∀ v ∈ A, v.f0 ≠ 0) (B : Nat) (hB : ∀ v ∈ A, v.f2.size ≤ B) (hB2 : B ≤ 140737488351232) (hl : A.length ≤ 1000) (d : Nat) : ∀ (k i : Nat), A.length = i + d → 3 * d + 2 * B + 10 ≤ k →
  trommelref19_Ends.l0 k A (decide (0 < i)) false (i : Int) (spanOf (A.take i)).f0.f0 (spanOf (A.take i)).f0.f1 (spanOf (A.take i)).f0.f2 (spanOf (A.take i)).f1.f0 (spanOf (A.take i)).f1.f1 (spanOf (A.take i)).f1.f2 = some ((spanOf A).f0.f0, (spanOf A).f0.f1, (spanOf A).f0.f2, (spanOf A).f1.f0, (spanOf A).f1.f1, (spanOf A).f1.f2, decide (0 < A.length), false) := by
 induction d with
 | zero =>
  intro k i hd hk
  obtain ⟨k, rfl⟩ : ∃ m, k = m + 1 := ⟨k - 1, by omega⟩
  simp only [trommelref19_Ends.l0]
  rw [if_neg (by omega), List.take_of_length_le (by omega), show i = A.length by omega]
 | succ d ih =>
  intro k i hd hk
  obtain ⟨k, rfl⟩ : ∃ m, k = m + 3 := ⟨k - 3, by omega⟩
  have hi : i < A.length := by omega
  have hv := hA A[i] (List.getElem_mem hi)
  have hz := hB A[i] (List.getElem_mem hi)
  have er : rd_T23 A (i : Int) = A[i] := by
   unfold rd_T23
   rw [Int.toNat_natCast, List.getD_eq_getElem?_getD, List.getElem?_eq_getElem hi]
   rfl
  have es : spanOf (A.take (i + 1)) = spanStep (spanOf (A.take i)) A[i] := by
   rw [← List.take_append_getElem hi, spanOf_snoc]
  have ef : (spanOf (A.take i)).f2 = (i : Int) := by
   rw [(spanOf_f2 _).1, List.length_take]
   omega
  have ihk := fun m (hm : k ≤ m) => ih m (i + 1) (by omega) (by omega)
  rw [es, decide_eq_true (show 0 < i + 1 by omega)] at ihk
  have wi : wrap64 ((i : Int) + 1) = ((i + 1 : Nat) : Int) := by rw [w64 (by omega) (by omega)]; omega
  generalize spanOf (A.take i) = s at *
  generalize A[i] = v at *
  have o0 := fun m (hm : k ≤ m) => ref_order_is v s.f0 (by omega) m (by omega)
  have o1 := fun m (hm : k ≤ m) => ref_order_is v s.f1 (by omega) m (by omega)
  simp only [spanStep] at ihk
  by_cases c : 0 < i
  ·have c2 : ¬ s.f2 = 0 := by omega
   rw [decide_eq_true c]
   simp only [trommelref19_Ends.l0]
   rw [er, if_pos (by omega), if_pos (by omega), if_neg hv, if_pos trivial, o0 _ (by omega), bs]
   by_cases e1 : ord v s.f0 < 0
   ·rw [if_pos (.inr e1)] at ihk
    rw [decide_eq_true e1]
    simp only [trommelref19_Ends.j1]
    rw [er, if_pos trivial, if_pos (by omega), if_pos (by omega)]
    simp only [trommelref19_Ends.j2]
    rw [er, if_pos trivial, if_pos (by omega), if_pos (by omega), o1 _ (by omega), bs, wi]
    by_cases e2 : ord v s.f1 > 0
    ·rw [if_pos (.inr e2)] at ihk
     rw [if_pos e2]
     exact ihk _ (by omega)
    ·rw [if_neg (fun h => h.elim c2 e2)] at ihk
     rw [if_neg e2]
     exact ihk _ (by omega)
   ·rw [if_neg (fun h => h.elim c2 e1)] at ihk
    rw [decide_eq_false e1]
    simp only [trommelref19_Ends.j1]
    rw [if_neg (by simp)]
    simp only [trommelref19_Ends.j2]
    rw [er, if_pos trivial, if_pos (by omega), if_pos (by omega), o1 _ (by omega), bs, wi]
    by_cases e2 : ord v s.f1 > 0
    ·rw [if_pos (.inr e2)] at ihk
     rw [if_pos e2]
     exact ihk _ (by omega)
    ·rw [if_neg (fun h => h.elim c2 e2)] at ihk
     rw [if_neg e2]
     exact ihk _ (by omega)
  ·have c2 : s.f2 = 0 := by omega
   rw [if_pos (.inl c2), if_pos (.inl c2)] at ihk
   rw [decide_eq_false c]
   simp only [trommelref19_Ends.l0]
   rw [er, if_pos (by omega), if_pos (by omega), if_neg hv, if_neg (by simp)]
   simp only [trommelref19_Ends.j1]
   rw [er, if_pos trivial, if_pos (by omega), if_pos (by omega)]
   simp only [trommelref19_Ends.j2]
   rw [er, if_neg (by simp), if_pos (by omega), if_pos (by omega), wi]
   exact ihk _ (by omega)
theorem ends_is (A : List S23) (hA : ∀ v ∈ A, v.f0 ≠ 0) (B : Nat) (hB : ∀ v ∈ A, v.f2.size ≤ B) (hB2 : B ≤ 140737488351232) (hl : A.length ≤ 1000) (k : Nat) (hk : 3 * A.length + 2 * B + 10 ≤ k) :
  trommelref19_Ends.f k A = some ((spanOf A).f0.f0, (spanOf A).f0.f1, (spanOf A).f0.f2, (spanOf A).f1.f0, (spanOf A).f1.f1, (spanOf A).f1.f2, decide (0 < A.length), false) :=
 ends_l0 A hA B hB hB2 hl A.length k 0 (by omega) hk
theorem ref_has_is (A : List S23) (hA : ∀ v ∈ A, v.f0 ≠ 0) (B : Nat) (hB : ∀ v ∈ A, v.f2.size ≤ B) (hB2 : B ≤ 140737488351232) (hl : A.length ≤ 1000) (v : S23) (hv : v.f0 ≠ 0) (hz : v.f2.size ≤ B) (k : Nat) (hk : 3 * A.length + 2 * B + 10 ≤ k) :
  trommelref19_Has.f k A v.f0 v.f1 v.f2 = some (hasB (spanOf A) v) := by
 obtain ⟨k, rfl⟩ : ∃ m, k = m + 1 := ⟨k - 1, by omega⟩
 obtain ⟨z0, z1⟩ := spanOf_size B A hB
 have ef := (spanOf_f2 A).1
 unfold trommelref19_Has.f
 rw [ends_is A hA B hB hB2 hl (k + 1) hk, bs, if_neg hv]
 show (if decide (0 < A.length) = true then ((trommelref01_Order.f (k + 1) (spanOf A).f0.f0 (spanOf A).f0.f1 (spanOf A).f0.f2 v.f0 v.f1 v.f2).bind fun t => (if t ≤ 0 then ((trommelref01_Order.f (k + 1) v.f0 v.f1 v.f2 (spanOf A).f1.f0 (spanOf A).f1.f1 (spanOf A).f1.f2).bind fun u => (trommelref19_Has.j0 (k + 1) (decide (u ≤ 0)))) else (trommelref19_Has.j0 (k + 1) false))) else (trommelref19_Has.j0 (k + 1) false)) = _
 generalize spanOf A = s at *
 have hanti := ord_anti v s.f0
 unfold hasB
 rw [ref_order_is s.f0 v (by omega) (k + 1) (by omega), bs, ref_order_is v s.f1 (by omega) (k + 1) (by omega), bs]
 by_cases c : 0 < A.length
 ·rw [decide_eq_true c, if_pos rfl, decide_eq_true (show s.f2 > 0 by omega), Bool.true_and]
  by_cases d : ord s.f0 v ≤ 0
  ·rw [if_pos d, decide_eq_true (show ord v s.f0 ≥ 0 by omega), Bool.true_and]
   simp only [trommelref19_Has.j0]
  ·rw [if_neg d, decide_eq_false (show ¬ ord v s.f0 ≥ 0 by omega), Bool.false_and]
   simp only [trommelref19_Has.j0]
 ·rw [decide_eq_false c, if_neg (by simp), decide_eq_false (show ¬ s.f2 > 0 by omega), Bool.false_and]
  simp only [trommelref19_Has.j0]



def whB (l : List S23) : Bool := l.all (fun y => y.f0 != 0)
theorem get23 (l : List S23) (i : Nat) (h : i < l.length) : rd_T23 l (i : Int) = l[i] := by
 unfold rd_T23
 rw [Int.toNat_natCast, List.getD_eq_getElem?_getD, List.getElem?_eq_getElem h]
 rfl
theorem getL (l : List (List S23)) (i : Nat) (h : i < l.length) : rd_L6 l (i : Int) = l[i] := by
 unfold rd_L6
 rw [Int.toNat_natCast, List.getD_eq_getElem?_getD, List.getElem?_eq_getElem h]
 rfl
theorem get106 (l : List S106) (i : Nat) (h : i < l.length) : rd_T106 l (i : Int) = l[i] := by
 unfold rd_T106
 rw [Int.toNat_natCast, List.getD_eq_getElem?_getD, List.getElem?_eq_getElem h]
 rfl
theorem index_l0 (l : List S23) (hl : l.length ≤ 1000) (d : Nat) : ∀ (k i : Nat), l.length = i + d → d + 1 ≤ k → ∃ r : Int, slices_IndexFunc_125__val_IsNull.l0 k l (l.length : Int) (i : Int) = some r ∧ decide (r ≥ 0) = !((l.drop i).all (fun y => y.f0 != 0)) := by
 induction d with
 | zero =>
  intro k i hd hk
  obtain ⟨k, rfl⟩ : ∃ m, k = m + 1 := ⟨k - 1, by omega⟩
  refine ⟨-1, ?_, ?_⟩
  ·simp only [slices_IndexFunc_125__val_IsNull.l0]
   rw [if_neg (by omega)]
  ·rw [List.drop_eq_nil_of_le (by omega)]
   rfl
 | succ d ih =>
  intro k i hd hk
  obtain ⟨k, rfl⟩ : ∃ m, k = m + 1 := ⟨k - 1, by omega⟩
  have hi : i < l.length := by omega
  obtain ⟨r, e, g⟩ := ih k (i + 1) (by omega) (by omega)
  have hstep : slices_IndexFunc_125__val_IsNull.l0 (k + 1) l (l.length : Int) (i : Int) = if (l[i].f0 == 0) = true then some (i : Int) else slices_IndexFunc_125__val_IsNull.l0 k l (l.length : Int) ((i + 1 : Nat) : Int) := by
   simp only [slices_IndexFunc_125__val_IsNull.l0, val_IsNull.f]
   rw [if_pos (by omega), if_pos (by omega), if_pos (by omega), bs, get23 l i hi, w64 (by omega) (by omega), show (i : Int) + 1 = ((i + 1 : Nat) : Int) by omega]
  rw [hstep, List.drop_eq_getElem_cons hi, List.all_cons]
  by_cases c : l[i].f0 = 0
  ·refine ⟨(i : Int), by rw [if_pos (beq_iff_eq.2 c)], ?_⟩
   rw [decide_eq_true (by omega), c]
   rfl
  ·refine ⟨r, by rw [if_neg (by simpa using c), e], ?_⟩
   rw [g, bne_iff_ne.2 c, Bool.true_and]
theorem whole_is (l : List S23) (hl : l.length ≤ 1000) (k : Nat) (hk : l.length + 1 ≤ k) : sift_Whole.f k l = some (whB l) := by
 obtain ⟨r, e, g⟩ := index_l0 l hl l.length k 0 (by omega) (by omega)
 unfold sift_Whole.f slices_ContainsFunc_91__val_IsNull.f slices_IndexFunc_125__val_IsNull.f
 rw [show (0 : Int) = ((0 : Nat) : Int) from rfl, e, bs, bs]
 rw [List.drop_zero] at g
 show some (!decide (r ≥ 0)) = _
 rw [g, Bool.not_not]
 rfl
theorem rwhole_l0 (l : List S23) (hl : l.length ≤ 1000) (d : Nat) : ∀ (k i : Nat), l.length = i + d → d + 1 ≤ k → trommelref20_Whole.l0 k l (i : Int) = some ((l.drop i).all (fun y => y.f0 != 0)) := by
 induction d with
 | zero =>
  intro k i hd hk
  obtain ⟨k, rfl⟩ : ∃ m, k = m + 1 := ⟨k - 1, by omega⟩
  simp only [trommelref20_Whole.l0]
  rw [if_neg (by omega), List.drop_eq_nil_of_le (by omega)]
  rfl
 | succ d ih =>
  intro k i hd hk
  obtain ⟨k, rfl⟩ : ∃ m, k = m + 1 := ⟨k - 1, by omega⟩
  have hi : i < l.length := by omega
  have e := ih k (i + 1) (by omega) (by omega)
  simp only [trommelref20_Whole.l0]
  rw [if_pos (by omega), if_pos (by omega), get23 l i hi, w64 (by omega) (by omega), show (i : Int) + 1 = ((i + 1 : Nat) : Int) by omega, List.drop_eq_getElem_cons hi, List.all_cons]
  by_cases c : l[i].f0 = 0
  ·rw [if_pos c, c]
   rfl
  ·rw [if_neg c, e, bne_iff_ne.2 c, Bool.true_and]
theorem rwhole_is (l : List S23) (hl : l.length ≤ 1000) (k : Nat) (hk : l.length + 1 ≤ k) : trommelref20_Whole.f k l = some (whB l) := by
 have e := rwhole_l0 l hl l.length k 0 (by omega) hk
 rw [List.drop_zero] at e
 exact e
theorem wholes_l0 (L : List (List S23)) (hL : L.length ≤ 1000) (hr : ∀ r ∈ L, r.length ≤ 40) (d : Nat) : ∀ (k i : Nat), L.length = i + d → d + 50 ≤ k → trommelref20_wholes.l0 k L ((L.take i).filter whB) (i : Int) = some (L.filter whB) := by
 induction d with
 | zero =>
  intro k i hd hk
  obtain ⟨k, rfl⟩ : ∃ m, k = m + 1 := ⟨k - 1, by omega⟩
  simp only [trommelref20_wholes.l0]
  rw [if_neg (by omega), List.take_of_length_le (by omega)]
 | succ d ih =>
  intro k i hd hk
  obtain ⟨k, rfl⟩ : ∃ m, k = m + 1 := ⟨k - 1, by omega⟩
  have hi : i < L.length := by omega
  have h40 := hr L[i] (List.getElem_mem hi)
  have e := ih k (i + 1) (by omega) (by omega)
  have hlen : ((L.take i).filter whB).length ≤ i := Nat.le_trans (List.length_filter_le _ _) (by rw [List.length_take]; omega)
  rw [← List.take_append_getElem hi, List.filter_append] at e
  simp only [trommelref20_wholes.l0]
  rw [if_pos (by omega), if_pos (by omega), getL L i hi, rwhole_is L[i] (by omega) k (by omega), bs, w64 (by omega) (by omega), show (i : Int) + 1 = ((i + 1 : Nat) : Int) by omega]
  by_cases c : whB L[i] = true
  ·rw [if_pos c, if_pos (by omega)]
   rw [List.filter_cons_of_pos c, List.filter_nil] at e
   exact e
  ·rw [if_neg c]
   rw [List.filter_cons_of_neg c, List.filter_nil, List.append_nil] at e
   exact e
theorem wholes_is (L : List (List S23)) (hL : L.length ≤ 1000) (hr : ∀ r ∈ L, r.length ≤ 40) (k : Nat) (hk : L.length + 50 ≤ k) : trommelref20_wholes.f k L = some (L.filter whB) := by
 unfold trommelref20_wholes.f
 exact wholes_l0 L hL hr L.length k 0 (by omega) hk
theorem text_indep (s : ByteArray) (hs : s.size ≤ 140737488355328000) (d : Nat) : ∀ (k1 k2 : Nat) (h i : Int), 0 ≤ i → i ≤ s.size → (s.size : Int) - i = d → d < k1 → d < k2 → hash_text.l0 k1 s h (s.size : Int) i = hash_text.l0 k2 s h (s.size : Int) i := by
 induction d with
 | zero =>
  intro k1 k2 h i h0 h1 hd hk1 hk2
  obtain ⟨k1, rfl⟩ : ∃ m, k1 = m + 1 := ⟨k1 - 1, by omega⟩
  obtain ⟨k2, rfl⟩ : ∃ m, k2 = m + 1 := ⟨k2 - 1, by omega⟩
  simp only [hash_text.l0]
  rw [if_neg (by omega), if_neg (by omega)]
 | succ d ih =>
  intro k1 k2 h i h0 h1 hd hk1 hk2
  obtain ⟨k1, rfl⟩ : ∃ m, k1 = m + 1 := ⟨k1 - 1, by omega⟩
  obtain ⟨k2, rfl⟩ : ∃ m, k2 = m + 1 := ⟨k2 - 1, by omega⟩
  simp only [hash_text.l0, hash_Byte.f]
  rw [if_pos (by omega), if_pos (by omega), if_pos (by omega), if_pos (by omega), if_pos (by omega), if_pos (by omega), bs, bs, w64 (by omega) (by omega)]
  exact ih k1 k2 _ _ (by omega) (by omega) (by omega) (by omega) (by omega)
def rhv (seed : Int) (l : List S23) : Nat := ((hash_text.f ((rkey l).size + 1) seed (rkey l)).getD 0).toNat
theorem rhv_is (seed : Int) (l : List S23) (hs : ∀ y ∈ l, y.f2.size ≤ 140737488351232) (hl : l.length ≤ 1000) (k : Nat) (hk : l.length + 20 ≤ k) (hk2 : (rkey l).size < k) : hash_Row.f k seed l = some (rhv seed l : Int) ∧ trommelref17_Row.f k seed l = some (rhv seed l : Int) ∧ rhv seed l < 18446744073709551616 := by
 have hz := rkey_size l hs
 obtain ⟨r, e1, h0, h1, e2, e3⟩ := row_is seed l hs hl k hk hk2
 have e4 : hash_text.f ((rkey l).size + 1) seed (rkey l) = some r := by
  rw [← e3]
  unfold hash_text.f hash_Start.f
  obtain ⟨q, hq, _⟩ := mix_some (IntKind.u64.wrap (IntKind.u64.wrap seed + 2685821657736338717))
  rw [hq, bs, bs, bs]
  exact text_indep _ (by omega) (rkey l).size _ _ _ _ (by omega) (by omega) (by omega) (by omega) (by omega)
 have e5 : (rhv seed l : Int) = r := by
  unfold rhv
  rw [e4]
  show ((r.toNat : Nat) : Int) = r
  omega
 refine ⟨by rw [e5]; exact e1, by rw [e5]; exact e2, by omega⟩
theorem rkey_small (l : List S23) : (∀ y ∈ l, y.f2.size ≤ 140737488351232) → (rkey l).size ≤ 40 * l.length + rowN l := by
 induction l with
 | nil => intro _; exact Nat.zero_le _
 | cons y l ih =>
  intro hs
  have h1 := vkey_size y.f0 y.f1 y.f2
  have h2 := hs y (List.mem_cons_self)
  have h3 := itoa_size (vkey y.f0 y.f1 y.f2).size (by omega)
  have h4 := ih (fun z hz => hs z (List.mem_cons_of_mem _ hz))
  have e : (⟨#[58]⟩ : ByteArray).size = 1 := rfl
  rw [rkey, ByteArray.size_append, ByteArray.size_append, ByteArray.size_append, e, List.length_cons, rowN_cons]
  omega
def col (L : List (List S23)) (i : Nat) : List S23 := L.filterMap (fun r => r[i]?)
def mxl (L : List (List S23)) : Nat := L.foldl (fun m r => max m r.length) 0
theorem mxl_snoc (L : List (List S23)) (r : List S23) : mxl (L ++ [r]) = max (mxl L) r.length := by simp [mxl]
theorem fold_max (L : List (List S23)) : ∀ m : Nat, m ≤ L.foldl (fun m r => max m r.length) m ∧ ∀ r ∈ L, r.length ≤ L.foldl (fun m r => max m r.length) m := by
 induction L with
 | nil => exact fun m => ⟨Nat.le_refl _, fun r h => by cases h⟩
 | cons a L ih =>
  intro m
  obtain ⟨h1, h2⟩ := ih (max m a.length)
  rw [List.foldl_cons]
  refine ⟨by omega, ?_⟩
  intro r hr
  rcases List.mem_cons.1 hr with rfl | hr
  ·omega
  ·exact h2 r hr
theorem fold_max_le (L : List (List S23)) (B : Nat) (h : ∀ r ∈ L, r.length ≤ B) : ∀ m : Nat, m ≤ B → L.foldl (fun m r => max m r.length) m ≤ B := by
 induction L with
 | nil => exact fun m hm => hm
 | cons a L ih =>
  intro m hm
  have := h a List.mem_cons_self
  rw [List.foldl_cons]
  exact ih (fun r hr => h r (List.mem_cons_of_mem _ hr)) _ (by omega)
theorem mxl_le (L : List (List S23)) (B : Nat) (h : ∀ r ∈ L, r.length ≤ B) : mxl L ≤ B := fold_max_le L B h 0 (Nat.zero_le _)
theorem col_nil (L : List (List S23)) (i : Nat) (h : mxl L ≤ i) : col L i = [] := by
 unfold col
 rw [List.filterMap_eq_nil_iff]
 intro r hr
 have := (fold_max L 0).2 r hr
 exact List.getElem?_eq_none (by unfold mxl at h; omega)
theorem col_snoc (L : List (List S23)) (r : List S23) (i : Nat) (h : i < r.length) : col (L ++ [r]) i = col L i ++ [r[i]] := by
 simp [col, List.filterMap_append, List.getElem?_eq_getElem h]
theorem col_snoc' (L : List (List S23)) (r : List S23) (i : Nat) (h : r.length ≤ i) : col (L ++ [r]) i = col L i := by
 simp [col, List.filterMap_append, List.getElem?_eq_none h]
theorem col_len (L : List (List S23)) (i : Nat) : (col L i).length ≤ L.length := List.length_filterMap_le _ _
theorem col_mem (L : List (List S23)) (i : Nat) (v : S23) (h : v ∈ col L i) : ∃ r ∈ L, v ∈ r := by
 obtain ⟨r, hr, e⟩ := List.mem_filterMap.1 h
 exact ⟨r, hr, List.mem_of_getElem? e⟩
def tab (m : Nat) (g : Nat → S106) : List S106 := (List.range m).map g
theorem tab_len (m : Nat) (g : Nat → S106) : (tab m g).length = m := by simp [tab]
theorem tab_get (m : Nat) (g : Nat → S106) (i : Nat) (h : i < (tab m g).length) : (tab m g)[i] = g i := by simp [tab]
theorem tab_set (m : Nat) (g h : Nat → S106) (j : Nat) (hg : ∀ i, i ≠ j → h i = g i) : (tab m g).set j (h j) = tab m h := by
 apply List.ext_getElem
 ·simp [tab]
 ·intro i h1 h2
  rw [List.getElem_set]
  by_cases c : j = i
  ·subst c
   rw [if_pos rfl, tab_get]
  ·rw [if_neg c, tab_get, tab_get, hg i (fun e => c e.symm)]
theorem tab_congr (m : Nat) (g h : Nat → S106) (e : ∀ i, i < m → g i = h i) : tab m g = tab m h := by
 apply List.ext_getElem
 ·simp [tab]
 ·intro i h1 h2
  rw [tab_get, tab_get]
  exact e i (by rw [tab_len] at h1; exact h1)

def spn (W : List (List S23)) : List S106 := tab (mxl W) (fun q => spanOf (col W q))
def tmid (W : List (List S23)) (r : List S23) (j : Nat) : List S106 := tab (max (mxl W) r.length) (fun q => if q < j then spanOf (col (W ++ [r]) q) else spanOf (col W q))
theorem tmid_get (W : List (List S23)) (r : List S23) (j i : Nat) (h : i < (tmid W r j).length) : (tmid W r j)[i] = if i < j then spanOf (col (W ++ [r]) i) else spanOf (col W i) := tab_get _ _ i h
theorem spn_get (W : List (List S23)) (i : Nat) (h : i < (spn W).length) : (spn W)[i] = spanOf (col W i) := tab_get _ _ i h
theorem spn_len (W : List (List S23)) : (spn W).length = mxl W := tab_len _ _
theorem tmid_zero (W : List (List S23)) (r : List S23) (d : Nat) (hd : max (mxl W) r.length = mxl W + d) : spn W ++ List.replicate d z106 = tmid W r 0 := by
 apply List.ext_getElem
 ·rw [List.length_append, List.length_replicate]
  unfold spn tmid
  rw [tab_len, tab_len, hd]
 ·intro i h1 h2
  rw [tmid_get, if_neg (by omega)]
  rw [List.getElem_append]
  split
  ·rw [spn_get]
  ·rename_i h
   rw [spn_len] at h
   rw [List.getElem_replicate, col_nil W i (by omega)]
   rfl
theorem tmid_end (W : List (List S23)) (r : List S23) : tmid W r r.length = spn (W ++ [r]) := by
 unfold tmid spn
 rw [mxl_snoc]
 apply tab_congr
 intro i _
 by_cases c : i < r.length
 ·rw [if_pos c]
 ·rw [if_neg c, col_snoc' W r i (by omega)]
theorem tmid_set (W : List (List S23)) (r : List S23) (j : Nat) : (tmid W r j).set j (spanOf (col (W ++ [r]) j)) = tmid W r (j + 1) := by
 have e := tab_set (max (mxl W) r.length) (fun q => if q < j then spanOf (col (W ++ [r]) q) else spanOf (col W q)) (fun q => if q < j + 1 then spanOf (col (W ++ [r]) q) else spanOf (col W q)) j (by
  intro i hi
  by_cases c : i < j
  ·simp only [if_pos c, if_pos (show i < j + 1 by omega)]
  ·simp only [if_neg c, if_neg (show ¬ i < j + 1 by omega)])
 simp only [if_pos (show j < j + 1 by omega)] at e
 exact e
theorem ext_l1 (Q : Option (List Int × Int × (List (S106)) × Int × Int × Bool) → Prop) (B : Nat) (x5 : List Int) (r : List S23) (L : List (List S23)) (n i : Int) (ws : List Int) (p seed c : Int) (m : Bool) (hr : r.length ≤ 40) (d : Nat) : ∀ (sp : List S106), r.length - sp.length = d → sp.length ≤ 40 →
  (∀ k, B ≤ k → Q (sift_Add.l2 k x5 r L n i r (r.length : Int) 0 ws p (sp ++ List.replicate d z106) seed c m)) → ∀ k, B + d + 1 ≤ k → Q (sift_Add.l1 k x5 r L n i ws p sp seed c m) := by
 induction d with
 | zero =>
  intro sp h1 h2 hc k hk
  obtain ⟨k, rfl⟩ : ∃ m, k = m + 1 := ⟨k - 1, by omega⟩
  simp only [sift_Add.l1]
  rw [if_neg (by omega)]
  have e := hc k (by omega)
  rw [List.replicate_zero, List.append_nil] at e
  exact e
 | succ d ih =>
  intro sp h1 h2 hc k hk
  obtain ⟨k, rfl⟩ : ∃ m, k = m + 1 := ⟨k - 1, by omega⟩
  simp only [sift_Add.l1]
  rw [if_pos (by omega), if_pos (by omega)]
  refine ih (sp ++ [z106]) (by rw [List.length_append, List.length_singleton]; omega) (by rw [List.length_append, List.length_singleton]; omega) ?_ k (by omega)
  intro k2 hk2
  have e := hc k2 hk2
  rw [List.replicate_succ] at e
  rw [List.append_assoc]
  exact e
theorem put_l2 (Q : Option (List Int × Int × (List (S106)) × Int × Int × Bool) → Prop) (B : Nat) (hB : 6000 ≤ B) (x5 : List Int) (hx5 : x5.length ≤ 1000) (W : List (List S23)) (hW : W.length ≤ 1000) (r : List S23) (hr : r.length ≤ 40) (hz : ∀ y ∈ r, y.f2.size ≤ 140737488351232) (hk3 : (rkey r).size < 6000) (hwr : whB r = true) (L : List (List S23)) (n i : Int) (h0 : 0 ≤ i) (h1 : i < 1000) (ws : List Int) (p seed c : Int) (hc0 : 0 ≤ c) (hc1 : c < 1000) (m : Bool)
  (hQ : ∀ k, B ≤ k → Q (sift_Add.l0 k (x5 ++ [(rhv seed r : Int)]) L n (i + 1) ws p (spn (W ++ [r])) seed (c + 1) m)) (d : Nat) : ∀ (j k : Nat), r.length = j + d → B + d + 1 ≤ k →
  Q (sift_Add.l2 k x5 r L n i r (r.length : Int) (j : Int) ws p (tmid W r j) seed c m) := by
 induction d with
 | zero =>
  intro j k hd hk
  obtain ⟨k, rfl⟩ : ∃ m, k = m + 1 := ⟨k - 1, by omega⟩
  simp only [sift_Add.l2]
  rw [if_neg (by omega), (rhv_is seed r hz (by omega) k (by omega) (by omega)).1, bs, if_pos (by omega), w64 (n := i + 1) (by omega) (by omega), w64 (n := c + 1) (by omega) (by omega), show j = r.length by omega, tmid_end]
  exact hQ k (by omega)
 | succ d ih =>
  intro j k hd hk
  obtain ⟨k, rfl⟩ : ∃ m, k = m + 1 := ⟨k - 1, by omega⟩
  have hj : j < r.length := by omega
  have hlen : (tmid W r j).length = max (mxl W) r.length := by unfold tmid; rw [tab_len]
  have hv : r[j].f0 ≠ 0 := by
   have := List.all_eq_true.1 hwr r[j] (List.getElem_mem hj)
   simpa using this
  have es : rd_T106 (tmid W r j) (j : Int) = spanOf (col W j) := by
   rw [get106 _ _ (by omega)]
   unfold tmid
   rw [tab_get, if_neg (by omega)]
  obtain ⟨f2, f3⟩ := spanOf_f2 (col W j)
  have hcl := col_len W j
  have st := span_step (spanOf (col W j)) r[j] hv (by omega) (by omega) f3 k (by omega)
  rw [← spanOf_snoc, ← col_snoc W r j hj] at st
  have e := ih (j + 1) k (by omega) (by omega)
  rw [← tmid_set] at e
  simp only [sift_Add.l2]
  rw [if_pos (by omega), if_pos (by omega), if_pos (by omega), if_pos (by omega), es, get23 r j hj]
  show Q ((span_Add.f k (spanOf (col W j)).f0.f0 (spanOf (col W j)).f0.f1 (spanOf (col W j)).f0.f2 (spanOf (col W j)).f1.f0 (spanOf (col W j)).f1.f1 (spanOf (col W j)).f1.f2 (spanOf (col W j)).f2 (spanOf (col W j)).f3 [r[j]]).bind _)
  rw [st, bs, w64 (n := (j : Int) + 1) (by omega) (by omega), Int.toNat_natCast, show (j : Int) + 1 = ((j + 1 : Nat) : Int) by omega]
  exact e
theorem add_l0 (seed : Int) (n p : Nat) (hn1 : 1 ≤ n) (hn2 : n ≤ 4096) (hp : p ≤ 5) (L : List (List S23)) (hL : L.length ≤ 50) (hr : ∀ r ∈ L, r.length ≤ 40) (hz : ∀ r ∈ L, ∀ y ∈ r, y.f2.size ≤ 140737488351232) (hk3 : ∀ r ∈ L, (rkey r).size < 6000) (m : Bool) (B : List Bool) (ws : List Int) (R : Rel n B ws) (d : Nat) : ∀ (k i : Nat), L.length = i + d → d * 90 + 6100 ≤ k →
  ∃ ws2, sift_Add.l0 k (ints (((L.take i).filter whB).map (rhv seed))) L (L.length : Int) (i : Int) ws (p : Int) (spn ((L.take i).filter whB)) seed (((L.take i).filter whB).length : Int) m = some (ws2, (p : Int), spn (L.filter whB), seed, ((L.filter whB).length : Int), m) ∧ Rel n (((L.filter whB).map (rhv seed)).foldl (fun l h => setA l (plc h (h / 4294967296 % n) p)) B) ws2 := by
 induction d with
 | zero =>
  intro k i hd hk
  obtain ⟨k, rfl⟩ : ∃ m, k = m + 1 := ⟨k - 1, by omega⟩
  rw [List.take_of_length_le (by omega)]
  have hfl : (L.filter whB).length ≤ L.length := List.length_filter_le _ _
  obtain ⟨ws2, e, R2⟩ := badd_is p hp n hn1 hn2 ((L.filter whB).map (rhv seed)) (by
   intro h hh
   obtain ⟨r, hr2, rfl⟩ := List.mem_map.1 hh
   have hm := (List.mem_filter.1 hr2).1
   have := hr r hm
   exact (rhv_is seed r (hz r hm) (by omega) 6100 (by omega) (by have := hk3 r hm; omega)).2.2) (by rw [List.length_map]; omega) B ws R k (by rw [List.length_map]; omega)
  refine ⟨ws2, ?_, R2⟩
  simp only [sift_Add.l0]
  rw [if_neg (by omega), e, bs]
 | succ d ih =>
  intro k i hd hk
  obtain ⟨k, rfl⟩ : ∃ m, k = m + 1 := ⟨k - 1, by omega⟩
  have hi : i < L.length := by omega
  have hmem := List.getElem_mem hi
  have h40 := hr L[i] hmem
  have hfl : ((L.take i).filter whB).length ≤ i := Nat.le_trans (List.length_filter_le _ _) (by rw [List.length_take]; omega)
  have ihk := fun k2 (hk2 : d * 90 + 6100 ≤ k2) => ih k2 (i + 1) (by omega) hk2
  rw [← List.take_append_getElem hi, List.filter_append] at ihk
  simp only [sift_Add.l0]
  rw [if_pos (by omega), if_pos (by omega), if_pos (by omega), getL L i hi, whole_is L[i] (by omega) k (by omega), bs]
  by_cases c : whB L[i] = true
  ·rw [if_pos c]
   rw [List.filter_cons_of_pos c, List.filter_nil, List.map_append, List.length_append] at ihk
   have hml : mxl ((L.take i).filter whB) ≤ 40 := mxl_le _ 40 (fun r hr2 => hr r (List.mem_of_mem_take (List.mem_filter.1 hr2).1))
   have hsl : (spn ((L.take i).filter whB)).length = mxl ((L.take i).filter whB) := by unfold spn; rw [tab_len]
   refine ext_l1 (fun o => ∃ ws2, o = some (ws2, (p : Int), spn (L.filter whB), seed, ((L.filter whB).length : Int), m) ∧ Rel n (((L.filter whB).map (rhv seed)).foldl (fun l h => setA l (plc h (h / 4294967296 % n) p)) B) ws2) (d * 90 + 6100 + L[i].length + 1) _ L[i] L _ _ ws _ seed _ m h40 (L[i].length - mxl ((L.take i).filter whB)) _ (by rw [hsl]) (by rw [hsl]; exact hml) ?_ k (by omega)
   intro k2 hk2
   rw [tmid_zero _ L[i] _ (by omega)]
   refine put_l2 (fun o => ∃ ws2, o = some (ws2, (p : Int), spn (L.filter whB), seed, ((L.filter whB).length : Int), m) ∧ Rel n (((L.filter whB).map (rhv seed)).foldl (fun l h => setA l (plc h (h / 4294967296 % n) p)) B) ws2) (d * 90 + 6100) (by omega) (ints (((L.take i).filter whB).map (rhv seed))) (by simp only [ints, List.length_map]; omega) ((L.take i).filter whB) (by omega) L[i] h40 (hz _ hmem) (hk3 _ hmem) c L (L.length : Int) (i : Int) (by omega) (by omega) ws (p : Int) seed (((L.take i).filter whB).length : Int) (by omega) (by omega) m ?_ L[i].length 0 k2 (by omega) (by omega)
   intro k3 hk3'
   have e := ihk k3 hk3'
   rw [show ((i + 1 : Nat) : Int) = (i : Int) + 1 by omega] at e
   have eh : ints (((L.take i).filter whB).map (rhv seed)) ++ [(rhv seed L[i] : Int)] = ints (((L.take i).filter whB).map (rhv seed) ++ [L[i]].map (rhv seed)) := by simp [ints]
   rw [eh]
   exact e
  ·rw [if_neg c]
   rw [List.filter_cons_of_neg c, List.filter_nil, List.append_nil] at ihk
   rw [w64 (n := (i : Int) + 1) (by omega) (by omega), show (i : Int) + 1 = ((i + 1 : Nat) : Int) by omega]
   exact ihk k (by omega)
theorem add_is (seed : Int) (n p : Nat) (hn1 : 1 ≤ n) (hn2 : n ≤ 4096) (hp : p ≤ 5) (L : List (List S23)) (hL : L.length ≤ 50) (hr : ∀ r ∈ L, r.length ≤ 40) (hz : ∀ r ∈ L, ∀ y ∈ r, y.f2.size ≤ 140737488351232) (hk3 : ∀ r ∈ L, (rkey r).size < 6000) (B : List Bool) (ws : List Int) (R : Rel n B ws) (k : Nat) (hk : 11000 ≤ k) :
  ∃ ws2, sift_Add.f k ws (p : Int) ([] : List S106) seed 0 true L = some (ws2, (p : Int), spn (L.filter whB), seed, ((L.filter whB).length : Int), true) ∧ Rel n (((L.filter whB).map (rhv seed)).foldl (fun l h => setA l (plc h (h / 4294967296 % n) p)) B) ws2 := by
 unfold sift_Add.f span_Span.f
 rw [if_pos rfl, bs, if_pos (by show (0 + 0 : Nat) < _; decide), bs]
 exact add_l0 seed n p hn1 hn2 hp L hL hr hz hk3 true B ws R L.length k 0 (by omega) (by omega)

def hasFrom (W : List (List S23)) : List S23 → Nat → Bool
 | [], _ => true
 | v :: t, i => hasB (spanOf (col W i)) v && hasFrom W t (i + 1)
def passB (W : List (List S23)) (key : List S23) (b : Bool) : Bool := if W.length = 0 ∨ whB key = false ∨ mxl W < key.length then false else (hasFrom W key 0 && b)
theorem pass_l0 (seed : Int) (n p : Nat) (hn1 : 1 ≤ n) (hn2 : n ≤ 4096) (hp : p ≤ 5) (W : List (List S23)) (key : List S23) (hkey : key.length ≤ 40) (hz : ∀ y ∈ key, y.f2.size ≤ 140737488351232) (hk3 : (rkey key).size < 6000) (hw : whB key = true) (hm : key.length ≤ mxl W) (c : Int) (m : Bool) (B : List Bool) (ws : List Int) (R : Rel n B ws) (d : Nat) : ∀ (k i : Nat), key.length = i + d → d + 6100 ≤ k →
  sift_Passes.l0 k key key (key.length : Int) (i : Int) ws (p : Int) (spn W) seed c m = some (hasFrom W (key.drop i) i && (plc (rhv seed key) (rhv seed key / 4294967296 % n) p).all (gb B)) := by
 induction d with
 | zero =>
  intro k i hd hk
  obtain ⟨k, rfl⟩ : ∃ m, k = m + 1 := ⟨k - 1, by omega⟩
  obtain ⟨h1, _, h3⟩ := rhv_is seed key hz (by omega) k (by omega) (by omega)
  simp only [sift_Passes.l0]
  rw [if_neg (by omega), h1, bs, bhas_is p hp n hn1 hn2 (rhv seed key) h3 B ws R k (by omega), bs, List.drop_eq_nil_of_le (by omega)]
  rfl
 | succ d ih =>
  intro k i hd hk
  obtain ⟨k, rfl⟩ : ∃ m, k = m + 1 := ⟨k - 1, by omega⟩
  have hi : i < key.length := by omega
  have hv : key[i].f0 ≠ 0 := by
   have := List.all_eq_true.1 hw key[i] (List.getElem_mem hi)
   simpa using this
  have hsl := spn_len W
  have es : rd_T106 (spn W) (i : Int) = spanOf (col W i) := by
   rw [get106 _ _ (by omega), spn_get]
  have e := ih k (i + 1) (by omega) (by omega)
  simp only [sift_Passes.l0]
  rw [if_pos (by omega), if_pos (by omega), if_pos (by omega), if_pos (by omega), es, get23 key i hi, span_has_is _ _ hv k (by omega), bs, w64 (by omega) (by omega), show (i : Int) + 1 = ((i + 1 : Nat) : Int) by omega, e, List.drop_eq_getElem_cons hi]
  simp only [hasFrom]
  cases hasB (spanOf (col W i)) key[i]
  ·rfl
  ·rfl
theorem pass_is (seed : Int) (n p : Nat) (hn1 : 1 ≤ n) (hn2 : n ≤ 4096) (hp : p ≤ 5) (W : List (List S23)) (key : List S23) (hkey : key.length ≤ 40) (hz : ∀ y ∈ key, y.f2.size ≤ 140737488351232) (hk3 : (rkey key).size < 6000) (m : Bool) (B : List Bool) (ws : List Int) (R : Rel n B ws) (k : Nat) (hk : 6200 ≤ k) :
  sift_Passes.f k ws (p : Int) (spn W) seed (W.length : Int) m key = some (passB W key ((plc (rhv seed key) (rhv seed key / 4294967296 % n) p).all (gb B))) := by
 obtain ⟨k, rfl⟩ : ∃ m, k = m + 1 := ⟨k - 1, by omega⟩
 have jt : ∀ (a : List Int) (b : Int) (c : List S106) (d e : Int) (f : Bool), sift_Passes.j0 (k + 1) key true a b c d e f = some false := by
  intro a b c d e f
  simp only [sift_Passes.j0]
  rw [if_pos trivial]
 unfold sift_Passes.f passB
 by_cases c1 : W.length = 0
 ·rw [if_pos (by omega), jt, if_pos (.inl c1)]
 ·rw [if_neg (by omega), whole_is key (by omega) (k + 1) (by omega), bs]
  by_cases c2 : whB key = true
  ·rw [if_pos c2, spn_len]
   by_cases c3 : mxl W < key.length
   ·rw [decide_eq_true (by omega), jt, if_pos (.inr (.inr c3))]
   ·have hn : ¬ (W.length = 0 ∨ whB key = false ∨ mxl W < key.length) := by
     rintro (h | h | h)
     ·exact c1 h
     ·rw [c2] at h
      cases h
     ·exact c3 h
    rw [decide_eq_false (by omega), if_neg hn]
    simp only [sift_Passes.j0]
    rw [if_neg (by simp)]
    exact pass_l0 seed n p hn1 hn2 hp W key hkey hz hk3 c2 (by omega) _ m B ws R key.length k 0 (by omega) (by omega)
  ·rw [if_neg c2, jt, if_pos (.inr (.inl (Bool.eq_false_iff.2 c2)))]
def bitsOf (seed : Int) (n p : Nat) (W : List (List S23)) : List Bool := (W.map (rhv seed)).foldl (fun l h => setA l (plc h (h / 4294967296 % n) p)) (List.replicate (64 * n) false)
theorem bitsOf_len (seed : Int) (n p : Nat) (W : List (List S23)) : (bitsOf seed n p W).length = 64 * n := by
 unfold bitsOf
 have : ∀ (H : List Nat) (B : List Bool), (H.foldl (fun l h => setA l (plc h (h / 4294967296 % n) p)) B).length = B.length := by
  intro H
  induction H with
  | nil => exact fun B => rfl
  | cons a H ih =>
   intro B
   rw [List.foldl_cons, ih, setA_len]
 rw [this, List.length_replicate]
theorem bits_l0 (seed : Int) (n p : Nat) (hn1 : 1 ≤ n) (hn2 : n ≤ 4096) (hp : p ≤ 5) (W : List (List S23)) (hW : W.length ≤ 1000) (hr : ∀ r ∈ W, r.length ≤ 40) (hz : ∀ r ∈ W, ∀ y ∈ r, y.f2.size ≤ 140737488351232) (hk3 : ∀ r ∈ W, (rkey r).size < 6000) (d : Nat) : ∀ (k i : Nat) (B : List Bool), B.length = 64 * n → W.length = i + d → d + 6100 ≤ k →
  trommelref20_Bits.l0 k seed W (i : Int) B (p : Int) = some (((W.drop i).map (rhv seed)).foldl (fun l h => setA l (plc h (h / 4294967296 % n) p)) B, (p : Int)) := by
 induction d with
 | zero =>
  intro k i B hB hd hk
  obtain ⟨k, rfl⟩ : ∃ m, k = m + 1 := ⟨k - 1, by omega⟩
  simp only [trommelref20_Bits.l0]
  rw [if_neg (by omega), List.drop_eq_nil_of_le (by omega)]
  rfl
 | succ d ih =>
  intro k i B hB hd hk
  obtain ⟨k, rfl⟩ : ∃ m, k = m + 1 := ⟨k - 1, by omega⟩
  have hi : i < W.length := by omega
  have hmem := List.getElem_mem hi
  have h40 := hr W[i] hmem
  obtain ⟨_, h2, h3⟩ := rhv_is seed W[i] (hz _ hmem) (by omega) k (by omega) (by have := hk3 _ hmem; omega)
  have e := ih k (i + 1) (setA B (plc (rhv seed W[i]) (rhv seed W[i] / 4294967296 % n) p)) (by rw [setA_len]; exact hB) (by omega) (by omega)
  simp only [trommelref20_Bits.l0]
  rw [if_pos (by omega), if_pos (by omega), getL W i hi, h2, bs, radd_is (rhv seed W[i]) n p hp h3 hn1 hn2 B hB k (by omega), bs, w64 (by omega) (by omega), show (i : Int) + 1 = ((i + 1 : Nat) : Int) by omega, e, List.drop_eq_getElem_cons hi, List.map_cons, List.foldl_cons]
def held (a lo hi : Int) : Int := if a < lo then lo else if a > hi then hi else a
theorem held_is (a lo hi : Int) : trommelref18_held.f a lo hi = some (held a lo hi) := by
 unfold trommelref18_held.f held
 split
 ·rfl
 ·split <;> rfl
theorem held_mm (a lo hi : Int) (h : lo ≤ hi) : mn (mx a lo) hi = held a lo hi := by
 unfold mn mx held
 split <;> split <;> (try split) <;> omega
theorem rnew_is (a b : Int) (n p : Nat) (hn : held a 1 4096 = (n : Int)) (hn2 : n ≤ 4096) (hp : held b 1 5 = (p : Int)) : trommelref18_New.f a b = some (List.replicate (64 * n) false, (p : Int)) := by
 unfold trommelref18_New.f
 rw [held_is, bs, hn, w64 (by omega) (by omega), if_pos (by omega), if_pos (by omega), held_is, bs, hp, show (64 * (n : Int)).toNat = 64 * n by omega]
theorem new_is (s a b : Int) (n p : Nat) (hn : held a 1 4096 = (n : Int)) (hn2 : n ≤ 4096) (hp : held b 1 5 = (p : Int)) : sift_New.f s a b = some (List.replicate n 0, (p : Int), [], s, 0, true) := by
 unfold sift_New.f bloom_New.f
 rw [held_mm a 1 4096 (by decide), held_mm b 1 5 (by decide), hn, hp, if_pos (by omega), if_pos (by omega), bs, Int.toNat_natCast]
theorem bits_is (seed a b : Int) (n p : Nat) (hn : held a 1 4096 = (n : Int)) (hp : held b 1 5 = (p : Int)) (hn1 : 1 ≤ n) (hn2 : n ≤ 4096) (hp2 : p ≤ 5) (L : List (List S23)) (hL : L.length ≤ 50) (hr : ∀ r ∈ L, r.length ≤ 40) (hz : ∀ r ∈ L, ∀ y ∈ r, y.f2.size ≤ 140737488351232) (hk3 : ∀ r ∈ L, (rkey r).size < 6000) (k : Nat) (hk : 6200 ≤ k) :
  trommelref20_Bits.f k seed a b L = some (bitsOf seed n p (L.filter whB), (p : Int)) := by
 have hfl : (L.filter whB).length ≤ L.length := List.length_filter_le _ _
 unfold trommelref20_Bits.f
 rw [rnew_is a b n p hn hn2 hp, bs, wholes_is L (by omega) hr k (by omega), bs]
 exact bits_l0 seed n p hn1 hn2 hp2 (L.filter whB) (by omega) (fun r h => hr r (List.mem_filter.1 h).1) (fun r h => hz r (List.mem_filter.1 h).1) (fun r h => hk3 r (List.mem_filter.1 h).1) (L.filter whB).length k 0 _ (by simp) (by omega) (by omega)

theorem mxl_l0 (seed a b : Int) (L : List (List S23)) (key : List S23) (W : List (List S23)) (hW : W.length ≤ 1000) (hr : ∀ r ∈ W, r.length ≤ 40) (v : Option Bool) (B : Nat) (hv : ∀ k, B ≤ k → (if (W.length : Int) = 0 then (trommelref20_Passes.j1 k seed a b L key W true) else ((trommelref20_Whole.f k key).bind fun t => (if t = true then (trommelref20_Passes.j1 k seed a b L key W (decide ((key.length : Int) > (mxl W : Int)))) else (trommelref20_Passes.j1 k seed a b L key W true)))) = v) (d : Nat) : ∀ (k i : Nat), W.length = i + d → B + d + 1 ≤ k →
  trommelref20_Passes.l0 k seed a b L key W (mxl (W.take i) : Int) (i : Int) = v := by
 induction d with
 | zero =>
  intro k i hd hk
  obtain ⟨k, rfl⟩ : ∃ m, k = m + 1 := ⟨k - 1, by omega⟩
  simp only [trommelref20_Passes.l0]
  rw [if_neg (by omega), List.take_of_length_le (by omega)]
  exact hv k (by omega)
 | succ d ih =>
  intro k i hd hk
  obtain ⟨k, rfl⟩ : ∃ m, k = m + 1 := ⟨k - 1, by omega⟩
  have hi : i < W.length := by omega
  have e := ih k (i + 1) (by omega) (by omega)
  rw [← List.take_append_getElem hi, mxl_snoc] at e
  simp only [trommelref20_Passes.l0]
  rw [if_pos (by omega), if_pos (by omega), getL W i hi, w64 (by omega) (by omega), show (i : Int) + 1 = ((i + 1 : Nat) : Int) by omega]
  by_cases c : (W[i].length : Int) > (mxl (W.take i) : Int)
  ·rw [if_pos c]
   rw [show max (mxl (W.take i)) W[i].length = W[i].length by omega] at e
   exact e
  ·rw [if_neg c]
   rw [show max (mxl (W.take i)) W[i].length = mxl (W.take i) by omega] at e
   exact e
theorem at_l2 (seed a b : Int) (L : List (List S23)) (key : List S23) (W : List (List S23)) (hW : W.length ≤ 1000) (i : Nat) (hi : i < key.length) (v : Option Bool) (B : Nat) (hv : ∀ k, B ≤ k → ((trommelref19_Has.f k (col W i) key[i].f0 key[i].f1 key[i].f2).bind fun t => (if t = true then (trommelref20_Passes.l1 k seed a b L key W (wrap64 ((i : Int) + 1))) else (some false))) = v) (d : Nat) : ∀ (k j : Nat), W.length = j + d → B + d + 1 ≤ k →
  trommelref20_Passes.l2 k seed a b L key W (i : Int) (col (W.take j) i) (j : Int) = v := by
 induction d with
 | zero =>
  intro k j hd hk
  obtain ⟨k, rfl⟩ : ∃ m, k = m + 1 := ⟨k - 1, by omega⟩
  simp only [trommelref20_Passes.l2]
  rw [if_neg (by omega), List.take_of_length_le (by omega), if_pos (by omega), if_pos (by omega), get23 key i hi]
  exact hv k (by omega)
 | succ d ih =>
  intro k j hd hk
  obtain ⟨k, rfl⟩ : ∃ m, k = m + 1 := ⟨k - 1, by omega⟩
  have hj : j < W.length := by omega
  have e := ih k (j + 1) (by omega) (by omega)
  have hcl := col_len (W.take j) i
  rw [List.length_take] at hcl
  rw [← List.take_append_getElem hj] at e
  simp only [trommelref20_Passes.l2]
  rw [if_pos (by omega), if_pos (by omega), getL W j hj, w64 (by omega) (by omega), show (j : Int) + 1 = ((j + 1 : Nat) : Int) by omega]
  by_cases c : (i : Int) < (W[j].length : Int)
  ·rw [if_pos c, if_pos (by omega), if_pos (by omega), get23 W[j] i (by omega)]
   rw [col_snoc _ _ i (by omega)] at e
   exact e
  ·rw [if_neg c]
   rw [col_snoc' _ _ i (by omega)] at e
   exact e
theorem rpass_l1 (seed a b : Int) (n p : Nat) (hn : held a 1 4096 = (n : Int)) (hp : held b 1 5 = (p : Int)) (hn1 : 1 ≤ n) (hn2 : n ≤ 4096) (hp2 : p ≤ 5) (L : List (List S23)) (hL : L.length ≤ 50) (hr : ∀ r ∈ L, r.length ≤ 40) (hz : ∀ r ∈ L, ∀ y ∈ r, y.f2.size ≤ 2000) (hk3 : ∀ r ∈ L, (rkey r).size < 6000) (key : List S23) (hkey : key.length ≤ 40) (hzk : ∀ y ∈ key, y.f2.size ≤ 2000) (hkk : (rkey key).size < 6000) (hw : whB key = true) (d : Nat) : ∀ (k i : Nat), key.length = i + d → d * 60 + 6300 ≤ k →
  trommelref20_Passes.l1 k seed a b L key (L.filter whB) (i : Int) = some (hasFrom (L.filter whB) (key.drop i) i && (plc (rhv seed key) (rhv seed key / 4294967296 % n) p).all (gb (bitsOf seed n p (L.filter whB)))) := by
 have hz' : ∀ r ∈ L, ∀ y ∈ r, y.f2.size ≤ 140737488351232 := fun r h y hy => by have := hz r h y hy; omega
 have hzk' : ∀ y ∈ key, y.f2.size ≤ 140737488351232 := fun y hy => by have := hzk y hy; omega
 have hfl : (L.filter whB).length ≤ L.length := List.length_filter_le _ _
 induction d with
 | zero =>
  intro k i hd hk
  obtain ⟨k, rfl⟩ : ∃ m, k = m + 1 := ⟨k - 1, by omega⟩
  obtain ⟨_, h2, h3⟩ := rhv_is seed key hzk' (by omega) k (by omega) (by omega)
  simp only [trommelref20_Passes.l1]
  rw [if_neg (by omega), bits_is seed a b n p hn hp hn1 hn2 hp2 L hL hr hz' hk3 k (by omega), bs, h2, bs, rhas_is (rhv seed key) n p hp2 h3 hn1 hn2 _ (bitsOf_len _ _ _ _) k (by omega), bs, List.drop_eq_nil_of_le (by omega)]
  rfl
 | succ d ih =>
  intro k i hd hk
  obtain ⟨k, rfl⟩ : ∃ m, k = m + 1 := ⟨k - 1, by omega⟩
  have hi : i < key.length := by omega
  have hv0 : key[i].f0 ≠ 0 := by
   have := List.all_eq_true.1 hw key[i] (List.getElem_mem hi)
   simpa using this
  have hcol : ∀ v ∈ col (L.filter whB) i, v.f0 ≠ 0 ∧ v.f2.size ≤ 2000 := by
   intro v hv
   obtain ⟨r, hr2, hm⟩ := col_mem _ _ _ hv
   obtain ⟨hrL, hrw⟩ := List.mem_filter.1 hr2
   have := List.all_eq_true.1 hrw v hm
   exact ⟨by simpa using this, hz r hrL v hm⟩
  have hcl := col_len (L.filter whB) i
  simp only [trommelref20_Passes.l1]
  rw [if_pos (by omega)]
  refine at_l2 seed a b L key (L.filter whB) (by omega) i hi _ (d * 60 + 6300) ?_ (L.filter whB).length k 0 (by omega) (by omega)
  intro k2 hk2
  rw [ref_has_is (col (L.filter whB) i) (fun v hv => (hcol v hv).1) 2000 (fun v hv => (hcol v hv).2) (by omega) (by omega) key[i] hv0 (hzk _ (List.getElem_mem hi)) k2 (by omega), bs, w64 (by omega) (by omega), show (i : Int) + 1 = ((i + 1 : Nat) : Int) by omega, ih k2 (i + 1) (by omega) hk2, List.drop_eq_getElem_cons hi]
  simp only [hasFrom]
  cases hasB (spanOf (col (L.filter whB) i)) key[i]
  ·rfl
  ·rfl
theorem rpass_is (seed a b : Int) (n p : Nat) (hn : held a 1 4096 = (n : Int)) (hp : held b 1 5 = (p : Int)) (hn1 : 1 ≤ n) (hn2 : n ≤ 4096) (hp2 : p ≤ 5) (L : List (List S23)) (hL : L.length ≤ 50) (hr : ∀ r ∈ L, r.length ≤ 40) (hz : ∀ r ∈ L, ∀ y ∈ r, y.f2.size ≤ 2000) (hk3 : ∀ r ∈ L, (rkey r).size < 6000) (key : List S23) (hkey : key.length ≤ 40) (hzk : ∀ y ∈ key, y.f2.size ≤ 2000) (hkk : (rkey key).size < 6000) (k : Nat) (hk : 9000 ≤ k) :
  trommelref20_Passes.f k seed a b L key = some (passB (L.filter whB) key ((plc (rhv seed key) (rhv seed key / 4294967296 % n) p).all (gb (bitsOf seed n p (L.filter whB))))) := by
 have hfl : (L.filter whB).length ≤ L.length := List.length_filter_le _ _
 unfold trommelref20_Passes.f
 rw [wholes_is L (by omega) hr k (by omega), bs]
 refine mxl_l0 seed a b L key (L.filter whB) (by omega) (fun r h => hr r (List.mem_filter.1 h).1) _ 8800 ?_ (L.filter whB).length k 0 (by omega) (by omega)
 intro k hk
 obtain ⟨k, rfl⟩ : ∃ m, k = m + 1 := ⟨k - 1, by omega⟩
 have jt : trommelref20_Passes.j1 (k + 1) seed a b L key (L.filter whB) true = some false := by
  simp only [trommelref20_Passes.j1]
  rw [if_pos trivial]
 unfold passB
 by_cases c1 : (L.filter whB).length = 0
 ·rw [if_pos (by omega), jt, if_pos (.inl c1)]
 ·rw [if_neg (by omega), rwhole_is key (by omega) (k + 1) (by omega), bs]
  by_cases c2 : whB key = true
  ·rw [if_pos c2]
   by_cases c3 : mxl (L.filter whB) < key.length
   ·rw [decide_eq_true (by omega), jt, if_pos (.inr (.inr c3))]
   ·have hn0 : ¬ ((L.filter whB).length = 0 ∨ whB key = false ∨ mxl (L.filter whB) < key.length) := by
     rintro (h | h | h)
     ·exact c1 h
     ·rw [c2] at h
      cases h
     ·exact c3 h
    rw [decide_eq_false (by omega), if_neg hn0]
    simp only [trommelref20_Passes.j1]
    rw [if_neg (by simp)]
    exact rpass_l1 seed a b n p hn hp hn1 hn2 hp2 L hL hr hz hk3 key hkey hzk hkk c2 key.length k 0 (by omega) (by omega)
  ·rw [if_neg c2, jt, if_pos (.inr (.inl (Bool.eq_false_iff.2 c2)))]
theorem live20 : trommellaw20_live.f 300 = some true := by decide +kernel
theorem live20_all (k : Nat) : trommellaw20_live.f (300 + k) = some true := by
 induction k with
 | zero => exact live20
 | succ k ih => exact trommellaw20_live.mono (300 + k) true ih
theorem live20_is (k : Nat) (h : 300 ≤ k) : trommellaw20_live.f k = some true := by
 obtain ⟨m, rfl⟩ : ∃ m, k = 300 + m := ⟨k - 300, by omega⟩
 exact live20_all m
theorem law_l0 (x0 x1 x2 : Int) (L : List (List S23)) (key : List S23) (ws : List Int) (p : Int) (sp : List S106) (sd c : Int) (m : Bool) (B : List Bool) (hB : B.length ≤ 262144) (v : Option Bool) (N : Nat)
  (hv : ∀ k, N ≤ k → trommellaw20_SiftPasses.l0 (k + 1) x0 x1 x2 L key (cnt B B.length : Int) (B.length : Int) ws p sp sd c m B p = v) (d : Nat) : ∀ (k i : Nat), B.length = i + d → N + d + 1 ≤ k →
  trommellaw20_SiftPasses.l0 k x0 x1 x2 L key (cnt B i : Int) (i : Int) ws p sp sd c m B p = v := by
 induction d with
 | zero =>
  intro k i hd hk
  obtain ⟨k, rfl⟩ : ∃ m, k = m + 1 := ⟨k - 1, by omega⟩
  rw [show i = B.length by omega]
  exact hv k (by omega)
 | succ d ih =>
  intro k i hd hk
  obtain ⟨k, rfl⟩ : ∃ m, k = m + 1 := ⟨k - 1, by omega⟩
  have e := ih k (i + 1) (by omega) (by omega)
  have hc := cnt_le B i
  have eb : rdOf false B (i : Int) = gb B i := by
   unfold rdOf gb
   rw [Int.toNat_natCast]
  rw [trommellaw20_SiftPasses.l0, if_pos (by omega), if_pos (by omega), eb, w64 (n := (i : Int) + 1) (by omega) (by omega), w64 (n := (cnt B i : Int) + 1) (by omega) (by omega), show (i : Int) + 1 = ((i + 1 : Nat) : Int) by omega]
  simp only [cnt] at e
  by_cases c : gb B i = true
  ·rw [if_pos c]
   rw [if_pos c] at e
   exact e
  ·rw [if_neg c]
   rw [if_neg c] at e
   exact e
theorem held_range (a hi : Int) (h : 1 ≤ hi) : 1 ≤ held a 1 hi ∧ held a 1 hi ≤ hi := by
 unfold held
 split
 ·omega
 ·split <;> omega
theorem SiftPasses : trommellaw20_SiftPasses.Pure := by
 intro x0 x1 x2 L key _ _ _ hL hkey
 obtain ⟨hLl, hLw⟩ := hL
 obtain ⟨hkl, hkw⟩ := hkey
 refine ⟨40000, ?_⟩
 have hs : ∀ r ∈ (key :: L), ∀ y ∈ r, y.f2.size ≤ 140737488351232 := by
  intro r hr y hy
  rcases List.mem_cons.1 hr with rfl | hr
  ·exact (hkw y hy).2.2
  ·exact ((hLw r hr).2 y hy).2.2
 obtain ⟨b, hb, hp⟩ := much_is (key :: L) hs (by rw [List.length_cons]; omega) 40000 (by omega)
 have hm : trommellaw20_much.f 40000 L key x1 = some (if b = true then true else decide (x1 > 40)) := by
  unfold trommellaw20_much.f
  rw [bs, if_pos (by show (1 + L.length : Nat) < _; omega)]
  show ((trommelref04_Much.f 40000 (key :: L)).bind _) = _
  rw [hb, bs]
  cases b
  ·rfl
  ·rfl
 unfold trommellaw20_SiftPasses.f
 rw [hm, bs]
 cases b with
 | true =>
  rw [if_pos rfl, live20_is 40000 (by omega), bs]
  rfl
 | false =>
  rw [if_neg (show ¬ (false = true) by decide)]
  by_cases c : x1 > 40
  ·rw [decide_eq_true c, if_pos rfl, live20_is 40000 (by omega), bs]
  ·rw [decide_eq_false c, if_neg (by decide)]
   obtain ⟨h50, h40, htot⟩ := hp rfl
   rw [List.length_cons] at h50
   have hr : ∀ r ∈ L, r.length ≤ 40 := fun r hr => h40 r (List.mem_cons_of_mem _ hr)
   have hkl40 : key.length ≤ 40 := h40 key List.mem_cons_self
   have hrow : ∀ r ∈ (key :: L), rowN r ≤ 2000 := fun r hr => by have := totN_le (key :: L) r hr; omega
   have hz2 : ∀ r ∈ (key :: L), ∀ y ∈ r, y.f2.size ≤ 2000 := fun r hr y hy => by have := rowN_le r y hy; have := hrow r hr; omega
   have hk3 : ∀ r ∈ (key :: L), (rkey r).size < 6000 := fun r hr => by
    have e1 := rkey_small r (hs r hr)
    have e2 := hrow r hr
    have e3 := h40 r hr
    omega
   obtain ⟨r1, r2⟩ := held_range x1 4096 (by decide)
   obtain ⟨r3, r4⟩ := held_range x2 5 (by decide)
   have r5 : held x1 1 4096 ≤ 40 := by unfold held; split <;> (try split) <;> omega
   obtain ⟨n, hn⟩ := Int.eq_ofNat_of_zero_le (show 0 ≤ held x1 1 4096 by omega)
   obtain ⟨p, hpp⟩ := Int.eq_ofNat_of_zero_le (show 0 ≤ held x2 1 5 by omega)
   have hrL : ∀ r ∈ L, ∀ y ∈ r, y.f2.size ≤ 140737488351232 := fun r h => hs r (List.mem_cons_of_mem _ h)
   have hk3L : ∀ r ∈ L, (rkey r).size < 6000 := fun r h => hk3 r (List.mem_cons_of_mem _ h)
   rw [new_is x0 x1 x2 n p hn (by omega) hpp, bs]
   show ((sift_Add.f 40000 (List.replicate n 0) (p : Int) [] x0 0 true L).bind _) = _
   obtain ⟨ws, ea, R⟩ := add_is x0 n p (by omega) (by omega) (by omega) L (by omega) hr hrL hk3L _ _ (rel_new n) 40000 (by omega)
   rw [ea, bs, bits_is x0 x1 x2 n p hn hpp (by omega) (by omega) (by omega) L (by omega) hr hrL hk3L 40000 (by omega), bs]
   have hBl := bitsOf_len x0 n p (L.filter whB)
   have R' : Rel n (bitsOf x0 n p (L.filter whB)) ws := R
   show trommellaw20_SiftPasses.l0 40000 x0 x1 x2 L key 0 0 ws (p : Int) (spn (L.filter whB)) x0 ((L.filter whB).length : Int) true (bitsOf x0 n p (L.filter whB)) (p : Int) = some true
   generalize hBB : bitsOf x0 n p (L.filter whB) = B at *
   refine law_l0 x0 x1 x2 L key ws (p : Int) _ x0 _ true B (by omega) _ 20000 ?_ B.length 40000 0 (by omega) (by omega)
   intro k hk
   have hps := pass_is x0 n p (by omega) (by omega) (by omega) (L.filter whB) key hkl40 (hs key List.mem_cons_self) (hk3 key List.mem_cons_self) true B ws R' k (by omega)
   have hrp := rpass_is x0 x1 x2 n p hn hpp (by omega) (by omega) (by omega) L (by omega) hr (fun r h => hz2 r (List.mem_cons_of_mem _ h)) hk3L key hkl40 (hz2 key List.mem_cons_self) (hk3 key List.mem_cons_self) k (by omega)
   rw [hBB] at hrp
   have hcount : trommelref20_Count.f k L = some ((L.filter whB).length : Int) := by
    unfold trommelref20_Count.f
    rw [wholes_is L (by omega) hr k (by omega), bs]
   have hones : sift_Ones.f k ws (p : Int) (spn (L.filter whB)) x0 ((L.filter whB).length : Int) true = some (cnt B B.length : Int) := by
    unfold sift_Ones.f
    rw [bones_is R' (by omega) _ k (by omega), bs]
   rw [trommellaw20_SiftPasses.l0, if_neg (by omega), hps, bs, hrp, bs, beq_self_eq_true, if_pos rfl]
   unfold sift_Count.f
   rw [bs, hcount, bs, if_pos rfl, hones, bs, if_pos rfl, whole_is key (by omega) k (by omega), bs, rwhole_is key (by omega) k (by omega), bs, beq_self_eq_true, if_pos rfl, live20_is k (by omega), bs]

end Go.Proofs.YtcfgjaggccnoaaaDoor.Pure
