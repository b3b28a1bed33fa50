/- For every seed, every value and every row, the program's number of the value and its number of the row are the document's, by the texts that tell values and rows apart. Conditions: none beyond the law's own guards; the library's table of powers of ten is read as the program's text lays it. -/
import Derived.Test.YtcfgjaggccnoaaaDoorWfHashVals
import Derived.Laws.BitsLemmas
import Derived.Lib.ItoaNum
import Derived.Lib.ItoaLen
import Derived.Lib.ItoaMem
import Derived.Test.YtcfgjaggccnoaaaDoorPHashValsx3
namespace Go.Proofs.YtcfgjaggccnoaaaDoor.Pure
open Go.RowKit Go.Proofs.YtcfgjaggccnoaaaDoor.PHashVals Go.Proofs.YtcfgjaggccnoaaaDoorW.PrintWords Go.Proofs.YtcfgjaggccnoaaaDoorW.PrintLast
set_option linter.unusedVariables false
set_option linter.unusedSimpArgs false
set_option maxRecDepth 100000

theorem bs {α β : Type} (a : α) (f : α → Option β) : (some a).bind f = f a := (Option.bind_some a f).trans (Eq.refl _)

theorem str_eq {s t : ByteArray} (h : s.toList = t.toList) : s = t := by
  have h2 : s.data.toList = t.data.toList := by rw [← ByteArray.toList_eq s, ← ByteArray.toList_eq t]; exact h
  apply ByteArray.ext
  exact Array.ext' h2

theorem u64_wrap (n : Int) : IntKind.u64.wrap n = n % 18446744073709551616 := by
  simp [IntKind.wrap, IntKind.bits, IntKind.signed]

theorem u64_range (n : Int) : 0 ≤ IntKind.u64.wrap n ∧ IntKind.u64.wrap n < 18446744073709551616 := by
  rw [u64_wrap]; omega

theorem u64_in {n : Int} (h0 : 0 ≤ n) (h1 : n < 18446744073709551616) : IntKind.u64.wrap n = n := by
  rw [u64_wrap]; omega

theorem u64_wf {n : Int} (h : (Lit.int .u64 n).wf = true) : 0 ≤ n ∧ n < 18446744073709551616 := by
  have h2 : decide (IntKind.u64.min ≤ n) = true ∧ decide (n ≤ IntKind.u64.max) = true := by
    simpa [Lit.wf] using h
  have e0 : IntKind.u64.min = 0 := by decide
  have e1 : IntKind.u64.max = 18446744073709551615 := by decide
  have := of_decide_eq_true h2.1
  have := of_decide_eq_true h2.2
  omega

theorem i64_wf {n : Int} (h : (Lit.int .i64 n).wf = true) : -9223372036854775808 ≤ n ∧ n < 9223372036854775808 := by
  have h2 : decide (IntKind.i64.min ≤ n) = true ∧ decide (n ≤ IntKind.i64.max) = true := by
    simpa [Lit.wf] using h
  have e0 : IntKind.i64.min = -9223372036854775808 := by decide
  have e1 : IntKind.i64.max = 9223372036854775807 := by decide
  have := of_decide_eq_true h2.1
  have := of_decide_eq_true h2.2
  omega

theorem u8_wf {n : Int} (h : (Lit.int .u8 n).wf = true) : 0 ≤ n ∧ n < 256 := by
  have h2 : decide (IntKind.u8.min ≤ n) = true ∧ decide (n ≤ IntKind.u8.max) = true := by
    simpa [Lit.wf] using h
  have e0 : IntKind.u8.min = 0 := by decide
  have e1 : IntKind.u8.max = 255 := by decide
  have := of_decide_eq_true h2.1
  have := of_decide_eq_true h2.2
  omega

theorem w64 {n : Int} (h0 : -9223372036854775808 ≤ n) (h1 : n < 9223372036854775808) : wrap64 n = n := by
  unfold wrap64; omega

theorem bits_u64 (op : BinOp) (x y : Int) : 0 ≤ Go.bits op .u64 x y ∧ Go.bits op .u64 x y < 18446744073709551616 := by
  unfold Go.bits
  exact u64_range _

theorem div_same (x : Int) (n : Int) (h0 : 0 ≤ x) (h1 : x < 18446744073709551616) (hn : 1 ≤ n) : IntKind.u64.wrap (Int.tdiv x n) = x / n := by
  rw [Int.tdiv_eq_ediv_of_nonneg h0]
  have a : 0 ≤ x / n := Int.ediv_nonneg h0 (by omega)
  have b : x / n ≤ x := Int.ediv_le_self _ h0
  exact u64_in a (by omega)

theorem mix_same (a : Int) (h0 : 0 ≤ a) (h1 : a < 18446744073709551616) : trommelref17_Mix.f a = hash_Mix.f a := by
  unfold trommelref17_Mix.f hash_Mix.f
  rw [div_same a _ h0 h1 (by decide)]
  rw [div_same _ 536870912 (u64_range _).1 (u64_range _).2 (by decide)]
  rw [div_same _ 4294967296 (u64_range _).1 (u64_range _).2 (by decide)]

theorem mix_some (a : Int) : ∃ r, hash_Mix.f a = some r ∧ 0 ≤ r ∧ r < 18446744073709551616 :=
  ⟨_, rfl, (bits_u64 _ _ _).1, (bits_u64 _ _ _).2⟩

theorem live17 : trommellaw17_live.f = some true := by
  have b : Go.bits .xor .u64 0 0 = 0 := by unfold Go.bits; simp [u64_wrap]
  have e : hash_Mix.f 0 = some 0 := by
    unfold hash_Mix.f
    simp [b, u64_wrap]
  unfold trommellaw17_live.f
  rw [e, mix_same 1 (by decide) (by decide)]
  obtain ⟨r, hr, _⟩ := mix_some 1
  rw [hr]
  simp only [bs, if_true, beq_self_eq_true]

theorem start_is (seed : Int) : hash_Start.f seed = hash_Mix.f (IntKind.u64.wrap ((IntKind.u64.wrap (seed)) + 2685821657736338717)) := by
  unfold hash_Start.f
  generalize hash_Mix.f (IntKind.u64.wrap ((IntKind.u64.wrap (seed)) + 2685821657736338717)) = o
  cases o <;> rfl

theorem byte_some (h b : Int) : ∃ r, hash_Byte.f h b = some r ∧ 0 ≤ r ∧ r < 18446744073709551616 :=
  ⟨_, rfl, (u64_range _).1, (u64_range _).2⟩

theorem text_l0 (s : ByteArray) (hs : s.size ≤ 140737488355328) (d : Nat) : ∀ (k : Nat) (h i : Int), 0 ≤ i → i ≤ s.size → (s.size : Int) - i = d → d < k → ∃ r, hash_text.l0 k s h (s.size : Int) i = some r ∧ 0 ≤ r ∧ r < 18446744073709551616 := by
  induction d with
  | zero =>
    intro k h i h0 h1 hd hk
    obtain ⟨k, rfl⟩ : ∃ m, k = m + 1 := ⟨k - 1, by omega⟩
    obtain ⟨r, hr, h2⟩ := mix_some h
    refine ⟨r, ?_, h2⟩
    simp only [hash_text.l0]
    rw [if_neg (by omega), hr, bs]
  | succ d ih =>
    intro k h i h0 h1 hd hk
    obtain ⟨k, rfl⟩ : ∃ m, k = m + 1 := ⟨k - 1, by omega⟩
    obtain ⟨b, hb, _⟩ := byte_some h (bt s i)
    obtain ⟨r, hr, h2⟩ := ih k b (i + 1) (by omega) (by omega) (by omega) (by omega)
    refine ⟨r, ?_, h2⟩
    simp only [hash_text.l0]
    rw [if_pos (by omega), if_pos h0, if_pos (by omega), hb, bs, w64 (by omega) (by omega)]
    exact hr

theorem text_some (seed : Int) (s : ByteArray) (hs : s.size ≤ 140737488355328) (k : Nat) (hk : s.size < k) : ∃ r, hash_text.f k seed s = some r ∧ 0 ≤ r ∧ r < 18446744073709551616 := by
  obtain ⟨h, hh, _⟩ := mix_some (IntKind.u64.wrap ((IntKind.u64.wrap (seed)) + 2685821657736338717))
  obtain ⟨r, hr, h2⟩ := text_l0 s hs s.size k h 0 (by omega) (by omega) (by omega) hk
  refine ⟨r, ?_, h2⟩
  unfold hash_text.f
  rw [start_is, hh, bs]
  exact hr

theorem key_l0 (x : Int) (d : Nat) : ∀ (k : Nat) (l : List Int) (i : Int), 0 ≤ i → i ≤ 8 → (8 : Int) - i = d → l.length = i + 1 → d < k → ∃ r, val_Key.l0 k x l i = some r ∧ r.size ≤ 9 := by
  induction d with
  | zero =>
    intro k l i h0 h1 hd hl hk
    obtain ⟨k, rfl⟩ : ∃ m, k = m + 1 := ⟨k - 1, by omega⟩
    refine ⟨strOfNums l, ?_, ?_⟩
    · simp only [val_Key.l0]
      rw [if_neg (by omega)]
    · have e : (strOfNums l).size = l.length := by simp [strOfNums, ByteArray.size]
      omega
  | succ d ih =>
    intro k l i h0 h1 hd hl hk
    obtain ⟨k, rfl⟩ : ∃ m, k = m + 1 := ⟨k - 1, by omega⟩
    obtain ⟨r, hr, h2⟩ := ih k (l ++ [shr .u64 x (wrap64 (56 - (wrap64 (8 * i)))) % 256]) (i + 1) (by omega) (by omega) (by omega) (by simp; omega) (by omega)
    refine ⟨r, ?_, h2⟩
    simp only [val_Key.l0]
    have e : wrap64 (56 - wrap64 (8 * i)) = 56 - 8 * i := by rw [w64 (n := 8 * i) (by omega) (by omega), w64 (by omega) (by omega)]
    rw [if_pos (by omega), if_pos (by omega), if_pos (by omega), w64 (n := i + 1) (by omega) (by omega)]
    exact hr

theorem key_some (kd i : Int) (s : ByteArray) (hs : s.size ≤ 140737488351232) (k : Nat) (hk : 8 < k) : ∃ r, val_Key.f k kd i s = some r ∧ r.size ≤ s.size + 9 := by
  unfold val_Key.f
  by_cases c0 : kd = 0
  · rw [if_pos c0]
    exact ⟨_, rfl, by show 1 ≤ _; omega⟩
  · rw [if_neg c0]
    by_cases c1 : kd = 1
    · rw [if_pos c1]
      obtain ⟨r, hr, h⟩ := key_l0 (Go.bits .xor .u64 (IntKind.u64.wrap i) 9223372036854775808) 8 k [105] 0 (by omega) (by omega) (by omega) rfl hk
      exact ⟨r, hr, by omega⟩
    · rw [if_neg c1]
      by_cases c2 : kd = 2
      · rw [if_pos c2, if_pos (by omega)]
        refine ⟨_, rfl, ?_⟩
        rw [ByteArray.size_append]
        show 1 + s.size ≤ _
        omega
      · rw [if_neg c2]
        exact ⟨_, rfl, by show 0 ≤ _; omega⟩

theorem of_some (seed kd i : Int) (s : ByteArray) (hs : s.size ≤ 140737488351232) (k : Nat) (hk : s.size + 9 < k) : ∃ r, hash_Of.f k seed kd i s = some r := by
  obtain ⟨t, ht, h1⟩ := key_some kd i s hs k (by omega)
  obtain ⟨r, hr, _⟩ := text_some seed t (by omega) k (by omega)
  refine ⟨r, ?_⟩
  unfold hash_Of.f
  rw [ht, bs, hr, bs]


/-! a text's bytes as numbers -/
def bl (t : ByteArray) : List Int := t.data.toList.map fun b => (b.toNat : Int)
theorem bl_len (t : ByteArray) : (bl t).length = t.size := by
  unfold bl
  rw [List.length_map, Array.length_toList]
  rfl
theorem bl_append (a b : ByteArray) : bl (a ++ b) = bl a ++ bl b := by
  unfold bl
  rw [ByteArray.data_append, Array.toList_append, List.map_append]
theorem strOf_bl (s : ByteArray) : strOfNums (bl s) = s := by
  apply ByteArray.ext
  apply Array.ext'
  rw [strOfNums_data]
  unfold bl
  rw [List.map_map]
  have : ((fun n : Int => UInt8.ofNat n.toNat) ∘ fun b : UInt8 => (b.toNat : Int)) = id := by
    funext b
    simp
  rw [this, List.map_id]
theorem bl_strOf (l : List Int) (h : ∀ x ∈ l, 0 ≤ x ∧ x < 256) : bl (strOfNums l) = l := by
  unfold bl
  rw [strOfNums_data, List.map_map]
  have : ∀ x ∈ l, ((fun b : UInt8 => (b.toNat : Int)) ∘ fun n : Int => UInt8.ofNat n.toNat) x = x := by
    intro x hx
    obtain ⟨h0, h1⟩ := h x hx
    show ((UInt8.ofNat x.toNat).toNat : Int) = x
    have e : (UInt8.ofNat x.toNat).toNat = x.toNat % 256 := UInt8.toNat_ofNat'
    rw [e]
    omega
  rw [List.map_congr_left this]
  simp
theorem bl_range (s : ByteArray) : ∀ x ∈ bl s, 0 ≤ x ∧ x < 256 := by
  intro x hx
  unfold bl at hx
  obtain ⟨b, _, rfl⟩ := List.mem_map.1 hx
  have := b.toNat_lt
  omega
theorem bl_at (t : ByteArray) (p : Nat) (h : p < t.size) : (bl t).drop p = bt t (p : Int) :: (bl t).drop (p + 1) := by
  have hl : p < (bl t).length := by rw [bl_len]; exact h
  rw [List.drop_eq_getElem_cons hl]
  have e : (bl t)[p]'hl = ((t[p]'h).toNat : Int) := by
    simp only [bl, List.getElem_map]
    rfl
  rw [e]
  congr 1
  unfold bt
  rw [dif_pos (show ((p : Nat) : Int).toNat < t.size by omega)]
  rfl
theorem bt_of (t : ByteArray) (p : Nat) (x : Int) (l : List Int) (h : (bl t).drop p = x :: l) : p < t.size ∧ bt t (p : Int) = x ∧ (bl t).drop (p + 1) = l := by
  have hp : p < t.size := by
    rw [← bl_len]
    have : ((bl t).drop p).length = l.length + 1 := by rw [h]; rfl
    rw [List.length_drop] at this
    omega
  rw [bl_at t p hp] at h
  obtain ⟨h1, h2⟩ := List.cons.inj h
  exact ⟨hp, h1, h2⟩
theorem drop_nil (t : ByteArray) (p : Nat) (h : (bl t).drop p = []) : t.size ≤ p := by
  have := List.drop_eq_nil_iff.1 h
  rw [bl_len] at this
  exact this

--import Derived.Laws.BitsLemmas
/-! the key of a value -/
theorem xor_top (n : Nat) (h : n < 18446744073709551616) : n ^^^ 9223372036854775808 = (n + 9223372036854775808) % 18446744073709551616 := by
  rw [show (9223372036854775808 : Nat) = 2 ^ 63 from rfl, show (18446744073709551616 : Nat) = 2 ^ 64 from rfl, Nat.add_comm] at *
  apply Nat.eq_of_testBit_eq
  intro i
  rw [Nat.testBit_xor, Nat.testBit_mod_two_pow]
  rcases Nat.lt_trichotomy i 63 with c | c | c
  · rw [Nat.testBit_two_pow_add_gt c, Nat.testBit_two_pow_of_ne (by omega)]
    simp
    omega
  · subst c
    rw [Nat.testBit_two_pow_add_eq, Nat.testBit_two_pow_self]
    simp
  · rw [Nat.testBit_two_pow_of_ne (by omega), Nat.testBit_lt_two_pow (Nat.lt_of_lt_of_le h (Nat.pow_le_pow_right (by decide) (by omega)))]
    simp
    intro h64
    omega
theorem bits_top (u : Int) (h0 : 0 ≤ u) (h1 : u < 18446744073709551616) : Go.bits .xor .u64 u 9223372036854775808 = IntKind.u64.wrap (u + 9223372036854775808) := by
  obtain ⟨n, rfl⟩ := Int.eq_ofNat_of_zero_le h0
  have e := xor_top n (by omega)
  have hn : n % 2 ^ IntKind.u64.bits = n := Nat.mod_eq_of_lt (by show n < 18446744073709551616; omega)
  have e2 : (9223372036854775808 : Int) = ((9223372036854775808 : Nat) : Int) := rfl
  rw [e2]
  simp only [Go.bits, BitVec.ofInt_natCast, BitVec.toNat_xor, BitVec.toNat_ofNat, hn]
  rw [show (9223372036854775808 : Nat) % 2 ^ IntKind.u64.bits = 9223372036854775808 from rfl, e, u64_wrap, u64_wrap]
  omega
theorem shr_is (x : Int) (m : Nat) (h : m ≤ 64) : shr .u64 x (m : Int) = x / 2 ^ m := by
  unfold shr
  rw [Int.toNat_natCast, show min m IntKind.u64.bits = m from Nat.min_eq_left h]
theorem strOf_append (a b : List Int) : strOfNums (a ++ b) = strOfNums a ++ strOfNums b := by
  apply ByteArray.ext
  apply Array.ext'
  rw [ByteArray.data_append, Array.toList_append, strOfNums_data, strOfNums_data, strOfNums_data, List.map_append]
/-- The eight bytes of a number, the highest first. -/
def bytes8 (x : Int) : List Int := [x / 72057594037927936 % 256, x / 281474976710656 % 256, x / 1099511627776 % 256, x / 4294967296 % 256, x / 16777216 % 256, x / 65536 % 256, x / 256 % 256, x % 256]
def vkey (a b : Int) (s : ByteArray) : ByteArray := if a = 0 then (⟨#[110]⟩ : ByteArray) else if a = 1 then (⟨#[105]⟩ : ByteArray) ++ strOfNums (bytes8 (IntKind.u64.wrap (b + 9223372036854775808))) else if a = 2 then (⟨#[116]⟩ : ByteArray) ++ s else (⟨#[]⟩ : ByteArray)
theorem key_step (x : Int) (k : Nat) (l : List Int) (i : Nat) (hi : i < 8) (hl : l.length ≤ 9) : val_Key.l0 (k + 1) x l (i : Int) = val_Key.l0 k x (l ++ [x / 2 ^ (56 - 8 * i) % 256]) ((i + 1 : Nat) : Int) := by
  simp only [val_Key.l0]
  have e : wrap64 (56 - wrap64 (8 * (i : Int))) = ((56 - 8 * i : Nat) : Int) := by rw [w64 (n := 8 * (i : Int)) (by omega) (by omega), w64 (by omega) (by omega)]; omega
  rw [if_pos (by omega), e, if_pos (by omega), if_pos (by omega), w64 (n := (i : Int) + 1) (by omega) (by omega), shr_is _ _ (by omega)]
  rfl
theorem key_end (x : Int) (k : Nat) (l : List Int) : val_Key.l0 (k + 1) x l ((8 : Nat) : Int) = some (strOfNums l) := by
  simp only [val_Key.l0]
  rw [if_neg (by omega)]
theorem val_key_is (a b : Int) (s : ByteArray) (hs : s.size ≤ 140737488351232) (k : Nat) (hk : 9 ≤ k) : val_Key.f k a b s = some (vkey a b s) := by
  unfold val_Key.f vkey
  by_cases c0 : a = 0
  · rw [if_pos c0, if_pos c0]
  · rw [if_neg c0, if_neg c0]
    by_cases c1 : a = 1
    · rw [if_pos c1, if_pos c1]
      have hb := u64_range b
      have e : Go.bits .xor .u64 (IntKind.u64.wrap b) 9223372036854775808 = IntKind.u64.wrap (b + 9223372036854775808) := by
        rw [bits_top _ hb.1 hb.2, u64_wrap, u64_wrap, u64_wrap]; omega
      rw [e]
      generalize IntKind.u64.wrap (b + 9223372036854775808) = x
      obtain ⟨k, rfl⟩ : ∃ m, k = m + 9 := ⟨k - 9, by omega⟩
      rw [show (0 : Int) = ((0 : Nat) : Int) from rfl]
      rw [key_step x (k + 8) _ 0 (by omega) (by decide), key_step x (k + 7) _ 1 (by omega) (by simp), key_step x (k + 6) _ 2 (by omega) (by simp), key_step x (k + 5) _ 3 (by omega) (by simp), key_step x (k + 4) _ 4 (by omega) (by simp), key_step x (k + 3) _ 5 (by omega) (by simp), key_step x (k + 2) _ 6 (by omega) (by simp), key_step x (k + 1) _ 7 (by omega) (by simp), key_end]
      have e1 : (⟨#[105]⟩ : ByteArray) = strOfNums [105] := by apply ByteArray.ext; apply Array.ext'; rw [strOfNums_data]; rfl
      rw [e1, ← strOf_append]
      simp [bytes8]
    · rw [if_neg c1, if_neg c1]
      by_cases c2 : a = 2
      · rw [if_pos c2, if_pos c2, if_pos (by omega)]
      · rw [if_neg c2, if_neg c2]
theorem rkey_step (x : Int) (h0 : 0 ≤ x) (h1 : x < 18446744073709551616) (k : Nat) (l : List Int) (i : Nat) (hi : i < 8) (hl : l.length ≤ 9) : trommelref01_Key.l0 (k + 1) x l (i : Int) = trommelref01_Key.l0 k (x / 256) (x % 256 :: l) ((i + 1 : Nat) : Int) := by
  simp only [trommelref01_Key.l0]
  rw [if_pos (by omega), bs]
  rw [if_pos (show ([(Int.tmod x 256) % 256] : List Int).length + l.length < 140737488355328 by simp; omega)]
  rw [div_same x 256 h0 h1 (by decide), Int.tmod_eq_emod_of_nonneg h0, w64 (n := (i : Int) + 1) (by omega) (by omega), Int.emod_emod_of_dvd x (Int.dvd_refl 256)]
  rfl
theorem rkey_end (x : Int) (k : Nat) (l : List Int) (hl : l.length ≤ 9) : trommelref01_Key.l0 (k + 1) x l ((8 : Nat) : Int) = some ((⟨#[105]⟩ : ByteArray) ++ strOfNums l) := by
  simp only [trommelref01_Key.l0]
  have e : (strOfNums l).size = l.length := by simp [strOfNums, ByteArray.size]
  rw [if_neg (by omega), if_pos (by omega)]
theorem ref_key_is (a b : Int) (s : ByteArray) (hs : s.size ≤ 140737488351232) (k : Nat) (hk : 9 ≤ k) : trommelref01_Key.f k a b s = some (vkey a b s) := by
  unfold trommelref01_Key.f vkey
  by_cases c0 : a = 0
  · rw [if_pos c0, if_pos c0]
  · rw [if_neg c0, if_neg c0]
    by_cases c2 : a = 2
    · rw [if_pos c2, if_neg (show ¬ a = 1 by omega), if_pos c2, if_pos (show 1 + s.size ≤ 9223372036854775807 by omega)]
    · rw [if_neg c2]
      by_cases c1 : a = 1
      · rw [if_pos c1, if_pos c1]
        have e : IntKind.u64.wrap (IntKind.u64.wrap b + 9223372036854775808) = IntKind.u64.wrap (b + 9223372036854775808) := by
          rw [u64_wrap, u64_wrap, u64_wrap]; omega
        rw [e]
        have hx := u64_range (b + 9223372036854775808)
        generalize IntKind.u64.wrap (b + 9223372036854775808) = x at *
        obtain ⟨h0, h1⟩ := hx
        obtain ⟨k, rfl⟩ : ∃ m, k = m + 9 := ⟨k - 9, by omega⟩
        have q : ∀ y : Int, 0 ≤ y ∧ y < 18446744073709551616 → 0 ≤ y / 256 ∧ y / 256 < 18446744073709551616 := fun y hy => by omega
        have q1 := q x ⟨h0, h1⟩
        have q2 := q _ q1
        have q3 := q _ q2
        have q4 := q _ q3
        have q5 := q _ q4
        have q6 := q _ q5
        have q7 := q _ q6
        rw [show (0 : Int) = ((0 : Nat) : Int) from rfl]
        rw [rkey_step _ h0 h1 (k + 8) _ 0 (by omega) (by simp), rkey_step _ q1.1 q1.2 (k + 7) _ 1 (by omega) (by simp), rkey_step _ q2.1 q2.2 (k + 6) _ 2 (by omega) (by simp), rkey_step _ q3.1 q3.2 (k + 5) _ 3 (by omega) (by simp), rkey_step _ q4.1 q4.2 (k + 4) _ 4 (by omega) (by simp), rkey_step _ q5.1 q5.2 (k + 3) _ 5 (by omega) (by simp), rkey_step _ q6.1 q6.2 (k + 2) _ 6 (by omega) (by simp), rkey_step _ q7.1 q7.2 (k + 1) _ 7 (by omega) (by simp), rkey_end _ _ _ (by simp)]
        clear q q1 q2 q3 q4 q5 q6 q7
        have d : ∀ (y : Int) (m : Int), 0 ≤ m → y / m / 256 = y / (m * 256) := fun y m hm => Int.ediv_ediv_of_nonneg hm
        rw [d x 256 (by decide), d x (256 * 256) (by decide), d x (256 * 256 * 256) (by decide), d x (256 * 256 * 256 * 256) (by decide), d x (256 * 256 * 256 * 256 * 256) (by decide), d x (256 * 256 * 256 * 256 * 256 * 256) (by decide)]
        rfl
      · rw [if_neg c1, if_neg c1, if_neg c2]
theorem vkey_size (a b : Int) (s : ByteArray) : (vkey a b s).size ≤ s.size + 9 := by
  unfold vkey
  split
  · show 1 ≤ _; omega
  · split
    · rw [ByteArray.size_append]
      have e : (strOfNums (bytes8 (IntKind.u64.wrap (b + 9223372036854775808)))).size = 8 := by simp [strOfNums, ByteArray.size, bytes8]
      rw [e]
      show 1 + 8 ≤ _
      omega
    · split
      · rw [ByteArray.size_append]
        show 1 + _ ≤ _
        omega
      · show 0 ≤ _; omega

/-! a text's number: the program's and the document's -/
theorem rtext_l0 (s : ByteArray) (hs : s.size ≤ 140737488355328000) (d : Nat) : ∀ (k : Nat) (h i : Int), 0 ≤ h → h < 18446744073709551616 → 0 ≤ i → i ≤ s.size → (s.size : Int) - i = d → trommelref17_Text.l0 k s h i = hash_text.l0 k s h (s.size : Int) i := by
  induction d with
  | zero =>
    intro k h i g0 g1 h0 h1 hd
    cases k with
    | zero => rfl
    | succ k =>
      simp only [trommelref17_Text.l0, hash_text.l0]
      rw [if_neg (by omega), if_neg (by omega), mix_same h g0 g1]
  | succ d ih =>
    intro k h i g0 g1 h0 h1 hd
    cases k with
    | zero => rfl
    | succ k =>
      simp only [trommelref17_Text.l0, hash_text.l0]
      rw [if_pos (show i < (s.size : Int) by omega), if_pos h0, if_pos (show i < (s.size : Int) by omega), if_pos h0, if_pos (show i < (s.size : Int) by omega), w64 (n := i + 1) (by omega) (by omega)]
      unfold hash_Byte.f
      rw [bs]
      exact ih k _ (i + 1) (u64_range _).1 (u64_range _).2 (by omega) (by omega) (by omega)
theorem rtext_is (seed : Int) (s : ByteArray) (hs : s.size ≤ 140737488355328000) (k : Nat) : trommelref17_Text.f k seed s = hash_text.f k seed s := by
  unfold trommelref17_Text.f hash_text.f
  have hm := u64_range (IntKind.u64.wrap seed + 2685821657736338717)
  rw [start_is, mix_same _ hm.1 hm.2]
  obtain ⟨r, hr, h0, h1⟩ := mix_some (IntKind.u64.wrap (IntKind.u64.wrap seed + 2685821657736338717))
  rw [hr, bs, bs]
  exact rtext_l0 s hs s.size k r 0 h0 h1 (by omega) (by omega) (by omega)
theorem text_l0_big (s : ByteArray) (hs : s.size ≤ 140737488355328000) (d : Nat) : ∀ (k : Nat) (h i : Int), 0 ≤ i → i ≤ s.size → (s.size : Int) - i = d → d < k → ∃ r, hash_text.l0 k s h (s.size : Int) i = some r ∧ 0 ≤ r ∧ r < 18446744073709551616 := by
  induction d with
  | zero =>
    intro k h i h0 h1 hd hk
    obtain ⟨k, rfl⟩ : ∃ m, k = m + 1 := ⟨k - 1, by omega⟩
    obtain ⟨r, hr, h2⟩ := mix_some h
    refine ⟨r, ?_, h2⟩
    simp only [hash_text.l0]
    rw [if_neg (by omega), hr, bs]
  | succ d ih =>
    intro k h i h0 h1 hd hk
    obtain ⟨k, rfl⟩ : ∃ m, k = m + 1 := ⟨k - 1, by omega⟩
    obtain ⟨b, hb, _⟩ := byte_some h (bt s i)
    obtain ⟨r, hr, h2⟩ := ih k b (i + 1) (by omega) (by omega) (by omega) (by omega)
    refine ⟨r, ?_, h2⟩
    simp only [hash_text.l0]
    rw [if_pos (by omega), if_pos h0, if_pos (by omega), hb, bs, w64 (by omega) (by omega)]
    exact hr
theorem text_some_big (seed : Int) (s : ByteArray) (hs : s.size ≤ 140737488355328000) (k : Nat) (hk : s.size < k) : ∃ r, hash_text.f k seed s = some r ∧ 0 ≤ r ∧ r < 18446744073709551616 := by
  obtain ⟨h, hh, _⟩ := mix_some (IntKind.u64.wrap ((IntKind.u64.wrap (seed)) + 2685821657736338717))
  obtain ⟨r, hr, h2⟩ := text_l0_big s hs s.size k h 0 (by omega) (by omega) (by omega) hk
  refine ⟨r, ?_, h2⟩
  unfold hash_text.f
  rw [start_is, hh, bs]
  exact hr

--import Derived.Lib.ItoaNum
--import Derived.Lib.ItoaLen
--import Derived.Lib.ItoaMem
/-! the key of a row -/
theorem digit_at (i : Nat) (h : i < 10) : (⟨#[48, 49, 50, 51, 52, 53, 54, 55, 56, 57]⟩ : ByteArray).extract i (i + 1) = ⟨#[UInt8.ofNat (48 + i)]⟩ := by
  have : ∀ j : Fin 10, ((⟨#[48, 49, 50, 51, 52, 53, 54, 55, 56, 57]⟩ : ByteArray).extract j.1 (j.1 + 1)).data.toList = [UInt8.ofNat (48 + j.1)] := by decide
  apply ByteArray.ext
  apply Array.ext'
  exact this ⟨i, h⟩
theorem emp_app (s : ByteArray) : (⟨#[]⟩ : ByteArray) ++ s = s := by
  apply ByteArray.ext
  apply Array.ext'
  rw [ByteArray.data_append]
  simp
theorem app_emp (s : ByteArray) : s ++ (⟨#[]⟩ : ByteArray) = s := by
  apply ByteArray.ext
  apply Array.ext'
  rw [ByteArray.data_append]
  simp
theorem digits_l0 (m : Nat) : ∀ (k n : Nat) (acc : ByteArray), m ≤ k → n < 10 ^ (m + 1) → n < 4611686018427387904 → acc.size + m ≤ 1000 → trommelref04_digits.l0 (k + 1) (n : Int) acc = some ((⟨(Lib.decDigits n).toArray⟩ : ByteArray) ++ acc) := by
  have base : ∀ (k n : Nat) (acc : ByteArray), n < 10 → acc.size ≤ 1000 → trommelref04_digits.l0 (k + 1) (n : Int) acc = some ((⟨(Lib.decDigits n).toArray⟩ : ByteArray) ++ acc) := by
    intro k n acc h hb
    simp only [trommelref04_digits.l0]
    rw [if_neg (by omega), w64 (n := (n : Int) + 1) (by omega) (by omega), if_pos (by omega), if_pos (by omega), if_pos (by omega)]
    rw [show ((n : Int) + 1).toNat = n + 1 by omega, Int.toNat_natCast, digit_at n h]
    have e : (⟨#[UInt8.ofNat (48 + n)]⟩ : ByteArray).size = 1 := rfl
    rw [e, if_pos (by omega), Lib.decDigits_one h]
  induction m with
  | zero => exact fun k n acc _ h _ hb => base k n acc (by simpa using h) (by omega)
  | succ m ih =>
    intro k n acc hk h hn hb
    by_cases c : n < 10
    · exact base k n acc c (by omega)
    · obtain ⟨k, rfl⟩ : ∃ q, k = q + 1 := ⟨k - 1, by omega⟩
      obtain ⟨K, hK⟩ : ∃ K, K = k + 1 := ⟨_, rfl⟩
      rw [← hK]
      simp only [trommelref04_digits.l0]
      have hm : Int.tmod (n : Int) 10 = ((n % 10 : Nat) : Int) := by rw [Int.tmod_eq_emod_of_nonneg (by omega)]; omega
      have hd : Int.tdiv (n : Int) 10 = ((n / 10 : Nat) : Int) := by rw [Int.tdiv_eq_ediv_of_nonneg (by omega)]; omega
      have h10 : n % 10 < 10 := Nat.mod_lt _ (by decide)
      rw [if_pos (by omega), hm, hd]
      generalize hq : n % 10 = q at *
      rw [w64 (n := (q : Int) + 1) (by omega) (by omega), if_pos (by omega), if_pos (by omega), if_pos (by omega)]
      rw [show ((q : Int) + 1).toNat = q + 1 by omega, Int.toNat_natCast, digit_at q h10]
      have e : (⟨#[UInt8.ofNat (48 + q)]⟩ : ByteArray).size = 1 := rfl
      rw [e, if_pos (by omega), w64 (by omega) (by omega), hK]
      have hlt : n / 10 < 10 ^ (m + 1) := by
        rw [Nat.div_lt_iff_lt_mul (by decide)]
        rw [Nat.pow_succ] at h
        exact h
      rw [ih k (n / 10) _ (by omega) hlt (by omega) (by rw [ByteArray.size_append, e]; omega)]
      rw [← ByteArray.append_assoc]
      congr 2
      have e3 : Lib.decDigits n = Lib.decDigits (n / 10) ++ [UInt8.ofNat (48 + n % 10)] := by
        rw [Lib.decDigits, dif_neg c]
      rw [e3, hq]
      apply ByteArray.ext
      apply Array.ext'
      rw [ByteArray.data_append]
      simp
theorem digits_is (n : Nat) (hn : n < 1000000000000000000) (k : Nat) (hk : 19 ≤ k) : trommelref04_digits.f k (n : Int) = some (⟨(Lib.itoa (n : Int)).toArray⟩ : ByteArray) := by
  obtain ⟨k, rfl⟩ : ∃ m, k = m + 1 := ⟨k - 1, by omega⟩
  unfold trommelref04_digits.f
  rw [digits_l0 18 k n (⟨#[]⟩ : ByteArray) (by omega) (by omega) (by omega) (by show 0 + 18 ≤ 1000; omega), Lib.itoa_nonneg, app_emp]
def rkey : List S23 → ByteArray
  | [] => (⟨#[]⟩ : ByteArray)
  | y :: l => (((⟨(Lib.itoa ((vkey y.f0 y.f1 y.f2).size : Int)).toArray⟩ : ByteArray) ++ (⟨#[58]⟩ : ByteArray)) ++ vkey y.f0 y.f1 y.f2) ++ rkey l
theorem itoa_size (n : Nat) (h : n < 1000000000000000000) : (⟨(Lib.itoa (n : Int)).toArray⟩ : ByteArray).size ≤ 21 := by
  have := Lib.itoa_length_le (n : Int) (by omega) (by omega)
  show (Lib.itoa (n : Int)).toArray.size ≤ 21
  simpa using this
theorem rkey_size (l : List S23) (hs : ∀ y ∈ l, y.f2.size ≤ 140737488351232) : (rkey l).size ≤ l.length * 140737488351300 := by
  induction l with
  | nil => show 0 ≤ _; omega
  | cons y l ih =>
    have h1 := vkey_size y.f0 y.f1 y.f2
    have h2 := hs y (List.mem_cons_self)
    have h3 := itoa_size (vkey y.f0 y.f1 y.f2).size (by omega)
    have h4 := ih (fun z hz => hs z (List.mem_cons_of_mem _ hz))
    have e : (⟨#[58]⟩ : ByteArray).size = 1 := rfl
    rw [rkey, ByteArray.size_append, ByteArray.size_append, ByteArray.size_append, e, List.length_cons, Nat.add_mul]
    omega
theorem rowkey_l0 (l : List S23) (hs : ∀ y ∈ l, y.f2.size ≤ 140737488351232) (hl : l.length ≤ 1000) (d : Nat) : ∀ (k i : Nat) (acc : ByteArray), l.length = i + d → acc.size ≤ i * 140737488351300 → d + 10 ≤ k →
    rows_Key.l0 k acc l (l.length : Int) (i : Int) = some (acc ++ rkey (l.drop i)) := by
  induction d with
  | zero =>
    intro k i acc hd ha hk
    obtain ⟨k, rfl⟩ : ∃ m, k = m + 1 := ⟨k - 1, by omega⟩
    simp only [rows_Key.l0]
    rw [if_neg (by omega), List.drop_eq_nil_of_le (by omega), rkey, app_emp]
  | succ d ih =>
    intro k i acc hd ha hk
    obtain ⟨k, rfl⟩ : ∃ m, k = m + 1 := ⟨k - 1, by omega⟩
    have hi : i < l.length := by omega
    have hy := hs l[i] (List.getElem_mem hi)
    have e : rd_T23 l (i : Int) = l[i] := by
      unfold rd_T23
      rw [Int.toNat_natCast, List.getD_eq_getElem?_getD, List.getElem?_eq_getElem hi]
      rfl
    rw [List.drop_eq_getElem_cons hi, rkey]
    simp only [rows_Key.l0]
    rw [if_pos (by omega), if_pos (by omega), if_pos (by omega), e, val_key_is _ _ _ hy k (by omega), bs]
    have hv := vkey_size l[i].f0 l[i].f1 l[i].f2
    generalize vkey l[i].f0 l[i].f1 l[i].f2 = v at *
    have hz := itoa_size v.size (by omega)
    unfold strconv_Itoa.f
    rw [if_pos (by omega), bs]
    generalize (⟨(Lib.itoa (v.size : Int)).toArray⟩ : ByteArray) = t at *
    have e1 : (⟨#[58]⟩ : ByteArray).size = 1 := rfl
    rw [if_pos (by omega), if_pos (by rw [ByteArray.size_append, e1]; omega), if_pos (by rw [ByteArray.size_append, ByteArray.size_append, e1]; omega), w64 (by omega) (by omega)]
    rw [show (i : Int) + 1 = ((i + 1 : Nat) : Int) by omega]
    rw [ih k (i + 1) _ (by omega) (by rw [ByteArray.size_append, ByteArray.size_append, ByteArray.size_append, e1]; omega) (by omega)]
    simp only [ByteArray.append_assoc]
theorem rows_key_is (l : List S23) (hs : ∀ y ∈ l, y.f2.size ≤ 140737488351232) (hl : l.length ≤ 1000) (k : Nat) (hk : l.length + 10 ≤ k) : rows_Key.f k l = some (rkey l) := by
  unfold rows_Key.f
  rw [show (0 : Int) = ((0 : Nat) : Int) from rfl, rowkey_l0 l hs hl l.length k 0 _ (by omega) (by show 0 ≤ _; omega) hk, List.drop_zero, emp_app]
theorem ref_rowkey_l0 (l : List S23) (hs : ∀ y ∈ l, y.f2.size ≤ 140737488351232) (hl : l.length ≤ 1000) (d : Nat) : ∀ (k i : Nat) (acc : ByteArray), l.length = i + d → acc.size ≤ i * 140737488351300 → d + 20 ≤ k →
    trommelref04_Key.l0 k l acc (i : Int) = some (acc ++ rkey (l.drop i)) := by
  induction d with
  | zero =>
    intro k i acc hd ha hk
    obtain ⟨k, rfl⟩ : ∃ m, k = m + 1 := ⟨k - 1, by omega⟩
    simp only [trommelref04_Key.l0]
    rw [if_neg (by omega), List.drop_eq_nil_of_le (by omega), rkey, app_emp]
  | succ d ih =>
    intro k i acc hd ha hk
    obtain ⟨k, rfl⟩ : ∃ m, k = m + 1 := ⟨k - 1, by omega⟩
    have hi : i < l.length := by omega
    have hy := hs l[i] (List.getElem_mem hi)
    have e : rd_T23 l (i : Int) = l[i] := by
      unfold rd_T23
      rw [Int.toNat_natCast, List.getD_eq_getElem?_getD, List.getElem?_eq_getElem hi]
      rfl
    rw [List.drop_eq_getElem_cons hi, rkey]
    simp only [trommelref04_Key.l0]
    rw [if_pos (by omega), if_pos (by omega), e, ref_key_is _ _ _ hy k (by omega), bs]
    have hv := vkey_size l[i].f0 l[i].f1 l[i].f2
    generalize vkey l[i].f0 l[i].f1 l[i].f2 = v at *
    have hz := itoa_size v.size (by omega)
    rw [digits_is v.size (by omega) k (by omega), bs]
    generalize (⟨(Lib.itoa (v.size : Int)).toArray⟩ : ByteArray) = t at *
    have e1 : (⟨#[58]⟩ : ByteArray).size = 1 := rfl
    rw [if_pos (by omega), if_pos (by rw [ByteArray.size_append]; omega), if_pos (by rw [ByteArray.size_append, ByteArray.size_append, e1]; omega), w64 (by omega) (by omega)]
    rw [show (i : Int) + 1 = ((i + 1 : Nat) : Int) by omega]
    rw [ih k (i + 1) _ (by omega) (by rw [ByteArray.size_append, ByteArray.size_append, ByteArray.size_append, e1]; omega) (by omega)]
    simp only [ByteArray.append_assoc]
theorem ref_rowkey_is (l : List S23) (hs : ∀ y ∈ l, y.f2.size ≤ 140737488351232) (hl : l.length ≤ 1000) (k : Nat) (hk : l.length + 20 ≤ k) : trommelref04_Key.f k l = some (rkey l) := by
  unfold trommelref04_Key.f
  rw [show (0 : Int) = ((0 : Nat) : Int) from rfl, ref_rowkey_l0 l hs hl l.length k 0 _ (by omega) (by show 0 ≤ _; omega) hk, List.drop_zero, emp_app]
/-- What a row's number is. -/
theorem row_is (seed : Int) (l : List S23) (hs : ∀ y ∈ l, y.f2.size ≤ 140737488351232) (hl : l.length ≤ 1000) (k : Nat) (hk : l.length + 20 ≤ k) (hk2 : (rkey l).size < k) : ∃ r, hash_Row.f k seed l = some r ∧ 0 ≤ r ∧ r < 18446744073709551616 ∧ trommelref17_Row.f k seed l = some r ∧ hash_text.f k seed (rkey l) = some r := by
  have hz := rkey_size l hs
  obtain ⟨r, hr, h0, h1⟩ := text_some_big seed (rkey l) (by omega) k hk2
  refine ⟨r, ?_, h0, h1, ?_, hr⟩
  · unfold hash_Row.f
    rw [rows_key_is l hs hl k (by omega), bs, hr, bs]
  · unfold trommelref17_Row.f
    rw [ref_rowkey_is l hs hl k (by omega), bs, rtext_is _ _ (by omega), hr, bs]


/-! how much there is -/
def rowN (l : List S23) : Nat := (l.map fun y => 1 + y.f2.size).sum
def totN (L : List (List S23)) : Nat := (L.map rowN).sum
theorem rowN_cons (y : S23) (l : List S23) : rowN (y :: l) = 1 + y.f2.size + rowN l := by simp [rowN]
theorem rowN_le (l : List S23) : ∀ y ∈ l, y.f2.size ≤ rowN l := by
  intro y hy
  induction l with
  | nil => cases hy
  | cons z l ih =>
    rw [rowN_cons]
    rcases List.mem_cons.1 hy with rfl | h
    · omega
    · have := ih h; omega
theorem totN_cons (r : List S23) (L : List (List S23)) : totN (r :: L) = rowN r + totN L := by simp [totN]
theorem totN_le (L : List (List S23)) : ∀ r ∈ L, rowN r ≤ totN L := by
  intro y hy
  induction L with
  | nil => cases hy
  | cons z l ih =>
    rw [totN_cons]
    rcases List.mem_cons.1 hy with rfl | h
    · omega
    · have := ih h; omega
theorem rowN_bound (l : List S23) (hs : ∀ y ∈ l, y.f2.size ≤ 140737488351232) : rowN l ≤ l.length * 140737488351233 := by
  induction l with
  | nil => simp [rowN]
  | cons z l ih =>
    rw [rowN_cons, List.length_cons, Nat.add_mul]
    have := ih (fun y hy => hs y (List.mem_cons_of_mem _ hy))
    have := hs z (List.mem_cons_self)
    omega
theorem much_inner (L : List (List S23)) (r : List S23) (i : Nat) (hL : L[i]? = some r) (hr : r.length ≤ 40) (hs : ∀ y ∈ r, y.f2.size ≤ 140737488351232) (hL2 : L.length ≤ 9000000000000000) (d : Nat) : ∀ (k j : Nat) (n : Int), r.length = j + d → 0 ≤ n → n ≤ 2000 + j * 140737488351233 →
    trommelref04_Much.l1 (k + d + 1) L n (i : Int) (j : Int) = if n + rowN (r.drop j) > 2000 then some true else trommelref04_Much.l0 k L (n + rowN (r.drop j)) ((i + 1 : Nat) : Int) := by
  have hi : i < L.length := (List.getElem?_eq_some_iff.1 hL).1
  have hrd : rd_L3 L (i : Int) = r := by
    unfold rd_L3
    rw [Int.toNat_natCast, List.getD_eq_getElem?_getD, hL]
    rfl
  induction d with
  | zero =>
    intro k j n hd h0 h1
    simp only [trommelref04_Much.l1]
    rw [if_pos (show (0 : Int) ≤ (i : Int) by omega), if_pos (show (i : Int) < (L.length : Int) by omega), hrd, if_neg (show ¬ (j : Int) < (r.length : Int) by omega), w64 (n := (i : Int) + 1) (by omega) (by omega)]
    rw [List.drop_eq_nil_of_le (by omega)]
    simp [rowN]
  | succ d ih =>
    intro k j n hd h0 h1
    have hj : j < r.length := by omega
    have hy := hs r[j] (List.getElem_mem hj)
    have e : rd_T23 r (j : Int) = r[j] := by
      unfold rd_T23
      rw [Int.toNat_natCast, List.getD_eq_getElem?_getD, List.getElem?_eq_getElem hj]
      rfl
    obtain ⟨K, hK⟩ : ∃ K, K = k + d + 1 := ⟨_, rfl⟩
    rw [show k + (d + 1) + 1 = K + 1 by omega]
    simp only [trommelref04_Much.l1]
    rw [if_pos (show (0 : Int) ≤ (i : Int) by omega), if_pos (show (i : Int) < (L.length : Int) by omega), hrd, if_pos (show (j : Int) < (r.length : Int) by omega), if_pos (show (0 : Int) ≤ (j : Int) by omega), e]
    rw [w64 (n := n + 1) (by omega) (by omega), w64 (n := n + 1 + (r[j].f2.size : Int)) (by omega) (by omega), w64 (n := (j : Int) + 1) (by omega) (by omega)]
    have h := ih k (j + 1) (n + 1 + (r[j].f2.size : Int)) (by omega) (by omega) (by omega)
    rw [hK, show ((j : Int) + 1) = ((j + 1 : Nat) : Int) by omega, h]
    rw [List.drop_eq_getElem_cons hj, rowN_cons]
    have e2 : n + 1 + (r[j].f2.size : Int) + (rowN (r.drop (j + 1)) : Int) = n + ((1 + r[j].f2.size + rowN (r.drop (j + 1)) : Nat) : Int) := by omega
    rw [e2]
theorem much_outer (L : List (List S23)) (hs : ∀ r ∈ L, ∀ y ∈ r, y.f2.size ≤ 140737488351232) (hL2 : L.length ≤ 9000000000000000) (d : Nat) : ∀ (k i : Nat) (n : Int), 60 ≤ i + d → 0 ≤ n → n ≤ 2000 → d * 44 + 2 ≤ k →
    ∃ b, trommelref04_Much.l0 k L n (i : Int) = some b ∧ (b = false → L.length ≤ 50 ∧ (∀ r ∈ L.drop i, r.length ≤ 40) ∧ n + totN (L.drop i) ≤ 2000) := by
  have stop : ∀ (k i : Nat) (n : Int), n ≤ 2000 → (60 ≤ i ∨ L.length ≤ i) → 2 ≤ k → ∃ b, trommelref04_Much.l0 k L n (i : Int) = some b ∧ (b = false → L.length ≤ 50 ∧ (∀ r ∈ L.drop i, r.length ≤ 40) ∧ n + totN (L.drop i) ≤ 2000) := by
    intro k i n hn hi hk
    obtain ⟨k, rfl⟩ : ∃ m, k = m + 2 := ⟨k - 2, by omega⟩
    refine ⟨decide ((L.length : Int) > 50), ?_, ?_⟩
    · simp only [trommelref04_Much.l0]
      by_cases c : (i : Int) < (L.length : Int)
      · rw [if_pos c]
        have c2 : decide ((i : Int) < 60) = false := by simp; omega
        rw [c2]
        simp only [trommelref04_Much.j1]
        rw [if_neg (by simp)]
      · rw [if_neg c]
        simp only [trommelref04_Much.j1]
        rw [if_neg (by simp)]
    · intro hb
      have h50 : L.length ≤ 50 := by have := of_decide_eq_false hb; omega
      rw [List.drop_eq_nil_of_le (show L.length ≤ i by omega)]
      refine ⟨h50, ?_, ?_⟩
      · intro r hr
        cases hr
      · simpa [totN] using hn
  induction d with
  | zero => exact fun k i n hi h0 h1 hk => stop k i n h1 (by omega) (by omega)
  | succ d ih =>
    intro k i n hi h0 h1 hk
    by_cases c : 60 ≤ i ∨ L.length ≤ i
    · exact stop k i n h1 c (by omega)
    · have hi2 : i < L.length := by omega
      have hLi : L[i]? = some L[i] := List.getElem?_eq_getElem hi2
      have hrd : rd_L3 L (i : Int) = L[i] := by
        unfold rd_L3
        rw [Int.toNat_natCast, List.getD_eq_getElem?_getD, hLi]
        rfl
      obtain ⟨k, rfl⟩ : ∃ m, k = m + 2 := ⟨k - 2, by omega⟩
      have e1 : trommelref04_Much.l0 (k + 2) L n (i : Int) = if (L[i].length : Int) > 40 then some true else trommelref04_Much.l1 k L n (i : Int) 0 := by
        simp only [trommelref04_Much.l0]
        rw [if_pos (show (i : Int) < (L.length : Int) by omega)]
        have c2 : decide ((i : Int) < 60) = true := by simp; omega
        rw [c2]
        simp only [trommelref04_Much.j1]
        rw [if_pos trivial, if_pos (show (0 : Int) ≤ (i : Int) by omega), if_pos (show (i : Int) < (L.length : Int) by omega), hrd]
      rw [e1]
      by_cases c3 : (L[i].length : Int) > 40
      · rw [if_pos c3]
        exact ⟨true, rfl, fun h => by cases h⟩
      · rw [if_neg c3]
        obtain ⟨k2, hk2⟩ : ∃ m, k = m + L[i].length + 1 := ⟨k - L[i].length - 1, by omega⟩
        have h := much_inner L L[i] i hLi (by omega) (hs _ (List.getElem_mem hi2)) hL2 L[i].length k2 0 n (by omega) h0 (by omega)
        rw [hk2, show (0 : Int) = ((0 : Nat) : Int) from rfl, h]
        rw [List.drop_zero]
        by_cases c4 : n + (rowN L[i] : Int) > 2000
        · rw [if_pos c4]
          exact ⟨true, rfl, fun h => by cases h⟩
        · rw [if_neg c4]
          obtain ⟨b, hb, hp⟩ := ih k2 (i + 1) (n + (rowN L[i] : Int)) (by omega) (by omega) (by omega) (by omega)
          refine ⟨b, hb, fun hf => ?_⟩
          obtain ⟨p1, p2, p3⟩ := hp hf
          rw [List.drop_eq_getElem_cons hi2]
          refine ⟨p1, ?_, ?_⟩
          · intro r hr
            rcases List.mem_cons.1 hr with rfl | hr
            · omega
            · exact p2 r hr
          · rw [totN_cons]
            omega
theorem much_is (L : List (List S23)) (hs : ∀ r ∈ L, ∀ y ∈ r, y.f2.size ≤ 140737488351232) (hL2 : L.length ≤ 9000000000000000) (k : Nat) (hk : 3000 ≤ k) :
    ∃ b, trommelref04_Much.f k L = some b ∧ (b = false → L.length ≤ 50 ∧ (∀ r ∈ L, r.length ≤ 40) ∧ totN L ≤ 2000) := by
  obtain ⟨b, hb, hp⟩ := much_outer L hs hL2 60 k 0 0 (by omega) (by omega) (by omega) (by omega)
  refine ⟨b, hb, fun hf => ?_⟩
  obtain ⟨p1, p2, p3⟩ := hp hf
  exact ⟨p1, p2, by rw [List.drop_zero] at p3; omega⟩

theorem of_is (seed a b : Int) (s : ByteArray) (hs : s.size ≤ 140737488351232) (k : Nat) (hk : s.size + 20 ≤ k) : ∃ r, hash_Of.f k seed a b s = some r ∧ trommelref17_Of.f k seed a b s = some r := by
  have hz := vkey_size a b s
  obtain ⟨r, hr, _⟩ := text_some_big seed (vkey a b s) (by omega) k (by omega)
  refine ⟨r, ?_, ?_⟩
  · unfold hash_Of.f
    rw [val_key_is _ _ _ hs k (by omega), bs, hr, bs]
  · unfold trommelref17_Of.f
    rw [ref_key_is _ _ _ hs k (by omega), bs, rtext_is _ _ (by omega), hr, bs]

theorem HashVals : trommellaw17_HashVals.Pure := by
  intro seed v r _ hv hr
  obtain ⟨_, _, hvs⟩ := hv
  obtain ⟨hrl, hrs⟩ := hr
  have hs : ∀ y ∈ r, y.f2.size ≤ 140737488351232 := fun y hy => (hrs y hy).2.2
  obtain ⟨K, hK⟩ : ∃ K, K = 3000 + v.f2.size + (rkey r).size + r.length + 100 := ⟨_, rfl⟩
  refine ⟨K + 1, ?_⟩
  have jt : trommellaw17_HashVals.j0 (K + 1) seed r true v.f0 v.f1 v.f2 = some true := by
    simp only [trommellaw17_HashVals.j0]
    rw [if_pos trivial, live17, bs]
  unfold trommellaw17_HashVals.f
  by_cases c : (v.f2.size : Int) > 300
  · rw [if_pos c, jt]
  · rw [if_neg c]
    obtain ⟨b, hb, hp⟩ := much_is [r] (by simpa using hs) (by simp) (K + 1) (by omega)
    rw [hb, bs]
    cases b with
    | true => exact jt
    | false =>
      obtain ⟨_, h40, _⟩ := hp rfl
      have h40' := h40 r (by simp)
      simp only [trommellaw17_HashVals.j0]
      rw [if_neg (by simp)]
      obtain ⟨q, hq1, hq2⟩ := of_is seed v.f0 v.f1 v.f2 hvs K (by omega)
      obtain ⟨p, hp1, _, _, hp2, _⟩ := row_is seed r hs (by omega) K (by omega) (by omega)
      rw [hq1, bs, hq2, bs, if_pos rfl, hp1, bs, hp2, bs, if_pos rfl, live17, bs]

end Go.Proofs.YtcfgjaggccnoaaaDoor.Pure
