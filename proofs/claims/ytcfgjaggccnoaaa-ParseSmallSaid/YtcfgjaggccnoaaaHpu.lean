import Derived.Test.YtcfgjaggccnoaaaPParseSmallx8
namespace Go.Proofs.Ytcfgjaggccnoaaa.PParseSmall
open Go.RowKit Go.Proofs.YtcfgjaggccnoaaaW.PrintWords Go.Proofs.YtcfgjaggccnoaaaW.PrintLast Go.Proofs.YtcfgjaggccnoaaaW.PrintMore
attribute [local go_sem] max2_int min2_int max_two min_two max_three min_three max_four min_four
set_option linter.unusedVariables false
set_option linter.unusedSimpArgs false
set_option maxRecDepth 100000
set_option maxHeartbeats 4000000
theorem bs {α β : Type} (a : α) (f : α → Option β) : (some a).bind f = f a := (Option.bind_some a f).trans (Eq.refl _)

theorem str_eq {s t : ByteArray} (h : s.toList = t.toList) : s = t := by
  have h2 : s.data.toList = t.data.toList := by rw [← ByteArray.toList_eq s, ← ByteArray.toList_eq t]; exact h
  apply ByteArray.ext
  exact Array.ext' h2

theorem u64_wrap (n : Int) : IntKind.u64.wrap n = n % 18446744073709551616 := by
  simp [IntKind.wrap, IntKind.bits, IntKind.signed]

theorem u64_range (n : Int) : 0 ≤ IntKind.u64.wrap n ∧ IntKind.u64.wrap n < 18446744073709551616 := by
  rw [u64_wrap]; omega

theorem u64_in {n : Int} (h0 : 0 ≤ n) (h1 : n < 18446744073709551616) : IntKind.u64.wrap n = n := by
  rw [u64_wrap]; omega

theorem u64_wf {n : Int} (h : (Lit.int .u64 n).wf = true) : 0 ≤ n ∧ n < 18446744073709551616 := by
  have h2 : decide (IntKind.u64.min ≤ n) = true ∧ decide (n ≤ IntKind.u64.max) = true := by
    simpa [Lit.wf] using h
  have e0 : IntKind.u64.min = 0 := by decide
  have e1 : IntKind.u64.max = 18446744073709551615 := by decide
  have := of_decide_eq_true h2.1
  have := of_decide_eq_true h2.2
  omega

theorem i64_wf {n : Int} (h : (Lit.int .i64 n).wf = true) : -9223372036854775808 ≤ n ∧ n < 9223372036854775808 := by
  have h2 : decide (IntKind.i64.min ≤ n) = true ∧ decide (n ≤ IntKind.i64.max) = true := by
    simpa [Lit.wf] using h
  have e0 : IntKind.i64.min = -9223372036854775808 := by decide
  have e1 : IntKind.i64.max = 9223372036854775807 := by decide
  have := of_decide_eq_true h2.1
  have := of_decide_eq_true h2.2
  omega

theorem u8_wf {n : Int} (h : (Lit.int .u8 n).wf = true) : 0 ≤ n ∧ n < 256 := by
  have h2 : decide (IntKind.u8.min ≤ n) = true ∧ decide (n ≤ IntKind.u8.max) = true := by
    simpa [Lit.wf] using h
  have e0 : IntKind.u8.min = 0 := by decide
  have e1 : IntKind.u8.max = 255 := by decide
  have := of_decide_eq_true h2.1
  have := of_decide_eq_true h2.2
  omega

theorem wt64 {n : Int} (h0 : -9223372036854775808 ≤ n) (h1 : n < 9223372036854775808) : wrap64 n = n := by
  unfold wrap64; omega

theorem bits_u64 (op : BinOp) (x y : Int) : 0 ≤ Go.bits op .u64 x y ∧ Go.bits op .u64 x y < 18446744073709551616 := by
  unfold Go.bits
  exact u64_range _

/-! bytes and signs -/
def blk (c : Int) : Bool := decide (c = 32) || decide (c = 9) || decide (c = 10) || decide (c = 13)
def ltr (c : Int) : Bool := decide (97 ≤ c ∧ c ≤ 122) || decide (c = 95)
def dgt (c : Int) : Bool := decide (48 ≤ c ∧ c ≤ 57)

theorem blank_is (c : Int) : token_Blank.f c = some (blk c) := by
  unfold token_Blank.f blk
  by_cases h1 : c = 32
  · simp [h1]
  · by_cases h2 : c = 9
    · simp [h2]
    · by_cases h3 : c = 10
      · simp [h3]
      · simp [h1, h2, h3, Bool.beq_eq_decide_eq]
theorem rblank_is (c : Int) : r07_Blank.f c = some (blk c) := by
  unfold r07_Blank.f blk
  by_cases h1 : c = 32
  · simp [h1]
  · by_cases h2 : c = 9
    · simp [h2]
    · by_cases h3 : c = 10
      · simp [h3]
      · simp [h1, h2, h3, Bool.beq_eq_decide_eq]
theorem letter_is (c : Int) : token_letter.f c = some (ltr c) := by
  unfold token_letter.f ltr
  by_cases h1 : c ≥ 97
  · by_cases h2 : c ≤ 122
    · rw [if_pos h1, if_pos h2]; congr 1; rw [Bool.eq_iff_iff]; simp; omega
    · rw [if_pos h1, if_neg h2]; congr 1; rw [Bool.eq_iff_iff]; simp; omega
  · rw [if_neg h1]; congr 1; rw [Bool.eq_iff_iff]; simp; omega
theorem rletter_is (c : Int) : r07_letter.f c = some (ltr c) := by
  unfold r07_letter.f ltr
  by_cases h1 : c = 95
  · rw [if_pos h1]; simp [h1]
  · rw [if_neg h1]
    by_cases h2 : c ≥ 97
    · rw [if_pos h2]; congr 1; rw [Bool.eq_iff_iff]; simp; omega
    · rw [if_neg h2]; congr 1; rw [Bool.eq_iff_iff]; simp; omega
theorem digit_is (c : Int) : token_digit.f c = some (dgt c) := by
  unfold token_digit.f dgt
  by_cases h1 : c ≥ 48
  · rw [if_pos h1]; congr 1; rw [Bool.eq_iff_iff]; simp; omega
  · rw [if_neg h1]; congr 1; rw [Bool.eq_iff_iff]; simp; omega
theorem rdigit_is (c : Int) : r07_digit.f c = some (dgt c) := by
  unfold r07_digit.f dgt
  by_cases h1 : c ≥ 48
  · rw [if_pos h1]; congr 1; rw [Bool.eq_iff_iff]; simp; omega
  · rw [if_neg h1]; congr 1; rw [Bool.eq_iff_iff]; simp; omega

theorem bt_get (s : ByteArray) (i : Nat) (h : i < s.size) : bt s (i : Int) = ((s[i]'h).toNat : Int) := by
  unfold bt
  rw [dif_pos (show ((i : Nat) : Int).toNat < s.size by omega)]
  rfl

/-! which sign stands at a place -/
def signs : List ByteArray := [⟨#[60, 62]⟩, ⟨#[60, 61]⟩, ⟨#[62, 61]⟩, ⟨#[40]⟩, ⟨#[41]⟩, ⟨#[44]⟩, ⟨#[46]⟩, ⟨#[42]⟩, ⟨#[43]⟩, ⟨#[45]⟩, ⟨#[61]⟩, ⟨#[60]⟩, ⟨#[62]⟩]
def pre (s : ByteArray) (i : Nat) (g : ByteArray) : Bool := decide (i + g.size ≤ s.size) && ((s.extract i (i + g.size)).data.toList == g.data.toList)
def sgn (s : ByteArray) (i : Int) : ByteArray := if i < 0 then ⟨#[]⟩ else (signs.find? (pre s i.toNat)).getD ⟨#[]⟩

theorem rdOf_get {α : Type} (d : α) (l : List α) (j : Nat) (h : j < l.length) : rdOf d l (j : Int) = l[j] := by
  unfold rdOf
  simp [h]

theorem tl (s : ByteArray) : s.toList = s.data.toList := ByteArray.toList_eq s

theorem rsign_l0 (s : ByteArray) (hs : s.size ≤ 140737488355328) (l : List ByteArray) (hl : l.length ≤ 20) (hg : ∀ g ∈ l, g.size ≤ 2) (at_ : Int) (d : Nat) : ∀ (k j : Nat), l.length - j = d → j ≤ l.length → d < k →
    r07_Sign.l0 k s at_ l (j : Int) = some (if at_ < 0 then ⟨#[]⟩ else ((l.drop j).find? (pre s at_.toNat)).getD ⟨#[]⟩) := by
  induction d with
  | zero =>
    intro k j hd hj hk
    obtain ⟨k, rfl⟩ : ∃ m, k = m + 1 := ⟨k - 1, by omega⟩
    simp only [r07_Sign.l0]
    rw [if_neg (by omega), List.drop_of_length_le (by omega)]
    simp
  | succ d ih =>
    intro k j hd hj hk
    obtain ⟨k, rfl⟩ : ∃ m, k = m + 1 := ⟨k - 1, by omega⟩
    have hjl : j < l.length := by omega
    have e1 : wrap64 ((j : Int) + 1) = ((j + 1 : Nat) : Int) := by rw [wt64 (by omega) (by omega)]; omega
    have hgs := hg l[j] (List.getElem_mem hjl)
    have hn := ih k (j + 1) (by omega) (by omega) (by omega)
    simp only [r07_Sign.l0]
    rw [if_pos (by omega), rdOf_get _ l j hjl, e1, hn, List.drop_eq_getElem_cons hjl, List.find?_cons]
    clear ih hn e1 hd hk hg
    generalize l[j] = g at *
    by_cases h0 : at_ < 0
    · rw [if_neg (show ¬ at_ ≥ 0 by omega)]
      simp only [if_pos h0]
    · rw [if_pos (show at_ ≥ 0 by omega), if_pos (show (0 : Int) ≤ (j : Int) by omega)]
      simp only [if_neg h0]
      have e2 : wrap64 ((s.size : Int) - (g.size : Int)) = (s.size : Int) - g.size := wt64 (by omega) (by omega)
      rw [e2]
      obtain ⟨a, rfl⟩ := Int.eq_ofNat_of_zero_le (by omega : 0 ≤ at_)
      by_cases h1 : (a : Int) ≤ (s.size : Int) - g.size
      · have e3 : wrap64 ((a : Int) + (g.size : Int)) = a + g.size := wt64 (by omega) (by omega)
        rw [e3, if_pos h1, if_pos (show (0 : Int) ≤ (a : Int) by omega), if_pos (show (a : Int) ≤ (a : Int) + (g.size : Int) by omega), if_pos (show (a : Int) + (g.size : Int) ≤ (s.size : Int) by omega), Int.toNat_natCast, show ((a : Int) + (g.size : Int)).toNat = a + g.size by omega, tl, tl]
        have ep : pre s a g = ((s.extract a (a + g.size)).data.toList == g.data.toList) := by
          unfold pre
          rw [decide_eq_true (show a + g.size ≤ s.size by omega)]
          rfl
        rw [ep]
        by_cases h2 : (s.extract a (a + g.size)).data.toList = g.data.toList
        · rw [if_pos h2, beq_iff_eq.mpr h2]
          rfl
        · rw [if_neg h2, beq_eq_false_iff_ne.mpr h2]
      · rw [if_neg h1]
        have ep : pre s a g = false := by
          unfold pre
          rw [decide_eq_false (show ¬ a + g.size ≤ s.size by omega)]
          rfl
        rw [Int.toNat_natCast, ep]

theorem rsign_is (s : ByteArray) (hs : s.size ≤ 140737488355328) (at_ : Int) (k : Nat) (hk : 14 ≤ k) : r07_Sign.f k s at_ = some (sgn s at_) := by
  unfold r07_Sign.f
  have := rsign_l0 s hs signs (by decide) (by intro g hg; revert hg; unfold signs; intro hg; simp only [List.mem_cons, List.not_mem_nil, or_false] at hg; rcases hg with rfl | rfl | rfl | rfl | rfl | rfl | rfl | rfl | rfl | rfl | rfl | rfl | rfl <;> decide) at_ 13 k 0 rfl (by omega) (by omega)
  exact this

theorem hasPrefix_is (s : ByteArray) (a : Nat) (ha : a ≤ s.size) (g : ByteArray) : strings_HasPrefix.f (s.extract a s.size) g = some (pre s a g) := by
  have hx : (s.extract a s.size).size = s.size - a := by simp [ByteArray.size_extract]
  have e : stringslite_HasPrefix.f (s.extract a s.size) g = some (pre s a g) := by
    unfold stringslite_HasPrefix.f pre
    rw [hx]
    by_cases h : a + g.size ≤ s.size
    · rw [if_pos (by omega), if_pos (by omega), if_pos (by omega), decide_eq_true h, tl, tl]
      rw [show ((g.size : Int)).toNat = g.size by omega, ByteArray.extract_extract, show min (a + g.size) s.size = a + g.size by omega]
      rfl
    · rw [if_neg (by omega), decide_eq_false h]
      rfl
  unfold strings_HasPrefix.f
  rw [e, bs]

theorem ext_one (s : ByteArray) (i : Nat) (h : i < s.size) : (s.extract i (i + 1)).data.toList = [s[i]'h] := by
  have e : (s.extract i (i + 1)).data.toList = (s.data.toList.drop i).take 1 := by
    simp [ByteArray.data_extract, Array.toList_extract, List.extract]
  rw [e]
  have hl : i < s.data.toList.length := by simpa using h
  rw [List.drop_eq_getElem_cons hl]
  simp
  rfl

theorem ext_is (s : ByteArray) (i : Nat) (b : UInt8) (h : i < s.size) (hb : bt s (i : Int) = (b.toNat : Int)) : s.extract i (i + 1) = ⟨#[b]⟩ := by
  apply ByteArray.ext
  apply Array.ext'
  rw [ext_one s i h]
  rw [bt_get s i h] at hb
  have : s[i]'h = b := UInt8.toNat_inj.mp (by omega)
  rw [this]

theorem pre_one (s : ByteArray) (i : Nat) (b : UInt8) (h : i < s.size) : pre s i ⟨#[b]⟩ = decide (bt s (i : Int) = (b.toNat : Int)) := by
  unfold pre
  have e1 : (⟨#[b]⟩ : ByteArray).size = 1 := rfl
  rw [e1, decide_eq_true (show i + 1 ≤ s.size by omega), ext_one s i h, bt_get s i h]
  by_cases c : s[i]'h = b
  · rw [c]
    simp
  · have c2 : ¬ ((s[i]'h).toNat : Int) = (b.toNat : Int) := by
      intro h2
      exact c (UInt8.toNat_inj.mp (by omega))
    rw [decide_eq_false c2]
    simp [c]

def ones : List UInt8 := [40, 41, 44, 46, 42, 43, 45, 61, 60, 62]
def sing (s : ByteArray) (i : Nat) : List UInt8 → ByteArray
  | [] => ⟨#[]⟩
  | b :: r => if bt s (i : Int) = (b.toNat : Int) then ⟨#[b]⟩ else sing s i r

theorem find_ones (s : ByteArray) (i : Nat) (h : i < s.size) (l : List UInt8) : ((l.map fun b => (⟨#[b]⟩ : ByteArray)).find? (pre s i)).getD ⟨#[]⟩ = sing s i l := by
  induction l with
  | nil => rfl
  | cons b r ih =>
    rw [List.map_cons, List.find?_cons, pre_one s i b h]
    unfold sing
    by_cases c : bt s (i : Int) = (b.toNat : Int)
    · rw [decide_eq_true c, if_pos c]
      rfl
    · rw [decide_eq_false c, if_neg c]
      exact ih

theorem find_past (s : ByteArray) (i : Nat) (h : s.size ≤ i) : signs.find? (pre s i) = none := by
  rw [List.find?_eq_none]
  intro g hg hp
  have hp2 : i + g.size ≤ s.size := by
    unfold pre at hp
    simp at hp
    exact hp.1
  have hgs : 1 ≤ g.size := by
    unfold signs at hg
    simp only [List.mem_cons, List.not_mem_nil, or_false] at hg
    rcases hg with rfl | rfl | rfl | rfl | rfl | rfl | rfl | rfl | rfl | rfl | rfl | rfl | rfl <;> decide
  omega

def twos : List ByteArray := [⟨#[60, 62]⟩, ⟨#[60, 61]⟩, ⟨#[62, 61]⟩]
theorem signs_split : signs = twos ++ ones.map fun b => (⟨#[b]⟩ : ByteArray) := rfl

theorem find_signs (s : ByteArray) (i : Nat) (h : i < s.size) : (signs.find? (pre s i)).getD ⟨#[]⟩ = (twos.find? (pre s i)).getD (sing s i ones) := by
  rw [signs_split, List.find?_append]
  cases hq : twos.find? (pre s i) with
  | none => simpa using find_ones s i h ones
  | some g => rfl

theorem sign_last (s : ByteArray) (hs : s.size ≤ 140737488355328) (i : Nat) (h : i < s.size) (l : List ByteArray) (k : Nat) (j : Nat) (hj : l.length ≤ j) (hk : 0 < k) : token_Sign.l0 k s i l (l.length : Int) (j : Int) = some (sing s i ones) := by
  obtain ⟨k, rfl⟩ : ∃ m, k = m + 1 := ⟨k - 1, by omega⟩
  have e : wrap64 ((i : Int) + 1) = ((i + 1 : Nat) : Int) := by rw [wt64 (by omega) (by omega)]; omega
  simp only [token_Sign.l0]
  rw [if_neg (show ¬ (j : Int) < (l.length : Int) by omega), if_pos (show (0 : Int) ≤ (i : Int) by omega), if_pos (show (i : Int) < (s.size : Int) by omega), e]
  simp only [if_pos (show (i : Int) ≤ ((i + 1 : Nat) : Int) by omega), if_pos (show ((i + 1 : Nat) : Int) ≤ (s.size : Int) by omega), Int.toNat_natCast]
  unfold ones sing sing sing sing sing sing sing sing sing sing sing
  have step : ∀ (n : Int) (b : UInt8) (x y : ByteArray), n = (b.toNat : Int) → x = y → (if bt s (i : Int) = n then some (s.extract i (i + 1)) else some x) = some (if bt s (i : Int) = (b.toNat : Int) then (⟨#[b]⟩ : ByteArray) else y) := by
    intro n b x y hn hxy
    subst hn; subst hxy
    by_cases c : bt s (i : Int) = (b.toNat : Int)
    · rw [if_pos c, if_pos c, ext_is s i b h c]
    · rw [if_neg c, if_neg c]
  have step2 : ∀ (n : Int) (b : UInt8) (x : Option ByteArray) (y : ByteArray), n = (b.toNat : Int) → x = some y → (if bt s (i : Int) = n then some (s.extract i (i + 1)) else x) = some (if bt s (i : Int) = (b.toNat : Int) then (⟨#[b]⟩ : ByteArray) else y) := by
    intro n b x y hn hxy
    subst hxy
    exact step n b y y hn rfl
  refine step2 40 40 _ _ rfl ?_
  refine step2 41 41 _ _ rfl ?_
  refine step2 44 44 _ _ rfl ?_
  refine step2 46 46 _ _ rfl ?_
  refine step2 42 42 _ _ rfl ?_
  refine step2 43 43 _ _ rfl ?_
  refine step2 45 45 _ _ rfl ?_
  refine step2 61 61 _ _ rfl ?_
  refine step2 60 60 _ _ rfl ?_
  refine step2 62 62 _ _ rfl ?_
  rfl

theorem sign_l0 (s : ByteArray) (hs : s.size ≤ 140737488355328) (i : Nat) (h : i < s.size) (l : List ByteArray) (hl : l.length ≤ 20) (d : Nat) : ∀ (k j : Nat), l.length - j = d → j ≤ l.length → d < k →
    token_Sign.l0 k s i l (l.length : Int) (j : Int) = some (((l.drop j).find? (pre s i)).getD (sing s i ones)) := by
  induction d with
  | zero =>
    intro k j hd hj hk
    rw [sign_last s hs i h l k j (by omega) (by omega), List.drop_of_length_le (by omega)]
    rfl
  | succ d ih =>
    intro k j hd hj hk
    obtain ⟨k, rfl⟩ : ∃ m, k = m + 1 := ⟨k - 1, by omega⟩
    have hjl : j < l.length := by omega
    have e1 : wrap64 ((j : Int) + 1) = ((j + 1 : Nat) : Int) := by rw [wt64 (by omega) (by omega)]; omega
    have hn := ih k (j + 1) (by omega) (by omega) (by omega)
    simp only [token_Sign.l0]
    rw [if_pos (show (j : Int) < (l.length : Int) by omega), if_pos (show (0 : Int) ≤ (j : Int) by omega), if_pos (show (j : Int) < (l.length : Int) by omega), if_pos (show (0 : Int) ≤ (i : Int) by omega), if_pos (show (i : Int) ≤ (s.size : Int) by omega), rdOf_get _ l j hjl, Int.toNat_natCast, hasPrefix_is s i (by omega), bs, e1, hn, List.drop_eq_getElem_cons hjl, List.find?_cons]
    cases pre s i l[j] <;> rfl

theorem sign_is (s : ByteArray) (hs : s.size ≤ 140737488355328) (at_ : Int) (k : Nat) (hk : 6 ≤ k) : token_Sign.f k s at_ = some (sgn s at_) := by
  obtain ⟨k, rfl⟩ : ∃ m, k = m + 1 := ⟨k - 1, by omega⟩
  unfold token_Sign.f sgn
  by_cases h0 : at_ < 0
  · rw [if_pos h0, if_pos h0]
    simp only [token_Sign.j0]
    rfl
  · rw [if_neg h0, if_neg h0]
    obtain ⟨i, rfl⟩ := Int.eq_ofNat_of_zero_le (by omega : 0 ≤ at_)
    rw [Int.toNat_natCast]
    by_cases h1 : (i : Int) ≥ (s.size : Int)
    · rw [decide_eq_true h1, find_past s i (by omega)]
      simp only [token_Sign.j0]
      rfl
    · rw [decide_eq_false h1, find_signs s i (by omega)]
      simp only [token_Sign.j0, bs]
      have := sign_l0 s hs i (by omega) twos (by decide) 3 k 0 rfl (by omega) (by omega)
      exact this

/-! words -/
def words : List ByteArray := [⟨#[115, 101, 108, 101, 99, 116]⟩, ⟨#[102, 114, 111, 109]⟩, ⟨#[106, 111, 105, 110]⟩, ⟨#[108, 101, 102, 116]⟩, ⟨#[115, 101, 109, 105]⟩, ⟨#[97, 110, 116, 105]⟩, ⟨#[111, 110]⟩, ⟨#[119, 104, 101, 114, 101]⟩, ⟨#[103, 114, 111, 117, 112]⟩, ⟨#[98, 121]⟩, ⟨#[97, 115]⟩, ⟨#[97, 110, 100]⟩, ⟨#[111, 114]⟩, ⟨#[110, 111, 116]⟩, ⟨#[105, 115]⟩, ⟨#[110, 117, 108, 108]⟩, ⟨#[99, 111, 117, 110, 116]⟩, ⟨#[115, 117, 109]⟩, ⟨#[109, 105, 110]⟩, ⟨#[109, 97, 120]⟩]
def wrd (s : ByteArray) : Bool := words.any fun g => decide (g.data.toList = s.data.toList)

theorem rword_l0 (s : ByteArray) (l : List ByteArray) (hl : l.length ≤ 50) (d : Nat) : ∀ (k j : Nat), l.length - j = d → j ≤ l.length → d < k →
    r05_Word.l0 k s l (j : Int) = some ((l.drop j).any fun g => decide (g.data.toList = s.data.toList)) := by
  induction d with
  | zero =>
    intro k j hd hj hk
    obtain ⟨k, rfl⟩ : ∃ m, k = m + 1 := ⟨k - 1, by omega⟩
    simp only [r05_Word.l0]
    rw [if_neg (by omega), List.drop_of_length_le (by omega)]
    rfl
  | succ d ih =>
    intro k j hd hj hk
    obtain ⟨k, rfl⟩ : ∃ m, k = m + 1 := ⟨k - 1, by omega⟩
    have hjl : j < l.length := by omega
    have e1 : wrap64 ((j : Int) + 1) = ((j + 1 : Nat) : Int) := by rw [wt64 (by omega) (by omega)]; omega
    have hn := ih k (j + 1) (by omega) (by omega) (by omega)
    simp only [r05_Word.l0]
    rw [if_pos (show (j : Int) < (l.length : Int) by omega), if_pos (show (0 : Int) ≤ (j : Int) by omega), rdOf_get _ l j hjl, e1, hn, List.drop_eq_getElem_cons hjl, List.any_cons, tl, tl]
    by_cases c : l[j].data.toList = s.data.toList
    · rw [if_pos c, decide_eq_true c]
      rfl
    · rw [if_neg c, decide_eq_false c]
      rfl

theorem rword_is (s : ByteArray) (k : Nat) (hk : 21 ≤ k) : r05_Word.f k s = some (wrd s) := by
  unfold r05_Word.f
  exact rword_l0 s words (by decide) 20 k 0 rfl (by omega) (by omega)

theorem word_is (s : ByteArray) (k : Nat) (hk : 2 ≤ k) : schema_Word.f k s = some (wrd s) := by
  obtain ⟨k, rfl⟩ : ∃ m, k = m + 1 := ⟨k - 1, by omega⟩
  unfold wrd words
  have hd : ∀ (a : List UInt8), decide (a = s.data.toList) = decide (s.data.toList = a) := fun a => by
    by_cases c : a = s.data.toList
    · rw [decide_eq_true c, decide_eq_true c.symm]
    · rw [decide_eq_false c, decide_eq_false (fun h => c h.symm)]
  simp only [List.any_cons, List.any_nil, hd, Bool.or_false]
  unfold schema_Word.f
  simp only [schema_Word.j0, tl]
  generalize s.data.toList = L
  by_cases h0 : L = [115, 101, 108, 101, 99, 116]
  · simp [h0]
  by_cases h1 : L = [102, 114, 111, 109]
  · simp [h1]
  by_cases h2 : L = [106, 111, 105, 110]
  · simp [h2]
  by_cases h3 : L = [108, 101, 102, 116]
  · simp [h3]
  by_cases h4 : L = [115, 101, 109, 105]
  · simp [h4]
  by_cases h5 : L = [97, 110, 116, 105]
  · simp [h5]
  by_cases h6 : L = [111, 110]
  · simp [h6]
  by_cases h7 : L = [119, 104, 101, 114, 101]
  · simp [h7]
  by_cases h8 : L = [103, 114, 111, 117, 112]
  · simp [h8]
  by_cases h9 : L = [98, 121]
  · simp [h9]
  by_cases h10 : L = [97, 115]
  · simp [h10]
  by_cases h11 : L = [97, 110, 100]
  · simp [h11]
  by_cases h12 : L = [111, 114]
  · simp [h12]
  by_cases h13 : L = [110, 111, 116]
  · simp [h13]
  by_cases h14 : L = [105, 115]
  · simp [h14]
  by_cases h15 : L = [110, 117, 108, 108]
  · simp [h15]
  by_cases h16 : L = [99, 111, 117, 110, 116]
  · simp [h16]
  by_cases h17 : L = [115, 117, 109]
  · simp [h17]
  by_cases h18 : L = [109, 105, 110]
  · simp [h18]
  by_cases h19 : L = [109, 97, 120]
  · simp [h19]
  simp [h0, h1, h2, h3, h4, h5, h6, h7, h8, h9, h10, h11, h12, h13, h14, h15, h16, h17, h18, h19]

/-! how far bytes of a kind go -/
def stp (p : Int → Bool) (s : ByteArray) : Nat → Nat → Nat
  | 0, i => i
  | d + 1, i => if p (bt s (i : Int)) then stp p s d (i + 1) else i

theorem stp_succ (p : Int → Bool) (s : ByteArray) (d i : Nat) : stp p s (d + 1) i = if p (bt s (i : Int)) then stp p s d (i + 1) else i := rfl

theorem stp_ge (p : Int → Bool) (s : ByteArray) (d : Nat) : ∀ i, i ≤ stp p s d i := by
  induction d with
  | zero => intro i; exact Nat.le_refl _
  | succ d ih =>
    intro i
    unfold stp
    split
    · exact Nat.le_trans (Nat.le_succ i) (ih (i + 1))
    · exact Nat.le_refl _
theorem stp_le (p : Int → Bool) (s : ByteArray) (d : Nat) : ∀ i, stp p s d i ≤ i + d := by
  induction d with
  | zero => intro i; exact Nat.le_refl _
  | succ d ih =>
    intro i
    unfold stp
    split
    · have := ih (i + 1); omega
    · omega
def nmb (c : Int) : Bool := ltr c || dgt c
theorem nb_is : token_name.nb = nmb := by
  funext c
  unfold token_name.nb nmb ltr dgt
  rfl
theorem stop_is (s : ByteArray) (d : Nat) : ∀ i, token_name.stop s d i = stp nmb s d i := by
  induction d with
  | zero => intro i; rfl
  | succ d ih =>
    intro i
    unfold token_name.stop stp
    rw [nb_is, ih]

/-! a name -/
def nameR (s : ByteArray) (at0 : Int) (i e : Nat) : Int × ByteArray × Int × Int × Int × Int :=
  if (e : Int) - i > 32 then (0, ⟨#[]⟩, 0, 0, at0, 1)
  else if wrd (s.extract i e) then (2, s.extract i e, 0, i, e, 0) else (1, s.extract i e, 0, i, e, 0)

theorem name_is (s : ByteArray) (hs : s.size ≤ 140737488355328) (i : Nat) (hi : i ≤ s.size) (k : Nat) (hk : 2 ≤ k) : token_name.f k s i = some (nameR s i i (stp nmb s (s.size - i) i)) := by
  unfold token_name.f nameR
  rw [if_pos ⟨by omega, by omega, by omega⟩, Int.toNat_natCast, stop_is]
  have h1 := stp_ge nmb s (s.size - i) i
  have h2 := stp_le nmb s (s.size - i) i
  generalize stp nmb s (s.size - i) i = e at *
  by_cases c : (e : Int) - (i : Int) > 32
  · rw [if_pos c, if_pos c]
  · rw [if_neg c, if_neg c, word_is _ k hk, bs]
    cases wrd (s.extract i e) <;> rfl

theorem rname_j5 (s : ByteArray) (hs : s.size ≤ 140737488355328) (at0 : Int) (i e : Nat) (hi : i ≤ e) (he : e ≤ s.size) (k : Nat) (hk : 22 ≤ k) : r07_One.j5 k s at0 i e = some (nameR s at0 i e) := by
  obtain ⟨k, rfl⟩ : ∃ m, k = m + 1 := ⟨k - 1, by omega⟩
  simp only [r07_One.j5]
  unfold nameR
  rw [wt64 (n := (e : Int) - i) (by omega) (by omega)]
  by_cases c : (e : Int) - (i : Int) > 32
  · rw [if_pos c, if_pos c]
  · rw [if_neg c, if_neg c, if_pos (show (0 : Int) ≤ (i : Int) by omega), if_pos (show (i : Int) ≤ (e : Int) by omega), if_pos (show (e : Int) ≤ (s.size : Int) by omega), Int.toNat_natCast, Int.toNat_natCast, rword_is _ k (by omega), bs]
    cases wrd (s.extract i e) <;> rfl

theorem rname_l1 (s : ByteArray) (hs : s.size ≤ 140737488355328) (at0 : Int) (i : Nat) (d : Nat) : ∀ (k j : Nat), s.size - j = d → j ≤ s.size → i ≤ j → d + 22 < k →
    r07_One.l1 k s at0 i (j : Int) = some (nameR s at0 i (stp nmb s d j)) := by
  induction d with
  | zero =>
    intro k j hd hj hi hk
    obtain ⟨k, rfl⟩ : ∃ m, k = m + 1 := ⟨k - 1, by omega⟩
    simp only [r07_One.l1]
    rw [if_neg (by omega), rname_j5 s hs at0 i j hi hj k (by omega)]
    rfl
  | succ d ih =>
    intro k j hd hj hi hk
    obtain ⟨k, rfl⟩ : ∃ m, k = m + 1 := ⟨k - 1, by omega⟩
    have e1 : wrap64 ((j : Int) + 1) = ((j + 1 : Nat) : Int) := by rw [wt64 (by omega) (by omega)]; omega
    have hn := ih k (j + 1) (by omega) (by omega) (by omega) (by omega)
    simp only [r07_One.l1]
    rw [if_pos (show (j : Int) < (s.size : Int) by omega), if_pos (show (0 : Int) ≤ (j : Int) by omega), rletter_is, bs, rdigit_is, bs, e1, hn, rname_j5 s hs at0 i j hi hj k (by omega)]
    rw [stp_succ]
    have en : nmb (bt s (j : Int)) = (ltr (bt s (j : Int)) || dgt (bt s (j : Int))) := rfl
    rw [en]
    cases ltr (bt s (j : Int)) <;> cases dgt (bt s (j : Int)) <;> rfl

/-! a number -/
def nv (s : ByteArray) : Nat → Nat → Int → Option Int
  | 0, _, v => some v
  | d + 1, i, v => if v > (9223372036854775807 - (bt s (i : Int) - 48)) / 10 then none else nv s d (i + 1) (10 * v + (bt s (i : Int) - 48))
theorem nv_succ (s : ByteArray) (d i : Nat) (v : Int) : nv s (d + 1) i v = if v > (9223372036854775807 - (bt s (i : Int) - 48)) / 10 then none else nv s d (i + 1) (10 * v + (bt s (i : Int) - 48)) := rfl
def numE (s : ByteArray) (at0 : Int) (i e : Nat) : Option Int → Int × ByteArray × Int × Int × Int × Int
  | none => (0, ⟨#[]⟩, 0, 0, at0, 1)
  | some n => if e < s.size ∧ ltr (bt s (e : Int)) = true then (0, ⟨#[]⟩, 0, 0, at0, 1) else (3, s.extract i e, n, i, e, 0)
def numR (s : ByteArray) (at0 : Int) (i j e : Nat) (v : Int) : Int × ByteArray × Int × Int × Int × Int := numE s at0 i e (nv s (e - j) j v)

theorem dgt_range {c : Int} (h : dgt c = true) : 48 ≤ c ∧ c ≤ 57 := by
  unfold dgt at h
  exact of_decide_eq_true h

theorem number_stop (s : ByteArray) (hs : s.size ≤ 140737488355328) (i j : Nat) (hi : i ≤ j) (hj : j ≤ s.size) (v : Int) (k : Nat) (hk : 0 < k) : token_number.j1 k s i v (j : Int) false = some (numR s i i j j v) := by
  obtain ⟨k, rfl⟩ : ∃ m, k = m + 1 := ⟨k - 1, by omega⟩
  simp only [token_number.j1]
  unfold numR
  rw [Nat.sub_self]
  unfold nv numE
  simp only [Bool.false_eq_true, if_false]
  by_cases c : j < s.size
  · rw [if_pos (show (j : Int) < (s.size : Int) by omega), if_pos (show (0 : Int) ≤ (j : Int) by omega), letter_is, bs]
    by_cases l : ltr (bt s (j : Int)) = true
    · rw [if_pos l, if_pos ⟨c, l⟩]
    · rw [if_neg l, if_pos (show (0 : Int) ≤ (i : Int) by omega), if_pos (show (i : Int) ≤ (j : Int) by omega), if_pos (show (j : Int) ≤ (s.size : Int) by omega), if_neg (show ¬ (j < s.size ∧ ltr (bt s (j : Int)) = true) from fun h => l h.2)]
      rfl
  · rw [if_neg (show ¬ (j : Int) < (s.size : Int) by omega), if_pos (show (0 : Int) ≤ (i : Int) by omega), if_pos (show (i : Int) ≤ (j : Int) by omega), if_pos (show (j : Int) ≤ (s.size : Int) by omega), if_neg (show ¬ (j < s.size ∧ ltr (bt s (j : Int)) = true) from fun h => c h.1)]
    rfl

theorem number_l0 (s : ByteArray) (hs : s.size ≤ 140737488355328) (i : Nat) (d : Nat) : ∀ (k j : Nat) (v : Int), s.size - j = d → j ≤ s.size → i ≤ j → 0 ≤ v → v ≤ 9223372036854775807 → 2 * d + 3 < k →
    token_number.l0 k s i v (j : Int) = some (numR s i i j (stp dgt s d j) v) := by
  induction d with
  | zero =>
    intro k j v hd hj hi h0 h1 hk
    obtain ⟨k, rfl⟩ : ∃ m, k = m + 1 := ⟨k - 1, by omega⟩
    simp only [token_number.l0]
    rw [if_neg (by omega), number_stop s hs i j hi hj v k (by omega)]
    rfl
  | succ d ih =>
    intro k j v hd hj hi h0 h1 hk
    obtain ⟨k, rfl⟩ : ∃ m, k = m + 2 := ⟨k - 2, by omega⟩
    simp only [token_number.l0]
    rw [if_pos (show (j : Int) < (s.size : Int) by omega), if_pos (show (0 : Int) ≤ (j : Int) by omega), digit_is, bs]
    cases hq : dgt (bt s (j : Int)) with
    | false =>
      rw [number_stop s hs i j hi hj v (k + 1) (by omega), stp_succ, hq]
      rfl
    | true =>
      obtain ⟨b0, b1⟩ := dgt_range hq
      have e0 : (bt s (j : Int) - 48) % 256 = bt s (j : Int) - 48 := by omega
      have e1 : wrap64 ((j : Int) + 1) = ((j + 1 : Nat) : Int) := by rw [wt64 (by omega) (by omega)]; omega
      have ge := stp_ge dgt s d (j + 1)
      simp only [token_number.j1, if_true]
      rw [if_pos (show (0 : Int) ≤ (j : Int) by omega), if_pos (show (j : Int) < (s.size : Int) by omega), e0, stp_succ, hq, if_pos rfl]
      unfold numR
      rw [show stp dgt s d (j + 1) - j = (stp dgt s d (j + 1) - (j + 1)) + 1 by omega, nv_succ]
      by_cases c : v > (9223372036854775807 - (bt s (j : Int) - 48)) / 10
      · rw [if_pos c, if_pos c]
        rfl
      · have c2 : 10 * v + (bt s (j : Int) - 48) ≤ 9223372036854775807 := by omega
        rw [if_neg c, if_neg c, wt64 (n := 10 * v) (by omega) (by omega), wt64 (by omega) (by omega), e1, ih k (j + 1) _ (by omega) (by omega) (by omega) (by omega) (by omega) (by omega)]
        rfl

theorem number_is (s : ByteArray) (hs : s.size ≤ 140737488355328) (i : Nat) (hi : i ≤ s.size) (k : Nat) (hk : 2 * s.size + 3 < k) : token_number.f k s i = some (numR s i i i (stp dgt s (s.size - i) i) 0) := by
  unfold token_number.f
  exact number_l0 s hs i (s.size - i) k i 0 rfl hi (by omega) (by omega) (by omega) (by omega)

theorem over_iff (v c : Int) (b0 : 48 ≤ c) (b1 : c ≤ 57) : v > (9223372036854775807 - (c - 48)) / 10 ↔ (v > 922337203685477580 ∨ (v = 922337203685477580 ∧ c - 48 > 7)) := by omega

theorem fits_of (v c : Int) (b0 : 48 ≤ c) (b1 : c ≤ 57) (h0 : 0 ≤ v) (h : ¬ (v > 922337203685477580 ∨ (v = 922337203685477580 ∧ c - 48 > 7))) : 0 ≤ 10 * v + (c - 48) ∧ 10 * v + (c - 48) ≤ 9223372036854775807 := by omega

theorem bt_ext (s : ByteArray) (i e p : Nat) (hp : i + p < e) (he : e ≤ s.size) : bt (s.extract i e) (p : Int) = bt s ((i + p : Nat) : Int) := by
  have h1 : p < (s.extract i e).size := by rw [ByteArray.size_extract]; omega
  rw [bt_get _ p h1, bt_get s (i + p) (by omega)]
  have e1 : (s.extract i e)[p]'h1 = s[i + p]'(by omega) := ByteArray.getElem_extract h1
  rw [e1]

def okv : Option Int → Int × Bool
  | none => (0, false)
  | some n => (n, true)

theorem rnumber_t (s t : ByteArray) (i n : Nat) (hn : t.size = n) (hs : n ≤ 140737488355328) (hb : ∀ p, p < n → bt t (p : Int) = bt s ((i + p : Nat) : Int)) (hdg : ∀ p, p < n → dgt (bt s ((i + p : Nat) : Int)) = true) (d : Nat) : ∀ (k p : Nat) (v : Int), n - p = d → p ≤ n → 0 ≤ v → v ≤ 9223372036854775807 → d < k →
    r07_number.l0 k t v (p : Int) = some (okv (nv s d (i + p) v)) := by
  induction d with
  | zero =>
    intro k p v hd hp h0 h1 hk
    obtain ⟨k, rfl⟩ : ∃ m, k = m + 1 := ⟨k - 1, by omega⟩
    simp only [r07_number.l0]
    rw [hn, if_neg (by omega)]
    rfl
  | succ d ih =>
    intro k p v hd hp h0 h1 hk
    obtain ⟨k, rfl⟩ : ∃ m, k = m + 1 := ⟨k - 1, by omega⟩
    have hpn : p < n := by omega
    obtain ⟨b0, b1⟩ := dgt_range (hdg p hpn)
    have e1 : wrap64 ((p : Int) + 1) = ((p + 1 : Nat) : Int) := by rw [wt64 (by omega) (by omega)]; omega
    have hn2 := fun v h0 h1 => ih k (p + 1) v (by omega) (by omega) h0 h1 (by omega)
    simp only [r07_number.l0]
    rw [hn, if_pos (show (p : Int) < (n : Int) by omega), if_pos (show (0 : Int) ≤ (p : Int) by omega), hb p hpn, e1, nv_succ]
    rw [show i + (p + 1) = i + p + 1 by omega] at hn2
    clear ih hb hdg e1 hd
    generalize bt s ((i + p : Nat) : Int) = c at *
    have ew : wrap64 (wrap64 c - 48) = c - 48 := by rw [wt64 (n := c) (by omega) (by omega), wt64 (by omega) (by omega)]
    rw [ew]
    have ov := over_iff v c b0 b1
    by_cases cc : v > 922337203685477580 ∨ (v = 922337203685477580 ∧ c - 48 > 7)
    · rw [if_pos (ov.mpr cc)]
      rcases cc with c1 | ⟨c1, c2⟩
      · rw [if_pos c1]
        rfl
      · rw [if_neg (show ¬ v > 922337203685477580 by omega), if_pos c1, if_pos c2]
        rfl
    · obtain ⟨f0, f1⟩ := fits_of v c b0 b1 h0 cc
      have hw : wrap64 (wrap64 (10 * v) + (c - 48)) = 10 * v + (c - 48) := by rw [wt64 (n := 10 * v) (by omega) (by omega), wt64 (by omega) (by omega)]
      rw [if_neg (fun h => cc (ov.mp h)), hw, hn2 _ f0 f1, if_neg (show ¬ v > 922337203685477580 from fun h => cc (Or.inl h))]
      by_cases c2 : v = 922337203685477580
      · rw [if_pos c2, if_neg (show ¬ c - 48 > 7 from fun h => cc (Or.inr ⟨c2, h⟩))]
      · rw [if_neg c2]

theorem rnumber_l0 (s : ByteArray) (hs : s.size ≤ 140737488355328) (i e : Nat) (hi : i ≤ e) (he : e ≤ s.size) (hdg : ∀ p, i ≤ p → p < e → dgt (bt s (p : Int)) = true) (k : Nat) (hk : e - i < k) :
    r07_number.l0 k (s.extract i e) 0 0 = some (okv (nv s (e - i) i 0)) := by
  have hsz : (s.extract i e).size = e - i := by rw [ByteArray.size_extract]; omega
  exact rnumber_t s (s.extract i e) i (e - i) hsz (by omega) (fun p hp => bt_ext s i e p (by omega) he) (fun p hp => hdg (i + p) (by omega) (by omega)) (e - i) k 0 0 (by omega) (by omega) (by omega) (by omega) hk

theorem stp_all (p : Int → Bool) (s : ByteArray) (d : Nat) : ∀ i q, i ≤ q → q < stp p s d i → p (bt s (q : Int)) = true := by
  induction d with
  | zero =>
    intro i q h1 h2
    have h3 : q < i := h2
    omega
  | succ d ih =>
    intro i q h1 h2
    rw [stp_succ] at h2
    by_cases c : p (bt s (i : Int)) = true
    · rw [if_pos c] at h2
      by_cases hq : q = i
      · rw [hq]; exact c
      · exact ih (i + 1) q (by omega) h2
    · rw [if_neg c] at h2
      omega

theorem rnumber_j7 (s : ByteArray) (hs : s.size ≤ 140737488355328) (at0 : Int) (i e : Nat) (hi : i ≤ e) (he : e ≤ s.size) (hdg : ∀ p, i ≤ p → p < e → dgt (bt s (p : Int)) = true) (k : Nat) (hk : s.size + 2 < k) : r07_One.j7 k s at0 i e = some (numR s at0 i i e 0) := by
  obtain ⟨k, rfl⟩ : ∃ m, k = m + 1 := ⟨k - 1, by omega⟩
  have hn := rnumber_l0 s hs i e hi he hdg k (by omega)
  simp only [r07_One.j7]
  unfold r07_number.f
  rw [if_pos (show (0 : Int) ≤ (i : Int) by omega), if_pos (show (i : Int) ≤ (e : Int) by omega), if_pos (show (e : Int) ≤ (s.size : Int) by omega), Int.toNat_natCast, Int.toNat_natCast]
  rw [hn, bs, rletter_is]
  unfold numR
  cases nv s (e - i) i 0 with
  | none => rfl
  | some n =>
    unfold okv numE
    simp only [if_true, bs]
    by_cases c : e < s.size
    · rw [if_pos (show (e : Int) < (s.size : Int) by omega), if_pos (show (0 : Int) ≤ (e : Int) by omega)]
      by_cases l : ltr (bt s (e : Int)) = true
      · rw [if_pos l, if_pos ⟨c, l⟩]
      · rw [if_neg l, if_neg (show ¬ (e < s.size ∧ ltr (bt s (e : Int)) = true) from fun h => l h.2)]
    · rw [if_neg (show ¬ (e : Int) < (s.size : Int) by omega), if_neg (show ¬ (e < s.size ∧ ltr (bt s (e : Int)) = true) from fun h => c h.1)]

theorem rnumber_l2 (s : ByteArray) (hs : s.size ≤ 140737488355328) (at0 : Int) (i : Nat) (d : Nat) : ∀ (k j : Nat), s.size - j = d → j ≤ s.size → i ≤ j → (∀ p, i ≤ p → p < j → dgt (bt s (p : Int)) = true) → d + s.size + 3 < k →
    r07_One.l2 k s at0 i (j : Int) = some (numR s at0 i i (stp dgt s d j) 0) := by
  induction d with
  | zero =>
    intro k j hd hj hi hp hk
    obtain ⟨k, rfl⟩ : ∃ m, k = m + 1 := ⟨k - 1, by omega⟩
    simp only [r07_One.l2]
    rw [if_neg (by omega), rnumber_j7 s hs at0 i j hi hj hp k (by omega)]
    rfl
  | succ d ih =>
    intro k j hd hj hi hp hk
    obtain ⟨k, rfl⟩ : ∃ m, k = m + 1 := ⟨k - 1, by omega⟩
    have e1 : wrap64 ((j : Int) + 1) = ((j + 1 : Nat) : Int) := by rw [wt64 (by omega) (by omega)]; omega
    simp only [r07_One.l2]
    rw [if_pos (show (j : Int) < (s.size : Int) by omega), if_pos (show (0 : Int) ≤ (j : Int) by omega), rdigit_is, bs, e1, stp_succ]
    by_cases c : dgt (bt s (j : Int)) = true
    · rw [if_pos c, if_pos c]
      refine ih k (j + 1) (by omega) (by omega) (by omega) ?_ (by omega)
      intro p h1 h2
      by_cases hq : p = j
      · rw [hq]; exact c
      · exact hp p h1 (by omega)
    · rw [if_neg c, if_neg c]
      exact rnumber_j7 s hs at0 i j hi hj hp k (by omega)

/-! a text -/
def tx (s : ByteArray) : Nat → Nat → List Int → Int × List Int × Nat
  | 0, _, _ => (1, [], 0)
  | d + 1, i, acc => if i < s.size then (if bt s (i : Int) = 39 then (if i + 1 < s.size ∧ bt s ((i + 1 : Nat) : Int) = 39 then tx s d (i + 2) (acc ++ [39]) else if acc.length > 65536 then (4, [], 0) else (0, acc, i + 1)) else tx s d (i + 1) (acc ++ [bt s (i : Int)])) else (1, [], 0)
theorem tx_succ (s : ByteArray) (d i : Nat) (acc : List Int) : tx s (d + 1) i acc = if i < s.size then (if bt s (i : Int) = 39 then (if i + 1 < s.size ∧ bt s ((i + 1 : Nat) : Int) = 39 then tx s d (i + 2) (acc ++ [39]) else if acc.length > 65536 then (4, [], 0) else (0, acc, i + 1)) else tx s d (i + 1) (acc ++ [bt s (i : Int)])) else (1, [], 0) := rfl
def txR (at0 : Int) (i : Nat) (r : Int × List Int × Nat) : Int × ByteArray × Int × Int × Int × Int :=
  if r.1 = 0 then (4, strOfNums r.2.1, 0, i, r.2.2, 0) else (0, ⟨#[]⟩, 0, 0, at0, r.1)

theorem nums_snoc (acc : List Int) (s : ByteArray) (i : Nat) (h : i < s.size) : strOfNums (acc ++ [bt s (i : Int)]) = strOfNums acc ++ s.extract i (i + 1) := by
  apply ByteArray.ext
  apply Array.ext'
  rw [ByteArray.data_append, Array.toList_append, ext_one s i h, strOfNums_data, strOfNums_data, List.map_append, bt_get s i h]
  simp
theorem nums_quote (acc : List Int) : strOfNums (acc ++ [39]) = strOfNums acc ++ ⟨#[39]⟩ := by
  apply ByteArray.ext
  apply Array.ext'
  rw [ByteArray.data_append, Array.toList_append, strOfNums_data, strOfNums_data, List.map_append]
  rfl

theorem text_l0 (s : ByteArray) (hs : s.size ≤ 140737488355328) (i : Nat) (d : Nat) : ∀ (k j : Nat) (acc : List Int), s.size + 1 - j ≤ d → j ≤ s.size + 1 → acc.length ≤ j → 2 * d + 2 < k →
    token_text.l0 k s i acc (j : Int) = some (txR i i (tx s d j acc)) := by
  induction d with
  | zero =>
    intro k j acc hd hj ha hk
    obtain ⟨k, rfl⟩ : ∃ m, k = m + 1 := ⟨k - 1, by omega⟩
    simp only [token_text.l0]
    rw [if_neg (by omega)]
    rfl
  | succ d ih =>
    intro k j acc hd hj ha hk
    obtain ⟨k, rfl⟩ : ∃ m, k = m + 2 := ⟨k - 2, by omega⟩
    simp only [token_text.l0]
    rw [tx_succ]
    by_cases c : j < s.size
    · have e1 : wrap64 ((j : Int) + 1) = ((j + 1 : Nat) : Int) := by rw [wt64 (by omega) (by omega)]; omega
      have e2 : wrap64 (((j + 1 : Nat) : Int) + 1) = ((j + 2 : Nat) : Int) := by rw [wt64 (by omega) (by omega)]; omega
      have e3 : wrap64 ((j : Int) + 2) = ((j + 2 : Nat) : Int) := by rw [wt64 (by omega) (by omega)]; omega
      have sz : (strOfNums acc).size = acc.length := strOfNums_size acc
      rw [if_pos (show (j : Int) < (s.size : Int) by omega), if_pos (show (0 : Int) ≤ (j : Int) by omega), if_pos c, e1]
      by_cases q : bt s (j : Int) = 39
      · rw [if_pos q, if_pos q]
        have endq : token_text.j1 (k + 1) s i acc (j : Int) false = some (txR i i (if acc.length > 65536 then (4, [], 0) else (0, acc, j + 1))) := by
          simp only [token_text.j1, Bool.false_eq_true, if_false]
          rw [e1]
          by_cases l : acc.length > 65536
          · rw [if_pos (show (acc.length : Int) > 65536 by omega), if_pos l]
            rfl
          · rw [if_neg (show ¬ (acc.length : Int) > 65536 by omega), if_neg l]
            rfl
        by_cases c2 : j + 1 < s.size
        · rw [if_pos (show ((j + 1 : Nat) : Int) < (s.size : Int) by omega), if_pos (show (0 : Int) ≤ ((j + 1 : Nat) : Int) by omega)]
          by_cases q2 : bt s ((j + 1 : Nat) : Int) = 39
          · rw [beq_iff_eq.mpr q2, if_pos ⟨c2, q2⟩]
            simp only [token_text.j1, if_true]
            rw [if_pos (show acc.length < 140737488355328 by omega), e1, e2]
            exact ih k (j + 2) (acc ++ [39]) (by omega) (by omega) (by simp; omega) (by omega)
          · rw [beq_eq_false_iff_ne.mpr q2, if_neg (fun h => q2 h.2)]
            exact endq
        · rw [if_neg (show ¬ ((j + 1 : Nat) : Int) < (s.size : Int) by omega), if_neg (fun h => c2 h.1)]
          exact endq
      · have sz1 : (s.extract j (j + 1)).size = 1 := by rw [ByteArray.size_extract]; omega
        rw [if_neg q, if_neg q, if_pos (show acc.length < 140737488355328 by omega)]
        exact ih (k + 1) (j + 1) (acc ++ [bt s (j : Int)]) (by omega) (by omega) (by simp; omega) (by omega)
    · rw [if_neg (show ¬ (j : Int) < (s.size : Int) by omega), if_neg c]
      rfl

theorem rtext_l0 (s : ByteArray) (hs : s.size ≤ 140737488355328) (at0 : Int) (i : Nat) (d : Nat) : ∀ (k j : Nat) (acc : List Int), s.size + 1 - j ≤ d → j ≤ s.size + 1 → acc.length ≤ j → 2 * d + 2 < k →
    r07_text.l0 k s at0 i (strOfNums acc) (j : Int) = some (txR at0 i (tx s d j acc)) := by
  induction d with
  | zero =>
    intro k j acc hd hj ha hk
    obtain ⟨k, rfl⟩ : ∃ m, k = m + 1 := ⟨k - 1, by omega⟩
    simp only [r07_text.l0]
    rw [if_neg (by omega)]
    rfl
  | succ d ih =>
    intro k j acc hd hj ha hk
    obtain ⟨k, rfl⟩ : ∃ m, k = m + 2 := ⟨k - 2, by omega⟩
    simp only [r07_text.l0]
    rw [tx_succ]
    by_cases c : j < s.size
    · have e1 : wrap64 ((j : Int) + 1) = ((j + 1 : Nat) : Int) := by rw [wt64 (by omega) (by omega)]; omega
      have e2 : wrap64 (((j + 1 : Nat) : Int) + 1) = ((j + 2 : Nat) : Int) := by rw [wt64 (by omega) (by omega)]; omega
      have e3 : wrap64 ((j : Int) + 2) = ((j + 2 : Nat) : Int) := by rw [wt64 (by omega) (by omega)]; omega
      have sz : (strOfNums acc).size = acc.length := strOfNums_size acc
      rw [if_pos (show (j : Int) < (s.size : Int) by omega), if_pos (show (0 : Int) ≤ (j : Int) by omega), if_pos c, e1]
      by_cases q : bt s (j : Int) = 39
      · rw [if_pos q, if_pos q]
        have endq : r07_text.j1 (k + 1) s at0 i (strOfNums acc) (j : Int) false = some (txR at0 i (if acc.length > 65536 then (4, [], 0) else (0, acc, j + 1))) := by
          simp only [r07_text.j1, Bool.false_eq_true, if_false]
          rw [sz, e1]
          by_cases l : acc.length > 65536
          · rw [if_pos (show (acc.length : Int) > 65536 by omega), if_pos l]
            rfl
          · rw [if_neg (show ¬ (acc.length : Int) > 65536 by omega), if_neg l]
            rfl
        by_cases c2 : j + 1 < s.size
        · rw [if_pos (show ((j + 1 : Nat) : Int) < (s.size : Int) by omega), if_pos (show (0 : Int) ≤ ((j + 1 : Nat) : Int) by omega)]
          by_cases q2 : bt s ((j + 1 : Nat) : Int) = 39
          · rw [beq_iff_eq.mpr q2, if_pos ⟨c2, q2⟩]
            simp only [r07_text.j1, if_true]
            rw [if_pos (show (strOfNums acc).size + 1 ≤ 9223372036854775807 by omega), e3, ← nums_quote]
            exact ih k (j + 2) (acc ++ [39]) (by omega) (by omega) (by simp; omega) (by omega)
          · rw [beq_eq_false_iff_ne.mpr q2, if_neg (fun h => q2 h.2)]
            exact endq
        · rw [if_neg (show ¬ ((j + 1 : Nat) : Int) < (s.size : Int) by omega), if_neg (fun h => c2 h.1)]
          exact endq
      · have sz1 : (s.extract j (j + 1)).size = 1 := by rw [ByteArray.size_extract]; omega
        rw [if_neg q, if_neg q, if_pos (show (j : Int) ≤ ((j + 1 : Nat) : Int) by omega), if_pos (show ((j + 1 : Nat) : Int) ≤ (s.size : Int) by omega), Int.toNat_natCast, Int.toNat_natCast, if_pos (show (strOfNums acc).size + (s.extract j (j + 1)).size ≤ 9223372036854775807 by omega), ← nums_snoc acc s j c]
        exact ih (k + 1) (j + 1) (acc ++ [bt s (j : Int)]) (by omega) (by omega) (by simp; omega) (by omega)
    · rw [if_neg (show ¬ (j : Int) < (s.size : Int) by omega), if_neg c]
      rfl

/-! one token -/
def strip (from_ : Int) (r : Int × ByteArray × Int × Int × Int × Int) : Int × ByteArray × Int × Int × Int × Int :=
  if r.2.2.2.2.2 = 0 then (r.1, r.2.1, r.2.2.1, r.2.2.2.1, r.2.2.2.2.1, 0) else (0, ⟨#[]⟩, 0, 0, from_, r.2.2.2.2.2)

def tokR (s : ByteArray) (from_ : Int) (i : Nat) : Int × ByteArray × Int × Int × Int × Int :=
  if i = s.size then (0, ⟨#[]⟩, 0, i, i, 0)
  else if ltr (bt s (i : Int)) then nameR s from_ i (stp nmb s (s.size - i) i)
  else if dgt (bt s (i : Int)) then numR s from_ i i (stp dgt s (s.size - i) i) 0
  else if bt s (i : Int) = 39 then txR from_ i (tx s s.size (i + 1) [])
  else if (sgn s i).data.toList = [] then (0, ⟨#[]⟩, 0, 0, from_, 1) else (5, sgn s i, 0, i, (i : Int) + (sgn s i).size, 0)

def clamp (s : ByteArray) (a : Int) : Nat := if a < 0 then 0 else if a > s.size then s.size else a.toNat
def oneR (s : ByteArray) (a : Int) : Int × ByteArray × Int × Int × Int × Int := tokR s (clamp s a) (stp blk s (s.size - clamp s a) (clamp s a))

theorem strip_name (s : ByteArray) (f : Int) (i e : Nat) : strip f (nameR s i i e) = nameR s f i e := by
  unfold nameR
  by_cases c : (e : Int) - (i : Int) > 32
  · rw [if_pos c, if_pos c]; rfl
  · rw [if_neg c, if_neg c]
    cases wrd (s.extract i e) <;> rfl
theorem strip_num (s : ByteArray) (f : Int) (i j e : Nat) (v : Int) : strip f (numR s i i j e v) = numR s f i j e v := by
  unfold numR
  cases nv s (e - j) j v with
  | none => rfl
  | some n =>
    unfold numE
    by_cases c : e < s.size ∧ ltr (bt s (e : Int)) = true
    · simp only [if_pos c]; rfl
    · simp only [if_neg c]; rfl
theorem strip_tx (f : Int) (i : Nat) (r : Int × List Int × Nat) : strip f (txR i i r) = txR f i r := by
  unfold txR
  by_cases c : r.1 = 0
  · rw [if_pos c, if_pos c]; rfl
  · rw [if_neg c, if_neg c]
    unfold strip
    rw [if_neg c]

theorem sgn_size (s : ByteArray) (i : Int) : (sgn s i).size ≤ 2 := by
  unfold sgn
  split
  · decide
  · cases h : signs.find? (pre s i.toNat) with
    | none => decide
    | some g =>
      have hg := List.mem_of_find?_eq_some h
      unfold signs at hg
      simp only [List.mem_cons, List.not_mem_nil, or_false] at hg
      rcases hg with rfl | rfl | rfl | rfl | rfl | rfl | rfl | rfl | rfl | rfl | rfl | rfl | rfl <;> decide

theorem ite_bind {α β : Type} (c : Prop) [Decidable c] (a b : Option α) (f : α → Option β) : (if c then a else b).bind f = if c then a.bind f else b.bind f := by
  split <;> rfl

theorem one_j1 (s : ByteArray) (hs : s.size ≤ 140737488355328) (f : Int) (i : Nat) (hi : i ≤ s.size) (k : Nat) (hk : 2 * s.size + 10 < k) : token_One.j1 k s f i = some (tokR s f i) := by
  obtain ⟨k, rfl⟩ : ∃ m, k = m + 1 := ⟨k - 1, by omega⟩
  simp only [token_One.j1]
  rw [sign_is s hs i k (by omega), bs]
  unfold tokR
  by_cases c : i = s.size
  · rw [if_pos (show (i : Int) = (s.size : Int) by omega), if_pos c]
  · rw [if_neg (show ¬ (i : Int) = (s.size : Int) by omega), if_neg c, if_pos (show (0 : Int) ≤ (i : Int) by omega), if_pos (show (i : Int) < (s.size : Int) by omega), letter_is, bs]
    by_cases l : ltr (bt s (i : Int)) = true
    · rw [if_pos l, if_pos l, name_is s hs i hi k (by omega), bs, ← strip_name s f i (stp nmb s (s.size - i) i)]
      unfold strip
      split <;> rfl
    · rw [if_neg l, if_neg l, digit_is, bs]
      by_cases g : dgt (bt s (i : Int)) = true
      · rw [if_pos g, if_pos g, number_is s hs i hi k (by omega), bs, ← strip_num s f i i (stp dgt s (s.size - i) i) 0]
        unfold strip
        split <;> rfl
      · rw [if_neg g, if_neg g]
        by_cases q : bt s (i : Int) = 39
        · have e1 : wrap64 ((i : Int) + 1) = ((i + 1 : Nat) : Int) := by rw [wt64 (by omega) (by omega)]; omega
          have ht2 := text_l0 s hs i s.size k (i + 1) [] (by omega) (by omega) (by simp) (by omega)
          rw [if_pos q, if_pos q]
          unfold token_text.f
          rw [e1, ht2, bs, ← strip_tx f i (tx s s.size (i + 1) [])]
          unfold strip
          split <;> rfl
        · rw [if_neg q, if_neg q, tl]
          by_cases z : (sgn s (i : Int)).data.toList = []
          · rw [if_pos z, if_pos z]
          · have := sgn_size s (i : Int)
            rw [if_neg z, if_neg z, wt64 (by omega) (by omega)]

theorem one_l0 (s : ByteArray) (hs : s.size ≤ 140737488355328) (f : Int) (d : Nat) : ∀ (k i : Nat), s.size - i = d → i ≤ s.size → d + 2 * s.size + 11 < k →
    token_One.l0 k s f (i : Int) = some (tokR s f (stp blk s d i)) := by
  induction d with
  | zero =>
    intro k i hd hi hk
    obtain ⟨k, rfl⟩ : ∃ m, k = m + 1 := ⟨k - 1, by omega⟩
    simp only [token_One.l0]
    rw [if_neg (by omega), one_j1 s hs f i hi k (by omega)]
    rfl
  | succ d ih =>
    intro k i hd hi hk
    obtain ⟨k, rfl⟩ : ∃ m, k = m + 1 := ⟨k - 1, by omega⟩
    have e1 : wrap64 ((i : Int) + 1) = ((i + 1 : Nat) : Int) := by rw [wt64 (by omega) (by omega)]; omega
    simp only [token_One.l0]
    rw [if_pos (show (i : Int) < (s.size : Int) by omega), if_pos (show (0 : Int) ≤ (i : Int) by omega), blank_is, bs, e1, stp_succ, ih k (i + 1) (by omega) (by omega) (by omega), one_j1 s hs f i hi k (by omega)]
    cases blk (bt s (i : Int)) <;> rfl

theorem clamp_le (s : ByteArray) (a : Int) : clamp s a ≤ s.size := by
  unfold clamp
  split
  · omega
  · split <;> omega

theorem one_is (s : ByteArray) (hs : s.size ≤ 140737488355328) (a : Int) (k : Nat) (hk : 3 * s.size + 20 < k) : token_One.f k s a = some (oneR s a) := by
  have e : mn (mx a 0) (s.size : Int) = (clamp s a : Int) := by
    unfold mn mx clamp
    split <;> split <;> (try split) <;> omega
  have hc := clamp_le s a
  unfold token_One.f
  rw [e]
  exact one_l0 s hs _ (s.size - clamp s a) k (clamp s a) rfl hc (by omega)

theorem rone_j3 (s : ByteArray) (hs : s.size ≤ 140737488355328) (f : Int) (i : Nat) (hi : i ≤ s.size) (k : Nat) (hk : 2 * s.size + 40 < k) : r07_One.j3 k s f i = some (tokR s f i) := by
  obtain ⟨k, rfl⟩ : ∃ m, k = m + 1 := ⟨k - 1, by omega⟩
  simp only [r07_One.j3]
  unfold tokR
  by_cases c : i = s.size
  · rw [if_pos (show (i : Int) = (s.size : Int) by omega), if_pos c]
  · rw [if_neg (show ¬ (i : Int) = (s.size : Int) by omega), if_neg c, if_pos (show (0 : Int) ≤ (i : Int) by omega), if_pos (show (i : Int) < (s.size : Int) by omega), rletter_is, bs]
    by_cases l : ltr (bt s (i : Int)) = true
    · rw [if_pos l, if_pos l]
      exact rname_l1 s hs f i (s.size - i) k i rfl hi (Nat.le_refl _) (by omega)
    · rw [if_neg l, if_neg l, rdigit_is, bs]
      by_cases g : dgt (bt s (i : Int)) = true
      · rw [if_pos g, if_pos g]
        exact rnumber_l2 s hs f i (s.size - i) k i rfl hi (Nat.le_refl _) (fun p h1 h2 => by omega) (by omega)
      · rw [if_neg g, if_neg g]
        by_cases q : bt s (i : Int) = 39
        · have e1 : wrap64 ((i : Int) + 1) = ((i + 1 : Nat) : Int) := by rw [wt64 (by omega) (by omega)]; omega
          have ht2 := rtext_l0 s hs f i s.size k (i + 1) [] (by omega) (by omega) (by simp) (by omega)
          rw [if_pos q, if_pos q]
          unfold r07_text.f
          have e0 : strOfNums [] = (⟨#[]⟩ : ByteArray) := rfl
          rw [e0] at ht2
          rw [e1, ht2, bs]
        · rw [if_neg q, if_neg q, rsign_is s hs (i : Int) k (by omega), bs, tl]
          by_cases z : (sgn s (i : Int)).data.toList = []
          · rw [if_pos z, if_pos z]
          · have := sgn_size s (i : Int)
            rw [if_neg z, if_neg z, wt64 (by omega) (by omega)]

theorem rone_l0 (s : ByteArray) (hs : s.size ≤ 140737488355328) (f : Int) (d : Nat) : ∀ (k i : Nat), s.size - i = d → i ≤ s.size → d + 2 * s.size + 41 < k →
    r07_One.l0 k s f (i : Int) = some (tokR s f (stp blk s d i)) := by
  induction d with
  | zero =>
    intro k i hd hi hk
    obtain ⟨k, rfl⟩ : ∃ m, k = m + 1 := ⟨k - 1, by omega⟩
    simp only [r07_One.l0]
    rw [if_neg (by omega), rone_j3 s hs f i hi k (by omega)]
    rfl
  | succ d ih =>
    intro k i hd hi hk
    obtain ⟨k, rfl⟩ : ∃ m, k = m + 1 := ⟨k - 1, by omega⟩
    have e1 : wrap64 ((i : Int) + 1) = ((i + 1 : Nat) : Int) := by rw [wt64 (by omega) (by omega)]; omega
    simp only [r07_One.l0]
    rw [if_pos (show (i : Int) < (s.size : Int) by omega), if_pos (show (0 : Int) ≤ (i : Int) by omega), rblank_is, bs, e1, stp_succ, ih k (i + 1) (by omega) (by omega) (by omega), rone_j3 s hs f i hi k (by omega)]
    cases blk (bt s (i : Int)) <;> rfl

theorem rone_is (s : ByteArray) (hs : s.size ≤ 140737488355328) (a : Int) (k : Nat) (hk : 3 * s.size + 50 < k) : r07_One.f k s a = some (oneR s a) := by
  have hc := clamp_le s a
  have hl := rone_l0 s hs (clamp s a) (s.size - clamp s a)
  obtain ⟨k, rfl⟩ : ∃ m, k = m + 2 := ⟨k - 2, by omega⟩
  have h2 : r07_One.f (k + 2) s a = r07_One.l0 k s (clamp s a) (clamp s a) := by
    unfold r07_One.f
    by_cases c : a < 0
    · rw [if_pos c]
      simp only [r07_One.j0]
      rw [if_neg (by omega)]
      simp only [r07_One.j1]
      have e : clamp s a = 0 := by unfold clamp; rw [if_pos c]
      rw [e]
      rfl
    · rw [if_neg c]
      simp only [r07_One.j0]
      by_cases c2 : a > (s.size : Int)
      · have e : clamp s a = s.size := by unfold clamp; rw [if_neg c, if_pos c2]
        rw [if_pos c2, e]
        rfl
      · have e : (clamp s a : Int) = a := by unfold clamp; rw [if_neg c, if_neg c2]; omega
        rw [if_neg c2, e]
        rfl
  rw [h2, hl k (clamp s a) rfl hc (by omega)]
  rfl

/-! all tokens -/
def mkT (r : Int × ByteArray × Int × Int × Int × Int) : S91 := ⟨r.1, r.2.1, r.2.2.1, r.2.2.2.1⟩
def allR (s : ByteArray) : Nat → List S91 → Int → List S91 × Int
  | 0, _, _ => ([], 4)
  | n + 1, acc, a => if (oneR s a).2.2.2.2.2 = 0 then (if (oneR s a).1 = 0 then (acc ++ [mkT (oneR s a)], 0) else allR s n (acc ++ [mkT (oneR s a)]) (oneR s a).2.2.2.2.1) else ([], (oneR s a).2.2.2.2.2)
theorem allR_succ (s : ByteArray) (n : Nat) (acc : List S91) (a : Int) : allR s (n + 1) acc a = if (oneR s a).2.2.2.2.2 = 0 then (if (oneR s a).1 = 0 then (acc ++ [mkT (oneR s a)], 0) else allR s n (acc ++ [mkT (oneR s a)]) (oneR s a).2.2.2.2.1) else ([], (oneR s a).2.2.2.2.2) := rfl

theorem all_l0 (s : ByteArray) (hs : s.size ≤ 140737488355328) (n : Nat) : ∀ (k : Nat) (acc : List S91) (a : Int), acc.length + n = 1000 → n + 3 * s.size + 60 < k → token_All.l0 k s acc a = some (allR s n acc a) := by
  induction n with
  | zero =>
    intro k acc a h hk
    obtain ⟨k, rfl⟩ : ∃ m, k = m + 1 := ⟨k - 1, by omega⟩
    simp only [token_All.l0]
    rw [if_neg (by omega)]
    rfl
  | succ n ih =>
    intro k acc a h hk
    obtain ⟨k, rfl⟩ : ∃ m, k = m + 1 := ⟨k - 1, by omega⟩
    simp only [token_All.l0]
    rw [if_pos (show (acc.length : Int) < 1000 by omega), one_is s hs a k (by omega), bs, allR_succ]
    generalize oneR s a = r
    by_cases c : r.2.2.2.2.2 = 0
    · rw [if_pos c, if_pos c, if_pos (show acc.length < 3518437208883 by omega), bs, ih k _ _ (by simp; omega) (by omega)]
      by_cases c2 : r.1 = 0
      · rw [if_pos c2, if_pos c2]
        rfl
      · rw [if_neg c2, if_neg c2]
        rfl
    · rw [if_neg c, if_neg c]

theorem all_is (s : ByteArray) (hs : s.size ≤ 140737488355328) (k : Nat) (hk : 3 * s.size + 1100 < k) : token_All.f k s = some (allR s 1000 [] 0) := by
  unfold token_All.f
  exact all_l0 s hs 1000 k [] 0 rfl (by omega)

theorem live_all : (allR ⟨#[97, 46, 120, 60, 61, 49, 48]⟩ 1000 [] 0).2 = 0 ∧ (allR ⟨#[97, 46, 120, 60, 61, 49, 48]⟩ 1000 [] 0).1.length = 6 ∧ (rd_T91 (allR ⟨#[97, 46, 120, 60, 61, 49, 48]⟩ 1000 [] 0).1 3).f1.data.toList = [60, 61] ∧ (rd_T91 (allR ⟨#[97, 46, 120, 60, 61, 49, 48]⟩ 1000 [] 0).1 4).f2 = 10 := by
  decide +kernel

theorem allR_len (s : ByteArray) (n : Nat) : ∀ (acc : List S91) (a : Int), (allR s n acc a).1.length ≤ acc.length + n := by
  induction n with
  | zero => intro acc a; simp [allR]
  | succ n ih =>
    intro acc a
    rw [allR_succ]
    split
    · split
      · simp
      · have := ih (acc ++ [mkT (oneR s a)]) (oneR s a).2.2.2.2.1
        simp at this
        omega
    · simp

theorem rall_l0 (s : ByteArray) (hs : s.size ≤ 140737488355328) (n : Nat) : ∀ (k j : Nat) (acc : List S91) (a : Int), j + n = 1000 → acc.length ≤ j → n + 3 * s.size + 60 < k → r07_All.l0 k s acc a (j : Int) = some (allR s n acc a) := by
  induction n with
  | zero =>
    intro k j acc a h _ hk
    obtain ⟨k, rfl⟩ : ∃ m, k = m + 1 := ⟨k - 1, by omega⟩
    simp only [r07_All.l0]
    rw [if_neg (by omega)]
    rfl
  | succ n ih =>
    intro k j acc a h hj hk
    obtain ⟨k, rfl⟩ : ∃ m, k = m + 1 := ⟨k - 1, by omega⟩
    have e1 : wrap64 ((j : Int) + 1) = ((j + 1 : Nat) : Int) := by rw [wt64 (by omega) (by omega)]; omega
    simp only [r07_All.l0]
    rw [if_pos (show (j : Int) < 1000 by omega), rone_is s hs a k (by omega), bs, allR_succ, e1]
    generalize oneR s a = r
    by_cases c : r.2.2.2.2.2 = 0
    · rw [if_pos c, if_pos c, if_pos (show acc.length < 3518437208883 by omega), bs, ih k (j + 1) _ _ (by omega) (by simp; omega) (by omega)]
      by_cases c2 : r.1 = 0
      · rw [if_pos c2, if_pos c2]
        rfl
      · rw [if_neg c2, if_neg c2]
        rfl
    · rw [if_neg c, if_neg c]

theorem rall_is (s : ByteArray) (hs : s.size ≤ 140737488355328) (k : Nat) (hk : 3 * s.size + 1100 < k) : r07_All.f k s = some (allR s 1000 [] 0) := by
  unfold r07_All.f
  exact rall_l0 s hs 1000 k 0 [] 0 rfl (by simp) (by omega)



end Go.Proofs.Ytcfgjaggccnoaaa.PParseSmall
