/- Blanks ahead of a text and behind it play no part in its tokens but for places, for all texts that may not end within quotes. -/
import Derived.Test.YtkoeeplplmiikaaPTokenBlanksx5
namespace Go.Proofs.Ytkoeeplplmiikaa.Pure
open Go.RowKit Go.Proofs.Ytkoeeplplmiikaa.PTokenBlanks Go.Proofs.YtkoeeplplmiikaaW.PrintWords Go.Proofs.YtkoeeplplmiikaaW.PrintLast
set_option linter.unusedVariables false
set_option linter.unusedSimpArgs false
set_option maxRecDepth 100000

theorem bs {α β : Type} (a : α) (f : α → Option β) : (some a).bind f = f a := (Option.bind_some a f).trans (Eq.refl _)

theorem str_eq {s t : ByteArray} (h : s.toList = t.toList) : s = t := by
  have h2 : s.data.toList = t.data.toList := by rw [← ByteArray.toList_eq s, ← ByteArray.toList_eq t]; exact h
  apply ByteArray.ext
  exact Array.ext' h2

theorem u64_wrap (n : Int) : IntKind.u64.wrap n = n % 18446744073709551616 := by
  simp [IntKind.wrap, IntKind.bits, IntKind.signed]

theorem u64_range (n : Int) : 0 ≤ IntKind.u64.wrap n ∧ IntKind.u64.wrap n < 18446744073709551616 := by
  rw [u64_wrap]; omega

theorem u64_in {n : Int} (h0 : 0 ≤ n) (h1 : n < 18446744073709551616) : IntKind.u64.wrap n = n := by
  rw [u64_wrap]; omega

theorem u64_wf {n : Int} (h : (Lit.int .u64 n).wf = true) : 0 ≤ n ∧ n < 18446744073709551616 := by
  have h2 : decide (IntKind.u64.min ≤ n) = true ∧ decide (n ≤ IntKind.u64.max) = true := by
    simpa [Lit.wf] using h
  have e0 : IntKind.u64.min = 0 := by decide
  have e1 : IntKind.u64.max = 18446744073709551615 := by decide
  have := of_decide_eq_true h2.1
  have := of_decide_eq_true h2.2
  omega

theorem i64_wf {n : Int} (h : (Lit.int .i64 n).wf = true) : -9223372036854775808 ≤ n ∧ n < 9223372036854775808 := by
  have h2 : decide (IntKind.i64.min ≤ n) = true ∧ decide (n ≤ IntKind.i64.max) = true := by
    simpa [Lit.wf] using h
  have e0 : IntKind.i64.min = -9223372036854775808 := by decide
  have e1 : IntKind.i64.max = 9223372036854775807 := by decide
  have := of_decide_eq_true h2.1
  have := of_decide_eq_true h2.2
  omega

theorem u8_wf {n : Int} (h : (Lit.int .u8 n).wf = true) : 0 ≤ n ∧ n < 256 := by
  have h2 : decide (IntKind.u8.min ≤ n) = true ∧ decide (n ≤ IntKind.u8.max) = true := by
    simpa [Lit.wf] using h
  have e0 : IntKind.u8.min = 0 := by decide
  have e1 : IntKind.u8.max = 255 := by decide
  have := of_decide_eq_true h2.1
  have := of_decide_eq_true h2.2
  omega

theorem w64 {n : Int} (h0 : -9223372036854775808 ≤ n) (h1 : n < 9223372036854775808) : wrap64 n = n := by
  unfold wrap64; omega

theorem bits_u64 (op : BinOp) (x y : Int) : 0 ≤ Go.bits op .u64 x y ∧ Go.bits op .u64 x y < 18446744073709551616 := by
  unfold Go.bits
  exact u64_range _

/-! bytes and signs -/
def blk (c : Int) : Bool := decide (c = 32) || decide (c = 9) || decide (c = 10) || decide (c = 13)
def ltr (c : Int) : Bool := decide (97 ≤ c ∧ c ≤ 122) || decide (c = 95)
def dgt (c : Int) : Bool := decide (48 ≤ c ∧ c ≤ 57)

theorem blank_is (c : Int) : token_Blank.f c = some (blk c) := by
  unfold token_Blank.f blk
  by_cases h1 : c = 32
  · simp [h1]
  · by_cases h2 : c = 9
    · simp [h2]
    · by_cases h3 : c = 10
      · simp [h3]
      · simp [h1, h2, h3, Bool.beq_eq_decide_eq]
theorem letter_is (c : Int) : token_letter.f c = some (ltr c) := by
  unfold token_letter.f ltr
  by_cases h1 : c ≥ 97
  · by_cases h2 : c ≤ 122
    · rw [if_pos h1, if_pos h2]; congr 1; rw [Bool.eq_iff_iff]; simp; omega
    · rw [if_pos h1, if_neg h2]; congr 1; rw [Bool.eq_iff_iff]; simp; omega
  · rw [if_neg h1]; congr 1; rw [Bool.eq_iff_iff]; simp; omega
theorem digit_is (c : Int) : token_digit.f c = some (dgt c) := by
  unfold token_digit.f dgt
  by_cases h1 : c ≥ 48
  · rw [if_pos h1]; congr 1; rw [Bool.eq_iff_iff]; simp; omega
  · rw [if_neg h1]; congr 1; rw [Bool.eq_iff_iff]; simp; omega
theorem bt_get (s : ByteArray) (i : Nat) (h : i < s.size) : bt s (i : Int) = ((s[i]'h).toNat : Int) := by
  unfold bt
  rw [dif_pos (show ((i : Nat) : Int).toNat < s.size by omega)]
  rfl

/-! which sign stands at a place -/
def signs : List ByteArray := [⟨#[60, 62]⟩, ⟨#[60, 61]⟩, ⟨#[62, 61]⟩, ⟨#[40]⟩, ⟨#[41]⟩, ⟨#[44]⟩, ⟨#[46]⟩, ⟨#[42]⟩, ⟨#[43]⟩, ⟨#[45]⟩, ⟨#[61]⟩, ⟨#[60]⟩, ⟨#[62]⟩]
def pre (s : ByteArray) (i : Nat) (g : ByteArray) : Bool := decide (i + g.size ≤ s.size) && ((s.extract i (i + g.size)).data.toList == g.data.toList)
def sgn (s : ByteArray) (i : Int) : ByteArray := if i < 0 then ⟨#[]⟩ else (signs.find? (pre s i.toNat)).getD ⟨#[]⟩

theorem rdOf_get {α : Type} (d : α) (l : List α) (j : Nat) (h : j < l.length) : rdOf d l (j : Int) = l[j] := by
  unfold rdOf
  simp [h]

theorem tl (s : ByteArray) : s.toList = s.data.toList := ByteArray.toList_eq s

theorem hasPrefix_is (s : ByteArray) (a : Nat) (ha : a ≤ s.size) (g : ByteArray) : strings_HasPrefix.f (s.extract a s.size) g = some (pre s a g) := by
  have hx : (s.extract a s.size).size = s.size - a := by simp [ByteArray.size_extract]
  have e : stringslite_HasPrefix.f (s.extract a s.size) g = some (pre s a g) := by
    unfold stringslite_HasPrefix.f pre
    rw [hx]
    by_cases h : a + g.size ≤ s.size
    · rw [if_pos (by omega), if_pos (by omega), if_pos (by omega), decide_eq_true h, tl, tl]
      rw [show ((g.size : Int)).toNat = g.size by omega, ByteArray.extract_extract, show min (a + g.size) s.size = a + g.size by omega]
      rfl
    · rw [if_neg (by omega), decide_eq_false h]
      rfl
  unfold strings_HasPrefix.f
  rw [e, bs]

theorem ext_one (s : ByteArray) (i : Nat) (h : i < s.size) : (s.extract i (i + 1)).data.toList = [s[i]'h] := by
  have e : (s.extract i (i + 1)).data.toList = (s.data.toList.drop i).take 1 := by
    simp [ByteArray.data_extract, Array.toList_extract, List.extract]
  rw [e]
  have hl : i < s.data.toList.length := by simpa using h
  rw [List.drop_eq_getElem_cons hl]
  simp
  rfl

theorem ext_is (s : ByteArray) (i : Nat) (b : UInt8) (h : i < s.size) (hb : bt s (i : Int) = (b.toNat : Int)) : s.extract i (i + 1) = ⟨#[b]⟩ := by
  apply ByteArray.ext
  apply Array.ext'
  rw [ext_one s i h]
  rw [bt_get s i h] at hb
  have : s[i]'h = b := UInt8.toNat_inj.mp (by omega)
  rw [this]

theorem pre_one (s : ByteArray) (i : Nat) (b : UInt8) (h : i < s.size) : pre s i ⟨#[b]⟩ = decide (bt s (i : Int) = (b.toNat : Int)) := by
  unfold pre
  have e1 : (⟨#[b]⟩ : ByteArray).size = 1 := rfl
  rw [e1, decide_eq_true (show i + 1 ≤ s.size by omega), ext_one s i h, bt_get s i h]
  by_cases c : s[i]'h = b
  · rw [c]
    simp
  · have c2 : ¬ ((s[i]'h).toNat : Int) = (b.toNat : Int) := by
      intro h2
      exact c (UInt8.toNat_inj.mp (by omega))
    rw [decide_eq_false c2]
    simp [c]

def ones : List UInt8 := [40, 41, 44, 46, 42, 43, 45, 61, 60, 62]
def sing (s : ByteArray) (i : Nat) : List UInt8 → ByteArray
  | [] => ⟨#[]⟩
  | b :: r => if bt s (i : Int) = (b.toNat : Int) then ⟨#[b]⟩ else sing s i r

theorem find_ones (s : ByteArray) (i : Nat) (h : i < s.size) (l : List UInt8) : ((l.map fun b => (⟨#[b]⟩ : ByteArray)).find? (pre s i)).getD ⟨#[]⟩ = sing s i l := by
  induction l with
  | nil => rfl
  | cons b r ih =>
    rw [List.map_cons, List.find?_cons, pre_one s i b h]
    unfold sing
    by_cases c : bt s (i : Int) = (b.toNat : Int)
    · rw [decide_eq_true c, if_pos c]
      rfl
    · rw [decide_eq_false c, if_neg c]
      exact ih

theorem find_past (s : ByteArray) (i : Nat) (h : s.size ≤ i) : signs.find? (pre s i) = none := by
  rw [List.find?_eq_none]
  intro g hg hp
  have hp2 : i + g.size ≤ s.size := by
    unfold pre at hp
    simp at hp
    exact hp.1
  have hgs : 1 ≤ g.size := by
    unfold signs at hg
    simp only [List.mem_cons, List.not_mem_nil, or_false] at hg
    rcases hg with rfl | rfl | rfl | rfl | rfl | rfl | rfl | rfl | rfl | rfl | rfl | rfl | rfl <;> decide
  omega

def twos : List ByteArray := [⟨#[60, 62]⟩, ⟨#[60, 61]⟩, ⟨#[62, 61]⟩]
theorem signs_split : signs = twos ++ ones.map fun b => (⟨#[b]⟩ : ByteArray) := rfl

theorem find_signs (s : ByteArray) (i : Nat) (h : i < s.size) : (signs.find? (pre s i)).getD ⟨#[]⟩ = (twos.find? (pre s i)).getD (sing s i ones) := by
  rw [signs_split, List.find?_append]
  cases hq : twos.find? (pre s i) with
  | none => simpa using find_ones s i h ones
  | some g => rfl

theorem sign_last (s : ByteArray) (hs : s.size ≤ 140737488355328) (i : Nat) (h : i < s.size) (l : List ByteArray) (k : Nat) (j : Nat) (hj : l.length ≤ j) (hk : 0 < k) : token_Sign.l0 k s i l (l.length : Int) (j : Int) = some (sing s i ones) := by
  obtain ⟨k, rfl⟩ : ∃ m, k = m + 1 := ⟨k - 1, by omega⟩
  have e : wrap64 ((i : Int) + 1) = ((i + 1 : Nat) : Int) := by rw [w64 (by omega) (by omega)]; omega
  simp only [token_Sign.l0]
  rw [if_neg (show ¬ (j : Int) < (l.length : Int) by omega), if_pos (show (0 : Int) ≤ (i : Int) by omega), if_pos (show (i : Int) < (s.size : Int) by omega), e]
  simp only [if_pos (show (i : Int) ≤ ((i + 1 : Nat) : Int) by omega), if_pos (show ((i + 1 : Nat) : Int) ≤ (s.size : Int) by omega), Int.toNat_natCast]
  unfold ones sing sing sing sing sing sing sing sing sing sing sing
  have step : ∀ (n : Int) (b : UInt8) (x y : ByteArray), n = (b.toNat : Int) → x = y → (if bt s (i : Int) = n then some (s.extract i (i + 1)) else some x) = some (if bt s (i : Int) = (b.toNat : Int) then (⟨#[b]⟩ : ByteArray) else y) := by
    intro n b x y hn hxy
    subst hn; subst hxy
    by_cases c : bt s (i : Int) = (b.toNat : Int)
    · rw [if_pos c, if_pos c, ext_is s i b h c]
    · rw [if_neg c, if_neg c]
  have step2 : ∀ (n : Int) (b : UInt8) (x : Option ByteArray) (y : ByteArray), n = (b.toNat : Int) → x = some y → (if bt s (i : Int) = n then some (s.extract i (i + 1)) else x) = some (if bt s (i : Int) = (b.toNat : Int) then (⟨#[b]⟩ : ByteArray) else y) := by
    intro n b x y hn hxy
    subst hxy
    exact step n b y y hn rfl
  refine step2 40 40 _ _ rfl ?_
  refine step2 41 41 _ _ rfl ?_
  refine step2 44 44 _ _ rfl ?_
  refine step2 46 46 _ _ rfl ?_
  refine step2 42 42 _ _ rfl ?_
  refine step2 43 43 _ _ rfl ?_
  refine step2 45 45 _ _ rfl ?_
  refine step2 61 61 _ _ rfl ?_
  refine step2 60 60 _ _ rfl ?_
  refine step2 62 62 _ _ rfl ?_
  rfl

theorem sign_l0 (s : ByteArray) (hs : s.size ≤ 140737488355328) (i : Nat) (h : i < s.size) (l : List ByteArray) (hl : l.length ≤ 20) (d : Nat) : ∀ (k j : Nat), l.length - j = d → j ≤ l.length → d < k →
    token_Sign.l0 k s i l (l.length : Int) (j : Int) = some (((l.drop j).find? (pre s i)).getD (sing s i ones)) := by
  induction d with
  | zero =>
    intro k j hd hj hk
    rw [sign_last s hs i h l k j (by omega) (by omega), List.drop_of_length_le (by omega)]
    rfl
  | succ d ih =>
    intro k j hd hj hk
    obtain ⟨k, rfl⟩ : ∃ m, k = m + 1 := ⟨k - 1, by omega⟩
    have hjl : j < l.length := by omega
    have e1 : wrap64 ((j : Int) + 1) = ((j + 1 : Nat) : Int) := by rw [w64 (by omega) (by omega)]; omega
    have hn := ih k (j + 1) (by omega) (by omega) (by omega)
    simp only [token_Sign.l0]
    rw [if_pos (show (j : Int) < (l.length : Int) by omega), if_pos (show (0 : Int) ≤ (j : Int) by omega), if_pos (show (j : Int) < (l.length : Int) by omega), if_pos (show (0 : Int) ≤ (i : Int) by omega), if_pos (show (i : Int) ≤ (s.size : Int) by omega), rdOf_get _ l j hjl, Int.toNat_natCast, hasPrefix_is s i (by omega), bs, e1, hn, List.drop_eq_getElem_cons hjl, List.find?_cons]
    cases pre s i l[j] <;> rfl

theorem sign_is (s : ByteArray) (hs : s.size ≤ 140737488355328) (at_ : Int) (k : Nat) (hk : 6 ≤ k) : token_Sign.f k s at_ = some (sgn s at_) := by
  obtain ⟨k, rfl⟩ : ∃ m, k = m + 1 := ⟨k - 1, by omega⟩
  unfold token_Sign.f sgn
  by_cases h0 : at_ < 0
  · rw [if_pos h0, if_pos h0]
    simp only [token_Sign.j0]
    rfl
  · rw [if_neg h0, if_neg h0]
    obtain ⟨i, rfl⟩ := Int.eq_ofNat_of_zero_le (by omega : 0 ≤ at_)
    rw [Int.toNat_natCast]
    by_cases h1 : (i : Int) ≥ (s.size : Int)
    · rw [decide_eq_true h1, find_past s i (by omega)]
      simp only [token_Sign.j0]
      rfl
    · rw [decide_eq_false h1, find_signs s i (by omega)]
      simp only [token_Sign.j0, bs]
      have := sign_l0 s hs i (by omega) twos (by decide) 3 k 0 rfl (by omega) (by omega)
      exact this

/-! words -/
def words : List ByteArray := [⟨#[115, 101, 108, 101, 99, 116]⟩, ⟨#[102, 114, 111, 109]⟩, ⟨#[106, 111, 105, 110]⟩, ⟨#[108, 101, 102, 116]⟩, ⟨#[115, 101, 109, 105]⟩, ⟨#[97, 110, 116, 105]⟩, ⟨#[111, 110]⟩, ⟨#[119, 104, 101, 114, 101]⟩, ⟨#[103, 114, 111, 117, 112]⟩, ⟨#[98, 121]⟩, ⟨#[97, 115]⟩, ⟨#[97, 110, 100]⟩, ⟨#[111, 114]⟩, ⟨#[110, 111, 116]⟩, ⟨#[105, 115]⟩, ⟨#[110, 117, 108, 108]⟩, ⟨#[99, 111, 117, 110, 116]⟩, ⟨#[115, 117, 109]⟩, ⟨#[109, 105, 110]⟩, ⟨#[109, 97, 120]⟩]
def wrd (s : ByteArray) : Bool := words.any fun g => decide (g.data.toList = s.data.toList)

theorem word_is (s : ByteArray) (k : Nat) (hk : 2 ≤ k) : schema_Word.f k s = some (wrd s) := by
  obtain ⟨k, rfl⟩ : ∃ m, k = m + 1 := ⟨k - 1, by omega⟩
  unfold wrd words
  have hd : ∀ (a : List UInt8), decide (a = s.data.toList) = decide (s.data.toList = a) := fun a => by
    by_cases c : a = s.data.toList
    · rw [decide_eq_true c, decide_eq_true c.symm]
    · rw [decide_eq_false c, decide_eq_false (fun h => c h.symm)]
  simp only [List.any_cons, List.any_nil, hd, Bool.or_false]
  unfold schema_Word.f
  simp only [schema_Word.j0, tl]
  generalize s.data.toList = L
  by_cases h0 : L = [115, 101, 108, 101, 99, 116]
  · simp [h0]
  by_cases h1 : L = [102, 114, 111, 109]
  · simp [h1]
  by_cases h2 : L = [106, 111, 105, 110]
  · simp [h2]
  by_cases h3 : L = [108, 101, 102, 116]
  · simp [h3]
  by_cases h4 : L = [115, 101, 109, 105]
  · simp [h4]
  by_cases h5 : L = [97, 110, 116, 105]
  · simp [h5]
  by_cases h6 : L = [111, 110]
  · simp [h6]
  by_cases h7 : L = [119, 104, 101, 114, 101]
  · simp [h7]
  by_cases h8 : L = [103, 114, 111, 117, 112]
  · simp [h8]
  by_cases h9 : L = [98, 121]
  · simp [h9]
  by_cases h10 : L = [97, 115]
  · simp [h10]
  by_cases h11 : L = [97, 110, 100]
  · simp [h11]
  by_cases h12 : L = [111, 114]
  · simp [h12]
  by_cases h13 : L = [110, 111, 116]
  · simp [h13]
  by_cases h14 : L = [105, 115]
  · simp [h14]
  by_cases h15 : L = [110, 117, 108, 108]
  · simp [h15]
  by_cases h16 : L = [99, 111, 117, 110, 116]
  · simp [h16]
  by_cases h17 : L = [115, 117, 109]
  · simp [h17]
  by_cases h18 : L = [109, 105, 110]
  · simp [h18]
  by_cases h19 : L = [109, 97, 120]
  · simp [h19]
  simp [h0, h1, h2, h3, h4, h5, h6, h7, h8, h9, h10, h11, h12, h13, h14, h15, h16, h17, h18, h19]

/-! how far bytes of a kind go -/
def stp (p : Int → Bool) (s : ByteArray) : Nat → Nat → Nat
  | 0, i => i
  | d + 1, i => if p (bt s (i : Int)) then stp p s d (i + 1) else i

theorem stp_succ (p : Int → Bool) (s : ByteArray) (d i : Nat) : stp p s (d + 1) i = if p (bt s (i : Int)) then stp p s d (i + 1) else i := rfl

theorem stp_ge (p : Int → Bool) (s : ByteArray) (d : Nat) : ∀ i, i ≤ stp p s d i := by
  induction d with
  | zero => intro i; exact Nat.le_refl _
  | succ d ih =>
    intro i
    unfold stp
    split
    · exact Nat.le_trans (Nat.le_succ i) (ih (i + 1))
    · exact Nat.le_refl _
theorem stp_le (p : Int → Bool) (s : ByteArray) (d : Nat) : ∀ i, stp p s d i ≤ i + d := by
  induction d with
  | zero => intro i; exact Nat.le_refl _
  | succ d ih =>
    intro i
    unfold stp
    split
    · have := ih (i + 1); omega
    · omega
def nmb (c : Int) : Bool := ltr c || dgt c
theorem nb_is : token_name.nb = nmb := by
  funext c
  unfold token_name.nb nmb ltr dgt
  rfl
theorem stop_is (s : ByteArray) (d : Nat) : ∀ i, token_name.stop s d i = stp nmb s d i := by
  induction d with
  | zero => intro i; rfl
  | succ d ih =>
    intro i
    unfold token_name.stop stp
    rw [nb_is, ih]

/-! a name -/
def nameR (s : ByteArray) (at0 : Int) (i e : Nat) : Int × ByteArray × Int × Int × Int × Int :=
  if (e : Int) - i > 32 then (0, ⟨#[]⟩, 0, 0, at0, 1)
  else if wrd (s.extract i e) then (2, s.extract i e, 0, i, e, 0) else (1, s.extract i e, 0, i, e, 0)

theorem name_is (s : ByteArray) (hs : s.size ≤ 140737488355328) (i : Nat) (hi : i ≤ s.size) (k : Nat) (hk : 2 ≤ k) : token_name.f k s i = some (nameR s i i (stp nmb s (s.size - i) i)) := by
  unfold token_name.f nameR
  rw [if_pos ⟨by omega, by omega, by omega⟩, Int.toNat_natCast, stop_is]
  have h1 := stp_ge nmb s (s.size - i) i
  have h2 := stp_le nmb s (s.size - i) i
  generalize stp nmb s (s.size - i) i = e at *
  by_cases c : (e : Int) - (i : Int) > 32
  · rw [if_pos c, if_pos c]
  · rw [if_neg c, if_neg c, word_is _ k hk, bs]
    cases wrd (s.extract i e) <;> rfl

/-! a number -/
def nv (s : ByteArray) : Nat → Nat → Int → Option Int
  | 0, _, v => some v
  | d + 1, i, v => if v > (9223372036854775807 - (bt s (i : Int) - 48)) / 10 then none else nv s d (i + 1) (10 * v + (bt s (i : Int) - 48))
theorem nv_succ (s : ByteArray) (d i : Nat) (v : Int) : nv s (d + 1) i v = if v > (9223372036854775807 - (bt s (i : Int) - 48)) / 10 then none else nv s d (i + 1) (10 * v + (bt s (i : Int) - 48)) := rfl
def numE (s : ByteArray) (at0 : Int) (i e : Nat) : Option Int → Int × ByteArray × Int × Int × Int × Int
  | none => (0, ⟨#[]⟩, 0, 0, at0, 1)
  | some n => if e < s.size ∧ ltr (bt s (e : Int)) = true then (0, ⟨#[]⟩, 0, 0, at0, 1) else (3, s.extract i e, n, i, e, 0)
def numR (s : ByteArray) (at0 : Int) (i j e : Nat) (v : Int) : Int × ByteArray × Int × Int × Int × Int := numE s at0 i e (nv s (e - j) j v)

theorem dgt_range {c : Int} (h : dgt c = true) : 48 ≤ c ∧ c ≤ 57 := by
  unfold dgt at h
  exact of_decide_eq_true h

theorem number_stop (s : ByteArray) (hs : s.size ≤ 140737488355328) (i j : Nat) (hi : i ≤ j) (hj : j ≤ s.size) (v : Int) (k : Nat) (hk : 0 < k) : token_number.j1 k s i v (j : Int) false = some (numR s i i j j v) := by
  obtain ⟨k, rfl⟩ : ∃ m, k = m + 1 := ⟨k - 1, by omega⟩
  simp only [token_number.j1]
  unfold numR
  rw [Nat.sub_self]
  unfold nv numE
  simp only [Bool.false_eq_true, if_false]
  by_cases c : j < s.size
  · rw [if_pos (show (j : Int) < (s.size : Int) by omega), if_pos (show (0 : Int) ≤ (j : Int) by omega), letter_is, bs]
    by_cases l : ltr (bt s (j : Int)) = true
    · rw [if_pos l, if_pos ⟨c, l⟩]
    · rw [if_neg l, if_pos (show (0 : Int) ≤ (i : Int) by omega), if_pos (show (i : Int) ≤ (j : Int) by omega), if_pos (show (j : Int) ≤ (s.size : Int) by omega), if_neg (show ¬ (j < s.size ∧ ltr (bt s (j : Int)) = true) from fun h => l h.2)]
      rfl
  · rw [if_neg (show ¬ (j : Int) < (s.size : Int) by omega), if_pos (show (0 : Int) ≤ (i : Int) by omega), if_pos (show (i : Int) ≤ (j : Int) by omega), if_pos (show (j : Int) ≤ (s.size : Int) by omega), if_neg (show ¬ (j < s.size ∧ ltr (bt s (j : Int)) = true) from fun h => c h.1)]
    rfl

theorem number_l0 (s : ByteArray) (hs : s.size ≤ 140737488355328) (i : Nat) (d : Nat) : ∀ (k j : Nat) (v : Int), s.size - j = d → j ≤ s.size → i ≤ j → 0 ≤ v → v ≤ 9223372036854775807 → 2 * d + 3 < k →
    token_number.l0 k s i v (j : Int) = some (numR s i i j (stp dgt s d j) v) := by
  induction d with
  | zero =>
    intro k j v hd hj hi h0 h1 hk
    obtain ⟨k, rfl⟩ : ∃ m, k = m + 1 := ⟨k - 1, by omega⟩
    simp only [token_number.l0]
    rw [if_neg (by omega), number_stop s hs i j hi hj v k (by omega)]
    rfl
  | succ d ih =>
    intro k j v hd hj hi h0 h1 hk
    obtain ⟨k, rfl⟩ : ∃ m, k = m + 2 := ⟨k - 2, by omega⟩
    simp only [token_number.l0]
    rw [if_pos (show (j : Int) < (s.size : Int) by omega), if_pos (show (0 : Int) ≤ (j : Int) by omega), digit_is, bs]
    cases hq : dgt (bt s (j : Int)) with
    | false =>
      rw [number_stop s hs i j hi hj v (k + 1) (by omega), stp_succ, hq]
      rfl
    | true =>
      obtain ⟨b0, b1⟩ := dgt_range hq
      have e0 : (bt s (j : Int) - 48) % 256 = bt s (j : Int) - 48 := by omega
      have e1 : wrap64 ((j : Int) + 1) = ((j + 1 : Nat) : Int) := by rw [w64 (by omega) (by omega)]; omega
      have ge := stp_ge dgt s d (j + 1)
      simp only [token_number.j1, if_true]
      rw [if_pos (show (0 : Int) ≤ (j : Int) by omega), if_pos (show (j : Int) < (s.size : Int) by omega), e0, stp_succ, hq, if_pos rfl]
      unfold numR
      rw [show stp dgt s d (j + 1) - j = (stp dgt s d (j + 1) - (j + 1)) + 1 by omega, nv_succ]
      by_cases c : v > (9223372036854775807 - (bt s (j : Int) - 48)) / 10
      · rw [if_pos c, if_pos c]
        rfl
      · have c2 : 10 * v + (bt s (j : Int) - 48) ≤ 9223372036854775807 := by omega
        rw [if_neg c, if_neg c, w64 (n := 10 * v) (by omega) (by omega), w64 (by omega) (by omega), e1, ih k (j + 1) _ (by omega) (by omega) (by omega) (by omega) (by omega) (by omega)]
        rfl

theorem number_is (s : ByteArray) (hs : s.size ≤ 140737488355328) (i : Nat) (hi : i ≤ s.size) (k : Nat) (hk : 2 * s.size + 3 < k) : token_number.f k s i = some (numR s i i i (stp dgt s (s.size - i) i) 0) := by
  unfold token_number.f
  exact number_l0 s hs i (s.size - i) k i 0 rfl hi (by omega) (by omega) (by omega) (by omega)

theorem over_iff (v c : Int) (b0 : 48 ≤ c) (b1 : c ≤ 57) : v > (9223372036854775807 - (c - 48)) / 10 ↔ (v > 922337203685477580 ∨ (v = 922337203685477580 ∧ c - 48 > 7)) := by omega

theorem fits_of (v c : Int) (b0 : 48 ≤ c) (b1 : c ≤ 57) (h0 : 0 ≤ v) (h : ¬ (v > 922337203685477580 ∨ (v = 922337203685477580 ∧ c - 48 > 7))) : 0 ≤ 10 * v + (c - 48) ∧ 10 * v + (c - 48) ≤ 9223372036854775807 := by omega

theorem bt_ext (s : ByteArray) (i e p : Nat) (hp : i + p < e) (he : e ≤ s.size) : bt (s.extract i e) (p : Int) = bt s ((i + p : Nat) : Int) := by
  have h1 : p < (s.extract i e).size := by rw [ByteArray.size_extract]; omega
  rw [bt_get _ p h1, bt_get s (i + p) (by omega)]
  have e1 : (s.extract i e)[p]'h1 = s[i + p]'(by omega) := ByteArray.getElem_extract h1
  rw [e1]

def okv : Option Int → Int × Bool
  | none => (0, false)
  | some n => (n, true)

theorem stp_all (p : Int → Bool) (s : ByteArray) (d : Nat) : ∀ i q, i ≤ q → q < stp p s d i → p (bt s (q : Int)) = true := by
  induction d with
  | zero =>
    intro i q h1 h2
    have h3 : q < i := h2
    omega
  | succ d ih =>
    intro i q h1 h2
    rw [stp_succ] at h2
    by_cases c : p (bt s (i : Int)) = true
    · rw [if_pos c] at h2
      by_cases hq : q = i
      · rw [hq]; exact c
      · exact ih (i + 1) q (by omega) h2
    · rw [if_neg c] at h2
      omega

/-! a text -/
def tx (s : ByteArray) : Nat → Nat → List Int → Int × List Int × Nat
  | 0, _, _ => (1, [], 0)
  | d + 1, i, acc => if i < s.size then (if bt s (i : Int) = 39 then (if i + 1 < s.size ∧ bt s ((i + 1 : Nat) : Int) = 39 then tx s d (i + 2) (acc ++ [39]) else if acc.length > 65536 then (4, [], 0) else (0, acc, i + 1)) else tx s d (i + 1) (acc ++ [bt s (i : Int)])) else (1, [], 0)
theorem tx_succ (s : ByteArray) (d i : Nat) (acc : List Int) : tx s (d + 1) i acc = if i < s.size then (if bt s (i : Int) = 39 then (if i + 1 < s.size ∧ bt s ((i + 1 : Nat) : Int) = 39 then tx s d (i + 2) (acc ++ [39]) else if acc.length > 65536 then (4, [], 0) else (0, acc, i + 1)) else tx s d (i + 1) (acc ++ [bt s (i : Int)])) else (1, [], 0) := rfl
def txR (at0 : Int) (i : Nat) (r : Int × List Int × Nat) : Int × ByteArray × Int × Int × Int × Int :=
  if r.1 = 0 then (4, strOfNums r.2.1, 0, i, r.2.2, 0) else (0, ⟨#[]⟩, 0, 0, at0, r.1)

theorem nums_snoc (acc : List Int) (s : ByteArray) (i : Nat) (h : i < s.size) : strOfNums (acc ++ [bt s (i : Int)]) = strOfNums acc ++ s.extract i (i + 1) := by
  apply ByteArray.ext
  apply Array.ext'
  rw [ByteArray.data_append, Array.toList_append, ext_one s i h, strOfNums_data, strOfNums_data, List.map_append, bt_get s i h]
  simp
theorem nums_quote (acc : List Int) : strOfNums (acc ++ [39]) = strOfNums acc ++ ⟨#[39]⟩ := by
  apply ByteArray.ext
  apply Array.ext'
  rw [ByteArray.data_append, Array.toList_append, strOfNums_data, strOfNums_data, List.map_append]
  rfl

theorem text_l0 (s : ByteArray) (hs : s.size ≤ 140737488355328) (i : Nat) (d : Nat) : ∀ (k j : Nat) (acc : List Int), s.size + 1 - j ≤ d → j ≤ s.size + 1 → acc.length ≤ j → 2 * d + 2 < k →
    token_text.l0 k s i acc (j : Int) = some (txR i i (tx s d j acc)) := by
  induction d with
  | zero =>
    intro k j acc hd hj ha hk
    obtain ⟨k, rfl⟩ : ∃ m, k = m + 1 := ⟨k - 1, by omega⟩
    simp only [token_text.l0]
    rw [if_neg (by omega)]
    rfl
  | succ d ih =>
    intro k j acc hd hj ha hk
    obtain ⟨k, rfl⟩ : ∃ m, k = m + 2 := ⟨k - 2, by omega⟩
    simp only [token_text.l0]
    rw [tx_succ]
    by_cases c : j < s.size
    · have e1 : wrap64 ((j : Int) + 1) = ((j + 1 : Nat) : Int) := by rw [w64 (by omega) (by omega)]; omega
      have e2 : wrap64 (((j + 1 : Nat) : Int) + 1) = ((j + 2 : Nat) : Int) := by rw [w64 (by omega) (by omega)]; omega
      have e3 : wrap64 ((j : Int) + 2) = ((j + 2 : Nat) : Int) := by rw [w64 (by omega) (by omega)]; omega
      have sz : (strOfNums acc).size = acc.length := strOfNums_size acc
      rw [if_pos (show (j : Int) < (s.size : Int) by omega), if_pos (show (0 : Int) ≤ (j : Int) by omega), if_pos c, e1]
      by_cases q : bt s (j : Int) = 39
      · rw [if_pos q, if_pos q]
        have endq : token_text.j1 (k + 1) s i acc (j : Int) false = some (txR i i (if acc.length > 65536 then (4, [], 0) else (0, acc, j + 1))) := by
          simp only [token_text.j1, Bool.false_eq_true, if_false]
          rw [e1]
          by_cases l : acc.length > 65536
          · rw [if_pos (show (acc.length : Int) > 65536 by omega), if_pos l]
            rfl
          · rw [if_neg (show ¬ (acc.length : Int) > 65536 by omega), if_neg l]
            rfl
        by_cases c2 : j + 1 < s.size
        · rw [if_pos (show ((j + 1 : Nat) : Int) < (s.size : Int) by omega), if_pos (show (0 : Int) ≤ ((j + 1 : Nat) : Int) by omega)]
          by_cases q2 : bt s ((j + 1 : Nat) : Int) = 39
          · rw [beq_iff_eq.mpr q2, if_pos ⟨c2, q2⟩]
            simp only [token_text.j1, if_true]
            rw [if_pos (show acc.length < 140737488355328 by omega), e1, e2]
            exact ih k (j + 2) (acc ++ [39]) (by omega) (by omega) (by simp; omega) (by omega)
          · rw [beq_eq_false_iff_ne.mpr q2, if_neg (fun h => q2 h.2)]
            exact endq
        · rw [if_neg (show ¬ ((j + 1 : Nat) : Int) < (s.size : Int) by omega), if_neg (fun h => c2 h.1)]
          exact endq
      · have sz1 : (s.extract j (j + 1)).size = 1 := by rw [ByteArray.size_extract]; omega
        rw [if_neg q, if_neg q, if_pos (show acc.length < 140737488355328 by omega)]
        exact ih (k + 1) (j + 1) (acc ++ [bt s (j : Int)]) (by omega) (by omega) (by simp; omega) (by omega)
    · rw [if_neg (show ¬ (j : Int) < (s.size : Int) by omega), if_neg c]
      rfl

/-! one token -/
def strip (from_ : Int) (r : Int × ByteArray × Int × Int × Int × Int) : Int × ByteArray × Int × Int × Int × Int :=
  if r.2.2.2.2.2 = 0 then (r.1, r.2.1, r.2.2.1, r.2.2.2.1, r.2.2.2.2.1, 0) else (0, ⟨#[]⟩, 0, 0, from_, r.2.2.2.2.2)

def tokR (s : ByteArray) (from_ : Int) (i : Nat) : Int × ByteArray × Int × Int × Int × Int :=
  if i = s.size then (0, ⟨#[]⟩, 0, i, i, 0)
  else if ltr (bt s (i : Int)) then nameR s from_ i (stp nmb s (s.size - i) i)
  else if dgt (bt s (i : Int)) then numR s from_ i i (stp dgt s (s.size - i) i) 0
  else if bt s (i : Int) = 39 then txR from_ i (tx s s.size (i + 1) [])
  else if (sgn s i).data.toList = [] then (0, ⟨#[]⟩, 0, 0, from_, 1) else (5, sgn s i, 0, i, (i : Int) + (sgn s i).size, 0)

def clamp (s : ByteArray) (a : Int) : Nat := if a < 0 then 0 else if a > s.size then s.size else a.toNat
def oneR (s : ByteArray) (a : Int) : Int × ByteArray × Int × Int × Int × Int := tokR s (clamp s a) (stp blk s (s.size - clamp s a) (clamp s a))

theorem strip_name (s : ByteArray) (f : Int) (i e : Nat) : strip f (nameR s i i e) = nameR s f i e := by
  unfold nameR
  by_cases c : (e : Int) - (i : Int) > 32
  · rw [if_pos c, if_pos c]; rfl
  · rw [if_neg c, if_neg c]
    cases wrd (s.extract i e) <;> rfl
theorem strip_num (s : ByteArray) (f : Int) (i j e : Nat) (v : Int) : strip f (numR s i i j e v) = numR s f i j e v := by
  unfold numR
  cases nv s (e - j) j v with
  | none => rfl
  | some n =>
    unfold numE
    by_cases c : e < s.size ∧ ltr (bt s (e : Int)) = true
    · simp only [if_pos c]; rfl
    · simp only [if_neg c]; rfl
theorem strip_tx (f : Int) (i : Nat) (r : Int × List Int × Nat) : strip f (txR i i r) = txR f i r := by
  unfold txR
  by_cases c : r.1 = 0
  · rw [if_pos c, if_pos c]; rfl
  · rw [if_neg c, if_neg c]
    unfold strip
    rw [if_neg c]

theorem sgn_size (s : ByteArray) (i : Int) : (sgn s i).size ≤ 2 := by
  unfold sgn
  split
  · decide
  · cases h : signs.find? (pre s i.toNat) with
    | none => decide
    | some g =>
      have hg := List.mem_of_find?_eq_some h
      unfold signs at hg
      simp only [List.mem_cons, List.not_mem_nil, or_false] at hg
      rcases hg with rfl | rfl | rfl | rfl | rfl | rfl | rfl | rfl | rfl | rfl | rfl | rfl | rfl <;> decide

theorem ite_bind {α β : Type} (c : Prop) [Decidable c] (a b : Option α) (f : α → Option β) : (if c then a else b).bind f = if c then a.bind f else b.bind f := by
  split <;> rfl

theorem one_j1 (s : ByteArray) (hs : s.size ≤ 140737488355328) (f : Int) (i : Nat) (hi : i ≤ s.size) (k : Nat) (hk : 2 * s.size + 10 < k) : token_One.j1 k s f i = some (tokR s f i) := by
  obtain ⟨k, rfl⟩ : ∃ m, k = m + 1 := ⟨k - 1, by omega⟩
  simp only [token_One.j1]
  rw [sign_is s hs i k (by omega), bs]
  unfold tokR
  by_cases c : i = s.size
  · rw [if_pos (show (i : Int) = (s.size : Int) by omega), if_pos c]
  · rw [if_neg (show ¬ (i : Int) = (s.size : Int) by omega), if_neg c, if_pos (show (0 : Int) ≤ (i : Int) by omega), if_pos (show (i : Int) < (s.size : Int) by omega), letter_is, bs]
    by_cases l : ltr (bt s (i : Int)) = true
    · rw [if_pos l, if_pos l, name_is s hs i hi k (by omega), bs, ← strip_name s f i (stp nmb s (s.size - i) i)]
      unfold strip
      split <;> rfl
    · rw [if_neg l, if_neg l, digit_is, bs]
      by_cases g : dgt (bt s (i : Int)) = true
      · rw [if_pos g, if_pos g, number_is s hs i hi k (by omega), bs, ← strip_num s f i i (stp dgt s (s.size - i) i) 0]
        unfold strip
        split <;> rfl
      · rw [if_neg g, if_neg g]
        by_cases q : bt s (i : Int) = 39
        · have e1 : wrap64 ((i : Int) + 1) = ((i + 1 : Nat) : Int) := by rw [w64 (by omega) (by omega)]; omega
          have ht2 := text_l0 s hs i s.size k (i + 1) [] (by omega) (by omega) (by simp) (by omega)
          rw [if_pos q, if_pos q]
          unfold token_text.f
          rw [e1, ht2, bs, ← strip_tx f i (tx s s.size (i + 1) [])]
          unfold strip
          split <;> rfl
        · rw [if_neg q, if_neg q, tl]
          by_cases z : (sgn s (i : Int)).data.toList = []
          · rw [if_pos z, if_pos z]
          · have := sgn_size s (i : Int)
            rw [if_neg z, if_neg z, w64 (by omega) (by omega)]

theorem one_l0 (s : ByteArray) (hs : s.size ≤ 140737488355328) (f : Int) (d : Nat) : ∀ (k i : Nat), s.size - i = d → i ≤ s.size → d + 2 * s.size + 11 < k →
    token_One.l0 k s f (i : Int) = some (tokR s f (stp blk s d i)) := by
  induction d with
  | zero =>
    intro k i hd hi hk
    obtain ⟨k, rfl⟩ : ∃ m, k = m + 1 := ⟨k - 1, by omega⟩
    simp only [token_One.l0]
    rw [if_neg (by omega), one_j1 s hs f i hi k (by omega)]
    rfl
  | succ d ih =>
    intro k i hd hi hk
    obtain ⟨k, rfl⟩ : ∃ m, k = m + 1 := ⟨k - 1, by omega⟩
    have e1 : wrap64 ((i : Int) + 1) = ((i + 1 : Nat) : Int) := by rw [w64 (by omega) (by omega)]; omega
    simp only [token_One.l0]
    rw [if_pos (show (i : Int) < (s.size : Int) by omega), if_pos (show (0 : Int) ≤ (i : Int) by omega), blank_is, bs, e1, stp_succ, ih k (i + 1) (by omega) (by omega) (by omega), one_j1 s hs f i hi k (by omega)]
    cases blk (bt s (i : Int)) <;> rfl

theorem clamp_le (s : ByteArray) (a : Int) : clamp s a ≤ s.size := by
  unfold clamp
  split
  · omega
  · split <;> omega

theorem one_is (s : ByteArray) (hs : s.size ≤ 140737488355328) (a : Int) (k : Nat) (hk : 3 * s.size + 20 < k) : token_One.f k s a = some (oneR s a) := by
  have e : mn (mx a 0) (s.size : Int) = (clamp s a : Int) := by
    unfold mn mx clamp
    split <;> split <;> (try split) <;> omega
  have hc := clamp_le s a
  unfold token_One.f
  rw [e]
  exact one_l0 s hs _ (s.size - clamp s a) k (clamp s a) rfl hc (by omega)

/-! all tokens -/
def mkT (r : Int × ByteArray × Int × Int × Int × Int) : S44 := ⟨r.1, r.2.1, r.2.2.1, r.2.2.2.1⟩
def allR (s : ByteArray) : Nat → List S44 → Int → List S44 × Int
  | 0, _, _ => ([], 4)
  | n + 1, acc, a => if (oneR s a).2.2.2.2.2 = 0 then (if (oneR s a).1 = 0 then (acc ++ [mkT (oneR s a)], 0) else allR s n (acc ++ [mkT (oneR s a)]) (oneR s a).2.2.2.2.1) else ([], (oneR s a).2.2.2.2.2)
theorem allR_succ (s : ByteArray) (n : Nat) (acc : List S44) (a : Int) : allR s (n + 1) acc a = if (oneR s a).2.2.2.2.2 = 0 then (if (oneR s a).1 = 0 then (acc ++ [mkT (oneR s a)], 0) else allR s n (acc ++ [mkT (oneR s a)]) (oneR s a).2.2.2.2.1) else ([], (oneR s a).2.2.2.2.2) := rfl

theorem all_l0 (s : ByteArray) (hs : s.size ≤ 140737488355328) (n : Nat) : ∀ (k : Nat) (acc : List S44) (a : Int), acc.length + n = 1000 → n + 3 * s.size + 60 < k → token_All.l0 k s acc a = some (allR s n acc a) := by
  induction n with
  | zero =>
    intro k acc a h hk
    obtain ⟨k, rfl⟩ : ∃ m, k = m + 1 := ⟨k - 1, by omega⟩
    simp only [token_All.l0]
    rw [if_neg (by omega)]
    rfl
  | succ n ih =>
    intro k acc a h hk
    obtain ⟨k, rfl⟩ : ∃ m, k = m + 1 := ⟨k - 1, by omega⟩
    simp only [token_All.l0]
    rw [if_pos (show (acc.length : Int) < 1000 by omega), one_is s hs a k (by omega), bs, allR_succ]
    generalize oneR s a = r
    by_cases c : r.2.2.2.2.2 = 0
    · rw [if_pos c, if_pos c, if_pos (show acc.length < 3518437208883 by omega), bs, ih k _ _ (by simp; omega) (by omega)]
      by_cases c2 : r.1 = 0
      · rw [if_pos c2, if_pos c2]
        rfl
      · rw [if_neg c2, if_neg c2]
        rfl
    · rw [if_neg c, if_neg c]

theorem all_is (s : ByteArray) (hs : s.size ≤ 140737488355328) (k : Nat) (hk : 3 * s.size + 1100 < k) : token_All.f k s = some (allR s 1000 [] 0) := by
  unfold token_All.f
  exact all_l0 s hs 1000 k [] 0 rfl (by omega)

theorem live_all : (allR ⟨#[97, 46, 120, 60, 61, 49, 48]⟩ 1000 [] 0).2 = 0 ∧ (allR ⟨#[97, 46, 120, 60, 61, 49, 48]⟩ 1000 [] 0).1.length = 6 ∧ (rd_T44 (allR ⟨#[97, 46, 120, 60, 61, 49, 48]⟩ 1000 [] 0).1 3).f1.data.toList = [60, 61] ∧ (rd_T44 (allR ⟨#[97, 46, 120, 60, 61, 49, 48]⟩ 1000 [] 0).1 4).f2 = 10 := by
  decide +kernel

theorem live07 (k : Nat) (hk : 1200 < k) : trommellaw07_live.f k = some true := by
  unfold trommellaw07_live.f
  rw [all_is _ (by decide) k (by show 3 * 7 + 1100 < k; omega), bs]
  obtain ⟨h1, h2, h3, h4⟩ := live_all
  generalize allR ⟨#[97, 46, 120, 60, 61, 49, 48]⟩ 1000 [] 0 = r at *
  unfold trommellaw07_code.f
  rw [bs, if_pos h1, if_pos (show (r.1.length : Int) = 6 by omega), if_pos (show (3 : Int) < (r.1.length : Int) by omega), tl, if_pos h3, if_pos (show (4 : Int) < (r.1.length : Int) by omega), h4]
  rfl

theorem allR_len (s : ByteArray) (n : Nat) : ∀ (acc : List S44) (a : Int), (allR s n acc a).1.length ≤ acc.length + n := by
  induction n with
  | zero => intro acc a; simp [allR]
  | succ n ih =>
    intro acc a
    rw [allR_succ]
    split
    · split
      · simp
      · have := ih (acc ++ [mkT (oneR s a)]) (oneR s a).2.2.2.2.1
        simp at this
        omega
    · simp


/-! a text's bytes as numbers -/
def bl (t : ByteArray) : List Int := t.data.toList.map fun b => (b.toNat : Int)
theorem bl_len (t : ByteArray) : (bl t).length = t.size := by
  unfold bl
  rw [List.length_map, Array.length_toList]
  rfl
theorem bl_append (a b : ByteArray) : bl (a ++ b) = bl a ++ bl b := by
  unfold bl
  rw [ByteArray.data_append, Array.toList_append, List.map_append]
theorem strOf_bl (s : ByteArray) : strOfNums (bl s) = s := by
  apply ByteArray.ext
  apply Array.ext'
  rw [strOfNums_data]
  unfold bl
  rw [List.map_map]
  have : ((fun n : Int => UInt8.ofNat n.toNat) ∘ fun b : UInt8 => (b.toNat : Int)) = id := by
    funext b
    simp
  rw [this, List.map_id]
theorem bl_strOf (l : List Int) (h : ∀ x ∈ l, 0 ≤ x ∧ x < 256) : bl (strOfNums l) = l := by
  unfold bl
  rw [strOfNums_data, List.map_map]
  have : ∀ x ∈ l, ((fun b : UInt8 => (b.toNat : Int)) ∘ fun n : Int => UInt8.ofNat n.toNat) x = x := by
    intro x hx
    obtain ⟨h0, h1⟩ := h x hx
    show ((UInt8.ofNat x.toNat).toNat : Int) = x
    have e : (UInt8.ofNat x.toNat).toNat = x.toNat % 256 := UInt8.toNat_ofNat'
    rw [e]
    omega
  rw [List.map_congr_left this]
  simp
theorem bl_range (s : ByteArray) : ∀ x ∈ bl s, 0 ≤ x ∧ x < 256 := by
  intro x hx
  unfold bl at hx
  obtain ⟨b, _, rfl⟩ := List.mem_map.1 hx
  have := b.toNat_lt
  omega
theorem bl_at (t : ByteArray) (p : Nat) (h : p < t.size) : (bl t).drop p = bt t (p : Int) :: (bl t).drop (p + 1) := by
  have hl : p < (bl t).length := by rw [bl_len]; exact h
  rw [List.drop_eq_getElem_cons hl]
  have e : (bl t)[p]'hl = ((t[p]'h).toNat : Int) := by
    simp only [bl, List.getElem_map]
    rfl
  rw [e]
  congr 1
  unfold bt
  rw [dif_pos (show ((p : Nat) : Int).toNat < t.size by omega)]
  rfl
theorem bt_of (t : ByteArray) (p : Nat) (x : Int) (l : List Int) (h : (bl t).drop p = x :: l) : p < t.size ∧ bt t (p : Int) = x ∧ (bl t).drop (p + 1) = l := by
  have hp : p < t.size := by
    rw [← bl_len]
    have : ((bl t).drop p).length = l.length + 1 := by rw [h]; rfl
    rw [List.length_drop] at this
    omega
  rw [bl_at t p hp] at h
  obtain ⟨h1, h2⟩ := List.cons.inj h
  exact ⟨hp, h1, h2⟩
theorem drop_nil (t : ByteArray) (p : Nat) (h : (bl t).drop p = []) : t.size ≤ p := by
  have := List.drop_eq_nil_iff.1 h
  rw [bl_len] at this
  exact this

/-! a text t that holds s from place a on, with newlines alone behind it -/
structure Sh (s t : ByteArray) (a : Nat) : Prop where
  le : a + s.size ≤ t.size
  hb : ∀ p, p < s.size → bt t ((a + p : Nat) : Int) = bt s (p : Int)
  hq : ∀ p, s.size ≤ p → a + p < t.size → bt t ((a + p : Nat) : Int) = 10

theorem stp_past {t : ByteArray} {a n : Nat} (p : Int → Bool) (hp : p 10 = false) (h : a + n < t.size → bt t ((a + n : Nat) : Int) = 10) : stp p t (t.size - (a + n)) (a + n) = a + n := by
  by_cases c : a + n < t.size
  · obtain ⟨d, hd⟩ : ∃ d, t.size - (a + n) = d + 1 := ⟨t.size - (a + n) - 1, by omega⟩
    rw [hd, stp_succ, h c, hp]
    rfl
  · rw [show t.size - (a + n) = 0 by omega]
    rfl

theorem stp_sh {s t : ByteArray} {a : Nat} (S : Sh s t a) (p : Int → Bool) (hp : p 10 = false) (d : Nat) : ∀ i, s.size - i = d → i ≤ s.size → stp p t (t.size - (a + i)) (a + i) = a + stp p s (s.size - i) i := by
  induction d with
  | zero =>
    intro i hd hi
    have hi2 : i = s.size := by omega
    subst hi2
    rw [stp_past p hp (fun c => S.hq _ (Nat.le_refl _) c), Nat.sub_self]
    rfl
  | succ d ih =>
    intro i hd hi
    have := S.le
    obtain ⟨q, hq⟩ : ∃ q, t.size - (a + i) = q + 1 := ⟨t.size - (a + i) - 1, by omega⟩
    have h2 := ih (i + 1) (by omega) (by omega)
    rw [show t.size - (a + (i + 1)) = q by omega, show s.size - (i + 1) = d by omega] at h2
    rw [hq, hd, stp_succ, stp_succ, S.hb i (by omega)]
    by_cases c : p (bt s (i : Int)) = true
    · rw [if_pos c, if_pos c]
      exact h2
    · rw [if_neg c, if_neg c]

theorem stp_full {t : ByteArray} (p : Int → Bool) (d : Nat) : ∀ i, t.size - i = d → i ≤ t.size → (∀ x, i ≤ x → x < t.size → p (bt t (x : Int)) = true) → stp p t d i = t.size := by
  induction d with
  | zero => intro i hd hi _; show i = _; omega
  | succ d ih =>
    intro i hd hi h
    rw [stp_succ, if_pos (h i (Nat.le_refl _) (by omega))]
    exact ih (i + 1) (by omega) (by omega) (fun x h1 h2 => h x (by omega) h2)

theorem stp_blk {s t : ByteArray} {a : Nat} (S : Sh s t a) (d : Nat) : ∀ i, s.size - i = d → i ≤ s.size →
    (stp blk s (s.size - i) i < s.size → stp blk t (t.size - (a + i)) (a + i) = a + stp blk s (s.size - i) i) ∧ (¬ stp blk s (s.size - i) i < s.size → stp blk t (t.size - (a + i)) (a + i) = t.size) := by
  induction d with
  | zero =>
    intro i hd hi
    have hi2 : i = s.size := by omega
    subst hi2
    have := S.le
    rw [Nat.sub_self]
    refine ⟨fun h => absurd h (by show ¬ s.size < s.size; omega), fun _ => ?_⟩
    refine stp_full blk _ _ rfl (by omega) ?_
    intro x h1 h2
    obtain ⟨y, rfl⟩ : ∃ y, x = a + y := ⟨x - a, by omega⟩
    rw [S.hq y (by omega) h2]
    rfl
  | succ d ih =>
    intro i hd hi
    have := S.le
    obtain ⟨q, hq⟩ : ∃ q, t.size - (a + i) = q + 1 := ⟨t.size - (a + i) - 1, by omega⟩
    have h2 := ih (i + 1) (by omega) (by omega)
    rw [show t.size - (a + (i + 1)) = q by omega, show s.size - (i + 1) = d by omega] at h2
    rw [hq, hd, stp_succ, stp_succ, S.hb i (by omega)]
    by_cases c : blk (bt s (i : Int)) = true
    · rw [if_pos c, if_pos c]
      exact h2
    · rw [if_neg c, if_neg c]
      exact ⟨fun _ => rfl, fun h => by omega⟩

theorem bl_ext (s : ByteArray) (i e : Nat) : bl (s.extract i e) = ((bl s).drop i).take (e - i) := by
  unfold bl
  rw [ByteArray.data_extract, Array.toList_extract]
  simp [List.extract, List.map_take, List.map_drop]

theorem bl_inj {x y : ByteArray} (h : bl x = bl y) : x = y := by rw [← strOf_bl x, ← strOf_bl y, h]

theorem drop_eq (s t : ByteArray) (a : Nat) (n : Nat) : ∀ i, i + n ≤ s.size → a + i + n ≤ t.size → (∀ p, p < s.size → bt t ((a + p : Nat) : Int) = bt s (p : Int)) → ((bl t).drop (a + i)).take n = ((bl s).drop i).take n := by
  induction n with
  | zero => intro i _ _ _; rfl
  | succ n ih =>
    intro i h1 h2 hb
    rw [bl_at t (a + i) (by omega), bl_at s i (by omega), List.take_succ_cons, List.take_succ_cons, hb i (by omega)]
    have := ih (i + 1) (by omega) (by omega) hb
    rw [show a + i + 1 = a + (i + 1) by omega, this]

theorem ext_sh {s t : ByteArray} {a : Nat} (S : Sh s t a) (i e : Nat) (hi : i ≤ e) (he : e ≤ s.size) : t.extract (a + i) (a + e) = s.extract i e := by
  apply bl_inj
  have := S.le
  rw [bl_ext, bl_ext, show a + e - (a + i) = e - i by omega]
  exact drop_eq s t a (e - i) i (by omega) (by omega) S.hb

theorem pre_bl (s : ByteArray) (i : Nat) (g : ByteArray) : pre s i g = true ↔ i + g.size ≤ s.size ∧ ((bl s).drop i).take g.size = bl g := by
  have e : bl (s.extract i (i + g.size)) = ((bl s).drop i).take g.size := by rw [bl_ext, show i + g.size - i = g.size by omega]
  unfold pre
  rw [Bool.and_eq_true, decide_eq_true_eq, beq_iff_eq, ← e]
  constructor
  · intro ⟨h1, h2⟩
    refine ⟨h1, ?_⟩
    unfold bl
    rw [h2]
  · intro ⟨h1, h2⟩
    have := bl_inj h2
    exact ⟨h1, by rw [this]⟩

theorem pre_sh {s t : ByteArray} {a : Nat} (S : Sh s t a) (j : Nat) (hj : j ≤ s.size) (g : ByteArray) (hg : ∀ x ∈ bl g, x ≠ 10) : pre t (a + j) g = pre s j g := by
  rw [Bool.eq_iff_iff, pre_bl, pre_bl]
  have := S.le
  constructor
  · intro ⟨h1, h2⟩
    by_cases c : j + g.size ≤ s.size
    · refine ⟨c, ?_⟩
      rw [← h2]
      exact (drop_eq s t a g.size j c (by omega) S.hb).symm
    · exfalso
      have hm : bt t ((a + s.size : Nat) : Int) ∈ bl g := by
        rw [← h2]
        have e1 : (bl t).drop (a + s.size) = bt t ((a + s.size : Nat) : Int) :: (bl t).drop (a + s.size + 1) := bl_at t (a + s.size) (by omega)
        have e2 : ((bl t).drop (a + j)).drop (s.size - j) = (bl t).drop (a + s.size) := by rw [List.drop_drop]; congr 1; omega
        rw [e1] at e2
        have hk : s.size - j < g.size := by omega
        rw [List.mem_iff_getElem?]
        refine ⟨s.size - j, ?_⟩
        rw [List.getElem?_take_of_lt hk, ← List.head?_drop, e2]
        rfl
      exact hg _ hm (S.hq _ (Nat.le_refl _) (by omega))
  · intro ⟨h1, h2⟩
    refine ⟨by omega, ?_⟩
    rw [← h2]
    exact drop_eq s t a g.size j h1 (by omega) S.hb

theorem find_congr {α : Type} (l : List α) (p q : α → Bool) (h : ∀ x ∈ l, p x = q x) : l.find? p = l.find? q := by
  induction l with
  | nil => rfl
  | cons x r ih =>
    rw [List.find?_cons, List.find?_cons, h x (by simp), ih (fun y hy => h y (by simp [hy]))]

theorem sgn_sh {s t : ByteArray} {a : Nat} (S : Sh s t a) (j : Nat) (hj : j ≤ s.size) : sgn t ((a + j : Nat) : Int) = sgn s (j : Int) := by
  unfold sgn
  rw [if_neg (by omega), if_neg (by omega), Int.toNat_natCast, Int.toNat_natCast, find_congr signs _ _ (fun g hg => pre_sh S j hj g ?_)]
  unfold signs at hg
  simp only [List.mem_cons, List.not_mem_nil, or_false] at hg
  rcases hg with rfl | rfl | rfl | rfl | rfl | rfl | rfl | rfl | rfl | rfl | rfl | rfl | rfl <;> decide

theorem nv_sh {s t : ByteArray} {a : Nat} (S : Sh s t a) (d : Nat) : ∀ i v, i + d ≤ s.size → nv t d (a + i) v = nv s d i v := by
  induction d with
  | zero => intro i v _; rfl
  | succ d ih =>
    intro i v h
    rw [nv_succ, nv_succ, S.hb i (by omega), ← ih (i + 1) _ (by omega)]
    rfl

theorem tx_past {t : ByteArray} (d : Nat) : ∀ (i : Nat) (acc : List Int), (∀ x, i ≤ x → x < t.size → bt t (x : Int) = 10) → tx t d i acc = (1, [], 0) := by
  induction d with
  | zero => intro i acc _; rfl
  | succ d ih =>
    intro i acc h
    rw [tx_succ]
    by_cases c : i < t.size
    · rw [if_pos c, h i (Nat.le_refl _) c, if_neg (by decide)]
      exact ih (i + 1) _ (fun x h1 h2 => h x (by omega) h2)
    · rw [if_neg c]

def up (a : Nat) (r : Int × List Int × Nat) : Int × List Int × Nat := (r.1, r.2.1, if r.1 = 0 then a + r.2.2 else 0)
theorem tx_sh {s t : ByteArray} {a : Nat} (S : Sh s t a) (d : Nat) : ∀ (d2 i : Nat) (acc : List Int), s.size + 1 - i ≤ d → t.size + 1 - (a + i) ≤ d2 → i ≤ s.size + 1 → tx t d2 (a + i) acc = up a (tx s d i acc) := by
  have hle := S.le
  induction d with
  | zero =>
    intro d2 i acc h1 h2 hi
    rw [tx_past d2 (a + i) acc]
    · rfl
    · intro x h3 h4
      obtain ⟨y, rfl⟩ : ∃ y, x = a + y := ⟨x - a, by omega⟩
      exact S.hq y (by omega) h4
  | succ d ih =>
    intro d2 i acc h1 h2 hi
    by_cases c : i < s.size
    · obtain ⟨d2, rfl⟩ : ∃ q, d2 = q + 1 := ⟨d2 - 1, by omega⟩
      rw [tx_succ, tx_succ, if_pos (show a + i < t.size by omega), if_pos c, S.hb i c]
      by_cases q : bt s (i : Int) = 39
      · rw [if_pos q, if_pos q]
        have e : (a + i + 1 < t.size ∧ bt t ((a + i + 1 : Nat) : Int) = 39) ↔ (i + 1 < s.size ∧ bt s ((i + 1 : Nat) : Int) = 39) := by
          constructor
          · intro ⟨c1, c2⟩
            by_cases c3 : i + 1 < s.size
            · refine ⟨c3, ?_⟩
              rw [← S.hb (i + 1) c3]
              exact c2
            · exfalso
              have := S.hq (i + 1) (by omega) (by omega)
              rw [show a + (i + 1) = a + i + 1 by omega, c2] at this
              omega
          · intro ⟨c1, c2⟩
            refine ⟨by omega, ?_⟩
            rw [show a + i + 1 = a + (i + 1) by omega, S.hb (i + 1) c1]
            exact c2
        by_cases c2 : i + 1 < s.size ∧ bt s ((i + 1 : Nat) : Int) = 39
        · rw [if_pos (e.mpr c2), if_pos c2]
          exact ih d2 (i + 2) _ (by omega) (by omega) (by omega)
        · rw [if_neg (fun h => c2 (e.mp h)), if_neg c2]
          by_cases l : acc.length > 65536
          · rw [if_pos l, if_pos l]
            rfl
          · rw [if_neg l, if_neg l]
            unfold up
            rw [if_pos rfl]
            rfl
      · rw [if_neg q, if_neg q]
        exact ih d2 (i + 1) _ (by omega) (by omega) (by omega)
    · rw [tx_past d2 (a + i) acc]
      · rw [tx_succ, if_neg c]
        rfl
      · intro x h3 h4
        obtain ⟨y, rfl⟩ : ∃ y, x = a + y := ⟨x - a, by omega⟩
        exact S.hq y (by omega) h4

/-! one token, and the same one shifted -/
def R1 (s : ByteArray) (a : Nat) (r r2 : Int × ByteArray × Int × Int × Int × Int) : Prop :=
  r2.2.2.2.2.2 = r.2.2.2.2.2 ∧ (r.2.2.2.2.2 = 0 → r2.1 = r.1 ∧ (r.1 ≠ 0 → r2.2.1 = r.2.1 ∧ r2.2.2.1 = r.2.2.1 ∧ r2.2.2.2.1 = r.2.2.2.1 + a ∧ r2.2.2.2.2.1 = r.2.2.2.2.1 + a ∧ 0 ≤ r.2.2.2.2.1 ∧ r.2.2.2.2.1 ≤ s.size ∧ 0 ≤ r.2.2.2.1 ∧ r.2.2.2.1 ≤ s.size))

theorem tx_next (s : ByteArray) (d : Nat) : ∀ (i : Nat) (acc : List Int), (tx s d i acc).1 = 0 → (tx s d i acc).2.2 ≤ s.size := by
  induction d with
  | zero => intro i acc h; exact absurd (show (1 : Int) = 0 from h) (by decide)
  | succ d ih =>
    intro i acc h
    rw [tx_succ] at h ⊢
    by_cases c : i < s.size
    · rw [if_pos c] at h ⊢
      by_cases q : bt s (i : Int) = 39
      · rw [if_pos q] at h ⊢
        by_cases c2 : i + 1 < s.size ∧ bt s ((i + 1 : Nat) : Int) = 39
        · rw [if_pos c2] at h ⊢
          exact ih _ _ h
        · rw [if_neg c2] at h ⊢
          by_cases l : acc.length > 65536
          · rw [if_pos l] at h
            exact absurd (show (4 : Int) = 0 from h) (by decide)
          · rw [if_neg l]
            show i + 1 ≤ s.size
            omega
      · rw [if_neg q] at h ⊢
        exact ih _ _ h
    · rw [if_neg c] at h
      exact absurd (show (1 : Int) = 0 from h) (by decide)

theorem tok_sh {s t : ByteArray} {a : Nat} (S : Sh s t a) (f f2 : Int) (j : Nat) (hj : j < s.size) : R1 s a (tokR s f j) (tokR t f2 (a + j)) := by
  have hle := S.le
  have hb := S.hb j hj
  unfold tokR
  rw [if_neg (show ¬ j = s.size by omega), if_neg (show ¬ a + j = t.size by omega), hb]
  by_cases l : ltr (bt s (j : Int)) = true
  · rw [if_pos l, if_pos l, stp_sh S nmb rfl _ j rfl (by omega)]
    have h1 := stp_ge nmb s (s.size - j) j
    have h2 := stp_le nmb s (s.size - j) j
    generalize stp nmb s (s.size - j) j = e at *
    unfold nameR
    by_cases c : (e : Int) - (j : Int) > 32
    · rw [if_pos c, if_pos (show ((a + e : Nat) : Int) - ((a + j : Nat) : Int) > 32 by omega)]
      exact ⟨rfl, fun h => absurd (show (1 : Int) = 0 from h) (by decide)⟩
    · rw [if_neg c, if_neg (show ¬ ((a + e : Nat) : Int) - ((a + j : Nat) : Int) > 32 by omega), ext_sh S j e h1 (by omega)]
      cases wrd (s.extract j e)
      · refine ⟨rfl, fun _ => ⟨rfl, fun _ => ⟨rfl, rfl, ?_, ?_, ?_, ?_, ?_, ?_⟩⟩⟩ <;> simp <;> omega
      · refine ⟨rfl, fun _ => ⟨rfl, fun _ => ⟨rfl, rfl, ?_, ?_, ?_, ?_, ?_, ?_⟩⟩⟩ <;> simp <;> omega
  · rw [if_neg l, if_neg l]
    by_cases g : dgt (bt s (j : Int)) = true
    · rw [if_pos g, if_pos g, stp_sh S dgt rfl _ j rfl (by omega)]
      have h1 := stp_ge dgt s (s.size - j) j
      have h2 := stp_le dgt s (s.size - j) j
      generalize stp dgt s (s.size - j) j = e at *
      unfold numR
      rw [show a + e - (a + j) = e - j by omega, nv_sh S (e - j) j 0 (by omega)]
      cases nv s (e - j) j 0 with
      | none => exact ⟨rfl, fun h => absurd (show (1 : Int) = 0 from h) (by decide)⟩
      | some n =>
        unfold numE
        have ec : (a + e < t.size ∧ ltr (bt t ((a + e : Nat) : Int)) = true) ↔ (e < s.size ∧ ltr (bt s (e : Int)) = true) := by
          constructor
          · intro ⟨c1, c2⟩
            by_cases c3 : e < s.size
            · rw [S.hb e c3] at c2
              exact ⟨c3, c2⟩
            · rw [S.hq e (by omega) c1] at c2
              exact absurd c2 (by decide)
          · intro ⟨c1, c2⟩
            rw [S.hb e c1]
            exact ⟨by omega, c2⟩
        by_cases c : e < s.size ∧ ltr (bt s (e : Int)) = true
        · simp only [if_pos c, if_pos (ec.mpr c)]
          exact ⟨rfl, fun h => absurd (show (1 : Int) = 0 from h) (by decide)⟩
        · simp only [if_neg c, if_neg (fun h => c (ec.mp h))]
          rw [ext_sh S j e h1 (by omega)]
          refine ⟨rfl, fun _ => ⟨rfl, fun _ => ⟨rfl, rfl, ?_, ?_, ?_, ?_, ?_, ?_⟩⟩⟩ <;> simp <;> omega
    · rw [if_neg g, if_neg g]
      by_cases q : bt s (j : Int) = 39
      · have hx := tx_sh S s.size t.size (j + 1) [] (by omega) (by omega) (by omega)
        rw [if_pos q, if_pos q, show a + j + 1 = a + (j + 1) by omega, hx]
        have hn := tx_next s s.size (j + 1) []
        generalize tx s s.size (j + 1) [] = r at *
        unfold txR up
        by_cases c : r.1 = 0
        · simp only [if_pos c]
          have := hn c
          refine ⟨rfl, fun _ => ⟨rfl, fun _ => ⟨rfl, rfl, ?_, ?_, ?_, ?_, ?_, ?_⟩⟩⟩ <;> simp <;> omega
        · simp only [if_neg c]
          exact ⟨rfl, fun h => absurd h c⟩
      · rw [if_neg q, if_neg q, sgn_sh S j (by omega)]
        by_cases z : (sgn s (j : Int)).data.toList = []
        · rw [if_pos z, if_pos z]
          exact ⟨rfl, fun h => absurd (show (1 : Int) = 0 from h) (by decide)⟩
        · rw [if_neg z, if_neg z]
          have hfit : j + (sgn s (j : Int)).size ≤ s.size := by
            unfold sgn at z ⊢
            rw [if_neg (by omega)] at z ⊢
            rw [Int.toNat_natCast] at z ⊢
            cases hf : signs.find? (pre s j) with
            | none => rw [hf] at z; exact absurd rfl z
            | some g0 =>
              have := List.find?_some hf
              exact ((pre_bl s j g0).mp this).1
          generalize sgn s (j : Int) = g0 at *
          refine ⟨rfl, fun _ => ⟨rfl, fun _ => ⟨rfl, rfl, ?_, ?_, ?_, ?_, ?_, ?_⟩⟩⟩ <;> simp <;> omega

theorem one_sh {s t : ByteArray} {a : Nat} (S : Sh s t a) (p : Nat) (hp : p ≤ s.size) (x : Int) (hx : stp blk t (t.size - clamp t x) (clamp t x) = stp blk t (t.size - (a + p)) (a + p)) : R1 s a (oneR s (p : Int)) (oneR t x) := by
  have hle := S.le
  have hc : clamp s (p : Int) = p := by unfold clamp; rw [if_neg (by omega), if_neg (by omega)]; rfl
  unfold oneR
  rw [hx, hc]
  obtain ⟨b1, b2⟩ := stp_blk S _ p rfl hp
  have h2 := stp_le blk s (s.size - p) p
  by_cases c : stp blk s (s.size - p) p < s.size
  · rw [b1 c]
    exact tok_sh S _ _ _ c
  · rw [b2 c]
    have e : stp blk s (s.size - p) p = s.size := by omega
    rw [e]
    unfold tokR
    rw [if_pos rfl, if_pos rfl]
    exact ⟨rfl, fun _ => ⟨rfl, fun h => absurd rfl h⟩⟩

/-! all tokens -/
def relT (a : Nat) (x y : S44) : Prop := y.f0 = x.f0 ∧ (x.f0 ≠ 0 → y.f1 = x.f1 ∧ y.f2 = x.f2 ∧ y.f3 = x.f3 + a ∧ 0 ≤ x.f3 ∧ x.f3 ≤ 140737488355328)
def relL (a : Nat) : List S44 → List S44 → Prop
  | [], [] => True
  | x :: xs, y :: ys => relT a x y ∧ relL a xs ys
  | _, _ => False
theorem relL_len (a : Nat) : ∀ (l m : List S44), relL a l m → l.length = m.length
  | [], [], _ => rfl
  | x :: xs, y :: ys, h => by simp [relL_len a xs ys h.2]
  | [], y :: ys, h => h.elim
  | x :: xs, [], h => h.elim
theorem relL_snoc (a : Nat) (x y : S44) (hxy : relT a x y) : ∀ (l m : List S44), relL a l m → relL a (l ++ [x]) (m ++ [y])
  | [], [], _ => ⟨hxy, trivial⟩
  | _ :: xs, _ :: ys, h => ⟨h.1, relL_snoc a x y hxy xs ys h.2⟩
  | [], y :: ys, h => h.elim
  | x :: xs, [], h => h.elim
theorem relL_get (a : Nat) : ∀ (l m : List S44) (i : Nat), relL a l m → i < l.length → relT a (rd_T44 l (i : Int)) (rd_T44 m (i : Int))
  | x :: xs, y :: ys, 0, h, _ => h.1
  | x :: xs, y :: ys, i + 1, h, hi => by
    have := relL_get a xs ys i h.2 (by simpa using hi)
    have e1 : rd_T44 (x :: xs) ((i + 1 : Nat) : Int) = rd_T44 xs (i : Int) := by simp [rd_T44]
    have e2 : rd_T44 (y :: ys) ((i + 1 : Nat) : Int) = rd_T44 ys (i : Int) := by simp [rd_T44]
    rw [e1, e2]
    exact this
  | [], _, _, _, hi => by simp at hi
  | x :: xs, [], _, h, _ => h.elim

theorem all_sh {s t : ByteArray} {a : Nat} (S : Sh s t a) (hs : s.size ≤ 140737488355328) (n : Nat) : ∀ (acc acc2 : List S44) (p : Nat) (x : Int), p ≤ s.size → stp blk t (t.size - clamp t x) (clamp t x) = stp blk t (t.size - (a + p)) (a + p) → relL a acc acc2 →
    (allR t n acc2 x).2 = (allR s n acc (p : Int)).2 ∧ relL a (allR s n acc (p : Int)).1 (allR t n acc2 x).1 := by
  induction n with
  | zero => intro acc acc2 p x _ _ _; exact ⟨rfl, trivial⟩
  | succ n ih =>
    intro acc acc2 p x hp hx hr
    have h := one_sh S p hp x hx
    have hle := S.le
    rw [allR_succ, allR_succ]
    generalize oneR s (p : Int) = r at *
    generalize oneR t x = r2 at *
    obtain ⟨h1, h2⟩ := h
    by_cases c : r.2.2.2.2.2 = 0
    · obtain ⟨h3, h4⟩ := h2 c
      rw [if_pos c, if_pos (h1.trans c)]
      have ht : relT a (mkT r) (mkT r2) := ⟨h3, fun h => by
        obtain ⟨g1, g2, g3, _, _, _, g4, g5⟩ := h4 h
        exact ⟨g1, g2, g3, g4, by show r.2.2.2.1 ≤ _; omega⟩⟩
      by_cases z : r.1 = 0
      · rw [if_pos z, if_pos (h3.trans z)]
        exact ⟨rfl, relL_snoc a _ _ ht acc acc2 hr⟩
      · rw [if_neg z, if_neg (fun h => z (h3 ▸ h))]
        obtain ⟨_, _, _, g4, g5, g6, _, _⟩ := h4 z
        obtain ⟨q, hq⟩ := Int.eq_ofNat_of_zero_le g5
        rw [hq] at g4 g6 ⊢
        rw [g4]
        refine ih _ _ q _ (by omega) ?_ (relL_snoc a _ _ ht acc acc2 hr)
        have ec : clamp t ((q : Int) + (a : Int)) = a + q := by unfold clamp; rw [if_neg (by omega), if_neg (by omega)]; omega
        rw [ec]
    · rw [if_neg c, if_neg (fun h => c (h1 ▸ h)), h1]
      exact ⟨rfl, trivial⟩

theorem stp_skip {t : ByteArray} (p : Int → Bool) (a : Nat) : ∀ (i : Nat), i ≤ a → a ≤ t.size → (∀ x, i ≤ x → x < a → p (bt t (x : Int)) = true) → stp p t (t.size - i) i = stp p t (t.size - a) a := by
  intro i hi ha h
  obtain ⟨d, hd⟩ : ∃ d, a - i = d := ⟨_, rfl⟩
  induction d generalizing i with
  | zero => rw [show i = a by omega]
  | succ d ih =>
    obtain ⟨q, hq⟩ : ∃ q, t.size - i = q + 1 := ⟨t.size - i - 1, by omega⟩
    rw [hq, stp_succ, if_pos (h i (Nat.le_refl _) (by omega)), show q = t.size - (i + 1) by omega]
    exact ih (i + 1) (by omega) (fun x h1 h2 => h x (by omega) h2) (by omega)

theorem le_big (n : Nat) (h : n ≤ 2000) : n + 1 ≤ 9223372036854775807 := by omega
/-! the law -/
theorem open_l0 (s : ByteArray) (hs : s.size ≤ 140737488355328) (d : Nat) : ∀ (k j : Nat) (n : Int), s.size - j = d → j ≤ s.size → d < k → ∃ b, trommellaw07_open.l0 k s n (j : Int) = some b := by
  induction d with
  | zero =>
    intro k j n hd hj hk
    obtain ⟨k, rfl⟩ : ∃ m, k = m + 1 := ⟨k - 1, by omega⟩
    simp only [trommellaw07_open.l0]
    rw [if_neg (by omega)]
    exact ⟨_, rfl⟩
  | succ d ih =>
    intro k j n hd hj hk
    obtain ⟨k, rfl⟩ : ∃ m, k = m + 1 := ⟨k - 1, by omega⟩
    have e1 : wrap64 ((j : Int) + 1) = ((j + 1 : Nat) : Int) := by rw [w64 (by omega) (by omega)]; omega
    simp only [trommellaw07_open.l0]
    rw [if_pos (show (j : Int) < (s.size : Int) by omega), if_pos (show (0 : Int) ≤ (j : Int) by omega), e1]
    by_cases c : bt s (j : Int) = 39
    · rw [if_pos c]
      exact ih k (j + 1) _ (by omega) (by omega) (by omega)
    · rw [if_neg c]
      exact ih k (j + 1) _ (by omega) (by omega) (by omega)

theorem cmp_l2 (a : Nat) (ha : a ≤ 10) (l m : List S44) (h : relL a l m) (hl : l.length ≤ 1000) (d : Nat) : ∀ (k j : Nat), l.length - j = d → j ≤ l.length → d + 1300 < k → trommellaw07_TokenBlanks.l2 k (a : Int) l m (j : Int) = some true := by
  have hlen := relL_len a l m h
  induction d with
  | zero =>
    intro k j hd hj hk
    obtain ⟨k, rfl⟩ : ∃ m, k = m + 1 := ⟨k - 1, by omega⟩
    simp only [trommellaw07_TokenBlanks.l2]
    rw [if_neg (by omega), live07 k (by omega), bs]
  | succ d ih =>
    intro k j hd hj hk
    obtain ⟨k, rfl⟩ : ∃ m, k = m + 1 := ⟨k - 1, by omega⟩
    have e1 : wrap64 ((j : Int) + 1) = ((j + 1 : Nat) : Int) := by rw [w64 (by omega) (by omega)]; omega
    obtain ⟨r0, r1⟩ := relL_get a l m j h (by omega)
    simp only [trommellaw07_TokenBlanks.l2]
    rw [if_pos (show (j : Int) < (l.length : Int) by omega), if_pos (show (0 : Int) ≤ (j : Int) by omega), e1, ih k (j + 1) (by omega) (by omega) (by omega)]
    generalize rd_T44 l (j : Int) = x at *
    generalize rd_T44 m (j : Int) = y at *
    by_cases z : x.f0 = 0
    · rw [if_pos z]
    · obtain ⟨q1, q2, q3, q4, q5⟩ := r1 z
      rw [if_neg z, if_pos (show (j : Int) < (m.length : Int) by omega), if_pos (show y.f3 = wrap64 (x.f3 + (a : Int)) by rw [w64 (by omega) (by omega)]; exact q3), if_pos (by rw [q1]), if_pos r0, if_pos q2]

theorem tail_true (s : ByteArray) (hs : s.size ≤ 1000) (a : Nat) (ha : a ≤ 10) (k : Int) (q : Nat) (hq4 : q < 4) (wk : Int.tmod (wrap64 k) 4 = (q : Int)) (d : Nat) : ∀ (f j : Nat) (t : ByteArray), Sh s t a → (∀ x, x < a → blk (bt t (x : Int)) = true) → t.size = a + s.size + j → q - j = d → j ≤ 4 → d + 9000 < f →
    trommellaw07_TokenBlanks.l1 f s k (a : Int) t (j : Int) = some true := by
  induction d with
  | zero =>
    intro f j t S hp hsz hd hj hf
    obtain ⟨f, rfl⟩ : ∃ m, f = m + 1 := ⟨f - 1, by omega⟩
    simp only [trommellaw07_TokenBlanks.l1]
    rw [wk, if_neg (by omega), all_is s (by omega) f (by omega), bs, all_is t (by omega) f (by omega), bs]
    obtain ⟨b, hb⟩ := open_l0 s (by omega) s.size f 0 0 (Nat.sub_zero _) (Nat.zero_le _) (by omega)
    have hc : clamp t 0 = 0 := by unfold clamp; rw [if_neg (by omega), if_neg (by omega)]; rfl
    have hx : stp blk t (t.size - clamp t 0) (clamp t 0) = stp blk t (t.size - (a + 0)) (a + 0) := by
      rw [hc]
      exact stp_skip blk a 0 (by omega) (by omega) (fun x _ h => hp x h)
    obtain ⟨g1, g2⟩ := all_sh S (by omega) 1000 [] [] 0 0 (by omega) hx trivial
    have hl := allR_len s 1000 [] 0
    have hlen := relL_len a _ _ g2
    rw [show ((0 : Nat) : Int) = 0 from rfl] at g1 g2 hlen
    unfold trommellaw07_open.f
    rw [show ((0 : Nat) : Int) = 0 from rfl] at hb
    rw [hb, bs]
    generalize allR s 1000 [] 0 = r at *
    generalize allR t 1000 [] 0 = r2 at *
    cases b with
    | true => rw [if_pos rfl, live07 f (by omega), bs]
    | false =>
      rw [if_neg (by decide), if_pos g1.symm, hlen, bne_self_eq_false]
      obtain ⟨f, rfl⟩ : ∃ m, f = m + 1 := ⟨f - 1, by omega⟩
      simp only [trommellaw07_TokenBlanks.j2, Bool.false_eq_true, if_false]
      exact cmp_l2 a ha r.1 r2.1 g2 (by simpa using hl) r.1.length f 0 rfl (by omega) (by simp at hl; omega)
  | succ d ih =>
    intro f j t S hp hsz hd hj hf
    obtain ⟨f, rfl⟩ : ∃ m, f = m + 1 := ⟨f - 1, by omega⟩
    have e1 : wrap64 ((j : Int) + 1) = ((j + 1 : Nat) : Int) := by rw [w64 (by omega) (by omega)]; omega
    have hle := S.le
    have c1 : (j : Int) < (q : Int) := by omega
    have c2 : t.size + 1 ≤ 9223372036854775807 := le_big t.size (by rw [hsz]; clear hd hf ih c1; omega)
    simp only [trommellaw07_TokenBlanks.l1]
    rw [wk, if_pos c1, if_pos c2, e1]
    have hbt : ∀ x, x < t.size → bt (t ++ ⟨#[10]⟩) (x : Int) = bt t (x : Int) := by
      intro x hx
      have e : (bl (t ++ ⟨#[10]⟩)).drop x = bt t (x : Int) :: ((bl t).drop (x + 1) ++ bl ⟨#[10]⟩) := by
        rw [bl_append, List.drop_append_of_le_length (by rw [bl_len]; omega), bl_at t x hx]
        rfl
      exact (bt_of _ x _ _ e).2.1
    have hlast : bt (t ++ ⟨#[10]⟩) (t.size : Int) = 10 := by
      have e : (bl (t ++ ⟨#[10]⟩)).drop t.size = 10 :: [] := by
        rw [bl_append, List.drop_append_of_le_length (by rw [bl_len]; omega), List.drop_of_length_le (by rw [bl_len]; omega)]
        rfl
      exact (bt_of _ _ _ _ e).2.1
    have hsz2 : (t ++ ⟨#[10]⟩ : ByteArray).size = t.size + 1 := by rw [ByteArray.size_append]; rfl
    refine ih f (j + 1) (t ++ ⟨#[10]⟩) ⟨by omega, ?_, ?_⟩ ?_ (by omega) (by omega) (by omega) (by omega)
    · intro p h
      rw [hbt (a + p) (by omega)]
      exact S.hb p h
    · intro p h1 h2
      by_cases c : a + p < t.size
      · rw [hbt (a + p) c]
        exact S.hq p h1 c
      · rw [show a + p = t.size by omega]
        exact hlast
    · intro x hx
      rw [hbt x (by omega)]
      exact hp x hx

theorem head_true (s : ByteArray) (hs : s.size ≤ 1000) (a : Nat) (ha : a < 5) (k : Int) (hk : 0 ≤ k ∧ k < 256) (d : Nat) : ∀ (f j : Nat) (t : ByteArray), (∃ P : ByteArray, t = P ++ s ∧ P.size = j ∧ ∀ x ∈ bl P, blk x = true) → a - j = d → j ≤ a → d + 9100 < f →
    trommellaw07_TokenBlanks.l0 f s k (a : Int) t (j : Int) = some true := by
  induction d with
  | zero =>
    intro f j t ⟨P, hP, hj2, hb⟩ hd hj hf
    obtain ⟨f, rfl⟩ : ∃ m, f = m + 1 := ⟨f - 1, by omega⟩
    simp only [trommellaw07_TokenBlanks.l0]
    rw [if_neg (by omega)]
    obtain rfl : j = a := by omega
    have hl : bl t = bl P ++ bl s := by rw [hP, bl_append]
    have hsz : t.size = j + s.size := by rw [hP, ByteArray.size_append, hj2]
    have hplen : (bl P).length = j := by rw [bl_len, hj2]
    obtain ⟨q, hq⟩ := Int.eq_ofNat_of_zero_le (show 0 ≤ k % 4 by omega)
    have wq : Int.tmod (wrap64 k) 4 = (q : Int) := by rw [w64 (by omega) (by omega), Int.tmod_eq_emod_of_nonneg hk.1, hq]
    refine tail_true s hs j (by omega) k q (by omega) wq q f 0 t ⟨by omega, ?_, ?_⟩ ?_ (by omega) (by omega) (by omega) (by omega)
    · intro p h
      have e : (bl t).drop (j + p) = bt s (p : Int) :: (bl s).drop (p + 1) := by
        rw [hl, ← bl_at s p h, ← hplen, List.drop_length_add_append]
      exact (bt_of _ _ _ _ e).2.1
    · intro p h1 h2
      omega
    · intro x hx
      have hxl : x < (bl P).length := by omega
      have e : (bl t).drop x = (bl P)[x] :: ((bl P).drop (x + 1) ++ bl s) := by
        rw [hl, List.drop_append_of_le_length (by omega), List.drop_eq_getElem_cons hxl]
        rfl
      rw [(bt_of _ _ _ _ e).2.1]
      exact hb _ (List.getElem_mem hxl)
  | succ d ih =>
    intro f j t ⟨P, hP, hj2, hb⟩ hd hj hf
    obtain ⟨f, rfl⟩ : ∃ m, f = m + 1 := ⟨f - 1, by omega⟩
    have e1 : wrap64 ((j : Int) + 1) = ((j + 1 : Nat) : Int) := by rw [w64 (by omega) (by omega)]; omega
    have hsz : t.size = j + s.size := by rw [hP, ByteArray.size_append, hj2]
    simp only [trommellaw07_TokenBlanks.l0]
    have hx1 : (ByteArray.extract ⟨#[32, 9, 10, 13, 32]⟩ j (j + 1)).size = 1 := by
      rw [ByteArray.size_extract]
      show min (j + 1) 5 - j = 1
      omega
    rw [if_pos (by omega), if_pos (by omega), e1, if_pos (by omega), if_pos (by omega), Int.toNat_natCast, Int.toNat_natCast, if_pos (by omega)]
    refine ih f (j + 1) _ ⟨ByteArray.extract ⟨#[32, 9, 10, 13, 32]⟩ j (j + 1) ++ P, ?_, ?_, ?_⟩ (by omega) (by omega) (by omega)
    · rw [hP, ByteArray.append_assoc]
    · rw [ByteArray.size_append, hx1, hj2]
      omega
    · intro x hx
      rw [bl_append, List.mem_append] at hx
      rcases hx with hx | hx
      · rw [bl_ext] at hx
        have h2 := List.mem_of_mem_drop (List.mem_of_mem_take hx)
        have h3 : x ∈ ([32, 9, 10, 13, 32] : List Int) := h2
        simp only [List.mem_cons, List.not_mem_nil, or_false] at h3
        rcases h3 with rfl | rfl | rfl | rfl | rfl <;> rfl
      · exact hb x hx

theorem TokenBlanks : trommellaw07_TokenBlanks.Pure := by
  intro s n k hs0 wn wk
  obtain ⟨n0, n1⟩ := u8_wf wn
  obtain ⟨k0, k1⟩ := u8_wf wk
  refine ⟨10000, ?_⟩
  unfold trommellaw07_TokenBlanks.f
  by_cases c : (s.size : Int) > 1000
  · rw [if_pos c, live07 _ (by omega), bs]
  · rw [if_neg c, w64 (n := n) (by omega) (by omega), Int.tmod_eq_emod_of_nonneg n0]
    obtain ⟨a, ha⟩ := Int.eq_ofNat_of_zero_le (show 0 ≤ n % 5 by omega)
    rw [ha]
    exact head_true s (by omega) a (by omega) k ⟨k0, k1⟩ a 10000 0 s ⟨⟨#[]⟩, (ByteArray.empty_append).symm, rfl, by intro x hx; exact absurd hx (by show ¬ x ∈ ([] : List Int); simp)⟩ (by omega) (by omega) (by omega)

end Go.Proofs.Ytkoeeplplmiikaa.Pure
