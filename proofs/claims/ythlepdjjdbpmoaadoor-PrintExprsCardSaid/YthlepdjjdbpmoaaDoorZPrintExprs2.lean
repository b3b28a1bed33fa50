-- Written by wip/pack.py, a program of mine: the texts that this law stands on, as far as it uses them; Lean checks it.
import Derived.Test.YthlepdjjdbpmoaaDoorProg
import Derived.Shelf.LaysM
import Derived.Shelf.Strconv.Itoa3
import Derived.Below
import Derived.Deep.Draws
import Derived.Deep.AppendLies
import Derived.Maps.AppendAt
import Derived.OwnWalk
import Derived.Laws.BytesArg
import Derived.Laws.MakeOwn
import Derived.Laws.OwnMore
import Derived.Deep.OwnRows
import Derived.Tactics
import Derived.Lib.ConvBytes
import Derived.Laws.Slices
import Derived.WalkKit
import Derived.KernelRfl
import Derived.RowKit3
import Derived.Deep.LoopGhost
import Derived.Deep.QuietTactic
import Derived.BigQuiet
import Derived.WideLaws
import Derived.Deep.DeepCutAuto
import Derived.Deep.CutBlock
import Derived.Deep.RegionHeld3
import Derived.Laws.Rows
import Derived.Lib.AppendStr
import Derived.ArgAppend
import Derived.Laws.IdiomCopy
import Derived.RowKit
import Derived.OrdersHeld
import Derived.Laws.BitsLemmas
import Derived.Laws.StructEq
import Derived.Laws.CopyOwn
import Derived.Laws.DeepStrings4
import Derived.Laws.RangeAny
import Derived.Laws.RangeString
import Derived.Laws.Tables
import Derived.Lib.BitFns
import Derived.Lib.Hide
import Derived.Lib.ItoaMem
import Derived.Lib.LaidTab
import Derived.Lib.Slices
import Derived.Lib.Small
import Derived.Lib.SmallJoins
import Derived.Lib.Strings
import Derived.Lib.Walk
import Derived.LoopTactic
import Derived.Lib.SliceRun
import Derived.StillTailTactics
import Derived.Outline
import Derived.Defers
import Derived.Test.YthlepdjjdbpmoaaDoorZPrintExprs1
namespace Go.Proofs.YthlepdjjdbpmoaaDoor.PPrintExprs
open Go.RowKit Go.Proofs.YthlepdjjdbpmoaaDoorW.PrintWords Go.Proofs.YthlepdjjdbpmoaaDoorW.PrintLast Go.Proofs.YthlepdjjdbpmoaaDoorW.PrintMore
attribute [local go_sem] max2_int min2_int max_two min_two max_three min_three max_four min_four
set_option linter.unusedVariables false
set_option linter.unusedSimpArgs false
set_option maxRecDepth 100000
set_option maxHeartbeats 4000000
theorem bs {α β : Type} (a : α) (f : α → Option β) : (some a).bind f = f a := (Option.bind_some a f).trans (Eq.refl _)
theorem wt64 {n : Int} (h0 : -9223372036854775808 ≤ n) (h1 : n < 9223372036854775808) : wrap64 n = n := by
  unfold wrap64; omega
def blk (c : Int) : Bool := decide (c = 32) || decide (c = 9) || decide (c = 10) || decide (c = 13)
def ltr (c : Int) : Bool := decide (97 ≤ c ∧ c ≤ 122) || decide (c = 95)
def dgt (c : Int) : Bool := decide (48 ≤ c ∧ c ≤ 57)
theorem blank_is (c : Int) : token_Blank.f c = some (blk c) := by
  unfold token_Blank.f blk
  by_cases h1 : c = 32
  · simp [h1]
  · by_cases h2 : c = 9
    · simp [h2]
    · by_cases h3 : c = 10
      · simp [h3]
      · simp [h1, h2, h3, Bool.beq_eq_decide_eq]
theorem letter_is (c : Int) : token_letter.f c = some (ltr c) := by
  unfold token_letter.f ltr
  by_cases h1 : c ≥ 97
  · by_cases h2 : c ≤ 122
    · rw [if_pos h1, if_pos h2]; congr 1; rw [Bool.eq_iff_iff]; simp; omega
    · rw [if_pos h1, if_neg h2]; congr 1; rw [Bool.eq_iff_iff]; simp; omega
  · rw [if_neg h1]; congr 1; rw [Bool.eq_iff_iff]; simp; omega
theorem digit_is (c : Int) : token_digit.f c = some (dgt c) := by
  unfold token_digit.f dgt
  by_cases h1 : c ≥ 48
  · rw [if_pos h1]; congr 1; rw [Bool.eq_iff_iff]; simp; omega
  · rw [if_neg h1]; congr 1; rw [Bool.eq_iff_iff]; simp; omega
theorem bt_get (s : ByteArray) (i : Nat) (h : i < s.size) : bt s (i : Int) = ((s[i]'h).toNat : Int) := by
  unfold bt
  rw [dif_pos (show ((i : Nat) : Int).toNat < s.size by omega)]
  rfl
def signs : List ByteArray := [⟨#[60, 62]⟩, ⟨#[60, 61]⟩, ⟨#[62, 61]⟩, ⟨#[40]⟩, ⟨#[41]⟩, ⟨#[44]⟩, ⟨#[46]⟩, ⟨#[42]⟩, ⟨#[43]⟩, ⟨#[45]⟩, ⟨#[61]⟩, ⟨#[60]⟩, ⟨#[62]⟩]
def pre (s : ByteArray) (i : Nat) (g : ByteArray) : Bool := decide (i + g.size ≤ s.size) && ((s.extract i (i + g.size)).data.toList == g.data.toList)
def sgn (s : ByteArray) (i : Int) : ByteArray := if i < 0 then ⟨#[]⟩ else (signs.find? (pre s i.toNat)).getD ⟨#[]⟩
theorem rdOf_get {α : Type} (d : α) (l : List α) (j : Nat) (h : j < l.length) : rdOf d l (j : Int) = l[j] := by
  unfold rdOf
  simp [h]
theorem tl (s : ByteArray) : s.toList = s.data.toList := ByteArray.toList_eq s
theorem hasPrefix_is (s : ByteArray) (a : Nat) (ha : a ≤ s.size) (g : ByteArray) : strings_HasPrefix.f (s.extract a s.size) g = some (pre s a g) := by
  have hx : (s.extract a s.size).size = s.size - a := by simp [ByteArray.size_extract]
  have e : stringslite_HasPrefix.f (s.extract a s.size) g = some (pre s a g) := by
    unfold stringslite_HasPrefix.f pre
    rw [hx]
    by_cases h : a + g.size ≤ s.size
    · rw [if_pos (by omega), if_pos (by omega), if_pos (by omega), decide_eq_true h, tl, tl]
      rw [show ((g.size : Int)).toNat = g.size by omega, ByteArray.extract_extract, show min (a + g.size) s.size = a + g.size by omega]
      rfl
    · rw [if_neg (by omega), decide_eq_false h]
      rfl
  unfold strings_HasPrefix.f
  rw [e, bs]
theorem ext_one (s : ByteArray) (i : Nat) (h : i < s.size) : (s.extract i (i + 1)).data.toList = [s[i]'h] := by
  have e : (s.extract i (i + 1)).data.toList = (s.data.toList.drop i).take 1 := by
    simp [ByteArray.data_extract, Array.toList_extract, List.extract]
  rw [e]
  have hl : i < s.data.toList.length := by simpa using h
  rw [List.drop_eq_getElem_cons hl]
  simp
  rfl
theorem ext_is (s : ByteArray) (i : Nat) (b : UInt8) (h : i < s.size) (hb : bt s (i : Int) = (b.toNat : Int)) : s.extract i (i + 1) = ⟨#[b]⟩ := by
  apply ByteArray.ext
  apply Array.ext'
  rw [ext_one s i h]
  rw [bt_get s i h] at hb
  have : s[i]'h = b := UInt8.toNat_inj.mp (by omega)
  rw [this]
theorem pre_one (s : ByteArray) (i : Nat) (b : UInt8) (h : i < s.size) : pre s i ⟨#[b]⟩ = decide (bt s (i : Int) = (b.toNat : Int)) := by
  unfold pre
  have e1 : (⟨#[b]⟩ : ByteArray).size = 1 := rfl
  rw [e1, decide_eq_true (show i + 1 ≤ s.size by omega), ext_one s i h, bt_get s i h]
  by_cases c : s[i]'h = b
  · rw [c]
    simp
  · have c2 : ¬ ((s[i]'h).toNat : Int) = (b.toNat : Int) := by
      intro h2
      exact c (UInt8.toNat_inj.mp (by omega))
    rw [decide_eq_false c2]
    simp [c]
def ones : List UInt8 := [40, 41, 44, 46, 42, 43, 45, 61, 60, 62]
def sing (s : ByteArray) (i : Nat) : List UInt8 → ByteArray
  | [] => ⟨#[]⟩
  | b :: r => if bt s (i : Int) = (b.toNat : Int) then ⟨#[b]⟩ else sing s i r
theorem find_ones (s : ByteArray) (i : Nat) (h : i < s.size) (l : List UInt8) : ((l.map fun b => (⟨#[b]⟩ : ByteArray)).find? (pre s i)).getD ⟨#[]⟩ = sing s i l := by
  induction l with
  | nil => rfl
  | cons b r ih =>
    rw [List.map_cons, List.find?_cons, pre_one s i b h]
    unfold sing
    by_cases c : bt s (i : Int) = (b.toNat : Int)
    · rw [decide_eq_true c, if_pos c]
      rfl
    · rw [decide_eq_false c, if_neg c]
      exact ih
theorem find_past (s : ByteArray) (i : Nat) (h : s.size ≤ i) : signs.find? (pre s i) = none := by
  rw [List.find?_eq_none]
  intro g hg hp
  have hp2 : i + g.size ≤ s.size := by
    unfold pre at hp
    simp at hp
    exact hp.1
  have hgs : 1 ≤ g.size := by
    unfold signs at hg
    simp only [List.mem_cons, List.not_mem_nil, or_false] at hg
    rcases hg with rfl | rfl | rfl | rfl | rfl | rfl | rfl | rfl | rfl | rfl | rfl | rfl | rfl <;> decide
  omega
def twos : List ByteArray := [⟨#[60, 62]⟩, ⟨#[60, 61]⟩, ⟨#[62, 61]⟩]
theorem signs_split : signs = twos ++ ones.map fun b => (⟨#[b]⟩ : ByteArray) := rfl
theorem find_signs (s : ByteArray) (i : Nat) (h : i < s.size) : (signs.find? (pre s i)).getD ⟨#[]⟩ = (twos.find? (pre s i)).getD (sing s i ones) := by
  rw [signs_split, List.find?_append]
  cases hq : twos.find? (pre s i) with
  | none => simpa using find_ones s i h ones
  | some g => rfl
theorem sign_last (s : ByteArray) (hs : s.size ≤ 140737488355328) (i : Nat) (h : i < s.size) (l : List ByteArray) (k : Nat) (j : Nat) (hj : l.length ≤ j) (hk : 0 < k) : token_Sign.l0 k s i l (l.length : Int) (j : Int) = some (sing s i ones) := by
  obtain ⟨k, rfl⟩ : ∃ m, k = m + 1 := ⟨k - 1, by omega⟩
  have e : wrap64 ((i : Int) + 1) = ((i + 1 : Nat) : Int) := by rw [wt64 (by omega) (by omega)]; omega
  simp only [token_Sign.l0]
  rw [if_neg (show ¬ (j : Int) < (l.length : Int) by omega), if_pos (show (0 : Int) ≤ (i : Int) by omega), if_pos (show (i : Int) < (s.size : Int) by omega), e]
  simp only [if_pos (show (i : Int) ≤ ((i + 1 : Nat) : Int) by omega), if_pos (show ((i + 1 : Nat) : Int) ≤ (s.size : Int) by omega), Int.toNat_natCast]
  unfold ones sing sing sing sing sing sing sing sing sing sing sing
  have step : ∀ (n : Int) (b : UInt8) (x y : ByteArray), n = (b.toNat : Int) → x = y → (if bt s (i : Int) = n then some (s.extract i (i + 1)) else some x) = some (if bt s (i : Int) = (b.toNat : Int) then (⟨#[b]⟩ : ByteArray) else y) := by
    intro n b x y hn hxy
    subst hn; subst hxy
    by_cases c : bt s (i : Int) = (b.toNat : Int)
    · rw [if_pos c, if_pos c, ext_is s i b h c]
    · rw [if_neg c, if_neg c]
  have step2 : ∀ (n : Int) (b : UInt8) (x : Option ByteArray) (y : ByteArray), n = (b.toNat : Int) → x = some y → (if bt s (i : Int) = n then some (s.extract i (i + 1)) else x) = some (if bt s (i : Int) = (b.toNat : Int) then (⟨#[b]⟩ : ByteArray) else y) := by
    intro n b x y hn hxy
    subst hxy
    exact step n b y y hn rfl
  refine step2 40 40 _ _ rfl ?_
  refine step2 41 41 _ _ rfl ?_
  refine step2 44 44 _ _ rfl ?_
  refine step2 46 46 _ _ rfl ?_
  refine step2 42 42 _ _ rfl ?_
  refine step2 43 43 _ _ rfl ?_
  refine step2 45 45 _ _ rfl ?_
  refine step2 61 61 _ _ rfl ?_
  refine step2 60 60 _ _ rfl ?_
  refine step2 62 62 _ _ rfl ?_
  rfl
theorem sign_l0 (s : ByteArray) (hs : s.size ≤ 140737488355328) (i : Nat) (h : i < s.size) (l : List ByteArray) (hl : l.length ≤ 20) (d : Nat) : ∀ (k j : Nat), l.length - j = d → j ≤ l.length → d < k →
    token_Sign.l0 k s i l (l.length : Int) (j : Int) = some (((l.drop j).find? (pre s i)).getD (sing s i ones)) := by
  induction d with
  | zero =>
    intro k j hd hj hk
    rw [sign_last s hs i h l k j (by omega) (by omega), List.drop_of_length_le (by omega)]
    rfl
  | succ d ih =>
    intro k j hd hj hk
    obtain ⟨k, rfl⟩ : ∃ m, k = m + 1 := ⟨k - 1, by omega⟩
    have hjl : j < l.length := by omega
    have e1 : wrap64 ((j : Int) + 1) = ((j + 1 : Nat) : Int) := by rw [wt64 (by omega) (by omega)]; omega
    have hn := ih k (j + 1) (by omega) (by omega) (by omega)
    simp only [token_Sign.l0]
    rw [if_pos (show (j : Int) < (l.length : Int) by omega), if_pos (show (0 : Int) ≤ (j : Int) by omega), if_pos (show (j : Int) < (l.length : Int) by omega), if_pos (show (0 : Int) ≤ (i : Int) by omega), if_pos (show (i : Int) ≤ (s.size : Int) by omega), rdOf_get _ l j hjl, Int.toNat_natCast, hasPrefix_is s i (by omega), bs, e1, hn, List.drop_eq_getElem_cons hjl, List.find?_cons]
    cases pre s i l[j] <;> rfl
theorem sign_is (s : ByteArray) (hs : s.size ≤ 140737488355328) (at_ : Int) (k : Nat) (hk : 6 ≤ k) : token_Sign.f k s at_ = some (sgn s at_) := by
  obtain ⟨k, rfl⟩ : ∃ m, k = m + 1 := ⟨k - 1, by omega⟩
  unfold token_Sign.f sgn
  by_cases h0 : at_ < 0
  · rw [if_pos h0, if_pos h0]
    simp only [token_Sign.j0]
    rfl
  · rw [if_neg h0, if_neg h0]
    obtain ⟨i, rfl⟩ := Int.eq_ofNat_of_zero_le (by omega : 0 ≤ at_)
    rw [Int.toNat_natCast]
    by_cases h1 : (i : Int) ≥ (s.size : Int)
    · rw [decide_eq_true h1, find_past s i (by omega)]
      simp only [token_Sign.j0]
      rfl
    · rw [decide_eq_false h1, find_signs s i (by omega)]
      simp only [token_Sign.j0, bs]
      have := sign_l0 s hs i (by omega) twos (by decide) 3 k 0 rfl (by omega) (by omega)
      exact this
def words : List ByteArray := [⟨#[115, 101, 108, 101, 99, 116]⟩, ⟨#[102, 114, 111, 109]⟩, ⟨#[106, 111, 105, 110]⟩, ⟨#[108, 101, 102, 116]⟩, ⟨#[115, 101, 109, 105]⟩, ⟨#[97, 110, 116, 105]⟩, ⟨#[111, 110]⟩, ⟨#[119, 104, 101, 114, 101]⟩, ⟨#[103, 114, 111, 117, 112]⟩, ⟨#[98, 121]⟩, ⟨#[97, 115]⟩, ⟨#[97, 110, 100]⟩, ⟨#[111, 114]⟩, ⟨#[110, 111, 116]⟩, ⟨#[105, 115]⟩, ⟨#[110, 117, 108, 108]⟩, ⟨#[99, 111, 117, 110, 116]⟩, ⟨#[115, 117, 109]⟩, ⟨#[109, 105, 110]⟩, ⟨#[109, 97, 120]⟩]
def wrd (s : ByteArray) : Bool := words.any fun g => decide (g.data.toList = s.data.toList)
theorem word_is (s : ByteArray) (k : Nat) (hk : 2 ≤ k) : schema_Word.f k s = some (wrd s) := by
  obtain ⟨k, rfl⟩ : ∃ m, k = m + 1 := ⟨k - 1, by omega⟩
  unfold wrd words
  have hd : ∀ (a : List UInt8), decide (a = s.data.toList) = decide (s.data.toList = a) := fun a => by
    by_cases c : a = s.data.toList
    · rw [decide_eq_true c, decide_eq_true c.symm]
    · rw [decide_eq_false c, decide_eq_false (fun h => c h.symm)]
  simp only [List.any_cons, List.any_nil, hd, Bool.or_false]
  unfold schema_Word.f
  simp only [schema_Word.j0, tl]
  generalize s.data.toList = L
  by_cases h0 : L = [115, 101, 108, 101, 99, 116]
  · simp [h0]
  by_cases h1 : L = [102, 114, 111, 109]
  · simp [h1]
  by_cases h2 : L = [106, 111, 105, 110]
  · simp [h2]
  by_cases h3 : L = [108, 101, 102, 116]
  · simp [h3]
  by_cases h4 : L = [115, 101, 109, 105]
  · simp [h4]
  by_cases h5 : L = [97, 110, 116, 105]
  · simp [h5]
  by_cases h6 : L = [111, 110]
  · simp [h6]
  by_cases h7 : L = [119, 104, 101, 114, 101]
  · simp [h7]
  by_cases h8 : L = [103, 114, 111, 117, 112]
  · simp [h8]
  by_cases h9 : L = [98, 121]
  · simp [h9]
  by_cases h10 : L = [97, 115]
  · simp [h10]
  by_cases h11 : L = [97, 110, 100]
  · simp [h11]
  by_cases h12 : L = [111, 114]
  · simp [h12]
  by_cases h13 : L = [110, 111, 116]
  · simp [h13]
  by_cases h14 : L = [105, 115]
  · simp [h14]
  by_cases h15 : L = [110, 117, 108, 108]
  · simp [h15]
  by_cases h16 : L = [99, 111, 117, 110, 116]
  · simp [h16]
  by_cases h17 : L = [115, 117, 109]
  · simp [h17]
  by_cases h18 : L = [109, 105, 110]
  · simp [h18]
  by_cases h19 : L = [109, 97, 120]
  · simp [h19]
  simp [h0, h1, h2, h3, h4, h5, h6, h7, h8, h9, h10, h11, h12, h13, h14, h15, h16, h17, h18, h19]
def stp (p : Int → Bool) (s : ByteArray) : Nat → Nat → Nat
  | 0, i => i
  | d + 1, i => if p (bt s (i : Int)) then stp p s d (i + 1) else i
theorem stp_succ (p : Int → Bool) (s : ByteArray) (d i : Nat) : stp p s (d + 1) i = if p (bt s (i : Int)) then stp p s d (i + 1) else i := rfl
theorem stp_ge (p : Int → Bool) (s : ByteArray) (d : Nat) : ∀ i, i ≤ stp p s d i := by
  induction d with
  | zero => intro i; exact Nat.le_refl _
  | succ d ih =>
    intro i
    unfold stp
    split
    · exact Nat.le_trans (Nat.le_succ i) (ih (i + 1))
    · exact Nat.le_refl _
theorem stp_le (p : Int → Bool) (s : ByteArray) (d : Nat) : ∀ i, stp p s d i ≤ i + d := by
  induction d with
  | zero => intro i; exact Nat.le_refl _
  | succ d ih =>
    intro i
    unfold stp
    split
    · have := ih (i + 1); omega
    · omega
def nmb (c : Int) : Bool := ltr c || dgt c
theorem nb_is : token_name.nb = nmb := by
  funext c
  unfold token_name.nb nmb ltr dgt
  rfl
theorem stop_is (s : ByteArray) (d : Nat) : ∀ i, token_name.stop s d i = stp nmb s d i := by
  induction d with
  | zero => intro i; rfl
  | succ d ih =>
    intro i
    unfold token_name.stop stp
    rw [nb_is, ih]
def nameR (s : ByteArray) (at0 : Int) (i e : Nat) : Int × ByteArray × Int × Int × Int × Int :=
  if (e : Int) - i > 32 then (0, ⟨#[]⟩, 0, 0, at0, 1)
  else if wrd (s.extract i e) then (2, s.extract i e, 0, i, e, 0) else (1, s.extract i e, 0, i, e, 0)
theorem name_is (s : ByteArray) (hs : s.size ≤ 140737488355328) (i : Nat) (hi : i ≤ s.size) (k : Nat) (hk : 2 ≤ k) : token_name.f k s i = some (nameR s i i (stp nmb s (s.size - i) i)) := by
  unfold token_name.f nameR
  rw [if_pos ⟨by omega, by omega, by omega⟩, Int.toNat_natCast, stop_is]
  have h1 := stp_ge nmb s (s.size - i) i
  have h2 := stp_le nmb s (s.size - i) i
  generalize stp nmb s (s.size - i) i = e at *
  by_cases c : (e : Int) - (i : Int) > 32
  · rw [if_pos c, if_pos c]
  · rw [if_neg c, if_neg c, word_is _ k hk, bs]
    cases wrd (s.extract i e) <;> rfl
def nv (s : ByteArray) : Nat → Nat → Int → Option Int
  | 0, _, v => some v
  | d + 1, i, v => if v > (9223372036854775807 - (bt s (i : Int) - 48)) / 10 then none else nv s d (i + 1) (10 * v + (bt s (i : Int) - 48))
theorem nv_succ (s : ByteArray) (d i : Nat) (v : Int) : nv s (d + 1) i v = if v > (9223372036854775807 - (bt s (i : Int) - 48)) / 10 then none else nv s d (i + 1) (10 * v + (bt s (i : Int) - 48)) := rfl
def numE (s : ByteArray) (at0 : Int) (i e : Nat) : Option Int → Int × ByteArray × Int × Int × Int × Int
  | none => (0, ⟨#[]⟩, 0, 0, at0, 1)
  | some n => if e < s.size ∧ ltr (bt s (e : Int)) = true then (0, ⟨#[]⟩, 0, 0, at0, 1) else (3, s.extract i e, n, i, e, 0)
def numR (s : ByteArray) (at0 : Int) (i j e : Nat) (v : Int) : Int × ByteArray × Int × Int × Int × Int := numE s at0 i e (nv s (e - j) j v)
theorem dgt_range {c : Int} (h : dgt c = true) : 48 ≤ c ∧ c ≤ 57 := by
  unfold dgt at h
  exact of_decide_eq_true h
theorem number_stop (s : ByteArray) (hs : s.size ≤ 140737488355328) (i j : Nat) (hi : i ≤ j) (hj : j ≤ s.size) (v : Int) (k : Nat) (hk : 0 < k) : token_number.j1 k s i v (j : Int) false = some (numR s i i j j v) := by
  obtain ⟨k, rfl⟩ : ∃ m, k = m + 1 := ⟨k - 1, by omega⟩
  simp only [token_number.j1]
  unfold numR
  rw [Nat.sub_self]
  unfold nv numE
  simp only [Bool.false_eq_true, if_false]
  by_cases c : j < s.size
  · rw [if_pos (show (j : Int) < (s.size : Int) by omega), if_pos (show (0 : Int) ≤ (j : Int) by omega), letter_is, bs]
    by_cases l : ltr (bt s (j : Int)) = true
    · rw [if_pos l, if_pos ⟨c, l⟩]
    · rw [if_neg l, if_pos (show (0 : Int) ≤ (i : Int) by omega), if_pos (show (i : Int) ≤ (j : Int) by omega), if_pos (show (j : Int) ≤ (s.size : Int) by omega), if_neg (show ¬ (j < s.size ∧ ltr (bt s (j : Int)) = true) from fun h => l h.2)]
      rfl
  · rw [if_neg (show ¬ (j : Int) < (s.size : Int) by omega), if_pos (show (0 : Int) ≤ (i : Int) by omega), if_pos (show (i : Int) ≤ (j : Int) by omega), if_pos (show (j : Int) ≤ (s.size : Int) by omega), if_neg (show ¬ (j < s.size ∧ ltr (bt s (j : Int)) = true) from fun h => c h.1)]
    rfl
theorem number_l0 (s : ByteArray) (hs : s.size ≤ 140737488355328) (i : Nat) (d : Nat) : ∀ (k j : Nat) (v : Int), s.size - j = d → j ≤ s.size → i ≤ j → 0 ≤ v → v ≤ 9223372036854775807 → 2 * d + 3 < k →
    token_number.l0 k s i v (j : Int) = some (numR s i i j (stp dgt s d j) v) := by
  induction d with
  | zero =>
    intro k j v hd hj hi h0 h1 hk
    obtain ⟨k, rfl⟩ : ∃ m, k = m + 1 := ⟨k - 1, by omega⟩
    simp only [token_number.l0]
    rw [if_neg (by omega), number_stop s hs i j hi hj v k (by omega)]
    rfl
  | succ d ih =>
    intro k j v hd hj hi h0 h1 hk
    obtain ⟨k, rfl⟩ : ∃ m, k = m + 2 := ⟨k - 2, by omega⟩
    simp only [token_number.l0]
    rw [if_pos (show (j : Int) < (s.size : Int) by omega), if_pos (show (0 : Int) ≤ (j : Int) by omega), digit_is, bs]
    cases hq : dgt (bt s (j : Int)) with
    | false =>
      rw [number_stop s hs i j hi hj v (k + 1) (by omega), stp_succ, hq]
      rfl
    | true =>
      obtain ⟨b0, b1⟩ := dgt_range hq
      have e0 : (bt s (j : Int) - 48) % 256 = bt s (j : Int) - 48 := by omega
      have e1 : wrap64 ((j : Int) + 1) = ((j + 1 : Nat) : Int) := by rw [wt64 (by omega) (by omega)]; omega
      have ge := stp_ge dgt s d (j + 1)
      simp only [token_number.j1, if_true]
      rw [if_pos (show (0 : Int) ≤ (j : Int) by omega), if_pos (show (j : Int) < (s.size : Int) by omega), e0, stp_succ, hq, if_pos rfl]
      unfold numR
      rw [show stp dgt s d (j + 1) - j = (stp dgt s d (j + 1) - (j + 1)) + 1 by omega, nv_succ]
      by_cases c : v > (9223372036854775807 - (bt s (j : Int) - 48)) / 10
      · rw [if_pos c, if_pos c]
        rfl
      · have c2 : 10 * v + (bt s (j : Int) - 48) ≤ 9223372036854775807 := by omega
        rw [if_neg c, if_neg c, wt64 (n := 10 * v) (by omega) (by omega), wt64 (by omega) (by omega), e1, ih k (j + 1) _ (by omega) (by omega) (by omega) (by omega) (by omega) (by omega)]
        rfl
theorem number_is (s : ByteArray) (hs : s.size ≤ 140737488355328) (i : Nat) (hi : i ≤ s.size) (k : Nat) (hk : 2 * s.size + 3 < k) : token_number.f k s i = some (numR s i i i (stp dgt s (s.size - i) i) 0) := by
  unfold token_number.f
  exact number_l0 s hs i (s.size - i) k i 0 rfl hi (by omega) (by omega) (by omega) (by omega)
def okv : Option Int → Int × Bool
  | none => (0, false)
  | some n => (n, true)
theorem stp_all (p : Int → Bool) (s : ByteArray) (d : Nat) : ∀ i q, i ≤ q → q < stp p s d i → p (bt s (q : Int)) = true := by
  induction d with
  | zero =>
    intro i q h1 h2
    have h3 : q < i := h2
    omega
  | succ d ih =>
    intro i q h1 h2
    rw [stp_succ] at h2
    by_cases c : p (bt s (i : Int)) = true
    · rw [if_pos c] at h2
      by_cases hq : q = i
      · rw [hq]; exact c
      · exact ih (i + 1) q (by omega) h2
    · rw [if_neg c] at h2
      omega
def tx (s : ByteArray) : Nat → Nat → List Int → Int × List Int × Nat
  | 0, _, _ => (1, [], 0)
  | d + 1, i, acc => if i < s.size then (if bt s (i : Int) = 39 then (if i + 1 < s.size ∧ bt s ((i + 1 : Nat) : Int) = 39 then tx s d (i + 2) (acc ++ [39]) else if acc.length > 65536 then (4, [], 0) else (0, acc, i + 1)) else tx s d (i + 1) (acc ++ [bt s (i : Int)])) else (1, [], 0)
theorem tx_succ (s : ByteArray) (d i : Nat) (acc : List Int) : tx s (d + 1) i acc = if i < s.size then (if bt s (i : Int) = 39 then (if i + 1 < s.size ∧ bt s ((i + 1 : Nat) : Int) = 39 then tx s d (i + 2) (acc ++ [39]) else if acc.length > 65536 then (4, [], 0) else (0, acc, i + 1)) else tx s d (i + 1) (acc ++ [bt s (i : Int)])) else (1, [], 0) := rfl
def txR (at0 : Int) (i : Nat) (r : Int × List Int × Nat) : Int × ByteArray × Int × Int × Int × Int :=
  if r.1 = 0 then (4, strOfNums r.2.1, 0, i, r.2.2, 0) else (0, ⟨#[]⟩, 0, 0, at0, r.1)
theorem text_l0 (s : ByteArray) (hs : s.size ≤ 140737488355328) (i : Nat) (d : Nat) : ∀ (k j : Nat) (acc : List Int), s.size + 1 - j ≤ d → j ≤ s.size + 1 → acc.length ≤ j → 2 * d + 2 < k →
    token_text.l0 k s i acc (j : Int) = some (txR i i (tx s d j acc)) := by
  induction d with
  | zero =>
    intro k j acc hd hj ha hk
    obtain ⟨k, rfl⟩ : ∃ m, k = m + 1 := ⟨k - 1, by omega⟩
    simp only [token_text.l0]
    rw [if_neg (by omega)]
    rfl
  | succ d ih =>
    intro k j acc hd hj ha hk
    obtain ⟨k, rfl⟩ : ∃ m, k = m + 2 := ⟨k - 2, by omega⟩
    simp only [token_text.l0]
    rw [tx_succ]
    by_cases c : j < s.size
    · have e1 : wrap64 ((j : Int) + 1) = ((j + 1 : Nat) : Int) := by rw [wt64 (by omega) (by omega)]; omega
      have e2 : wrap64 (((j + 1 : Nat) : Int) + 1) = ((j + 2 : Nat) : Int) := by rw [wt64 (by omega) (by omega)]; omega
      have e3 : wrap64 ((j : Int) + 2) = ((j + 2 : Nat) : Int) := by rw [wt64 (by omega) (by omega)]; omega
      have sz : (strOfNums acc).size = acc.length := strOfNums_size acc
      rw [if_pos (show (j : Int) < (s.size : Int) by omega), if_pos (show (0 : Int) ≤ (j : Int) by omega), if_pos c, e1]
      by_cases q : bt s (j : Int) = 39
      · rw [if_pos q, if_pos q]
        have endq : token_text.j1 (k + 1) s i acc (j : Int) false = some (txR i i (if acc.length > 65536 then (4, [], 0) else (0, acc, j + 1))) := by
          simp only [token_text.j1, Bool.false_eq_true, if_false]
          rw [e1]
          by_cases l : acc.length > 65536
          · rw [if_pos (show (acc.length : Int) > 65536 by omega), if_pos l]
            rfl
          · rw [if_neg (show ¬ (acc.length : Int) > 65536 by omega), if_neg l]
            rfl
        by_cases c2 : j + 1 < s.size
        · rw [if_pos (show ((j + 1 : Nat) : Int) < (s.size : Int) by omega), if_pos (show (0 : Int) ≤ ((j + 1 : Nat) : Int) by omega)]
          by_cases q2 : bt s ((j + 1 : Nat) : Int) = 39
          · rw [beq_iff_eq.mpr q2, if_pos ⟨c2, q2⟩]
            simp only [token_text.j1, if_true]
            rw [if_pos (show acc.length < 140737488355328 by omega), e1, e2]
            exact ih k (j + 2) (acc ++ [39]) (by omega) (by omega) (by simp; omega) (by omega)
          · rw [beq_eq_false_iff_ne.mpr q2, if_neg (fun h => q2 h.2)]
            exact endq
        · rw [if_neg (show ¬ ((j + 1 : Nat) : Int) < (s.size : Int) by omega), if_neg (fun h => c2 h.1)]
          exact endq
      · have sz1 : (s.extract j (j + 1)).size = 1 := by rw [ByteArray.size_extract]; omega
        rw [if_neg q, if_neg q, if_pos (show acc.length < 140737488355328 by omega)]
        exact ih (k + 1) (j + 1) (acc ++ [bt s (j : Int)]) (by omega) (by omega) (by simp; omega) (by omega)
    · rw [if_neg (show ¬ (j : Int) < (s.size : Int) by omega), if_neg c]
      rfl
def strip (from_ : Int) (r : Int × ByteArray × Int × Int × Int × Int) : Int × ByteArray × Int × Int × Int × Int :=
  if r.2.2.2.2.2 = 0 then (r.1, r.2.1, r.2.2.1, r.2.2.2.1, r.2.2.2.2.1, 0) else (0, ⟨#[]⟩, 0, 0, from_, r.2.2.2.2.2)
def tokR (s : ByteArray) (from_ : Int) (i : Nat) : Int × ByteArray × Int × Int × Int × Int :=
  if i = s.size then (0, ⟨#[]⟩, 0, i, i, 0)
  else if ltr (bt s (i : Int)) then nameR s from_ i (stp nmb s (s.size - i) i)
  else if dgt (bt s (i : Int)) then numR s from_ i i (stp dgt s (s.size - i) i) 0
  else if bt s (i : Int) = 39 then txR from_ i (tx s s.size (i + 1) [])
  else if (sgn s i).data.toList = [] then (0, ⟨#[]⟩, 0, 0, from_, 1) else (5, sgn s i, 0, i, (i : Int) + (sgn s i).size, 0)
def clamp (s : ByteArray) (a : Int) : Nat := if a < 0 then 0 else if a > s.size then s.size else a.toNat
def oneR (s : ByteArray) (a : Int) : Int × ByteArray × Int × Int × Int × Int := tokR s (clamp s a) (stp blk s (s.size - clamp s a) (clamp s a))
theorem strip_name (s : ByteArray) (f : Int) (i e : Nat) : strip f (nameR s i i e) = nameR s f i e := by
  unfold nameR
  by_cases c : (e : Int) - (i : Int) > 32
  · rw [if_pos c, if_pos c]; rfl
  · rw [if_neg c, if_neg c]
    cases wrd (s.extract i e) <;> rfl
theorem strip_num (s : ByteArray) (f : Int) (i j e : Nat) (v : Int) : strip f (numR s i i j e v) = numR s f i j e v := by
  unfold numR
  cases nv s (e - j) j v with
  | none => rfl
  | some n =>
    unfold numE
    by_cases c : e < s.size ∧ ltr (bt s (e : Int)) = true
    · simp only [if_pos c]; rfl
    · simp only [if_neg c]; rfl
theorem strip_tx (f : Int) (i : Nat) (r : Int × List Int × Nat) : strip f (txR i i r) = txR f i r := by
  unfold txR
  by_cases c : r.1 = 0
  · rw [if_pos c, if_pos c]; rfl
  · rw [if_neg c, if_neg c]
    unfold strip
    rw [if_neg c]
theorem sgn_size (s : ByteArray) (i : Int) : (sgn s i).size ≤ 2 := by
  unfold sgn
  split
  · decide
  · cases h : signs.find? (pre s i.toNat) with
    | none => decide
    | some g =>
      have hg := List.mem_of_find?_eq_some h
      unfold signs at hg
      simp only [List.mem_cons, List.not_mem_nil, or_false] at hg
      rcases hg with rfl | rfl | rfl | rfl | rfl | rfl | rfl | rfl | rfl | rfl | rfl | rfl | rfl <;> decide
theorem one_j1 (s : ByteArray) (hs : s.size ≤ 140737488355328) (f : Int) (i : Nat) (hi : i ≤ s.size) (k : Nat) (hk : 2 * s.size + 10 < k) : token_One.j1 k s f i = some (tokR s f i) := by
  obtain ⟨k, rfl⟩ : ∃ m, k = m + 1 := ⟨k - 1, by omega⟩
  simp only [token_One.j1]
  rw [sign_is s hs i k (by omega), bs]
  unfold tokR
  by_cases c : i = s.size
  · rw [if_pos (show (i : Int) = (s.size : Int) by omega), if_pos c]
  · rw [if_neg (show ¬ (i : Int) = (s.size : Int) by omega), if_neg c, if_pos (show (0 : Int) ≤ (i : Int) by omega), if_pos (show (i : Int) < (s.size : Int) by omega), letter_is, bs]
    by_cases l : ltr (bt s (i : Int)) = true
    · rw [if_pos l, if_pos l, name_is s hs i hi k (by omega), bs, ← strip_name s f i (stp nmb s (s.size - i) i)]
      unfold strip
      split <;> rfl
    · rw [if_neg l, if_neg l, digit_is, bs]
      by_cases g : dgt (bt s (i : Int)) = true
      · rw [if_pos g, if_pos g, number_is s hs i hi k (by omega), bs, ← strip_num s f i i (stp dgt s (s.size - i) i) 0]
        unfold strip
        split <;> rfl
      · rw [if_neg g, if_neg g]
        by_cases q : bt s (i : Int) = 39
        · have e1 : wrap64 ((i : Int) + 1) = ((i + 1 : Nat) : Int) := by rw [wt64 (by omega) (by omega)]; omega
          have ht2 := text_l0 s hs i s.size k (i + 1) [] (by omega) (by omega) (by simp) (by omega)
          rw [if_pos q, if_pos q]
          unfold token_text.f
          rw [e1, ht2, bs, ← strip_tx f i (tx s s.size (i + 1) [])]
          unfold strip
          split <;> rfl
        · rw [if_neg q, if_neg q, tl]
          by_cases z : (sgn s (i : Int)).data.toList = []
          · rw [if_pos z, if_pos z]
          · have := sgn_size s (i : Int)
            rw [if_neg z, if_neg z, wt64 (by omega) (by omega)]
theorem one_l0 (s : ByteArray) (hs : s.size ≤ 140737488355328) (f : Int) (d : Nat) : ∀ (k i : Nat), s.size - i = d → i ≤ s.size → d + 2 * s.size + 11 < k →
    token_One.l0 k s f (i : Int) = some (tokR s f (stp blk s d i)) := by
  induction d with
  | zero =>
    intro k i hd hi hk
    obtain ⟨k, rfl⟩ : ∃ m, k = m + 1 := ⟨k - 1, by omega⟩
    simp only [token_One.l0]
    rw [if_neg (by omega), one_j1 s hs f i hi k (by omega)]
    rfl
  | succ d ih =>
    intro k i hd hi hk
    obtain ⟨k, rfl⟩ : ∃ m, k = m + 1 := ⟨k - 1, by omega⟩
    have e1 : wrap64 ((i : Int) + 1) = ((i + 1 : Nat) : Int) := by rw [wt64 (by omega) (by omega)]; omega
    simp only [token_One.l0]
    rw [if_pos (show (i : Int) < (s.size : Int) by omega), if_pos (show (0 : Int) ≤ (i : Int) by omega), blank_is, bs, e1, stp_succ, ih k (i + 1) (by omega) (by omega) (by omega), one_j1 s hs f i hi k (by omega)]
    cases blk (bt s (i : Int)) <;> rfl
theorem clamp_le (s : ByteArray) (a : Int) : clamp s a ≤ s.size := by
  unfold clamp
  split
  · omega
  · split <;> omega
theorem one_is (s : ByteArray) (hs : s.size ≤ 140737488355328) (a : Int) (k : Nat) (hk : 3 * s.size + 20 < k) : token_One.f k s a = some (oneR s a) := by
  have e : mn (mx a 0) (s.size : Int) = (clamp s a : Int) := by
    unfold mn mx clamp
    split <;> split <;> (try split) <;> omega
  have hc := clamp_le s a
  unfold token_One.f
  rw [e]
  exact one_l0 s hs _ (s.size - clamp s a) k (clamp s a) rfl hc (by omega)
def mkT (r : Int × ByteArray × Int × Int × Int × Int) : S142 := ⟨r.1, r.2.1, r.2.2.1, r.2.2.2.1⟩
def allR (s : ByteArray) : Nat → List S142 → Int → List S142 × Int
  | 0, _, _ => ([], 4)
  | n + 1, acc, a => if (oneR s a).2.2.2.2.2 = 0 then (if (oneR s a).1 = 0 then (acc ++ [mkT (oneR s a)], 0) else allR s n (acc ++ [mkT (oneR s a)]) (oneR s a).2.2.2.2.1) else ([], (oneR s a).2.2.2.2.2)
theorem allR_succ (s : ByteArray) (n : Nat) (acc : List S142) (a : Int) : allR s (n + 1) acc a = if (oneR s a).2.2.2.2.2 = 0 then (if (oneR s a).1 = 0 then (acc ++ [mkT (oneR s a)], 0) else allR s n (acc ++ [mkT (oneR s a)]) (oneR s a).2.2.2.2.1) else ([], (oneR s a).2.2.2.2.2) := rfl
theorem all_l0 (s : ByteArray) (hs : s.size ≤ 140737488355328) (n : Nat) : ∀ (k : Nat) (acc : List S142) (a : Int), acc.length + n = 1000 → n + 3 * s.size + 60 < k → token_All.l0 k s acc a = some (allR s n acc a) := by
  induction n with
  | zero =>
    intro k acc a h hk
    obtain ⟨k, rfl⟩ : ∃ m, k = m + 1 := ⟨k - 1, by omega⟩
    simp only [token_All.l0]
    rw [if_neg (by omega)]
    rfl
  | succ n ih =>
    intro k acc a h hk
    obtain ⟨k, rfl⟩ : ∃ m, k = m + 1 := ⟨k - 1, by omega⟩
    simp only [token_All.l0]
    rw [if_pos (show (acc.length : Int) < 1000 by omega), one_is s hs a k (by omega), bs, allR_succ]
    generalize oneR s a = r
    by_cases c : r.2.2.2.2.2 = 0
    · rw [if_pos c, if_pos c, if_pos (show acc.length < 3518437208883 by omega), bs, ih k _ _ (by simp; omega) (by omega)]
      by_cases c2 : r.1 = 0
      · rw [if_pos c2, if_pos c2]
        rfl
      · rw [if_neg c2, if_neg c2]
        rfl
    · rw [if_neg c, if_neg c]
theorem all_is (s : ByteArray) (hs : s.size ≤ 140737488355328) (k : Nat) (hk : 3 * s.size + 1100 < k) : token_All.f k s = some (allR s 1000 [] 0) := by
  unfold token_All.f
  exact all_l0 s hs 1000 k [] 0 rfl (by omega)
theorem allR_len (s : ByteArray) (n : Nat) : ∀ (acc : List S142) (a : Int), (allR s n acc a).1.length ≤ acc.length + n := by
  induction n with
  | zero => intro acc a; simp [allR]
  | succ n ih =>
    intro acc a
    rw [allR_succ]
    split
    · split
      · simp
      · have := ih (acc ++ [mkT (oneR s a)]) (oneR s a).2.2.2.2.1
        simp at this
        omega
    · simp
end Go.Proofs.YthlepdjjdbpmoaaDoor.PPrintExprs
namespace Go.Proofs.YthlepdjjdbpmoaaDoor.PPrintExprs
open Go.RowKit Go.Proofs.YthlepdjjdbpmoaaDoorW.PrintWords Go.Proofs.YthlepdjjdbpmoaaDoorW.PrintLast Go.Proofs.YthlepdjjdbpmoaaDoorW.PrintMore
attribute [local go_sem] max2_int min2_int max_two min_two max_three min_three max_four min_four
set_option linter.unusedVariables false
set_option linter.unusedSimpArgs false
set_option maxRecDepth 100000
set_option maxHeartbeats 4000000
def Has (s : ByteArray) (a : Nat) (B : List UInt8) : Prop := a + B.length ≤ s.size ∧ ∀ (j : Nat) (h : j < B.length), bt s ((a + j : Nat) : Int) = ((B[j]).toNat : Int)
theorem Has.left {s : ByteArray} {a : Nat} {B C : List UInt8} (h : Has s a (B ++ C)) : Has s a B := by
  refine ⟨by have := h.1; rw [List.length_append] at this; omega, fun j hj => ?_⟩
  rw [h.2 j (by rw [List.length_append]; omega), List.getElem_append_left hj]
theorem Has.right {s : ByteArray} {a : Nat} {B C : List UInt8} (h : Has s a (B ++ C)) : Has s (a + B.length) C := by
  refine ⟨by have := h.1; rw [List.length_append] at this; omega, fun j hj => ?_⟩
  have := h.2 (B.length + j) (by rw [List.length_append]; omega)
  rw [show a + B.length + j = a + (B.length + j) by omega, this, List.getElem_append_right (by omega)]
  simp
theorem has_self (s : ByteArray) : Has s 0 s.data.toList := by
  have e : s.data.toList.length = s.size := by rw [Array.length_toList]; rfl
  refine ⟨by omega, fun j hj => ?_⟩
  rw [Nat.zero_add, bt_get s j (by omega)]
  rfl
theorem Has.ext {s : ByteArray} {a : Nat} {B : List UInt8} (h : Has s a B) : s.extract a (a + B.length) = ⟨B.toArray⟩ := by
  have h1 := h.1
  apply ByteArray.ext
  rw [ByteArray.data_extract]
  apply Array.ext'
  apply List.ext_getElem
  · simp only [Array.length_toList, Array.size_extract]
    show min (a + B.length) s.data.size - a = B.length
    have : s.data.size = s.size := rfl
    omega
  · intro j hj1 hj2
    have hj : j < B.length := by simpa using hj2
    have := h.2 j hj
    rw [bt_get s (a + j) (by omega)] at this
    have t : s[a + j]'(by omega) = B[j] := UInt8.toNat_inj.mp (Int.ofNat.inj this)
    simp only [Array.getElem_toList, Array.getElem_extract]
    exact t
theorem stp_eq (p : Int → Bool) (s : ByteArray) (e : Nat) (he : e ≤ s.size) (hend : e = s.size ∨ p (bt s (e : Int)) = false) (d : Nat) : ∀ i, s.size - i = d → i ≤ e → (∀ q, i ≤ q → q < e → p (bt s (q : Int)) = true) → stp p s d i = e := by
  induction d with
  | zero =>
    intro i hd hi _
    unfold stp
    omega
  | succ d ih =>
    intro i hd hi hall
    rw [stp_succ]
    by_cases c : i = e
    · subst c
      rcases hend with h | h
      · omega
      · rw [h]
        rfl
    · rw [hall i (Nat.le_refl _) (by omega), if_pos rfl]
      exact ih (i + 1) (by omega) (by omega) fun q hq hl => hall q (by omega) hl
def Dl (s : ByteArray) (e : Nat) : Prop := e = s.size ∨ (e < s.size ∧ (bt s (e : Int) = 32 ∨ bt s (e : Int) = 41 ∨ bt s (e : Int) = 46))
theorem Dl.no {s : ByteArray} {e : Nat} (h : Dl s e) (p : Int → Bool) (h1 : p 32 = false) (h2 : p 41 = false) (h3 : p 46 = false) : e = s.size ∨ p (bt s (e : Int)) = false := by
  rcases h with h | ⟨_, h | h | h⟩
  · exact .inl h
  · rw [h]; exact .inr h1
  · rw [h]; exact .inr h2
  · rw [h]; exact .inr h3
theorem clamp_in (s : ByteArray) (a : Nat) (h : a ≤ s.size) : clamp s (a : Int) = a := by
  unfold clamp
  rw [if_neg (by omega), if_neg (by omega)]
  rfl
def Sp (l : List UInt8) : Prop := l = [] ∨ l = [32]
theorem one_at (s : ByteArray) (a : Nat) (sp : List UInt8) (hsp : Sp sp) (h : Has s a sp) (hb : a + sp.length = s.size ∨ blk (bt s ((a + sp.length : Nat) : Int)) = false) : oneR s (a : Int) = tokR s (clamp s (a : Int)) (a + sp.length) := by
  have h1 := h.1
  have e : stp blk s (s.size - a) a = a + sp.length := by
    refine stp_eq blk s (a + sp.length) h1 hb (s.size - a) a rfl (by omega) fun q hq hl => ?_
    rcases hsp with rfl | rfl
    · exact absurd hl (by simp; omega)
    · have hq2 : q = a := by simp at hl; omega
      subst hq2
      have := h.2 0 (by simp)
      rw [Nat.add_zero] at this
      rw [this]
      rfl
  unfold oneR
  rw [clamp_in s a (by omega), e]
def nmB (w : List UInt8) : Bool := (match w with | [] => false | b :: _ => ltr (b.toNat : Int)) && w.all (fun b => nmb (b.toNat : Int)) && decide (w.length ≤ 32)
theorem nmB_parts {w : List UInt8} (h : nmB w = true) : ∃ b r, w = b :: r ∧ ltr (b.toNat : Int) = true ∧ (∀ c ∈ w, nmb (c.toNat : Int) = true) ∧ w.length ≤ 32 := by
  unfold nmB at h
  rw [Bool.and_eq_true, Bool.and_eq_true] at h
  obtain ⟨⟨h1, h2⟩, h3⟩ := h
  cases w with
  | nil => cases h1
  | cons b r => exact ⟨b, r, rfl, h1, fun c hc => List.all_eq_true.1 h2 c hc, of_decide_eq_true h3⟩
theorem tok_word {s : ByteArray} {at0 : Int} {i : Nat} {w : List UInt8} (hw : nmB w = true) (h : Has s i w) (hd : Dl s (i + w.length)) : tokR s at0 i = (if wrd ⟨w.toArray⟩ = true then 2 else 1, ⟨w.toArray⟩, 0, (i : Int), ((i + w.length : Nat) : Int), 0) := by
  obtain ⟨b, r, rfl, h1, h2, h3⟩ := nmB_parts hw
  have hl := h.1
  have h0 := h.2 0 (by simp)
  rw [Nat.add_zero] at h0
  have h0' : ltr (bt s (i : Int)) = true := by rw [h0]; exact h1
  have e : stp nmb s (s.size - i) i = i + (b :: r).length := by
    refine stp_eq nmb s _ hl (hd.no nmb (by decide) (by decide) (by decide)) _ i rfl (by omega) fun q hq hl => ?_
    obtain ⟨j, rfl⟩ : ∃ j, q = i + j := ⟨q - i, by omega⟩
    rw [h.2 j (by omega)]
    exact h2 _ (List.getElem_mem _)
  have hn : ¬ i = s.size := by rw [List.length_cons] at hl; omega
  unfold tokR
  rw [if_neg hn, if_pos h0', e]
  unfold nameR
  rw [if_neg (show ¬ (((i + (b :: r).length : Nat) : Int) - (i : Int) > 32) by omega), h.ext]
  split <;> rfl
def dvl : List UInt8 → Int → Int
  | [], v => v
  | b :: r, v => dvl r (10 * v + ((b.toNat : Int) - 48))
theorem dvl_ge (l : List UInt8) (hl : ∀ b ∈ l, dgt (b.toNat : Int) = true) : ∀ v, 0 ≤ v → v ≤ dvl l v := by
  induction l with
  | nil => intro v _; exact Int.le_refl _
  | cons b r ih =>
    intro v hv
    have hb := dgt_range (hl b (by simp))
    have := ih (fun c hc => hl c (by simp [hc])) (10 * v + ((b.toNat : Int) - 48)) (by omega)
    unfold dvl
    omega
theorem nv_has (s : ByteArray) (l : List UInt8) (hl : ∀ b ∈ l, dgt (b.toNat : Int) = true) : ∀ (i : Nat) (v : Int), 0 ≤ v → Has s i l → dvl l v ≤ 9223372036854775807 → nv s l.length i v = some (dvl l v) := by
  induction l with
  | nil => intro i v _ _ _; rfl
  | cons b r ih =>
    intro i v hv h hm
    have hb := dgt_range (hl b (by simp))
    have h0 := h.2 0 (by simp)
    rw [Nat.add_zero] at h0
    have h0' : bt s (i : Int) = (b.toNat : Int) := h0
    have hr : Has s (i + 1) r := Has.right (B := [b]) (C := r) h
    have hg := dvl_ge r (fun c hc => hl c (by simp [hc])) (10 * v + ((b.toNat : Int) - 48)) (by omega)
    unfold dvl at hm
    rw [List.length_cons, nv_succ, h0', if_neg (by omega), ih (fun c hc => hl c (by simp [hc])) (i + 1) _ (by omega) hr hm]
    rfl
theorem tok_num {s : ByteArray} {at0 : Int} {i : Nat} {l : List UInt8} (h0 : l ≠ []) (hl : ∀ b ∈ l, dgt (b.toNat : Int) = true) (hm : dvl l 0 ≤ 9223372036854775807) (h : Has s i l) (hd : Dl s (i + l.length)) : tokR s at0 i = (3, ⟨l.toArray⟩, dvl l 0, (i : Int), ((i + l.length : Nat) : Int), 0) := by
  have hle := h.1
  obtain ⟨b, r, rfl⟩ : ∃ b r, l = b :: r := by
    cases l with
    | nil => exact absurd rfl h0
    | cons b r => exact ⟨b, r, rfl⟩
  have hb := dgt_range (hl b (by simp))
  have hz := h.2 0 (by simp)
  rw [Nat.add_zero] at hz
  have hz' : bt s (i : Int) = (b.toNat : Int) := hz
  have e : stp dgt s (s.size - i) i = i + (b :: r).length := by
    refine stp_eq dgt s _ hle (hd.no dgt (by decide) (by decide) (by decide)) _ i rfl (by omega) fun q hq hl' => ?_
    obtain ⟨j, rfl⟩ : ∃ j, q = i + j := ⟨q - i, by omega⟩
    rw [h.2 j (by omega)]
    exact hl _ (List.getElem_mem _)
  have n1 : ltr (bt s (i : Int)) = false := by
    rw [hz']
    unfold ltr
    rw [decide_eq_false (by omega), decide_eq_false (by omega)]
    rfl
  have n2 : dgt (bt s (i : Int)) = true := by rw [hz']; exact hl b (by simp)
  have hne : ¬ (i + (b :: r).length < s.size ∧ ltr (bt s ((i + (b :: r).length : Nat) : Int)) = true) := by
    rintro ⟨q1, q2⟩
    rcases hd.no ltr (by decide) (by decide) (by decide) with z | z
    · omega
    · rw [z] at q2
      cases q2
  unfold tokR
  rw [if_neg (by rw [List.length_cons] at hle; omega), n1, if_neg (by decide), n2, if_pos rfl, e]
  unfold numR
  rw [show i + (b :: r).length - i = (b :: r).length by omega, nv_has s (b :: r) hl i 0 (by omega) h hm]
  unfold numE
  simp only
  rw [if_neg hne, h.ext]
end Go.Proofs.YthlepdjjdbpmoaaDoor.PPrintExprs
namespace Go.Proofs.YthlepdjjdbpmoaaDoor.PPrintExprs
open Go.RowKit Go.Proofs.YthlepdjjdbpmoaaDoorW.PrintWords Go.Proofs.YthlepdjjdbpmoaaDoorW.PrintLast Go.Proofs.YthlepdjjdbpmoaaDoorW.PrintMore
attribute [local go_sem] max2_int min2_int max_two min_two max_three min_three max_four min_four
set_option linter.unusedVariables false
set_option linter.unusedSimpArgs false
set_option maxRecDepth 100000
set_option maxHeartbeats 4000000
def qd : List UInt8 → List UInt8
  | [] => []
  | b :: r => if b = 39 then 39 :: 39 :: qd r else b :: qd r
theorem qd_cons (b : UInt8) (r : List UInt8) : qd (b :: r) = if b = 39 then 39 :: 39 :: qd r else b :: qd r := rfl
def nmsI (l : List UInt8) : List Int := l.map fun b => (b.toNat : Int)
theorem nms_cons (b : UInt8) (l : List UInt8) (acc : List Int) : (acc ++ [(b.toNat : Int)]) ++ nmsI l = acc ++ nmsI (b :: l) := by
  unfold nmsI
  rw [List.append_assoc]
  rfl
theorem tx_has (s : ByteArray) : ∀ (l : List UInt8) (d i : Nat) (acc : List Int), Has s i (qd l ++ [39]) → Dl s (i + (qd l).length + 1) → (qd l).length + 1 ≤ d → acc.length + l.length ≤ 65536 → tx s d i acc = (0, acc ++ nmsI l, i + (qd l).length + 1)
  | [], d, i, acc, h, hd, hk, hl => by
    obtain ⟨d, rfl⟩ : ∃ m, d = m + 1 := ⟨d - 1, by omega⟩
    have h1 := h.1
    have h0 := h.2 0 (by simp)
    rw [Nat.add_zero] at h0
    have h0' : bt s (i : Int) = 39 := h0
    have hlt : i < s.size := by simp [qd] at h1; omega
    have hn : ¬ (i + 1 < s.size ∧ bt s ((i + 1 : Nat) : Int) = 39) := by
      rintro ⟨q1, q2⟩
      have hd' : Dl s (i + 1) := hd
      rcases hd' with z | ⟨_, z | z | z⟩
      · omega
      · rw [z] at q2; omega
      · rw [z] at q2; omega
      · rw [z] at q2; omega
    simp only [List.length_nil, Nat.add_zero] at hl
    rw [tx_succ, if_pos hlt, if_pos h0', if_neg hn, if_neg (by omega)]
    simp [qd, nmsI]
  | b :: r, d, i, acc, h, hd, hk, hl => by
    rw [List.length_cons] at hl
    by_cases c : b = 39
    · subst c
      have e : qd (39 :: r) = 39 :: 39 :: qd r := by rw [qd_cons, if_pos rfl]
      rw [e] at h hd hk ⊢
      rw [List.length_cons, List.length_cons] at hd hk ⊢
      obtain ⟨d, rfl⟩ : ∃ m, d = m + 1 := ⟨d - 1, by omega⟩
      have h1 := h.1
      simp only [List.cons_append, List.length_cons, List.length_append, List.length_nil] at h1
      have h0 := h.2 0 (by simp)
      have h2 := h.2 1 (by simp)
      rw [Nat.add_zero] at h0
      have h0' : bt s (i : Int) = 39 := h0
      have h2' : bt s ((i + 1 : Nat) : Int) = 39 := h2
      have hr : Has s (i + 2) (qd r ++ [39]) := Has.right (B := [39, 39]) (C := qd r ++ [39]) h
      rw [tx_succ, if_pos (by omega), if_pos h0', if_pos ⟨by omega, h2'⟩, tx_has s r d (i + 2) (acc ++ [39]) hr (by rw [show i + 2 + (qd r).length + 1 = i + ((qd r).length + 1 + 1) + 1 by omega]; exact hd) (by omega) (by rw [List.length_append]; simp only [List.length_cons, List.length_nil]; omega)]
      rw [show (acc ++ [(39 : Int)]) ++ nmsI r = acc ++ nmsI (39 :: r) from nms_cons 39 r acc, show i + 2 + (qd r).length + 1 = i + ((qd r).length + 1 + 1) + 1 by omega]
    · have e : qd (b :: r) = b :: qd r := by rw [qd_cons, if_neg c]
      rw [e] at h hd hk ⊢
      rw [List.length_cons] at hd hk ⊢
      obtain ⟨d, rfl⟩ : ∃ m, d = m + 1 := ⟨d - 1, by omega⟩
      have h1 := h.1
      simp only [List.cons_append, List.length_cons, List.length_append, List.length_nil] at h1
      have h0 := h.2 0 (by simp)
      rw [Nat.add_zero] at h0
      have h0' : bt s (i : Int) = (b.toNat : Int) := h0
      have hb : ¬ bt s (i : Int) = 39 := by
        rw [h0']
        intro q
        apply c
        apply UInt8.toNat_inj.mp
        have : (39 : UInt8).toNat = 39 := rfl
        omega
      have hr : Has s (i + 1) (qd r ++ [39]) := Has.right (B := [b]) (C := qd r ++ [39]) h
      rw [tx_succ, if_pos (by omega), if_neg hb, h0', tx_has s r d (i + 1) (acc ++ [(b.toNat : Int)]) hr (by rw [show i + 1 + (qd r).length + 1 = i + ((qd r).length + 1) + 1 by omega]; exact hd) (by omega) (by rw [List.length_append]; simp only [List.length_cons, List.length_nil]; omega)]
      rw [nms_cons b r acc, show i + 1 + (qd r).length + 1 = i + ((qd r).length + 1) + 1 by omega]
theorem nms_str (l : List UInt8) : strOfNums (nmsI l) = ⟨l.toArray⟩ := by
  apply ByteArray.ext
  apply Array.ext'
  rw [strOfNums_data]
  unfold nmsI
  rw [List.map_map]
  show _ = l
  conv => rhs; rw [← List.map_id l]
  apply List.map_congr_left
  intro b _
  simp
theorem tok_text {s : ByteArray} {at0 : Int} {i : Nat} {l : List UInt8} (hl : l.length ≤ 65536) (h : Has s i (39 :: (qd l ++ [39]))) (hd : Dl s (i + (qd l).length + 2)) : tokR s at0 i = (4, ⟨l.toArray⟩, 0, (i : Int), ((i + (qd l).length + 2 : Nat) : Int), 0) := by
  have hle := h.1
  simp only [List.length_cons, List.length_append, List.length_nil] at hle
  have h0 := h.2 0 (by simp)
  rw [Nat.add_zero] at h0
  have h0' : bt s (i : Int) = 39 := h0
  have hr : Has s (i + 1) (qd l ++ [39]) := Has.right (B := [39]) (C := qd l ++ [39]) h
  have := tx_has s l s.size (i + 1) [] hr (by rw [show i + 1 + (qd l).length + 1 = i + (qd l).length + 2 by omega]; exact hd) (by omega) (by simp; exact hl)
  unfold tokR
  rw [if_neg (by omega), h0', if_neg (by decide), if_neg (by decide), if_pos rfl, this]
  unfold txR
  simp only [if_true, List.nil_append]
  rw [nms_str, show i + 1 + (qd l).length + 1 = i + (qd l).length + 2 by omega]
theorem pre_has {s : ByteArray} {i : Nat} {B : List UInt8} (h : Has s i B) : pre s i ⟨B.toArray⟩ = true := by
  have h1 := h.1
  have e : (⟨B.toArray⟩ : ByteArray).size = B.length := by show B.toArray.size = _; simp
  unfold pre
  rw [e, h.ext, decide_eq_true h1]
  simp
theorem pre_two {s : ByteArray} {i : Nat} {b c : UInt8} (h : pre s i ⟨#[b, c]⟩ = true) : bt s (i : Int) = (b.toNat : Int) ∧ bt s ((i + 1 : Nat) : Int) = (c.toNat : Int) := by
  unfold pre at h
  rw [Bool.and_eq_true] at h
  have h1 : i + 2 ≤ s.size := of_decide_eq_true h.1
  have h2 : (s.extract i (i + 2)).data.toList = [b, c] := beq_iff_eq.1 h.2
  have g : ∀ (j : Nat) (hj : j < 2), bt s ((i + j : Nat) : Int) = ((([b, c] : List UInt8)[j]'hj).toNat : Int) := by
    intro j hj
    rw [bt_get s (i + j) (by omega)]
    have e : ([b, c] : List UInt8)[j]'hj = s[i + j]'(by omega) := by
      have w := List.getElem_of_eq h2 (i := j) (by rw [h2]; exact hj)
      rw [← w]
      simp only [ByteArray.data_extract, Array.getElem_toList, Array.getElem_extract]
      rfl
    rw [e]
  exact ⟨g 0 (by omega), g 1 (by omega)⟩
theorem twos_no {s : ByteArray} {i : Nat} (h : ∀ c1 : Int, bt s ((i + 1 : Nat) : Int) = c1 → ¬ (bt s (i : Int) = 60 ∧ (c1 = 62 ∨ c1 = 61)) ∧ ¬ (bt s (i : Int) = 62 ∧ c1 = 61)) : twos.find? (pre s i) = none := by
  obtain ⟨h1, h2⟩ := h _ rfl
  have a1 : pre s i ⟨#[60, 62]⟩ = false := by
    cases q : pre s i ⟨#[60, 62]⟩ with
    | false => rfl
    | true => exact absurd ⟨(pre_two q).1, .inl (pre_two q).2⟩ h1
  have a2 : pre s i ⟨#[60, 61]⟩ = false := by
    cases q : pre s i ⟨#[60, 61]⟩ with
    | false => rfl
    | true => exact absurd ⟨(pre_two q).1, .inr (pre_two q).2⟩ h1
  have a3 : pre s i ⟨#[62, 61]⟩ = false := by
    cases q : pre s i ⟨#[62, 61]⟩ with
    | false => rfl
    | true => exact absurd (pre_two q) h2
  unfold twos
  rw [List.find?_cons, a1, List.find?_cons, a2, List.find?_cons, a3, List.find?_nil]
def oneB : List UInt8 := [40, 41, 44, 46, 42, 43, 45, 61]
theorem sgn_of (s : ByteArray) (i : Nat) : sgn s (i : Int) = (signs.find? (pre s i)).getD ⟨#[]⟩ := by
  unfold sgn
  rw [if_neg (by omega)]
  rfl
theorem sgn_one {s : ByteArray} {i : Nat} {b : UInt8} (hb : b ∈ oneB) (h : Has s i [b]) : sgn s (i : Int) = ⟨#[b]⟩ := by
  have h1 := h.1
  have h0 := h.2 0 (by simp)
  rw [Nat.add_zero] at h0
  have h0' : bt s (i : Int) = (b.toNat : Int) := h0
  rw [sgn_of, find_signs s i (by simp at h1; omega), twos_no (fun c1 _ => by
    rw [h0']
    unfold oneB at hb
    simp only [List.mem_cons, List.not_mem_nil, or_false] at hb
    rcases hb with rfl | rfl | rfl | rfl | rfl | rfl | rfl | rfl <;> exact ⟨fun q => absurd q.1 (by decide), fun q => absurd q.1 (by decide)⟩), Option.getD_none]
  unfold oneB at hb
  simp only [List.mem_cons, List.not_mem_nil, or_false] at hb
  rcases hb with rfl | rfl | rfl | rfl | rfl | rfl | rfl | rfl <;> · unfold ones; simp only [sing, h0']; rfl
theorem sgn_lt {s : ByteArray} {i : Nat} {b : UInt8} (hb : b = 60 ∨ b = 62) (h : Has s i [b]) (hd : Dl s (i + 1)) : sgn s (i : Int) = ⟨#[b]⟩ := by
  have h1 := h.1
  have h0 := h.2 0 (by simp)
  rw [Nat.add_zero] at h0
  have h0' : bt s (i : Int) = (b.toNat : Int) := h0
  have hn : bt s ((i + 1 : Nat) : Int) ≠ 61 ∧ bt s ((i + 1 : Nat) : Int) ≠ 62 := by
    rcases hd with z | ⟨_, z | z | z⟩
    · have e : bt s ((i + 1 : Nat) : Int) = 0 := by
        unfold bt
        rw [dif_neg (by omega)]
      rw [e]
      decide
    · rw [z]; decide
    · rw [z]; decide
    · rw [z]; decide
  rw [sgn_of, find_signs s i (by simp at h1; omega), twos_no (fun c1 q => by
    refine ⟨?_, ?_⟩
    · rintro ⟨_, w | w⟩
      · exact hn.2 (q.trans w)
      · exact hn.1 (q.trans w)
    · rintro ⟨_, w⟩
      exact hn.1 (q.trans w)), Option.getD_none]
  rcases hb with rfl | rfl <;> · unfold ones; simp only [sing, h0']; rfl
theorem sgn_two {s : ByteArray} {i : Nat} {b c : UInt8} (hb : (b = 60 ∧ c = 62) ∨ (b = 60 ∧ c = 61) ∨ (b = 62 ∧ c = 61)) (h : Has s i [b, c]) : sgn s (i : Int) = ⟨#[b, c]⟩ := by
  have h1 := h.1
  have p := pre_has h
  rw [sgn_of, find_signs s i (by simp at h1; omega)]
  unfold twos
  have no : ∀ x y : UInt8, (x ≠ b ∨ y ≠ c) → pre s i ⟨#[x, y]⟩ = false := by
    intro x y hxy
    cases q : pre s i ⟨#[x, y]⟩ with
    | false => rfl
    | true =>
      exfalso
      have h0 := h.2 0 (by simp)
      have h2 := h.2 1 (by simp)
      rw [Nat.add_zero] at h0
      have a1 : (x.toNat : Int) = b.toNat := (pre_two q).1.symm.trans h0
      have a2 : (y.toNat : Int) = c.toNat := (pre_two q).2.symm.trans h2
      rcases hxy with z | z
      · exact z (UInt8.toNat_inj.mp (Int.ofNat.inj a1))
      · exact z (UInt8.toNat_inj.mp (Int.ofNat.inj a2))
  rcases hb with ⟨rfl, rfl⟩ | ⟨rfl, rfl⟩ | ⟨rfl, rfl⟩
  · rw [List.find?_cons, p]; rfl
  · rw [List.find?_cons, no 60 62 (by decide), List.find?_cons, p]; rfl
  · rw [List.find?_cons, no 60 62 (by decide), List.find?_cons, no 60 61 (by decide), List.find?_cons, p]; rfl
theorem tok_sign {s : ByteArray} {at0 : Int} {i : Nat} {b : UInt8} {r : List UInt8} (h : Has s i (b :: r)) (hb : b ∈ oneB ∨ b = 60 ∨ b = 62) (hs : sgn s (i : Int) = ⟨(b :: r).toArray⟩) : tokR s at0 i = (5, ⟨(b :: r).toArray⟩, 0, (i : Int), ((i + (b :: r).length : Nat) : Int), 0) := by
  have hle := h.1
  rw [List.length_cons] at hle
  have h0 := h.2 0 (by simp)
  rw [Nat.add_zero] at h0
  have h0' : bt s (i : Int) = (b.toNat : Int) := h0
  have hx : ltr (b.toNat : Int) = false ∧ dgt (b.toNat : Int) = false ∧ ¬ (b.toNat : Int) = 39 := by
    unfold oneB at hb
    simp only [List.mem_cons, List.not_mem_nil, or_false] at hb
    rcases hb with (rfl | rfl | rfl | rfl | rfl | rfl | rfl | rfl) | rfl | rfl <;> decide
  have hne : ¬ (⟨(b :: r).toArray⟩ : ByteArray).data.toList = [] := by simp
  have hsz : (⟨(b :: r).toArray⟩ : ByteArray).size = (b :: r).length := by show (b :: r).toArray.size = _; simp
  unfold tokR
  rw [if_neg (by omega), h0', hx.1, if_neg (by decide), hx.2.1, if_neg (by decide), if_neg hx.2.2, hs, if_neg hne, hsz]
  rfl
end Go.Proofs.YthlepdjjdbpmoaaDoor.PPrintExprs
namespace Go.Proofs.YthlepdjjdbpmoaaDoor.PPrintExprs
open Go.RowKit Go.Proofs.YthlepdjjdbpmoaaDoorW.PrintWords Go.Proofs.YthlepdjjdbpmoaaDoorW.PrintLast Go.Proofs.YthlepdjjdbpmoaaDoorW.PrintMore
attribute [local go_sem] max2_int min2_int max_two min_two max_three min_three max_four min_four
set_option linter.unusedVariables false
set_option linter.unusedSimpArgs false
set_option maxRecDepth 100000
set_option maxHeartbeats 4000000
abbrev TK := Int × ByteArray × Int
def Step (s : ByteArray) (a : Nat) (t : TK) (b : Nat) : Prop := t.1 ≠ 0 ∧ ∃ i, oneR s (a : Int) = (t.1, t.2.1, t.2.2, i, (b : Int), 0)
def Run (s : ByteArray) : Nat → List TK → Nat → Prop
  | a, [], b => a = b
  | a, t :: ts, c => ∃ b, Step s a t b ∧ Run s b ts c
theorem Run.app {s : ByteArray} : ∀ {ts us : List TK} {a b c : Nat}, Run s a ts b → Run s b us c → Run s a (ts ++ us) c
  | [], us, a, b, c, h, k => by
    have e : a = b := h
    rw [e]
    exact k
  | t :: ts, us, a, b, c, ⟨d, h1, h2⟩, k => ⟨d, h1, Run.app h2 k⟩
theorem Run.one {s : ByteArray} {a b : Nat} {t : TK} (h : Step s a t b) : Run s a [t] b := ⟨b, h, rfl⟩
def ky (t : S142) : TK := (t.f0, t.f1, t.f2)
theorem Run.all {s : ByteArray} : ∀ {ts : List TK} {a b : Nat}, Run s a ts b → ∃ L : List S142, L.map ky = ts ∧ ∀ (n : Nat) (acc : List S142), allR s (n + ts.length) acc (a : Int) = allR s n (acc ++ L) (b : Int)
  | [], a, b, h => by
    have e : a = b := h
    refine ⟨[], rfl, fun n acc => ?_⟩
    rw [e, List.append_nil]
    rfl
  | t :: ts, a, c, ⟨b, ⟨h0, i, h1⟩, h2⟩ => by
    obtain ⟨L, hL, hr⟩ := Run.all h2
    refine ⟨mkT (oneR s (a : Int)) :: L, ?_, fun n acc => ?_⟩
    · rw [List.map_cons, hL, h1]
      rfl
    · rw [List.length_cons, show n + (ts.length + 1) = (n + ts.length) + 1 by omega, allR_succ, h1]
      simp only [if_true]
      rw [if_neg h0, hr]
      rw [List.append_assoc]
      rfl
theorem oneR_end (s : ByteArray) : oneR s (s.size : Int) = (0, ⟨#[]⟩, 0, (s.size : Int), (s.size : Int), 0) := by
  unfold oneR
  rw [clamp_in s s.size (Nat.le_refl _), Nat.sub_self]
  unfold stp tokR
  rw [if_pos rfl]
theorem Run.whole {s : ByteArray} {ts : List TK} (h : Run s 0 ts s.size) (hn : ts.length + 1 ≤ 1000) : ∃ (L : List S142) (z : S142), L.map ky = ts ∧ z.f0 = 0 ∧ allR s 1000 [] 0 = (L ++ [z], 0) := by
  obtain ⟨L, hL, hr⟩ := h.all
  refine ⟨L, mkT (oneR s (s.size : Int)), hL, by rw [oneR_end]; rfl, ?_⟩
  obtain ⟨n, hn⟩ : ∃ n, 1000 = (n + 1) + ts.length := ⟨999 - ts.length, by omega⟩
  have := hr (n + 1) []
  rw [← hn] at this
  rw [show (0 : Int) = ((0 : Nat) : Int) from rfl, this, allR_succ, oneR_end]
  simp only [if_true, List.nil_append]
  rfl
def Pc (p : List UInt8) (t : TK) : Prop := ∀ (s : ByteArray) (a : Nat) (sp : List UInt8), Sp sp → Has s a (sp ++ p) → Dl s (a + sp.length + p.length) → Step s a t (a + sp.length + p.length)
theorem nb {s : ByteArray} {a : Nat} {sp : List UInt8} {b : UInt8} {r : List UInt8} (h : Has s a (sp ++ b :: r)) (hb : blk (b.toNat : Int) = false) : a + sp.length = s.size ∨ blk (bt s ((a + sp.length : Nat) : Int)) = false := by
  have := h.right.2 0 (by simp)
  rw [Nat.add_zero] at this
  right
  rw [this]
  exact hb
theorem pc_word {w : List UInt8} (hw : nmB w = true) : Pc w (if wrd ⟨w.toArray⟩ = true then 2 else 1, ⟨w.toArray⟩, 0) := by
  intro s a sp hsp h hd
  obtain ⟨b, r, e, h1, h2, h3⟩ := nmB_parts hw
  have hb : blk (b.toNat : Int) = false := by
    have q := h1
    unfold ltr at q
    unfold blk
    rw [Bool.or_eq_true, decide_eq_true_eq, decide_eq_true_eq] at q
    rw [decide_eq_false (by omega), decide_eq_false (by omega), decide_eq_false (by omega), decide_eq_false (by omega)]
    rfl
  refine ⟨by split <;> first | exact (show (2 : Int) ≠ 0 by decide) | exact (show (1 : Int) ≠ 0 by decide), ((a + sp.length : Nat) : Int), ?_⟩
  rw [one_at s a sp hsp h.left (by rw [e] at h; exact nb h hb), tok_word hw h.right hd]
theorem pc_num {l : List UInt8} (h0 : l ≠ []) (hl : ∀ b ∈ l, dgt (b.toNat : Int) = true) (hm : dvl l 0 ≤ 9223372036854775807) : Pc l (3, ⟨l.toArray⟩, dvl l 0) := by
  intro s a sp hsp h hd
  obtain ⟨b, r, e⟩ : ∃ b r, l = b :: r := by
    cases l with
    | nil => exact absurd rfl h0
    | cons b r => exact ⟨b, r, rfl⟩
  have hb : blk (b.toNat : Int) = false := by
    have q := dgt_range (hl b (by rw [e]; simp))
    unfold blk
    rw [decide_eq_false (by omega), decide_eq_false (by omega), decide_eq_false (by omega), decide_eq_false (by omega)]
    rfl
  refine ⟨(show (3 : Int) ≠ 0 by decide), ((a + sp.length : Nat) : Int), ?_⟩
  rw [one_at s a sp hsp h.left (by rw [e] at h; exact nb h hb), tok_num h0 hl hm h.right hd]
theorem pc_text {l : List UInt8} (hl : l.length ≤ 65536) : Pc (39 :: (qd l ++ [39])) (4, ⟨l.toArray⟩, 0) := by
  intro s a sp hsp h hd
  have e : (39 :: (qd l ++ [39])).length = (qd l).length + 2 := by simp
  rw [e] at hd ⊢
  refine ⟨(show (4 : Int) ≠ 0 by decide), ((a + sp.length : Nat) : Int), ?_⟩
  rw [one_at s a sp hsp h.left (nb h (by decide)), tok_text hl h.right hd]
  rfl
theorem step_one {b : UInt8} (hb : b ∈ oneB) {s : ByteArray} {a : Nat} {sp : List UInt8} (hsp : Sp sp) (h : Has s a (sp ++ [b])) : Step s a (5, ⟨#[b]⟩, 0) (a + sp.length + 1) := by
  have hk : blk (b.toNat : Int) = false := by
    have hb' := hb
    unfold oneB at hb'
    simp only [List.mem_cons, List.not_mem_nil, or_false] at hb'
    rcases hb' with rfl | rfl | rfl | rfl | rfl | rfl | rfl | rfl <;> decide
  refine ⟨(show (5 : Int) ≠ 0 by decide), ((a + sp.length : Nat) : Int), ?_⟩
  rw [one_at s a sp hsp h.left (nb h hk), tok_sign h.right (.inl hb) (sgn_one hb h.right)]
  rfl
theorem pc_one {b : UInt8} (hb : b ∈ oneB) : Pc [b] (5, ⟨#[b]⟩, 0) := fun s a sp hsp h _ => step_one hb hsp h
theorem pc_lt {b : UInt8} (hb : b = 60 ∨ b = 62) : Pc [b] (5, ⟨#[b]⟩, 0) := by
  intro s a sp hsp h hd
  refine ⟨(show (5 : Int) ≠ 0 by decide), ((a + sp.length : Nat) : Int), ?_⟩
  rw [one_at s a sp hsp h.left (nb h (by rcases hb with rfl | rfl <;> decide)), tok_sign h.right (.inr hb) (sgn_lt hb h.right hd)]
theorem pc_two {b c : UInt8} (hb : (b = 60 ∧ c = 62) ∨ (b = 60 ∧ c = 61) ∨ (b = 62 ∧ c = 61)) : Pc [b, c] (5, ⟨#[b, c]⟩, 0) := by
  intro s a sp hsp h hd
  have hb' : b = 60 ∨ b = 62 := by rcases hb with ⟨q, _⟩ | ⟨q, _⟩ | ⟨q, _⟩ <;> simp [q]
  refine ⟨(show (5 : Int) ≠ 0 by decide), ((a + sp.length : Nat) : Int), ?_⟩
  rw [one_at s a sp hsp h.left (nb h (by rcases hb' with rfl | rfl <;> decide)), tok_sign h.right (.inr hb') (sgn_two hb h.right)]
def Lx (b : List UInt8) (ts : List TK) : Prop := ∀ (s : ByteArray) (a : Nat) (sp : List UInt8), Sp sp → Has s a (sp ++ b) → Dl s (a + sp.length + b.length) → Run s a ts (a + sp.length + b.length)
theorem Pc.lx {p : List UInt8} {t : TK} (h : Pc p t) : Lx p [t] := fun s a sp hsp hh hd => Run.one (h s a sp hsp hh hd)
theorem dl_byte {s : ByteArray} {e : Nat} {b : UInt8} {r : List UInt8} (h : Has s e (b :: r)) (hb : b = 32 ∨ b = 41 ∨ b = 46) : Dl s e := by
  have h1 := h.1
  have h0 := h.2 0 (by simp)
  rw [Nat.add_zero] at h0
  have h0' : bt s (e : Int) = (b.toNat : Int) := h0
  rw [List.length_cons] at h1
  refine .inr ⟨by omega, ?_⟩
  rcases hb with rfl | rfl | rfl
  · exact .inl h0'
  · exact .inr (.inl h0')
  · exact .inr (.inr h0')
theorem Lx.sp {b c : List UInt8} {ts us : List TK} (h : Lx b ts) (k : Lx c us) : Lx (b ++ [32] ++ c) (ts ++ us) := by
  intro s a sp hsp hh hd
  have e : sp ++ (b ++ [32] ++ c) = (sp ++ b) ++ ([32] ++ c) := by simp
  rw [e] at hh
  have h1 := h s a sp hsp hh.left (by
    have := hh.right
    rw [List.length_append, ← Nat.add_assoc] at this
    exact dl_byte this (.inl rfl))
  have hr := hh.right
  rw [List.length_append, ← Nat.add_assoc] at hr
  have e2 : a + sp.length + (b ++ [32] ++ c).length = a + sp.length + b.length + ([32] : List UInt8).length + c.length := by simp only [List.length_append]; omega
  rw [e2] at hd ⊢
  exact h1.app (k s (a + sp.length + b.length) [32] (.inr rfl) hr hd)
theorem Lx.paren {b : List UInt8} {ts : List TK} (h : Lx b ts) : Lx (40 :: (b ++ [41])) (((5, ⟨#[40]⟩, 0) : TK) :: (ts ++ [((5, ⟨#[41]⟩, 0) : TK)])) := by
  intro s a sp hsp hh hd
  have e : sp ++ 40 :: (b ++ [41]) = (sp ++ [40]) ++ (b ++ [41]) := by simp
  rw [e] at hh
  have h1 := step_one (b := 40) (by decide) hsp hh.left
  have hr := hh.right
  rw [show a + (sp ++ [(40 : UInt8)]).length = a + sp.length + 1 by rw [List.length_append]; rfl] at hr
  have h2 := h s (a + sp.length + 1) [] (.inl rfl) (by simpa using hr.left) (dl_byte (by have := hr.right; simpa using this) (.inr (.inl rfl)))
  have h3 := step_one (b := 41) (by decide) (s := s) (a := a + sp.length + 1 + b.length) (sp := []) (.inl rfl) (by simpa using hr.right)
  refine ⟨_, h1, ?_⟩
  have h2' : Run s (a + sp.length + 1) ts (a + sp.length + 1 + b.length) := by simpa using h2
  refine h2'.app ?_
  have e3 : a + sp.length + (40 :: (b ++ [41])).length = a + sp.length + 1 + b.length + ([] : List UInt8).length + 1 := by simp only [List.length_cons, List.length_append, List.length_nil]; omega
  rw [e3]
  exact Run.one h3
theorem Lx.dot {v w : List UInt8} {t u : TK} (h : Pc v t) (k : Pc w u) : Lx (v ++ [46] ++ w) [t, ((5, ⟨#[46]⟩, 0) : TK), u] := by
  intro s a sp hsp hh hd
  have e : sp ++ (v ++ [46] ++ w) = (sp ++ v) ++ ([46] ++ w) := by simp
  rw [e] at hh
  have hr := hh.right
  rw [List.length_append, ← Nat.add_assoc] at hr
  have h1 := h s a sp hsp hh.left (dl_byte hr (.inr (.inr rfl)))
  have h2 := step_one (b := 46) (by decide) (s := s) (a := a + sp.length + v.length) (sp := []) (.inl rfl) (by simpa using hr.left)
  have h3 := k s (a + sp.length + v.length + 1) [] (.inl rfl) (by simpa using hr.right)
  have e2 : a + sp.length + (v ++ [46] ++ w).length = a + sp.length + v.length + 1 + ([] : List UInt8).length + w.length := by simp only [List.length_append, List.length_cons, List.length_nil]; omega
  rw [e2] at hd ⊢
  exact ⟨_, h1, _, h2, _, h3 hd, rfl⟩
end Go.Proofs.YthlepdjjdbpmoaaDoor.PPrintExprs
namespace Go.Proofs.YthlepdjjdbpmoaaDoor.PPrintExprs
open Go.RowKit Go.Proofs.YthlepdjjdbpmoaaDoorW.PrintWords Go.Proofs.YthlepdjjdbpmoaaDoorW.PrintLast Go.Proofs.YthlepdjjdbpmoaaDoorW.PrintMore
attribute [local go_sem] max2_int min2_int max_two min_two max_three min_three max_four min_four
set_option linter.unusedVariables false
set_option linter.unusedSimpArgs false
set_option maxRecDepth 100000
set_option maxHeartbeats 4000000
def Ps (W : World) (g : Nat) (A : Option Addr) (n c : Nat) (i d e : Int) : Prop := W.heap[g]? = some (.cells #[.slice A n c, .int .i64 i, .int .i64 d, .int .i64 e] 84 (0, 0))
def Chg (g : Nat) (w w' : World) : Prop := Below g w w' ∧ KeepBut w w' g none
theorem Chg.refl (g : Nat) (w : World) : Chg g w w := ⟨Below.refl g w, KeepBut.refl w g none⟩
theorem Chg.trans {g : Nat} {w w1 w2 : World} (h : Chg g w w1) (k : Chg g w1 w2) : Chg g w w2 := ⟨h.1.trans k.1, h.2.trans k.2 (.inl rfl)⟩
theorem Chg.below {g : Nat} {w w1 : World} (hg : g < w.heap.size) (h : Below w.heap.size w w1) : Chg g w w1 := ⟨h.mono (Nat.le_of_lt hg), KeepBut.of_below h g none⟩
theorem Chg.set {g : Nat} {w w1 : World} (h : Chg g w w1) (j : Nat) (u : Value) : Chg g w (w1.setCell ⟨g, j, none⟩ u) := ⟨h.1.setCell (Nat.le_refl _) _, h.2.set_ j u⟩
theorem Chg.alloc {g : Nat} {w w1 : World} (hg : g < w.heap.size) (h : Chg g w w1) (o : Obj) : Chg g w (w1.alloc o) := ⟨h.1.alloc (Nat.le_trans (Nat.le_of_lt hg) h.2.1) o, keep_alloc h.2 o⟩
theorem Chg.drewN {g : Nat} {w w1 : World} (h : Chg g w w1) (n : Nat) : Chg g w (w1.drewN n) := ⟨pw_below_drewN h.1 n, h.2⟩
theorem Chg.size {g : Nat} {w w1 : World} (h : Chg g w w1) : w.heap.size ≤ w1.heap.size := h.2.1
theorem Chg.blk {g : Nat} {w w1 : World} (h : Chg g w w1) {b : Nat} {o : Obj} (hb : w.heap[b]? = some o) (hn : b ≠ g) : w1.heap[b]? = some o := h.2.blk hb hn (by simp)
theorem Ps.lt {w : World} {g : Nat} {A : Option Addr} {n c : Nat} {i d e : Int} (h : Ps w g A n c i d e) : g < w.heap.size := blk_lt h
theorem Ps.alloc {w : World} {g : Nat} {A : Option Addr} {n c : Nat} {i d e : Int} (h : Ps w g A n c i d e) (o : Obj) : Ps (w.alloc o) g A n c i d e := blk_alloc h o
theorem Ps.drewN {w : World} {g : Nat} {A : Option Addr} {n c : Nat} {i d e : Int} (h : Ps w g A n c i d e) (m : Nat) : Ps (w.drewN m) g A n c i d e := h
theorem Ps.below {w w1 : World} {g : Nat} {A : Option Addr} {n c : Nat} {i d e : Int} (h : Ps w g A n c i d e) (hb : Below w.heap.size w w1) : Ps w1 g A n c i d e := (hb.block g h.lt).trans h
theorem Ps.far {w : World} {g : Nat} {A : Option Addr} {n c : Nat} {i d e : Int} (h : Ps w g A n c i d e) {p : Addr} (hp : p.block ≠ g) (u : Value) : Ps (w.setCell p u) g A n c i d e := (Below.heap_setCell w p u g (fun q => hp q.symm)).trans h
theorem Ps.at_ {w : World} {g : Nat} {A : Option Addr} {n c : Nat} {i d e : Int} (h : Ps w g A n c i d e) (x : Int) : Ps (w.setCell ⟨g, 1, none⟩ (.int .i64 x)) g A n c x d e := blk_put (cs := #[.slice A n c, .int .i64 i, .int .i64 d, .int .i64 e]) h 1 _ rfl
theorem Ps.deep {w : World} {g : Nat} {A : Option Addr} {n c : Nat} {i d e : Int} (h : Ps w g A n c i d e) (x : Int) : Ps (w.setCell ⟨g, 2, none⟩ (.int .i64 x)) g A n c i x e := blk_put (cs := #[.slice A n c, .int .i64 i, .int .i64 d, .int .i64 e]) h 2 _ rfl
theorem Ps.err {w : World} {g : Nat} {A : Option Addr} {n c : Nat} {i d e : Int} (h : Ps w g A n c i d e) (x : Int) : Ps (w.setCell ⟨g, 3, none⟩ (.int .i64 x)) g A n c i d x := blk_put (cs := #[.slice A n c, .int .i64 i, .int .i64 d, .int .i64 e]) h 3 _ rfl
def flE (e x : Int) : Int := if e = 0 then x else e
def dnE (d e : Int) : Int := if d + 1 > 50 ∧ e = 0 then 4 else e
theorem ok_any {g : Nat} {A : Option Addr} {n c : Nat} {i d e : Int} {w : World} (h : Ps w g A n c i d e) :
    Calls Tryd.prog 62 #[.pointer (some ⟨g, 0, none⟩)] w fun r w' => r = .returned (.bool (e == 0)) ∧ w' = w := by
  obtain ⟨c0, c1, c2, c3, f0, f1, f2, f3⟩ := bw4_ h
  go_enter Tryd.func62, Tryd.ntmps62
  go_wp2
  go_ret
  exact ⟨rfl, rfl⟩
theorem ok_no {g : Nat} {A : Option Addr} {n c : Nat} {i d e : Int} {w : World} (h : Ps w g A n c i d e) (he : e ≠ 0) :
    Calls Tryd.prog 62 #[.pointer (some ⟨g, 0, none⟩)] w fun r w' => r = .returned (.bool false) ∧ w' = w := (ok_any h).mono fun r w' ⟨a, b⟩ => ⟨by rw [a, beq_eq_false_iff_ne.2 he], b⟩
theorem ok_yes {g : Nat} {A : Option Addr} {n c : Nat} {i d : Int} {w : World} (h : Ps w g A n c i d 0) :
    Calls Tryd.prog 62 #[.pointer (some ⟨g, 0, none⟩)] w fun r w' => r = .returned (.bool true) ∧ w' = w := (ok_any h).mono fun r w' ⟨a, b⟩ => ⟨a, b⟩
theorem fail_any {g : Nat} {A : Option Addr} {n c : Nat} {i d e : Int} {w : World} (h : Ps w g A n c i d e) (x : Int) :
    Calls Tryd.prog 105 #[.pointer (some ⟨g, 0, none⟩), .int .i64 x] w fun r w' => r = .returned (.tuple #[]) ∧ Ps w' g A n c i d (flE e x) ∧ Chg g w w' := by
  obtain ⟨c0, c1, c2, c3, f0, f1, f2, f3⟩ := bw4_ h
  by_cases he : e = 0
  · subst he
    have H := Lib.hid h; clear h
    go_enter Tryd.func105, Tryd.ntmps105
    go_wp2
    go_end0
    exact ⟨rfl, H.out.err x, (Chg.refl g w).set 3 _⟩
  · have hf : flE e x = e := if_neg he
    rw [hf]
    clear hf
    have H := Lib.hid h; clear h
    have hb : (e == 0) = false := beq_eq_false_iff_ne.2 he
    go_enter Tryd.func105, Tryd.ntmps105
    go_wp2
    go_end0
    exact ⟨rfl, H.out, Chg.refl g w⟩
theorem down_any {g : Nat} {A : Option Addr} {n c : Nat} {i d e : Int} {w : World} (h : Ps w g A n c i d e) (h0 : -1000 ≤ d) (h1 : d ≤ 1000) :
    Calls Tryd.prog 153 #[.pointer (some ⟨g, 0, none⟩)] w fun r w' => r = .returned (.tuple #[]) ∧ Ps w' g A n c i (d + 1) (dnE d e) ∧ Chg g w w' := by
  obtain ⟨c0, c1, c2, c3, f0, f1, f2, f3⟩ := bw4_ h
  have h2 := h.deep (d + 1)
  have H := Lib.hid h; clear h
  have H2 := Lib.hid h2; clear h2
  obtain ⟨b0, b1, b2, b3, g0, g1, g2, g3⟩ := bw4_ H2.out
  by_cases hd : d + 1 > 50
  · have hd2 : decide (50 < d + 1) = true := decide_eq_true hd
    go_enter Tryd.func153, Tryd.ntmps153
    go_wp2_with (go_at_call 105; refine (fail_any H2.out 4).mono ?_; rintro r w' ⟨rfl, hp, hc⟩)
    go_end0
    refine ⟨rfl, ?_, ((Chg.refl g w).set 2 _).trans hc⟩
    unfold dnE
    unfold flE at hp
    by_cases he : e = 0
    · rw [if_pos ⟨hd, he⟩]
      rw [if_pos he] at hp
      exact hp
    · rw [if_neg (fun q => he q.2)]
      rw [if_neg he] at hp
      exact hp
  · have hd2 : decide (50 < d + 1) = false := decide_eq_false hd
    go_enter Tryd.func153, Tryd.ntmps153
    go_wp2
    go_end0
    refine ⟨rfl, ?_, (Chg.refl g w).set 2 _⟩
    unfold dnE
    rw [if_neg (fun q => absurd q.1 (by omega))]
    exact H2.out
end Go.Proofs.YthlepdjjdbpmoaaDoor.PPrintExprs
namespace Go.Proofs.YthlepdjjdbpmoaaDoor.PPrintExprs
open Go.RowKit Go.Proofs.YthlepdjjdbpmoaaDoorW.PrintWords Go.Proofs.YthlepdjjdbpmoaaDoorW.PrintLast Go.Proofs.YthlepdjjdbpmoaaDoorW.PrintMore
attribute [local go_sem] max2_int min2_int max_two min_two max_three min_three max_four min_four
set_option linter.unusedVariables false
set_option linter.unusedSimpArgs false
set_option maxRecDepth 100000
set_option maxHeartbeats 4000000
def tokP (l : List S142) (i e : Int) : S142 := if e = 0 ∧ i < l.length then rd_T142 l i else ⟨0, ⟨#[]⟩, 0, 0⟩
abbrev tkV (t : S142) : Value := .agg #[.int .i64 t.f0, .string t.f1, .int .i64 t.f2, .int .i64 t.f3]
theorem put4_ {W : World} {gb t : Nat} {c0 c1 c2 c3 v0 v1 v2 v3 : Value} (hb : W.heap[gb]? = some (.cells #[c0, c1, c2, c3] t (0, 0))) : ((((W.setCell ⟨gb, 0, none⟩ v0).setCell ⟨gb, 1, none⟩ v1).setCell ⟨gb, 2, none⟩ v2).setCell ⟨gb, 3, none⟩ v3).heap[gb]? = some (.cells #[v0, v1, v2, v3] t (0, 0)) := by
  replace hb := blk_put (cs := #[c0, c1, c2, c3]) (cs' := #[v0, c1, c2, c3]) hb 0 v0 rfl
  replace hb := blk_put (cs := #[v0, c1, c2, c3]) (cs' := #[v0, v1, c2, c3]) hb 1 v1 rfl
  replace hb := blk_put (cs := #[v0, v1, c2, c3]) (cs' := #[v0, v1, v2, c3]) hb 2 v2 rfl
  replace hb := blk_put (cs := #[v0, v1, v2, c3]) (cs' := #[v0, v1, v2, v3]) hb 3 v3 rfl
  exact hb
theorem put9_ {W : World} {gb t : Nat} {c0 c1 c2 c3 c4 c5 c6 c7 c8 v0 v1 v2 v3 v4 v5 v6 v7 v8 : Value} (hb : W.heap[gb]? = some (.cells #[c0, c1, c2, c3, c4, c5, c6, c7, c8] t (0, 0))) : (((((((((W.setCell ⟨gb, 0, none⟩ v0).setCell ⟨gb, 1, none⟩ v1).setCell ⟨gb, 2, none⟩ v2).setCell ⟨gb, 3, none⟩ v3).setCell ⟨gb, 4, none⟩ v4).setCell ⟨gb, 5, none⟩ v5).setCell ⟨gb, 6, none⟩ v6).setCell ⟨gb, 7, none⟩ v7).setCell ⟨gb, 8, none⟩ v8).heap[gb]? = some (.cells #[v0, v1, v2, v3, v4, v5, v6, v7, v8] t (0, 0)) := by
  replace hb := blk_put (cs := #[c0, c1, c2, c3, c4, c5, c6, c7, c8]) (cs' := #[v0, c1, c2, c3, c4, c5, c6, c7, c8]) hb 0 v0 rfl
  replace hb := blk_put (cs := #[v0, c1, c2, c3, c4, c5, c6, c7, c8]) (cs' := #[v0, v1, c2, c3, c4, c5, c6, c7, c8]) hb 1 v1 rfl
  replace hb := blk_put (cs := #[v0, v1, c2, c3, c4, c5, c6, c7, c8]) (cs' := #[v0, v1, v2, c3, c4, c5, c6, c7, c8]) hb 2 v2 rfl
  replace hb := blk_put (cs := #[v0, v1, v2, c3, c4, c5, c6, c7, c8]) (cs' := #[v0, v1, v2, v3, c4, c5, c6, c7, c8]) hb 3 v3 rfl
  replace hb := blk_put (cs := #[v0, v1, v2, v3, c4, c5, c6, c7, c8]) (cs' := #[v0, v1, v2, v3, v4, c5, c6, c7, c8]) hb 4 v4 rfl
  replace hb := blk_put (cs := #[v0, v1, v2, v3, v4, c5, c6, c7, c8]) (cs' := #[v0, v1, v2, v3, v4, v5, c6, c7, c8]) hb 5 v5 rfl
  replace hb := blk_put (cs := #[v0, v1, v2, v3, v4, v5, c6, c7, c8]) (cs' := #[v0, v1, v2, v3, v4, v5, v6, c7, c8]) hb 6 v6 rfl
  replace hb := blk_put (cs := #[v0, v1, v2, v3, v4, v5, v6, c7, c8]) (cs' := #[v0, v1, v2, v3, v4, v5, v6, v7, c8]) hb 7 v7 rfl
  replace hb := blk_put (cs := #[v0, v1, v2, v3, v4, v5, v6, v7, c8]) (cs' := #[v0, v1, v2, v3, v4, v5, v6, v7, v8]) hb 8 v8 rfl
  exact hb
theorem Kd.C_old {α : Type} {d : Kd α} {w W : World} {A : Option Addr} {n : Nat} {xs : List α} (h : Kd.C d w A n xs) (hb : Below w.heap.size w W) : Kd.C d W A n xs := Kd.C_below h hb
end Go.Proofs.YthlepdjjdbpmoaaDoor.PPrintExprs
namespace Go.Proofs.YthlepdjjdbpmoaaDoor.PPrintExprs
open Go.RowKit Go.Proofs.YthlepdjjdbpmoaaDoorW.PrintWords Go.Proofs.YthlepdjjdbpmoaaDoorW.PrintLast Go.Proofs.YthlepdjjdbpmoaaDoorW.PrintMore
attribute [local go_sem] max2_int min2_int max_two min_two max_three min_three max_four min_four
set_option linter.unusedVariables false
set_option linter.unusedSimpArgs false
set_option maxRecDepth 100000
set_option maxHeartbeats 4000000
theorem tok_err {g : Nat} {A : Option Addr} {n c : Nat} {i d e : Int} {w : World} (h : Ps w g A n c i d e) (he : e ≠ 0) :
    Calls Tryd.prog 104 #[.pointer (some ⟨g, 0, none⟩)] w fun r w' => r = .returned (tkV ⟨0, ⟨#[]⟩, 0, 0⟩) ∧ Below w.heap.size w w' := by
  have HE := Lib.hid he; clear he
  have H := Lib.hid h; clear h
  go_enter Tryd.func104, Tryd.ntmps104
  go_wp2_with (((with_reducible refine gate_dst (N := 2) rfl ?_); refine box_event ?hg (N := 2) ?hd (cs := #[.int .i64 0, .string (⟨#[]⟩ : ByteArray), .int .i64 0, .int .i64 0]) (t := 142) ?hr ?_; (case hd => rfl); (case hg => rfl); (case hr => first | (go_simp; done) | (go_simp; rfl)); intro gb hg_ w1 hb_ hl_; have BKgb := am_ hb_; have HLgb := am_ hl_; have HGgb := am_ (Nat.le_of_eq hg_.symm); obtain ⟨zgb_0, zgb_1, zgb_2, zgb_3, ygb_0, ygb_1, ygb_2, ygb_3⟩ := bw4_ hb_; clear hb_ hl_ hg_; simp only [Act.put, sa_, sz_, ss_]))
  have H1 := Lib.hid (H.out.below HLgb.out); have HL := HLgb
  obtain ⟨c0, c1, c2, c3, f0, f1, f2, f3⟩ := bw4_ H1.out
  have HG := HGgb
  go_quiet ((go_at_call 62; exact Calls.quiet_of_same (ok_no (H1.out.drewN _) HE.out)))
  go_wp2
  exact bodyPost_ret (results_cell_row rfl _ _ gb 142 #[.int .i64 0, .string (⟨#[]⟩ : ByteArray), .int .i64 0, .int .i64 0] (0, 0) _ rfl (put4_ BKgb.out) Tryd.underlying142 rfl (by kernel_rfl)) rfl ⟨rfl, by repeat (first | (with_reducible exact HL.out) | refine below_set ?_ HG.out | apply pw_below_drewN)⟩
theorem tok_end {g : Nat} {A : Option Addr} {n c : Nat} {i d : Int} {w : World} (h : Ps w g A n c i d 0) (hi : (n : Int) ≤ i) :
    Calls Tryd.prog 104 #[.pointer (some ⟨g, 0, none⟩)] w fun r w' => r = .returned (tkV ⟨0, ⟨#[]⟩, 0, 0⟩) ∧ Below w.heap.size w w' := by
  have hd : decide ((n : Int) ≤ i) = true := decide_eq_true hi
  have H := Lib.hid h; clear h
  go_enter Tryd.func104, Tryd.ntmps104
  go_wp2_with (((with_reducible refine gate_dst (N := 2) rfl ?_); refine box_event ?hg (N := 2) ?hd (cs := #[.int .i64 0, .string (⟨#[]⟩ : ByteArray), .int .i64 0, .int .i64 0]) (t := 142) ?hr ?_; (case hd => rfl); (case hg => rfl); (case hr => first | (go_simp; done) | (go_simp; rfl)); intro gb hg_ w1 hb_ hl_; have BKgb := am_ hb_; have HLgb := am_ hl_; have HGgb := am_ (Nat.le_of_eq hg_.symm); obtain ⟨zgb_0, zgb_1, zgb_2, zgb_3, ygb_0, ygb_1, ygb_2, ygb_3⟩ := bw4_ hb_; clear hb_ hl_ hg_; simp only [Act.put, sa_, sz_, ss_]))
  have H1 := Lib.hid (H.out.below HLgb.out); have HL := HLgb
  obtain ⟨c0, c1, c2, c3, f0, f1, f2, f3⟩ := bw4_ H1.out
  have HG := HGgb
  go_quiet ((go_at_call 62; exact Calls.quiet_of_same (ok_yes (H1.out.drewN _))))
  go_wp2
  exact bodyPost_ret (results_cell_row rfl _ _ gb 142 #[.int .i64 0, .string (⟨#[]⟩ : ByteArray), .int .i64 0, .int .i64 0] (0, 0) _ rfl (put4_ BKgb.out) Tryd.underlying142 rfl (by kernel_rfl)) rfl ⟨rfl, by repeat (first | (with_reducible exact HL.out) | refine below_set ?_ HG.out | apply pw_below_drewN)⟩
theorem tok_in {g n : Nat} {A : Option Addr} {c : Nat} {i d : Int} {w : World} {l : List S142} (h : Ps w g A n c i d 0) (hC : Kd.C k142 w A n l) (h0 : 0 ≤ i) (hi : i < (n : Int)) :
    Calls Tryd.prog 104 #[.pointer (some ⟨g, 0, none⟩)] w fun r w' => r = .returned (tkV (rd_T142 l i)) ∧ Below w.heap.size w w' := by
  have hd : decide ((n : Int) ≤ i) = false := decide_eq_false (by omega)
  have H := Lib.hid h; have HC := Lib.hid hC; clear h hC
  go_enter Tryd.func104, Tryd.ntmps104
  go_wp2_with (((with_reducible refine gate_dst (N := 2) rfl ?_); refine box_event ?hg (N := 2) ?hd (cs := #[.int .i64 0, .string (⟨#[]⟩ : ByteArray), .int .i64 0, .int .i64 0]) (t := 142) ?hr ?_; (case hd => rfl); (case hg => rfl); (case hr => first | (go_simp; done) | (go_simp; rfl)); intro gb hg_ w1 hb_ hl_; have BKgb := am_ hb_; have HLgb := am_ hl_; have HGgb := am_ (Nat.le_of_eq hg_.symm); obtain ⟨zgb_0, zgb_1, zgb_2, zgb_3, ygb_0, ygb_1, ygb_2, ygb_3⟩ := bw4_ hb_; clear hb_ hl_ hg_; simp only [Act.put, sa_, sz_, ss_]))
  have H1 := Lib.hid (H.out.below HLgb.out)
  obtain ⟨ad, rfl, t0, t1, t2, t3⟩ := at_T142 (Kd.C_old HC.out HLgb.out) i h0 hi
  have HL := HLgb
  obtain ⟨c0, c1, c2, c3, f0, f1, f2, f3⟩ := bw4_ H1.out
  have HG := HGgb
  go_quiet ((go_at_call 62; exact Calls.quiet_of_same (ok_yes (H1.out.drewN _))))
  go_wp2
  have H2 := H1.out.drewN nq; have HL2 := pw_below_drewN HL.out nq; have B2 := blk_drewN BKgb.out nq
  obtain ⟨ad2, e2, t0', t1', t2', t3'⟩ := at_T142 (Kd.C_old HC.out HL2) i h0 hi
  obtain rfl : ad = ad2 := by injection e2
  clear c0 c1 c2 c3 f0 f1 f2 f3 zgb_0 zgb_1 zgb_2 zgb_3 ygb_0 ygb_1 ygb_2 ygb_3 t0 t1 t2 t3 H1 HL BKgb HLgb e2
  generalize w1.drewN nq = w2 at *
  have H3 := Lib.hid H2; have HL3 := Lib.hid HL2; clear H2 HL2
  obtain ⟨c0, c1, c2, c3, f0, f1, f2, f3⟩ := bw4_ H3.out
  obtain ⟨b0, b1, b2, b3, k0, k1, k2, k3⟩ := bw4_ B2
  go_still_tail 10, (by kernel_rfl)
  change wpList _ _ _ _ _ w2.drew
  go_wp2
  exact bodyPost_ret (results_cell_row rfl _ _ gb 142 #[.int .i64 (rd_T142 l i).f0, .string (rd_T142 l i).f1, .int .i64 (rd_T142 l i).f2, .int .i64 (rd_T142 l i).f3] (0, 0) _ rfl (put4_ (blk_drew B2)) Tryd.underlying142 rfl (by kernel_rfl)) rfl ⟨rfl, by repeat (first | (with_reducible exact HL3.out) | refine below_set ?_ HG.out | apply pw_below_drewN | refine Below.drew ?_)⟩
theorem tok_any {g : Nat} {A : Option Addr} {c : Nat} {i d e : Int} {w : World} {l : List S142} (h : Ps w g A l.length c i d e) (hC : Kd.C k142 w A l.length l) (h0 : 0 ≤ i) :
    Calls Tryd.prog 104 #[.pointer (some ⟨g, 0, none⟩)] w fun r w' => r = .returned (tkV (tokP l i e)) ∧ Below w.heap.size w w' := by
  unfold tokP
  by_cases he : e = 0
  · subst he
    by_cases hi : i < l.length
    · rw [if_pos ⟨rfl, hi⟩]
      exact tok_in h hC h0 hi
    · rw [if_neg (fun q => hi q.2)]
      exact tok_end h (by omega)
  · rw [if_neg (fun q => he q.1)]
    exact tok_err h he
end Go.Proofs.YthlepdjjdbpmoaaDoor.PPrintExprs
namespace Go.Proofs.YthlepdjjdbpmoaaDoor.PPrintExprs
open Go.RowKit Go.Proofs.YthlepdjjdbpmoaaDoorW.PrintWords Go.Proofs.YthlepdjjdbpmoaaDoorW.PrintLast Go.Proofs.YthlepdjjdbpmoaaDoorW.PrintMore
attribute [local go_sem] max2_int min2_int max_two min_two max_three min_three max_four min_four
set_option linter.unusedVariables false
set_option linter.unusedSimpArgs false
set_option maxRecDepth 100000
set_option maxHeartbeats 4000000
def isT (t : S142) (s : ByteArray) : Bool := (t.f0 == 2 || t.f0 == 5) && (t.f1.toList == s.toList)
def isP (l : List S142) (i e : Int) (s : ByteArray) : Bool := e == 0 && isT (tokP l i e) s
theorem ne_of_le {a b c : Nat} (h : a < b) (k : b ≤ c) : c ≠ a := by omega
theorem is_any {g : Nat} {A : Option Addr} {c : Nat} {i d e : Int} {w : World} {l : List S142} (h : Ps w g A l.length c i d e) (hC : Kd.C k142 w A l.length l) (h0 : 0 ≤ i) (s : ByteArray) :
    Calls Tryd.prog 109 #[.pointer (some ⟨g, 0, none⟩), .string s] w fun r w' => r = .returned (.bool (isP l i e s)) ∧ Below w.heap.size w w' := by
  have T := Lib.hid (tok_any h hC h0)
  unfold isP
  generalize tokP l i e = t at *
  have H := Lib.hid h; clear h hC h0
  by_cases he : e = 0
  · subst he
    by_cases k2 : t.f0 = 2
    · have q2 : (t.f0 == 2) = true := beq_iff_eq.2 k2
      have r2 : isT t s = (t.f1.toList == s.toList) := by unfold isT; rw [q2]; rfl
      have R := am_ r2; clear r2 k2
      go_enter Tryd.func109, Tryd.ntmps109
      go_wp2_with (first | ((with_reducible refine gate_callee (f := 104) rfl ?_); refine goesL_ (some 7) rfl rfl Tryd.func104 (by kernel_rfl) rfl #[.pointer (some ⟨g, 0, none⟩)] rfl (by (try simp only [List.map_toArray, List.map_cons, List.map_nil]); first | done | rfl) ?_; refine (T.out).mono ?_; rintro r' w1 ⟨rfl, hb1⟩; refine ⟨_, rfl, ?_⟩; simp only [Act.put, sa_, sz_, ss_]) | (((with_reducible refine gate_dst (N := 5) rfl ?_); refine box_event ?hg (N := 5) ?hd (cs := #[.int .i64 0, .string (⟨#[]⟩ : ByteArray), .int .i64 0, .int .i64 0]) (t := 142) ?hr ?_; (case hd => rfl); (case hg => rfl); (case hr => first | (go_simp; done) | (go_simp; rfl)); intro gb hg_ w2 hb_ hl_; have BKgb := am_ hb_; have HLgb := am_ hl_; have HGgb := am_ (Nat.le_of_eq hg_.symm); obtain ⟨zgb_0, zgb_1, zgb_2, zgb_3, ygb_0, ygb_1, ygb_2, ygb_3⟩ := bw4_ hb_; clear hb_ hl_ hg_; simp only [Act.put, sa_, sz_, ss_])) | (go_at_call 62; have H1 := H.out.below hb1; have HN := am_ (ne_of_le H1.lt HGgb.out); have H2 := am_ (H1.below HLgb.out); refine (ok_yes (A := A) (n := l.length) (c := c) (i := i) (d := d) ?hp).mono ?_; (case hp => repeat (first | (with_reducible exact H2.out) | refine Ps.far ?_ HN.out _)); rintro r' w4 ⟨rfl, rfl⟩))
      have HX := am_ (hb1.trans (HLgb.out.mono hb1.size)); have HY := am_ (Nat.le_trans hb1.size HGgb.out)
      go_ret
      exact ⟨by rw [R.out]; rfl, by repeat (first | (with_reducible exact HX.out) | refine below_set ?_ HY.out)⟩
    · have q2 : (t.f0 == 2) = false := beq_eq_false_iff_ne.2 k2
      by_cases k5 : t.f0 = 5
      · have q5 : (t.f0 == 5) = true := beq_iff_eq.2 k5
        have r2 : isT t s = (t.f1.toList == s.toList) := by unfold isT; rw [q2, q5]; rfl
        have R := am_ r2; clear r2 k2 k5
        go_enter Tryd.func109, Tryd.ntmps109
        go_wp2_with (first | ((with_reducible refine gate_callee (f := 104) rfl ?_); refine goesL_ (some 7) rfl rfl Tryd.func104 (by kernel_rfl) rfl #[.pointer (some ⟨g, 0, none⟩)] rfl (by (try simp only [List.map_toArray, List.map_cons, List.map_nil]); first | done | rfl) ?_; refine (T.out).mono ?_; rintro r' w1 ⟨rfl, hb1⟩; refine ⟨_, rfl, ?_⟩; simp only [Act.put, sa_, sz_, ss_]) | (((with_reducible refine gate_dst (N := 5) rfl ?_); refine box_event ?hg (N := 5) ?hd (cs := #[.int .i64 0, .string (⟨#[]⟩ : ByteArray), .int .i64 0, .int .i64 0]) (t := 142) ?hr ?_; (case hd => rfl); (case hg => rfl); (case hr => first | (go_simp; done) | (go_simp; rfl)); intro gb hg_ w2 hb_ hl_; have BKgb := am_ hb_; have HLgb := am_ hl_; have HGgb := am_ (Nat.le_of_eq hg_.symm); obtain ⟨zgb_0, zgb_1, zgb_2, zgb_3, ygb_0, ygb_1, ygb_2, ygb_3⟩ := bw4_ hb_; clear hb_ hl_ hg_; simp only [Act.put, sa_, sz_, ss_])) | (go_at_call 62; have H1 := H.out.below hb1; have HN := am_ (ne_of_le H1.lt HGgb.out); have H2 := am_ (H1.below HLgb.out); refine (ok_yes (A := A) (n := l.length) (c := c) (i := i) (d := d) ?hp).mono ?_; (case hp => repeat (first | (with_reducible exact H2.out) | refine Ps.far ?_ HN.out _)); rintro r' w4 ⟨rfl, rfl⟩))
        have HX := am_ (hb1.trans (HLgb.out.mono hb1.size)); have HY := am_ (Nat.le_trans hb1.size HGgb.out)
        go_ret
        exact ⟨by rw [R.out]; rfl, by repeat (first | (with_reducible exact HX.out) | refine below_set ?_ HY.out)⟩
      · have q5 : (t.f0 == 5) = false := beq_eq_false_iff_ne.2 k5
        have r2 : isT t s = false := by unfold isT; rw [q2, q5]; rfl
        have R := am_ r2; clear r2 k2 k5
        go_enter Tryd.func109, Tryd.ntmps109
        go_wp2_with (first | ((with_reducible refine gate_callee (f := 104) rfl ?_); refine goesL_ (some 7) rfl rfl Tryd.func104 (by kernel_rfl) rfl #[.pointer (some ⟨g, 0, none⟩)] rfl (by (try simp only [List.map_toArray, List.map_cons, List.map_nil]); first | done | rfl) ?_; refine (T.out).mono ?_; rintro r' w1 ⟨rfl, hb1⟩; refine ⟨_, rfl, ?_⟩; simp only [Act.put, sa_, sz_, ss_]) | (((with_reducible refine gate_dst (N := 5) rfl ?_); refine box_event ?hg (N := 5) ?hd (cs := #[.int .i64 0, .string (⟨#[]⟩ : ByteArray), .int .i64 0, .int .i64 0]) (t := 142) ?hr ?_; (case hd => rfl); (case hg => rfl); (case hr => first | (go_simp; done) | (go_simp; rfl)); intro gb hg_ w2 hb_ hl_; have BKgb := am_ hb_; have HLgb := am_ hl_; have HGgb := am_ (Nat.le_of_eq hg_.symm); obtain ⟨zgb_0, zgb_1, zgb_2, zgb_3, ygb_0, ygb_1, ygb_2, ygb_3⟩ := bw4_ hb_; clear hb_ hl_ hg_; simp only [Act.put, sa_, sz_, ss_])) | (go_at_call 62; have H1 := H.out.below hb1; have HN := am_ (ne_of_le H1.lt HGgb.out); have H2 := am_ (H1.below HLgb.out); refine (ok_yes (A := A) (n := l.length) (c := c) (i := i) (d := d) ?hp).mono ?_; (case hp => repeat (first | (with_reducible exact H2.out) | refine Ps.far ?_ HN.out _)); rintro r' w4 ⟨rfl, rfl⟩))
        have HX := am_ (hb1.trans (HLgb.out.mono hb1.size)); have HY := am_ (Nat.le_trans hb1.size HGgb.out)
        go_ret
        exact ⟨by rw [R.out]; rfl, by repeat (first | (with_reducible exact HX.out) | refine below_set ?_ HY.out)⟩
  · have HE := am_ he
    have r2 : (e == 0 && isT t s) = false := by rw [beq_eq_false_iff_ne.2 he]; rfl
    have R := am_ r2; clear r2 he
    go_enter Tryd.func109, Tryd.ntmps109
    go_wp2_with (first | ((with_reducible refine gate_callee (f := 104) rfl ?_); refine goesL_ (some 7) rfl rfl Tryd.func104 (by kernel_rfl) rfl #[.pointer (some ⟨g, 0, none⟩)] rfl (by (try simp only [List.map_toArray, List.map_cons, List.map_nil]); first | done | rfl) ?_; refine (T.out).mono ?_; rintro r' w1 ⟨rfl, hb1⟩; refine ⟨_, rfl, ?_⟩; simp only [Act.put, sa_, sz_, ss_]) | (((with_reducible refine gate_dst (N := 5) rfl ?_); refine box_event ?hg (N := 5) ?hd (cs := #[.int .i64 0, .string (⟨#[]⟩ : ByteArray), .int .i64 0, .int .i64 0]) (t := 142) ?hr ?_; (case hd => rfl); (case hg => rfl); (case hr => first | (go_simp; done) | (go_simp; rfl)); intro gb hg_ w2 hb_ hl_; have BKgb := am_ hb_; have HLgb := am_ hl_; have HGgb := am_ (Nat.le_of_eq hg_.symm); obtain ⟨zgb_0, zgb_1, zgb_2, zgb_3, ygb_0, ygb_1, ygb_2, ygb_3⟩ := bw4_ hb_; clear hb_ hl_ hg_; simp only [Act.put, sa_, sz_, ss_])) | (go_at_call 62; have H1 := H.out.below hb1; have HN := am_ (ne_of_le H1.lt HGgb.out); have H2 := am_ (H1.below HLgb.out); refine (ok_no (A := A) (n := l.length) (c := c) (i := i) (d := d) (e := e) ?hp HE.out).mono ?_; (case hp => repeat (first | (with_reducible exact H2.out) | refine Ps.far ?_ HN.out _)); rintro r' w4 ⟨rfl, rfl⟩))
    have HX := am_ (hb1.trans (HLgb.out.mono hb1.size)); have HY := am_ (Nat.le_trans hb1.size HGgb.out)
    go_ret
    exact ⟨by rw [R.out]; rfl, by repeat (first | (with_reducible exact HX.out) | refine below_set ?_ HY.out)⟩
theorem take_yes {g : Nat} {A : Option Addr} {c : Nat} {i d e : Int} {w : World} {l : List S142} (h : Ps w g A l.length c i d e) (hC : Kd.C k142 w A l.length l) (h0 : 0 ≤ i) (h1 : i ≤ l.length) (hl : l.length ≤ 1000000) (s : ByteArray) (hs : isP l i e s = true) :
    Calls Tryd.prog 67 #[.pointer (some ⟨g, 0, none⟩), .string s] w fun r w' => r = .returned (.bool true) ∧ Ps w' g A l.length c (i + 1) d e ∧ Chg g w w' := by
  have T := Lib.hid (is_any h hC h0 s); rw [hs] at T
  have HL := Lib.hid (show g < w.heap.size from h.lt)
  have H := Lib.hid h; have h2 : i ≤ 1000000 := by omega
  clear h hC hs h1 hl
  go_enter Tryd.func67, Tryd.ntmps67
  go_wp2_with (((with_reducible refine gate_callee (f := 109) rfl ?_); refine goesL_ (some 7) rfl rfl Tryd.func109 (by kernel_rfl) rfl #[.pointer (some ⟨g, 0, none⟩), .string s] rfl (by (try simp only [List.map_toArray, List.map_cons, List.map_nil]); first | done | rfl) ?_; refine (T.out).mono ?_; rintro r' w1 ⟨rfl, hb1⟩; refine ⟨_, rfl, ?_⟩; simp only [Act.put, sa_, sz_, ss_]; have H1 := H.out.below hb1; have HB := Lib.hid hb1; clear hb1; obtain ⟨c0, c1, c2, c3, f0, f1, f2, f3⟩ := bw4_ H1; have H2 := Lib.hid (H1.at_ (i + 1)); clear H1))
  go_ret
  exact ⟨rfl, H2.out, (Chg.below HL.out HB.out).set 1 _⟩
theorem take_no {g : Nat} {A : Option Addr} {c : Nat} {i d e : Int} {w : World} {l : List S142} (h : Ps w g A l.length c i d e) (hC : Kd.C k142 w A l.length l) (h0 : 0 ≤ i) (s : ByteArray) (hs : isP l i e s = false) :
    Calls Tryd.prog 67 #[.pointer (some ⟨g, 0, none⟩), .string s] w fun r w' => r = .returned (.bool false) ∧ Ps w' g A l.length c i d e ∧ Chg g w w' := by
  have T := Lib.hid (is_any h hC h0 s); rw [hs] at T
  have HL := Lib.hid (show g < w.heap.size from h.lt)
  have H := Lib.hid h; clear h hC hs
  go_enter Tryd.func67, Tryd.ntmps67
  go_wp2_with (((with_reducible refine gate_callee (f := 109) rfl ?_); refine goesL_ (some 7) rfl rfl Tryd.func109 (by kernel_rfl) rfl #[.pointer (some ⟨g, 0, none⟩), .string s] rfl (by (try simp only [List.map_toArray, List.map_cons, List.map_nil]); first | done | rfl) ?_; refine (T.out).mono ?_; rintro r' w1 ⟨rfl, hb1⟩; refine ⟨_, rfl, ?_⟩; simp only [Act.put, sa_, sz_, ss_]))
  go_wp2
  go_ret
  exact ⟨rfl, H.out.below hb1, Chg.below HL.out hb1⟩
theorem must_yes {g : Nat} {A : Option Addr} {c : Nat} {i d e : Int} {w : World} {l : List S142} (h : Ps w g A l.length c i d e) (hC : Kd.C k142 w A l.length l) (h0 : 0 ≤ i) (h1 : i ≤ l.length) (hl : l.length ≤ 1000000) (s : ByteArray) (hs : isP l i e s = true) :
    Calls Tryd.prog 63 #[.pointer (some ⟨g, 0, none⟩), .string s] w fun r w' => r = .returned (.tuple #[]) ∧ Ps w' g A l.length c (i + 1) d e ∧ Chg g w w' := by
  have T := Lib.hid (take_yes h hC h0 h1 hl s hs); clear h hC hs
  go_enter Tryd.func63, Tryd.ntmps63
  go_wp2_with (((with_reducible refine gate_callee (f := 67) rfl ?_); refine goesL_ (some 6) rfl rfl Tryd.func67 (by kernel_rfl) rfl #[.pointer (some ⟨g, 0, none⟩), .string s] rfl (by (try simp only [List.map_toArray, List.map_cons, List.map_nil]); first | done | rfl) ?_; refine (T.out).mono ?_; rintro r' w1 ⟨rfl, hp, hc⟩; refine ⟨_, rfl, ?_⟩; simp only [Act.put, sa_, sz_, ss_]))
  go_wp2
  go_end0
  exact ⟨rfl, hp, hc⟩
theorem must_no {g : Nat} {A : Option Addr} {c : Nat} {i d e : Int} {w : World} {l : List S142} (h : Ps w g A l.length c i d e) (hC : Kd.C k142 w A l.length l) (h0 : 0 ≤ i) (s : ByteArray) (hs : isP l i e s = false) :
    Calls Tryd.prog 63 #[.pointer (some ⟨g, 0, none⟩), .string s] w fun r w' => r = .returned (.tuple #[]) ∧ Ps w' g A l.length c i d (flE e 1) ∧ Chg g w w' := by
  have T := Lib.hid (take_no h hC h0 s hs); clear h hC hs
  go_enter Tryd.func63, Tryd.ntmps63
  go_wp2_with (first | ((with_reducible refine gate_callee (f := 67) rfl ?_); refine goesL_ (some 6) rfl rfl Tryd.func67 (by kernel_rfl) rfl #[.pointer (some ⟨g, 0, none⟩), .string s] rfl (by (try simp only [List.map_toArray, List.map_cons, List.map_nil]); first | done | rfl) ?_; refine (T.out).mono ?_; rintro r' w1 ⟨rfl, hp, hc⟩; refine ⟨_, rfl, ?_⟩; simp only [Act.put, sa_, sz_, ss_]) | (go_at_call 105; refine (fail_any hp 1).mono ?_; rintro r' w2 ⟨rfl, hp2, hc2⟩))
  go_end0
  exact ⟨rfl, hp2, hc.trans hc2⟩
end Go.Proofs.YthlepdjjdbpmoaaDoor.PPrintExprs
namespace Go.Proofs.YthlepdjjdbpmoaaDoor.PPrintExprs
open Go.RowKit Go.Proofs.YthlepdjjdbpmoaaDoorW.PrintWords Go.Proofs.YthlepdjjdbpmoaaDoorW.PrintLast Go.Proofs.YthlepdjjdbpmoaaDoorW.PrintMore
attribute [local go_sem] max2_int min2_int max_two min_two max_three min_three max_four min_four
set_option linter.unusedVariables false
set_option linter.unusedSimpArgs false
set_option maxRecDepth 100000
set_option maxHeartbeats 4000000
theorem Chg.far {g b : Nat} {w w1 : World} (h : Chg g w w1) (hp : w.heap.size ≤ b) (hg : g ≤ b) (j : Nat) (u : Value) : Chg g w (w1.setCell ⟨b, j, none⟩ u) := ⟨h.1.setCell hg _, keep_far h.2 hp u⟩
theorem name_yes {g : Nat} {A : Option Addr} {c : Nat} {i d e : Int} {w : World} {l : List S142} (h : Ps w g A l.length c i d e) (hC : Kd.C k142 w A l.length l) (h0 : 0 ≤ i) (h1 : i ≤ l.length) (hl : l.length ≤ 1000000) (hk : (tokP l i e).f0 = 1) :
    Calls Tryd.prog 110 #[.pointer (some ⟨g, 0, none⟩)] w fun r w' => r = .returned (.string (tokP l i e).f1) ∧ Ps w' g A l.length c (i + 1) d e ∧ Chg g w w' := by
  have T := Lib.hid (tok_any h hC h0)
  have HL := Lib.hid (show g < w.heap.size from h.lt)
  have H := Lib.hid h; have h2 : i ≤ 1000000 := by omega
  clear h hC h1 hl
  generalize tokP l i e = t at *
  have q1 : (t.f0 == 1) = true := beq_iff_eq.2 hk
  have q2 : (t.f0 != 1) = false := by rw [hk]; rfl
  clear hk
  go_enter Tryd.func110, Tryd.ntmps110
  go_wp2_with (first | ((with_reducible refine gate_callee (f := 104) rfl ?_); refine goesL_ (some 5) rfl rfl Tryd.func104 (by kernel_rfl) rfl #[.pointer (some ⟨g, 0, none⟩)] rfl (by (try simp only [List.map_toArray, List.map_cons, List.map_nil]); first | done | rfl) ?_; refine (T.out).mono ?_; rintro r' w1 ⟨rfl, hb1⟩; refine ⟨_, rfl, ?_⟩; simp only [Act.put, sa_, sz_, ss_]; have H1 := Lib.hid (H.out.below hb1); have HB := Lib.hid hb1; clear hb1) | (((with_reducible refine gate_dst (N := 3) rfl ?_); refine box_event ?hg (N := 3) ?hd (cs := #[.int .i64 0, .string (⟨#[]⟩ : ByteArray), .int .i64 0, .int .i64 0]) (t := 142) ?hr ?_; (case hd => rfl); (case hg => rfl); (case hr => first | (go_simp; done) | (go_simp; rfl)); intro gb hg_ w2 hb_ hl_; have BKgb := am_ hb_; have HLgb := am_ hl_; have HGgb := am_ (Nat.le_of_eq hg_.symm); obtain ⟨zgb_0, zgb_1, zgb_2, zgb_3, ygb_0, ygb_1, ygb_2, ygb_3⟩ := bw4_ hb_; clear hb_ hl_ hg_; simp only [Act.put, sa_, sz_, ss_]); have H2 := H1.out.below HLgb.out; obtain ⟨c0, c1, c2, c3, f0, f1, f2, f3⟩ := bw4_ H2; have HN := ne_of_le H1.out.lt HGgb.out; have HM := HN.symm; have H3 := Lib.hid H2; clear H2))
  have HY := am_ (Nat.le_trans HB.out.size HGgb.out); have HZ := am_ (Nat.le_trans (Nat.le_of_lt HL.out) HY.out)
  have HQ := am_ ((Chg.below HL.out HB.out).trans (Chg.below H1.out.lt HLgb.out))
  go_ret
  refine ⟨rfl, ?_, ?_⟩
  · refine Ps.at_ (i := i) ?_ _
    repeat (first | (with_reducible exact H3.out) | refine Ps.far ?_ HN _)
  · repeat (first | (with_reducible exact HQ.out) | refine Chg.set ?_ _ _ | refine Chg.far ?_ HY.out HZ.out _ _)
theorem name_no {g : Nat} {A : Option Addr} {c : Nat} {i d e : Int} {w : World} {l : List S142} (h : Ps w g A l.length c i d e) (hC : Kd.C k142 w A l.length l) (h0 : 0 ≤ i) (hk : (tokP l i e).f0 ≠ 1) :
    Calls Tryd.prog 110 #[.pointer (some ⟨g, 0, none⟩)] w fun r w' => r = .returned (.string ⟨#[]⟩) ∧ Ps w' g A l.length c i d (flE e 1) ∧ Chg g w w' := by
  have T := Lib.hid (tok_any h hC h0)
  have HL := Lib.hid (show g < w.heap.size from h.lt)
  have H := Lib.hid h
  clear h hC
  generalize tokP l i e = t at *
  have q2 : (t.f0 != 1) = true := bne_iff_ne.2 hk
  clear hk
  go_enter Tryd.func110, Tryd.ntmps110
  go_wp2_with (first | ((with_reducible refine gate_callee (f := 104) rfl ?_); refine goesL_ (some 5) rfl rfl Tryd.func104 (by kernel_rfl) rfl #[.pointer (some ⟨g, 0, none⟩)] rfl (by (try simp only [List.map_toArray, List.map_cons, List.map_nil]); first | done | rfl) ?_; refine (T.out).mono ?_; rintro r' w1 ⟨rfl, hb1⟩; refine ⟨_, rfl, ?_⟩; simp only [Act.put, sa_, sz_, ss_]; have H1 := Lib.hid (H.out.below hb1); have HB := Lib.hid hb1; clear hb1) | (((with_reducible refine gate_dst (N := 3) rfl ?_); refine box_event ?hg (N := 3) ?hd (cs := #[.int .i64 0, .string (⟨#[]⟩ : ByteArray), .int .i64 0, .int .i64 0]) (t := 142) ?hr ?_; (case hd => rfl); (case hg => rfl); (case hr => first | (go_simp; done) | (go_simp; rfl)); intro gb hg_ w2 hb_ hl_; have BKgb := am_ hb_; have HLgb := am_ hl_; have HGgb := am_ (Nat.le_of_eq hg_.symm); obtain ⟨zgb_0, zgb_1, zgb_2, zgb_3, ygb_0, ygb_1, ygb_2, ygb_3⟩ := bw4_ hb_; clear hb_ hl_ hg_; simp only [Act.put, sa_, sz_, ss_]); have HN := am_ (ne_of_le H1.out.lt HGgb.out); have H3 := Lib.hid (H1.out.below HLgb.out)) | (go_at_call 105; refine (fail_any (A := A) (n := l.length) (c := c) (i := i) (d := d) (e := e) ?hp 1).mono ?_; (case hp => repeat (first | (with_reducible exact H3.out) | refine Ps.far ?_ HN.out _)); rintro r' w3 ⟨rfl, hp3, hc3⟩))
  have HY := am_ (Nat.le_trans HB.out.size HGgb.out); have HZ := am_ (Nat.le_trans (Nat.le_of_lt HL.out) HY.out)
  have HQ := am_ ((Chg.below HL.out HB.out).trans (Chg.below H1.out.lt HLgb.out))
  go_ret
  refine ⟨rfl, hp3, Chg.trans ?_ hc3⟩
  repeat (first | (with_reducible exact HQ.out) | refine Chg.far ?_ HY.out HZ.out _ _)
theorem field142 (w : World) (x y z : Int) (s : ByteArray) : (Instr.field 142 (.agg #[.int .i64 x, .string s, .int .i64 y, .int .i64 z]) 0).run Tryd.prog w = .ok (.int .i64 x) w := by kernel_rfl
theorem tok_agg {g : Nat} {A : Option Addr} {c : Nat} {i d e : Int} {w : World} {l : List S142} (h : Ps w g A l.length c i d e) (hC : Kd.C k142 w A l.length l) (h0 : 0 ≤ i) (t : S142) (ht : tokP l i e = t) :
    Calls Tryd.prog 104 #[.pointer (some ⟨g, 0, none⟩)] w fun r w' => r = .returned (.agg #[.int .i64 t.f0, .string t.f1, .int .i64 t.f2, .int .i64 t.f3]) ∧ Below w.heap.size w w' := ht ▸ tok_any h hC h0
theorem end_err {g : Nat} {A : Option Addr} {n c : Nat} {i d e : Int} {w : World} (h : Ps w g A n c i d e) (he : e ≠ 0) :
    Calls Tryd.prog 61 #[.pointer (some ⟨g, 0, none⟩)] w fun r w' => r = .returned (.tuple #[]) ∧ Ps w' g A n c i d e ∧ Chg g w w' := by
  have HE := Lib.hid he; have H := Lib.hid h; clear he h
  go_enter Tryd.func61, Tryd.ntmps61
  go_wp2_with (go_at_call 62; refine (ok_no H.out HE.out).mono ?_; rintro r' w4 ⟨rfl, rfl⟩)
  go_end0
  exact ⟨rfl, H.out, Chg.refl _ _⟩
theorem end_ok {g : Nat} {A : Option Addr} {c : Nat} {i d : Int} {w : World} {l : List S142} (h : Ps w g A l.length c i d 0) (hC : Kd.C k142 w A l.length l) (h0 : 0 ≤ i) (hk : (tokP l i 0).f0 = 0) :
    Calls Tryd.prog 61 #[.pointer (some ⟨g, 0, none⟩)] w fun r w' => r = .returned (.tuple #[]) ∧ Ps w' g A l.length c i d 0 ∧ Chg g w w' := by
  obtain ⟨t, ht⟩ : ∃ t, tokP l i 0 = t := ⟨_, rfl⟩
  have T := Lib.hid (tok_agg h hC h0 t ht)
  rw [ht] at hk
  have HL := Lib.hid (show g < w.heap.size from h.lt)
  have H := Lib.hid h
  have q2 : (t.f0 != 0) = false := by rw [hk]; rfl
  clear h hC ht hk
  have hu142 := field142
  go_enter Tryd.func61, Tryd.ntmps61
  go_wp2_with (first | (go_at_call 62; refine (ok_yes H.out).mono ?_; rintro r' w4 ⟨rfl, rfl⟩) | (go_at_call 104; refine T.out.mono ?_; rintro r' w1 ⟨rfl, hb1⟩; have H1 := Lib.hid (H.out.below hb1); have HB := Lib.hid hb1; clear hb1))
  go_end0
  exact ⟨rfl, H1.out, Chg.below HL.out HB.out⟩
theorem end_no {g : Nat} {A : Option Addr} {c : Nat} {i d : Int} {w : World} {l : List S142} (h : Ps w g A l.length c i d 0) (hC : Kd.C k142 w A l.length l) (h0 : 0 ≤ i) (hk : (tokP l i 0).f0 ≠ 0) :
    Calls Tryd.prog 61 #[.pointer (some ⟨g, 0, none⟩)] w fun r w' => r = .returned (.tuple #[]) ∧ Ps w' g A l.length c i d 1 ∧ Chg g w w' := by
  obtain ⟨t, ht⟩ : ∃ t, tokP l i 0 = t := ⟨_, rfl⟩
  have T := Lib.hid (tok_agg h hC h0 t ht)
  rw [ht] at hk
  have HL := Lib.hid (show g < w.heap.size from h.lt)
  have H := Lib.hid h
  have q2 : (t.f0 != 0) = true := bne_iff_ne.2 hk
  clear h hC ht hk
  have hu142 := field142
  go_enter Tryd.func61, Tryd.ntmps61
  go_wp2_with (first | (go_at_call 62; refine (ok_yes H.out).mono ?_; rintro r' w4 ⟨rfl, rfl⟩) | (go_at_call 104; refine T.out.mono ?_; rintro r' w1 ⟨rfl, hb1⟩; have H1 := Lib.hid (H.out.below hb1); have HB := Lib.hid hb1; clear hb1) | (go_at_call 105; refine (fail_any H1.out 1).mono ?_; rintro r' w2 ⟨rfl, hp2, hc2⟩))
  go_end0
  exact ⟨rfl, hp2, (Chg.below HL.out HB.out).trans hc2⟩
end Go.Proofs.YthlepdjjdbpmoaaDoor.PPrintExprs
namespace Go.Proofs.YthlepdjjdbpmoaaDoor.PPrintExprs
open Go.RowKit Go.Proofs.YthlepdjjdbpmoaaDoorW.PrintWords Go.Proofs.YthlepdjjdbpmoaaDoorW.PrintLast Go.Proofs.YthlepdjjdbpmoaaDoorW.PrintMore
attribute [local go_sem] max2_int min2_int max_two min_two max_three min_three max_four min_four
set_option linter.unusedVariables false
set_option linter.unusedSimpArgs false
set_option maxRecDepth 100000
set_option maxHeartbeats 4000000
def exV (x : S26) (A : Option Addr) (c : Nat) : Value := .agg #[.int .i64 x.f0, .string x.f1, .string x.f2, .int .i64 x.f3, .int .i64 x.f4, .int .i64 x.f5.f0, .int .i64 x.f5.f1, .string x.f5.f2, .slice A x.f6.length c]
def Tr (W : World) (ok : Nat → Prop) (x : S26) (A : Option Addr) (c : Nat) : Prop := x.f6.length ≤ c ∧ Kd.F k26 W ok A x.f6.length x.f6
section
variable {W W1 w : World} {ok ok' : Nat → Prop} {x y : S26} {A A' : Option Addr} {c c' g b e : Nat}
theorem Tr.step (h : Tr W ok x A c) (hm : ∀ k, ok k → k < W.heap.size → W1.heap[k]? = W.heap[k]?) : Tr W1 ok x A c := ⟨h.1, Kd.F_step h.2 hm⟩
theorem Tr.mono (h : Tr W ok x A c) (hm : ∀ k, k < W.heap.size → ok k → ok' k) : Tr W ok' x A c := ⟨h.1, Kd.F_mono (Kd.F_bound h.2) (fun k hk => hm k hk.2 hk.1)⟩
theorem Tr.chg (h : Tr W ok x A c) (k : Chg g W W1) (hg : ¬ ok g) : Tr W1 ok x A c := h.step fun q hq hl => k.2.2 q hl (fun e => hg (e ▸ hq)) (by simp)
theorem Tr.below (h : Tr W ok x A c) (k : Below W.heap.size W W1) : Tr W1 ok x A c := h.step fun q hq hl => k.block q hl
theorem Tr.to_FK (h : Tr W ok x A c) : Kd.FK k26 W ok x [.int .i64 x.f0, .string x.f1, .string x.f2, .int .i64 x.f3, .int .i64 x.f4, .int .i64 x.f5.f0, .int .i64 x.f5.f1, .string x.f5.f2, .slice A x.f6.length c] := k26_mkF W ok x h.1 h.2
theorem Tr.leaf (h : ∀ ok, Tr w ok x A c) : ∀ ok, Tr W ok x A c := fun ok => ⟨(h ok).1, fun W' _ => (h (fun _ => False)).2 W' (fun _ q => q.elim)⟩
theorem Tr.empty {ws : Value} (h : Kd.R k26 e w b ok' ws []) (hx : x.f6 = []) : ∃ A c, ws = .slice A x.f6.length c ∧ ∀ W ok, Tr W ok x A c := by
  obtain ⟨A, c, he, hl, hr⟩ := Kd.R_reads h
  refine ⟨A, c, by rw [hx]; exact he, fun W ok => ⟨by rw [hx]; exact Nat.zero_le _, ?_⟩⟩
  rw [hx]
  exact fun W' _ => ⟨rfl, by simp, fun q => absurd q (Nat.lt_irrefl 0)⟩
theorem reps2 (h : Tr W ok x A c) (k : Tr W ok y A' c') : Reps (Kd.FK k26 W ok) 9 [x, y] [.int .i64 x.f0, .string x.f1, .string x.f2, .int .i64 x.f3, .int .i64 x.f4, .int .i64 x.f5.f0, .int .i64 x.f5.f1, .string x.f5.f2, .slice A x.f6.length c, .int .i64 y.f0, .string y.f1, .string y.f2, .int .i64 y.f3, .int .i64 y.f4, .int .i64 y.f5.f0, .int .i64 y.f5.f1, .string y.f5.f2, .slice A' y.f6.length c'] := Reps.c9 h.to_FK (Reps.c9 k.to_FK (Reps.none _ _))
theorem reps1 (h : Tr W ok x A c) : Reps (Kd.FK k26 W ok) 9 [x] [.int .i64 x.f0, .string x.f1, .string x.f2, .int .i64 x.f3, .int .i64 x.f4, .int .i64 x.f5.f0, .int .i64 x.f5.f1, .string x.f5.f2, .slice A x.f6.length c] := Reps.c9 h.to_FK (Reps.none _ _)
end
def ofP (op : Int) (l : List S26) : S26 := ⟨op, ⟨#[]⟩, ⟨#[]⟩, 0, 0, ⟨0, 0, ⟨#[]⟩⟩, l⟩
def colP (a b : ByteArray) : S26 := ⟨15, a, b, 0, 0, ⟨0, 0, ⟨#[]⟩⟩, []⟩
def valP (a b : Int) (s : ByteArray) : S26 := ⟨16, ⟨#[]⟩, ⟨#[]⟩, 0, 0, ⟨a, b, s⟩, []⟩
theorem ofP_f (op : Int) (l : List S26) (hs : l.length ≤ 100) : tree_Of.f op l = some (op, ⟨#[]⟩, ⟨#[]⟩, 0, 0, 0, 0, ⟨#[]⟩, l) := by
  unfold tree_Of.f api_Expr.f
  rw [Option.bind_some, if_pos (by rw [List.length_nil]; omega), Option.bind_some, List.nil_append]
theorem of_any (op : Int) (l : List S26) (hs : l.length ≤ 100) {A : Option Addr} {c b : Nat} {P : Nat → Prop} {w : World} (h : Kd.V k26 26 w b P (.slice A l.length c) l) :
    Calls Tryd.prog 106 #[.int .i64 op, .slice A l.length c] w fun r w' => ∃ vA vc, r = .returned (exV (ofP op l) vA vc) ∧ Tr w' (fun k => P k ∨ w.heap.size ≤ k) (ofP op l) vA vc ∧ Below w.heap.size w w' := by
  refine (tree_Of.calls op P A c l _ _ _ _ _ _ _ _ _ w h (ofP_f op l hs)).mono ?_
  rintro r w' ⟨v, hr, hn, hb⟩
  obtain ⟨A1, c1, e1, l1, f1⟩ := Kd.N_V (base' := 0) hn
  subst e1
  exact ⟨A1, c1, hr, ⟨l1, f1⟩, hb⟩
theorem col_any (a b : ByteArray) (w : World) :
    Calls Tryd.prog 111 #[.string a, .string b] w fun r w' => ∃ vA vc, r = .returned (exV (colP a b) vA vc) ∧ (∀ W ok, Tr W ok (colP a b) vA vc) ∧ Below w.heap.size w w' := by
  refine (tree_Col.calls a b _ _ _ _ _ _ _ _ _ w (by unfold tree_Col.f; rfl)).mono ?_
  rintro r w' ⟨v, hr, hn, hb⟩
  obtain ⟨A1, c1, e1, q⟩ := Tr.empty (x := colP a b) hn rfl
  subst e1
  exact ⟨A1, c1, hr, q, hb⟩
theorem val_any (x : Int) (y : Int) (s : ByteArray) (w : World) :
    Calls Tryd.prog 177 #[.agg #[.int .i64 x, .int .i64 y, .string s]] w fun r w' => ∃ vA vc, r = .returned (exV (valP x y s) vA vc) ∧ (∀ W ok, Tr W ok (valP x y s) vA vc) ∧ Below w.heap.size w w' := by
  refine (tree_Val.calls x y s _ _ _ _ _ _ _ _ _ w (by unfold tree_Val.f; rfl)).mono ?_
  rintro r w' ⟨v, hr, hn, hb⟩
  obtain ⟨A1, c1, e1, q⟩ := Tr.empty (x := valP x y s) hn rfl
  subst e1
  exact ⟨A1, c1, hr, q, hb⟩
end Go.Proofs.YthlepdjjdbpmoaaDoor.PPrintExprs
namespace Go.Proofs.YthlepdjjdbpmoaaDoor.PPrintExprs
open Go.RowKit Go.Proofs.YthlepdjjdbpmoaaDoorW.PrintWords Go.Proofs.YthlepdjjdbpmoaaDoorW.PrintLast Go.Proofs.YthlepdjjdbpmoaaDoorW.PrintMore
attribute [local go_sem] max2_int min2_int max_two min_two max_three min_three max_four min_four
set_option linter.unusedVariables false
set_option linter.unusedSimpArgs false
set_option maxRecDepth 100000
set_option maxHeartbeats 4000000
def Tok (w : World) (g : Nat) (A : Option Addr) (l : List S142) : Prop := ∃ wB, Kd.C k142 wB A l.length l ∧ Below wB.heap.size wB w ∧ wB.heap.size ≤ g
structure St (w : World) (g : Nat) (A : Option Addr) (c : Nat) (l : List S142) (i d e : Int) : Prop where
  ps : Ps w g A l.length c i d e
  tk : Tok w g A l
  i0 : 0 ≤ i
  i1 : i ≤ l.length
  hl : l.length ≤ 1000000
theorem Tok.now {w : World} {g : Nat} {A : Option Addr} {l : List S142} (h : Tok w g A l) : Kd.C k142 w A l.length l := by
  obtain ⟨wB, hc, hb, _⟩ := h
  exact Kd.C_below hc hb
theorem Tok.chg {w w' : World} {g : Nat} {A : Option Addr} {l : List S142} (h : Tok w g A l) (k : Chg g w w') : Tok w' g A l := by
  obtain ⟨wB, hc, hb, hg⟩ := h
  exact ⟨wB, hc, hb.trans (k.1.mono hg), hg⟩
theorem St.lt {w : World} {g : Nat} {A : Option Addr} {c : Nat} {l : List S142} {i d e : Int} (h : St w g A c l i d e) : g < w.heap.size := h.ps.lt
theorem St.go {w w' : World} {g : Nat} {A : Option Addr} {c : Nat} {l : List S142} {i d e i' d' e' : Int} (h : St w g A c l i d e) (k : Chg g w w') (p : Ps w' g A l.length c i' d' e') (h0 : 0 ≤ i') (h1 : i' ≤ l.length) : St w' g A c l i' d' e' := ⟨p, h.tk.chg k, h0, h1, h.hl⟩
theorem St.below {w w' : World} {g : Nat} {A : Option Addr} {c : Nat} {l : List S142} {i d e : Int} (h : St w g A c l i d e) (k : Below w.heap.size w w') : St w' g A c l i d e := h.go (Chg.below h.lt k) (h.ps.below k) h.i0 h.i1
theorem tok_le (l : List S142) (i e : Int) (h : (tokP l i e).f0 ≠ 0) : e = 0 ∧ i < l.length := by
  unfold tokP at h
  split at h
  · assumption
  · exact absurd rfl h
theorem isP_le (l : List S142) (i e : Int) (s : ByteArray) (h : isP l i e s = true) : e = 0 ∧ i < l.length := by
  unfold isP isT at h
  simp only [Bool.and_eq_true, Bool.or_eq_true, beq_iff_eq] at h
  refine tok_le l i e ?_
  rcases h.2.1 with q | q <;> rw [q] <;> decide
def nmI (l : List S142) (i e : Int) : Int := if (tokP l i e).f0 = 1 then i + 1 else i
def nmE (l : List S142) (i e : Int) : Int := if (tokP l i e).f0 = 1 then e else flE e 1
def nmS (l : List S142) (i e : Int) : ByteArray := if (tokP l i e).f0 = 1 then (tokP l i e).f1 else ⟨#[]⟩
theorem name_st {w : World} {g : Nat} {A : Option Addr} {c : Nat} {l : List S142} {i d e : Int} (h : St w g A c l i d e) :
    Calls Tryd.prog 110 #[.pointer (some ⟨g, 0, none⟩)] w fun r w' => r = .returned (.string (nmS l i e)) ∧ St w' g A c l (nmI l i e) d (nmE l i e) ∧ Chg g w w' := by
  have h0 := h.i0; have h1 := h.i1
  unfold nmS nmI nmE
  by_cases k : (tokP l i e).f0 = 1
  · rw [if_pos k, if_pos k, if_pos k]
    have q := tok_le l i e (by rw [k]; decide)
    refine (name_yes h.ps h.tk.now h.i0 h.i1 h.hl k).mono ?_
    rintro r w' ⟨hr, hp, hc⟩
    exact ⟨hr, h.go hc hp (by omega) (by omega), hc⟩
  · rw [if_neg k, if_neg k, if_neg k]
    refine (name_no h.ps h.tk.now h.i0 k).mono ?_
    rintro r w' ⟨hr, hp, hc⟩
    exact ⟨hr, h.go hc hp h0 h1, hc⟩
theorem take_yes_st {w : World} {g : Nat} {A : Option Addr} {c : Nat} {l : List S142} {i d e : Int} (h : St w g A c l i d e) (s : ByteArray) (hs : isP l i e s = true) :
    Calls Tryd.prog 67 #[.pointer (some ⟨g, 0, none⟩), .string s] w fun r w' => r = .returned (.bool true) ∧ St w' g A c l (i + 1) d e ∧ Chg g w w' := by
  have h0 := h.i0; have q := isP_le l i e s hs
  refine (take_yes h.ps h.tk.now h.i0 h.i1 h.hl s hs).mono ?_
  rintro r w' ⟨hr, hp, hc⟩
  exact ⟨hr, h.go hc hp (by omega) (by omega), hc⟩
theorem take_no_st {w : World} {g : Nat} {A : Option Addr} {c : Nat} {l : List S142} {i d e : Int} (h : St w g A c l i d e) (s : ByteArray) (hs : isP l i e s = false) :
    Calls Tryd.prog 67 #[.pointer (some ⟨g, 0, none⟩), .string s] w fun r w' => r = .returned (.bool false) ∧ St w' g A c l i d e ∧ Chg g w w' := by
  refine (take_no h.ps h.tk.now h.i0 s hs).mono ?_
  rintro r w' ⟨hr, hp, hc⟩
  exact ⟨hr, h.go hc hp h.i0 h.i1, hc⟩
theorem is_st {w : World} {g : Nat} {A : Option Addr} {c : Nat} {l : List S142} {i d e : Int} (h : St w g A c l i d e) (s : ByteArray) (b : Bool) (hs : isP l i e s = b) :
    Calls Tryd.prog 109 #[.pointer (some ⟨g, 0, none⟩), .string s] w fun r w' => r = .returned (.bool b) ∧ St w' g A c l i d e ∧ Chg g w w' := by
  refine (is_any h.ps h.tk.now h.i0 s).mono ?_
  rintro r w' ⟨hr, hb⟩
  exact ⟨by rw [hr, hs], h.below hb, Chg.below h.lt hb⟩
def muI (l : List S142) (i e : Int) (s : ByteArray) : Int := if isP l i e s = true then i + 1 else i
def muE (l : List S142) (i e : Int) (s : ByteArray) : Int := if isP l i e s = true then e else flE e 1
theorem must_st {w : World} {g : Nat} {A : Option Addr} {c : Nat} {l : List S142} {i d e : Int} (h : St w g A c l i d e) (s : ByteArray) :
    Calls Tryd.prog 63 #[.pointer (some ⟨g, 0, none⟩), .string s] w fun r w' => r = .returned (.tuple #[]) ∧ St w' g A c l (muI l i e s) d (muE l i e s) ∧ Chg g w w' := by
  have h0 := h.i0; have h1 := h.i1
  unfold muI muE
  cases hs : isP l i e s with
  | true =>
    rw [if_pos rfl, if_pos rfl]
    have q := isP_le l i e s hs
    refine (must_yes h.ps h.tk.now h.i0 h.i1 h.hl s hs).mono ?_
    rintro r w' ⟨hr, hp, hc⟩
    exact ⟨hr, h.go hc hp (by omega) (by omega), hc⟩
  | false =>
    rw [if_neg (by decide), if_neg (by decide)]
    refine (must_no h.ps h.tk.now h.i0 s hs).mono ?_
    rintro r w' ⟨hr, hp, hc⟩
    exact ⟨hr, h.go hc hp h0 h1, hc⟩
theorem tok_st {w : World} {g : Nat} {A : Option Addr} {c : Nat} {l : List S142} {i d e : Int} (h : St w g A c l i d e) (t : S142) (ht : tokP l i e = t) :
    Calls Tryd.prog 104 #[.pointer (some ⟨g, 0, none⟩)] w fun r w' => r = .returned (.agg #[.int .i64 t.f0, .string t.f1, .int .i64 t.f2, .int .i64 t.f3]) ∧ St w' g A c l i d e ∧ Below w.heap.size w w' :=
  (tok_agg h.ps h.tk.now h.i0 t ht).mono fun r w' ⟨hr, hb⟩ => ⟨hr, h.below hb, hb⟩
theorem down_st {w : World} {g : Nat} {A : Option Addr} {c : Nat} {l : List S142} {i d e : Int} (h : St w g A c l i d e) (h0 : -1000 ≤ d) (h1 : d ≤ 1000) :
    Calls Tryd.prog 153 #[.pointer (some ⟨g, 0, none⟩)] w fun r w' => r = .returned (.tuple #[]) ∧ St w' g A c l i (d + 1) (dnE d e) ∧ Chg g w w' :=
  (down_any h.ps h0 h1).mono fun r w' ⟨hr, hp, hc⟩ => ⟨hr, h.go hc hp h.i0 h.i1, hc⟩
theorem Chg.box {g gb : Nat} {w w' : World} (h : Chg g w w') {o : Obj} (hb : w.heap[gb]? = some o) (hn : gb ≠ g) : w'.heap[gb]? = some o := h.blk hb hn
theorem St.box {w w' : World} {g gb : Nat} {A : Option Addr} {c : Nat} {l : List S142} {i d e : Int} (h : St w g A c l i d e) (k : Chg gb w w') (hg : g < gb) : St w' g A c l i d e := by
  obtain ⟨wB, hc, hb, hB⟩ := h.tk
  exact ⟨k.blk h.ps (by omega), ⟨wB, hc, hb.trans (k.1.mono (by omega)), hB⟩, h.i0, h.i1, h.hl⟩
end Go.Proofs.YthlepdjjdbpmoaaDoor.PPrintExprs
namespace Go.Proofs.YthlepdjjdbpmoaaDoor.PPrintExprs
open Go.RowKit Go.Proofs.YthlepdjjdbpmoaaDoorW.PrintWords Go.Proofs.YthlepdjjdbpmoaaDoorW.PrintLast Go.Proofs.YthlepdjjdbpmoaaDoorW.PrintMore
attribute [local go_sem] max2_int min2_int max_two min_two max_three min_three max_four min_four
set_option linter.unusedVariables false
set_option linter.unusedSimpArgs false
set_option maxRecDepth 100000
set_option maxHeartbeats 4000000
theorem chg9_ {gb : Nat} {W : World} {v0 v1 v2 v3 v4 v5 v6 v7 v8 : Value} : Chg gb W (((((((((W.setCell ⟨gb, 0, none⟩ v0).setCell ⟨gb, 1, none⟩ v1).setCell ⟨gb, 2, none⟩ v2).setCell ⟨gb, 3, none⟩ v3).setCell ⟨gb, 4, none⟩ v4).setCell ⟨gb, 5, none⟩ v5).setCell ⟨gb, 6, none⟩ v6).setCell ⟨gb, 7, none⟩ v7).setCell ⟨gb, 8, none⟩ v8) := (((((((((Chg.refl gb W).set 0 v0).set 1 v1).set 2 v2).set 3 v3).set 4 v4).set 5 v5).set 6 v6).set 7 v7).set 8 v8
theorem Chg.own {g gb : Nat} {w W W1 : World} (h : Chg g w W) (k : Chg gb W W1) (hp : w.heap.size ≤ gb) (hg : g ≤ gb) : Chg g w W1 := ⟨h.1.trans (k.1.mono hg), Nat.le_trans h.2.1 k.2.1, fun i hi hn _ => (k.2.2 i (Nat.lt_of_lt_of_le hi h.2.1) (by omega) (by simp)).trans (h.2.2 i hi hn (by simp))⟩
def coX (l : List S142) (i e : Int) : S26 := if isP l (nmI l i e) (nmE l i e) ⟨#[46]⟩ = true then colP (nmS l i e) (nmS l (nmI l i e + 1) (nmE l i e)) else colP ⟨#[]⟩ (nmS l i e)
def coI (l : List S142) (i e : Int) : Int := if isP l (nmI l i e) (nmE l i e) ⟨#[46]⟩ = true then nmI l (nmI l i e + 1) (nmE l i e) else nmI l i e
def coE (l : List S142) (i e : Int) : Int := if isP l (nmI l i e) (nmE l i e) ⟨#[46]⟩ = true then nmE l (nmI l i e + 1) (nmE l i e) else nmE l i e
theorem col_no {w : World} {g : Nat} {A : Option Addr} {c : Nat} {l : List S142} {i d e : Int} (h : St w g A c l i d e) (hs : isP l (nmI l i e) (nmE l i e) ⟨#[46]⟩ = false) :
    Calls Tryd.prog 68 #[.pointer (some ⟨g, 0, none⟩)] w fun r w' => ∃ vA vc, r = .returned (exV (colP ⟨#[]⟩ (nmS l i e)) vA vc) ∧ St w' g A c l (nmI l i e) d (nmE l i e) ∧ Chg g w w' ∧ ∀ W ok, Tr W ok (colP ⟨#[]⟩ (nmS l i e)) vA vc := by
  have HS := Lib.hid hs; clear hs
  have H := Lib.hid h; clear h
  go_enter Tryd.func68, Tryd.ntmps68
  go_wp2_with (first
    | (((with_reducible refine gate_dst (N := 2) rfl ?_); refine box_event ?hg (N := 2) ?hd (cs := #[.int .i64 0, .string (⟨#[]⟩ : ByteArray), .string (⟨#[]⟩ : ByteArray), .int .i64 0, .int .i64 0, .int .i64 0, .int .i64 0, .string (⟨#[]⟩ : ByteArray), .slice none 0 0]) (t := 26) ?hr ?_; (case hd => rfl); (case hg => rfl); (case hr => first | (go_simp; done) | (go_simp; rfl)); intro gb hg_ w1 hb_ hl_; have BKgb := am_ hb_; have HLgb := am_ hl_; have HGgb := am_ (Nat.le_of_eq hg_.symm); obtain ⟨zgb_0, zgb_1, zgb_2, zgb_3, zgb_4, zgb_5, zgb_6, zgb_7, zgb_8, ygb_0, ygb_1, ygb_2, ygb_3, ygb_4, ygb_5, ygb_6, ygb_7, ygb_8⟩ := bw9_ hb_; clear hb_ hl_ hg_; simp only [Act.put, sa_, sz_, ss_]); have H1 := Lib.hid (H.out.below HLgb.out); have HG := Lib.hid (Nat.lt_of_lt_of_le H.out.lt HGgb.out); have HN := Lib.hid (ne_of_le H.out.lt HGgb.out); clear zgb_0 zgb_1 zgb_2 zgb_3 zgb_4 zgb_5 zgb_6 zgb_7 zgb_8 ygb_0 ygb_1 ygb_2 ygb_3 ygb_4 ygb_5 ygb_6 ygb_7 ygb_8)
    | ((with_reducible refine gate_callee (f := 110) rfl ?_); refine goesL_ (some 5) rfl rfl Tryd.func110 (by kernel_rfl) rfl #[.pointer (some ⟨g, 0, none⟩)] rfl (by (try simp only [List.map_toArray, List.map_cons, List.map_nil]); first | done | rfl) ?_; refine (name_st H1.out).mono ?_; rintro r' w2 ⟨rfl, h2, c2⟩; refine ⟨_, rfl, ?_⟩; simp only [Act.put, sa_, sz_, ss_]; have H2 := Lib.hid h2; have C2 := Lib.hid c2; clear h2 c2)
    | ((with_reducible refine gate_callee (f := 67) rfl ?_); refine goesL_ (some 7) rfl rfl Tryd.func67 (by kernel_rfl) rfl #[.pointer (some ⟨g, 0, none⟩), .string ⟨#[46]⟩] rfl (by (try simp only [List.map_toArray, List.map_cons, List.map_nil]); first | done | rfl) ?_; refine (take_no_st H2.out _ HS.out).mono ?_; rintro r' w3 ⟨rfl, h3, c3⟩; refine ⟨_, rfl, ?_⟩; simp only [Act.put, sa_, sz_, ss_]; have H3 := Lib.hid h3; have C3 := Lib.hid c3; clear h3 c3)
    | ((with_reducible refine gate_callee (f := 111) rfl ?_); refine goesL_ (some 10) rfl rfl Tryd.func111 (by kernel_rfl) rfl #[.string ⟨#[]⟩, .string (nmS l i e)] rfl (by (try simp only [List.map_toArray, List.map_cons, List.map_nil]); first | done | rfl) ?_; refine (col_any ⟨#[]⟩ (nmS l i e) w3).mono ?_; rintro r' w4 ⟨vA, vc, rfl, ht, hb4⟩; refine ⟨_, rfl, ?_⟩; simp only [Act.put, sa_, sz_, ss_]; simp only [exV, colP, List.length_nil]; have HB4 := Lib.hid hb4; have HT := Lib.hid ht; clear hb4 ht; have BK4 := Lib.hid (blk_below (C3.out.box (C2.out.box BKgb.out HN.out) HN.out) HB4.out); obtain ⟨s0, s1, s2, s3, s4, s5, s6, s7, s8, r0, r1, r2, r3, r4, r5, r6, r7, r8⟩ := bw9_ BK4.out))
  exact bodyPost_ret (results_cell_row rfl _ _ gb 26 #[.int .i64 15, .string ⟨#[]⟩, .string (nmS l i e), .int .i64 0, .int .i64 0, .int .i64 0, .int .i64 0, .string ⟨#[]⟩, .slice vA 0 vc] (0, 0) _ rfl (put9_ BK4.out) Tryd.underlying26 rfl (by kernel_rfl)) rfl ⟨vA, vc, rfl, (H3.out.below HB4.out).box chg9_ HG.out, ((((Chg.below H.out.lt HLgb.out).trans C2.out).trans C3.out).trans (Chg.below H3.out.lt HB4.out)).own chg9_ HGgb.out (Nat.le_of_lt HG.out), HT.out⟩
theorem col_yes {w : World} {g : Nat} {A : Option Addr} {c : Nat} {l : List S142} {i d e : Int} (h : St w g A c l i d e) (hs : isP l (nmI l i e) (nmE l i e) ⟨#[46]⟩ = true) :
    Calls Tryd.prog 68 #[.pointer (some ⟨g, 0, none⟩)] w fun r w' => ∃ vA vc, r = .returned (exV (colP (nmS l i e) (nmS l (nmI l i e + 1) (nmE l i e))) vA vc) ∧ St w' g A c l (nmI l (nmI l i e + 1) (nmE l i e)) d (nmE l (nmI l i e + 1) (nmE l i e)) ∧ Chg g w w' ∧ ∀ W ok, Tr W ok (colP (nmS l i e) (nmS l (nmI l i e + 1) (nmE l i e))) vA vc := by
  have HS := Lib.hid hs; clear hs
  have H := Lib.hid h; clear h
  go_enter Tryd.func68, Tryd.ntmps68
  go_wp2_with (first
    | (((with_reducible refine gate_dst (N := 2) rfl ?_); refine box_event ?hg (N := 2) ?hd (cs := #[.int .i64 0, .string (⟨#[]⟩ : ByteArray), .string (⟨#[]⟩ : ByteArray), .int .i64 0, .int .i64 0, .int .i64 0, .int .i64 0, .string (⟨#[]⟩ : ByteArray), .slice none 0 0]) (t := 26) ?hr ?_; (case hd => rfl); (case hg => rfl); (case hr => first | (go_simp; done) | (go_simp; rfl)); intro gb hg_ w1 hb_ hl_; have BKgb := am_ hb_; have HLgb := am_ hl_; have HGgb := am_ (Nat.le_of_eq hg_.symm); obtain ⟨zgb_0, zgb_1, zgb_2, zgb_3, zgb_4, zgb_5, zgb_6, zgb_7, zgb_8, ygb_0, ygb_1, ygb_2, ygb_3, ygb_4, ygb_5, ygb_6, ygb_7, ygb_8⟩ := bw9_ hb_; clear hb_ hl_ hg_; simp only [Act.put, sa_, sz_, ss_]); have H1 := Lib.hid (H.out.below HLgb.out); have HG := Lib.hid (Nat.lt_of_lt_of_le H.out.lt HGgb.out); have HN := Lib.hid (ne_of_le H.out.lt HGgb.out); clear zgb_0 zgb_1 zgb_2 zgb_3 zgb_4 zgb_5 zgb_6 zgb_7 zgb_8 ygb_0 ygb_1 ygb_2 ygb_3 ygb_4 ygb_5 ygb_6 ygb_7 ygb_8; have K1 : True := trivial)
    | (have _t := K1; ((with_reducible refine gate_callee (f := 110) rfl ?_); refine goesL_ (some 5) rfl rfl Tryd.func110 (by kernel_rfl) rfl #[.pointer (some ⟨g, 0, none⟩)] rfl (by (try simp only [List.map_toArray, List.map_cons, List.map_nil]); first | done | rfl) ?_; refine (name_st H1.out).mono ?_; rintro r' w2 ⟨rfl, h2, c2⟩; refine ⟨_, rfl, ?_⟩; simp only [Act.put, sa_, sz_, ss_]; have H2 := Lib.hid h2; have C2 := Lib.hid c2; clear h2 c2; clear K1))
    | ((with_reducible refine gate_callee (f := 67) rfl ?_); refine goesL_ (some 7) rfl rfl Tryd.func67 (by kernel_rfl) rfl #[.pointer (some ⟨g, 0, none⟩), .string ⟨#[46]⟩] rfl (by (try simp only [List.map_toArray, List.map_cons, List.map_nil]); first | done | rfl) ?_; refine (take_yes_st H2.out _ HS.out).mono ?_; rintro r' w3 ⟨rfl, h3, c3⟩; refine ⟨_, rfl, ?_⟩; simp only [Act.put, sa_, sz_, ss_]; have H3 := Lib.hid h3; have C3 := Lib.hid c3; clear h3 c3)
    | ((with_reducible refine gate_callee (f := 110) rfl ?_); refine goesL_ (some 13) rfl rfl Tryd.func110 (by kernel_rfl) rfl #[.pointer (some ⟨g, 0, none⟩)] rfl (by (try simp only [List.map_toArray, List.map_cons, List.map_nil]); first | done | rfl) ?_; refine (name_st H3.out).mono ?_; rintro r' w5 ⟨rfl, h5, c5⟩; refine ⟨_, rfl, ?_⟩; simp only [Act.put, sa_, sz_, ss_]; have H5 := Lib.hid h5; have C5 := Lib.hid c5; clear h5 c5)
    | ((with_reducible refine gate_callee (f := 111) rfl ?_); refine goesL_ (some 14) rfl rfl Tryd.func111 (by kernel_rfl) rfl #[.string (nmS l i e), .string (nmS l (nmI l i e + 1) (nmE l i e))] rfl (by (try simp only [List.map_toArray, List.map_cons, List.map_nil]); first | done | rfl) ?_; refine (col_any (nmS l i e) (nmS l (nmI l i e + 1) (nmE l i e)) w5).mono ?_; rintro r' w4 ⟨vA, vc, rfl, ht, hb4⟩; refine ⟨_, rfl, ?_⟩; simp only [Act.put, sa_, sz_, ss_]; simp only [exV, colP, List.length_nil]; have HB4 := Lib.hid hb4; have HT := Lib.hid ht; clear hb4 ht; have BK4 := Lib.hid (blk_below (C5.out.box (C3.out.box (C2.out.box BKgb.out HN.out) HN.out) HN.out) HB4.out); obtain ⟨s0, s1, s2, s3, s4, s5, s6, s7, s8, r0, r1, r2, r3, r4, r5, r6, r7, r8⟩ := bw9_ BK4.out))
  exact bodyPost_ret (results_cell_row rfl _ _ gb 26 #[.int .i64 15, .string (nmS l i e), .string (nmS l (nmI l i e + 1) (nmE l i e)), .int .i64 0, .int .i64 0, .int .i64 0, .int .i64 0, .string ⟨#[]⟩, .slice vA 0 vc] (0, 0) _ rfl (put9_ BK4.out) Tryd.underlying26 rfl (by kernel_rfl)) rfl ⟨vA, vc, rfl, (H5.out.below HB4.out).box chg9_ HG.out, (((((Chg.below H.out.lt HLgb.out).trans C2.out).trans C3.out).trans C5.out).trans (Chg.below H5.out.lt HB4.out)).own chg9_ HGgb.out (Nat.le_of_lt HG.out), HT.out⟩
theorem col_st {w : World} {g : Nat} {A : Option Addr} {c : Nat} {l : List S142} {i d e : Int} (h : St w g A c l i d e) :
    Calls Tryd.prog 68 #[.pointer (some ⟨g, 0, none⟩)] w fun r w' => ∃ vA vc, r = .returned (exV (coX l i e) vA vc) ∧ St w' g A c l (coI l i e) d (coE l i e) ∧ Chg g w w' ∧ ∀ W ok, Tr W ok (coX l i e) vA vc := by
  unfold coX coI coE
  cases hs : isP l (nmI l i e) (nmE l i e) ⟨#[46]⟩ with
  | true => exact col_yes h hs
  | false => exact col_no h hs
end Go.Proofs.YthlepdjjdbpmoaaDoor.PPrintExprs
namespace Go.Proofs.YthlepdjjdbpmoaaDoor.PPrintExprs
open Go.RowKit Go.Proofs.YthlepdjjdbpmoaaDoorW.PrintWords Go.Proofs.YthlepdjjdbpmoaaDoorW.PrintLast Go.Proofs.YthlepdjjdbpmoaaDoorW.PrintMore
attribute [local go_sem] max2_int min2_int max_two min_two max_three min_three max_four min_four
set_option linter.unusedVariables false
set_option linter.unusedSimpArgs false
set_option maxRecDepth 100000
set_option maxHeartbeats 4000000
inductive Gr where
  | or | and | not | test | sum | prod | atom
def Gr.num : Gr → Nat
  | .or => 60 | .and => 103 | .not => 131 | .test => 152 | .sum => 166 | .prod => 173 | .atom => 176
inductive Go where
  | f (p : Gr)
  | ch (p : Gr) (ss : List ByteArray) (x : S26)
structure Re where
  i : Int
  d : Int
  e : Int
  x : S26
def wOr : ByteArray := ⟨#[111, 114]⟩
def wAnd : ByteArray := ⟨#[97, 110, 100]⟩
def wNot : ByteArray := ⟨#[110, 111, 116]⟩
def wIs : ByteArray := ⟨#[105, 115]⟩
def wNull : ByteArray := ⟨#[110, 117, 108, 108]⟩
def wPlus : ByteArray := ⟨#[43]⟩
def wMinus : ByteArray := ⟨#[45]⟩
def wStar : ByteArray := ⟨#[42]⟩
def wOpen : ByteArray := ⟨#[40]⟩
def wShut : ByteArray := ⟨#[41]⟩
def six : List ByteArray := [⟨#[61]⟩, ⟨#[60, 62]⟩, ⟨#[60]⟩, ⟨#[60, 61]⟩, ⟨#[62]⟩, ⟨#[62, 61]⟩]
def opP (s : ByteArray) : Int := (parse_opOf.f s).getD 0
def txP (s : ByteArray) : S26 := if (s.size : Int) > 65536 then valP 0 0 ⟨#[]⟩ else valP 2 0 s
def isI (l : List S142) (i e : Int) (s : ByteArray) : Int := if isP l i e s = true then i + 1 else i
def tst (l : List S142) (r : Re) : Re :=
  if isP l r.i r.e wIs = true then
    (if isP l (r.i + 1) r.e wNot = true then ⟨muI l (r.i + 1 + 1) r.e wNull, r.d, muE l (r.i + 1 + 1) r.e wNull, ofP 14 [r.x]⟩
     else ⟨muI l (r.i + 1) r.e wNull, r.d, muE l (r.i + 1) r.e wNull, ofP 13 [r.x]⟩)
  else r
def pr (l : List S142) : Nat → Go → Int → Int → Int → Option Re
  | 0, _, _, _, _ => none
  | k + 1, .ch p ss x, i, d, e => if e = 0 then (match ss.find? (fun s => isP l i e s) with
      | none => some ⟨i, d, e, x⟩
      | some s => (pr l k (.f p) (i + 1) d e).bind fun r => pr l k (.ch p ss (ofP (opP s) [x, r.x])) r.i r.d r.e) else some ⟨i, d, e, x⟩
  | k + 1, .f .or, i, d, e => (pr l k (.f .and) i d e).bind fun r => pr l k (.ch .and [wOr] r.x) r.i r.d r.e
  | k + 1, .f .and, i, d, e => (pr l k (.f .not) i d e).bind fun r => pr l k (.ch .not [wAnd] r.x) r.i r.d r.e
  | k + 1, .f .sum, i, d, e => (pr l k (.f .prod) i d e).bind fun r => pr l k (.ch .prod [wPlus, wMinus] r.x) r.i r.d r.e
  | k + 1, .f .prod, i, d, e => (pr l k (.f .atom) i d e).bind fun r => pr l k (.ch .atom [wStar] r.x) r.i r.d r.e
  | k + 1, .f .not, i, d, e => if isP l i e wNot = true then
      (if 0 ≤ d ∧ d ≤ 100 then (pr l k (.f .not) (isI l i (dnE d e) wNot) (d + 1) (dnE d e)).bind fun r => if 0 ≤ r.d ∧ r.d ≤ 200 then some ⟨r.i, r.d - 1, r.e, ofP 12 [r.x]⟩ else none else none)
      else pr l k (.f .test) i d e
  | k + 1, .f .test, i, d, e => (pr l k (.f .sum) i d e).bind fun r => match six.find? (fun s => isP l r.i r.e s) with
      | some s => (pr l k (.f .sum) (r.i + 1) r.d r.e).bind fun q => some ⟨q.i, q.d, q.e, ofP (opP s) [r.x, q.x]⟩
      | none => some (tst l r)
  | k + 1, .f .atom, i, d, e =>
      if (tokP l i e).f0 = 3 then some ⟨i + 1, d, e, valP 1 (tokP l i e).f2 ⟨#[]⟩⟩
      else if (tokP l i e).f0 = 4 then some ⟨i + 1, d, e, txP (tokP l i e).f1⟩
      else if isP l i e wNull = true then some ⟨i + 1, d, e, valP 0 0 ⟨#[]⟩⟩
      else if isP l i e wOpen = true then
        (if 0 ≤ d ∧ d ≤ 100 then (pr l k (.f .or) (isI l i (dnE d e) wOpen) (d + 1) (dnE d e)).bind fun r => if 0 ≤ r.d ∧ r.d ≤ 200 then some ⟨muI l r.i r.e wShut, r.d - 1, muE l r.i r.e wShut, r.x⟩ else none else none)
      else some ⟨coI l i e, d, coE l i e, coX l i e⟩
def Done (w : World) (g : Nat) (A : Option Addr) (c : Nat) (l : List S142) (r : Re) (ret : Ending) (w' : World) : Prop :=
  ∃ vA vc, ret = .returned (exV r.x vA vc) ∧ St w' g A c l r.i r.d r.e ∧ Chg g w w' ∧ Tr w' (fun k => w.heap.size ≤ k) r.x vA vc
def GOK (k : Nat) (p : Gr) : Prop := ∀ (w : World) (g : Nat) (A : Option Addr) (c : Nat) (l : List S142) (i d e : Int) (r : Re), St w g A c l i d e → pr l k (.f p) i d e = some r → Calls Tryd.prog p.num #[.pointer (some ⟨g, 0, none⟩)] w (Done w g A c l r)
theorem up_d (g : Nat) (A : Option Addr) (n c : Nat) (i d e : Int) (w : World) (u : FrameMode) (h : Ps w g A n c i d e) (h0 : -1000 ≤ d) (h1 : d ≤ 1000) :
    CallsD Tryd.prog 154 #[.pointer (some ⟨g, 0, none⟩)] u w fun r u' w' => u' = u ∧ r = .returned (.tuple #[]) ∧ w' = w.setCell ⟨g, 2, none⟩ (.int .i64 (d - 1)) := by
  obtain ⟨c0, c1, c2, c3, f0, f1, f2, f3⟩ := bw4_ h
  clear h
  go_enter_d Tryd.func154, Tryd.ntmps154
  go_wp2
  go_end0
  exact ⟨rfl, rfl⟩
end Go.Proofs.YthlepdjjdbpmoaaDoor.PPrintExprs
namespace Go.Proofs.YthlepdjjdbpmoaaDoor.PPrintExprs
open Go.RowKit Go.Proofs.YthlepdjjdbpmoaaDoorW.PrintWords Go.Proofs.YthlepdjjdbpmoaaDoorW.PrintLast Go.Proofs.YthlepdjjdbpmoaaDoorW.PrintMore
attribute [local go_sem] max2_int min2_int max_two min_two max_three min_three max_four min_four
set_option linter.unusedVariables false
set_option linter.unusedSimpArgs false
set_option maxRecDepth 100000
set_option maxHeartbeats 4000000
theorem take_st {w : World} {g : Nat} {A : Option Addr} {c : Nat} {l : List S142} {i d e : Int} (h : St w g A c l i d e) (s : ByteArray) :
    Calls Tryd.prog 67 #[.pointer (some ⟨g, 0, none⟩), .string s] w fun r w' => r = .returned (.bool (isP l i e s)) ∧ St w' g A c l (isI l i e s) d e ∧ Chg g w w' := by
  unfold isI
  cases hs : isP l i e s with
  | true => rw [if_pos rfl]; exact take_yes_st h s hs
  | false => rw [if_neg (by decide)]; exact take_no_st h s hs
theorem lit1 {P : Program} {ops : Array Oper} {Q : Exit → Act → World → Prop} {o : Oper} {rest : List Oper} {a : Act} {W : World} {x : S26} {A : Option Addr} {c : Nat} {ok : Nat → Prop} {N' : Tmp} (hgd : o.guard = none) (hd : o.dst = some N') (hT : Tr W ok x A c) (hf : ok W.heap.size)
    (hrun : (execOp a.eval o).run P W = .ok (.value (.slice (some ⟨W.heap.size, 0, none⟩) 1 1)) (W.alloc (.cells #[.int .i64 x.f0, .string x.f1, .string x.f2, .int .i64 x.f3, .int .i64 x.f4, .int .i64 x.f5.f0, .int .i64 x.f5.f1, .string x.f5.f2, .slice A x.f6.length c] 26)))
    (h : ∀ A1 c1 w1, Kd.V k26 26 w1 0 ok (.slice A1 1 c1) [x] → Below W.heap.size W w1 → wpList P ops Q rest (a.put o.dst (.slice A1 1 c1)) w1) : wpList P ops Q (o :: rest) a W := by
  refine Kd.N_lit k26 W.heap.size 26 hgd hd (xs := [x]) (ok := ok) (okp := ok) hrun (reps1 hT) (fun _ q => q) hf (Below.refl _ _) (Nat.le_refl _) (by simp) ?_
  intro v1 w1 hn hb _ _
  obtain ⟨A1, c1, rfl, hl, hF⟩ := Kd.N_V (base' := 0) hn
  exact h A1 c1 w1 ⟨A1, c1, rfl, hl, hF⟩ hb
theorem leave_up {fn : Func} {tmps : Array Value} {w W : World} {g gb : Nat} {A vA : Option Addr} {c vc : Nat} {l : List S142} {i d e : Int} {x : S26}
    (hres : ∀ W', W'.heap[gb]? = some (.cells #[.int .i64 x.f0, .string x.f1, .string x.f2, .int .i64 x.f3, .int .i64 x.f4, .int .i64 x.f5.f0, .int .i64 x.f5.f1, .string x.f5.f2, .slice vA x.f6.length vc] 26 (0, 0)) → (results fn tmps).run Tryd.prog W' = .ok (exV x vA vc) W')
    (S : St W g A c l i d e) (B : W.heap[gb]? = some (.cells #[.int .i64 x.f0, .string x.f1, .string x.f2, .int .i64 x.f3, .int .i64 x.f4, .int .i64 x.f5.f0, .int .i64 x.f5.f1, .string x.f5.f2, .slice vA x.f6.length vc] 26 (0, 0))) (C : Chg g w W) (T : Tr W (fun k => w.heap.size ≤ k) x vA vc) (hn : gb ≠ g) (hg : g < w.heap.size) (h0 : -1000 ≤ d) (h1 : d ≤ 1000) :
    Leaves Tryd.prog fn tmps (Done w g A c l ⟨i, d - 1, e, x⟩) [{ target := .fn (.func 154) #[], args := #[.pointer (some ⟨g, 0, none⟩)] }] .returning W := by
  refine leaves_cons (f := 154) (args := #[.pointer (some ⟨g, 0, none⟩)]) (by simp) (by simp [go_sem]) ?_
  refine (up_d g A l.length c i d e _ _ S.ps h0 h1).mono ?_
  rintro e1 u1 w1 ⟨rfl, rfl, rfl⟩
  have K : Chg g W (W.setCell ⟨g, 2, none⟩ (.int .i64 (d - 1))) := (Chg.refl g W).set 2 _
  exact ⟨_, hres _ (K.box B hn), vA, vc, rfl, S.go K (S.ps.deep _) S.i0 S.i1, C.trans K, T.chg K (by omega)⟩
theorem not_no {k : Nat} (hT : GOK k .test) {w : World} {g : Nat} {A : Option Addr} {c : Nat} {l : List S142} {i d e : Int} {r : Re} (h : St w g A c l i d e) (hs : isP l i e wNot = false) (hr : pr l k (.f .test) i d e = some r) :
    Calls Tryd.prog 131 #[.pointer (some ⟨g, 0, none⟩)] w (Done w g A c l r) := by
  have HS := Lib.hid hs; clear hs
  have H := Lib.hid h; clear h
  have HR := Lib.hid hr; clear hr
  have HT := Lib.hid hT; clear hT
  go_enter_defers Tryd.func131, Tryd.ntmps131
  go_wp2_with (first
    | (((with_reducible refine gate_dst (N := 2) rfl ?_); refine box_event ?hg (N := 2) ?hd (cs := #[.int .i64 0, .string (⟨#[]⟩ : ByteArray), .string (⟨#[]⟩ : ByteArray), .int .i64 0, .int .i64 0, .int .i64 0, .int .i64 0, .string (⟨#[]⟩ : ByteArray), .slice none 0 0]) (t := 26) ?hr ?_; (case hd => rfl); (case hg => rfl); (case hr => first | (go_simp; done) | (go_simp; rfl)); intro gb hg_ w1 hb_ hl_; have BKgb := am_ hb_; have HLgb := am_ hl_; have HGgb := am_ (Nat.le_of_eq hg_.symm); obtain ⟨zgb_0, zgb_1, zgb_2, zgb_3, zgb_4, zgb_5, zgb_6, zgb_7, zgb_8, ygb_0, ygb_1, ygb_2, ygb_3, ygb_4, ygb_5, ygb_6, ygb_7, ygb_8⟩ := bw9_ hb_; clear hb_ hl_ hg_; simp only [Act.put, sa_, sz_, ss_]); have H1 := Lib.hid (H.out.below HLgb.out); have HG := Lib.hid (Nat.lt_of_lt_of_le H.out.lt HGgb.out); have HN := Lib.hid (ne_of_le H.out.lt HGgb.out); clear zgb_0 zgb_1 zgb_2 zgb_3 zgb_4 zgb_5 zgb_6 zgb_7 zgb_8 ygb_0 ygb_1 ygb_2 ygb_3 ygb_4 ygb_5 ygb_6 ygb_7 ygb_8)
    | ((with_reducible refine gate_callee (f := 109) rfl ?_); refine goesL_ (some 4) rfl rfl Tryd.func109 (by kernel_rfl) rfl #[.pointer (some ⟨g, 0, none⟩), .string wNot] rfl (by (try simp only [List.map_toArray, List.map_cons, List.map_nil]); first | done | rfl) ?_; refine (is_st H1.out _ _ HS.out).mono ?_; rintro r' w2 ⟨rfl, h2, c2⟩; refine ⟨_, rfl, ?_⟩; simp only [Act.put, sa_, sz_, ss_]; have H2 := Lib.hid h2; have C2 := Lib.hid c2; clear h2 c2)
    | ((with_reducible refine gate_callee (f := 152) rfl ?_); refine goesL_ (some 7) rfl rfl Tryd.func152 (by kernel_rfl) rfl #[.pointer (some ⟨g, 0, none⟩)] rfl (by (try simp only [List.map_toArray, List.map_cons, List.map_nil]); first | done | rfl) ?_; refine (HT.out _ _ _ _ _ _ _ _ _ H2.out HR.out).mono ?_; rintro r' w4 ⟨vA, vc, rfl, h4, c4, t4⟩; refine ⟨_, rfl, ?_⟩; simp only [Act.put, sa_, sz_, ss_]; simp only [exV]; have H4 := Lib.hid h4; have C4 := Lib.hid c4; have T4 := Lib.hid t4; clear h4 c4 t4; have BK4 := Lib.hid (C4.out.box (C2.out.box BKgb.out HN.out) HN.out); obtain ⟨s0, s1, s2, s3, s4, s5, s6, s7, s8, r0, r1, r2, r3, r4, r5, r6, r7, r8⟩ := bw9_ BK4.out))
  refine ⟨_, results_cell_row rfl _ _ gb 26 #[.int .i64 r.x.f0, .string r.x.f1, .string r.x.f2, .int .i64 r.x.f3, .int .i64 r.x.f4, .int .i64 r.x.f5.f0, .int .i64 r.x.f5.f1, .string r.x.f5.f2, .slice vA r.x.f6.length vc] (0, 0) _ rfl (put9_ BK4.out) Tryd.underlying26 rfl (by kernel_rfl), vA, vc, rfl, H4.out.box chg9_ HG.out, (((Chg.below H.out.lt HLgb.out).trans C2.out).trans C4.out).own chg9_ HGgb.out (Nat.le_of_lt HG.out), ?_⟩
  exact ((T4.out.mono fun q hl hq => (⟨Nat.le_trans (Nat.le_trans (below_size HLgb.out) C2.out.size) hq, fun h => absurd (blk_lt (C2.out.box BKgb.out HN.out)) (by omega)⟩ : w.heap.size ≤ q ∧ q ≠ gb)).chg chg9_ (fun h => h.2 rfl)).mono fun q _ hq => hq.1
theorem not_yes {k : Nat} (hT : GOK k .not) {w : World} {g : Nat} {A : Option Addr} {c : Nat} {l : List S142} {i d e : Int} {r : Re} (h : St w g A c l i d e) (hs : isP l i e wNot = true) (h0 : 0 ≤ d) (h1 : d ≤ 100) (h2 : 0 ≤ r.d) (h3 : r.d ≤ 200) (hr : pr l k (.f .not) (isI l i (dnE d e) wNot) (d + 1) (dnE d e) = some r) :
    Calls Tryd.prog 131 #[.pointer (some ⟨g, 0, none⟩)] w (Done w g A c l ⟨r.i, r.d - 1, r.e, ofP 12 [r.x]⟩) := by
  have HS := Lib.hid hs; clear hs
  have H := Lib.hid h; clear h
  have HR := Lib.hid hr; clear hr
  have HT := Lib.hid hT; clear hT
  have h0' : -1000 ≤ d := by omega
  have h1' : d ≤ 1000 := by omega
  go_enter_defers Tryd.func131, Tryd.ntmps131
  go_wp2_with (first
    | (((with_reducible refine gate_dst (N := 2) rfl ?_); refine box_event ?hg (N := 2) ?hd (cs := #[.int .i64 0, .string (⟨#[]⟩ : ByteArray), .string (⟨#[]⟩ : ByteArray), .int .i64 0, .int .i64 0, .int .i64 0, .int .i64 0, .string (⟨#[]⟩ : ByteArray), .slice none 0 0]) (t := 26) ?hr ?_; (case hd => rfl); (case hg => rfl); (case hr => first | (go_simp; done) | (go_simp; rfl)); intro gb hg_ w1 hb_ hl_; have BKgb := am_ hb_; have HLgb := am_ hl_; have HGgb := am_ (Nat.le_of_eq hg_.symm); obtain ⟨zgb_0, zgb_1, zgb_2, zgb_3, zgb_4, zgb_5, zgb_6, zgb_7, zgb_8, ygb_0, ygb_1, ygb_2, ygb_3, ygb_4, ygb_5, ygb_6, ygb_7, ygb_8⟩ := bw9_ hb_; clear hb_ hl_ hg_; simp only [Act.put, sa_, sz_, ss_]); have H1 := Lib.hid (H.out.below HLgb.out); have HG := Lib.hid (Nat.lt_of_lt_of_le H.out.lt HGgb.out); have HN := Lib.hid (ne_of_le H.out.lt HGgb.out); clear zgb_0 zgb_1 zgb_2 zgb_3 zgb_4 zgb_5 zgb_6 zgb_7 zgb_8 ygb_0 ygb_1 ygb_2 ygb_3 ygb_4 ygb_5 ygb_6 ygb_7 ygb_8)
    | ((with_reducible refine gate_callee (f := 109) rfl ?_); refine goesL_ (some 4) rfl rfl Tryd.func109 (by kernel_rfl) rfl #[.pointer (some ⟨g, 0, none⟩), .string wNot] rfl (by (try simp only [List.map_toArray, List.map_cons, List.map_nil]); first | done | rfl) ?_; refine (is_st H1.out _ _ HS.out).mono ?_; rintro r' w2 ⟨rfl, h2, c2⟩; refine ⟨_, rfl, ?_⟩; simp only [Act.put, sa_, sz_, ss_]; have H2 := Lib.hid h2; have C2 := Lib.hid c2; clear h2 c2)
    | ((with_reducible refine gate_callee (f := 153) rfl ?_); refine goesL_ (some 9) rfl rfl Tryd.func153 (by kernel_rfl) rfl #[.pointer (some ⟨g, 0, none⟩)] rfl (by (try simp only [List.map_toArray, List.map_cons, List.map_nil]); first | done | rfl) ?_; refine (down_st H2.out h0' h1').mono ?_; rintro r' w3 ⟨rfl, h3, c3⟩; refine ⟨_, rfl, ?_⟩; simp only [Act.put, sa_, sz_, ss_]; have H3 := Lib.hid h3; have C3 := Lib.hid c3; clear h3 c3)
    | ((with_reducible refine gate_callee (f := 67) rfl ?_); refine goesL_ (some 12) rfl rfl Tryd.func67 (by kernel_rfl) rfl #[.pointer (some ⟨g, 0, none⟩), .string wNot] rfl (by (try simp only [List.map_toArray, List.map_cons, List.map_nil]); first | done | rfl) ?_; refine (take_st H3.out _).mono ?_; rintro r' w4 ⟨rfl, h4, c4⟩; refine ⟨_, rfl, ?_⟩; simp only [Act.put, sa_, sz_, ss_]; have H4 := Lib.hid h4; have C4 := Lib.hid c4; clear h4 c4)
    | ((with_reducible refine gate_callee (f := 131) rfl ?_); refine goesL_ (some 14) rfl rfl Tryd.func131 (by kernel_rfl) rfl #[.pointer (some ⟨g, 0, none⟩)] rfl (by (try simp only [List.map_toArray, List.map_cons, List.map_nil]); first | done | rfl) ?_; refine (HT.out _ _ _ _ _ _ _ _ _ H4.out HR.out).mono ?_; rintro r' w5 ⟨vA, vc, rfl, h5, c5, t5⟩; refine ⟨_, rfl, ?_⟩; simp only [Act.put, sa_, sz_, ss_]; simp only [exV]; have H5 := Lib.hid h5; have C5 := Lib.hid c5; have T5 := Lib.hid t5; clear h5 c5 t5)
    | ((with_reducible refine gate_dst (N := 15) rfl ?_); refine lit1 (N' := 15) ?hg ?hd T5.out ?hf ?hr ?_; (case hd => rfl); (case hg => rfl); (case hf => exact C5.out.size); (case hr => first | (go_simp; done) | (go_simp; rfl)); intro A6 c6 w6 v6 b6; have V6 := Lib.hid v6; have B6 := Lib.hid b6; clear v6 b6; simp only [Act.put, sa_, sz_, ss_])
    | ((with_reducible refine gate_callee (f := 106) rfl ?_); refine goesL_ (some 16) rfl rfl Tryd.func106 (by kernel_rfl) rfl #[.int .i64 12, .slice A6 1 c6] rfl (by (try simp only [List.map_toArray, List.map_cons, List.map_nil]); first | done | rfl) ?_; refine (of_any 12 [r.x] (by simp) V6.out).mono ?_; rintro r' w7 ⟨vA, vc, rfl, t7, b7⟩; refine ⟨_, rfl, ?_⟩; simp only [Act.put, sa_, sz_, ss_]; simp only [exV, ofP]; have T7 := Lib.hid t7; have B7 := Lib.hid b7; clear t7 b7; have BK4 := Lib.hid (C4.out.box (C3.out.box (C2.out.box BKgb.out HN.out) HN.out) HN.out); have BK7 := Lib.hid (blk_below (blk_below (C5.out.box BK4.out HN.out) B6.out) B7.out); obtain ⟨s0, s1, s2, s3, s4, s5, s6, s7, s8, r0, r1, r2, r3, r4, r5, r6, r7, r8⟩ := bw9_ BK7.out))
  refine leave_up (gb := gb) (vA := vA) (vc := vc) (x := ofP 12 [r.x]) (fun W' hb => results_cell_row rfl _ _ gb 26 _ (0, 0) _ rfl hb Tryd.underlying26 rfl (by kernel_rfl)) (((H5.out.below B6.out).below B7.out).box chg9_ HG.out) (put9_ BK7.out) (((((((Chg.below H.out.lt HLgb.out).trans C2.out).trans C3.out).trans C4.out).trans C5.out).trans ((Chg.below H5.out.lt B6.out).trans (Chg.below (H5.out.below B6.out).lt B7.out))).own chg9_ HGgb.out (Nat.le_of_lt HG.out)) ?_ HN.out H.out.lt (by omega) (by omega)
  have hw4 := Nat.le_trans (Nat.le_trans (Nat.le_trans (below_size HLgb.out) C2.out.size) C3.out.size) C4.out.size
  have hw5 := C5.out.size
  have hw6 := below_size B6.out
  exact ((T7.out.mono fun q hl hq => (⟨by rcases hq with hq | hq <;> omega, fun h => absurd (blk_lt BK4.out) (by rcases hq with hq | hq <;> omega)⟩ : w.heap.size ≤ q ∧ q ≠ gb)).chg chg9_ (fun h => h.2 rfl)).mono fun q _ hq => hq.1
end Go.Proofs.YthlepdjjdbpmoaaDoor.PPrintExprs
namespace Go.Proofs.YthlepdjjdbpmoaaDoor.PPrintExprs
open Go.RowKit Go.Proofs.YthlepdjjdbpmoaaDoorW.PrintWords Go.Proofs.YthlepdjjdbpmoaaDoorW.PrintLast Go.Proofs.YthlepdjjdbpmoaaDoorW.PrintMore
attribute [local go_sem] max2_int min2_int max_two min_two max_three min_three max_four min_four
set_option linter.unusedVariables false
set_option linter.unusedSimpArgs false
set_option maxRecDepth 100000
set_option maxHeartbeats 4000000
theorem opP_f (s : ByteArray) : parse_opOf.f s = some (opP s) := by
  unfold opP parse_opOf.f
  repeat' split
  all_goals rfl
def Sg (w : World) (g b0 : Nat) (S : Option Addr) (ss : List ByteArray) : Prop := Kd.F Kd.string w (fun k => k ≠ g ∧ k < b0) S ss.length ss
theorem Sg.chg {w w' : World} {g b0 : Nat} {S : Option Addr} {ss : List ByteArray} (h : Sg w g b0 S ss) (k : Chg g w w') : Sg w' g b0 S ss := Kd.F_step h fun q hq hl => k.2.2 q hl hq.1 (by simp)
theorem Sg.box {w w' : World} {g gb b0 : Nat} {S : Option Addr} {ss : List ByteArray} (h : Sg w g b0 S ss) (k : Chg gb w w') (hb : b0 ≤ gb) : Sg w' g b0 S ss := Kd.F_step h fun q hq hl => k.2.2 q hl (by have := hq.2; omega) (by simp)
theorem Sg.cell {w : World} {g b0 : Nat} {S : Option Addr} {ss : List ByteArray} (h : Sg w g b0 S ss) (i : Int) (h0 : 0 ≤ i) (h1 : i < ss.length) : ∃ ad, S = some ad ∧ w.cell? (ad.add i.toNat) = some (.string (rdOf ByteArray.empty ss i)) := Kd.at_string (Kd.F_now h) i h0 h1
abbrev cl27 (x : S26) (vA : Option Addr) (vc : Nat) : Array Value := #[.int .i64 x.f0, .string x.f1, .string x.f2, .int .i64 x.f3, .int .i64 x.f4, .int .i64 x.f5.f0, .int .i64 x.f5.f1, .string x.f5.f2, .slice vA x.f6.length vc]
structure CS (w0 : World) (g g6 g7 : Nat) (A : Option Addr) (c : Nat) (l : List S142) (S : Option Addr) (ss : List ByteArray) (w : World) (i d e : Int) (x : S26) (vA : Option Addr) (vc : Nat) : Prop where
  st : St w g A c l i d e
  ch : Chg g w0 w
  b6 : w.heap[g6]? = some (.cells #[.int .i64 0, .string ⟨#[]⟩, .string ⟨#[]⟩, .int .i64 0, .int .i64 0, .int .i64 0, .int .i64 0, .string ⟨#[]⟩, .slice none 0 0] 26 (0, 0))
  b7 : w.heap[g7]? = some (.cells (cl27 x vA vc) 26 (0, 0))
  tr : Tr w (fun k => w0.heap.size ≤ k ∧ k ≠ g6 ∧ k ≠ g7) x vA vc
  sg : Sg w g w0.heap.size S ss
  hg : g < w0.heap.size
  h6 : w0.heap.size ≤ g6
  h67 : g6 < g7
section
variable {w0 w w' : World} {g g6 g7 c vc : Nat} {A S vA : Option Addr} {l : List S142} {ss : List ByteArray} {i d e i' d' e' : Int} {x : S26}
theorem CS.chg (h : CS w0 g g6 g7 A c l S ss w i d e x vA vc) (k : Chg g w w') (st : St w' g A c l i' d' e') : CS w0 g g6 g7 A c l S ss w' i' d' e' x vA vc :=
  have hg := h.hg; have h6 := h.h6; have h67 := h.h67
  ⟨st, h.ch.trans k, k.box h.b6 (by omega), k.box h.b7 (by omega), h.tr.chg k (by omega), h.sg.chg k, hg, h6, h67⟩
theorem CS.below (h : CS w0 g g6 g7 A c l S ss w i d e x vA vc) (k : Below w.heap.size w w') : CS w0 g g6 g7 A c l S ss w' i d e x vA vc := h.chg (Chg.below h.st.lt k) (h.st.below k)
theorem CS.put (h : CS w0 g g6 g7 A c l S ss w i d e x vA vc) {x' : S26} {vA' : Option Addr} {vc' : Nat} (k : Chg g7 w w') (hb : w'.heap[g7]? = some (.cells (cl27 x' vA' vc') 26 (0, 0))) (ht : Tr w (fun k => w0.heap.size ≤ k ∧ k ≠ g6 ∧ k ≠ g7) x' vA' vc') : CS w0 g g6 g7 A c l S ss w' i d e x' vA' vc' :=
  have hg := h.hg; have h6 := h.h6; have h67 := h.h67
  ⟨h.st.box k (by omega), h.ch.own k (by omega) (by omega), k.box h.b6 (by omega), hb, ht.chg k (by omega), h.sg.box k (by omega), hg, h6, h67⟩
theorem CS.done (h : CS w0 g g6 g7 A c l S ss w i d e x vA vc) {v0 v1 v2 v3 v4 v5 v6 v7 v8 : Value} : Done w0 g A c l ⟨i, d, e, x⟩ (.returned (exV x vA vc)) (((((((((w.setCell ⟨g6, 0, none⟩ v0).setCell ⟨g6, 1, none⟩ v1).setCell ⟨g6, 2, none⟩ v2).setCell ⟨g6, 3, none⟩ v3).setCell ⟨g6, 4, none⟩ v4).setCell ⟨g6, 5, none⟩ v5).setCell ⟨g6, 6, none⟩ v6).setCell ⟨g6, 7, none⟩ v7).setCell ⟨g6, 8, none⟩ v8) :=
  have hg := h.hg; have h6 := h.h6
  ⟨vA, vc, rfl, h.st.box chg9_ (by omega), h.ch.own chg9_ h6 (by omega), (h.tr.chg chg9_ (fun q => q.2.1 rfl)).mono fun _ _ q => q.1⟩
end
section
variable {ops : Array Oper} {Q : Exit → Act → World → Prop}
theorem Gr.fn (p : Gr) : ∃ fn, Tryd.prog.funcs[p.num]? = some fn ∧ (fn.name == "runtime.NumGoroutine") = false ∧ fn.body.isSome = true := by
  cases p
  · exact ⟨_, Tryd.func60, by kernel_rfl, rfl⟩
  · exact ⟨_, Tryd.func103, by kernel_rfl, rfl⟩
  · exact ⟨_, Tryd.func131, by kernel_rfl, rfl⟩
  · exact ⟨_, Tryd.func152, by kernel_rfl, rfl⟩
  · exact ⟨_, Tryd.func166, by kernel_rfl, rfl⟩
  · exact ⟨_, Tryd.func173, by kernel_rfl, rfl⟩
  · exact ⟨_, Tryd.func176, by kernel_rfl, rfl⟩
theorem Gr.run (p : Gr) {o : Oper} {a : Act} {w : World} {q : Tmp} {v0 : Value} (hop : o.op = .call { callee := .value (.tmp q), args := #[], argTypes := #[] }) (hv : a.eval (.tmp q) = .func (.func p.num) #[v0] #[]) : (execOp a.eval o).run Tryd.prog w = .ok (.enter p.num #[v0]) w := by
  obtain ⟨fn, hf, hn, hb⟩ := p.fn
  have he := enters_ hf hn hb #[v0] w
  unfold execOp
  simp [hop, resolve, Deferred.ofValue, invoke, hv, he]
theorem goesP_ (p : Gr) {rest : List Oper} {oi : Oper} {a : Act} {w : World} (N : Option Tmp) (hd : oi.dst = N) (hg : oi.guard = none) {q : Tmp} (v0 : Value)
    (hop : oi.op = .call { callee := .value (.tmp q), args := #[], argTypes := #[] }) (hv : a.eval (.tmp q) = .func (.func p.num) #[v0] #[])
    (h : Calls Tryd.prog p.num #[v0] w fun e w' => ∃ v, e = .returned v ∧ wpList Tryd.prog ops Q rest (a.put N v) w') : wpList Tryd.prog ops Q (oi :: rest) a w := by
  refine wpList_plain hg fun K hK => ?_
  unfold Oper.wp
  rw [p.run hop hv, Oper.upon_enter]
  refine h.mono fun e w'' hh => ?_
  obtain ⟨v, rfl, hk⟩ := hh
  subst hd
  exact hK _ _ hk
theorem goesR_ (p : Gr) {oi : Oper} {a : Act} {w : World} {K : Act → World → Prop} (N : Option Tmp) {q : Tmp} (v0 : Value) (hw : Region.wanted oi (yielded ops a.tmps) = true) (hN : oi.dst = N)
    (hop : oi.op = .call { callee := .value (.tmp q), args := #[], argTypes := #[] }) (hv : a.eval (.tmp q) = .func (.func p.num) #[v0] #[])
    (h : Calls Tryd.prog p.num #[v0] w fun e w' => ∃ v, e = .returned v ∧ K (a.put N v) w') : if Region.wanted oi (yielded ops a.tmps) = true then Oper.wp Tryd.prog oi a w K Q else K (a.put N undef) w :=
  call_ p.num #[v0] hw hN (p.run hop hv) h
end
theorem rdOf_mem (ss : List ByteArray) (j : Int) (h0 : 0 ≤ j) (h1 : j < ss.length) : rdOf ByteArray.empty ss j ∈ ss := by
  unfold rdOf
  rw [List.getD_eq_getElem?_getD, List.getElem?_eq_getElem (by omega)]
  exact List.getElem_mem _
theorem find_at {f : ByteArray → Bool} {ss : List ByteArray} {s : ByteArray} (h : ss.find? f = some s) : f s = true ∧ ∃ m : Nat, m < ss.length ∧ rdOf ByteArray.empty ss m = s ∧ ∀ j : Int, 0 ≤ j → j < m → f (rdOf ByteArray.empty ss j) = false := by
  obtain ⟨h1, m, hm, rfl, hb⟩ := List.find?_eq_some_iff_getElem.1 h
  refine ⟨h1, m, hm, ?_, ?_⟩
  · unfold rdOf
    rw [List.getD_eq_getElem?_getD, List.getElem?_eq_getElem (by omega)]
    rfl
  · intro j h0 hj
    unfold rdOf
    rw [List.getD_eq_getElem?_getD, List.getElem?_eq_getElem (by omega)]
    simpa using hb j.toNat (by omega)
theorem w64 (n : Int) (h : -9223372036854775808 ≤ n ∧ n ≤ 9223372036854775807) : wrap64 n = n := by unfold wrap64; omega
theorem txt_ne {s : ByteArray} (h : s ≠ ⟨#[]⟩) : (s.toList == ([] : List UInt8)) = false := by
  refine beq_eq_false_iff_ne.2 fun q => h ?_
  rw [ByteArray.toList_eq] at q
  obtain ⟨⟨x⟩⟩ := s
  simp only at q
  rw [q]
theorem lit2s {P : Program} {ops : Array Oper} {Q : Exit → Act → World → Prop} {o : Oper} {a : Act} {Kc : Act → World → Prop} {W : World} {x y : S26} {A B : Option Addr} {c b : Nat} {ok : Nat → Prop} {N' : Tmp} (hw : Region.wanted o (yielded ops a.tmps) = true) (hd : o.dst = some N') (hx : Tr W ok x A c) (hy : Tr W ok y B b) (hf : ok W.heap.size)
    (hrun : (execOp a.eval o).run P W = .ok (.value (.slice (some ⟨W.heap.size, 0, none⟩) 2 2)) (W.alloc (.cells #[.int .i64 x.f0, .string x.f1, .string x.f2, .int .i64 x.f3, .int .i64 x.f4, .int .i64 x.f5.f0, .int .i64 x.f5.f1, .string x.f5.f2, .slice A x.f6.length c, .int .i64 y.f0, .string y.f1, .string y.f2, .int .i64 y.f3, .int .i64 y.f4, .int .i64 y.f5.f0, .int .i64 y.f5.f1, .string y.f5.f2, .slice B y.f6.length b] 26)))
    (h : ∀ A1 c1 w1, Kd.V k26 26 w1 0 ok (.slice A1 2 c1) [x, y] → Below W.heap.size W w1 → Kc (a.put (some N') (.slice A1 2 c1)) w1) : if Region.wanted o (yielded ops a.tmps) = true then Oper.wp P o a W Kc Q else Kc (a.put (some N') undef) W := by
  rw [← hd]
  refine Kd.N_lit_step k26 W.heap.size 26 hw hd (xs := [x, y]) (ok := ok) (okp := ok) hrun (reps2 hx hy) (fun _ q => q) hf (Below.refl _ _) (Nat.le_refl _) (by simp) ?_
  intro v1 w1 hn hb _ _
  obtain ⟨A1, c1, rfl, hl, hF⟩ := Kd.N_V (base' := 0) hn
  rw [hd]
  exact h A1 c1 w1 ⟨A1, c1, rfl, hl, hF⟩ hb
section
variable {w0 w w' : World} {g g6 g7 c vc : Nat} {A S vA : Option Addr} {l : List S142} {ss : List ByteArray} {i d e : Int} {x : S26}
theorem CS.fresh (h : CS w0 g g6 g7 A c l S ss w i d e x vA vc) : w0.heap.size ≤ w.heap.size ∧ w.heap.size ≠ g6 ∧ w.heap.size ≠ g7 :=
  have h1 := blk_lt h.b6; have h2 := blk_lt h.b7
  ⟨h.ch.size, by omega, by omega⟩
theorem Tr.aft (h : CS w0 g g6 g7 A c l S ss w i d e x vA vc) {W : World} {y : S26} {B : Option Addr} {b : Nat} (t : Tr W (fun k => w.heap.size ≤ k) y B b) : Tr W (fun k => w0.heap.size ≤ k ∧ k ≠ g6 ∧ k ≠ g7) y B b :=
  t.mono fun k _ hk => by
    have h1 := blk_lt h.b6; have h2 := blk_lt h.b7; have h3 := h.ch.size
    exact ⟨by omega, by omega, by omega⟩
theorem Tr.new (h : CS w0 g g6 g7 A c l S ss w i d e x vA vc) {W : World} {y : S26} {B : Option Addr} {b : Nat} (t : Tr W (fun k => (w0.heap.size ≤ k ∧ k ≠ g6 ∧ k ≠ g7) ∨ w.heap.size ≤ k) y B b) : Tr W (fun k => w0.heap.size ≤ k ∧ k ≠ g6 ∧ k ≠ g7) y B b :=
  t.mono fun k _ hk => by
    have h1 := blk_lt h.b6; have h2 := blk_lt h.b7; have h3 := h.ch.size
    rcases hk with hk | hk
    · exact hk
    · exact ⟨by omega, by omega, by omega⟩
end
end Go.Proofs.YthlepdjjdbpmoaaDoor.PPrintExprs
namespace Go.Proofs.YthlepdjjdbpmoaaDoor.PPrintExprs
open Go.RowKit Go.Proofs.YthlepdjjdbpmoaaDoorW.PrintWords Go.Proofs.YthlepdjjdbpmoaaDoorW.PrintLast Go.Proofs.YthlepdjjdbpmoaaDoorW.PrintMore
attribute [local go_sem] max2_int min2_int max_two min_two max_three min_three max_four min_four
set_option linter.unusedVariables false
set_option linter.unusedSimpArgs false
set_option maxRecDepth 100000
set_option maxHeartbeats 4000000
theorem chain_any (p : Gr) (ss : List ByteArray) (hne : ∀ s ∈ ss, s ≠ ⟨#[]⟩) (hss : ss.length ≤ 100) (k : Nat) (hp : ∀ j, j ≤ k → GOK j p) {w : World} {g : Nat} {A S : Option Addr} {c cS : Nat} {l : List S142} {i d e : Int} {r0 r : Re} (h : St w g A c l i d e) (hS : Sg w g w.heap.size S ss) (h0 : pr l k (.f p) i d e = some r0) (hr : pr l k (.ch p ss r0.x) r0.i r0.d r0.e = some r) :
    Calls Tryd.prog 102 #[.pointer (some ⟨g, 0, none⟩), .func (.func p.num) #[.pointer (some ⟨g, 0, none⟩)] #[], .slice S ss.length cS] w (Done w g A c l r) := by
  have NE := Lib.hid hne; clear hne
  have H := Lib.hid h; clear h
  have HS := Lib.hid hS; clear hS
  have H0 := Lib.hid h0; clear h0
  have HR := Lib.hid hr; clear hr
  have HP := Lib.hid hp; clear hp
  go_enter Tryd.func102, Tryd.ntmps102
  go_wp2_with (first
    | (((with_reducible refine gate_dst (N := 6) rfl ?_); refine box_event ?hg (N := 6) ?hd (cs := #[.int .i64 0, .string (⟨#[]⟩ : ByteArray), .string (⟨#[]⟩ : ByteArray), .int .i64 0, .int .i64 0, .int .i64 0, .int .i64 0, .string (⟨#[]⟩ : ByteArray), .slice none 0 0]) (t := 26) ?hr ?_; (case hd => rfl); (case hg => rfl); (case hr => first | (go_simp; done) | (go_simp; rfl)); intro gb6 hg_ w1 hb_ hl_; have BKgb6 := am_ hb_; have HLgb6 := am_ hl_; have HGgb6 := am_ (Nat.le_of_eq hg_.symm); obtain ⟨zgb6_0, zgb6_1, zgb6_2, zgb6_3, zgb6_4, zgb6_5, zgb6_6, zgb6_7, zgb6_8, ygb6_0, ygb6_1, ygb6_2, ygb6_3, ygb6_4, ygb6_5, ygb6_6, ygb6_7, ygb6_8⟩ := bw9_ hb_; clear hb_ hl_ hg_; simp only [Act.put, sa_, sz_, ss_]); have H1 := Lib.hid (H.out.below HLgb6.out); have HG := Lib.hid (Nat.lt_of_lt_of_le H.out.lt HGgb6.out); have HN := Lib.hid (ne_of_le H.out.lt HGgb6.out); clear zgb6_0 zgb6_1 zgb6_2 zgb6_3 zgb6_4 zgb6_5 zgb6_6 zgb6_7 zgb6_8 ygb6_0 ygb6_1 ygb6_2 ygb6_3 ygb6_4 ygb6_5 ygb6_6 ygb6_7 ygb6_8)
    | ((with_reducible refine gate_dst (N := 12) rfl ?_); refine goesP_ p (some 12) rfl rfl (.pointer (some ⟨g, 0, none⟩)) rfl rfl ?_; refine (HP.out k (Nat.le_refl k) _ _ _ _ _ _ _ _ _ H1.out H0.out).mono ?_; rintro r' w2 ⟨vA, vc, rfl, h2, c2, t2⟩; refine ⟨_, rfl, ?_⟩; simp only [Act.put, sa_, sz_, ss_, exV]; have H2 := Lib.hid h2; have C2 := Lib.hid c2; have T2 := Lib.hid t2; clear h2 c2 t2)
    | (((with_reducible refine gate_dst (N := 7) rfl ?_); refine box_event ?hg (N := 7) ?hd (cs := #[.int .i64 0, .string (⟨#[]⟩ : ByteArray), .string (⟨#[]⟩ : ByteArray), .int .i64 0, .int .i64 0, .int .i64 0, .int .i64 0, .string (⟨#[]⟩ : ByteArray), .slice none 0 0]) (t := 26) ?hr ?_; (case hd => rfl); (case hg => rfl); (case hr => first | (go_simp; done) | (go_simp; rfl)); intro gb7 hg_ w3 hb_ hl_; have BKgb7 := am_ hb_; have HLgb7 := am_ hl_; have HGgb7 := am_ (Nat.le_of_eq hg_.symm); obtain ⟨zgb7_0, zgb7_1, zgb7_2, zgb7_3, zgb7_4, zgb7_5, zgb7_6, zgb7_7, zgb7_8, ygb7_0, ygb7_1, ygb7_2, ygb7_3, ygb7_4, ygb7_5, ygb7_6, ygb7_7, ygb7_8⟩ := bw9_ hb_; clear hb_ hl_ hg_; simp only [Act.put, sa_, sz_, ss_])))
  have HN7 : Hid (g < gb7) := Lib.hid (Nat.lt_of_lt_of_le H2.out.lt HGgb7.out)
  have B6 := Lib.hid (blk_below (C2.out.box BKgb6.out HN.out) HLgb7.out)
  have h67 : gb6 < gb7 := Nat.lt_of_lt_of_le (blk_lt (C2.out.box BKgb6.out HN.out)) HGgb7.out
  have H67 := Lib.hid h67; clear h67
  clear zgb7_0 zgb7_1 zgb7_2 zgb7_3 zgb7_4 zgb7_5 zgb7_6 zgb7_7 zgb7_8 ygb7_0 ygb7_1 ygb7_2 ygb7_3 ygb7_4 ygb7_5 ygb7_6 ygb7_7 ygb7_8
  go_loopg [] k (fun kq w' => ∃ (i d e : Int) (x : S26) (vA : Option Addr) (vc : Nat), Aside0 (pr l kq (.ch p ss x) i d e = some r) ∧ Aside0 (kq ≤ k) ∧ Aside0 (CS w g gb6 gb7 A c l S ss w' i d e x vA vc))
  case atStart =>
    refine ⟨r0.i, r0.d, r0.e, r0.x, vA, vc, ⟨HR.out⟩, ⟨Nat.le_refl _⟩, ⟨?_⟩⟩
    have hl1 := blk_lt BKgb6.out; have hg7 := HGgb7.out; have hl0 := below_size HLgb6.out; have hl2 := C2.out.size
    have T3 := (T2.out.mono fun q hl hq => (⟨by omega, by omega, by omega⟩ : w.heap.size ≤ q ∧ q ≠ gb6 ∧ q ≠ gb7)).below HLgb7.out
    have Ch : Chg g w w3 := ((Chg.below H.out.lt HLgb6.out).trans C2.out).trans (Chg.below H2.out.lt HLgb7.out)
    have h67 := H67.out
    exact ⟨(H2.out.below HLgb7.out).box chg9_ HN7.out, Ch.own chg9_ (by omega) (Nat.le_of_lt HN7.out), chg9_.box B6.out (by omega), put9_ BKgb7.out, T3.chg chg9_ (by omega), (HS.out.chg Ch).box chg9_ (by omega), H.out.lt, HGgb6.out, h67⟩
  case round =>
    clear BKgb6 BKgb7 B6 HLgb6 HLgb7 HGgb6 HGgb7 H1 H2 C2 T2 HR H0
    obtain ⟨i, d, e, x, vA, vc, HA, HK, HC⟩ := hrel
    cases gk with
    | zero => exact absurd HA.out (by simp [pr])
    | succ k1 =>
      have HH := HA.out; clear HA
      simp only [pr] at HH
      by_cases he : e = 0
      · subst he
        rw [if_pos rfl] at HH
        obtain ⟨p0, p1, p2, p3, p4, p5, p6, p7, p8, q0, q1, q2, q3, q4, q5, q6, q7, q8⟩ := bw9_ HC.out.b6
        obtain ⟨s0, s1, s2, s3, s4, s5, s6, s7, s8, t0, t1, t2, t3, t4, t5, t6, t7, t8⟩ := bw9_ HC.out.b7
        cases hf : ss.find? (fun s => isP l i 0 s) with
        | none =>
          rw [hf] at HH
          obtain rfl := Option.some.inj HH
          clear HH
          have HF := Lib.hid hf; clear hf
          go_wp2_with (first
            | ((with_reducible refine gate_callee (f := 62) rfl ?_); refine goesL_ (some 14) rfl rfl Tryd.func62 (by kernel_rfl) rfl #[.pointer (some ⟨g, 0, none⟩)] rfl (by (try simp only [List.map_toArray, List.map_cons, List.map_nil]); first | done | rfl) ?_; refine (ok_yes HC.out.st.ps).mono ?_; rintro r' w4 ⟨rfl, rfl⟩; refine ⟨_, rfl, ?_⟩; simp only [Act.put, sa_, sz_, ss_]))
          clear p0 p1 p2 p3 p4 p5 p6 p7 p8 q0 q1 q2 q3 q4 q5 q6 q7 q8 s0 s1 s2 s3 s4 s5 s6 s7 s8 t0 t1 t2 t3 t4 t5 t6 t7 t8
          go_loopg [8, 17] ss.length (fun kq v8 v17 w' => ∃ (j : Int), v8 = .string ⟨#[]⟩ ∧ v17 = .int .i64 j ∧ Aside0 (0 ≤ j ∧ j ≤ ss.length ∧ kq = ss.length - j.toNat) ∧ Aside0 (CS w g gb6 gb7 A c l S ss w' i d 0 x vA vc))
          case atStart => exact ⟨0, rfl, rfl, ⟨⟨Int.le_refl 0, Int.natCast_nonneg _, by simp⟩⟩, ⟨HC.out⟩⟩
          case round =>
            clear HC
            obtain ⟨j, rfl, rfl, HJ, HC⟩ := hrel
            by_cases c1 : j < (ss.length : Int)
            · obtain ⟨ad, rfl, hc⟩ := HC.out.sg.cell j HJ.out.1 c1
              have hj := eq_true HJ.out.1
              have c1b : decide (j < (ss.length : Int)) = true := decide_eq_true c1
              have c1c := eq_true c1
              have hm : isP l i 0 (rdOf ByteArray.empty ss j) = false := by
                have := List.find?_eq_none.1 HF.out (rdOf ByteArray.empty ss j) (rdOf_mem ss j HJ.out.1 c1)
                simpa using this
              have HM := Lib.hid hm; clear hm
              go_wp2_with (first
                | ((with_reducible refine gate_callee (f := 67) rfl ?_); refine goesL_ (some 23) rfl rfl Tryd.func67 (by kernel_rfl) rfl #[.pointer (some ⟨g, 0, none⟩), .string (rdOf ByteArray.empty ss j)] rfl (by (try simp only [List.map_toArray, List.map_cons, List.map_nil]); first | done | rfl) ?_; refine (take_no_st HC.out.st _ HM.out).mono ?_; rintro r' w5 ⟨rfl, h5, c5⟩; refine ⟨_, rfl, ?_⟩; simp only [Act.put, sa_, sz_, ss_]; have H5 := Lib.hid (HC.out.chg c5 h5); clear h5 c5))
              have ⟨hj0, hj1, hj2⟩ := HJ.out
              clear HJ hc
              go_roundg (ss.length - (j + 1).toNat)
              case measure => omega
              case rel => exact ⟨j + 1, rfl, by rw [show wrap64 (j + 1) = j + 1 from w64 _ (by omega)], ⟨⟨by omega, by omega, rfl⟩⟩, ⟨H5.out⟩⟩
            · have c1b : decide (j < (ss.length : Int)) = false := decide_eq_false c1
              clear HJ c1
              obtain ⟨p0, p1, p2, p3, p4, p5, p6, p7, p8, q0, q1, q2, q3, q4, q5, q6, q7, q8⟩ := bw9_ HC.out.b6
              obtain ⟨s0, s1, s2, s3, s4, s5, s6, s7, s8, t0, t1, t2, t3, t4, t5, t6, t7, t8⟩ := bw9_ HC.out.b7
              go_wp2
              exact bodyPost_ret (results_cell_row rfl _ _ gb6 26 #[.int .i64 x.f0, .string x.f1, .string x.f2, .int .i64 x.f3, .int .i64 x.f4, .int .i64 x.f5.f0, .int .i64 x.f5.f1, .string x.f5.f2, .slice vA x.f6.length vc] (0, 0) _ rfl (put9_ HC.out.b6) Tryd.underlying26 rfl (by kernel_rfl)) rfl HC.out.done
        | some s =>
          rw [hf] at HH
          obtain ⟨hs, m, hm, rfl, hb⟩ := find_at hf
          clear hf
          have HH' := Lib.hid HH; clear HH
          have HF := Lib.hid hb; clear hb
          have HM := Lib.hid hm; clear hm
          have HS1 := Lib.hid hs; clear hs
          go_wp2_with (first
            | ((with_reducible refine gate_callee (f := 62) rfl ?_); refine goesL_ (some 14) rfl rfl Tryd.func62 (by kernel_rfl) rfl #[.pointer (some ⟨g, 0, none⟩)] rfl (by (try simp only [List.map_toArray, List.map_cons, List.map_nil]); first | done | rfl) ?_; refine (ok_yes HC.out.st.ps).mono ?_; rintro r' w4 ⟨rfl, rfl⟩; refine ⟨_, rfl, ?_⟩; simp only [Act.put, sa_, sz_, ss_]))
          clear p0 p1 p2 p3 p4 p5 p6 p7 p8 q0 q1 q2 q3 q4 q5 q6 q7 q8 s0 s1 s2 s3 s4 s5 s6 s7 s8 t0 t1 t2 t3 t4 t5 t6 t7 t8
          go_loopg [8, 17] ss.length (fun kq v8 v17 w' => ∃ (j : Int), v8 = .string ⟨#[]⟩ ∧ v17 = .int .i64 j ∧ Aside0 (0 ≤ j ∧ j ≤ m ∧ kq = ss.length - j.toNat) ∧ Aside0 (CS w g gb6 gb7 A c l S ss w' i d 0 x vA vc))
          case atStart => exact ⟨0, rfl, rfl, ⟨⟨Int.le_refl 0, Int.natCast_nonneg _, by simp⟩⟩, ⟨HC.out⟩⟩
          case round =>
            clear HC
            obtain ⟨j, rfl, rfl, HJ, HC⟩ := hrel
            have c1 : j < (ss.length : Int) := by have := HJ.out.2.1; have := HM.out; omega
            obtain ⟨ad, rfl, hc⟩ := HC.out.sg.cell j HJ.out.1 c1
            have hj := eq_true HJ.out.1
            have c1b : decide (j < (ss.length : Int)) = true := decide_eq_true c1
            have c1c := eq_true c1
            by_cases c2 : j < m
            · have hm := HF.out j HJ.out.1 c2
              have HM1 := Lib.hid hm; clear hm
              have C2 := Lib.hid c2; clear c2
              go_wp2_with (first
                | ((with_reducible refine gate_callee (f := 67) rfl ?_); refine goesL_ (some 23) rfl rfl Tryd.func67 (by kernel_rfl) rfl #[.pointer (some ⟨g, 0, none⟩), .string (rdOf ByteArray.empty ss j)] rfl (by (try simp only [List.map_toArray, List.map_cons, List.map_nil]); first | done | rfl) ?_; refine (take_no_st HC.out.st _ HM1.out).mono ?_; rintro r' w5 ⟨rfl, h5, c5⟩; refine ⟨_, rfl, ?_⟩; simp only [Act.put, sa_, sz_, ss_]; have H5 := Lib.hid (HC.out.chg c5 h5); clear h5 c5))
              have ⟨hj0, hj1, hj2⟩ := HJ.out; have hc2 := C2.out; have hm1 := HM.out
              clear HJ hc
              go_roundg (ss.length - (j + 1).toNat)
              case measure => omega
              case rel => exact ⟨j + 1, rfl, by rw [show wrap64 (j + 1) = j + 1 from w64 _ (by omega)], ⟨⟨by omega, by omega, rfl⟩⟩, ⟨H5.out⟩⟩
            · have ej : (m : Int) = j := by have := HJ.out.2.1; omega
              have hS1 := HS1.out; have hH := HH'.out
              rw [ej] at hS1 hH
              have hE : ((rdOf ByteArray.empty ss j).toList == ([] : List UInt8)) = false := txt_ne (NE.out _ (rdOf_mem ss j HJ.out.1 c1))
              clear c2 HJ HS1 HH' HF HM ej
              have HS1 := Lib.hid hS1; have HH := Lib.hid hH; clear hS1 hH
              go_wp2_with (first
                | ((with_reducible refine gate_callee (f := 67) rfl ?_); refine goesL_ (some 23) rfl rfl Tryd.func67 (by kernel_rfl) rfl #[.pointer (some ⟨g, 0, none⟩), .string (rdOf ByteArray.empty ss j)] rfl (by (try simp only [List.map_toArray, List.map_cons, List.map_nil]); first | done | rfl) ?_; refine (take_yes_st HC.out.st _ HS1.out).mono ?_; rintro r' w5 ⟨rfl, h5, c5⟩; refine ⟨_, rfl, ?_⟩; simp only [Act.put, sa_, sz_, ss_]; have H5 := Lib.hid (HC.out.chg c5 h5); clear h5 c5 HC))
              obtain ⟨r1, hq1, hq2⟩ := Option.bind_eq_some_iff.1 HH.out
              have Q1 := Lib.hid hq1; have Q2 := Lib.hid hq2; clear hq1 hq2 HH hE hc
              have H6 := Lib.hid (H5.out.below (Below.drew (Below.refl _ _)))
              clear H5
              refine start_ (n := 8) (S := fun w' => w'.heap[gb7]? = some (.cells #[.int .i64 x.f0, .string x.f1, .string x.f2, .int .i64 x.f3, .int .i64 x.f4, .int .i64 x.f5.f0, .int .i64 x.f5.f1, .string x.f5.f2, .slice vA x.f6.length vc] 26 (0, 0))) (ds := [7]) #[false, false, false, false, false, false, false, false] (by kernel_rfl) rfl rfl H6.out.b7 (fun hHeld => ?_)
              generalize w5.drew = w6 at H6 hHeld ⊢
              refine take_ (i := 0) (N := some 29) (v := ?_) (a' := ?_) #[true, false, false, false, false, false, false, false] rfl rfl (by kernel_rfl) (fun _ _ _ h => h) (Or.inl ⟨by rfl, ?_⟩) hHeld ?_ ?_; rotate_left
              · intro w' hS
                go_simp; (with_reducible rfl)
              rotate_left
              · simp only [Act.put, sa_, sz_, ss_, i64_w, i32_w]
                rfl
              refine take_ (i := 2) (N := some 31) (v := ?_) (a' := ?_) #[true, false, true, false, false, false, false, false] rfl rfl (by kernel_rfl) (fun _ _ _ h => h) (Or.inl ⟨by rfl, ?_⟩) hHeld ?_ ?_; rotate_left
              · intro w' hS; obtain ⟨s0, s1, s2, s3, s4, s5, s6, s7, s8, t0, t1, t2, t3, t4, t5, t6, t7, t8⟩ := bw9_ hS
                go_simp; (with_reducible rfl)
              rotate_left
              · simp only [Act.put, sa_, sz_, ss_, i64_w, i32_w]
                rfl
              refine take_ (i := 3) (N := some 32) (v := ?_) (a' := ?_) #[true, false, true, true, false, false, false, false] rfl rfl (by kernel_rfl) (fun _ _ _ h => h) (Or.inl ⟨by rfl, ?_⟩) hHeld ?_ ?_; rotate_left
              · intro w' hS
                go_simp; (with_reducible rfl)
              rotate_left
              · simp only [Act.put, sa_, sz_, ss_, i64_w, i32_w]
                rfl
              refine one_ (i := 1) (N := some 30) #[true, true, true, true, false, false, false, false] rfl rfl (by kernel_rfl) (by decide) (fun K hK => ?_); refine goes_ Tryd.func130 (by kernel_rfl) rfl #[.string (rdOf ByteArray.empty ss j)] (by rfl) rfl rfl (by (try simp only [List.map_toArray, List.map_cons, List.map_nil]); first | done | rfl) ?_; (with_reducible refine (parse_opOf.calls (rdOf ByteArray.empty ss j) _ _ (opP_f _)).mono ?_); rintro e' w7 ⟨rfl, nd, rfl⟩; refine ⟨_, rfl, ?_⟩; have H7 := Lib.hid (H6.out.below (pw_below_drewN (Below.refl _ _) nd)); generalize w6.drewN nd = w7 at H7 hK ⊢; clear H6 hHeld; refine hK.out _ _ H7.out.b7 (fun hHeld => ?_); clear hK K; refine norm_ (a' := ?_) ?_ ?_; rotate_left
              · show Act.put _ (some 30) _ = _
                simp only [Act.put, sa_, sz_, ss_, i64_w, i32_w]; rfl
              refine one_ (i := 4) (N := some 33) #[true, true, true, true, true, false, false, false] rfl rfl (by kernel_rfl) (by decide) (fun K hK => ?_); refine goesR_ p (some 33) (.pointer (some ⟨g, 0, none⟩)) (by rfl) rfl rfl rfl ?_; refine (HP.out k1 (by have := HK.out; omega) _ _ _ _ _ _ _ _ _ H7.out.st Q1.out).mono ?_; rintro e' w8 ⟨yA, yc, rfl, h8, c8, t8⟩; refine ⟨_, rfl, ?_⟩; have H8 := Lib.hid (H7.out.chg c8 h8); have T8 := Lib.hid (Tr.aft H7.out t8); clear c8 h8 t8 H7 hHeld; refine hK.out _ _ H8.out.b7 (fun hHeld => ?_); clear hK K; refine norm_ (a' := ?_) ?_ ?_; rotate_left
              · show Act.put _ (some 33) _ = _
                simp only [Act.put, sa_, sz_, ss_, i64_w, i32_w, exV]; rfl
              refine one_ (i := 5) (N := some 34) #[true, true, true, true, true, true, false, false] rfl rfl (by kernel_rfl) (by decide) (fun K hK => ?_); refine lit2s (by rfl) rfl H8.out.tr T8.out ?hf ?hr ?_; (case hf => exact H8.out.fresh); (case hr => first | (go_simp; done) | (go_simp; rfl)); intro A9 c9 w9 v9 b9; have V9 := Lib.hid v9; have H9 := Lib.hid (H8.out.below b9); clear v9 b9 T8 H8 hHeld; refine hK.out _ _ H9.out.b7 (fun hHeld => ?_); clear hK K; refine norm_ (a' := ?_) ?_ ?_; rotate_left
              · show Act.put _ (some 34) _ = _
                simp only [Act.put, sa_, sz_, ss_, i64_w, i32_w]; rfl
              refine one_ (i := 6) (N := some 35) #[true, true, true, true, true, true, true, false] rfl rfl (by kernel_rfl) (by decide) (fun K hK => ?_); refine goes_ Tryd.func106 (by kernel_rfl) rfl #[.int .i64 (opP (rdOf ByteArray.empty ss j)), .slice A9 2 c9] (by rfl) rfl rfl (by (try simp only [List.map_toArray, List.map_cons, List.map_nil]); first | done | rfl) ?_; refine (of_any (opP (rdOf ByteArray.empty ss j)) [x, r1.x] (by simp) V9.out).mono ?_; rintro e' w10 ⟨zA, zc, rfl, t10, b10⟩; refine ⟨_, rfl, ?_⟩; have H10 := Lib.hid (H9.out.below b10); have T10 := Lib.hid (Tr.new H9.out t10); clear t10 b10 V9 H9 hHeld; refine hK.out _ _ H10.out.b7 (fun hHeld => ?_); clear hK K; refine norm_ (a' := ?_) ?_ ?_; rotate_left
              · show Act.put _ (some 35) _ = _
                simp only [Act.put, sa_, sz_, ss_, i64_w, i32_w, exV, ofP]; rfl
              obtain ⟨s0, s1, s2, s3, s4, s5, s6, s7, s8, t0, t1, t2, t3, t4, t5, t6, t7, t8⟩ := bw9_ H10.out.b7
              refine last_ (i := 7) (N := none) #[true, true, true, true, true, true, true, true] rfl rfl (by kernel_rfl) (by decide) (fun K hK => ?_); refine skip_ (w1 := ?_) (by rfl) rfl ?_ ?_; rotate_left
              · go_simp
                rfl
              refine hK.out _ _ ?_; clear hK K; refine done_ (by kernel_rfl) ?_
              clear s0 s1 s2 s3 s4 s5 s6 s7 s8 t0 t1 t2 t3 t4 t5 t6 t7 t8
              try go_wp2
              go_roundg k1
              case measure => omega
              case rel => exact ⟨r1.i, r1.d, r1.e, ofP (opP (rdOf ByteArray.empty ss j)) [x, r1.x], zA, zc, ⟨Q2.out⟩, ⟨by have := HK.out; omega⟩, ⟨H10.out.put chg9_ (put9_ H10.out.b7) T10.out⟩⟩
      · rw [if_neg he] at HH
        obtain rfl := Option.some.inj HH
        have HE := Lib.hid he; clear he HH
        obtain ⟨p0, p1, p2, p3, p4, p5, p6, p7, p8, q0, q1, q2, q3, q4, q5, q6, q7, q8⟩ := bw9_ HC.out.b6
        obtain ⟨s0, s1, s2, s3, s4, s5, s6, s7, s8, t0, t1, t2, t3, t4, t5, t6, t7, t8⟩ := bw9_ HC.out.b7
        go_wp2_with (first
          | ((with_reducible refine gate_callee (f := 62) rfl ?_); refine goesL_ (some 14) rfl rfl Tryd.func62 (by kernel_rfl) rfl #[.pointer (some ⟨g, 0, none⟩)] rfl (by (try simp only [List.map_toArray, List.map_cons, List.map_nil]); first | done | rfl) ?_; refine (ok_no HC.out.st.ps HE.out).mono ?_; rintro r' w4 ⟨rfl, rfl⟩; refine ⟨_, rfl, ?_⟩; simp only [Act.put, sa_, sz_, ss_]))
        exact bodyPost_ret (results_cell_row rfl _ _ gb6 26 #[.int .i64 x.f0, .string x.f1, .string x.f2, .int .i64 x.f3, .int .i64 x.f4, .int .i64 x.f5.f0, .int .i64 x.f5.f1, .string x.f5.f2, .slice vA x.f6.length vc] (0, 0) _ rfl (put9_ HC.out.b6) Tryd.underlying26 rfl (by kernel_rfl)) rfl HC.out.done
end Go.Proofs.YthlepdjjdbpmoaaDoor.PPrintExprs
namespace Go.Proofs.YthlepdjjdbpmoaaDoor.PPrintExprs
open Go.RowKit Go.Proofs.YthlepdjjdbpmoaaDoorW.PrintWords Go.Proofs.YthlepdjjdbpmoaaDoorW.PrintLast Go.Proofs.YthlepdjjdbpmoaaDoorW.PrintMore
attribute [local go_sem] max2_int min2_int max_two min_two max_three min_three max_four min_four
set_option linter.unusedVariables false
set_option linter.unusedSimpArgs false
set_option maxRecDepth 100000
set_option maxHeartbeats 4000000
theorem Sg.of_R {w : World} {g base : Nat} {v : Value} {ss : List ByteArray} (h : Kd.R Kd.string 9 w base (fun k => k ≠ g) v ss) : ∃ A c, v = .slice A ss.length c ∧ Sg w g w.heap.size A ss := by
  obtain ⟨A, c, rfl, hl, hF⟩ := Kd.R_V (base' := 0) h
  exact ⟨A, c, rfl, Kd.F_bound hF⟩
section
variable {P : Program} {ops : Array Oper} {Q : Exit → Act → World → Prop} {o : Oper} {rest : List Oper} {a : Act} {W : World} {N' : Tmp} {g : Nat}
theorem litS1 {s : ByteArray} (hgd : o.guard = none) (hd : o.dst = some N') (hg : g < W.heap.size)
    (hrun : (execOp a.eval o).run P W = .ok (.value (.slice (some ⟨W.heap.size, 0, none⟩) 1 1)) (W.alloc (.cells #[.string s] 9)))
    (h : ∀ A1 c1 w1, Sg w1 g w1.heap.size A1 [s] → Below W.heap.size W w1 → wpList P ops Q rest (a.put o.dst (.slice A1 1 c1)) w1) : wpList P ops Q (o :: rest) a W := by
  refine Kd.R_lit Kd.string W.heap.size 9 hgd hd (xs := [s]) (inner := [.string s]) (ok := fun k => k ≠ g) (okp := fun _ => False) hrun ?_ (fun _ q => q.elim) (by omega) (Below.refl _ _) (Nat.le_refl _) (by simp) ?_
  · exact Reps.one (show Kd.M Kd.string _ _ _ s [.string s] from rfl) (Reps.none _ _)
  · intro v1 w1 hr hb _ _
    obtain ⟨A, c, rfl, hs⟩ := Sg.of_R hr
    exact h A c w1 hs hb
theorem litS2 {s t : ByteArray} (hgd : o.guard = none) (hd : o.dst = some N') (hg : g < W.heap.size)
    (hrun : (execOp a.eval o).run P W = .ok (.value (.slice (some ⟨W.heap.size, 0, none⟩) 2 2)) (W.alloc (.cells #[.string s, .string t] 9)))
    (h : ∀ A1 c1 w1, Sg w1 g w1.heap.size A1 [s, t] → Below W.heap.size W w1 → wpList P ops Q rest (a.put o.dst (.slice A1 2 c1)) w1) : wpList P ops Q (o :: rest) a W := by
  refine Kd.R_lit Kd.string W.heap.size 9 hgd hd (xs := [s, t]) (inner := [.string s, .string t]) (ok := fun k => k ≠ g) (okp := fun _ => False) hrun ?_ (fun _ q => q.elim) (by omega) (Below.refl _ _) (Nat.le_refl _) (by simp) ?_
  · exact Reps.one (show Kd.M Kd.string _ _ _ s [.string s] from rfl) (Reps.one (show Kd.M Kd.string _ _ _ t [.string t] from rfl) (Reps.none _ _))
  · intro v1 w1 hr hb _ _
    obtain ⟨A, c, rfl, hs⟩ := Sg.of_R hr
    exact h A c w1 hs hb
end
theorem or_ok (k : Nat) (hp : ∀ j, j ≤ k → GOK j .and) : GOK (k + 1) .or := by
  intro w g A c l i d e r h hr
  simp only [pr] at hr
  obtain ⟨r0, h0, hr⟩ := Option.bind_eq_some_iff.1 hr
  have H := Lib.hid h; have H0 := Lib.hid h0; have HR := Lib.hid hr; have HP := Lib.hid hp; clear h h0 hr hp
  change Calls Tryd.prog 60 _ _ _
  go_enter Tryd.func60, Tryd.ntmps60
  go_wp2_with (first
    | (((with_reducible refine gate_dst (N := 2) rfl ?_); refine box_event ?hg (N := 2) ?hd (cs := #[.int .i64 0, .string (⟨#[]⟩ : ByteArray), .string (⟨#[]⟩ : ByteArray), .int .i64 0, .int .i64 0, .int .i64 0, .int .i64 0, .string (⟨#[]⟩ : ByteArray), .slice none 0 0]) (t := 26) ?hr ?_; (case hd => rfl); (case hg => rfl); (case hr => first | (go_simp; done) | (go_simp; rfl)); intro gb hg_ w1 hb_ hl_; have BKgb := am_ hb_; have HLgb := am_ hl_; have HGgb := am_ (Nat.le_of_eq hg_.symm); obtain ⟨zgb_0, zgb_1, zgb_2, zgb_3, zgb_4, zgb_5, zgb_6, zgb_7, zgb_8, ygb_0, ygb_1, ygb_2, ygb_3, ygb_4, ygb_5, ygb_6, ygb_7, ygb_8⟩ := bw9_ hb_; clear hb_ hl_ hg_; simp only [Act.put, sa_, sz_, ss_]); have H1 := Lib.hid (H.out.below HLgb.out); have HG := Lib.hid (Nat.lt_of_lt_of_le H.out.lt HGgb.out); have HN := Lib.hid (ne_of_le H.out.lt HGgb.out); clear zgb_0 zgb_1 zgb_2 zgb_3 zgb_4 zgb_5 zgb_6 zgb_7 zgb_8 ygb_0 ygb_1 ygb_2 ygb_3 ygb_4 ygb_5 ygb_6 ygb_7 ygb_8)
    | ((with_reducible refine gate_dst (N := 6) rfl ?_); refine litS1 (N' := 6) (g := g) (s := wOr) ?hg ?hd H1.out.lt ?hr ?_; (case hd => rfl); (case hg => rfl); (case hr => first | (go_simp; done) | (go_simp; rfl)); intro A2 cc2 w2 s2 b2; have S2 := Lib.hid s2; have B2 := Lib.hid b2; have H2 := Lib.hid (H1.out.below b2); clear s2 b2; simp only [Act.put, sa_, sz_, ss_])
    | ((with_reducible refine gate_callee (f := 102) rfl ?_); refine goesL_ (some 7) rfl rfl Tryd.func102 (by kernel_rfl) rfl #[.pointer (some ⟨g, 0, none⟩), .func (.func 103) #[.pointer (some ⟨g, 0, none⟩)] #[], .slice A2 1 cc2] rfl (by (try simp only [List.map_toArray, List.map_cons, List.map_nil]); first | done | rfl) ?_; refine (chain_any .and [wOr] (by decide) (by decide) _ HP.out H2.out S2.out H0.out HR.out).mono ?_; rintro r' w3 ⟨vA, vc, rfl, h3, c3, t3⟩; refine ⟨_, rfl, ?_⟩; simp only [Act.put, sa_, sz_, ss_]; simp only [exV]; have H3 := Lib.hid h3; have C3 := Lib.hid c3; have T3 := Lib.hid t3; clear h3 c3 t3; have BK3 := Lib.hid (C3.out.box (blk_below BKgb.out B2.out) HN.out); obtain ⟨s0, s1, s2, s3, s4, s5, s6, s7, s8, q0, q1, q2, q3, q4, q5, q6, q7, q8⟩ := bw9_ BK3.out))
  refine bodyPost_ret (results_cell_row rfl _ _ gb 26 #[.int .i64 r.x.f0, .string r.x.f1, .string r.x.f2, .int .i64 r.x.f3, .int .i64 r.x.f4, .int .i64 r.x.f5.f0, .int .i64 r.x.f5.f1, .string r.x.f5.f2, .slice vA r.x.f6.length vc] (0, 0) _ rfl (put9_ BK3.out) Tryd.underlying26 rfl (by kernel_rfl)) rfl ⟨vA, vc, rfl, H3.out.box chg9_ HG.out, (((Chg.below H.out.lt HLgb.out).trans (Chg.below H1.out.lt B2.out)).trans C3.out).own chg9_ HGgb.out (Nat.le_of_lt HG.out), ?_⟩
  have hw1 := below_size HLgb.out; have hw2 := below_size B2.out; have hb := blk_lt BKgb.out
  exact ((T3.out.mono fun q hl hq => (⟨by omega, by omega⟩ : w.heap.size ≤ q ∧ q ≠ gb)).chg chg9_ (fun h => h.2 rfl)).mono fun q _ hq => hq.1
theorem and_ok (k : Nat) (hp : ∀ j, j ≤ k → GOK j .not) : GOK (k + 1) .and := by
  intro w g A c l i d e r h hr
  simp only [pr] at hr
  obtain ⟨r0, h0, hr⟩ := Option.bind_eq_some_iff.1 hr
  have H := Lib.hid h; have H0 := Lib.hid h0; have HR := Lib.hid hr; have HP := Lib.hid hp; clear h h0 hr hp
  change Calls Tryd.prog 103 _ _ _
  go_enter Tryd.func103, Tryd.ntmps103
  go_wp2_with (first
    | (((with_reducible refine gate_dst (N := 2) rfl ?_); refine box_event ?hg (N := 2) ?hd (cs := #[.int .i64 0, .string (⟨#[]⟩ : ByteArray), .string (⟨#[]⟩ : ByteArray), .int .i64 0, .int .i64 0, .int .i64 0, .int .i64 0, .string (⟨#[]⟩ : ByteArray), .slice none 0 0]) (t := 26) ?hr ?_; (case hd => rfl); (case hg => rfl); (case hr => first | (go_simp; done) | (go_simp; rfl)); intro gb hg_ w1 hb_ hl_; have BKgb := am_ hb_; have HLgb := am_ hl_; have HGgb := am_ (Nat.le_of_eq hg_.symm); obtain ⟨zgb_0, zgb_1, zgb_2, zgb_3, zgb_4, zgb_5, zgb_6, zgb_7, zgb_8, ygb_0, ygb_1, ygb_2, ygb_3, ygb_4, ygb_5, ygb_6, ygb_7, ygb_8⟩ := bw9_ hb_; clear hb_ hl_ hg_; simp only [Act.put, sa_, sz_, ss_]); have H1 := Lib.hid (H.out.below HLgb.out); have HG := Lib.hid (Nat.lt_of_lt_of_le H.out.lt HGgb.out); have HN := Lib.hid (ne_of_le H.out.lt HGgb.out); clear zgb_0 zgb_1 zgb_2 zgb_3 zgb_4 zgb_5 zgb_6 zgb_7 zgb_8 ygb_0 ygb_1 ygb_2 ygb_3 ygb_4 ygb_5 ygb_6 ygb_7 ygb_8)
    | ((with_reducible refine gate_dst (N := 6) rfl ?_); refine litS1 (N' := 6) (g := g) (s := wAnd) ?hg ?hd H1.out.lt ?hr ?_; (case hd => rfl); (case hg => rfl); (case hr => first | (go_simp; done) | (go_simp; rfl)); intro A2 cc2 w2 s2 b2; have S2 := Lib.hid s2; have B2 := Lib.hid b2; have H2 := Lib.hid (H1.out.below b2); clear s2 b2; simp only [Act.put, sa_, sz_, ss_])
    | ((with_reducible refine gate_callee (f := 102) rfl ?_); refine goesL_ (some 7) rfl rfl Tryd.func102 (by kernel_rfl) rfl #[.pointer (some ⟨g, 0, none⟩), .func (.func 131) #[.pointer (some ⟨g, 0, none⟩)] #[], .slice A2 1 cc2] rfl (by (try simp only [List.map_toArray, List.map_cons, List.map_nil]); first | done | rfl) ?_; refine (chain_any .not [wAnd] (by decide) (by decide) _ HP.out H2.out S2.out H0.out HR.out).mono ?_; rintro r' w3 ⟨vA, vc, rfl, h3, c3, t3⟩; refine ⟨_, rfl, ?_⟩; simp only [Act.put, sa_, sz_, ss_]; simp only [exV]; have H3 := Lib.hid h3; have C3 := Lib.hid c3; have T3 := Lib.hid t3; clear h3 c3 t3; have BK3 := Lib.hid (C3.out.box (blk_below BKgb.out B2.out) HN.out); obtain ⟨s0, s1, s2, s3, s4, s5, s6, s7, s8, q0, q1, q2, q3, q4, q5, q6, q7, q8⟩ := bw9_ BK3.out))
  refine bodyPost_ret (results_cell_row rfl _ _ gb 26 #[.int .i64 r.x.f0, .string r.x.f1, .string r.x.f2, .int .i64 r.x.f3, .int .i64 r.x.f4, .int .i64 r.x.f5.f0, .int .i64 r.x.f5.f1, .string r.x.f5.f2, .slice vA r.x.f6.length vc] (0, 0) _ rfl (put9_ BK3.out) Tryd.underlying26 rfl (by kernel_rfl)) rfl ⟨vA, vc, rfl, H3.out.box chg9_ HG.out, (((Chg.below H.out.lt HLgb.out).trans (Chg.below H1.out.lt B2.out)).trans C3.out).own chg9_ HGgb.out (Nat.le_of_lt HG.out), ?_⟩
  have hw1 := below_size HLgb.out; have hw2 := below_size B2.out; have hb := blk_lt BKgb.out
  exact ((T3.out.mono fun q hl hq => (⟨by omega, by omega⟩ : w.heap.size ≤ q ∧ q ≠ gb)).chg chg9_ (fun h => h.2 rfl)).mono fun q _ hq => hq.1
theorem sum_ok (k : Nat) (hp : ∀ j, j ≤ k → GOK j .prod) : GOK (k + 1) .sum := by
  intro w g A c l i d e r h hr
  simp only [pr] at hr
  obtain ⟨r0, h0, hr⟩ := Option.bind_eq_some_iff.1 hr
  have H := Lib.hid h; have H0 := Lib.hid h0; have HR := Lib.hid hr; have HP := Lib.hid hp; clear h h0 hr hp
  change Calls Tryd.prog 166 _ _ _
  go_enter Tryd.func166, Tryd.ntmps166
  go_wp2_with (first
    | (((with_reducible refine gate_dst (N := 2) rfl ?_); refine box_event ?hg (N := 2) ?hd (cs := #[.int .i64 0, .string (⟨#[]⟩ : ByteArray), .string (⟨#[]⟩ : ByteArray), .int .i64 0, .int .i64 0, .int .i64 0, .int .i64 0, .string (⟨#[]⟩ : ByteArray), .slice none 0 0]) (t := 26) ?hr ?_; (case hd => rfl); (case hg => rfl); (case hr => first | (go_simp; done) | (go_simp; rfl)); intro gb hg_ w1 hb_ hl_; have BKgb := am_ hb_; have HLgb := am_ hl_; have HGgb := am_ (Nat.le_of_eq hg_.symm); obtain ⟨zgb_0, zgb_1, zgb_2, zgb_3, zgb_4, zgb_5, zgb_6, zgb_7, zgb_8, ygb_0, ygb_1, ygb_2, ygb_3, ygb_4, ygb_5, ygb_6, ygb_7, ygb_8⟩ := bw9_ hb_; clear hb_ hl_ hg_; simp only [Act.put, sa_, sz_, ss_]); have H1 := Lib.hid (H.out.below HLgb.out); have HG := Lib.hid (Nat.lt_of_lt_of_le H.out.lt HGgb.out); have HN := Lib.hid (ne_of_le H.out.lt HGgb.out); clear zgb_0 zgb_1 zgb_2 zgb_3 zgb_4 zgb_5 zgb_6 zgb_7 zgb_8 ygb_0 ygb_1 ygb_2 ygb_3 ygb_4 ygb_5 ygb_6 ygb_7 ygb_8)
    | ((with_reducible refine gate_dst (N := 6) rfl ?_); refine litS2 (N' := 6) (g := g) (s := wPlus) (t := wMinus) ?hg ?hd H1.out.lt ?hr ?_; (case hd => rfl); (case hg => rfl); (case hr => first | (go_simp; done) | (go_simp; rfl)); intro A2 cc2 w2 s2 b2; have S2 := Lib.hid s2; have B2 := Lib.hid b2; have H2 := Lib.hid (H1.out.below b2); clear s2 b2; simp only [Act.put, sa_, sz_, ss_])
    | ((with_reducible refine gate_callee (f := 102) rfl ?_); refine goesL_ (some 7) rfl rfl Tryd.func102 (by kernel_rfl) rfl #[.pointer (some ⟨g, 0, none⟩), .func (.func 173) #[.pointer (some ⟨g, 0, none⟩)] #[], .slice A2 2 cc2] rfl (by (try simp only [List.map_toArray, List.map_cons, List.map_nil]); first | done | rfl) ?_; refine (chain_any .prod [wPlus, wMinus] (by decide) (by decide) _ HP.out H2.out S2.out H0.out HR.out).mono ?_; rintro r' w3 ⟨vA, vc, rfl, h3, c3, t3⟩; refine ⟨_, rfl, ?_⟩; simp only [Act.put, sa_, sz_, ss_]; simp only [exV]; have H3 := Lib.hid h3; have C3 := Lib.hid c3; have T3 := Lib.hid t3; clear h3 c3 t3; have BK3 := Lib.hid (C3.out.box (blk_below BKgb.out B2.out) HN.out); obtain ⟨s0, s1, s2, s3, s4, s5, s6, s7, s8, q0, q1, q2, q3, q4, q5, q6, q7, q8⟩ := bw9_ BK3.out))
  refine bodyPost_ret (results_cell_row rfl _ _ gb 26 #[.int .i64 r.x.f0, .string r.x.f1, .string r.x.f2, .int .i64 r.x.f3, .int .i64 r.x.f4, .int .i64 r.x.f5.f0, .int .i64 r.x.f5.f1, .string r.x.f5.f2, .slice vA r.x.f6.length vc] (0, 0) _ rfl (put9_ BK3.out) Tryd.underlying26 rfl (by kernel_rfl)) rfl ⟨vA, vc, rfl, H3.out.box chg9_ HG.out, (((Chg.below H.out.lt HLgb.out).trans (Chg.below H1.out.lt B2.out)).trans C3.out).own chg9_ HGgb.out (Nat.le_of_lt HG.out), ?_⟩
  have hw1 := below_size HLgb.out; have hw2 := below_size B2.out; have hb := blk_lt BKgb.out
  exact ((T3.out.mono fun q hl hq => (⟨by omega, by omega⟩ : w.heap.size ≤ q ∧ q ≠ gb)).chg chg9_ (fun h => h.2 rfl)).mono fun q _ hq => hq.1
theorem prod_ok (k : Nat) (hp : ∀ j, j ≤ k → GOK j .atom) : GOK (k + 1) .prod := by
  intro w g A c l i d e r h hr
  simp only [pr] at hr
  obtain ⟨r0, h0, hr⟩ := Option.bind_eq_some_iff.1 hr
  have H := Lib.hid h; have H0 := Lib.hid h0; have HR := Lib.hid hr; have HP := Lib.hid hp; clear h h0 hr hp
  change Calls Tryd.prog 173 _ _ _
  go_enter Tryd.func173, Tryd.ntmps173
  go_wp2_with (first
    | (((with_reducible refine gate_dst (N := 2) rfl ?_); refine box_event ?hg (N := 2) ?hd (cs := #[.int .i64 0, .string (⟨#[]⟩ : ByteArray), .string (⟨#[]⟩ : ByteArray), .int .i64 0, .int .i64 0, .int .i64 0, .int .i64 0, .string (⟨#[]⟩ : ByteArray), .slice none 0 0]) (t := 26) ?hr ?_; (case hd => rfl); (case hg => rfl); (case hr => first | (go_simp; done) | (go_simp; rfl)); intro gb hg_ w1 hb_ hl_; have BKgb := am_ hb_; have HLgb := am_ hl_; have HGgb := am_ (Nat.le_of_eq hg_.symm); obtain ⟨zgb_0, zgb_1, zgb_2, zgb_3, zgb_4, zgb_5, zgb_6, zgb_7, zgb_8, ygb_0, ygb_1, ygb_2, ygb_3, ygb_4, ygb_5, ygb_6, ygb_7, ygb_8⟩ := bw9_ hb_; clear hb_ hl_ hg_; simp only [Act.put, sa_, sz_, ss_]); have H1 := Lib.hid (H.out.below HLgb.out); have HG := Lib.hid (Nat.lt_of_lt_of_le H.out.lt HGgb.out); have HN := Lib.hid (ne_of_le H.out.lt HGgb.out); clear zgb_0 zgb_1 zgb_2 zgb_3 zgb_4 zgb_5 zgb_6 zgb_7 zgb_8 ygb_0 ygb_1 ygb_2 ygb_3 ygb_4 ygb_5 ygb_6 ygb_7 ygb_8)
    | ((with_reducible refine gate_dst (N := 6) rfl ?_); refine litS1 (N' := 6) (g := g) (s := wStar) ?hg ?hd H1.out.lt ?hr ?_; (case hd => rfl); (case hg => rfl); (case hr => first | (go_simp; done) | (go_simp; rfl)); intro A2 cc2 w2 s2 b2; have S2 := Lib.hid s2; have B2 := Lib.hid b2; have H2 := Lib.hid (H1.out.below b2); clear s2 b2; simp only [Act.put, sa_, sz_, ss_])
    | ((with_reducible refine gate_callee (f := 102) rfl ?_); refine goesL_ (some 7) rfl rfl Tryd.func102 (by kernel_rfl) rfl #[.pointer (some ⟨g, 0, none⟩), .func (.func 176) #[.pointer (some ⟨g, 0, none⟩)] #[], .slice A2 1 cc2] rfl (by (try simp only [List.map_toArray, List.map_cons, List.map_nil]); first | done | rfl) ?_; refine (chain_any .atom [wStar] (by decide) (by decide) _ HP.out H2.out S2.out H0.out HR.out).mono ?_; rintro r' w3 ⟨vA, vc, rfl, h3, c3, t3⟩; refine ⟨_, rfl, ?_⟩; simp only [Act.put, sa_, sz_, ss_]; simp only [exV]; have H3 := Lib.hid h3; have C3 := Lib.hid c3; have T3 := Lib.hid t3; clear h3 c3 t3; have BK3 := Lib.hid (C3.out.box (blk_below BKgb.out B2.out) HN.out); obtain ⟨s0, s1, s2, s3, s4, s5, s6, s7, s8, q0, q1, q2, q3, q4, q5, q6, q7, q8⟩ := bw9_ BK3.out))
  refine bodyPost_ret (results_cell_row rfl _ _ gb 26 #[.int .i64 r.x.f0, .string r.x.f1, .string r.x.f2, .int .i64 r.x.f3, .int .i64 r.x.f4, .int .i64 r.x.f5.f0, .int .i64 r.x.f5.f1, .string r.x.f5.f2, .slice vA r.x.f6.length vc] (0, 0) _ rfl (put9_ BK3.out) Tryd.underlying26 rfl (by kernel_rfl)) rfl ⟨vA, vc, rfl, H3.out.box chg9_ HG.out, (((Chg.below H.out.lt HLgb.out).trans (Chg.below H1.out.lt B2.out)).trans C3.out).own chg9_ HGgb.out (Nat.le_of_lt HG.out), ?_⟩
  have hw1 := below_size HLgb.out; have hw2 := below_size B2.out; have hb := blk_lt BKgb.out
  exact ((T3.out.mono fun q hl hq => (⟨by omega, by omega⟩ : w.heap.size ≤ q ∧ q ≠ gb)).chg chg9_ (fun h => h.2 rfl)).mono fun q _ hq => hq.1
end Go.Proofs.YthlepdjjdbpmoaaDoor.PPrintExprs
namespace Go.Proofs.YthlepdjjdbpmoaaDoor.PPrintExprs
open Go.RowKit Go.Proofs.YthlepdjjdbpmoaaDoorW.PrintWords Go.Proofs.YthlepdjjdbpmoaaDoorW.PrintLast Go.Proofs.YthlepdjjdbpmoaaDoorW.PrintMore
attribute [local go_sem] max2_int min2_int max_two min_two max_three min_three max_four min_four
set_option linter.unusedVariables false
set_option linter.unusedSimpArgs false
set_option maxRecDepth 100000
set_option maxHeartbeats 4000000
section
variable {w0 w w' : World} {g g6 g7 c vc : Nat} {A S vA : Option Addr} {l : List S142} {ss : List ByteArray} {i d e i' d' e' : Int} {x : S26}
theorem CS.start (st : St w g A c l i d e) (ch : Chg g w0 w) (b6 : w.heap[g6]? = some (.cells #[.int .i64 0, .string ⟨#[]⟩, .string ⟨#[]⟩, .int .i64 0, .int .i64 0, .int .i64 0, .int .i64 0, .string ⟨#[]⟩, .slice none 0 0] 26 (0, 0))) {u0 u1 u2 u3 u4 u5 u6 u7 u8 : Value}
    (b7 : w.heap[g7]? = some (.cells #[u0, u1, u2, u3, u4, u5, u6, u7, u8] 26 (0, 0))) (tr : Tr w (fun k => w0.heap.size ≤ k ∧ k ≠ g6 ∧ k ≠ g7) x vA vc) (sg : Sg w g w0.heap.size S ss) (hg : g < w0.heap.size) (h6 : w0.heap.size ≤ g6) (h67 : g6 < g7) :
    CS w0 g g6 g7 A c l S ss (((((((((w.setCell ⟨g7, 0, none⟩ (.int .i64 x.f0)).setCell ⟨g7, 1, none⟩ (.string x.f1)).setCell ⟨g7, 2, none⟩ (.string x.f2)).setCell ⟨g7, 3, none⟩ (.int .i64 x.f3)).setCell ⟨g7, 4, none⟩ (.int .i64 x.f4)).setCell ⟨g7, 5, none⟩ (.int .i64 x.f5.f0)).setCell ⟨g7, 6, none⟩ (.int .i64 x.f5.f1)).setCell ⟨g7, 7, none⟩ (.string x.f5.f2)).setCell ⟨g7, 8, none⟩ (.slice vA x.f6.length vc)) i d e x vA vc :=
  ⟨st.box chg9_ (by omega), ch.own chg9_ (by omega) (by omega), chg9_.box b6 (by omega), put9_ b7, tr.chg chg9_ (by omega), sg.box chg9_ (by omega), hg, h6, h67⟩
theorem CS.done' (h : CS w0 g g6 g7 A c l S ss w i d e x vA vc) {y : S26} {B : Option Addr} {b : Nat} (t : Tr w (fun k => w0.heap.size ≤ k ∧ k ≠ g6 ∧ k ≠ g7) y B b) {v0 v1 v2 v3 v4 v5 v6 v7 v8 : Value} : Done w0 g A c l ⟨i, d, e, y⟩ (.returned (exV y B b)) (((((((((w.setCell ⟨g6, 0, none⟩ v0).setCell ⟨g6, 1, none⟩ v1).setCell ⟨g6, 2, none⟩ v2).setCell ⟨g6, 3, none⟩ v3).setCell ⟨g6, 4, none⟩ v4).setCell ⟨g6, 5, none⟩ v5).setCell ⟨g6, 6, none⟩ v6).setCell ⟨g6, 7, none⟩ v7).setCell ⟨g6, 8, none⟩ v8) :=
  have hg := h.hg; have h6 := h.h6
  ⟨B, b, rfl, h.st.box chg9_ (by omega), h.ch.own chg9_ h6 (by omega), (t.chg chg9_ (fun q => q.2.1 rfl)).mono fun _ _ q => q.1⟩
end
theorem Sg.nil (w : World) (g b0 : Nat) : Sg w g b0 none [] := fun W' _ => ⟨rfl, by simp, fun q => absurd q (Nat.lt_irrefl 0)⟩
section
variable {P : Program} {ops : Array Oper} {Q : Exit → Act → World → Prop} {o : Oper} {rest : List Oper} {a : Act} {W : World} {N' : Tmp} {g : Nat}
theorem litS6 (hgd : o.guard = none) (hd : o.dst = some N') (hg : g < W.heap.size)
    (hrun : (execOp a.eval o).run P W = .ok (.value (.slice (some ⟨W.heap.size, 0, none⟩) 6 6)) (W.alloc (.cells #[.string ⟨#[61]⟩, .string ⟨#[60, 62]⟩, .string ⟨#[60]⟩, .string ⟨#[60, 61]⟩, .string ⟨#[62]⟩, .string ⟨#[62, 61]⟩] 9)))
    (h : ∀ A1 c1 w1, Sg w1 g w1.heap.size A1 six → Below W.heap.size W w1 → wpList P ops Q rest (a.put o.dst (.slice A1 6 c1)) w1) : wpList P ops Q (o :: rest) a W := by
  refine Kd.R_lit Kd.string W.heap.size 9 hgd hd (xs := six) (inner := [.string ⟨#[61]⟩, .string ⟨#[60, 62]⟩, .string ⟨#[60]⟩, .string ⟨#[60, 61]⟩, .string ⟨#[62]⟩, .string ⟨#[62, 61]⟩]) (ok := fun k => k ≠ g) (okp := fun _ => False) hrun ?_ (fun _ q => q.elim) (by omega) (Below.refl _ _) (Nat.le_refl _) (by decide) ?_
  · exact Reps.one (show Kd.M Kd.string _ _ _ (⟨#[61]⟩ : ByteArray) [.string ⟨#[61]⟩] from rfl) (Reps.one (show Kd.M Kd.string _ _ _ (⟨#[60, 62]⟩ : ByteArray) [.string ⟨#[60, 62]⟩] from rfl) (Reps.one (show Kd.M Kd.string _ _ _ (⟨#[60]⟩ : ByteArray) [.string ⟨#[60]⟩] from rfl) (Reps.one (show Kd.M Kd.string _ _ _ (⟨#[60, 61]⟩ : ByteArray) [.string ⟨#[60, 61]⟩] from rfl) (Reps.one (show Kd.M Kd.string _ _ _ (⟨#[62]⟩ : ByteArray) [.string ⟨#[62]⟩] from rfl) (Reps.one (show Kd.M Kd.string _ _ _ (⟨#[62, 61]⟩ : ByteArray) [.string ⟨#[62, 61]⟩] from rfl) (Reps.none _ _))))))
  · intro v1 w1 hr hb _ _
    obtain ⟨A, c, rfl, hs⟩ := Sg.of_R hr
    exact h A c w1 hs hb
end
theorem start_tr {w w1 w2 w3 : World} {gb6 gb7 g : Nat} {o : Obj} {x : S26} {vA : Option Addr} {vc : Nat} (b6 : w1.heap[gb6]? = some o) (h7 : w2.heap.size ≤ gb7) (l1 : Below w.heap.size w w1) (c2 : Chg g w1 w2) (l3 : Below w2.heap.size w2 w3) (t : Tr w2 (fun k => w1.heap.size ≤ k) x vA vc) : Tr w3 (fun k => w.heap.size ≤ k ∧ k ≠ gb6 ∧ k ≠ gb7) x vA vc :=
  (t.mono fun q hl hq => by have h1 := blk_lt b6; have h2 := below_size l1; have h3 := c2.size; exact ⟨by omega, by omega, by omega⟩).below l3
theorem test_some {k : Nat} (hT : GOK k .sum) {w : World} {g : Nat} {A : Option Addr} {c : Nat} {l : List S142} {i0 d0 e0 : Int} {r0 r1 : Re} (h : St w g A c l i0 d0 e0) (h0 : pr l k (.f .sum) i0 d0 e0 = some r0) {s : ByteArray} (hf : six.find? (fun s => isP l r0.i r0.e s) = some s) (h1 : pr l k (.f .sum) (r0.i + 1) r0.d r0.e = some r1) :
    Calls Tryd.prog 152 #[.pointer (some ⟨g, 0, none⟩)] w (Done w g A c l ⟨r1.i, r1.d, r1.e, ofP (opP s) [r0.x, r1.x]⟩) := by
  obtain ⟨hs, m, hm, rfl, hb⟩ := find_at hf
  have Q1 := Lib.hid h1; clear h1 hf
  have HF := Lib.hid hb; clear hb
  have HM := Lib.hid (show m < 6 from hm); clear hm
  have HS1 := Lib.hid hs; clear hs
  have H := Lib.hid h; clear h
  have H0 := Lib.hid h0; clear h0
  have HT := Lib.hid hT; clear hT
  go_enter Tryd.func152, Tryd.ntmps152
  go_wp2_with (first
    | (((with_reducible refine gate_dst (N := 2) rfl ?_); refine box_event ?hg (N := 2) ?hd (cs := #[.int .i64 0, .string (⟨#[]⟩ : ByteArray), .string (⟨#[]⟩ : ByteArray), .int .i64 0, .int .i64 0, .int .i64 0, .int .i64 0, .string (⟨#[]⟩ : ByteArray), .slice none 0 0]) (t := 26) ?hr ?_; (case hd => rfl); (case hg => rfl); (case hr => first | (go_simp; done) | (go_simp; rfl)); intro gb6 hg_ w1 hb_ hl_; have BKgb6 := am_ hb_; have HLgb6 := am_ hl_; have HGgb6 := am_ (Nat.le_of_eq hg_.symm); obtain ⟨zgb6_0, zgb6_1, zgb6_2, zgb6_3, zgb6_4, zgb6_5, zgb6_6, zgb6_7, zgb6_8, ygb6_0, ygb6_1, ygb6_2, ygb6_3, ygb6_4, ygb6_5, ygb6_6, ygb6_7, ygb6_8⟩ := bw9_ hb_; clear hb_ hl_ hg_; simp only [Act.put, sa_, sz_, ss_]); have H1 := Lib.hid (H.out.below HLgb6.out); have HN := Lib.hid (ne_of_le H.out.lt HGgb6.out); clear zgb6_0 zgb6_1 zgb6_2 zgb6_3 zgb6_4 zgb6_5 zgb6_6 zgb6_7 zgb6_8 ygb6_0 ygb6_1 ygb6_2 ygb6_3 ygb6_4 ygb6_5 ygb6_6 ygb6_7 ygb6_8)
    | ((with_reducible refine gate_callee (f := 166) rfl ?_); refine goesL_ (some 8) rfl rfl Tryd.func166 (by kernel_rfl) rfl #[.pointer (some ⟨g, 0, none⟩)] rfl (by (try simp only [List.map_toArray, List.map_cons, List.map_nil]); first | done | rfl) ?_; refine (HT.out _ _ _ _ _ _ _ _ _ H1.out H0.out).mono ?_; rintro r' w2 ⟨vA, vc, rfl, h2, c2, t2⟩; refine ⟨_, rfl, ?_⟩; simp only [Act.put, sa_, sz_, ss_]; simp only [exV]; have H2 := Lib.hid h2; have C2 := Lib.hid c2; have T2 := Lib.hid t2; clear h2 c2 t2)
    | (((with_reducible refine gate_dst (N := 3) rfl ?_); refine box_event ?hg (N := 3) ?hd (cs := #[.int .i64 0, .string (⟨#[]⟩ : ByteArray), .string (⟨#[]⟩ : ByteArray), .int .i64 0, .int .i64 0, .int .i64 0, .int .i64 0, .string (⟨#[]⟩ : ByteArray), .slice none 0 0]) (t := 26) ?hr ?_; (case hd => rfl); (case hg => rfl); (case hr => first | (go_simp; done) | (go_simp; rfl)); intro gb7 hg_ w3 hb_ hl_; have BKgb7 := am_ hb_; have HLgb7 := am_ hl_; have HGgb7 := am_ (Nat.le_of_eq hg_.symm); obtain ⟨zgb7_0, zgb7_1, zgb7_2, zgb7_3, zgb7_4, zgb7_5, zgb7_6, zgb7_7, zgb7_8, ygb7_0, ygb7_1, ygb7_2, ygb7_3, ygb7_4, ygb7_5, ygb7_6, ygb7_7, ygb7_8⟩ := bw9_ hb_; clear hb_ hl_ hg_; simp only [Act.put, sa_, sz_, ss_]); have HN7 : Hid (g < gb7) := Lib.hid (Nat.lt_of_lt_of_le H2.out.lt HGgb7.out))
    | ((with_reducible refine gate_dst (N := 9) rfl ?_); refine litS6 (N' := 9) (g := g) ?hg ?hd ?hl ?hr ?_; (case hd => rfl); (case hg => rfl); (case hl => exact ((H2.out.below HLgb7.out).box chg9_ HN7.out).lt); (case hr => first | (go_simp; done) | (go_simp; rfl)); intro A9 c9 w9 s9 b9; have S9 := Lib.hid s9; have H9 := Lib.hid ((CS.start (H2.out.below HLgb7.out) (((Chg.below H.out.lt HLgb6.out).trans C2.out).trans (Chg.below H2.out.lt HLgb7.out)) (blk_below (C2.out.box BKgb6.out HN.out) HLgb7.out) BKgb7.out (start_tr BKgb6.out HGgb7.out HLgb6.out C2.out HLgb7.out T2.out) (Sg.nil _ _ _) H.out.lt HGgb6.out (Nat.lt_of_lt_of_le (blk_lt (C2.out.box BKgb6.out HN.out)) HGgb7.out)).below b9); clear s9 b9 zgb7_0 zgb7_1 zgb7_2 zgb7_3 zgb7_4 zgb7_5 zgb7_6 zgb7_7 zgb7_8 ygb7_0 ygb7_1 ygb7_2 ygb7_3 ygb7_4 ygb7_5 ygb7_6 ygb7_7 ygb7_8 BKgb6 BKgb7 HLgb6 HLgb7 HGgb6 HGgb7 H1 H2 C2 T2 HN7 HN; simp only [Act.put, sa_, sz_, ss_]))
  generalize w9.heap.size = b0 at S9
  obtain ⟨i, d, e, x⟩ := r0
  dsimp only at H9 HS1 HF Q1 ⊢
  go_loopg [11] 6 (fun kq v11 w' => ∃ (j : Int), v11 = .int .i64 j ∧ Aside0 (0 ≤ j ∧ j ≤ m ∧ kq = 6 - j.toNat) ∧ Aside0 (CS w g gb6 gb7 A c l none [] w' i d e x vA vc) ∧ Aside0 (Sg w' g b0 A9 six))
  case atStart => exact ⟨0, rfl, ⟨⟨Int.le_refl 0, Int.natCast_nonneg _, by simp⟩⟩, ⟨H9.out⟩, ⟨S9.out⟩⟩
  case round =>
    clear H9 S9
    obtain ⟨j, rfl, HJ, HC, HS⟩ := hrel
    have c1 : j < (6 : Int) := by have := HJ.out.2.1; have := HM.out; omega
    obtain ⟨ad, rfl, hc⟩ := HS.out.cell j HJ.out.1 c1
    have hj := eq_true HJ.out.1
    have c1b : decide (j < (6 : Int)) = true := decide_eq_true c1
    have c1c := eq_true c1
    by_cases c2 : j < m
    · have hm := HF.out j HJ.out.1 c2
      have HM1 := Lib.hid hm; clear hm
      have C2 := Lib.hid c2; clear c2
      go_wp2_with (first
        | ((with_reducible refine gate_callee (f := 67) rfl ?_); refine goesL_ (some 17) rfl rfl Tryd.func67 (by kernel_rfl) rfl #[.pointer (some ⟨g, 0, none⟩), .string (rdOf ByteArray.empty six j)] rfl (by (try simp only [List.map_toArray, List.map_cons, List.map_nil]); first | done | rfl) ?_; refine (take_no_st HC.out.st _ HM1.out).mono ?_; rintro r' w5 ⟨rfl, h5, c5⟩; refine ⟨_, rfl, ?_⟩; simp only [Act.put, sa_, sz_, ss_]; have H5 := Lib.hid (HC.out.chg c5 h5); have S5 := Lib.hid (HS.out.chg c5); clear h5 c5))
      have ⟨hj0, hj1, hj2⟩ := HJ.out; have hc2 := C2.out; have hm1 := HM.out
      clear HJ hc
      go_roundg (6 - (j + 1).toNat)
      case measure => omega
      case rel => exact ⟨j + 1, by rw [show wrap64 (j + 1) = j + 1 from w64 _ (by omega)], ⟨⟨by omega, by omega, rfl⟩⟩, ⟨H5.out⟩, ⟨S5.out⟩⟩
    · have ej : (m : Int) = j := by have := HJ.out.2.1; omega
      have hS1 := HS1.out
      rw [ej] at hS1 ⊢
      clear c2 HJ HS1 HF HM ej
      have HS1 := Lib.hid hS1; clear hS1
      go_wp2_with (first
        | ((with_reducible refine gate_callee (f := 67) rfl ?_); refine goesL_ (some 17) rfl rfl Tryd.func67 (by kernel_rfl) rfl #[.pointer (some ⟨g, 0, none⟩), .string (rdOf ByteArray.empty six j)] rfl (by (try simp only [List.map_toArray, List.map_cons, List.map_nil]); first | done | rfl) ?_; refine (take_yes_st HC.out.st _ HS1.out).mono ?_; rintro r' w5 ⟨rfl, h5, c5⟩; refine ⟨_, rfl, ?_⟩; simp only [Act.put, sa_, sz_, ss_]; have H5 := Lib.hid (HC.out.chg c5 h5); clear h5 c5 HC))
      have H6 := Lib.hid (H5.out.below (Below.drew (Below.refl _ _)))
      clear H5 hc
      refine start_ (n := 8) (S := fun w' => w'.heap[gb7]? = some (.cells #[.int .i64 x.f0, .string x.f1, .string x.f2, .int .i64 x.f3, .int .i64 x.f4, .int .i64 x.f5.f0, .int .i64 x.f5.f1, .string x.f5.f2, .slice vA x.f6.length vc] 26 (0, 0))) (ds := [7]) #[false, false, false, false, false, false, false, false] (by kernel_rfl) rfl rfl H6.out.b7 (fun hHeld => ?_)
      generalize w5.drew = w6 at H6 hHeld ⊢
      refine take_ (i := 0) (N := some 18) (v := ?_) (a' := ?_) #[true, false, false, false, false, false, false, false] rfl rfl (by kernel_rfl) (fun _ _ _ h => h) (Or.inl ⟨by rfl, ?_⟩) hHeld ?_ ?_; rotate_left
      · intro w' hS
        go_simp; (with_reducible rfl)
      rotate_left
      · simp only [Act.put, sa_, sz_, ss_, i64_w, i32_w]
        rfl
      refine take_ (i := 2) (N := some 20) (v := ?_) (a' := ?_) #[true, false, true, false, false, false, false, false] rfl rfl (by kernel_rfl) (fun _ _ _ h => h) (Or.inl ⟨by rfl, ?_⟩) hHeld ?_ ?_; rotate_left
      · intro w' hS; obtain ⟨s0, s1, s2, s3, s4, s5, s6, s7, s8, t0, t1, t2, t3, t4, t5, t6, t7, t8⟩ := bw9_ hS
        go_simp; (with_reducible rfl)
      rotate_left
      · simp only [Act.put, sa_, sz_, ss_, i64_w, i32_w]
        rfl
      refine take_ (i := 3) (N := some 21) (v := ?_) (a' := ?_) #[true, false, true, true, false, false, false, false] rfl rfl (by kernel_rfl) (fun _ _ _ h => h) (Or.inl ⟨by rfl, ?_⟩) hHeld ?_ ?_; rotate_left
      · intro w' hS
        go_simp; (with_reducible rfl)
      rotate_left
      · simp only [Act.put, sa_, sz_, ss_, i64_w, i32_w]
        rfl
      refine one_ (i := 1) (N := some 19) #[true, true, true, true, false, false, false, false] rfl rfl (by kernel_rfl) (by decide) (fun K hK => ?_); refine goes_ Tryd.func130 (by kernel_rfl) rfl #[.string (rdOf ByteArray.empty six j)] (by rfl) rfl rfl (by (try simp only [List.map_toArray, List.map_cons, List.map_nil]); first | done | rfl) ?_; (with_reducible refine (parse_opOf.calls (rdOf ByteArray.empty six j) _ _ (opP_f _)).mono ?_); rintro e' w7 ⟨rfl, nd, rfl⟩; refine ⟨_, rfl, ?_⟩; have H7 := Lib.hid (H6.out.below (pw_below_drewN (Below.refl _ _) nd)); generalize w6.drewN nd = w7 at H7 hK ⊢; clear H6 hHeld; refine hK.out _ _ H7.out.b7 (fun hHeld => ?_); clear hK K; refine norm_ (a' := ?_) ?_ ?_; rotate_left
      · show Act.put _ (some 19) _ = _
        simp only [Act.put, sa_, sz_, ss_, i64_w, i32_w]; rfl
      refine one_ (i := 4) (N := some 22) #[true, true, true, true, true, false, false, false] rfl rfl (by kernel_rfl) (by decide) (fun K hK => ?_); refine goes_ Tryd.func166 (by kernel_rfl) rfl #[.pointer (some ⟨g, 0, none⟩)] (by rfl) rfl rfl (by (try simp only [List.map_toArray, List.map_cons, List.map_nil]); first | done | rfl) ?_; refine (HT.out _ _ _ _ _ _ _ _ _ H7.out.st Q1.out).mono ?_; rintro e' w8 ⟨yA, yc, rfl, h8, c8, t8⟩; refine ⟨_, rfl, ?_⟩; have H8 := Lib.hid (H7.out.chg c8 h8); have T8 := Lib.hid (Tr.aft H7.out t8); clear c8 h8 t8 H7 hHeld; refine hK.out _ _ H8.out.b7 (fun hHeld => ?_); clear hK K; refine norm_ (a' := ?_) ?_ ?_; rotate_left
      · show Act.put _ (some 22) _ = _
        simp only [Act.put, sa_, sz_, ss_, i64_w, i32_w, exV]; rfl
      refine one_ (i := 5) (N := some 23) #[true, true, true, true, true, true, false, false] rfl rfl (by kernel_rfl) (by decide) (fun K hK => ?_); refine lit2s (by rfl) rfl H8.out.tr T8.out ?hf ?hr ?_; (case hf => exact H8.out.fresh); (case hr => first | (go_simp; done) | (go_simp; rfl)); intro A9 c9 w9 v9 b9; have V9 := Lib.hid v9; have H9 := Lib.hid (H8.out.below b9); clear v9 b9 T8 H8 hHeld; refine hK.out _ _ H9.out.b7 (fun hHeld => ?_); clear hK K; refine norm_ (a' := ?_) ?_ ?_; rotate_left
      · show Act.put _ (some 23) _ = _
        simp only [Act.put, sa_, sz_, ss_, i64_w, i32_w]; rfl
      refine one_ (i := 6) (N := some 24) #[true, true, true, true, true, true, true, false] rfl rfl (by kernel_rfl) (by decide) (fun K hK => ?_); refine goes_ Tryd.func106 (by kernel_rfl) rfl #[.int .i64 (opP (rdOf ByteArray.empty six j)), .slice A9 2 c9] (by rfl) rfl rfl (by (try simp only [List.map_toArray, List.map_cons, List.map_nil]); first | done | rfl) ?_; refine (of_any (opP (rdOf ByteArray.empty six j)) [x, r1.x] (by simp) V9.out).mono ?_; rintro e' w10 ⟨zA, zc, rfl, t10, b10⟩; refine ⟨_, rfl, ?_⟩; have H10 := Lib.hid (H9.out.below b10); have T10 := Lib.hid (Tr.new H9.out t10); clear t10 b10 V9 H9 hHeld; refine hK.out _ _ H10.out.b7 (fun hHeld => ?_); clear hK K; refine norm_ (a' := ?_) ?_ ?_; rotate_left
      · show Act.put _ (some 24) _ = _
        simp only [Act.put, sa_, sz_, ss_, i64_w, i32_w, exV, ofP]; rfl
      obtain ⟨s0, s1, s2, s3, s4, s5, s6, s7, s8, t0, t1, t2, t3, t4, t5, t6, t7, t8⟩ := bw9_ H10.out.b6
      refine last_ (i := 7) (N := none) #[true, true, true, true, true, true, true, true] rfl rfl (by kernel_rfl) (by decide) (fun K hK => ?_); refine skip_ (w1 := ?_) (by rfl) rfl ?_ ?_; rotate_left
      · go_simp
        rfl
      refine hK.out _ _ ?_; clear hK K; refine done_ (by kernel_rfl) ?_
      clear s0 s1 s2 s3 s4 s5 s6 s7 s8 t0 t1 t2 t3 t4 t5 t6 t7 t8
      try go_wp2
      exact bodyPost_ret (results_cell_row rfl _ _ gb6 26 #[.int .i64 (opP (rdOf ByteArray.empty six j)), .string ⟨#[]⟩, .string ⟨#[]⟩, .int .i64 0, .int .i64 0, .int .i64 0, .int .i64 0, .string ⟨#[]⟩, .slice zA 2 zc] (0, 0) _ rfl (put9_ H10.out.b6) Tryd.underlying26 rfl (by kernel_rfl)) rfl (H10.out.done' T10.out)
theorem test_no {k : Nat} (hT : GOK k .sum) {w : World} {g : Nat} {A : Option Addr} {c : Nat} {l : List S142} {i0 d0 e0 : Int} {r0 : Re} (h : St w g A c l i0 d0 e0) (h0 : pr l k (.f .sum) i0 d0 e0 = some r0) (hf : six.find? (fun s => isP l r0.i r0.e s) = none) (g1 : isP l r0.i r0.e wIs = false) :
    Calls Tryd.prog 152 #[.pointer (some ⟨g, 0, none⟩)] w (Done w g A c l r0) := by
  have HF := Lib.hid hf; clear hf
  have G1 := Lib.hid g1; clear g1
  have H := Lib.hid h; clear h
  have H0 := Lib.hid h0; clear h0
  have HT := Lib.hid hT; clear hT
  go_enter Tryd.func152, Tryd.ntmps152
  go_wp2_with (first
    | (((with_reducible refine gate_dst (N := 2) rfl ?_); refine box_event ?hg (N := 2) ?hd (cs := #[.int .i64 0, .string (⟨#[]⟩ : ByteArray), .string (⟨#[]⟩ : ByteArray), .int .i64 0, .int .i64 0, .int .i64 0, .int .i64 0, .string (⟨#[]⟩ : ByteArray), .slice none 0 0]) (t := 26) ?hr ?_; (case hd => rfl); (case hg => rfl); (case hr => first | (go_simp; done) | (go_simp; rfl)); intro gb6 hg_ w1 hb_ hl_; have BKgb6 := am_ hb_; have HLgb6 := am_ hl_; have HGgb6 := am_ (Nat.le_of_eq hg_.symm); obtain ⟨zgb6_0, zgb6_1, zgb6_2, zgb6_3, zgb6_4, zgb6_5, zgb6_6, zgb6_7, zgb6_8, ygb6_0, ygb6_1, ygb6_2, ygb6_3, ygb6_4, ygb6_5, ygb6_6, ygb6_7, ygb6_8⟩ := bw9_ hb_; clear hb_ hl_ hg_; simp only [Act.put, sa_, sz_, ss_]); have H1 := Lib.hid (H.out.below HLgb6.out); have HN := Lib.hid (ne_of_le H.out.lt HGgb6.out); clear zgb6_0 zgb6_1 zgb6_2 zgb6_3 zgb6_4 zgb6_5 zgb6_6 zgb6_7 zgb6_8 ygb6_0 ygb6_1 ygb6_2 ygb6_3 ygb6_4 ygb6_5 ygb6_6 ygb6_7 ygb6_8)
    | ((with_reducible refine gate_callee (f := 166) rfl ?_); refine goesL_ (some 8) rfl rfl Tryd.func166 (by kernel_rfl) rfl #[.pointer (some ⟨g, 0, none⟩)] rfl (by (try simp only [List.map_toArray, List.map_cons, List.map_nil]); first | done | rfl) ?_; refine (HT.out _ _ _ _ _ _ _ _ _ H1.out H0.out).mono ?_; rintro r' w2 ⟨vA, vc, rfl, h2, c2, t2⟩; refine ⟨_, rfl, ?_⟩; simp only [Act.put, sa_, sz_, ss_]; simp only [exV]; have H2 := Lib.hid h2; have C2 := Lib.hid c2; have T2 := Lib.hid t2; clear h2 c2 t2)
    | (((with_reducible refine gate_dst (N := 3) rfl ?_); refine box_event ?hg (N := 3) ?hd (cs := #[.int .i64 0, .string (⟨#[]⟩ : ByteArray), .string (⟨#[]⟩ : ByteArray), .int .i64 0, .int .i64 0, .int .i64 0, .int .i64 0, .string (⟨#[]⟩ : ByteArray), .slice none 0 0]) (t := 26) ?hr ?_; (case hd => rfl); (case hg => rfl); (case hr => first | (go_simp; done) | (go_simp; rfl)); intro gb7 hg_ w3 hb_ hl_; have BKgb7 := am_ hb_; have HLgb7 := am_ hl_; have HGgb7 := am_ (Nat.le_of_eq hg_.symm); obtain ⟨zgb7_0, zgb7_1, zgb7_2, zgb7_3, zgb7_4, zgb7_5, zgb7_6, zgb7_7, zgb7_8, ygb7_0, ygb7_1, ygb7_2, ygb7_3, ygb7_4, ygb7_5, ygb7_6, ygb7_7, ygb7_8⟩ := bw9_ hb_; clear hb_ hl_ hg_; simp only [Act.put, sa_, sz_, ss_]); have HN7 : Hid (g < gb7) := Lib.hid (Nat.lt_of_lt_of_le H2.out.lt HGgb7.out))
    | ((with_reducible refine gate_dst (N := 9) rfl ?_); refine litS6 (N' := 9) (g := g) ?hg ?hd ?hl ?hr ?_; (case hd => rfl); (case hg => rfl); (case hl => exact ((H2.out.below HLgb7.out).box chg9_ HN7.out).lt); (case hr => first | (go_simp; done) | (go_simp; rfl)); intro A9 c9 w9 s9 b9; have S9 := Lib.hid s9; have H9 := Lib.hid ((CS.start (H2.out.below HLgb7.out) (((Chg.below H.out.lt HLgb6.out).trans C2.out).trans (Chg.below H2.out.lt HLgb7.out)) (blk_below (C2.out.box BKgb6.out HN.out) HLgb7.out) BKgb7.out (start_tr BKgb6.out HGgb7.out HLgb6.out C2.out HLgb7.out T2.out) (Sg.nil _ _ _) H.out.lt HGgb6.out (Nat.lt_of_lt_of_le (blk_lt (C2.out.box BKgb6.out HN.out)) HGgb7.out)).below b9); clear s9 b9 zgb7_0 zgb7_1 zgb7_2 zgb7_3 zgb7_4 zgb7_5 zgb7_6 zgb7_7 zgb7_8 ygb7_0 ygb7_1 ygb7_2 ygb7_3 ygb7_4 ygb7_5 ygb7_6 ygb7_7 ygb7_8 BKgb6 BKgb7 HLgb6 HLgb7 HGgb6 HGgb7 H1 H2 C2 T2 HN7 HN; simp only [Act.put, sa_, sz_, ss_]))
  generalize w9.heap.size = b0 at S9
  obtain ⟨i, d, e, x⟩ := r0
  dsimp only at H9 HF G1 ⊢
  go_loopg [11] 6 (fun kq v11 w' => ∃ (j : Int), v11 = .int .i64 j ∧ Aside0 (0 ≤ j ∧ j ≤ 6 ∧ kq = 6 - j.toNat) ∧ Aside0 (CS w g gb6 gb7 A c l none [] w' i d e x vA vc) ∧ Aside0 (Sg w' g b0 A9 six))
  case atStart => exact ⟨0, rfl, ⟨⟨Int.le_refl 0, by decide, by simp⟩⟩, ⟨H9.out⟩, ⟨S9.out⟩⟩
  case round =>
    clear H9 S9
    obtain ⟨j, rfl, HJ, HC, HS⟩ := hrel
    by_cases c1 : j < (6 : Int)
    · obtain ⟨ad, rfl, hc⟩ := HS.out.cell j HJ.out.1 c1
      have hj := eq_true HJ.out.1
      have c1b : decide (j < (6 : Int)) = true := decide_eq_true c1
      have c1c := eq_true c1
      have hm : isP l i e (rdOf ByteArray.empty six j) = false := by
        have := List.find?_eq_none.1 HF.out (rdOf ByteArray.empty six j) (rdOf_mem six j HJ.out.1 c1)
        simpa using this
      have HM1 := Lib.hid hm; clear hm
      have C2 := Lib.hid c1; clear c1
      go_wp2_with (first
        | ((with_reducible refine gate_callee (f := 67) rfl ?_); refine goesL_ (some 17) rfl rfl Tryd.func67 (by kernel_rfl) rfl #[.pointer (some ⟨g, 0, none⟩), .string (rdOf ByteArray.empty six j)] rfl (by (try simp only [List.map_toArray, List.map_cons, List.map_nil]); first | done | rfl) ?_; refine (take_no_st HC.out.st _ HM1.out).mono ?_; rintro r' w5 ⟨rfl, h5, c5⟩; refine ⟨_, rfl, ?_⟩; simp only [Act.put, sa_, sz_, ss_]; have H5 := Lib.hid (HC.out.chg c5 h5); have S5 := Lib.hid (HS.out.chg c5); clear h5 c5))
      have ⟨hj0, hj1, hj2⟩ := HJ.out; have hc2 := C2.out
      clear HJ hc
      go_roundg (6 - (j + 1).toNat)
      case measure => omega
      case rel => exact ⟨j + 1, by rw [show wrap64 (j + 1) = j + 1 from w64 _ (by omega)], ⟨⟨by omega, by omega, rfl⟩⟩, ⟨H5.out⟩, ⟨S5.out⟩⟩
    · have c1b : decide (j < (6 : Int)) = false := decide_eq_false c1
      clear HJ c1 HS HF
      obtain ⟨p0, p1, p2, p3, p4, p5, p6, p7, p8, q0, q1, q2, q3, q4, q5, q6, q7, q8⟩ := bw9_ HC.out.b6; obtain ⟨s0, s1, s2, s3, s4, s5, s6, s7, s8, t0, t1, t2, t3, t4, t5, t6, t7, t8⟩ := bw9_ HC.out.b7
      clear p0 p1 p2 p3 p4 p5 p6 p7 p8 q0 q1 q2 q3 q4 q5 q6 q7 q8 s0 s1 s2 s3 s4 s5 s6 s7 s8 t0 t1 t2 t3 t4 t5 t6 t7 t8
      go_wp2_with (first
        | ((with_reducible refine gate_callee (f := 67) rfl ?_); refine goesL_ (some 27) rfl rfl Tryd.func67 (by kernel_rfl) rfl #[.pointer (some ⟨g, 0, none⟩), .string wIs] rfl (by (try simp only [List.map_toArray, List.map_cons, List.map_nil]); first | done | rfl) ?_; refine (take_no_st HC.out.st _ G1.out).mono ?_; rintro r' w5 ⟨rfl, h5, c5⟩; refine ⟨_, rfl, ?_⟩; simp only [Act.put, sa_, sz_, ss_]; have H5 := Lib.hid (HC.out.chg c5 h5); clear h5 c5 HC; obtain ⟨p0, p1, p2, p3, p4, p5, p6, p7, p8, q0, q1, q2, q3, q4, q5, q6, q7, q8⟩ := bw9_ H5.out.b6; obtain ⟨s0, s1, s2, s3, s4, s5, s6, s7, s8, t0, t1, t2, t3, t4, t5, t6, t7, t8⟩ := bw9_ H5.out.b7))
      exact bodyPost_ret (results_cell_row rfl _ _ gb6 26 #[.int .i64 x.f0, .string x.f1, .string x.f2, .int .i64 x.f3, .int .i64 x.f4, .int .i64 x.f5.f0, .int .i64 x.f5.f1, .string x.f5.f2, .slice vA x.f6.length vc] (0, 0) _ rfl (put9_ H5.out.b6) Tryd.underlying26 rfl (by kernel_rfl)) rfl H5.out.done
theorem test_is {k : Nat} (hT : GOK k .sum) {w : World} {g : Nat} {A : Option Addr} {c : Nat} {l : List S142} {i0 d0 e0 : Int} {r0 : Re} (h : St w g A c l i0 d0 e0) (h0 : pr l k (.f .sum) i0 d0 e0 = some r0) (hf : six.find? (fun s => isP l r0.i r0.e s) = none) (g1 : isP l r0.i r0.e wIs = true) (g2 : isP l (r0.i + 1) r0.e wNot = false) :
    Calls Tryd.prog 152 #[.pointer (some ⟨g, 0, none⟩)] w (Done w g A c l ⟨muI l (r0.i + 1) r0.e wNull, r0.d, muE l (r0.i + 1) r0.e wNull, ofP 13 [r0.x]⟩) := by
  have HF := Lib.hid hf; clear hf
  have G1 := Lib.hid g1; clear g1
  have G2 := Lib.hid g2; clear g2
  have H := Lib.hid h; clear h
  have H0 := Lib.hid h0; clear h0
  have HT := Lib.hid hT; clear hT
  go_enter Tryd.func152, Tryd.ntmps152
  go_wp2_with (first
    | (((with_reducible refine gate_dst (N := 2) rfl ?_); refine box_event ?hg (N := 2) ?hd (cs := #[.int .i64 0, .string (⟨#[]⟩ : ByteArray), .string (⟨#[]⟩ : ByteArray), .int .i64 0, .int .i64 0, .int .i64 0, .int .i64 0, .string (⟨#[]⟩ : ByteArray), .slice none 0 0]) (t := 26) ?hr ?_; (case hd => rfl); (case hg => rfl); (case hr => first | (go_simp; done) | (go_simp; rfl)); intro gb6 hg_ w1 hb_ hl_; have BKgb6 := am_ hb_; have HLgb6 := am_ hl_; have HGgb6 := am_ (Nat.le_of_eq hg_.symm); obtain ⟨zgb6_0, zgb6_1, zgb6_2, zgb6_3, zgb6_4, zgb6_5, zgb6_6, zgb6_7, zgb6_8, ygb6_0, ygb6_1, ygb6_2, ygb6_3, ygb6_4, ygb6_5, ygb6_6, ygb6_7, ygb6_8⟩ := bw9_ hb_; clear hb_ hl_ hg_; simp only [Act.put, sa_, sz_, ss_]); have H1 := Lib.hid (H.out.below HLgb6.out); have HN := Lib.hid (ne_of_le H.out.lt HGgb6.out); clear zgb6_0 zgb6_1 zgb6_2 zgb6_3 zgb6_4 zgb6_5 zgb6_6 zgb6_7 zgb6_8 ygb6_0 ygb6_1 ygb6_2 ygb6_3 ygb6_4 ygb6_5 ygb6_6 ygb6_7 ygb6_8)
    | ((with_reducible refine gate_callee (f := 166) rfl ?_); refine goesL_ (some 8) rfl rfl Tryd.func166 (by kernel_rfl) rfl #[.pointer (some ⟨g, 0, none⟩)] rfl (by (try simp only [List.map_toArray, List.map_cons, List.map_nil]); first | done | rfl) ?_; refine (HT.out _ _ _ _ _ _ _ _ _ H1.out H0.out).mono ?_; rintro r' w2 ⟨vA, vc, rfl, h2, c2, t2⟩; refine ⟨_, rfl, ?_⟩; simp only [Act.put, sa_, sz_, ss_]; simp only [exV]; have H2 := Lib.hid h2; have C2 := Lib.hid c2; have T2 := Lib.hid t2; clear h2 c2 t2)
    | (((with_reducible refine gate_dst (N := 3) rfl ?_); refine box_event ?hg (N := 3) ?hd (cs := #[.int .i64 0, .string (⟨#[]⟩ : ByteArray), .string (⟨#[]⟩ : ByteArray), .int .i64 0, .int .i64 0, .int .i64 0, .int .i64 0, .string (⟨#[]⟩ : ByteArray), .slice none 0 0]) (t := 26) ?hr ?_; (case hd => rfl); (case hg => rfl); (case hr => first | (go_simp; done) | (go_simp; rfl)); intro gb7 hg_ w3 hb_ hl_; have BKgb7 := am_ hb_; have HLgb7 := am_ hl_; have HGgb7 := am_ (Nat.le_of_eq hg_.symm); obtain ⟨zgb7_0, zgb7_1, zgb7_2, zgb7_3, zgb7_4, zgb7_5, zgb7_6, zgb7_7, zgb7_8, ygb7_0, ygb7_1, ygb7_2, ygb7_3, ygb7_4, ygb7_5, ygb7_6, ygb7_7, ygb7_8⟩ := bw9_ hb_; clear hb_ hl_ hg_; simp only [Act.put, sa_, sz_, ss_]); have HN7 : Hid (g < gb7) := Lib.hid (Nat.lt_of_lt_of_le H2.out.lt HGgb7.out))
    | ((with_reducible refine gate_dst (N := 9) rfl ?_); refine litS6 (N' := 9) (g := g) ?hg ?hd ?hl ?hr ?_; (case hd => rfl); (case hg => rfl); (case hl => exact ((H2.out.below HLgb7.out).box chg9_ HN7.out).lt); (case hr => first | (go_simp; done) | (go_simp; rfl)); intro A9 c9 w9 s9 b9; have S9 := Lib.hid s9; have H9 := Lib.hid ((CS.start (H2.out.below HLgb7.out) (((Chg.below H.out.lt HLgb6.out).trans C2.out).trans (Chg.below H2.out.lt HLgb7.out)) (blk_below (C2.out.box BKgb6.out HN.out) HLgb7.out) BKgb7.out (start_tr BKgb6.out HGgb7.out HLgb6.out C2.out HLgb7.out T2.out) (Sg.nil _ _ _) H.out.lt HGgb6.out (Nat.lt_of_lt_of_le (blk_lt (C2.out.box BKgb6.out HN.out)) HGgb7.out)).below b9); clear s9 b9 zgb7_0 zgb7_1 zgb7_2 zgb7_3 zgb7_4 zgb7_5 zgb7_6 zgb7_7 zgb7_8 ygb7_0 ygb7_1 ygb7_2 ygb7_3 ygb7_4 ygb7_5 ygb7_6 ygb7_7 ygb7_8 BKgb6 BKgb7 HLgb6 HLgb7 HGgb6 HGgb7 H1 H2 C2 T2 HN7 HN; simp only [Act.put, sa_, sz_, ss_]))
  generalize w9.heap.size = b0 at S9
  obtain ⟨i, d, e, x⟩ := r0
  dsimp only at H9 HF G1 G2 ⊢
  go_loopg [11] 6 (fun kq v11 w' => ∃ (j : Int), v11 = .int .i64 j ∧ Aside0 (0 ≤ j ∧ j ≤ 6 ∧ kq = 6 - j.toNat) ∧ Aside0 (CS w g gb6 gb7 A c l none [] w' i d e x vA vc) ∧ Aside0 (Sg w' g b0 A9 six))
  case atStart => exact ⟨0, rfl, ⟨⟨Int.le_refl 0, by decide, by simp⟩⟩, ⟨H9.out⟩, ⟨S9.out⟩⟩
  case round =>
    clear H9 S9
    obtain ⟨j, rfl, HJ, HC, HS⟩ := hrel
    by_cases c1 : j < (6 : Int)
    · obtain ⟨ad, rfl, hc⟩ := HS.out.cell j HJ.out.1 c1
      have hj := eq_true HJ.out.1
      have c1b : decide (j < (6 : Int)) = true := decide_eq_true c1
      have c1c := eq_true c1
      have hm : isP l i e (rdOf ByteArray.empty six j) = false := by
        have := List.find?_eq_none.1 HF.out (rdOf ByteArray.empty six j) (rdOf_mem six j HJ.out.1 c1)
        simpa using this
      have HM1 := Lib.hid hm; clear hm
      have C2 := Lib.hid c1; clear c1
      go_wp2_with (first
        | ((with_reducible refine gate_callee (f := 67) rfl ?_); refine goesL_ (some 17) rfl rfl Tryd.func67 (by kernel_rfl) rfl #[.pointer (some ⟨g, 0, none⟩), .string (rdOf ByteArray.empty six j)] rfl (by (try simp only [List.map_toArray, List.map_cons, List.map_nil]); first | done | rfl) ?_; refine (take_no_st HC.out.st _ HM1.out).mono ?_; rintro r' w5 ⟨rfl, h5, c5⟩; refine ⟨_, rfl, ?_⟩; simp only [Act.put, sa_, sz_, ss_]; have H5 := Lib.hid (HC.out.chg c5 h5); have S5 := Lib.hid (HS.out.chg c5); clear h5 c5))
      have ⟨hj0, hj1, hj2⟩ := HJ.out; have hc2 := C2.out
      clear HJ hc
      go_roundg (6 - (j + 1).toNat)
      case measure => omega
      case rel => exact ⟨j + 1, by rw [show wrap64 (j + 1) = j + 1 from w64 _ (by omega)], ⟨⟨by omega, by omega, rfl⟩⟩, ⟨H5.out⟩, ⟨S5.out⟩⟩
    · have c1b : decide (j < (6 : Int)) = false := decide_eq_false c1
      clear HJ c1 HS HF
      go_wp2_with (first
        | ((with_reducible refine gate_callee (f := 67) rfl ?_); refine goesL_ (some 27) rfl rfl Tryd.func67 (by kernel_rfl) rfl #[.pointer (some ⟨g, 0, none⟩), .string wIs] rfl (by (try simp only [List.map_toArray, List.map_cons, List.map_nil]); first | done | rfl) ?_; refine (take_yes_st HC.out.st _ G1.out).mono ?_; rintro r' w5 ⟨rfl, h5, c5⟩; refine ⟨_, rfl, ?_⟩; simp only [Act.put, sa_, sz_, ss_]; have H5 := Lib.hid (HC.out.chg c5 h5); clear h5 c5 HC)
        | ((with_reducible refine gate_callee (f := 67) rfl ?_); refine goesL_ (some 31) rfl rfl Tryd.func67 (by kernel_rfl) rfl #[.pointer (some ⟨g, 0, none⟩), .string wNot] rfl (by (try simp only [List.map_toArray, List.map_cons, List.map_nil]); first | done | rfl) ?_; refine (take_no_st H5.out.st _ G2.out).mono ?_; rintro r' w6 ⟨rfl, h5, c5⟩; refine ⟨_, rfl, ?_⟩; simp only [Act.put, sa_, sz_, ss_]; have H6 := Lib.hid (H5.out.chg c5 h5); clear h5 c5 H5)
        | ((with_reducible refine gate_callee (f := 63) rfl ?_); refine goesL_ (some 33) rfl rfl Tryd.func63 (by kernel_rfl) rfl #[.pointer (some ⟨g, 0, none⟩), .string wNull] rfl (by (try simp only [List.map_toArray, List.map_cons, List.map_nil]); first | done | rfl) ?_; refine (must_st H6.out.st _).mono ?_; rintro r' w7 ⟨rfl, h5, c5⟩; refine ⟨_, rfl, ?_⟩; simp only [Act.put, sa_, sz_, ss_]; have H7 := Lib.hid (H6.out.chg c5 h5); clear h5 c5 H6; obtain ⟨p0, p1, p2, p3, p4, p5, p6, p7, p8, q0, q1, q2, q3, q4, q5, q6, q7, q8⟩ := bw9_ H7.out.b6; obtain ⟨s0, s1, s2, s3, s4, s5, s6, s7, s8, t0, t1, t2, t3, t4, t5, t6, t7, t8⟩ := bw9_ H7.out.b7)
        | ((with_reducible refine gate_dst (N := 36) rfl ?_); refine lit1 (N' := 36) ?hg ?hd H7.out.tr ?hf ?hr ?_; (case hd => rfl); (case hg => rfl); (case hf => exact H7.out.fresh); (case hr => first | (go_simp; done) | (go_simp; rfl)); intro A8 c8 w8 v8 b8; have V8 := Lib.hid v8; have H8 := Lib.hid (H7.out.below b8); clear v8 b8 p0 p1 p2 p3 p4 p5 p6 p7 p8 q0 q1 q2 q3 q4 q5 q6 q7 q8 s0 s1 s2 s3 s4 s5 s6 s7 s8 t0 t1 t2 t3 t4 t5 t6 t7 t8; simp only [Act.put, sa_, sz_, ss_])
        | ((with_reducible refine gate_callee (f := 106) rfl ?_); refine goesL_ (some 37) rfl rfl Tryd.func106 (by kernel_rfl) rfl #[.int .i64 13, .slice A8 1 c8] rfl (by (try simp only [List.map_toArray, List.map_cons, List.map_nil]); first | done | rfl) ?_; refine (of_any 13 [x] (by simp) V8.out).mono ?_; rintro r' w9 ⟨zA, zc, rfl, t9, b9⟩; refine ⟨_, rfl, ?_⟩; simp only [Act.put, sa_, sz_, ss_]; simp only [exV, ofP]; have H9 := Lib.hid (H8.out.below b9); have T9 := Lib.hid (Tr.new H8.out t9); clear t9 b9; obtain ⟨p0, p1, p2, p3, p4, p5, p6, p7, p8, q0, q1, q2, q3, q4, q5, q6, q7, q8⟩ := bw9_ H9.out.b6; obtain ⟨s0, s1, s2, s3, s4, s5, s6, s7, s8, t0, t1, t2, t3, t4, t5, t6, t7, t8⟩ := bw9_ H9.out.b7))
      exact bodyPost_ret (results_cell_row rfl _ _ gb6 26 #[.int .i64 13, .string ⟨#[]⟩, .string ⟨#[]⟩, .int .i64 0, .int .i64 0, .int .i64 0, .int .i64 0, .string ⟨#[]⟩, .slice zA 1 zc] (0, 0) _ rfl (put9_ H9.out.b6) Tryd.underlying26 rfl (by kernel_rfl)) rfl (H9.out.done' T9.out)
theorem test_isnt {k : Nat} (hT : GOK k .sum) {w : World} {g : Nat} {A : Option Addr} {c : Nat} {l : List S142} {i0 d0 e0 : Int} {r0 : Re} (h : St w g A c l i0 d0 e0) (h0 : pr l k (.f .sum) i0 d0 e0 = some r0) (hf : six.find? (fun s => isP l r0.i r0.e s) = none) (g1 : isP l r0.i r0.e wIs = true) (g2 : isP l (r0.i + 1) r0.e wNot = true) :
    Calls Tryd.prog 152 #[.pointer (some ⟨g, 0, none⟩)] w (Done w g A c l ⟨muI l (r0.i + 1 + 1) r0.e wNull, r0.d, muE l (r0.i + 1 + 1) r0.e wNull, ofP 14 [r0.x]⟩) := by
  have HF := Lib.hid hf; clear hf
  have G1 := Lib.hid g1; clear g1
  have G2 := Lib.hid g2; clear g2
  have H := Lib.hid h; clear h
  have H0 := Lib.hid h0; clear h0
  have HT := Lib.hid hT; clear hT
  go_enter Tryd.func152, Tryd.ntmps152
  go_wp2_with (first
    | (((with_reducible refine gate_dst (N := 2) rfl ?_); refine box_event ?hg (N := 2) ?hd (cs := #[.int .i64 0, .string (⟨#[]⟩ : ByteArray), .string (⟨#[]⟩ : ByteArray), .int .i64 0, .int .i64 0, .int .i64 0, .int .i64 0, .string (⟨#[]⟩ : ByteArray), .slice none 0 0]) (t := 26) ?hr ?_; (case hd => rfl); (case hg => rfl); (case hr => first | (go_simp; done) | (go_simp; rfl)); intro gb6 hg_ w1 hb_ hl_; have BKgb6 := am_ hb_; have HLgb6 := am_ hl_; have HGgb6 := am_ (Nat.le_of_eq hg_.symm); obtain ⟨zgb6_0, zgb6_1, zgb6_2, zgb6_3, zgb6_4, zgb6_5, zgb6_6, zgb6_7, zgb6_8, ygb6_0, ygb6_1, ygb6_2, ygb6_3, ygb6_4, ygb6_5, ygb6_6, ygb6_7, ygb6_8⟩ := bw9_ hb_; clear hb_ hl_ hg_; simp only [Act.put, sa_, sz_, ss_]); have H1 := Lib.hid (H.out.below HLgb6.out); have HN := Lib.hid (ne_of_le H.out.lt HGgb6.out); clear zgb6_0 zgb6_1 zgb6_2 zgb6_3 zgb6_4 zgb6_5 zgb6_6 zgb6_7 zgb6_8 ygb6_0 ygb6_1 ygb6_2 ygb6_3 ygb6_4 ygb6_5 ygb6_6 ygb6_7 ygb6_8)
    | ((with_reducible refine gate_callee (f := 166) rfl ?_); refine goesL_ (some 8) rfl rfl Tryd.func166 (by kernel_rfl) rfl #[.pointer (some ⟨g, 0, none⟩)] rfl (by (try simp only [List.map_toArray, List.map_cons, List.map_nil]); first | done | rfl) ?_; refine (HT.out _ _ _ _ _ _ _ _ _ H1.out H0.out).mono ?_; rintro r' w2 ⟨vA, vc, rfl, h2, c2, t2⟩; refine ⟨_, rfl, ?_⟩; simp only [Act.put, sa_, sz_, ss_]; simp only [exV]; have H2 := Lib.hid h2; have C2 := Lib.hid c2; have T2 := Lib.hid t2; clear h2 c2 t2)
    | (((with_reducible refine gate_dst (N := 3) rfl ?_); refine box_event ?hg (N := 3) ?hd (cs := #[.int .i64 0, .string (⟨#[]⟩ : ByteArray), .string (⟨#[]⟩ : ByteArray), .int .i64 0, .int .i64 0, .int .i64 0, .int .i64 0, .string (⟨#[]⟩ : ByteArray), .slice none 0 0]) (t := 26) ?hr ?_; (case hd => rfl); (case hg => rfl); (case hr => first | (go_simp; done) | (go_simp; rfl)); intro gb7 hg_ w3 hb_ hl_; have BKgb7 := am_ hb_; have HLgb7 := am_ hl_; have HGgb7 := am_ (Nat.le_of_eq hg_.symm); obtain ⟨zgb7_0, zgb7_1, zgb7_2, zgb7_3, zgb7_4, zgb7_5, zgb7_6, zgb7_7, zgb7_8, ygb7_0, ygb7_1, ygb7_2, ygb7_3, ygb7_4, ygb7_5, ygb7_6, ygb7_7, ygb7_8⟩ := bw9_ hb_; clear hb_ hl_ hg_; simp only [Act.put, sa_, sz_, ss_]); have HN7 : Hid (g < gb7) := Lib.hid (Nat.lt_of_lt_of_le H2.out.lt HGgb7.out))
    | ((with_reducible refine gate_dst (N := 9) rfl ?_); refine litS6 (N' := 9) (g := g) ?hg ?hd ?hl ?hr ?_; (case hd => rfl); (case hg => rfl); (case hl => exact ((H2.out.below HLgb7.out).box chg9_ HN7.out).lt); (case hr => first | (go_simp; done) | (go_simp; rfl)); intro A9 c9 w9 s9 b9; have S9 := Lib.hid s9; have H9 := Lib.hid ((CS.start (H2.out.below HLgb7.out) (((Chg.below H.out.lt HLgb6.out).trans C2.out).trans (Chg.below H2.out.lt HLgb7.out)) (blk_below (C2.out.box BKgb6.out HN.out) HLgb7.out) BKgb7.out (start_tr BKgb6.out HGgb7.out HLgb6.out C2.out HLgb7.out T2.out) (Sg.nil _ _ _) H.out.lt HGgb6.out (Nat.lt_of_lt_of_le (blk_lt (C2.out.box BKgb6.out HN.out)) HGgb7.out)).below b9); clear s9 b9 zgb7_0 zgb7_1 zgb7_2 zgb7_3 zgb7_4 zgb7_5 zgb7_6 zgb7_7 zgb7_8 ygb7_0 ygb7_1 ygb7_2 ygb7_3 ygb7_4 ygb7_5 ygb7_6 ygb7_7 ygb7_8 BKgb6 BKgb7 HLgb6 HLgb7 HGgb6 HGgb7 H1 H2 C2 T2 HN7 HN; simp only [Act.put, sa_, sz_, ss_]))
  generalize w9.heap.size = b0 at S9
  obtain ⟨i, d, e, x⟩ := r0
  dsimp only at H9 HF G1 G2 ⊢
  go_loopg [11] 6 (fun kq v11 w' => ∃ (j : Int), v11 = .int .i64 j ∧ Aside0 (0 ≤ j ∧ j ≤ 6 ∧ kq = 6 - j.toNat) ∧ Aside0 (CS w g gb6 gb7 A c l none [] w' i d e x vA vc) ∧ Aside0 (Sg w' g b0 A9 six))
  case atStart => exact ⟨0, rfl, ⟨⟨Int.le_refl 0, by decide, by simp⟩⟩, ⟨H9.out⟩, ⟨S9.out⟩⟩
  case round =>
    clear H9 S9
    obtain ⟨j, rfl, HJ, HC, HS⟩ := hrel
    by_cases c1 : j < (6 : Int)
    · obtain ⟨ad, rfl, hc⟩ := HS.out.cell j HJ.out.1 c1
      have hj := eq_true HJ.out.1
      have c1b : decide (j < (6 : Int)) = true := decide_eq_true c1
      have c1c := eq_true c1
      have hm : isP l i e (rdOf ByteArray.empty six j) = false := by
        have := List.find?_eq_none.1 HF.out (rdOf ByteArray.empty six j) (rdOf_mem six j HJ.out.1 c1)
        simpa using this
      have HM1 := Lib.hid hm; clear hm
      have C2 := Lib.hid c1; clear c1
      go_wp2_with (first
        | ((with_reducible refine gate_callee (f := 67) rfl ?_); refine goesL_ (some 17) rfl rfl Tryd.func67 (by kernel_rfl) rfl #[.pointer (some ⟨g, 0, none⟩), .string (rdOf ByteArray.empty six j)] rfl (by (try simp only [List.map_toArray, List.map_cons, List.map_nil]); first | done | rfl) ?_; refine (take_no_st HC.out.st _ HM1.out).mono ?_; rintro r' w5 ⟨rfl, h5, c5⟩; refine ⟨_, rfl, ?_⟩; simp only [Act.put, sa_, sz_, ss_]; have H5 := Lib.hid (HC.out.chg c5 h5); have S5 := Lib.hid (HS.out.chg c5); clear h5 c5))
      have ⟨hj0, hj1, hj2⟩ := HJ.out; have hc2 := C2.out
      clear HJ hc
      go_roundg (6 - (j + 1).toNat)
      case measure => omega
      case rel => exact ⟨j + 1, by rw [show wrap64 (j + 1) = j + 1 from w64 _ (by omega)], ⟨⟨by omega, by omega, rfl⟩⟩, ⟨H5.out⟩, ⟨S5.out⟩⟩
    · have c1b : decide (j < (6 : Int)) = false := decide_eq_false c1
      clear HJ c1 HS HF
      go_wp2_with (first
        | ((with_reducible refine gate_callee (f := 67) rfl ?_); refine goesL_ (some 27) rfl rfl Tryd.func67 (by kernel_rfl) rfl #[.pointer (some ⟨g, 0, none⟩), .string wIs] rfl (by (try simp only [List.map_toArray, List.map_cons, List.map_nil]); first | done | rfl) ?_; refine (take_yes_st HC.out.st _ G1.out).mono ?_; rintro r' w5 ⟨rfl, h5, c5⟩; refine ⟨_, rfl, ?_⟩; simp only [Act.put, sa_, sz_, ss_]; have H5 := Lib.hid (HC.out.chg c5 h5); clear h5 c5 HC)
        | ((with_reducible refine gate_callee (f := 67) rfl ?_); refine goesL_ (some 31) rfl rfl Tryd.func67 (by kernel_rfl) rfl #[.pointer (some ⟨g, 0, none⟩), .string wNot] rfl (by (try simp only [List.map_toArray, List.map_cons, List.map_nil]); first | done | rfl) ?_; refine (take_yes_st H5.out.st _ G2.out).mono ?_; rintro r' w6 ⟨rfl, h5, c5⟩; refine ⟨_, rfl, ?_⟩; simp only [Act.put, sa_, sz_, ss_]; have H6 := Lib.hid (H5.out.chg c5 h5); clear h5 c5 H5)
        | ((with_reducible refine gate_callee (f := 63) rfl ?_); refine goesL_ (some 33) rfl rfl Tryd.func63 (by kernel_rfl) rfl #[.pointer (some ⟨g, 0, none⟩), .string wNull] rfl (by (try simp only [List.map_toArray, List.map_cons, List.map_nil]); first | done | rfl) ?_; refine (must_st H6.out.st _).mono ?_; rintro r' w7 ⟨rfl, h5, c5⟩; refine ⟨_, rfl, ?_⟩; simp only [Act.put, sa_, sz_, ss_]; have H7 := Lib.hid (H6.out.chg c5 h5); clear h5 c5 H6; obtain ⟨p0, p1, p2, p3, p4, p5, p6, p7, p8, q0, q1, q2, q3, q4, q5, q6, q7, q8⟩ := bw9_ H7.out.b6; obtain ⟨s0, s1, s2, s3, s4, s5, s6, s7, s8, t0, t1, t2, t3, t4, t5, t6, t7, t8⟩ := bw9_ H7.out.b7)
        | ((with_reducible refine gate_dst (N := 36) rfl ?_); refine lit1 (N' := 36) ?hg ?hd H7.out.tr ?hf ?hr ?_; (case hd => rfl); (case hg => rfl); (case hf => exact H7.out.fresh); (case hr => first | (go_simp; done) | (go_simp; rfl)); intro A8 c8 w8 v8 b8; have V8 := Lib.hid v8; have H8 := Lib.hid (H7.out.below b8); clear v8 b8 p0 p1 p2 p3 p4 p5 p6 p7 p8 q0 q1 q2 q3 q4 q5 q6 q7 q8 s0 s1 s2 s3 s4 s5 s6 s7 s8 t0 t1 t2 t3 t4 t5 t6 t7 t8; simp only [Act.put, sa_, sz_, ss_])
        | ((with_reducible refine gate_callee (f := 106) rfl ?_); refine goesL_ (some 37) rfl rfl Tryd.func106 (by kernel_rfl) rfl #[.int .i64 14, .slice A8 1 c8] rfl (by (try simp only [List.map_toArray, List.map_cons, List.map_nil]); first | done | rfl) ?_; refine (of_any 14 [x] (by simp) V8.out).mono ?_; rintro r' w9 ⟨zA, zc, rfl, t9, b9⟩; refine ⟨_, rfl, ?_⟩; simp only [Act.put, sa_, sz_, ss_]; simp only [exV, ofP]; have H9 := Lib.hid (H8.out.below b9); have T9 := Lib.hid (Tr.new H8.out t9); clear t9 b9; obtain ⟨p0, p1, p2, p3, p4, p5, p6, p7, p8, q0, q1, q2, q3, q4, q5, q6, q7, q8⟩ := bw9_ H9.out.b6; obtain ⟨s0, s1, s2, s3, s4, s5, s6, s7, s8, t0, t1, t2, t3, t4, t5, t6, t7, t8⟩ := bw9_ H9.out.b7))
      exact bodyPost_ret (results_cell_row rfl _ _ gb6 26 #[.int .i64 14, .string ⟨#[]⟩, .string ⟨#[]⟩, .int .i64 0, .int .i64 0, .int .i64 0, .int .i64 0, .string ⟨#[]⟩, .slice zA 1 zc] (0, 0) _ rfl (put9_ H9.out.b6) Tryd.underlying26 rfl (by kernel_rfl)) rfl (H9.out.done' T9.out)
theorem test_ok (k : Nat) (hT : GOK k .sum) : GOK (k + 1) .test := by
  intro w g A c l i d e r h hr
  simp only [pr] at hr
  obtain ⟨r0, h0, hr⟩ := Option.bind_eq_some_iff.1 hr
  change Calls Tryd.prog 152 _ _ _
  cases hf : six.find? (fun s => isP l r0.i r0.e s) with
  | some s =>
    rw [hf] at hr
    obtain ⟨r1, h1, hr⟩ := Option.bind_eq_some_iff.1 hr
    obtain rfl := Option.some.inj hr
    exact test_some hT h h0 hf h1
  | none =>
    rw [hf] at hr
    obtain rfl := Option.some.inj hr
    unfold tst
    cases g1 : isP l r0.i r0.e wIs with
    | false => rw [if_neg (by decide)]; exact test_no hT h h0 hf g1
    | true =>
      rw [if_pos rfl]
      cases g2 : isP l (r0.i + 1) r0.e wNot with
      | false => rw [if_neg (by decide)]; exact test_is hT h h0 hf g1 g2
      | true => rw [if_pos rfl]; exact test_isnt hT h h0 hf g1 g2
end Go.Proofs.YthlepdjjdbpmoaaDoor.PPrintExprs
namespace Go.Proofs.YthlepdjjdbpmoaaDoor.PPrintExprs
open Go.RowKit Go.Proofs.YthlepdjjdbpmoaaDoorW.PrintWords Go.Proofs.YthlepdjjdbpmoaaDoorW.PrintLast Go.Proofs.YthlepdjjdbpmoaaDoorW.PrintMore
attribute [local go_sem] max2_int min2_int max_two min_two max_three min_three max_four min_four
set_option linter.unusedVariables false
set_option linter.unusedSimpArgs false
set_option maxRecDepth 100000
set_option maxHeartbeats 4000000
theorem chg4_ {gb : Nat} {W : World} {v0 v1 v2 v3 : Value} : Chg gb W ((((W.setCell ⟨gb, 0, none⟩ v0).setCell ⟨gb, 1, none⟩ v1).setCell ⟨gb, 2, none⟩ v2).setCell ⟨gb, 3, none⟩ v3) := ((((Chg.refl gb W).set 0 v0).set 1 v1).set 2 v2).set 3 v3
structure AS (w0 : World) (g g2 : Nat) (A : Option Addr) (c : Nat) (l : List S142) (w : World) (i d e : Int) : Prop where
  st : St w g A c l i d e
  ch : Chg g w0 w
  b2 : w.heap[g2]? = some (.cells #[.int .i64 0, .string ⟨#[]⟩, .string ⟨#[]⟩, .int .i64 0, .int .i64 0, .int .i64 0, .int .i64 0, .string ⟨#[]⟩, .slice none 0 0] 26 (0, 0))
  hg : g < w0.heap.size
  h2 : w0.heap.size ≤ g2
section
variable {w0 w w' : World} {g g2 g3 c vc : Nat} {A vA : Option Addr} {l : List S142} {i d e i' d' e' : Int} {x : S26}
theorem AS.chg (h : AS w0 g g2 A c l w i d e) (k : Chg g w w') (st : St w' g A c l i' d' e') : AS w0 g g2 A c l w' i' d' e' :=
  have hg := h.hg; have h2 := h.h2
  ⟨st, h.ch.trans k, k.box h.b2 (by omega), hg, h2⟩
theorem AS.below (h : AS w0 g g2 A c l w i d e) (k : Below w.heap.size w w') : AS w0 g g2 A c l w' i d e := h.chg (Chg.below h.st.lt k) (h.st.below k)
theorem AS.own (h : AS w0 g g2 A c l w i d e) (k : Chg g3 w w') (h3 : g2 < g3) : AS w0 g g2 A c l w' i d e :=
  have hg := h.hg; have h2 := h.h2
  ⟨h.st.box k (by omega), h.ch.own k (by omega) (by omega), k.box h.b2 (by omega), hg, h2⟩
theorem AS.at1 (h : AS w0 g g2 A c l w i d e) (hi : i < l.length) : AS w0 g g2 A c l (w.setCell ⟨g, 1, none⟩ (.int .i64 (wrap64 (i + 1)))) (i + 1) d e := by
  have h0 := h.st.i0; have hl := h.st.hl
  rw [w64 _ (by omega)]
  exact h.chg ((Chg.refl g w).set 1 _) (h.st.go ((Chg.refl g w).set 1 _) (h.st.ps.at_ _) (by omega) (by omega))
theorem AS.done (h : AS w0 g g2 A c l w i d e) (t : Tr w (fun k => w0.heap.size ≤ k ∧ k ≠ g2) x vA vc) {v0 v1 v2 v3 v4 v5 v6 v7 v8 : Value} : Done w0 g A c l ⟨i, d, e, x⟩ (.returned (exV x vA vc)) (((((((((w.setCell ⟨g2, 0, none⟩ v0).setCell ⟨g2, 1, none⟩ v1).setCell ⟨g2, 2, none⟩ v2).setCell ⟨g2, 3, none⟩ v3).setCell ⟨g2, 4, none⟩ v4).setCell ⟨g2, 5, none⟩ v5).setCell ⟨g2, 6, none⟩ v6).setCell ⟨g2, 7, none⟩ v7).setCell ⟨g2, 8, none⟩ v8) :=
  have hg := h.hg; have h2 := h.h2
  ⟨vA, vc, rfl, h.st.box chg9_ (by omega), h.ch.own chg9_ h2 (by omega), (t.chg chg9_ (fun q => q.2 rfl)).mono fun _ _ q => q.1⟩
theorem AS.aft (h : AS w0 g g2 A c l w i d e) {W : World} (t : Tr W (fun k => w.heap.size ≤ k) x vA vc) : Tr W (fun k => w0.heap.size ≤ k ∧ k ≠ g2) x vA vc :=
  t.mono fun k _ hk => by
    have h1 := blk_lt h.b2; have h3 := h.ch.size
    exact ⟨by omega, by omega⟩
end
theorem op_tr {w0 W W1 : World} {g2 gb4 : Nat} {x : S26} {vA : Option Addr} {vc : Nat} (t : Tr W (fun k => w0.heap.size ≤ k ∧ k ≠ g2) x vA vc) (h4 : W.heap.size ≤ gb4) (b : Below W.heap.size W W1) : Tr W1 (fun k => w0.heap.size ≤ k ∧ k ≠ g2 ∧ k ≠ gb4) x vA vc :=
  (t.mono fun k hk hq => ⟨hq.1, hq.2, by omega⟩).below b
theorem op_ne {w0 W : World} {g g2 gb4 c : Nat} {A : Option Addr} {l : List S142} {i d e : Int} (h : AS w0 g g2 A c l W i d e) (h4 : g2 < gb4) : gb4 ≠ g := by
  have hg := h.hg; have h2 := h.h2
  omega
theorem atom_int {w : World} {g : Nat} {A : Option Addr} {c : Nat} {l : List S142} {i d e : Int} (h : St w g A c l i d e) {s : ByteArray} {n q : Int} (ht : tokP l i e = ⟨3, s, n, q⟩) :
    Calls Tryd.prog 176 #[.pointer (some ⟨g, 0, none⟩)] w (Done w g A c l ⟨i + 1, d, e, valP 1 n ⟨#[]⟩⟩) := by
  have TL := Lib.hid (tok_le l i e (by rw [ht]; exact (by decide : (3 : Int) ≠ 0))).2
  have H := Lib.hid h; clear h
  have TK := Lib.hid ht; clear ht
  go_enter_defers Tryd.func176, Tryd.ntmps176
  go_wp2_with (first
    | (((with_reducible refine gate_dst (N := 2) rfl ?_); refine box_event ?hg (N := 2) ?hd (cs := #[.int .i64 0, .string (⟨#[]⟩ : ByteArray), .string (⟨#[]⟩ : ByteArray), .int .i64 0, .int .i64 0, .int .i64 0, .int .i64 0, .string (⟨#[]⟩ : ByteArray), .slice none 0 0]) (t := 26) ?hr ?_; (case hd => rfl); (case hg => rfl); (case hr => first | (go_simp; done) | (go_simp; rfl)); intro gb2 hg_ w1 hb_ hl_; have BKgb2 := am_ hb_; have HLgb2 := am_ hl_; have HGgb2 := am_ (Nat.le_of_eq hg_.symm); obtain ⟨zgb2_0, zgb2_1, zgb2_2, zgb2_3, zgb2_4, zgb2_5, zgb2_6, zgb2_7, zgb2_8, ygb2_0, ygb2_1, ygb2_2, ygb2_3, ygb2_4, ygb2_5, ygb2_6, ygb2_7, ygb2_8⟩ := bw9_ hb_; clear hb_ hl_ hg_; simp only [Act.put, sa_, sz_, ss_]); have H1 := Lib.hid ((⟨H.out.below HLgb2.out, Chg.below H.out.lt HLgb2.out, BKgb2.out, H.out.lt, HGgb2.out⟩ : AS w g gb2 A c l w1 i d e)); clear BKgb2 HLgb2 HGgb2 zgb2_0 zgb2_1 zgb2_2 zgb2_3 zgb2_4 zgb2_5 zgb2_6 zgb2_7 zgb2_8 ygb2_0 ygb2_1 ygb2_2 ygb2_3 ygb2_4 ygb2_5 ygb2_6 ygb2_7 ygb2_8)
    | ((with_reducible refine gate_callee (f := 104) rfl ?_); refine goesL_ (some 6) rfl rfl Tryd.func104 (by kernel_rfl) rfl #[.pointer (some ⟨g, 0, none⟩)] rfl (by (try simp only [List.map_toArray, List.map_cons, List.map_nil]); first | done | rfl) ?_; refine (tok_st H1.out.st _ TK.out).mono ?_; rintro r' w2 ⟨rfl, h2, b2⟩; refine ⟨_, rfl, ?_⟩; simp only [Act.put, sa_, sz_, ss_]; have H2 := Lib.hid (H1.out.below b2); clear h2 b2 H1)
    | (((with_reducible refine gate_dst (N := 3) rfl ?_); refine box_event ?hg (N := 3) ?hd (cs := #[.int .i64 0, .string (⟨#[]⟩ : ByteArray), .int .i64 0, .int .i64 0]) (t := 142) ?hr ?_; (case hd => rfl); (case hg => rfl); (case hr => first | (go_simp; done) | (go_simp; rfl)); intro gb3 hg_ w3 hb_ hl_; have BKgb3 := am_ hb_; have HLgb3 := am_ hl_; have HGgb3 := am_ (Nat.le_of_eq hg_.symm); obtain ⟨zgb3_0, zgb3_1, zgb3_2, zgb3_3, ygb3_0, ygb3_1, ygb3_2, ygb3_3⟩ := bw4_ hb_; clear hb_ hl_ hg_; simp only [Act.put, sa_, sz_, ss_]); have H3 := Lib.hid (H2.out.below HLgb3.out); have h23 := Nat.lt_of_lt_of_le (blk_lt H2.out.b2) HGgb3.out; have H23 := Lib.hid h23; have N1 : gb3 ≠ g := ne_of_le H2.out.st.lt HGgb3.out; have N2 := N1.symm; have N3 : gb3 ≠ gb2 := Nat.ne_of_gt h23; have N4 := N3.symm; clear h23 H2; obtain ⟨c0, c1, c2, c3, f0, f1, f2, f3⟩ := bw4_ H3.out.st.ps; obtain ⟨p0, p1, p2, p3, p4, p5, p6, p7, p8, q0, q1, q2, q3, q4, q5, q6, q7, q8⟩ := bw9_ H3.out.b2)
    | ((with_reducible refine gate_callee (f := 87) rfl ?_); refine goesL_ (some 20) rfl rfl Tryd.func87 (by kernel_rfl) rfl #[.int .i64 n] rfl (by (try simp only [List.map_toArray, List.map_cons, List.map_nil]); first | done | rfl) ?_; refine (val_Int.calls n _ _ _ _ rfl).mono ?_; rintro r' w4 ⟨rfl, b4⟩; refine ⟨_, rfl, ?_⟩; simp only [Act.put, sa_, sz_, ss_]; have H4 := Lib.hid (((H3.out.own chg4_ H23.out).at1 TL.out).below b4); clear b4 H3)
    | ((with_reducible refine gate_callee (f := 177) rfl ?_); refine goesL_ (some 21) rfl rfl Tryd.func177 (by kernel_rfl) rfl #[.agg #[.int .i64 1, .int .i64 n, .string ⟨#[]⟩]] rfl (by (try simp only [List.map_toArray, List.map_cons, List.map_nil]); first | done | rfl) ?_; refine (val_any 1 n ⟨#[]⟩ w4).mono ?_; rintro r' w5 ⟨zA, zc, rfl, t5, b5⟩; refine ⟨_, rfl, ?_⟩; simp only [Act.put, sa_, sz_, ss_]; simp only [exV, valP, List.length_nil]; have H5 := Lib.hid (H4.out.below b5); have T5 := Lib.hid t5; clear b5 t5 H4 p0 p1 p2 p3 p4 p5 p6 p7 p8 q0 q1 q2 q3 q4 q5 q6 q7 q8; obtain ⟨p0, p1, p2, p3, p4, p5, p6, p7, p8, q0, q1, q2, q3, q4, q5, q6, q7, q8⟩ := bw9_ H5.out.b2))
  refine ⟨_, results_cell_row rfl _ _ gb2 26 #[.int .i64 16, .string ⟨#[]⟩, .string ⟨#[]⟩, .int .i64 0, .int .i64 0, .int .i64 1, .int .i64 n, .string ⟨#[]⟩, .slice zA 0 zc] (0, 0) _ rfl (put9_ H5.out.b2) Tryd.underlying26 rfl (by kernel_rfl), H5.out.done (T5.out _ _)⟩
theorem atom_txt {w : World} {g : Nat} {A : Option Addr} {c : Nat} {l : List S142} {i d e : Int} (h : St w g A c l i d e) {s : ByteArray} {n q : Int} (ht : tokP l i e = ⟨4, s, n, q⟩) (hv : val_Text.f s = some (2, 0, s)) :
    Calls Tryd.prog 176 #[.pointer (some ⟨g, 0, none⟩)] w (Done w g A c l ⟨i + 1, d, e, valP 2 0 s⟩) := by
  have HV := Lib.hid hv; clear hv
  have TL := Lib.hid (tok_le l i e (by rw [ht]; exact (by decide : (4 : Int) ≠ 0))).2
  have H := Lib.hid h; clear h
  have TK := Lib.hid ht; clear ht
  go_enter_defers Tryd.func176, Tryd.ntmps176
  go_wp2_with (first
    | (((with_reducible refine gate_dst (N := 2) rfl ?_); refine box_event ?hg (N := 2) ?hd (cs := #[.int .i64 0, .string (⟨#[]⟩ : ByteArray), .string (⟨#[]⟩ : ByteArray), .int .i64 0, .int .i64 0, .int .i64 0, .int .i64 0, .string (⟨#[]⟩ : ByteArray), .slice none 0 0]) (t := 26) ?hr ?_; (case hd => rfl); (case hg => rfl); (case hr => first | (go_simp; done) | (go_simp; rfl)); intro gb2 hg_ w1 hb_ hl_; have BKgb2 := am_ hb_; have HLgb2 := am_ hl_; have HGgb2 := am_ (Nat.le_of_eq hg_.symm); obtain ⟨zgb2_0, zgb2_1, zgb2_2, zgb2_3, zgb2_4, zgb2_5, zgb2_6, zgb2_7, zgb2_8, ygb2_0, ygb2_1, ygb2_2, ygb2_3, ygb2_4, ygb2_5, ygb2_6, ygb2_7, ygb2_8⟩ := bw9_ hb_; clear hb_ hl_ hg_; simp only [Act.put, sa_, sz_, ss_]); have H1 := Lib.hid ((⟨H.out.below HLgb2.out, Chg.below H.out.lt HLgb2.out, BKgb2.out, H.out.lt, HGgb2.out⟩ : AS w g gb2 A c l w1 i d e)); clear BKgb2 HLgb2 HGgb2 zgb2_0 zgb2_1 zgb2_2 zgb2_3 zgb2_4 zgb2_5 zgb2_6 zgb2_7 zgb2_8 ygb2_0 ygb2_1 ygb2_2 ygb2_3 ygb2_4 ygb2_5 ygb2_6 ygb2_7 ygb2_8)
    | ((with_reducible refine gate_callee (f := 104) rfl ?_); refine goesL_ (some 6) rfl rfl Tryd.func104 (by kernel_rfl) rfl #[.pointer (some ⟨g, 0, none⟩)] rfl (by (try simp only [List.map_toArray, List.map_cons, List.map_nil]); first | done | rfl) ?_; refine (tok_st H1.out.st _ TK.out).mono ?_; rintro r' w2 ⟨rfl, h2, b2⟩; refine ⟨_, rfl, ?_⟩; simp only [Act.put, sa_, sz_, ss_]; have H2 := Lib.hid (H1.out.below b2); clear h2 b2 H1)
    | (((with_reducible refine gate_dst (N := 3) rfl ?_); refine box_event ?hg (N := 3) ?hd (cs := #[.int .i64 0, .string (⟨#[]⟩ : ByteArray), .int .i64 0, .int .i64 0]) (t := 142) ?hr ?_; (case hd => rfl); (case hg => rfl); (case hr => first | (go_simp; done) | (go_simp; rfl)); intro gb3 hg_ w3 hb_ hl_; have BKgb3 := am_ hb_; have HLgb3 := am_ hl_; have HGgb3 := am_ (Nat.le_of_eq hg_.symm); obtain ⟨zgb3_0, zgb3_1, zgb3_2, zgb3_3, ygb3_0, ygb3_1, ygb3_2, ygb3_3⟩ := bw4_ hb_; clear hb_ hl_ hg_; simp only [Act.put, sa_, sz_, ss_]); have H3 := Lib.hid (H2.out.below HLgb3.out); have h23 := Nat.lt_of_lt_of_le (blk_lt H2.out.b2) HGgb3.out; have H23 := Lib.hid h23; have N1 : gb3 ≠ g := ne_of_le H2.out.st.lt HGgb3.out; have N2 := N1.symm; have N3 : gb3 ≠ gb2 := Nat.ne_of_gt h23; have N4 := N3.symm; clear h23 H2; obtain ⟨c0, c1, c2, c3, f0, f1, f2, f3⟩ := bw4_ H3.out.st.ps; obtain ⟨p0, p1, p2, p3, p4, p5, p6, p7, p8, q0, q1, q2, q3, q4, q5, q6, q7, q8⟩ := bw9_ H3.out.b2)
    | ((with_reducible refine gate_callee (f := 84) rfl ?_); refine goesL_ (some 35) rfl rfl Tryd.func84 (by kernel_rfl) rfl #[.string s] rfl (by (try simp only [List.map_toArray, List.map_cons, List.map_nil]); first | done | rfl) ?_; refine (val_Text.calls s _ _ _ _ HV.out).mono ?_; rintro r' w4 ⟨rfl, b4⟩; refine ⟨_, rfl, ?_⟩; simp only [Act.put, sa_, sz_, ss_]; have H4 := Lib.hid (((H3.out.own chg4_ H23.out).at1 TL.out).below b4); clear b4 H3)
    | ((with_reducible refine gate_callee (f := 177) rfl ?_); refine goesL_ (some 36) rfl rfl Tryd.func177 (by kernel_rfl) rfl #[.agg #[.int .i64 2, .int .i64 0, .string s]] rfl (by (try simp only [List.map_toArray, List.map_cons, List.map_nil]); first | done | rfl) ?_; refine (val_any 2 0 s w4).mono ?_; rintro r' w5 ⟨zA, zc, rfl, t5, b5⟩; refine ⟨_, rfl, ?_⟩; simp only [Act.put, sa_, sz_, ss_]; simp only [exV, valP, List.length_nil]; have H5 := Lib.hid (H4.out.below b5); have T5 := Lib.hid t5; clear b5 t5 H4 p0 p1 p2 p3 p4 p5 p6 p7 p8 q0 q1 q2 q3 q4 q5 q6 q7 q8; obtain ⟨p0, p1, p2, p3, p4, p5, p6, p7, p8, q0, q1, q2, q3, q4, q5, q6, q7, q8⟩ := bw9_ H5.out.b2))
  refine ⟨_, results_cell_row rfl _ _ gb2 26 #[.int .i64 16, .string ⟨#[]⟩, .string ⟨#[]⟩, .int .i64 0, .int .i64 0, .int .i64 2, .int .i64 0, .string s, .slice zA 0 zc] (0, 0) _ rfl (put9_ H5.out.b2) Tryd.underlying26 rfl (by kernel_rfl), H5.out.done (T5.out _ _)⟩
theorem atom_big {w : World} {g : Nat} {A : Option Addr} {c : Nat} {l : List S142} {i d e : Int} (h : St w g A c l i d e) {s : ByteArray} {n q : Int} (ht : tokP l i e = ⟨4, s, n, q⟩) (hv : val_Text.f s = some (0, 0, ⟨#[]⟩)) :
    Calls Tryd.prog 176 #[.pointer (some ⟨g, 0, none⟩)] w (Done w g A c l ⟨i + 1, d, e, valP 0 0 ⟨#[]⟩⟩) := by
  have HV := Lib.hid hv; clear hv
  have TL := Lib.hid (tok_le l i e (by rw [ht]; exact (by decide : (4 : Int) ≠ 0))).2
  have H := Lib.hid h; clear h
  have TK := Lib.hid ht; clear ht
  go_enter_defers Tryd.func176, Tryd.ntmps176
  go_wp2_with (first
    | (((with_reducible refine gate_dst (N := 2) rfl ?_); refine box_event ?hg (N := 2) ?hd (cs := #[.int .i64 0, .string (⟨#[]⟩ : ByteArray), .string (⟨#[]⟩ : ByteArray), .int .i64 0, .int .i64 0, .int .i64 0, .int .i64 0, .string (⟨#[]⟩ : ByteArray), .slice none 0 0]) (t := 26) ?hr ?_; (case hd => rfl); (case hg => rfl); (case hr => first | (go_simp; done) | (go_simp; rfl)); intro gb2 hg_ w1 hb_ hl_; have BKgb2 := am_ hb_; have HLgb2 := am_ hl_; have HGgb2 := am_ (Nat.le_of_eq hg_.symm); obtain ⟨zgb2_0, zgb2_1, zgb2_2, zgb2_3, zgb2_4, zgb2_5, zgb2_6, zgb2_7, zgb2_8, ygb2_0, ygb2_1, ygb2_2, ygb2_3, ygb2_4, ygb2_5, ygb2_6, ygb2_7, ygb2_8⟩ := bw9_ hb_; clear hb_ hl_ hg_; simp only [Act.put, sa_, sz_, ss_]); have H1 := Lib.hid ((⟨H.out.below HLgb2.out, Chg.below H.out.lt HLgb2.out, BKgb2.out, H.out.lt, HGgb2.out⟩ : AS w g gb2 A c l w1 i d e)); clear BKgb2 HLgb2 HGgb2 zgb2_0 zgb2_1 zgb2_2 zgb2_3 zgb2_4 zgb2_5 zgb2_6 zgb2_7 zgb2_8 ygb2_0 ygb2_1 ygb2_2 ygb2_3 ygb2_4 ygb2_5 ygb2_6 ygb2_7 ygb2_8)
    | ((with_reducible refine gate_callee (f := 104) rfl ?_); refine goesL_ (some 6) rfl rfl Tryd.func104 (by kernel_rfl) rfl #[.pointer (some ⟨g, 0, none⟩)] rfl (by (try simp only [List.map_toArray, List.map_cons, List.map_nil]); first | done | rfl) ?_; refine (tok_st H1.out.st _ TK.out).mono ?_; rintro r' w2 ⟨rfl, h2, b2⟩; refine ⟨_, rfl, ?_⟩; simp only [Act.put, sa_, sz_, ss_]; have H2 := Lib.hid (H1.out.below b2); clear h2 b2 H1)
    | (((with_reducible refine gate_dst (N := 3) rfl ?_); refine box_event ?hg (N := 3) ?hd (cs := #[.int .i64 0, .string (⟨#[]⟩ : ByteArray), .int .i64 0, .int .i64 0]) (t := 142) ?hr ?_; (case hd => rfl); (case hg => rfl); (case hr => first | (go_simp; done) | (go_simp; rfl)); intro gb3 hg_ w3 hb_ hl_; have BKgb3 := am_ hb_; have HLgb3 := am_ hl_; have HGgb3 := am_ (Nat.le_of_eq hg_.symm); obtain ⟨zgb3_0, zgb3_1, zgb3_2, zgb3_3, ygb3_0, ygb3_1, ygb3_2, ygb3_3⟩ := bw4_ hb_; clear hb_ hl_ hg_; simp only [Act.put, sa_, sz_, ss_]); have H3 := Lib.hid (H2.out.below HLgb3.out); have h23 := Nat.lt_of_lt_of_le (blk_lt H2.out.b2) HGgb3.out; have H23 := Lib.hid h23; have N1 : gb3 ≠ g := ne_of_le H2.out.st.lt HGgb3.out; have N2 := N1.symm; have N3 : gb3 ≠ gb2 := Nat.ne_of_gt h23; have N4 := N3.symm; clear h23 H2; obtain ⟨c0, c1, c2, c3, f0, f1, f2, f3⟩ := bw4_ H3.out.st.ps; obtain ⟨p0, p1, p2, p3, p4, p5, p6, p7, p8, q0, q1, q2, q3, q4, q5, q6, q7, q8⟩ := bw9_ H3.out.b2)
    | ((with_reducible refine gate_callee (f := 84) rfl ?_); refine goesL_ (some 35) rfl rfl Tryd.func84 (by kernel_rfl) rfl #[.string s] rfl (by (try simp only [List.map_toArray, List.map_cons, List.map_nil]); first | done | rfl) ?_; refine (val_Text.calls s _ _ _ _ HV.out).mono ?_; rintro r' w4 ⟨rfl, b4⟩; refine ⟨_, rfl, ?_⟩; simp only [Act.put, sa_, sz_, ss_]; have H4 := Lib.hid (((H3.out.own chg4_ H23.out).at1 TL.out).below b4); clear b4 H3)
    | ((with_reducible refine gate_callee (f := 177) rfl ?_); refine goesL_ (some 36) rfl rfl Tryd.func177 (by kernel_rfl) rfl #[.agg #[.int .i64 0, .int .i64 0, .string ⟨#[]⟩]] rfl (by (try simp only [List.map_toArray, List.map_cons, List.map_nil]); first | done | rfl) ?_; refine (val_any 0 0 ⟨#[]⟩ w4).mono ?_; rintro r' w5 ⟨zA, zc, rfl, t5, b5⟩; refine ⟨_, rfl, ?_⟩; simp only [Act.put, sa_, sz_, ss_]; simp only [exV, valP, List.length_nil]; have H5 := Lib.hid (H4.out.below b5); have T5 := Lib.hid t5; clear b5 t5 H4 p0 p1 p2 p3 p4 p5 p6 p7 p8 q0 q1 q2 q3 q4 q5 q6 q7 q8; obtain ⟨p0, p1, p2, p3, p4, p5, p6, p7, p8, q0, q1, q2, q3, q4, q5, q6, q7, q8⟩ := bw9_ H5.out.b2))
  refine ⟨_, results_cell_row rfl _ _ gb2 26 #[.int .i64 16, .string ⟨#[]⟩, .string ⟨#[]⟩, .int .i64 0, .int .i64 0, .int .i64 0, .int .i64 0, .string ⟨#[]⟩, .slice zA 0 zc] (0, 0) _ rfl (put9_ H5.out.b2) Tryd.underlying26 rfl (by kernel_rfl), H5.out.done (T5.out _ _)⟩
theorem atom_null {w : World} {g : Nat} {A : Option Addr} {c : Nat} {l : List S142} {i d e : Int} (h : St w g A c l i d e) {t0 n q : Int} {s : ByteArray} (ht : tokP l i e = ⟨t0, s, n, q⟩) (n3 : t0 ≠ 3) (n4 : t0 ≠ 4) (g1 : isP l i e wNull = true) :
    Calls Tryd.prog 176 #[.pointer (some ⟨g, 0, none⟩)] w (Done w g A c l ⟨i + 1, d, e, valP 0 0 ⟨#[]⟩⟩) := by
  have e3 : (t0 == 3) = false := beq_eq_false_iff_ne.2 n3
  have e4 : (t0 == 4) = false := beq_eq_false_iff_ne.2 n4
  clear n3 n4
  have G1 := Lib.hid g1; clear g1
  have H := Lib.hid h; clear h
  have TK := Lib.hid ht; clear ht
  go_enter_defers Tryd.func176, Tryd.ntmps176
  go_wp2_with (first
    | (((with_reducible refine gate_dst (N := 2) rfl ?_); refine box_event ?hg (N := 2) ?hd (cs := #[.int .i64 0, .string (⟨#[]⟩ : ByteArray), .string (⟨#[]⟩ : ByteArray), .int .i64 0, .int .i64 0, .int .i64 0, .int .i64 0, .string (⟨#[]⟩ : ByteArray), .slice none 0 0]) (t := 26) ?hr ?_; (case hd => rfl); (case hg => rfl); (case hr => first | (go_simp; done) | (go_simp; rfl)); intro gb2 hg_ w1 hb_ hl_; have BKgb2 := am_ hb_; have HLgb2 := am_ hl_; have HGgb2 := am_ (Nat.le_of_eq hg_.symm); obtain ⟨zgb2_0, zgb2_1, zgb2_2, zgb2_3, zgb2_4, zgb2_5, zgb2_6, zgb2_7, zgb2_8, ygb2_0, ygb2_1, ygb2_2, ygb2_3, ygb2_4, ygb2_5, ygb2_6, ygb2_7, ygb2_8⟩ := bw9_ hb_; clear hb_ hl_ hg_; simp only [Act.put, sa_, sz_, ss_]); have H1 := Lib.hid ((⟨H.out.below HLgb2.out, Chg.below H.out.lt HLgb2.out, BKgb2.out, H.out.lt, HGgb2.out⟩ : AS w g gb2 A c l w1 i d e)); clear BKgb2 HLgb2 HGgb2 zgb2_0 zgb2_1 zgb2_2 zgb2_3 zgb2_4 zgb2_5 zgb2_6 zgb2_7 zgb2_8 ygb2_0 ygb2_1 ygb2_2 ygb2_3 ygb2_4 ygb2_5 ygb2_6 ygb2_7 ygb2_8)
    | ((with_reducible refine gate_callee (f := 104) rfl ?_); refine goesL_ (some 6) rfl rfl Tryd.func104 (by kernel_rfl) rfl #[.pointer (some ⟨g, 0, none⟩)] rfl (by (try simp only [List.map_toArray, List.map_cons, List.map_nil]); first | done | rfl) ?_; refine (tok_st H1.out.st _ TK.out).mono ?_; rintro r' w2 ⟨rfl, h2, b2⟩; refine ⟨_, rfl, ?_⟩; simp only [Act.put, sa_, sz_, ss_]; have H2 := Lib.hid (H1.out.below b2); clear h2 b2 H1)
    | (((with_reducible refine gate_dst (N := 3) rfl ?_); refine box_event ?hg (N := 3) ?hd (cs := #[.int .i64 0, .string (⟨#[]⟩ : ByteArray), .int .i64 0, .int .i64 0]) (t := 142) ?hr ?_; (case hd => rfl); (case hg => rfl); (case hr => first | (go_simp; done) | (go_simp; rfl)); intro gb3 hg_ w3 hb_ hl_; have BKgb3 := am_ hb_; have HLgb3 := am_ hl_; have HGgb3 := am_ (Nat.le_of_eq hg_.symm); obtain ⟨zgb3_0, zgb3_1, zgb3_2, zgb3_3, ygb3_0, ygb3_1, ygb3_2, ygb3_3⟩ := bw4_ hb_; clear hb_ hl_ hg_; simp only [Act.put, sa_, sz_, ss_]); have H3 := Lib.hid (H2.out.below HLgb3.out); have h23 := Nat.lt_of_lt_of_le (blk_lt H2.out.b2) HGgb3.out; have H23 := Lib.hid h23; have N1 : gb3 ≠ g := ne_of_le H2.out.st.lt HGgb3.out; have N2 := N1.symm; have N3 : gb3 ≠ gb2 := Nat.ne_of_gt h23; have N4 := N3.symm; clear h23 H2; obtain ⟨c0, c1, c2, c3, f0, f1, f2, f3⟩ := bw4_ H3.out.st.ps; obtain ⟨p0, p1, p2, p3, p4, p5, p6, p7, p8, q0, q1, q2, q3, q4, q5, q6, q7, q8⟩ := bw9_ H3.out.b2)
    | ((with_reducible refine gate_callee (f := 67) rfl ?_); refine goesL_ (some 39) rfl rfl Tryd.func67 (by kernel_rfl) rfl #[.pointer (some ⟨g, 0, none⟩), .string wNull] rfl (by (try simp only [List.map_toArray, List.map_cons, List.map_nil]); first | done | rfl) ?_; refine (take_yes_st (H3.out.own chg4_ H23.out).st _ G1.out).mono ?_; rintro r' w4 ⟨rfl, h4, c4⟩; refine ⟨_, rfl, ?_⟩; simp only [Act.put, sa_, sz_, ss_]; have H4 := Lib.hid ((H3.out.own chg4_ H23.out).chg c4 h4); clear h4 c4 H3)
    | ((with_reducible refine gate_callee (f := 81) rfl ?_); refine goesL_ (some 40) rfl rfl Tryd.func81 (by kernel_rfl) rfl #[] rfl (by (try simp only [List.map_toArray, List.map_cons, List.map_nil]); first | done | rfl) ?_; refine (val_Null.calls _ _ _ _ rfl).mono ?_; rintro r' w5 ⟨rfl, b5⟩; refine ⟨_, rfl, ?_⟩; simp only [Act.put, sa_, sz_, ss_]; have H5 := Lib.hid (H4.out.below b5); clear b5 H4)
    | ((with_reducible refine gate_callee (f := 177) rfl ?_); refine goesL_ (some 41) rfl rfl Tryd.func177 (by kernel_rfl) rfl #[.agg #[.int .i64 0, .int .i64 0, .string ⟨#[]⟩]] rfl (by (try simp only [List.map_toArray, List.map_cons, List.map_nil]); first | done | rfl) ?_; refine (val_any 0 0 ⟨#[]⟩ w5).mono ?_; rintro r' w6 ⟨zA, zc, rfl, t6, b6⟩; refine ⟨_, rfl, ?_⟩; simp only [Act.put, sa_, sz_, ss_]; simp only [exV, valP, List.length_nil]; have H6 := Lib.hid (H5.out.below b6); have T6 := Lib.hid t6; clear b6 t6 H5 p0 p1 p2 p3 p4 p5 p6 p7 p8 q0 q1 q2 q3 q4 q5 q6 q7 q8; obtain ⟨p0, p1, p2, p3, p4, p5, p6, p7, p8, q0, q1, q2, q3, q4, q5, q6, q7, q8⟩ := bw9_ H6.out.b2))
  refine ⟨_, results_cell_row rfl _ _ gb2 26 #[.int .i64 16, .string ⟨#[]⟩, .string ⟨#[]⟩, .int .i64 0, .int .i64 0, .int .i64 0, .int .i64 0, .string ⟨#[]⟩, .slice zA 0 zc] (0, 0) _ rfl (put9_ H6.out.b2) Tryd.underlying26 rfl (by kernel_rfl), H6.out.done (T6.out _ _)⟩
theorem atom_col {w : World} {g : Nat} {A : Option Addr} {c : Nat} {l : List S142} {i d e : Int} (h : St w g A c l i d e) {t0 n q : Int} {s : ByteArray} (ht : tokP l i e = ⟨t0, s, n, q⟩) (n3 : t0 ≠ 3) (n4 : t0 ≠ 4) (g1 : isP l i e wNull = false) (g2 : isP l i e wOpen = false) :
    Calls Tryd.prog 176 #[.pointer (some ⟨g, 0, none⟩)] w (Done w g A c l ⟨coI l i e, d, coE l i e, coX l i e⟩) := by
  have e3 : (t0 == 3) = false := beq_eq_false_iff_ne.2 n3
  have e4 : (t0 == 4) = false := beq_eq_false_iff_ne.2 n4
  clear n3 n4
  have G1 := Lib.hid g1; clear g1
  have G2 := Lib.hid g2; clear g2
  generalize hx : coX l i e = x
  have H := Lib.hid h; clear h
  have TK := Lib.hid ht; clear ht
  go_enter_defers Tryd.func176, Tryd.ntmps176
  go_wp2_with (first
    | (((with_reducible refine gate_dst (N := 2) rfl ?_); refine box_event ?hg (N := 2) ?hd (cs := #[.int .i64 0, .string (⟨#[]⟩ : ByteArray), .string (⟨#[]⟩ : ByteArray), .int .i64 0, .int .i64 0, .int .i64 0, .int .i64 0, .string (⟨#[]⟩ : ByteArray), .slice none 0 0]) (t := 26) ?hr ?_; (case hd => rfl); (case hg => rfl); (case hr => first | (go_simp; done) | (go_simp; rfl)); intro gb2 hg_ w1 hb_ hl_; have BKgb2 := am_ hb_; have HLgb2 := am_ hl_; have HGgb2 := am_ (Nat.le_of_eq hg_.symm); obtain ⟨zgb2_0, zgb2_1, zgb2_2, zgb2_3, zgb2_4, zgb2_5, zgb2_6, zgb2_7, zgb2_8, ygb2_0, ygb2_1, ygb2_2, ygb2_3, ygb2_4, ygb2_5, ygb2_6, ygb2_7, ygb2_8⟩ := bw9_ hb_; clear hb_ hl_ hg_; simp only [Act.put, sa_, sz_, ss_]); have H1 := Lib.hid ((⟨H.out.below HLgb2.out, Chg.below H.out.lt HLgb2.out, BKgb2.out, H.out.lt, HGgb2.out⟩ : AS w g gb2 A c l w1 i d e)); clear BKgb2 HLgb2 HGgb2 zgb2_0 zgb2_1 zgb2_2 zgb2_3 zgb2_4 zgb2_5 zgb2_6 zgb2_7 zgb2_8 ygb2_0 ygb2_1 ygb2_2 ygb2_3 ygb2_4 ygb2_5 ygb2_6 ygb2_7 ygb2_8)
    | ((with_reducible refine gate_callee (f := 104) rfl ?_); refine goesL_ (some 6) rfl rfl Tryd.func104 (by kernel_rfl) rfl #[.pointer (some ⟨g, 0, none⟩)] rfl (by (try simp only [List.map_toArray, List.map_cons, List.map_nil]); first | done | rfl) ?_; refine (tok_st H1.out.st _ TK.out).mono ?_; rintro r' w2 ⟨rfl, h2, b2⟩; refine ⟨_, rfl, ?_⟩; simp only [Act.put, sa_, sz_, ss_]; have H2 := Lib.hid (H1.out.below b2); clear h2 b2 H1)
    | (((with_reducible refine gate_dst (N := 3) rfl ?_); refine box_event ?hg (N := 3) ?hd (cs := #[.int .i64 0, .string (⟨#[]⟩ : ByteArray), .int .i64 0, .int .i64 0]) (t := 142) ?hr ?_; (case hd => rfl); (case hg => rfl); (case hr => first | (go_simp; done) | (go_simp; rfl)); intro gb3 hg_ w3 hb_ hl_; have BKgb3 := am_ hb_; have HLgb3 := am_ hl_; have HGgb3 := am_ (Nat.le_of_eq hg_.symm); obtain ⟨zgb3_0, zgb3_1, zgb3_2, zgb3_3, ygb3_0, ygb3_1, ygb3_2, ygb3_3⟩ := bw4_ hb_; clear hb_ hl_ hg_; simp only [Act.put, sa_, sz_, ss_]); have H3 := Lib.hid (H2.out.below HLgb3.out); have h23 := Nat.lt_of_lt_of_le (blk_lt H2.out.b2) HGgb3.out; have H23 := Lib.hid h23; have N1 : gb3 ≠ g := ne_of_le H2.out.st.lt HGgb3.out; have N2 := N1.symm; have N3 : gb3 ≠ gb2 := Nat.ne_of_gt h23; have N4 := N3.symm; clear h23 H2; obtain ⟨c0, c1, c2, c3, f0, f1, f2, f3⟩ := bw4_ H3.out.st.ps; obtain ⟨p0, p1, p2, p3, p4, p5, p6, p7, p8, q0, q1, q2, q3, q4, q5, q6, q7, q8⟩ := bw9_ H3.out.b2)
    | ((with_reducible refine gate_callee (f := 67) rfl ?_); refine goesL_ (some 39) rfl rfl Tryd.func67 (by kernel_rfl) rfl #[.pointer (some ⟨g, 0, none⟩), .string wNull] rfl (by (try simp only [List.map_toArray, List.map_cons, List.map_nil]); first | done | rfl) ?_; refine (take_no_st (H3.out.own chg4_ H23.out).st _ G1.out).mono ?_; rintro r' w4 ⟨rfl, h4, c4⟩; refine ⟨_, rfl, ?_⟩; simp only [Act.put, sa_, sz_, ss_]; have H4 := Lib.hid ((H3.out.own chg4_ H23.out).chg c4 h4); clear h4 c4 H3)
    | ((with_reducible refine gate_callee (f := 109) rfl ?_); refine goesL_ (some 44) rfl rfl Tryd.func109 (by kernel_rfl) rfl #[.pointer (some ⟨g, 0, none⟩), .string wOpen] rfl (by (try simp only [List.map_toArray, List.map_cons, List.map_nil]); first | done | rfl) ?_; refine (is_st H4.out.st _ _ G2.out).mono ?_; rintro r' w5 ⟨rfl, h5, c5⟩; refine ⟨_, rfl, ?_⟩; simp only [Act.put, sa_, sz_, ss_]; have H5 := Lib.hid (H4.out.chg c5 h5); clear h5 c5 H4)
    | ((with_reducible refine gate_callee (f := 68) rfl ?_); refine goesL_ (some 56) rfl rfl Tryd.func68 (by kernel_rfl) rfl #[.pointer (some ⟨g, 0, none⟩)] rfl (by (try simp only [List.map_toArray, List.map_cons, List.map_nil]); first | done | rfl) ?_; refine (col_st H5.out.st).mono ?_; rintro r' w6 ⟨zA, zc, rfl, h6, c6, t6⟩; refine ⟨_, rfl, ?_⟩; simp only [Act.put, sa_, sz_, ss_]; rw [hx] at t6 ⊢; simp only [exV]; have H6 := Lib.hid (H5.out.chg c6 h6); have T6 := Lib.hid t6; clear h6 c6 t6 H5 p0 p1 p2 p3 p4 p5 p6 p7 p8 q0 q1 q2 q3 q4 q5 q6 q7 q8; obtain ⟨p0, p1, p2, p3, p4, p5, p6, p7, p8, q0, q1, q2, q3, q4, q5, q6, q7, q8⟩ := bw9_ H6.out.b2))
  refine ⟨_, results_cell_row rfl _ _ gb2 26 #[.int .i64 x.f0, .string x.f1, .string x.f2, .int .i64 x.f3, .int .i64 x.f4, .int .i64 x.f5.f0, .int .i64 x.f5.f1, .string x.f5.f2, .slice zA x.f6.length zc] (0, 0) _ rfl (put9_ H6.out.b2) Tryd.underlying26 rfl (by kernel_rfl), H6.out.done (T6.out _ _)⟩
theorem atom_open {k : Nat} (hT : GOK k .or) {w : World} {g : Nat} {A : Option Addr} {c : Nat} {l : List S142} {i d e : Int} (h : St w g A c l i d e) {t0 n q : Int} {s : ByteArray} (ht : tokP l i e = ⟨t0, s, n, q⟩) (n3 : t0 ≠ 3) (n4 : t0 ≠ 4) {r : Re} (g1 : isP l i e wNull = false) (g2 : isP l i e wOpen = true) (h0 : 0 ≤ d) (h1 : d ≤ 100) (h2 : 0 ≤ r.d) (h3 : r.d ≤ 200) (hr : pr l k (.f .or) (isI l i (dnE d e) wOpen) (d + 1) (dnE d e) = some r) :
    Calls Tryd.prog 176 #[.pointer (some ⟨g, 0, none⟩)] w (Done w g A c l ⟨muI l r.i r.e wShut, r.d - 1, muE l r.i r.e wShut, r.x⟩) := by
  have e3 : (t0 == 3) = false := beq_eq_false_iff_ne.2 n3
  have e4 : (t0 == 4) = false := beq_eq_false_iff_ne.2 n4
  clear n3 n4
  have G1 := Lib.hid g1; clear g1
  have G2 := Lib.hid g2; clear g2
  have HR := Lib.hid hr; clear hr
  have HT := Lib.hid hT; clear hT
  have h0' : -1000 ≤ d := by omega
  have h1' : d ≤ 1000 := by omega
  have H := Lib.hid h; clear h
  have TK := Lib.hid ht; clear ht
  go_enter_defers Tryd.func176, Tryd.ntmps176
  go_wp2_with (first
    | (((with_reducible refine gate_dst (N := 2) rfl ?_); refine box_event ?hg (N := 2) ?hd (cs := #[.int .i64 0, .string (⟨#[]⟩ : ByteArray), .string (⟨#[]⟩ : ByteArray), .int .i64 0, .int .i64 0, .int .i64 0, .int .i64 0, .string (⟨#[]⟩ : ByteArray), .slice none 0 0]) (t := 26) ?hr ?_; (case hd => rfl); (case hg => rfl); (case hr => first | (go_simp; done) | (go_simp; rfl)); intro gb2 hg_ w1 hb_ hl_; have BKgb2 := am_ hb_; have HLgb2 := am_ hl_; have HGgb2 := am_ (Nat.le_of_eq hg_.symm); obtain ⟨zgb2_0, zgb2_1, zgb2_2, zgb2_3, zgb2_4, zgb2_5, zgb2_6, zgb2_7, zgb2_8, ygb2_0, ygb2_1, ygb2_2, ygb2_3, ygb2_4, ygb2_5, ygb2_6, ygb2_7, ygb2_8⟩ := bw9_ hb_; clear hb_ hl_ hg_; simp only [Act.put, sa_, sz_, ss_]); have H1 := Lib.hid ((⟨H.out.below HLgb2.out, Chg.below H.out.lt HLgb2.out, BKgb2.out, H.out.lt, HGgb2.out⟩ : AS w g gb2 A c l w1 i d e)); clear BKgb2 HLgb2 HGgb2 zgb2_0 zgb2_1 zgb2_2 zgb2_3 zgb2_4 zgb2_5 zgb2_6 zgb2_7 zgb2_8 ygb2_0 ygb2_1 ygb2_2 ygb2_3 ygb2_4 ygb2_5 ygb2_6 ygb2_7 ygb2_8)
    | ((with_reducible refine gate_callee (f := 104) rfl ?_); refine goesL_ (some 6) rfl rfl Tryd.func104 (by kernel_rfl) rfl #[.pointer (some ⟨g, 0, none⟩)] rfl (by (try simp only [List.map_toArray, List.map_cons, List.map_nil]); first | done | rfl) ?_; refine (tok_st H1.out.st _ TK.out).mono ?_; rintro r' w2 ⟨rfl, h2, b2⟩; refine ⟨_, rfl, ?_⟩; simp only [Act.put, sa_, sz_, ss_]; have H2 := Lib.hid (H1.out.below b2); clear h2 b2 H1)
    | (((with_reducible refine gate_dst (N := 3) rfl ?_); refine box_event ?hg (N := 3) ?hd (cs := #[.int .i64 0, .string (⟨#[]⟩ : ByteArray), .int .i64 0, .int .i64 0]) (t := 142) ?hr ?_; (case hd => rfl); (case hg => rfl); (case hr => first | (go_simp; done) | (go_simp; rfl)); intro gb3 hg_ w3 hb_ hl_; have BKgb3 := am_ hb_; have HLgb3 := am_ hl_; have HGgb3 := am_ (Nat.le_of_eq hg_.symm); obtain ⟨zgb3_0, zgb3_1, zgb3_2, zgb3_3, ygb3_0, ygb3_1, ygb3_2, ygb3_3⟩ := bw4_ hb_; clear hb_ hl_ hg_; simp only [Act.put, sa_, sz_, ss_]); have H3 := Lib.hid (H2.out.below HLgb3.out); have h23 := Nat.lt_of_lt_of_le (blk_lt H2.out.b2) HGgb3.out; have H23 := Lib.hid h23; have N1 : gb3 ≠ g := ne_of_le H2.out.st.lt HGgb3.out; have N2 := N1.symm; have N3 : gb3 ≠ gb2 := Nat.ne_of_gt h23; have N4 := N3.symm; clear h23 H2; obtain ⟨c0, c1, c2, c3, f0, f1, f2, f3⟩ := bw4_ H3.out.st.ps; obtain ⟨p0, p1, p2, p3, p4, p5, p6, p7, p8, q0, q1, q2, q3, q4, q5, q6, q7, q8⟩ := bw9_ H3.out.b2)
    | ((with_reducible refine gate_callee (f := 67) rfl ?_); refine goesL_ (some 39) rfl rfl Tryd.func67 (by kernel_rfl) rfl #[.pointer (some ⟨g, 0, none⟩), .string wNull] rfl (by (try simp only [List.map_toArray, List.map_cons, List.map_nil]); first | done | rfl) ?_; refine (take_no_st (H3.out.own chg4_ H23.out).st _ G1.out).mono ?_; rintro r' w4 ⟨rfl, h4, c4⟩; refine ⟨_, rfl, ?_⟩; simp only [Act.put, sa_, sz_, ss_]; have H4 := Lib.hid ((H3.out.own chg4_ H23.out).chg c4 h4); clear h4 c4 H3)
    | ((with_reducible refine gate_callee (f := 109) rfl ?_); refine goesL_ (some 44) rfl rfl Tryd.func109 (by kernel_rfl) rfl #[.pointer (some ⟨g, 0, none⟩), .string wOpen] rfl (by (try simp only [List.map_toArray, List.map_cons, List.map_nil]); first | done | rfl) ?_; refine (is_st H4.out.st _ _ G2.out).mono ?_; rintro r' w5 ⟨rfl, h5, c5⟩; refine ⟨_, rfl, ?_⟩; simp only [Act.put, sa_, sz_, ss_]; have H5 := Lib.hid (H4.out.chg c5 h5); clear h5 c5 H4)
    | ((with_reducible refine gate_callee (f := 153) rfl ?_); refine goesL_ (some 46) rfl rfl Tryd.func153 (by kernel_rfl) rfl #[.pointer (some ⟨g, 0, none⟩)] rfl (by (try simp only [List.map_toArray, List.map_cons, List.map_nil]); first | done | rfl) ?_; refine (down_st H5.out.st h0' h1').mono ?_; rintro r' w6 ⟨rfl, h6, c6⟩; refine ⟨_, rfl, ?_⟩; simp only [Act.put, sa_, sz_, ss_]; have H6 := Lib.hid (H5.out.chg c6 h6); clear h6 c6 H5)
    | ((with_reducible refine gate_callee (f := 67) rfl ?_); refine goesL_ (some 49) rfl rfl Tryd.func67 (by kernel_rfl) rfl #[.pointer (some ⟨g, 0, none⟩), .string wOpen] rfl (by (try simp only [List.map_toArray, List.map_cons, List.map_nil]); first | done | rfl) ?_; refine (take_st H6.out.st _).mono ?_; rintro r' w7 ⟨rfl, h7, c7⟩; refine ⟨_, rfl, ?_⟩; simp only [Act.put, sa_, sz_, ss_]; have H7 := Lib.hid (H6.out.chg c7 h7); clear h7 c7 H6)
    | ((with_reducible refine gate_callee (f := 60) rfl ?_); refine goesL_ (some 51) rfl rfl Tryd.func60 (by kernel_rfl) rfl #[.pointer (some ⟨g, 0, none⟩)] rfl (by (try simp only [List.map_toArray, List.map_cons, List.map_nil]); first | done | rfl) ?_; refine (HT.out _ _ _ _ _ _ _ _ _ H7.out.st HR.out).mono ?_; rintro r' w8 ⟨zA, zc, rfl, h8, c8, t8⟩; refine ⟨_, rfl, ?_⟩; simp only [Act.put, sa_, sz_, ss_]; simp only [exV]; have H8 := Lib.hid (H7.out.chg c8 h8); have T8 := Lib.hid (H7.out.aft t8); clear h8 c8 t8 H7 p0 p1 p2 p3 p4 p5 p6 p7 p8 q0 q1 q2 q3 q4 q5 q6 q7 q8 c0 c1 c2 c3 f0 f1 f2 f3 BKgb3 zgb3_0 zgb3_1 zgb3_2 zgb3_3 ygb3_0 ygb3_1 ygb3_2 ygb3_3)
    | (((with_reducible refine gate_dst (N := 4) rfl ?_); refine box_event ?hg (N := 4) ?hd (cs := #[.int .i64 0, .string (⟨#[]⟩ : ByteArray), .string (⟨#[]⟩ : ByteArray), .int .i64 0, .int .i64 0, .int .i64 0, .int .i64 0, .string (⟨#[]⟩ : ByteArray), .slice none 0 0]) (t := 26) ?hr ?_; (case hd => rfl); (case hg => rfl); (case hr => first | (go_simp; done) | (go_simp; rfl)); intro gb4 hg_ w9 hb_ hl_; have BKgb4 := am_ hb_; have HLgb4 := am_ hl_; have HGgb4 := am_ (Nat.le_of_eq hg_.symm); obtain ⟨zgb4_0, zgb4_1, zgb4_2, zgb4_3, zgb4_4, zgb4_5, zgb4_6, zgb4_7, zgb4_8, ygb4_0, ygb4_1, ygb4_2, ygb4_3, ygb4_4, ygb4_5, ygb4_6, ygb4_7, ygb4_8⟩ := bw9_ hb_; clear hb_ hl_ hg_; simp only [Act.put, sa_, sz_, ss_]); have H9 := Lib.hid (H8.out.below HLgb4.out); have h24 := Nat.lt_of_lt_of_le (blk_lt H8.out.b2) HGgb4.out; have H24 := Lib.hid h24; have N5 : gb4 ≠ gb2 := Nat.ne_of_gt h24; have N6 := N5.symm; have T9 := Lib.hid (op_tr T8.out HGgb4.out HLgb4.out))
    | ((with_reducible refine gate_callee (f := 63) rfl ?_); refine goesL_ (some 53) rfl rfl Tryd.func63 (by kernel_rfl) rfl #[.pointer (some ⟨g, 0, none⟩), .string wShut] rfl (by (try simp only [List.map_toArray, List.map_cons, List.map_nil]); first | done | rfl) ?_; refine (must_st (H9.out.own chg9_ H24.out).st _).mono ?_; rintro r' w10 ⟨rfl, h10, c10⟩; refine ⟨_, rfl, ?_⟩; simp only [Act.put, sa_, sz_, ss_]; have H10 := Lib.hid ((H9.out.own chg9_ H24.out).chg c10 h10); have T10 := Lib.hid (((T9.out.chg chg9_ (fun q => q.2.2 rfl)).chg c10 (fun q => absurd q.1 (Nat.not_le_of_lt H9.out.hg))).mono fun _ _ q => (⟨q.1, q.2.1⟩ : _ ∧ _)); have B10 := Lib.hid (c10.box (put9_ BKgb4.out) (op_ne H9.out H24.out)); clear h10 c10 zgb4_0 zgb4_1 zgb4_2 zgb4_3 zgb4_4 zgb4_5 zgb4_6 zgb4_7 zgb4_8 ygb4_0 ygb4_1 ygb4_2 ygb4_3 ygb4_4 ygb4_5 ygb4_6 ygb4_7 ygb4_8; obtain ⟨p0, p1, p2, p3, p4, p5, p6, p7, p8, q0, q1, q2, q3, q4, q5, q6, q7, q8⟩ := bw9_ H10.out.b2; obtain ⟨s0, s1, s2, s3, s4, s5, s6, s7, s8, t0, t1, t2, t3, t4, t5, t6, t7, t8⟩ := bw9_ B10.out))
  have h2g := H10.out.h2; have hg2 := H10.out.hg
  exact leave_up (gb := gb2) (vA := zA) (vc := zc) (x := r.x) (fun W' hb => results_cell_row rfl _ _ gb2 26 _ (0, 0) _ rfl hb Tryd.underlying26 rfl (by kernel_rfl)) (H10.out.st.box chg9_ (by omega)) (put9_ H10.out.b2) (H10.out.ch.own chg9_ h2g (by omega)) ((T10.out.chg chg9_ (fun q => q.2 rfl)).mono fun _ _ q => q.1) (by omega) hg2 (by omega) (by omega)
theorem atom_ok (k : Nat) (hT : GOK k .or) : GOK (k + 1) .atom := by
  intro w g A c l i d e r h hr
  simp only [pr] at hr
  change Calls Tryd.prog 176 _ _ _
  rcases ht : tokP l i e with ⟨t0, s, n, q⟩
  rw [ht] at hr
  dsimp only at hr
  by_cases h3 : t0 = 3
  · subst h3
    rw [if_pos rfl] at hr
    obtain rfl := Option.some.inj hr
    exact atom_int h ht
  rw [if_neg h3] at hr
  by_cases h4 : t0 = 4
  · subst h4
    rw [if_pos rfl] at hr
    obtain rfl := Option.some.inj hr
    unfold txP
    by_cases hs : (s.size : Int) > 65536
    · rw [if_pos hs]
      exact atom_big h ht (by unfold val_Text.f; rw [if_pos hs]; rfl)
    · rw [if_neg hs]
      exact atom_txt h ht (by unfold val_Text.f; rw [if_neg hs])
  rw [if_neg h4] at hr
  cases g1 : isP l i e wNull with
  | true =>
    rw [g1, if_pos rfl] at hr
    obtain rfl := Option.some.inj hr
    exact atom_null h ht h3 h4 g1
  | false =>
    rw [g1, if_neg (by decide)] at hr
    cases g2 : isP l i e wOpen with
    | false =>
      rw [g2, if_neg (by decide)] at hr
      obtain rfl := Option.some.inj hr
      exact atom_col h ht h3 h4 g1 g2
    | true =>
      rw [g2, if_pos rfl] at hr
      by_cases hd : 0 ≤ d ∧ d ≤ 100
      · rw [if_pos hd] at hr
        obtain ⟨r1, hr1, hr⟩ := Option.bind_eq_some_iff.1 hr
        by_cases hq : 0 ≤ r1.d ∧ r1.d ≤ 200
        · rw [if_pos hq] at hr
          obtain rfl := Option.some.inj hr
          exact atom_open hT h ht h3 h4 g1 g2 hd.1 hd.2 hq.1 hq.2 hr1
        · rw [if_neg hq] at hr
          exact absurd hr (by simp)
      · rw [if_neg hd] at hr
        exact absurd hr (by simp)
end Go.Proofs.YthlepdjjdbpmoaaDoor.PPrintExprs
namespace Go.Proofs.YthlepdjjdbpmoaaDoor.PPrintExprs
open Go.RowKit Go.Proofs.YthlepdjjdbpmoaaDoorW.PrintWords Go.Proofs.YthlepdjjdbpmoaaDoorW.PrintLast Go.Proofs.YthlepdjjdbpmoaaDoorW.PrintMore
attribute [local go_sem] max2_int min2_int max_two min_two max_three min_three max_four min_four
set_option linter.unusedVariables false
set_option linter.unusedSimpArgs false
set_option maxRecDepth 100000
set_option maxHeartbeats 4000000
theorem not_ok (k : Nat) (hN : GOK k .not) (hT : GOK k .test) : GOK (k + 1) .not := by
  intro w g A c l i d e r h hr
  simp only [pr] at hr
  change Calls Tryd.prog 131 _ _ _
  cases g1 : isP l i e wNot with
  | false =>
    rw [g1, if_neg (by decide)] at hr
    exact not_no hT h g1 hr
  | true =>
    rw [g1, if_pos rfl] at hr
    by_cases hd : 0 ≤ d ∧ d ≤ 100
    · rw [if_pos hd] at hr
      obtain ⟨r1, hr1, hr⟩ := Option.bind_eq_some_iff.1 hr
      by_cases hq : 0 ≤ r1.d ∧ r1.d ≤ 200
      · rw [if_pos hq] at hr
        obtain rfl := Option.some.inj hr
        exact not_yes hN h g1 hd.1 hd.2 hq.1 hq.2 hr1
      · rw [if_neg hq] at hr
        exact absurd hr (by simp)
    · rw [if_neg hd] at hr
      exact absurd hr (by simp)
theorem gok (k : Nat) : ∀ j, j ≤ k → ∀ p, GOK j p := by
  induction k with
  | zero =>
    intro j hj p w g A c l i d e r h hr
    obtain rfl : j = 0 := by omega
    simp only [pr] at hr
    exact absurd hr (by simp)
  | succ k ih =>
    intro j hj p
    rcases Nat.lt_or_ge j (k + 1) with h | h
    · exact ih j (by omega) p
    · obtain rfl : j = k + 1 := by omega
      cases p with
      | or => exact or_ok k fun j hj => ih j hj _
      | and => exact and_ok k fun j hj => ih j hj _
      | not => exact not_ok k (ih k (Nat.le_refl k) _) (ih k (Nat.le_refl k) _)
      | test => exact test_ok k (ih k (Nat.le_refl k) _)
      | sum => exact sum_ok k fun j hj => ih j hj _
      | prod => exact prod_ok k fun j hj => ih j hj _
      | atom => exact atom_ok k (ih k (Nat.le_refl k) _)
theorem GOK.all (k : Nat) (p : Gr) : GOK k p := gok k k (Nat.le_refl k) p
def enE (l : List S142) (i e : Int) : Int := if e = 0 ∧ (tokP l i e).f0 ≠ 0 then 1 else e
theorem end_st {w : World} {g : Nat} {A : Option Addr} {c : Nat} {l : List S142} {i d e : Int} (h : St w g A c l i d e) :
    Calls Tryd.prog 61 #[.pointer (some ⟨g, 0, none⟩)] w fun r w' => r = .returned (.tuple #[]) ∧ St w' g A c l i d (enE l i e) ∧ Chg g w w' := by
  unfold enE
  by_cases he : e = 0
  · subst he
    by_cases hk : (tokP l i 0).f0 = 0
    · rw [if_neg (fun q => q.2 hk)]
      exact (end_ok h.ps h.tk.now h.i0 hk).mono fun r w' ⟨a, b, k⟩ => ⟨a, h.go k b h.i0 h.i1, k⟩
    · rw [if_pos ⟨rfl, hk⟩]
      exact (end_no h.ps h.tk.now h.i0 hk).mono fun r w' ⟨a, b, k⟩ => ⟨a, h.go k b h.i0 h.i1, k⟩
  · rw [if_neg (fun q => he q.1)]
    exact (end_err h.ps he).mono fun r w' ⟨a, b, k⟩ => ⟨a, h.go k b h.i0 h.i1, k⟩
theorem new_blk (w : World) (o : Obj) : (w.alloc o).heap[w.heap.size]? = some o := Array.getElem?_push_size
theorem begin_any (k : Nat) (s : ByteArray) (l : List S142) (e : Int) (w : World) (hl : l.length ≤ 1000000) (h : token_All.f k s = some (l, e)) :
    Calls Tryd.prog 59 #[.string s] w fun r w' => ∃ (g : Nat) (A : Option Addr) (c : Nat), r = .returned (.pointer (some ⟨g, 0, none⟩)) ∧ St w' g A c l 0 0 e ∧ Below w.heap.size w w' ∧ w.heap.size ≤ g := by
  have HA := Lib.hid h; clear h
  go_enter Tryd.func59, Tryd.ntmps59
  go_wp2_with (first
    | ((with_reducible refine gate_callee (f := 101) rfl ?_); refine goesL_ (some 7) rfl rfl Tryd.func101 (by kernel_rfl) rfl #[.string s] rfl (by (try simp only [List.map_toArray, List.map_cons, List.map_nil]); first | done | rfl) ?_; refine (token_All.calls k s l e w HA.out).mono ?_; rintro r' w1 ⟨v, rfl, hr, hb⟩; refine ⟨_, rfl, ?_⟩; simp only [Act.put, sa_, sz_, ss_]; obtain ⟨A, c, rfl, hc, hC⟩ := Kd.R_reads hr; have HC := Lib.hid hC; have HB := Lib.hid hb; clear hr hb hC))
  go_ret
  exact ⟨w1.heap.size, A, c, rfl, ⟨new_blk w1 _, ⟨w1, HC.out, below_alloc (Below.refl _ _) _, Nat.le_refl _⟩, Int.le_refl 0, Int.natCast_nonneg _, hl⟩, below_alloc HB.out _, below_size HB.out⟩
def zx27 : S26 := ⟨0, ⟨#[]⟩, ⟨#[]⟩, 0, 0, ⟨0, 0, ⟨#[]⟩⟩, []⟩
def Ends (w : World) (x : S26) (e : Int) (r : Ending) (w' : World) : Prop := ∃ vA vc, r = .returned (.tuple #[exV x vA vc, .int .i64 e]) ∧ Tr w' (fun k => w.heap.size ≤ k) x vA vc ∧ Below w.heap.size w w'
structure ES (w0 : World) (g g2 g5 : Nat) (w : World) (x : S26) (vA : Option Addr) (vc : Nat) : Prop where
  b2 : w.heap[g2]? = some (.cells #[.int .i64 0, .string ⟨#[]⟩, .string ⟨#[]⟩, .int .i64 0, .int .i64 0, .int .i64 0, .int .i64 0, .string ⟨#[]⟩, .slice none 0 0] 26 (0, 0))
  b5 : w.heap[g5]? = some (.cells (cl27 x vA vc) 26 (0, 0))
  tr : Tr w (fun k => w0.heap.size ≤ k ∧ k ≠ g2) x vA vc
  bl : Below w0.heap.size w0 w
  h2 : w0.heap.size ≤ g2
theorem ES.mk' {w w1 w2 w3 w4 w6 : World} {g g2 g5 vc : Nat} {vA : Option Addr} {x : S26} {o0 o1 o2 o3 o4 o5 o6 o7 o8 : Value} (b2 : w1.heap[g2]? = some (.cells #[.int .i64 0, .string ⟨#[]⟩, .string ⟨#[]⟩, .int .i64 0, .int .i64 0, .int .i64 0, .int .i64 0, .string ⟨#[]⟩, .slice none 0 0] 26 (0, 0))) (l1 : Below w.heap.size w w1) (h2 : w.heap.size ≤ g2) (l2 : Below w1.heap.size w1 w2) (hg : w1.heap.size ≤ g) (hl : g < w2.heap.size) (c3 : Chg g w2 w3) (t3 : Tr w3 (fun k => w2.heap.size ≤ k) x vA vc)
    (l4 : Below w3.heap.size w3 w4) (h5 : w3.heap.size ≤ g5) (b5 : w4.heap[g5]? = some (.cells #[o0, o1, o2, o3, o4, o5, o6, o7, o8] 26 (0, 0))) (c6 : Chg g (((((((((w4.setCell ⟨g5, 0, none⟩ (.int .i64 x.f0)).setCell ⟨g5, 1, none⟩ (.string x.f1)).setCell ⟨g5, 2, none⟩ (.string x.f2)).setCell ⟨g5, 3, none⟩ (.int .i64 x.f3)).setCell ⟨g5, 4, none⟩ (.int .i64 x.f4)).setCell ⟨g5, 5, none⟩ (.int .i64 x.f5.f0)).setCell ⟨g5, 6, none⟩ (.int .i64 x.f5.f1)).setCell ⟨g5, 7, none⟩ (.string x.f5.f2)).setCell ⟨g5, 8, none⟩ (.slice vA x.f6.length vc)) w6) : ES w g g2 g5 w6 x vA vc := by
  have n2 := blk_lt b2; have s1 := below_size l1; have s2 := below_size l2; have s3 := c3.size; have s4 := below_size l4
  refine ⟨c6.box (chg9_.box (blk_below (c3.box (blk_below b2 l2) (by omega)) l4) (by omega)) (by omega), c6.box (put9_ b5) (by omega), ?_, ?_, h2⟩
  · have t4 := ((t3.mono fun q hl hq => (⟨by omega, by omega, by omega, by omega⟩ : w.heap.size ≤ q ∧ q ≠ g2 ∧ q ≠ g5 ∧ q ≠ g)).below l4)
    exact ((t4.chg chg9_ (fun q => q.2.2.1 rfl)).chg c6 (fun q => q.2.2.2 rfl)).mono fun _ _ q => ⟨q.1, q.2.1⟩
  · exact ((((l1.trans (l2.mono (by omega))).trans (c3.1.mono (by omega))).trans (l4.mono (by omega))).trans (chg9_.1.mono (by omega))).trans (c6.1.mono (by omega))
theorem ES.drew {w0 w : World} {g g2 g5 vc : Nat} {vA : Option Addr} {x : S26} (h : ES w0 g g2 g5 w x vA vc) : ES w0 g g2 g5 w.drew x vA vc := ⟨h.b2, h.b5, h.tr.below (Below.drew (Below.refl _ _)), Below.drew h.bl, h.h2⟩
theorem ES.done {w0 w : World} {g g2 g5 vc yc : Nat} {vA yA : Option Addr} {x y : S26} (h : ES w0 g g2 g5 w x vA vc) (t : Tr w (fun k => w0.heap.size ≤ k ∧ k ≠ g2) y yA yc) {e : Int} {v0 v1 v2 v3 v4 v5 v6 v7 v8 : Value} : Ends w0 y e (.returned (.tuple #[exV y yA yc, .int .i64 e])) (((((((((w.setCell ⟨g2, 0, none⟩ v0).setCell ⟨g2, 1, none⟩ v1).setCell ⟨g2, 2, none⟩ v2).setCell ⟨g2, 3, none⟩ v3).setCell ⟨g2, 4, none⟩ v4).setCell ⟨g2, 5, none⟩ v5).setCell ⟨g2, 6, none⟩ v6).setCell ⟨g2, 7, none⟩ v7).setCell ⟨g2, 8, none⟩ v8) :=
  ⟨yA, yc, rfl, (t.chg chg9_ (fun q => q.2 rfl)).mono fun _ _ q => q.1, h.bl.trans (chg9_.1.mono h.h2)⟩
theorem expr_ok (k : Nat) (s : ByteArray) (l : List S142) (e0 : Int) (r : Re) (w : World) (hl : l.length ≤ 1000000) (h : token_All.f k s = some (l, e0)) (k2 : Nat) (hr : pr l k2 (.f .or) 0 0 e0 = some r) (he : enE l r.i r.e = 0) :
    Calls Tryd.prog 21 #[.string s] w (Ends w r.x 0) := by
  have HA := Lib.hid h; clear h
  have HR := Lib.hid hr; clear hr
  have HE := Lib.hid he; clear he
  go_enter Tryd.func21, Tryd.ntmps21
  go_wp2_with (first
    | (((with_reducible refine gate_dst (N := 2) rfl ?_); refine box_event ?hg (N := 2) ?hd (cs := #[.int .i64 0, .string (⟨#[]⟩ : ByteArray), .string (⟨#[]⟩ : ByteArray), .int .i64 0, .int .i64 0, .int .i64 0, .int .i64 0, .string (⟨#[]⟩ : ByteArray), .slice none 0 0]) (t := 26) ?hr ?_; (case hd => rfl); (case hg => rfl); (case hr => first | (go_simp; done) | (go_simp; rfl)); intro gb2 hg_ w1 hb_ hl_; have BKgb2 := am_ hb_; have HLgb2 := am_ hl_; have HGgb2 := am_ (Nat.le_of_eq hg_.symm); obtain ⟨zgb2_0, zgb2_1, zgb2_2, zgb2_3, zgb2_4, zgb2_5, zgb2_6, zgb2_7, zgb2_8, ygb2_0, ygb2_1, ygb2_2, ygb2_3, ygb2_4, ygb2_5, ygb2_6, ygb2_7, ygb2_8⟩ := bw9_ hb_; clear hb_ hl_ hg_; simp only [Act.put, sa_, sz_, ss_]); clear zgb2_0 zgb2_1 zgb2_2 zgb2_3 zgb2_4 zgb2_5 zgb2_6 zgb2_7 zgb2_8 ygb2_0 ygb2_1 ygb2_2 ygb2_3 ygb2_4 ygb2_5 ygb2_6 ygb2_7 ygb2_8)
    | ((with_reducible refine gate_callee (f := 59) rfl ?_); refine goesL_ (some 7) rfl rfl Tryd.func59 (by kernel_rfl) rfl #[.string s] rfl (by (try simp only [List.map_toArray, List.map_cons, List.map_nil]); first | done | rfl) ?_; refine (begin_any k s l e0 w1 hl HA.out).mono ?_; rintro r' w2 ⟨g, A, c, rfl, h2, b2, hg⟩; refine ⟨_, rfl, ?_⟩; simp only [Act.put, sa_, sz_, ss_]; have H2 := Lib.hid h2; have L2 := Lib.hid b2; have G2 := Lib.hid hg; clear h2 b2 hg)
    | ((with_reducible refine gate_callee (f := 60) rfl ?_); refine goesL_ (some 9) rfl rfl Tryd.func60 (by kernel_rfl) rfl #[.pointer (some ⟨g, 0, none⟩)] rfl (by (try simp only [List.map_toArray, List.map_cons, List.map_nil]); first | done | rfl) ?_; refine (GOK.all k2 .or _ _ _ _ _ _ _ _ _ H2.out HR.out).mono ?_; rintro r' w3 ⟨vA, vc, rfl, h3, c3, t3⟩; refine ⟨_, rfl, ?_⟩; simp only [Act.put, sa_, sz_, ss_]; simp only [exV]; have H3 := Lib.hid h3; have C3 := Lib.hid c3; have T3 := Lib.hid t3; clear h3 c3 t3)
    | (((with_reducible refine gate_dst (N := 5) rfl ?_); refine box_event ?hg (N := 5) ?hd (cs := #[.int .i64 0, .string (⟨#[]⟩ : ByteArray), .string (⟨#[]⟩ : ByteArray), .int .i64 0, .int .i64 0, .int .i64 0, .int .i64 0, .string (⟨#[]⟩ : ByteArray), .slice none 0 0]) (t := 26) ?hr ?_; (case hd => rfl); (case hg => rfl); (case hr => first | (go_simp; done) | (go_simp; rfl)); intro gb5 hg_ w4 hb_ hl_; have BKgb5 := am_ hb_; have HLgb5 := am_ hl_; have HGgb5 := am_ (Nat.le_of_eq hg_.symm); obtain ⟨zgb5_0, zgb5_1, zgb5_2, zgb5_3, zgb5_4, zgb5_5, zgb5_6, zgb5_7, zgb5_8, ygb5_0, ygb5_1, ygb5_2, ygb5_3, ygb5_4, ygb5_5, ygb5_6, ygb5_7, ygb5_8⟩ := bw9_ hb_; clear hb_ hl_ hg_; simp only [Act.put, sa_, sz_, ss_]))
    | ((with_reducible refine gate_callee (f := 61) rfl ?_); refine goesL_ (some 11) rfl rfl Tryd.func61 (by kernel_rfl) rfl #[.pointer (some ⟨g, 0, none⟩)] rfl (by (try simp only [List.map_toArray, List.map_cons, List.map_nil]); first | done | rfl) ?_; refine (end_st ((H3.out.below HLgb5.out).box chg9_ (Nat.lt_of_lt_of_le H3.out.lt HGgb5.out))).mono ?_; rintro r' w6 ⟨rfl, h6, c6⟩; refine ⟨_, rfl, ?_⟩; simp only [Act.put, sa_, sz_, ss_]; rw [HE.out] at h6; have H6 := Lib.hid h6; have E6 := Lib.hid (ES.mk' BKgb2.out HLgb2.out HGgb2.out L2.out G2.out H2.out.lt C3.out T3.out HLgb5.out HGgb5.out BKgb5.out c6); clear h6 c6 zgb5_0 zgb5_1 zgb5_2 zgb5_3 zgb5_4 zgb5_5 zgb5_6 zgb5_7 zgb5_8 ygb5_0 ygb5_1 ygb5_2 ygb5_3 ygb5_4 ygb5_5 ygb5_6 ygb5_7 ygb5_8)
    | ((with_reducible refine gate_callee (f := 62) rfl ?_); refine goesL_ (some 13) rfl rfl Tryd.func62 (by kernel_rfl) rfl #[.pointer (some ⟨g, 0, none⟩)] rfl (by (try simp only [List.map_toArray, List.map_cons, List.map_nil]); first | done | rfl) ?_; refine (ok_yes H6.out.ps).mono ?_; rintro r' w7 ⟨rfl, rfl⟩; refine ⟨_, rfl, ?_⟩; simp only [Act.put, sa_, sz_, ss_]; obtain ⟨p0, p1, p2, p3, p4, p5, p6, p7, p8, q0, q1, q2, q3, q4, q5, q6, q7, q8⟩ := bw9_ E6.out.b2; obtain ⟨s0, s1, s2, s3, s4, s5, s6, s7, s8, t0, t1, t2, t3, t4, t5, t6, t7, t8⟩ := bw9_ E6.out.b5))
  exact bodyPost_ret (results_ct rfl _ _ gb2 26 (cl27 r.x vA vc) (0, 0) _ rfl (put9_ E6.out.b2) Tryd.underlying26 rfl (by kernel_rfl)) rfl (E6.out.done E6.out.tr)
end Go.Proofs.YthlepdjjdbpmoaaDoor.PPrintExprs
