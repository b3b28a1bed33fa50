/- Pass tells how many keys may pass a filter as the reference does, no less of more keys, no more of more words, for all numbers. -/
import Derived.Lib.Mul64
import Derived.Laws.Bits64b
import Derived.Lib.BitFns
import Derived.Test.YtkoeeplplmiikaaPCostPassesx3
namespace Go.Proofs.Ytkoeeplplmiikaa.Pure
open Go.RowKit Go.Proofs.Ytkoeeplplmiikaa.PCostPasses Go.Proofs.YtkoeeplplmiikaaW.PrintWords Go.Proofs.YtkoeeplplmiikaaW.PrintLast
set_option linter.unusedVariables false
set_option linter.unusedSimpArgs false
set_option maxRecDepth 100000

--import Derived.Lib.Mul64
--import Derived.Laws.Bits64b
--import Derived.Lib.BitFns
theorem bs {α β : Type} (a : α) (f : α → Option β) : (some a).bind f = f a := (Option.bind_some a f).trans (Eq.refl _)

theorem str_eq {s t : ByteArray} (h : s.toList = t.toList) : s = t := by
  have h2 : s.data.toList = t.data.toList := by rw [← ByteArray.toList_eq s, ← ByteArray.toList_eq t]; exact h
  apply ByteArray.ext
  exact Array.ext' h2

theorem u64_wrap (n : Int) : IntKind.u64.wrap n = n % 18446744073709551616 := by
  simp [IntKind.wrap, IntKind.bits, IntKind.signed]

theorem u64_range (n : Int) : 0 ≤ IntKind.u64.wrap n ∧ IntKind.u64.wrap n < 18446744073709551616 := by
  rw [u64_wrap]; omega

theorem u64_in {n : Int} (h0 : 0 ≤ n) (h1 : n < 18446744073709551616) : IntKind.u64.wrap n = n := by
  rw [u64_wrap]; omega

theorem u64_wf {n : Int} (h : (Lit.int .u64 n).wf = true) : 0 ≤ n ∧ n < 18446744073709551616 := by
  have h2 : decide (IntKind.u64.min ≤ n) = true ∧ decide (n ≤ IntKind.u64.max) = true := by
    simpa [Lit.wf] using h
  have e0 : IntKind.u64.min = 0 := by decide
  have e1 : IntKind.u64.max = 18446744073709551615 := by decide
  have := of_decide_eq_true h2.1
  have := of_decide_eq_true h2.2
  omega

theorem i64_wf {n : Int} (h : (Lit.int .i64 n).wf = true) : -9223372036854775808 ≤ n ∧ n < 9223372036854775808 := by
  have h2 : decide (IntKind.i64.min ≤ n) = true ∧ decide (n ≤ IntKind.i64.max) = true := by
    simpa [Lit.wf] using h
  have e0 : IntKind.i64.min = -9223372036854775808 := by decide
  have e1 : IntKind.i64.max = 9223372036854775807 := by decide
  have := of_decide_eq_true h2.1
  have := of_decide_eq_true h2.2
  omega

theorem u8_wf {n : Int} (h : (Lit.int .u8 n).wf = true) : 0 ≤ n ∧ n < 256 := by
  have h2 : decide (IntKind.u8.min ≤ n) = true ∧ decide (n ≤ IntKind.u8.max) = true := by
    simpa [Lit.wf] using h
  have e0 : IntKind.u8.min = 0 := by decide
  have e1 : IntKind.u8.max = 255 := by decide
  have := of_decide_eq_true h2.1
  have := of_decide_eq_true h2.2
  omega

theorem w64 {n : Int} (h0 : -9223372036854775808 ≤ n) (h1 : n < 9223372036854775808) : wrap64 n = n := by
  unfold wrap64; omega

theorem bits_u64 (op : BinOp) (x y : Int) : 0 ≤ Go.bits op .u64 x y ∧ Go.bits op .u64 x y < 18446744073709551616 := by
  unfold Go.bits
  exact u64_range _

/-! counts: as natural numbers -/
def MX : Nat := 4611686018427387904
def cutN (a : Int) : Nat := if a < 0 then 0 else if a > 4611686018427387904 then 4611686018427387904 else a.toNat
theorem cutN_le (a : Int) : cutN a ≤ 4611686018427387904 := by unfold cutN; split; omega; split <;> omega
theorem cut_is (a : Int) : sat_Cut.f a = some (cutN a : Int) := by
  unfold sat_Cut.f mx mn cutN
  congr 1
  split <;> split <;> (try split) <;> omega
theorem rcut_is (a : Int) : trommelref26_Cut.f a = some (cutN a : Int) := by
  unfold trommelref26_Cut.f cutN
  by_cases c : a < 0
  · rw [if_pos c, if_pos c]; rfl
  · rw [if_neg c, if_neg c]
    by_cases d : a > 4611686018427387904
    · rw [if_pos d, if_pos d]; rfl
    · rw [if_neg d, if_neg d]
      congr 1
      omega
theorem cutN_of (n : Nat) (h : n ≤ 4611686018427387904) : cutN (n : Int) = n := by
  unfold cutN
  rw [if_neg (by omega), if_neg (by omega)]
  rfl

theorem maskN (a : Nat) (ha : a < 18446744073709551616) : Go.bits .and .u64 (a : Int) 4294967295 = ((a % 4294967296 : Nat) : Int) := by
  have h := bits_and_u64_nat a 4294967295 ha (by omega)
  have e : a &&& 4294967295 = a % 4294967296 := Nat.and_two_pow_sub_one_eq_mod a 32
  rw [e] at h
  exact h
theorem divN (a : Nat) : (a : Int) / 4294967296 = ((a / 4294967296 : Nat) : Int) := by omega
theorem mulN (a b : Nat) : (a : Int) * (b : Int) = ((a * b : Nat) : Int) := (Int.natCast_mul a b).symm
theorem addN (a b : Nat) : (a : Int) + (b : Int) = ((a + b : Nat) : Int) := (Int.natCast_add a b).symm
theorem wrapN (a : Nat) (ha : a < 18446744073709551616) : IntKind.u64.wrap (a : Int) = (a : Int) := by rw [u64_wrap]; omega
theorem wrapM (a : Nat) : IntKind.u64.wrap (a : Int) = ((a % 18446744073709551616 : Nat) : Int) := by rw [u64_wrap]; omega

theorem mul64_is (x y : Nat) (hx : x < 18446744073709551616) (hy : y < 18446744073709551616) : bits_Mul64.f (x : Int) (y : Int) = some (((x * y / 18446744073709551616 : Nat) : Int), ((x * y % 18446744073709551616 : Nat) : Int)) := by
  obtain ⟨bd, bt, bw, hhi⟩ := Lib.mul64_hi x y hx hy
  have ba := Lib.half_mul_le (a := x / 4294967296) (b := y / 4294967296) (by omega) (by omega)
  have bb := Lib.half_mul_le (a := x / 4294967296) (b := y % 4294967296) (by omega) (by omega)
  have bc := Lib.half_mul_le (a := x % 4294967296) (b := y / 4294967296) (by omega) (by omega)
  have ba' : x / 4294967296 * (y / 4294967296) < 18446744073709551616 := by omega
  have bb' : x / 4294967296 * (y % 4294967296) < 18446744073709551616 := by omega
  have bc' : x % 4294967296 * (y / 4294967296) < 18446744073709551616 := by omega
  have bh1 : x / 4294967296 * (y / 4294967296) + (x / 4294967296 * (y % 4294967296) + x % 4294967296 * (y % 4294967296) / 4294967296) / 4294967296 < 18446744073709551616 := by omega
  have bh : x / 4294967296 * (y / 4294967296) + (x / 4294967296 * (y % 4294967296) + x % 4294967296 * (y % 4294967296) / 4294967296) / 4294967296 + ((x / 4294967296 * (y % 4294967296) + x % 4294967296 * (y % 4294967296) / 4294967296) % 4294967296 + x % 4294967296 * (y / 4294967296)) / 4294967296 < 18446744073709551616 := by omega
  unfold bits_Mul64.f
  simp only [maskN x hx, maskN y hy, divN, mulN, addN, wrapN _ bd, wrapN _ bb', wrapN _ bt, maskN _ bt, wrapN _ bc', wrapN _ bw, wrapN _ ba', wrapN _ bh1, wrapN _ bh, wrapM (x * y)]
  rw [hhi]

def timesN (a b : Nat) : Nat := min (a * b) 4611686018427387904
theorem times_is (a b : Nat) (ha : a < 18446744073709551616) (hb : b < 18446744073709551616) : sat_count_times.f (a : Int) (b : Int) = some (timesN a b : Int) := by
  unfold sat_count_times.f timesN
  rw [mul64_is a b ha hb, bs]
  generalize a * b = p
  by_cases c : p / 18446744073709551616 > 0
  · rw [if_pos (by omega)]
    congr 1
    omega
  · rw [if_neg (by omega)]
    by_cases d : p % 18446744073709551616 > 4611686018427387904
    · rw [if_pos (by omega)]
      congr 1
      omega
    · rw [if_neg (by omega)]
      congr 1
      omega

def mulN2 (l : List Int) (n : Nat) : Nat := l.foldl (fun n x => timesN n (cutN x)) n
theorem mul_l0 (l : List Int) (hl : l.length ≤ 1000000) (d : Nat) : ∀ (k j n : Nat), l.length - j = d → j ≤ l.length → n ≤ 4611686018427387904 → d < k → sat_fold__sat_count_times.l0 k (n : Int) l (l.length : Int) (j : Int) = some (mulN2 (l.drop j) n : Int) := by
  induction d with
  | zero =>
    intro k j n hd hj hn hk
    obtain ⟨k, rfl⟩ : ∃ m, k = m + 1 := ⟨k - 1, by omega⟩
    simp only [sat_fold__sat_count_times.l0]
    rw [if_neg (by omega), List.drop_of_length_le (by omega), w64 (by omega) (by omega)]
    rfl
  | succ d ih =>
    intro k j n hd hj hn hk
    obtain ⟨k, rfl⟩ : ∃ m, k = m + 1 := ⟨k - 1, by omega⟩
    have hjl : j < l.length := by omega
    have e1 : wrap64 ((j : Int) + 1) = ((j + 1 : Nat) : Int) := by rw [w64 (by omega) (by omega)]; omega
    have er : rd l (j : Int) = l[j] := by unfold rd; simp [hjl]
    have hc := cutN_le l[j]
    simp only [sat_fold__sat_count_times.l0]
    rw [if_pos (show (j : Int) < (l.length : Int) by omega), if_pos (show (0 : Int) ≤ (j : Int) by omega), if_pos (show (j : Int) < (l.length : Int) by omega), er, cut_is, bs, wrapN _ (by omega), times_is n _ (by omega) (by omega), bs, e1, ih k (j + 1) _ (by omega) (by omega) (by unfold timesN; omega) (by omega), List.drop_eq_getElem_cons hjl]
    rfl
theorem mul2_is (a b : Int) (k : Nat) (hk : 2 < k) : sat_Mul.f k [a, b] = some (timesN (cutN a) (cutN b) : Int) := by
  have h := mul_l0 [a, b] (by simp) 2 k 0 1 rfl (by simp) (by decide) hk
  unfold sat_Mul.f sat_fold__sat_count_times.f
  have h2 : sat_fold__sat_count_times.l0 k 1 [a, b] ((([a, b] : List Int).length : Nat) : Int) 0 = some (mulN2 [a, b] 1 : Int) := h
  rw [h2, bs]
  congr 2
  show timesN (timesN 1 (cutN a)) (cutN b) = _
  have := cutN_le a
  have e : timesN 1 (cutN a) = cutN a := by unfold timesN; omega
  rw [e]
theorem rtimes_is (a b : Int) (k : Nat) (hk : 0 < k) : trommelref26_Times.f k a b = some (timesN (cutN a) (cutN b) : Int) := by
  obtain ⟨k, rfl⟩ : ∃ m, k = m + 1 := ⟨k - 1, by omega⟩
  have h1 := cutN_le a
  have h2 := cutN_le b
  unfold trommelref26_Times.f
  rw [rcut_is, bs, rcut_is, bs]
  generalize cutN a = x at *
  generalize cutN b = y at *
  by_cases c : x = 0
  · rw [if_pos (by omega)]
    simp only [trommelref26_Times.j0, if_true]
    rw [c]
    simp [timesN]
  · rw [if_neg (by omega)]
    by_cases d : y = 0
    · rw [beq_iff_eq.mpr (by omega)]
      simp only [trommelref26_Times.j0, if_true]
      rw [d]
      simp [timesN]
    · rw [beq_eq_false_iff_ne.mpr (by omega)]
      simp only [trommelref26_Times.j0, Bool.false_eq_true, if_false]
      have ed : Int.tdiv (4611686018427387904 : Int) (y : Int) = ((4611686018427387904 / y : Nat) : Int) := by
        rw [Int.tdiv_eq_ediv_of_nonneg (by decide)]
        exact (Int.natCast_ediv 4611686018427387904 y).symm
      have hle : 4611686018427387904 / y ≤ 4611686018427387904 := Nat.div_le_self _ _
      have key : x > 4611686018427387904 / y ↔ x * y > 4611686018427387904 := by
        rw [gt_iff_lt, gt_iff_lt, Nat.div_lt_iff_lt_mul (by omega)]
      rw [if_neg (by omega), ed]
      unfold timesN
      generalize 4611686018427387904 / y = q at *
      rw [w64 (show (-9223372036854775808 : Int) ≤ (q : Int) by omega) (show (q : Int) < 9223372036854775808 by omega)]
      by_cases e : x > q
      · have := key.mp e
        rw [if_pos (by omega)]
        congr 1
        omega
      · have : ¬ x * y > 4611686018427387904 := fun h => e (key.mpr h)
        rw [if_neg (by omega), mulN, w64 (by omega) (by omega)]
        congr 1
        omega

/-! shares of counts -/
theorem div64_zero (lo y : Nat) (hl : lo < 18446744073709551616) (hy : 0 < y) (k : Nat) : bits_Div64.f k 0 (lo : Int) (y : Int) = some (((lo / y : Nat) : Int), ((lo % y : Nat) : Int)) := by
  unfold bits_Div64.f
  rw [if_neg (by omega), if_neg (by omega), if_pos rfl, Int.tdiv_eq_ediv_of_nonneg (by omega), Int.tmod_eq_emod_of_nonneg (by omega), ← Int.natCast_ediv, ← Int.natCast_emod]
  have h : lo / y ≤ lo := Nat.div_le_self _ _
  rw [wrapN _ (by omega)]

theorem lz16 : bits_LeadingZeros64.f 65536 = some 47 := by
  have e : Lib.bitLen 65536 = 17 := by decide +kernel
  unfold bits_LeadingZeros64.f bits_Len64.f
  rw [if_pos (by decide)]
  have e2 : Lib.bitLen (Int.toNat 65536) = 17 := e
  have e3 : wrap64 (64 - ((17 : Nat) : Int)) = 47 := by unfold wrap64; omega
  rw [e2, bs, e3]

theorem shl47 (x : Int) : shl .u64 x 47 = (x * 140737488355328) % 18446744073709551616 := by
  unfold shl
  rw [u64_wrap]
  rfl
theorem shr17 (x : Int) : shr .u64 x 17 = x / 131072 := rfl
theorem shr47 (x : Int) : shr .u64 x 47 = x / 140737488355328 := rfl

theorem or_sum (a b : Nat) (ha : a < 65536) (hb : b < 140737488355328) : Go.bits .or .u64 ((a * 140737488355328 : Nat) : Int) (b : Int) = ((a * 140737488355328 + b : Nat) : Int) := by
  rw [bits_or_u64_nat _ _ (by omega) (by omega)]
  have h := Nat.two_pow_add_eq_or_of_lt (i := 47) (b := b) (by omega) a
  congr 1
  rw [Nat.mul_comm a]
  exact h.symm

theorem step_T (a b t : Nat) (ha : a < 4294967296) (hb : b < 2147483648) (ht : t < 4294967296) :
    IntKind.u64.wrap (IntKind.u64.wrap (IntKind.u64.wrap (((2147483648 * a + b : Nat) : Int) * 4294967296) + (t : Int)) - IntKind.u64.wrap ((a : Int) * 9223372036854775808)) = ((b * 4294967296 + t : Nat) : Int) := by
  rw [u64_wrap, u64_wrap, u64_wrap, u64_wrap]
  omega

theorem step_R (c d : Nat) (hc : c < 4294967296) (hd : d < 65536) :
    IntKind.u64.wrap (IntKind.u64.wrap (IntKind.u64.wrap (((32768 * (65536 * c + d) : Nat) : Int) * 4294967296) + 0) - IntKind.u64.wrap ((c : Int) * 9223372036854775808)) / 140737488355328 = (d : Int) := by
  rw [u64_wrap, u64_wrap, u64_wrap, u64_wrap]
  omega

theorem div64_l1 (k : Nat) (q T q0 rh : Int) (h0 : 0 ≤ q0) (h1 : q0 < 4294967296) (hk : 3 ≤ k) : bits_Div64.l1 k 9223372036854775808 47 2147483648 0 0 q rh T q0 = some (IntKind.u64.wrap ((IntKind.u64.wrap (q * 4294967296)) + q0), shr .u64 (IntKind.u64.wrap ((IntKind.u64.wrap ((IntKind.u64.wrap (T * 4294967296)) + 0)) - (IntKind.u64.wrap (q0 * 9223372036854775808)))) 47) := by
  obtain ⟨k, rfl⟩ : ∃ m, k = m + 2 := ⟨k - 2, by omega⟩
  have z : IntKind.u64.wrap (q0 * 0) = 0 := by rw [Int.mul_zero]; rfl
  have p := u64_range (IntKind.u64.wrap (4294967296 * rh) + 0)
  simp only [bits_Div64.l1]
  rw [if_neg (by omega), z, decide_eq_false (by omega)]
  simp only [bits_Div64.j4, Bool.false_eq_true, if_false]
  rw [if_pos (by decide)]

theorem div64_split (hi lo : Nat) (h1 : hi < 65536) (hl : lo < 18446744073709551616) : ∃ a b c d e f : Nat, a < 4294967296 ∧ b < 2147483648 ∧ c < 140737488355328 ∧ d < 131072 ∧ e < 4294967296 ∧ f < 65536 ∧ lo = 131072 * c + d ∧ hi * 140737488355328 + c = 2147483648 * a + b ∧ b * 131072 + d = 65536 * e + f := by
  refine ⟨(hi * 140737488355328 + lo / 131072) / 2147483648, (hi * 140737488355328 + lo / 131072) % 2147483648, lo / 131072, lo % 131072, ((hi * 140737488355328 + lo / 131072) % 2147483648 * 131072 + lo % 131072) / 65536, ((hi * 140737488355328 + lo / 131072) % 2147483648 * 131072 + lo % 131072) % 65536, ?_, ?_, ?_, ?_, ?_, ?_, ?_, ?_, ?_⟩
  · omega
  · omega
  · omega
  · omega
  · omega
  · omega
  · omega
  · omega
  · omega
theorem q1_is (a b : Nat) (ha : a < 4294967296) (hb : b < 2147483648) : IntKind.u64.wrap (Int.tdiv ((2147483648 * a + b : Nat) : Int) 2147483648) = (a : Int) := by
  have e : Int.tdiv ((2147483648 * a + b : Nat) : Int) 2147483648 = ((2147483648 * a + b : Nat) : Int) / 2147483648 := Int.tdiv_eq_ediv_of_nonneg (Int.natCast_nonneg _)
  have e2 : ((2147483648 * a + b : Nat) : Int) / 2147483648 = (a : Int) := by omega
  rw [e, e2]
  exact wrapN a (by omega)
theorem q0_is (e f : Nat) (he : e < 4294967296) (hf : f < 65536) : IntKind.u64.wrap (Int.tdiv ((32768 * (65536 * e + f) : Nat) : Int) 2147483648) = (e : Int) := by
  have h : Int.tdiv ((32768 * (65536 * e + f) : Nat) : Int) 2147483648 = ((32768 * (65536 * e + f) : Nat) : Int) / 2147483648 := Int.tdiv_eq_ediv_of_nonneg (Int.natCast_nonneg _)
  have e2 : ((32768 * (65536 * e + f) : Nat) : Int) / 2147483648 = (e : Int) := by omega
  rw [h, e2]
  exact wrapN e (by omega)
theorem r1_is (a e : Nat) (ha : a < 4294967296) (he : e < 4294967296) : IntKind.u64.wrap ((IntKind.u64.wrap ((a : Int) * 4294967296)) + (e : Int)) = ((a * 4294967296 + e : Nat) : Int) := by
  rw [u64_wrap, u64_wrap]
  omega
theorem quo_is (hi lo a b c d e f : Nat) (hb : b < 2147483648) (hf : f < 65536) (hd : d < 131072) (hL : lo = 131072 * c + d) (hU : hi * 140737488355328 + c = 2147483648 * a + b) (hT : b * 131072 + d = 65536 * e + f) : a * 4294967296 + e = (hi * 18446744073709551616 + lo) / 65536 ∧ f = (hi * 18446744073709551616 + lo) % 65536 := by
  have k1 : (hi * 140737488355328 + c) * 131072 = (2147483648 * a + b) * 131072 := by rw [hU]
  have k2 : (hi * 140737488355328 + c) * 131072 = hi * 18446744073709551616 + 131072 * c := by rw [Nat.add_mul, Nat.mul_assoc, Nat.mul_comm c]
  have k3 : (2147483648 * a + b) * 131072 = 65536 * (a * 4294967296) + b * 131072 := by
    rw [Nat.add_mul, Nat.mul_comm a, ← Nat.mul_assoc, Nat.mul_right_comm]
  have k4 : 65536 * (a * 4294967296 + e) = 65536 * (a * 4294967296) + 65536 * e := Nat.mul_add _ _ _
  have h : hi * 18446744073709551616 + lo = 65536 * (a * 4294967296 + e) + f := by
    rw [hL, ← Nat.add_assoc, ← k2, k1, k3, Nat.add_assoc, hT, ← Nat.add_assoc, ← k4]
  rw [h]
  generalize a * 4294967296 + e = q
  clear h k1 k2 k3 k4 hU hT hL
  exact ⟨by omega, by omega⟩
theorem s1_is (hi : Nat) (h1 : hi < 65536) : shl .u64 (hi : Int) 47 = ((hi * 140737488355328 : Nat) : Int) := by rw [shl47]; omega
theorem s2_is (c d : Nat) (hd : d < 131072) : shr .u64 ((131072 * c + d : Nat) : Int) 17 = (c : Int) := by rw [shr17]; omega
theorem s3_is (c d : Nat) (hd : d < 131072) : shl .u64 ((131072 * c + d : Nat) : Int) 47 = ((d * 140737488355328 : Nat) : Int) := by rw [shl47]; omega
theorem s4_is (d : Nat) : ((d * 140737488355328 : Nat) : Int) / 4294967296 = ((d * 32768 : Nat) : Int) := by omega
theorem s5_is (d : Nat) (hd : d < 131072) : Go.bits .and .u64 ((d * 140737488355328 : Nat) : Int) 4294967295 = 0 := by rw [maskN _ (by omega)]; omega
theorem y1_is : shl .u64 65536 47 = 9223372036854775808 := by rw [shl47]; rfl
theorem y3_is : Go.bits .and .u64 9223372036854775808 4294967295 = 0 := maskN 9223372036854775808 (by omega)
theorem div64_l0 (a b c d e f : Nat) (ha : a < 4294967296) (hb : b < 2147483648) (hc : c < 140737488355328) (hd : d < 131072) (he : e < 4294967296) (hf : f < 65536) (hT : b * 131072 + d = 65536 * e + f) (k : Nat) (hk : 8 ≤ k) : bits_Div64.l0 k 9223372036854775808 47 2147483648 0 ((2147483648 * a + b : Nat) : Int) ((d * 32768 : Nat) : Int) 0 (a : Int) (IntKind.u64.wrap (((2147483648 * a + b : Nat) : Int) - IntKind.u64.wrap ((a : Int) * 2147483648))) = some (((a * 4294967296 + e : Nat) : Int), (f : Int)) := by
  obtain ⟨k, rfl⟩ : ∃ m, k = m + 3 := ⟨k - 3, by omega⟩
  have z : IntKind.u64.wrap ((a : Int) * 0) = 0 := by rw [Int.mul_zero]; rfl
  have tT : b * 4294967296 + d * 32768 = 32768 * (65536 * e + f) := by
    rw [← hT, Nat.mul_add, Nat.mul_comm 32768 (b * 131072), Nat.mul_assoc, Nat.mul_comm 32768 d]
  have g1 : ¬ (a : Int) ≥ 4294967296 := by omega
  have ST := step_T a b (d * 32768) ha hb (by omega)
  rw [tT] at ST
  have SR := step_R e f he hf
  have L1 := div64_l1 k
  have Q0 := q0_is e f he hf
  have R1 := r1_is a e ha he
  simp only [bits_Div64.l0]
  generalize (IntKind.u64.wrap (((2147483648 * a + b : Nat) : Int) - IntKind.u64.wrap ((a : Int) * 2147483648))) = R
  have p := (u64_range (IntKind.u64.wrap (4294967296 * R) + ((d * 32768 : Nat) : Int))).1
  have g2 : ¬ (0 : Int) > IntKind.u64.wrap (IntKind.u64.wrap (4294967296 * R) + ((d * 32768 : Nat) : Int)) := Int.not_lt.mpr p
  rw [if_neg g1, z, decide_eq_false g2]
  simp only [bits_Div64.j1, Bool.false_eq_true, if_false]
  simp only [bits_Div64.j2]
  rw [if_neg (show ¬ (2147483648 : Int) = 0 by decide), ST, Q0, L1 _ _ _ _ (Int.natCast_nonneg _) (by omega) (by omega), shr47, SR, R1]
theorem div64_16 (hi lo : Nat) (h0 : 0 < hi) (h1 : hi < 65536) (hl : lo < 18446744073709551616) (k : Nat) (hk : 10 ≤ k) : bits_Div64.f k (hi : Int) (lo : Int) 65536 = some ((((hi * 18446744073709551616 + lo) / 65536 : Nat) : Int), (((hi * 18446744073709551616 + lo) % 65536 : Nat) : Int)) := by
  obtain ⟨a, b, c, d, e, f, ha, hb, hc, hd, he, hf, hL, hU, hT⟩ := div64_split hi lo h1 hl
  obtain ⟨v1, v2⟩ := quo_is hi lo a b c d e f hb hf hd hL hU hT
  rw [← v1, ← v2]
  have w47 : IntKind.u64.wrap (47 : Int) = 47 := rfl
  have w17 : IntKind.u64.wrap (64 - (47 : Int)) = 17 := rfl
  have y2 : (9223372036854775808 : Int) / 4294967296 = 2147483648 := rfl
  have L := div64_l0 a b c d e f ha hb hc hd he hf hT k (by omega)
  have Q1 := q1_is a b ha hb
  have O := or_sum hi c h1 hc
  have g0 : ¬ (65536 : Int) ≤ (hi : Int) := by omega
  have g1 : ¬ (hi : Int) = 0 := by omega
  rw [hU] at O
  clear v1 v2 hT hU ha hb he hf
  subst hL
  unfold bits_Div64.f
  rw [if_neg (show ¬ (65536 : Int) = 0 by decide), if_neg g0, if_neg g1, lz16, bs, w47, w17, if_pos (show (0 : Int) ≤ 47 by decide), if_pos (show (0 : Int) ≤ 17 by decide), y1_is, y2, if_neg (show ¬ (2147483648 : Int) = 0 by decide), y3_is, s1_is hi h1, s2_is c d hd, s3_is c d hd, s4_is, s5_is d hd, O, Q1]
  exact L

def partN (n num den : Nat) : Nat := if num ≥ den then n else (n * num + (den - 1)) / den

theorem up_div (a w : Nat) (hw : 0 < w) : (a + (w - 1)) / w = a / w + (if a % w = 0 then 0 else 1) := by
  have hm := Nat.div_add_mod a w
  have hlt := Nat.mod_lt a hw
  generalize a / w = q at *
  generalize a % w = r at *
  subst hm
  by_cases c : r = 0
  · rw [if_pos c, c, Nat.add_zero, Nat.mul_add_div hw, Nat.div_eq_of_lt (show w - 1 < w by omega)]
  · rw [if_neg c, Nat.add_assoc, Nat.mul_add_div hw, show r + (w - 1) = (r - 1) + w by omega, Nat.add_div_right _ hw, Nat.div_eq_of_lt (show r - 1 < w by omega)]
theorem part_end (p den : Nat) (hd : 0 < den) (h : p / den + 1 ≤ 4611686018427387905) : (if ((p % den : Nat) : Int) > 0 then some (wrap64 (IntKind.u64.wrap (((p / den : Nat) : Int) + 1))) else some (wrap64 ((p / den : Nat) : Int))) = some (((p + (den - 1)) / den : Nat) : Int) := by
  rw [up_div p den hd]
  generalize p / den = q at *
  generalize p % den = r at *
  by_cases c : r = 0
  · rw [if_neg (by omega), if_pos c, w64 (by omega) (by omega)]
    rfl
  · rw [if_pos (by omega), if_neg c, u64_in (by omega) (by omega), w64 (by omega) (by omega)]
    rfl

theorem part_le (n num den : Nat) (h : num < den) (hn : n ≤ 4611686018427387904) : n * num / den + 1 ≤ 4611686018427387905 := by
  have : n * num / den ≤ n := by
    refine Nat.div_le_of_le_mul ?_
    rw [Nat.mul_comm den]
    exact Nat.mul_le_mul_left n (by omega)
  omega

theorem part16_is (a b : Int) (k : Nat) (hk : 10 ≤ k) : sat_Part.f k a b 65536 = some (partN (cutN a) (cutN b) 65536 : Int) := by
  have h1 := cutN_le a
  have h2 := cutN_le b
  unfold sat_Part.f partN
  have e : cutN 65536 = 65536 := cutN_of 65536 (by decide)
  rw [cut_is, bs, cut_is, bs, cut_is, bs, e]
  generalize cutN a = n at *
  generalize cutN b = m at *
  by_cases c : m ≥ 65536
  · rw [if_pos (by omega), if_pos c]
  · have hp : n * m ≤ 4611686018427387904 * 65535 := Nat.mul_le_mul h1 (by omega)
    rw [if_neg (by omega), if_neg c, wrapN n (by omega), wrapN m (by omega), mul64_is n m (by omega) (by omega), bs]
    have e2 : IntKind.u64.wrap ((65536 : Nat) : Int) = 65536 := rfl
    have hq := part_le n m 65536 (by omega) h1
    have hend := part_end (n * m) 65536 (by decide) hq
    rw [e2]
    by_cases z : n * m / 18446744073709551616 = 0
    · have e3 : n * m % 18446744073709551616 = n * m := by omega
      have hdv := div64_zero (n * m) 65536 (by omega) (by decide) k
      rw [z, e3]
      have e4 : bits_Div64.f k ((0 : Nat) : Int) ((n * m : Nat) : Int) 65536 = _ := hdv
      rw [e4, bs]
      exact hend
    · have e3 : (n * m / 18446744073709551616) * 18446744073709551616 + n * m % 18446744073709551616 = n * m := by omega
      rw [div64_16 _ _ (by omega) (by omega) (by omega) k hk, bs, e3]
      exact hend

theorem part_small (a b : Int) (den : Nat) (hd : 0 < den) (hd2 : den ≤ 4611686018427387904) (h : cutN a * cutN b < 18446744073709551616) (k : Nat) : sat_Part.f k a b (den : Int) = some (partN (cutN a) (cutN b) den : Int) := by
  have h1 := cutN_le a
  have h2 := cutN_le b
  unfold sat_Part.f partN
  rw [cut_is, bs, cut_is, bs, cut_is, bs, cutN_of den hd2]
  generalize cutN a = n at *
  generalize cutN b = m at *
  by_cases c : m ≥ den
  · rw [if_pos (by omega), if_pos c]
  · rw [if_neg (by omega), if_neg c, wrapN n (by omega), wrapN m (by omega), mul64_is n m (by omega) (by omega), bs, wrapN den (by omega)]
    have z : n * m / 18446744073709551616 = 0 := by omega
    have e3 : n * m % 18446744073709551616 = n * m := by omega
    have hq := part_le n m den (by omega) h1
    rw [z, e3]
    have e4 : bits_Div64.f k ((0 : Nat) : Int) ((n * m : Nat) : Int) (den : Int) = _ := div64_zero (n * m) den (by omega) hd k
    rw [e4, bs]
    exact part_end (n * m) den hd hq

/-! how many keys pass a filter -/
def uN : Nat → Nat → Nat
  | 0, u => u
  | c + 1, u => uN c ((u * 63 + 63) / 64)
def rN : Nat → Nat → Nat → Nat
  | 0, _, r => r
  | c + 1, u, r => rN c u ((r * (65536 - u) + 65535) / 65536)
def cl (x : Int) (hi : Nat) : Nat := if x < 1 then 1 else if x > (hi : Int) then hi else x.toNat
def upN (a w : Nat) : Nat := (a + (w - 1)) / w
def cntN (w b : Nat) (keys : Int) : Nat := min (upN (timesN b (cutN keys)) w) 1000
def passN (words bits keys : Int) : Nat := rN (cl bits 5) (uN (cntN (cl words 4096) (cl bits 5) keys) 65536) 65536

theorem cl_range (x : Int) (hi : Nat) (h : 1 ≤ hi) : 1 ≤ cl x hi ∧ cl x hi ≤ hi := by
  unfold cl
  split
  · omega
  · split <;> omega
theorem cl_mx (x : Int) (hi : Nat) (h : 1 ≤ hi) : mx 1 (mn x (hi : Int)) = (cl x hi : Int) := by
  unfold cl mx mn
  split <;> split <;> (try split) <;> (try split) <;> omega
theorem within_is (x : Int) (hi : Nat) (h : 1 ≤ hi) : trommelref29_within.f x 1 (hi : Int) = some (cl x hi : Int) := by
  unfold trommelref29_within.f cl
  by_cases c : x < 1
  · rw [if_pos c, if_pos c]; rfl
  · rw [if_neg c, if_neg c]
    by_cases d : x > (hi : Int)
    · rw [if_pos d, if_pos d]
    · rw [if_neg d, if_neg d]
      congr 1
      omega

theorem upN_two (a w : Nat) (hw : 0 < w) (ha : 0 < a) : upN a w = (a - 1) / w + 1 := by
  unfold upN
  rw [show a + (w - 1) = (a - 1) + w by omega, Nat.add_div_right _ hw]
theorem upN_mod (a w : Nat) (hw : 0 < w) : upN a w = a / w + min (a % w) 1 := by
  unfold upN
  rw [up_div a w hw]
  generalize a % w = r
  by_cases c : r = 0
  · rw [if_pos c, c]; rfl
  · rw [if_neg c]; omega
theorem div_is (a w : Nat) (ha : a ≤ 4611686018427387904) (hw : 1 ≤ w) (hw2 : w ≤ 4611686018427387904) : sat_Div.f (a : Int) (w : Int) = some (upN a w : Int) := by
  have h1 : a / w ≤ a := Nat.div_le_self _ _
  have c1 : (w : Int) > 0 := by omega
  have c2 : ¬ (w : Int) = 0 := by omega
  have t1 : Int.tdiv (a : Int) (w : Int) = ((a / w : Nat) : Int) := rfl
  have t2 : Int.tmod (a : Int) (w : Int) = ((a % w : Nat) : Int) := rfl
  unfold sat_Div.f mn
  rw [cut_is, bs, cut_is, bs, cutN_of a ha, cutN_of w hw2, if_pos c1, if_neg c2, t1, t2, upN_mod a w (by omega)]
  generalize a / w = q at *
  generalize a % w = r at *
  clear t1 t2
  have e : wrap64 (q : Int) = (q : Int) := w64 (by omega) (by omega)
  rw [e]
  split
  · rw [w64 (by omega) (by omega)]
    congr 1
    omega
  · rw [w64 (by omega) (by omega)]
    congr 1
    omega
theorem rdiv_is (a w : Nat) (ha : a ≤ 4611686018427387904) (hw : 1 ≤ w) (hw2 : w ≤ 4611686018427387904) : trommelref26_Div.f (a : Int) (w : Int) = some (upN a w : Int) := by
  unfold trommelref26_Div.f
  rw [rcut_is, bs, rcut_is, bs, cutN_of a ha, cutN_of w hw2]
  by_cases c : a = 0
  · rw [if_pos (by omega), c]
    congr 1
    unfold upN
    rw [Nat.div_eq_of_lt (by omega)]
    rfl
  · have h1 : (a - 1) / w ≤ a - 1 := Nat.div_le_self _ _
    rw [if_neg (by omega), if_neg (by omega), w64 (n := (a : Int) - 1) (by omega) (by omega), upN_two a w (by omega) (by omega)]
    have e : (a : Int) - 1 = ((a - 1 : Nat) : Int) := by omega
    rw [e, Int.tdiv_eq_ediv_of_nonneg (by omega), ← Int.natCast_ediv]
    generalize (a - 1) / w = q at *
    rw [w64 (n := (q : Int)) (by omega) (by omega), w64 (by omega) (by omega)]
    congr 1

theorem r_step (r u : Nat) (hr : r ≤ 65536) (hu : u ≤ 65536) : partN r (65536 - u) 65536 = (r * (65536 - u) + 65535) / 65536 ∧ (r * (65536 - u) + 65535) / 65536 ≤ 65536 := by
  have h : r * (65536 - u) ≤ r * 65536 := Nat.mul_le_mul_left r (by omega)
  refine ⟨?_, by omega⟩
  unfold partN
  by_cases c : 65536 - u ≥ 65536
  · rw [if_pos c, show 65536 - u = 65536 by omega]
    omega
  · rw [if_neg c]

theorem pass_l1 (u : Nat) (hu : u ≤ 65536) (b : Nat) (hb : b ≤ 5) (d : Nat) : ∀ (k i r : Nat), b - i = d → i ≤ b → r ≤ 65536 → d + 10 < k → cost_Pass.l1 k (u : Int) (r : Int) (b : Int) (i : Int) = some (rN d u r : Int) := by
  induction d with
  | zero =>
    intro k i r hd hi hr hk
    obtain ⟨k, rfl⟩ : ∃ m, k = m + 1 := ⟨k - 1, by omega⟩
    simp only [cost_Pass.l1]
    rw [if_neg (by omega)]
    rfl
  | succ d ih =>
    intro k i r hd hi hr hk
    obtain ⟨k, rfl⟩ : ∃ m, k = m + 1 := ⟨k - 1, by omega⟩
    have e1 : wrap64 ((i : Int) + 1) = ((i + 1 : Nat) : Int) := by rw [w64 (by omega) (by omega)]; omega
    have e2 : wrap64 (65536 - (u : Int)) = ((65536 - u : Nat) : Int) := by rw [w64 (by omega) (by omega)]; omega
    obtain ⟨s1, s2⟩ := r_step r u hr hu
    simp only [cost_Pass.l1]
    rw [if_pos (by omega), e2, part16_is _ _ k (by omega), bs, e1, cutN_of r (by omega), cutN_of _ (by omega), s1]
    exact ih k (i + 1) _ (by omega) (by omega) s2 (by omega)

theorem pass_l0 (b : Nat) (hb : b ≤ 5) (c : Nat) (hc : c ≤ 1000) (d : Nat) : ∀ (k i u : Nat), c - i = d → i ≤ c → u ≤ 65536 → d + 20 < k → cost_Pass.l0 k (b : Int) (u : Int) 65536 (c : Int) (i : Int) = some (rN b (uN d u) 65536 : Int) := by
  induction d with
  | zero =>
    intro k i u hd hi hu hk
    obtain ⟨k, rfl⟩ : ∃ m, k = m + 1 := ⟨k - 1, by omega⟩
    simp only [cost_Pass.l0]
    rw [if_neg (by omega)]
    exact pass_l1 u hu b hb b k 0 65536 (by omega) (by omega) (by decide) (by omega)
  | succ d ih =>
    intro k i u hd hi hu hk
    obtain ⟨k, rfl⟩ : ∃ m, k = m + 1 := ⟨k - 1, by omega⟩
    have e1 : wrap64 ((i : Int) + 1) = ((i + 1 : Nat) : Int) := by rw [w64 (by omega) (by omega)]; omega
    have e63 : cutN 63 = 63 := cutN_of 63 (by decide)
    have hp : sat_Part.f k (u : Int) 63 64 = some (partN (cutN (u : Int)) (cutN 63) 64 : Int) := part_small (u : Int) 63 64 (by decide) (by decide) (by rw [cutN_of u (by omega), e63]; omega) k
    simp only [cost_Pass.l0]
    rw [if_pos (by omega), hp, bs, e1, cutN_of u (by omega), e63]
    have e : partN u 63 64 = (u * 63 + 63) / 64 := rfl
    rw [e]
    exact ih k (i + 1) _ (by omega) (by omega) (by omega) (by omega)

theorem pass_is (w b keys : Int) (k : Nat) (hk : 1100 < k) : cost_Pass.f k w b keys = some (passN w b keys : Int) := by
  obtain ⟨w0, w1⟩ := cl_range w 4096 (by decide)
  obtain ⟨b0, b1⟩ := cl_range b 5 (by decide)
  have ew : mx 1 (mn w 4096) = (cl w 4096 : Int) := cl_mx w 4096 (by decide)
  have eb : mx 1 (mn b 5) = (cl b 5 : Int) := cl_mx b 5 (by decide)
  have ht : timesN (cl b 5) (cutN keys) ≤ 4611686018427387904 := by unfold timesN; omega
  unfold cost_Pass.f passN
  rw [ew, eb, mul2_is _ _ k (by omega), bs, cutN_of (cl b 5) (by omega), div_is _ _ ht w0 (by omega), bs]
  have ec : mn (upN (timesN (cl b 5) (cutN keys)) (cl w 4096) : Int) 1000 = (cntN (cl w 4096) (cl b 5) keys : Int) := by
    unfold mn cntN
    split <;> omega
  rw [ec]
  exact pass_l0 (cl b 5) b1 (cntN (cl w 4096) (cl b 5) keys) (by unfold cntN; omega) _ k 0 65536 rfl (by omega) (by decide) (by unfold cntN; omega)

theorem rpass_l1 (u : Nat) (hu : u ≤ 65536) (b : Nat) (hb : b ≤ 5) (d : Nat) : ∀ (k i r : Nat), b - i = d → i ≤ b → r ≤ 65536 → d < k → trommelref29_Pass.l1 k (b : Int) (u : Int) (r : Int) (i : Int) = some (rN d u r : Int) := by
  induction d with
  | zero =>
    intro k i r hd hi hr hk
    obtain ⟨k, rfl⟩ : ∃ m, k = m + 1 := ⟨k - 1, by omega⟩
    simp only [trommelref29_Pass.l1]
    rw [if_neg (by omega)]
    rfl
  | succ d ih =>
    intro k i r hd hi hr hk
    obtain ⟨k, rfl⟩ : ∃ m, k = m + 1 := ⟨k - 1, by omega⟩
    have e1 : wrap64 ((i : Int) + 1) = ((i + 1 : Nat) : Int) := by rw [w64 (by omega) (by omega)]; omega
    have e2 : wrap64 (65536 - (u : Int)) = ((65536 - u : Nat) : Int) := by rw [w64 (by omega) (by omega)]; omega
    obtain ⟨_, s2⟩ := r_step r u hr hu
    have h : r * (65536 - u) ≤ 65536 * 65536 := Nat.mul_le_mul hr (by omega)
    have ih2 := ih k (i + 1) _ (by omega) (by omega) s2 (by omega)
    simp only [trommelref29_Pass.l1]
    rw [if_pos (by omega), e2, mulN]
    have e3 : rN (d + 1) u r = rN d u ((r * (65536 - u) + 65535) / 65536) := rfl
    rw [e3]
    generalize r * (65536 - u) = p at *
    rw [w64 (n := (p : Int)) (by omega) (by omega), w64 (n := (p : Int) + 65535) (by omega) (by omega), Int.tdiv_eq_ediv_of_nonneg (by omega), show ((p : Int) + 65535) / 65536 = (((p + 65535) / 65536 : Nat) : Int) by omega, w64 (by omega) (by omega), e1]
    exact ih2

theorem rpass_l0 (b : Nat) (hb : b ≤ 5) (c : Nat) (hc : c ≤ 1000) (d : Nat) : ∀ (k i u : Nat), c - i = d → i ≤ c → u ≤ 65536 → d + 10 < k → trommelref29_Pass.l0 k (b : Int) (c : Int) (u : Int) 65536 (i : Int) = some (rN b (uN d u) 65536 : Int) := by
  induction d with
  | zero =>
    intro k i u hd hi hu hk
    obtain ⟨k, rfl⟩ : ∃ m, k = m + 1 := ⟨k - 1, by omega⟩
    simp only [trommelref29_Pass.l0]
    rw [if_neg (by omega)]
    exact rpass_l1 u hu b hb b k 0 65536 (by omega) (by omega) (by decide) (by omega)
  | succ d ih =>
    intro k i u hd hi hu hk
    obtain ⟨k, rfl⟩ : ∃ m, k = m + 1 := ⟨k - 1, by omega⟩
    have e1 : wrap64 ((i : Int) + 1) = ((i + 1 : Nat) : Int) := by rw [w64 (by omega) (by omega)]; omega
    simp only [trommelref29_Pass.l0]
    rw [if_pos (by omega), e1, w64 (n := (u : Int) * 63) (by omega) (by omega), w64 (n := (u : Int) * 63 + 63) (by omega) (by omega), Int.tdiv_eq_ediv_of_nonneg (by omega), show ((u : Int) * 63 + 63) / 64 = (((u * 63 + 63) / 64 : Nat) : Int) by omega, w64 (by omega) (by omega)]
    exact ih k (i + 1) _ (by omega) (by omega) (by omega) (by omega)

theorem rpass_is (w b keys : Int) (k : Nat) (hk : 1100 < k) : trommelref29_Pass.f k w b keys = some (passN w b keys : Int) := by
  obtain ⟨w0, w1⟩ := cl_range w 4096 (by decide)
  obtain ⟨b0, b1⟩ := cl_range b 5 (by decide)
  have ew : trommelref29_within.f w 1 4096 = some (cl w 4096 : Int) := within_is w 4096 (by decide)
  have eb : trommelref29_within.f b 1 5 = some (cl b 5 : Int) := within_is b 5 (by decide)
  have ht : timesN (cl b 5) (cutN keys) ≤ 4611686018427387904 := by unfold timesN; omega
  unfold trommelref29_Pass.f passN
  rw [ew, bs, eb, bs, rtimes_is _ _ k (by omega), bs, cutN_of (cl b 5) (by omega), rdiv_is _ _ ht w0 (by omega), bs]
  have ec : trommelref29_within.f (upN (timesN (cl b 5) (cutN keys)) (cl w 4096) : Int) 0 1000 = some (cntN (cl w 4096) (cl b 5) keys : Int) := by
    unfold trommelref29_within.f cntN
    rw [if_neg (by omega)]
    split
    · congr 1; omega
    · congr 1; omega
  rw [ec, bs]
  exact rpass_l0 (cl b 5) b1 (cntN (cl w 4096) (cl b 5) keys) (by unfold cntN; omega) _ k 0 65536 rfl (by omega) (by decide) (by unfold cntN; omega)


def gainN (rows pass : Int) : Nat := cutN rows - partN (cutN rows) (cutN pass) 65536
theorem partN_le (n m d : Nat) (hd : 0 < d) : partN n m d ≤ n := by
  unfold partN
  split
  · exact Nat.le_refl _
  · rename_i h
    have h2 : n * m ≤ d * n := by rw [Nat.mul_comm d n]; exact Nat.mul_le_mul_left n (by omega)
    have h3 : (n * m + (d - 1)) / d ≤ (d * n + (d - 1)) / d := Nat.div_le_div_right (by omega)
    rw [Nat.mul_add_div hd, Nat.div_eq_of_lt (show d - 1 < d by omega)] at h3
    exact h3
theorem partN_mono (n m m2 d : Nat) (hd : 0 < d) (h : m ≤ m2) : partN n m d ≤ partN n m2 d := by
  by_cases c : m2 ≥ d
  · have e : partN n m2 d = n := by unfold partN; rw [if_pos c]
    rw [e]
    exact partN_le n m d hd
  · unfold partN
    rw [if_neg c, if_neg (by omega)]
    refine Nat.div_le_div_right ?_
    have := Nat.mul_le_mul_left n h
    omega
theorem gain_is (a b : Int) (k : Nat) (hk : 10 ≤ k) : cost_Gain.f k a b = some (gainN a b : Int) := by
  have h1 := cutN_le a
  have h2 := partN_le (cutN a) (cutN b) 65536 (by decide)
  unfold cost_Gain.f gainN
  rw [cut_is, bs, part16_is a b k hk, bs, w64 (by omega) (by omega)]
  congr 1
  omega
theorem cutN_mono {a b : Int} (h : a ≤ b) : cutN a ≤ cutN b := by
  unfold cutN
  split <;> split <;> (try split) <;> (try split) <;> omega

theorem live29 (k : Nat) (hk : 1100 < k) : trommellaw29_live.f k = some true := by
  have p0 : passN 1 1 0 = 0 := by decide +kernel
  have p1 : passN 1 1 1 = 1024 := by decide +kernel
  have g0 : gainN 100 32768 = 50 := by decide +kernel
  unfold trommellaw29_live.f
  rw [pass_is 1 1 0 k hk, bs, p0, if_pos (show ((0 : Nat) : Int) = 0 from rfl), pass_is 1 1 1 k hk, bs, p1, if_pos (show ((1024 : Nat) : Int) = 1024 from rfl), gain_is 100 32768 k (by omega), bs, g0]
  rfl

theorem uN_le (c : Nat) : ∀ u, uN c u ≤ u := by
  induction c with
  | zero => intro u; exact Nat.le_refl _
  | succ c ih =>
    intro u
    have h := ih ((u * 63 + 63) / 64)
    have h2 : (u * 63 + 63) / 64 ≤ u := by omega
    exact Nat.le_trans h h2
theorem uN_mono (c : Nat) : ∀ u v, u ≤ v → uN c u ≤ uN c v := by
  induction c with
  | zero => intro u v h; exact h
  | succ c ih =>
    intro u v h
    exact ih _ _ (by omega)
theorem uN_anti (c : Nat) : ∀ d u, c ≤ d → uN d u ≤ uN c u := by
  induction c with
  | zero => intro d u _; exact uN_le d u
  | succ c ih =>
    intro d u h
    obtain ⟨d, rfl⟩ : ∃ e, d = e + 1 := ⟨d - 1, by omega⟩
    exact ih d _ (by omega)
theorem rN_mono (b : Nat) : ∀ u v r s, u ≤ v → s ≤ r → rN b v s ≤ rN b u r := by
  induction b with
  | zero => intro u v r s _ h; exact h
  | succ b ih =>
    intro u v r s h1 h2
    refine ih u v _ _ h1 ?_
    refine Nat.div_le_div_right ?_
    have : s * (65536 - v) ≤ r * (65536 - u) := Nat.mul_le_mul h2 (by omega)
    omega
theorem rN_le (b : Nat) : ∀ u r, r ≤ 65536 → rN b u r ≤ 65536 := by
  induction b with
  | zero => intro u r h; exact h
  | succ b ih =>
    intro u r h
    have h2 : r * (65536 - u) ≤ r * 65536 := Nat.mul_le_mul_left r (by omega)
    exact ih u _ (by omega)
theorem cl_mono (x y : Int) (hi : Nat) (h : x ≤ y) (h1 : 1 ≤ hi) : cl x hi ≤ cl y hi := by
  unfold cl
  split <;> split <;> (try split) <;> (try split) <;> omega
theorem upN_mono (a b w : Nat) (h : a ≤ b) : upN a w ≤ upN b w := by
  unfold upN
  exact Nat.div_le_div_right (by omega)
theorem upN_anti (a w v : Nat) (hw : 1 ≤ w) (h : w ≤ v) : upN a v ≤ upN a w := by
  by_cases c : a = 0
  · subst c
    unfold upN
    rw [Nat.div_eq_of_lt (by omega)]
    exact Nat.zero_le _
  · rw [upN_two a v (by omega) (by omega), upN_two a w (by omega) (by omega)]
    have := Nat.div_le_div_left h (show 0 < w by omega) (a := a - 1)
    omega
theorem pass_keys (w b x y : Int) (h : x ≤ y) : passN w b x ≤ passN w b y := by
  unfold passN
  refine rN_mono _ _ _ _ _ (uN_anti _ _ _ ?_) (Nat.le_refl _)
  unfold cntN
  have h2 : timesN (cl b 5) (cutN x) ≤ timesN (cl b 5) (cutN y) := by
    have := Nat.mul_le_mul_left (cl b 5) (cutN_mono h)
    unfold timesN
    omega
  have := upN_mono _ _ (cl w 4096) h2
  omega
theorem pass_words (v w b x : Int) (h : w ≤ v) : passN v b x ≤ passN w b x := by
  unfold passN
  refine rN_mono _ _ _ _ _ (uN_anti _ _ _ ?_) (Nat.le_refl _)
  unfold cntN
  have := upN_anti (timesN (cl b 5) (cutN x)) (cl w 4096) (cl v 4096) (cl_range w 4096 (by decide)).1 (cl_mono w v 4096 h (by decide))
  omega

theorem CostPasses : trommellaw29_CostPasses.Pure := by
  intro w b x m _ _ _ _
  refine ⟨2000, ?_⟩
  have hle : passN w b x ≤ 65536 := rN_le _ _ _ (Nat.le_refl _)
  unfold trommellaw29_CostPasses.f
  rw [pass_is w b x 2000 (by omega), bs, rpass_is w b x 2000 (by omega), bs, if_pos rfl, if_neg (by omega), decide_eq_false (by omega)]
  have e : (2000 : Nat) = 1999 + 1 := rfl
  rw [e]
  simp only [trommellaw29_CostPasses.j0, Bool.false_eq_true, if_false]
  rw [pass_is w b m 1999 (by omega), bs, pass_is m b x 1999 (by omega), bs, live29 1999 (by omega), bs]
  by_cases c : m ≥ x
  · have h1 := pass_keys w b x m c
    rw [if_pos c, if_neg (by omega)]
    by_cases d : m ≥ w
    · have h2 := pass_words m w b x d
      rw [if_pos d, if_neg (by omega)]
    · rw [if_neg d]
  · rw [if_neg c]
    by_cases d : m ≥ w
    · have h2 := pass_words m w b x d
      rw [if_pos d, if_neg (by omega)]
    · rw [if_neg d]

end Go.Proofs.Ytkoeeplplmiikaa.Pure
