-- Written by wip/pack.py, a program of mine: the texts that this law stands on, as far as it uses them; Lean checks it.
import Derived.Test.YtcfgjaggccnoaaaDoorProg
import Derived.Shelf.LaysM
import Derived.Shelf.Strconv.Itoa3
import Derived.Below
import Derived.Deep.Draws
import Derived.Deep.AppendLies
import Derived.Maps.AppendAt
import Derived.OwnWalk
import Derived.Laws.BytesArg
import Derived.Laws.MakeOwn
import Derived.Laws.OwnMore
import Derived.Deep.OwnRows
import Derived.Tactics
import Derived.Lib.ConvBytes
import Derived.Laws.Slices
import Derived.WalkKit
import Derived.KernelRfl
import Derived.RowKit3
import Derived.Deep.LoopGhost
import Derived.Deep.QuietTactic
import Derived.BigQuiet
import Derived.WideLaws
import Derived.Deep.DeepCutAuto
import Derived.Deep.CutBlock
import Derived.Deep.RegionHeld3
import Derived.Laws.Rows
import Derived.Lib.AppendStr
import Derived.ArgAppend
import Derived.Laws.IdiomCopy
import Derived.RowKit
import Derived.OrdersHeld
import Derived.Laws.BitsLemmas
import Derived.Laws.StructEq
import Derived.Lib.BitFns
import Derived.Lib.ItoaMem
import Derived.Lib.LaidTab
import Derived.Lib.Slices
import Derived.Lib.Small
import Derived.Lib.SmallJoins
import Derived.Lib.Strings
import Derived.Lib.Walk
import Derived.Laws.Cover1
import Derived.Lib.SliceRun
import Derived.StillTailTactics
import Derived.LoopTactic
import Derived.RangeFuncNested
import Derived.RangeFuncBound
import Derived.RangeFuncCalls
import Derived.RangeFuncLeaves
import Derived.OwnWalkIn
import Derived.TacticsInMore
import Derived.LoopNIn
import Derived.LoopIn
import Derived.OrdersIn
import Derived.Lib.ItoaNum
import Derived.Lib.ItoaLen
import Derived.ChangeSlices
import Derived.ChangeOld
import Derived.SizedLaws
import Derived.ProofKit
import Derived.OpenShut
import Derived.Carry
import Derived.Test.YtcfgjaggccnoaaaDoorZTableNils3
namespace Go.Proofs.YtcfgjaggccnoaaaDoor.PTableSteps
open Go.RowKit Go.Proofs.YtcfgjaggccnoaaaDoorW.PrintWords Go.Proofs.YtcfgjaggccnoaaaDoorW.PrintLast Go.Proofs.YtcfgjaggccnoaaaDoorW.PrintMore
attribute [local go_sem] max2_int min2_int max_two min_two max_three min_three max_four min_four
set_option linter.unusedVariables false
set_option linter.unusedSimpArgs false
set_option maxRecDepth 100000
set_option maxHeartbeats 4000000
attribute [local go_sem] Oper.semAt_some
theorem keys_any {w : World} {base gT gB : Nat} {S D : Nat → Prop} {T : Tb} {v : Nat → Value} (h : TB w base S D gT T gB v) (l3 : (T.ch T.n).length ≤ 1000000) (l4 : ∀ p, p ∈ T.ch T.n → p.f0.length ≤ 1000 ∧ p.f1.length ≤ 1000) {kk : Nat} {pr : List S23 → Bool} (hm : ∀ p : List S23, p.length ≤ 1000 → sift_Whole.f kk p = some (pr p)) :
    Calls Tryd.prog 33 #[.pointer (some ⟨gT, 0, none⟩)] w (KeyD w (((T.ch T.n).filter fun p => pr p.f0).map (·.f0))) := by
  obtain ⟨A1, c1, ev⟩ := h.sl T.n (Nat.le_refl _)
  have hN := Kd.N_mono (ok' := fun k => k < w.heap.size) (Kd.N_bound (h.ch T.n (Nat.le_refl _))) fun k hk => hk.2
  rw [ev] at hN
  obtain ⟨es, g', hes, hrw⟩ := chain_es hN l4
  have hel : es.length = (T.ch T.n).length := by have := congrArg List.length hes; rwa [List.length_map] at this
  have hg := h.tb
  unfold tcells at hg
  rw [ev, ← hel] at hg
  obtain ⟨w2, hw2⟩ : ∃ w2, w2 = w.alloc (.cells #[.slice none 0 0] 26) := ⟨_, rfl⟩
  have bb2 : Below w.heap.size w w2 := by rw [hw2]; exact below_alloc (Below.refl _ _) _
  have z2 : w2.heap.size = w.heap.size + 1 := by rw [hw2, World.size_alloc]
  have k2 : w2.heap[w.heap.size]? = some (.cells #[.slice none 0 0] 26 (0, 0)) := by rw [hw2]; exact blk_new w _
  obtain ⟨a0, a1, a2, a3, f0, f1, f2, f3⟩ := bw4_ (blk_below hg bb2)
  have HB := Lib.hid bb2; have HK2 := Lib.hid k2; have HG := Lib.hid hg
  have HL := Lib.hid (And.intro (show es.length ≤ 1000000 by rw [hel]; exact l3) hel); have HM := Lib.hid hm; have HRW := Lib.hid hrw; have HES := Lib.hid hes; have HZ2 := Lib.hid z2
  clear h l3 l4 hm ev hN hrw hel hg bb2 k2 hes z2
  refine (callsIn_wide (n := 3)).1 ?_
  refine callsIn_of_wp_marks Tryd.func33 rfl trivial ?_ rfl
  simp only [Tryd.ntmps33, List.size_toArray, List.length_cons, List.length_nil, Nat.reduceAdd, Nat.reduceSub, Array.replicate_succ, Array.replicate_zero, List.push_toArray, List.append_toArray, List.nil_append, List.cons_append]
  rw [hw2] at a0 a1 a2 a3 f0 f1 f2 f3
  gi_wp2_with (refine ⟨trivial, ?_⟩; gi_at_call 74; (try rw [← hw2]); refine (callsIn_wide.2 (all_any w2 gT 2 75 #[])).mono ?_; rintro r' W0 ⟨b1, b2, rfl, q1, q2, b4⟩; have B4 := Lib.hid b4; have Q1 := Lib.hid q1; have Q2 := Lib.hid q2; clear b4 q1 q2)
  have bW : Below w2.heap.size w2 W0 := B4.out
  have bW0 : Below w.heap.size w W0 := below_step HB.out bW
  have hz2 := HZ2.out
  have hzW : w.heap.size + 1 ≤ W0.heap.size := by have := bW.size; omega
  have kk2 := Lib.hid (blk_below HK2.out bW)
  have HZ : Hid (w.heap.size ≤ W0.heap.size ∧ w.heap.size < W0.heap.size) := Lib.hid ⟨by omega, by omega⟩
  have H0 : Hid (Res W0.heap.size w.heap.size [] W0) := Lib.hid ⟨_, kk2.out, Kd.R_nil _ _ _ _ _⟩
  have HB0 := Lib.hid bW0
  have qh1 : Hid (∀ j x, es[j]? = some x → A1 = some ⟨g', 0, none⟩ ∧ (g' < W0.heap.size ∧ g' ≠ w.heap.size) ∧ W0.cell? ⟨g', j * 2, none⟩ = some (.slice x.A0 x.e.f0.length x.c0) ∧ W0.cell? ⟨g', j * 2 + 1, none⟩ = some (.slice x.A1 x.e.f1.length x.c1)) := Lib.hid fun j x hx => by
    obtain ⟨h1, h2, h3, h4⟩ := HRW.out j x hx
    have h5 := h2.2
    exact ⟨h1, ⟨by omega, by omega⟩, (bW0.cell (p := ⟨g', j * 2, none⟩) h5).trans h3, (bW0.cell (p := ⟨g', j * 2 + 1, none⟩) h5).trans h4⟩
  have qh2 : Hid (∀ (x : Ent w fun k => k < w.heap.size) (W1 : World), KpG (fun k => k < W0.heap.size ∧ k ≠ w.heap.size) W0 W1 → Calls Tryd.prog 75 (#[x.val] ++ #[]) W1 fun e W2 => e = .returned (.bool (pr x.e.f0)) ∧ Below W1.heap.size W1 W2) := Lib.hid fun x W1 hk => by
    have hb : Below w.heap.size w W1 := bW0.trans (hk.below fun k hk => ⟨by omega, by omega⟩)
    have r := Ent.reads (fun k hk => hk) x hb
    rw [show #[x.val] ++ (#[] : Array Value) = #[x.val] by simp]
    exact kys1_any r.1.1 r.1.2 (HM.out x.e.f0 x.b0)
  have g2 : b2 < W0.heap.size ∧ b2 ≠ w.heap.size := ⟨blk_lt Q2.out, fun e => by have h1 := Q2.out; rw [e, kk2.out] at h1; cases h1⟩
  have hcs := blk_below HG.out bW0
  have hz3 : w.heap.size ≤ w.heap.size := Nat.le_refl _

  refine wpIn_rangeFunc_ownH rfl (by decide) (gf := 116) (lb := #[.pointer (some ⟨b1, 0, none⟩), .pointer (some ⟨b2, 0, none⟩)]) rfl trivial (enters_of Tryd.func116 (by kernel_rfl) rfl)
    (all_stops (w := w) (D := fun k => k < w.heap.size) (G := fun k => k < W0.heap.size ∧ k ≠ w.heap.size) 2 b1 b2 gT 2 102 g' (by decide) 75 #[] (enters_of Tryd.func75 (by kernel_rfl) rfl) (fun x => pr x.e.f0) es HL.out.1 (fun k hk => hk.1) Q1.out Q2.out g2 hcs rfl qh1.out qh2.out) KpG.trans (kpg_b (by intro k hk; exact hk.1)) (Below.refl _ _) (fun _ => rfl)
    (InvR w W0 w.heap.size fun x => x.e.f0) (fun _ _ _ => False)
    (InvR.own HZ.out.1)
    (fun _ _ _ _ _ hs _ _ => hs) ⟨⟨H0.out, Nat.le_refl _⟩, HB0.out⟩
    (fun x a' W => ∃ (bx : Nat) (u0 u1 u2 u5 u6 u7 u8 u9 u10 u11 u12 u13 u14 u15 u16 u17 u18 : Value), W.heap[bx]? = some (.cells #[.slice x.A0 x.e.f0.length x.c0, .slice x.A1 x.e.f1.length x.c1] 116 (0, 0)) ∧ a' = { tmps := #[u0, u1, u2, .pointer (some ⟨w.heap.size, 0, none⟩), .pointer (some ⟨bx, 0, none⟩), u5, u6, u7, u8, u9, u10, u11, u12, u13, u14, u15, u16, u17, u18], defers := [] })
    (fun x a' _ X Y row hs hg hr => by
      obtain ⟨bx, u0, u1, u2, u5, u6, u7, u8, u9, u10, u11, u12, u13, u14, u15, u16, u17, u18, h1, h2⟩ := hs
      refine ⟨bx, _, _, _, _, _, _, _, _, _, _, _, _, _, _, _, _, _, (hg.block bx (blk_lt h1) fun e => ?_).trans h1, h2⟩
      obtain ⟨_, o, ho, hc⟩ := hr bx e.symm
      rw [h1] at ho
      cases ho
      cases hc)
    ?assign ?body ?done ?stop
  case assign =>
    rintro l pre x W K ⟨⟨hRs, hS⟩, hB⟩ hK
    have hb := blk_new W (.cells #[.slice x.A0 x.e.f0.length x.c0, .slice x.A1 x.e.f1.length x.c1] 116)
    have hbl : Below W.heap.size W (W.alloc (.cells #[.slice x.A0 x.e.f0.length x.c0, .slice x.A1 x.e.f1.length x.c1] 116)) := below_alloc (Below.refl _ _) _
    have q1 := Lib.hid (hRs.below hbl); have q2 := Lib.hid (below_step hB hbl); have q3 := Lib.hid hb
    have q4 := Lib.hid hbl; have HK := Lib.hid hK; have q5 := Lib.hid hS
    clear hRs hB hb hbl hK hS
    simp only [Ent.val]
    gi_wp2
    exact HK.out _ _ ((KeepsOthers.alloc _ _).from _) (KpG.of_below q4.out fun k hk => Nat.lt_of_lt_of_le hk.1 q5.out) ⟨⟨q1.out, Nat.le_trans q5.out q4.out.size⟩, q2.out⟩ ⟨_, _, _, _, _, _, _, _, _, _, _, _, _, _, _, _, _, _, q3.out, rfl⟩
  case body =>
    rintro l pre x a' W hl ⟨r, hr⟩ ⟨⟨hRs, hS⟩, hB⟩ ⟨bx, u0, u1, u2, u5, u6, u7, u8, u9, u10, u11, u12, u13, u14, u15, u16, u17, u18, hx, rfl⟩ hlt
    refine body33_ (w := w) (D := fun k => k < w.heap.size) (bl := w.heap.size) (n1 := W0.heap.size) (rows := pre.map (·.e.f0)) (fun k hk => hk) hRs hB hx HZ.out.2 hS (by rw [List.length_map]; have := HL.out.1; omega) x.b0 ?_ ?_ ?_
    · rintro ⟨a, w', h⟩; exact h
    · intro c a w h; exact h
    · intro a W' hq
      exact ⟨hq.2.2.2, hq.2.2.1, ⟨by rw [List.map_append]; exact hq.1, Nat.le_trans hS hq.2.2.1.1.size⟩, hB.trans (hq.2.1.mono hz3)⟩
  case done =>
    rintro D xs W hD rfl ⟨⟨hRs, hS⟩, hB⟩ hK
    obtain ⟨v1, hv, hR⟩ := hRs
    obtain ⟨C0, e0', hv1⟩ := Kd.R_slice hR
    subst hv1
    obtain ⟨m0, n0⟩ := bw1_ hv
    have HRR := Lib.hid (And.intro hv hR); have HBW := Lib.hid hB; have HSS := Lib.hid hS
    clear hv hR hB hS
    gi_wp2
    refine ⟨by simp, .inl ⟨_, _, rfl, run_takeDeferred hK, ?_⟩⟩
    have hR2 : Kd.R (Kd.slice 23 k23) 24 (W.putObj D (.deferred none)) W0.heap.size (fun _ => True) _ _ := Kd.R_mono (Kd.R_step (Kd.R_bound HRR.out.2) fun k hk _ => World.putObj_heap_other fun e => by
      obtain ⟨_, _, _, q, _, cs, hc⟩ := hk
      rw [e, hK] at hc
      cases hc) fun _ _ => trivial
    have er : (es.filter fun x => pr x.e.f0).map (·.e.f0) = ((T.ch T.n).filter fun p => pr p.f0).map (·.f0) := by
      rw [← HES.out, List.filter_map, List.map_map]
      rfl
    refine ⟨_, results_tmp rfl _ _ _, _, rfl, ?_, HBW.out.trans (belowK_b (w := W0) HZ.out.1 W D _ _ hD hK rfl rfl)⟩
    rw [er] at hR2
    have hR3 := Kd.R_lower hR2 HZ.out.1
    simpa [← er] using hR3
  case stop =>
    rintro D c pre W _ _ h _
    exact h.elim
end Go.Proofs.YtcfgjaggccnoaaaDoor.PTableSteps
namespace Go.Proofs.YtcfgjaggccnoaaaDoor.PTableSteps
open Go.RowKit Go.Proofs.YtcfgjaggccnoaaaDoorW.PrintWords Go.Proofs.YtcfgjaggccnoaaaDoorW.PrintLast Go.Proofs.YtcfgjaggccnoaaaDoorW.PrintMore
attribute [local go_sem] max2_int min2_int max_two min_two max_three min_three max_four min_four
set_option linter.unusedVariables false
set_option linter.unusedSimpArgs false
set_option maxRecDepth 100000
set_option maxHeartbeats 4000000
section
variable {w : World} {base gT gB : Nat} {S D : Nat → Prop} {T : Tb} {v : Nat → Value}
theorem put_nil (w : World) (A A' : Option Addr) (n n' c c' : Nat) : Calls Tryd.prog 39 #[.pointer none, .slice A n c, .slice A' n' c'] w fun r w' => r = .returned (.int .i64 9) ∧ w' = w := by
  go_enter Tryd.func39, Tryd.ntmps39
  go_wp2
  go_ret
  exact ⟨rfl, rfl⟩
theorem find_nil (w : World) (A : Option Addr) (n c : Nat) : Calls Tryd.prog 37 #[.pointer none, .slice A n c] w fun r w' => r = .returned (.tuple #[.slice none 0 0, .int .i64 9]) ∧ Below w.heap.size w w' := by
  go_enter Tryd.func37, Tryd.ntmps37
  go_wp2
  go_ret2
  exact ⟨rfl, below_alloc (Below.refl _ _) _⟩
theorem keys_nil (w : World) : Calls Tryd.prog 33 #[.pointer none] w fun r w' => r = .returned (.slice none 0 0) ∧ w' = w := by
  go_enter Tryd.func33, Tryd.ntmps33
  go_wp2
  go_ret
  exact ⟨rfl, rfl⟩
#print axioms find_any
#print axioms keys_any
end
end Go.Proofs.YtcfgjaggccnoaaaDoor.PTableSteps
namespace Go.Proofs.YtcfgjaggccnoaaaDoor.PTableSteps
open Go.RowKit Go.Proofs.YtcfgjaggccnoaaaDoorW.PrintWords Go.Proofs.YtcfgjaggccnoaaaDoorW.PrintLast Go.Proofs.YtcfgjaggccnoaaaDoorW.PrintMore
attribute [local go_sem] max2_int min2_int max_two min_two max_three min_three max_four min_four
set_option linter.unusedVariables false
set_option linter.unusedSimpArgs false
set_option maxRecDepth 100000
set_option maxHeartbeats 4000000
theorem bs {α β : Type} (a : α) (f : α → Option β) : (some a).bind f = f a := (Option.bind_some a f).trans (Eq.refl _)
theorem u64_wrap (n : Int) : IntKind.u64.wrap n = n % 18446744073709551616 := by
  simp [IntKind.wrap, IntKind.bits, IntKind.signed]
theorem u64_range (n : Int) : 0 ≤ IntKind.u64.wrap n ∧ IntKind.u64.wrap n < 18446744073709551616 := by
  rw [u64_wrap]; omega
theorem w64 {n : Int} (h0 : -9223372036854775808 ≤ n) (h1 : n < 9223372036854775808) : wrap64 n = n := by
  unfold wrap64; omega
theorem bits_u64 (op : BinOp) (x y : Int) : 0 ≤ Go.bits op .u64 x y ∧ Go.bits op .u64 x y < 18446744073709551616 := by
  unfold Go.bits
  exact u64_range _
theorem mix_some (a : Int) : ∃ r, hash_Mix.f a = some r ∧ 0 ≤ r ∧ r < 18446744073709551616 :=
  ⟨_, rfl, (bits_u64 _ _ _).1, (bits_u64 _ _ _).2⟩
theorem start_is (seed : Int) : hash_Start.f seed = hash_Mix.f (IntKind.u64.wrap ((IntKind.u64.wrap (seed)) + 2685821657736338717)) := by
  unfold hash_Start.f
  generalize hash_Mix.f (IntKind.u64.wrap ((IntKind.u64.wrap (seed)) + 2685821657736338717)) = o
  cases o <;> rfl
theorem byte_some (h b : Int) : ∃ r, hash_Byte.f h b = some r ∧ 0 ≤ r ∧ r < 18446744073709551616 :=
  ⟨_, rfl, (u64_range _).1, (u64_range _).2⟩
theorem xor_top (n : Nat) (h : n < 18446744073709551616) : n ^^^ 9223372036854775808 = (n + 9223372036854775808) % 18446744073709551616 := by
  rw [show (9223372036854775808 : Nat) = 2 ^ 63 from rfl, show (18446744073709551616 : Nat) = 2 ^ 64 from rfl, Nat.add_comm] at *
  apply Nat.eq_of_testBit_eq
  intro i
  rw [Nat.testBit_xor, Nat.testBit_mod_two_pow]
  rcases Nat.lt_trichotomy i 63 with c | c | c
  · rw [Nat.testBit_two_pow_add_gt c, Nat.testBit_two_pow_of_ne (by omega)]
    simp
    omega
  · subst c
    rw [Nat.testBit_two_pow_add_eq, Nat.testBit_two_pow_self]
    simp
  · rw [Nat.testBit_two_pow_of_ne (by omega), Nat.testBit_lt_two_pow (Nat.lt_of_lt_of_le h (Nat.pow_le_pow_right (by decide) (by omega)))]
    simp
    intro h64
    omega
theorem bits_top (u : Int) (h0 : 0 ≤ u) (h1 : u < 18446744073709551616) : Go.bits .xor .u64 u 9223372036854775808 = IntKind.u64.wrap (u + 9223372036854775808) := by
  obtain ⟨n, rfl⟩ := Int.eq_ofNat_of_zero_le h0
  have e := xor_top n (by omega)
  have hn : n % 2 ^ IntKind.u64.bits = n := Nat.mod_eq_of_lt (by show n < 18446744073709551616; omega)
  have e2 : (9223372036854775808 : Int) = ((9223372036854775808 : Nat) : Int) := rfl
  rw [e2]
  simp only [Go.bits, BitVec.ofInt_natCast, BitVec.toNat_xor, BitVec.toNat_ofNat, hn]
  rw [show (9223372036854775808 : Nat) % 2 ^ IntKind.u64.bits = 9223372036854775808 from rfl, e, u64_wrap, u64_wrap]
  omega
theorem shr_is (x : Int) (m : Nat) (h : m ≤ 64) : shr .u64 x (m : Int) = x / 2 ^ m := by
  unfold shr
  rw [Int.toNat_natCast, show min m IntKind.u64.bits = m from Nat.min_eq_left h]
theorem strOf_append (a b : List Int) : strOfNums (a ++ b) = strOfNums a ++ strOfNums b := by
  apply ByteArray.ext
  apply Array.ext'
  rw [ByteArray.data_append, Array.toList_append, strOfNums_data, strOfNums_data, strOfNums_data, List.map_append]
def bytes8 (x : Int) : List Int := [x / 72057594037927936 % 256, x / 281474976710656 % 256, x / 1099511627776 % 256, x / 4294967296 % 256, x / 16777216 % 256, x / 65536 % 256, x / 256 % 256, x % 256]
def vkey (a b : Int) (s : ByteArray) : ByteArray := if a = 0 then (⟨#[110]⟩ : ByteArray) else if a = 1 then (⟨#[105]⟩ : ByteArray) ++ strOfNums (bytes8 (IntKind.u64.wrap (b + 9223372036854775808))) else if a = 2 then (⟨#[116]⟩ : ByteArray) ++ s else (⟨#[]⟩ : ByteArray)
theorem key_step (x : Int) (k : Nat) (l : List Int) (i : Nat) (hi : i < 8) (hl : l.length ≤ 9) : val_Key.l0 (k + 1) x l (i : Int) = val_Key.l0 k x (l ++ [x / 2 ^ (56 - 8 * i) % 256]) ((i + 1 : Nat) : Int) := by
  simp only [val_Key.l0]
  have e : wrap64 (56 - wrap64 (8 * (i : Int))) = ((56 - 8 * i : Nat) : Int) := by rw [w64 (n := 8 * (i : Int)) (by omega) (by omega), w64 (by omega) (by omega)]; omega
  rw [if_pos (by omega), e, if_pos (by omega), if_pos (by omega), w64 (n := (i : Int) + 1) (by omega) (by omega), shr_is _ _ (by omega)]
  rfl
theorem key_end (x : Int) (k : Nat) (l : List Int) : val_Key.l0 (k + 1) x l ((8 : Nat) : Int) = some (strOfNums l) := by
  simp only [val_Key.l0]
  rw [if_neg (by omega)]
theorem val_key_is (a b : Int) (s : ByteArray) (hs : s.size ≤ 140737488351232) (k : Nat) (hk : 9 ≤ k) : val_Key.f k a b s = some (vkey a b s) := by
  unfold val_Key.f vkey
  by_cases c0 : a = 0
  · rw [if_pos c0, if_pos c0]
  · rw [if_neg c0, if_neg c0]
    by_cases c1 : a = 1
    · rw [if_pos c1, if_pos c1]
      have hb := u64_range b
      have e : Go.bits .xor .u64 (IntKind.u64.wrap b) 9223372036854775808 = IntKind.u64.wrap (b + 9223372036854775808) := by
        rw [bits_top _ hb.1 hb.2, u64_wrap, u64_wrap, u64_wrap]; omega
      rw [e]
      generalize IntKind.u64.wrap (b + 9223372036854775808) = x
      obtain ⟨k, rfl⟩ : ∃ m, k = m + 9 := ⟨k - 9, by omega⟩
      rw [show (0 : Int) = ((0 : Nat) : Int) from rfl]
      rw [key_step x (k + 8) _ 0 (by omega) (by decide), key_step x (k + 7) _ 1 (by omega) (by simp), key_step x (k + 6) _ 2 (by omega) (by simp), key_step x (k + 5) _ 3 (by omega) (by simp), key_step x (k + 4) _ 4 (by omega) (by simp), key_step x (k + 3) _ 5 (by omega) (by simp), key_step x (k + 2) _ 6 (by omega) (by simp), key_step x (k + 1) _ 7 (by omega) (by simp), key_end]
      have e1 : (⟨#[105]⟩ : ByteArray) = strOfNums [105] := by apply ByteArray.ext; apply Array.ext'; rw [strOfNums_data]; rfl
      rw [e1, ← strOf_append]
      simp [bytes8]
    · rw [if_neg c1, if_neg c1]
      by_cases c2 : a = 2
      · rw [if_pos c2, if_pos c2, if_pos (by omega)]
      · rw [if_neg c2, if_neg c2]
theorem vkey_size (a b : Int) (s : ByteArray) : (vkey a b s).size ≤ s.size + 9 := by
  unfold vkey
  split
  · show 1 ≤ _; omega
  · split
    · rw [ByteArray.size_append]
      have e : (strOfNums (bytes8 (IntKind.u64.wrap (b + 9223372036854775808)))).size = 8 := by simp [strOfNums, ByteArray.size, bytes8]
      rw [e]
      show 1 + 8 ≤ _
      omega
    · split
      · rw [ByteArray.size_append]
        show 1 + _ ≤ _
        omega
      · show 0 ≤ _; omega
theorem text_l0_big (s : ByteArray) (hs : s.size ≤ 140737488355328000) (d : Nat) : ∀ (k : Nat) (h i : Int), 0 ≤ i → i ≤ s.size → (s.size : Int) - i = d → d < k → ∃ r, hash_text.l0 k s h (s.size : Int) i = some r ∧ 0 ≤ r ∧ r < 18446744073709551616 := by
  induction d with
  | zero =>
    intro k h i h0 h1 hd hk
    obtain ⟨k, rfl⟩ : ∃ m, k = m + 1 := ⟨k - 1, by omega⟩
    obtain ⟨r, hr, h2⟩ := mix_some h
    refine ⟨r, ?_, h2⟩
    simp only [hash_text.l0]
    rw [if_neg (by omega), hr, bs]
  | succ d ih =>
    intro k h i h0 h1 hd hk
    obtain ⟨k, rfl⟩ : ∃ m, k = m + 1 := ⟨k - 1, by omega⟩
    obtain ⟨b, hb, _⟩ := byte_some h (bt s i)
    obtain ⟨r, hr, h2⟩ := ih k b (i + 1) (by omega) (by omega) (by omega) (by omega)
    refine ⟨r, ?_, h2⟩
    simp only [hash_text.l0]
    rw [if_pos (by omega), if_pos h0, if_pos (by omega), hb, bs, w64 (by omega) (by omega)]
    exact hr
theorem text_some_big (seed : Int) (s : ByteArray) (hs : s.size ≤ 140737488355328000) (k : Nat) (hk : s.size < k) : ∃ r, hash_text.f k seed s = some r ∧ 0 ≤ r ∧ r < 18446744073709551616 := by
  obtain ⟨h, hh, _⟩ := mix_some (IntKind.u64.wrap ((IntKind.u64.wrap (seed)) + 2685821657736338717))
  obtain ⟨r, hr, h2⟩ := text_l0_big s hs s.size k h 0 (by omega) (by omega) (by omega) hk
  refine ⟨r, ?_, h2⟩
  unfold hash_text.f
  rw [start_is, hh, bs]
  exact hr
theorem emp_app (s : ByteArray) : (⟨#[]⟩ : ByteArray) ++ s = s := by
  apply ByteArray.ext
  apply Array.ext'
  rw [ByteArray.data_append]
  simp
theorem app_emp (s : ByteArray) : s ++ (⟨#[]⟩ : ByteArray) = s := by
  apply ByteArray.ext
  apply Array.ext'
  rw [ByteArray.data_append]
  simp
def rkey : List S23 → ByteArray
  | [] => (⟨#[]⟩ : ByteArray)
  | y :: l => (((⟨(Lib.itoa ((vkey y.f0 y.f1 y.f2).size : Int)).toArray⟩ : ByteArray) ++ (⟨#[58]⟩ : ByteArray)) ++ vkey y.f0 y.f1 y.f2) ++ rkey l
theorem itoa_size (n : Nat) (h : n < 1000000000000000000) : (⟨(Lib.itoa (n : Int)).toArray⟩ : ByteArray).size ≤ 21 := by
  have := Lib.itoa_length_le (n : Int) (by omega) (by omega)
  show (Lib.itoa (n : Int)).toArray.size ≤ 21
  simpa using this
theorem rkey_size (l : List S23) (hs : ∀ y ∈ l, y.f2.size ≤ 140737488351232) : (rkey l).size ≤ l.length * 140737488351300 := by
  induction l with
  | nil => show 0 ≤ _; omega
  | cons y l ih =>
    have h1 := vkey_size y.f0 y.f1 y.f2
    have h2 := hs y (List.mem_cons_self)
    have h3 := itoa_size (vkey y.f0 y.f1 y.f2).size (by omega)
    have h4 := ih (fun z hz => hs z (List.mem_cons_of_mem _ hz))
    have e : (⟨#[58]⟩ : ByteArray).size = 1 := rfl
    rw [rkey, ByteArray.size_append, ByteArray.size_append, ByteArray.size_append, e, List.length_cons, Nat.add_mul]
    omega
theorem rowkey_l0 (l : List S23) (hs : ∀ y ∈ l, y.f2.size ≤ 140737488351232) (hl : l.length ≤ 1000) (d : Nat) : ∀ (k i : Nat) (acc : ByteArray), l.length = i + d → acc.size ≤ i * 140737488351300 → d + 10 ≤ k →
    rows_Key.l0 k acc l (l.length : Int) (i : Int) = some (acc ++ rkey (l.drop i)) := by
  induction d with
  | zero =>
    intro k i acc hd ha hk
    obtain ⟨k, rfl⟩ : ∃ m, k = m + 1 := ⟨k - 1, by omega⟩
    simp only [rows_Key.l0]
    rw [if_neg (by omega), List.drop_eq_nil_of_le (by omega), rkey, app_emp]
  | succ d ih =>
    intro k i acc hd ha hk
    obtain ⟨k, rfl⟩ : ∃ m, k = m + 1 := ⟨k - 1, by omega⟩
    have hi : i < l.length := by omega
    have hy := hs l[i] (List.getElem_mem hi)
    have e : rd_T23 l (i : Int) = l[i] := by
      unfold rd_T23
      rw [Int.toNat_natCast, List.getD_eq_getElem?_getD, List.getElem?_eq_getElem hi]
      rfl
    rw [List.drop_eq_getElem_cons hi, rkey]
    simp only [rows_Key.l0]
    rw [if_pos (by omega), if_pos (by omega), if_pos (by omega), e, val_key_is _ _ _ hy k (by omega), bs]
    have hv := vkey_size l[i].f0 l[i].f1 l[i].f2
    generalize vkey l[i].f0 l[i].f1 l[i].f2 = v at *
    have hz := itoa_size v.size (by omega)
    unfold strconv_Itoa.f
    rw [if_pos (by omega), bs]
    generalize (⟨(Lib.itoa (v.size : Int)).toArray⟩ : ByteArray) = t at *
    have e1 : (⟨#[58]⟩ : ByteArray).size = 1 := rfl
    rw [if_pos (by omega), if_pos (by rw [ByteArray.size_append, e1]; omega), if_pos (by rw [ByteArray.size_append, ByteArray.size_append, e1]; omega), w64 (by omega) (by omega)]
    rw [show (i : Int) + 1 = ((i + 1 : Nat) : Int) by omega]
    rw [ih k (i + 1) _ (by omega) (by rw [ByteArray.size_append, ByteArray.size_append, ByteArray.size_append, e1]; omega) (by omega)]
    simp only [ByteArray.append_assoc]
theorem rows_key_is (l : List S23) (hs : ∀ y ∈ l, y.f2.size ≤ 140737488351232) (hl : l.length ≤ 1000) (k : Nat) (hk : l.length + 10 ≤ k) : rows_Key.f k l = some (rkey l) := by
  unfold rows_Key.f
  rw [show (0 : Int) = ((0 : Nat) : Int) from rfl, rowkey_l0 l hs hl l.length k 0 _ (by omega) (by show 0 ≤ _; omega) hk, List.drop_zero, emp_app]
theorem prow_is (seed : Int) (l : List S23) (hs : ∀ y ∈ l, y.f2.size ≤ 140737488351232) (hl : l.length ≤ 1000) (k : Nat) (hk : l.length + 20 ≤ k) (hk2 : (rkey l).size < k) : ∃ r, hash_Row.f k seed l = some r ∧ 0 ≤ r ∧ r < 18446744073709551616 ∧ hash_text.f k seed (rkey l) = some r := by
  have hz := rkey_size l hs
  obtain ⟨r, hr, h0, h1⟩ := text_some_big seed (rkey l) (by omega) k hk2
  refine ⟨r, ?_, h0, h1, hr⟩
  unfold hash_Row.f
  rw [rows_key_is l hs hl k (by omega), bs, hr, bs]
def rowN (l : List S23) : Nat := (l.map fun y => 1 + y.f2.size).sum
def totN (L : List (List S23)) : Nat := (L.map rowN).sum
theorem rowN_cons (y : S23) (l : List S23) : rowN (y :: l) = 1 + y.f2.size + rowN l := by simp [rowN]
theorem totN_cons (r : List S23) (L : List (List S23)) : totN (r :: L) = rowN r + totN L := by simp [totN]
theorem much_inner (L : List (List S23)) (r : List S23) (i : Nat) (hL : L[i]? = some r) (hr : r.length ≤ 40) (hs : ∀ y ∈ r, y.f2.size ≤ 140737488351232) (hL2 : L.length ≤ 9000000000000000) (d : Nat) : ∀ (k j : Nat) (n : Int), r.length = j + d → 0 ≤ n → n ≤ 2000 + j * 140737488351233 →
    r04_Much.l1 (k + d + 1) L n (i : Int) (j : Int) = if n + rowN (r.drop j) > 2000 then some true else r04_Much.l0 k L (n + rowN (r.drop j)) ((i + 1 : Nat) : Int) := by
  have hi : i < L.length := (List.getElem?_eq_some_iff.1 hL).1
  have hrd : rd_L3 L (i : Int) = r := by
    unfold rd_L3
    rw [Int.toNat_natCast, List.getD_eq_getElem?_getD, hL]
    rfl
  induction d with
  | zero =>
    intro k j n hd h0 h1
    simp only [r04_Much.l1]
    rw [if_pos (show (0 : Int) ≤ (i : Int) by omega), if_pos (show (i : Int) < (L.length : Int) by omega), hrd, if_neg (show ¬ (j : Int) < (r.length : Int) by omega), w64 (n := (i : Int) + 1) (by omega) (by omega)]
    rw [List.drop_eq_nil_of_le (by omega)]
    simp [rowN]
  | succ d ih =>
    intro k j n hd h0 h1
    have hj : j < r.length := by omega
    have hy := hs r[j] (List.getElem_mem hj)
    have e : rd_T23 r (j : Int) = r[j] := by
      unfold rd_T23
      rw [Int.toNat_natCast, List.getD_eq_getElem?_getD, List.getElem?_eq_getElem hj]
      rfl
    obtain ⟨K, hK⟩ : ∃ K, K = k + d + 1 := ⟨_, rfl⟩
    rw [show k + (d + 1) + 1 = K + 1 by omega]
    simp only [r04_Much.l1]
    rw [if_pos (show (0 : Int) ≤ (i : Int) by omega), if_pos (show (i : Int) < (L.length : Int) by omega), hrd, if_pos (show (j : Int) < (r.length : Int) by omega), if_pos (show (0 : Int) ≤ (j : Int) by omega), e]
    rw [w64 (n := n + 1) (by omega) (by omega), w64 (n := n + 1 + (r[j].f2.size : Int)) (by omega) (by omega), w64 (n := (j : Int) + 1) (by omega) (by omega)]
    have h := ih k (j + 1) (n + 1 + (r[j].f2.size : Int)) (by omega) (by omega) (by omega)
    rw [hK, show ((j : Int) + 1) = ((j + 1 : Nat) : Int) by omega, h]
    rw [List.drop_eq_getElem_cons hj, rowN_cons]
    have e2 : n + 1 + (r[j].f2.size : Int) + (rowN (r.drop (j + 1)) : Int) = n + ((1 + r[j].f2.size + rowN (r.drop (j + 1)) : Nat) : Int) := by omega
    rw [e2]
theorem much_outer (L : List (List S23)) (hs : ∀ r ∈ L, ∀ y ∈ r, y.f2.size ≤ 140737488351232) (hL2 : L.length ≤ 9000000000000000) (d : Nat) : ∀ (k i : Nat) (n : Int), 60 ≤ i + d → 0 ≤ n → n ≤ 2000 → d * 44 + 2 ≤ k →
    ∃ b, r04_Much.l0 k L n (i : Int) = some b ∧ (b = false → L.length ≤ 50 ∧ (∀ r ∈ L.drop i, r.length ≤ 40) ∧ n + totN (L.drop i) ≤ 2000) := by
  have stop : ∀ (k i : Nat) (n : Int), n ≤ 2000 → (60 ≤ i ∨ L.length ≤ i) → 2 ≤ k → ∃ b, r04_Much.l0 k L n (i : Int) = some b ∧ (b = false → L.length ≤ 50 ∧ (∀ r ∈ L.drop i, r.length ≤ 40) ∧ n + totN (L.drop i) ≤ 2000) := by
    intro k i n hn hi hk
    obtain ⟨k, rfl⟩ : ∃ m, k = m + 2 := ⟨k - 2, by omega⟩
    refine ⟨decide ((L.length : Int) > 50), ?_, ?_⟩
    · simp only [r04_Much.l0]
      by_cases c : (i : Int) < (L.length : Int)
      · rw [if_pos c]
        have c2 : decide ((i : Int) < 60) = false := by simp; omega
        rw [c2]
        simp only [r04_Much.j1]
        rw [if_neg (by simp)]
      · rw [if_neg c]
        simp only [r04_Much.j1]
        rw [if_neg (by simp)]
    · intro hb
      have h50 : L.length ≤ 50 := by have := of_decide_eq_false hb; omega
      rw [List.drop_eq_nil_of_le (show L.length ≤ i by omega)]
      refine ⟨h50, ?_, ?_⟩
      · intro r hr
        cases hr
      · simpa [totN] using hn
  induction d with
  | zero => exact fun k i n hi h0 h1 hk => stop k i n h1 (by omega) (by omega)
  | succ d ih =>
    intro k i n hi h0 h1 hk
    by_cases c : 60 ≤ i ∨ L.length ≤ i
    · exact stop k i n h1 c (by omega)
    · have hi2 : i < L.length := by omega
      have hLi : L[i]? = some L[i] := List.getElem?_eq_getElem hi2
      have hrd : rd_L3 L (i : Int) = L[i] := by
        unfold rd_L3
        rw [Int.toNat_natCast, List.getD_eq_getElem?_getD, hLi]
        rfl
      obtain ⟨k, rfl⟩ : ∃ m, k = m + 2 := ⟨k - 2, by omega⟩
      have e1 : r04_Much.l0 (k + 2) L n (i : Int) = if (L[i].length : Int) > 40 then some true else r04_Much.l1 k L n (i : Int) 0 := by
        simp only [r04_Much.l0]
        rw [if_pos (show (i : Int) < (L.length : Int) by omega)]
        have c2 : decide ((i : Int) < 60) = true := by simp; omega
        rw [c2]
        simp only [r04_Much.j1]
        rw [if_pos trivial, if_pos (show (0 : Int) ≤ (i : Int) by omega), if_pos (show (i : Int) < (L.length : Int) by omega), hrd]
      rw [e1]
      by_cases c3 : (L[i].length : Int) > 40
      · rw [if_pos c3]
        exact ⟨true, rfl, fun h => by cases h⟩
      · rw [if_neg c3]
        obtain ⟨k2, hk2⟩ : ∃ m, k = m + L[i].length + 1 := ⟨k - L[i].length - 1, by omega⟩
        have h := much_inner L L[i] i hLi (by omega) (hs _ (List.getElem_mem hi2)) hL2 L[i].length k2 0 n (by omega) h0 (by omega)
        rw [hk2, show (0 : Int) = ((0 : Nat) : Int) from rfl, h]
        rw [List.drop_zero]
        by_cases c4 : n + (rowN L[i] : Int) > 2000
        · rw [if_pos c4]
          exact ⟨true, rfl, fun h => by cases h⟩
        · rw [if_neg c4]
          obtain ⟨b, hb, hp⟩ := ih k2 (i + 1) (n + (rowN L[i] : Int)) (by omega) (by omega) (by omega) (by omega)
          refine ⟨b, hb, fun hf => ?_⟩
          obtain ⟨p1, p2, p3⟩ := hp hf
          rw [List.drop_eq_getElem_cons hi2]
          refine ⟨p1, ?_, ?_⟩
          · intro r hr
            rcases List.mem_cons.1 hr with rfl | hr
            · omega
            · exact p2 r hr
          · rw [totN_cons]
            omega
theorem much_is (L : List (List S23)) (hs : ∀ r ∈ L, ∀ y ∈ r, y.f2.size ≤ 140737488351232) (hL2 : L.length ≤ 9000000000000000) (k : Nat) (hk : 3000 ≤ k) :
    ∃ b, r04_Much.f k L = some b ∧ (b = false → L.length ≤ 50 ∧ (∀ r ∈ L, r.length ≤ 40) ∧ totN L ≤ 2000) := by
  obtain ⟨b, hb, hp⟩ := much_outer L hs hL2 60 k 0 0 (by omega) (by omega) (by omega) (by omega)
  refine ⟨b, hb, fun hf => ?_⟩
  obtain ⟨p1, p2, p3⟩ := hp hf
  exact ⟨p1, p2, by rw [List.drop_zero] at p3; omega⟩
def sg (n m : Int) : Int := if n < m then -1 else if n > m then 1 else 0
def lexI : List UInt8 → List UInt8 → Int
  | [], [] => 0
  | [], _ :: _ => -1
  | _ :: _, [] => 1
  | a :: x, b :: y => if a = b then lexI x y else if a < b then -1 else 1
def ord (a b : S23) : Int := if a.f0 = b.f0 then (if a.f1 = b.f1 then lexI a.f2.data.toList b.f2.data.toList else sg a.f1 b.f1) else sg a.f0 b.f0
theorem sg_zero (a b : Int) : sg a b = 0 ↔ a = b := by unfold sg; split <;> (try split) <;> omega
theorem u8_cases (a b : UInt8) : a = b ∨ (a ≠ b ∧ a < b ∧ ¬ b < a) ∨ (a ≠ b ∧ b < a ∧ ¬ a < b) := by
  by_cases h : a = b
  · exact .inl h
  · have hn : a.toNat ≠ b.toNat := fun e => h (UInt8.toNat_inj.1 e)
    rcases Nat.lt_or_gt_of_ne hn with e | e
    · exact .inr (.inl ⟨h, UInt8.lt_iff_toNat_lt.2 e, fun e2 => by have := UInt8.lt_iff_toNat_lt.1 e2; omega⟩)
    · exact .inr (.inr ⟨h, UInt8.lt_iff_toNat_lt.2 e, fun e2 => by have := UInt8.lt_iff_toNat_lt.1 e2; omega⟩)
theorem lexI_less : ∀ x y : List UInt8, lexI x y = if Op.bytesLess x y = true then -1 else if x = y then 0 else 1
  | [], [] => rfl
  | [], _ :: _ => rfl
  | _ :: _, [] => by simp [lexI, Op.bytesLess]
  | a :: x, b :: y => by
    simp only [lexI, Op.bytesLess]
    have ih := lexI_less x y
    rcases u8_cases a b with h | ⟨h, h1, h2⟩ | ⟨h, h1, h2⟩
    · subst h
      rw [if_pos rfl, ih]
      simp
    · rw [if_neg h, if_pos h1]
      simp [h1]
    · rw [if_neg h, if_neg h2]
      simp [h, h2]
theorem cmp_int_is (a b : Int) : cmp_Compare_int.f a b = some (sg a b) := by
  unfold cmp_Compare_int.f cmp_isNaN_int.f sg
  rw [bs, bs]
  have e : ∀ x : Int, (x != x) = false := fun x => by simp
  rw [e, e, if_neg (by simp), if_neg (by simp)]
  split
  · rfl
  · split <;> rfl
theorem cmp_str_is (a b : ByteArray) : cmp_Compare_string.f a b = some (lexI a.data.toList b.data.toList) := by
  unfold cmp_Compare_string.f cmp_isNaN_string.f
  rw [bs, bs]
  have e : ∀ x : List UInt8, (x != x) = false := fun x => by simp
  rw [e, e, if_neg (by simp), if_neg (by simp), lexI_less, ByteArray.toList_eq, ByteArray.toList_eq]
  split
  · rfl
  · split <;> rfl
theorem or3 (a b c : Int) (k : Nat) : cmp_Or_int.f (k + 4) [a, b, c] = some (if a = 0 then (if b = 0 then c else b) else a) := by
  unfold cmp_Or_int.f
  have w1 : wrap64 (0 + 1) = 1 := by decide +kernel
  have w2 : wrap64 (1 + 1) = 2 := by decide +kernel
  have w3 : wrap64 (2 + 1) = 3 := by decide +kernel
  have r0 : rd [a, b, c] 0 = a := rfl
  have r1 : rd [a, b, c] 1 = b := rfl
  have r2 : rd [a, b, c] 2 = c := rfl
  have l : (([a, b, c] : List Int).length : Int) = 3 := rfl
  rw [l]
  have s0 : ∀ i : Int, 0 ≤ i → i < 3 → ∀ m, cmp_Or_int.l0 (m + 1) 0 [a, b, c] 3 i = if rd [a, b, c] i = 0 then cmp_Or_int.l0 m 0 [a, b, c] 3 (wrap64 (i + 1)) else some (rd [a, b, c] i) := by
    intro i h0 h1 m
    simp only [cmp_Or_int.l0]
    rw [if_pos h1, if_pos h0, l, if_pos h1]
  rw [s0 0 (by decide) (by decide), r0, w1, s0 1 (by decide) (by decide), r1, w2, s0 2 (by decide) (by decide), r2, w3]
  have s3 : cmp_Or_int.l0 (k + 1) 0 [a, b, c] 3 3 = some 0 := by
    simp only [cmp_Or_int.l0]
    rw [if_neg (by decide)]
  rw [s3]
  split
  · split
    · split
      · rename_i h
        rw [h]
      · rfl
    · rfl
  · rfl
theorem order_is (a b : S23) (k : Nat) (hk : 4 ≤ k) : val_Order.f k a.f0 a.f1 a.f2 b.f0 b.f1 b.f2 = some (ord a b) := by
  obtain ⟨k, rfl⟩ : ∃ m, k = m + 4 := ⟨k - 4, by omega⟩
  unfold val_Order.f
  rw [cmp_int_is, bs, cmp_int_is, bs, cmp_str_is, bs, or3, bs]
  unfold ord
  by_cases h : a.f0 = b.f0
  · rw [if_pos ((sg_zero _ _).2 h), if_pos h]
    by_cases h1 : a.f1 = b.f1
    · rw [if_pos ((sg_zero _ _).2 h1), if_pos h1]
    · rw [if_neg (fun e => h1 ((sg_zero _ _).1 e)), if_neg h1]
  · rw [if_neg (fun e => h ((sg_zero _ _).1 e)), if_neg h]
theorem get23 (l : List S23) (i : Nat) (h : i < l.length) : rd_T23 l (i : Int) = l[i] := by
  unfold rd_T23
  rw [Int.toNat_natCast, List.getD_eq_getElem?_getD, List.getElem?_eq_getElem h]
  rfl
theorem text_indep (s : ByteArray) (hs : s.size ≤ 140737488355328000) (d : Nat) : ∀ (k1 k2 : Nat) (h i : Int), 0 ≤ i → i ≤ s.size → (s.size : Int) - i = d → d < k1 → d < k2 → hash_text.l0 k1 s h (s.size : Int) i = hash_text.l0 k2 s h (s.size : Int) i := by
  induction d with
  | zero =>
    intro k1 k2 h i h0 h1 hd hk1 hk2
    obtain ⟨k1, rfl⟩ : ∃ m, k1 = m + 1 := ⟨k1 - 1, by omega⟩
    obtain ⟨k2, rfl⟩ : ∃ m, k2 = m + 1 := ⟨k2 - 1, by omega⟩
    simp only [hash_text.l0]
    rw [if_neg (by omega), if_neg (by omega)]
  | succ d ih =>
    intro k1 k2 h i h0 h1 hd hk1 hk2
    obtain ⟨k1, rfl⟩ : ∃ m, k1 = m + 1 := ⟨k1 - 1, by omega⟩
    obtain ⟨k2, rfl⟩ : ∃ m, k2 = m + 1 := ⟨k2 - 1, by omega⟩
    simp only [hash_text.l0, hash_Byte.f]
    rw [if_pos (by omega), if_pos (by omega), if_pos (by omega), if_pos (by omega), if_pos (by omega), if_pos (by omega), bs, bs, w64 (by omega) (by omega)]
    exact ih k1 k2 _ _ (by omega) (by omega) (by omega) (by omega) (by omega)
def rhv (seed : Int) (l : List S23) : Nat := ((hash_text.f ((rkey l).size + 1) seed (rkey l)).getD 0).toNat
theorem phv_is (seed : Int) (l : List S23) (hs : ∀ y ∈ l, y.f2.size ≤ 140737488351232) (hl : l.length ≤ 1000) (k : Nat) (hk : l.length + 20 ≤ k) (hk2 : (rkey l).size < k) : hash_Row.f k seed l = some (rhv seed l : Int) ∧ rhv seed l < 18446744073709551616 := by
  have hz := rkey_size l hs
  obtain ⟨r, e1, h0, h1, e3⟩ := prow_is seed l hs hl k hk hk2
  have e4 : hash_text.f ((rkey l).size + 1) seed (rkey l) = some r := by
    rw [← e3]
    unfold hash_text.f hash_Start.f
    obtain ⟨q, hq, _⟩ := mix_some (IntKind.u64.wrap (IntKind.u64.wrap seed + 2685821657736338717))
    rw [hq, bs, bs, bs]
    exact text_indep _ (by omega) (rkey l).size _ _ _ _ (by omega) (by omega) (by omega) (by omega) (by omega)
  have e5 : (rhv seed l : Int) = r := by
    unfold rhv
    rw [e4]
    show ((r.toNat : Nat) : Int) = r
    omega
  exact ⟨by rw [e5]; exact e1, by omega⟩
end Go.Proofs.YtcfgjaggccnoaaaDoor.PTableSteps
namespace Go.Proofs.YtcfgjaggccnoaaaDoor.PTableSteps
open Go.RowKit Go.Proofs.YtcfgjaggccnoaaaDoorW.PrintWords Go.Proofs.YtcfgjaggccnoaaaDoorW.PrintLast Go.Proofs.YtcfgjaggccnoaaaDoorW.PrintMore
attribute [local go_sem] max2_int min2_int max_two min_two max_three min_three max_four min_four
set_option linter.unusedVariables false
set_option linter.unusedSimpArgs false
set_option maxRecDepth 100000
set_option maxHeartbeats 4000000
theorem lexI_zero : ∀ x y : List UInt8, lexI x y = 0 → x = y
  | [], [], _ => rfl
  | [], _ :: _, h => by simp [lexI] at h
  | _ :: _, [], h => by simp [lexI] at h
  | a :: x, b :: y, h => by
    simp only [lexI] at h
    split at h
    · rename_i e
      rw [e, lexI_zero x y h]
    · split at h <;> omega
theorem ord_zero {a b : S23} (h0 : a.f0 = b.f0) (h : ord a b = 0) : a = b := by
  unfold ord at h
  rw [if_pos h0] at h
  split at h
  · rename_i h1
    have h2 := lexI_zero _ _ h
    cases a; cases b
    simp only at h0 h1 h2
    subst h0 h1
    congr 1
    apply ByteArray.ext
    exact Array.ext' h2
  · rename_i h1
    exact absurd ((sg_zero _ _).1 h) h1
def eqv (a b : S23) : Bool := (a.f0 == b.f0 && (a.f0 == 1 || a.f0 == 2)) && (ord a b == 0)
def mt : List S23 → List S23 → Bool
  | [], [] => true
  | a :: x, b :: y => eqv a b && mt x y
  | _, _ => false
theorem eqv_eq {a b : S23} (h : eqv a b = true) : a = b := by
  simp only [eqv, Bool.and_eq_true, beq_iff_eq] at h
  exact ord_zero h.1.1 h.2
theorem mt_eq : ∀ {x y : List S23}, mt x y = true → x = y
  | [], [], _ => rfl
  | [], _ :: _, h => by simp [mt] at h
  | _ :: _, [], h => by simp [mt] at h
  | a :: x, b :: y, h => by
    simp only [mt, Bool.and_eq_true] at h
    rw [eqv_eq h.1, mt_eq h.2]
theorem mt_len : ∀ {x y : List S23}, x.length ≠ y.length → mt x y = false
  | [], [], h => absurd rfl h
  | [], _ :: _, _ => rfl
  | _ :: _, [], _ => rfl
  | a :: x, b :: y, h => by
    simp only [mt]
    rw [mt_len (by simpa using h), Bool.and_false]
theorem eq_step (a b : S23) (k : Nat) (hk : 4 ≤ k) {β : Type} (f : Bool → Option β) : ((logic_Eq.f k a.f0 a.f1 a.f2 b.f0 b.f1 b.f2).bind fun t => (logic_Is.f t).bind f) = f (eqv a b) := by
  have hc : val_Cmp.f k a.f0 a.f1 a.f2 b.f0 b.f1 b.f2 = if a.f0 = b.f0 then (if a.f0 = 1 then some (ord a b, true) else if a.f0 = 2 then some (ord a b, true) else some (0, false)) else some (0, false) := by
    unfold val_Cmp.f
    rw [order_is a b k hk, bs]
  unfold logic_Eq.f logic_cmp__logic_Eq_1.f logic_Eq_1.f logic_Of.f logic_Is.f
  rw [hc]
  unfold eqv
  by_cases h : a.f0 = b.f0
  · rw [if_pos h, beq_iff_eq.2 h]
    by_cases h1 : a.f0 = 1
    · rw [if_pos h1, bs]
      by_cases h2 : ord a b = 0
      · simp [h1, h2]
      · simp [h1, h2, beq_eq_false_iff_ne.2 h2]
    · rw [if_neg h1]
      by_cases h3 : a.f0 = 2
      · rw [if_pos h3, bs]
        by_cases h2 : ord a b = 0
        · simp [h3, h2]
        · simp [h3, h2, beq_eq_false_iff_ne.2 h2]
      · rw [if_neg h3, bs]
        simp [beq_eq_false_iff_ne.2 h1, beq_eq_false_iff_ne.2 h3]
  · rw [if_neg h, bs]
    simp [beq_eq_false_iff_ne.2 h]
theorem match_l0 (x y : List S23) (he : x.length = y.length) (hl : x.length ≤ 1000) (d : Nat) : ∀ (k i : Nat), x.length = i + d → d + 5 ≤ k → semi_Match.l0 k y x (x.length : Int) (i : Int) = some (mt (x.drop i) (y.drop i)) := by
  induction d with
  | zero =>
    intro k i hd hk
    obtain ⟨k, rfl⟩ : ∃ m, k = m + 1 := ⟨k - 1, by omega⟩
    simp only [semi_Match.l0]
    rw [if_neg (by omega), List.drop_eq_nil_of_le (by omega), List.drop_eq_nil_of_le (by omega)]
    rfl
  | succ d ih =>
    intro k i hd hk
    obtain ⟨k, rfl⟩ : ∃ m, k = m + 1 := ⟨k - 1, by omega⟩
    have hx : i < x.length := by omega
    have hy : i < y.length := by omega
    simp only [semi_Match.l0]
    rw [if_pos (by omega), if_pos (by omega), if_pos (by omega), if_pos (by omega), get23 x i hx, get23 y i hy, eq_step _ _ k (by omega), w64 (by omega) (by omega), show (i : Int) + 1 = ((i + 1 : Nat) : Int) by omega, List.drop_eq_getElem_cons hx, List.drop_eq_getElem_cons hy]
    simp only [mt]
    by_cases c : eqv x[i] y[i] = true
    · rw [if_pos c, ih k (i + 1) (by omega) (by omega), c, Bool.true_and]
    · rw [if_neg c]
      simp [c]
theorem match_is (x y : List S23) (hl : x.length ≤ 1000) (k : Nat) (hk : x.length + 5 ≤ k) : semi_Match.f k x y = some (mt x y) := by
  unfold semi_Match.f
  by_cases he : x.length = y.length
  · rw [if_pos (by omega), show (0 : Int) = ((0 : Nat) : Int) from rfl, match_l0 x y he hl x.length k 0 (by omega) hk, List.drop_zero, List.drop_zero]
  · rw [if_neg (by omega), mt_len he]
def bk (seed : Int) (n : Nat) (key : List S23) : Nat := rhv seed key / 4294967296 % n
theorem bucket_is (h n : Nat) (h0 : h < 18446744073709551616) (n1 : 1 ≤ n) (n2 : n ≤ 4096) : hash_Bucket.f (h : Int) (n : Int) = some ((h / 4294967296 % n : Nat) : Int) := by
  unfold hash_Bucket.f
  have e : IntKind.u64.wrap (n : Int) = n := by rw [u64_wrap]; omega
  rw [if_neg (by omega), e, if_neg (by omega), Int.tmod_eq_emod_of_nonneg (by omega)]
  have e2 : ((h : Int) / 4294967296) % (n : Int) = ((h / 4294967296 % n : Nat) : Int) := by
    rw [Int.natCast_emod, Int.natCast_ediv]
    rfl
  have h3 : h / 4294967296 % n < n := Nat.mod_lt _ (by omega)
  rw [e2]
  generalize h / 4294967296 % n = z at *
  rw [w64 (by omega) (by omega)]
end Go.Proofs.YtcfgjaggccnoaaaDoor.PTableSteps
namespace Go.Proofs.YtcfgjaggccnoaaaDoor.PTableSteps
open Go.RowKit Go.Proofs.YtcfgjaggccnoaaaDoorW.PrintWords Go.Proofs.YtcfgjaggccnoaaaDoorW.PrintLast Go.Proofs.YtcfgjaggccnoaaaDoorW.PrintMore
attribute [local go_sem] max2_int min2_int max_two min_two max_three min_three max_four min_four
set_option linter.unusedVariables false
set_option linter.unusedSimpArgs false
set_option maxRecDepth 100000
set_option maxHeartbeats 4000000
def KOK (l : List S23) : Prop := l.length ≤ 1000 ∧ ∀ y ∈ l, y.f2.size ≤ 140737488351232
def Good (T : Tb) : Prop := ∀ j, j < T.n → T.ch j = (T.ch T.n).filter fun p => bk T.seed T.n p.f0 == j
def Tab (w : World) (base : Nat) (S D : Nat → Prop) (gT : Nat) (seed : Int) (n : Nat) (sl : Bool) (E : List S116) : Prop := ∃ T gB v, TB w base S D gT T gB v ∧ T.seed = seed ∧ T.n = n ∧ T.sl = sl ∧ T.ch T.n = E ∧ Good T
def EOK (E : List S116) : Prop := E.length ≤ 1000 ∧ ∀ p, p ∈ E → KOK p.f0 ∧ KOK p.f1
section
variable {w w1 : World} {base gT : Nat} {S D : Nat → Prop} {seed : Int} {n : Nat} {sl : Bool} {E : List S116}
theorem Tab.below (h : Tab w base S D gT seed n sl E) (hb : Below w.heap.size w w1) : Tab w1 base S D gT seed n sl E := by
  obtain ⟨T, gB, v, h1, h2⟩ := h
  exact ⟨T, gB, v, h1.below hb, h2⟩
theorem Tab.kp {S' : Nat → Prop} (h : Tab w base S D gT seed n sl E) (hk : Kp S' w w1) (hd : ∀ k, D k → ¬ S' k) : Tab w1 base S D gT seed n sl E := by
  obtain ⟨T, gB, v, h1, h2⟩ := h
  exact ⟨T, gB, v, h1.kp hk hd, h2⟩
theorem Tab.dl (h : Tab w base S D gT seed n sl E) : ∀ k, D k → base ≤ k ∧ k < w.heap.size := by
  obtain ⟨T, gB, v, h1, h2⟩ := h
  exact h1.dl
theorem Tab.sd (h : Tab w base S D gT seed n sl E) : ∀ k, S k → D k := by
  obtain ⟨T, gB, v, h1, h2⟩ := h
  exact h1.sD
theorem Tab.n1 (h : Tab w base S D gT seed n sl E) : 1 ≤ n ∧ n ≤ 4096 := by
  obtain ⟨T, gB, v, h1, h2, h3, h4⟩ := h
  subst h3
  exact ⟨h1.n1, h1.n2⟩
def NewT (w : World) (seed buckets : Int) (r : Ending) (w' : World) : Prop := ∃ gT S D, r = .returned (.pointer (some ⟨gT, 0, none⟩)) ∧ Tab w' w.heap.size S D gT seed (nbk buckets) false [] ∧ Below w.heap.size w w'
theorem tab_new (w : World) (seed buckets : Int) : Calls Tryd.prog 19 #[.int .i64 seed, .int .i64 buckets] w (NewT w seed buckets) := by
  refine (new_any seed buckets w).mono ?_
  rintro r w' ⟨gT, gB, S, D, hr, hT, hb⟩
  exact ⟨gT, S, D, hr, ⟨_, _, _, hT, rfl, rfl, rfl, rfl, fun j _ => rfl⟩, hb⟩
theorem bk_lt (seed : Int) (n : Nat) (key : List S23) (h : 1 ≤ n) : bk seed n key < n := Nat.mod_lt _ h
theorem row_hash (seed : Int) {key : List S23} (hk : KOK key) : ∃ k, hash_Row.f k seed key = some (rhv seed key : Int) ∧ rhv seed key < 18446744073709551616 :=
  ⟨_, phv_is seed key hk.2 hk.1 (key.length + 20 + (rkey key).size + 1) (by omega) (by omega)⟩
theorem good_put {T : Tb} (hg : Good T) (p : S116) (hn : 1 ≤ T.n) : Good (T.put (bk T.seed T.n p.f0) p) ∧ (T.put (bk T.seed T.n p.f0) p).ch T.n = T.ch T.n ++ [p] := by
  have hi := bk_lt T.seed T.n p.f0 hn
  have e : (T.put (bk T.seed T.n p.f0) p).ch T.n = T.ch T.n ++ [p] := by
    show (if T.n = T.n then (if T.n = bk T.seed T.n p.f0 then _ else T.ch T.n) ++ [p] else _) = _
    rw [if_pos rfl, if_neg (by omega)]
  refine ⟨fun j hj => ?_, e⟩
  have hj' : j < T.n := hj
  show _ = List.filter (fun q => bk T.seed T.n q.f0 == j) ((T.put (bk T.seed T.n p.f0) p).ch T.n)
  rw [e, List.filter_append, ← hg j hj']
  show (if j = T.n then _ else if j = bk T.seed T.n p.f0 then T.ch (bk T.seed T.n p.f0) ++ [p] else T.ch j) = _
  rw [if_neg (by omega)]
  by_cases c : j = bk T.seed T.n p.f0
  · rw [if_pos c, ← c]
    simp [← c]
  · rw [if_neg c]
    have : (bk T.seed T.n p.f0 == j) = false := beq_eq_false_iff_ne.2 fun e => c e.symm
    simp [this]
def PutT (w : World) (base : Nat) (S D : Nat → Prop) (gT : Nat) (seed : Int) (n : Nat) (E : List S116) (r : Ending) (w' : World) : Prop :=
  r = .returned (.int .i64 0) ∧ ∃ S' D', Tab w' base S' D' gT seed n false E ∧ (∀ k, S' k → S k ∨ w.heap.size ≤ k) ∧ (∀ k, D' k → D k ∨ w.heap.size ≤ k) ∧ Kp S w w' ∧ Below base w w'
theorem tab_put (h : Tab w base S D gT seed n false E) (hT : TabOK w) (hE : E.length ≤ 1000) {key row : List S23} {A A' : Option Addr} {c c' : Nat} (hK : Kd.C k23 w A key.length key) (hc : key.length ≤ c) (hR : Kd.C k23 w A' row.length row) (hc' : row.length ≤ c') (l1 : KOK key) (l2 : row.length ≤ 1000) :
    Calls Tryd.prog 39 #[.pointer (some ⟨gT, 0, none⟩), .slice A key.length c, .slice A' row.length c'] w (PutT w base S D gT seed n (E ++ [⟨key, row⟩])) := by
  obtain ⟨T, gB, v, h1, rfl, rfl, h4, rfl, h6⟩ := h
  obtain ⟨k, hr, hr2⟩ := row_hash T.seed l1
  have hi := bk_lt T.seed T.n key h1.n1
  have hl : (T.ch (bk T.seed T.n key)).length ≤ 1000 := by
    rw [h6 _ hi]
    exact Nat.le_trans (List.length_filter_le _ _) hE
  refine (put_ok h1 hT h4 hK hc hR hc' (Nat.le_trans l1.1 (by decide)) (Nat.le_trans l2 (by decide)) hr (bucket_is _ _ hr2 h1.n1 h1.n2) hi (Nat.le_trans hl (by decide)) (Nat.le_trans hE (by decide))).mono ?_
  rintro r w' ⟨e, S', D', v', t1, t2, t3, t4, t5⟩
  obtain ⟨g1, g2⟩ := good_put h6 ⟨key, row⟩ h1.n1
  exact ⟨e, S', D', ⟨_, gB, v', t1, rfl, rfl, h4, g2, g1⟩, t2, t3, t4, t5⟩
theorem tab_find (h : Tab w base S D gT seed n true E) (hT : TabOK w) (hE : EOK E) {key : List S23} {A : Option Addr} {c : Nat} (hK : Kd.C k23 w A key.length key) (hc : key.length ≤ c) (l1 : KOK key) :
    Calls Tryd.prog 37 #[.pointer (some ⟨gT, 0, none⟩), .slice A key.length c] w (FinD w ((E.filter fun p => mt key p.f0).map (·.f1))) := by
  obtain ⟨T, gB, v, h1, rfl, rfl, h4, rfl, h6⟩ := h
  obtain ⟨k, hr, hr2⟩ := row_hash T.seed l1
  have hi := bk_lt T.seed T.n key h1.n1
  have hl : (T.ch (bk T.seed T.n key)).length ≤ 1000 := by
    rw [h6 _ hi]
    exact Nat.le_trans (List.length_filter_le _ _) hE.1
  have hm : ∀ p, p ∈ T.ch (bk T.seed T.n key) → p.f0.length ≤ 1000 ∧ p.f1.length ≤ 1000 := by
    intro p hp
    rw [h6 _ hi] at hp
    have := hE.2 p (List.mem_filter.1 hp).1
    exact ⟨this.1.1, this.2.1⟩
  have e : (T.ch (bk T.seed T.n key)).filter (fun p => mt key p.f0) = (T.ch T.n).filter fun p => mt key p.f0 := by
    rw [h6 _ hi, List.filter_filter]
    refine List.filter_congr fun p _ => ?_
    by_cases q : mt key p.f0 = true
    · rw [q, ← mt_eq q]
      simp
    · simp [q]
  have := find_any (i := bk T.seed T.n key) (kk := key.length + 5) (pr := mt key) h1 hT h4 hK hc hr (bucket_is _ _ hr2 h1.n1 h1.n2) hi (Nat.le_trans hl (by decide)) hm (fun p _ => match_is key p l1.1 _ (Nat.le_refl _))
  rw [e] at this
  exact this
def SealT (w : World) (base : Nat) (S D : Nat → Prop) (gT : Nat) (seed : Int) (n : Nat) (E : List S116) (r : Ending) (w' : World) : Prop :=
  r = .returned (.int .i64 0) ∧ Tab w' base S D gT seed n true E ∧ Kp S w w' ∧ Below base w w'
theorem tab_seal_no (h : Tab w base S D gT seed n false E) : Calls Tryd.prog 40 #[.pointer (some ⟨gT, 0, none⟩)] w (SealT w base S D gT seed n E) := by
  obtain ⟨T, gB, v, h1, rfl, rfl, h4, rfl, h6⟩ := h
  refine (seal_no h1 h4).mono ?_
  rintro r w' ⟨rfl, rfl⟩
  refine ⟨rfl, ⟨_, gB, v, h1.slt, rfl, rfl, rfl, rfl, h6⟩, ⟨by rw [World.size_setCell]; exact Nat.le_refl _, fun k _ hk => Below.heap_setCell w ⟨gT, 3, none⟩ _ k fun e => hk (e ▸ h1.sT)⟩, (Below.refl _ _).setCell (p := ⟨gT, 3, none⟩) (h1.dl _ (h1.sD _ h1.sT)).1 _⟩
end
end Go.Proofs.YtcfgjaggccnoaaaDoor.PTableSteps
namespace Go.Proofs.YtcfgjaggccnoaaaDoor.PTableSteps
open Go.RowKit Go.Proofs.YtcfgjaggccnoaaaDoorW.PrintWords Go.Proofs.YtcfgjaggccnoaaaDoorW.PrintLast Go.Proofs.YtcfgjaggccnoaaaDoorW.PrintMore
attribute [local go_sem] max2_int min2_int max_two min_two max_three min_three max_four min_four
set_option linter.unusedVariables false
set_option linter.unusedSimpArgs false
set_option maxRecDepth 100000
set_option maxHeartbeats 4000000
section
variable {α : Type} {d : Kd α} {e base : Nat} {w w1 : World} {v : Value} {xs : List α}
theorem R_rng (h : d.R e w base (fun _ => True) v xs) : d.R e w base (fun k => base ≤ k ∧ k < w.heap.size) v xs := Kd.R_mono (Kd.R_bound h) fun k hk => ⟨hk.2.1, hk.2.2.1⟩
theorem R_kp {ok S : Nat → Prop} (h : d.R e w base ok v xs) (hk : Kp S w w1) (hs : ∀ k, ok k → ¬ S k) : d.R e w1 base ok v xs := Kd.R_step h fun k h1 h2 => hk.2 k h2 (hs k h1)
theorem R_C {ok : Nat → Prop} {A : Option Addr} {n c : Nat} (h : d.R e w base ok (.slice A n c) xs) : d.C w A xs.length xs ∧ xs.length ≤ c := by
  obtain ⟨B, b, e, hl, hC⟩ := Kd.R_reads h
  injection e with e1 e2 e3
  subst e1 e3
  exact ⟨hC, hl⟩
end
abbrev bA : ByteArray := ⟨#[97]⟩
abbrev bB : ByteArray := ⟨#[98]⟩
abbrev bE : ByteArray := ⟨#[]⟩
abbrev kOne : List S23 := [⟨1, 1, bE⟩]
abbrev kNul : List S23 := [⟨0, 0, bE⟩]
abbrev rA : List S23 := [⟨2, 0, bA⟩]
abbrev rB : List S23 := [⟨2, 0, bB⟩]
theorem kok1 (a b : Int) (s : ByteArray) (h : s.size ≤ 1) : KOK [⟨a, b, s⟩] := ⟨by simp, fun y hy => by rw [List.mem_singleton.1 hy]; show s.size ≤ _; omega⟩
theorem eok_live : EOK [⟨kOne, rA⟩, ⟨kNul, rB⟩] := ⟨by simp, fun p hp => by
  rcases List.mem_cons.1 hp with rfl | hp
  · exact ⟨kok1 _ _ _ (by decide), kok1 _ _ _ (by decide)⟩
  · rw [List.mem_singleton.1 hp]
    exact ⟨kok1 _ _ _ (by decide), kok1 _ _ _ (by decide)⟩⟩
theorem live_rows1 : (([⟨kOne, rA⟩, ⟨kNul, rB⟩] : List S116).filter fun p => mt kOne p.f0).map (·.f1) = [rA] := by kernel_rfl
theorem live_rows2 : (([⟨kOne, rA⟩, ⟨kNul, rB⟩] : List S116).filter fun p => mt kNul p.f0).map (·.f1) = [] := by kernel_rfl
theorem live_same : r04_Same.f 5 rA rA = some true := by kernel_rfl
theorem ns1 {S S1 : Nat → Prop} {x y : Nat} (z : ∀ k, S k → k < x) (s : ∀ k, S1 k → S k ∨ y ≤ k) (k : Nat) (h1 : x ≤ k) (h2 : k < y) : ¬ S1 k :=
  fun h => (s k h).elim (fun q => by have := z k q; omega) (fun q => by omega)
theorem ns2 {S S1 S2 : Nat → Prop} {x y y2 : Nat} (z : ∀ k, S k → k < x) (s : ∀ k, S1 k → S k ∨ y ≤ k) (s2 : ∀ k, S2 k → S1 k ∨ y2 ≤ k) (hy : y ≤ y2) (k : Nat) (h1 : x ≤ k) (h2 : k < y) : ¬ S2 k :=
  fun h => (s2 k h).elim (fun q => ns1 z s k h1 h2 q) (fun q => by omega)
theorem add0_ (ad : Addr) : ad.add (0 : Int).toNat = ad := by cases ad; simp [Addr.add]
theorem at_one {w : World} {A : Option Addr} {n : Nat} {x : List S23} (hn : 0 < n) (h : Kd.C (Kd.slice 23 k23) w A n [x]) : ∃ ad A0 c0, A = some ad ∧ w.cell? ad = some (.slice A0 x.length c0) ∧ k23.C w A0 x.length x ∧ x.length ≤ c0 := by
  obtain ⟨ad, A0, c0, e, hcell, hl, hC⟩ := at_L3 h 0 (by decide) (by omega)
  have e2 : rd_L3 [x] 0 = x := rfl
  rw [e2] at hcell hl hC
  rw [add0_] at hcell
  exact ⟨ad, A0, c0, e, hcell, hC, hl⟩
theorem drew0_below {w w1 : World} (h : Drawn0 w w1) : Below w.heap.size w w1 := dr_below h
theorem live_any (w : World) (hT : TabOK w) : Calls Tryd.prog 18 #[] w fun r w' => r = .returned (.bool true) ∧ Below w.heap.size w w' := by
  have HT := Lib.hid hT
  clear hT
  go_enter Tryd.func18, Tryd.ntmps18
  go_wp2_with (first
    | ((with_reducible refine gate_callee (f := 19) rfl ?_); refine goesL_ (some 8) rfl rfl Tryd.func19 (by kernel_rfl) rfl #[.int .i64 1, .int .i64 2] rfl (by (try simp only [List.map_toArray, List.map_cons, List.map_nil]); first | done | rfl) ?_; refine (tab_new w 1 2).mono ?_; rintro r' w1 ⟨gT, S, D, rfl, t1, b1⟩; refine ⟨_, rfl, ?_⟩; simp only [Act.put, sa_, sz_, ss_]; have T1 := Lib.hid t1; have B1 := Lib.hid b1; clear t1 b1; have Z0 := Lib.hid (show ∀ k, S k → k < w1.heap.size from fun k hs => (T1.out.dl k (T1.out.sd k hs)).2))
    | ((with_reducible refine gate_dst (N := 12) rfl ?_); refine Kd.R_lit k23 _ 23 ?hg (N := 12) ?hd (xs := ([(⟨1, 1, bE⟩ : S23)] : List S23)) (inner := [.int .i64 1, .int .i64 1, .string bE]) (ok := fun _ => True) (okp := fun _ => True) ?hr ?hp (fun _ hk => hk) trivial (Below.refl _ _) (Nat.le_refl _) (by simp) ?_; (case hd => rfl); (case hg => rfl); (case hr => first | (go_simp; done) | (go_simp; rfl)); (case hp => exact (Reps.c3 (show Kd.M k23 _ _ _ (⟨1, 1, bE⟩ : S23) [.int .i64 1, .int .i64 1, .string bE] from (k23_mkM _ _ _ (⟨1, 1, bE⟩ : S23) )) (Reps.none _ _))); intro v_ w2 hr_ hb_ hg_ hn_; clear hg_ hn_; obtain ⟨A2, c2, hv_⟩ := Kd.R_slice hr_; subst hv_; have R2 := Lib.hid (R_rng hr_); have B2 := Lib.hid hb_; clear hr_ hb_; simp only [Act.put, sa_, sz_, ss_])
    | ((with_reducible refine gate_dst (N := 14) rfl ?_); refine Kd.R_lit k23 _ 23 ?hg (N := 14) ?hd (xs := ([(⟨2, 0, bA⟩ : S23)] : List S23)) (inner := [.int .i64 2, .int .i64 0, .string bA]) (ok := fun _ => True) (okp := fun _ => True) ?hr ?hp (fun _ hk => hk) trivial (Below.refl _ _) (Nat.le_refl _) (by simp) ?_; (case hd => rfl); (case hg => rfl); (case hr => first | (go_simp; done) | (go_simp; rfl)); (case hp => exact (Reps.c3 (show Kd.M k23 _ _ _ (⟨2, 0, bA⟩ : S23) [.int .i64 2, .int .i64 0, .string bA] from (k23_mkM _ _ _ (⟨2, 0, bA⟩ : S23) )) (Reps.none _ _))); intro v_ w3 hr_ hb_ hg_ hn_; clear hg_ hn_; obtain ⟨A3, c3, hv_⟩ := Kd.R_slice hr_; subst hv_; have R3 := Lib.hid (R_rng hr_); have B3 := Lib.hid hb_; clear hr_ hb_; simp only [Act.put, sa_, sz_, ss_])
    | ((with_reducible refine gate_callee (f := 39) rfl ?_); refine goesL_ (some 18) rfl rfl Tryd.func39 (by kernel_rfl) rfl #[.pointer (some ⟨gT, 0, none⟩), .slice A2 kOne.length c2, .slice A3 rA.length c3] rfl (by (try simp only [List.map_toArray, List.map_cons, List.map_nil]); first | done | rfl) ?_; refine (tab_put (key := kOne) (row := rA) ((T1.out.below B2.out).below B3.out) (((HT.out.below B1.out).below B2.out).below B3.out) (by simp) (R_C (Kd.R_below R2.out B3.out)).1 (R_C R2.out).2 (R_C R3.out).1 (R_C R3.out).2 (kok1 _ _ _ (by decide)) (by simp)).mono ?_; rintro r' w4 ⟨rfl, S1, D1, t4, s4, d4, k4, b4⟩; refine ⟨_, rfl, ?_⟩; simp only [Act.put, sa_, sz_, ss_]; have T4 := Lib.hid t4; have S4 := Lib.hid s4; have BW4 := Lib.hid ((below_step (below_step B1.out B2.out) B3.out).trans b4); have R2b := Lib.hid (R_kp (Kd.R_below R2.out B3.out) k4 (fun k hk hs => by have h1 := Z0.out k hs; have h2 := hk.1; omega)); have R3b := Lib.hid (R_kp R3.out k4 (fun k hk hs => by have h1 := Z0.out k hs; have h2 := hk.1; have h3 := B2.out.size; omega)); have Z1 := Lib.hid (show w3.heap.size ≤ w4.heap.size from k4.1); clear t4 s4 d4 k4 b4)
    | ((with_reducible refine gate_dst (N := 21) rfl ?_); refine Kd.R_lit k23 _ 23 ?hg (N := 21) ?hd (xs := ([(⟨0, 0, bE⟩ : S23)] : List S23)) (inner := [.int .i64 0, .int .i64 0, .string bE]) (ok := fun _ => True) (okp := fun _ => True) ?hr ?hp (fun _ hk => hk) trivial (Below.refl _ _) (Nat.le_refl _) (by simp) ?_; (case hd => rfl); (case hg => rfl); (case hr => first | (go_simp; done) | (go_simp; rfl)); (case hp => exact (Reps.c3 (show Kd.M k23 _ _ _ (⟨0, 0, bE⟩ : S23) [.int .i64 0, .int .i64 0, .string bE] from (k23_mkM _ _ _ (⟨0, 0, bE⟩ : S23) )) (Reps.none _ _))); intro v_ w5 hr_ hb_ hg_ hn_; clear hg_ hn_; obtain ⟨A5, c5, hv_⟩ := Kd.R_slice hr_; subst hv_; have R5 := Lib.hid (R_rng hr_); have B5 := Lib.hid hb_; clear hr_ hb_; simp only [Act.put, sa_, sz_, ss_])
    | ((with_reducible refine gate_dst (N := 23) rfl ?_); refine Kd.R_lit k23 _ 23 ?hg (N := 23) ?hd (xs := ([(⟨2, 0, bB⟩ : S23)] : List S23)) (inner := [.int .i64 2, .int .i64 0, .string bB]) (ok := fun _ => True) (okp := fun _ => True) ?hr ?hp (fun _ hk => hk) trivial (Below.refl _ _) (Nat.le_refl _) (by simp) ?_; (case hd => rfl); (case hg => rfl); (case hr => first | (go_simp; done) | (go_simp; rfl)); (case hp => exact (Reps.c3 (show Kd.M k23 _ _ _ (⟨2, 0, bB⟩ : S23) [.int .i64 2, .int .i64 0, .string bB] from (k23_mkM _ _ _ (⟨2, 0, bB⟩ : S23) )) (Reps.none _ _))); intro v_ w6 hr_ hb_ hg_ hn_; clear hg_ hn_; obtain ⟨A6, c6, hv_⟩ := Kd.R_slice hr_; subst hv_; have R6 := Lib.hid (R_rng hr_); have B6 := Lib.hid hb_; clear hr_ hb_; simp only [Act.put, sa_, sz_, ss_])
    | ((with_reducible refine gate_callee (f := 39) rfl ?_); refine goesL_ (some 24) rfl rfl Tryd.func39 (by kernel_rfl) rfl #[.pointer (some ⟨gT, 0, none⟩), .slice A5 kNul.length c5, .slice A6 rB.length c6] rfl (by (try simp only [List.map_toArray, List.map_cons, List.map_nil]); first | done | rfl) ?_; refine (tab_put (key := kNul) (row := rB) ((T4.out.below B5.out).below B6.out) (((HT.out.below BW4.out).below B5.out).below B6.out) (by simp) (R_C (Kd.R_below R5.out B6.out)).1 (R_C R5.out).2 (R_C R6.out).1 (R_C R6.out).2 (kok1 _ _ _ (by decide)) (by simp)).mono ?_; rintro r' w7 ⟨rfl, S2, D2, t7, s7, d7, k7, b7⟩; refine ⟨_, rfl, ?_⟩; simp only [Act.put, sa_, sz_, ss_]; have T7 := Lib.hid t7; have S7 := Lib.hid s7; have BW7 := Lib.hid ((below_step (below_step BW4.out B5.out) B6.out).trans b7); have R2c := Lib.hid (R_kp (Kd.R_below (Kd.R_below R2b.out B5.out) B6.out) k7 (fun k hk => ns1 Z0.out S4.out k hk.1 (Nat.lt_of_lt_of_le hk.2 B3.out.size))); have R3c := Lib.hid (R_kp (Kd.R_below (Kd.R_below R3b.out B5.out) B6.out) k7 (fun k hk => ns1 Z0.out S4.out k (Nat.le_trans B2.out.size hk.1) hk.2)); have Z2 := Lib.hid (show w3.heap.size ≤ w6.heap.size from Nat.le_trans Z1.out (Nat.le_trans B5.out.size B6.out.size)); clear t7 s7 d7 k7 b7)
    | ((with_reducible refine gate_callee (f := 40) rfl ?_); refine goesL_ (some 26) rfl rfl Tryd.func40 (by kernel_rfl) rfl #[.pointer (some ⟨gT, 0, none⟩)] rfl (by (try simp only [List.map_toArray, List.map_cons, List.map_nil]); first | done | rfl) ?_; refine (tab_seal_no T7.out).mono ?_; rintro r' w8 ⟨rfl, t8, k8, b8⟩; refine ⟨_, rfl, ?_⟩; simp only [Act.put, sa_, sz_, ss_]; have T8 := Lib.hid t8; have BW8 := Lib.hid (BW7.out.trans b8); have R2d := Lib.hid (R_kp R2c.out k8 (fun k hk => ns2 Z0.out S4.out S7.out Z2.out k hk.1 (Nat.lt_of_lt_of_le hk.2 B3.out.size))); have R3d := Lib.hid (R_kp R3c.out k8 (fun k hk => ns2 Z0.out S4.out S7.out Z2.out k (Nat.le_trans B2.out.size hk.1) hk.2)); clear t8 k8 b8)
    | ((with_reducible refine gate_callee (f := 37) rfl ?_); refine goesL_ (some 30) rfl rfl Tryd.func37 (by kernel_rfl) rfl #[.pointer (some ⟨gT, 0, none⟩), .slice A2 kOne.length c2] rfl (by (try simp only [List.map_toArray, List.map_cons, List.map_nil]); first | done | rfl) ?_; refine (tab_find (key := kOne) T8.out (HT.out.below BW8.out) eok_live (R_C R2d.out).1 (R_C R2d.out).2 (kok1 _ _ _ (by decide))).mono ?_; rintro r' w9 ⟨v9, rfl, r9, b9⟩; refine ⟨_, rfl, ?_⟩; simp only [Act.put, sa_, sz_, ss_]; have R9 := Lib.hid (live_rows1 ▸ r9 : Kd.R (Kd.slice 23 k23) 24 w9 w8.heap.size (fun _ => True) v9 [rA]); have B9 := Lib.hid b9; obtain ⟨A9, c9, hv9⟩ := Kd.R_slice R9.out; subst hv9; clear r9 b9)
    | ((with_reducible refine gate_dst (N := 36) rfl ?_); refine Kd.R_lit k23 _ 23 ?hg (N := 36) ?hd (xs := ([(⟨0, 0, bE⟩ : S23)] : List S23)) (inner := [.int .i64 0, .int .i64 0, .string bE]) (ok := fun _ => True) (okp := fun _ => True) ?hr ?hp (fun _ hk => hk) trivial (Below.refl _ _) (Nat.le_refl _) (by simp) ?_; (case hd => rfl); (case hg => rfl); (case hr => first | (go_simp; done) | (go_simp; rfl)); (case hp => exact (Reps.c3 (show Kd.M k23 _ _ _ (⟨0, 0, bE⟩ : S23) [.int .i64 0, .int .i64 0, .string bE] from (k23_mkM _ _ _ (⟨0, 0, bE⟩ : S23) )) (Reps.none _ _))); intro v_ w10 hr_ hb_ hg_ hn_; clear hg_ hn_; obtain ⟨A10, c10, hv_⟩ := Kd.R_slice hr_; subst hv_; have R10 := Lib.hid (R_rng hr_); have B10 := Lib.hid hb_; clear hr_ hb_; simp only [Act.put, sa_, sz_, ss_])
    | ((with_reducible refine gate_callee (f := 37) rfl ?_); refine goesL_ (some 37) rfl rfl Tryd.func37 (by kernel_rfl) rfl #[.pointer (some ⟨gT, 0, none⟩), .slice A10 kNul.length c10] rfl (by (try simp only [List.map_toArray, List.map_cons, List.map_nil]); first | done | rfl) ?_; refine (tab_find (key := kNul) ((T8.out.below B9.out).below B10.out) (((HT.out.below BW8.out).below B9.out).below B10.out) eok_live (R_C R10.out).1 (R_C R10.out).2 (kok1 _ _ _ (by decide))).mono ?_; rintro r' w11 ⟨v11, rfl, r11, b11⟩; refine ⟨_, rfl, ?_⟩; simp only [Act.put, sa_, sz_, ss_]; have R11 := Lib.hid (live_rows2 ▸ r11 : Kd.R (Kd.slice 23 k23) 24 w11 w10.heap.size (fun _ => True) v11 []); have B11 := Lib.hid b11; obtain ⟨A11, c11, hv11⟩ := Kd.R_slice R11.out; subst hv11; clear r11 b11)
    | ((with_reducible refine gate_callee (f := 38) rfl ?_); refine goesL_ (some 41) rfl rfl Tryd.func38 (by kernel_rfl) rfl #[.int .i64 0] rfl (by (try simp only [List.map_toArray, List.map_cons, List.map_nil]); first | done | rfl) ?_; refine (w34_code.calls 0 0 w11 rfl).mono ?_; rintro r' w12 ⟨rfl, d12⟩; refine ⟨_, rfl, ?_⟩; simp only [Act.put, sa_, sz_, ss_]; have B12 := Lib.hid (drew0_below d12); clear d12)
    | ((with_reducible refine gate_callee (f := 38) rfl ?_); (refine gate_guard (by rfl) ?_; dsimp only); refine goesL_ (some 45) rfl rfl Tryd.func38 (by kernel_rfl) rfl #[.int .i64 0] rfl (by (try simp only [List.map_toArray, List.map_cons, List.map_nil]); first | done | rfl) ?_; refine (w34_code.calls 0 0 w12 rfl).mono ?_; rintro r' w13 ⟨rfl, d13⟩; refine ⟨_, rfl, ?_⟩; simp only [Act.put, sa_, sz_, ss_]; have B13 := Lib.hid (drew0_below d13); have R9e := Lib.hid (Kd.R_below (Kd.R_below (Kd.R_below (Kd.R_below R9.out B10.out) B11.out) B12.out) B13.out); obtain ⟨ad, A0, c0, e0, hc13, hC0⟩ := at_one (by decide) (R_C R9e.out).1; subst e0; have HC0 := Lib.hid hC0; clear d13 hC0)
    | ((with_reducible refine gate_callee (f := 26) rfl ?_); (refine gate_guard (by rfl) ?_; dsimp only); refine goesL_ (some 58) rfl rfl Tryd.func26 (by kernel_rfl) rfl #[.slice A0 rA.length c0, .slice A3 rA.length c3] rfl (by (try simp only [List.map_toArray, List.map_cons, List.map_nil]); first | done | rfl) ?_; refine (r04_Same.calls 5 A0 c0 rA A3 c3 rA true w13 HC0.out.1 HC0.out.2 (R_C (Kd.R_below (Kd.R_below (Kd.R_below (Kd.R_below (Kd.R_below R3d.out B9.out) B10.out) B11.out) B12.out) B13.out)).1 (R_C R3d.out).2 live_same).mono ?_; rintro r' w14 ⟨rfl, b14⟩; refine ⟨_, rfl, ?_⟩; simp only [Act.put, sa_, sz_, ss_]; have B14 := Lib.hid b14; clear b14))
  go_ret
  exact ⟨rfl, below_step (below_step (below_step (below_step (below_step (below_step BW8.out B9.out) B10.out) B11.out) B12.out) B13.out) B14.out⟩
end Go.Proofs.YtcfgjaggccnoaaaDoor.PTableSteps
namespace Go.Proofs.YtcfgjaggccnoaaaDoor.PTableSteps
open Go.RowKit Go.Proofs.YtcfgjaggccnoaaaDoorW.PrintWords Go.Proofs.YtcfgjaggccnoaaaDoorW.PrintLast Go.Proofs.YtcfgjaggccnoaaaDoorW.PrintMore
attribute [local go_sem] max2_int min2_int max_two min_two max_three min_three max_four min_four
set_option linter.unusedVariables false
set_option linter.unusedSimpArgs false
set_option maxRecDepth 100000
set_option maxHeartbeats 4000000
theorem nils_any (w : World) {key : List S23} {A : Option Addr} {c : Nat} (hF : Kd.F k23 w (fun _ => True) A key.length key) (hc : key.length ≤ c) (hs : ∀ y ∈ key, y.f2.size ≤ 140737488351232) (hT : TabOK w) :
    Calls Tryd.prog 7 #[.slice A key.length c] w fun r w' => r = .returned (.bool true) ∧ Below w.heap.size w w' := by
  obtain ⟨b, hb, _⟩ := much_is [key] (by simpa using hs) (by simp) 3000 (by omega)
  have HT := Lib.hid hT; have HF := Lib.hid hF; have HC := Lib.hid hc; have HM := Lib.hid hb
  clear hT hF hc hs hb
  cases b
  · go_enter Tryd.func7, Tryd.ntmps7
    go_wp2_with (first
      | ((with_reducible refine gate_dst (N := 7) rfl ?_); refine Kd.N_lit (Kd.slice 23 k23) _ 24 ?hg (N' := 7) ?hd (xs := ([key] : List (List S23))) (inner := [.slice A key.length c]) (ok := fun _ => True) (okp := fun _ => True) ?hr ?hp (fun _ hk => hk) trivial (Below.refl _ _) (Nat.le_refl _) (by simp) ?_; (case hd => rfl); (case hg => rfl); (case hr => first | (go_simp; done) | (go_simp; rfl)); (case hp => exact Reps.one (show Kd.FK (Kd.slice 23 k23) _ _ key [.slice A key.length c] from fun W' hW => ⟨A, c, rfl, HC.out, HF.out W' hW⟩) (Reps.none _ _)); intro v_ w1 hr_ hb_ hg_ hn_; clear hg_ hn_; obtain ⟨A1, c1, hv_, hl_, hC_⟩ := Kd.N_reads hr_; subst hv_; have R1 := Lib.hid (And.intro hC_ hl_); have B1 := Lib.hid hb_; clear hr_ hb_ hC_ hl_; simp only [Act.put, sa_, sz_, ss_])
      | ((with_reducible refine gate_callee (f := 11) rfl ?_); refine goesL_ (some 8) rfl rfl Tryd.func11 (by kernel_rfl) rfl #[.slice A1 [key].length c1] rfl (by (try simp only [List.map_toArray, List.map_cons, List.map_nil]); first | done | rfl) ?_; refine (r04_Much.calls 3000 A1 c1 [key] false w1 R1.out.1 R1.out.2 HM.out).mono ?_; rintro r' w2 ⟨rfl, d2⟩; refine ⟨_, rfl, ?_⟩; simp only [Act.put, sa_, sz_, ss_]; have B2 := Lib.hid (below_step B1.out (dr_below d2)); clear d2)
      | ((with_reducible refine gate_callee (f := 37) rfl ?_); refine goesL_ (some 13) rfl rfl Tryd.func37 (by kernel_rfl) rfl #[.pointer none, .slice A key.length c] rfl (by (try simp only [List.map_toArray, List.map_cons, List.map_nil]); first | done | rfl) ?_; refine (find_nil w2 A key.length c).mono ?_; rintro r' w3 ⟨rfl, b3⟩; refine ⟨_, rfl, ?_⟩; simp only [Act.put, sa_, sz_, ss_]; have B3 := Lib.hid (below_step B2.out b3); clear b3)
      | ((with_reducible refine gate_callee (f := 39) rfl ?_); refine goesL_ (some 19) rfl rfl Tryd.func39 (by kernel_rfl) rfl #[.pointer none, .slice A key.length c, .slice A key.length c] rfl (by (try simp only [List.map_toArray, List.map_cons, List.map_nil]); first | done | rfl) ?_; refine (put_nil w3 A A key.length key.length c c).mono ?_; rintro r' w4 ⟨rfl, rfl⟩; refine ⟨_, rfl, ?_⟩; simp only [Act.put, sa_, sz_, ss_]; skip)
      | ((with_reducible refine gate_callee (f := 38) rfl ?_); refine goesL_ (some 20) rfl rfl Tryd.func38 (by kernel_rfl) rfl #[.int .i64 9] rfl (by (try simp only [List.map_toArray, List.map_cons, List.map_nil]); first | done | rfl) ?_; refine (w34_code.calls 9 9 w4 rfl).mono ?_; rintro r' w5 ⟨rfl, d5⟩; refine ⟨_, rfl, ?_⟩; simp only [Act.put, sa_, sz_, ss_]; have B5 := Lib.hid (below_step B3.out (dr_below d5)); clear d5)
      | ((with_reducible refine gate_callee (f := 40) rfl ?_); (refine gate_guard (by rfl) ?_; dsimp only); refine goesL_ (some 24) rfl rfl Tryd.func40 (by kernel_rfl) rfl #[.pointer none] rfl (by (try simp only [List.map_toArray, List.map_cons, List.map_nil]); first | done | rfl) ?_; refine (seal_nil w5).mono ?_; rintro r' w6 ⟨rfl, rfl⟩; refine ⟨_, rfl, ?_⟩; simp only [Act.put, sa_, sz_, ss_]; skip)
      | ((with_reducible refine gate_callee (f := 38) rfl ?_); (refine gate_guard (by rfl) ?_; dsimp only); refine goesL_ (some 25) rfl rfl Tryd.func38 (by kernel_rfl) rfl #[.int .i64 9] rfl (by (try simp only [List.map_toArray, List.map_cons, List.map_nil]); first | done | rfl) ?_; refine (w34_code.calls 9 9 w6 rfl).mono ?_; rintro r' w7 ⟨rfl, d7⟩; refine ⟨_, rfl, ?_⟩; simp only [Act.put, sa_, sz_, ss_]; have B7 := Lib.hid (below_step B5.out (dr_below d7)); clear d7)
      | ((with_reducible refine gate_callee (f := 38) rfl ?_); (refine gate_guard (by rfl) ?_; dsimp only); refine goesL_ (some 30) rfl rfl Tryd.func38 (by kernel_rfl) rfl #[.int .i64 9] rfl (by (try simp only [List.map_toArray, List.map_cons, List.map_nil]); first | done | rfl) ?_; refine (w34_code.calls 9 9 w7 rfl).mono ?_; rintro r' w8 ⟨rfl, d8⟩; refine ⟨_, rfl, ?_⟩; simp only [Act.put, sa_, sz_, ss_]; have B8 := Lib.hid (below_step B7.out (dr_below d8)); clear d8)
      | ((with_reducible refine gate_callee (f := 23) rfl ?_); (refine gate_guard (by rfl) ?_; dsimp only); refine goesL_ (some 40) rfl rfl Tryd.func23 (by kernel_rfl) rfl #[.pointer none] rfl (by (try simp only [List.map_toArray, List.map_cons, List.map_nil]); first | done | rfl) ?_; refine (len_nil w8).mono ?_; rintro r' w9 ⟨rfl, rfl⟩; refine ⟨_, rfl, ?_⟩; simp only [Act.put, sa_, sz_, ss_]; skip)
      | ((with_reducible refine gate_callee (f := 32) rfl ?_); (refine gate_guard (by rfl) ?_; dsimp only); refine goesL_ (some 45) rfl rfl Tryd.func32 (by kernel_rfl) rfl #[.pointer none] rfl (by (try simp only [List.map_toArray, List.map_cons, List.map_nil]); first | done | rfl) ?_; refine (sealed_nil w9).mono ?_; rintro r' w10 ⟨rfl, rfl⟩; refine ⟨_, rfl, ?_⟩; simp only [Act.put, sa_, sz_, ss_]; skip)
      | ((with_reducible refine gate_callee (f := 33) rfl ?_); (refine gate_guard (by rfl) ?_; dsimp only); refine goesL_ (some 50) rfl rfl Tryd.func33 (by kernel_rfl) rfl #[.pointer none] rfl (by (try simp only [List.map_toArray, List.map_cons, List.map_nil]); first | done | rfl) ?_; refine (keys_nil w10).mono ?_; rintro r' w11 ⟨rfl, rfl⟩; refine ⟨_, rfl, ?_⟩; simp only [Act.put, sa_, sz_, ss_]; skip)
      | ((with_reducible refine gate_callee (f := 35) rfl ?_); (refine gate_guard (by rfl) ?_; dsimp only); refine goesL_ (some 56) rfl rfl Tryd.func35 (by kernel_rfl) rfl #[.pointer none] rfl (by (try simp only [List.map_toArray, List.map_cons, List.map_nil]); first | done | rfl) ?_; refine (longest_nil w11).mono ?_; rintro r' w12 ⟨rfl, rfl⟩; refine ⟨_, rfl, ?_⟩; simp only [Act.put, sa_, sz_, ss_]; skip)
      | ((with_reducible refine gate_callee (f := 18) rfl ?_); (refine gate_guard (by rfl) ?_; dsimp only); refine goesL_ (some 60) rfl rfl Tryd.func18 (by kernel_rfl) rfl #[] rfl (by (try simp only [List.map_toArray, List.map_cons, List.map_nil]); first | done | rfl) ?_; refine (live_any w12 (HT.out.below B8.out)).mono ?_; rintro r' w13 ⟨rfl, b13⟩; refine ⟨_, rfl, ?_⟩; simp only [Act.put, sa_, sz_, ss_]; have B13 := Lib.hid (below_step B8.out b13); clear b13))
    go_ret
    exact ⟨rfl, B13.out⟩
  · go_enter Tryd.func7, Tryd.ntmps7
    go_wp2_with (first
      | ((with_reducible refine gate_dst (N := 7) rfl ?_); refine Kd.N_lit (Kd.slice 23 k23) _ 24 ?hg (N' := 7) ?hd (xs := ([key] : List (List S23))) (inner := [.slice A key.length c]) (ok := fun _ => True) (okp := fun _ => True) ?hr ?hp (fun _ hk => hk) trivial (Below.refl _ _) (Nat.le_refl _) (by simp) ?_; (case hd => rfl); (case hg => rfl); (case hr => first | (go_simp; done) | (go_simp; rfl)); (case hp => exact Reps.one (show Kd.FK (Kd.slice 23 k23) _ _ key [.slice A key.length c] from fun W' hW => ⟨A, c, rfl, HC.out, HF.out W' hW⟩) (Reps.none _ _)); intro v_ w1 hr_ hb_ hg_ hn_; clear hg_ hn_; obtain ⟨A1, c1, hv_, hl_, hC_⟩ := Kd.N_reads hr_; subst hv_; have R1 := Lib.hid (And.intro hC_ hl_); have B1 := Lib.hid hb_; clear hr_ hb_ hC_ hl_; simp only [Act.put, sa_, sz_, ss_])
      | ((with_reducible refine gate_callee (f := 11) rfl ?_); refine goesL_ (some 8) rfl rfl Tryd.func11 (by kernel_rfl) rfl #[.slice A1 [key].length c1] rfl (by (try simp only [List.map_toArray, List.map_cons, List.map_nil]); first | done | rfl) ?_; refine (r04_Much.calls 3000 A1 c1 [key] true w1 R1.out.1 R1.out.2 HM.out).mono ?_; rintro r' w2 ⟨rfl, d2⟩; refine ⟨_, rfl, ?_⟩; simp only [Act.put, sa_, sz_, ss_]; have B2 := Lib.hid (below_step B1.out (dr_below d2)); clear d2)
      | ((with_reducible refine gate_callee (f := 18) rfl ?_); refine goesL_ (some 9) rfl rfl Tryd.func18 (by kernel_rfl) rfl #[] rfl (by (try simp only [List.map_toArray, List.map_cons, List.map_nil]); first | done | rfl) ?_; refine (live_any w2 (HT.out.below B2.out)).mono ?_; rintro r' w3 ⟨rfl, b3⟩; refine ⟨_, rfl, ?_⟩; simp only [Act.put, sa_, sz_, ss_]; have B3 := Lib.hid (below_step B2.out b3); clear b3))
    go_ret
    exact ⟨rfl, B3.out⟩
#print axioms nils_any
end Go.Proofs.YtcfgjaggccnoaaaDoor.PTableSteps
namespace Go.Proofs.YtcfgjaggccnoaaaDoor.Open
open Go.RowKit Go.Proofs.YtcfgjaggccnoaaaDoorW.PrintWords
structure Opens {α : Type} (P : Program) (t : TypeId) (K : Kd α) (wf : α → Prop) (n : Nat) : Prop where
  opened : ∀ {H : Type} {enc : TypeId × Value → H} {w : World} {cs : List Value} {x : DataW H × List MemPlace},
    DataW.trod enc P w 0 (fun _ => true) true n t cs = some x → (x.1.weights P t).all (· ≤ reachBytes) = true → ∃ y, K.K w y cs ∧ wf y
structure OpensF {α : Type} (P : Program) (fs : List Field) (off : Nat) (K : Kd α) (wf : α → Prop) (n : Nat) : Prop where
  opened : ∀ {H : Type} {enc : TypeId × Value → H} {w : World} {cs : List Value} {xs : List (DataW H × List MemPlace)},
    off + K.sz ≤ cs.length → xs.length = fs.length →
    (∀ (i : Nat) (f : Field), fs[i]? = some f → DataW.trod enc P w 0 (fun _ => true) true n f.type ((cs.drop f.offset).take (P.cellsOf f.type)) = xs[i]?) →
    (DataW.weightsEach P (fs.map (·.type)) (xs.map (·.1))).all (· ≤ reachBytes) = true → ∃ y, K.K w y ((cs.drop off).take K.sz) ∧ wf y
theorem opens_int {P : Program} {t : TypeId} {k : IntKind} (ht : P.underlying t = some (.int k)) (n : Nat) : Opens P t (Kd.int k) (fun x => (Lit.int k x).wf = true) n := by
  refine ⟨?_⟩
  intro H enc w cs x h _
  obtain ⟨m, rfl, _, hw⟩ := DataW.trod_int ht h
  exact ⟨m, rfl, hw⟩
theorem opens_string {P : Program} {t : TypeId} (ht : P.underlying t = some .string) (n : Nat) : Opens P t Kd.string (fun s => s.size ≤ 140737488351232) n := by
  refine ⟨?_⟩
  intro H enc w cs x h hs
  obtain ⟨s, rfl, rfl, _⟩ := DataW.trod_string ht h
  refine ⟨s, rfl, ?_⟩
  have := List.all_eq_true.1 hs s.data.toList.length (by simp [DataW.weights])
  have h2 : s.data.toList.length ≤ reachBytes := by simpa using this
  rw [Array.length_toList] at h2
  exact h2
theorem weights_all {H : Type} {P : Program} {e : TypeId} : ∀ {l : List (DataW H)}, (DataW.weightsAll P e l).all (· ≤ reachBytes) = true → ∀ d ∈ l, (d.weights P e).all (· ≤ reachBytes) = true
  | [], _, d, hd => by cases hd
  | a :: r, h, d, hd => by
    simp only [DataW.weightsAll, List.all_append, Bool.and_eq_true] at h
    rcases List.mem_cons.1 hd with rfl | hd
    · exact h.1
    · exact weights_all h.2 d hd
theorem list_of {α β : Type} (R : α → β → Prop) : ∀ (xs : List α), (∀ x ∈ xs, ∃ y, R x y) → ∃ ys : List β, ys.length = xs.length ∧ ∀ (i : Nat) (x : α), xs[i]? = some x → ∃ y, ys[i]? = some y ∧ R x y
  | [], _ => ⟨[], rfl, by simp⟩
  | a :: r, h => by
    obtain ⟨y, hy⟩ := h a (by simp)
    obtain ⟨ys, hl, hr⟩ := list_of R r (fun x hx => h x (by simp [hx]))
    refine ⟨y :: ys, by simp [hl], ?_⟩
    intro i x hx
    cases i with
    | zero => simp at hx; subst hx; exact ⟨y, by simp, hy⟩
    | succ i => simp at hx; simpa using hr i x hx
theorem opens_slice {α : Type} {P : Program} {t e : TypeId} {K : Kd α} {wf : α → Prop} {B : Nat} (ht : P.underlying t = some (.slice e)) (hc : P.cellsOf e = K.sz) (hB : P.bytesOf e = B) (n : Nat) (he : Opens P e K wf n) :
    Opens P t (Kd.slice e K) (fun l => l.length * B ≤ 140737488351232 ∧ ∀ x ∈ l, wf x) (n + 1) := by
  refine ⟨?_⟩
  intro H enc w cs x h hs
  rcases DataW.trod_slice ht h with ⟨rfl, _⟩ | ⟨a, len, cap, elems, rest, m, hm, rfl, rfl, hb, hl, hcap, hlen, hel, _, _⟩
  · exact ⟨[], ⟨none, 0, rfl, by simp, rfl, by simp, by simp⟩, by simp, by simp⟩
  · obtain rfl : n = m := by omega
    simp only [DataW.weights, ht] at hs
    have hs2 : (elems.length + rest.length) * B ≤ 140737488351232 ∧ (DataW.weightsAll P e (elems.map (·.1))).all (· ≤ reachBytes) = true := by
      rw [List.all_cons, List.all_append] at hs
      simp only [Bool.and_eq_true, decide_eq_true_eq, List.length_map] at hs
      rw [hB] at hs
      exact ⟨hs.1, hs.2.1⟩
    have each : ∀ (i : Nat) (y : DataW H × List MemPlace), elems[i]? = some y → ∃ cs, (w.cells? 0 (a.add (i * K.sz)) K.sz) = some cs ∧ ∃ z, K.K w z cs ∧ wf z := by
      intro i y hy
      have hi : i < len := by
        have := (List.getElem?_eq_some_iff.1 hy).1
        omega
      have h1 := hel i hi
      rw [hy, hc, Option.bind_eq_some_iff] at h1
      obtain ⟨c, hcs, h2⟩ := h1
      have hw := weights_all hs2.2 y.1 (List.mem_map_of_mem (List.mem_of_getElem? hy))
      exact ⟨c, hcs, he.opened h2 hw⟩
    obtain ⟨ys, hyl, hys⟩ := list_of (fun (i : Nat) (z : α) => ∃ cs, (w.cells? 0 (a.add (i * K.sz)) K.sz) = some cs ∧ K.K w z cs ∧ wf z) (List.range len) (by
      intro i hi
      have hi2 : i < elems.length := by rw [hlen]; exact List.mem_range.1 hi
      obtain ⟨c, h1, z, h2, h3⟩ := each i elems[i] (List.getElem?_eq_getElem hi2)
      exact ⟨z, c, h1, h2, h3⟩)
    rw [List.length_range] at hyl
    have got : ∀ (j : Nat) (p : α), ys[j]? = some p → ∃ cs, (w.cells? 0 (a.add (j * K.sz)) K.sz) = some cs ∧ K.K w p cs ∧ wf p := by
      intro j p hp
      have hj : j < len := by
        have := (List.getElem?_eq_some_iff.1 hp).1
        omega
      obtain ⟨q, hq, hR⟩ := hys j j (by rw [List.getElem?_range hj])
      rw [hp] at hq
      obtain rfl := Option.some.inj hq
      exact hR
    refine ⟨ys, ⟨some a, cap, by rw [hyl], by omega, hyl ▸ rfl, ?_, ?_⟩, ?_, ?_⟩
    · unfold maxLen at hcap
      omega
    · intro _
      refine ⟨a, rfl, ?_⟩
      intro j p hp
      obtain ⟨c, h1, h2, _⟩ := got j p hp
      obtain ⟨_, hl2, hcell⟩ := _root_.Go.World.cells?_some h1
      refine ⟨c, hl2, h2, ?_⟩
      intro i u hu
      have hi : i < K.sz := by
        have := (List.getElem?_eq_some_iff.1 hu).1
        omega
      have := hcell i hi
      rw [Addr.add_add] at this
      rw [this, hu]
    · have : len * B ≤ (elems.length + rest.length) * B := Nat.mul_le_mul_right _ (by omega)
      rw [hyl]
      omega
    · intro x hx
      obtain ⟨j, hj⟩ := List.getElem?_of_mem hx
      obtain ⟨_, _, _, h3⟩ := got j x hj
      exact h3
theorem opensF_one {α : Type} {P : Program} {f : Field} {off : Nat} {K : Kd α} {wf : α → Prop} (ho : f.offset = off) (hc : P.cellsOf f.type = K.sz) (n : Nat) (h : Opens P f.type K wf n) : OpensF P [f] off K wf n := by
  refine ⟨?_⟩
  intro H enc w cs xs _ hx ht hs
  match xs, hx with
  | [y], _ =>
    have := ht 0 f rfl
    rw [ho, hc] at this
    simp only [List.map_cons, List.map_nil, DataW.weightsEach, List.append_nil] at hs
    exact h.opened this hs
theorem opensF_cons {α β : Type} {P : Program} {f : Field} {fs : List Field} {off : Nat} {K : Kd α} {L : Kd β} {wf : α → Prop} {wg : β → Prop} (ho : f.offset = off) (hc : P.cellsOf f.type = K.sz) (n : Nat) (h : Opens P f.type K wf n)
    (r : OpensF P fs (off + K.sz) L wg n) : OpensF P (f :: fs) off (Kd.pair K L) (fun x => wf x.1 ∧ wg x.2) n := by
  refine ⟨?_⟩
  intro H enc w cs xs hl hx ht hs
  have hsz : (Kd.pair K L).sz = K.sz + L.sz := rfl
  rw [hsz] at hl
  match xs, hx with
  | y :: ys, hx =>
    have h0 := ht 0 f rfl
    rw [ho, hc] at h0
    simp only [List.map_cons, DataW.weightsEach, List.all_append, Bool.and_eq_true] at hs
    obtain ⟨a, ha, wa⟩ := h.opened h0 hs.1
    obtain ⟨b, hb, wb⟩ := r.opened (cs := cs) (xs := ys) (by omega) (by simpa using hx) (fun i g hg => by simpa using ht (i + 1) g (by simpa using hg)) hs.2
    refine ⟨(a, b), ⟨_, _, ?_, ha, hb⟩, wa, wb⟩
    rw [hsz, List.take_add, List.drop_drop]
theorem opens_struct {α β : Type} {P : Program} {t : TypeId} {fs : Array Field} {L : Kd β} {wf : β → Prop} (g : α → β) (gi : β → α) (hg : ∀ b, g (gi b) = b) (ht : P.underlying t = some (.struct fs)) (hc : P.cellsOf t = L.sz) (n : Nat)
    (h : OpensF P fs.toList 0 L wf n) : Opens P t (Kd.iso L g) (fun x => wf (g x)) (n + 1) := by
  refine ⟨?_⟩
  intro H enc w cs x hx hs
  obtain ⟨xs, m, hm, rfl, hl, hlen, hf⟩ := DataW.trod_struct ht hx
  obtain rfl : n = m := by omega
  simp only [DataW.weights, ht] at hs
  obtain ⟨b, hb, wb⟩ := h.opened (cs := cs) (xs := xs) (by rw [hl, hc]; omega) (by simpa using hlen) (fun i f hfi => hf i f (by simpa using hfi)) hs
  have e : (cs.drop 0).take L.sz = cs := by rw [List.drop_zero, List.take_of_length_le (by omega)]
  rw [e] at hb
  refine ⟨gi b, ?_, by show wf (g (gi b)); rw [hg]; exact wb⟩
  show L.K w (g (gi b)) cs
  rw [hg]
  exact hb
theorem Opens.imp {α : Type} {P : Program} {t : TypeId} {K L : Kd α} {wf wg : α → Prop} {n : Nat} (h : Opens P t K wf n) (hk : ∀ w x cs, K.K w x cs → L.K w x cs) (hi : ∀ x, wf x → wg x) : Opens P t L wg n := by
  refine ⟨?_⟩
  intro H enc w cs x hx hs
  obtain ⟨y, h1, h2⟩ := h.opened hx hs
  exact ⟨y, hk _ _ _ h1, hi _ h2⟩
theorem opens_zero {α : Type} (P : Program) (t : TypeId) (K : Kd α) (wf : α → Prop) : Opens P t K wf 0 := by
  refine ⟨?_⟩
  intro H enc w cs x h _
  simp [DataW.trod] at h
theorem opens_arg {α : Type} {P : Program} {t : TypeId} {K : Kd α} {wf : α → Prop} (h : ∀ n, Opens P t K wf n) {H : Type} {enc : TypeId × Value → H} {w : World} {v : Value} {d : DataW H} {ps : List MemPlace} {ts : List TypeId} {ds : List (DataW H)} {j : Nat}
    (hsz : (DataW.weightsEach P ts ds).all (· ≤ reachBytes) = true) (hj : ts[j]? = some t) (hd : ds[j]? = some d) (hr : DataW.Trod enc P w 0 (fun _ => true) true t v d ps) : ∃ y, K.K w y v.cells.toList ∧ wf y := by
  obtain ⟨n, hn⟩ := hr
  refine (h n).opened hn ?_
  rw [List.all_eq_true]
  intro m hm
  exact List.all_eq_true.1 hsz m (DataW.weights_mem_each hj hd m hm)
end Go.Proofs.YtcfgjaggccnoaaaDoor.Open
namespace Go.Proofs.YtcfgjaggccnoaaaDoor.PTableSteps
open Go.RowKit Go.Proofs.YtcfgjaggccnoaaaDoorW.PrintWords Go.Proofs.YtcfgjaggccnoaaaDoorW.PrintLast Go.Proofs.YtcfgjaggccnoaaaDoorW.PrintMore
attribute [local go_sem] max2_int min2_int max_two min_two max_three min_three max_four min_four
set_option linter.unusedVariables false
set_option linter.unusedSimpArgs false
set_option maxRecDepth 100000
set_option maxHeartbeats 4000000
theorem k23_heap : Kd.Heap k23 := Kd.heap_iso _ (Kd.heap_pair (Kd.heap_int .i64) (Kd.heap_pair (Kd.heap_int .i64) Kd.heap_string))
def Wf23 (x : S23) : Prop := (Lit.int .i64 x.f0).wf = true ∧ (Lit.int .i64 x.f1).wf = true ∧ x.f2.size ≤ 140737488351232
theorem opens23 : ∀ n, Open.Opens Tryd.prog 23 k23 Wf23 n
  | 0 => Open.opens_zero _ _ _ _
  | n + 1 => (Open.opens_struct (t := 23) (L := (Kd.pair (Kd.int .i64) (Kd.pair (Kd.int .i64) Kd.string))) (fun x : S23 => (x.f0, x.f1, x.f2)) (fun b => (⟨b.1, b.2.1, b.2.2⟩ : S23)) (fun _ => rfl) Tryd.underlying23 (by kernel_rfl) n (Open.opensF_cons rfl (by kernel_rfl) n ((Open.opens_int Tryd.underlying3) n) (Open.opensF_cons rfl (by kernel_rfl) n ((Open.opens_int Tryd.underlying3) n) (Open.opensF_one rfl (by kernel_rfl) n ((Open.opens_string Tryd.underlying9) n))))).imp (fun _ _ _ h => h) (fun _ h => h)
end Go.Proofs.YtcfgjaggccnoaaaDoor.PTableSteps
